/- Lemmas for FnExactDeskDo. -/
import Derived.Test.YtbgpppaljpngmaaGreatDoorMFnExactDeskDo5
import Derived.Laws.StructEq
import Derived.Tactics
import Derived.Tactics2
namespace Go.Proofs.YtbgpppaljpngmaaGreatDoor
open Go.Hs
set_option maxRecDepth 10000
set_option maxHeartbeats 4000000
set_option linter.unusedVariables false
set_option linter.unusedSimpArgs false
theorem spec_ReadPicture_ok (w:World) (s:List UInt8) (hs:s.length≤1048576):Does Tryz.prog 122 [str s] w (RetOB w XR ((rdP s).getD []) (rdP s).isSome):=by
 obtain ⟨ps,hps⟩ : ∃ ps,ps=cutB 47 s:=⟨_,rfl⟩
 have k1 : ∀ w,Does Tryz.prog 70 [str s,.int .u8 47] w (RetO w XS ps):=fun w=>hps ▸ l1Cut_ok w s 47 hs
 have hpl:ps.length≤1048577:=by rw [hps,cutB_len];have:=List.count_le_length (a:=(47:UInt8)) (l:=s);omega
 have hpe : ∀ (k:Nat) (hk:k < ps.length),ps[k].length≤1048576:=fun k hk=>by
  have:ps[k] ∈ cutB 47 s:=hps ▸ List.getElem_mem hk
  have:=cutB_mem_len s.length s (Nat.le_refl _) _ this;omega
 refine fn_of_W2 Tryz.func122 rfl Tryz.results122 Tryz.ntmps122 rfl ?_
 focus
  refine Ke <| Kc rfl <| Wo rfl (Kb (v:=.slice _ _ _) rfl) <| Wo rfl (Kb (v:=.bool _) rfl) <| Kd <| Ke <| Kc rfl ?_
  refine Js (XSl 3 XInt) rfl el23 Tryz.sizeOf88 ?_;rintro b1 w1 hb1 b1lt E1 hO1;have hs1:=E1.size;refine Wo rfl (Kb (v:=.slice _ _ _) rfl) <| Kd <| Ke <| Kc rfl ?_
  refine Wo rfl (Ka (v:=.string _) rfl) <| Kj rfl (Jn (a:=.string _) (b:=.int _ _) Tryz.call70 rfl rfl) (k1 _) ?_;rintro u1 w2 ⟨E2,hO2⟩;have hs2:=E2.size;refine Wo rfl (Kb (v:=u1) rfl) ?_
  refine Kd <| Ke <| Ke <| Kc rfl <| Wo rfl (Kb (v:=.int _ _) rfl) <| Kd <| Kr ?_
 have hBe:Besides (Value.ownBlock (.slice (some ⟨b1,0,none⟩) 0 0)) Strs w2 u1 ps:=Besides.start hO1 hO2.above
 refine Jh [2,3,4,6,7,8,9,13,14,15,16,17,18,19,20,21,22,23,24,25,26,27,28,29,30,31,32,33,34,35,36,37,38,39,40,41,42,43,44,45,46,47,48,49,50,51,52] (fun (k,u)=>[(6,.int .i64 (k:Nat)),(4,u)]) (fun (k,u) w'=>Ext w w'∧k≤ps.length∧Owned w.heap.size XR w' u ((ps.take k).map (rowB ps.length))∧Besides u.ownBlock Strs w' u1 ps∧∀ x ∈ ps.take k,inR ps.length x) (fun x=>ps.length - x.1) (0,.slice (some ⟨b1,0,none⟩) 0 0) (by repeat (first | exact trivial | refine And.intro rfl ?_)) ?_ ?_
 ·exact ⟨E1.trans E2,Nat.zero_le _,hO1.ext E2,hBe,by simp⟩
 clear hO1 hO2 hBe
 rintro ⟨k,u⟩ ρj w3 ⟨E3,hk,hO3,hBe,hin⟩
 by_cases hkl:k < ps.length
 ·have hpk:=hpe k hkl
  focus
   have szE3:=E3.size;have szE2:=E2.size;have szE1:=E1.size;refine Ke <| Ke <| Kc rfl <| Wo rfl (Ka (v:=.int _ _) rfl) <| Wo rfl (Ka (v:=u1) rfl) ?_
   refine Wo rfl (Ko Tryz.underlying34 rfl (Besides.here hBe)) <| Wo rfl (Ks rfl rfl) <| Kd <| Kg rfl (fun h1=>?_) (fun h1=>?_);refine Kt ?_;refine Ke <| Kr ?_
   refine Ke <| Kc rfl <| Wo rfl (Ka (v:=u1) rfl) <| Wo rfl (Ko Tryz.underlying34 rfl (Besides.here hBe)) <| Wo_makeI rfl el88 rfl (by omega) ?_;rintro b2 w4 hb2 b2lt E4 hO1
   have hs3:=E4.size;refine Wo rfl (Kb (v:=.slice _ _ _) rfl) <| Kd <| Ke <| Ke <| Kc rfl <| Wo rfl (Kb (v:=.int _ _) rfl) <| Kd ?_
   refine Kr ?_;rotate_left;(exfalso;omega)
  refine Jh [2,3,8,9,22,23,24,25,26,27,28,29,30,31,32,33,34,35,36,37,38,39,40,41,42,43,44,45,46,47,48] (fun (j:Nat)=>[(8,.int .i64 (j:Nat))]) (fun j w'=>Ext w3 w'∧j≤ps[k].length∧Owned w3.heap.size XI w' (.slice (some ⟨b2,0,none⟩) ps.length ps.length) (rowB ps.length (ps[k].take j))∧inR ps.length (ps[k].take j)) (fun j=>ps[k].length - j) 0 (by repeat (first | exact trivial | refine And.intro rfl ?_)) ?_ ?_
  ·refine ⟨by assumption,Nat.zero_le _,?_,fun c hc=>by cases hc⟩
   rw [List.take_zero,rowB_nil]
   simpa using hO1
  clear hO1
  rintro j ρk w5 ⟨E5,hj,hO5,hir⟩
  have hrl:(rowB ps.length (ps[k].take j)).length=ps.length:=rowB_len
  by_cases hjl:j < ps[k].length
  ·have hc8:(ps[k].getD j 0).toNat < 256:=UInt8.toNat_lt _
   have hcd:ps[k].getD j 0=ps[k][j]:=getD_lt hjl
   have hts:ps[k].take (j+1)=ps[k].take j++[ps[k].getD j 0]:=by rw [hcd];exact List.take_succ_eq_append_getElem hjl
   have hmem:ps[k] ∈ cutB 47 s:=hps ▸ List.getElem_mem hkl
   have hnl:(ps.length:Int)=(cutB 47 s).length:=by rw [hps]
   by_cases hr:48≤(ps[k].getD j 0).toNat∧(ps[k].getD j 0).toNat < 48+ps.length
   ·focus
     have szE5:=E5.size;have szE4:=E4.size;have szE3:=E3.size;have szE2:=E2.size;have szE1:=E1.size;refine Ke <| Ke <| Kc rfl <| Wo rfl (Ka (v:=.int _ _) rfl) ?_
     refine Wo rfl (Ka (v:=u1) rfl) <| Wo rfl (Ka (v:=.int _ _) rfl) ?_
     refine Ji Tryz.underlying34 Tryz.sizeOf9 Tryz.isAgg9 rfl (fun _=>rfl) rfl (Besides.here hBe) E5 rfl (by first | omega | (simp <;> omega)) ?_;rintro _ _ ⟨rfl,-⟩;refine Wo rfl (opv_len_str Tryz.underlying9 rfl) ?_
     refine Wo rfl (Ks rfl rfl) <| Kd <| Kg rfl (fun h2=>?_) (fun h2=>?_);refine Kt ?_;refine Ke <| Kr <| Ke <| Kc rfl ?_
     refine Wo rfl (Ka (v:=u1) rfl) <| Wo rfl (Ka (v:=.int _ _) rfl) ?_
     refine Ji Tryz.underlying34 Tryz.sizeOf9 Tryz.isAgg9 rfl (fun _=>rfl) rfl (Besides.here hBe) E5 rfl (by first | omega | (simp <;> omega)) ?_;rintro _ _ ⟨rfl,-⟩;refine Wo rfl (Ka (v:=.int _ _) rfl) ?_
     refine Wo rfl (opv_index_str Tryz.underlying9 rfl rfl (by omega)) ?_;refine Wo rfl (opv_conv_int Tryz.underlying5 Tryz.underlying3 rfl (by omega)) ?_;refine Wo rfl (opv_sub rfl rfl (by omega)) ?_
     refine Wo rfl (Kb (v:=.int _ _) rfl) <| Kd <| Ke <| Ke <| Kc rfl <| Wo rfl (Ka (v:=.int _ _) rfl) <| Wo rfl (Ka (v:=u1) rfl) ?_
     refine Wo rfl (Ko Tryz.underlying34 rfl (Besides.here hBe)) <| Wo rfl (opv_sub rfl rfl (by omega)) ?_
     refine Kj rfl (opc3 (a:=.int _ _) (b:=.int _ _) (c:=.int _ _) Tryz.call116 rfl rfl rfl) (l1In_ok _ _ _ _) ?_;rintro _ w6 ⟨rfl,E6⟩;have hs4:=E6.size;refine Wo rfl (Jf rfl) <| Kd ?_
     refine Jj rfl (fun h3=>?_) (fun h3=>?_);(exfalso;omega);refine Kt ?_;refine Kc rfl <| Wo rfl (Ka (v:=.slice _ _ _) rfl) <| Wo rfl (Ka (v:=.int _ _) rfl) ?_
     refine Wo rfl (opv_indexAddr_z Tryz.underlying88 Tryz.sizeOf3 rfl rfl (by omega)) ?_;refine Wo_set rfl Tryz.sizeOf3 rfl rfl (hO5.toB.ext E6) (by first | omega | (simp <;> omega)) Owned.int (Nat.le_refl _) (by omega) ?_
     rintro w7 hO5 On1 K1 hz1;have E7:=On1.ext1 ((E3.trans E5).trans E6) (by omega);have E8:=On1.ext1 (E5.trans E6) (by omega);have szE8:=E8.size;have hO3:=(hO3.toB.ext (E5.trans E6)).wrote K1 (by omega);have hs5:=On1.size
     refine Kd <| Kc rfl <| Wo rfl (Ka (v:=.int _ _) rfl) <| Wo rfl (Kw rfl rfl (by omega)) ?_;refine Wo rfl (Kb (v:=.int _ _) rfl) <| Kd ?_;rotate_left
     (exfalso;omega)
    ·refine ⟨(j+1),by repeat (first | exact trivial | refine And.intro rfl ?_),by repeat (first | with_reducible exact Same.refl | refine Same.upd rfl ?_ | refine Same.upds rfl ?_ | refine Same.mix rfl ?_),?_,?_⟩
     ·refine ⟨by assumption,by omega,?_,?_⟩
      ·rw [rowB_set (c:=ps[k].getD j 0) (by omega) (by omega),← hts] at hO5
       exact hO5
      ·rw [hts]
       intro c hc
       rcases List.mem_append.1 hc with hc | hc
       ·exact hir c hc
       ·obtain rfl:=List.mem_singleton.1 hc;exact hr
     ·omega
    all_goals omega
   ·rw [rd_no1 hmem (List.getElem_mem hjl) (fun h=>hr (by rw [hcd];omega))]
    focus
     have szE5:=E5.size;have szE4:=E4.size;have szE3:=E3.size;have szE2:=E2.size;have szE1:=E1.size;refine Ke <| Ke <| Kc rfl <| Wo rfl (Ka (v:=.int _ _) rfl) ?_
     refine Wo rfl (Ka (v:=u1) rfl) <| Wo rfl (Ka (v:=.int _ _) rfl) ?_
     refine Ji Tryz.underlying34 Tryz.sizeOf9 Tryz.isAgg9 rfl (fun _=>rfl) rfl (Besides.here hBe) E5 rfl (by first | omega | (simp <;> omega)) ?_;rintro _ _ ⟨rfl,-⟩;refine Wo rfl (opv_len_str Tryz.underlying9 rfl) ?_
     refine Wo rfl (Ks rfl rfl) <| Kd <| Kg rfl (fun h2=>?_) (fun h2=>?_);refine Kt ?_;refine Ke <| Kr <| Ke <| Kc rfl ?_
     refine Wo rfl (Ka (v:=u1) rfl) <| Wo rfl (Ka (v:=.int _ _) rfl) ?_
     refine Ji Tryz.underlying34 Tryz.sizeOf9 Tryz.isAgg9 rfl (fun _=>rfl) rfl (Besides.here hBe) E5 rfl (by first | omega | (simp <;> omega)) ?_;rintro _ _ ⟨rfl,-⟩;refine Wo rfl (Ka (v:=.int _ _) rfl) ?_
     refine Wo rfl (opv_index_str Tryz.underlying9 rfl rfl (by omega)) ?_;refine Wo rfl (opv_conv_int Tryz.underlying5 Tryz.underlying3 rfl (by omega)) ?_;refine Wo rfl (opv_sub rfl rfl (by omega)) ?_
     refine Wo rfl (Kb (v:=.int _ _) rfl) <| Kd <| Ke <| Ke <| Kc rfl <| Wo rfl (Ka (v:=.int _ _) rfl) <| Wo rfl (Ka (v:=u1) rfl) ?_
     refine Wo rfl (Ko Tryz.underlying34 rfl (Besides.here hBe)) <| Wo rfl (opv_sub rfl rfl (by omega)) ?_
     refine Kj rfl (opc3 (a:=.int _ _) (b:=.int _ _) (c:=.int _ _) Tryz.call116 rfl rfl rfl) (l1In_ok _ _ _ _) ?_;rintro _ w6 ⟨rfl,E6⟩;have hs4:=E6.size;refine Wo rfl (Jf rfl) <| Kd ?_
     refine Jj rfl (fun h3=>?_) (fun h3=>?_);refine Ke <| Kc rfl <| Js (XSl 3 XInt) rfl el23 Tryz.sizeOf88 ?_;rintro b3 w7 hb3 b3lt E7 hO1;have hs5:=E7.size
     refine Wo rfl (Kb (v:=.slice _ _ _) rfl) <| Wo rfl (Kb (v:=.bool _) rfl) <| Kd <| Ja ?_;refine at_ret (v:=.tuple #[.slice _ _ _,.bool _]) rfl ?_
     exact ⟨_,rfl,(((E3.trans E5).trans E6).trans E7),hO1.toB.o.mono (by omega)⟩;(exfalso;omega);(exfalso;omega)
    all_goals omega
  ·obtain rfl:j=ps[k].length:=by omega
   rw [List.take_length] at hO5 hir
   focus
    have szE5:=E5.size;have szE4:=E4.size;have szE3:=E3.size;have szE2:=E2.size;have szE1:=E1.size;refine Ke <| Ke <| Kc rfl <| Wo rfl (Ka (v:=.int _ _) rfl) ?_
    refine Wo rfl (Ka (v:=u1) rfl) <| Wo rfl (Ka (v:=.int _ _) rfl) ?_
    refine Ji Tryz.underlying34 Tryz.sizeOf9 Tryz.isAgg9 rfl (fun _=>rfl) rfl (Besides.here hBe) E5 rfl (by first | omega | (simp <;> omega)) ?_;rintro _ _ ⟨rfl,-⟩;refine Wo rfl (opv_len_str Tryz.underlying9 rfl) ?_
    refine Wo rfl (Ks rfl rfl) <| Kd <| Kg rfl (fun h2=>?_) (fun h2=>?_);(exfalso;omega);refine Jg ?_;refine exitX_same ?_;refine Kc rfl <| Wo rfl (Ka (v:=u) rfl) ?_
    refine Wo rfl (Ka (v:=.slice _ _ _) rfl) <| Ju (ps:=[(0,.slice _ _ _)]) (cs:=[_]) rfl Tryz.underlying23 Tryz.sizeOf88 Tryz.zeroValue88 rfl rfl rfl rfl ?_;rintro b3 w6 hb3 E6 hB1;have hlb3:=hB1.lt
    have hs4:=E6.size;refine Jv rfl el23 rfl rfl hB1 (hO3.toB.ext (E5.trans E6)) (hO5.toB.ext E6).o (by omega) (by first | omega | (simp <;> omega)) (by omega) (by omega) ((E3.trans E5).trans E6) (by omega) ?_
    have hT1:=(hO3.toB.ext (E5.trans E6));rintro v1 w7 hO3 E7 M1;have hBe:=(hBe.ext (E5.trans E6)).moves M1;have hO5:=(hO5.toB.ext E6).moves M1 hT1 (by omega);have hB1:=hB1.moves M1 hT1 (by omega);have hs5:=E7.size
    refine Wo rfl (Kb (v:=v1) rfl) <| Kd <| Kc rfl <| Wo rfl (Ka (v:=.int _ _) rfl) <| Wo rfl (Kw rfl rfl (by omega)) ?_;refine Wo rfl (Kb (v:=.int _ _) rfl) ?_
    refine Kd ?_
   refine ⟨((k+1,v1)),by repeat (first | exact trivial | refine And.intro rfl ?_),by repeat (first | with_reducible exact Same.refl | refine Same.upd rfl ?_ | refine Same.upds rfl ?_ | refine Same.mix rfl ?_),?_,?_⟩
   ·have hts:ps.take (k+1)=ps.take k++[ps[k]]:=List.take_succ_eq_append_getElem hkl
    refine ⟨by assumption,by omega,?_,by assumption,?_⟩
    ·rw [hts,List.map_append];exact hO3
    ·rw [hts]
     intro x hx
     rcases List.mem_append.1 hx with hx | hx
     ·exact hin x hx
     ·obtain rfl:=List.mem_singleton.1 hx;exact hir
   ·simp only;omega
 ·obtain rfl:k=ps.length:=by omega
  have eM:ps.map (rowB ps.length)=rdM s:=by rw [hps];rfl
  rw [List.take_length,eM] at hO3
  clear k1
  by_cases hP:Pic (rdM s)
  ·by_cases hT:txt (rdM s)=s
   ·rw [rd_yes hP hT]
    have k2 : ∀ w v,ESl Ints w v (rdM s)→Does Tryz.prog 115 [v] w (Ret w (.bool true)):=fun w v h=>by
     have:=PictureOk_ok w v _ h
     rwa [decide_eq_true hP] at this
    have k3 : ∀ w v,ESl Ints w v (rdM s)→Does Tryz.prog 62 [v] w (Ret w (str s)):=fun w v h=>by
     have:=PictureText_ok w v _ h
     rwa [if_pos hP,hT] at this
    focus
     have szE3:=E3.size;have szE2:=E2.size;have szE1:=E1.size;refine Ke <| Ke <| Kc rfl <| Wo rfl (Ka (v:=.int _ _) rfl) <| Wo rfl (Ka (v:=u1) rfl) ?_
     refine Wo rfl (Ko Tryz.underlying34 rfl (Besides.here hBe)) <| Wo rfl (Ks rfl rfl) <| Kd <| Kg rfl (fun h1=>?_) (fun h1=>?_);(exfalso;omega);refine Jg ?_;refine exitX_same ?_
     refine Ke <| Ke <| Kc rfl <| Wo rfl (Ka (v:=u) rfl) <| Kj rfl (Jk (a:=u) Tryz.call115 rfl) (k2 _ _ ((Owned.read hO3))) ?_;rintro _ w4 ⟨rfl,E4⟩;have hs3:=E4.size
     refine Wo rfl (Jf rfl) <| Jy rfl (Ka (v:=.bool _) rfl) (fun h2=>?_) (fun h2=>?_);contradiction;refine Wo rfl (Ka (v:=u) rfl) ?_
     refine Kj rfl (Jk (a:=u) Tryz.call62 rfl) (k3 _ _ ((Mono.mono E4 (Owned.read hO3)))) ?_;rintro _ w5 ⟨rfl,E5⟩;have hs4:=E5.size;refine Wo rfl (Ka (v:=.string _) rfl) <| Wo rfl (opv_neq_str rfl rfl) ?_
     refine Wo rfl (Kn (v:=.bool _) rfl rfl) <| Kd <| Jj rfl (fun h3=>?_) (fun h3=>?_);contradiction;refine Kt ?_;refine Ke <| Kc rfl ?_
     refine Wo rfl (Ka (v:=u) rfl) <| Wo rfl (Kb (v:=u) rfl) <| Wo rfl (Kb (v:=.bool _) rfl) <| Kd <| Ja ?_;refine at_ret (v:=.tuple #[u,.bool _]) rfl ?_
     exact ⟨_,rfl,((E3.trans E4).trans E5),(hO3.toB.ext (E4.trans E5)).o.mono (by omega)⟩
   ·rw [rd_no3 hT]
    have k2 : ∀ w v,ESl Ints w v (rdM s)→Does Tryz.prog 115 [v] w (Ret w (.bool true)):=fun w v h=>by
     have:=PictureOk_ok w v _ h
     rwa [decide_eq_true hP] at this
    have k3 : ∀ w v,ESl Ints w v (rdM s)→Does Tryz.prog 62 [v] w (Ret w (str (txt (rdM s)))):=fun w v h=>by
     have:=PictureText_ok w v _ h
     rwa [if_pos hP] at this
    focus
     have szE3:=E3.size;have szE2:=E2.size;have szE1:=E1.size;refine Ke <| Ke <| Kc rfl <| Wo rfl (Ka (v:=.int _ _) rfl) <| Wo rfl (Ka (v:=u1) rfl) ?_
     refine Wo rfl (Ko Tryz.underlying34 rfl (Besides.here hBe)) <| Wo rfl (Ks rfl rfl) <| Kd <| Kg rfl (fun h1=>?_) (fun h1=>?_);(exfalso;omega);refine Jg ?_;refine exitX_same ?_
     refine Ke <| Ke <| Kc rfl <| Wo rfl (Ka (v:=u) rfl) <| Kj rfl (Jk (a:=u) Tryz.call115 rfl) (k2 _ _ ((Owned.read hO3))) ?_;rintro _ w4 ⟨rfl,E4⟩;have hs3:=E4.size
     refine Wo rfl (Jf rfl) <| Jy rfl (Ka (v:=.bool _) rfl) (fun h2=>?_) (fun h2=>?_);contradiction;refine Wo rfl (Ka (v:=u) rfl) ?_
     refine Kj rfl (Jk (a:=u) Tryz.call62 rfl) (k3 _ _ ((Mono.mono E4 (Owned.read hO3)))) ?_;rintro _ w5 ⟨rfl,E5⟩;have hs4:=E5.size;refine Wo rfl (Ka (v:=.string _) rfl) <| Wo rfl (opv_neq_str rfl rfl) ?_
     refine Wo rfl (Kn (v:=.bool _) rfl rfl) <| Kd <| Jj rfl (fun h3=>?_) (fun h3=>?_);refine Ke <| Kc rfl <| Js (XSl 3 XInt) rfl el23 Tryz.sizeOf88 ?_
     rintro b2 w6 hb2 b2lt E6 hO1;have hs5:=E6.size;refine Wo rfl (Kb (v:=.slice _ _ _) rfl) <| Wo rfl (Kb (v:=.bool _) rfl) <| Kd <| Ja ?_
     refine at_ret (v:=.tuple #[.slice _ _ _,.bool _]) rfl ?_;exact ⟨_,rfl,(((E3.trans E4).trans E5).trans E6),hO1.toB.o.mono (by omega)⟩;contradiction
  ·rw [rd_no2 hP]
   have k2 : ∀ w v,ESl Ints w v (rdM s)→Does Tryz.prog 115 [v] w (Ret w (.bool false)):=fun w v h=>by
    have:=PictureOk_ok w v _ h
    rwa [decide_eq_false hP] at this
   focus
    have szE3:=E3.size;have szE2:=E2.size;have szE1:=E1.size;refine Ke <| Ke <| Kc rfl <| Wo rfl (Ka (v:=.int _ _) rfl) <| Wo rfl (Ka (v:=u1) rfl) ?_
    refine Wo rfl (Ko Tryz.underlying34 rfl (Besides.here hBe)) <| Wo rfl (Ks rfl rfl) <| Kd <| Kg rfl (fun h1=>?_) (fun h1=>?_);(exfalso;omega);refine Jg ?_;refine exitX_same ?_
    refine Ke <| Ke <| Kc rfl <| Wo rfl (Ka (v:=u) rfl) <| Kj rfl (Jk (a:=u) Tryz.call115 rfl) (k2 _ _ ((Owned.read hO3))) ?_;rintro _ w4 ⟨rfl,E4⟩;have hs3:=E4.size
    refine Wo rfl (Jf rfl) <| Jy rfl (Ka (v:=.bool _) rfl) (fun h2=>?_) (fun h2=>?_);refine Ki rfl <| Ki rfl <| Ki rfl <| Ki rfl ?_
    refine Wo rfl (Kz (v:=.bool _) rfl rfl) <| Kd <| Ga rfl ?_;refine Ke <| Kc rfl <| Js (XSl 3 XInt) rfl el23 Tryz.sizeOf88 ?_;rintro b2 w5 hb2 b2lt E5 hO1
    have hs4:=E5.size;refine Wo rfl (Kb (v:=.slice _ _ _) rfl) <| Wo rfl (Kb (v:=.bool _) rfl) <| Kd <| Ja ?_;refine at_ret (v:=.tuple #[.slice _ _ _,.bool _]) rfl ?_
    exact ⟨_,rfl,((E3.trans E4).trans E5),hO1.toB.o.mono (by omega)⟩;contradiction
theorem flat48:Flat Tryz.prog 48 [.int .i64 0,str [],.int .i64 0]:=⟨_,Tryz.underlying48,fun _=>by kernel_rfl,fun _=>by kernel_rfl⟩
theorem opv_eqD {ρ : Env} {w:World} {x y:Operand} {t' ty:TypeId} {k n k' n':Int} {a b:List UInt8} (hx:evalE ρ x=.agg #[.int .i64 k,str a,.int .i64 n]) (hy:evalE ρ y=.agg #[.int .i64 k',str b,.int .i64 n']) :
  OpV Tryz.prog (.binOp .eql 48 x y t') ty ρ w (.bool (decide ((⟨k,a,n⟩:Deed)=⟨k',b,n'⟩))):=by
 have u3:=Tryz.underlying3
 have a3:=Tryz.isAgg3
 have z3:=Tryz.sizeOf3
 have u9:=Tryz.underlying9
 have a9:=Tryz.isAgg9
 have z9:=Tryz.sizeOf9
 have hS:Tryz.prog.underlying 48=some (.struct (Tryz.prog.fieldsOf 48)):=by kernel_rfl
 have hp:Tryz.prog.stoodInHeld 48=false:=by kernel_rfl
 have hg:Tryz.prog.eqGuardType Tryz.prog.depth 48=false:=by kernel_rfl
 have e:((binOp .eql 48 (.agg #[.int .i64 k,str a,.int .i64 n]) (.agg #[.int .i64 k',str b,.int .i64 n'])).run Tryz.prog w)=.ok (.bool (decide ((⟨k,a,n⟩:Deed)=⟨k',b,n'⟩))) w:=by
  rw [run_eql_struct,show (10000:Nat)=9999+1 from rfl,run_equalIn_agg w 9999 48 _ _ hS hp]
  simp only [Program.fieldsOf,Tryz.underlying48]
  go_simp
  by_cases h1:k=k' <;> by_cases h2:a=b <;> by_cases h3:n=n' <;> simp [h1,h2,h3]
 simp [OpV,execOp,hx,hy,run_eqGuard_agg,hg,e]
theorem szDeed_ok (w:World) (k n:Int) (t:List UInt8) (ht:t.length≤9223372036854775807) (left:Int) (hl:0≤left∧left≤1048576) :
  Does Tryz.prog 40 [.agg #[.int .i64 k,str t,.int .i64 n],.int .i64 left] w (RetX w (Value.int .i64) (fun z _=>z = -1∨(0≤z∧z=left - t.length∧t.length≤1048576))):=by
 refine Jc Tryz.func40 rfl Tryz.results40 Tryz.ntmps40 rfl ?_
 focus
  refine Ke <| Kc rfl <| Jp rfl rfl rfl ?_;rintro b1 w1 hb1 E1 hB1;have hlb1:=hB1.lt;have hs1:=E1.size;refine Wo rfl (Kb (v:=.int _ _) rfl) <| Kd <| Ke ?_
  refine Kc rfl <| Wo rfl (Ka (v:=.int _ _) rfl) <| Wo rfl (Kf Tryz.underlying55 rfl rfl Tryz.sizeOf9 rfl) <| Wo (v:=.string _) rfl (Km Tryz.isAgg9 rfl (hB1.cell rfl)) ?_
  refine Wo rfl (opv_len_str Tryz.underlying9 rfl) <| Wo rfl (opv_sub rfl rfl (by omega)) ?_;refine Wo rfl (Kb (v:=.int _ _) rfl) <| Kd <| Ke <| Ke <| Kc rfl ?_
  refine Wo rfl (Ka (v:=.int _ _) rfl) <| Wo rfl (Ks rfl rfl) <| Kd <| Kg rfl (fun h1=>?_) (fun h1=>?_);refine Ke <| Kc rfl ?_
  refine Wo rfl (Kb (v:=.int _ _) rfl) <| Kd <| Ja ?_;refine at_ret (v:=.int _ _) rfl ?_;refine ⟨E1,_,rfl,?_⟩;(try dsimp only);rotate_left;refine Kt ?_;refine Ke ?_
  refine Kc rfl <| Wo rfl (Ka (v:=.int _ _) rfl) <| Wo rfl (Kb (v:=.int _ _) rfl) <| Kd <| Ja ?_;refine at_ret (v:=.int _ _) rfl ?_;refine ⟨E1,_,rfl,?_⟩
  (try dsimp only);rotate_left
 ·exact .inl rfl
 ·exact .inr ⟨by omega,rfl,by omega⟩
theorem toDeed_ok (w:World) (k n:Int) (t:List UInt8) :
  Does Tryz.prog 41 [.agg #[.int .i64 k,str t,.int .i64 n]] w (Ret w (.agg #[.int .i64 k,str t,.int .i64 n])):=by
 refine fn_of_Wc3 Tryz.func41 rfl Tryz.results41 Tryz.ntmps41 rfl Tryz.isAgg48 Tryz.sizeOf48 ?_
 focus
  refine Ke <| Kc rfl <| Jp rfl rfl rfl ?_;rintro b1 w1 hb1 E1 hB1;have hlb1:=hB1.lt;have hs1:=E1.size;refine Wo_allocN rfl flat48 ?_;rintro b2 w2 hb2 E2 hB2;have hlb2:=hB2.lt
  have hs2:=E2.size;refine Kd <| Ke <| Kc rfl <| Wo_allocN rfl flat48 ?_;rintro b3 w3 hb3 E3 hB3;have hlb3:=hB3.lt;have hs3:=E3.size;refine Kd <| Ke ?_
  refine Kc rfl <| Wo rfl (Kf Tryz.underlying55 rfl rfl Tryz.sizeOf3 rfl) <| Wo (v:=.int _ _) rfl (Km Tryz.isAgg3 rfl ((hB1.ext (E2.trans E3)).cell rfl)) ?_
  refine Wo rfl (Kf Tryz.underlying48 rfl rfl Tryz.sizeOf3 rfl) <| Wo_st (v:=.int _ _) rfl Tryz.sizeOf3 rfl rfl rfl hB3 (by decide) (by omega) ((E1.trans E2).trans E3) ?_;rintro w4 E4 hB3 K1 hz1
  have E5:=(E2.trans E3).wroteAt ((E1.trans E2).trans E3) E4 K1 hz1 (by omega);have szE5:=E5.size;have E6:=E3.wroteAt ((E1.trans E2).trans E3) E4 K1 hz1 (by omega);have szE6:=E6.size;simp only [List.set] at hB3
  have hB1:=(hB1.ext (E2.trans E3)).of_heap (K1 _ (by omega));have hB2:=(hB2.ext E3).of_heap (K1 _ (by omega));refine Kd <| Ke <| Kc rfl ?_
  refine Wo rfl (Kf Tryz.underlying55 rfl rfl Tryz.sizeOf9 rfl) <| Wo (v:=.string _) rfl (Km Tryz.isAgg9 rfl (hB1.cell rfl)) <| Wo rfl (Kf Tryz.underlying48 rfl rfl Tryz.sizeOf9 rfl) ?_
  refine Wo_st (v:=.string _) rfl Tryz.sizeOf9 rfl rfl rfl hB3 (by simp) (by omega) E4 ?_;rintro w5 E7 hB3 K2 hz2;have E8:=E5.wroteAt E4 E7 K2 hz2 (by omega);have szE8:=E8.size;have E9:=E6.wroteAt E4 E7 K2 hz2 (by omega)
  have szE9:=E9.size;simp only [List.set] at hB3;have hB1:=hB1.of_heap (K2 _ (by omega));have hB2:=hB2.of_heap (K2 _ (by omega));refine Kd <| Ke <| Kc rfl ?_
  refine Wo rfl (Kf Tryz.underlying55 rfl rfl Tryz.sizeOf3 rfl) <| Wo (v:=.int _ _) rfl (Km Tryz.isAgg3 rfl (hB1.cell rfl)) <| Wo rfl (Kf Tryz.underlying48 rfl rfl Tryz.sizeOf3 rfl) ?_
  refine Wo_st (v:=.int _ _) rfl Tryz.sizeOf3 rfl rfl rfl hB3 (by simp) (by omega) E7 ?_;rintro w6 E10 hB3 K3 hz3;have E11:=E8.wroteAt E7 E10 K3 hz3 (by omega);have szE11:=E11.size
  have E12:=E9.wroteAt E7 E10 K3 hz3 (by omega);have szE12:=E12.size;simp only [List.set] at hB3;have hB1:=hB1.of_heap (K3 _ (by omega));have hB2:=hB2.of_heap (K3 _ (by omega));refine Kd <| Ke ?_
  refine Kc rfl <| Wo (v:=.agg _) rfl (Jq Tryz.isAgg48 Tryz.sizeOf48 rfl hB3) ?_
  refine Wo_st3 rfl Tryz.sizeOf48 rfl rfl (by first | rfl | assumption) (by first | rfl | assumption) (by first | rfl | assumption) hB2 (by omega) E10 ?_;rintro w7 E13 hB2 K4 hz4;have E14:=E11.wroteAt E10 E13 K4 hz4 (by omega)
  have szE14:=E14.size;have hB3:=hB3.of_heap (K4 _ (by omega));have hB1:=hB1.of_heap (K4 _ (by omega));refine Kd <| Ja ?_
 exact ⟨b2,_,_,_,rfl,hB2,rfl,by assumption⟩
open Classical in
theorem l11Made_ok (w:World) (v:Value) (p:List (List Int)) (h:ESl Ints w v p) (hp:Pic p) (k n:Int) (t:List UInt8) (ht:t.length≤1048576) :
  Does Tryz.prog 93 [v,.agg #[.int .i64 k,str t,.int .i64 n]] w (RetOB w XR (og (madeV p ⟨k,t,n⟩)) (madeV p ⟨k,t,n⟩).isSome):=by
 have hle:=h.le
 have hp1:=hp.1
 have hp5:=hp.2.1
 have hN:Nod p (0:Nat):=⟨hp,by decide,by omega⟩
 obtain ⟨Q,hQ⟩ : ∃ Q,Q=(rdP t).getD []:=⟨_,rfl⟩
 obtain ⟨B,hB⟩ : ∃ B,B=(rdP t).isSome:=⟨_,rfl⟩
 obtain ⟨M,hM⟩ : ∃ M,M=madeV p ⟨k,t,n⟩:=⟨_,rfl⟩
 rw [← hM]
 have k0 : ∀ w,Does Tryz.prog 122 [str t] w (RetOB w XR Q B):=fun w=>hQ ▸ hB ▸ spec_ReadPicture_ok w t ht
 refine fn_of_W2 Tryz.func93 rfl Tryz.results93 Tryz.ntmps93 rfl ?_
 by_cases e0:k=0
 ·subst e0
  by_cases e:t=[]∧n=0
  ·obtain ⟨rfl,rfl⟩:=e
   have hm:M=pairV p 0 p 0:=hM.trans (by simp [madeV])
   rw [hm]
   have k1 : ∀ (w:World) (v u:Value),ESl Ints w v p→ESl Ints w u p→Does Tryz.prog 141 [v,.int .i64 0,u,.int .i64 0] w (RetOB w XR (og (pairV p 0 p 0)) (pairV p 0 p 0).isSome):=fun w v u h1 h2=>PairOf_ok w v u p p h1 h2 0 0 hN hN
   focus
    refine Ke <| Kc rfl <| Jp rfl rfl rfl ?_;rintro b1 w1 hb1 E1 hB1;have hlb1:=hB1.lt;have hs1:=E1.size;refine Wo rfl (Kb (v:=.slice _ _ _) rfl) ?_
    refine Wo rfl (Kb (v:=.bool _) rfl) <| Kd <| Ke <| Kc rfl <| Wo rfl (Kf Tryz.underlying48 rfl rfl Tryz.sizeOf9 rfl) ?_
    refine Wo (v:=.string _) rfl (Km Tryz.isAgg9 rfl (hB1.cell rfl)) <| Kj rfl (Jk (a:=.string _) Tryz.call122 rfl) (k0 _) ?_;rintro _ w2 ⟨u1,rfl,E2,hO1⟩;have hs2:=E2.size
    refine Wo rfl (Ka (v:=.tuple _) rfl) <| Wo rfl (Kk (v:=u1) rfl rfl) <| Wo rfl (Kk (v:=.bool _) rfl rfl) <| Wo rfl (Kb (v:=u1) rfl) ?_
    refine Wo rfl (Kb (v:=.bool _) rfl) <| Kd <| Ke <| Kr <| Ke <| Kc rfl <| Wo rfl (Kf Tryz.underlying48 rfl rfl Tryz.sizeOf3 rfl) ?_
    refine Wo (v:=.int _ _) rfl (Km Tryz.isAgg3 rfl ((hB1.ext E2).cell rfl)) <| Wo rfl (Kx rfl rfl) <| Kv rfl (Ka (v:=.bool _) rfl) (fun h1=>?_) (fun h1=>?_)
    refine Wo rfl (Kf Tryz.underlying48 rfl rfl Tryz.sizeOf9 rfl) <| Wo (v:=.string _) rfl (Km Tryz.isAgg9 rfl ((hB1.ext E2).cell rfl)) <| Wo rfl (opv_eql_str rfl rfl) ?_
    refine Wo rfl (Kz (v:=.bool _) rfl rfl) <| Kv rfl (Ka (v:=.bool _) rfl) (fun h2=>?_) (fun h2=>?_);refine Wo rfl (Kf Tryz.underlying48 rfl rfl Tryz.sizeOf3 rfl) ?_
    refine Wo (v:=.int _ _) rfl (Km Tryz.isAgg3 rfl ((hB1.ext E2).cell rfl)) <| Wo rfl (Kx rfl rfl) <| Wo rfl (Kz (v:=.bool _) rfl rfl) <| Wo rfl (Kb (v:=.bool _) rfl) ?_
    refine Kd <| Kg rfl (fun h3=>?_) (fun h3=>?_);refine Ke <| Kc rfl <| Wo rfl (Ka (v:=v) rfl) <| Wo rfl (Ka (v:=v) rfl) ?_
    refine Kj rfl (opc4 (a:=v) (b:=.int _ _) (c:=v) (d:=.int _ _) Tryz.call141 rfl rfl rfl rfl) (k1 _ _ _ ((Mono.mono (E1.trans E2) h)) ((Mono.mono (E1.trans E2) h))) ?_;rintro _ w3 ⟨u2,rfl,E3,hO2⟩;have hs3:=E3.size
    refine Wo rfl (Kk (v:=u2) rfl rfl) <| Wo rfl (Kk (v:=.bool _) rfl rfl) <| Wo rfl (Kb (v:=u2) rfl) <| Wo rfl (Kb (v:=.bool _) rfl) <| Kd ?_
    refine Ja ?_;refine at_ret (v:=.tuple #[u2,.bool _]) rfl ?_;exact ⟨_,rfl,((E1.trans E2).trans E3),hO2.toB.o.mono (by omega)⟩;contradiction;contradiction;contradiction
  ·have hm:M=none:=hM.trans (by simp only [madeV];rw [if_neg (fun h=>e ⟨h.2.1,h.2.2⟩),if_neg (fun h=>absurd h.1 (by decide)),if_neg (fun h=>absurd h.1 (by decide)),if_neg (fun h=>absurd h.1 (by decide))])
   rw [hm,show og none=[] from rfl,show (none:Option (List (List Int))).isSome=false from rfl]
   by_cases et:t=[]
   ·have en : ¬n=0:=fun h=>e ⟨et,h⟩
    subst et
    focus
     refine Ke <| Kc rfl <| Jp rfl rfl rfl ?_;rintro b1 w1 hb1 E1 hB1;have hlb1:=hB1.lt;have hs1:=E1.size;refine Wo rfl (Kb (v:=.slice _ _ _) rfl) ?_
     refine Wo rfl (Kb (v:=.bool _) rfl) <| Kd <| Ke <| Kc rfl <| Wo rfl (Kf Tryz.underlying48 rfl rfl Tryz.sizeOf9 rfl) ?_
     refine Wo (v:=.string _) rfl (Km Tryz.isAgg9 rfl (hB1.cell rfl)) <| Kj rfl (Jk (a:=.string _) Tryz.call122 rfl) (k0 _) ?_;rintro _ w2 ⟨u1,rfl,E2,hO1⟩;have hs2:=E2.size
     refine Wo rfl (Ka (v:=.tuple _) rfl) <| Wo rfl (Kk (v:=u1) rfl rfl) <| Wo rfl (Kk (v:=.bool _) rfl rfl) <| Wo rfl (Kb (v:=u1) rfl) ?_
     refine Wo rfl (Kb (v:=.bool _) rfl) <| Kd <| Ke <| Kr <| Ke <| Kc rfl <| Wo rfl (Kf Tryz.underlying48 rfl rfl Tryz.sizeOf3 rfl) ?_
     refine Wo (v:=.int _ _) rfl (Km Tryz.isAgg3 rfl ((hB1.ext E2).cell rfl)) <| Wo rfl (Kx rfl rfl) <| Kv rfl (Ka (v:=.bool _) rfl) (fun h1=>?_) (fun h1=>?_)
     refine Wo rfl (Kf Tryz.underlying48 rfl rfl Tryz.sizeOf9 rfl) <| Wo (v:=.string _) rfl (Km Tryz.isAgg9 rfl ((hB1.ext E2).cell rfl)) <| Wo rfl (opv_eql_str rfl rfl) ?_
     refine Wo rfl (Kz (v:=.bool _) rfl rfl) <| Kv rfl (Ka (v:=.bool _) rfl) (fun h2=>?_) (fun h2=>?_);refine Wo rfl (Kf Tryz.underlying48 rfl rfl Tryz.sizeOf3 rfl) ?_
     refine Wo (v:=.int _ _) rfl (Km Tryz.isAgg3 rfl ((hB1.ext E2).cell rfl)) <| Wo rfl (Kx rfl rfl) <| Wo rfl (Kz (v:=.bool _) rfl rfl) <| Wo rfl (Kb (v:=.bool _) rfl) ?_
     refine Kd <| Kg rfl (fun h3=>?_) (fun h3=>?_);contradiction;refine Ke <| Kc rfl <| Wo rfl (Kf Tryz.underlying48 rfl rfl Tryz.sizeOf3 rfl) ?_
     refine Wo (v:=.int _ _) rfl (Km Tryz.isAgg3 rfl ((hB1.ext E2).cell rfl)) <| Wo rfl (Kx rfl rfl) <| Kv rfl (Ka (v:=.bool _) rfl) (fun h4=>?_) (fun h4=>?_);contradiction
     refine Ki rfl <| Wo rfl (Kn (v:=.bool _) rfl rfl) <| Wo rfl (Ka (v:=.bool _) rfl) <| Ki rfl <| Ki rfl <| Ki rfl ?_
     refine Wo rfl (Kn (v:=.bool _) rfl rfl) <| Wo rfl (Kb (v:=.bool _) rfl) <| Kd <| Ky rfl ?_;refine Ke <| Kc rfl ?_
     refine Wo rfl (Kf Tryz.underlying48 rfl rfl Tryz.sizeOf3 rfl) <| Wo (v:=.int _ _) rfl (Km Tryz.isAgg3 rfl ((hB1.ext E2).cell rfl)) <| Wo rfl (Kx rfl rfl) ?_
     refine Kv rfl (Ka (v:=.bool _) rfl) (fun h5=>?_) (fun h5=>?_);contradiction;refine Ki rfl <| Wo rfl (Kn (v:=.bool _) rfl rfl) <| Wo rfl (Ka (v:=.bool _) rfl) ?_
     refine Ki rfl <| Ki rfl <| Ki rfl <| Wo rfl (Kn (v:=.bool _) rfl rfl) <| Wo rfl (Kb (v:=.bool _) rfl) <| Kd <| Ky rfl ?_
     refine Ke <| W_draw mixed (by kernel_rfl) rfl ?_;refine Jb rfl (fun _ _=>Kf Tryz.underlying48 rfl rfl Tryz.sizeOf3 rfl) ?_
     refine Jb (v:=.int _ _) rfl (fun w' hw'=>Km Tryz.isAgg3 rfl (((hB1.ext E2).ext hw').cell rfl)) ?_;refine Jb rfl (fun _ _=>Kx rfl rfl) ?_
     refine Jt rfl (fun _ _=>Ka (v:=.bool _) rfl) (fun h6=>?_) (fun h6=>?_);contradiction;refine Kq rfl <| Kq rfl <| Kq rfl ?_
     refine Jb rfl (fun _ _=>Kn (v:=.bool _) rfl rfl) ?_;refine Jb rfl (fun _ _=>Ka (v:=.bool _) rfl) ?_;refine Kq rfl <| Kq rfl <| Kq rfl <| Kq rfl ?_
     refine Kq rfl <| Kq rfl <| Jb rfl (fun _ _=>Kn (v:=.bool _) rfl rfl) ?_;refine Jb rfl (fun _ _=>Ka (v:=.bool _) rfl) ?_;refine Kq rfl <| Kq rfl ?_
     refine Kq rfl <| Kq rfl <| Kq rfl <| Kq rfl <| Kq rfl <| Kq rfl <| Jb rfl (fun _ _=>Kn (v:=.bool _) rfl rfl) ?_
     refine Jb rfl (fun _ _=>Kb (v:=.bool _) rfl) ?_;refine Wq_nil (fun w3 E3=>?_);have hs3:=E3.size;refine Ky rfl ?_;refine Kt ?_;refine Ke <| Kc rfl ?_
     refine Js (XSl 3 XInt) rfl el23 Tryz.sizeOf88 ?_;rintro b2 w4 hb2 b2lt E4 hO2;have hs4:=E4.size;refine Wo rfl (Kb (v:=.slice _ _ _) rfl) <| Wo rfl (Kb (v:=.bool _) rfl) <| Kd ?_
     refine Ja ?_;refine at_ret (v:=.tuple #[.slice _ _ _,.bool _]) rfl ?_;exact ⟨_,rfl,(((E1.trans E2).trans E3).trans E4),hO2.toB.o.mono (by omega)⟩;contradiction;contradiction
   ·focus
     refine Ke <| Kc rfl <| Jp rfl rfl rfl ?_;rintro b1 w1 hb1 E1 hB1;have hlb1:=hB1.lt;have hs1:=E1.size;refine Wo rfl (Kb (v:=.slice _ _ _) rfl) ?_
     refine Wo rfl (Kb (v:=.bool _) rfl) <| Kd <| Ke <| Kc rfl <| Wo rfl (Kf Tryz.underlying48 rfl rfl Tryz.sizeOf9 rfl) ?_
     refine Wo (v:=.string _) rfl (Km Tryz.isAgg9 rfl (hB1.cell rfl)) <| Kj rfl (Jk (a:=.string _) Tryz.call122 rfl) (k0 _) ?_;rintro _ w2 ⟨u1,rfl,E2,hO1⟩;have hs2:=E2.size
     refine Wo rfl (Ka (v:=.tuple _) rfl) <| Wo rfl (Kk (v:=u1) rfl rfl) <| Wo rfl (Kk (v:=.bool _) rfl rfl) <| Wo rfl (Kb (v:=u1) rfl) ?_
     refine Wo rfl (Kb (v:=.bool _) rfl) <| Kd <| Ke <| Kr <| Ke <| Kc rfl <| Wo rfl (Kf Tryz.underlying48 rfl rfl Tryz.sizeOf3 rfl) ?_
     refine Wo (v:=.int _ _) rfl (Km Tryz.isAgg3 rfl ((hB1.ext E2).cell rfl)) <| Wo rfl (Kx rfl rfl) <| Kv rfl (Ka (v:=.bool _) rfl) (fun h1=>?_) (fun h1=>?_)
     refine Wo rfl (Kf Tryz.underlying48 rfl rfl Tryz.sizeOf9 rfl) <| Wo (v:=.string _) rfl (Km Tryz.isAgg9 rfl ((hB1.ext E2).cell rfl)) <| Wo rfl (opv_eql_str rfl rfl) ?_
     refine Wo rfl (Kz (v:=.bool _) rfl rfl) <| Kv rfl (Ka (v:=.bool _) rfl) (fun h2=>?_) (fun h2=>?_);contradiction;refine Ki rfl <| Ki rfl <| Ki rfl ?_
     refine Wo rfl (Kn (v:=.bool _) rfl rfl) <| Wo rfl (Kb (v:=.bool _) rfl) <| Kd <| Ky rfl ?_;refine Ke <| Kc rfl ?_
     refine Wo rfl (Kf Tryz.underlying48 rfl rfl Tryz.sizeOf3 rfl) <| Wo (v:=.int _ _) rfl (Km Tryz.isAgg3 rfl ((hB1.ext E2).cell rfl)) <| Wo rfl (Kx rfl rfl) ?_
     refine Kv rfl (Ka (v:=.bool _) rfl) (fun h3=>?_) (fun h3=>?_);contradiction;refine Ki rfl <| Wo rfl (Kn (v:=.bool _) rfl rfl) <| Wo rfl (Ka (v:=.bool _) rfl) ?_
     refine Ki rfl <| Ki rfl <| Ki rfl <| Wo rfl (Kn (v:=.bool _) rfl rfl) <| Wo rfl (Kb (v:=.bool _) rfl) <| Kd <| Ky rfl ?_
     refine Ke <| Kc rfl <| Wo rfl (Kf Tryz.underlying48 rfl rfl Tryz.sizeOf3 rfl) <| Wo (v:=.int _ _) rfl (Km Tryz.isAgg3 rfl ((hB1.ext E2).cell rfl)) ?_
     refine Wo rfl (Kx rfl rfl) <| Kv rfl (Ka (v:=.bool _) rfl) (fun h4=>?_) (fun h4=>?_);contradiction;refine Ki rfl <| Wo rfl (Kn (v:=.bool _) rfl rfl) ?_
     refine Wo rfl (Ka (v:=.bool _) rfl) <| Ki rfl <| Ki rfl <| Ki rfl <| Wo rfl (Kn (v:=.bool _) rfl rfl) <| Wo rfl (Kb (v:=.bool _) rfl) ?_
     refine Kd <| Ky rfl ?_;refine Ke <| W_draw mixed (by kernel_rfl) rfl ?_;refine Jb rfl (fun _ _=>Kf Tryz.underlying48 rfl rfl Tryz.sizeOf3 rfl) ?_
     refine Jb (v:=.int _ _) rfl (fun w' hw'=>Km Tryz.isAgg3 rfl (((hB1.ext E2).ext hw').cell rfl)) ?_;refine Jb rfl (fun _ _=>Kx rfl rfl) ?_
     refine Jt rfl (fun _ _=>Ka (v:=.bool _) rfl) (fun h5=>?_) (fun h5=>?_);contradiction;refine Kq rfl <| Kq rfl <| Kq rfl ?_
     refine Jb rfl (fun _ _=>Kn (v:=.bool _) rfl rfl) ?_;refine Jb rfl (fun _ _=>Ka (v:=.bool _) rfl) ?_;refine Kq rfl <| Kq rfl <| Kq rfl <| Kq rfl ?_
     refine Kq rfl <| Kq rfl <| Jb rfl (fun _ _=>Kn (v:=.bool _) rfl rfl) ?_;refine Jb rfl (fun _ _=>Ka (v:=.bool _) rfl) ?_;refine Kq rfl <| Kq rfl ?_
     refine Kq rfl <| Kq rfl <| Kq rfl <| Kq rfl <| Kq rfl <| Kq rfl <| Jb rfl (fun _ _=>Kn (v:=.bool _) rfl rfl) ?_
     refine Jb rfl (fun _ _=>Kb (v:=.bool _) rfl) ?_;refine Wq_nil (fun w3 E3=>?_);have hs3:=E3.size;refine Ky rfl ?_;refine Kt ?_;refine Ke <| Kc rfl ?_
     refine Js (XSl 3 XInt) rfl el23 Tryz.sizeOf88 ?_;rintro b2 w4 hb2 b2lt E4 hO2;have hs4:=E4.size;refine Wo rfl (Kb (v:=.slice _ _ _) rfl) <| Wo rfl (Kb (v:=.bool _) rfl) <| Kd ?_
     refine Ja ?_;refine at_ret (v:=.tuple #[.slice _ _ _,.bool _]) rfl ?_;exact ⟨_,rfl,(((E1.trans E2).trans E3).trans E4),hO2.toB.o.mono (by omega)⟩;contradiction
 by_cases e1:k=1
 ·subst e1
  by_cases en:n=0
  ·subst en
   have hm:M=(rdP t).bind fun q=>(pairV q 0 q 0).bind fun s=>togV p 0 s 0:=hM.trans (by simp only [madeV];rw [if_neg (fun h=>absurd h.1 (by decide)),if_pos (by simp)])
   cases hr:rdP t with
   | none =>
     rw [hr] at hm hB hQ
     rw [hm, show og (none.bind fun q => (pairV q 0 q 0).bind fun s => togV p 0 s 0) = [] from rfl, show (none.bind fun q => (pairV q 0 q 0).bind fun s => togV p 0 s 0).isSome = false from rfl]
     rw [hB, show (none : Option (List (List Int))).isSome = false from rfl] at k0
     focus
       refine Ke <| Kc rfl <| Jp rfl rfl rfl ?_; rintro b1 w1 hb1 E1 hB1; have hlb1 := hB1.lt; have hs1 := E1.size; refine Wo rfl (Kb (v := .slice _ _ _) rfl) ?_
       refine Wo rfl (Kb (v := .bool _) rfl) <| Kd <| Ke <| Kc rfl <| Wo rfl (Kf Tryz.underlying48 rfl rfl Tryz.sizeOf9 rfl) ?_
       refine Wo (v := .string _) rfl (Km Tryz.isAgg9 rfl (hB1.cell rfl)) <| Kj rfl (Jk (a := .string _) Tryz.call122 rfl) (k0 _) ?_; rintro _ w2 ⟨u1, rfl, E2, hO1⟩; have hs2 := E2.size
       refine Wo rfl (Ka (v := .tuple _) rfl) <| Wo rfl (Kk (v := u1) rfl rfl) <| Wo rfl (Kk (v := .bool _) rfl rfl) <| Wo rfl (Kb (v := u1) rfl) ?_
       refine Wo rfl (Kb (v := .bool _) rfl) <| Kd <| Ke <| Kr <| Ke <| Kc rfl <| Wo rfl (Kf Tryz.underlying48 rfl rfl Tryz.sizeOf3 rfl) ?_
       refine Wo (v := .int _ _) rfl (Km Tryz.isAgg3 rfl ((hB1.ext E2).cell rfl)) <| Wo rfl (Kx rfl rfl) <| Kv rfl (Ka (v := .bool _) rfl) (fun h1 => ?_) (fun h1 => ?_); contradiction
       refine Ki rfl <| Ki rfl <| Ki rfl <| Wo rfl (Kn (v := .bool _) rfl rfl) <| Wo rfl (Ka (v := .bool _) rfl) <| Ki rfl <| Ki rfl ?_
       refine Ki rfl <| Wo rfl (Kn (v := .bool _) rfl rfl) <| Wo rfl (Kb (v := .bool _) rfl) <| Kd <| Ky rfl ?_; refine Ke <| Kc rfl ?_
       refine Wo rfl (Kf Tryz.underlying48 rfl rfl Tryz.sizeOf3 rfl) <| Wo (v := .int _ _) rfl (Km Tryz.isAgg3 rfl ((hB1.ext E2).cell rfl)) <| Wo rfl (Kx rfl rfl) ?_
       refine Kv rfl (Ka (v := .bool _) rfl) (fun h2 => ?_) (fun h2 => ?_); refine Wo rfl (Ka (v := .bool _) rfl) <| Wo rfl (Kz (v := .bool _) rfl rfl) ?_
       refine Wo rfl (Ka (v := .bool _) rfl) <| Ki rfl <| Ki rfl <| Ki rfl <| Wo rfl (Kn (v := .bool _) rfl rfl) <| Wo rfl (Kb (v := .bool _) rfl) ?_
       refine Kd <| Ky rfl ?_; refine Ke <| Kc rfl <| Wo rfl (Kf Tryz.underlying48 rfl rfl Tryz.sizeOf3 rfl) ?_
       refine Wo (v := .int _ _) rfl (Km Tryz.isAgg3 rfl ((hB1.ext E2).cell rfl)) <| Wo rfl (Kx rfl rfl) <| Kv rfl (Ka (v := .bool _) rfl) (fun h3 => ?_) (fun h3 => ?_); contradiction
       refine Ki rfl <| Wo rfl (Kn (v := .bool _) rfl rfl) <| Wo rfl (Ka (v := .bool _) rfl) <| Ki rfl <| Ki rfl <| Ki rfl ?_
       refine Wo rfl (Kn (v := .bool _) rfl rfl) <| Wo rfl (Kb (v := .bool _) rfl) <| Kd <| Ky rfl ?_; refine Ke <| W_draw mixed (by kernel_rfl) rfl ?_
       refine Jb rfl (fun _ _ => Kf Tryz.underlying48 rfl rfl Tryz.sizeOf3 rfl) ?_; refine Jb (v := .int _ _) rfl (fun w' hw' => Km Tryz.isAgg3 rfl (((hB1.ext E2).ext hw').cell rfl)) ?_
       refine Jb rfl (fun _ _ => Kx rfl rfl) ?_; refine Jt rfl (fun _ _ => Ka (v := .bool _) rfl) (fun h4 => ?_) (fun h4 => ?_); contradiction; refine Kq rfl <| Kq rfl <| Kq rfl ?_
       refine Jb rfl (fun _ _ => Kn (v := .bool _) rfl rfl) ?_; refine Jb rfl (fun _ _ => Ka (v := .bool _) rfl) ?_; refine Kq rfl <| Kq rfl <| Kq rfl <| Kq rfl ?_
       refine Kq rfl <| Kq rfl <| Jb rfl (fun _ _ => Kn (v := .bool _) rfl rfl) ?_; refine Jb rfl (fun _ _ => Ka (v := .bool _) rfl) ?_; refine Kq rfl <| Kq rfl ?_
       refine Kq rfl <| Kq rfl <| Kq rfl <| Kq rfl <| Kq rfl <| Kq rfl <| Jb rfl (fun _ _ => Kn (v := .bool _) rfl rfl) ?_
       refine Jb rfl (fun _ _ => Kb (v := .bool _) rfl) ?_; refine Wq_nil (fun w3 E3 => ?_); have hs3 := E3.size; refine Ky rfl ?_; refine Kt ?_; refine Ke <| Kc rfl ?_
       refine Js (XSl 3 XInt) rfl el23 Tryz.sizeOf88 ?_; rintro b2 w4 hb2 b2lt E4 hO2; have hs4 := E4.size; refine Wo rfl (Kb (v := .slice _ _ _) rfl) <| Wo rfl (Kb (v := .bool _) rfl) <| Kd ?_
       refine Ja ?_; refine at_ret (v := .tuple #[.slice _ _ _, .bool _]) rfl ?_; exact ⟨_, rfl, (((E1.trans E2).trans E3).trans E4), hO2.toB.o.mono (by omega)⟩; contradiction
   | some q =>
     rw [hr] at hm hB hQ
     rw [hB, hQ, show (some q).isSome = true from rfl, show (some q).getD [] = q from rfl] at k0
     have hq := (rdP_some hr).1
     have hNq : Nod q (0 : Nat) := ⟨hq, by decide, by have := hq.1; omega⟩
     have k1 : ∀ (w : World) (v u : Value), ESl Ints w v q → ESl Ints w u q → Does Tryz.prog 141 [v, .int .i64 0, u, .int .i64 0] w (RetOB w XR (og (pairV q 0 q 0)) (pairV q 0 q 0).isSome) := fun w v u h1 h2 => PairOf_ok w v u q q h1 h2 0 0 hNq hNq
     rw [hm, show ((some q).bind fun q => (pairV q 0 q 0).bind fun s => togV p 0 s 0) = (pairV q 0 q 0).bind fun s => togV p 0 s 0 from rfl]
     cases hs : pairV q 0 q 0 with
     | none =>
       rw [hs] at k1
       rw [show (none.bind fun s => togV p 0 s 0) = none from rfl]
       rw [show og none = [] from rfl, show (none : Option (List (List Int))).isSome = false from rfl] at k1 ⊢
       focus
         refine Ke <| Kc rfl <| Jp rfl rfl rfl ?_; rintro b1 w1 hb1 E1 hB1; have hlb1 := hB1.lt; have hs1 := E1.size; refine Wo rfl (Kb (v := .slice _ _ _) rfl) ?_
         refine Wo rfl (Kb (v := .bool _) rfl) <| Kd <| Ke <| Kc rfl <| Wo rfl (Kf Tryz.underlying48 rfl rfl Tryz.sizeOf9 rfl) ?_
         refine Wo (v := .string _) rfl (Km Tryz.isAgg9 rfl (hB1.cell rfl)) <| Kj rfl (Jk (a := .string _) Tryz.call122 rfl) (k0 _) ?_; rintro _ w2 ⟨u1, rfl, E2, hO1⟩; have hs2 := E2.size
         refine Wo rfl (Ka (v := .tuple _) rfl) <| Wo rfl (Kk (v := u1) rfl rfl) <| Wo rfl (Kk (v := .bool _) rfl rfl) <| Wo rfl (Kb (v := u1) rfl) ?_
         refine Wo rfl (Kb (v := .bool _) rfl) <| Kd <| Ke <| Kr <| Ke <| Kc rfl <| Wo rfl (Kf Tryz.underlying48 rfl rfl Tryz.sizeOf3 rfl) ?_
         refine Wo (v := .int _ _) rfl (Km Tryz.isAgg3 rfl ((hB1.ext E2).cell rfl)) <| Wo rfl (Kx rfl rfl) <| Kv rfl (Ka (v := .bool _) rfl) (fun h1 => ?_) (fun h1 => ?_); contradiction
         refine Ki rfl <| Ki rfl <| Ki rfl <| Wo rfl (Kn (v := .bool _) rfl rfl) <| Wo rfl (Ka (v := .bool _) rfl) <| Ki rfl <| Ki rfl ?_
         refine Ki rfl <| Wo rfl (Kn (v := .bool _) rfl rfl) <| Wo rfl (Kb (v := .bool _) rfl) <| Kd <| Ky rfl ?_; refine Ke <| Kc rfl ?_
         refine Wo rfl (Kf Tryz.underlying48 rfl rfl Tryz.sizeOf3 rfl) <| Wo (v := .int _ _) rfl (Km Tryz.isAgg3 rfl ((hB1.ext E2).cell rfl)) <| Wo rfl (Kx rfl rfl) ?_
         refine Kv rfl (Ka (v := .bool _) rfl) (fun h2 => ?_) (fun h2 => ?_); refine Wo rfl (Ka (v := .bool _) rfl) <| Wo rfl (Kz (v := .bool _) rfl rfl) ?_
         refine Wo rfl (Ka (v := .bool _) rfl) <| Wo rfl (Kf Tryz.underlying48 rfl rfl Tryz.sizeOf3 rfl) <| Wo (v := .int _ _) rfl (Km Tryz.isAgg3 rfl ((hB1.ext E2).cell rfl)) ?_
         refine Wo rfl (Kx rfl rfl) <| Wo rfl (Kz (v := .bool _) rfl rfl) <| Wo rfl (Kb (v := .bool _) rfl) <| Kd <| Kg rfl (fun h3 => ?_) (fun h3 => ?_); refine Ke ?_
         refine Kc rfl <| Wo rfl (Ka (v := u1) rfl) <| Wo rfl (Ka (v := u1) rfl) ?_
         refine Kj rfl (opc4 (a := u1) (b := .int _ _) (c := u1) (d := .int _ _) Tryz.call141 rfl rfl rfl rfl) (k1 _ _ _ ((Owned.read hO1)) ((Owned.read hO1))) ?_; rintro _ w3 ⟨u2, rfl, E3, hO2⟩; have hs3 := E3.size
         refine Wo rfl (Ka (v := .tuple _) rfl) <| Wo rfl (Kk (v := u2) rfl rfl) <| Wo rfl (Kk (v := .bool _) rfl rfl) <| Wo rfl (Kb (v := u2) rfl) ?_
         refine Wo rfl (Kb (v := .bool _) rfl) <| Kd <| Ke <| Ke <| Kc rfl <| Wo rfl (Ka (v := .bool _) rfl) <| Wo rfl (Jf rfl) <| Kd ?_
         refine Jx rfl (fun h4 => ?_) (fun h4 => ?_); refine Ke <| Kc rfl <| Js (XSl 3 XInt) rfl el23 Tryz.sizeOf88 ?_; rintro b2 w4 hb2 b2lt E4 hO3; have hs4 := E4.size
         refine Wo rfl (Kb (v := .slice _ _ _) rfl) <| Wo rfl (Kb (v := .bool _) rfl) <| Kd <| Ja ?_; refine at_ret (v := .tuple #[.slice _ _ _, .bool _]) rfl ?_
         exact ⟨_, rfl, (((E1.trans E2).trans E3).trans E4), hO3.toB.o.mono (by omega)⟩; contradiction; contradiction; contradiction
     | some s =>
       rw [hs] at k1
       rw [show ((some s).bind fun s => togV p 0 s 0) = togV p 0 s 0 from rfl]
       rw [show og (some s) = s from rfl, show (some s).isSome = true from rfl] at k1
       have hsp := (pairV_some hq hq hs).1
       have hNs : Nod s (0 : Nat) := ⟨hsp, by decide, by have := hsp.1; omega⟩
       have k2 : ∀ (w : World) (v u : Value), ESl Ints w v p → ESl Ints w u s → Does Tryz.prog 142 [v, .int .i64 0, u, .int .i64 0] w (RetOB w XR (og (togV p 0 s 0)) (togV p 0 s 0).isSome) := fun w v u h1 h2 => TogetherOf_ok w v u p s h1 h2 0 0 hN hNs
       focus
         refine Ke <| Kc rfl <| Jp rfl rfl rfl ?_; rintro b1 w1 hb1 E1 hB1; have hlb1 := hB1.lt; have hs1 := E1.size; refine Wo rfl (Kb (v := .slice _ _ _) rfl) ?_
         refine Wo rfl (Kb (v := .bool _) rfl) <| Kd <| Ke <| Kc rfl <| Wo rfl (Kf Tryz.underlying48 rfl rfl Tryz.sizeOf9 rfl) ?_
         refine Wo (v := .string _) rfl (Km Tryz.isAgg9 rfl (hB1.cell rfl)) <| Kj rfl (Jk (a := .string _) Tryz.call122 rfl) (k0 _) ?_; rintro _ w2 ⟨u1, rfl, E2, hO1⟩; have hs2 := E2.size
         refine Wo rfl (Ka (v := .tuple _) rfl) <| Wo rfl (Kk (v := u1) rfl rfl) <| Wo rfl (Kk (v := .bool _) rfl rfl) <| Wo rfl (Kb (v := u1) rfl) ?_
         refine Wo rfl (Kb (v := .bool _) rfl) <| Kd <| Ke <| Kr <| Ke <| Kc rfl <| Wo rfl (Kf Tryz.underlying48 rfl rfl Tryz.sizeOf3 rfl) ?_
         refine Wo (v := .int _ _) rfl (Km Tryz.isAgg3 rfl ((hB1.ext E2).cell rfl)) <| Wo rfl (Kx rfl rfl) <| Kv rfl (Ka (v := .bool _) rfl) (fun h1 => ?_) (fun h1 => ?_); contradiction
         refine Ki rfl <| Ki rfl <| Ki rfl <| Wo rfl (Kn (v := .bool _) rfl rfl) <| Wo rfl (Ka (v := .bool _) rfl) <| Ki rfl <| Ki rfl ?_
         refine Ki rfl <| Wo rfl (Kn (v := .bool _) rfl rfl) <| Wo rfl (Kb (v := .bool _) rfl) <| Kd <| Ky rfl ?_; refine Ke <| Kc rfl ?_
         refine Wo rfl (Kf Tryz.underlying48 rfl rfl Tryz.sizeOf3 rfl) <| Wo (v := .int _ _) rfl (Km Tryz.isAgg3 rfl ((hB1.ext E2).cell rfl)) <| Wo rfl (Kx rfl rfl) ?_
         refine Kv rfl (Ka (v := .bool _) rfl) (fun h2 => ?_) (fun h2 => ?_); refine Wo rfl (Ka (v := .bool _) rfl) <| Wo rfl (Kz (v := .bool _) rfl rfl) ?_
         refine Wo rfl (Ka (v := .bool _) rfl) <| Wo rfl (Kf Tryz.underlying48 rfl rfl Tryz.sizeOf3 rfl) <| Wo (v := .int _ _) rfl (Km Tryz.isAgg3 rfl ((hB1.ext E2).cell rfl)) ?_
         refine Wo rfl (Kx rfl rfl) <| Wo rfl (Kz (v := .bool _) rfl rfl) <| Wo rfl (Kb (v := .bool _) rfl) <| Kd <| Kg rfl (fun h3 => ?_) (fun h3 => ?_); refine Ke ?_
         refine Kc rfl <| Wo rfl (Ka (v := u1) rfl) <| Wo rfl (Ka (v := u1) rfl) ?_
         refine Kj rfl (opc4 (a := u1) (b := .int _ _) (c := u1) (d := .int _ _) Tryz.call141 rfl rfl rfl rfl) (k1 _ _ _ ((Owned.read hO1)) ((Owned.read hO1))) ?_; rintro _ w3 ⟨u2, rfl, E3, hO2⟩; have hs3 := E3.size
         refine Wo rfl (Ka (v := .tuple _) rfl) <| Wo rfl (Kk (v := u2) rfl rfl) <| Wo rfl (Kk (v := .bool _) rfl rfl) <| Wo rfl (Kb (v := u2) rfl) ?_
         refine Wo rfl (Kb (v := .bool _) rfl) <| Kd <| Ke <| Ke <| Kc rfl <| Wo rfl (Ka (v := .bool _) rfl) <| Wo rfl (Jf rfl) <| Kd ?_
         refine Jx rfl (fun h4 => ?_) (fun h4 => ?_); contradiction; refine Kt ?_; refine Ke <| Kc rfl <| Wo rfl (Ka (v := v) rfl) <| Wo rfl (Ka (v := u2) rfl) ?_
         refine Kj rfl (opc4 (a := v) (b := .int _ _) (c := u2) (d := .int _ _) Tryz.call142 rfl rfl rfl rfl) (k2 _ _ _ ((Mono.mono ((E1.trans E2).trans E3) h)) ((Owned.read hO2))) ?_; rintro _ w4 ⟨u3, rfl, E4, hO3⟩; have hs4 := E4.size
         refine Wo rfl (Kk (v := u3) rfl rfl) <| Wo rfl (Kk (v := .bool _) rfl rfl) <| Wo rfl (Kb (v := u3) rfl) <| Wo rfl (Kb (v := .bool _) rfl) <| Kd ?_
         refine Ja ?_; refine at_ret (v := .tuple #[u3, .bool _]) rfl ?_; exact ⟨_, rfl, (((E1.trans E2).trans E3).trans E4), hO3.toB.o.mono (by omega)⟩; contradiction; contradiction
  ·have hm:M=none:=hM.trans (by simp only [madeV];rw [if_neg (fun h=>absurd h.1 (by decide)),if_neg (fun h=>en h.2),if_neg (fun h=>absurd h.1 (by decide)),if_neg (fun h=>absurd h.1 (by decide))])
   rw [hm,show og none=[] from rfl,show (none:Option (List (List Int))).isSome=false from rfl]
   cases B
   ·focus
     refine Ke <| Kc rfl <| Jp rfl rfl rfl ?_;rintro b1 w1 hb1 E1 hB1;have hlb1:=hB1.lt;have hs1:=E1.size;refine Wo rfl (Kb (v:=.slice _ _ _) rfl) ?_
     refine Wo rfl (Kb (v:=.bool _) rfl) <| Kd <| Ke <| Kc rfl <| Wo rfl (Kf Tryz.underlying48 rfl rfl Tryz.sizeOf9 rfl) ?_
     refine Wo (v:=.string _) rfl (Km Tryz.isAgg9 rfl (hB1.cell rfl)) <| Kj rfl (Jk (a:=.string _) Tryz.call122 rfl) (k0 _) ?_;rintro _ w2 ⟨u1,rfl,E2,hO1⟩;have hs2:=E2.size
     refine Wo rfl (Ka (v:=.tuple _) rfl) <| Wo rfl (Kk (v:=u1) rfl rfl) <| Wo rfl (Kk (v:=.bool _) rfl rfl) <| Wo rfl (Kb (v:=u1) rfl) ?_
     refine Wo rfl (Kb (v:=.bool _) rfl) <| Kd <| Ke <| Kr <| Ke <| Kc rfl <| Wo rfl (Kf Tryz.underlying48 rfl rfl Tryz.sizeOf3 rfl) ?_
     refine Wo (v:=.int _ _) rfl (Km Tryz.isAgg3 rfl ((hB1.ext E2).cell rfl)) <| Wo rfl (Kx rfl rfl) <| Kv rfl (Ka (v:=.bool _) rfl) (fun h1=>?_) (fun h1=>?_);contradiction
     refine Ki rfl <| Ki rfl <| Ki rfl <| Wo rfl (Kn (v:=.bool _) rfl rfl) <| Wo rfl (Ka (v:=.bool _) rfl) <| Ki rfl <| Ki rfl ?_
     refine Ki rfl <| Wo rfl (Kn (v:=.bool _) rfl rfl) <| Wo rfl (Kb (v:=.bool _) rfl) <| Kd <| Ky rfl ?_;refine Ke <| Kc rfl ?_
     refine Wo rfl (Kf Tryz.underlying48 rfl rfl Tryz.sizeOf3 rfl) <| Wo (v:=.int _ _) rfl (Km Tryz.isAgg3 rfl ((hB1.ext E2).cell rfl)) <| Wo rfl (Kx rfl rfl) ?_
     refine Kv rfl (Ka (v:=.bool _) rfl) (fun h2=>?_) (fun h2=>?_);refine Wo rfl (Ka (v:=.bool _) rfl) <| Wo rfl (Kz (v:=.bool _) rfl rfl) ?_
     refine Wo rfl (Ka (v:=.bool _) rfl) <| Ki rfl <| Ki rfl <| Ki rfl <| Wo rfl (Kn (v:=.bool _) rfl rfl) <| Wo rfl (Kb (v:=.bool _) rfl) ?_
     refine Kd <| Ky rfl ?_;refine Ke <| Kc rfl <| Wo rfl (Kf Tryz.underlying48 rfl rfl Tryz.sizeOf3 rfl) ?_
     refine Wo (v:=.int _ _) rfl (Km Tryz.isAgg3 rfl ((hB1.ext E2).cell rfl)) <| Wo rfl (Kx rfl rfl) <| Kv rfl (Ka (v:=.bool _) rfl) (fun h3=>?_) (fun h3=>?_);contradiction
     refine Ki rfl <| Wo rfl (Kn (v:=.bool _) rfl rfl) <| Wo rfl (Ka (v:=.bool _) rfl) <| Ki rfl <| Ki rfl <| Ki rfl ?_
     refine Wo rfl (Kn (v:=.bool _) rfl rfl) <| Wo rfl (Kb (v:=.bool _) rfl) <| Kd <| Ky rfl ?_;refine Ke <| W_draw mixed (by kernel_rfl) rfl ?_
     refine Jb rfl (fun _ _=>Kf Tryz.underlying48 rfl rfl Tryz.sizeOf3 rfl) ?_;refine Jb (v:=.int _ _) rfl (fun w' hw'=>Km Tryz.isAgg3 rfl (((hB1.ext E2).ext hw').cell rfl)) ?_
     refine Jb rfl (fun _ _=>Kx rfl rfl) ?_;refine Jt rfl (fun _ _=>Ka (v:=.bool _) rfl) (fun h4=>?_) (fun h4=>?_);contradiction;refine Kq rfl <| Kq rfl <| Kq rfl ?_
     refine Jb rfl (fun _ _=>Kn (v:=.bool _) rfl rfl) ?_;refine Jb rfl (fun _ _=>Ka (v:=.bool _) rfl) ?_;refine Kq rfl <| Kq rfl <| Kq rfl <| Kq rfl ?_
     refine Kq rfl <| Kq rfl <| Jb rfl (fun _ _=>Kn (v:=.bool _) rfl rfl) ?_;refine Jb rfl (fun _ _=>Ka (v:=.bool _) rfl) ?_;refine Kq rfl <| Kq rfl ?_
     refine Kq rfl <| Kq rfl <| Kq rfl <| Kq rfl <| Kq rfl <| Kq rfl <| Jb rfl (fun _ _=>Kn (v:=.bool _) rfl rfl) ?_
     refine Jb rfl (fun _ _=>Kb (v:=.bool _) rfl) ?_;refine Wq_nil (fun w3 E3=>?_);have hs3:=E3.size;refine Ky rfl ?_;refine Kt ?_;refine Ke <| Kc rfl ?_
     refine Js (XSl 3 XInt) rfl el23 Tryz.sizeOf88 ?_;rintro b2 w4 hb2 b2lt E4 hO2;have hs4:=E4.size;refine Wo rfl (Kb (v:=.slice _ _ _) rfl) <| Wo rfl (Kb (v:=.bool _) rfl) <| Kd ?_
     refine Ja ?_;refine at_ret (v:=.tuple #[.slice _ _ _,.bool _]) rfl ?_;exact ⟨_,rfl,(((E1.trans E2).trans E3).trans E4),hO2.toB.o.mono (by omega)⟩;contradiction
   ·focus
     refine Ke <| Kc rfl <| Jp rfl rfl rfl ?_;rintro b1 w1 hb1 E1 hB1;have hlb1:=hB1.lt;have hs1:=E1.size;refine Wo rfl (Kb (v:=.slice _ _ _) rfl) ?_
     refine Wo rfl (Kb (v:=.bool _) rfl) <| Kd <| Ke <| Kc rfl <| Wo rfl (Kf Tryz.underlying48 rfl rfl Tryz.sizeOf9 rfl) ?_
     refine Wo (v:=.string _) rfl (Km Tryz.isAgg9 rfl (hB1.cell rfl)) <| Kj rfl (Jk (a:=.string _) Tryz.call122 rfl) (k0 _) ?_;rintro _ w2 ⟨u1,rfl,E2,hO1⟩;have hs2:=E2.size
     refine Wo rfl (Ka (v:=.tuple _) rfl) <| Wo rfl (Kk (v:=u1) rfl rfl) <| Wo rfl (Kk (v:=.bool _) rfl rfl) <| Wo rfl (Kb (v:=u1) rfl) ?_
     refine Wo rfl (Kb (v:=.bool _) rfl) <| Kd <| Ke <| Kr <| Ke <| Kc rfl <| Wo rfl (Kf Tryz.underlying48 rfl rfl Tryz.sizeOf3 rfl) ?_
     refine Wo (v:=.int _ _) rfl (Km Tryz.isAgg3 rfl ((hB1.ext E2).cell rfl)) <| Wo rfl (Kx rfl rfl) <| Kv rfl (Ka (v:=.bool _) rfl) (fun h1=>?_) (fun h1=>?_);contradiction
     refine Ki rfl <| Ki rfl <| Ki rfl <| Wo rfl (Kn (v:=.bool _) rfl rfl) <| Wo rfl (Ka (v:=.bool _) rfl) <| Ki rfl <| Ki rfl ?_
     refine Ki rfl <| Wo rfl (Kn (v:=.bool _) rfl rfl) <| Wo rfl (Kb (v:=.bool _) rfl) <| Kd <| Ky rfl ?_;refine Ke <| Kc rfl ?_
     refine Wo rfl (Kf Tryz.underlying48 rfl rfl Tryz.sizeOf3 rfl) <| Wo (v:=.int _ _) rfl (Km Tryz.isAgg3 rfl ((hB1.ext E2).cell rfl)) <| Wo rfl (Kx rfl rfl) ?_
     refine Kv rfl (Ka (v:=.bool _) rfl) (fun h2=>?_) (fun h2=>?_);refine Wo rfl (Ka (v:=.bool _) rfl) <| Wo rfl (Kz (v:=.bool _) rfl rfl) ?_
     refine Wo rfl (Ka (v:=.bool _) rfl) <| Wo rfl (Kf Tryz.underlying48 rfl rfl Tryz.sizeOf3 rfl) <| Wo (v:=.int _ _) rfl (Km Tryz.isAgg3 rfl ((hB1.ext E2).cell rfl)) ?_
     refine Wo rfl (Kx rfl rfl) <| Wo rfl (Kz (v:=.bool _) rfl rfl) <| Wo rfl (Kb (v:=.bool _) rfl) <| Kd <| Kg rfl (fun h3=>?_) (fun h3=>?_);contradiction
     refine Ke <| Kc rfl <| Wo rfl (Kf Tryz.underlying48 rfl rfl Tryz.sizeOf3 rfl) <| Wo (v:=.int _ _) rfl (Km Tryz.isAgg3 rfl ((hB1.ext E2).cell rfl)) ?_
     refine Wo rfl (Kx rfl rfl) <| Kv rfl (Ka (v:=.bool _) rfl) (fun h4=>?_) (fun h4=>?_);contradiction;refine Ki rfl <| Wo rfl (Kn (v:=.bool _) rfl rfl) ?_
     refine Wo rfl (Ka (v:=.bool _) rfl) <| Ki rfl <| Ki rfl <| Ki rfl <| Wo rfl (Kn (v:=.bool _) rfl rfl) <| Wo rfl (Kb (v:=.bool _) rfl) ?_
     refine Kd <| Ky rfl ?_;refine Ke <| W_draw mixed (by kernel_rfl) rfl ?_;refine Jb rfl (fun _ _=>Kf Tryz.underlying48 rfl rfl Tryz.sizeOf3 rfl) ?_
     refine Jb (v:=.int _ _) rfl (fun w' hw'=>Km Tryz.isAgg3 rfl (((hB1.ext E2).ext hw').cell rfl)) ?_;refine Jb rfl (fun _ _=>Kx rfl rfl) ?_
     refine Jt rfl (fun _ _=>Ka (v:=.bool _) rfl) (fun h5=>?_) (fun h5=>?_);contradiction;refine Kq rfl <| Kq rfl <| Kq rfl ?_
     refine Jb rfl (fun _ _=>Kn (v:=.bool _) rfl rfl) ?_;refine Jb rfl (fun _ _=>Ka (v:=.bool _) rfl) ?_;refine Kq rfl <| Kq rfl <| Kq rfl <| Kq rfl ?_
     refine Kq rfl <| Kq rfl <| Jb rfl (fun _ _=>Kn (v:=.bool _) rfl rfl) ?_;refine Jb rfl (fun _ _=>Ka (v:=.bool _) rfl) ?_;refine Kq rfl <| Kq rfl ?_
     refine Kq rfl <| Kq rfl <| Kq rfl <| Kq rfl <| Kq rfl <| Kq rfl <| Jb rfl (fun _ _=>Kn (v:=.bool _) rfl rfl) ?_
     refine Jb rfl (fun _ _=>Kb (v:=.bool _) rfl) ?_;refine Wq_nil (fun w3 E3=>?_);have hs3:=E3.size;refine Ky rfl ?_;refine Kt ?_;refine Ke <| Kc rfl ?_
     refine Js (XSl 3 XInt) rfl el23 Tryz.sizeOf88 ?_;rintro b2 w4 hb2 b2lt E4 hO2;have hs4:=E4.size;refine Wo rfl (Kb (v:=.slice _ _ _) rfl) <| Wo rfl (Kb (v:=.bool _) rfl) <| Kd ?_
     refine Ja ?_;refine at_ret (v:=.tuple #[.slice _ _ _,.bool _]) rfl ?_;exact ⟨_,rfl,(((E1.trans E2).trans E3).trans E4),hO2.toB.o.mono (by omega)⟩;contradiction
 by_cases e2:k=2
 ·subst e2
  by_cases en:n=0
  ·subst en
   have hm:M=(rdP t).bind fun q=>wosV p 0 q 0:=hM.trans (by simp only [madeV];rw [if_neg (fun h=>absurd h.1 (by decide)),if_neg (fun h=>absurd h.1 (by decide)),if_pos (by simp)])
   cases hr:rdP t with
   | none =>
     rw [hr] at hm hB hQ
     rw [hm, show og (none.bind fun q => wosV p 0 q 0) = [] from rfl, show (none.bind fun q => wosV p 0 q 0).isSome = false from rfl]
     rw [hB, show (none : Option (List (List Int))).isSome = false from rfl] at k0
     focus
       refine Ke <| Kc rfl <| Jp rfl rfl rfl ?_; rintro b1 w1 hb1 E1 hB1; have hlb1 := hB1.lt; have hs1 := E1.size; refine Wo rfl (Kb (v := .slice _ _ _) rfl) ?_
       refine Wo rfl (Kb (v := .bool _) rfl) <| Kd <| Ke <| Kc rfl <| Wo rfl (Kf Tryz.underlying48 rfl rfl Tryz.sizeOf9 rfl) ?_
       refine Wo (v := .string _) rfl (Km Tryz.isAgg9 rfl (hB1.cell rfl)) <| Kj rfl (Jk (a := .string _) Tryz.call122 rfl) (k0 _) ?_; rintro _ w2 ⟨u1, rfl, E2, hO1⟩; have hs2 := E2.size
       refine Wo rfl (Ka (v := .tuple _) rfl) <| Wo rfl (Kk (v := u1) rfl rfl) <| Wo rfl (Kk (v := .bool _) rfl rfl) <| Wo rfl (Kb (v := u1) rfl) ?_
       refine Wo rfl (Kb (v := .bool _) rfl) <| Kd <| Ke <| Kr <| Ke <| Kc rfl <| Wo rfl (Kf Tryz.underlying48 rfl rfl Tryz.sizeOf3 rfl) ?_
       refine Wo (v := .int _ _) rfl (Km Tryz.isAgg3 rfl ((hB1.ext E2).cell rfl)) <| Wo rfl (Kx rfl rfl) <| Kv rfl (Ka (v := .bool _) rfl) (fun h1 => ?_) (fun h1 => ?_); contradiction
       refine Ki rfl <| Ki rfl <| Ki rfl <| Wo rfl (Kn (v := .bool _) rfl rfl) <| Wo rfl (Ka (v := .bool _) rfl) <| Ki rfl <| Ki rfl ?_
       refine Ki rfl <| Wo rfl (Kn (v := .bool _) rfl rfl) <| Wo rfl (Kb (v := .bool _) rfl) <| Kd <| Ky rfl ?_; refine Ke <| Kc rfl ?_
       refine Wo rfl (Kf Tryz.underlying48 rfl rfl Tryz.sizeOf3 rfl) <| Wo (v := .int _ _) rfl (Km Tryz.isAgg3 rfl ((hB1.ext E2).cell rfl)) <| Wo rfl (Kx rfl rfl) ?_
       refine Kv rfl (Ka (v := .bool _) rfl) (fun h2 => ?_) (fun h2 => ?_); contradiction; refine Ki rfl <| Wo rfl (Kn (v := .bool _) rfl rfl) <| Wo rfl (Ka (v := .bool _) rfl) ?_
       refine Ki rfl <| Ki rfl <| Ki rfl <| Wo rfl (Kn (v := .bool _) rfl rfl) <| Wo rfl (Kb (v := .bool _) rfl) <| Kd <| Ky rfl ?_
       refine Ke <| Kc rfl <| Wo rfl (Kf Tryz.underlying48 rfl rfl Tryz.sizeOf3 rfl) <| Wo (v := .int _ _) rfl (Km Tryz.isAgg3 rfl ((hB1.ext E2).cell rfl)) ?_
       refine Wo rfl (Kx rfl rfl) <| Kv rfl (Ka (v := .bool _) rfl) (fun h3 => ?_) (fun h3 => ?_); refine Wo rfl (Ka (v := .bool _) rfl) <| Wo rfl (Kz (v := .bool _) rfl rfl) ?_
       refine Wo rfl (Ka (v := .bool _) rfl) <| Ki rfl <| Ki rfl <| Ki rfl <| Wo rfl (Kn (v := .bool _) rfl rfl) <| Wo rfl (Kb (v := .bool _) rfl) ?_
       refine Kd <| Ky rfl ?_; refine Ke <| W_draw mixed (by kernel_rfl) rfl ?_; refine Jb rfl (fun _ _ => Kf Tryz.underlying48 rfl rfl Tryz.sizeOf3 rfl) ?_
       refine Jb (v := .int _ _) rfl (fun w' hw' => Km Tryz.isAgg3 rfl (((hB1.ext E2).ext hw').cell rfl)) ?_; refine Jb rfl (fun _ _ => Kx rfl rfl) ?_
       refine Jt rfl (fun _ _ => Ka (v := .bool _) rfl) (fun h4 => ?_) (fun h4 => ?_); contradiction; refine Kq rfl <| Kq rfl <| Kq rfl ?_
       refine Jb rfl (fun _ _ => Kn (v := .bool _) rfl rfl) ?_; refine Jb rfl (fun _ _ => Ka (v := .bool _) rfl) ?_; refine Kq rfl <| Kq rfl <| Kq rfl <| Kq rfl ?_
       refine Kq rfl <| Kq rfl <| Jb rfl (fun _ _ => Kn (v := .bool _) rfl rfl) ?_; refine Jb rfl (fun _ _ => Ka (v := .bool _) rfl) ?_; refine Kq rfl <| Kq rfl ?_
       refine Kq rfl <| Kq rfl <| Kq rfl <| Kq rfl <| Kq rfl <| Kq rfl <| Jb rfl (fun _ _ => Kn (v := .bool _) rfl rfl) ?_
       refine Jb rfl (fun _ _ => Kb (v := .bool _) rfl) ?_; refine Wq_nil (fun w3 E3 => ?_); have hs3 := E3.size; refine Ky rfl ?_; refine Kt ?_; refine Ke <| Kc rfl ?_
       refine Js (XSl 3 XInt) rfl el23 Tryz.sizeOf88 ?_; rintro b2 w4 hb2 b2lt E4 hO2; have hs4 := E4.size; refine Wo rfl (Kb (v := .slice _ _ _) rfl) <| Wo rfl (Kb (v := .bool _) rfl) <| Kd ?_
       refine Ja ?_; refine at_ret (v := .tuple #[.slice _ _ _, .bool _]) rfl ?_; exact ⟨_, rfl, (((E1.trans E2).trans E3).trans E4), hO2.toB.o.mono (by omega)⟩; contradiction
   | some q =>
     rw [hr] at hm hB hQ
     rw [hB, hQ, show (some q).isSome = true from rfl, show (some q).getD [] = q from rfl] at k0
     have hq := (rdP_some hr).1
     have hNq : Nod q (0 : Nat) := ⟨hq, by decide, by have := hq.1; omega⟩
     have k1 : ∀ (w : World) (v u : Value), ESl Ints w v p → ESl Ints w u q → Does Tryz.prog 143 [v, .int .i64 0, u, .int .i64 0] w (RetOB w XR (og (wosV p 0 q 0)) (wosV p 0 q 0).isSome) := fun w v u h1 h2 => WithoutSet_ok w v u p q h1 h2 0 0 hN hNq
     rw [hm, show ((some q).bind fun q => wosV p 0 q 0) = wosV p 0 q 0 from rfl]
     focus
       refine Ke <| Kc rfl <| Jp rfl rfl rfl ?_; rintro b1 w1 hb1 E1 hB1; have hlb1 := hB1.lt; have hs1 := E1.size; refine Wo rfl (Kb (v := .slice _ _ _) rfl) ?_
       refine Wo rfl (Kb (v := .bool _) rfl) <| Kd <| Ke <| Kc rfl <| Wo rfl (Kf Tryz.underlying48 rfl rfl Tryz.sizeOf9 rfl) ?_
       refine Wo (v := .string _) rfl (Km Tryz.isAgg9 rfl (hB1.cell rfl)) <| Kj rfl (Jk (a := .string _) Tryz.call122 rfl) (k0 _) ?_; rintro _ w2 ⟨u1, rfl, E2, hO1⟩; have hs2 := E2.size
       refine Wo rfl (Ka (v := .tuple _) rfl) <| Wo rfl (Kk (v := u1) rfl rfl) <| Wo rfl (Kk (v := .bool _) rfl rfl) <| Wo rfl (Kb (v := u1) rfl) ?_
       refine Wo rfl (Kb (v := .bool _) rfl) <| Kd <| Ke <| Kr <| Ke <| Kc rfl <| Wo rfl (Kf Tryz.underlying48 rfl rfl Tryz.sizeOf3 rfl) ?_
       refine Wo (v := .int _ _) rfl (Km Tryz.isAgg3 rfl ((hB1.ext E2).cell rfl)) <| Wo rfl (Kx rfl rfl) <| Kv rfl (Ka (v := .bool _) rfl) (fun h1 => ?_) (fun h1 => ?_); contradiction
       refine Ki rfl <| Ki rfl <| Ki rfl <| Wo rfl (Kn (v := .bool _) rfl rfl) <| Wo rfl (Ka (v := .bool _) rfl) <| Ki rfl <| Ki rfl ?_
       refine Ki rfl <| Wo rfl (Kn (v := .bool _) rfl rfl) <| Wo rfl (Kb (v := .bool _) rfl) <| Kd <| Ky rfl ?_; refine Ke <| Kc rfl ?_
       refine Wo rfl (Kf Tryz.underlying48 rfl rfl Tryz.sizeOf3 rfl) <| Wo (v := .int _ _) rfl (Km Tryz.isAgg3 rfl ((hB1.ext E2).cell rfl)) <| Wo rfl (Kx rfl rfl) ?_
       refine Kv rfl (Ka (v := .bool _) rfl) (fun h2 => ?_) (fun h2 => ?_); contradiction; refine Ki rfl <| Wo rfl (Kn (v := .bool _) rfl rfl) <| Wo rfl (Ka (v := .bool _) rfl) ?_
       refine Ki rfl <| Ki rfl <| Ki rfl <| Wo rfl (Kn (v := .bool _) rfl rfl) <| Wo rfl (Kb (v := .bool _) rfl) <| Kd <| Ky rfl ?_
       refine Ke <| Kc rfl <| Wo rfl (Kf Tryz.underlying48 rfl rfl Tryz.sizeOf3 rfl) <| Wo (v := .int _ _) rfl (Km Tryz.isAgg3 rfl ((hB1.ext E2).cell rfl)) ?_
       refine Wo rfl (Kx rfl rfl) <| Kv rfl (Ka (v := .bool _) rfl) (fun h3 => ?_) (fun h3 => ?_); refine Wo rfl (Ka (v := .bool _) rfl) <| Wo rfl (Kz (v := .bool _) rfl rfl) ?_
       refine Wo rfl (Ka (v := .bool _) rfl) <| Wo rfl (Kf Tryz.underlying48 rfl rfl Tryz.sizeOf3 rfl) <| Wo (v := .int _ _) rfl (Km Tryz.isAgg3 rfl ((hB1.ext E2).cell rfl)) ?_
       refine Wo rfl (Kx rfl rfl) <| Wo rfl (Kz (v := .bool _) rfl rfl) <| Wo rfl (Kb (v := .bool _) rfl) <| Kd <| Kg rfl (fun h4 => ?_) (fun h4 => ?_); refine Ke ?_
       refine Kc rfl <| Wo rfl (Ka (v := v) rfl) <| Wo rfl (Ka (v := u1) rfl) ?_
       refine Kj rfl (opc4 (a := v) (b := .int _ _) (c := u1) (d := .int _ _) Tryz.call143 rfl rfl rfl rfl) (k1 _ _ _ ((Mono.mono (E1.trans E2) h)) ((Owned.read hO1))) ?_; rintro _ w3 ⟨u2, rfl, E3, hO2⟩; have hs3 := E3.size
       refine Wo rfl (Kk (v := u2) rfl rfl) <| Wo rfl (Kk (v := .bool _) rfl rfl) <| Wo rfl (Kb (v := u2) rfl) <| Wo rfl (Kb (v := .bool _) rfl) <| Kd ?_
       refine Ja ?_; refine at_ret (v := .tuple #[u2, .bool _]) rfl ?_; exact ⟨_, rfl, ((E1.trans E2).trans E3), hO2.toB.o.mono (by omega)⟩; contradiction; contradiction
  ·have hm:M=none:=hM.trans (by simp only [madeV];rw [if_neg (fun h=>absurd h.1 (by decide)),if_neg (fun h=>absurd h.1 (by decide)),if_neg (fun h=>en h.2),if_neg (fun h=>absurd h.1 (by decide))])
   rw [hm,show og none=[] from rfl,show (none:Option (List (List Int))).isSome=false from rfl]
   cases B
   ·focus
     refine Ke <| Kc rfl <| Jp rfl rfl rfl ?_;rintro b1 w1 hb1 E1 hB1;have hlb1:=hB1.lt;have hs1:=E1.size;refine Wo rfl (Kb (v:=.slice _ _ _) rfl) ?_
     refine Wo rfl (Kb (v:=.bool _) rfl) <| Kd <| Ke <| Kc rfl <| Wo rfl (Kf Tryz.underlying48 rfl rfl Tryz.sizeOf9 rfl) ?_
     refine Wo (v:=.string _) rfl (Km Tryz.isAgg9 rfl (hB1.cell rfl)) <| Kj rfl (Jk (a:=.string _) Tryz.call122 rfl) (k0 _) ?_;rintro _ w2 ⟨u1,rfl,E2,hO1⟩;have hs2:=E2.size
     refine Wo rfl (Ka (v:=.tuple _) rfl) <| Wo rfl (Kk (v:=u1) rfl rfl) <| Wo rfl (Kk (v:=.bool _) rfl rfl) <| Wo rfl (Kb (v:=u1) rfl) ?_
     refine Wo rfl (Kb (v:=.bool _) rfl) <| Kd <| Ke <| Kr <| Ke <| Kc rfl <| Wo rfl (Kf Tryz.underlying48 rfl rfl Tryz.sizeOf3 rfl) ?_
     refine Wo (v:=.int _ _) rfl (Km Tryz.isAgg3 rfl ((hB1.ext E2).cell rfl)) <| Wo rfl (Kx rfl rfl) <| Kv rfl (Ka (v:=.bool _) rfl) (fun h1=>?_) (fun h1=>?_);contradiction
     refine Ki rfl <| Ki rfl <| Ki rfl <| Wo rfl (Kn (v:=.bool _) rfl rfl) <| Wo rfl (Ka (v:=.bool _) rfl) <| Ki rfl <| Ki rfl ?_
     refine Ki rfl <| Wo rfl (Kn (v:=.bool _) rfl rfl) <| Wo rfl (Kb (v:=.bool _) rfl) <| Kd <| Ky rfl ?_;refine Ke <| Kc rfl ?_
     refine Wo rfl (Kf Tryz.underlying48 rfl rfl Tryz.sizeOf3 rfl) <| Wo (v:=.int _ _) rfl (Km Tryz.isAgg3 rfl ((hB1.ext E2).cell rfl)) <| Wo rfl (Kx rfl rfl) ?_
     refine Kv rfl (Ka (v:=.bool _) rfl) (fun h2=>?_) (fun h2=>?_);contradiction;refine Ki rfl <| Wo rfl (Kn (v:=.bool _) rfl rfl) <| Wo rfl (Ka (v:=.bool _) rfl) ?_
     refine Ki rfl <| Ki rfl <| Ki rfl <| Wo rfl (Kn (v:=.bool _) rfl rfl) <| Wo rfl (Kb (v:=.bool _) rfl) <| Kd <| Ky rfl ?_
     refine Ke <| Kc rfl <| Wo rfl (Kf Tryz.underlying48 rfl rfl Tryz.sizeOf3 rfl) <| Wo (v:=.int _ _) rfl (Km Tryz.isAgg3 rfl ((hB1.ext E2).cell rfl)) ?_
     refine Wo rfl (Kx rfl rfl) <| Kv rfl (Ka (v:=.bool _) rfl) (fun h3=>?_) (fun h3=>?_);refine Wo rfl (Ka (v:=.bool _) rfl) <| Wo rfl (Kz (v:=.bool _) rfl rfl) ?_
     refine Wo rfl (Ka (v:=.bool _) rfl) <| Ki rfl <| Ki rfl <| Ki rfl <| Wo rfl (Kn (v:=.bool _) rfl rfl) <| Wo rfl (Kb (v:=.bool _) rfl) ?_
     refine Kd <| Ky rfl ?_;refine Ke <| W_draw mixed (by kernel_rfl) rfl ?_;refine Jb rfl (fun _ _=>Kf Tryz.underlying48 rfl rfl Tryz.sizeOf3 rfl) ?_
     refine Jb (v:=.int _ _) rfl (fun w' hw'=>Km Tryz.isAgg3 rfl (((hB1.ext E2).ext hw').cell rfl)) ?_;refine Jb rfl (fun _ _=>Kx rfl rfl) ?_
     refine Jt rfl (fun _ _=>Ka (v:=.bool _) rfl) (fun h4=>?_) (fun h4=>?_);contradiction;refine Kq rfl <| Kq rfl <| Kq rfl ?_
     refine Jb rfl (fun _ _=>Kn (v:=.bool _) rfl rfl) ?_;refine Jb rfl (fun _ _=>Ka (v:=.bool _) rfl) ?_;refine Kq rfl <| Kq rfl <| Kq rfl <| Kq rfl ?_
     refine Kq rfl <| Kq rfl <| Jb rfl (fun _ _=>Kn (v:=.bool _) rfl rfl) ?_;refine Jb rfl (fun _ _=>Ka (v:=.bool _) rfl) ?_;refine Kq rfl <| Kq rfl ?_
     refine Kq rfl <| Kq rfl <| Kq rfl <| Kq rfl <| Kq rfl <| Kq rfl <| Jb rfl (fun _ _=>Kn (v:=.bool _) rfl rfl) ?_
     refine Jb rfl (fun _ _=>Kb (v:=.bool _) rfl) ?_;refine Wq_nil (fun w3 E3=>?_);have hs3:=E3.size;refine Ky rfl ?_;refine Kt ?_;refine Ke <| Kc rfl ?_
     refine Js (XSl 3 XInt) rfl el23 Tryz.sizeOf88 ?_;rintro b2 w4 hb2 b2lt E4 hO2;have hs4:=E4.size;refine Wo rfl (Kb (v:=.slice _ _ _) rfl) <| Wo rfl (Kb (v:=.bool _) rfl) <| Kd ?_
     refine Ja ?_;refine at_ret (v:=.tuple #[.slice _ _ _,.bool _]) rfl ?_;exact ⟨_,rfl,(((E1.trans E2).trans E3).trans E4),hO2.toB.o.mono (by omega)⟩;contradiction
   ·focus
     refine Ke <| Kc rfl <| Jp rfl rfl rfl ?_;rintro b1 w1 hb1 E1 hB1;have hlb1:=hB1.lt;have hs1:=E1.size;refine Wo rfl (Kb (v:=.slice _ _ _) rfl) ?_
     refine Wo rfl (Kb (v:=.bool _) rfl) <| Kd <| Ke <| Kc rfl <| Wo rfl (Kf Tryz.underlying48 rfl rfl Tryz.sizeOf9 rfl) ?_
     refine Wo (v:=.string _) rfl (Km Tryz.isAgg9 rfl (hB1.cell rfl)) <| Kj rfl (Jk (a:=.string _) Tryz.call122 rfl) (k0 _) ?_;rintro _ w2 ⟨u1,rfl,E2,hO1⟩;have hs2:=E2.size
     refine Wo rfl (Ka (v:=.tuple _) rfl) <| Wo rfl (Kk (v:=u1) rfl rfl) <| Wo rfl (Kk (v:=.bool _) rfl rfl) <| Wo rfl (Kb (v:=u1) rfl) ?_
     refine Wo rfl (Kb (v:=.bool _) rfl) <| Kd <| Ke <| Kr <| Ke <| Kc rfl <| Wo rfl (Kf Tryz.underlying48 rfl rfl Tryz.sizeOf3 rfl) ?_
     refine Wo (v:=.int _ _) rfl (Km Tryz.isAgg3 rfl ((hB1.ext E2).cell rfl)) <| Wo rfl (Kx rfl rfl) <| Kv rfl (Ka (v:=.bool _) rfl) (fun h1=>?_) (fun h1=>?_);contradiction
     refine Ki rfl <| Ki rfl <| Ki rfl <| Wo rfl (Kn (v:=.bool _) rfl rfl) <| Wo rfl (Ka (v:=.bool _) rfl) <| Ki rfl <| Ki rfl ?_
     refine Ki rfl <| Wo rfl (Kn (v:=.bool _) rfl rfl) <| Wo rfl (Kb (v:=.bool _) rfl) <| Kd <| Ky rfl ?_;refine Ke <| Kc rfl ?_
     refine Wo rfl (Kf Tryz.underlying48 rfl rfl Tryz.sizeOf3 rfl) <| Wo (v:=.int _ _) rfl (Km Tryz.isAgg3 rfl ((hB1.ext E2).cell rfl)) <| Wo rfl (Kx rfl rfl) ?_
     refine Kv rfl (Ka (v:=.bool _) rfl) (fun h2=>?_) (fun h2=>?_);contradiction;refine Ki rfl <| Wo rfl (Kn (v:=.bool _) rfl rfl) <| Wo rfl (Ka (v:=.bool _) rfl) ?_
     refine Ki rfl <| Ki rfl <| Ki rfl <| Wo rfl (Kn (v:=.bool _) rfl rfl) <| Wo rfl (Kb (v:=.bool _) rfl) <| Kd <| Ky rfl ?_
     refine Ke <| Kc rfl <| Wo rfl (Kf Tryz.underlying48 rfl rfl Tryz.sizeOf3 rfl) <| Wo (v:=.int _ _) rfl (Km Tryz.isAgg3 rfl ((hB1.ext E2).cell rfl)) ?_
     refine Wo rfl (Kx rfl rfl) <| Kv rfl (Ka (v:=.bool _) rfl) (fun h3=>?_) (fun h3=>?_);refine Wo rfl (Ka (v:=.bool _) rfl) <| Wo rfl (Kz (v:=.bool _) rfl rfl) ?_
     refine Wo rfl (Ka (v:=.bool _) rfl) <| Wo rfl (Kf Tryz.underlying48 rfl rfl Tryz.sizeOf3 rfl) <| Wo (v:=.int _ _) rfl (Km Tryz.isAgg3 rfl ((hB1.ext E2).cell rfl)) ?_
     refine Wo rfl (Kx rfl rfl) <| Wo rfl (Kz (v:=.bool _) rfl rfl) <| Wo rfl (Kb (v:=.bool _) rfl) <| Kd <| Kg rfl (fun h4=>?_) (fun h4=>?_);contradiction
     refine Ke <| W_draw mixed (by kernel_rfl) rfl ?_;refine Jb rfl (fun _ _=>Kf Tryz.underlying48 rfl rfl Tryz.sizeOf3 rfl) ?_
     refine Jb (v:=.int _ _) rfl (fun w' hw'=>Km Tryz.isAgg3 rfl (((hB1.ext E2).ext hw').cell rfl)) ?_;refine Jb rfl (fun _ _=>Kx rfl rfl) ?_
     refine Jt rfl (fun _ _=>Ka (v:=.bool _) rfl) (fun h5=>?_) (fun h5=>?_);contradiction;refine Kq rfl <| Kq rfl <| Kq rfl ?_
     refine Jb rfl (fun _ _=>Kn (v:=.bool _) rfl rfl) ?_;refine Jb rfl (fun _ _=>Ka (v:=.bool _) rfl) ?_;refine Kq rfl <| Kq rfl <| Kq rfl <| Kq rfl ?_
     refine Kq rfl <| Kq rfl <| Jb rfl (fun _ _=>Kn (v:=.bool _) rfl rfl) ?_;refine Jb rfl (fun _ _=>Ka (v:=.bool _) rfl) ?_;refine Kq rfl <| Kq rfl ?_
     refine Kq rfl <| Kq rfl <| Kq rfl <| Kq rfl <| Kq rfl <| Kq rfl <| Jb rfl (fun _ _=>Kn (v:=.bool _) rfl rfl) ?_
     refine Jb rfl (fun _ _=>Kb (v:=.bool _) rfl) ?_;refine Wq_nil (fun w3 E3=>?_);have hs3:=E3.size;refine Ky rfl ?_;refine Kt ?_;refine Ke <| Kc rfl ?_
     refine Js (XSl 3 XInt) rfl el23 Tryz.sizeOf88 ?_;rintro b2 w4 hb2 b2lt E4 hO2;have hs4:=E4.size;refine Wo rfl (Kb (v:=.slice _ _ _) rfl) <| Wo rfl (Kb (v:=.bool _) rfl) <| Kd ?_
     refine Ja ?_;refine at_ret (v:=.tuple #[.slice _ _ _,.bool _]) rfl ?_;exact ⟨_,rfl,(((E1.trans E2).trans E3).trans E4),hO2.toB.o.mono (by omega)⟩;contradiction
 by_cases e3:k=3
 ·subst e3
  by_cases et:t=[]
  ·subst et
   by_cases en:0≤n∧n≤(p.length:Int) - 1
   ·have k2 : ∀ w,Does Tryz.prog 116 [.int .i64 n,.int .i64 0,.int .i64 ((p.length:Int) - 1)] w (Ret w (.bool true)):=fun w=>by
     have:=l1In_ok n 0 ((p.length:Int) - 1) w;rwa [decide_eq_true en] at this
    have hrow:p[0].length=p.length:=hp.row hp1
    obtain ⟨i,rfl⟩ : ∃ i:Nat,n=i:=⟨n.toNat,by omega⟩
    have hil:i < p.length:=by omega
    have hbit:bit p 0 i=p[0][i]:=by unfold bit;rw [getD_lt hp1,getD_lt (show i < p[0].length by omega)]
    by_cases eb:p[0][i]=1
    ·have hm:M=some (lst p i):=hM.trans (by simp only [madeV];rw [if_neg (fun h=>absurd h.1 (by decide)),if_neg (fun h=>absurd h.1 (by decide)),if_neg (fun h=>absurd h.1 (by decide)),if_pos ⟨trivial,trivial,by omega,by omega,by rw [Int.toNat_natCast,hbit,eb]⟩,Int.toNat_natCast])
     have hNi:Nod p (i:Int):=⟨hp,by omega,by omega⟩
     have k3 : ∀ (w:World) (v:Value),ESl Ints w v p→Does Tryz.prog 126 [v,.int .i64 (i:Int)] w (RetO w XR (lst p i)):=fun w v h=>by
      have:=LeastOf_ok w v p h (i:Int);rw [if_pos hNi] at this;exact this
     rw [hm,show og (some (lst p i))=lst p i from rfl,show (some (lst p i)).isSome=true from rfl]
     focus
      refine Ke <| Kc rfl <| Jp rfl rfl rfl ?_;rintro b1 w1 hb1 E1 hB1;have hlb1:=hB1.lt;have hs1:=E1.size;refine Wo rfl (Kb (v:=.slice _ _ _) rfl) ?_
      refine Wo rfl (Kb (v:=.bool _) rfl) <| Kd <| Ke <| Kc rfl <| Wo rfl (Kf Tryz.underlying48 rfl rfl Tryz.sizeOf9 rfl) ?_
      refine Wo (v:=.string _) rfl (Km Tryz.isAgg9 rfl (hB1.cell rfl)) <| Kj rfl (Jk (a:=.string _) Tryz.call122 rfl) (k0 _) ?_;rintro _ w2 ⟨u1,rfl,E2,hO1⟩;have hs2:=E2.size
      refine Wo rfl (Ka (v:=.tuple _) rfl) <| Wo rfl (Kk (v:=u1) rfl rfl) <| Wo rfl (Kk (v:=.bool _) rfl rfl) <| Wo rfl (Kb (v:=u1) rfl) ?_
      refine Wo rfl (Kb (v:=.bool _) rfl) <| Kd <| Ke <| Kr <| Ke <| Kc rfl <| Wo rfl (Kf Tryz.underlying48 rfl rfl Tryz.sizeOf3 rfl) ?_
      refine Wo (v:=.int _ _) rfl (Km Tryz.isAgg3 rfl ((hB1.ext E2).cell rfl)) <| Wo rfl (Kx rfl rfl) <| Kv rfl (Ka (v:=.bool _) rfl) (fun h1=>?_) (fun h1=>?_);contradiction
      refine Ki rfl <| Ki rfl <| Ki rfl <| Wo rfl (Kn (v:=.bool _) rfl rfl) <| Wo rfl (Ka (v:=.bool _) rfl) <| Ki rfl <| Ki rfl ?_
      refine Ki rfl <| Wo rfl (Kn (v:=.bool _) rfl rfl) <| Wo rfl (Kb (v:=.bool _) rfl) <| Kd <| Ky rfl ?_;refine Ke <| Kc rfl ?_
      refine Wo rfl (Kf Tryz.underlying48 rfl rfl Tryz.sizeOf3 rfl) <| Wo (v:=.int _ _) rfl (Km Tryz.isAgg3 rfl ((hB1.ext E2).cell rfl)) <| Wo rfl (Kx rfl rfl) ?_
      refine Kv rfl (Ka (v:=.bool _) rfl) (fun h2=>?_) (fun h2=>?_);contradiction;refine Ki rfl <| Wo rfl (Kn (v:=.bool _) rfl rfl) <| Wo rfl (Ka (v:=.bool _) rfl) ?_
      refine Ki rfl <| Ki rfl <| Ki rfl <| Wo rfl (Kn (v:=.bool _) rfl rfl) <| Wo rfl (Kb (v:=.bool _) rfl) <| Kd <| Ky rfl ?_
      refine Ke <| Kc rfl <| Wo rfl (Kf Tryz.underlying48 rfl rfl Tryz.sizeOf3 rfl) <| Wo (v:=.int _ _) rfl (Km Tryz.isAgg3 rfl ((hB1.ext E2).cell rfl)) ?_
      refine Wo rfl (Kx rfl rfl) <| Kv rfl (Ka (v:=.bool _) rfl) (fun h3=>?_) (fun h3=>?_);contradiction;refine Ki rfl <| Wo rfl (Kn (v:=.bool _) rfl rfl) ?_
      refine Wo rfl (Ka (v:=.bool _) rfl) <| Ki rfl <| Ki rfl <| Ki rfl <| Wo rfl (Kn (v:=.bool _) rfl rfl) <| Wo rfl (Kb (v:=.bool _) rfl) ?_
      refine Kd <| Ky rfl ?_;refine Ke <| W_draw mixed (by kernel_rfl) rfl ?_;refine Jb rfl (fun _ _=>Kf Tryz.underlying48 rfl rfl Tryz.sizeOf3 rfl) ?_
      refine Jb (v:=.int _ _) rfl (fun w' hw'=>Km Tryz.isAgg3 rfl (((hB1.ext E2).ext hw').cell rfl)) ?_;refine Jb rfl (fun _ _=>Kx rfl rfl) ?_
      refine Jt rfl (fun _ _=>Ka (v:=.bool _) rfl) (fun h4=>?_) (fun h4=>?_);refine Jb rfl (fun _ _=>Kf Tryz.underlying48 rfl rfl Tryz.sizeOf9 rfl) ?_
      refine Jb (v:=.string _) rfl (fun w' hw'=>Km Tryz.isAgg9 rfl (((hB1.ext E2).ext hw').cell rfl)) ?_;refine Jb rfl (fun _ _=>opv_eql_str rfl rfl) ?_;refine Jb rfl (fun _ _=>Kz (v:=.bool _) rfl rfl) ?_
      refine Jt rfl (fun _ _=>Ka (v:=.bool _) rfl) (fun h5=>?_) (fun h5=>?_);refine Jb rfl (fun _ _=>Kf Tryz.underlying48 rfl rfl Tryz.sizeOf3 rfl) ?_
      refine Jb (v:=.int _ _) rfl (fun w' hw'=>Km Tryz.isAgg3 rfl (((hB1.ext E2).ext hw').cell rfl)) ?_;refine Jb rfl (fun _ _=>Ka (v:=v) rfl) ?_;refine Jb rfl (fun _ _=>Ko Tryz.underlying23 rfl h) ?_
      refine Jb rfl (fun _ _=>opv_sub rfl rfl (by omega)) ?_;refine Wq_call rfl (fun _ _=>opc3 (a:=.int _ _) (b:=.int _ _) (c:=.int _ _) Tryz.call116 rfl rfl rfl) (fun w' hw'=>(k2 _)) ?_
      refine Jb rfl (fun _ _=>Kz (v:=.bool _) rfl rfl) ?_;refine Jb rfl (fun _ _=>Ka (v:=.bool _) rfl) ?_;refine Jb rfl (fun _ _=>Ka (v:=v) rfl) ?_
      refine Wq_get (k:=0) Tryz.underlying23 Tryz.sizeOf88 Tryz.isAgg88 rfl (fun _=>rfl) rfl h (E1.trans E2) rfl (by first | omega | (simp <;> omega)) ?_;rintro _ u2 hu1
      refine Jb rfl (fun _ _=>Kf Tryz.underlying48 rfl rfl Tryz.sizeOf3 rfl) ?_;refine Jb (v:=.int _ _) rfl (fun w' hw'=>Km Tryz.isAgg3 rfl (((hB1.ext E2).ext hw').cell rfl)) ?_
      refine Wq_get Tryz.underlying88 Tryz.sizeOf3 Tryz.isAgg3 rfl (fun _=>rfl) rfl hu1 (E1.trans E2) rfl (by first | omega | (simp <;> omega)) ?_;rintro _ _ rfl;refine Jb rfl (fun _ _=>Kx rfl rfl) ?_
      refine Jb rfl (fun _ _=>Kz (v:=.bool _) rfl rfl) ?_;refine Jb rfl (fun _ _=>Kb (v:=.bool _) rfl) ?_;refine Wq_nil (fun w3 E3=>?_);have hs3:=E3.size
      refine Kg rfl (fun h6=>?_) (fun h6=>?_);refine Ke <| Kc rfl <| Wo rfl (Ka (v:=v) rfl) <| Wo rfl (Kf Tryz.underlying48 rfl rfl Tryz.sizeOf3 rfl) ?_
      refine Wo (v:=.int _ _) rfl (Km Tryz.isAgg3 rfl ((hB1.ext (E2.trans E3)).cell rfl)) <| Kj rfl (Jn (a:=v) (b:=.int _ _) Tryz.call126 rfl rfl) (k3 _ _ ((Mono.mono ((E1.trans E2).trans E3) h))) ?_
      rintro u3 w4 ⟨E4,hO2⟩;have hs4:=E4.size;refine Wo rfl (Kb (v:=u3) rfl) <| Wo rfl (Kb (v:=.bool _) rfl) <| Kd <| Ja ?_;refine at_ret (v:=.tuple #[u3,.bool _]) rfl ?_
      exact ⟨_,rfl,(((E1.trans E2).trans E3).trans E4),hO2.toB.o.mono (by omega)⟩;contradiction;contradiction;contradiction
    ·have hm:M=none:=hM.trans (by simp only [madeV];rw [if_neg (fun h=>absurd h.1 (by decide)),if_neg (fun h=>absurd h.1 (by decide)),if_neg (fun h=>absurd h.1 (by decide)),if_neg (fun h=>eb (by have:=h.2.2.2.2;rwa [Int.toNat_natCast,hbit] at this))])
     rw [hm,show og none=[] from rfl,show (none:Option (List (List Int))).isSome=false from rfl]
     focus
      refine Ke <| Kc rfl <| Jp rfl rfl rfl ?_;rintro b1 w1 hb1 E1 hB1;have hlb1:=hB1.lt;have hs1:=E1.size;refine Wo rfl (Kb (v:=.slice _ _ _) rfl) ?_
      refine Wo rfl (Kb (v:=.bool _) rfl) <| Kd <| Ke <| Kc rfl <| Wo rfl (Kf Tryz.underlying48 rfl rfl Tryz.sizeOf9 rfl) ?_
      refine Wo (v:=.string _) rfl (Km Tryz.isAgg9 rfl (hB1.cell rfl)) <| Kj rfl (Jk (a:=.string _) Tryz.call122 rfl) (k0 _) ?_;rintro _ w2 ⟨u1,rfl,E2,hO1⟩;have hs2:=E2.size
      refine Wo rfl (Ka (v:=.tuple _) rfl) <| Wo rfl (Kk (v:=u1) rfl rfl) <| Wo rfl (Kk (v:=.bool _) rfl rfl) <| Wo rfl (Kb (v:=u1) rfl) ?_
      refine Wo rfl (Kb (v:=.bool _) rfl) <| Kd <| Ke <| Kr <| Ke <| Kc rfl <| Wo rfl (Kf Tryz.underlying48 rfl rfl Tryz.sizeOf3 rfl) ?_
      refine Wo (v:=.int _ _) rfl (Km Tryz.isAgg3 rfl ((hB1.ext E2).cell rfl)) <| Wo rfl (Kx rfl rfl) <| Kv rfl (Ka (v:=.bool _) rfl) (fun h1=>?_) (fun h1=>?_);contradiction
      refine Ki rfl <| Ki rfl <| Ki rfl <| Wo rfl (Kn (v:=.bool _) rfl rfl) <| Wo rfl (Ka (v:=.bool _) rfl) <| Ki rfl <| Ki rfl ?_
      refine Ki rfl <| Wo rfl (Kn (v:=.bool _) rfl rfl) <| Wo rfl (Kb (v:=.bool _) rfl) <| Kd <| Ky rfl ?_;refine Ke <| Kc rfl ?_
      refine Wo rfl (Kf Tryz.underlying48 rfl rfl Tryz.sizeOf3 rfl) <| Wo (v:=.int _ _) rfl (Km Tryz.isAgg3 rfl ((hB1.ext E2).cell rfl)) <| Wo rfl (Kx rfl rfl) ?_
      refine Kv rfl (Ka (v:=.bool _) rfl) (fun h2=>?_) (fun h2=>?_);contradiction;refine Ki rfl <| Wo rfl (Kn (v:=.bool _) rfl rfl) <| Wo rfl (Ka (v:=.bool _) rfl) ?_
      refine Ki rfl <| Ki rfl <| Ki rfl <| Wo rfl (Kn (v:=.bool _) rfl rfl) <| Wo rfl (Kb (v:=.bool _) rfl) <| Kd <| Ky rfl ?_
      refine Ke <| Kc rfl <| Wo rfl (Kf Tryz.underlying48 rfl rfl Tryz.sizeOf3 rfl) <| Wo (v:=.int _ _) rfl (Km Tryz.isAgg3 rfl ((hB1.ext E2).cell rfl)) ?_
      refine Wo rfl (Kx rfl rfl) <| Kv rfl (Ka (v:=.bool _) rfl) (fun h3=>?_) (fun h3=>?_);contradiction;refine Ki rfl <| Wo rfl (Kn (v:=.bool _) rfl rfl) ?_
      refine Wo rfl (Ka (v:=.bool _) rfl) <| Ki rfl <| Ki rfl <| Ki rfl <| Wo rfl (Kn (v:=.bool _) rfl rfl) <| Wo rfl (Kb (v:=.bool _) rfl) ?_
      refine Kd <| Ky rfl ?_;refine Ke <| W_draw mixed (by kernel_rfl) rfl ?_;refine Jb rfl (fun _ _=>Kf Tryz.underlying48 rfl rfl Tryz.sizeOf3 rfl) ?_
      refine Jb (v:=.int _ _) rfl (fun w' hw'=>Km Tryz.isAgg3 rfl (((hB1.ext E2).ext hw').cell rfl)) ?_;refine Jb rfl (fun _ _=>Kx rfl rfl) ?_
      refine Jt rfl (fun _ _=>Ka (v:=.bool _) rfl) (fun h4=>?_) (fun h4=>?_);refine Jb rfl (fun _ _=>Kf Tryz.underlying48 rfl rfl Tryz.sizeOf9 rfl) ?_
      refine Jb (v:=.string _) rfl (fun w' hw'=>Km Tryz.isAgg9 rfl (((hB1.ext E2).ext hw').cell rfl)) ?_;refine Jb rfl (fun _ _=>opv_eql_str rfl rfl) ?_;refine Jb rfl (fun _ _=>Kz (v:=.bool _) rfl rfl) ?_
      refine Jt rfl (fun _ _=>Ka (v:=.bool _) rfl) (fun h5=>?_) (fun h5=>?_);refine Jb rfl (fun _ _=>Kf Tryz.underlying48 rfl rfl Tryz.sizeOf3 rfl) ?_
      refine Jb (v:=.int _ _) rfl (fun w' hw'=>Km Tryz.isAgg3 rfl (((hB1.ext E2).ext hw').cell rfl)) ?_;refine Jb rfl (fun _ _=>Ka (v:=v) rfl) ?_;refine Jb rfl (fun _ _=>Ko Tryz.underlying23 rfl h) ?_
      refine Jb rfl (fun _ _=>opv_sub rfl rfl (by omega)) ?_;refine Wq_call rfl (fun _ _=>opc3 (a:=.int _ _) (b:=.int _ _) (c:=.int _ _) Tryz.call116 rfl rfl rfl) (fun w' hw'=>(k2 _)) ?_
      refine Jb rfl (fun _ _=>Kz (v:=.bool _) rfl rfl) ?_;refine Jb rfl (fun _ _=>Ka (v:=.bool _) rfl) ?_;refine Jb rfl (fun _ _=>Ka (v:=v) rfl) ?_
      refine Wq_get (k:=0) Tryz.underlying23 Tryz.sizeOf88 Tryz.isAgg88 rfl (fun _=>rfl) rfl h (E1.trans E2) rfl (by first | omega | (simp <;> omega)) ?_;rintro _ u2 hu1
      refine Jb rfl (fun _ _=>Kf Tryz.underlying48 rfl rfl Tryz.sizeOf3 rfl) ?_;refine Jb (v:=.int _ _) rfl (fun w' hw'=>Km Tryz.isAgg3 rfl (((hB1.ext E2).ext hw').cell rfl)) ?_
      refine Wq_get Tryz.underlying88 Tryz.sizeOf3 Tryz.isAgg3 rfl (fun _=>rfl) rfl hu1 (E1.trans E2) rfl (by first | omega | (simp <;> omega)) ?_;rintro _ _ rfl;refine Jb rfl (fun _ _=>Kx rfl rfl) ?_
      refine Jb rfl (fun _ _=>Kz (v:=.bool _) rfl rfl) ?_;refine Jb rfl (fun _ _=>Kb (v:=.bool _) rfl) ?_;refine Wq_nil (fun w3 E3=>?_);have hs3:=E3.size
      refine Kg rfl (fun h6=>?_) (fun h6=>?_);contradiction;refine Kt ?_;refine Ke <| Kc rfl <| Js (XSl 3 XInt) rfl el23 Tryz.sizeOf88 ?_;rintro b2 w4 hb2 b2lt E4 hO2;have hs4:=E4.size
      refine Wo rfl (Kb (v:=.slice _ _ _) rfl) <| Wo rfl (Kb (v:=.bool _) rfl) <| Kd <| Ja ?_;refine at_ret (v:=.tuple #[.slice _ _ _,.bool _]) rfl ?_
      exact ⟨_,rfl,(((E1.trans E2).trans E3).trans E4),hO2.toB.o.mono (by omega)⟩;contradiction;contradiction
   ·have k2 : ∀ w,Does Tryz.prog 116 [.int .i64 n,.int .i64 0,.int .i64 ((p.length:Int) - 1)] w (Ret w (.bool false)):=fun w=>by
     have:=l1In_ok n 0 ((p.length:Int) - 1) w;rwa [decide_eq_false en] at this
    have hm:M=none:=hM.trans (by simp only [madeV];rw [if_neg (fun h=>absurd h.1 (by decide)),if_neg (fun h=>absurd h.1 (by decide)),if_neg (fun h=>absurd h.1 (by decide)),if_neg (fun h=>en ⟨h.2.2.1,by have:=h.2.2.2.1;omega⟩)])
    rw [hm,show og none=[] from rfl,show (none:Option (List (List Int))).isSome=false from rfl]
    focus
     refine Ke <| Kc rfl <| Jp rfl rfl rfl ?_;rintro b1 w1 hb1 E1 hB1;have hlb1:=hB1.lt;have hs1:=E1.size;refine Wo rfl (Kb (v:=.slice _ _ _) rfl) ?_
     refine Wo rfl (Kb (v:=.bool _) rfl) <| Kd <| Ke <| Kc rfl <| Wo rfl (Kf Tryz.underlying48 rfl rfl Tryz.sizeOf9 rfl) ?_
     refine Wo (v:=.string _) rfl (Km Tryz.isAgg9 rfl (hB1.cell rfl)) <| Kj rfl (Jk (a:=.string _) Tryz.call122 rfl) (k0 _) ?_;rintro _ w2 ⟨u1,rfl,E2,hO1⟩;have hs2:=E2.size
     refine Wo rfl (Ka (v:=.tuple _) rfl) <| Wo rfl (Kk (v:=u1) rfl rfl) <| Wo rfl (Kk (v:=.bool _) rfl rfl) <| Wo rfl (Kb (v:=u1) rfl) ?_
     refine Wo rfl (Kb (v:=.bool _) rfl) <| Kd <| Ke <| Kr <| Ke <| Kc rfl <| Wo rfl (Kf Tryz.underlying48 rfl rfl Tryz.sizeOf3 rfl) ?_
     refine Wo (v:=.int _ _) rfl (Km Tryz.isAgg3 rfl ((hB1.ext E2).cell rfl)) <| Wo rfl (Kx rfl rfl) <| Kv rfl (Ka (v:=.bool _) rfl) (fun h1=>?_) (fun h1=>?_);contradiction
     refine Ki rfl <| Ki rfl <| Ki rfl <| Wo rfl (Kn (v:=.bool _) rfl rfl) <| Wo rfl (Ka (v:=.bool _) rfl) <| Ki rfl <| Ki rfl ?_
     refine Ki rfl <| Wo rfl (Kn (v:=.bool _) rfl rfl) <| Wo rfl (Kb (v:=.bool _) rfl) <| Kd <| Ky rfl ?_;refine Ke <| Kc rfl ?_
     refine Wo rfl (Kf Tryz.underlying48 rfl rfl Tryz.sizeOf3 rfl) <| Wo (v:=.int _ _) rfl (Km Tryz.isAgg3 rfl ((hB1.ext E2).cell rfl)) <| Wo rfl (Kx rfl rfl) ?_
     refine Kv rfl (Ka (v:=.bool _) rfl) (fun h2=>?_) (fun h2=>?_);contradiction;refine Ki rfl <| Wo rfl (Kn (v:=.bool _) rfl rfl) <| Wo rfl (Ka (v:=.bool _) rfl) ?_
     refine Ki rfl <| Ki rfl <| Ki rfl <| Wo rfl (Kn (v:=.bool _) rfl rfl) <| Wo rfl (Kb (v:=.bool _) rfl) <| Kd <| Ky rfl ?_
     refine Ke <| Kc rfl <| Wo rfl (Kf Tryz.underlying48 rfl rfl Tryz.sizeOf3 rfl) <| Wo (v:=.int _ _) rfl (Km Tryz.isAgg3 rfl ((hB1.ext E2).cell rfl)) ?_
     refine Wo rfl (Kx rfl rfl) <| Kv rfl (Ka (v:=.bool _) rfl) (fun h3=>?_) (fun h3=>?_);contradiction;refine Ki rfl <| Wo rfl (Kn (v:=.bool _) rfl rfl) ?_
     refine Wo rfl (Ka (v:=.bool _) rfl) <| Ki rfl <| Ki rfl <| Ki rfl <| Wo rfl (Kn (v:=.bool _) rfl rfl) <| Wo rfl (Kb (v:=.bool _) rfl) ?_
     refine Kd <| Ky rfl ?_;refine Ke <| W_draw mixed (by kernel_rfl) rfl ?_;refine Jb rfl (fun _ _=>Kf Tryz.underlying48 rfl rfl Tryz.sizeOf3 rfl) ?_
     refine Jb (v:=.int _ _) rfl (fun w' hw'=>Km Tryz.isAgg3 rfl (((hB1.ext E2).ext hw').cell rfl)) ?_;refine Jb rfl (fun _ _=>Kx rfl rfl) ?_
     refine Jt rfl (fun _ _=>Ka (v:=.bool _) rfl) (fun h4=>?_) (fun h4=>?_);refine Jb rfl (fun _ _=>Kf Tryz.underlying48 rfl rfl Tryz.sizeOf9 rfl) ?_
     refine Jb (v:=.string _) rfl (fun w' hw'=>Km Tryz.isAgg9 rfl (((hB1.ext E2).ext hw').cell rfl)) ?_;refine Jb rfl (fun _ _=>opv_eql_str rfl rfl) ?_;refine Jb rfl (fun _ _=>Kz (v:=.bool _) rfl rfl) ?_
     refine Jt rfl (fun _ _=>Ka (v:=.bool _) rfl) (fun h5=>?_) (fun h5=>?_);refine Jb rfl (fun _ _=>Kf Tryz.underlying48 rfl rfl Tryz.sizeOf3 rfl) ?_
     refine Jb (v:=.int _ _) rfl (fun w' hw'=>Km Tryz.isAgg3 rfl (((hB1.ext E2).ext hw').cell rfl)) ?_;refine Jb rfl (fun _ _=>Ka (v:=v) rfl) ?_;refine Jb rfl (fun _ _=>Ko Tryz.underlying23 rfl h) ?_
     refine Jb rfl (fun _ _=>opv_sub rfl rfl (by omega)) ?_;refine Wq_call rfl (fun _ _=>opc3 (a:=.int _ _) (b:=.int _ _) (c:=.int _ _) Tryz.call116 rfl rfl rfl) (fun w' hw'=>(k2 _)) ?_
     refine Jb rfl (fun _ _=>Kz (v:=.bool _) rfl rfl) ?_;refine Jb rfl (fun _ _=>Ka (v:=.bool _) rfl) ?_;refine Kq rfl <| Kq rfl <| Kq rfl <| Kq rfl ?_
     refine Kq rfl <| Kq rfl <| Kq rfl <| Kq rfl <| Jb rfl (fun _ _=>Kn (v:=.bool _) rfl rfl) ?_;refine Jb rfl (fun _ _=>Kb (v:=.bool _) rfl) ?_
     refine Wq_nil (fun w3 E3=>?_);have hs3:=E3.size;refine Ky rfl ?_;refine Kt ?_;refine Ke <| Kc rfl <| Js (XSl 3 XInt) rfl el23 Tryz.sizeOf88 ?_;rintro b2 w4 hb2 b2lt E4 hO2
     have hs4:=E4.size;refine Wo rfl (Kb (v:=.slice _ _ _) rfl) <| Wo rfl (Kb (v:=.bool _) rfl) <| Kd <| Ja ?_;refine at_ret (v:=.tuple #[.slice _ _ _,.bool _]) rfl ?_
     exact ⟨_,rfl,(((E1.trans E2).trans E3).trans E4),hO2.toB.o.mono (by omega)⟩;contradiction;contradiction
  ·have hm:M=none:=hM.trans (by simp only [madeV];rw [if_neg (fun h=>absurd h.1 (by decide)),if_neg (fun h=>absurd h.1 (by decide)),if_neg (fun h=>absurd h.1 (by decide)),if_neg (fun h=>et h.2.1)])
   rw [hm,show og none=[] from rfl,show (none:Option (List (List Int))).isSome=false from rfl]
   focus
    refine Ke <| Kc rfl <| Jp rfl rfl rfl ?_;rintro b1 w1 hb1 E1 hB1;have hlb1:=hB1.lt;have hs1:=E1.size;refine Wo rfl (Kb (v:=.slice _ _ _) rfl) ?_
    refine Wo rfl (Kb (v:=.bool _) rfl) <| Kd <| Ke <| Kc rfl <| Wo rfl (Kf Tryz.underlying48 rfl rfl Tryz.sizeOf9 rfl) ?_
    refine Wo (v:=.string _) rfl (Km Tryz.isAgg9 rfl (hB1.cell rfl)) <| Kj rfl (Jk (a:=.string _) Tryz.call122 rfl) (k0 _) ?_;rintro _ w2 ⟨u1,rfl,E2,hO1⟩;have hs2:=E2.size
    refine Wo rfl (Ka (v:=.tuple _) rfl) <| Wo rfl (Kk (v:=u1) rfl rfl) <| Wo rfl (Kk (v:=.bool _) rfl rfl) <| Wo rfl (Kb (v:=u1) rfl) ?_
    refine Wo rfl (Kb (v:=.bool _) rfl) <| Kd <| Ke <| Kr <| Ke <| Kc rfl <| Wo rfl (Kf Tryz.underlying48 rfl rfl Tryz.sizeOf3 rfl) ?_
    refine Wo (v:=.int _ _) rfl (Km Tryz.isAgg3 rfl ((hB1.ext E2).cell rfl)) <| Wo rfl (Kx rfl rfl) <| Kv rfl (Ka (v:=.bool _) rfl) (fun h1=>?_) (fun h1=>?_);contradiction
    refine Ki rfl <| Ki rfl <| Ki rfl <| Wo rfl (Kn (v:=.bool _) rfl rfl) <| Wo rfl (Ka (v:=.bool _) rfl) <| Ki rfl <| Ki rfl ?_
    refine Ki rfl <| Wo rfl (Kn (v:=.bool _) rfl rfl) <| Wo rfl (Kb (v:=.bool _) rfl) <| Kd <| Ky rfl ?_;refine Ke <| Kc rfl ?_
    refine Wo rfl (Kf Tryz.underlying48 rfl rfl Tryz.sizeOf3 rfl) <| Wo (v:=.int _ _) rfl (Km Tryz.isAgg3 rfl ((hB1.ext E2).cell rfl)) <| Wo rfl (Kx rfl rfl) ?_
    refine Kv rfl (Ka (v:=.bool _) rfl) (fun h2=>?_) (fun h2=>?_);contradiction;refine Ki rfl <| Wo rfl (Kn (v:=.bool _) rfl rfl) <| Wo rfl (Ka (v:=.bool _) rfl) ?_
    refine Ki rfl <| Ki rfl <| Ki rfl <| Wo rfl (Kn (v:=.bool _) rfl rfl) <| Wo rfl (Kb (v:=.bool _) rfl) <| Kd <| Ky rfl ?_
    refine Ke <| Kc rfl <| Wo rfl (Kf Tryz.underlying48 rfl rfl Tryz.sizeOf3 rfl) <| Wo (v:=.int _ _) rfl (Km Tryz.isAgg3 rfl ((hB1.ext E2).cell rfl)) ?_
    refine Wo rfl (Kx rfl rfl) <| Kv rfl (Ka (v:=.bool _) rfl) (fun h3=>?_) (fun h3=>?_);contradiction;refine Ki rfl <| Wo rfl (Kn (v:=.bool _) rfl rfl) ?_
    refine Wo rfl (Ka (v:=.bool _) rfl) <| Ki rfl <| Ki rfl <| Ki rfl <| Wo rfl (Kn (v:=.bool _) rfl rfl) <| Wo rfl (Kb (v:=.bool _) rfl) ?_
    refine Kd <| Ky rfl ?_;refine Ke <| W_draw mixed (by kernel_rfl) rfl ?_;refine Jb rfl (fun _ _=>Kf Tryz.underlying48 rfl rfl Tryz.sizeOf3 rfl) ?_
    refine Jb (v:=.int _ _) rfl (fun w' hw'=>Km Tryz.isAgg3 rfl (((hB1.ext E2).ext hw').cell rfl)) ?_;refine Jb rfl (fun _ _=>Kx rfl rfl) ?_
    refine Jt rfl (fun _ _=>Ka (v:=.bool _) rfl) (fun h4=>?_) (fun h4=>?_);refine Jb rfl (fun _ _=>Kf Tryz.underlying48 rfl rfl Tryz.sizeOf9 rfl) ?_
    refine Jb (v:=.string _) rfl (fun w' hw'=>Km Tryz.isAgg9 rfl (((hB1.ext E2).ext hw').cell rfl)) ?_;refine Jb rfl (fun _ _=>opv_eql_str rfl rfl) ?_;refine Jb rfl (fun _ _=>Kz (v:=.bool _) rfl rfl) ?_
    refine Jt rfl (fun _ _=>Ka (v:=.bool _) rfl) (fun h5=>?_) (fun h5=>?_);contradiction;refine Kq rfl <| Kq rfl <| Kq rfl <| Kq rfl <| Kq rfl ?_
    refine Kq rfl <| Jb rfl (fun _ _=>Kn (v:=.bool _) rfl rfl) ?_;refine Jb rfl (fun _ _=>Ka (v:=.bool _) rfl) ?_;refine Kq rfl <| Kq rfl <| Kq rfl ?_
    refine Kq rfl <| Kq rfl <| Kq rfl <| Kq rfl <| Kq rfl <| Jb rfl (fun _ _=>Kn (v:=.bool _) rfl rfl) ?_
    refine Jb rfl (fun _ _=>Kb (v:=.bool _) rfl) ?_;refine Wq_nil (fun w3 E3=>?_);have hs3:=E3.size;refine Ky rfl ?_;refine Kt ?_;refine Ke <| Kc rfl ?_
    refine Js (XSl 3 XInt) rfl el23 Tryz.sizeOf88 ?_;rintro b2 w4 hb2 b2lt E4 hO2;have hs4:=E4.size;refine Wo rfl (Kb (v:=.slice _ _ _) rfl) <| Wo rfl (Kb (v:=.bool _) rfl) <| Kd ?_
    refine Ja ?_;refine at_ret (v:=.tuple #[.slice _ _ _,.bool _]) rfl ?_;exact ⟨_,rfl,(((E1.trans E2).trans E3).trans E4),hO2.toB.o.mono (by omega)⟩;contradiction
 have hm:M=none:=hM.trans (by simp only [madeV];rw [if_neg (fun h=>e0 h.1),if_neg (fun h=>e1 h.1),if_neg (fun h=>e2 h.1),if_neg (fun h=>e3 h.1)])
 rw [hm,show og none=[] from rfl,show (none:Option (List (List Int))).isSome=false from rfl]
 focus
  refine Ke <| Kc rfl <| Jp rfl rfl rfl ?_;rintro b1 w1 hb1 E1 hB1;have hlb1:=hB1.lt;have hs1:=E1.size;refine Wo rfl (Kb (v:=.slice _ _ _) rfl) ?_
  refine Wo rfl (Kb (v:=.bool _) rfl) <| Kd <| Ke <| Kc rfl <| Wo rfl (Kf Tryz.underlying48 rfl rfl Tryz.sizeOf9 rfl) ?_
  refine Wo (v:=.string _) rfl (Km Tryz.isAgg9 rfl (hB1.cell rfl)) <| Kj rfl (Jk (a:=.string _) Tryz.call122 rfl) (k0 _) ?_;rintro _ w2 ⟨u1,rfl,E2,hO1⟩;have hs2:=E2.size
  refine Wo rfl (Ka (v:=.tuple _) rfl) <| Wo rfl (Kk (v:=u1) rfl rfl) <| Wo rfl (Kk (v:=.bool _) rfl rfl) <| Wo rfl (Kb (v:=u1) rfl) ?_
  refine Wo rfl (Kb (v:=.bool _) rfl) <| Kd <| Ke <| Kr <| Ke <| Kc rfl <| Wo rfl (Kf Tryz.underlying48 rfl rfl Tryz.sizeOf3 rfl) ?_
  refine Wo (v:=.int _ _) rfl (Km Tryz.isAgg3 rfl ((hB1.ext E2).cell rfl)) <| Wo rfl (Kx rfl rfl) <| Kv rfl (Ka (v:=.bool _) rfl) (fun h1=>?_) (fun h1=>?_);contradiction
  refine Ki rfl <| Ki rfl <| Ki rfl <| Wo rfl (Kn (v:=.bool _) rfl rfl) <| Wo rfl (Ka (v:=.bool _) rfl) <| Ki rfl <| Ki rfl ?_
  refine Ki rfl <| Wo rfl (Kn (v:=.bool _) rfl rfl) <| Wo rfl (Kb (v:=.bool _) rfl) <| Kd <| Ky rfl ?_;refine Ke <| Kc rfl ?_
  refine Wo rfl (Kf Tryz.underlying48 rfl rfl Tryz.sizeOf3 rfl) <| Wo (v:=.int _ _) rfl (Km Tryz.isAgg3 rfl ((hB1.ext E2).cell rfl)) <| Wo rfl (Kx rfl rfl) ?_
  refine Kv rfl (Ka (v:=.bool _) rfl) (fun h2=>?_) (fun h2=>?_);contradiction;refine Ki rfl <| Wo rfl (Kn (v:=.bool _) rfl rfl) <| Wo rfl (Ka (v:=.bool _) rfl) ?_
  refine Ki rfl <| Ki rfl <| Ki rfl <| Wo rfl (Kn (v:=.bool _) rfl rfl) <| Wo rfl (Kb (v:=.bool _) rfl) <| Kd <| Ky rfl ?_
  refine Ke <| Kc rfl <| Wo rfl (Kf Tryz.underlying48 rfl rfl Tryz.sizeOf3 rfl) <| Wo (v:=.int _ _) rfl (Km Tryz.isAgg3 rfl ((hB1.ext E2).cell rfl)) ?_
  refine Wo rfl (Kx rfl rfl) <| Kv rfl (Ka (v:=.bool _) rfl) (fun h3=>?_) (fun h3=>?_);contradiction;refine Ki rfl <| Wo rfl (Kn (v:=.bool _) rfl rfl) ?_
  refine Wo rfl (Ka (v:=.bool _) rfl) <| Ki rfl <| Ki rfl <| Ki rfl <| Wo rfl (Kn (v:=.bool _) rfl rfl) <| Wo rfl (Kb (v:=.bool _) rfl) ?_
  refine Kd <| Ky rfl ?_;refine Ke <| W_draw mixed (by kernel_rfl) rfl ?_;refine Jb rfl (fun _ _=>Kf Tryz.underlying48 rfl rfl Tryz.sizeOf3 rfl) ?_
  refine Jb (v:=.int _ _) rfl (fun w' hw'=>Km Tryz.isAgg3 rfl (((hB1.ext E2).ext hw').cell rfl)) ?_;refine Jb rfl (fun _ _=>Kx rfl rfl) ?_
  refine Jt rfl (fun _ _=>Ka (v:=.bool _) rfl) (fun h4=>?_) (fun h4=>?_);contradiction;refine Kq rfl <| Kq rfl <| Kq rfl ?_
  refine Jb rfl (fun _ _=>Kn (v:=.bool _) rfl rfl) ?_;refine Jb rfl (fun _ _=>Ka (v:=.bool _) rfl) ?_;refine Kq rfl <| Kq rfl <| Kq rfl <| Kq rfl ?_
  refine Kq rfl <| Kq rfl <| Jb rfl (fun _ _=>Kn (v:=.bool _) rfl rfl) ?_;refine Jb rfl (fun _ _=>Ka (v:=.bool _) rfl) ?_;refine Kq rfl <| Kq rfl ?_
  refine Kq rfl <| Kq rfl <| Kq rfl <| Kq rfl <| Kq rfl <| Kq rfl <| Jb rfl (fun _ _=>Kn (v:=.bool _) rfl rfl) ?_
  refine Jb rfl (fun _ _=>Kb (v:=.bool _) rfl) ?_;refine Wq_nil (fun w3 E3=>?_);have hs3:=E3.size;refine Ky rfl ?_;refine Kt ?_;refine Ke <| Kc rfl ?_
  refine Js (XSl 3 XInt) rfl el23 Tryz.sizeOf88 ?_;rintro b2 w4 hb2 b2lt E4 hO2;have hs4:=E4.size;refine Wo rfl (Kb (v:=.slice _ _ _) rfl) <| Wo rfl (Kb (v:=.bool _) rfl) <| Kd ?_
  refine Ja ?_;refine at_ret (v:=.tuple #[.slice _ _ _,.bool _]) rfl ?_;exact ⟨_,rfl,(((E1.trans E2).trans E3).trans E4),hO2.toB.o.mono (by omega)⟩
open Classical in
theorem spec_DeskDo_ok (w:World) (u1 u2:Value) (d:Dsk) (h1:ESl Ints w u1 d.now) (h2:ESl (ESl Ints) w u2 d.past) (k n:Int) (t:List UInt8) (ht:t.length≤1048576) :
  Does Tryz.prog 37 [.agg #[u1,u2],.agg #[.int .i64 k,str t,.int .i64 n]] w (RetDkAB w (if DkOk d then (doV d ⟨k,t,n⟩).1.now else []) (if DkOk d then (doV d ⟨k,t,n⟩).1.past else []) (decide (DkOk d) && (doV d ⟨k,t,n⟩).2)):=by
 obtain ⟨p,pp⟩:=d
 have hle:=h2.le
 have i1:isCell u1=true:=ESl_isC h1
 have i2:isCell u2=true:=ESl_isC h2
 simp only at h1 h2 hle
 refine fn_of_Wct Tryz.func37 rfl Tryz.results37 Tryz.ntmps37 rfl Tryz.isAgg26 Tryz.sizeOf26 ?_
 by_cases hd:DkOk ⟨p,pp⟩
 ·have k0 : ∀ w,ESl Ints w u1 p→ESl (ESl Ints) w u2 pp→Does Tryz.prog 16 [.agg #[u1,u2]] w (Ret w (.bool true)):=fun w h1 h2=>by
   have:=spec_DeskOk_ok w u1 u2 ⟨p,pp⟩ h1 h2;rwa [decide_eq_true hd] at this
  have hpp:Pic p:=hd.1.1
  have hppl:pp.length≤8:=hd.2.1
  have hb1:p.length≤100∧∀ r ∈ p,r.length≤100:=⟨by have:=hpp.2.1;omega,fun r hr=>by rw [(hpp.2.2 r hr).1];have:=hpp.2.1;omega⟩
  have hb2 : ∀ q ∈ pp,q.length≤100∧∀ r ∈ q,r.length≤100:=fun q hq=>by
   have hq:=(hd.2.2 q hq).1
   exact ⟨by have:=hq.2.1;omega,fun r hr=>by rw [(hq.2.2 r hr).1];have:=hq.2.1;omega⟩
  have k1 : ∀ w,ESl Ints w u1 p→ESl (ESl Ints) w u2 pp→Does Tryz.prog 60 [.agg #[u1,u2]] w (RetDk w 23 88 3 p pp):=fun w h1 h2=>l11Copy_ok w u1 u2 p pp h1 h2 hb1 (by omega) hb2
  rw [if_pos hd,if_pos hd,decide_eq_true hd,Bool.true_and]
  by_cases hb:isBack ⟨p,pp⟩ ⟨k,t,n⟩
  ·obtain ⟨e,hne⟩:=hb
   cases e
   have hpl:0 < pp.length:=List.length_pos_iff.2 hne
   have hdo:doV ⟨p,pp⟩ ⟨4,[],0⟩=(⟨pp.getLastD [],pp.dropLast⟩,true):=by unfold doV;rw [if_pos ⟨rfl,hne⟩]
   rw [hdo]
   simp only
   have litown:True:=trivial
   have stop6:True:=trivial
   focus
    refine Ke <| Kc rfl <| Jp rfl rfl rfl ?_;rintro b1 w1 hb3 E1 hB1;have hlb1:=hB1.lt;have hs1:=E1.size;refine Jp rfl rfl rfl ?_;rintro b2 w2 hb4 E2 hB2;have hlb2:=hB2.lt
    have hs2:=E2.size;refine Je rfl flat26 ?_;rintro b3 w3 hb5 E3 hB3;have hlb3:=hB3.lt;have hs3:=E3.size;refine Wo rfl (Kb (v:=.bool _) rfl) <| Kd <| Ke <| Ke ?_
    refine Kc rfl <| Wo (v:=.agg _) rfl (Jd Tryz.isAgg26 Tryz.sizeOf26 rfl (hB1.ext (E2.trans E3))) ?_
    refine Kj rfl (Jk (a:=.agg _) Tryz.call16 rfl) (k0 _ ((Mono.mono ((E1.trans E2).trans E3) h1)) ((Mono.mono ((E1.trans E2).trans E3) h2))) ?_;rintro _ w4 ⟨rfl,E4⟩;have hs4:=E4.size;refine Wo rfl (Jf rfl) ?_
    refine Kd <| Jx rfl (fun h3=>?_) (fun h3=>?_);contradiction;refine Kt ?_;refine Ke <| Kc rfl ?_
    refine Wo (v:=.agg _) rfl (Jd Tryz.isAgg26 Tryz.sizeOf26 rfl (hB1.ext ((E2.trans E3).trans E4))) ?_
    refine Kj rfl (Jk (a:=.agg _) Tryz.call60 rfl) (k1 _ ((Mono.mono (((E1.trans E2).trans E3).trans E4) h1)) ((Mono.mono (((E1.trans E2).trans E3).trans E4) h2))) ?_;rintro _ w5 ⟨u3,q1,m1,rfl,E5,hO1,hQ1,hm1,hn1⟩
    have icu3:=OwnedB.isC hO1;have cpu3:=OwnedB.capOk hO1;have icq1:=OwnedB.isC (Owned.toB hQ1);have cpq1:=OwnedB.capOk (Owned.toB hQ1);have hs5:=E5.size;refine Je rfl flat26 ?_;rintro b4 w6 hb6 E6 hB4
    have hlb4:=hB4.lt;have hs6:=E6.size;refine Jl rfl Tryz.sizeOf26 rfl rfl (by first | rfl | assumption) (by first | rfl | assumption) hB4 (by omega) (((((E1.trans E2).trans E3).trans E4).trans E5).trans E6) ?_
    rintro w7 E7 hB4 K1 hz1;have E8:=((((E2.trans E3).trans E4).trans E5).trans E6).wroteAt (((((E1.trans E2).trans E3).trans E4).trans E5).trans E6) E7 K1 hz1 (by omega);have szE8:=E8.size
    have E9:=(((E3.trans E4).trans E5).trans E6).wroteAt (((((E1.trans E2).trans E3).trans E4).trans E5).trans E6) E7 K1 hz1 (by omega);have szE9:=E9.size
    have E10:=((E4.trans E5).trans E6).wroteAt (((((E1.trans E2).trans E3).trans E4).trans E5).trans E6) E7 K1 hz1 (by omega);have szE10:=E10.size
    have E11:=(E5.trans E6).wroteAt (((((E1.trans E2).trans E3).trans E4).trans E5).trans E6) E7 K1 hz1 (by omega);have szE11:=E11.size
    have E12:=E6.wroteAt (((((E1.trans E2).trans E3).trans E4).trans E5).trans E6) E7 K1 hz1 (by omega);have szE12:=E12.size;have hB1:=(hB1.ext ((((E2.trans E3).trans E4).trans E5).trans E6)).of_heap (K1 _ (by omega))
    have hB2:=(hB2.ext (((E3.trans E4).trans E5).trans E6)).of_heap (K1 _ (by omega));have hB3:=(hB3.ext ((E4.trans E5).trans E6)).of_heap (K1 _ (by omega));have hO1:=(hO1.ext E6).wrote K1 (by omega)
    have hQ1:=(hQ1.toB.ext E6).wrote K1 (by omega);refine Kd <| Ke <| Ke <| Kc rfl <| Wo (v:=.agg _) rfl (Jq Tryz.isAgg48 Tryz.sizeOf48 rfl hB2) ?_
    refine Wo rfl (opv_build (ps:=[(0,.int _ _)]) (cs:=[_,_,_]) flat48 rfl rfl) <| Wo rfl (opv_eqD rfl rfl) <| Kv rfl (Ka (v:=.bool _) rfl) (fun h4=>?_) (fun h4=>?_)
    refine Wo rfl (Kf Tryz.underlying26 rfl rfl Tryz.sizeOf24 rfl) <| Wo (v:=u2) rfl (Km Tryz.isAgg24 rfl (hB1.cell rfl)) <| Wo rfl (Ko Tryz.underlying24 rfl h2) ?_
    refine Wo rfl (opv_gtr rfl rfl) <| Wo rfl (Kz (v:=.bool _) rfl rfl) <| Kd <| Kg rfl (fun h5=>?_) (fun h5=>?_);refine Ke <| Kc rfl ?_
    refine Wo rfl (Kf Tryz.underlying26 rfl rfl Tryz.sizeOf24 rfl) <| Wo (v:=q1) rfl (Km Tryz.isAgg24 rfl (hB4.cell rfl)) <| Wo rfl (Ko Tryz.underlying24 rfl (OwnedB.read hQ1)) ?_
    refine Wo rfl (opv_sub rfl rfl (by omega)) ?_;refine Wo rfl (Kb (v:=.int _ _) rfl) <| Kd <| Ke ?_;rotate_left;(exfalso;omega);contradiction
   clear stop6
   obtain ⟨qb,qc,ur,rfl,hqc,hcl,hel,hqb,hqb2,icr⟩:=hQ1.elem (i:=pp.length - 1) (by omega)
   have hcl:w7.cell? ⟨qb,0+((pp.length:Int) - 1).toNat,none⟩=some ur:=by rw [Nat.zero_add,show ((pp.length:Int) - 1).toNat=pp.length - 1 by omega];exact hcl
   have cellF:True:=trivial
   focus
    have szE12:=E12.size;have szE11:=E11.size;have szE10:=E10.size;have szE9:=E9.size;have szE8:=E8.size;have szE7:=E7.size;have szE6:=E6.size;have szE5:=E5.size;have szE4:=E4.size;have szE3:=E3.size
    have szE2:=E2.size;have szE1:=E1.size;refine Kc rfl <| Wo rfl (Kf Tryz.underlying26 rfl rfl Tryz.sizeOf24 rfl) <| Wo (v:=.slice _ _ _) rfl (Km Tryz.isAgg24 rfl (hB4.cell rfl)) ?_
    refine Wo rfl (Ka (v:=.int _ _) rfl) <| Wo rfl (opv_indexAddr_z Tryz.underlying24 Tryz.sizeOf23 rfl rfl (by omega)) ?_;refine Wo rfl (Km Tryz.isAgg23 rfl (by assumption)) ?_
    refine Wo rfl (Kf Tryz.underlying26 rfl rfl Tryz.sizeOf23 rfl) <| Wo_st (v:=ur) rfl Tryz.sizeOf23 rfl rfl (OwnedB.isC hel) hB4 (by simp) (by omega) E7 ?_;rintro w8 E13 hB4 K2 hz2
    have E14:=E8.wroteAt E7 E13 K2 hz2 (by omega);have szE14:=E14.size;have E15:=E9.wroteAt E7 E13 K2 hz2 (by omega);have szE15:=E15.size;have E16:=E10.wroteAt E7 E13 K2 hz2 (by omega);have szE16:=E16.size
    have E17:=E11.wroteAt E7 E13 K2 hz2 (by omega);have szE17:=E17.size;have E18:=E12.wroteAt E7 E13 K2 hz2 (by omega);have szE18:=E18.size;simp only [List.set] at hB4;have hB1:=hB1.of_heap (K2 _ (by omega))
    have hB2:=hB2.of_heap (K2 _ (by omega));have hB3:=hB3.of_heap (K2 _ (by omega));have hO1:=hO1.wrote K2 (by omega);have hQ1:=hQ1.wrote K2 (by omega);have hel:=hel.wrote K2 (by omega);refine Kd <| Ke ?_
    refine Kc rfl <| Wo rfl (Kf Tryz.underlying26 rfl rfl Tryz.sizeOf24 rfl) <| Wo (v:=.slice _ _ _) rfl (Km Tryz.isAgg24 rfl (hB4.cell rfl)) <| Wo rfl (Ka (v:=.int _ _) rfl) ?_
    refine Wo rfl (opv_slice_sl_hi Tryz.underlying24 Tryz.sizeOf23 rfl rfl (by omega)) ?_;refine Wo rfl (Kf Tryz.underlying26 rfl rfl Tryz.sizeOf24 rfl) ?_
    refine Wo_st (v:=.slice _ _ _) rfl Tryz.sizeOf24 rfl rfl rfl hB4 (by simp) (by omega) E13 ?_;rintro w9 E19 hB4 K3 hz3;have E20:=E14.wroteAt E13 E19 K3 hz3 (by omega);have szE20:=E20.size
    have E21:=E15.wroteAt E13 E19 K3 hz3 (by omega);have szE21:=E21.size;have E22:=E16.wroteAt E13 E19 K3 hz3 (by omega);have szE22:=E22.size;have E23:=E17.wroteAt E13 E19 K3 hz3 (by omega);have szE23:=E23.size
    have E24:=E18.wroteAt E13 E19 K3 hz3 (by omega);have szE24:=E24.size;simp only [List.set] at hB4;have hB1:=hB1.of_heap (K3 _ (by omega));have hB2:=hB2.of_heap (K3 _ (by omega));have hB3:=hB3.of_heap (K3 _ (by omega))
    have hO1:=hO1.wrote K3 (by omega);have hQ1:=hQ1.wrote K3 (by omega);have hel:=hel.wrote K3 (by omega);refine Kd <| Ke <| Kc rfl ?_
    refine Wo (v:=.agg _) rfl (Jd Tryz.isAgg26 Tryz.sizeOf26 rfl hB4) <| Jl rfl Tryz.sizeOf26 rfl rfl (by first | rfl | assumption) (by first | rfl | assumption) hB3 (by omega) E19 ?_;rintro w10 E25 hB3 K4 hz4
    have E26:=E20.wroteAt E19 E25 K4 hz4 (by omega);have szE26:=E26.size;have E27:=E21.wroteAt E19 E25 K4 hz4 (by omega);have szE27:=E27.size;have hB4:=hB4.of_heap (K4 _ (by omega))
    have hB1:=hB1.of_heap (K4 _ (by omega));have hB2:=hB2.of_heap (K4 _ (by omega));have hO1:=hO1.wrote K4 (by omega);have hQ1:=hQ1.wrote K4 (by omega);have hel:=hel.wrote K4 (by omega)
    refine Wo rfl (Kb (v:=.bool _) rfl) <| Kd <| Ja ?_
   have hlast:pp.getLastD []=pp[pp.length - 1]:=by rw [List.getLastD_eq_getLast?,List.getLast?_eq_getElem?,List.getElem?_eq_getElem (by omega)];rfl
   rw [hlast,List.dropLast_eq_take]
   refine ⟨b3,ur,_,rfl,hB3,ur,_,rfl,E25,hel.above.mono (by omega),?_,icr,rfl,by omega⟩
   rw [show ((pp.length:Int) - 1).toNat=pp.length - 1 by omega]
   exact (hQ1.above.mono (by omega)).takeS (by omega)
  ·have hdo:doV ⟨p,pp⟩ ⟨k,t,n⟩=match nextV p ⟨k,t,n⟩ with
    | some c=>(⟨c,last8 (pp++[p])⟩,true)
    | none=>(⟨p,pp⟩,false):=by unfold doV;rw [if_neg hb];rfl
   rw [hdo]
   have hback:(⟨k,t,n⟩:Deed)=⟨4,[],0⟩→pp.length=0:=fun e=>Classical.byContradiction fun h=>hb ⟨e,fun h'=>h (by rw [show pp=[] from h'];rfl)⟩
   have k2 : ∀ w,ESl Ints w u1 p→Does Tryz.prog 93 [u1,.agg #[.int .i64 k,str t,.int .i64 n]] w (RetOB w XR (og (madeV p ⟨k,t,n⟩)) (madeV p ⟨k,t,n⟩).isSome):=fun w h=>l11Made_ok w u1 p h hpp k n t ht
   have litown:True:=trivial
   by_cases ha:(⟨k,t,n⟩:Deed)=⟨4,[],0⟩
   ·have hpl0:=hback ha
    cases ha
    have hmv:madeV p ⟨4,[],0⟩=none:=by simp [madeV]
    have hnx:nextV p ⟨4,[],0⟩=none:=by unfold nextV;rw [hmv]
    rw [hmv,show og none=[] from rfl,show (none:Option (List (List Int))).isSome=false from rfl] at k2
    rw [hnx]
    simp only
    focus
     refine Ke <| Kc rfl <| Jp rfl rfl rfl ?_;rintro b1 w1 hb3 E1 hB1;have hlb1:=hB1.lt;have hs1:=E1.size;refine Jp rfl rfl rfl ?_;rintro b2 w2 hb4 E2 hB2;have hlb2:=hB2.lt
     have hs2:=E2.size;refine Je rfl flat26 ?_;rintro b3 w3 hb5 E3 hB3;have hlb3:=hB3.lt;have hs3:=E3.size;refine Wo rfl (Kb (v:=.bool _) rfl) <| Kd <| Ke <| Ke ?_
     refine Kc rfl <| Wo (v:=.agg _) rfl (Jd Tryz.isAgg26 Tryz.sizeOf26 rfl (hB1.ext (E2.trans E3))) ?_
     refine Kj rfl (Jk (a:=.agg _) Tryz.call16 rfl) (k0 _ ((Mono.mono ((E1.trans E2).trans E3) h1)) ((Mono.mono ((E1.trans E2).trans E3) h2))) ?_;rintro _ w4 ⟨rfl,E4⟩;have hs4:=E4.size;refine Wo rfl (Jf rfl) ?_
     refine Kd <| Jx rfl (fun h3=>?_) (fun h3=>?_);contradiction;refine Kt ?_;refine Ke <| Kc rfl ?_
     refine Wo (v:=.agg _) rfl (Jd Tryz.isAgg26 Tryz.sizeOf26 rfl (hB1.ext ((E2.trans E3).trans E4))) ?_
     refine Kj rfl (Jk (a:=.agg _) Tryz.call60 rfl) (k1 _ ((Mono.mono (((E1.trans E2).trans E3).trans E4) h1)) ((Mono.mono (((E1.trans E2).trans E3).trans E4) h2))) ?_;rintro _ w5 ⟨u3,q1,m1,rfl,E5,hO1,hQ1,hm1,hn1⟩
     have icu3:=OwnedB.isC hO1;have cpu3:=OwnedB.capOk hO1;have icq1:=OwnedB.isC (Owned.toB hQ1);have cpq1:=OwnedB.capOk (Owned.toB hQ1);have hs5:=E5.size;refine Je rfl flat26 ?_;rintro b4 w6 hb6 E6 hB4
     have hlb4:=hB4.lt;have hs6:=E6.size;refine Jl rfl Tryz.sizeOf26 rfl rfl (by first | rfl | assumption) (by first | rfl | assumption) hB4 (by omega) (((((E1.trans E2).trans E3).trans E4).trans E5).trans E6) ?_
     rintro w7 E7 hB4 K1 hz1;have E8:=((((E2.trans E3).trans E4).trans E5).trans E6).wroteAt (((((E1.trans E2).trans E3).trans E4).trans E5).trans E6) E7 K1 hz1 (by omega);have szE8:=E8.size
     have E9:=(((E3.trans E4).trans E5).trans E6).wroteAt (((((E1.trans E2).trans E3).trans E4).trans E5).trans E6) E7 K1 hz1 (by omega);have szE9:=E9.size
     have E10:=((E4.trans E5).trans E6).wroteAt (((((E1.trans E2).trans E3).trans E4).trans E5).trans E6) E7 K1 hz1 (by omega);have szE10:=E10.size
     have E11:=(E5.trans E6).wroteAt (((((E1.trans E2).trans E3).trans E4).trans E5).trans E6) E7 K1 hz1 (by omega);have szE11:=E11.size
     have E12:=E6.wroteAt (((((E1.trans E2).trans E3).trans E4).trans E5).trans E6) E7 K1 hz1 (by omega);have szE12:=E12.size;have hB1:=(hB1.ext ((((E2.trans E3).trans E4).trans E5).trans E6)).of_heap (K1 _ (by omega))
     have hB2:=(hB2.ext (((E3.trans E4).trans E5).trans E6)).of_heap (K1 _ (by omega));have hB3:=(hB3.ext ((E4.trans E5).trans E6)).of_heap (K1 _ (by omega));have hO1:=(hO1.ext E6).wrote K1 (by omega)
     have hQ1:=(hQ1.toB.ext E6).wrote K1 (by omega);refine Kd <| Ke <| Ke <| Kc rfl <| Wo (v:=.agg _) rfl (Jq Tryz.isAgg48 Tryz.sizeOf48 rfl hB2) ?_
     refine Wo rfl (opv_build (ps:=[(0,.int _ _)]) (cs:=[_,_,_]) flat48 rfl rfl) <| Wo rfl (opv_eqD rfl rfl) <| Kv rfl (Ka (v:=.bool _) rfl) (fun h4=>?_) (fun h4=>?_)
     refine Wo rfl (Kf Tryz.underlying26 rfl rfl Tryz.sizeOf24 rfl) <| Wo (v:=u2) rfl (Km Tryz.isAgg24 rfl (hB1.cell rfl)) <| Wo rfl (Ko Tryz.underlying24 rfl h2) ?_
     refine Wo rfl (opv_gtr rfl rfl) <| Wo rfl (Kz (v:=.bool _) rfl rfl) <| Kd <| Kg rfl (fun h5=>?_) (fun h5=>?_);(exfalso;omega);refine Kt ?_;refine Ke ?_
     refine Kc rfl <| Wo rfl (Kf Tryz.underlying26 rfl rfl Tryz.sizeOf23 rfl) <| Wo (v:=u1) rfl (Km Tryz.isAgg23 rfl (hB1.cell rfl)) ?_
     refine Wo (v:=.agg _) rfl (Jq Tryz.isAgg48 Tryz.sizeOf48 rfl hB2) <| Kj rfl (Jn (a:=u1) (b:=.agg _) Tryz.call93 rfl rfl) (k2 _ ((Mono.mono E7 h1))) ?_;rintro _ w8 ⟨u4,rfl,E13,hO2⟩
     have ichO2:=OwnedB.isC (Owned.toB hO2);have hs7:=E13.size;refine Wo rfl (Ka (v:=.tuple _) rfl) <| Wo rfl (Kk (v:=u4) rfl rfl) <| Wo rfl (Kk (v:=.bool _) rfl rfl) ?_
     refine Wo rfl (Kb (v:=u4) rfl) <| Wo rfl (Kb (v:=.bool _) rfl) <| Kd <| Ke <| Ke <| W_draw mixed (by kernel_rfl) rfl ?_
     refine Jb rfl (fun _ _=>Ka (v:=.bool _) rfl) ?_;refine Jb rfl (fun _ _=>Jf rfl) ?_;refine Wq_split rfl (fun _ _=>Ka (v:=.bool _) rfl) (fun h6=>?_) (fun h6=>?_);refine Kq rfl ?_
     refine Kq rfl <| Kq rfl <| Kq rfl <| Kq rfl <| Kq rfl <| Kq rfl <| Kq rfl <| Kq rfl <| Kq rfl <| Kq rfl ?_
     refine Kq rfl <| Kq rfl <| Kq rfl <| Jb rfl (fun _ _=>Kz (v:=.bool _) rfl rfl) ?_;refine Wq_nil (fun w9 E14=>?_);have hs8:=E14.size;refine Ga rfl ?_
     refine Ke <| Kc rfl <| Wo (v:=.agg _) rfl (Jd Tryz.isAgg26 Tryz.sizeOf26 rfl (hB4.ext (E13.trans E14))) ?_
     refine Jl rfl Tryz.sizeOf26 rfl rfl (by first | rfl | assumption) (by first | rfl | assumption) (hB3.ext (E13.trans E14)) (by omega) ((E7.trans E13).trans E14) ?_;rintro w10 E15 hB3 K2 hz2
     have E16:=((E8.trans E13).trans E14).wroteAt ((E7.trans E13).trans E14) E15 K2 hz2 (by omega);have szE16:=E16.size;have E17:=((E9.trans E13).trans E14).wroteAt ((E7.trans E13).trans E14) E15 K2 hz2 (by omega)
     have szE17:=E17.size;have hB4:=(hB4.ext (E13.trans E14)).of_heap (K2 _ (by omega));have hB1:=(hB1.ext (E13.trans E14)).of_heap (K2 _ (by omega));have hB2:=(hB2.ext (E13.trans E14)).of_heap (K2 _ (by omega))
     have hO1:=(hO1.ext (E13.trans E14)).wrote K2 (by omega);have hQ1:=(hQ1.ext (E13.trans E14)).wrote K2 (by omega);have hO2:=(hO2.toB.ext E14).wrote K2 (by omega);refine Wo rfl (Kb (v:=.bool _) rfl) ?_
     refine Kd <| Ja ?_;rotate_left;contradiction;contradiction
    exact ⟨b3,u3,q1,rfl,hB3,u3,q1,rfl,by exact E15,hO1.above.mono (by omega),hQ1.above.mono (by omega),icu3,icq1,by omega⟩
   ·cases hmv:madeV p ⟨k,t,n⟩ with
    | none =>
      have hnx : nextV p ⟨k, t, n⟩ = none := by unfold nextV; rw [hmv]
      rw [hmv, show og none = [] from rfl, show (none : Option (List (List Int))).isSome = false from rfl] at k2
      rw [hnx]
      simp only
      focus
        refine Ke <| Kc rfl <| Jp rfl rfl rfl ?_; rintro b1 w1 hb3 E1 hB1; have hlb1 := hB1.lt; have hs1 := E1.size; refine Jp rfl rfl rfl ?_; rintro b2 w2 hb4 E2 hB2; have hlb2 := hB2.lt
        have hs2 := E2.size; refine Je rfl flat26 ?_; rintro b3 w3 hb5 E3 hB3; have hlb3 := hB3.lt; have hs3 := E3.size; refine Wo rfl (Kb (v := .bool _) rfl) <| Kd <| Ke <| Ke ?_
        refine Kc rfl <| Wo (v := .agg _) rfl (Jd Tryz.isAgg26 Tryz.sizeOf26 rfl (hB1.ext (E2.trans E3))) ?_
        refine Kj rfl (Jk (a := .agg _) Tryz.call16 rfl) (k0 _ ((Mono.mono ((E1.trans E2).trans E3) h1)) ((Mono.mono ((E1.trans E2).trans E3) h2))) ?_; rintro _ w4 ⟨rfl, E4⟩; have hs4 := E4.size; refine Wo rfl (Jf rfl) ?_
        refine Kd <| Jx rfl (fun h3 => ?_) (fun h3 => ?_); contradiction; refine Kt ?_; refine Ke <| Kc rfl ?_
        refine Wo (v := .agg _) rfl (Jd Tryz.isAgg26 Tryz.sizeOf26 rfl (hB1.ext ((E2.trans E3).trans E4))) ?_
        refine Kj rfl (Jk (a := .agg _) Tryz.call60 rfl) (k1 _ ((Mono.mono (((E1.trans E2).trans E3).trans E4) h1)) ((Mono.mono (((E1.trans E2).trans E3).trans E4) h2))) ?_; rintro _ w5 ⟨u3, q1, m1, rfl, E5, hO1, hQ1, hm1, hn1⟩
        have icu3 := OwnedB.isC hO1; have cpu3 := OwnedB.capOk hO1; have icq1 := OwnedB.isC (Owned.toB hQ1); have cpq1 := OwnedB.capOk (Owned.toB hQ1); have hs5 := E5.size; refine Je rfl flat26 ?_; rintro b4 w6 hb6 E6 hB4
        have hlb4 := hB4.lt; have hs6 := E6.size; refine Jl rfl Tryz.sizeOf26 rfl rfl (by first | rfl | assumption) (by first | rfl | assumption) hB4 (by omega) (((((E1.trans E2).trans E3).trans E4).trans E5).trans E6) ?_
        rintro w7 E7 hB4 K1 hz1; have E8 := ((((E2.trans E3).trans E4).trans E5).trans E6).wroteAt (((((E1.trans E2).trans E3).trans E4).trans E5).trans E6) E7 K1 hz1 (by omega); have szE8 := E8.size
        have E9 := (((E3.trans E4).trans E5).trans E6).wroteAt (((((E1.trans E2).trans E3).trans E4).trans E5).trans E6) E7 K1 hz1 (by omega); have szE9 := E9.size
        have E10 := ((E4.trans E5).trans E6).wroteAt (((((E1.trans E2).trans E3).trans E4).trans E5).trans E6) E7 K1 hz1 (by omega); have szE10 := E10.size
        have E11 := (E5.trans E6).wroteAt (((((E1.trans E2).trans E3).trans E4).trans E5).trans E6) E7 K1 hz1 (by omega); have szE11 := E11.size
        have E12 := E6.wroteAt (((((E1.trans E2).trans E3).trans E4).trans E5).trans E6) E7 K1 hz1 (by omega); have szE12 := E12.size; have hB1 := (hB1.ext ((((E2.trans E3).trans E4).trans E5).trans E6)).of_heap (K1 _ (by omega))
        have hB2 := (hB2.ext (((E3.trans E4).trans E5).trans E6)).of_heap (K1 _ (by omega)); have hB3 := (hB3.ext ((E4.trans E5).trans E6)).of_heap (K1 _ (by omega)); have hO1 := (hO1.ext E6).wrote K1 (by omega)
        have hQ1 := (hQ1.toB.ext E6).wrote K1 (by omega); refine Kd <| Ke <| Ke <| Kc rfl <| Wo (v := .agg _) rfl (Jq Tryz.isAgg48 Tryz.sizeOf48 rfl hB2) ?_
        refine Wo rfl (opv_build (ps := [(0, .int _ _)]) (cs := [_, _, _]) flat48 rfl rfl) <| Wo rfl (opv_eqD rfl rfl) <| Kv rfl (Ka (v := .bool _) rfl) (fun h4 => ?_) (fun h4 => ?_); contradiction
        refine Ki rfl <| Ki rfl <| Ki rfl <| Ki rfl <| Wo rfl (Kn (v := .bool _) rfl rfl) <| Kd <| Ky rfl ?_; refine Kt ?_; refine Ke ?_
        refine Kc rfl <| Wo rfl (Kf Tryz.underlying26 rfl rfl Tryz.sizeOf23 rfl) <| Wo (v := u1) rfl (Km Tryz.isAgg23 rfl (hB1.cell rfl)) ?_
        refine Wo (v := .agg _) rfl (Jq Tryz.isAgg48 Tryz.sizeOf48 rfl hB2) <| Kj rfl (Jn (a := u1) (b := .agg _) Tryz.call93 rfl rfl) (k2 _ ((Mono.mono E7 h1))) ?_; rintro _ w8 ⟨u4, rfl, E13, hO2⟩
        have ichO2 := OwnedB.isC (Owned.toB hO2); have hs7 := E13.size; refine Wo rfl (Ka (v := .tuple _) rfl) <| Wo rfl (Kk (v := u4) rfl rfl) <| Wo rfl (Kk (v := .bool _) rfl rfl) ?_
        refine Wo rfl (Kb (v := u4) rfl) <| Wo rfl (Kb (v := .bool _) rfl) <| Kd <| Ke <| Ke <| W_draw mixed (by kernel_rfl) rfl ?_
        refine Jb rfl (fun _ _ => Ka (v := .bool _) rfl) ?_; refine Jb rfl (fun _ _ => Jf rfl) ?_; refine Wq_split rfl (fun _ _ => Ka (v := .bool _) rfl) (fun h5 => ?_) (fun h5 => ?_); refine Kq rfl ?_
        refine Kq rfl <| Kq rfl <| Kq rfl <| Kq rfl <| Kq rfl <| Kq rfl <| Kq rfl <| Kq rfl <| Kq rfl <| Kq rfl ?_
        refine Kq rfl <| Kq rfl <| Kq rfl <| Jb rfl (fun _ _ => Kz (v := .bool _) rfl rfl) ?_; refine Wq_nil (fun w9 E14 => ?_); have hs8 := E14.size; refine Ga rfl ?_
        refine Ke <| Kc rfl <| Wo (v := .agg _) rfl (Jd Tryz.isAgg26 Tryz.sizeOf26 rfl (hB4.ext (E13.trans E14))) ?_
        refine Jl rfl Tryz.sizeOf26 rfl rfl (by first | rfl | assumption) (by first | rfl | assumption) (hB3.ext (E13.trans E14)) (by omega) ((E7.trans E13).trans E14) ?_; rintro w10 E15 hB3 K2 hz2
        have E16 := ((E8.trans E13).trans E14).wroteAt ((E7.trans E13).trans E14) E15 K2 hz2 (by omega); have szE16 := E16.size; have E17 := ((E9.trans E13).trans E14).wroteAt ((E7.trans E13).trans E14) E15 K2 hz2 (by omega)
        have szE17 := E17.size; have hB4 := (hB4.ext (E13.trans E14)).of_heap (K2 _ (by omega)); have hB1 := (hB1.ext (E13.trans E14)).of_heap (K2 _ (by omega)); have hB2 := (hB2.ext (E13.trans E14)).of_heap (K2 _ (by omega))
        have hO1 := (hO1.ext (E13.trans E14)).wrote K2 (by omega); have hQ1 := (hQ1.ext (E13.trans E14)).wrote K2 (by omega); have hO2 := (hO2.toB.ext E14).wrote K2 (by omega); refine Wo rfl (Kb (v := .bool _) rfl) ?_
        refine Kd <| Ja ?_; rotate_left; contradiction
      exact ⟨b3, u3, q1, rfl, hB3, u3, q1, rfl, by exact E15, hO1.above.mono (by omega), hQ1.above.mono (by omega), icu3, icq1, by omega⟩
    | some c =>
      rw [hmv, show og (some c) = c from rfl, show (some c).isSome = true from rfl] at k2
      have hc : LeastP c := madeV_least hpp hmv
      have hcp := hc.1
      have k3 : ∀ (w : World) (v : Value), ESl Ints w v c → Does Tryz.prog 62 [v] w (Ret w (str (txt c))) := fun w v h => by
        have := PictureText_ok w v _ h
        rwa [if_pos hcp] at this
      by_cases hcq : c = p
      · subst hcq
        have hnx : nextV c ⟨k, t, n⟩ = none := by unfold nextV; rw [hmv]; simp
        rw [hnx]
        simp only
        focus
          refine Ke <| Kc rfl <| Jp rfl rfl rfl ?_; rintro b1 w1 hb3 E1 hB1; have hlb1 := hB1.lt; have hs1 := E1.size; refine Jp rfl rfl rfl ?_; rintro b2 w2 hb4 E2 hB2; have hlb2 := hB2.lt
          have hs2 := E2.size; refine Je rfl flat26 ?_; rintro b3 w3 hb5 E3 hB3; have hlb3 := hB3.lt; have hs3 := E3.size; refine Wo rfl (Kb (v := .bool _) rfl) <| Kd <| Ke <| Ke ?_
          refine Kc rfl <| Wo (v := .agg _) rfl (Jd Tryz.isAgg26 Tryz.sizeOf26 rfl (hB1.ext (E2.trans E3))) ?_
          refine Kj rfl (Jk (a := .agg _) Tryz.call16 rfl) (k0 _ ((Mono.mono ((E1.trans E2).trans E3) h1)) ((Mono.mono ((E1.trans E2).trans E3) h2))) ?_; rintro _ w4 ⟨rfl, E4⟩; have hs4 := E4.size; refine Wo rfl (Jf rfl) ?_
          refine Kd <| Jx rfl (fun h3 => ?_) (fun h3 => ?_); contradiction; refine Kt ?_; refine Ke <| Kc rfl ?_
          refine Wo (v := .agg _) rfl (Jd Tryz.isAgg26 Tryz.sizeOf26 rfl (hB1.ext ((E2.trans E3).trans E4))) ?_
          refine Kj rfl (Jk (a := .agg _) Tryz.call60 rfl) (k1 _ ((Mono.mono (((E1.trans E2).trans E3).trans E4) h1)) ((Mono.mono (((E1.trans E2).trans E3).trans E4) h2))) ?_; rintro _ w5 ⟨u3, q1, m1, rfl, E5, hO1, hQ1, hm1, hn1⟩
          have icu3 := OwnedB.isC hO1; have cpu3 := OwnedB.capOk hO1; have icq1 := OwnedB.isC (Owned.toB hQ1); have cpq1 := OwnedB.capOk (Owned.toB hQ1); have hs5 := E5.size; refine Je rfl flat26 ?_; rintro b4 w6 hb6 E6 hB4
          have hlb4 := hB4.lt; have hs6 := E6.size; refine Jl rfl Tryz.sizeOf26 rfl rfl (by first | rfl | assumption) (by first | rfl | assumption) hB4 (by omega) (((((E1.trans E2).trans E3).trans E4).trans E5).trans E6) ?_
          rintro w7 E7 hB4 K1 hz1; have E8 := ((((E2.trans E3).trans E4).trans E5).trans E6).wroteAt (((((E1.trans E2).trans E3).trans E4).trans E5).trans E6) E7 K1 hz1 (by omega); have szE8 := E8.size
          have E9 := (((E3.trans E4).trans E5).trans E6).wroteAt (((((E1.trans E2).trans E3).trans E4).trans E5).trans E6) E7 K1 hz1 (by omega); have szE9 := E9.size
          have E10 := ((E4.trans E5).trans E6).wroteAt (((((E1.trans E2).trans E3).trans E4).trans E5).trans E6) E7 K1 hz1 (by omega); have szE10 := E10.size
          have E11 := (E5.trans E6).wroteAt (((((E1.trans E2).trans E3).trans E4).trans E5).trans E6) E7 K1 hz1 (by omega); have szE11 := E11.size
          have E12 := E6.wroteAt (((((E1.trans E2).trans E3).trans E4).trans E5).trans E6) E7 K1 hz1 (by omega); have szE12 := E12.size; have hB1 := (hB1.ext ((((E2.trans E3).trans E4).trans E5).trans E6)).of_heap (K1 _ (by omega))
          have hB2 := (hB2.ext (((E3.trans E4).trans E5).trans E6)).of_heap (K1 _ (by omega)); have hB3 := (hB3.ext ((E4.trans E5).trans E6)).of_heap (K1 _ (by omega)); have hO1 := (hO1.ext E6).wrote K1 (by omega)
          have hQ1 := (hQ1.toB.ext E6).wrote K1 (by omega); refine Kd <| Ke <| Ke <| Kc rfl <| Wo (v := .agg _) rfl (Jq Tryz.isAgg48 Tryz.sizeOf48 rfl hB2) ?_
          refine Wo rfl (opv_build (ps := [(0, .int _ _)]) (cs := [_, _, _]) flat48 rfl rfl) <| Wo rfl (opv_eqD rfl rfl) <| Kv rfl (Ka (v := .bool _) rfl) (fun h4 => ?_) (fun h4 => ?_); contradiction
          refine Ki rfl <| Ki rfl <| Ki rfl <| Ki rfl <| Wo rfl (Kn (v := .bool _) rfl rfl) <| Kd <| Ky rfl ?_; refine Kt ?_; refine Ke ?_
          refine Kc rfl <| Wo rfl (Kf Tryz.underlying26 rfl rfl Tryz.sizeOf23 rfl) <| Wo (v := u1) rfl (Km Tryz.isAgg23 rfl (hB1.cell rfl)) ?_
          refine Wo (v := .agg _) rfl (Jq Tryz.isAgg48 Tryz.sizeOf48 rfl hB2) <| Kj rfl (Jn (a := u1) (b := .agg _) Tryz.call93 rfl rfl) (k2 _ ((Mono.mono E7 h1))) ?_; rintro _ w8 ⟨u4, rfl, E13, hO2⟩
          have ichO2 := OwnedB.isC (Owned.toB hO2); have hs7 := E13.size; refine Wo rfl (Ka (v := .tuple _) rfl) <| Wo rfl (Kk (v := u4) rfl rfl) <| Wo rfl (Kk (v := .bool _) rfl rfl) ?_
          refine Wo rfl (Kb (v := u4) rfl) <| Wo rfl (Kb (v := .bool _) rfl) <| Kd <| Ke <| Ke <| W_draw mixed (by kernel_rfl) rfl ?_
          refine Jb rfl (fun _ _ => Ka (v := .bool _) rfl) ?_; refine Jb rfl (fun _ _ => Jf rfl) ?_; refine Wq_split rfl (fun _ _ => Ka (v := .bool _) rfl) (fun h5 => ?_) (fun h5 => ?_); contradiction
          refine Jb rfl (fun _ _ => Ka (v := u4) rfl) ?_; refine Jb rfl (fun _ _ => Ko Tryz.underlying23 rfl (Owned.read hO2)) ?_; refine Jb rfl (fun _ _ => Kf Tryz.underlying26 rfl rfl Tryz.sizeOf23 rfl) ?_
          refine Jb (v := u1) rfl (fun w' hw' => Km Tryz.isAgg23 rfl (((hB1.ext E13).ext hw').cell rfl)) ?_; refine Jb rfl (fun _ _ => Ko Tryz.underlying23 rfl h1) ?_; refine Jb rfl (fun _ _ => Kx rfl rfl) ?_
          refine Jt rfl (fun _ _ => Ka (v := .bool _) rfl) (fun h6 => ?_) (fun h6 => ?_); refine Jb rfl (fun _ _ => Ka (v := u4) rfl) ?_
          refine Wq_call rfl (fun _ _ => Jk (a := u4) Tryz.call62 rfl) (fun w' hw' => (k3 _ _ ((Mono.mono hw' (Owned.read hO2))))) ?_; refine Jb rfl (fun _ _ => Kf Tryz.underlying26 rfl rfl Tryz.sizeOf23 rfl) ?_
          refine Jb (v := u1) rfl (fun w' hw' => Km Tryz.isAgg23 rfl (((hB1.ext E13).ext hw').cell rfl)) ?_
          refine Wq_call rfl (fun _ _ => Jk (a := u1) Tryz.call62 rfl) (fun w' hw' => (k3 _ _ ((Mono.mono ((E7.trans E13).trans hw') h1)))) ?_; refine Jb rfl (fun _ _ => opv_eql_str rfl rfl) ?_
          refine Jb rfl (fun _ _ => Kz (v := .bool _) rfl rfl) ?_; refine Jb rfl (fun _ _ => Kn (v := .bool _) rfl rfl) ?_; refine Wq_nil (fun w9 E14 => ?_); have hs8 := E14.size
          refine Kg rfl (fun h7 => ?_) (fun h7 => ?_); refine Ke <| Kc rfl <| Wo (v := .agg _) rfl (Jd Tryz.isAgg26 Tryz.sizeOf26 rfl (hB4.ext (E13.trans E14))) ?_
          refine Jl rfl Tryz.sizeOf26 rfl rfl (by first | rfl | assumption) (by first | rfl | assumption) (hB3.ext (E13.trans E14)) (by omega) ((E7.trans E13).trans E14) ?_; rintro w10 E15 hB3 K2 hz2
          have E16 := ((E8.trans E13).trans E14).wroteAt ((E7.trans E13).trans E14) E15 K2 hz2 (by omega); have szE16 := E16.size; have E17 := ((E9.trans E13).trans E14).wroteAt ((E7.trans E13).trans E14) E15 K2 hz2 (by omega)
          have szE17 := E17.size; have hB4 := (hB4.ext (E13.trans E14)).of_heap (K2 _ (by omega)); have hB1 := (hB1.ext (E13.trans E14)).of_heap (K2 _ (by omega)); have hB2 := (hB2.ext (E13.trans E14)).of_heap (K2 _ (by omega))
          have hO1 := (hO1.ext (E13.trans E14)).wrote K2 (by omega); have hQ1 := (hQ1.ext (E13.trans E14)).wrote K2 (by omega); have hO2 := (hO2.toB.ext E14).wrote K2 (by omega); refine Wo rfl (Kb (v := .bool _) rfl) ?_
          refine Kd <| Ja ?_; rotate_left; contradiction; contradiction
        exact ⟨b3, u3, q1, rfl, hB3, u3, q1, rfl, by exact E15, hO1.above.mono (by omega), hQ1.above.mono (by omega), icu3, icq1, by omega⟩
      · have hnx : nextV p ⟨k, t, n⟩ = some c := by unfold nextV; rw [hmv]; simp [hcq]
        rw [hnx]
        simp only
        have k4 : ∀ (w : World) (v : Value), ESl Ints w v p → Does Tryz.prog 62 [v] w (Ret w (str (txt p))) := fun w v h => by
          have := PictureText_ok w v _ h
          rwa [if_pos hpp] at this
        have htx : txt c ≠ txt p := fun e => hcq (txt_inj hcp.gr hpp.gr e)
        have stop12 : True := trivial
        focus
          refine Ke <| Kc rfl <| Jp rfl rfl rfl ?_; rintro b1 w1 hb3 E1 hB1; have hlb1 := hB1.lt; have hs1 := E1.size; refine Jp rfl rfl rfl ?_; rintro b2 w2 hb4 E2 hB2; have hlb2 := hB2.lt
          have hs2 := E2.size; refine Je rfl flat26 ?_; rintro b3 w3 hb5 E3 hB3; have hlb3 := hB3.lt; have hs3 := E3.size; refine Wo rfl (Kb (v := .bool _) rfl) <| Kd <| Ke <| Ke ?_
          refine Kc rfl <| Wo (v := .agg _) rfl (Jd Tryz.isAgg26 Tryz.sizeOf26 rfl (hB1.ext (E2.trans E3))) ?_
          refine Kj rfl (Jk (a := .agg _) Tryz.call16 rfl) (k0 _ ((Mono.mono ((E1.trans E2).trans E3) h1)) ((Mono.mono ((E1.trans E2).trans E3) h2))) ?_; rintro _ w4 ⟨rfl, E4⟩; have hs4 := E4.size; refine Wo rfl (Jf rfl) ?_
          refine Kd <| Jx rfl (fun h3 => ?_) (fun h3 => ?_); contradiction; refine Kt ?_; refine Ke <| Kc rfl ?_
          refine Wo (v := .agg _) rfl (Jd Tryz.isAgg26 Tryz.sizeOf26 rfl (hB1.ext ((E2.trans E3).trans E4))) ?_
          refine Kj rfl (Jk (a := .agg _) Tryz.call60 rfl) (k1 _ ((Mono.mono (((E1.trans E2).trans E3).trans E4) h1)) ((Mono.mono (((E1.trans E2).trans E3).trans E4) h2))) ?_; rintro _ w5 ⟨u3, q1, m1, rfl, E5, hO1, hQ1, hm1, hn1⟩
          have icu3 := OwnedB.isC hO1; have cpu3 := OwnedB.capOk hO1; have icq1 := OwnedB.isC (Owned.toB hQ1); have cpq1 := OwnedB.capOk (Owned.toB hQ1); have hs5 := E5.size; refine Je rfl flat26 ?_; rintro b4 w6 hb6 E6 hB4
          have hlb4 := hB4.lt; have hs6 := E6.size; refine Jl rfl Tryz.sizeOf26 rfl rfl (by first | rfl | assumption) (by first | rfl | assumption) hB4 (by omega) (((((E1.trans E2).trans E3).trans E4).trans E5).trans E6) ?_
          rintro w7 E7 hB4 K1 hz1; have E8 := ((((E2.trans E3).trans E4).trans E5).trans E6).wroteAt (((((E1.trans E2).trans E3).trans E4).trans E5).trans E6) E7 K1 hz1 (by omega); have szE8 := E8.size
          have E9 := (((E3.trans E4).trans E5).trans E6).wroteAt (((((E1.trans E2).trans E3).trans E4).trans E5).trans E6) E7 K1 hz1 (by omega); have szE9 := E9.size
          have E10 := ((E4.trans E5).trans E6).wroteAt (((((E1.trans E2).trans E3).trans E4).trans E5).trans E6) E7 K1 hz1 (by omega); have szE10 := E10.size
          have E11 := (E5.trans E6).wroteAt (((((E1.trans E2).trans E3).trans E4).trans E5).trans E6) E7 K1 hz1 (by omega); have szE11 := E11.size
          have E12 := E6.wroteAt (((((E1.trans E2).trans E3).trans E4).trans E5).trans E6) E7 K1 hz1 (by omega); have szE12 := E12.size; have hB1 := (hB1.ext ((((E2.trans E3).trans E4).trans E5).trans E6)).of_heap (K1 _ (by omega))
          have hB2 := (hB2.ext (((E3.trans E4).trans E5).trans E6)).of_heap (K1 _ (by omega)); have hB3 := (hB3.ext ((E4.trans E5).trans E6)).of_heap (K1 _ (by omega)); have hO1 := (hO1.ext E6).wrote K1 (by omega)
          have hQ1 := (hQ1.toB.ext E6).wrote K1 (by omega); refine Kd <| Ke <| Ke <| Kc rfl <| Wo (v := .agg _) rfl (Jq Tryz.isAgg48 Tryz.sizeOf48 rfl hB2) ?_
          refine Wo rfl (opv_build (ps := [(0, .int _ _)]) (cs := [_, _, _]) flat48 rfl rfl) <| Wo rfl (opv_eqD rfl rfl) <| Kv rfl (Ka (v := .bool _) rfl) (fun h4 => ?_) (fun h4 => ?_); contradiction
          refine Ki rfl <| Ki rfl <| Ki rfl <| Ki rfl <| Wo rfl (Kn (v := .bool _) rfl rfl) <| Kd <| Ky rfl ?_; refine Kt ?_; refine Ke ?_
          refine Kc rfl <| Wo rfl (Kf Tryz.underlying26 rfl rfl Tryz.sizeOf23 rfl) <| Wo (v := u1) rfl (Km Tryz.isAgg23 rfl (hB1.cell rfl)) ?_
          refine Wo (v := .agg _) rfl (Jq Tryz.isAgg48 Tryz.sizeOf48 rfl hB2) <| Kj rfl (Jn (a := u1) (b := .agg _) Tryz.call93 rfl rfl) (k2 _ ((Mono.mono E7 h1))) ?_; rintro _ w8 ⟨u4, rfl, E13, hO2⟩
          have ichO2 := OwnedB.isC (Owned.toB hO2); have hs7 := E13.size; refine Wo rfl (Ka (v := .tuple _) rfl) <| Wo rfl (Kk (v := u4) rfl rfl) <| Wo rfl (Kk (v := .bool _) rfl rfl) ?_
          refine Wo rfl (Kb (v := u4) rfl) <| Wo rfl (Kb (v := .bool _) rfl) <| Kd <| Ke <| Ke <| W_draw mixed (by kernel_rfl) rfl ?_
          refine Jb rfl (fun _ _ => Ka (v := .bool _) rfl) ?_; refine Jb rfl (fun _ _ => Jf rfl) ?_; refine Wq_split rfl (fun _ _ => Ka (v := .bool _) rfl) (fun h5 => ?_) (fun h5 => ?_); contradiction
          refine Jb rfl (fun _ _ => Ka (v := u4) rfl) ?_; refine Jb rfl (fun _ _ => Ko Tryz.underlying23 rfl (Owned.read hO2)) ?_; refine Jb rfl (fun _ _ => Kf Tryz.underlying26 rfl rfl Tryz.sizeOf23 rfl) ?_
          refine Jb (v := u1) rfl (fun w' hw' => Km Tryz.isAgg23 rfl (((hB1.ext E13).ext hw').cell rfl)) ?_; refine Jb rfl (fun _ _ => Ko Tryz.underlying23 rfl h1) ?_; refine Jb rfl (fun _ _ => Kx rfl rfl) ?_
          refine Jt rfl (fun _ _ => Ka (v := .bool _) rfl) (fun h6 => ?_) (fun h6 => ?_); refine Jb rfl (fun _ _ => Ka (v := u4) rfl) ?_
          refine Wq_call rfl (fun _ _ => Jk (a := u4) Tryz.call62 rfl) (fun w' hw' => (k3 _ _ ((Mono.mono hw' (Owned.read hO2))))) ?_; refine Jb rfl (fun _ _ => Kf Tryz.underlying26 rfl rfl Tryz.sizeOf23 rfl) ?_
          refine Jb (v := u1) rfl (fun w' hw' => Km Tryz.isAgg23 rfl (((hB1.ext E13).ext hw').cell rfl)) ?_
          refine Wq_call rfl (fun _ _ => Jk (a := u1) Tryz.call62 rfl) (fun w' hw' => (k4 _ _ ((Mono.mono ((E7.trans E13).trans hw') h1)))) ?_; refine Jb rfl (fun _ _ => opv_eql_str rfl rfl) ?_
          refine Jb rfl (fun _ _ => Kz (v := .bool _) rfl rfl) ?_; refine Jb rfl (fun _ _ => Kn (v := .bool _) rfl rfl) ?_; refine Wq_nil (fun w9 E14 => ?_); have hs8 := E14.size
          refine Kg rfl (fun h7 => ?_) (fun h7 => ?_); contradiction; refine Kt ?_; refine Ke ?_; rotate_left; refine Kq rfl <| Kq rfl <| Kq rfl <| Kq rfl <| Kq rfl ?_
          refine Kq rfl <| Jb rfl (fun _ _ => Kn (v := .bool _) rfl rfl) ?_; refine Jb rfl (fun _ _ => Kn (v := .bool _) rfl rfl) ?_; refine Wq_nil (fun w9 E14 => ?_); have hs8 := E14.size
          refine Ky rfl ?_; refine Kt ?_; refine Ke ?_; rotate_left
        · clear stop12
          have stop13 : True := trivial
          have hQ0 := hQ1
          focus
            have szE14 := E14.size; have szE13 := E13.size; have szE12 := E12.size; have szE11 := E11.size; have szE10 := E10.size; have szE9 := E9.size; have szE8 := E8.size; have szE7 := E7.size; have szE6 := E6.size; have szE5 := E5.size
            have szE4 := E4.size; have szE3 := E3.size; have szE2 := E2.size; have szE1 := E1.size; refine Kc rfl <| Wo rfl (Kf Tryz.underlying26 rfl rfl Tryz.sizeOf24 rfl) ?_
            refine Wo (v := q1) rfl (Km Tryz.isAgg24 rfl ((hB4.ext (E13.trans E14)).cell rfl)) <| Wo rfl (Kf Tryz.underlying26 rfl rfl Tryz.sizeOf23 rfl) ?_
            refine Wo (v := u3) rfl (Km Tryz.isAgg23 rfl ((hB4.ext (E13.trans E14)).cell rfl)) <| Jz rfl Tryz.underlying24 Tryz.sizeOf23 Tryz.zeroValue23 rfl (OwnedB.isC (hO1.ext (E13.trans E14))) rfl ?_
            rintro b5 w10 hb7 E15 hB5 hHb5; have hlb5 := hB5.lt; have hs9 := E15.size
            refine Wo_app1r rfl el24 rfl rfl hB5 (hQ0.ext ((E13.trans E14).trans E15)) (hO1.ext ((E13.trans E14).trans E15)) (by first | omega | (simp <;> omega)) (by omega) (by omega) (((E7.trans E13).trans E14).trans E15) (by omega) ?_
            have hT1 := (hQ0.ext ((E13.trans E14).trans E15)); rintro v1 w11 hQ0 E16 M1; have E17 := M1.ext hT1 (((E8.trans E13).trans E14).trans E15) (by omega); have szE17 := E17.size
            have E18 := M1.ext hT1 (((E9.trans E13).trans E14).trans E15) (by omega); have szE18 := E18.size; have E19 := M1.ext hT1 (((E10.trans E13).trans E14).trans E15) (by omega); have szE19 := E19.size
            have E20 := M1.ext hT1 (((E11.trans E13).trans E14).trans E15) (by omega); have szE20 := E20.size; have hB4 := (hB4.ext ((E13.trans E14).trans E15)).moves M1 hT1 (by omega)
            have hB1 := (hB1.ext ((E13.trans E14).trans E15)).moves M1 hT1 (by omega); have hB2 := (hB2.ext ((E13.trans E14).trans E15)).moves M1 hT1 (by omega); have hB3 := (hB3.ext ((E13.trans E14).trans E15)).moves M1 hT1 (by omega)
            have hO1 := (hO1.ext ((E13.trans E14).trans E15)).moves M1 hT1 (by omega); have hO2 := (hO2.toB.ext (E14.trans E15)).moves M1 hT1 (by omega); have hB5 := hB5.moves M1 hT1 (by omega); have hs10 := E16.size; have szM1 := M1.1.size
            have icv1 := OwnedB.isC (Owned.toB hQ0); refine Wo rfl (Kf Tryz.underlying26 rfl rfl Tryz.sizeOf24 rfl) <| Wo_st (v := v1) rfl Tryz.sizeOf24 rfl rfl (OwnedB.isC hQ0.toB) hB4 (by simp) (by omega) E16 ?_
            rintro w12 E21 hB4 K2 hz2; have E22 := E17.wroteAt E16 E21 K2 hz2 (by omega); have szE22 := E22.size; have E23 := E18.wroteAt E16 E21 K2 hz2 (by omega); have szE23 := E23.size; have E24 := E19.wroteAt E16 E21 K2 hz2 (by omega)
            have szE24 := E24.size; have E25 := E20.wroteAt E16 E21 K2 hz2 (by omega); have szE25 := E25.size; simp only [List.set] at hB4; have hB1 := hB1.of_heap (K2 _ (by omega)); have hB2 := hB2.of_heap (K2 _ (by omega))
            have hB3 := hB3.of_heap (K2 _ (by omega)); have hO1 := hO1.wrote K2 (by omega); have hO2 := hO2.wrote K2 (by omega); have hB5 := hB5.of_heap (K2 _ (by omega)); refine Kd <| Ke <| Ke ?_
          clear stop13
          have hM : Moves w10 q1 w11 v1 := M1
          have hne := hM.ne hQ1 (b := b4) (by omega) (by omega)
          clear hQ1
          obtain ⟨nb, nc, rfl, hnc⟩ := hQ0.lit (by simp)
          have hnl : (pp ++ [p]).length = pp.length + 1 := by simp
          rw [hnl] at hB4 hQ0 hne hnc
          focus
            have szE25 := E25.size; have szE24 := E24.size; have szE23 := E23.size; have szE22 := E22.size; have szE21 := E21.size; have szE20 := E20.size; have szE19 := E19.size; have szE18 := E18.size; have szE17 := E17.size
            have szE16 := E16.size; have szE15 := E15.size; have szE14 := E14.size; have szE13 := E13.size; have szE12 := E12.size; have szE11 := E11.size; have szE10 := E10.size; have szE9 := E9.size; have szE8 := E8.size; have szE7 := E7.size
            have szE6 := E6.size; have szE5 := E5.size; have szE4 := E4.size; have szE3 := E3.size; have szE2 := E2.size; have szE1 := E1.size; refine Kc rfl <| Wo rfl (Kf Tryz.underlying26 rfl rfl Tryz.sizeOf24 rfl) ?_
            refine Wo (v := .slice _ _ _) rfl (Km Tryz.isAgg24 rfl (hB4.cell rfl)) <| Wo rfl (Ko Tryz.underlying24 rfl (Owned.read hQ0)) <| Wo rfl (opv_gtr rfl rfl) <| Kd ?_
            refine Kg rfl (fun h8 => ?_) (fun h8 => ?_); refine Kc rfl <| Wo rfl (Kf Tryz.underlying26 rfl rfl Tryz.sizeOf24 rfl) ?_
            refine Wo (v := .slice _ _ _) rfl (Km Tryz.isAgg24 rfl (hB4.cell rfl)) <| Wo rfl (opv_slice_sl_lo Tryz.underlying24 Tryz.sizeOf23 rfl rfl (by omega)) ?_
            refine Wo rfl (Kf Tryz.underlying26 rfl rfl Tryz.sizeOf24 rfl) <| Wo_st (v := .slice _ _ _) rfl Tryz.sizeOf24 rfl rfl rfl hB4 (by simp) (by omega) E21 ?_; rintro w13 E26 hB4 K3 hz3
            have E27 := E22.wroteAt E21 E26 K3 hz3 (by omega); have szE27 := E27.size; have E28 := E23.wroteAt E21 E26 K3 hz3 (by omega); have szE28 := E28.size; have E29 := E24.wroteAt E21 E26 K3 hz3 (by omega); have szE29 := E29.size
            have E30 := E25.wroteAt E21 E26 K3 hz3 (by omega); have szE30 := E30.size; simp only [List.set] at hB4; have hB1 := hB1.of_heap (K3 _ (by omega)); have hB2 := hB2.of_heap (K3 _ (by omega)); have hB3 := hB3.of_heap (K3 _ (by omega))
            have hO1 := hO1.wrote K3 (by omega); have hO2 := hO2.wrote K3 (by omega); have hB5 := hB5.of_heap (K3 _ (by omega)); refine Kd <| Ke <| Kc rfl <| Wo rfl (Ka (v := u4) rfl) ?_
            refine Wo rfl (Kf Tryz.underlying26 rfl rfl Tryz.sizeOf23 rfl) <| Wo_st (v := u4) rfl Tryz.sizeOf23 rfl rfl (OwnedB.isC hO2) hB4 (by simp) (by omega) E26 ?_; rintro w14 E31 hB4 K4 hz4
            have E32 := E27.wroteAt E26 E31 K4 hz4 (by omega); have szE32 := E32.size; have E33 := E28.wroteAt E26 E31 K4 hz4 (by omega); have szE33 := E33.size; have E34 := E29.wroteAt E26 E31 K4 hz4 (by omega); have szE34 := E34.size
            have E35 := E30.wroteAt E26 E31 K4 hz4 (by omega); have szE35 := E35.size; simp only [List.set] at hB4; have hB1 := hB1.of_heap (K4 _ (by omega)); have hB2 := hB2.of_heap (K4 _ (by omega)); have hB3 := hB3.of_heap (K4 _ (by omega))
            have hO1 := hO1.wrote K4 (by omega); have hO2 := hO2.wrote K4 (by omega); have hB5 := hB5.of_heap (K4 _ (by omega)); refine Kd <| Ke <| Kc rfl ?_
            refine Wo (v := .agg _) rfl (Jd Tryz.isAgg26 Tryz.sizeOf26 rfl hB4) <| Jl rfl Tryz.sizeOf26 rfl rfl (by first | rfl | assumption) (by first | rfl | assumption) hB3 (by omega) E31 ?_; rintro w15 E36 hB3 K5 hz5
            have E37 := E32.wroteAt E31 E36 K5 hz5 (by omega); have szE37 := E37.size; have E38 := E33.wroteAt E31 E36 K5 hz5 (by omega); have szE38 := E38.size; have hB4 := hB4.of_heap (K5 _ (by omega))
            have hB1 := hB1.of_heap (K5 _ (by omega)); have hB2 := hB2.of_heap (K5 _ (by omega)); have hO1 := hO1.wrote K5 (by omega); have hO2 := hO2.wrote K5 (by omega); have hB5 := hB5.of_heap (K5 _ (by omega))
            refine Wo rfl (Kb (v := .bool _) rfl) <| Kd <| Ja ?_; rotate_left; refine Kt ?_; refine Ke <| Kc rfl <| Wo rfl (Ka (v := u4) rfl) ?_
            refine Wo rfl (Kf Tryz.underlying26 rfl rfl Tryz.sizeOf23 rfl) <| Wo_st (v := u4) rfl Tryz.sizeOf23 rfl rfl (OwnedB.isC hO2) hB4 (by simp) (by omega) E21 ?_; rintro w13 E26 hB4 K3 hz3
            have E27 := E22.wroteAt E21 E26 K3 hz3 (by omega); have szE27 := E27.size; have E28 := E23.wroteAt E21 E26 K3 hz3 (by omega); have szE28 := E28.size; have E29 := E24.wroteAt E21 E26 K3 hz3 (by omega); have szE29 := E29.size
            have E30 := E25.wroteAt E21 E26 K3 hz3 (by omega); have szE30 := E30.size; simp only [List.set] at hB4; have hB1 := hB1.of_heap (K3 _ (by omega)); have hB2 := hB2.of_heap (K3 _ (by omega)); have hB3 := hB3.of_heap (K3 _ (by omega))
            have hO1 := hO1.wrote K3 (by omega); have hO2 := hO2.wrote K3 (by omega); have hB5 := hB5.of_heap (K3 _ (by omega)); refine Kd <| Ke <| Kc rfl ?_
            refine Wo (v := .agg _) rfl (Jd Tryz.isAgg26 Tryz.sizeOf26 rfl hB4) <| Jl rfl Tryz.sizeOf26 rfl rfl (by first | rfl | assumption) (by first | rfl | assumption) hB3 (by omega) E26 ?_; rintro w14 E31 hB3 K4 hz4
            have E32 := E27.wroteAt E26 E31 K4 hz4 (by omega); have szE32 := E32.size; have E33 := E28.wroteAt E26 E31 K4 hz4 (by omega); have szE33 := E33.size; have hB4 := hB4.of_heap (K4 _ (by omega))
            have hB1 := hB1.of_heap (K4 _ (by omega)); have hB2 := hB2.of_heap (K4 _ (by omega)); have hO1 := hO1.wrote K4 (by omega); have hO2 := hO2.wrote K4 (by omega); have hB5 := hB5.of_heap (K4 _ (by omega))
            refine Wo rfl (Kb (v := .bool _) rfl) <| Kd <| Ja ?_; rotate_left
          · have hQ3 := (hQ0.wroteLt (w' := w15) (fun k h1 h2 => (K5 k (by omega)).trans ((K4 k h2).trans ((K3 k h2).trans (K2 k h2)))) (by omega) hne).above.mono (show w.heap.size ≤ w4.heap.size by omega)
            refine ⟨b3, u4, _, rfl, hB3, u4, _, rfl, by exact E36, hO2.above.mono (by omega), ?_, by assumption, rfl, by omega⟩
            rw [show last8 (pp ++ [p]) = (pp ++ [p]).drop 1 from if_pos (by omega)]
            exact hQ3.dropS (by omega)
          · have hQ3 := (hQ0.wroteLt (w' := w14) (fun k h1 h2 => (K4 k (by omega)).trans ((K3 k h2).trans (K2 k h2))) (by omega) hne).above.mono (show w.heap.size ≤ w4.heap.size by omega)
            refine ⟨b3, u4, _, rfl, hB3, u4, _, rfl, by exact E31, hO2.above.mono (by omega), ?_, by assumption, rfl, by omega⟩
            rw [show last8 (pp ++ [p]) = pp ++ [p] from if_neg (by omega)]
            exact hQ3
        · clear stop12
          have stop13 : True := trivial
          have hQ0 := hQ1
          focus
            have szE14 := E14.size; have szE13 := E13.size; have szE12 := E12.size; have szE11 := E11.size; have szE10 := E10.size; have szE9 := E9.size; have szE8 := E8.size; have szE7 := E7.size; have szE6 := E6.size; have szE5 := E5.size
            have szE4 := E4.size; have szE3 := E3.size; have szE2 := E2.size; have szE1 := E1.size; refine Kc rfl <| Wo rfl (Kf Tryz.underlying26 rfl rfl Tryz.sizeOf24 rfl) ?_
            refine Wo (v := q1) rfl (Km Tryz.isAgg24 rfl ((hB4.ext (E13.trans E14)).cell rfl)) <| Wo rfl (Kf Tryz.underlying26 rfl rfl Tryz.sizeOf23 rfl) ?_
            refine Wo (v := u3) rfl (Km Tryz.isAgg23 rfl ((hB4.ext (E13.trans E14)).cell rfl)) <| Jz rfl Tryz.underlying24 Tryz.sizeOf23 Tryz.zeroValue23 rfl (OwnedB.isC (hO1.ext (E13.trans E14))) rfl ?_
            rintro b5 w10 hb7 E15 hB5 hHb5; have hlb5 := hB5.lt; have hs9 := E15.size
            refine Wo_app1r rfl el24 rfl rfl hB5 (hQ0.ext ((E13.trans E14).trans E15)) (hO1.ext ((E13.trans E14).trans E15)) (by first | omega | (simp <;> omega)) (by omega) (by omega) (((E7.trans E13).trans E14).trans E15) (by omega) ?_
            have hT1 := (hQ0.ext ((E13.trans E14).trans E15)); rintro v1 w11 hQ0 E16 M1; have E17 := M1.ext hT1 (((E8.trans E13).trans E14).trans E15) (by omega); have szE17 := E17.size
            have E18 := M1.ext hT1 (((E9.trans E13).trans E14).trans E15) (by omega); have szE18 := E18.size; have E19 := M1.ext hT1 (((E10.trans E13).trans E14).trans E15) (by omega); have szE19 := E19.size
            have E20 := M1.ext hT1 (((E11.trans E13).trans E14).trans E15) (by omega); have szE20 := E20.size; have hB4 := (hB4.ext ((E13.trans E14).trans E15)).moves M1 hT1 (by omega)
            have hB1 := (hB1.ext ((E13.trans E14).trans E15)).moves M1 hT1 (by omega); have hB2 := (hB2.ext ((E13.trans E14).trans E15)).moves M1 hT1 (by omega); have hB3 := (hB3.ext ((E13.trans E14).trans E15)).moves M1 hT1 (by omega)
            have hO1 := (hO1.ext ((E13.trans E14).trans E15)).moves M1 hT1 (by omega); have hO2 := (hO2.toB.ext (E14.trans E15)).moves M1 hT1 (by omega); have hB5 := hB5.moves M1 hT1 (by omega); have hs10 := E16.size; have szM1 := M1.1.size
            have icv1 := OwnedB.isC (Owned.toB hQ0); refine Wo rfl (Kf Tryz.underlying26 rfl rfl Tryz.sizeOf24 rfl) <| Wo_st (v := v1) rfl Tryz.sizeOf24 rfl rfl (OwnedB.isC hQ0.toB) hB4 (by simp) (by omega) E16 ?_
            rintro w12 E21 hB4 K2 hz2; have E22 := E17.wroteAt E16 E21 K2 hz2 (by omega); have szE22 := E22.size; have E23 := E18.wroteAt E16 E21 K2 hz2 (by omega); have szE23 := E23.size; have E24 := E19.wroteAt E16 E21 K2 hz2 (by omega)
            have szE24 := E24.size; have E25 := E20.wroteAt E16 E21 K2 hz2 (by omega); have szE25 := E25.size; simp only [List.set] at hB4; have hB1 := hB1.of_heap (K2 _ (by omega)); have hB2 := hB2.of_heap (K2 _ (by omega))
            have hB3 := hB3.of_heap (K2 _ (by omega)); have hO1 := hO1.wrote K2 (by omega); have hO2 := hO2.wrote K2 (by omega); have hB5 := hB5.of_heap (K2 _ (by omega)); refine Kd <| Ke <| Ke ?_
          clear stop13
          have hM : Moves w10 q1 w11 v1 := M1
          have hne := hM.ne hQ1 (b := b4) (by omega) (by omega)
          clear hQ1
          obtain ⟨nb, nc, rfl, hnc⟩ := hQ0.lit (by simp)
          have hnl : (pp ++ [p]).length = pp.length + 1 := by simp
          rw [hnl] at hB4 hQ0 hne hnc
          focus
            have szE25 := E25.size; have szE24 := E24.size; have szE23 := E23.size; have szE22 := E22.size; have szE21 := E21.size; have szE20 := E20.size; have szE19 := E19.size; have szE18 := E18.size; have szE17 := E17.size
            have szE16 := E16.size; have szE15 := E15.size; have szE14 := E14.size; have szE13 := E13.size; have szE12 := E12.size; have szE11 := E11.size; have szE10 := E10.size; have szE9 := E9.size; have szE8 := E8.size; have szE7 := E7.size
            have szE6 := E6.size; have szE5 := E5.size; have szE4 := E4.size; have szE3 := E3.size; have szE2 := E2.size; have szE1 := E1.size; refine Kc rfl <| Wo rfl (Kf Tryz.underlying26 rfl rfl Tryz.sizeOf24 rfl) ?_
            refine Wo (v := .slice _ _ _) rfl (Km Tryz.isAgg24 rfl (hB4.cell rfl)) <| Wo rfl (Ko Tryz.underlying24 rfl (Owned.read hQ0)) <| Wo rfl (opv_gtr rfl rfl) <| Kd ?_
            refine Kg rfl (fun h7 => ?_) (fun h7 => ?_); refine Kc rfl <| Wo rfl (Kf Tryz.underlying26 rfl rfl Tryz.sizeOf24 rfl) ?_
            refine Wo (v := .slice _ _ _) rfl (Km Tryz.isAgg24 rfl (hB4.cell rfl)) <| Wo rfl (opv_slice_sl_lo Tryz.underlying24 Tryz.sizeOf23 rfl rfl (by omega)) ?_
            refine Wo rfl (Kf Tryz.underlying26 rfl rfl Tryz.sizeOf24 rfl) <| Wo_st (v := .slice _ _ _) rfl Tryz.sizeOf24 rfl rfl rfl hB4 (by simp) (by omega) E21 ?_; rintro w13 E26 hB4 K3 hz3
            have E27 := E22.wroteAt E21 E26 K3 hz3 (by omega); have szE27 := E27.size; have E28 := E23.wroteAt E21 E26 K3 hz3 (by omega); have szE28 := E28.size; have E29 := E24.wroteAt E21 E26 K3 hz3 (by omega); have szE29 := E29.size
            have E30 := E25.wroteAt E21 E26 K3 hz3 (by omega); have szE30 := E30.size; simp only [List.set] at hB4; have hB1 := hB1.of_heap (K3 _ (by omega)); have hB2 := hB2.of_heap (K3 _ (by omega)); have hB3 := hB3.of_heap (K3 _ (by omega))
            have hO1 := hO1.wrote K3 (by omega); have hO2 := hO2.wrote K3 (by omega); have hB5 := hB5.of_heap (K3 _ (by omega)); refine Kd <| Ke <| Kc rfl <| Wo rfl (Ka (v := u4) rfl) ?_
            refine Wo rfl (Kf Tryz.underlying26 rfl rfl Tryz.sizeOf23 rfl) <| Wo_st (v := u4) rfl Tryz.sizeOf23 rfl rfl (OwnedB.isC hO2) hB4 (by simp) (by omega) E26 ?_; rintro w14 E31 hB4 K4 hz4
            have E32 := E27.wroteAt E26 E31 K4 hz4 (by omega); have szE32 := E32.size; have E33 := E28.wroteAt E26 E31 K4 hz4 (by omega); have szE33 := E33.size; have E34 := E29.wroteAt E26 E31 K4 hz4 (by omega); have szE34 := E34.size
            have E35 := E30.wroteAt E26 E31 K4 hz4 (by omega); have szE35 := E35.size; simp only [List.set] at hB4; have hB1 := hB1.of_heap (K4 _ (by omega)); have hB2 := hB2.of_heap (K4 _ (by omega)); have hB3 := hB3.of_heap (K4 _ (by omega))
            have hO1 := hO1.wrote K4 (by omega); have hO2 := hO2.wrote K4 (by omega); have hB5 := hB5.of_heap (K4 _ (by omega)); refine Kd <| Ke <| Kc rfl ?_
            refine Wo (v := .agg _) rfl (Jd Tryz.isAgg26 Tryz.sizeOf26 rfl hB4) <| Jl rfl Tryz.sizeOf26 rfl rfl (by first | rfl | assumption) (by first | rfl | assumption) hB3 (by omega) E31 ?_; rintro w15 E36 hB3 K5 hz5
            have E37 := E32.wroteAt E31 E36 K5 hz5 (by omega); have szE37 := E37.size; have E38 := E33.wroteAt E31 E36 K5 hz5 (by omega); have szE38 := E38.size; have hB4 := hB4.of_heap (K5 _ (by omega))
            have hB1 := hB1.of_heap (K5 _ (by omega)); have hB2 := hB2.of_heap (K5 _ (by omega)); have hO1 := hO1.wrote K5 (by omega); have hO2 := hO2.wrote K5 (by omega); have hB5 := hB5.of_heap (K5 _ (by omega))
            refine Wo rfl (Kb (v := .bool _) rfl) <| Kd <| Ja ?_; rotate_left; refine Kt ?_; refine Ke <| Kc rfl <| Wo rfl (Ka (v := u4) rfl) ?_
            refine Wo rfl (Kf Tryz.underlying26 rfl rfl Tryz.sizeOf23 rfl) <| Wo_st (v := u4) rfl Tryz.sizeOf23 rfl rfl (OwnedB.isC hO2) hB4 (by simp) (by omega) E21 ?_; rintro w13 E26 hB4 K3 hz3
            have E27 := E22.wroteAt E21 E26 K3 hz3 (by omega); have szE27 := E27.size; have E28 := E23.wroteAt E21 E26 K3 hz3 (by omega); have szE28 := E28.size; have E29 := E24.wroteAt E21 E26 K3 hz3 (by omega); have szE29 := E29.size
            have E30 := E25.wroteAt E21 E26 K3 hz3 (by omega); have szE30 := E30.size; simp only [List.set] at hB4; have hB1 := hB1.of_heap (K3 _ (by omega)); have hB2 := hB2.of_heap (K3 _ (by omega)); have hB3 := hB3.of_heap (K3 _ (by omega))
            have hO1 := hO1.wrote K3 (by omega); have hO2 := hO2.wrote K3 (by omega); have hB5 := hB5.of_heap (K3 _ (by omega)); refine Kd <| Ke <| Kc rfl ?_
            refine Wo (v := .agg _) rfl (Jd Tryz.isAgg26 Tryz.sizeOf26 rfl hB4) <| Jl rfl Tryz.sizeOf26 rfl rfl (by first | rfl | assumption) (by first | rfl | assumption) hB3 (by omega) E26 ?_; rintro w14 E31 hB3 K4 hz4
            have E32 := E27.wroteAt E26 E31 K4 hz4 (by omega); have szE32 := E32.size; have E33 := E28.wroteAt E26 E31 K4 hz4 (by omega); have szE33 := E33.size; have hB4 := hB4.of_heap (K4 _ (by omega))
            have hB1 := hB1.of_heap (K4 _ (by omega)); have hB2 := hB2.of_heap (K4 _ (by omega)); have hO1 := hO1.wrote K4 (by omega); have hO2 := hO2.wrote K4 (by omega); have hB5 := hB5.of_heap (K4 _ (by omega))
            refine Wo rfl (Kb (v := .bool _) rfl) <| Kd <| Ja ?_; rotate_left
          · have hQ3 := (hQ0.wroteLt (w' := w15) (fun k h1 h2 => (K5 k (by omega)).trans ((K4 k h2).trans ((K3 k h2).trans (K2 k h2)))) (by omega) hne).above.mono (show w.heap.size ≤ w4.heap.size by omega)
            refine ⟨b3, u4, _, rfl, hB3, u4, _, rfl, by exact E36, hO2.above.mono (by omega), ?_, by assumption, rfl, by omega⟩
            rw [show last8 (pp ++ [p]) = (pp ++ [p]).drop 1 from if_pos (by omega)]
            exact hQ3.dropS (by omega)
          · have hQ3 := (hQ0.wroteLt (w' := w14) (fun k h1 h2 => (K4 k (by omega)).trans ((K3 k h2).trans (K2 k h2))) (by omega) hne).above.mono (show w.heap.size ≤ w4.heap.size by omega)
            refine ⟨b3, u4, _, rfl, hB3, u4, _, rfl, by exact E31, hO2.above.mono (by omega), ?_, by assumption, rfl, by omega⟩
            rw [show last8 (pp ++ [p]) = pp ++ [p] from if_neg (by omega)]
            exact hQ3
 ·have k0 : ∀ w,ESl Ints w u1 p→ESl (ESl Ints) w u2 pp→Does Tryz.prog 16 [.agg #[u1,u2]] w (Ret w (.bool false)):=fun w h1 h2=>by
   have:=spec_DeskOk_ok w u1 u2 ⟨p,pp⟩ h1 h2;rwa [decide_eq_false hd] at this
  rw [if_neg hd,if_neg hd,decide_eq_false hd,Bool.false_and]
  focus
   refine Ke <| Kc rfl <| Jp rfl rfl rfl ?_;rintro b1 w1 hb1 E1 hB1;have hlb1:=hB1.lt;have hs1:=E1.size;refine Jp rfl rfl rfl ?_;rintro b2 w2 hb2 E2 hB2;have hlb2:=hB2.lt
   have hs2:=E2.size;refine Je rfl flat26 ?_;rintro b3 w3 hb3 E3 hB3;have hlb3:=hB3.lt;have hs3:=E3.size;refine Wo rfl (Kb (v:=.bool _) rfl) <| Kd <| Ke <| Ke ?_
   refine Kc rfl <| Wo (v:=.agg _) rfl (Jd Tryz.isAgg26 Tryz.sizeOf26 rfl (hB1.ext (E2.trans E3))) ?_
   refine Kj rfl (Jk (a:=.agg _) Tryz.call16 rfl) (k0 _ ((Mono.mono ((E1.trans E2).trans E3) h1)) ((Mono.mono ((E1.trans E2).trans E3) h2))) ?_;rintro _ w4 ⟨rfl,E4⟩;have hs4:=E4.size;refine Wo rfl (Jf rfl) ?_
   refine Kd <| Jx rfl (fun h3=>?_) (fun h3=>?_);refine Ke <| Kc rfl <| Wo rfl (opv_build (ps:=[]) (cs:=[_,_]) flat26 rfl rfl) ?_
   refine Jl rfl Tryz.sizeOf26 rfl rfl (by first | rfl | assumption) (by first | rfl | assumption) (hB3.ext E4) (by omega) (((E1.trans E2).trans E3).trans E4) ?_;rintro w5 E5 hB3 K1 hz1
   have E6:=((E2.trans E3).trans E4).wroteAt (((E1.trans E2).trans E3).trans E4) E5 K1 hz1 (by omega);have szE6:=E6.size;have E7:=(E3.trans E4).wroteAt (((E1.trans E2).trans E3).trans E4) E5 K1 hz1 (by omega)
   have szE7:=E7.size;have hB1:=(hB1.ext ((E2.trans E3).trans E4)).of_heap (K1 _ (by omega));have hB2:=(hB2.ext (E3.trans E4)).of_heap (K1 _ (by omega));refine Wo rfl (Kb (v:=.bool _) rfl) <| Kd ?_
   refine Ja ?_;rotate_left;contradiction
  exact ⟨b3,_,_,rfl,hB3,_,_,rfl,by exact E5,(Owned.nil (e:=0) (X:=XSl 0 XInt)).above,(Owned.nil (e:=0) (X:=XSl 0 (XSl 0 XInt))).above,rfl,rfl,by omega⟩
theorem szIntSS2_ok (w:World) (v:Value) (p:List (List Int)) (h:ESl Ints w v p) (left:Int) (hl:0≤left∧left≤1048576) :
  Does Tryz.prog 80 [v,.int .i64 left] w (RetX w (Value.int .i64) (fun n _=>n = -1∨(0≤n∧n≤left - (total p:Nat)∧p.length≤1048576∧∀ r ∈ p,r.length≤1048576))):=by
 have hle:=h.le
 refine Jc Tryz.func80 rfl Tryz.results80 Tryz.ntmps80 rfl ?_
 focus
  refine Ke <| Kc rfl <| Wo rfl (Kb (v:=.int _ _) rfl) <| Kd <| Ke <| Kc rfl <| Wo rfl (Ka (v:=.int _ _) rfl) ?_
  refine Wo rfl (Ka (v:=v) rfl) <| Wo rfl (Ko Tryz.underlying23 rfl h) <| Wo rfl (opv_sub rfl rfl (by omega)) ?_;refine Wo rfl (Kb (v:=.int _ _) rfl) <| Kd <| Ke ?_
  refine Ke <| Kc rfl <| Wo rfl (Ka (v:=.int _ _) rfl) <| Wo rfl (Ks rfl rfl) <| Kd <| Kg rfl (fun h1=>?_) (fun h1=>?_);refine Ke ?_
  refine Kc rfl <| Wo rfl (Kb (v:=.int _ _) rfl) <| Kd <| Ja ?_;refine at_ret (v:=.int _ _) rfl ?_;refine ⟨(Ext.refl _),_,rfl,?_⟩;(try dsimp only);rotate_left;refine Kt ?_
  refine Ke <| Ke <| Kc rfl <| Wo rfl (Kb (v:=.int _ _) rfl) <| Kd <| Kr ?_;rotate_left
 ·exact .inl rfl
 refine Jh [1,4,5,12,13,14,15,16,17,18,19,20,21,22,23,24,25] (fun (k,l)=>[(5,.int .i64 (k:Nat)),(1,.int .i64 (l:Int))]) (fun (k,l) w'=>Ext w w'∧k≤p.length∧0≤l∧l=left - p.length - (total (p.take k):Nat)) (fun x=>p.length - x.1) (0,left - p.length) (by repeat (first | exact trivial | refine And.intro rfl ?_)) ?_ ?_
 ·exact ⟨Ext.refl _,Nat.zero_le _,by omega,by simp [total]⟩
 rintro ⟨k,l⟩ ρj w1 ⟨E1,hk,h0,h1⟩
 focus
  have szE1:=E1.size;refine Ke <| Ke <| Kc rfl <| Wo rfl (Ka (v:=.int _ _) rfl) <| Wo rfl (Ka (v:=v) rfl) <| Wo rfl (Ko Tryz.underlying23 rfl h) ?_
  refine Wo rfl (Ks rfl rfl) <| Kd <| Kg rfl (fun h2=>?_) (fun h2=>?_);refine Kt ?_;refine Ke <| Kr <| Ke <| Kc rfl ?_
  refine Wo rfl (Ka (v:=v) rfl) <| Wo rfl (Ka (v:=.int _ _) rfl) <| Ji Tryz.underlying23 Tryz.sizeOf88 Tryz.isAgg88 rfl (fun _=>rfl) rfl h E1 rfl (by first | omega | (simp <;> omega)) ?_
  rintro _ u1 hu1;refine Wo rfl (Ka (v:=.int _ _) rfl) <| Kj rfl (Jn (a:=u1) (b:=.int _ _) Tryz.call133 rfl rfl) (szIntS_ok _ _ _ ((Mono.mono E1 hu1)) _ (by omega)) ?_;rintro _ w2 ⟨E2,y1,rfl,hy1⟩
  have hs1:=E2.size;refine Wo rfl (Kb (v:=.int _ _) rfl) <| Kd <| Ke <| Kc rfl <| Wo rfl (Ka (v:=.int _ _) rfl) <| Wo rfl (Ks rfl rfl) <| Kd ?_
  refine Kg rfl (fun h3=>?_) (fun h3=>?_);refine Ke <| Kc rfl <| Wo rfl (Kb (v:=.int _ _) rfl) <| Kd <| Ja ?_;refine at_ret (v:=.int _ _) rfl ?_
  refine ⟨(E1.trans E2),_,rfl,?_⟩;(try dsimp only);rotate_left;refine Kt ?_;refine Kc rfl <| Wo rfl (Ka (v:=.int _ _) rfl) <| Wo rfl (Kw rfl rfl (by omega)) ?_
  refine Wo rfl (Kb (v:=.int _ _) rfl) <| Kd ?_;rotate_left;refine Jg ?_;refine exitX_same ?_;refine Ke <| Kc rfl <| Wo rfl (Ka (v:=.int _ _) rfl) ?_
  refine Wo rfl (Kb (v:=.int _ _) rfl) <| Kd <| Ja ?_;refine at_ret (v:=.int _ _) rfl ?_;refine ⟨E1,_,rfl,?_⟩;(try dsimp only);rotate_left
 ·exact .inl rfl
 ·refine ⟨((k+1,y1)),by repeat (first | exact trivial | refine And.intro rfl ?_),by repeat (first | with_reducible exact Same.refl | refine Same.upd rfl ?_ | refine Same.upds rfl ?_ | refine Same.mix rfl ?_),?_,?_⟩
  ·refine ⟨E1.trans E2,by omega,by omega,?_⟩
   rw [total_ge _ (by omega)]
   rcases hy1 with h9 | h9
   ·omega
   ·omega
  ·simp only;omega
 ·obtain rfl:k=p.length:=by omega
  rw [List.take_length] at h1
  exact .inr ⟨by omega,by omega,by omega,fun r hr=>by have:=len_le_total hr;omega⟩
theorem szIntSSS2_ok (w:World) (v:Value) (p:List (List (List Int))) (h:ESl (ESl Ints) w v p) (left:Int) (hl:0≤left∧left≤1048576) :
  Does Tryz.prog 81 [v,.int .i64 left] w (RetX w (Value.int .i64) (fun n _=>n = -1∨(0≤n∧n≤left - (total3 p:Nat)∧p.length≤1048576∧∀ q ∈ p,q.length≤1048576∧∀ r ∈ q,r.length≤1048576))):=by
 have hle:=h.le
 refine Jc Tryz.func81 rfl Tryz.results81 Tryz.ntmps81 rfl ?_
 focus
  refine Ke <| Kc rfl <| Wo rfl (Kb (v:=.int _ _) rfl) <| Kd <| Ke <| Kc rfl <| Wo rfl (Ka (v:=.int _ _) rfl) ?_
  refine Wo rfl (Ka (v:=v) rfl) <| Wo rfl (Ko Tryz.underlying24 rfl h) <| Wo rfl (opv_sub rfl rfl (by omega)) ?_;refine Wo rfl (Kb (v:=.int _ _) rfl) <| Kd <| Ke ?_
  refine Ke <| Kc rfl <| Wo rfl (Ka (v:=.int _ _) rfl) <| Wo rfl (Ks rfl rfl) <| Kd <| Kg rfl (fun h1=>?_) (fun h1=>?_);refine Ke ?_
  refine Kc rfl <| Wo rfl (Kb (v:=.int _ _) rfl) <| Kd <| Ja ?_;refine at_ret (v:=.int _ _) rfl ?_;refine ⟨(Ext.refl _),_,rfl,?_⟩;(try dsimp only);rotate_left;refine Kt ?_
  refine Ke <| Ke <| Kc rfl <| Wo rfl (Kb (v:=.int _ _) rfl) <| Kd <| Kr ?_;rotate_left
 ·exact .inl rfl
 refine Jh [1,4,5,12,13,14,15,16,17,18,19,20,21,22,23,24,25] (fun (k,l)=>[(5,.int .i64 (k:Nat)),(1,.int .i64 (l:Int))]) (fun (k,l) w'=>Ext w w'∧k≤p.length∧p.length≤1048576∧0≤l∧l≤left - (total3 (p.take k):Nat)∧∀ q ∈ p.take k,q.length≤1048576∧∀ r ∈ q,r.length≤1048576) (fun x=>p.length - x.1) (0,left - p.length) (by repeat (first | exact trivial | refine And.intro rfl ?_)) ?_ ?_
 ·exact ⟨Ext.refl _,Nat.zero_le _,by omega,by omega,by simp [total3];omega,by simp⟩
 rintro ⟨k,l⟩ ρj w1 ⟨E1,hk,hp1,h0,h1,h3⟩
 focus
  have szE1:=E1.size;refine Ke <| Ke <| Kc rfl <| Wo rfl (Ka (v:=.int _ _) rfl) <| Wo rfl (Ka (v:=v) rfl) <| Wo rfl (Ko Tryz.underlying24 rfl h) ?_
  refine Wo rfl (Ks rfl rfl) <| Kd <| Kg rfl (fun h2=>?_) (fun h2=>?_);refine Kt ?_;refine Ke <| Kr <| Ke <| Kc rfl ?_
  refine Wo rfl (Ka (v:=v) rfl) <| Wo rfl (Ka (v:=.int _ _) rfl) <| Ji Tryz.underlying24 Tryz.sizeOf23 Tryz.isAgg23 rfl (fun _=>rfl) rfl h E1 rfl (by first | omega | (simp <;> omega)) ?_
  rintro _ u1 hu1;refine Wo rfl (Ka (v:=.int _ _) rfl) <| Kj rfl (Jn (a:=u1) (b:=.int _ _) Tryz.call80 rfl rfl) (szIntSS2_ok _ _ _ ((Mono.mono E1 hu1)) _ (by omega)) ?_;rintro _ w2 ⟨E2,y1,rfl,hy1⟩
  have hs1:=E2.size;refine Wo rfl (Kb (v:=.int _ _) rfl) <| Kd <| Ke <| Kc rfl <| Wo rfl (Ka (v:=.int _ _) rfl) <| Wo rfl (Ks rfl rfl) <| Kd ?_
  refine Kg rfl (fun h4=>?_) (fun h4=>?_);refine Ke <| Kc rfl <| Wo rfl (Kb (v:=.int _ _) rfl) <| Kd <| Ja ?_;refine at_ret (v:=.int _ _) rfl ?_
  refine ⟨(E1.trans E2),_,rfl,?_⟩;(try dsimp only);rotate_left;refine Kt ?_;refine Kc rfl <| Wo rfl (Ka (v:=.int _ _) rfl) <| Wo rfl (Kw rfl rfl (by omega)) ?_
  refine Wo rfl (Kb (v:=.int _ _) rfl) <| Kd ?_;rotate_left;refine Jg ?_;refine exitX_same ?_;refine Ke <| Kc rfl <| Wo rfl (Ka (v:=.int _ _) rfl) ?_
  refine Wo rfl (Kb (v:=.int _ _) rfl) <| Kd <| Ja ?_;refine at_ret (v:=.int _ _) rfl ?_;refine ⟨E1,_,rfl,?_⟩;(try dsimp only);rotate_left
 ·exact .inl rfl
 ·refine ⟨((k+1,y1)),by repeat (first | exact trivial | refine And.intro rfl ?_),by repeat (first | with_reducible exact Same.refl | refine Same.upd rfl ?_ | refine Same.upds rfl ?_ | refine Same.mix rfl ?_),?_,?_⟩
  ·rcases hy1 with h9 | ⟨h9,h10,h11,h13⟩
   ·omega
   ·refine ⟨E1.trans E2,by omega,by omega,by omega,?_,fun q hq=>?_⟩
    ·rw [total3_ge _ (by omega)];omega
    ·rw [take_snoc _ _ (by omega)] at hq
     rcases List.mem_append.1 hq with hq | hq
     ·exact h3 q hq
     ·rw [List.mem_singleton.1 hq];exact ⟨h11,h13⟩
  ·simp only;omega
 ·obtain rfl:k=p.length:=by omega
  rw [List.take_length] at h1 h3
  exact .inr ⟨by omega,by omega,by omega,h3⟩
theorem szDesk_ok (w:World) (u1 u2:Value) (p:List (List Int)) (pp:List (List (List Int))) (h1:ESl Ints w u1 p) (h2:ESl (ESl Ints) w u2 pp) (left:Int) (hl:0≤left∧left≤1048576) :
  Does Tryz.prog 25 [.agg #[u1,u2],.int .i64 left] w (RetX w (Value.int .i64) (fun z _=>z = -1∨(0≤z∧z≤left - (total p:Nat) - (total3 pp:Nat)∧p.length≤1048576∧(∀ r ∈ p,r.length≤1048576)∧pp.length≤1048576∧∀ q ∈ pp,q.length≤1048576∧∀ r ∈ q,r.length≤1048576))):=by
 have icu1:isCell u1=true:=ESl_isC h1
 have icu2:isCell u2=true:=ESl_isC h2
 refine Jc Tryz.func25 rfl Tryz.results25 Tryz.ntmps25 rfl ?_
 focus
  refine Ke <| Kc rfl <| Jp rfl rfl rfl ?_;rintro b1 w1 hb1 E1 hB1;have hlb1:=hB1.lt;have hs1:=E1.size;refine Wo rfl (Kb (v:=.int _ _) rfl) <| Kd <| Ke ?_
  refine Kc rfl <| Wo rfl (Kf Tryz.underlying40 rfl rfl Tryz.sizeOf23 rfl) <| Wo (v:=u1) rfl (Km Tryz.isAgg23 rfl (hB1.cell rfl)) <| Wo rfl (Ka (v:=.int _ _) rfl) ?_
  refine Kj rfl (Jn (a:=u1) (b:=.int _ _) Tryz.call80 rfl rfl) (szIntSS2_ok _ _ _ ((Mono.mono E1 h1)) _ (by assumption)) ?_;rintro _ w2 ⟨E2,y1,rfl,hy1⟩;have hs2:=E2.size
  refine Wo rfl (Kb (v:=.int _ _) rfl) <| Kd <| Ke <| Ke <| Kc rfl <| Wo rfl (Ka (v:=.int _ _) rfl) <| Wo rfl (Ks rfl rfl) <| Kd ?_
  refine Kg rfl (fun h3=>?_) (fun h3=>?_);refine Ke <| Kc rfl <| Wo rfl (Kb (v:=.int _ _) rfl) <| Kd <| Ja ?_;refine at_ret (v:=.int _ _) rfl ?_
  refine ⟨(E1.trans E2),_,rfl,?_⟩;(try dsimp only);rotate_left;refine Kt ?_;refine Ke <| Kc rfl <| Wo rfl (Kf Tryz.underlying40 rfl rfl Tryz.sizeOf24 rfl) ?_
  refine Wo (v:=u2) rfl (Km Tryz.isAgg24 rfl ((hB1.ext E2).cell rfl)) <| Wo rfl (Ka (v:=.int _ _) rfl) ?_
  refine Kj rfl (Jn (a:=u2) (b:=.int _ _) Tryz.call81 rfl rfl) (szIntSSS2_ok _ _ _ ((Mono.mono (E1.trans E2) h2)) _ (by omega)) ?_;rintro _ w3 ⟨E3,y2,rfl,hy2⟩;have hs3:=E3.size
  refine Wo rfl (Kb (v:=.int _ _) rfl) <| Kd <| Ke <| Ke <| Kc rfl <| Wo rfl (Ka (v:=.int _ _) rfl) <| Wo rfl (Ks rfl rfl) <| Kd ?_
  refine Kg rfl (fun h4=>?_) (fun h4=>?_);refine Ke <| Kc rfl <| Wo rfl (Kb (v:=.int _ _) rfl) <| Kd <| Ja ?_;refine at_ret (v:=.int _ _) rfl ?_
  refine ⟨((E1.trans E2).trans E3),_,rfl,?_⟩;(try dsimp only);rotate_left;refine Kt ?_;refine Ke <| Kc rfl <| Wo rfl (Ka (v:=.int _ _) rfl) ?_
  refine Wo rfl (Kb (v:=.int _ _) rfl) <| Kd <| Ja ?_;refine at_ret (v:=.int _ _) rfl ?_;refine ⟨((E1.trans E2).trans E3),_,rfl,?_⟩;(try dsimp only);rotate_left
 ·exact .inl rfl
 ·exact .inl rfl
 ·rcases hy1 with h9 | ⟨h9,h10,h11,h12⟩
  ·omega
  rcases hy2 with h8 | ⟨h8,h13,h14,h15⟩
  ·omega
  exact .inr ⟨by omega,by omega,h11,h12,h14,h15⟩
theorem toDesk_ok (w:World) (u1 u2:Value) (p:List (List Int)) (pp:List (List (List Int))) (h1:ESl Ints w u1 p) (h2:ESl (ESl Ints) w u2 pp) (hp:p.length≤1048576∧∀ r ∈ p,r.length≤1048576) (hl:pp.length≤1048576) (hq : ∀ q ∈ pp,q.length≤1048576∧∀ r ∈ q,r.length≤1048576) :
  Does Tryz.prog 27 [.agg #[u1,u2]] w (RetDk w 23 88 3 p pp):=by
 have icu1:isCell u1=true:=ESl_isC h1
 have icu2:isCell u2=true:=ESl_isC h2
 have k1:=fun (w:World) (h:ESl Ints w u1 p)=>toIntSS_ok w u1 p h hp.1 hp.2
 have k2:=fun (w:World) (h:ESl (ESl Ints) w u2 pp)=>toIntSSS_ok w u2 pp h hl hq
 refine fn_of_Wc Tryz.func27 rfl Tryz.results27 Tryz.ntmps27 rfl Tryz.isAgg26 Tryz.sizeOf26 ?_
 have litown:True:=trivial
 focus
  refine Ke <| Kc rfl <| Jp rfl rfl rfl ?_;rintro b1 w1 hb1 E1 hB1;have hlb1:=hB1.lt;have hs1:=E1.size;refine Je rfl flat26 ?_;rintro b2 w2 hb2 E2 hB2;have hlb2:=hB2.lt
  have hs2:=E2.size;refine Kd <| Ke <| Kc rfl <| Je rfl flat26 ?_;rintro b3 w3 hb3 E3 hB3;have hlb3:=hB3.lt;have hs3:=E3.size;refine Kd <| Ke ?_
  refine Kc rfl <| Wo rfl (Kf Tryz.underlying40 rfl rfl Tryz.sizeOf23 rfl) <| Wo (v:=u1) rfl (Km Tryz.isAgg23 rfl ((hB1.ext (E2.trans E3)).cell rfl)) ?_
  refine Kj rfl (Jk (a:=u1) Tryz.call82 rfl) (k1 _ ((Mono.mono ((E1.trans E2).trans E3) h1))) ?_;rintro u3 w4 ⟨E4,hO1⟩;have ichO1:=OwnedB.isC (Owned.toB hO1);have hs4:=E4.size
  refine Wo rfl (Kf Tryz.underlying26 rfl rfl Tryz.sizeOf23 rfl) <| Wo_st (v:=u3) rfl Tryz.sizeOf23 rfl rfl (OwnedB.isC hO1.toB) (hB3.ext E4) (by decide) (by omega) (((E1.trans E2).trans E3).trans E4) ?_
  rintro w5 E5 hB3 K1 hz1;have E6:=((E2.trans E3).trans E4).wroteAt (((E1.trans E2).trans E3).trans E4) E5 K1 hz1 (by omega);have szE6:=E6.size
  have E7:=(E3.trans E4).wroteAt (((E1.trans E2).trans E3).trans E4) E5 K1 hz1 (by omega);have szE7:=E7.size;simp only [List.set] at hB3;have hB1:=(hB1.ext ((E2.trans E3).trans E4)).of_heap (K1 _ (by omega))
  have hB2:=(hB2.ext (E3.trans E4)).of_heap (K1 _ (by omega));have hO1:=hO1.toB.wrote K1 (by omega);refine Kd <| Ke <| Kc rfl ?_
  refine Wo rfl (Kf Tryz.underlying40 rfl rfl Tryz.sizeOf24 rfl) <| Wo (v:=u2) rfl (Km Tryz.isAgg24 rfl (hB1.cell rfl)) <| Kj rfl (Jk (a:=u2) Tryz.call83 rfl) (k2 _ ((Mono.mono E5 h2))) ?_
  rintro u4 w6 ⟨E8,hO2⟩;have ichO2:=OwnedB.isC (Owned.toB hO2);have hs5:=E8.size;refine Wo rfl (Kf Tryz.underlying26 rfl rfl Tryz.sizeOf24 rfl) ?_
  refine Wo_st (v:=u4) rfl Tryz.sizeOf24 rfl rfl (OwnedB.isC hO2.toB) (hB3.ext E8) (by simp) (by omega) (E5.trans E8) ?_;rintro w7 E9 hB3 K2 hz2;have E10:=(E6.trans E8).wroteAt (E5.trans E8) E9 K2 hz2 (by omega)
  have szE10:=E10.size;have E11:=(E7.trans E8).wroteAt (E5.trans E8) E9 K2 hz2 (by omega);have szE11:=E11.size;simp only [List.set] at hB3;have hB1:=(hB1.ext E8).of_heap (K2 _ (by omega))
  have hB2:=(hB2.ext E8).of_heap (K2 _ (by omega));have hO1:=(hO1.ext E8).wrote K2 (by omega);have hO2:=hO2.toB.wrote K2 (by omega);refine Kd <| Ke <| Kc rfl ?_
  refine Wo (v:=.agg _) rfl (Jd Tryz.isAgg26 Tryz.sizeOf26 rfl hB3) <| Jl rfl Tryz.sizeOf26 rfl rfl (by first | rfl | assumption) (by first | rfl | assumption) hB2 (by omega) E9 ?_;rintro w8 E12 hB2 K3 hz3
  have E13:=E10.wroteAt E9 E12 K3 hz3 (by omega);have szE13:=E13.size;have hB3:=hB3.of_heap (K3 _ (by omega));have hB1:=hB1.of_heap (K3 _ (by omega));have hO1:=hO1.wrote K3 (by omega);have hO2:=hO2.wrote K3 (by omega)
  refine Kd <| Ja ?_
 exact ⟨b2,_,_,rfl,hB2,_,_,w4.heap.size,rfl,by exact E12,hO1.wide (by omega) (Nat.le_refl _),hO2.o.mono (by omega),by omega,by omega⟩
end Go.Proofs.YtbgpppaljpngmaaGreatDoor
