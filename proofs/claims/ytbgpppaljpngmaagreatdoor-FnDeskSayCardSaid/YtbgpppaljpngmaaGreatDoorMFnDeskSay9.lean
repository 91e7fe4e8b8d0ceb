/- Lemmas for FnDeskSay. -/
import Derived.Test.YtbgpppaljpngmaaGreatDoorMFnDeskSay8
namespace Go.Proofs.YtbgpppaljpngmaaGreatDoor
open Go.Hs
set_option maxRecDepth 10000
set_option maxHeartbeats 4000000
set_option linter.unusedVariables false
set_option linter.unusedSimpArgs false
theorem Twin_ok {w0:World} (w:World) {br m:Nat} (n:Int) (hr:Rdr w0 w br m) (hm:m≤10000000) (hn:0≤n∧n≤1000) :
  Dz 105 [.pointer (some ⟨br,0,none⟩),.int .i64 n] w (RetDO w0 w br (m+63) XR (fun p=>p.length≤5∧∀ r ∈ p,r.length≤6)):=by
 refine Yx Tryz.func105 Z Tryz.results105 Tryz.ntmps105 Z ?_
 have hG:w.grownBy w (some br):=Sb _ _
 have hlr:=hr.lt
 have hgr:=hr.ge
 focus
  refine Vw<|Um Z<|Vt<|Vw<|Qa Z<|Yd Z<|Vv Z (Xd (a:=.pointer _) (b:=.int _ _) Tryz.call151 Z Z) (Picture_ok _ _ Kk Kh Kk) ?_;rintro u1 w1 ⟨E1,Z1,x1,O1,L1⟩;(try dsimp only at L1);have hG:=Yj hG E1;refine Ug u1 Z<|Vt<|Vx<|Vx<|Ys<|Ym u1 Z ?_
 by_cases hp:Pic x1
 ·have hk : ∀ w u,ESl Ints w u x1→Dz 115 [u] w (Ret w (.bool true)):=fun w u h=>by
   have:=Qr w u x1 h
   rw [decide_eq_true hp] at this;exact this
  focus
   refine Vv Z (Xl (a:=u1) Gv Z) (hk _ _ (Kv O1)) ?_;rintro _ w2 ⟨rfl,E2⟩;have Z1:=Z1.J E2;have hG:=Yk hG E2;refine Xu Z<|Ym u1 Z<|Yu Jm Z (Kv O1)<|Qg Z<|Ue Z<|Xo Z (fun h1=>?_) (fun h1=>?_);refine Qa Z<|Vv Z (Xd (a:=.pointer _) (b:=.int _ _) Jy Z Z) (Xv _ _ Kk Kh) ?_;rintro _ w3 ⟨y1,rfl,E3,Z2,L2⟩;(try dsimp only at L2);have O1:=(O1.toB.J E2).G E3 Kh;have hG:=Yj hG E3;refine Yt Z<|Ue Z<|Vt<|Vy Z (fun h2=>?_) (fun h2=>?_);refine Vw<|Qa Z<|Ym u1 Z<|Yu Jm Z (Kw O1)<|Vv Z (Xd (a:=.pointer _) (b:=.int _ _) Jy Z Z) (Xv _ _ Kk Kh) ?_
   rintro _ w4 ⟨y2,rfl,E4,Z3,L3⟩;(try dsimp only at L3);have O1:=O1.G E4 Kh;have hG:=Yj hG E4;refine Xc Z<|Vt<|Vw<|Qa Z<|Ym u1 Z<|Yu Jm Z (Kw O1)<|Vv Z (Xd (a:=.pointer _) (b:=.int _ _) Jy Z Z) (Xv _ _ Kk Kh) ?_;rintro _ w5 ⟨y3,rfl,E5,Z4,L4⟩;(try dsimp only at L4);have O1:=O1.G E5 Kh;have hG:=Yj hG E5;refine Xc Z<|Vt<|Vw<|Xc Z<|Vt<|Ye ?_;rotate_left;refine Ya<|Vw<|Ym u1 Z<|Ug u1 Z<|Vt<|Yc ?_;refine Yl (v:=u1) Z ?_;rotate_left;refine Vu Z<|Vu Z<|Vu Z<|Xg Z<|Vt<|Yb Z ?_;refine Ya<|Vw<|Ym u1 Z<|Ug u1 Z<|Vt<|Yc ?_;refine Yl (v:=u1) Z ?_
   rotate_left
  ·have hy3':=L3 Kh
   have hy4':=L4 Kh
   have hlen : ∀ r ∈ x1,r.length=x1.length:=fun r hr=>(hp.2.2 r hr).1
   clear hp hk
   refine Xw [8,32,33,34,35,36,37,38,39,40,41,42,43,44,45,46,47,48,49,50] (fun (j,rows)=>[(8,.int .i64 (j:Nat))]) (fun (j,rows) w'=>w.grownBy w' (some br)∧Rdr w0 w' br (m+63)∧j≤x1.length∧Owned w.heap.size XR w' u1 rows∧rows.length=x1.length∧∀ r ∈ rows,r.length=x1.length) (fun x=>x1.length - x.1) (0,x1) Kn ?_ ?_
   ·exact ⟨hG,Z4,Ja _,O1.o,rfl,hlen⟩
   rintro ⟨j,rows⟩ ρj w6 ⟨A6,Z6,hj,O6,hrl,hrr⟩
   have E6:=Z6.old
   by_cases hlt:j < x1.length
   ·obtain ⟨ub,uc,rfl,_⟩:=O6.lit Kh
    have hrb:=hrr rows[y3] (List.getElem_mem Kh)
    have hra:=hrr rows[y2] (List.getElem_mem Kh)
    have hset : ∀ r':List Int,r'.length=x1.length→∀ r ∈ rows.set y3 r',r.length=x1.length:=by
     intro r' h9 r Z9
     rcases List.mem_or_eq_of_mem_set Z9 with h | h
     ·exact hrr r h
     ·rw [h];exact h9
    focus
     refine Vx<|Vw<|Yd Z<|Re Z<|Yu Jm Z (Kv O6)<|Xa Z<|Vt<|Vy Z (fun h3=>?_) (fun h3=>?_);refine Ya<|Vx<|Ye<|Rl (fun _=>True) mixed Z Ki ?_;intro w7 E7 K1 Q1;have A6:=Yk A6 E7;have Z6:=Z6.J E7;refine WtmS 0 Z Z trivial<|Nt 1 Z Z trivial<|Yg 2 Z Ki Ki Z (fun _ _=>Yo Jm Jw Z Z Kh) trivial ?_;refine Nt 4 Z Z trivial<|WtmS 5 Z Z trivial<|Nt 6 Z Z trivial<|Yg 7 Z Ki Ki Z (fun _ _=>Yo Jm Jw Z Z Kh) trivial ?_;refine Nt 9 Z Z trivial<|Wha [3,8]<|Yi Z ?_ ?_;rotate_left;refine Wh1 Z ?_;rotate_left;exact Kt
    all_goals
     have O7:=O6.J E7
     obtain ⟨bra,cra,hRa,ha1,ha2,ha3,ha4⟩:=rowCell O7 (i:=y2) (j:=j) Kh Kh
     obtain ⟨brb,crb,hRb,R1,R2,R3,R4⟩:=rowCell O7 (i:=y3) (j:=j) Kh Kh
    ·focus
      refine Wo Z (Xh Jz Z Kk) ?_;refine Wnt<|Wha [8]<|Wh1 Z<|Wo Z (Xh Jz Z Kk) ?_;refine Wnt<|Yg 10 Z Ki Ki Z (fun _ _=>Yo Jl Ji Z Z Kh) trivial ?_;refine Wha [11]<|Wh1 Z<|Wo Z (Xh Jk Z Kk) ?_;refine Wnt<|Yg 12 Z Ki Ki Z (fun _ _=>Yo Jl Ji Z Z Kh) trivial ?_;refine Wha [13]<|Wh1 Z<|Ts Z Ji Z Z (O6.toB.J E7) hRb Km Km ?_;rintro w8 O6 hRb On1 K2 Q2;have E8:=On1.ext1 (E6.K E7) Kh;have A6:=Xb A6 (E6.K E7) E8 K2 Q2 Kd
      have Z6:=Z6.W E8 (K2 _ Kh) Q2;refine Wnt<|Yr Ki ?_;refine Ys<|Yd Z<|Xk Z<|Xc Z<|Vt ?_;rotate_left
     refine ⟨((j+1,rows.set y3 (rows[y3].set j rows[y2][j]))),Kn,Ko,?_,?_⟩
     ·exact ⟨A6,Z6,Kh,O6,by simp [hrl],hset _ (by simp [hrb])⟩
     ·simp only;omega
    ·focus
      refine Wo Z (Xh Jz Z Kk) ?_;refine Wnt<|Yg 10 Z Ki Ki Z (fun _ _=>Yo Jl Ji Z Z Kh) trivial ?_;refine Wha [3,11]<|Yi Z ?_ ?_;refine Wo Z (Xh Jz Z Kk) ?_;refine Wnt<|Wha [11]<|Wh1 Z<|Wo Z (Xh Jk Z Kk) ?_;refine Wnt<|Yg 12 Z Ki Ki Z (fun _ _=>Yo Jl Ji Z Z Kh) trivial ?_;refine Wha [13]<|Wh1 Z<|Ts Z Ji Z Z (O6.toB.J E7) hRb Km Km ?_;rintro w8 O6 hRb On1 K2 Q2;have E8:=On1.ext1 (E6.K E7) Kh;have A6:=Xb A6 (E6.K E7) E8 K2 Q2 Kd
      have Z6:=Z6.W E8 (K2 _ Kh) Q2;refine Wnt<|Yr Ki ?_;refine Ys<|Yd Z<|Xk Z<|Xc Z<|Vt ?_;rotate_left;refine Wh1 Z<|Wo Z (Xh Jk Z Kk) ?_;refine Wnt<|Wha [3]<|Wh1 Z<|Wo Z (Xh Jz Z Kk) ?_;refine Wnt<|Yg 12 Z Ki Ki Z (fun _ _=>Yo Jl Ji Z Z Kh) trivial ?_;refine Wha [13]<|Wh1 Z<|Ts Z Ji Z Z (O6.toB.J E7) hRb Km Km ?_;rintro w8 O6 hRb On1 K2 Q2;have E8:=On1.ext1 (E6.K E7) Kh;have A6:=Xb A6 (E6.K E7) E8 K2 Q2 Kd;have Z6:=Z6.W E8 (K2 _ Kh) Q2;refine Wnt<|Yr Ki ?_
      refine Ys<|Yd Z<|Xk Z<|Xc Z<|Vt ?_;rotate_left
     ·refine ⟨((j+1,rows.set y3 (rows[y3].set j rows[y2][j]))),Kn,Ko,?_,?_⟩
      ·exact ⟨A6,Z6,Kh,O6,by simp [hrl],hset _ (by simp [hrb])⟩
      ·simp only;omega
     ·refine ⟨((j+1,rows.set y3 (rows[y3].set j rows[y2][j]))),Kn,Ko,?_,?_⟩
      ·exact ⟨A6,Z6,Kh,O6,by simp [hrl],hset _ (by simp [hrb])⟩
      ·simp only;omega
   ·obtain rfl:j=x1.length:=by omega
    focus
     refine Vx<|Vw<|Yd Z<|Ym u1 Z<|Yu Jm Z (Kv O6)<|Xa Z<|Vt<|Vz Z fun h3=>?_;refine Xp ?_;refine Yp ?_;refine Vw<|Ym u1 Z<|Ug u1 Z<|Vt<|Yc ?_;refine Yl (v:=u1) Z ?_
    exact ⟨A6,Z6,_,O6,Kh,fun r h=>by have:=hrr r h;omega⟩
  ·exact ⟨hG,Z2.le Kh,_,O1.o,L1⟩
  ·exact ⟨hG,Z1.le Kh,_,O1.J E2,L1⟩
 ·have hk : ∀ w u,ESl Ints w u x1→Dz 115 [u] w (Ret w (.bool false)):=fun w u h=>by
   have:=Qr w u x1 h
   rw [decide_eq_false hp] at this;exact this
  focus
   refine Vv Z (Xl (a:=u1) Gv Z) (hk _ _ (Kv O1)) ?_;rintro _ w2 ⟨rfl,E2⟩;have Z1:=Z1.J E2;have hG:=Yk hG E2;refine Xu Z<|Vu Z<|Vu Z<|Vu Z<|Xg Z<|Xu Z<|Vu Z<|Vu Z<|Vu Z<|Xg Z<|Vt<|Yb Z ?_;refine Ya<|Vw<|Ym u1 Z<|Ug u1 Z<|Vt<|Yc ?_;refine Yl (v:=u1) Z ?_
  exact ⟨hG,Z1.le Kh,_,O1.J E2,L1⟩
open Classical in
theorem Deed_ok {w0:World} (w:World) {br m lo:Nat} (u1 u2:Value) (p:List (List Int)) (hr:Rdr w0 w br m) (hm:m≤10000000) (hA:Above lo (ESl Ints) w u1 p) (hlo:br < lo) (hlo2:lo < w.heap.size) (i2:isCell u2=true) (hp:NowP p) :
  Dz 91 [.pointer (some ⟨br,0,none⟩),.agg #[u1,u2]] w (RetDD w0 w br (m+10) DrP):=by
 have i1:isCell u1=true:=Qy hA.here
 have hle:=hA.here.le
 have hO:=hA.xrd hlo2 i1
 clear hA
 refine fn_of_Wc3 Tryz.func91 Z Tryz.results91 Tryz.ntmps91 Z Gb Ju ?_
 have hG:w.grownBy w (some br):=Sb _ _
 have hlr:=hr.lt
 have hgr:=hr.ge
 have stop1:True:=trivial
 focus
  refine Vw<|Xx Z Z Z ?_;rintro b1 w1 R1 E1 B1;have:=B1.lt;have hr:=hr.J E1;have hG:=Yk hG E1;refine Ql Z Xt ?_;rintro b2 w2 R2 E2 B2;have:=B2.lt;have hr:=hr.J E2;have hG:=Yk hG E2;refine Vt<|Vx ?_
 clear stop1
 refine W_mid [5,7,8,9,10,11,12,13,14,15,16,17] (fun ((b,k):Nat × Int)=>[(5,.pointer (some ⟨b,0,none⟩))]) (fun (b,k) w'=>w.grownBy w' (some br)∧Rdr w0 w' br (m+2)∧w2.heap.size≤b∧b < w'.heap.size∧Blk w' b1 [u1,u2]∧Blk w' b2 [.int .i64 0,str [],.int .i64 0]∧Blk w' b [.int .i64 k,str [],.int .i64 0]∧OwnedB lo w.heap.size (XRd (ESl Ints)) w' u1 p∧0≤k∧k≤20) ?_ ?_
 ·focus
   refine Rl (fun _=>True) mixed Z Ki ?_;intro w3 E3 K1 Q1;have hr:=hr.J E3;have hG:=Yk hG E3;refine WtmP 1 Z Z trivial<|WtmP 5 Z Z trivial<|Wha [0,2,11]<|Yi Z ?_ ?_;refine Xm (ps:=[(0,.int _ _),(1,.int _ _),(2,.int _ _),(3,.int _ _),(4,.int _ _),(5,.int _ _),(6,.int _ _),(7,.int _ _)]) (cs:=[_,_,_,_,_,_,_,_]) Z Jl Ji Gf Z Z Z Z ?_;rintro b3 w4 R3 E4 B3 T3;have:=B3.lt;have hr:=hr.J E4;have hG:=Yk hG E4;refine Wnt<|Wha [2,11]<|Yi Z ?_ ?_;refine Vv Z (Xd (a:=.pointer _) (b:=.int _ _) Jy Z Z) (Xv _ _ Kk Kh) ?_;rintro _ w5 ⟨y1,rfl,E5,Z1,L1⟩;(try dsimp only at L1);have:=Z1.lt
   have hO:=(hO.J (((E1.K E2).K E3).K E4)).G E5 Kh;have B1:=(B1.J ((E2.K E3).K E4)).G E5 Kb;have B2:=(B2.J (E3.K E4)).G E5 Kb;have B3:=B3.G E5 Kb;have hG:=Yj hG E5;have:=E5.Z;refine Wnt<|Yg 3 Z Ki Ki Z (fun _ _=>Yo Jl Ji Z Z Kh) trivial ?_;refine Wha [4,6,11]<|Yi Z ?_ ?_;refine Rr Jk Z Z B3 Ka Kc ?_;intro z1 Q1;refine Wnt<|Wha [6,11]<|Yi Z ?_ ?_
   refine Vv Z (Xd (a:=.pointer _) (b:=.int _ _) Jy Z Z) (Xv _ _ Kk Kh) ?_;rintro _ w6 ⟨y2,rfl,E6,Z2,L2⟩;(try dsimp only at L2);have:=Z2.lt;have D2:=Z2.old;have hO:=hO.G E6 Kh;have B1:=B1.G E6 Kb;have B2:=B2.G E6 Kb;have B3:=B3.G E6 Kb;have hG:=Yj hG E6;have:=E6.Z;refine Wnt<|Yg 7 Z Ki Ki Z (fun _ _=>Rh Z Z Kh) trivial ?_;refine Yg 8 Z Ki Ki Z (fun _ _=>Rf Z Z Kh) trivial ?_;refine Yg 9 Z Ki Ki Z (fun _ _=>Qm Z Z Kh) trivial ?_
   refine Yg 10 Z Ki Ki Z (fun _ _=>Yz (ps:=[(0,.int _ _)]) (cs:=[_,_,_]) Xt Z Z) trivial ?_;refine Wha [11]<|Wh1 Z<|Ql Z Xt ?_;rintro b4 w7 R4 E7 B4;have:=B4.lt;have Z2:=Z2.J E7;have hG:=Yk hG E7;refine Wnt<|Wha [12]<|Wh1 Z<|Qw Ju B4 Z (D2.trans E7) ?_;rintro w8 E8 B4 K2 Q2;have hO:=(hO.J E7).W K2 Kh;have B1:=(B1.J E7).Y (K2 _ Kh);have B2:=(B2.J E7).Y (K2 _ Kh);have B3:=(B3.J E7).Y (K2 _ Kh);have Z2:=Z2.W E8 (K2 _ Kh) Q2;have hG:=Xb hG (D2.trans E7) E8 K2 Q2 Kd;refine Wnt<|Yr Ki ?_;rotate_left;refine Wh1 Z<|Ql Z Xt ?_;rintro b4 w6 R4 E6 B4;have:=B4.lt
   have Z1:=Z1.J E6;have hG:=Yk hG E6;refine Wnt<|Wha [6]<|Wh1 Z<|Vv Z (Xd (a:=.pointer _) (b:=.int _ _) Jy Z Z) (Xv _ _ Kk Kh) ?_;rintro _ w7 ⟨y2,rfl,E7,Z2,L2⟩;(try dsimp only at L2);have D2:=Z2.old;have hO:=(hO.J E6).G E7 Kh;have B1:=(B1.J E6).G E7 Kb;have B2:=(B2.J E6).G E7 Kb;have B3:=(B3.J E6).G E7 Kb;have B4:=B4.G E7 Kb;have hG:=Yj hG E7;have:=E7.Z;refine Wnt<|Yg 7 Z Ki Ki Z (fun _ _=>Rh Z Z Kh) trivial ?_
   refine Yg 8 Z Ki Ki Z (fun _ _=>Rf Z Z Kh) trivial ?_;refine Yg 9 Z Ki Ki Z (fun _ _=>Qm Z Z Kh) trivial ?_;refine Yg 10 Z Ki Ki Z (fun _ _=>Yz (ps:=[(0,.int _ _)]) (cs:=[_,_,_]) Xt Z Z) trivial ?_;refine Wha [12]<|Wh1 Z<|Qw Ju B4 Z D2 ?_;rintro w8 E8 B4 K2 Q2;have Z2:=Z2.W E8 (K2 _ Kh) Q2;have hO:=hO.W K2 Kh;have B1:=B1.Y (K2 _ Kh);have B2:=B2.Y (K2 _ Kh);have B3:=B3.Y (K2 _ Kh);have hG:=Xb hG D2 E8 K2 Q2 Kd;refine Wnt<|Yr Ki ?_;rotate_left;refine Yi Z ?_ ?_
   refine Vv Z (Xd (a:=.pointer _) (b:=.int _ _) Jy Z Z) (Xv _ _ Kk Kh) ?_;rintro _ w6 ⟨y2,rfl,E6,Z2,L2⟩;(try dsimp only at L2);have:=Z2.lt;have D2:=Z2.old;have hO:=hO.G E6 Kh;have B1:=B1.G E6 Kb;have B2:=B2.G E6 Kb;have B3:=B3.G E6 Kb;have hG:=Yj hG E6;have:=E6.Z;refine Wnt<|Yg 7 Z Ki Ki Z (fun _ _=>Rh Z Z Kh) trivial ?_;refine Yg 8 Z Ki Ki Z (fun _ _=>Rf Z Z Kh) trivial ?_;refine Wha [4,11]<|Yi Z ?_ ?_
   refine Rr Jk Z Z B3 Ka Kc ?_;intro z1 Q1;refine Wnt<|Yg 9 Z Ki Ki Z (fun _ _=>Qm Z Z Kh) trivial ?_;refine Yg 10 Z Ki Ki Z (fun _ _=>Yz (ps:=[(0,.int _ _)]) (cs:=[_,_,_]) Xt Z Z) trivial ?_;refine Wha [11]<|Wh1 Z<|Ql Z Xt ?_;rintro b4 w7 R4 E7 B4;have:=B4.lt;have Z2:=Z2.J E7;have hG:=Yk hG E7;refine Wnt<|Wha [12]<|Wh1 Z<|Qw Ju B4 Z (D2.trans E7) ?_;rintro w8 E8 B4 K2 Q2;have hO:=(hO.J E7).W K2 Kh;have B1:=(B1.J E7).Y (K2 _ Kh);have B2:=(B2.J E7).Y (K2 _ Kh)
   have B3:=(B3.J E7).Y (K2 _ Kh);have Z2:=Z2.W E8 (K2 _ Kh) Q2;have hG:=Xb hG (D2.trans E7) E8 K2 Q2 Kd;refine Wnt<|Yr Ki ?_;rotate_left;refine Wh1 Z<|Ql Z Xt ?_;rintro b4 w7 R4 E7 B4;have:=B4.lt;have Z2:=Z2.J E7;have hG:=Yk hG E7;refine Wnt<|Wha [4]<|Wh1 Z<|Rr Jk Z Z (B3.J E7) Ka Kc ?_;intro z1 Q1;refine Wnt<|Yg 9 Z Ki Ki Z (fun _ _=>Qm Z Z Kh) trivial ?_;refine Yg 10 Z Ki Ki Z (fun _ _=>Yz (ps:=[(0,.int _ _)]) (cs:=[_,_,_]) Xt Z Z) trivial ?_
   refine Wha [12]<|Wh1 Z<|Qw Ju B4 Z (D2.trans E7) ?_;rintro w8 E8 B4 K2 Q2;have hO:=(hO.J E7).W K2 Kh;have B1:=(B1.J E7).Y (K2 _ Kh);have B2:=(B2.J E7).Y (K2 _ Kh);have B3:=(B3.J E7).Y (K2 _ Kh);have Z2:=Z2.W E8 (K2 _ Kh) Q2;have hG:=Xb hG (D2.trans E7) E8 K2 Q2 Kd;refine Wnt<|Yr Ki ?_;rotate_left;refine Wh1 Z<|Ql Z Xt ?_;rintro b4 w6 R4 E6 B4;have:=B4.lt;have Z1:=Z1.J E6;have hG:=Yk hG E6;refine Wnt<|Wha [4,6]<|Yi Z ?_ ?_;refine Rr Jk Z Z (B3.J E6) Ka Kc ?_;intro z1 Q1
   refine Wnt<|Wha [6]<|Wh1 Z<|Vv Z (Xd (a:=.pointer _) (b:=.int _ _) Jy Z Z) (Xv _ _ Kk Kh) ?_;rintro _ w7 ⟨y2,rfl,E7,Z2,L2⟩;(try dsimp only at L2);have D2:=Z2.old;have hO:=(hO.J E6).G E7 Kh;have B1:=(B1.J E6).G E7 Kb;have B2:=(B2.J E6).G E7 Kb;have B3:=(B3.J E6).G E7 Kb;have B4:=B4.G E7 Kb;have hG:=Yj hG E7;have:=E7.Z;refine Wnt<|Yg 7 Z Ki Ki Z (fun _ _=>Rh Z Z Kh) trivial ?_;refine Yg 8 Z Ki Ki Z (fun _ _=>Rf Z Z Kh) trivial ?_
   refine Yg 9 Z Ki Ki Z (fun _ _=>Qm Z Z Kh) trivial ?_;refine Yg 10 Z Ki Ki Z (fun _ _=>Yz (ps:=[(0,.int _ _)]) (cs:=[_,_,_]) Xt Z Z) trivial ?_;refine Wha [12]<|Wh1 Z<|Qw Ju B4 Z D2 ?_;rintro w8 E8 B4 K2 Q2;have Z2:=Z2.W E8 (K2 _ Kh) Q2;have hO:=hO.W K2 Kh;have B1:=B1.Y (K2 _ Kh);have B2:=B2.Y (K2 _ Kh);have B3:=B3.Y (K2 _ Kh);have hG:=Xb hG D2 E8 K2 Q2 Kd;refine Wnt<|Yr Ki ?_;rotate_left;refine Wh1 Z<|Vv Z (Xd (a:=.pointer _) (b:=.int _ _) Jy Z Z) (Xv _ _ Kk Kh) ?_;rintro _ w7 ⟨y2,rfl,E7,Z2,L2⟩;(try dsimp only at L2)
   have D2:=Z2.old;have hO:=(hO.J E6).G E7 Kh;have B1:=(B1.J E6).G E7 Kb;have B2:=(B2.J E6).G E7 Kb;have B3:=(B3.J E6).G E7 Kb;have B4:=B4.G E7 Kb;have hG:=Yj hG E7;have:=E7.Z;refine Wnt<|Yg 7 Z Ki Ki Z (fun _ _=>Rh Z Z Kh) trivial ?_;refine Yg 8 Z Ki Ki Z (fun _ _=>Rf Z Z Kh) trivial ?_;refine Wha [4]<|Wh1 Z<|Rr Jk Z Z B3 Ka Kc ?_;intro z1 Q1
   refine Wnt<|Yg 9 Z Ki Ki Z (fun _ _=>Qm Z Z Kh) trivial ?_;refine Yg 10 Z Ki Ki Z (fun _ _=>Yz (ps:=[(0,.int _ _)]) (cs:=[_,_,_]) Xt Z Z) trivial ?_;refine Wha [12]<|Wh1 Z<|Qw Ju B4 Z D2 ?_;rintro w8 E8 B4 K2 Q2;have Z2:=Z2.W E8 (K2 _ Kh) Q2;have hO:=hO.W K2 Kh;have B1:=B1.Y (K2 _ Kh);have B2:=B2.Y (K2 _ Kh);have B3:=B3.Y (K2 _ Kh);have hG:=Xb hG D2 E8 K2 Q2 Kd;refine Wnt<|Yr Ki ?_;rotate_left;refine Wh1 Z<|Ql Z Xt ?_;rintro b4 w5 R4 E5 B4;have:=B4.lt;have hr:=hr.J E5;have hG:=Yk hG E5
   refine Wnt<|Wha [2]<|Wh1 Z<|Vv Z (Xd (a:=.pointer _) (b:=.int _ _) Jy Z Z) (Xv _ _ Kk Kh) ?_;rintro _ w6 ⟨y1,rfl,E6,Z1,L1⟩;(try dsimp only at L1);have hO:=(hO.J ((((E1.K E2).K E3).K E4).K E5)).G E6 Kh;have B1:=(B1.J (((E2.K E3).K E4).K E5)).G E6 Kb;have B2:=(B2.J ((E3.K E4).K E5)).G E6 Kb;have B3:=(B3.J E5).G E6 Kb;have B4:=B4.G E6 Kb;have hG:=Yj hG E6;have:=E6.Z;refine Wnt<|Yg 3 Z Ki Ki Z (fun _ _=>Yo Jl Ji Z Z Kh) trivial ?_
   refine Wha [4,6]<|Yi Z ?_ ?_;refine Rr Jk Z Z B3 Ka Kc ?_;intro z1 Q1;refine Wnt<|Wha [6]<|Wh1 Z<|Vv Z (Xd (a:=.pointer _) (b:=.int _ _) Jy Z Z) (Xv _ _ Kk Kh) ?_;rintro _ w7 ⟨y2,rfl,E7,Z2,L2⟩;(try dsimp only at L2);have D2:=Z2.old;have hO:=hO.G E7 Kh;have B1:=B1.G E7 Kb;have B2:=B2.G E7 Kb;have B3:=B3.G E7 Kb;have B4:=B4.G E7 Kb;have hG:=Yj hG E7;have:=E7.Z
   refine Wnt<|Yg 7 Z Ki Ki Z (fun _ _=>Rh Z Z Kh) trivial ?_;refine Yg 8 Z Ki Ki Z (fun _ _=>Rf Z Z Kh) trivial ?_;refine Yg 9 Z Ki Ki Z (fun _ _=>Qm Z Z Kh) trivial ?_;refine Yg 10 Z Ki Ki Z (fun _ _=>Yz (ps:=[(0,.int _ _)]) (cs:=[_,_,_]) Xt Z Z) trivial ?_;refine Wha [12]<|Wh1 Z<|Qw Ju B4 Z D2 ?_;rintro w8 E8 B4 K2 Q2;have Z2:=Z2.W E8 (K2 _ Kh) Q2;have hO:=hO.W K2 Kh;have B1:=B1.Y (K2 _ Kh);have B2:=B2.Y (K2 _ Kh);have B3:=B3.Y (K2 _ Kh);have hG:=Xb hG D2 E8 K2 Q2 Kd
   refine Wnt<|Yr Ki ?_;rotate_left;refine Wh1 Z<|Vv Z (Xd (a:=.pointer _) (b:=.int _ _) Jy Z Z) (Xv _ _ Kk Kh) ?_;rintro _ w7 ⟨y2,rfl,E7,Z2,L2⟩;(try dsimp only at L2);have D2:=Z2.old;have hO:=hO.G E7 Kh;have B1:=B1.G E7 Kb;have B2:=B2.G E7 Kb;have B3:=B3.G E7 Kb;have B4:=B4.G E7 Kb;have hG:=Yj hG E7;have:=E7.Z;refine Wnt<|Yg 7 Z Ki Ki Z (fun _ _=>Rh Z Z Kh) trivial ?_;refine Yg 8 Z Ki Ki Z (fun _ _=>Rf Z Z Kh) trivial ?_
   refine Wha [4]<|Wh1 Z<|Rr Jk Z Z B3 Ka Kc ?_;intro z1 Q1;refine Wnt<|Yg 9 Z Ki Ki Z (fun _ _=>Qm Z Z Kh) trivial ?_;refine Yg 10 Z Ki Ki Z (fun _ _=>Yz (ps:=[(0,.int _ _)]) (cs:=[_,_,_]) Xt Z Z) trivial ?_;refine Wha [12]<|Wh1 Z<|Qw Ju B4 Z D2 ?_;rintro w8 E8 B4 K2 Q2;have Z2:=Z2.W E8 (K2 _ Kh) Q2;have hO:=hO.W K2 Kh;have B1:=B1.Y (K2 _ Kh);have B2:=B2.Y (K2 _ Kh);have B3:=B3.Y (K2 _ Kh);have hG:=Xb hG D2 E8 K2 Q2 Kd
   refine Wnt<|Yr Ki ?_;rotate_left;refine Yi Z ?_ ?_;refine Vv Z (Xd (a:=.pointer _) (b:=.int _ _) Jy Z Z) (Xv _ _ Kk Kh) ?_;rintro _ w4 ⟨y1,rfl,E4,Z1,L1⟩;(try dsimp only at L1);have:=Z1.lt;have hO:=(hO.J ((E1.K E2).K E3)).G E4 Kh;have B1:=(B1.J (E2.K E3)).G E4 Kb;have B2:=(B2.J E3).G E4 Kb;have hG:=Yj hG E4;have:=E4.Z;refine Wnt<|Wha [0,6,11]<|Yi Z ?_ ?_;refine Xm (ps:=[(0,.int _ _),(1,.int _ _),(2,.int _ _),(3,.int _ _),(4,.int _ _),(5,.int _ _),(6,.int _ _),(7,.int _ _)]) (cs:=[_,_,_,_,_,_,_,_]) Z Jl Ji Gf Z Z Z Z ?_
   rintro b3 w5 R3 E5 B3 T3;have:=B3.lt;have Z1:=Z1.J E5;have hG:=Yk hG E5;refine Wnt<|Yg 3 Z Ki Ki Z (fun _ _=>Yo Jl Ji Z Z Kh) trivial ?_;refine Wha [4,6,11]<|Yi Z ?_ ?_;refine Rr Jk Z Z B3 Ka Kc ?_;intro z1 Q1;refine Wnt<|Wha [6,11]<|Yi Z ?_ ?_;refine Vv Z (Xd (a:=.pointer _) (b:=.int _ _) Jy Z Z) (Xv _ _ Kk Kh) ?_;rintro _ w6 ⟨y2,rfl,E6,Z2,L2⟩;(try dsimp only at L2);have:=Z2.lt;have D2:=Z2.old;have hO:=(hO.J E5).G E6 Kh;have B1:=(B1.J E5).G E6 Kb
   have B2:=(B2.J E5).G E6 Kb;have B3:=B3.G E6 Kb;have hG:=Yj hG E6;have:=E6.Z;refine Wnt<|Yg 7 Z Ki Ki Z (fun _ _=>Rh Z Z Kh) trivial ?_;refine Yg 8 Z Ki Ki Z (fun _ _=>Rf Z Z Kh) trivial ?_;refine Yg 9 Z Ki Ki Z (fun _ _=>Qm Z Z Kh) trivial ?_;refine Yg 10 Z Ki Ki Z (fun _ _=>Yz (ps:=[(0,.int _ _)]) (cs:=[_,_,_]) Xt Z Z) trivial ?_;refine Wha [11]<|Wh1 Z<|Ql Z Xt ?_;rintro b4 w7 R4 E7 B4;have:=B4.lt;have Z2:=Z2.J E7;have hG:=Yk hG E7
   refine Wnt<|Wha [12]<|Wh1 Z<|Qw Ju B4 Z (D2.trans E7) ?_;rintro w8 E8 B4 K2 Q2;have hO:=(hO.J E7).W K2 Kh;have B1:=(B1.J E7).Y (K2 _ Kh);have B2:=(B2.J E7).Y (K2 _ Kh);have B3:=(B3.J E7).Y (K2 _ Kh);have Z2:=Z2.W E8 (K2 _ Kh) Q2;have hG:=Xb hG (D2.trans E7) E8 K2 Q2 Kd;refine Wnt<|Yr Ki ?_;rotate_left;refine Wh1 Z<|Ql Z Xt ?_;rintro b4 w6 R4 E6 B4;have:=B4.lt;have Z1:=Z1.J E6;have hG:=Yk hG E6;refine Wnt<|Wha [6]<|Wh1 Z<|Vv Z (Xd (a:=.pointer _) (b:=.int _ _) Jy Z Z) (Xv _ _ Kk Kh) ?_;rintro _ w7 ⟨y2,rfl,E7,Z2,L2⟩;(try dsimp only at L2);have D2:=Z2.old
   have hO:=(hO.J (E5.K E6)).G E7 Kh;have B1:=(B1.J (E5.K E6)).G E7 Kb;have B2:=(B2.J (E5.K E6)).G E7 Kb;have B3:=(B3.J E6).G E7 Kb;have B4:=B4.G E7 Kb;have hG:=Yj hG E7;have:=E7.Z;refine Wnt<|Yg 7 Z Ki Ki Z (fun _ _=>Rh Z Z Kh) trivial ?_;refine Yg 8 Z Ki Ki Z (fun _ _=>Rf Z Z Kh) trivial ?_;refine Yg 9 Z Ki Ki Z (fun _ _=>Qm Z Z Kh) trivial ?_
   refine Yg 10 Z Ki Ki Z (fun _ _=>Yz (ps:=[(0,.int _ _)]) (cs:=[_,_,_]) Xt Z Z) trivial ?_;refine Wha [12]<|Wh1 Z<|Qw Ju B4 Z D2 ?_;rintro w8 E8 B4 K2 Q2;have Z2:=Z2.W E8 (K2 _ Kh) Q2;have hO:=hO.W K2 Kh;have B1:=B1.Y (K2 _ Kh);have B2:=B2.Y (K2 _ Kh);have B3:=B3.Y (K2 _ Kh);have hG:=Xb hG D2 E8 K2 Q2 Kd;refine Wnt<|Yr Ki ?_;rotate_left;refine Yi Z ?_ ?_;refine Vv Z (Xd (a:=.pointer _) (b:=.int _ _) Jy Z Z) (Xv _ _ Kk Kh) ?_;rintro _ w6 ⟨y2,rfl,E6,Z2,L2⟩;(try dsimp only at L2);have:=Z2.lt;have D2:=Z2.old;have hO:=(hO.J E5).G E6 Kh
   have B1:=(B1.J E5).G E6 Kb;have B2:=(B2.J E5).G E6 Kb;have B3:=B3.G E6 Kb;have hG:=Yj hG E6;have:=E6.Z;refine Wnt<|Yg 7 Z Ki Ki Z (fun _ _=>Rh Z Z Kh) trivial ?_;refine Yg 8 Z Ki Ki Z (fun _ _=>Rf Z Z Kh) trivial ?_;refine Wha [4,11]<|Yi Z ?_ ?_;refine Rr Jk Z Z B3 Ka Kc ?_;intro z1 Q1;refine Wnt<|Yg 9 Z Ki Ki Z (fun _ _=>Qm Z Z Kh) trivial ?_
   refine Yg 10 Z Ki Ki Z (fun _ _=>Yz (ps:=[(0,.int _ _)]) (cs:=[_,_,_]) Xt Z Z) trivial ?_;refine Wha [11]<|Wh1 Z<|Ql Z Xt ?_;rintro b4 w7 R4 E7 B4;have:=B4.lt;have Z2:=Z2.J E7;have hG:=Yk hG E7;refine Wnt<|Wha [12]<|Wh1 Z<|Qw Ju B4 Z (D2.trans E7) ?_;rintro w8 E8 B4 K2 Q2;have hO:=(hO.J E7).W K2 Kh;have B1:=(B1.J E7).Y (K2 _ Kh);have B2:=(B2.J E7).Y (K2 _ Kh);have B3:=(B3.J E7).Y (K2 _ Kh);have Z2:=Z2.W E8 (K2 _ Kh) Q2;have hG:=Xb hG (D2.trans E7) E8 K2 Q2 Kd;refine Wnt<|Yr Ki ?_;rotate_left;refine Wh1 Z<|Ql Z Xt ?_;rintro b4 w7 R4 E7 B4;have:=B4.lt
   have Z2:=Z2.J E7;have hG:=Yk hG E7;refine Wnt<|Wha [4]<|Wh1 Z<|Rr Jk Z Z (B3.J E7) Ka Kc ?_;intro z1 Q1;refine Wnt<|Yg 9 Z Ki Ki Z (fun _ _=>Qm Z Z Kh) trivial ?_;refine Yg 10 Z Ki Ki Z (fun _ _=>Yz (ps:=[(0,.int _ _)]) (cs:=[_,_,_]) Xt Z Z) trivial ?_;refine Wha [12]<|Wh1 Z<|Qw Ju B4 Z (D2.trans E7) ?_;rintro w8 E8 B4 K2 Q2;have hO:=(hO.J E7).W K2 Kh;have B1:=(B1.J E7).Y (K2 _ Kh);have B2:=(B2.J E7).Y (K2 _ Kh);have B3:=(B3.J E7).Y (K2 _ Kh);have Z2:=Z2.W E8 (K2 _ Kh) Q2
   have hG:=Xb hG (D2.trans E7) E8 K2 Q2 Kd;refine Wnt<|Yr Ki ?_;rotate_left;refine Wh1 Z<|Ql Z Xt ?_;rintro b4 w6 R4 E6 B4;have:=B4.lt;have Z1:=Z1.J E6;have hG:=Yk hG E6;refine Wnt<|Wha [4,6]<|Yi Z ?_ ?_;refine Rr Jk Z Z (B3.J E6) Ka Kc ?_;intro z1 Q1;refine Wnt<|Wha [6]<|Wh1 Z<|Vv Z (Xd (a:=.pointer _) (b:=.int _ _) Jy Z Z) (Xv _ _ Kk Kh) ?_;rintro _ w7 ⟨y2,rfl,E7,Z2,L2⟩;(try dsimp only at L2);have D2:=Z2.old;have hO:=(hO.J (E5.K E6)).G E7 Kh
   have B1:=(B1.J (E5.K E6)).G E7 Kb;have B2:=(B2.J (E5.K E6)).G E7 Kb;have B3:=(B3.J E6).G E7 Kb;have B4:=B4.G E7 Kb;have hG:=Yj hG E7;have:=E7.Z;refine Wnt<|Yg 7 Z Ki Ki Z (fun _ _=>Rh Z Z Kh) trivial ?_;refine Yg 8 Z Ki Ki Z (fun _ _=>Rf Z Z Kh) trivial ?_;refine Yg 9 Z Ki Ki Z (fun _ _=>Qm Z Z Kh) trivial ?_;refine Yg 10 Z Ki Ki Z (fun _ _=>Yz (ps:=[(0,.int _ _)]) (cs:=[_,_,_]) Xt Z Z) trivial ?_
   refine Wha [12]<|Wh1 Z<|Qw Ju B4 Z D2 ?_;rintro w8 E8 B4 K2 Q2;have Z2:=Z2.W E8 (K2 _ Kh) Q2;have hO:=hO.W K2 Kh;have B1:=B1.Y (K2 _ Kh);have B2:=B2.Y (K2 _ Kh);have B3:=B3.Y (K2 _ Kh);have hG:=Xb hG D2 E8 K2 Q2 Kd;refine Wnt<|Yr Ki ?_;rotate_left;refine Wh1 Z<|Vv Z (Xd (a:=.pointer _) (b:=.int _ _) Jy Z Z) (Xv _ _ Kk Kh) ?_;rintro _ w7 ⟨y2,rfl,E7,Z2,L2⟩;(try dsimp only at L2);have D2:=Z2.old;have hO:=(hO.J (E5.K E6)).G E7 Kh;have B1:=(B1.J (E5.K E6)).G E7 Kb;have B2:=(B2.J (E5.K E6)).G E7 Kb
   have B3:=(B3.J E6).G E7 Kb;have B4:=B4.G E7 Kb;have hG:=Yj hG E7;have:=E7.Z;refine Wnt<|Yg 7 Z Ki Ki Z (fun _ _=>Rh Z Z Kh) trivial ?_;refine Yg 8 Z Ki Ki Z (fun _ _=>Rf Z Z Kh) trivial ?_;refine Wha [4]<|Wh1 Z<|Rr Jk Z Z B3 Ka Kc ?_;intro z1 Q1;refine Wnt<|Yg 9 Z Ki Ki Z (fun _ _=>Qm Z Z Kh) trivial ?_
   refine Yg 10 Z Ki Ki Z (fun _ _=>Yz (ps:=[(0,.int _ _)]) (cs:=[_,_,_]) Xt Z Z) trivial ?_;refine Wha [12]<|Wh1 Z<|Qw Ju B4 Z D2 ?_;rintro w8 E8 B4 K2 Q2;have Z2:=Z2.W E8 (K2 _ Kh) Q2;have hO:=hO.W K2 Kh;have B1:=B1.Y (K2 _ Kh);have B2:=B2.Y (K2 _ Kh);have B3:=B3.Y (K2 _ Kh);have hG:=Xb hG D2 E8 K2 Q2 Kd;refine Wnt<|Yr Ki ?_;rotate_left;refine Yi Z ?_ ?_;refine Vv Z (Xd (a:=.pointer _) (b:=.int _ _) Jy Z Z) (Xv _ _ Kk Kh) ?_;rintro _ w5 ⟨y2,rfl,E5,Z2,L2⟩;(try dsimp only at L2);have:=Z2.lt;have D2:=Z2.old;have hO:=hO.G E5 Kh
   have B1:=B1.G E5 Kb;have B2:=B2.G E5 Kb;have hG:=Yj hG E5;have:=E5.Z;refine Wnt<|Yg 7 Z Ki Ki Z (fun _ _=>Rh Z Z Kh) trivial ?_;refine Yg 8 Z Ki Ki Z (fun _ _=>Rf Z Z Kh) trivial ?_;refine Wha [0,11]<|Yi Z ?_ ?_;refine Xm (ps:=[(0,.int _ _),(1,.int _ _),(2,.int _ _),(3,.int _ _),(4,.int _ _),(5,.int _ _),(6,.int _ _),(7,.int _ _)]) (cs:=[_,_,_,_,_,_,_,_]) Z Jl Ji Gf Z Z Z Z ?_;rintro b3 w6 R3 E6 B3 T3;have:=B3.lt;have Z2:=Z2.J E6;have hG:=Yk hG E6
   refine Wnt<|Yg 3 Z Ki Ki Z (fun _ _=>Yo Jl Ji Z Z Kh) trivial ?_;refine Wha [4,11]<|Yi Z ?_ ?_;refine Rr Jk Z Z B3 Ka Kc ?_;intro z1 Q1;refine Wnt<|Yg 9 Z Ki Ki Z (fun _ _=>Qm Z Z Kh) trivial ?_;refine Yg 10 Z Ki Ki Z (fun _ _=>Yz (ps:=[(0,.int _ _)]) (cs:=[_,_,_]) Xt Z Z) trivial ?_;refine Wha [11]<|Wh1 Z<|Ql Z Xt ?_;rintro b4 w7 R4 E7 B4;have:=B4.lt;have Z2:=Z2.J E7;have hG:=Yk hG E7;refine Wnt<|Wha [12]<|Wh1 Z<|Qw Ju B4 Z ((D2.trans E6).K E7) ?_
   rintro w8 E8 B4 K2 Q2;have hO:=(hO.J exq).W K2 Kh;have B1:=(B1.J exq).Y (K2 _ Kh);have B2:=(B2.J exq).Y (K2 _ Kh);have B3:=(B3.J E7).Y (K2 _ Kh);have Z2:=Z2.W E8 (K2 _ Kh) Q2;have hG:=Xb hG ((D2.trans E6).K E7) E8 K2 Q2 Kd;refine Wnt<|Yr Ki ?_;rotate_left;refine Wh1 Z<|Ql Z Xt ?_;rintro b4 w7 R4 E7 B4;have:=B4.lt;have Z2:=Z2.J E7;have hG:=Yk hG E7;refine Wnt<|Wha [4]<|Wh1 Z<|Rr Jk Z Z (B3.J E7) Ka Kc ?_;intro z1 Q1
   refine Wnt<|Yg 9 Z Ki Ki Z (fun _ _=>Qm Z Z Kh) trivial ?_;refine Yg 10 Z Ki Ki Z (fun _ _=>Yz (ps:=[(0,.int _ _)]) (cs:=[_,_,_]) Xt Z Z) trivial ?_;refine Wha [12]<|Wh1 Z<|Qw Ju B4 Z ((D2.trans E6).K E7) ?_;rintro w8 E8 B4 K2 Q2;have hO:=(hO.J exq).W K2 Kh;have B1:=(B1.J exq).Y (K2 _ Kh);have B2:=(B2.J exq).Y (K2 _ Kh);have B3:=(B3.J E7).Y (K2 _ Kh);have Z2:=Z2.W E8 (K2 _ Kh) Q2;have hG:=Xb hG ((D2.trans E6).K E7) E8 K2 Q2 Kd;refine Wnt<|Yr Ki ?_;rotate_left;refine Wh1 Z<|Ql Z Xt ?_;rintro b3 w6 R3 E6 B3;have:=B3.lt;have Z2:=Z2.J E6
   have hG:=Yk hG E6;refine Wnt<|Wha [0]<|Wh1 Z<|Xm (ps:=[(0,.int _ _),(1,.int _ _),(2,.int _ _),(3,.int _ _),(4,.int _ _),(5,.int _ _),(6,.int _ _),(7,.int _ _)]) (cs:=[_,_,_,_,_,_,_,_]) Z Jl Ji Gf Z Z Z Z ?_;rintro b4 w7 R4 E7 B4 T4;have:=B4.lt;have Z2:=Z2.J E7;have hG:=Yk hG E7;refine Wnt<|Yg 3 Z Ki Ki Z (fun _ _=>Yo Jl Ji Z Z Kh) trivial ?_;refine Wha [4]<|Wh1 Z<|Rr Jk Z Z B4 Ka Kc ?_;intro z1 Q1;refine Wnt<|Yg 9 Z Ki Ki Z (fun _ _=>Qm Z Z Kh) trivial ?_
   refine Yg 10 Z Ki Ki Z (fun _ _=>Yz (ps:=[(0,.int _ _)]) (cs:=[_,_,_]) Xt Z Z) trivial ?_;refine Wha [12]<|Wh1 Z<|Qw Ju (B3.J E7) Z ((D2.trans E6).K E7) ?_;rintro w8 E8 B3 K2 Q2;have hO:=(hO.J exq).W K2 Kh;have B1:=(B1.J exq).Y (K2 _ Kh);have B2:=(B2.J exq).Y (K2 _ Kh);have Z2:=Z2.W E8 (K2 _ Kh) Q2;have hG:=Xb hG ((D2.trans E6).K E7) E8 K2 Q2 Kd;refine Wnt<|Yr Ki ?_;rotate_left;refine Wh1 Z<|Ql Z Xt ?_;rintro b3 w5 R3 E5 B3;have:=B3.lt;have Z1:=Z1.J E5;have hG:=Yk hG E5;refine Wnt<|Wha [0,6]<|Yi Z ?_ ?_
   refine Xm (ps:=[(0,.int _ _),(1,.int _ _),(2,.int _ _),(3,.int _ _),(4,.int _ _),(5,.int _ _),(6,.int _ _),(7,.int _ _)]) (cs:=[_,_,_,_,_,_,_,_]) Z Jl Ji Gf Z Z Z Z ?_;rintro b4 w6 R4 E6 B4 T4;have:=B4.lt;have Z1:=Z1.J E6;have hG:=Yk hG E6;refine Wnt<|Yg 3 Z Ki Ki Z (fun _ _=>Yo Jl Ji Z Z Kh) trivial ?_;refine Wha [4,6]<|Yi Z ?_ ?_;refine Rr Jk Z Z B4 Ka Kc ?_;intro z1 Q1;refine Wnt<|Wha [6]<|Wh1 Z<|Vv Z (Xd (a:=.pointer _) (b:=.int _ _) Jy Z Z) (Xv _ _ Kk Kh) ?_
   rintro _ w7 ⟨y2,rfl,E7,Z2,L2⟩;(try dsimp only at L2);have D2:=Z2.old;have hO:=(hO.J (E5.K E6)).G E7 Kh;have B1:=(B1.J (E5.K E6)).G E7 Kb;have B2:=(B2.J (E5.K E6)).G E7 Kb;have B3:=(B3.J E6).G E7 Kb;have hG:=Yj hG E7;have:=E7.Z;refine Wnt<|Yg 7 Z Ki Ki Z (fun _ _=>Rh Z Z Kh) trivial ?_;refine Yg 8 Z Ki Ki Z (fun _ _=>Rf Z Z Kh) trivial ?_;refine Yg 9 Z Ki Ki Z (fun _ _=>Qm Z Z Kh) trivial ?_
   refine Yg 10 Z Ki Ki Z (fun _ _=>Yz (ps:=[(0,.int _ _)]) (cs:=[_,_,_]) Xt Z Z) trivial ?_;refine Wha [12]<|Wh1 Z<|Qw Ju B3 Z D2 ?_;rintro w8 E8 B3 K2 Q2;have Z2:=Z2.W E8 (K2 _ Kh) Q2;have hO:=hO.W K2 Kh;have B1:=B1.Y (K2 _ Kh);have B2:=B2.Y (K2 _ Kh);have hG:=Xb hG D2 E8 K2 Q2 Kd;refine Wnt<|Yr Ki ?_;rotate_left;refine Wh1 Z<|Vv Z (Xd (a:=.pointer _) (b:=.int _ _) Jy Z Z) (Xv _ _ Kk Kh) ?_;rintro _ w7 ⟨y2,rfl,E7,Z2,L2⟩;(try dsimp only at L2);have D2:=Z2.old;have hO:=(hO.J (E5.K E6)).G E7 Kh
   have B1:=(B1.J (E5.K E6)).G E7 Kb;have B2:=(B2.J (E5.K E6)).G E7 Kb;have B3:=(B3.J E6).G E7 Kb;have B4:=B4.G E7 Kb;have hG:=Yj hG E7;have:=E7.Z;refine Wnt<|Yg 7 Z Ki Ki Z (fun _ _=>Rh Z Z Kh) trivial ?_;refine Yg 8 Z Ki Ki Z (fun _ _=>Rf Z Z Kh) trivial ?_;refine Wha [4]<|Wh1 Z<|Rr Jk Z Z B4 Ka Kc ?_;intro z1 Q1
   refine Wnt<|Yg 9 Z Ki Ki Z (fun _ _=>Qm Z Z Kh) trivial ?_;refine Yg 10 Z Ki Ki Z (fun _ _=>Yz (ps:=[(0,.int _ _)]) (cs:=[_,_,_]) Xt Z Z) trivial ?_;refine Wha [12]<|Wh1 Z<|Qw Ju B3 Z D2 ?_;rintro w8 E8 B3 K2 Q2;have Z2:=Z2.W E8 (K2 _ Kh) Q2;have hO:=hO.W K2 Kh;have B1:=B1.Y (K2 _ Kh);have B2:=B2.Y (K2 _ Kh);have hG:=Xb hG D2 E8 K2 Q2 Kd;refine Wnt<|Yr Ki ?_;rotate_left;refine Wh1 Z<|Vv Z (Xd (a:=.pointer _) (b:=.int _ _) Jy Z Z) (Xv _ _ Kk Kh) ?_;rintro _ w6 ⟨y2,rfl,E6,Z2,L2⟩;(try dsimp only at L2);have D2:=Z2.old
   have hO:=(hO.J E5).G E6 Kh;have B1:=(B1.J E5).G E6 Kb;have B2:=(B2.J E5).G E6 Kb;have B3:=B3.G E6 Kb;have hG:=Yj hG E6;have:=E6.Z;refine Wnt<|Yg 7 Z Ki Ki Z (fun _ _=>Rh Z Z Kh) trivial ?_;refine Yg 8 Z Ki Ki Z (fun _ _=>Rf Z Z Kh) trivial ?_;refine Wha [0]<|Wh1 Z<|Xm (ps:=[(0,.int _ _),(1,.int _ _),(2,.int _ _),(3,.int _ _),(4,.int _ _),(5,.int _ _),(6,.int _ _),(7,.int _ _)]) (cs:=[_,_,_,_,_,_,_,_]) Z Jl Ji Gf Z Z Z Z ?_;rintro b4 w7 R4 E7 B4 T4;have:=B4.lt
   have Z2:=Z2.J E7;have hG:=Yk hG E7;refine Wnt<|Yg 3 Z Ki Ki Z (fun _ _=>Yo Jl Ji Z Z Kh) trivial ?_;refine Wha [4]<|Wh1 Z<|Rr Jk Z Z B4 Ka Kc ?_;intro z1 Q1;refine Wnt<|Yg 9 Z Ki Ki Z (fun _ _=>Qm Z Z Kh) trivial ?_;refine Yg 10 Z Ki Ki Z (fun _ _=>Yz (ps:=[(0,.int _ _)]) (cs:=[_,_,_]) Xt Z Z) trivial ?_;refine Wha [12]<|Wh1 Z<|Qw Ju (B3.J E7) Z (D2.trans E7) ?_;rintro w8 E8 B3 K2 Q2;have hO:=(hO.J E7).W K2 Kh;have B1:=(B1.J E7).Y (K2 _ Kh)
   have B2:=(B2.J E7).Y (K2 _ Kh);have Z2:=Z2.W E8 (K2 _ Kh) Q2;have hG:=Xb hG (D2.trans E7) E8 K2 Q2 Kd;refine Wnt<|Yr Ki ?_;rotate_left;refine Wh1 Z<|Ql Z Xt ?_;rintro b3 w4 R3 E4 B3;have:=B3.lt;have hr:=hr.J E4;have hG:=Yk hG E4;refine Wnt<|Wha [0,2]<|Yi Z ?_ ?_;refine Xm (ps:=[(0,.int _ _),(1,.int _ _),(2,.int _ _),(3,.int _ _),(4,.int _ _),(5,.int _ _),(6,.int _ _),(7,.int _ _)]) (cs:=[_,_,_,_,_,_,_,_]) Z Jl Ji Gf Z Z Z Z ?_;rintro b4 w5 R4 E5 B4 T4;have:=B4.lt;have hr:=hr.J E5;have hG:=Yk hG E5
   refine Wnt<|Wha [2]<|Wh1 Z<|Vv Z (Xd (a:=.pointer _) (b:=.int _ _) Jy Z Z) (Xv _ _ Kk Kh) ?_;rintro _ w6 ⟨y1,rfl,E6,Z1,L1⟩;(try dsimp only at L1);have hO:=(hO.J ((((E1.K E2).K E3).K E4).K E5)).G E6 Kh;have B1:=(B1.J (((E2.K E3).K E4).K E5)).G E6 Kb;have B2:=(B2.J ((E3.K E4).K E5)).G E6 Kb;have B3:=(B3.J E5).G E6 Kb;have B4:=B4.G E6 Kb;have hG:=Yj hG E6;have:=E6.Z;refine Wnt<|Yg 3 Z Ki Ki Z (fun _ _=>Yo Jl Ji Z Z Kh) trivial ?_
   refine Wha [4,6]<|Yi Z ?_ ?_;refine Rr Jk Z Z B4 Ka Kc ?_;intro z1 Q1;refine Wnt<|Wha [6]<|Wh1 Z<|Vv Z (Xd (a:=.pointer _) (b:=.int _ _) Jy Z Z) (Xv _ _ Kk Kh) ?_;rintro _ w7 ⟨y2,rfl,E7,Z2,L2⟩;(try dsimp only at L2);have D2:=Z2.old;have hO:=hO.G E7 Kh;have B1:=B1.G E7 Kb;have B2:=B2.G E7 Kb;have B3:=B3.G E7 Kb;have hG:=Yj hG E7;have:=E7.Z;refine Wnt<|Yg 7 Z Ki Ki Z (fun _ _=>Rh Z Z Kh) trivial ?_
   refine Yg 8 Z Ki Ki Z (fun _ _=>Rf Z Z Kh) trivial ?_;refine Yg 9 Z Ki Ki Z (fun _ _=>Qm Z Z Kh) trivial ?_;refine Yg 10 Z Ki Ki Z (fun _ _=>Yz (ps:=[(0,.int _ _)]) (cs:=[_,_,_]) Xt Z Z) trivial ?_;refine Wha [12]<|Wh1 Z<|Qw Ju B3 Z D2 ?_;rintro w8 E8 B3 K2 Q2;have Z2:=Z2.W E8 (K2 _ Kh) Q2;have hO:=hO.W K2 Kh;have B1:=B1.Y (K2 _ Kh);have B2:=B2.Y (K2 _ Kh);have hG:=Xb hG D2 E8 K2 Q2 Kd;refine Wnt<|Yr Ki ?_;rotate_left;refine Wh1 Z<|Vv Z (Xd (a:=.pointer _) (b:=.int _ _) Jy Z Z) (Xv _ _ Kk Kh) ?_
   rintro _ w7 ⟨y2,rfl,E7,Z2,L2⟩;(try dsimp only at L2);have D2:=Z2.old;have hO:=hO.G E7 Kh;have B1:=B1.G E7 Kb;have B2:=B2.G E7 Kb;have B3:=B3.G E7 Kb;have B4:=B4.G E7 Kb;have hG:=Yj hG E7;have:=E7.Z;refine Wnt<|Yg 7 Z Ki Ki Z (fun _ _=>Rh Z Z Kh) trivial ?_;refine Yg 8 Z Ki Ki Z (fun _ _=>Rf Z Z Kh) trivial ?_;refine Wha [4]<|Wh1 Z<|Rr Jk Z Z B4 Ka Kc ?_
   intro z1 Q1;refine Wnt<|Yg 9 Z Ki Ki Z (fun _ _=>Qm Z Z Kh) trivial ?_;refine Yg 10 Z Ki Ki Z (fun _ _=>Yz (ps:=[(0,.int _ _)]) (cs:=[_,_,_]) Xt Z Z) trivial ?_;refine Wha [12]<|Wh1 Z<|Qw Ju B3 Z D2 ?_;rintro w8 E8 B3 K2 Q2;have Z2:=Z2.W E8 (K2 _ Kh) Q2;have hO:=hO.W K2 Kh;have B1:=B1.Y (K2 _ Kh);have B2:=B2.Y (K2 _ Kh);have hG:=Xb hG D2 E8 K2 Q2 Kd;refine Wnt<|Yr Ki ?_;rotate_left;refine Wh1 Z<|Vv Z (Xd (a:=.pointer _) (b:=.int _ _) Jy Z Z) (Xv _ _ Kk Kh) ?_;rintro _ w5 ⟨y1,rfl,E5,Z1,L1⟩;(try dsimp only at L1);have:=Z1.lt
   have hO:=(hO.J (((E1.K E2).K E3).K E4)).G E5 Kh;have B1:=(B1.J ((E2.K E3).K E4)).G E5 Kb;have B2:=(B2.J (E3.K E4)).G E5 Kb;have B3:=B3.G E5 Kb;have hG:=Yj hG E5;have:=E5.Z;refine Wnt<|Wha [0,6]<|Yi Z ?_ ?_;refine Xm (ps:=[(0,.int _ _),(1,.int _ _),(2,.int _ _),(3,.int _ _),(4,.int _ _),(5,.int _ _),(6,.int _ _),(7,.int _ _)]) (cs:=[_,_,_,_,_,_,_,_]) Z Jl Ji Gf Z Z Z Z ?_;rintro b4 w6 R4 E6 B4 T4;have:=B4.lt;have Z1:=Z1.J E6;have hG:=Yk hG E6
   refine Wnt<|Yg 3 Z Ki Ki Z (fun _ _=>Yo Jl Ji Z Z Kh) trivial ?_;refine Wha [4,6]<|Yi Z ?_ ?_;refine Rr Jk Z Z B4 Ka Kc ?_;intro z1 Q1;refine Wnt<|Wha [6]<|Wh1 Z<|Vv Z (Xd (a:=.pointer _) (b:=.int _ _) Jy Z Z) (Xv _ _ Kk Kh) ?_;rintro _ w7 ⟨y2,rfl,E7,Z2,L2⟩;(try dsimp only at L2);have D2:=Z2.old;have hO:=(hO.J E6).G E7 Kh;have B1:=(B1.J E6).G E7 Kb;have B2:=(B2.J E6).G E7 Kb
   have B3:=(B3.J E6).G E7 Kb;have hG:=Yj hG E7;have:=E7.Z;refine Wnt<|Yg 7 Z Ki Ki Z (fun _ _=>Rh Z Z Kh) trivial ?_;refine Yg 8 Z Ki Ki Z (fun _ _=>Rf Z Z Kh) trivial ?_;refine Yg 9 Z Ki Ki Z (fun _ _=>Qm Z Z Kh) trivial ?_;refine Yg 10 Z Ki Ki Z (fun _ _=>Yz (ps:=[(0,.int _ _)]) (cs:=[_,_,_]) Xt Z Z) trivial ?_;refine Wha [12]<|Wh1 Z<|Qw Ju B3 Z D2 ?_;rintro w8 E8 B3 K2 Q2;have Z2:=Z2.W E8 (K2 _ Kh) Q2;have hO:=hO.W K2 Kh;have B1:=B1.Y (K2 _ Kh);have B2:=B2.Y (K2 _ Kh)
   have hG:=Xb hG D2 E8 K2 Q2 Kd;refine Wnt<|Yr Ki ?_;rotate_left;refine Wh1 Z<|Vv Z (Xd (a:=.pointer _) (b:=.int _ _) Jy Z Z) (Xv _ _ Kk Kh) ?_;rintro _ w7 ⟨y2,rfl,E7,Z2,L2⟩;(try dsimp only at L2);have D2:=Z2.old;have hO:=(hO.J E6).G E7 Kh;have B1:=(B1.J E6).G E7 Kb;have B2:=(B2.J E6).G E7 Kb;have B3:=(B3.J E6).G E7 Kb;have B4:=B4.G E7 Kb;have hG:=Yj hG E7;have:=E7.Z;refine Wnt<|Yg 7 Z Ki Ki Z (fun _ _=>Rh Z Z Kh) trivial ?_
   refine Yg 8 Z Ki Ki Z (fun _ _=>Rf Z Z Kh) trivial ?_;refine Wha [4]<|Wh1 Z<|Rr Jk Z Z B4 Ka Kc ?_;intro z1 Q1;refine Wnt<|Yg 9 Z Ki Ki Z (fun _ _=>Qm Z Z Kh) trivial ?_;refine Yg 10 Z Ki Ki Z (fun _ _=>Yz (ps:=[(0,.int _ _)]) (cs:=[_,_,_]) Xt Z Z) trivial ?_;refine Wha [12]<|Wh1 Z<|Qw Ju B3 Z D2 ?_;rintro w8 E8 B3 K2 Q2;have Z2:=Z2.W E8 (K2 _ Kh) Q2;have hO:=hO.W K2 Kh;have B1:=B1.Y (K2 _ Kh);have B2:=B2.Y (K2 _ Kh)
   have hG:=Xb hG D2 E8 K2 Q2 Kd;refine Wnt<|Yr Ki ?_;rotate_left;refine Wh1 Z<|Vv Z (Xd (a:=.pointer _) (b:=.int _ _) Jy Z Z) (Xv _ _ Kk Kh) ?_;rintro _ w6 ⟨y2,rfl,E6,Z2,L2⟩;(try dsimp only at L2);have D2:=Z2.old;have hO:=hO.G E6 Kh;have B1:=B1.G E6 Kb;have B2:=B2.G E6 Kb;have B3:=B3.G E6 Kb;have hG:=Yj hG E6;have:=E6.Z;refine Wnt<|Yg 7 Z Ki Ki Z (fun _ _=>Rh Z Z Kh) trivial ?_;refine Yg 8 Z Ki Ki Z (fun _ _=>Rf Z Z Kh) trivial ?_
   refine Wha [0]<|Wh1 Z<|Xm (ps:=[(0,.int _ _),(1,.int _ _),(2,.int _ _),(3,.int _ _),(4,.int _ _),(5,.int _ _),(6,.int _ _),(7,.int _ _)]) (cs:=[_,_,_,_,_,_,_,_]) Z Jl Ji Gf Z Z Z Z ?_;rintro b4 w7 R4 E7 B4 T4;have:=B4.lt;have Z2:=Z2.J E7;have hG:=Yk hG E7;refine Wnt<|Yg 3 Z Ki Ki Z (fun _ _=>Yo Jl Ji Z Z Kh) trivial ?_;refine Wha [4]<|Wh1 Z<|Rr Jk Z Z B4 Ka Kc ?_;intro z1 Q1;refine Wnt<|Yg 9 Z Ki Ki Z (fun _ _=>Qm Z Z Kh) trivial ?_
   refine Yg 10 Z Ki Ki Z (fun _ _=>Yz (ps:=[(0,.int _ _)]) (cs:=[_,_,_]) Xt Z Z) trivial ?_;refine Wha [12]<|Wh1 Z<|Qw Ju (B3.J E7) Z (D2.trans E7) ?_;rintro w8 E8 B3 K2 Q2;have hO:=(hO.J E7).W K2 Kh;have B1:=(B1.J E7).Y (K2 _ Kh);have B2:=(B2.J E7).Y (K2 _ Kh);have Z2:=Z2.W E8 (K2 _ Kh) Q2;have hG:=Xb hG (D2.trans E7) E8 K2 Q2 Kd;refine Wnt<|Yr Ki ?_;rotate_left
  all_goals
   have hy2':=L2 Kh
   first
    | exact ⟨(b3,_),⟨rfl,trivial⟩,Ko,hG,Z2,Kh,Kh,B1,B2,B3,hO,Kh,Kh⟩
    | exact ⟨(b4,_),⟨rfl,trivial⟩,Ko,hG,Z2,Kh,Kh,B1,B2,B4,hO,Kh,Kh⟩
 clear hr hG B1 B2 hO
 rintro ⟨b,k⟩ ρ1 w3 ⟨hG,hr,R3,R4,B1,B2,B3,hO,hk1,hk2⟩
 have E3:=hr.old
 have hlr3:=hr.lt
 have stop2:True:=trivial
 focus
  refine Vx<|Vx ?_
 clear stop2
 refine W_mid [18,19] (fun _:Unit=>[(19,.int .i64 k)]) (fun _ w'=>w3=w') ?_ ?_
 ·focus
   refine Ys<|Yq Jo Ji Z<|Uf Jk B3 Z<|Vt ?_
  exact ⟨(),⟨rfl,trivial⟩,Ko,rfl⟩
 rintro ⟨⟩ ρ2 w4 rfl
 refine W_mid [6,20,21,22,23,24,25,26,27,28,29,30,31,32,33,34,35,36,37,38,39,40,41,42,43,44,45,46,47,48,49,50,51,52,53,54,55,56,57,58,59,60,61,62,63,64,65,66,67,68,69] (fun _:List UInt8 × Int=>[]) (fun (t,n) w'=>w.grownBy w' (some br)∧Rdr w0 w' br (m+9)∧Blk w' b1 [u1,u2]∧Blk w' b2 [.int .i64 0,str [],.int .i64 0]∧Blk w' b [.int .i64 k,str t,.int .i64 n]∧t.length≤999∧0≤n∧n≤11) ?_ ?_
 ·rcases hp with rfl | hp
  ·have h0:([]:List (List Int)).length=0:=rfl
   focus
    refine Ye<|Vx<|Vw<|Yt Z<|Yf Z<|Vt<|Vy Z (fun h1=>?_) (fun h1=>?_);refine Ya<|Vy Z (fun h2=>?_) (fun h2=>?_);refine Vw<|Xf (ps:=[(0,.string _),(1,.string _),(2,.string _),(3,.string _),(4,.string _)]) (cs:=[_,_,_,_,_]) Z Js Jn Ge Z Z Z Z ?_;rintro b3 w4 R5 E4 B4;have hG:=Yk hG E4;have hr:=hr.J E4;refine Qa Z<|Vv Z (Xd (a:=.pointer _) (b:=.int _ _) Jy Z Z) (Xv _ _ Kk Kh) ?_;rintro _ w5 ⟨y1,rfl,E5,Z1,L1⟩;(try dsimp only at L1);have D1:=Z1.old;have B1:=(B1.J E4).G E5 Kb;have B2:=(B2.J E4).G E5 Kb
    have B3:=(B3.J E4).G E5 Kb;have hO:=(hO.J E4).G E5 Kh;have B4:=B4.G E5 Kb;have hG:=Yj hG E5;refine Wo Z (Yo Js Jn Z Z Kh) ?_;refine Ui 0 Jp Z Z B4 Ka Kc ?_;intro s1 P1;refine Yq Jo Jn Z<|Us (v:=.string _) Z Jn Z Z Z B3 Kp Kh D1 ?_;rintro w6 E6 B3 K1 Q1;simp only [List.set] at B3;have Z1:=Z1.W E6 (K1 _ Kh) Q1;have B1:=B1.Y (K1 _ Kh);have B2:=B2.Y (K1 _ Kh);have hO:=hO.W K1 Kh
    have hG:=Xb hG D1 E6 K1 Q1 Kd;refine Vt<|Vw<|Yq Jv Jx Z<|Uc u1 Jt B1 Z<|Yu Jm Z (Kw hO)<|Qg Z<|Un Z fun h3=>?_;refine Vu Z<|Vu Z<|Vu Z<|Xg Z<|Vt<|Yb Z ?_;refine Ya ?_;rotate_left;exact Ks;refine Ys<|Yt Z<|Yf Z<|Vt<|Vy Z (fun h2=>?_) (fun h2=>?_);refine Vw<|Xf (ps:=[(0,.string _),(1,.string _),(2,.string _),(3,.string _),(4,.string _)]) (cs:=[_,_,_,_,_]) Z Js Jn Ge Z Z Z Z ?_;rintro b3 w4 R5 E4 B4;have hG:=Yk hG E4;have hr:=hr.J E4
    refine Qa Z<|Vv Z (Xd (a:=.pointer _) (b:=.int _ _) Jy Z Z) (Xv _ _ Kk Kh) ?_;rintro _ w5 ⟨y1,rfl,E5,Z1,L1⟩;(try dsimp only at L1);have D1:=Z1.old;have B1:=(B1.J E4).G E5 Kb;have B2:=(B2.J E4).G E5 Kb;have B3:=(B3.J E4).G E5 Kb;have hO:=(hO.J E4).G E5 Kh;have B4:=B4.G E5 Kb;have hG:=Yj hG E5;refine Wo Z (Yo Js Jn Z Z Kh) ?_;refine Ui 0 Jp Z Z B4 Ka Kc ?_;intro s1 P1
    refine Yq Jo Jn Z<|Us (v:=.string _) Z Jn Z Z Z B3 Kp Kh D1 ?_;rintro w6 E6 B3 K1 Q1;simp only [List.set] at B3;have Z1:=Z1.W E6 (K1 _ Kh) Q1;have B1:=B1.Y (K1 _ Kh);have B2:=B2.Y (K1 _ Kh);have hO:=hO.W K1 Kh;have hG:=Xb hG D1 E6 K1 Q1 Kd;refine Vt<|Vw<|Yq Jv Jx Z<|Uc u1 Jt B1 Z<|Yu Jm Z (Kw hO)<|Qg Z<|Un Z fun h3=>?_;refine Vu Z<|Vu Z<|Vu Z<|Xg Z<|Vt<|Yb Z ?_;refine Ya ?_;rotate_left;refine Vw<|Yt Z<|Yf Z<|Vt<|Vy Z (fun h3=>?_) (fun h3=>?_)
    refine Ys<|Qa Z<|Yq Jv Jx Z<|Uc u1 Jt B1 Z<|Yu Jm Z (Kw hO)<|Wo Z (opv_max Z Z)<|Vv Z (Xd (a:=.pointer _) (b:=.int _ _) Jy Z Z) (Xv _ _ Kk Kh) ?_;rintro _ w4 ⟨y1,rfl,E4,Z1,L1⟩;(try dsimp only at L1);have D1:=Z1.old;have hG:=Yj hG E4;have B1:=B1.G E4 Kb;have B2:=B2.G E4 Kb;have B3:=B3.G E4 Kb;refine Yq Jo Ji Z<|Us (v:=.int _ _) Z Ji Z Z Z B3 Kp Kh D1 ?_;rintro w5 E5 B3 K1 Q1;simp only [List.set] at B3;have Z1:=Z1.W E5 (K1 _ Kh) Q1
    have hG:=Xb hG D1 E5 K1 Q1 Kd;have B1:=B1.Y (K1 _ Kh);have B2:=B2.Y (K1 _ Kh);refine Vt ?_;rotate_left;refine Ya ?_;rotate_left
   all_goals
    refine ⟨(_,_),trivial,Ko,hG,?_,(by first | exact B1 | exact B1.J (by repeat (first | assumption | refine Ext.trans Kk ?_))),(by first | exact B2 | exact B2.J (by repeat (first | assumption | refine Ext.trans Kk ?_))),(by first | exact B3 | exact B3.J (by repeat (first | assumption | refine Ext.trans Kk ?_))),?_,?_,?_⟩
    ·first | exact Z7.le Kh | exact Z6.le Kh | exact Z5.le Kh | exact Z4.le Kh | exact Z3.le Kh | exact Z2.le Kh | exact Z1.le Kh | exact hr.le Kh
    all_goals first | omega | (simp only [List.length_append,List.length_cons,List.length_nil];omega)
  ·have W1:=hp.1
   have W5:=hp.2.1
   have c1 : ∀ (w:World) (v:Value),ESl Ints w v p→Dz 119 [v,.int .i64 0] w (RetO w XI (ints (arr p 0))):=fun w v h=>Ni w v p h hp 0 W1
   by_cases hL:LeastP p
   ·have c2 : ∀ (w:World) (v:Value),ESl Ints w v p→Dz 73 [v] w (Ret w (.bool true)):=fun w v h=>by
     have:=Nq w v p h;rwa [decide_eq_true hL] at this
    have c3 : ∀ (i:Nat) (hi:i < (ints (arr p 0)).length) (w:World) (v:Value),ESl Ints w v p→Dz 126 [v,.int .i64 (ints (arr p 0))[i]] w (RetDX w XR Pic):=fun i hi w v h=>by
     have hi':i < (arr p 0).length:=by rw [← Ur];exact hi
     rw [Qp hi']
     have hlt:=Qo hp W1 (List.getElem_mem hi')
     have hN:Nod p ((arr p 0)[i]:Nat):=⟨hL.1,Kh,Kh⟩
     refine (Tp w v p h _).mono fun u w' ho=>?_
     rw [if_pos hN] at ho
     exact ⟨_,ho.1,ho.2,lst_pic hL.1 (by simpa using hlt)⟩
    have c4 : ∀ (w:World) (v:Value) (c:List (List Int)),ESl Ints w v c→Pic c→Dz 62 [v] w (RetX w str (fun s _=>s.length≤200)):=fun w v c h hc=>by
     refine (Qq w v c h).mono fun u w' ho=>?_
     rw [if_pos hc] at ho
     exact ⟨ho.2,_,ho.1,Mi hc.gr⟩
    have stop9:True:=trivial
    focus
     refine Ye<|Vx<|Vw<|Yt Z<|Yf Z<|Vt<|Vy Z (fun h1=>?_) (fun h1=>?_);refine Ya<|Vy Z (fun h2=>?_) (fun h2=>?_);refine Vw<|Xf (ps:=[(0,.string _),(1,.string _),(2,.string _),(3,.string _),(4,.string _)]) (cs:=[_,_,_,_,_]) Z Js Jn Ge Z Z Z Z ?_;rintro b3 w4 R5 E4 B4;have hG:=Yk hG E4;have hr:=hr.J E4;refine Qa Z<|Vv Z (Xd (a:=.pointer _) (b:=.int _ _) Jy Z Z) (Xv _ _ Kk Kh) ?_;rintro _ w5 ⟨y1,rfl,E5,Z1,L1⟩;(try dsimp only at L1);have D1:=Z1.old;have B1:=(B1.J E4).G E5 Kb;have B2:=(B2.J E4).G E5 Kb
     have B3:=(B3.J E4).G E5 Kb;have hO:=(hO.J E4).G E5 Kh;have B4:=B4.G E5 Kb;have hG:=Yj hG E5;refine Wo Z (Yo Js Jn Z Z Kh) ?_;refine Ui 0 Jp Z Z B4 Ka Kc ?_;intro s1 P1;refine Yq Jo Jn Z<|Us (v:=.string _) Z Jn Z Z Z B3 Kp Kh D1 ?_;rintro w6 E6 B3 K1 Q1;simp only [List.set] at B3;have Z1:=Z1.W E6 (K1 _ Kh) Q1;have B1:=B1.Y (K1 _ Kh);have B2:=B2.Y (K1 _ Kh);have hO:=hO.W K1 Kh
     have B4:=B4.Y (K1 _ Kh);have hG:=Xb hG D1 E6 K1 Q1 Kd;refine Vt<|Vw<|Yq Jv Jx Z<|Uc u1 Jt B1 Z<|Yu Jm Z (Kw hO)<|Qg Z<|Xo Z (fun h3=>?_) (fun h3=>?_);refine Qa Z<|Vv Z (Xd (a:=.pointer _) (b:=.int _ _) Jy Z Z) (Xv _ _ Kk Kh) ?_;rintro _ w7 ⟨y2,rfl,E7,Z2,L2⟩;(try dsimp only at L2);have:=Z2.lt;have B3:=B3.G E7 Kb;have B1:=B1.G E7 Kb;have B2:=B2.G E7 Kb;have hO:=hO.G E7 Kh;have hG:=Yj hG E7
     refine Yt Z<|Ue Z<|Vt<|Vy Z (fun h4=>?_) (fun h4=>?_);refine Vw<|Yq Jv Jx Z<|Uc u1 Jt B1 Z<|Vv Z (Xd (a:=u1) (b:=.int _ _) Zv Z Z) (c1 _ _ (Kw hO)) ?_;rintro u3 w8 ⟨E8,O1⟩;have Z2:=Z2.J E8;have hG:=Yk hG E8;refine Ug u3 Z<|Vt<|Vw<|Ym u3 Z<|Yu Jl Z (Kv O1)<|Qg Z<|Xo Z (fun h5=>?_) (fun h5=>?_);refine Yq Jv Jx Z<|Uc u1 Jt (B1.J E8) Z<|Vv Z (Xl (a:=u1) Vc Z) (c2 _ _ ((Ku E8 (Kw hO)))) ?_;rintro _ w9 ⟨rfl,E9⟩;have Z2:=Z2.J E9;have hG:=Yk hG E9;refine Ue Z<|Vt<|Xj Z ?_;rotate_left
     refine Vu Z<|Vu Z<|Vu Z<|Xg Z<|Vt<|Yb Z ?_;refine Ya ?_;rotate_left;refine Ya ?_;rotate_left;exact Kt;exact Ks;refine Ys<|Yt Z<|Yf Z<|Vt<|Vy Z (fun h2=>?_) (fun h2=>?_);refine Vw<|Xf (ps:=[(0,.string _),(1,.string _),(2,.string _),(3,.string _),(4,.string _)]) (cs:=[_,_,_,_,_]) Z Js Jn Ge Z Z Z Z ?_;rintro b3 w4 R5 E4 B4;have hG:=Yk hG E4;have hr:=hr.J E4;refine Qa Z<|Vv Z (Xd (a:=.pointer _) (b:=.int _ _) Jy Z Z) (Xv _ _ Kk Kh) ?_;rintro _ w5 ⟨y1,rfl,E5,Z1,L1⟩;(try dsimp only at L1);have D1:=Z1.old;have B1:=(B1.J E4).G E5 Kb
     have B2:=(B2.J E4).G E5 Kb;have B3:=(B3.J E4).G E5 Kb;have hO:=(hO.J E4).G E5 Kh;have B4:=B4.G E5 Kb;have hG:=Yj hG E5;refine Wo Z (Yo Js Jn Z Z Kh) ?_;refine Ui 0 Jp Z Z B4 Ka Kc ?_;intro s1 P1;refine Yq Jo Jn Z<|Us (v:=.string _) Z Jn Z Z Z B3 Kp Kh D1 ?_;rintro w6 E6 B3 K1 Q1;simp only [List.set] at B3;have Z1:=Z1.W E6 (K1 _ Kh) Q1;have B1:=B1.Y (K1 _ Kh)
     have B2:=B2.Y (K1 _ Kh);have hO:=hO.W K1 Kh;have B4:=B4.Y (K1 _ Kh);have hG:=Xb hG D1 E6 K1 Q1 Kd;refine Vt<|Vw<|Yq Jv Jx Z<|Uc u1 Jt B1 Z<|Yu Jm Z (Kw hO)<|Qg Z<|Xo Z (fun h3=>?_) (fun h3=>?_);refine Qa Z<|Vv Z (Xd (a:=.pointer _) (b:=.int _ _) Jy Z Z) (Xv _ _ Kk Kh) ?_;rintro _ w7 ⟨y2,rfl,E7,Z2,L2⟩;(try dsimp only at L2);have:=Z2.lt;have B3:=B3.G E7 Kb;have B1:=B1.G E7 Kb;have B2:=B2.G E7 Kb;have hO:=hO.G E7 Kh
     have hG:=Yj hG E7;refine Yt Z<|Ue Z<|Vt<|Vy Z (fun h4=>?_) (fun h4=>?_);refine Vw<|Yq Jv Jx Z<|Uc u1 Jt B1 Z<|Vv Z (Xd (a:=u1) (b:=.int _ _) Zv Z Z) (c1 _ _ (Kw hO)) ?_;rintro u3 w8 ⟨E8,O1⟩;have Z2:=Z2.J E8;have hG:=Yk hG E8;refine Ug u3 Z<|Vt<|Vw<|Ym u3 Z<|Yu Jl Z (Kv O1)<|Qg Z<|Xo Z (fun h5=>?_) (fun h5=>?_);refine Yq Jv Jx Z<|Uc u1 Jt (B1.J E8) Z<|Vv Z (Xl (a:=u1) Vc Z) (c2 _ _ ((Ku E8 (Kw hO)))) ?_;rintro _ w9 ⟨rfl,E9⟩;have Z2:=Z2.J E9;have hG:=Yk hG E9;refine Ue Z<|Vt<|Xj Z ?_;rotate_left
     refine Vu Z<|Vu Z<|Vu Z<|Xg Z<|Vt<|Yb Z ?_;refine Ya ?_;rotate_left;refine Ya ?_;rotate_left;exact Kt;refine Vw<|Yt Z<|Yf Z<|Vt<|Vy Z (fun h3=>?_) (fun h3=>?_);refine Ys<|Qa Z<|Yq Jv Jx Z<|Uc u1 Jt B1 Z<|Yu Jm Z (Kw hO)<|Wo Z (opv_max Z Z)<|Vv Z (Xd (a:=.pointer _) (b:=.int _ _) Jy Z Z) (Xv _ _ Kk Kh) ?_;rintro _ w4 ⟨y1,rfl,E4,Z1,L1⟩;(try dsimp only at L1);have D1:=Z1.old;have hG:=Yj hG E4;have B1:=B1.G E4 Kb;have B2:=B2.G E4 Kb
     have B3:=B3.G E4 Kb;refine Yq Jo Ji Z<|Us (v:=.int _ _) Z Ji Z Z Z B3 Kp Kh D1 ?_;rintro w5 E5 B3 K1 Q1;simp only [List.set] at B3;have Z1:=Z1.W E5 (K1 _ Kh) Q1;have hG:=Xb hG D1 E5 K1 Q1 Kd;have B1:=B1.Y (K1 _ Kh);have B2:=B2.Y (K1 _ Kh);refine Vt ?_;rotate_left;refine Ya ?_;rotate_left
    ·clear stop9
     obtain ⟨lb,lc,rfl,_⟩:=O1.lit Kh
     focus
      refine Rl (fun _=>True) mixed Z Ki ?_;intro w10 E10 K2 Q2;have Z2:=Z2.J E10;have hG:=Yk hG E10;refine Sx 0 Jv Jx Z Z trivial<|WtmS 2 Z Z trivial<|WtmP 3 Z Z trivial<|WtmS 4 Z Z trivial<|Yg 5 Z Ki Ki Z (fun _ _=>Sa Jl Z (Kv O1)) trivial ?_;refine Wha [1,6]<|Yi Z ?_ ?_;refine Uc u1 Jt (B1.J exq) Z<|Wnt<|Wha [6]<|Wh1 Z<|Vv Z (Xd (a:=.pointer _) (b:=.int _ _) Jy Z Z) (Xv _ _ Kk Kh) ?_;rintro _ w11 ⟨y3,rfl,E11,Z3,L3⟩;(try dsimp only at L3);have D3:=Z3.old;have B3:=(B3.J ((E8.K E9).K E10)).G E11 Kb
      have B1:=(B1.J ((E8.K E9).K E10)).G E11 Kb;have B2:=(B2.J ((E8.K E9).K E10)).G E11 Kb;have hO:=(hO.J ((E8.K E9).K E10)).G E11 Kh;have O1:=(O1.toB.J (E9.K E10)).G E11 Kh;have hG:=Yj hG E11;refine Wnt<|Yg 7 Z Ki Ki Z (fun _ _=>Yo Jl Ji Z Z Kh) trivial ?_;refine Wha [8]<|Wh1 Z<|Qh Jk Z Z (Kw O1) Km ?_;rintro _ rfl;refine Wnt<|Wha [9]<|Wh1 Z<|Vv Z (Xd (a:=u1) (b:=.int _ _) Zl Z Z) (c3 _ _ _ _ (Kw hO)) ?_;rintro u3 w12 ⟨x1,E12,O2,L4⟩;have Z3:=Z3.J E12;have hG:=Yk hG E12
      refine Wnt<|Wha [10]<|Wh1 Z<|Vv Z (Xl (a:=u3) Gi Z) (c4 _ _ _ (Kv O2) Kk) ?_;rintro _ w13 ⟨E13,y4,rfl,L5⟩;have Z3:=Z3.J E13;have hG:=Yk hG E13;refine Wnt<|Sx 11 Jo Jn Z Z trivial<|Wha [12]<|Wh1 Z<|Us (v:=.string _) Z Jn Z Z Z (B3.J (E12.K E13)) Kp Kh ((D3.trans E12).K E13) ?_;rintro w14 E14 B3 K3 Q3;simp only [List.set] at B3;have B1:=(B1.J exq).Y (K3 _ Kh);have B2:=(B2.J exq).Y (K3 _ Kh);have Z3:=Z3.W E14 (K3 _ Kh) Q3;have hG:=Xb hG ((D3.trans E12).K E13) E14 K3 Q3 Kd;refine Wnt<|Yr Ki ?_;rotate_left
      refine Wh1 Z<|Vv Z (Xd (a:=.pointer _) (b:=.int _ _) Jy Z Z) (Xv _ _ Kk Kh) ?_;rintro _ w11 ⟨y3,rfl,E11,Z3,L3⟩;(try dsimp only at L3);have D3:=Z3.old;have B3:=(B3.J ((E8.K E9).K E10)).G E11 Kb;have B1:=(B1.J ((E8.K E9).K E10)).G E11 Kb;have B2:=(B2.J ((E8.K E9).K E10)).G E11 Kb;have hO:=(hO.J ((E8.K E9).K E10)).G E11 Kh;have O1:=(O1.toB.J (E9.K E10)).G E11 Kh;have hG:=Yj hG E11;refine Wnt<|Yg 7 Z Ki Ki Z (fun _ _=>Yo Jl Ji Z Z Kh) trivial ?_
      refine Wha [1,8]<|Yi Z ?_ ?_;refine Uc u1 Jt B1 Z<|Wnt<|Wha [8]<|Wh1 Z<|Qh Jk Z Z (Kw O1) Km ?_;rintro _ rfl;refine Wnt<|Wha [9]<|Wh1 Z<|Vv Z (Xd (a:=u1) (b:=.int _ _) Zl Z Z) (c3 _ _ _ _ (Kw hO)) ?_;rintro u3 w12 ⟨x1,E12,O2,L4⟩;have Z3:=Z3.J E12;have hG:=Yk hG E12;refine Wnt<|Wha [10]<|Wh1 Z<|Vv Z (Xl (a:=u3) Gi Z) (c4 _ _ _ (Kv O2) Kk) ?_;rintro _ w13 ⟨E13,y4,rfl,L5⟩;have Z3:=Z3.J E13;have hG:=Yk hG E13;refine Wnt<|Sx 11 Jo Jn Z Z trivial<|Wha [12]<|Wh1 Z<|Us (v:=.string _) Z Jn Z Z Z (B3.J (E12.K E13)) Kp Kh ((D3.trans E12).K E13) ?_
      rintro w14 E14 B3 K3 Q3;simp only [List.set] at B3;have B1:=(B1.J exq).Y (K3 _ Kh);have B2:=(B2.J exq).Y (K3 _ Kh);have Z3:=Z3.W E14 (K3 _ Kh) Q3;have hG:=Xb hG ((D3.trans E12).K E13) E14 K3 Q3 Kd;refine Wnt<|Yr Ki ?_;rotate_left;refine Wh1 Z<|Qh Jk Z Z (Kw O1) Km ?_;rintro _ rfl;refine Wnt<|Wha [1]<|Wh1 Z<|Uc u1 Jt B1 Z<|Wnt<|Wha [9]<|Wh1 Z<|Vv Z (Xd (a:=u1) (b:=.int _ _) Zl Z Z) (c3 _ _ _ _ (Kw hO)) ?_;rintro u3 w12 ⟨x1,E12,O2,L4⟩;have Z3:=Z3.J E12;have hG:=Yk hG E12
      refine Wnt<|Wha [10]<|Wh1 Z<|Vv Z (Xl (a:=u3) Gi Z) (c4 _ _ _ (Kv O2) Kk) ?_;rintro _ w13 ⟨E13,y4,rfl,L5⟩;have Z3:=Z3.J E13;have hG:=Yk hG E13;refine Wnt<|Sx 11 Jo Jn Z Z trivial<|Wha [12]<|Wh1 Z<|Us (v:=.string _) Z Jn Z Z Z (B3.J (E12.K E13)) Kp Kh ((D3.trans E12).K E13) ?_;rintro w14 E14 B3 K3 Q3;simp only [List.set] at B3;have B1:=(B1.J exq).Y (K3 _ Kh);have B2:=(B2.J exq).Y (K3 _ Kh);have Z3:=Z3.W E14 (K3 _ Kh) Q3;have hG:=Xb hG ((D3.trans E12).K E13) E14 K3 Q3 Kd;refine Wnt<|Yr Ki ?_;rotate_left
     all_goals
      refine ⟨(_,_),trivial,Ko,hG,?_,(by first | exact B1 | exact B1.J (by repeat (first | assumption | refine Ext.trans Kk ?_))),(by first | exact B2 | exact B2.J (by repeat (first | assumption | refine Ext.trans Kk ?_))),(by first | exact B3 | exact B3.J (by repeat (first | assumption | refine Ext.trans Kk ?_))),?_,?_,?_⟩
      ·first | exact Z7.le Kh | exact Z6.le Kh | exact Z5.le Kh | exact Z4.le Kh | exact Z3.le Kh | exact Z2.le Kh | exact Z1.le Kh | exact hr.le Kh
      all_goals first | omega | (simp only [List.length_append,List.length_cons,List.length_nil];omega)
    ·refine ⟨(_,_),trivial,Ko,hG,?_,(by first | exact B1 | exact B1.J (by repeat (first | assumption | refine Ext.trans Kk ?_))),(by first | exact B2 | exact B2.J (by repeat (first | assumption | refine Ext.trans Kk ?_))),(by first | exact B3 | exact B3.J (by repeat (first | assumption | refine Ext.trans Kk ?_))),?_,?_,?_⟩
     ·first | exact Z7.le Kh | exact Z6.le Kh | exact Z5.le Kh | exact Z4.le Kh | exact Z3.le Kh | exact Z2.le Kh | exact Z1.le Kh | exact hr.le Kh
     all_goals first | omega | (simp only [List.length_append,List.length_cons,List.length_nil];omega)
    ·refine ⟨(_,_),trivial,Ko,hG,?_,(by first | exact B1 | exact B1.J (by repeat (first | assumption | refine Ext.trans Kk ?_))),(by first | exact B2 | exact B2.J (by repeat (first | assumption | refine Ext.trans Kk ?_))),(by first | exact B3 | exact B3.J (by repeat (first | assumption | refine Ext.trans Kk ?_))),?_,?_,?_⟩
     ·first | exact Z7.le Kh | exact Z6.le Kh | exact Z5.le Kh | exact Z4.le Kh | exact Z3.le Kh | exact Z2.le Kh | exact Z1.le Kh | exact hr.le Kh
     all_goals first | omega | (simp only [List.length_append,List.length_cons,List.length_nil];omega)
    ·clear stop9
     obtain ⟨lb,lc,rfl,_⟩:=O1.lit Kh
     focus
      refine Rl (fun _=>True) mixed Z Ki ?_;intro w10 E10 K2 Q2;have Z2:=Z2.J E10;have hG:=Yk hG E10;refine Sx 0 Jv Jx Z Z trivial<|WtmS 2 Z Z trivial<|WtmP 3 Z Z trivial<|WtmS 4 Z Z trivial<|Yg 5 Z Ki Ki Z (fun _ _=>Sa Jl Z (Kv O1)) trivial ?_;refine Wha [1,6]<|Yi Z ?_ ?_;refine Uc u1 Jt (B1.J exq) Z<|Wnt<|Wha [6]<|Wh1 Z<|Vv Z (Xd (a:=.pointer _) (b:=.int _ _) Jy Z Z) (Xv _ _ Kk Kh) ?_;rintro _ w11 ⟨y3,rfl,E11,Z3,L3⟩;(try dsimp only at L3);have D3:=Z3.old;have B3:=(B3.J ((E8.K E9).K E10)).G E11 Kb
      have B1:=(B1.J ((E8.K E9).K E10)).G E11 Kb;have B2:=(B2.J ((E8.K E9).K E10)).G E11 Kb;have hO:=(hO.J ((E8.K E9).K E10)).G E11 Kh;have O1:=(O1.toB.J (E9.K E10)).G E11 Kh;have hG:=Yj hG E11;refine Wnt<|Yg 7 Z Ki Ki Z (fun _ _=>Yo Jl Ji Z Z Kh) trivial ?_;refine Wha [8]<|Wh1 Z<|Qh Jk Z Z (Kw O1) Km ?_;rintro _ rfl;refine Wnt<|Wha [9]<|Wh1 Z<|Vv Z (Xd (a:=u1) (b:=.int _ _) Zl Z Z) (c3 _ _ _ _ (Kw hO)) ?_;rintro u3 w12 ⟨x1,E12,O2,L4⟩;have Z3:=Z3.J E12;have hG:=Yk hG E12
      refine Wnt<|Wha [10]<|Wh1 Z<|Vv Z (Xl (a:=u3) Gi Z) (c4 _ _ _ (Kv O2) Kk) ?_;rintro _ w13 ⟨E13,y4,rfl,L5⟩;have Z3:=Z3.J E13;have hG:=Yk hG E13;refine Wnt<|Sx 11 Jo Jn Z Z trivial<|Wha [12]<|Wh1 Z<|Us (v:=.string _) Z Jn Z Z Z (B3.J (E12.K E13)) Kp Kh ((D3.trans E12).K E13) ?_;rintro w14 E14 B3 K3 Q3;simp only [List.set] at B3;have B1:=(B1.J exq).Y (K3 _ Kh);have B2:=(B2.J exq).Y (K3 _ Kh);have Z3:=Z3.W E14 (K3 _ Kh) Q3;have hG:=Xb hG ((D3.trans E12).K E13) E14 K3 Q3 Kd;refine Wnt<|Yr Ki ?_;rotate_left
      refine Wh1 Z<|Vv Z (Xd (a:=.pointer _) (b:=.int _ _) Jy Z Z) (Xv _ _ Kk Kh) ?_;rintro _ w11 ⟨y3,rfl,E11,Z3,L3⟩;(try dsimp only at L3);have D3:=Z3.old;have B3:=(B3.J ((E8.K E9).K E10)).G E11 Kb;have B1:=(B1.J ((E8.K E9).K E10)).G E11 Kb;have B2:=(B2.J ((E8.K E9).K E10)).G E11 Kb;have hO:=(hO.J ((E8.K E9).K E10)).G E11 Kh;have O1:=(O1.toB.J (E9.K E10)).G E11 Kh;have hG:=Yj hG E11;refine Wnt<|Yg 7 Z Ki Ki Z (fun _ _=>Yo Jl Ji Z Z Kh) trivial ?_
      refine Wha [1,8]<|Yi Z ?_ ?_;refine Uc u1 Jt B1 Z<|Wnt<|Wha [8]<|Wh1 Z<|Qh Jk Z Z (Kw O1) Km ?_;rintro _ rfl;refine Wnt<|Wha [9]<|Wh1 Z<|Vv Z (Xd (a:=u1) (b:=.int _ _) Zl Z Z) (c3 _ _ _ _ (Kw hO)) ?_;rintro u3 w12 ⟨x1,E12,O2,L4⟩;have Z3:=Z3.J E12;have hG:=Yk hG E12;refine Wnt<|Wha [10]<|Wh1 Z<|Vv Z (Xl (a:=u3) Gi Z) (c4 _ _ _ (Kv O2) Kk) ?_;rintro _ w13 ⟨E13,y4,rfl,L5⟩;have Z3:=Z3.J E13;have hG:=Yk hG E13;refine Wnt<|Sx 11 Jo Jn Z Z trivial<|Wha [12]<|Wh1 Z<|Us (v:=.string _) Z Jn Z Z Z (B3.J (E12.K E13)) Kp Kh ((D3.trans E12).K E13) ?_
      rintro w14 E14 B3 K3 Q3;simp only [List.set] at B3;have B1:=(B1.J exq).Y (K3 _ Kh);have B2:=(B2.J exq).Y (K3 _ Kh);have Z3:=Z3.W E14 (K3 _ Kh) Q3;have hG:=Xb hG ((D3.trans E12).K E13) E14 K3 Q3 Kd;refine Wnt<|Yr Ki ?_;rotate_left;refine Wh1 Z<|Qh Jk Z Z (Kw O1) Km ?_;rintro _ rfl;refine Wnt<|Wha [1]<|Wh1 Z<|Uc u1 Jt B1 Z<|Wnt<|Wha [9]<|Wh1 Z<|Vv Z (Xd (a:=u1) (b:=.int _ _) Zl Z Z) (c3 _ _ _ _ (Kw hO)) ?_;rintro u3 w12 ⟨x1,E12,O2,L4⟩;have Z3:=Z3.J E12;have hG:=Yk hG E12
      refine Wnt<|Wha [10]<|Wh1 Z<|Vv Z (Xl (a:=u3) Gi Z) (c4 _ _ _ (Kv O2) Kk) ?_;rintro _ w13 ⟨E13,y4,rfl,L5⟩;have Z3:=Z3.J E13;have hG:=Yk hG E13;refine Wnt<|Sx 11 Jo Jn Z Z trivial<|Wha [12]<|Wh1 Z<|Us (v:=.string _) Z Jn Z Z Z (B3.J (E12.K E13)) Kp Kh ((D3.trans E12).K E13) ?_;rintro w14 E14 B3 K3 Q3;simp only [List.set] at B3;have B1:=(B1.J exq).Y (K3 _ Kh);have B2:=(B2.J exq).Y (K3 _ Kh);have Z3:=Z3.W E14 (K3 _ Kh) Q3;have hG:=Xb hG ((D3.trans E12).K E13) E14 K3 Q3 Kd;refine Wnt<|Yr Ki ?_;rotate_left
     all_goals
      refine ⟨(_,_),trivial,Ko,hG,?_,(by first | exact B1 | exact B1.J (by repeat (first | assumption | refine Ext.trans Kk ?_))),(by first | exact B2 | exact B2.J (by repeat (first | assumption | refine Ext.trans Kk ?_))),(by first | exact B3 | exact B3.J (by repeat (first | assumption | refine Ext.trans Kk ?_))),?_,?_,?_⟩
      ·first | exact Z7.le Kh | exact Z6.le Kh | exact Z5.le Kh | exact Z4.le Kh | exact Z3.le Kh | exact Z2.le Kh | exact Z1.le Kh | exact hr.le Kh
      all_goals first | omega | (simp only [List.length_append,List.length_cons,List.length_nil];omega)
    all_goals
     refine ⟨(_,_),trivial,Ko,hG,?_,(by first | exact B1 | exact B1.J (by repeat (first | assumption | refine Ext.trans Kk ?_))),(by first | exact B2 | exact B2.J (by repeat (first | assumption | refine Ext.trans Kk ?_))),(by first | exact B3 | exact B3.J (by repeat (first | assumption | refine Ext.trans Kk ?_))),?_,?_,?_⟩
     ·first | exact Z7.le Kh | exact Z6.le Kh | exact Z5.le Kh | exact Z4.le Kh | exact Z3.le Kh | exact Z2.le Kh | exact Z1.le Kh | exact hr.le Kh
     all_goals first | omega | (simp only [List.length_append,List.length_cons,List.length_nil];omega)
   ·have c2 : ∀ (w:World) (v:Value),ESl Ints w v p→Dz 73 [v] w (Ret w (.bool false)):=fun w v h=>by
     have:=Nq w v p h;rwa [decide_eq_false hL] at this
    focus
     refine Ye<|Vx<|Vw<|Yt Z<|Yf Z<|Vt<|Vy Z (fun h1=>?_) (fun h1=>?_);refine Ya<|Vy Z (fun h2=>?_) (fun h2=>?_);refine Vw<|Xf (ps:=[(0,.string _),(1,.string _),(2,.string _),(3,.string _),(4,.string _)]) (cs:=[_,_,_,_,_]) Z Js Jn Ge Z Z Z Z ?_;rintro b3 w4 R5 E4 B4;have hG:=Yk hG E4;have hr:=hr.J E4;refine Qa Z<|Vv Z (Xd (a:=.pointer _) (b:=.int _ _) Jy Z Z) (Xv _ _ Kk Kh) ?_;rintro _ w5 ⟨y1,rfl,E5,Z1,L1⟩;(try dsimp only at L1);have D1:=Z1.old;have B1:=(B1.J E4).G E5 Kb;have B2:=(B2.J E4).G E5 Kb
     have B3:=(B3.J E4).G E5 Kb;have hO:=(hO.J E4).G E5 Kh;have B4:=B4.G E5 Kb;have hG:=Yj hG E5;refine Wo Z (Yo Js Jn Z Z Kh) ?_;refine Ui 0 Jp Z Z B4 Ka Kc ?_;intro s1 P1;refine Yq Jo Jn Z<|Us (v:=.string _) Z Jn Z Z Z B3 Kp Kh D1 ?_;rintro w6 E6 B3 K1 Q1;simp only [List.set] at B3;have Z1:=Z1.W E6 (K1 _ Kh) Q1;have B1:=B1.Y (K1 _ Kh);have B2:=B2.Y (K1 _ Kh);have hO:=hO.W K1 Kh
     have hG:=Xb hG D1 E6 K1 Q1 Kd;refine Vt<|Vw<|Yq Jv Jx Z<|Uc u1 Jt B1 Z<|Yu Jm Z (Kw hO)<|Qg Z<|Xo Z (fun h3=>?_) (fun h3=>?_);refine Qa Z<|Vv Z (Xd (a:=.pointer _) (b:=.int _ _) Jy Z Z) (Xv _ _ Kk Kh) ?_;rintro _ w7 ⟨y2,rfl,E7,Z2,L2⟩;(try dsimp only at L2);have B3:=B3.G E7 Kb;have B1:=B1.G E7 Kb;have B2:=B2.G E7 Kb;have hO:=hO.G E7 Kh;have hG:=Yj hG E7;refine Yt Z<|Ue Z<|Vt<|Vy Z (fun h4=>?_) (fun h4=>?_)
     refine Vw<|Yq Jv Jx Z<|Uc u1 Jt B1 Z<|Vv Z (Xd (a:=u1) (b:=.int _ _) Zv Z Z) (c1 _ _ (Kw hO)) ?_;rintro u3 w8 ⟨E8,O1⟩;have Z2:=Z2.J E8;have hG:=Yk hG E8;refine Ug u3 Z<|Vt<|Vw<|Ym u3 Z<|Yu Jl Z (Kv O1)<|Qg Z<|Xo Z (fun h5=>?_) (fun h5=>?_);refine Yq Jv Jx Z<|Uc u1 Jt (B1.J E8) Z<|Vv Z (Xl (a:=u1) Vc Z) (c2 _ _ ((Ku E8 (Kw hO)))) ?_;rintro _ w9 ⟨rfl,E9⟩;have Z2:=Z2.J E9;have hG:=Yk hG E9;refine Ue Z<|Vt<|Yb Z ?_;refine Ya ?_;rotate_left;refine Vu Z<|Vu Z<|Vu Z<|Xg Z<|Vt<|Yb Z ?_;refine Ya ?_;rotate_left
     refine Ya ?_;rotate_left;exact Kt;exact Ks;refine Ys<|Yt Z<|Yf Z<|Vt<|Vy Z (fun h2=>?_) (fun h2=>?_);refine Vw<|Xf (ps:=[(0,.string _),(1,.string _),(2,.string _),(3,.string _),(4,.string _)]) (cs:=[_,_,_,_,_]) Z Js Jn Ge Z Z Z Z ?_;rintro b3 w4 R5 E4 B4;have hG:=Yk hG E4;have hr:=hr.J E4;refine Qa Z<|Vv Z (Xd (a:=.pointer _) (b:=.int _ _) Jy Z Z) (Xv _ _ Kk Kh) ?_;rintro _ w5 ⟨y1,rfl,E5,Z1,L1⟩;(try dsimp only at L1);have D1:=Z1.old;have B1:=(B1.J E4).G E5 Kb;have B2:=(B2.J E4).G E5 Kb
     have B3:=(B3.J E4).G E5 Kb;have hO:=(hO.J E4).G E5 Kh;have B4:=B4.G E5 Kb;have hG:=Yj hG E5;refine Wo Z (Yo Js Jn Z Z Kh) ?_;refine Ui 0 Jp Z Z B4 Ka Kc ?_;intro s1 P1;refine Yq Jo Jn Z<|Us (v:=.string _) Z Jn Z Z Z B3 Kp Kh D1 ?_;rintro w6 E6 B3 K1 Q1;simp only [List.set] at B3;have Z1:=Z1.W E6 (K1 _ Kh) Q1;have B1:=B1.Y (K1 _ Kh);have B2:=B2.Y (K1 _ Kh);have hO:=hO.W K1 Kh
     have hG:=Xb hG D1 E6 K1 Q1 Kd;refine Vt<|Vw<|Yq Jv Jx Z<|Uc u1 Jt B1 Z<|Yu Jm Z (Kw hO)<|Qg Z<|Xo Z (fun h3=>?_) (fun h3=>?_);refine Qa Z<|Vv Z (Xd (a:=.pointer _) (b:=.int _ _) Jy Z Z) (Xv _ _ Kk Kh) ?_;rintro _ w7 ⟨y2,rfl,E7,Z2,L2⟩;(try dsimp only at L2);have B3:=B3.G E7 Kb;have B1:=B1.G E7 Kb;have B2:=B2.G E7 Kb;have hO:=hO.G E7 Kh;have hG:=Yj hG E7;refine Yt Z<|Ue Z<|Vt<|Vy Z (fun h4=>?_) (fun h4=>?_)
     refine Vw<|Yq Jv Jx Z<|Uc u1 Jt B1 Z<|Vv Z (Xd (a:=u1) (b:=.int _ _) Zv Z Z) (c1 _ _ (Kw hO)) ?_;rintro u3 w8 ⟨E8,O1⟩;have Z2:=Z2.J E8;have hG:=Yk hG E8;refine Ug u3 Z<|Vt<|Vw<|Ym u3 Z<|Yu Jl Z (Kv O1)<|Qg Z<|Xo Z (fun h5=>?_) (fun h5=>?_);refine Yq Jv Jx Z<|Uc u1 Jt (B1.J E8) Z<|Vv Z (Xl (a:=u1) Vc Z) (c2 _ _ ((Ku E8 (Kw hO)))) ?_;rintro _ w9 ⟨rfl,E9⟩;have Z2:=Z2.J E9;have hG:=Yk hG E9;refine Ue Z<|Vt<|Yb Z ?_;refine Ya ?_;rotate_left;refine Vu Z<|Vu Z<|Vu Z<|Xg Z<|Vt<|Yb Z ?_;refine Ya ?_;rotate_left
     refine Ya ?_;rotate_left;exact Kt;refine Vx<|Ys<|Yt Z<|Yf Z<|Vt<|Vy Z (fun h3=>?_) (fun h3=>?_);refine Ys<|Qa Z<|Yq Jv Jx Z<|Uc u1 Jt B1 Z<|Yu Jm Z (Kw hO)<|Wo Z (opv_max Z Z)<|Vv Z (Xd (a:=.pointer _) (b:=.int _ _) Jy Z Z) (Xv _ _ Kk Kh) ?_;rintro _ w4 ⟨y1,rfl,E4,Z1,L1⟩;(try dsimp only at L1);have D1:=Z1.old;have hG:=Yj hG E4;have B1:=B1.G E4 Kb;have B2:=B2.G E4 Kb;have B3:=B3.G E4 Kb
     refine Yq Jo Ji Z<|Us (v:=.int _ _) Z Ji Z Z Z B3 Kp Kh D1 ?_;rintro w5 E5 B3 K1 Q1;simp only [List.set] at B3;have Z1:=Z1.W E5 (K1 _ Kh) Q1;have hG:=Xb hG D1 E5 K1 Q1 Kd;have B1:=B1.Y (K1 _ Kh);have B2:=B2.Y (K1 _ Kh);refine Vt ?_;rotate_left;refine Ya ?_;rotate_left
    all_goals
     refine ⟨(_,_),trivial,Ko,hG,?_,(by first | exact B1 | exact B1.J (by repeat (first | assumption | refine Ext.trans Kk ?_))),(by first | exact B2 | exact B2.J (by repeat (first | assumption | refine Ext.trans Kk ?_))),(by first | exact B3 | exact B3.J (by repeat (first | assumption | refine Ext.trans Kk ?_))),?_,?_,?_⟩
     ·first | exact Z7.le Kh | exact Z6.le Kh | exact Z5.le Kh | exact Z4.le Kh | exact Z3.le Kh | exact Z2.le Kh | exact Z1.le Kh | exact hr.le Kh
     all_goals first | omega | (simp only [List.length_append,List.length_cons,List.length_nil];omega)
 clear hr hG B1 B2 B3 hO E3
 rintro ⟨t,n⟩ ρ3 w5 ⟨hG,hr,B1,B2,B3,ht,U1,U2⟩
 focus
  refine Vx<|Vw<|Qa Z<|Vv Z (Xd (a:=.pointer _) (b:=.int _ _) Tryz.call76 Z Z) (odd_ok _ _ Kk Kh Kh) ?_;rintro _ w4 ⟨y1,rfl,E3,Z1,L1⟩;(try dsimp only at L1);have D1:=Z1.old;have hG:=Yj hG E3;have B2:=B2.G E3 Kb;have B3:=B3.G E3 Kb;refine Vt<|Ut Z (fun h1=>?_) (fun h1=>?_);refine Ys<|Yq Jo Jn Z<|Rd Jp B3 Z<|Wo Z (Yw Z Z Kf) ?_;refine Yq Jo Jn Z<|Us (v:=.string _) Z Jn Z Z Z B3 Kp Kh D1 ?_;rintro w6 E4 B3 K1 Q1;simp only [List.set] at B3;have Z1:=Z1.W E4 (K1 _ Kh) Q1
  have hG:=Xb hG D1 E4 K1 Q1 Kd;have B2:=B2.Y (K1 _ Kh);refine Vt<|Vw<|Rq Gb Ju B3 Z<|Qw Ju B2 Z E4 ?_;rintro w7 E6 B2 K2 Q2;have Z1:=Z1.W E6 (K2 _ Kh) Q2;have hG:=Xb hG E4 E6 K2 Q2 Kd;refine Vt<|Yc ?_;rotate_left;refine Ya<|Vw<|Rq Gb Ju B3 Z<|Qw Ju B2 Z D1 ?_;rintro w6 E4 B2 K1 Q1;have Z1:=Z1.W E4 (K1 _ Kh) Q1;have hG:=Xb hG D1 E4 K1 Q1 Kd;refine Vt<|Yc ?_;rotate_left
 all_goals
  refine ⟨b2,_,_,_,Z,B2,_,_,_,Z,hG,?_,?_⟩
  ·first | exact Z1.le Kh | exact hr.le Kh
  ·unfold DrP;simp only [List.length_append,List.length_cons,List.length_nil];omega
end Go.Proofs.YtbgpppaljpngmaaGreatDoor
set_option linter.unusedVariables false
set_option linter.unusedSimpArgs false
namespace Go.Hs
def XD (e:TypeId):World→List Nat→Value→List Deed→Prop:=fun w fp v l=>w.ownsRow 0 e 3 v l.length (dcs l)∧fp=v.ownBlock.toList∧∀ a ∈ l,a.text.length≤9223372036854775807
section
variable {e:TypeId} {lo hi:Nat} {w w' w0 w1:World} {v:Value} {l m:List Deed} {br gb k:Nat}
instance loc_XD:Loc (XD e):=⟨by
  rintro w w' fp v l hk ⟨h1,rfl,h3⟩
  refine ⟨⟨h1.1,?_⟩,Z,h3⟩
  rcases h1.2 with hn | ⟨g,cap,cur,rfl,hb,hg,rest⟩
  ·exact .inl hn
  ·exact .inr ⟨g,cap,cur,rfl,hb,by rw [hk g (by simp [Value.ownBlock])];exact hg,rest⟩,by
  rintro w fp v l ⟨h1,rfl,h3⟩ k hk
  exact (h1.lt k (by simpa using hk)).2,by
  rintro w fp v l ⟨h1,rfl,h3⟩
  rcases h1.2 with ⟨rfl,_⟩ | ⟨g,cap,cur,rfl,_⟩ <;> rfl⟩
instance shows_XD:Shows (XD e) ESD:=⟨fun {w fp v l} h=>by
 obtain ⟨h3,rfl,h5⟩:=h
 exact OD.O (e:=e) (lo:=0) ⟨h3,h5⟩⟩
theorem Rdr.beside {m:Nat} (h:Rdr w0 w br m) (g:w.grownBy w' (some gb)) (hne:gb≠br) (hg:w0.heap.size≤gb):Rdr w0 w' br m:=by
 obtain ⟨h1,h2,h3,vb,bs,p,h4,h5,h6,h7⟩:=h
 exact ⟨(Only.grownBy (fp:=[gb]) g (fun k hk=>by simp at hk;simp [hk])).J h1 (fun k hk=>by simp at hk;omega),h2,Nat.lt_of_lt_of_le h3 g.size,vb,bs,p,h4,h5,h6.Y (g.block br h3 Kg),h7⟩
theorem grownBy_beside (h:w1.grownBy w (some br)) (g:w.grownBy w' (some gb)) (hb:w1.heap.size≤gb):w1.grownBy w' (some br) :=
 ⟨g.os.trans h.os,g.tape.trans h.tape,g.output.trans h.output,Jd h.size g.size,fun j hj hr=>(g.block j (Nat.lt_of_lt_of_le hj h.size) Kg).trans (h.block j hj hr)⟩
end
section
variable {P:Program} {n:Nat} {N:Env→World→Prop} {ρ : Env} {w w0:World} {all:Array Oper} {rest:List Oper} {d:Nat} {ty t el:TypeId} {pos:String} {after:Array Edge} {g:Option (Nat × Bool)} {x y z s:Operand} {v:Value} {l m:List Deed} {lo hi:Nat}
end
def RetDSt (w0 w:World) (br m:Nat) (p:List UInt8→Prop):Value→World→Prop:=fun v w'=>∃ t,v=str t∧w.grownBy w' (some br)∧Rdr w0 w' br m∧p t
end Go.Hs
namespace Go.Proofs.YtbgpppaljpngmaaGreatDoor
open Go.Hs
set_option maxRecDepth 10000
set_option maxHeartbeats 4000000
set_option linter.unusedVariables false
set_option linter.unusedSimpArgs false
open Classical in
theorem spec_DeskDo_own (w:World) (u1 u2:Value) (d:Dsk) (h1:ESl Ints w u1 d.now) (h2:ESl (ESl Ints) w u2 d.past) (k n:Int) (t:List UInt8) (ht:t.length≤1048576) :
  Dz 37 [.agg #[u1,u2],.agg #[.int .i64 k,str t,.int .i64 n]] w (RetDkF w 23 d.past.length (if DkOk d then (doV d ⟨k,t,n⟩).1.now else []) (if DkOk d then (doV d ⟨k,t,n⟩).1.past else []) (decide (DkOk d) && (doV d ⟨k,t,n⟩).2)):=by
 obtain ⟨p,pp⟩:=d
 have hle:=h2.le
 have i1:isCell u1=true:=Qy h1
 have i2:isCell u2=true:=Qy h2
 simp only at h1 h2 hle
 refine Sy Tryz.func37 Z Tryz.results37 Tryz.ntmps37 Z Jq Jj ?_
 by_cases hd:DkOk ⟨p,pp⟩
 ·have k0 : ∀ w,ESl Ints w u1 p→ESl (ESl Ints) w u2 pp→Dz 16 [.agg #[u1,u2]] w (Ret w (.bool true)):=fun w h1 h2=>by
   have:=Rk w u1 u2 ⟨p,pp⟩ h1 h2;rwa [decide_eq_true hd] at this
  have hpp:Pic p:=hd.1.1
  have hppl:pp.length≤8:=hd.2.1
  have R1:p.length≤100∧∀ r ∈ p,r.length≤100:=⟨by have:=hpp.2.1;omega,fun r hr=>by rw [(hpp.2.2 r hr).1];have:=hpp.2.1;omega⟩
  have R2 : ∀ q ∈ pp,q.length≤100∧∀ r ∈ q,r.length≤100:=fun q hq=>by
   have hq:=(hd.2.2 q hq).1
   exact ⟨by have:=hq.2.1;omega,fun r hr=>by rw [(hq.2.2 r hr).1];have:=hq.2.1;omega⟩
  have k1 : ∀ w,ESl Ints w u1 p→ESl (ESl Ints) w u2 pp→Dz 60 [.agg #[u1,u2]] w (RetDk w 23 88 3 p pp):=fun w h1 h2=>Lt w u1 u2 p pp h1 h2 R1 Kh R2
  rw [if_pos hd,if_pos hd,decide_eq_true hd,Bool.true_and]
  by_cases hb:isBack ⟨p,pp⟩ ⟨k,t,n⟩
  ·obtain ⟨e,hne⟩:=hb
   cases e
   have hpl:0 < pp.length:=List.length_pos_iff.2 hne
   have hdo:doV ⟨p,pp⟩ ⟨4,[],0⟩=(⟨pp.getLastD [],pp.dropLast⟩,true):=by unfold doV;rw [if_pos ⟨rfl,hne⟩]
   rw [hdo]
   simp only
   have stop6:True:=trivial
   focus
    refine Vw<|Xx Z Z Z ?_;rintro b1 w1 R3 E1 B1;have:=B1.lt;have:=E1.Z;refine Xx Z Z Z ?_;rintro b2 w2 R4 E2 B2;have:=B2.lt;refine Xi Z Xz ?_;rintro b3 w3 R5 E3 B3;have:=B3.lt;refine Yf Z<|Vt<|Vx<|Vx<|Ys<|Uk Jq Jj (B1.J exq) Z<|Vv Z (Xl (a:=.agg _) Gp Z) (k0 _ (Ku exq h1) (Ku exq h2)) ?_;rintro _ w4 ⟨rfl,E4⟩;have:=E4.Z;refine Ub Z<|Vt<|Uo Z fun h3=>?_;refine Ya<|Vw<|Uk Jq Jj (B1.J exq) Z<|Vv Z (Xl (a:=.agg _) Zk Z) (k1 _ (Ku exq h1) (Ku exq h2)) ?_;rintro _ w5 ⟨u3,q1,m1,rfl,E5,O1,H1,X1,U1⟩;have Y3:=Kx O1;have N1:=Kx (Je H1);have cpq1:=OwnedB.capOk (Je H1)
    have:=E5.Z;refine Xi Z Xz ?_;rintro b4 w6 R6 E6 B4;have:=E6.Z;refine Up Z Jj Z Z Kl Kl B4 Kh (((((E1.K E2).K E3).K E4).K E5).K E6) ?_;rintro w7 E7 B4 K1 Q1;have E8:=((((E2.K E3).K E4).K E5).K E6).A exq E7 K1 Q1 Kh;have:=E8.Z;have E9:=(((E3.K E4).K E5).K E6).A exq E7 K1 Q1 Kh;have E10:=((E4.K E5).K E6).A exq E7 K1 Q1 Kh;have E11:=(E5.K E6).A exq E7 K1 Q1 Kh;have E12:=E6.A exq E7 K1 Q1 Kh;have:=E12.Z;have B1:=(B1.J exq).Y (K1 _ Kh);have B2:=(B2.J exq).Y (K1 _ Kh);have B3:=(B3.J exq).Y (K1 _ Kh);have O1:=(O1.J E6).W K1 Kh
    have H1:=(H1.toB.J E6).W K1 Kh;refine Vt<|Vx<|Vw<|Rq Gb Ju B2 Z<|Wo Z (Yz (ps:=[(0,.int _ _)]) (cs:=[_,_,_]) Xt Z Z)<|Wo Z (Nb Z Z)<|Xo Z (fun h4=>?_) (fun h4=>?_);refine Yq Jv Ga Z<|Uc u2 Gd B1 Z<|Yu Gc Z h2<|Qg Z<|Ue Z<|Vt<|Vy Z (fun h5=>?_) (fun h5=>?_);refine Vw<|Yq Jv Ga Z<|Uc q1 Gd B4 Z<|Yu Gc Z (Kw H1)<|Sg Z<|Xc Z<|Vt<|Vx ?_;rotate_left;exact Kt;exact Ks
   clear stop6
   obtain ⟨qb,qc,ur,rfl,hqc,hcl,icr,hqb,hqb2,hDk⟩:=H1.backDk hpl Kh
   have hel:=hDk.dkNow
   have hcl:w7.cell? ⟨qb,0+((pp.length:Int) - 1).toNat,none⟩=some ur:=by rw [Nat.zero_add,show ((pp.length:Int) - 1).toNat=pp.length - 1 by omega];exact hcl
   have cellF:True:=trivial
   focus
    have:=E12.Z;have:=E11.Z;have:=E10.Z;have:=E9.Z;have:=E8.Z;have:=E7.Z;have:=E6.Z;have:=E5.Z;have:=E4.Z;have:=E3.Z;have:=E2.Z;have:=E1.Z;refine Ys<|Yq Jv Ga Z<|Rn Gd B4 Z<|Yd Z<|Wo Z (Qx Gc Jx Z Z Kh) ?_;refine Wo Z (Xh Jt Z Kk) ?_;refine Yq Jv Jx Z<|Us (v:=ur) Z Jx Z Z Kk B4 (by first | decide | simp) Kh E7 ?_;rintro w8 E13 B4 K2 Q2;have E14:=E8.A E7 E13 K2 Q2 Kh;have:=E14.Z;have E15:=E9.A E7 E13 K2 Q2 Kh;have:=E15.Z;have E16:=E10.A E7 E13 K2 Q2 Kh;have:=E16.Z;have E17:=E11.A E7 E13 K2 Q2 Kh
    have:=E17.Z;have E18:=E12.A E7 E13 K2 Q2 Kh;have:=E18.Z;simp only [List.set] at B4;have B1:=B1.Y (K2 _ Kh);have B2:=B2.Y (K2 _ Kh);have B3:=B3.Y (K2 _ Kh);have O1:=O1.W K2 Kh;have H1:=H1.W K2 Kh;have hDk:=hDk.W K2 Kh;have hel:=hel.W K2 Kh;refine Vt<|Vw<|Yq Jv Ga Z<|Rn Gd B4 Z<|Yd Z<|Wo Z (Sp Gc Jx Z Z Kh) ?_;refine Yq Jv Ga Z<|Us (v:=.slice _ _ _) Z Ga Z Z Z B4 Kp Kh E13 ?_;rintro w9 E19 B4 K3 Q3;have E20:=E14.A E13 E19 K3 Q3 Kh;have:=E20.Z;have E21:=E15.A E13 E19 K3 Q3 Kh;have:=E21.Z
    have E22:=E16.A E13 E19 K3 Q3 Kh;have:=E22.Z;have E23:=E17.A E13 E19 K3 Q3 Kh;have:=E23.Z;have E24:=E18.A E13 E19 K3 Q3 Kh;have:=E24.Z;simp only [List.set] at B4;have B1:=B1.Y (K3 _ Kh);have B2:=B2.Y (K3 _ Kh);have B3:=B3.Y (K3 _ Kh);have O1:=O1.W K3 Kh;have H1:=H1.W K3 Kh;have hDk:=hDk.W K3 Kh;have hel:=hel.W K3 Kh;refine Vt<|Vw<|Uk Jq Jj B4 Z<|Uz Jj B3 Z E19 ?_;rintro w10 E25 B3 K4 Q4;have E26:=E20.A E19 E25 K4 Q4 Kh;have:=E26.Z;have E27:=E21.A E19 E25 K4 Q4 Kh;have:=E27.Z;have B4:=B4.Y (K4 _ Kh);have B1:=B1.Y (K4 _ Kh)
    have B2:=B2.Y (K4 _ Kh);have O1:=O1.W K4 Kh;have H1:=H1.W K4 Kh;have hDk:=hDk.W K4 Kh;have hel:=hel.W K4 Kh;refine Yf Z<|Vt<|Yc ?_
   have hlast:pp.getLastD []=pp[pp.length - 1]:=by rw [List.getLastD_eq_getLast?,List.getLast?_eq_getElem?,List.getElem?_eq_getElem Kh];rfl
   rw [hlast,List.dropLast_eq_take]
   rw [show ((pp.length:Int) - 1).toNat=pp.length - 1 by omega] at *
   refine ⟨b3,ur,_,Z,B3,ur,_,Z,E25,hDk.dkNow.rd_above.mono Kh,hDk.dkPast.rd_above.mono Kh,icr,Z,Kh,fun _ _=>?_⟩
   exact hDk.wide Kh Kh
  ·have hdo:doV ⟨p,pp⟩ ⟨k,t,n⟩=match nextV p ⟨k,t,n⟩ with
    | some c=>(⟨c,last8 (pp++[p])⟩,true)
    | none=>(⟨p,pp⟩,false):=by unfold doV;rw [if_neg hb];rfl
   rw [hdo]
   have hback:(⟨k,t,n⟩:Deed)=⟨4,[],0⟩→pp.length=0:=fun e=>Classical.byContradiction fun h=>hb ⟨e,fun h'=>h (by rw [show pp=[] from h'];rfl)⟩
   have k2 : ∀ w,ESl Ints w u1 p→Dz 93 [u1,.agg #[.int .i64 k,str t,.int .i64 n]] w (RetOB w XR (og (madeV p ⟨k,t,n⟩)) (madeV p ⟨k,t,n⟩).isSome):=fun w h=>l11Made_ok w u1 p h hpp k n t ht
   have litown:True:=trivial
   by_cases ha:(⟨k,t,n⟩:Deed)=⟨4,[],0⟩
   ·have hpl0:=hback ha
    cases ha
    have hmv:madeV p ⟨4,[],0⟩=none:=by simp [madeV]
    have hnx:nextV p ⟨4,[],0⟩=none:=by unfold nextV;rw [hmv]
    rw [hmv,show og none=[] from rfl,show (none:Option (List (List Int))).isSome=false from rfl] at k2
    rw [hnx]
    simp only
    focus
     refine Vw<|Xx Z Z Z ?_;rintro b1 w1 R3 E1 B1;have:=B1.lt;refine Xx Z Z Z ?_;rintro b2 w2 R4 E2 B2;have:=B2.lt;refine Xi Z Xz ?_;rintro b3 w3 R5 E3 B3;have:=B3.lt;refine Yf Z<|Vt<|Vx<|Vx<|Ys<|Uk Jq Jj (B1.J exq) Z<|Vv Z (Xl (a:=.agg _) Gp Z) (k0 _ (Ku exq h1) (Ku exq h2)) ?_;rintro _ w4 ⟨rfl,E4⟩;have:=E4.Z;refine Ub Z<|Vt<|Uo Z fun h3=>?_;refine Ya<|Vw<|Uk Jq Jj (B1.J exq) Z<|Vv Z (Xl (a:=.agg _) Zk Z) (k1 _ (Ku exq h1) (Ku exq h2)) ?_;rintro _ w5 ⟨u3,q1,m1,rfl,E5,O1,H1,X1,U1⟩;have Y3:=Kx O1;have N1:=Kx (Je H1);have:=E5.Z;refine Xi Z Xz ?_
     rintro b4 w6 R6 E6 B4;refine Up Z Jj Z Z Kl Kl B4 Kh (((((E1.K E2).K E3).K E4).K E5).K E6) ?_;rintro w7 E7 B4 K1 Q1;have E8:=((((E2.K E3).K E4).K E5).K E6).A exq E7 K1 Q1 Kh;have B1:=(B1.J exq).Y (K1 _ Kh);have B2:=(B2.J exq).Y (K1 _ Kh);have B3:=(B3.J exq).Y (K1 _ Kh);have O1:=(O1.J E6).W K1 Kh;have H1:=(H1.toB.J E6).W K1 Kh;refine Vt<|Vx<|Vw<|Rq Gb Ju B2 Z<|Wo Z (Yz (ps:=[(0,.int _ _)]) (cs:=[_,_,_]) Xt Z Z)<|Wo Z (Nb Z Z)<|Xo Z (fun h4=>?_) (fun h4=>?_)
     refine Yq Jv Ga Z<|Uc u2 Gd B1 Z<|Yu Gc Z h2<|Qg Z<|Ue Z<|Vt<|Vz Z fun h5=>?_;refine Ya<|Vx<|Ys<|Yq Jv Jx Z<|Uc u1 Jt B1 Z<|Rq Gb Ju B2 Z<|Vv Z (Xd (a:=u1) (b:=.agg _) Ve Z Z) (k2 _ (Ku E7 h1)) ?_;rintro _ w8 ⟨u4,rfl,E13,O2⟩;refine Uy Z<|Qz u4 Z<|Qd Z<|Ug u4 Z<|Yf Z<|Vt<|Vx<|Vx<|Qi mixed Ki Z ?_;refine Td Z<|Mp Z<|St Z (fun _ _=>Xn (v:=.bool _) Z) (fun h6=>?_) (fun h6=>?_)
     refine Yh Z<|Yh Z<|Yh Z<|Yh Z<|Yh Z<|Yh Z<|Yh Z<|Yh Z<|Yh Z<|Yh Z<|Yh Z<|Yh Z<|Yh Z<|Yh Z<|Mm Z<|Qb (fun w9 E14=>?_);refine Xj Z ?_;refine Vw<|Uk Jq Jj (B4.J exq) Z<|Uz Jj (B3.J (E13.K E14)) Z ((E7.K E13).K E14) ?_;rintro w10 E15 B3 K2 Q2;have E16:=((E8.K E13).K E14).A exq E15 K2 Q2 Kh;have:=E16.Z;have O1:=(O1.J exq).W K2 Kh;have H1:=(H1.J exq).W K2 Kh;refine Yf Z<|Vt<|Yc ?_;rotate_left;exact Ks;exact Ks
    exact ⟨b3,u3,q1,rfl,B3,u3,q1,rfl,by exact E15,O1.above.mono Kh,H1.above.mono Kh,Y3,N1,Kh,fun h=>by cases h⟩
   ·cases hmv:madeV p ⟨k,t,n⟩ with
    | none =>
      have hnx : nextV p ⟨k, t, n⟩ = none := by unfold nextV; rw [hmv]
      rw [hmv, show og none = [] from rfl, show (none : Option (List (List Int))).isSome = false from rfl] at k2
      rw [hnx]
      simp only
      focus
        refine Vw<|Xx Z Z Z ?_; rintro b1 w1 R3 E1 B1; have := B1.lt; refine Xx Z Z Z ?_; rintro b2 w2 R4 E2 B2; have := B2.lt; refine Xi Z Xz ?_; rintro b3 w3 R5 E3 B3; have := B3.lt; refine Yf Z<|Vt<|Vx<|Vx<|Ys<|Uk Jq Jj (B1.J exq) Z<|Vv Z (Xl (a := .agg _) Gp Z) (k0 _ (Ku exq h1) (Ku exq h2)) ?_; rintro _ w4 ⟨rfl, E4⟩; have := E4.Z; refine Ub Z<|Vt<|Uo Z fun h3 => ?_; refine Ya<|Vw<|Uk Jq Jj (B1.J exq) Z<|Vv Z (Xl (a := .agg _) Zk Z) (k1 _ (Ku exq h1) (Ku exq h2)) ?_; rintro _ w5 ⟨u3, q1, m1, rfl, E5, O1, H1, X1, U1⟩; have Y3 := Kx O1; have N1 := Kx (Je H1); have := E5.Z; refine Xi Z Xz ?_
        rintro b4 w6 R6 E6 B4; refine Up Z Jj Z Z Kl Kl B4 Kh (((((E1.K E2).K E3).K E4).K E5).K E6) ?_; rintro w7 E7 B4 K1 Q1; have E8 := ((((E2.K E3).K E4).K E5).K E6).A exq E7 K1 Q1 Kh; have B1 := (B1.J exq).Y (K1 _ Kh); have B2 := (B2.J exq).Y (K1 _ Kh); have B3 := (B3.J exq).Y (K1 _ Kh); have O1 := (O1.J E6).W K1 Kh; have H1 := (H1.toB.J E6).W K1 Kh; refine Vt<|Vx<|Vw<|Rq Gb Ju B2 Z<|Wo Z (Yz (ps := [(0, .int _ _)]) (cs := [_, _, _]) Xt Z Z)<|Wo Z (Nb Z Z)<|Un Z fun h4 => ?_; refine Vu Z<|Vu Z<|Vu Z<|Vu Z<|Xg Z<|Vt<|Yb Z ?_
        refine Ya<|Vx<|Ys<|Yq Jv Jx Z<|Uc u1 Jt B1 Z<|Rq Gb Ju B2 Z<|Vv Z (Xd (a := u1) (b := .agg _) Ve Z Z) (k2 _ (Ku E7 h1)) ?_; rintro _ w8 ⟨u4, rfl, E13, O2⟩; refine Uy Z<|Qz u4 Z<|Qd Z<|Ug u4 Z<|Yf Z<|Vt<|Vx<|Vx<|Qi mixed Ki Z ?_; refine Td Z<|Mp Z<|St Z (fun _ _ => Xn (v := .bool _) Z) (fun h5 => ?_) (fun h5 => ?_); refine Yh Z<|Yh Z<|Yh Z<|Yh Z<|Yh Z<|Yh Z<|Yh Z<|Yh Z<|Yh Z<|Yh Z<|Yh Z<|Yh Z<|Yh Z<|Yh Z<|Mm Z<|Qb (fun w9 E14 => ?_); refine Xj Z ?_
        refine Vw<|Uk Jq Jj (B4.J exq) Z<|Uz Jj (B3.J (E13.K E14)) Z ((E7.K E13).K E14) ?_; rintro w10 E15 B3 K2 Q2; have E16 := ((E8.K E13).K E14).A exq E15 K2 Q2 Kh; have := E16.Z; have O1 := (O1.J exq).W K2 Kh; have H1 := (H1.J exq).W K2 Kh; refine Yf Z<|Vt<|Yc ?_; rotate_left; exact Ks
      exact ⟨b3, u3, q1, rfl, B3, u3, q1, rfl, by exact E15, O1.above.mono Kh, H1.above.mono Kh, Y3, N1, Kh, fun h => by cases h⟩
    | some c =>
      rw [hmv, show og (some c) = c from rfl, show (some c).isSome = true from rfl] at k2
      have hc : LeastP c := Mx hpp hmv
      have hcp := hc.1
      have k3 : ∀ (w : World) (v : Value), ESl Ints w v c → Dz 62 [v] w (Ret w (str (txt c))) := fun w v h => by
        have := Qq w v _ h
        rwa [if_pos hcp] at this
      by_cases hcq : c = p
      · subst hcq
        have hnx : nextV c ⟨k, t, n⟩ = none := by unfold nextV; rw [hmv]; simp
        rw [hnx]
        simp only
        focus
          refine Vw<|Xx Z Z Z ?_; rintro b1 w1 R3 E1 B1; have := B1.lt; refine Xx Z Z Z ?_; rintro b2 w2 R4 E2 B2; have := B2.lt; refine Xi Z Xz ?_; rintro b3 w3 R5 E3 B3; have := B3.lt; refine Yf Z<|Vt<|Vx<|Vx<|Ys<|Uk Jq Jj (B1.J exq) Z<|Vv Z (Xl (a := .agg _) Gp Z) (k0 _ (Ku exq h1) (Ku exq h2)) ?_; rintro _ w4 ⟨rfl, E4⟩; have := E4.Z; refine Ub Z<|Vt<|Uo Z fun h3 => ?_; refine Ya<|Vw<|Uk Jq Jj (B1.J exq) Z<|Vv Z (Xl (a := .agg _) Zk Z) (k1 _ (Ku exq h1) (Ku exq h2)) ?_; rintro _ w5 ⟨u3, q1, m1, rfl, E5, O1, H1, X1, U1⟩; have Y3 := Kx O1; have N1 := Kx (Je H1); have := E5.Z; refine Xi Z Xz ?_
          rintro b4 w6 R6 E6 B4; refine Up Z Jj Z Z Kl Kl B4 Kh (((((E1.K E2).K E3).K E4).K E5).K E6) ?_; rintro w7 E7 B4 K1 Q1; have E8 := ((((E2.K E3).K E4).K E5).K E6).A exq E7 K1 Q1 Kh; have B1 := (B1.J exq).Y (K1 _ Kh); have B2 := (B2.J exq).Y (K1 _ Kh); have B3 := (B3.J exq).Y (K1 _ Kh); have O1 := (O1.J E6).W K1 Kh; have H1 := (H1.toB.J E6).W K1 Kh; refine Vt<|Vx<|Vw<|Rq Gb Ju B2 Z<|Wo Z (Yz (ps := [(0, .int _ _)]) (cs := [_, _, _]) Xt Z Z)<|Wo Z (Nb Z Z)<|Un Z fun h4 => ?_; refine Vu Z<|Vu Z<|Vu Z<|Vu Z<|Xg Z<|Vt<|Yb Z ?_
          refine Ya<|Vx<|Ys<|Yq Jv Jx Z<|Uc u1 Jt B1 Z<|Rq Gb Ju B2 Z<|Vv Z (Xd (a := u1) (b := .agg _) Ve Z Z) (k2 _ (Ku E7 h1)) ?_; rintro _ w8 ⟨u4, rfl, E13, O2⟩; refine Uy Z<|Qz u4 Z<|Qd Z<|Ug u4 Z<|Yf Z<|Vt<|Vx<|Vx<|Qi mixed Ki Z ?_; refine Td Z<|Mp Z<|St Z (fun _ _ => Xn (v := .bool _) Z) (fun h5 => ?_) (fun h5 => ?_); exact Ks; refine Sd u4 Z<|Uv Z (fun _ _ => Sa Jm Z (Kv O2)) ?_; refine Rb Jv Jx Z<|Uv (v := u1) Z (fun w' hw' => Xh Jt Z (((B1.J E13).J hw').cell Z)) ?_; refine Uv Z (fun _ _ => Sa Jm Z h1) ?_
          refine Sv Z<|Rp Z (fun h6 => ?_) (fun h6 => ?_); refine Sd u4 Z<|Rg Z (fun _ _ => Xl (a := u4) Gi Z) (fun w' hw' => (k3 _ _ ((Ku hw' (Kv O2))))) ?_; refine Rb Jv Jx Z<|Uv (v := u1) Z (fun w' hw' => Xh Jt Z (((B1.J E13).J hw').cell Z)) ?_; refine Rg Z (fun _ _ => Xl (a := u1) Gi Z) (fun w' hw' => (k3 _ _ (Ku exq h1))) ?_; refine Uv Z (fun _ _ => Yn Z Z) ?_; refine Mm Z<|So Z<|Qb (fun w9 E14 => ?_); refine Vy Z (fun h7 => ?_) (fun h7 => ?_); refine Vw<|Uk Jq Jj (B4.J exq) Z<|Uz Jj (B3.J (E13.K E14)) Z ((E7.K E13).K E14) ?_; rintro w10 E15 B3 K2 Q2; have E16 := ((E8.K E13).K E14).A exq E15 K2 Q2 Kh; have := E16.Z
          have O1 := (O1.J exq).W K2 Kh; have H1 := (H1.J exq).W K2 Kh; refine Yf Z<|Vt<|Yc ?_; rotate_left; exact Ks; exact Ks
        exact ⟨b3, u3, q1, rfl, B3, u3, q1, rfl, by exact E15, O1.above.mono Kh, H1.above.mono Kh, Y3, N1, Kh, fun h => by cases h⟩
      · have hnx : nextV p ⟨k, t, n⟩ = some c := by unfold nextV; rw [hmv]; simp [hcq]
        rw [hnx]
        simp only
        have k4 : ∀ (w : World) (v : Value), ESl Ints w v p → Dz 62 [v] w (Ret w (str (txt p))) := fun w v h => by
          have := Qq w v _ h
          rwa [if_pos hpp] at this
        have htx : txt c ≠ txt p := fun e => hcq (txt_inj hcp.gr hpp.gr e)
        have stop12 : True := trivial
        focus
          refine Vw<|Xx Z Z Z ?_; rintro b1 w1 R3 E1 B1; have := B1.lt; have := E1.Z; refine Xx Z Z Z ?_; rintro b2 w2 R4 E2 B2; have := B2.lt; refine Xi Z Xz ?_; rintro b3 w3 R5 E3 B3; have := B3.lt; refine Yf Z<|Vt<|Vx<|Vx<|Ys<|Uk Jq Jj (B1.J exq) Z<|Vv Z (Xl (a := .agg _) Gp Z) (k0 _ (Ku exq h1) (Ku exq h2)) ?_; rintro _ w4 ⟨rfl, E4⟩; have := E4.Z; refine Ub Z<|Vt<|Uo Z fun h3 => ?_; refine Ya<|Vw<|Uk Jq Jj (B1.J exq) Z<|Vv Z (Xl (a := .agg _) Zk Z) (k1 _ (Ku exq h1) (Ku exq h2)) ?_; rintro _ w5 ⟨u3, q1, m1, rfl, E5, O1, H1, X1, U1⟩; have Y3 := Kx O1; have N1 := Kx (Je H1); have := E5.Z; refine Xi Z Xz ?_
          rintro b4 w6 R6 E6 B4; have := B4.lt; have := E6.Z; refine Up Z Jj Z Z Kl Kl B4 Kh (((((E1.K E2).K E3).K E4).K E5).K E6) ?_; rintro w7 E7 B4 K1 Q1; have E8 := ((((E2.K E3).K E4).K E5).K E6).A exq E7 K1 Q1 Kh; have E9 := (((E3.K E4).K E5).K E6).A exq E7 K1 Q1 Kh; have E10 := ((E4.K E5).K E6).A exq E7 K1 Q1 Kh; have E11 := (E5.K E6).A exq E7 K1 Q1 Kh; have B1 := (B1.J exq).Y (K1 _ Kh); have B2 := (B2.J exq).Y (K1 _ Kh); have B3 := (B3.J exq).Y (K1 _ Kh); have O1 := (O1.J E6).W K1 Kh; have H1 := (H1.toB.J E6).W K1 Kh
          refine Vt<|Vx<|Vw<|Rq Gb Ju B2 Z<|Wo Z (Yz (ps := [(0, .int _ _)]) (cs := [_, _, _]) Xt Z Z)<|Wo Z (Nb Z Z)<|Un Z fun h4 => ?_; refine Vu Z<|Vu Z<|Vu Z<|Vu Z<|Xg Z<|Vt<|Yb Z ?_; refine Ya<|Vx<|Ys<|Yq Jv Jx Z<|Uc u1 Jt B1 Z<|Rq Gb Ju B2 Z<|Vv Z (Xd (a := u1) (b := .agg _) Ve Z Z) (k2 _ (Ku E7 h1)) ?_; rintro _ w8 ⟨u4, rfl, E13, O2⟩; have ichO2 := Kx (Je O2); have := E13.Z; refine Uy Z<|Qz u4 Z<|Qd Z<|Ug u4 Z<|Yf Z<|Vt<|Vx<|Vx<|Qi mixed Ki Z ?_
          refine Td Z<|Mp Z<|St Z (fun _ _ => Xn (v := .bool _) Z) (fun h5 => ?_) (fun h5 => ?_); exact Ks; refine Sd u4 Z<|Uv Z (fun _ _ => Sa Jm Z (Kv O2)) ?_; refine Rb Jv Jx Z<|Uv (v := u1) Z (fun w' hw' => Xh Jt Z (((B1.J E13).J hw').cell Z)) ?_; refine Uv Z (fun _ _ => Sa Jm Z h1) ?_; refine Sv Z<|Rp Z (fun h6 => ?_) (fun h6 => ?_); refine Sd u4 Z<|Rg Z (fun _ _ => Xl (a := u4) Gi Z) (fun w' hw' => (k3 _ _ ((Ku hw' (Kv O2))))) ?_; refine Rb Jv Jx Z<|Uv (v := u1) Z (fun w' hw' => Xh Jt Z (((B1.J E13).J hw').cell Z)) ?_
          refine Rg Z (fun _ _ => Xl (a := u1) Gi Z) (fun w' hw' => (k4 _ _ (Ku exq h1))) ?_; refine Uv Z (fun _ _ => Yn Z Z) ?_; refine Mm Z<|So Z<|Qb (fun w9 E14 => ?_); have := E14.Z; refine Yy Z fun h7 => ?_; refine Ya<|Vx ?_; rotate_left; refine Yh Z<|Yh Z<|Yh Z<|Yh Z<|Yh Z<|Yh Z<|So Z<|So Z<|Qb (fun w9 E14 => ?_); have := E14.Z; refine Yb Z ?_; refine Ya<|Vx ?_; rotate_left
        · clear stop12
          have stop13 : True := trivial
          have H0 := H1
          focus
            refine Ys<|Yq Jv Ga Z<|Uc q1 Gd (B4.J exq) Z<|Yq Jv Jx Z<|Uc u3 Jt (B4.J exq) Z<|Qj Z Gc Jx Ze Z (Kx (O1.J exq)) Z ?_; rintro b5 w10 R7 E15 B5 T5; have := B5.lt; have := E15.Z; refine Wo_app1r Z el24 Z Z B5 (H0.J ((E13.K E14).K E15)) (O1.J ((E13.K E14).K E15)) Km Kh Kh (((E7.K E13).K E14).K E15) Kh ?_; have V1 := (H0.J ((E13.K E14).K E15)); rintro v1 w11 H0 E16 M1; have E17 := M1.J V1 (((E8.K E13).K E14).K E15) Kh; have := E17.Z; have E18 := M1.J V1 (((E9.K E13).K E14).K E15) Kh
            have E19 := M1.J V1 (((E10.K E13).K E14).K E15) Kh; have E20 := M1.J V1 (((E11.K E13).K E14).K E15) Kh; have B4 := (B4.J exq).moves M1 V1 Kh; have B1 := (B1.J exq).moves M1 V1 Kh; have B2 := (B2.J exq).moves M1 V1 Kh; have B3 := (B3.J exq).moves M1 V1 Kh; have O1 := (O1.J exq).moves M1 V1 Kh; have O2 := (O2.toB.J exq).moves M1 V1 Kh; have B5 := B5.moves M1 V1 Kh; have := E16.Z; have icv1 := Kx (Je H0); refine Yq Jv Ga Z<|Us (v := v1) Z Ga Z Z (Kx H0.toB) B4 Kp Kh E16 ?_; rintro w12 E21 B4 K2 Q2; have E22 := E17.A E16 E21 K2 Q2 Kh; have E23 := E18.A E16 E21 K2 Q2 Kh; have E24 := E19.A E16 E21 K2 Q2 Kh
            have E25 := E20.A E16 E21 K2 Q2 Kh; simp only [List.set] at B4; have B1 := B1.Y (K2 _ Kh); have B2 := B2.Y (K2 _ Kh); have B3 := B3.Y (K2 _ Kh); have O1 := O1.W K2 Kh; have O2 := O2.W K2 Kh; have B5 := B5.Y (K2 _ Kh); refine Vt<|Vx<|Vx ?_
          clear stop13
          have hM : Moves w10 q1 w11 v1 := M1
          have hne := hM.ne H1 (b := b4) Kh Kh
          have hown : ∀ k, v1.ownBlock = some k → k < w7.heap.size ∨ w8.heap.size ≤ k := fun k hk => by
            rcases hM.2 with e | ⟨g, e, hg⟩
            · rw [e] at hk; have := H1.lt_own hk; omega
            · rw [e] at hk; cases hk; omega
          clear H1
          obtain ⟨nb, nc, rfl, hnc⟩ := H0.lit Kp
          have hnl : (pp ++ [p]).length = pp.length + 1 := Kp
          rw [hnl] at B4 H0 hne hnc hown
          focus
            have := E11.Z; have := E7.Z; refine Ys<|Yq Jv Ga Z<|Rn Gd B4 Z<|Yu Gc Z (Kv H0)<|Qg Z<|Vt<|Vy Z (fun h8 => ?_) (fun h8 => ?_); refine Ys<|Yq Jv Ga Z<|Rn Gd B4 Z<|Wo Z (Sk Gc Jx Z Z Kh) ?_; refine Yq Jv Ga Z<|Us (v := .slice _ _ _) Z Ga Z Z Z B4 Kp Kh E21 ?_; rintro w13 E26 B4 K3 Q3; have E27 := E22.A E21 E26 K3 Q3 Kh; have E28 := E23.A E21 E26 K3 Q3 Kh; simp only [List.set] at B4; have B3 := B3.Y (K3 _ Kh); have O2 := O2.W K3 Kh
            refine Vt<|Vw<|Ym u4 Z<|Yq Jv Jx Z<|Us (v := u4) Z Jx Z Z (Kx O2) B4 Kp Kh E26 ?_; rintro w14 E31 B4 K4 Q4; simp only [List.set] at B4; have B3 := B3.Y (K4 _ Kh); have O2 := O2.W K4 Kh; refine Vt<|Vw<|Uk Jq Jj B4 Z<|Uz Jj B3 Z E31 ?_; rintro w15 E36 B3 K5 Q5; have O2 := O2.W K5 Kh; refine Yf Z<|Vt<|Yc ?_; rotate_left; refine Ya<|Vw<|Ym u4 Z<|Yq Jv Jx Z<|Us (v := u4) Z Jx Z Z (Kx O2) B4 Kp Kh E21 ?_; rintro w13 E26 B4 K3 Q3; simp only [List.set] at B4; have B3 := B3.Y (K3 _ Kh); have O2 := O2.W K3 Kh
            refine Vt<|Vw<|Uk Jq Jj B4 Z<|Uz Jj B3 Z E26 ?_; rintro w14 E31 B3 K4 Q4; have O2 := O2.W K4 Kh; refine Yf Z<|Vt<|Yc ?_; rotate_left
          · have H3 := (H0.wroteLt (w' := w15) (fun k h1 h2 => (K5 k Kh).trans ((K4 k h2).trans ((K3 k h2).trans (K2 k h2)))) Kh hne).above.mono (show w.heap.size ≤ w4.heap.size by omega)
            refine ⟨b3, u4, _, Z, B3, u4, _, Z, by exact E36, O2.above.mono Kh, ?_, Kk, Z, Kh, fun _ h => absurd h (show ¬ pp.length < 8 by omega)⟩
            rw [show last8 (pp ++ [p]) = (pp ++ [p]).drop 1 from if_pos Kh]
            exact H3.dropS Kh
          · have H3 := (H0.wroteLt (w' := w14) (fun k h1 h2 => (K4 k Kh).trans ((K3 k h2).trans (K2 k h2))) Kh hne).above.mono (show w.heap.size ≤ w4.heap.size by omega)
            have H4 := H0.wroteLt (w' := w14) (fun k h1 h2 => (K4 k Kh).trans ((K3 k h2).trans (K2 k h2))) Kh hne
            rw [show last8 (pp ++ [p]) = pp ++ [p] from if_neg Kh]
            refine ⟨b3, u4, _, Z, B3, u4, _, Z, by exact E31, O2.above.mono Kh, H3, Kk, Z, Kh, fun _ _ => ?_⟩
            exact (H4.dk O2 Kh hown).wide Kh (Kz _)
        · clear stop12
          have stop13 : True := trivial
          have H0 := H1
          focus
            refine Ys<|Yq Jv Ga Z<|Uc q1 Gd (B4.J exq) Z<|Yq Jv Jx Z<|Uc u3 Jt (B4.J exq) Z<|Qj Z Gc Jx Ze Z (Kx (O1.J exq)) Z ?_; rintro b5 w10 R7 E15 B5 T5; have := B5.lt; have := E15.Z; refine Wo_app1r Z el24 Z Z B5 (H0.J ((E13.K E14).K E15)) (O1.J ((E13.K E14).K E15)) Km Kh Kh (((E7.K E13).K E14).K E15) Kh ?_; have V1 := (H0.J ((E13.K E14).K E15)); rintro v1 w11 H0 E16 M1; have E17 := M1.J V1 (((E8.K E13).K E14).K E15) Kh; have := E17.Z; have E18 := M1.J V1 (((E9.K E13).K E14).K E15) Kh
            have E19 := M1.J V1 (((E10.K E13).K E14).K E15) Kh; have E20 := M1.J V1 (((E11.K E13).K E14).K E15) Kh; have B4 := (B4.J exq).moves M1 V1 Kh; have B1 := (B1.J exq).moves M1 V1 Kh; have B2 := (B2.J exq).moves M1 V1 Kh; have B3 := (B3.J exq).moves M1 V1 Kh; have O1 := (O1.J exq).moves M1 V1 Kh; have O2 := (O2.toB.J exq).moves M1 V1 Kh; have B5 := B5.moves M1 V1 Kh; have := E16.Z; have icv1 := Kx (Je H0); refine Yq Jv Ga Z<|Us (v := v1) Z Ga Z Z (Kx H0.toB) B4 Kp Kh E16 ?_; rintro w12 E21 B4 K2 Q2; have E22 := E17.A E16 E21 K2 Q2 Kh; have E23 := E18.A E16 E21 K2 Q2 Kh; have E24 := E19.A E16 E21 K2 Q2 Kh
            have E25 := E20.A E16 E21 K2 Q2 Kh; simp only [List.set] at B4; have B1 := B1.Y (K2 _ Kh); have B2 := B2.Y (K2 _ Kh); have B3 := B3.Y (K2 _ Kh); have O1 := O1.W K2 Kh; have O2 := O2.W K2 Kh; have B5 := B5.Y (K2 _ Kh); refine Vt<|Vx<|Vx ?_
          clear stop13
          have hM : Moves w10 q1 w11 v1 := M1
          have hne := hM.ne H1 (b := b4) Kh Kh
          have hown : ∀ k, v1.ownBlock = some k → k < w7.heap.size ∨ w8.heap.size ≤ k := fun k hk => by
            rcases hM.2 with e | ⟨g, e, hg⟩
            · rw [e] at hk; have := H1.lt_own hk; omega
            · rw [e] at hk; cases hk; omega
          clear H1
          obtain ⟨nb, nc, rfl, hnc⟩ := H0.lit Kp
          have hnl : (pp ++ [p]).length = pp.length + 1 := Kp
          rw [hnl] at B4 H0 hne hnc hown
          focus
            have := E11.Z; have := E7.Z; refine Ys<|Yq Jv Ga Z<|Rn Gd B4 Z<|Yu Gc Z (Kv H0)<|Qg Z<|Vt<|Vy Z (fun h7 => ?_) (fun h7 => ?_); refine Ys<|Yq Jv Ga Z<|Rn Gd B4 Z<|Wo Z (Sk Gc Jx Z Z Kh) ?_; refine Yq Jv Ga Z<|Us (v := .slice _ _ _) Z Ga Z Z Z B4 Kp Kh E21 ?_; rintro w13 E26 B4 K3 Q3; have E27 := E22.A E21 E26 K3 Q3 Kh; have E28 := E23.A E21 E26 K3 Q3 Kh; simp only [List.set] at B4; have B3 := B3.Y (K3 _ Kh); have O2 := O2.W K3 Kh
            refine Vt<|Vw<|Ym u4 Z<|Yq Jv Jx Z<|Us (v := u4) Z Jx Z Z (Kx O2) B4 Kp Kh E26 ?_; rintro w14 E31 B4 K4 Q4; simp only [List.set] at B4; have B3 := B3.Y (K4 _ Kh); have O2 := O2.W K4 Kh; refine Vt<|Vw<|Uk Jq Jj B4 Z<|Uz Jj B3 Z E31 ?_; rintro w15 E36 B3 K5 Q5; have O2 := O2.W K5 Kh; refine Yf Z<|Vt<|Yc ?_; rotate_left; refine Ya<|Vw<|Ym u4 Z<|Yq Jv Jx Z<|Us (v := u4) Z Jx Z Z (Kx O2) B4 Kp Kh E21 ?_; rintro w13 E26 B4 K3 Q3; simp only [List.set] at B4; have B3 := B3.Y (K3 _ Kh); have O2 := O2.W K3 Kh
            refine Vt<|Vw<|Uk Jq Jj B4 Z<|Uz Jj B3 Z E26 ?_; rintro w14 E31 B3 K4 Q4; have O2 := O2.W K4 Kh; refine Yf Z<|Vt<|Yc ?_; rotate_left
          · have H3 := (H0.wroteLt (w' := w15) (fun k h1 h2 => (K5 k Kh).trans ((K4 k h2).trans ((K3 k h2).trans (K2 k h2)))) Kh hne).above.mono (show w.heap.size ≤ w4.heap.size by omega)
            refine ⟨b3, u4, _, Z, B3, u4, _, Z, by exact E36, O2.above.mono Kh, ?_, Kk, Z, Kh, fun _ h => absurd h (show ¬ pp.length < 8 by omega)⟩
            rw [show last8 (pp ++ [p]) = (pp ++ [p]).drop 1 from if_pos Kh]
            exact H3.dropS Kh
          · have H3 := (H0.wroteLt (w' := w14) (fun k h1 h2 => (K4 k Kh).trans ((K3 k h2).trans (K2 k h2))) Kh hne).above.mono (show w.heap.size ≤ w4.heap.size by omega)
            have H4 := H0.wroteLt (w' := w14) (fun k h1 h2 => (K4 k Kh).trans ((K3 k h2).trans (K2 k h2))) Kh hne
            rw [show last8 (pp ++ [p]) = pp ++ [p] from if_neg Kh]
            refine ⟨b3, u4, _, Z, B3, u4, _, Z, by exact E31, O2.above.mono Kh, H3, Kk, Z, Kh, fun _ _ => ?_⟩
            exact (H4.dk O2 Kh hown).wide Kh (Kz _)
 ·have k0 : ∀ w,ESl Ints w u1 p→ESl (ESl Ints) w u2 pp→Dz 16 [.agg #[u1,u2]] w (Ret w (.bool false)):=fun w h1 h2=>by
   have:=Rk w u1 u2 ⟨p,pp⟩ h1 h2;rwa [decide_eq_false hd] at this
  rw [if_neg hd,if_neg hd,decide_eq_false hd,Bool.false_and]
  focus
   refine Vw<|Xx Z Z Z ?_;rintro b1 w1 R1 E1 B1;have:=B1.lt;refine Xx Z Z Z ?_;rintro b2 w2 R2 E2 B2;have:=B2.lt;refine Xi Z Xz ?_;rintro b3 w3 R3 E3 B3;refine Yf Z<|Vt<|Vx<|Vx<|Ys<|Uk Jq Jj (B1.J exq) Z<|Vv Z (Xl (a:=.agg _) Gp Z) (k0 _ (Ku exq h1) (Ku exq h2)) ?_;rintro _ w4 ⟨rfl,E4⟩;refine Ub Z<|Vt<|Ut Z (fun h3=>?_) (fun h3=>?_);refine Vw<|Wo Z (Yz (ps:=[]) (cs:=[_,_]) Xz Z Z)<|Up Z Jj Z Z Kl Kl (B3.J E4) Kh (((E1.K E2).K E3).K E4) ?_;rintro w5 E5 B3 K1 Q1;have E6:=((E2.K E3).K E4).A exq E5 K1 Q1 Kh;have:=E6.Z;refine Yf Z<|Vt<|Yc ?_
   rotate_left;exact Ks
  exact ⟨b3,_,_,rfl,B3,_,_,rfl,by exact E5,(Owned.nil (e:=0) (X:=XSl 0 XInt)).above,(Owned.nil (e:=0) (X:=XSl 0 (XSl 0 XInt))).above,rfl,rfl,Kh,fun h=>by cases h⟩
def DIn (d:Dsk):Prop:=d=⟨[],[]⟩∨DkOk d
theorem DIn.now {d:Dsk} (h:DIn d):NowP d.now:=by
 rcases h with rfl | h
 ·exact .inl rfl
 ·exact .inr h.1.1.gr
open Classical in
theorem DIn.do {d:Dsk} (h:DIn d) (a:Deed):DIn ⟨if DkOk d then (doV d a).1.now else [],if DkOk d then (doV d a).1.past else []⟩:=by
 by_cases hd:DkOk d
 ·rw [if_pos hd,if_pos hd];exact .inr (doV_ok hd)
 ·rw [if_neg hd,if_neg hd];exact .inl rfl
open Classical in
theorem DIn.len {d:Dsk} (a:Deed):(if DkOk d then (doV d a).1.past else []).length≤d.past.length+1:=by
 by_cases hd:DkOk d
 ·rw [if_pos hd]
  unfold doV
  split
  ·simp;omega
  ·split
   ·unfold last8;split <;> simp <;> omega
   ·simp
 ·rw [if_neg hd];simp
theorem gr00:Gr [[0,0],[0,0]]:=⟨Kj,Kj,fun r hr=>by
 have:r=[0,0]:=by simpa using hr
 subst this
 exact ⟨rfl,fun x hx=>by left;simpa using hx⟩⟩
open Classical in
theorem DeskN_ok {w0:World} (w:World) {br m n:Nat} (hr:Rdr w0 w br m) (hm:m≤1000000) (hn:1≤n∧n≤1000) :
  Dz 56 [.pointer (some ⟨br,0,none⟩),.int .i64 (n:Int)] w (RetDK w0 w br (m+140) (fun d=>NowP d.now)):=by
 refine fn_of_Wc Tryz.func56 Z Tryz.results56 Tryz.ntmps56 Z Jq Jj ?_
 have hG:w.grownBy w (some br):=Sb _ _
 have hlr:=hr.lt
 have hgr:=hr.ge
 have k1:=fun (w:World) (v:Value) (p:List (List Int)) (h:ESl Ints w v p) (z:Int)=>spec_DeskNew_ok w v p h z
 have stop3:True:=trivial
 focus
  refine Vw<|Xi Z Xz ?_;rintro b1 w1 R1 E1 B1;have:=B1.lt;have hr:=hr.J E1;have hG:=Yk hG E1;refine Vt<|Vw<|Qa Z<|Vv Z (Xd (a:=.pointer _) (b:=.int _ _) Tryz.call105 Z Z) (Twin_ok _ _ Kk Kh Kh) ?_;rintro u1 w2 ⟨E2,Z1,x1,O1,L1⟩;(try dsimp only at L1);have B1:=B1.G E2 Kb;have hG:=Yj hG E2;have:=E2.Z;refine Ug u1 Z<|Vt<|Vw<|Ym u1 Z<|Qa Z<|Ym u1 Z<|Yu Jm Z (Kv O1)<|Vv Z (Xd (a:=.pointer _) (b:=.int _ _) Jy Z Z) (Xv _ _ Kk Kh) ?_;rintro _ w3 ⟨y1,rfl,E3,Z2,L2⟩;(try dsimp only at L2);have:=Z2.lt;have D2:=Z2.old;have O1:=O1.toB.G E3 Kh
  have B1:=B1.G E3 Kb;have hG:=Yj hG E3;have:=E3.Z;refine Vv Z (Xd (a:=u1) (b:=.int _ _) Tryz.call106 Z Z) (k1 _ _ _ (Kw O1) _) ?_;rintro _ w4 ⟨u2,q1,m1,rfl,E4,O2,H1,X1,U1⟩;have Y2:=Kx O2;have N1:=Kx (Je H1);have Z2:=Z2.J E4;have hG:=Yk hG E4;have:=E4.Z;refine Uy Z<|Lp Z<|Qd Z<|Xi Z Xz ?_;rintro b2 w5 R2 E5 B2;have:=B2.lt;have Z2:=Z2.J E5;have hG:=Yk hG E5;have:=E5.Z;refine Uz Jj B2 Z ((D2.trans E4).K E5) ?_;rintro w6 E6 B2 K1 Q1;have O1:=(O1.J exq).W K1 Kh;have B1:=(B1.J exq).Y (K1 _ Kh);have O2:=(O2.J E5).W K1 Kh;have H1:=(H1.toB.J E5).W K1 Kh
  have Z2:=Z2.W E6 (K1 _ Kh) Q1;have hG:=Xb hG ((D2.trans E4).K E5) E6 K1 Q1 Kd;refine Yf Z<|Vt<|Vx<|Vx ?_
 clear stop3
 have i1:=Y2
 have i2:=N1
 have hX:=H1.dk O2 (lo':=w3.heap.size) (hi':=w4.heap.size) Kh (fun k hk=>.inr (H1.lt_own hk).1)
 have hd:DIn ⟨if Nod x1 (y1:Int) then lst x1 (y1:Int).toNat else [],[]⟩:=by
  by_cases hz:Nod x1 (y1:Int)
  ·rw [if_pos hz]
   have hl:(y1:Int).toNat < x1.length:=by have:=hz.2;omega
   exact .inr ⟨LeastP.lst hz.1.gr hl (Jd (lst_le hz.1.gr hl) hz.1.2.1),Kp,fun p hp=>by cases hp⟩
  ·rw [if_neg hz];exact .inl rfl
 generalize (if Nod x1 (y1:Int) then lst x1 (y1:Int).toNat else [])=now at *
 generalize hpast:([]:List (List (List Int)))=past at hX hd
 have hpl:past.length=0:=by rw [← hpast];rfl
 clear O1 O2 H1
 focus
  refine Ys<|Qa Z<|Vv Z (Xd (a:=.pointer _) (b:=.int _ _) Jy Z Z) (Xv _ _ Kk Kh) ?_;rintro _ w7 ⟨y2,rfl,E9,Z3,L3⟩;(try dsimp only at L3);have B2:=B2.G E9 Kb;have B1:=B1.G E9 Kb;have hG:=Yj hG E9;have hX:=hX.G E9 Kh;have:=E9.Z;refine Xc Z<|Vt<|Ye ?_
 have hy2':=L3 Kh
 refine Xw [8,9,10,24,25,26,27,28,29,30,31,32,33,34,35,36,37] (fun ((k,v1,v2,d,lo,hi):Nat × Value × Value × Dsk × Nat × Nat)=>[(8,.int .i64 (k:Nat))]) (fun (k,v1,v2,d,lo,hi) w'=>w.grownBy w' (some br)∧Rdr w0 w' br (m+65+10*(4 - k))∧k≤4∧w6.heap.size≤w'.heap.size∧Blk w' b1 [.slice none 0 0,.slice none 0 0]∧Blk w' b2 [v1,v2]∧b1 < lo∧lo < w'.heap.size∧hi≤w'.heap.size∧(hi≤b2∨b2 < lo)∧OwnedB lo hi (XDk 23) w' v2 (v1,d.now,d.past)∧isCell v1=true∧isCell v2=true∧DIn d∧d.past.length≤4 - k) (fun x=>x.1) (y2,u2,q1,⟨now,past⟩,w3.heap.size,w4.heap.size) Kn ?_ ?_
 ·exact ⟨hG,by first | exact Z3.le Kh | exact Z2.le Kh | exact Z1.le Kh,Kh,Kh,B1,B2,Kh,Kh,Kh,Kh,hX,i1,i2,hd,by first | omega | (simp only;omega)⟩
 clear Z1 hG hX B1 B2
 rintro ⟨k,v1,v2,d,lo,hi⟩ ρj w7 ⟨hG,hr,hk,hsz,B1,B2,hbl,hlw,hhw,R2,hX,ic1,ic2,hd,hdl⟩
 by_cases hk0:0 < k
 ·have kD : ∀ (w:World) (m':Nat) (hr:Rdr w0 w br m') (hm:m'≤10000000) (hX:OwnedB lo hi (XDk 23) w v2 (v1,d.now,d.past)),lo < w.heap.size→Dz 91 [.pointer (some ⟨br,0,none⟩),.agg #[v1,v2]] w (RetDD w0 w br (m'+10) DrP):=fun w m' hr hm hX hl=>Deed_ok w v1 v2 d.now hr hm hX.dkNow.rd_above Kh hl ic2 hd.now
  have kS : ∀ (w:World) (k n:Int) (t:List UInt8),DrP ⟨k,t,n⟩→OwnedB lo hi (XDk 23) w v2 (v1,d.now,d.past)→Dz 37 [.agg #[v1,v2],.agg #[.int .i64 k,str t,.int .i64 n]] w (RetDkI w 23 d.past.length (if DkOk d then (doV d ⟨k,t,n⟩).1.now else []) (if DkOk d then (doV d ⟨k,t,n⟩).1.past else []) (decide (DkOk d) && (doV d ⟨k,t,n⟩).2)):=fun w k n t ht hX=>(spec_DeskDo_own w v1 v2 d hX.dkNow.O hX.dkPast.O k n t (by have:=ht.2.2.1;simp only at this;omega)).mono fun _ _ h=>h.i
  have stop6:True:=trivial
  focus
   refine Vx<|Vw<|Yd Z<|Qg Z<|Vt<|Vy Z (fun h1=>?_) (fun h1=>?_);refine Ya<|Vx<|Ye<|Vx ?_;rotate_left;exact Kt
  clear stop6
  refine W_mid [28,29,30,31,32,33,34,35,9,10] (fun ((b9,x1,x2,d',lo',hi',ok):Nat × Value × Value × Dsk × Nat × Nat × Bool)=>[(9,.pointer (some ⟨b9,0,none⟩)),(10,.bool ok)]) (fun (b9,x1,x2,d',lo',hi',ok) w'=>w.grownBy w' (some br)∧Rdr w0 w' br (m+65+10*(4 - k)+10)∧w6.heap.size≤w'.heap.size∧Blk w' b1 [.slice none 0 0,.slice none 0 0]∧Blk w' b2 [v1,v2]∧Blk w' b9 [x1,x2]∧lo < w'.heap.size∧hi≤w'.heap.size∧OwnedB lo hi (XDk 23) w' v2 (v1,d.now,d.past)∧b1 < lo'∧lo' < w'.heap.size∧hi'≤w'.heap.size∧b2 < lo'∧OwnedB lo' hi' (XIf (ok=true) (XDk 23)) w' x2 (x1,d'.now,d'.past)∧isCell x1=true∧isCell x2=true∧DIn d'∧d'.past.length≤4 - k+1) ?_ ?_
  ·focus
    refine Rl (fun _=>True) mixed Z Ki ?_;intro w8 E10 K2 Q2;have hG:=Yk hG E10;have hr:=hr.J E10;refine WtmP 1 Z Z trivial<|Wha [0,2,8]<|Yi Z ?_ ?_;refine Uk Jq Jj (B2.J E10) Z<|Wnt<|Wha [2,8]<|Yi Z ?_ ?_;refine Uk Jq Jj (B2.J E10) Z<|Wnt<|Wha [3,8]<|Yi Z ?_ ?_;refine Vv Z (Xd (a:=.pointer _) (b:=.agg _) Zq Z Z) (kD _ _ Kk Kh (hX.J E10) Kh) ?_;rintro _ w9 ⟨k2,t1,n1,rfl,E11,Z1,L4⟩;(try dsimp only at L4);have:=Z1.lt;have D1:=Z1.old;have B1:=(B1.J E10).G E11 Kb;have B2:=(B2.J E10).G E11 Kb;have hX:=(hX.J E10).G E11 Kh
    have hG:=Yj hG E11;have P8:=E11.Z;refine Wnt<|Wha [4,8]<|Yi Z ?_ ?_;refine Vv Z (Xd (a:=.agg _) (b:=.agg _) Zc Z Z) (kS _ _ _ _ Kk (hX)) ?_;rintro _ w10 ⟨u3,q2,rfl,E12,J1,Y3,N2,gwu3⟩;have Z1:=Z1.J E12;have hG:=Yk hG E12;refine Wnt<|Te 5 Z Z trivial<|Tf 6 Z Z trivial<|WtxB 7 Z Z trivial<|Wha [8]<|Wh1 Z<|Xi Z Xz ?_;rintro b3 w11 R3 E13 B3;have:=B3.lt;have Z1:=Z1.J E13;have hG:=Yk hG E13;have:=E13.Z;refine Wnt<|Wha [9]<|Wh1 Z<|Uz Jj B3 Z ((D1.trans E12).K E13) ?_;rintro w12 E14 B3 K3 Q3;have E15:=(E12.K E13).A exq E14 K3 Q3 Kh;have:=E15.Z;have E16:=E13.A exq E14 K3 Q3 Kh;have:=E16.Z
    have B1:=(B1.J exq).Y (K3 _ Kh);have B2:=(B2.J exq).Y (K3 _ Kh);have hX:=(hX.J exq).W K3 Kh;have J1:=(J1.J E13).W K3 Kh;have Z1:=Z1.W E14 (K3 _ Kh) Q3;have hG:=Xb hG ((D1.trans E12).K E13) E14 K3 Q3 Kd;refine Wnt<|WtaB 10 Z Z trivial<|Yr Ki ?_;rotate_left;refine Wh1 Z<|Xi Z Xz ?_;rintro b3 w10 R3 E12 B3;have:=B3.lt;have Z1:=Z1.J E12;have hG:=Yk hG E12;refine Wnt<|Wha [4]<|Wh1 Z<|Vv Z (Xd (a:=.agg _) (b:=.agg _) Zc Z Z) (kS _ _ _ _ Kk (hX.J E12)) ?_;rintro _ w11 ⟨u3,q2,rfl,E13,J1,Y3,N2,gwu3⟩;have Z1:=Z1.J E13;have hG:=Yk hG E13
    refine Wnt<|Te 5 Z Z trivial<|Tf 6 Z Z trivial<|WtxB 7 Z Z trivial<|Wha [9]<|Wh1 Z<|Uz Jj (B3.J E13) Z ((D1.trans E12).K E13) ?_;rintro w12 E14 B3 K3 Q3;have B1:=(B1.J exq).Y (K3 _ Kh);have B2:=(B2.J exq).Y (K3 _ Kh);have hX:=(hX.J exq).W K3 Kh;have J1:=J1.W K3 Kh;have Z1:=Z1.W E14 (K3 _ Kh) Q3;have hG:=Xb hG ((D1.trans E12).K E13) E14 K3 Q3 Kd;refine Wnt<|WtaB 10 Z Z trivial<|Yr Ki ?_;rotate_left;refine Wh1 Z<|Xi Z Xz ?_;rintro b3 w9 R3 E11 B3;have:=B3.lt;have hG:=Yk hG E11;have hr:=hr.J E11
    refine Wnt<|Wha [3]<|Wh1 Z<|Vv Z (Xd (a:=.pointer _) (b:=.agg _) Zq Z Z) (kD _ _ Kk Kh (hX.J exq) Kh) ?_;rintro _ w10 ⟨k2,t1,n1,rfl,E12,Z1,L4⟩;(try dsimp only at L4);have D1:=Z1.old;have B1:=(B1.J (E10.K E11)).G E12 Kb;have B2:=(B2.J (E10.K E11)).G E12 Kb;have hX:=(hX.J (E10.K E11)).G E12 Kh;have B3:=B3.G E12 Kb;have hG:=Yj hG E12;have:=E12.Z;refine Wnt<|Wha [4]<|Wh1 Z<|Vv Z (Xd (a:=.agg _) (b:=.agg _) Zc Z Z) (kS _ _ _ _ Kk (hX)) ?_;rintro _ w11 ⟨u3,q2,rfl,E13,J1,Y3,N2,gwu3⟩;have Z1:=Z1.J E13;have hG:=Yk hG E13
    refine Wnt<|Te 5 Z Z trivial<|Tf 6 Z Z trivial<|WtxB 7 Z Z trivial<|Wha [9]<|Wh1 Z<|Uz Jj (B3.J E13) Z (D1.trans E13) ?_;rintro w12 E14 B3 K3 Q3;have B1:=(B1.J E13).Y (K3 _ Kh);have B2:=(B2.J E13).Y (K3 _ Kh);have hX:=(hX.J E13).W K3 Kh;have J1:=J1.W K3 Kh;have Z1:=Z1.W E14 (K3 _ Kh) Q3;have hG:=Xb hG (D1.trans E13) E14 K3 Q3 Kd;refine Wnt<|WtaB 10 Z Z trivial<|Yr Ki ?_;rotate_left;refine Wh1 Z<|Xi Z Xz ?_;rintro b3 w9 R3 E11 B3;have:=B3.lt;have hG:=Yk hG E11;have hr:=hr.J E11
    refine Wnt<|Wha [2]<|Wh1 Z<|Uk Jq Jj (B2.J exq) Z<|Wnt<|Wha [3]<|Wh1 Z<|Vv Z (Xd (a:=.pointer _) (b:=.agg _) Zq Z Z) (kD _ _ Kk Kh (hX.J exq) Kh) ?_;rintro _ w10 ⟨k2,t1,n1,rfl,E12,Z1,L4⟩;(try dsimp only at L4);have D1:=Z1.old;have B1:=(B1.J (E10.K E11)).G E12 Kb;have B2:=(B2.J (E10.K E11)).G E12 Kb;have hX:=(hX.J (E10.K E11)).G E12 Kh;have B3:=B3.G E12 Kb;have hG:=Yj hG E12;have:=E12.Z;refine Wnt<|Wha [4]<|Wh1 Z<|Vv Z (Xd (a:=.agg _) (b:=.agg _) Zc Z Z) (kS _ _ _ _ Kk (hX)) ?_
    rintro _ w11 ⟨u3,q2,rfl,E13,J1,Y3,N2,gwu3⟩;have Z1:=Z1.J E13;have hG:=Yk hG E13;refine Wnt<|Te 5 Z Z trivial<|Tf 6 Z Z trivial<|WtxB 7 Z Z trivial<|Wha [9]<|Wh1 Z<|Uz Jj (B3.J E13) Z (D1.trans E13) ?_;rintro w12 E14 B3 K3 Q3;have B1:=(B1.J E13).Y (K3 _ Kh);have B2:=(B2.J E13).Y (K3 _ Kh);have hX:=(hX.J E13).W K3 Kh;have J1:=J1.W K3 Kh;have Z1:=Z1.W E14 (K3 _ Kh) Q3;have hG:=Xb hG (D1.trans E13) E14 K3 Q3 Kd;refine Wnt<|WtaB 10 Z Z trivial<|Yr Ki ?_;rotate_left;refine Yi Z ?_ ?_;refine Uk Jq Jj (B2.J E10) Z<|Wnt<|Wha [0,3,8]<|Yi Z ?_ ?_
    refine Uk Jq Jj (B2.J E10) Z<|Wnt<|Wha [3,8]<|Yi Z ?_ ?_;refine Vv Z (Xd (a:=.pointer _) (b:=.agg _) Zq Z Z) (kD _ _ Kk Kh (hX.J E10) Kh) ?_;rintro _ w9 ⟨k2,t1,n1,rfl,E11,Z1,L4⟩;(try dsimp only at L4);have:=Z1.lt;have D1:=Z1.old;have B1:=(B1.J E10).G E11 Kb;have B2:=(B2.J E10).G E11 Kb;have hX:=(hX.J E10).G E11 Kh;have hG:=Yj hG E11;have P8:=E11.Z;refine Wnt<|Wha [4,8]<|Yi Z ?_ ?_;refine Vv Z (Xd (a:=.agg _) (b:=.agg _) Zc Z Z) (kS _ _ _ _ Kk (hX)) ?_;rintro _ w10 ⟨u3,q2,rfl,E12,J1,Y3,N2,gwu3⟩;have Z1:=Z1.J E12;have hG:=Yk hG E12
    refine Wnt<|Te 5 Z Z trivial<|Tf 6 Z Z trivial<|WtxB 7 Z Z trivial<|Wha [8]<|Wh1 Z<|Xi Z Xz ?_;rintro b3 w11 R3 E13 B3;have:=B3.lt;have Z1:=Z1.J E13;have hG:=Yk hG E13;have:=E13.Z;refine Wnt<|Wha [9]<|Wh1 Z<|Uz Jj B3 Z ((D1.trans E12).K E13) ?_;rintro w12 E14 B3 K3 Q3;have E15:=(E12.K E13).A exq E14 K3 Q3 Kh;have:=E15.Z;have E16:=E13.A exq E14 K3 Q3 Kh;have:=E16.Z;have B1:=(B1.J exq).Y (K3 _ Kh);have B2:=(B2.J exq).Y (K3 _ Kh);have hX:=(hX.J exq).W K3 Kh;have J1:=(J1.J E13).W K3 Kh;have Z1:=Z1.W E14 (K3 _ Kh) Q3;have hG:=Xb hG ((D1.trans E12).K E13) E14 K3 Q3 Kd
    refine Wnt<|WtaB 10 Z Z trivial<|Yr Ki ?_;rotate_left;refine Wh1 Z<|Xi Z Xz ?_;rintro b3 w10 R3 E12 B3;have:=B3.lt;have Z1:=Z1.J E12;have hG:=Yk hG E12;refine Wnt<|Wha [4]<|Wh1 Z<|Vv Z (Xd (a:=.agg _) (b:=.agg _) Zc Z Z) (kS _ _ _ _ Kk (hX.J E12)) ?_;rintro _ w11 ⟨u3,q2,rfl,E13,J1,Y3,N2,gwu3⟩;have Z1:=Z1.J E13;have hG:=Yk hG E13;refine Wnt<|Te 5 Z Z trivial<|Tf 6 Z Z trivial<|WtxB 7 Z Z trivial<|Wha [9]<|Wh1 Z<|Uz Jj (B3.J E13) Z ((D1.trans E12).K E13) ?_;rintro w12 E14 B3 K3 Q3;have B1:=(B1.J exq).Y (K3 _ Kh);have B2:=(B2.J exq).Y (K3 _ Kh);have hX:=(hX.J exq).W K3 Kh;have J1:=J1.W K3 Kh
    have Z1:=Z1.W E14 (K3 _ Kh) Q3;have hG:=Xb hG ((D1.trans E12).K E13) E14 K3 Q3 Kd;refine Wnt<|WtaB 10 Z Z trivial<|Yr Ki ?_;rotate_left;refine Wh1 Z<|Xi Z Xz ?_;rintro b3 w9 R3 E11 B3;have:=B3.lt;have hG:=Yk hG E11;have hr:=hr.J E11;refine Wnt<|Wha [3]<|Wh1 Z<|Vv Z (Xd (a:=.pointer _) (b:=.agg _) Zq Z Z) (kD _ _ Kk Kh (hX.J exq) Kh) ?_;rintro _ w10 ⟨k2,t1,n1,rfl,E12,Z1,L4⟩;(try dsimp only at L4);have D1:=Z1.old;have B1:=(B1.J (E10.K E11)).G E12 Kb;have B2:=(B2.J (E10.K E11)).G E12 Kb;have hX:=(hX.J (E10.K E11)).G E12 Kh
    have B3:=B3.G E12 Kb;have hG:=Yj hG E12;have:=E12.Z;refine Wnt<|Wha [4]<|Wh1 Z<|Vv Z (Xd (a:=.agg _) (b:=.agg _) Zc Z Z) (kS _ _ _ _ Kk (hX)) ?_;rintro _ w11 ⟨u3,q2,rfl,E13,J1,Y3,N2,gwu3⟩;have Z1:=Z1.J E13;have hG:=Yk hG E13;refine Wnt<|Te 5 Z Z trivial<|Tf 6 Z Z trivial<|WtxB 7 Z Z trivial<|Wha [9]<|Wh1 Z<|Uz Jj (B3.J E13) Z (D1.trans E13) ?_;rintro w12 E14 B3 K3 Q3;have B1:=(B1.J E13).Y (K3 _ Kh);have B2:=(B2.J E13).Y (K3 _ Kh);have hX:=(hX.J E13).W K3 Kh;have J1:=J1.W K3 Kh;have Z1:=Z1.W E14 (K3 _ Kh) Q3
    have hG:=Xb hG (D1.trans E13) E14 K3 Q3 Kd;refine Wnt<|WtaB 10 Z Z trivial<|Yr Ki ?_;rotate_left;refine Yi Z ?_ ?_;refine Vv Z (Xd (a:=.pointer _) (b:=.agg _) Zq Z Z) (kD _ _ Kk Kh (hX.J E10) Kh) ?_;rintro _ w9 ⟨k2,t1,n1,rfl,E11,Z1,L4⟩;(try dsimp only at L4);have:=Z1.lt;have D1:=Z1.old;have B1:=(B1.J E10).G E11 Kb;have B2:=(B2.J E10).G E11 Kb;have hX:=(hX.J E10).G E11 Kh;have hG:=Yj hG E11;have P8:=E11.Z;refine Wnt<|Wha [0,8]<|Yi Z ?_ ?_;refine Uk Jq Jj B2 Z<|Wnt<|Wha [4,8]<|Yi Z ?_ ?_
    refine Vv Z (Xd (a:=.agg _) (b:=.agg _) Zc Z Z) (kS _ _ _ _ Kk (hX)) ?_;rintro _ w10 ⟨u3,q2,rfl,E12,J1,Y3,N2,gwu3⟩;have Z1:=Z1.J E12;have hG:=Yk hG E12;refine Wnt<|Te 5 Z Z trivial<|Tf 6 Z Z trivial<|WtxB 7 Z Z trivial<|Wha [8]<|Wh1 Z<|Xi Z Xz ?_;rintro b3 w11 R3 E13 B3;have:=B3.lt;have Z1:=Z1.J E13;have hG:=Yk hG E13;have:=E13.Z;refine Wnt<|Wha [9]<|Wh1 Z<|Uz Jj B3 Z ((D1.trans E12).K E13) ?_;rintro w12 E14 B3 K3 Q3;have E15:=(E12.K E13).A exq E14 K3 Q3 Kh;have:=E15.Z;have E16:=E13.A exq E14 K3 Q3 Kh;have:=E16.Z;have B1:=(B1.J exq).Y (K3 _ Kh);have B2:=(B2.J exq).Y (K3 _ Kh);have hX:=(hX.J exq).W K3 Kh
    have J1:=(J1.J E13).W K3 Kh;have Z1:=Z1.W E14 (K3 _ Kh) Q3;have hG:=Xb hG ((D1.trans E12).K E13) E14 K3 Q3 Kd;refine Wnt<|WtaB 10 Z Z trivial<|Yr Ki ?_;rotate_left;refine Wh1 Z<|Xi Z Xz ?_;rintro b3 w10 R3 E12 B3;have:=B3.lt;have Z1:=Z1.J E12;have hG:=Yk hG E12;refine Wnt<|Wha [4]<|Wh1 Z<|Vv Z (Xd (a:=.agg _) (b:=.agg _) Zc Z Z) (kS _ _ _ _ Kk (hX.J E12)) ?_;rintro _ w11 ⟨u3,q2,rfl,E13,J1,Y3,N2,gwu3⟩;have Z1:=Z1.J E13;have hG:=Yk hG E13;refine Wnt<|Te 5 Z Z trivial<|Tf 6 Z Z trivial<|WtxB 7 Z Z trivial<|Wha [9]<|Wh1 Z<|Uz Jj (B3.J E13) Z ((D1.trans E12).K E13) ?_;rintro w12 E14 B3 K3 Q3
    have B1:=(B1.J exq).Y (K3 _ Kh);have B2:=(B2.J exq).Y (K3 _ Kh);have hX:=(hX.J exq).W K3 Kh;have J1:=J1.W K3 Kh;have Z1:=Z1.W E14 (K3 _ Kh) Q3;have hG:=Xb hG ((D1.trans E12).K E13) E14 K3 Q3 Kd;refine Wnt<|WtaB 10 Z Z trivial<|Yr Ki ?_;rotate_left;refine Wh1 Z<|Xi Z Xz ?_;rintro b3 w10 R3 E12 B3;have:=B3.lt;have Z1:=Z1.J E12;have hG:=Yk hG E12;refine Wnt<|Wha [0]<|Wh1 Z<|Uk Jq Jj (B2.J E12) Z<|Wnt<|Wha [4]<|Wh1 Z<|Vv Z (Xd (a:=.agg _) (b:=.agg _) Zc Z Z) (kS _ _ _ _ Kk (hX.J E12)) ?_;rintro _ w11 ⟨u3,q2,rfl,E13,J1,Y3,N2,gwu3⟩;have Z1:=Z1.J E13
    have hG:=Yk hG E13;refine Wnt<|Te 5 Z Z trivial<|Tf 6 Z Z trivial<|WtxB 7 Z Z trivial<|Wha [9]<|Wh1 Z<|Uz Jj (B3.J E13) Z ((D1.trans E12).K E13) ?_;rintro w12 E14 B3 K3 Q3;have B1:=(B1.J exq).Y (K3 _ Kh);have B2:=(B2.J exq).Y (K3 _ Kh);have hX:=(hX.J exq).W K3 Kh;have J1:=J1.W K3 Kh;have Z1:=Z1.W E14 (K3 _ Kh) Q3;have hG:=Xb hG ((D1.trans E12).K E13) E14 K3 Q3 Kd;refine Wnt<|WtaB 10 Z Z trivial<|Yr Ki ?_;rotate_left;refine Wh1 Z<|Xi Z Xz ?_;rintro b3 w9 R3 E11 B3;have:=B3.lt;have hG:=Yk hG E11;have hr:=hr.J E11;refine Wnt<|Wha [0,3]<|Yi Z ?_ ?_
    refine Uk Jq Jj (B2.J exq) Z<|Wnt<|Wha [3]<|Wh1 Z<|Vv Z (Xd (a:=.pointer _) (b:=.agg _) Zq Z Z) (kD _ _ Kk Kh (hX.J exq) Kh) ?_;rintro _ w10 ⟨k2,t1,n1,rfl,E12,Z1,L4⟩;(try dsimp only at L4);have D1:=Z1.old;have B1:=(B1.J (E10.K E11)).G E12 Kb;have B2:=(B2.J (E10.K E11)).G E12 Kb;have hX:=(hX.J (E10.K E11)).G E12 Kh;have B3:=B3.G E12 Kb;have hG:=Yj hG E12;have:=E12.Z;refine Wnt<|Wha [4]<|Wh1 Z<|Vv Z (Xd (a:=.agg _) (b:=.agg _) Zc Z Z) (kS _ _ _ _ Kk (hX)) ?_;rintro _ w11 ⟨u3,q2,rfl,E13,J1,Y3,N2,gwu3⟩
    have Z1:=Z1.J E13;have hG:=Yk hG E13;refine Wnt<|Te 5 Z Z trivial<|Tf 6 Z Z trivial<|WtxB 7 Z Z trivial<|Wha [9]<|Wh1 Z<|Uz Jj (B3.J E13) Z (D1.trans E13) ?_;rintro w12 E14 B3 K3 Q3;have B1:=(B1.J E13).Y (K3 _ Kh);have B2:=(B2.J E13).Y (K3 _ Kh);have hX:=(hX.J E13).W K3 Kh;have J1:=J1.W K3 Kh;have Z1:=Z1.W E14 (K3 _ Kh) Q3;have hG:=Xb hG (D1.trans E13) E14 K3 Q3 Kd;refine Wnt<|WtaB 10 Z Z trivial<|Yr Ki ?_;rotate_left;refine Wh1 Z<|Vv Z (Xd (a:=.pointer _) (b:=.agg _) Zq Z Z) (kD _ _ Kk Kh (hX.J exq) Kh) ?_;rintro _ w10 ⟨k2,t1,n1,rfl,E12,Z1,L4⟩;(try dsimp only at L4)
    have D1:=Z1.old;have B1:=(B1.J (E10.K E11)).G E12 Kb;have B2:=(B2.J (E10.K E11)).G E12 Kb;have hX:=(hX.J (E10.K E11)).G E12 Kh;have B3:=B3.G E12 Kb;have hG:=Yj hG E12;have:=E12.Z;refine Wnt<|Wha [0]<|Wh1 Z<|Uk Jq Jj B2 Z<|Wnt<|Wha [4]<|Wh1 Z<|Vv Z (Xd (a:=.agg _) (b:=.agg _) Zc Z Z) (kS _ _ _ _ Kk (hX)) ?_;rintro _ w11 ⟨u3,q2,rfl,E13,J1,Y3,N2,gwu3⟩;have Z1:=Z1.J E13;have hG:=Yk hG E13;refine Wnt<|Te 5 Z Z trivial<|Tf 6 Z Z trivial<|WtxB 7 Z Z trivial<|Wha [9]<|Wh1 Z<|Uz Jj (B3.J E13) Z (D1.trans E13) ?_
    rintro w12 E14 B3 K3 Q3;have B1:=(B1.J E13).Y (K3 _ Kh);have B2:=(B2.J E13).Y (K3 _ Kh);have hX:=(hX.J E13).W K3 Kh;have J1:=J1.W K3 Kh;have Z1:=Z1.W E14 (K3 _ Kh) Q3;have hG:=Xb hG (D1.trans E13) E14 K3 Q3 Kd;refine Wnt<|WtaB 10 Z Z trivial<|Yr Ki ?_;rotate_left;refine Wh1 Z<|Xi Z Xz ?_;rintro b3 w9 R3 E11 B3;have:=B3.lt;have hG:=Yk hG E11;have hr:=hr.J E11;refine Wnt<|Wha [0,2]<|Yi Z ?_ ?_
    refine Uk Jq Jj (B2.J exq) Z<|Wnt<|Wha [2]<|Wh1 Z<|Uk Jq Jj (B2.J exq) Z<|Wnt<|Wha [3]<|Wh1 Z<|Vv Z (Xd (a:=.pointer _) (b:=.agg _) Zq Z Z) (kD _ _ Kk Kh (hX.J exq) Kh) ?_;rintro _ w10 ⟨k2,t1,n1,rfl,E12,Z1,L4⟩;(try dsimp only at L4);have D1:=Z1.old;have B1:=(B1.J (E10.K E11)).G E12 Kb;have B2:=(B2.J (E10.K E11)).G E12 Kb;have hX:=(hX.J (E10.K E11)).G E12 Kh;have B3:=B3.G E12 Kb;have hG:=Yj hG E12;have:=E12.Z
    refine Wnt<|Wha [4]<|Wh1 Z<|Vv Z (Xd (a:=.agg _) (b:=.agg _) Zc Z Z) (kS _ _ _ _ Kk (hX)) ?_;rintro _ w11 ⟨u3,q2,rfl,E13,J1,Y3,N2,gwu3⟩;have Z1:=Z1.J E13;have hG:=Yk hG E13;refine Wnt<|Te 5 Z Z trivial<|Tf 6 Z Z trivial<|WtxB 7 Z Z trivial<|Wha [9]<|Wh1 Z<|Uz Jj (B3.J E13) Z (D1.trans E13) ?_;rintro w12 E14 B3 K3 Q3;have B1:=(B1.J E13).Y (K3 _ Kh);have B2:=(B2.J E13).Y (K3 _ Kh);have hX:=(hX.J E13).W K3 Kh;have J1:=J1.W K3 Kh;have Z1:=Z1.W E14 (K3 _ Kh) Q3;have hG:=Xb hG (D1.trans E13) E14 K3 Q3 Kd;refine Wnt<|WtaB 10 Z Z trivial<|Yr Ki ?_;rotate_left
    refine Wh1 Z<|Uk Jq Jj (B2.J exq) Z<|Wnt<|Wha [0,3]<|Yi Z ?_ ?_;refine Uk Jq Jj (B2.J exq) Z<|Wnt<|Wha [3]<|Wh1 Z<|Vv Z (Xd (a:=.pointer _) (b:=.agg _) Zq Z Z) (kD _ _ Kk Kh (hX.J exq) Kh) ?_;rintro _ w10 ⟨k2,t1,n1,rfl,E12,Z1,L4⟩;(try dsimp only at L4);have D1:=Z1.old;have B1:=(B1.J (E10.K E11)).G E12 Kb;have B2:=(B2.J (E10.K E11)).G E12 Kb;have hX:=(hX.J (E10.K E11)).G E12 Kh;have B3:=B3.G E12 Kb;have hG:=Yj hG E12;have:=E12.Z
    refine Wnt<|Wha [4]<|Wh1 Z<|Vv Z (Xd (a:=.agg _) (b:=.agg _) Zc Z Z) (kS _ _ _ _ Kk (hX)) ?_;rintro _ w11 ⟨u3,q2,rfl,E13,J1,Y3,N2,gwu3⟩;have Z1:=Z1.J E13;have hG:=Yk hG E13;refine Wnt<|Te 5 Z Z trivial<|Tf 6 Z Z trivial<|WtxB 7 Z Z trivial<|Wha [9]<|Wh1 Z<|Uz Jj (B3.J E13) Z (D1.trans E13) ?_;rintro w12 E14 B3 K3 Q3;have B1:=(B1.J E13).Y (K3 _ Kh);have B2:=(B2.J E13).Y (K3 _ Kh);have hX:=(hX.J E13).W K3 Kh;have J1:=J1.W K3 Kh;have Z1:=Z1.W E14 (K3 _ Kh) Q3;have hG:=Xb hG (D1.trans E13) E14 K3 Q3 Kd;refine Wnt<|WtaB 10 Z Z trivial<|Yr Ki ?_;rotate_left
    refine Wh1 Z<|Vv Z (Xd (a:=.pointer _) (b:=.agg _) Zq Z Z) (kD _ _ Kk Kh (hX.J exq) Kh) ?_;rintro _ w10 ⟨k2,t1,n1,rfl,E12,Z1,L4⟩;(try dsimp only at L4);have D1:=Z1.old;have B1:=(B1.J (E10.K E11)).G E12 Kb;have B2:=(B2.J (E10.K E11)).G E12 Kb;have hX:=(hX.J (E10.K E11)).G E12 Kh;have B3:=B3.G E12 Kb;have hG:=Yj hG E12;have:=E12.Z;refine Wnt<|Wha [0]<|Wh1 Z<|Uk Jq Jj B2 Z<|Wnt<|Wha [4]<|Wh1 Z<|Vv Z (Xd (a:=.agg _) (b:=.agg _) Zc Z Z) (kS _ _ _ _ Kk (hX)) ?_;rintro _ w11 ⟨u3,q2,rfl,E13,J1,Y3,N2,gwu3⟩
    have Z1:=Z1.J E13;have hG:=Yk hG E13;refine Wnt<|Te 5 Z Z trivial<|Tf 6 Z Z trivial<|WtxB 7 Z Z trivial<|Wha [9]<|Wh1 Z<|Uz Jj (B3.J E13) Z (D1.trans E13) ?_;rintro w12 E14 B3 K3 Q3;have B1:=(B1.J E13).Y (K3 _ Kh);have B2:=(B2.J E13).Y (K3 _ Kh);have hX:=(hX.J E13).W K3 Kh;have J1:=J1.W K3 Kh;have Z1:=Z1.W E14 (K3 _ Kh) Q3;have hG:=Xb hG (D1.trans E13) E14 K3 Q3 Kd;refine Wnt<|WtaB 10 Z Z trivial<|Yr Ki ?_;rotate_left
   all_goals exact ⟨(b3,u3,q2,⟨if DkOk d then (doV d ⟨k2,t1,n1⟩).1.now else [],if DkOk d then (doV d ⟨k2,t1,n1⟩).1.past else []⟩,_,_,_),⟨rfl,rfl,trivial⟩,Ko,hG,Z1,Kh,B1,B2,B3,Kh,Kh,hX,Kh,Kh,Kh,Kh,J1.ximp (fun h=>⟨h,Kh⟩),Y3,N2,hd.do _,Jd (DIn.len _) Kh⟩
  clear hr hG hX B1 B2 kD kS
  rintro ⟨b9,x1',x2',d',lo',hi',ok⟩ ρ8 w8 ⟨hG,hr,P8,B1,B2,B9,hlw8,hhw8,hX,hbl',hlw',hhw',hb2',hX',ic1',ic2',hd',hdl'⟩
  have E8':=hr.old
  cases ok
  ·focus
    refine Vw<|Xu Z<|Vt<|Yb Z ?_;refine Ya<|Ys<|Yd Z<|Sg Z<|Xc Z<|Vt ?_
   refine ⟨(k - 1,v1,v2,d,lo,hi),⟨congrArg (Value.int .i64) (show (k:Int) - 1=((k - 1:Nat):Int) by omega),trivial⟩,Ko,?_,Kq⟩
   exact ⟨hG,by first | exact Z1.le Kh | exact hr.le Kh,Kh,Kh,B1,B2,hbl,Kh,Kh,R2,hX,ic1,ic2,hd,by first | omega | (simp only;omega)⟩
  ·have hX':=hX'.xthen rfl
   focus
    refine Vw<|Xu Z<|Vt<|Xj Z ?_;refine Ys<|Uk Jq Jj B9 Z<|Uz Jj B2 Z E8' ?_;rintro w9 E10 B2 K2 Q2;have hG:=Xb hG E8' E10 K2 Q2 Kd;have hr:=hr.W E10 (K2 _ Kh) Q2;have B1:=B1.Y (K2 _ Kh);have hX':=hX'.W K2 Kh;refine Vt<|Ys<|Yd Z<|Sg Z<|Xc Z<|Vt ?_
   refine ⟨(k - 1,x1',x2',d',lo',hi'),⟨congrArg (Value.int .i64) (show (k:Int) - 1=((k - 1:Nat):Int) by omega),trivial⟩,Ko,?_,Kq⟩
   exact ⟨hG,by first | exact Z1.le Kh | exact hr.le Kh,Kh,Kh,B1,B2,hbl',Kh,Kh,.inr hb2',hX',ic1',ic2',hd',by first | omega | (simp only;omega)⟩
 ·obtain rfl:k=0:=by omega
  have stop10:True:=trivial
  focus
   refine Vx<|Vw<|Yd Z<|Qg Z<|Vt<|Yy Z fun h1=>?_;refine Xp ?_;refine Yp ?_;refine Vx<|Vw<|Qa Z<|Yd Z<|Vv Z (Xd (a:=.pointer _) (b:=.int _ _) Tryz.call76 Z Z) (odd_ok _ _ Kk Kh Kh) ?_;rintro _ w8 ⟨y3,rfl,E10,Z1,L4⟩;(try dsimp only at L4);have D1:=Z1.old;have hG:=Yj hG E10;have B1:=B1.G E10 Kb;have B2:=B2.G E10 Kb;have hX:=hX.G E10 Kh;have:=E10.Z;refine Vt<|Ut Z (fun h2=>?_) (fun h2=>?_);refine Vx ?_;rotate_left;refine Ya<|Vw<|Uk Jq Jj B2 Z<|Uz Jj B1 Z D1 ?_;rintro w9 E11 B1 K2 Q2;have Z1:=Z1.W E11 (K2 _ Kh) Q2
   have hG:=Xb hG D1 E11 K2 Q2 Kd;have hX:=hX.W K2 Kh;refine Vt<|Yc ?_;rotate_left
  ·clear stop10
   have stop13:True:=trivial
   have stop15:True:=trivial
   focus
    refine Ys<|Qa Z<|Vv Z (Xd (a:=.pointer _) (b:=.int _ _) Jy Z Z) (Xv _ _ Kk Kh) ?_;rintro _ w9 ⟨y4,rfl,E11,Z4,L5⟩;(try dsimp only at L5);have D4:=Z4.old;have hG:=Yj hG E11;have B1:=B1.G E11 Kb;have B2:=B2.G E11 Kb;have hX:=hX.G E11 Kh;have P8:=E11.Z;refine Vt<|Ye<|Vw<|Yt Z<|Yf Z<|Vt<|Vy Z (fun h3=>?_) (fun h3=>?_);rotate_left;refine Vw<|Yt Z<|Yf Z<|Vt<|Vy Z (fun h4=>?_) (fun h4=>?_);rotate_left;refine Vw<|Wo Z (Yz (ps:=[]) (cs:=[_,_]) Xz Z Z)<|Uz Jj B1 Z D4 ?_;rintro w10 E12 B1 K2 Q2;have Z4:=Z4.W E12 (K2 _ Kh) Q2
    have hG:=Xb hG D4 E12 K2 Q2 Kd;refine Vt<|Yc ?_;rotate_left
   ·clear stop13 stop15
    focus
     refine Ys<|Xm (ps:=[(0,.int _ _),(1,.int _ _)]) (cs:=[_,_]) Z Jl Ji Gf Z Z Z Z ?_;rintro b3 w10 R3 E12 B3 T3;have:=B3.lt;have hLb3:=own_lit2 T3 R3;clear T3;have Z4:=Z4.J E12;have hG:=Yk hG E12;refine Xm (ps:=[(0,.int _ _),(1,.int _ _)]) (cs:=[_,_]) Z Jl Ji Gf Z Z Z Z ?_;rintro b4 w11 R4 E13 B4 T4;have:=B4.lt;have hLb4:=own_lit2 T4 R4;clear T4;have Z4:=Z4.J E13;have hG:=Yk hG E13;refine Xm (ps:=[(0,.slice _ _ _),(1,.slice _ _ _)]) (cs:=[_,_]) Z Jm Jw Gs Z Z Z Z ?_;rintro b5 w12 R5 E14 B5 T5;have:=B5.lt;have Z4:=Z4.J E14;have hG:=Yk hG E14
     refine Yq Jv Jx Z<|Us (v:=.slice _ _ _) Z Jx Z Z Z (B2.J ((E12.K E13).K E14)) Kp Kh (((D4.trans E12).K E13).K E14) ?_;rintro w13 E15 B2 K2 Q2;simp only [List.set] at B2;have B1:=(B1.J exq).Y (K2 _ Kh);have hX:=(hX.J exq).W K2 Kh;have hLb3:=(hLb3.toB.J exq).W K2 Kh;have hLb4:=(hLb4.toB.J E14).W K2 Kh;have B5:=B5.Y (K2 _ Kh);have Z4:=Z4.W E15 (K2 _ Kh) Q2;have hG:=Xb hG (((D4.trans E12).K E13).K E14) E15 K2 Q2 Kd;refine Vt<|Vw<|Uk Jq Jj B2 Z<|Uz Jj B1 Z E15 ?_;rintro w14 E16 B1 K3 Q3;have hX:=hX.W K3 Kh;have hLb3:=hLb3.W K3 Kh
     have hLb4:=hLb4.W K3 Kh;have B5:=B5.Y (K3 _ Kh);have Z4:=Z4.W E16 (K3 _ Kh) Q3;have hG:=Xb hG E15 E16 K3 Q3 Kd;refine Vt<|Yc ?_
    have hA:Above w.heap.size (ESl Ints) w14 (.slice (some ⟨b5,0,none⟩) 2 2) [[0,0],[0,0]]:=fun w1' hk hsz=>(B5.keep hk Kh).slice (xs:=[[0,0],[0,0]]) rfl Kj (fun i g1 g2=>match i,g1,g2 with
     | 0,_,_=>(hLb3.above.mono (lo':=w.heap.size) Kh) w1' hk hsz
     | 1,_,_=>(hLb4.above.mono (lo':=w.heap.size) Kh) w1' hk hsz
     | (i+2),g1,_=>absurd g1 Kp)
    exact ⟨b1,_,v2,rfl,B1,_,v2,[[0,0],[0,0]],d.past,rfl,hG,Z4.le Kh,hA,hX.dkPast.rd_above.mono Kh,rfl,ic2,Kh,.inr gr00⟩
   ·clear stop13 stop15
    focus
     refine Ys<|Yq Jv Ga Z<|Uc v2 Gd B2 Z<|Uq (XSl 3 XInt) Z Sl Jw ?_;rintro b3 w10 R3 b3lt E12 O3;have Z4:=Z4.J E12;have hG:=Yk hG E12;refine Xf (ps:=[(0,.slice _ _ _)]) (cs:=[_]) Z Gc Jx Ze Z Z Z Z ?_;rintro b4 w11 R4 E13 B3;have:=B3.lt;have Z4:=Z4.J E13;have hG:=Yk hG E13
    refine Wo_appDk Z el24 Z Z B3 (hX.J (E12.K E13)) ((O3.J E13).O) Kh Kh ?_
    rintro q v9 w12 hq1 hq2 hg ⟨fp,hfp,J9⟩
    have icv9:isCell v9=true:=Go.Hs.Loc.cell J9
    have Z5:=Z4.beside hg Kh Kh
    have hG:=grownBy_beside hG hg Kh
    have B1:=(B1.J (E12.K E13)).G hg Kb
    have B2:=(B2.J (E12.K E13)).G hg Kb
    have hsg:=hg.size
    have hE12:=Z5.old
    clear hX Z4 B3 O3
    focus
     refine Yq Jv Ga Z<|Us (v:=v9) Z Ga Z Z Kk B2 (by first | decide | simp) Kh hE12 ?_;rintro w13 E14 B2 K2 Q2;simp only [List.set] at B2;have Z5:=Z5.W E14 (K2 _ Kh) Q2;have hG:=Xb hG hE12 E14 K2 Q2 Kd;have B1:=B1.Y (K2 _ Kh);refine Vt<|Vw<|Uk Jq Jj B2 Z<|Uz Jj B1 Z E14 ?_;rintro w14 E15 B1 K3 Q3;have Z5:=Z5.W E15 (K3 _ Kh) Q3;have hG:=Xb hG E14 E15 K3 Q3 Kd;refine Vt<|Yc ?_
    have J9:XDk 23 w14 fp v9 (v1,d.now,d.past++[[]]):=Go.Hs.Loc.loc (fun k hk=>by have:=hfp k hk;exact (K3 k Kh).trans (K2 k Kh)) J9
    have hXo:=J9.own (lo:=w.heap.size) (fun k hk=>by have:=hfp k hk;omega)
    exact ⟨b1,v1,v9,rfl,B1,v1,v9,d.now,d.past++[[]],rfl,hG,Z5.le Kh,hXo.dkNow.rd_above,hXo.dkPast.rd_above,ic1,icv9,Kh,hd.now⟩
   ·exact ⟨b1,_,_,rfl,B1,_,_,[],[],rfl,hG,Z4.le Kh,(Owned.nil (e:=0) (X:=XSl 0 XInt)).above,(Owned.nil (e:=0) (X:=XSl 0 (XSl 0 XInt))).above,rfl,rfl,Kh,.inl rfl⟩
  ·exact ⟨b1,v1,v2,rfl,B1,v1,v2,_,_,rfl,hG,by first | exact Z1.le Kh | exact hr.le Kh,hX.dkNow.rd_above.mono Kh,hX.dkPast.rd_above.mono Kh,ic1,ic2,Kh,hd.now⟩
end Go.Proofs.YtbgpppaljpngmaaGreatDoor
