/- Lemmas for FnDeskLine. -/
import Derived.Test.YtbgpppaljpngmaaGreatDoorMFnDeskLine9
import Derived.LaidSub
namespace Go.Proofs.YtbgpppaljpngmaaGreatDoor
open Go.Hs
set_option maxRecDepth 10000
set_option maxHeartbeats 4000000
set_option linter.unusedVariables false
set_option linter.unusedSimpArgs false
theorem Line_ok {w0:World} (w:World) {br m lo:Nat} (u1 u2:Value) (p:List (List Int)) (hr:Rdr w0 w br m) (hm:m≤1000000) (hA:Above lo (ESl Ints) w u1 p) (hlo:br < lo) (hlo2:lo < w.heap.size) (i2:isCell u2=true) (hp:NowP p) :
  Dz 57 [.pointer (some ⟨br,0,none⟩),.agg #[u1,u2]] w (RetDSt w0 w br (m+100) (fun s=>s.length≤1000)):=by
 have i1:isCell u1=true:=Qy hA.here
 refine Yr Tryz.func57 Z Tryz.results57 Tryz.ntmps57 Z ?_
 have hG:w.grownBy w (some br):=Ru _ _
 have hlr:=hr.lt
 have kD:=fun (w:World) (m':Nat) (hr:Rdr w0 w br m') (hm:m'≤10000000) (hA:Above lo (ESl Ints) w u1 p) (hl:lo < w.heap.size)=>Deed_ok w u1 u2 p hr hm hA hlo hl i2 hp
 have kT:=fun (w:World) (k n:Int) (t:List UInt8) (h:DrP ⟨k,t,n⟩)=>Lb w k n t (by have:=h.2.2.1;simp only at this;omega)
 focus
  refine Vr<|Xu Z Z Z ?_;rintro b1 w1 H1 E1 B1;have:=B1.lt;have hr:=hr.J E1;have hG:=Yf hG E1;refine Xr Z<|Vp<|Vt<|Vr<|Uv Z<|Vs Z (Xa (a:=.pointer _) (b:=.int _ _) Jy Z Z) (Xs _ _ Kk Kh) ?_;rintro _ w2 ⟨y1,rfl,E2,Q1,L1⟩;(try dsimp only at L1);have:=Q1.lt;have hA:=(hA.J E1).G E2 Kh;have B1:=B1.G E2 Kb;have hG:=Ye hG E2;have P2:=E2.Z;refine Vp<|Yb<|Vt<|Vr<|Yo Z<|Ya Z<|Vp<|Vu Z (fun h1=>?_) (fun h1=>?_);refine Vw<|Vu Z (fun h2=>?_) (fun h2=>?_)
  refine Vr<|Xc (ps:=[(0,.string _),(1,.string _),(2,.string _),(3,.string _),(4,.string _),(5,.string _)]) (cs:=[_,_,_,_,_,_]) Z Jv Jo Ge Z Z Z Z ?_;rintro b2 w3 H2 E3 B2;have Q1:=Q1.J E3;have hG:=Yf hG E3;refine Uv Z<|Vs Z (Xa (a:=.pointer _) (b:=.int _ _) Jy Z Z) (Xs _ _ Kk Kh) ?_;rintro _ w4 ⟨y2,rfl,E4,Q2,L2⟩;(try dsimp only at L2);have B2:=B2.G E4 Kb;have hG:=Ye hG E4;refine Wo Z (Yk Jv Jo Z Z Kh) ?_;refine Ub 1 Jp Z Z B2 Ka Kc ?_;intro s1 P1
  refine Xr Z<|Vp<|Vy ?_;refine Yh (v:=.string _) Z ?_;rotate_left;exact Ks;refine Ym<|Yo Z<|Ya Z<|Vp<|Vu Z (fun h2=>?_) (fun h2=>?_);refine Vr<|Xc (ps:=[(0,.string _),(1,.string _),(2,.string _),(3,.string _),(4,.string _),(5,.string _)]) (cs:=[_,_,_,_,_,_]) Z Jv Jo Ge Z Z Z Z ?_;rintro b2 w3 H2 E3 B2;have Q1:=Q1.J E3;have hG:=Yf hG E3;refine Uv Z<|Vs Z (Xa (a:=.pointer _) (b:=.int _ _) Jy Z Z) (Xs _ _ Kk Kh) ?_;rintro _ w4 ⟨y2,rfl,E4,Q2,L2⟩;(try dsimp only at L2);have B2:=B2.G E4 Kb;have hG:=Ye hG E4;refine Wo Z (Yk Jv Jo Z Z Kh) ?_
  refine Ub 1 Jp Z Z B2 Ka Kc ?_;intro s1 P1;refine Xr Z<|Vp<|Vy ?_;refine Yh (v:=.string _) Z ?_;rotate_left;refine Vr<|Yo Z<|Ya Z<|Vp<|Vu Z (fun h3=>?_) (fun h3=>?_);refine Vr<|Xc (ps:=[(0,.string _),(1,.string _),(2,.string _),(3,.string _),(4,.string _),(5,.string _),(6,.string _),(7,.string _),(8,.string _),(9,.string _),(10,.string _),(11,.string _)]) (cs:=[_,_,_,_,_,_,_,_,_,_,_,_]) Z Jv Jo Ge Z Z Z Z ?_;rintro b2 w3 H2 E3 B2;have Q1:=Q1.J E3;have hG:=Yf hG E3
  refine Uv Z<|Vs Z (Xa (a:=.pointer _) (b:=.int _ _) Jy Z Z) (Xs _ _ Kk Kh) ?_;rintro _ w4 ⟨y2,rfl,E4,Q2,L2⟩;(try dsimp only at L2);have B2:=B2.G E4 Kb;have hG:=Ye hG E4;refine Wo Z (Yk Jv Jo Z Z Kh) ?_;refine Ub 0 Jp Z Z B2 Ka Kc ?_;intro s1 P1;refine Xr Z<|Vp<|Vy ?_;refine Yh (v:=.string _) Z ?_;rotate_left;refine Vr<|Yo Z<|Ya Z<|Vp<|Vu Z (fun h4=>?_) (fun h4=>?_)
  refine Vr<|Uv Z<|Vs Z (Xa (a:=.pointer _) (b:=.int _ _) Tryz.call107 Z Z) (formed_ok _ _ Kk Kh Kh) ?_;rintro _ w3 ⟨y2,rfl,E3,Q2,L2⟩;(try dsimp only at L2);have hG:=Ye hG E3;refine Wo Z (Yz Z Z Kf) ?_;refine Xr Z<|Vp<|Vy ?_;refine Yh (v:=.string _) Z ?_;rotate_left;refine Vt<|Ym<|Yo Z<|Ya Z<|Vp<|Vu Z (fun h5=>?_) (fun h5=>?_);refine Vt<|Rm (fun _=>True) mixed Z Ki ?_;intro w3 E3 K1 Z1;have Q1:=Q1.J E3;have hG:=Yf hG E3;refine WtmP 1 Z Z trivial<|WtmP 6 Z Z trivial<|Wha [0,2,5]<|Yg Z ?_ ?_;refine Xc (ps:=[(0,.string _),(1,.string _)]) (cs:=[_,_]) Z Jv Jo Ge Z Z Z Z ?_
  rintro b2 w4 H2 E4 B2;have:=B2.lt;have Q1:=Q1.J E4;have hG:=Yf hG E4;refine Wnt<|Wha [2,5]<|Yg Z ?_ ?_;refine Vs Z (Xa (a:=.pointer _) (b:=.int _ _) Jy Z Z) (Xs _ _ Kk Kh) ?_;rintro _ w5 ⟨y2,rfl,E5,Q2,L2⟩;(try dsimp only at L2);have:=Q2.lt;have B2:=B2.G E5 Kb;have hG:=Ye hG E5;refine Wnt<|Yc 3 Z Ki Ki Z (fun _ _=>Yk Jv Jo Z Z Kh) trivial ?_;refine Wha [4,5,7]<|Yg Z ?_ ?_;refine Ub 1 Jp Z Z B2 Ka Kc ?_;intro s1 P1;refine Wnt<|Wha [5,7]<|Yg Z ?_ ?_
  refine Xc (ps:=[(0,.string _),(1,.string _),(2,.string _),(3,.string _),(4,.string _)]) (cs:=[_,_,_,_,_]) Z Jv Jo Ge Z Z Z Z ?_;rintro b3 w6 H3 E6 B3;have Q2:=Q2.J E6;have hG:=Yf hG E6;refine Wnt<|Wha [7]<|Wh1 Z<|Vs Z (Xa (a:=.pointer _) (b:=.int _ _) Jy Z Z) (Xs _ _ Kk Kh) ?_;rintro _ w7 ⟨y3,rfl,E7,Q3,L3⟩;(try dsimp only at L3);have B3:=B3.G E7 Kb;have hG:=Ye hG E7;refine Wnt<|Yc 8 Z Ki Ki Z (fun _ _=>Yk Jv Jo Z Z Kh) trivial ?_
  refine Wha [9]<|Wh1 Z<|Ub 0 Jp Z Z B3 Ka Kc ?_;intro s2 P2;refine Wnt<|Yc 10 Z Ki Ki Z (fun _ _=>Yz Z Z Kh) trivial ?_;refine Us 11 Z Z trivial<|Yp Ki ?_;refine Vy ?_;refine Yh (v:=.string _) Z ?_;rotate_left;refine Wh1 Z<|Vs Z (Xa (a:=.pointer _) (b:=.int _ _) Jy Z Z) (Xs _ _ Kk Kh) ?_;rintro _ w6 ⟨y3,rfl,E6,Q3,L3⟩;(try dsimp only at L3);have hG:=Ye hG E6
  refine Wnt<|Wha [5]<|Wh1 Z<|Xc (ps:=[(0,.string _),(1,.string _),(2,.string _),(3,.string _),(4,.string _)]) (cs:=[_,_,_,_,_]) Z Jv Jo Ge Z Z Z Z ?_;rintro b3 w7 H3 E7 B3;have Q3:=Q3.J E7;have hG:=Yf hG E7;refine Wnt<|Yc 8 Z Ki Ki Z (fun _ _=>Yk Jv Jo Z Z Kh) trivial ?_;refine Wha [9]<|Wh1 Z<|Ub 0 Jp Z Z B3 Ka Kc ?_;intro s2 P2;refine Wnt<|Yc 10 Z Ki Ki Z (fun _ _=>Yz Z Z Kh) trivial ?_;refine Us 11 Z Z trivial<|Yp Ki ?_;refine Vy ?_
  refine Yh (v:=.string _) Z ?_;rotate_left;refine Yg Z ?_ ?_;refine Xc (ps:=[(0,.string _),(1,.string _),(2,.string _),(3,.string _),(4,.string _)]) (cs:=[_,_,_,_,_]) Z Jv Jo Ge Z Z Z Z ?_;rintro b3 w6 H3 E6 B3;have Q2:=Q2.J E6;have hG:=Yf hG E6;refine Wnt<|Wha [4,7]<|Yg Z ?_ ?_;refine Ub 1 Jp Z Z (B2.J E6) Ka Kc ?_;intro s1 P1;refine Wnt<|Wha [7]<|Wh1 Z<|Vs Z (Xa (a:=.pointer _) (b:=.int _ _) Jy Z Z) (Xs _ _ Kk Kh) ?_;rintro _ w7 ⟨y3,rfl,E7,Q3,L3⟩;(try dsimp only at L3)
  have B3:=B3.G E7 Kb;have hG:=Ye hG E7;refine Wnt<|Yc 8 Z Ki Ki Z (fun _ _=>Yk Jv Jo Z Z Kh) trivial ?_;refine Wha [9]<|Wh1 Z<|Ub 0 Jp Z Z B3 Ka Kc ?_;intro s2 P2;refine Wnt<|Yc 10 Z Ki Ki Z (fun _ _=>Yz Z Z Kh) trivial ?_;refine Us 11 Z Z trivial<|Yp Ki ?_;refine Vy ?_;refine Yh (v:=.string _) Z ?_;rotate_left;refine Wh1 Z<|Vs Z (Xa (a:=.pointer _) (b:=.int _ _) Jy Z Z) (Xs _ _ Kk Kh) ?_;rintro _ w7 ⟨y3,rfl,E7,Q3,L3⟩
  (try dsimp only at L3);have B2:=(B2.J E6).G E7 Kb;have B3:=B3.G E7 Kb;have hG:=Ye hG E7;refine Wnt<|Yc 8 Z Ki Ki Z (fun _ _=>Yk Jv Jo Z Z Kh) trivial ?_;refine Wha [4,9]<|Yg Z ?_ ?_;refine Ub 1 Jp Z Z B2 Ka Kc ?_;intro s1 P1;refine Wnt<|Wha [9]<|Wh1 Z<|Ub 0 Jp Z Z B3 Ka Kc ?_;intro s2 P2
  refine Wnt<|Yc 10 Z Ki Ki Z (fun _ _=>Yz Z Z Kh) trivial ?_;refine Us 11 Z Z trivial<|Yp Ki ?_;refine Vy ?_;refine Yh (v:=.string _) Z ?_;rotate_left;refine Wh1 Z<|Ub 0 Jp Z Z B3 Ka Kc ?_;intro s1 P1;refine Wnt<|Wha [4]<|Wh1 Z<|Ub 1 Jp Z Z B2 Ka Kc ?_;intro s2 P2;refine Wnt<|Yc 10 Z Ki Ki Z (fun _ _=>Yz Z Z Kh) trivial ?_;refine Us 11 Z Z trivial<|Yp Ki ?_;refine Vy ?_
  refine Yh (v:=.string _) Z ?_;rotate_left;refine Wh1 Z<|Vs Z (Xa (a:=.pointer _) (b:=.int _ _) Jy Z Z) (Xs _ _ Kk Kh) ?_;rintro _ w6 ⟨y3,rfl,E6,Q3,L3⟩;(try dsimp only at L3);have B2:=B2.G E6 Kb;have hG:=Ye hG E6;refine Wnt<|Wha [4,5]<|Yg Z ?_ ?_;refine Ub 1 Jp Z Z B2 Ka Kc ?_;intro s1 P1;refine Wnt<|Wha [5]<|Wh1 Z<|Xc (ps:=[(0,.string _),(1,.string _),(2,.string _),(3,.string _),(4,.string _)]) (cs:=[_,_,_,_,_]) Z Jv Jo Ge Z Z Z Z ?_;rintro b3 w7 H3 E7 B3;have Q3:=Q3.J E7
  have hG:=Yf hG E7;refine Wnt<|Yc 8 Z Ki Ki Z (fun _ _=>Yk Jv Jo Z Z Kh) trivial ?_;refine Wha [9]<|Wh1 Z<|Ub 0 Jp Z Z B3 Ka Kc ?_;intro s2 P2;refine Wnt<|Yc 10 Z Ki Ki Z (fun _ _=>Yz Z Z Kh) trivial ?_;refine Us 11 Z Z trivial<|Yp Ki ?_;refine Vy ?_;refine Yh (v:=.string _) Z ?_;rotate_left;refine Wh1 Z<|Xc (ps:=[(0,.string _),(1,.string _),(2,.string _),(3,.string _),(4,.string _)]) (cs:=[_,_,_,_,_]) Z Jv Jo Ge Z Z Z Z ?_;rintro b3 w7 H3 E7 B3
  have Q3:=Q3.J E7;have hG:=Yf hG E7;refine Wnt<|Yc 8 Z Ki Ki Z (fun _ _=>Yk Jv Jo Z Z Kh) trivial ?_;refine Wha [4,9]<|Yg Z ?_ ?_;refine Ub 1 Jp Z Z (B2.J E7) Ka Kc ?_;intro s1 P1;refine Wnt<|Wha [9]<|Wh1 Z<|Ub 0 Jp Z Z B3 Ka Kc ?_;intro s2 P2;refine Wnt<|Yc 10 Z Ki Ki Z (fun _ _=>Yz Z Z Kh) trivial ?_;refine Us 11 Z Z trivial<|Yp Ki ?_;refine Vy ?_
  refine Yh (v:=.string _) Z ?_;rotate_left;refine Wh1 Z<|Ub 0 Jp Z Z B3 Ka Kc ?_;intro s1 P1;refine Wnt<|Wha [4]<|Wh1 Z<|Ub 1 Jp Z Z (B2.J E7) Ka Kc ?_;intro s2 P2;refine Wnt<|Yc 10 Z Ki Ki Z (fun _ _=>Yz Z Z Kh) trivial ?_;refine Us 11 Z Z trivial<|Yp Ki ?_;refine Vy ?_;refine Yh (v:=.string _) Z ?_;rotate_left
  refine Wh1 Z<|Xc (ps:=[(0,.string _),(1,.string _),(2,.string _),(3,.string _),(4,.string _)]) (cs:=[_,_,_,_,_]) Z Jv Jo Ge Z Z Z Z ?_;rintro b3 w5 H3 E5 B3;have Q1:=Q1.J E5;have hG:=Yf hG E5;refine Wnt<|Wha [2]<|Wh1 Z<|Vs Z (Xa (a:=.pointer _) (b:=.int _ _) Jy Z Z) (Xs _ _ Kk Kh) ?_;rintro _ w6 ⟨y2,rfl,E6,Q2,L2⟩;(try dsimp only at L2);have B2:=(B2.J E5).G E6 Kb;have B3:=B3.G E6 Kb;have hG:=Ye hG E6;refine Wnt<|Yc 3 Z Ki Ki Z (fun _ _=>Yk Jv Jo Z Z Kh) trivial ?_;refine Wha [4,7]<|Yg Z ?_ ?_
  refine Ub 1 Jp Z Z B2 Ka Kc ?_;intro s1 P1;refine Wnt<|Wha [7]<|Wh1 Z<|Vs Z (Xa (a:=.pointer _) (b:=.int _ _) Jy Z Z) (Xs _ _ Kk Kh) ?_;rintro _ w7 ⟨y3,rfl,E7,Q3,L3⟩;(try dsimp only at L3);have B3:=B3.G E7 Kb;have hG:=Ye hG E7;refine Wnt<|Yc 8 Z Ki Ki Z (fun _ _=>Yk Jv Jo Z Z Kh) trivial ?_;refine Wha [9]<|Wh1 Z<|Ub 0 Jp Z Z B3 Ka Kc ?_;intro s2 P2
  refine Wnt<|Yc 10 Z Ki Ki Z (fun _ _=>Yz Z Z Kh) trivial ?_;refine Us 11 Z Z trivial<|Yp Ki ?_;refine Vy ?_;refine Yh (v:=.string _) Z ?_;rotate_left;refine Wh1 Z<|Vs Z (Xa (a:=.pointer _) (b:=.int _ _) Jy Z Z) (Xs _ _ Kk Kh) ?_;rintro _ w7 ⟨y3,rfl,E7,Q3,L3⟩;(try dsimp only at L3);have B2:=B2.G E7 Kb;have B3:=B3.G E7 Kb;have hG:=Ye hG E7;refine Wnt<|Yc 8 Z Ki Ki Z (fun _ _=>Yk Jv Jo Z Z Kh) trivial ?_;refine Wha [4,9]<|Yg Z ?_ ?_
  refine Ub 1 Jp Z Z B2 Ka Kc ?_;intro s1 P1;refine Wnt<|Wha [9]<|Wh1 Z<|Ub 0 Jp Z Z B3 Ka Kc ?_;intro s2 P2;refine Wnt<|Yc 10 Z Ki Ki Z (fun _ _=>Yz Z Z Kh) trivial ?_;refine Us 11 Z Z trivial<|Yp Ki ?_;refine Vy ?_;refine Yh (v:=.string _) Z ?_;rotate_left;refine Wh1 Z<|Ub 0 Jp Z Z B3 Ka Kc ?_;intro s1 P1
  refine Wnt<|Wha [4]<|Wh1 Z<|Ub 1 Jp Z Z B2 Ka Kc ?_;intro s2 P2;refine Wnt<|Yc 10 Z Ki Ki Z (fun _ _=>Yz Z Z Kh) trivial ?_;refine Us 11 Z Z trivial<|Yp Ki ?_;refine Vy ?_;refine Yh (v:=.string _) Z ?_;rotate_left;refine Yg Z ?_ ?_;refine Vs Z (Xa (a:=.pointer _) (b:=.int _ _) Jy Z Z) (Xs _ _ Kk Kh) ?_;rintro _ w4 ⟨y2,rfl,E4,Q2,L2⟩;(try dsimp only at L2);have:=Q2.lt;have hG:=Ye hG E4;refine Wnt<|Wha [0,5,7]<|Yg Z ?_ ?_
  refine Xc (ps:=[(0,.string _),(1,.string _)]) (cs:=[_,_]) Z Jv Jo Ge Z Z Z Z ?_;rintro b2 w5 H2 E5 B2;have:=B2.lt;have Q2:=Q2.J E5;have hG:=Yf hG E5;refine Wnt<|Yc 3 Z Ki Ki Z (fun _ _=>Yk Jv Jo Z Z Kh) trivial ?_;refine Wha [4,5,7]<|Yg Z ?_ ?_;refine Ub 1 Jp Z Z B2 Ka Kc ?_;intro s1 P1;refine Wnt<|Wha [5,7]<|Yg Z ?_ ?_;refine Xc (ps:=[(0,.string _),(1,.string _),(2,.string _),(3,.string _),(4,.string _)]) (cs:=[_,_,_,_,_]) Z Jv Jo Ge Z Z Z Z ?_
  rintro b3 w6 H3 E6 B3;have Q2:=Q2.J E6;have hG:=Yf hG E6;refine Wnt<|Wha [7]<|Wh1 Z<|Vs Z (Xa (a:=.pointer _) (b:=.int _ _) Jy Z Z) (Xs _ _ Kk Kh) ?_;rintro _ w7 ⟨y3,rfl,E7,Q3,L3⟩;(try dsimp only at L3);have B3:=B3.G E7 Kb;have hG:=Ye hG E7;refine Wnt<|Yc 8 Z Ki Ki Z (fun _ _=>Yk Jv Jo Z Z Kh) trivial ?_;refine Wha [9]<|Wh1 Z<|Ub 0 Jp Z Z B3 Ka Kc ?_;intro s2 P2;refine Wnt<|Yc 10 Z Ki Ki Z (fun _ _=>Yz Z Z Kh) trivial ?_
  refine Us 11 Z Z trivial<|Yp Ki ?_;refine Vy ?_;refine Yh (v:=.string _) Z ?_;rotate_left;refine Wh1 Z<|Vs Z (Xa (a:=.pointer _) (b:=.int _ _) Jy Z Z) (Xs _ _ Kk Kh) ?_;rintro _ w6 ⟨y3,rfl,E6,Q3,L3⟩;(try dsimp only at L3);have hG:=Ye hG E6;refine Wnt<|Wha [5]<|Wh1 Z<|Xc (ps:=[(0,.string _),(1,.string _),(2,.string _),(3,.string _),(4,.string _)]) (cs:=[_,_,_,_,_]) Z Jv Jo Ge Z Z Z Z ?_;rintro b3 w7 H3 E7 B3;have Q3:=Q3.J E7;have hG:=Yf hG E7;refine Wnt<|Yc 8 Z Ki Ki Z (fun _ _=>Yk Jv Jo Z Z Kh) trivial ?_
  refine Wha [9]<|Wh1 Z<|Ub 0 Jp Z Z B3 Ka Kc ?_;intro s2 P2;refine Wnt<|Yc 10 Z Ki Ki Z (fun _ _=>Yz Z Z Kh) trivial ?_;refine Us 11 Z Z trivial<|Yp Ki ?_;refine Vy ?_;refine Yh (v:=.string _) Z ?_;rotate_left;refine Yg Z ?_ ?_;refine Xc (ps:=[(0,.string _),(1,.string _),(2,.string _),(3,.string _),(4,.string _)]) (cs:=[_,_,_,_,_]) Z Jv Jo Ge Z Z Z Z ?_;rintro b3 w6 H3 E6 B3;have Q2:=Q2.J E6;have hG:=Yf hG E6;refine Wnt<|Wha [4,7]<|Yg Z ?_ ?_
  refine Ub 1 Jp Z Z (B2.J E6) Ka Kc ?_;intro s1 P1;refine Wnt<|Wha [7]<|Wh1 Z<|Vs Z (Xa (a:=.pointer _) (b:=.int _ _) Jy Z Z) (Xs _ _ Kk Kh) ?_;rintro _ w7 ⟨y3,rfl,E7,Q3,L3⟩;(try dsimp only at L3);have B3:=B3.G E7 Kb;have hG:=Ye hG E7;refine Wnt<|Yc 8 Z Ki Ki Z (fun _ _=>Yk Jv Jo Z Z Kh) trivial ?_;refine Wha [9]<|Wh1 Z<|Ub 0 Jp Z Z B3 Ka Kc ?_;intro s2 P2
  refine Wnt<|Yc 10 Z Ki Ki Z (fun _ _=>Yz Z Z Kh) trivial ?_;refine Us 11 Z Z trivial<|Yp Ki ?_;refine Vy ?_;refine Yh (v:=.string _) Z ?_;rotate_left;refine Wh1 Z<|Vs Z (Xa (a:=.pointer _) (b:=.int _ _) Jy Z Z) (Xs _ _ Kk Kh) ?_;rintro _ w7 ⟨y3,rfl,E7,Q3,L3⟩;(try dsimp only at L3);have B2:=(B2.J E6).G E7 Kb;have B3:=B3.G E7 Kb;have hG:=Ye hG E7;refine Wnt<|Yc 8 Z Ki Ki Z (fun _ _=>Yk Jv Jo Z Z Kh) trivial ?_;refine Wha [4,9]<|Yg Z ?_ ?_
  refine Ub 1 Jp Z Z B2 Ka Kc ?_;intro s1 P1;refine Wnt<|Wha [9]<|Wh1 Z<|Ub 0 Jp Z Z B3 Ka Kc ?_;intro s2 P2;refine Wnt<|Yc 10 Z Ki Ki Z (fun _ _=>Yz Z Z Kh) trivial ?_;refine Us 11 Z Z trivial<|Yp Ki ?_;refine Vy ?_;refine Yh (v:=.string _) Z ?_;rotate_left;refine Wh1 Z<|Ub 0 Jp Z Z B3 Ka Kc ?_;intro s1 P1
  refine Wnt<|Wha [4]<|Wh1 Z<|Ub 1 Jp Z Z B2 Ka Kc ?_;intro s2 P2;refine Wnt<|Yc 10 Z Ki Ki Z (fun _ _=>Yz Z Z Kh) trivial ?_;refine Us 11 Z Z trivial<|Yp Ki ?_;refine Vy ?_;refine Yh (v:=.string _) Z ?_;rotate_left;refine Wh1 Z<|Vs Z (Xa (a:=.pointer _) (b:=.int _ _) Jy Z Z) (Xs _ _ Kk Kh) ?_;rintro _ w6 ⟨y3,rfl,E6,Q3,L3⟩;(try dsimp only at L3);have B2:=B2.G E6 Kb;have hG:=Ye hG E6;refine Wnt<|Wha [4,5]<|Yg Z ?_ ?_
  refine Ub 1 Jp Z Z B2 Ka Kc ?_;intro s1 P1;refine Wnt<|Wha [5]<|Wh1 Z<|Xc (ps:=[(0,.string _),(1,.string _),(2,.string _),(3,.string _),(4,.string _)]) (cs:=[_,_,_,_,_]) Z Jv Jo Ge Z Z Z Z ?_;rintro b3 w7 H3 E7 B3;have Q3:=Q3.J E7;have hG:=Yf hG E7;refine Wnt<|Yc 8 Z Ki Ki Z (fun _ _=>Yk Jv Jo Z Z Kh) trivial ?_;refine Wha [9]<|Wh1 Z<|Ub 0 Jp Z Z B3 Ka Kc ?_;intro s2 P2
  refine Wnt<|Yc 10 Z Ki Ki Z (fun _ _=>Yz Z Z Kh) trivial ?_;refine Us 11 Z Z trivial<|Yp Ki ?_;refine Vy ?_;refine Yh (v:=.string _) Z ?_;rotate_left;refine Wh1 Z<|Xc (ps:=[(0,.string _),(1,.string _),(2,.string _),(3,.string _),(4,.string _)]) (cs:=[_,_,_,_,_]) Z Jv Jo Ge Z Z Z Z ?_;rintro b3 w7 H3 E7 B3;have Q3:=Q3.J E7;have hG:=Yf hG E7;refine Wnt<|Yc 8 Z Ki Ki Z (fun _ _=>Yk Jv Jo Z Z Kh) trivial ?_;refine Wha [4,9]<|Yg Z ?_ ?_
  refine Ub 1 Jp Z Z (B2.J E7) Ka Kc ?_;intro s1 P1;refine Wnt<|Wha [9]<|Wh1 Z<|Ub 0 Jp Z Z B3 Ka Kc ?_;intro s2 P2;refine Wnt<|Yc 10 Z Ki Ki Z (fun _ _=>Yz Z Z Kh) trivial ?_;refine Us 11 Z Z trivial<|Yp Ki ?_;refine Vy ?_;refine Yh (v:=.string _) Z ?_;rotate_left;refine Wh1 Z<|Ub 0 Jp Z Z B3 Ka Kc ?_;intro s1 P1
  refine Wnt<|Wha [4]<|Wh1 Z<|Ub 1 Jp Z Z (B2.J E7) Ka Kc ?_;intro s2 P2;refine Wnt<|Yc 10 Z Ki Ki Z (fun _ _=>Yz Z Z Kh) trivial ?_;refine Us 11 Z Z trivial<|Yp Ki ?_;refine Vy ?_;refine Yh (v:=.string _) Z ?_;rotate_left;refine Yg Z ?_ ?_;refine Xc (ps:=[(0,.string _),(1,.string _),(2,.string _),(3,.string _),(4,.string _)]) (cs:=[_,_,_,_,_]) Z Jv Jo Ge Z Z Z Z ?_;rintro b2 w5 H2 E5 B2;have:=B2.lt;have Q2:=Q2.J E5;have hG:=Yf hG E5;refine Wnt<|Wha [0,7]<|Yg Z ?_ ?_
  refine Xc (ps:=[(0,.string _),(1,.string _)]) (cs:=[_,_]) Z Jv Jo Ge Z Z Z Z ?_;rintro b3 w6 H3 E6 B3;have Q2:=Q2.J E6;have hG:=Yf hG E6;refine Wnt<|Yc 3 Z Ki Ki Z (fun _ _=>Yk Jv Jo Z Z Kh) trivial ?_;refine Wha [4,7]<|Yg Z ?_ ?_;refine Ub 1 Jp Z Z B3 Ka Kc ?_;intro s1 P1;refine Wnt<|Wha [7]<|Wh1 Z<|Vs Z (Xa (a:=.pointer _) (b:=.int _ _) Jy Z Z) (Xs _ _ Kk Kh) ?_;rintro _ w7 ⟨y3,rfl,E7,Q3,L3⟩;(try dsimp only at L3)
  have B2:=(B2.J E6).G E7 Kb;have hG:=Ye hG E7;refine Wnt<|Yc 8 Z Ki Ki Z (fun _ _=>Yk Jv Jo Z Z Kh) trivial ?_;refine Wha [9]<|Wh1 Z<|Ub 0 Jp Z Z B2 Ka Kc ?_;intro s2 P2;refine Wnt<|Yc 10 Z Ki Ki Z (fun _ _=>Yz Z Z Kh) trivial ?_;refine Us 11 Z Z trivial<|Yp Ki ?_;refine Vy ?_;refine Yh (v:=.string _) Z ?_;rotate_left;refine Wh1 Z<|Vs Z (Xa (a:=.pointer _) (b:=.int _ _) Jy Z Z) (Xs _ _ Kk Kh) ?_
  rintro _ w7 ⟨y3,rfl,E7,Q3,L3⟩;(try dsimp only at L3);have B2:=(B2.J E6).G E7 Kb;have B3:=B3.G E7 Kb;have hG:=Ye hG E7;refine Wnt<|Yc 8 Z Ki Ki Z (fun _ _=>Yk Jv Jo Z Z Kh) trivial ?_;refine Wha [4,9]<|Yg Z ?_ ?_;refine Ub 1 Jp Z Z B3 Ka Kc ?_;intro s1 P1;refine Wnt<|Wha [9]<|Wh1 Z<|Ub 0 Jp Z Z B2 Ka Kc ?_;intro s2 P2
  refine Wnt<|Yc 10 Z Ki Ki Z (fun _ _=>Yz Z Z Kh) trivial ?_;refine Us 11 Z Z trivial<|Yp Ki ?_;refine Vy ?_;refine Yh (v:=.string _) Z ?_;rotate_left;refine Wh1 Z<|Ub 0 Jp Z Z B2 Ka Kc ?_;intro s1 P1;refine Wnt<|Wha [4]<|Wh1 Z<|Ub 1 Jp Z Z B3 Ka Kc ?_;intro s2 P2;refine Wnt<|Yc 10 Z Ki Ki Z (fun _ _=>Yz Z Z Kh) trivial ?_;refine Us 11 Z Z trivial<|Yp Ki ?_;refine Vy ?_
  refine Yh (v:=.string _) Z ?_;rotate_left;refine Wh1 Z<|Vs Z (Xa (a:=.pointer _) (b:=.int _ _) Jy Z Z) (Xs _ _ Kk Kh) ?_;rintro _ w6 ⟨y3,rfl,E6,Q3,L3⟩;(try dsimp only at L3);have B2:=B2.G E6 Kb;have hG:=Ye hG E6;refine Wnt<|Yc 8 Z Ki Ki Z (fun _ _=>Yk Jv Jo Z Z Kh) trivial ?_;refine Wha [0,9]<|Yg Z ?_ ?_;refine Xc (ps:=[(0,.string _),(1,.string _)]) (cs:=[_,_]) Z Jv Jo Ge Z Z Z Z ?_;rintro b3 w7 H3 E7 B3;have Q3:=Q3.J E7;have hG:=Yf hG E7
  refine Wnt<|Yc 3 Z Ki Ki Z (fun _ _=>Yk Jv Jo Z Z Kh) trivial ?_;refine Wha [4,9]<|Yg Z ?_ ?_;refine Ub 1 Jp Z Z B3 Ka Kc ?_;intro s1 P1;refine Wnt<|Wha [9]<|Wh1 Z<|Ub 0 Jp Z Z (B2.J E7) Ka Kc ?_;intro s2 P2;refine Wnt<|Yc 10 Z Ki Ki Z (fun _ _=>Yz Z Z Kh) trivial ?_;refine Us 11 Z Z trivial<|Yp Ki ?_;refine Vy ?_;refine Yh (v:=.string _) Z ?_;rotate_left
  refine Wh1 Z<|Ub 0 Jp Z Z (B2.J E7) Ka Kc ?_;intro s1 P1;refine Wnt<|Wha [4]<|Wh1 Z<|Ub 1 Jp Z Z B3 Ka Kc ?_;intro s2 P2;refine Wnt<|Yc 10 Z Ki Ki Z (fun _ _=>Yz Z Z Kh) trivial ?_;refine Us 11 Z Z trivial<|Yp Ki ?_;refine Vy ?_;refine Yh (v:=.string _) Z ?_;rotate_left;refine Wh1 Z<|Ub 0 Jp Z Z B2 Ka Kc ?_;intro s1 P1
  refine Wnt<|Wha [0]<|Wh1 Z<|Xc (ps:=[(0,.string _),(1,.string _)]) (cs:=[_,_]) Z Jv Jo Ge Z Z Z Z ?_;rintro b3 w7 H3 E7 B3;have Q3:=Q3.J E7;have hG:=Yf hG E7;refine Wnt<|Yc 3 Z Ki Ki Z (fun _ _=>Yk Jv Jo Z Z Kh) trivial ?_;refine Wha [4]<|Wh1 Z<|Ub 1 Jp Z Z B3 Ka Kc ?_;intro s2 P2;refine Wnt<|Yc 10 Z Ki Ki Z (fun _ _=>Yz Z Z Kh) trivial ?_;refine Us 11 Z Z trivial<|Yp Ki ?_;refine Vy ?_;refine Yh (v:=.string _) Z ?_;rotate_left
  refine Wh1 Z<|Vs Z (Xa (a:=.pointer _) (b:=.int _ _) Jy Z Z) (Xs _ _ Kk Kh) ?_;rintro _ w5 ⟨y3,rfl,E5,Q3,L3⟩;(try dsimp only at L3);have hG:=Ye hG E5;refine Wnt<|Wha [0,5]<|Yg Z ?_ ?_;refine Xc (ps:=[(0,.string _),(1,.string _)]) (cs:=[_,_]) Z Jv Jo Ge Z Z Z Z ?_;rintro b2 w6 H2 E6 B2;have Q3:=Q3.J E6;have hG:=Yf hG E6;refine Wnt<|Yc 3 Z Ki Ki Z (fun _ _=>Yk Jv Jo Z Z Kh) trivial ?_;refine Wha [4,5]<|Yg Z ?_ ?_;refine Ub 1 Jp Z Z B2 Ka Kc ?_;intro s1 P1
  refine Wnt<|Wha [5]<|Wh1 Z<|Xc (ps:=[(0,.string _),(1,.string _),(2,.string _),(3,.string _),(4,.string _)]) (cs:=[_,_,_,_,_]) Z Jv Jo Ge Z Z Z Z ?_;rintro b3 w7 H3 E7 B3;have Q3:=Q3.J E7;have hG:=Yf hG E7;refine Wnt<|Yc 8 Z Ki Ki Z (fun _ _=>Yk Jv Jo Z Z Kh) trivial ?_;refine Wha [9]<|Wh1 Z<|Ub 0 Jp Z Z B3 Ka Kc ?_;intro s2 P2;refine Wnt<|Yc 10 Z Ki Ki Z (fun _ _=>Yz Z Z Kh) trivial ?_;refine Us 11 Z Z trivial<|Yp Ki ?_;refine Vy ?_
  refine Yh (v:=.string _) Z ?_;rotate_left;refine Wh1 Z<|Xc (ps:=[(0,.string _),(1,.string _),(2,.string _),(3,.string _),(4,.string _)]) (cs:=[_,_,_,_,_]) Z Jv Jo Ge Z Z Z Z ?_;rintro b3 w7 H3 E7 B3;have Q3:=Q3.J E7;have hG:=Yf hG E7;refine Wnt<|Yc 8 Z Ki Ki Z (fun _ _=>Yk Jv Jo Z Z Kh) trivial ?_;refine Wha [4,9]<|Yg Z ?_ ?_;refine Ub 1 Jp Z Z (B2.J E7) Ka Kc ?_;intro s1 P1
  refine Wnt<|Wha [9]<|Wh1 Z<|Ub 0 Jp Z Z B3 Ka Kc ?_;intro s2 P2;refine Wnt<|Yc 10 Z Ki Ki Z (fun _ _=>Yz Z Z Kh) trivial ?_;refine Us 11 Z Z trivial<|Yp Ki ?_;refine Vy ?_;refine Yh (v:=.string _) Z ?_;rotate_left;refine Wh1 Z<|Ub 0 Jp Z Z B3 Ka Kc ?_;intro s1 P1;refine Wnt<|Wha [4]<|Wh1 Z<|Ub 1 Jp Z Z (B2.J E7) Ka Kc ?_
  intro s2 P2;refine Wnt<|Yc 10 Z Ki Ki Z (fun _ _=>Yz Z Z Kh) trivial ?_;refine Us 11 Z Z trivial<|Yp Ki ?_;refine Vy ?_;refine Yh (v:=.string _) Z ?_;rotate_left;refine Wh1 Z<|Xc (ps:=[(0,.string _),(1,.string _),(2,.string _),(3,.string _),(4,.string _)]) (cs:=[_,_,_,_,_]) Z Jv Jo Ge Z Z Z Z ?_;rintro b2 w6 H2 E6 B2;have Q3:=Q3.J E6;have hG:=Yf hG E6;refine Wnt<|Yc 8 Z Ki Ki Z (fun _ _=>Yk Jv Jo Z Z Kh) trivial ?_;refine Wha [0,9]<|Yg Z ?_ ?_
  refine Xc (ps:=[(0,.string _),(1,.string _)]) (cs:=[_,_]) Z Jv Jo Ge Z Z Z Z ?_;rintro b3 w7 H3 E7 B3;have Q3:=Q3.J E7;have hG:=Yf hG E7;refine Wnt<|Yc 3 Z Ki Ki Z (fun _ _=>Yk Jv Jo Z Z Kh) trivial ?_;refine Wha [4,9]<|Yg Z ?_ ?_;refine Ub 1 Jp Z Z B3 Ka Kc ?_;intro s1 P1;refine Wnt<|Wha [9]<|Wh1 Z<|Ub 0 Jp Z Z (B2.J E7) Ka Kc ?_;intro s2 P2
  refine Wnt<|Yc 10 Z Ki Ki Z (fun _ _=>Yz Z Z Kh) trivial ?_;refine Us 11 Z Z trivial<|Yp Ki ?_;refine Vy ?_;refine Yh (v:=.string _) Z ?_;rotate_left;refine Wh1 Z<|Ub 0 Jp Z Z (B2.J E7) Ka Kc ?_;intro s1 P1;refine Wnt<|Wha [4]<|Wh1 Z<|Ub 1 Jp Z Z B3 Ka Kc ?_;intro s2 P2;refine Wnt<|Yc 10 Z Ki Ki Z (fun _ _=>Yz Z Z Kh) trivial ?_;refine Us 11 Z Z trivial<|Yp Ki ?_;refine Vy ?_
  refine Yh (v:=.string _) Z ?_;rotate_left;refine Wh1 Z<|Ub 0 Jp Z Z B2 Ka Kc ?_;intro s1 P1;refine Wnt<|Wha [0]<|Wh1 Z<|Xc (ps:=[(0,.string _),(1,.string _)]) (cs:=[_,_]) Z Jv Jo Ge Z Z Z Z ?_;rintro b3 w7 H3 E7 B3;have Q3:=Q3.J E7;have hG:=Yf hG E7;refine Wnt<|Yc 3 Z Ki Ki Z (fun _ _=>Yk Jv Jo Z Z Kh) trivial ?_;refine Wha [4]<|Wh1 Z<|Ub 1 Jp Z Z B3 Ka Kc ?_;intro s2 P2
  refine Wnt<|Yc 10 Z Ki Ki Z (fun _ _=>Yz Z Z Kh) trivial ?_;refine Us 11 Z Z trivial<|Yp Ki ?_;refine Vy ?_;refine Yh (v:=.string _) Z ?_;rotate_left;refine Wh1 Z<|Xc (ps:=[(0,.string _),(1,.string _),(2,.string _),(3,.string _),(4,.string _)]) (cs:=[_,_,_,_,_]) Z Jv Jo Ge Z Z Z Z ?_;rintro b2 w4 H2 E4 B2;have:=B2.lt;have Q1:=Q1.J E4;have hG:=Yf hG E4;refine Wnt<|Wha [0,2]<|Yg Z ?_ ?_;refine Xc (ps:=[(0,.string _),(1,.string _)]) (cs:=[_,_]) Z Jv Jo Ge Z Z Z Z ?_;rintro b3 w5 H3 E5 B3;have Q1:=Q1.J E5;have hG:=Yf hG E5
  refine Wnt<|Wha [2]<|Wh1 Z<|Vs Z (Xa (a:=.pointer _) (b:=.int _ _) Jy Z Z) (Xs _ _ Kk Kh) ?_;rintro _ w6 ⟨y2,rfl,E6,Q2,L2⟩;(try dsimp only at L2);have B2:=(B2.J E5).G E6 Kb;have B3:=B3.G E6 Kb;have hG:=Ye hG E6;refine Wnt<|Yc 3 Z Ki Ki Z (fun _ _=>Yk Jv Jo Z Z Kh) trivial ?_;refine Wha [4,7]<|Yg Z ?_ ?_;refine Ub 1 Jp Z Z B3 Ka Kc ?_;intro s1 P1
  refine Wnt<|Wha [7]<|Wh1 Z<|Vs Z (Xa (a:=.pointer _) (b:=.int _ _) Jy Z Z) (Xs _ _ Kk Kh) ?_;rintro _ w7 ⟨y3,rfl,E7,Q3,L3⟩;(try dsimp only at L3);have B2:=B2.G E7 Kb;have hG:=Ye hG E7;refine Wnt<|Yc 8 Z Ki Ki Z (fun _ _=>Yk Jv Jo Z Z Kh) trivial ?_;refine Wha [9]<|Wh1 Z<|Ub 0 Jp Z Z B2 Ka Kc ?_;intro s2 P2;refine Wnt<|Yc 10 Z Ki Ki Z (fun _ _=>Yz Z Z Kh) trivial ?_;refine Us 11 Z Z trivial<|Yp Ki ?_;refine Vy ?_
  refine Yh (v:=.string _) Z ?_;rotate_left;refine Wh1 Z<|Vs Z (Xa (a:=.pointer _) (b:=.int _ _) Jy Z Z) (Xs _ _ Kk Kh) ?_;rintro _ w7 ⟨y3,rfl,E7,Q3,L3⟩;(try dsimp only at L3);have B2:=B2.G E7 Kb;have B3:=B3.G E7 Kb;have hG:=Ye hG E7;refine Wnt<|Yc 8 Z Ki Ki Z (fun _ _=>Yk Jv Jo Z Z Kh) trivial ?_;refine Wha [4,9]<|Yg Z ?_ ?_;refine Ub 1 Jp Z Z B3 Ka Kc ?_;intro s1 P1
  refine Wnt<|Wha [9]<|Wh1 Z<|Ub 0 Jp Z Z B2 Ka Kc ?_;intro s2 P2;refine Wnt<|Yc 10 Z Ki Ki Z (fun _ _=>Yz Z Z Kh) trivial ?_;refine Us 11 Z Z trivial<|Yp Ki ?_;refine Vy ?_;refine Yh (v:=.string _) Z ?_;rotate_left;refine Wh1 Z<|Ub 0 Jp Z Z B2 Ka Kc ?_;intro s1 P1;refine Wnt<|Wha [4]<|Wh1 Z<|Ub 1 Jp Z Z B3 Ka Kc ?_;intro s2 P2
  refine Wnt<|Yc 10 Z Ki Ki Z (fun _ _=>Yz Z Z Kh) trivial ?_;refine Us 11 Z Z trivial<|Yp Ki ?_;refine Vy ?_;refine Yh (v:=.string _) Z ?_;rotate_left;refine Wh1 Z<|Vs Z (Xa (a:=.pointer _) (b:=.int _ _) Jy Z Z) (Xs _ _ Kk Kh) ?_;rintro _ w5 ⟨y2,rfl,E5,Q2,L2⟩;(try dsimp only at L2);have:=Q2.lt;have B2:=B2.G E5 Kb;have hG:=Ye hG E5;refine Wnt<|Wha [0,7]<|Yg Z ?_ ?_;refine Xc (ps:=[(0,.string _),(1,.string _)]) (cs:=[_,_]) Z Jv Jo Ge Z Z Z Z ?_;rintro b3 w6 H3 E6 B3;have Q2:=Q2.J E6;have hG:=Yf hG E6
  refine Wnt<|Yc 3 Z Ki Ki Z (fun _ _=>Yk Jv Jo Z Z Kh) trivial ?_;refine Wha [4,7]<|Yg Z ?_ ?_;refine Ub 1 Jp Z Z B3 Ka Kc ?_;intro s1 P1;refine Wnt<|Wha [7]<|Wh1 Z<|Vs Z (Xa (a:=.pointer _) (b:=.int _ _) Jy Z Z) (Xs _ _ Kk Kh) ?_;rintro _ w7 ⟨y3,rfl,E7,Q3,L3⟩;(try dsimp only at L3);have B2:=(B2.J E6).G E7 Kb;have hG:=Ye hG E7;refine Wnt<|Yc 8 Z Ki Ki Z (fun _ _=>Yk Jv Jo Z Z Kh) trivial ?_
  refine Wha [9]<|Wh1 Z<|Ub 0 Jp Z Z B2 Ka Kc ?_;intro s2 P2;refine Wnt<|Yc 10 Z Ki Ki Z (fun _ _=>Yz Z Z Kh) trivial ?_;refine Us 11 Z Z trivial<|Yp Ki ?_;refine Vy ?_;refine Yh (v:=.string _) Z ?_;rotate_left;refine Wh1 Z<|Vs Z (Xa (a:=.pointer _) (b:=.int _ _) Jy Z Z) (Xs _ _ Kk Kh) ?_;rintro _ w7 ⟨y3,rfl,E7,Q3,L3⟩;(try dsimp only at L3);have B2:=(B2.J E6).G E7 Kb;have B3:=B3.G E7 Kb;have hG:=Ye hG E7
  refine Wnt<|Yc 8 Z Ki Ki Z (fun _ _=>Yk Jv Jo Z Z Kh) trivial ?_;refine Wha [4,9]<|Yg Z ?_ ?_;refine Ub 1 Jp Z Z B3 Ka Kc ?_;intro s1 P1;refine Wnt<|Wha [9]<|Wh1 Z<|Ub 0 Jp Z Z B2 Ka Kc ?_;intro s2 P2;refine Wnt<|Yc 10 Z Ki Ki Z (fun _ _=>Yz Z Z Kh) trivial ?_;refine Us 11 Z Z trivial<|Yp Ki ?_;refine Vy ?_;refine Yh (v:=.string _) Z ?_;rotate_left
  refine Wh1 Z<|Ub 0 Jp Z Z B2 Ka Kc ?_;intro s1 P1;refine Wnt<|Wha [4]<|Wh1 Z<|Ub 1 Jp Z Z B3 Ka Kc ?_;intro s2 P2;refine Wnt<|Yc 10 Z Ki Ki Z (fun _ _=>Yz Z Z Kh) trivial ?_;refine Us 11 Z Z trivial<|Yp Ki ?_;refine Vy ?_;refine Yh (v:=.string _) Z ?_;rotate_left;refine Wh1 Z<|Vs Z (Xa (a:=.pointer _) (b:=.int _ _) Jy Z Z) (Xs _ _ Kk Kh) ?_;rintro _ w6 ⟨y3,rfl,E6,Q3,L3⟩;(try dsimp only at L3)
  have B2:=B2.G E6 Kb;have hG:=Ye hG E6;refine Wnt<|Yc 8 Z Ki Ki Z (fun _ _=>Yk Jv Jo Z Z Kh) trivial ?_;refine Wha [0,9]<|Yg Z ?_ ?_;refine Xc (ps:=[(0,.string _),(1,.string _)]) (cs:=[_,_]) Z Jv Jo Ge Z Z Z Z ?_;rintro b3 w7 H3 E7 B3;have Q3:=Q3.J E7;have hG:=Yf hG E7;refine Wnt<|Yc 3 Z Ki Ki Z (fun _ _=>Yk Jv Jo Z Z Kh) trivial ?_;refine Wha [4,9]<|Yg Z ?_ ?_
  refine Ub 1 Jp Z Z B3 Ka Kc ?_;intro s1 P1;refine Wnt<|Wha [9]<|Wh1 Z<|Ub 0 Jp Z Z (B2.J E7) Ka Kc ?_;intro s2 P2;refine Wnt<|Yc 10 Z Ki Ki Z (fun _ _=>Yz Z Z Kh) trivial ?_;refine Us 11 Z Z trivial<|Yp Ki ?_;refine Vy ?_;refine Yh (v:=.string _) Z ?_;rotate_left;refine Wh1 Z<|Ub 0 Jp Z Z (B2.J E7) Ka Kc ?_;intro s1 P1
  refine Wnt<|Wha [4]<|Wh1 Z<|Ub 1 Jp Z Z B3 Ka Kc ?_;intro s2 P2;refine Wnt<|Yc 10 Z Ki Ki Z (fun _ _=>Yz Z Z Kh) trivial ?_;refine Us 11 Z Z trivial<|Yp Ki ?_;refine Vy ?_;refine Yh (v:=.string _) Z ?_;rotate_left;refine Wh1 Z<|Ub 0 Jp Z Z B2 Ka Kc ?_;intro s1 P1;refine Wnt<|Wha [0]<|Wh1 Z<|Xc (ps:=[(0,.string _),(1,.string _)]) (cs:=[_,_]) Z Jv Jo Ge Z Z Z Z ?_;rintro b3 w7 H3 E7 B3
  have Q3:=Q3.J E7;have hG:=Yf hG E7;refine Wnt<|Yc 3 Z Ki Ki Z (fun _ _=>Yk Jv Jo Z Z Kh) trivial ?_;refine Wha [4]<|Wh1 Z<|Ub 1 Jp Z Z B3 Ka Kc ?_;intro s2 P2;refine Wnt<|Yc 10 Z Ki Ki Z (fun _ _=>Yz Z Z Kh) trivial ?_;refine Us 11 Z Z trivial<|Yp Ki ?_;refine Vy ?_;refine Yh (v:=.string _) Z ?_;rotate_left;refine Vw<|Vr<|Uv Z<|Uh Jq Jj B1 Z<|Vs Z (Xa (a:=.pointer _) (b:=.agg _) Zo Z Z) (kD _ _ Kk Kh (hA) Kh) ?_
  rintro _ w3 ⟨k1,t1,n1,rfl,E3,Q2,L2⟩;(try dsimp only at L2);have hG:=Ye hG E3;refine Vs Z (Xh (a:=.agg _) Tryz.call108 Z) (kT _ _ _ _ Kk) ?_;rintro _ w4 ⟨rfl,E4⟩;have Q2:=Q2.J E4;have hG:=Yf hG E4;refine Xr Z<|Vp<|Vy ?_;refine Yh (v:=.string _) Z ?_;rotate_left
 all_goals refine ⟨_,rfl,hG,by first | exact Q4.le Kh | exact Q3.le Kh | exact Q2.le Kh | exact Q1.le Kh,?_⟩
 all_goals first
  | omega
  | (simp only [List.length_append,List.length_cons,List.length_nil];omega)
  | exact Jd (dtV_len _) Kj
end Go.Proofs.YtbgpppaljpngmaaGreatDoor
set_option linter.unusedVariables false
namespace Go.Hs
def RetDkS (w:World) (p:Dsk→List UInt8→Prop):Value→World→Prop:=fun v w'=>∃ u1 u2 now past t,v=.tuple #[.agg #[u1,u2],str t]∧Ext w w'∧ESl Ints w' u1 now∧ESl (ESl Ints) w' u2 past∧isCell u1=true∧isCell u2=true∧p ⟨now,past⟩ t
end Go.Hs
namespace Go.Proofs.YtbgpppaljpngmaaGreatDoor
open Go.Hs
set_option maxRecDepth 10000
set_option maxHeartbeats 4000000
set_option linter.unusedVariables false
set_option linter.unusedSimpArgs false
theorem DrawDeskLine_ok (w:World) (v:Value) (xs:List UInt8) (h:Bytes w v xs) (hc:CapOk v):Dz 12 [v] w (RetDkS w (fun d s=>NowP d.now∧s.length≤1000)):=by
 have k1 : ∀ (w0 w:World) (br m:Nat),Rdr w0 w br m→m≤1000000→Dz 56 [.pointer (some ⟨br,0,none⟩),.int .i64 12] w (RetDK w0 w br (m+140) (fun d=>NowP d.now)):=fun w0 w br m hr hm=>DeskN_ok (n:=12) w hr hm Kh
 refine Tj Tryz.func12 Z Tryz.results12 Tryz.ntmps12 Z Jq Jj ?_
 have heldS:w=w:=rfl
 have stop3:True:=trivial
 focus
  refine Vr<|Xk Z Ug ?_;rintro b1 w1 H1 E1 B1;have:=B1.lt;refine Xr Z<|Vp<|Vt<|Ym<|Yj v Z<|Vs Z (Xh (a:=v) Tryz.call55 Z) (open_ok _ _ _ (Ku E1 h) Kk) ?_;rintro _ w2 ⟨E2,y1,rfl,L1⟩;have hlhy1:=L1.lt;have hghy1:=L1.ge;have:=E2.Z;refine Qn Z<|Vp<|Vr<|Uv Z<|Vs Z (Xa (a:=.pointer _) (b:=.int _ _) Tryz.call56 Z Z) (k1 _ _ _ _ Kk Kh) ?_;rintro _ w3 ⟨u1,q1,x1,y2,rfl,E3,Q1,W1,X1,V1,N1,gwu1,L2⟩;(try dsimp only at L2);have:=Q1.lt;have D1:=Q1.old;have B1:=(B1.J E2).G E3 Kb;refine Xk Z Ug ?_;rintro b2 w4 H2 E4 B2;have:=B2.lt;have Q1:=Q1.J E4;refine Uw Jj B2 Z ((E1.K D1).K E4) ?_
  rintro w5 E5 B2 K1 Z1;have E6:=(D1.trans E4).A exq E5 K1 Z1 Kh;have E7:=E4.A exq E5 K1 Z1 Kh;have B1:=(B1.J E4).Y (K1 _ Kh);have Q1:=Q1.W E6 (K1 _ Kh) Z1;refine Vp<|Vt ?_
 clear stop3
 have kL:=fun (w:World) (m':Nat) (hr:Rdr w1 w y1 m') (hm:m'≤1000000) (hA:Above w2.heap.size (ESl Ints) w u1 x1) (hl:w2.heap.size < w.heap.size)=>Line_ok w u1 q1 x1 hr hm hA hlhy1 hl N1 L2
 focus
  refine Rm (fun w'=>Ext w w') mixed Z Ki ?_;intro w6 E8 K2 Z2;have Q1:=Q1.J E8;refine WtmP 1 Z Z exq<|Wha [0,2]<|Yg Z ?_ ?_;refine Uh Jq Jj (B2.J E8) Z<|Wnx exq<|Wha [2]<|Wh1 Z<|Uh Jq Jj (B2.J E8) Z<|Wnx exq<|Wha [3]<|Wh1 Z<|Vs Z (Xa (a:=.pointer _) (b:=.agg _) Tryz.call57 Z Z) (kL _ _ Kk Kh (W1.J exq) Kh) ?_;rintro _ w7 ⟨t1,rfl,E9,Q2,L3⟩;(try dsimp only at L3);have D2:=Q2.old;have W1:=(W1.J (E7.K E8)).G E9 Kh;have X1:=(X1.J (E7.K E8)).G E9 Kh;have B1:=(B1.J E8).G E9 Kb;refine Wnx exq<|Wha [4]<|Wh1 Z<|Uw Jj B1 Z (E1.K D2) ?_;rintro w8 E10 B1 K3 Z3
  have W1:=W1.keep (fun k h1 h2=>K3 k Kh) Kh;have X1:=X1.keep (fun k h1 h2=>K3 k Kh) Kh;refine Wnx E10<|Us 5 Z Z E10<|Yp Ki ?_;refine Vy ?_;rotate_left;refine Wh1 Z<|Uh Jq Jj (B2.J E8) Z<|Wnx exq<|Wha [0,3]<|Yg Z ?_ ?_;refine Uh Jq Jj (B2.J E8) Z<|Wnx exq<|Wha [3]<|Wh1 Z<|Vs Z (Xa (a:=.pointer _) (b:=.agg _) Tryz.call57 Z Z) (kL _ _ Kk Kh (W1.J exq) Kh) ?_;rintro _ w7 ⟨t1,rfl,E9,Q2,L3⟩;(try dsimp only at L3);have D2:=Q2.old;have W1:=(W1.J (E7.K E8)).G E9 Kh;have X1:=(X1.J (E7.K E8)).G E9 Kh;have B1:=(B1.J E8).G E9 Kb
  refine Wnx exq<|Wha [4]<|Wh1 Z<|Uw Jj B1 Z (E1.K D2) ?_;rintro w8 E10 B1 K3 Z3;have W1:=W1.keep (fun k h1 h2=>K3 k Kh) Kh;have X1:=X1.keep (fun k h1 h2=>K3 k Kh) Kh;refine Wnx E10<|Us 5 Z Z E10<|Yp Ki ?_;refine Vy ?_;rotate_left;refine Wh1 Z<|Vs Z (Xa (a:=.pointer _) (b:=.agg _) Tryz.call57 Z Z) (kL _ _ Kk Kh (W1.J exq) Kh) ?_;rintro _ w7 ⟨t1,rfl,E9,Q2,L3⟩;(try dsimp only at L3);have D2:=Q2.old;have W1:=(W1.J (E7.K E8)).G E9 Kh;have X1:=(X1.J (E7.K E8)).G E9 Kh;have B2:=(B2.J E8).G E9 Kb;have B1:=(B1.J E8).G E9 Kb
  refine Wnx exq<|Wha [0]<|Wh1 Z<|Uh Jq Jj B2 Z<|Wnx exq<|Wha [4]<|Wh1 Z<|Uw Jj B1 Z (E1.K D2) ?_;rintro w8 E10 B1 K3 Z3;have W1:=W1.keep (fun k h1 h2=>K3 k Kh) Kh;have X1:=X1.keep (fun k h1 h2=>K3 k Kh) Kh;refine Wnx E10<|Us 5 Z Z E10<|Yp Ki ?_;refine Vy ?_;rotate_left
 all_goals exact ⟨b1,u1,q1,rfl,B1,u1,q1,x1,y2,t1,rfl,by repeat (first | assumption | refine Ext.trans Kk ?_),W1.here,X1.here,V1,N1,L2,Kk⟩
end Go.Proofs.YtbgpppaljpngmaaGreatDoor
set_option linter.unusedVariables false
namespace Go.Hs
variable {P:Program} {t a a':Tmp} {ta ta':TypeId} {w:World} {v:Value}
end Go.Hs
namespace Go.Proofs.YtbgpppaljpngmaaGreatDoor
open Go.Hs
set_option maxRecDepth 10000
set_option maxHeartbeats 4000000
set_option linter.unusedVariables false
set_option linter.unusedSimpArgs false
theorem lnV_not {d:Dsk} {s:List UInt8} (h:(lnV d s).2≠[111,107]):(lnV d s).1=d:=by
 unfold lnV at h ⊢
 split
 ·rename_i a ha
  simp only [ha] at h
  refine doV_not ?_
  cases hb:(doV d a).2 with
  | false=>rfl
  | true=>rw [hb] at h;exact absurd rfl h
 ·rfl
theorem lnV_nil (d:Dsk):lnV d []=(d,[119,104,97,116]):=by
 have h:rdD []=none:=by
  cases h:rdD [] with
  | none=>rfl
  | some a=>exact absurd rfl (Mj h).2
 unfold lnV
 rw [h]
 simp [askV,cutF]
open Classical in
theorem FnDeskLine_walk (w:World) (hM:EMx gMx w (.bool true) ()) (hT:ETb w (.bool true) ()) (v:Value) (xs:List UInt8) (h:Bytes w v xs) (hc:CapOk v):Does Tryz.prog 3 [v] w (Ret w (.bool true)):=by
 refine Yr Tryz.func3 Z Tryz.results3 Tryz.ntmps3 Z ?_
 have stop4:True:=trivial
 focus
  refine Vr<|Ya Z<|Vp<|Vt<|Vr<|Yj v Z<|Ys Gm Z h<|Qo Z<|Vp<|Vu Z (fun h1=>?_) (fun h1=>?_);refine Vr<|Ya Z<|Vp<|Vy ?_;exact ⟨rfl,(Jf _)⟩;refine Vw<|Vr<|Yj v Z<|Vs Z (Xh (a:=v) Tryz.call12 Z) (DrawDeskLine_ok _ _ _ (h) Kk) ?_;rintro _ w1 ⟨u1,q1,x1,y1,t1,rfl,E1,W1,X1,V1,N1,L1⟩;have:=E1.Z;refine Ut Z<|Mu Z<|Sr Z<|Xk Z Ug ?_;rintro b1 w2 H1 E2 B1;have:=B1.lt;refine Uw Jj B1 Z (E1.K E2) ?_;rintro w3 E3 B1 K1 Z1;have E4:=E2.A exq E3 K1 Z1 Kh;refine Xr Z<|Vp<|Vt ?_
 clear stop4
 have htl:t1.length≤1048576:=Jd L1.2 Kj
 have kI : ∀ (s:List UInt8),s.length≤1048576→∀ (w:World) (v1 v2:Value),EMx gMx w (.bool true) ()→ETb w (.bool true) ()→ESl Ints w v1 x1→ESl (ESl Ints) w v2 y1→Does Tryz.prog 13 [.agg #[v1,v2],str s] w (RetDkT w 23 88 3 (dlV ⟨x1,y1⟩ s).1.now (dlV ⟨x1,y1⟩ s).1.past (dlV ⟨x1,y1⟩ s).2):=fun s hs w v1 v2 hM hT h1 h2=>impl_DeskLine_ok w hM hT v1 v2 ⟨x1,y1⟩ h1 h2 s hs
 have k1:=kI t1 htl
 have k0:=kI [] Kp
 have kS : ∀ (w:World) (v1 v2:Value),ESl Ints w v1 x1→ESl (ESl Ints) w v2 y1→Does Tryz.prog 14 [.agg #[v1,v2],str t1] w (RetDkRT w (dlV ⟨x1,y1⟩ t1).1.now (dlV ⟨x1,y1⟩ t1).1.past (dlV ⟨x1,y1⟩ t1).2):=fun w v1 v2 h1 h2=>spec_DeskLine_ok w v1 v2 ⟨x1,y1⟩ h1 h2 t1 htl
 have same : ∀ (p:List (List Int)) (q:List (List (List Int))) (w:World) (v1 v2 t1 t2:Value),ESl Ints w v1 p→ESl (ESl Ints) w v2 q→ESl Ints w t1 p→ESl (ESl Ints) w t2 q→Does Tryz.prog 15 [.agg #[v1,v2],.agg #[t1,t2]] w (Ret w (.bool true)):=fun p q w v1 v2 t1 t2 h1 h2 h3 h4=>by
  have:=sameDesk_ok w v1 v2 t1 t2 p p q q h1 h2 h3 h4
  rwa [decide_eq_true ⟨rfl,rfl⟩] at this
 clear kI
 have litown:True:=trivial
 by_cases hd:DkOk ⟨x1,y1⟩
 ·rw [show dlV ⟨x1,y1⟩ t1=lnV ⟨x1,y1⟩ t1 from if_pos hd] at k1 kS
  rw [show dlV ⟨x1,y1⟩ []=(⟨x1,y1⟩,[119,104,97,116]) from (if_pos hd).trans (lnV_nil _)] at k0
  have hok:=lnV_ok hd t1
  have hnot:=lnV_not (d:=⟨x1,y1⟩) (s:=t1)
  generalize lnV ⟨x1,y1⟩ t1=c at *
  obtain ⟨⟨n2,p2⟩,an⟩:=c
  simp only at k1 kS hok hnot
  have kE:=same n2 p2
  have kE0:=same x1 y1
  have kO : ∀ (w:World) (v1 v2:Value),ESl Ints w v1 x1→ESl (ESl Ints) w v2 y1→Does Tryz.prog 16 [.agg #[v1,v2]] w (Ret w (.bool true)):=fun w v1 v2 h1 h2=>by
   have:=Sa w v1 v2 ⟨x1,y1⟩ h1 h2;rwa [decide_eq_true hd] at this
  have kO2 : ∀ (w:World) (v1 v2:Value),ESl Ints w v1 n2→ESl (ESl Ints) w v2 p2→Does Tryz.prog 19 [.agg #[v1,v2]] w (Ret w (.bool true)):=fun w v1 v2 h1 h2=>by
   have:=impl_DeskOk_ok w v1 v2 ⟨n2,p2⟩ h1 h2;rwa [decide_eq_true hok] at this
  by_cases ha:an=[111,107]
  ·subst ha
   clear hnot
   focus
    refine Ym<|Uh Jq Jj B1 Z<|Yv Z<|Vs Z (Xa (a:=.agg _) (b:=.string _) Tryz.call13 Z Z) (k1 _ _ _ (Ku E3 hM) (Ku E3 hT) (Ku E4 W1) (Ku E4 X1)) ?_;rintro _ w4 ⟨u2,q2,m1,rfl,E5,O1,R1,J1,hn1⟩;have V2:=Kx O1;have N2:=Kx (Je R1);have:=E5.Z;refine Ut Z<|Mu Z<|Sr Z<|Xk Z Ug ?_;rintro b2 w5 H2 E6 B2;have:=B2.lt;refine Uw Jj B2 Z ((E3.K E5).K E6) ?_;rintro w6 E7 B2 K2 Z2;have E8:=((E4.K E5).K E6).A exq E7 K2 Z2 Kh;have E9:=(E5.K E6).A exq E7 K2 Z2 Kh;have E10:=E6.A exq E7 K2 Z2 Kh;have B1:=(B1.J exq).Y (K2 _ Kh);have O1:=(O1.J E6).W K2 Kh;have R1:=(R1.toB.J E6).W K2 Kh
    refine Xr Z<|Vp<|Vr<|Uh Jq Jj B1 Z<|Yv Z<|Vs Z (Xa (a:=.agg _) (b:=.string _) Tryz.call14 Z Z) (kS _ _ _ (Ku E8 W1) (Ku E8 X1)) ?_;rintro _ w7 ⟨u3,q3,rfl,E11,W2,X2,V3,N3⟩;have:=E11.Z;refine Ut Z<|Mu Z<|Sr Z<|Xk Z Ug ?_;rintro b3 w8 H3 E12 B3;have:=B3.lt;refine Uw Jj B3 Z ((E7.K E11).K E12) ?_;rintro w9 E13 B3 K3 Z3;have E14:=((E8.K E11).K E12).A exq E13 K3 Z3 Kh;have B2:=(B2.J exq).Y (K3 _ Kh);have B1:=(B1.J exq).Y (K3 _ Kh);have O1:=(O1.J exq).W K3 Kh;have R1:=(R1.J exq).W K3 Kh;have W2:=(W2.J E12).W K3 Kh;have X2:=(X2.J E12).W K3 Kh
    refine Xr Z<|Vp<|Vt<|Vr<|Uh Jq Jj B2 Z<|Uh Jq Jj B3 Z<|Vs Z (Xa (a:=.agg _) (b:=.agg _) Vh Z Z) (kE _ _ _ _ _ (Kw O1) (Kw R1) (Kw W2) (Kw X2)) ?_;rintro _ w10 ⟨rfl,E19⟩;have:=E19.Z;refine Xz Z<|Uf Z (Xj (v:=.bool _) Z) (fun h2=>?_) (fun h2=>?_);exact Ks;refine Yv Z<|Yv Z<|Wo Z (Uo Z Z)<|Xb Z<|Vp<|Sh Z fun h3=>?_;refine Vw<|Vt<|Vt<|Ym<|Uh Jq Jj (B1.J E19) Z<|Vs Z (Xh (a:=.agg _) Gv Z) (kO _ _ _ (Ku exq W1) (Ku exq X1)) ?_;rintro _ w11 ⟨rfl,E20⟩;have:=E20.Z;refine Xz Z<|Vp<|Uk Z fun h4=>?_
    refine Vw<|Vr<|Uh Jq Jj (B1.J exq) Z<|Vs Z (Xa (a:=.agg _) (b:=.string _) Tryz.call13 Z Z) (k0 _ _ _ (Ku exq hM) (Ku exq hT) (Ku exq W1) (Ku exq X1)) ?_;rintro _ w12 ⟨u4,q4,m2,rfl,E21,O2,R2,J2,hn2⟩;have V4:=Kx O2;have N4:=Kx (Je R2);have:=E21.Z;refine Ut Z<|Mu Z<|Sr Z<|Xk Z Ug ?_;rintro b4 w13 H4 E22 B4;refine Uu Z Jj Z Z Kl Kl B4 Kh ((((E13.K E19).K E20).K E21).K E22) ?_;rintro w14 E23 B4 K4 Z4;have E24:=((((E14.K E19).K E20).K E21).K E22).A exq E23 K4 Z4 Kh;have B2:=(B2.J exq).Y (K4 _ Kh);have B1:=(B1.J exq).Y (K4 _ Kh)
    have O1:=(O1.J exq).W K4 Kh;have R1:=(R1.J exq).W K4 Kh;have O2:=(O2.J E22).W K4 Kh;have R2:=(R2.toB.J E22).W K4 Kh;refine Xr Z<|Vp<|Vr<|Uh Jq Jj B2 Z<|Vs Z (Xh (a:=.agg _) Tryz.call19 Z) (kO2 _ _ _ (Kw O1) (Kw R1)) ?_;rintro _ w15 ⟨rfl,E33⟩;refine Xp Z<|Yv Z<|Wo Z (Yi Z Z)<|Xi Z (fun h5=>?_) (fun h5=>?_);refine Vq Z<|Vq Z<|Vq Z<|Xy Z<|Xy Z<|Xp Z<|Uh Jq Jj (B4.J E33) Z<|Uh Jq Jj (B1.J E33) Z<|Vs Z (Xa (a:=.agg _) (b:=.agg _) Vh Z Z) (kE0 _ _ _ _ _ ((Ku E33 (Kw O2))) ((Ku E33 (Kw R2))) (Ku exq W1) (Ku exq X1)) ?_
    rintro _ w16 ⟨rfl,E34⟩;refine Xy Z<|Xp Z<|Yv Z<|Wo Z (Yi Z Z)<|Xy Z<|Ya Z<|Vp<|Vy ?_;exact ⟨rfl,exq⟩;exact Ks
  ·have e:=hnot ha
   cases e
   focus
    refine Ym<|Uh Jq Jj B1 Z<|Yv Z<|Vs Z (Xa (a:=.agg _) (b:=.string _) Tryz.call13 Z Z) (k1 _ _ _ (Ku E3 hM) (Ku E3 hT) (Ku E4 W1) (Ku E4 X1)) ?_;rintro _ w4 ⟨u2,q2,m1,rfl,E5,O1,R1,J1,hn1⟩;have V2:=Kx O1;have N2:=Kx (Je R1);have:=E5.Z;refine Ut Z<|Mu Z<|Sr Z<|Xk Z Ug ?_;rintro b2 w5 H2 E6 B2;have:=B2.lt;refine Uw Jj B2 Z ((E3.K E5).K E6) ?_;rintro w6 E7 B2 K2 Z2;have E8:=((E4.K E5).K E6).A exq E7 K2 Z2 Kh;have E9:=(E5.K E6).A exq E7 K2 Z2 Kh;have E10:=E6.A exq E7 K2 Z2 Kh;have B1:=(B1.J exq).Y (K2 _ Kh);have O1:=(O1.J E6).W K2 Kh;have R1:=(R1.toB.J E6).W K2 Kh
    refine Xr Z<|Vp<|Vr<|Uh Jq Jj B1 Z<|Yv Z<|Vs Z (Xa (a:=.agg _) (b:=.string _) Tryz.call14 Z Z) (kS _ _ _ (Ku E8 W1) (Ku E8 X1)) ?_;rintro _ w7 ⟨u3,q3,rfl,E11,W2,X2,V3,N3⟩;have:=E11.Z;refine Ut Z<|Mu Z<|Sr Z<|Xk Z Ug ?_;rintro b3 w8 H3 E12 B3;have:=B3.lt;refine Uw Jj B3 Z ((E7.K E11).K E12) ?_;rintro w9 E13 B3 K3 Z3;have E14:=((E8.K E11).K E12).A exq E13 K3 Z3 Kh;have B2:=(B2.J exq).Y (K3 _ Kh);have B1:=(B1.J exq).Y (K3 _ Kh);have O1:=(O1.J exq).W K3 Kh;have R1:=(R1.J exq).W K3 Kh;have W2:=(W2.J E12).W K3 Kh;have X2:=(X2.J E12).W K3 Kh
    refine Xr Z<|Vp<|Vt<|Vr<|Uh Jq Jj B2 Z<|Uh Jq Jj B3 Z<|Vs Z (Xa (a:=.agg _) (b:=.agg _) Vh Z Z) (kE _ _ _ _ _ (Kw O1) (Kw R1) (Kw W2) (Kw X2)) ?_;rintro _ w10 ⟨rfl,E19⟩;have:=E19.Z;refine Xz Z<|Uf Z (Xj (v:=.bool _) Z) (fun h2=>?_) (fun h2=>?_);exact Ks;refine Yv Z<|Yv Z<|Wo Z (Uo Z Z)<|Xb Z<|Vp<|Sh Z fun h3=>?_;refine Vw<|Vt<|Vt<|Ym<|Uh Jq Jj (B1.J E19) Z<|Vs Z (Xh (a:=.agg _) Gv Z) (kO _ _ _ (Ku exq W1) (Ku exq X1)) ?_;rintro _ w11 ⟨rfl,E20⟩;have:=E20.Z;refine Xz Z<|Vp<|Uk Z fun h4=>?_
    refine Vw<|Vr<|Uh Jq Jj (B1.J exq) Z<|Vs Z (Xa (a:=.agg _) (b:=.string _) Tryz.call13 Z Z) (k0 _ _ _ (Ku exq hM) (Ku exq hT) (Ku exq W1) (Ku exq X1)) ?_;rintro _ w12 ⟨u4,q4,m2,rfl,E21,O2,R2,J2,hn2⟩;have V4:=Kx O2;have N4:=Kx (Je R2);have:=E21.Z;refine Ut Z<|Mu Z<|Sr Z<|Xk Z Ug ?_;rintro b4 w13 H4 E22 B4;refine Uu Z Jj Z Z Kl Kl B4 Kh ((((E13.K E19).K E20).K E21).K E22) ?_;rintro w14 E23 B4 K4 Z4;have E24:=((((E14.K E19).K E20).K E21).K E22).A exq E23 K4 Z4 Kh;have B2:=(B2.J exq).Y (K4 _ Kh);have B1:=(B1.J exq).Y (K4 _ Kh)
    have O1:=(O1.J exq).W K4 Kh;have R1:=(R1.J exq).W K4 Kh;have O2:=(O2.J E22).W K4 Kh;have R2:=(R2.toB.J E22).W K4 Kh;refine Xr Z<|Vp<|Vr<|Uh Jq Jj B2 Z<|Vs Z (Xh (a:=.agg _) Tryz.call19 Z) (kO2 _ _ _ (Kw O1) (Kw R1)) ?_;rintro _ w15 ⟨rfl,E33⟩;refine Xp Z<|Yv Z<|Wo Z (Yi Z Z)<|Ui Z fun h5=>?_;refine Uh Jq Jj (B2.J E33) Z<|Uh Jq Jj (B1.J E33) Z<|Vs Z (Xa (a:=.agg _) (b:=.agg _) Vh Z Z) (kE _ _ _ _ _ ((Ku E33 (Kw O1))) ((Ku E33 (Kw R1))) (Ku exq W1) (Ku exq X1)) ?_;rintro _ w16 ⟨rfl,E34⟩
    refine Xb Z<|Xy Z<|Xp Z<|Uh Jq Jj (B4.J exq) Z<|Uh Jq Jj (B1.J exq) Z<|Vs Z (Xa (a:=.agg _) (b:=.agg _) Vh Z Z) (kE _ _ _ _ _ ((Ku exq (Kw O2))) ((Ku exq (Kw R2))) (Ku exq W1) (Ku exq X1)) ?_;rintro _ w17 ⟨rfl,E35⟩;refine Xy Z<|Xp Z<|Yv Z<|Wo Z (Yi Z Z)<|Xy Z<|Ya Z<|Vp<|Vy ?_;exact ⟨rfl,exq⟩
 ·have e : ∀ s,dlV ⟨x1,y1⟩ s=(⟨[],[]⟩,[]):=fun s=>if_neg hd
  rw [e] at k1 kS
  clear k0
  simp only at k1 kS
  have kE:=same [] []
  have kN : ∀ (w:World) (v1 v2:Value),ESl Ints w v1 []→ESl (ESl Ints) w v2 []→Does Tryz.prog 17 [.agg #[v1,v2]] w (Ret w (.bool true)):=fun w v1 v2 h1 h2=>noDesk_ok w v1 v2 [] [] h1 h2
  have kO : ∀ (w:World) (v1 v2:Value),ESl Ints w v1 x1→ESl (ESl Ints) w v2 y1→Does Tryz.prog 16 [.agg #[v1,v2]] w (Ret w (.bool false)):=fun w v1 v2 h1 h2=>by
   have:=Sa w v1 v2 ⟨x1,y1⟩ h1 h2;rwa [decide_eq_false hd] at this
  focus
   refine Ym<|Uh Jq Jj B1 Z<|Yv Z<|Vs Z (Xa (a:=.agg _) (b:=.string _) Tryz.call13 Z Z) (k1 _ _ _ (Ku E3 hM) (Ku E3 hT) (Ku E4 W1) (Ku E4 X1)) ?_;rintro _ w4 ⟨u2,q2,m1,rfl,E5,O1,R1,J1,hn1⟩;have V2:=Kx O1;have N2:=Kx (Je R1);have:=E5.Z;refine Ut Z<|Mu Z<|Sr Z<|Xk Z Ug ?_;rintro b2 w5 H2 E6 B2;have:=B2.lt;refine Uw Jj B2 Z ((E3.K E5).K E6) ?_;rintro w6 E7 B2 K2 Z2;have E8:=((E4.K E5).K E6).A exq E7 K2 Z2 Kh;have B1:=(B1.J exq).Y (K2 _ Kh);have O1:=(O1.J E6).W K2 Kh;have R1:=(R1.toB.J E6).W K2 Kh
   refine Xr Z<|Vp<|Vr<|Uh Jq Jj B1 Z<|Yv Z<|Vs Z (Xa (a:=.agg _) (b:=.string _) Tryz.call14 Z Z) (kS _ _ _ (Ku E8 W1) (Ku E8 X1)) ?_;rintro _ w7 ⟨u3,q3,rfl,E11,W2,X2,V3,N3⟩;have:=E11.Z;refine Ut Z<|Mu Z<|Sr Z<|Xk Z Ug ?_;rintro b3 w8 H3 E12 B3;refine Uw Jj B3 Z ((E7.K E11).K E12) ?_;rintro w9 E13 B3 K3 Z3;have E14:=((E8.K E11).K E12).A exq E13 K3 Z3 Kh;have B2:=(B2.J exq).Y (K3 _ Kh);have B1:=(B1.J exq).Y (K3 _ Kh);have O1:=(O1.J exq).W K3 Kh;have R1:=(R1.J exq).W K3 Kh;have W2:=(W2.J E12).W K3 Kh;have X2:=(X2.J E12).W K3 Kh
   refine Xr Z<|Vp<|Vt<|Vr<|Uh Jq Jj B2 Z<|Uh Jq Jj B3 Z<|Vs Z (Xa (a:=.agg _) (b:=.agg _) Vh Z Z) (kE _ _ _ _ _ (Kw O1) (Kw R1) (Kw W2) (Kw X2)) ?_;rintro _ w10 ⟨rfl,E19⟩;refine Xz Z<|Uf Z (Xj (v:=.bool _) Z) (fun h2=>?_) (fun h2=>?_);exact Ks;refine Yv Z<|Yv Z<|Wo Z (Uo Z Z)<|Xb Z<|Vp<|Sh Z fun h3=>?_;refine Vw<|Vt<|Vt<|Ym<|Uh Jq Jj (B1.J E19) Z<|Vs Z (Xh (a:=.agg _) Gv Z) (kO _ _ _ (Ku exq W1) (Ku exq X1)) ?_;rintro _ w11 ⟨rfl,E20⟩;refine Xz Z<|Vp<|Up Z (fun h4=>?_) (fun h4=>?_)
   refine Vr<|Yv Z<|Wo Z (Yi Z Z)<|Xi Z (fun h5=>?_) (fun h5=>?_);refine Uh Jq Jj (B2.J exq) Z<|Vs Z (Xh (a:=.agg _) Tryz.call17 Z) (kN _ _ _ ((Ku exq (Kw O1))) ((Ku exq (Kw R1)))) ?_;rintro _ w12 ⟨rfl,E21⟩;refine Xy Z<|Xp Z<|Vs Z (opc0 Tryz.call18) (alive_ok _) ?_;rintro _ w13 ⟨rfl,E22⟩;refine Xy Z<|Ya Z<|Vp<|Vy ?_;exact ⟨rfl,exq⟩;exact Ks;exact Ks
end Go.Proofs.YtbgpppaljpngmaaGreatDoor
namespace Go
variable {H:Type} {enc:TypeId × Value→H}
theorem Ny {a:Assume} {C:Checked} {os:Os} {f:FuncId} {fn:Func} {s:ChangeSpec} {conds:List PathCond} {apart fresh handsOn again:Bool} {X:World→Array Value→Prop}
  (hX : ∀ (w w':World) (args:Array Value),w.heap=w'.heap→X w args→X w' args)
  (own:ownKnob C.prog.godebug=none) (started:os.Started) (noInit:C.prog.inits.idxOf? f=none) (hfn:C.prog.funcs[f]? = some fn)
  (witness : ∃ (w:World) (tape:Tape) (i:Input),w.os=os∧(w.forCall tape i).Shaped C.prog∧i.vars=[]∧Input.okWide C.prog (w.forCall tape i) .any w.heap.size f i ∧
   ((s.pre enc C.prog fn conds apart (w.forCall tape i).memory i.args∧X (w.forCall tape i).memory i.args)∧sizedMet enc C.prog fn (OpenSpec.ofChange s) apart (w.forCall tape i).memory i.args)∧a.holds C.prog (lone (Frame.enter C.prog f i.args .normal) [] (w.forCall tape i)))
  (contract : ∀ (W:World) (base:Nat) (args:Array Value) (ds gs:List (DataW H)) (before:List MemPlace),
   (∀ (j:Nat) t v,fn.params[j]? = some t→args[j]? = some v→Value.okWide C.prog W .any base t v) →
   DataW.Whole enc C.prog fn.params.toList s.vars apart W args.toList ds gs before→W.ShapedOpen C.prog→X W args →
   Calls C.prog f args W fun e W'=>∃ v,e=.returned v∧s.post enc C.prog fn apart fresh handsOn again W args v W') :
  ReturnsInHanded a C os f .any (fun w args=>(s.pre enc C.prog fn conds apart w args∧X w args)∧sizedMet enc C.prog fn (OpenSpec.ofChange s) apart w args) (s.post enc C.prog fn apart fresh handsOn again):=by
 refine returnsInHanded_of_calls own started noInit witness ?_
 intro w tape i _ hsh _ hok hpre hholds
 obtain ⟨_,_,_,fn',hfn',_,_,_,_,hval⟩:=hok
 have e:fn'=fn:=Option.some.inj (hfn'.symm.trans hfn)
 subst e
 obtain ⟨⟨⟨ds,gs,before,hw,hc⟩,hx⟩,hz⟩:=hpre
 have hw':=DataW.Whole.of_heap (w':=w.forCall tape i) (by rfl) hw
 refine (contract (w.forCall tape i) w.heap.size i.args ds gs before hval hw' hsh (hX _ _ _ (by rfl) hx)).mono fun e W' ⟨v,he,hp⟩=>?_
 subst he
 exact ChangeSpec.post_blind hp
end Go
namespace Go.Proofs.YtbgpppaljpngmaaGreatDoor
open Go.Hs
def isTb (x:String × DataW Unit):Bool:=match x.2 with
 | .agg (.lit (.int .u64 _)::_)=>true
 | _=>false
theorem etb_of {W : World} {l : List (String × DataW Unit)} (h : laidMetH Tryz.prog l W) (hl : l.filter isTb = [("internal/strconv.uint64pow10", Go.Lib.tabData .u64 Go.Lib.pow10Tab)]) : ETb W (.bool true) () := by
 have h1:=laidMetH.filter isTb h
 rw [hl,MakeChecks.laidMetH_plain _ _ _ Ki] at h1
 exact Go.Lib.tabIs_of_head (g:=1) (t:=185) (e:=171) (n:=20) Ki Ki Tryz.underlying185 Tryz.underlying171 Ki Ki h1
end Go.Proofs.YtbgpppaljpngmaaGreatDoor
