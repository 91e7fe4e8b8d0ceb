/- Lemmas for FnDeskSay. -/
import Derived.Test.YtbgpppaljpngmaaGreatDoorMFnDeskSay9
import Derived.LaidSub
namespace Go.Proofs.YtbgpppaljpngmaaGreatDoor
open Go.Hs
set_option maxRecDepth 10000
set_option maxHeartbeats 4000000
set_option linter.unusedVariables false
set_option linter.unusedSimpArgs false
theorem Line_ok {w0:World} (w:World) {br m lo:Nat} (u1 u2:Value) (p:List (List Int)) (hr:Rdr w0 w br m) (hm:m≤1000000) (hA:Above lo (ESl Ints) w u1 p) (hlo:br < lo) (hlo2:lo < w.heap.size) (i2:isCell u2=true) (hp:NowP p) :
  Dz 57 [.pointer (some ⟨br,0,none⟩),.agg #[u1,u2]] w (RetDSt w0 w br (m+100) (fun s=>s.length≤1000)):=by
 have i1:isCell u1=true:=Qy hA.here
 refine Yx Tryz.func57 Z Tryz.results57 Tryz.ntmps57 Z ?_
 have hG:w.grownBy w (some br):=Sb _ _
 have hlr:=hr.lt
 have kD:=fun (w:World) (m':Nat) (hr:Rdr w0 w br m') (hm:m'≤10000000) (hA:Above lo (ESl Ints) w u1 p) (hl:lo < w.heap.size)=>Deed_ok w u1 u2 p hr hm hA hlo hl i2 hp
 have kT:=fun (w:World) (k n:Int) (t:List UInt8) (h:DrP ⟨k,t,n⟩)=>Lb w k n t (by have:=h.2.2.1;simp only at this;omega)
 focus
  refine Vw<|Xx Z Z Z ?_;rintro b1 w1 R1 E1 B1;have:=B1.lt;have hr:=hr.J E1;have hG:=Yk hG E1;refine Xy Z<|Vt<|Vx<|Vw<|Qa Z<|Vv Z (Xd (a:=.pointer _) (b:=.int _ _) Jy Z Z) (Xv _ _ Kk Kh) ?_;rintro _ w2 ⟨y1,rfl,E2,Z1,L1⟩;(try dsimp only at L1);have:=Z1.lt;have hA:=(hA.J E1).G E2 Kh;have B1:=B1.G E2 Kb;have hG:=Yj hG E2;have P2:=E2.Z;refine Vt<|Ye<|Vx<|Vw<|Yt Z<|Yf Z<|Vt<|Vy Z (fun h1=>?_) (fun h1=>?_);refine Ya<|Vy Z (fun h2=>?_) (fun h2=>?_)
  refine Vw<|Xf (ps:=[(0,.string _),(1,.string _),(2,.string _),(3,.string _),(4,.string _),(5,.string _)]) (cs:=[_,_,_,_,_,_]) Z Js Jn Ge Z Z Z Z ?_;rintro b2 w3 R2 E3 B2;have Z1:=Z1.J E3;have hG:=Yk hG E3;refine Qa Z<|Vv Z (Xd (a:=.pointer _) (b:=.int _ _) Jy Z Z) (Xv _ _ Kk Kh) ?_;rintro _ w4 ⟨y2,rfl,E4,Z2,L2⟩;(try dsimp only at L2);have B2:=B2.G E4 Kb;have hG:=Yj hG E4;refine Wo Z (Yo Js Jn Z Z Kh) ?_;refine Ui 1 Jp Z Z B2 Ka Kc ?_;intro s1 P1
  refine Xy Z<|Vt<|Yc ?_;refine Yl (v:=.string _) Z ?_;rotate_left;exact Ks;refine Ys<|Yt Z<|Yf Z<|Vt<|Vy Z (fun h2=>?_) (fun h2=>?_);refine Vw<|Xf (ps:=[(0,.string _),(1,.string _),(2,.string _),(3,.string _),(4,.string _),(5,.string _)]) (cs:=[_,_,_,_,_,_]) Z Js Jn Ge Z Z Z Z ?_;rintro b2 w3 R2 E3 B2;have Z1:=Z1.J E3;have hG:=Yk hG E3;refine Qa Z<|Vv Z (Xd (a:=.pointer _) (b:=.int _ _) Jy Z Z) (Xv _ _ Kk Kh) ?_;rintro _ w4 ⟨y2,rfl,E4,Z2,L2⟩;(try dsimp only at L2);have B2:=B2.G E4 Kb;have hG:=Yj hG E4;refine Wo Z (Yo Js Jn Z Z Kh) ?_
  refine Ui 1 Jp Z Z B2 Ka Kc ?_;intro s1 P1;refine Xy Z<|Vt<|Yc ?_;refine Yl (v:=.string _) Z ?_;rotate_left;refine Vw<|Yt Z<|Yf Z<|Vt<|Vy Z (fun h3=>?_) (fun h3=>?_);refine Vw<|Xf (ps:=[(0,.string _),(1,.string _),(2,.string _),(3,.string _),(4,.string _),(5,.string _),(6,.string _),(7,.string _),(8,.string _),(9,.string _),(10,.string _),(11,.string _)]) (cs:=[_,_,_,_,_,_,_,_,_,_,_,_]) Z Js Jn Ge Z Z Z Z ?_;rintro b2 w3 R2 E3 B2;have Z1:=Z1.J E3;have hG:=Yk hG E3
  refine Qa Z<|Vv Z (Xd (a:=.pointer _) (b:=.int _ _) Jy Z Z) (Xv _ _ Kk Kh) ?_;rintro _ w4 ⟨y2,rfl,E4,Z2,L2⟩;(try dsimp only at L2);have B2:=B2.G E4 Kb;have hG:=Yj hG E4;refine Wo Z (Yo Js Jn Z Z Kh) ?_;refine Ui 0 Jp Z Z B2 Ka Kc ?_;intro s1 P1;refine Xy Z<|Vt<|Yc ?_;refine Yl (v:=.string _) Z ?_;rotate_left;refine Vw<|Yt Z<|Yf Z<|Vt<|Vy Z (fun h4=>?_) (fun h4=>?_)
  refine Vw<|Qa Z<|Vv Z (Xd (a:=.pointer _) (b:=.int _ _) Tryz.call107 Z Z) (formed_ok _ _ Kk Kh Kh) ?_;rintro _ w3 ⟨y2,rfl,E3,Z2,L2⟩;(try dsimp only at L2);have hG:=Yj hG E3;refine Wo Z (Yw Z Z Kf) ?_;refine Xy Z<|Vt<|Yc ?_;refine Yl (v:=.string _) Z ?_;rotate_left;refine Vx<|Ys<|Yt Z<|Yf Z<|Vt<|Vy Z (fun h5=>?_) (fun h5=>?_);refine Vx<|Rl (fun _=>True) mixed Z Ki ?_;intro w3 E3 K1 Q1;have Z1:=Z1.J E3;have hG:=Yk hG E3;refine WtmP 1 Z Z trivial<|WtmP 6 Z Z trivial<|Wha [0,2,5]<|Yi Z ?_ ?_;refine Xf (ps:=[(0,.string _),(1,.string _)]) (cs:=[_,_]) Z Js Jn Ge Z Z Z Z ?_
  rintro b2 w4 R2 E4 B2;have:=B2.lt;have Z1:=Z1.J E4;have hG:=Yk hG E4;refine Wnt<|Wha [2,5]<|Yi Z ?_ ?_;refine Vv Z (Xd (a:=.pointer _) (b:=.int _ _) Jy Z Z) (Xv _ _ Kk Kh) ?_;rintro _ w5 ⟨y2,rfl,E5,Z2,L2⟩;(try dsimp only at L2);have:=Z2.lt;have B2:=B2.G E5 Kb;have hG:=Yj hG E5;refine Wnt<|Yg 3 Z Ki Ki Z (fun _ _=>Yo Js Jn Z Z Kh) trivial ?_;refine Wha [4,5,7]<|Yi Z ?_ ?_;refine Ui 1 Jp Z Z B2 Ka Kc ?_;intro s1 P1;refine Wnt<|Wha [5,7]<|Yi Z ?_ ?_
  refine Xf (ps:=[(0,.string _),(1,.string _),(2,.string _),(3,.string _),(4,.string _)]) (cs:=[_,_,_,_,_]) Z Js Jn Ge Z Z Z Z ?_;rintro b3 w6 R3 E6 B3;have Z2:=Z2.J E6;have hG:=Yk hG E6;refine Wnt<|Wha [7]<|Wh1 Z<|Vv Z (Xd (a:=.pointer _) (b:=.int _ _) Jy Z Z) (Xv _ _ Kk Kh) ?_;rintro _ w7 ⟨y3,rfl,E7,Z3,L3⟩;(try dsimp only at L3);have B3:=B3.G E7 Kb;have hG:=Yj hG E7;refine Wnt<|Yg 8 Z Ki Ki Z (fun _ _=>Yo Js Jn Z Z Kh) trivial ?_
  refine Wha [9]<|Wh1 Z<|Ui 0 Jp Z Z B3 Ka Kc ?_;intro s2 P2;refine Wnt<|Yg 10 Z Ki Ki Z (fun _ _=>Yw Z Z Kh) trivial ?_;refine Uw 11 Z Z trivial<|Yr Ki ?_;refine Yc ?_;refine Yl (v:=.string _) Z ?_;rotate_left;refine Wh1 Z<|Vv Z (Xd (a:=.pointer _) (b:=.int _ _) Jy Z Z) (Xv _ _ Kk Kh) ?_;rintro _ w6 ⟨y3,rfl,E6,Z3,L3⟩;(try dsimp only at L3);have hG:=Yj hG E6
  refine Wnt<|Wha [5]<|Wh1 Z<|Xf (ps:=[(0,.string _),(1,.string _),(2,.string _),(3,.string _),(4,.string _)]) (cs:=[_,_,_,_,_]) Z Js Jn Ge Z Z Z Z ?_;rintro b3 w7 R3 E7 B3;have Z3:=Z3.J E7;have hG:=Yk hG E7;refine Wnt<|Yg 8 Z Ki Ki Z (fun _ _=>Yo Js Jn Z Z Kh) trivial ?_;refine Wha [9]<|Wh1 Z<|Ui 0 Jp Z Z B3 Ka Kc ?_;intro s2 P2;refine Wnt<|Yg 10 Z Ki Ki Z (fun _ _=>Yw Z Z Kh) trivial ?_;refine Uw 11 Z Z trivial<|Yr Ki ?_;refine Yc ?_
  refine Yl (v:=.string _) Z ?_;rotate_left;refine Yi Z ?_ ?_;refine Xf (ps:=[(0,.string _),(1,.string _),(2,.string _),(3,.string _),(4,.string _)]) (cs:=[_,_,_,_,_]) Z Js Jn Ge Z Z Z Z ?_;rintro b3 w6 R3 E6 B3;have Z2:=Z2.J E6;have hG:=Yk hG E6;refine Wnt<|Wha [4,7]<|Yi Z ?_ ?_;refine Ui 1 Jp Z Z (B2.J E6) Ka Kc ?_;intro s1 P1;refine Wnt<|Wha [7]<|Wh1 Z<|Vv Z (Xd (a:=.pointer _) (b:=.int _ _) Jy Z Z) (Xv _ _ Kk Kh) ?_;rintro _ w7 ⟨y3,rfl,E7,Z3,L3⟩;(try dsimp only at L3)
  have B3:=B3.G E7 Kb;have hG:=Yj hG E7;refine Wnt<|Yg 8 Z Ki Ki Z (fun _ _=>Yo Js Jn Z Z Kh) trivial ?_;refine Wha [9]<|Wh1 Z<|Ui 0 Jp Z Z B3 Ka Kc ?_;intro s2 P2;refine Wnt<|Yg 10 Z Ki Ki Z (fun _ _=>Yw Z Z Kh) trivial ?_;refine Uw 11 Z Z trivial<|Yr Ki ?_;refine Yc ?_;refine Yl (v:=.string _) Z ?_;rotate_left;refine Wh1 Z<|Vv Z (Xd (a:=.pointer _) (b:=.int _ _) Jy Z Z) (Xv _ _ Kk Kh) ?_;rintro _ w7 ⟨y3,rfl,E7,Z3,L3⟩
  (try dsimp only at L3);have B2:=(B2.J E6).G E7 Kb;have B3:=B3.G E7 Kb;have hG:=Yj hG E7;refine Wnt<|Yg 8 Z Ki Ki Z (fun _ _=>Yo Js Jn Z Z Kh) trivial ?_;refine Wha [4,9]<|Yi Z ?_ ?_;refine Ui 1 Jp Z Z B2 Ka Kc ?_;intro s1 P1;refine Wnt<|Wha [9]<|Wh1 Z<|Ui 0 Jp Z Z B3 Ka Kc ?_;intro s2 P2
  refine Wnt<|Yg 10 Z Ki Ki Z (fun _ _=>Yw Z Z Kh) trivial ?_;refine Uw 11 Z Z trivial<|Yr Ki ?_;refine Yc ?_;refine Yl (v:=.string _) Z ?_;rotate_left;refine Wh1 Z<|Ui 0 Jp Z Z B3 Ka Kc ?_;intro s1 P1;refine Wnt<|Wha [4]<|Wh1 Z<|Ui 1 Jp Z Z B2 Ka Kc ?_;intro s2 P2;refine Wnt<|Yg 10 Z Ki Ki Z (fun _ _=>Yw Z Z Kh) trivial ?_;refine Uw 11 Z Z trivial<|Yr Ki ?_;refine Yc ?_
  refine Yl (v:=.string _) Z ?_;rotate_left;refine Wh1 Z<|Vv Z (Xd (a:=.pointer _) (b:=.int _ _) Jy Z Z) (Xv _ _ Kk Kh) ?_;rintro _ w6 ⟨y3,rfl,E6,Z3,L3⟩;(try dsimp only at L3);have B2:=B2.G E6 Kb;have hG:=Yj hG E6;refine Wnt<|Wha [4,5]<|Yi Z ?_ ?_;refine Ui 1 Jp Z Z B2 Ka Kc ?_;intro s1 P1;refine Wnt<|Wha [5]<|Wh1 Z<|Xf (ps:=[(0,.string _),(1,.string _),(2,.string _),(3,.string _),(4,.string _)]) (cs:=[_,_,_,_,_]) Z Js Jn Ge Z Z Z Z ?_;rintro b3 w7 R3 E7 B3;have Z3:=Z3.J E7
  have hG:=Yk hG E7;refine Wnt<|Yg 8 Z Ki Ki Z (fun _ _=>Yo Js Jn Z Z Kh) trivial ?_;refine Wha [9]<|Wh1 Z<|Ui 0 Jp Z Z B3 Ka Kc ?_;intro s2 P2;refine Wnt<|Yg 10 Z Ki Ki Z (fun _ _=>Yw Z Z Kh) trivial ?_;refine Uw 11 Z Z trivial<|Yr Ki ?_;refine Yc ?_;refine Yl (v:=.string _) Z ?_;rotate_left;refine Wh1 Z<|Xf (ps:=[(0,.string _),(1,.string _),(2,.string _),(3,.string _),(4,.string _)]) (cs:=[_,_,_,_,_]) Z Js Jn Ge Z Z Z Z ?_;rintro b3 w7 R3 E7 B3
  have Z3:=Z3.J E7;have hG:=Yk hG E7;refine Wnt<|Yg 8 Z Ki Ki Z (fun _ _=>Yo Js Jn Z Z Kh) trivial ?_;refine Wha [4,9]<|Yi Z ?_ ?_;refine Ui 1 Jp Z Z (B2.J E7) Ka Kc ?_;intro s1 P1;refine Wnt<|Wha [9]<|Wh1 Z<|Ui 0 Jp Z Z B3 Ka Kc ?_;intro s2 P2;refine Wnt<|Yg 10 Z Ki Ki Z (fun _ _=>Yw Z Z Kh) trivial ?_;refine Uw 11 Z Z trivial<|Yr Ki ?_;refine Yc ?_
  refine Yl (v:=.string _) Z ?_;rotate_left;refine Wh1 Z<|Ui 0 Jp Z Z B3 Ka Kc ?_;intro s1 P1;refine Wnt<|Wha [4]<|Wh1 Z<|Ui 1 Jp Z Z (B2.J E7) Ka Kc ?_;intro s2 P2;refine Wnt<|Yg 10 Z Ki Ki Z (fun _ _=>Yw Z Z Kh) trivial ?_;refine Uw 11 Z Z trivial<|Yr Ki ?_;refine Yc ?_;refine Yl (v:=.string _) Z ?_;rotate_left
  refine Wh1 Z<|Xf (ps:=[(0,.string _),(1,.string _),(2,.string _),(3,.string _),(4,.string _)]) (cs:=[_,_,_,_,_]) Z Js Jn Ge Z Z Z Z ?_;rintro b3 w5 R3 E5 B3;have Z1:=Z1.J E5;have hG:=Yk hG E5;refine Wnt<|Wha [2]<|Wh1 Z<|Vv Z (Xd (a:=.pointer _) (b:=.int _ _) Jy Z Z) (Xv _ _ Kk Kh) ?_;rintro _ w6 ⟨y2,rfl,E6,Z2,L2⟩;(try dsimp only at L2);have B2:=(B2.J E5).G E6 Kb;have B3:=B3.G E6 Kb;have hG:=Yj hG E6;refine Wnt<|Yg 3 Z Ki Ki Z (fun _ _=>Yo Js Jn Z Z Kh) trivial ?_;refine Wha [4,7]<|Yi Z ?_ ?_
  refine Ui 1 Jp Z Z B2 Ka Kc ?_;intro s1 P1;refine Wnt<|Wha [7]<|Wh1 Z<|Vv Z (Xd (a:=.pointer _) (b:=.int _ _) Jy Z Z) (Xv _ _ Kk Kh) ?_;rintro _ w7 ⟨y3,rfl,E7,Z3,L3⟩;(try dsimp only at L3);have B3:=B3.G E7 Kb;have hG:=Yj hG E7;refine Wnt<|Yg 8 Z Ki Ki Z (fun _ _=>Yo Js Jn Z Z Kh) trivial ?_;refine Wha [9]<|Wh1 Z<|Ui 0 Jp Z Z B3 Ka Kc ?_;intro s2 P2
  refine Wnt<|Yg 10 Z Ki Ki Z (fun _ _=>Yw Z Z Kh) trivial ?_;refine Uw 11 Z Z trivial<|Yr Ki ?_;refine Yc ?_;refine Yl (v:=.string _) Z ?_;rotate_left;refine Wh1 Z<|Vv Z (Xd (a:=.pointer _) (b:=.int _ _) Jy Z Z) (Xv _ _ Kk Kh) ?_;rintro _ w7 ⟨y3,rfl,E7,Z3,L3⟩;(try dsimp only at L3);have B2:=B2.G E7 Kb;have B3:=B3.G E7 Kb;have hG:=Yj hG E7;refine Wnt<|Yg 8 Z Ki Ki Z (fun _ _=>Yo Js Jn Z Z Kh) trivial ?_;refine Wha [4,9]<|Yi Z ?_ ?_
  refine Ui 1 Jp Z Z B2 Ka Kc ?_;intro s1 P1;refine Wnt<|Wha [9]<|Wh1 Z<|Ui 0 Jp Z Z B3 Ka Kc ?_;intro s2 P2;refine Wnt<|Yg 10 Z Ki Ki Z (fun _ _=>Yw Z Z Kh) trivial ?_;refine Uw 11 Z Z trivial<|Yr Ki ?_;refine Yc ?_;refine Yl (v:=.string _) Z ?_;rotate_left;refine Wh1 Z<|Ui 0 Jp Z Z B3 Ka Kc ?_;intro s1 P1
  refine Wnt<|Wha [4]<|Wh1 Z<|Ui 1 Jp Z Z B2 Ka Kc ?_;intro s2 P2;refine Wnt<|Yg 10 Z Ki Ki Z (fun _ _=>Yw Z Z Kh) trivial ?_;refine Uw 11 Z Z trivial<|Yr Ki ?_;refine Yc ?_;refine Yl (v:=.string _) Z ?_;rotate_left;refine Yi Z ?_ ?_;refine Vv Z (Xd (a:=.pointer _) (b:=.int _ _) Jy Z Z) (Xv _ _ Kk Kh) ?_;rintro _ w4 ⟨y2,rfl,E4,Z2,L2⟩;(try dsimp only at L2);have:=Z2.lt;have hG:=Yj hG E4;refine Wnt<|Wha [0,5,7]<|Yi Z ?_ ?_
  refine Xf (ps:=[(0,.string _),(1,.string _)]) (cs:=[_,_]) Z Js Jn Ge Z Z Z Z ?_;rintro b2 w5 R2 E5 B2;have:=B2.lt;have Z2:=Z2.J E5;have hG:=Yk hG E5;refine Wnt<|Yg 3 Z Ki Ki Z (fun _ _=>Yo Js Jn Z Z Kh) trivial ?_;refine Wha [4,5,7]<|Yi Z ?_ ?_;refine Ui 1 Jp Z Z B2 Ka Kc ?_;intro s1 P1;refine Wnt<|Wha [5,7]<|Yi Z ?_ ?_;refine Xf (ps:=[(0,.string _),(1,.string _),(2,.string _),(3,.string _),(4,.string _)]) (cs:=[_,_,_,_,_]) Z Js Jn Ge Z Z Z Z ?_
  rintro b3 w6 R3 E6 B3;have Z2:=Z2.J E6;have hG:=Yk hG E6;refine Wnt<|Wha [7]<|Wh1 Z<|Vv Z (Xd (a:=.pointer _) (b:=.int _ _) Jy Z Z) (Xv _ _ Kk Kh) ?_;rintro _ w7 ⟨y3,rfl,E7,Z3,L3⟩;(try dsimp only at L3);have B3:=B3.G E7 Kb;have hG:=Yj hG E7;refine Wnt<|Yg 8 Z Ki Ki Z (fun _ _=>Yo Js Jn Z Z Kh) trivial ?_;refine Wha [9]<|Wh1 Z<|Ui 0 Jp Z Z B3 Ka Kc ?_;intro s2 P2;refine Wnt<|Yg 10 Z Ki Ki Z (fun _ _=>Yw Z Z Kh) trivial ?_
  refine Uw 11 Z Z trivial<|Yr Ki ?_;refine Yc ?_;refine Yl (v:=.string _) Z ?_;rotate_left;refine Wh1 Z<|Vv Z (Xd (a:=.pointer _) (b:=.int _ _) Jy Z Z) (Xv _ _ Kk Kh) ?_;rintro _ w6 ⟨y3,rfl,E6,Z3,L3⟩;(try dsimp only at L3);have hG:=Yj hG E6;refine Wnt<|Wha [5]<|Wh1 Z<|Xf (ps:=[(0,.string _),(1,.string _),(2,.string _),(3,.string _),(4,.string _)]) (cs:=[_,_,_,_,_]) Z Js Jn Ge Z Z Z Z ?_;rintro b3 w7 R3 E7 B3;have Z3:=Z3.J E7;have hG:=Yk hG E7;refine Wnt<|Yg 8 Z Ki Ki Z (fun _ _=>Yo Js Jn Z Z Kh) trivial ?_
  refine Wha [9]<|Wh1 Z<|Ui 0 Jp Z Z B3 Ka Kc ?_;intro s2 P2;refine Wnt<|Yg 10 Z Ki Ki Z (fun _ _=>Yw Z Z Kh) trivial ?_;refine Uw 11 Z Z trivial<|Yr Ki ?_;refine Yc ?_;refine Yl (v:=.string _) Z ?_;rotate_left;refine Yi Z ?_ ?_;refine Xf (ps:=[(0,.string _),(1,.string _),(2,.string _),(3,.string _),(4,.string _)]) (cs:=[_,_,_,_,_]) Z Js Jn Ge Z Z Z Z ?_;rintro b3 w6 R3 E6 B3;have Z2:=Z2.J E6;have hG:=Yk hG E6;refine Wnt<|Wha [4,7]<|Yi Z ?_ ?_
  refine Ui 1 Jp Z Z (B2.J E6) Ka Kc ?_;intro s1 P1;refine Wnt<|Wha [7]<|Wh1 Z<|Vv Z (Xd (a:=.pointer _) (b:=.int _ _) Jy Z Z) (Xv _ _ Kk Kh) ?_;rintro _ w7 ⟨y3,rfl,E7,Z3,L3⟩;(try dsimp only at L3);have B3:=B3.G E7 Kb;have hG:=Yj hG E7;refine Wnt<|Yg 8 Z Ki Ki Z (fun _ _=>Yo Js Jn Z Z Kh) trivial ?_;refine Wha [9]<|Wh1 Z<|Ui 0 Jp Z Z B3 Ka Kc ?_;intro s2 P2
  refine Wnt<|Yg 10 Z Ki Ki Z (fun _ _=>Yw Z Z Kh) trivial ?_;refine Uw 11 Z Z trivial<|Yr Ki ?_;refine Yc ?_;refine Yl (v:=.string _) Z ?_;rotate_left;refine Wh1 Z<|Vv Z (Xd (a:=.pointer _) (b:=.int _ _) Jy Z Z) (Xv _ _ Kk Kh) ?_;rintro _ w7 ⟨y3,rfl,E7,Z3,L3⟩;(try dsimp only at L3);have B2:=(B2.J E6).G E7 Kb;have B3:=B3.G E7 Kb;have hG:=Yj hG E7;refine Wnt<|Yg 8 Z Ki Ki Z (fun _ _=>Yo Js Jn Z Z Kh) trivial ?_;refine Wha [4,9]<|Yi Z ?_ ?_
  refine Ui 1 Jp Z Z B2 Ka Kc ?_;intro s1 P1;refine Wnt<|Wha [9]<|Wh1 Z<|Ui 0 Jp Z Z B3 Ka Kc ?_;intro s2 P2;refine Wnt<|Yg 10 Z Ki Ki Z (fun _ _=>Yw Z Z Kh) trivial ?_;refine Uw 11 Z Z trivial<|Yr Ki ?_;refine Yc ?_;refine Yl (v:=.string _) Z ?_;rotate_left;refine Wh1 Z<|Ui 0 Jp Z Z B3 Ka Kc ?_;intro s1 P1
  refine Wnt<|Wha [4]<|Wh1 Z<|Ui 1 Jp Z Z B2 Ka Kc ?_;intro s2 P2;refine Wnt<|Yg 10 Z Ki Ki Z (fun _ _=>Yw Z Z Kh) trivial ?_;refine Uw 11 Z Z trivial<|Yr Ki ?_;refine Yc ?_;refine Yl (v:=.string _) Z ?_;rotate_left;refine Wh1 Z<|Vv Z (Xd (a:=.pointer _) (b:=.int _ _) Jy Z Z) (Xv _ _ Kk Kh) ?_;rintro _ w6 ⟨y3,rfl,E6,Z3,L3⟩;(try dsimp only at L3);have B2:=B2.G E6 Kb;have hG:=Yj hG E6;refine Wnt<|Wha [4,5]<|Yi Z ?_ ?_
  refine Ui 1 Jp Z Z B2 Ka Kc ?_;intro s1 P1;refine Wnt<|Wha [5]<|Wh1 Z<|Xf (ps:=[(0,.string _),(1,.string _),(2,.string _),(3,.string _),(4,.string _)]) (cs:=[_,_,_,_,_]) Z Js Jn Ge Z Z Z Z ?_;rintro b3 w7 R3 E7 B3;have Z3:=Z3.J E7;have hG:=Yk hG E7;refine Wnt<|Yg 8 Z Ki Ki Z (fun _ _=>Yo Js Jn Z Z Kh) trivial ?_;refine Wha [9]<|Wh1 Z<|Ui 0 Jp Z Z B3 Ka Kc ?_;intro s2 P2
  refine Wnt<|Yg 10 Z Ki Ki Z (fun _ _=>Yw Z Z Kh) trivial ?_;refine Uw 11 Z Z trivial<|Yr Ki ?_;refine Yc ?_;refine Yl (v:=.string _) Z ?_;rotate_left;refine Wh1 Z<|Xf (ps:=[(0,.string _),(1,.string _),(2,.string _),(3,.string _),(4,.string _)]) (cs:=[_,_,_,_,_]) Z Js Jn Ge Z Z Z Z ?_;rintro b3 w7 R3 E7 B3;have Z3:=Z3.J E7;have hG:=Yk hG E7;refine Wnt<|Yg 8 Z Ki Ki Z (fun _ _=>Yo Js Jn Z Z Kh) trivial ?_;refine Wha [4,9]<|Yi Z ?_ ?_
  refine Ui 1 Jp Z Z (B2.J E7) Ka Kc ?_;intro s1 P1;refine Wnt<|Wha [9]<|Wh1 Z<|Ui 0 Jp Z Z B3 Ka Kc ?_;intro s2 P2;refine Wnt<|Yg 10 Z Ki Ki Z (fun _ _=>Yw Z Z Kh) trivial ?_;refine Uw 11 Z Z trivial<|Yr Ki ?_;refine Yc ?_;refine Yl (v:=.string _) Z ?_;rotate_left;refine Wh1 Z<|Ui 0 Jp Z Z B3 Ka Kc ?_;intro s1 P1
  refine Wnt<|Wha [4]<|Wh1 Z<|Ui 1 Jp Z Z (B2.J E7) Ka Kc ?_;intro s2 P2;refine Wnt<|Yg 10 Z Ki Ki Z (fun _ _=>Yw Z Z Kh) trivial ?_;refine Uw 11 Z Z trivial<|Yr Ki ?_;refine Yc ?_;refine Yl (v:=.string _) Z ?_;rotate_left;refine Yi Z ?_ ?_;refine Xf (ps:=[(0,.string _),(1,.string _),(2,.string _),(3,.string _),(4,.string _)]) (cs:=[_,_,_,_,_]) Z Js Jn Ge Z Z Z Z ?_;rintro b2 w5 R2 E5 B2;have:=B2.lt;have Z2:=Z2.J E5;have hG:=Yk hG E5;refine Wnt<|Wha [0,7]<|Yi Z ?_ ?_
  refine Xf (ps:=[(0,.string _),(1,.string _)]) (cs:=[_,_]) Z Js Jn Ge Z Z Z Z ?_;rintro b3 w6 R3 E6 B3;have Z2:=Z2.J E6;have hG:=Yk hG E6;refine Wnt<|Yg 3 Z Ki Ki Z (fun _ _=>Yo Js Jn Z Z Kh) trivial ?_;refine Wha [4,7]<|Yi Z ?_ ?_;refine Ui 1 Jp Z Z B3 Ka Kc ?_;intro s1 P1;refine Wnt<|Wha [7]<|Wh1 Z<|Vv Z (Xd (a:=.pointer _) (b:=.int _ _) Jy Z Z) (Xv _ _ Kk Kh) ?_;rintro _ w7 ⟨y3,rfl,E7,Z3,L3⟩;(try dsimp only at L3)
  have B2:=(B2.J E6).G E7 Kb;have hG:=Yj hG E7;refine Wnt<|Yg 8 Z Ki Ki Z (fun _ _=>Yo Js Jn Z Z Kh) trivial ?_;refine Wha [9]<|Wh1 Z<|Ui 0 Jp Z Z B2 Ka Kc ?_;intro s2 P2;refine Wnt<|Yg 10 Z Ki Ki Z (fun _ _=>Yw Z Z Kh) trivial ?_;refine Uw 11 Z Z trivial<|Yr Ki ?_;refine Yc ?_;refine Yl (v:=.string _) Z ?_;rotate_left;refine Wh1 Z<|Vv Z (Xd (a:=.pointer _) (b:=.int _ _) Jy Z Z) (Xv _ _ Kk Kh) ?_
  rintro _ w7 ⟨y3,rfl,E7,Z3,L3⟩;(try dsimp only at L3);have B2:=(B2.J E6).G E7 Kb;have B3:=B3.G E7 Kb;have hG:=Yj hG E7;refine Wnt<|Yg 8 Z Ki Ki Z (fun _ _=>Yo Js Jn Z Z Kh) trivial ?_;refine Wha [4,9]<|Yi Z ?_ ?_;refine Ui 1 Jp Z Z B3 Ka Kc ?_;intro s1 P1;refine Wnt<|Wha [9]<|Wh1 Z<|Ui 0 Jp Z Z B2 Ka Kc ?_;intro s2 P2
  refine Wnt<|Yg 10 Z Ki Ki Z (fun _ _=>Yw Z Z Kh) trivial ?_;refine Uw 11 Z Z trivial<|Yr Ki ?_;refine Yc ?_;refine Yl (v:=.string _) Z ?_;rotate_left;refine Wh1 Z<|Ui 0 Jp Z Z B2 Ka Kc ?_;intro s1 P1;refine Wnt<|Wha [4]<|Wh1 Z<|Ui 1 Jp Z Z B3 Ka Kc ?_;intro s2 P2;refine Wnt<|Yg 10 Z Ki Ki Z (fun _ _=>Yw Z Z Kh) trivial ?_;refine Uw 11 Z Z trivial<|Yr Ki ?_;refine Yc ?_
  refine Yl (v:=.string _) Z ?_;rotate_left;refine Wh1 Z<|Vv Z (Xd (a:=.pointer _) (b:=.int _ _) Jy Z Z) (Xv _ _ Kk Kh) ?_;rintro _ w6 ⟨y3,rfl,E6,Z3,L3⟩;(try dsimp only at L3);have B2:=B2.G E6 Kb;have hG:=Yj hG E6;refine Wnt<|Yg 8 Z Ki Ki Z (fun _ _=>Yo Js Jn Z Z Kh) trivial ?_;refine Wha [0,9]<|Yi Z ?_ ?_;refine Xf (ps:=[(0,.string _),(1,.string _)]) (cs:=[_,_]) Z Js Jn Ge Z Z Z Z ?_;rintro b3 w7 R3 E7 B3;have Z3:=Z3.J E7;have hG:=Yk hG E7
  refine Wnt<|Yg 3 Z Ki Ki Z (fun _ _=>Yo Js Jn Z Z Kh) trivial ?_;refine Wha [4,9]<|Yi Z ?_ ?_;refine Ui 1 Jp Z Z B3 Ka Kc ?_;intro s1 P1;refine Wnt<|Wha [9]<|Wh1 Z<|Ui 0 Jp Z Z (B2.J E7) Ka Kc ?_;intro s2 P2;refine Wnt<|Yg 10 Z Ki Ki Z (fun _ _=>Yw Z Z Kh) trivial ?_;refine Uw 11 Z Z trivial<|Yr Ki ?_;refine Yc ?_;refine Yl (v:=.string _) Z ?_;rotate_left
  refine Wh1 Z<|Ui 0 Jp Z Z (B2.J E7) Ka Kc ?_;intro s1 P1;refine Wnt<|Wha [4]<|Wh1 Z<|Ui 1 Jp Z Z B3 Ka Kc ?_;intro s2 P2;refine Wnt<|Yg 10 Z Ki Ki Z (fun _ _=>Yw Z Z Kh) trivial ?_;refine Uw 11 Z Z trivial<|Yr Ki ?_;refine Yc ?_;refine Yl (v:=.string _) Z ?_;rotate_left;refine Wh1 Z<|Ui 0 Jp Z Z B2 Ka Kc ?_;intro s1 P1
  refine Wnt<|Wha [0]<|Wh1 Z<|Xf (ps:=[(0,.string _),(1,.string _)]) (cs:=[_,_]) Z Js Jn Ge Z Z Z Z ?_;rintro b3 w7 R3 E7 B3;have Z3:=Z3.J E7;have hG:=Yk hG E7;refine Wnt<|Yg 3 Z Ki Ki Z (fun _ _=>Yo Js Jn Z Z Kh) trivial ?_;refine Wha [4]<|Wh1 Z<|Ui 1 Jp Z Z B3 Ka Kc ?_;intro s2 P2;refine Wnt<|Yg 10 Z Ki Ki Z (fun _ _=>Yw Z Z Kh) trivial ?_;refine Uw 11 Z Z trivial<|Yr Ki ?_;refine Yc ?_;refine Yl (v:=.string _) Z ?_;rotate_left
  refine Wh1 Z<|Vv Z (Xd (a:=.pointer _) (b:=.int _ _) Jy Z Z) (Xv _ _ Kk Kh) ?_;rintro _ w5 ⟨y3,rfl,E5,Z3,L3⟩;(try dsimp only at L3);have hG:=Yj hG E5;refine Wnt<|Wha [0,5]<|Yi Z ?_ ?_;refine Xf (ps:=[(0,.string _),(1,.string _)]) (cs:=[_,_]) Z Js Jn Ge Z Z Z Z ?_;rintro b2 w6 R2 E6 B2;have Z3:=Z3.J E6;have hG:=Yk hG E6;refine Wnt<|Yg 3 Z Ki Ki Z (fun _ _=>Yo Js Jn Z Z Kh) trivial ?_;refine Wha [4,5]<|Yi Z ?_ ?_;refine Ui 1 Jp Z Z B2 Ka Kc ?_;intro s1 P1
  refine Wnt<|Wha [5]<|Wh1 Z<|Xf (ps:=[(0,.string _),(1,.string _),(2,.string _),(3,.string _),(4,.string _)]) (cs:=[_,_,_,_,_]) Z Js Jn Ge Z Z Z Z ?_;rintro b3 w7 R3 E7 B3;have Z3:=Z3.J E7;have hG:=Yk hG E7;refine Wnt<|Yg 8 Z Ki Ki Z (fun _ _=>Yo Js Jn Z Z Kh) trivial ?_;refine Wha [9]<|Wh1 Z<|Ui 0 Jp Z Z B3 Ka Kc ?_;intro s2 P2;refine Wnt<|Yg 10 Z Ki Ki Z (fun _ _=>Yw Z Z Kh) trivial ?_;refine Uw 11 Z Z trivial<|Yr Ki ?_;refine Yc ?_
  refine Yl (v:=.string _) Z ?_;rotate_left;refine Wh1 Z<|Xf (ps:=[(0,.string _),(1,.string _),(2,.string _),(3,.string _),(4,.string _)]) (cs:=[_,_,_,_,_]) Z Js Jn Ge Z Z Z Z ?_;rintro b3 w7 R3 E7 B3;have Z3:=Z3.J E7;have hG:=Yk hG E7;refine Wnt<|Yg 8 Z Ki Ki Z (fun _ _=>Yo Js Jn Z Z Kh) trivial ?_;refine Wha [4,9]<|Yi Z ?_ ?_;refine Ui 1 Jp Z Z (B2.J E7) Ka Kc ?_;intro s1 P1
  refine Wnt<|Wha [9]<|Wh1 Z<|Ui 0 Jp Z Z B3 Ka Kc ?_;intro s2 P2;refine Wnt<|Yg 10 Z Ki Ki Z (fun _ _=>Yw Z Z Kh) trivial ?_;refine Uw 11 Z Z trivial<|Yr Ki ?_;refine Yc ?_;refine Yl (v:=.string _) Z ?_;rotate_left;refine Wh1 Z<|Ui 0 Jp Z Z B3 Ka Kc ?_;intro s1 P1;refine Wnt<|Wha [4]<|Wh1 Z<|Ui 1 Jp Z Z (B2.J E7) Ka Kc ?_
  intro s2 P2;refine Wnt<|Yg 10 Z Ki Ki Z (fun _ _=>Yw Z Z Kh) trivial ?_;refine Uw 11 Z Z trivial<|Yr Ki ?_;refine Yc ?_;refine Yl (v:=.string _) Z ?_;rotate_left;refine Wh1 Z<|Xf (ps:=[(0,.string _),(1,.string _),(2,.string _),(3,.string _),(4,.string _)]) (cs:=[_,_,_,_,_]) Z Js Jn Ge Z Z Z Z ?_;rintro b2 w6 R2 E6 B2;have Z3:=Z3.J E6;have hG:=Yk hG E6;refine Wnt<|Yg 8 Z Ki Ki Z (fun _ _=>Yo Js Jn Z Z Kh) trivial ?_;refine Wha [0,9]<|Yi Z ?_ ?_
  refine Xf (ps:=[(0,.string _),(1,.string _)]) (cs:=[_,_]) Z Js Jn Ge Z Z Z Z ?_;rintro b3 w7 R3 E7 B3;have Z3:=Z3.J E7;have hG:=Yk hG E7;refine Wnt<|Yg 3 Z Ki Ki Z (fun _ _=>Yo Js Jn Z Z Kh) trivial ?_;refine Wha [4,9]<|Yi Z ?_ ?_;refine Ui 1 Jp Z Z B3 Ka Kc ?_;intro s1 P1;refine Wnt<|Wha [9]<|Wh1 Z<|Ui 0 Jp Z Z (B2.J E7) Ka Kc ?_;intro s2 P2
  refine Wnt<|Yg 10 Z Ki Ki Z (fun _ _=>Yw Z Z Kh) trivial ?_;refine Uw 11 Z Z trivial<|Yr Ki ?_;refine Yc ?_;refine Yl (v:=.string _) Z ?_;rotate_left;refine Wh1 Z<|Ui 0 Jp Z Z (B2.J E7) Ka Kc ?_;intro s1 P1;refine Wnt<|Wha [4]<|Wh1 Z<|Ui 1 Jp Z Z B3 Ka Kc ?_;intro s2 P2;refine Wnt<|Yg 10 Z Ki Ki Z (fun _ _=>Yw Z Z Kh) trivial ?_;refine Uw 11 Z Z trivial<|Yr Ki ?_;refine Yc ?_
  refine Yl (v:=.string _) Z ?_;rotate_left;refine Wh1 Z<|Ui 0 Jp Z Z B2 Ka Kc ?_;intro s1 P1;refine Wnt<|Wha [0]<|Wh1 Z<|Xf (ps:=[(0,.string _),(1,.string _)]) (cs:=[_,_]) Z Js Jn Ge Z Z Z Z ?_;rintro b3 w7 R3 E7 B3;have Z3:=Z3.J E7;have hG:=Yk hG E7;refine Wnt<|Yg 3 Z Ki Ki Z (fun _ _=>Yo Js Jn Z Z Kh) trivial ?_;refine Wha [4]<|Wh1 Z<|Ui 1 Jp Z Z B3 Ka Kc ?_;intro s2 P2
  refine Wnt<|Yg 10 Z Ki Ki Z (fun _ _=>Yw Z Z Kh) trivial ?_;refine Uw 11 Z Z trivial<|Yr Ki ?_;refine Yc ?_;refine Yl (v:=.string _) Z ?_;rotate_left;refine Wh1 Z<|Xf (ps:=[(0,.string _),(1,.string _),(2,.string _),(3,.string _),(4,.string _)]) (cs:=[_,_,_,_,_]) Z Js Jn Ge Z Z Z Z ?_;rintro b2 w4 R2 E4 B2;have:=B2.lt;have Z1:=Z1.J E4;have hG:=Yk hG E4;refine Wnt<|Wha [0,2]<|Yi Z ?_ ?_;refine Xf (ps:=[(0,.string _),(1,.string _)]) (cs:=[_,_]) Z Js Jn Ge Z Z Z Z ?_;rintro b3 w5 R3 E5 B3;have Z1:=Z1.J E5;have hG:=Yk hG E5
  refine Wnt<|Wha [2]<|Wh1 Z<|Vv Z (Xd (a:=.pointer _) (b:=.int _ _) Jy Z Z) (Xv _ _ Kk Kh) ?_;rintro _ w6 ⟨y2,rfl,E6,Z2,L2⟩;(try dsimp only at L2);have B2:=(B2.J E5).G E6 Kb;have B3:=B3.G E6 Kb;have hG:=Yj hG E6;refine Wnt<|Yg 3 Z Ki Ki Z (fun _ _=>Yo Js Jn Z Z Kh) trivial ?_;refine Wha [4,7]<|Yi Z ?_ ?_;refine Ui 1 Jp Z Z B3 Ka Kc ?_;intro s1 P1
  refine Wnt<|Wha [7]<|Wh1 Z<|Vv Z (Xd (a:=.pointer _) (b:=.int _ _) Jy Z Z) (Xv _ _ Kk Kh) ?_;rintro _ w7 ⟨y3,rfl,E7,Z3,L3⟩;(try dsimp only at L3);have B2:=B2.G E7 Kb;have hG:=Yj hG E7;refine Wnt<|Yg 8 Z Ki Ki Z (fun _ _=>Yo Js Jn Z Z Kh) trivial ?_;refine Wha [9]<|Wh1 Z<|Ui 0 Jp Z Z B2 Ka Kc ?_;intro s2 P2;refine Wnt<|Yg 10 Z Ki Ki Z (fun _ _=>Yw Z Z Kh) trivial ?_;refine Uw 11 Z Z trivial<|Yr Ki ?_;refine Yc ?_
  refine Yl (v:=.string _) Z ?_;rotate_left;refine Wh1 Z<|Vv Z (Xd (a:=.pointer _) (b:=.int _ _) Jy Z Z) (Xv _ _ Kk Kh) ?_;rintro _ w7 ⟨y3,rfl,E7,Z3,L3⟩;(try dsimp only at L3);have B2:=B2.G E7 Kb;have B3:=B3.G E7 Kb;have hG:=Yj hG E7;refine Wnt<|Yg 8 Z Ki Ki Z (fun _ _=>Yo Js Jn Z Z Kh) trivial ?_;refine Wha [4,9]<|Yi Z ?_ ?_;refine Ui 1 Jp Z Z B3 Ka Kc ?_;intro s1 P1
  refine Wnt<|Wha [9]<|Wh1 Z<|Ui 0 Jp Z Z B2 Ka Kc ?_;intro s2 P2;refine Wnt<|Yg 10 Z Ki Ki Z (fun _ _=>Yw Z Z Kh) trivial ?_;refine Uw 11 Z Z trivial<|Yr Ki ?_;refine Yc ?_;refine Yl (v:=.string _) Z ?_;rotate_left;refine Wh1 Z<|Ui 0 Jp Z Z B2 Ka Kc ?_;intro s1 P1;refine Wnt<|Wha [4]<|Wh1 Z<|Ui 1 Jp Z Z B3 Ka Kc ?_;intro s2 P2
  refine Wnt<|Yg 10 Z Ki Ki Z (fun _ _=>Yw Z Z Kh) trivial ?_;refine Uw 11 Z Z trivial<|Yr Ki ?_;refine Yc ?_;refine Yl (v:=.string _) Z ?_;rotate_left;refine Wh1 Z<|Vv Z (Xd (a:=.pointer _) (b:=.int _ _) Jy Z Z) (Xv _ _ Kk Kh) ?_;rintro _ w5 ⟨y2,rfl,E5,Z2,L2⟩;(try dsimp only at L2);have:=Z2.lt;have B2:=B2.G E5 Kb;have hG:=Yj hG E5;refine Wnt<|Wha [0,7]<|Yi Z ?_ ?_;refine Xf (ps:=[(0,.string _),(1,.string _)]) (cs:=[_,_]) Z Js Jn Ge Z Z Z Z ?_;rintro b3 w6 R3 E6 B3;have Z2:=Z2.J E6;have hG:=Yk hG E6
  refine Wnt<|Yg 3 Z Ki Ki Z (fun _ _=>Yo Js Jn Z Z Kh) trivial ?_;refine Wha [4,7]<|Yi Z ?_ ?_;refine Ui 1 Jp Z Z B3 Ka Kc ?_;intro s1 P1;refine Wnt<|Wha [7]<|Wh1 Z<|Vv Z (Xd (a:=.pointer _) (b:=.int _ _) Jy Z Z) (Xv _ _ Kk Kh) ?_;rintro _ w7 ⟨y3,rfl,E7,Z3,L3⟩;(try dsimp only at L3);have B2:=(B2.J E6).G E7 Kb;have hG:=Yj hG E7;refine Wnt<|Yg 8 Z Ki Ki Z (fun _ _=>Yo Js Jn Z Z Kh) trivial ?_
  refine Wha [9]<|Wh1 Z<|Ui 0 Jp Z Z B2 Ka Kc ?_;intro s2 P2;refine Wnt<|Yg 10 Z Ki Ki Z (fun _ _=>Yw Z Z Kh) trivial ?_;refine Uw 11 Z Z trivial<|Yr Ki ?_;refine Yc ?_;refine Yl (v:=.string _) Z ?_;rotate_left;refine Wh1 Z<|Vv Z (Xd (a:=.pointer _) (b:=.int _ _) Jy Z Z) (Xv _ _ Kk Kh) ?_;rintro _ w7 ⟨y3,rfl,E7,Z3,L3⟩;(try dsimp only at L3);have B2:=(B2.J E6).G E7 Kb;have B3:=B3.G E7 Kb;have hG:=Yj hG E7
  refine Wnt<|Yg 8 Z Ki Ki Z (fun _ _=>Yo Js Jn Z Z Kh) trivial ?_;refine Wha [4,9]<|Yi Z ?_ ?_;refine Ui 1 Jp Z Z B3 Ka Kc ?_;intro s1 P1;refine Wnt<|Wha [9]<|Wh1 Z<|Ui 0 Jp Z Z B2 Ka Kc ?_;intro s2 P2;refine Wnt<|Yg 10 Z Ki Ki Z (fun _ _=>Yw Z Z Kh) trivial ?_;refine Uw 11 Z Z trivial<|Yr Ki ?_;refine Yc ?_;refine Yl (v:=.string _) Z ?_;rotate_left
  refine Wh1 Z<|Ui 0 Jp Z Z B2 Ka Kc ?_;intro s1 P1;refine Wnt<|Wha [4]<|Wh1 Z<|Ui 1 Jp Z Z B3 Ka Kc ?_;intro s2 P2;refine Wnt<|Yg 10 Z Ki Ki Z (fun _ _=>Yw Z Z Kh) trivial ?_;refine Uw 11 Z Z trivial<|Yr Ki ?_;refine Yc ?_;refine Yl (v:=.string _) Z ?_;rotate_left;refine Wh1 Z<|Vv Z (Xd (a:=.pointer _) (b:=.int _ _) Jy Z Z) (Xv _ _ Kk Kh) ?_;rintro _ w6 ⟨y3,rfl,E6,Z3,L3⟩;(try dsimp only at L3)
  have B2:=B2.G E6 Kb;have hG:=Yj hG E6;refine Wnt<|Yg 8 Z Ki Ki Z (fun _ _=>Yo Js Jn Z Z Kh) trivial ?_;refine Wha [0,9]<|Yi Z ?_ ?_;refine Xf (ps:=[(0,.string _),(1,.string _)]) (cs:=[_,_]) Z Js Jn Ge Z Z Z Z ?_;rintro b3 w7 R3 E7 B3;have Z3:=Z3.J E7;have hG:=Yk hG E7;refine Wnt<|Yg 3 Z Ki Ki Z (fun _ _=>Yo Js Jn Z Z Kh) trivial ?_;refine Wha [4,9]<|Yi Z ?_ ?_
  refine Ui 1 Jp Z Z B3 Ka Kc ?_;intro s1 P1;refine Wnt<|Wha [9]<|Wh1 Z<|Ui 0 Jp Z Z (B2.J E7) Ka Kc ?_;intro s2 P2;refine Wnt<|Yg 10 Z Ki Ki Z (fun _ _=>Yw Z Z Kh) trivial ?_;refine Uw 11 Z Z trivial<|Yr Ki ?_;refine Yc ?_;refine Yl (v:=.string _) Z ?_;rotate_left;refine Wh1 Z<|Ui 0 Jp Z Z (B2.J E7) Ka Kc ?_;intro s1 P1
  refine Wnt<|Wha [4]<|Wh1 Z<|Ui 1 Jp Z Z B3 Ka Kc ?_;intro s2 P2;refine Wnt<|Yg 10 Z Ki Ki Z (fun _ _=>Yw Z Z Kh) trivial ?_;refine Uw 11 Z Z trivial<|Yr Ki ?_;refine Yc ?_;refine Yl (v:=.string _) Z ?_;rotate_left;refine Wh1 Z<|Ui 0 Jp Z Z B2 Ka Kc ?_;intro s1 P1;refine Wnt<|Wha [0]<|Wh1 Z<|Xf (ps:=[(0,.string _),(1,.string _)]) (cs:=[_,_]) Z Js Jn Ge Z Z Z Z ?_;rintro b3 w7 R3 E7 B3
  have Z3:=Z3.J E7;have hG:=Yk hG E7;refine Wnt<|Yg 3 Z Ki Ki Z (fun _ _=>Yo Js Jn Z Z Kh) trivial ?_;refine Wha [4]<|Wh1 Z<|Ui 1 Jp Z Z B3 Ka Kc ?_;intro s2 P2;refine Wnt<|Yg 10 Z Ki Ki Z (fun _ _=>Yw Z Z Kh) trivial ?_;refine Uw 11 Z Z trivial<|Yr Ki ?_;refine Yc ?_;refine Yl (v:=.string _) Z ?_;rotate_left;refine Ya<|Vw<|Qa Z<|Uk Jq Jj B1 Z<|Vv Z (Xd (a:=.pointer _) (b:=.agg _) Zq Z Z) (kD _ _ Kk Kh (hA) Kh) ?_
  rintro _ w3 ⟨k1,t1,n1,rfl,E3,Z2,L2⟩;(try dsimp only at L2);have hG:=Yj hG E3;refine Vv Z (Xl (a:=.agg _) Tryz.call108 Z) (kT _ _ _ _ Kk) ?_;rintro _ w4 ⟨rfl,E4⟩;have Z2:=Z2.J E4;have hG:=Yk hG E4;refine Xy Z<|Vt<|Yc ?_;refine Yl (v:=.string _) Z ?_;rotate_left
 all_goals refine ⟨_,rfl,hG,by first | exact Z4.le Kh | exact Z3.le Kh | exact Z2.le Kh | exact Z1.le Kh,?_⟩
 all_goals first
  | omega
  | (simp only [List.length_append,List.length_cons,List.length_nil];omega)
  | exact Jd (dtV_len _) Kj
theorem DrawDeskSay_ok (w:World) (v:Value) (xs:List UInt8) (h:Bytes w v xs) (hc:CapOk v):Dz 20 [v] w (RetDkLS w (fun d l=>NowP d.now∧l.length≤41∧∀ s ∈ l,s.length≤1000)):=by
 have k1 : ∀ (w0 w:World) (br m:Nat),Rdr w0 w br m→m≤1000000→Dz 56 [.pointer (some ⟨br,0,none⟩),.int .i64 12] w (RetDK w0 w br (m+140) (fun d=>NowP d.now)):=fun w0 w br m hr hm=>DeskN_ok (n:=12) w hr hm Kh
 refine Sy Tryz.func20 Z Tryz.results20 Tryz.ntmps20 Z Jq Jj ?_
 have stop3:True:=trivial
 focus
  refine Vw<|Xi Z Xz ?_;rintro b1 w1 R1 E1 B1;have:=B1.lt;refine Um Z<|Vt<|Vx<|Ys<|Ym v Z<|Vv Z (Xl (a:=v) Tryz.call55 Z) (open_ok _ _ _ (Ku E1 h) Kk) ?_;rintro _ w2 ⟨E2,y1,rfl,L1⟩;have hlhy1:=L1.lt;have hghy1:=L1.ge;have:=E2.Z;refine Qs Z<|Vt<|Vw<|Qa Z<|Vv Z (Xd (a:=.pointer _) (b:=.int _ _) Tryz.call56 Z Z) (k1 _ _ _ _ Kk Kh) ?_;rintro _ w3 ⟨u1,q1,x1,y2,rfl,E3,Z1,hA1,hC1,Y1,N1,gwu1,L2⟩;(try dsimp only at L2);have:=Z1.lt;have D1:=Z1.old;have B1:=(B1.J E2).G E3 Kb;refine Xi Z Xz ?_;rintro b2 w4 R2 E4 B2;have:=B2.lt;have Z1:=Z1.J E4;have:=E4.Z;refine Uz Jj B2 Z ((E1.K D1).K E4) ?_
  rintro w5 E5 B2 K1 Q1;have E6:=(D1.trans E4).A exq E5 K1 Q1 Kh;have:=E6.Z;have E7:=E4.A exq E5 K1 Q1 Kh;have B1:=(B1.J E4).Y (K1 _ Kh);have Z1:=Z1.W E6 (K1 _ Kh) Q1;refine Vt<|Vx ?_
 clear stop3
 have J1:=hA1.xrd gwu1 Y1
 have J2:=hC1.xrd gwu1 N1
 clear hA1 hC1
 focus
  refine Ys<|Uq XStr Z el34 Jn ?_;rintro b3 w6 R3 b3lt E8 O1;have Z1:=Z1.J E8;refine Um Z<|Vt<|Vx<|Vw<|Qa Z<|Vv Z (Xd (a:=.pointer _) (b:=.int _ _) Jy Z Z) (Xv _ _ Kk Kh) ?_;rintro _ w7 ⟨y3,rfl,E9,Z2,L3⟩;(try dsimp only at L3);have B2:=(B2.J E8).G E9 Kb;have B1:=(B1.J E8).G E9 Kb;have J1:=(J1.J (E7.K E8)).G E9 Kh;have J2:=(J2.J (E7.K E8)).G E9 Kh;have O1:=O1.toB.G E9 Kh;have:=E9.Z;refine Xc Z<|Vt<|Ye ?_
 have hy3':=L3 Kh
 refine Xw [6,7,15,16,17,18,19,20,21,22,23,24] (fun ((k,va,L):Nat × Value × List (List UInt8))=>[(7,.int .i64 (k:Nat)),(6,va)]) (fun (k,va,L) w'=>Rdr w1 w' y1 (150+100*(6 - k))∧k≤6∧w6.heap.size≤w'.heap.size∧Blk w' b1 [.slice none 0 0,.slice none 0 0]∧Blk w' b2 [u1,q1]∧OwnedB w2.heap.size w3.heap.size (XRd (ESl Ints)) w' u1 x1∧OwnedB w2.heap.size w3.heap.size (XRd (ESl (ESl Ints))) w' q1 y2∧OwnedB w5.heap.size w'.heap.size XS w' va L∧L.length+k≤6∧∀ s ∈ L,s.length≤1000) (fun x=>x.1) (y3,.slice (some ⟨b3,0,none⟩) 0 0,[]) Kn ?_ ?_
 ·exact ⟨Z2.le Kh,Kh,Kh,B1,B2,J1,J2,O1.wide (Kz _) Kh,by simp only [List.length_nil];omega,fun s h=>by cases h⟩
 clear Z1 Z2 B1 B2 J1 J2 O1
 rintro ⟨k,va,L⟩ ρj w8 ⟨hr,hk,hsz,B1,B2,J1,J2,hA,hL,hP⟩
 have kL : ∀ (w:World) (m':Nat),Rdr w1 w y1 m'→m'≤1000000→OwnedB w2.heap.size w3.heap.size (XRd (ESl Ints)) w u1 x1→w2.heap.size < w.heap.size→Dz 57 [.pointer (some ⟨y1,0,none⟩),.agg #[u1,q1]] w (RetDSt w1 w y1 (m'+100) (fun s=>s.length≤1000)):=fun w m' hr hm hX hl=>Line_ok w u1 q1 x1 hr hm hX.rd_above hlhy1 hl N1 L2
 by_cases hk0:0 < k
 ·focus
   have:=E6.Z;have:=E5.Z;refine Vx<|Vw<|Yd Z<|Qg Z<|Vt<|Vy Z (fun h1=>?_) (fun h1=>?_);refine Ya<|Vx<|Ye<|Ys<|Ym va Z<|Qa Z<|Uk Jq Jj B2 Z<|Vv Z (Xd (a:=.pointer _) (b:=.agg _) Tryz.call57 Z Z) (kL _ _ Kk Kh (J1) Kh) ?_;rintro _ w9 ⟨t1,rfl,E10,Z2,L4⟩;(try dsimp only at L4);have D2:=Z2.old;have B1:=B1.G E10 Kb;have B2:=B2.G E10 Kb;have J1:=J1.G E10 Kh;have J2:=J2.G E10 Kh;have hA:=hA.G E10 Kh;have:=E10.Z;refine Xf (ps:=[(0,.string _)]) (cs:=[_]) Z Js Jn Ge Z Z Z Z ?_
   rintro b4 w10 R4 E11 B3;have:=B3.lt;have Z2:=Z2.J E11;refine Ux Z el34 Z Z B3 (hA.J E11) (Owned.str Km) (Kz _) Km Kh Kh ((E1.K D2).K E11) Kh ?_;have V1:=(hA.J E11);rintro v1 w11 hA E12 M1;have E13:=M1.J V1 (D2.trans E11) Kh;have B1:=(B1.J E11).moves M1 V1 Kh;have B2:=(B2.J E11).moves M1 V1 Kh;have J1:=(J1.J E11).moves M1 V1 Kh;have J2:=(J2.J E11).moves M1 V1 Kh;have Z2:=Z2.moves E13 M1 V1 Kh;have:=M1.1.size;refine Ug v1 Z<|Vt<|Ys<|Yd Z<|Sg Z<|Xc Z<|Vt ?_;rotate_left;exact Kt
  refine ⟨(k - 1,v1,L++[t1]),⟨congrArg (Value.int .i64) (show (k:Int) - 1=((k - 1:Nat):Int) by omega),Z,trivial⟩,Ko,?_,Kq⟩
  exact ⟨Z2.le Kh,Kh,Kh,B1,B2,J1,J2,hA.toB,by rw [List.length_append];simp only [List.length_cons,List.length_nil];omega,fun s hs=>(List.mem_append.1 hs).elim (hP s) (fun h=>by rw [List.mem_singleton.1 h];exact L4)⟩
 ·focus
   refine Vx<|Vw<|Yd Z<|Qg Z<|Vt<|Vz Z fun h1=>?_;refine Xp ?_;refine Yp ?_;refine Vx<|Vw<|Qa Z<|Vv Z (Xd (a:=.pointer _) (b:=.int _ _) Tryz.call76 Z Z) (odd_ok _ _ Kk Kh Kh) ?_;rintro _ w9 ⟨y4,rfl,E10,Z2,L4⟩;(try dsimp only at L4);have D2:=Z2.old;have B1:=B1.G E10 Kb;have B2:=B2.G E10 Kb;have J1:=J1.G E10 Kh;have J2:=J2.G E10 Kh;have hA:=hA.G E10 Kh;refine Vt<|Ut Z (fun h2=>?_) (fun h2=>?_);refine Ys ?_;rotate_left;refine Ya<|Vw<|Uk Jq Jj B2 Z<|Ym va Z<|Uz Jj B1 Z (E1.K D2) ?_;rintro w10 E11 B1 K2 Q2
   have J1:=J1.W K2 Kh;have J2:=J2.W K2 Kh;have hA:=hA.W K2 Kh;refine Ug va Z<|Vt<|Yc ?_;rotate_left
  ·refine Wo_make (x0:=[]) Z el34 (m:=41) Z Kh (X:=XStr) (fun _=>show XStr _ [] (.string ⟨#[]⟩) [] from ⟨Z,Z,Kp⟩) ?_
   rintro b5 w10 R5 b5lt E21 O3
   have B1:=B1.J E21
   have B2:=B2.J E21
   have J1:=J1.J E21
   have J2:=J2.J E21
   have Z3:=Z2.J E21
   have E22:=Z3.old
   focus
    have:=D2.size;refine Um Z<|Vt<|Vw<|Uk Jq Jj B2 Z<|Re Z<|Uz Jj B1 Z (E1.K E22) ?_;rintro w11 E11 B1 K2 Q2;have O3:=O3.toB.W K2 Kh;have J1:=J1.W K2 Kh;have J2:=J2.W K2 Kh;refine Um Z<|Vt<|Yc ?_
   exact ⟨b1,u1,q1,rfl,B1,u1,q1,x1,y2,some ⟨b5,0,none⟩,41,List.replicate 41 [],rfl,by repeat (first | assumption | refine Ext.trans Kk ?_),J1.O,J2.O,Y1,N1,O3.O,Kz _,L2,Kj,fun s hs=>by rw [List.eq_of_mem_replicate hs];exact Ja _⟩
  ·obtain ⟨a,c,e,hcap⟩:=hA.sform
   subst e
   exact ⟨b1,u1,q1,rfl,B1,u1,q1,x1,y2,a,c,L,rfl,by repeat (first | assumption | refine Ext.trans Kk ?_),J1.O,J2.O,Y1,N1,hA.O,hcap,L2,Kh,hP⟩
theorem sameDesk_ok (w:World) (u1 u2 v1 v2:Value) (p p':List (List Int)) (q q':List (List (List Int))) (h1:ESl Ints w u1 p) (h2:ESl (ESl Ints) w u2 q) (h3:ESl Ints w v1 p') (h4:ESl (ESl Ints) w v2 q') :
  Dz 15 [.agg #[u1,u2],.agg #[v1,v2]] w (Ret w (.bool (decide (p=p'∧q=q')))):=by
 have Y1:isCell u1=true:=Qy h1
 have Y2:isCell u2=true:=Qy h2
 have icv1:isCell v1=true:=Qy h3
 have icv2:isCell v2=true:=Qy h4
 have hle:=h2.le
 have hle':=h4.le
 refine Yx Tryz.func15 Z Tryz.results15 Tryz.ntmps15 Z ?_
 focus
  refine Vw<|Xx Z Z Z ?_;rintro b1 w1 R1 E1 B1;refine Xx Z Z Z ?_;rintro b2 w2 R2 E2 B2;refine Yf Z<|Vt<|Vx<|Vw<|Yq Jv Ga Z<|Uc u2 Gd (B1.J E2) Z<|Yu Gc Z h2<|Yq Jv Ga Z<|Uc v2 Gd B2 Z<|Yu Gc Z h4<|Qk Z<|Vt<|Xq Z (fun h5=>?_) (fun h5=>?_);refine Vw<|Yf Z<|Vt<|Yc ?_;refine Yl (v:=.bool _) Z ?_;refine ⟨congrArg Value.bool ?_,exq⟩;rotate_left;refine Ya<|Vx<|Vw<|Xc Z<|Vt<|Ye ?_;rotate_left
 ·exact (Jc (fun e=>by obtain ⟨_,e⟩:=e;subst e;omega)).symm
 refine Xw [4,5,13,14,15,16,17,18,19,20,21,22,23,24,25,26,27,28,29,30,31] (fun (k:Nat)=>[(5,.int .i64 (k:Nat))]) (fun k w'=>Ext w2 w'∧k≤q.length∧q.take k=q'.take k) (fun x=>q.length - x) 0 Kn ?_ ?_
 ·exact ⟨Jf _,Ja _,Kp⟩
 rintro k ρj w3 ⟨E3,hk,he⟩
 focus
  refine Vx<|Vw<|Yd Z<|Yq Jv Ga Z<|Uc u2 Gd (B1.J exq) Z<|Yu Gc Z h2<|Xa Z<|Vt<|Vy Z (fun h6=>?_) (fun h6=>?_);refine Ya<|Vx<|Ye<|Vx<|Qi mixed Ki Z ?_;refine Rb Jv Ga Z<|Uv (v:=u2) Z (fun w' hw'=>Xh Gd Z (((B1.J exq).J hw').cell Z)) ?_;refine Sw Z<|Qe Gc Jx Jt Z (fun _=>Z) Z h2 exq Z Km ?_;rintro _ u3 C1;refine Rb Jv Ga Z<|Uv (v:=v2) Z (fun w' hw'=>Xh Gd Z (((B2.J E3).J hw').cell Z)) ?_
  refine Sw Z<|Qe Gc Jx Jt Z (fun _=>Z) Z h4 exq Z Km ?_;rintro _ u4 C2;refine Rg Z (fun _ _=>Xd (a:=u3) (b:=u4) Tryz.call72 Z Z) (fun w' hw'=>(sameRows_ok _ _ _ _ _ (Ku exq C1) (Ku exq C2))) ?_;refine Mp Z<|Qb (fun w4 E4=>?_);refine Xq Z (fun h7=>?_) (fun h7=>?_);refine Vw<|Yf Z<|Vt<|Yc ?_;refine Yl (v:=.bool _) Z ?_;refine ⟨congrArg Value.bool ?_,exq⟩;rotate_left;refine Ya<|Ys<|Yd Z<|Xk Z<|Xc Z<|Vt ?_;rotate_left;refine Xp ?_;refine Yp ?_
  refine Vw<|Yq Jv Jx Z<|Uc u1 Jt (B1.J exq) Z<|Yq Jv Jx Z<|Uc v1 Jt (B2.J E3) Z<|Vv Z (Xd (a:=u1) (b:=v1) Tryz.call72 Z Z) (sameRows_ok _ _ _ _ _ (Ku exq h1) (Ku exq h3)) ?_;rintro _ w4 ⟨rfl,E4⟩;refine Yf Z<|Vt<|Yc ?_;refine Yl (v:=.bool _) Z ?_;refine ⟨congrArg Value.bool ?_,exq⟩;rotate_left
 ·exact (Jc (fun e=>ne_at (k:=k) Kh Kh Kk e.2)).symm
 ·refine ⟨(k+1),Kn,Ko,?_,?_⟩
  ·exact ⟨E3.K Kk,Kh,(Tu Kh Kh).2 ⟨he,Kk⟩⟩
  ·omega
 ·obtain rfl:k=q.length:=by omega
  have hq:=Ln Kh he
  rw [hq]
  simp
theorem noDesk_ok (w:World) (u1 u2:Value) (p:List (List Int)) (q:List (List (List Int))) (h1:ESl Ints w u1 p) (h2:ESl (ESl Ints) w u2 q) :
  Dz 17 [.agg #[u1,u2]] w (Ret w (.bool (decide (p=[]∧q=[])))):=by
 have Y1:isCell u1=true:=Qy h1
 have Y2:isCell u2=true:=Qy h2
 have kD:=fun (w:World) (h1:ESl Ints w u1 p) (h2:ESl (ESl Ints) w u2 q)=>sameDesk_ok w u1 u2 (.slice none 0 0) (.slice none 0 0) p [] q [] h1 h2 ⟨_,_,rfl,RSl.nil⟩ ⟨_,_,rfl,RSl.nil⟩
 refine Yx Tryz.func17 Z Tryz.results17 Tryz.ntmps17 Z ?_
 focus
  refine Vw<|Xx Z Z Z ?_;rintro b1 w1 R1 E1 B1;refine Yf Z<|Vt<|Vx<|Ys<|Uk Jq Jj B1 Z<|Wo Z (Yz (ps:=[]) (cs:=[_,_]) Xz Z Z)<|Vv Z (Xd (a:=.agg _) (b:=.agg _) Tryz.call15 Z Z) (kD _ (Ku E1 h1) (Ku E1 h2)) ?_;rintro _ w2 ⟨rfl,E2⟩;refine Yf Z<|Vt<|Yc ?_;exact ⟨rfl,exq⟩
end Go.Proofs.YtbgpppaljpngmaaGreatDoor
set_option linter.unusedVariables false
namespace Go.Hs
end Go.Hs
namespace Go.Proofs.YtbgpppaljpngmaaGreatDoor
open Go.Hs
set_option maxRecDepth 10000
set_option maxHeartbeats 4000000
set_option linter.unusedVariables false
set_option linter.unusedSimpArgs false
end Go.Proofs.YtbgpppaljpngmaaGreatDoor
set_option linter.unusedVariables false
namespace Go.Hs
variable {P:Program} {t a a':Tmp} {ta ta':TypeId} {w:World} {v:Value}
end Go.Hs
namespace Go.Proofs.YtbgpppaljpngmaaGreatDoor
open Go.Hs
set_option maxRecDepth 10000
set_option maxHeartbeats 4000000
set_option linter.unusedVariables false
set_option linter.unusedSimpArgs false
end Go.Proofs.YtbgpppaljpngmaaGreatDoor
set_option linter.unusedVariables false
namespace Go.Hs
def partS (a:Option Addr) (c k:Nat):Option Addr:=if c=k then a else a.map (·.add k)
section
variable {P:Program} {ρ : Env} {w:World} {ty ts el:TypeId} {x:Operand} {a:Option Addr} {len cap:Nat}
theorem opv_sliceS_hi {hi:Operand} {h:Int} (ht:P.underlying ts=some (.slice el)) (hs : ∀ w,(sizeOf el).run P w=.ok 1 w) (hx:evalE ρ x=.slice a len cap) (hh:evalE ρ hi=.int .i64 h)
  (hb:0≤h∧h≤(cap:Int)):OpV P (.slice ts x none (some hi) none) ty ρ w (.slice (partS a cap 0) h.toNat cap):=by
 obtain ⟨H,rfl⟩:=Int.eq_ofNat_of_zero_le hb.1
 have h1:H≤cap:=Kh
 simp [OpV,execOp,hx,hh,Instr.sliceAt,Instr.slice,Qu ht,Instr.sliceBounds,Instr.sliceBound,asIntOf,h1,hs,partS]
theorem opv_sliceS_lo {lo:Operand} {l:Int} (ht:P.underlying ts=some (.slice el)) (hs : ∀ w,(sizeOf el).run P w=.ok 1 w) (hx:evalE ρ x=.slice a len cap) (hl:evalE ρ lo=.int .i64 l)
  (hb:0≤l∧l≤(len:Int)∧len≤cap):OpV P (.slice ts x (some lo) none none) ty ρ w (.slice (partS a cap l.toNat) (len - l.toNat) (cap - l.toNat)):=by
 obtain ⟨L,rfl⟩:=Int.eq_ofNat_of_zero_le hb.1
 have h1:L≤len:=Kh
 have h2:len≤cap:=hb.2.2
 simp [OpV,execOp,hx,hl,Instr.sliceAt,Instr.slice,Qu ht,Instr.sliceBounds,Instr.sliceBound,asIntOf,h1,hs,partS]
end
section
variable {α : Type} {E:World→Value→α→Prop} {w:World} {a:Option Addr} {c c' k:Nat} {l:List α}
theorem ESl.takeP (h:ESl E w (.slice a l.length c) l) (hk:k≤l.length):ESl E w (.slice (partS a c 0) k c') (l.take k):=by
 obtain ⟨a',c1,e,h1,h2⟩:=h
 cases e
 have hl:(l.take k).length=k:=by rw [List.length_take];omega
 refine ⟨partS a c 0,c',by rw [hl],Kh,?_⟩
 rcases h2 with rfl | ⟨b,o,rfl,h⟩
 ·exact .inl Kp
 ·refine .inr ⟨b,o,?_,fun i hi=>?_⟩
  ·unfold partS;split <;> simp [Addr.add]
  ·rw [List.getElem_take];exact h i Kh
theorem ESl.dropP (h:ESl E w (.slice a l.length c) l) (hk:k≤l.length) (hc:l.length≤c):ESl E w (.slice (partS a c k) (l.length - k) c') (l.drop k):=by
 obtain ⟨a',c1,e,h1,h2⟩:=h
 cases e
 have hl:(l.drop k).length=l.length - k:=by rw [List.length_drop]
 refine ⟨partS a c k,c',by rw [hl],Kh,?_⟩
 by_cases hkl:k=l.length
 ·exact .inl (by rw [hkl,List.drop_length])
 rcases h2 with rfl | ⟨b,o,rfl,h⟩
 ·exact .inl Kp
 ·refine .inr ⟨b,o+k,?_,fun i hi=>?_⟩
  ·unfold partS
   rw [if_neg Kh]
   show some ((⟨b,o,none⟩:Addr).add k)=_
   rw [add_mk]
  ·rw [List.getElem_drop]
   have:=h (k+i) Kh
   rwa [show o+(k+i)=o+k+i by omega] at this
end
end Go.Hs
namespace Go.Proofs.YtbgpppaljpngmaaGreatDoor
open Go.Hs
set_option maxRecDepth 10000
set_option maxHeartbeats 4000000
set_option linter.unusedVariables false
set_option linter.unusedSimpArgs false
open Go.Lib (decDigits)
theorem dec_ne (n:Nat):decDigits n≠[]:=by
 rw [decDigits]
 split <;> simp
theorem yn_ne (b:Bool):ynV b≠[]:=by cases b <;> decide
theorem ask2_ne (p:List (List Int)) (a r:List UInt8):ask2 p a r≠[]:=by
 unfold ask2
 split
 ·exact yn_ne _
 ·split
  ·exact yn_ne _
  ·split
   ·exact yn_ne _
   ·decide
theorem askV_ne (p:List (List Int)) (s:List UInt8):askV p s≠[]:=by
 unfold askV
 split
 ·simp
 ·split
  ·split
   ·exact dec_ne _
   ·decide
  ·split
   ·exact dec_ne _
   ·split
    ·exact yn_ne _
    ·split
     ·split
      ·exact dec_ne _
      ·decide
     ·split
      ·exact dec_ne _
      ·split
       ·exact ask2_ne _ _ _
       ·decide
theorem lnV_ne (d:Dsk) (s:List UInt8):(lnV d s).2≠[]:=by
 unfold lnV
 split
 ·simp only;unfold okV;split <;> decide
 ·exact askV_ne _ _
theorem sayV_ne (d:Dsk) (l:List (List UInt8)) : ∀ s ∈ (sayV d l).2,s≠[] :=
 snoc_ind (P:=fun l=>∀ s ∈ (sayV d l).2,s≠[]) (fun s h=>by cases h) (fun l s ih=>by
  rw [Lg]
  intro x hx
  rcases List.mem_append.1 hx with h | h
  ·exact ih x h
  ·rw [List.mem_singleton.1 h];exact lnV_ne _ _) l
open Classical in
theorem lnV_is {d:Dsk} (hd:DkOk d):lnV d ([105,115,32]++txt d.now)=(d,[121,101,115]):=by
 have hp:=hd.1.1
 have hr:rdD ([105,115,32]++txt d.now)=none:=by
  refine rdD_none fun a ha e=>?_
  have e1:=congrArg (fun l=>l[0]?) e
  have e2:=congrArg (fun l=>l[1]?) e
  cases ha with
  | single=>rw [Tm] at e1;simp [sSingle] at e1
  | back=>rw [Mc] at e1;simp [sBack] at e1
  | into d h=>rw [Tx h] at e2;simp [sInto] at e2
  | add p h=>rw [Nk h] at e1;simp [sAdd] at e1
  | drop p h=>rw [To h] at e1;simp [sDrop] at e1
 unfold lnV
 rw [hr]
 refine congrArg (Prod.mk d) ?_
 have hc:cutF 32 ([105,115,32]++txt d.now)=([105,115],txt d.now,true):=Hb (a:=[105,115]) Kj
 unfold askV
 rw [if_neg Kp,if_neg Kp,if_neg Kp,if_neg Kp,if_neg Kp,if_neg Kp,hc]
 simp only [if_pos]
 unfold ask2
 rw [if_neg Kp,if_neg Kp,if_pos ⟨rfl,by rw [rdP_txt hp];rfl⟩,rdP_txt hp]
 have:ssetV d.now 0 d.now 0=true:=Jb ⟨⟨hp,by have:=hp.1;omega⟩,⟨hp,by have:=hp.1;omega⟩,Bis.refl⟩
 rw [Option.getD_some,this];rfl
theorem sameTexts_ok (w:World) (v u:Value) (l m:List (List UInt8)) (h:ESl EStr w v l) (h':ESl EStr w u m):Dz 23 [v,u] w (Ret w (.bool (decide (l=m)))):=by
 have hle:=h.le
 have hle':=h'.le
 refine Yx Tryz.func23 Z Tryz.results23 Tryz.ntmps23 Z ?_
 focus
  refine Vw<|Yf Z<|Vt<|Vx<|Vw<|Ym v Z<|Yu Js Z h<|Ym u Z<|Yu Js Z h'<|Qk Z<|Vt<|Xq Z (fun h1=>?_) (fun h1=>?_);refine Vw<|Yf Z<|Vt<|Yc ?_;refine Yl (v:=.bool _) Z ?_;refine ⟨congrArg Value.bool ?_,(Jf _)⟩;rotate_left;refine Ya<|Vx<|Vw<|Xc Z<|Vt<|Ye ?_;rotate_left
 ·exact (Jc (fun e=>by subst e;omega)).symm
 refine Xw [4,5,11,12,13,14,15,16,17,18,19,20,21,22,23,24,25] (fun (k:Nat)=>[(5,.int .i64 (k:Nat))]) (fun k w'=>Ext w w'∧k≤l.length∧l.take k=m.take k) (fun x=>l.length - x) 0 Kn ?_ ?_
 ·exact ⟨Jf _,Ja _,Kp⟩
 rintro k ρj w1 ⟨E1,hk,he⟩
 focus
  refine Vx<|Vw<|Yd Z<|Ym v Z<|Yu Js Z h<|Xa Z<|Vt<|Vy Z (fun h2=>?_) (fun h2=>?_);refine Ya<|Vx<|Ye<|Vx<|Qi mixed Ki Z ?_;refine Sd v Z<|Sw Z<|Qe Js Jn Jp Z (fun _=>Z) Z h E1 Z Km ?_;rintro _ _ ⟨rfl,-⟩;refine Sd u Z<|Sw Z<|Qe Js Jn Jp Z (fun _=>Z) Z h' E1 Z Km ?_;rintro _ _ ⟨rfl,-⟩;refine Uv Z (fun _ _=>Uu Z Z) ?_;refine Qb (fun w2 E2=>?_);refine Xq Z (fun h3=>?_) (fun h3=>?_);refine Vw<|Yf Z<|Vt<|Yc ?_;refine Yl (v:=.bool _) Z ?_;refine ⟨congrArg Value.bool ?_,exq⟩;rotate_left
  refine Ya<|Ys<|Yd Z<|Xk Z<|Xc Z<|Vt ?_;rotate_left;refine Xp ?_;refine Yp ?_;refine Vw<|Yf Z<|Vt<|Yc ?_;refine Yl (v:=.bool _) Z ?_;refine ⟨congrArg Value.bool ?_,E1⟩;rotate_left
 ·exact (Jc (ne_at (k:=k) Kh Kh Kk)).symm
 ·refine ⟨(k+1),Kn,Ko,?_,?_⟩
  ·exact ⟨E1.K E2,Kh,(Tu Kh Kh).2 ⟨he,Kk⟩⟩
  ·omega
 ·obtain rfl:k=l.length:=by omega
  exact (Jb (Ln Kh he)).symm
theorem impl_PictureText_ok (w:World) (v:Value) (p:List (List Int)) (h:ESl Ints w v p) (hp:Pic p):Dz 24 [v] w (Ret w (str (txt p))):=by
 have k0 : ∀ (w:World) (v:Value),ESl Ints w v p→Dz 78 [v] w (Ret w (.bool true)):=fun w v h=>by
  have:=Tr w v p h;rwa [decide_eq_true hp] at this
 have k1 : ∀ (w:World) (v:Value),ESl Ints w v p→Dz 79 [v] w (Ret w (str (txt p))):=fun w v h=>Tn w v p h hp
 refine Yx Tryz.func24 Z Tryz.results24 Tryz.ntmps24 Z ?_
 focus
  refine Vw<|Xy Z<|Vt<|Vx<|Vw<|Ym v Z<|Vv Z (Xl (a:=v) Vk Z) (k0 _ _ (h)) ?_;rintro _ w1 ⟨rfl,E1⟩;refine Ub Z<|Vt<|Uo Z fun h1=>?_;refine Ya<|Vw<|Ym v Z<|Vv Z (Xl (a:=v) Vn Z) (k1 _ _ (Ku E1 h)) ?_;rintro _ w2 ⟨rfl,E2⟩;refine Xy Z<|Vt<|Yc ?_;exact ⟨rfl,exq⟩
open Classical in
theorem FnDeskSay_walk (w:World) (hM:EMx gMx w (.bool true) ()) (hT:ETb w (.bool true) ()) (v:Value) (xs:List UInt8) (h:Bytes w v xs) (hc:CapOk v):Does Tryz.prog 4 [v] w (Ret w (.bool true)):=by
 refine Yx Tryz.func4 Z Tryz.results4 Tryz.ntmps4 Z ?_
 have stop4:True:=trivial
 focus
  refine Vw<|Yf Z<|Vt<|Vx<|Vw<|Ym v Z<|Yu Gm Z h<|Qg Z<|Vt<|Vy Z (fun h1=>?_) (fun h1=>?_);refine Vw<|Yf Z<|Vt<|Yc ?_;exact ⟨rfl,(Jf _)⟩;refine Ya<|Vw<|Ym v Z<|Vv Z (Xl (a:=v) Tryz.call20 Z) (DrawDeskSay_ok _ _ _ (h) Kk) ?_;rintro _ w1 ⟨u1,q1,x1,y1,a1,c1,l1,rfl,E1,hA1,hC1,Y1,N1,hL1,hcl1,L1⟩;have:=E1.Z;refine Uy Z<|Lp Z<|WsxS Z<|Xi Z Xz ?_;rintro b1 w2 R1 E2 B1;have:=B1.lt;refine Uz Jj B1 Z (E1.K E2) ?_;rintro w3 E3 B1 K1 Q1;have E4:=E2.A exq E3 K1 Q1 Kh;have I4:=E4.Z;refine Um Z<|Vt<|Vx ?_
 clear stop4
 have hx : ∀ s ∈ l1,s.length≤1048576:=fun s hs=>Jd (L1.2.2 s hs) Kj
 have kI : ∀ (d:Dsk) (w:World) (v1 v2 vl:Value) (l:List (List UInt8)),EMx gMx w (.bool true) ()→ETb w (.bool true) ()→ESl Ints w v1 d.now→ESl (ESl Ints) w v2 d.past→ESl EStr w vl l→(∀ s ∈ l,s.length≤1048576)→Does Tryz.prog 21 [.agg #[v1,v2],vl] w (RetDkY w 23 88 3 9 (dsV d l).1.now (dsV d l).1.past (dsV d l).2):=fun d w v1 v2 vl l hM hT h1 h2 h3 hx=>impl_DeskSay_ok w hM hT v1 v2 d h1 h2 vl l h3 hx
 have kS : ∀ (w:World) (v1 v2 vl:Value),ESl Ints w v1 x1→ESl (ESl Ints) w v2 y1→ESl EStr w vl l1→Does Tryz.prog 22 [.agg #[v1,v2],vl] w (RetDkRY w 9 (dsV ⟨x1,y1⟩ l1).1.now (dsV ⟨x1,y1⟩ l1).1.past (dsV ⟨x1,y1⟩ l1).2):=fun w v1 v2 vl h1 h2 h3=>spec_DeskSay_ok w v1 v2 ⟨x1,y1⟩ h1 h2 vl l1 h3 hx
 have same : ∀ (p:List (List Int)) (q:List (List (List Int))) (w:World) (v1 v2 t1 t2:Value),ESl Ints w v1 p→ESl (ESl Ints) w v2 q→ESl Ints w t1 p→ESl (ESl Ints) w t2 q→Does Tryz.prog 15 [.agg #[v1,v2],.agg #[t1,t2]] w (Ret w (.bool true)):=fun p q w v1 v2 t1 t2 h1 h2 h3 h4=>by
  have:=sameDesk_ok w v1 v2 t1 t2 p p q q h1 h2 h3 h4
  rwa [decide_eq_true ⟨rfl,rfl⟩] at this
 have kX0 : ∀ (l:List (List UInt8)) (w:World) (v u:Value),ESl EStr w v l→ESl EStr w u l→Does Tryz.prog 23 [v,u] w (Ret w (.bool true)):=fun l w v u h h'=>by
  have:=sameTexts_ok w v u l l h h'
  rwa [decide_eq_true rfl] at this
 have kI0 : ∀ (w:World) (v1 v2 vl:Value),EMx gMx w (.bool true) ()→ETb w (.bool true) ()→ESl Ints w v1 x1→ESl (ESl Ints) w v2 y1→ESl EStr w vl l1→Does Tryz.prog 21 [.agg #[v1,v2],vl] w (RetDkY w 23 88 3 9 (dsV ⟨x1,y1⟩ l1).1.now (dsV ⟨x1,y1⟩ l1).1.past (dsV ⟨x1,y1⟩ l1).2):=fun w v1 v2 vl hM hT h1 h2 h3=>kI ⟨x1,y1⟩ w v1 v2 vl l1 hM hT h1 h2 h3 hx
 by_cases hd:DkOk ⟨x1,y1⟩∧l1.length≤40
 ·obtain ⟨hd1,h40⟩:=hd
  have hdd:dsV ⟨x1,y1⟩ l1=sayV ⟨x1,y1⟩ l1:=if_pos ⟨hd1,h40⟩
  have hok:=sayV_ok hd1 l1
  have hnat:(((l1.length:Nat):Int) / 2).toNat=l1.length / 2:=Kh
  have e1:dsV ⟨x1,y1⟩ (l1.take (l1.length / 2))=sayV ⟨x1,y1⟩ (l1.take (l1.length / 2)):=if_pos ⟨hd1,by rw [List.length_take];omega⟩
  have e2:dsV (sayV ⟨x1,y1⟩ (l1.take (l1.length / 2))).1 (l1.drop (l1.length / 2))=sayV (sayV ⟨x1,y1⟩ (l1.take (l1.length / 2))).1 (l1.drop (l1.length / 2)):=if_pos ⟨sayV_ok hd1 _,by rw [List.length_drop];omega⟩
  have e3:=sayV_app ⟨x1,y1⟩ (l1.take (l1.length / 2)) (l1.drop (l1.length / 2))
  rw [List.take_append_drop] at e3
  have hln:=sayV_len ⟨x1,y1⟩ l1
  have hf1:=sayV_len ⟨x1,y1⟩ (l1.take (l1.length / 2))
  rw [List.length_take] at hf1
  have hne:=sayV_ne ⟨x1,y1⟩ l1
  have his:=lnV_is hok
  have htx:=Mi hok.1.1.gr
  have kP : ∀ (w:World) (v:Value),ESl Ints w v (sayV ⟨x1,y1⟩ l1).1.now→Does Tryz.prog 24 [v] w (Ret w (str (txt (sayV ⟨x1,y1⟩ l1).1.now))):=fun w v h=>impl_PictureText_ok w v _ h hok.1.1
  have kL : ∀ (w:World) (v1 v2:Value),EMx gMx w (.bool true) ()→ETb w (.bool true) ()→ESl Ints w v1 (sayV ⟨x1,y1⟩ l1).1.now→ESl (ESl Ints) w v2 (sayV ⟨x1,y1⟩ l1).1.past→Does Tryz.prog 13 [.agg #[v1,v2],str ([105,115,32]++txt (sayV ⟨x1,y1⟩ l1).1.now)] w (RetDkT w 23 88 3 (sayV ⟨x1,y1⟩ l1).1.now (sayV ⟨x1,y1⟩ l1).1.past [121,101,115]):=fun w v1 v2 hM hT h1 h2=>by
   have:=impl_DeskLine_ok w hM hT v1 v2 (sayV ⟨x1,y1⟩ l1).1 h1 h2 ([105,115,32]++txt (sayV ⟨x1,y1⟩ l1).1.now) (by rw [List.length_append];simp only [List.length_cons,List.length_nil];omega)
   rwa [show dlV (sayV ⟨x1,y1⟩ l1).1 ([105,115,32]++txt (sayV ⟨x1,y1⟩ l1).1.now)=((sayV ⟨x1,y1⟩ l1).1,[121,101,115]) from (if_pos hok).trans his] at this
  have k1 : ∀ (w:World),EMx gMx w (.bool true) ()→ETb w (.bool true) ()→ESl Ints w u1 x1→ESl (ESl Ints) w q1 y1→ESl EStr w (.slice a1 l1.length c1) l1→Does Tryz.prog 21 [.agg #[u1,q1],.slice (partS a1 c1 0) (((l1.length:Nat):Int) / 2).toNat c1] w (RetDkY w 23 88 3 9 (sayV ⟨x1,y1⟩ (l1.take (l1.length / 2))).1.now (sayV ⟨x1,y1⟩ (l1.take (l1.length / 2))).1.past (sayV ⟨x1,y1⟩ (l1.take (l1.length / 2))).2):=fun w hM hT h1 h2 h3=>by
   rw [← e1,hnat]
   exact kI ⟨x1,y1⟩ w u1 q1 _ _ hM hT h1 h2 (h3.takeP Kh) (fun a ha=>hx a (List.mem_of_mem_take ha))
  have k2 : ∀ (w:World) (v1 v2:Value),EMx gMx w (.bool true) ()→ETb w (.bool true) ()→ESl Ints w v1 (sayV ⟨x1,y1⟩ (l1.take (l1.length / 2))).1.now→ESl (ESl Ints) w v2 (sayV ⟨x1,y1⟩ (l1.take (l1.length / 2))).1.past→ESl EStr w (.slice a1 l1.length c1) l1→Does Tryz.prog 21 [.agg #[v1,v2],.slice (partS a1 c1 (((l1.length:Nat):Int) / 2).toNat) (l1.length - (((l1.length:Nat):Int) / 2).toNat) (c1 - (((l1.length:Nat):Int) / 2).toNat)] w (RetDkY w 23 88 3 9 (sayV ⟨x1,y1⟩ l1).1.now (sayV ⟨x1,y1⟩ l1).1.past (sayV (sayV ⟨x1,y1⟩ (l1.take (l1.length / 2))).1 (l1.drop (l1.length / 2))).2):=fun w v1 v2 hM hT h1 h2 h3=>by
   rw [show (sayV ⟨x1,y1⟩ l1).1=(sayV (sayV ⟨x1,y1⟩ (l1.take (l1.length / 2))).1 (l1.drop (l1.length / 2))).1 by rw [e3],← e2,hnat]
   exact kI _ w v1 v2 _ _ hM hT h1 h2 (h3.dropP Kh Kk) (fun a ha=>hx a (List.mem_of_mem_drop ha))
  have esum:(sayV ⟨x1,y1⟩ l1).2=(sayV ⟨x1,y1⟩ (l1.take (l1.length / 2))).2++(sayV (sayV ⟨x1,y1⟩ (l1.take (l1.length / 2))).1 (l1.drop (l1.length / 2))).2:=by rw [e3]
  rw [hdd] at kI0 kS
  clear e1 e2 e3 kI hnat his
  generalize (sayV (sayV ⟨x1,y1⟩ (l1.take (l1.length / 2))).1 (l1.drop (l1.length / 2))).2=f2 at *
  generalize sayV ⟨x1,y1⟩ (l1.take (l1.length / 2))=d1 at *
  generalize sayV ⟨x1,y1⟩ l1=d2 at *
  obtain ⟨⟨n1,p1⟩,f1⟩:=d1
  obtain ⟨⟨n2,p2⟩,an⟩:=d2
  simp only at kI0 kS k1 k2 esum hln hf1 hne hok htx kP kL
  have kE:=same n2 p2
  have kX:=kX0 an
  have kO : ∀ (w:World) (v1 v2:Value),ESl Ints w v1 x1→ESl (ESl Ints) w v2 y1→Does Tryz.prog 16 [.agg #[v1,v2]] w (Ret w (.bool true)):=fun w v1 v2 h1 h2=>by
   have:=Rk w v1 v2 ⟨x1,y1⟩ h1 h2;rwa [decide_eq_true hd1] at this
  have stop11:True:=trivial
  focus
   have I4:=E4.Z;have I3:=E3.Z;have I2:=E2.Z;have I1:=E1.Z;refine Ys<|Uk Jq Jj B1 Z<|Re Z<|Vv Z (Xd (a:=.agg _) (b:=.slice _ _ _) Vb Z Z) (kI0 _ _ _ _ (Ku E3 hM) (Ku E3 hT) (Ku E4 hA1) (Ku E4 hC1) (Ku E4 hL1)) ?_;rintro _ w4 ⟨u2,q2,v1,lo1,m1,hi1,rfl,E5,O1,H1,V1,X1,U1,W1,hw1,hd2⟩;have Y2:=Kx O1;have N2:=Kx H1;have:=E5.Z;refine Uy Z<|Lp Z<|Qz v1 Z<|Xi Z Xz ?_;rintro b2 w5 R2 E6 B2;have:=B2.lt;refine Uz Jj B2 Z ((E3.K E5).K E6) ?_;rintro w6 E7 B2 K2 Q2;have E8:=((E4.K E5).K E6).A exq E7 K2 Q2 Kh;have I8:=E8.Z;have E9:=(E5.K E6).A exq E7 K2 Q2 Kh;have I9:=E9.Z
   have E10:=E6.A exq E7 K2 Q2 Kh;have I10:=E10.Z;have B1:=(B1.J exq).Y (K2 _ Kh);have O1:=(O1.J E6).W K2 Kh;have H1:=(H1.J E6).W K2 Kh;have V1:=(V1.toB.J E6).W K2 Kh;refine Ug v1 Z<|Vt<|Vw<|Uk Jq Jj B1 Z<|Re Z<|Vv Z (Xd (a:=.agg _) (b:=.slice _ _ _) Tryz.call22 Z Z) (kS _ _ _ _ (Ku E8 hA1) (Ku E8 hC1) (Ku E8 hL1)) ?_;rintro _ w7 ⟨u3,q3,v2,rfl,E11,hA2,hC2,V2,Y3,N3⟩;have:=E11.Z;refine Uy Z<|Lp Z<|Qz v2 Z<|Xi Z Xz ?_;rintro b3 w8 R3 E12 B3;have:=B3.lt;refine Uz Jj B3 Z ((E7.K E11).K E12) ?_;rintro w9 E13 B3 K3 Q3;have E14:=((E8.K E11).K E12).A exq E13 K3 Q3 Kh;have I14:=E14.Z
   have E15:=((E9.K E11).K E12).A exq E13 K3 Q3 Kh;have I15:=E15.Z;have E16:=((E10.K E11).K E12).A exq E13 K3 Q3 Kh;have I16:=E16.Z;have E17:=(E11.K E12).A exq E13 K3 Q3 Kh;have I17:=E17.Z;have E18:=E12.A exq E13 K3 Q3 Kh;have I18:=E18.Z;have B2:=(B2.J exq).Y (K3 _ Kh);have B1:=(B1.J exq).Y (K3 _ Kh);have O1:=(O1.J exq).W K3 Kh;have H1:=(H1.J exq).W K3 Kh;have V1:=(V1.J exq).W K3 Kh;have hA2:=(hA2.J E12).W K3 Kh;have hC2:=(hC2.J E12).W K3 Kh;have V2:=(V2.toB.J E12).W K3 Kh
   refine Ug v2 Z<|Vt<|Vx<|Vw<|Uk Jq Jj B2 Z<|Uk Jq Jj B3 Z<|Vv Z (Xd (a:=.agg _) (b:=.agg _) Tryz.call15 Z Z) (kE _ _ _ _ _ (Kw O1) (Kw H1) (Kw hA2) (Kw hC2)) ?_;rintro _ w10 ⟨rfl,E19⟩;have:=E19.Z;refine Ub Z<|Uh Z (Xn (v:=.bool _) Z) (fun h2=>?_) (fun h2=>?_);exact Ks;refine Ym v1 Z<|Ym v2 Z<|Vv Z (Xd (a:=v1) (b:=v2) Tryz.call23 Z Z) (kX _ _ _ ((Ku E19 (Kw V1))) ((Ku E19 (Kw V2)))) ?_;rintro _ w11 ⟨rfl,E20⟩;have:=E20.Z;refine Ub Z<|Xg Z<|Vt<|Uo Z fun h3=>?_
   refine Ya<|Vx<|Vw<|Uk Jq Jj (B1.J exq) Z<|Vv Z (Xl (a:=.agg _) Gp Z) (kO _ _ _ (Ku exq hA1) (Ku exq hC1)) ?_;rintro _ w12 ⟨rfl,E21⟩;have:=E21.Z;refine Ub Z<|Uh Z (Xn (v:=.bool _) Z) (fun h4=>?_) (fun h4=>?_);exact Ks;refine Re Z<|Yu Js Z hL1<|Qg Z<|Xg Z<|Vt<|Vz Z fun h5=>?_;refine Ya<|Vw<|Re Z<|Yu Js Z hL1<|Wo Z (Rh Z Z Kh) ?_;refine Xc Z<|Vt<|Vx ?_
  clear stop11
  focus
   have B3:=(B3.J ((E19.K E20).K E21));have B2:=(B2.J ((E19.K E20).K E21));have B1:=(B1.J ((E19.K E20).K E21));have O1:=(O1.J ((E19.K E20).K E21));have H1:=(H1.J ((E19.K E20).K E21));have V1:=(V1.J ((E19.K E20).K E21));have hA2:=(hA2.J ((E19.K E20).K E21));have hC2:=(hC2.J ((E19.K E20).K E21));have V2:=(V2.J ((E19.K E20).K E21));have hA1:=Ku (((E14.K E19).K E20).K E21) hA1;have hC1:=Ku (((E14.K E19).K E20).K E21) hC1;have hL1:=Ku (((E14.K E19).K E20).K E21) hL1;have F1:=(((E13.K E19).K E20).K E21);clear E1;clear E2;clear E3;clear E4;clear I4;clear I4;clear I3;clear I2;clear I1;clear E5;clear E6;clear E7;clear E8;clear I8;clear E9;clear I9;clear E10
   clear I10;clear E11;clear E12;clear E13;clear E14;clear I14;clear E15;clear I15;clear E16;clear I16;clear E17;clear I17;clear E18;clear I18;clear E19;clear E20;clear E21
  refine W_mid [69,70,71,72,73,68,74,75,10,11] (fun ((b9,g1,g2,vf):Nat × Value × Value × Value)=>[(10,.pointer (some ⟨b9,0,none⟩)),(11,vf)]) (fun (b9,g1,g2,vf) w'=>Ext w12 w'∧Blk w' b9 [g1,g2]∧ESl Ints w' g1 n1∧ESl (ESl Ints) w' g2 p1∧ESl EStr w' vf f1∧isCell g1=true∧isCell g2=true) ?_ ?_
  ·focus
    refine Rl (fun _=>True) mixed Z Ki ?_;intro w13 E1 K4 Q4;refine WtmS 1 Z Z trivial<|Nt 2 Z Z trivial<|Yg 3 Z Ki Ki Z (fun _ _=>opv_sliceS_hi Js Jn Z Z Kh) trivial ?_;refine Wha [0,8]<|Yi Z ?_ ?_;refine Uk Jq Jj (B1.J E1) Z<|Wnt<|Wha [4,8]<|Yi Z ?_ ?_;refine Vv Z (Xd (a:=.agg _) (b:=.slice _ _ _) Vb Z Z) (k1 _ (Ku exq hM) (Ku exq hT) (Ku E1 hA1) (Ku E1 hC1) (Ku E1 hL1)) ?_;rintro _ w14 ⟨u4,q4,v3,lo2,m2,hi2,rfl,E2,O2,H2,V3,X2,U2,W2,hw2,hd3⟩;have Y4:=Kx O2;have N4:=Kx H2;have:=E2.Z
    refine Wnt<|Te 5 Z Z trivial<|Tf 6 Z Z trivial<|WtxV 7 v3 Z Z trivial<|Wha [8]<|Wh1 Z<|Xi Z Xz ?_;rintro b4 w15 R4 E3 B4;refine Wnt<|Wha [9]<|Wh1 Z<|Up Z Jj Z Z Kl Kl B4 Kh (((F1.K E1).K E2).K E3) ?_;rintro w16 E4 B4 K5 Q5;have E5:=((E1.K E2).K E3).A exq E4 K5 Q5 Kh;have O2:=(O2.J E3).W K5 Kh;have H2:=(H2.J E3).W K5 Kh;have V3:=(V3.toB.J E3).W K5 Kh;refine Wnt<|Ha 10 v3 Z Z trivial<|Yr Ki ?_;rotate_left;refine Wh1 Z<|Xi Z Xz ?_;rintro b4 w14 R4 E2 B4;have:=B4.lt
    refine Wnt<|Wha [4]<|Wh1 Z<|Vv Z (Xd (a:=.agg _) (b:=.slice _ _ _) Vb Z Z) (k1 _ (Ku exq hM) (Ku exq hT) (Ku exq hA1) (Ku exq hC1) (Ku exq hL1)) ?_;rintro _ w15 ⟨u4,q4,v3,lo2,m2,hi2,rfl,E3,O2,H2,V3,X2,U2,W2,hw2,hd3⟩;have Y4:=Kx O2;have N4:=Kx H2;refine Wnt<|Te 5 Z Z trivial<|Tf 6 Z Z trivial<|WtxV 7 v3 Z Z trivial<|Wha [9]<|Wh1 Z<|Up Z Jj Z Z Kl Kl (B4.J E3) Kh (((F1.K E1).K E2).K E3) ?_;rintro w16 E4 B4 K5 Q5;have E5:=((E1.K E2).K E3).A exq E4 K5 Q5 Kh;have O2:=O2.W K5 Kh;have H2:=H2.W K5 Kh;have V3:=V3.toB.W K5 Kh
    refine Wnt<|Ha 10 v3 Z Z trivial<|Yr Ki ?_;rotate_left;refine Wh1 Z<|Xi Z Xz ?_;rintro b4 w14 R4 E2 B4;have:=B4.lt;refine Wnt<|Wha [0]<|Wh1 Z<|Uk Jq Jj (B1.J exq) Z<|Wnt<|Wha [4]<|Wh1 Z<|Vv Z (Xd (a:=.agg _) (b:=.slice _ _ _) Vb Z Z) (k1 _ (Ku exq hM) (Ku exq hT) (Ku exq hA1) (Ku exq hC1) (Ku exq hL1)) ?_;rintro _ w15 ⟨u4,q4,v3,lo2,m2,hi2,rfl,E3,O2,H2,V3,X2,U2,W2,hw2,hd3⟩;have Y4:=Kx O2;have N4:=Kx H2;refine Wnt<|Te 5 Z Z trivial<|Tf 6 Z Z trivial<|WtxV 7 v3 Z Z trivial<|Wha [9]<|Wh1 Z<|Up Z Jj Z Z Kl Kl (B4.J E3) Kh (((F1.K E1).K E2).K E3) ?_
    rintro w16 E4 B4 K5 Q5;have E5:=((E1.K E2).K E3).A exq E4 K5 Q5 Kh;have O2:=O2.W K5 Kh;have H2:=H2.W K5 Kh;have V3:=V3.toB.W K5 Kh;refine Wnt<|Ha 10 v3 Z Z trivial<|Yr Ki ?_;rotate_left
   all_goals exact ⟨(b4,u4,q4,v3),⟨rfl,rfl,trivial⟩,Ko,(by repeat (first | assumption | refine Ext.trans Kk ?_)),B4,O2.O,H2.O,V3.O,Y4,N4⟩
  rintro ⟨b9,g1,g2,vf⟩ ρ5 w13 ⟨E40,B9,A1,A2,hF,icg1,icg2⟩
  have stop12:True:=trivial
  focus
   have I40:=E40.Z;have szEw1:=F1.Z;refine Vx ?_
  clear stop12
  focus
   have B2:=(B2.J E40);have O1:=(O1.J E40);have H1:=(H1.J E40);have V1:=(V1.J E40);have hL1:=Ku E40 hL1;have F2:=(F1.K E40);clear F1;clear E40;clear I40;clear szEw1
  refine W_mid [77,78,79,80,81,76,82,83,12,13] (fun ((b8,f3,f4,vg):Nat × Value × Value × Value)=>[(12,.pointer (some ⟨b8,0,none⟩)),(13,vg)]) (fun (b8,f3,f4,vg) w'=>Ext w13 w'∧Blk w' b8 [f3,f4]∧ESl Ints w' f3 n2∧ESl (ESl Ints) w' f4 p2∧ESl EStr w' vg f2∧isCell f3=true∧isCell f4=true) ?_ ?_
  ·focus
    have szEw2:=F2.Z;refine Rl (fun _=>True) mixed Z Ki ?_;intro w14 E1 K4 Q4;refine WtmS 1 Z Z trivial<|Nt 2 Z Z trivial<|Yg 3 Z Ki Ki Z (fun _ _=>opv_sliceS_lo Js Jn Z Z Kh) trivial ?_;refine Wha [0,8]<|Yi Z ?_ ?_;refine Uk Jq Jj (B9.J E1) Z<|Wnt<|Wha [4,8]<|Yi Z ?_ ?_;refine Vv Z (Xd (a:=.agg _) (b:=.slice _ _ _) Vb Z Z) (k2 _ _ _ (Ku exq hM) (Ku exq hT) (Ku E1 A1) (Ku E1 A2) (Ku E1 hL1)) ?_;rintro _ w15 ⟨u4,q4,v3,lo2,m2,hi2,rfl,E2,O2,H2,V3,X2,U2,W2,hw2,hd3⟩;have Y4:=Kx O2;have N4:=Kx H2;have:=E2.Z
    refine Wnt<|Te 5 Z Z trivial<|Tf 6 Z Z trivial<|WtxV 7 v3 Z Z trivial<|Wha [8]<|Wh1 Z<|Xi Z Xz ?_;rintro b4 w16 R4 E3 B4;refine Wnt<|Wha [9]<|Wh1 Z<|Up Z Jj Z Z Kl Kl B4 Kh (((F2.K E1).K E2).K E3) ?_;rintro w17 E4 B4 K5 Q5;have E5:=((E1.K E2).K E3).A exq E4 K5 Q5 Kh;have O2:=(O2.J E3).W K5 Kh;have H2:=(H2.J E3).W K5 Kh;have V3:=(V3.toB.J E3).W K5 Kh;refine Wnt<|Ha 10 v3 Z Z trivial<|Yr Ki ?_;rotate_left;refine Wh1 Z<|Xi Z Xz ?_;rintro b4 w15 R4 E2 B4;have:=B4.lt
    refine Wnt<|Wha [4]<|Wh1 Z<|Vv Z (Xd (a:=.agg _) (b:=.slice _ _ _) Vb Z Z) (k2 _ _ _ (Ku exq hM) (Ku exq hT) (Ku exq A1) (Ku exq A2) (Ku exq hL1)) ?_;rintro _ w16 ⟨u4,q4,v3,lo2,m2,hi2,rfl,E3,O2,H2,V3,X2,U2,W2,hw2,hd3⟩;have Y4:=Kx O2;have N4:=Kx H2;refine Wnt<|Te 5 Z Z trivial<|Tf 6 Z Z trivial<|WtxV 7 v3 Z Z trivial<|Wha [9]<|Wh1 Z<|Up Z Jj Z Z Kl Kl (B4.J E3) Kh (((F2.K E1).K E2).K E3) ?_;rintro w17 E4 B4 K5 Q5;have E5:=((E1.K E2).K E3).A exq E4 K5 Q5 Kh;have O2:=O2.W K5 Kh;have H2:=H2.W K5 Kh;have V3:=V3.toB.W K5 Kh
    refine Wnt<|Ha 10 v3 Z Z trivial<|Yr Ki ?_;rotate_left;refine Wh1 Z<|Xi Z Xz ?_;rintro b4 w15 R4 E2 B4;have:=B4.lt;refine Wnt<|Wha [0]<|Wh1 Z<|Uk Jq Jj (B9.J exq) Z<|Wnt<|Wha [4]<|Wh1 Z<|Vv Z (Xd (a:=.agg _) (b:=.slice _ _ _) Vb Z Z) (k2 _ _ _ (Ku exq hM) (Ku exq hT) (Ku exq A1) (Ku exq A2) (Ku exq hL1)) ?_;rintro _ w16 ⟨u4,q4,v3,lo2,m2,hi2,rfl,E3,O2,H2,V3,X2,U2,W2,hw2,hd3⟩;have Y4:=Kx O2;have N4:=Kx H2
    refine Wnt<|Te 5 Z Z trivial<|Tf 6 Z Z trivial<|WtxV 7 v3 Z Z trivial<|Wha [9]<|Wh1 Z<|Up Z Jj Z Z Kl Kl (B4.J E3) Kh (((F2.K E1).K E2).K E3) ?_;rintro w17 E4 B4 K5 Q5;have E5:=((E1.K E2).K E3).A exq E4 K5 Q5 Kh;have O2:=O2.W K5 Kh;have H2:=H2.W K5 Kh;have V3:=V3.toB.W K5 Kh;refine Wnt<|Ha 10 v3 Z Z trivial<|Yr Ki ?_;rotate_left
   all_goals exact ⟨(b4,u4,q4,v3),⟨rfl,rfl,trivial⟩,Ko,(by repeat (first | assumption | refine Ext.trans Kk ?_)),B4,O2.O,H2.O,V3.O,Y4,N4⟩
  rintro ⟨b8,f3,f4,vg⟩ ρ6 w14 ⟨E41,B8,hF1,hF2,hF3,icf1,icf2⟩
  focus
   have I41:=E41.Z;have szEw2:=F2.Z;refine Vx<|Vw<|Xc Z<|Vt<|Ye ?_
  focus
   have B2:=(B2.J E41);have O1:=(O1.J E41);have H1:=(H1.J E41);have V1:=(V1.J E41);have hF:=Ku E41 hF;have hL1:=Ku E41 hL1;have F1:=(F2.K E41);clear F2;clear E41;clear I41;clear szEw2
  refine Xw [2,14,84,85,86,87,88,89,90,91,92,93,94] (fun (k:Nat)=>[(14,.int .i64 (k:Nat))]) (fun k w'=>Ext w14 w'∧k≤an.length) (fun x=>an.length - x) 0 Kn ?_ ?_
  ·exact ⟨Jf _,Ja _⟩
  rintro k ρk w15 ⟨E42,hk⟩
  by_cases hkl:k < an.length
  ·have hnk:an[k]≠[]:=hne _ (List.getElem_mem hkl)
   focus
    refine Vx<|Vw<|Yd Z<|Ym v1 Z<|Yu Js Z (Kw V1)<|Xa Z<|Vt<|Vy Z (fun h6=>?_) (fun h6=>?_);refine Ya<|Vx<|Ye<|Vw<|Ym v1 Z<|Yd Z<|Ua Js Jn Jp Z (fun _=>Z) Z (Kw V1) E42 Z Km ?_;rintro _ _ ⟨rfl,-⟩;refine Wo Z (Yn Z Z)<|Vt<|Yy Z fun h7=>?_;refine Ya<|Ys<|Yd Z<|Xk Z<|Xc Z<|Vt ?_;rotate_left;exact Kt
   refine ⟨(k+1),Kn,Ko,?_,?_⟩
   ·exact ⟨E42,Kh⟩
   ·omega
  ·have stop18:True:=trivial
   focus
    have I42:=E42.Z;have szEw1:=F1.Z;refine Vx<|Vw<|Yd Z<|Ym v1 Z<|Yu Js Z (Kw V1)<|Xa Z<|Vt<|Vz Z fun h6=>?_;refine Xp ?_;refine Yp ?_;refine Vx ?_
   clear stop18
   focus
    have B8:=(B8.J E42);have B2:=(B2.J E42);have O1:=(O1.J E42);have H1:=(H1.J E42);have V1:=(V1.J E42);have hF1:=Ku E42 hF1;have hF2:=Ku E42 hF2;have hF3:=Ku E42 hF3;have hF:=Ku E42 hF;have hL1:=Ku E42 hL1;have F2:=(F1.K E42);clear F1;clear E42;clear I42;clear szEw1
   refine W_mid [96,97,98,99,100,101,95,102,103,15,16] (fun (b7:Nat)=>[(15,.pointer (some ⟨b7,0,none⟩)),(16,str [121,101,115])]) (fun _ w'=>Ext w15 w') ?_ ?_
   ·focus
     have szEw2:=F2.Z;refine Rl (fun _=>True) mixed Z Ki ?_;intro w16 E1 K4 Q4;refine Sx 1 Jv Jx Z Z trivial<|Wha [0,2,9]<|Yi Z ?_ ?_;refine Uk Jq Jj (B2.J E1) Z<|Wnt<|Wha [2,9]<|Yi Z ?_ ?_;refine Uc u2 Jt (B2.J E1) Z<|Wnt<|Wha [3,9]<|Yi Z ?_ ?_;refine Vv Z (Xl (a:=u2) Zt Z) (kP _ _ ((Ku E1 (Kw O1)))) ?_;rintro _ w17 ⟨rfl,E2⟩;have:=E2.Z;refine Wnt<|Yg 4 Z Ki Ki Z (fun _ _=>Yw Z Z Kf) trivial ?_;refine Wha [5,9]<|Yi Z ?_ ?_
     refine Vv Z (Xd (a:=.agg _) (b:=.string _) Zi Z Z) (kL _ _ _ (Ku exq hM) (Ku exq hT) ((Ku exq (Kw O1))) ((Ku exq (Kw H1)))) ?_;rintro _ w18 ⟨u4,q4,m2,rfl,E3,O2,H2,X2,U2⟩;have Y4:=Kx O2;have N4:=Kx (Je H2);have:=E3.Z;refine Wnt<|Te 6 Z Z trivial<|Tf 7 Z Z trivial<|WtxT 8 Z Z trivial<|Wha [9]<|Wh1 Z<|Xi Z Xz ?_;rintro b4 w19 R4 E4 B4;refine Wnt<|Wha [10]<|Wh1 Z<|Up Z Jj Z Z Kl Kl B4 Kh ((((F2.K E1).K E2).K E3).K E4) ?_;rintro w20 E5 B4 K5 Q5;have E6:=(((E1.K E2).K E3).K E4).A exq E5 K5 Q5 Kh;refine Wnt<|Uw 11 Z Z trivial<|Yr Ki ?_;rotate_left
     refine Wh1 Z<|Xi Z Xz ?_;rintro b4 w18 R4 E3 B4;refine Wnt<|Wha [5]<|Wh1 Z<|Vv Z (Xd (a:=.agg _) (b:=.string _) Zi Z Z) (kL _ _ _ (Ku exq hM) (Ku exq hT) ((Ku exq (Kw O1))) ((Ku exq (Kw H1)))) ?_;rintro _ w19 ⟨u4,q4,m2,rfl,E4,O2,H2,X2,U2⟩;have Y4:=Kx O2;have N4:=Kx (Je H2);refine Wnt<|Te 6 Z Z trivial<|Tf 7 Z Z trivial<|WtxT 8 Z Z trivial<|Wha [10]<|Wh1 Z<|Up Z Jj Z Z Kl Kl (B4.J E4) Kh ((((F2.K E1).K E2).K E3).K E4) ?_;rintro w20 E5 B4 K5 Q5;have E6:=(((E1.K E2).K E3).K E4).A exq E5 K5 Q5 Kh;refine Wnt<|Uw 11 Z Z trivial<|Yr Ki ?_;rotate_left
     refine Wh1 Z<|Xi Z Xz ?_;rintro b4 w17 R4 E2 B4;refine Wnt<|Wha [3]<|Wh1 Z<|Vv Z (Xl (a:=u2) Zt Z) (kP _ _ ((Ku exq (Kw O1)))) ?_;rintro _ w18 ⟨rfl,E3⟩;refine Wnt<|Yg 4 Z Ki Ki Z (fun _ _=>Yw Z Z Kf) trivial ?_;refine Wha [5]<|Wh1 Z<|Vv Z (Xd (a:=.agg _) (b:=.string _) Zi Z Z) (kL _ _ _ (Ku exq hM) (Ku exq hT) ((Ku exq (Kw O1))) ((Ku exq (Kw H1)))) ?_;rintro _ w19 ⟨u4,q4,m2,rfl,E4,O2,H2,X2,U2⟩;have Y4:=Kx O2;have N4:=Kx (Je H2)
     refine Wnt<|Te 6 Z Z trivial<|Tf 7 Z Z trivial<|WtxT 8 Z Z trivial<|Wha [10]<|Wh1 Z<|Up Z Jj Z Z Kl Kl (B4.J (E3.K E4)) Kh ((((F2.K E1).K E2).K E3).K E4) ?_;rintro w20 E5 B4 K5 Q5;have E6:=(((E1.K E2).K E3).K E4).A exq E5 K5 Q5 Kh;refine Wnt<|Uw 11 Z Z trivial<|Yr Ki ?_;rotate_left;refine Wh1 Z<|Xi Z Xz ?_;rintro b4 w17 R4 E2 B4;refine Wnt<|Wha [2]<|Wh1 Z<|Uc u2 Jt (B2.J exq) Z<|Wnt<|Wha [3]<|Wh1 Z<|Vv Z (Xl (a:=u2) Zt Z) (kP _ _ ((Ku exq (Kw O1)))) ?_;rintro _ w18 ⟨rfl,E3⟩
     refine Wnt<|Yg 4 Z Ki Ki Z (fun _ _=>Yw Z Z Kf) trivial ?_;refine Wha [5]<|Wh1 Z<|Vv Z (Xd (a:=.agg _) (b:=.string _) Zi Z Z) (kL _ _ _ (Ku exq hM) (Ku exq hT) ((Ku exq (Kw O1))) ((Ku exq (Kw H1)))) ?_;rintro _ w19 ⟨u4,q4,m2,rfl,E4,O2,H2,X2,U2⟩;have Y4:=Kx O2;have N4:=Kx (Je H2);refine Wnt<|Te 6 Z Z trivial<|Tf 7 Z Z trivial<|WtxT 8 Z Z trivial<|Wha [10]<|Wh1 Z<|Up Z Jj Z Z Kl Kl (B4.J (E3.K E4)) Kh ((((F2.K E1).K E2).K E3).K E4) ?_;rintro w20 E5 B4 K5 Q5;have E6:=(((E1.K E2).K E3).K E4).A exq E5 K5 Q5 Kh
     refine Wnt<|Uw 11 Z Z trivial<|Yr Ki ?_;rotate_left;refine Yi Z ?_ ?_;refine Uc u2 Jt (B2.J E1) Z<|Wnt<|Wha [0,3,9]<|Yi Z ?_ ?_;refine Uk Jq Jj (B2.J E1) Z<|Wnt<|Wha [3,9]<|Yi Z ?_ ?_;refine Vv Z (Xl (a:=u2) Zt Z) (kP _ _ ((Ku E1 (Kw O1)))) ?_;rintro _ w17 ⟨rfl,E2⟩;have:=E2.Z;refine Wnt<|Yg 4 Z Ki Ki Z (fun _ _=>Yw Z Z Kf) trivial ?_;refine Wha [5,9]<|Yi Z ?_ ?_;refine Vv Z (Xd (a:=.agg _) (b:=.string _) Zi Z Z) (kL _ _ _ (Ku exq hM) (Ku exq hT) ((Ku exq (Kw O1))) ((Ku exq (Kw H1)))) ?_;rintro _ w18 ⟨u4,q4,m2,rfl,E3,O2,H2,X2,U2⟩
     have Y4:=Kx O2;have N4:=Kx (Je H2);have:=E3.Z;refine Wnt<|Te 6 Z Z trivial<|Tf 7 Z Z trivial<|WtxT 8 Z Z trivial<|Wha [9]<|Wh1 Z<|Xi Z Xz ?_;rintro b4 w19 R4 E4 B4;refine Wnt<|Wha [10]<|Wh1 Z<|Up Z Jj Z Z Kl Kl B4 Kh ((((F2.K E1).K E2).K E3).K E4) ?_;rintro w20 E5 B4 K5 Q5;have E6:=(((E1.K E2).K E3).K E4).A exq E5 K5 Q5 Kh;refine Wnt<|Uw 11 Z Z trivial<|Yr Ki ?_;rotate_left;refine Wh1 Z<|Xi Z Xz ?_;rintro b4 w18 R4 E3 B4
     refine Wnt<|Wha [5]<|Wh1 Z<|Vv Z (Xd (a:=.agg _) (b:=.string _) Zi Z Z) (kL _ _ _ (Ku exq hM) (Ku exq hT) ((Ku exq (Kw O1))) ((Ku exq (Kw H1)))) ?_;rintro _ w19 ⟨u4,q4,m2,rfl,E4,O2,H2,X2,U2⟩;have Y4:=Kx O2;have N4:=Kx (Je H2);refine Wnt<|Te 6 Z Z trivial<|Tf 7 Z Z trivial<|WtxT 8 Z Z trivial<|Wha [10]<|Wh1 Z<|Up Z Jj Z Z Kl Kl (B4.J E4) Kh ((((F2.K E1).K E2).K E3).K E4) ?_;rintro w20 E5 B4 K5 Q5;have E6:=(((E1.K E2).K E3).K E4).A exq E5 K5 Q5 Kh;refine Wnt<|Uw 11 Z Z trivial<|Yr Ki ?_;rotate_left;refine Wh1 Z<|Xi Z Xz ?_;rintro b4 w17 R4 E2 B4
     refine Wnt<|Wha [3]<|Wh1 Z<|Vv Z (Xl (a:=u2) Zt Z) (kP _ _ ((Ku exq (Kw O1)))) ?_;rintro _ w18 ⟨rfl,E3⟩;refine Wnt<|Yg 4 Z Ki Ki Z (fun _ _=>Yw Z Z Kf) trivial ?_;refine Wha [5]<|Wh1 Z<|Vv Z (Xd (a:=.agg _) (b:=.string _) Zi Z Z) (kL _ _ _ (Ku exq hM) (Ku exq hT) ((Ku exq (Kw O1))) ((Ku exq (Kw H1)))) ?_;rintro _ w19 ⟨u4,q4,m2,rfl,E4,O2,H2,X2,U2⟩;have Y4:=Kx O2;have N4:=Kx (Je H2)
     refine Wnt<|Te 6 Z Z trivial<|Tf 7 Z Z trivial<|WtxT 8 Z Z trivial<|Wha [10]<|Wh1 Z<|Up Z Jj Z Z Kl Kl (B4.J (E3.K E4)) Kh ((((F2.K E1).K E2).K E3).K E4) ?_;rintro w20 E5 B4 K5 Q5;have E6:=(((E1.K E2).K E3).K E4).A exq E5 K5 Q5 Kh;refine Wnt<|Uw 11 Z Z trivial<|Yr Ki ?_;rotate_left;refine Yi Z ?_ ?_;refine Vv Z (Xl (a:=u2) Zt Z) (kP _ _ ((Ku E1 (Kw O1)))) ?_;rintro _ w17 ⟨rfl,E2⟩;have:=E2.Z;refine Wnt<|Yg 4 Z Ki Ki Z (fun _ _=>Yw Z Z Kf) trivial ?_;refine Wha [0,9]<|Yi Z ?_ ?_
     refine Uk Jq Jj (B2.J exq) Z<|Wnt<|Wha [5,9]<|Yi Z ?_ ?_;refine Vv Z (Xd (a:=.agg _) (b:=.string _) Zi Z Z) (kL _ _ _ (Ku exq hM) (Ku exq hT) ((Ku exq (Kw O1))) ((Ku exq (Kw H1)))) ?_;rintro _ w18 ⟨u4,q4,m2,rfl,E3,O2,H2,X2,U2⟩;have Y4:=Kx O2;have N4:=Kx (Je H2);have:=E3.Z;refine Wnt<|Te 6 Z Z trivial<|Tf 7 Z Z trivial<|WtxT 8 Z Z trivial<|Wha [9]<|Wh1 Z<|Xi Z Xz ?_;rintro b4 w19 R4 E4 B4;refine Wnt<|Wha [10]<|Wh1 Z<|Up Z Jj Z Z Kl Kl B4 Kh ((((F2.K E1).K E2).K E3).K E4) ?_;rintro w20 E5 B4 K5 Q5
     have E6:=(((E1.K E2).K E3).K E4).A exq E5 K5 Q5 Kh;refine Wnt<|Uw 11 Z Z trivial<|Yr Ki ?_;rotate_left;refine Wh1 Z<|Xi Z Xz ?_;rintro b4 w18 R4 E3 B4;refine Wnt<|Wha [5]<|Wh1 Z<|Vv Z (Xd (a:=.agg _) (b:=.string _) Zi Z Z) (kL _ _ _ (Ku exq hM) (Ku exq hT) ((Ku exq (Kw O1))) ((Ku exq (Kw H1)))) ?_;rintro _ w19 ⟨u4,q4,m2,rfl,E4,O2,H2,X2,U2⟩;have Y4:=Kx O2;have N4:=Kx (Je H2);refine Wnt<|Te 6 Z Z trivial<|Tf 7 Z Z trivial<|WtxT 8 Z Z trivial<|Wha [10]<|Wh1 Z<|Up Z Jj Z Z Kl Kl (B4.J E4) Kh ((((F2.K E1).K E2).K E3).K E4) ?_;rintro w20 E5 B4 K5 Q5
     have E6:=(((E1.K E2).K E3).K E4).A exq E5 K5 Q5 Kh;refine Wnt<|Uw 11 Z Z trivial<|Yr Ki ?_;rotate_left;refine Wh1 Z<|Xi Z Xz ?_;rintro b4 w18 R4 E3 B4;refine Wnt<|Wha [0]<|Wh1 Z<|Uk Jq Jj (B2.J exq) Z<|Wnt<|Wha [5]<|Wh1 Z<|Vv Z (Xd (a:=.agg _) (b:=.string _) Zi Z Z) (kL _ _ _ (Ku exq hM) (Ku exq hT) ((Ku exq (Kw O1))) ((Ku exq (Kw H1)))) ?_;rintro _ w19 ⟨u4,q4,m2,rfl,E4,O2,H2,X2,U2⟩;have Y4:=Kx O2;have N4:=Kx (Je H2)
     refine Wnt<|Te 6 Z Z trivial<|Tf 7 Z Z trivial<|WtxT 8 Z Z trivial<|Wha [10]<|Wh1 Z<|Up Z Jj Z Z Kl Kl (B4.J E4) Kh ((((F2.K E1).K E2).K E3).K E4) ?_;rintro w20 E5 B4 K5 Q5;have E6:=(((E1.K E2).K E3).K E4).A exq E5 K5 Q5 Kh;refine Wnt<|Uw 11 Z Z trivial<|Yr Ki ?_;rotate_left;refine Wh1 Z<|Xi Z Xz ?_;rintro b4 w17 R4 E2 B4;refine Wnt<|Wha [0,3]<|Yi Z ?_ ?_;refine Uk Jq Jj (B2.J exq) Z<|Wnt<|Wha [3]<|Wh1 Z<|Vv Z (Xl (a:=u2) Zt Z) (kP _ _ ((Ku exq (Kw O1)))) ?_;rintro _ w18 ⟨rfl,E3⟩
     refine Wnt<|Yg 4 Z Ki Ki Z (fun _ _=>Yw Z Z Kf) trivial ?_;refine Wha [5]<|Wh1 Z<|Vv Z (Xd (a:=.agg _) (b:=.string _) Zi Z Z) (kL _ _ _ (Ku exq hM) (Ku exq hT) ((Ku exq (Kw O1))) ((Ku exq (Kw H1)))) ?_;rintro _ w19 ⟨u4,q4,m2,rfl,E4,O2,H2,X2,U2⟩;have Y4:=Kx O2;have N4:=Kx (Je H2);refine Wnt<|Te 6 Z Z trivial<|Tf 7 Z Z trivial<|WtxT 8 Z Z trivial<|Wha [10]<|Wh1 Z<|Up Z Jj Z Z Kl Kl (B4.J (E3.K E4)) Kh ((((F2.K E1).K E2).K E3).K E4) ?_;rintro w20 E5 B4 K5 Q5;have E6:=(((E1.K E2).K E3).K E4).A exq E5 K5 Q5 Kh
     refine Wnt<|Uw 11 Z Z trivial<|Yr Ki ?_;rotate_left;refine Wh1 Z<|Vv Z (Xl (a:=u2) Zt Z) (kP _ _ ((Ku exq (Kw O1)))) ?_;rintro _ w18 ⟨rfl,E3⟩;refine Wnt<|Yg 4 Z Ki Ki Z (fun _ _=>Yw Z Z Kf) trivial ?_;refine Wha [0]<|Wh1 Z<|Uk Jq Jj (B2.J exq) Z<|Wnt<|Wha [5]<|Wh1 Z<|Vv Z (Xd (a:=.agg _) (b:=.string _) Zi Z Z) (kL _ _ _ (Ku exq hM) (Ku exq hT) ((Ku exq (Kw O1))) ((Ku exq (Kw H1)))) ?_;rintro _ w19 ⟨u4,q4,m2,rfl,E4,O2,H2,X2,U2⟩;have Y4:=Kx O2;have N4:=Kx (Je H2)
     refine Wnt<|Te 6 Z Z trivial<|Tf 7 Z Z trivial<|WtxT 8 Z Z trivial<|Wha [10]<|Wh1 Z<|Up Z Jj Z Z Kl Kl (B4.J (E3.K E4)) Kh ((((F2.K E1).K E2).K E3).K E4) ?_;rintro w20 E5 B4 K5 Q5;have E6:=(((E1.K E2).K E3).K E4).A exq E5 K5 Q5 Kh;refine Wnt<|Uw 11 Z Z trivial<|Yr Ki ?_;rotate_left;refine Wh1 Z<|Xi Z Xz ?_;rintro b4 w17 R4 E2 B4;refine Wnt<|Wha [0,2]<|Yi Z ?_ ?_;refine Uk Jq Jj (B2.J exq) Z<|Wnt<|Wha [2]<|Wh1 Z<|Uc u2 Jt (B2.J exq) Z<|Wnt<|Wha [3]<|Wh1 Z<|Vv Z (Xl (a:=u2) Zt Z) (kP _ _ ((Ku exq (Kw O1)))) ?_;rintro _ w18 ⟨rfl,E3⟩
     refine Wnt<|Yg 4 Z Ki Ki Z (fun _ _=>Yw Z Z Kf) trivial ?_;refine Wha [5]<|Wh1 Z<|Vv Z (Xd (a:=.agg _) (b:=.string _) Zi Z Z) (kL _ _ _ (Ku exq hM) (Ku exq hT) ((Ku exq (Kw O1))) ((Ku exq (Kw H1)))) ?_;rintro _ w19 ⟨u4,q4,m2,rfl,E4,O2,H2,X2,U2⟩;have Y4:=Kx O2;have N4:=Kx (Je H2);refine Wnt<|Te 6 Z Z trivial<|Tf 7 Z Z trivial<|WtxT 8 Z Z trivial<|Wha [10]<|Wh1 Z<|Up Z Jj Z Z Kl Kl (B4.J (E3.K E4)) Kh ((((F2.K E1).K E2).K E3).K E4) ?_;rintro w20 E5 B4 K5 Q5;have E6:=(((E1.K E2).K E3).K E4).A exq E5 K5 Q5 Kh
     refine Wnt<|Uw 11 Z Z trivial<|Yr Ki ?_;rotate_left;refine Wh1 Z<|Uc u2 Jt (B2.J exq) Z<|Wnt<|Wha [0,3]<|Yi Z ?_ ?_;refine Uk Jq Jj (B2.J exq) Z<|Wnt<|Wha [3]<|Wh1 Z<|Vv Z (Xl (a:=u2) Zt Z) (kP _ _ ((Ku exq (Kw O1)))) ?_;rintro _ w18 ⟨rfl,E3⟩;refine Wnt<|Yg 4 Z Ki Ki Z (fun _ _=>Yw Z Z Kf) trivial ?_;refine Wha [5]<|Wh1 Z<|Vv Z (Xd (a:=.agg _) (b:=.string _) Zi Z Z) (kL _ _ _ (Ku exq hM) (Ku exq hT) ((Ku exq (Kw O1))) ((Ku exq (Kw H1)))) ?_;rintro _ w19 ⟨u4,q4,m2,rfl,E4,O2,H2,X2,U2⟩;have Y4:=Kx O2;have N4:=Kx (Je H2)
     refine Wnt<|Te 6 Z Z trivial<|Tf 7 Z Z trivial<|WtxT 8 Z Z trivial<|Wha [10]<|Wh1 Z<|Up Z Jj Z Z Kl Kl (B4.J (E3.K E4)) Kh ((((F2.K E1).K E2).K E3).K E4) ?_;rintro w20 E5 B4 K5 Q5;have E6:=(((E1.K E2).K E3).K E4).A exq E5 K5 Q5 Kh;refine Wnt<|Uw 11 Z Z trivial<|Yr Ki ?_;rotate_left;refine Wh1 Z<|Vv Z (Xl (a:=u2) Zt Z) (kP _ _ ((Ku exq (Kw O1)))) ?_;rintro _ w18 ⟨rfl,E3⟩;refine Wnt<|Yg 4 Z Ki Ki Z (fun _ _=>Yw Z Z Kf) trivial ?_
     refine Wha [0]<|Wh1 Z<|Uk Jq Jj (B2.J exq) Z<|Wnt<|Wha [5]<|Wh1 Z<|Vv Z (Xd (a:=.agg _) (b:=.string _) Zi Z Z) (kL _ _ _ (Ku exq hM) (Ku exq hT) ((Ku exq (Kw O1))) ((Ku exq (Kw H1)))) ?_;rintro _ w19 ⟨u4,q4,m2,rfl,E4,O2,H2,X2,U2⟩;have Y4:=Kx O2;have N4:=Kx (Je H2);refine Wnt<|Te 6 Z Z trivial<|Tf 7 Z Z trivial<|WtxT 8 Z Z trivial<|Wha [10]<|Wh1 Z<|Up Z Jj Z Z Kl Kl (B4.J (E3.K E4)) Kh ((((F2.K E1).K E2).K E3).K E4) ?_;rintro w20 E5 B4 K5 Q5;have E6:=(((E1.K E2).K E3).K E4).A exq E5 K5 Q5 Kh
     refine Wnt<|Uw 11 Z Z trivial<|Yr Ki ?_;rotate_left
    all_goals exact ⟨b4,⟨rfl,rfl,trivial⟩,Ko,(by repeat (first | assumption | refine Ext.trans Kk ?_))⟩
   rintro b7 ρ7 w16 E43
   have hf12:f1.length+f2.length≤41:=by have:=congrArg List.length esum;rw [List.length_append] at this;omega
   have kX2 : ∀ (w:World) (v u:Value),ESl EStr w v (([]++f1)++f2)→ESl EStr w u an→Does Tryz.prog 23 [v,u] w (Ret w (.bool true)):=fun w v u h h'=>by
    rw [List.nil_append,← esum] at h
    exact kX w v u h h'
   clear kX
   focus
    have:=E43.Z;have szEw2:=F2.Z;refine Vw<|Uk Jq Jj (B8.J E43) Z<|Uk Jq Jj (B2.J E43) Z<|Vv Z (Xd (a:=.agg _) (b:=.agg _) Tryz.call15 Z Z) (kE _ _ _ _ _ (Ku E43 hF1) (Ku E43 hF2) ((Ku E43 (Kw O1))) ((Ku E43 (Kw H1)))) ?_;rintro _ w17 ⟨rfl,E1⟩;have:=E1.Z;refine Xu Z<|Uq XStr Z el34 Jn ?_;rintro b4 w18 R4 b4lt E2 O2;have:=E2.Z;refine Ym vf Z<|Wo_appS Z el34 Z Z (Ku ((E43.K E1).K E2) hF) O2.toB Km Kh Kh (((F2.K E43).K E1).K E2) Kh ?_;have V3:=O2.toB;rintro v3 w19 O2 E3 M1;have E4:=M1.J V3 ((E43.K E1).K E2) Kh;have E6:=M1.J V3 E2 Kh;have:=E6.Z
    refine Ym vg Z<|Wo_appS Z el34 Z Z (Ku E4 hF3) O2.toB Km Kh Kh E3 Kh ?_;have V4:=O2.toB;rintro v4 w20 O2 E7 M2;have E8:=M2.J V4 E4 Kh;refine Ym v1 Z<|Vv Z (Xd (a:=v4) (b:=v1) Tryz.call23 Z Z) (kX2 _ _ _ (Kv O2) ((Ku E8 (Kw V1)))) ?_;rintro _ w21 ⟨rfl,E11⟩;refine Ue Z<|Xu Z<|Ym v1 Z<|Yu Js Z (Kw V1)<|Re Z<|Yu Js Z hL1<|Yt Z<|Ue Z<|Xo Z (fun h7=>?_) (fun h7=>?_);refine Xe Z<|Wo Z (Yn Z Z)<|Ue Z<|Yf Z<|Vt<|Yc ?_;exact ⟨rfl,exq⟩;exact Kt
 ·have hdd:dsV ⟨x1,y1⟩ l1=(⟨[],[]⟩,[]):=if_neg hd
  rw [hdd] at kI0 kS
  simp only at kI0 kS
  have kE:=same [] []
  have kX:=kX0 []
  have kN : ∀ (w:World) (v1 v2:Value),ESl Ints w v1 []→ESl (ESl Ints) w v2 []→Does Tryz.prog 17 [.agg #[v1,v2]] w (Ret w (.bool true)):=fun w v1 v2 h1 h2=>noDesk_ok w v1 v2 [] [] h1 h2
  have kO : ∀ (w:World) (v1 v2:Value),ESl Ints w v1 x1→ESl (ESl Ints) w v2 y1→Does Tryz.prog 16 [.agg #[v1,v2]] w (Ret w (.bool (decide (DkOk ⟨x1,y1⟩)))):=fun w v1 v2 h1 h2=>Rk w v1 v2 ⟨x1,y1⟩ h1 h2
  clear kI
  by_cases hd0:DkOk ⟨x1,y1⟩
  ·have h40 : ¬l1.length≤40:=fun h=>hd ⟨hd0,h⟩
   rw [decide_eq_true hd0] at kO
   focus
    refine Ys<|Uk Jq Jj B1 Z<|Re Z<|Vv Z (Xd (a:=.agg _) (b:=.slice _ _ _) Vb Z Z) (kI0 _ _ _ _ (Ku E3 hM) (Ku E3 hT) (Ku E4 hA1) (Ku E4 hC1) (Ku E4 hL1)) ?_;rintro _ w4 ⟨u2,q2,v1,lo1,m1,hi1,rfl,E5,O1,H1,V1,X1,U1,W1,hw1,hd1⟩;have Y2:=Kx O1;have N2:=Kx H1;have:=E5.Z;refine Uy Z<|Lp Z<|Qz v1 Z<|Xi Z Xz ?_;rintro b2 w5 R2 E6 B2;have:=B2.lt;refine Uz Jj B2 Z ((E3.K E5).K E6) ?_;rintro w6 E7 B2 K2 Q2;have E8:=((E4.K E5).K E6).A exq E7 K2 Q2 Kh;have B1:=(B1.J exq).Y (K2 _ Kh);have O1:=(O1.J E6).W K2 Kh;have H1:=(H1.J E6).W K2 Kh;have V1:=(V1.toB.J E6).W K2 Kh
    refine Ug v1 Z<|Vt<|Vw<|Uk Jq Jj B1 Z<|Re Z<|Vv Z (Xd (a:=.agg _) (b:=.slice _ _ _) Tryz.call22 Z Z) (kS _ _ _ _ (Ku E8 hA1) (Ku E8 hC1) (Ku E8 hL1)) ?_;rintro _ w7 ⟨u3,q3,v2,rfl,E11,hA2,hC2,V2,Y3,N3⟩;have:=E11.Z;refine Uy Z<|Lp Z<|Qz v2 Z<|Xi Z Xz ?_;rintro b3 w8 R3 E12 B3;refine Uz Jj B3 Z ((E7.K E11).K E12) ?_;rintro w9 E13 B3 K3 Q3;have E14:=((E8.K E11).K E12).A exq E13 K3 Q3 Kh;have B2:=(B2.J exq).Y (K3 _ Kh);have B1:=(B1.J exq).Y (K3 _ Kh);have O1:=(O1.J exq).W K3 Kh;have H1:=(H1.J exq).W K3 Kh;have V1:=(V1.J exq).W K3 Kh;have hA2:=(hA2.J E12).W K3 Kh
    have hC2:=(hC2.J E12).W K3 Kh;have V2:=(V2.toB.J E12).W K3 Kh;refine Ug v2 Z<|Vt<|Vx<|Vw<|Uk Jq Jj B2 Z<|Uk Jq Jj B3 Z<|Vv Z (Xd (a:=.agg _) (b:=.agg _) Tryz.call15 Z Z) (kE _ _ _ _ _ (Kw O1) (Kw H1) (Kw hA2) (Kw hC2)) ?_;rintro _ w10 ⟨rfl,E19⟩;refine Ub Z<|Uh Z (Xn (v:=.bool _) Z) (fun h2=>?_) (fun h2=>?_);exact Ks;refine Ym v1 Z<|Ym v2 Z<|Vv Z (Xd (a:=v1) (b:=v2) Tryz.call23 Z Z) (kX _ _ _ ((Ku E19 (Kw V1))) ((Ku E19 (Kw V2)))) ?_;rintro _ w11 ⟨rfl,E20⟩;refine Ub Z<|Xg Z<|Vt<|Uo Z fun h3=>?_
    refine Ya<|Vx<|Vw<|Uk Jq Jj (B1.J exq) Z<|Vv Z (Xl (a:=.agg _) Gp Z) (kO _ _ _ (Ku exq hA1) (Ku exq hC1)) ?_;rintro _ w12 ⟨rfl,E21⟩;refine Ub Z<|Uh Z (Xn (v:=.bool _) Z) (fun h4=>?_) (fun h4=>?_);exact Ks;refine Re Z<|Yu Js Z hL1<|Qg Z<|Xg Z<|Vt<|Vy Z (fun h5=>?_) (fun h5=>?_);refine Vx<|Ys<|Ym v1 Z<|Yu Js Z (Kw V1)<|Yt Z<|Xo Z (fun h6=>?_) (fun h6=>?_);refine Uk Jq Jj (B2.J exq) Z<|Vv Z (Xl (a:=.agg _) Tryz.call17 Z) (kN _ _ _ ((Ku exq (Kw O1))) ((Ku exq (Kw H1)))) ?_;rintro _ w13 ⟨rfl,E22⟩
    refine Ue Z<|Xu Z<|Vv Z (opc0 Tryz.call18) (alive_ok _) ?_;rintro _ w14 ⟨rfl,E23⟩;refine Ue Z<|Yf Z<|Vt<|Yc ?_;exact ⟨rfl,exq⟩;exact Ks;exact Kt
  ·rw [decide_eq_false hd0] at kO
   focus
    refine Ys<|Uk Jq Jj B1 Z<|Re Z<|Vv Z (Xd (a:=.agg _) (b:=.slice _ _ _) Vb Z Z) (kI0 _ _ _ _ (Ku E3 hM) (Ku E3 hT) (Ku E4 hA1) (Ku E4 hC1) (Ku E4 hL1)) ?_;rintro _ w4 ⟨u2,q2,v1,lo1,m1,hi1,rfl,E5,O1,H1,V1,X1,U1,W1,hw1,hd1⟩;have Y2:=Kx O1;have N2:=Kx H1;have:=E5.Z;refine Uy Z<|Lp Z<|Qz v1 Z<|Xi Z Xz ?_;rintro b2 w5 R2 E6 B2;have:=B2.lt;refine Uz Jj B2 Z ((E3.K E5).K E6) ?_;rintro w6 E7 B2 K2 Q2;have E8:=((E4.K E5).K E6).A exq E7 K2 Q2 Kh;have B1:=(B1.J exq).Y (K2 _ Kh);have O1:=(O1.J E6).W K2 Kh;have H1:=(H1.J E6).W K2 Kh;have V1:=(V1.toB.J E6).W K2 Kh
    refine Ug v1 Z<|Vt<|Vw<|Uk Jq Jj B1 Z<|Re Z<|Vv Z (Xd (a:=.agg _) (b:=.slice _ _ _) Tryz.call22 Z Z) (kS _ _ _ _ (Ku E8 hA1) (Ku E8 hC1) (Ku E8 hL1)) ?_;rintro _ w7 ⟨u3,q3,v2,rfl,E11,hA2,hC2,V2,Y3,N3⟩;have:=E11.Z;refine Uy Z<|Lp Z<|Qz v2 Z<|Xi Z Xz ?_;rintro b3 w8 R3 E12 B3;refine Uz Jj B3 Z ((E7.K E11).K E12) ?_;rintro w9 E13 B3 K3 Q3;have E14:=((E8.K E11).K E12).A exq E13 K3 Q3 Kh;have B2:=(B2.J exq).Y (K3 _ Kh);have B1:=(B1.J exq).Y (K3 _ Kh);have O1:=(O1.J exq).W K3 Kh;have H1:=(H1.J exq).W K3 Kh;have V1:=(V1.J exq).W K3 Kh;have hA2:=(hA2.J E12).W K3 Kh
    have hC2:=(hC2.J E12).W K3 Kh;have V2:=(V2.toB.J E12).W K3 Kh;refine Ug v2 Z<|Vt<|Vx<|Vw<|Uk Jq Jj B2 Z<|Uk Jq Jj B3 Z<|Vv Z (Xd (a:=.agg _) (b:=.agg _) Tryz.call15 Z Z) (kE _ _ _ _ _ (Kw O1) (Kw H1) (Kw hA2) (Kw hC2)) ?_;rintro _ w10 ⟨rfl,E19⟩;refine Ub Z<|Uh Z (Xn (v:=.bool _) Z) (fun h2=>?_) (fun h2=>?_);exact Ks;refine Ym v1 Z<|Ym v2 Z<|Vv Z (Xd (a:=v1) (b:=v2) Tryz.call23 Z Z) (kX _ _ _ ((Ku E19 (Kw V1))) ((Ku E19 (Kw V2)))) ?_;rintro _ w11 ⟨rfl,E20⟩;refine Ub Z<|Xg Z<|Vt<|Uo Z fun h3=>?_
    refine Ya<|Vx<|Vw<|Uk Jq Jj (B1.J exq) Z<|Vv Z (Xl (a:=.agg _) Gp Z) (kO _ _ _ (Ku exq hA1) (Ku exq hC1)) ?_;rintro _ w12 ⟨rfl,E21⟩;refine Ub Z<|Uh Z (Xn (v:=.bool _) Z) (fun h4=>?_) (fun h4=>?_);refine Vu Z<|Vu Z<|Vu Z<|Ue Z<|Vt<|Xj Z ?_;refine Vw<|Ym v1 Z<|Yu Js Z (Kw V1)<|Yt Z<|Xo Z (fun h5=>?_) (fun h5=>?_);refine Uk Jq Jj (B2.J exq) Z<|Vv Z (Xl (a:=.agg _) Tryz.call17 Z) (kN _ _ _ ((Ku exq (Kw O1))) ((Ku exq (Kw H1)))) ?_;rintro _ w13 ⟨rfl,E22⟩;refine Ue Z<|Xu Z<|Vv Z (opc0 Tryz.call18) (alive_ok _) ?_;rintro _ w14 ⟨rfl,E23⟩
    refine Ue Z<|Yf Z<|Vt<|Yc ?_;exact ⟨rfl,exq⟩;exact Ks;exact Ks
end Go.Proofs.YtbgpppaljpngmaaGreatDoor
namespace Go
variable {H:Type} {enc:TypeId × Value→H}
theorem Mg {a:Assume} {C:Checked} {os:Os} {f:FuncId} {fn:Func} {s:ChangeSpec} {conds:List PathCond} {apart fresh handsOn again:Bool} {X:World→Array Value→Prop}
  (hX : ∀ (w w':World) (args:Array Value),w.heap=w'.heap→X w args→X w' args)
  (own:ownKnob C.prog.godebug=none) (started:os.Started) (noInit:C.prog.inits.idxOf? f=none) (hfn:C.prog.funcs[f]? = some fn)
  (witness : ∃ (w:World) (tape:Tape) (i:Input),w.os=os∧(w.forCall tape i).Shaped C.prog∧i.vars=[]∧Input.okWide C.prog (w.forCall tape i) .any w.heap.size f i ∧
   ((s.pre enc C.prog fn conds apart (w.forCall tape i).memory i.args∧X (w.forCall tape i).memory i.args)∧sizedMet enc C.prog fn (OpenSpec.ofChange s) apart (w.forCall tape i).memory i.args)∧a.holds C.prog (lone (Frame.enter C.prog f i.args .normal) [] (w.forCall tape i)))
  (contract : ∀ (W:World) (base:Nat) (args:Array Value) (ds gs:List (DataW H)) (before:List MemPlace),
   (∀ (j:Nat) t v,fn.params[j]? = some t→args[j]? = some v→Value.okWide C.prog W .any base t v) →
   DataW.Whole enc C.prog fn.params.toList s.vars apart W args.toList ds gs before→W.ShapedOpen C.prog→X W args →
   Calls C.prog f args W fun e W'=>∃ v,e=.returned v∧s.post enc C.prog fn apart fresh handsOn again W args v W') :
  ReturnsInHanded a C os f .any (fun w args=>(s.pre enc C.prog fn conds apart w args∧X w args)∧sizedMet enc C.prog fn (OpenSpec.ofChange s) apart w args) (s.post enc C.prog fn apart fresh handsOn again):=by
 refine returnsInHanded_of_calls own started noInit witness ?_
 intro w tape i _ hsh _ hok hpre hholds
 obtain ⟨_,_,_,fn',hfn',_,_,_,_,hval⟩:=hok
 have e:fn'=fn:=Option.some.inj (hfn'.symm.trans hfn)
 subst e
 obtain ⟨⟨⟨ds,gs,before,hw,hc⟩,hx⟩,hz⟩:=hpre
 have hw':=DataW.Whole.of_heap (w':=w.forCall tape i) (by rfl) hw
 refine (contract (w.forCall tape i) w.heap.size i.args ds gs before hval hw' hsh (hX _ _ _ (by rfl) hx)).mono fun e W' ⟨v,he,hp⟩=>?_
 subst he
 exact ChangeSpec.post_blind hp
end Go
namespace Go.Proofs.YtbgpppaljpngmaaGreatDoor
open Go.Hs
def isTb (x:String × DataW Unit):Bool:=match x.2 with
 | .agg (.lit (.int .u64 _)::_)=>true
 | _=>false
theorem etb_of {W : World} {l : List (String × DataW Unit)} (h : laidMetH Tryz.prog l W) (hl : l.filter isTb = [("internal/strconv.uint64pow10", Go.Lib.tabData .u64 Go.Lib.pow10Tab)]) : ETb W (.bool true) () := by
 have h1:=laidMetH.filter isTb h
 rw [hl,MakeChecks.laidMetH_plain _ _ _ Ki] at h1
 exact Go.Lib.tabIs_of_head (g:=1) (t:=185) (e:=171) (n:=20) Ki Ki Tryz.underlying185 Tryz.underlying171 Ki Ki h1
end Go.Proofs.YtbgpppaljpngmaaGreatDoor
