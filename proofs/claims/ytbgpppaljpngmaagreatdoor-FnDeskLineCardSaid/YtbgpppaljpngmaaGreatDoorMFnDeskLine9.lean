/- Lemmas for FnDeskLine. -/
import Derived.Test.YtbgpppaljpngmaaGreatDoorMFnDeskLine8
namespace Go.Proofs.YtbgpppaljpngmaaGreatDoor
open Go.Hs
set_option maxRecDepth 10000
set_option maxHeartbeats 4000000
set_option linter.unusedVariables false
set_option linter.unusedSimpArgs false
open Classical in
theorem Deed_ok {w0:World} (w:World) {br m lo:Nat} (u1 u2:Value) (p:List (List Int)) (hr:Rdr w0 w br m) (hm:m≤10000000) (hA:Above lo (ESl Ints) w u1 p) (hlo:br < lo) (hlo2:lo < w.heap.size) (i2:isCell u2=true) (hp:NowP p) :
  Dz 91 [.pointer (some ⟨br,0,none⟩),.agg #[u1,u2]] w (RetDD w0 w br (m+10) DrP):=by
 have i1:isCell u1=true:=Qy hA.here
 have hle:=hA.here.le
 have hO:=hA.xrd hlo2 i1
 clear hA
 refine fn_of_Wc3 Tryz.func91 Z Tryz.results91 Tryz.ntmps91 Z Gb Js ?_
 have hG:w.grownBy w (some br):=Ru _ _
 have hlr:=hr.lt
 have hgr:=hr.ge
 have stop1:True:=trivial
 focus
  refine Vr<|Xu Z Z Z ?_;rintro b1 w1 H1 E1 B1;have:=B1.lt;have hr:=hr.J E1;have hG:=Yf hG E1;refine Qd Z Xq ?_;rintro b2 w2 H2 E2 B2;have:=B2.lt;have hr:=hr.J E2;have hG:=Yf hG E2;refine Vp<|Vt ?_
 clear stop1
 refine W_mid [5,7,8,9,10,11,12,13,14,15,16,17] (fun ((b,k):Nat × Int)=>[(5,.pointer (some ⟨b,0,none⟩))]) (fun (b,k) w'=>w.grownBy w' (some br)∧Rdr w0 w' br (m+2)∧w2.heap.size≤b∧b < w'.heap.size∧Blk w' b1 [u1,u2]∧Blk w' b2 [.int .i64 0,str [],.int .i64 0]∧Blk w' b [.int .i64 k,str [],.int .i64 0]∧OwnedB lo w.heap.size (XRd (ESl Ints)) w' u1 p∧0≤k∧k≤20) ?_ ?_
 ·focus
   refine Rm (fun _=>True) mixed Z Ki ?_;intro w3 E3 K1 Z1;have hr:=hr.J E3;have hG:=Yf hG E3;refine WtmP 1 Z Z trivial<|WtmP 5 Z Z trivial<|Wha [0,2,11]<|Yg Z ?_ ?_;refine Xg (ps:=[(0,.int _ _),(1,.int _ _),(2,.int _ _),(3,.int _ _),(4,.int _ _),(5,.int _ _),(6,.int _ _),(7,.int _ _)]) (cs:=[_,_,_,_,_,_,_,_]) Z Jl Ji Gf Z Z Z Z ?_;rintro b3 w4 H3 E4 B3 Y3;have:=B3.lt;have hr:=hr.J E4;have hG:=Yf hG E4;refine Wnt<|Wha [2,11]<|Yg Z ?_ ?_;refine Vs Z (Xa (a:=.pointer _) (b:=.int _ _) Jy Z Z) (Xs _ _ Kk Kh) ?_;rintro _ w5 ⟨y1,rfl,E5,Q1,L1⟩;(try dsimp only at L1);have:=Q1.lt
   have hO:=(hO.J (((E1.K E2).K E3).K E4)).G E5 Kh;have B1:=(B1.J ((E2.K E3).K E4)).G E5 Kb;have B2:=(B2.J (E3.K E4)).G E5 Kb;have B3:=B3.G E5 Kb;have hG:=Ye hG E5;have:=E5.Z;refine Wnt<|Yc 3 Z Ki Ki Z (fun _ _=>Yk Jl Ji Z Z Kh) trivial ?_;refine Wha [4,6,11]<|Yg Z ?_ ?_;refine Rj Jk Z Z B3 Ka Kc ?_;intro z1 Z1;refine Wnt<|Wha [6,11]<|Yg Z ?_ ?_
   refine Vs Z (Xa (a:=.pointer _) (b:=.int _ _) Jy Z Z) (Xs _ _ Kk Kh) ?_;rintro _ w6 ⟨y2,rfl,E6,Q2,L2⟩;(try dsimp only at L2);have:=Q2.lt;have D2:=Q2.old;have hO:=hO.G E6 Kh;have B1:=B1.G E6 Kb;have B2:=B2.G E6 Kb;have B3:=B3.G E6 Kb;have hG:=Ye hG E6;have:=E6.Z;refine Wnt<|Yc 7 Z Ki Ki Z (fun _ _=>Rd Z Z Kh) trivial ?_;refine Yc 8 Z Ki Ki Z (fun _ _=>Qz Z Z Kh) trivial ?_;refine Yc 9 Z Ki Ki Z (fun _ _=>Qj Z Z Kh) trivial ?_
   refine Yc 10 Z Ki Ki Z (fun _ _=>Yu (ps:=[(0,.int _ _)]) (cs:=[_,_,_]) Xq Z Z) trivial ?_;refine Wha [11]<|Wh1 Z<|Qd Z Xq ?_;rintro b4 w7 H4 E7 B4;have:=B4.lt;have Q2:=Q2.J E7;have hG:=Yf hG E7;refine Wnt<|Wha [12]<|Wh1 Z<|Qs Js B4 Z (D2.trans E7) ?_;rintro w8 E8 B4 K2 Z2;have hO:=(hO.J E7).W K2 Kh;have B1:=(B1.J E7).Y (K2 _ Kh);have B2:=(B2.J E7).Y (K2 _ Kh);have B3:=(B3.J E7).Y (K2 _ Kh);have Q2:=Q2.W E8 (K2 _ Kh) Z2;have hG:=Yw hG (D2.trans E7) E8 K2 Z2 Kd;refine Wnt<|Yp Ki ?_;rotate_left;refine Wh1 Z<|Qd Z Xq ?_;rintro b4 w6 H4 E6 B4;have:=B4.lt
   have Q1:=Q1.J E6;have hG:=Yf hG E6;refine Wnt<|Wha [6]<|Wh1 Z<|Vs Z (Xa (a:=.pointer _) (b:=.int _ _) Jy Z Z) (Xs _ _ Kk Kh) ?_;rintro _ w7 ⟨y2,rfl,E7,Q2,L2⟩;(try dsimp only at L2);have D2:=Q2.old;have hO:=(hO.J E6).G E7 Kh;have B1:=(B1.J E6).G E7 Kb;have B2:=(B2.J E6).G E7 Kb;have B3:=(B3.J E6).G E7 Kb;have B4:=B4.G E7 Kb;have hG:=Ye hG E7;have:=E7.Z;refine Wnt<|Yc 7 Z Ki Ki Z (fun _ _=>Rd Z Z Kh) trivial ?_
   refine Yc 8 Z Ki Ki Z (fun _ _=>Qz Z Z Kh) trivial ?_;refine Yc 9 Z Ki Ki Z (fun _ _=>Qj Z Z Kh) trivial ?_;refine Yc 10 Z Ki Ki Z (fun _ _=>Yu (ps:=[(0,.int _ _)]) (cs:=[_,_,_]) Xq Z Z) trivial ?_;refine Wha [12]<|Wh1 Z<|Qs Js B4 Z D2 ?_;rintro w8 E8 B4 K2 Z2;have Q2:=Q2.W E8 (K2 _ Kh) Z2;have hO:=hO.W K2 Kh;have B1:=B1.Y (K2 _ Kh);have B2:=B2.Y (K2 _ Kh);have B3:=B3.Y (K2 _ Kh);have hG:=Yw hG D2 E8 K2 Z2 Kd;refine Wnt<|Yp Ki ?_;rotate_left;refine Yg Z ?_ ?_
   refine Vs Z (Xa (a:=.pointer _) (b:=.int _ _) Jy Z Z) (Xs _ _ Kk Kh) ?_;rintro _ w6 ⟨y2,rfl,E6,Q2,L2⟩;(try dsimp only at L2);have:=Q2.lt;have D2:=Q2.old;have hO:=hO.G E6 Kh;have B1:=B1.G E6 Kb;have B2:=B2.G E6 Kb;have B3:=B3.G E6 Kb;have hG:=Ye hG E6;have:=E6.Z;refine Wnt<|Yc 7 Z Ki Ki Z (fun _ _=>Rd Z Z Kh) trivial ?_;refine Yc 8 Z Ki Ki Z (fun _ _=>Qz Z Z Kh) trivial ?_;refine Wha [4,11]<|Yg Z ?_ ?_
   refine Rj Jk Z Z B3 Ka Kc ?_;intro z1 Z1;refine Wnt<|Yc 9 Z Ki Ki Z (fun _ _=>Qj Z Z Kh) trivial ?_;refine Yc 10 Z Ki Ki Z (fun _ _=>Yu (ps:=[(0,.int _ _)]) (cs:=[_,_,_]) Xq Z Z) trivial ?_;refine Wha [11]<|Wh1 Z<|Qd Z Xq ?_;rintro b4 w7 H4 E7 B4;have:=B4.lt;have Q2:=Q2.J E7;have hG:=Yf hG E7;refine Wnt<|Wha [12]<|Wh1 Z<|Qs Js B4 Z (D2.trans E7) ?_;rintro w8 E8 B4 K2 Z2;have hO:=(hO.J E7).W K2 Kh;have B1:=(B1.J E7).Y (K2 _ Kh);have B2:=(B2.J E7).Y (K2 _ Kh)
   have B3:=(B3.J E7).Y (K2 _ Kh);have Q2:=Q2.W E8 (K2 _ Kh) Z2;have hG:=Yw hG (D2.trans E7) E8 K2 Z2 Kd;refine Wnt<|Yp Ki ?_;rotate_left;refine Wh1 Z<|Qd Z Xq ?_;rintro b4 w7 H4 E7 B4;have:=B4.lt;have Q2:=Q2.J E7;have hG:=Yf hG E7;refine Wnt<|Wha [4]<|Wh1 Z<|Rj Jk Z Z (B3.J E7) Ka Kc ?_;intro z1 Z1;refine Wnt<|Yc 9 Z Ki Ki Z (fun _ _=>Qj Z Z Kh) trivial ?_;refine Yc 10 Z Ki Ki Z (fun _ _=>Yu (ps:=[(0,.int _ _)]) (cs:=[_,_,_]) Xq Z Z) trivial ?_
   refine Wha [12]<|Wh1 Z<|Qs Js B4 Z (D2.trans E7) ?_;rintro w8 E8 B4 K2 Z2;have hO:=(hO.J E7).W K2 Kh;have B1:=(B1.J E7).Y (K2 _ Kh);have B2:=(B2.J E7).Y (K2 _ Kh);have B3:=(B3.J E7).Y (K2 _ Kh);have Q2:=Q2.W E8 (K2 _ Kh) Z2;have hG:=Yw hG (D2.trans E7) E8 K2 Z2 Kd;refine Wnt<|Yp Ki ?_;rotate_left;refine Wh1 Z<|Qd Z Xq ?_;rintro b4 w6 H4 E6 B4;have:=B4.lt;have Q1:=Q1.J E6;have hG:=Yf hG E6;refine Wnt<|Wha [4,6]<|Yg Z ?_ ?_;refine Rj Jk Z Z (B3.J E6) Ka Kc ?_;intro z1 Z1
   refine Wnt<|Wha [6]<|Wh1 Z<|Vs Z (Xa (a:=.pointer _) (b:=.int _ _) Jy Z Z) (Xs _ _ Kk Kh) ?_;rintro _ w7 ⟨y2,rfl,E7,Q2,L2⟩;(try dsimp only at L2);have D2:=Q2.old;have hO:=(hO.J E6).G E7 Kh;have B1:=(B1.J E6).G E7 Kb;have B2:=(B2.J E6).G E7 Kb;have B3:=(B3.J E6).G E7 Kb;have B4:=B4.G E7 Kb;have hG:=Ye hG E7;have:=E7.Z;refine Wnt<|Yc 7 Z Ki Ki Z (fun _ _=>Rd Z Z Kh) trivial ?_;refine Yc 8 Z Ki Ki Z (fun _ _=>Qz Z Z Kh) trivial ?_
   refine Yc 9 Z Ki Ki Z (fun _ _=>Qj Z Z Kh) trivial ?_;refine Yc 10 Z Ki Ki Z (fun _ _=>Yu (ps:=[(0,.int _ _)]) (cs:=[_,_,_]) Xq Z Z) trivial ?_;refine Wha [12]<|Wh1 Z<|Qs Js B4 Z D2 ?_;rintro w8 E8 B4 K2 Z2;have Q2:=Q2.W E8 (K2 _ Kh) Z2;have hO:=hO.W K2 Kh;have B1:=B1.Y (K2 _ Kh);have B2:=B2.Y (K2 _ Kh);have B3:=B3.Y (K2 _ Kh);have hG:=Yw hG D2 E8 K2 Z2 Kd;refine Wnt<|Yp Ki ?_;rotate_left;refine Wh1 Z<|Vs Z (Xa (a:=.pointer _) (b:=.int _ _) Jy Z Z) (Xs _ _ Kk Kh) ?_;rintro _ w7 ⟨y2,rfl,E7,Q2,L2⟩;(try dsimp only at L2)
   have D2:=Q2.old;have hO:=(hO.J E6).G E7 Kh;have B1:=(B1.J E6).G E7 Kb;have B2:=(B2.J E6).G E7 Kb;have B3:=(B3.J E6).G E7 Kb;have B4:=B4.G E7 Kb;have hG:=Ye hG E7;have:=E7.Z;refine Wnt<|Yc 7 Z Ki Ki Z (fun _ _=>Rd Z Z Kh) trivial ?_;refine Yc 8 Z Ki Ki Z (fun _ _=>Qz Z Z Kh) trivial ?_;refine Wha [4]<|Wh1 Z<|Rj Jk Z Z B3 Ka Kc ?_;intro z1 Z1
   refine Wnt<|Yc 9 Z Ki Ki Z (fun _ _=>Qj Z Z Kh) trivial ?_;refine Yc 10 Z Ki Ki Z (fun _ _=>Yu (ps:=[(0,.int _ _)]) (cs:=[_,_,_]) Xq Z Z) trivial ?_;refine Wha [12]<|Wh1 Z<|Qs Js B4 Z D2 ?_;rintro w8 E8 B4 K2 Z2;have Q2:=Q2.W E8 (K2 _ Kh) Z2;have hO:=hO.W K2 Kh;have B1:=B1.Y (K2 _ Kh);have B2:=B2.Y (K2 _ Kh);have B3:=B3.Y (K2 _ Kh);have hG:=Yw hG D2 E8 K2 Z2 Kd;refine Wnt<|Yp Ki ?_;rotate_left;refine Wh1 Z<|Qd Z Xq ?_;rintro b4 w5 H4 E5 B4;have:=B4.lt;have hr:=hr.J E5;have hG:=Yf hG E5
   refine Wnt<|Wha [2]<|Wh1 Z<|Vs Z (Xa (a:=.pointer _) (b:=.int _ _) Jy Z Z) (Xs _ _ Kk Kh) ?_;rintro _ w6 ⟨y1,rfl,E6,Q1,L1⟩;(try dsimp only at L1);have hO:=(hO.J ((((E1.K E2).K E3).K E4).K E5)).G E6 Kh;have B1:=(B1.J (((E2.K E3).K E4).K E5)).G E6 Kb;have B2:=(B2.J ((E3.K E4).K E5)).G E6 Kb;have B3:=(B3.J E5).G E6 Kb;have B4:=B4.G E6 Kb;have hG:=Ye hG E6;have:=E6.Z;refine Wnt<|Yc 3 Z Ki Ki Z (fun _ _=>Yk Jl Ji Z Z Kh) trivial ?_
   refine Wha [4,6]<|Yg Z ?_ ?_;refine Rj Jk Z Z B3 Ka Kc ?_;intro z1 Z1;refine Wnt<|Wha [6]<|Wh1 Z<|Vs Z (Xa (a:=.pointer _) (b:=.int _ _) Jy Z Z) (Xs _ _ Kk Kh) ?_;rintro _ w7 ⟨y2,rfl,E7,Q2,L2⟩;(try dsimp only at L2);have D2:=Q2.old;have hO:=hO.G E7 Kh;have B1:=B1.G E7 Kb;have B2:=B2.G E7 Kb;have B3:=B3.G E7 Kb;have B4:=B4.G E7 Kb;have hG:=Ye hG E7;have:=E7.Z
   refine Wnt<|Yc 7 Z Ki Ki Z (fun _ _=>Rd Z Z Kh) trivial ?_;refine Yc 8 Z Ki Ki Z (fun _ _=>Qz Z Z Kh) trivial ?_;refine Yc 9 Z Ki Ki Z (fun _ _=>Qj Z Z Kh) trivial ?_;refine Yc 10 Z Ki Ki Z (fun _ _=>Yu (ps:=[(0,.int _ _)]) (cs:=[_,_,_]) Xq Z Z) trivial ?_;refine Wha [12]<|Wh1 Z<|Qs Js B4 Z D2 ?_;rintro w8 E8 B4 K2 Z2;have Q2:=Q2.W E8 (K2 _ Kh) Z2;have hO:=hO.W K2 Kh;have B1:=B1.Y (K2 _ Kh);have B2:=B2.Y (K2 _ Kh);have B3:=B3.Y (K2 _ Kh);have hG:=Yw hG D2 E8 K2 Z2 Kd
   refine Wnt<|Yp Ki ?_;rotate_left;refine Wh1 Z<|Vs Z (Xa (a:=.pointer _) (b:=.int _ _) Jy Z Z) (Xs _ _ Kk Kh) ?_;rintro _ w7 ⟨y2,rfl,E7,Q2,L2⟩;(try dsimp only at L2);have D2:=Q2.old;have hO:=hO.G E7 Kh;have B1:=B1.G E7 Kb;have B2:=B2.G E7 Kb;have B3:=B3.G E7 Kb;have B4:=B4.G E7 Kb;have hG:=Ye hG E7;have:=E7.Z;refine Wnt<|Yc 7 Z Ki Ki Z (fun _ _=>Rd Z Z Kh) trivial ?_;refine Yc 8 Z Ki Ki Z (fun _ _=>Qz Z Z Kh) trivial ?_
   refine Wha [4]<|Wh1 Z<|Rj Jk Z Z B3 Ka Kc ?_;intro z1 Z1;refine Wnt<|Yc 9 Z Ki Ki Z (fun _ _=>Qj Z Z Kh) trivial ?_;refine Yc 10 Z Ki Ki Z (fun _ _=>Yu (ps:=[(0,.int _ _)]) (cs:=[_,_,_]) Xq Z Z) trivial ?_;refine Wha [12]<|Wh1 Z<|Qs Js B4 Z D2 ?_;rintro w8 E8 B4 K2 Z2;have Q2:=Q2.W E8 (K2 _ Kh) Z2;have hO:=hO.W K2 Kh;have B1:=B1.Y (K2 _ Kh);have B2:=B2.Y (K2 _ Kh);have B3:=B3.Y (K2 _ Kh);have hG:=Yw hG D2 E8 K2 Z2 Kd
   refine Wnt<|Yp Ki ?_;rotate_left;refine Yg Z ?_ ?_;refine Vs Z (Xa (a:=.pointer _) (b:=.int _ _) Jy Z Z) (Xs _ _ Kk Kh) ?_;rintro _ w4 ⟨y1,rfl,E4,Q1,L1⟩;(try dsimp only at L1);have:=Q1.lt;have hO:=(hO.J ((E1.K E2).K E3)).G E4 Kh;have B1:=(B1.J (E2.K E3)).G E4 Kb;have B2:=(B2.J E3).G E4 Kb;have hG:=Ye hG E4;have:=E4.Z;refine Wnt<|Wha [0,6,11]<|Yg Z ?_ ?_;refine Xg (ps:=[(0,.int _ _),(1,.int _ _),(2,.int _ _),(3,.int _ _),(4,.int _ _),(5,.int _ _),(6,.int _ _),(7,.int _ _)]) (cs:=[_,_,_,_,_,_,_,_]) Z Jl Ji Gf Z Z Z Z ?_
   rintro b3 w5 H3 E5 B3 Y3;have:=B3.lt;have Q1:=Q1.J E5;have hG:=Yf hG E5;refine Wnt<|Yc 3 Z Ki Ki Z (fun _ _=>Yk Jl Ji Z Z Kh) trivial ?_;refine Wha [4,6,11]<|Yg Z ?_ ?_;refine Rj Jk Z Z B3 Ka Kc ?_;intro z1 Z1;refine Wnt<|Wha [6,11]<|Yg Z ?_ ?_;refine Vs Z (Xa (a:=.pointer _) (b:=.int _ _) Jy Z Z) (Xs _ _ Kk Kh) ?_;rintro _ w6 ⟨y2,rfl,E6,Q2,L2⟩;(try dsimp only at L2);have:=Q2.lt;have D2:=Q2.old;have hO:=(hO.J E5).G E6 Kh;have B1:=(B1.J E5).G E6 Kb
   have B2:=(B2.J E5).G E6 Kb;have B3:=B3.G E6 Kb;have hG:=Ye hG E6;have:=E6.Z;refine Wnt<|Yc 7 Z Ki Ki Z (fun _ _=>Rd Z Z Kh) trivial ?_;refine Yc 8 Z Ki Ki Z (fun _ _=>Qz Z Z Kh) trivial ?_;refine Yc 9 Z Ki Ki Z (fun _ _=>Qj Z Z Kh) trivial ?_;refine Yc 10 Z Ki Ki Z (fun _ _=>Yu (ps:=[(0,.int _ _)]) (cs:=[_,_,_]) Xq Z Z) trivial ?_;refine Wha [11]<|Wh1 Z<|Qd Z Xq ?_;rintro b4 w7 H4 E7 B4;have:=B4.lt;have Q2:=Q2.J E7;have hG:=Yf hG E7
   refine Wnt<|Wha [12]<|Wh1 Z<|Qs Js B4 Z (D2.trans E7) ?_;rintro w8 E8 B4 K2 Z2;have hO:=(hO.J E7).W K2 Kh;have B1:=(B1.J E7).Y (K2 _ Kh);have B2:=(B2.J E7).Y (K2 _ Kh);have B3:=(B3.J E7).Y (K2 _ Kh);have Q2:=Q2.W E8 (K2 _ Kh) Z2;have hG:=Yw hG (D2.trans E7) E8 K2 Z2 Kd;refine Wnt<|Yp Ki ?_;rotate_left;refine Wh1 Z<|Qd Z Xq ?_;rintro b4 w6 H4 E6 B4;have:=B4.lt;have Q1:=Q1.J E6;have hG:=Yf hG E6;refine Wnt<|Wha [6]<|Wh1 Z<|Vs Z (Xa (a:=.pointer _) (b:=.int _ _) Jy Z Z) (Xs _ _ Kk Kh) ?_;rintro _ w7 ⟨y2,rfl,E7,Q2,L2⟩;(try dsimp only at L2);have D2:=Q2.old
   have hO:=(hO.J (E5.K E6)).G E7 Kh;have B1:=(B1.J (E5.K E6)).G E7 Kb;have B2:=(B2.J (E5.K E6)).G E7 Kb;have B3:=(B3.J E6).G E7 Kb;have B4:=B4.G E7 Kb;have hG:=Ye hG E7;have:=E7.Z;refine Wnt<|Yc 7 Z Ki Ki Z (fun _ _=>Rd Z Z Kh) trivial ?_;refine Yc 8 Z Ki Ki Z (fun _ _=>Qz Z Z Kh) trivial ?_;refine Yc 9 Z Ki Ki Z (fun _ _=>Qj Z Z Kh) trivial ?_
   refine Yc 10 Z Ki Ki Z (fun _ _=>Yu (ps:=[(0,.int _ _)]) (cs:=[_,_,_]) Xq Z Z) trivial ?_;refine Wha [12]<|Wh1 Z<|Qs Js B4 Z D2 ?_;rintro w8 E8 B4 K2 Z2;have Q2:=Q2.W E8 (K2 _ Kh) Z2;have hO:=hO.W K2 Kh;have B1:=B1.Y (K2 _ Kh);have B2:=B2.Y (K2 _ Kh);have B3:=B3.Y (K2 _ Kh);have hG:=Yw hG D2 E8 K2 Z2 Kd;refine Wnt<|Yp Ki ?_;rotate_left;refine Yg Z ?_ ?_;refine Vs Z (Xa (a:=.pointer _) (b:=.int _ _) Jy Z Z) (Xs _ _ Kk Kh) ?_;rintro _ w6 ⟨y2,rfl,E6,Q2,L2⟩;(try dsimp only at L2);have:=Q2.lt;have D2:=Q2.old;have hO:=(hO.J E5).G E6 Kh
   have B1:=(B1.J E5).G E6 Kb;have B2:=(B2.J E5).G E6 Kb;have B3:=B3.G E6 Kb;have hG:=Ye hG E6;have:=E6.Z;refine Wnt<|Yc 7 Z Ki Ki Z (fun _ _=>Rd Z Z Kh) trivial ?_;refine Yc 8 Z Ki Ki Z (fun _ _=>Qz Z Z Kh) trivial ?_;refine Wha [4,11]<|Yg Z ?_ ?_;refine Rj Jk Z Z B3 Ka Kc ?_;intro z1 Z1;refine Wnt<|Yc 9 Z Ki Ki Z (fun _ _=>Qj Z Z Kh) trivial ?_
   refine Yc 10 Z Ki Ki Z (fun _ _=>Yu (ps:=[(0,.int _ _)]) (cs:=[_,_,_]) Xq Z Z) trivial ?_;refine Wha [11]<|Wh1 Z<|Qd Z Xq ?_;rintro b4 w7 H4 E7 B4;have:=B4.lt;have Q2:=Q2.J E7;have hG:=Yf hG E7;refine Wnt<|Wha [12]<|Wh1 Z<|Qs Js B4 Z (D2.trans E7) ?_;rintro w8 E8 B4 K2 Z2;have hO:=(hO.J E7).W K2 Kh;have B1:=(B1.J E7).Y (K2 _ Kh);have B2:=(B2.J E7).Y (K2 _ Kh);have B3:=(B3.J E7).Y (K2 _ Kh);have Q2:=Q2.W E8 (K2 _ Kh) Z2;have hG:=Yw hG (D2.trans E7) E8 K2 Z2 Kd;refine Wnt<|Yp Ki ?_;rotate_left;refine Wh1 Z<|Qd Z Xq ?_;rintro b4 w7 H4 E7 B4;have:=B4.lt
   have Q2:=Q2.J E7;have hG:=Yf hG E7;refine Wnt<|Wha [4]<|Wh1 Z<|Rj Jk Z Z (B3.J E7) Ka Kc ?_;intro z1 Z1;refine Wnt<|Yc 9 Z Ki Ki Z (fun _ _=>Qj Z Z Kh) trivial ?_;refine Yc 10 Z Ki Ki Z (fun _ _=>Yu (ps:=[(0,.int _ _)]) (cs:=[_,_,_]) Xq Z Z) trivial ?_;refine Wha [12]<|Wh1 Z<|Qs Js B4 Z (D2.trans E7) ?_;rintro w8 E8 B4 K2 Z2;have hO:=(hO.J E7).W K2 Kh;have B1:=(B1.J E7).Y (K2 _ Kh);have B2:=(B2.J E7).Y (K2 _ Kh);have B3:=(B3.J E7).Y (K2 _ Kh);have Q2:=Q2.W E8 (K2 _ Kh) Z2
   have hG:=Yw hG (D2.trans E7) E8 K2 Z2 Kd;refine Wnt<|Yp Ki ?_;rotate_left;refine Wh1 Z<|Qd Z Xq ?_;rintro b4 w6 H4 E6 B4;have:=B4.lt;have Q1:=Q1.J E6;have hG:=Yf hG E6;refine Wnt<|Wha [4,6]<|Yg Z ?_ ?_;refine Rj Jk Z Z (B3.J E6) Ka Kc ?_;intro z1 Z1;refine Wnt<|Wha [6]<|Wh1 Z<|Vs Z (Xa (a:=.pointer _) (b:=.int _ _) Jy Z Z) (Xs _ _ Kk Kh) ?_;rintro _ w7 ⟨y2,rfl,E7,Q2,L2⟩;(try dsimp only at L2);have D2:=Q2.old;have hO:=(hO.J (E5.K E6)).G E7 Kh
   have B1:=(B1.J (E5.K E6)).G E7 Kb;have B2:=(B2.J (E5.K E6)).G E7 Kb;have B3:=(B3.J E6).G E7 Kb;have B4:=B4.G E7 Kb;have hG:=Ye hG E7;have:=E7.Z;refine Wnt<|Yc 7 Z Ki Ki Z (fun _ _=>Rd Z Z Kh) trivial ?_;refine Yc 8 Z Ki Ki Z (fun _ _=>Qz Z Z Kh) trivial ?_;refine Yc 9 Z Ki Ki Z (fun _ _=>Qj Z Z Kh) trivial ?_;refine Yc 10 Z Ki Ki Z (fun _ _=>Yu (ps:=[(0,.int _ _)]) (cs:=[_,_,_]) Xq Z Z) trivial ?_
   refine Wha [12]<|Wh1 Z<|Qs Js B4 Z D2 ?_;rintro w8 E8 B4 K2 Z2;have Q2:=Q2.W E8 (K2 _ Kh) Z2;have hO:=hO.W K2 Kh;have B1:=B1.Y (K2 _ Kh);have B2:=B2.Y (K2 _ Kh);have B3:=B3.Y (K2 _ Kh);have hG:=Yw hG D2 E8 K2 Z2 Kd;refine Wnt<|Yp Ki ?_;rotate_left;refine Wh1 Z<|Vs Z (Xa (a:=.pointer _) (b:=.int _ _) Jy Z Z) (Xs _ _ Kk Kh) ?_;rintro _ w7 ⟨y2,rfl,E7,Q2,L2⟩;(try dsimp only at L2);have D2:=Q2.old;have hO:=(hO.J (E5.K E6)).G E7 Kh;have B1:=(B1.J (E5.K E6)).G E7 Kb;have B2:=(B2.J (E5.K E6)).G E7 Kb
   have B3:=(B3.J E6).G E7 Kb;have B4:=B4.G E7 Kb;have hG:=Ye hG E7;have:=E7.Z;refine Wnt<|Yc 7 Z Ki Ki Z (fun _ _=>Rd Z Z Kh) trivial ?_;refine Yc 8 Z Ki Ki Z (fun _ _=>Qz Z Z Kh) trivial ?_;refine Wha [4]<|Wh1 Z<|Rj Jk Z Z B3 Ka Kc ?_;intro z1 Z1;refine Wnt<|Yc 9 Z Ki Ki Z (fun _ _=>Qj Z Z Kh) trivial ?_
   refine Yc 10 Z Ki Ki Z (fun _ _=>Yu (ps:=[(0,.int _ _)]) (cs:=[_,_,_]) Xq Z Z) trivial ?_;refine Wha [12]<|Wh1 Z<|Qs Js B4 Z D2 ?_;rintro w8 E8 B4 K2 Z2;have Q2:=Q2.W E8 (K2 _ Kh) Z2;have hO:=hO.W K2 Kh;have B1:=B1.Y (K2 _ Kh);have B2:=B2.Y (K2 _ Kh);have B3:=B3.Y (K2 _ Kh);have hG:=Yw hG D2 E8 K2 Z2 Kd;refine Wnt<|Yp Ki ?_;rotate_left;refine Yg Z ?_ ?_;refine Vs Z (Xa (a:=.pointer _) (b:=.int _ _) Jy Z Z) (Xs _ _ Kk Kh) ?_;rintro _ w5 ⟨y2,rfl,E5,Q2,L2⟩;(try dsimp only at L2);have:=Q2.lt;have D2:=Q2.old;have hO:=hO.G E5 Kh
   have B1:=B1.G E5 Kb;have B2:=B2.G E5 Kb;have hG:=Ye hG E5;have:=E5.Z;refine Wnt<|Yc 7 Z Ki Ki Z (fun _ _=>Rd Z Z Kh) trivial ?_;refine Yc 8 Z Ki Ki Z (fun _ _=>Qz Z Z Kh) trivial ?_;refine Wha [0,11]<|Yg Z ?_ ?_;refine Xg (ps:=[(0,.int _ _),(1,.int _ _),(2,.int _ _),(3,.int _ _),(4,.int _ _),(5,.int _ _),(6,.int _ _),(7,.int _ _)]) (cs:=[_,_,_,_,_,_,_,_]) Z Jl Ji Gf Z Z Z Z ?_;rintro b3 w6 H3 E6 B3 Y3;have:=B3.lt;have Q2:=Q2.J E6;have hG:=Yf hG E6
   refine Wnt<|Yc 3 Z Ki Ki Z (fun _ _=>Yk Jl Ji Z Z Kh) trivial ?_;refine Wha [4,11]<|Yg Z ?_ ?_;refine Rj Jk Z Z B3 Ka Kc ?_;intro z1 Z1;refine Wnt<|Yc 9 Z Ki Ki Z (fun _ _=>Qj Z Z Kh) trivial ?_;refine Yc 10 Z Ki Ki Z (fun _ _=>Yu (ps:=[(0,.int _ _)]) (cs:=[_,_,_]) Xq Z Z) trivial ?_;refine Wha [11]<|Wh1 Z<|Qd Z Xq ?_;rintro b4 w7 H4 E7 B4;have:=B4.lt;have Q2:=Q2.J E7;have hG:=Yf hG E7;refine Wnt<|Wha [12]<|Wh1 Z<|Qs Js B4 Z ((D2.trans E6).K E7) ?_
   rintro w8 E8 B4 K2 Z2;have hO:=(hO.J exq).W K2 Kh;have B1:=(B1.J exq).Y (K2 _ Kh);have B2:=(B2.J exq).Y (K2 _ Kh);have B3:=(B3.J E7).Y (K2 _ Kh);have Q2:=Q2.W E8 (K2 _ Kh) Z2;have hG:=Yw hG ((D2.trans E6).K E7) E8 K2 Z2 Kd;refine Wnt<|Yp Ki ?_;rotate_left;refine Wh1 Z<|Qd Z Xq ?_;rintro b4 w7 H4 E7 B4;have:=B4.lt;have Q2:=Q2.J E7;have hG:=Yf hG E7;refine Wnt<|Wha [4]<|Wh1 Z<|Rj Jk Z Z (B3.J E7) Ka Kc ?_;intro z1 Z1
   refine Wnt<|Yc 9 Z Ki Ki Z (fun _ _=>Qj Z Z Kh) trivial ?_;refine Yc 10 Z Ki Ki Z (fun _ _=>Yu (ps:=[(0,.int _ _)]) (cs:=[_,_,_]) Xq Z Z) trivial ?_;refine Wha [12]<|Wh1 Z<|Qs Js B4 Z ((D2.trans E6).K E7) ?_;rintro w8 E8 B4 K2 Z2;have hO:=(hO.J exq).W K2 Kh;have B1:=(B1.J exq).Y (K2 _ Kh);have B2:=(B2.J exq).Y (K2 _ Kh);have B3:=(B3.J E7).Y (K2 _ Kh);have Q2:=Q2.W E8 (K2 _ Kh) Z2;have hG:=Yw hG ((D2.trans E6).K E7) E8 K2 Z2 Kd;refine Wnt<|Yp Ki ?_;rotate_left;refine Wh1 Z<|Qd Z Xq ?_;rintro b3 w6 H3 E6 B3;have:=B3.lt;have Q2:=Q2.J E6
   have hG:=Yf hG E6;refine Wnt<|Wha [0]<|Wh1 Z<|Xg (ps:=[(0,.int _ _),(1,.int _ _),(2,.int _ _),(3,.int _ _),(4,.int _ _),(5,.int _ _),(6,.int _ _),(7,.int _ _)]) (cs:=[_,_,_,_,_,_,_,_]) Z Jl Ji Gf Z Z Z Z ?_;rintro b4 w7 H4 E7 B4 Y4;have:=B4.lt;have Q2:=Q2.J E7;have hG:=Yf hG E7;refine Wnt<|Yc 3 Z Ki Ki Z (fun _ _=>Yk Jl Ji Z Z Kh) trivial ?_;refine Wha [4]<|Wh1 Z<|Rj Jk Z Z B4 Ka Kc ?_;intro z1 Z1;refine Wnt<|Yc 9 Z Ki Ki Z (fun _ _=>Qj Z Z Kh) trivial ?_
   refine Yc 10 Z Ki Ki Z (fun _ _=>Yu (ps:=[(0,.int _ _)]) (cs:=[_,_,_]) Xq Z Z) trivial ?_;refine Wha [12]<|Wh1 Z<|Qs Js (B3.J E7) Z ((D2.trans E6).K E7) ?_;rintro w8 E8 B3 K2 Z2;have hO:=(hO.J exq).W K2 Kh;have B1:=(B1.J exq).Y (K2 _ Kh);have B2:=(B2.J exq).Y (K2 _ Kh);have Q2:=Q2.W E8 (K2 _ Kh) Z2;have hG:=Yw hG ((D2.trans E6).K E7) E8 K2 Z2 Kd;refine Wnt<|Yp Ki ?_;rotate_left;refine Wh1 Z<|Qd Z Xq ?_;rintro b3 w5 H3 E5 B3;have:=B3.lt;have Q1:=Q1.J E5;have hG:=Yf hG E5;refine Wnt<|Wha [0,6]<|Yg Z ?_ ?_
   refine Xg (ps:=[(0,.int _ _),(1,.int _ _),(2,.int _ _),(3,.int _ _),(4,.int _ _),(5,.int _ _),(6,.int _ _),(7,.int _ _)]) (cs:=[_,_,_,_,_,_,_,_]) Z Jl Ji Gf Z Z Z Z ?_;rintro b4 w6 H4 E6 B4 Y4;have:=B4.lt;have Q1:=Q1.J E6;have hG:=Yf hG E6;refine Wnt<|Yc 3 Z Ki Ki Z (fun _ _=>Yk Jl Ji Z Z Kh) trivial ?_;refine Wha [4,6]<|Yg Z ?_ ?_;refine Rj Jk Z Z B4 Ka Kc ?_;intro z1 Z1;refine Wnt<|Wha [6]<|Wh1 Z<|Vs Z (Xa (a:=.pointer _) (b:=.int _ _) Jy Z Z) (Xs _ _ Kk Kh) ?_
   rintro _ w7 ⟨y2,rfl,E7,Q2,L2⟩;(try dsimp only at L2);have D2:=Q2.old;have hO:=(hO.J (E5.K E6)).G E7 Kh;have B1:=(B1.J (E5.K E6)).G E7 Kb;have B2:=(B2.J (E5.K E6)).G E7 Kb;have B3:=(B3.J E6).G E7 Kb;have hG:=Ye hG E7;have:=E7.Z;refine Wnt<|Yc 7 Z Ki Ki Z (fun _ _=>Rd Z Z Kh) trivial ?_;refine Yc 8 Z Ki Ki Z (fun _ _=>Qz Z Z Kh) trivial ?_;refine Yc 9 Z Ki Ki Z (fun _ _=>Qj Z Z Kh) trivial ?_
   refine Yc 10 Z Ki Ki Z (fun _ _=>Yu (ps:=[(0,.int _ _)]) (cs:=[_,_,_]) Xq Z Z) trivial ?_;refine Wha [12]<|Wh1 Z<|Qs Js B3 Z D2 ?_;rintro w8 E8 B3 K2 Z2;have Q2:=Q2.W E8 (K2 _ Kh) Z2;have hO:=hO.W K2 Kh;have B1:=B1.Y (K2 _ Kh);have B2:=B2.Y (K2 _ Kh);have hG:=Yw hG D2 E8 K2 Z2 Kd;refine Wnt<|Yp Ki ?_;rotate_left;refine Wh1 Z<|Vs Z (Xa (a:=.pointer _) (b:=.int _ _) Jy Z Z) (Xs _ _ Kk Kh) ?_;rintro _ w7 ⟨y2,rfl,E7,Q2,L2⟩;(try dsimp only at L2);have D2:=Q2.old;have hO:=(hO.J (E5.K E6)).G E7 Kh
   have B1:=(B1.J (E5.K E6)).G E7 Kb;have B2:=(B2.J (E5.K E6)).G E7 Kb;have B3:=(B3.J E6).G E7 Kb;have B4:=B4.G E7 Kb;have hG:=Ye hG E7;have:=E7.Z;refine Wnt<|Yc 7 Z Ki Ki Z (fun _ _=>Rd Z Z Kh) trivial ?_;refine Yc 8 Z Ki Ki Z (fun _ _=>Qz Z Z Kh) trivial ?_;refine Wha [4]<|Wh1 Z<|Rj Jk Z Z B4 Ka Kc ?_;intro z1 Z1
   refine Wnt<|Yc 9 Z Ki Ki Z (fun _ _=>Qj Z Z Kh) trivial ?_;refine Yc 10 Z Ki Ki Z (fun _ _=>Yu (ps:=[(0,.int _ _)]) (cs:=[_,_,_]) Xq Z Z) trivial ?_;refine Wha [12]<|Wh1 Z<|Qs Js B3 Z D2 ?_;rintro w8 E8 B3 K2 Z2;have Q2:=Q2.W E8 (K2 _ Kh) Z2;have hO:=hO.W K2 Kh;have B1:=B1.Y (K2 _ Kh);have B2:=B2.Y (K2 _ Kh);have hG:=Yw hG D2 E8 K2 Z2 Kd;refine Wnt<|Yp Ki ?_;rotate_left;refine Wh1 Z<|Vs Z (Xa (a:=.pointer _) (b:=.int _ _) Jy Z Z) (Xs _ _ Kk Kh) ?_;rintro _ w6 ⟨y2,rfl,E6,Q2,L2⟩;(try dsimp only at L2);have D2:=Q2.old
   have hO:=(hO.J E5).G E6 Kh;have B1:=(B1.J E5).G E6 Kb;have B2:=(B2.J E5).G E6 Kb;have B3:=B3.G E6 Kb;have hG:=Ye hG E6;have:=E6.Z;refine Wnt<|Yc 7 Z Ki Ki Z (fun _ _=>Rd Z Z Kh) trivial ?_;refine Yc 8 Z Ki Ki Z (fun _ _=>Qz Z Z Kh) trivial ?_;refine Wha [0]<|Wh1 Z<|Xg (ps:=[(0,.int _ _),(1,.int _ _),(2,.int _ _),(3,.int _ _),(4,.int _ _),(5,.int _ _),(6,.int _ _),(7,.int _ _)]) (cs:=[_,_,_,_,_,_,_,_]) Z Jl Ji Gf Z Z Z Z ?_;rintro b4 w7 H4 E7 B4 Y4;have:=B4.lt
   have Q2:=Q2.J E7;have hG:=Yf hG E7;refine Wnt<|Yc 3 Z Ki Ki Z (fun _ _=>Yk Jl Ji Z Z Kh) trivial ?_;refine Wha [4]<|Wh1 Z<|Rj Jk Z Z B4 Ka Kc ?_;intro z1 Z1;refine Wnt<|Yc 9 Z Ki Ki Z (fun _ _=>Qj Z Z Kh) trivial ?_;refine Yc 10 Z Ki Ki Z (fun _ _=>Yu (ps:=[(0,.int _ _)]) (cs:=[_,_,_]) Xq Z Z) trivial ?_;refine Wha [12]<|Wh1 Z<|Qs Js (B3.J E7) Z (D2.trans E7) ?_;rintro w8 E8 B3 K2 Z2;have hO:=(hO.J E7).W K2 Kh;have B1:=(B1.J E7).Y (K2 _ Kh)
   have B2:=(B2.J E7).Y (K2 _ Kh);have Q2:=Q2.W E8 (K2 _ Kh) Z2;have hG:=Yw hG (D2.trans E7) E8 K2 Z2 Kd;refine Wnt<|Yp Ki ?_;rotate_left;refine Wh1 Z<|Qd Z Xq ?_;rintro b3 w4 H3 E4 B3;have:=B3.lt;have hr:=hr.J E4;have hG:=Yf hG E4;refine Wnt<|Wha [0,2]<|Yg Z ?_ ?_;refine Xg (ps:=[(0,.int _ _),(1,.int _ _),(2,.int _ _),(3,.int _ _),(4,.int _ _),(5,.int _ _),(6,.int _ _),(7,.int _ _)]) (cs:=[_,_,_,_,_,_,_,_]) Z Jl Ji Gf Z Z Z Z ?_;rintro b4 w5 H4 E5 B4 Y4;have:=B4.lt;have hr:=hr.J E5;have hG:=Yf hG E5
   refine Wnt<|Wha [2]<|Wh1 Z<|Vs Z (Xa (a:=.pointer _) (b:=.int _ _) Jy Z Z) (Xs _ _ Kk Kh) ?_;rintro _ w6 ⟨y1,rfl,E6,Q1,L1⟩;(try dsimp only at L1);have hO:=(hO.J ((((E1.K E2).K E3).K E4).K E5)).G E6 Kh;have B1:=(B1.J (((E2.K E3).K E4).K E5)).G E6 Kb;have B2:=(B2.J ((E3.K E4).K E5)).G E6 Kb;have B3:=(B3.J E5).G E6 Kb;have B4:=B4.G E6 Kb;have hG:=Ye hG E6;have:=E6.Z;refine Wnt<|Yc 3 Z Ki Ki Z (fun _ _=>Yk Jl Ji Z Z Kh) trivial ?_
   refine Wha [4,6]<|Yg Z ?_ ?_;refine Rj Jk Z Z B4 Ka Kc ?_;intro z1 Z1;refine Wnt<|Wha [6]<|Wh1 Z<|Vs Z (Xa (a:=.pointer _) (b:=.int _ _) Jy Z Z) (Xs _ _ Kk Kh) ?_;rintro _ w7 ⟨y2,rfl,E7,Q2,L2⟩;(try dsimp only at L2);have D2:=Q2.old;have hO:=hO.G E7 Kh;have B1:=B1.G E7 Kb;have B2:=B2.G E7 Kb;have B3:=B3.G E7 Kb;have hG:=Ye hG E7;have:=E7.Z;refine Wnt<|Yc 7 Z Ki Ki Z (fun _ _=>Rd Z Z Kh) trivial ?_
   refine Yc 8 Z Ki Ki Z (fun _ _=>Qz Z Z Kh) trivial ?_;refine Yc 9 Z Ki Ki Z (fun _ _=>Qj Z Z Kh) trivial ?_;refine Yc 10 Z Ki Ki Z (fun _ _=>Yu (ps:=[(0,.int _ _)]) (cs:=[_,_,_]) Xq Z Z) trivial ?_;refine Wha [12]<|Wh1 Z<|Qs Js B3 Z D2 ?_;rintro w8 E8 B3 K2 Z2;have Q2:=Q2.W E8 (K2 _ Kh) Z2;have hO:=hO.W K2 Kh;have B1:=B1.Y (K2 _ Kh);have B2:=B2.Y (K2 _ Kh);have hG:=Yw hG D2 E8 K2 Z2 Kd;refine Wnt<|Yp Ki ?_;rotate_left;refine Wh1 Z<|Vs Z (Xa (a:=.pointer _) (b:=.int _ _) Jy Z Z) (Xs _ _ Kk Kh) ?_
   rintro _ w7 ⟨y2,rfl,E7,Q2,L2⟩;(try dsimp only at L2);have D2:=Q2.old;have hO:=hO.G E7 Kh;have B1:=B1.G E7 Kb;have B2:=B2.G E7 Kb;have B3:=B3.G E7 Kb;have B4:=B4.G E7 Kb;have hG:=Ye hG E7;have:=E7.Z;refine Wnt<|Yc 7 Z Ki Ki Z (fun _ _=>Rd Z Z Kh) trivial ?_;refine Yc 8 Z Ki Ki Z (fun _ _=>Qz Z Z Kh) trivial ?_;refine Wha [4]<|Wh1 Z<|Rj Jk Z Z B4 Ka Kc ?_
   intro z1 Z1;refine Wnt<|Yc 9 Z Ki Ki Z (fun _ _=>Qj Z Z Kh) trivial ?_;refine Yc 10 Z Ki Ki Z (fun _ _=>Yu (ps:=[(0,.int _ _)]) (cs:=[_,_,_]) Xq Z Z) trivial ?_;refine Wha [12]<|Wh1 Z<|Qs Js B3 Z D2 ?_;rintro w8 E8 B3 K2 Z2;have Q2:=Q2.W E8 (K2 _ Kh) Z2;have hO:=hO.W K2 Kh;have B1:=B1.Y (K2 _ Kh);have B2:=B2.Y (K2 _ Kh);have hG:=Yw hG D2 E8 K2 Z2 Kd;refine Wnt<|Yp Ki ?_;rotate_left;refine Wh1 Z<|Vs Z (Xa (a:=.pointer _) (b:=.int _ _) Jy Z Z) (Xs _ _ Kk Kh) ?_;rintro _ w5 ⟨y1,rfl,E5,Q1,L1⟩;(try dsimp only at L1);have:=Q1.lt
   have hO:=(hO.J (((E1.K E2).K E3).K E4)).G E5 Kh;have B1:=(B1.J ((E2.K E3).K E4)).G E5 Kb;have B2:=(B2.J (E3.K E4)).G E5 Kb;have B3:=B3.G E5 Kb;have hG:=Ye hG E5;have:=E5.Z;refine Wnt<|Wha [0,6]<|Yg Z ?_ ?_;refine Xg (ps:=[(0,.int _ _),(1,.int _ _),(2,.int _ _),(3,.int _ _),(4,.int _ _),(5,.int _ _),(6,.int _ _),(7,.int _ _)]) (cs:=[_,_,_,_,_,_,_,_]) Z Jl Ji Gf Z Z Z Z ?_;rintro b4 w6 H4 E6 B4 Y4;have:=B4.lt;have Q1:=Q1.J E6;have hG:=Yf hG E6
   refine Wnt<|Yc 3 Z Ki Ki Z (fun _ _=>Yk Jl Ji Z Z Kh) trivial ?_;refine Wha [4,6]<|Yg Z ?_ ?_;refine Rj Jk Z Z B4 Ka Kc ?_;intro z1 Z1;refine Wnt<|Wha [6]<|Wh1 Z<|Vs Z (Xa (a:=.pointer _) (b:=.int _ _) Jy Z Z) (Xs _ _ Kk Kh) ?_;rintro _ w7 ⟨y2,rfl,E7,Q2,L2⟩;(try dsimp only at L2);have D2:=Q2.old;have hO:=(hO.J E6).G E7 Kh;have B1:=(B1.J E6).G E7 Kb;have B2:=(B2.J E6).G E7 Kb
   have B3:=(B3.J E6).G E7 Kb;have hG:=Ye hG E7;have:=E7.Z;refine Wnt<|Yc 7 Z Ki Ki Z (fun _ _=>Rd Z Z Kh) trivial ?_;refine Yc 8 Z Ki Ki Z (fun _ _=>Qz Z Z Kh) trivial ?_;refine Yc 9 Z Ki Ki Z (fun _ _=>Qj Z Z Kh) trivial ?_;refine Yc 10 Z Ki Ki Z (fun _ _=>Yu (ps:=[(0,.int _ _)]) (cs:=[_,_,_]) Xq Z Z) trivial ?_;refine Wha [12]<|Wh1 Z<|Qs Js B3 Z D2 ?_;rintro w8 E8 B3 K2 Z2;have Q2:=Q2.W E8 (K2 _ Kh) Z2;have hO:=hO.W K2 Kh;have B1:=B1.Y (K2 _ Kh);have B2:=B2.Y (K2 _ Kh)
   have hG:=Yw hG D2 E8 K2 Z2 Kd;refine Wnt<|Yp Ki ?_;rotate_left;refine Wh1 Z<|Vs Z (Xa (a:=.pointer _) (b:=.int _ _) Jy Z Z) (Xs _ _ Kk Kh) ?_;rintro _ w7 ⟨y2,rfl,E7,Q2,L2⟩;(try dsimp only at L2);have D2:=Q2.old;have hO:=(hO.J E6).G E7 Kh;have B1:=(B1.J E6).G E7 Kb;have B2:=(B2.J E6).G E7 Kb;have B3:=(B3.J E6).G E7 Kb;have B4:=B4.G E7 Kb;have hG:=Ye hG E7;have:=E7.Z;refine Wnt<|Yc 7 Z Ki Ki Z (fun _ _=>Rd Z Z Kh) trivial ?_
   refine Yc 8 Z Ki Ki Z (fun _ _=>Qz Z Z Kh) trivial ?_;refine Wha [4]<|Wh1 Z<|Rj Jk Z Z B4 Ka Kc ?_;intro z1 Z1;refine Wnt<|Yc 9 Z Ki Ki Z (fun _ _=>Qj Z Z Kh) trivial ?_;refine Yc 10 Z Ki Ki Z (fun _ _=>Yu (ps:=[(0,.int _ _)]) (cs:=[_,_,_]) Xq Z Z) trivial ?_;refine Wha [12]<|Wh1 Z<|Qs Js B3 Z D2 ?_;rintro w8 E8 B3 K2 Z2;have Q2:=Q2.W E8 (K2 _ Kh) Z2;have hO:=hO.W K2 Kh;have B1:=B1.Y (K2 _ Kh);have B2:=B2.Y (K2 _ Kh)
   have hG:=Yw hG D2 E8 K2 Z2 Kd;refine Wnt<|Yp Ki ?_;rotate_left;refine Wh1 Z<|Vs Z (Xa (a:=.pointer _) (b:=.int _ _) Jy Z Z) (Xs _ _ Kk Kh) ?_;rintro _ w6 ⟨y2,rfl,E6,Q2,L2⟩;(try dsimp only at L2);have D2:=Q2.old;have hO:=hO.G E6 Kh;have B1:=B1.G E6 Kb;have B2:=B2.G E6 Kb;have B3:=B3.G E6 Kb;have hG:=Ye hG E6;have:=E6.Z;refine Wnt<|Yc 7 Z Ki Ki Z (fun _ _=>Rd Z Z Kh) trivial ?_;refine Yc 8 Z Ki Ki Z (fun _ _=>Qz Z Z Kh) trivial ?_
   refine Wha [0]<|Wh1 Z<|Xg (ps:=[(0,.int _ _),(1,.int _ _),(2,.int _ _),(3,.int _ _),(4,.int _ _),(5,.int _ _),(6,.int _ _),(7,.int _ _)]) (cs:=[_,_,_,_,_,_,_,_]) Z Jl Ji Gf Z Z Z Z ?_;rintro b4 w7 H4 E7 B4 Y4;have:=B4.lt;have Q2:=Q2.J E7;have hG:=Yf hG E7;refine Wnt<|Yc 3 Z Ki Ki Z (fun _ _=>Yk Jl Ji Z Z Kh) trivial ?_;refine Wha [4]<|Wh1 Z<|Rj Jk Z Z B4 Ka Kc ?_;intro z1 Z1;refine Wnt<|Yc 9 Z Ki Ki Z (fun _ _=>Qj Z Z Kh) trivial ?_
   refine Yc 10 Z Ki Ki Z (fun _ _=>Yu (ps:=[(0,.int _ _)]) (cs:=[_,_,_]) Xq Z Z) trivial ?_;refine Wha [12]<|Wh1 Z<|Qs Js (B3.J E7) Z (D2.trans E7) ?_;rintro w8 E8 B3 K2 Z2;have hO:=(hO.J E7).W K2 Kh;have B1:=(B1.J E7).Y (K2 _ Kh);have B2:=(B2.J E7).Y (K2 _ Kh);have Q2:=Q2.W E8 (K2 _ Kh) Z2;have hG:=Yw hG (D2.trans E7) E8 K2 Z2 Kd;refine Wnt<|Yp Ki ?_;rotate_left
  all_goals
   have hy2':=L2 Kh
   first
    | exact ⟨(b3,_),⟨rfl,trivial⟩,Ko,hG,Q2,Kh,Kh,B1,B2,B3,hO,Kh,Kh⟩
    | exact ⟨(b4,_),⟨rfl,trivial⟩,Ko,hG,Q2,Kh,Kh,B1,B2,B4,hO,Kh,Kh⟩
 clear hr hG B1 B2 hO
 rintro ⟨b,k⟩ ρ1 w3 ⟨hG,hr,H3,H4,B1,B2,B3,hO,hk1,hk2⟩
 have E3:=hr.old
 have hlr3:=hr.lt
 have stop2:True:=trivial
 focus
  refine Vt<|Vt ?_
 clear stop2
 refine W_mid [18,19] (fun _:Unit=>[(19,.int .i64 k)]) (fun _ w'=>w3=w') ?_ ?_
 ·focus
   refine Ym<|Yl Jn Ji Z<|Xx Jk B3 Z<|Vp ?_
  exact ⟨(),⟨rfl,trivial⟩,Ko,rfl⟩
 rintro ⟨⟩ ρ2 w4 rfl
 refine W_mid [6,20,21,22,23,24,25,26,27,28,29,30,31,32,33,34,35,36,37,38,39,40,41,42,43,44,45,46,47,48,49,50,51,52,53,54,55,56,57,58,59,60,61,62,63,64,65,66,67,68,69] (fun _:List UInt8 × Int=>[]) (fun (t,n) w'=>w.grownBy w' (some br)∧Rdr w0 w' br (m+9)∧Blk w' b1 [u1,u2]∧Blk w' b2 [.int .i64 0,str [],.int .i64 0]∧Blk w' b [.int .i64 k,str t,.int .i64 n]∧t.length≤999∧0≤n∧n≤11) ?_ ?_
 ·rcases hp with rfl | hp
  ·have h0:([]:List (List Int)).length=0:=rfl
   focus
    refine Yb<|Vt<|Vr<|Yo Z<|Ya Z<|Vp<|Vu Z (fun h1=>?_) (fun h1=>?_);refine Vw<|Vu Z (fun h2=>?_) (fun h2=>?_);refine Vr<|Xc (ps:=[(0,.string _),(1,.string _),(2,.string _),(3,.string _),(4,.string _)]) (cs:=[_,_,_,_,_]) Z Jv Jo Ge Z Z Z Z ?_;rintro b3 w4 H5 E4 B4;have hG:=Yf hG E4;have hr:=hr.J E4;refine Uv Z<|Vs Z (Xa (a:=.pointer _) (b:=.int _ _) Jy Z Z) (Xs _ _ Kk Kh) ?_;rintro _ w5 ⟨y1,rfl,E5,Q1,L1⟩;(try dsimp only at L1);have D1:=Q1.old;have B1:=(B1.J E4).G E5 Kb;have B2:=(B2.J E4).G E5 Kb
    have B3:=(B3.J E4).G E5 Kb;have hO:=(hO.J E4).G E5 Kh;have B4:=B4.G E5 Kb;have hG:=Ye hG E5;refine Wo Z (Yk Jv Jo Z Z Kh) ?_;refine Ub 0 Jp Z Z B4 Ka Kc ?_;intro s1 P1;refine Yl Jn Jo Z<|Um (v:=.string _) Z Jo Z Z Z B3 Kp Kh D1 ?_;rintro w6 E6 B3 K1 Z1;simp only [List.set] at B3;have Q1:=Q1.W E6 (K1 _ Kh) Z1;have B1:=B1.Y (K1 _ Kh);have B2:=B2.Y (K1 _ Kh);have hO:=hO.W K1 Kh
    have hG:=Yw hG D1 E6 K1 Z1 Kd;refine Vp<|Vr<|Yl Jt Jx Z<|Xw u1 Ju B1 Z<|Ys Jm Z (Kw hO)<|Qo Z<|Ui Z fun h3=>?_;refine Vq Z<|Vq Z<|Vq Z<|Xb Z<|Vp<|Vx Z ?_;refine Vw ?_;rotate_left;exact Ks;refine Ym<|Yo Z<|Ya Z<|Vp<|Vu Z (fun h2=>?_) (fun h2=>?_);refine Vr<|Xc (ps:=[(0,.string _),(1,.string _),(2,.string _),(3,.string _),(4,.string _)]) (cs:=[_,_,_,_,_]) Z Jv Jo Ge Z Z Z Z ?_;rintro b3 w4 H5 E4 B4;have hG:=Yf hG E4;have hr:=hr.J E4
    refine Uv Z<|Vs Z (Xa (a:=.pointer _) (b:=.int _ _) Jy Z Z) (Xs _ _ Kk Kh) ?_;rintro _ w5 ⟨y1,rfl,E5,Q1,L1⟩;(try dsimp only at L1);have D1:=Q1.old;have B1:=(B1.J E4).G E5 Kb;have B2:=(B2.J E4).G E5 Kb;have B3:=(B3.J E4).G E5 Kb;have hO:=(hO.J E4).G E5 Kh;have B4:=B4.G E5 Kb;have hG:=Ye hG E5;refine Wo Z (Yk Jv Jo Z Z Kh) ?_;refine Ub 0 Jp Z Z B4 Ka Kc ?_;intro s1 P1
    refine Yl Jn Jo Z<|Um (v:=.string _) Z Jo Z Z Z B3 Kp Kh D1 ?_;rintro w6 E6 B3 K1 Z1;simp only [List.set] at B3;have Q1:=Q1.W E6 (K1 _ Kh) Z1;have B1:=B1.Y (K1 _ Kh);have B2:=B2.Y (K1 _ Kh);have hO:=hO.W K1 Kh;have hG:=Yw hG D1 E6 K1 Z1 Kd;refine Vp<|Vr<|Yl Jt Jx Z<|Xw u1 Ju B1 Z<|Ys Jm Z (Kw hO)<|Qo Z<|Ui Z fun h3=>?_;refine Vq Z<|Vq Z<|Vq Z<|Xb Z<|Vp<|Vx Z ?_;refine Vw ?_;rotate_left;refine Vr<|Yo Z<|Ya Z<|Vp<|Vu Z (fun h3=>?_) (fun h3=>?_)
    refine Ym<|Uv Z<|Yl Jt Jx Z<|Xw u1 Ju B1 Z<|Ys Jm Z (Kw hO)<|Wo Z (opv_max Z Z)<|Vs Z (Xa (a:=.pointer _) (b:=.int _ _) Jy Z Z) (Xs _ _ Kk Kh) ?_;rintro _ w4 ⟨y1,rfl,E4,Q1,L1⟩;(try dsimp only at L1);have D1:=Q1.old;have hG:=Ye hG E4;have B1:=B1.G E4 Kb;have B2:=B2.G E4 Kb;have B3:=B3.G E4 Kb;refine Yl Jn Ji Z<|Um (v:=.int _ _) Z Ji Z Z Z B3 Kp Kh D1 ?_;rintro w5 E5 B3 K1 Z1;simp only [List.set] at B3;have Q1:=Q1.W E5 (K1 _ Kh) Z1
    have hG:=Yw hG D1 E5 K1 Z1 Kd;have B1:=B1.Y (K1 _ Kh);have B2:=B2.Y (K1 _ Kh);refine Vp ?_;rotate_left;refine Vw ?_;rotate_left
   all_goals
    refine ⟨(_,_),trivial,Ko,hG,?_,(by first | exact B1 | exact B1.J (by repeat (first | assumption | refine Ext.trans Kk ?_))),(by first | exact B2 | exact B2.J (by repeat (first | assumption | refine Ext.trans Kk ?_))),(by first | exact B3 | exact B3.J (by repeat (first | assumption | refine Ext.trans Kk ?_))),?_,?_,?_⟩
    ·first | exact Q7.le Kh | exact Q6.le Kh | exact Q5.le Kh | exact Q4.le Kh | exact Q3.le Kh | exact Q2.le Kh | exact Q1.le Kh | exact hr.le Kh
    all_goals first | omega | (simp only [List.length_append,List.length_cons,List.length_nil];omega)
  ·have I1:=hp.1
   have I5:=hp.2.1
   have c1 : ∀ (w:World) (v:Value),ESl Ints w v p→Dz 119 [v,.int .i64 0] w (RetO w XI (ints (arr p 0))):=fun w v h=>Tu w v p h hp 0 I1
   by_cases hL:LeastP p
   ·have c2 : ∀ (w:World) (v:Value),ESl Ints w v p→Dz 73 [v] w (Ret w (.bool true)):=fun w v h=>by
     have:=Nh w v p h;rwa [decide_eq_true hL] at this
    have c3 : ∀ (i:Nat) (hi:i < (ints (arr p 0)).length) (w:World) (v:Value),ESl Ints w v p→Dz 126 [v,.int .i64 (ints (arr p 0))[i]] w (RetDX w XR Pic):=fun i hi w v h=>by
     have hi':i < (arr p 0).length:=by rw [← Ul];exact hi
     rw [Qh hi']
     have hlt:=Qm hp I1 (List.getElem_mem hi')
     have hN:Nod p ((arr p 0)[i]:Nat):=⟨hL.1,Kh,Kh⟩
     refine (Tg w v p h _).mono fun u w' ho=>?_
     rw [if_pos hN] at ho
     exact ⟨_,ho.1,ho.2,lst_pic hL.1 (by simpa using hlt)⟩
    have c4 : ∀ (w:World) (v:Value) (c:List (List Int)),ESl Ints w v c→Pic c→Dz 62 [v] w (RetX w str (fun s _=>s.length≤200)):=fun w v c h hc=>by
     refine (Qk w v c h).mono fun u w' ho=>?_
     rw [if_pos hc] at ho
     exact ⟨ho.2,_,ho.1,Lk hc.gr⟩
    have stop9:True:=trivial
    focus
     refine Yb<|Vt<|Vr<|Yo Z<|Ya Z<|Vp<|Vu Z (fun h1=>?_) (fun h1=>?_);refine Vw<|Vu Z (fun h2=>?_) (fun h2=>?_);refine Vr<|Xc (ps:=[(0,.string _),(1,.string _),(2,.string _),(3,.string _),(4,.string _)]) (cs:=[_,_,_,_,_]) Z Jv Jo Ge Z Z Z Z ?_;rintro b3 w4 H5 E4 B4;have hG:=Yf hG E4;have hr:=hr.J E4;refine Uv Z<|Vs Z (Xa (a:=.pointer _) (b:=.int _ _) Jy Z Z) (Xs _ _ Kk Kh) ?_;rintro _ w5 ⟨y1,rfl,E5,Q1,L1⟩;(try dsimp only at L1);have D1:=Q1.old;have B1:=(B1.J E4).G E5 Kb;have B2:=(B2.J E4).G E5 Kb
     have B3:=(B3.J E4).G E5 Kb;have hO:=(hO.J E4).G E5 Kh;have B4:=B4.G E5 Kb;have hG:=Ye hG E5;refine Wo Z (Yk Jv Jo Z Z Kh) ?_;refine Ub 0 Jp Z Z B4 Ka Kc ?_;intro s1 P1;refine Yl Jn Jo Z<|Um (v:=.string _) Z Jo Z Z Z B3 Kp Kh D1 ?_;rintro w6 E6 B3 K1 Z1;simp only [List.set] at B3;have Q1:=Q1.W E6 (K1 _ Kh) Z1;have B1:=B1.Y (K1 _ Kh);have B2:=B2.Y (K1 _ Kh);have hO:=hO.W K1 Kh
     have B4:=B4.Y (K1 _ Kh);have hG:=Yw hG D1 E6 K1 Z1 Kd;refine Vp<|Vr<|Yl Jt Jx Z<|Xw u1 Ju B1 Z<|Ys Jm Z (Kw hO)<|Qo Z<|Xi Z (fun h3=>?_) (fun h3=>?_);refine Uv Z<|Vs Z (Xa (a:=.pointer _) (b:=.int _ _) Jy Z Z) (Xs _ _ Kk Kh) ?_;rintro _ w7 ⟨y2,rfl,E7,Q2,L2⟩;(try dsimp only at L2);have:=Q2.lt;have B3:=B3.G E7 Kb;have B1:=B1.G E7 Kb;have B2:=B2.G E7 Kb;have hO:=hO.G E7 Kh;have hG:=Ye hG E7
     refine Yo Z<|Xy Z<|Vp<|Vu Z (fun h4=>?_) (fun h4=>?_);refine Vr<|Yl Jt Jx Z<|Xw u1 Ju B1 Z<|Vs Z (Xa (a:=u1) (b:=.int _ _) Zt Z Z) (c1 _ _ (Kw hO)) ?_;rintro u3 w8 ⟨E8,O1⟩;have Q2:=Q2.J E8;have hG:=Yf hG E8;refine Uc u3 Z<|Vp<|Vr<|Yj u3 Z<|Ys Jl Z (Kv O1)<|Qo Z<|Xi Z (fun h5=>?_) (fun h5=>?_);refine Yl Jt Jx Z<|Xw u1 Ju (B1.J E8) Z<|Vs Z (Xh (a:=u1) Zz Z) (c2 _ _ ((Ku E8 (Kw hO)))) ?_;rintro _ w9 ⟨rfl,E9⟩;have Q2:=Q2.J E9;have hG:=Yf hG E9;refine Xy Z<|Vp<|Xe Z ?_;rotate_left
     refine Vq Z<|Vq Z<|Vq Z<|Xb Z<|Vp<|Vx Z ?_;refine Vw ?_;rotate_left;refine Vw ?_;rotate_left;exact Kt;exact Ks;refine Ym<|Yo Z<|Ya Z<|Vp<|Vu Z (fun h2=>?_) (fun h2=>?_);refine Vr<|Xc (ps:=[(0,.string _),(1,.string _),(2,.string _),(3,.string _),(4,.string _)]) (cs:=[_,_,_,_,_]) Z Jv Jo Ge Z Z Z Z ?_;rintro b3 w4 H5 E4 B4;have hG:=Yf hG E4;have hr:=hr.J E4;refine Uv Z<|Vs Z (Xa (a:=.pointer _) (b:=.int _ _) Jy Z Z) (Xs _ _ Kk Kh) ?_;rintro _ w5 ⟨y1,rfl,E5,Q1,L1⟩;(try dsimp only at L1);have D1:=Q1.old;have B1:=(B1.J E4).G E5 Kb
     have B2:=(B2.J E4).G E5 Kb;have B3:=(B3.J E4).G E5 Kb;have hO:=(hO.J E4).G E5 Kh;have B4:=B4.G E5 Kb;have hG:=Ye hG E5;refine Wo Z (Yk Jv Jo Z Z Kh) ?_;refine Ub 0 Jp Z Z B4 Ka Kc ?_;intro s1 P1;refine Yl Jn Jo Z<|Um (v:=.string _) Z Jo Z Z Z B3 Kp Kh D1 ?_;rintro w6 E6 B3 K1 Z1;simp only [List.set] at B3;have Q1:=Q1.W E6 (K1 _ Kh) Z1;have B1:=B1.Y (K1 _ Kh)
     have B2:=B2.Y (K1 _ Kh);have hO:=hO.W K1 Kh;have B4:=B4.Y (K1 _ Kh);have hG:=Yw hG D1 E6 K1 Z1 Kd;refine Vp<|Vr<|Yl Jt Jx Z<|Xw u1 Ju B1 Z<|Ys Jm Z (Kw hO)<|Qo Z<|Xi Z (fun h3=>?_) (fun h3=>?_);refine Uv Z<|Vs Z (Xa (a:=.pointer _) (b:=.int _ _) Jy Z Z) (Xs _ _ Kk Kh) ?_;rintro _ w7 ⟨y2,rfl,E7,Q2,L2⟩;(try dsimp only at L2);have:=Q2.lt;have B3:=B3.G E7 Kb;have B1:=B1.G E7 Kb;have B2:=B2.G E7 Kb;have hO:=hO.G E7 Kh
     have hG:=Ye hG E7;refine Yo Z<|Xy Z<|Vp<|Vu Z (fun h4=>?_) (fun h4=>?_);refine Vr<|Yl Jt Jx Z<|Xw u1 Ju B1 Z<|Vs Z (Xa (a:=u1) (b:=.int _ _) Zt Z Z) (c1 _ _ (Kw hO)) ?_;rintro u3 w8 ⟨E8,O1⟩;have Q2:=Q2.J E8;have hG:=Yf hG E8;refine Uc u3 Z<|Vp<|Vr<|Yj u3 Z<|Ys Jl Z (Kv O1)<|Qo Z<|Xi Z (fun h5=>?_) (fun h5=>?_);refine Yl Jt Jx Z<|Xw u1 Ju (B1.J E8) Z<|Vs Z (Xh (a:=u1) Zz Z) (c2 _ _ ((Ku E8 (Kw hO)))) ?_;rintro _ w9 ⟨rfl,E9⟩;have Q2:=Q2.J E9;have hG:=Yf hG E9;refine Xy Z<|Vp<|Xe Z ?_;rotate_left
     refine Vq Z<|Vq Z<|Vq Z<|Xb Z<|Vp<|Vx Z ?_;refine Vw ?_;rotate_left;refine Vw ?_;rotate_left;exact Kt;refine Vr<|Yo Z<|Ya Z<|Vp<|Vu Z (fun h3=>?_) (fun h3=>?_);refine Ym<|Uv Z<|Yl Jt Jx Z<|Xw u1 Ju B1 Z<|Ys Jm Z (Kw hO)<|Wo Z (opv_max Z Z)<|Vs Z (Xa (a:=.pointer _) (b:=.int _ _) Jy Z Z) (Xs _ _ Kk Kh) ?_;rintro _ w4 ⟨y1,rfl,E4,Q1,L1⟩;(try dsimp only at L1);have D1:=Q1.old;have hG:=Ye hG E4;have B1:=B1.G E4 Kb;have B2:=B2.G E4 Kb
     have B3:=B3.G E4 Kb;refine Yl Jn Ji Z<|Um (v:=.int _ _) Z Ji Z Z Z B3 Kp Kh D1 ?_;rintro w5 E5 B3 K1 Z1;simp only [List.set] at B3;have Q1:=Q1.W E5 (K1 _ Kh) Z1;have hG:=Yw hG D1 E5 K1 Z1 Kd;have B1:=B1.Y (K1 _ Kh);have B2:=B2.Y (K1 _ Kh);refine Vp ?_;rotate_left;refine Vw ?_;rotate_left
    ·clear stop9
     obtain ⟨lb,lc,rfl,_⟩:=O1.lit Kh
     focus
      refine Rm (fun _=>True) mixed Z Ki ?_;intro w10 E10 K2 Z2;have Q2:=Q2.J E10;have hG:=Yf hG E10;refine Sw 0 Jt Jx Z Z trivial<|WtmS 2 Z Z trivial<|WtmP 3 Z Z trivial<|WtmS 4 Z Z trivial<|Yc 5 Z Ki Ki Z (fun _ _=>Rw Jl Z (Kv O1)) trivial ?_;refine Wha [1,6]<|Yg Z ?_ ?_;refine Xw u1 Ju (B1.J exq) Z<|Wnt<|Wha [6]<|Wh1 Z<|Vs Z (Xa (a:=.pointer _) (b:=.int _ _) Jy Z Z) (Xs _ _ Kk Kh) ?_;rintro _ w11 ⟨y3,rfl,E11,Q3,L3⟩;(try dsimp only at L3);have D3:=Q3.old;have B3:=(B3.J ((E8.K E9).K E10)).G E11 Kb
      have B1:=(B1.J ((E8.K E9).K E10)).G E11 Kb;have B2:=(B2.J ((E8.K E9).K E10)).G E11 Kb;have hO:=(hO.J ((E8.K E9).K E10)).G E11 Kh;have O1:=(O1.toB.J (E9.K E10)).G E11 Kh;have hG:=Ye hG E11;refine Wnt<|Yc 7 Z Ki Ki Z (fun _ _=>Yk Jl Ji Z Z Kh) trivial ?_;refine Wha [8]<|Wh1 Z<|Qa Jk Z Z (Kw O1) Km ?_;rintro _ rfl;refine Wnt<|Wha [9]<|Wh1 Z<|Vs Z (Xa (a:=u1) (b:=.int _ _) Zj Z Z) (c3 _ _ _ _ (Kw hO)) ?_;rintro u3 w12 ⟨x1,E12,O2,L4⟩;have Q3:=Q3.J E12;have hG:=Yf hG E12
      refine Wnt<|Wha [10]<|Wh1 Z<|Vs Z (Xh (a:=u3) Gi Z) (c4 _ _ _ (Kv O2) Kk) ?_;rintro _ w13 ⟨E13,y4,rfl,L5⟩;have Q3:=Q3.J E13;have hG:=Yf hG E13;refine Wnt<|Sw 11 Jn Jo Z Z trivial<|Wha [12]<|Wh1 Z<|Um (v:=.string _) Z Jo Z Z Z (B3.J (E12.K E13)) Kp Kh ((D3.trans E12).K E13) ?_;rintro w14 E14 B3 K3 Z3;simp only [List.set] at B3;have B1:=(B1.J exq).Y (K3 _ Kh);have B2:=(B2.J exq).Y (K3 _ Kh);have Q3:=Q3.W E14 (K3 _ Kh) Z3;have hG:=Yw hG ((D3.trans E12).K E13) E14 K3 Z3 Kd;refine Wnt<|Yp Ki ?_;rotate_left
      refine Wh1 Z<|Vs Z (Xa (a:=.pointer _) (b:=.int _ _) Jy Z Z) (Xs _ _ Kk Kh) ?_;rintro _ w11 ⟨y3,rfl,E11,Q3,L3⟩;(try dsimp only at L3);have D3:=Q3.old;have B3:=(B3.J ((E8.K E9).K E10)).G E11 Kb;have B1:=(B1.J ((E8.K E9).K E10)).G E11 Kb;have B2:=(B2.J ((E8.K E9).K E10)).G E11 Kb;have hO:=(hO.J ((E8.K E9).K E10)).G E11 Kh;have O1:=(O1.toB.J (E9.K E10)).G E11 Kh;have hG:=Ye hG E11;refine Wnt<|Yc 7 Z Ki Ki Z (fun _ _=>Yk Jl Ji Z Z Kh) trivial ?_
      refine Wha [1,8]<|Yg Z ?_ ?_;refine Xw u1 Ju B1 Z<|Wnt<|Wha [8]<|Wh1 Z<|Qa Jk Z Z (Kw O1) Km ?_;rintro _ rfl;refine Wnt<|Wha [9]<|Wh1 Z<|Vs Z (Xa (a:=u1) (b:=.int _ _) Zj Z Z) (c3 _ _ _ _ (Kw hO)) ?_;rintro u3 w12 ⟨x1,E12,O2,L4⟩;have Q3:=Q3.J E12;have hG:=Yf hG E12;refine Wnt<|Wha [10]<|Wh1 Z<|Vs Z (Xh (a:=u3) Gi Z) (c4 _ _ _ (Kv O2) Kk) ?_;rintro _ w13 ⟨E13,y4,rfl,L5⟩;have Q3:=Q3.J E13;have hG:=Yf hG E13;refine Wnt<|Sw 11 Jn Jo Z Z trivial<|Wha [12]<|Wh1 Z<|Um (v:=.string _) Z Jo Z Z Z (B3.J (E12.K E13)) Kp Kh ((D3.trans E12).K E13) ?_
      rintro w14 E14 B3 K3 Z3;simp only [List.set] at B3;have B1:=(B1.J exq).Y (K3 _ Kh);have B2:=(B2.J exq).Y (K3 _ Kh);have Q3:=Q3.W E14 (K3 _ Kh) Z3;have hG:=Yw hG ((D3.trans E12).K E13) E14 K3 Z3 Kd;refine Wnt<|Yp Ki ?_;rotate_left;refine Wh1 Z<|Qa Jk Z Z (Kw O1) Km ?_;rintro _ rfl;refine Wnt<|Wha [1]<|Wh1 Z<|Xw u1 Ju B1 Z<|Wnt<|Wha [9]<|Wh1 Z<|Vs Z (Xa (a:=u1) (b:=.int _ _) Zj Z Z) (c3 _ _ _ _ (Kw hO)) ?_;rintro u3 w12 ⟨x1,E12,O2,L4⟩;have Q3:=Q3.J E12;have hG:=Yf hG E12
      refine Wnt<|Wha [10]<|Wh1 Z<|Vs Z (Xh (a:=u3) Gi Z) (c4 _ _ _ (Kv O2) Kk) ?_;rintro _ w13 ⟨E13,y4,rfl,L5⟩;have Q3:=Q3.J E13;have hG:=Yf hG E13;refine Wnt<|Sw 11 Jn Jo Z Z trivial<|Wha [12]<|Wh1 Z<|Um (v:=.string _) Z Jo Z Z Z (B3.J (E12.K E13)) Kp Kh ((D3.trans E12).K E13) ?_;rintro w14 E14 B3 K3 Z3;simp only [List.set] at B3;have B1:=(B1.J exq).Y (K3 _ Kh);have B2:=(B2.J exq).Y (K3 _ Kh);have Q3:=Q3.W E14 (K3 _ Kh) Z3;have hG:=Yw hG ((D3.trans E12).K E13) E14 K3 Z3 Kd;refine Wnt<|Yp Ki ?_;rotate_left
     all_goals
      refine ⟨(_,_),trivial,Ko,hG,?_,(by first | exact B1 | exact B1.J (by repeat (first | assumption | refine Ext.trans Kk ?_))),(by first | exact B2 | exact B2.J (by repeat (first | assumption | refine Ext.trans Kk ?_))),(by first | exact B3 | exact B3.J (by repeat (first | assumption | refine Ext.trans Kk ?_))),?_,?_,?_⟩
      ·first | exact Q7.le Kh | exact Q6.le Kh | exact Q5.le Kh | exact Q4.le Kh | exact Q3.le Kh | exact Q2.le Kh | exact Q1.le Kh | exact hr.le Kh
      all_goals first | omega | (simp only [List.length_append,List.length_cons,List.length_nil];omega)
    ·refine ⟨(_,_),trivial,Ko,hG,?_,(by first | exact B1 | exact B1.J (by repeat (first | assumption | refine Ext.trans Kk ?_))),(by first | exact B2 | exact B2.J (by repeat (first | assumption | refine Ext.trans Kk ?_))),(by first | exact B3 | exact B3.J (by repeat (first | assumption | refine Ext.trans Kk ?_))),?_,?_,?_⟩
     ·first | exact Q7.le Kh | exact Q6.le Kh | exact Q5.le Kh | exact Q4.le Kh | exact Q3.le Kh | exact Q2.le Kh | exact Q1.le Kh | exact hr.le Kh
     all_goals first | omega | (simp only [List.length_append,List.length_cons,List.length_nil];omega)
    ·refine ⟨(_,_),trivial,Ko,hG,?_,(by first | exact B1 | exact B1.J (by repeat (first | assumption | refine Ext.trans Kk ?_))),(by first | exact B2 | exact B2.J (by repeat (first | assumption | refine Ext.trans Kk ?_))),(by first | exact B3 | exact B3.J (by repeat (first | assumption | refine Ext.trans Kk ?_))),?_,?_,?_⟩
     ·first | exact Q7.le Kh | exact Q6.le Kh | exact Q5.le Kh | exact Q4.le Kh | exact Q3.le Kh | exact Q2.le Kh | exact Q1.le Kh | exact hr.le Kh
     all_goals first | omega | (simp only [List.length_append,List.length_cons,List.length_nil];omega)
    ·clear stop9
     obtain ⟨lb,lc,rfl,_⟩:=O1.lit Kh
     focus
      refine Rm (fun _=>True) mixed Z Ki ?_;intro w10 E10 K2 Z2;have Q2:=Q2.J E10;have hG:=Yf hG E10;refine Sw 0 Jt Jx Z Z trivial<|WtmS 2 Z Z trivial<|WtmP 3 Z Z trivial<|WtmS 4 Z Z trivial<|Yc 5 Z Ki Ki Z (fun _ _=>Rw Jl Z (Kv O1)) trivial ?_;refine Wha [1,6]<|Yg Z ?_ ?_;refine Xw u1 Ju (B1.J exq) Z<|Wnt<|Wha [6]<|Wh1 Z<|Vs Z (Xa (a:=.pointer _) (b:=.int _ _) Jy Z Z) (Xs _ _ Kk Kh) ?_;rintro _ w11 ⟨y3,rfl,E11,Q3,L3⟩;(try dsimp only at L3);have D3:=Q3.old;have B3:=(B3.J ((E8.K E9).K E10)).G E11 Kb
      have B1:=(B1.J ((E8.K E9).K E10)).G E11 Kb;have B2:=(B2.J ((E8.K E9).K E10)).G E11 Kb;have hO:=(hO.J ((E8.K E9).K E10)).G E11 Kh;have O1:=(O1.toB.J (E9.K E10)).G E11 Kh;have hG:=Ye hG E11;refine Wnt<|Yc 7 Z Ki Ki Z (fun _ _=>Yk Jl Ji Z Z Kh) trivial ?_;refine Wha [8]<|Wh1 Z<|Qa Jk Z Z (Kw O1) Km ?_;rintro _ rfl;refine Wnt<|Wha [9]<|Wh1 Z<|Vs Z (Xa (a:=u1) (b:=.int _ _) Zj Z Z) (c3 _ _ _ _ (Kw hO)) ?_;rintro u3 w12 ⟨x1,E12,O2,L4⟩;have Q3:=Q3.J E12;have hG:=Yf hG E12
      refine Wnt<|Wha [10]<|Wh1 Z<|Vs Z (Xh (a:=u3) Gi Z) (c4 _ _ _ (Kv O2) Kk) ?_;rintro _ w13 ⟨E13,y4,rfl,L5⟩;have Q3:=Q3.J E13;have hG:=Yf hG E13;refine Wnt<|Sw 11 Jn Jo Z Z trivial<|Wha [12]<|Wh1 Z<|Um (v:=.string _) Z Jo Z Z Z (B3.J (E12.K E13)) Kp Kh ((D3.trans E12).K E13) ?_;rintro w14 E14 B3 K3 Z3;simp only [List.set] at B3;have B1:=(B1.J exq).Y (K3 _ Kh);have B2:=(B2.J exq).Y (K3 _ Kh);have Q3:=Q3.W E14 (K3 _ Kh) Z3;have hG:=Yw hG ((D3.trans E12).K E13) E14 K3 Z3 Kd;refine Wnt<|Yp Ki ?_;rotate_left
      refine Wh1 Z<|Vs Z (Xa (a:=.pointer _) (b:=.int _ _) Jy Z Z) (Xs _ _ Kk Kh) ?_;rintro _ w11 ⟨y3,rfl,E11,Q3,L3⟩;(try dsimp only at L3);have D3:=Q3.old;have B3:=(B3.J ((E8.K E9).K E10)).G E11 Kb;have B1:=(B1.J ((E8.K E9).K E10)).G E11 Kb;have B2:=(B2.J ((E8.K E9).K E10)).G E11 Kb;have hO:=(hO.J ((E8.K E9).K E10)).G E11 Kh;have O1:=(O1.toB.J (E9.K E10)).G E11 Kh;have hG:=Ye hG E11;refine Wnt<|Yc 7 Z Ki Ki Z (fun _ _=>Yk Jl Ji Z Z Kh) trivial ?_
      refine Wha [1,8]<|Yg Z ?_ ?_;refine Xw u1 Ju B1 Z<|Wnt<|Wha [8]<|Wh1 Z<|Qa Jk Z Z (Kw O1) Km ?_;rintro _ rfl;refine Wnt<|Wha [9]<|Wh1 Z<|Vs Z (Xa (a:=u1) (b:=.int _ _) Zj Z Z) (c3 _ _ _ _ (Kw hO)) ?_;rintro u3 w12 ⟨x1,E12,O2,L4⟩;have Q3:=Q3.J E12;have hG:=Yf hG E12;refine Wnt<|Wha [10]<|Wh1 Z<|Vs Z (Xh (a:=u3) Gi Z) (c4 _ _ _ (Kv O2) Kk) ?_;rintro _ w13 ⟨E13,y4,rfl,L5⟩;have Q3:=Q3.J E13;have hG:=Yf hG E13;refine Wnt<|Sw 11 Jn Jo Z Z trivial<|Wha [12]<|Wh1 Z<|Um (v:=.string _) Z Jo Z Z Z (B3.J (E12.K E13)) Kp Kh ((D3.trans E12).K E13) ?_
      rintro w14 E14 B3 K3 Z3;simp only [List.set] at B3;have B1:=(B1.J exq).Y (K3 _ Kh);have B2:=(B2.J exq).Y (K3 _ Kh);have Q3:=Q3.W E14 (K3 _ Kh) Z3;have hG:=Yw hG ((D3.trans E12).K E13) E14 K3 Z3 Kd;refine Wnt<|Yp Ki ?_;rotate_left;refine Wh1 Z<|Qa Jk Z Z (Kw O1) Km ?_;rintro _ rfl;refine Wnt<|Wha [1]<|Wh1 Z<|Xw u1 Ju B1 Z<|Wnt<|Wha [9]<|Wh1 Z<|Vs Z (Xa (a:=u1) (b:=.int _ _) Zj Z Z) (c3 _ _ _ _ (Kw hO)) ?_;rintro u3 w12 ⟨x1,E12,O2,L4⟩;have Q3:=Q3.J E12;have hG:=Yf hG E12
      refine Wnt<|Wha [10]<|Wh1 Z<|Vs Z (Xh (a:=u3) Gi Z) (c4 _ _ _ (Kv O2) Kk) ?_;rintro _ w13 ⟨E13,y4,rfl,L5⟩;have Q3:=Q3.J E13;have hG:=Yf hG E13;refine Wnt<|Sw 11 Jn Jo Z Z trivial<|Wha [12]<|Wh1 Z<|Um (v:=.string _) Z Jo Z Z Z (B3.J (E12.K E13)) Kp Kh ((D3.trans E12).K E13) ?_;rintro w14 E14 B3 K3 Z3;simp only [List.set] at B3;have B1:=(B1.J exq).Y (K3 _ Kh);have B2:=(B2.J exq).Y (K3 _ Kh);have Q3:=Q3.W E14 (K3 _ Kh) Z3;have hG:=Yw hG ((D3.trans E12).K E13) E14 K3 Z3 Kd;refine Wnt<|Yp Ki ?_;rotate_left
     all_goals
      refine ⟨(_,_),trivial,Ko,hG,?_,(by first | exact B1 | exact B1.J (by repeat (first | assumption | refine Ext.trans Kk ?_))),(by first | exact B2 | exact B2.J (by repeat (first | assumption | refine Ext.trans Kk ?_))),(by first | exact B3 | exact B3.J (by repeat (first | assumption | refine Ext.trans Kk ?_))),?_,?_,?_⟩
      ·first | exact Q7.le Kh | exact Q6.le Kh | exact Q5.le Kh | exact Q4.le Kh | exact Q3.le Kh | exact Q2.le Kh | exact Q1.le Kh | exact hr.le Kh
      all_goals first | omega | (simp only [List.length_append,List.length_cons,List.length_nil];omega)
    all_goals
     refine ⟨(_,_),trivial,Ko,hG,?_,(by first | exact B1 | exact B1.J (by repeat (first | assumption | refine Ext.trans Kk ?_))),(by first | exact B2 | exact B2.J (by repeat (first | assumption | refine Ext.trans Kk ?_))),(by first | exact B3 | exact B3.J (by repeat (first | assumption | refine Ext.trans Kk ?_))),?_,?_,?_⟩
     ·first | exact Q7.le Kh | exact Q6.le Kh | exact Q5.le Kh | exact Q4.le Kh | exact Q3.le Kh | exact Q2.le Kh | exact Q1.le Kh | exact hr.le Kh
     all_goals first | omega | (simp only [List.length_append,List.length_cons,List.length_nil];omega)
   ·have c2 : ∀ (w:World) (v:Value),ESl Ints w v p→Dz 73 [v] w (Ret w (.bool false)):=fun w v h=>by
     have:=Nh w v p h;rwa [decide_eq_false hL] at this
    focus
     refine Yb<|Vt<|Vr<|Yo Z<|Ya Z<|Vp<|Vu Z (fun h1=>?_) (fun h1=>?_);refine Vw<|Vu Z (fun h2=>?_) (fun h2=>?_);refine Vr<|Xc (ps:=[(0,.string _),(1,.string _),(2,.string _),(3,.string _),(4,.string _)]) (cs:=[_,_,_,_,_]) Z Jv Jo Ge Z Z Z Z ?_;rintro b3 w4 H5 E4 B4;have hG:=Yf hG E4;have hr:=hr.J E4;refine Uv Z<|Vs Z (Xa (a:=.pointer _) (b:=.int _ _) Jy Z Z) (Xs _ _ Kk Kh) ?_;rintro _ w5 ⟨y1,rfl,E5,Q1,L1⟩;(try dsimp only at L1);have D1:=Q1.old;have B1:=(B1.J E4).G E5 Kb;have B2:=(B2.J E4).G E5 Kb
     have B3:=(B3.J E4).G E5 Kb;have hO:=(hO.J E4).G E5 Kh;have B4:=B4.G E5 Kb;have hG:=Ye hG E5;refine Wo Z (Yk Jv Jo Z Z Kh) ?_;refine Ub 0 Jp Z Z B4 Ka Kc ?_;intro s1 P1;refine Yl Jn Jo Z<|Um (v:=.string _) Z Jo Z Z Z B3 Kp Kh D1 ?_;rintro w6 E6 B3 K1 Z1;simp only [List.set] at B3;have Q1:=Q1.W E6 (K1 _ Kh) Z1;have B1:=B1.Y (K1 _ Kh);have B2:=B2.Y (K1 _ Kh);have hO:=hO.W K1 Kh
     have hG:=Yw hG D1 E6 K1 Z1 Kd;refine Vp<|Vr<|Yl Jt Jx Z<|Xw u1 Ju B1 Z<|Ys Jm Z (Kw hO)<|Qo Z<|Xi Z (fun h3=>?_) (fun h3=>?_);refine Uv Z<|Vs Z (Xa (a:=.pointer _) (b:=.int _ _) Jy Z Z) (Xs _ _ Kk Kh) ?_;rintro _ w7 ⟨y2,rfl,E7,Q2,L2⟩;(try dsimp only at L2);have B3:=B3.G E7 Kb;have B1:=B1.G E7 Kb;have B2:=B2.G E7 Kb;have hO:=hO.G E7 Kh;have hG:=Ye hG E7;refine Yo Z<|Xy Z<|Vp<|Vu Z (fun h4=>?_) (fun h4=>?_)
     refine Vr<|Yl Jt Jx Z<|Xw u1 Ju B1 Z<|Vs Z (Xa (a:=u1) (b:=.int _ _) Zt Z Z) (c1 _ _ (Kw hO)) ?_;rintro u3 w8 ⟨E8,O1⟩;have Q2:=Q2.J E8;have hG:=Yf hG E8;refine Uc u3 Z<|Vp<|Vr<|Yj u3 Z<|Ys Jl Z (Kv O1)<|Qo Z<|Xi Z (fun h5=>?_) (fun h5=>?_);refine Yl Jt Jx Z<|Xw u1 Ju (B1.J E8) Z<|Vs Z (Xh (a:=u1) Zz Z) (c2 _ _ ((Ku E8 (Kw hO)))) ?_;rintro _ w9 ⟨rfl,E9⟩;have Q2:=Q2.J E9;have hG:=Yf hG E9;refine Xy Z<|Vp<|Vx Z ?_;refine Vw ?_;rotate_left;refine Vq Z<|Vq Z<|Vq Z<|Xb Z<|Vp<|Vx Z ?_;refine Vw ?_;rotate_left
     refine Vw ?_;rotate_left;exact Kt;exact Ks;refine Ym<|Yo Z<|Ya Z<|Vp<|Vu Z (fun h2=>?_) (fun h2=>?_);refine Vr<|Xc (ps:=[(0,.string _),(1,.string _),(2,.string _),(3,.string _),(4,.string _)]) (cs:=[_,_,_,_,_]) Z Jv Jo Ge Z Z Z Z ?_;rintro b3 w4 H5 E4 B4;have hG:=Yf hG E4;have hr:=hr.J E4;refine Uv Z<|Vs Z (Xa (a:=.pointer _) (b:=.int _ _) Jy Z Z) (Xs _ _ Kk Kh) ?_;rintro _ w5 ⟨y1,rfl,E5,Q1,L1⟩;(try dsimp only at L1);have D1:=Q1.old;have B1:=(B1.J E4).G E5 Kb;have B2:=(B2.J E4).G E5 Kb
     have B3:=(B3.J E4).G E5 Kb;have hO:=(hO.J E4).G E5 Kh;have B4:=B4.G E5 Kb;have hG:=Ye hG E5;refine Wo Z (Yk Jv Jo Z Z Kh) ?_;refine Ub 0 Jp Z Z B4 Ka Kc ?_;intro s1 P1;refine Yl Jn Jo Z<|Um (v:=.string _) Z Jo Z Z Z B3 Kp Kh D1 ?_;rintro w6 E6 B3 K1 Z1;simp only [List.set] at B3;have Q1:=Q1.W E6 (K1 _ Kh) Z1;have B1:=B1.Y (K1 _ Kh);have B2:=B2.Y (K1 _ Kh);have hO:=hO.W K1 Kh
     have hG:=Yw hG D1 E6 K1 Z1 Kd;refine Vp<|Vr<|Yl Jt Jx Z<|Xw u1 Ju B1 Z<|Ys Jm Z (Kw hO)<|Qo Z<|Xi Z (fun h3=>?_) (fun h3=>?_);refine Uv Z<|Vs Z (Xa (a:=.pointer _) (b:=.int _ _) Jy Z Z) (Xs _ _ Kk Kh) ?_;rintro _ w7 ⟨y2,rfl,E7,Q2,L2⟩;(try dsimp only at L2);have B3:=B3.G E7 Kb;have B1:=B1.G E7 Kb;have B2:=B2.G E7 Kb;have hO:=hO.G E7 Kh;have hG:=Ye hG E7;refine Yo Z<|Xy Z<|Vp<|Vu Z (fun h4=>?_) (fun h4=>?_)
     refine Vr<|Yl Jt Jx Z<|Xw u1 Ju B1 Z<|Vs Z (Xa (a:=u1) (b:=.int _ _) Zt Z Z) (c1 _ _ (Kw hO)) ?_;rintro u3 w8 ⟨E8,O1⟩;have Q2:=Q2.J E8;have hG:=Yf hG E8;refine Uc u3 Z<|Vp<|Vr<|Yj u3 Z<|Ys Jl Z (Kv O1)<|Qo Z<|Xi Z (fun h5=>?_) (fun h5=>?_);refine Yl Jt Jx Z<|Xw u1 Ju (B1.J E8) Z<|Vs Z (Xh (a:=u1) Zz Z) (c2 _ _ ((Ku E8 (Kw hO)))) ?_;rintro _ w9 ⟨rfl,E9⟩;have Q2:=Q2.J E9;have hG:=Yf hG E9;refine Xy Z<|Vp<|Vx Z ?_;refine Vw ?_;rotate_left;refine Vq Z<|Vq Z<|Vq Z<|Xb Z<|Vp<|Vx Z ?_;refine Vw ?_;rotate_left
     refine Vw ?_;rotate_left;exact Kt;refine Vt<|Ym<|Yo Z<|Ya Z<|Vp<|Vu Z (fun h3=>?_) (fun h3=>?_);refine Ym<|Uv Z<|Yl Jt Jx Z<|Xw u1 Ju B1 Z<|Ys Jm Z (Kw hO)<|Wo Z (opv_max Z Z)<|Vs Z (Xa (a:=.pointer _) (b:=.int _ _) Jy Z Z) (Xs _ _ Kk Kh) ?_;rintro _ w4 ⟨y1,rfl,E4,Q1,L1⟩;(try dsimp only at L1);have D1:=Q1.old;have hG:=Ye hG E4;have B1:=B1.G E4 Kb;have B2:=B2.G E4 Kb;have B3:=B3.G E4 Kb
     refine Yl Jn Ji Z<|Um (v:=.int _ _) Z Ji Z Z Z B3 Kp Kh D1 ?_;rintro w5 E5 B3 K1 Z1;simp only [List.set] at B3;have Q1:=Q1.W E5 (K1 _ Kh) Z1;have hG:=Yw hG D1 E5 K1 Z1 Kd;have B1:=B1.Y (K1 _ Kh);have B2:=B2.Y (K1 _ Kh);refine Vp ?_;rotate_left;refine Vw ?_;rotate_left
    all_goals
     refine ⟨(_,_),trivial,Ko,hG,?_,(by first | exact B1 | exact B1.J (by repeat (first | assumption | refine Ext.trans Kk ?_))),(by first | exact B2 | exact B2.J (by repeat (first | assumption | refine Ext.trans Kk ?_))),(by first | exact B3 | exact B3.J (by repeat (first | assumption | refine Ext.trans Kk ?_))),?_,?_,?_⟩
     ·first | exact Q7.le Kh | exact Q6.le Kh | exact Q5.le Kh | exact Q4.le Kh | exact Q3.le Kh | exact Q2.le Kh | exact Q1.le Kh | exact hr.le Kh
     all_goals first | omega | (simp only [List.length_append,List.length_cons,List.length_nil];omega)
 clear hr hG B1 B2 B3 hO E3
 rintro ⟨t,n⟩ ρ3 w5 ⟨hG,hr,B1,B2,B3,ht,hn1,hn2⟩
 focus
  refine Vt<|Vr<|Uv Z<|Vs Z (Xa (a:=.pointer _) (b:=.int _ _) Tryz.call76 Z Z) (odd_ok _ _ Kk Kh Kh) ?_;rintro _ w4 ⟨y1,rfl,E3,Q1,L1⟩;(try dsimp only at L1);have D1:=Q1.old;have hG:=Ye hG E3;have B2:=B2.G E3 Kb;have B3:=B3.G E3 Kb;refine Vp<|Up Z (fun h1=>?_) (fun h1=>?_);refine Ym<|Yl Jn Jo Z<|Qx Jp B3 Z<|Wo Z (Yz Z Z Kf) ?_;refine Yl Jn Jo Z<|Um (v:=.string _) Z Jo Z Z Z B3 Kp Kh D1 ?_;rintro w6 E4 B3 K1 Z1;simp only [List.set] at B3;have Q1:=Q1.W E4 (K1 _ Kh) Z1
  have hG:=Yw hG D1 E4 K1 Z1 Kd;have B2:=B2.Y (K1 _ Kh);refine Vp<|Vr<|Rk Gb Js B3 Z<|Qs Js B2 Z E4 ?_;rintro w7 E6 B2 K2 Z2;have Q1:=Q1.W E6 (K2 _ Kh) Z2;have hG:=Yw hG E4 E6 K2 Z2 Kd;refine Vp<|Vy ?_;rotate_left;refine Vw<|Vr<|Rk Gb Js B3 Z<|Qs Js B2 Z D1 ?_;rintro w6 E4 B2 K1 Z1;have Q1:=Q1.W E4 (K1 _ Kh) Z1;have hG:=Yw hG D1 E4 K1 Z1 Kd;refine Vp<|Vy ?_;rotate_left
 all_goals
  refine ⟨b2,_,_,_,Z,B2,_,_,_,Z,hG,?_,?_⟩
  ·first | exact Q1.le Kh | exact hr.le Kh
  ·unfold DrP;simp only [List.length_append,List.length_cons,List.length_nil];omega
end Go.Proofs.YtbgpppaljpngmaaGreatDoor
set_option linter.unusedVariables false
set_option linter.unusedSimpArgs false
namespace Go.Hs
def XD (e:TypeId):World→List Nat→Value→List Deed→Prop:=fun w fp v l=>w.ownsRow 0 e 3 v l.length (dcs l)∧fp=v.ownBlock.toList∧∀ a ∈ l,a.text.length≤9223372036854775807
section
variable {e:TypeId} {lo hi:Nat} {w w' w0 w1:World} {v:Value} {l m:List Deed} {br gb k:Nat}
instance loc_XD:Loc (XD e):=⟨by
  rintro w w' fp v l hk ⟨h1,rfl,h3⟩
  refine ⟨⟨h1.1,?_⟩,Z,h3⟩
  rcases h1.2 with hn | ⟨g,cap,cur,rfl,hb,hg,rest⟩
  ·exact .inl hn
  ·exact .inr ⟨g,cap,cur,rfl,hb,by rw [hk g (by simp [Value.ownBlock])];exact hg,rest⟩,by
  rintro w fp v l ⟨h1,rfl,h3⟩ k hk
  exact (h1.lt k (by simpa using hk)).2,by
  rintro w fp v l ⟨h1,rfl,h3⟩
  rcases h1.2 with ⟨rfl,_⟩ | ⟨g,cap,cur,rfl,_⟩ <;> rfl⟩
instance shows_XD:Shows (XD e) ESD:=⟨fun {w fp v l} h=>by
 obtain ⟨h3,rfl,h5⟩:=h
 exact OD.O (e:=e) (lo:=0) ⟨h3,h5⟩⟩
theorem Rdr.beside {m:Nat} (h:Rdr w0 w br m) (g:w.grownBy w' (some gb)) (hne:gb≠br) (hg:w0.heap.size≤gb):Rdr w0 w' br m:=by
 obtain ⟨h1,h2,h3,vb,bs,p,h4,h5,h6,h7⟩:=h
 exact ⟨(Only.grownBy (fp:=[gb]) g (fun k hk=>by simp at hk;simp [hk])).J h1 (fun k hk=>by simp at hk;omega),h2,Nat.lt_of_lt_of_le h3 g.size,vb,bs,p,h4,h5,h6.Y (g.block br h3 Kg),h7⟩
theorem grownBy_beside (h:w1.grownBy w (some br)) (g:w.grownBy w' (some gb)) (hb:w1.heap.size≤gb):w1.grownBy w' (some br) :=
 ⟨g.os.trans h.os,g.tape.trans h.tape,g.output.trans h.output,Jd h.size g.size,fun j hj hr=>(g.block j (Nat.lt_of_lt_of_le hj h.size) Kg).trans (h.block j hj hr)⟩
end
section
variable {P:Program} {n:Nat} {N:Env→World→Prop} {ρ : Env} {w w0:World} {all:Array Oper} {rest:List Oper} {d:Nat} {ty t el:TypeId} {pos:String} {after:Array Edge} {g:Option (Nat × Bool)} {x y z s:Operand} {v:Value} {l m:List Deed} {lo hi:Nat}
end
def RetDSt (w0 w:World) (br m:Nat) (p:List UInt8→Prop):Value→World→Prop:=fun v w'=>∃ t,v=str t∧w.grownBy w' (some br)∧Rdr w0 w' br m∧p t
end Go.Hs
namespace Go.Proofs.YtbgpppaljpngmaaGreatDoor
open Go.Hs
set_option maxRecDepth 10000
set_option maxHeartbeats 4000000
set_option linter.unusedVariables false
set_option linter.unusedSimpArgs false
open Classical in
theorem spec_DeskDo_own (w:World) (u1 u2:Value) (d:Dsk) (h1:ESl Ints w u1 d.now) (h2:ESl (ESl Ints) w u2 d.past) (k n:Int) (t:List UInt8) (ht:t.length≤1048576) :
  Dz 37 [.agg #[u1,u2],.agg #[.int .i64 k,str t,.int .i64 n]] w (RetDkF w 23 d.past.length (if DkOk d then (doV d ⟨k,t,n⟩).1.now else []) (if DkOk d then (doV d ⟨k,t,n⟩).1.past else []) (decide (DkOk d) && (doV d ⟨k,t,n⟩).2)):=by
 obtain ⟨p,pp⟩:=d
 have hle:=h2.le
 have i1:isCell u1=true:=Qy h1
 have i2:isCell u2=true:=Qy h2
 simp only at h1 h2 hle
 refine Tj Tryz.func37 Z Tryz.results37 Tryz.ntmps37 Z Jq Jj ?_
 by_cases hd:DkOk ⟨p,pp⟩
 ·have k0 : ∀ w,ESl Ints w u1 p→ESl (ESl Ints) w u2 pp→Dz 16 [.agg #[u1,u2]] w (Ret w (.bool true)):=fun w h1 h2=>by
   have:=Sa w u1 u2 ⟨p,pp⟩ h1 h2;rwa [decide_eq_true hd] at this
  have hpp:Pic p:=hd.1.1
  have hppl:pp.length≤8:=hd.2.1
  have H1:p.length≤100∧∀ r ∈ p,r.length≤100:=⟨by have:=hpp.2.1;omega,fun r hr=>by rw [(hpp.2.2 r hr).1];have:=hpp.2.1;omega⟩
  have H2 : ∀ q ∈ pp,q.length≤100∧∀ r ∈ q,r.length≤100:=fun q hq=>by
   have hq:=(hd.2.2 q hq).1
   exact ⟨by have:=hq.2.1;omega,fun r hr=>by rw [(hq.2.2 r hr).1];have:=hq.2.1;omega⟩
  have k1 : ∀ w,ESl Ints w u1 p→ESl (ESl Ints) w u2 pp→Dz 60 [.agg #[u1,u2]] w (RetDk w 23 88 3 p pp):=fun w h1 h2=>l11Copy_ok w u1 u2 p pp h1 h2 H1 Kh H2
  rw [if_pos hd,if_pos hd,decide_eq_true hd,Bool.true_and]
  by_cases hb:isBack ⟨p,pp⟩ ⟨k,t,n⟩
  ·obtain ⟨e,hne⟩:=hb
   cases e
   have hpl:0 < pp.length:=List.length_pos_iff.2 hne
   have hdo:doV ⟨p,pp⟩ ⟨4,[],0⟩=(⟨pp.getLastD [],pp.dropLast⟩,true):=by unfold doV;rw [if_pos ⟨rfl,hne⟩]
   rw [hdo]
   simp only
   have stop6:True:=trivial
   focus
    refine Vr<|Xu Z Z Z ?_;rintro b1 w1 H3 E1 B1;have:=B1.lt;have:=E1.Z;refine Xu Z Z Z ?_;rintro b2 w2 H4 E2 B2;have:=B2.lt;refine Xk Z Ug ?_;rintro b3 w3 H5 E3 B3;have:=B3.lt;refine Ya Z<|Vp<|Vt<|Vt<|Ym<|Uh Jq Jj (B1.J exq) Z<|Vs Z (Xh (a:=.agg _) Gv Z) (k0 _ (Ku exq h1) (Ku exq h2)) ?_;rintro _ w4 ⟨rfl,E4⟩;have:=E4.Z;refine Xz Z<|Vp<|Uk Z fun h3=>?_;refine Vw<|Vr<|Uh Jq Jj (B1.J exq) Z<|Vs Z (Xh (a:=.agg _) Zk Z) (k1 _ (Ku exq h1) (Ku exq h2)) ?_;rintro _ w5 ⟨u3,q1,m1,rfl,E5,O1,R1,J1,hn1⟩;have V3:=Kx O1;have N1:=Kx (Je R1);have cpq1:=OwnedB.capOk (Je R1)
    have:=E5.Z;refine Xk Z Ug ?_;rintro b4 w6 H6 E6 B4;have:=E6.Z;refine Uu Z Jj Z Z Kl Kl B4 Kh (((((E1.K E2).K E3).K E4).K E5).K E6) ?_;rintro w7 E7 B4 K1 Z1;have E8:=((((E2.K E3).K E4).K E5).K E6).A exq E7 K1 Z1 Kh;have:=E8.Z;have E9:=(((E3.K E4).K E5).K E6).A exq E7 K1 Z1 Kh;have E10:=((E4.K E5).K E6).A exq E7 K1 Z1 Kh;have E11:=(E5.K E6).A exq E7 K1 Z1 Kh;have E12:=E6.A exq E7 K1 Z1 Kh;have:=E12.Z;have B1:=(B1.J exq).Y (K1 _ Kh);have B2:=(B2.J exq).Y (K1 _ Kh);have B3:=(B3.J exq).Y (K1 _ Kh);have O1:=(O1.J E6).W K1 Kh
    have R1:=(R1.toB.J E6).W K1 Kh;refine Vp<|Vt<|Vr<|Rk Gb Js B2 Z<|Wo Z (Yu (ps:=[(0,.int _ _)]) (cs:=[_,_,_]) Xq Z Z)<|Wo Z (Tr Z Z)<|Xi Z (fun h4=>?_) (fun h4=>?_);refine Yl Jt Ga Z<|Xw u2 Gd B1 Z<|Ys Gc Z h2<|Qo Z<|Xy Z<|Vp<|Vu Z (fun h5=>?_) (fun h5=>?_);refine Vr<|Yl Jt Ga Z<|Xw q1 Gd B4 Z<|Ys Gc Z (Kw R1)<|Sc Z<|Yx Z<|Vp<|Vt ?_;rotate_left;exact Kt;exact Ks
   clear stop6
   obtain ⟨qb,qc,ur,rfl,hqc,hcl,icr,hqb,hqb2,hDk⟩:=R1.backDk hpl Kh
   have hel:=hDk.dkNow
   have hcl:w7.cell? ⟨qb,0+((pp.length:Int) - 1).toNat,none⟩=some ur:=by rw [Nat.zero_add,show ((pp.length:Int) - 1).toNat=pp.length - 1 by omega];exact hcl
   have cellF:True:=trivial
   focus
    have:=E12.Z;have:=E11.Z;have:=E10.Z;have:=E9.Z;have:=E8.Z;have:=E7.Z;have:=E6.Z;have:=E5.Z;have:=E4.Z;have:=E3.Z;have:=E2.Z;have:=E1.Z;refine Ym<|Yl Jt Ga Z<|Rg Gd B4 Z<|Vz Z<|Wo Z (Qr Gc Jx Z Z Kh) ?_;refine Wo Z (Xd Ju Z Kk) ?_;refine Yl Jt Jx Z<|Um (v:=ur) Z Jx Z Z Kk B4 (by first | decide | simp) Kh E7 ?_;rintro w8 E13 B4 K2 Z2;have E14:=E8.A E7 E13 K2 Z2 Kh;have:=E14.Z;have E15:=E9.A E7 E13 K2 Z2 Kh;have:=E15.Z;have E16:=E10.A E7 E13 K2 Z2 Kh;have:=E16.Z;have E17:=E11.A E7 E13 K2 Z2 Kh
    have:=E17.Z;have E18:=E12.A E7 E13 K2 Z2 Kh;have:=E18.Z;simp only [List.set] at B4;have B1:=B1.Y (K2 _ Kh);have B2:=B2.Y (K2 _ Kh);have B3:=B3.Y (K2 _ Kh);have O1:=O1.W K2 Kh;have R1:=R1.W K2 Kh;have hDk:=hDk.W K2 Kh;have hel:=hel.W K2 Kh;refine Vp<|Vr<|Yl Jt Ga Z<|Rg Gd B4 Z<|Vz Z<|Wo Z (So Gc Jx Z Z Kh) ?_;refine Yl Jt Ga Z<|Um (v:=.slice _ _ _) Z Ga Z Z Z B4 Kp Kh E13 ?_;rintro w9 E19 B4 K3 Z3;have E20:=E14.A E13 E19 K3 Z3 Kh;have:=E20.Z;have E21:=E15.A E13 E19 K3 Z3 Kh;have:=E21.Z
    have E22:=E16.A E13 E19 K3 Z3 Kh;have:=E22.Z;have E23:=E17.A E13 E19 K3 Z3 Kh;have:=E23.Z;have E24:=E18.A E13 E19 K3 Z3 Kh;have:=E24.Z;simp only [List.set] at B4;have B1:=B1.Y (K3 _ Kh);have B2:=B2.Y (K3 _ Kh);have B3:=B3.Y (K3 _ Kh);have O1:=O1.W K3 Kh;have R1:=R1.W K3 Kh;have hDk:=hDk.W K3 Kh;have hel:=hel.W K3 Kh;refine Vp<|Vr<|Uh Jq Jj B4 Z<|Uw Jj B3 Z E19 ?_;rintro w10 E25 B3 K4 Z4;have E26:=E20.A E19 E25 K4 Z4 Kh;have:=E26.Z;have E27:=E21.A E19 E25 K4 Z4 Kh;have:=E27.Z;have B4:=B4.Y (K4 _ Kh);have B1:=B1.Y (K4 _ Kh)
    have B2:=B2.Y (K4 _ Kh);have O1:=O1.W K4 Kh;have R1:=R1.W K4 Kh;have hDk:=hDk.W K4 Kh;have hel:=hel.W K4 Kh;refine Ya Z<|Vp<|Vy ?_
   have hlast:pp.getLastD []=pp[pp.length - 1]:=by rw [List.getLastD_eq_getLast?,List.getLast?_eq_getElem?,List.getElem?_eq_getElem Kh];rfl
   rw [hlast,List.dropLast_eq_take]
   rw [show ((pp.length:Int) - 1).toNat=pp.length - 1 by omega] at *
   refine ⟨b3,ur,_,Z,B3,ur,_,Z,E25,hDk.dkNow.rd_above.mono Kh,hDk.dkPast.rd_above.mono Kh,icr,Z,Kh,fun _ _=>?_⟩
   exact hDk.wide Kh Kh
  ·have hdo:doV ⟨p,pp⟩ ⟨k,t,n⟩=match nextV p ⟨k,t,n⟩ with
    | some c=>(⟨c,last8 (pp++[p])⟩,true)
    | none=>(⟨p,pp⟩,false):=by unfold doV;rw [if_neg hb];rfl
   rw [hdo]
   have hback:(⟨k,t,n⟩:Deed)=⟨4,[],0⟩→pp.length=0:=fun e=>Classical.byContradiction fun h=>hb ⟨e,fun h'=>h (by rw [show pp=[] from h'];rfl)⟩
   have k2 : ∀ w,ESl Ints w u1 p→Dz 93 [u1,.agg #[.int .i64 k,str t,.int .i64 n]] w (RetOB w XR (og (madeV p ⟨k,t,n⟩)) (madeV p ⟨k,t,n⟩).isSome):=fun w h=>l11Made_ok w u1 p h hpp k n t ht
   have litown:True:=trivial
   by_cases ha:(⟨k,t,n⟩:Deed)=⟨4,[],0⟩
   ·have hpl0:=hback ha
    cases ha
    have hmv:madeV p ⟨4,[],0⟩=none:=by simp [madeV]
    have hnx:nextV p ⟨4,[],0⟩=none:=by unfold nextV;rw [hmv]
    rw [hmv,show og none=[] from rfl,show (none:Option (List (List Int))).isSome=false from rfl] at k2
    rw [hnx]
    simp only
    focus
     refine Vr<|Xu Z Z Z ?_;rintro b1 w1 H3 E1 B1;have:=B1.lt;refine Xu Z Z Z ?_;rintro b2 w2 H4 E2 B2;have:=B2.lt;refine Xk Z Ug ?_;rintro b3 w3 H5 E3 B3;have:=B3.lt;refine Ya Z<|Vp<|Vt<|Vt<|Ym<|Uh Jq Jj (B1.J exq) Z<|Vs Z (Xh (a:=.agg _) Gv Z) (k0 _ (Ku exq h1) (Ku exq h2)) ?_;rintro _ w4 ⟨rfl,E4⟩;have:=E4.Z;refine Xz Z<|Vp<|Uk Z fun h3=>?_;refine Vw<|Vr<|Uh Jq Jj (B1.J exq) Z<|Vs Z (Xh (a:=.agg _) Zk Z) (k1 _ (Ku exq h1) (Ku exq h2)) ?_;rintro _ w5 ⟨u3,q1,m1,rfl,E5,O1,R1,J1,hn1⟩;have V3:=Kx O1;have N1:=Kx (Je R1);have:=E5.Z;refine Xk Z Ug ?_
     rintro b4 w6 H6 E6 B4;refine Uu Z Jj Z Z Kl Kl B4 Kh (((((E1.K E2).K E3).K E4).K E5).K E6) ?_;rintro w7 E7 B4 K1 Z1;have E8:=((((E2.K E3).K E4).K E5).K E6).A exq E7 K1 Z1 Kh;have B1:=(B1.J exq).Y (K1 _ Kh);have B2:=(B2.J exq).Y (K1 _ Kh);have B3:=(B3.J exq).Y (K1 _ Kh);have O1:=(O1.J E6).W K1 Kh;have R1:=(R1.toB.J E6).W K1 Kh;refine Vp<|Vt<|Vr<|Rk Gb Js B2 Z<|Wo Z (Yu (ps:=[(0,.int _ _)]) (cs:=[_,_,_]) Xq Z Z)<|Wo Z (Tr Z Z)<|Xi Z (fun h4=>?_) (fun h4=>?_)
     refine Yl Jt Ga Z<|Xw u2 Gd B1 Z<|Ys Gc Z h2<|Qo Z<|Xy Z<|Vp<|Vv Z fun h5=>?_;refine Vw<|Vt<|Ym<|Yl Jt Jx Z<|Xw u1 Ju B1 Z<|Rk Gb Js B2 Z<|Vs Z (Xa (a:=u1) (b:=.agg _) Vb Z Z) (k2 _ (Ku E7 h1)) ?_;rintro _ w8 ⟨u4,rfl,E13,O2⟩;refine Ut Z<|Ra u4 Z<|Uz Z<|Uc u4 Z<|Ya Z<|Vp<|Vt<|Vt<|Qe mixed Ki Z ?_;refine Tb Z<|Mi Z<|Sp Z (fun _ _=>Xj (v:=.bool _) Z) (fun h6=>?_) (fun h6=>?_)
     refine Yd Z<|Yd Z<|Yd Z<|Yd Z<|Yd Z<|Yd Z<|Yd Z<|Yd Z<|Yd Z<|Yd Z<|Yd Z<|Yd Z<|Yd Z<|Yd Z<|Md Z<|Ux (fun w9 E14=>?_);refine Xe Z ?_;refine Vr<|Uh Jq Jj (B4.J exq) Z<|Uw Jj (B3.J (E13.K E14)) Z ((E7.K E13).K E14) ?_;rintro w10 E15 B3 K2 Z2;have E16:=((E8.K E13).K E14).A exq E15 K2 Z2 Kh;have:=E16.Z;have O1:=(O1.J exq).W K2 Kh;have R1:=(R1.J exq).W K2 Kh;refine Ya Z<|Vp<|Vy ?_;rotate_left;exact Ks;exact Ks
    exact ⟨b3,u3,q1,rfl,B3,u3,q1,rfl,by exact E15,O1.above.mono Kh,R1.above.mono Kh,V3,N1,Kh,fun h=>by cases h⟩
   ·cases hmv:madeV p ⟨k,t,n⟩ with
    | none =>
      have hnx : nextV p ⟨k, t, n⟩ = none := by unfold nextV; rw [hmv]
      rw [hmv, show og none = [] from rfl, show (none : Option (List (List Int))).isSome = false from rfl] at k2
      rw [hnx]
      simp only
      focus
        refine Vr<|Xu Z Z Z ?_; rintro b1 w1 H3 E1 B1; have := B1.lt; refine Xu Z Z Z ?_; rintro b2 w2 H4 E2 B2; have := B2.lt; refine Xk Z Ug ?_; rintro b3 w3 H5 E3 B3; have := B3.lt; refine Ya Z<|Vp<|Vt<|Vt<|Ym<|Uh Jq Jj (B1.J exq) Z<|Vs Z (Xh (a := .agg _) Gv Z) (k0 _ (Ku exq h1) (Ku exq h2)) ?_; rintro _ w4 ⟨rfl, E4⟩; have := E4.Z; refine Xz Z<|Vp<|Uk Z fun h3 => ?_; refine Vw<|Vr<|Uh Jq Jj (B1.J exq) Z<|Vs Z (Xh (a := .agg _) Zk Z) (k1 _ (Ku exq h1) (Ku exq h2)) ?_; rintro _ w5 ⟨u3, q1, m1, rfl, E5, O1, R1, J1, hn1⟩; have V3 := Kx O1; have N1 := Kx (Je R1); have := E5.Z; refine Xk Z Ug ?_
        rintro b4 w6 H6 E6 B4; refine Uu Z Jj Z Z Kl Kl B4 Kh (((((E1.K E2).K E3).K E4).K E5).K E6) ?_; rintro w7 E7 B4 K1 Z1; have E8 := ((((E2.K E3).K E4).K E5).K E6).A exq E7 K1 Z1 Kh; have B1 := (B1.J exq).Y (K1 _ Kh); have B2 := (B2.J exq).Y (K1 _ Kh); have B3 := (B3.J exq).Y (K1 _ Kh); have O1 := (O1.J E6).W K1 Kh; have R1 := (R1.toB.J E6).W K1 Kh; refine Vp<|Vt<|Vr<|Rk Gb Js B2 Z<|Wo Z (Yu (ps := [(0, .int _ _)]) (cs := [_, _, _]) Xq Z Z)<|Wo Z (Tr Z Z)<|Ui Z fun h4 => ?_; refine Vq Z<|Vq Z<|Vq Z<|Vq Z<|Xb Z<|Vp<|Vx Z ?_
        refine Vw<|Vt<|Ym<|Yl Jt Jx Z<|Xw u1 Ju B1 Z<|Rk Gb Js B2 Z<|Vs Z (Xa (a := u1) (b := .agg _) Vb Z Z) (k2 _ (Ku E7 h1)) ?_; rintro _ w8 ⟨u4, rfl, E13, O2⟩; refine Ut Z<|Ra u4 Z<|Uz Z<|Uc u4 Z<|Ya Z<|Vp<|Vt<|Vt<|Qe mixed Ki Z ?_; refine Tb Z<|Mi Z<|Sp Z (fun _ _ => Xj (v := .bool _) Z) (fun h5 => ?_) (fun h5 => ?_); refine Yd Z<|Yd Z<|Yd Z<|Yd Z<|Yd Z<|Yd Z<|Yd Z<|Yd Z<|Yd Z<|Yd Z<|Yd Z<|Yd Z<|Yd Z<|Yd Z<|Md Z<|Ux (fun w9 E14 => ?_); refine Xe Z ?_
        refine Vr<|Uh Jq Jj (B4.J exq) Z<|Uw Jj (B3.J (E13.K E14)) Z ((E7.K E13).K E14) ?_; rintro w10 E15 B3 K2 Z2; have E16 := ((E8.K E13).K E14).A exq E15 K2 Z2 Kh; have := E16.Z; have O1 := (O1.J exq).W K2 Kh; have R1 := (R1.J exq).W K2 Kh; refine Ya Z<|Vp<|Vy ?_; rotate_left; exact Ks
      exact ⟨b3, u3, q1, rfl, B3, u3, q1, rfl, by exact E15, O1.above.mono Kh, R1.above.mono Kh, V3, N1, Kh, fun h => by cases h⟩
    | some c =>
      rw [hmv, show og (some c) = c from rfl, show (some c).isSome = true from rfl] at k2
      have hc : LeastP c := Ms hpp hmv
      have hcp := hc.1
      have k3 : ∀ (w : World) (v : Value), ESl Ints w v c → Dz 62 [v] w (Ret w (str (txt c))) := fun w v h => by
        have := Qk w v _ h
        rwa [if_pos hcp] at this
      by_cases hcq : c = p
      · subst hcq
        have hnx : nextV c ⟨k, t, n⟩ = none := by unfold nextV; rw [hmv]; simp
        rw [hnx]
        simp only
        focus
          refine Vr<|Xu Z Z Z ?_; rintro b1 w1 H3 E1 B1; have := B1.lt; refine Xu Z Z Z ?_; rintro b2 w2 H4 E2 B2; have := B2.lt; refine Xk Z Ug ?_; rintro b3 w3 H5 E3 B3; have := B3.lt; refine Ya Z<|Vp<|Vt<|Vt<|Ym<|Uh Jq Jj (B1.J exq) Z<|Vs Z (Xh (a := .agg _) Gv Z) (k0 _ (Ku exq h1) (Ku exq h2)) ?_; rintro _ w4 ⟨rfl, E4⟩; have := E4.Z; refine Xz Z<|Vp<|Uk Z fun h3 => ?_; refine Vw<|Vr<|Uh Jq Jj (B1.J exq) Z<|Vs Z (Xh (a := .agg _) Zk Z) (k1 _ (Ku exq h1) (Ku exq h2)) ?_; rintro _ w5 ⟨u3, q1, m1, rfl, E5, O1, R1, J1, hn1⟩; have V3 := Kx O1; have N1 := Kx (Je R1); have := E5.Z; refine Xk Z Ug ?_
          rintro b4 w6 H6 E6 B4; refine Uu Z Jj Z Z Kl Kl B4 Kh (((((E1.K E2).K E3).K E4).K E5).K E6) ?_; rintro w7 E7 B4 K1 Z1; have E8 := ((((E2.K E3).K E4).K E5).K E6).A exq E7 K1 Z1 Kh; have B1 := (B1.J exq).Y (K1 _ Kh); have B2 := (B2.J exq).Y (K1 _ Kh); have B3 := (B3.J exq).Y (K1 _ Kh); have O1 := (O1.J E6).W K1 Kh; have R1 := (R1.toB.J E6).W K1 Kh; refine Vp<|Vt<|Vr<|Rk Gb Js B2 Z<|Wo Z (Yu (ps := [(0, .int _ _)]) (cs := [_, _, _]) Xq Z Z)<|Wo Z (Tr Z Z)<|Ui Z fun h4 => ?_; refine Vq Z<|Vq Z<|Vq Z<|Vq Z<|Xb Z<|Vp<|Vx Z ?_
          refine Vw<|Vt<|Ym<|Yl Jt Jx Z<|Xw u1 Ju B1 Z<|Rk Gb Js B2 Z<|Vs Z (Xa (a := u1) (b := .agg _) Vb Z Z) (k2 _ (Ku E7 h1)) ?_; rintro _ w8 ⟨u4, rfl, E13, O2⟩; refine Ut Z<|Ra u4 Z<|Uz Z<|Uc u4 Z<|Ya Z<|Vp<|Vt<|Vt<|Qe mixed Ki Z ?_; refine Tb Z<|Mi Z<|Sp Z (fun _ _ => Xj (v := .bool _) Z) (fun h5 => ?_) (fun h5 => ?_); exact Ks; refine Sb u4 Z<|Uq Z (fun _ _ => Rw Jm Z (Kv O2)) ?_; refine Qu Jt Jx Z<|Uq (v := u1) Z (fun w' hw' => Xd Ju Z (((B1.J E13).J hw').cell Z)) ?_; refine Uq Z (fun _ _ => Rw Jm Z h1) ?_
          refine St Z<|Rh Z (fun h6 => ?_) (fun h6 => ?_); refine Sb u4 Z<|Rb Z (fun _ _ => Xh (a := u4) Gi Z) (fun w' hw' => (k3 _ _ ((Ku hw' (Kv O2))))) ?_; refine Qu Jt Jx Z<|Uq (v := u1) Z (fun w' hw' => Xd Ju Z (((B1.J E13).J hw').cell Z)) ?_; refine Rb Z (fun _ _ => Xh (a := u1) Gi Z) (fun w' hw' => (k3 _ _ (Ku exq h1))) ?_; refine Uq Z (fun _ _ => Yi Z Z) ?_; refine Md Z<|Sl Z<|Ux (fun w9 E14 => ?_); refine Vu Z (fun h7 => ?_) (fun h7 => ?_); refine Vr<|Uh Jq Jj (B4.J exq) Z<|Uw Jj (B3.J (E13.K E14)) Z ((E7.K E13).K E14) ?_; rintro w10 E15 B3 K2 Z2; have E16 := ((E8.K E13).K E14).A exq E15 K2 Z2 Kh; have := E16.Z
          have O1 := (O1.J exq).W K2 Kh; have R1 := (R1.J exq).W K2 Kh; refine Ya Z<|Vp<|Vy ?_; rotate_left; exact Ks; exact Ks
        exact ⟨b3, u3, q1, rfl, B3, u3, q1, rfl, by exact E15, O1.above.mono Kh, R1.above.mono Kh, V3, N1, Kh, fun h => by cases h⟩
      · have hnx : nextV p ⟨k, t, n⟩ = some c := by unfold nextV; rw [hmv]; simp [hcq]
        rw [hnx]
        simp only
        have k4 : ∀ (w : World) (v : Value), ESl Ints w v p → Dz 62 [v] w (Ret w (str (txt p))) := fun w v h => by
          have := Qk w v _ h
          rwa [if_pos hpp] at this
        have htx : txt c ≠ txt p := fun e => hcq (txt_inj hcp.gr hpp.gr e)
        have stop12 : True := trivial
        focus
          refine Vr<|Xu Z Z Z ?_; rintro b1 w1 H3 E1 B1; have := B1.lt; have := E1.Z; refine Xu Z Z Z ?_; rintro b2 w2 H4 E2 B2; have := B2.lt; refine Xk Z Ug ?_; rintro b3 w3 H5 E3 B3; have := B3.lt; refine Ya Z<|Vp<|Vt<|Vt<|Ym<|Uh Jq Jj (B1.J exq) Z<|Vs Z (Xh (a := .agg _) Gv Z) (k0 _ (Ku exq h1) (Ku exq h2)) ?_; rintro _ w4 ⟨rfl, E4⟩; have := E4.Z; refine Xz Z<|Vp<|Uk Z fun h3 => ?_; refine Vw<|Vr<|Uh Jq Jj (B1.J exq) Z<|Vs Z (Xh (a := .agg _) Zk Z) (k1 _ (Ku exq h1) (Ku exq h2)) ?_; rintro _ w5 ⟨u3, q1, m1, rfl, E5, O1, R1, J1, hn1⟩; have V3 := Kx O1; have N1 := Kx (Je R1); have := E5.Z; refine Xk Z Ug ?_
          rintro b4 w6 H6 E6 B4; have := B4.lt; have := E6.Z; refine Uu Z Jj Z Z Kl Kl B4 Kh (((((E1.K E2).K E3).K E4).K E5).K E6) ?_; rintro w7 E7 B4 K1 Z1; have E8 := ((((E2.K E3).K E4).K E5).K E6).A exq E7 K1 Z1 Kh; have E9 := (((E3.K E4).K E5).K E6).A exq E7 K1 Z1 Kh; have E10 := ((E4.K E5).K E6).A exq E7 K1 Z1 Kh; have E11 := (E5.K E6).A exq E7 K1 Z1 Kh; have B1 := (B1.J exq).Y (K1 _ Kh); have B2 := (B2.J exq).Y (K1 _ Kh); have B3 := (B3.J exq).Y (K1 _ Kh); have O1 := (O1.J E6).W K1 Kh; have R1 := (R1.toB.J E6).W K1 Kh
          refine Vp<|Vt<|Vr<|Rk Gb Js B2 Z<|Wo Z (Yu (ps := [(0, .int _ _)]) (cs := [_, _, _]) Xq Z Z)<|Wo Z (Tr Z Z)<|Ui Z fun h4 => ?_; refine Vq Z<|Vq Z<|Vq Z<|Vq Z<|Xb Z<|Vp<|Vx Z ?_; refine Vw<|Vt<|Ym<|Yl Jt Jx Z<|Xw u1 Ju B1 Z<|Rk Gb Js B2 Z<|Vs Z (Xa (a := u1) (b := .agg _) Vb Z Z) (k2 _ (Ku E7 h1)) ?_; rintro _ w8 ⟨u4, rfl, E13, O2⟩; have ichO2 := Kx (Je O2); have := E13.Z; refine Ut Z<|Ra u4 Z<|Uz Z<|Uc u4 Z<|Ya Z<|Vp<|Vt<|Vt<|Qe mixed Ki Z ?_
          refine Tb Z<|Mi Z<|Sp Z (fun _ _ => Xj (v := .bool _) Z) (fun h5 => ?_) (fun h5 => ?_); exact Ks; refine Sb u4 Z<|Uq Z (fun _ _ => Rw Jm Z (Kv O2)) ?_; refine Qu Jt Jx Z<|Uq (v := u1) Z (fun w' hw' => Xd Ju Z (((B1.J E13).J hw').cell Z)) ?_; refine Uq Z (fun _ _ => Rw Jm Z h1) ?_; refine St Z<|Rh Z (fun h6 => ?_) (fun h6 => ?_); refine Sb u4 Z<|Rb Z (fun _ _ => Xh (a := u4) Gi Z) (fun w' hw' => (k3 _ _ ((Ku hw' (Kv O2))))) ?_; refine Qu Jt Jx Z<|Uq (v := u1) Z (fun w' hw' => Xd Ju Z (((B1.J E13).J hw').cell Z)) ?_
          refine Rb Z (fun _ _ => Xh (a := u1) Gi Z) (fun w' hw' => (k4 _ _ (Ku exq h1))) ?_; refine Uq Z (fun _ _ => Yi Z Z) ?_; refine Md Z<|Sl Z<|Ux (fun w9 E14 => ?_); have := E14.Z; refine Yt Z fun h7 => ?_; refine Vw<|Vt ?_; rotate_left; refine Yd Z<|Yd Z<|Yd Z<|Yd Z<|Yd Z<|Yd Z<|Sl Z<|Sl Z<|Ux (fun w9 E14 => ?_); have := E14.Z; refine Vx Z ?_; refine Vw<|Vt ?_; rotate_left
        · clear stop12
          have stop13 : True := trivial
          have R0 := R1
          focus
            refine Ym<|Yl Jt Ga Z<|Xw q1 Gd (B4.J exq) Z<|Yl Jt Jx Z<|Xw u3 Ju (B4.J exq) Z<|Qc Z Gc Jx Ze Z (Kx (O1.J exq)) Z ?_; rintro b5 w10 H7 E15 B5 Y5; have := B5.lt; have := E15.Z; refine Wo_app1r Z el24 Z Z B5 (R0.J ((E13.K E14).K E15)) (O1.J ((E13.K E14).K E15)) Km Kh Kh (((E7.K E13).K E14).K E15) Kh ?_; have T1 := (R0.J ((E13.K E14).K E15)); rintro v1 w11 R0 E16 M1; have E17 := M1.J T1 (((E8.K E13).K E14).K E15) Kh; have := E17.Z; have E18 := M1.J T1 (((E9.K E13).K E14).K E15) Kh
            have E19 := M1.J T1 (((E10.K E13).K E14).K E15) Kh; have E20 := M1.J T1 (((E11.K E13).K E14).K E15) Kh; have B4 := (B4.J exq).moves M1 T1 Kh; have B1 := (B1.J exq).moves M1 T1 Kh; have B2 := (B2.J exq).moves M1 T1 Kh; have B3 := (B3.J exq).moves M1 T1 Kh; have O1 := (O1.J exq).moves M1 T1 Kh; have O2 := (O2.toB.J exq).moves M1 T1 Kh; have B5 := B5.moves M1 T1 Kh; have := E16.Z; have icv1 := Kx (Je R0); refine Yl Jt Ga Z<|Um (v := v1) Z Ga Z Z (Kx R0.toB) B4 Kp Kh E16 ?_; rintro w12 E21 B4 K2 Z2; have E22 := E17.A E16 E21 K2 Z2 Kh; have E23 := E18.A E16 E21 K2 Z2 Kh; have E24 := E19.A E16 E21 K2 Z2 Kh
            have E25 := E20.A E16 E21 K2 Z2 Kh; simp only [List.set] at B4; have B1 := B1.Y (K2 _ Kh); have B2 := B2.Y (K2 _ Kh); have B3 := B3.Y (K2 _ Kh); have O1 := O1.W K2 Kh; have O2 := O2.W K2 Kh; have B5 := B5.Y (K2 _ Kh); refine Vp<|Vt<|Vt ?_
          clear stop13
          have hM : Moves w10 q1 w11 v1 := M1
          have hne := hM.ne R1 (b := b4) Kh Kh
          have hown : ∀ k, v1.ownBlock = some k → k < w7.heap.size ∨ w8.heap.size ≤ k := fun k hk => by
            rcases hM.2 with e | ⟨g, e, hg⟩
            · rw [e] at hk; have := R1.lt_own hk; omega
            · rw [e] at hk; cases hk; omega
          clear R1
          obtain ⟨nb, nc, rfl, hnc⟩ := R0.lit Kp
          have hnl : (pp ++ [p]).length = pp.length + 1 := Kp
          rw [hnl] at B4 R0 hne hnc hown
          focus
            have := E11.Z; have := E7.Z; refine Ym<|Yl Jt Ga Z<|Rg Gd B4 Z<|Ys Gc Z (Kv R0)<|Qo Z<|Vp<|Vu Z (fun h8 => ?_) (fun h8 => ?_); refine Ym<|Yl Jt Ga Z<|Rg Gd B4 Z<|Wo Z (Se Gc Jx Z Z Kh) ?_; refine Yl Jt Ga Z<|Um (v := .slice _ _ _) Z Ga Z Z Z B4 Kp Kh E21 ?_; rintro w13 E26 B4 K3 Z3; have E27 := E22.A E21 E26 K3 Z3 Kh; have E28 := E23.A E21 E26 K3 Z3 Kh; simp only [List.set] at B4; have B3 := B3.Y (K3 _ Kh); have O2 := O2.W K3 Kh
            refine Vp<|Vr<|Yj u4 Z<|Yl Jt Jx Z<|Um (v := u4) Z Jx Z Z (Kx O2) B4 Kp Kh E26 ?_; rintro w14 E31 B4 K4 Z4; simp only [List.set] at B4; have B3 := B3.Y (K4 _ Kh); have O2 := O2.W K4 Kh; refine Vp<|Vr<|Uh Jq Jj B4 Z<|Uw Jj B3 Z E31 ?_; rintro w15 E36 B3 K5 Z5; have O2 := O2.W K5 Kh; refine Ya Z<|Vp<|Vy ?_; rotate_left; refine Vw<|Vr<|Yj u4 Z<|Yl Jt Jx Z<|Um (v := u4) Z Jx Z Z (Kx O2) B4 Kp Kh E21 ?_; rintro w13 E26 B4 K3 Z3; simp only [List.set] at B4; have B3 := B3.Y (K3 _ Kh); have O2 := O2.W K3 Kh
            refine Vp<|Vr<|Uh Jq Jj B4 Z<|Uw Jj B3 Z E26 ?_; rintro w14 E31 B3 K4 Z4; have O2 := O2.W K4 Kh; refine Ya Z<|Vp<|Vy ?_; rotate_left
          · have R3 := (R0.wroteLt (w' := w15) (fun k h1 h2 => (K5 k Kh).trans ((K4 k h2).trans ((K3 k h2).trans (K2 k h2)))) Kh hne).above.mono (show w.heap.size ≤ w4.heap.size by omega)
            refine ⟨b3, u4, _, Z, B3, u4, _, Z, by exact E36, O2.above.mono Kh, ?_, Kk, Z, Kh, fun _ h => absurd h (show ¬ pp.length < 8 by omega)⟩
            rw [show last8 (pp ++ [p]) = (pp ++ [p]).drop 1 from if_pos Kh]
            exact R3.dropS Kh
          · have R3 := (R0.wroteLt (w' := w14) (fun k h1 h2 => (K4 k Kh).trans ((K3 k h2).trans (K2 k h2))) Kh hne).above.mono (show w.heap.size ≤ w4.heap.size by omega)
            have R4 := R0.wroteLt (w' := w14) (fun k h1 h2 => (K4 k Kh).trans ((K3 k h2).trans (K2 k h2))) Kh hne
            rw [show last8 (pp ++ [p]) = pp ++ [p] from if_neg Kh]
            refine ⟨b3, u4, _, Z, B3, u4, _, Z, by exact E31, O2.above.mono Kh, R3, Kk, Z, Kh, fun _ _ => ?_⟩
            exact (R4.dk O2 Kh hown).wide Kh (Kz _)
        · clear stop12
          have stop13 : True := trivial
          have R0 := R1
          focus
            refine Ym<|Yl Jt Ga Z<|Xw q1 Gd (B4.J exq) Z<|Yl Jt Jx Z<|Xw u3 Ju (B4.J exq) Z<|Qc Z Gc Jx Ze Z (Kx (O1.J exq)) Z ?_; rintro b5 w10 H7 E15 B5 Y5; have := B5.lt; have := E15.Z; refine Wo_app1r Z el24 Z Z B5 (R0.J ((E13.K E14).K E15)) (O1.J ((E13.K E14).K E15)) Km Kh Kh (((E7.K E13).K E14).K E15) Kh ?_; have T1 := (R0.J ((E13.K E14).K E15)); rintro v1 w11 R0 E16 M1; have E17 := M1.J T1 (((E8.K E13).K E14).K E15) Kh; have := E17.Z; have E18 := M1.J T1 (((E9.K E13).K E14).K E15) Kh
            have E19 := M1.J T1 (((E10.K E13).K E14).K E15) Kh; have E20 := M1.J T1 (((E11.K E13).K E14).K E15) Kh; have B4 := (B4.J exq).moves M1 T1 Kh; have B1 := (B1.J exq).moves M1 T1 Kh; have B2 := (B2.J exq).moves M1 T1 Kh; have B3 := (B3.J exq).moves M1 T1 Kh; have O1 := (O1.J exq).moves M1 T1 Kh; have O2 := (O2.toB.J exq).moves M1 T1 Kh; have B5 := B5.moves M1 T1 Kh; have := E16.Z; have icv1 := Kx (Je R0); refine Yl Jt Ga Z<|Um (v := v1) Z Ga Z Z (Kx R0.toB) B4 Kp Kh E16 ?_; rintro w12 E21 B4 K2 Z2; have E22 := E17.A E16 E21 K2 Z2 Kh; have E23 := E18.A E16 E21 K2 Z2 Kh; have E24 := E19.A E16 E21 K2 Z2 Kh
            have E25 := E20.A E16 E21 K2 Z2 Kh; simp only [List.set] at B4; have B1 := B1.Y (K2 _ Kh); have B2 := B2.Y (K2 _ Kh); have B3 := B3.Y (K2 _ Kh); have O1 := O1.W K2 Kh; have O2 := O2.W K2 Kh; have B5 := B5.Y (K2 _ Kh); refine Vp<|Vt<|Vt ?_
          clear stop13
          have hM : Moves w10 q1 w11 v1 := M1
          have hne := hM.ne R1 (b := b4) Kh Kh
          have hown : ∀ k, v1.ownBlock = some k → k < w7.heap.size ∨ w8.heap.size ≤ k := fun k hk => by
            rcases hM.2 with e | ⟨g, e, hg⟩
            · rw [e] at hk; have := R1.lt_own hk; omega
            · rw [e] at hk; cases hk; omega
          clear R1
          obtain ⟨nb, nc, rfl, hnc⟩ := R0.lit Kp
          have hnl : (pp ++ [p]).length = pp.length + 1 := Kp
          rw [hnl] at B4 R0 hne hnc hown
          focus
            have := E11.Z; have := E7.Z; refine Ym<|Yl Jt Ga Z<|Rg Gd B4 Z<|Ys Gc Z (Kv R0)<|Qo Z<|Vp<|Vu Z (fun h7 => ?_) (fun h7 => ?_); refine Ym<|Yl Jt Ga Z<|Rg Gd B4 Z<|Wo Z (Se Gc Jx Z Z Kh) ?_; refine Yl Jt Ga Z<|Um (v := .slice _ _ _) Z Ga Z Z Z B4 Kp Kh E21 ?_; rintro w13 E26 B4 K3 Z3; have E27 := E22.A E21 E26 K3 Z3 Kh; have E28 := E23.A E21 E26 K3 Z3 Kh; simp only [List.set] at B4; have B3 := B3.Y (K3 _ Kh); have O2 := O2.W K3 Kh
            refine Vp<|Vr<|Yj u4 Z<|Yl Jt Jx Z<|Um (v := u4) Z Jx Z Z (Kx O2) B4 Kp Kh E26 ?_; rintro w14 E31 B4 K4 Z4; simp only [List.set] at B4; have B3 := B3.Y (K4 _ Kh); have O2 := O2.W K4 Kh; refine Vp<|Vr<|Uh Jq Jj B4 Z<|Uw Jj B3 Z E31 ?_; rintro w15 E36 B3 K5 Z5; have O2 := O2.W K5 Kh; refine Ya Z<|Vp<|Vy ?_; rotate_left; refine Vw<|Vr<|Yj u4 Z<|Yl Jt Jx Z<|Um (v := u4) Z Jx Z Z (Kx O2) B4 Kp Kh E21 ?_; rintro w13 E26 B4 K3 Z3; simp only [List.set] at B4; have B3 := B3.Y (K3 _ Kh); have O2 := O2.W K3 Kh
            refine Vp<|Vr<|Uh Jq Jj B4 Z<|Uw Jj B3 Z E26 ?_; rintro w14 E31 B3 K4 Z4; have O2 := O2.W K4 Kh; refine Ya Z<|Vp<|Vy ?_; rotate_left
          · have R3 := (R0.wroteLt (w' := w15) (fun k h1 h2 => (K5 k Kh).trans ((K4 k h2).trans ((K3 k h2).trans (K2 k h2)))) Kh hne).above.mono (show w.heap.size ≤ w4.heap.size by omega)
            refine ⟨b3, u4, _, Z, B3, u4, _, Z, by exact E36, O2.above.mono Kh, ?_, Kk, Z, Kh, fun _ h => absurd h (show ¬ pp.length < 8 by omega)⟩
            rw [show last8 (pp ++ [p]) = (pp ++ [p]).drop 1 from if_pos Kh]
            exact R3.dropS Kh
          · have R3 := (R0.wroteLt (w' := w14) (fun k h1 h2 => (K4 k Kh).trans ((K3 k h2).trans (K2 k h2))) Kh hne).above.mono (show w.heap.size ≤ w4.heap.size by omega)
            have R4 := R0.wroteLt (w' := w14) (fun k h1 h2 => (K4 k Kh).trans ((K3 k h2).trans (K2 k h2))) Kh hne
            rw [show last8 (pp ++ [p]) = pp ++ [p] from if_neg Kh]
            refine ⟨b3, u4, _, Z, B3, u4, _, Z, by exact E31, O2.above.mono Kh, R3, Kk, Z, Kh, fun _ _ => ?_⟩
            exact (R4.dk O2 Kh hown).wide Kh (Kz _)
 ·have k0 : ∀ w,ESl Ints w u1 p→ESl (ESl Ints) w u2 pp→Dz 16 [.agg #[u1,u2]] w (Ret w (.bool false)):=fun w h1 h2=>by
   have:=Sa w u1 u2 ⟨p,pp⟩ h1 h2;rwa [decide_eq_false hd] at this
  rw [if_neg hd,if_neg hd,decide_eq_false hd,Bool.false_and]
  focus
   refine Vr<|Xu Z Z Z ?_;rintro b1 w1 H1 E1 B1;have:=B1.lt;refine Xu Z Z Z ?_;rintro b2 w2 H2 E2 B2;have:=B2.lt;refine Xk Z Ug ?_;rintro b3 w3 H3 E3 B3;refine Ya Z<|Vp<|Vt<|Vt<|Ym<|Uh Jq Jj (B1.J exq) Z<|Vs Z (Xh (a:=.agg _) Gv Z) (k0 _ (Ku exq h1) (Ku exq h2)) ?_;rintro _ w4 ⟨rfl,E4⟩;refine Xz Z<|Vp<|Up Z (fun h3=>?_) (fun h3=>?_);refine Vr<|Wo Z (Yu (ps:=[]) (cs:=[_,_]) Ug Z Z)<|Uu Z Jj Z Z Kl Kl (B3.J E4) Kh (((E1.K E2).K E3).K E4) ?_;rintro w5 E5 B3 K1 Z1;have E6:=((E2.K E3).K E4).A exq E5 K1 Z1 Kh;have:=E6.Z;refine Ya Z<|Vp<|Vy ?_
   rotate_left;exact Ks
  exact ⟨b3,_,_,rfl,B3,_,_,rfl,by exact E5,(Owned.nil (e:=0) (X:=XSl 0 XInt)).above,(Owned.nil (e:=0) (X:=XSl 0 (XSl 0 XInt))).above,rfl,rfl,Kh,fun h=>by cases h⟩
def DIn (d:Dsk):Prop:=d=⟨[],[]⟩∨DkOk d
theorem DIn.now {d:Dsk} (h:DIn d):NowP d.now:=by
 rcases h with rfl | h
 ·exact .inl rfl
 ·exact .inr h.1.1.gr
open Classical in
theorem DIn.do {d:Dsk} (h:DIn d) (a:Deed):DIn ⟨if DkOk d then (doV d a).1.now else [],if DkOk d then (doV d a).1.past else []⟩:=by
 by_cases hd:DkOk d
 ·rw [if_pos hd,if_pos hd];exact .inr (doV_ok hd)
 ·rw [if_neg hd,if_neg hd];exact .inl rfl
open Classical in
theorem DIn.len {d:Dsk} (a:Deed):(if DkOk d then (doV d a).1.past else []).length≤d.past.length+1:=by
 by_cases hd:DkOk d
 ·rw [if_pos hd]
  unfold doV
  split
  ·simp;omega
  ·split
   ·unfold last8;split <;> simp <;> omega
   ·simp
 ·rw [if_neg hd];simp
theorem gr00:Gr [[0,0],[0,0]]:=⟨Kj,Kj,fun r hr=>by
 have:r=[0,0]:=by simpa using hr
 subst this
 exact ⟨rfl,fun x hx=>by left;simpa using hx⟩⟩
open Classical in
theorem DeskN_ok {w0:World} (w:World) {br m n:Nat} (hr:Rdr w0 w br m) (hm:m≤1000000) (hn:1≤n∧n≤1000) :
  Dz 56 [.pointer (some ⟨br,0,none⟩),.int .i64 (n:Int)] w (RetDK w0 w br (m+140) (fun d=>NowP d.now)):=by
 refine fn_of_Wc Tryz.func56 Z Tryz.results56 Tryz.ntmps56 Z Jq Jj ?_
 have hG:w.grownBy w (some br):=Ru _ _
 have hlr:=hr.lt
 have hgr:=hr.ge
 have k1:=fun (w:World) (v:Value) (p:List (List Int)) (h:ESl Ints w v p) (z:Int)=>spec_DeskNew_ok w v p h z
 have stop3:True:=trivial
 focus
  refine Vr<|Xk Z Ug ?_;rintro b1 w1 H1 E1 B1;have:=B1.lt;have hr:=hr.J E1;have hG:=Yf hG E1;refine Vp<|Vr<|Uv Z<|Vs Z (Xa (a:=.pointer _) (b:=.int _ _) Tryz.call105 Z Z) (Twin_ok _ _ Kk Kh Kh) ?_;rintro u1 w2 ⟨E2,Q1,x1,O1,L1⟩;(try dsimp only at L1);have B1:=B1.G E2 Kb;have hG:=Ye hG E2;have:=E2.Z;refine Uc u1 Z<|Vp<|Vr<|Yj u1 Z<|Uv Z<|Yj u1 Z<|Ys Jm Z (Kv O1)<|Vs Z (Xa (a:=.pointer _) (b:=.int _ _) Jy Z Z) (Xs _ _ Kk Kh) ?_;rintro _ w3 ⟨y1,rfl,E3,Q2,L2⟩;(try dsimp only at L2);have:=Q2.lt;have D2:=Q2.old;have O1:=O1.toB.G E3 Kh
  have B1:=B1.G E3 Kb;have hG:=Ye hG E3;have:=E3.Z;refine Vs Z (Xa (a:=u1) (b:=.int _ _) Tryz.call106 Z Z) (k1 _ _ _ (Kw O1) _) ?_;rintro _ w4 ⟨u2,q1,m1,rfl,E4,O2,R1,J1,hn1⟩;have V2:=Kx O2;have N1:=Kx (Je R1);have Q2:=Q2.J E4;have hG:=Yf hG E4;have:=E4.Z;refine Ut Z<|Mu Z<|Uz Z<|Xk Z Ug ?_;rintro b2 w5 H2 E5 B2;have:=B2.lt;have Q2:=Q2.J E5;have hG:=Yf hG E5;have:=E5.Z;refine Uw Jj B2 Z ((D2.trans E4).K E5) ?_;rintro w6 E6 B2 K1 Z1;have O1:=(O1.J exq).W K1 Kh;have B1:=(B1.J exq).Y (K1 _ Kh);have O2:=(O2.J E5).W K1 Kh;have R1:=(R1.toB.J E5).W K1 Kh
  have Q2:=Q2.W E6 (K1 _ Kh) Z1;have hG:=Yw hG ((D2.trans E4).K E5) E6 K1 Z1 Kd;refine Ya Z<|Vp<|Vt<|Vt ?_
 clear stop3
 have i1:=V2
 have i2:=N1
 have hX:=R1.dk O2 (lo':=w3.heap.size) (hi':=w4.heap.size) Kh (fun k hk=>.inr (R1.lt_own hk).1)
 have hd:DIn ⟨if Nod x1 (y1:Int) then lst x1 (y1:Int).toNat else [],[]⟩:=by
  by_cases hz:Nod x1 (y1:Int)
  ·rw [if_pos hz]
   have hl:(y1:Int).toNat < x1.length:=by have:=hz.2;omega
   exact .inr ⟨LeastP.lst hz.1.gr hl (Jd (lst_le hz.1.gr hl) hz.1.2.1),Kp,fun p hp=>by cases hp⟩
  ·rw [if_neg hz];exact .inl rfl
 generalize (if Nod x1 (y1:Int) then lst x1 (y1:Int).toNat else [])=now at *
 generalize hpast:([]:List (List (List Int)))=past at hX hd
 have hpl:past.length=0:=by rw [← hpast];rfl
 clear O1 O2 R1
 focus
  refine Ym<|Uv Z<|Vs Z (Xa (a:=.pointer _) (b:=.int _ _) Jy Z Z) (Xs _ _ Kk Kh) ?_;rintro _ w7 ⟨y2,rfl,E9,Q3,L3⟩;(try dsimp only at L3);have B2:=B2.G E9 Kb;have B1:=B1.G E9 Kb;have hG:=Ye hG E9;have hX:=hX.G E9 Kh;have:=E9.Z;refine Yx Z<|Vp<|Yb ?_
 have hy2':=L3 Kh
 refine Xt [8,9,10,24,25,26,27,28,29,30,31,32,33,34,35,36,37] (fun ((k,v1,v2,d,lo,hi):Nat × Value × Value × Dsk × Nat × Nat)=>[(8,.int .i64 (k:Nat))]) (fun (k,v1,v2,d,lo,hi) w'=>w.grownBy w' (some br)∧Rdr w0 w' br (m+65+10*(4 - k))∧k≤4∧w6.heap.size≤w'.heap.size∧Blk w' b1 [.slice none 0 0,.slice none 0 0]∧Blk w' b2 [v1,v2]∧b1 < lo∧lo < w'.heap.size∧hi≤w'.heap.size∧(hi≤b2∨b2 < lo)∧OwnedB lo hi (XDk 23) w' v2 (v1,d.now,d.past)∧isCell v1=true∧isCell v2=true∧DIn d∧d.past.length≤4 - k) (fun x=>x.1) (y2,u2,q1,⟨now,past⟩,w3.heap.size,w4.heap.size) Kn ?_ ?_
 ·exact ⟨hG,by first | exact Q3.le Kh | exact Q2.le Kh | exact Q1.le Kh,Kh,Kh,B1,B2,Kh,Kh,Kh,Kh,hX,i1,i2,hd,by first | omega | (simp only;omega)⟩
 clear Q1 hG hX B1 B2
 rintro ⟨k,v1,v2,d,lo,hi⟩ ρj w7 ⟨hG,hr,hk,hsz,B1,B2,hbl,hlw,hhw,H2,hX,ic1,ic2,hd,hdl⟩
 by_cases hk0:0 < k
 ·have kD : ∀ (w:World) (m':Nat) (hr:Rdr w0 w br m') (hm:m'≤10000000) (hX:OwnedB lo hi (XDk 23) w v2 (v1,d.now,d.past)),lo < w.heap.size→Dz 91 [.pointer (some ⟨br,0,none⟩),.agg #[v1,v2]] w (RetDD w0 w br (m'+10) DrP):=fun w m' hr hm hX hl=>Deed_ok w v1 v2 d.now hr hm hX.dkNow.rd_above Kh hl ic2 hd.now
  have kS : ∀ (w:World) (k n:Int) (t:List UInt8),DrP ⟨k,t,n⟩→OwnedB lo hi (XDk 23) w v2 (v1,d.now,d.past)→Dz 37 [.agg #[v1,v2],.agg #[.int .i64 k,str t,.int .i64 n]] w (RetDkI w 23 d.past.length (if DkOk d then (doV d ⟨k,t,n⟩).1.now else []) (if DkOk d then (doV d ⟨k,t,n⟩).1.past else []) (decide (DkOk d) && (doV d ⟨k,t,n⟩).2)):=fun w k n t ht hX=>(spec_DeskDo_own w v1 v2 d hX.dkNow.O hX.dkPast.O k n t (by have:=ht.2.2.1;simp only at this;omega)).mono fun _ _ h=>h.i
  have stop6:True:=trivial
  focus
   refine Vt<|Vr<|Vz Z<|Qo Z<|Vp<|Vu Z (fun h1=>?_) (fun h1=>?_);refine Vw<|Vt<|Yb<|Vt ?_;rotate_left;exact Kt
  clear stop6
  refine W_mid [28,29,30,31,32,33,34,35,9,10] (fun ((b9,x1,x2,d',lo',hi',ok):Nat × Value × Value × Dsk × Nat × Nat × Bool)=>[(9,.pointer (some ⟨b9,0,none⟩)),(10,.bool ok)]) (fun (b9,x1,x2,d',lo',hi',ok) w'=>w.grownBy w' (some br)∧Rdr w0 w' br (m+65+10*(4 - k)+10)∧w6.heap.size≤w'.heap.size∧Blk w' b1 [.slice none 0 0,.slice none 0 0]∧Blk w' b2 [v1,v2]∧Blk w' b9 [x1,x2]∧lo < w'.heap.size∧hi≤w'.heap.size∧OwnedB lo hi (XDk 23) w' v2 (v1,d.now,d.past)∧b1 < lo'∧lo' < w'.heap.size∧hi'≤w'.heap.size∧b2 < lo'∧OwnedB lo' hi' (XIf (ok=true) (XDk 23)) w' x2 (x1,d'.now,d'.past)∧isCell x1=true∧isCell x2=true∧DIn d'∧d'.past.length≤4 - k+1) ?_ ?_
  ·focus
    refine Rm (fun _=>True) mixed Z Ki ?_;intro w8 E10 K2 Z2;have hG:=Yf hG E10;have hr:=hr.J E10;refine WtmP 1 Z Z trivial<|Wha [0,2,8]<|Yg Z ?_ ?_;refine Uh Jq Jj (B2.J E10) Z<|Wnt<|Wha [2,8]<|Yg Z ?_ ?_;refine Uh Jq Jj (B2.J E10) Z<|Wnt<|Wha [3,8]<|Yg Z ?_ ?_;refine Vs Z (Xa (a:=.pointer _) (b:=.agg _) Zo Z Z) (kD _ _ Kk Kh (hX.J E10) Kh) ?_;rintro _ w9 ⟨k2,t1,n1,rfl,E11,Q1,L4⟩;(try dsimp only at L4);have:=Q1.lt;have D1:=Q1.old;have B1:=(B1.J E10).G E11 Kb;have B2:=(B2.J E10).G E11 Kb;have hX:=(hX.J E10).G E11 Kh
    have hG:=Ye hG E11;have P8:=E11.Z;refine Wnt<|Wha [4,8]<|Yg Z ?_ ?_;refine Vs Z (Xa (a:=.agg _) (b:=.agg _) Zc Z Z) (kS _ _ _ _ Kk (hX)) ?_;rintro _ w10 ⟨u3,q2,rfl,E12,A1,V3,N2,gwu3⟩;have Q1:=Q1.J E12;have hG:=Yf hG E12;refine Wnt<|WtmU 5 Z Z trivial<|WtxA 6 Z Z trivial<|WtxB 7 Z Z trivial<|Wha [8]<|Wh1 Z<|Xk Z Ug ?_;rintro b3 w11 H3 E13 B3;have:=B3.lt;have Q1:=Q1.J E13;have hG:=Yf hG E13;have:=E13.Z;refine Wnt<|Wha [9]<|Wh1 Z<|Uw Jj B3 Z ((D1.trans E12).K E13) ?_;rintro w12 E14 B3 K3 Z3;have E15:=(E12.K E13).A exq E14 K3 Z3 Kh;have:=E15.Z;have E16:=E13.A exq E14 K3 Z3 Kh;have:=E16.Z
    have B1:=(B1.J exq).Y (K3 _ Kh);have B2:=(B2.J exq).Y (K3 _ Kh);have hX:=(hX.J exq).W K3 Kh;have A1:=(A1.J E13).W K3 Kh;have Q1:=Q1.W E14 (K3 _ Kh) Z3;have hG:=Yw hG ((D1.trans E12).K E13) E14 K3 Z3 Kd;refine Wnt<|WtaB 10 Z Z trivial<|Yp Ki ?_;rotate_left;refine Wh1 Z<|Xk Z Ug ?_;rintro b3 w10 H3 E12 B3;have:=B3.lt;have Q1:=Q1.J E12;have hG:=Yf hG E12;refine Wnt<|Wha [4]<|Wh1 Z<|Vs Z (Xa (a:=.agg _) (b:=.agg _) Zc Z Z) (kS _ _ _ _ Kk (hX.J E12)) ?_;rintro _ w11 ⟨u3,q2,rfl,E13,A1,V3,N2,gwu3⟩;have Q1:=Q1.J E13;have hG:=Yf hG E13
    refine Wnt<|WtmU 5 Z Z trivial<|WtxA 6 Z Z trivial<|WtxB 7 Z Z trivial<|Wha [9]<|Wh1 Z<|Uw Jj (B3.J E13) Z ((D1.trans E12).K E13) ?_;rintro w12 E14 B3 K3 Z3;have B1:=(B1.J exq).Y (K3 _ Kh);have B2:=(B2.J exq).Y (K3 _ Kh);have hX:=(hX.J exq).W K3 Kh;have A1:=A1.W K3 Kh;have Q1:=Q1.W E14 (K3 _ Kh) Z3;have hG:=Yw hG ((D1.trans E12).K E13) E14 K3 Z3 Kd;refine Wnt<|WtaB 10 Z Z trivial<|Yp Ki ?_;rotate_left;refine Wh1 Z<|Xk Z Ug ?_;rintro b3 w9 H3 E11 B3;have:=B3.lt;have hG:=Yf hG E11;have hr:=hr.J E11
    refine Wnt<|Wha [3]<|Wh1 Z<|Vs Z (Xa (a:=.pointer _) (b:=.agg _) Zo Z Z) (kD _ _ Kk Kh (hX.J exq) Kh) ?_;rintro _ w10 ⟨k2,t1,n1,rfl,E12,Q1,L4⟩;(try dsimp only at L4);have D1:=Q1.old;have B1:=(B1.J (E10.K E11)).G E12 Kb;have B2:=(B2.J (E10.K E11)).G E12 Kb;have hX:=(hX.J (E10.K E11)).G E12 Kh;have B3:=B3.G E12 Kb;have hG:=Ye hG E12;have:=E12.Z;refine Wnt<|Wha [4]<|Wh1 Z<|Vs Z (Xa (a:=.agg _) (b:=.agg _) Zc Z Z) (kS _ _ _ _ Kk (hX)) ?_;rintro _ w11 ⟨u3,q2,rfl,E13,A1,V3,N2,gwu3⟩;have Q1:=Q1.J E13;have hG:=Yf hG E13
    refine Wnt<|WtmU 5 Z Z trivial<|WtxA 6 Z Z trivial<|WtxB 7 Z Z trivial<|Wha [9]<|Wh1 Z<|Uw Jj (B3.J E13) Z (D1.trans E13) ?_;rintro w12 E14 B3 K3 Z3;have B1:=(B1.J E13).Y (K3 _ Kh);have B2:=(B2.J E13).Y (K3 _ Kh);have hX:=(hX.J E13).W K3 Kh;have A1:=A1.W K3 Kh;have Q1:=Q1.W E14 (K3 _ Kh) Z3;have hG:=Yw hG (D1.trans E13) E14 K3 Z3 Kd;refine Wnt<|WtaB 10 Z Z trivial<|Yp Ki ?_;rotate_left;refine Wh1 Z<|Xk Z Ug ?_;rintro b3 w9 H3 E11 B3;have:=B3.lt;have hG:=Yf hG E11;have hr:=hr.J E11
    refine Wnt<|Wha [2]<|Wh1 Z<|Uh Jq Jj (B2.J exq) Z<|Wnt<|Wha [3]<|Wh1 Z<|Vs Z (Xa (a:=.pointer _) (b:=.agg _) Zo Z Z) (kD _ _ Kk Kh (hX.J exq) Kh) ?_;rintro _ w10 ⟨k2,t1,n1,rfl,E12,Q1,L4⟩;(try dsimp only at L4);have D1:=Q1.old;have B1:=(B1.J (E10.K E11)).G E12 Kb;have B2:=(B2.J (E10.K E11)).G E12 Kb;have hX:=(hX.J (E10.K E11)).G E12 Kh;have B3:=B3.G E12 Kb;have hG:=Ye hG E12;have:=E12.Z;refine Wnt<|Wha [4]<|Wh1 Z<|Vs Z (Xa (a:=.agg _) (b:=.agg _) Zc Z Z) (kS _ _ _ _ Kk (hX)) ?_
    rintro _ w11 ⟨u3,q2,rfl,E13,A1,V3,N2,gwu3⟩;have Q1:=Q1.J E13;have hG:=Yf hG E13;refine Wnt<|WtmU 5 Z Z trivial<|WtxA 6 Z Z trivial<|WtxB 7 Z Z trivial<|Wha [9]<|Wh1 Z<|Uw Jj (B3.J E13) Z (D1.trans E13) ?_;rintro w12 E14 B3 K3 Z3;have B1:=(B1.J E13).Y (K3 _ Kh);have B2:=(B2.J E13).Y (K3 _ Kh);have hX:=(hX.J E13).W K3 Kh;have A1:=A1.W K3 Kh;have Q1:=Q1.W E14 (K3 _ Kh) Z3;have hG:=Yw hG (D1.trans E13) E14 K3 Z3 Kd;refine Wnt<|WtaB 10 Z Z trivial<|Yp Ki ?_;rotate_left;refine Yg Z ?_ ?_;refine Uh Jq Jj (B2.J E10) Z<|Wnt<|Wha [0,3,8]<|Yg Z ?_ ?_
    refine Uh Jq Jj (B2.J E10) Z<|Wnt<|Wha [3,8]<|Yg Z ?_ ?_;refine Vs Z (Xa (a:=.pointer _) (b:=.agg _) Zo Z Z) (kD _ _ Kk Kh (hX.J E10) Kh) ?_;rintro _ w9 ⟨k2,t1,n1,rfl,E11,Q1,L4⟩;(try dsimp only at L4);have:=Q1.lt;have D1:=Q1.old;have B1:=(B1.J E10).G E11 Kb;have B2:=(B2.J E10).G E11 Kb;have hX:=(hX.J E10).G E11 Kh;have hG:=Ye hG E11;have P8:=E11.Z;refine Wnt<|Wha [4,8]<|Yg Z ?_ ?_;refine Vs Z (Xa (a:=.agg _) (b:=.agg _) Zc Z Z) (kS _ _ _ _ Kk (hX)) ?_;rintro _ w10 ⟨u3,q2,rfl,E12,A1,V3,N2,gwu3⟩;have Q1:=Q1.J E12;have hG:=Yf hG E12
    refine Wnt<|WtmU 5 Z Z trivial<|WtxA 6 Z Z trivial<|WtxB 7 Z Z trivial<|Wha [8]<|Wh1 Z<|Xk Z Ug ?_;rintro b3 w11 H3 E13 B3;have:=B3.lt;have Q1:=Q1.J E13;have hG:=Yf hG E13;have:=E13.Z;refine Wnt<|Wha [9]<|Wh1 Z<|Uw Jj B3 Z ((D1.trans E12).K E13) ?_;rintro w12 E14 B3 K3 Z3;have E15:=(E12.K E13).A exq E14 K3 Z3 Kh;have:=E15.Z;have E16:=E13.A exq E14 K3 Z3 Kh;have:=E16.Z;have B1:=(B1.J exq).Y (K3 _ Kh);have B2:=(B2.J exq).Y (K3 _ Kh);have hX:=(hX.J exq).W K3 Kh;have A1:=(A1.J E13).W K3 Kh;have Q1:=Q1.W E14 (K3 _ Kh) Z3;have hG:=Yw hG ((D1.trans E12).K E13) E14 K3 Z3 Kd
    refine Wnt<|WtaB 10 Z Z trivial<|Yp Ki ?_;rotate_left;refine Wh1 Z<|Xk Z Ug ?_;rintro b3 w10 H3 E12 B3;have:=B3.lt;have Q1:=Q1.J E12;have hG:=Yf hG E12;refine Wnt<|Wha [4]<|Wh1 Z<|Vs Z (Xa (a:=.agg _) (b:=.agg _) Zc Z Z) (kS _ _ _ _ Kk (hX.J E12)) ?_;rintro _ w11 ⟨u3,q2,rfl,E13,A1,V3,N2,gwu3⟩;have Q1:=Q1.J E13;have hG:=Yf hG E13;refine Wnt<|WtmU 5 Z Z trivial<|WtxA 6 Z Z trivial<|WtxB 7 Z Z trivial<|Wha [9]<|Wh1 Z<|Uw Jj (B3.J E13) Z ((D1.trans E12).K E13) ?_;rintro w12 E14 B3 K3 Z3;have B1:=(B1.J exq).Y (K3 _ Kh);have B2:=(B2.J exq).Y (K3 _ Kh);have hX:=(hX.J exq).W K3 Kh;have A1:=A1.W K3 Kh
    have Q1:=Q1.W E14 (K3 _ Kh) Z3;have hG:=Yw hG ((D1.trans E12).K E13) E14 K3 Z3 Kd;refine Wnt<|WtaB 10 Z Z trivial<|Yp Ki ?_;rotate_left;refine Wh1 Z<|Xk Z Ug ?_;rintro b3 w9 H3 E11 B3;have:=B3.lt;have hG:=Yf hG E11;have hr:=hr.J E11;refine Wnt<|Wha [3]<|Wh1 Z<|Vs Z (Xa (a:=.pointer _) (b:=.agg _) Zo Z Z) (kD _ _ Kk Kh (hX.J exq) Kh) ?_;rintro _ w10 ⟨k2,t1,n1,rfl,E12,Q1,L4⟩;(try dsimp only at L4);have D1:=Q1.old;have B1:=(B1.J (E10.K E11)).G E12 Kb;have B2:=(B2.J (E10.K E11)).G E12 Kb;have hX:=(hX.J (E10.K E11)).G E12 Kh
    have B3:=B3.G E12 Kb;have hG:=Ye hG E12;have:=E12.Z;refine Wnt<|Wha [4]<|Wh1 Z<|Vs Z (Xa (a:=.agg _) (b:=.agg _) Zc Z Z) (kS _ _ _ _ Kk (hX)) ?_;rintro _ w11 ⟨u3,q2,rfl,E13,A1,V3,N2,gwu3⟩;have Q1:=Q1.J E13;have hG:=Yf hG E13;refine Wnt<|WtmU 5 Z Z trivial<|WtxA 6 Z Z trivial<|WtxB 7 Z Z trivial<|Wha [9]<|Wh1 Z<|Uw Jj (B3.J E13) Z (D1.trans E13) ?_;rintro w12 E14 B3 K3 Z3;have B1:=(B1.J E13).Y (K3 _ Kh);have B2:=(B2.J E13).Y (K3 _ Kh);have hX:=(hX.J E13).W K3 Kh;have A1:=A1.W K3 Kh;have Q1:=Q1.W E14 (K3 _ Kh) Z3
    have hG:=Yw hG (D1.trans E13) E14 K3 Z3 Kd;refine Wnt<|WtaB 10 Z Z trivial<|Yp Ki ?_;rotate_left;refine Yg Z ?_ ?_;refine Vs Z (Xa (a:=.pointer _) (b:=.agg _) Zo Z Z) (kD _ _ Kk Kh (hX.J E10) Kh) ?_;rintro _ w9 ⟨k2,t1,n1,rfl,E11,Q1,L4⟩;(try dsimp only at L4);have:=Q1.lt;have D1:=Q1.old;have B1:=(B1.J E10).G E11 Kb;have B2:=(B2.J E10).G E11 Kb;have hX:=(hX.J E10).G E11 Kh;have hG:=Ye hG E11;have P8:=E11.Z;refine Wnt<|Wha [0,8]<|Yg Z ?_ ?_;refine Uh Jq Jj B2 Z<|Wnt<|Wha [4,8]<|Yg Z ?_ ?_
    refine Vs Z (Xa (a:=.agg _) (b:=.agg _) Zc Z Z) (kS _ _ _ _ Kk (hX)) ?_;rintro _ w10 ⟨u3,q2,rfl,E12,A1,V3,N2,gwu3⟩;have Q1:=Q1.J E12;have hG:=Yf hG E12;refine Wnt<|WtmU 5 Z Z trivial<|WtxA 6 Z Z trivial<|WtxB 7 Z Z trivial<|Wha [8]<|Wh1 Z<|Xk Z Ug ?_;rintro b3 w11 H3 E13 B3;have:=B3.lt;have Q1:=Q1.J E13;have hG:=Yf hG E13;have:=E13.Z;refine Wnt<|Wha [9]<|Wh1 Z<|Uw Jj B3 Z ((D1.trans E12).K E13) ?_;rintro w12 E14 B3 K3 Z3;have E15:=(E12.K E13).A exq E14 K3 Z3 Kh;have:=E15.Z;have E16:=E13.A exq E14 K3 Z3 Kh;have:=E16.Z;have B1:=(B1.J exq).Y (K3 _ Kh);have B2:=(B2.J exq).Y (K3 _ Kh);have hX:=(hX.J exq).W K3 Kh
    have A1:=(A1.J E13).W K3 Kh;have Q1:=Q1.W E14 (K3 _ Kh) Z3;have hG:=Yw hG ((D1.trans E12).K E13) E14 K3 Z3 Kd;refine Wnt<|WtaB 10 Z Z trivial<|Yp Ki ?_;rotate_left;refine Wh1 Z<|Xk Z Ug ?_;rintro b3 w10 H3 E12 B3;have:=B3.lt;have Q1:=Q1.J E12;have hG:=Yf hG E12;refine Wnt<|Wha [4]<|Wh1 Z<|Vs Z (Xa (a:=.agg _) (b:=.agg _) Zc Z Z) (kS _ _ _ _ Kk (hX.J E12)) ?_;rintro _ w11 ⟨u3,q2,rfl,E13,A1,V3,N2,gwu3⟩;have Q1:=Q1.J E13;have hG:=Yf hG E13;refine Wnt<|WtmU 5 Z Z trivial<|WtxA 6 Z Z trivial<|WtxB 7 Z Z trivial<|Wha [9]<|Wh1 Z<|Uw Jj (B3.J E13) Z ((D1.trans E12).K E13) ?_;rintro w12 E14 B3 K3 Z3
    have B1:=(B1.J exq).Y (K3 _ Kh);have B2:=(B2.J exq).Y (K3 _ Kh);have hX:=(hX.J exq).W K3 Kh;have A1:=A1.W K3 Kh;have Q1:=Q1.W E14 (K3 _ Kh) Z3;have hG:=Yw hG ((D1.trans E12).K E13) E14 K3 Z3 Kd;refine Wnt<|WtaB 10 Z Z trivial<|Yp Ki ?_;rotate_left;refine Wh1 Z<|Xk Z Ug ?_;rintro b3 w10 H3 E12 B3;have:=B3.lt;have Q1:=Q1.J E12;have hG:=Yf hG E12;refine Wnt<|Wha [0]<|Wh1 Z<|Uh Jq Jj (B2.J E12) Z<|Wnt<|Wha [4]<|Wh1 Z<|Vs Z (Xa (a:=.agg _) (b:=.agg _) Zc Z Z) (kS _ _ _ _ Kk (hX.J E12)) ?_;rintro _ w11 ⟨u3,q2,rfl,E13,A1,V3,N2,gwu3⟩;have Q1:=Q1.J E13
    have hG:=Yf hG E13;refine Wnt<|WtmU 5 Z Z trivial<|WtxA 6 Z Z trivial<|WtxB 7 Z Z trivial<|Wha [9]<|Wh1 Z<|Uw Jj (B3.J E13) Z ((D1.trans E12).K E13) ?_;rintro w12 E14 B3 K3 Z3;have B1:=(B1.J exq).Y (K3 _ Kh);have B2:=(B2.J exq).Y (K3 _ Kh);have hX:=(hX.J exq).W K3 Kh;have A1:=A1.W K3 Kh;have Q1:=Q1.W E14 (K3 _ Kh) Z3;have hG:=Yw hG ((D1.trans E12).K E13) E14 K3 Z3 Kd;refine Wnt<|WtaB 10 Z Z trivial<|Yp Ki ?_;rotate_left;refine Wh1 Z<|Xk Z Ug ?_;rintro b3 w9 H3 E11 B3;have:=B3.lt;have hG:=Yf hG E11;have hr:=hr.J E11;refine Wnt<|Wha [0,3]<|Yg Z ?_ ?_
    refine Uh Jq Jj (B2.J exq) Z<|Wnt<|Wha [3]<|Wh1 Z<|Vs Z (Xa (a:=.pointer _) (b:=.agg _) Zo Z Z) (kD _ _ Kk Kh (hX.J exq) Kh) ?_;rintro _ w10 ⟨k2,t1,n1,rfl,E12,Q1,L4⟩;(try dsimp only at L4);have D1:=Q1.old;have B1:=(B1.J (E10.K E11)).G E12 Kb;have B2:=(B2.J (E10.K E11)).G E12 Kb;have hX:=(hX.J (E10.K E11)).G E12 Kh;have B3:=B3.G E12 Kb;have hG:=Ye hG E12;have:=E12.Z;refine Wnt<|Wha [4]<|Wh1 Z<|Vs Z (Xa (a:=.agg _) (b:=.agg _) Zc Z Z) (kS _ _ _ _ Kk (hX)) ?_;rintro _ w11 ⟨u3,q2,rfl,E13,A1,V3,N2,gwu3⟩
    have Q1:=Q1.J E13;have hG:=Yf hG E13;refine Wnt<|WtmU 5 Z Z trivial<|WtxA 6 Z Z trivial<|WtxB 7 Z Z trivial<|Wha [9]<|Wh1 Z<|Uw Jj (B3.J E13) Z (D1.trans E13) ?_;rintro w12 E14 B3 K3 Z3;have B1:=(B1.J E13).Y (K3 _ Kh);have B2:=(B2.J E13).Y (K3 _ Kh);have hX:=(hX.J E13).W K3 Kh;have A1:=A1.W K3 Kh;have Q1:=Q1.W E14 (K3 _ Kh) Z3;have hG:=Yw hG (D1.trans E13) E14 K3 Z3 Kd;refine Wnt<|WtaB 10 Z Z trivial<|Yp Ki ?_;rotate_left;refine Wh1 Z<|Vs Z (Xa (a:=.pointer _) (b:=.agg _) Zo Z Z) (kD _ _ Kk Kh (hX.J exq) Kh) ?_;rintro _ w10 ⟨k2,t1,n1,rfl,E12,Q1,L4⟩;(try dsimp only at L4)
    have D1:=Q1.old;have B1:=(B1.J (E10.K E11)).G E12 Kb;have B2:=(B2.J (E10.K E11)).G E12 Kb;have hX:=(hX.J (E10.K E11)).G E12 Kh;have B3:=B3.G E12 Kb;have hG:=Ye hG E12;have:=E12.Z;refine Wnt<|Wha [0]<|Wh1 Z<|Uh Jq Jj B2 Z<|Wnt<|Wha [4]<|Wh1 Z<|Vs Z (Xa (a:=.agg _) (b:=.agg _) Zc Z Z) (kS _ _ _ _ Kk (hX)) ?_;rintro _ w11 ⟨u3,q2,rfl,E13,A1,V3,N2,gwu3⟩;have Q1:=Q1.J E13;have hG:=Yf hG E13;refine Wnt<|WtmU 5 Z Z trivial<|WtxA 6 Z Z trivial<|WtxB 7 Z Z trivial<|Wha [9]<|Wh1 Z<|Uw Jj (B3.J E13) Z (D1.trans E13) ?_
    rintro w12 E14 B3 K3 Z3;have B1:=(B1.J E13).Y (K3 _ Kh);have B2:=(B2.J E13).Y (K3 _ Kh);have hX:=(hX.J E13).W K3 Kh;have A1:=A1.W K3 Kh;have Q1:=Q1.W E14 (K3 _ Kh) Z3;have hG:=Yw hG (D1.trans E13) E14 K3 Z3 Kd;refine Wnt<|WtaB 10 Z Z trivial<|Yp Ki ?_;rotate_left;refine Wh1 Z<|Xk Z Ug ?_;rintro b3 w9 H3 E11 B3;have:=B3.lt;have hG:=Yf hG E11;have hr:=hr.J E11;refine Wnt<|Wha [0,2]<|Yg Z ?_ ?_
    refine Uh Jq Jj (B2.J exq) Z<|Wnt<|Wha [2]<|Wh1 Z<|Uh Jq Jj (B2.J exq) Z<|Wnt<|Wha [3]<|Wh1 Z<|Vs Z (Xa (a:=.pointer _) (b:=.agg _) Zo Z Z) (kD _ _ Kk Kh (hX.J exq) Kh) ?_;rintro _ w10 ⟨k2,t1,n1,rfl,E12,Q1,L4⟩;(try dsimp only at L4);have D1:=Q1.old;have B1:=(B1.J (E10.K E11)).G E12 Kb;have B2:=(B2.J (E10.K E11)).G E12 Kb;have hX:=(hX.J (E10.K E11)).G E12 Kh;have B3:=B3.G E12 Kb;have hG:=Ye hG E12;have:=E12.Z
    refine Wnt<|Wha [4]<|Wh1 Z<|Vs Z (Xa (a:=.agg _) (b:=.agg _) Zc Z Z) (kS _ _ _ _ Kk (hX)) ?_;rintro _ w11 ⟨u3,q2,rfl,E13,A1,V3,N2,gwu3⟩;have Q1:=Q1.J E13;have hG:=Yf hG E13;refine Wnt<|WtmU 5 Z Z trivial<|WtxA 6 Z Z trivial<|WtxB 7 Z Z trivial<|Wha [9]<|Wh1 Z<|Uw Jj (B3.J E13) Z (D1.trans E13) ?_;rintro w12 E14 B3 K3 Z3;have B1:=(B1.J E13).Y (K3 _ Kh);have B2:=(B2.J E13).Y (K3 _ Kh);have hX:=(hX.J E13).W K3 Kh;have A1:=A1.W K3 Kh;have Q1:=Q1.W E14 (K3 _ Kh) Z3;have hG:=Yw hG (D1.trans E13) E14 K3 Z3 Kd;refine Wnt<|WtaB 10 Z Z trivial<|Yp Ki ?_;rotate_left
    refine Wh1 Z<|Uh Jq Jj (B2.J exq) Z<|Wnt<|Wha [0,3]<|Yg Z ?_ ?_;refine Uh Jq Jj (B2.J exq) Z<|Wnt<|Wha [3]<|Wh1 Z<|Vs Z (Xa (a:=.pointer _) (b:=.agg _) Zo Z Z) (kD _ _ Kk Kh (hX.J exq) Kh) ?_;rintro _ w10 ⟨k2,t1,n1,rfl,E12,Q1,L4⟩;(try dsimp only at L4);have D1:=Q1.old;have B1:=(B1.J (E10.K E11)).G E12 Kb;have B2:=(B2.J (E10.K E11)).G E12 Kb;have hX:=(hX.J (E10.K E11)).G E12 Kh;have B3:=B3.G E12 Kb;have hG:=Ye hG E12;have:=E12.Z
    refine Wnt<|Wha [4]<|Wh1 Z<|Vs Z (Xa (a:=.agg _) (b:=.agg _) Zc Z Z) (kS _ _ _ _ Kk (hX)) ?_;rintro _ w11 ⟨u3,q2,rfl,E13,A1,V3,N2,gwu3⟩;have Q1:=Q1.J E13;have hG:=Yf hG E13;refine Wnt<|WtmU 5 Z Z trivial<|WtxA 6 Z Z trivial<|WtxB 7 Z Z trivial<|Wha [9]<|Wh1 Z<|Uw Jj (B3.J E13) Z (D1.trans E13) ?_;rintro w12 E14 B3 K3 Z3;have B1:=(B1.J E13).Y (K3 _ Kh);have B2:=(B2.J E13).Y (K3 _ Kh);have hX:=(hX.J E13).W K3 Kh;have A1:=A1.W K3 Kh;have Q1:=Q1.W E14 (K3 _ Kh) Z3;have hG:=Yw hG (D1.trans E13) E14 K3 Z3 Kd;refine Wnt<|WtaB 10 Z Z trivial<|Yp Ki ?_;rotate_left
    refine Wh1 Z<|Vs Z (Xa (a:=.pointer _) (b:=.agg _) Zo Z Z) (kD _ _ Kk Kh (hX.J exq) Kh) ?_;rintro _ w10 ⟨k2,t1,n1,rfl,E12,Q1,L4⟩;(try dsimp only at L4);have D1:=Q1.old;have B1:=(B1.J (E10.K E11)).G E12 Kb;have B2:=(B2.J (E10.K E11)).G E12 Kb;have hX:=(hX.J (E10.K E11)).G E12 Kh;have B3:=B3.G E12 Kb;have hG:=Ye hG E12;have:=E12.Z;refine Wnt<|Wha [0]<|Wh1 Z<|Uh Jq Jj B2 Z<|Wnt<|Wha [4]<|Wh1 Z<|Vs Z (Xa (a:=.agg _) (b:=.agg _) Zc Z Z) (kS _ _ _ _ Kk (hX)) ?_;rintro _ w11 ⟨u3,q2,rfl,E13,A1,V3,N2,gwu3⟩
    have Q1:=Q1.J E13;have hG:=Yf hG E13;refine Wnt<|WtmU 5 Z Z trivial<|WtxA 6 Z Z trivial<|WtxB 7 Z Z trivial<|Wha [9]<|Wh1 Z<|Uw Jj (B3.J E13) Z (D1.trans E13) ?_;rintro w12 E14 B3 K3 Z3;have B1:=(B1.J E13).Y (K3 _ Kh);have B2:=(B2.J E13).Y (K3 _ Kh);have hX:=(hX.J E13).W K3 Kh;have A1:=A1.W K3 Kh;have Q1:=Q1.W E14 (K3 _ Kh) Z3;have hG:=Yw hG (D1.trans E13) E14 K3 Z3 Kd;refine Wnt<|WtaB 10 Z Z trivial<|Yp Ki ?_;rotate_left
   all_goals exact ⟨(b3,u3,q2,⟨if DkOk d then (doV d ⟨k2,t1,n1⟩).1.now else [],if DkOk d then (doV d ⟨k2,t1,n1⟩).1.past else []⟩,_,_,_),⟨rfl,rfl,trivial⟩,Ko,hG,Q1,Kh,B1,B2,B3,Kh,Kh,hX,Kh,Kh,Kh,Kh,A1.ximp (fun h=>⟨h,Kh⟩),V3,N2,hd.do _,Jd (DIn.len _) Kh⟩
  clear hr hG hX B1 B2 kD kS
  rintro ⟨b9,x1',x2',d',lo',hi',ok⟩ ρ8 w8 ⟨hG,hr,P8,B1,B2,B9,hlw8,hhw8,hX,hbl',hlw',hhw',hb2',hX',ic1',ic2',hd',hdl'⟩
  have E8':=hr.old
  cases ok
  ·focus
    refine Vr<|Xp Z<|Vp<|Vx Z ?_;refine Vw<|Ym<|Vz Z<|Sc Z<|Yx Z<|Vp ?_
   refine ⟨(k - 1,v1,v2,d,lo,hi),⟨congrArg (Value.int .i64) (show (k:Int) - 1=((k - 1:Nat):Int) by omega),trivial⟩,Ko,?_,Kq⟩
   exact ⟨hG,by first | exact Q1.le Kh | exact hr.le Kh,Kh,Kh,B1,B2,hbl,Kh,Kh,H2,hX,ic1,ic2,hd,by first | omega | (simp only;omega)⟩
  ·have hX':=hX'.xthen rfl
   focus
    refine Vr<|Xp Z<|Vp<|Xe Z ?_;refine Ym<|Uh Jq Jj B9 Z<|Uw Jj B2 Z E8' ?_;rintro w9 E10 B2 K2 Z2;have hG:=Yw hG E8' E10 K2 Z2 Kd;have hr:=hr.W E10 (K2 _ Kh) Z2;have B1:=B1.Y (K2 _ Kh);have hX':=hX'.W K2 Kh;refine Vp<|Ym<|Vz Z<|Sc Z<|Yx Z<|Vp ?_
   refine ⟨(k - 1,x1',x2',d',lo',hi'),⟨congrArg (Value.int .i64) (show (k:Int) - 1=((k - 1:Nat):Int) by omega),trivial⟩,Ko,?_,Kq⟩
   exact ⟨hG,by first | exact Q1.le Kh | exact hr.le Kh,Kh,Kh,B1,B2,hbl',Kh,Kh,.inr hb2',hX',ic1',ic2',hd',by first | omega | (simp only;omega)⟩
 ·obtain rfl:k=0:=by omega
  have stop10:True:=trivial
  focus
   refine Vt<|Vr<|Vz Z<|Qo Z<|Vp<|Yt Z fun h1=>?_;refine Xm ?_;refine Yn ?_;refine Vt<|Vr<|Uv Z<|Vz Z<|Vs Z (Xa (a:=.pointer _) (b:=.int _ _) Tryz.call76 Z Z) (odd_ok _ _ Kk Kh Kh) ?_;rintro _ w8 ⟨y3,rfl,E10,Q1,L4⟩;(try dsimp only at L4);have D1:=Q1.old;have hG:=Ye hG E10;have B1:=B1.G E10 Kb;have B2:=B2.G E10 Kb;have hX:=hX.G E10 Kh;have:=E10.Z;refine Vp<|Up Z (fun h2=>?_) (fun h2=>?_);refine Vt ?_;rotate_left;refine Vw<|Vr<|Uh Jq Jj B2 Z<|Uw Jj B1 Z D1 ?_;rintro w9 E11 B1 K2 Z2;have Q1:=Q1.W E11 (K2 _ Kh) Z2
   have hG:=Yw hG D1 E11 K2 Z2 Kd;have hX:=hX.W K2 Kh;refine Vp<|Vy ?_;rotate_left
  ·clear stop10
   have stop13:True:=trivial
   have stop15:True:=trivial
   focus
    refine Ym<|Uv Z<|Vs Z (Xa (a:=.pointer _) (b:=.int _ _) Jy Z Z) (Xs _ _ Kk Kh) ?_;rintro _ w9 ⟨y4,rfl,E11,Q4,L5⟩;(try dsimp only at L5);have D4:=Q4.old;have hG:=Ye hG E11;have B1:=B1.G E11 Kb;have B2:=B2.G E11 Kb;have hX:=hX.G E11 Kh;have P8:=E11.Z;refine Vp<|Yb<|Vr<|Yo Z<|Ya Z<|Vp<|Vu Z (fun h3=>?_) (fun h3=>?_);rotate_left;refine Vr<|Yo Z<|Ya Z<|Vp<|Vu Z (fun h4=>?_) (fun h4=>?_);rotate_left;refine Vr<|Wo Z (Yu (ps:=[]) (cs:=[_,_]) Ug Z Z)<|Uw Jj B1 Z D4 ?_;rintro w10 E12 B1 K2 Z2;have Q4:=Q4.W E12 (K2 _ Kh) Z2
    have hG:=Yw hG D4 E12 K2 Z2 Kd;refine Vp<|Vy ?_;rotate_left
   ·clear stop13 stop15
    focus
     refine Ym<|Xg (ps:=[(0,.int _ _),(1,.int _ _)]) (cs:=[_,_]) Z Jl Ji Gf Z Z Z Z ?_;rintro b3 w10 H3 E12 B3 Y3;have:=B3.lt;have hLb3:=own_lit2 Y3 H3;clear Y3;have Q4:=Q4.J E12;have hG:=Yf hG E12;refine Xg (ps:=[(0,.int _ _),(1,.int _ _)]) (cs:=[_,_]) Z Jl Ji Gf Z Z Z Z ?_;rintro b4 w11 H4 E13 B4 Y4;have:=B4.lt;have hLb4:=own_lit2 Y4 H4;clear Y4;have Q4:=Q4.J E13;have hG:=Yf hG E13;refine Xg (ps:=[(0,.slice _ _ _),(1,.slice _ _ _)]) (cs:=[_,_]) Z Jm Jw Gq Z Z Z Z ?_;rintro b5 w12 H5 E14 B5 Y5;have:=B5.lt;have Q4:=Q4.J E14;have hG:=Yf hG E14
     refine Yl Jt Jx Z<|Um (v:=.slice _ _ _) Z Jx Z Z Z (B2.J ((E12.K E13).K E14)) Kp Kh (((D4.trans E12).K E13).K E14) ?_;rintro w13 E15 B2 K2 Z2;simp only [List.set] at B2;have B1:=(B1.J exq).Y (K2 _ Kh);have hX:=(hX.J exq).W K2 Kh;have hLb3:=(hLb3.toB.J exq).W K2 Kh;have hLb4:=(hLb4.toB.J E14).W K2 Kh;have B5:=B5.Y (K2 _ Kh);have Q4:=Q4.W E15 (K2 _ Kh) Z2;have hG:=Yw hG (((D4.trans E12).K E13).K E14) E15 K2 Z2 Kd;refine Vp<|Vr<|Uh Jq Jj B2 Z<|Uw Jj B1 Z E15 ?_;rintro w14 E16 B1 K3 Z3;have hX:=hX.W K3 Kh;have hLb3:=hLb3.W K3 Kh
     have hLb4:=hLb4.W K3 Kh;have B5:=B5.Y (K3 _ Kh);have Q4:=Q4.W E16 (K3 _ Kh) Z3;have hG:=Yw hG E15 E16 K3 Z3 Kd;refine Vp<|Vy ?_
    have hA:Above w.heap.size (ESl Ints) w14 (.slice (some ⟨b5,0,none⟩) 2 2) [[0,0],[0,0]]:=fun w1' hk hsz=>(B5.keep hk Kh).slice (xs:=[[0,0],[0,0]]) rfl Kj (fun i g1 g2=>match i,g1,g2 with
     | 0,_,_=>(hLb3.above.mono (lo':=w.heap.size) Kh) w1' hk hsz
     | 1,_,_=>(hLb4.above.mono (lo':=w.heap.size) Kh) w1' hk hsz
     | (i+2),g1,_=>absurd g1 Kp)
    exact ⟨b1,_,v2,rfl,B1,_,v2,[[0,0],[0,0]],d.past,rfl,hG,Q4.le Kh,hA,hX.dkPast.rd_above.mono Kh,rfl,ic2,Kh,.inr gr00⟩
   ·clear stop13 stop15
    focus
     refine Ym<|Yl Jt Ga Z<|Xw v2 Gd B2 Z<|Un (XSl 3 XInt) Z Sk Jw ?_;rintro b3 w10 H3 b3lt E12 O3;have Q4:=Q4.J E12;have hG:=Yf hG E12;refine Xc (ps:=[(0,.slice _ _ _)]) (cs:=[_]) Z Gc Jx Ze Z Z Z Z ?_;rintro b4 w11 H4 E13 B3;have:=B3.lt;have Q4:=Q4.J E13;have hG:=Yf hG E13
    refine Wo_appDk Z el24 Z Z B3 (hX.J (E12.K E13)) ((O3.J E13).O) Kh Kh ?_
    rintro q v9 w12 hq1 hq2 hg ⟨fp,hfp,A9⟩
    have icv9:isCell v9=true:=Go.Hs.Loc.cell A9
    have Q5:=Q4.beside hg Kh Kh
    have hG:=grownBy_beside hG hg Kh
    have B1:=(B1.J (E12.K E13)).G hg Kb
    have B2:=(B2.J (E12.K E13)).G hg Kb
    have hsg:=hg.size
    have hE12:=Q5.old
    clear hX Q4 B3 O3
    focus
     refine Yl Jt Ga Z<|Um (v:=v9) Z Ga Z Z Kk B2 (by first | decide | simp) Kh hE12 ?_;rintro w13 E14 B2 K2 Z2;simp only [List.set] at B2;have Q5:=Q5.W E14 (K2 _ Kh) Z2;have hG:=Yw hG hE12 E14 K2 Z2 Kd;have B1:=B1.Y (K2 _ Kh);refine Vp<|Vr<|Uh Jq Jj B2 Z<|Uw Jj B1 Z E14 ?_;rintro w14 E15 B1 K3 Z3;have Q5:=Q5.W E15 (K3 _ Kh) Z3;have hG:=Yw hG E14 E15 K3 Z3 Kd;refine Vp<|Vy ?_
    have A9:XDk 23 w14 fp v9 (v1,d.now,d.past++[[]]):=Go.Hs.Loc.loc (fun k hk=>by have:=hfp k hk;exact (K3 k Kh).trans (K2 k Kh)) A9
    have hXo:=A9.own (lo:=w.heap.size) (fun k hk=>by have:=hfp k hk;omega)
    exact ⟨b1,v1,v9,rfl,B1,v1,v9,d.now,d.past++[[]],rfl,hG,Q5.le Kh,hXo.dkNow.rd_above,hXo.dkPast.rd_above,ic1,icv9,Kh,hd.now⟩
   ·exact ⟨b1,_,_,rfl,B1,_,_,[],[],rfl,hG,Q4.le Kh,(Owned.nil (e:=0) (X:=XSl 0 XInt)).above,(Owned.nil (e:=0) (X:=XSl 0 (XSl 0 XInt))).above,rfl,rfl,Kh,.inl rfl⟩
  ·exact ⟨b1,v1,v2,rfl,B1,v1,v2,_,_,rfl,hG,by first | exact Q1.le Kh | exact hr.le Kh,hX.dkNow.rd_above.mono Kh,hX.dkPast.rd_above.mono Kh,ic1,ic2,Kh,hd.now⟩
end Go.Proofs.YtbgpppaljpngmaaGreatDoor
