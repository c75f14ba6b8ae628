import Derived.Test.YtbkllghhcphkaaaGreatDoorJ7
import Derived.Test.YtbkllghhcphkaaaGreatDoorJ15
set_option linter.unusedSimpArgs false
set_option linter.unusedVariables false
namespace Go.Proofs.YtbkllghhcphkaaaGreatDoor
open Go.RowKit Am
set_option maxHeartbeats 4000000
set_option maxRecDepth 100000
theorem Wv (k:Nat) (a0:Ze) (r:Bool) (hM:Xu k a0=some r):Ctr Tryz.prog 74 [.agg (Ze.c a0)] true [.one (.bool r)]:=by
 unfold Xu at hM;refine Zr Tryz.func74 Tryz.ntmps74 Tryz.results74 fun N w0 hbad F=> ?_;refine S1 ?_;refine mjE (ι:=Unit) [1] [1] [] (fun i=>[]) hM ?_ ?_
 ·intro e1 hM hR1 K3 hK3;refine S1 ?_;refine Zc ?_;refine lp (ι:=Int) [1,6,7] [1] [] (fun i=>[(8,oI i)]) (fun n i=>Z4 k a0 n i=some e1) k 0 hM (by simp [Z4]) ?_;intro KL4 nL4 x1 hL4 hM _;have hM:Z4 k a0 (nL4+1) x1=some e1:=hM;rw [Z4] at hM;refine S1 ?_;refine Zg fun K5 hK5=> ?_;refine Zn hM (fun h6 hM=> ?_) (fun h6 hM=> ?_)
  ·have F:=Zwg (nf F h6) (lT h6);refine Zi ?_;refine hK5 _ ?_;refine Zg fun K7 hK7=> ?_;refine Zc ?_;obtain ⟨x2,e8,hM⟩:=bind_some hM;have F:=Zwg F (WZ e8);refine S1 ?_;refine mj (ι:=Bool) [1,6,7,8] [1] [] (fun i=>[(23,oB i)]) hM ?_ ?_
   ·intro e9 hM K11 hK11;exact au
   ·intro x3 hM;(try dsimp only at hM);exact au
  ·have F:=Zwg (nf F h6) (lF h6);exact au
 ·intro _ hM;dsimp only at hM;exact au
instance:HC 74 (Ty @Wv):=⟨Wv⟩
theorem VM (a0:Int) (r:Zb) (hM:Kr a0=some r):Ctr Tryz.prog 127 [.one (.int .i64 a0)] true [.agg (Zb.c r)]:=by
 unfold Kr at hM;refine Zr Tryz.func127 Tryz.ntmps127 Tryz.results127 fun N w0 hbad F=> ?_;exact au
instance:HC 127 (Ty @VM):=⟨VM⟩
theorem JT (k:Nat) (a0:ByteArray) (r:Bool) (hM:XQ k a0=some r):Ctr Tryz.prog 230 [.one (.str a0)] true [.one (.bool r)]:=by
 unfold XQ at hM;refine Zr Tryz.func230 Tryz.ntmps230 Tryz.results230 fun N w0 hbad F=> ?_;refine S1 ?_;refine mjE (ι:=Unit) [0] [] [] (fun i=>[]) hM ?_ ?_
 ·intro e1 hM hR1 K3 hK3;refine S1 ?_;refine Zc ?_;refine lp (ι:=Int) [0] [] [] (fun i=>[(3,oI i)]) (fun n i=>YW a0 n i=some e1) k 0 hM (by simp [YW]) ?_;intro KL4 nL4 x1 hL4 hM _;have hM:YW a0 (nL4+1) x1=some e1:=hM;rw [YW] at hM;refine Zg fun K5 hK5=> ?_;refine S1 ?_;refine Zn hM (fun h6 hM=> ?_) (fun h6 hM=> ?_)
  ·have F:=Zwg (nf F h6) (lT h6);refine Zi ?_;refine hK5 _ ?_;refine Zg fun K7 hK7=> ?_;refine Zc ?_;refine mj (ι:=Bool) [0,3] [] [] (fun i=>[(25,oB i)]) hM ?_ ?_
   ·intro e8 hM K10 hK10;exact au
   ·intro x2 hM;(try dsimp only at hM);exact au
  ·have F:=Zwg (nf F h6) (lF h6);exact au
 ·intro _ hM;dsimp only at hM;exact au
instance:HC 230 (Ty @JT):=⟨JT⟩
theorem Kl (k:Nat) (a0:ByteArray) (a1:Int) (r:Zh×Int×Bool) (hM:Qs k a0 a1=some r):Ctr Tryz.prog 219 [.one (.str a0),.one (.int .i64 a1)] true [.agg (Zh.c r.1),.one (.int .i64 r.2.1),.one (.bool r.2.2)]:=by
 unfold Qs at hM;refine Zr Tryz.func219 Tryz.ntmps219 Tryz.results219 fun N w0 hbad F=> ?_;refine S1 ?_;refine S1 ?_;obtain ⟨x1,e1,hM⟩:=bind_some hM;have F:=Zwg F (WZ e1);refine S1 ?_;refine Zg fun K2 hK2=> ?_;refine Zc ?_;refine mj (ι:=Bool) [0,1,4,7,8] [4] [] (fun i=>[(17,oB i)]) hM ?_ ?_
 ·intro e3 hM K5 hK5;exact au
 ·intro x2 hM;(try dsimp only at hM);refine Zn hM (fun h7 hM=> ?_) (fun h7 hM=> ?_)
  ·have F:=nf F h7;refine mj (ι:=Int) [0,1,4] [4] [] (fun i=>[(7,oI i)]) hM ?_ ?_
   ·intro e8 hM K10 hK10;refine Zc ?_;refine lp (ι:=Int) [0,1,4] [4] [] (fun i=>[(7,oI i)]) (fun n i=>QE a0 n i=some e8) k a1 hM (by simp [QE]) ?_;intro KL11 nL11 x4 hL11 hM _;have hM:QE a0 (nL11+1) x4=some e8:=hM;rw [QE] at hM;refine Zg fun K12 hK12=> ?_;refine mj (ι:=Bool) [0,1,4,7] [4] [] (fun i=>[(51,oB i)]) hM ?_ ?_
    ·intro e13 hM K15 hK15;exact au
    ·intro x5 hM;(try dsimp only at hM);exact au
   ·intro x3 hM;(try dsimp only at hM);exact au
  ·have F:=nf F h7;refine mj (ι:=Bool) [0,1,4,7,8] [4] [] (fun i=>[(65,oB i)]) hM ?_ ?_
   ·intro e28 hM K30 hK30;exact au
   ·intro x8 hM;(try dsimp only at hM);refine Zn hM (fun h32 hM=> ?_) (fun h32 hM=> ?_)
    ·have F:=nf F h32;refine mj (ι:=Int) [0,1,4] [4] [] (fun i=>[(7,oI i)]) hM ?_ ?_
     ·intro e33 hM K35 hK35;refine Zc ?_;refine lp (ι:=Int) [0,1,4] [4] [] (fun i=>[(7,oI i)]) (fun n i=>QD a0 n i=some e33) k a1 hM (by simp [QD]) ?_;intro KL36 nL36 x10 hL36 hM _;have hM:QD a0 (nL36+1) x10=some e33:=hM;rw [QD] at hM;refine Zg fun K37 hK37=> ?_;refine mj (ι:=Bool) [0,1,4,7] [4] [] (fun i=>[(87,oB i)]) hM ?_ ?_
      ·intro e38 hM K40 hK40;exact au
      ·intro x11 hM;(try dsimp only at hM);exact au
     ·intro x9 hM;(try dsimp only at hM);exact au
    ·have F:=nf F h32;refine S1 ?_;refine Zn hM (fun h51 hM=> ?_) (fun h51 hM=> ?_)
     ·have F:=nf F h51;exact au
     ·have F:=nf F h51;obtain ⟨x19,e66,hM⟩:=bind_some hM;obtain ⟨c67,s68⟩:=KW e66;replace c67:=c67.symm;subst c67;(try simp at s68);have F:=Zwg F s68;obtain ⟨x20,e71,hM⟩:=bind_some hM;refine Zs fun K h=> ?_;simp [go_sem,F];refine Qt false (XH (a0.extract a1.toNat (a0.size:Int).toNat) (⟨#[61,61]⟩:ByteArray) x20 e71) ?_;simp [go_sem,F];refine h _ ?_;refine Zn hM (fun h72 hM=> ?_) (fun h72 hM=> ?_)
      ·have F:=nf F h72;exact au
      ·have F:=nf F h72;refine Zi ?_;refine hK2 _ ?_;refine Zg fun K73 hK73=> ?_;refine le1 [0,1,4,8] [4] [] ?_;obtain ⟨x21,e74,hM⟩:=bind_some hM;obtain ⟨c75,s76⟩:=KW e74;replace c75:=c75.symm;subst c75;(try simp at s76);have F:=Zwg F s76;obtain ⟨x22,e79,hM⟩:=bind_some hM;refine ZJ [[],[],[],[2],[0,1,2,3],[],[0,1,2,3,4,5],[1000004],[7,1000004],[],[9],[9,10,1000004],[0,1,2,3,4,5,6,9,10],[0,1,2,3,4,5,6,7,8,9,10,12],[0,1,2,3,4,5,6,7,8,9,10,11,12,13]] mixed (by kernel_rfl) ?_;simp (maxSteps:=9999999) [go_sem,F];refine Qt false (XG (⟨#[40,41,91,93,44,43,45,42,60,61]⟩:ByteArray) (x1.toNat:Int) x22 e79) ?_;simp (maxSteps:=9999999) [go_sem,F];refine ⟨Zq (by kernel_rfl), ?_⟩;exact au
instance:HC 219 (Ty @Kl):=⟨Kl⟩
theorem Ju (k:Nat) (a0:ByteArray) (r:(List Zh)×Int) (hM:VJ k a0=some r):Ctr Tryz.prog 178 [.one (.str a0)] true [.one (.sl (r.1.map Zh.c)),.one (.int .i64 r.2)]:=by
 unfold VJ at hM;refine Zr Tryz.func178 Tryz.ntmps178 Tryz.results178 fun N w0 hbad F=> ?_;refine S1 ?_;refine Zg fun K1 hK1=> ?_;refine S1 ?_;refine Zn hM (fun h2 hM=> ?_) (fun h2 hM=> ?_)
 ·have F:=Zwg (nf F h2) (lT h2);exact au
 ·have F:=Zwg (nf F h2) (lF h2);refine Zi ?_;refine hK1 _ ?_;refine S1 ?_;refine mjE (ι:=List Zh) [] [] [] (fun i=>[(4,oO 768 i.length)]) hM ?_ ?_ (ca:=fun i=>[(768,aT Zh.c i)])
  ·intro e3 hM hR1 K5 hK5;refine S1 ?_;refine Zc ?_;refine lp (ι:=(List Zh)×Int) [0] [] [] (fun i=>[(4,oO 768 i.1.length),(5,oI i.2)]) (fun n i=>ZO k a0 n i.1 i.2=some e3) k (([]:List Zh),0) hM (by simp [ZO]) ?_ (ca:=fun i=>[(768,aT Zh.c i.1)]);intro KL6 nL6 ⟨x2,x3⟩ hL6 hM _;have hM:ZO k a0 (nL6+1) x2 x3=some e3:=hM;rw [ZO] at hM;refine Zg fun K7 hK7=> ?_;refine S1 ?_;refine Zn hM (fun h8 hM=> ?_) (fun h8 hM=> ?_)
   ·have F:=Zwg (nf F h8) (lT h8);refine Zi ?_;refine hK7 _ ?_;refine Zc ?_;refine Zg fun K9 hK9=> ?_;obtain ⟨x4,e10,hM⟩:=bind_some hM;have F:=Zwg F (WZ e10);refine S1 ?_;refine Zn hM (fun h11 hM=> ?_) (fun h11 hM=> ?_)
    ·have F:=nf F h11;exact au
    ·have F:=nf F h11;refine Zi ?_;refine hK9 _ ?_;obtain ⟨x5,e12,hM⟩:=bind_some hM;refine Zs fun K h=> ?_;simp [go_sem,F];refine Qt false (Kl k a0 x3 x5 e12) ?_;simp [go_sem,F];refine h _ ?_;refine Zg fun K13 hK13=> ?_;refine mj (ι:=Bool) [0,4,5,6,7] [6] [768] (fun i=>[(36,oB i)]) hM ?_ ?_
     ·intro e14 hM K16 hK16;exact au
     ·intro x6 hM;(try dsimp only at hM);exact au
   ·have F:=Zwg (nf F h8) (lF h8);exact au
  ·intro x1 hM;dsimp only at hM;exact au
instance:HC 178 (Ty @Ju):=⟨Ju⟩
theorem Y2 (a0:Zf) (r:Zh×Zf) (hM:Zy a0=some r):Zbj Tryz.prog 221 [] (Zf.c a0) [] true [.agg (Zh.c r.1)] (Zf.c r.2):=by
 unfold Zy at hM;refine Jz Tryz.func221 Tryz.ntmps221 Tryz.results221 fun N w0 hbad F=> ?_;refine S1 ?_;refine Zg fun K1 hK1=> ?_;refine mj (ι:=Bool) [0,2] [2,31] [] (fun i=>[(19,oB i)]) hM ?_ ?_
 ·intro e2 hM K4 hK4;rcases ifM hM with ⟨h5,hM⟩| ⟨h5,hM⟩
  ·have F:=Zwg (nf F h5) (lT h5);refine ZB 15 mixed (by kernel_rfl) (by kernel_rfl) ?_;simp [go_sem,F];exact au
  ·have F:=Zwg (nf F h5) (lF h5);refine ZB 15 mixed (by kernel_rfl) (by kernel_rfl) ?_;simp [go_sem,F];exact au
 ·intro x1 hM;(try dsimp only at hM);refine Zn hM (fun h6 hM=> ?_) (fun h6 hM=> ?_)
  ·have F:=nf F h6;refine Zg fun K7 hK7=> ?_;obtain ⟨x2,e8,hM⟩:=bind_some hM;have F:=Zwg F (WZ e8);refine ZB 8 mixed (by kernel_rfl) (by kernel_rfl) ?_;simp [go_sem,F];exact au
  ·have F:=nf F h6;exact au
instance:HC 221 (Ty @Y2):=⟨Y2⟩
theorem Ww (a0:Zh) (a1:ByteArray) (r:Bool) (hM:YA a0 a1=some r):Ctr Tryz.prog 220 [.agg (Zh.c a0),.one (.str a1)] true [.one (.bool r)]:=by
 unfold YA at hM;refine Zr Tryz.func220 Tryz.ntmps220 Tryz.results220 fun N w0 hbad F=> ?_;refine S1 ?_;refine mj (ι:=Bool) [] [] [] (fun i=>[(4,oB i)]) hM ?_ ?_
 ·intro e1 hM K3 hK3;exact au
 ·intro x1 hM;(try dsimp only at hM);exact au
instance:HC 220 (Ty @Ww):=⟨Ww⟩
theorem VH (a0:Zf) (r:Za×Zf) (hM:Ys a0=some r):Zbj Tryz.prog 265 [] (Zf.c a0) [] true [.agg (Za.c r.1)] (Zf.c r.2):=by
 unfold Ys at hM;refine Jz Tryz.func265 Tryz.ntmps265 Tryz.results265 fun N w0 hbad F=> ?_;refine S1 ?_;refine mj (ι:=Int) [2] [2] [] (fun i=>[]) hM ?_ ?_ (cb:=fun i=>[(16,[cL Zh.c a0.list,cI a0.at_,cI i])])
 ·intro e1 hM K3 hK3;exact au
 ·intro x1 hM;(try dsimp only at hM);exact au
instance:HC 265 (Ty @VH):=⟨VH⟩
theorem WG (k:Nat) (a0:Zf) (r:ByteArray×Zf) (hM:Yr k a0=some r):Zbj Tryz.prog 222 [] (Zf.c a0) [] true [.one (.str r.1)] (Zf.c r.2):=by
 unfold Yr at hM;refine Jz Tryz.func222 Tryz.ntmps222 Tryz.results222 fun N w0 hbad F=> ?_;refine S1 ?_;obtain ⟨x1,e1,hM⟩:=bind_some hM;refine Zs fun K h=> ?_;simp [go_sem,F];refine ZA 0 (Y2 a0 x1 e1) ?_;simp [go_sem,F];refine h _ ?_;refine Zg fun K2 hK2=> ?_;refine mj (ι:=Bool) [0,3] [3,26] [] (fun i=>[(14,oB i)]) hM ?_ ?_
 ·intro e3 hM K5 hK5;exact au
 ·intro x2 hM;(try dsimp only at hM);exact au
instance:HC 222 (Ty @WG):=⟨WG⟩
theorem Zbd (a0:Zh) (a1:ByteArray) (r:Bool) (hM:Ux a0 a1=some r):Ctr Tryz.prog 266 [.agg (Zh.c a0),.one (.str a1)] true [.one (.bool r)]:=by
 unfold Ux at hM;refine Zr Tryz.func266 Tryz.ntmps266 Tryz.results266 fun N w0 hbad F=> ?_;refine S1 ?_;refine mj (ι:=Bool) [] [] [] (fun i=>[(4,oB i)]) hM ?_ ?_
 ·intro e1 hM K3 hK3;exact au
 ·intro x1 hM;(try dsimp only at hM);exact au
instance:HC 266 (Ty @Zbd):=⟨Zbd⟩
theorem Yi (a0:Zf) (a1:ByteArray) (r:Zf) (hM:Zo a0 a1=some r):Zbj Tryz.prog 223 [] (Zf.c a0) [.one (.str a1)] true [] (Zf.c r):=by
 unfold Zo at hM;refine Jz Tryz.func223 Tryz.ntmps223 Tryz.results223 fun N w0 hbad F=> ?_;refine Zg fun K1 hK1=> ?_;refine mj (ι:=(List Zh)×Int×Int×Bool) [0] [] [] (fun i=>[(13,oB i.2.2.2)]) hM ?_ ?_ (cb:=fun i=>[(23,[cL Zh.c i.1,cI i.2.1,cI i.2.2.1])])
 ·intro e2 hM K4 hK4;exact au
 ·rintro ⟨x1,x2,x3,x4⟩ hM;dsimp only at hM;exact au
instance:HC 223 (Ty @Yi):=⟨Yi⟩
theorem Yy (a0:Zf) (a1:ByteArray) (r:Bool×Zf) (hM:Zj a0 a1=some r):Zbj Tryz.prog 225 [] (Zf.c a0) [.one (.str a1)] true [.one (.bool r.1)] (Zf.c r.2):=by
 unfold Zj at hM;refine Jz Tryz.func225 Tryz.ntmps225 Tryz.results225 fun N w0 hbad F=> ?_;exact au
instance:HC 225 (Ty @Yy):=⟨Yy⟩
theorem Jw (a0:Int) (r:ByteArray) (hM:JS a0=some r):Ctr Tryz.prog 226 [.one (.int .i64 a0)] true [.one (.str r)]:=by
 unfold JS at hM;refine Zr Tryz.func226 Tryz.ntmps226 Tryz.results226 fun N w0 hbad F=> ?_;exact au
instance:HC 226 (Ty @Jw):=⟨Jw⟩
theorem Zcm:∀(k:Nat),(∀(a0:Zf) (a1:ByteArray) (r:(List Za)×Zf) (hM:YJ k a0 a1=some r),Zbj Tryz.prog 311 [] (Zf.c a0) [.one (.str a1)] false [.one (.sl (r.1.map Za.c))] (Zf.c r.2))/\
  (∀(a0:Zf) (r:Za×Zf) (hM:Zv k a0=some r),Zbj Tryz.prog 289 [] (Zf.c a0) [] false [.agg (Za.c r.1)] (Zf.c r.2))/\
  (∀(a0:Zf) (r:Za×Zf) (hM:Zt k a0=some r),Zbj Tryz.prog 267 [] (Zf.c a0) [] false [.agg (Za.c r.1)] (Zf.c r.2))/\
  (∀(a0:Zf) (r:Za×Zf) (hM:ZW k a0=some r),Zbj Tryz.prog 224 [] (Zf.c a0) [] false [.agg (Za.c r.1)] (Zf.c r.2))/\
  (∀(a0:Zf) (r:Za×Zf) (hM:Zl k a0=some r),Zbj Tryz.prog 179 [] (Zf.c a0) [] false [.agg (Za.c r.1)] (Zf.c r.2)):=by
 intro k
 induction k with
 | zero=>exact ⟨by intro a0 a1 r hM;simp [YJ] at hM,by intro a0 r hM;simp [Zv] at hM,by intro a0 r hM;simp [Zt] at hM,by intro a0 r hM;simp [ZW] at hM,by intro a0 r hM;simp [Zl] at hM⟩
 | succ k ih=>
  obtain ⟨ih_i_parser_list2,ih_i_parser_atom,ih_i_parser_product,ih_i_parser_sum,ih_i_parser_expr⟩:=ih;refine ⟨?_, ?_, ?_, ?_, ?_⟩
  ·intro a0 a1 r hM;haveI:HC 311 _:=⟨ih_i_parser_list2⟩;haveI:HC 289 _:=⟨ih_i_parser_atom⟩;haveI:HC 267 _:=⟨ih_i_parser_product⟩;haveI:HC 224 _:=⟨ih_i_parser_sum⟩;haveI:HC 179 _:=⟨ih_i_parser_expr⟩;rw [YJ] at hM;refine Jz Tryz.func311 Tryz.ntmps311 Tryz.results311 fun N w0 hbad F=> ?_;refine S1 ?_;refine S1 ?_;refine Zg fun K1 hK1=> ?_;obtain ⟨x1,e2,hM⟩:=bind_some hM;refine Zs fun K h=> ?_;simp [go_sem,F];refine ZA 0 (Yy a0 a1 x1 e2) ?_;simp [go_sem,F];refine h _ ?_;refine Zn hM (fun h3 hM=> ?_) (fun h3 hM=> ?_)
   ·have F:=nf F h3;refine S1 ?_;obtain rfl:=si hM;refine le1 [] [27] [] ?_ (ch:=[(4,oL Za.c ([]:List Za))]);exact au
   ·have F:=nf F h3;refine Zi ?_;refine hK1 _ ?_;refine mj (ι:=(List Za)×(List Zh)×Int×Int) [] [] [] (fun i=>[(5,oO 384 i.1.length)]) hM ?_ ?_ (cb:=fun i=>[(27,[cL Zh.c i.2.1,cI i.2.2.1,cI i.2.2.2])]) (ca:=fun i=>[(384,aF Za.c i.1)])
    ·intro e4 hM K6 hK6;refine Zc ?_;refine Zom [384] (σ':=⟨27,[(0,.one (.box 27 0)),(1,.one (.l (.str a1))),(5,.one (.own 384 (([]:List Za).length)))],[(27,[.l (.sl (x1.2.list.map Zh.c)),.l (.int .i64 x1.2.at_),.l (.int .i64 x1.2.bad)])],[(384,some ⟨false,([]:List Za).map Za.c⟩)]⟩) ?_;refine lp (ι:=(List Zh)×Int×Int×(List Za)) [0,1] [] [] (fun i=>[(5,oO 384 i.2.2.2.length)]) (fun n i=>Yj (Zl k) a1 n i.1 i.2.1 i.2.2.1 i.2.2.2=some e4) k (x1.2.list,x1.2.at_,x1.2.bad,([]:List Za)) hM (by simp [Yj]) ?_ (cb:=fun i=>[(27,[cL Zh.c i.1,cI i.2.1,cI i.2.2.1])]) (ca:=fun i=>[(384,aF Za.c i.2.2.2)]);intro KL7 nL7 ⟨x6,x7,x8,x9⟩ hL7 hM _;have hM:Yj (Zl k) a1 (nL7+1) x6 x7 x8 x9=some e4:=hM;rw [Yj] at hM;exact au
    ·rintro ⟨x2,x3,x4,x5⟩ hM;dsimp only at hM;refine S1 ?_;obtain rfl:=si hM;refine le1 [] [27] [] ?_ (ch:=[(4,oL Za.c x2)]);exact au
  ·intro a0 r hM;haveI:HC 311 _:=⟨ih_i_parser_list2⟩;haveI:HC 289 _:=⟨ih_i_parser_atom⟩;haveI:HC 267 _:=⟨ih_i_parser_product⟩;haveI:HC 224 _:=⟨ih_i_parser_sum⟩;haveI:HC 179 _:=⟨ih_i_parser_expr⟩;rw [Zv] at hM;refine Jz Tryz.func289 Tryz.ntmps289 Tryz.results289 fun N w0 hbad F=> ?_;refine S1 ?_;obtain ⟨x1,e1,hM⟩:=bind_some hM;refine Zs fun K h=> ?_;simp [go_sem,F];refine ZA 0 (Y2 a0 x1 e1) ?_;simp [go_sem,F];refine h _ ?_;refine Zg fun K2 hK2=> ?_;refine Zc ?_;refine S1 ?_;refine Zn hM (fun h3 hM=> ?_) (fun h3 hM=> ?_)
   ·have F:=nf F h3;exact au
   ·have F:=nf F h3;refine S1 ?_;refine Zn hM (fun h4 hM=> ?_) (fun h4 hM=> ?_)
    ·have F:=nf F h4;exact au
    ·have F:=nf F h4;refine mj (ι:=Bool) [0,2,3] [2,3,94] [] (fun i=>[(35,oB i)]) hM ?_ ?_
     ·intro e5 hM K7 hK7;exact au
     ·intro x2 hM;(try dsimp only at hM);refine Zn hM (fun h10 hM=> ?_) (fun h10 hM=> ?_)
      ·have F:=nf F h10;exact au
      ·have F:=nf F h10;refine mj (ι:=Bool) [0,2,3] [2,3,94] [] (fun i=>[(54,oB i)]) hM ?_ ?_
       ·intro e11 hM K13 hK13;exact au
       ·intro x4 hM;(try dsimp only at hM);refine Zn hM (fun h16 hM=> ?_) (fun h16 hM=> ?_)
        ·have F:=nf F h16;refine S1 ?_;obtain ⟨x6,e17,hM⟩:=bind_some hM;refine Zs fun K h=> ?_;simp [go_sem,F];refine ZA 0 (Yi (Zf.mk x1.2.list (IntKind.i64.wrap (x1.2.at_+1)) x1.2.bad) (⟨#[40]⟩:ByteArray) x6 e17) ?_;simp [go_sem,F];refine h _ ?_;refine Zg fun K18 hK18=> ?_;refine le1 [0,2,3] [2,3,94] [] ?_;obtain ⟨x7,e19,hM⟩:=bind_some hM;refine ZJ [[1000094],[0,1000094],[],[2],[0,1,2,3],[0,1,2,3,4]] mixed (by kernel_rfl) ?_;simp [go_sem,F];refine ZA 0 (ih_i_parser_list2 x6 (⟨#[41]⟩:ByteArray) x7 e19) ?_;simp [go_sem,F];refine ⟨Zq (by kernel_rfl), ?_⟩;exact au
        ·have F:=nf F h16;obtain ⟨x8,e20,hM⟩:=bind_some hM;refine Zs fun K h=> ?_;simp [go_sem,F];refine ZA 0 (Yy x1.2 (⟨#[91]⟩:ByteArray) x8 e20) ?_;simp [go_sem,F];refine h _ ?_;refine Zn hM (fun h21 hM=> ?_) (fun h21 hM=> ?_)
         ·have F:=nf F h21;exact au
         ·have F:=nf F h21;obtain ⟨x10,e23,hM⟩:=bind_some hM;refine Zs fun K h=> ?_;simp [go_sem,F];refine ZA 0 (Yy x8.2 (⟨#[40]⟩:ByteArray) x10 e23) ?_;simp [go_sem,F];refine h _ ?_;refine Zn hM (fun h24 hM=> ?_) (fun h24 hM=> ?_)
          ·have F:=nf F h24;exact au
          ·have F:=nf F h24;refine Zi ?_;refine hK2 _ ?_;obtain ⟨x13,e27,hM⟩:=bind_some hM;refine Zs fun K h=> ?_;simp [go_sem,F];refine ZA 0 (VH x10.2 x13 e27) ?_;simp [go_sem,F];refine h _ ?_;obtain rfl:=si hM;refine le1 [2] [94] [] ?_ (cb:=[(2,bT (Za.c x13.1))]);exact au
  ·intro a0 r hM;haveI:HC 311 _:=⟨ih_i_parser_list2⟩;haveI:HC 289 _:=⟨ih_i_parser_atom⟩;haveI:HC 267 _:=⟨ih_i_parser_product⟩;haveI:HC 224 _:=⟨ih_i_parser_sum⟩;haveI:HC 179 _:=⟨ih_i_parser_expr⟩;rw [Zt] at hM;refine Jz Tryz.func267 Tryz.ntmps267 Tryz.results267 fun N w0 hbad F=> ?_;refine S1 ?_;obtain ⟨x1,e1,hM⟩:=bind_some hM;refine Zs fun K h=> ?_;simp [go_sem,F];refine ZA 0 (ih_i_parser_atom a0 x1 e1) ?_;simp [go_sem,F];refine h _ ?_;refine mj (ι:=Int×Int×ByteArray×(List Za)×(List Zh)×Int×Int) [2,3] [2] [] (fun i=>[]) hM ?_ ?_ (cb:=fun i=>[(3,[cI i.1,cI i.2.1,cS i.2.2.1,cL Za.c i.2.2.2.1]),(14,[cL Zh.c i.2.2.2.2.1,cI i.2.2.2.2.2.1,cI i.2.2.2.2.2.2])])
   ·intro e2 hM K4 hK4;refine Zc ?_;refine lp (ι:=(List Zh)×Int×Int×Int×Int×ByteArray×(List Za)) [0,2,3] [2] [] (fun i=>[]) (fun n i=>ZY (Zv k) n i.1 i.2.1 i.2.2.1 i.2.2.2.1 i.2.2.2.2.1 i.2.2.2.2.2.1 i.2.2.2.2.2.2=some e2) k (x1.2.list,x1.2.at_,x1.2.bad,x1.1.kind,x1.1.n,x1.1.text,x1.1.args) hM (by simp [ZY]) ?_ (cb:=fun i=>[(3,[cI i.2.2.2.1,cI i.2.2.2.2.1,cS i.2.2.2.2.2.1,cL Za.c i.2.2.2.2.2.2]),(14,[cL Zh.c i.1,cI i.2.1,cI i.2.2.1])]);intro KL5 nL5 ⟨x9,x10,x11,x12,x13,x14,x15⟩ hL5 hM _;have hM:ZY (Zv k) (nL5+1) x9 x10 x11 x12 x13 x14 x15=some e2:=hM;rw [ZY] at hM;refine Zg fun K6 hK6=> ?_;obtain ⟨x16,e7,hM⟩:=bind_some hM;refine Zs fun K h=> ?_;simp [go_sem,F];refine ZA 0 (Yy (Zf.mk x9 x10 x11) (⟨#[42]⟩:ByteArray) x16 e7) ?_;simp [go_sem,F];refine h _ ?_;refine Zn hM (fun h8 hM=> ?_) (fun h8 hM=> ?_)
    ·have F:=nf F h8;refine Zi ?_;refine hK6 _ ?_;refine Zc ?_;refine le1 [0,2,3] [2,3,14] [] ?_;obtain ⟨x17,e9,hM⟩:=bind_some hM;refine ZJ [[1000014],[],[1],[0,1,2],[0,1,2,3],[0,1,2,3,4]] mixed (by kernel_rfl) ?_;simp [go_sem,F];refine ZA 0 (ih_i_parser_atom x16.2 x17 e9) ?_;simp [go_sem,F];refine ⟨Zq (by kernel_rfl), ?_⟩;exact au
    ·have F:=nf F h8;exact au
   ·rintro ⟨x2,x3,x4,x5,x6,x7,x8⟩ hM;dsimp only at hM;exact au
  ·intro a0 r hM;haveI:HC 311 _:=⟨ih_i_parser_list2⟩;haveI:HC 289 _:=⟨ih_i_parser_atom⟩;haveI:HC 267 _:=⟨ih_i_parser_product⟩;haveI:HC 224 _:=⟨ih_i_parser_sum⟩;haveI:HC 179 _:=⟨ih_i_parser_expr⟩;rw [ZW] at hM;refine Jz Tryz.func224 Tryz.ntmps224 Tryz.results224 fun N w0 hbad F=> ?_;refine S1 ?_;obtain ⟨x1,e1,hM⟩:=bind_some hM;refine Zs fun K h=> ?_;simp [go_sem,F];refine ZA 0 (ih_i_parser_product a0 x1 e1) ?_;simp [go_sem,F];refine h _ ?_;refine mj (ι:=Int×Int×ByteArray×(List Za)×(List Zh)×Int×Int) [2,3] [2] [] (fun i=>[]) hM ?_ ?_ (cb:=fun i=>[(3,[cI i.1,cI i.2.1,cS i.2.2.1,cL Za.c i.2.2.2.1]),(25,[cL Zh.c i.2.2.2.2.1,cI i.2.2.2.2.2.1,cI i.2.2.2.2.2.2])])
   ·intro e2 hM K4 hK4;refine Zc ?_;refine lp (ι:=(List Zh)×Int×Int×Int×Int×ByteArray×(List Za)) [0,2,3] [2] [] (fun i=>[]) (fun n i=>YR (Zt k) n i.1 i.2.1 i.2.2.1 i.2.2.2.1 i.2.2.2.2.1 i.2.2.2.2.2.1 i.2.2.2.2.2.2=some e2) k (x1.2.list,x1.2.at_,x1.2.bad,x1.1.kind,x1.1.n,x1.1.text,x1.1.args) hM (by simp [YR]) ?_ (cb:=fun i=>[(3,[cI i.2.2.2.1,cI i.2.2.2.2.1,cS i.2.2.2.2.2.1,cL Za.c i.2.2.2.2.2.2]),(25,[cL Zh.c i.1,cI i.2.1,cI i.2.2.1])]);intro KL5 nL5 ⟨x9,x10,x11,x12,x13,x14,x15⟩ hL5 hM _;have hM:YR (Zt k) (nL5+1) x9 x10 x11 x12 x13 x14 x15=some e2:=hM;rw [YR] at hM;refine Zg fun K6 hK6=> ?_;refine S1 ?_;refine Zn hM (fun h7 hM=> ?_) (fun h7 hM=> ?_)
    ·have F:=Zwg (nf F h7) (lT h7);refine Zi ?_;refine hK6 _ ?_;refine Zc ?_;refine S1 ?_;refine mjE (ι:=(List Zh)×Int×Int×Int) [0,2,3] [2,3] [] (fun i=>[(4,oI i.2.2.2)]) hM ?_ ?_ (cb:=fun i=>[(25,[cL Zh.c i.1,cI i.2.1,cI i.2.2.1])])
     ·intro e8 hM hR2 K10 hK10;exact au
     ·rintro ⟨x16,x17,x18,x19⟩ hM;dsimp only at hM;refine le1 [0,2,3,4] [2,3,25] [] ?_;obtain ⟨x25,e16,hM⟩:=bind_some hM;refine ZJ [[1000025],[1000025],[],[2],[1,2,3],[0,1,2,3,4],[0,1,2,3,4,5]] mixed (by kernel_rfl) ?_;simp [go_sem,F];refine ZA 0 (ih_i_parser_product (Zf.mk x16 x17 x18) x25 e16) ?_;simp [go_sem,F];refine ⟨Zq (by kernel_rfl), ?_⟩;exact au
    ·have F:=Zwg (nf F h7) (lF h7);exact au
   ·rintro ⟨x2,x3,x4,x5,x6,x7,x8⟩ hM;dsimp only at hM;exact au
  ·intro a0 r hM;haveI:HC 311 _:=⟨ih_i_parser_list2⟩;haveI:HC 289 _:=⟨ih_i_parser_atom⟩;haveI:HC 267 _:=⟨ih_i_parser_product⟩;haveI:HC 224 _:=⟨ih_i_parser_sum⟩;haveI:HC 179 _:=⟨ih_i_parser_expr⟩;rw [Zl] at hM;refine Jz Tryz.func179 Tryz.ntmps179 Tryz.results179 fun N w0 hbad F=> ?_;refine S1 ?_;refine Zg fun K1 hK1=> ?_;refine Zc ?_;obtain ⟨x1,e2,hM⟩:=bind_some hM;obtain ⟨x2,e3,hM⟩:=bind_some hM;refine Zs fun K h=> ?_;simp [go_sem,F];refine ZA 0 (Y2 a0 x1 e2) ?_;simp [go_sem,F];refine Qt false (Ww x1.1 (⟨#[108,101,116]⟩:ByteArray) x2 e3) ?_;simp [go_sem,F];refine h _ ?_;refine Zn hM (fun h4 hM=> ?_) (fun h4 hM=> ?_)
   ·have F:=nf F h4;refine S1 ?_;obtain ⟨x3,e5,hM⟩:=bind_some hM;refine Zs fun K h=> ?_;simp [go_sem,F];refine ZA 0 (WG k (Zf.mk x1.2.list (IntKind.i64.wrap (x1.2.at_+1)) x1.2.bad) x3 e5) ?_;simp [go_sem,F];refine h _ ?_;obtain ⟨x4,e6,hM⟩:=bind_some hM;refine Zs fun K h=> ?_;simp [go_sem,F];refine ZA 0 (Yi x3.2 (⟨#[61]⟩:ByteArray) x4 e6) ?_;simp [go_sem,F];refine h _ ?_;refine Zg fun K7 hK7=> ?_;refine le1 [0,2,3] [2,3,133] [] ?_;obtain ⟨x5,e8,hM⟩:=bind_some hM;obtain ⟨x6,e9,hM⟩:=bind_some hM;obtain ⟨c10,s11⟩:=Z0 e9;replace c10:=c10.symm;subst c10;(try simp at s11);have F:=Zwg F s11;refine ZJ [[1000133],[0,1000133],[],[2],[2,3],[0,1,2,3,4],[0,1,2,3,4,5],[0,1,2,3,4,5,6]] mixed (by kernel_rfl) ?_;simp [go_sem,F];refine ZA 0 (ih_i_parser_expr x4 x5 e8) ?_;simp [go_sem,F];refine ⟨Zq (by kernel_rfl), ?_⟩;refine hK7 _ ?_;obtain ⟨x7,e13,hM⟩:=bind_some hM;refine Zs fun K h=> ?_;simp [go_sem,F];refine ZA 0 (Yi x5.2 (⟨#[105,110]⟩:ByteArray) x7 e13) ?_;simp [go_sem,F];refine h _ ?_;refine Zg fun K14 hK14=> ?_;refine le1 [0,2,3] [2,3,133] [] ?_ (ca:=[(1920,aF Za.c ([]++[x5.1]))]);obtain ⟨x8,e15,hM⟩:=bind_some hM;obtain ⟨x9,e16,hM⟩:=bind_some hM;obtain ⟨c17,s18⟩:=Z0 e16;replace c17:=c17.symm;subst c17;(try simp at s18);have F:=Zwg F s18;refine ZJ [[1000133],[0,1000133],[],[2],[2,3],[0,1,2,3,4],[0,1,2,3,4,5],[0,1,2,3,4,5,6]] mixed (by kernel_rfl) ?_;simp [go_sem,F];refine ZA 0 (ih_i_parser_expr x7 x8 e15) ?_;simp [go_sem,F];refine ⟨Zq (by kernel_rfl), ?_⟩;refine hK14 _ ?_;refine S1 ?_;obtain rfl:=si hM;refine le1 [2] [133] [] ?_ (cb:=[(2,[cI 7,cI 0,cS x3.1,cL Za.c (([]++[x5.1])++[x8.1])])]);exact au
   ·have F:=nf F h4;obtain ⟨x10,e20,hM⟩:=bind_some hM;obtain ⟨x11,e21,hM⟩:=bind_some hM;refine Zs fun K h=> ?_;simp [go_sem,F];refine ZA 0 (Y2 x1.2 x10 e20) ?_;simp [go_sem,F];refine Qt false (Ww x10.1 (⟨#[105,102]⟩:ByteArray) x11 e21) ?_;simp [go_sem,F];refine h _ ?_;refine Zn hM (fun h22 hM=> ?_) (fun h22 hM=> ?_)
    ·have F:=nf F h22;refine S1 ?_;refine S1 ?_;refine Zg fun K23 hK23=> ?_;refine le1 [0,2,4] [2,4,133] [] ?_;obtain ⟨x12,e24,hM⟩:=bind_some hM;obtain ⟨x13,e25,hM⟩:=bind_some hM;obtain ⟨c26,s27⟩:=Z0 e25;replace c26:=c26.symm;subst c26;(try simp at s27);have F:=Zwg F s27;refine ZJ [[1000133],[0,1000133],[],[2],[2,3],[0,1,2,3,4],[0,1,2,3,4,5],[0,1,2,3,4,5,6]] mixed (by kernel_rfl) ?_;simp [go_sem,F];refine ZA 0 (ih_i_parser_expr (Zf.mk x10.2.list (IntKind.i64.wrap (x10.2.at_+1)) x10.2.bad) x12 e24) ?_;simp [go_sem,F];refine ⟨Zq (by kernel_rfl), ?_⟩;refine hK23 _ ?_;obtain ⟨x14,e29,hM⟩:=bind_some hM;refine Zs fun K h=> ?_;simp [go_sem,F];refine ZA 0 (Yi x12.2 (⟨#[116,104,101,110]⟩:ByteArray) x14 e29) ?_;simp [go_sem,F];refine h _ ?_;refine Zg fun K30 hK30=> ?_;refine le1 [0,2,4] [2,4,133] [] ?_ (ca:=[(3776,aF Za.c ([]++[x12.1]))]);obtain ⟨x15,e31,hM⟩:=bind_some hM;obtain ⟨x16,e32,hM⟩:=bind_some hM;obtain ⟨c33,s34⟩:=Z0 e32;replace c33:=c33.symm;subst c33;(try simp at s34);have F:=Zwg F s34;refine ZJ [[1000133],[0,1000133],[],[2],[2,3],[0,1,2,3,4],[0,1,2,3,4,5],[0,1,2,3,4,5,6]] mixed (by kernel_rfl) ?_;simp [go_sem,F];refine ZA 0 (ih_i_parser_expr x14 x15 e31) ?_;simp [go_sem,F];refine ⟨Zq (by kernel_rfl), ?_⟩;refine hK30 _ ?_;obtain ⟨x17,e36,hM⟩:=bind_some hM;refine Zs fun K h=> ?_;simp [go_sem,F];refine ZA 0 (Yi x15.2 (⟨#[101,108,115,101]⟩:ByteArray) x17 e36) ?_;simp [go_sem,F];refine h _ ?_;refine Zg fun K37 hK37=> ?_;refine le1 [0,2,4] [2,4,133] [] ?_ (ca:=[(3776,aF Za.c (([]++[x12.1])++[x15.1]))]);obtain ⟨x18,e38,hM⟩:=bind_some hM;obtain ⟨x19,e39,hM⟩:=bind_some hM;obtain ⟨c40,s41⟩:=Z0 e39;replace c40:=c40.symm;subst c40;(try simp at s41);have F:=Zwg F s41;refine ZJ [[1000133],[0,1000133],[],[2],[2,3],[0,1,2,3,4],[0,1,2,3,4,5],[0,1,2,3,4,5,6]] mixed (by kernel_rfl) ?_;simp [go_sem,F];refine ZA 0 (ih_i_parser_expr x17 x18 e38) ?_;simp [go_sem,F];refine ⟨Zq (by kernel_rfl), ?_⟩;refine hK37 _ ?_;refine S1 ?_;obtain rfl:=si hM;refine le1 [2] [133] [] ?_ (cb:=[(2,[cI 8,cI 0,cS (⟨#[]⟩:ByteArray),cL Za.c ((([]++[x12.1])++[x15.1])++[x18.1])])]);exact au
    ·have F:=nf F h22;obtain ⟨x20,e43,hM⟩:=bind_some hM;obtain ⟨x21,e44,hM⟩:=bind_some hM;refine Zs fun K h=> ?_;simp [go_sem,F];refine ZA 0 (Y2 x10.2 x20 e43) ?_;simp [go_sem,F];refine Qt false (Ww x20.1 (⟨#[102,111,114]⟩:ByteArray) x21 e44) ?_;simp [go_sem,F];refine h _ ?_;refine Zn hM (fun h45 hM=> ?_) (fun h45 hM=> ?_)
     ·have F:=nf F h45;refine S1 ?_;obtain ⟨x22,e46,hM⟩:=bind_some hM;refine Zs fun K h=> ?_;simp [go_sem,F];refine ZA 0 (WG k (Zf.mk x20.2.list (IntKind.i64.wrap (x20.2.at_+1)) x20.2.bad) x22 e46) ?_;simp [go_sem,F];refine h _ ?_;obtain ⟨x23,e47,hM⟩:=bind_some hM;refine Zs fun K h=> ?_;simp [go_sem,F];refine ZA 0 (Yi x22.2 (⟨#[105,110]⟩:ByteArray) x23 e47) ?_;simp [go_sem,F];refine h _ ?_;refine Zg fun K48 hK48=> ?_;refine le1 [0,2,5] [2,5,133] [] ?_;obtain ⟨x24,e49,hM⟩:=bind_some hM;obtain ⟨x25,e50,hM⟩:=bind_some hM;obtain ⟨c51,s52⟩:=Z0 e50;replace c51:=c51.symm;subst c51;(try simp at s52);have F:=Zwg F s52;refine ZJ [[1000133],[0,1000133],[],[2],[2,3],[0,1,2,3,4],[0,1,2,3,4,5],[0,1,2,3,4,5,6]] mixed (by kernel_rfl) ?_;simp [go_sem,F];refine ZA 0 (ih_i_parser_expr x23 x24 e49) ?_;simp [go_sem,F];refine ⟨Zq (by kernel_rfl), ?_⟩;refine hK48 _ ?_;obtain ⟨x26,e54,hM⟩:=bind_some hM;refine Zs fun K h=> ?_;simp [go_sem,F];refine ZA 0 (Yi x24.2 (⟨#[100,111]⟩:ByteArray) x26 e54) ?_;simp [go_sem,F];refine h _ ?_;refine Zg fun K55 hK55=> ?_;refine le1 [0,2,5] [2,5,133] [] ?_ (ca:=[(6464,aF Za.c ([]++[x24.1]))]);obtain ⟨x27,e56,hM⟩:=bind_some hM;obtain ⟨x28,e57,hM⟩:=bind_some hM;obtain ⟨c58,s59⟩:=Z0 e57;replace c58:=c58.symm;subst c58;(try simp at s59);have F:=Zwg F s59;refine ZJ [[1000133],[0,1000133],[],[2],[2,3],[0,1,2,3,4],[0,1,2,3,4,5],[0,1,2,3,4,5,6]] mixed (by kernel_rfl) ?_;simp [go_sem,F];refine ZA 0 (ih_i_parser_expr x26 x27 e56) ?_;simp [go_sem,F];refine ⟨Zq (by kernel_rfl), ?_⟩;refine hK55 _ ?_;refine S1 ?_;obtain rfl:=si hM;refine le1 [2] [133] [] ?_ (cb:=[(2,[cI 9,cI 0,cS x22.1,cL Za.c (([]++[x24.1])++[x27.1])])]);exact au
     ·have F:=nf F h45;refine Zi ?_;refine hK1 _ ?_;obtain ⟨x29,e61,hM⟩:=bind_some hM;refine Zs fun K h=> ?_;simp [go_sem,F];refine ZA 0 (ih_i_parser_sum x20.2 x29 e61) ?_;simp [go_sem,F];refine h _ ?_;refine mjE (ι:=(List Zh)×Int×Int) [2,6] [2,6] [] (fun i=>[]) hM ?_ ?_ (cb:=fun i=>[(133,[cL Zh.c i.1,cI i.2.1,cI i.2.2])])
      ·intro e62 hM hR1 K64 hK64;refine S1 ?_;refine Zc ?_;refine lp (ι:=(List Zh)×Int×Int×Int) [0,2,6,115,116] [2,6] [7360] (fun i=>[(117,oI i.2.2.2)]) (fun n i=>Yf (ZW k) x29 n i.1 i.2.1 i.2.2.1 i.2.2.2=some e62) k (x29.2.list,x29.2.at_,x29.2.bad,0) hM (by simp [Yf]) ?_ (cb:=fun i=>[(133,[cL Zh.c i.1,cI i.2.1,cI i.2.2.1])]);intro KL65 nL65 ⟨x33,x34,x35,x36⟩ hL65 hM _;have hM:Yf (ZW k) x29 (nL65+1) x33 x34 x35 x36=some e62:=hM;rw [Yf] at hM;refine S1 ?_;refine Zg fun K66 hK66=> ?_;refine Zn hM (fun h67 hM=> ?_) (fun h67 hM=> ?_)
       ·have F:=Zwg (nf F h67) (lT h67);refine Zi ?_;refine hK66 _ ?_;refine Zg fun K68 hK68=> ?_;refine Zc ?_;obtain ⟨x37,e69,hM⟩:=bind_some hM;have F:=Zwg F (WZ e69);have F:=Zwg F (ZhY e69);have F:=nm F (Zvo e69);refine S1 ?_;obtain ⟨x38,e70,hM⟩:=bind_some hM;obtain ⟨x39,e71,hM⟩:=bind_some hM;refine Zs fun K h=> ?_;simp [go_sem,F];refine Qt false (Jw x37 x38 e70) ?_;simp [go_sem,F];refine ZA 0 (Yy (Zf.mk x33 x34 x35) x38 x39 e71) ?_;simp [go_sem,F];refine h _ ?_;refine Zn hM (fun h72 hM=> ?_) (fun h72 hM=> ?_)
        ·have F:=nf F h72;refine Zg fun K73 hK73=> ?_;refine le1 [0,2,6,8] [2,6,133] [] ?_;obtain ⟨x40,e74,hM⟩:=bind_some hM;refine ZJ [[1000133],[1000133],[],[2],[1,2,3],[0,1,2,3,4],[0,1,2,3,4,5]] mixed (by kernel_rfl) ?_;simp [go_sem,F];refine ZA 0 (ih_i_parser_sum x39.2 x40 e74) ?_;simp [go_sem,F];refine ⟨Zq (by kernel_rfl), ?_⟩;refine hK73 _ ?_;obtain rfl:=si hM;have hM:=hR1;clear hR1;dsimp only at hM;obtain rfl:=si hM;refine le1 [2] [133] [] ?_ (cb:=[(2,[cI 6,cI x37,cS (⟨#[]⟩:ByteArray),cL Za.c [x29.1,x40.1]])]);exact au
        ·have F:=nf F h72;exact au
       ·have F:=Zwg (nf F h67) (lF h67);exact au
      ·rintro ⟨x30,x31,x32⟩ hM;dsimp only at hM;exact au
theorem VI (k:Nat):∀(a0:Zf) (r:Za×Zf) (hM:Zl k a0=some r),Zbj Tryz.prog 179 [] (Zf.c a0) [] false [.agg (Za.c r.1)] (Zf.c r.2):=(Zcm k).2.2.2.2
instance:HC 179 (Ty @VI):=⟨VI⟩
end Go.Proofs.YtbkllghhcphkaaaGreatDoor
