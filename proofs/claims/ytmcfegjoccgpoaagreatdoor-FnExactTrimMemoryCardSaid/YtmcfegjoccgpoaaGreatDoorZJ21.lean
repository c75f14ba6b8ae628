import Derived.Test.YtmcfegjoccgpoaaGreatDoorZJ7
set_option linter.unusedSimpArgs false
set_option linter.unusedVariables false
set_option maxHeartbeats 4000000
set_option maxRecDepth 100000
namespace Go.Proofs.YtmcfegjoccgpoaaGreatDoor
open Go.Proofs.Tryz
open Go.RowKit Am
instance:UV 31 true JX:=⟨wK func31 ntmps31 results31 JX.eq_1 (hj [] [] [] (λ(i:Bool)=>[(6,oB i)]))⟩
instance:UV 188 true XY:=⟨wK func188 ntmps188 results188 XY.eq_1 (hU [0] [] [] (hl [0] [] [] 1 YU.eq_1 YU.eq_2 (λ(i:Int)=>[(3,oI i)]) (.i (hj [0,3] [] [] (λ(i:Bool)=>[(19,oB i)])) .e)))⟩
instance:UV 224 true Zdk:=⟨wK func224 ntmps224 results224 Zdk.eq_1 (hU [0] [] [] (hl [0] [] [] 1 V0.eq_1 V0.eq_2 (λ(i:Int)=>[(3,oI i)]) (.i (hj [0,3] [] [] (λ(i:Bool)=>[(4,oB i)]) .e (hj [0,3,4] [] [] (λ(i:Bool)=>[(5,oB i)]) .e (hj [0,3] [] [] (λ(i:Bool)=>[(41,oB i)])))) .e)))⟩
instance:UV 265 true Q0:=⟨wK func265 ntmps265 results265 Q0.eq_1 .e⟩
instance:UV 240 true ZbX:=⟨wK func240 ntmps240 results240 ZbX.eq_1 (hU [] [] [] (hl [0,1] [] [] 1 V3.eq_1 V3.eq_2 (λ(i:Int)=>[(5,oI i)])))⟩
instance:UV 225 true JE:=⟨wK func225 ntmps225 results225 JE.eq_1 .e⟩
instance:UV 189 true Z7:=⟨wK func189 ntmps189 results189 Z7.eq_1 (hj [] [] [] (λ(i:Bool)=>[(2,oB i)]))⟩
instance:UV 155 true Ql:=⟨wK func155 ntmps155 results155 Ql.eq_1 (hj [1] [1] [] (λ(i:Bool)=>[(18,oB i)]) .e (.i .e (.i (hj [] [] [] (λ(i:Bool)=>[(2,oB i)])) (hj [1,20] [1] [] (λ(i:Bool)=>[(31,oB i)]) .e (.i (hj [] [] [] (λ(i:Bool)=>[(2,oB i)])) (.i (hj [] [] [] (λ(i:Bool)=>[(2,oB i)])) .e))))))⟩
instance:UV 108 true YD:=⟨wK func108 ntmps108 results108 YD.eq_1 (hU [] [] [] (hl [1,2] [2] [] 1 YM.eq_1 YM.eq_2 (λ(i:Int)=>[(5,oI i)])))⟩
instance:UV 115 true Xy:=⟨wK func115 ntmps115 results115 Xy.eq_1 (hU [1] [1] [] (hl [1] [1] [] 1 YS.eq_1 YS.eq_2 (λ(i:Int)=>[(3,oI i)]) (.i (hj [1,3] [1] [] (λ(i:Bool)=>[(29,oB i)]) (hq 17)) .e)))⟩
theorem ZeR (a0:Int) (r:Bool) (hM:UL a0=some r):Ctr Tryz.prog 266 [.one (.int .u8 a0)] true [.one (.bool r)]:=by
 unfold UL at hM;exact wM func266 ntmps266 results266 (hj [] [] [] (λ(i:Bool)=>[(2,oB i)]))
instance:HC 266 (Ty @ZeR):=⟨ZeR⟩
theorem Zge (a0:Int) (r:Bool) (hM:Jz a0=some r):Ctr Tryz.prog 267 [.one (.int .u8 a0)] true [.one (.bool r)]:=by
 unfold Jz at hM;exact wM func267 ntmps267 results267 (hj [] [] [] (λ(i:Bool)=>[(2,oB i)]))
instance:HC 267 (Ty @Zge):=⟨Zge⟩
instance:UV 299 true KF:=⟨wK func299 ntmps299 results299 KF.eq_1 (.i .e (hj [3] [] [] (λ(i:Ma)=>[(4,oS i)]) (hl [3] [] [] 2 Yc.eq_1 Yc.eq_2 (λ(i:Int×Ma)=>[(0,oI i.1),(4,oS i.2)]) (.i (hj [0,3,4] [] [] (λ(i:Int)=>[(5,oI i)])) .e))))⟩
instance:UV 275 true Zgk:=⟨wK func275 ntmps275 results275 Zgk.eq_1 (hj [0,1] [] [] (λ(i:Bool)=>[(6,oB i)]) .e (hj [0,1,6] [] [] (λ(i:Ma)=>[(7,oS i)]) .e (hj [0,6,7] [] [] (λ(i:Bool)=>[(30,oB i)]) .e (.i .e (hJ [0,6] [] [] (λ(i:Int)=>[(8,oI i)]) (hl [0,6,7] [] [] 2 VH.eq_1 VH.eq_2 (λ(i:Int×Int)=>[(8,oI i.1),(9,oI i.2)]) (.i (hj [0,6,7,8,9] [] [] (λ(i:Bool)=>[(46,oB i)])) .e)) (hj [0] [] [] (λ(i:Int)=>[(8,oI i)])))))))⟩
instance:UV 234 true W8:=⟨wK func234 ntmps234 results234 W8.eq_1 .e⟩
instance:UV 236 true XX:=⟨wK func236 ntmps236 results236 XX.eq_1 (hU [0] [] [] (hl [0] [] [] 1 QQ.eq_1 QQ.eq_2 (λ(i:Int)=>[(3,oI i)]) (.i (hj [0,3] [] [] (λ(i:Bool)=>[(25,oB i)])) .e)))⟩
instance:UV 268 true Kf:=⟨wK func268 ntmps268 results268 Kf.eq_1 (hj [0,1,7] [] [] (λ(i:Bool)=>[(8,oB i)]) .e (.i .e (.i (hj [] [] [] (λ(i:Bool)=>[(31,oB i)])) .e)))⟩
instance:UV 226 true Xq:=⟨wK func226 ntmps226 results226 Xq.eq_1 (hJz [1,4,6] [4] [] [0] (λ(i:Int×Int×Ma×Int)=>[(7,oI i.2.2.2)]) (.i (hj [0,1,4,6] [4,6] [] (λ(i:Int)=>[(7,oI i)]) (hl [0,1,4,6] [4,6] [] 1 Wz.eq_1 Wz.eq_2 (λ(i:Int)=>[(7,oI i)]) (hj [0,1,4,6,7] [4,6] [] (λ(i:Bool)=>[(44,oB i)])))) (.i (hj [0,1,4,6] [4,6] [] (λ(i:Int)=>[(7,oI i)]) (hl [0,1,4,6] [4,6] [] 1 Wy.eq_1 Wy.eq_2 (λ(i:Int)=>[(7,oI i)]) (hj [0,1,4,6,7] [4,6] [] (λ(i:Bool)=>[(72,oB i)]))) (hj [1,4,6,7] [4,6] [] (λ(i:Bool)=>[(91,oB i)]))) (.i (hj [0,1,4,6] [4,6] [] (λ(i:Int)=>[(7,oI i)]) (hl [0,1,4,6] [4,6] [] 1 Wx.eq_1 Wx.eq_2 (λ(i:Int)=>[(7,oI i)]) (hj [0,1,4,6,7] [4,6] [] (λ(i:Bool)=>[(109,oB i)]))) (hj [1,4,6,7] [4,6] [] (λ(i:Bool)=>[(128,oB i)]))) .e))) (cb:=λi=>[(6,[cI i.1,cI i.2.1,.any,cS i.2.2.1])]))⟩
instance:UV 190 true UU:=⟨wK func190 ntmps190 results190 UU.eq_1 (.i .e (hJ [] [] [] (λ(i:List Zj)=>[(4,oO 768 i.length)]) (hl [0] [] [] 2 Yf.eq_1 Yf.eq_2 (λ(i:(List Zj)×Int)=>[(4,oO 768 i.1.length),(5,oI i.2)]) (.i (.i .e (hj [0,4,5,6,7] [6] [768] (λ(i:Bool)=>[(35,oB i)]))) .e) (ca:=λi=>[(768,aT Zj.c i.1)])) (ca:=λi=>[(768,aT Zj.c i)])))⟩
instance:UV 269 true Va:=⟨wK func269 ntmps269 results269 Va.eq_1 (hj [] [] [] (λ(i:Bool)=>[(4,oB i)]))⟩
instance:UV 270 true KE:=⟨wK func270 ntmps270 results270 KE.eq_1 (hj [] [] [] (λ(i:Bool)=>[(4,oB i)]))⟩
theorem Zgq (a0:Zd) (a1:Ma) (r:Bool×Zd) (hM:Zt a0 a1=some r):ZeC Tryz.prog 227 [] (Zd.c a0) [.one (.str a1)] true [.one (.bool r.1)] (Zd.c r.2):=by
 unfold Zt at hM;exact wP func227 ntmps227 results227 (hj [] [50] [] (λ(i:Bool)=>[(4,oB i)]) (hq 42))
instance:HC 227 (Ty @Zgq):=⟨Zgq⟩
theorem Zgs (a0:Zd) (r:Zc×Zd) (hM:Y1 a0=some r):ZeC Tryz.prog 192 [] (Zd.c a0) [] true [.agg (Zc.c r.1)] (Zd.c r.2):=by
 unfold Y1 at hM;exact wP func192 ntmps192 results192 (hjz [2] [2] [] [0] (λ(i:Int)=>[]) (.i (hq 9 (.i (hq 12) .e)) .e) (cb:=λi=>[(40,[.any,.any,.any,cI i])]))
instance:HC 192 (Ty @Zgs):=⟨Zgs⟩
theorem Zgr (k:Nat) (a0:Zd) (r:Ma×Zd) (hM:X5 k a0=some r):ZeC Tryz.prog 228 [] (Zd.c a0) [] true [.one (.str r.1)] (Zd.c r.2):=by
 unfold X5 at hM;exact wP func228 ntmps228 results228 (hj [0] [71] [] (λ(i:Bool)=>[(48,oB i)]) (hq 40) (.i .e (hq 9)))
instance:HC 228 (Ty @Zgr):=⟨Zgr⟩
theorem Zgp (a0:Zd) (a1:Ma) (r:Zd) (hM:ZH a0 a1=some r):ZeC Tryz.prog 229 [] (Zd.c a0) [.one (.str a1)] true [] (Zd.c r):=by
 unfold ZH at hM;exact wP func229 ntmps229 results229 .e
instance:HC 229 (Ty @Zgp):=⟨Zgp⟩
instance:UV 343 true Zgu:=⟨wK func343 ntmps343 results343 Zgu.eq_1 .e⟩
instance:UV 344 true Zdo:=⟨wK func344 ntmps344 results344 Zdo.eq_1 .e⟩
instance:UV 298 true Yi:=⟨wK func298 ntmps298 results298 Yi.eq_1 (.i .e (hj [3] [] [] (λ(i:Bool)=>[(6,oB i)]) .e (.i .e (hj [3] [] [] (λ(i:Bool)=>[(12,oB i)]) .e (.i .e (hj [3] [] [] (λ(i:Bool)=>[(20,oB i)])))))))⟩
theorem QX:kT Tryz.prog 52 true Z6:=wK func52 ntmps52 results52 Z6.eq_1 (hU [] [] [] (hl [1,8,9] [] [] 1 XF.eq_1 XF.eq_2 (λ(i:Int)=>[(10,oI i)])))
instance:HC 52 (Ty @QX):=⟨QX⟩
instance:UV 221 true Uq:=⟨wK func221 ntmps221 results221 Uq.eq_1 (.i .e (hU [] [] [] (hl [0,1,12] [] [] 1 QS.eq_1 QS.eq_2 (λ(i:Int)=>[(13,oI i)]) (.i (hq 8) .e))))⟩
instance:UV 145 true U7:=⟨wK func145 ntmps145 results145 U7.eq_1 (.i .e (hU [] [] [] (hl [0,1,12] [] [] 1 Vc.eq_1 Vc.eq_2 (λ(i:Int)=>[(13,oI i)]) (.i (hq 8) .e))))⟩
instance:UV 222 true Ur:=⟨wK func222 ntmps222 results222 Ur.eq_1 (.i .e (hU [] [] [] (hl [0,1,12] [] [] 1 QT.eq_1 QT.eq_2 (λ(i:Int)=>[(13,oI i)]) (.i (hq 8) .e))))⟩
theorem ZpG:∀(k:Nat),(kT Tryz.prog 185 true (KN k)):=by
 intro k
 induction k with
 | zero=>(repeat intro hM);simp [KN] at hM
 | succ k j=>
  ·haveI:HC 185 _:=⟨j⟩;exact wK func185 ntmps185 results185 KN.eq_2 (hj [2,3,4] [3,4] [] (λ(i:Bool)=>[(60,oB i)]) .e (.i .e (hU [2,3,4] [3,4] [] (hl [2,3,4,63] [3,4] [] 1 Kk.eq_1 Kk.eq_2 (λ(i:Int)=>[(64,oI i)]) (.i (hq 11) .e)) (hU [] [] [] (hl [2,3,4,83] [3,4] [] 1 Ja.eq_1 Ja.eq_2 (λ(i:Int)=>[(84,oI i)]) (.i (hj [2,3,4,83,84] [3,4] [] (λ(i:Bool)=>[(119,oB i)]) (hq 29)) .e))))))
theorem Zj4 (k:Nat):kT Tryz.prog 185 true (KN k):=(ZpG k)
instance:HC 185 (Ty @Zj4):=⟨Zj4⟩
instance:UV 144 true XQ:=⟨wK func144 ntmps144 results144 XQ.eq_1 .e⟩
theorem ZdI:kT Tryz.prog 176 true Ut:=wK func176 ntmps176 results176 Ut.eq_1 (hU [] [] [] (hl [1,7,8] [] [] 1 U9.eq_1 U9.eq_2 (λ(i:Int)=>[(9,oI i)])))
instance:HC 176 (Ty @ZdI):=⟨ZdI⟩
theorem ZdF:kT Tryz.prog 262 true Zeu:=wK func262 ntmps262 results262 Zeu.eq_1 (hj [] [] [] (λ(i:List Int)=>[(4,oO 512 i.length)]) (hl [3,9,10] [] [] 3 U6.eq_1 U6.eq_2 (λ(i:(List (Int×Bool))×(List Int)×Int)=>[(4,oO 512 i.2.1.length),(11,oI i.2.2)]) (.i (hj [3,9,10,11] [] [] (λ(i:(List (Int×Bool))×(List Int))=>[(4,oO 512 i.2.length)]) (ca:=λi=>[(512,aT iC i.2)]) (cb:=λi=>[(7,[.mc (.ib i.1)])])) .e) (ca:=λi=>[(512,aT iC i.2.1)]) (cb:=λi=>[(7,[.mc (.ib i.1)])])) (ca:=λi=>[(512,aT iC i)]))
instance:HC 262 (Ty @ZdF):=⟨ZdF⟩
theorem Zh1 (a0:Ma) (a1:List Ma) (j:List Ma) (r:List Ma) (hM:J7 a0 a1 j=some r):GC Tryz.prog 178 9 [.one (.l (.str a0)),.one (.l (.sl (a1.map sC))),.one (.box 9 0)] [(9,[.own 31000 j.length])] [(31000,some ⟨false,j.map sC⟩)] (.tup []) [(9,[.own 30000 r.length])] [(30000,some ⟨false,r.map sC⟩)]:=by
 unfold J7 at hM;refine GC.XZ WP func178 rfl ntmps178 results178 Ha λN w0 hbad=> ?_;have F:=True.intro;simp only [Zac];refine Zhr λp l=> ?_;obtain ⟨s,o,hM⟩:=bind_some hM;obtain ⟨k,m⟩:=Vm o;replace k:=k.symm;subst k;(try simp at m);have F:=ZEJ F m;refine Zx ?_;simp [go_sem,F];obtain rfl:=si hM;exact rn l [] [(31000,30000)] [] [9] [] (ca:=[(31000,aF sC (j++[a0]))])
instance:UV 218 true KQ:=⟨wK func218 ntmps218 results218 KQ.eq_1 (hU [] [] [] (hl [1,7,8] [] [] 1 XP.eq_1 XP.eq_2 (λ(i:Int)=>[(9,oI i)])))⟩
theorem ZgU:∀(k:Nat),(∀(a1:Zc) (a2:List Ma) (l:List Ma) (r:List Ma) (hM:Yd k a1 a2 l=some r),GC Tryz.prog 179 82 [.one (.box 82 0),.agg [.l (.int .i64 a1.kind),.l (.int .i64 a1.n),.l (.str a1.text),.l (.sl (a1.args.map Zc.c))],.one (.l (.sl (a2.map sC)))] [(82,[.clo 178 [83],.nf]),(83,[.own 31000 l.length])] [(31000,some ⟨false,l.map sC⟩)] (.tup []) [(82,[.clo 178 [83],.nf]),(83,[.own 30000 r.length])] [(30000,some ⟨false,r.map sC⟩)]):=by
 intro k
 induction k with
 | zero=>intro a1 a2 l r hM;simp [Yd] at hM
 | succ k j=>
  ·intro a1 a2 l r hM;rw [Yd] at hM;refine GC.XZ WP func179 rfl ntmps179 results179 Ha λN w0 hbad=> ?_;have F:=True.intro;simp only [Zac];refine Zhr λK0 S=> ?_;refine S1 ?_;refine mjE (ι:=Unit) [0,2,4] [4,82,83] [31000] (λi=>[]) hM ?_ ?_
   ·intro e1 hM hR1 K3 c3;refine mj (ι:=Bool) [0,2,4] [4,82,83] [31000] (λi=>[(19,oB i)]) hM ?_ ?_
    ·intro e4 hM K6 c4;exact au
    ·intro x1 hM;(try dsimp only at hM);refine Yh hM (λR hM=> ?_) (λR hM=> ?_)
     ·have F:=nf F R;refine Zp λK h=> ?_;simp [go_sem,F];refine Zys ?_;simp [go_sem,F];refine h _ ?_;refine Zqb (b:=true) (by simp [go_sem,F]) (λt=> ?_) (λt=> ?_)
      ·skip;refine Zr λb0 w=> ?_;obtain ⟨x3,J,hM⟩:=bind_some hM;refine QL 7 mixed WP WP ?_;simp [go_sem,F];refine Zou ?_;simp [go_sem,F];refine Zrb [] (ren [(31000,31000)]) (ren [(9,83)]) (ren [(30000,2048)]) (Zh1 a1.text a2 l x3 J) ?_;simp [go_sem,F];refine w _ ?_;obtain rfl:=si hM;have hM:=hR1
       clear hR1;dsimp only at hM;obtain rfl:=si hM;refine rr [] [(2048,30000)] [] [82,83] [2048] ?_;exact au
      ·cases t
     ·have F:=nf F R;exact au
   ·intro _ hM;dsimp only at hM;refine mj (ι:=Bool) [0,2,4] [4,82,83] [31000] (λi=>[(6,oB i)]) hM ?_ ?_
    ·intro b8 hM b1 U;exact au
    ·intro x4 hM;(try dsimp only at hM);refine mj (ι:=Unit) [0,2,4,6] [4,82,83] [31000] (λi=>[]) hM ?_ ?_
     ·intro b9 hM b2 W;refine mj (ι:=Unit) [0,2,4,6] [4,82,83] [31000] (λi=>[(48,oB false)]) hM ?_ ?_
      ·intro c0 hM b3 X;exact au
      ·intro _ hM;(try dsimp only at hM);exact au
     ·intro _ hM;(try dsimp only at hM);refine S1 ?_;refine Y5 ?_;refine lp (ι:=(List Ma)×Int) [0,2,4,6,57,58] [4,82] [] (λi=>[(59,oI i.2)]) (λn i=>Ym (Yd k) a1 a2 x4 n i.1 i.2=some r) k (l,0) hM (by simp [Ym]) ?_ (cb:=λi=>[(83,[.own 31000 i.1.length])]) (ca:=λi=>[(31000,aF sC i.1)]);intro T C ⟨x5,x6⟩ B hM _;have hM:Ym (Yd k) a1 a2 x4 (C+1) x5 x6=some r:=hM;rw [Ym] at hM;refine S1 ?_;refine Zr λb4 z=> ?_;refine Yh hM (λm hM=> ?_) (λm hM=> ?_)
      ·have F:=ZEJ (nf F m) (lT m);refine Zv ?_;refine z _ ?_;refine Zr λb5 A=> ?_;refine Y5 ?_;obtain ⟨x7,M,hM⟩:=bind_some hM;have F:=ZEJ F (Zaw M);refine S1 ?_;refine S1 ?_;refine mj (ι:=List Ma) [0,2,4,6,8,57,58,59] [4,8,82,83] [31000] (λi=>[(9,oL sC i)]) hM ?_ ?_
       ·intro c1 hM b6 Y;refine mj (ι:=Bool) [0,2,4,6,8,9,57,58,59] [4,8,82,83] [31000] (λi=>[(69,oB i)]) hM ?_ ?_
        ·intro c2 hM b7 Z;exact au
        ·intro x9 hM;(try dsimp only at hM);refine Yh hM (λs hM=> ?_) (λs hM=> ?_)
         ·have F:=nf F s;refine le1 [0,2,4,6,8,57,58,59] [4,8,82,83] [31000] ?_;obtain ⟨c5,O,hM⟩:=bind_some hM;obtain ⟨o,E⟩:=Vm O;replace o:=o.symm;subst o;(try simp at E);have F:=ZEJ F E;obtain ⟨c6,P,hM⟩:=bind_some hM;obtain ⟨p,G⟩:=Vm P;replace p:=p.symm;subst p;(try simp at G);have F:=ZEJ F G;refine KY [[],[],[0,1],[10004480],[3],[3,4],[0,1,2,3,4,5],[0,1,2,3,4,5,6]] mixed WP ?_;simp [go_sem,F];refine ⟨XI WP, ?_⟩;exact au
         ·have F:=nf F s;exact au
       ·intro x8 hM;(try dsimp only at hM);obtain ⟨I,Q,hM⟩:=bind_some hM;refine Zx ?_;simp [go_sem,F];refine Zho [] (ren [(31000,31000)]) (ren [(82,82),(83,83)]) (ren [(30000,5120)]) (j x7 x8 x5 I Q) ?_;simp [go_sem,F];refine A _ ?_;refine Zx ?_;simp [go_sem,F];exact fr B [(5120,31000)] [0,2,4,6,57,58,59] [4,82,83] [5120] (I,(GZ (x6+1))) hM
      ·have F:=ZEJ (nf F m) (lF m);refine Zm1 ?_;obtain rfl:=si hM;exact rn S [] [(31000,30000)] [] [82,83] [31000]
theorem ZgT (k:Nat):∀(a1:Zc) (a2:List Ma) (j:List Ma) (r:List Ma) (hM:Yd k a1 a2 j=some r),GC Tryz.prog 179 82 [.one (.box 82 0),.agg [.l (.int .i64 a1.kind),.l (.int .i64 a1.n),.l (.str a1.text),.l (.sl (a1.args.map Zc.c))],.one (.l (.sl (a2.map sC)))] [(82,[.clo 178 [83],.nf]),(83,[.own 31000 j.length])] [(31000,some ⟨false,j.map sC⟩)] (.tup []) [(82,[.clo 178 [83],.nf]),(83,[.own 30000 r.length])] [(30000,some ⟨false,r.map sC⟩)]:=(ZgU k)
instance:UV 180 true Je:=⟨wK func180 ntmps180 results180 Je.eq_1 (hj [] [] [] (λ(i:List Ma)=>[(3,oO 384 i.length)]) (hl [0,7,8] [] [] 2 Wr.eq_1 Wr.eq_2 (λ(i:(List Ma)×Int)=>[(3,oO 384 i.1.length),(9,oI i.2)]) (.i (hj [0,7,8,9] [] [] (λ(i:List Ma)=>[(3,oO 384 i.length)]) (ca:=λi=>[(384,aT sC i)])) .e) (ca:=λi=>[(384,aT sC i.1)])) (ca:=λi=>[(384,aT sC i)]))⟩
instance:UV 135 true Xa:=⟨wK func135 ntmps135 results135 Xa.eq_1 .e⟩
end Go.Proofs.YtmcfegjoccgpoaaGreatDoor
