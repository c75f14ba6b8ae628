import Derived.Test.YtpblakfidofgfaaGreatDoorZJ6
import Derived.Test.YtpblakfidofgfaaGreatDoorZCt4
set_option linter.unusedSimpArgs false
set_option linter.unusedVariables false
namespace Go.Proofs.YtpblakfidofgfaaGreatDoor
open Go.RowKit Am
set_option maxHeartbeats 4000000
set_option maxRecDepth 100000
theorem Zf1 (a0:ByteArray) (a1:List ByteArray) (a20:List ByteArray) (r:List ByteArray) (hM:UT a0 a1 a20=some r):GC Tryz.prog 193 9 [.one (.l (.str a0)),.one (.l (.sl (a1.map sC))),.one (.box 9 0)] [(9,[.own 31000 a20.length])] [(31000,some ⟨false,a20.map sC⟩)] (.tup []) [(9,[.own 30000 r.length])] [(30000,some ⟨false,r.map sC⟩)]:=by
 unfold UT at hM;refine GC.Xt (by kernel_rfl) Tryz.func193 rfl Tryz.ntmps193 Tryz.results193 (by simp) fun N w0 hbad=> ?_;have F:=True.intro;simp only [JN];refine ZfE fun K0 hK0=> ?_;obtain ⟨x1,e1,hM⟩:=bind_some hM;obtain ⟨c2,s3⟩:=WG e1;replace c2:=c2.symm;subst c2;(try simp at s3);have F:=ZAa F s3;refine WM ?_;simp [go_sem,F];obtain rfl:=si hM;exact rn hK0 [] [(31000,30000)] [] [9] [] (ca:=[(31000,aF sC (a20++[a0]))])
set_option maxHeartbeats 4000000
set_option maxRecDepth 100000
theorem Zfq:kT Tryz.prog 231 true Jy:=wK Tryz.func231 Tryz.ntmps231 Tryz.results231 Jy.eq_1 (hU [] [] [] (hl [1,7,8] [] [] 1 Xm.eq_1 Xm.eq_2 (fun (i:Int)=>[(9,oI i)])))
instance:HC 231 (Ty @Zfq):=⟨Zfq⟩
set_option maxHeartbeats 4000000
set_option maxRecDepth 100000
theorem Zfe:∀(k:Nat),(∀(a1:Zb) (a2:List ByteArray) (a20:List ByteArray) (r:List ByteArray) (hM:ZV k a1 a2 a20=some r),GC Tryz.prog 194 82 [.one (.box 82 0),.agg [.l (.int .i64 a1.kind),.l (.int .i64 a1.n),.l (.str a1.text),.l (.sl (a1.args.map Zb.c))],.one (.l (.sl (a2.map sC)))] [(82,[.clo 193 [83],.nf]),(83,[.own 31000 a20.length])] [(31000,some ⟨false,a20.map sC⟩)] (.tup []) [(82,[.clo 193 [83],.nf]),(83,[.own 30000 r.length])] [(30000,some ⟨false,r.map sC⟩)]):=by
 intro k
 induction k with
 | zero=>intro a1 a2 a20 r hM;simp [ZV] at hM
 | succ k ih_i_walker_visit=>
  ·intro a1 a2 a20 r hM;rw [ZV] at hM;refine GC.Xt (by kernel_rfl) Tryz.func194 rfl Tryz.ntmps194 Tryz.results194 (by simp) fun N w0 hbad=> ?_;have F:=True.intro;simp only [JN];refine ZfE fun K0 hK0=> ?_;refine S1 ?_;refine mjE (ι:=Unit) [0,2,4] [4,82,83] [31000] (fun i=>[]) hM ?_ ?_
   ·intro e1 hM hR1 K3 hK3;refine mj (ι:=Bool) [0,2,4] [4,82,83] [31000] (fun i=>[(19,oB i)]) hM ?_ ?_
    ·intro e4 hM K6 hK6;exact au
    ·intro x1 hM;(try dsimp only at hM);refine VK hM (fun h9 hM=> ?_) (fun h9 hM=> ?_)
     ·have F:=nf F h9;refine XX fun K h=> ?_;simp [go_sem,F];refine Zud ?_;simp [go_sem,F];refine h _ ?_;refine Znn (b:=true) (by simp [go_sem,F]) (fun h10=> ?_) (fun h10=> ?_)
      ·skip;refine YP fun K11 hK11=> ?_;obtain ⟨x3,e12,hM⟩:=bind_some hM;refine QM 7 mixed (by kernel_rfl) (by kernel_rfl) ?_;simp [go_sem,F];refine Zl4 ?_;simp [go_sem,F];refine Zod [] (ren [(31000,31000)]) (ren [(9,83)]) (ren [(30000,2048)]) (Zf1 a1.text a2 a20 x3 e12) ?_;simp [go_sem,F];refine hK11 _ ?_;obtain rfl:=si hM;have hM:=hR1
       clear hR1;dsimp only at hM;obtain rfl:=si hM;refine rr [] [(2048,30000)] [] [82,83] [2048] ?_;exact au
      ·cases h10
     ·have F:=nf F h9;exact au
   ·intro _ hM;dsimp only at hM;refine mj (ι:=Bool) [0,2,4] [4,82,83] [31000] (fun i=>[(6,oB i)]) hM ?_ ?_
    ·intro e13 hM K15 hK15;exact au
    ·intro x4 hM;(try dsimp only at hM);refine mj (ι:=Unit) [0,2,4,6] [4,82,83] [31000] (fun i=>[]) hM ?_ ?_
     ·intro e17 hM K19 hK19;refine mj (ι:=Unit) [0,2,4,6] [4,82,83] [31000] (fun i=>[(48,oB false)]) hM ?_ ?_
      ·intro e20 hM K22 hK22;exact au
      ·intro _ hM;(try dsimp only at hM);exact au
     ·intro _ hM;(try dsimp only at hM);refine S1 ?_;refine YK ?_;refine lp (ι:=(List ByteArray)×Int) [0,2,4,6,57,58] [4,82] [] (fun i=>[(59,oI i.2)]) (fun n i=>Z4 (ZV k) a1 a2 x4 n i.1 i.2=some r) k (a20,0) hM (by simp [Z4]) ?_ (cb:=fun i=>[(83,[.own 31000 i.1.length])]) (ca:=fun i=>[(31000,aF sC i.1)]);intro KL25 nL25 ⟨x5,x6⟩ hL25 hM _;have hM:Z4 (ZV k) a1 a2 x4 (nL25+1) x5 x6=some r:=hM;rw [Z4] at hM;refine S1 ?_;refine YP fun K26 hK26=> ?_;refine VK hM (fun h27 hM=> ?_) (fun h27 hM=> ?_)
      ·have F:=ZAa (nf F h27) (lT h27);refine YT ?_;refine hK26 _ ?_;refine YP fun K28 hK28=> ?_;refine YK ?_;obtain ⟨x7,e29,hM⟩:=bind_some hM;have F:=ZAa F (Zaf e29);refine S1 ?_;refine S1 ?_;refine mj (ι:=List ByteArray) [0,2,4,6,8,57,58,59] [4,8,82,83] [31000] (fun i=>[(9,oL sC i)]) hM ?_ ?_
       ·intro e30 hM K32 hK32;refine mj (ι:=Bool) [0,2,4,6,8,9,57,58,59] [4,8,82,83] [31000] (fun i=>[(69,oB i)]) hM ?_ ?_
        ·intro e33 hM K35 hK35;exact au
        ·intro x9 hM;(try dsimp only at hM);refine VK hM (fun h37 hM=> ?_) (fun h37 hM=> ?_)
         ·have F:=nf F h37;refine le1 [0,2,4,6,8,57,58,59] [4,8,82,83] [31000] ?_;obtain ⟨x10,e38,hM⟩:=bind_some hM;obtain ⟨c39,s40⟩:=WG e38;replace c39:=c39.symm;subst c39;(try simp at s40);have F:=ZAa F s40;obtain ⟨x11,e42,hM⟩:=bind_some hM;obtain ⟨c43,s44⟩:=WG e42;replace c43:=c43.symm;subst c43;(try simp at s44);have F:=ZAa F s44;refine Zgb [[],[],[0,1],[10004480],[3],[3,4],[0,1,2,3,4,5],[0,1,2,3,4,5,6]] mixed (by kernel_rfl) ?_;simp [go_sem,F];refine ⟨U8 (by kernel_rfl), ?_⟩;exact au
         ·have F:=nf F h37;exact au
       ·intro x8 hM;(try dsimp only at hM);obtain ⟨x12,e46,hM⟩:=bind_some hM;refine WM ?_;simp [go_sem,F];refine Zd1 [] (ren [(31000,31000)]) (ren [(82,82),(83,83)]) (ren [(30000,5120)]) (ih_i_walker_visit x7 x8 x5 x12 e46) ?_;simp [go_sem,F];refine hK28 _ ?_;refine WM ?_;simp [go_sem,F];exact fr hL25 [(5120,31000)] [0,2,4,6,57,58,59] [4,82,83] [5120] (x12,(IntKind.i64.wrap (x6+1))) hM
      ·have F:=ZAa (nf F h27) (lF h27);refine ZkR ?_;obtain rfl:=si hM;exact rn hK0 [] [(31000,30000)] [] [82,83] [31000]
theorem Zfd (k:Nat):∀(a1:Zb) (a2:List ByteArray) (a20:List ByteArray) (r:List ByteArray) (hM:ZV k a1 a2 a20=some r),GC Tryz.prog 194 82 [.one (.box 82 0),.agg [.l (.int .i64 a1.kind),.l (.int .i64 a1.n),.l (.str a1.text),.l (.sl (a1.args.map Zb.c))],.one (.l (.sl (a2.map sC)))] [(82,[.clo 193 [83],.nf]),(83,[.own 31000 a20.length])] [(31000,some ⟨false,a20.map sC⟩)] (.tup []) [(82,[.clo 193 [83],.nf]),(83,[.own 30000 r.length])] [(30000,some ⟨false,r.map sC⟩)]:=(Zfe k)
set_option maxHeartbeats 4000000
set_option maxRecDepth 100000
theorem Zb8:kT Tryz.prog 195 true Uf:=wK Tryz.func195 Tryz.ntmps195 Tryz.results195 Uf.eq_1 (hj [] [] [] (fun (i:List ByteArray)=>[(3,oO 384 i.length)]) (hl [0,7,8] [] [] 2 XU.eq_1 XU.eq_2 (fun (i:(List ByteArray)×Int)=>[(3,oO 384 i.1.length),(9,oI i.2)]) (.i (hj [0,7,8,9] [] [] (fun (i:List ByteArray)=>[(3,oO 384 i.length)]) (ca:=fun i=>[(384,aT sC i)])) .e) (ca:=fun i=>[(384,aT sC i.1)])) (ca:=fun i=>[(384,aT sC i)]))
instance:HC 195 (Ty @Zb8):=⟨Zb8⟩
set_option maxHeartbeats 4000000
set_option maxRecDepth 100000
theorem Zcf (k:Nat) (a0:Zb) (r:List ByteArray) (hM:ZaF k a0=some r):Ctr Tryz.prog 153 [.agg (Zb.c a0)] true [.one (.sl (r.map sC))]:=by
 unfold ZaF at hM;refine ZjC Tryz.func153 Tryz.ntmps153 Tryz.results153 fun N w0 hbad F=> ?_;refine S1 ?_;refine S1 ?_;refine XX fun K h=> ?_;simp [go_sem,F];refine ZrZ ?_;simp [go_sem,F];refine h _ ?_;obtain ⟨x1,e1,hM⟩:=bind_some hM;refine XX fun K h=> ?_;simp [go_sem,F];refine Zd1 [] (ren [(31000,320)]) (ren [(82,8),(83,3)]) (ren [(30000,704)]) (Zfd k a0 [] ([]:List ByteArray) x1 e1) ?_;simp [go_sem,F];exact au
instance:HC 153 (Ty @Zcf):=⟨Zcf⟩
set_option maxHeartbeats 4000000
set_option maxRecDepth 100000
theorem Zb6:kT Tryz.prog 97 true WB:=wK Tryz.func97 Tryz.ntmps97 Tryz.results97 WB.eq_1 .e
instance:HC 97 (Ty @Zb6):=⟨Zb6⟩
set_option maxHeartbeats 4000000
set_option maxRecDepth 100000
theorem JA:kT Tryz.prog 95 true Qn:=wK Tryz.func95 Tryz.ntmps95 Tryz.results95 Qn.eq_1 (hU [] [] [] (hl [1,8,9] [] [] 1 XV.eq_1 XV.eq_2 (fun (i:Int)=>[(10,oI i)])))
instance:HC 95 (Ty @JA):=⟨JA⟩
set_option maxHeartbeats 4000000
set_option maxRecDepth 100000
theorem Zce:kT Tryz.prog 255 true Yk:=wK Tryz.func255 Tryz.ntmps255 Tryz.results255 Yk.eq_1 (hj [] [] [] (fun (i:Bool)=>[(4,oB i)]))
instance:HC 255 (Ty @Zce):=⟨Zce⟩
set_option maxHeartbeats 4000000
set_option maxRecDepth 100000
theorem KQ (a0:Zd) (r:Zb×Zd) (hM:Ye a0=some r):ZcU Tryz.prog 293 [] (Zd.c a0) [] true [.agg (Zb.c r.1)] (Zd.c r.2):=by
 unfold Ye at hM;exact wP Tryz.func293 Tryz.ntmps293 Tryz.results293 (hjz [2] [2] [] [0] (fun (i:Int)=>[]) (cb:=fun i=>[(16,[.any,.any,cI i])]))
instance:HC 293 (Ty @KQ):=⟨KQ⟩
set_option maxHeartbeats 4000000
set_option maxRecDepth 100000
theorem KW:kT Tryz.prog 268 true Xw:=wK Tryz.func268 Tryz.ntmps268 Tryz.results268 Xw.eq_1 (hU [0] [] [] (hl [0] [] [] 1 Qx.eq_1 Qx.eq_2 (fun (i:Int)=>[(3,oI i)]) (.i (hj [0,3] [] [] (fun (i:Bool)=>[(25,oB i)])) .e)))
instance:HC 268 (Ty @KW):=⟨KW⟩
set_option maxHeartbeats 4000000
set_option maxRecDepth 100000
theorem Zff:kT Tryz.prog 254 true YU:=wK Tryz.func254 Tryz.ntmps254 Tryz.results254 YU.eq_1 (hj [0,1,4,7,8] [4] [] (fun (i:Bool)=>[(17,oB i)]) .e (.i (hj [0,1,4] [4] [] (fun (i:Int)=>[(7,oI i)]) (hl [0,1,4] [4] [] 1 Xl.eq_1 Xl.eq_2 (fun (i:Int)=>[(7,oI i)]) (hj [0,1,4,7] [4] [] (fun (i:Bool)=>[(51,oB i)])))) (hj [0,1,4,7,8] [4] [] (fun (i:Bool)=>[(65,oB i)]) .e (.i (hj [0,1,4] [4] [] (fun (i:Int)=>[(7,oI i)]) (hl [0,1,4] [4] [] 1 Xk.eq_1 Xk.eq_2 (fun (i:Int)=>[(7,oI i)]) (hj [0,1,4,7] [4] [] (fun (i:Bool)=>[(87,oB i)])))) (.i .e (.i .e (hf [0,1,4,8] [4] [] 20 (ho [[],[],[],[2],[0,1,2,3],[],[0,1,2,3,4,5],[1000004],[7,1000004],[],[9],[9,10,1000004],[0,1,2,3,4,5,6,9,10],[0,1,2,3,4,5,6,7,8,9,10,12],[0,1,2,3,4,5,6,7,8,9,10,11,12,13]]))))))))
instance:HC 254 (Ty @Zff):=⟨Zff⟩
set_option maxHeartbeats 4000000
set_option maxRecDepth 100000
theorem Zdt:kT Tryz.prog 217 true Ue:=wK Tryz.func217 Tryz.ntmps217 Tryz.results217 Ue.eq_1 (.i .e (hJ [] [] [] (fun (i:List Zg)=>[(4,oO 768 i.length)]) (hl [0] [] [] 2 ZZ.eq_1 ZZ.eq_2 (fun (i:(List Zg)×Int)=>[(4,oO 768 i.1.length),(5,oI i.2)]) (.i (.i .e (hj [0,4,5,6,7] [6] [768] (fun (i:Bool)=>[(36,oB i)]))) .e) (ca:=fun i=>[(768,aT Zg.c i.1)])) (ca:=fun i=>[(768,aT Zg.c i)])))
instance:HC 217 (Ty @Zdt):=⟨Zdt⟩
set_option maxHeartbeats 4000000
set_option maxRecDepth 100000
theorem Zac:kT Tryz.prog 271 true VF:=wK Tryz.func271 Tryz.ntmps271 Tryz.results271 VF.eq_1 (hU [] [] [] (hl [0,5,6] [] [] 1 YB.eq_1 YB.eq_2 (fun (i:Int)=>[(7,oI i)])))
instance:HC 271 (Ty @Zac):=⟨Zac⟩
end Go.Proofs.YtpblakfidofgfaaGreatDoor
