import Derived.Test.YtmcfegjoccgpoaaGreatDoorZJ21
set_option linter.unusedSimpArgs false
set_option linter.unusedVariables false
set_option maxHeartbeats 4000000
set_option maxRecDepth 100000
namespace Go.Proofs.YtmcfegjoccgpoaaGreatDoor
open Go.Proofs.Tryz
open Go.RowKit Am
instance:UV 149 true Zbq:=⟨wK func149 ntmps149 results149 Zbq.eq_1 (hf [1,2] [1,2] [] 1 (ho [[],[],[1],[0,1,2],[],[10000192],[5],[0,1,2,3,4,5,6],[0,1,2,3,4,5,6,7],[0,1,2,3,4,5,6,7,8]]))⟩
theorem Zi2:∀(k:Nat),(kT Tryz.prog 148 true (JK k))/\
  (kT Tryz.prog 101 true (Yk k)):=by
 intro k
 induction k with
 | zero=>exact ⟨by (repeat intro hM);simp [JK] at hM,by (repeat intro hM);simp [Yk] at hM⟩
 | succ k m=>
  obtain ⟨j,l⟩:=m;refine ⟨?_, ?_⟩
  ·haveI:HC 148 _:=⟨j⟩;haveI:HC 101 _:=⟨l⟩;exact wK func148 ntmps148 results148 JK.eq_2 (hj [] [] [] (λ(i:List Zb)=>[(3,oO 384 i.length)]) (hl [7,8] [] [] 2 XB.eq_1 XB.eq_2 (λ(i:(List Zb)×Int)=>[(3,oO 384 i.1.length),(9,oI i.2)]) (ca:=λi=>[(384,aT Zb.c i.1)])) (ca:=λi=>[(384,aT Zb.c i)]))
  ·haveI:HC 148 _:=⟨j⟩;haveI:HC 101 _:=⟨l⟩;exact wK func101 ntmps101 results101 Yk.eq_2 (hjz [2,3] [2] [576,704] [0] (λ(i:List ZP)=>[]) (hlz [2,3,18,19] [2] [576,704] [0] 2 Wn.eq_1 Wn.eq_2 (λ(i:(List ZP)×Int)=>[(20,oI i.2)]) (.i (hp [2,3,5,18,19,20] [2,3,5] [576,704,1856] 8 [] (ho [[10001728,10001729],[0],[],[2],[2,3],[0,1,2,3,4],[0,1,2,3,4,5],[0,1,2,3,4,5,6]])) .e) (ca:=λi=>[(1856,aT ZP.c i.1)]) (cb:=λi=>[(3,[.any,.any,.any,.any,.any,.any,.own 1856 i.1.length])])) (ca:=λi=>[(1856,aT ZP.c i)]) (cb:=λi=>[(3,[.any,.any,.any,.any,.any,.any,.own 1856 i.length])]))
theorem ZdL (k:Nat):kT Tryz.prog 101 true (Yk k):=(Zi2 k).2
instance:HC 101 (Ty @ZdL):=⟨ZdL⟩
instance:UV 261 true Uy:=⟨wK func261 ntmps261 results261 Uy.eq_1 (hU [] [] [] (hl [0,5,6] [] [] 1 YZ.eq_1 YZ.eq_2 (λ(i:Int)=>[(7,oI i)])))⟩
theorem ZmC:∀(k:Nat),(kT Tryz.prog 260 true (X9 k)):=by
 intro k
 induction k with
 | zero=>(repeat intro hM);simp [X9] at hM
 | succ k j=>
  ·haveI:HC 260 _:=⟨j⟩;exact wK func260 ntmps260 results260 X9.eq_2 (hj [] [] [] (λ(i:Int)=>[(3,oI i)]) (hl [7,8] [] [] 2 V9.eq_1 V9.eq_2 (λ(i:Int×Int)=>[(3,oI i.1),(9,oI i.2)])))
theorem Zg7 (k:Nat):kT Tryz.prog 260 true (X9 k):=(ZmC k)
instance:HC 260 (Ty @Zg7):=⟨Zg7⟩
instance:UV 165 true Wl:=⟨wK func165 ntmps165 results165 Wl.eq_1 (hj [] [] [] (λ(i:List Int)=>[(5,oO 448 i.length)]) (hl [0,1] [] [] 2 Yw.eq_1 Yw.eq_2 (λ(i:(List Int)×Int)=>[(5,oO 448 i.1.length),(6,oI i.2)]) (.i (hj [0,1,6] [] [] (λ(i:List Int)=>[(5,oO 448 i.length)]) (hj [0,1,5,6] [] [448] (λ(i:Bool)=>[(28,oB i)])) (ca:=λi=>[(448,aT iC i)])) .e) (ca:=λi=>[(448,aT iC i.1)])) (ca:=λi=>[(448,aT iC i)]))⟩
theorem ZbZ:kT Tryz.prog 125 true QJ:=wK func125 ntmps125 results125 QJ.eq_1 .e
instance:HC 125 (Ty @ZbZ):=⟨ZbZ⟩
instance:UV 119 true Qm:=⟨wK func119 ntmps119 results119 Qm.eq_1 (hj [] [] [] (λ(i:Bool)=>[(4,oB i)]))⟩
theorem Vz:kT Tryz.prog 49 true ZX:=wK func49 ntmps49 results49 ZX.eq_1 (hU [] [] [] (hl [1,2] [2] [] 1 Ys.eq_1 Ys.eq_2 (λ(i:Int)=>[(5,oI i)])))
instance:HC 49 (Ty @Vz):=⟨Vz⟩
theorem Zdn:kT Tryz.prog 126 true Vx:=wK func126 ntmps126 results126 Vx.eq_1 (.i .e (hU [] [] [] (hl [0,1] [] [] 1 WE.eq_1 WE.eq_2 (λ(i:Int)=>[(5,oI i)]) (.i (hq 8) .e))))
instance:HC 126 (Ty @Zdn):=⟨Zdn⟩
theorem ZjJ (a0:Int) (a1:Zc) (a2:Zc) (r:Zc) (hM:ZbY a0 a1 a2=some r):TC Tryz.prog 272 12 [.one (.int .i64 a0),.agg (Zc.c a1),.agg (Zc.c a2)] [.agg (Zc.c r)]:=by
 unfold ZbY at hM;refine ZyY func272 ntmps272 results272 λN w0 hbad F=> ?_;refine S1 ?_;refine S1 ?_;obtain rfl:=si hM;refine rr [] [(640,30000)] [6] [6] [640] ?_;exact au
instance:HC 272 (Ty @ZjJ):=⟨ZjJ⟩
theorem Zmh:∀(k:Nat),(∀(a0:Zd) (a1:Ma) (r:(List Zc)×Zd) (hM:Vq k a0 a1=some r),ZeC Tryz.prog 345 [] (Zd.c a0) [.one (.str a1)] false [.one (.sl (r.1.map Zc.c))] (Zd.c r.2))/\
  (∀(a0:Zd) (r:Zc×Zd) (hM:Yo k a0=some r),ZeC Tryz.prog 323 [] (Zd.c a0) [] false [.agg (Zc.c r.1)] (Zd.c r.2))/\
  (∀(a0:Zd) (r:Zc×Zd) (hM:ZW k a0=some r),ZeC Tryz.prog 297 [] (Zd.c a0) [] false [.agg (Zc.c r.1)] (Zd.c r.2))/\
  (∀(a0:Zd) (r:Zc×Zd) (hM:XV k a0=some r),ZeC Tryz.prog 271 [] (Zd.c a0) [] false [.agg (Zc.c r.1)] (Zd.c r.2))/\
  (∀(a0:Zd) (r:Zc×Zd) (hM:Q4 k a0=some r),ZeC Tryz.prog 230 [] (Zd.c a0) [] false [.agg (Zc.c r.1)] (Zd.c r.2))/\
  (∀(a0:Zd) (r:Zc×Zd) (hM:ZC k a0=some r),ZeC Tryz.prog 191 [] (Zd.c a0) [] false [.agg (Zc.c r.1)] (Zd.c r.2)):=by
 intro k
 induction k with
 | zero=>exact ⟨by intro a0 a1 r hM;simp [Vq] at hM,by intro a0 r hM;simp [Yo] at hM,by intro a0 r hM;simp [ZW] at hM,by intro a0 r hM;simp [XV] at hM,by intro a0 r hM;simp [Q4] at hM,by intro a0 r hM;simp [ZC] at hM⟩
 | succ k t=>
  obtain ⟨m,o,l,s,j,p⟩:=t;refine ⟨?_, ?_, ?_, ?_, ?_, ?_⟩
  ·intro a0 a1 r hM;haveI:HC 345 _:=⟨m⟩;haveI:HC 323 _:=⟨o⟩;haveI:HC 297 _:=⟨l⟩;haveI:HC 271 _:=⟨s⟩;haveI:HC 230 _:=⟨j⟩;haveI:HC 191 _:=⟨p⟩;rw [Vq] at hM;exact wP func345 ntmps345 results345 (.i (hp [4] [44] [] 999999 [384]) (hj [0,1] [] [] (λ(i:(List Zj)×Int×Int×Int×(List Zc))=>[(5,oO 384 i.2.2.2.2.length)]) (hth [384] (hl [0,1] [] [] 5 WG.eq_1 WG.eq_2 (λ(i:(List Zj)×Int×Int×Int×(List Zc))=>[(5,oO 384 i.2.2.2.2.length)]) (ca:=λi=>[(384,aF Zc.c i.2.2.2.2)]) (cb:=λi=>[(44,[cL Zj.c i.1,cI i.2.1,cI i.2.2.1,cI i.2.2.2.1])]))) (hp [4] [44] [] 999999 [384]) (ca:=λi=>[(384,aF Zc.c i.2.2.2.2)]) (cb:=λi=>[(44,[cL Zj.c i.1,cI i.2.1,cI i.2.2.1,cI i.2.2.2.1])])))
  ·intro a0 r hM;haveI:HC 345 _:=⟨m⟩;haveI:HC 323 _:=⟨o⟩;haveI:HC 297 _:=⟨l⟩;haveI:HC 271 _:=⟨s⟩;haveI:HC 230 _:=⟨j⟩;haveI:HC 191 _:=⟨p⟩;rw [Yo] at hM;exact wP func323 ntmps323 results323 (hj [0,2] [2,141] [] (λ(i:Bool)=>[(21,oB i)]) (hq 15) (.i (hp [2] [2,141] [] 999999 [1472]) (hf [0,2] [2,141] [] 3 (ho [[],[0],[0,1],[0,1,2],[],[4],[4,5],[4,5,6],[0,1,2,3,4,5,6,7],[0,1,2,3,4,5,6,7,8],[],[0,1,2,3,4,5,6,7,8,9,10]] (.i (hp [2] [2,141] [] 999999 [3072]) (.i .e (hj [0,2,3] [2,3,141] [] (λ(i:Bool)=>[(64,oB i)]) .e (.i (hp [2] [2,141] [] 999999 [5312]) (hj [0,2,3] [2,3,141] [] (λ(i:Bool)=>[(84,oB i)]) .e (.i (hf [0,2,3] [2,3,141] [] 16 (ho [[1000141],[0,1000141],[],[2],[0,1,2,3],[0,1,2,3,4]])) (.i .e (.i .e (hp [2] [2,141] [] 999999 [8960])))))))))))))
  ·intro a0 r hM;haveI:HC 345 _:=⟨m⟩;haveI:HC 323 _:=⟨o⟩;haveI:HC 297 _:=⟨l⟩;haveI:HC 271 _:=⟨s⟩;haveI:HC 230 _:=⟨j⟩;haveI:HC 191 _:=⟨p⟩;rw [ZW] at hM;exact wP func297 ntmps297 results297 (hj [2,3] [2] [] (λ(i:Int×Int×Ma×(List Zc)×(List Zj)×Int×Int×Int)=>[]) (hl [0,2,3] [2] [] 8 QI.eq_1 QI.eq_2 (λ(i:(List Zj)×Int×Int×Int×Int×Int×Ma×(List Zc))=>[]) (.i (hf [0,2,3] [2,3,21] [] 4 (ho [[1000021],[],[1],[0,1,2],[0,1,2,3]])) .e) (cb:=λi=>[(3,[cI i.2.2.2.2.1,cI i.2.2.2.2.2.1,cS i.2.2.2.2.2.2.1,cL Zc.c i.2.2.2.2.2.2.2]),(21,[cL Zj.c i.1,cI i.2.1,cI i.2.2.1,cI i.2.2.2.1])])) (cb:=λi=>[(3,[cI i.1,cI i.2.1,cS i.2.2.1,cL Zc.c i.2.2.2.1]),(21,[cL Zj.c i.2.2.2.2.1,cI i.2.2.2.2.2.1,cI i.2.2.2.2.2.2.1,cI i.2.2.2.2.2.2.2])]))
  ·intro a0 r hM;haveI:HC 345 _:=⟨m⟩;haveI:HC 323 _:=⟨o⟩;haveI:HC 297 _:=⟨l⟩;haveI:HC 271 _:=⟨s⟩;haveI:HC 230 _:=⟨j⟩;haveI:HC 191 _:=⟨p⟩;rw [XV] at hM;exact wP func271 ntmps271 results271 (hj [2,3] [2] [] (λ(i:Int×Int×Ma×(List Zc)×(List Zj)×Int×Int×Int)=>[]) (hl [0,2,3] [2] [] 8 VI.eq_1 VI.eq_2 (λ(i:(List Zj)×Int×Int×Int×Int×Int×Ma×(List Zc))=>[]) (hj [0,2,3] [2,3] [] (λ(i:(List Zj)×Int×Int×Int×Bool)=>[(12,oB i.2.2.2.2)]) .e (.i (hj [0,2,3] [2,3] [] (λ(i:(List Zj)×Int×Int×Int×Int)=>[(4,oI i.2.2.2.2)]) .e (hf [0,2,3,4] [2,3,29] [] 7 (ho [[1000029],[1000029],[],[2],[0,1,2,3],[0,1,2,3,4]])) (cb:=λi=>[(29,[cL Zj.c i.1,cI i.2.1,cI i.2.2.1,cI i.2.2.2.1])])) .e) (cb:=λi=>[(29,[cL Zj.c i.1,cI i.2.1,cI i.2.2.1,cI i.2.2.2.1])])) (cb:=λi=>[(3,[cI i.2.2.2.2.1,cI i.2.2.2.2.2.1,cS i.2.2.2.2.2.2.1,cL Zc.c i.2.2.2.2.2.2.2]),(29,[cL Zj.c i.1,cI i.2.1,cI i.2.2.1,cI i.2.2.2.1])])) (cb:=λi=>[(3,[cI i.1,cI i.2.1,cS i.2.2.1,cL Zc.c i.2.2.2.1]),(29,[cL Zj.c i.2.2.2.2.1,cI i.2.2.2.2.2.1,cI i.2.2.2.2.2.2.1,cI i.2.2.2.2.2.2.2])]))
  ·intro a0 r hM;haveI:HC 345 _:=⟨m⟩;haveI:HC 323 _:=⟨o⟩;haveI:HC 297 _:=⟨l⟩;haveI:HC 271 _:=⟨s⟩;haveI:HC 230 _:=⟨j⟩;haveI:HC 191 _:=⟨p⟩;rw [Q4] at hM;exact wP func230 ntmps230 results230 (.i (hf [0,2,3] [2,3,37] [] 4 (ho [[1000037],[],[1],[0,1,2],[0,1,2,3]] (hp [2] [2,37] [] 999999 [1280]))) (.i (hf [0,2,3] [2,3,37] [] 7 (ho [[1000037],[],[1],[0,1,2],[0,1,2,3]] (hp [2] [2,37] [] 999999 [2240]))) .e))
  ·intro a0 r hM;haveI:HC 345 _:=⟨m⟩;haveI:HC 323 _:=⟨o⟩;haveI:HC 297 _:=⟨l⟩;haveI:HC 271 _:=⟨s⟩;haveI:HC 230 _:=⟨j⟩;haveI:HC 191 _:=⟨p⟩;rw [ZC] at hM;exact wP func191 ntmps191 results191 (.i (hf [0,2,3,4] [2,4,86] [] 7 (ho [[1000086],[1000086],[],[2],[1,2,3],[0,1,2,3,4],[0,1,2,3,4,5]] (hp [2] [2,86] [] 999999 [2048]))) (.i (hf [0,2,5,6] [2,5,6,86] [] 14 (ho [[1000086],[1000086],[],[2],[0,1,2,3],[0,1,2,3,4],[0,1,2,3,4,5]] (hp [2] [2,86] [] 999999 [3648]))) (.i (hf [0,2,7,8] [2,8,86] [] 21 (ho [[1000086],[1000086],[],[2],[1,2,3],[0,1,2,3,4],[0,1,2,3,4,5]] (hp [2] [2,86] [] 999999 [5248]))) .e)))
theorem Zgt (k:Nat):∀(a0:Zd) (r:Zc×Zd) (hM:ZC k a0=some r),ZeC Tryz.prog 191 [] (Zd.c a0) [] false [.agg (Zc.c r.1)] (Zd.c r.2):=(Zmh k).2.2.2.2.2
instance:HC 191 (Ty @Zgt):=⟨Zgt⟩
end Go.Proofs.YtmcfegjoccgpoaaGreatDoor
