import Derived.Test.YtmcfegjoccgpoaaGreatDoorZJ21
set_option linter.unusedSimpArgs false
set_option linter.unusedVariables false
set_option maxHeartbeats 4000000
set_option maxRecDepth 100000
namespace Go.Proofs.YtmcfegjoccgpoaaGreatDoor
open Go.Proofs.Tryz
open Go.RowKit Am
instance:UV 138 true Ua:=⟨wK func138 ntmps138 results138 Ua.eq_1 (hj [] [] [] (λ(i:List Int)=>[(5,oO 512 i.length)]) (hl [1,9,10] [] [] 2 Vl.eq_1 Vl.eq_2 (λ(i:(List Int)×Int)=>[(5,oO 512 i.1.length),(11,oI i.2)]) (.i (hj [1,9,10,11] [] [] (λ(i:List Int)=>[(5,oO 512 i.length)]) (hj [1,5,6,9,10,11] [] [512] (λ(i:Bool)=>[(24,oB i)])) (ca:=λi=>[(512,aT iC i)])) .e) (ca:=λi=>[(512,aT iC i.1)])) (ca:=λi=>[(512,aT iC i)]))⟩
theorem Zb7:kT Tryz.prog 81 true X7:=wK func81 ntmps81 results81 X7.eq_1 .e
instance:HC 81 (Ty @Zb7):=⟨Zb7⟩
instance:UV 134 true Y4:=⟨wK func134 ntmps134 results134 Y4.eq_1 (hj [] [] [] (λ(i:Bool)=>[(4,oB i)]))⟩
theorem KS:kT Tryz.prog 109 true YR:=wK func109 ntmps109 results109 YR.eq_1 (hU [] [] [] (hl [1,8,9] [] [] 1 Ws.eq_1 Ws.eq_2 (λ(i:Int)=>[(10,oI i)])))
instance:HC 109 (Ty @KS):=⟨KS⟩
instance:UV 171 true Zb8:=⟨wK func171 ntmps171 results171 Zb8.eq_1 .e⟩
theorem Zbl (a0:Zf) (r:Zj×Zf) (hM:ZI a0=some r):ZeC Tryz.prog 246 [] (Zf.c a0) [] true [.agg (Zj.c r.1)] (Zf.c r.2):=by
 unfold ZI at hM;exact wP func246 ntmps246 results246 (hj [0,2] [2,31] [] (λ(i:Bool)=>[(19,oB i)]) (hq 15) (.i (hq 8) .e))
instance:HC 246 (Ty @Zbl):=⟨Zbl⟩
theorem Zbo (a0:Zf) (r:Zc×Zf) (hM:Yz a0=some r):ZeC Tryz.prog 283 [] (Zf.c a0) [] true [.agg (Zc.c r.1)] (Zf.c r.2):=by
 unfold Yz at hM;exact wP func283 ntmps283 results283 (hjz [2] [2] [] [0] (λ(i:Int)=>[]) (cb:=λi=>[(16,[.any,.any,cI i])]))
instance:HC 283 (Ty @Zbo):=⟨Zbo⟩
instance:UV 258 true X3:=⟨wK func258 ntmps258 results258 X3.eq_1 (hU [0] [] [] (hl [0] [] [] 1 QV.eq_1 QV.eq_2 (λ(i:Int)=>[(3,oI i)]) (.i (hj [0,3] [] [] (λ(i:Bool)=>[(25,oB i)])) .e)))⟩
instance:UV 244 true Qh:=⟨wK func244 ntmps244 results244 Qh.eq_1 (hj [0,1,4,7,8] [4] [] (λ(i:Bool)=>[(17,oB i)]) .e (.i (hj [0,1,4] [4] [] (λ(i:Int)=>[(7,oI i)]) (hl [0,1,4] [4] [] 1 XO.eq_1 XO.eq_2 (λ(i:Int)=>[(7,oI i)]) (hj [0,1,4,7] [4] [] (λ(i:Bool)=>[(51,oB i)])))) (hj [0,1,4,7,8] [4] [] (λ(i:Bool)=>[(65,oB i)]) .e (.i (hj [0,1,4] [4] [] (λ(i:Int)=>[(7,oI i)]) (hl [0,1,4] [4] [] 1 XN.eq_1 XN.eq_2 (λ(i:Int)=>[(7,oI i)]) (hj [0,1,4,7] [4] [] (λ(i:Bool)=>[(87,oB i)])))) (.i .e (.i .e (hf [0,1,4,8] [4] [] 20 (ho [[],[],[],[2],[0,1,2,3],[],[0,1,2,3,4,5],[1000004],[7,1000004],[],[9],[9,10,1000004],[0,1,2,3,4,5,6,9,10],[0,1,2,3,4,5,6,7,8,9,10,12],[0,1,2,3,4,5,6,7,8,9,10,11,12,13]]))))))))⟩
instance:UV 207 true Jd:=⟨wK func207 ntmps207 results207 Jd.eq_1 (.i .e (hJ [] [] [] (λ(i:List Zj)=>[(4,oO 768 i.length)]) (hl [0] [] [] 2 Yg.eq_1 Yg.eq_2 (λ(i:(List Zj)×Int)=>[(4,oO 768 i.1.length),(5,oI i.2)]) (.i (.i .e (hj [0,4,5,6,7] [6] [768] (λ(i:Bool)=>[(36,oB i)]))) .e) (ca:=λi=>[(768,aT Zj.c i.1)])) (ca:=λi=>[(768,aT Zj.c i)])))⟩
instance:UV 276 true KA:=⟨wK func276 ntmps276 results276 KA.eq_1 (hj [] [] [] (λ(i:Bool)=>[(2,oB i)]))⟩
instance:UV 194 true Ki:=⟨wK func194 ntmps194 results194 Ki.eq_1 (hj [0] [] [] (λ(i:(List Ma)×Int)=>[(3,oO 384 i.1.length),(4,oI i.2)]) (hl [0] [] [] 3 Ye.eq_1 Ye.eq_2 (λ(i:(List Ma)×Int×Int)=>[(3,oO 384 i.1.length),(4,oI i.2.1),(5,oI i.2.2)]) (.i (hj [0,5] [] [] (λ(i:(List Ma)×Int)=>[(3,oO 384 i.1.length),(4,oI i.2)]) (hj [0,3,4,5] [] [384] (λ(i:Bool)=>[(24,oB i)])) (ca:=λi=>[(384,aT sC i.1)])) .e) (ca:=λi=>[(384,aT sC i.1)])) (ca:=λi=>[(384,aT sC i.1)]))⟩
instance:UV 162 true ZhA:=⟨wK func162 ntmps162 results162 ZhA.eq_1 (hf [1,2] [1,2] [] 1 (ho [[],[],[1],[0,1,2],[],[10000192],[5],[0,1,2,3,4,5,6],[0,1,2,3,4,5,6,7],[0,1,2,3,4,5,6,7,8]]))⟩
theorem ZnH:∀(k:Nat),(kT Tryz.prog 121 true (Wv k)):=by
 intro k
 induction k with
 | zero=>(repeat intro hM);simp [Wv] at hM
 | succ k j=>
  ·haveI:HC 121 _:=⟨j⟩;exact wK func121 ntmps121 results121 Wv.eq_2 (hf [1,2] [1,2] [] 1 (ho [[10000896],[0],[10000896],[2],[10000896],[4],[10000896],[6],[],[],[9],[8,9,10],[0,1,2,3,4,5,6,7,8,9,10,11],[],[0,1,2,3,4,5,6,7,8,9,10,11,12,13]] (hjz [1,2,3] [1,2] [896] [0] (λ(i:List Zb)=>[]) (hlz [1,2,3] [1,2] [896] [0] 2 UP.eq_1 UP.eq_2 (λ(i:(List Zb)×Int)=>[(4,oI i.2)]) (.i (hp [1,2,3,4] [1,2,3] [896,2240] 5 [] (ho [[10002112,10002113,10002114],[0],[],[2],[],[2,3,4],[2,3,4,5],[2,3,4,5,6],[2,3,4,5,6,7],[0,1,2,3,4,5,6,7,8],[0,1,2,3,4,5,6,7,8,9],[0,1,2,3,4,5,6,7,8,9,10]])) .e) (ca:=λi=>[(2240,aT Zb.c i.1)]) (cb:=λi=>[(3,[.any,.any,.any,.any,.own 2240 i.1.length,.any,.any])])) (hjz [2,3] [2] [896,2240] [0] (λ(i:List ZP)=>[]) (hlz [1,2,3] [1,2] [896,2240] [0] 2 UO.eq_1 UO.eq_2 (λ(i:(List ZP)×Int)=>[(5,oI i.2)]) (.i (hp [1,2,3,5] [1,2,3] [896,2240,3392] 9 [] (ho [[10003264,10003265],[0],[],[2],[],[2,3,4],[2,3,4,5],[2,3,4,5,6],[2,3,4,5,6,7],[0,1,2,3,4,5,6,7,8],[0,1,2,3,4,5,6,7,8,9],[0,1,2,3,4,5,6,7,8,9,10]])) .e) (ca:=λi=>[(3392,aT ZP.c i.1)]) (cb:=λi=>[(3,[.any,.any,.any,.any,.any,.any,.own 3392 i.1.length])])) (ca:=λi=>[(3392,aT ZP.c i)]) (cb:=λi=>[(3,[.any,.any,.any,.any,.any,.any,.own 3392 i.length])])) (ca:=λi=>[(2240,aT Zb.c i)]) (cb:=λi=>[(3,[.any,.any,.any,.any,.own 2240 i.length,.any,.any])]))))
theorem ZiC (k:Nat):kT Tryz.prog 121 true (Wv k):=(ZnH k)
instance:HC 121 (Ty @ZiC):=⟨ZiC⟩
end Go.Proofs.YtmcfegjoccgpoaaGreatDoor
