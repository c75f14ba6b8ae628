import Derived.Test.YtpblakfidofgfaaGreatDoorZCt3
set_option linter.unusedSimpArgs false
set_option linter.unusedVariables false
namespace Go.Proofs.YtpblakfidofgfaaGreatDoor
open Go.RowKit Am
set_option maxHeartbeats 4000000
set_option maxRecDepth 100000
theorem ZbQ:kT Tryz.prog 168 true V5:=wK Tryz.func168 Tryz.ntmps168 Tryz.results168 V5.eq_1 (hJz [2,5] [2] [896] [0] (fun (i:List ZM)=>[]) (hlz [2,4,5] [2] [640,896] [0] 2 Y9.eq_1 Y9.eq_2 (fun (i:(List ZM)×Int)=>[(6,oI i.2)]) (.i (hf [2,4,5,6] [2,5] [640,896,2624] 6 (ho [[],[],[0,1],[0,1,2],[],[4],[4,5],[0,1,2,3,4,5,6],[0,1,2,3,4,5,6,7],[0,1,2,3,4,5,6,7,8],[0,1,2,3,4,5,6,7,8],[0,1,2,3,4,5,6,7,8,9],[0,1,2,3,4,5,6,7,8,9,10,11]])) .e) (ca:=fun i=>[(2624,aT ZM.c i.1)]) (cb:=fun i=>[(5,[.any,.any,.any,.any,.any,.any,.own 2624 i.1.length])])) (ca:=fun i=>[(2624,aT ZM.c i)]) (cb:=fun i=>[(5,[.any,.any,.any,.any,.any,.any,.own 2624 i.length])]))
instance:HC 168 (Ty @ZbQ):=⟨ZbQ⟩
theorem ZbW:kT Tryz.prog 169 true Jr:=wK Tryz.func169 Tryz.ntmps169 Tryz.results169 Jr.eq_1 (.i .e (hU [] [] [] (hl [3,4] [] [576,832] 1 Qb.eq_1 Qb.eq_2 (fun (i:Int)=>[(5,oI i)]) (.i (hj [3,4,5] [] [576,832] (fun (i:Bool)=>[(38,oB i)])) .e))))
instance:HC 169 (Ty @ZbW):=⟨ZbW⟩
theorem ZhE:kT Tryz.prog 172 true ZfK:=wK Tryz.func172 Tryz.ntmps172 Tryz.results172 ZfK.eq_1 (hf [1,2] [1,2] [] 1 (ho [[],[],[1],[0,1,2],[],[10000192],[5],[0,1,2,3,4,5,6],[0,1,2,3,4,5,6,7],[0,1,2,3,4,5,6,7,8]]))
instance:HC 172 (Ty @ZhE):=⟨ZhE⟩
theorem Zlu:∀(k:Nat),(kT Tryz.prog 131 true (WO k)):=by
 intro k
 induction k with
 | zero=>(repeat intro hM);simp [WO] at hM
 | succ k ih_s_l3Copy=>
  ·haveI:HC 131 _:=⟨ih_s_l3Copy⟩;exact wK Tryz.func131 Tryz.ntmps131 Tryz.results131 WO.eq_2 (hf [1,2] [1,2] [] 1 (ho [[10000896],[0],[10000896],[2],[10000896],[4],[10000896],[6],[],[],[9],[8,9,10],[0,1,2,3,4,5,6,7,8,9,10,11],[],[0,1,2,3,4,5,6,7,8,9,10,11,12,13]] (hjz [1,2,3] [1,2] [896] [0] (fun (i:List Za)=>[]) (hlz [1,2,3] [1,2] [896] [0] 2 VY.eq_1 VY.eq_2 (fun (i:(List Za)×Int)=>[(4,oI i.2)]) (.i (hp [1,2,3,4] [1,2,3] [896,2240] 5 [] (ho [[10002112,10002113,10002114],[0],[],[2],[],[2,3,4],[2,3,4,5],[2,3,4,5,6],[2,3,4,5,6,7],[0,1,2,3,4,5,6,7,8],[0,1,2,3,4,5,6,7,8,9],[0,1,2,3,4,5,6,7,8,9,10]])) .e) (ca:=fun i=>[(2240,aT Za.c i.1)]) (cb:=fun i=>[(3,[.any,.any,.any,.any,.own 2240 i.1.length,.any,.any])])) (hjz [2,3] [2] [896,2240] [0] (fun (i:List ZM)=>[]) (hlz [1,2,3] [1,2] [896,2240] [0] 2 VX.eq_1 VX.eq_2 (fun (i:(List ZM)×Int)=>[(5,oI i.2)]) (.i (hp [1,2,3,5] [1,2,3] [896,2240,3392] 9 [] (ho [[10003264,10003265],[0],[],[2],[],[2,3,4],[2,3,4,5],[2,3,4,5,6],[2,3,4,5,6,7],[0,1,2,3,4,5,6,7,8],[0,1,2,3,4,5,6,7,8,9],[0,1,2,3,4,5,6,7,8,9,10]])) .e) (ca:=fun i=>[(3392,aT ZM.c i.1)]) (cb:=fun i=>[(3,[.any,.any,.any,.any,.any,.any,.own 3392 i.1.length])])) (ca:=fun i=>[(3392,aT ZM.c i)]) (cb:=fun i=>[(3,[.any,.any,.any,.any,.any,.any,.own 3392 i.length])])) (ca:=fun i=>[(2240,aT Za.c i)]) (cb:=fun i=>[(3,[.any,.any,.any,.any,.own 2240 i.length,.any,.any])]))))
theorem ZgA (k:Nat):kT Tryz.prog 131 true (WO k):=(Zlu k)
instance:HC 131 (Ty @ZgA):=⟨ZgA⟩
theorem Kv:kT Tryz.prog 170 true Vu:=wK Tryz.func170 Tryz.ntmps170 Tryz.results170 Vu.eq_1 (hj [0,3,4] [3,4] [] (fun (i:Bool)=>[(18,oB i)]) .e (.i .e (hjz [4,5] [4] [1344,1345] [0] (fun (i:List ZM)=>[]) (hlz [0,4,5] [4] [1344,1345] [0] 2 Z2.eq_1 Z2.eq_2 (fun (i:(List ZM)×Int)=>[(6,oI i.2)]) (ca:=fun i=>[(1346,aT ZM.c i.1)]) (cb:=fun i=>[(5,[.any,.any,.any,.any,.any,.any,.own 1346 i.1.length])])) (ca:=fun i=>[(1346,aT ZM.c i)]) (cb:=fun i=>[(5,[.any,.any,.any,.any,.any,.any,.own 1346 i.length])]))))
instance:HC 170 (Ty @Kv):=⟨Kv⟩
theorem KE:kT Tryz.prog 126 false Yc:=wK Tryz.func126 Tryz.ntmps126 Tryz.results126 Yc.eq_1 (.i .e (.i (.i (hf [1,2,4] [1,2] [] 7 (ho [[],[0],[],[],[0,1,2,3],[0,1,2,3,4]] (hp [2] [2] [] 999999 [1600,1601,1602]))) .e) (.i (hf [1,2] [1,2] [] 10 (ho [[],[0],[],[2],[2,3],[0,1,2,3,4],[0,1,2,3,4,5]] (hp [2] [2] [] 999999 [2432,2433,2434]))) (.i (.i (hf [1,2] [1,2] [] 14 (ho [[],[0],[],[],[3],[2,3,4],[0,1,2,3,4,5],[0,1,2,3,4,5,6]] (hp [2] [2] [] 999999 [3328,3329,3330]))) (hf [1,2,5] [1,2,5] [2880,2881,2882] 15 (ho [[],[0],[],[2],[],[2,3,4],[0,1,2,3,4,5],[0,1,2,3,4,5,6]] (hp [2] [2] [] 999999 [3968,3969,3970])))) .e))))
instance:HC 126 (Ty @KE):=⟨KE⟩
theorem UH:kT Tryz.prog 77 false Wc:=wK Tryz.func77 Tryz.ntmps77 Tryz.results77 Wc.eq_1 (.i (hp [2] [] [] 999999 [320]) (hj [] [] [] (fun (i:List Zi)=>[(3,oO 320 i.length)]) (hth [320] (hl [1] [1] [] 2 Q8.eq_1 Q8.eq_2 (fun (i:(List Zi)×Int)=>[(3,oO 320 i.1.length),(4,oI i.2)]) (ca:=fun i=>[(320,aF Zi.c i.1)]))) (hp [2] [] [] 999999 [320]) (ca:=fun i=>[(320,aF Zi.c i)])))
instance:HC 77 (Ty @UH):=⟨UH⟩
theorem Zj7:∀(k:Nat),(kT Tryz.prog 212 true (Q6 k)):=by
 intro k
 induction k with
 | zero=>(repeat intro hM);simp [Q6] at hM
 | succ k ih_s_l13Free=>
  ·haveI:HC 212 _:=⟨ih_s_l13Free⟩;exact wK Tryz.func212 Tryz.ntmps212 Tryz.results212 Q6.eq_2 (hj [1,2,5] [2] [512] (fun (i:Bool)=>[(18,oB i)]) .e (.i .e (hj [] [] [] (fun (i:List ByteArray)=>[(5,oO 512 i.length)]) (hl [1,2] [2] [] 2 QE.eq_1 QE.eq_2 (fun (i:(List ByteArray)×Int)=>[(5,oO 512 i.1.length),(6,oI i.2)]) (.i (hj [1,2,5,6] [2] [512] (fun (i:List ByteArray)=>[(7,oL sC i)]) (hj [1,2,5,6,7] [2] [512] (fun (i:Bool)=>[(43,oB i)]) .e (.i (hf [1,2,5,6] [2] [512] 9 (ho [[],[],[0,1],[10002816],[3],[3,4],[0,1,2,3,4,5],[0,1,2,3,4,5,6]])) .e))) .e) (ca:=fun i=>[(512,aT sC i.1)])) (ca:=fun i=>[(512,aT sC i)]))))
theorem ZeM (k:Nat):kT Tryz.prog 212 true (Q6 k):=(Zj7 k)
instance:HC 212 (Ty @ZeM):=⟨ZeM⟩
theorem ZbO:kT Tryz.prog 211 true V4:=wK Tryz.func211 Tryz.ntmps211 Tryz.results211 V4.eq_1 (hj [] [] [] (fun (i:List ByteArray)=>[(3,oO 448 i.length)]) (hl [0] [] [] 2 XQ.eq_1 XQ.eq_2 (fun (i:(List ByteArray)×Int)=>[(3,oO 448 i.1.length),(4,oI i.2)]) (.i (hj [0,4] [] [] (fun (i:List ByteArray)=>[(3,oO 448 i.length)]) (hj [0,3,4] [] [448] (fun (i:Int)=>[(5,oI i)]) (hl [0,3,4] [] [448] 1 XP.eq_1 XP.eq_2 (fun (i:Int)=>[(5,oI i)]) (hj [0,3,4,5] [] [448] (fun (i:Bool)=>[(28,oB i)]) (hq 13))) (hj [0,3,4,5] [] [448] (fun (i:Bool)=>[(45,oB i)]) (hq 13) (.i .e (hp [0,3,4,5,6] [] [448,2944] 10 [] (ho [[],[],[0,1],[],[],[3,4],[3,4,5],[3,4,5,6],[0,1,2,3,4,5,6,7],[10000448],[0,1,2,3,4,5,6,7,8,9],[0,1,2,3,4,5,6,7,8,9,10]] (.r [] [(3776,448)] [0,3,4] [] [3776])))))) (ca:=fun i=>[(448,aT sC i)])) .e) (ca:=fun i=>[(448,aT sC i.1)])) (ca:=fun i=>[(448,aT sC i)]))
instance:HC 211 (Ty @ZbO):=⟨ZbO⟩
theorem ZbU:kT Tryz.prog 174 true Zaz:=wK Tryz.func174 Tryz.ntmps174 Tryz.results174 Zaz.eq_1 .e
instance:HC 174 (Ty @ZbU):=⟨ZbU⟩
theorem ZbM:kT Tryz.prog 134 true Wu:=wK Tryz.func134 Tryz.ntmps134 Tryz.results134 Wu.eq_1 .e
instance:HC 134 (Ty @ZbM):=⟨ZbM⟩
theorem Zdo:kT Tryz.prog 175 true XR:=wK Tryz.func175 Tryz.ntmps175 Tryz.results175 XR.eq_1 (hj [] [] [] (fun (i:List Int)=>[(5,oO 448 i.length)]) (hl [0,1] [] [] 2 Yb.eq_1 Yb.eq_2 (fun (i:(List Int)×Int)=>[(5,oO 448 i.1.length),(6,oI i.2)]) (.i (hj [0,1,6] [] [] (fun (i:List Int)=>[(5,oO 448 i.length)]) (hj [0,1,5,6] [] [448] (fun (i:Bool)=>[(28,oB i)])) (ca:=fun i=>[(448,aT iC i)])) .e) (ca:=fun i=>[(448,aT iC i.1)])) (ca:=fun i=>[(448,aT iC i)]))
instance:HC 175 (Ty @Zdo):=⟨Zdo⟩
theorem Zax:kT Tryz.prog 135 true Qk:=wK Tryz.func135 Tryz.ntmps135 Tryz.results135 Qk.eq_1 .e
instance:HC 135 (Ty @Zax):=⟨Zax⟩
theorem Kb:kT Tryz.prog 128 true Ym:=wK Tryz.func128 Tryz.ntmps128 Tryz.results128 Ym.eq_1 (hU [] [] [] (hl [0,1] [] [] 1 YX.eq_1 YX.eq_2 (fun (i:Int)=>[(5,oI i)])))
instance:HC 128 (Ty @Kb):=⟨Kb⟩
end Go.Proofs.YtpblakfidofgfaaGreatDoor
