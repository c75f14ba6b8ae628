import Derived.Test.YtmcfegjoccgpoaaGreatDoorZJ5
set_option linter.unusedSimpArgs false
set_option linter.unusedVariables false
set_option maxHeartbeats 4000000
set_option maxRecDepth 100000
namespace Go.Proofs.YtmcfegjoccgpoaaGreatDoor
open Go.Proofs.Tryz
open Go.RowKit Am
instance:UV 110 true ZbL:=⟨wK func110 ntmps110 results110 ZbL.eq_1 .e⟩
instance:UV 63 true Zc4:=⟨wK func63 ntmps63 results63 Zc4.eq_1 (.i .e (hJ [] [] [] (λ(i:Int)=>[(1,oI i)]) (hl [0] [] [] 2 VU.eq_1 VU.eq_2 (λ(i:Int×Int)=>[(1,oI i.1),(5,oI i.2)]))))⟩
instance:UV 26 true Jx:=⟨wK func26 ntmps26 results26 Jx.eq_1 .e⟩
instance:UV 111 true ZbK:=⟨wK func111 ntmps111 results111 ZbK.eq_1 .e⟩
instance:UV 64 true Zc3:=⟨wK func64 ntmps64 results64 Zc3.eq_1 (.i .e (hJ [] [] [] (λ(i:Int)=>[(1,oI i)]) (hl [0] [] [] 2 VT.eq_1 VT.eq_2 (λ(i:Int×Int)=>[(1,oI i.1),(5,oI i.2)]))))⟩
instance:UV 27 true ZcY:=⟨wK func27 ntmps27 results27 ZcY.eq_1 .e⟩
instance:UV 153 true Ks:=⟨wK func153 ntmps153 results153 Ks.eq_1 (.i .e (hJ [] [] [] (λ(i:Int)=>[(1,oI i)]) (hl [0] [] [] 2 We.eq_1 We.eq_2 (λ(i:Int×Int)=>[(1,oI i.1),(5,oI i.2)]))))⟩
instance:UV 113 true Zeh:=⟨wK func113 ntmps113 results113 Zeh.eq_1 .e⟩
instance:UV 223 true Kt:=⟨wK func223 ntmps223 results223 Kt.eq_1 .e⟩
instance:UV 187 true Zfj:=⟨wK func187 ntmps187 results187 Zfj.eq_1 .e⟩
instance:UV 154 true ZfT:=⟨wK func154 ntmps154 results154 ZfT.eq_1 (.i .e (hJ [] [] [] (λ(i:Int)=>[(1,oI i)]) (hl [0] [] [] 2 UH.eq_1 UH.eq_2 (λ(i:Int×Int)=>[(1,oI i.1),(5,oI i.2)]))))⟩
theorem ZkJ:∀(k:Nat),(kT Tryz.prog 152 true (Kc k))/\
  (kT Tryz.prog 114 true (Xu k)):=by
 intro k
 induction k with
 | zero=>exact ⟨by (repeat intro hM);simp [Kc] at hM,by (repeat intro hM);simp [Xu] at hM⟩
 | succ k m=>
  obtain ⟨j,l⟩:=m;refine ⟨?_, ?_⟩
  ·haveI:HC 152 _:=⟨j⟩;haveI:HC 114 _:=⟨l⟩;exact wK func152 ntmps152 results152 Kc.eq_2 (.i .e (hJ [] [] [] (λ(i:Int)=>[(1,oI i)]) (hl [0] [] [] 2 WY.eq_1 WY.eq_2 (λ(i:Int×Int)=>[(1,oI i.1),(5,oI i.2)]))))
  ·haveI:HC 152 _:=⟨j⟩;haveI:HC 114 _:=⟨l⟩;exact wK func114 ntmps114 results114 Xu.eq_2 .e
theorem ZfR (k:Nat):kT Tryz.prog 114 true (Xu k):=(ZkJ k).2
instance:HC 114 (Ty @ZfR):=⟨ZfR⟩
instance:UV 151 true Zeg:=⟨wK func151 ntmps151 results151 Zeg.eq_1 .e⟩
instance:UV 112 true Zc1:=⟨wK func112 ntmps112 results112 Zc1.eq_1 (.i .e (hJ [] [] [] (λ(i:Int)=>[(1,oI i)]) (hl [0] [] [] 2 VS.eq_1 VS.eq_2 (λ(i:Int×Int)=>[(1,oI i.1),(5,oI i.2)]))))⟩
instance:UV 65 true Zef:=⟨wK func65 ntmps65 results65 Zef.eq_1 .e⟩
instance:UV 28 true ZcZ:=⟨wK func28 ntmps28 results28 ZcZ.eq_1 (.i .e (hJ [] [] [] (λ(i:Int)=>[(1,oI i)]) (hl [0] [] [] 2 VR.eq_1 VR.eq_2 (λ(i:Int×Int)=>[(1,oI i.1),(5,oI i.2)]))))⟩
instance:UV 66 true ZaQ:=⟨wK func66 ntmps66 results66 ZaQ.eq_1 .e⟩
instance:UV 29 true ZaP:=⟨wK func29 ntmps29 results29 ZaP.eq_1 (.i .e (hJ [] [] [] (λ(i:Int)=>[(1,oI i)]) (hl [0] [] [] 2 WZ.eq_1 WZ.eq_2 (λ(i:Int×Int)=>[(1,oI i.1),(5,oI i.2)]))))⟩
theorem Xc:kT Tryz.prog 8 true W0:=wK func8 ntmps8 results8 W0.eq_1 .e
instance:HC 8 (Ty @Xc):=⟨Xc⟩
instance:UV 127 true ZbJ:=⟨wK func127 ntmps127 results127 ZbJ.eq_1 .e⟩
instance:UV 74 true ZcX:=⟨wK func74 ntmps74 results74 ZcX.eq_1 (hj [] [] [] (λ(i:List Zo)=>[(3,oO 448 i.length)]) (hl [0] [] [] 2 VQ.eq_1 VQ.eq_2 (λ(i:(List Zo)×Int)=>[(3,oO 448 i.1.length),(4,oI i.2)]) (ca:=λi=>[(448,aT Zo.c i.1)])) (ca:=λi=>[(448,aT Zo.c i)]))⟩
instance:UV 32 true Jw:=⟨wK func32 ntmps32 results32 Jw.eq_1 .e⟩
instance:UV 128 true ZbI:=⟨wK func128 ntmps128 results128 ZbI.eq_1 .e⟩
instance:UV 75 true ZcW:=⟨wK func75 ntmps75 results75 ZcW.eq_1 (hj [] [] [] (λ(i:List Zq)=>[(3,oO 448 i.length)]) (hl [0] [] [] 2 VP.eq_1 VP.eq_2 (λ(i:(List Zq)×Int)=>[(3,oO 448 i.1.length),(4,oI i.2)]) (ca:=λi=>[(448,aT Zq.c i.1)])) (ca:=λi=>[(448,aT Zq.c i)]))⟩
instance:UV 33 true ZcR:=⟨wK func33 ntmps33 results33 ZcR.eq_1 .e⟩
instance:UV 168 true Kq:=⟨wK func168 ntmps168 results168 Kq.eq_1 (hj [] [] [] (λ(i:List Ma)=>[(3,oO 448 i.length)]) (hl [0] [] [] 2 Wc.eq_1 Wc.eq_2 (λ(i:(List Ma)×Int)=>[(3,oO 448 i.1.length),(4,oI i.2)]) (ca:=λi=>[(448,aT sC i.1)])) (ca:=λi=>[(448,aT sC i)]))⟩
instance:UV 130 true Zee:=⟨wK func130 ntmps130 results130 Zee.eq_1 (hj [] [] [] (λ(i:List Int)=>[(3,oO 448 i.length)]) (hl [0] [] [] 2 UG.eq_1 UG.eq_2 (λ(i:(List Int)×Int)=>[(3,oO 448 i.1.length),(4,oI i.2)]) (ca:=λi=>[(448,aT iC i.1)])) (ca:=λi=>[(448,aT iC i)]))⟩
instance:UV 279 true UF:=⟨wK func279 ntmps279 results279 UF.eq_1 .e⟩
instance:UV 241 true Kr:=⟨wK func241 ntmps241 results241 Kr.eq_1 (hj [] [] [] (λ(i:List Zk)=>[(3,oO 448 i.length)]) (hl [0] [] [] 2 Wd.eq_1 Wd.eq_2 (λ(i:(List Zk)×Int)=>[(3,oO 448 i.1.length),(4,oI i.2)]) (ca:=λi=>[(448,aT Zk.c i.1)])) (ca:=λi=>[(448,aT Zk.c i)]))⟩
instance:UV 203 true Zhv:=⟨wK func203 ntmps203 results203 Zhv.eq_1 .e⟩
instance:UV 169 true ZfK:=⟨wK func169 ntmps169 results169 ZfK.eq_1 (hj [] [] [] (λ(i:List ZP)=>[(3,oO 448 i.length)]) (hl [0] [] [] 2 UE.eq_1 UE.eq_2 (λ(i:(List ZP)×Int)=>[(3,oO 448 i.1.length),(4,oI i.2)]) (ca:=λi=>[(448,aT ZP.c i.1)])) (ca:=λi=>[(448,aT ZP.c i)]))⟩
theorem ZkF:∀(k:Nat),(kT Tryz.prog 167 true (Kb k))/\
  (kT Tryz.prog 131 true (Xt k)):=by
 intro k
 induction k with
 | zero=>exact ⟨by (repeat intro hM);simp [Kb] at hM,by (repeat intro hM);simp [Xt] at hM⟩
 | succ k m=>
  obtain ⟨j,l⟩:=m;refine ⟨?_, ?_⟩
  ·haveI:HC 167 _:=⟨j⟩;haveI:HC 131 _:=⟨l⟩;exact wK func167 ntmps167 results167 Kb.eq_2 (hj [] [] [] (λ(i:List Zb)=>[(3,oO 448 i.length)]) (hl [0] [] [] 2 WW.eq_1 WW.eq_2 (λ(i:(List Zb)×Int)=>[(3,oO 448 i.1.length),(4,oI i.2)]) (ca:=λi=>[(448,aT Zb.c i.1)])) (ca:=λi=>[(448,aT Zb.c i)]))
  ·haveI:HC 167 _:=⟨j⟩;haveI:HC 131 _:=⟨l⟩;exact wK func131 ntmps131 results131 Xt.eq_2 .e
theorem ZfI (k:Nat):kT Tryz.prog 131 true (Xt k):=(ZkF k).2
instance:HC 131 (Ty @ZfI):=⟨ZfI⟩
instance:UV 166 true Zed:=⟨wK func166 ntmps166 results166 Zed.eq_1 .e⟩
instance:UV 129 true ZcU:=⟨wK func129 ntmps129 results129 ZcU.eq_1 (hj [] [] [] (λ(i:List Zw)=>[(3,oO 448 i.length)]) (hl [0] [] [] 2 VO.eq_1 VO.eq_2 (λ(i:(List Zw)×Int)=>[(3,oO 448 i.1.length),(4,oI i.2)]) (ca:=λi=>[(448,aT Zw.c i.1)])) (ca:=λi=>[(448,aT Zw.c i)]))⟩
instance:UV 76 true Zec:=⟨wK func76 ntmps76 results76 Zec.eq_1 .e⟩
instance:UV 34 true ZcS:=⟨wK func34 ntmps34 results34 ZcS.eq_1 (hj [] [] [] (λ(i:List Zn)=>[(3,oO 448 i.length)]) (hl [0] [] [] 2 VN.eq_1 VN.eq_2 (λ(i:(List Zn)×Int)=>[(3,oO 448 i.1.length),(4,oI i.2)]) (ca:=λi=>[(448,aT Zn.c i.1)])) (ca:=λi=>[(448,aT Zn.c i)]))⟩
instance:UV 77 true ZaO:=⟨wK func77 ntmps77 results77 ZaO.eq_1 .e⟩
instance:UV 35 true ZaN:=⟨wK func35 ntmps35 results35 ZaN.eq_1 (hj [] [] [] (λ(i:List Ze)=>[(3,oO 448 i.length)]) (hl [0] [] [] 2 WX.eq_1 WX.eq_2 (λ(i:(List Ze)×Int)=>[(3,oO 448 i.1.length),(4,oI i.2)]) (ca:=λi=>[(448,aT Ze.c i.1)])) (ca:=λi=>[(448,aT Ze.c i)]))⟩
theorem ZA:kT Tryz.prog 10 true Z0:=wK func10 ntmps10 results10 Z0.eq_1 .e
instance:HC 10 (Ty @ZA):=⟨ZA⟩
theorem Y7:kT Tryz.prog 12 true Vv:=wK func12 ntmps12 results12 Vv.eq_1 (.i .e (hU [] [] [] (hl [0,1] [] [] 1 UK.eq_1 UK.eq_2 (λ(i:Int)=>[(5,oI i)]) (.i (hq 8) .e))))
instance:HC 12 (Ty @Y7):=⟨Y7⟩
end Go.Proofs.YtmcfegjoccgpoaaGreatDoor
