import Derived.Test.YtmcfegjoccgpoaaGreatDoorZJ11
import Derived.Test.YtmcfegjoccgpoaaGreatDoorZJ34
set_option linter.unusedSimpArgs false
set_option linter.unusedVariables false
set_option maxHeartbeats 4000000
set_option maxRecDepth 100000
namespace Go.Proofs.YtmcfegjoccgpoaaGreatDoor
open Go.Proofs.Tryz
open Go.RowKit Am
instance:UV 61 true UZ:=⟨wK func61 ntmps61 results61 UZ.eq_1 (hj [] [] [] (λ(i:Int)=>[(3,oI i)]) (hl [1] [1] [] 2 Qn.eq_1 Qn.eq_2 (λ(i:Int×Int)=>[(3,oI i.1),(4,oI i.2)]) (.i (hj [1,4] [1] [] (λ(i:Int)=>[(3,oI i)])) .e)))⟩
theorem JS:kT Tryz.prog 24 false JC:=wK func24 ntmps24 results24 JC.eq_1 (hJ [2,3] [2] [] (λ(i:(List Zo)×Int×Int×(List Zq)×(List Zn)×(List Ze)×Int×Int×Int)=>[]) (hl [2,3] [2] [] 9 YO.eq_1 YO.eq_2 (λ(i:(List Zo)×Int×Int×(List Zq)×(List Zn)×(List Ze)×Int×Int×Int)=>[]) (hq 4) (cb:=λi=>[(3,[cL Zo.c i.1,cI i.2.1,cI i.2.2.1,cL Zq.c i.2.2.2.1,cL Zn.c i.2.2.2.2.1,cL Ze.c i.2.2.2.2.2.1,cI i.2.2.2.2.2.2.1,cI i.2.2.2.2.2.2.2.1,cI i.2.2.2.2.2.2.2.2])])) (cb:=λi=>[(3,[cL Zo.c i.1,cI i.2.1,cI i.2.2.1,cL Zq.c i.2.2.2.1,cL Zn.c i.2.2.2.2.1,cL Ze.c i.2.2.2.2.2.1,cI i.2.2.2.2.2.2.1,cI i.2.2.2.2.2.2.2.1,cI i.2.2.2.2.2.2.2.2])]))
instance:HC 24 (Ty @JS):=⟨JS⟩
instance:UV 62 true Km:=⟨wK func62 ntmps62 results62 Km.eq_1 (hj [] [] [] (λ(i:Int)=>[(3,oI i)]) (hl [7,8] [] [] 2 Vj.eq_1 Vj.eq_2 (λ(i:Int×Int)=>[(3,oI i.1),(9,oI i.2)]) (.i (hj [7,8,9] [] [] (λ(i:Int)=>[(3,oI i)])) .e)))⟩
theorem VA:kT Tryz.prog 25 true V8:=wK func25 ntmps25 results25 V8.eq_1 (hj [2,3] [2] [] (λ(i:(List Zo)×Int×Int×(List Zq)×(List Zn)×(List Ze)×Int×Int×Int)=>[]) (hl [2,3] [2] [] 9 YQ.eq_1 YQ.eq_2 (λ(i:(List Zo)×Int×Int×(List Zq)×(List Zn)×(List Ze)×Int×Int×Int)=>[]) (hq 4 (.i (.i .e (.r [] [(960,448),(961,449),(962,450),(963,451)] [2,3] [2,3] [960,961,962,963])) .e)) (ca:=λi=>[(448,aT Zo.c i.1),(449,aT Zq.c i.2.2.2.1),(450,aT Zn.c i.2.2.2.2.1),(451,aT Ze.c i.2.2.2.2.2.1)]) (cb:=λi=>[(3,[.own 448 i.1.length,cI i.2.1,cI i.2.2.1,.own 449 i.2.2.2.1.length,.own 450 i.2.2.2.2.1.length,.own 451 i.2.2.2.2.2.1.length,cI i.2.2.2.2.2.2.1,cI i.2.2.2.2.2.2.2.1,cI i.2.2.2.2.2.2.2.2])])) (ca:=λi=>[(448,aT Zo.c i.1),(449,aT Zq.c i.2.2.2.1),(450,aT Zn.c i.2.2.2.2.1),(451,aT Ze.c i.2.2.2.2.2.1)]) (cb:=λi=>[(3,[.own 448 i.1.length,cI i.2.1,cI i.2.2.1,.own 449 i.2.2.2.1.length,.own 450 i.2.2.2.2.1.length,.own 451 i.2.2.2.2.2.1.length,cI i.2.2.2.2.2.2.1,cI i.2.2.2.2.2.2.2.1,cI i.2.2.2.2.2.2.2.2])]))
instance:HC 25 (Ty @VA):=⟨VA⟩
end Go.Proofs.YtmcfegjoccgpoaaGreatDoor
