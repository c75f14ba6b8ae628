import Derived.Test.YtmcfegjoccgpoaaGreatDoorZJ25
import Derived.Test.YtmcfegjoccgpoaaGreatDoorZJ23
import Derived.Test.YtmcfegjoccgpoaaGreatDoorZJ24
import Derived.Test.YtmcfegjoccgpoaaGreatDoorZJ26
set_option linter.unusedSimpArgs false
set_option linter.unusedVariables false
set_option maxHeartbeats 4000000
set_option maxRecDepth 100000
namespace Go.Proofs.YtmcfegjoccgpoaaGreatDoor
open Go.Proofs.Tryz
open Go.RowKit Am
instance:UV 206 true Z8:=⟨wK func206 ntmps206 results206 Z8.eq_1 (hj [] [] [] (λ(i:Bool)=>[(2,oB i)]))⟩
instance:UV 170 true Qp:=⟨wK func170 ntmps170 results170 Qp.eq_1 (hj [1] [1] [] (λ(i:Bool)=>[(18,oB i)]) .e (.i .e (.i (hj [] [] [] (λ(i:Bool)=>[(2,oB i)])) (hj [1,20] [1] [] (λ(i:Bool)=>[(31,oB i)]) .e (.i (hj [] [] [] (λ(i:Bool)=>[(2,oB i)])) (.i (hj [] [] [] (λ(i:Bool)=>[(2,oB i)])) .e))))))⟩
instance:UV 132 true XE:=⟨wK func132 ntmps132 results132 XE.eq_1 (hU [1] [1] [] (hl [1,6,7] [1] [] 1 YT.eq_1 YT.eq_2 (λ(i:Int)=>[(8,oI i)]) (.i (hj [1,6,7,8] [1] [] (λ(i:Bool)=>[(23,oB i)])) .e)))⟩
theorem Zbn (k:Nat) (a0:Zf) (r:Ma×Zf) (hM:Yy k a0=some r):ZeC Tryz.prog 247 [] (Zf.c a0) [] true [.one (.str r.1)] (Zf.c r.2):=by
 unfold Yy at hM;exact wP func247 ntmps247 results247 (hj [0,3] [3,26] [] (λ(i:Bool)=>[(14,oB i)]))
instance:HC 247 (Ty @Zbn):=⟨Zbn⟩
instance:UV 286 true Zb5:=⟨wK func286 ntmps286 results286 Zb5.eq_1 (.i (hj [] [] [] (λ(i:Bool)=>[(2,oB i)])) (.i (hj [] [] [] (λ(i:Bool)=>[(2,oB i)])) (.i (hj [] [] [] (λ(i:Bool)=>[(2,oB i)])) (.i (hj [] [] [] (λ(i:Bool)=>[(2,oB i)])) (.i (hj [] [] [] (λ(i:Bool)=>[(2,oB i)])) (.i (hj [] [] [] (λ(i:Bool)=>[(2,oB i)])) (hj [1,3,8] [1] [] (λ(i:Bool)=>[(91,oB i)]) .e (.i (hj [] [] [] (λ(i:Bool)=>[(2,oB i)])) (.i (hj [] [] [] (λ(i:Bool)=>[(2,oB i)])) .e)))))))))⟩
theorem ZkS:∀(k:Nat),(kT Tryz.prog 254 true (QU k)):=by
 intro k
 induction k with
 | zero=>(repeat intro hM);simp [QU] at hM
 | succ k j=>
  ·haveI:HC 254 _:=⟨j⟩;exact wK func254 ntmps254 results254 QU.eq_2 (hU [1] [1] [] (hl [1,6,7] [1] [] 1 Ve.eq_1 Ve.eq_2 (λ(i:Int)=>[(8,oI i)])))
theorem Ze8 (k:Nat):kT Tryz.prog 254 true (QU k):=(ZkS k)
instance:HC 254 (Ty @Ze8):=⟨Ze8⟩
instance:UV 209 true Vg:=⟨wK func209 ntmps209 results209 Vg.eq_1 (hj [] [] [] (λ(i:Bool)=>[(2,oB i)]))⟩
instance:UV 214 true V7:=⟨wK func214 ntmps214 results214 V7.eq_1 (hU [0] [] [] (hl [0,5,6] [] [] 1 XD.eq_1 XD.eq_2 (λ(i:Int)=>[(7,oI i)])) (hj [] [] [] (λ(i:Bool)=>[(2,oB i)])))⟩
instance:UV 259 true ZdH:=⟨wK func259 ntmps259 results259 ZdH.eq_1 (hj [1] [1] [] (λ(i:Bool)=>[(18,oB i)]) .e (.i .e (hU [] [] [] (hl [1,20,21] [1] [] 1 Q8.eq_1 Q8.eq_2 (λ(i:Int)=>[(22,oI i)]) (.i (hU [1,20,21,22] [1] [] (.i .e (hU [1,4,20,21,22] [1,4] [] (hl [1,4,20,21,22,34,35] [1,4] [] 1 WN.eq_1 WN.eq_2 (λ(i:Int)=>[(36,oI i)])) (hl [1,4,20,21,22,45,46] [1,4] [] 1 WM.eq_1 WM.eq_2 (λ(i:Int)=>[(47,oI i)]) (.i (hj [1,4,20,21,22,45,46,47] [1,4] [] (λ(i:Bool)=>[(74,oB i)]) (hq 19)) .e))))) .e)))))⟩
theorem Zg5:∀(k:Nat),(kT Tryz.prog 213 true (ZM k)):=by
 intro k
 induction k with
 | zero=>(repeat intro hM);simp [ZM] at hM
 | succ k j=>
  ·haveI:HC 213 _:=⟨j⟩;exact wK func213 ntmps213 results213 ZM.eq_2 (hj [1] [1] [] (λ(i:Bool)=>[(3,oB i)]) .e (.i (hj [] [] [] (λ(i:Bool)=>[(2,oB i)])) (.i (hj [] [] [] (λ(i:Bool)=>[(2,oB i)])) (.i (hj [] [] [] (λ(i:Bool)=>[(2,oB i)])) (.i (hj [] [] [] (λ(i:Bool)=>[(2,oB i)])) (.i (hj [] [] [] (λ(i:Bool)=>[(2,oB i)])) (.i (hU [1] [1] [] (hl [1,124,125] [1] [] 1 QD.eq_1 QD.eq_2 (λ(i:Int)=>[(126,oI i)]) (.i (hj [1,124,125,126] [1] [] (λ(i:Bool)=>[(147,oB i)])) .e)) (hj [] [] [] (λ(i:Bool)=>[(2,oB i)]))) .e)))))))
theorem Zaq (k:Nat):kT Tryz.prog 213 true (ZM k):=(Zg5 k)
instance:HC 213 (Ty @Zaq):=⟨Zaq⟩
instance:UV 173 true WT:=⟨wK func173 ntmps173 results173 WT.eq_1 (hJz [2,5] [2] [960] [0] (λ(i:List ZP)=>[]) (hp [2,4,5] [2,5] [960] 3 [704] (hlz [2,5,18,19] [2] [960] [0] 2 QA.eq_1 QA.eq_2 (λ(i:(List ZP)×Int)=>[(20,oI i.2)]) (ca:=λi=>[(2560,aT ZP.c i.1)]) (cb:=λi=>[(5,[.any,.any,.any,.any,.any,.any,.own 2560 i.1.length])]))) (ca:=λi=>[(2560,aT ZP.c i)]) (cb:=λi=>[(5,[.any,.any,.any,.any,.any,.any,.own 2560 i.length])]))⟩
instance:UV 174 true KR:=⟨wK func174 ntmps174 results174 KR.eq_1 (.i .e (.i .e (hU [] [] [] (hp [5,6] [] [1408] 8 [1152] (hl [6,27,28] [] [1408] 1 QB.eq_1 QB.eq_2 (λ(i:Int)=>[(29,oI i)]) (.i (hj [6,7,27,28,29] [] [1408] (λ(i:Bool)=>[(46,oB i)])) .e))))))⟩
instance:UV 175 true Uu:=⟨wK func175 ntmps175 results175 Uu.eq_1 (hj [0,3,4] [3,4] [] (λ(i:Bool)=>[(18,oB i)]) .e (.i .e (hjz [4,5] [4] [1344,1345] [0] (λ(i:List ZP)=>[]) (hlz [0,4,5,24] [4] [1344,1345] [0] 2 Qd.eq_1 Qd.eq_2 (λ(i:(List ZP)×Int)=>[(25,oI i.2)]) (ca:=λi=>[(1346,aT ZP.c i.1)]) (cb:=λi=>[(5,[.any,.any,.any,.any,.any,.any,.own 1346 i.1.length])])) (ca:=λi=>[(1346,aT ZP.c i)]) (cb:=λi=>[(5,[.any,.any,.any,.any,.any,.any,.own 1346 i.length])]))))⟩
end Go.Proofs.YtmcfegjoccgpoaaGreatDoor
