import Derived.Test.YtmcfegjoccgpoaaGreatDoorZJ24
import Derived.Test.YtmcfegjoccgpoaaGreatDoorZJ25
import Derived.Test.YtmcfegjoccgpoaaGreatDoorZJ26
import Derived.Test.YtmcfegjoccgpoaaGreatDoorZJ23
set_option linter.unusedSimpArgs false
set_option linter.unusedVariables false
set_option maxHeartbeats 4000000
set_option maxRecDepth 100000
namespace Go.Proofs.YtmcfegjoccgpoaaGreatDoor
open Go.Proofs.Tryz
open Go.RowKit Am
theorem KM (a0:Zf) (a1:Ma) (r:Bool×Zf) (hM:Zi a0 a1=some r):ZeC Tryz.prog 250 [] (Zf.c a0) [.one (.str a1)] true [.one (.bool r.1)] (Zf.c r.2):=by
 unfold Zi at hM;exact wP func250 ntmps250 results250 .e
instance:HC 250 (Ty @KM):=⟨KM⟩
theorem ZaC:kT Tryz.prog 72 true Kh:=wK func72 ntmps72 results72 Kh.eq_1 (hj [0,1] [] [] (λ(i:(List Bool)×Int)=>[(7,oO 896 i.1.length),(8,oI i.2)]) (hl [0,1,2] [] [] 3 Q1.eq_1 Q1.eq_2 (λ(i:(List Bool)×Int×Int)=>[(7,oO 896 i.1.length),(8,oI i.2.1),(9,oI i.2.2)]) (.i (hj [0,1,2,9] [] [] (λ(i:(List Bool)×Int)=>[(7,oO 896 i.1.length),(8,oI i.2)]) (hj [0,1,2,8,9] [] [] (λ(i:List Bool)=>[(7,oO 896 i.length)]) (ca:=λi=>[(896,aT bC i)])) (ca:=λi=>[(896,aT bC i.1)])) .e) (ca:=λi=>[(896,aT bC i.1)])) (hj [] [] [] (λ(i:List Int)=>[(10,oO 3648 i.length)]) (hl [0,1,7,8] [] [896] 1 XU.eq_1 XU.eq_2 (λ(i:List Int)=>[(10,oO 3648 i.length)]) (.i (hl [0,1,7,8,10] [] [896,3648] 1 Qj.eq_1 Qj.eq_2 (λ(i:Int)=>[(11,oI i)]) (.i (hj [0,1,7,8,10,11] [] [896,3648] (λ(i:Bool)=>[(86,oB i)])) .e)) .e) (ca:=λi=>[(3648,aT iC i)])) (ca:=λi=>[(3648,aT iC i)])) (ca:=λi=>[(896,aT bC i.1)]))
instance:HC 72 (Ty @ZaC):=⟨ZaC⟩
instance:UV 156 false WI:=⟨wK func156 ntmps156 results156 WI.eq_1 (.i .e (hp [2,4,6] [2,21] [] 5 [640] (hj [2,6,7] [2,7] [] (λ(i:(List Zj)×Int×Int×Int)=>[]) (hj [2,6,7] [2,7,21] [] (λ(i:Bool)=>[(37,oB i)])) (.i (hf [2,6] [2,21] [] 9 (ho [[],[1000002],[1,1000002],[1,2,1000002],[1,2,3,1000002],[0],[0,1,2,3,4,5]])) .e) (cb:=λi=>[(21,[cL Zj.c i.1,cI i.2.1,cI i.2.2.1,cI i.2.2.2])]))))⟩
theorem ZnG:∀(k:Nat),(kT Tryz.prog 237 true (Zai k))/\
  (kT Tryz.prog 197 true (ZZ k)):=by
 intro k
 induction k with
 | zero=>exact ⟨by (repeat intro hM);simp [Zai] at hM,by (repeat intro hM);simp [ZZ] at hM⟩
 | succ k m=>
  obtain ⟨l,j⟩:=m;refine ⟨?_, ?_⟩
  ·haveI:HC 237 _:=⟨l⟩;haveI:HC 197 _:=⟨j⟩;exact wK func237 ntmps237 results237 Zai.eq_2 (hU [1] [1] [] (hl [1] [1] [] 1 UN.eq_1 UN.eq_2 (λ(i:Int)=>[(3,oI i)]) (.i (hj [1,3] [1] [] (λ(i:Bool)=>[(26,oB i)])) .e)) (hj [] [] [] (λ(i:Bool)=>[(2,oB i)])))
  ·haveI:HC 237 _:=⟨l⟩;haveI:HC 197 _:=⟨j⟩;exact wK func197 ntmps197 results197 ZZ.eq_2 (hj [1] [1] [] (λ(i:Bool)=>[(26,oB i)]) .e (.i .e (hj [1] [1] [] (λ(i:Bool)=>[(44,oB i)]) .e (.i .e (.i .e (.i (hj [] [] [] (λ(i:Bool)=>[(2,oB i)])) (.i (hj [] [] [] (λ(i:Bool)=>[(2,oB i)])) (.i (hj [] [] [] (λ(i:Bool)=>[(2,oB i)])) (.i (hj [] [] [] (λ(i:Bool)=>[(2,oB i)])) .e)))))))))
theorem Zak (k:Nat):kT Tryz.prog 197 true (ZZ k):=(ZnG k).2
instance:HC 197 (Ty @Zak):=⟨Zak⟩
instance:UV 160 true Ul:=⟨wK func160 ntmps160 results160 Ul.eq_1 (hj [0,3,4] [3,4] [] (λ(i:Bool)=>[(18,oB i)]) .e (.i .e (hjz [4,5] [4] [1344,1345] [0] (λ(i:List ZP)=>[]) (hlz [0,4,5] [4] [1344,1345] [0] 2 Yl.eq_1 Yl.eq_2 (λ(i:(List ZP)×Int)=>[(6,oI i.2)]) (ca:=λi=>[(1346,aT ZP.c i.1)]) (cb:=λi=>[(5,[.any,.any,.any,.any,.any,.any,.own 1346 i.1.length])])) (ca:=λi=>[(1346,aT ZP.c i)]) (cb:=λi=>[(5,[.any,.any,.any,.any,.any,.any,.own 1346 i.length])]))))⟩
end Go.Proofs.YtmcfegjoccgpoaaGreatDoor
