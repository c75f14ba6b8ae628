import Derived.Test.YtpblakfidofgfaaGreatDoorZJ6
import Derived.Test.YtpblakfidofgfaaGreatDoorZCt4
set_option linter.unusedSimpArgs false
set_option linter.unusedVariables false
namespace Go.Proofs.YtpblakfidofgfaaGreatDoor
open Go.RowKit Am
set_option maxHeartbeats 4000000
set_option maxRecDepth 100000
theorem Zb1:kT Tryz.prog 273 true ZcL:=wK Tryz.func273 Tryz.ntmps273 Tryz.results273 ZcL.eq_1 (hj [] [] [] (fun (i:List Int)=>[(4,oO 512 i.length)]) (hl [3,9,10] [] [] 3 V9.eq_1 V9.eq_2 (fun (i:(List (Int×Bool))×(List Int)×Int)=>[(4,oO 512 i.2.1.length),(11,oI i.2.2)]) (.i (hj [3,9,10,11] [] [] (fun (i:(List (Int×Bool))×(List Int))=>[(4,oO 512 i.2.length)]) (ca:=fun i=>[(512,aT iC i.2)]) (cb:=fun i=>[(7,[.mc (.ib i.1)])])) .e) (ca:=fun i=>[(512,aT iC i.2.1)]) (cb:=fun i=>[(7,[.mc (.ib i.1)])])) (ca:=fun i=>[(512,aT iC i)]))
instance:HC 273 (Ty @Zb1):=⟨Zb1⟩
set_option maxHeartbeats 4000000
set_option maxRecDepth 100000
theorem KJ:kT Tryz.prog 225 true Vy:=wK Tryz.func225 Tryz.ntmps225 Tryz.results225 Vy.eq_1 (.i .e (hU [] [] [] (hl [0,1,12] [] [] 1 Qu.eq_1 Qu.eq_2 (fun (i:Int)=>[(13,oI i)]) (.i (hq 8) .e))))
instance:HC 225 (Ty @KJ):=⟨KJ⟩
set_option maxHeartbeats 4000000
set_option maxRecDepth 100000
theorem KK:kT Tryz.prog 226 true Vz:=wK Tryz.func226 Tryz.ntmps226 Tryz.results226 Vz.eq_1 (.i .e (hU [] [] [] (hl [0,1,12] [] [] 1 Qv.eq_1 Qv.eq_2 (fun (i:Int)=>[(13,oI i)]) (.i (hq 8) .e))))
instance:HC 226 (Ty @KK):=⟨KK⟩
set_option maxHeartbeats 4000000
set_option maxRecDepth 100000
theorem ZgM:kT Tryz.prog 214 true XZ:=wK Tryz.func214 Tryz.ntmps214 Tryz.results214 XZ.eq_1 (hj [] [] [] (fun (i:Bool)=>[(6,oB i)]))
instance:HC 214 (Ty @ZgM):=⟨ZgM⟩
set_option maxHeartbeats 4000000
set_option maxRecDepth 100000
theorem ZgN:kT Tryz.prog 252 true Zfi:=wK Tryz.func252 Tryz.ntmps252 Tryz.results252 Zfi.eq_1 (hU [0] [] [] (hl [0] [] [] 1 Ub.eq_1 Ub.eq_2 (fun (i:Int)=>[(3,oI i)]) (.i (hj [0,3] [] [] (fun (i:Bool)=>[(4,oB i)]) .e (hj [0,3] [] [] (fun (i:Bool)=>[(38,oB i)]))) .e)))
instance:HC 252 (Ty @ZgN):=⟨ZgN⟩
set_option maxHeartbeats 4000000
set_option maxRecDepth 100000
theorem Zdu:kT Tryz.prog 261 true KU:=wK Tryz.func261 Tryz.ntmps261 Tryz.results261 KU.eq_1 .e
instance:HC 261 (Ty @Zdu):=⟨Zdu⟩
set_option maxHeartbeats 4000000
set_option maxRecDepth 100000
theorem Zh3:∀(k:Nat),(kT Tryz.prog 262 true (Xv k)):=by
 intro k
 induction k with
 | zero=>(repeat intro hM);simp [Xv] at hM
 | succ k ih_i_NodeCount=>
  ·haveI:HC 262 _:=⟨ih_i_NodeCount⟩;exact wK Tryz.func262 Tryz.ntmps262 Tryz.results262 Xv.eq_2 (hj [] [] [] (fun (i:Int)=>[(3,oI i)]) (hl [7,8] [] [] 2 QU.eq_1 QU.eq_2 (fun (i:Int×Int)=>[(3,oI i.1),(9,oI i.2)])))
theorem Zcb (k:Nat):kT Tryz.prog 262 true (Xv k):=(Zh3 k)
instance:HC 262 (Ty @Zcb):=⟨Zcb⟩
set_option maxHeartbeats 4000000
set_option maxRecDepth 100000
theorem Zb7 (a0:ByteArray) (a1:Int) (r:List ByteArray) (hM:W0 a0 a1=some r):Ctr Tryz.prog 221 [.one (.str a0),.one (.int .u8 a1)] true [.one (.sl (r.map sC))]:=by
 unfold W0 at hM;exact wM Tryz.func221 Tryz.ntmps221 Tryz.results221 .e
instance:HC 221 (Ty @Zb7):=⟨Zb7⟩
set_option maxHeartbeats 4000000
set_option maxRecDepth 100000
theorem Zfl:kT Tryz.prog 222 true Uz:=wK Tryz.func222 Tryz.ntmps222 Tryz.results222 Uz.eq_1 (hJ [1] [] [] (fun (i:List Int)=>[(7,oO 896 i.length)]) (hl [1,15,16] [] [832] 2 Yy.eq_1 Yy.eq_2 (fun (i:(List Int)×Int)=>[(7,oO 896 i.1.length),(17,oI i.2)]) (ca:=fun i=>[(896,aT iC i.1)])) (ca:=fun i=>[(896,aT iC i)]))
instance:HC 222 (Ty @Zfl):=⟨Zfl⟩
set_option maxHeartbeats 4000000
set_option maxRecDepth 100000
theorem Zdr:kT Tryz.prog 267 true XS:=wK Tryz.func267 Tryz.ntmps267 Tryz.results267 XS.eq_1 .e
instance:HC 267 (Ty @Zdr):=⟨Zdr⟩
set_option maxHeartbeats 4000000
set_option maxRecDepth 100000
theorem ZeH:kT Tryz.prog 209 true Jk:=wK Tryz.func209 Tryz.ntmps209 Tryz.results209 Jk.eq_1 (.i .e (hU [] [] [] (hl [0,1] [] [] 1 Xh.eq_1 Xh.eq_2 (fun (i:Int)=>[(5,oI i)]) (.i (hq 8) .e))))
instance:HC 209 (Ty @ZeH):=⟨ZeH⟩
set_option maxHeartbeats 4000000
set_option maxRecDepth 100000
theorem Jm:kT Tryz.prog 79 true X5:=wK Tryz.func79 Tryz.ntmps79 Tryz.results79 X5.eq_1 (hj [] [] [] (fun (i:List Bool)=>[(3,oO 704 i.length)]) (hl [0] [] [] 2 Y7.eq_1 Y7.eq_2 (fun (i:(List Bool)×Int)=>[(3,oO 704 i.1.length),(4,oI i.2)]) (.i (hj [0,3,4] [] [704] (fun (i:List Int)=>[(5,oO 1152 i.length)]) (hl [0,3,4] [] [704] 2 Y6.eq_1 Y6.eq_2 (fun (i:(List Int)×Int)=>[(5,oO 1152 i.1.length),(6,oI i.2)]) (.i (hj [0,3,4,6] [] [704] (fun (i:List Int)=>[(5,oO 1152 i.length)]) (hl [0,3,4,6,7] [] [704] 2 XO.eq_1 XO.eq_2 (fun (i:(List Int)×Int)=>[(5,oO 1152 i.1.length),(8,oI i.2)]) (.i (hj [0,3,4,6,7,8] [] [704] (fun (i:List Int)=>[(5,oO 1152 i.length)]) (ca:=fun i=>[(1152,aT iC i)])) .e) (ca:=fun i=>[(1152,aT iC i.1)])) (ca:=fun i=>[(1152,aT iC i)])) .e) (ca:=fun i=>[(1152,aT iC i.1)])) (ca:=fun i=>[(1152,aT iC i)])) .e) (ca:=fun i=>[(704,aT bC i.1)])) (ca:=fun i=>[(704,aT bC i)]))
instance:HC 79 (Ty @Jm):=⟨Jm⟩
end Go.Proofs.YtpblakfidofgfaaGreatDoor
