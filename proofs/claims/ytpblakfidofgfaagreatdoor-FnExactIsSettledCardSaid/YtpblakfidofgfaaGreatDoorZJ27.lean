import Derived.Test.YtpblakfidofgfaaGreatDoorZJ6
import Derived.Test.YtpblakfidofgfaaGreatDoorZCt4
set_option linter.unusedSimpArgs false
set_option linter.unusedVariables false
namespace Go.Proofs.YtpblakfidofgfaaGreatDoor
open Go.RowKit Am
set_option maxHeartbeats 4000000
set_option maxRecDepth 100000
theorem Zdx:kT Tryz.prog 154 true Vn:=wK Tryz.func154 Tryz.ntmps154 Tryz.results154 Vn.eq_1 (hj [] [] [] (fun (i:List Int)=>[(5,oO 512 i.length)]) (hl [1,9,10] [] [] 2 WE.eq_1 WE.eq_2 (fun (i:(List Int)×Int)=>[(5,oO 512 i.1.length),(11,oI i.2)]) (.i (hj [1,9,10,11] [] [] (fun (i:List Int)=>[(5,oO 512 i.length)]) (hj [1,5,6,9,10,11] [] [512] (fun (i:Bool)=>[(24,oB i)])) (ca:=fun i=>[(512,aT iC i)])) .e) (ca:=fun i=>[(512,aT iC i.1)])) (ca:=fun i=>[(512,aT iC i)]))
instance:HC 154 (Ty @Zdx):=⟨Zdx⟩
set_option maxHeartbeats 4000000
set_option maxRecDepth 100000
theorem Zaa:kT Tryz.prog 150 true YJ:=wK Tryz.func150 Tryz.ntmps150 Tryz.results150 YJ.eq_1 (hj [] [] [] (fun (i:Bool)=>[(4,oB i)]))
instance:HC 150 (Ty @Zaa):=⟨Zaa⟩
set_option maxHeartbeats 4000000
set_option maxRecDepth 100000
theorem ZaD:kT Tryz.prog 98 true XC:=wK Tryz.func98 Tryz.ntmps98 Tryz.results98 XC.eq_1 .e
instance:HC 98 (Ty @ZaD):=⟨ZaD⟩
set_option maxHeartbeats 4000000
set_option maxRecDepth 100000
theorem Zdq:kT Tryz.prog 145 true Ua:=wK Tryz.func145 Tryz.ntmps145 Tryz.results145 Ua.eq_1 (.i .e (hU [] [] [] (hl [0,1,12] [] [] 1 Wy.eq_1 Wy.eq_2 (fun (i:Int)=>[(13,oI i)]) (.i (hq 8) .e))))
instance:HC 145 (Ty @Zdq):=⟨Zdq⟩
set_option maxHeartbeats 4000000
set_option maxRecDepth 100000
theorem XE:kT Tryz.prog 64 true Yz:=wK Tryz.func64 Tryz.ntmps64 Tryz.results64 Yz.eq_1 (hU [] [] [] (hl [1,8,9] [] [] 1 Xd.eq_1 Xd.eq_2 (fun (i:Int)=>[(10,oI i)])))
instance:HC 64 (Ty @XE):=⟨XE⟩
set_option maxHeartbeats 4000000
set_option maxRecDepth 100000
theorem K2:kT Tryz.prog 215 true WD:=wK Tryz.func215 Tryz.ntmps215 Tryz.results215 WD.eq_1 (hU [0] [] [] (hl [0] [] [] 1 Qy.eq_1 Qy.eq_2 (fun (i:Int)=>[(3,oI i)]) (.i (hj [0,3] [] [] (fun (i:Bool)=>[(19,oB i)])) .e)))
instance:HC 215 (Ty @K2):=⟨K2⟩
set_option maxHeartbeats 4000000
set_option maxRecDepth 100000
theorem KV:kT Tryz.prog 181 true ZaE:=wK Tryz.func181 Tryz.ntmps181 Tryz.results181 ZaE.eq_1 .e
instance:HC 181 (Ty @KV):=⟨KV⟩
set_option maxHeartbeats 4000000
set_option maxRecDepth 100000
theorem KM (a0:Zd) (r:Zg×Zd) (hM:Zw a0=some r):ZcU Tryz.prog 256 [] (Zd.c a0) [] true [.agg (Zg.c r.1)] (Zd.c r.2):=by
 unfold Zw at hM;exact wP Tryz.func256 Tryz.ntmps256 Tryz.results256 (hj [0,2] [2,31] [] (fun (i:Bool)=>[(19,oB i)]) (hq 15) (.i (hq 8) .e))
instance:HC 256 (Ty @KM):=⟨KM⟩
set_option maxHeartbeats 4000000
set_option maxRecDepth 100000
theorem Zdw:kT Tryz.prog 294 true U7:=wK Tryz.func294 Tryz.ntmps294 Tryz.results294 U7.eq_1 (hj [] [] [] (fun (i:Bool)=>[(4,oB i)]))
instance:HC 294 (Ty @Zdw):=⟨Zdw⟩
set_option maxHeartbeats 4000000
set_option maxRecDepth 100000
theorem Jv (a0:Zd) (a1:ByteArray) (r:Bool×Zd) (hM:Zf a0 a1=some r):ZcU Tryz.prog 260 [] (Zd.c a0) [.one (.str a1)] true [.one (.bool r.1)] (Zd.c r.2):=by
 unfold Zf at hM;exact wP Tryz.func260 Tryz.ntmps260 Tryz.results260 .e
instance:HC 260 (Ty @Jv):=⟨Jv⟩
set_option maxHeartbeats 4000000
set_option maxRecDepth 100000
theorem Zh4:∀(k:Nat),(kT Tryz.prog 263 true (QW k)):=by
 intro k
 induction k with
 | zero=>(repeat intro hM);simp [QW] at hM
 | succ k ih_i_NestingOf=>
  ·haveI:HC 263 _:=⟨ih_i_NestingOf⟩;exact wK Tryz.func263 Tryz.ntmps263 Tryz.results263 QW.eq_2 (hj [] [] [] (fun (i:Int)=>[(3,oI i)]) (hl [7,8] [] [] 2 QV.eq_1 QV.eq_2 (fun (i:Int×Int)=>[(3,oI i.1),(9,oI i.2)])))
theorem Zcc (k:Nat):kT Tryz.prog 263 true (QW k):=(Zh4 k)
instance:HC 263 (Ty @Zcc):=⟨Zcc⟩
set_option maxHeartbeats 4000000
set_option maxRecDepth 100000
theorem JX:kT Tryz.prog 302 true QT:=wK Tryz.func302 Tryz.ntmps302 Tryz.results302 QT.eq_1 (hj [] [] [] (fun (i:Bool)=>[(4,oB i)]))
instance:HC 302 (Ty @JX):=⟨JX⟩
set_option maxHeartbeats 4000000
set_option maxRecDepth 100000
theorem Zkr:∀(k:Nat),(kT Tryz.prog 270 true (XF k)):=by
 intro k
 induction k with
 | zero=>(repeat intro hM);simp [XF] at hM
 | succ k ih_i_DepthOf=>
  ·haveI:HC 270 _:=⟨ih_i_DepthOf⟩;exact wK Tryz.func270 Tryz.ntmps270 Tryz.results270 XF.eq_2 (hj [] [] [] (fun (i:Int)=>[(3,oI i)]) (hl [7,8] [] [] 2 Vm.eq_1 Vm.eq_2 (fun (i:Int×Int)=>[(3,oI i.1),(9,oI i.2)])))
theorem Zfr (k:Nat):kT Tryz.prog 270 true (XF k):=(Zkr k)
instance:HC 270 (Ty @Zfr):=⟨Zfr⟩
set_option maxHeartbeats 4000000
set_option maxRecDepth 100000
theorem KD:kT Tryz.prog 129 true YZ:=wK Tryz.func129 Tryz.ntmps129 Tryz.results129 YZ.eq_1 (hj [] [] [] (fun (i:Bool)=>[(4,oB i)]))
instance:HC 129 (Ty @KD):=⟨KD⟩
set_option maxHeartbeats 4000000
set_option maxRecDepth 100000
theorem WS:kT Tryz.prog 62 true Z7:=wK Tryz.func62 Tryz.ntmps62 Tryz.results62 Z7.eq_1 (hU [] [] [] (hl [1,2] [2] [] 1 Z9.eq_1 Z9.eq_2 (fun (i:Int)=>[(5,oI i)])))
instance:HC 62 (Ty @WS):=⟨WS⟩
set_option maxHeartbeats 4000000
set_option maxRecDepth 100000
theorem ZbF:kT Tryz.prog 210 true QO:=wK Tryz.func210 Tryz.ntmps210 Tryz.results210 QO.eq_1 (.i .e (hU [] [] [] (hl [0,1] [] [] 1 Y4.eq_1 Y4.eq_2 (fun (i:Int)=>[(5,oI i)]) (.i (hq 8) .e))))
instance:HC 210 (Ty @ZbF):=⟨ZbF⟩
set_option maxHeartbeats 4000000
set_option maxRecDepth 100000
theorem J8:kT Tryz.prog 80 true YE:=wK Tryz.func80 Tryz.ntmps80 Tryz.results80 YE.eq_1 .e
instance:HC 80 (Ty @J8):=⟨J8⟩
end Go.Proofs.YtpblakfidofgfaaGreatDoor
