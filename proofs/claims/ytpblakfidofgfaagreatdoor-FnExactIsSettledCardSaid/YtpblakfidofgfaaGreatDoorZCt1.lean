import Derived.Test.YtpblakfidofgfaaGreatDoorZCt0
set_option linter.unusedSimpArgs false
set_option linter.unusedVariables false
namespace Go.Proofs.YtpblakfidofgfaaGreatDoor
open Go.RowKit Am
set_option maxHeartbeats 4000000
set_option maxRecDepth 100000
theorem Zdl:kT Tryz.prog 244 true Wv:=wK Tryz.func244 Tryz.ntmps244 Tryz.results244 Wv.eq_1 .e
instance:HC 244 (Ty @Zdl):=⟨Zdl⟩
theorem Kx:kT Tryz.prog 246 true Xq:=wK Tryz.func246 Tryz.ntmps246 Tryz.results246 Xq.eq_1 (hU [0] [] [] (hl [0] [] [] 1 Qt.eq_1 Qt.eq_2 (fun (i:Int)=>[(3,oI i)]) (.i (hj [0,3] [] [] (fun (i:Bool)=>[(25,oB i)])) .e)))
instance:HC 246 (Ty @Kx):=⟨Kx⟩
theorem Zdd:kT Tryz.prog 278 true UZ:=wK Tryz.func278 Tryz.ntmps278 Tryz.results278 UZ.eq_1 (hj [0,1,7] [] [] (fun (i:Bool)=>[(8,oB i)]) .e (.i .e (.i (hj [] [] [] (fun (i:Bool)=>[(31,oB i)])) .e)))
instance:HC 278 (Ty @Zdd):=⟨Zdd⟩
theorem Zgy:kT Tryz.prog 236 true QX:=wK Tryz.func236 Tryz.ntmps236 Tryz.results236 QX.eq_1 (hJz [1,4,6] [4] [] [0] (fun (i:Int×Int×ByteArray×Int)=>[(7,oI i.2.2.2)]) (.i (hj [0,1,4,6] [4,6] [] (fun (i:Int)=>[(7,oI i)]) (hl [0,1,4,6] [4,6] [] 1 X3.eq_1 X3.eq_2 (fun (i:Int)=>[(7,oI i)]) (hj [0,1,4,6,7] [4,6] [] (fun (i:Bool)=>[(44,oB i)])))) (.i (hj [0,1,4,6] [4,6] [] (fun (i:Int)=>[(7,oI i)]) (hl [0,1,4,6] [4,6] [] 1 X2.eq_1 X2.eq_2 (fun (i:Int)=>[(7,oI i)]) (hj [0,1,4,6,7] [4,6] [] (fun (i:Bool)=>[(72,oB i)]))) (hj [1,4,6,7] [4,6] [] (fun (i:Bool)=>[(91,oB i)]))) (.i (hj [0,1,4,6] [4,6] [] (fun (i:Int)=>[(7,oI i)]) (hl [0,1,4,6] [4,6] [] 1 X1.eq_1 X1.eq_2 (fun (i:Int)=>[(7,oI i)]) (hj [0,1,4,6,7] [4,6] [] (fun (i:Bool)=>[(109,oB i)]))) (hj [1,4,6,7] [4,6] [] (fun (i:Bool)=>[(128,oB i)]))) .e))) (cb:=fun i=>[(6,[cI i.1,cI i.2.1,.any,cS i.2.2.1])]))
instance:HC 236 (Ty @Zgy):=⟨Zgy⟩
theorem Zdk:kT Tryz.prog 200 true V3:=wK Tryz.func200 Tryz.ntmps200 Tryz.results200 V3.eq_1 (.i .e (hJ [] [] [] (fun (i:List Zg)=>[(4,oO 768 i.length)]) (hl [0] [] [] 2 ZY.eq_1 ZY.eq_2 (fun (i:(List Zg)×Int)=>[(4,oO 768 i.1.length),(5,oI i.2)]) (.i (.i .e (hj [0,4,5,6,7] [6] [768] (fun (i:Bool)=>[(35,oB i)]))) .e) (ca:=fun i=>[(768,aT Zg.c i.1)])) (ca:=fun i=>[(768,aT Zg.c i)])))
instance:HC 200 (Ty @Zdk):=⟨Zdk⟩
theorem Zdn:kT Tryz.prog 279 true Wx:=wK Tryz.func279 Tryz.ntmps279 Tryz.results279 Wx.eq_1 (hj [] [] [] (fun (i:Bool)=>[(4,oB i)]))
instance:HC 279 (Ty @Zdn):=⟨Zdn⟩
theorem ZbT:kT Tryz.prog 280 true Jp:=wK Tryz.func280 Tryz.ntmps280 Tryz.results280 Jp.eq_1 (hj [] [] [] (fun (i:Bool)=>[(4,oB i)]))
instance:HC 280 (Ty @ZbT):=⟨ZbT⟩
theorem ZeO (a0:Zc) (a1:ByteArray) (r:Bool×Zc) (hM:Zo a0 a1=some r):ZcU Tryz.prog 237 [] (Zc.c a0) [.one (.str a1)] true [.one (.bool r.1)] (Zc.c r.2):=by
 unfold Zo at hM;exact wP Tryz.func237 Tryz.ntmps237 Tryz.results237 (hj [] [50] [] (fun (i:Bool)=>[(4,oB i)]) (hq 42))
instance:HC 237 (Ty @ZeO):=⟨ZeO⟩
theorem ZeQ (a0:Zc) (r:Zb×Zc) (hM:YD a0=some r):ZcU Tryz.prog 202 [] (Zc.c a0) [] true [.agg (Zb.c r.1)] (Zc.c r.2):=by
 unfold YD at hM;exact wP Tryz.func202 Tryz.ntmps202 Tryz.results202 (hjz [2] [2] [] [0] (fun (i:Int)=>[]) (.i (hq 9 (.i (hq 12) .e)) .e) (cb:=fun i=>[(40,[.any,.any,.any,cI i])]))
instance:HC 202 (Ty @ZeQ):=⟨ZeQ⟩
theorem ZeP (k:Nat) (a0:Zc) (r:ByteArray×Zc) (hM:Xz k a0=some r):ZcU Tryz.prog 238 [] (Zc.c a0) [] true [.one (.str r.1)] (Zc.c r.2):=by
 unfold Xz at hM;exact wP Tryz.func238 Tryz.ntmps238 Tryz.results238 (hj [0] [71] [] (fun (i:Bool)=>[(48,oB i)]) (hq 40) (.i .e (hq 9)))
instance:HC 238 (Ty @ZeP):=⟨ZeP⟩
theorem ZeN (a0:Zc) (a1:ByteArray) (r:Zc) (hM:Zu a0 a1=some r):ZcU Tryz.prog 239 [] (Zc.c a0) [.one (.str a1)] true [] (Zc.c r):=by
 unfold Zu at hM;exact wP Tryz.func239 Tryz.ntmps239 Tryz.results239 .e
instance:HC 239 (Ty @ZeN):=⟨ZeN⟩
theorem ZgG:kT Tryz.prog 353 true ZeS:=wK Tryz.func353 Tryz.ntmps353 Tryz.results353 ZeS.eq_1 .e
instance:HC 353 (Ty @ZgG):=⟨ZgG⟩
theorem ZeU:kT Tryz.prog 354 true ZbL:=wK Tryz.func354 Tryz.ntmps354 Tryz.results354 ZbL.eq_1 .e
instance:HC 354 (Ty @ZeU):=⟨ZeU⟩
theorem Js:kT Tryz.prog 308 true Z0:=wK Tryz.func308 Tryz.ntmps308 Tryz.results308 Z0.eq_1 (.i .e (hj [3] [] [] (fun (i:Bool)=>[(6,oB i)]) .e (.i .e (hj [3] [] [] (fun (i:Bool)=>[(12,oB i)]) .e (.i .e (hj [3] [] [] (fun (i:Bool)=>[(20,oB i)])))))))
instance:HC 308 (Ty @Js):=⟨Js⟩
end Go.Proofs.YtpblakfidofgfaaGreatDoor
