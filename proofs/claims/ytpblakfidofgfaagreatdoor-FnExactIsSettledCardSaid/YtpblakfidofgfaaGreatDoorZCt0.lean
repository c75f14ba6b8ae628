import Derived.Test.YtpblakfidofgfaaGreatDoorZJ4
set_option linter.unusedSimpArgs false
set_option linter.unusedVariables false
namespace Go.Proofs.YtpblakfidofgfaaGreatDoor
open Go.RowKit Am
set_option maxHeartbeats 4000000
set_option maxRecDepth 100000
theorem Zi9:kT Tryz.prog 43 true UK:=wK Tryz.func43 Tryz.ntmps43 Tryz.results43 UK.eq_1 (hj [] [] [] (fun (i:Bool)=>[(6,oB i)]))
instance:HC 43 (Ty @Zi9):=⟨Zi9⟩
theorem KB:kT Tryz.prog 198 true Xr:=wK Tryz.func198 Tryz.ntmps198 Tryz.results198 Xr.eq_1 (hU [0] [] [] (hl [0] [] [] 1 Yv.eq_1 Yv.eq_2 (fun (i:Int)=>[(3,oI i)]) (.i (hj [0,3] [] [] (fun (i:Bool)=>[(19,oB i)])) .e)))
instance:HC 198 (Ty @KB):=⟨KB⟩
theorem ZeK:kT Tryz.prog 234 true ZbI:=wK Tryz.func234 Tryz.ntmps234 Tryz.results234 ZbI.eq_1 (hU [0] [] [] (hl [0] [] [] 1 Vh.eq_1 Vh.eq_2 (fun (i:Int)=>[(3,oI i)]) (.i (hj [0,3] [] [] (fun (i:Bool)=>[(4,oB i)]) .e (hj [0,3,4] [] [] (fun (i:Bool)=>[(5,oB i)]) .e (hj [0,3] [] [] (fun (i:Bool)=>[(41,oB i)])))) .e)))
instance:HC 234 (Ty @ZeK):=⟨ZeK⟩
theorem ZaS:kT Tryz.prog 275 true QB:=wK Tryz.func275 Tryz.ntmps275 Tryz.results275 QB.eq_1 .e
instance:HC 275 (Ty @ZaS):=⟨ZaS⟩
theorem ZhG:kT Tryz.prog 250 true Zav:=wK Tryz.func250 Tryz.ntmps250 Tryz.results250 Zav.eq_1 (hU [] [] [] (hl [0,1] [] [] 1 Vi.eq_1 Vi.eq_2 (fun (i:Int)=>[(5,oI i)])))
instance:HC 250 (Ty @ZhG):=⟨ZhG⟩
theorem ZaU:kT Tryz.prog 235 true Ux:=wK Tryz.func235 Tryz.ntmps235 Tryz.results235 Ux.eq_1 .e
instance:HC 235 (Ty @ZaU):=⟨ZaU⟩
theorem Ky:kT Tryz.prog 199 true ZR:=wK Tryz.func199 Tryz.ntmps199 Tryz.results199 ZR.eq_1 (hj [] [] [] (fun (i:Bool)=>[(2,oB i)]))
instance:HC 199 (Ty @Ky):=⟨Ky⟩
theorem KA:kT Tryz.prog 165 true YY:=wK Tryz.func165 Tryz.ntmps165 Tryz.results165 YY.eq_1 (hj [1] [1] [] (fun (i:Bool)=>[(18,oB i)]) .e (.i .e (.i (hj [] [] [] (fun (i:Bool)=>[(2,oB i)])) (hj [1,20] [1] [] (fun (i:Bool)=>[(31,oB i)]) .e (.i (hj [] [] [] (fun (i:Bool)=>[(2,oB i)])) (.i (hj [] [] [] (fun (i:Bool)=>[(2,oB i)])) .e))))))
instance:HC 165 (Ty @KA):=⟨KA⟩
theorem ZbX:kT Tryz.prog 94 true YR:=wK Tryz.func94 Tryz.ntmps94 Tryz.results94 YR.eq_1 (hU [] [] [] (hl [1,2] [2] [] 1 Yp.eq_1 Yp.eq_2 (fun (i:Int)=>[(5,oI i)])))
instance:HC 94 (Ty @ZbX):=⟨ZbX⟩
theorem Uw:kT Tryz.prog 125 true Q7:=wK Tryz.func125 Tryz.ntmps125 Tryz.results125 Q7.eq_1 (hU [1] [1] [] (hl [1] [1] [] 1 Yt.eq_1 Yt.eq_2 (fun (i:Int)=>[(3,oI i)]) (.i (hj [1,3] [1] [] (fun (i:Bool)=>[(29,oB i)]) (hq 17)) .e)))
instance:HC 125 (Ty @Uw):=⟨Uw⟩
theorem Zde (a0:Int) (r:Bool) (hM:VU a0=some r):Ctr Tryz.prog 276 [.one (.int .u8 a0)] true [.one (.bool r)]:=by
 unfold VU at hM;exact wM Tryz.func276 Tryz.ntmps276 Tryz.results276 (hj [] [] [] (fun (i:Bool)=>[(2,oB i)]))
instance:HC 276 (Ty @Zde):=⟨Zde⟩
theorem ZeG (a0:Int) (r:Bool) (hM:Uu a0=some r):Ctr Tryz.prog 277 [.one (.int .u8 a0)] true [.one (.bool r)]:=by
 unfold Uu at hM;exact wM Tryz.func277 Tryz.ntmps277 Tryz.results277 (hj [] [] [] (fun (i:Bool)=>[(2,oB i)]))
instance:HC 277 (Ty @ZeG):=⟨ZeG⟩
theorem ZbV:kT Tryz.prog 309 true Jq:=wK Tryz.func309 Tryz.ntmps309 Tryz.results309 Jq.eq_1 (.i .e (hj [3] [] [] (fun (i:ByteArray)=>[(4,oS i)]) (hl [3] [] [] 2 ZU.eq_1 ZU.eq_2 (fun (i:Int×ByteArray)=>[(0,oI i.1),(4,oS i.2)]) (.i (hj [0,3,4] [] [] (fun (i:Int)=>[(5,oI i)])) .e))))
instance:HC 309 (Ty @ZbV):=⟨ZbV⟩
theorem ZgE:kT Tryz.prog 285 true ZeL:=wK Tryz.func285 Tryz.ntmps285 Tryz.results285 ZeL.eq_1 (hj [0,1] [] [] (fun (i:Bool)=>[(6,oB i)]) .e (hj [0,1,6] [] [] (fun (i:ByteArray)=>[(7,oS i)]) .e (hj [0,6,7] [] [] (fun (i:Bool)=>[(30,oB i)]) .e (.i .e (hJ [0,6] [] [] (fun (i:Int)=>[(8,oI i)]) (hl [0,6,7] [] [] 2 WX.eq_1 WX.eq_2 (fun (i:Int×Int)=>[(8,oI i.1),(9,oI i.2)]) (.i (hj [0,6,7,8,9] [] [] (fun (i:Bool)=>[(46,oB i)])) .e)) (hj [0] [] [] (fun (i:Int)=>[(8,oI i)])))))))
instance:HC 285 (Ty @ZgE):=⟨ZgE⟩
end Go.Proofs.YtpblakfidofgfaaGreatDoor
