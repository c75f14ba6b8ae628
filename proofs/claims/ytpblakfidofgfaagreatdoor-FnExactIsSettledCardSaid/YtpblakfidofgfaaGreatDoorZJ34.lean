import Derived.Test.YtpblakfidofgfaaGreatDoorZJ29
import Derived.Test.YtpblakfidofgfaaGreatDoorZJ28
import Derived.Test.YtpblakfidofgfaaGreatDoorZJ27
import Derived.Test.YtpblakfidofgfaaGreatDoorZJ30
set_option linter.unusedSimpArgs false
set_option linter.unusedVariables false
namespace Go.Proofs.YtpblakfidofgfaaGreatDoor
open Go.RowKit Am
set_option maxHeartbeats 4000000
set_option maxRecDepth 100000
theorem KX:kT Tryz.prog 216 true ZS:=wK Tryz.func216 Tryz.ntmps216 Tryz.results216 ZS.eq_1 (hj [] [] [] (fun (i:Bool)=>[(2,oB i)]))
instance:HC 216 (Ty @KX):=⟨KX⟩
set_option maxHeartbeats 4000000
set_option maxRecDepth 100000
theorem KZ:kT Tryz.prog 180 true Y1:=wK Tryz.func180 Tryz.ntmps180 Tryz.results180 Y1.eq_1 (hj [1] [1] [] (fun (i:Bool)=>[(18,oB i)]) .e (.i .e (.i (hj [] [] [] (fun (i:Bool)=>[(2,oB i)])) (hj [1,20] [1] [] (fun (i:Bool)=>[(31,oB i)]) .e (.i (hj [] [] [] (fun (i:Bool)=>[(2,oB i)])) (.i (hj [] [] [] (fun (i:Bool)=>[(2,oB i)])) .e))))))
instance:HC 180 (Ty @KZ):=⟨KZ⟩
set_option maxHeartbeats 4000000
set_option maxRecDepth 100000
theorem UC:kT Tryz.prog 142 true Xc:=wK Tryz.func142 Tryz.ntmps142 Tryz.results142 Xc.eq_1 (hU [1] [1] [] (hl [1,6,7] [1] [] 1 Yu.eq_1 Yu.eq_2 (fun (i:Int)=>[(8,oI i)]) (.i (hj [1,6,7,8] [1] [] (fun (i:Bool)=>[(23,oB i)])) .e)))
instance:HC 142 (Ty @UC):=⟨UC⟩
set_option maxHeartbeats 4000000
set_option maxRecDepth 100000
theorem KO (k:Nat) (a0:Zd) (r:ByteArray×Zd) (hM:Yd k a0=some r):ZcU Tryz.prog 257 [] (Zd.c a0) [] true [.one (.str r.1)] (Zd.c r.2):=by
 unfold Yd at hM;exact wP Tryz.func257 Tryz.ntmps257 Tryz.results257 (hj [0,3] [3,26] [] (fun (i:Bool)=>[(14,oB i)]))
instance:HC 257 (Ty @KO):=⟨KO⟩
set_option maxHeartbeats 4000000
set_option maxRecDepth 100000
theorem ZgO:kT Tryz.prog 296 true ZaB:=wK Tryz.func296 Tryz.ntmps296 Tryz.results296 ZaB.eq_1 (.i (hj [] [] [] (fun (i:Bool)=>[(2,oB i)])) (.i (hj [] [] [] (fun (i:Bool)=>[(2,oB i)])) (.i (hj [] [] [] (fun (i:Bool)=>[(2,oB i)])) (.i (hj [] [] [] (fun (i:Bool)=>[(2,oB i)])) (.i (hj [] [] [] (fun (i:Bool)=>[(2,oB i)])) (.i (hj [] [] [] (fun (i:Bool)=>[(2,oB i)])) (hj [1,3,8] [1] [] (fun (i:Bool)=>[(91,oB i)]) .e (.i (hj [] [] [] (fun (i:Bool)=>[(2,oB i)])) (.i (hj [] [] [] (fun (i:Bool)=>[(2,oB i)])) .e)))))))))
instance:HC 296 (Ty @ZgO):=⟨ZgO⟩
set_option maxHeartbeats 4000000
set_option maxRecDepth 100000
theorem ZiT:∀(k:Nat),(kT Tryz.prog 264 true (Qw k)):=by
 intro k
 induction k with
 | zero=>(repeat intro hM);simp [Qw] at hM
 | succ k ih_i_areNodes=>
  ·haveI:HC 264 _:=⟨ih_i_areNodes⟩;exact wK Tryz.func264 Tryz.ntmps264 Tryz.results264 Qw.eq_2 (hU [1] [1] [] (hl [1,6,7] [1] [] 1 WA.eq_1 WA.eq_2 (fun (i:Int)=>[(8,oI i)])))
theorem Zds (k:Nat):kT Tryz.prog 264 true (Qw k):=(ZiT k)
instance:HC 264 (Ty @Zds):=⟨Zds⟩
set_option maxHeartbeats 4000000
set_option maxRecDepth 100000
theorem KY:kT Tryz.prog 219 true WC:=wK Tryz.func219 Tryz.ntmps219 Tryz.results219 WC.eq_1 (hj [] [] [] (fun (i:Bool)=>[(2,oB i)]))
instance:HC 219 (Ty @KY):=⟨KY⟩
set_option maxHeartbeats 4000000
set_option maxRecDepth 100000
theorem ZaZ:kT Tryz.prog 224 true Vl:=wK Tryz.func224 Tryz.ntmps224 Tryz.results224 Vl.eq_1 (hU [0] [] [] (hl [0,5,6] [] [] 1 Xb.eq_1 Xb.eq_2 (fun (i:Int)=>[(7,oI i)])) (hj [] [] [] (fun (i:Bool)=>[(2,oB i)])))
instance:HC 224 (Ty @ZaZ):=⟨ZaZ⟩
set_option maxHeartbeats 4000000
set_option maxRecDepth 100000
theorem Zfj:kT Tryz.prog 269 true Zb3:=wK Tryz.func269 Tryz.ntmps269 Tryz.results269 Zb3.eq_1 (hj [1] [1] [] (fun (i:Bool)=>[(18,oB i)]) .e (.i .e (hU [] [] [] (hl [1,20,21] [1] [] 1 QJ.eq_1 QJ.eq_2 (fun (i:Int)=>[(22,oI i)]) (.i (hU [1,20,21,22] [1] [] (.i .e (hU [1,4,20,21,22] [1,4] [] (hl [1,4,20,21,22,34,35] [1,4] [] 1 Wh.eq_1 Wh.eq_2 (fun (i:Int)=>[(36,oI i)])) (hl [1,4,20,21,22,45,46] [1,4] [] 1 Wg.eq_1 Wg.eq_2 (fun (i:Int)=>[(47,oI i)]) (.i (hj [1,4,20,21,22,45,46,47] [1,4] [] (fun (i:Bool)=>[(74,oB i)]) (hq 19)) .e))))) .e)))))
instance:HC 269 (Ty @Zfj):=⟨Zfj⟩
set_option maxHeartbeats 4000000
set_option maxRecDepth 100000
theorem Zfo:∀(k:Nat),(kT Tryz.prog 223 true (ZA k)):=by
 intro k
 induction k with
 | zero=>(repeat intro hM);simp [ZA] at hM
 | succ k ih_i_IsValidValue=>
  ·haveI:HC 223 _:=⟨ih_i_IsValidValue⟩;exact wK Tryz.func223 Tryz.ntmps223 Tryz.results223 ZA.eq_2 (hj [1] [1] [] (fun (i:Bool)=>[(3,oB i)]) .e (.i (hj [] [] [] (fun (i:Bool)=>[(2,oB i)])) (.i (hj [] [] [] (fun (i:Bool)=>[(2,oB i)])) (.i (hj [] [] [] (fun (i:Bool)=>[(2,oB i)])) (.i (hj [] [] [] (fun (i:Bool)=>[(2,oB i)])) (.i (hj [] [] [] (fun (i:Bool)=>[(2,oB i)])) (.i (hU [1] [1] [] (hl [1,124,125] [1] [] 1 Qf.eq_1 Qf.eq_2 (fun (i:Int)=>[(126,oI i)]) (.i (hj [1,124,125,126] [1] [] (fun (i:Bool)=>[(147,oB i)])) .e)) (hj [] [] [] (fun (i:Bool)=>[(2,oB i)]))) .e)))))))
theorem JY (k:Nat):kT Tryz.prog 223 true (ZA k):=(Zfo k)
instance:HC 223 (Ty @JY):=⟨JY⟩
set_option maxHeartbeats 4000000
set_option maxRecDepth 100000
theorem Zca:kT Tryz.prog 183 true Wj:=wK Tryz.func183 Tryz.ntmps183 Tryz.results183 Wj.eq_1 (hJz [2,5] [2] [960] [0] (fun (i:List ZM)=>[]) (hp [2,4,5] [2,5] [960] 3 [704] (hlz [2,5,18,19] [2] [960] [0] 2 Qc.eq_1 Qc.eq_2 (fun (i:(List ZM)×Int)=>[(20,oI i.2)]) (ca:=fun i=>[(2560,aT ZM.c i.1)]) (cb:=fun i=>[(5,[.any,.any,.any,.any,.any,.any,.own 2560 i.1.length])]))) (ca:=fun i=>[(2560,aT ZM.c i)]) (cb:=fun i=>[(5,[.any,.any,.any,.any,.any,.any,.own 2560 i.length])]))
instance:HC 183 (Ty @Zca):=⟨Zca⟩
end Go.Proofs.YtpblakfidofgfaaGreatDoor
