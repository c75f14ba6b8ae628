import Derived.Test.YtpblakfidofgfaaGreatDoorZJ34
set_option linter.unusedSimpArgs false
set_option linter.unusedVariables false
namespace Go.Proofs.YtpblakfidofgfaaGreatDoor
open Go.RowKit Am
set_option maxHeartbeats 4000000
set_option maxRecDepth 100000
theorem Zcg:kT Tryz.prog 184 true Jz:=wK Tryz.func184 Tryz.ntmps184 Tryz.results184 Jz.eq_1 (.i .e (.i .e (hU [] [] [] (hp [5,6] [] [1408] 8 [1152] (hl [6,27,28] [] [1408] 1 Qd.eq_1 Qd.eq_2 (fun (i:Int)=>[(29,oI i)]) (.i (hj [6,7,27,28,29] [] [1408] (fun (i:Bool)=>[(46,oB i)])) .e))))))
instance:HC 184 (Ty @Zcg):=⟨Zcg⟩
end Go.Proofs.YtpblakfidofgfaaGreatDoor
