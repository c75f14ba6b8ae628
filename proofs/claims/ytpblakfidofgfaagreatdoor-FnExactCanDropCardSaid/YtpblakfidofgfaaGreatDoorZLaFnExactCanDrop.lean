import Derived.Test.YtpblakfidofgfaaGreatDoorZJ40
import Derived.Test.YtpblakfidofgfaaGreatDoorZCtA4
set_option linter.unusedSimpArgs false
set_option linter.unusedVariables false
namespace Go.Proofs.YtpblakfidofgfaaGreatDoor
open Go.RowKit Am
def Xy (k:Nat) (a0:Ze) (a1:Int):Option Bool:= (W9 k a0 1048576).bind fun x1=> if (decide (x1<0)) then some true else (Ys k a0).bind fun x2=> (ZbY k x2 a1).bind fun x3=> (Ys k a0).bind fun x4=> (Zch k x4 a1).bind fun x5=> if (!(x5==x3)) then some false else (Ys k a0).bind fun x6=> (Ve k x4 x6).bind fun x7=> if (!x7) then some false else some true
set_option maxHeartbeats 4000000 in
set_option maxRecDepth 100000 in
theorem ZcW:kT Tryz.prog 4 true Xy:=wK Tryz.func4 Tryz.ntmps4 Tryz.results4 Xy.eq_1 (.i .e (.i .e (hf [2,7] [2,7] [1216,1217,1218,1219] 10 (ho [[],[],[1],[0,1,2],[0,1,2,3]]))))
end Go.Proofs.YtpblakfidofgfaaGreatDoor
