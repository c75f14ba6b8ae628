import Derived.Test.YtpblakfidofgfaaGreatDoorZJ42
import Derived.Test.YtpblakfidofgfaaGreatDoorZCtA4
set_option linter.unusedSimpArgs false
set_option linter.unusedVariables false
namespace Go.Proofs.YtpblakfidofgfaaGreatDoor
open Go.RowKit Am
def Qz (k:Nat) (a0:Ze):Option Bool:= (W9 k a0 1048576).bind fun x1=> if (decide (x1<0)) then some true else (Ys k a0).bind fun x2=> (Jo k x2).bind fun x3=> (Ys k a0).bind fun x4=> (Jx k x4).bind fun x5=> if (!(x5==x3)) then some false else (Ys k a0).bind fun x6=> (Ve k x4 x6).bind fun x7=> if (!x7) then some false else some true
set_option maxHeartbeats 4000000 in
set_option maxRecDepth 100000 in
theorem Za6:kT Tryz.prog 6 true Qz:=wK Tryz.func6 Tryz.ntmps6 Tryz.results6 Qz.eq_1 (.i .e (.i .e (hf [1,5] [1,5] [1024,1025,1026,1027] 10 (ho [[],[],[1],[0,1,2],[0,1,2,3]]))))
end Go.Proofs.YtpblakfidofgfaaGreatDoor
