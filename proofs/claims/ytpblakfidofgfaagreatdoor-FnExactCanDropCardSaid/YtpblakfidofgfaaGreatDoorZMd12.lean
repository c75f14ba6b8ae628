import Derived.Test.YtpblakfidofgfaaGreatDoorZJ5
set_option linter.unusedSimpArgs false
set_option linter.unusedVariables false
namespace Go.Proofs.YtpblakfidofgfaaGreatDoor
open Go.RowKit Am
def ZeJ (k:Nat) (a0:Ze) (a1:ZT) (a2:Int):Option (Bool×ZT):= (YR k a0.notebook a2).bind fun x1=> (Z7 k a0 a2).bind fun x2=> ((UK x1 0 (IntKind.i64.wrap ((a1.parts.length:Int)-1))).bind fun x4=> if x4 then if (decide (0<=x2)) then (at? a0.entries x2).bind fun x5=> if x5.has then (at? a1.fresh x1).bind fun x6=> if x6 then (at? a1.fixed x1).bind fun x7=> some (!x7) else some false else some false else some false else some false).bind fun x3=> some (x3,a1)
def ZbY (k:Nat) (a0:Ze) (a1:Int):Option Bool:= (UO k a0).bind fun x1=> (ZeJ k a0 x1 a1).bind fun x2=> some x2.1
def XB (k:Nat) (a1:Int) (a20:Ze) (a21:List Zi) (a22:List (Int×Bool)):Option (Bool×(List (Int×Bool))):= (Yz k a20 a1).bind fun x1=> (Qn k a20.notebook a1).bind fun x2=> (if (decide (x1<0)) then some (a22,true) else (at? a20.entries x1).bind fun x5=> if (!x5.has) then some (a22,true) else if (decide (x2<0)) then some (a22,true) else if (decide ((a21.length:Int)<=x2)) then some (a22,true) else (Zx k x2 a20 a21 a22).bind fun x6=> some (x6.2,(!x6.1))).bind fun (x3,x4)=> if x4 then some (false,x3) else (ZI k a21 x2).bind fun x7=> some ((!x7.2),x3)
def Zch (k:Nat) (a0:Ze) (a1:Int):Option Bool:= (Wf k a0).bind fun x1=> (XB k a1 x1.1 x1.2.1 x1.2.2).bind fun x2=> some x2.1
end Go.Proofs.YtpblakfidofgfaaGreatDoor
