import Derived.Test.YtpblakfidofgfaaGreatDoorZJ5
set_option linter.unusedSimpArgs false
set_option linter.unusedVariables false
namespace Go.Proofs.YtpblakfidofgfaaGreatDoor
open Go.RowKit Am
def YM (a0:Ze) (x1:ZT):Nat->(List Int)->Int->Option (List Int) | 0,_,_=>none | n_+1,x3,x4=> if (decide (x4<(x1.parts.length:Int))) then ((at? x1.fresh x4).bind fun x6=> if (!x6) then (at? a0.notebook.cells x4).bind fun x7=> (YH 8 x3 [x7.id]).bind fun x8=> some x8 else some x3).bind fun x5=> YM a0 x1 n_ x5 (IntKind.i64.wrap (x4+1)) else some x3
def Uv (k:Nat) (a0:Ze):Option (List Int):= (UO k a0).bind fun x1=> (YM a0 x1 k ([]:List Int) 0).bind fun x2=> some x2
def Jo (k:Nat) (a0:Ze):Option Bool:= (Uv k a0).bind fun x1=> some (decide ((x1.length:Int)=0))
def Ya (k:Nat) (a0:Ze) (x1:Ze×(List Zi)×(List (Int×Bool))):Nat->(List (Int×Bool))->(List Int)->Int->Option (List Int) | 0,_,_,_=>none | n_+1,x3,x4,x5=> if (decide (x5<(x1.2.1.length:Int))) then ((Zx k x5 x1.1 x1.2.1 x3).bind fun x8=> if (!x8.1) then (at? a0.notebook.cells x5).bind fun x9=> (YH 8 x4 [x9.id]).bind fun x10=> some (x8.2,x10) else some (x8.2,x4)).bind fun (x6,x7)=> Ya k a0 x1 n_ x6 x7 (IntKind.i64.wrap (x5+1)) else some x4
def UB (k:Nat) (a0:Ze):Option (List Int):= (Wf k a0).bind fun x1=> (Ya k a0 x1 k x1.2.2 ([]:List Int) 0).bind fun x2=> some x2
def Jx (k:Nat) (a0:Ze):Option Bool:= (UB k a0).bind fun x1=> some (decide ((x1.length:Int)=0))
end Go.Proofs.YtpblakfidofgfaaGreatDoor
