import Derived.Test.YtpblakfidofgfaaGreatDoorZJ5
set_option linter.unusedSimpArgs false
set_option linter.unusedVariables false
namespace Go.Proofs.YtpblakfidofgfaaGreatDoor
open Go.RowKit Am
def QG (a0:Ze) (x1:ZT):Nat->Int->Option (Unit ⊕ Int) | 0,_=>none | n_+1,x2=> if (decide (x2<(x1.parts.length:Int))) then ((at? x1.fresh x2).bind fun x4=> if (!x4) then (at? x1.known x2).bind fun x5=> some x5 else some false).bind fun x3=> if x3 then (at? a0.notebook.cells x2).bind fun x6=> some (.inr x6.id) else QG a0 x1 n_ (IntKind.i64.wrap (x2+1)) else some (.inl ())
def U3 (k:Nat) (a0:Ze):Option Int:= (UO k a0).bind fun x1=> (QG a0 x1 k 0:Option (Unit ⊕ Int)).bind fun | .inl _=>( some 0) | .inr z7=>( some z7)
def YI (k:Nat) (a0:Ze) (x1:Ze×(List Zi)×(List (Int×Bool))):Nat->(List (Int×Bool))->Int->Option (Unit ⊕ Int) | 0,_,_=>none | n_+1,x2,x3=> if (decide (x3<(x1.2.1.length:Int))) then ((Zx k x3 x1.1 x1.2.1 x2).bind fun x5=> if x5.1 then some (.inl x5.2) else (Yr k x3 x1.1 x1.2.1 x5.2).bind fun x6=> if x6.2.1 then (at? a0.notebook.cells x3).bind fun x7=> some (.inr x7.id) else some (.inl x6.2.2):Option ((List (Int×Bool)) ⊕ Int)).bind fun | .inl x4=>( YI k a0 x1 n_ x4 (IntKind.i64.wrap (x3+1))) | .inr z8=>( some (.inr z8)) else some (.inl ())
def U6 (k:Nat) (a0:Ze):Option Int:= (Wf k a0).bind fun x1=> (YI k a0 x1 k x1.2.2 0:Option (Unit ⊕ Int)).bind fun | .inl _=>( some 0) | .inr z9=>( some z9)
end Go.Proofs.YtpblakfidofgfaaGreatDoor
