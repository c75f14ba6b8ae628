import Derived.Test.YtmcfegjoccgpoaaGreatDoorZJ6
set_option linter.unusedSimpArgs false
set_option linter.unusedVariables false
namespace Go.Proofs.YtmcfegjoccgpoaaGreatDoor
open Go.RowKit Am
def Y8 (a0:Za) (k:Yb):Nat->(List Int)->Int->Option (List Int) | 0,_,_=>none | m+1,l,j=> if (decide (j<(k.parts.length:Int))) then ((at? k.fresh j).bind λp=> if (!p) then (at? a0.notebook.cells j).bind λr=> (YJ 8 l [r.id]).bind λs=> some s else some l).bind λo=> Y8 a0 k m o (GZ (j+1)) else some l
def V4 (k:Nat) (a0:Za):Option (List Int):= (Jn k a0).bind λj=> (Y8 a0 j k ([]:List Int) 0).bind λl=> some l
def Yt (k:Nat) (a0:Za) (j:Za×(List Zl)×(List (Int×Bool))):Nat->(List (Int×Bool))->(List Int)->Int->Option (List Int) | 0,_,_,_=>none | r+1,s,o,l=> if (decide (l<(j.2.1.length:Int))) then ((ZV k l j.1 j.2.1 s).bind λp=> if (!p.1) then (at? a0.notebook.cells l).bind λz=> (YJ 8 o [z.id]).bind λm=> some (p.2,m) else some (p.2,o)).bind λ(t,w)=> Yt k a0 j r t w (GZ (l+1)) else some o
def WQ (k:Nat) (a0:Za):Option (List Int):= (X0 k a0).bind λj=> (Yt k a0 j k j.2.2 ([]:List Int) 0).bind λl=> some l
end Go.Proofs.YtmcfegjoccgpoaaGreatDoor
