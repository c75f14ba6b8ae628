import Derived.Test.YtmcfegjoccgpoaaGreatDoorZJ10
set_option linter.unusedSimpArgs false
set_option linter.unusedVariables false
namespace Go.Proofs.YtmcfegjoccgpoaaGreatDoor
open Go.RowKit Am
def Qn (k:Nat) (a0:Za):Nat->Int->Int->Option Int | 0,_,_=>none | o+1,j,l=> if (decide (l<(a0.entries.length:Int))) then ((at? a0.entries l).bind λm=> if m.has then (Y0 k m.value).bind λr=> some (GZ (j+r)) else some j).bind λp=> Qn k a0 o p (GZ (l+1)) else some j
def UZ (k:Nat) (a0:Za):Option Int:= (Qn k a0 k 0 0).bind λj=> some j
def YO (k:Nat):Nat->(List Zo)->Int->Int->(List Zq)->(List Zn)->(List Ze)->Int->Int->Int->Option (((List Zo)×Int×Int×(List Zq)×(List Zn)×(List Ze)×Int×Int×Int) ⊕ Za) | 0,_,_,_,_,_,_,_,_,_=>none | B+1,m,o,p,r,s,t,w,l,z=> (UZ k (Za.mk (Zg.mk m) (ZD.mk o p r) s t w l z)).bind λA=> if (decide (l<A)) then (Q6 k (Za.mk (Zg.mk m) (ZD.mk o p r) s t w l z)).bind λj=> if (!j.2) then some (.inr (Za.mk (Zg.mk m) (ZD.mk o p r) s t w l z)) else YO k B j.1.notebook.cells j.1.world.clock j.1.world.seed j.1.world.files j.1.tapes j.1.entries j.1.next j.1.limit j.1.work else some (.inl (m,o,p,r,s,t,w,l,z))
def JC (k:Nat) (a0:Za):Option Za:= (KB k a0).bind λj=> (YO k k j.notebook.cells j.world.clock j.world.seed j.world.files j.tapes j.entries j.next j.limit j.work:Option (((List Zo)×Int×Int×(List Zq)×(List Zn)×(List Ze)×Int×Int×Int) ⊕ Za)).bind fun | .inl (o,p,r,s,t,w,z,A,l)=>( some (Za.mk (Zg.mk o) (ZD.mk p r s) t w z A l)) | .inr m=>( some m)
def Vj (k:Nat) (a0:Za):Nat->Int->Int->Option Int | 0,_,_=>none | o+1,j,l=> if (decide (l<(a0.entries.length:Int))) then ((at? a0.entries l).bind λm=> if m.has then (Jr k m.value).bind λr=> some (GZ (j+r)) else some j).bind λp=> Vj k a0 o p (GZ (l+1)) else some j
def Km (k:Nat) (a0:Za):Option Int:= (Vj k a0 k 0 0).bind λj=> some j
def YQ (k:Nat):Nat->(List Zo)->Int->Int->(List Zq)->(List Zn)->(List Ze)->Int->Int->Int->Option ((List Zo)×Int×Int×(List Zq)×(List Zn)×(List Ze)×Int×Int×Int) | 0,_,_,_,_,_,_,_,_,_=>none | B+1,m,o,p,r,s,t,w,l,z=> (Km k (Za.mk (Zg.mk m) (ZD.mk o p r) s t w l z)).bind λA=> if (decide (l<A)) then (Qq k (Za.mk (Zg.mk m) (ZD.mk o p r) s t w l z)).bind λj=> if (!j.2) then some (m,o,p,r,s,t,w,l,z) else YQ k B j.1.notebook.cells j.1.world.clock j.1.world.seed j.1.world.files j.1.tapes j.1.entries j.1.next j.1.limit j.1.work else some (m,o,p,r,s,t,w,l,z)
def V8 (k:Nat) (a0:Za):Option Za:= (WO k a0).bind λj=> (YQ k k j.notebook.cells j.world.clock j.world.seed j.world.files j.tapes j.entries j.next j.limit j.work).bind λ(m,o,p,r,s,t,w,z,l)=> some (Za.mk (Zg.mk m) (ZD.mk o p r) s t w z l)
theorem Zh0: @Vj= @Qn:=by
 funext m o n
 induction n with
 | zero=>funext k l;rfl
 | succ n j=>
  funext k l
  simp only [Vj,Qn,ZdS,j]
  try rfl
theorem ZkU: @Km= @UZ:=by
 funext j k
 simp only [Km,UZ,Zh0,ZdS]
 try rfl
end Go.Proofs.YtmcfegjoccgpoaaGreatDoor
