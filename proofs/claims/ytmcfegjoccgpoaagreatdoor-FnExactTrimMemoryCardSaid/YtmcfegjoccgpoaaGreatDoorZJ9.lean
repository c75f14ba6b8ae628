import Derived.Test.YtmcfegjoccgpoaaGreatDoorZJ6
set_option linter.unusedSimpArgs false
set_option linter.unusedVariables false
namespace Go.Proofs.YtmcfegjoccgpoaaGreatDoor
open Go.RowKit Am
def JA (a0:Zg):Option Zg:= (YJ 64 ([]:List Zo) a0.cells).bind λj=> some (Zg.mk j)
def JB (a0:ZD):Option ZD:= (YJ 24 ([]:List Zq) a0.files).bind λj=> some (ZD.mk a0.clock a0.seed j)
def Za4 (k:Nat) (a0:Zw):Option Zw:= (Wv k a0.result).bind λj=> some (Zw.mk a0.kind a0.n a0.time a0.text j)
def W6 (k:Nat) (a0:List Zw):Nat->(List Zw)->Int->Option (List Zw) | 0,_,_=>none | m+1,l,j=> if (decide (j<(a0.length:Int))) then (at? a0 j).bind λo=> (Za4 k o).bind λp=> (YJ 152 l [p]).bind λr=> W6 k a0 m r (GZ (j+1)) else some l
def Kj (k:Nat) (a0:List Zw):Option (List Zw):= (W6 k a0 k ([]:List Zw) 0).bind λj=> some j
def V2 (k:Nat) (a0:List Zn):Nat->(List Zn)->Int->Option (List Zn) | 0,_,_=>none | o+1,m,j=> if (decide (j<(a0.length:Int))) then (at? a0 j).bind λl=> (Kj k l.reads).bind λp=> (YJ 40 m [(Zn.mk l.cell l.version p)]).bind λr=> V2 k a0 o r (GZ (j+1)) else some m
def Zdm (k:Nat) (a0:List Zn):Option (List Zn):= (V2 k a0 k ([]:List Zn) 0).bind λj=> some j
def Za2 (k:Nat) (a0:Ze):Option Ze:= (YJ 8 ([]:List Int) a0.inputs).bind λj=> (Wv k a0.value).bind λl=> some (Ze.mk a0.cell a0.version a0.stamp j l a0.has)
def V1 (k:Nat) (a0:Za):Nat->(List Ze)->Int->Option (List Ze) | 0,_,_=>none | m+1,l,j=> if (decide (j<(a0.entries.length:Int))) then (at? a0.entries j).bind λo=> (Za2 k o).bind λp=> (YJ 168 l [p]).bind λr=> V1 k a0 m r (GZ (j+1)) else some l
def KB (k:Nat) (a0:Za):Option Za:= (JA a0.notebook).bind λj=> (JB a0.world).bind λl=> (Zdm k a0.tapes).bind λm=> (V1 k a0 k [] 0).bind λo=> some (Za.mk j l m o a0.next a0.limit a0.work)
def Zeo (k:Nat) (a0:Za) (a1:Yb) (a2:Int):Option (Bool×Yb):= (YD k a0.notebook a2).bind λj=> (ZX k a0 a2).bind λl=> ((JX j 0 (GZ ((a1.parts.length:Int)-1))).bind λo=> if o then if (decide (0<=l)) then (at? a0.entries l).bind λp=> if p.has then (at? a1.fresh j).bind λr=> if r then (at? a1.fixed j).bind λs=> some (!s) else some false else some false else some false else some false).bind λm=> some (m,a1)
def ZdB (k:Nat) (a0:Za) (a1:Int):Option Bool:= (Jn k a0).bind λj=> (Zeo k a0 j a1).bind λl=> some l.1
def VK (k:Nat) (a0:Za) (a1:Int):Option (Za×Bool):= (KB k a0).bind λj=> (ZdB k a0 a1).bind λp=> if (!p) then some (j,false) else (ZX k a0 a1).bind λm=> (at? j.entries m).bind λl=> (at? (j.entries.set m.toNat (Ze.mk l.cell l.version l.stamp l.inputs (Zb.mk 0 0 0 (⟨#[]⟩:Ma) [] [] []) l.has)) m).bind λo=> some ((Za.mk j.notebook j.world j.tapes ((j.entries.set m.toNat (Ze.mk l.cell l.version l.stamp l.inputs (Zb.mk 0 0 0 (⟨#[]⟩:Ma) [] [] []) l.has)).set m.toNat (Ze.mk o.cell o.version o.stamp o.inputs o.value false)) j.next j.limit j.work),true)
def Wq (a0:Zg):Option Zg:= (YJ 64 ([]:List Zo) a0.cells).bind λj=> some (Zg.mk j)
def Jb (a0:ZD):Option ZD:= (YJ 24 ([]:List Zq) a0.files).bind λj=> some (ZD.mk a0.clock a0.seed j)
def Wp (k:Nat) (a0:List Zw):Nat->(List Zw)->Int->Option (List Zw) | 0,_,_=>none | o+1,m,l=> if (decide (l<(a0.length:Int))) then (at? a0 l).bind λj=> (Yk k j.result).bind λp=> (YJ 152 m [(Zw.mk j.kind j.n j.time j.text p)]).bind λr=> Wp k a0 o r (GZ (l+1)) else some m
def Jc (k:Nat) (a0:List Zw):Option (List Zw):= (Wp k a0 k ([]:List Zw) 0).bind λj=> some j
def Wo (k:Nat) (a0:List Zn):Nat->(List Zn)->Int->Option (List Zn) | 0,_,_=>none | o+1,m,j=> if (decide (j<(a0.length:Int))) then (at? a0 j).bind λl=> (Jc k l.reads).bind λp=> (YJ 40 m [(Zn.mk l.cell l.version p)]).bind λr=> Wo k a0 o r (GZ (j+1)) else some m
def KO (k:Nat) (a0:List Zn):Option (List Zn):= (Wo k a0 k ([]:List Zn) 0).bind λj=> some j
def XC (k:Nat) (a0:Za):Nat->(List Ze)->Int->Option (List Ze) | 0,_,_=>none | p+1,o,m=> if (decide (m<(a0.entries.length:Int))) then (at? a0.entries m).bind λj=> (YJ 8 ([]:List Int) j.inputs).bind λr=> (Yk k j.value).bind λs=> (YJ 168 o [(Ze.mk j.cell j.version j.stamp r s j.has)]).bind λl=> XC k a0 p l (GZ (m+1)) else some o
def WO (k:Nat) (a0:Za):Option Za:= (Wq a0.notebook).bind λj=> (Jb a0.world).bind λl=> (KO k a0.tapes).bind λm=> (XC k a0 k [] 0).bind λo=> some (Za.mk j l m o a0.next a0.limit a0.work)
def QR (k:Nat) (a1:Int) (l:Za) (m:List Zl) (j:List (Int×Bool)):Option (Bool×(List (Int×Bool))):= (Z6 k l a1).bind λp=> (YR k l.notebook a1).bind λo=> (if (decide (p<0)) then some (j,true) else (at? l.entries p).bind λw=> if (!w.has) then some (j,true) else if (decide (o<0)) then some (j,true) else if (decide ((m.length:Int)<=o)) then some (j,true) else (ZV k o l m j).bind λs=> some (s.2,(!s.1))).bind λ(r,t)=> if t then some (false,r) else (ZN k m o).bind λz=> some ((!z.2),r)
def Zd1 (k:Nat) (a0:Za) (a1:Int):Option Bool:= (X0 k a0).bind λj=> (QR k a1 j.1 j.2.1 j.2.2).bind λl=> some l.1
def WU (k:Nat) (a0:Za) (a1:Int):Option (Za×Bool):= (WO k a0).bind λj=> (Zd1 k a0 a1).bind λp=> if (!p) then some (j,false) else (Z6 k a0 a1).bind λm=> (at? j.entries m).bind λl=> (at? (j.entries.set m.toNat (Ze.mk l.cell l.version l.stamp l.inputs (Zb.mk 0 0 0 (⟨#[]⟩:Ma) [] [] []) l.has)) m).bind λo=> some ((Za.mk j.notebook j.world j.tapes ((j.entries.set m.toNat (Ze.mk l.cell l.version l.stamp l.inputs (Zb.mk 0 0 0 (⟨#[]⟩:Ma) [] [] []) l.has)).set m.toNat (Ze.mk o.cell o.version o.stamp o.inputs o.value false)) j.next j.limit j.work),true)
theorem Zg3: @Wq= @JA:=by
 funext j
 simp only [Wq,JA]
 try rfl
theorem Zj5: @Jb= @JB:=by
 funext j
 simp only [Jb,JB]
 try rfl
end Go.Proofs.YtmcfegjoccgpoaaGreatDoor
