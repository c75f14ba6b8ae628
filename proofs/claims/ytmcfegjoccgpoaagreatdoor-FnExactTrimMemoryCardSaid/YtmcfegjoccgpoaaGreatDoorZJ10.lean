import Derived.Test.YtmcfegjoccgpoaaGreatDoorZJ9
set_option linter.unusedSimpArgs false
set_option linter.unusedVariables false
namespace Go.Proofs.YtmcfegjoccgpoaaGreatDoor
open Go.RowKit Am
def Xh (j:Zb->Option Int) (a0:Zb):Nat->Int->Int->Option Int | 0,_,_=>none | m+1,l,k=> if (decide (k<(a0.list.length:Int))) then (at? a0.list k).bind λo=> (j o).bind λp=> Xh j a0 m (GZ (l+p)) (GZ (k+1)) else some l
def XW (a0:Zb):Nat->Int->Int->Option Int | 0,_,_=>none | m+1,k,j=> if (decide (j<(a0.rows.length:Int))) then (at? a0.rows j).bind λl=> XW a0 m (GZ ((GZ (k+(l.cells.length:Int)))+(l.from_.length:Int))) (GZ (j+1)) else some k
def Y0:Nat->Zb->Option Int | 0,_=>none | k+1,a0=> (Xh (Y0 k) a0 k (GZ ((GZ (1+(a0.text.size:Int)))+(a0.columns.length:Int))) 0).bind λj=> (XW a0 k j 0).bind λl=> some l
def Yv (k:Nat) (a0:Za):Nat->(List Zl)->(List Bool)->(List Bool)->(List Bool)->(List (List Int))->Int->Int->Option Int | 0,_,_,_,_,_,_,_=>none | n_+1,U,W,X,Y,Z,A,w=> if (decide (w<(a0.entries.length:Int))) then (((at? a0.entries w).bind λz=> (ZX k a0 z.cell).bind λO=> if (!decide (O=w)) then some (U,W,X,Y,Z,true) else (Zeo k a0 (Yb.mk U W X Y Z) z.cell).bind λj=> some (j.2.parts,j.2.fixed,j.2.fresh,j.2.known,j.2.inputs,(!j.1))).bind λ(l,m,o,p,r,M)=> if M then some (l,m,o,p,r,A) else (if (decide (A<0)) then some true else (at? a0.entries w).bind λs=> (Y0 k s.value).bind λQ=> (at? a0.entries A).bind λt=> (Y0 k t.value).bind λR=> if (decide (R<Q)) then some true else (Y0 k s.value).bind λS=> (Y0 k t.value).bind λT=> if (decide (S=T)) then some (decide (s.cell<t.cell)) else some false).bind λP=> if P then some (l,m,o,p,r,w) else some (l,m,o,p,r,A)).bind λ(B,C,E,G,I,J)=> Yv k a0 n_ B C E G I J (GZ (w+1)) else some A
def Q6 (k:Nat) (a0:Za):Option (Za×Bool):= (Jn k a0).bind λj=> (Yv k a0 k j.parts j.fixed j.fresh j.known j.inputs (-1) 0).bind λp=> if (decide (p<0)) then (KB k a0).bind λm=> some (m,false) else (at? a0.entries p).bind λo=> (VK k a0 o.cell).bind λl=> some (l.1,l.2)
def Jg (j:Zb->Option Int) (a0:Zb):Nat->Int->Int->Option Int | 0,_,_=>none | m+1,l,k=> if (decide (k<(a0.list.length:Int))) then (at? a0.list k).bind λo=> (j o).bind λp=> Jg j a0 m (GZ (l+p)) (GZ (k+1)) else some l
def Jf (a0:Zb):Nat->Int->Int->Option Int | 0,_,_=>none | m+1,k,j=> if (decide (j<(a0.rows.length:Int))) then (at? a0.rows j).bind λl=> Jf a0 m (GZ ((GZ (k+(l.cells.length:Int)))+(l.from_.length:Int))) (GZ (j+1)) else some k
def Jr:Nat->Zb->Option Int | 0,_=>none | k+1,a0=> (Jg (Jr k) a0 k (GZ ((GZ (1+(a0.text.size:Int)))+(a0.columns.length:Int))) 0).bind λj=> (Jf a0 k j 0).bind λl=> some l
def Ya (k:Nat) (a0:Za) (r:Za×(List Zl)×(List (Int×Bool))):Nat->(List (Int×Bool))->Int->Int->Int->Option (Int×Int) | 0,_,_,_,_=>none | B+1,C,p,o,A=> if (decide (A<(a0.notebook.cells.length:Int))) then ((at? a0.notebook.cells A).bind λj=> (QR k j.id r.1 r.2.1 C).bind λl=> if (!l.1) then some (l.2,p,o) else (Z6 k a0 j.id).bind λt=> (at? a0.entries t).bind λw=> (Jr k w.value).bind λm=> (if (decide (o<m)) then some true else if (decide (m=o)) then some (decide (j.id<p)) else some false).bind λz=> if z then some (l.2,j.id,m) else some (l.2,p,o)).bind λ(E,G,s)=> Ya k a0 r B E G s (GZ (A+1)) else some (p,o)
def Qq (k:Nat) (a0:Za):Option (Za×Bool):= (X0 k a0).bind λm=> (Ya k a0 m k m.2.2 0 0 0).bind λ(o,p)=> if (decide (p=0)) then (WO k a0).bind λl=> some (l,false) else (WU k a0 o).bind λj=> some (j.1,j.2)
theorem ZdR: @Jg= @Xh:=by
 funext m o n
 induction n with
 | zero=>funext k l;rfl
 | succ n j=>
  funext k l
  simp only [Jg,Xh,j]
  try rfl
theorem Zj6: @Jf= @XW:=by
 funext m n
 induction n with
 | zero=>funext k l;rfl
 | succ n j=>
  funext k l
  simp only [Jf,XW,ZdR,j]
  try rfl
theorem ZdS: @Jr= @Y0:=by
 funext n
 induction n with
 | zero=>funext k;rfl
 | succ n j=>
  funext k
  simp only [Jr,Y0,ZdR,Zj6,j]
  try rfl
end Go.Proofs.YtmcfegjoccgpoaaGreatDoor
