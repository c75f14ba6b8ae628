import Derived.Test.YtmcfegjoccgpoaaGreatDoorZJ5
import Derived.Deep.Upon
import Derived.Shelf.Small.Bits
import Derived.Shelf.Small.Strs
import Derived.Shelf.Strconv.Itoa3
import Derived.Shelf.Strconv.AtoiAll
import Derived.Shelf.Strings.Shaped
import Derived.Shelf.Sort.Plain
import Derived.Shelf.Strings.Prefix
import Derived.Shelf.Strings.Split
import Derived.Shelf.Unicode.DecodeAny
import Derived.Shelf.Slices.SearchI
import Derived.Shelf.Slices.In.SortNone2
set_option linter.unusedSimpArgs false
set_option linter.unusedVariables false
namespace Go.Proofs.YtmcfegjoccgpoaaGreatDoor
open Go.RowKit Am
def WC (a0:List Int) (m:List Int) (o:Int):Nat->Int->Option Int | 0,_=>none | p+1,j=> (if (decide (j<(m.length:Int))) then (at? m j).bind λk=> (at? a0 o).bind λl=> some (decide (k<l)) else some false).bind λr=> if r then WC a0 m o p (GZ (j+1)) else some j
def WD (k:Nat) (a0:List Int):Nat->(List Int)->Int->Option (List Int) | 0,_,_=>none | C+1,j,l=> if (decide (l<(a0.length:Int))) then ((at? a0 l).bind λz=> (YG k j z).bind λG=> if G then some j else (WC a0 j l k 0).bind λB=> (ZkD j 0 B).bind λm=> (YJ 8 ([]:List Int) m).bind λo=> (YJ 8 o [z]).bind λp=> (ZkD j B (j.length:Int)).bind λr=> (YJ 8 p r).bind λs=> some s).bind λE=> WD k a0 C E (GZ (l+1)) else some j
def Zep (k:Nat) (a0:List Int):Option (List Int):= (WD k a0 k ([]:List Int) 0).bind λj=> some j
def ZK (k:Nat) (a0:List Zl) (l:List Ma):Nat->(List Int)->Int->Option (List Int) | 0,_,_=>none | r+1,m,o=> if (decide (o<(l.length:Int))) then ((at? l o).bind λz=> (QJ k a0 z).bind λp=> if (decide (0<=p)) then (YJ 8 m [p]).bind λj=> some j else some m).bind λs=> ZK k a0 l r s (GZ (o+1)) else some m
def Qy (k:Nat) (a0:List Zl) (a1:Int):Option (List Int):= (JX a1 0 (GZ ((a0.length:Int)-1))).bind λl=> if (!l) then some ([]:List Int) else (at? a0 a1).bind λm=> (W7 k m).bind λo=> (ZK k a0 o k ([]:List Int) 0).bind λp=> (Zep k p).bind λj=> some j
def Q2 (k:Nat) (a0:List Zl):Nat->(List (List Int))->Int->Option (List (List Int)) | 0,_,_=>none | m+1,l,j=> if (decide (j<(a0.length:Int))) then (Qy k a0 j).bind λo=> (YJ 24 l [o]).bind λp=> Q2 k a0 m p (GZ (j+1)) else some l
def US (k:Nat) (a0:List Zl):Option (List (List Int)):= (Q2 k a0 k ([]:List (List Int)) 0).bind λj=> some j
def Wi (k:Nat) (l:List Int):Nat->(List Int)->Int->Option (List Int) | 0,_,_=>none | z+1,j,m=> if (decide (m<(l.length:Int))) then ((at? l m).bind λo=> (YG k j o).bind λr=> if (!r) then (YJ 8 j [o]).bind λs=> some s else some j).bind λp=> Wi k l z p (GZ (m+1)) else some j
def Qu (k:Nat) (a0:List (List Int)):Nat->(List Int)->Int->Option (List Int) | 0,_,_=>none | r+1,j,p=> if (decide (p<(j.length:Int))) then ((at? j p).bind λm=> (at? a0 m).bind λo=> Wi k o k j 0).bind λl=> Qu k a0 r l (GZ (p+1)) else some j
def Qv (k:Nat) (a0:List (List Int)):Nat->(List Bool)->Int->Option (List Bool) | 0,_,_=>none | o+1,m,j=> if (decide (j<(a0.length:Int))) then (at? a0 j).bind λr=> (YJ 8 ([]:List Int) r).bind λs=> (Qu k a0 k s 0).bind λz=> (YG k z j).bind λl=> (at? m j).bind λp=> Qv k a0 o (m.set j.toNat l) (GZ (j+1)) else some m
def WB (k:Nat) (a0:List (List Int)):Option (List Bool):= (mk? 1 (a0.length:Int)).bind λj=> (Qv k a0 k (List.replicate j false) 0).bind λl=> some l
def Qm (k:Nat) (a0:List Zl) (a1:Int):Option Bool:= ((JX a1 0 (GZ ((a0.length:Int)-1))).bind λm=> if m then (at? a0 a1).bind λj=> if (!decide (j.kind=1)) then (QJ k a0 j.name).bind λo=> some (decide (o=(-2))) else some false else some false).bind λl=> some l
def Y2 (k:Nat) (a0:List Zl) (a1:Int) (a2:Bool):Option (Zb×Bool):= (at? a0 a1).bind λj=> if (decide (j.kind=1)) then some ((Zb.mk 0 0 0 (⟨#[]⟩:Ma) [] [] []),true) else (Qm k a0 a1).bind λl=> if l then (Q5 2).bind λm=> some (m,true) else if (decide (j.kind=4)) then (Q5 8).bind λo=> some (o,true) else if (decide (j.kind=3)) then (Wv k j.value).bind λp=> some (p,true) else if a2 then (Q5 3).bind λr=> some (r,true) else some ((Zb.mk 0 0 0 (⟨#[]⟩:Ma) [] [] []),false)
def Ys (a0:Za) (a1:Int):Nat->Int->Option (Unit ⊕ Int) | 0,_=>none | k+1,j=> if (decide (j<(a0.entries.length:Int))) then (at? a0.entries j).bind λl=> if (decide (l.cell=a1)) then some (.inr j) else Ys a0 a1 k (GZ (j+1)) else some (.inl ())
def ZX (k:Nat) (a0:Za) (a1:Int):Option Int:= (Ys a0 a1 k 0:Option (Unit ⊕ Int)).bind fun | .inl _=>( some (-1)) | .inr j=>( some j)
def XK (a0:List Ma) (a1:List Ma):Nat->Int->Option (Unit ⊕ Bool) | 0,_=>none | k+1,j=> if (decide (j<(a0.length:Int))) then (at? a0 j).bind λl=> (at? a1 j).bind λm=> if (!decide (l=m)) then some (.inr false) else XK a0 a1 k (GZ (j+1)) else some (.inl ())
def Kz (k:Nat) (a0:List Ma) (a1:List Ma):Option Bool:= if (!decide ((a0.length:Int)=(a1.length:Int))) then some false else (XK a0 a1 k 0:Option (Unit ⊕ Bool)).bind fun | .inl _=>( some true) | .inr j=>( some j)
def WE (a0:List Int) (a1:List Int):Nat->Int->Option (Unit ⊕ Bool) | 0,_=>none | k+1,j=> if (decide (j<(a0.length:Int))) then (at? a0 j).bind λl=> (at? a1 j).bind λm=> if (!decide (l=m)) then some (.inr false) else WE a0 a1 k (GZ (j+1)) else some (.inl ())
def Vx (k:Nat) (a0:List Int) (a1:List Int):Option Bool:= if (!decide ((a0.length:Int)=(a1.length:Int))) then some false else (WE a0 a1 k 0:Option (Unit ⊕ Bool)).bind fun | .inl _=>( some true) | .inr j=>( some j)
def Qs (a0:List Zk) (a1:List Zk):Nat->Int->Option (Unit ⊕ Bool) | 0,_=>none | m+1,j=> if (decide (j<(a0.length:Int))) then (at? a0 j).bind λk=> (at? a1 j).bind λl=> if (!(decide (k.cell=l.cell)&&decide (k.row=l.row))) then some (.inr false) else Qs a0 a1 m (GZ (j+1)) else some (.inl ())
def Xe (k:Nat) (a0:List Zk) (a1:List Zk):Option Bool:= if (!decide ((a0.length:Int)=(a1.length:Int))) then some false else (Qs a0 a1 k 0:Option (Unit ⊕ Bool)).bind fun | .inl _=>( some true) | .inr j=>( some j)
def UM (j:Zb->Zb->Bool->Option Bool) (a0:Zb) (a1:Zb) (a2:Bool):Nat->Int->Option (Unit ⊕ Bool) | 0,_=>none | l+1,k=> if (decide (k<(a0.list.length:Int))) then (at? a0.list k).bind λm=> (at? a1.list k).bind λo=> (j m o a2).bind λp=> if (!p) then some (.inr false) else UM j a0 a1 a2 l (GZ (k+1)) else some (.inl ())
def VG (k:Nat) (a0:Zb) (a1:Zb) (a2:Bool):Nat->Int->Option (Unit ⊕ Bool) | 0,_=>none | r+1,l=> if (decide (l<(a0.rows.length:Int))) then ((at? a0.rows l).bind λp=> (at? a1.rows l).bind λj=> (Vx k p.cells j.cells).bind λm=> if (!m) then some true else if a2 then (Xe k p.from_ j.from_).bind λo=> some (!o) else some false).bind λs=> if s then some (.inr false) else VG k a0 a1 a2 r (GZ (l+1)) else some (.inl ())
def Uj:Nat->Zb->Zb->Bool->Option Bool | 0,_,_,_=>none | k+1,a0,a1,a2=> (if (!decide (a0.kind=a1.kind)) then some true else if (!decide (a0.n=a1.n)) then some true else if (!decide (a0.step=a1.step)) then some true else if (!decide (a0.text=a1.text)) then some true else if (!decide ((a0.list.length:Int)=(a1.list.length:Int))) then some true else (Kz k a0.columns a1.columns).bind λo=> if (!o) then some true else some (!decide ((a0.rows.length:Int)=(a1.rows.length:Int)))).bind λm=> if m then some false else (UM (Uj k) a0 a1 a2 k 0:Option (Unit ⊕ Bool)).bind fun | .inl _=>( (VG k a0 a1 a2 k 0:Option (Unit ⊕ Bool)).bind fun | .inl _=>( some true) | .inr j=>( some j)) | .inr l=>( some l)
def XL (k:Nat) (a0:Zb) (a1:Zb):Option Bool:= (Uj k a0 a1 true).bind λj=> some j
def Za1 (k:Nat) (a0:Za) (a1:List Zl) (a2:Int) (a3:Zb):Option Bool:= (at? a1 a2).bind λm=> if (decide (m.kind=1)) then some true else (at? a0.notebook.cells a2).bind λo=> (ZX k a0 o.id).bind λj=> (if (decide (0<=j)) then (at? a0.entries j).bind λl=> if l.has then (XL k l.value a3).bind λr=> some r else some false else some false).bind λp=> some p
def W5 (k:Nat) (a0:List Int) (a1:List Int) (a2:List Bool):Nat->Int->Option (Unit ⊕ Bool) | 0,_=>none | m+1,j=> if (decide (j<(a1.length:Int))) then ((at? a1 j).bind λl=> (at? a2 l).bind λp=> if p then (YG k a0 l).bind λr=> some (!r) else some false).bind λo=> if o then some (.inr false) else W5 k a0 a1 a2 m (GZ (j+1)) else some (.inl ())
def Kg (k:Nat) (a0:List Int) (a1:List Int) (a2:List Bool):Option Bool:= (W5 k a0 a1 a2 k 0:Option (Unit ⊕ Bool)).bind fun | .inl _=>( some true) | .inr j=>( some j)
def Q1 (k:Nat) (a0:List Zl) (a2:List Bool):Nat->(List Bool)->Int->Int->Option ((List Bool)×Int) | 0,_,_,_=>none | B+1,l,s,j=> if (decide (j<(a0.length:Int))) then (((at? a2 j).bind λo=> if (!o) then (Qm k a0 j).bind λp=> if (!p) then (at? a0 j).bind λm=> if (decide (m.kind=2)) then (at? l j).bind λC=> some (l.set j.toNat true) else (at? l j).bind λE=> some (l.set j.toNat (decide (m.kind=3))) else (at? l j).bind λG=> some (l.set j.toNat false) else (at? l j).bind λI=> some (l.set j.toNat false)).bind λz=> (at? z j).bind λr=> if r then some (z,(GZ (s+1))) else some (z,s)).bind λ(J,M)=> Q1 k a0 a2 B J M (GZ (j+1)) else some (l,s)
def Qj (m:(List Int)->Option (List Int)) (k:Nat) (a0:List Zl) (a1:List (List Int)) (o:List Bool) (l:List Int):Nat->Int->Option (List Int) | 0,_=>none | E+1,j=> if (decide (j<(a0.length:Int))) then ((at? o j).bind λr=> if r then (YG k l j).bind λs=> if (!s) then (at? a1 j).bind λz=> (Kg k l z o).bind λB=> some B else some false else some false).bind λp=> if p then (YJ 8 l [j]).bind λC=> m C else Qj m k a0 a1 o l E (GZ (j+1)) else m l
def XU (k:Nat) (a0:List Zl) (a1:List (List Int)) (l:List Bool) (m:Int):Nat->(List Int)->Option (List Int) | 0,_=>none | o+1,j=> if (decide ((j.length:Int)<m)) then Qj (XU k a0 a1 l m o) k a0 a1 l j k 0 else some j
def Kh (k:Nat) (a0:List Zl) (a1:List (List Int)) (a2:List Bool):Option (List Int):= (mk? 1 (a0.length:Int)).bind λl=> (Q1 k a0 a2 k (List.replicate l false) 0 0).bind λ(m,o)=> (XU k a0 a1 m o k ([]:List Int)).bind λj=> some j
def Qt (k:Nat) (a0:Za) (G:List Ma) (l:List Zl) (m:List Bool) (j:List Bool) (o:List Bool) (p:List (List Int)):Nat->(List Int)->Int->Option ((List Int) ⊕ ((List Bool)×(List Bool)×(List Bool)×(List (List Int)))) | 0,_,_=>none | Q+1,I,J=> if (decide (J<(G.length:Int))) then ((at? G J).bind λS=> (QJ k l S).bind λr=> if (decide (r<0)) then (YJ 8 I [r]).bind λT=> some (.inl T) else (at? j r).bind λs=> if (!s) then some (.inr (m,j,o,p)) else (at? a0.notebook.cells r).bind λz=> (ZX k a0 z.id).bind λB=> (at? a0.entries B).bind λC=> (YJ 8 I [C.stamp]).bind λE=> some (.inl E):Option ((List Int) ⊕ ((List Bool)×(List Bool)×(List Bool)×(List (List Int))))).bind fun | .inl R=>( Qt k a0 G l m j o p Q R (GZ (J+1))) | .inr M=>( some (.inr M)) else some (.inl I)
def Zdl (k:Nat) (a0:Za) (a2:Int) (p:List Zl) (o:List Bool) (j:List Bool) (l:List Bool) (m:List (List Int)):Option ((List Bool)×(List Bool)×(List Bool)×(List (List Int))):= (at? p a2).bind λG=> (W7 k G).bind λM=> (Qt k a0 M p o j l m k ([]:List Int) 0:Option ((List Int) ⊕ ((List Bool)×(List Bool)×(List Bool)×(List (List Int))))).bind fun | .inl B=>( (at? l a2).bind λI=> (at? m a2).bind λJ=> (at? a0.notebook.cells a2).bind λr=> (ZX k a0 r.id).bind λs=> if (decide (0<=s)) then (at? a0.entries s).bind λz=> if (decide (z.version=r.version)) then (Vx k z.inputs B).bind λC=> (at? j a2).bind λQ=> some (o,(j.set a2.toNat C),(l.set a2.toNat true),(m.set a2.toNat B)) else (at? j a2).bind λR=> some (o,(j.set a2.toNat false),(l.set a2.toNat true),(m.set a2.toNat B)) else (at? j a2).bind λS=> some (o,(j.set a2.toNat false),(l.set a2.toNat true),(m.set a2.toNat B))) | .inr E=>( some E)
def Xg (k:Nat) (a0:Za) (s:List Zl) (I:List Bool):Nat->(List Bool)->(List Bool)->(List Bool)->(List (List Int))->Int->Option ((List Bool)×(List Bool)×(List Bool)×(List (List Int))) | 0,_,_,_,_,_=>none | J+1,o,m,p,r,j=> if (decide (j<(s.length:Int))) then ((at? I j).bind λE=> (Y2 k s j E).bind λl=> (at? o j).bind λM=> (at? p j).bind λQ=> (at? r j).bind λR=> if l.2 then (Za1 k a0 s j l.1).bind λG=> (at? m j).bind λS=> some ((o.set j.toNat l.2),(m.set j.toNat G),(p.set j.toNat l.2)) else (at? m j).bind λT=> some ((o.set j.toNat l.2),(m.set j.toNat false),(p.set j.toNat l.2))).bind λ(z,B,C)=> Xg k a0 s I J z B C (r.set j.toNat ([]:List Int)) (GZ (j+1)) else some (o,m,p,r)
def Xf (k:Nat) (a0:Za) (J:List Zl) (m:List Int):Nat->(List Bool)->(List Bool)->(List Bool)->(List (List Int))->Int->Option ((List Bool)×(List Bool)×(List Bool)×(List (List Int))) | 0,_,_,_,_,_=>none | M+1,j,o,p,r,s=> if (decide (s<(m.length:Int))) then ((at? m s).bind λz=> (at? j z).bind λI=> if (!I) then (Zdl k a0 z J j o p r).bind λl=> some (l.1,l.2.1,l.2.2.1,l.2.2.2) else some (j,o,p,r)).bind λ(B,C,E,G)=> Xf k a0 J m M B C E G (GZ (s+1)) else some (j,o,p,r)
def Jn (k:Nat) (a0:Za):Option Yb:= (WJ k a0.notebook).bind λj=> (US k j).bind λC=> (WB k C).bind λE=> (mk? 1 (j.length:Int)).bind λJ=> (mk? 1 (j.length:Int)).bind λM=> (mk? 1 (j.length:Int)).bind λQ=> (mk? 24 (j.length:Int)).bind λl=> (Xg k a0 j E k (List.replicate l false) (List.replicate l false) (List.replicate l false) (List.replicate l []) 0).bind λ(G,I,m,o)=> (Kh k j C E).bind λp=> (Xf k a0 j p k G I m o 0).bind λ(r,s,z,B)=> some (Yb.mk j r s z B)
def Vb (k:Nat) (a0:Za) (a1:Int):Option ((List Int)×Bool):= (Jn k a0).bind λj=> ((JX a1 0 (GZ ((j.parts.length:Int)-1))).bind λm=> if (!m) then some true else (at? j.known a1).bind λo=> some (!o)).bind λl=> if l then some (([]:List Int),false) else (at? j.inputs a1).bind λp=> some (p,true)
def Ww (a0:Int) (a1:Int) (a2:Int):Option Bool:= (if (decide (a1<=a0)) then some (decide (a0<=a2)) else some false).bind λj=> some j
def QW (a0:Ma):Nat->Int->Option (Unit ⊕ Bool) | 0,_=>none | l+1,j=> if (decide (j<(a0.size:Int))) then ((at? a0.data.toList j).bind λk=> if (decide ((k.toNat:Int)<32)) then some true else some (decide (126<(k.toNat:Int)))).bind λm=> if m then some (.inr false) else QW a0 l (GZ (j+1)) else some (.inl ())
def Vh (k:Nat) (a0:Ma):Option Bool:= (QW a0 k 0:Option (Unit ⊕ Bool)).bind fun | .inl _=>( some (decide ((a0.size:Int)<=120))) | .inr j=>( some j)
def U8 (a0:Ma):Nat->Int->Option (Unit ⊕ Bool) | 0,_=>none | m+1,j=> if (decide (j<(a0.size:Int))) then ((at? a0.data.toList j).bind λk=> if (decide (97<=(k.toNat:Int))) then some (decide ((k.toNat:Int)<=122)) else some false).bind λo=> (if (!o) then if (decide (j=0)) then some true else (at? a0.data.toList j).bind λl=> if (decide ((l.toNat:Int)<48)) then some true else some (decide (57<(l.toNat:Int))) else some false).bind λp=> if p then some (.inr false) else U8 a0 m (GZ (j+1)) else some (.inl ())
def ZgY (k:Nat) (a0:Ma):Option Bool:= (U8 a0 k 0:Option (Unit ⊕ Bool)).bind fun | .inl _=>( (Ww (a0.size:Int) 1 8).bind λj=> some j) | .inr l=>( some l)
def ZS (a0:Ma):Option Int:= if (decide (a0=(⟨#[99,108,111,99,107]⟩:Ma))) then some 0 else (if (decide (a0=(⟨#[108,101,110]⟩:Ma))) then some true else if (decide (a0=(⟨#[115,117,109]⟩:Ma))) then some true else if (decide (a0=(⟨#[114,111,119,115]⟩:Ma))) then some true else if (decide (a0=(⟨#[99,104,97,110,99,101]⟩:Ma))) then some true else some (decide (a0=(⟨#[102,105,108,101]⟩:Ma)))).bind λj=> if j then some 1 else (if (decide (a0=(⟨#[116,97,107,101]⟩:Ma))) then some true else if (decide (a0=(⟨#[115,107,105,112]⟩:Ma))) then some true else if (decide (a0=(⟨#[114,97,110,103,101]⟩:Ma))) then some true else if (decide (a0=(⟨#[110,116,104]⟩:Ma))) then some true else if (decide (a0=(⟨#[107,101,101,112]⟩:Ma))) then some true else if (decide (a0=(⟨#[99,111,108,117,109,110]⟩:Ma))) then some true else some (decide (a0=(⟨#[116,97,98,108,101]⟩:Ma)))).bind λk=> if k then some 2 else (if (decide (a0=(⟨#[119,104,101,114,101]⟩:Ma))) then some true else if (decide (a0=(⟨#[103,114,111,117,112]⟩:Ma))) then some true else some (decide (a0=(⟨#[106,111,105,110]⟩:Ma)))).bind λl=> if l then some 3 else if (decide (a0=(⟨#[97,100,100]⟩:Ma))) then some 4 else some (-1)
def JM (a0:Ma):Option Bool:= (if (decide (a0=(⟨#[108,101,116]⟩:Ma))) then some true else if (decide (a0=(⟨#[105,110]⟩:Ma))) then some true else if (decide (a0=(⟨#[105,102]⟩:Ma))) then some true else if (decide (a0=(⟨#[116,104,101,110]⟩:Ma))) then some true else if (decide (a0=(⟨#[101,108,115,101]⟩:Ma))) then some true else if (decide (a0=(⟨#[102,111,114]⟩:Ma))) then some true else some (decide (a0=(⟨#[100,111]⟩:Ma)))).bind λj=> if j then some true else (ZS a0).bind λk=> some (decide (0<=k))
def Z8 (k:Nat) (a0:Ma):Option Bool:= ((ZgY k a0).bind λl=> if l then (JM a0).bind λm=> some (!m) else some false).bind λj=> some j
def Qp (k:Nat) (a0:Zo):Option Bool:= ((Ww a0.id 1 999).bind λo=> if (!o) then some true else (Ww a0.version 1 999).bind λp=> if (!p) then some true else (Vh k a0.code).bind λr=> some (!r)).bind λm=> if m then some false else if (decide (a0.kind=1)) then (if (decide (a0.name=(⟨#[]⟩:Ma))) then some (decide (a0.n=0)) else some false).bind λs=> some s else (if (decide (a0.kind=2)) then some true else some (decide (a0.kind=4))).bind λz=> if z then ((Z8 k a0.name).bind λC=> if C then some (decide (a0.n=0)) else some false).bind λB=> some B else if (decide (a0.kind=3)) then ((Z8 k a0.name).bind λj=> if j then if (decide (a0.code=(⟨#[]⟩:Ma))) then (Ww a0.n 0 100).bind λl=> some l else some false else some false).bind λE=> some E else some false
def Ws (a0:Zg) (a1:Int):Nat->Int->Option (Unit ⊕ Int) | 0,_=>none | k+1,j=> if (decide (j<(a0.cells.length:Int))) then (at? a0.cells j).bind λl=> if (decide (l.id=a1)) then some (.inr j) else Ws a0 a1 k (GZ (j+1)) else some (.inl ())
def YR (k:Nat) (a0:Zg) (a1:Int):Option Int:= (Ws a0 a1 k 0:Option (Unit ⊕ Int)).bind fun | .inl _=>( some (-1)) | .inr j=>( some j)
def YT (k:Nat) (a0:Zg):Nat->Int->Option (Unit ⊕ Bool) | 0,_=>none | m+1,j=> if (decide (j<(a0.cells.length:Int))) then (at? a0.cells j).bind λl=> ((Qp k l).bind λp=> if (!p) then some true else (YR k a0 l.id).bind λr=> some (!decide (r=j))).bind λo=> if o then some (.inr false) else YT k a0 m (GZ (j+1)) else some (.inl ())
def XE (k:Nat) (a0:Zg):Option Bool:= (YT k a0 k 0:Option (Unit ⊕ Bool)).bind fun | .inl _=>( some (decide ((a0.cells.length:Int)<=8))) | .inr j=>( some j)
def Zb8 (a0:Int):Option Zb:= some (Zb.mk 1 a0 0 (⟨#[]⟩:Ma) [] [] [])
def QV (a0:Ma):Nat->Int->Option (Unit ⊕ Bool) | 0,_=>none | l+1,j=> if (decide (j<(a0.size:Int))) then ((at? a0.data.toList j).bind λk=> if (decide ((k.toNat:Int)<32)) then some true else if (decide (126<(k.toNat:Int))) then some true else some (decide ((k.toNat:Int)=34))).bind λm=> if m then some (.inr false) else QV a0 l (GZ (j+1)) else some (.inl ())
def X3 (k:Nat) (a0:Ma):Option Bool:= (QV a0 k 0:Option (Unit ⊕ Bool)).bind fun | .inl _=>( some (decide ((a0.size:Int)<=20))) | .inr j=>( some j)
def XO (a0:Ma):Nat->Int->Option Int | 0,_=>none | l+1,k=> (if (decide (k<(a0.size:Int))) then (at? a0.data.toList k).bind λj=> if (decide (97<=(j.toNat:Int))) then if (decide ((j.toNat:Int)<=122)) then some true else if (decide (48<=(j.toNat:Int))) then some (decide ((j.toNat:Int)<=57)) else some false else if (decide (48<=(j.toNat:Int))) then some (decide ((j.toNat:Int)<=57)) else some false else some false).bind λm=> if m then XO a0 l (GZ (k+1)) else some k
def XN (a0:Ma):Nat->Int->Option Int | 0,_=>none | m+1,j=> (if (decide (j<(a0.size:Int))) then (at? a0.data.toList j).bind λk=> if (decide (48<=(k.toNat:Int))) then some (decide ((k.toNat:Int)<=57)) else some false else some false).bind λl=> if l then XN a0 m (GZ (j+1)) else some j
def Qh (k:Nat) (a0:Ma) (a1:Int):Option (Zj×Int×Bool):= (at? a0.data.toList a1).bind λl=> (if (decide (97<=(l.toNat:Int))) then some (decide ((l.toNat:Int)<=122)) else some false).bind λJ=> if J then (XO a0 k a1).bind λG=> (J2 a0 a1 G).bind λM=> some ((Zj.mk 1 0 a1 M),G,(decide ((GZ (G-a1))<=8))) else (if (decide (48<=(l.toNat:Int))) then some (decide ((l.toNat:Int)<=57)) else some false).bind λQ=> if Q then (XN a0 k a1).bind λI=> (J2 a0 a1 I).bind λp=> (ZdG p 0 1000000000).bind λm=> some ((Zj.mk 2 m.1 a1 (⟨#[]⟩:Ma)),I,m.2) else if (decide ((l.toNat:Int)=34)) then (J2 a0 (GZ (a1+1)) (a0.size:Int)).bind λr=> (YB r 34).bind λj=> if (decide (j<0)) then some ((Zj.mk 0 0 0 (⟨#[]⟩:Ma)),0,false) else (J2 a0 (GZ (a1+1)) (GZ ((GZ (a1+1))+j))).bind λo=> (X3 k o).bind λs=> some ((Zj.mk 3 0 a1 o),(GZ ((GZ (a1+j))+2)),s) else (J2 a0 a1 (a0.size:Int)).bind λz=> (YC z (⟨#[61,61]⟩:Ma)).bind λB=> if B then some ((Zj.mk 4 0 a1 (⟨#[61,61]⟩:Ma)),(GZ (a1+2)),true) else (J2 a0 a1 (GZ (a1+1))).bind λC=> (YB (⟨#[40,41,91,93,44,43,45,42,60,61]⟩:Ma) (l.toNat:Int)).bind λE=> some ((Zj.mk 4 0 a1 C),(GZ (a1+1)),(decide (0<=E)))
def Yg (k:Nat) (a0:Ma):Nat->(List Zj)->Int->Option ((List Zj) ⊕ ((List Zj)×Int)) | 0,_,_=>none | o+1,l,j=> if (decide (j<(a0.size:Int))) then (at? a0.data.toList j).bind λp=> if (decide ((p.toNat:Int)=32)) then Yg k a0 o l (GZ (j+1)) else (Qh k a0 j).bind λm=> (if (!m.2.2) then some true else some (decide ((l.length:Int)=60))).bind λr=> if r then some (.inr ([],j)) else (YJ 40 l [m.1]).bind λs=> Yg k a0 o s m.2.1 else some (.inl l)
def Jd (k:Nat) (a0:Ma):Option ((List Zj)×Int):= if (decide (120<(a0.size:Int))) then some ([],120) else (Yg k a0 k ([]:List Zj) 0:Option ((List Zj) ⊕ ((List Zj)×Int))).bind fun | .inl j=>( some (j,(-1))) | .inr l=>( some l)
def ZI (a0:Zf):Option (Zj×Zf):= (if (decide (a0.bad<0)) then some (decide (a0.at_<(a0.list.length:Int))) else some false).bind λj=> if j then (at? a0.list a0.at_).bind λk=> some (k,a0) else some ((Zj.mk 0 0 0 (⟨#[]⟩:Ma)),a0)
def YF (a0:Zj) (a1:Ma):Option Bool:= (if (decide (a0.kind=1)) then some (decide (a0.text=a1)) else some false).bind λj=> some j
def Yz (a0:Zf):Option (Zc×Zf):= (if (decide (a0.bad<0)) then some a0.at_ else some a0.bad).bind λj=> some ((Zc.mk 0 0 (⟨#[]⟩:Ma) []),(Zf.mk a0.list a0.at_ j))
def Yy (k:Nat) (a0:Zf):Option (Ma×Zf):= (ZI a0).bind λj=> (if (!decide (j.1.kind=1)) then some true else (Z8 k j.1.text).bind λm=> some (!m)).bind λl=> if l then (Yz j.2).bind λo=> some ((⟨#[]⟩:Ma),o.2) else some (j.1.text,(Zf.mk j.2.list (GZ (j.2.at_+1)) j.2.bad))
def Kl (a0:Zj) (a1:Ma):Option Bool:= (if (decide (a0.kind=4)) then some (decide (a0.text=a1)) else some false).bind λj=> some j
def Zs (a0:Zf) (a1:Ma):Option Zf:= ((ZI a0).bind λj=> (YF j.1 a1).bind λr=> if r then some (j.2.list,j.2.at_,j.2.bad,true) else (ZI j.2).bind λk=> (Kl k.1 a1).bind λs=> some (k.2.list,k.2.at_,k.2.bad,s)).bind λ(l,m,o,p)=> if p then some (Zf.mk l (GZ (m+1)) o) else (Yz (Zf.mk l m o)).bind λz=> some z.2
def Zi (a0:Zf) (a1:Ma):Option (Bool×Zf):= (ZI a0).bind λj=> (Kl j.1 a1).bind λk=> if k then some (true,(Zf.mk j.2.list (GZ (j.2.at_+1)) j.2.bad)) else some (false,j.2)
def Zbs (a0:Int):Option Ma:= (Ww a0 1 5).bind λj=> if (!j) then some (⟨#[63]⟩:Ma) else (at? [(⟨#[43]⟩:Ma),(⟨#[45]⟩:Ma),(⟨#[42]⟩:Ma),(⟨#[60]⟩:Ma),(⟨#[61,61]⟩:Ma)] (GZ (a0-1))).bind λk=> some k
def Y3 (j:Zf->Option (Zc×Zf)) (a1:Ma):Nat->(List Zj)->Int->Int->(List Zc)->Option ((List Zc)×(List Zj)×Int×Int) | 0,_,_,_,_=>none | B+1,r,s,p,z=> if (decide (p<0)) then (j (Zf.mk r s p)).bind λm=> (YJ 56 z [m.1]).bind λo=> (Zi m.2 a1).bind λk=> if k.1 then some (o,k.2.list,k.2.at_,k.2.bad) else (Zs k.2 (⟨#[44]⟩:Ma)).bind λl=> Y3 j a1 B l.list l.at_ l.bad o else some (z,r,s,p)
def YE (j:Zf->Option (Zc×Zf)):Nat->(List Zj)->Int->Int->Int->Int->Ma->(List Zc)->Option (Int×Int×Ma×(List Zc)×(List Zj)×Int×Int) | 0,_,_,_,_,_,_,_=>none | B+1,C,s,z,m,o,p,r=> (Zi (Zf.mk C s z) (⟨#[42]⟩:Ma)).bind λk=> if k.1 then (j k.2).bind λl=> YE j B l.2.list l.2.at_ l.2.bad 6 3 (⟨#[]⟩:Ma) [(Zc.mk m o p r),l.1] else some (m,o,p,r,k.2.list,k.2.at_,k.2.bad)
def QK (j:Zf->Option (Zc×Zf)):Nat->(List Zj)->Int->Int->Int->Int->Ma->(List Zc)->Option (Int×Int×Ma×(List Zc)×(List Zj)×Int×Int) | 0,_,_,_,_,_,_,_=>none | S+1,R,B,o,p,r,s,z=> if (decide (o<0)) then ((Zi (Zf.mk R B o) (⟨#[43]⟩:Ma)).bind λl=> if (!l.1) then (Zi l.2 (⟨#[45]⟩:Ma)).bind λk=> if (!k.1) then some (.inr (k.2.list,k.2.at_,k.2.bad)) else some (.inl (k.2.list,k.2.at_,k.2.bad,2)) else some (.inl (l.2.list,l.2.at_,l.2.bad,1)):Option (((List Zj)×Int×Int×Int) ⊕ ((List Zj)×Int×Int))).bind fun | .inl (C,E,G,I)=>( (j (Zf.mk C E G)).bind λm=> QK j S m.2.list m.2.at_ m.2.bad 6 I (⟨#[]⟩:Ma) [(Zc.mk p r s z),m.1]) | .inr (J,M,Q)=>( some (p,r,s,z,J,M,Q)) else some (p,r,s,z,R,B,o)
def YW (j:Zf->Option (Zc×Zf)) (m:Zc×Zf):Nat->(List Zj)->Int->Int->Int->Option (((List Zj)×Int×Int) ⊕ (Zc×Zf)) | 0,_,_,_,_=>none | C+1,o,p,r,l=> if (decide (l<([4,5].length:Int))) then (at? [4,5] l).bind λs=> (Zbs s).bind λB=> (Zi (Zf.mk o p r) B).bind λk=> if k.1 then (j k.2).bind λz=> some (.inr ((Zc.mk 6 s (⟨#[]⟩:Ma) [m.1,z.1]),z.2)) else YW j m C k.2.list k.2.at_ k.2.bad (GZ (l+1)) else some (.inl (o,p,r))
mutual
def YN:Nat->Zf->Ma->Option ((List Zc)×Zf) | 0,_,_=>none | k+1,a0,a1=> (Zi a0 a1).bind λj=> if j.1 then some (([]:List Zc),j.2) else (Y3 (Zm k) a1 k j.2.list j.2.at_ j.2.bad ([]:List Zc)).bind λ(E,p,G,r)=> some (E,(Zf.mk p G r))
def ZF:Nat->Zf->Option (Zc×Zf) | 0,_=>none | k+1,a0=> (ZI a0).bind λj=> if (decide (j.1.kind=2)) then some ((Zc.mk 1 j.1.n (⟨#[]⟩:Ma) []),(Zf.mk j.2.list (GZ (j.2.at_+1)) j.2.bad)) else if (decide (j.1.kind=3)) then some ((Zc.mk 2 0 j.1.text []),(Zf.mk j.2.list (GZ (j.2.at_+1)) j.2.bad)) else (if (decide (j.1.kind=1)) then (Z8 k j.1.text).bind λp=> some p else some false).bind λE=> if E then some ((Zc.mk 3 0 j.1.text []),(Zf.mk j.2.list (GZ (j.2.at_+1)) j.2.bad)) else (if (decide (j.1.kind=1)) then (ZS j.1.text).bind λr=> some (decide (0<=r)) else some false).bind λG=> if G then (Zs (Zf.mk j.2.list (GZ (j.2.at_+1)) j.2.bad) (⟨#[40]⟩:Ma)).bind λJ=> (YN k J (⟨#[41]⟩:Ma)).bind λI=> some ((Zc.mk 5 0 j.1.text I.1),I.2) else (Zi j.2 (⟨#[91]⟩:Ma)).bind λs=> if s.1 then (YN k s.2 (⟨#[93]⟩:Ma)).bind λU=> some ((Zc.mk 4 0 (⟨#[]⟩:Ma) U.1),U.2) else (Zi s.2 (⟨#[40]⟩:Ma)).bind λl=> if l.1 then (Zm k l.2).bind λz=> (Zs z.2 (⟨#[41]⟩:Ma)).bind λB=> some (z.1,B) else (Yz l.2).bind λC=> some (C.1,C.2)
def Zy:Nat->Zf->Option (Zc×Zf) | 0,_=>none | k+1,a0=> (ZF k a0).bind λj=> (YE (ZF k) k j.2.list j.2.at_ j.2.bad j.1.kind j.1.n j.1.text j.1.args).bind λ(E,p,G,r,J,I,s)=> some ((Zc.mk E p G r),(Zf.mk J I s))
def Yj:Nat->Zf->Option (Zc×Zf) | 0,_=>none | k+1,a0=> (Zy k a0).bind λj=> (QK (Zy k) k j.2.list j.2.at_ j.2.bad j.1.kind j.1.n j.1.text j.1.args).bind λ(E,p,G,r,J,I,s)=> some ((Zc.mk E p G r),(Zf.mk J I s))
def Zm:Nat->Zf->Option (Zc×Zf) | 0,_=>none | k+1,a0=> (ZI a0).bind λj=> (YF j.1 (⟨#[108,101,116]⟩:Ma)).bind λE=> if E then (Yy k (Zf.mk j.2.list (GZ (j.2.at_+1)) j.2.bad)).bind λp=> (Zs p.2 (⟨#[61]⟩:Ma)).bind λG=> (Zm k G).bind λr=> (YJ 56 ([]:List Zc) [r.1]).bind λJ=> (Zs r.2 (⟨#[105,110]⟩:Ma)).bind λI=> (Zm k I).bind λs=> (YJ 56 J [s.1]).bind λU=> some ((Zc.mk 7 0 p.1 U),s.2) else (ZI j.2).bind λl=> (YF l.1 (⟨#[105,102]⟩:Ma)).bind λz=> if z then (Zm k (Zf.mk l.2.list (GZ (l.2.at_+1)) l.2.bad)).bind λB=> (YJ 56 ([]:List Zc) [B.1]).bind λC=> (Zs B.2 (⟨#[116,104,101,110]⟩:Ma)).bind λX=> (Zm k X).bind λM=> (YJ 56 C [M.1]).bind λY=> (Zs M.2 (⟨#[101,108,115,101]⟩:Ma)).bind λZ=> (Zm k Z).bind λQ=> (YJ 56 Y [Q.1]).bind λb0=> some ((Zc.mk 8 0 (⟨#[]⟩:Ma) b0),Q.2) else (ZI l.2).bind λm=> (YF m.1 (⟨#[102,111,114]⟩:Ma)).bind λb1=> if b1 then (Yy k (Zf.mk m.2.list (GZ (m.2.at_+1)) m.2.bad)).bind λR=> (Zs R.2 (⟨#[105,110]⟩:Ma)).bind λb2=> (Zm k b2).bind λS=> (YJ 56 ([]:List Zc) [S.1]).bind λb3=> (Zs S.2 (⟨#[100,111]⟩:Ma)).bind λb4=> (Zm k b4).bind λT=> (YJ 56 b3 [T.1]).bind λb5=> some ((Zc.mk 9 0 R.1 b5),T.2) else (Yj k m.2).bind λo=> (YW (Yj k) o k o.2.list o.2.at_ o.2.bad 0:Option (((List Zj)×Int×Int) ⊕ (Zc×Zf))).bind fun | .inl (b6,b7,b8)=>( some (o.1,(Zf.mk b6 b7 b8))) | .inr b9=>( some b9)
end
def Xm (j:Zc->Option Int) (a0:Zc):Nat->Int->Int->Option Int | 0,_,_=>none | m+1,l,k=> if (decide (k<(a0.args.length:Int))) then (at? a0.args k).bind λo=> (j o).bind λp=> Xm j a0 m (GZ (l+p)) (GZ (k+1)) else some l
def X2:Nat->Zc->Option Int | 0,_=>none | k+1,a0=> (Xm (X2 k) a0 k 1 0).bind λj=> some j
def Xn (j:Zc->Option Int) (a0:Zc):Nat->Int->Int->Option Int | 0,_,_=>none | o+1,k,l=> if (decide (l<(a0.args.length:Int))) then (at? a0.args l).bind λp=> (j p).bind λm=> Xn j a0 o (if m>k then m else k) (GZ (l+1)) else some k
def Xo:Nat->Zc->Option Int | 0,_=>none | k+1,a0=> (Xn (Xo k) a0 k 0 0).bind λj=> some (GZ (j+1))
def Zb5 (k:Nat) (a0:Zc):Option Bool:= if (decide (a0.kind=1)) then ((Ww a0.n 0 1000000000).bind λz=> if z then if (decide (a0.text=(⟨#[]⟩:Ma))) then some (decide ((a0.args.length:Int)=0)) else some false else some false).bind λs=> some s else if (decide (a0.kind=2)) then (if (decide (a0.n=0)) then (X3 k a0.text).bind λC=> if C then some (decide ((a0.args.length:Int)=0)) else some false else some false).bind λB=> some B else if (decide (a0.kind=3)) then (if (decide (a0.n=0)) then (Z8 k a0.text).bind λG=> if G then some (decide ((a0.args.length:Int)=0)) else some false else some false).bind λE=> some E else if (decide (a0.kind=4)) then (if (decide (a0.n=0)) then if (decide (a0.text=(⟨#[]⟩:Ma))) then some (decide ((a0.args.length:Int)<=8)) else some false else some false).bind λI=> some I else if (decide (a0.kind=5)) then (if (decide (a0.n=0)) then (ZS a0.text).bind λM=> some (decide ((a0.args.length:Int)=M)) else some false).bind λJ=> some J else if (decide (a0.kind=6)) then ((Ww a0.n 1 5).bind λl=> if l then if (decide (a0.text=(⟨#[]⟩:Ma))) then some (decide ((a0.args.length:Int)=2)) else some false else some false).bind λj=> some j else (if (decide (a0.kind=7)) then some true else some (decide (a0.kind=9))).bind λm=> if m then (if (decide (a0.n=0)) then (Z8 k a0.text).bind λp=> if p then some (decide ((a0.args.length:Int)=2)) else some false else some false).bind λo=> some o else if (decide (a0.kind=8)) then (if (decide (a0.n=0)) then if (decide (a0.text=(⟨#[]⟩:Ma))) then some (decide ((a0.args.length:Int)=3)) else some false else some false).bind λr=> some r else some false
def Ve (j:Zc->Option Bool) (a0:Zc):Nat->Int->Option (Unit ⊕ Bool) | 0,_=>none | l+1,k=> if (decide (k<(a0.args.length:Int))) then (at? a0.args k).bind λm=> (j m).bind λo=> if (!o) then some (.inr false) else Ve j a0 l (GZ (k+1)) else some (.inl ())
def QU:Nat->Zc->Option Bool | 0,_=>none | k+1,a0=> (Ve (QU k) a0 k 0:Option (Unit ⊕ Bool)).bind fun | .inl _=>( (Zb5 k a0).bind λj=> some j) | .inr l=>( some l)
def Vg (k:Nat) (a0:Zc):Option Bool:= ((X2 k a0).bind λl=> if (decide (l<=40)) then (Xo k a0).bind λm=> if (decide (m<=8)) then (QU k a0).bind λo=> some o else some false else some false).bind λj=> some j
def WS (k:Nat) (a0:Ma):Option (Zc×Int):= (Jd k a0).bind λj=> if (decide (0<=j.2)) then some ((Zc.mk 0 0 (⟨#[]⟩:Ma) []),j.2) else (Zm k (Zf.mk j.1 0 (-1))).bind λl=> ((if (decide (l.2.bad<0)) then some (decide (l.2.at_<(j.1.length:Int))) else some false).bind λo=> if o then some l.2.at_ else some l.2.bad).bind λm=> if (decide ((j.1.length:Int)<=m)) then some ((Zc.mk 0 0 (⟨#[]⟩:Ma) []),(a0.size:Int)) else if (decide (0<=m)) then (at? j.1 m).bind λp=> some ((Zc.mk 0 0 (⟨#[]⟩:Ma) []),p.at_) else (Vg k l.1).bind λr=> if (!r) then some ((Zc.mk 0 0 (⟨#[]⟩:Ma) []),0) else some (l.1,(-1))
def Xa (a0:Int):Option Zb:= some (Zb.mk 6 a0 0 (⟨#[]⟩:Ma) [] [] [])
def VL (a0:Ma) (a1:Int):Option (List Ma):= (Y6 a0 (Zp1 [a1])).bind λj=> some j
def YX (j:List Ma):Nat->(List Int)->Int->Option ((List Int) ⊕ ((List Int)×Bool)) | 0,_,_=>none | o+1,l,k=> if (decide (k<(j.length:Int))) then (at? j k).bind λp=> (ZdG p (-1000000000) 1000000000).bind λm=> if (!m.2) then some (.inr ([],false)) else (YJ 8 l [m.1]).bind λr=> YX j o r (GZ (k+1)) else some (.inl l)
def JJ (k:Nat) (a0:Ma) (a1:Int):Option ((List Int)×Bool):= (VL a0 32).bind λl=> (YX l k ([]:List Int) 0:Option ((List Int) ⊕ ((List Int)×Bool))).bind fun | .inl j=>( some (j,(decide ((j.length:Int)=a1)))) | .inr m=>( some m)
def Wm (a0:Int):Option Bool:= (Ww a0 (-1000000000) 1000000000).bind λj=> some j
def XP (a0:List Ma) (a1:Ma):Nat->Int->Option (Unit ⊕ Int) | 0,_=>none | k+1,j=> if (decide (j<(a0.length:Int))) then (at? a0 j).bind λl=> if (decide (l=a1)) then some (.inr j) else XP a0 a1 k (GZ (j+1)) else some (.inl ())
def KQ (k:Nat) (a0:List Ma) (a1:Ma):Option Int:= (XP a0 a1 k 0:Option (Unit ⊕ Int)).bind fun | .inl _=>( some (-1)) | .inr j=>( some j)
def YZ (k:Nat) (a0:List Ma):Nat->Int->Option (Unit ⊕ Bool) | 0,_=>none | l+1,j=> if (decide (j<(a0.length:Int))) then (at? a0 j).bind λm=> (KQ k a0 m).bind λo=> if (!decide (o=j)) then some (.inr false) else YZ k a0 l (GZ (j+1)) else some (.inl ())
def Uy (k:Nat) (a0:List Ma):Option Bool:= (YZ k a0 k 0:Option (Unit ⊕ Bool)).bind fun | .inl _=>( some true) | .inr j=>( some j)
def XD (k:Nat) (a0:List Ma):Nat->Int->Option (Unit ⊕ Bool) | 0,_=>none | l+1,j=> if (decide (j<(a0.length:Int))) then (at? a0 j).bind λm=> (Z8 k m).bind λo=> if (!o) then some (.inr false) else XD k a0 l (GZ (j+1)) else some (.inl ())
def V7 (k:Nat) (a0:List Ma):Option Bool:= (XD k a0 k 0:Option (Unit ⊕ Bool)).bind fun | .inl _=>( ((Ww (a0.length:Int) 1 4).bind λl=> if l then (Uy k a0).bind λm=> some m else some false).bind λj=> some j) | .inr o=>( some o)
def Xl (a0:Zk) (a1:Zk):Option Bool:= (if (decide (a0.cell<a1.cell)) then some true else if (decide (a0.cell=a1.cell)) then some (decide (a0.row<a1.row)) else some false).bind λj=> some j
def WN (j:ZP):Nat->Int->Option (Unit ⊕ Bool) | 0,_=>none | l+1,k=> if (decide (k<(j.cells.length:Int))) then (at? j.cells k).bind λm=> (Wm m).bind λo=> if (!o) then some (.inr false) else WN j l (GZ (k+1)) else some (.inl ())
def WM (k:ZP):Nat->Int->Option (Unit ⊕ Bool) | 0,_=>none | r+1,j=> if (decide (j<(k.from_.length:Int))) then (at? k.from_ j).bind λp=> (if (decide (p.cell<0)) then some true else if (decide (p.row<0)) then some true else if (decide (0<j)) then (at? k.from_ (GZ (j-1))).bind λm=> (Xl m p).bind λo=> some (!o) else some false).bind λl=> if l then some (.inr false) else WM k r (GZ (j+1)) else some (.inl ())
def Q8 (k:Nat) (a0:Zb):Nat->Int->Option (Unit ⊕ Bool) | 0,_=>none | p+1,j=> if (decide (j<(a0.rows.length:Int))) then ((at? a0.rows j).bind λl=> if (!decide ((l.cells.length:Int)=(a0.columns.length:Int))) then some (.inr false) else (WN l k 0:Option (Unit ⊕ Bool)).bind fun | .inl _=>( WM l k 0) | .inr m=>( some (.inr m)):Option (Unit ⊕ Bool)).bind fun | .inl _=>( Q8 k a0 p (GZ (j+1))) | .inr o=>( some (.inr o)) else some (.inl ())
def ZdH (k:Nat) (a0:Zb):Option Bool:= ((V7 k a0.columns).bind λm=> if (!m) then some true else some (decide (12<(a0.rows.length:Int)))).bind λl=> if l then some false else (Q8 k a0 k 0:Option (Unit ⊕ Bool)).bind fun | .inl _=>( some true) | .inr j=>( some j)
def V9 (j:Zb->Option Int) (a0:Zb):Nat->Int->Int->Option Int | 0,_,_=>none | o+1,k,l=> if (decide (l<(a0.list.length:Int))) then (at? a0.list l).bind λp=> (j p).bind λm=> V9 j a0 o (if m>k then m else k) (GZ (l+1)) else some k
def X9:Nat->Zb->Option Int | 0,_=>none | k+1,a0=> (V9 (X9 k) a0 k 0 0).bind λj=> some (GZ (j+1))
def QD (j:Zb->Option Bool) (a0:Zb):Nat->Int->Option (Unit ⊕ Bool) | 0,_=>none | s+1,l=> if (decide (l<(a0.list.length:Int))) then (at? a0.list l).bind λk=> (if (!decide (k.kind=1)) then if (!decide (k.kind=2)) then if (!decide (k.kind=3)) then some true else (j k).bind λo=> some (!o) else (j k).bind λp=> some (!p) else (j k).bind λr=> some (!r)).bind λm=> if m then some (.inr false) else QD j a0 s (GZ (l+1)) else some (.inl ())
def ZM:Nat->Zb->Option Bool | 0,_=>none | k+1,a0=> (if (decide ((a0.list.length:Int)=0)) then if (decide ((a0.columns.length:Int)=0)) then some (decide ((a0.rows.length:Int)=0)) else some false else some false).bind λj=> if (decide (a0.kind=1)) then (if j then if (decide (a0.step=0)) then if (decide (a0.text=(⟨#[]⟩:Ma))) then (Wm a0.n).bind λB=> some B else some false else some false else some false).bind λz=> some z else if (decide (a0.kind=2)) then (if j then if (decide (a0.n=0)) then if (decide (a0.step=0)) then (X3 k a0.text).bind λE=> some E else some false else some false else some false).bind λC=> some C else if (decide (a0.kind=4)) then (if j then if (decide (a0.text=(⟨#[]⟩:Ma))) then (Wm a0.n).bind λI=> if I then (Wm a0.step).bind λJ=> some J else some false else some false else some false).bind λG=> some G else if (decide (a0.kind=6)) then (if j then if (decide (a0.step=0)) then if (decide (a0.text=(⟨#[]⟩:Ma))) then (Ww a0.n 1 8).bind λl=> some l else some false else some false else some false).bind λM=> some M else if (decide (a0.kind=5)) then (if (decide (a0.n=0)) then if (decide (a0.step=0)) then if (decide (a0.text=(⟨#[]⟩:Ma))) then if (decide ((a0.list.length:Int)=0)) then (ZdH k a0).bind λo=> some o else some false else some false else some false else some false).bind λm=> some m else if (decide (a0.kind=3)) then (QD (ZM k) a0 k 0:Option (Unit ⊕ Bool)).bind fun | .inl _=>( (if (decide (a0.n=0)) then if (decide (a0.step=0)) then if (decide (a0.text=(⟨#[]⟩:Ma))) then if (decide ((a0.columns.length:Int)=0)) then if (decide ((a0.rows.length:Int)=0)) then if (decide ((a0.list.length:Int)<=8)) then (X9 k a0).bind λr=> some (decide (r<=3)) else some false else some false else some false else some false else some false else some false).bind λp=> some p) | .inr s=>( some s) else some false
def QA (k:Nat) (j:List Ma) (o:List Ma):Nat->(List ZP)->Int->Option ((List ZP) ⊕ (Zb×Bool)) | 0,_,_=>none | s+1,p,m=> if (decide (m<(((j.take (j.length:Int).toNat).drop (1:Int).toNat).length:Int))) then (at? ((j.take (j.length:Int).toNat).drop (1:Int).toNat) m).bind λz=> (JJ k z (o.length:Int)).bind λr=> if (!r.2) then some (.inr ((Zb.mk 0 0 0 (⟨#[]⟩:Ma) [] [] []),false)) else (YJ 48 p [(ZP.mk r.1 [])]).bind λl=> QA k j o s l (GZ (m+1)) else some (.inl p)
def WT (k:Nat) (a0:Ma):Option (Zb×Bool):= (Y6 a0 (⟨#[59,32]⟩:Ma)).bind λj=> (at? j 0).bind λr=> (VL r 32).bind λm=> ((ZkD j 1 (j.length:Int)).bind λs=> QA k j m k [] 0:Option ((List ZP) ⊕ (Zb×Bool))).bind fun | .inl p=>( (ZM k (Zb.mk 5 0 0 (⟨#[]⟩:Ma) [] m p)).bind λl=> if (!l) then some ((Zb.mk 0 0 0 (⟨#[]⟩:Ma) [] [] []),false) else some ((Zb.mk 5 0 0 (⟨#[]⟩:Ma) [] m p),true)) | .inr o=>( some o)
def QB (k:Nat) (j:List Ma) (o:List Ma):Nat->Int->Option (Unit ⊕ Int) | 0,_=>none | p+1,l=> if (decide (l<(((j.take (j.length:Int).toNat).drop (1:Int).toNat).length:Int))) then (at? ((j.take (j.length:Int).toNat).drop (1:Int).toNat) l).bind λr=> (JJ k r (o.length:Int)).bind λs=> (if (!s.2) then some true else some (decide (12<=l))).bind λm=> if m then some (.inr (GZ (l+1))) else QB k j o p (GZ (l+1)) else some (.inl ())
def KR (k:Nat) (a0:Ma):Option Int:= (WT k a0).bind λo=> if o.2 then some (-1) else (Y6 a0 (⟨#[59,32]⟩:Ma)).bind λj=> (at? j 0).bind λp=> (VL p 32).bind λm=> (V7 k m).bind λr=> if (!r) then some 0 else ((ZkD j 1 (j.length:Int)).bind λs=> QB k j m k 0:Option (Unit ⊕ Int)).bind fun | .inl _=>( some (-1)) | .inr l=>( some l)
def Zbq (a0:ZP):Option ZP:= (YJ 8 ([]:List Int) a0.cells).bind λj=> (YJ 16 ([]:List Zk) a0.from_).bind λk=> some (ZP.mk j k)
def XB (j:Zb->Option Zb) (a0:List Zb):Nat->(List Zb)->Int->Option (List Zb) | 0,_,_=>none | m+1,l,k=> if (decide (k<(a0.length:Int))) then (at? a0 k).bind λo=> (j o).bind λp=> (YJ 112 l [p]).bind λr=> XB j a0 m r (GZ (k+1)) else some l
def Wn (a0:Zb):Nat->(List ZP)->Int->Option (List ZP) | 0,_,_=>none | l+1,k,j=> if (decide (j<(a0.rows.length:Int))) then (at? a0.rows j).bind λm=> (Zbq m).bind λo=> (YJ 48 k [o]).bind λp=> Wn a0 l p (GZ (j+1)) else some k
mutual
def JK:Nat->(List Zb)->Option (List Zb) | 0,_=>none | k+1,a0=> (XB (Yk k) a0 k ([]:List Zb) 0).bind λj=> some j
def Yk:Nat->Zb->Option Zb | 0,_=>none | k+1,a0=> (JK k a0.list).bind λj=> (YJ 16 ([]:List Ma) a0.columns).bind λl=> (Wn a0 k [] 0).bind λm=> some (Zb.mk a0.kind a0.n a0.step a0.text j l m)
end
def Qd (a0:Int) (l:Zb):Nat->(List ZP)->Int->Option (List ZP) | 0,_,_=>none | m+1,k,j=> if (decide (j<(l.rows.length:Int))) then (at? k j).bind λo=> Qd a0 l m (k.set j.toNat (ZP.mk o.cells [(Zk.mk a0 j)])) (GZ (j+1)) else some k
def Uu (k:Nat) (a0:Int) (a1:Zb):Option Zb:= (if (!decide (a1.kind=5)) then some true else (ZM k a1).bind λm=> if (!m) then some true else some (decide (a0<0))).bind λl=> if l then (Xa 4).bind λo=> some o else (Yk k a1).bind λj=> (Qd a0 j k j.rows 0).bind λp=> some (Zb.mk j.kind j.n j.step j.text j.list j.columns p)
def YA (k:Nat) (a0:Zo):Option Zl:= (Qp k a0).bind λm=> if (!m) then some (Zl.mk 0 (⟨#[]⟩:Ma) (Zc.mk 0 0 (⟨#[]⟩:Ma) []) (Zb.mk 0 0 0 (⟨#[]⟩:Ma) [] [] []) 0) else if (decide (a0.kind=1)) then some (Zl.mk 1 (⟨#[]⟩:Ma) (Zc.mk 0 0 (⟨#[]⟩:Ma) []) (Zb.mk 0 0 0 (⟨#[]⟩:Ma) [] [] []) 0) else if (decide (a0.kind=3)) then (Zb8 a0.n).bind λo=> some (Zl.mk 3 a0.name (Zc.mk 0 0 (⟨#[]⟩:Ma) []) o 0) else if (decide (a0.kind=2)) then (WS k a0.code).bind λj=> if (decide (0<=j.2)) then (Xa 8).bind λp=> some (Zl.mk 4 a0.name (Zc.mk 0 0 (⟨#[]⟩:Ma) []) p j.2) else some (Zl.mk 2 a0.name j.1 (Zb.mk 0 0 0 (⟨#[]⟩:Ma) [] [] []) 0) else (WT k a0.code).bind λl=> if (!l.2) then (Xa 8).bind λr=> (KR k a0.code).bind λs=> some (Zl.mk 4 a0.name (Zc.mk 0 0 (⟨#[]⟩:Ma) []) r s) else (Uu k a0.id l.1).bind λz=> some (Zl.mk 3 a0.name (Zc.mk 0 0 (⟨#[]⟩:Ma) []) z 0)
def XH (k:Nat) (a0:Zg):Nat->(List Zl)->Int->Option (List Zl) | 0,_,_=>none | m+1,l,j=> if (decide (j<(a0.cells.length:Int))) then (at? a0.cells j).bind λo=> (YA k o).bind λp=> (YJ 200 l [p]).bind λr=> XH k a0 m r (GZ (j+1)) else some l
def Ub (k:Nat) (a0:Zg):Option (List Zl):= (XE k a0).bind λj=> if (!j) then some [] else (XH k a0 k ([]:List Zl) 0).bind λl=> some l
def X0 (k:Nat) (a0:Za):Option (Za×(List Zl)×(List (Int×Bool))):= (Ub k a0.notebook).bind λj=> some (a0,j,([]:List (Int×Bool)))
def Vl (a0:List Zl) (a1:Ma):Nat->(List Int)->Int->Option (List Int) | 0,_,_=>none | m+1,k,j=> if (decide (j<(a0.length:Int))) then ((at? a0 j).bind λl=> (if (!decide (l.kind=1)) then some (decide (l.name=a1)) else some false).bind λp=> if p then (YJ 8 k [j]).bind λr=> some r else some k).bind λo=> Vl a0 a1 m o (GZ (j+1)) else some k
def Ua (k:Nat) (a0:List Zl) (a1:Ma):Option (List Int):= (Vl a0 a1 k ([]:List Int) 0).bind λj=> some j
def Y4 (k:Nat) (a0:List Zl) (a1:Int):Option Bool:= (if (decide (0<=a1)) then if (decide (a1<(a0.length:Int))) then (at? a0 a1).bind λj=> if (!decide (j.kind=1)) then (Ua k a0 j.name).bind λm=> some (decide (1<(m.length:Int))) else some false else some false else some false).bind λl=> some l
def U9 (a0:List Int) (a1:Int):Nat->Int->Option (Unit ⊕ Bool) | 0,_=>none | k+1,j=> if (decide (j<(a0.length:Int))) then (at? a0 j).bind λl=> if (decide (l=a1)) then some (.inr true) else U9 a0 a1 k (GZ (j+1)) else some (.inl ())
def Ut (k:Nat) (a0:List Int) (a1:Int):Option Bool:= (U9 a0 a1 k 0:Option (Unit ⊕ Bool)).bind fun | .inl _=>( some false) | .inr j=>( some j)
def U6 (a0:List Int):Nat->(List (Int×Bool))->(List Int)->Int->Option (List Int) | 0,_,_,_=>none | o+1,j,k,l=> if (decide (l<(a0.length:Int))) then ((at? a0 l).bind λm=> if (!((ZgK j m).getD false)) then (YJ 8 k [m]).bind λs=> some ((Zjd j m true),s) else some (j,k)).bind λ(p,r)=> U6 a0 o p r (GZ (l+1)) else some k
def Zeu (k:Nat) (a0:List Int):Option (List Int):= (U6 a0 k ([]:List (Int×Bool)) ([]:List Int) 0).bind λj=> (VD j).bind λl=> some l
def Vd (k:Nat) (step:Int->Option (List Int)):Nat->List Int->List Int->Nat->Option (List Int) | 0,_,_,_=>none | m+1,out,j,t=> if (decide (0<(j.length:Int))) then (at? j 0).bind λx=> (Ut k out x).bind λb=> if (!b) then (YJ 8 out [x]).bind λo=> (step x).bind λl=> if t+l.length<=17592186044416 then Vd k step m o (j.drop 1++l) (t+l.length) else none else Vd k step m out (j.drop 1) t else some out
def ZhY (k:Nat) (step:Int->Option (List Int)) (a0:Int):Option (List Int):= (step a0).bind λj=> (if j.length<=17592186044416 then Vd k step k [] j j.length else none).bind λl=> (Zeu k l).bind λm=> some m
def J7 (a0:Ma) (a1:List Ma) (j:List Ma):Option (List Ma):= (YJ 16 j [a0]).bind λk=> some k
def Ym (j:Zc->(List Ma)->(List Ma)->Option (List Ma)) (a1:Zc) (a2:List Ma) (p:Bool):Nat->(List Ma)->Int->Option (List Ma) | 0,_,_=>none | s+1,r,k=> if (decide (k<(a1.args.length:Int))) then (at? a1.args k).bind λz=> ((if p then some (decide (0<k)) else some false).bind λC=> if C then (YJ 16 ([]:List Ma) a2).bind λl=> (YJ 16 l [a1.text]).bind λm=> some m else some a2).bind λB=> (j z B r).bind λo=> Ym j a1 a2 p s o (GZ (k+1)) else some r
def Yd:Nat->Zc->(List Ma)->(List Ma)->Option (List Ma) | 0,_,_,_=>none | k+1,a1,a2,j=> ((if (decide (a1.kind=3)) then (KQ k a2 a1.text).bind λp=> some (decide (p<0)) else some false).bind λo=> if o then (J7 a1.text a2 j).bind λr=> some (.inr r) else some (.inl ()):Option (Unit ⊕ (List Ma))).bind fun | .inl _=>( (if (decide (a1.kind=7)) then some true else some (decide (a1.kind=9))).bind λm=> ((if m then some () else some ()).bind λ_=> some ()).bind λ_=> Ym (Yd k) a1 a2 m k j 0) | .inr l=>( some l)
def Wr (k:Nat) (a0:List Ma):Nat->(List Ma)->Int->Option (List Ma) | 0,_,_=>none | o+1,l,j=> if (decide (j<(a0.length:Int))) then ((at? a0 j).bind λm=> (KQ k a0 m).bind λr=> if (decide (r=j)) then (YJ 16 l [m]).bind λs=> some s else some l).bind λp=> Wr k a0 o p (GZ (j+1)) else some l
def Je (k:Nat) (a0:List Ma):Option (List Ma):= (Wr k a0 k ([]:List Ma) 0).bind λj=> (Xb j).bind λl=> some l
def Zb9 (k:Nat) (a0:Zc):Option (List Ma):= (Yd k a0 [] ([]:List Ma)).bind λj=> (Je k j).bind λl=> some l
def Vf (k:Nat) (a0:Zl):Option (List Ma):= if (!decide (a0.kind=2)) then some [] else (Zb9 k a0.expr).bind λj=> some j
def X7 (k:Nat) (a0:List Zl) (a1:Ma):Option Int:= (Ua k a0 a1).bind λj=> if (decide ((j.length:Int)=0)) then some (-1) else if (decide ((j.length:Int)=1)) then (at? j 0).bind λl=> some l else some (-2)
def XG (k:Nat) (a0:List Zl) (l:List Ma):Nat->(List Int)->Int->Option (List Int) | 0,_,_=>none | r+1,m,o=> if (decide (o<(l.length:Int))) then ((at? l o).bind λz=> (X7 k a0 z).bind λp=> if (decide (0<=p)) then (YJ 8 m [p]).bind λj=> some j else some m).bind λs=> XG k a0 l r s (GZ (o+1)) else some m
def YY (k:Nat) (a0:List Zl) (a1:Int):Option (List Int):= (if (decide (a1<0)) then some true else some (decide ((a0.length:Int)<=a1))).bind λl=> if l then some [] else ((at? a0 a1).bind λo=> (Vf k o).bind λp=> XG k a0 p k ([]:List Int) 0).bind λm=> (Zeu k m).bind λj=> some j
def Jh (k:Nat) (a0:Int) (j:List Zl):Option (List Int):= (YY k j a0).bind λl=> some l
def Zd2 (k:Nat) (a0:List Zl) (a1:Int):Option (List Int):= ZhY k (λx=>Jh k x a0) a1
def Uw (k:Nat) (a0:List Zl) (a1:Int):Option Bool:= (Zd2 k a0 a1).bind λj=> (Ut k j a1).bind λl=> some l
def ZN (k:Nat) (a0:List Zl) (a1:Int):Option (Zb×Bool):= (if (decide (a1<0)) then some true else some (decide ((a0.length:Int)<=a1))).bind λl=> if l then some ((Zb.mk 0 0 0 (⟨#[]⟩:Ma) [] [] []),false) else (at? a0 a1).bind λj=> if (decide (j.kind=1)) then some ((Zb.mk 0 0 0 (⟨#[]⟩:Ma) [] [] []),true) else (Y4 k a0 a1).bind λm=> if m then (Xa 2).bind λo=> some (o,true) else if (decide (j.kind=4)) then (Xa 8).bind λp=> some (p,true) else if (decide (j.kind=3)) then (Yk k j.value).bind λr=> some (r,true) else (Uw k a0 a1).bind λs=> if s then (Xa 3).bind λz=> some (z,true) else some ((Zb.mk 0 0 0 (⟨#[]⟩:Ma) [] [] []),false)
def XF (a0:Za) (a1:Int):Nat->Int->Option (Unit ⊕ Int) | 0,_=>none | k+1,j=> if (decide (j<(a0.entries.length:Int))) then (at? a0.entries j).bind λl=> if (decide (l.cell=a1)) then some (.inr j) else XF a0 a1 k (GZ (j+1)) else some (.inl ())
def Z6 (k:Nat) (a0:Za) (a1:Int):Option Int:= (XF a0 a1 k 0:Option (Unit ⊕ Int)).bind fun | .inl _=>( some (-1)) | .inr j=>( some j)
def QS (a0:List Ma) (a1:List Ma):Nat->Int->Option (Unit ⊕ Bool) | 0,_=>none | k+1,j=> if (decide (j<(a0.length:Int))) then (at? a0 j).bind λl=> (at? a1 j).bind λm=> if (!decide (l=m)) then some (.inr false) else QS a0 a1 k (GZ (j+1)) else some (.inl ())
def Uq (k:Nat) (a0:List Ma) (a1:List Ma):Option Bool:= if (!decide ((a0.length:Int)=(a1.length:Int))) then some false else (QS a0 a1 k 0:Option (Unit ⊕ Bool)).bind fun | .inl _=>( some true) | .inr j=>( some j)
def Vc (a0:List Int) (a1:List Int):Nat->Int->Option (Unit ⊕ Bool) | 0,_=>none | k+1,j=> if (decide (j<(a0.length:Int))) then (at? a0 j).bind λl=> (at? a1 j).bind λm=> if (!decide (l=m)) then some (.inr false) else Vc a0 a1 k (GZ (j+1)) else some (.inl ())
def U7 (k:Nat) (a0:List Int) (a1:List Int):Option Bool:= if (!decide ((a0.length:Int)=(a1.length:Int))) then some false else (Vc a0 a1 k 0:Option (Unit ⊕ Bool)).bind fun | .inl _=>( some true) | .inr j=>( some j)
def QT (a0:List Zk) (a1:List Zk):Nat->Int->Option (Unit ⊕ Bool) | 0,_=>none | m+1,j=> if (decide (j<(a0.length:Int))) then (at? a0 j).bind λk=> (at? a1 j).bind λl=> if (!(decide (k.cell=l.cell)&&decide (k.row=l.row))) then some (.inr false) else QT a0 a1 m (GZ (j+1)) else some (.inl ())
def Ur (k:Nat) (a0:List Zk) (a1:List Zk):Option Bool:= if (!decide ((a0.length:Int)=(a1.length:Int))) then some false else (QT a0 a1 k 0:Option (Unit ⊕ Bool)).bind fun | .inl _=>( some true) | .inr j=>( some j)
def Kk (j:Zb->Zb->Bool->Option Bool) (a0:Zb) (a1:Zb) (a2:Bool):Nat->Int->Option (Unit ⊕ Bool) | 0,_=>none | l+1,k=> if (decide (k<(a0.list.length:Int))) then (at? a0.list k).bind λm=> (at? a1.list k).bind λo=> (j m o a2).bind λp=> if (!p) then some (.inr false) else Kk j a0 a1 a2 l (GZ (k+1)) else some (.inl ())
def Ja (k:Nat) (a0:Zb) (a1:Zb) (a2:Bool):Nat->Int->Option (Unit ⊕ Bool) | 0,_=>none | r+1,l=> if (decide (l<(a0.rows.length:Int))) then ((at? a0.rows l).bind λp=> (at? a1.rows l).bind λj=> (U7 k p.cells j.cells).bind λm=> if (!m) then some true else if a2 then (Ur k p.from_ j.from_).bind λo=> some (!o) else some false).bind λs=> if s then some (.inr false) else Ja k a0 a1 a2 r (GZ (l+1)) else some (.inl ())
def KN:Nat->Zb->Zb->Bool->Option Bool | 0,_,_,_=>none | k+1,a0,a1,a2=> (if (!decide (a0.kind=a1.kind)) then some true else if (!decide (a0.n=a1.n)) then some true else if (!decide (a0.step=a1.step)) then some true else if (!decide (a0.text=a1.text)) then some true else (Uq k a0.columns a1.columns).bind λo=> if (!o) then some true else if (!decide ((a0.list.length:Int)=(a1.list.length:Int))) then some true else some (!decide ((a0.rows.length:Int)=(a1.rows.length:Int)))).bind λm=> if m then some false else (Kk (KN k) a0 a1 a2 k 0:Option (Unit ⊕ Bool)).bind fun | .inl _=>( (Ja k a0 a1 a2 k 0:Option (Unit ⊕ Bool)).bind fun | .inl _=>( some true) | .inr j=>( some j)) | .inr l=>( some l)
def XQ (k:Nat) (a0:Zb) (a1:Zb):Option Bool:= (KN k a0 a1 true).bind λj=> some j
def Z4 (j:Int->Za->(List Zl)->(List (Int×Bool))->Option (Bool×(List (Int×Bool)))) (k:Nat) (I:List Ma) (l:Za) (o:List Zl):Nat->(List (Int×Bool))->(List Int)->Int->Option (((List Int)×(List (Int×Bool))) ⊕ ((List Int)×Bool×(List (Int×Bool)))) | 0,_,_,_=>none | S+1,J,M,Q=> if (decide (Q<(I.length:Int))) then ((at? I Q).bind λs=> (X7 k o s).bind λm=> if (decide (m<0)) then (YJ 8 M [m]).bind λz=> some (.inl (J,z)) else (j m l o J).bind λp=> if (!p.1) then some (.inr ([],false,p.2)) else (at? l.notebook.cells m).bind λB=> (Z6 k l B.id).bind λC=> (at? l.entries C).bind λE=> (YJ 8 M [E.stamp]).bind λG=> some (.inl (p.2,G)):Option (((List (Int×Bool))×(List Int)) ⊕ ((List Int)×Bool×(List (Int×Bool))))).bind fun | .inl (T,r)=>( Z4 j k I l o S T r (GZ (Q+1))) | .inr R=>( some (.inr R)) else some (.inl (M,J))
mutual
def Qo:Nat->Int->Za->(List Zl)->(List (Int×Bool))->Option (Bool×(List (Int×Bool))) | 0,_,_,_,_=>none | k+1,a1,m,l,j=> (at? l a1).bind λo=> if (decide (o.kind=1)) then some (true,j) else (at? m.notebook.cells a1).bind λr=> (Z6 k m r.id).bind λs=> if (decide (s<0)) then some (false,j) else (at? m.entries s).bind λp=> (ZN k l a1).bind λz=> if z.2 then (if p.has then (XQ k p.value z.1).bind λI=> some I else some false).bind λG=> some (G,j) else (YP k a1 m l j).bind λC=> (if C.2.1 then if (decide (p.version=r.version)) then (U7 k p.inputs C.1).bind λB=> some B else some false else some false).bind λJ=> some (J,C.2.2)
def ZV:Nat->Int->Za->(List Zl)->(List (Int×Bool))->Option (Bool×(List (Int×Bool))) | 0,_,_,_,_=>none | k+1,a1,m,l,j=> if (ZgK j a1).isSome then some (((ZgK j a1).getD false),j) else (Qo k a1 m l j).bind λo=> some (o.1,(Zjd o.2 a1 o.1))
def YP:Nat->Int->Za->(List Zl)->(List (Int×Bool))->Option ((List Int)×Bool×(List (Int×Bool))) | 0,_,_,_,_=>none | k+1,a1,m,l,j=> (ZN k l a1).bind λo=> if o.2 then some (([]:List Int),true,j) else ((at? l a1).bind λp=> (Vf k p).bind λz=> Z4 (ZV k) k z m l k j ([]:List Int) 0:Option (((List Int)×(List (Int×Bool))) ⊕ ((List Int)×Bool×(List (Int×Bool))))).bind fun | .inl (r,s)=>( some (r,true,s)) | .inr E=>( some E)
end
def X4 (k:Nat) (a0:Za) (a1:Int):Option ((List Int)×Bool):= (X0 k a0).bind λj=> (if (decide (a1<0)) then some true else some (decide ((j.2.1.length:Int)<=a1))).bind λm=> if m then some ([],false) else (YP k a1 j.1 j.2.1 j.2.2).bind λl=> some (l.1,l.2.1)
end Go.Proofs.YtmcfegjoccgpoaaGreatDoor
namespace Go.Proofs.YtmcfegjoccgpoaaGreatDoor.Am
open Go.RowKit
section
variable {e:Env} {O O':St} {w:World} {N:Nat->Prop} {w0:Bs} {a:Act} {P:Program} {ops:Array Oper}
theorem ZJ.Zsi (h:ZJ N w0 e O a w) {d τ o n lo W:Nat} (hd:d<O.nt) {A:Arr} {v:Value} (hA:O.ar.lookup τ=some (some A)) (hv:(CV.vw τ n lo n W).rel e O w v) (hn:A.es.length=n) (h2:O.ar.lookup o=none) (c9:τ<1000000) (e0:o<1000000)
  {x:Value} {ys:List (List L)} {f:Bool} {τs:List Nat} {tx:Nat} (hs:ZwT P tx N e O w x ys W f τs) (k9:τ∉τs) (i2:Ue A.es=true) (i3:Ue ys=true)
  {t ty C:Nat} {ei:TI} (ht:P.underlying t=some (.slice C)) (hi:ti P C=some ei) (E:ei.size=W) (J:ei.zero.length=W)
  (b0:∀z∈A.es,z.length=W) (h4:∀z∈ys,z.length=W) (j9:n+ys.length<=140737488355328) (c7:(n+ys.length)*ei.bytes<=140737488355328):
  ∃v' w' e' l,(l=A.es.take lo\/l=[])/\(Builtin.append_ #[t,tx] ty #[v,x]).run P w= .ok v' w'/\
   ZJ N w0 e' (stA O ((d,.one (.vw o (l.length+(n-lo+ys.length)) l.length (l.length+(n-lo+ys.length)) W))::O.tm) o ⟨A.fr,l++(A.es.drop lo++ys)⟩ (τ::τs)) (a.put (some d) v') w':=by
 obtain ⟨us,Fx,m,i8,k0,k6⟩:=hs.ex;have G:=m.newsLen;obtain ⟨A',Z,hr,_⟩:=hv;rw [hA] at Z;obtain rfl:=ZEI Z;obtain ⟨k5,_,p,c,q,U,hq,rfl⟩:=(hr A rfl).2 hn;obtain ⟨j,dd,z,j1,j2,j3,j4,j5,j6,j7⟩:=VE hi;have jz:z.cells.size=W:=by rw [<-J,<-j7];simp
 have i6:o≠τ:=λe1=>by rw [e1,hA] at h2;cases h2
 have i0:o∉τ::τs:=λhm=>by
  rcases Hc.1 hm with e1| hm
  ·exact i6 e1
  ·obtain ⟨B,hB,_⟩:=hs.lv _ hm;rw [h2] at hB;cases hB
 obtain ⟨te,xs,Fs,r1,r2,_,_,r5⟩:=(h.ar τ A hA).row b0;have oA:OwE N w A.es xs []:=(r2.flat (N:=N) i2).2;have oY:OwE N w ys us []:=(i8.flat (N:=N) i3).2;obtain ⟨x1,Y,G1,G2,rfl,hG,o1,o2⟩:=OwE.split (xs:=A.es.take lo) (ys:=A.es.drop lo) (by rw [Hn];exact oA);obtain ⟨g0,g9⟩:=List.append_eq_nil_iff.1 hG.symm;subst g0 g9;have R:(A.es.take lo).length=lo:=by rw [Hg,hn];omega
 have b6:(A.es.drop lo).length=n-lo:=by rw [HR,hn]
 have l1:x1.length=lo*W:=by rw [o1.len,ZT λz J=>b0 z (HP J),R]
 have l2:Y.length=(n-lo)*W:=by rw [o2.len,ZT λz J=>b0 z (GJ J),b6]
 have b4:lo*W+(n-lo)*W=n*W:=by rw [<-HE];congr 1;omega
 have e7:∀b,(e.ρ τ).ownBlock=some b->∃κ A,O.ar.lookup κ=some (some A)/\(e.ρ κ).ownBlock=some b:=λb I=>⟨τ,A,hA,I⟩
 have fin:∀(v' s:Value) (w':World) (e8:Nat) (l:List (List L)) (b8:List Value),(l=A.es.take lo\/l=[])->
   (Builtin.append_ #[t,tx] ty #[.slice q (n-lo) (c-lo),x]).run P w= .ok v' w'->
   w'.ownsRow 0 e8 W s (l++(A.es.drop lo++ys)).length b8->OwE N w (l++(A.es.drop lo++ys)) b8 []->w.grownBy w' (e.ρ τ).ownBlock->
   (s.ownBlock=(e.ρ τ).ownBlock\/s.ownBlock=some w.heap.size)->(l++(A.es.drop lo++ys)=[]->∀p n c,s= .slice p n c->c=0)->
   (∃p c q,s= .slice p (l.length+(n-lo+ys.length)) c/\(l.length<c\/l.length=0->q=p.map (·.add (l.length*W)))/\v'= .slice q (n-lo+ys.length) (c-l.length))->
   ∃v' w' e' l,(l=A.es.take lo\/l=[])/\(Builtin.append_ #[t,tx] ty #[.slice q (n-lo) (c-lo),x]).run P w= .ok v' w'/\
   ZJ N w0 e' (stA O ((d,.one (.vw o (l.length+(n-lo+ys.length)) l.length (l.length+(n-lo+ys.length)) W))::O.tm) o ⟨A.fr,l++(A.es.drop lo++ys)⟩ (τ::τs)) (a.put (some d) v') w':=by
  intro v' s w' e8 l b8 hp e6 g1 g2 g3 X g5 ⟨p',c',q',g6,g8,g7⟩;have k7:l.length<=lo:=by rcases hp with rfl| rfl<;>simp;omega
  have S:∀b,s.ownBlock=some b->(∃κ A,O.ar.lookup κ=some (some A)/\(e.ρ κ).ownBlock=some b)\/w.heap.size<=b:=λb I=>by
   rcases X with X| X
   ·exact .inl (e7 b (X▸I))
   ·rw [I] at X;obtain rfl:=ZEI X;exact .inr (ZEN _)
  have e3:(l++(A.es.drop lo++ys)).length=l.length+(n-lo+ys.length):=by rw [Hp,Hp,b6]
  have h1:∀z∈l++(A.es.drop lo++ys),z.length=W:=λz J=>by
   rcases He.1 J with J| J
   ·rcases hp with rfl| rfl
    ·exact b0 z (HP J)
    ·cases J
   ·rcases He.1 J with J| J
    ·exact b0 z (GJ J)
    ·exact h4 z J
  have o':OwE N w' (l++(A.es.drop lo++ys)) b8 []:=g2.keep ⟨g3.size,λb I=>by cases I⟩
  have j8:=Uf.Zwt (N:=N) (M:=Mut (ZfC e o s (match s.ownBlock with | some b=>if A.fr then b::[] else [b]| none=>[])) (stA O ((d,.one (.vw o (l.length+(n-lo+ys.length)) l.length (l.length+(n-lo+ys.length)) W))::O.tm) o ⟨A.fr,l++(A.es.drop lo++ys)⟩ (τ::τs))) (A:=⟨A.fr,l++(A.es.drop lo++ys)⟩) (Fs:=[]) g1
   (λb I=>by
    rcases S b I with ⟨κ,B,q1,q2⟩| q
    ·exact ((h.ar κ B q1).own q2).2.1
    ·exact h.tn b (h.fr.new b (HA h.fr.size q))) h1 g5 (λ_=>⟨o',Ha,Ha⟩) (λ_=>⟨o'.rp,Ha⟩)
  refine ⟨v',w',_,l,hp,e6,h.Zo7 (row:=(e.ρ τ).ownBlock) e0 (λκ c6=> ?_) i0 g3 (λb I=>⟨τ,A,.inr Ha,hA,I⟩) (λA Z=>by rw [h2] at Z;cases Z) S (λb I=> ?_) j8 (by rw [Z2];exact h.nt) (by rw [ZO];exact h.df)
   (λu=>ZaX (by rw [h.nt];exact hd) ⟨some _,by rw [VZ,if_pos rfl],λB hB=> ?_, ?_⟩)⟩
  ·rcases Hc.1 c6 with rfl| c6
   ·exact ⟨A,hA,c9⟩
   ·exact hs.lv κ c6
  ·cases hv:s.ownBlock with
   | none=>rw [hv] at I;simp at I
   | some b'=>
    rw [hv] at I
    have h5:b=b':=by
     cases hf:A.fr<;>simp only [hf,if_true,if_false,ZEO,Hu] at I<;>exact I
    subst h5;rcases X with X| X
    ·exact .inr (.inl ⟨τ,Ha,((h.ar τ A hA).own (X▸hv)).1⟩)
    ·rw [hv] at X;obtain rfl:=ZEI X;exact .inr (.inr (ZEN _))
  ·obtain rfl:=ZEI hB;refine ⟨by rw [<-e3];exact ZEN _,λ_=>⟨Nat.le_add_right _ _,ZEN _,p',c',q',by simp [ZfC,g6],g8, ?_⟩⟩;rw [g7,Nat.add_sub_cancel_left]
  ·exact ⟨_,_,by rw [g7,Nat.add_sub_cancel_left],by rw [Nat.add_sub_cancel_left];omega⟩
 have c4:A.es.take lo++(A.es.drop lo++ys)=A.es++ys:=by rw [<-Hx,Hn]
 have c2:(A.es.take lo++(A.es.drop lo++ys)).length=n+ys.length:=by rw [c4,Hp,hn]
 have b3:(A.es.take lo).length+(n-lo+ys.length)=n+ys.length:=by rw [R];omega
 have hc:n<=c:=by
  rcases r1.2 with ⟨k1,k2⟩| ⟨g,e9,r,k1,_,_,k2,_⟩
  ·rw [hn] at k2;omega
  ·rw [U] at k1;injection k1 with _ _ k1;rw [<-k1] at k2;omega
 have i1:=m.cells
 by_cases hm:ys.length=0
 ·have j0:ys=[]:=HI hm;subst j0;have i9:us=[]:=HI (by simpa using G);subst i9;refine fin _ (e.ρ τ) w te (A.es.take lo) (x1++Y) (.inl rfl) ?_ (by rw [c2];simpa [hn] using r1) (by simpa [Hn] using oA) ⟨rfl,rfl,rfl,ZEN _,λ_ _ _=>rfl⟩ (.inl rfl) (λhe=>r5 (by simpa [Hn] using he)) ⟨p,c,q,by rw [b3];simpa using U,by rw [R];exact hq,rfl⟩;rw [R];exact _root_.Go.run_append_nothing w t tx ty C j ht j1 _ (n-lo) (c-lo) WF x (by rw [j5,E];exact m)
 ·rcases r1.2 with ⟨k1,k2⟩| ⟨g,e9,r,k1,_,hg,i5,h6,h7,Q⟩
  ·
   rw [hn] at k2;rw [U] at k1;injection k1 with k3 _ k4
   subst k3 k4;have e4:lo=0:=WF
   subst e4 k2;have k8:Y=[]:=HI (by simpa using l2);have h8:A.es.drop 0=[]:=HI (by simpa using b6);have i7:q=none:=by rw [hq (.inr rfl)];rfl
   subst i7;have T:=run_append_grow_src (P:=P) w t tx ty C j z ht j1 j3 none 0 0 [] (by simp [Builtin.firstCells]) x ys.length us (by rw [j5,E];exact m) WF WF (growslice_fits WF (by rw [j6];simpa using c7));simp only [HH,Hs] at T;have c1:=grownCap_ge w ys.length 0 C;have b2:grownCap w ys.length 0 C<=maxLen:=grownCap_le_maxLen w ys.length 0 C (by simp only [maxLen];omega);have el:([]++(A.es.drop 0++ys))=ys:=by rw [h8];rfl
   refine fin _ (.slice (some ⟨w.heap.size,0,none⟩) ys.length (grownCap w ys.length 0 C)) (w.drew.alloc (.cells (us.toArray++Builtin.zeroCells z.cells (grownCap w ys.length 0 C-ys.length)) C)) C [] us (.inr rfl) (by simpa using T) (by
    rw [el];refine ⟨G,.inr ⟨w.heap.size,_,_,rfl,Nat.zero_le _,heap_alloc_new w.drew _,c1,b2, ?_, ?_⟩⟩
    ·simp only [Array.size_append,GI,size_zeroCells,jz,G,<-HE]
     congr 1;omega
    ·simp only [Array.toList_append];rw [<-G];exact Gu) (by rw [el];exact oY) ⟨rfl,rfl,rfl,Ha,λk hk _=>Below.heap_alloc w.drew _ k hk⟩ (.inr rfl) (λhe=>by rw [el] at he;rw [he] at hm;simp at hm)
    ⟨some ⟨w.heap.size,0,none⟩,grownCap w ys.length 0 C,some ⟨w.heap.size,0,none⟩,Ha,by simp [Addr.add],Ha⟩
  ·rw [U] at k1;injection k1 with k3 _ k4
   subst k3 k4;rw [hn] at Q i5
   have M:lo<c->q=some ⟨g,lo*W,none⟩:=λb1=>by
    rw [hq (.inl b1)];simp only [Gk,Addr.add]
    split
    ·rename_i h0;rw [h0]
    ·simp
   by_cases b5:n+ys.length<=c
   ·have b1:lo<c:=by omega
    have e2:n*W+us.length<=r.size:=by rw [G,h7,<-HE];exact Gn _ b5
    have c5:=run_storeCells_at P g (n*W) te us 0 r w hg (by simpa using e2) m.one;simp only [Gr] at c5;have b7:n-lo+ys.length<=c-lo:=WF
    have c0:=i1;rw [<-E,<-j5] at c0
    have b9:(⟨g,lo*j.size,none⟩:Addr).add ((n-lo)*j.size)=⟨g,n*W,none⟩:=by
     rw [j5,E,Addr.add_lit,b4]
    have T:(Builtin.append_ #[t,tx] ty #[.slice (some ⟨g,lo*W,none⟩) (n-lo) (c-lo),x]).run P w= .ok (.slice (some ⟨g,lo*W,none⟩) (n-lo+ys.length) (c-lo)) (w.setRow g (r.toList.take (n*W)++us++r.toList.drop (n*W+us.length)).toArray):=by
     rw [<-E,<-j5] at c5 ⊢;rw [<-E,<-j5] at b9;rcases m.kind with ⟨e',hk⟩| hk<;>simp [Builtin.append_,run_underlying ht,run_underlying hk,sizeOf,typeInfo,j1,m.len,b7,c0,b9,c5]
    refine fin (.slice (some ⟨g,lo*W,none⟩) (n-lo+ys.length) (c-lo)) (.slice (some ⟨g,0,none⟩) (n+ys.length) c) (w.setRow g (r.toList.take (n*W)++us++r.toList.drop (n*W+us.length)).toArray) te (A.es.take lo) (x1++Y++us) (.inl rfl) (by rw [M b1];exact T) (by
     rw [c2];refine ⟨by rw [Hp,Hp,l1,l2,G,b4,HE],.inr ⟨g,c,_,rfl,Nat.zero_le _,setRow_heap w g r _ te _ hg,b5,h6, ?_, ?_⟩⟩
     ·simp only [GI,Hp,Hg,HR,HY];omega
     ·rw [Q];have:(n+ys.length)*W=(x1++Y++us).length:=by rw [Hp,Hp,l1,l2,G,b4,HE]
      rw [this];exact Gu) (by have:=(o1.append o2).append oY;rw [Hx] at this;exact this) ⟨rfl,rfl,rfl,Ha,λk _ hk=>setRow_other w g k _ (λe=>hk (by rw [U];simp [Value.ownBlock,e]))⟩ (.inl (by rw [U];rfl)) (λhe=>by
      have:=congrArg List.length he;rw [c2] at this;have h9:n+ys.length=0:=this;omega)
     ⟨some ⟨g,0,none⟩,c,some ⟨g,lo*W,none⟩,by rw [b3],λhh=>by rw [R,<-M b1];exact hq (by rw [R] at hh;exact hh),by rw [R]⟩
   ·have c8:(n-lo+ys.length)*j.bytes<=140737488355328:=by rw [j6];exact HA (Gn _ WF) c7
    have e5:(Builtin.firstCells j.size (n-lo) (.slice q (n-lo) (c-lo))).run P w.drew= .ok Y.toArray w.drew:=by
     rw [j5,E]
     by_cases b1:¬lo<c
     ·have:n-lo=0:=by omega
      have hx:Y=[]:=HI (by rw [l2,this];simp);rw [this,hx];cases q with
      | none=>simp [Builtin.firstCells]
      | some ad=>exact run_firstCells_some w.drew W 0 _ _ _ [] Ha Ha
     ·rw [M WF];refine run_firstCells_some w.drew W (n-lo) ⟨g,lo*W,none⟩ _ _ Y l2 λk u hu=> ?_;rw [Addr.add_lit];have hk:(x1++Y)[lo*W+k]? =some u:=by rw [Ge WF,l1];simpa using hu
      have:=cell_of_row w g (lo*W+k) r te (0,0) hg;show w.cell? _=_;rw [this]
      have i4:lo*W+k<n*W:=by
       have:=(Hh.1 hu).1;omega
      have h3:(r.toList.take (n*W))[lo*W+k]? =some u:=by rw [Q];exact hk
      rw [List.getElem?_take_of_lt i4] at h3
      simpa using h3
    have T:=run_append_grow_src (P:=P) w t tx ty C j z ht j1 j3 _ (n-lo) (c-lo) Y e5 x ys.length us (by rw [j5,E];exact m) WF WF (growslice_fits WF c8);have c1:=grownCap_ge w (n-lo+ys.length) (c-lo) C;have b2:grownCap w (n-lo+ys.length) (c-lo) C<=maxLen:=grownCap_le_maxLen w (n-lo+ys.length) (c-lo) C (by simp only [maxLen];omega);have el:([]++(A.es.drop lo++ys):List (List L))=A.es.drop lo++ys:=rfl;have c3:(Y++us).length=(n-lo+ys.length)*W:=by rw [Hp,l2,G,HE]
    refine fin _ (.slice (some ⟨w.heap.size,0,none⟩) (n-lo+ys.length) (grownCap w (n-lo+ys.length) (c-lo) C)) _ C [] (Y++us) (.inr rfl) T (by
     rw [el,Hp,b6];refine ⟨c3,.inr ⟨w.heap.size,_,_,rfl,Nat.zero_le _,heap_alloc_new w.drew _,c1,b2, ?_, ?_⟩⟩
     ·simp only [Array.size_append,GI,size_zeroCells,jz,c3,<-HE]
      congr 1;omega
     ·simp only [Array.toList_append];rw [<-c3];exact Gu) (by rw [el];exact o2.append oY) ⟨rfl,rfl,rfl,Ha,λk hk _=>Below.heap_alloc w.drew _ k hk⟩ (.inr rfl) (λhe=>by
      have:=congrArg List.length he;rw [el,Hp] at this;have h9:(A.es.drop lo).length+ys.length=0:=this;omega)
     ⟨some ⟨w.heap.size,0,none⟩,grownCap w (n-lo+ys.length) (c-lo) C,some ⟨w.heap.size,0,none⟩,Ha,by simp [Addr.add],Ha⟩
def vaD (P:Program) (ops:Array Oper) (rest:List Oper) (O:St) (K:St->Prop) (d τ n lo hi W:Nat) (ei:TI) (A:Arr):Option (List (List L)×Bool×List Nat×Prop)->Prop
 | some (k,f,l,q)=>q/\hi=n/\A.es.length=n/\W=ei.size/\ei.zero.length=ei.size/\d<O.nt/\O.ar.lookup (64*d)=none/\τ<1000000/\64*d<1000000/\τ∉l/\Ue A.es=true/\Ue k=true/\
   (∀z∈A.es,z.length=ei.size)/\(∀z∈k,z.length=ei.size)/\n+k.length<=140737488355328/\(n+k.length)*ei.bytes<=140737488355328/\
   ∀j,(j=A.es.take lo\/j=[])->Z9 P ops rest (O.app ⟨True,[(d,.one (.vw (64*d) (j.length+(n-lo+k.length)) j.length (j.length+(n-lo+k.length)) W))],[],(64*d,some ⟨A.fr,j++(A.es.drop lo++k)⟩)::(τ,none)::l.map λm=>(m,none)⟩) K
 | none=>False
def vaC (P:Program) (ops:Array Oper) (rest:List Oper) (O:St) (K:St->Prop) (d t t' τ n lo hi W:Nat) (xv:V):Option TI->Option (Option Arr)->Prop
 | some ei,some (some A)=>vaD P ops rest O K d τ n lo hi W ei A (Zqp P O ei t t' xv)
 | _,_=>False
def vaB (P:Program) (ops:Array Oper) (rest:List Oper) (O:St) (K:St->Prop) (d t t':Nat):Option TI->Option V->Option V->Prop
 | some ⟨.slice j,_,_,_⟩,some (.one (.vw τ n lo hi W)),some xv=>vaC P ops rest O K d t t' τ n lo hi W xv (ti P j) (O.ar.lookup τ)
 | _,_,_=>False
def vaA (P:Program) (ops:Array Oper) (rest:List Oper) (O:St) (K:St->Prop) (d:Nat):List Operand->List TypeId->Prop
 | [s,x],[t,t']=>vaB P ops rest O K d t t' (ti P t) (opd O s) (opd O x)
 | _,_=>False
def vaK (P:Program) (ops:Array Oper) (O:St) (K:St->Prop):List Oper->Prop
 | ⟨some d,.call { callee:=.builtin .append,args:=k,argTypes:=j},_,_,_,none⟩::rest=>vaA P ops rest O K d k.toList j.toList
 | _=>False
theorem ZsL {Q:Exit->Act->World->Prop} {l:List Oper} {K:St->Prop} (j:vaK P ops O K l) (hs:Sim N w0 O a w) (hQ:∀O' a' w',K O'->Sim N w0 O' a' w'->Q .normal a' w'):wpList P ops Q l a w:=by
 obtain ⟨e,h⟩:=hs;unfold vaK at j
 split at j
 ·rename_i d xs ts ty X af rest;unfold vaA at j
  split at j
  ·rename_i s x t t' T S;unfold vaB at j
   split at j
   ·rename_i et _ _ _ τ n lo hi W xv R M U;unfold vaC at j
    split at j
    ·rename_i ei A I hA;unfold vaD at j
     split at j
     ·rename_i ys f b0 q o;obtain ⟨c1,rfl,c3,rfl,c5,c6,c7,c8,c9,p,r,z,B,m,C,E,k⟩:=j;have Z:=Xp R;have src:=Zem h (ZG h U) o c1 m Z;obtain ⟨v',w',e',Y,k0,k1,k2⟩:=h.Zsi (P:=P) (ty:=ty) c6 hA (ZG h M) c3 c7 c8 c9 src p r z Z I rfl c5 B m C E;refine wpList_step λK' G=> ?_;simp only [Region.wanted,if_true]
      have J:(execOp a.eval ⟨some d,.call { callee:=.builtin .append,args:=xs,argTypes:=ts},ty,X,af,none⟩).run P w= .ok (.value v') w':=by
       have e1:xs.map a.eval= #[a.eval s,a.eval x]:=by rw [<-HJ];simp [T]
       have e2:ts= #[t,t']:=by rw [<-HJ];simp [S]
       subst e2;simp [execOp,resolve,invoke,builtin,e1,k1,Sem.run_bind,Result.andThen]
      unfold Oper.wp;rw [J,Oper.upon_value];exact G _ _ (JO (k Y k0) ⟨e',k2⟩ hQ)
     ·exact j.elim
    ·exact j.elim
   ·exact j.elim
  ·exact j.elim
 ·exact j.elim
theorem ZyH {Q:Exit->St->Prop} {id:Nat} {l:List Oper} (n:Nat) (h:Z9 P l.toArray (l.take n) O (λm=>vaK P l.toArray m (λO'=>Q .normal O') (l.drop n))):AW P N w0 (.region id l.toArray false) Q O:=λa w p=>by
 refine wp_region_lit ?_;have:=Zcq (Q:=λe a w=>∃O',Q e O'/\Sim N w0 O' a w) (tail:=l.drop n) h p λO' o r j k=>ZsL j k λO' o r j k=>⟨O',j,k⟩
 rwa [Hn] at this
theorem Zvj {t τ n W:Nat} (I:O.tm.lookup t=some (.one (.own τ n))):ZaI ⟨O.nt,(t,.one (.vw τ n 0 n W))::O.tm,O.bx,O.ar⟩ O:=λN w0 a w ⟨e,h⟩=>by
 have u:=ZuZ e O w ((t,.one (.vw τ n 0 n W))::O.tm) O.nt;refine ⟨e,h.nt,h.df,λs y j=> ?_,λk cs r=>⟨(h.bx k cs r).1,(h.bx k cs r).2.up u⟩,h.ar,h.sep,h.fr,h.bad,h.dk,h.pn,h.tn,h.tp⟩;rw [lookup_cons] at j
 by_cases z:s=t
 ·subst z;rw [if_pos rfl] at j;obtain rfl:=ZEI j;obtain ⟨A,C,m,p,c,l,E⟩:=h.tm s _ I;refine ⟨A,C,λB o=>⟨(m B o).1,λG=> ?_⟩,p,c,by simpa using l,by simpa using E⟩;refine ⟨Nat.zero_le _,ZEN _,p,c,p, ?_,λ_=> ?_,by simpa using l⟩
  ·rw [<-(m B o).2 G];exact l
  ·cases p with
   | none=>rfl
   | some J=>simp [Addr.add]
 ·rw [if_neg z] at j;exact (h.tm s y j).up u
end
section
variable {P:Program} {ops:Array Oper} {rest:List Oper} {O:St} {K:St->Prop} {d t t' τ n lo hi W:Nat} {ei:TI} {A:Arr} {xv:V}
theorem ZBb {ys:List (List L)} {f:Bool} {τs:List Nat} {q:Prop}:vaD P ops rest O K d τ n lo hi W ei A (some (ys,f,τs,q))=(q/\hi=n/\A.es.length=n/\W=ei.size/\ei.zero.length=ei.size/\d<O.nt/\O.ar.lookup (64*d)=none/\τ<1000000/\64*d<1000000/\τ∉τs/\Ue A.es=true/\Ue ys=true/\
   (∀z∈A.es,z.length=ei.size)/\(∀z∈ys,z.length=ei.size)/\n+ys.length<=140737488355328/\(n+ys.length)*ei.bytes<=140737488355328/\
   ∀j,(j=A.es.take lo\/j=[])->Z9 P ops rest (O.app ⟨True,[(d,.one (.vw (64*d) (j.length+(n-lo+ys.length)) j.length (j.length+(n-lo+ys.length)) W))],[],(64*d,some ⟨A.fr,j++(A.es.drop lo++ys)⟩)::(τ,none)::τs.map λκ=>(κ,none)⟩) K):=rfl
theorem ZBc:vaC P ops rest O K d t t' τ n lo hi W xv (some ei) (some (some A))=vaD P ops rest O K d τ n lo hi W ei A (Zqp P O ei t t' xv):=rfl
theorem ZBd {j a b:Nat} {c:List Value}:vaB P ops rest O K d t t' (some ⟨.slice j,a,b,c⟩) (some (.one (.vw τ n lo hi W))) (some xv)=vaC P ops rest O K d t t' τ n lo hi W xv (ti P j) (O.ar.lookup τ):=rfl
theorem ZBe {s x:Operand}:vaA P ops rest O K d [s,x] [t,t']=vaB P ops rest O K d t t' (ti P t) (opd O s) (opd O x):=rfl
theorem ZBa {xs:Array Operand} {j:Array TypeId} {ty:TypeId} {pos:String} {k:Array Edge}:vaK P ops O K (⟨some d,.call { callee:=.builtin .append,args:=xs,argTypes:=j},ty,pos,k,none⟩::rest)=vaA P ops rest O K d xs.toList j.toList:=rfl
end
attribute [go_sem] ZBb ZBc ZBd ZBe ZBa
end Go.Proofs.YtmcfegjoccgpoaaGreatDoor.Am
namespace Go.Proofs
open Go.Shelf
def Tryz.Zpy:Go.Shelf.Ren:=⟨fun | 137=>281| 217=>301| 266=>324| n=>n,fun | 9=>9| 5=>5| 3=>3| n=>n,fun | n=>n⟩
theorem Tryz.Zx2:Go.Proofs.Lays.n137 Tryz.prog Tryz.Zpy:={
 mixed:=by kernel_rfl
 f137:=Tryz.func281.trans (congrArg some (by kernel_rfl))
 f217:=Tryz.func301.trans (congrArg some (by kernel_rfl))
 f266:=Tryz.func324.trans (congrArg some (by kernel_rfl))
 t3:=Tryz.underlying3
 a3:=Tryz.isAgg3
 z3:=Tryz.sizeOf3
 v3:=Tryz.zeroValue3
 t5:=Tryz.underlying5
 a5:=Tryz.isAgg5
 z5:=Tryz.sizeOf5
 v5:=Tryz.zeroValue5
 t9:=Tryz.underlying9
 a9:=Tryz.isAgg9
 z9:=Tryz.sizeOf9
 v9:=Tryz.zeroValue9}
open Go.RowKit in
theorem Tryz.strings_IndexByte (s:ByteArray) (c:Int) (w:World):
  Calls Tryz.prog 281 #[.string s,.int .u8 c] w fun e w'=>e= .returned (.int .i64 (Lib.indexByte s.data.toList c.toNat.toUInt8))/\w'=w:=Any.strings_IndexByte Tryz.Zx2 s c w
def Tryz.Zx0:Go.Shelf.Ren:=⟨fun | 172=>290| 244=>308| 245=>309| 247=>330| 279=>331| 280=>332| 281=>333| 282=>334| 287=>347| 316=>348| 171=>291| 205=>349| 321=>364| 322=>365| 243=>310| 246=>335| 283=>350| 284=>351| 285=>352| 286=>353| 129=>322| 317=>366| 318=>367| 319=>368| 320=>369| 337=>374| 338=>375| n=>n,fun | 9=>9| 3=>3| 75=>286| 76=>287| 4=>4| 5=>5| 167=>310| 37=>186| 0=>0| 85=>311| 2=>2| 168=>313| 53=>307| 175=>333| 46=>293| 210=>337| 127=>353| 145=>356| 143=>354| 21=>21| 171=>339| 173=>341| 212=>358| 51=>305| 20=>20| 213=>359| 232=>363| 233=>364| 80=>269| n=>n,fun | 15=>3| 16=>4| 17=>5| 18=>6| 19=>7| n=>n⟩
def Tryz.ZwC:Go.Shelf.Ren:=⟨fun | 246=>335| 283=>350| 284=>351| 285=>352| 286=>353| 129=>322| 317=>366| 318=>367| 319=>368| 320=>369| 337=>374| 338=>375| n=>n,fun | 2=>2| 3=>3| 9=>9| 4=>4| 171=>339| 0=>0| 53=>307| 37=>186| 5=>5| 173=>341| 212=>358| 51=>305| 20=>20| 213=>359| 46=>293| 232=>363| 233=>364| n=>n,fun | 17=>5| 18=>6| 19=>7| n=>n⟩
def Tryz.ZwD:Go.Shelf.Ren:=⟨fun | 243=>310| 246=>335| 283=>350| 284=>351| 285=>352| 286=>353| 129=>322| 317=>366| 318=>367| 319=>368| 320=>369| 337=>374| 338=>375| n=>n,fun | 3=>3| 9=>9| 2=>2| 4=>4| 171=>339| 0=>0| 53=>307| 37=>186| 5=>5| 173=>341| 212=>358| 51=>305| 20=>20| 213=>359| 46=>293| 232=>363| 233=>364| n=>n,fun | 17=>5| 18=>6| 19=>7| n=>n⟩
def Tryz.Zn8:Go.Shelf.Ren:=⟨fun | 171=>291| 243=>310| 246=>335| 283=>350| 284=>351| 285=>352| 286=>353| 129=>322| 317=>366| 318=>367| 319=>368| 320=>369| 337=>374| 338=>375| n=>n,fun | 3=>3| 9=>9| 2=>2| 4=>4| 171=>339| 0=>0| 53=>307| 37=>186| 5=>5| 173=>341| 212=>358| 51=>305| 20=>20| 213=>359| 46=>293| 232=>363| 233=>364| n=>n,fun | 17=>5| 18=>6| 19=>7| n=>n⟩
theorem Tryz.Zvx:Go.Proofs.LaysM.n171 Tryz.prog Tryz.Zn8:={
 mixed:=by kernel_rfl
 f129:=Tryz.func322.trans (congrArg some (by kernel_rfl))
 f171:=Tryz.func291.trans (congrArg some (by kernel_rfl))
 f243:=Tryz.func310.trans (congrArg some (by kernel_rfl))
 f246:=Tryz.func335.trans (congrArg some (by kernel_rfl))
 f283:=Tryz.func350.trans (congrArg some (by kernel_rfl))
 f284:=Tryz.func351.trans (congrArg some (by kernel_rfl))
 f285:=Tryz.func352.trans (congrArg some (by kernel_rfl))
 f286:=Tryz.func353.trans (congrArg some (by kernel_rfl))
 f317:=Tryz.func366.trans (congrArg some (by kernel_rfl))
 f318:=Tryz.func367.trans (congrArg some (by kernel_rfl))
 f319:=Tryz.func368.trans (congrArg some (by kernel_rfl))
 f320:=Tryz.func369.trans (congrArg some (by kernel_rfl))
 f337:=Tryz.func374.trans (congrArg some (by kernel_rfl))
 f338:=Tryz.func375.trans (congrArg some (by kernel_rfl))
 t0:=Tryz.underlying0
 a0:=Tryz.isAgg0
 z0:=Tryz.sizeOf0
 v0:=Tryz.zeroValue0
 t2:=Tryz.underlying2
 a2:=Tryz.isAgg2
 z2:=Tryz.sizeOf2
 v2:=Tryz.zeroValue2
 t3:=Tryz.underlying3
 a3:=Tryz.isAgg3
 z3:=Tryz.sizeOf3
 v3:=Tryz.zeroValue3
 t4:=Tryz.underlying4
 a4:=Tryz.isAgg4
 z4:=Tryz.sizeOf4
 v4:=Tryz.zeroValue4
 t5:=Tryz.underlying5
 a5:=Tryz.isAgg5
 z5:=Tryz.sizeOf5
 v5:=Tryz.zeroValue5
 t9:=Tryz.underlying9
 a9:=Tryz.isAgg9
 z9:=Tryz.sizeOf9
 v9:=Tryz.zeroValue9
 t20:=Tryz.underlying20
 a20:=Tryz.isAgg20
 z20:=Tryz.sizeOf20
 v20:=Tryz.zeroValue20
 t37:=Tryz.underlying186
 a37:=Tryz.isAgg186
 z37:=Tryz.sizeOf186
 v37:=Tryz.zeroValue186
 t46:=Tryz.underlying293
 a46:=Tryz.isAgg293
 z46:=Tryz.sizeOf293
 v46:=Tryz.zeroValue293
 t51:=Tryz.underlying305
 a51:=Tryz.isAgg305
 z51:=Tryz.sizeOf305
 v51:=Tryz.zeroValue305
 t53:=Tryz.underlying307
 a53:=Tryz.isAgg307
 z53:=Tryz.sizeOf307
 v53:=Tryz.zeroValue307
 t171:=Tryz.underlying339
 a171:=Tryz.isAgg339
 z171:=Tryz.sizeOf339
 v171:=Tryz.zeroValue339
 t173:=Tryz.underlying341
 a173:=Tryz.isAgg341
 z173:=Tryz.sizeOf341
 v173:=Tryz.zeroValue341
 t212:=Tryz.underlying358
 a212:=Tryz.isAgg358
 z212:=Tryz.sizeOf358
 v212:=Tryz.zeroValue358
 t213:=Tryz.underlying359
 a213:=Tryz.isAgg359
 z213:=Tryz.sizeOf359
 t232:=Tryz.underlying363
 a232:=Tryz.isAgg363
 z232:=Tryz.sizeOf363
 v232:=Tryz.zeroValue363
 t233:=Tryz.underlying364
 a233:=Tryz.isAgg364
 z233:=Tryz.sizeOf364
 v233:=Tryz.zeroValue364
 g17:=by kernel_rfl
 g18:=by kernel_rfl
 g19:=by kernel_rfl
 i0:=by kernel_rfl
 i2:=by kernel_rfl
 i3:=by kernel_rfl
 i4:=by kernel_rfl
 i5:=by kernel_rfl
 i9:=by kernel_rfl
 i20:=by kernel_rfl
 i37:=by kernel_rfl
 i46:=by kernel_rfl
 i51:=by kernel_rfl
 i53:=by kernel_rfl
 i171:=by kernel_rfl
 i173:=by kernel_rfl
 i212:=by kernel_rfl
 i232:=by kernel_rfl
 i233:=by kernel_rfl
 m17:=by kernel_rfl
 m18:=by kernel_rfl
 m19:=by kernel_rfl}
open Go.RowKit Go.Sort Go.Lib in
theorem Tryz.strconv_Itoa (n:Int) (h0: -9223372036854775808<=n) (h1:n<=9223372036854775807) (w:World) (htab:Lib.TabIs Tryz.prog w "internal/strconv.uint64pow10" .u64 Lib.pow10Tab):
  Calls Tryz.prog 291 #[.int .i64 n] w fun e w'=>e= .returned (.string ⟨(Lib.itoa n).toArray⟩)/\∃k os,w'=grow (w.drewN k) os:=Any.strconv_Itoa Tryz.Zvx n h0 h1 w htab
def Tryz.Zn9:Go.Shelf.Ren:=⟨fun | 172=>290| 244=>308| 245=>309| 247=>330| 279=>331| 280=>332| 281=>333| 282=>334| 287=>347| 316=>348| 171=>291| 205=>349| 321=>364| 322=>365| 243=>310| 246=>335| 283=>350| 284=>351| 285=>352| 286=>353| 129=>322| 317=>366| 318=>367| 319=>368| 320=>369| 337=>374| 338=>375| n=>n,fun | 9=>9| 3=>3| 75=>286| 76=>287| 4=>4| 5=>5| 167=>310| 37=>186| 0=>0| 85=>311| 2=>2| 168=>313| 53=>307| 175=>333| 46=>293| 210=>337| 127=>353| 145=>356| 143=>354| 21=>21| 171=>339| 173=>341| 212=>358| 51=>305| 20=>20| 213=>359| 232=>363| 233=>364| 80=>269| n=>n,fun | 15=>3| 16=>4| 17=>5| 18=>6| 19=>7| n=>n⟩
theorem Tryz.Zmu:Go.Proofs.LaysC.n172 Tryz.prog Tryz.Zn9:={
 mixed:=by kernel_rfl
 f129:=Tryz.func322.trans (congrArg some (by kernel_rfl))
 f171:=Tryz.func291.trans (congrArg some (by kernel_rfl))
 f172:=Tryz.func290.trans (congrArg some (by kernel_rfl))
 f205:=Tryz.func349.trans (congrArg some (by kernel_rfl))
 f243:=Tryz.func310.trans (congrArg some (by kernel_rfl))
 f244:=Tryz.func308.trans (congrArg some (by kernel_rfl))
 f245:=Tryz.func309.trans (congrArg some (by kernel_rfl))
 f246:=Tryz.func335.trans (congrArg some (by kernel_rfl))
 f247:=Tryz.func330.trans (congrArg some (by kernel_rfl))
 f279:=Tryz.func331.trans (congrArg some (by kernel_rfl))
 f280:=Tryz.func332.trans (congrArg some (by kernel_rfl))
 f281:=Tryz.func333.trans (congrArg some (by kernel_rfl))
 f282:=Tryz.func334.trans (congrArg some (by kernel_rfl))
 f283:=Tryz.func350.trans (congrArg some (by kernel_rfl))
 f284:=Tryz.func351.trans (congrArg some (by kernel_rfl))
 f285:=Tryz.func352.trans (congrArg some (by kernel_rfl))
 f286:=Tryz.func353.trans (congrArg some (by kernel_rfl))
 f287:=Tryz.func347.trans (congrArg some (by kernel_rfl))
 f316:=Tryz.func348.trans (congrArg some (by kernel_rfl))
 f317:=Tryz.func366.trans (congrArg some (by kernel_rfl))
 f318:=Tryz.func367.trans (congrArg some (by kernel_rfl))
 f319:=Tryz.func368.trans (congrArg some (by kernel_rfl))
 f320:=Tryz.func369.trans (congrArg some (by kernel_rfl))
 f321:=Tryz.func364.trans (congrArg some (by kernel_rfl))
 f322:=Tryz.func365.trans (congrArg some (by kernel_rfl))
 f337:=Tryz.func374.trans (congrArg some (by kernel_rfl))
 f338:=Tryz.func375.trans (congrArg some (by kernel_rfl))
 t0:=Tryz.underlying0
 a0:=Tryz.isAgg0
 z0:=Tryz.sizeOf0
 v0:=Tryz.zeroValue0
 t2:=Tryz.underlying2
 a2:=Tryz.isAgg2
 z2:=Tryz.sizeOf2
 v2:=Tryz.zeroValue2
 t3:=Tryz.underlying3
 a3:=Tryz.isAgg3
 z3:=Tryz.sizeOf3
 v3:=Tryz.zeroValue3
 t4:=Tryz.underlying4
 a4:=Tryz.isAgg4
 z4:=Tryz.sizeOf4
 v4:=Tryz.zeroValue4
 t5:=Tryz.underlying5
 a5:=Tryz.isAgg5
 z5:=Tryz.sizeOf5
 v5:=Tryz.zeroValue5
 t9:=Tryz.underlying9
 a9:=Tryz.isAgg9
 z9:=Tryz.sizeOf9
 v9:=Tryz.zeroValue9
 t20:=Tryz.underlying20
 a20:=Tryz.isAgg20
 z20:=Tryz.sizeOf20
 v20:=Tryz.zeroValue20
 t21:=Tryz.underlying21
 a21:=Tryz.isAgg21
 z21:=Tryz.sizeOf21
 v21:=Tryz.zeroValue21
 t37:=Tryz.underlying186
 a37:=Tryz.isAgg186
 z37:=Tryz.sizeOf186
 v37:=Tryz.zeroValue186
 t46:=Tryz.underlying293
 a46:=Tryz.isAgg293
 z46:=Tryz.sizeOf293
 v46:=Tryz.zeroValue293
 t51:=Tryz.underlying305
 a51:=Tryz.isAgg305
 z51:=Tryz.sizeOf305
 v51:=Tryz.zeroValue305
 t53:=Tryz.underlying307
 a53:=Tryz.isAgg307
 z53:=Tryz.sizeOf307
 v53:=Tryz.zeroValue307
 t75:=Tryz.underlying286
 a75:=Tryz.isAgg286
 z75:=Tryz.sizeOf286
 v75:=Tryz.zeroValue286
 t76:=Tryz.underlying287
 a76:=Tryz.isAgg287
 z76:=Tryz.sizeOf287
 v76:=Tryz.zeroValue287
 t85:=Tryz.underlying311
 a85:=Tryz.isAgg311
 z85:=Tryz.sizeOf311
 v85:=Tryz.zeroValue311
 t127:=Tryz.underlying353
 a127:=Tryz.isAgg353
 z127:=Tryz.sizeOf353
 v127:=Tryz.zeroValue353
 t143:=Tryz.underlying354
 a143:=Tryz.isAgg354
 z143:=Tryz.sizeOf354
 v143:=Tryz.zeroValue354
 t145:=Tryz.underlying356
 a145:=Tryz.isAgg356
 z145:=Tryz.sizeOf356
 v145:=Tryz.zeroValue356
 t167:=Tryz.underlying310
 a167:=Tryz.isAgg310
 z167:=Tryz.sizeOf310
 v167:=Tryz.zeroValue310
 t168:=Tryz.underlying313
 a168:=Tryz.isAgg313
 z168:=Tryz.sizeOf313
 v168:=Tryz.zeroValue313
 t171:=Tryz.underlying339
 a171:=Tryz.isAgg339
 z171:=Tryz.sizeOf339
 v171:=Tryz.zeroValue339
 t173:=Tryz.underlying341
 a173:=Tryz.isAgg341
 z173:=Tryz.sizeOf341
 v173:=Tryz.zeroValue341
 t175:=Tryz.underlying333
 a175:=Tryz.isAgg333
 z175:=Tryz.sizeOf333
 v175:=Tryz.zeroValue333
 t210:=Tryz.underlying337
 a210:=Tryz.isAgg337
 z210:=Tryz.sizeOf337
 v210:=Tryz.zeroValue337
 t212:=Tryz.underlying358
 a212:=Tryz.isAgg358
 z212:=Tryz.sizeOf358
 v212:=Tryz.zeroValue358
 t213:=Tryz.underlying359
 a213:=Tryz.isAgg359
 z213:=Tryz.sizeOf359
 t232:=Tryz.underlying363
 a232:=Tryz.isAgg363
 z232:=Tryz.sizeOf363
 v232:=Tryz.zeroValue363
 t233:=Tryz.underlying364
 a233:=Tryz.isAgg364
 z233:=Tryz.sizeOf364
 v233:=Tryz.zeroValue364
 g15:=by kernel_rfl
 g16:=by kernel_rfl
 g17:=by kernel_rfl
 g18:=by kernel_rfl
 g19:=by kernel_rfl
 t80:=Tryz.underlying269
 a80:=Tryz.isAgg269
 z80:=Tryz.sizeOf269
 v80:=Tryz.zeroValue269
 i0:=by kernel_rfl
 i2:=by kernel_rfl
 i3:=by kernel_rfl
 i4:=by kernel_rfl
 i5:=by kernel_rfl
 i9:=by kernel_rfl
 i20:=by kernel_rfl
 i21:=by kernel_rfl
 i37:=by kernel_rfl
 i46:=by kernel_rfl
 i51:=by kernel_rfl
 i53:=by kernel_rfl
 i75:=by kernel_rfl
 i76:=by kernel_rfl
 i80:=by kernel_rfl
 i85:=by kernel_rfl
 i127:=by kernel_rfl
 i143:=by kernel_rfl
 i145:=by kernel_rfl
 i167:=by kernel_rfl
 i168:=by kernel_rfl
 i171:=by kernel_rfl
 i173:=by kernel_rfl
 i175:=by kernel_rfl
 i210:=by kernel_rfl
 i212:=by kernel_rfl
 i232:=by kernel_rfl
 i233:=by kernel_rfl
 m15:=by kernel_rfl
 m16:=by kernel_rfl
 m17:=by kernel_rfl
 m18:=by kernel_rfl
 m19:=by kernel_rfl
 c0:=by kernel_rfl
 c2:=by kernel_rfl
 c3:=by kernel_rfl
 c4:=by kernel_rfl
 c5:=by kernel_rfl
 c9:=by kernel_rfl
 c20:=by kernel_rfl
 c21:=by kernel_rfl
 c37:=by kernel_rfl
 c46:=by kernel_rfl
 c51:=by kernel_rfl
 c53:=by kernel_rfl
 c75:=by kernel_rfl
 c76:=by kernel_rfl
 c80:=by kernel_rfl
 c85:=by kernel_rfl
 c127:=by kernel_rfl
 c143:=by kernel_rfl
 c145:=by kernel_rfl
 c167:=by kernel_rfl
 c168:=by kernel_rfl
 c171:=by kernel_rfl
 c173:=by kernel_rfl
 c175:=by kernel_rfl
 c210:=by kernel_rfl
 c212:=by kernel_rfl
 c213:=by kernel_rfl
 c232:=by kernel_rfl
 c233:=by kernel_rfl}
open Go.RowKit in
theorem Tryz.strconv_Atoi_ok (s:ByteArray) (hmax:s.size<=9223372036854775806) (v:Int) (h:Lib.atoiAll s.data.toList= .ok v) (w:World):
  Calls Tryz.prog 290 #[.string s] w fun e w'=>e= .returned (.tuple #[.int .i64 v,.nilIface])/\(w'=w\/∃t,w'=Lib.bytesWorld w 5 t):=Any.strconv_Atoi_ok Tryz.Zmu s hmax v h w
open Go.RowKit in
theorem Tryz.strconv_Atoi_syntax (s:ByteArray) (hlim:s.size<=281474976710656) (h:Lib.atoiAll s.data.toList= .«syntax») (ev:Value) (w:World) (hv:w.cell? ⟨3,0,none⟩=some ev) (hev:ev= .nilIface\/∃te pe,ev= .iface te pe):
  Calls Tryz.prog 290 #[.string s] w fun e w'=>∃N,e= .returned (.tuple #[.int .i64 (0),.iface 313 (.pointer (some ⟨N,0,none⟩))])/\w.heap.size<=N/\w'.heap[N]? =some (.cells #[.string ⟨#[65,116,111,105]⟩,.string s,ev] 337 (0,0))/\Below w.heap.size w w':=Any.strconv_Atoi_syntax Tryz.Zmu s hlim h ev w hv hev
open Go.RowKit in
theorem Tryz.strconv_Atoi_range (s:ByteArray) (hlim:s.size<=281474976710656) (h:Lib.atoiAll s.data.toList= .range) (ev:Value) (w:World) (hv:w.cell? ⟨4,0,none⟩=some ev) (hev:ev= .nilIface\/∃te pe,ev= .iface te pe):
  Calls Tryz.prog 290 #[.string s] w fun e w'=>∃N,e= .returned (.tuple #[.int .i64 (Lib.atoiSat s.data.toList),.iface 313 (.pointer (some ⟨N,0,none⟩))])/\w.heap.size<=N/\w'.heap[N]? =some (.cells #[.string ⟨#[65,116,111,105]⟩,.string s,ev] 337 (0,0))/\Below w.heap.size w w':=Any.strconv_Atoi_range Tryz.Zmu s hlim h ev w hv hev
def Tryz.Zpw:Go.Shelf.Ren:=⟨fun | 191=>293| 189=>311| 125=>295| 257=>336| 128=>321| 129=>322| 294=>354| 295=>355| 296=>356| 297=>357| 298=>358| 299=>359| 216=>360| 300=>361| 301=>362| 328=>370| 329=>338| 330=>339| 331=>371| 332=>372| 215=>373| 343=>376| n=>n,fun | 28=>33| 0=>0| 3=>3| 46=>293| 51=>305| 53=>307| 4=>4| 183=>299| 182=>298| 131=>261| 5=>5| 9=>9| 218=>318| 222=>322| 228=>349| 229=>350| n=>n,fun | n=>n⟩
theorem Tryz.ZtM:Go.Proofs.Lays.n191 Tryz.prog Tryz.Zpw:={
 mixed:=by kernel_rfl
 f125:=Tryz.func295.trans (congrArg some (by kernel_rfl))
 f128:=Tryz.func321.trans (congrArg some (by kernel_rfl))
 f129:=Tryz.func322.trans (congrArg some (by kernel_rfl))
 f189:=Tryz.func311.trans (congrArg some (by kernel_rfl))
 f191:=Tryz.func293.trans (congrArg some (by kernel_rfl))
 f215:=Tryz.func373.trans (congrArg some (by kernel_rfl))
 f216:=Tryz.func360.trans (congrArg some (by kernel_rfl))
 f257:=Tryz.func336.trans (congrArg some (by kernel_rfl))
 f294:=Tryz.func354.trans (congrArg some (by kernel_rfl))
 f295:=Tryz.func355.trans (congrArg some (by kernel_rfl))
 f296:=Tryz.func356.trans (congrArg some (by kernel_rfl))
 f297:=Tryz.func357.trans (congrArg some (by kernel_rfl))
 f298:=Tryz.func358.trans (congrArg some (by kernel_rfl))
 f299:=Tryz.func359.trans (congrArg some (by kernel_rfl))
 f300:=Tryz.func361.trans (congrArg some (by kernel_rfl))
 f301:=Tryz.func362.trans (congrArg some (by kernel_rfl))
 f328:=Tryz.func370.trans (congrArg some (by kernel_rfl))
 f329:=Tryz.func338.trans (congrArg some (by kernel_rfl))
 f330:=Tryz.func339.trans (congrArg some (by kernel_rfl))
 f331:=Tryz.func371.trans (congrArg some (by kernel_rfl))
 f332:=Tryz.func372.trans (congrArg some (by kernel_rfl))
 f343:=Tryz.func376.trans (congrArg some (by kernel_rfl))
 t0:=Tryz.underlying0
 a0:=Tryz.isAgg0
 z0:=Tryz.sizeOf0
 v0:=Tryz.zeroValue0
 t3:=Tryz.underlying3
 a3:=Tryz.isAgg3
 z3:=Tryz.sizeOf3
 v3:=Tryz.zeroValue3
 t4:=Tryz.underlying4
 a4:=Tryz.isAgg4
 z4:=Tryz.sizeOf4
 v4:=Tryz.zeroValue4
 t5:=Tryz.underlying5
 a5:=Tryz.isAgg5
 z5:=Tryz.sizeOf5
 v5:=Tryz.zeroValue5
 t9:=Tryz.underlying9
 a9:=Tryz.isAgg9
 z9:=Tryz.sizeOf9
 v9:=Tryz.zeroValue9
 t28:=Tryz.underlying33
 a28:=Tryz.isAgg33
 z28:=Tryz.sizeOf33
 v28:=Tryz.zeroValue33
 t46:=Tryz.underlying293
 a46:=Tryz.isAgg293
 z46:=Tryz.sizeOf293
 v46:=Tryz.zeroValue293
 t51:=Tryz.underlying305
 a51:=Tryz.isAgg305
 z51:=Tryz.sizeOf305
 v51:=Tryz.zeroValue305
 t53:=Tryz.underlying307
 a53:=Tryz.isAgg307
 z53:=Tryz.sizeOf307
 v53:=Tryz.zeroValue307
 t131:=Tryz.underlying261
 a131:=Tryz.isAgg261
 z131:=Tryz.sizeOf261
 v131:=Tryz.zeroValue261
 t182:=Tryz.underlying298
 a182:=Tryz.isAgg298
 z182:=Tryz.sizeOf298
 v182:=Tryz.zeroValue298
 t183:=Tryz.underlying299
 a183:=Tryz.isAgg299
 z183:=Tryz.sizeOf299
 v183:=Tryz.zeroValue299
 t218:=Tryz.underlying318
 a218:=Tryz.isAgg318
 z218:=Tryz.sizeOf318
 v218:=Tryz.zeroValue318
 t222:=Tryz.underlying322
 a222:=Tryz.isAgg322
 z222:=Tryz.sizeOf322
 v222:=Tryz.zeroValue322
 t228:=Tryz.underlying349
 a228:=Tryz.isAgg349
 z228:=Tryz.sizeOf349
 v228:=Tryz.zeroValue349
 t229:=Tryz.underlying350
 a229:=Tryz.isAgg350
 z229:=Tryz.sizeOf350
 v229:=Tryz.zeroValue350}
open Go.Sort Go.RowKit in
theorem Tryz.sort_Ints (blk off cap:Nat) (zs:List Int) (w:World) (hH:Holds (Value.int .i64) w blk off zs.toArray) (hblk:blk<w.heap.size) (hsz:zs.length<4611686018427387904):
  Calls Tryz.prog 293 #[.slice (some ⟨blk,off,none⟩) zs.length cap] w fun e w'=>
   e= .returned (.tuple #[])/\∃n os,w'=grow (putRow (Value.int .i64) (Sort.ahead w n) blk off (zs.mergeSort fun x y=>decide (x<=y)).toArray) os:=Any.sort_Ints Tryz.ZtM blk off cap zs w hH hblk hsz
def Tryz.Zpv:Go.Shelf.Ren:=⟨fun | 192=>219| 190=>263| 125=>295| 258=>294| 128=>321| 129=>322| 302=>312| 303=>313| 304=>314| 305=>315| 306=>316| 307=>317| 308=>318| 309=>319| 310=>320| 333=>337| 329=>338| 330=>339| 334=>340| 335=>341| 336=>342| 344=>363| n=>n,fun | 31=>93| 0=>0| 9=>9| 3=>3| 46=>293| 51=>305| 53=>307| 4=>4| 183=>299| 182=>298| 131=>261| 5=>5| 218=>318| 222=>322| 228=>349| 229=>350| n=>n,fun | n=>n⟩
theorem Tryz.ZtL:Go.Proofs.Lays.n192 Tryz.prog Tryz.Zpv:={
 mixed:=by kernel_rfl
 f125:=Tryz.func295.trans (congrArg some (by kernel_rfl))
 f128:=Tryz.func321.trans (congrArg some (by kernel_rfl))
 f129:=Tryz.func322.trans (congrArg some (by kernel_rfl))
 f190:=Tryz.func263.trans (congrArg some (by kernel_rfl))
 f192:=Tryz.func219.trans (congrArg some (by kernel_rfl))
 f258:=Tryz.func294.trans (congrArg some (by kernel_rfl))
 f302:=Tryz.func312.trans (congrArg some (by kernel_rfl))
 f303:=Tryz.func313.trans (congrArg some (by kernel_rfl))
 f304:=Tryz.func314.trans (congrArg some (by kernel_rfl))
 f305:=Tryz.func315.trans (congrArg some (by kernel_rfl))
 f306:=Tryz.func316.trans (congrArg some (by kernel_rfl))
 f307:=Tryz.func317.trans (congrArg some (by kernel_rfl))
 f308:=Tryz.func318.trans (congrArg some (by kernel_rfl))
 f309:=Tryz.func319.trans (congrArg some (by kernel_rfl))
 f310:=Tryz.func320.trans (congrArg some (by kernel_rfl))
 f329:=Tryz.func338.trans (congrArg some (by kernel_rfl))
 f330:=Tryz.func339.trans (congrArg some (by kernel_rfl))
 f333:=Tryz.func337.trans (congrArg some (by kernel_rfl))
 f334:=Tryz.func340.trans (congrArg some (by kernel_rfl))
 f335:=Tryz.func341.trans (congrArg some (by kernel_rfl))
 f336:=Tryz.func342.trans (congrArg some (by kernel_rfl))
 f344:=Tryz.func363.trans (congrArg some (by kernel_rfl))
 t0:=Tryz.underlying0
 a0:=Tryz.isAgg0
 z0:=Tryz.sizeOf0
 v0:=Tryz.zeroValue0
 t3:=Tryz.underlying3
 a3:=Tryz.isAgg3
 z3:=Tryz.sizeOf3
 v3:=Tryz.zeroValue3
 t4:=Tryz.underlying4
 a4:=Tryz.isAgg4
 z4:=Tryz.sizeOf4
 v4:=Tryz.zeroValue4
 t5:=Tryz.underlying5
 a5:=Tryz.isAgg5
 z5:=Tryz.sizeOf5
 v5:=Tryz.zeroValue5
 t9:=Tryz.underlying9
 a9:=Tryz.isAgg9
 z9:=Tryz.sizeOf9
 v9:=Tryz.zeroValue9
 t31:=Tryz.underlying93
 a31:=Tryz.isAgg93
 z31:=Tryz.sizeOf93
 v31:=Tryz.zeroValue93
 t46:=Tryz.underlying293
 a46:=Tryz.isAgg293
 z46:=Tryz.sizeOf293
 v46:=Tryz.zeroValue293
 t51:=Tryz.underlying305
 a51:=Tryz.isAgg305
 z51:=Tryz.sizeOf305
 v51:=Tryz.zeroValue305
 t53:=Tryz.underlying307
 a53:=Tryz.isAgg307
 z53:=Tryz.sizeOf307
 v53:=Tryz.zeroValue307
 t131:=Tryz.underlying261
 a131:=Tryz.isAgg261
 z131:=Tryz.sizeOf261
 v131:=Tryz.zeroValue261
 t182:=Tryz.underlying298
 a182:=Tryz.isAgg298
 z182:=Tryz.sizeOf298
 v182:=Tryz.zeroValue298
 t183:=Tryz.underlying299
 a183:=Tryz.isAgg299
 z183:=Tryz.sizeOf299
 v183:=Tryz.zeroValue299
 t218:=Tryz.underlying318
 a218:=Tryz.isAgg318
 z218:=Tryz.sizeOf318
 v218:=Tryz.zeroValue318
 t222:=Tryz.underlying322
 a222:=Tryz.isAgg322
 z222:=Tryz.sizeOf322
 v222:=Tryz.zeroValue322
 t228:=Tryz.underlying349
 a228:=Tryz.isAgg349
 z228:=Tryz.sizeOf349
 v228:=Tryz.zeroValue349
 t229:=Tryz.underlying350
 a229:=Tryz.isAgg350
 z229:=Tryz.sizeOf350
 v229:=Tryz.zeroValue350}
open Go.Sort Go.RowKit in
theorem Tryz.sort_Strings (blk off cap:Nat) (ss:List (List UInt8)) (w:World) (hH:Holds encStr w blk off ss.toArray) (hblk:blk<w.heap.size) (hsz:ss.length<4611686018427387904):
  Calls Tryz.prog 219 #[.slice (some ⟨blk,off,none⟩) ss.length cap] w fun e w'=>
   e= .returned (.tuple #[])/\∃n os,w'=grow (putRow encStr (Sort.ahead w n) blk off (ss.mergeSort fun x y=>decide (x<=y)).toArray) os:=Any.sort_Strings Tryz.ZtL blk off cap ss w hH hblk hsz
def Tryz.ZxZ:Go.Shelf.Ren:=⟨fun | 206=>302| n=>n,fun | 9=>9| 4=>4| 3=>3| n=>n,fun | n=>n⟩
def Tryz.ZrS:Go.Shelf.Ren:=⟨fun | 99=>282| 206=>302| n=>n,fun | 9=>9| 4=>4| 3=>3| n=>n,fun | n=>n⟩
theorem Tryz.ZzY:Go.Proofs.Lays.n99 Tryz.prog Tryz.ZrS:={
 mixed:=by kernel_rfl
 f99:=Tryz.func282.trans (congrArg some (by kernel_rfl))
 f206:=Tryz.func302.trans (congrArg some (by kernel_rfl))
 t3:=Tryz.underlying3
 a3:=Tryz.isAgg3
 z3:=Tryz.sizeOf3
 v3:=Tryz.zeroValue3
 t4:=Tryz.underlying4
 a4:=Tryz.isAgg4
 z4:=Tryz.sizeOf4
 v4:=Tryz.zeroValue4
 t9:=Tryz.underlying9
 a9:=Tryz.isAgg9
 z9:=Tryz.sizeOf9
 v9:=Tryz.zeroValue9}
open Go.RowKit Go.Lib in
theorem Tryz.strings_HasPrefix (s p:ByteArray) (w:World):
  Calls Tryz.prog 282 #[.string s,.string p] w fun e w'=>e= .returned (.bool (Lib.hasPrefix s.data.toList p.data.toList))/\w'=w:=Any.strings_HasPrefix Tryz.ZzY s p w
def Tryz.ZxY:Go.Shelf.Ren:=⟨fun | 221=>255| 268=>287| 138=>288| 143=>289| 195=>304| 197=>305| 218=>306| 219=>307| 260=>326| 217=>301| 225=>327| 224=>328| 267=>329| 266=>324| 314=>346| n=>n,fun | 9=>9| 3=>3| 31=>93| 4=>4| 0=>0| 105=>294| 21=>21| 5=>5| 46=>293| 119=>327| 139=>330| 138=>329| 146=>331| 51=>305| n=>n,fun | 1=>0| 3=>1| 4=>2| n=>n⟩
def Tryz.Zpx:Go.Shelf.Ren:=⟨fun | 146=>210| 221=>255| 268=>287| 138=>288| 143=>289| 195=>304| 197=>305| 218=>306| 219=>307| 260=>326| 217=>301| 225=>327| 224=>328| 267=>329| 266=>324| 314=>346| n=>n,fun | 9=>9| 31=>93| 3=>3| 4=>4| 0=>0| 105=>294| 21=>21| 5=>5| 46=>293| 119=>327| 139=>330| 138=>329| 146=>331| 51=>305| n=>n,fun | 1=>0| 3=>1| 4=>2| n=>n⟩
theorem Tryz.Zx1:Go.Proofs.Lays.n146 Tryz.prog Tryz.Zpx:={
 mixed:=by kernel_rfl
 f138:=Tryz.func288.trans (congrArg some (by kernel_rfl))
 f143:=Tryz.func289.trans (congrArg some (by kernel_rfl))
 f146:=Tryz.func210.trans (congrArg some (by kernel_rfl))
 f195:=Tryz.func304.trans (congrArg some (by kernel_rfl))
 f197:=Tryz.func305.trans (congrArg some (by kernel_rfl))
 f217:=Tryz.func301.trans (congrArg some (by kernel_rfl))
 f218:=Tryz.func306.trans (congrArg some (by kernel_rfl))
 f219:=Tryz.func307.trans (congrArg some (by kernel_rfl))
 f221:=Tryz.func255.trans (congrArg some (by kernel_rfl))
 f224:=Tryz.func328.trans (congrArg some (by kernel_rfl))
 f225:=Tryz.func327.trans (congrArg some (by kernel_rfl))
 f260:=Tryz.func326.trans (congrArg some (by kernel_rfl))
 f266:=Tryz.func324.trans (congrArg some (by kernel_rfl))
 f267:=Tryz.func329.trans (congrArg some (by kernel_rfl))
 f268:=Tryz.func287.trans (congrArg some (by kernel_rfl))
 f314:=Tryz.func346.trans (congrArg some (by kernel_rfl))
 t0:=Tryz.underlying0
 a0:=Tryz.isAgg0
 z0:=Tryz.sizeOf0
 v0:=Tryz.zeroValue0
 t3:=Tryz.underlying3
 a3:=Tryz.isAgg3
 z3:=Tryz.sizeOf3
 v3:=Tryz.zeroValue3
 t4:=Tryz.underlying4
 a4:=Tryz.isAgg4
 z4:=Tryz.sizeOf4
 v4:=Tryz.zeroValue4
 t5:=Tryz.underlying5
 a5:=Tryz.isAgg5
 z5:=Tryz.sizeOf5
 v5:=Tryz.zeroValue5
 t9:=Tryz.underlying9
 a9:=Tryz.isAgg9
 z9:=Tryz.sizeOf9
 v9:=Tryz.zeroValue9
 t21:=Tryz.underlying21
 a21:=Tryz.isAgg21
 z21:=Tryz.sizeOf21
 v21:=Tryz.zeroValue21
 t31:=Tryz.underlying93
 a31:=Tryz.isAgg93
 z31:=Tryz.sizeOf93
 v31:=Tryz.zeroValue93
 t46:=Tryz.underlying293
 a46:=Tryz.isAgg293
 z46:=Tryz.sizeOf293
 v46:=Tryz.zeroValue293
 t51:=Tryz.underlying305
 a51:=Tryz.isAgg305
 z51:=Tryz.sizeOf305
 v51:=Tryz.zeroValue305
 t105:=Tryz.underlying294
 a105:=Tryz.isAgg294
 z105:=Tryz.sizeOf294
 v105:=Tryz.zeroValue294
 t119:=Tryz.underlying327
 a119:=Tryz.isAgg327
 z119:=Tryz.sizeOf327
 t138:=Tryz.underlying329
 a138:=Tryz.isAgg329
 z138:=Tryz.sizeOf329
 v138:=Tryz.zeroValue329
 t139:=Tryz.underlying330
 a139:=Tryz.isAgg330
 z139:=Tryz.sizeOf330
 v139:=Tryz.zeroValue330
 t146:=Tryz.underlying331
 a146:=Tryz.isAgg331
 z146:=Tryz.sizeOf331
 v146:=Tryz.zeroValue331
 g1:=by kernel_rfl
 g3:=by kernel_rfl
 g4:=by kernel_rfl}
open Go.RowKit Go.Lib in
theorem Tryz.strings_Split (s sep:ByteArray) (m:Int) (w:World) (hs:s.size<4294967281) (hm:w.cell? ⟨0,0,none⟩=some (.int .i64 m)) (h1:1<=sep.size):
  Calls Tryz.prog 210 #[.string s,.string sep] w fun e w'=>
   e= .returned (.slice (some ⟨w.heap.size,0,none⟩) (Lib.countB s sep+1) (Lib.countB s sep+1))/\w'=w.alloc (.cells ((Lib.splitB sep 0 (Lib.countB s sep) s).map Value.string).toArray 9):=Any.strings_Split Tryz.Zx1 (by kernel_rfl) s sep m w hs hm h1
open Go.RowKit Go.Sort in
theorem Tryz.sort_Strings_none (p:Option Addr) (cap:Nat) (w:World):
  Calls Tryz.prog 219 #[.slice p 0 cap] w fun e w'=>e= .returned (.tuple #[])/\w'=w:=Any.sort_Strings_none Tryz.ZtL p cap w
open Go.RowKit Go.Sort in
theorem Tryz.sort_Ints_none (p:Option Addr) (cap:Nat) (w:World):
  Calls Tryz.prog 293 #[.slice p 0 cap] w fun e w'=>e= .returned (.tuple #[])/\w'=w:=Any.sort_Ints_none Tryz.ZtM p cap w
end Go.Proofs
