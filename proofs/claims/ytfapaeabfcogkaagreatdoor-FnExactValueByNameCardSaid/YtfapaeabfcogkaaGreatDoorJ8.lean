import Derived.Test.YtfapaeabfcogkaaGreatDoorJ4
import Derived.Test.YtfapaeabfcogkaaGreatDoorJ7
import Derived.Test.YtfapaeabfcogkaaGreatDoorPkC
import Derived.Test.YtfapaeabfcogkaaGreatDoorJ6
set_option linter.unusedSimpArgs false
set_option linter.unusedVariables false
namespace Go.Proofs.YtfapaeabfcogkaaGreatDoor
open Go.RowKit Am
def Zey (k:Nat) (a0:Qf) (a1:Int):Option Int:=
 (Ws k a0.values a1).bind fun x1=>
 if (decide (x1<0)) then
  some (-1)
 else
  (JM k a0.tapes x1).bind fun x2=>
  if (decide (x2<0)) then
   some (-1)
  else
   some x2
def Kf (a0:Zj):Option Zj:=
 some a0
def Xl (a0:List Zj):Nat→(List Zj)→Int→Option (List Zj)
 | 0,_,_=>none
 | n_+1,x3,x4=>
  if (decide (x4<(a0.length:Int))) then
   (at? a0 x4).bind fun x5=>
   (Kf x5).bind fun x6=>
   (at? x3 x4).bind fun x7=>
   Xl a0 n_ (x3.set x4.toNat x6) (IntKind.i64.wrap (x4+1))
  else
   some x3
def KZ (k:Nat) (a0:List Zj):Option (List Zj):=
 (mk? 64 (a0.length:Int)).bind fun x1=>
 (Xl a0 k (List.replicate x1 (Zj.mk 0 0 0 (⟨#[]⟩:ByteArray) (⟨#[]⟩:ByteArray) 0)) 0).bind fun x2=>
 some x2
def Xk (k:Nat) (a0:Ze):Option Ze:=
 (KZ k a0.cells).bind fun x1=>
 some (Ze.mk x1)
def Qj (a0:List ByteArray):Nat→(List ByteArray)→Int→Option (List ByteArray)
 | 0,_,_=>none
 | n_+1,x3,x4=>
  if (decide (x4<(a0.length:Int))) then
   (at? a0 x4).bind fun x5=>
   (at? x3 x4).bind fun x6=>
   Qj a0 n_ (x3.set x4.toNat x5) (IntKind.i64.wrap (x4+1))
  else
   some x3
def Ux (k:Nat) (a0:List ByteArray):Option (List ByteArray):=
 (mk? 16 (a0.length:Int)).bind fun x1=>
 (Qj a0 k (List.replicate x1 (⟨#[]⟩:ByteArray)) 0).bind fun x2=>
 some x2
def XY (a0:List Int):Nat→(List Int)→Int→Option (List Int)
 | 0,_,_=>none
 | n_+1,x3,x4=>
  if (decide (x4<(a0.length:Int))) then
   (at? a0 x4).bind fun x5=>
   (at? x3 x4).bind fun x6=>
   XY a0 n_ (x3.set x4.toNat x5) (IntKind.i64.wrap (x4+1))
  else
   some x3
def Zb9 (k:Nat) (a0:List Int):Option (List Int):=
 (mk? 8 (a0.length:Int)).bind fun x1=>
 (XY a0 k (List.replicate x1 0) 0).bind fun x2=>
 some x2
def Vu (a0:Zc):Option Zc:=
 some a0
def Qk (a0:List Zc):Nat→(List Zc)→Int→Option (List Zc)
 | 0,_,_=>none
 | n_+1,x3,x4=>
  if (decide (x4<(a0.length:Int))) then
   (at? a0 x4).bind fun x5=>
   (Vu x5).bind fun x6=>
   (at? x3 x4).bind fun x7=>
   Qk a0 n_ (x3.set x4.toNat x6) (IntKind.i64.wrap (x4+1))
  else
   some x3
def Uy (k:Nat) (a0:List Zc):Option (List Zc):=
 (mk? 16 (a0.length:Int)).bind fun x1=>
 (Qk a0 k (List.replicate x1 (Zc.mk 0 0)) 0).bind fun x2=>
 some x2
def Zc7 (k:Nat) (a0:Zq):Option Zq:=
 (Zb9 k a0.cells).bind fun x1=>
 (Uy k a0.from_).bind fun x2=>
 some (Zq.mk x1 x2)
def XX (k:Nat) (a0:List Zq):Nat→(List Zq)→Int→Option (List Zq)
 | 0,_,_=>none
 | n_+1,x3,x4=>
  if (decide (x4<(a0.length:Int))) then
   (at? a0 x4).bind fun x5=>
   (Zc7 k x5).bind fun x6=>
   (at? x3 x4).bind fun x7=>
   XX k a0 n_ (x3.set x4.toNat x6) (IntKind.i64.wrap (x4+1))
  else
   some x3
def Zb7 (k:Nat) (a0:List Zq):Option (List Zq):=
 (mk? 48 (a0.length:Int)).bind fun x1=>
 (XX k a0 k (List.replicate x1 (Zq.mk [] [])) 0).bind fun x2=>
 some x2
def QH (rec_w_toValue:Za→Option Za) (a0:List Za):Nat→(List Za)→Int→Option (List Za)
 | 0,_,_=>none
 | n_+1,x3,x4=>
  if (decide (x4<(a0.length:Int))) then
   (at? a0 x4).bind fun x5=>
   (rec_w_toValue x5).bind fun x6=>
   (at? x3 x4).bind fun x7=>
   QH rec_w_toValue a0 n_ (x3.set x4.toNat x6) (IntKind.i64.wrap (x4+1))
  else
   some x3
mutual
def QI:Nat→Za→Option Za
 | 0,_=>none
 | k+1,a0=>
  (Wr k a0.list).bind fun x1=>
  (Ux k a0.columns).bind fun x2=>
  (Zb7 k a0.rows).bind fun x3=>
  some (Za.mk a0.kind a0.n a0.step a0.text x1 x2 x3)
def Wr:Nat→(List Za)→Option (List Za)
 | 0,_=>none
 | k+1,a0=>
  (mk? 112 (a0.length:Int)).bind fun x1=>
  (QH (QI k) a0 k (List.replicate x1 (Za.mk 0 0 0 (⟨#[]⟩:ByteArray) [] [] [])) 0).bind fun x2=>
  some x2
end
def ZaU (k:Nat) (a0:Zo):Option Zo:=
 (QI k a0.result).bind fun x1=>
 some (Zo.mk a0.kind a0.n a0.time a0.text x1)
def Xj (k:Nat) (a0:List Zo):Nat→(List Zo)→Int→Option (List Zo)
 | 0,_,_=>none
 | n_+1,x3,x4=>
  if (decide (x4<(a0.length:Int))) then
   (at? a0 x4).bind fun x5=>
   (ZaU k x5).bind fun x6=>
   (at? x3 x4).bind fun x7=>
   Xj k a0 n_ (x3.set x4.toNat x6) (IntKind.i64.wrap (x4+1))
  else
   some x3
def KX (k:Nat) (a0:List Zo):Option (List Zo):=
 (mk? 152 (a0.length:Int)).bind fun x1=>
 (Xj k a0 k (List.replicate x1 (Zo.mk 0 0 0 (⟨#[]⟩:ByteArray) (Za.mk 0 0 0 (⟨#[]⟩:ByteArray) [] [] []))) 0).bind fun x2=>
 some x2
end Go.Proofs.YtfapaeabfcogkaaGreatDoor
namespace Go.Proofs.YtfapaeabfcogkaaGreatDoor
open Go.RowKit Am
def ZaT (k:Nat) (a0:Zn):Option Zn:=
 (KX k a0.reads).bind fun x1=>
 some (Zn.mk a0.cell a0.version x1)
def Xi (k:Nat) (a0:List Zn):Nat→(List Zn)→Int→Option (List Zn)
 | 0,_,_=>none
 | n_+1,x3,x4=>
  if (decide (x4<(a0.length:Int))) then
   (at? a0 x4).bind fun x5=>
   (ZaT k x5).bind fun x6=>
   (at? x3 x4).bind fun x7=>
   Xi k a0 n_ (x3.set x4.toNat x6) (IntKind.i64.wrap (x4+1))
  else
   some x3
def KU (k:Nat) (a0:List Zn):Option (List Zn):=
 (mk? 40 (a0.length:Int)).bind fun x1=>
 (Xi k a0 k (List.replicate x1 (Zn.mk 0 0 [])) 0).bind fun x2=>
 some x2
def KW (k:Nat) (a0:Qf):Option Qf:=
 (Wr k a0.values).bind fun x1=>
 (KU k a0.tapes).bind fun x2=>
 some (Qf.mk x1 x2 a0.steps)
def Qm (a0:List ByteArray) (a1:List ByteArray):Nat→Int→Option (Unit ⊕ Bool)
 | 0,_=>none
 | n_+1,x1=>
  if (decide (x1<(a0.length:Int))) then
   (at? a0 x1).bind fun x2=>
   (at? a1 x1).bind fun x3=>
   if (!decide (x2=x3)) then
    some (.inr false)
   else
    Qm a0 a1 n_ (IntKind.i64.wrap (x1+1))
  else
   some (.inl ())
def UC (k:Nat) (a0:List ByteArray) (a1:List ByteArray):Option Bool:=
 if (!decide ((a0.length:Int)=(a1.length:Int))) then
  some false
 else
  (Qm a0 a1 k 0:Option (Unit ⊕ Bool)).bind fun
   | .inl _=>(
    some true)
   | .inr z4=>(
    some z4)
def X1 (a0:List Int) (a1:List Int):Nat→Int→Option (Unit ⊕ Bool)
 | 0,_=>none
 | n_+1,x1=>
  if (decide (x1<(a0.length:Int))) then
   (at? a0 x1).bind fun x2=>
   (at? a1 x1).bind fun x3=>
   if (!decide (x2=x3)) then
    some (.inr false)
   else
    X1 a0 a1 n_ (IntKind.i64.wrap (x1+1))
  else
   some (.inl ())
def Zcp (k:Nat) (a0:List Int) (a1:List Int):Option Bool:=
 if (!decide ((a0.length:Int)=(a1.length:Int))) then
  some false
 else
  (X1 a0 a1 k 0:Option (Unit ⊕ Bool)).bind fun
   | .inl _=>(
    some true)
   | .inr z4=>(
    some z4)
def Vv (a0:Zc) (a1:Zc):Option Bool:=
 if (!decide (a0.cell=a1.cell)) then
  some false
 else
  if (!decide (a0.row=a1.row)) then
   some false
  else
   some true
def Qn (a0:List Zc) (a1:List Zc):Nat→Int→Option (Unit ⊕ Bool)
 | 0,_=>none
 | n_+1,x1=>
  if (decide (x1<(a0.length:Int))) then
   (at? a0 x1).bind fun x2=>
   (at? a1 x1).bind fun x3=>
   (Vv x2 x3).bind fun x4=>
   if (!x4) then
    some (.inr false)
   else
    Qn a0 a1 n_ (IntKind.i64.wrap (x1+1))
  else
   some (.inl ())
def UD (k:Nat) (a0:List Zc) (a1:List Zc):Option Bool:=
 if (!decide ((a0.length:Int)=(a1.length:Int))) then
  some false
 else
  (Qn a0 a1 k 0:Option (Unit ⊕ Bool)).bind fun
   | .inl _=>(
    some true)
   | .inr z5=>(
    some z5)
def Zc9 (k:Nat) (a0:Zq) (a1:Zq):Option Bool:=
 (Zcp k a0.cells a1.cells).bind fun x1=>
 if (!x1) then
  some false
 else
  (UD k a0.from_ a1.from_).bind fun x2=>
  if (!x2) then
   some false
  else
   some true
def X0 (k:Nat) (a0:List Zq) (a1:List Zq):Nat→Int→Option (Unit ⊕ Bool)
 | 0,_=>none
 | n_+1,x1=>
  if (decide (x1<(a0.length:Int))) then
   (at? a0 x1).bind fun x2=>
   (at? a1 x1).bind fun x3=>
   (Zc9 k x2 x3).bind fun x4=>
   if (!x4) then
    some (.inr false)
   else
    X0 k a0 a1 n_ (IntKind.i64.wrap (x1+1))
  else
   some (.inl ())
def Zcn (k:Nat) (a0:List Zq) (a1:List Zq):Option Bool:=
 if (!decide ((a0.length:Int)=(a1.length:Int))) then
  some false
 else
  (X0 k a0 a1 k 0:Option (Unit ⊕ Bool)).bind fun
   | .inl _=>(
    some true)
   | .inr z5=>(
    some z5)
def QK (rec_w_eqValue:Za→Za→Option Bool) (a0:List Za) (a1:List Za):Nat→Int→Option (Unit ⊕ Bool)
 | 0,_=>none
 | n_+1,x1=>
  if (decide (x1<(a0.length:Int))) then
   (at? a0 x1).bind fun x2=>
   (at? a1 x1).bind fun x3=>
   (rec_w_eqValue x2 x3).bind fun x4=>
   if (!x4) then
    some (.inr false)
   else
    QK rec_w_eqValue a0 a1 n_ (IntKind.i64.wrap (x1+1))
  else
   some (.inl ())
mutual
def Wv:Nat→(List Za)→(List Za)→Option Bool
 | 0,_,_=>none
 | k+1,a0,a1=>
  if (!decide ((a0.length:Int)=(a1.length:Int))) then
   some false
  else
   (QK (Y0 k) a0 a1 k 0:Option (Unit ⊕ Bool)).bind fun
    | .inl _=>(
     some true)
    | .inr z5=>(
     some z5)
def Y0:Nat→Za→Za→Option Bool
 | 0,_,_=>none
 | k+1,a0,a1=>
  if (!decide (a0.kind=a1.kind)) then
   some false
  else
   if (!decide (a0.n=a1.n)) then
    some false
   else
    if (!decide (a0.step=a1.step)) then
     some false
    else
     if (!decide (a0.text=a1.text)) then
      some false
     else
      (Wv k a0.list a1.list).bind fun x1=>
      if (!x1) then
       some false
      else
       (UC k a0.columns a1.columns).bind fun x2=>
       if (!x2) then
        some false
       else
        (Zcn k a0.rows a1.rows).bind fun x3=>
        if (!x3) then
         some false
        else
         some true
end
def Kh (a0:Zj) (a1:Zj):Option Bool:=
 if (!decide (a0.id=a1.id)) then
  some false
 else
  if (!decide (a0.version=a1.version)) then
   some false
  else
   if (!decide (a0.kind=a1.kind)) then
    some false
   else
    if (!decide (a0.name=a1.name)) then
     some false
    else
     if (!decide (a0.code=a1.code)) then
      some false
     else
      if (!decide (a0.n=a1.n)) then
       some false
      else
       some true
def Xr (a0:List Zj) (a1:List Zj):Nat→Int→Option (Unit ⊕ Bool)
 | 0,_=>none
 | n_+1,x1=>
  if (decide (x1<(a0.length:Int))) then
   (at? a0 x1).bind fun x2=>
   (at? a1 x1).bind fun x3=>
   (Kh x2 x3).bind fun x4=>
   if (!x4) then
    some (.inr false)
   else
    Xr a0 a1 n_ (IntKind.i64.wrap (x1+1))
  else
   some (.inl ())
def Zak (k:Nat) (a0:List Zj) (a1:List Zj):Option Bool:=
 if (!decide ((a0.length:Int)=(a1.length:Int))) then
  some false
 else
  (Xr a0 a1 k 0:Option (Unit ⊕ Bool)).bind fun
   | .inl _=>(
    some true)
   | .inr z5=>(
    some z5)
def VX (k:Nat) (a0:Ze) (a1:Ze):Option Bool:=
 (Zak k a0.cells a1.cells).bind fun x1=>
 if (!x1) then
  some false
 else
  some true
end Go.Proofs.YtfapaeabfcogkaaGreatDoor
namespace Go.Proofs.YtfapaeabfcogkaaGreatDoor
open Go.RowKit Am
def ZaZ (k:Nat) (a0:Zo) (a1:Zo):Option Bool:=
 if (!decide (a0.kind=a1.kind)) then
  some false
 else
  if (!decide (a0.n=a1.n)) then
   some false
  else
   if (!decide (a0.time=a1.time)) then
    some false
   else
    if (!decide (a0.text=a1.text)) then
     some false
    else
     (Y0 k a0.result a1.result).bind fun x1=>
     if (!x1) then
      some false
     else
      some true
def Xq (k:Nat) (a0:List Zo) (a1:List Zo):Nat→Int→Option (Unit ⊕ Bool)
 | 0,_=>none
 | n_+1,x1=>
  if (decide (x1<(a0.length:Int))) then
   (at? a0 x1).bind fun x2=>
   (at? a1 x1).bind fun x3=>
   (ZaZ k x2 x3).bind fun x4=>
   if (!x4) then
    some (.inr false)
   else
    Xq k a0 a1 n_ (IntKind.i64.wrap (x1+1))
  else
   some (.inl ())
def Zah (k:Nat) (a0:List Zo) (a1:List Zo):Option Bool:=
 if (!decide ((a0.length:Int)=(a1.length:Int))) then
  some false
 else
  (Xq k a0 a1 k 0:Option (Unit ⊕ Bool)).bind fun
   | .inl _=>(
    some true)
   | .inr z5=>(
    some z5)
def ZaY (k:Nat) (a0:Zn) (a1:Zn):Option Bool:=
 if (!decide (a0.cell=a1.cell)) then
  some false
 else
  if (!decide (a0.version=a1.version)) then
   some false
  else
   (Zah k a0.reads a1.reads).bind fun x1=>
   if (!x1) then
    some false
   else
    some true
def Xp (k:Nat) (a0:List Zn) (a1:List Zn):Nat→Int→Option (Unit ⊕ Bool)
 | 0,_=>none
 | n_+1,x1=>
  if (decide (x1<(a0.length:Int))) then
   (at? a0 x1).bind fun x2=>
   (at? a1 x1).bind fun x3=>
   (ZaY k x2 x3).bind fun x4=>
   if (!x4) then
    some (.inr false)
   else
    Xp k a0 a1 n_ (IntKind.i64.wrap (x1+1))
  else
   some (.inl ())
def Zae (k:Nat) (a0:List Zn) (a1:List Zn):Option Bool:=
 if (!decide ((a0.length:Int)=(a1.length:Int))) then
  some false
 else
  (Xp k a0 a1 k 0:Option (Unit ⊕ Bool)).bind fun
   | .inl _=>(
    some true)
   | .inr z5=>(
    some z5)
def ZeE (k:Nat) (a0:Qf) (a1:Qf):Option Bool:=
 (Wv k a0.values a1.values).bind fun x1=>
 if (!x1) then
  some false
 else
  (Zae k a0.tapes a1.tapes).bind fun x2=>
  if (!x2) then
   some false
  else
   if (!decide (a0.steps=a1.steps)) then
    some false
   else
    some true
def ZgA (a0:YY) (a1:Int):Option Int:=
 if (decide ((IntKind.i64.wrap (a1-(a0.name.size:Int)))<0)) then
  some (-1)
 else
  some (IntKind.i64.wrap (a1-(a0.name.size:Int)))
def W0 (a0:List YY):Nat→Int→Int→Option (Int ⊕ Int)
 | 0,_,_=>none
 | n_+1,x2,x3=>
  if (decide (x3<(a0.length:Int))) then
   (at? a0 x3).bind fun x4=>
   (ZgA x4 x2).bind fun x5=>
   if (decide (x5<0)) then
    some (.inr (-1))
   else
    W0 a0 n_ x5 (IntKind.i64.wrap (x3+1))
  else
   some (.inl x2)
def ZeB (k:Nat) (a0:List YY) (a1:Int):Option Int:=
 if (decide ((IntKind.i64.wrap (a1-(a0.length:Int)))<0)) then
  some (-1)
 else
  (W0 a0 k (IntKind.i64.wrap (a1-(a0.length:Int))) 0:Option (Int ⊕ Int)).bind fun
   | .inl x1=>(
    some x1)
   | .inr z6=>(
    some z6)
def Zev (k:Nat) (a0:V7) (a1:Int):Option Int:=
 (ZeB k a0.files a1).bind fun x1=>
 if (decide (x1<0)) then
  some (-1)
 else
  some x1
def ZeC (k:Nat) (a0:Wp) (a1:Int):Option Int:=
 (ZaX a0.inputs a1).bind fun x1=>
 if (decide (x1<0)) then
  some (-1)
 else
  (Qw k a0.value x1).bind fun x2=>
  if (decide (x2<0)) then
   some (-1)
  else
   some x2
def Wu (k:Nat) (a0:List Wp):Nat→Int→Int→Option (Int ⊕ Int)
 | 0,_,_=>none
 | n_+1,x2,x3=>
  if (decide (x3<(a0.length:Int))) then
   (at? a0 x3).bind fun x4=>
   (ZeC k x4 x2).bind fun x5=>
   if (decide (x5<0)) then
    some (.inr (-1))
   else
    Wu k a0 n_ x5 (IntKind.i64.wrap (x3+1))
  else
   some (.inl x2)
def Zc8 (k:Nat) (a0:List Wp) (a1:Int):Option Int:=
 if (decide ((IntKind.i64.wrap (a1-(a0.length:Int)))<0)) then
  some (-1)
 else
  (Wu k a0 k (IntKind.i64.wrap (a1-(a0.length:Int))) 0:Option (Int ⊕ Int)).bind fun
   | .inl x1=>(
    some x1)
   | .inr z6=>(
    some z6)
def ZfW (k:Nat) (a0:WM) (a1:Int):Option Int:=
 (WZ k a0.notebook a1).bind fun x1=>
 if (decide (x1<0)) then
  some (-1)
 else
  (Zev k a0.world x1).bind fun x2=>
  if (decide (x2<0)) then
   some (-1)
  else
   (JM k a0.tapes x2).bind fun x3=>
   if (decide (x3<0)) then
    some (-1)
   else
    (Zc8 k a0.entries x3).bind fun x4=>
    if (decide (x4<0)) then
     some (-1)
    else
     some x4
def ZjL (a0:Ur) (a1:Int):Option Int:=
 (Jf a0.cell a1).bind fun x1=>
 if (decide (x1<0)) then
  some (-1)
 else
  some x1
def Zgw (a0:YY):Option YY:=
 some a0
def WY (a0:List YY):Nat→(List YY)→Int→Option (List YY)
 | 0,_,_=>none
 | n_+1,x3,x4=>
  if (decide (x4<(a0.length:Int))) then
   (at? a0 x4).bind fun x5=>
   (Zgw x5).bind fun x6=>
   (at? x3 x4).bind fun x7=>
   WY a0 n_ (x3.set x4.toNat x6) (IntKind.i64.wrap (x4+1))
  else
   some x3
def ZhD (k:Nat) (a0:List YY):Option (List YY):=
 (mk? 24 (a0.length:Int)).bind fun x1=>
 (WY a0 k (List.replicate x1 (YY.mk (⟨#[]⟩:ByteArray) 0)) 0).bind fun x2=>
 some x2
end Go.Proofs.YtfapaeabfcogkaaGreatDoor
namespace Go.Proofs.YtfapaeabfcogkaaGreatDoor
open Go.RowKit Am
end Go.Proofs.YtfapaeabfcogkaaGreatDoor
namespace Go.Proofs.YtfapaeabfcogkaaGreatDoor
open Go.RowKit Am
def Zj.bk (x:Zj):Nat:=x.name.size+(x.code.size+(0))
theorem Zj.ZZ (x:Zj):x.bk=x.name.size+(x.code.size+(0)):=rfl
theorem ZhJ (x:Zj) (hf:Zea x.c):∀left:Int,0≤left→left≤1048576→Jf x left=some (szR (x.bk) left):=by
 have hf':=hf;rw [Zj.XW] at hf';simp only [Zea] at hf';obtain ⟨f0,f1,f2,f3,f4,f5,_⟩:=hf'
 intro left l0 l1
 rw [Zj.ZZ]
 unfold Jf
 rcases ZjV (b:=x.name.size) l0 l1 (ZfD f3) with ⟨z0,e0,g0,q0,p0,r0⟩| ⟨g0,q0⟩
 rotate_left
 ·rw [if_pos g0];exact W9 (by omega)
 rw [e0,if_neg g0]
 rcases ZjV (b:=x.code.size) p0 r0 (ZfD f4) with ⟨z1,e1,g1,q1,p1,r1⟩| ⟨g1,q1⟩
 rotate_left
 ·rw [if_pos g1];exact W9 (by omega)
 rw [e1,if_neg g1]
 exact ZbJ p1 (by omega)
theorem ZhE (x:Zj) (hb:x.bk≤1048576):Kf x=some x:=by
 unfold Kf
 all_goals (first | rfl| (cases x;rfl))
theorem ZhO (x:Zj) (hb:x.bk≤1073741824):Kh x x=some true:=by
 unfold Kh
 simp []
theorem ZgB (xs:List Zj) (hf:DOk (.sl (xs.map Zj.c))):Ev fun k=>∀left:Int,0≤left→left≤1048576→Zac k xs left=some (szR (bkS Zj.bk xs) left):=by
 have hx:∀x∈xs,∀left:Int,0≤left→left≤1048576→Jf x left=some (szR (Zj.bk x) left):=fun x hm=>ZhJ x ((U9 hf).2 x hm)
 refine (Ev.ge (xs.length+1)).mono fun k hk=> ?_
 intro left l0 l1
 unfold Zac
 refine Za0 Zj.bk xs (Jf) (Xo xs) k (fun x hm l p q=> ?_) (fun n l i=>by rw [Xo]) (by omega) (U9 hf).1 left l0 l1
 rw [hx x hm l p q,Option.bind_some];have:=Zdb (b:=Zj.bk x) (b2:=0) (F:=fun z=>some z) p fun z pz _=>Zan pz;exact this
theorem Zgx (xs:List Zj) (hb:bkS Zj.bk xs≤1048576):Ev fun k=>KZ k xs=some xs:=by
 have hx:∀x∈xs,Kf x=some x:=fun x hm=>ZhE x (by have:=QF (f:=Zj.bk) hm;omega)
 refine (Ev.ge (xs.length+1)).mono fun k hk=> ?_
 unfold KZ
 exact Jh _ (by omega) _ xs (Kf) (Xl xs) k (fun x hm=>hx x hm) (fun n out i=>by rw [Xl]) (by omega) (by have:=YL (f:=Zj.bk) (xs:=xs);omega)
theorem ZgE (xs:List Zj) (hb:bkS Zj.bk xs≤1073741824):Ev fun k=>Zak k xs xs=some true:=by
 have hx:∀x∈xs,Kh x x=some true:=fun x hm=>ZhO x (by have:=QF (f:=Zj.bk) hm;omega)
 refine (Ev.ge (xs.length+1)).mono fun k hk=> ?_
 unfold Zak
 exact Jt xs (Kh) (Xr xs xs) k (fun x hm=>hx x hm) (fun n i=>by rw [Xr]) (by omega) (by have:=YL (f:=Zj.bk) (xs:=xs);omega)
def Ze.bk (x:Ze):Nat:=bkS Zj.bk x.cells+(0)
theorem Ze.ZZ (x:Ze):x.bk=bkS Zj.bk x.cells+(0):=rfl
theorem V8 (x:Ze) (hf:Zea x.c):Ev fun k=>∀left:Int,0≤left→left≤1048576→WZ k x left=some (szR (x.bk) left):=by
 have hf':=hf;rw [Ze.XW] at hf';simp only [Zea] at hf';obtain ⟨f0,_⟩:=hf'
 refine (ZgB x.cells f0).mono ?_
 rintro k h0
 intro left l0 l1
 rw [Ze.ZZ]
 unfold WZ
 rw [h0 left l0 l1,Option.bind_some]
 rcases Vw (b:=bkS Zj.bk x.cells) l1 with ⟨z0,e0,g0,q0,p0,r0⟩| ⟨e0,q0⟩
 rotate_left
 ·rw [e0,if_pos (by decide)];exact W9 (by omega)
 rw [e0,if_neg g0]
 exact ZbJ p0 (by omega)
theorem Zeb (x:Ze) (hb:x.bk≤1048576):Ev fun k=>Xk k x=some x:=by
 refine (Zgx x.cells (by have:=Ze.ZZ x;omega)).mono ?_
 rintro k h0
 unfold Xk
 rw [h0,Option.bind_some]
 all_goals (first | rfl| (cases x;rfl))
theorem Zec (x:Ze) (hb:x.bk≤1073741824):Ev fun k=>VX k x x=some true:=by
 refine (ZgE x.cells (by have:=Ze.ZZ x;omega)).mono ?_
 rintro k h0
 unfold VX
 simp [h0]
theorem Zew (xs:List ByteArray) (hf:DOk (.sl (xs.map sC))):Ev fun k=>∀left:Int,0≤left→left≤1048576→Uz k xs left=some (szR (bkS ByteArray.size xs) left):=by
 refine (Ev.ge (xs.length+1)).mono fun k hk=> ?_
 intro left l0 l1
 unfold Uz
 refine Za0 ByteArray.size xs (fun x l=>some (IntKind.i64.wrap (l-(x.size:Int)))) (Ql xs) k (fun x hm l p q=> ?_) (fun n l i=>by rw [Ql];rfl) (by omega) (U9 hf).1 left l0 l1
 have:=Zl0 (b:=x.size) (b2:=0) (F:=fun z=>some z) p q (ZfD ((U9 hf).2 x hm).1) fun z pz _=>Zan pz;exact this
theorem Zes (xs:List ByteArray) (hb:bkS ByteArray.size xs≤1048576):Ev fun k=>Ux k xs=some xs:=by
 refine (Ev.ge (xs.length+1)).mono fun k hk=> ?_
 unfold Ux
 exact Jh _ (by omega) _ xs (fun x=>some x) (Qj xs) k (fun x hm=>rfl) (fun n out i=>by rw [Qj];rfl) (by omega) (by have:=YL (f:=ByteArray.size) (xs:=xs);omega)
theorem ZeD (xs:List ByteArray) (hb:bkS ByteArray.size xs≤1073741824):Ev fun k=>UC k xs xs=some true:=by
 refine (Ev.ge (xs.length+1)).mono fun k hk=> ?_
 unfold UC
 exact Jt xs (fun x y=>some (decide (x=y))) (Qm xs xs) k (fun x hm=>by simp) (fun n i=>by rw [Qm];rfl) (by omega) (by have:=YL (f:=ByteArray.size) (xs:=xs);omega)
theorem ZhI (xs:List Int) (hf:DOk (.sl (xs.map iC))):∀left:Int,0≤left→left≤1048576→ZaX xs left=some (szR (bkS (fun _=>0) xs) left):=by
 intro left l0 l1
 unfold ZaX
 have:=Zl0 (b:=xs.length) (b2:=0) (F:=fun z=>some z) l0 l1 (U9 hf).1 fun x p _=>Zan p
 have e:bkS (fun _=>0) xs=xs.length+0:=ZlB xs
 rw [e];exact this
theorem ZhC (xs:List Int) (hb:bkS (fun _=>0) xs≤1048576):Ev fun k=>Zb9 k xs=some xs:=by
 refine (Ev.ge (xs.length+1)).mono fun k hk=> ?_
 unfold Zb9
 exact Jh _ (by omega) _ xs (fun x=>some x) (XY xs) k (fun x hm=>rfl) (fun n out i=>by rw [XY];rfl) (by omega) (by have:=YL (f:=(fun _=>0)) (xs:=xs);omega)
theorem ZhN (xs:List Int) (hb:bkS (fun _=>0) xs≤1073741824):Ev fun k=>Zcp k xs xs=some true:=by
 refine (Ev.ge (xs.length+1)).mono fun k hk=> ?_
 unfold Zcp
 exact Jt xs (fun x y=>some (decide (x=y))) (X1 xs xs) k (fun x hm=>by simp) (fun n i=>by rw [X1];rfl) (by omega) (by have:=YL (f:=(fun _=>0)) (xs:=xs);omega)
theorem ZfG (x:Zc):Vu x=some x:=by
 unfold Vu
 all_goals (first | rfl| (cases x;rfl))
theorem ZfJ (x:Zc):Vv x x=some true:=by
 unfold Vv
 simp []
theorem ZeA (xs:List Zc) (hf:DOk (.sl (xs.map Zc.c))):∀left:Int,0≤left→left≤1048576→UA xs left=some (szR (bkS (fun _=>0) xs) left):=by
 intro left l0 l1
 unfold UA
 have:=Zl0 (b:=xs.length) (b2:=0) (F:=fun z=>some z) l0 l1 (U9 hf).1 fun x p _=>Zan p
 have e:bkS (fun _=>0) xs=xs.length+0:=ZlB xs
 rw [e];exact this
theorem Zeu (xs:List Zc) (hb:bkS (fun _=>0) xs≤1048576):Ev fun k=>Uy k xs=some xs:=by
 have hx:∀x∈xs,Vu x=some x:=fun x hm=>ZfG x
 refine (Ev.ge (xs.length+1)).mono fun k hk=> ?_
 unfold Uy
 exact Jh _ (by omega) _ xs (Vu) (Qk xs) k (fun x hm=>hx x hm) (fun n out i=>by rw [Qk]) (by omega) (by have:=YL (f:=(fun _=>0)) (xs:=xs);omega)
theorem ZeF (xs:List Zc) (hb:bkS (fun _=>0) xs≤1073741824):Ev fun k=>UD k xs xs=some true:=by
 have hx:∀x∈xs,Vv x x=some true:=fun x hm=>ZfJ x
 refine (Ev.ge (xs.length+1)).mono fun k hk=> ?_
 unfold UD
 exact Jt xs (Vv) (Qn xs xs) k (fun x hm=>hx x hm) (fun n i=>by rw [Qn]) (by omega) (by have:=YL (f:=(fun _=>0)) (xs:=xs);omega)
def Zq.bk (x:Zq):Nat:=bkS (fun _=>0) x.cells+(bkS (fun _=>0) x.from_+(0))
theorem Zq.ZZ (x:Zq):x.bk=bkS (fun _=>0) x.cells+(bkS (fun _=>0) x.from_+(0)):=rfl
theorem ZiW (x:Zq) (hf:Zea x.c):∀left:Int,0≤left→left≤1048576→ZbG x left=some (szR (x.bk) left):=by
 have hf':=hf;rw [Zq.XW] at hf';simp only [Zea] at hf';obtain ⟨f0,f1,_⟩:=hf'
 have h0:=ZhI x.cells f0
 have h1:=ZeA x.from_ f1
 intro left l0 l1
 rw [Zq.ZZ]
 unfold ZbG
 rw [h0 left l0 l1,Option.bind_some]
 rcases Vw (b:=bkS (fun _=>0) x.cells) l1 with ⟨z0,e0,g0,q0,p0,r0⟩| ⟨e0,q0⟩
 rotate_left
 ·rw [e0,if_pos (by decide)];exact W9 (by omega)
 rw [e0,if_neg g0]
 rw [h1 z0 p0 r0,Option.bind_some]
 rcases Vw (b:=bkS (fun _=>0) x.from_) r0 with ⟨z1,e1,g1,q1,p1,r1⟩| ⟨e1,q1⟩
 rotate_left
 ·rw [e1,if_pos (by decide)];exact W9 (by omega)
 rw [e1,if_neg g1]
 exact ZbJ p1 (by omega)
theorem ZiV (x:Zq) (hb:x.bk≤1048576):Ev fun k=>Zc7 k x=some x:=by
 refine ((ZhC x.cells (by have:=Zq.ZZ x;omega)).and (Zeu x.from_ (by have:=Zq.ZZ x;omega))).mono ?_
 rintro k ⟨h0,h1⟩
 unfold Zc7
 rw [h0,Option.bind_some]
 rw [h1,Option.bind_some]
 all_goals (first | rfl| (cases x;rfl))
theorem ZiY (x:Zq) (hb:x.bk≤1073741824):Ev fun k=>Zc9 k x x=some true:=by
 refine ((ZhN x.cells (by have:=Zq.ZZ x;omega)).and (ZeF x.from_ (by have:=Zq.ZZ x;omega))).mono ?_
 rintro k ⟨h0,h1⟩
 unfold Zc9
 simp [h0,h1]
theorem ZhG (xs:List Zq) (hf:DOk (.sl (xs.map Zq.c))):Ev fun k=>∀left:Int,0≤left→left≤1048576→Zch k xs left=some (szR (bkS Zq.bk xs) left):=by
 have hx:∀x∈xs,∀left:Int,0≤left→left≤1048576→ZbG x left=some (szR (Zq.bk x) left):=fun x hm=>ZiW x ((U9 hf).2 x hm)
 refine (Ev.ge (xs.length+1)).mono fun k hk=> ?_
 intro left l0 l1
 unfold Zch
 refine Za0 Zq.bk xs (ZbG) (XZ xs) k (fun x hm l p q=> ?_) (fun n l i=>by rw [XZ]) (by omega) (U9 hf).1 left l0 l1
 rw [hx x hm l p q,Option.bind_some];have:=Zdb (b:=Zq.bk x) (b2:=0) (F:=fun z=>some z) p fun z pz _=>Zan pz;exact this
theorem ZhA (xs:List Zq) (hb:bkS Zq.bk xs≤1048576):Ev fun k=>Zb7 k xs=some xs:=by
 refine ((Ev.all xs fun x hm=>ZiV x (by have:=QF (f:=Zq.bk) hm;omega)).and (Ev.ge (xs.length+1))).mono ?_
 rintro k ⟨hx,hk⟩
 unfold Zb7
 exact Jh _ (by omega) _ xs (Zc7 k) (XX k xs) k (fun x hm=>hx x hm) (fun n out i=>by rw [XX]) (by omega) (by have:=YL (f:=Zq.bk) (xs:=xs);omega)
theorem ZhL (xs:List Zq) (hb:bkS Zq.bk xs≤1073741824):Ev fun k=>Zcn k xs xs=some true:=by
 refine ((Ev.all xs fun x hm=>ZiY x (by have:=QF (f:=Zq.bk) hm;omega)).and (Ev.ge (xs.length+1))).mono ?_
 rintro k ⟨hx,hk⟩
 unfold Zcn
 exact Jt xs (Zc9 k) (X0 k xs xs) k (fun x hm=>hx x hm) (fun n i=>by rw [X0]) (by omega) (by have:=YL (f:=Zq.bk) (xs:=xs);omega)
mutual
def Za.bk:Za→Nat
 | ⟨kind,n,step,text,list,columns,rows⟩=>text.size+((list.length+Za.bks list)+(bkS ByteArray.size columns+(bkS Zq.bk rows+(0))))
def Za.bks:List Za→Nat
 | []=>0
 | x::xs=>Za.bk x+Za.bks xs
end
theorem Za.ZiC:∀xs:List Za,Za.bks xs=Xc Za.bk xs
 | []=>rfl
 | x::xs=>by rw [Za.bks,Za.ZiC xs];rfl
theorem Za.ZZ (x:Za):x.bk=x.text.size+(bkS Za.bk x.list+(bkS ByteArray.size x.columns+(bkS Zq.bk x.rows+(0)))):=by
 cases x;simp only [Za.bk,Za.ZiC,bkS]
theorem Za.ind {p:Za→Prop} (h:∀x,(∀y∈x.list,p y)→p x):∀x,p x
 | ⟨kind,n,step,text,list,columns,rows⟩=>h _ fun y hy=>Za.ind h y
termination_by x=>SizeOf.sizeOf x
decreasing_by
 have:=List.sizeOf_lt_of_mem hy
 simp at this ⊢;omega
theorem Zbl (xs:List Za) (hf:DOk (.sl (xs.map Za.c))) (ih:∀x∈xs,Ev fun k=>∀left:Int,0≤left→left≤1048576→Qw k x left=some (szR (Za.bk x) left)):Ev fun k=>∀left:Int,0≤left→left≤1048576→Ws k xs left=some (szR (bkS Za.bk xs) left):=by
 refine ((Ev.all xs ih).and (Ev.ge (xs.length+1))).pred ?_
 rintro k ⟨hx,hk⟩
 intro left l0 l1
 rw [Ws]
 refine Za0 Za.bk xs (Qw k) (QJ (Qw k) xs) k (fun x hm l p q=> ?_) (fun n l i=>by rw [QJ]) (by omega) (U9 hf).1 left l0 l1
 rw [hx x hm l p q,Option.bind_some];have:=Zdb (b:=Za.bk x) (b2:=0) (F:=fun z=>some z) p fun z pz _=>Zan pz;exact this
theorem Zbi (xs:List Za) (hb:bkS Za.bk xs≤1048576) (ih:∀x∈xs,Ev fun k=>QI k x=some x):Ev fun k=>Wr k xs=some xs:=by
 refine ((Ev.all xs ih).and (Ev.ge (xs.length+1))).pred ?_
 rintro k ⟨hx,hk⟩
 rw [Wr]
 exact Jh _ (by omega) _ xs (QI k) (QH (QI k) xs) k (fun x hm=>hx x hm) (fun n out i=>by rw [QH]) (by omega) (by have:=YL (f:=Za.bk) (xs:=xs);omega)
theorem Zbp (xs:List Za) (hb:bkS Za.bk xs≤1073741824) (ih:∀x∈xs,Ev fun k=>Y0 k x x=some true):Ev fun k=>Wv k xs xs=some true:=by
 refine ((Ev.all xs ih).and (Ev.ge (xs.length+1))).pred ?_
 rintro k ⟨hx,hk⟩
 rw [Wv]
 exact Jt xs (Y0 k) (QK (Y0 k) xs xs) k (fun x hm=>hx x hm) (fun n i=>by rw [QK]) (by omega) (by have:=YL (f:=Za.bk) (xs:=xs);omega)
theorem Zcd (x:Za) (hf:Zea x.c):Ev fun k=>∀left:Int,0≤left→left≤1048576→Qw k x left=some (szR (x.bk) left):=by
 revert hf
 refine Za.ind (p:=fun x=>Zea x.c→Ev fun k=>∀left:Int,0≤left→left≤1048576→Qw k x left=some (szR (x.bk) left)) ?_ x;clear x
 intro x ih hf
 have hf':=hf;rw [Za.XW] at hf';simp only [Zea] at hf';obtain ⟨f0,f1,f2,f3,f4,f5,f6,_⟩:=hf'
 refine ((Zbl x.list f4 fun y hy=>ih y hy ((U9 f4).2 y hy)).and ((Zew x.columns f5).and (ZhG x.rows f6))).pred ?_
 rintro k ⟨h0,h1,h2⟩
 intro left l0 l1
 rw [Za.ZZ]
 rw [Qw]
 rcases ZjV (b:=x.text.size) l0 l1 (ZfD f3) with ⟨z0,e0,g0,q0,p0,r0⟩| ⟨g0,q0⟩
 rotate_left
 ·rw [if_pos g0];exact W9 (by omega)
 rw [e0,if_neg g0]
 rw [h0 z0 p0 r0,Option.bind_some]
 rcases Vw (b:=bkS Za.bk x.list) r0 with ⟨z1,e1,g1,q1,p1,r1⟩| ⟨e1,q1⟩
 rotate_left
 ·rw [e1,if_pos (by decide)];exact W9 (by omega)
 rw [e1,if_neg g1]
 rw [h1 z1 p1 r1,Option.bind_some]
 rcases Vw (b:=bkS ByteArray.size x.columns) r1 with ⟨z2,e2,g2,q2,p2,r2⟩| ⟨e2,q2⟩
 rotate_left
 ·rw [e2,if_pos (by decide)];exact W9 (by omega)
 rw [e2,if_neg g2]
 rw [h2 z2 p2 r2,Option.bind_some]
 rcases Vw (b:=bkS Zq.bk x.rows) r2 with ⟨z3,e3,g3,q3,p3,r3⟩| ⟨e3,q3⟩
 rotate_left
 ·rw [e3,if_pos (by decide)];exact W9 (by omega)
 rw [e3,if_neg g3]
 exact ZbJ p3 (by omega)
theorem Zb3 (x:Za) (hb:x.bk≤1048576):Ev fun k=>QI k x=some x:=by
 revert hb
 refine Za.ind (p:=fun x=>x.bk≤1048576→Ev fun k=>QI k x=some x) ?_ x;clear x
 intro x ih hb
 refine ((Zbi x.list (by have:=Za.ZZ x;omega) fun y hy=>ih y hy (by have:=QF (f:=Za.bk) hy;have:=Za.ZZ x;omega)).and ((Zes x.columns (by have:=Za.ZZ x;omega)).and (ZhA x.rows (by have:=Za.ZZ x;omega)))).pred ?_
 rintro k ⟨h0,h1,h2⟩
 rw [QI]
 rw [h0,Option.bind_some]
 rw [h1,Option.bind_some]
 rw [h2,Option.bind_some]
 all_goals (first | rfl| (cases x;rfl))
theorem Kg (x:Za) (hb:x.bk≤1073741824):Ev fun k=>Y0 k x x=some true:=by
 revert hb
 refine Za.ind (p:=fun x=>x.bk≤1073741824→Ev fun k=>Y0 k x x=some true) ?_ x;clear x
 intro x ih hb
 refine ((Zbp x.list (by have:=Za.ZZ x;omega) fun y hy=>ih y hy (by have:=QF (f:=Za.bk) hy;have:=Za.ZZ x;omega)).and ((ZeD x.columns (by have:=Za.ZZ x;omega)).and (ZhL x.rows (by have:=Za.ZZ x;omega)))).pred ?_
 rintro k ⟨h0,h1,h2⟩
 rw [Y0]
 simp [h0,h1,h2]
theorem ZfH (xs:List Za) (hf:DOk (.sl (xs.map Za.c))):Ev fun k=>∀left:Int,0≤left→left≤1048576→Ws k xs left=some (szR (bkS Za.bk xs) left):=Zbl xs hf fun x hm=>Zcd x ((U9 hf).2 x hm)
theorem ZfF (xs:List Za) (hb:bkS Za.bk xs≤1048576):Ev fun k=>Wr k xs=some xs:=Zbi xs hb fun x hm=>Zb3 x (by have:=QF (f:=Za.bk) hm;omega)
theorem ZfI (xs:List Za) (hb:bkS Za.bk xs≤1073741824):Ev fun k=>Wv k xs xs=some true:=Zbp xs hb fun x hm=>Kg x (by have:=QF (f:=Za.bk) hm;omega)
def Zo.bk (x:Zo):Nat:=x.text.size+(Za.bk x.result+(0))
theorem Zo.ZZ (x:Zo):x.bk=x.text.size+(Za.bk x.result+(0)):=rfl
theorem ZhH (x:Zo) (hf:Zea x.c):Ev fun k=>∀left:Int,0≤left→left≤1048576→ZaW k x left=some (szR (x.bk) left):=by
 have hf':=hf;rw [Zo.XW] at hf';simp only [Zea] at hf';obtain ⟨f0,f1,f2,f3,f4,f5,f6,f7,f8,f9,f10,_⟩:=hf'
 refine (Zcd x.result (by rw [Za.XW];exact ⟨f4,f5,f6,f7,f8,f9,f10,trivial⟩)).mono ?_
 rintro k h0
 intro left l0 l1
 rw [Zo.ZZ]
 unfold ZaW
 rcases ZjV (b:=x.text.size) l0 l1 (ZfD f3) with ⟨z0,e0,g0,q0,p0,r0⟩| ⟨g0,q0⟩
 rotate_left
 ·rw [if_pos g0];exact W9 (by omega)
 rw [e0,if_neg g0]
 rw [h0 z0 p0 r0,Option.bind_some]
 rcases Vw (b:=Za.bk x.result) r0 with ⟨z1,e1,g1,q1,p1,r1⟩| ⟨e1,q1⟩
 rotate_left
 ·rw [e1,if_pos (by decide)];exact W9 (by omega)
 rw [e1,if_neg g1]
 exact ZbJ p1 (by omega)
theorem ZhB (x:Zo) (hb:x.bk≤1048576):Ev fun k=>ZaU k x=some x:=by
 refine (Zb3 x.result (by have:=Zo.ZZ x;omega)).mono ?_
 rintro k h0
 unfold ZaU
 rw [h0,Option.bind_some]
 all_goals (first | rfl| (cases x;rfl))
theorem ZhM (x:Zo) (hb:x.bk≤1073741824):Ev fun k=>ZaZ k x x=some true:=by
 refine (Kg x.result (by have:=Zo.ZZ x;omega)).mono ?_
 rintro k h0
 unfold ZaZ
 simp [h0]
theorem Zgz (xs:List Zo) (hf:DOk (.sl (xs.map Zo.c))):Ev fun k=>∀left:Int,0≤left→left≤1048576→Zaa k xs left=some (szR (bkS Zo.bk xs) left):=by
 refine ((Ev.all xs fun x hm=>ZhH x ((U9 hf).2 x hm)).and (Ev.ge (xs.length+1))).mono ?_
 rintro k ⟨hx,hk⟩
 intro left l0 l1
 unfold Zaa
 refine Za0 Zo.bk xs (ZaW k) (Xn k xs) k (fun x hm l p q=> ?_) (fun n l i=>by rw [Xn]) (by omega) (U9 hf).1 left l0 l1
 rw [hx x hm l p q,Option.bind_some];have:=Zdb (b:=Zo.bk x) (b2:=0) (F:=fun z=>some z) p fun z pz _=>Zan pz;exact this
theorem Zgv (xs:List Zo) (hb:bkS Zo.bk xs≤1048576):Ev fun k=>KX k xs=some xs:=by
 refine ((Ev.all xs fun x hm=>ZhB x (by have:=QF (f:=Zo.bk) hm;omega)).and (Ev.ge (xs.length+1))).mono ?_
 rintro k ⟨hx,hk⟩
 unfold KX
 exact Jh _ (by omega) _ xs (ZaU k) (Xj k xs) k (fun x hm=>hx x hm) (fun n out i=>by rw [Xj]) (by omega) (by have:=YL (f:=Zo.bk) (xs:=xs);omega)
theorem ZgD (xs:List Zo) (hb:bkS Zo.bk xs≤1073741824):Ev fun k=>Zah k xs xs=some true:=by
 refine ((Ev.all xs fun x hm=>ZhM x (by have:=QF (f:=Zo.bk) hm;omega)).and (Ev.ge (xs.length+1))).mono ?_
 rintro k ⟨hx,hk⟩
 unfold Zah
 exact Jt xs (ZaZ k) (Xq k xs xs) k (fun x hm=>hx x hm) (fun n i=>by rw [Xq]) (by omega) (by have:=YL (f:=Zo.bk) (xs:=xs);omega)
def Zn.bk (x:Zn):Nat:=bkS Zo.bk x.reads+(0)
theorem Zn.ZZ (x:Zn):x.bk=bkS Zo.bk x.reads+(0):=rfl
theorem ZhF (x:Zn) (hf:Zea x.c):Ev fun k=>∀left:Int,0≤left→left≤1048576→ZaV k x left=some (szR (x.bk) left):=by
 have hf':=hf;rw [Zn.XW] at hf';simp only [Zea] at hf';obtain ⟨f0,f1,f2,_⟩:=hf'
 refine (Zgz x.reads f2).mono ?_
 rintro k h0
 intro left l0 l1
 rw [Zn.ZZ]
 unfold ZaV
 rw [h0 left l0 l1,Option.bind_some]
 rcases Vw (b:=bkS Zo.bk x.reads) l1 with ⟨z0,e0,g0,q0,p0,r0⟩| ⟨e0,q0⟩
 rotate_left
 ·rw [e0,if_pos (by decide)];exact W9 (by omega)
 rw [e0,if_neg g0]
 exact ZbJ p0 (by omega)
theorem Zhz (x:Zn) (hb:x.bk≤1048576):Ev fun k=>ZaT k x=some x:=by
 refine (Zgv x.reads (by have:=Zn.ZZ x;omega)).mono ?_
 rintro k h0
 unfold ZaT
 rw [h0,Option.bind_some]
 all_goals (first | rfl| (cases x;rfl))
theorem ZhK (x:Zn) (hb:x.bk≤1073741824):Ev fun k=>ZaY k x x=some true:=by
 refine (ZgD x.reads (by have:=Zn.ZZ x;omega)).mono ?_
 rintro k h0
 unfold ZaY
 simp [h0]
theorem Zgy (xs:List Zn) (hf:DOk (.sl (xs.map Zn.c))):Ev fun k=>∀left:Int,0≤left→left≤1048576→JM k xs left=some (szR (bkS Zn.bk xs) left):=by
 refine ((Ev.all xs fun x hm=>ZhF x ((U9 hf).2 x hm)).and (Ev.ge (xs.length+1))).mono ?_
 rintro k ⟨hx,hk⟩
 intro left l0 l1
 unfold JM
 refine Za0 Zn.bk xs (ZaV k) (Xm k xs) k (fun x hm l p q=> ?_) (fun n l i=>by rw [Xm]) (by omega) (U9 hf).1 left l0 l1
 rw [hx x hm l p q,Option.bind_some];have:=Zdb (b:=Zn.bk x) (b2:=0) (F:=fun z=>some z) p fun z pz _=>Zan pz;exact this
theorem Zgu (xs:List Zn) (hb:bkS Zn.bk xs≤1048576):Ev fun k=>KU k xs=some xs:=by
 refine ((Ev.all xs fun x hm=>Zhz x (by have:=QF (f:=Zn.bk) hm;omega)).and (Ev.ge (xs.length+1))).mono ?_
 rintro k ⟨hx,hk⟩
 unfold KU
 exact Jh _ (by omega) _ xs (ZaT k) (Xi k xs) k (fun x hm=>hx x hm) (fun n out i=>by rw [Xi]) (by omega) (by have:=YL (f:=Zn.bk) (xs:=xs);omega)
theorem ZgC (xs:List Zn) (hb:bkS Zn.bk xs≤1073741824):Ev fun k=>Zae k xs xs=some true:=by
 refine ((Ev.all xs fun x hm=>ZhK x (by have:=QF (f:=Zn.bk) hm;omega)).and (Ev.ge (xs.length+1))).mono ?_
 rintro k ⟨hx,hk⟩
 unfold Zae
 exact Jt xs (ZaY k) (Xp k xs xs) k (fun x hm=>hx x hm) (fun n i=>by rw [Xp]) (by omega) (by have:=YL (f:=Zn.bk) (xs:=xs);omega)
def Qf.bk (x:Qf):Nat:=bkS Za.bk x.values+(bkS Zn.bk x.tapes+(0))
theorem Qf.ZZ (x:Qf):x.bk=bkS Za.bk x.values+(bkS Zn.bk x.tapes+(0)):=rfl
theorem Zex (x:Qf) (hf:Zea x.c):Ev fun k=>∀left:Int,0≤left→left≤1048576→Zey k x left=some (szR (x.bk) left):=by
 have hf':=hf;rw [Qf.XW] at hf';simp only [Zea] at hf';obtain ⟨f0,f1,f2,_⟩:=hf'
 refine ((ZfH x.values f0).and (Zgy x.tapes f1)).mono ?_
 rintro k ⟨h0,h1⟩
 intro left l0 l1
 rw [Qf.ZZ]
 unfold Zey
 rw [h0 left l0 l1,Option.bind_some]
 rcases Vw (b:=bkS Za.bk x.values) l1 with ⟨z0,e0,g0,q0,p0,r0⟩| ⟨e0,q0⟩
 rotate_left
 ·rw [e0,if_pos (by decide)];exact W9 (by omega)
 rw [e0,if_neg g0]
 rw [h1 z0 p0 r0,Option.bind_some]
 rcases Vw (b:=bkS Zn.bk x.tapes) r0 with ⟨z1,e1,g1,q1,p1,r1⟩| ⟨e1,q1⟩
 rotate_left
 ·rw [e1,if_pos (by decide)];exact W9 (by omega)
 rw [e1,if_neg g1]
 exact ZbJ p1 (by omega)
theorem ZiU (x:Qf) (hb:x.bk≤1048576):Ev fun k=>KW k x=some x:=by
 refine ((ZfF x.values (by have:=Qf.ZZ x;omega)).and (Zgu x.tapes (by have:=Qf.ZZ x;omega))).mono ?_
 rintro k ⟨h0,h1⟩
 unfold KW
 rw [h0,Option.bind_some]
 rw [h1,Option.bind_some]
 all_goals (first | rfl| (cases x;rfl))
theorem ZiX (x:Qf) (hb:x.bk≤1073741824):Ev fun k=>ZeE k x x=some true:=by
 refine ((ZfI x.values (by have:=Qf.ZZ x;omega)).and (ZgC x.tapes (by have:=Qf.ZZ x;omega))).mono ?_
 rintro k ⟨h0,h1⟩
 unfold ZeE
 simp [h0,h1]
mutual
def Zb.bk:Zb→Nat
 | ⟨kind,n,text,args⟩=>text.size+((args.length+Zb.bks args)+(0))
def Zb.bks:List Zb→Nat
 | []=>0
 | x::xs=>Zb.bk x+Zb.bks xs
end
theorem Zb.ZiC:∀xs:List Zb,Zb.bks xs=Xc Zb.bk xs
 | []=>rfl
 | x::xs=>by rw [Zb.bks,Zb.ZiC xs];rfl
theorem Zb.ZZ (x:Zb):x.bk=x.text.size+(bkS Zb.bk x.args+(0)):=by
 cases x;simp only [Zb.bk,Zb.ZiC,bkS]
theorem Zb.ind {p:Zb→Prop} (h:∀x,(∀y∈x.args,p y)→p x):∀x,p x
 | ⟨kind,n,text,args⟩=>h _ fun y hy=>Zb.ind h y
termination_by x=>SizeOf.sizeOf x
decreasing_by
 have:=List.sizeOf_lt_of_mem hy
 simp at this ⊢;omega
def ZB.bk (x:ZB):Nat:=x.name.size+(Zb.bk x.expr+(Za.bk x.value+(0)))
theorem ZB.ZZ (x:ZB):x.bk=x.name.size+(Zb.bk x.expr+(Za.bk x.value+(0))):=rfl
end Go.Proofs.YtfapaeabfcogkaaGreatDoor
namespace Go.Proofs.YtfapaeabfcogkaaGreatDoor
open Go.RowKit Am
theorem ZcY: @Qv= @Yb:=by
 funext b0 b1 n
 induction n with
 | zero=>funext y0;rfl
 | succ n ih=>
  funext y0
  simp only [Qv,Yb,ih]
  try rfl
theorem Zfg: @WX= @Wd:=by
 funext b0 b1 b2
 simp only [WX,Wd,ZcY]
 try rfl
end Go.Proofs.YtfapaeabfcogkaaGreatDoor
namespace Go.Proofs.YtfapaeabfcogkaaGreatDoor
open Go.RowKit Am
theorem Zbe: @YP= @Ya:=by
 funext b0 n
 induction n with
 | zero=>funext y0;rfl
 | succ n ih=>
  funext y0
  simp only [YP,Ya,ih]
  try rfl
theorem Zdr: @WH= @XD:=by
 funext b0 b1
 simp only [WH,XD,Zbe]
 try rfl
end Go.Proofs.YtfapaeabfcogkaaGreatDoor
namespace Go.Proofs.YtfapaeabfcogkaaGreatDoor
open Go.RowKit Am
theorem Zj.Zfr (x:Zj):x.cn≤6*(1+Zj.bk x):=by
 rw [Zj.Ka,Zj.ZZ]
 omega
theorem Zj.U7 (xs:List Zj):Zj.cnL xs≤6*bkS Zj.bk xs:=by rw [Zj.ZJ];exact JJ xs fun x _=>x.Zfr
theorem Ze.Ziz (x:Ze):x.cnV≤6*x.bk:=by
 unfold Ze.cnV
 rw [Ze.ZZ]
 have h0:=Zj.U7 x.cells
 omega
theorem ZeM (xs:List ByteArray):Z7 xs≤1*bkS ByteArray.size xs:=JJ xs fun x _=>by simp only [ZgM];omega
theorem ZmF (xs:List Int):Qq xs≤1*bkS (fun _=>0) xs:=JJ xs fun x _=>by simp only [Zg6];omega
theorem Zc.Zfr (x:Zc):x.cn≤2*(1+0):=by
 rw [Zc.Ka]
 omega
theorem Zc.U7 (xs:List Zc):Zc.cnL xs≤2*bkS (fun _=>0) xs:=by rw [Zc.ZJ];exact JJ xs fun x _=>x.Zfr
theorem Zq.Zfr (x:Zq):x.cn≤2*(1+Zq.bk x):=by
 rw [Zq.Ka,Zq.ZZ]
 have h0:=ZmF x.cells
 have h1:=Zc.U7 x.from_
 omega
theorem Zq.U7 (xs:List Zq):Zq.cnL xs≤2*bkS Zq.bk xs:=by rw [Zq.ZJ];exact JJ xs fun x _=>x.Zfr
theorem Za.Zfr (x:Za):x.cn≤4*(1+Za.bk x):=by
 refine Za.ind (p:=fun x=>x.cn≤4*(1+x.bk)) (fun x ih=> ?_) x
 rw [Za.Ka,Za.ZZ]
 have h0:Za.cnL x.list≤4*bkS Za.bk x.list:=by rw [Za.ZJ];exact JJ _ ih
 have h1:=ZeM x.columns
 have h2:=Zq.U7 x.rows
 omega
theorem Za.U7 (xs:List Za):Za.cnL xs≤4*bkS Za.bk xs:=by rw [Za.ZJ];exact JJ xs fun x _=>x.Zfr
theorem Za.Ziz (x:Za):x.cnV≤4*x.bk:=by
 unfold Za.cnV
 rw [Za.ZZ]
 have h0:=Za.U7 x.list
 have h1:=ZeM x.columns
 have h2:=Zq.U7 x.rows
 omega
theorem Zo.Zfr (x:Zo):x.cn≤8*(1+Zo.bk x):=by
 rw [Zo.Ka,Zo.ZZ];simp only [Za.ZZ]
 have h0:=Za.U7 x.result.list
 have h1:=ZeM x.result.columns
 have h2:=Zq.U7 x.result.rows
 omega
theorem Zo.U7 (xs:List Zo):Zo.cnL xs≤8*bkS Zo.bk xs:=by rw [Zo.ZJ];exact JJ xs fun x _=>x.Zfr
theorem Zn.Zfr (x:Zn):x.cn≤8*(1+Zn.bk x):=by
 rw [Zn.Ka,Zn.ZZ]
 have h0:=Zo.U7 x.reads
 omega
theorem Zn.U7 (xs:List Zn):Zn.cnL xs≤8*bkS Zn.bk xs:=by rw [Zn.ZJ];exact JJ xs fun x _=>x.Zfr
theorem Qf.Ziz (x:Qf):x.cnV≤8*x.bk:=by
 unfold Qf.cnV
 rw [Qf.ZZ]
 have h0:=Za.U7 x.values
 have h1:=Zn.U7 x.tapes
 omega
end Go.Proofs.YtfapaeabfcogkaaGreatDoor
