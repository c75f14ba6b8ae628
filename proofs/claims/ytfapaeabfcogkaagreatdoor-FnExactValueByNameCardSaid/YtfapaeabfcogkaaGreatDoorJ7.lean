import Derived.Test.YtfapaeabfcogkaaGreatDoorJ4
import Derived.Test.YtfapaeabfcogkaaGreatDoorJ6
import Derived.Test.YtfapaeabfcogkaaGreatDoorPkC
import Derived.Lib.ItoaNum
import Derived.Lib.Join
import Derived.Lib.AtoiAll
import Derived.Lib.Strings
import Derived.Lib.Bytealg
import Derived.Lib.SplitLaws
import Derived.Shelf.Small.Strs
import Derived.Shelf.Strconv.Atoi
import Derived.Shelf.Strconv.Itoa0
import Derived.Shelf.Strconv.Itoa1
import Derived.Shelf.LaysM
import Derived.Shelf.Strconv.Itoa2
import Derived.Shelf.Strconv.Itoa3
import Derived.Shelf.Strconv.AtoiErrFast
import Derived.Shelf.Strconv.ParseIntEmpty
import Derived.Shelf.Strconv.AtoiFail
import Derived.Shelf.Strconv.Clone
import Derived.Shelf.Strconv.SyntaxError
import Derived.Shelf.LaysC
import Derived.Shelf.Strconv.ToError
import Derived.Shelf.Strconv.Lower
import Derived.Shelf.Strconv.ParseUint10
import Derived.Shelf.Strconv.ParseUint10Empty
import Derived.Shelf.Strconv.ParseUint10Any
import Derived.Shelf.Strconv.ParseInt10
import Derived.Shelf.Strconv.AtoiLong
import Derived.Shelf.Strconv.AtoiInnerAll
import Derived.Shelf.Strconv.RangeError
import Derived.Shelf.Strconv.ToErrorRange
import Derived.Shelf.Strconv.AtoiAll
import Derived.Shelf.Strings.Search1
import Derived.Shelf.Strings.Search2
import Derived.Shelf.Strings.Search3
import Derived.Shelf.Strings.Count
import Derived.Shelf.Strings.Shaped
import Derived.Shelf.Sort.Plain
import Derived.Shelf.Strings.Prefix
import Derived.Shelf.Strings.Split
import Derived.Shelf.Unicode.DecodeSlow
import Derived.Shelf.Slices.In.SortNone
import Derived.Shelf.Slices.In.SortNone2
import Derived.Test.YtfapaeabfcogkaaGreatDoorProg
import Derived.Lib.ItoaLen
import Derived.Lib.LaidTab
set_option linter.unusedSimpArgs false
set_option linter.unusedVariables false
namespace Go.Proofs.YtfapaeabfcogkaaGreatDoor
open Go.RowKit Am
def Km (a0:Int) (a1:Zb) (a2:Zb):Option Zb:=
 some (Zb.mk 6 a0 (⟨#[]⟩:ByteArray) [a1,a2])
def QN (rec_s_l11Expr:Zd→Option (Zb×Zd)):Nat→(List Zi)→Int→Int→Int→(List Zb)→Option ((List Zi)×Int×Int×Int×(List Zb))
 | 0,_,_,_,_,_=>none
 | n_+1,x7,x8,x9,x10,x11=>
  if (decide (x10<0)) then
   (rec_s_l11Expr (Zd.mk x7 x8 x9 x10)).bind fun x12=>
   (Wq 56 x11 [x12.1]).bind fun x13=>
   (Zt x12.2 (⟨#[44]⟩:ByteArray)).bind fun x14=>
   if (!x14.1) then
    some (x14.2.toks,x14.2.i,x14.2.end_,x14.2.bad,x13)
   else
    QN rec_s_l11Expr n_ x14.2.toks (IntKind.i64.wrap (x14.2.i+1)) x14.2.end_ x14.2.bad x13
  else
   some (x7,x8,x9,x10,x11)
def YI (rec_s_l11Atom:Zd→Option (Zb×Zd)):Nat→(List Zi)→Int→Int→Int→Int→Int→ByteArray→(List Zb)→Option (Int×Int×ByteArray×(List Zb)×(List Zi)×Int×Int×Int)
 | 0,_,_,_,_,_,_,_,_=>none
 | n_+1,x10,x11,x12,x13,x14,x15,x16,x17=>
  (Zt (Zd.mk x10 x11 x12 x13) (⟨#[42]⟩:ByteArray)).bind fun x18=>
  if x18.1 then
   (rec_s_l11Atom (Zd.mk x18.2.toks (IntKind.i64.wrap (x18.2.i+1)) x18.2.end_ x18.2.bad)).bind fun x19=>
   (Km 3 (Zb.mk x14 x15 x16 x17) x19.1).bind fun x20=>
   YI rec_s_l11Atom n_ x19.2.toks x19.2.i x19.2.end_ x19.2.bad x20.kind x20.n x20.text x20.args
  else
   some (x14,x15,x16,x17,x18.2.toks,x18.2.i,x18.2.end_,x18.2.bad)
def XB (rec_s_l11Product:Zd→Option (Zb×Zd)):Nat→(List Zi)→Int→Int→Int→Int→Int→ByteArray→(List Zb)→Option (Int×Int×ByteArray×(List Zb)×(List Zi)×Int×Int×Int)
 | 0,_,_,_,_,_,_,_,_=>none
 | n_+1,x10,x11,x12,x13,x14,x15,x16,x17=>
  ((Zt (Zd.mk x10 x11 x12 x13) (⟨#[43]⟩:ByteArray)).bind fun x23=>
  if x23.1 then
   some (x23.2.toks,x23.2.i,x23.2.end_,x23.2.bad,true)
  else
   (Zt x23.2 (⟨#[45]⟩:ByteArray)).bind fun x24=>
   some (x24.2.toks,x24.2.i,x24.2.end_,x24.2.bad,x24.1)).bind fun (x18,x19,x20,x21,x22)=>
  if x22 then
   ((Zt (Zd.mk x18 x19 x20 x21) (⟨#[45]⟩:ByteArray)).bind fun x30=>
   if x30.1 then
    some (x30.2.toks,x30.2.i,x30.2.end_,x30.2.bad,2)
   else
    some (x30.2.toks,x30.2.i,x30.2.end_,x30.2.bad,1)).bind fun (x25,x26,x27,x28,x29)=>
   (rec_s_l11Product (Zd.mk x25 (IntKind.i64.wrap (x26+1)) x27 x28)).bind fun x31=>
   (Km x29 (Zb.mk x14 x15 x16 x17) x31.1).bind fun x32=>
   XB rec_s_l11Product n_ x31.2.toks x31.2.i x31.2.end_ x31.2.bad x32.kind x32.n x32.text x32.args
  else
   some (x14,x15,x16,x17,x18,x19,x20,x21)
mutual
def X5:Nat→Zd→ByteArray→Option ((List Zb)×Zd)
 | 0,_,_=>none
 | k+1,a0,a1=>
  (Zt a0 a1).bind fun x1=>
  if x1.1 then
   some (([]:List Zb),(Zd.mk x1.2.toks (IntKind.i64.wrap (x1.2.i+1)) x1.2.end_ x1.2.bad))
  else
   (QN (Zy k) k x1.2.toks x1.2.i x1.2.end_ x1.2.bad ([]:List Zb)).bind fun (x2,x3,x4,x5,x6)=>
   (ZC (Zd.mk x2 x3 x4 x5) a1).bind fun x15=>
   some (x6,x15)
def Z3:Nat→Zd→Option (Zb×Zd)
 | 0,_=>none
 | k+1,a0=>
  (if (decide (0≤a0.bad)) then
   some true
  else
   some (decide ((a0.toks.length:Int)≤a0.i))).bind fun x1=>
  if x1 then
   (YR a0).bind fun x2=>
   some (x2.1,x2.2)
  else
   (at? a0.toks a0.i).bind fun x3=>
   if (decide (x3.kind=2)) then
    (ZcA x3.n).bind fun x4=>
    some (x4,(Zd.mk a0.toks (IntKind.i64.wrap (a0.i+1)) a0.end_ a0.bad))
   else
    if (decide (x3.kind=3)) then
     some ((Zb.mk 2 0 x3.text []),(Zd.mk a0.toks (IntKind.i64.wrap (a0.i+1)) a0.end_ a0.bad))
    else
     (if (decide (x3.kind=1)) then
      (Z0 k x3.text).bind fun x6=>
      some x6
     else
      some false).bind fun x5=>
     if x5 then
      (Zay x3.text).bind fun x7=>
      some (x7,(Zd.mk a0.toks (IntKind.i64.wrap (a0.i+1)) a0.end_ a0.bad))
     else
      (if (decide (x3.kind=1)) then
       (Z8 x3.text).bind fun x9=>
       some (decide (0≤x9))
      else
       some false).bind fun x8=>
      if x8 then
       (ZC (Zd.mk a0.toks (IntKind.i64.wrap (a0.i+1)) a0.end_ a0.bad) (⟨#[40]⟩:ByteArray)).bind fun x10=>
       (X5 k x10 (⟨#[41]⟩:ByteArray)).bind fun x11=>
       some ((Zb.mk 5 0 x3.text x11.1),x11.2)
      else
       (WB x3 (⟨#[91]⟩:ByteArray)).bind fun x12=>
       if x12 then
        (X5 k (Zd.mk a0.toks (IntKind.i64.wrap (a0.i+1)) a0.end_ a0.bad) (⟨#[93]⟩:ByteArray)).bind fun x13=>
        some ((Zb.mk 4 0 (⟨#[]⟩:ByteArray) x13.1),x13.2)
       else
        (WB x3 (⟨#[40]⟩:ByteArray)).bind fun x14=>
        if x14 then
         (Zy k (Zd.mk a0.toks (IntKind.i64.wrap (a0.i+1)) a0.end_ a0.bad)).bind fun x15=>
         (ZC x15.2 (⟨#[41]⟩:ByteArray)).bind fun x16=>
         some (x15.1,x16)
        else
         (YR a0).bind fun x17=>
         some (x17.1,x17.2)
def ZI:Nat→Zd→Option (Zb×Zd)
 | 0,_=>none
 | k+1,a0=>
  (Z3 k a0).bind fun x1=>
  (YI (Z3 k) k x1.2.toks x1.2.i x1.2.end_ x1.2.bad x1.1.kind x1.1.n x1.1.text x1.1.args).bind fun (x2,x3,x4,x5,x6,x7,x8,x9)=>
  some ((Zb.mk x2 x3 x4 x5),(Zd.mk x6 x7 x8 x9))
def Xa:Nat→Zd→Option (Zb×Zd)
 | 0,_=>none
 | k+1,a0=>
  (ZI k a0).bind fun x1=>
  (XB (ZI k) k x1.2.toks x1.2.i x1.2.end_ x1.2.bad x1.1.kind x1.1.n x1.1.text x1.1.args).bind fun (x2,x3,x4,x5,x6,x7,x8,x9)=>
  some ((Zb.mk x2 x3 x4 x5),(Zd.mk x6 x7 x8 x9))
def Qp:Nat→Zd→Option (Zb×Zd)
 | 0,_=>none
 | k+1,a0=>
  (Xa k a0).bind fun x1=>
  (Zt x1.2 (⟨#[60]⟩:ByteArray)).bind fun x2=>
  if x2.1 then
   (Xa k (Zd.mk x2.2.toks (IntKind.i64.wrap (x2.2.i+1)) x2.2.end_ x2.2.bad)).bind fun x3=>
   (Km 4 x1.1 x3.1).bind fun x4=>
   some (x4,x3.2)
  else
   (Zt x2.2 (⟨#[61,61]⟩:ByteArray)).bind fun x5=>
   if x5.1 then
    (Xa k (Zd.mk x5.2.toks (IntKind.i64.wrap (x5.2.i+1)) x5.2.end_ x5.2.bad)).bind fun x6=>
    (Km 5 x1.1 x6.1).bind fun x7=>
    some (x7,x6.2)
   else
    some (x1.1,x5.2)
def Zy:Nat→Zd→Option (Zb×Zd)
 | 0,_=>none
 | k+1,a0=>
  (Zt a0 (⟨#[108,101,116]⟩:ByteArray)).bind fun x1=>
  if x1.1 then
   (XJ k (Zd.mk x1.2.toks (IntKind.i64.wrap (x1.2.i+1)) x1.2.end_ x1.2.bad)).bind fun x2=>
   (ZC x2.2 (⟨#[61]⟩:ByteArray)).bind fun x3=>
   (Zy k x3).bind fun x4=>
   (ZC x4.2 (⟨#[105,110]⟩:ByteArray)).bind fun x5=>
   (Zy k x5).bind fun x6=>
   some ((Zb.mk 7 0 x2.1 [x4.1,x6.1]),x6.2)
  else
   (Zt x1.2 (⟨#[105,102]⟩:ByteArray)).bind fun x7=>
   if x7.1 then
    (Zy k (Zd.mk x7.2.toks (IntKind.i64.wrap (x7.2.i+1)) x7.2.end_ x7.2.bad)).bind fun x8=>
    (ZC x8.2 (⟨#[116,104,101,110]⟩:ByteArray)).bind fun x9=>
    (Zy k x9).bind fun x10=>
    (ZC x10.2 (⟨#[101,108,115,101]⟩:ByteArray)).bind fun x11=>
    (Zy k x11).bind fun x12=>
    some ((Zb.mk 8 0 (⟨#[]⟩:ByteArray) [x8.1,x10.1,x12.1]),x12.2)
   else
    (Zt x7.2 (⟨#[102,111,114]⟩:ByteArray)).bind fun x13=>
    if x13.1 then
     (XJ k (Zd.mk x13.2.toks (IntKind.i64.wrap (x13.2.i+1)) x13.2.end_ x13.2.bad)).bind fun x14=>
     (ZC x14.2 (⟨#[105,110]⟩:ByteArray)).bind fun x15=>
     (Zy k x15).bind fun x16=>
     (ZC x16.2 (⟨#[100,111]⟩:ByteArray)).bind fun x17=>
     (Zy k x17).bind fun x18=>
     some ((Zb.mk 9 0 x14.1 [x16.1,x18.1]),x18.2)
    else
     (Qp k x13.2).bind fun x19=>
     some (x19.1,x19.2)
end
def QO (rec_s_l10Left:Zb→Int→Option Int) (a0:Zb):Nat→Int→Int→Option Int
 | 0,_,_=>none
 | n_+1,x2,x3=>
  (if (decide (x3<(a0.args.length:Int))) then
   some (decide (0≤x2))
  else
   some false).bind fun x4=>
  if x4 then
   (at? a0.args x3).bind fun x5=>
   (rec_s_l10Left x5 x2).bind fun x6=>
   QO rec_s_l10Left a0 n_ x6 (IntKind.i64.wrap (x3+1))
  else
   some x2
def X6:Nat→Zb→Int→Option Int
 | 0,_,_=>none
 | k+1,a0,a1=>
  (QO (X6 k) a0 k (IntKind.i64.wrap (a1-1)) 0).bind fun x1=>
  some x1
def Kk (a0:Int) (a1:Int):Option Int:=
 if (decide (a1<a0)) then
  some a0
 else
  some a1
def YV (rec_s_NestingOf:Zb→Option Int) (a0:Zb):Nat→Int→Int→Option Int
 | 0,_,_=>none
 | n_+1,x2,x3=>
  if (decide (x3<(a0.args.length:Int))) then
   (at? a0.args x3).bind fun x4=>
   (rec_s_NestingOf x4).bind fun x5=>
   (Kk x2 x5).bind fun x6=>
   YV rec_s_NestingOf a0 n_ x6 (IntKind.i64.wrap (x3+1))
  else
   some x2
def Y9:Nat→Zb→Option Int
 | 0,_=>none
 | k+1,a0=>
  (YV (Y9 k) a0 k 0 0).bind fun x1=>
  some (IntKind.i64.wrap (x1+1))
def UI (k:Nat) (a0:Zb):Option Bool:=
 if (decide (a0.kind=1)) then
  (if (decide ((a0.args.length:Int)=0)) then
   if (decide (a0.text=(⟨#[]⟩:ByteArray))) then
    (KH a0.n 0 1000000000).bind fun x2=>
    some x2
   else
    some false
  else
   some false).bind fun x1=>
  some x1
 else
  if (decide (a0.kind=2)) then
   (if (decide ((a0.args.length:Int)=0)) then
    if (decide (a0.n=0)) then
     (XC k a0.text).bind fun x4=>
     some x4
    else
     some false
   else
    some false).bind fun x3=>
   some x3
  else
   if (decide (a0.kind=3)) then
    (if (decide ((a0.args.length:Int)=0)) then
     if (decide (a0.n=0)) then
      (Z0 k a0.text).bind fun x6=>
      some x6
     else
      some false
    else
     some false).bind fun x5=>
    some x5
   else
    if (decide (a0.kind=4)) then
     (if (decide (a0.n=0)) then
      if (decide (a0.text=(⟨#[]⟩:ByteArray))) then
       some (decide ((a0.args.length:Int)≤8))
      else
       some false
     else
      some false).bind fun x7=>
     some x7
    else
     if (decide (a0.kind=5)) then
      (if (decide (a0.n=0)) then
       (Z8 a0.text).bind fun x9=>
       some (decide ((a0.args.length:Int)=x9))
      else
       some false).bind fun x8=>
      some x8
     else
      if (decide (a0.kind=6)) then
       (if (decide (a0.text=(⟨#[]⟩:ByteArray))) then
        if (decide ((a0.args.length:Int)=2)) then
         (KH a0.n 1 5).bind fun x11=>
         some x11
        else
         some false
       else
        some false).bind fun x10=>
       some x10
      else
       (if (decide (a0.kind=7)) then
        some true
       else
        some (decide (a0.kind=9))).bind fun x12=>
       if x12 then
        (if (decide (a0.n=0)) then
         if (decide ((a0.args.length:Int)=2)) then
          (Z0 k a0.text).bind fun x14=>
          some x14
         else
          some false
        else
         some false).bind fun x13=>
        some x13
       else
        if (decide (a0.kind=8)) then
         (if (decide (a0.n=0)) then
          if (decide (a0.text=(⟨#[]⟩:ByteArray))) then
           some (decide ((a0.args.length:Int)=3))
          else
           some false
         else
          some false).bind fun x15=>
         some x15
        else
         some false
def X7 (rec_s_l10All:Zb→Option Bool) (a0:Zb):Nat→Int→Option (Unit ⊕ Bool)
 | 0,_=>none
 | n_+1,x1=>
  if (decide (x1<(a0.args.length:Int))) then
   (at? a0.args x1).bind fun x2=>
   (rec_s_l10All x2).bind fun x3=>
   if (!x3) then
    some (.inr false)
   else
    X7 rec_s_l10All a0 n_ (IntKind.i64.wrap (x1+1))
  else
   some (.inl ())
def XT:Nat→Zb→Option Bool
 | 0,_=>none
 | k+1,a0=>
  (X7 (XT k) a0 k 0:Option (Unit ⊕ Bool)).bind fun
   | .inl _=>(
    (UI k a0).bind fun x4=>
    some x4)
   | .inr z5=>(
    some z5)
def WA (k:Nat) (a0:Zb):Option Bool:=
 ((X6 k a0 40).bind fun x2=>
 if (decide (0≤x2)) then
  (Y9 k a0).bind fun x3=>
  if (decide (x3≤8)) then
   (XT k a0).bind fun x4=>
   some x4
  else
   some false
 else
  some false).bind fun x1=>
 some x1
def X9 (k:Nat) (a0:ByteArray):Option (Zb×Int):=
 (VD k a0).bind fun x1=>
 if (decide (0≤x1.2)) then
  some ((Zb.mk 0 0 (⟨#[]⟩:ByteArray) []),x1.2)
 else
  (Zy k (Zd.mk x1.1 0 (a0.size:Int) (-1))).bind fun x2=>
  ((if (decide (x2.2.bad<0)) then
    some (decide (x2.2.i<(x1.1.length:Int)))
  else
   some false).bind fun x7=>
  if x7 then
   (YR x2.2).bind fun x8=>
   some (x8.2.toks,x8.2.i,x8.2.end_,x8.2.bad)
  else
   some (x2.2.toks,x2.2.i,x2.2.end_,x2.2.bad)).bind fun (x3,x4,x5,x6)=>
  if (decide (0≤x6)) then
   some ((Zb.mk 0 0 (⟨#[]⟩:ByteArray) []),x6)
  else
   (WA k x2.1).bind fun x9=>
   if (!x9) then
    some ((Zb.mk 0 0 (⟨#[]⟩:ByteArray) []),0)
   else
    some (x2.1,(-1))
end Go.Proofs.YtfapaeabfcogkaaGreatDoor
namespace Go.Proofs.YtfapaeabfcogkaaGreatDoor
open Go.RowKit Am
def Wc (a0:Int):Option Za:=
 some (Za.mk 6 a0 0 (⟨#[]⟩:ByteArray) [] [] [])
def Kp (a0:Int):Option Za:=
 some (Za.mk 1 a0 0 (⟨#[]⟩:ByteArray) [] [] [])
def ZV (a0:ByteArray):Nat→(List ByteArray)→Int→Int→Option ((List ByteArray)×Int)
 | 0,_,_,_=>none
 | n_+1,x3,x4,x5=>
  if (decide ((IntKind.i64.wrap (x5+1))<(a0.size:Int))) then
   (((at? a0.data.toList x5).bind fun x9=>
   if (decide ((x9.toNat:Int)=59)) then
    (at? a0.data.toList (IntKind.i64.wrap (x5+1))).bind fun x10=>
    some (decide ((x10.toNat:Int)=32))
   else
    some false).bind fun x8=>
   if x8 then
    (Ui a0 x4 x5).bind fun x11=>
    (Wq 16 x3 [x11]).bind fun x12=>
    some (x12,(IntKind.i64.wrap (x5+2)))
   else
    some (x3,x4)).bind fun (x6,x7)=>
   ZV a0 n_ x6 x7 (IntKind.i64.wrap (x5+1))
  else
   some (x3,x4)
def Ut (k:Nat) (a0:ByteArray):Option (List ByteArray):=
 (ZV a0 k ([]:List ByteArray) 0 0).bind fun (x1,x2)=>
 (Ui a0 x2 (a0.size:Int)).bind fun x13=>
 (Wq 16 x1 [x13]).bind fun x14=>
 some x14
def YC (a0:ByteArray) (a1:Int):Nat→(List ByteArray)→Int→Int→Option (List ByteArray)
 | 0,_,_,_=>none
 | n_+1,x2,x3,x4=>
  if (decide (x4≤(a0.size:Int))) then
   ((if (decide (x4=(a0.size:Int))) then
     some true
   else
    (at? a0.data.toList x4).bind fun x8=>
    some (decide ((x8.toNat:Int)=a1))).bind fun x7=>
   if x7 then
    (Ui a0 x3 x4).bind fun x9=>
    (Wq 16 x2 [x9]).bind fun x10=>
    some (x10,(IntKind.i64.wrap (x4+1)))
   else
    some (x2,x3)).bind fun (x5,x6)=>
   YC a0 a1 n_ x5 x6 (IntKind.i64.wrap (x4+1))
  else
   some x2
def WV (k:Nat) (a0:ByteArray) (a1:Int):Option (List ByteArray):=
 (YC a0 a1 k ([]:List ByteArray) 0 0).bind fun x1=>
 some x1
def Y7 (a0:Int):Option Bool:=
 (KH a0 (-1000000000) 1000000000).bind fun x1=>
 some x1
def YH (k:Nat) (x1:List ByteArray):Nat→(List Int)→Int→Option ((List Int) ⊕ ((List Int)×Bool))
 | 0,_,_=>none
 | n_+1,x3,x4=>
  if (decide (x4<(x1.length:Int))) then
   (at? x1 x4).bind fun x5=>
   (Wz k x5).bind fun x6=>
   (if (!x6.2) then
    some true
   else
    (Y7 x6.1).bind fun x8=>
    some (!x8)).bind fun x7=>
   if x7 then
    some (.inr (x3,false))
   else
    (Wq 8 x3 [x6.1]).bind fun x9=>
    YH k x1 n_ x9 (IntKind.i64.wrap (x4+1))
  else
   some (.inl x3)
def Jk (k:Nat) (a0:ByteArray) (a1:Int):Option ((List Int)×Bool):=
 (WV k a0 32).bind fun x1=>
 (YH k x1 k ([]:List Int) 0:Option ((List Int) ⊕ ((List Int)×Bool))).bind fun
  | .inl x2=>(
   some (x2,(decide ((x2.length:Int)=a1))))
  | .inr z10=>(
   some z10)
def UG (a0:Za):Option Bool:=
 (if (decide (a0.kind=1)) then
  some true
 else
  if (decide (a0.kind=2)) then
   some true
  else
   some (decide (a0.kind=3))).bind fun x1=>
 some x1
def Xt (rec_s_DepthOf:Za→Option Int) (a0:Za):Nat→Int→Int→Option Int
 | 0,_,_=>none
 | n_+1,x2,x3=>
  if (decide (x3<(a0.list.length:Int))) then
   (at? a0.list x3).bind fun x4=>
   (rec_s_DepthOf x4).bind fun x5=>
   (Kk x2 x5).bind fun x6=>
   Xt rec_s_DepthOf a0 n_ x6 (IntKind.i64.wrap (x3+1))
  else
   some x2
def QP:Nat→Za→Option Int
 | 0,_=>none
 | k+1,a0=>
  (Xt (QP k) a0 k 0 0).bind fun x1=>
  some (IntKind.i64.wrap (x1+1))
def Yc (k:Nat) (a0:List ByteArray):Nat→Int→Option (Unit ⊕ Bool)
 | 0,_=>none
 | n_+1,x1=>
  if (decide (x1<(a0.length:Int))) then
   (Zns a0 0 x1).bind fun x2=>
   (at? a0 x1).bind fun x3=>
   (Zaw k x2 x3).bind fun x4=>
   if x4 then
    some (.inr false)
   else
    Yc k a0 n_ (IntKind.i64.wrap (x1+1))
  else
   some (.inl ())
def Vc (k:Nat) (a0:List ByteArray):Option Bool:=
 (Yc k a0 k 0:Option (Unit ⊕ Bool)).bind fun
  | .inl _=>(
   some true)
  | .inr z5=>(
   some z5)
def Qo (k:Nat) (a0:List ByteArray):Nat→Int→Option (Unit ⊕ Bool)
 | 0,_=>none
 | n_+1,x1=>
  if (decide (x1<(a0.length:Int))) then
   (at? a0 x1).bind fun x2=>
   (Z0 k x2).bind fun x3=>
   if (!x3) then
    some (.inr false)
   else
    Qo k a0 n_ (IntKind.i64.wrap (x1+1))
  else
   some (.inl ())
def Vz (k:Nat) (a0:List ByteArray):Option Bool:=
 (Qo k a0 k 0:Option (Unit ⊕ Bool)).bind fun
  | .inl _=>(
   ((KH (a0.length:Int) 1 4).bind fun x5=>
   if x5 then
    (Vc k a0).bind fun x6=>
    some x6
   else
    some false).bind fun x4=>
   some x4)
  | .inr z7=>(
   some z7)
def VA (a0:Zc) (a1:Zc):Option Bool:=
 (if (decide (a0.cell<a1.cell)) then
  some true
 else
  if (decide (a0.cell=a1.cell)) then
   some (decide (a0.row<a1.row))
  else
   some false).bind fun x1=>
 some x1
def YM (a0:List Zc):Nat→Int→Option (Unit ⊕ Bool)
 | 0,_=>none
 | n_+1,x1=>
  if (decide (x1<(a0.length:Int))) then
   ((at? a0 x1).bind fun x3=>
   if (decide (x3.cell<0)) then
    some true
   else
    if (decide (x3.row<0)) then
     some true
    else
     if (decide (0<x1)) then
      (at? a0 (IntKind.i64.wrap (x1-1))).bind fun x4=>
      (VA x4 x3).bind fun x5=>
      some (!x5)
     else
      some false).bind fun x2=>
   if x2 then
    some (.inr false)
   else
    YM a0 n_ (IntKind.i64.wrap (x1+1))
  else
   some (.inl ())
def Wx (k:Nat) (a0:List Zc):Option Bool:=
 (YM a0 k 0:Option (Unit ⊕ Bool)).bind fun
  | .inl _=>(
   some true)
  | .inr z6=>(
   some z6)
def QL (x4:Zq):Nat→Int→Option (Unit ⊕ Bool)
 | 0,_=>none
 | n_+1,x7=>
  if (decide (x7<(x4.cells.length:Int))) then
   (at? x4.cells x7).bind fun x8=>
   (Y7 x8).bind fun x9=>
   if (!x9) then
    some (.inr false)
   else
    QL x4 n_ (IntKind.i64.wrap (x7+1))
  else
   some (.inl ())
def Y1 (k:Nat) (a0:Za):Nat→Int→Option (Unit ⊕ Bool)
 | 0,_=>none
 | n_+1,x3=>
  if (decide (x3<(a0.rows.length:Int))) then
   ((at? a0.rows x3).bind fun x4=>
   (if (!decide ((x4.cells.length:Int)=(a0.columns.length:Int))) then
    some true
   else
    (Wx k x4.from_).bind fun x6=>
    some (!x6)).bind fun x5=>
   if x5 then
    some (.inr false)
   else
    QL x4 k 0:Option (Unit ⊕ Bool)).bind fun
    | .inl _=>(
     Y1 k a0 n_ (IntKind.i64.wrap (x3+1)))
    | .inr z10=>(
     some (.inr z10))
  else
   some (.inl ())
def Zas (k:Nat) (a0:Za):Option Bool:=
 ((Vz k a0.columns).bind fun x2=>
 if (!x2) then
  some true
 else
  some (decide (12<(a0.rows.length:Int)))).bind fun x1=>
 if x1 then
  some false
 else
  (Y1 k a0 k 0:Option (Unit ⊕ Bool)).bind fun
   | .inl _=>(
    some true)
   | .inr z11=>(
    some z11)
def X2 (rec_s_IsValidValue:Za→Option Bool) (a0:Za):Nat→Int→Option (Unit ⊕ Bool)
 | 0,_=>none
 | n_+1,x1=>
  if (decide (x1<(a0.list.length:Int))) then
   ((at? a0.list x1).bind fun x3=>
   (UG x3).bind fun x4=>
   if (!x4) then
    some true
   else
    (rec_s_IsValidValue x3).bind fun x5=>
    some (!x5)).bind fun x2=>
   if x2 then
    some (.inr false)
   else
    X2 rec_s_IsValidValue a0 n_ (IntKind.i64.wrap (x1+1))
  else
   some (.inl ())
mutual
def Uj:Nat→Za→Option Bool
 | 0,_=>none
 | k+1,a0=>
  (X2 (ZK k) a0 k 0:Option (Unit ⊕ Bool)).bind fun
   | .inl _=>(
    (if (decide ((a0.list.length:Int)≤8)) then
     (QP k a0).bind fun x7=>
     some (decide (x7≤3))
    else
     some false).bind fun x6=>
    some x6)
   | .inr z8=>(
    some z8)
def ZK:Nat→Za→Option Bool
 | 0,_=>none
 | k+1,a0=>
  (if (!decide (a0.kind=3)) then
   if (decide (0<(a0.list.length:Int))) then
    some true
   else
    if (!decide (a0.kind=5)) then
     some (decide (0<(IntKind.i64.wrap ((a0.columns.length:Int)+(a0.rows.length:Int)))))
    else
     some false
  else
   some (decide (0<(IntKind.i64.wrap ((a0.columns.length:Int)+(a0.rows.length:Int)))))).bind fun x1=>
  if x1 then
   some false
  else
   (if (!decide (a0.kind=2)) then
    if (!decide (a0.text=(⟨#[]⟩:ByteArray))) then
     some true
    else
     if (!decide (a0.kind=4)) then
      some (!decide (a0.step=0))
     else
      some false
   else
    some (!decide (a0.step=0))).bind fun x2=>
   if x2 then
    some false
   else
    if (decide (a0.kind=1)) then
     (Y7 a0.n).bind fun x3=>
     some x3
    else
     if (decide (a0.kind=2)) then
      (if (decide (a0.n=0)) then
       (XC k a0.text).bind fun x5=>
       some x5
      else
       some false).bind fun x4=>
      some x4
     else
      if (decide (a0.kind=3)) then
       (if (decide (a0.n=0)) then
        (Uj k a0).bind fun x7=>
        some x7
       else
        some false).bind fun x6=>
       some x6
      else
       if (decide (a0.kind=4)) then
        ((Y7 a0.n).bind fun x9=>
        if x9 then
         (Y7 a0.step).bind fun x10=>
         some x10
        else
         some false).bind fun x8=>
        some x8
       else
        if (decide (a0.kind=5)) then
         (if (decide (a0.n=0)) then
          (Zas k a0).bind fun x12=>
          some x12
         else
          some false).bind fun x11=>
         some x11
        else
         if (decide (a0.kind=6)) then
          (KH a0.n 1 8).bind fun x13=>
          some x13
         else
          some false
end
end Go.Proofs.YtfapaeabfcogkaaGreatDoor
namespace Go.Proofs.YtfapaeabfcogkaaGreatDoor
open Go.RowKit Am
def YD (k:Nat) (x1:List ByteArray) (x3:List ByteArray):Nat→(List Zq)→Int→Option ((List Zq) ⊕ (Za×Bool))
 | 0,_,_=>none
 | n_+1,x5,x6=>
  if (decide (x6<(x1.length:Int))) then
   (at? x1 x6).bind fun x7=>
   (Jk k x7 (x3.length:Int)).bind fun x8=>
   if (!x8.2) then
    some (.inr ((Za.mk 0 0 0 (⟨#[]⟩:ByteArray) [] [] []),false))
   else
    (Wq 48 x5 [(Zq.mk x8.1 [])]).bind fun x9=>
    YD k x1 x3 n_ x9 (IntKind.i64.wrap (x6+1))
  else
   some (.inl x5)
def VF (k:Nat) (a0:ByteArray):Option (Za×Bool):=
 (Ut k a0).bind fun x1=>
 (at? x1 0).bind fun x2=>
 (WV k x2 32).bind fun x3=>
 (YD k x1 x3 k [] 1:Option ((List Zq) ⊕ (Za×Bool))).bind fun
  | .inl x4=>(
   (ZK k (Za.mk 5 0 0 (⟨#[]⟩:ByteArray) [] x3 x4)).bind fun x10=>
   if (!x10) then
    some ((Za.mk 0 0 0 (⟨#[]⟩:ByteArray) [] [] []),false)
   else
    some ((Za.mk 5 0 0 (⟨#[]⟩:ByteArray) [] x3 x4),true))
  | .inr z11=>(
   some z11)
def YE (k:Nat) (x1:List ByteArray) (x3:List ByteArray):Nat→Int→Option (Unit ⊕ Int)
 | 0,_=>none
 | n_+1,x5=>
  if (decide (x5<(x1.length:Int))) then
   (at? x1 x5).bind fun x6=>
   (Jk k x6 (x3.length:Int)).bind fun x7=>
   (if (!x7.2) then
    some true
   else
    some (decide (12<x5))).bind fun x8=>
   if x8 then
    some (.inr x5)
   else
    YE k x1 x3 n_ (IntKind.i64.wrap (x5+1))
  else
   some (.inl ())
def UQ (k:Nat) (a0:ByteArray):Option Int:=
 (Ut k a0).bind fun x1=>
 (at? x1 0).bind fun x2=>
 (WV k x2 32).bind fun x3=>
 (Vz k x3).bind fun x4=>
 if (!x4) then
  some 0
 else
  (YE k x1 x3 k 1:Option (Unit ⊕ Int)).bind fun
   | .inl _=>(
    some (-1))
   | .inr z9=>(
    some z9)
def Zdf (a0:Zq):Option Zq:=
 (Wq 8 ([]:List Int) a0.cells).bind fun x1=>
 (Wq 16 ([]:List Zc) a0.from_).bind fun x2=>
 some (Zq.mk x1 x2)
def X4 (rec_s_l3Copy:Za→Option Za) (a0:Za):Nat→(List Za)→Int→Option (List Za)
 | 0,_,_=>none
 | n_+1,x3,x4=>
  if (decide (x4<(a0.list.length:Int))) then
   (at? a0.list x4).bind fun x5=>
   (rec_s_l3Copy x5).bind fun x6=>
   (Wq 112 x3 [x6]).bind fun x7=>
   X4 rec_s_l3Copy a0 n_ x7 (IntKind.i64.wrap (x4+1))
  else
   some x3
def X3 (a0:Za):Nat→(List Zq)→Int→Option (List Zq)
 | 0,_,_=>none
 | n_+1,x9,x10=>
  if (decide (x10<(a0.rows.length:Int))) then
   (at? a0.rows x10).bind fun x11=>
   (Zdf x11).bind fun x12=>
   (Wq 48 x9 [x12]).bind fun x13=>
   X3 a0 n_ x13 (IntKind.i64.wrap (x10+1))
  else
   some x9
def Ww:Nat→Za→Option Za
 | 0,_=>none
 | k+1,a0=>
  (Wq 16 ([]:List ByteArray) a0.columns).bind fun x1=>
  (X4 (Ww k) a0 k [] 0).bind fun x2=>
  (X3 a0 k [] 0).bind fun x8=>
  some (Za.mk a0.kind a0.n a0.step a0.text x2 x1 x8)
def ZY (a0:Int):Nat→(List Zq)→Int→Option (List Zq)
 | 0,_,_=>none
 | n_+1,x6,x7=>
  if (decide (x7<(x6.length:Int))) then
   (at? x6 x7).bind fun x8=>
   ZY a0 n_ (x6.set x7.toNat (Zq.mk x8.cells [(Zc.mk a0 x7)])) (IntKind.i64.wrap (x7+1))
  else
   some x6
def Vb (k:Nat) (a0:Int) (a1:Za):Option Za:=
 (if (!decide (a1.kind=5)) then
  some true
 else
  (ZK k a1).bind fun x2=>
  if (!x2) then
   some true
  else
   some (decide (a0<0))).bind fun x1=>
 if x1 then
  (Wc 4).bind fun x3=>
  some x3
 else
  (Ww k a1).bind fun x4=>
  (ZY a0 k x4.rows 0).bind fun x5=>
  some (Za.mk x4.kind x4.n x4.step x4.text x4.list x4.columns x5)
def Yr (k:Nat) (a0:Zj):Option ZB:=
 (Qh k a0).bind fun x1=>
 if (!x1) then
  some (ZB.mk 0 (⟨#[]⟩:ByteArray) (Zb.mk 0 0 (⟨#[]⟩:ByteArray) []) (Za.mk 0 0 0 (⟨#[]⟩:ByteArray) [] [] []) 0)
 else
  if (decide (a0.kind=2)) then
   (X9 k a0.code).bind fun x2=>
   if (decide (0≤x2.2)) then
    (Wc 8).bind fun x3=>
    some (ZB.mk 4 a0.name (Zb.mk 0 0 (⟨#[]⟩:ByteArray) []) x3 x2.2)
   else
    some (ZB.mk 2 a0.name x2.1 (Za.mk 0 0 0 (⟨#[]⟩:ByteArray) [] [] []) 0)
  else
   if (decide (a0.kind=3)) then
    (Kp a0.n).bind fun x4=>
    some (ZB.mk 3 a0.name (Zb.mk 0 0 (⟨#[]⟩:ByteArray) []) x4 0)
   else
    if (decide (a0.kind=4)) then
     (VF k a0.code).bind fun x5=>
     if (!x5.2) then
      (Wc 8).bind fun x6=>
      (UQ k a0.code).bind fun x7=>
      some (ZB.mk 4 a0.name (Zb.mk 0 0 (⟨#[]⟩:ByteArray) []) x6 x7)
     else
      (Vb k a0.id x5.1).bind fun x8=>
      some (ZB.mk 3 a0.name (Zb.mk 0 0 (⟨#[]⟩:ByteArray) []) x8 0)
    else
     some (ZB.mk 1 (⟨#[]⟩:ByteArray) (Zb.mk 0 0 (⟨#[]⟩:ByteArray) []) (Za.mk 0 0 0 (⟨#[]⟩:ByteArray) [] [] []) 0)
def Y2 (k:Nat) (a0:Ze):Nat→(List ZB)→Int→Option (List ZB)
 | 0,_,_=>none
 | n_+1,x3,x4=>
  if (decide (x4<(a0.cells.length:Int))) then
   (at? a0.cells x4).bind fun x5=>
   (Yr k x5).bind fun x6=>
   (Wq 200 x3 [x6]).bind fun x7=>
   Y2 k a0 n_ x7 (IntKind.i64.wrap (x4+1))
  else
   some x3
def V0 (k:Nat) (a0:Ze):Option (List ZB):=
 (Xd k a0).bind fun x1=>
 if (!x1) then
  some ([]:List ZB)
 else
  (Y2 k a0 k ([]:List ZB) 0).bind fun x2=>
  some x2
def Yg (a0:List ZB) (a1:ByteArray):Nat→(List Int)→Int→Option (List Int)
 | 0,_,_=>none
 | n_+1,x2,x3=>
  if (decide (x3<(a0.length:Int))) then
   (((at? a0 x3).bind fun x6=>
   if (!decide (x6.kind=1)) then
    some (decide (x6.name=a1))
   else
    some false).bind fun x5=>
   if x5 then
    (Wq 8 x2 [x3]).bind fun x7=>
    some x7
   else
    some x2).bind fun x4=>
   Yg a0 a1 n_ x4 (IntKind.i64.wrap (x3+1))
  else
   some x2
def Uu (k:Nat) (a0:List ZB) (a1:ByteArray):Option (List Int):=
 (Yg a0 a1 k ([]:List Int) 0).bind fun x1=>
 some x1
def Zaz (k:Nat) (a0:List ZB) (a1:ByteArray):Option Int:=
 (Uu k a0 a1).bind fun x1=>
 if (decide ((x1.length:Int)=0)) then
  some (-1)
 else
  if (decide ((x1.length:Int)=1)) then
   (at? x1 0).bind fun x2=>
   some x2
  else
   some (-2)
def Wa (k:Nat) (a0:List ZB) (a1:List Za) (a2:ByteArray):Option Za:=
 (Zaz k a0 a2).bind fun x1=>
 if (decide (x1=(-2))) then
  (Wc 2).bind fun x2=>
  some x2
 else
  (if (decide (x1=(-1))) then
   some true
  else
   some (decide ((a1.length:Int)≤x1))).bind fun x3=>
  if x3 then
   (Wc 1).bind fun x4=>
   some x4
  else
   (at? a1 x1).bind fun x5=>
   (Ww k x5).bind fun x6=>
   some x6
def Va (k:Nat) (a0:Ze) (a1:Qf) (a2:ByteArray):Option Za:=
 (V0 k a0).bind fun x1=>
 (Wa k x1 a1.values a2).bind fun x2=>
 some x2
def XV (a0:Int) (a1:Int) (a2:Int):Option Bool:=
 (if (decide (a1≤a0)) then
  some (decide (a0≤a2))
 else
  some false).bind fun x1=>
 some x1
def YP (a0:ByteArray):Nat→Int→Option (Unit ⊕ Bool)
 | 0,_=>none
 | n_+1,x1=>
  if (decide (x1<(a0.size:Int))) then
   ((at? a0.data.toList x1).bind fun x3=>
   if (decide ((x3.toNat:Int)<32)) then
    some true
   else
    some (decide (126<(x3.toNat:Int)))).bind fun x2=>
   if x2 then
    some (.inr false)
   else
    YP a0 n_ (IntKind.i64.wrap (x1+1))
  else
   some (.inl ())
def WH (k:Nat) (a0:ByteArray):Option Bool:=
 (YP a0 k 0:Option (Unit ⊕ Bool)).bind fun
  | .inl _=>(
   some (decide ((a0.size:Int)≤120)))
  | .inr z4=>(
   some z4)
def Wg (a0:ByteArray):Nat→Int→Option (Unit ⊕ Bool)
 | 0,_=>none
 | n_+1,x1=>
  if (decide (x1<(a0.size:Int))) then
   ((at? a0.data.toList x1).bind fun x3=>
   if (decide (97≤(x3.toNat:Int))) then
    some (decide ((x3.toNat:Int)≤122))
   else
    some false).bind fun x2=>
   (if (!x2) then
    if (decide (x1=0)) then
     some true
    else
     (at? a0.data.toList x1).bind fun x5=>
     if (decide ((x5.toNat:Int)<48)) then
      some true
     else
      some (decide (57<(x5.toNat:Int)))
   else
    some false).bind fun x4=>
   if x4 then
    some (.inr false)
   else
    Wg a0 n_ (IntKind.i64.wrap (x1+1))
  else
   some (.inl ())
def ZcS (k:Nat) (a0:ByteArray):Option Bool:=
 (Wg a0 k 0:Option (Unit ⊕ Bool)).bind fun
  | .inl _=>(
   (XV (a0.size:Int) 1 8).bind fun x6=>
   some x6)
  | .inr z7=>(
   some z7)
end Go.Proofs.YtfapaeabfcogkaaGreatDoor
namespace Go.Proofs.YtfapaeabfcogkaaGreatDoor
open Go.RowKit Am
def ZfE (a0:Int):Option ByteArray:=some ⟨(Lib.itoa a0).toArray⟩
end Go.Proofs.YtfapaeabfcogkaaGreatDoor
namespace Go.Proofs.YtfapaeabfcogkaaGreatDoor
open Go.RowKit Am
def Yx (a0 a1:ByteArray):Option Bool:=some (Lib.hasPrefix a0.data.toList a1.data.toList)
def Yw (a0:ByteArray) (a1:Int):Option Int:=some (Lib.indexByte a0.data.toList a1.toNat.toUInt8)
def YZ (a0 a1:ByteArray):Option (List ByteArray):=if a0.size<4294967281∧1≤a1.size then some (Lib.splitB a1 0 (Lib.countB a0 a1) a0) else none
def Xu (a0:ByteArray) (a1 a2:Int):Int×Bool:=
 match Lib.atoiAll a0.data.toList with
 | .ok n=>if a1≤n∧n≤a2∧(⟨(Lib.itoa n).toArray⟩:ByteArray)=a0 then (n,true) else (0,false)
 | _=>(0,false)
def ZaF (a0:ByteArray) (a1 a2:Int):Option (Int×Bool):=if a0.size≤281474976710656 then some (Xu a0 a1 a2) else none
end Go.Proofs.YtfapaeabfcogkaaGreatDoor
namespace Go.Proofs.YtfapaeabfcogkaaGreatDoor
open Go.RowKit Am
def ZM (a0:ByteArray):Option Int:=
 if (decide (a0=(⟨#[99,108,111,99,107]⟩:ByteArray))) then
  some 0
 else
  (if (decide (a0=(⟨#[108,101,110]⟩:ByteArray))) then
   some true
  else
   if (decide (a0=(⟨#[115,117,109]⟩:ByteArray))) then
    some true
   else
    if (decide (a0=(⟨#[114,111,119,115]⟩:ByteArray))) then
     some true
    else
     if (decide (a0=(⟨#[99,104,97,110,99,101]⟩:ByteArray))) then
      some true
     else
      some (decide (a0=(⟨#[102,105,108,101]⟩:ByteArray)))).bind fun x1=>
  if x1 then
   some 1
  else
   (if (decide (a0=(⟨#[116,97,107,101]⟩:ByteArray))) then
    some true
   else
    if (decide (a0=(⟨#[115,107,105,112]⟩:ByteArray))) then
     some true
    else
     if (decide (a0=(⟨#[114,97,110,103,101]⟩:ByteArray))) then
      some true
     else
      if (decide (a0=(⟨#[110,116,104]⟩:ByteArray))) then
       some true
      else
       if (decide (a0=(⟨#[107,101,101,112]⟩:ByteArray))) then
        some true
       else
        if (decide (a0=(⟨#[99,111,108,117,109,110]⟩:ByteArray))) then
         some true
        else
         some (decide (a0=(⟨#[116,97,98,108,101]⟩:ByteArray)))).bind fun x2=>
   if x2 then
    some 2
   else
    (if (decide (a0=(⟨#[119,104,101,114,101]⟩:ByteArray))) then
     some true
    else
     if (decide (a0=(⟨#[103,114,111,117,112]⟩:ByteArray))) then
      some true
     else
      some (decide (a0=(⟨#[106,111,105,110]⟩:ByteArray)))).bind fun x3=>
    if x3 then
     some 3
    else
     if (decide (a0=(⟨#[97,100,100]⟩:ByteArray))) then
      some 4
     else
      some (-1)
def V4 (a0:ByteArray):Option Bool:=
 (if (decide (a0=(⟨#[108,101,116]⟩:ByteArray))) then
  some true
 else
  if (decide (a0=(⟨#[105,110]⟩:ByteArray))) then
   some true
  else
   if (decide (a0=(⟨#[105,102]⟩:ByteArray))) then
    some true
   else
    if (decide (a0=(⟨#[116,104,101,110]⟩:ByteArray))) then
     some true
    else
     if (decide (a0=(⟨#[101,108,115,101]⟩:ByteArray))) then
      some true
     else
      if (decide (a0=(⟨#[102,111,114]⟩:ByteArray))) then
       some true
      else
       some (decide (a0=(⟨#[100,111]⟩:ByteArray)))).bind fun x1=>
 if x1 then
  some true
 else
  (ZM a0).bind fun x2=>
  some (decide (0≤x2))
def Z2 (k:Nat) (a0:ByteArray):Option Bool:=
 ((ZcS k a0).bind fun x2=>
 if x2 then
  (V4 a0).bind fun x3=>
  some (!x3)
 else
  some false).bind fun x1=>
 some x1
def Qi (k:Nat) (a0:Zj):Option Bool:=
 ((XV a0.id 1 999).bind fun x2=>
 if (!x2) then
  some true
 else
  (XV a0.version 1 999).bind fun x3=>
  if (!x3) then
   some true
  else
   (WH k a0.code).bind fun x4=>
   some (!x4)).bind fun x1=>
 if x1 then
  some false
 else
  if (decide (a0.kind=1)) then
   (if (decide (a0.name=(⟨#[]⟩:ByteArray))) then
    some (decide (a0.n=0))
   else
    some false).bind fun x5=>
   some x5
  else
   (if (decide (a0.kind=2)) then
    some true
   else
    some (decide (a0.kind=4))).bind fun x6=>
   if x6 then
    ((Z2 k a0.name).bind fun x8=>
    if x8 then
     some (decide (a0.n=0))
    else
     some false).bind fun x7=>
    some x7
   else
    if (decide (a0.kind=3)) then
     ((Z2 k a0.name).bind fun x10=>
     if x10 then
      if (decide (a0.code=(⟨#[]⟩:ByteArray))) then
       (XV a0.n 0 100).bind fun x11=>
       some x11
      else
       some false
     else
      some false).bind fun x9=>
     some x9
    else
     some false
def Qv (a0:Ze) (a1:Int):Nat→Int→Option (Unit ⊕ Int)
 | 0,_=>none
 | n_+1,x1=>
  if (decide (x1<(a0.cells.length:Int))) then
   (at? a0.cells x1).bind fun x2=>
   if (decide (x2.id=a1)) then
    some (.inr x1)
   else
    Qv a0 a1 n_ (IntKind.i64.wrap (x1+1))
  else
   some (.inl ())
def WX (k:Nat) (a0:Ze) (a1:Int):Option Int:=
 (Qv a0 a1 k 0:Option (Unit ⊕ Int)).bind fun
  | .inl _=>(
   some (-1))
  | .inr z3=>(
   some z3)
def Z5 (k:Nat) (a0:Ze):Nat→Int→Option (Unit ⊕ Bool)
 | 0,_=>none
 | n_+1,x1=>
  if (decide (x1<(a0.cells.length:Int))) then
   (at? a0.cells x1).bind fun x2=>
   ((Qi k x2).bind fun x4=>
   if (!x4) then
    some true
   else
    (WX k a0 x2.id).bind fun x5=>
    some (!decide (x5=x1))).bind fun x3=>
   if x3 then
    some (.inr false)
   else
    Z5 k a0 n_ (IntKind.i64.wrap (x1+1))
  else
   some (.inl ())
def Xf (k:Nat) (a0:Ze):Option Bool:=
 (Z5 k a0 k 0:Option (Unit ⊕ Bool)).bind fun
  | .inl _=>(
   some (decide ((a0.cells.length:Int)≤8)))
  | .inr z6=>(
   some z6)
def Kz (a0:Int):Option Za:=
 some (Za.mk 1 a0 0 (⟨#[]⟩:ByteArray) [] [] [])
def YO (a0:ByteArray):Nat→Int→Option (Unit ⊕ Bool)
 | 0,_=>none
 | n_+1,x1=>
  if (decide (x1<(a0.size:Int))) then
   ((at? a0.data.toList x1).bind fun x3=>
   if (decide ((x3.toNat:Int)<32)) then
    some true
   else
    if (decide (126<(x3.toNat:Int))) then
     some true
    else
     some (decide ((x3.toNat:Int)=34))).bind fun x2=>
   if x2 then
    some (.inr false)
   else
    YO a0 n_ (IntKind.i64.wrap (x1+1))
  else
   some (.inl ())
def XH (k:Nat) (a0:ByteArray):Option Bool:=
 (YO a0 k 0:Option (Unit ⊕ Bool)).bind fun
  | .inl _=>(
   some (decide ((a0.size:Int)≤20)))
  | .inr z4=>(
   some z4)
def Qs (a0:ByteArray):Nat→Int→Option Int
 | 0,_=>none
 | n_+1,x4=>
  (if (decide (x4<(a0.size:Int))) then
   (at? a0.data.toList x4).bind fun x6=>
   if (decide (97≤(x6.toNat:Int))) then
    if (decide ((x6.toNat:Int)≤122)) then
     some true
    else
     if (decide (48≤(x6.toNat:Int))) then
      some (decide ((x6.toNat:Int)≤57))
     else
      some false
   else
    if (decide (48≤(x6.toNat:Int))) then
     some (decide ((x6.toNat:Int)≤57))
    else
     some false
  else
   some false).bind fun x5=>
  if x5 then
   Qs a0 n_ (IntKind.i64.wrap (x4+1))
  else
   some x4
def Qr (a0:ByteArray):Nat→Int→Option Int
 | 0,_=>none
 | n_+1,x10=>
  (if (decide (x10<(a0.size:Int))) then
   (at? a0.data.toList x10).bind fun x12=>
   if (decide (48≤(x12.toNat:Int))) then
    some (decide ((x12.toNat:Int)≤57))
   else
    some false
  else
   some false).bind fun x11=>
  if x11 then
   Qr a0 n_ (IntKind.i64.wrap (x10+1))
  else
   some x10
def Qd (k:Nat) (a0:ByteArray) (a1:Int):Option (Zi×Int×Bool):=
 (at? a0.data.toList a1).bind fun x1=>
 (if (decide (97≤(x1.toNat:Int))) then
  some (decide ((x1.toNat:Int)≤122))
 else
  some false).bind fun x2=>
 if x2 then
  (Qs a0 k a1).bind fun x3=>
  (Ui a0 a1 x3).bind fun x7=>
  some ((Zi.mk 1 0 a1 x7),x3,(decide ((IntKind.i64.wrap (x3-a1))≤8)))
 else
  (if (decide (48≤(x1.toNat:Int))) then
   some (decide ((x1.toNat:Int)≤57))
  else
   some false).bind fun x8=>
  if x8 then
   (Qr a0 k a1).bind fun x9=>
   (Ui a0 a1 x9).bind fun x13=>
   (ZaF x13 0 1000000000).bind fun x14=>
   some ((Zi.mk 2 x14.1 a1 (⟨#[]⟩:ByteArray)),x9,x14.2)
  else
   if (decide ((x1.toNat:Int)=34)) then
    (Ui a0 (IntKind.i64.wrap (a1+1)) (a0.size:Int)).bind fun x15=>
    (Yw x15 34).bind fun x16=>
    if (decide (x16<0)) then
     some ((Zi.mk 0 0 0 (⟨#[]⟩:ByteArray)),0,false)
    else
     (Ui a0 (IntKind.i64.wrap (a1+1)) (IntKind.i64.wrap ((IntKind.i64.wrap (a1+1))+x16))).bind fun x17=>
     (XH k x17).bind fun x18=>
     some ((Zi.mk 3 0 a1 x17),(IntKind.i64.wrap ((IntKind.i64.wrap (a1+x16))+2)),x18)
   else
    (Ui a0 a1 (a0.size:Int)).bind fun x19=>
    (Yx x19 (⟨#[61,61]⟩:ByteArray)).bind fun x20=>
    if x20 then
     some ((Zi.mk 4 0 a1 (⟨#[61,61]⟩:ByteArray)),(IntKind.i64.wrap (a1+2)),true)
    else
     (Ui a0 a1 (IntKind.i64.wrap (a1+1))).bind fun x21=>
     (Yw (⟨#[40,41,91,93,44,43,45,42,60,61]⟩:ByteArray) (x1.toNat:Int)).bind fun x22=>
     some ((Zi.mk 4 0 a1 x21),(IntKind.i64.wrap (a1+1)),(decide (0≤x22)))
def ZX (k:Nat) (a0:ByteArray):Nat→(List Zi)→Int→Option ((List Zi) ⊕ ((List Zi)×Int))
 | 0,_,_=>none
 | n_+1,x2,x3=>
  if (decide (x3<(a0.size:Int))) then
   (at? a0.data.toList x3).bind fun x4=>
   if (decide ((x4.toNat:Int)=32)) then
    ZX k a0 n_ x2 (IntKind.i64.wrap (x3+1))
   else
    (Qd k a0 x3).bind fun x5=>
    (if (!x5.2.2) then
     some true
    else
     some (decide ((x2.length:Int)=60))).bind fun x6=>
    if x6 then
     some (.inr ([],x3))
    else
     (Wq 40 x2 [x5.1]).bind fun x7=>
     ZX k a0 n_ x7 x5.2.1
  else
   some (.inl x2)
def VL (k:Nat) (a0:ByteArray):Option ((List Zi)×Int):=
 if (decide (120<(a0.size:Int))) then
  some ([],120)
 else
  (ZX k a0 k ([]:List Zi) 0:Option ((List Zi) ⊕ ((List Zi)×Int))).bind fun
   | .inl x1=>(
    some (x1,(-1)))
   | .inr z8=>(
    some z8)
def ZE (a0:Zf):Option (Zi×Zf):=
 (if (decide (a0.bad<0)) then
  some (decide (a0.at_<(a0.list.length:Int)))
 else
  some false).bind fun x1=>
 if x1 then
  (at? a0.list a0.at_).bind fun x2=>
  some (x2,a0)
 else
  some ((Zi.mk 0 0 0 (⟨#[]⟩:ByteArray)),a0)
def Yz (a0:Zi) (a1:ByteArray):Option Bool:=
 (if (decide (a0.kind=1)) then
  some (decide (a0.text=a1))
 else
  some false).bind fun x1=>
 some x1
def Yt (a0:Zf):Option (Zb×Zf):=
 (if (decide (a0.bad<0)) then
  some a0.at_
 else
  some a0.bad).bind fun x1=>
 some ((Zb.mk 0 0 (⟨#[]⟩:ByteArray) []),(Zf.mk a0.list a0.at_ x1))
def Ys (k:Nat) (a0:Zf):Option (ByteArray×Zf):=
 (ZE a0).bind fun x1=>
 (if (!decide (x1.1.kind=1)) then
  some true
 else
  (Z2 k x1.1.text).bind fun x3=>
  some (!x3)).bind fun x2=>
 if x2 then
  (Yt x1.2).bind fun x4=>
  some ((⟨#[]⟩:ByteArray),x4.2)
 else
  some (x1.1.text,(Zf.mk x1.2.list (IntKind.i64.wrap (x1.2.at_+1)) x1.2.bad))
end Go.Proofs.YtfapaeabfcogkaaGreatDoor
namespace Go.Proofs.YtfapaeabfcogkaaGreatDoor
open Go.RowKit Am
def Uv (a0:Zi) (a1:ByteArray):Option Bool:=
 (if (decide (a0.kind=4)) then
  some (decide (a0.text=a1))
 else
  some false).bind fun x1=>
 some x1
def Zs (a0:Zf) (a1:ByteArray):Option Zf:=
 ((ZE a0).bind fun x5=>
 (Yz x5.1 a1).bind fun x6=>
 if x6 then
  some (x5.2.list,x5.2.at_,x5.2.bad,true)
 else
  (ZE x5.2).bind fun x7=>
  (Uv x7.1 a1).bind fun x8=>
  some (x7.2.list,x7.2.at_,x7.2.bad,x8)).bind fun (x1,x2,x3,x4)=>
 if x4 then
  some (Zf.mk x1 (IntKind.i64.wrap (x2+1)) x3)
 else
  (Yt (Zf.mk x1 x2 x3)).bind fun x9=>
  some x9.2
def Zk (a0:Zf) (a1:ByteArray):Option (Bool×Zf):=
 (ZE a0).bind fun x1=>
 (Uv x1.1 a1).bind fun x2=>
 if x2 then
  some (true,(Zf.mk x1.2.list (IntKind.i64.wrap (x1.2.at_+1)) x1.2.bad))
 else
  some (false,x1.2)
def J0 (a0:Int):Option ByteArray:=
 (XV a0 1 5).bind fun x1=>
 if (!x1) then
  some (⟨#[63]⟩:ByteArray)
 else
  (at? [(⟨#[43]⟩:ByteArray),(⟨#[45]⟩:ByteArray),(⟨#[42]⟩:ByteArray),(⟨#[60]⟩:ByteArray),(⟨#[61,61]⟩:ByteArray)] (IntKind.i64.wrap (a0-1))).bind fun x2=>
  some x2
def Yi (rec_i_parser_expr:Zf→Option (Zb×Zf)) (a1:ByteArray):Nat→(List Zi)→Int→Int→(List Zb)→Option ((List Zb)×(List Zi)×Int×Int)
 | 0,_,_,_,_=>none
 | n_+1,x6,x7,x8,x9=>
  if (decide (x8<0)) then
   (rec_i_parser_expr (Zf.mk x6 x7 x8)).bind fun x10=>
   (Wq 56 x9 [x10.1]).bind fun x11=>
   (Zk x10.2 a1).bind fun x12=>
   if x12.1 then
    some (x11,x12.2.list,x12.2.at_,x12.2.bad)
   else
    (Zs x12.2 (⟨#[44]⟩:ByteArray)).bind fun x13=>
    Yi rec_i_parser_expr a1 n_ x13.list x13.at_ x13.bad x11
  else
   some (x9,x6,x7,x8)
def Z1 (rec_i_parser_atom:Zf→Option (Zb×Zf)):Nat→(List Zi)→Int→Int→Int→Int→ByteArray→(List Zb)→Option (Int×Int×ByteArray×(List Zb)×(List Zi)×Int×Int)
 | 0,_,_,_,_,_,_,_=>none
 | n_+1,x9,x10,x11,x12,x13,x14,x15=>
  (Zk (Zf.mk x9 x10 x11) (⟨#[42]⟩:ByteArray)).bind fun x16=>
  if x16.1 then
   (rec_i_parser_atom x16.2).bind fun x17=>
   Z1 rec_i_parser_atom n_ x17.2.list x17.2.at_ x17.2.bad 6 3 (⟨#[]⟩:ByteArray) [(Zb.mk x12 x13 x14 x15),x17.1]
  else
   some (x12,x13,x14,x15,x16.2.list,x16.2.at_,x16.2.bad)
def YJ (rec_i_parser_product:Zf→Option (Zb×Zf)):Nat→(List Zi)→Int→Int→Int→Int→ByteArray→(List Zb)→Option (Int×Int×ByteArray×(List Zb)×(List Zi)×Int×Int)
 | 0,_,_,_,_,_,_,_=>none
 | n_+1,x9,x10,x11,x12,x13,x14,x15=>
  if (decide (x11<0)) then
   ((Zk (Zf.mk x9 x10 x11) (⟨#[43]⟩:ByteArray)).bind fun x23=>
   if (!x23.1) then
    (Zk x23.2 (⟨#[45]⟩:ByteArray)).bind fun x24=>
    if (!x24.1) then
     some (.inr (x24.2.list,x24.2.at_,x24.2.bad))
    else
     some (.inl (x24.2.list,x24.2.at_,x24.2.bad,2))
   else
    some (.inl (x23.2.list,x23.2.at_,x23.2.bad,1)):Option (((List Zi)×Int×Int×Int) ⊕ ((List Zi)×Int×Int))).bind fun
    | .inl (x16,x17,x18,x19)=>(
     (rec_i_parser_product (Zf.mk x16 x17 x18)).bind fun x25=>
     YJ rec_i_parser_product n_ x25.2.list x25.2.at_ x25.2.bad 6 x19 (⟨#[]⟩:ByteArray) [(Zb.mk x12 x13 x14 x15),x25.1])
    | .inr (x20,x21,x22)=>(
     some (x12,x13,x14,x15,x20,x21,x22))
  else
   some (x12,x13,x14,x15,x9,x10,x11)
def Yd (rec_i_parser_sum:Zf→Option (Zb×Zf)) (x29:Zb×Zf):Nat→(List Zi)→Int→Int→Int→Option (((List Zi)×Int×Int) ⊕ (Zb×Zf))
 | 0,_,_,_,_=>none
 | n_+1,x33,x34,x35,x36=>
  if (decide (x36<([4,5].length:Int))) then
   (at? [4,5] x36).bind fun x37=>
   (J0 x37).bind fun x38=>
   (Zk (Zf.mk x33 x34 x35) x38).bind fun x39=>
   if x39.1 then
    (rec_i_parser_sum x39.2).bind fun x40=>
    some (.inr ((Zb.mk 6 x37 (⟨#[]⟩:ByteArray) [x29.1,x40.1]),x40.2))
   else
    Yd rec_i_parser_sum x29 n_ x39.2.list x39.2.at_ x39.2.bad (IntKind.i64.wrap (x36+1))
  else
   some (.inl (x33,x34,x35))
mutual
def Yq:Nat→Zf→ByteArray→Option ((List Zb)×Zf)
 | 0,_,_=>none
 | k+1,a0,a1=>
  (Zk a0 a1).bind fun x1=>
  if x1.1 then
   some (([]:List Zb),x1.2)
  else
   (Yi (Zm k) a1 k x1.2.list x1.2.at_ x1.2.bad ([]:List Zb)).bind fun (x2,x3,x4,x5)=>
   some (x2,(Zf.mk x3 x4 x5))
def Zx:Nat→Zf→Option (Zb×Zf)
 | 0,_=>none
 | k+1,a0=>
  (ZE a0).bind fun x1=>
  if (decide (x1.1.kind=2)) then
   some ((Zb.mk 1 x1.1.n (⟨#[]⟩:ByteArray) []),(Zf.mk x1.2.list (IntKind.i64.wrap (x1.2.at_+1)) x1.2.bad))
  else
   if (decide (x1.1.kind=3)) then
    some ((Zb.mk 2 0 x1.1.text []),(Zf.mk x1.2.list (IntKind.i64.wrap (x1.2.at_+1)) x1.2.bad))
   else
    (if (decide (x1.1.kind=1)) then
     (Z2 k x1.1.text).bind fun x3=>
     some x3
    else
     some false).bind fun x2=>
    if x2 then
     some ((Zb.mk 3 0 x1.1.text []),(Zf.mk x1.2.list (IntKind.i64.wrap (x1.2.at_+1)) x1.2.bad))
    else
     (if (decide (x1.1.kind=1)) then
      (ZM x1.1.text).bind fun x5=>
      some (decide (0≤x5))
     else
      some false).bind fun x4=>
     if x4 then
      (Zs (Zf.mk x1.2.list (IntKind.i64.wrap (x1.2.at_+1)) x1.2.bad) (⟨#[40]⟩:ByteArray)).bind fun x6=>
      (Yq k x6 (⟨#[41]⟩:ByteArray)).bind fun x7=>
      some ((Zb.mk 5 0 x1.1.text x7.1),x7.2)
     else
      (Zk x1.2 (⟨#[91]⟩:ByteArray)).bind fun x8=>
      if x8.1 then
       (Yq k x8.2 (⟨#[93]⟩:ByteArray)).bind fun x9=>
       some ((Zb.mk 4 0 (⟨#[]⟩:ByteArray) x9.1),x9.2)
      else
       (Zk x8.2 (⟨#[40]⟩:ByteArray)).bind fun x10=>
       if x10.1 then
        (Zm k x10.2).bind fun x11=>
        (Zs x11.2 (⟨#[41]⟩:ByteArray)).bind fun x12=>
        some (x11.1,x12)
       else
        (Yt x10.2).bind fun x13=>
        some (x13.1,x13.2)
def Zv:Nat→Zf→Option (Zb×Zf)
 | 0,_=>none
 | k+1,a0=>
  (Zx k a0).bind fun x1=>
  (Z1 (Zx k) k x1.2.list x1.2.at_ x1.2.bad x1.1.kind x1.1.n x1.1.text x1.1.args).bind fun (x2,x3,x4,x5,x6,x7,x8)=>
  some ((Zb.mk x2 x3 x4 x5),(Zf.mk x6 x7 x8))
def ZU:Nat→Zf→Option (Zb×Zf)
 | 0,_=>none
 | k+1,a0=>
  (Zv k a0).bind fun x1=>
  (YJ (Zv k) k x1.2.list x1.2.at_ x1.2.bad x1.1.kind x1.1.n x1.1.text x1.1.args).bind fun (x2,x3,x4,x5,x6,x7,x8)=>
  some ((Zb.mk x2 x3 x4 x5),(Zf.mk x6 x7 x8))
def Zm:Nat→Zf→Option (Zb×Zf)
 | 0,_=>none
 | k+1,a0=>
  (ZE a0).bind fun x1=>
  (Yz x1.1 (⟨#[108,101,116]⟩:ByteArray)).bind fun x2=>
  if x2 then
   (Ys k (Zf.mk x1.2.list (IntKind.i64.wrap (x1.2.at_+1)) x1.2.bad)).bind fun x3=>
   (Zs x3.2 (⟨#[61]⟩:ByteArray)).bind fun x4=>
   (Zm k x4).bind fun x5=>
   (Wq 56 ([]:List Zb) [x5.1]).bind fun x6=>
   (Zs x5.2 (⟨#[105,110]⟩:ByteArray)).bind fun x7=>
   (Zm k x7).bind fun x8=>
   (Wq 56 x6 [x8.1]).bind fun x9=>
   some ((Zb.mk 7 0 x3.1 x9),x8.2)
  else
   (ZE x1.2).bind fun x10=>
   (Yz x10.1 (⟨#[105,102]⟩:ByteArray)).bind fun x11=>
   if x11 then
    (Zm k (Zf.mk x10.2.list (IntKind.i64.wrap (x10.2.at_+1)) x10.2.bad)).bind fun x12=>
    (Wq 56 ([]:List Zb) [x12.1]).bind fun x13=>
    (Zs x12.2 (⟨#[116,104,101,110]⟩:ByteArray)).bind fun x14=>
    (Zm k x14).bind fun x15=>
    (Wq 56 x13 [x15.1]).bind fun x16=>
    (Zs x15.2 (⟨#[101,108,115,101]⟩:ByteArray)).bind fun x17=>
    (Zm k x17).bind fun x18=>
    (Wq 56 x16 [x18.1]).bind fun x19=>
    some ((Zb.mk 8 0 (⟨#[]⟩:ByteArray) x19),x18.2)
   else
    (ZE x10.2).bind fun x20=>
    (Yz x20.1 (⟨#[102,111,114]⟩:ByteArray)).bind fun x21=>
    if x21 then
     (Ys k (Zf.mk x20.2.list (IntKind.i64.wrap (x20.2.at_+1)) x20.2.bad)).bind fun x22=>
     (Zs x22.2 (⟨#[105,110]⟩:ByteArray)).bind fun x23=>
     (Zm k x23).bind fun x24=>
     (Wq 56 ([]:List Zb) [x24.1]).bind fun x25=>
     (Zs x24.2 (⟨#[100,111]⟩:ByteArray)).bind fun x26=>
     (Zm k x26).bind fun x27=>
     (Wq 56 x25 [x27.1]).bind fun x28=>
     some ((Zb.mk 9 0 x22.1 x28),x27.2)
    else
     (ZU k x20.2).bind fun x29=>
     (Yd (ZU k) x29 k x29.2.list x29.2.at_ x29.2.bad 0:Option (((List Zi)×Int×Int) ⊕ (Zb×Zf))).bind fun
      | .inl (x30,x31,x32)=>(
       some (x29.1,(Zf.mk x30 x31 x32)))
      | .inr z41=>(
       some z41)
end
def YW (rec_i_NodeCount:Zb→Option Int) (a0:Zb):Nat→Int→Int→Option Int
 | 0,_,_=>none
 | n_+1,x2,x3=>
  if (decide (x3<(a0.args.length:Int))) then
   (at? a0.args x3).bind fun x4=>
   (rec_i_NodeCount x4).bind fun x5=>
   YW rec_i_NodeCount a0 n_ (IntKind.i64.wrap (x2+x5)) (IntKind.i64.wrap (x3+1))
  else
   some x2
def Qz:Nat→Zb→Option Int
 | 0,_=>none
 | k+1,a0=>
  (YW (Qz k) a0 k 1 0).bind fun x1=>
  some x1
def YX (rec_i_NestingOf:Zb→Option Int) (a0:Zb):Nat→Int→Int→Option Int
 | 0,_,_=>none
 | n_+1,x2,x3=>
  if (decide (x3<(a0.args.length:Int))) then
   (at? a0.args x3).bind fun x4=>
   (rec_i_NestingOf x4).bind fun x5=>
   YX rec_i_NestingOf a0 n_ (if x5>x2 then x5 else x2) (IntKind.i64.wrap (x3+1))
  else
   some x2
def Qa:Nat→Zb→Option Int
 | 0,_=>none
 | k+1,a0=>
  (YX (Qa k) a0 k 0 0).bind fun x1=>
  some (IntKind.i64.wrap (x1+1))
def Kv (k:Nat) (a0:Zb):Option Bool:=
 if (decide (a0.kind=1)) then
  ((XV a0.n 0 1000000000).bind fun x2=>
  if x2 then
   if (decide (a0.text=(⟨#[]⟩:ByteArray))) then
    some (decide ((a0.args.length:Int)=0))
   else
    some false
  else
   some false).bind fun x1=>
  some x1
 else
  if (decide (a0.kind=2)) then
   (if (decide (a0.n=0)) then
    (XH k a0.text).bind fun x4=>
    if x4 then
     some (decide ((a0.args.length:Int)=0))
    else
     some false
   else
    some false).bind fun x3=>
   some x3
  else
   if (decide (a0.kind=3)) then
    (if (decide (a0.n=0)) then
     (Z2 k a0.text).bind fun x6=>
     if x6 then
      some (decide ((a0.args.length:Int)=0))
     else
      some false
    else
     some false).bind fun x5=>
    some x5
   else
    if (decide (a0.kind=4)) then
     (if (decide (a0.n=0)) then
      if (decide (a0.text=(⟨#[]⟩:ByteArray))) then
       some (decide ((a0.args.length:Int)≤8))
      else
       some false
     else
      some false).bind fun x7=>
     some x7
    else
     if (decide (a0.kind=5)) then
      (if (decide (a0.n=0)) then
       (ZM a0.text).bind fun x9=>
       some (decide ((a0.args.length:Int)=x9))
      else
       some false).bind fun x8=>
      some x8
     else
      if (decide (a0.kind=6)) then
       ((XV a0.n 1 5).bind fun x11=>
       if x11 then
        if (decide (a0.text=(⟨#[]⟩:ByteArray))) then
         some (decide ((a0.args.length:Int)=2))
        else
         some false
       else
        some false).bind fun x10=>
       some x10
      else
       (if (decide (a0.kind=7)) then
        some true
       else
        some (decide (a0.kind=9))).bind fun x12=>
       if x12 then
        (if (decide (a0.n=0)) then
         (Z2 k a0.text).bind fun x14=>
         if x14 then
          some (decide ((a0.args.length:Int)=2))
         else
          some false
        else
         some false).bind fun x13=>
        some x13
       else
        if (decide (a0.kind=8)) then
         (if (decide (a0.n=0)) then
          if (decide (a0.text=(⟨#[]⟩:ByteArray))) then
           some (decide ((a0.args.length:Int)=3))
          else
           some false
         else
          some false).bind fun x15=>
         some x15
        else
         some false
def QV (rec_i_areNodes:Zb→Option Bool) (a0:Zb):Nat→Int→Option (Unit ⊕ Bool)
 | 0,_=>none
 | n_+1,x1=>
  if (decide (x1<(a0.args.length:Int))) then
   (at? a0.args x1).bind fun x2=>
   (rec_i_areNodes x2).bind fun x3=>
   if (!x3) then
    some (.inr false)
   else
    QV rec_i_areNodes a0 n_ (IntKind.i64.wrap (x1+1))
  else
   some (.inl ())
def Y8:Nat→Zb→Option Bool
 | 0,_=>none
 | k+1,a0=>
  (QV (Y8 k) a0 k 0:Option (Unit ⊕ Bool)).bind fun
   | .inl _=>(
    (Kv k a0).bind fun x4=>
    some x4)
   | .inr z5=>(
    some z5)
def WG (k:Nat) (a0:Zb):Option Bool:=
 ((Qz k a0).bind fun x2=>
 if (decide (x2≤40)) then
  (Qa k a0).bind fun x3=>
  if (decide (x3≤8)) then
   (Y8 k a0).bind fun x4=>
   some x4
  else
   some false
 else
  some false).bind fun x1=>
 some x1
end Go.Proofs.YtfapaeabfcogkaaGreatDoor
namespace Go.Proofs.YtfapaeabfcogkaaGreatDoor
open Go.RowKit Am
def Wi (k:Nat) (a0:ByteArray):Option (Zb×Int):=
 (VL k a0).bind fun x1=>
 if (decide (0≤x1.2)) then
  some ((Zb.mk 0 0 (⟨#[]⟩:ByteArray) []),x1.2)
 else
  (Zm k (Zf.mk x1.1 0 (-1))).bind fun x2=>
  ((if (decide (x2.2.bad<0)) then
    some (decide (x2.2.at_<(x1.1.length:Int)))
  else
   some false).bind fun x4=>
  if x4 then
   some x2.2.at_
  else
   some x2.2.bad).bind fun x3=>
  if (decide ((x1.1.length:Int)≤x3)) then
   some ((Zb.mk 0 0 (⟨#[]⟩:ByteArray) []),(a0.size:Int))
  else
   if (decide (0≤x3)) then
    (at? x1.1 x3).bind fun x5=>
    some ((Zb.mk 0 0 (⟨#[]⟩:ByteArray) []),x5.at_)
   else
    (WG k x2.1).bind fun x6=>
    if (!x6) then
     some ((Zb.mk 0 0 (⟨#[]⟩:ByteArray) []),0)
    else
     some (x2.1,(-1))
def Wn (a0:Int):Option Za:=
 some (Za.mk 6 a0 0 (⟨#[]⟩:ByteArray) [] [] [])
def WW (a0:ByteArray) (a1:Int):Option (List ByteArray):=
 (YZ a0 (ZjC [a1])).bind fun x1=>
 some x1
def Yo (x1:List ByteArray):Nat→(List Int)→Int→Option ((List Int) ⊕ ((List Int)×Bool))
 | 0,_,_=>none
 | n_+1,x3,x4=>
  if (decide (x4<(x1.length:Int))) then
   (at? x1 x4).bind fun x5=>
   (ZaF x5 (-1000000000) 1000000000).bind fun x6=>
   if (!x6.2) then
    some (.inr ([],false))
   else
    (Wq 8 x3 [x6.1]).bind fun x7=>
    Yo x1 n_ x7 (IntKind.i64.wrap (x4+1))
  else
   some (.inl x3)
def V3 (k:Nat) (a0:ByteArray) (a1:Int):Option ((List Int)×Bool):=
 (WW a0 32).bind fun x1=>
 (Yo x1 k ([]:List Int) 0:Option ((List Int) ⊕ ((List Int)×Bool))).bind fun
  | .inl x2=>(
   some (x2,(decide ((x2.length:Int)=a1))))
  | .inr z8=>(
   some z8)
def XO (a0:Int):Option Bool:=
 (XV a0 (-1000000000) 1000000000).bind fun x1=>
 some x1
def Qu (a0:List ByteArray) (a1:ByteArray):Nat→Int→Option (Unit ⊕ Int)
 | 0,_=>none
 | n_+1,x1=>
  if (decide (x1<(a0.length:Int))) then
   (at? a0 x1).bind fun x2=>
   if (decide (x2=a1)) then
    some (.inr x1)
   else
    Qu a0 a1 n_ (IntKind.i64.wrap (x1+1))
  else
   some (.inl ())
def ZaK (k:Nat) (a0:List ByteArray) (a1:ByteArray):Option Int:=
 (Qu a0 a1 k 0:Option (Unit ⊕ Int)).bind fun
  | .inl _=>(
   some (-1))
  | .inr z3=>(
   some z3)
def Ye (k:Nat) (a0:List ByteArray):Nat→Int→Option (Unit ⊕ Bool)
 | 0,_=>none
 | n_+1,x1=>
  if (decide (x1<(a0.length:Int))) then
   (at? a0 x1).bind fun x2=>
   (ZaK k a0 x2).bind fun x3=>
   if (!decide (x3=x1)) then
    some (.inr false)
   else
    Ye k a0 n_ (IntKind.i64.wrap (x1+1))
  else
   some (.inl ())
def Vn (k:Nat) (a0:List ByteArray):Option Bool:=
 (Ye k a0 k 0:Option (Unit ⊕ Bool)).bind fun
  | .inl _=>(
   some true)
  | .inr z4=>(
   some z4)
def Y5 (k:Nat) (a0:List ByteArray):Nat→Int→Option (Unit ⊕ Bool)
 | 0,_=>none
 | n_+1,x1=>
  if (decide (x1<(a0.length:Int))) then
   (at? a0 x1).bind fun x2=>
   (Z2 k x2).bind fun x3=>
   if (!x3) then
    some (.inr false)
   else
    Y5 k a0 n_ (IntKind.i64.wrap (x1+1))
  else
   some (.inl ())
def W4 (k:Nat) (a0:List ByteArray):Option Bool:=
 (Y5 k a0 k 0:Option (Unit ⊕ Bool)).bind fun
  | .inl _=>(
   ((XV (a0.length:Int) 1 4).bind fun x5=>
   if x5 then
    (Vn k a0).bind fun x6=>
    some x6
   else
    some false).bind fun x4=>
   some x4)
  | .inr z7=>(
   some z7)
def Q8 (a0:Zc) (a1:Zc):Option Bool:=
 (if (decide (a0.cell<a1.cell)) then
  some true
 else
  if (decide (a0.cell=a1.cell)) then
   some (decide (a0.row<a1.row))
  else
   some false).bind fun x1=>
 some x1
def QU (x4:Zq):Nat→Int→Option (Unit ⊕ Bool)
 | 0,_=>none
 | n_+1,x5=>
  if (decide (x5<(x4.cells.length:Int))) then
   (at? x4.cells x5).bind fun x6=>
   (XO x6).bind fun x7=>
   if (!x7) then
    some (.inr false)
   else
    QU x4 n_ (IntKind.i64.wrap (x5+1))
  else
   some (.inl ())
def QT (x4:Zq):Nat→Int→Option (Unit ⊕ Bool)
 | 0,_=>none
 | n_+1,x8=>
  if (decide (x8<(x4.from_.length:Int))) then
   (at? x4.from_ x8).bind fun x9=>
   (if (decide (x9.cell<0)) then
    some true
   else
    if (decide (x9.row<0)) then
     some true
    else
     if (decide (0<x8)) then
      (at? x4.from_ (IntKind.i64.wrap (x8-1))).bind fun x11=>
      (Q8 x11 x9).bind fun x12=>
      some (!x12)
     else
      some false).bind fun x10=>
   if x10 then
    some (.inr false)
   else
    QT x4 n_ (IntKind.i64.wrap (x8+1))
  else
   some (.inl ())
def Y3 (k:Nat) (a0:Za):Nat→Int→Option (Unit ⊕ Bool)
 | 0,_=>none
 | n_+1,x3=>
  if (decide (x3<(a0.rows.length:Int))) then
   ((at? a0.rows x3).bind fun x4=>
   if (!decide ((x4.cells.length:Int)=(a0.columns.length:Int))) then
    some (.inr false)
   else
    (QU x4 k 0:Option (Unit ⊕ Bool)).bind fun
     | .inl _=>(
      QT x4 k 0)
     | .inr z13=>(
      some (.inr z13)):Option (Unit ⊕ Bool)).bind fun
    | .inl _=>(
     Y3 k a0 n_ (IntKind.i64.wrap (x3+1)))
    | .inr z14=>(
     some (.inr z14))
  else
   some (.inl ())
def ZaG (k:Nat) (a0:Za):Option Bool:=
 ((W4 k a0.columns).bind fun x2=>
 if (!x2) then
  some true
 else
  some (decide (12<(a0.rows.length:Int)))).bind fun x1=>
 if x1 then
  some false
 else
  (Y3 k a0 k 0:Option (Unit ⊕ Bool)).bind fun
   | .inl _=>(
    some true)
   | .inr z15=>(
    some z15)
def Xw (rec_i_DepthOf:Za→Option Int) (a0:Za):Nat→Int→Int→Option Int
 | 0,_,_=>none
 | n_+1,x2,x3=>
  if (decide (x3<(a0.list.length:Int))) then
   (at? a0.list x3).bind fun x4=>
   (rec_i_DepthOf x4).bind fun x5=>
   Xw rec_i_DepthOf a0 n_ (if x5>x2 then x5 else x2) (IntKind.i64.wrap (x3+1))
  else
   some x2
def QW:Nat→Za→Option Int
 | 0,_=>none
 | k+1,a0=>
  (Xw (QW k) a0 k 0 0).bind fun x1=>
  some (IntKind.i64.wrap (x1+1))
def YB (rec_i_IsValidValue:Za→Option Bool) (a0:Za):Nat→Int→Option (Unit ⊕ Bool)
 | 0,_=>none
 | n_+1,x13=>
  if (decide (x13<(a0.list.length:Int))) then
   (at? a0.list x13).bind fun x14=>
   (if (!decide (x14.kind=1)) then
    if (!decide (x14.kind=2)) then
     if (!decide (x14.kind=3)) then
      some true
     else
      (rec_i_IsValidValue x14).bind fun x16=>
      some (!x16)
    else
     (rec_i_IsValidValue x14).bind fun x17=>
     some (!x17)
   else
    (rec_i_IsValidValue x14).bind fun x18=>
    some (!x18)).bind fun x15=>
   if x15 then
    some (.inr false)
   else
    YB rec_i_IsValidValue a0 n_ (IntKind.i64.wrap (x13+1))
  else
   some (.inl ())
def ZF:Nat→Za→Option Bool
 | 0,_=>none
 | k+1,a0=>
  (if (decide ((a0.list.length:Int)=0)) then
   if (decide ((a0.columns.length:Int)=0)) then
    some (decide ((a0.rows.length:Int)=0))
   else
    some false
  else
   some false).bind fun x1=>
  if (decide (a0.kind=1)) then
   (if x1 then
    if (decide (a0.step=0)) then
     if (decide (a0.text=(⟨#[]⟩:ByteArray))) then
      (XO a0.n).bind fun x3=>
      some x3
     else
      some false
    else
     some false
   else
    some false).bind fun x2=>
   some x2
  else
   if (decide (a0.kind=2)) then
    (if x1 then
     if (decide (a0.n=0)) then
      if (decide (a0.step=0)) then
       (XH k a0.text).bind fun x5=>
       some x5
      else
       some false
     else
      some false
    else
     some false).bind fun x4=>
    some x4
   else
    if (decide (a0.kind=4)) then
     (if x1 then
      if (decide (a0.text=(⟨#[]⟩:ByteArray))) then
       (XO a0.n).bind fun x7=>
       if x7 then
        (XO a0.step).bind fun x8=>
        some x8
       else
        some false
      else
       some false
     else
      some false).bind fun x6=>
     some x6
    else
     if (decide (a0.kind=6)) then
      (if x1 then
       if (decide (a0.step=0)) then
        if (decide (a0.text=(⟨#[]⟩:ByteArray))) then
         (XV a0.n 1 8).bind fun x10=>
         some x10
        else
         some false
       else
        some false
      else
       some false).bind fun x9=>
      some x9
     else
      if (decide (a0.kind=5)) then
       (if (decide (a0.n=0)) then
        if (decide (a0.step=0)) then
         if (decide (a0.text=(⟨#[]⟩:ByteArray))) then
          if (decide ((a0.list.length:Int)=0)) then
           (ZaG k a0).bind fun x12=>
           some x12
          else
           some false
         else
          some false
        else
         some false
       else
        some false).bind fun x11=>
       some x11
      else
       if (decide (a0.kind=3)) then
        (YB (ZF k) a0 k 0:Option (Unit ⊕ Bool)).bind fun
         | .inl _=>(
          (if (decide (a0.n=0)) then
           if (decide (a0.step=0)) then
            if (decide (a0.text=(⟨#[]⟩:ByteArray))) then
             if (decide ((a0.columns.length:Int)=0)) then
              if (decide ((a0.rows.length:Int)=0)) then
               if (decide ((a0.list.length:Int)≤8)) then
                (QW k a0).bind fun x20=>
                some (decide (x20≤3))
               else
                some false
              else
               some false
             else
              some false
            else
             some false
           else
            some false
          else
           some false).bind fun x19=>
          some x19)
         | .inr z21=>(
          some z21)
       else
        some false
def YF (k:Nat) (x1:List ByteArray) (x3:List ByteArray):Nat→(List Zq)→Int→Option ((List Zq) ⊕ (Za×Bool))
 | 0,_,_=>none
 | n_+1,x6,x7=>
  if (decide (x7<(((x1.take (x1.length:Int).toNat).drop (1:Int).toNat).length:Int))) then
   (at? ((x1.take (x1.length:Int).toNat).drop (1:Int).toNat) x7).bind fun x8=>
   (V3 k x8 (x3.length:Int)).bind fun x9=>
   if (!x9.2) then
    some (.inr ((Za.mk 0 0 0 (⟨#[]⟩:ByteArray) [] [] []),false))
   else
    (Wq 48 x6 [(Zq.mk x9.1 [])]).bind fun x10=>
    YF k x1 x3 n_ x10 (IntKind.i64.wrap (x7+1))
  else
   some (.inl x6)
def Wj (k:Nat) (a0:ByteArray):Option (Za×Bool):=
 (YZ a0 (⟨#[59,32]⟩:ByteArray)).bind fun x1=>
 (at? x1 0).bind fun x2=>
 (WW x2 32).bind fun x3=>
 ((Zns x1 1 (x1.length:Int)).bind fun x5=>
 YF k x1 x3 k [] 0:Option ((List Zq) ⊕ (Za×Bool))).bind fun
  | .inl x4=>(
   (ZF k (Za.mk 5 0 0 (⟨#[]⟩:ByteArray) [] x3 x4)).bind fun x11=>
   if (!x11) then
    some ((Za.mk 0 0 0 (⟨#[]⟩:ByteArray) [] [] []),false)
   else
    some ((Za.mk 5 0 0 (⟨#[]⟩:ByteArray) [] x3 x4),true))
  | .inr z12=>(
   some z12)
def YG (k:Nat) (x2:List ByteArray) (x4:List ByteArray):Nat→Int→Option (Unit ⊕ Int)
 | 0,_=>none
 | n_+1,x7=>
  if (decide (x7<(((x2.take (x2.length:Int).toNat).drop (1:Int).toNat).length:Int))) then
   (at? ((x2.take (x2.length:Int).toNat).drop (1:Int).toNat) x7).bind fun x8=>
   (V3 k x8 (x4.length:Int)).bind fun x9=>
   (if (!x9.2) then
    some true
   else
    some (decide (12≤x7))).bind fun x10=>
   if x10 then
    some (.inr (IntKind.i64.wrap (x7+1)))
   else
    YG k x2 x4 n_ (IntKind.i64.wrap (x7+1))
  else
   some (.inl ())
def U3 (k:Nat) (a0:ByteArray):Option Int:=
 (Wj k a0).bind fun x1=>
 if x1.2 then
  some (-1)
 else
  (YZ a0 (⟨#[59,32]⟩:ByteArray)).bind fun x2=>
  (at? x2 0).bind fun x3=>
  (WW x3 32).bind fun x4=>
  (W4 k x4).bind fun x5=>
  if (!x5) then
   some 0
  else
   ((Zns x2 1 (x2.length:Int)).bind fun x6=>
   YG k x2 x4 k 0:Option (Unit ⊕ Int)).bind fun
    | .inl _=>(
     some (-1))
    | .inr z11=>(
     some z11)
end Go.Proofs.YtfapaeabfcogkaaGreatDoor
namespace Go.Proofs.YtfapaeabfcogkaaGreatDoor
open Go.RowKit Am
def JZ (a0:Zq):Option Zq:=
 (Wq 8 ([]:List Int) a0.cells).bind fun x1=>
 (Wq 16 ([]:List Zc) a0.from_).bind fun x2=>
 some (Zq.mk x1 x2)
def Y4 (rec_i_copyValue:Za→Option Za) (a0:List Za):Nat→(List Za)→Int→Option (List Za)
 | 0,_,_=>none
 | n_+1,x2,x3=>
  if (decide (x3<(a0.length:Int))) then
   (at? a0 x3).bind fun x4=>
   (rec_i_copyValue x4).bind fun x5=>
   (Wq 112 x2 [x5]).bind fun x6=>
   Y4 rec_i_copyValue a0 n_ x6 (IntKind.i64.wrap (x3+1))
  else
   some x2
def Qt (a0:Za):Nat→(List Zq)→Int→Option (List Zq)
 | 0,_,_=>none
 | n_+1,x4,x5=>
  if (decide (x5<(a0.rows.length:Int))) then
   (at? a0.rows x5).bind fun x6=>
   (JZ x6).bind fun x7=>
   (Wq 48 x4 [x7]).bind fun x8=>
   Qt a0 n_ x8 (IntKind.i64.wrap (x5+1))
  else
   some x4
mutual
def W3:Nat→(List Za)→Option (List Za)
 | 0,_=>none
 | k+1,a0=>
  (Y4 (YK k) a0 k ([]:List Za) 0).bind fun x1=>
  some x1
def YK:Nat→Za→Option Za
 | 0,_=>none
 | k+1,a0=>
  (W3 k a0.list).bind fun x1=>
  (Wq 16 ([]:List ByteArray) a0.columns).bind fun x2=>
  (Qt a0 k [] 0).bind fun x3=>
  some (Za.mk a0.kind a0.n a0.step a0.text x1 x2 x3)
end
def Yu (a0:Int) (x4:Za):Nat→(List Zq)→Int→Option (List Zq)
 | 0,_,_=>none
 | n_+1,x6,x7=>
  if (decide (x7<(x4.rows.length:Int))) then
   (at? x6 x7).bind fun x8=>
   Yu a0 x4 n_ (x6.set x7.toNat (Zq.mk x8.cells [(Zc.mk a0 x7)])) (IntKind.i64.wrap (x7+1))
  else
   some x6
def Vl (k:Nat) (a0:Int) (a1:Za):Option Za:=
 (if (!decide (a1.kind=5)) then
  some true
 else
  (ZF k a1).bind fun x2=>
  if (!x2) then
   some true
  else
   some (decide (a0<0))).bind fun x1=>
 if x1 then
  (Wn 4).bind fun x3=>
  some x3
 else
  (YK k a1).bind fun x4=>
  (Yu a0 x4 k x4.rows 0).bind fun x5=>
  some (Za.mk x4.kind x4.n x4.step x4.text x4.list x4.columns x5)
def Yv (k:Nat) (a0:Zj):Option ZB:=
 (Qi k a0).bind fun x1=>
 if (!x1) then
  some (ZB.mk 0 (⟨#[]⟩:ByteArray) (Zb.mk 0 0 (⟨#[]⟩:ByteArray) []) (Za.mk 0 0 0 (⟨#[]⟩:ByteArray) [] [] []) 0)
 else
  if (decide (a0.kind=1)) then
   some (ZB.mk 1 (⟨#[]⟩:ByteArray) (Zb.mk 0 0 (⟨#[]⟩:ByteArray) []) (Za.mk 0 0 0 (⟨#[]⟩:ByteArray) [] [] []) 0)
  else
   if (decide (a0.kind=3)) then
    (Kz a0.n).bind fun x2=>
    some (ZB.mk 3 a0.name (Zb.mk 0 0 (⟨#[]⟩:ByteArray) []) x2 0)
   else
    if (decide (a0.kind=2)) then
     (Wi k a0.code).bind fun x3=>
     if (decide (0≤x3.2)) then
      (Wn 8).bind fun x4=>
      some (ZB.mk 4 a0.name (Zb.mk 0 0 (⟨#[]⟩:ByteArray) []) x4 x3.2)
     else
      some (ZB.mk 2 a0.name x3.1 (Za.mk 0 0 0 (⟨#[]⟩:ByteArray) [] [] []) 0)
    else
     (Wj k a0.code).bind fun x5=>
     if (!x5.2) then
      (Wn 8).bind fun x6=>
      (U3 k a0.code).bind fun x7=>
      some (ZB.mk 4 a0.name (Zb.mk 0 0 (⟨#[]⟩:ByteArray) []) x6 x7)
     else
      (Vl k a0.id x5.1).bind fun x8=>
      some (ZB.mk 3 a0.name (Zb.mk 0 0 (⟨#[]⟩:ByteArray) []) x8 0)
def Y6 (k:Nat) (a0:Ze):Nat→(List ZB)→Int→Option (List ZB)
 | 0,_,_=>none
 | n_+1,x3,x4=>
  if (decide (x4<(a0.cells.length:Int))) then
   (at? a0.cells x4).bind fun x5=>
   (Yv k x5).bind fun x6=>
   (Wq 200 x3 [x6]).bind fun x7=>
   Y6 k a0 n_ x7 (IntKind.i64.wrap (x4+1))
  else
   some x3
def V5 (k:Nat) (a0:Ze):Option (List ZB):=
 (Xf k a0).bind fun x1=>
 if (!x1) then
  some []
 else
  (Y6 k a0 k ([]:List ZB) 0).bind fun x2=>
  some x2
def QX (a0:List ZB) (a1:ByteArray):Nat→(List Int)→Int→Option (List Int)
 | 0,_,_=>none
 | n_+1,x2,x3=>
  if (decide (x3<(a0.length:Int))) then
   ((at? a0 x3).bind fun x5=>
   (if (!decide (x5.kind=1)) then
    some (decide (x5.name=a1))
   else
    some false).bind fun x6=>
   if x6 then
    (Wq 8 x2 [x3]).bind fun x7=>
    some x7
   else
    some x2).bind fun x4=>
   QX a0 a1 n_ x4 (IntKind.i64.wrap (x3+1))
  else
   some x2
def J5 (k:Nat) (a0:List ZB) (a1:ByteArray):Option (List Int):=
 (QX a0 a1 k ([]:List Int) 0).bind fun x1=>
 some x1
def ZaH (k:Nat) (a0:List ZB) (a1:ByteArray):Option Int:=
 (J5 k a0 a1).bind fun x1=>
 if (decide ((x1.length:Int)=0)) then
  some (-1)
 else
  if (decide ((x1.length:Int)=1)) then
   (at? x1 0).bind fun x2=>
   some x2
  else
   some (-2)
def Wk (k:Nat) (a0:List ZB) (a1:List Za) (a2:ByteArray):Option Za:=
 (ZaH k a0 a2).bind fun x1=>
 if (decide (x1=(-2))) then
  (Wn 2).bind fun x2=>
  some x2
 else
  (if (decide (x1<0)) then
   some true
  else
   some (decide ((a1.length:Int)≤x1))).bind fun x3=>
  if x3 then
   (Wn 1).bind fun x4=>
   some x4
  else
   (at? a1 x1).bind fun x5=>
   (YK k x5).bind fun x6=>
   some x6
def WE (k:Nat) (a0:Ze) (a1:Qf) (a2:ByteArray):Option Za:=
 (V5 k a0).bind fun x1=>
 (Wk k x1 a1.values a2).bind fun x2=>
 some x2
end Go.Proofs.YtfapaeabfcogkaaGreatDoor
namespace Go.Proofs
open Go.Shelf
def Tryz.Zjo:Go.Shelf.Ren:=⟨fun | 137=>315| 217=>336| 266=>357| n=>n,fun | 9=>9| 5=>5| 3=>3| n=>n,fun | n=>n⟩
theorem Tryz.ZpH:Go.Proofs.Lays.n137 Tryz.prog Tryz.Zjo:={
 mixed:=by kernel_rfl
 f137:=Tryz.func315.trans (congrArg some (by kernel_rfl))
 f217:=Tryz.func336.trans (congrArg some (by kernel_rfl))
 f266:=Tryz.func357.trans (congrArg some (by kernel_rfl))
 t3:=Tryz.underlying3
 a3:=Tryz.isAgg3
 z3:=Tryz.sizeOf3
 v3:=Tryz.zeroValue3
 t5:=Tryz.underlying5
 a5:=Tryz.isAgg5
 z5:=Tryz.sizeOf5
 v5:=Tryz.zeroValue5
 t9:=Tryz.underlying9
 a9:=Tryz.isAgg9
 z9:=Tryz.sizeOf9
 v9:=Tryz.zeroValue9}
open Go.RowKit in
theorem Tryz.strings_IndexByte (s:ByteArray) (c:Int) (w:World):
  Calls Tryz.prog 315 #[.string s,.int .u8 c] w fun e w'=>e= .returned (.int .i64 (Lib.indexByte s.data.toList c.toNat.toUInt8))∧w'=w:=Any.strings_IndexByte Tryz.ZpH s c w
def Tryz.ZpF:Go.Shelf.Ren:=⟨fun | 172=>323| 244=>343| 245=>344| 247=>363| 279=>364| 280=>365| 281=>366| 282=>367| 287=>377| 316=>378| 171=>324| 205=>379| 321=>385| 322=>386| 243=>345| 246=>368| 283=>380| 284=>381| 285=>382| 286=>383| 129=>295| 317=>387| 318=>388| 319=>389| 320=>390| 337=>391| 338=>392| n=>n,fun | 9=>9| 3=>3| 75=>322| 76=>323| 4=>4| 5=>5| 167=>345| 37=>217| 0=>0| 85=>346| 2=>2| 168=>348| 53=>308| 175=>363| 46=>277| 210=>367| 127=>375| 145=>378| 143=>376| 21=>21| 171=>369| 173=>371| 212=>380| 51=>306| 20=>20| 213=>381| 232=>382| 233=>383| 80=>293| n=>n,fun | 15=>3| 16=>4| 17=>5| 18=>6| 19=>7| n=>n⟩
def Tryz.ZoI:Go.Shelf.Ren:=⟨fun | 246=>368| 283=>380| 284=>381| 285=>382| 286=>383| 129=>295| 317=>387| 318=>388| 319=>389| 320=>390| 337=>391| 338=>392| n=>n,fun | 2=>2| 3=>3| 9=>9| 4=>4| 171=>369| 0=>0| 53=>308| 37=>217| 5=>5| 173=>371| 212=>380| 51=>306| 20=>20| 213=>381| 46=>277| 232=>382| 233=>383| n=>n,fun | 17=>5| 18=>6| 19=>7| n=>n⟩
def Tryz.ZoJ:Go.Shelf.Ren:=⟨fun | 243=>345| 246=>368| 283=>380| 284=>381| 285=>382| 286=>383| 129=>295| 317=>387| 318=>388| 319=>389| 320=>390| 337=>391| 338=>392| n=>n,fun | 3=>3| 9=>9| 2=>2| 4=>4| 171=>369| 0=>0| 53=>308| 37=>217| 5=>5| 173=>371| 212=>380| 51=>306| 20=>20| 213=>381| 46=>277| 232=>382| 233=>383| n=>n,fun | 17=>5| 18=>6| 19=>7| n=>n⟩
def Tryz.Zih:Go.Shelf.Ren:=⟨fun | 171=>324| 243=>345| 246=>368| 283=>380| 284=>381| 285=>382| 286=>383| 129=>295| 317=>387| 318=>388| 319=>389| 320=>390| 337=>391| 338=>392| n=>n,fun | 3=>3| 9=>9| 2=>2| 4=>4| 171=>369| 0=>0| 53=>308| 37=>217| 5=>5| 173=>371| 212=>380| 51=>306| 20=>20| 213=>381| 46=>277| 232=>382| 233=>383| n=>n,fun | 17=>5| 18=>6| 19=>7| n=>n⟩
theorem Tryz.ZnS:Go.Proofs.LaysM.n171 Tryz.prog Tryz.Zih:={
 mixed:=by kernel_rfl
 f129:=Tryz.func295.trans (congrArg some (by kernel_rfl))
 f171:=Tryz.func324.trans (congrArg some (by kernel_rfl))
 f243:=Tryz.func345.trans (congrArg some (by kernel_rfl))
 f246:=Tryz.func368.trans (congrArg some (by kernel_rfl))
 f283:=Tryz.func380.trans (congrArg some (by kernel_rfl))
 f284:=Tryz.func381.trans (congrArg some (by kernel_rfl))
 f285:=Tryz.func382.trans (congrArg some (by kernel_rfl))
 f286:=Tryz.func383.trans (congrArg some (by kernel_rfl))
 f317:=Tryz.func387.trans (congrArg some (by kernel_rfl))
 f318:=Tryz.func388.trans (congrArg some (by kernel_rfl))
 f319:=Tryz.func389.trans (congrArg some (by kernel_rfl))
 f320:=Tryz.func390.trans (congrArg some (by kernel_rfl))
 f337:=Tryz.func391.trans (congrArg some (by kernel_rfl))
 f338:=Tryz.func392.trans (congrArg some (by kernel_rfl))
 t0:=Tryz.underlying0
 a0:=Tryz.isAgg0
 z0:=Tryz.sizeOf0
 v0:=Tryz.zeroValue0
 t2:=Tryz.underlying2
 a2:=Tryz.isAgg2
 z2:=Tryz.sizeOf2
 v2:=Tryz.zeroValue2
 t3:=Tryz.underlying3
 a3:=Tryz.isAgg3
 z3:=Tryz.sizeOf3
 v3:=Tryz.zeroValue3
 t4:=Tryz.underlying4
 a4:=Tryz.isAgg4
 z4:=Tryz.sizeOf4
 v4:=Tryz.zeroValue4
 t5:=Tryz.underlying5
 a5:=Tryz.isAgg5
 z5:=Tryz.sizeOf5
 v5:=Tryz.zeroValue5
 t9:=Tryz.underlying9
 a9:=Tryz.isAgg9
 z9:=Tryz.sizeOf9
 v9:=Tryz.zeroValue9
 t20:=Tryz.underlying20
 a20:=Tryz.isAgg20
 z20:=Tryz.sizeOf20
 v20:=Tryz.zeroValue20
 t37:=Tryz.underlying217
 a37:=Tryz.isAgg217
 z37:=Tryz.sizeOf217
 v37:=Tryz.zeroValue217
 t46:=Tryz.underlying277
 a46:=Tryz.isAgg277
 z46:=Tryz.sizeOf277
 v46:=Tryz.zeroValue277
 t51:=Tryz.underlying306
 a51:=Tryz.isAgg306
 z51:=Tryz.sizeOf306
 v51:=Tryz.zeroValue306
 t53:=Tryz.underlying308
 a53:=Tryz.isAgg308
 z53:=Tryz.sizeOf308
 v53:=Tryz.zeroValue308
 t171:=Tryz.underlying369
 a171:=Tryz.isAgg369
 z171:=Tryz.sizeOf369
 v171:=Tryz.zeroValue369
 t173:=Tryz.underlying371
 a173:=Tryz.isAgg371
 z173:=Tryz.sizeOf371
 v173:=Tryz.zeroValue371
 t212:=Tryz.underlying380
 a212:=Tryz.isAgg380
 z212:=Tryz.sizeOf380
 v212:=Tryz.zeroValue380
 t213:=Tryz.underlying381
 a213:=Tryz.isAgg381
 z213:=Tryz.sizeOf381
 t232:=Tryz.underlying382
 a232:=Tryz.isAgg382
 z232:=Tryz.sizeOf382
 v232:=Tryz.zeroValue382
 t233:=Tryz.underlying383
 a233:=Tryz.isAgg383
 z233:=Tryz.sizeOf383
 v233:=Tryz.zeroValue383
 g17:=by kernel_rfl
 g18:=by kernel_rfl
 g19:=by kernel_rfl
 i0:=by kernel_rfl
 i2:=by kernel_rfl
 i3:=by kernel_rfl
 i4:=by kernel_rfl
 i5:=by kernel_rfl
 i9:=by kernel_rfl
 i20:=by kernel_rfl
 i37:=by kernel_rfl
 i46:=by kernel_rfl
 i51:=by kernel_rfl
 i53:=by kernel_rfl
 i171:=by kernel_rfl
 i173:=by kernel_rfl
 i212:=by kernel_rfl
 i232:=by kernel_rfl
 i233:=by kernel_rfl
 m17:=by kernel_rfl
 m18:=by kernel_rfl
 m19:=by kernel_rfl}
open Go.RowKit Go.Sort Go.Lib in
theorem Tryz.strconv_Itoa (n:Int) (h0: -9223372036854775808≤n) (h1:n≤9223372036854775807) (w:World) (htab:Lib.TabIs Tryz.prog w "internal/strconv.uint64pow10" .u64 Lib.pow10Tab):
  Calls Tryz.prog 324 #[.int .i64 n] w fun e w'=>e= .returned (.string ⟨(Lib.itoa n).toArray⟩)∧∃k os,w'=grow (w.drewN k) os:=Any.strconv_Itoa Tryz.ZnS n h0 h1 w htab
def Tryz.Zii:Go.Shelf.Ren:=⟨fun | 172=>323| 244=>343| 245=>344| 247=>363| 279=>364| 280=>365| 281=>366| 282=>367| 287=>377| 316=>378| 171=>324| 205=>379| 321=>385| 322=>386| 243=>345| 246=>368| 283=>380| 284=>381| 285=>382| 286=>383| 129=>295| 317=>387| 318=>388| 319=>389| 320=>390| 337=>391| 338=>392| n=>n,fun | 9=>9| 3=>3| 75=>322| 76=>323| 4=>4| 5=>5| 167=>345| 37=>217| 0=>0| 85=>346| 2=>2| 168=>348| 53=>308| 175=>363| 46=>277| 210=>367| 127=>375| 145=>378| 143=>376| 21=>21| 171=>369| 173=>371| 212=>380| 51=>306| 20=>20| 213=>381| 232=>382| 233=>383| 80=>293| n=>n,fun | 15=>3| 16=>4| 17=>5| 18=>6| 19=>7| n=>n⟩
theorem Tryz.Zg5:Go.Proofs.LaysC.n172 Tryz.prog Tryz.Zii:={
 mixed:=by kernel_rfl
 f129:=Tryz.func295.trans (congrArg some (by kernel_rfl))
 f171:=Tryz.func324.trans (congrArg some (by kernel_rfl))
 f172:=Tryz.func323.trans (congrArg some (by kernel_rfl))
 f205:=Tryz.func379.trans (congrArg some (by kernel_rfl))
 f243:=Tryz.func345.trans (congrArg some (by kernel_rfl))
 f244:=Tryz.func343.trans (congrArg some (by kernel_rfl))
 f245:=Tryz.func344.trans (congrArg some (by kernel_rfl))
 f246:=Tryz.func368.trans (congrArg some (by kernel_rfl))
 f247:=Tryz.func363.trans (congrArg some (by kernel_rfl))
 f279:=Tryz.func364.trans (congrArg some (by kernel_rfl))
 f280:=Tryz.func365.trans (congrArg some (by kernel_rfl))
 f281:=Tryz.func366.trans (congrArg some (by kernel_rfl))
 f282:=Tryz.func367.trans (congrArg some (by kernel_rfl))
 f283:=Tryz.func380.trans (congrArg some (by kernel_rfl))
 f284:=Tryz.func381.trans (congrArg some (by kernel_rfl))
 f285:=Tryz.func382.trans (congrArg some (by kernel_rfl))
 f286:=Tryz.func383.trans (congrArg some (by kernel_rfl))
 f287:=Tryz.func377.trans (congrArg some (by kernel_rfl))
 f316:=Tryz.func378.trans (congrArg some (by kernel_rfl))
 f317:=Tryz.func387.trans (congrArg some (by kernel_rfl))
 f318:=Tryz.func388.trans (congrArg some (by kernel_rfl))
 f319:=Tryz.func389.trans (congrArg some (by kernel_rfl))
 f320:=Tryz.func390.trans (congrArg some (by kernel_rfl))
 f321:=Tryz.func385.trans (congrArg some (by kernel_rfl))
 f322:=Tryz.func386.trans (congrArg some (by kernel_rfl))
 f337:=Tryz.func391.trans (congrArg some (by kernel_rfl))
 f338:=Tryz.func392.trans (congrArg some (by kernel_rfl))
 t0:=Tryz.underlying0
 a0:=Tryz.isAgg0
 z0:=Tryz.sizeOf0
 v0:=Tryz.zeroValue0
 t2:=Tryz.underlying2
 a2:=Tryz.isAgg2
 z2:=Tryz.sizeOf2
 v2:=Tryz.zeroValue2
 t3:=Tryz.underlying3
 a3:=Tryz.isAgg3
 z3:=Tryz.sizeOf3
 v3:=Tryz.zeroValue3
 t4:=Tryz.underlying4
 a4:=Tryz.isAgg4
 z4:=Tryz.sizeOf4
 v4:=Tryz.zeroValue4
 t5:=Tryz.underlying5
 a5:=Tryz.isAgg5
 z5:=Tryz.sizeOf5
 v5:=Tryz.zeroValue5
 t9:=Tryz.underlying9
 a9:=Tryz.isAgg9
 z9:=Tryz.sizeOf9
 v9:=Tryz.zeroValue9
 t20:=Tryz.underlying20
 a20:=Tryz.isAgg20
 z20:=Tryz.sizeOf20
 v20:=Tryz.zeroValue20
 t21:=Tryz.underlying21
 a21:=Tryz.isAgg21
 z21:=Tryz.sizeOf21
 v21:=Tryz.zeroValue21
 t37:=Tryz.underlying217
 a37:=Tryz.isAgg217
 z37:=Tryz.sizeOf217
 v37:=Tryz.zeroValue217
 t46:=Tryz.underlying277
 a46:=Tryz.isAgg277
 z46:=Tryz.sizeOf277
 v46:=Tryz.zeroValue277
 t51:=Tryz.underlying306
 a51:=Tryz.isAgg306
 z51:=Tryz.sizeOf306
 v51:=Tryz.zeroValue306
 t53:=Tryz.underlying308
 a53:=Tryz.isAgg308
 z53:=Tryz.sizeOf308
 v53:=Tryz.zeroValue308
 t75:=Tryz.underlying322
 a75:=Tryz.isAgg322
 z75:=Tryz.sizeOf322
 v75:=Tryz.zeroValue322
 t76:=Tryz.underlying323
 a76:=Tryz.isAgg323
 z76:=Tryz.sizeOf323
 v76:=Tryz.zeroValue323
 t85:=Tryz.underlying346
 a85:=Tryz.isAgg346
 z85:=Tryz.sizeOf346
 v85:=Tryz.zeroValue346
 t127:=Tryz.underlying375
 a127:=Tryz.isAgg375
 z127:=Tryz.sizeOf375
 v127:=Tryz.zeroValue375
 t143:=Tryz.underlying376
 a143:=Tryz.isAgg376
 z143:=Tryz.sizeOf376
 v143:=Tryz.zeroValue376
 t145:=Tryz.underlying378
 a145:=Tryz.isAgg378
 z145:=Tryz.sizeOf378
 v145:=Tryz.zeroValue378
 t167:=Tryz.underlying345
 a167:=Tryz.isAgg345
 z167:=Tryz.sizeOf345
 v167:=Tryz.zeroValue345
 t168:=Tryz.underlying348
 a168:=Tryz.isAgg348
 z168:=Tryz.sizeOf348
 v168:=Tryz.zeroValue348
 t171:=Tryz.underlying369
 a171:=Tryz.isAgg369
 z171:=Tryz.sizeOf369
 v171:=Tryz.zeroValue369
 t173:=Tryz.underlying371
 a173:=Tryz.isAgg371
 z173:=Tryz.sizeOf371
 v173:=Tryz.zeroValue371
 t175:=Tryz.underlying363
 a175:=Tryz.isAgg363
 z175:=Tryz.sizeOf363
 v175:=Tryz.zeroValue363
 t210:=Tryz.underlying367
 a210:=Tryz.isAgg367
 z210:=Tryz.sizeOf367
 v210:=Tryz.zeroValue367
 t212:=Tryz.underlying380
 a212:=Tryz.isAgg380
 z212:=Tryz.sizeOf380
 v212:=Tryz.zeroValue380
 t213:=Tryz.underlying381
 a213:=Tryz.isAgg381
 z213:=Tryz.sizeOf381
 t232:=Tryz.underlying382
 a232:=Tryz.isAgg382
 z232:=Tryz.sizeOf382
 v232:=Tryz.zeroValue382
 t233:=Tryz.underlying383
 a233:=Tryz.isAgg383
 z233:=Tryz.sizeOf383
 v233:=Tryz.zeroValue383
 g15:=by kernel_rfl
 g16:=by kernel_rfl
 g17:=by kernel_rfl
 g18:=by kernel_rfl
 g19:=by kernel_rfl
 t80:=Tryz.underlying293
 a80:=Tryz.isAgg293
 z80:=Tryz.sizeOf293
 v80:=Tryz.zeroValue293
 i0:=by kernel_rfl
 i2:=by kernel_rfl
 i3:=by kernel_rfl
 i4:=by kernel_rfl
 i5:=by kernel_rfl
 i9:=by kernel_rfl
 i20:=by kernel_rfl
 i21:=by kernel_rfl
 i37:=by kernel_rfl
 i46:=by kernel_rfl
 i51:=by kernel_rfl
 i53:=by kernel_rfl
 i75:=by kernel_rfl
 i76:=by kernel_rfl
 i80:=by kernel_rfl
 i85:=by kernel_rfl
 i127:=by kernel_rfl
 i143:=by kernel_rfl
 i145:=by kernel_rfl
 i167:=by kernel_rfl
 i168:=by kernel_rfl
 i171:=by kernel_rfl
 i173:=by kernel_rfl
 i175:=by kernel_rfl
 i210:=by kernel_rfl
 i212:=by kernel_rfl
 i232:=by kernel_rfl
 i233:=by kernel_rfl
 m15:=by kernel_rfl
 m16:=by kernel_rfl
 m17:=by kernel_rfl
 m18:=by kernel_rfl
 m19:=by kernel_rfl
 c0:=by kernel_rfl
 c2:=by kernel_rfl
 c3:=by kernel_rfl
 c4:=by kernel_rfl
 c5:=by kernel_rfl
 c9:=by kernel_rfl
 c20:=by kernel_rfl
 c21:=by kernel_rfl
 c37:=by kernel_rfl
 c46:=by kernel_rfl
 c51:=by kernel_rfl
 c53:=by kernel_rfl
 c75:=by kernel_rfl
 c76:=by kernel_rfl
 c80:=by kernel_rfl
 c85:=by kernel_rfl
 c127:=by kernel_rfl
 c143:=by kernel_rfl
 c145:=by kernel_rfl
 c167:=by kernel_rfl
 c168:=by kernel_rfl
 c171:=by kernel_rfl
 c173:=by kernel_rfl
 c175:=by kernel_rfl
 c210:=by kernel_rfl
 c212:=by kernel_rfl
 c213:=by kernel_rfl
 c232:=by kernel_rfl
 c233:=by kernel_rfl}
open Go.RowKit in
theorem Tryz.strconv_Atoi_ok (s:ByteArray) (hmax:s.size≤9223372036854775806) (v:Int) (h:Lib.atoiAll s.data.toList= .ok v) (w:World):
  Calls Tryz.prog 323 #[.string s] w fun e w'=>e= .returned (.tuple #[.int .i64 v,.nilIface])∧(w'=w∨∃t,w'=Lib.bytesWorld w 5 t):=Any.strconv_Atoi_ok Tryz.Zg5 s hmax v h w
open Go.RowKit in
theorem Tryz.strconv_Atoi_syntax (s:ByteArray) (hlim:s.size≤281474976710656) (h:Lib.atoiAll s.data.toList= .«syntax») (ev:Value) (w:World) (hv:w.cell? ⟨3,0,none⟩=some ev) (hev:ev= .nilIface∨∃te pe,ev= .iface te pe):
  Calls Tryz.prog 323 #[.string s] w fun e w'=>∃N,e= .returned (.tuple #[.int .i64 (0),.iface 348 (.pointer (some ⟨N,0,none⟩))])∧w.heap.size≤N∧w'.heap[N]? =some (.cells #[.string ⟨#[65,116,111,105]⟩,.string s,ev] 367 (0,0))∧Below w.heap.size w w':=Any.strconv_Atoi_syntax Tryz.Zg5 s hlim h ev w hv hev
open Go.RowKit in
theorem Tryz.strconv_Atoi_range (s:ByteArray) (hlim:s.size≤281474976710656) (h:Lib.atoiAll s.data.toList= .range) (ev:Value) (w:World) (hv:w.cell? ⟨4,0,none⟩=some ev) (hev:ev= .nilIface∨∃te pe,ev= .iface te pe):
  Calls Tryz.prog 323 #[.string s] w fun e w'=>∃N,e= .returned (.tuple #[.int .i64 (Lib.atoiSat s.data.toList),.iface 348 (.pointer (some ⟨N,0,none⟩))])∧w.heap.size≤N∧w'.heap[N]? =some (.cells #[.string ⟨#[65,116,111,105]⟩,.string s,ev] 367 (0,0))∧Below w.heap.size w w':=Any.strconv_Atoi_range Tryz.Zg5 s hlim h ev w hv hev
def Tryz.ZpE:Go.Shelf.Ren:=⟨fun | 206=>337| n=>n,fun | 9=>9| 4=>4| 3=>3| n=>n,fun | n=>n⟩
def Tryz.Zld:Go.Shelf.Ren:=⟨fun | 99=>316| 206=>337| n=>n,fun | 9=>9| 4=>4| 3=>3| n=>n,fun | n=>n⟩
theorem Tryz.Zrc:Go.Proofs.Lays.n99 Tryz.prog Tryz.Zld:={
 mixed:=by kernel_rfl
 f99:=Tryz.func316.trans (congrArg some (by kernel_rfl))
 f206:=Tryz.func337.trans (congrArg some (by kernel_rfl))
 t3:=Tryz.underlying3
 a3:=Tryz.isAgg3
 z3:=Tryz.sizeOf3
 v3:=Tryz.zeroValue3
 t4:=Tryz.underlying4
 a4:=Tryz.isAgg4
 z4:=Tryz.sizeOf4
 v4:=Tryz.zeroValue4
 t9:=Tryz.underlying9
 a9:=Tryz.isAgg9
 z9:=Tryz.sizeOf9
 v9:=Tryz.zeroValue9}
open Go.RowKit Go.Lib in
theorem Tryz.strings_HasPrefix (s p:ByteArray) (w:World):
  Calls Tryz.prog 316 #[.string s,.string p] w fun e w'=>e= .returned (.bool (Lib.hasPrefix s.data.toList p.data.toList))∧w'=w:=Any.strings_HasPrefix Tryz.Zrc s p w
def Tryz.ZpD:Go.Shelf.Ren:=⟨fun | 221=>276| 268=>320| 138=>321| 143=>322| 195=>339| 197=>340| 218=>341| 219=>342| 260=>359| 217=>336| 225=>360| 224=>361| 267=>362| 266=>357| 314=>376| n=>n,fun | 9=>9| 3=>3| 31=>32| 4=>4| 0=>0| 105=>332| 21=>21| 5=>5| 46=>277| 119=>357| 139=>360| 138=>359| 146=>361| 51=>306| n=>n,fun | 1=>0| 3=>1| 4=>2| n=>n⟩
def Tryz.Zjn:Go.Shelf.Ren:=⟨fun | 146=>235| 221=>276| 268=>320| 138=>321| 143=>322| 195=>339| 197=>340| 218=>341| 219=>342| 260=>359| 217=>336| 225=>360| 224=>361| 267=>362| 266=>357| 314=>376| n=>n,fun | 9=>9| 31=>32| 3=>3| 4=>4| 0=>0| 105=>332| 21=>21| 5=>5| 46=>277| 119=>357| 139=>360| 138=>359| 146=>361| 51=>306| n=>n,fun | 1=>0| 3=>1| 4=>2| n=>n⟩
theorem Tryz.ZpG:Go.Proofs.Lays.n146 Tryz.prog Tryz.Zjn:={
 mixed:=by kernel_rfl
 f138:=Tryz.func321.trans (congrArg some (by kernel_rfl))
 f143:=Tryz.func322.trans (congrArg some (by kernel_rfl))
 f146:=Tryz.func235.trans (congrArg some (by kernel_rfl))
 f195:=Tryz.func339.trans (congrArg some (by kernel_rfl))
 f197:=Tryz.func340.trans (congrArg some (by kernel_rfl))
 f217:=Tryz.func336.trans (congrArg some (by kernel_rfl))
 f218:=Tryz.func341.trans (congrArg some (by kernel_rfl))
 f219:=Tryz.func342.trans (congrArg some (by kernel_rfl))
 f221:=Tryz.func276.trans (congrArg some (by kernel_rfl))
 f224:=Tryz.func361.trans (congrArg some (by kernel_rfl))
 f225:=Tryz.func360.trans (congrArg some (by kernel_rfl))
 f260:=Tryz.func359.trans (congrArg some (by kernel_rfl))
 f266:=Tryz.func357.trans (congrArg some (by kernel_rfl))
 f267:=Tryz.func362.trans (congrArg some (by kernel_rfl))
 f268:=Tryz.func320.trans (congrArg some (by kernel_rfl))
 f314:=Tryz.func376.trans (congrArg some (by kernel_rfl))
 t0:=Tryz.underlying0
 a0:=Tryz.isAgg0
 z0:=Tryz.sizeOf0
 v0:=Tryz.zeroValue0
 t3:=Tryz.underlying3
 a3:=Tryz.isAgg3
 z3:=Tryz.sizeOf3
 v3:=Tryz.zeroValue3
 t4:=Tryz.underlying4
 a4:=Tryz.isAgg4
 z4:=Tryz.sizeOf4
 v4:=Tryz.zeroValue4
 t5:=Tryz.underlying5
 a5:=Tryz.isAgg5
 z5:=Tryz.sizeOf5
 v5:=Tryz.zeroValue5
 t9:=Tryz.underlying9
 a9:=Tryz.isAgg9
 z9:=Tryz.sizeOf9
 v9:=Tryz.zeroValue9
 t21:=Tryz.underlying21
 a21:=Tryz.isAgg21
 z21:=Tryz.sizeOf21
 v21:=Tryz.zeroValue21
 t31:=Tryz.underlying32
 a31:=Tryz.isAgg32
 z31:=Tryz.sizeOf32
 v31:=Tryz.zeroValue32
 t46:=Tryz.underlying277
 a46:=Tryz.isAgg277
 z46:=Tryz.sizeOf277
 v46:=Tryz.zeroValue277
 t51:=Tryz.underlying306
 a51:=Tryz.isAgg306
 z51:=Tryz.sizeOf306
 v51:=Tryz.zeroValue306
 t105:=Tryz.underlying332
 a105:=Tryz.isAgg332
 z105:=Tryz.sizeOf332
 v105:=Tryz.zeroValue332
 t119:=Tryz.underlying357
 a119:=Tryz.isAgg357
 z119:=Tryz.sizeOf357
 t138:=Tryz.underlying359
 a138:=Tryz.isAgg359
 z138:=Tryz.sizeOf359
 v138:=Tryz.zeroValue359
 t139:=Tryz.underlying360
 a139:=Tryz.isAgg360
 z139:=Tryz.sizeOf360
 v139:=Tryz.zeroValue360
 t146:=Tryz.underlying361
 a146:=Tryz.isAgg361
 z146:=Tryz.sizeOf361
 v146:=Tryz.zeroValue361
 g1:=by kernel_rfl
 g3:=by kernel_rfl
 g4:=by kernel_rfl}
open Go.RowKit Go.Lib in
theorem Tryz.strings_Split (s sep:ByteArray) (m:Int) (w:World) (hs:s.size<4294967281) (hm:w.cell? ⟨0,0,none⟩=some (.int .i64 m)) (h1:1≤sep.size):
  Calls Tryz.prog 235 #[.string s,.string sep] w fun e w'=>
   e= .returned (.slice (some ⟨w.heap.size,0,none⟩) (Lib.countB s sep+1) (Lib.countB s sep+1))∧w'=w.alloc (.cells ((Lib.splitB sep 0 (Lib.countB s sep) s).map Value.string).toArray 9):=Any.strings_Split Tryz.ZpG (by kernel_rfl) s sep m w hs hm h1
end Go.Proofs
namespace Go.Proofs.YtfapaeabfcogkaaGreatDoor
open Go.RowKit Am
theorem Ztq {w:World} {a:DV} {vs:List Value} {F:List Nat} (h:Yl w [a] vs F):∃v F1,vs=[v]∧F=F1∧Uf w a v F1:=by
 simp only [Yl] at h
 obtain ⟨v,_,F1,_,rfl,rfl,h1,rfl,rfl⟩:=h
 exact ⟨v,F1,rfl,by simp,h1⟩
theorem Zpc {N:Nat→Prop} {w:World} {FA:List Nat} {s:ByteArray} (h:s.size≤9223372036854775807):Kq true N w FA [.one (.str s)] [.string s]:=by
 simp only [Kq,if_true,ZaN,Zkr,Ow]
 exact ⟨[],⟨_,[],[],[],rfl,rfl,⟨rfl,rfl,h⟩,rfl,rfl⟩,List.nodup_nil⟩
theorem Zmh {w:World}:∀{zs:List Int} {vs:List Value} {F:List Nat},RpL w (zs.map (L.int .u64)) vs F→vs=zs.map (Value.int .u64)
 | [],_,_,h=>by simp only [List.map_nil,RpL] at h;simp [h.1]
 | z::zs,_,_,h=>by
  simp only [List.map_cons,RpL,Rp] at h
  obtain ⟨v,vs',F1,F2,rfl,rfl,⟨rfl,rfl,_⟩,h2⟩:=h
  simp [Zmh h2]
theorem Zfs {w:World} {k:Nat} {os:Array Obj}:Below w.heap.size w (Sort.grow (w.drewN k) os):=by
 refine ⟨rfl,rfl,rfl, ?_,fun j hj=> ?_⟩
 ·show w.heap.size≤(w.heap++os).size
  simp
 ·show (w.heap++os)[j]? =w.heap[j]?
  rw [Array.getElem?_append_left hj]
theorem ZmL {w:World} {G:Nat→Prop} (h:Glb w G):Lib.TabIs Tryz.prog w "internal/strconv.uint64pow10" .u64 Lib.pow10Tab:=by
 obtain ⟨cur,ty,fz,F,h1,_,h3,_⟩:=h.2.1 (5,Lib.pow10Tab.map (L.int .u64)) (List.mem_of_mem_head? rfl)
 have h4:=Zmh h3
 have hg:Tryz.prog.globalNamed "internal/strconv.uint64pow10"=some 5:=by kernel_rfl
 unfold Lib.TabIs World.var?
 rw [hg,Option.bind_some,h1,←h4]
theorem Je (a0:Int) (r:ByteArray) (hM:ZfE a0=some r):Ctr Tryz.prog 324 [.one (.int .i64 a0)] true [.one (.str r)]:=by
 obtain rfl:=Option.some.inj hM
 refine ⟨by kernel_rfl,fun w vs FA ⟨G,hG⟩ hd=> ?_⟩
 obtain ⟨v,F1,rfl,rfl,h1⟩:=Ztq hd
 simp only [Uf,Rp] at h1
 obtain ⟨rfl,rfl,h2⟩:=h1
 have hb:=(JF a0).1 h2
 refine (Tryz.strconv_Itoa a0 hb.1 hb.2 w (ZmL hG)).mono ?_
 rintro e w' ⟨rfl,k,os,rfl⟩
 have hl:=Lib.itoa_length_le a0 hb.1 hb.2
 exact ⟨[_],rfl,Zpc (by show (Lib.itoa a0).toArray.size≤_;simp;omega),Zfs⟩
theorem Zp4 {w:World} {a b:DV} {vs:List Value} {F:List Nat} (h:Yl w [a,b] vs F):∃v u F1 F2,vs=[v,u]∧F=F1++F2∧Uf w a v F1∧Uf w b u F2:=by
 simp only [Yl] at h
 obtain ⟨v,_,F1,_,rfl,rfl,h1,u,_,F2,_,rfl,rfl,h2,rfl,rfl⟩:=h
 exact ⟨v,u,F1,F2,rfl,by simp,h1,h2⟩
theorem Zf5 {w:World}:∀{zs:List Int},(∀z∈zs,InK .u64 z)→RpL w (zs.map (L.int .u64)) (zs.map (Value.int .u64)) []
 | [],_=>by simp only [List.map_nil,RpL];exact ⟨trivial,trivial⟩
 | z::zs,h=>by
  simp only [List.map_cons,RpL,Rp]
  exact ⟨_,_,[],[],rfl,rfl,⟨rfl,rfl,h z (by simp)⟩,Zf5 fun y hy=>h y (by simp [hy])⟩
def Zna (W:World) (p:Nat×List L):Prop:=∃cur ty fz F,W.heap[p.1]? =some (.cells cur ty fz)∧RpL W p.2 cur.toList F
theorem ZpT {W:World} (h:∀p∈glb,Zna W p) (h2:∀p∈ZpU,∃v,W.cell? ⟨p.1,0,none⟩=some v∧p.2 v):∃G,Glb W G:=
 ⟨fun b=>b<W.heap.size,fun _ h=>h,fun p hp=>by
  obtain ⟨cur,ty,fz,F,h1,h2⟩:=h p hp
  exact ⟨cur,ty,fz,F,h1,XN h1,h2,h2.lt⟩,fun p hp=>by
  obtain ⟨v,h1,h3⟩:=h2 p hp
  exact ⟨v,h1,World.block_lt_of_cell? _ _ h1,h3⟩⟩
theorem ZgF {P:Program} {W:World} {name:String} {g:Nat} {cs:Array Value} (hg:P.globalNamed name=some g) (hv:W.var? P name=some cs):∃ty fz,W.heap[g]? =some (.cells cs ty fz):=by
 unfold World.var? at hv
 rw [hg,Option.bind_some] at hv
 split at hv
 ·rename_i cs' ty fz hh
  obtain rfl:=Option.some.inj hv
  exact ⟨ty,fz,hh⟩
 ·cases hv
def Zss:List L:=Lib.pow10Tab.map (L.int .u64)
theorem ZkV {H:Type} {enc:TypeId×Value→H} {W:World} {base:Nat} {sp:Nat→Bool} {held:Bool} {fuel:Nat} {t e n:Nat} {cs:Array Value} {q:List MemPlace} (ht:Tryz.prog.underlying t=some (.array n e)) (he:Tryz.prog.underlying e=some (.int .u64)) (hce:Tryz.prog.cellsOf e=1) (hct:Tryz.prog.cellsOf t=n)
  (hg:Tryz.prog.globalNamed "internal/strconv.uint64pow10"=some 5) (hv:W.var? Tryz.prog "internal/strconv.uint64pow10"=some cs) (hd:DataW.trod enc Tryz.prog W base sp held fuel t cs.toList=some (Rows.laid_internal_strconv_uint64pow10,q)):Zna W (5,Zss):=by
 have ed:(Rows.laid_internal_strconv_uint64pow10:DataW H)=Lib.tabData .u64 Lib.pow10Tab:=rfl
 rw [ed] at hd
 have ec:=Lib.cells_of_tab ht he hce hct hd
 obtain ⟨ty,fz,hh⟩:=ZgF hg hv
 refine ⟨_,_,_,[],hh, ?_⟩
 rw [ec]
 exact Zf5 (by unfold InK;decide)
instance:HC 324 (Ty @Je):=⟨Je⟩
end Go.Proofs.YtfapaeabfcogkaaGreatDoor
namespace Go.Proofs.YtfapaeabfcogkaaGreatDoor
open Go.RowKit Am
theorem Zny {N:Nat→Prop} {w:World} {FA:List Nat} {b:Bool}:Kq true N w FA [.one (.bool b)] [.bool b]:=by
 simp only [Kq,if_true,ZaN,Zkr,Ow]
 exact ⟨[],⟨_,[],[],[],rfl,rfl,⟨rfl,rfl⟩,rfl,rfl⟩,List.nodup_nil⟩
theorem Zpd {N:Nat→Prop} {w:World} {FA:List Nat} {n:Int} (h:InK .i64 n):Kq true N w FA [.one (.int .i64 n)] [.int .i64 n]:=by
 simp only [Kq,if_true,ZaN,Zkr,Ow]
 exact ⟨[],⟨_,[],[],[],rfl,rfl,⟨rfl,rfl,h⟩,rfl,rfl⟩,List.nodup_nil⟩
theorem Zh4 {N:Nat→Prop} {w:World} {FA:List Nat} {n:Int} {b:Bool} (h:InK .i64 n):Kq true N w FA [.one (.int .i64 n),.one (.bool b)] [.int .i64 n,.bool b]:=by
 simp only [Kq,if_true,ZaN,Zkr,Ow]
 exact ⟨[],⟨_,_,[],[],rfl,rfl,⟨rfl,rfl,h⟩,_,_,[],[],rfl,rfl,⟨rfl,rfl⟩,rfl,rfl⟩,List.nodup_nil⟩
theorem Xz (a0 a1:ByteArray) (r:Bool) (hM:Yx a0 a1=some r):Ctr Tryz.prog 316 [.one (.str a0),.one (.str a1)] true [.one (.bool r)]:=by
 obtain rfl:=Option.some.inj hM
 refine ⟨by kernel_rfl,fun w vs FA _ hd=> ?_⟩
 obtain ⟨v,u,F1,F2,rfl,rfl,h1,h2⟩:=Zp4 hd
 simp only [Uf,Rp] at h1 h2
 obtain ⟨rfl,rfl,_⟩:=h1
 obtain ⟨rfl,rfl,_⟩:=h2
 refine (Tryz.strings_HasPrefix a0 a1 w).mono ?_
 rintro e w' ⟨rfl,rfl⟩
 exact ⟨[_],rfl,Zny,Below.refl _ _⟩
theorem Zkf (c:UInt8):∀l:List UInt8,Lib.indexByte l c≤l.length
 | []=>by simp [Lib.indexByte]
 | b::l=>by
  have h:=Zkf c l
  unfold Lib.indexByte
  split
  ·simp;omega
  ·split
   ·simp;omega
   ·simp;omega
theorem Xy (a0:ByteArray) (a1:Int) (r:Int) (hM:Yw a0 a1=some r):Ctr Tryz.prog 315 [.one (.str a0),.one (.int .u8 a1)] true [.one (.int .i64 r)]:=by
 obtain rfl:=Option.some.inj hM
 refine ⟨by kernel_rfl,fun w vs FA _ hd=> ?_⟩
 obtain ⟨v,u,F1,F2,rfl,rfl,h1,h2⟩:=Zp4 hd
 simp only [Uf,Rp] at h1 h2
 obtain ⟨rfl,rfl,hf⟩:=h1
 obtain ⟨rfl,rfl,_⟩:=h2
 refine (Tryz.strings_IndexByte a0 a1 w).mono ?_
 rintro e w' ⟨rfl,rfl⟩
 have k1:=Zkf a1.toNat.toUInt8 a0.data.toList
 have k2:=Lib.indexByte_ge a0.data.toList a1.toNat.toUInt8
 have k3:a0.data.toList.length=a0.size:=by rw [Array.length_toList];rfl
 unfold Fit at hf
 exact ⟨[_],rfl,Zpd ((JF _).2 ⟨by omega,by omega⟩),Below.refl _ _⟩
theorem World.ZfB (w:World) (o:Obj):(w.alloc o).heap[w.heap.size]? =some o:=by
 show (w.heap.push o)[w.heap.size]? =some o
 simp
theorem Zov {l:List UInt8} {s:ByteArray}:(⟨l.toArray⟩:ByteArray)=s↔l=s.toList:=by
 rw [ByteArray.toList_eq]
 constructor
 ·rintro rfl;simp
 ·intro h;apply ByteArray.ext;simp [h]
theorem Zj0 (sep:ByteArray):∀(k:Nat) (s:ByteArray) (x:ByteArray),x∈Lib.splitB sep 0 k s→x.size≤s.size
 | 0,s,x,h=>by simp [Lib.splitB] at h;simp [h]
 | k+1,s,x,h=>by
  unfold Lib.splitB at h
  split at h
  ·simp at h;simp [h]
  ·rcases List.mem_cons.1 h with rfl| h
   ·rw [ByteArray.size_extract];omega
   ·have:=Zj0 sep k _ x h
    rw [ByteArray.size_extract] at this;omega
theorem Zj6 {N:Nat→Prop} {w:World}:∀{ss:List ByteArray},(∀s∈ss,Fit s)→OwE N w (ss.map sC) (ss.map Value.string) []
 | [],_=>by simp [OwE]
 | s::ss,h=>by
  simp only [List.map_cons,sC,OwE,OwL,Ow]
  exact ⟨[_],_,[],[],rfl,rfl,⟨_,[],[],[],rfl,rfl,⟨rfl,rfl,h s (by simp)⟩,rfl,rfl⟩,Zj6 fun y hy=>h y (by simp [hy])⟩
theorem Xx (a0 a1:ByteArray) (r:List ByteArray) (hM:YZ a0 a1=some r):Ctr Tryz.prog 235 [.one (.str a0),.one (.str a1)] true [.one (.sl (r.map sC))]:=by
 unfold YZ at hM
 split at hM
 ·rename_i hs
  have er:=Option.some.inj hM
  refine ⟨by kernel_rfl,fun w vs FA ⟨G,hG⟩ hd=> ?_⟩
  obtain ⟨v,u,F1,F2,rfl,rfl,h1,h2⟩:=Zp4 hd
  simp only [Uf,Rp] at h1 h2
  obtain ⟨rfl,rfl,_⟩:=h1
  obtain ⟨rfl,rfl,_⟩:=h2
  obtain ⟨v,hv,_,m,rfl⟩:=hG.2.2 (0,isI) (by simp [ZpU])
  refine (Tryz.strings_Split a0 a1 m w hs.1 hv hs.2).mono ?_
  rw [er]
  rintro e w' ⟨rfl,rfl⟩
  have hl:r.length=Lib.countB a0 a1+1:=by rw [←er];exact Lib.splitB_all a1 hs.2 0 _ a0 rfl
  have hc:=Lib.countB_le a1 hs.2 _ a0 (Nat.le_refl _)
  rw [←hl]
  refine ⟨[_],rfl, ?_,(Below.refl _ _).alloc (Nat.le_refl _) _⟩
  have hz:∀s∈r,Fit s:=fun s h=>by
   rw [←er] at h
   have:=Zj0 a1 _ _ s h
   unfold Fit;omega
  simp only [Kq,if_true,ZaN,Zkr,Ow]
  refine ⟨[w.heap.size],⟨_,[],[w.heap.size],[],rfl,rfl,⟨some ⟨w.heap.size,0,none⟩,r.length,by simp,by omega,.inr ⟨w.heap.size,9,(r.map Value.string).toArray,[],1,rfl,Nat.le_refl _,World.ZfB _ _,by simp,by simp,by simp [sC],by simp,rfl, ?_⟩⟩,rfl,rfl⟩,by simp⟩
  have:=Zj6 (N:=fun b=>w.heap.size≤b) (w:=w.alloc (.cells (r.map Value.string).toArray 9)) hz
  simpa [List.take_of_length_le] using this
 ·cases hM
theorem ZkH {w:World} {G:Nat→Prop} (h:Glb w G) (g:Nat) (hg:(g,isF)∈ZpU):∃ev,w.cell? ⟨g,0,none⟩=some ev∧(ev= .nilIface∨∃te pe,ev= .iface te pe):=by
 obtain ⟨v,h1,_,h2⟩:=h.2.2 _ hg
 exact ⟨v,h1,.inr h2⟩
theorem Zgq {l:List UInt8} {n:Int} (h:Lib.atoiAll l= .ok n): -9223372036854775808≤n∧n≤9223372036854775807:=by
 unfold Lib.atoiAll at h
 split at h
 ·cases h
 ·dsimp only at h
  split at h
  ·cases h
  ·cases h
  ·rename_i u _
   split at h
   ·cases h
   ·split at h
    ·cases h
    ·injection h with h
     subst h
     split<;>omega
set_option maxRecDepth 100000 in
set_option maxHeartbeats 4000000 in
theorem Zjb (w:World) (s:ByteArray) (lo hi:Int) (hs:s.size≤281474976710656) {G:Nat→Prop} (hG:Glb w G):
  Calls Tryz.prog 277 #[.string s,.int .i64 lo,.int .i64 hi] w fun e w'=>e= .returned (.tuple #[.int .i64 (Xu s lo hi).1,.bool (Xu s lo hi).2])∧Below w.heap.size w w':=by
 obtain ⟨ev1,v1,v2⟩:=ZkH hG 3 (by simp [ZpU])
 obtain ⟨ev2,u1,u2⟩:=ZkH hG 4 (by simp [ZpU])
 cases ha:Lib.atoiAll s.data.toList with
 | «syntax» =>
  go_enter Tryz.func277,Tryz.ntmps277
  go_wp2_with fail
  go_at_call 323
  refine (Tryz.strconv_Atoi_syntax s hs ha ev1 w v1 v2).mono ?_
  rintro e w1 ⟨N,rfl,_,_,hb⟩
  go_wp2_with fail
  all_goals go_ret2
  all_goals exact ⟨by simp [Xu,ha],hb⟩
 | range=>
  go_enter Tryz.func277,Tryz.ntmps277
  go_wp2_with fail
  go_at_call 323
  refine (Tryz.strconv_Atoi_range s hs ha ev2 w u1 u2).mono ?_
  rintro e w1 ⟨N,rfl,_,_,hb⟩
  go_wp2_with fail
  all_goals go_ret2
  all_goals exact ⟨by simp [Xu,ha],hb⟩
 | ok n=>
  have hn:=Zgq ha
  go_enter Tryz.func277,Tryz.ntmps277
  go_wp2_with fail
  go_at_call 323
  refine (Tryz.strconv_Atoi_ok s (by omega) n ha w).mono ?_
  rintro e w1 ⟨rfl,hw⟩
  have hb:Below w.heap.size w w1:=by
   rcases hw with rfl| ⟨t,rfl⟩
   ·exact Below.refl _ _
   ·exact Lib.bytesWorld_below _ _ _
  have hG1:Glb w1 G:=hG.keep hb.size fun b hb2=>hb.block b (hG.1 b hb2)
  clear hw
  by_cases h1:n<lo
  ·have hp:Xu s lo hi=(0,false):=by simp only [Xu,ha];rw [if_neg (by omega)]
   go_wp2_with fail
   all_goals (try (exfalso;simp only [Bool.not_eq_false',decide_eq_true_eq,decide_eq_false_iff_not] at *;omega))
   all_goals go_ret2
   all_goals exact ⟨by rw [hp];rfl,hb⟩
  by_cases h2:hi<n
  ·have hp:Xu s lo hi=(0,false):=by simp only [Xu,ha];rw [if_neg (by omega)]
   go_wp2_with fail
   all_goals (try (exfalso;simp only [Bool.not_eq_false',decide_eq_true_eq,decide_eq_false_iff_not] at *;omega))
   all_goals go_ret2
   all_goals exact ⟨by rw [hp];rfl,hb⟩
  go_wp2_with fail
  go_at_call 324
  refine (Tryz.strconv_Itoa n hn.1 hn.2 w1 (ZmL hG1)).mono ?_
  rintro e w2 ⟨rfl,k,os,rfl⟩
  have hb2:Below w.heap.size w (Sort.grow (w1.drewN k) os):=hb.trans (Zfs.mono hb.size)
  by_cases h3:Lib.itoa n=s.toList
  ·have hp:Xu s lo hi=(n,true):=by simp only [Xu,ha];rw [if_pos ⟨by omega,by omega,Zov.2 h3⟩]
   go_wp2_with fail
   all_goals (try (exfalso;simp_all;done))
   all_goals go_ret2
   all_goals exact ⟨by rw [hp];rfl,hb2⟩
  ·have hp:Xu s lo hi=(0,false):=by simp only [Xu,ha];rw [if_neg (fun h=>h3 (Zov.1 h.2.2))]
   go_wp2_with fail
   all_goals (try (exfalso;simp_all;done))
   all_goals go_ret2
   all_goals exact ⟨by rw [hp];rfl,hb2⟩
theorem Zfd (a0:ByteArray) (a1 a2:Int) (r:Int×Bool) (hM:ZaF a0 a1 a2=some r):Ctr Tryz.prog 277 [.one (.str a0),.one (.int .i64 a1),.one (.int .i64 a2)] true [.one (.int .i64 r.1),.one (.bool r.2)]:=by
 unfold ZaF at hM
 split at hM
 ·rename_i hs
  obtain rfl:=Option.some.inj hM
  refine ⟨by kernel_rfl,fun w vs FA ⟨G,hG⟩ hd=> ?_⟩
  simp only [Yl,Uf,Rp] at hd
  obtain ⟨_,_,F1,_,rfl,rfl,⟨rfl,rfl,_⟩,_,_,F2,_,rfl,rfl,⟨rfl,rfl,_⟩,_,_,F3,_,rfl,rfl,⟨rfl,rfl,_⟩,rfl,rfl⟩:=hd
  refine (Zjb w a0 a1 a2 hs hG).mono ?_
  rintro e w' ⟨rfl,hb⟩
  refine ⟨[_,_],rfl,Zh4 ?_,hb⟩
  unfold Xu
  split
  ·rename_i n ha
   split
   ·exact (JF _).2 (Zgq ha)
   ·show IntKind.i64.wrap 0=0;decide
  ·show IntKind.i64.wrap 0=0;decide
 ·cases hM
instance:HC 277 (Ty @Zfd):=⟨Zfd⟩
instance:HC 316 (Ty @Xz):=⟨Xz⟩
instance:HC 315 (Ty @Xy):=⟨Xy⟩
instance:HC 235 (Ty @Xx):=⟨Xx⟩
end Go.Proofs.YtfapaeabfcogkaaGreatDoor
namespace Go.Proofs.YtfapaeabfcogkaaGreatDoor
open Go.RowKit Am
def Jf (a0:Zj) (a1:Int):Option Int:=
 if (decide ((IntKind.i64.wrap (a1-(a0.name.size:Int)))<0)) then
  some (-1)
 else
  if (decide ((IntKind.i64.wrap ((IntKind.i64.wrap (a1-(a0.name.size:Int)))-(a0.code.size:Int)))<0)) then
   some (-1)
  else
   some (IntKind.i64.wrap ((IntKind.i64.wrap (a1-(a0.name.size:Int)))-(a0.code.size:Int)))
def Xo (a0:List Zj):Nat→Int→Int→Option (Int ⊕ Int)
 | 0,_,_=>none
 | n_+1,x2,x3=>
  if (decide (x3<(a0.length:Int))) then
   (at? a0 x3).bind fun x4=>
   (Jf x4 x2).bind fun x5=>
   if (decide (x5<0)) then
    some (.inr (-1))
   else
    Xo a0 n_ x5 (IntKind.i64.wrap (x3+1))
  else
   some (.inl x2)
def Zac (k:Nat) (a0:List Zj) (a1:Int):Option Int:=
 if (decide ((IntKind.i64.wrap (a1-(a0.length:Int)))<0)) then
  some (-1)
 else
  (Xo a0 k (IntKind.i64.wrap (a1-(a0.length:Int))) 0:Option (Int ⊕ Int)).bind fun
   | .inl x1=>(
    some x1)
   | .inr z6=>(
    some z6)
def WZ (k:Nat) (a0:Ze) (a1:Int):Option Int:=
 (Zac k a0.cells a1).bind fun x1=>
 if (decide (x1<0)) then
  some (-1)
 else
  some x1
def Ql (a0:List ByteArray):Nat→Int→Int→Option (Int ⊕ Int)
 | 0,_,_=>none
 | n_+1,x2,x3=>
  if (decide (x3<(a0.length:Int))) then
   (at? a0 x3).bind fun x4=>
   if (decide ((IntKind.i64.wrap (x2-(x4.size:Int)))<0)) then
    some (.inr (-1))
   else
    Ql a0 n_ (IntKind.i64.wrap (x2-(x4.size:Int))) (IntKind.i64.wrap (x3+1))
  else
   some (.inl x2)
def Uz (k:Nat) (a0:List ByteArray) (a1:Int):Option Int:=
 if (decide ((IntKind.i64.wrap (a1-(a0.length:Int)))<0)) then
  some (-1)
 else
  (Ql a0 k (IntKind.i64.wrap (a1-(a0.length:Int))) 0:Option (Int ⊕ Int)).bind fun
   | .inl x1=>(
    some x1)
   | .inr z5=>(
    some z5)
def ZaX (a0:List Int) (a1:Int):Option Int:=
 if (decide ((IntKind.i64.wrap (a1-(a0.length:Int)))<0)) then
  some (-1)
 else
  some (IntKind.i64.wrap (a1-(a0.length:Int)))
def UA (a0:List Zc) (a1:Int):Option Int:=
 if (decide ((IntKind.i64.wrap (a1-(a0.length:Int)))<0)) then
  some (-1)
 else
  some (IntKind.i64.wrap (a1-(a0.length:Int)))
def ZbG (a0:Zq) (a1:Int):Option Int:=
 (ZaX a0.cells a1).bind fun x1=>
 if (decide (x1<0)) then
  some (-1)
 else
  (UA a0.from_ x1).bind fun x2=>
  if (decide (x2<0)) then
   some (-1)
  else
   some x2
def XZ (a0:List Zq):Nat→Int→Int→Option (Int ⊕ Int)
 | 0,_,_=>none
 | n_+1,x2,x3=>
  if (decide (x3<(a0.length:Int))) then
   (at? a0 x3).bind fun x4=>
   (ZbG x4 x2).bind fun x5=>
   if (decide (x5<0)) then
    some (.inr (-1))
   else
    XZ a0 n_ x5 (IntKind.i64.wrap (x3+1))
  else
   some (.inl x2)
def Zch (k:Nat) (a0:List Zq) (a1:Int):Option Int:=
 if (decide ((IntKind.i64.wrap (a1-(a0.length:Int)))<0)) then
  some (-1)
 else
  (XZ a0 k (IntKind.i64.wrap (a1-(a0.length:Int))) 0:Option (Int ⊕ Int)).bind fun
   | .inl x1=>(
    some x1)
   | .inr z6=>(
    some z6)
def QJ (rec_w_szValue:Za→Int→Option Int) (a0:List Za):Nat→Int→Int→Option (Int ⊕ Int)
 | 0,_,_=>none
 | n_+1,x2,x3=>
  if (decide (x3<(a0.length:Int))) then
   (at? a0 x3).bind fun x4=>
   (rec_w_szValue x4 x2).bind fun x5=>
   if (decide (x5<0)) then
    some (.inr (-1))
   else
    QJ rec_w_szValue a0 n_ x5 (IntKind.i64.wrap (x3+1))
  else
   some (.inl x2)
mutual
def Qw:Nat→Za→Int→Option Int
 | 0,_,_=>none
 | k+1,a0,a1=>
  if (decide ((IntKind.i64.wrap (a1-(a0.text.size:Int)))<0)) then
   some (-1)
  else
   (Ws k a0.list (IntKind.i64.wrap (a1-(a0.text.size:Int)))).bind fun x1=>
   if (decide (x1<0)) then
    some (-1)
   else
    (Uz k a0.columns x1).bind fun x2=>
    if (decide (x2<0)) then
     some (-1)
    else
     (Zch k a0.rows x2).bind fun x3=>
     if (decide (x3<0)) then
      some (-1)
     else
      some x3
def Ws:Nat→(List Za)→Int→Option Int
 | 0,_,_=>none
 | k+1,a0,a1=>
  if (decide ((IntKind.i64.wrap (a1-(a0.length:Int)))<0)) then
   some (-1)
  else
   (QJ (Qw k) a0 k (IntKind.i64.wrap (a1-(a0.length:Int))) 0:Option (Int ⊕ Int)).bind fun
    | .inl x1=>(
     some x1)
    | .inr z6=>(
     some z6)
end
def ZaW (k:Nat) (a0:Zo) (a1:Int):Option Int:=
 if (decide ((IntKind.i64.wrap (a1-(a0.text.size:Int)))<0)) then
  some (-1)
 else
  (Qw k a0.result (IntKind.i64.wrap (a1-(a0.text.size:Int)))).bind fun x1=>
  if (decide (x1<0)) then
   some (-1)
  else
   some x1
def Xn (k:Nat) (a0:List Zo):Nat→Int→Int→Option (Int ⊕ Int)
 | 0,_,_=>none
 | n_+1,x2,x3=>
  if (decide (x3<(a0.length:Int))) then
   (at? a0 x3).bind fun x4=>
   (ZaW k x4 x2).bind fun x5=>
   if (decide (x5<0)) then
    some (.inr (-1))
   else
    Xn k a0 n_ x5 (IntKind.i64.wrap (x3+1))
  else
   some (.inl x2)
def Zaa (k:Nat) (a0:List Zo) (a1:Int):Option Int:=
 if (decide ((IntKind.i64.wrap (a1-(a0.length:Int)))<0)) then
  some (-1)
 else
  (Xn k a0 k (IntKind.i64.wrap (a1-(a0.length:Int))) 0:Option (Int ⊕ Int)).bind fun
   | .inl x1=>(
    some x1)
   | .inr z6=>(
    some z6)
def ZaV (k:Nat) (a0:Zn) (a1:Int):Option Int:=
 (Zaa k a0.reads a1).bind fun x1=>
 if (decide (x1<0)) then
  some (-1)
 else
  some x1
def Xm (k:Nat) (a0:List Zn):Nat→Int→Int→Option (Int ⊕ Int)
 | 0,_,_=>none
 | n_+1,x2,x3=>
  if (decide (x3<(a0.length:Int))) then
   (at? a0 x3).bind fun x4=>
   (ZaV k x4 x2).bind fun x5=>
   if (decide (x5<0)) then
    some (.inr (-1))
   else
    Xm k a0 n_ x5 (IntKind.i64.wrap (x3+1))
  else
   some (.inl x2)
def JM (k:Nat) (a0:List Zn) (a1:Int):Option Int:=
 if (decide ((IntKind.i64.wrap (a1-(a0.length:Int)))<0)) then
  some (-1)
 else
  (Xm k a0 k (IntKind.i64.wrap (a1-(a0.length:Int))) 0:Option (Int ⊕ Int)).bind fun
   | .inl x1=>(
    some x1)
   | .inr z6=>(
    some z6)
end Go.Proofs.YtfapaeabfcogkaaGreatDoor
