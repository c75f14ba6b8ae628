import Derived.Test.YtneeinggggadpaaJ3
import Derived.Test.YtneeinggggadpaaPkC
import Derived.Lib.AtoiAll
import Derived.Lib.Bytealg
import Derived.Lib.ItoaNum
import Derived.Lib.Join
import Derived.Lib.SplitLaws
import Derived.Lib.Strings
set_option linter.unusedSimpArgs false
set_option linter.unusedVariables false
namespace Go.Proofs.Ytneeinggggadpaa
open Go.RowKit Am
def Zbw (a0:List Int):Option Bool:=
 some (decide (1048576<(a0.length:Int)))
def QO (a0:List Int):Nat→Int→Int→Option Int
 | 0,_,_=>none
 | n_+1,x2,x3=>
  (if (decide (x3<(a0.length:Int))) then
   some (decide (x3<4000))
  else
   some false).bind fun x4=>
  if x4 then
   (at? a0 x3).bind fun x5=>
   QO a0 n_ (Zfr .i64 (IntKind.i64.wrap ((IntKind.i64.wrap ((IntKind.i64.wrap (x2*131))+(IntKind.i64.wrap x5)))+7)) 1073741823) (IntKind.i64.wrap (x3+1))
  else
   some x2
def JD (k:Nat) (a0:List Int):Option Zf:=
 (QO a0 k (IntKind.i64.wrap (26583+(a0.length:Int))) 0).bind fun x1=>
 some (Zf.mk a0 0 x1)
def Xt (a0:Zf):Option (Int×Zf):=
 (if (decide (a0.i<(a0.b.length:Int))) then
  (at? a0.b a0.i).bind fun x3=>
  some ((Zfr .i64 (IntKind.i64.wrap ((Zfr .i64 (ZiW .i64 (ZeT .i64 (IntKind.i64.wrap ((IntKind.i64.wrap (a0.h*6364136223846793005))+1442695040888963407)) 33) (ZeT .i64 (IntKind.i64.wrap ((IntKind.i64.wrap (a0.h*6364136223846793005))+1442695040888963407)) 45)) 255)+(IntKind.i64.wrap x3))) 255),(IntKind.i64.wrap (a0.i+1)))
 else
  some ((Zfr .i64 (ZiW .i64 (ZeT .i64 (IntKind.i64.wrap ((IntKind.i64.wrap (a0.h*6364136223846793005))+1442695040888963407)) 33) (ZeT .i64 (IntKind.i64.wrap ((IntKind.i64.wrap (a0.h*6364136223846793005))+1442695040888963407)) 45)) 255),a0.i)).bind fun (x1,x2)=>
 some (x1,(Zf.mk a0.b x2 (IntKind.i64.wrap ((IntKind.i64.wrap (a0.h*6364136223846793005))+1442695040888963407))))
def ZD (a0:Zf) (a1:Int):Option (Int×Zf):=
 if (decide (a1≤0)) then
  some (0,a0)
 else
  if (decide (a1≤256)) then
   (Xt a0).bind fun x1=>
   (nz? a1).bind fun x2=>
   some ((IntKind.i64.wrap (x1.1.tmod a1)),x1.2)
  else
   (Xt a0).bind fun x3=>
   (Xt x3.2).bind fun x4=>
   (Xt x4.2).bind fun x5=>
   (Xt x5.2).bind fun x6=>
   (nz? a1).bind fun x7=>
   some ((IntKind.i64.wrap ((IntKind.i64.wrap ((IntKind.i64.wrap ((IntKind.i64.wrap ((IntKind.i64.wrap (x3.1*16777216))+(IntKind.i64.wrap (x4.1*65536))))+(IntKind.i64.wrap (x5.1*256))))+x6.1)).tmod a1)),x6.2)
def YJ (a0:Zf) (a1:List ByteArray):Option (ByteArray×Zf):=
 (ZD a0 (a1.length:Int)).bind fun x1=>
 (at? a1 x1.1).bind fun x2=>
 some (x2,x1.2)
def Zz:Nat→Int→ByteArray→Option ByteArray
 | 0,_,_=>none
 | n_+1,x2,x3=>
  if (!decide (x2=0)) then
   (if (decide ((IntKind.i64.wrap (x2.tmod 10))<0)) then
    some (IntKind.i64.wrap (0-(IntKind.i64.wrap (x2.tmod 10))))
   else
    some (IntKind.i64.wrap (x2.tmod 10))).bind fun x4=>
   (Jo (Zds [(IntKind.u8.wrap (IntKind.i64.wrap (48+x4)))]) x3).bind fun x5=>
   Zz n_ (IntKind.i64.wrap (x2.tdiv 10)) x5
  else
   some x3
def QN (k:Nat) (a0:Int):Option ByteArray:=
 if (decide (a0=0)) then
  some (⟨#[48]⟩:ByteArray)
 else
  (Zz k a0 (⟨#[]⟩:ByteArray)).bind fun x1=>
  if (decide (a0<0)) then
   (Jo (⟨#[45]⟩:ByteArray) x1).bind fun x6=>
   some x6
  else
   some x1
def Wf (k:Nat) (a0:Zf) (a1:ByteArray):Option (ByteArray×Zf):=
 (ZD a0 6).bind fun x1=>
 (if (decide (x1.1=0)) then
  some true
 else
  some (decide (x1.1=1))).bind fun x2=>
 if x2 then
  (YJ x1.2 [(⟨#[97]⟩:ByteArray),(⟨#[98]⟩:ByteArray)]).bind fun x3=>
  (Jo (⟨#[119,104,101,114,101,40,34]⟩:ByteArray) x3.1).bind fun x4=>
  (Jo x4 (⟨#[34,44,32]⟩:ByteArray)).bind fun x5=>
  (ZD x3.2 3).bind fun x6=>
  (QN k x6.1).bind fun x7=>
  (Jo x5 x7).bind fun x8=>
  (Jo x8 (⟨#[44,32]⟩:ByteArray)).bind fun x9=>
  (Jo x9 a1).bind fun x10=>
  (Jo x10 (⟨#[41]⟩:ByteArray)).bind fun x11=>
  some (x11,x6.2)
 else
  if (decide (x1.1=2)) then
   (YJ x1.2 [(⟨#[98]⟩:ByteArray),(⟨#[97,32,98]⟩:ByteArray),(⟨#[98,32,97]⟩:ByteArray),(⟨#[97]⟩:ByteArray)]).bind fun x12=>
   (Jo (⟨#[107,101,101,112,40,34]⟩:ByteArray) x12.1).bind fun x13=>
   (Jo x13 (⟨#[34,44,32]⟩:ByteArray)).bind fun x14=>
   (Jo x14 a1).bind fun x15=>
   (Jo x15 (⟨#[41]⟩:ByteArray)).bind fun x16=>
   some (x16,x12.2)
  else
   if (decide (x1.1=3)) then
    (Jo (⟨#[97,100,100,40,34,115,34,44,32,34,97,34,44,32,34,98,34,44,32]⟩:ByteArray) a1).bind fun x17=>
    (Jo x17 (⟨#[41]⟩:ByteArray)).bind fun x18=>
    some (x18,x1.2)
   else
    if (decide (x1.1=4)) then
     (Jo (⟨#[103,114,111,117,112,40,34,97,34,44,32,34,98,34,44,32]⟩:ByteArray) a1).bind fun x19=>
     (Jo x19 (⟨#[41]⟩:ByteArray)).bind fun x20=>
     some (x20,x1.2)
    else
     (Jo (⟨#[106,111,105,110,40,34,97,34,44,32]⟩:ByteArray) a1).bind fun x21=>
     (Jo x21 (⟨#[44,32,102,41]⟩:ByteArray)).bind fun x22=>
     some (x22,x1.2)
def Q1 (a0:Int):Option Bool:=
 (if (decide (97≤a0)) then
  some (decide (a0≤122))
 else
  some false).bind fun x1=>
 some x1
def Xg (a0:Int):Option Bool:=
 (if (decide (48≤a0)) then
  some (decide (a0≤57))
 else
  some false).bind fun x1=>
 some x1
def Y5 (x3:ByteArray):Nat→Int→Int→Option (Int ⊕ (Int×Bool))
 | 0,_,_=>none
 | n_+1,x7,x8=>
  if (decide (x8<(x3.size:Int))) then
   ((at? x3.data.toList x8).bind fun x10=>
   if (decide ((x10.toNat:Int)<48)) then
    some true
   else
    some (decide (57<(x10.toNat:Int)))).bind fun x9=>
   if x9 then
    some (.inr (0,false))
   else
    (at? x3.data.toList x8).bind fun x11=>
    Y5 x3 n_ (IntKind.i64.wrap ((IntKind.i64.wrap (10*x7))+(IntKind.i64.wrap (IntKind.u8.wrap ((x11.toNat:Int)-48))))) (IntKind.i64.wrap (x8+1))
  else
   some (.inl x7)
def VX (k:Nat) (a0:ByteArray) (a1:Int):Option (Int×Bool):=
 (if (decide (0<(a0.size:Int))) then
  (at? a0.data.toList 0).bind fun x2=>
  some (decide ((x2.toNat:Int)=45))
 else
  some false).bind fun x1=>
 (if x1 then
  (WU a0 1 (a0.size:Int)).bind fun x4=>
  some x4
 else
  some a0).bind fun x3=>
 (if (decide ((x3.size:Int)<1)) then
  some true
 else
  some (decide (a1<(x3.size:Int)))).bind fun x5=>
 if x5 then
  some (0,false)
 else
  (Y5 x3 k 0 0:Option (Int ⊕ (Int×Bool))).bind fun
   | .inl x6=>(
    (if x1 then
     some (IntKind.i64.wrap (0-x6))
    else
     some x6).bind fun x12=>
    (QN k x12).bind fun x13=>
    if (!decide (x13=a0)) then
     some (0,false)
    else
     some (x12,true))
   | .inr z14=>(
    some z14)
def XC (k:Nat) (a0:ByteArray):Option (Int×Bool):=
 (VX k a0 12).bind fun x1=>
 some (x1.1,x1.2)
def Z1 (a0:ByteArray):Nat→Int→Option (Unit ⊕ Bool)
 | 0,_=>none
 | n_+1,x1=>
  if (decide (x1<(a0.size:Int))) then
   ((at? a0.data.toList x1).bind fun x3=>
   if (decide ((x3.toNat:Int)<32)) then
    some true
   else
    if (decide (126<(x3.toNat:Int))) then
     some true
    else
     some (decide ((x3.toNat:Int)=34))).bind fun x2=>
   if x2 then
    some (.inr false)
   else
    Z1 a0 n_ (IntKind.i64.wrap (x1+1))
  else
   some (.inl ())
def Qw (k:Nat) (a0:ByteArray):Option Bool:=
 (Z1 a0 k 0:Option (Unit ⊕ Bool)).bind fun
  | .inl _=>(
   some (decide ((a0.size:Int)≤20)))
  | .inr z4=>(
   some z4)
def XB (a0:ByteArray) (a1:Int):Option Int:=
 (at? a0.data.toList a1).bind fun x1=>
 (if (decide ((x1.toNat:Int)=40)) then
  some true
 else
  if (decide ((x1.toNat:Int)=41)) then
   some true
  else
   if (decide ((x1.toNat:Int)=91)) then
    some true
   else
    if (decide ((x1.toNat:Int)=93)) then
     some true
    else
     if (decide ((x1.toNat:Int)=44)) then
      some true
     else
      if (decide ((x1.toNat:Int)=43)) then
       some true
      else
       if (decide ((x1.toNat:Int)=45)) then
        some true
       else
        if (decide ((x1.toNat:Int)=42)) then
         some true
        else
         some (decide ((x1.toNat:Int)=60))).bind fun x2=>
 if x2 then
  some 1
 else
  if (decide ((x1.toNat:Int)=61)) then
   (if (decide ((IntKind.i64.wrap (a1+1))<(a0.size:Int))) then
    (at? a0.data.toList (IntKind.i64.wrap (a1+1))).bind fun x4=>
    some (decide ((x4.toNat:Int)=61))
   else
    some false).bind fun x3=>
   if x3 then
    some 2
   else
    some 1
  else
   some 0
def YT (a0:ByteArray):Nat→Int→Option Int
 | 0,_=>none
 | n_+1,x8=>
  (if (decide (x8<(a0.size:Int))) then
   (at? a0.data.toList x8).bind fun x10=>
   (Q1 (x10.toNat:Int)).bind fun x11=>
   if x11 then
    some true
   else
    (Xg (x10.toNat:Int)).bind fun x12=>
    some x12
  else
   some false).bind fun x9=>
  if x9 then
   YT a0 n_ (IntKind.i64.wrap (x8+1))
  else
   some x8
def YS (a0:ByteArray):Nat→Int→Option Int
 | 0,_=>none
 | n_+1,x16=>
  (if (decide (x16<(a0.size:Int))) then
   (at? a0.data.toList x16).bind fun x18=>
   (Xg (x18.toNat:Int)).bind fun x19=>
   some x19
  else
   some false).bind fun x17=>
  if x17 then
   YS a0 n_ (IntKind.i64.wrap (x16+1))
  else
   some x16
def YR (a0:ByteArray):Nat→Int→Option Int
 | 0,_=>none
 | n_+1,x24=>
  (if (decide (x24<(a0.size:Int))) then
   (at? a0.data.toList x24).bind fun x26=>
   some (!decide ((x26.toNat:Int)=34))
  else
   some false).bind fun x25=>
  if x25 then
   YR a0 n_ (IntKind.i64.wrap (x24+1))
  else
   some x24
def YW (k:Nat) (a0:ByteArray) (a1:Int):Option (Ze×Int):=
 ((at? a0.data.toList a1).bind fun x5=>
 (Q1 (x5.toNat:Int)).bind fun x6=>
 if x6 then
  (YT a0 k a1).bind fun x7=>
  (WU a0 a1 x7).bind fun x13=>
  if (decide (8<(IntKind.i64.wrap (x7-a1)))) then
   some (.inr ((Ze.mk 1 0 a1 x13),0))
  else
   some (.inl (1,0,x13,x7))
 else
  (Xg (x5.toNat:Int)).bind fun x14=>
  if x14 then
   (YS a0 k a1).bind fun x15=>
   (WU a0 a1 x15).bind fun x20=>
   (XC k x20).bind fun x21=>
   (if (!x21.2) then
    some true
   else
    some (decide (1000000000<x21.1))).bind fun x22=>
   if x22 then
    some (.inr ((Ze.mk 2 x21.1 a1 (⟨#[]⟩:ByteArray)),0))
   else
    some (.inl (2,x21.1,(⟨#[]⟩:ByteArray),x15))
  else
   if (decide ((x5.toNat:Int)=34)) then
    (YR a0 k (IntKind.i64.wrap (a1+1))).bind fun x23=>
    (WU a0 (IntKind.i64.wrap (a1+1)) x23).bind fun x27=>
    (if (decide (x23=(a0.size:Int))) then
     some true
    else
     (Qw k x27).bind fun x29=>
     some (!x29)).bind fun x28=>
    if x28 then
     some (.inr ((Ze.mk 3 0 a1 x27),0))
    else
     some (.inl (3,0,x27,(IntKind.i64.wrap (x23+1))))
   else
    (XB a0 a1).bind fun x30=>
    (WU a0 a1 (IntKind.i64.wrap (a1+x30))).bind fun x31=>
    some (.inl (4,0,x31,(IntKind.i64.wrap (a1+x30)))):Option ((Int×Int×ByteArray×Int) ⊕ (Ze×Int))).bind fun
  | .inl (x1,x2,x3,x4)=>(
   some ((Ze.mk x1 x2 a1 x3),(IntKind.i64.wrap (x4-a1))))
  | .inr z32=>(
   some z32)
end Go.Proofs.Ytneeinggggadpaa
namespace Go.Proofs.Ytneeinggggadpaa
open Go.RowKit Am
def ZA (k:Nat) (a0:ByteArray):Nat→(List Ze)→Int→Option ((List Ze) ⊕ ((List Ze)×Int))
 | 0,_,_=>none
 | n_+1,x2,x3=>
  if (decide (x3<(a0.size:Int))) then
   (at? a0.data.toList x3).bind fun x4=>
   if (decide ((x4.toNat:Int)=32)) then
    ZA k a0 n_ x2 (IntKind.i64.wrap (x3+1))
   else
    (YW k a0 x3).bind fun x5=>
    (if (decide (x5.2=0)) then
     some true
    else
     some (decide ((x2.length:Int)=60))).bind fun x6=>
    if x6 then
     some (.inr (([]:List Ze),x3))
    else
     (Xm 40 x2 [x5.1]).bind fun x7=>
     ZA k a0 n_ x7 (IntKind.i64.wrap (x3+x5.2))
  else
   some (.inl x2)
def Q4 (k:Nat) (a0:ByteArray):Option ((List Ze)×Int):=
 if (decide (120<(a0.size:Int))) then
  some (([]:List Ze),120)
 else
  (ZA k a0 k ([]:List Ze) 0:Option ((List Ze) ⊕ ((List Ze)×Int))).bind fun
   | .inl x1=>(
    some (x1,(-1)))
   | .inr z8=>(
    some z8)
def Qx (a0:Ze) (a1:ByteArray):Option Bool:=
 (if (decide (a0.kind=4)) then
  some (decide (a0.text=a1))
 else
  some false).bind fun x1=>
 some x1
def XJ (a0:Ze) (a1:ByteArray):Option Bool:=
 (if (decide (a0.kind=1)) then
  some (decide (a0.text=a1))
 else
  some false).bind fun x1=>
 some x1
def Zi (a0:Zb) (a1:ByteArray):Option (Bool×Zb):=
 (if (decide (a0.bad<0)) then
  if (decide (a0.i<(a0.toks.length:Int))) then
   (at? a0.toks a0.i).bind fun x2=>
   (Qx x2 a1).bind fun x3=>
   if x3 then
    some true
   else
    (XJ x2 a1).bind fun x4=>
    some x4
  else
   some false
 else
  some false).bind fun x1=>
 some (x1,a0)
def Y1 (a0:ByteArray):Nat→Int→Option (Unit ⊕ Bool)
 | 0,_=>none
 | n_+1,x1=>
  if (decide (x1<(a0.size:Int))) then
   ((at? a0.data.toList x1).bind fun x3=>
   if (decide (97≤(x3.toNat:Int))) then
    some (decide ((x3.toNat:Int)≤122))
   else
    some false).bind fun x2=>
   ((at? a0.data.toList x1).bind fun x5=>
   if (decide (48≤(x5.toNat:Int))) then
    some (decide ((x5.toNat:Int)≤57))
   else
    some false).bind fun x4=>
   (if (!x2) then
    if (decide (x1=0)) then
     some true
    else
     some (!x4)
   else
    some false).bind fun x6=>
   if x6 then
    some (.inr false)
   else
    Y1 a0 n_ (IntKind.i64.wrap (x1+1))
  else
   some (.inl ())
def WY (k:Nat) (a0:ByteArray):Option Bool:=
 (Y1 a0 k 0:Option (Unit ⊕ Bool)).bind fun
  | .inl _=>(
   some (decide (0<(a0.size:Int))))
  | .inr z7=>(
   some z7)
def YI:Option (List ByteArray):=
 some [(⟨#[108,101,116]⟩:ByteArray),(⟨#[105,110]⟩:ByteArray),(⟨#[105,102]⟩:ByteArray),(⟨#[116,104,101,110]⟩:ByteArray),(⟨#[101,108,115,101]⟩:ByteArray),(⟨#[102,111,114]⟩:ByteArray),(⟨#[100,111]⟩:ByteArray),(⟨#[108,101,110]⟩:ByteArray),(⟨#[115,117,109]⟩:ByteArray),(⟨#[116,97,107,101]⟩:ByteArray),(⟨#[115,107,105,112]⟩:ByteArray),(⟨#[114,97,110,103,101]⟩:ByteArray),(⟨#[110,116,104]⟩:ByteArray),(⟨#[119,104,101,114,101]⟩:ByteArray),(⟨#[107,101,101,112]⟩:ByteArray),(⟨#[97,100,100]⟩:ByteArray),(⟨#[103,114,111,117,112]⟩:ByteArray),(⟨#[106,111,105,110]⟩:ByteArray),(⟨#[99,111,108,117,109,110]⟩:ByteArray),(⟨#[114,111,119,115]⟩:ByteArray),(⟨#[99,108,111,99,107]⟩:ByteArray),(⟨#[99,104,97,110,99,101]⟩:ByteArray),(⟨#[102,105,108,101]⟩:ByteArray),(⟨#[116,97,98,108,101]⟩:ByteArray)]
def QP (a0:List ByteArray) (a1:ByteArray):Nat→Int→Option (Unit ⊕ Bool)
 | 0,_=>none
 | n_+1,x1=>
  if (decide (x1<(a0.length:Int))) then
   (at? a0 x1).bind fun x2=>
   if (decide (x2=a1)) then
    some (.inr true)
   else
    QP a0 a1 n_ (IntKind.i64.wrap (x1+1))
  else
   some (.inl ())
def Uz (k:Nat) (a0:List ByteArray) (a1:ByteArray):Option Bool:=
 (QP a0 a1 k 0:Option (Unit ⊕ Bool)).bind fun
  | .inl _=>(
   some false)
  | .inr z3=>(
   some z3)
def Xj (k:Nat) (a0:ByteArray):Option Bool:=
 (YI).bind fun x1=>
 (Uz k x1 a0).bind fun x2=>
 some x2
def Ye (k:Nat) (a0:ByteArray):Option Bool:=
 ((WY k a0).bind fun x2=>
 if x2 then
  if (decide ((a0.size:Int)≤8)) then
   (Xj k a0).bind fun x3=>
   some (!x3)
  else
   some false
 else
  some false).bind fun x1=>
 some x1
def Z6 (a0:Zb):Option (Za×Zb):=
 (if (decide (a0.bad<0)) then
  if (decide (a0.i<(a0.toks.length:Int))) then
   (at? a0.toks a0.i).bind fun x2=>
   some x2.at_
  else
   some a0.end_
 else
  some a0.bad).bind fun x1=>
 some ((Za.mk 0 0 (⟨#[]⟩:ByteArray) []),(Zb.mk a0.toks a0.i a0.end_ x1))
def Qb (k:Nat) (a0:Zb):Option (ByteArray×Zb):=
 (if (decide (0≤a0.bad)) then
  some true
 else
  if (decide ((a0.toks.length:Int)≤a0.i)) then
   some true
  else
   (at? a0.toks a0.i).bind fun x2=>
   if (!decide (x2.kind=1)) then
    some true
   else
    (Ye k x2.text).bind fun x3=>
    some (!x3)).bind fun x1=>
 if x1 then
  (Z6 a0).bind fun x4=>
  some ((⟨#[]⟩:ByteArray),x4.2)
 else
  (at? a0.toks (IntKind.i64.wrap ((IntKind.i64.wrap (a0.i+1))-1))).bind fun x5=>
  some (x5.text,(Zb.mk a0.toks (IntKind.i64.wrap (a0.i+1)) a0.end_ a0.bad))
def Zo (a0:Zb) (a1:ByteArray):Option Zb:=
 (Zi a0 a1).bind fun x1=>
 if (!x1.1) then
  (Z6 x1.2).bind fun x2=>
  some x2.2
 else
  some (Zb.mk x1.2.toks (IntKind.i64.wrap (x1.2.i+1)) x1.2.end_ x1.2.bad)
def Yr (a0:Int):Option Za:=
 some (Za.mk 1 a0 (⟨#[]⟩:ByteArray) [])
def XH (a0:ByteArray):Option Za:=
 some (Za.mk 3 0 a0 [])
end Go.Proofs.Ytneeinggggadpaa
namespace Go.Proofs.Ytneeinggggadpaa
open Go.RowKit Am
def ZB (a0:ByteArray):Option Int:=
 if (decide (a0=(⟨#[99,108,111,99,107]⟩:ByteArray))) then
  some 0
 else
  (if (decide (a0=(⟨#[108,101,110]⟩:ByteArray))) then
   some true
  else
   if (decide (a0=(⟨#[115,117,109]⟩:ByteArray))) then
    some true
   else
    if (decide (a0=(⟨#[114,111,119,115]⟩:ByteArray))) then
     some true
    else
     if (decide (a0=(⟨#[99,104,97,110,99,101]⟩:ByteArray))) then
      some true
     else
      some (decide (a0=(⟨#[102,105,108,101]⟩:ByteArray)))).bind fun x1=>
  if x1 then
   some 1
  else
   (if (decide (a0=(⟨#[116,97,107,101]⟩:ByteArray))) then
    some true
   else
    if (decide (a0=(⟨#[115,107,105,112]⟩:ByteArray))) then
     some true
    else
     if (decide (a0=(⟨#[114,97,110,103,101]⟩:ByteArray))) then
      some true
     else
      if (decide (a0=(⟨#[110,116,104]⟩:ByteArray))) then
       some true
      else
       if (decide (a0=(⟨#[107,101,101,112]⟩:ByteArray))) then
        some true
       else
        if (decide (a0=(⟨#[99,111,108,117,109,110]⟩:ByteArray))) then
         some true
        else
         some (decide (a0=(⟨#[116,97,98,108,101]⟩:ByteArray)))).bind fun x2=>
   if x2 then
    some 2
   else
    (if (decide (a0=(⟨#[119,104,101,114,101]⟩:ByteArray))) then
     some true
    else
     if (decide (a0=(⟨#[103,114,111,117,112]⟩:ByteArray))) then
      some true
     else
      some (decide (a0=(⟨#[106,111,105,110]⟩:ByteArray)))).bind fun x3=>
    if x3 then
     some 3
    else
     if (decide (a0=(⟨#[97,100,100]⟩:ByteArray))) then
      some 4
     else
      some (-1)
def Q3 (a0:Int) (a1:Za) (a2:Za):Option Za:=
 some (Za.mk 6 a0 (⟨#[]⟩:ByteArray) [a1,a2])
def YK (rec_s_l11Expr:Zb→Option (Za×Zb)):Nat→(List Ze)→Int→Int→Int→(List Za)→Option ((List Ze)×Int×Int×Int×(List Za))
 | 0,_,_,_,_,_=>none
 | n_+1,x7,x8,x9,x10,x11=>
  if (decide (x10<0)) then
   (rec_s_l11Expr (Zb.mk x7 x8 x9 x10)).bind fun x12=>
   (Xm 56 x11 [x12.1]).bind fun x13=>
   (Zi x12.2 (⟨#[44]⟩:ByteArray)).bind fun x14=>
   if (!x14.1) then
    some (x14.2.toks,x14.2.i,x14.2.end_,x14.2.bad,x13)
   else
    YK rec_s_l11Expr n_ x14.2.toks (IntKind.i64.wrap (x14.2.i+1)) x14.2.end_ x14.2.bad x13
  else
   some (x7,x8,x9,x10,x11)
def ZX (rec_s_l11Atom:Zb→Option (Za×Zb)):Nat→(List Ze)→Int→Int→Int→Int→Int→ByteArray→(List Za)→Option (Int×Int×ByteArray×(List Za)×(List Ze)×Int×Int×Int)
 | 0,_,_,_,_,_,_,_,_=>none
 | n_+1,x10,x11,x12,x13,x14,x15,x16,x17=>
  (Zi (Zb.mk x10 x11 x12 x13) (⟨#[42]⟩:ByteArray)).bind fun x18=>
  if x18.1 then
   (rec_s_l11Atom (Zb.mk x18.2.toks (IntKind.i64.wrap (x18.2.i+1)) x18.2.end_ x18.2.bad)).bind fun x19=>
   (Q3 3 (Za.mk x14 x15 x16 x17) x19.1).bind fun x20=>
   ZX rec_s_l11Atom n_ x19.2.toks x19.2.i x19.2.end_ x19.2.bad x20.kind x20.n x20.text x20.args
  else
   some (x14,x15,x16,x17,x18.2.toks,x18.2.i,x18.2.end_,x18.2.bad)
def Y6 (rec_s_l11Product:Zb→Option (Za×Zb)):Nat→(List Ze)→Int→Int→Int→Int→Int→ByteArray→(List Za)→Option (Int×Int×ByteArray×(List Za)×(List Ze)×Int×Int×Int)
 | 0,_,_,_,_,_,_,_,_=>none
 | n_+1,x10,x11,x12,x13,x14,x15,x16,x17=>
  ((Zi (Zb.mk x10 x11 x12 x13) (⟨#[43]⟩:ByteArray)).bind fun x23=>
  if x23.1 then
   some (x23.2.toks,x23.2.i,x23.2.end_,x23.2.bad,true)
  else
   (Zi x23.2 (⟨#[45]⟩:ByteArray)).bind fun x24=>
   some (x24.2.toks,x24.2.i,x24.2.end_,x24.2.bad,x24.1)).bind fun (x18,x19,x20,x21,x22)=>
  if x22 then
   ((Zi (Zb.mk x18 x19 x20 x21) (⟨#[45]⟩:ByteArray)).bind fun x30=>
   if x30.1 then
    some (x30.2.toks,x30.2.i,x30.2.end_,x30.2.bad,2)
   else
    some (x30.2.toks,x30.2.i,x30.2.end_,x30.2.bad,1)).bind fun (x25,x26,x27,x28,x29)=>
   (rec_s_l11Product (Zb.mk x25 (IntKind.i64.wrap (x26+1)) x27 x28)).bind fun x31=>
   (Q3 x29 (Za.mk x14 x15 x16 x17) x31.1).bind fun x32=>
   Y6 rec_s_l11Product n_ x31.2.toks x31.2.i x31.2.end_ x31.2.bad x32.kind x32.n x32.text x32.args
  else
   some (x14,x15,x16,x17,x18,x19,x20,x21)
mutual
def Qg:Nat→Zb→ByteArray→Option ((List Za)×Zb)
 | 0,_,_=>none
 | k+1,a0,a1=>
  (Zi a0 a1).bind fun x1=>
  if x1.1 then
   some (([]:List Za),(Zb.mk x1.2.toks (IntKind.i64.wrap (x1.2.i+1)) x1.2.end_ x1.2.bad))
  else
   (YK (Zl k) k x1.2.toks x1.2.i x1.2.end_ x1.2.bad ([]:List Za)).bind fun (x2,x3,x4,x5,x6)=>
   (Zo (Zb.mk x2 x3 x4 x5) a1).bind fun x15=>
   some (x6,x15)
def ZF:Nat→Zb→Option (Za×Zb)
 | 0,_=>none
 | k+1,a0=>
  (if (decide (0≤a0.bad)) then
   some true
  else
   some (decide ((a0.toks.length:Int)≤a0.i))).bind fun x1=>
  if x1 then
   (Z6 a0).bind fun x2=>
   some (x2.1,x2.2)
  else
   (at? a0.toks a0.i).bind fun x3=>
   if (decide (x3.kind=2)) then
    (Yr x3.n).bind fun x4=>
    some (x4,(Zb.mk a0.toks (IntKind.i64.wrap (a0.i+1)) a0.end_ a0.bad))
   else
    if (decide (x3.kind=3)) then
     some ((Za.mk 2 0 x3.text []),(Zb.mk a0.toks (IntKind.i64.wrap (a0.i+1)) a0.end_ a0.bad))
    else
     (if (decide (x3.kind=1)) then
      (Ye k x3.text).bind fun x6=>
      some x6
     else
      some false).bind fun x5=>
     if x5 then
      (XH x3.text).bind fun x7=>
      some (x7,(Zb.mk a0.toks (IntKind.i64.wrap (a0.i+1)) a0.end_ a0.bad))
     else
      (if (decide (x3.kind=1)) then
       (ZB x3.text).bind fun x9=>
       some (decide (0≤x9))
      else
       some false).bind fun x8=>
      if x8 then
       (Zo (Zb.mk a0.toks (IntKind.i64.wrap (a0.i+1)) a0.end_ a0.bad) (⟨#[40]⟩:ByteArray)).bind fun x10=>
       (Qg k x10 (⟨#[41]⟩:ByteArray)).bind fun x11=>
       some ((Za.mk 5 0 x3.text x11.1),x11.2)
      else
       (Qx x3 (⟨#[91]⟩:ByteArray)).bind fun x12=>
       if x12 then
        (Qg k (Zb.mk a0.toks (IntKind.i64.wrap (a0.i+1)) a0.end_ a0.bad) (⟨#[93]⟩:ByteArray)).bind fun x13=>
        some ((Za.mk 4 0 (⟨#[]⟩:ByteArray) x13.1),x13.2)
       else
        (Qx x3 (⟨#[40]⟩:ByteArray)).bind fun x14=>
        if x14 then
         (Zl k (Zb.mk a0.toks (IntKind.i64.wrap (a0.i+1)) a0.end_ a0.bad)).bind fun x15=>
         (Zo x15.2 (⟨#[41]⟩:ByteArray)).bind fun x16=>
         some (x15.1,x16)
        else
         (Z6 a0).bind fun x17=>
         some (x17.1,x17.2)
def Zr:Nat→Zb→Option (Za×Zb)
 | 0,_=>none
 | k+1,a0=>
  (ZF k a0).bind fun x1=>
  (ZX (ZF k) k x1.2.toks x1.2.i x1.2.end_ x1.2.bad x1.1.kind x1.1.n x1.1.text x1.1.args).bind fun (x2,x3,x4,x5,x6,x7,x8,x9)=>
  some ((Za.mk x2 x3 x4 x5),(Zb.mk x6 x7 x8 x9))
def YX:Nat→Zb→Option (Za×Zb)
 | 0,_=>none
 | k+1,a0=>
  (Zr k a0).bind fun x1=>
  (Y6 (Zr k) k x1.2.toks x1.2.i x1.2.end_ x1.2.bad x1.1.kind x1.1.n x1.1.text x1.1.args).bind fun (x2,x3,x4,x5,x6,x7,x8,x9)=>
  some ((Za.mk x2 x3 x4 x5),(Zb.mk x6 x7 x8 x9))
def Yy:Nat→Zb→Option (Za×Zb)
 | 0,_=>none
 | k+1,a0=>
  (YX k a0).bind fun x1=>
  (Zi x1.2 (⟨#[60]⟩:ByteArray)).bind fun x2=>
  if x2.1 then
   (YX k (Zb.mk x2.2.toks (IntKind.i64.wrap (x2.2.i+1)) x2.2.end_ x2.2.bad)).bind fun x3=>
   (Q3 4 x1.1 x3.1).bind fun x4=>
   some (x4,x3.2)
  else
   (Zi x2.2 (⟨#[61,61]⟩:ByteArray)).bind fun x5=>
   if x5.1 then
    (YX k (Zb.mk x5.2.toks (IntKind.i64.wrap (x5.2.i+1)) x5.2.end_ x5.2.bad)).bind fun x6=>
    (Q3 5 x1.1 x6.1).bind fun x7=>
    some (x7,x6.2)
   else
    some (x1.1,x5.2)
def Zl:Nat→Zb→Option (Za×Zb)
 | 0,_=>none
 | k+1,a0=>
  (Zi a0 (⟨#[108,101,116]⟩:ByteArray)).bind fun x1=>
  if x1.1 then
   (Qb k (Zb.mk x1.2.toks (IntKind.i64.wrap (x1.2.i+1)) x1.2.end_ x1.2.bad)).bind fun x2=>
   (Zo x2.2 (⟨#[61]⟩:ByteArray)).bind fun x3=>
   (Zl k x3).bind fun x4=>
   (Zo x4.2 (⟨#[105,110]⟩:ByteArray)).bind fun x5=>
   (Zl k x5).bind fun x6=>
   some ((Za.mk 7 0 x2.1 [x4.1,x6.1]),x6.2)
  else
   (Zi x1.2 (⟨#[105,102]⟩:ByteArray)).bind fun x7=>
   if x7.1 then
    (Zl k (Zb.mk x7.2.toks (IntKind.i64.wrap (x7.2.i+1)) x7.2.end_ x7.2.bad)).bind fun x8=>
    (Zo x8.2 (⟨#[116,104,101,110]⟩:ByteArray)).bind fun x9=>
    (Zl k x9).bind fun x10=>
    (Zo x10.2 (⟨#[101,108,115,101]⟩:ByteArray)).bind fun x11=>
    (Zl k x11).bind fun x12=>
    some ((Za.mk 8 0 (⟨#[]⟩:ByteArray) [x8.1,x10.1,x12.1]),x12.2)
   else
    (Zi x7.2 (⟨#[102,111,114]⟩:ByteArray)).bind fun x13=>
    if x13.1 then
     (Qb k (Zb.mk x13.2.toks (IntKind.i64.wrap (x13.2.i+1)) x13.2.end_ x13.2.bad)).bind fun x14=>
     (Zo x14.2 (⟨#[105,110]⟩:ByteArray)).bind fun x15=>
     (Zl k x15).bind fun x16=>
     (Zo x16.2 (⟨#[100,111]⟩:ByteArray)).bind fun x17=>
     (Zl k x17).bind fun x18=>
     some ((Za.mk 9 0 x14.1 [x16.1,x18.1]),x18.2)
    else
     (Yy k x13.2).bind fun x19=>
     some (x19.1,x19.2)
end
def YM (rec_s_l10Left:Za→Int→Option Int) (a0:Za):Nat→Int→Int→Option Int
 | 0,_,_=>none
 | n_+1,x2,x3=>
  (if (decide (x3<(a0.args.length:Int))) then
   some (decide (0≤x2))
  else
   some false).bind fun x4=>
  if x4 then
   (at? a0.args x3).bind fun x5=>
   (rec_s_l10Left x5 x2).bind fun x6=>
   YM rec_s_l10Left a0 n_ x6 (IntKind.i64.wrap (x3+1))
  else
   some x2
def Qi:Nat→Za→Int→Option Int
 | 0,_,_=>none
 | k+1,a0,a1=>
  (YM (Qi k) a0 k (IntKind.i64.wrap (a1-1)) 0).bind fun x1=>
  some x1
def JF (a0:Int) (a1:Int):Option Int:=
 if (decide (a1<a0)) then
  some a0
 else
  some a1
def Yd (rec_s_NestingOf:Za→Option Int) (a0:Za):Nat→Int→Int→Option Int
 | 0,_,_=>none
 | n_+1,x2,x3=>
  if (decide (x3<(a0.args.length:Int))) then
   (at? a0.args x3).bind fun x4=>
   (rec_s_NestingOf x4).bind fun x5=>
   (JF x2 x5).bind fun x6=>
   Yd rec_s_NestingOf a0 n_ x6 (IntKind.i64.wrap (x3+1))
  else
   some x2
def Ys:Nat→Za→Option Int
 | 0,_=>none
 | k+1,a0=>
  (Yd (Ys k) a0 k 0 0).bind fun x1=>
  some (IntKind.i64.wrap (x1+1))
def Kv (a0:Int) (a1:Int) (a2:Int):Option Bool:=
 (if (decide (a1≤a0)) then
  some (decide (a0≤a2))
 else
  some false).bind fun x1=>
 some x1
def XG (k:Nat) (a0:Za):Option Bool:=
 if (decide (a0.kind=1)) then
  (if (decide ((a0.args.length:Int)=0)) then
   if (decide (a0.text=(⟨#[]⟩:ByteArray))) then
    (Kv a0.n 0 1000000000).bind fun x2=>
    some x2
   else
    some false
  else
   some false).bind fun x1=>
  some x1
 else
  if (decide (a0.kind=2)) then
   (if (decide ((a0.args.length:Int)=0)) then
    if (decide (a0.n=0)) then
     (Qw k a0.text).bind fun x4=>
     some x4
    else
     some false
   else
    some false).bind fun x3=>
   some x3
  else
   if (decide (a0.kind=3)) then
    (if (decide ((a0.args.length:Int)=0)) then
     if (decide (a0.n=0)) then
      (Ye k a0.text).bind fun x6=>
      some x6
     else
      some false
    else
     some false).bind fun x5=>
    some x5
   else
    if (decide (a0.kind=4)) then
     (if (decide (a0.n=0)) then
      if (decide (a0.text=(⟨#[]⟩:ByteArray))) then
       some (decide ((a0.args.length:Int)≤8))
      else
       some false
     else
      some false).bind fun x7=>
     some x7
    else
     if (decide (a0.kind=5)) then
      (if (decide (a0.n=0)) then
       (ZB a0.text).bind fun x9=>
       some (decide ((a0.args.length:Int)=x9))
      else
       some false).bind fun x8=>
      some x8
     else
      if (decide (a0.kind=6)) then
       (if (decide (a0.text=(⟨#[]⟩:ByteArray))) then
        if (decide ((a0.args.length:Int)=2)) then
         (Kv a0.n 1 5).bind fun x11=>
         some x11
        else
         some false
       else
        some false).bind fun x10=>
       some x10
      else
       (if (decide (a0.kind=7)) then
        some true
       else
        some (decide (a0.kind=9))).bind fun x12=>
       if x12 then
        (if (decide (a0.n=0)) then
         if (decide ((a0.args.length:Int)=2)) then
          (Ye k a0.text).bind fun x14=>
          some x14
         else
          some false
        else
         some false).bind fun x13=>
        some x13
       else
        if (decide (a0.kind=8)) then
         (if (decide (a0.n=0)) then
          if (decide (a0.text=(⟨#[]⟩:ByteArray))) then
           some (decide ((a0.args.length:Int)=3))
          else
           some false
         else
          some false).bind fun x15=>
         some x15
        else
         some false
def Qk (rec_s_l10All:Za→Option Bool) (a0:Za):Nat→Int→Option (Unit ⊕ Bool)
 | 0,_=>none
 | n_+1,x1=>
  if (decide (x1<(a0.args.length:Int))) then
   (at? a0.args x1).bind fun x2=>
   (rec_s_l10All x2).bind fun x3=>
   if (!x3) then
    some (.inr false)
   else
    Qk rec_s_l10All a0 n_ (IntKind.i64.wrap (x1+1))
  else
   some (.inl ())
def Y7:Nat→Za→Option Bool
 | 0,_=>none
 | k+1,a0=>
  (Qk (Y7 k) a0 k 0:Option (Unit ⊕ Bool)).bind fun
   | .inl _=>(
    (XG k a0).bind fun x4=>
    some x4)
   | .inr z5=>(
    some z5)
end Go.Proofs.Ytneeinggggadpaa
namespace Go.Proofs.Ytneeinggggadpaa
open Go.RowKit Am
def ZJ (k:Nat) (a0:Za):Option Bool:=
 ((Qi k a0 40).bind fun x2=>
 if (decide (0≤x2)) then
  (Ys k a0).bind fun x3=>
  if (decide (x3≤8)) then
   (Y7 k a0).bind fun x4=>
   some x4
  else
   some false
 else
  some false).bind fun x1=>
 some x1
def Ql (k:Nat) (a0:ByteArray):Option (Za×Int):=
 (Q4 k a0).bind fun x1=>
 if (decide (0≤x1.2)) then
  some ((Za.mk 0 0 (⟨#[]⟩:ByteArray) []),x1.2)
 else
  (Zl k (Zb.mk x1.1 0 (a0.size:Int) (-1))).bind fun x2=>
  ((if (decide (x2.2.bad<0)) then
    some (decide (x2.2.i<(x1.1.length:Int)))
  else
   some false).bind fun x7=>
  if x7 then
   (Z6 x2.2).bind fun x8=>
   some (x8.2.toks,x8.2.i,x8.2.end_,x8.2.bad)
  else
   some (x2.2.toks,x2.2.i,x2.2.end_,x2.2.bad)).bind fun (x3,x4,x5,x6)=>
  if (decide (0≤x6)) then
   some ((Za.mk 0 0 (⟨#[]⟩:ByteArray) []),x6)
  else
   (ZJ k x2.1).bind fun x9=>
   if (!x9) then
    some ((Za.mk 0 0 (⟨#[]⟩:ByteArray) []),0)
   else
    some (x2.1,(-1))
def Wu (a0:Zf) (a1:Int):Option (Bool×Zf):=
 (ZD a0 a1).bind fun x1=>
 some ((decide (x1.1=0)),x1.2)
def Xi (a0:Zf) (a1:List ByteArray):Option (Za×Zf):=
 (ZD a0 5).bind fun x1=>
 if (decide (x1.1=0)) then
  (YJ x1.2 [(⟨#[97]⟩:ByteArray),(⟨#[97,98]⟩:ByteArray),(⟨#[]⟩:ByteArray),(⟨#[98]⟩:ByteArray)]).bind fun x2=>
  some ((Za.mk 2 0 x2.1 []),x2.2)
 else
  (if (decide (x1.1=1)) then
   some true
  else
   some (decide (x1.1=2))).bind fun x3=>
  if x3 then
   (ZD x1.2 6).bind fun x4=>
   (Yr x4.1).bind fun x5=>
   some (x5,x4.2)
  else
   (YJ x1.2 a1).bind fun x6=>
   (XH x6.1).bind fun x7=>
   some (x7,x6.2)
def Y2 (a1:List ByteArray) (x1:Int×Zf):Nat→(List Int)→Int→Int→(List Za)→Int→Option ((List Za)×(List Int)×Int×Int)
 | 0,_,_,_,_,_=>none
 | n_+1,x6,x7,x8,x9,x10=>
  if (decide (x10<x1.1)) then
   ((ZD (Zf.mk x6 x7 x8) 5).bind fun x15=>
   (Yr x15.1).bind fun x16=>
   (Xm 56 x9 [x16]).bind fun x17=>
   (Wu x15.2 4).bind fun x18=>
   if x18.1 then
    (Xi x18.2 a1).bind fun x19=>
    (at? x17 x10).bind fun x20=>
    some (x19.2.b,x19.2.i,x19.2.h,(x17.set x10.toNat x19.1))
   else
    some (x18.2.b,x18.2.i,x18.2.h,x17)).bind fun (x11,x12,x13,x14)=>
   Y2 a1 x1 n_ x11 x12 x13 x14 (IntKind.i64.wrap (x10+1))
  else
   some (x9,x6,x7,x8)
def Xh (k:Nat) (a0:Zf) (a1:List ByteArray):Option (Za×Zf):=
 (ZD a0 4).bind fun x1=>
 (Y2 a1 x1 k x1.2.b x1.2.i x1.2.h [] 0).bind fun (x2,x3,x4,x5)=>
 some ((Za.mk 4 0 (⟨#[]⟩:ByteArray) x2),(Zf.mk x3 x4 x5))
def Yw (a0:Zf) (a1:Za) (a2:Za):Option (Za×Zf):=
 (Wu a0 2).bind fun x1=>
 if x1.1 then
  some (a1,x1.2)
 else
  some (a2,x1.2)
def YN (a0:ByteArray) (a1:List Za):Option Za:=
 some (Za.mk 5 0 a0 a1)
def QL (a0:Zf):Option (Za×Zf):=
 (YJ a0 [(⟨#[97]⟩:ByteArray),(⟨#[97]⟩:ByteArray),(⟨#[98]⟩:ByteArray),(⟨#[99]⟩:ByteArray),(⟨#[120]⟩:ByteArray)]).bind fun x1=>
 some ((Za.mk 2 0 x1.1 []),x1.2)
def YL (x1:Int×Zf):Nat→(List Int)→Int→Int→(List Za)→Int→Option ((List Za)×(List Int)×Int×Int)
 | 0,_,_,_,_,_=>none
 | n_+1,x6,x7,x8,x9,x10=>
  if (decide (x10<x1.1)) then
   (ZD (Zf.mk x6 x7 x8) 3).bind fun x11=>
   (Yr x11.1).bind fun x12=>
   (ZD x11.2 4).bind fun x13=>
   (Yr x13.1).bind fun x14=>
   (Xm 56 x9 [(Za.mk 4 0 (⟨#[]⟩:ByteArray) [x12,x14])]).bind fun x15=>
   YL x1 n_ x13.2.b x13.2.i x13.2.h x15 (IntKind.i64.wrap (x10+1))
  else
   some (x9,x6,x7,x8)
def Q2 (k:Nat) (a0:Zf):Option (Za×Zf):=
 (ZD a0 4).bind fun x1=>
 (YL x1 k x1.2.b x1.2.i x1.2.h [] 0).bind fun (x2,x3,x4,x5)=>
 (YN (⟨#[116,97,98,108,101]⟩:ByteArray) [(Za.mk 2 0 (⟨#[97,32,98]⟩:ByteArray) []),(Za.mk 4 0 (⟨#[]⟩:ByteArray) x2)]).bind fun x16=>
 some (x16,(Zf.mk x3 x4 x5))
def ZN:Nat→Zf→(List ByteArray)→Int→Option (Za×Zf)
 | 0,_,_,_=>none
 | k+1,a0,a1,a2=>
  if (decide (a2<2)) then
   (Xi a0 a1).bind fun x1=>
   some (x1.1,x1.2)
  else
   (ZD a0 13).bind fun x2=>
   (if (decide (x2.1=0)) then
    some true
   else
    some (decide (x2.1=1))).bind fun x3=>
   if x3 then
    (ZD x2.2 5).bind fun x4=>
    (ZN k x4.2 a1 (IntKind.i64.wrap (a2-1))).bind fun x5=>
    (ZN k x5.2 a1 (IntKind.i64.wrap (a2-1))).bind fun x6=>
    (Q3 (IntKind.i64.wrap (1+x4.1)) x5.1 x6.1).bind fun x7=>
    some (x7,x6.2)
   else
    if (decide (x2.1=2)) then
     (at? a1 0).bind fun x8=>
     (YJ x2.2 [(⟨#[117]⟩:ByteArray),(⟨#[118]⟩:ByteArray),x8]).bind fun x9=>
     (ZN k x9.2 a1 (IntKind.i64.wrap (a2-1))).bind fun x10=>
     (Xm 16 [x9.1] a1).bind fun x11=>
     (ZN k x10.2 x11 (IntKind.i64.wrap (a2-1))).bind fun x12=>
     some ((Za.mk 7 0 x9.1 [x10.1,x12.1]),x12.2)
    else
     if (decide (x2.1=3)) then
      (ZN k x2.2 a1 (IntKind.i64.wrap (a2-1))).bind fun x13=>
      (ZN k x13.2 a1 (IntKind.i64.wrap (a2-1))).bind fun x14=>
      (ZN k x14.2 a1 (IntKind.i64.wrap (a2-1))).bind fun x15=>
      some ((Za.mk 8 0 (⟨#[]⟩:ByteArray) [x13.1,x14.1,x15.1]),x15.2)
     else
      if (decide (x2.1=4)) then
       (at? a1 0).bind fun x16=>
       (YJ x2.2 [(⟨#[117]⟩:ByteArray),(⟨#[118]⟩:ByteArray),x16]).bind fun x17=>
       (Xh k x17.2 a1).bind fun x18=>
       (Xm 16 [x17.1,x17.1] a1).bind fun x19=>
       (ZN k x18.2 x19 (IntKind.i64.wrap (a2-1))).bind fun x20=>
       some ((Za.mk 9 0 x17.1 [x18.1,x20.1]),x20.2)
      else
       if (decide (x2.1=5)) then
        (Xh k x2.2 a1).bind fun x21=>
        some (x21.1,x21.2)
       else
        if (decide (x2.1=6)) then
         (YJ x2.2 [(⟨#[108,101,110]⟩:ByteArray),(⟨#[115,117,109]⟩:ByteArray)]).bind fun x22=>
         (Xh k x22.2 a1).bind fun x23=>
         (ZN k x23.2 a1 (IntKind.i64.wrap (a2-1))).bind fun x24=>
         (Yw x24.2 x23.1 x24.1).bind fun x25=>
         (YN x22.1 [x25.1]).bind fun x26=>
         some (x26,x25.2)
        else
         if (decide (x2.1=7)) then
          (YJ x2.2 [(⟨#[116,97,107,101]⟩:ByteArray),(⟨#[115,107,105,112]⟩:ByteArray),(⟨#[110,116,104]⟩:ByteArray),(⟨#[116,97,107,101]⟩:ByteArray)]).bind fun x27=>
          (ZD x27.2 4).bind fun x28=>
          (Yr x28.1).bind fun x29=>
          (Xh k x28.2 a1).bind fun x30=>
          (ZD x30.2 9).bind fun x31=>
          (Yr x31.1).bind fun x32=>
          (ZD x31.2 4).bind fun x33=>
          (Yr x33.1).bind fun x34=>
          (YN (⟨#[114,97,110,103,101]⟩:ByteArray) [x32,x34]).bind fun x35=>
          (Yw x33.2 x30.1 x35).bind fun x36=>
          (YN x27.1 [x29,x36.1]).bind fun x37=>
          some (x37,x36.2)
         else
          if (decide (x2.1=8)) then
           (QL x2.2).bind fun x38=>
           (ZD x38.2 3).bind fun x39=>
           (Yr x39.1).bind fun x40=>
           (Q2 k x39.2).bind fun x41=>
           (ZN k x41.2 a1 (IntKind.i64.wrap (a2-1))).bind fun x42=>
           (Yw x42.2 x41.1 x42.1).bind fun x43=>
           (YN (⟨#[119,104,101,114,101]⟩:ByteArray) [x38.1,x40,x43.1]).bind fun x44=>
           some (x44,x43.2)
          else
           if (decide (x2.1=9)) then
            (QL x2.2).bind fun x45=>
            (QL x45.2).bind fun x46=>
            (Q2 k x46.2).bind fun x47=>
            (ZN k x47.2 a1 (IntKind.i64.wrap (a2-1))).bind fun x48=>
            (Yw x48.2 x47.1 x48.1).bind fun x49=>
            (YN (⟨#[103,114,111,117,112]⟩:ByteArray) [x45.1,x46.1,x49.1]).bind fun x50=>
            some (x50,x49.2)
           else
            if (decide (x2.1=10)) then
             (Q2 k x2.2).bind fun x51=>
             (ZN k x51.2 a1 (IntKind.i64.wrap (a2-1))).bind fun x52=>
             (Yw x52.2 x51.1 x52.1).bind fun x53=>
             (YN (⟨#[114,111,119,115]⟩:ByteArray) [x53.1]).bind fun x54=>
             some (x54,x53.2)
            else
             if (decide (x2.1=11)) then
              (ZD x2.2 6).bind fun x55=>
              (Yr (IntKind.i64.wrap (1+x55.1))).bind fun x56=>
              (YN (⟨#[99,104,97,110,99,101]⟩:ByteArray) [x56]).bind fun x57=>
              some (x57,x55.2)
             else
              (YN (⟨#[99,108,111,99,107]⟩:ByteArray) []).bind fun x58=>
              (YJ x2.2 [(⟨#[102]⟩:ByteArray),(⟨#[103]⟩:ByteArray),(⟨#[104]⟩:ByteArray)]).bind fun x59=>
              (YN (⟨#[102,105,108,101]⟩:ByteArray) [(Za.mk 2 0 x59.1 [])]).bind fun x60=>
              (Yw x59.2 x58 x60).bind fun x61=>
              some (x61.1,x61.2)
def W0 (k:Nat) (a0:Zf):Option (Za×Zf):=
 (ZD a0 4).bind fun x1=>
 (ZN k x1.2 [(⟨#[97]⟩:ByteArray),(⟨#[98]⟩:ByteArray),(⟨#[99]⟩:ByteArray)] (IntKind.i64.wrap (1+x1.1))).bind fun x2=>
 (ZJ k x2.1).bind fun x3=>
 if (!x3) then
  (Xi x2.2 [(⟨#[97]⟩:ByteArray),(⟨#[98]⟩:ByteArray),(⟨#[99]⟩:ByteArray)]).bind fun x4=>
  some (x4.1,x4.2)
 else
  some (x2.1,x2.2)
def XF (a0:Zf) (a1:List Int):Option (Int×Zf):=
 (ZD a0 (a1.length:Int)).bind fun x1=>
 (at? a1 x1.1).bind fun x2=>
 some (x2,x1.2)
def Y3 (x9:Int×Zf):Nat→Int→Int→ByteArray→(List Za)→Int→Option (Int×Int×ByteArray×(List Za)×(List Int)×Int×Int)
 | 0,_,_,_,_,_=>none
 | n_+1,x15,x16,x17,x18,x19=>
  if (decide (x19<7)) then
   (Yr x19).bind fun x20=>
   (Q3 1 (Za.mk x15 x16 x17 x18) x20).bind fun x21=>
   Y3 x9 n_ x21.kind x21.n x21.text x21.args (IntKind.i64.wrap (x19+1))
  else
   some (x15,x16,x17,x18,x9.2.b,x9.2.i,x9.2.h)
def W1 (k:Nat) (a0:Zf):Option (Za×Zf):=
 (W0 k a0).bind fun x1=>
 ((ZD x1.2 12).bind fun x9=>
 if (decide (x9.1=0)) then
  (ZD x9.2 11).bind fun x10=>
  some (x10.1,x1.1.n,x1.1.text,x1.1.args,x10.2.b,x10.2.i,x10.2.h)
 else
  if (decide (x9.1=1)) then
   (Xi x9.2 [(⟨#[97]⟩:ByteArray)]).bind fun x11=>
   (Xm 56 x1.1.args [x11.1]).bind fun x12=>
   some (x1.1.kind,x1.1.n,x1.1.text,x12,x11.2.b,x11.2.i,x11.2.h)
  else
   if (decide (x9.1=2)) then
    (YJ x9.2 [(⟨#[108,101,116]⟩:ByteArray),(⟨#[115,117,109]⟩:ByteArray),(⟨#[]⟩:ByteArray),(⟨#[120]⟩:ByteArray)]).bind fun x13=>
    some (x1.1.kind,x1.1.n,x13.1,x1.1.args,x13.2.b,x13.2.i,x13.2.h)
   else
    if (decide (x9.1=3)) then
     (XF x9.2 [(-1),7,1000000001]).bind fun x14=>
     some (x1.1.kind,x14.1,x1.1.text,x1.1.args,x14.2.b,x14.2.i,x14.2.h)
    else
     if (decide (x9.1=4)) then
      Y3 x9 k x1.1.kind x1.1.n x1.1.text x1.1.args 0
     else
      some (x1.1.kind,x1.1.n,x1.1.text,x1.1.args,x9.2.b,x9.2.i,x9.2.h)).bind fun (x2,x3,x4,x5,x6,x7,x8)=>
 some ((Za.mk x2 x3 x4 x5),(Zf.mk x6 x7 x8))
def Qc (k:Nat) (a0:List Int):Option Za:=
 (JD k a0).bind fun x1=>
 (Wf k x1 (⟨#[100]⟩:ByteArray)).bind fun x2=>
 (Wf k x2.2 x2.1).bind fun x3=>
 (Ql k x3.1).bind fun x4=>
 (Wu x3.2 3).bind fun x5=>
 if x5.1 then
  (W1 k x5.2).bind fun x6=>
  some x6.1
 else
  some x4.1
end Go.Proofs.Ytneeinggggadpaa
namespace Go.Proofs.Ytneeinggggadpaa
open Go.RowKit Am
def Yj (rec_i_NodeCount:Za→Option Int) (a0:Za):Nat→Int→Int→Option Int
 | 0,_,_=>none
 | n_+1,x2,x3=>
  if (decide (x3<(a0.args.length:Int))) then
   (at? a0.args x3).bind fun x4=>
   (rec_i_NodeCount x4).bind fun x5=>
   Yj rec_i_NodeCount a0 n_ (IntKind.i64.wrap (x2+x5)) (IntKind.i64.wrap (x3+1))
  else
   some x2
def YD:Nat→Za→Option Int
 | 0,_=>none
 | k+1,a0=>
  (Yj (YD k) a0 k 1 0).bind fun x1=>
  some x1
def Yk (rec_i_NestingOf:Za→Option Int) (a0:Za):Nat→Int→Int→Option Int
 | 0,_,_=>none
 | n_+1,x2,x3=>
  if (decide (x3<(a0.args.length:Int))) then
   (at? a0.args x3).bind fun x4=>
   (rec_i_NestingOf x4).bind fun x5=>
   Yk rec_i_NestingOf a0 n_ (if x5>x2 then x5 else x2) (IntKind.i64.wrap (x3+1))
  else
   some x2
def Yt:Nat→Za→Option Int
 | 0,_=>none
 | k+1,a0=>
  (Yk (Yt k) a0 k 0 0).bind fun x1=>
  some (IntKind.i64.wrap (x1+1))
def XA (a0:Int) (a1:Int) (a2:Int):Option Bool:=
 (if (decide (a1≤a0)) then
  some (decide (a0≤a2))
 else
  some false).bind fun x1=>
 some x1
def Z3 (a0:ByteArray):Nat→Int→Option (Unit ⊕ Bool)
 | 0,_=>none
 | n_+1,x1=>
  if (decide (x1<(a0.size:Int))) then
   ((at? a0.data.toList x1).bind fun x3=>
   if (decide ((x3.toNat:Int)<32)) then
    some true
   else
    if (decide (126<(x3.toNat:Int))) then
     some true
    else
     some (decide ((x3.toNat:Int)=34))).bind fun x2=>
   if x2 then
    some (.inr false)
   else
    Z3 a0 n_ (IntKind.i64.wrap (x1+1))
  else
   some (.inl ())
def Y8 (k:Nat) (a0:ByteArray):Option Bool:=
 (Z3 a0 k 0:Option (Unit ⊕ Bool)).bind fun
  | .inl _=>(
   some (decide ((a0.size:Int)≤20)))
  | .inr z4=>(
   some z4)
def Qp (a0:ByteArray):Nat→Int→Option (Unit ⊕ Bool)
 | 0,_=>none
 | n_+1,x1=>
  if (decide (x1<(a0.size:Int))) then
   ((at? a0.data.toList x1).bind fun x3=>
   if (decide (97≤(x3.toNat:Int))) then
    some (decide ((x3.toNat:Int)≤122))
   else
    some false).bind fun x2=>
   (if (!x2) then
    if (decide (x1=0)) then
     some true
    else
     (at? a0.data.toList x1).bind fun x5=>
     if (decide ((x5.toNat:Int)<48)) then
      some true
     else
      some (decide (57<(x5.toNat:Int)))
   else
    some false).bind fun x4=>
   if x4 then
    some (.inr false)
   else
    Qp a0 n_ (IntKind.i64.wrap (x1+1))
  else
   some (.inl ())
def Uh (k:Nat) (a0:ByteArray):Option Bool:=
 (Qp a0 k 0:Option (Unit ⊕ Bool)).bind fun
  | .inl _=>(
   (XA (a0.size:Int) 1 8).bind fun x6=>
   some x6)
  | .inr z7=>(
   some z7)
def Zm (a0:ByteArray):Option Int:=
 if (decide (a0=(⟨#[99,108,111,99,107]⟩:ByteArray))) then
  some 0
 else
  (if (decide (a0=(⟨#[108,101,110]⟩:ByteArray))) then
   some true
  else
   if (decide (a0=(⟨#[115,117,109]⟩:ByteArray))) then
    some true
   else
    if (decide (a0=(⟨#[114,111,119,115]⟩:ByteArray))) then
     some true
    else
     if (decide (a0=(⟨#[99,104,97,110,99,101]⟩:ByteArray))) then
      some true
     else
      some (decide (a0=(⟨#[102,105,108,101]⟩:ByteArray)))).bind fun x1=>
  if x1 then
   some 1
  else
   (if (decide (a0=(⟨#[116,97,107,101]⟩:ByteArray))) then
    some true
   else
    if (decide (a0=(⟨#[115,107,105,112]⟩:ByteArray))) then
     some true
    else
     if (decide (a0=(⟨#[114,97,110,103,101]⟩:ByteArray))) then
      some true
     else
      if (decide (a0=(⟨#[110,116,104]⟩:ByteArray))) then
       some true
      else
       if (decide (a0=(⟨#[107,101,101,112]⟩:ByteArray))) then
        some true
       else
        if (decide (a0=(⟨#[99,111,108,117,109,110]⟩:ByteArray))) then
         some true
        else
         some (decide (a0=(⟨#[116,97,98,108,101]⟩:ByteArray)))).bind fun x2=>
   if x2 then
    some 2
   else
    (if (decide (a0=(⟨#[119,104,101,114,101]⟩:ByteArray))) then
     some true
    else
     if (decide (a0=(⟨#[103,114,111,117,112]⟩:ByteArray))) then
      some true
     else
      some (decide (a0=(⟨#[106,111,105,110]⟩:ByteArray)))).bind fun x3=>
    if x3 then
     some 3
    else
     if (decide (a0=(⟨#[97,100,100]⟩:ByteArray))) then
      some 4
     else
      some (-1)
def Xl (a0:ByteArray):Option Bool:=
 (if (decide (a0=(⟨#[108,101,116]⟩:ByteArray))) then
  some true
 else
  if (decide (a0=(⟨#[105,110]⟩:ByteArray))) then
   some true
  else
   if (decide (a0=(⟨#[105,102]⟩:ByteArray))) then
    some true
   else
    if (decide (a0=(⟨#[116,104,101,110]⟩:ByteArray))) then
     some true
    else
     if (decide (a0=(⟨#[101,108,115,101]⟩:ByteArray))) then
      some true
     else
      if (decide (a0=(⟨#[102,111,114]⟩:ByteArray))) then
       some true
      else
       some (decide (a0=(⟨#[100,111]⟩:ByteArray)))).bind fun x1=>
 if x1 then
  some true
 else
  (Zm a0).bind fun x2=>
  some (decide (0≤x2))
def ZY (k:Nat) (a0:ByteArray):Option Bool:=
 ((Uh k a0).bind fun x2=>
 if x2 then
  (Xl a0).bind fun x3=>
  some (!x3)
 else
  some false).bind fun x1=>
 some x1
def Qz (k:Nat) (a0:Za):Option Bool:=
 if (decide (a0.kind=1)) then
  ((XA a0.n 0 1000000000).bind fun x2=>
  if x2 then
   if (decide (a0.text=(⟨#[]⟩:ByteArray))) then
    some (decide ((a0.args.length:Int)=0))
   else
    some false
  else
   some false).bind fun x1=>
  some x1
 else
  if (decide (a0.kind=2)) then
   (if (decide (a0.n=0)) then
    (Y8 k a0.text).bind fun x4=>
    if x4 then
     some (decide ((a0.args.length:Int)=0))
    else
     some false
   else
    some false).bind fun x3=>
   some x3
  else
   if (decide (a0.kind=3)) then
    (if (decide (a0.n=0)) then
     (ZY k a0.text).bind fun x6=>
     if x6 then
      some (decide ((a0.args.length:Int)=0))
     else
      some false
    else
     some false).bind fun x5=>
    some x5
   else
    if (decide (a0.kind=4)) then
     (if (decide (a0.n=0)) then
      if (decide (a0.text=(⟨#[]⟩:ByteArray))) then
       some (decide ((a0.args.length:Int)≤8))
      else
       some false
     else
      some false).bind fun x7=>
     some x7
    else
     if (decide (a0.kind=5)) then
      (if (decide (a0.n=0)) then
       (Zm a0.text).bind fun x9=>
       some (decide ((a0.args.length:Int)=x9))
      else
       some false).bind fun x8=>
      some x8
     else
      if (decide (a0.kind=6)) then
       ((XA a0.n 1 5).bind fun x11=>
       if x11 then
        if (decide (a0.text=(⟨#[]⟩:ByteArray))) then
         some (decide ((a0.args.length:Int)=2))
        else
         some false
       else
        some false).bind fun x10=>
       some x10
      else
       (if (decide (a0.kind=7)) then
        some true
       else
        some (decide (a0.kind=9))).bind fun x12=>
       if x12 then
        (if (decide (a0.n=0)) then
         (ZY k a0.text).bind fun x14=>
         if x14 then
          some (decide ((a0.args.length:Int)=2))
         else
          some false
        else
         some false).bind fun x13=>
        some x13
       else
        if (decide (a0.kind=8)) then
         (if (decide (a0.n=0)) then
          if (decide (a0.text=(⟨#[]⟩:ByteArray))) then
           some (decide ((a0.args.length:Int)=3))
          else
           some false
         else
          some false).bind fun x15=>
         some x15
        else
         some false
def Yi (rec_i_areNodes:Za→Option Bool) (a0:Za):Nat→Int→Option (Unit ⊕ Bool)
 | 0,_=>none
 | n_+1,x1=>
  if (decide (x1<(a0.args.length:Int))) then
   (at? a0.args x1).bind fun x2=>
   (rec_i_areNodes x2).bind fun x3=>
   if (!x3) then
    some (.inr false)
   else
    Yi rec_i_areNodes a0 n_ (IntKind.i64.wrap (x1+1))
  else
   some (.inl ())
def ZE:Nat→Za→Option Bool
 | 0,_=>none
 | k+1,a0=>
  (Yi (ZE k) a0 k 0:Option (Unit ⊕ Bool)).bind fun
   | .inl _=>(
    (Qz k a0).bind fun x4=>
    some x4)
   | .inr z5=>(
    some z5)
def ZR (k:Nat) (a0:Za):Option Bool:=
 ((YD k a0).bind fun x2=>
 if (decide (x2≤40)) then
  (Yt k a0).bind fun x3=>
  if (decide (x3≤8)) then
   (ZE k a0).bind fun x4=>
   some x4
  else
   some false
 else
  some false).bind fun x1=>
 some x1
def Z9 (rec_i_isPipe:Za→Option Bool) (a0:Za) (x1:Int):Nat→Int→Option (Unit ⊕ Bool)
 | 0,_=>none
 | n_+1,x3=>
  if (decide (x3<(a0.args.length:Int))) then
   ((at? a0.args x3).bind fun x4=>
   if (decide ((IntKind.i64.wrap ((a0.args.length:Int)-x1))≤x3)) then
    (rec_i_isPipe x4).bind fun x5=>
    if (!x5) then
     some (.inr false)
    else
     some (.inl ())
   else
    (if (!decide (x4.kind=1)) then
     some (!decide (x4.kind=2))
    else
     some false).bind fun x6=>
    if x6 then
     some (.inr false)
    else
     some (.inl ()):Option (Unit ⊕ Bool)).bind fun
    | .inl _=>(
     Z9 rec_i_isPipe a0 x1 n_ (IntKind.i64.wrap (x3+1)))
    | .inr z7=>(
     some (.inr z7))
  else
   some (.inl ())
def Zn:Nat→Za→Option Bool
 | 0,_=>none
 | k+1,a0=>
  if (decide (a0.kind=3)) then
   some true
  else
   ((if (decide (a0.text=(⟨#[119,104,101,114,101]⟩:ByteArray))) then
     some true
   else
    if (decide (a0.text=(⟨#[107,101,101,112]⟩:ByteArray))) then
     some true
    else
     if (decide (a0.text=(⟨#[97,100,100]⟩:ByteArray))) then
      some true
     else
      some (decide (a0.text=(⟨#[103,114,111,117,112]⟩:ByteArray)))).bind fun x2=>
   if x2 then
    some (.inl 1)
   else
    if (decide (a0.text=(⟨#[106,111,105,110]⟩:ByteArray))) then
     some (.inl 2)
    else
     some (.inr false):Option (Int ⊕ Bool)).bind fun
    | .inl x1=>(
     if (!decide (a0.kind=5)) then
      some false
     else
      (Z9 (Zn k) a0 x1 k 0:Option (Unit ⊕ Bool)).bind fun
       | .inl _=>(
        some true)
       | .inr z8=>(
        some z8))
    | .inr z9=>(
     some z9)
def Yn (k:Nat) (a0:Za):Option Bool:=
 ((ZR k a0).bind fun x2=>
 if x2 then
  (Zn k a0).bind fun x3=>
  some x3
 else
  some false).bind fun x1=>
 some x1
def YU (a0:ByteArray):Option Int:=
 (if (decide (a0=(⟨#[119,104,101,114,101]⟩:ByteArray))) then
  some true
 else
  if (decide (a0=(⟨#[107,101,101,112]⟩:ByteArray))) then
   some true
  else
   if (decide (a0=(⟨#[97,100,100]⟩:ByteArray))) then
    some true
   else
    some (decide (a0=(⟨#[103,114,111,117,112]⟩:ByteArray)))).bind fun x1=>
 if x1 then
  some 1
 else
  if (decide (a0=(⟨#[106,111,105,110]⟩:ByteArray))) then
   some 2
  else
   some 0
end Go.Proofs.Ytneeinggggadpaa
namespace Go.Proofs.Ytneeinggggadpaa
open Go.RowKit Am
def Y0 (rec_s_l36Pipe:Za→Option Bool) (a0:Za) (x1:Int):Nat→Int→Option (Unit ⊕ Bool)
 | 0,_=>none
 | n_+1,x3=>
  if (decide (x3<(a0.args.length:Int))) then
   (at? a0.args x3).bind fun x4=>
   (if (decide (x3<(IntKind.i64.wrap ((a0.args.length:Int)-x1)))) then
    if (!decide (x4.kind=1)) then
     if (!decide (x4.kind=2)) then
      some true
     else
      some false
    else
     some false
   else
    (rec_s_l36Pipe x4).bind fun x6=>
    some (!x6)).bind fun x5=>
   if x5 then
    some (.inr false)
   else
    Y0 rec_s_l36Pipe a0 x1 n_ (IntKind.i64.wrap (x3+1))
  else
   some (.inl ())
def ZW:Nat→Za→Option Bool
 | 0,_=>none
 | k+1,a0=>
  if (decide (a0.kind=3)) then
   some true
  else
   (YU a0.text).bind fun x1=>
   (if (!decide (a0.kind=5)) then
    some true
   else
    some (decide (x1=0))).bind fun x2=>
   if x2 then
    some false
   else
    (Y0 (ZW k) a0 x1 k 0:Option (Unit ⊕ Bool)).bind fun
     | .inl _=>(
      some true)
     | .inr z7=>(
      some z7)
def Qm (k:Nat) (a0:Za):Option Bool:=
 ((ZJ k a0).bind fun x2=>
 if x2 then
  (ZW k a0).bind fun x3=>
  some x3
 else
  some false).bind fun x1=>
 some x1
def Yf (rec_s_HasEffect:Za→Option Bool) (a0:Za):Nat→Int→Option (Unit ⊕ Bool)
 | 0,_=>none
 | n_+1,x2=>
  if (decide (x2<(a0.args.length:Int))) then
   (at? a0.args x2).bind fun x3=>
   (rec_s_HasEffect x3).bind fun x4=>
   if x4 then
    some (.inr true)
   else
    Yf rec_s_HasEffect a0 n_ (IntKind.i64.wrap (x2+1))
  else
   some (.inl ())
def ZS:Nat→Za→Option Bool
 | 0,_=>none
 | k+1,a0=>
  (if (decide (a0.kind=5)) then
   if (decide (a0.text=(⟨#[99,108,111,99,107]⟩:ByteArray))) then
    some true
   else
    if (decide (a0.text=(⟨#[99,104,97,110,99,101]⟩:ByteArray))) then
     some true
    else
     some (decide (a0.text=(⟨#[102,105,108,101]⟩:ByteArray)))
  else
   some false).bind fun x1=>
  if x1 then
   some true
  else
   (Yf (ZS k) a0 k 0:Option (Unit ⊕ Bool)).bind fun
    | .inl _=>(
     some false)
    | .inr z5=>(
     some z5)
def Yb (rec_s_l13Bound:Za→Option (List ByteArray)) (a0:Za):Nat→(List ByteArray)→Int→Option (List ByteArray)
 | 0,_,_=>none
 | n_+1,x5,x6=>
  if (decide (x6<(a0.args.length:Int))) then
   (at? a0.args x6).bind fun x7=>
   (rec_s_l13Bound x7).bind fun x8=>
   (Xm 16 x5 x8).bind fun x9=>
   Yb rec_s_l13Bound a0 n_ x9 (IntKind.i64.wrap (x6+1))
  else
   some x5
def Yq:Nat→Za→Option (List ByteArray)
 | 0,_=>none
 | k+1,a0=>
  ((if (decide (a0.kind=7)) then
    some true
  else
   some (decide (a0.kind=9))).bind fun x2=>
  if x2 then
   (Xm 16 ([]:List ByteArray) [a0.text]).bind fun x3=>
   some x3
  else
   some ([]:List ByteArray)).bind fun x1=>
  (Yb (Yq k) a0 k x1 0).bind fun x4=>
  some x4
def Yz (a0:List ByteArray) (x2:List ByteArray) (x3:Int):Nat→Int→Option Int
 | 0,_=>none
 | n_+1,x6=>
  (if (decide (x6<(x2.length:Int))) then
   (at? x2 x6).bind fun x8=>
   (at? a0 x3).bind fun x9=>
   some (Zc3 x8 x9)
  else
   some false).bind fun x7=>
  if x7 then
   Yz a0 x2 x3 n_ (IntKind.i64.wrap (x6+1))
  else
   some x6
def YA (k:Nat) (a0:List ByteArray):Nat→(List ByteArray)→Int→Option (List ByteArray)
 | 0,_,_=>none
 | n_+1,x2,x3=>
  if (decide (x3<(a0.length:Int))) then
   ((Yz a0 x2 x3 k 0).bind fun x5=>
   (if (decide (x5<(x2.length:Int))) then
    (at? x2 x5).bind fun x11=>
    (at? a0 x3).bind fun x12=>
    some (decide (x11=x12))
   else
    some false).bind fun x10=>
   if x10 then
    some x2
   else
    (ZgB x2 x5 (x2.length:Int)).bind fun x13=>
    (Xm 16 ([]:List ByteArray) x13).bind fun x14=>
    (ZgB x2 0 x5).bind fun x15=>
    (at? a0 x3).bind fun x16=>
    (Xm 16 x15 [x16]).bind fun x17=>
    (Xm 16 x17 x14).bind fun x18=>
    some x18).bind fun x4=>
   YA k a0 n_ x4 (IntKind.i64.wrap (x3+1))
  else
   some x2
def QM (k:Nat) (a0:List ByteArray):Option (List ByteArray):=
 (YA k a0 k ([]:List ByteArray) 0).bind fun x1=>
 some x1
def Xk (k:Nat) (a0:Za):Option (List ByteArray):=
 (Yq k a0).bind fun x1=>
 (QM k x1).bind fun x2=>
 some x2
def Yx (rec_s_l13Free:Za→(List ByteArray)→Option (List ByteArray)) (a0:Za) (a1:List ByteArray):Nat→(List ByteArray)→Int→Option (List ByteArray)
 | 0,_,_=>none
 | n_+1,x5,x6=>
  if (decide (x6<(a0.args.length:Int))) then
   ((if (decide (a0.kind=7)) then
     some (decide (0<x6))
   else
    if (decide (a0.kind=9)) then
     some (decide (0<x6))
    else
     some false).bind fun x8=>
   if x8 then
    (Xm 16 ([]:List ByteArray) a1).bind fun x9=>
    (Xm 16 x9 [a0.text]).bind fun x10=>
    some x10
   else
    some a1).bind fun x7=>
   (at? a0.args x6).bind fun x11=>
   (rec_s_l13Free x11 x7).bind fun x12=>
   (Xm 16 x5 x12).bind fun x13=>
   Yx rec_s_l13Free a0 a1 n_ x13 (IntKind.i64.wrap (x6+1))
  else
   some x5
def Ym:Nat→Za→(List ByteArray)→Option (List ByteArray)
 | 0,_,_=>none
 | k+1,a0,a1=>
  (if (decide (a0.kind=3)) then
   (Uz k a1 a0.text).bind fun x2=>
   some (!x2)
  else
   some false).bind fun x1=>
  if x1 then
   (Xm 16 ([]:List ByteArray) [a0.text]).bind fun x3=>
   some x3
  else
   (Yx (Ym k) a0 a1 k ([]:List ByteArray) 0).bind fun x4=>
   some x4
def XK (k:Nat) (a0:Za):Option (List ByteArray):=
 (Ym k a0 ([]:List ByteArray)).bind fun x1=>
 (QM k x1).bind fun x2=>
 some x2
end Go.Proofs.Ytneeinggggadpaa
namespace Go.Proofs.Ytneeinggggadpaa
open Go.RowKit Am
mutual
def Za.bk:Za→Nat
 | ⟨kind,n,text,args⟩=>text.size+((args.length+Za.bks args)+(0))
def Za.bks:List Za→Nat
 | []=>0
 | x::xs=>Za.bk x+Za.bks xs
end
theorem Za.Zgc:∀xs:List Za,Za.bks xs=QB Za.bk xs
 | []=>rfl
 | x::xs=>by rw [Za.bks,Za.Zgc xs];rfl
theorem Za.Zbg (x:Za):x.bk=x.text.size+(bkS Za.bk x.args+(0)):=by
 cases x;simp only [Za.bk,Za.Zgc,bkS]
theorem Za.ind {p:Za→Prop} (h:∀x,(∀y∈x.args,p y)→p x):∀x,p x
 | ⟨kind,n,text,args⟩=>h _ fun y hy=>Za.ind h y
termination_by x=>SizeOf.sizeOf x
decreasing_by
 have:=List.sizeOf_lt_of_mem hy
 simp at this ⊢;omega
end Go.Proofs.Ytneeinggggadpaa
namespace Go.Proofs.Ytneeinggggadpaa
open Go.RowKit Am
def QR (a0:ByteArray):Nat→Int→Option Int
 | 0,_=>none
 | n_+1,x4=>
  (if (decide (x4<(a0.size:Int))) then
   (at? a0.data.toList x4).bind fun x6=>
   if (decide (97≤(x6.toNat:Int))) then
    if (decide ((x6.toNat:Int)≤122)) then
     some true
    else
     if (decide (48≤(x6.toNat:Int))) then
      some (decide ((x6.toNat:Int)≤57))
     else
      some false
   else
    if (decide (48≤(x6.toNat:Int))) then
     some (decide ((x6.toNat:Int)≤57))
    else
     some false
  else
   some false).bind fun x5=>
  if x5 then
   QR a0 n_ (IntKind.i64.wrap (x4+1))
  else
   some x4
def QQ (a0:ByteArray):Nat→Int→Option Int
 | 0,_=>none
 | n_+1,x10=>
  (if (decide (x10<(a0.size:Int))) then
   (at? a0.data.toList x10).bind fun x12=>
   if (decide (48≤(x12.toNat:Int))) then
    some (decide ((x12.toNat:Int)≤57))
   else
    some false
  else
   some false).bind fun x11=>
  if x11 then
   QQ a0 n_ (IntKind.i64.wrap (x10+1))
  else
   some x10
def Zcr (a0:ByteArray) (a1 a2:Int):Int×Bool:=
 match Lib.atoiAll a0.data.toList with
 | .ok n=>if a1≤n∧n≤a2∧(⟨(Lib.itoa n).toArray⟩:ByteArray)=a0 then (n,true) else (0,false)
 | _=>(0,false)
def ZbV (a0:ByteArray) (a1 a2:Int):Option (Int×Bool):=if a0.size≤281474976710656 then some (Zcr a0 a1 a2) else none
def Z7 (a0:ByteArray) (a1:Int):Option Int:=some (Lib.indexByte a0.data.toList a1.toNat.toUInt8)
def Z8 (a0 a1:ByteArray):Option Bool:=some (Lib.hasPrefix a0.data.toList a1.data.toList)
def YP (k:Nat) (a0:ByteArray) (a1:Int):Option (Ze×Int×Bool):=
 (at? a0.data.toList a1).bind fun x1=>
 (if (decide (97≤(x1.toNat:Int))) then
  some (decide ((x1.toNat:Int)≤122))
 else
  some false).bind fun x2=>
 if x2 then
  (QR a0 k a1).bind fun x3=>
  (WU a0 a1 x3).bind fun x7=>
  some ((Ze.mk 1 0 a1 x7),x3,(decide ((IntKind.i64.wrap (x3-a1))≤8)))
 else
  (if (decide (48≤(x1.toNat:Int))) then
   some (decide ((x1.toNat:Int)≤57))
  else
   some false).bind fun x8=>
  if x8 then
   (QQ a0 k a1).bind fun x9=>
   (WU a0 a1 x9).bind fun x13=>
   (ZbV x13 0 1000000000).bind fun x14=>
   some ((Ze.mk 2 x14.1 a1 (⟨#[]⟩:ByteArray)),x9,x14.2)
  else
   if (decide ((x1.toNat:Int)=34)) then
    (WU a0 (IntKind.i64.wrap (a1+1)) (a0.size:Int)).bind fun x15=>
    (Z7 x15 34).bind fun x16=>
    if (decide (x16<0)) then
     some ((Ze.mk 0 0 0 (⟨#[]⟩:ByteArray)),0,false)
    else
     (WU a0 (IntKind.i64.wrap (a1+1)) (IntKind.i64.wrap ((IntKind.i64.wrap (a1+1))+x16))).bind fun x17=>
     (Y8 k x17).bind fun x18=>
     some ((Ze.mk 3 0 a1 x17),(IntKind.i64.wrap ((IntKind.i64.wrap (a1+x16))+2)),x18)
   else
    (WU a0 a1 (a0.size:Int)).bind fun x19=>
    (Z8 x19 (⟨#[61,61]⟩:ByteArray)).bind fun x20=>
    if x20 then
     some ((Ze.mk 4 0 a1 (⟨#[61,61]⟩:ByteArray)),(IntKind.i64.wrap (a1+2)),true)
    else
     (WU a0 a1 (IntKind.i64.wrap (a1+1))).bind fun x21=>
     (Z7 (⟨#[40,41,91,93,44,43,45,42,60,61]⟩:ByteArray) (x1.toNat:Int)).bind fun x22=>
     some ((Ze.mk 4 0 a1 x21),(IntKind.i64.wrap (a1+1)),(decide (0≤x22)))
def ZQ (k:Nat) (a0:ByteArray):Nat→(List Ze)→Int→Option ((List Ze) ⊕ ((List Ze)×Int))
 | 0,_,_=>none
 | n_+1,x2,x3=>
  if (decide (x3<(a0.size:Int))) then
   (at? a0.data.toList x3).bind fun x4=>
   if (decide ((x4.toNat:Int)=32)) then
    ZQ k a0 n_ x2 (IntKind.i64.wrap (x3+1))
   else
    (YP k a0 x3).bind fun x5=>
    (if (!x5.2.2) then
     some true
    else
     some (decide ((x2.length:Int)=60))).bind fun x6=>
    if x6 then
     some (.inr ([],x3))
    else
     (Xm 40 x2 [x5.1]).bind fun x7=>
     ZQ k a0 n_ x7 x5.2.1
  else
   some (.inl x2)
def Wk (k:Nat) (a0:ByteArray):Option ((List Ze)×Int):=
 if (decide (120<(a0.size:Int))) then
  some ([],120)
 else
  (ZQ k a0 k ([]:List Ze) 0:Option ((List Ze) ⊕ ((List Ze)×Int))).bind fun
   | .inl x1=>(
    some (x1,(-1)))
   | .inr z8=>(
    some z8)
structure Zc where
 list:List Ze
 at_:Int
 bad:Int
def Zt (a0:Zc):Option (Ze×Zc):=
 (if (decide (a0.bad<0)) then
  some (decide (a0.at_<(a0.list.length:Int)))
 else
  some false).bind fun x1=>
 if x1 then
  (at? a0.list a0.at_).bind fun x2=>
  some (x2,a0)
 else
  some ((Ze.mk 0 0 0 (⟨#[]⟩:ByteArray)),a0)
def Vm (a0:Ze) (a1:ByteArray):Option Bool:=
 (if (decide (a0.kind=4)) then
  some (decide (a0.text=a1))
 else
  some false).bind fun x1=>
 some x1
def Zd (a0:Zc) (a1:ByteArray):Option (Bool×Zc):=
 (Zt a0).bind fun x1=>
 (Vm x1.1 a1).bind fun x2=>
 if x2 then
  some (true,(Zc.mk x1.2.list (IntKind.i64.wrap (x1.2.at_+1)) x1.2.bad))
 else
  some (false,x1.2)
def Ya (a0:Ze) (a1:ByteArray):Option Bool:=
 (if (decide (a0.kind=1)) then
  some (decide (a0.text=a1))
 else
  some false).bind fun x1=>
 some x1
def Yh (a0:Zc):Option (Za×Zc):=
 (if (decide (a0.bad<0)) then
  some a0.at_
 else
  some a0.bad).bind fun x1=>
 some ((Za.mk 0 0 (⟨#[]⟩:ByteArray) []),(Zc.mk a0.list a0.at_ x1))
def Zj (a0:Zc) (a1:ByteArray):Option Zc:=
 ((Zt a0).bind fun x5=>
 (Ya x5.1 a1).bind fun x6=>
 if x6 then
  some (x5.2.list,x5.2.at_,x5.2.bad,true)
 else
  (Zt x5.2).bind fun x7=>
  (Vm x7.1 a1).bind fun x8=>
  some (x7.2.list,x7.2.at_,x7.2.bad,x8)).bind fun (x1,x2,x3,x4)=>
 if x4 then
  some (Zc.mk x1 (IntKind.i64.wrap (x2+1)) x3)
 else
  (Yh (Zc.mk x1 x2 x3)).bind fun x9=>
  some x9.2
def YZ (rec_i_parser_expr:Zc→Option (Za×Zc)) (a1:ByteArray):Nat→(List Ze)→Int→Int→(List Za)→Option ((List Za)×(List Ze)×Int×Int)
 | 0,_,_,_,_=>none
 | n_+1,x6,x7,x8,x9=>
  if (decide (x8<0)) then
   (rec_i_parser_expr (Zc.mk x6 x7 x8)).bind fun x10=>
   (Xm 56 x9 [x10.1]).bind fun x11=>
   (Zd x10.2 a1).bind fun x12=>
   if x12.1 then
    some (x11,x12.2.list,x12.2.at_,x12.2.bad)
   else
    (Zj x12.2 (⟨#[44]⟩:ByteArray)).bind fun x13=>
    YZ rec_i_parser_expr a1 n_ x13.list x13.at_ x13.bad x11
  else
   some (x9,x6,x7,x8)
def YC (rec_i_parser_atom:Zc→Option (Za×Zc)):Nat→(List Ze)→Int→Int→Int→Int→ByteArray→(List Za)→Option (Int×Int×ByteArray×(List Za)×(List Ze)×Int×Int)
 | 0,_,_,_,_,_,_,_=>none
 | n_+1,x9,x10,x11,x12,x13,x14,x15=>
  (Zd (Zc.mk x9 x10 x11) (⟨#[42]⟩:ByteArray)).bind fun x16=>
  if x16.1 then
   (rec_i_parser_atom x16.2).bind fun x17=>
   YC rec_i_parser_atom n_ x17.2.list x17.2.at_ x17.2.bad 6 3 (⟨#[]⟩:ByteArray) [(Za.mk x12 x13 x14 x15),x17.1]
  else
   some (x12,x13,x14,x15,x16.2.list,x16.2.at_,x16.2.bad)
def Qo (rec_i_parser_product:Zc→Option (Za×Zc)):Nat→(List Ze)→Int→Int→Int→Int→ByteArray→(List Za)→Option (Int×Int×ByteArray×(List Za)×(List Ze)×Int×Int)
 | 0,_,_,_,_,_,_,_=>none
 | n_+1,x9,x10,x11,x12,x13,x14,x15=>
  if (decide (x11<0)) then
   ((Zd (Zc.mk x9 x10 x11) (⟨#[43]⟩:ByteArray)).bind fun x23=>
   if (!x23.1) then
    (Zd x23.2 (⟨#[45]⟩:ByteArray)).bind fun x24=>
    if (!x24.1) then
     some (.inr (x24.2.list,x24.2.at_,x24.2.bad))
    else
     some (.inl (x24.2.list,x24.2.at_,x24.2.bad,2))
   else
    some (.inl (x23.2.list,x23.2.at_,x23.2.bad,1)):Option (((List Ze)×Int×Int×Int) ⊕ ((List Ze)×Int×Int))).bind fun
    | .inl (x16,x17,x18,x19)=>(
     (rec_i_parser_product (Zc.mk x16 x17 x18)).bind fun x25=>
     Qo rec_i_parser_product n_ x25.2.list x25.2.at_ x25.2.bad 6 x19 (⟨#[]⟩:ByteArray) [(Za.mk x12 x13 x14 x15),x25.1])
    | .inr (x20,x21,x22)=>(
     some (x12,x13,x14,x15,x20,x21,x22))
  else
   some (x12,x13,x14,x15,x9,x10,x11)
def Yg (k:Nat) (a0:Zc):Option (ByteArray×Zc):=
 (Zt a0).bind fun x1=>
 (if (!decide (x1.1.kind=1)) then
  some true
 else
  (ZY k x1.1.text).bind fun x3=>
  some (!x3)).bind fun x2=>
 if x2 then
  (Yh x1.2).bind fun x4=>
  some ((⟨#[]⟩:ByteArray),x4.2)
 else
  some (x1.1.text,(Zc.mk x1.2.list (IntKind.i64.wrap (x1.2.at_+1)) x1.2.bad))
def UK (a0:Int):Option ByteArray:=
 (XA a0 1 5).bind fun x1=>
 if (!x1) then
  some (⟨#[63]⟩:ByteArray)
 else
  (at? [(⟨#[43]⟩:ByteArray),(⟨#[45]⟩:ByteArray),(⟨#[42]⟩:ByteArray),(⟨#[60]⟩:ByteArray),(⟨#[61,61]⟩:ByteArray)] (IntKind.i64.wrap (a0-1))).bind fun x2=>
  some x2
def YH (rec_i_parser_sum:Zc→Option (Za×Zc)) (x29:Za×Zc):Nat→(List Ze)→Int→Int→Int→Option (((List Ze)×Int×Int) ⊕ (Za×Zc))
 | 0,_,_,_,_=>none
 | n_+1,x33,x34,x35,x36=>
  if (decide (x36<([4,5].length:Int))) then
   (at? [4,5] x36).bind fun x37=>
   (UK x37).bind fun x38=>
   (Zd (Zc.mk x33 x34 x35) x38).bind fun x39=>
   if x39.1 then
    (rec_i_parser_sum x39.2).bind fun x40=>
    some (.inr ((Za.mk 6 x37 (⟨#[]⟩:ByteArray) [x29.1,x40.1]),x40.2))
   else
    YH rec_i_parser_sum x29 n_ x39.2.list x39.2.at_ x39.2.bad (IntKind.i64.wrap (x36+1))
  else
   some (.inl (x33,x34,x35))
mutual
def YV:Nat→Zc→ByteArray→Option ((List Za)×Zc)
 | 0,_,_=>none
 | k+1,a0,a1=>
  (Zd a0 a1).bind fun x1=>
  if x1.1 then
   some (([]:List Za),x1.2)
  else
   (YZ (Zg k) a1 k x1.2.list x1.2.at_ x1.2.bad ([]:List Za)).bind fun (x2,x3,x4,x5)=>
   some (x2,(Zc.mk x3 x4 x5))
def Zu:Nat→Zc→Option (Za×Zc)
 | 0,_=>none
 | k+1,a0=>
  (Zt a0).bind fun x1=>
  if (decide (x1.1.kind=2)) then
   some ((Za.mk 1 x1.1.n (⟨#[]⟩:ByteArray) []),(Zc.mk x1.2.list (IntKind.i64.wrap (x1.2.at_+1)) x1.2.bad))
  else
   if (decide (x1.1.kind=3)) then
    some ((Za.mk 2 0 x1.1.text []),(Zc.mk x1.2.list (IntKind.i64.wrap (x1.2.at_+1)) x1.2.bad))
   else
    (if (decide (x1.1.kind=1)) then
     (ZY k x1.1.text).bind fun x3=>
     some x3
    else
     some false).bind fun x2=>
    if x2 then
     some ((Za.mk 3 0 x1.1.text []),(Zc.mk x1.2.list (IntKind.i64.wrap (x1.2.at_+1)) x1.2.bad))
    else
     (if (decide (x1.1.kind=1)) then
      (Zm x1.1.text).bind fun x5=>
      some (decide (0≤x5))
     else
      some false).bind fun x4=>
     if x4 then
      (Zj (Zc.mk x1.2.list (IntKind.i64.wrap (x1.2.at_+1)) x1.2.bad) (⟨#[40]⟩:ByteArray)).bind fun x6=>
      (YV k x6 (⟨#[41]⟩:ByteArray)).bind fun x7=>
      some ((Za.mk 5 0 x1.1.text x7.1),x7.2)
     else
      (Zd x1.2 (⟨#[91]⟩:ByteArray)).bind fun x8=>
      if x8.1 then
       (YV k x8.2 (⟨#[93]⟩:ByteArray)).bind fun x9=>
       some ((Za.mk 4 0 (⟨#[]⟩:ByteArray) x9.1),x9.2)
      else
       (Zd x8.2 (⟨#[40]⟩:ByteArray)).bind fun x10=>
       if x10.1 then
        (Zg k x10.2).bind fun x11=>
        (Zj x11.2 (⟨#[41]⟩:ByteArray)).bind fun x12=>
        some (x11.1,x12)
       else
        (Yh x10.2).bind fun x13=>
        some (x13.1,x13.2)
def Zp:Nat→Zc→Option (Za×Zc)
 | 0,_=>none
 | k+1,a0=>
  (Zu k a0).bind fun x1=>
  (YC (Zu k) k x1.2.list x1.2.at_ x1.2.bad x1.1.kind x1.1.n x1.1.text x1.1.args).bind fun (x2,x3,x4,x5,x6,x7,x8)=>
  some ((Za.mk x2 x3 x4 x5),(Zc.mk x6 x7 x8))
def Z2:Nat→Zc→Option (Za×Zc)
 | 0,_=>none
 | k+1,a0=>
  (Zp k a0).bind fun x1=>
  (Qo (Zp k) k x1.2.list x1.2.at_ x1.2.bad x1.1.kind x1.1.n x1.1.text x1.1.args).bind fun (x2,x3,x4,x5,x6,x7,x8)=>
  some ((Za.mk x2 x3 x4 x5),(Zc.mk x6 x7 x8))
def Zg:Nat→Zc→Option (Za×Zc)
 | 0,_=>none
 | k+1,a0=>
  (Zt a0).bind fun x1=>
  (Ya x1.1 (⟨#[108,101,116]⟩:ByteArray)).bind fun x2=>
  if x2 then
   (Yg k (Zc.mk x1.2.list (IntKind.i64.wrap (x1.2.at_+1)) x1.2.bad)).bind fun x3=>
   (Zj x3.2 (⟨#[61]⟩:ByteArray)).bind fun x4=>
   (Zg k x4).bind fun x5=>
   (Xm 56 ([]:List Za) [x5.1]).bind fun x6=>
   (Zj x5.2 (⟨#[105,110]⟩:ByteArray)).bind fun x7=>
   (Zg k x7).bind fun x8=>
   (Xm 56 x6 [x8.1]).bind fun x9=>
   some ((Za.mk 7 0 x3.1 x9),x8.2)
  else
   (Zt x1.2).bind fun x10=>
   (Ya x10.1 (⟨#[105,102]⟩:ByteArray)).bind fun x11=>
   if x11 then
    (Zg k (Zc.mk x10.2.list (IntKind.i64.wrap (x10.2.at_+1)) x10.2.bad)).bind fun x12=>
    (Xm 56 ([]:List Za) [x12.1]).bind fun x13=>
    (Zj x12.2 (⟨#[116,104,101,110]⟩:ByteArray)).bind fun x14=>
    (Zg k x14).bind fun x15=>
    (Xm 56 x13 [x15.1]).bind fun x16=>
    (Zj x15.2 (⟨#[101,108,115,101]⟩:ByteArray)).bind fun x17=>
    (Zg k x17).bind fun x18=>
    (Xm 56 x16 [x18.1]).bind fun x19=>
    some ((Za.mk 8 0 (⟨#[]⟩:ByteArray) x19),x18.2)
   else
    (Zt x10.2).bind fun x20=>
    (Ya x20.1 (⟨#[102,111,114]⟩:ByteArray)).bind fun x21=>
    if x21 then
     (Yg k (Zc.mk x20.2.list (IntKind.i64.wrap (x20.2.at_+1)) x20.2.bad)).bind fun x22=>
     (Zj x22.2 (⟨#[105,110]⟩:ByteArray)).bind fun x23=>
     (Zg k x23).bind fun x24=>
     (Xm 56 ([]:List Za) [x24.1]).bind fun x25=>
     (Zj x24.2 (⟨#[100,111]⟩:ByteArray)).bind fun x26=>
     (Zg k x26).bind fun x27=>
     (Xm 56 x25 [x27.1]).bind fun x28=>
     some ((Za.mk 9 0 x22.1 x28),x27.2)
    else
     (Z2 k x20.2).bind fun x29=>
     (YH (Z2 k) x29 k x29.2.list x29.2.at_ x29.2.bad 0:Option (((List Ze)×Int×Int) ⊕ (Za×Zc))).bind fun
      | .inl (x30,x31,x32)=>(
       some (x29.1,(Zc.mk x30 x31 x32)))
      | .inr z41=>(
       some z41)
end
def XN (k:Nat) (a0:ByteArray):Option (Za×Int):=
 (Wk k a0).bind fun x1=>
 if (decide (0≤x1.2)) then
  some ((Za.mk 0 0 (⟨#[]⟩:ByteArray) []),x1.2)
 else
  (Zg k (Zc.mk x1.1 0 (-1))).bind fun x2=>
  ((if (decide (x2.2.bad<0)) then
    some (decide (x2.2.at_<(x1.1.length:Int)))
  else
   some false).bind fun x4=>
  if x4 then
   some x2.2.at_
  else
   some x2.2.bad).bind fun x3=>
  if (decide ((x1.1.length:Int)≤x3)) then
   some ((Za.mk 0 0 (⟨#[]⟩:ByteArray) []),(a0.size:Int))
  else
   if (decide (0≤x3)) then
    (at? x1.1 x3).bind fun x5=>
    some ((Za.mk 0 0 (⟨#[]⟩:ByteArray) []),x5.at_)
   else
    (ZR k x2.1).bind fun x6=>
    if (!x6) then
     some ((Za.mk 0 0 (⟨#[]⟩:ByteArray) []),0)
    else
     some (x2.1,(-1))
end Go.Proofs.Ytneeinggggadpaa
