import Derived.Test.YtbkllghhcphkaaaGreatDoorJ5
import Derived.Shelf.Small.Strs
import Derived.Shelf.Strconv.Atoi
import Derived.Shelf.Strconv.Itoa0
import Derived.Shelf.Strconv.Itoa1
import Derived.Shelf.LaysM
import Derived.Shelf.Strconv.Itoa2
import Derived.Shelf.Strconv.Itoa3
import Derived.Shelf.Strconv.AtoiErrFast
import Derived.Shelf.Strconv.ParseIntEmpty
import Derived.Shelf.Strconv.AtoiFail
import Derived.Shelf.Strconv.Clone
import Derived.Shelf.Strconv.SyntaxError
import Derived.Shelf.LaysC
import Derived.Shelf.Strconv.ToError
import Derived.Shelf.Strconv.Lower
import Derived.Shelf.Strconv.ParseUint10
import Derived.Shelf.Strconv.ParseUint10Empty
import Derived.Shelf.Strconv.ParseUint10Any
import Derived.Shelf.Strconv.ParseInt10
import Derived.Shelf.Strconv.AtoiLong
import Derived.Shelf.Strconv.AtoiInnerAll
import Derived.Shelf.Strconv.RangeError
import Derived.Shelf.Strconv.ToErrorRange
import Derived.Shelf.Strconv.AtoiAll
import Derived.Shelf.Strings.Search1
import Derived.Shelf.Strings.Search2
import Derived.Shelf.Strings.Search3
import Derived.Shelf.Strings.Count
import Derived.Shelf.Strings.Shaped
import Derived.Shelf.Sort.Plain
import Derived.Shelf.Strings.Prefix
import Derived.Shelf.Strings.Split
import Derived.Shelf.Unicode.DecodeSlow
import Derived.Shelf.Slices.In.SortNone
import Derived.Shelf.Slices.In.SortNone2
import Derived.Test.YtbkllghhcphkaaaGreatDoorProg
import Derived.Sort.OwnSorted
import Derived.Sort.OwnSortedInts
import Derived.Deep.Upon
import Derived.Lib.ItoaLen
import Derived.Lib.LaidTab
set_option linter.unusedSimpArgs false
set_option linter.unusedVariables false
namespace Go.Proofs.YtbkllghhcphkaaaGreatDoor
open Go.RowKit Am
def JF (k:Nat) (a0:List Zm):Option (List Int):= (JE k a0).bind fun x1=> (Vx k x1).bind fun x2=> (ZaJ k a0 x1 x2).bind fun x3=> some x3
def Xi (a0:ByteArray):Option Int:= (if (decide (a0=(⟨#[119,104,101,114,101]⟩:ByteArray))) then some true else if (decide (a0=(⟨#[107,101,101,112]⟩:ByteArray))) then some true else if (decide (a0=(⟨#[97,100,100]⟩:ByteArray))) then some true else some (decide (a0=(⟨#[103,114,111,117,112]⟩:ByteArray)))).bind fun x1=> if x1 then some 1 else if (decide (a0=(⟨#[106,111,105,110]⟩:ByteArray))) then some 2 else some 0
def XA (rec_s_l36Pipe:Za->Option Bool) (a0:Za) (x1:Int):Nat->Int->Option (Unit ⊕ Bool) | 0,_=>none | n_+1,x3=> if (decide (x3<(a0.args.length:Int))) then (at? a0.args x3).bind fun x4=> (if (decide (x3<(IntKind.i64.wrap ((a0.args.length:Int)-x1)))) then if (!decide (x4.kind=1)) then if (!decide (x4.kind=2)) then some true else some false else some false else (rec_s_l36Pipe x4).bind fun x6=> some (!x6)).bind fun x5=> if x5 then some (.inr false) else XA rec_s_l36Pipe a0 x1 n_ (IntKind.i64.wrap (x3+1)) else some (.inl ())
def Y0:Nat->Za->Option Bool | 0,_=>none | k+1,a0=> if (decide (a0.kind=3)) then some true else (Xi a0.text).bind fun x1=> (if (!decide (a0.kind=5)) then some true else some (decide (x1=0))).bind fun x2=> if x2 then some false else (XA (Y0 k) a0 x1 k 0:Option (Unit ⊕ Bool)).bind fun | .inl _=>( some true) | .inr z7=>( some z7)
def W3 (k:Nat) (a0:Za):Option Bool:= ((Q3 k a0).bind fun x2=> if x2 then (Y0 k a0).bind fun x3=> some x3 else some false).bind fun x1=> some x1
def X9 (k:Nat) (a0:List Int) (a1:List Int):Nat->Int->Option (Unit ⊕ Bool) | 0,_=>none | n_+1,x1=> if (decide (x1<(a1.length:Int))) then (at? a1 x1).bind fun x2=> (Z8 k a0 x2).bind fun x3=> if (!x3) then some (.inr false) else X9 k a0 a1 n_ (IntKind.i64.wrap (x1+1)) else some (.inl ())
def ZbV (k:Nat) (a0:List Int) (a1:List Int):Option Bool:= (X9 k a0 a1 k 0:Option (Unit ⊕ Bool)).bind fun | .inl _=>( some true) | .inr z4=>( some z4)
def ZS (k:Nat) (x1:List Zm):Nat->(List Int)->Int->Option (List Int) | 0,_,_=>none | n_+1,x3,x4=> if (decide (x4<(x1.length:Int))) then ((Wk k x1 x4).bind fun x6=> if (decide (x6.1.kind=5)) then (Qb 8 x3 [x4]).bind fun x7=> some x7 else some x3).bind fun x5=> ZS k x1 n_ x5 (IntKind.i64.wrap (x4+1)) else some x3
def ZR (k:Nat) (x1:List Zm) (x8:List Int):Nat->(List Int)->Int->Option (List Int) | 0,_,_=>none | n_+1,x10,x11=> if (decide (x11<(x8.length:Int))) then ((at? x8 x11).bind fun x13=> ((at? x1 x13).bind fun x15=> if (decide (x15.kind=2)) then (W3 k x15.expr).bind fun x16=> if x16 then (Qf k x1 x13).bind fun x17=> (ZbV k x10 x17).bind fun x18=> some x18 else some false else some false).bind fun x14=> if x14 then (Qb 8 x10 [x13]).bind fun x19=> some x19 else some x10).bind fun x12=> ZR k x1 x8 n_ x12 (IntKind.i64.wrap (x11+1)) else some x10
def ZQ (k:Nat) (a0:Ze) (x1:List Zm) (x9:List Int):Nat->(List Int)->Int->Option (List Int) | 0,_,_=>none | n_+1,x21,x22=> if (decide (x22<(x1.length:Int))) then ((Z8 k x9 x22).bind fun x24=> if x24 then (at? a0.cells x22).bind fun x25=> (Qb 8 x21 [x25.id]).bind fun x26=> some x26 else some x21).bind fun x23=> ZQ k a0 x1 x9 n_ x23 (IntKind.i64.wrap (x22+1)) else some x21
def Wh (k:Nat) (a0:Ze):Option (List Int):= (W4 k a0).bind fun x1=> (ZS k x1 k ([]:List Int) 0).bind fun x2=> (JF k x1).bind fun x8=> (ZR k x1 x8 k x2 0).bind fun x9=> (ZQ k a0 x1 x9 k ([]:List Int) 0).bind fun x20=> some x20
def X3 (a0:Int) (a1:Int) (a2:Int):Option Bool:= (if (decide (a1<=a0)) then some (decide (a0<=a2)) else some false).bind fun x1=> some x1
def YX (a0:ByteArray):Nat->Int->Option (Unit ⊕ Bool) | 0,_=>none | n_+1,x1=> if (decide (x1<(a0.size:Int))) then ((at? a0.data.toList x1).bind fun x3=> if (decide ((x3.toNat:Int)<32)) then some true else some (decide (126<(x3.toNat:Int)))).bind fun x2=> if x2 then some (.inr false) else YX a0 n_ (IntKind.i64.wrap (x1+1)) else some (.inl ())
def WH (k:Nat) (a0:ByteArray):Option Bool:= (YX a0 k 0:Option (Unit ⊕ Bool)).bind fun | .inl _=>( some (decide ((a0.size:Int)<=120))) | .inr z4=>( some z4)
def Wp (a0:ByteArray):Nat->Int->Option (Unit ⊕ Bool) | 0,_=>none | n_+1,x1=> if (decide (x1<(a0.size:Int))) then ((at? a0.data.toList x1).bind fun x3=> if (decide (97<=(x3.toNat:Int))) then some (decide ((x3.toNat:Int)<=122)) else some false).bind fun x2=> (if (!x2) then if (decide (x1=0)) then some true else (at? a0.data.toList x1).bind fun x5=> if (decide ((x5.toNat:Int)<48)) then some true else some (decide (57<(x5.toNat:Int))) else some false).bind fun x4=> if x4 then some (.inr false) else Wp a0 n_ (IntKind.i64.wrap (x1+1)) else some (.inl ())
def Zco (k:Nat) (a0:ByteArray):Option Bool:= (Wp a0 k 0:Option (Unit ⊕ Bool)).bind fun | .inl _=>( (X3 (a0.size:Int) 1 8).bind fun x6=> some x6) | .inr z7=>( some z7)
def ZH (a0:ByteArray):Option Int:= if (decide (a0=(⟨#[99,108,111,99,107]⟩:ByteArray))) then some 0 else (if (decide (a0=(⟨#[108,101,110]⟩:ByteArray))) then some true else if (decide (a0=(⟨#[115,117,109]⟩:ByteArray))) then some true else if (decide (a0=(⟨#[114,111,119,115]⟩:ByteArray))) then some true else if (decide (a0=(⟨#[99,104,97,110,99,101]⟩:ByteArray))) then some true else some (decide (a0=(⟨#[102,105,108,101]⟩:ByteArray)))).bind fun x1=> if x1 then some 1 else (if (decide (a0=(⟨#[116,97,107,101]⟩:ByteArray))) then some true else if (decide (a0=(⟨#[115,107,105,112]⟩:ByteArray))) then some true else if (decide (a0=(⟨#[114,97,110,103,101]⟩:ByteArray))) then some true else if (decide (a0=(⟨#[110,116,104]⟩:ByteArray))) then some true else if (decide (a0=(⟨#[107,101,101,112]⟩:ByteArray))) then some true else if (decide (a0=(⟨#[99,111,108,117,109,110]⟩:ByteArray))) then some true else some (decide (a0=(⟨#[116,97,98,108,101]⟩:ByteArray)))).bind fun x2=> if x2 then some 2 else (if (decide (a0=(⟨#[119,104,101,114,101]⟩:ByteArray))) then some true else if (decide (a0=(⟨#[103,114,111,117,112]⟩:ByteArray))) then some true else some (decide (a0=(⟨#[106,111,105,110]⟩:ByteArray)))).bind fun x3=> if x3 then some 3 else if (decide (a0=(⟨#[97,100,100]⟩:ByteArray))) then some 4 else some (-1)
def V6 (a0:ByteArray):Option Bool:= (if (decide (a0=(⟨#[108,101,116]⟩:ByteArray))) then some true else if (decide (a0=(⟨#[105,110]⟩:ByteArray))) then some true else if (decide (a0=(⟨#[105,102]⟩:ByteArray))) then some true else if (decide (a0=(⟨#[116,104,101,110]⟩:ByteArray))) then some true else if (decide (a0=(⟨#[101,108,115,101]⟩:ByteArray))) then some true else if (decide (a0=(⟨#[102,111,114]⟩:ByteArray))) then some true else some (decide (a0=(⟨#[100,111]⟩:ByteArray)))).bind fun x1=> if x1 then some true else (ZH a0).bind fun x2=> some (decide (0<=x2))
def ZZ (k:Nat) (a0:ByteArray):Option Bool:= ((Zco k a0).bind fun x2=> if x2 then (V6 a0).bind fun x3=> some (!x3) else some false).bind fun x1=> some x1
def Qy (k:Nat) (a0:Zk):Option Bool:= ((X3 a0.id 1 999).bind fun x2=> if (!x2) then some true else (X3 a0.version 1 999).bind fun x3=> if (!x3) then some true else (WH k a0.code).bind fun x4=> some (!x4)).bind fun x1=> if x1 then some false else if (decide (a0.kind=1)) then (if (decide (a0.name=(⟨#[]⟩:ByteArray))) then some (decide (a0.n=0)) else some false).bind fun x5=> some x5 else (if (decide (a0.kind=2)) then some true else some (decide (a0.kind=4))).bind fun x6=> if x6 then ((ZZ k a0.name).bind fun x8=> if x8 then some (decide (a0.n=0)) else some false).bind fun x7=> some x7 else if (decide (a0.kind=3)) then ((ZZ k a0.name).bind fun x10=> if x10 then if (decide (a0.code=(⟨#[]⟩:ByteArray))) then (X3 a0.n 0 100).bind fun x11=> some x11 else some false else some false).bind fun x9=> some x9 else some false
def QJ (a0:Ze) (a1:Int):Nat->Int->Option (Unit ⊕ Int) | 0,_=>none | n_+1,x1=> if (decide (x1<(a0.cells.length:Int))) then (at? a0.cells x1).bind fun x2=> if (decide (x2.id=a1)) then some (.inr x1) else QJ a0 a1 n_ (IntKind.i64.wrap (x1+1)) else some (.inl ())
def WY (k:Nat) (a0:Ze) (a1:Int):Option Int:= (QJ a0 a1 k 0:Option (Unit ⊕ Int)).bind fun | .inl _=>( some (-1)) | .inr z3=>( some z3)
def Z4 (k:Nat) (a0:Ze):Nat->Int->Option (Unit ⊕ Bool) | 0,_=>none | n_+1,x1=> if (decide (x1<(a0.cells.length:Int))) then (at? a0.cells x1).bind fun x2=> ((Qy k x2).bind fun x4=> if (!x4) then some true else (WY k a0 x2.id).bind fun x5=> some (!decide (x5=x1))).bind fun x3=> if x3 then some (.inr false) else Z4 k a0 n_ (IntKind.i64.wrap (x1+1)) else some (.inl ())
def Xu (k:Nat) (a0:Ze):Option Bool:= (Z4 k a0 k 0:Option (Unit ⊕ Bool)).bind fun | .inl _=>( some (decide ((a0.cells.length:Int)<=8))) | .inr z6=>( some z6)
def Kr (a0:Int):Option Zb:= some (Zb.mk 1 a0 0 (⟨#[]⟩:ByteArray) [] [] [])
def YW (a0:ByteArray):Nat->Int->Option (Unit ⊕ Bool) | 0,_=>none | n_+1,x1=> if (decide (x1<(a0.size:Int))) then ((at? a0.data.toList x1).bind fun x3=> if (decide ((x3.toNat:Int)<32)) then some true else if (decide (126<(x3.toNat:Int))) then some true else some (decide ((x3.toNat:Int)=34))).bind fun x2=> if x2 then some (.inr false) else YW a0 n_ (IntKind.i64.wrap (x1+1)) else some (.inl ())
def XQ (k:Nat) (a0:ByteArray):Option Bool:= (YW a0 k 0:Option (Unit ⊕ Bool)).bind fun | .inl _=>( some (decide ((a0.size:Int)<=20))) | .inr z4=>( some z4)
def QE (a0:ByteArray):Nat->Int->Option Int | 0,_=>none | n_+1,x4=> (if (decide (x4<(a0.size:Int))) then (at? a0.data.toList x4).bind fun x6=> if (decide (97<=(x6.toNat:Int))) then if (decide ((x6.toNat:Int)<=122)) then some true else if (decide (48<=(x6.toNat:Int))) then some (decide ((x6.toNat:Int)<=57)) else some false else if (decide (48<=(x6.toNat:Int))) then some (decide ((x6.toNat:Int)<=57)) else some false else some false).bind fun x5=> if x5 then QE a0 n_ (IntKind.i64.wrap (x4+1)) else some x4
def QD (a0:ByteArray):Nat->Int->Option Int | 0,_=>none | n_+1,x10=> (if (decide (x10<(a0.size:Int))) then (at? a0.data.toList x10).bind fun x12=> if (decide (48<=(x12.toNat:Int))) then some (decide ((x12.toNat:Int)<=57)) else some false else some false).bind fun x11=> if x11 then QD a0 n_ (IntKind.i64.wrap (x10+1)) else some x10
def Qs (k:Nat) (a0:ByteArray) (a1:Int):Option (Zh×Int×Bool):= (at? a0.data.toList a1).bind fun x1=> (if (decide (97<=(x1.toNat:Int))) then some (decide ((x1.toNat:Int)<=122)) else some false).bind fun x2=> if x2 then (QE a0 k a1).bind fun x3=> (Uj a0 a1 x3).bind fun x7=> some ((Zh.mk 1 0 a1 x7),x3,(decide ((IntKind.i64.wrap (x3-a1))<=8))) else (if (decide (48<=(x1.toNat:Int))) then some (decide ((x1.toNat:Int)<=57)) else some false).bind fun x8=> if x8 then (QD a0 k a1).bind fun x9=> (Uj a0 a1 x9).bind fun x13=> (Zap x13 0 1000000000).bind fun x14=> some ((Zh.mk 2 x14.1 a1 (⟨#[]⟩:ByteArray)),x9,x14.2) else if (decide ((x1.toNat:Int)=34)) then (Uj a0 (IntKind.i64.wrap (a1+1)) (a0.size:Int)).bind fun x15=> (Yw x15 34).bind fun x16=> if (decide (x16<0)) then some ((Zh.mk 0 0 0 (⟨#[]⟩:ByteArray)),0,false) else (Uj a0 (IntKind.i64.wrap (a1+1)) (IntKind.i64.wrap ((IntKind.i64.wrap (a1+1))+x16))).bind fun x17=> (XQ k x17).bind fun x18=> some ((Zh.mk 3 0 a1 x17),(IntKind.i64.wrap ((IntKind.i64.wrap (a1+x16))+2)),x18) else (Uj a0 a1 (a0.size:Int)).bind fun x19=> (Yx x19 (⟨#[61,61]⟩:ByteArray)).bind fun x20=> if x20 then some ((Zh.mk 4 0 a1 (⟨#[61,61]⟩:ByteArray)),(IntKind.i64.wrap (a1+2)),true) else (Uj a0 a1 (IntKind.i64.wrap (a1+1))).bind fun x21=> (Yw (⟨#[40,41,91,93,44,43,45,42,60,61]⟩:ByteArray) (x1.toNat:Int)).bind fun x22=> some ((Zh.mk 4 0 a1 x21),(IntKind.i64.wrap (a1+1)),(decide (0<=x22)))
def ZO (k:Nat) (a0:ByteArray):Nat->(List Zh)->Int->Option ((List Zh) ⊕ ((List Zh)×Int)) | 0,_,_=>none | n_+1,x2,x3=> if (decide (x3<(a0.size:Int))) then (at? a0.data.toList x3).bind fun x4=> if (decide ((x4.toNat:Int)=32)) then ZO k a0 n_ x2 (IntKind.i64.wrap (x3+1)) else (Qs k a0 x3).bind fun x5=> (if (!x5.2.2) then some true else some (decide ((x2.length:Int)=60))).bind fun x6=> if x6 then some (.inr ([],x3)) else (Qb 40 x2 [x5.1]).bind fun x7=> ZO k a0 n_ x7 x5.2.1 else some (.inl x2)
def VJ (k:Nat) (a0:ByteArray):Option ((List Zh)×Int):= if (decide (120<(a0.size:Int))) then some ([],120) else (ZO k a0 k ([]:List Zh) 0:Option ((List Zh) ⊕ ((List Zh)×Int))).bind fun | .inl x1=>( some (x1,(-1))) | .inr z8=>( some z8)
def Zy (a0:Zf):Option (Zh×Zf):= (if (decide (a0.bad<0)) then some (decide (a0.at_<(a0.list.length:Int))) else some false).bind fun x1=> if x1 then (at? a0.list a0.at_).bind fun x2=> some (x2,a0) else some ((Zh.mk 0 0 0 (⟨#[]⟩:ByteArray)),a0)
def YA (a0:Zh) (a1:ByteArray):Option Bool:= (if (decide (a0.kind=1)) then some (decide (a0.text=a1)) else some false).bind fun x1=> some x1
def Ys (a0:Zf):Option (Za×Zf):= (if (decide (a0.bad<0)) then some a0.at_ else some a0.bad).bind fun x1=> some ((Za.mk 0 0 (⟨#[]⟩:ByteArray) []),(Zf.mk a0.list a0.at_ x1))
def Yr (k:Nat) (a0:Zf):Option (ByteArray×Zf):= (Zy a0).bind fun x1=> (if (!decide (x1.1.kind=1)) then some true else (ZZ k x1.1.text).bind fun x3=> some (!x3)).bind fun x2=> if x2 then (Ys x1.2).bind fun x4=> some ((⟨#[]⟩:ByteArray),x4.2) else some (x1.1.text,(Zf.mk x1.2.list (IntKind.i64.wrap (x1.2.at_+1)) x1.2.bad))
def Ux (a0:Zh) (a1:ByteArray):Option Bool:= (if (decide (a0.kind=4)) then some (decide (a0.text=a1)) else some false).bind fun x1=> some x1
def Zo (a0:Zf) (a1:ByteArray):Option Zf:= ((Zy a0).bind fun x5=> (YA x5.1 a1).bind fun x6=> if x6 then some (x5.2.list,x5.2.at_,x5.2.bad,true) else (Zy x5.2).bind fun x7=> (Ux x7.1 a1).bind fun x8=> some (x7.2.list,x7.2.at_,x7.2.bad,x8)).bind fun (x1,x2,x3,x4)=> if x4 then some (Zf.mk x1 (IntKind.i64.wrap (x2+1)) x3) else (Ys (Zf.mk x1 x2 x3)).bind fun x9=> some x9.2
def Zj (a0:Zf) (a1:ByteArray):Option (Bool×Zf):= (Zy a0).bind fun x1=> (Ux x1.1 a1).bind fun x2=> if x2 then some (true,(Zf.mk x1.2.list (IntKind.i64.wrap (x1.2.at_+1)) x1.2.bad)) else some (false,x1.2)
def JS (a0:Int):Option ByteArray:= (X3 a0 1 5).bind fun x1=> if (!x1) then some (⟨#[63]⟩:ByteArray) else (at? [(⟨#[43]⟩:ByteArray),(⟨#[45]⟩:ByteArray),(⟨#[42]⟩:ByteArray),(⟨#[60]⟩:ByteArray),(⟨#[61,61]⟩:ByteArray)] (IntKind.i64.wrap (a0-1))).bind fun x2=> some x2
def Yj (rec_i_parser_expr:Zf->Option (Za×Zf)) (a1:ByteArray):Nat->(List Zh)->Int->Int->(List Za)->Option ((List Za)×(List Zh)×Int×Int) | 0,_,_,_,_=>none | n_+1,x6,x7,x8,x9=> if (decide (x8<0)) then (rec_i_parser_expr (Zf.mk x6 x7 x8)).bind fun x10=> (Qb 56 x9 [x10.1]).bind fun x11=> (Zj x10.2 a1).bind fun x12=> if x12.1 then some (x11,x12.2.list,x12.2.at_,x12.2.bad) else (Zo x12.2 (⟨#[44]⟩:ByteArray)).bind fun x13=> Yj rec_i_parser_expr a1 n_ x13.list x13.at_ x13.bad x11 else some (x9,x6,x7,x8)
def ZY (rec_i_parser_atom:Zf->Option (Za×Zf)):Nat->(List Zh)->Int->Int->Int->Int->ByteArray->(List Za)->Option (Int×Int×ByteArray×(List Za)×(List Zh)×Int×Int) | 0,_,_,_,_,_,_,_=>none | n_+1,x9,x10,x11,x12,x13,x14,x15=> (Zj (Zf.mk x9 x10 x11) (⟨#[42]⟩:ByteArray)).bind fun x16=> if x16.1 then (rec_i_parser_atom x16.2).bind fun x17=> ZY rec_i_parser_atom n_ x17.2.list x17.2.at_ x17.2.bad 6 3 (⟨#[]⟩:ByteArray) [(Za.mk x12 x13 x14 x15),x17.1] else some (x12,x13,x14,x15,x16.2.list,x16.2.at_,x16.2.bad)
def YR (rec_i_parser_product:Zf->Option (Za×Zf)):Nat->(List Zh)->Int->Int->Int->Int->ByteArray->(List Za)->Option (Int×Int×ByteArray×(List Za)×(List Zh)×Int×Int) | 0,_,_,_,_,_,_,_=>none | n_+1,x9,x10,x11,x12,x13,x14,x15=> if (decide (x11<0)) then ((Zj (Zf.mk x9 x10 x11) (⟨#[43]⟩:ByteArray)).bind fun x23=> if (!x23.1) then (Zj x23.2 (⟨#[45]⟩:ByteArray)).bind fun x24=> if (!x24.1) then some (.inr (x24.2.list,x24.2.at_,x24.2.bad)) else some (.inl (x24.2.list,x24.2.at_,x24.2.bad,2)) else some (.inl (x23.2.list,x23.2.at_,x23.2.bad,1)):Option (((List Zh)×Int×Int×Int) ⊕ ((List Zh)×Int×Int))).bind fun | .inl (x16,x17,x18,x19)=>( (rec_i_parser_product (Zf.mk x16 x17 x18)).bind fun x25=> YR rec_i_parser_product n_ x25.2.list x25.2.at_ x25.2.bad 6 x19 (⟨#[]⟩:ByteArray) [(Za.mk x12 x13 x14 x15),x25.1]) | .inr (x20,x21,x22)=>( some (x12,x13,x14,x15,x20,x21,x22)) else some (x12,x13,x14,x15,x9,x10,x11)
def Yf (rec_i_parser_sum:Zf->Option (Za×Zf)) (x29:Za×Zf):Nat->(List Zh)->Int->Int->Int->Option (((List Zh)×Int×Int) ⊕ (Za×Zf)) | 0,_,_,_,_=>none | n_+1,x33,x34,x35,x36=> if (decide (x36<([4,5].length:Int))) then (at? [4,5] x36).bind fun x37=> (JS x37).bind fun x38=> (Zj (Zf.mk x33 x34 x35) x38).bind fun x39=> if x39.1 then (rec_i_parser_sum x39.2).bind fun x40=> some (.inr ((Za.mk 6 x37 (⟨#[]⟩:ByteArray) [x29.1,x40.1]),x40.2)) else Yf rec_i_parser_sum x29 n_ x39.2.list x39.2.at_ x39.2.bad (IntKind.i64.wrap (x36+1)) else some (.inl (x33,x34,x35))
mutual
def YJ:Nat->Zf->ByteArray->Option ((List Za)×Zf) | 0,_,_=>none | k+1,a0,a1=> (Zj a0 a1).bind fun x1=> if x1.1 then some (([]:List Za),x1.2) else (Yj (Zl k) a1 k x1.2.list x1.2.at_ x1.2.bad ([]:List Za)).bind fun (x2,x3,x4,x5)=> some (x2,(Zf.mk x3 x4 x5))
def Zv:Nat->Zf->Option (Za×Zf) | 0,_=>none | k+1,a0=> (Zy a0).bind fun x1=> if (decide (x1.1.kind=2)) then some ((Za.mk 1 x1.1.n (⟨#[]⟩:ByteArray) []),(Zf.mk x1.2.list (IntKind.i64.wrap (x1.2.at_+1)) x1.2.bad)) else if (decide (x1.1.kind=3)) then some ((Za.mk 2 0 x1.1.text []),(Zf.mk x1.2.list (IntKind.i64.wrap (x1.2.at_+1)) x1.2.bad)) else (if (decide (x1.1.kind=1)) then (ZZ k x1.1.text).bind fun x3=> some x3 else some false).bind fun x2=> if x2 then some ((Za.mk 3 0 x1.1.text []),(Zf.mk x1.2.list (IntKind.i64.wrap (x1.2.at_+1)) x1.2.bad)) else (if (decide (x1.1.kind=1)) then (ZH x1.1.text).bind fun x5=> some (decide (0<=x5)) else some false).bind fun x4=> if x4 then (Zo (Zf.mk x1.2.list (IntKind.i64.wrap (x1.2.at_+1)) x1.2.bad) (⟨#[40]⟩:ByteArray)).bind fun x6=> (YJ k x6 (⟨#[41]⟩:ByteArray)).bind fun x7=> some ((Za.mk 5 0 x1.1.text x7.1),x7.2) else (Zj x1.2 (⟨#[91]⟩:ByteArray)).bind fun x8=> if x8.1 then (YJ k x8.2 (⟨#[93]⟩:ByteArray)).bind fun x9=> some ((Za.mk 4 0 (⟨#[]⟩:ByteArray) x9.1),x9.2) else (Zj x8.2 (⟨#[40]⟩:ByteArray)).bind fun x10=> if x10.1 then (Zl k x10.2).bind fun x11=> (Zo x11.2 (⟨#[41]⟩:ByteArray)).bind fun x12=> some (x11.1,x12) else (Ys x10.2).bind fun x13=> some (x13.1,x13.2)
def Zt:Nat->Zf->Option (Za×Zf) | 0,_=>none | k+1,a0=> (Zv k a0).bind fun x1=> (ZY (Zv k) k x1.2.list x1.2.at_ x1.2.bad x1.1.kind x1.1.n x1.1.text x1.1.args).bind fun (x2,x3,x4,x5,x6,x7,x8)=> some ((Za.mk x2 x3 x4 x5),(Zf.mk x6 x7 x8))
def ZW:Nat->Zf->Option (Za×Zf) | 0,_=>none | k+1,a0=> (Zt k a0).bind fun x1=> (YR (Zt k) k x1.2.list x1.2.at_ x1.2.bad x1.1.kind x1.1.n x1.1.text x1.1.args).bind fun (x2,x3,x4,x5,x6,x7,x8)=> some ((Za.mk x2 x3 x4 x5),(Zf.mk x6 x7 x8))
def Zl:Nat->Zf->Option (Za×Zf) | 0,_=>none | k+1,a0=> (Zy a0).bind fun x1=> (YA x1.1 (⟨#[108,101,116]⟩:ByteArray)).bind fun x2=> if x2 then (Yr k (Zf.mk x1.2.list (IntKind.i64.wrap (x1.2.at_+1)) x1.2.bad)).bind fun x3=> (Zo x3.2 (⟨#[61]⟩:ByteArray)).bind fun x4=> (Zl k x4).bind fun x5=> (Qb 56 ([]:List Za) [x5.1]).bind fun x6=> (Zo x5.2 (⟨#[105,110]⟩:ByteArray)).bind fun x7=> (Zl k x7).bind fun x8=> (Qb 56 x6 [x8.1]).bind fun x9=> some ((Za.mk 7 0 x3.1 x9),x8.2) else (Zy x1.2).bind fun x10=> (YA x10.1 (⟨#[105,102]⟩:ByteArray)).bind fun x11=> if x11 then (Zl k (Zf.mk x10.2.list (IntKind.i64.wrap (x10.2.at_+1)) x10.2.bad)).bind fun x12=> (Qb 56 ([]:List Za) [x12.1]).bind fun x13=> (Zo x12.2 (⟨#[116,104,101,110]⟩:ByteArray)).bind fun x14=> (Zl k x14).bind fun x15=> (Qb 56 x13 [x15.1]).bind fun x16=> (Zo x15.2 (⟨#[101,108,115,101]⟩:ByteArray)).bind fun x17=> (Zl k x17).bind fun x18=> (Qb 56 x16 [x18.1]).bind fun x19=> some ((Za.mk 8 0 (⟨#[]⟩:ByteArray) x19),x18.2) else (Zy x10.2).bind fun x20=> (YA x20.1 (⟨#[102,111,114]⟩:ByteArray)).bind fun x21=> if x21 then (Yr k (Zf.mk x20.2.list (IntKind.i64.wrap (x20.2.at_+1)) x20.2.bad)).bind fun x22=> (Zo x22.2 (⟨#[105,110]⟩:ByteArray)).bind fun x23=> (Zl k x23).bind fun x24=> (Qb 56 ([]:List Za) [x24.1]).bind fun x25=> (Zo x24.2 (⟨#[100,111]⟩:ByteArray)).bind fun x26=> (Zl k x26).bind fun x27=> (Qb 56 x25 [x27.1]).bind fun x28=> some ((Za.mk 9 0 x22.1 x28),x27.2) else (ZW k x20.2).bind fun x29=> (Yf (ZW k) x29 k x29.2.list x29.2.at_ x29.2.bad 0:Option (((List Zh)×Int×Int) ⊕ (Za×Zf))).bind fun | .inl (x30,x31,x32)=>( some (x29.1,(Zf.mk x30 x31 x32))) | .inr z41=>( some z41)
end
def Y8 (rec_i_NodeCount:Za->Option Int) (a0:Za):Nat->Int->Int->Option Int | 0,_,_=>none | n_+1,x2,x3=> if (decide (x3<(a0.args.length:Int))) then (at? a0.args x3).bind fun x4=> (rec_i_NodeCount x4).bind fun x5=> Y8 rec_i_NodeCount a0 n_ (IntKind.i64.wrap (x2+x5)) (IntKind.i64.wrap (x3+1)) else some x2
def QO:Nat->Za->Option Int | 0,_=>none | k+1,a0=> (Y8 (QO k) a0 k 1 0).bind fun x1=> some x1
def Y9 (rec_i_NestingOf:Za->Option Int) (a0:Za):Nat->Int->Int->Option Int | 0,_,_=>none | n_+1,x2,x3=> if (decide (x3<(a0.args.length:Int))) then (at? a0.args x3).bind fun x4=> (rec_i_NestingOf x4).bind fun x5=> Y9 rec_i_NestingOf a0 n_ (if x5>x2 then x5 else x2) (IntKind.i64.wrap (x3+1)) else some x2
def Qq:Nat->Za->Option Int | 0,_=>none | k+1,a0=> (Y9 (Qq k) a0 k 0 0).bind fun x1=> some (IntKind.i64.wrap (x1+1))
def Kn (k:Nat) (a0:Za):Option Bool:= if (decide (a0.kind=1)) then ((X3 a0.n 0 1000000000).bind fun x2=> if x2 then if (decide (a0.text=(⟨#[]⟩:ByteArray))) then some (decide ((a0.args.length:Int)=0)) else some false else some false).bind fun x1=> some x1 else if (decide (a0.kind=2)) then (if (decide (a0.n=0)) then (XQ k a0.text).bind fun x4=> if x4 then some (decide ((a0.args.length:Int)=0)) else some false else some false).bind fun x3=> some x3 else if (decide (a0.kind=3)) then (if (decide (a0.n=0)) then (ZZ k a0.text).bind fun x6=> if x6 then some (decide ((a0.args.length:Int)=0)) else some false else some false).bind fun x5=> some x5 else if (decide (a0.kind=4)) then (if (decide (a0.n=0)) then if (decide (a0.text=(⟨#[]⟩:ByteArray))) then some (decide ((a0.args.length:Int)<=8)) else some false else some false).bind fun x7=> some x7 else if (decide (a0.kind=5)) then (if (decide (a0.n=0)) then (ZH a0.text).bind fun x9=> some (decide ((a0.args.length:Int)=x9)) else some false).bind fun x8=> some x8 else if (decide (a0.kind=6)) then ((X3 a0.n 1 5).bind fun x11=> if x11 then if (decide (a0.text=(⟨#[]⟩:ByteArray))) then some (decide ((a0.args.length:Int)=2)) else some false else some false).bind fun x10=> some x10 else (if (decide (a0.kind=7)) then some true else some (decide (a0.kind=9))).bind fun x12=> if x12 then (if (decide (a0.n=0)) then (ZZ k a0.text).bind fun x14=> if x14 then some (decide ((a0.args.length:Int)=2)) else some false else some false).bind fun x13=> some x13 else if (decide (a0.kind=8)) then (if (decide (a0.n=0)) then if (decide (a0.text=(⟨#[]⟩:ByteArray))) then some (decide ((a0.args.length:Int)=3)) else some false else some false).bind fun x15=> some x15 else some false
def Q9 (rec_i_areNodes:Za->Option Bool) (a0:Za):Nat->Int->Option (Unit ⊕ Bool) | 0,_=>none | n_+1,x1=> if (decide (x1<(a0.args.length:Int))) then (at? a0.args x1).bind fun x2=> (rec_i_areNodes x2).bind fun x3=> if (!x3) then some (.inr false) else Q9 rec_i_areNodes a0 n_ (IntKind.i64.wrap (x1+1)) else some (.inl ())
def Qo:Nat->Za->Option Bool | 0,_=>none | k+1,a0=> (Q9 (Qo k) a0 k 0:Option (Unit ⊕ Bool)).bind fun | .inl _=>( (Kn k a0).bind fun x4=> some x4) | .inr z5=>( some z5)
def Xa (k:Nat) (a0:Za):Option Bool:= ((QO k a0).bind fun x2=> if (decide (x2<=40)) then (Qq k a0).bind fun x3=> if (decide (x3<=8)) then (Qo k a0).bind fun x4=> some x4 else some false else some false).bind fun x1=> some x1
def Ws (k:Nat) (a0:ByteArray):Option (Za×Int):= (VJ k a0).bind fun x1=> if (decide (0<=x1.2)) then some ((Za.mk 0 0 (⟨#[]⟩:ByteArray) []),x1.2) else (Zl k (Zf.mk x1.1 0 (-1))).bind fun x2=> ((if (decide (x2.2.bad<0)) then some (decide (x2.2.at_<(x1.1.length:Int))) else some false).bind fun x4=> if x4 then some x2.2.at_ else some x2.2.bad).bind fun x3=> if (decide ((x1.1.length:Int)<=x3)) then some ((Za.mk 0 0 (⟨#[]⟩:ByteArray) []),(a0.size:Int)) else if (decide (0<=x3)) then (at? x1.1 x3).bind fun x5=> some ((Za.mk 0 0 (⟨#[]⟩:ByteArray) []),x5.at_) else (Xa k x2.1).bind fun x6=> if (!x6) then some ((Za.mk 0 0 (⟨#[]⟩:ByteArray) []),0) else some (x2.1,(-1))
def Xb (a0:Int):Option Zb:= some (Zb.mk 6 a0 0 (⟨#[]⟩:ByteArray) [] [] [])
def WX (a0:ByteArray) (a1:Int):Option (List ByteArray):= (Qc a0 (Zi3 [a1])).bind fun x1=> some x1
def Ym (x1:List ByteArray):Nat->(List Int)->Int->Option ((List Int) ⊕ ((List Int)×Bool)) | 0,_,_=>none | n_+1,x3,x4=> if (decide (x4<(x1.length:Int))) then (at? x1 x4).bind fun x5=> (Zap x5 (-1000000000) 1000000000).bind fun x6=> if (!x6.2) then some (.inr ([],false)) else (Qb 8 x3 [x6.1]).bind fun x7=> Ym x1 n_ x7 (IntKind.i64.wrap (x4+1)) else some (.inl x3)
def V3 (k:Nat) (a0:ByteArray) (a1:Int):Option ((List Int)×Bool):= (WX a0 32).bind fun x1=> (Ym x1 k ([]:List Int) 0:Option ((List Int) ⊕ ((List Int)×Bool))).bind fun | .inl x2=>( some (x2,(decide ((x2.length:Int)=a1)))) | .inr z8=>( some z8)
def XY (a0:Int):Option Bool:= (X3 a0 (-1000000000) 1000000000).bind fun x1=> some x1
def QI (a0:List ByteArray) (a1:ByteArray):Nat->Int->Option (Unit ⊕ Int) | 0,_=>none | n_+1,x1=> if (decide (x1<(a0.length:Int))) then (at? a0 x1).bind fun x2=> if (decide (x2=a1)) then some (.inr x1) else QI a0 a1 n_ (IntKind.i64.wrap (x1+1)) else some (.inl ())
def UW (k:Nat) (a0:List ByteArray) (a1:ByteArray):Option Int:= (QI a0 a1 k 0:Option (Unit ⊕ Int)).bind fun | .inl _=>( some (-1)) | .inr z3=>( some z3)
def Yg (k:Nat) (a0:List ByteArray):Nat->Int->Option (Unit ⊕ Bool) | 0,_=>none | n_+1,x1=> if (decide (x1<(a0.length:Int))) then (at? a0 x1).bind fun x2=> (UW k a0 x2).bind fun x3=> if (!decide (x3=x1)) then some (.inr false) else Yg k a0 n_ (IntKind.i64.wrap (x1+1)) else some (.inl ())
def Vp (k:Nat) (a0:List ByteArray):Option Bool:= (Yg k a0 k 0:Option (Unit ⊕ Bool)).bind fun | .inl _=>( some true) | .inr z4=>( some z4)
def Qj (k:Nat) (a0:List ByteArray):Nat->Int->Option (Unit ⊕ Bool) | 0,_=>none | n_+1,x1=> if (decide (x1<(a0.length:Int))) then (at? a0 x1).bind fun x2=> (ZZ k x2).bind fun x3=> if (!x3) then some (.inr false) else Qj k a0 n_ (IntKind.i64.wrap (x1+1)) else some (.inl ())
def W6 (k:Nat) (a0:List ByteArray):Option Bool:= (Qj k a0 k 0:Option (Unit ⊕ Bool)).bind fun | .inl _=>( ((X3 (a0.length:Int) 1 4).bind fun x5=> if x5 then (Vp k a0).bind fun x6=> some x6 else some false).bind fun x4=> some x4) | .inr z7=>( some z7)
def Xk (a0:ZD) (a1:ZD):Option Bool:= (if (decide (a0.cell<a1.cell)) then some true else if (decide (a0.cell=a1.cell)) then some (decide (a0.row<a1.row)) else some false).bind fun x1=> some x1
def Q8 (x4:YT):Nat->Int->Option (Unit ⊕ Bool) | 0,_=>none | n_+1,x5=> if (decide (x5<(x4.cells.length:Int))) then (at? x4.cells x5).bind fun x6=> (XY x6).bind fun x7=> if (!x7) then some (.inr false) else Q8 x4 n_ (IntKind.i64.wrap (x5+1)) else some (.inl ())
def Q7 (x4:YT):Nat->Int->Option (Unit ⊕ Bool) | 0,_=>none | n_+1,x8=> if (decide (x8<(x4.from_.length:Int))) then (at? x4.from_ x8).bind fun x9=> (if (decide (x9.cell<0)) then some true else if (decide (x9.row<0)) then some true else if (decide (0<x8)) then (at? x4.from_ (IntKind.i64.wrap (x8-1))).bind fun x11=> (Xk x11 x9).bind fun x12=> some (!x12) else some false).bind fun x10=> if x10 then some (.inr false) else Q7 x4 n_ (IntKind.i64.wrap (x8+1)) else some (.inl ())
def Qh (k:Nat) (a0:Zb):Nat->Int->Option (Unit ⊕ Bool) | 0,_=>none | n_+1,x3=> if (decide (x3<(a0.rows.length:Int))) then ((at? a0.rows x3).bind fun x4=> if (!decide ((x4.cells.length:Int)=(a0.columns.length:Int))) then some (.inr false) else (Q8 x4 k 0:Option (Unit ⊕ Bool)).bind fun | .inl _=>( Q7 x4 k 0) | .inr z13=>( some (.inr z13)):Option (Unit ⊕ Bool)).bind fun | .inl _=>( Qh k a0 n_ (IntKind.i64.wrap (x3+1))) | .inr z14=>( some (.inr z14)) else some (.inl ())
def Zaq (k:Nat) (a0:Zb):Option Bool:= ((W6 k a0.columns).bind fun x2=> if (!x2) then some true else some (decide (12<(a0.rows.length:Int)))).bind fun x1=> if x1 then some false else (Qh k a0 k 0:Option (Unit ⊕ Bool)).bind fun | .inl _=>( some true) | .inr z15=>( some z15)
def XE (rec_i_DepthOf:Zb->Option Int) (a0:Zb):Nat->Int->Int->Option Int | 0,_,_=>none | n_+1,x2,x3=> if (decide (x3<(a0.list.length:Int))) then (at? a0.list x3).bind fun x4=> (rec_i_DepthOf x4).bind fun x5=> XE rec_i_DepthOf a0 n_ (if x5>x2 then x5 else x2) (IntKind.i64.wrap (x3+1)) else some x2
def Xc:Nat->Zb->Option Int | 0,_=>none | k+1,a0=> (XE (Xc k) a0 k 0 0).bind fun x1=> some (IntKind.i64.wrap (x1+1))
def YB (rec_i_IsValidValue:Zb->Option Bool) (a0:Zb):Nat->Int->Option (Unit ⊕ Bool) | 0,_=>none | n_+1,x13=> if (decide (x13<(a0.list.length:Int))) then (at? a0.list x13).bind fun x14=> (if (!decide (x14.kind=1)) then if (!decide (x14.kind=2)) then if (!decide (x14.kind=3)) then some true else (rec_i_IsValidValue x14).bind fun x16=> some (!x16) else (rec_i_IsValidValue x14).bind fun x17=> some (!x17) else (rec_i_IsValidValue x14).bind fun x18=> some (!x18)).bind fun x15=> if x15 then some (.inr false) else YB rec_i_IsValidValue a0 n_ (IntKind.i64.wrap (x13+1)) else some (.inl ())
def Zz:Nat->Zb->Option Bool | 0,_=>none | k+1,a0=> (if (decide ((a0.list.length:Int)=0)) then if (decide ((a0.columns.length:Int)=0)) then some (decide ((a0.rows.length:Int)=0)) else some false else some false).bind fun x1=> if (decide (a0.kind=1)) then (if x1 then if (decide (a0.step=0)) then if (decide (a0.text=(⟨#[]⟩:ByteArray))) then (XY a0.n).bind fun x3=> some x3 else some false else some false else some false).bind fun x2=> some x2 else if (decide (a0.kind=2)) then (if x1 then if (decide (a0.n=0)) then if (decide (a0.step=0)) then (XQ k a0.text).bind fun x5=> some x5 else some false else some false else some false).bind fun x4=> some x4 else if (decide (a0.kind=4)) then (if x1 then if (decide (a0.text=(⟨#[]⟩:ByteArray))) then (XY a0.n).bind fun x7=> if x7 then (XY a0.step).bind fun x8=> some x8 else some false else some false else some false).bind fun x6=> some x6 else if (decide (a0.kind=6)) then (if x1 then if (decide (a0.step=0)) then if (decide (a0.text=(⟨#[]⟩:ByteArray))) then (X3 a0.n 1 8).bind fun x10=> some x10 else some false else some false else some false).bind fun x9=> some x9 else if (decide (a0.kind=5)) then (if (decide (a0.n=0)) then if (decide (a0.step=0)) then if (decide (a0.text=(⟨#[]⟩:ByteArray))) then if (decide ((a0.list.length:Int)=0)) then (Zaq k a0).bind fun x12=> some x12 else some false else some false else some false else some false).bind fun x11=> some x11 else if (decide (a0.kind=3)) then (YB (Zz k) a0 k 0:Option (Unit ⊕ Bool)).bind fun | .inl _=>( (if (decide (a0.n=0)) then if (decide (a0.step=0)) then if (decide (a0.text=(⟨#[]⟩:ByteArray))) then if (decide ((a0.columns.length:Int)=0)) then if (decide ((a0.rows.length:Int)=0)) then if (decide ((a0.list.length:Int)<=8)) then (Xc k a0).bind fun x20=> some (decide (x20<=3)) else some false else some false else some false else some false else some false else some false).bind fun x19=> some x19) | .inr z21=>( some z21) else some false
def YK (k:Nat) (x1:List ByteArray) (x3:List ByteArray):Nat->(List YT)->Int->Option ((List YT) ⊕ (Zb×Bool)) | 0,_,_=>none | n_+1,x6,x7=> if (decide (x7<(((x1.take (x1.length:Int).toNat).drop (1:Int).toNat).length:Int))) then (at? ((x1.take (x1.length:Int).toNat).drop (1:Int).toNat) x7).bind fun x8=> (V3 k x8 (x3.length:Int)).bind fun x9=> if (!x9.2) then some (.inr ((Zb.mk 0 0 0 (⟨#[]⟩:ByteArray) [] [] []),false)) else (Qb 48 x6 [(YT.mk x9.1 [])]).bind fun x10=> YK k x1 x3 n_ x10 (IntKind.i64.wrap (x7+1)) else some (.inl x6)
def Wu (k:Nat) (a0:ByteArray):Option (Zb×Bool):= (Qc a0 (⟨#[59,32]⟩:ByteArray)).bind fun x1=> (at? x1 0).bind fun x2=> (WX x2 32).bind fun x3=> ((Ze4 x1 1 (x1.length:Int)).bind fun x5=> YK k x1 x3 k [] 0:Option ((List YT) ⊕ (Zb×Bool))).bind fun | .inl x4=>( (Zz k (Zb.mk 5 0 0 (⟨#[]⟩:ByteArray) [] x3 x4)).bind fun x11=> if (!x11) then some ((Zb.mk 0 0 0 (⟨#[]⟩:ByteArray) [] [] []),false) else some ((Zb.mk 5 0 0 (⟨#[]⟩:ByteArray) [] x3 x4),true)) | .inr z12=>( some z12)
def YL (k:Nat) (x2:List ByteArray) (x4:List ByteArray):Nat->Int->Option (Unit ⊕ Int) | 0,_=>none | n_+1,x7=> if (decide (x7<(((x2.take (x2.length:Int).toNat).drop (1:Int).toNat).length:Int))) then (at? ((x2.take (x2.length:Int).toNat).drop (1:Int).toNat) x7).bind fun x8=> (V3 k x8 (x4.length:Int)).bind fun x9=> (if (!x9.2) then some true else some (decide (12<=x7))).bind fun x10=> if x10 then some (.inr (IntKind.i64.wrap (x7+1))) else YL k x2 x4 n_ (IntKind.i64.wrap (x7+1)) else some (.inl ())
def UY (k:Nat) (a0:ByteArray):Option Int:= (Wu k a0).bind fun x1=> if x1.2 then some (-1) else (Qc a0 (⟨#[59,32]⟩:ByteArray)).bind fun x2=> (at? x2 0).bind fun x3=> (WX x3 32).bind fun x4=> (W6 k x4).bind fun x5=> if (!x5) then some 0 else ((Ze4 x2 1 (x2.length:Int)).bind fun x6=> YL k x2 x4 k 0:Option (Unit ⊕ Int)).bind fun | .inl _=>( some (-1)) | .inr z11=>( some z11)
def JQ (a0:YT):Option YT:= (Qb 8 ([]:List Int) a0.cells).bind fun x1=> (Qb 16 ([]:List ZD) a0.from_).bind fun x2=> some (YT.mk x1 x2)
def Qi (rec_i_copyValue:Zb->Option Zb) (a0:List Zb):Nat->(List Zb)->Int->Option (List Zb) | 0,_,_=>none | n_+1,x2,x3=> if (decide (x3<(a0.length:Int))) then (at? a0 x3).bind fun x4=> (rec_i_copyValue x4).bind fun x5=> (Qb 112 x2 [x5]).bind fun x6=> Qi rec_i_copyValue a0 n_ x6 (IntKind.i64.wrap (x3+1)) else some x2
def QF (a0:Zb):Nat->(List YT)->Int->Option (List YT) | 0,_,_=>none | n_+1,x4,x5=> if (decide (x5<(a0.rows.length:Int))) then (at? a0.rows x5).bind fun x6=> (JQ x6).bind fun x7=> (Qb 48 x4 [x7]).bind fun x8=> QF a0 n_ x8 (IntKind.i64.wrap (x5+1)) else some x4
mutual
def V4:Nat->(List Zb)->Option (List Zb) | 0,_=>none | k+1,a0=> (Qi (Yz k) a0 k ([]:List Zb) 0).bind fun x1=> some x1
def Yz:Nat->Zb->Option Zb | 0,_=>none | k+1,a0=> (V4 k a0.list).bind fun x1=> (Qb 16 ([]:List ByteArray) a0.columns).bind fun x2=> (QF a0 k [] 0).bind fun x3=> some (Zb.mk a0.kind a0.n a0.step a0.text x1 x2 x3)
end
def Yu (a0:Int) (x4:Zb):Nat->(List YT)->Int->Option (List YT) | 0,_,_=>none | n_+1,x6,x7=> if (decide (x7<(x4.rows.length:Int))) then (at? x6 x7).bind fun x8=> Yu a0 x4 n_ (x6.set x7.toNat (YT.mk x8.cells [(ZD.mk a0 x7)])) (IntKind.i64.wrap (x7+1)) else some x6
def Vm (k:Nat) (a0:Int) (a1:Zb):Option Zb:= (if (!decide (a1.kind=5)) then some true else (Zz k a1).bind fun x2=> if (!x2) then some true else some (decide (a0<0))).bind fun x1=> if x1 then (Xb 4).bind fun x3=> some x3 else (Yz k a1).bind fun x4=> (Yu a0 x4 k x4.rows 0).bind fun x5=> some (Zb.mk x4.kind x4.n x4.step x4.text x4.list x4.columns x5)
def Yv (k:Nat) (a0:Zk):Option Zm:= (Qy k a0).bind fun x1=> if (!x1) then some (Zm.mk 0 (⟨#[]⟩:ByteArray) (Za.mk 0 0 (⟨#[]⟩:ByteArray) []) (Zb.mk 0 0 0 (⟨#[]⟩:ByteArray) [] [] []) 0) else if (decide (a0.kind=1)) then some (Zm.mk 1 (⟨#[]⟩:ByteArray) (Za.mk 0 0 (⟨#[]⟩:ByteArray) []) (Zb.mk 0 0 0 (⟨#[]⟩:ByteArray) [] [] []) 0) else if (decide (a0.kind=3)) then (Kr a0.n).bind fun x2=> some (Zm.mk 3 a0.name (Za.mk 0 0 (⟨#[]⟩:ByteArray) []) x2 0) else if (decide (a0.kind=2)) then (Ws k a0.code).bind fun x3=> if (decide (0<=x3.2)) then (Xb 8).bind fun x4=> some (Zm.mk 4 a0.name (Za.mk 0 0 (⟨#[]⟩:ByteArray) []) x4 x3.2) else some (Zm.mk 2 a0.name x3.1 (Zb.mk 0 0 0 (⟨#[]⟩:ByteArray) [] [] []) 0) else (Wu k a0.code).bind fun x5=> if (!x5.2) then (Xb 8).bind fun x6=> (UY k a0.code).bind fun x7=> some (Zm.mk 4 a0.name (Za.mk 0 0 (⟨#[]⟩:ByteArray) []) x6 x7) else (Vm k a0.id x5.1).bind fun x8=> some (Zm.mk 3 a0.name (Za.mk 0 0 (⟨#[]⟩:ByteArray) []) x8 0)
def Ql (k:Nat) (a0:Ze):Nat->(List Zm)->Int->Option (List Zm) | 0,_,_=>none | n_+1,x3,x4=> if (decide (x4<(a0.cells.length:Int))) then (at? a0.cells x4).bind fun x5=> (Yv k x5).bind fun x6=> (Qb 200 x3 [x6]).bind fun x7=> Ql k a0 n_ x7 (IntKind.i64.wrap (x4+1)) else some x3
def Va (k:Nat) (a0:Ze):Option (List Zm):= (Xu k a0).bind fun x1=> if (!x1) then some [] else (Ql k a0 k ([]:List Zm) 0).bind fun x2=> some x2
def Xd (a0:List Zm) (a1:ByteArray):Nat->(List Int)->Int->Option (List Int) | 0,_,_=>none | n_+1,x2,x3=> if (decide (x3<(a0.length:Int))) then ((at? a0 x3).bind fun x5=> (if (!decide (x5.kind=1)) then some (decide (x5.name=a1)) else some false).bind fun x6=> if x6 then (Qb 8 x2 [x3]).bind fun x7=> some x7 else some x2).bind fun x4=> Xd a0 a1 n_ x4 (IntKind.i64.wrap (x3+1)) else some x2
def W9 (k:Nat) (a0:List Zm) (a1:ByteArray):Option (List Int):= (Xd a0 a1 k ([]:List Int) 0).bind fun x1=> some x1
def Qa (k:Nat) (a0:List Zm) (a1:Int):Option Bool:= (if (decide (0<=a1)) then if (decide (a1<(a0.length:Int))) then (at? a0 a1).bind fun x2=> if (!decide (x2.kind=1)) then (W9 k a0 x2.name).bind fun x3=> some (decide (1<(x3.length:Int))) else some false else some false else some false).bind fun x1=> some x1
def Wq (a0:List Int) (a1:Int):Nat->Int->Option (Unit ⊕ Bool) | 0,_=>none | n_+1,x1=> if (decide (x1<(a0.length:Int))) then (at? a0 x1).bind fun x2=> if (decide (x2=a1)) then some (.inr true) else Wq a0 a1 n_ (IntKind.i64.wrap (x1+1)) else some (.inl ())
def Vl (k:Nat) (a0:List Int) (a1:Int):Option Bool:= (Wq a0 a1 k 0:Option (Unit ⊕ Bool)).bind fun | .inl _=>( some false) | .inr z3=>( some z3)
def Wo (a0:List Int):Nat->(List (Int×Bool))->(List Int)->Int->Option (List Int) | 0,_,_,_=>none | n_+1,x2,x3,x4=> if (decide (x4<(a0.length:Int))) then ((at? a0 x4).bind fun x7=> if (!((Zge x2 x7).getD false)) then (Qb 8 x3 [x7]).bind fun x8=> some ((Zgc x2 x7 true),x8) else some (x2,x3)).bind fun (x5,x6)=> Wo a0 n_ x5 x6 (IntKind.i64.wrap (x4+1)) else some x3
def Km (k:Nat) (a0:List Int):Option (List Int):= (Wo a0 k ([]:List (Int×Bool)) ([]:List Int) 0).bind fun x1=> (WT x1).bind fun x9=> some x9
def WE (k:Nat) (step:Int->Option (List Int)):Nat->List Int->List Int->Nat->Option (List Int) | 0,_,_,_=>none | n_+1,out,todo,t=> if (decide (0<(todo.length:Int))) then (at? todo 0).bind fun x=> (Vl k out x).bind fun b=> if (!b) then (Qb 8 out [x]).bind fun o=> (step x).bind fun ys=> if t+ys.length<=17592186044416 then WE k step n_ o (todo.drop 1++ys) (t+ys.length) else none else WE k step n_ out (todo.drop 1) t else some out
def Zc2 (k:Nat) (step:Int->Option (List Int)) (a0:Int):Option (List Int):= (step a0).bind fun x1=> (if x1.length<=17592186044416 then WE k step k [] x1 x1.length else none).bind fun x2=> (Km k x2).bind fun x3=> some x3
def Ur (a0:ByteArray) (a1:List ByteArray) (a20:List ByteArray):Option (List ByteArray):= (Qb 16 a20 [a0]).bind fun x1=> some x1
def Yh (rec_i_walker_visit:Za->(List ByteArray)->(List ByteArray)->Option (List ByteArray)) (a1:Za) (a2:List ByteArray) (x4:Bool):Nat->(List ByteArray)->Int->Option (List ByteArray) | 0,_,_=>none | n_+1,x5,x6=> if (decide (x6<(a1.args.length:Int))) then (at? a1.args x6).bind fun x7=> ((if x4 then some (decide (0<x6)) else some false).bind fun x9=> if x9 then (Qb 16 ([]:List ByteArray) a2).bind fun x10=> (Qb 16 x10 [a1.text]).bind fun x11=> some x11 else some a2).bind fun x8=> (rec_i_walker_visit x7 x8 x5).bind fun x12=> Yh rec_i_walker_visit a1 a2 x4 n_ x12 (IntKind.i64.wrap (x6+1)) else some x5
def Z1:Nat->Za->(List ByteArray)->(List ByteArray)->Option (List ByteArray) | 0,_,_,_=>none | k+1,a1,a2,a20=> ((if (decide (a1.kind=3)) then (UW k a2 a1.text).bind fun x2=> some (decide (x2<0)) else some false).bind fun x1=> if x1 then (Ur a1.text a2 a20).bind fun x3=> some (.inr x3) else some (.inl ()):Option (Unit ⊕ (List ByteArray))).bind fun | .inl _=>( (if (decide (a1.kind=7)) then some true else some (decide (a1.kind=9))).bind fun x4=> ((if x4 then some () else some ()).bind fun _=> some ()).bind fun _=> Yh (Z1 k) a1 a2 x4 k a20 0) | .inr z13=>( some z13)
def QG (k:Nat) (a0:List ByteArray):Nat->(List ByteArray)->Int->Option (List ByteArray) | 0,_,_=>none | n_+1,x2,x3=> if (decide (x3<(a0.length:Int))) then ((at? a0 x3).bind fun x5=> (UW k a0 x5).bind fun x6=> if (decide (x6=x3)) then (Qb 16 x2 [x5]).bind fun x7=> some x7 else some x2).bind fun x4=> QG k a0 n_ x4 (IntKind.i64.wrap (x3+1)) else some x2
def VL (k:Nat) (a0:List ByteArray):Option (List ByteArray):= (QG k a0 k ([]:List ByteArray) 0).bind fun x1=> (Xe x1).bind fun x8=> some x8
def Ks (k:Nat) (a0:Za):Option (List ByteArray):= (Z1 k a0 [] ([]:List ByteArray)).bind fun x1=> (VL k x1).bind fun x2=> some x2
def ZaP (k:Nat) (a0:Zm):Option (List ByteArray):= if (!decide (a0.kind=2)) then some [] else (Ks k a0.expr).bind fun x1=> some x1
def V5 (k:Nat) (a0:List Zm) (a1:ByteArray):Option Int:= (W9 k a0 a1).bind fun x1=> if (decide ((x1.length:Int)=0)) then some (-1) else if (decide ((x1.length:Int)=1)) then (at? x1 0).bind fun x2=> some x2 else some (-2)
def Qk (k:Nat) (a0:List Zm) (x4:List ByteArray):Nat->(List Int)->Int->Option (List Int) | 0,_,_=>none | n_+1,x5,x6=> if (decide (x6<(x4.length:Int))) then ((at? x4 x6).bind fun x8=> (V5 k a0 x8).bind fun x9=> if (decide (0<=x9)) then (Qb 8 x5 [x9]).bind fun x10=> some x10 else some x5).bind fun x7=> Qk k a0 x4 n_ x7 (IntKind.i64.wrap (x6+1)) else some x5
def YD (k:Nat) (a0:List Zm) (a1:Int):Option (List Int):= (if (decide (a1<0)) then some true else some (decide ((a0.length:Int)<=a1))).bind fun x1=> if x1 then some [] else ((at? a0 a1).bind fun x3=> (ZaP k x3).bind fun x4=> Qk k a0 x4 k ([]:List Int) 0).bind fun x2=> (Km k x2).bind fun x11=> some x11
def VO (k:Nat) (a0:Int) (a20:List Zm):Option (List Int):= (YD k a20 a0).bind fun x1=> some x1
def Zay (k:Nat) (a0:List Zm) (a1:Int):Option (List Int):= Zc2 k (fun x=>VO k x a0) a1
def Vo (k:Nat) (a0:List Zm) (a1:Int):Option Bool:= (Zay k a0 a1).bind fun x1=> (Vl k x1 a1).bind fun x2=> some x2
def YC (k:Nat) (a0:List Zm) (a1:Int):Option (Zb×Bool):= (if (decide (a1<0)) then some true else some (decide ((a0.length:Int)<=a1))).bind fun x1=> if x1 then some ((Zb.mk 0 0 0 (⟨#[]⟩:ByteArray) [] [] []),false) else (at? a0 a1).bind fun x2=> if (decide (x2.kind=1)) then some ((Zb.mk 0 0 0 (⟨#[]⟩:ByteArray) [] [] []),true) else (Qa k a0 a1).bind fun x3=> if x3 then (Xb 2).bind fun x4=> some (x4,true) else if (decide (x2.kind=4)) then (Xb 8).bind fun x5=> some (x5,true) else if (decide (x2.kind=3)) then (Yz k x2.value).bind fun x6=> some (x6,true) else (Vo k a0 a1).bind fun x7=> if x7 then (Xb 3).bind fun x8=> some (x8,true) else some ((Zb.mk 0 0 0 (⟨#[]⟩:ByteArray) [] [] []),false)
def QH (k:Nat) (a0:List Zm) (a1:Int):Option Bool:= (if (decide (0<=a1)) then if (decide (a1<(a0.length:Int))) then (at? a0 a1).bind fun x2=> if (decide (x2.kind=2)) then (Qa k a0 a1).bind fun x3=> if (!x3) then (Vo k a0 a1).bind fun x4=> some (!x4) else some false else if (decide (x2.kind=3)) then (Qa k a0 a1).bind fun x5=> if (!x5) then (Vo k a0 a1).bind fun x6=> some (!x6) else some false else some false else some false else some false).bind fun x1=> some x1
def Z2 (k:Nat) (a0:List Zm) (x2:List Int):Nat->(List Int)->Int->Option (List Int) | 0,_,_=>none | n_+1,x3,x4=> if (decide (x4<(x2.length:Int))) then ((at? x2 x4).bind fun x6=> (QH k a0 x6).bind fun x7=> if x7 then (Qb 8 x3 [x6]).bind fun x8=> some x8 else some x3).bind fun x5=> Z2 k a0 x2 n_ x5 (IntKind.i64.wrap (x4+1)) else some x3
def XX (k:Nat) (a0:List Zm) (a1:Int):Option (List Int):= ((YD k a0 a1).bind fun x2=> Z2 k a0 x2 k ([]:List Int) 0).bind fun x1=> some x1
def W7 (k:Nat) (a0:List Int) (a1:List Int):Nat->Int->Option (Unit ⊕ Bool) | 0,_=>none | n_+1,x1=> if (decide (x1<(a0.length:Int))) then (at? a0 x1).bind fun x2=> (Vl k a1 x2).bind fun x3=> if (!x3) then some (.inr false) else W7 k a0 a1 n_ (IntKind.i64.wrap (x1+1)) else some (.inl ())
def Zbu (k:Nat) (a0:List Int) (a1:List Int):Option Bool:= (W7 k a0 a1 k 0:Option (Unit ⊕ Bool)).bind fun | .inl _=>( some true) | .inr z4=>( some z4)
def YS (k:Nat) (a0:List Zm) (x1:List Int):Nat->Int->Option Int | 0,_=>none | n_+1,x3=> (if (decide (x3<(a0.length:Int))) then (Vl k x1 x3).bind fun x5=> if x5 then some true else (QH k a0 x3).bind fun x6=> if (!x6) then some true else (XX k a0 x3).bind fun x7=> (Zbu k x7 x1).bind fun x8=> some (!x8) else some false).bind fun x4=> if x4 then YS k a0 x1 n_ (IntKind.i64.wrap (x3+1)) else some x3
def Qx (k:Nat) (a0:List Zm):Nat->(List Int)->Option (List Int) | 0,_=>none | n_+1,x1=> (YS k a0 x1 k 0).bind fun x2=> if (decide (x2=(a0.length:Int))) then some x1 else (Qb 8 x1 [x2]).bind fun x9=> Qx k a0 n_ x9
def JR (k:Nat) (a0:List Zm):Option (List Int):= Qx k a0 k ([]:List Int)
def XO (rec_i_isPipe:Za->Option Bool) (a0:Za) (x1:Int):Nat->Int->Option (Unit ⊕ Bool) | 0,_=>none | n_+1,x3=> if (decide (x3<(a0.args.length:Int))) then ((at? a0.args x3).bind fun x4=> if (decide ((IntKind.i64.wrap ((a0.args.length:Int)-x1))<=x3)) then (rec_i_isPipe x4).bind fun x5=> if (!x5) then some (.inr false) else some (.inl ()) else (if (!decide (x4.kind=1)) then some (!decide (x4.kind=2)) else some false).bind fun x6=> if x6 then some (.inr false) else some (.inl ()):Option (Unit ⊕ Bool)).bind fun | .inl _=>( XO rec_i_isPipe a0 x1 n_ (IntKind.i64.wrap (x3+1))) | .inr z7=>( some (.inr z7)) else some (.inl ())
def Yt:Nat->Za->Option Bool | 0,_=>none | k+1,a0=> if (decide (a0.kind=3)) then some true else ((if (decide (a0.text=(⟨#[119,104,101,114,101]⟩:ByteArray))) then some true else if (decide (a0.text=(⟨#[107,101,101,112]⟩:ByteArray))) then some true else if (decide (a0.text=(⟨#[97,100,100]⟩:ByteArray))) then some true else some (decide (a0.text=(⟨#[103,114,111,117,112]⟩:ByteArray)))).bind fun x2=> if x2 then some (.inl 1) else if (decide (a0.text=(⟨#[106,111,105,110]⟩:ByteArray))) then some (.inl 2) else some (.inr false):Option (Int ⊕ Bool)).bind fun | .inl x1=>( if (!decide (a0.kind=5)) then some false else (XO (Yt k) a0 x1 k 0:Option (Unit ⊕ Bool)).bind fun | .inl _=>( some true) | .inr z8=>( some z8)) | .inr z9=>( some z9)
def W8 (k:Nat) (a0:Za):Option Bool:= ((Xa k a0).bind fun x2=> if x2 then (Yt k a0).bind fun x3=> some x3 else some false).bind fun x1=> some x1
def ZU (k:Nat) (x1:List Zm):Nat->(List Int)->Int->Option (List Int) | 0,_,_=>none | n_+1,x3,x4=> if (decide (x4<(x1.length:Int))) then ((YC k x1 x4).bind fun x6=> (if x6.2 then some (decide (x6.1.kind=5)) else some false).bind fun x7=> if x7 then (Qb 8 x3 [x4]).bind fun x8=> some x8 else some x3).bind fun x5=> ZU k x1 n_ x5 (IntKind.i64.wrap (x4+1)) else some x3
def ZT (k:Nat) (x1:List Zm) (x10:List Int):Nat->(List Int)->Int->Option (List Int) | 0,_,_=>none | n_+1,x11,x12=> if (decide (x12<(x10.length:Int))) then ((at? x10 x12).bind fun x14=> ((at? x1 x14).bind fun x16=> if (decide (x16.kind=2)) then (W8 k x16.expr).bind fun x17=> if x17 then (YD k x1 x14).bind fun x18=> (Zbu k x18 x11).bind fun x19=> some x19 else some false else some false).bind fun x15=> if x15 then (Qb 8 x11 [x14]).bind fun x20=> some x20 else some x11).bind fun x13=> ZT k x1 x10 n_ x13 (IntKind.i64.wrap (x12+1)) else some x11
def Z7 (a0:Ze) (x22:List Int):Nat->(List Int)->Int->Option (List Int) | 0,_,_=>none | n_+1,x23,x24=> if (decide (x24<(x22.length:Int))) then (at? x22 x24).bind fun x25=> (at? a0.cells x25).bind fun x26=> (Qb 8 x23 [x26.id]).bind fun x27=> Z7 a0 x22 n_ x27 (IntKind.i64.wrap (x24+1)) else some x23
def Xt (k:Nat) (a0:Ze):Option (List Int):= (Va k a0).bind fun x1=> (ZU k x1 k ([]:List Int) 0).bind fun x2=> ((JR k x1).bind fun x10=> ZT k x1 x10 k x2 0).bind fun x9=> ((Km k x9).bind fun x22=> Z7 a0 x22 k ([]:List Int) 0).bind fun x21=> some x21
end Go.Proofs.YtbkllghhcphkaaaGreatDoor
namespace Go.Proofs
open Go.Shelf
def Tryz.ZiI:Go.Shelf.Ren:=⟨fun | 137=>263| 217=>287| 266=>310| n=>n,fun | 9=>9| 5=>5| 3=>3| n=>n,fun | n=>n⟩
theorem Tryz.Zp4:Go.Proofs.Lays.n137 Tryz.prog Tryz.ZiI:={
 mixed:=by kernel_rfl
 f137:=Tryz.func263.trans (congrArg some (by kernel_rfl))
 f217:=Tryz.func287.trans (congrArg some (by kernel_rfl))
 f266:=Tryz.func310.trans (congrArg some (by kernel_rfl))
 t3:=Tryz.underlying3
 a3:=Tryz.isAgg3
 z3:=Tryz.sizeOf3
 v3:=Tryz.zeroValue3
 t5:=Tryz.underlying5
 a5:=Tryz.isAgg5
 z5:=Tryz.sizeOf5
 v5:=Tryz.zeroValue5
 t9:=Tryz.underlying9
 a9:=Tryz.isAgg9
 z9:=Tryz.sizeOf9
 v9:=Tryz.zeroValue9}
open Go.RowKit in
theorem Tryz.strings_IndexByte (s:ByteArray) (c:Int) (w:World):
  Calls Tryz.prog 263 #[.string s,.int .u8 c] w fun e w'=>e= .returned (.int .i64 (Lib.indexByte s.data.toList c.toNat.toUInt8))/\w'=w:=Any.strings_IndexByte Tryz.Zp4 s c w
def Tryz.Zp2:Go.Shelf.Ren:=⟨fun | 172=>271| 244=>294| 245=>295| 247=>316| 279=>317| 280=>318| 281=>319| 282=>320| 287=>330| 316=>331| 171=>272| 205=>332| 321=>338| 322=>339| 243=>296| 246=>321| 283=>333| 284=>334| 285=>335| 286=>336| 129=>245| 317=>340| 318=>341| 319=>342| 320=>343| 337=>344| 338=>345| n=>n,fun | 9=>9| 3=>3| 75=>280| 76=>281| 4=>4| 5=>5| 167=>309| 37=>168| 0=>0| 85=>310| 2=>2| 168=>312| 53=>262| 175=>327| 46=>218| 210=>331| 127=>339| 145=>342| 143=>340| 21=>21| 171=>333| 173=>335| 212=>344| 51=>260| 20=>20| 213=>345| 232=>346| 233=>347| 80=>247| n=>n,fun | 15=>3| 16=>4| 17=>5| 18=>6| 19=>7| n=>n⟩
def Tryz.ZoI:Go.Shelf.Ren:=⟨fun | 246=>321| 283=>333| 284=>334| 285=>335| 286=>336| 129=>245| 317=>340| 318=>341| 319=>342| 320=>343| 337=>344| 338=>345| n=>n,fun | 2=>2| 3=>3| 9=>9| 4=>4| 171=>333| 0=>0| 53=>262| 37=>168| 5=>5| 173=>335| 212=>344| 51=>260| 20=>20| 213=>345| 46=>218| 232=>346| 233=>347| n=>n,fun | 17=>5| 18=>6| 19=>7| n=>n⟩
def Tryz.ZoJ:Go.Shelf.Ren:=⟨fun | 243=>296| 246=>321| 283=>333| 284=>334| 285=>335| 286=>336| 129=>245| 317=>340| 318=>341| 319=>342| 320=>343| 337=>344| 338=>345| n=>n,fun | 3=>3| 9=>9| 2=>2| 4=>4| 171=>333| 0=>0| 53=>262| 37=>168| 5=>5| 173=>335| 212=>344| 51=>260| 20=>20| 213=>345| 46=>218| 232=>346| 233=>347| n=>n,fun | 17=>5| 18=>6| 19=>7| n=>n⟩
def Tryz.Zhn:Go.Shelf.Ren:=⟨fun | 171=>272| 243=>296| 246=>321| 283=>333| 284=>334| 285=>335| 286=>336| 129=>245| 317=>340| 318=>341| 319=>342| 320=>343| 337=>344| 338=>345| n=>n,fun | 3=>3| 9=>9| 2=>2| 4=>4| 171=>333| 0=>0| 53=>262| 37=>168| 5=>5| 173=>335| 212=>344| 51=>260| 20=>20| 213=>345| 46=>218| 232=>346| 233=>347| n=>n,fun | 17=>5| 18=>6| 19=>7| n=>n⟩
theorem Tryz.ZnP:Go.Proofs.LaysM.n171 Tryz.prog Tryz.Zhn:={
 mixed:=by kernel_rfl
 f129:=Tryz.func245.trans (congrArg some (by kernel_rfl))
 f171:=Tryz.func272.trans (congrArg some (by kernel_rfl))
 f243:=Tryz.func296.trans (congrArg some (by kernel_rfl))
 f246:=Tryz.func321.trans (congrArg some (by kernel_rfl))
 f283:=Tryz.func333.trans (congrArg some (by kernel_rfl))
 f284:=Tryz.func334.trans (congrArg some (by kernel_rfl))
 f285:=Tryz.func335.trans (congrArg some (by kernel_rfl))
 f286:=Tryz.func336.trans (congrArg some (by kernel_rfl))
 f317:=Tryz.func340.trans (congrArg some (by kernel_rfl))
 f318:=Tryz.func341.trans (congrArg some (by kernel_rfl))
 f319:=Tryz.func342.trans (congrArg some (by kernel_rfl))
 f320:=Tryz.func343.trans (congrArg some (by kernel_rfl))
 f337:=Tryz.func344.trans (congrArg some (by kernel_rfl))
 f338:=Tryz.func345.trans (congrArg some (by kernel_rfl))
 t0:=Tryz.underlying0
 a0:=Tryz.isAgg0
 z0:=Tryz.sizeOf0
 v0:=Tryz.zeroValue0
 t2:=Tryz.underlying2
 a2:=Tryz.isAgg2
 z2:=Tryz.sizeOf2
 v2:=Tryz.zeroValue2
 t3:=Tryz.underlying3
 a3:=Tryz.isAgg3
 z3:=Tryz.sizeOf3
 v3:=Tryz.zeroValue3
 t4:=Tryz.underlying4
 a4:=Tryz.isAgg4
 z4:=Tryz.sizeOf4
 v4:=Tryz.zeroValue4
 t5:=Tryz.underlying5
 a5:=Tryz.isAgg5
 z5:=Tryz.sizeOf5
 v5:=Tryz.zeroValue5
 t9:=Tryz.underlying9
 a9:=Tryz.isAgg9
 z9:=Tryz.sizeOf9
 v9:=Tryz.zeroValue9
 t20:=Tryz.underlying20
 a20:=Tryz.isAgg20
 z20:=Tryz.sizeOf20
 v20:=Tryz.zeroValue20
 t37:=Tryz.underlying168
 a37:=Tryz.isAgg168
 z37:=Tryz.sizeOf168
 v37:=Tryz.zeroValue168
 t46:=Tryz.underlying218
 a46:=Tryz.isAgg218
 z46:=Tryz.sizeOf218
 v46:=Tryz.zeroValue218
 t51:=Tryz.underlying260
 a51:=Tryz.isAgg260
 z51:=Tryz.sizeOf260
 v51:=Tryz.zeroValue260
 t53:=Tryz.underlying262
 a53:=Tryz.isAgg262
 z53:=Tryz.sizeOf262
 v53:=Tryz.zeroValue262
 t171:=Tryz.underlying333
 a171:=Tryz.isAgg333
 z171:=Tryz.sizeOf333
 v171:=Tryz.zeroValue333
 t173:=Tryz.underlying335
 a173:=Tryz.isAgg335
 z173:=Tryz.sizeOf335
 v173:=Tryz.zeroValue335
 t212:=Tryz.underlying344
 a212:=Tryz.isAgg344
 z212:=Tryz.sizeOf344
 v212:=Tryz.zeroValue344
 t213:=Tryz.underlying345
 a213:=Tryz.isAgg345
 z213:=Tryz.sizeOf345
 t232:=Tryz.underlying346
 a232:=Tryz.isAgg346
 z232:=Tryz.sizeOf346
 v232:=Tryz.zeroValue346
 t233:=Tryz.underlying347
 a233:=Tryz.isAgg347
 z233:=Tryz.sizeOf347
 v233:=Tryz.zeroValue347
 g17:=by kernel_rfl
 g18:=by kernel_rfl
 g19:=by kernel_rfl
 i0:=by kernel_rfl
 i2:=by kernel_rfl
 i3:=by kernel_rfl
 i4:=by kernel_rfl
 i5:=by kernel_rfl
 i9:=by kernel_rfl
 i20:=by kernel_rfl
 i37:=by kernel_rfl
 i46:=by kernel_rfl
 i51:=by kernel_rfl
 i53:=by kernel_rfl
 i171:=by kernel_rfl
 i173:=by kernel_rfl
 i212:=by kernel_rfl
 i232:=by kernel_rfl
 i233:=by kernel_rfl
 m17:=by kernel_rfl
 m18:=by kernel_rfl
 m19:=by kernel_rfl}
open Go.RowKit Go.Sort Go.Lib in
theorem Tryz.strconv_Itoa (n:Int) (h0: -9223372036854775808<=n) (h1:n<=9223372036854775807) (w:World) (htab:Lib.TabIs Tryz.prog w "internal/strconv.uint64pow10" .u64 Lib.pow10Tab):
  Calls Tryz.prog 272 #[.int .i64 n] w fun e w'=>e= .returned (.string ⟨(Lib.itoa n).toArray⟩)/\∃k os,w'=grow (w.drewN k) os:=Any.strconv_Itoa Tryz.ZnP n h0 h1 w htab
def Tryz.Zho:Go.Shelf.Ren:=⟨fun | 172=>271| 244=>294| 245=>295| 247=>316| 279=>317| 280=>318| 281=>319| 282=>320| 287=>330| 316=>331| 171=>272| 205=>332| 321=>338| 322=>339| 243=>296| 246=>321| 283=>333| 284=>334| 285=>335| 286=>336| 129=>245| 317=>340| 318=>341| 319=>342| 320=>343| 337=>344| 338=>345| n=>n,fun | 9=>9| 3=>3| 75=>280| 76=>281| 4=>4| 5=>5| 167=>309| 37=>168| 0=>0| 85=>310| 2=>2| 168=>312| 53=>262| 175=>327| 46=>218| 210=>331| 127=>339| 145=>342| 143=>340| 21=>21| 171=>333| 173=>335| 212=>344| 51=>260| 20=>20| 213=>345| 232=>346| 233=>347| 80=>247| n=>n,fun | 15=>3| 16=>4| 17=>5| 18=>6| 19=>7| n=>n⟩
theorem Tryz.Zgi:Go.Proofs.LaysC.n172 Tryz.prog Tryz.Zho:={
 mixed:=by kernel_rfl
 f129:=Tryz.func245.trans (congrArg some (by kernel_rfl))
 f171:=Tryz.func272.trans (congrArg some (by kernel_rfl))
 f172:=Tryz.func271.trans (congrArg some (by kernel_rfl))
 f205:=Tryz.func332.trans (congrArg some (by kernel_rfl))
 f243:=Tryz.func296.trans (congrArg some (by kernel_rfl))
 f244:=Tryz.func294.trans (congrArg some (by kernel_rfl))
 f245:=Tryz.func295.trans (congrArg some (by kernel_rfl))
 f246:=Tryz.func321.trans (congrArg some (by kernel_rfl))
 f247:=Tryz.func316.trans (congrArg some (by kernel_rfl))
 f279:=Tryz.func317.trans (congrArg some (by kernel_rfl))
 f280:=Tryz.func318.trans (congrArg some (by kernel_rfl))
 f281:=Tryz.func319.trans (congrArg some (by kernel_rfl))
 f282:=Tryz.func320.trans (congrArg some (by kernel_rfl))
 f283:=Tryz.func333.trans (congrArg some (by kernel_rfl))
 f284:=Tryz.func334.trans (congrArg some (by kernel_rfl))
 f285:=Tryz.func335.trans (congrArg some (by kernel_rfl))
 f286:=Tryz.func336.trans (congrArg some (by kernel_rfl))
 f287:=Tryz.func330.trans (congrArg some (by kernel_rfl))
 f316:=Tryz.func331.trans (congrArg some (by kernel_rfl))
 f317:=Tryz.func340.trans (congrArg some (by kernel_rfl))
 f318:=Tryz.func341.trans (congrArg some (by kernel_rfl))
 f319:=Tryz.func342.trans (congrArg some (by kernel_rfl))
 f320:=Tryz.func343.trans (congrArg some (by kernel_rfl))
 f321:=Tryz.func338.trans (congrArg some (by kernel_rfl))
 f322:=Tryz.func339.trans (congrArg some (by kernel_rfl))
 f337:=Tryz.func344.trans (congrArg some (by kernel_rfl))
 f338:=Tryz.func345.trans (congrArg some (by kernel_rfl))
 t0:=Tryz.underlying0
 a0:=Tryz.isAgg0
 z0:=Tryz.sizeOf0
 v0:=Tryz.zeroValue0
 t2:=Tryz.underlying2
 a2:=Tryz.isAgg2
 z2:=Tryz.sizeOf2
 v2:=Tryz.zeroValue2
 t3:=Tryz.underlying3
 a3:=Tryz.isAgg3
 z3:=Tryz.sizeOf3
 v3:=Tryz.zeroValue3
 t4:=Tryz.underlying4
 a4:=Tryz.isAgg4
 z4:=Tryz.sizeOf4
 v4:=Tryz.zeroValue4
 t5:=Tryz.underlying5
 a5:=Tryz.isAgg5
 z5:=Tryz.sizeOf5
 v5:=Tryz.zeroValue5
 t9:=Tryz.underlying9
 a9:=Tryz.isAgg9
 z9:=Tryz.sizeOf9
 v9:=Tryz.zeroValue9
 t20:=Tryz.underlying20
 a20:=Tryz.isAgg20
 z20:=Tryz.sizeOf20
 v20:=Tryz.zeroValue20
 t21:=Tryz.underlying21
 a21:=Tryz.isAgg21
 z21:=Tryz.sizeOf21
 v21:=Tryz.zeroValue21
 t37:=Tryz.underlying168
 a37:=Tryz.isAgg168
 z37:=Tryz.sizeOf168
 v37:=Tryz.zeroValue168
 t46:=Tryz.underlying218
 a46:=Tryz.isAgg218
 z46:=Tryz.sizeOf218
 v46:=Tryz.zeroValue218
 t51:=Tryz.underlying260
 a51:=Tryz.isAgg260
 z51:=Tryz.sizeOf260
 v51:=Tryz.zeroValue260
 t53:=Tryz.underlying262
 a53:=Tryz.isAgg262
 z53:=Tryz.sizeOf262
 v53:=Tryz.zeroValue262
 t75:=Tryz.underlying280
 a75:=Tryz.isAgg280
 z75:=Tryz.sizeOf280
 v75:=Tryz.zeroValue280
 t76:=Tryz.underlying281
 a76:=Tryz.isAgg281
 z76:=Tryz.sizeOf281
 v76:=Tryz.zeroValue281
 t85:=Tryz.underlying310
 a85:=Tryz.isAgg310
 z85:=Tryz.sizeOf310
 v85:=Tryz.zeroValue310
 t127:=Tryz.underlying339
 a127:=Tryz.isAgg339
 z127:=Tryz.sizeOf339
 v127:=Tryz.zeroValue339
 t143:=Tryz.underlying340
 a143:=Tryz.isAgg340
 z143:=Tryz.sizeOf340
 v143:=Tryz.zeroValue340
 t145:=Tryz.underlying342
 a145:=Tryz.isAgg342
 z145:=Tryz.sizeOf342
 v145:=Tryz.zeroValue342
 t167:=Tryz.underlying309
 a167:=Tryz.isAgg309
 z167:=Tryz.sizeOf309
 v167:=Tryz.zeroValue309
 t168:=Tryz.underlying312
 a168:=Tryz.isAgg312
 z168:=Tryz.sizeOf312
 v168:=Tryz.zeroValue312
 t171:=Tryz.underlying333
 a171:=Tryz.isAgg333
 z171:=Tryz.sizeOf333
 v171:=Tryz.zeroValue333
 t173:=Tryz.underlying335
 a173:=Tryz.isAgg335
 z173:=Tryz.sizeOf335
 v173:=Tryz.zeroValue335
 t175:=Tryz.underlying327
 a175:=Tryz.isAgg327
 z175:=Tryz.sizeOf327
 v175:=Tryz.zeroValue327
 t210:=Tryz.underlying331
 a210:=Tryz.isAgg331
 z210:=Tryz.sizeOf331
 v210:=Tryz.zeroValue331
 t212:=Tryz.underlying344
 a212:=Tryz.isAgg344
 z212:=Tryz.sizeOf344
 v212:=Tryz.zeroValue344
 t213:=Tryz.underlying345
 a213:=Tryz.isAgg345
 z213:=Tryz.sizeOf345
 t232:=Tryz.underlying346
 a232:=Tryz.isAgg346
 z232:=Tryz.sizeOf346
 v232:=Tryz.zeroValue346
 t233:=Tryz.underlying347
 a233:=Tryz.isAgg347
 z233:=Tryz.sizeOf347
 v233:=Tryz.zeroValue347
 g15:=by kernel_rfl
 g16:=by kernel_rfl
 g17:=by kernel_rfl
 g18:=by kernel_rfl
 g19:=by kernel_rfl
 t80:=Tryz.underlying247
 a80:=Tryz.isAgg247
 z80:=Tryz.sizeOf247
 v80:=Tryz.zeroValue247
 i0:=by kernel_rfl
 i2:=by kernel_rfl
 i3:=by kernel_rfl
 i4:=by kernel_rfl
 i5:=by kernel_rfl
 i9:=by kernel_rfl
 i20:=by kernel_rfl
 i21:=by kernel_rfl
 i37:=by kernel_rfl
 i46:=by kernel_rfl
 i51:=by kernel_rfl
 i53:=by kernel_rfl
 i75:=by kernel_rfl
 i76:=by kernel_rfl
 i80:=by kernel_rfl
 i85:=by kernel_rfl
 i127:=by kernel_rfl
 i143:=by kernel_rfl
 i145:=by kernel_rfl
 i167:=by kernel_rfl
 i168:=by kernel_rfl
 i171:=by kernel_rfl
 i173:=by kernel_rfl
 i175:=by kernel_rfl
 i210:=by kernel_rfl
 i212:=by kernel_rfl
 i232:=by kernel_rfl
 i233:=by kernel_rfl
 m15:=by kernel_rfl
 m16:=by kernel_rfl
 m17:=by kernel_rfl
 m18:=by kernel_rfl
 m19:=by kernel_rfl
 c0:=by kernel_rfl
 c2:=by kernel_rfl
 c3:=by kernel_rfl
 c4:=by kernel_rfl
 c5:=by kernel_rfl
 c9:=by kernel_rfl
 c20:=by kernel_rfl
 c21:=by kernel_rfl
 c37:=by kernel_rfl
 c46:=by kernel_rfl
 c51:=by kernel_rfl
 c53:=by kernel_rfl
 c75:=by kernel_rfl
 c76:=by kernel_rfl
 c80:=by kernel_rfl
 c85:=by kernel_rfl
 c127:=by kernel_rfl
 c143:=by kernel_rfl
 c145:=by kernel_rfl
 c167:=by kernel_rfl
 c168:=by kernel_rfl
 c171:=by kernel_rfl
 c173:=by kernel_rfl
 c175:=by kernel_rfl
 c210:=by kernel_rfl
 c212:=by kernel_rfl
 c213:=by kernel_rfl
 c232:=by kernel_rfl
 c233:=by kernel_rfl}
open Go.RowKit in
theorem Tryz.strconv_Atoi_ok (s:ByteArray) (hmax:s.size<=9223372036854775806) (v:Int) (h:Lib.atoiAll s.data.toList= .ok v) (w:World):
  Calls Tryz.prog 271 #[.string s] w fun e w'=>e= .returned (.tuple #[.int .i64 v,.nilIface])/\(w'=w\/∃t,w'=Lib.bytesWorld w 5 t):=Any.strconv_Atoi_ok Tryz.Zgi s hmax v h w
open Go.RowKit in
theorem Tryz.strconv_Atoi_syntax (s:ByteArray) (hlim:s.size<=281474976710656) (h:Lib.atoiAll s.data.toList= .«syntax») (ev:Value) (w:World) (hv:w.cell? ⟨3,0,none⟩=some ev) (hev:ev= .nilIface\/∃te pe,ev= .iface te pe):
  Calls Tryz.prog 271 #[.string s] w fun e w'=>∃N,e= .returned (.tuple #[.int .i64 (0),.iface 312 (.pointer (some ⟨N,0,none⟩))])/\w.heap.size<=N/\w'.heap[N]? =some (.cells #[.string ⟨#[65,116,111,105]⟩,.string s,ev] 331 (0,0))/\Below w.heap.size w w':=Any.strconv_Atoi_syntax Tryz.Zgi s hlim h ev w hv hev
open Go.RowKit in
theorem Tryz.strconv_Atoi_range (s:ByteArray) (hlim:s.size<=281474976710656) (h:Lib.atoiAll s.data.toList= .range) (ev:Value) (w:World) (hv:w.cell? ⟨4,0,none⟩=some ev) (hev:ev= .nilIface\/∃te pe,ev= .iface te pe):
  Calls Tryz.prog 271 #[.string s] w fun e w'=>∃N,e= .returned (.tuple #[.int .i64 (Lib.atoiSat s.data.toList),.iface 312 (.pointer (some ⟨N,0,none⟩))])/\w.heap.size<=N/\w'.heap[N]? =some (.cells #[.string ⟨#[65,116,111,105]⟩,.string s,ev] 331 (0,0))/\Below w.heap.size w w':=Any.strconv_Atoi_range Tryz.Zgi s hlim h ev w hv hev
def Tryz.ZiG:Go.Shelf.Ren:=⟨fun | 191=>86| 189=>139| 125=>188| 257=>187| 128=>244| 129=>245| 294=>235| 295=>236| 296=>237| 297=>238| 298=>239| 299=>240| 216=>241| 300=>242| 301=>243| 328=>274| 329=>275| 330=>276| 331=>277| 332=>278| 215=>279| 343=>297| n=>n,fun | 28=>26| 0=>0| 3=>3| 46=>218| 51=>260| 53=>262| 4=>4| 183=>253| 182=>252| 131=>240| 5=>5| 9=>9| 218=>284| 222=>288| 228=>297| 229=>298| n=>n,fun | n=>n⟩
theorem Tryz.Zmc:Go.Proofs.Lays.n191 Tryz.prog Tryz.ZiG:={
 mixed:=by kernel_rfl
 f125:=Tryz.func188.trans (congrArg some (by kernel_rfl))
 f128:=Tryz.func244.trans (congrArg some (by kernel_rfl))
 f129:=Tryz.func245.trans (congrArg some (by kernel_rfl))
 f189:=Tryz.func139.trans (congrArg some (by kernel_rfl))
 f191:=Tryz.func86.trans (congrArg some (by kernel_rfl))
 f215:=Tryz.func279.trans (congrArg some (by kernel_rfl))
 f216:=Tryz.func241.trans (congrArg some (by kernel_rfl))
 f257:=Tryz.func187.trans (congrArg some (by kernel_rfl))
 f294:=Tryz.func235.trans (congrArg some (by kernel_rfl))
 f295:=Tryz.func236.trans (congrArg some (by kernel_rfl))
 f296:=Tryz.func237.trans (congrArg some (by kernel_rfl))
 f297:=Tryz.func238.trans (congrArg some (by kernel_rfl))
 f298:=Tryz.func239.trans (congrArg some (by kernel_rfl))
 f299:=Tryz.func240.trans (congrArg some (by kernel_rfl))
 f300:=Tryz.func242.trans (congrArg some (by kernel_rfl))
 f301:=Tryz.func243.trans (congrArg some (by kernel_rfl))
 f328:=Tryz.func274.trans (congrArg some (by kernel_rfl))
 f329:=Tryz.func275.trans (congrArg some (by kernel_rfl))
 f330:=Tryz.func276.trans (congrArg some (by kernel_rfl))
 f331:=Tryz.func277.trans (congrArg some (by kernel_rfl))
 f332:=Tryz.func278.trans (congrArg some (by kernel_rfl))
 f343:=Tryz.func297.trans (congrArg some (by kernel_rfl))
 t0:=Tryz.underlying0
 a0:=Tryz.isAgg0
 z0:=Tryz.sizeOf0
 v0:=Tryz.zeroValue0
 t3:=Tryz.underlying3
 a3:=Tryz.isAgg3
 z3:=Tryz.sizeOf3
 v3:=Tryz.zeroValue3
 t4:=Tryz.underlying4
 a4:=Tryz.isAgg4
 z4:=Tryz.sizeOf4
 v4:=Tryz.zeroValue4
 t5:=Tryz.underlying5
 a5:=Tryz.isAgg5
 z5:=Tryz.sizeOf5
 v5:=Tryz.zeroValue5
 t9:=Tryz.underlying9
 a9:=Tryz.isAgg9
 z9:=Tryz.sizeOf9
 v9:=Tryz.zeroValue9
 t28:=Tryz.underlying26
 a28:=Tryz.isAgg26
 z28:=Tryz.sizeOf26
 v28:=Tryz.zeroValue26
 t46:=Tryz.underlying218
 a46:=Tryz.isAgg218
 z46:=Tryz.sizeOf218
 v46:=Tryz.zeroValue218
 t51:=Tryz.underlying260
 a51:=Tryz.isAgg260
 z51:=Tryz.sizeOf260
 v51:=Tryz.zeroValue260
 t53:=Tryz.underlying262
 a53:=Tryz.isAgg262
 z53:=Tryz.sizeOf262
 v53:=Tryz.zeroValue262
 t131:=Tryz.underlying240
 a131:=Tryz.isAgg240
 z131:=Tryz.sizeOf240
 v131:=Tryz.zeroValue240
 t182:=Tryz.underlying252
 a182:=Tryz.isAgg252
 z182:=Tryz.sizeOf252
 v182:=Tryz.zeroValue252
 t183:=Tryz.underlying253
 a183:=Tryz.isAgg253
 z183:=Tryz.sizeOf253
 v183:=Tryz.zeroValue253
 t218:=Tryz.underlying284
 a218:=Tryz.isAgg284
 z218:=Tryz.sizeOf284
 v218:=Tryz.zeroValue284
 t222:=Tryz.underlying288
 a222:=Tryz.isAgg288
 z222:=Tryz.sizeOf288
 v222:=Tryz.zeroValue288
 t228:=Tryz.underlying297
 a228:=Tryz.isAgg297
 z228:=Tryz.sizeOf297
 v228:=Tryz.zeroValue297
 t229:=Tryz.underlying298
 a229:=Tryz.isAgg298
 z229:=Tryz.sizeOf298
 v229:=Tryz.zeroValue298}
open Go.Sort Go.RowKit in
theorem Tryz.sort_Ints (blk off cap:Nat) (zs:List Int) (w:World) (hH:Holds (Value.int .i64) w blk off zs.toArray) (hblk:blk<w.heap.size) (hsz:zs.length<4611686018427387904):
  Calls Tryz.prog 86 #[.slice (some ⟨blk,off,none⟩) zs.length cap] w fun e w'=>
   e= .returned (.tuple #[])/\∃n os,w'=grow (putRow (Value.int .i64) (Sort.ahead w n) blk off (zs.mergeSort fun x y=>decide (x<=y)).toArray) os:=Any.sort_Ints Tryz.Zmc blk off cap zs w hH hblk hsz
def Tryz.ZiF:Go.Shelf.Ren:=⟨fun | 192=>200| 190=>250| 125=>188| 258=>282| 128=>244| 129=>245| 302=>299| 303=>300| 304=>301| 305=>302| 306=>303| 307=>304| 308=>305| 309=>306| 310=>307| 333=>322| 329=>275| 330=>276| 334=>323| 335=>324| 336=>325| 344=>337| n=>n,fun | 31=>69| 0=>0| 9=>9| 3=>3| 46=>218| 51=>260| 53=>262| 4=>4| 183=>253| 182=>252| 131=>240| 5=>5| 218=>284| 222=>288| 228=>297| 229=>298| n=>n,fun | n=>n⟩
theorem Tryz.Zmb:Go.Proofs.Lays.n192 Tryz.prog Tryz.ZiF:={
 mixed:=by kernel_rfl
 f125:=Tryz.func188.trans (congrArg some (by kernel_rfl))
 f128:=Tryz.func244.trans (congrArg some (by kernel_rfl))
 f129:=Tryz.func245.trans (congrArg some (by kernel_rfl))
 f190:=Tryz.func250.trans (congrArg some (by kernel_rfl))
 f192:=Tryz.func200.trans (congrArg some (by kernel_rfl))
 f258:=Tryz.func282.trans (congrArg some (by kernel_rfl))
 f302:=Tryz.func299.trans (congrArg some (by kernel_rfl))
 f303:=Tryz.func300.trans (congrArg some (by kernel_rfl))
 f304:=Tryz.func301.trans (congrArg some (by kernel_rfl))
 f305:=Tryz.func302.trans (congrArg some (by kernel_rfl))
 f306:=Tryz.func303.trans (congrArg some (by kernel_rfl))
 f307:=Tryz.func304.trans (congrArg some (by kernel_rfl))
 f308:=Tryz.func305.trans (congrArg some (by kernel_rfl))
 f309:=Tryz.func306.trans (congrArg some (by kernel_rfl))
 f310:=Tryz.func307.trans (congrArg some (by kernel_rfl))
 f329:=Tryz.func275.trans (congrArg some (by kernel_rfl))
 f330:=Tryz.func276.trans (congrArg some (by kernel_rfl))
 f333:=Tryz.func322.trans (congrArg some (by kernel_rfl))
 f334:=Tryz.func323.trans (congrArg some (by kernel_rfl))
 f335:=Tryz.func324.trans (congrArg some (by kernel_rfl))
 f336:=Tryz.func325.trans (congrArg some (by kernel_rfl))
 f344:=Tryz.func337.trans (congrArg some (by kernel_rfl))
 t0:=Tryz.underlying0
 a0:=Tryz.isAgg0
 z0:=Tryz.sizeOf0
 v0:=Tryz.zeroValue0
 t3:=Tryz.underlying3
 a3:=Tryz.isAgg3
 z3:=Tryz.sizeOf3
 v3:=Tryz.zeroValue3
 t4:=Tryz.underlying4
 a4:=Tryz.isAgg4
 z4:=Tryz.sizeOf4
 v4:=Tryz.zeroValue4
 t5:=Tryz.underlying5
 a5:=Tryz.isAgg5
 z5:=Tryz.sizeOf5
 v5:=Tryz.zeroValue5
 t9:=Tryz.underlying9
 a9:=Tryz.isAgg9
 z9:=Tryz.sizeOf9
 v9:=Tryz.zeroValue9
 t31:=Tryz.underlying69
 a31:=Tryz.isAgg69
 z31:=Tryz.sizeOf69
 v31:=Tryz.zeroValue69
 t46:=Tryz.underlying218
 a46:=Tryz.isAgg218
 z46:=Tryz.sizeOf218
 v46:=Tryz.zeroValue218
 t51:=Tryz.underlying260
 a51:=Tryz.isAgg260
 z51:=Tryz.sizeOf260
 v51:=Tryz.zeroValue260
 t53:=Tryz.underlying262
 a53:=Tryz.isAgg262
 z53:=Tryz.sizeOf262
 v53:=Tryz.zeroValue262
 t131:=Tryz.underlying240
 a131:=Tryz.isAgg240
 z131:=Tryz.sizeOf240
 v131:=Tryz.zeroValue240
 t182:=Tryz.underlying252
 a182:=Tryz.isAgg252
 z182:=Tryz.sizeOf252
 v182:=Tryz.zeroValue252
 t183:=Tryz.underlying253
 a183:=Tryz.isAgg253
 z183:=Tryz.sizeOf253
 v183:=Tryz.zeroValue253
 t218:=Tryz.underlying284
 a218:=Tryz.isAgg284
 z218:=Tryz.sizeOf284
 v218:=Tryz.zeroValue284
 t222:=Tryz.underlying288
 a222:=Tryz.isAgg288
 z222:=Tryz.sizeOf288
 v222:=Tryz.zeroValue288
 t228:=Tryz.underlying297
 a228:=Tryz.isAgg297
 z228:=Tryz.sizeOf297
 v228:=Tryz.zeroValue297
 t229:=Tryz.underlying298
 a229:=Tryz.isAgg298
 z229:=Tryz.sizeOf298
 v229:=Tryz.zeroValue298}
open Go.Sort Go.RowKit in
theorem Tryz.sort_Strings (blk off cap:Nat) (ss:List (List UInt8)) (w:World) (hH:Holds encStr w blk off ss.toArray) (hblk:blk<w.heap.size) (hsz:ss.length<4611686018427387904):
  Calls Tryz.prog 200 #[.slice (some ⟨blk,off,none⟩) ss.length cap] w fun e w'=>
   e= .returned (.tuple #[])/\∃n os,w'=grow (putRow encStr (Sort.ahead w n) blk off (ss.mergeSort fun x y=>decide (x<=y)).toArray) os:=Any.sort_Strings Tryz.Zmb blk off cap ss w hH hblk hsz
def Tryz.Zp1:Go.Shelf.Ren:=⟨fun | 206=>288| n=>n,fun | 9=>9| 4=>4| 3=>3| n=>n,fun | n=>n⟩
def Tryz.ZkD:Go.Shelf.Ren:=⟨fun | 99=>264| 206=>288| n=>n,fun | 9=>9| 4=>4| 3=>3| n=>n,fun | n=>n⟩
theorem Tryz.ZrW:Go.Proofs.Lays.n99 Tryz.prog Tryz.ZkD:={
 mixed:=by kernel_rfl
 f99:=Tryz.func264.trans (congrArg some (by kernel_rfl))
 f206:=Tryz.func288.trans (congrArg some (by kernel_rfl))
 t3:=Tryz.underlying3
 a3:=Tryz.isAgg3
 z3:=Tryz.sizeOf3
 v3:=Tryz.zeroValue3
 t4:=Tryz.underlying4
 a4:=Tryz.isAgg4
 z4:=Tryz.sizeOf4
 v4:=Tryz.zeroValue4
 t9:=Tryz.underlying9
 a9:=Tryz.isAgg9
 z9:=Tryz.sizeOf9
 v9:=Tryz.zeroValue9}
open Go.RowKit Go.Lib in
theorem Tryz.strings_HasPrefix (s p:ByteArray) (w:World):
  Calls Tryz.prog 264 #[.string s,.string p] w fun e w'=>e= .returned (.bool (Lib.hasPrefix s.data.toList p.data.toList))/\w'=w:=Any.strings_HasPrefix Tryz.ZrW s p w
def Tryz.Zp0:Go.Shelf.Ren:=⟨fun | 221=>227| 268=>268| 138=>269| 143=>270| 195=>290| 197=>291| 218=>292| 219=>293| 260=>312| 217=>287| 225=>313| 224=>314| 267=>315| 266=>310| 314=>329| n=>n,fun | 9=>9| 3=>3| 31=>69| 4=>4| 0=>0| 105=>294| 21=>21| 5=>5| 46=>218| 119=>321| 139=>324| 138=>323| 146=>325| 51=>260| n=>n,fun | 1=>0| 3=>1| 4=>2| n=>n⟩
def Tryz.ZiH:Go.Shelf.Ren:=⟨fun | 146=>180| 221=>227| 268=>268| 138=>269| 143=>270| 195=>290| 197=>291| 218=>292| 219=>293| 260=>312| 217=>287| 225=>313| 224=>314| 267=>315| 266=>310| 314=>329| n=>n,fun | 9=>9| 31=>69| 3=>3| 4=>4| 0=>0| 105=>294| 21=>21| 5=>5| 46=>218| 119=>321| 139=>324| 138=>323| 146=>325| 51=>260| n=>n,fun | 1=>0| 3=>1| 4=>2| n=>n⟩
theorem Tryz.Zp3:Go.Proofs.Lays.n146 Tryz.prog Tryz.ZiH:={
 mixed:=by kernel_rfl
 f138:=Tryz.func269.trans (congrArg some (by kernel_rfl))
 f143:=Tryz.func270.trans (congrArg some (by kernel_rfl))
 f146:=Tryz.func180.trans (congrArg some (by kernel_rfl))
 f195:=Tryz.func290.trans (congrArg some (by kernel_rfl))
 f197:=Tryz.func291.trans (congrArg some (by kernel_rfl))
 f217:=Tryz.func287.trans (congrArg some (by kernel_rfl))
 f218:=Tryz.func292.trans (congrArg some (by kernel_rfl))
 f219:=Tryz.func293.trans (congrArg some (by kernel_rfl))
 f221:=Tryz.func227.trans (congrArg some (by kernel_rfl))
 f224:=Tryz.func314.trans (congrArg some (by kernel_rfl))
 f225:=Tryz.func313.trans (congrArg some (by kernel_rfl))
 f260:=Tryz.func312.trans (congrArg some (by kernel_rfl))
 f266:=Tryz.func310.trans (congrArg some (by kernel_rfl))
 f267:=Tryz.func315.trans (congrArg some (by kernel_rfl))
 f268:=Tryz.func268.trans (congrArg some (by kernel_rfl))
 f314:=Tryz.func329.trans (congrArg some (by kernel_rfl))
 t0:=Tryz.underlying0
 a0:=Tryz.isAgg0
 z0:=Tryz.sizeOf0
 v0:=Tryz.zeroValue0
 t3:=Tryz.underlying3
 a3:=Tryz.isAgg3
 z3:=Tryz.sizeOf3
 v3:=Tryz.zeroValue3
 t4:=Tryz.underlying4
 a4:=Tryz.isAgg4
 z4:=Tryz.sizeOf4
 v4:=Tryz.zeroValue4
 t5:=Tryz.underlying5
 a5:=Tryz.isAgg5
 z5:=Tryz.sizeOf5
 v5:=Tryz.zeroValue5
 t9:=Tryz.underlying9
 a9:=Tryz.isAgg9
 z9:=Tryz.sizeOf9
 v9:=Tryz.zeroValue9
 t21:=Tryz.underlying21
 a21:=Tryz.isAgg21
 z21:=Tryz.sizeOf21
 v21:=Tryz.zeroValue21
 t31:=Tryz.underlying69
 a31:=Tryz.isAgg69
 z31:=Tryz.sizeOf69
 v31:=Tryz.zeroValue69
 t46:=Tryz.underlying218
 a46:=Tryz.isAgg218
 z46:=Tryz.sizeOf218
 v46:=Tryz.zeroValue218
 t51:=Tryz.underlying260
 a51:=Tryz.isAgg260
 z51:=Tryz.sizeOf260
 v51:=Tryz.zeroValue260
 t105:=Tryz.underlying294
 a105:=Tryz.isAgg294
 z105:=Tryz.sizeOf294
 v105:=Tryz.zeroValue294
 t119:=Tryz.underlying321
 a119:=Tryz.isAgg321
 z119:=Tryz.sizeOf321
 t138:=Tryz.underlying323
 a138:=Tryz.isAgg323
 z138:=Tryz.sizeOf323
 v138:=Tryz.zeroValue323
 t139:=Tryz.underlying324
 a139:=Tryz.isAgg324
 z139:=Tryz.sizeOf324
 v139:=Tryz.zeroValue324
 t146:=Tryz.underlying325
 a146:=Tryz.isAgg325
 z146:=Tryz.sizeOf325
 v146:=Tryz.zeroValue325
 g1:=by kernel_rfl
 g3:=by kernel_rfl
 g4:=by kernel_rfl}
open Go.RowKit Go.Lib in
theorem Tryz.strings_Split (s sep:ByteArray) (m:Int) (w:World) (hs:s.size<4294967281) (hm:w.cell? ⟨0,0,none⟩=some (.int .i64 m)) (h1:1<=sep.size):
  Calls Tryz.prog 180 #[.string s,.string sep] w fun e w'=>
   e= .returned (.slice (some ⟨w.heap.size,0,none⟩) (Lib.countB s sep+1) (Lib.countB s sep+1))/\w'=w.alloc (.cells ((Lib.splitB sep 0 (Lib.countB s sep) s).map Value.string).toArray 9):=Any.strings_Split Tryz.Zp3 (by kernel_rfl) s sep m w hs hm h1
open Go.RowKit Go.Sort in
theorem Tryz.sort_Strings_none (p:Option Addr) (cap:Nat) (w:World):
  Calls Tryz.prog 200 #[.slice p 0 cap] w fun e w'=>e= .returned (.tuple #[])/\w'=w:=Any.sort_Strings_none Tryz.Zmb p cap w
open Go.RowKit Go.Sort in
theorem Tryz.sort_Ints_none (p:Option Addr) (cap:Nat) (w:World):
  Calls Tryz.prog 86 #[.slice p 0 cap] w fun e w'=>e= .returned (.tuple #[])/\w'=w:=Any.sort_Ints_none Tryz.Zmc p cap w
end Go.Proofs
namespace Go.Proofs.YtbkllghhcphkaaaGreatDoor
open Go.RowKit Am
theorem Zq8 (xs:List Int):KN (xs.map iC)=xs.map (Value.int .i64):=by simp [KN,ZqU,iC,ZdR,Function.comp_def]
theorem Zq7 (xs:List ByteArray):KN (xs.map sC)=(xs.map toL).map encStr:=by simp [KN,ZqU,sC,ZdR,Function.comp_def,encStr,toL]
theorem KQ {xs v:List Int} (h:WT xs=some v):SS Tryz.prog 86 (xs.map iC) (v.map iC):=by
 have hv:=Za0 h
 have hl:xs.length<4611686018427387904:=by
  unfold WT at h
  split at h
  ·assumption
  ·cases h
 subst hv;refine ⟨⟨by kernel_rfl,by simp [KN,(Us xs).length_eq],fun w p c=>⟨fun h0=> ?_,fun b cur t hp hb hle ht=> ?_⟩⟩,ZnU xs,by simp [iC],fun x hx=> ?_⟩
 ·exact Tryz.sort_Ints_none p c w
 ·subst hp;rw [Zq8] at ht hle ⊢;rw [List.length_map] at ht hle ⊢;refine (Tryz.sort_Ints b 0 c xs w (Go.holds_of_blockI hb ht) (Array.getElem?_eq_some_iff.1 hb).1 hl).mono fun e w' hR=> ?_;obtain ⟨rfl,n,os,rfl⟩:=hR;refine ⟨rfl,Go.grownBy_sortedI _,_,Go.heap_sortedI _ hb,by simp [Go.Sort.putCells], ?_⟩;have:=Go.take_putCellsI cur (Zic xs) (by rw [(Us xs).length_eq];exact hle);rw [(Us xs).length_eq] at this;rw [Zq8];exact this
 ·obtain ⟨y,hy,rfl⟩:=List.mem_map.1 hx;exact List.mem_map.2 ⟨y,(Us xs).mem_iff.1 hy,rfl⟩
instance:HC 86 (Ty @KQ):=⟨KQ⟩
theorem U6 {xs v:List ByteArray} (h:Xe xs=some v):SS Tryz.prog 200 (xs.map sC) (v.map sC):=by
 have hv:=Jx h
 have hl:xs.length<4611686018427387904:=by
  unfold Xe at h
  split at h
  ·assumption
  ·cases h
 subst hv;have hm:(xs.map toL).length=xs.length:=by simp
 refine ⟨⟨by kernel_rfl,by simp [KN,(ZaI xs).length_eq],fun w p c=>⟨fun h0=> ?_,fun b cur t hp hb hle ht=> ?_⟩⟩,by simp [Vs,ZeK,sC,L.flat],by simp [sC],fun x hx=> ?_⟩
 ·exact Tryz.sort_Strings_none p c w
 ·subst hp;rw [Zq7] at ht hle ⊢;rw [List.length_map] at ht hle ⊢;refine (Tryz.sort_Strings b 0 c (xs.map toL) w (Go.holds_of_block hb ht) (Array.getElem?_eq_some_iff.1 hb).1 (by rw [hm];exact hl)).mono fun e w' hR=> ?_;obtain ⟨rfl,n,os,rfl⟩:=hR;have hp:=List.mergeSort_perm (xs.map toL) (fun x y=>decide (x<=y));refine ⟨rfl,Go.grownBy_sorted _,_,Go.heap_sorted _ hb,by simp [Go.Sort.putCells], ?_⟩;have:=Go.take_putCells cur ((xs.map toL).mergeSort (fun x y=>decide (x<=y))) (by rw [hp.length_eq];exact hle);rw [hp.length_eq] at this;have e:(Zg2 xs).map toL=(xs.map toL).mergeSort (fun x y=>decide (x<=y)):=by rw [Zg2,List.map_map,show (toL∘ofL)=id from funext fun l=>Zh6 l,List.map_id]
  rw [Zq7,e];exact this
 ·obtain ⟨y,hy,rfl⟩:=List.mem_map.1 hx;exact List.mem_map.2 ⟨y,(ZaI xs).mem_iff.1 hy,rfl⟩
instance:HC 200 (Ty @U6):=⟨U6⟩
end Go.Proofs.YtbkllghhcphkaaaGreatDoor
namespace Go.Proofs.YtbkllghhcphkaaaGreatDoor.Am
open Go.RowKit
section
variable {e:Env} {σ σ':St} {w:World} {N:Nat->Prop} {w0:Bs} {a:Act} {P:Program} {ops:Array Oper}
theorem ZC.Zk3 (h:ZC N w0 e σ a w) {d τ τ2 n lo W:Nat} (hd:d<σ.nt) {A:Arr} {v:Value} (hA:σ.ar.lookup τ=some (some A)) (hv:(CV.vw τ n lo n W).rel e σ w v) (hn:A.es.length=n) (h2:σ.ar.lookup τ2=none) (hdp1:τ<1000000) (hdp2:τ2<1000000)
  {x:Value} {ys:List (List L)} {f:Bool} {τs:List Nat} {tx:Nat} (hs:ZoW P tx N e σ w x ys W f τs) (hτ:τ∉τs) (hfl:Vs A.es=true) (hfy:Vs ys=true)
  {t ty et:Nat} {ei:TI} (ht:P.underlying t=some (.slice et)) (hi:ti P et=some ei) (hsz:ei.size=W) (hz:ei.zero.length=W)
  (hWA:∀z∈A.es,z.length=W) (hWy:∀z∈ys,z.length=W) (hb1:n+ys.length<=140737488355328) (hb2:(n+ys.length)*ei.bytes<=140737488355328):
  ∃v' w' e' pre,(pre=A.es.take lo\/pre=[])/\(Builtin.append_ #[t,tx] ty #[v,x]).run P w= .ok v' w'/\
   ZC N w0 e' (stA σ ((d,.one (.vw τ2 (pre.length+(n-lo+ys.length)) pre.length (pre.length+(n-lo+ys.length)) W))::σ.tm) τ2 ⟨A.fr,pre++(A.es.drop lo++ys)⟩ (τ::τs)) (a.put (some d) v') w':=by
 obtain ⟨us,Fx,hsrc,hrx,hgx,hox⟩:=hs.ex;have hul:=hsrc.newsLen;obtain ⟨A',hA',hr,_⟩:=hv;rw [hA] at hA';obtain rfl:=Zwf hA';obtain ⟨hlo,_,p,c,q,hρ,hq,rfl⟩:=(hr A rfl).2 hn;obtain ⟨j,dd,z,j1,j2,j3,j4,j5,j6,j7⟩:=WU hi;have jz:z.cells.size=W:=by rw [<-hz,<-j7];simp
 have hne:τ2≠τ:=fun e1=>by rw [e1,hA] at h2;cases h2
 have hd2:τ2∉τ::τs:=fun hm=>by
  rcases List.mem_cons.1 hm with e1| hm
  ·exact hne e1
  ·obtain ⟨B,hB,_⟩:=hs.lv _ hm;rw [h2] at hB;cases hB
 obtain ⟨te,xs,Fs,r1,r2,_,_,r5⟩:=(h.ar τ A hA).row hWA;have oA:OwE N w A.es xs []:=(r2.flat (N:=N) hfl).2;have oY:OwE N w ys us []:=(hrx.flat (N:=N) hfy).2;obtain ⟨x1,x2,G1,G2,rfl,hG,o1,o2⟩:=OwE.split (xs:=A.es.take lo) (ys:=A.es.drop lo) (by rw [List.take_append_drop];exact oA);obtain ⟨hG1,hG2⟩:=List.append_eq_nil_iff.1 hG.symm;subst hG1 hG2;have htl:(A.es.take lo).length=lo:=by rw [List.length_take,hn];omega
 have hdl:(A.es.drop lo).length=n-lo:=by rw [List.length_drop,hn]
 have l1:x1.length=lo*W:=by rw [o1.len,ZL fun z hz=>hWA z (List.mem_of_mem_take hz),htl]
 have l2:x2.length=(n-lo)*W:=by rw [o2.len,ZL fun z hz=>hWA z (List.mem_of_mem_drop hz),hdl]
 have hmul:lo*W+(n-lo)*W=n*W:=by rw [<-Nat.add_mul];congr 1;omega
 have htop:∀b,(e.ρ τ).ownBlock=some b->∃κ A,σ.ar.lookup κ=some (some A)/\(e.ρ κ).ownBlock=some b:=fun b hb=>⟨τ,A,hA,hb⟩
 have fin:∀(v' vρ:Value) (w':World) (te':Nat) (pre:List (List L)) (xs':List Value),(pre=A.es.take lo\/pre=[])->
   (Builtin.append_ #[t,tx] ty #[.slice q (n-lo) (c-lo),x]).run P w= .ok v' w'->
   w'.ownsRow 0 te' W vρ (pre++(A.es.drop lo++ys)).length xs'->OwE N w (pre++(A.es.drop lo++ys)) xs' []->w.grownBy w' (e.ρ τ).ownBlock->
   (vρ.ownBlock=(e.ρ τ).ownBlock\/vρ.ownBlock=some w.heap.size)->(pre++(A.es.drop lo++ys)=[]->∀p n c,vρ= .slice p n c->c=0)->
   (∃p c q,vρ= .slice p (pre.length+(n-lo+ys.length)) c/\(pre.length<c\/pre.length=0->q=p.map (·.add (pre.length*W)))/\v'= .slice q (n-lo+ys.length) (c-pre.length))->
   ∃v' w' e' pre,(pre=A.es.take lo\/pre=[])/\(Builtin.append_ #[t,tx] ty #[.slice q (n-lo) (c-lo),x]).run P w= .ok v' w'/\
   ZC N w0 e' (stA σ ((d,.one (.vw τ2 (pre.length+(n-lo+ys.length)) pre.length (pre.length+(n-lo+ys.length)) W))::σ.tm) τ2 ⟨A.fr,pre++(A.es.drop lo++ys)⟩ (τ::τs)) (a.put (some d) v') w':=by
  intro v' vρ w' te' pre xs' hp hrun g1 g2 g3 g4 g5 ⟨p',c',q',g6,g8,g7⟩;have hpl:pre.length<=lo:=by rcases hp with rfl| rfl<;>simp;omega
  have htopρ:∀b,vρ.ownBlock=some b->(∃κ A,σ.ar.lookup κ=some (some A)/\(e.ρ κ).ownBlock=some b)\/w.heap.size<=b:=fun b hb=>by
   rcases g4 with g4| g4
   ·exact .inl (htop b (g4▸hb))
   ·rw [hb] at g4;obtain rfl:=Zwf g4;exact .inr (Zwk _)
  have hlen:(pre++(A.es.drop lo++ys)).length=pre.length+(n-lo+ys.length):=by rw [List.length_append,List.length_append,hdl]
  have hW':∀z∈pre++(A.es.drop lo++ys),z.length=W:=fun z hz=>by
   rcases List.mem_append.1 hz with hz| hz
   ·rcases hp with rfl| rfl
    ·exact hWA z (List.mem_of_mem_take hz)
    ·cases hz
   ·rcases List.mem_append.1 hz with hz| hz
    ·exact hWA z (List.mem_of_mem_drop hz)
    ·exact hWy z hz
  have o':OwE N w' (pre++(A.es.drop lo++ys)) xs' []:=g2.keep ⟨g3.size,fun b hb=>by cases hb⟩
  have okN:=Ve.Zoy (N:=N) (M:=Mut (ZbE e τ2 vρ (match vρ.ownBlock with | some b=>if A.fr then b::[] else [b]| none=>[])) (stA σ ((d,.one (.vw τ2 (pre.length+(n-lo+ys.length)) pre.length (pre.length+(n-lo+ys.length)) W))::σ.tm) τ2 ⟨A.fr,pre++(A.es.drop lo++ys)⟩ (τ::τs))) (A:=⟨A.fr,pre++(A.es.drop lo++ys)⟩) (Fs:=[]) g1
   (fun b hb=>by
    rcases htopρ b hb with ⟨κ,B,q1,q2⟩| q
    ·exact ((h.ar κ B q1).own q2).2.1
    ·exact h.tn b (h.fr.new b (Nat.le_trans h.fr.size q))) hW' g5 (fun _=>⟨o',by simp,by simp⟩) (fun _=>⟨o'.rp,by simp⟩)
  refine ⟨v',w',_,pre,hp,hrun,h.Zih (row:=(e.ρ τ).ownBlock) hdp2 (fun κ hκ=> ?_) hd2 g3 (fun b hb=>⟨τ,A,.inr (by simp),hA,hb⟩) (fun A hA'=>by rw [h2] at hA';cases hA') htopρ (fun b hb=> ?_) okN (by rw [Yn];exact h.nt) (by rw [ZV];exact h.df)
   (fun u=>JC (by rw [h.nt];exact hd) ⟨some _,by rw [W0,if_pos rfl],fun B hB=> ?_, ?_⟩)⟩
  ·rcases List.mem_cons.1 hκ with rfl| hκ
   ·exact ⟨A,hA,hdp1⟩
   ·exact hs.lv κ hκ
  ·cases hv:vρ.ownBlock with
   | none=>rw [hv] at hb;simp at hb
   | some b'=>
    rw [hv] at hb
    have hb':b=b':=by
     cases hf:A.fr<;>simp only [hf,if_true,if_false,Zwl,List.mem_singleton] at hb<;>exact hb
    subst hb';rcases g4 with g4| g4
    ·exact .inr (.inl ⟨τ,by simp,((h.ar τ A hA).own (g4▸hv)).1⟩)
    ·rw [hv] at g4;obtain rfl:=Zwf g4;exact .inr (.inr (Zwk _))
  ·obtain rfl:=Zwf hB;refine ⟨by rw [<-hlen];exact Zwk _,fun _=>⟨Nat.le_add_right _ _,Zwk _,p',c',q',by simp [ZbE,g6],g8, ?_⟩⟩;rw [g7,Nat.add_sub_cancel_left]
  ·exact ⟨_,_,by rw [g7,Nat.add_sub_cancel_left],by rw [Nat.add_sub_cancel_left];omega⟩
 have hpre0:A.es.take lo++(A.es.drop lo++ys)=A.es++ys:=by rw [<-List.append_assoc,List.take_append_drop]
 have hl0:(A.es.take lo++(A.es.drop lo++ys)).length=n+ys.length:=by rw [hpre0,List.length_append,hn]
 have hlen0:(A.es.take lo).length+(n-lo+ys.length)=n+ys.length:=by rw [htl];omega
 have hc:n<=c:=by
  rcases r1.2 with ⟨k1,k2⟩| ⟨g,cap,cur,k1,_,_,k2,_⟩
  ·rw [hn] at k2;omega
  ·rw [hρ] at k1;injection k1 with _ _ k1;rw [<-k1] at k2;omega
 have hfc:=hsrc.cells
 by_cases hm:ys.length=0
 ·have hys:ys=[]:=List.eq_nil_of_length_eq_zero hm;subst hys;have hus:us=[]:=List.eq_nil_of_length_eq_zero (by simpa using hul);subst hus;refine fin _ (e.ρ τ) w te (A.es.take lo) (x1++x2) (.inl rfl) ?_ (by rw [hl0];simpa [hn] using r1) (by simpa [List.take_append_drop] using oA) ⟨rfl,rfl,rfl,Zwk _,fun _ _ _=>rfl⟩ (.inl rfl) (fun he=>r5 (by simpa [List.take_append_drop] using he)) ⟨p,c,q,by rw [hlen0];simpa using hρ,by rw [htl];exact hq,rfl⟩;rw [htl];exact _root_.Go.run_append_nothing w t tx ty et j ht j1 _ (n-lo) (c-lo) (by omega) x (by rw [j5,hsz];exact hsrc)
 ·rcases r1.2 with ⟨k1,k2⟩| ⟨g,cap,cur,k1,_,hg,hnc,hcm,hcs,htake⟩
  ·
   rw [hn] at k2;rw [hρ] at k1;injection k1 with k3 _ k4
   subst k3 k4;have hlo0:lo=0:=by omega
   subst hlo0 k2;have hx2:x2=[]:=List.eq_nil_of_length_eq_zero (by simpa using l2);have hd0:A.es.drop 0=[]:=List.eq_nil_of_length_eq_zero (by simpa using hdl);have hq0:q=none:=by rw [hq (.inr rfl)];rfl
   subst hq0;have hr':=run_append_grow_src (P:=P) w t tx ty et j z ht j1 j3 none 0 0 [] (by simp [Builtin.firstCells]) x ys.length us (by rw [j5,hsz];exact hsrc) (by omega) (by omega) (growslice_fits (by omega) (by rw [j6];simpa using hb2));simp only [Nat.zero_add,List.nil_append] at hr';have hge:=grownCap_ge w ys.length 0 et;have hcm':grownCap w ys.length 0 et<=maxLen:=grownCap_le_maxLen w ys.length 0 et (by simp only [maxLen];omega);have el:([]++(A.es.drop 0++ys))=ys:=by rw [hd0];rfl
   refine fin _ (.slice (some ⟨w.heap.size,0,none⟩) ys.length (grownCap w ys.length 0 et)) (w.drew.alloc (.cells (us.toArray++Builtin.zeroCells z.cells (grownCap w ys.length 0 et-ys.length)) et)) et [] us (.inr rfl) (by simpa using hr') (by
    rw [el];refine ⟨hul,.inr ⟨w.heap.size,_,_,rfl,Nat.zero_le _,heap_alloc_new w.drew _,hge,hcm', ?_, ?_⟩⟩
    ·simp only [Array.size_append,List.size_toArray,size_zeroCells,jz,hul,<-Nat.add_mul]
     congr 1;omega
    ·simp only [Array.toList_append];rw [<-hul];exact List.take_left) (by rw [el];exact oY) ⟨rfl,rfl,rfl,by simp,fun k hk _=>Below.heap_alloc w.drew _ k hk⟩ (.inr rfl) (fun he=>by rw [el] at he;rw [he] at hm;simp at hm)
    ⟨some ⟨w.heap.size,0,none⟩,grownCap w ys.length 0 et,some ⟨w.heap.size,0,none⟩,by simp,by simp [Addr.add],by simp⟩
  ·rw [hρ] at k1;injection k1 with k3 _ k4
   subst k3 k4;rw [hn] at htake hnc
   have hbase:lo<c->q=some ⟨g,lo*W,none⟩:=fun hcl=>by
    rw [hq (.inl hcl)];simp only [Option.map_some,Addr.add]
    split
    ·rename_i h0;rw [h0]
    ·simp
   by_cases hroom:n+ys.length<=c
   ·have hcl:lo<c:=by omega
    have hfit:n*W+us.length<=cur.size:=by rw [hul,hcs,<-Nat.add_mul];exact Nat.mul_le_mul_right _ hroom
    have hst:=run_storeCells_at P g (n*W) te us 0 cur w hg (by simpa using hfit) hsrc.one;simp only [Nat.add_zero] at hst;have hroom':n-lo+ys.length<=c-lo:=by omega
    have hfc':=hfc;rw [<-hsz,<-j5] at hfc'
    have hadd:(⟨g,lo*j.size,none⟩:Addr).add ((n-lo)*j.size)=⟨g,n*W,none⟩:=by
     rw [j5,hsz,Addr.add_lit,hmul]
    have hr':(Builtin.append_ #[t,tx] ty #[.slice (some ⟨g,lo*W,none⟩) (n-lo) (c-lo),x]).run P w= .ok (.slice (some ⟨g,lo*W,none⟩) (n-lo+ys.length) (c-lo)) (w.setRow g (cur.toList.take (n*W)++us++cur.toList.drop (n*W+us.length)).toArray):=by
     rw [<-hsz,<-j5] at hst ⊢;rw [<-hsz,<-j5] at hadd;rcases hsrc.kind with ⟨e',hk⟩| hk<;>simp [Builtin.append_,run_underlying ht,run_underlying hk,sizeOf,typeInfo,j1,hsrc.len,hroom',hfc',hadd,hst]
    refine fin (.slice (some ⟨g,lo*W,none⟩) (n-lo+ys.length) (c-lo)) (.slice (some ⟨g,0,none⟩) (n+ys.length) c) (w.setRow g (cur.toList.take (n*W)++us++cur.toList.drop (n*W+us.length)).toArray) te (A.es.take lo) (x1++x2++us) (.inl rfl) (by rw [hbase hcl];exact hr') (by
     rw [hl0];refine ⟨by rw [List.length_append,List.length_append,l1,l2,hul,hmul,Nat.add_mul],.inr ⟨g,c,_,rfl,Nat.zero_le _,setRow_heap w g cur _ te _ hg,hroom,hcm, ?_, ?_⟩⟩
     ·simp only [List.size_toArray,List.length_append,List.length_take,List.length_drop,Array.length_toList];omega
     ·rw [htake];have:(n+ys.length)*W=(x1++x2++us).length:=by rw [List.length_append,List.length_append,l1,l2,hul,hmul,Nat.add_mul]
      rw [this];exact List.take_left) (by have:=(o1.append o2).append oY;rw [List.append_assoc] at this;exact this) ⟨rfl,rfl,rfl,by simp,fun k _ hk=>setRow_other w g k _ (fun e=>hk (by rw [hρ];simp [Value.ownBlock,e]))⟩ (.inl (by rw [hρ];rfl)) (fun he=>by
      have:=congrArg List.length he;rw [hl0] at this;have h9:n+ys.length=0:=this;omega)
     ⟨some ⟨g,0,none⟩,c,some ⟨g,lo*W,none⟩,by rw [hlen0],fun hh=>by rw [htl,<-hbase hcl];exact hq (by rw [htl] at hh;exact hh),by rw [htl]⟩
   ·have hb2':(n-lo+ys.length)*j.bytes<=140737488355328:=by rw [j6];exact Nat.le_trans (Nat.mul_le_mul_right _ (by omega)) hb2
    have hold:(Builtin.firstCells j.size (n-lo) (.slice q (n-lo) (c-lo))).run P w.drew= .ok x2.toArray w.drew:=by
     rw [j5,hsz]
     by_cases hcl:¬lo<c
     ·have:n-lo=0:=by omega
      have hx:x2=[]:=List.eq_nil_of_length_eq_zero (by rw [l2,this];simp);rw [this,hx];cases q with
      | none=>simp [Builtin.firstCells]
      | some ad=>exact run_firstCells_some w.drew W 0 _ _ _ [] (by simp) (by simp)
     ·rw [hbase (by omega)];refine run_firstCells_some w.drew W (n-lo) ⟨g,lo*W,none⟩ _ _ x2 l2 fun k u hu=> ?_;rw [Addr.add_lit];have hk:(x1++x2)[lo*W+k]? =some u:=by rw [List.getElem?_append_right (by omega),l1];simpa using hu
      have:=cell_of_row w g (lo*W+k) cur te (0,0) hg;show w.cell? _=_;rw [this]
      have hkl:lo*W+k<n*W:=by
       have:=(List.getElem?_eq_some_iff.1 hu).1;omega
      have h3:(cur.toList.take (n*W))[lo*W+k]? =some u:=by rw [htake];exact hk
      rw [List.getElem?_take_of_lt hkl] at h3
      simpa using h3
    have hr':=run_append_grow_src (P:=P) w t tx ty et j z ht j1 j3 _ (n-lo) (c-lo) x2 hold x ys.length us (by rw [j5,hsz];exact hsrc) (by omega) (by omega) (growslice_fits (by omega) hb2');have hge:=grownCap_ge w (n-lo+ys.length) (c-lo) et;have hcm':grownCap w (n-lo+ys.length) (c-lo) et<=maxLen:=grownCap_le_maxLen w (n-lo+ys.length) (c-lo) et (by simp only [maxLen];omega);have el:([]++(A.es.drop lo++ys):List (List L))=A.es.drop lo++ys:=rfl;have hll:(x2++us).length=(n-lo+ys.length)*W:=by rw [List.length_append,l2,hul,Nat.add_mul]
    refine fin _ (.slice (some ⟨w.heap.size,0,none⟩) (n-lo+ys.length) (grownCap w (n-lo+ys.length) (c-lo) et)) _ et [] (x2++us) (.inr rfl) hr' (by
     rw [el,List.length_append,hdl];refine ⟨hll,.inr ⟨w.heap.size,_,_,rfl,Nat.zero_le _,heap_alloc_new w.drew _,hge,hcm', ?_, ?_⟩⟩
     ·simp only [Array.size_append,List.size_toArray,size_zeroCells,jz,hll,<-Nat.add_mul]
      congr 1;omega
     ·simp only [Array.toList_append];rw [<-hll];exact List.take_left) (by rw [el];exact o2.append oY) ⟨rfl,rfl,rfl,by simp,fun k hk _=>Below.heap_alloc w.drew _ k hk⟩ (.inr rfl) (fun he=>by
      have:=congrArg List.length he;rw [el,List.length_append] at this;have h9:(A.es.drop lo).length+ys.length=0:=this;omega)
     ⟨some ⟨w.heap.size,0,none⟩,grownCap w (n-lo+ys.length) (c-lo) et,some ⟨w.heap.size,0,none⟩,by simp,by simp [Addr.add],by simp⟩
def vaD (P:Program) (ops:Array Oper) (rest:List Oper) (σ:St) (K:St->Prop) (d τ n lo hi W:Nat) (ei:TI) (A:Arr):Option (List (List L)×Bool×List Nat×Prop)->Prop
 | some (ys,f,τs,q)=>q/\hi=n/\A.es.length=n/\W=ei.size/\ei.zero.length=ei.size/\d<σ.nt/\σ.ar.lookup (64*d)=none/\τ<1000000/\64*d<1000000/\τ∉τs/\Vs A.es=true/\Vs ys=true/\
   (∀z∈A.es,z.length=ei.size)/\(∀z∈ys,z.length=ei.size)/\n+ys.length<=140737488355328/\(n+ys.length)*ei.bytes<=140737488355328/\
   ∀pre,(pre=A.es.take lo\/pre=[])->Z5 P ops rest (σ.app ⟨True,[(d,.one (.vw (64*d) (pre.length+(n-lo+ys.length)) pre.length (pre.length+(n-lo+ys.length)) W))],[],(64*d,some ⟨A.fr,pre++(A.es.drop lo++ys)⟩)::(τ,none)::τs.map fun κ=>(κ,none)⟩) K
 | none=>False
def vaC (P:Program) (ops:Array Oper) (rest:List Oper) (σ:St) (K:St->Prop) (d t t' τ n lo hi W:Nat) (xv:V):Option TI->Option (Option Arr)->Prop
 | some ei,some (some A)=>vaD P ops rest σ K d τ n lo hi W ei A (Zjp P σ ei t t' xv)
 | _,_=>False
def vaB (P:Program) (ops:Array Oper) (rest:List Oper) (σ:St) (K:St->Prop) (d t t':Nat):Option TI->Option V->Option V->Prop
 | some ⟨.slice et,_,_,_⟩,some (.one (.vw τ n lo hi W)),some xv=>vaC P ops rest σ K d t t' τ n lo hi W xv (ti P et) (σ.ar.lookup τ)
 | _,_,_=>False
def vaA (P:Program) (ops:Array Oper) (rest:List Oper) (σ:St) (K:St->Prop) (d:Nat):List Operand->List TypeId->Prop
 | [s,x],[t,t']=>vaB P ops rest σ K d t t' (ti P t) (opd σ s) (opd σ x)
 | _,_=>False
def vaK (P:Program) (ops:Array Oper) (σ:St) (K:St->Prop):List Oper->Prop
 | ⟨some d,.call { callee:=.builtin .append,args:=xs,argTypes:=ts},_,_,_,none⟩::rest=>vaA P ops rest σ K d xs.toList ts.toList
 | _=>False
theorem Zlm {Q:Exit->Act->World->Prop} {l:List Oper} {K:St->Prop} (hw:vaK P ops σ K l) (hs:Sim N w0 σ a w) (hQ:∀σ' a' w',K σ'->Sim N w0 σ' a' w'->Q .normal a' w'):wpList P ops Q l a w:=by
 obtain ⟨e,h⟩:=hs;unfold vaK at hw
 split at hw
 ·rename_i d xs ts ty pos af rest;unfold vaA at hw
  split at hw
  ·rename_i s x t t' hxs hts;unfold vaB at hw
   split at hw
   ·rename_i et _ _ _ τ n lo hi W xv hti hsv hxv;unfold vaC at hw
    split at hw
    ·rename_i ei A hei hA;unfold vaD at hw
     split at hw
     ·rename_i ys f τs q hsrc;obtain ⟨c1,rfl,c3,rfl,c5,c6,c7,c8,c9,c10,c11,c12,c13,c14,c15,c16,hrest⟩:=hw;have ht:=X0 hti;have src:=ZaH h (Zw h hxv) hsrc c1 c14 ht;obtain ⟨v',w',e',pre,k0,k1,k2⟩:=h.Zk3 (P:=P) (ty:=ty) c6 hA (Zw h hsv) c3 c7 c8 c9 src c10 c11 c12 ht hei rfl c5 c13 c14 c15 c16;refine wpList_step fun K' hK'=> ?_;simp only [Region.wanted,if_true]
      have hex:(execOp a.eval ⟨some d,.call { callee:=.builtin .append,args:=xs,argTypes:=ts},ty,pos,af,none⟩).run P w= .ok (.value v') w':=by
       have e1:xs.map a.eval= #[a.eval s,a.eval x]:=by rw [<-Array.toList_inj];simp [hxs]
       have e2:ts= #[t,t']:=by rw [<-Array.toList_inj];simp [hts]
       subst e2;simp [execOp,resolve,invoke,builtin,e1,k1,Sem.run_bind,Result.andThen]
      unfold Oper.wp;rw [hex,Oper.upon_value];exact hK' _ _ (V7 (hrest pre k0) ⟨e',k2⟩ hQ)
     ·exact hw.elim
    ·exact hw.elim
   ·exact hw.elim
  ·exact hw.elim
 ·exact hw.elim
theorem ZqS {Q:Exit->St->Prop} {id:Nat} {l:List Oper} (n:Nat) (h:Z5 P l.toArray (l.take n) σ (fun σ1=>vaK P l.toArray σ1 (fun σ'=>Q .normal σ') (l.drop n))):AW P N w0 (.region id l.toArray false) Q σ:=fun a w hs=>by
 refine wp_region_lit ?_;have:=Ky (Q:=fun e a w=>∃σ',Q e σ'/\Sim N w0 σ' a w) (tail:=l.drop n) h hs fun σ' a' w' h1 h2=>Zlm h1 h2 fun σ' a' w' h1 h2=>⟨σ',h1,h2⟩
 rwa [List.take_append_drop] at this
theorem ZnC {t τ n W:Nat} (ht:σ.tm.lookup t=some (.one (.own τ n))):Zdz ⟨σ.nt,(t,.one (.vw τ n 0 n W))::σ.tm,σ.bx,σ.ar⟩ σ:=fun N w0 a w ⟨e,h⟩=>by
 have u:=Zne e σ w ((t,.one (.vw τ n 0 n W))::σ.tm) σ.nt;refine ⟨e,h.nt,h.df,fun s y hy=> ?_,fun k cs hk=>⟨(h.bx k cs hk).1,(h.bx k cs hk).2.up u⟩,h.ar,h.sep,h.fr,h.bad,h.dk,h.pn,h.tn,h.tp⟩;rw [lookup_cons] at hy
 by_cases hs:s=t
 ·subst hs;rw [if_pos rfl] at hy;obtain rfl:=Zwf hy;obtain ⟨A,h1,h2,p,c,h3,h4⟩:=h.tm s _ ht;refine ⟨A,h1,fun B hB=>⟨(h2 B hB).1,fun hn=> ?_⟩,p,c,by simpa using h3,by simpa using h4⟩;refine ⟨Nat.zero_le _,Zwk _,p,c,p, ?_,fun _=> ?_,by simpa using h3⟩
  ·rw [<-(h2 B hB).2 hn];exact h3
  ·cases p with
   | none=>rfl
   | some ad=>simp [Addr.add]
 ·rw [if_neg hs] at hy;exact (h.tm s y hy).up u
end
section
variable {P:Program} {ops:Array Oper} {rest:List Oper} {σ:St} {K:St->Prop} {d t t' τ n lo hi W:Nat} {ei:TI} {A:Arr} {xv:V}
theorem Zta {ys:List (List L)} {f:Bool} {τs:List Nat} {q:Prop}:vaD P ops rest σ K d τ n lo hi W ei A (some (ys,f,τs,q))=(q/\hi=n/\A.es.length=n/\W=ei.size/\ei.zero.length=ei.size/\d<σ.nt/\σ.ar.lookup (64*d)=none/\τ<1000000/\64*d<1000000/\τ∉τs/\Vs A.es=true/\Vs ys=true/\
   (∀z∈A.es,z.length=ei.size)/\(∀z∈ys,z.length=ei.size)/\n+ys.length<=140737488355328/\(n+ys.length)*ei.bytes<=140737488355328/\
   ∀pre,(pre=A.es.take lo\/pre=[])->Z5 P ops rest (σ.app ⟨True,[(d,.one (.vw (64*d) (pre.length+(n-lo+ys.length)) pre.length (pre.length+(n-lo+ys.length)) W))],[],(64*d,some ⟨A.fr,pre++(A.es.drop lo++ys)⟩)::(τ,none)::τs.map fun κ=>(κ,none)⟩) K):=rfl
theorem Ztb:vaC P ops rest σ K d t t' τ n lo hi W xv (some ei) (some (some A))=vaD P ops rest σ K d τ n lo hi W ei A (Zjp P σ ei t t' xv):=rfl
theorem Ztc {et a b:Nat} {c:List Value}:vaB P ops rest σ K d t t' (some ⟨.slice et,a,b,c⟩) (some (.one (.vw τ n lo hi W))) (some xv)=vaC P ops rest σ K d t t' τ n lo hi W xv (ti P et) (σ.ar.lookup τ):=rfl
theorem Ztd {s x:Operand}:vaA P ops rest σ K d [s,x] [t,t']=vaB P ops rest σ K d t t' (ti P t) (opd σ s) (opd σ x):=rfl
theorem Zs9 {xs:Array Operand} {ts:Array TypeId} {ty:TypeId} {pos:String} {af:Array Edge}:vaK P ops σ K (⟨some d,.call { callee:=.builtin .append,args:=xs,argTypes:=ts},ty,pos,af,none⟩::rest)=vaA P ops rest σ K d xs.toList ts.toList:=rfl
end
attribute [go_sem] Zta Ztb Ztc Ztd Zs9
end Go.Proofs.YtbkllghhcphkaaaGreatDoor.Am
namespace Go.Proofs.YtbkllghhcphkaaaGreatDoor
open Go.RowKit Am
theorem ZlK {w:World}:∀{zs:List Int} {vs:List Value} {F:List Nat},RpL w (zs.map (L.int .u64)) vs F->vs=zs.map (Value.int .u64)
 | [],_,_,h=>by simp only [List.map_nil,RpL] at h;simp [h.1]
 | z::zs,_,_,h=>by
  simp only [List.map_cons,RpL,Rp] at h;obtain ⟨v,vs',F1,F2,rfl,rfl,⟨rfl,rfl,_⟩,h2⟩:=h;simp [ZlK h2]
theorem Zi2 {w:World} {k:Nat} {os:Array Obj}:Below w.heap.size w (Sort.grow (w.drewN k) os):=by
 refine ⟨rfl,rfl,rfl, ?_,fun j hj=> ?_⟩
 ·show w.heap.size<=(w.heap++os).size;simp
 ·show (w.heap++os)[j]? =w.heap[j]?;rw [Array.getElem?_append_left hj]
theorem Zp9 {w:World} {G:Nat->Prop} (h:Glb w G):Lib.TabIs Tryz.prog w "internal/strconv.uint64pow10" .u64 Lib.pow10Tab:=by
 obtain ⟨cur,ty,fz,F,h1,_,h3,_⟩:=h.2.1 (5,Lib.pow10Tab.map (L.int .u64)) (List.mem_of_mem_head? rfl);have h4:=ZlK h3;have hg:Tryz.prog.globalNamed "internal/strconv.uint64pow10"=some 5:=by kernel_rfl
 unfold Lib.TabIs World.var?;rw [hg,Zwe,h1,<-h4]
theorem Zql {w:World} {a b:DV} {vs:List Value} {F:List Nat} (h:Yo w [a,b] vs F):∃v u F1 F2,vs=[v,u]/\F=F1++F2/\U5 w a v F1/\U5 w b u F2:=by
 simp only [Yo] at h;obtain ⟨v,_,F1,_,rfl,rfl,h1,u,_,F2,_,rfl,rfl,h2,rfl,rfl⟩:=h;exact ⟨v,u,F1,F2,rfl,by simp,h1,h2⟩
theorem Zfi {w:World}:∀{zs:List Int},(∀z∈zs,InK .u64 z)->RpL w (zs.map (L.int .u64)) (zs.map (Value.int .u64)) []
 | [],_=>by simp only [List.map_nil,RpL];exact ⟨trivial,trivial⟩
 | z::zs,h=>by
  simp only [List.map_cons,RpL,Rp];exact ⟨_,_,[],[],rfl,rfl,⟨rfl,rfl,h z (by simp)⟩,Zfi fun y hy=>h y (by simp [hy])⟩
def ZmZ (W:World) (p:Nat×List L):Prop:=∃cur ty fz F,W.heap[p.1]? =some (.cells cur ty fz)/\RpL W p.2 cur.toList F
theorem Zqa {W:World} (h:∀p∈glb,ZmZ W p) (h2:∀p∈Zqb,∃v,W.cell? ⟨p.1,0,none⟩=some v/\p.2 v):∃G,Glb W G:=
 ⟨fun b=>b<W.heap.size,fun _ h=>h,fun p hp=>by
  obtain ⟨cur,ty,fz,F,h1,h2⟩:=h p hp;exact ⟨cur,ty,fz,F,h1,W5 h1,h2,h2.lt⟩,fun p hp=>by
  obtain ⟨v,h1,h3⟩:=h2 p hp;exact ⟨v,h1,World.block_lt_of_cell? _ _ h1,h3⟩⟩
theorem ZfM {P:Program} {W:World} {name:String} {g:Nat} {cs:Array Value} (hg:P.globalNamed name=some g) (hv:W.var? P name=some cs):∃ty fz,W.heap[g]? =some (.cells cs ty fz):=by
 unfold World.var? at hv;rw [hg,Zwe] at hv
 split at hv
 ·rename_i cs' ty fz hh;obtain rfl:=Zwf hv;exact ⟨ty,fz,hh⟩
 ·cases hv
def Ztj:List L:=Lib.pow10Tab.map (L.int .u64)
theorem Zko {H:Type} {enc:TypeId×Value->H} {W:World} {base:Nat} {sp:Nat->Bool} {held:Bool} {fuel:Nat} {t e n:Nat} {cs:Array Value} {q:List MemPlace} (ht:Tryz.prog.underlying t=some (.array n e)) (he:Tryz.prog.underlying e=some (.int .u64)) (hce:Tryz.prog.cellsOf e=1) (hct:Tryz.prog.cellsOf t=n)
  (hg:Tryz.prog.globalNamed "internal/strconv.uint64pow10"=some 5) (hv:W.var? Tryz.prog "internal/strconv.uint64pow10"=some cs) (hd:DataW.trod enc Tryz.prog W base sp held fuel t cs.toList=some (Rows.laid_internal_strconv_uint64pow10,q)):ZmZ W (5,Ztj):=by
 have ed:(Rows.laid_internal_strconv_uint64pow10:DataW H)=Lib.tabData .u64 Lib.pow10Tab:=rfl;rw [ed] at hd;have ec:=Lib.cells_of_tab ht he hce hct hd;obtain ⟨ty,fz,hh⟩:=ZfM hg hv;refine ⟨_,_,_,[],hh, ?_⟩;rw [ec];exact Zfi (by unfold InK;decide)
end Go.Proofs.YtbkllghhcphkaaaGreatDoor
