import Derived.Test.YtpblakfidofgfaaGreatDoorZJ4
import Derived.Shelf.Small.Bits
import Derived.Shelf.Small.Strs
import Derived.Shelf.Utf8.RuneCount
import Derived.Shelf.Strconv.Atoi
import Derived.Shelf.Strconv.Itoa0
import Derived.Shelf.Strconv.Itoa1
import Derived.Shelf.LaysM
import Derived.Shelf.Strconv.Itoa2
import Derived.Shelf.Strconv.Itoa3
import Derived.Shelf.Strconv.AtoiErrFast
import Derived.Shelf.Strconv.ParseIntEmpty
import Derived.Shelf.Strconv.AtoiFail
import Derived.Shelf.Strconv.Clone
import Derived.Shelf.Strconv.SyntaxError
import Derived.Shelf.LaysC
import Derived.Shelf.Strconv.ToError
import Derived.Shelf.Strconv.Lower
import Derived.Shelf.Strconv.ParseUint10
import Derived.Shelf.Strconv.ParseUint10Empty
import Derived.Shelf.Strconv.ParseUint10Any
import Derived.Shelf.Strconv.ParseInt10
import Derived.Shelf.Strconv.AtoiLong
import Derived.Shelf.Strconv.AtoiInnerAll
import Derived.Shelf.Strconv.RangeError
import Derived.Shelf.Strconv.ToErrorRange
import Derived.Shelf.Strconv.AtoiAll
import Derived.Shelf.Strings.Search1
import Derived.Shelf.Strings.Search2
import Derived.Shelf.Strings.Search3
import Derived.Shelf.Strings.Count
import Derived.Shelf.Strings.Shaped
import Derived.Shelf.Sort.Plain
import Derived.Shelf.Strings.Prefix
import Derived.Shelf.Strings.Split
import Derived.Shelf.Strings.SplitShaped
import Derived.Shelf.Unicode.Decode
import Derived.Shelf.Strings.RuneCount
import Derived.Shelf.Strings.Explode
import Derived.Shelf.Unicode.DecodeSlow
import Derived.Shelf.Unicode.DecodeAny
import Derived.Ground.Names2Prog
import Derived.Shelf.Slices.SearchI
import Derived.Shelf.Slices.In.SortNone
import Derived.Shelf.Slices.In.SortNone2
import Derived.Test.YtpblakfidofgfaaGreatDoorProg
import Derived.Sort.OwnSorted
import Derived.Sort.OwnSortedInts
set_option linter.unusedSimpArgs false
set_option linter.unusedVariables false
namespace Go.Proofs.YtpblakfidofgfaaGreatDoor
open Go.RowKit Am
def X6 (a0:List Int) (x2:List Int) (x3:Int):Nat->Int->Option Int | 0,_=>none | n_+1,x8=> (if (decide (x8<(x2.length:Int))) then (at? x2 x8).bind fun x10=> (at? a0 x3).bind fun x11=> some (decide (x10<x11)) else some false).bind fun x9=> if x9 then X6 a0 x2 x3 n_ (IntKind.i64.wrap (x8+1)) else some x8
def X7 (k:Nat) (a0:List Int):Nat->(List Int)->Int->Option (List Int) | 0,_,_=>none | n_+1,x2,x3=> if (decide (x3<(a0.length:Int))) then ((at? a0 x3).bind fun x5=> (Ym k x2 x5).bind fun x6=> if x6 then some x2 else (X6 a0 x2 x3 k 0).bind fun x7=> (ZiE x2 0 x7).bind fun x12=> (YH 8 ([]:List Int) x12).bind fun x13=> (YH 8 x13 [x5]).bind fun x14=> (ZiE x2 x7 (x2.length:Int)).bind fun x15=> (YH 8 x14 x15).bind fun x16=> some x16).bind fun x4=> X7 k a0 n_ x4 (IntKind.i64.wrap (x3+1)) else some x2
def ZcG (k:Nat) (a0:List Int):Option (List Int):= (X7 k a0 k ([]:List Int) 0).bind fun x1=> some x1
def Zy (k:Nat) (a0:List Zi) (x3:List ByteArray):Nat->(List Int)->Int->Option (List Int) | 0,_,_=>none | n_+1,x5,x6=> if (decide (x6<(x3.length:Int))) then ((at? x3 x6).bind fun x8=> (Qk k a0 x8).bind fun x9=> if (decide (0<=x9)) then (YH 8 x5 [x9]).bind fun x10=> some x10 else some x5).bind fun x7=> Zy k a0 x3 n_ x7 (IntKind.i64.wrap (x6+1)) else some x5
def Qa (k:Nat) (a0:List Zi) (a1:Int):Option (List Int):= (UK a1 0 (IntKind.i64.wrap ((a0.length:Int)-1))).bind fun x1=> if (!x1) then some ([]:List Int) else (at? a0 a1).bind fun x2=> (Wu k x2).bind fun x3=> (Zy k a0 x3 k ([]:List Int) 0).bind fun x4=> (ZcG k x4).bind fun x11=> some x11
def QD (k:Nat) (a0:List Zi):Nat->(List (List Int))->Int->Option (List (List Int)) | 0,_,_=>none | n_+1,x2,x3=> if (decide (x3<(a0.length:Int))) then (Qa k a0 x3).bind fun x4=> (YH 24 x2 [x4]).bind fun x5=> QD k a0 n_ x5 (IntKind.i64.wrap (x3+1)) else some x2
def V1 (k:Nat) (a0:List Zi):Option (List (List Int)):= (QD k a0 k ([]:List (List Int)) 0).bind fun x1=> some x1
def XO (k:Nat) (x12:List Int):Nat->(List Int)->Int->Option (List Int) | 0,_,_=>none | n_+1,x13,x14=> if (decide (x14<(x12.length:Int))) then ((at? x12 x14).bind fun x16=> (Ym k x13 x16).bind fun x17=> if (!x17) then (YH 8 x13 [x16]).bind fun x18=> some x18 else some x13).bind fun x15=> XO k x12 n_ x15 (IntKind.i64.wrap (x14+1)) else some x13
def Y6 (k:Nat) (a0:List (List Int)):Nat->(List Int)->Int->Option (List Int) | 0,_,_=>none | n_+1,x8,x9=> if (decide (x9<(x8.length:Int))) then ((at? x8 x9).bind fun x11=> (at? a0 x11).bind fun x12=> XO k x12 k x8 0).bind fun x10=> Y6 k a0 n_ x10 (IntKind.i64.wrap (x9+1)) else some x8
def Y7 (k:Nat) (a0:List (List Int)):Nat->(List Bool)->Int->Option (List Bool) | 0,_,_=>none | n_+1,x3,x4=> if (decide (x4<(a0.length:Int))) then (at? a0 x4).bind fun x5=> (YH 8 ([]:List Int) x5).bind fun x6=> (Y6 k a0 k x6 0).bind fun x7=> (Ym k x7 x4).bind fun x19=> (at? x3 x4).bind fun x20=> Y7 k a0 n_ (x3.set x4.toNat x19) (IntKind.i64.wrap (x4+1)) else some x3
def X5 (k:Nat) (a0:List (List Int)):Option (List Bool):= (mk? 1 (a0.length:Int)).bind fun x1=> (Y7 k a0 k (List.replicate x1 false) 0).bind fun x2=> some x2
def YZ (k:Nat) (a0:List Zi) (a1:Int):Option Bool:= ((UK a1 0 (IntKind.i64.wrap ((a0.length:Int)-1))).bind fun x2=> if x2 then (at? a0 a1).bind fun x3=> if (!decide (x3.kind=1)) then (Qk k a0 x3.name).bind fun x4=> some (decide (x4=(-2))) else some false else some false).bind fun x1=> some x1
def YE (k:Nat) (a0:List Zi) (a1:Int) (a2:Bool):Option (Za×Bool):= (at? a0 a1).bind fun x1=> if (decide (x1.kind=1)) then some ((Za.mk 0 0 0 (⟨#[]⟩:ByteArray) [] [] []),true) else (YZ k a0 a1).bind fun x2=> if x2 then (QH 2).bind fun x3=> some (x3,true) else if (decide (x1.kind=4)) then (QH 8).bind fun x4=> some (x4,true) else if (decide (x1.kind=3)) then (WO k x1.value).bind fun x5=> some (x5,true) else if a2 then (QH 3).bind fun x6=> some (x6,true) else some ((Za.mk 0 0 0 (⟨#[]⟩:ByteArray) [] [] []),false)
def Z9 (a0:Ze) (a1:Int):Nat->Int->Option (Unit ⊕ Int) | 0,_=>none | n_+1,x1=> if (decide (x1<(a0.entries.length:Int))) then (at? a0.entries x1).bind fun x2=> if (decide (x2.cell=a1)) then some (.inr x1) else Z9 a0 a1 n_ (IntKind.i64.wrap (x1+1)) else some (.inl ())
def Z7 (k:Nat) (a0:Ze) (a1:Int):Option Int:= (Z9 a0 a1 k 0:Option (Unit ⊕ Int)).bind fun | .inl _=>( some (-1)) | .inr z3=>( some z3)
def Xh (a0:List ByteArray) (a1:List ByteArray):Nat->Int->Option (Unit ⊕ Bool) | 0,_=>none | n_+1,x1=> if (decide (x1<(a0.length:Int))) then (at? a0 x1).bind fun x2=> (at? a1 x1).bind fun x3=> if (!decide (x2=x3)) then some (.inr false) else Xh a0 a1 n_ (IntKind.i64.wrap (x1+1)) else some (.inl ())
def Jk (k:Nat) (a0:List ByteArray) (a1:List ByteArray):Option Bool:= if (!decide ((a0.length:Int)=(a1.length:Int))) then some false else (Xh a0 a1 k 0:Option (Unit ⊕ Bool)).bind fun | .inl _=>( some true) | .inr z4=>( some z4)
def X8 (a0:List Int) (a1:List Int):Nat->Int->Option (Unit ⊕ Bool) | 0,_=>none | n_+1,x1=> if (decide (x1<(a0.length:Int))) then (at? a0 x1).bind fun x2=> (at? a1 x1).bind fun x3=> if (!decide (x2=x3)) then some (.inr false) else X8 a0 a1 n_ (IntKind.i64.wrap (x1+1)) else some (.inl ())
def WQ (k:Nat) (a0:List Int) (a1:List Int):Option Bool:= if (!decide ((a0.length:Int)=(a1.length:Int))) then some false else (X8 a0 a1 k 0:Option (Unit ⊕ Bool)).bind fun | .inl _=>( some true) | .inr z4=>( some z4)
def Y4 (a0:List Zl) (a1:List Zl):Nat->Int->Option (Unit ⊕ Bool) | 0,_=>none | n_+1,x1=> if (decide (x1<(a0.length:Int))) then (at? a0 x1).bind fun x2=> (at? a1 x1).bind fun x3=> if (!(decide (x2.cell=x3.cell)&&decide (x2.row=x3.row))) then some (.inr false) else Y4 a0 a1 n_ (IntKind.i64.wrap (x1+1)) else some (.inl ())
def QO (k:Nat) (a0:List Zl) (a1:List Zl):Option Bool:= if (!decide ((a0.length:Int)=(a1.length:Int))) then some false else (Y4 a0 a1 k 0:Option (Unit ⊕ Bool)).bind fun | .inl _=>( some true) | .inr z4=>( some z4)
def VV (rec_s_l3Same:Za->Za->Bool->Option Bool) (a0:Za) (a1:Za) (a2:Bool):Nat->Int->Option (Unit ⊕ Bool) | 0,_=>none | n_+1,x3=> if (decide (x3<(a0.list.length:Int))) then (at? a0.list x3).bind fun x4=> (at? a1.list x3).bind fun x5=> (rec_s_l3Same x4 x5 a2).bind fun x6=> if (!x6) then some (.inr false) else VV rec_s_l3Same a0 a1 a2 n_ (IntKind.i64.wrap (x3+1)) else some (.inl ())
def WW (k:Nat) (a0:Za) (a1:Za) (a2:Bool):Nat->Int->Option (Unit ⊕ Bool) | 0,_=>none | n_+1,x7=> if (decide (x7<(a0.rows.length:Int))) then ((at? a0.rows x7).bind fun x9=> (at? a1.rows x7).bind fun x10=> (WQ k x9.cells x10.cells).bind fun x11=> if (!x11) then some true else if a2 then (QO k x9.from_ x10.from_).bind fun x12=> some (!x12) else some false).bind fun x8=> if x8 then some (.inr false) else WW k a0 a1 a2 n_ (IntKind.i64.wrap (x7+1)) else some (.inl ())
def Vs:Nat->Za->Za->Bool->Option Bool | 0,_,_,_=>none | k+1,a0,a1,a2=> (if (!decide (a0.kind=a1.kind)) then some true else if (!decide (a0.n=a1.n)) then some true else if (!decide (a0.step=a1.step)) then some true else if (!decide (a0.text=a1.text)) then some true else if (!decide ((a0.list.length:Int)=(a1.list.length:Int))) then some true else (Jk k a0.columns a1.columns).bind fun x2=> if (!x2) then some true else some (!decide ((a0.rows.length:Int)=(a1.rows.length:Int)))).bind fun x1=> if x1 then some false else (VV (Vs k) a0 a1 a2 k 0:Option (Unit ⊕ Bool)).bind fun | .inl _=>( (WW k a0 a1 a2 k 0:Option (Unit ⊕ Bool)).bind fun | .inl _=>( some true) | .inr z13=>( some z13)) | .inr z14=>( some z14)
def Xi (k:Nat) (a0:Za) (a1:Za):Option Bool:= (Vs k a0 a1 true).bind fun x1=> some x1
def Kt (k:Nat) (a0:Ze) (a1:List Zi) (a2:Int) (a3:Za):Option Bool:= (at? a1 a2).bind fun x1=> if (decide (x1.kind=1)) then some true else (at? a0.notebook.cells a2).bind fun x2=> (Z7 k a0 x2.id).bind fun x3=> (if (decide (0<=x3)) then (at? a0.entries x3).bind fun x5=> if x5.has then (Xi k x5.value a3).bind fun x6=> some x6 else some false else some false).bind fun x4=> some x4
def Ws (k:Nat) (a0:List Int) (a1:List Int) (a2:List Bool):Nat->Int->Option (Unit ⊕ Bool) | 0,_=>none | n_+1,x1=> if (decide (x1<(a1.length:Int))) then ((at? a1 x1).bind fun x3=> (at? a2 x3).bind fun x4=> if x4 then (Ym k a0 x3).bind fun x5=> some (!x5) else some false).bind fun x2=> if x2 then some (.inr false) else Ws k a0 a1 a2 n_ (IntKind.i64.wrap (x1+1)) else some (.inl ())
def U0 (k:Nat) (a0:List Int) (a1:List Int) (a2:List Bool):Option Bool:= (Ws k a0 a1 a2 k 0:Option (Unit ⊕ Bool)).bind fun | .inl _=>( some true) | .inr z6=>( some z6)
def QC (k:Nat) (a0:List Zi) (a2:List Bool):Nat->(List Bool)->Int->Int->Option ((List Bool)×Int) | 0,_,_,_=>none | n_+1,x4,x5,x6=> if (decide (x6<(a0.length:Int))) then (((at? a2 x6).bind fun x10=> if (!x10) then (YZ k a0 x6).bind fun x11=> if (!x11) then (at? a0 x6).bind fun x12=> if (decide (x12.kind=2)) then (at? x4 x6).bind fun x13=> some (x4.set x6.toNat true) else (at? x4 x6).bind fun x14=> some (x4.set x6.toNat (decide (x12.kind=3))) else (at? x4 x6).bind fun x15=> some (x4.set x6.toNat false) else (at? x4 x6).bind fun x16=> some (x4.set x6.toNat false)).bind fun x9=> (at? x9 x6).bind fun x17=> if x17 then some (x9,(IntKind.i64.wrap (x5+1))) else some (x9,x5)).bind fun (x7,x8)=> QC k a0 a2 n_ x7 x8 (IntKind.i64.wrap (x6+1)) else some (x4,x5)
def YW (c_1:(List Int)->Option (List Int)) (k:Nat) (a0:List Zi) (a1:List (List Int)) (x2:List Bool) (x19:List Int):Nat->Int->Option (List Int) | 0,_=>none | n_+1,x20=> if (decide (x20<(a0.length:Int))) then ((at? x2 x20).bind fun x22=> if x22 then (Ym k x19 x20).bind fun x23=> if (!x23) then (at? a1 x20).bind fun x24=> (U0 k x19 x24 x2).bind fun x25=> some x25 else some false else some false).bind fun x21=> if x21 then (YH 8 x19 [x20]).bind fun x26=> c_1 x26 else YW c_1 k a0 a1 x2 x19 n_ (IntKind.i64.wrap (x20+1)) else c_1 x19
def Xo (k:Nat) (a0:List Zi) (a1:List (List Int)) (x2:List Bool) (x3:Int):Nat->(List Int)->Option (List Int) | 0,_=>none | n_+1,x19=> if (decide ((x19.length:Int)<x3)) then YW (Xo k a0 a1 x2 x3 n_) k a0 a1 x2 x19 k 0 else some x19
def U1 (k:Nat) (a0:List Zi) (a1:List (List Int)) (a2:List Bool):Option (List Int):= (mk? 1 (a0.length:Int)).bind fun x1=> (QC k a0 a2 k (List.replicate x1 false) 0 0).bind fun (x2,x3)=> (Xo k a0 a1 x2 x3 k ([]:List Int)).bind fun x18=> some x18
def Y5 (k:Nat) (a0:Ze) (x2:List ByteArray) (a20:List Zi) (a21:List Bool) (a22:List Bool) (a23:List Bool) (a24:List (List Int)):Nat->(List Int)->Int->Option ((List Int) ⊕ ((List Bool)×(List Bool)×(List Bool)×(List (List Int)))) | 0,_,_=>none | n_+1,x4,x5=> if (decide (x5<(x2.length:Int))) then ((at? x2 x5).bind fun x7=> (Qk k a20 x7).bind fun x8=> if (decide (x8<0)) then (YH 8 x4 [x8]).bind fun x9=> some (.inl x9) else (at? a22 x8).bind fun x10=> if (!x10) then some (.inr (a21,a22,a23,a24)) else (at? a0.notebook.cells x8).bind fun x11=> (Z7 k a0 x11.id).bind fun x12=> (at? a0.entries x12).bind fun x13=> (YH 8 x4 [x13.stamp]).bind fun x14=> some (.inl x14):Option ((List Int) ⊕ ((List Bool)×(List Bool)×(List Bool)×(List (List Int))))).bind fun | .inl x6=>( Y5 k a0 x2 a20 a21 a22 a23 a24 n_ x6 (IntKind.i64.wrap (x5+1))) | .inr z15=>( some (.inr z15)) else some (.inl x4)
def ZbJ (k:Nat) (a0:Ze) (a2:Int) (a20:List Zi) (a21:List Bool) (a22:List Bool) (a23:List Bool) (a24:List (List Int)):Option ((List Bool)×(List Bool)×(List Bool)×(List (List Int))):= (at? a20 a2).bind fun x1=> (Wu k x1).bind fun x2=> (Y5 k a0 x2 a20 a21 a22 a23 a24 k ([]:List Int) 0:Option ((List Int) ⊕ ((List Bool)×(List Bool)×(List Bool)×(List (List Int))))).bind fun | .inl x3=>( (at? a23 a2).bind fun x16=> (at? a24 a2).bind fun x17=> (at? a0.notebook.cells a2).bind fun x18=> (Z7 k a0 x18.id).bind fun x19=> if (decide (0<=x19)) then (at? a0.entries x19).bind fun x20=> if (decide (x20.version=x18.version)) then (WQ k x20.inputs x3).bind fun x21=> (at? a22 a2).bind fun x22=> some (a21,(a22.set a2.toNat x21),(a23.set a2.toNat true),(a24.set a2.toNat x3)) else (at? a22 a2).bind fun x23=> some (a21,(a22.set a2.toNat false),(a23.set a2.toNat true),(a24.set a2.toNat x3)) else (at? a22 a2).bind fun x24=> some (a21,(a22.set a2.toNat false),(a23.set a2.toNat true),(a24.set a2.toNat x3))) | .inr z25=>( some z25)
def QQ (k:Nat) (a0:Ze) (x1:List Zi) (x3:List Bool):Nat->(List Bool)->(List Bool)->(List Bool)->(List (List Int))->Int->Option ((List Bool)×(List Bool)×(List Bool)×(List (List Int))) | 0,_,_,_,_,_=>none | n_+1,x12,x13,x14,x15,x16=> if (decide (x16<(x1.length:Int))) then ((at? x3 x16).bind fun x20=> (YE k x1 x16 x20).bind fun x21=> (at? x12 x16).bind fun x22=> (at? x14 x16).bind fun x23=> (at? x15 x16).bind fun x24=> if x21.2 then (Kt k a0 x1 x16 x21.1).bind fun x25=> (at? x13 x16).bind fun x26=> some ((x12.set x16.toNat x21.2),(x13.set x16.toNat x25),(x14.set x16.toNat x21.2)) else (at? x13 x16).bind fun x27=> some ((x12.set x16.toNat x21.2),(x13.set x16.toNat false),(x14.set x16.toNat x21.2))).bind fun (x17,x18,x19)=> QQ k a0 x1 x3 n_ x17 x18 x19 (x15.set x16.toNat ([]:List Int)) (IntKind.i64.wrap (x16+1)) else some (x12,x13,x14,x15)
def QP (k:Nat) (a0:Ze) (x1:List Zi) (x28:List Int):Nat->(List Bool)->(List Bool)->(List Bool)->(List (List Int))->Int->Option ((List Bool)×(List Bool)×(List Bool)×(List (List Int))) | 0,_,_,_,_,_=>none | n_+1,x33,x34,x35,x36,x37=> if (decide (x37<(x28.length:Int))) then ((at? x28 x37).bind fun x42=> (at? x33 x42).bind fun x43=> if (!x43) then (ZbJ k a0 x42 x1 x33 x34 x35 x36).bind fun x44=> some (x44.1,x44.2.1,x44.2.2.1,x44.2.2.2) else some (x33,x34,x35,x36)).bind fun (x38,x39,x40,x41)=> QP k a0 x1 x28 n_ x38 x39 x40 x41 (IntKind.i64.wrap (x37+1)) else some (x33,x34,x35,x36)
def UO (k:Nat) (a0:Ze):Option ZT:= (Wc k a0.notebook).bind fun x1=> (V1 k x1).bind fun x2=> (X5 k x2).bind fun x3=> (mk? 1 (x1.length:Int)).bind fun x4=> (mk? 1 (x1.length:Int)).bind fun x5=> (mk? 1 (x1.length:Int)).bind fun x6=> (mk? 24 (x1.length:Int)).bind fun x7=> (QQ k a0 x1 x3 k (List.replicate x7 false) (List.replicate x7 false) (List.replicate x7 false) (List.replicate x7 []) 0).bind fun (x8,x9,x10,x11)=> (U1 k x1 x2 x3).bind fun x28=> (QP k a0 x1 x28 k x8 x9 x10 x11 0).bind fun (x29,x30,x31,x32)=> some (ZT.mk x1 x29 x30 x31 x32)
def KC (k:Nat) (a0:Ze) (a1:Int):Option Bool:= (UO k a0).bind fun x1=> ((UK a1 0 (IntKind.i64.wrap ((x1.parts.length:Int)-1))).bind fun x3=> if x3 then (at? x1.fresh a1).bind fun x4=> some x4 else some false).bind fun x2=> some x2
def XZ (a0:Int) (a1:Int) (a2:Int):Option Bool:= (if (decide (a1<=a0)) then some (decide (a0<=a2)) else some false).bind fun x1=> some x1
def Qy (a0:ByteArray):Nat->Int->Option (Unit ⊕ Bool) | 0,_=>none | n_+1,x1=> if (decide (x1<(a0.size:Int))) then ((at? a0.data.toList x1).bind fun x3=> if (decide ((x3.toNat:Int)<32)) then some true else some (decide (126<(x3.toNat:Int)))).bind fun x2=> if x2 then some (.inr false) else Qy a0 n_ (IntKind.i64.wrap (x1+1)) else some (.inl ())
def WD (k:Nat) (a0:ByteArray):Option Bool:= (Qy a0 k 0:Option (Unit ⊕ Bool)).bind fun | .inl _=>( some (decide ((a0.size:Int)<=120))) | .inr z4=>( some z4)
def Ub (a0:ByteArray):Nat->Int->Option (Unit ⊕ Bool) | 0,_=>none | n_+1,x1=> if (decide (x1<(a0.size:Int))) then ((at? a0.data.toList x1).bind fun x3=> if (decide (97<=(x3.toNat:Int))) then some (decide ((x3.toNat:Int)<=122)) else some false).bind fun x2=> (if (!x2) then if (decide (x1=0)) then some true else (at? a0.data.toList x1).bind fun x5=> if (decide ((x5.toNat:Int)<48)) then some true else some (decide (57<(x5.toNat:Int))) else some false).bind fun x4=> if x4 then some (.inr false) else Ub a0 n_ (IntKind.i64.wrap (x1+1)) else some (.inl ())
def Zfi (k:Nat) (a0:ByteArray):Option Bool:= (Ub a0 k 0:Option (Unit ⊕ Bool)).bind fun | .inl _=>( (XZ (a0.size:Int) 1 8).bind fun x6=> some x6) | .inr z7=>( some z7)
def ZG (a0:ByteArray):Option Int:= if (decide (a0=(⟨#[99,108,111,99,107]⟩:ByteArray))) then some 0 else (if (decide (a0=(⟨#[108,101,110]⟩:ByteArray))) then some true else if (decide (a0=(⟨#[115,117,109]⟩:ByteArray))) then some true else if (decide (a0=(⟨#[114,111,119,115]⟩:ByteArray))) then some true else if (decide (a0=(⟨#[99,104,97,110,99,101]⟩:ByteArray))) then some true else some (decide (a0=(⟨#[102,105,108,101]⟩:ByteArray)))).bind fun x1=> if x1 then some 1 else (if (decide (a0=(⟨#[116,97,107,101]⟩:ByteArray))) then some true else if (decide (a0=(⟨#[115,107,105,112]⟩:ByteArray))) then some true else if (decide (a0=(⟨#[114,97,110,103,101]⟩:ByteArray))) then some true else if (decide (a0=(⟨#[110,116,104]⟩:ByteArray))) then some true else if (decide (a0=(⟨#[107,101,101,112]⟩:ByteArray))) then some true else if (decide (a0=(⟨#[99,111,108,117,109,110]⟩:ByteArray))) then some true else some (decide (a0=(⟨#[116,97,98,108,101]⟩:ByteArray)))).bind fun x2=> if x2 then some 2 else (if (decide (a0=(⟨#[119,104,101,114,101]⟩:ByteArray))) then some true else if (decide (a0=(⟨#[103,114,111,117,112]⟩:ByteArray))) then some true else some (decide (a0=(⟨#[106,111,105,110]⟩:ByteArray)))).bind fun x3=> if x3 then some 3 else if (decide (a0=(⟨#[97,100,100]⟩:ByteArray))) then some 4 else some (-1)
def UD (a0:ByteArray):Option Bool:= (if (decide (a0=(⟨#[108,101,116]⟩:ByteArray))) then some true else if (decide (a0=(⟨#[105,110]⟩:ByteArray))) then some true else if (decide (a0=(⟨#[105,102]⟩:ByteArray))) then some true else if (decide (a0=(⟨#[116,104,101,110]⟩:ByteArray))) then some true else if (decide (a0=(⟨#[101,108,115,101]⟩:ByteArray))) then some true else if (decide (a0=(⟨#[102,111,114]⟩:ByteArray))) then some true else some (decide (a0=(⟨#[100,111]⟩:ByteArray)))).bind fun x1=> if x1 then some true else (ZG a0).bind fun x2=> some (decide (0<=x2))
def ZS (k:Nat) (a0:ByteArray):Option Bool:= ((Zfi k a0).bind fun x2=> if x2 then (UD a0).bind fun x3=> some (!x3) else some false).bind fun x1=> some x1
def Y1 (k:Nat) (a0:Zs):Option Bool:= ((XZ a0.id 1 999).bind fun x2=> if (!x2) then some true else (XZ a0.version 1 999).bind fun x3=> if (!x3) then some true else (WD k a0.code).bind fun x4=> some (!x4)).bind fun x1=> if x1 then some false else if (decide (a0.kind=1)) then (if (decide (a0.name=(⟨#[]⟩:ByteArray))) then some (decide (a0.n=0)) else some false).bind fun x5=> some x5 else (if (decide (a0.kind=2)) then some true else some (decide (a0.kind=4))).bind fun x6=> if x6 then ((ZS k a0.name).bind fun x8=> if x8 then some (decide (a0.n=0)) else some false).bind fun x7=> some x7 else if (decide (a0.kind=3)) then ((ZS k a0.name).bind fun x10=> if x10 then if (decide (a0.code=(⟨#[]⟩:ByteArray))) then (XZ a0.n 0 100).bind fun x11=> some x11 else some false else some false).bind fun x9=> some x9 else some false
def XV (a0:Zh) (a1:Int):Nat->Int->Option (Unit ⊕ Int) | 0,_=>none | n_+1,x1=> if (decide (x1<(a0.cells.length:Int))) then (at? a0.cells x1).bind fun x2=> if (decide (x2.id=a1)) then some (.inr x1) else XV a0 a1 n_ (IntKind.i64.wrap (x1+1)) else some (.inl ())
def Qn (k:Nat) (a0:Zh) (a1:Int):Option Int:= (XV a0 a1 k 0:Option (Unit ⊕ Int)).bind fun | .inl _=>( some (-1)) | .inr z3=>( some z3)
def Yu (k:Nat) (a0:Zh):Nat->Int->Option (Unit ⊕ Bool) | 0,_=>none | n_+1,x1=> if (decide (x1<(a0.cells.length:Int))) then (at? a0.cells x1).bind fun x2=> ((Y1 k x2).bind fun x4=> if (!x4) then some true else (Qn k a0 x2.id).bind fun x5=> some (!decide (x5=x1))).bind fun x3=> if x3 then some (.inr false) else Yu k a0 n_ (IntKind.i64.wrap (x1+1)) else some (.inl ())
def Xc (k:Nat) (a0:Zh):Option Bool:= (Yu k a0 k 0:Option (Unit ⊕ Bool)).bind fun | .inl _=>( some (decide ((a0.cells.length:Int)<=8))) | .inr z6=>( some z6)
def ZaE (a0:Int):Option Za:= some (Za.mk 1 a0 0 (⟨#[]⟩:ByteArray) [] [] [])
def Qx (a0:ByteArray):Nat->Int->Option (Unit ⊕ Bool) | 0,_=>none | n_+1,x1=> if (decide (x1<(a0.size:Int))) then ((at? a0.data.toList x1).bind fun x3=> if (decide ((x3.toNat:Int)<32)) then some true else if (decide (126<(x3.toNat:Int))) then some true else some (decide ((x3.toNat:Int)=34))).bind fun x2=> if x2 then some (.inr false) else Qx a0 n_ (IntKind.i64.wrap (x1+1)) else some (.inl ())
def Xw (k:Nat) (a0:ByteArray):Option Bool:= (Qx a0 k 0:Option (Unit ⊕ Bool)).bind fun | .inl _=>( some (decide ((a0.size:Int)<=20))) | .inr z4=>( some z4)
def Xl (a0:ByteArray):Nat->Int->Option Int | 0,_=>none | n_+1,x4=> (if (decide (x4<(a0.size:Int))) then (at? a0.data.toList x4).bind fun x6=> if (decide (97<=(x6.toNat:Int))) then if (decide ((x6.toNat:Int)<=122)) then some true else if (decide (48<=(x6.toNat:Int))) then some (decide ((x6.toNat:Int)<=57)) else some false else if (decide (48<=(x6.toNat:Int))) then some (decide ((x6.toNat:Int)<=57)) else some false else some false).bind fun x5=> if x5 then Xl a0 n_ (IntKind.i64.wrap (x4+1)) else some x4
def Xk (a0:ByteArray):Nat->Int->Option Int | 0,_=>none | n_+1,x10=> (if (decide (x10<(a0.size:Int))) then (at? a0.data.toList x10).bind fun x12=> if (decide (48<=(x12.toNat:Int))) then some (decide ((x12.toNat:Int)<=57)) else some false else some false).bind fun x11=> if x11 then Xk a0 n_ (IntKind.i64.wrap (x10+1)) else some x10
def YU (k:Nat) (a0:ByteArray) (a1:Int):Option (Zg×Int×Bool):= (at? a0.data.toList a1).bind fun x1=> (if (decide (97<=(x1.toNat:Int))) then some (decide ((x1.toNat:Int)<=122)) else some false).bind fun x2=> if x2 then (Xl a0 k a1).bind fun x3=> (UN a0 a1 x3).bind fun x7=> some ((Zg.mk 1 0 a1 x7),x3,(decide ((IntKind.i64.wrap (x3-a1))<=8))) else (if (decide (48<=(x1.toNat:Int))) then some (decide ((x1.toNat:Int)<=57)) else some false).bind fun x8=> if x8 then (Xk a0 k a1).bind fun x9=> (UN a0 a1 x9).bind fun x13=> (Zb2 x13 0 1000000000).bind fun x14=> some ((Zg.mk 2 x14.1 a1 (⟨#[]⟩:ByteArray)),x9,x14.2) else if (decide ((x1.toNat:Int)=34)) then (UN a0 (IntKind.i64.wrap (a1+1)) (a0.size:Int)).bind fun x15=> (Yh x15 34).bind fun x16=> if (decide (x16<0)) then some ((Zg.mk 0 0 0 (⟨#[]⟩:ByteArray)),0,false) else (UN a0 (IntKind.i64.wrap (a1+1)) (IntKind.i64.wrap ((IntKind.i64.wrap (a1+1))+x16))).bind fun x17=> (Xw k x17).bind fun x18=> some ((Zg.mk 3 0 a1 x17),(IntKind.i64.wrap ((IntKind.i64.wrap (a1+x16))+2)),x18) else (UN a0 a1 (a0.size:Int)).bind fun x19=> (Yi x19 (⟨#[61,61]⟩:ByteArray)).bind fun x20=> if x20 then some ((Zg.mk 4 0 a1 (⟨#[61,61]⟩:ByteArray)),(IntKind.i64.wrap (a1+2)),true) else (UN a0 a1 (IntKind.i64.wrap (a1+1))).bind fun x21=> (Yh (⟨#[40,41,91,93,44,43,45,42,60,61]⟩:ByteArray) (x1.toNat:Int)).bind fun x22=> some ((Zg.mk 4 0 a1 x21),(IntKind.i64.wrap (a1+1)),(decide (0<=x22)))
def ZZ (k:Nat) (a0:ByteArray):Nat->(List Zg)->Int->Option ((List Zg) ⊕ ((List Zg)×Int)) | 0,_,_=>none | n_+1,x2,x3=> if (decide (x3<(a0.size:Int))) then (at? a0.data.toList x3).bind fun x4=> if (decide ((x4.toNat:Int)=32)) then ZZ k a0 n_ x2 (IntKind.i64.wrap (x3+1)) else (YU k a0 x3).bind fun x5=> (if (!x5.2.2) then some true else some (decide ((x2.length:Int)=60))).bind fun x6=> if x6 then some (.inr ([],x3)) else (YH 40 x2 [x5.1]).bind fun x7=> ZZ k a0 n_ x7 x5.2.1 else some (.inl x2)
def Ue (k:Nat) (a0:ByteArray):Option ((List Zg)×Int):= if (decide (120<(a0.size:Int))) then some ([],120) else (ZZ k a0 k ([]:List Zg) 0:Option ((List Zg) ⊕ ((List Zg)×Int))).bind fun | .inl x1=>( some (x1,(-1))) | .inr z8=>( some z8)
def Zw (a0:Zd):Option (Zg×Zd):= (if (decide (a0.bad<0)) then some (decide (a0.at_<(a0.list.length:Int))) else some false).bind fun x1=> if x1 then (at? a0.list a0.at_).bind fun x2=> some (x2,a0) else some ((Zg.mk 0 0 0 (⟨#[]⟩:ByteArray)),a0)
def Yk (a0:Zg) (a1:ByteArray):Option Bool:= (if (decide (a0.kind=1)) then some (decide (a0.text=a1)) else some false).bind fun x1=> some x1
def Ye (a0:Zd):Option (Zb×Zd):= (if (decide (a0.bad<0)) then some a0.at_ else some a0.bad).bind fun x1=> some ((Zb.mk 0 0 (⟨#[]⟩:ByteArray) []),(Zd.mk a0.list a0.at_ x1))
def Yd (k:Nat) (a0:Zd):Option (ByteArray×Zd):= (Zw a0).bind fun x1=> (if (!decide (x1.1.kind=1)) then some true else (ZS k x1.1.text).bind fun x3=> some (!x3)).bind fun x2=> if x2 then (Ye x1.2).bind fun x4=> some ((⟨#[]⟩:ByteArray),x4.2) else some (x1.1.text,(Zd.mk x1.2.list (IntKind.i64.wrap (x1.2.at_+1)) x1.2.bad))
def U7 (a0:Zg) (a1:ByteArray):Option Bool:= (if (decide (a0.kind=4)) then some (decide (a0.text=a1)) else some false).bind fun x1=> some x1
def Zn (a0:Zd) (a1:ByteArray):Option Zd:= ((Zw a0).bind fun x5=> (Yk x5.1 a1).bind fun x6=> if x6 then some (x5.2.list,x5.2.at_,x5.2.bad,true) else (Zw x5.2).bind fun x7=> (U7 x7.1 a1).bind fun x8=> some (x7.2.list,x7.2.at_,x7.2.bad,x8)).bind fun (x1,x2,x3,x4)=> if x4 then some (Zd.mk x1 (IntKind.i64.wrap (x2+1)) x3) else (Ye (Zd.mk x1 x2 x3)).bind fun x9=> some x9.2
def Zf (a0:Zd) (a1:ByteArray):Option (Bool×Zd):= (Zw a0).bind fun x1=> (U7 x1.1 a1).bind fun x2=> if x2 then some (true,(Zd.mk x1.2.list (IntKind.i64.wrap (x1.2.at_+1)) x1.2.bad)) else some (false,x1.2)
def KU (a0:Int):Option ByteArray:= (XZ a0 1 5).bind fun x1=> if (!x1) then some (⟨#[63]⟩:ByteArray) else (at? [(⟨#[43]⟩:ByteArray),(⟨#[45]⟩:ByteArray),(⟨#[42]⟩:ByteArray),(⟨#[60]⟩:ByteArray),(⟨#[61,61]⟩:ByteArray)] (IntKind.i64.wrap (a0-1))).bind fun x2=> some x2
def YF (rec_i_parser_expr:Zd->Option (Zb×Zd)) (a1:ByteArray):Nat->(List Zg)->Int->Int->(List Zb)->Option ((List Zb)×(List Zg)×Int×Int) | 0,_,_,_,_=>none | n_+1,x6,x7,x8,x9=> if (decide (x8<0)) then (rec_i_parser_expr (Zd.mk x6 x7 x8)).bind fun x10=> (YH 56 x9 [x10.1]).bind fun x11=> (Zf x10.2 a1).bind fun x12=> if x12.1 then some (x11,x12.2.list,x12.2.at_,x12.2.bad) else (Zn x12.2 (⟨#[44]⟩:ByteArray)).bind fun x13=> YF rec_i_parser_expr a1 n_ x13.list x13.at_ x13.bad x11 else some (x9,x6,x7,x8)
def Yj (rec_i_parser_atom:Zd->Option (Zb×Zd)):Nat->(List Zg)->Int->Int->Int->Int->ByteArray->(List Zb)->Option (Int×Int×ByteArray×(List Zb)×(List Zg)×Int×Int) | 0,_,_,_,_,_,_,_=>none | n_+1,x9,x10,x11,x12,x13,x14,x15=> (Zf (Zd.mk x9 x10 x11) (⟨#[42]⟩:ByteArray)).bind fun x16=> if x16.1 then (rec_i_parser_atom x16.2).bind fun x17=> Yj rec_i_parser_atom n_ x17.2.list x17.2.at_ x17.2.bad 6 3 (⟨#[]⟩:ByteArray) [(Zb.mk x12 x13 x14 x15),x17.1] else some (x12,x13,x14,x15,x16.2.list,x16.2.at_,x16.2.bad)
def Qm (rec_i_parser_product:Zd->Option (Zb×Zd)):Nat->(List Zg)->Int->Int->Int->Int->ByteArray->(List Zb)->Option (Int×Int×ByteArray×(List Zb)×(List Zg)×Int×Int) | 0,_,_,_,_,_,_,_=>none | n_+1,x9,x10,x11,x12,x13,x14,x15=> if (decide (x11<0)) then ((Zf (Zd.mk x9 x10 x11) (⟨#[43]⟩:ByteArray)).bind fun x23=> if (!x23.1) then (Zf x23.2 (⟨#[45]⟩:ByteArray)).bind fun x24=> if (!x24.1) then some (.inr (x24.2.list,x24.2.at_,x24.2.bad)) else some (.inl (x24.2.list,x24.2.at_,x24.2.bad,2)) else some (.inl (x23.2.list,x23.2.at_,x23.2.bad,1)):Option (((List Zg)×Int×Int×Int) ⊕ ((List Zg)×Int×Int))).bind fun | .inl (x16,x17,x18,x19)=>( (rec_i_parser_product (Zd.mk x16 x17 x18)).bind fun x25=> Qm rec_i_parser_product n_ x25.2.list x25.2.at_ x25.2.bad 6 x19 (⟨#[]⟩:ByteArray) [(Zb.mk x12 x13 x14 x15),x25.1]) | .inr (x20,x21,x22)=>( some (x12,x13,x14,x15,x20,x21,x22)) else some (x12,x13,x14,x15,x9,x10,x11)
def Yx (rec_i_parser_sum:Zd->Option (Zb×Zd)) (x29:Zb×Zd):Nat->(List Zg)->Int->Int->Int->Option (((List Zg)×Int×Int) ⊕ (Zb×Zd)) | 0,_,_,_,_=>none | n_+1,x33,x34,x35,x36=> if (decide (x36<([4,5].length:Int))) then (at? [4,5] x36).bind fun x37=> (KU x37).bind fun x38=> (Zf (Zd.mk x33 x34 x35) x38).bind fun x39=> if x39.1 then (rec_i_parser_sum x39.2).bind fun x40=> some (.inr ((Zb.mk 6 x37 (⟨#[]⟩:ByteArray) [x29.1,x40.1]),x40.2)) else Yx rec_i_parser_sum x29 n_ x39.2.list x39.2.at_ x39.2.bad (IntKind.i64.wrap (x36+1)) else some (.inl (x33,x34,x35))
mutual
def Yq:Nat->Zd->ByteArray->Option ((List Zb)×Zd) | 0,_,_=>none | k+1,a0,a1=> (Zf a0 a1).bind fun x1=> if x1.1 then some (([]:List Zb),x1.2) else (YF (Zj k) a1 k x1.2.list x1.2.at_ x1.2.bad ([]:List Zb)).bind fun (x2,x3,x4,x5)=> some (x2,(Zd.mk x3 x4 x5))
def Zt:Nat->Zd->Option (Zb×Zd) | 0,_=>none | k+1,a0=> (Zw a0).bind fun x1=> if (decide (x1.1.kind=2)) then some ((Zb.mk 1 x1.1.n (⟨#[]⟩:ByteArray) []),(Zd.mk x1.2.list (IntKind.i64.wrap (x1.2.at_+1)) x1.2.bad)) else if (decide (x1.1.kind=3)) then some ((Zb.mk 2 0 x1.1.text []),(Zd.mk x1.2.list (IntKind.i64.wrap (x1.2.at_+1)) x1.2.bad)) else (if (decide (x1.1.kind=1)) then (ZS k x1.1.text).bind fun x3=> some x3 else some false).bind fun x2=> if x2 then some ((Zb.mk 3 0 x1.1.text []),(Zd.mk x1.2.list (IntKind.i64.wrap (x1.2.at_+1)) x1.2.bad)) else (if (decide (x1.1.kind=1)) then (ZG x1.1.text).bind fun x5=> some (decide (0<=x5)) else some false).bind fun x4=> if x4 then (Zn (Zd.mk x1.2.list (IntKind.i64.wrap (x1.2.at_+1)) x1.2.bad) (⟨#[40]⟩:ByteArray)).bind fun x6=> (Yq k x6 (⟨#[41]⟩:ByteArray)).bind fun x7=> some ((Zb.mk 5 0 x1.1.text x7.1),x7.2) else (Zf x1.2 (⟨#[91]⟩:ByteArray)).bind fun x8=> if x8.1 then (Yq k x8.2 (⟨#[93]⟩:ByteArray)).bind fun x9=> some ((Zb.mk 4 0 (⟨#[]⟩:ByteArray) x9.1),x9.2) else (Zf x8.2 (⟨#[40]⟩:ByteArray)).bind fun x10=> if x10.1 then (Zj k x10.2).bind fun x11=> (Zn x11.2 (⟨#[41]⟩:ByteArray)).bind fun x12=> some (x11.1,x12) else (Ye x10.2).bind fun x13=> some (x13.1,x13.2)
def Zp:Nat->Zd->Option (Zb×Zd) | 0,_=>none | k+1,a0=> (Zt k a0).bind fun x1=> (Yj (Zt k) k x1.2.list x1.2.at_ x1.2.bad x1.1.kind x1.1.n x1.1.text x1.1.args).bind fun (x2,x3,x4,x5,x6,x7,x8)=> some ((Zb.mk x2 x3 x4 x5),(Zd.mk x6 x7 x8))
def Z1:Nat->Zd->Option (Zb×Zd) | 0,_=>none | k+1,a0=> (Zp k a0).bind fun x1=> (Qm (Zp k) k x1.2.list x1.2.at_ x1.2.bad x1.1.kind x1.1.n x1.1.text x1.1.args).bind fun (x2,x3,x4,x5,x6,x7,x8)=> some ((Zb.mk x2 x3 x4 x5),(Zd.mk x6 x7 x8))
def Zj:Nat->Zd->Option (Zb×Zd) | 0,_=>none | k+1,a0=> (Zw a0).bind fun x1=> (Yk x1.1 (⟨#[108,101,116]⟩:ByteArray)).bind fun x2=> if x2 then (Yd k (Zd.mk x1.2.list (IntKind.i64.wrap (x1.2.at_+1)) x1.2.bad)).bind fun x3=> (Zn x3.2 (⟨#[61]⟩:ByteArray)).bind fun x4=> (Zj k x4).bind fun x5=> (YH 56 ([]:List Zb) [x5.1]).bind fun x6=> (Zn x5.2 (⟨#[105,110]⟩:ByteArray)).bind fun x7=> (Zj k x7).bind fun x8=> (YH 56 x6 [x8.1]).bind fun x9=> some ((Zb.mk 7 0 x3.1 x9),x8.2) else (Zw x1.2).bind fun x10=> (Yk x10.1 (⟨#[105,102]⟩:ByteArray)).bind fun x11=> if x11 then (Zj k (Zd.mk x10.2.list (IntKind.i64.wrap (x10.2.at_+1)) x10.2.bad)).bind fun x12=> (YH 56 ([]:List Zb) [x12.1]).bind fun x13=> (Zn x12.2 (⟨#[116,104,101,110]⟩:ByteArray)).bind fun x14=> (Zj k x14).bind fun x15=> (YH 56 x13 [x15.1]).bind fun x16=> (Zn x15.2 (⟨#[101,108,115,101]⟩:ByteArray)).bind fun x17=> (Zj k x17).bind fun x18=> (YH 56 x16 [x18.1]).bind fun x19=> some ((Zb.mk 8 0 (⟨#[]⟩:ByteArray) x19),x18.2) else (Zw x10.2).bind fun x20=> (Yk x20.1 (⟨#[102,111,114]⟩:ByteArray)).bind fun x21=> if x21 then (Yd k (Zd.mk x20.2.list (IntKind.i64.wrap (x20.2.at_+1)) x20.2.bad)).bind fun x22=> (Zn x22.2 (⟨#[105,110]⟩:ByteArray)).bind fun x23=> (Zj k x23).bind fun x24=> (YH 56 ([]:List Zb) [x24.1]).bind fun x25=> (Zn x24.2 (⟨#[100,111]⟩:ByteArray)).bind fun x26=> (Zj k x26).bind fun x27=> (YH 56 x25 [x27.1]).bind fun x28=> some ((Zb.mk 9 0 x22.1 x28),x27.2) else (Z1 k x20.2).bind fun x29=> (Yx (Z1 k) x29 k x29.2.list x29.2.at_ x29.2.bad 0:Option (((List Zg)×Int×Int) ⊕ (Zb×Zd))).bind fun | .inl (x30,x31,x32)=>( some (x29.1,(Zd.mk x30 x31 x32))) | .inr z41=>( some z41)
end
def QU (rec_i_NodeCount:Zb->Option Int) (a0:Zb):Nat->Int->Int->Option Int | 0,_,_=>none | n_+1,x2,x3=> if (decide (x3<(a0.args.length:Int))) then (at? a0.args x3).bind fun x4=> (rec_i_NodeCount x4).bind fun x5=> QU rec_i_NodeCount a0 n_ (IntKind.i64.wrap (x2+x5)) (IntKind.i64.wrap (x3+1)) else some x2
def Xv:Nat->Zb->Option Int | 0,_=>none | k+1,a0=> (QU (Xv k) a0 k 1 0).bind fun x1=> some x1
def QV (rec_i_NestingOf:Zb->Option Int) (a0:Zb):Nat->Int->Int->Option Int | 0,_,_=>none | n_+1,x2,x3=> if (decide (x3<(a0.args.length:Int))) then (at? a0.args x3).bind fun x4=> (rec_i_NestingOf x4).bind fun x5=> QV rec_i_NestingOf a0 n_ (if x5>x2 then x5 else x2) (IntKind.i64.wrap (x3+1)) else some x2
def QW:Nat->Zb->Option Int | 0,_=>none | k+1,a0=> (QV (QW k) a0 k 0 0).bind fun x1=> some (IntKind.i64.wrap (x1+1))
def ZaB (k:Nat) (a0:Zb):Option Bool:= if (decide (a0.kind=1)) then ((XZ a0.n 0 1000000000).bind fun x2=> if x2 then if (decide (a0.text=(⟨#[]⟩:ByteArray))) then some (decide ((a0.args.length:Int)=0)) else some false else some false).bind fun x1=> some x1 else if (decide (a0.kind=2)) then (if (decide (a0.n=0)) then (Xw k a0.text).bind fun x4=> if x4 then some (decide ((a0.args.length:Int)=0)) else some false else some false).bind fun x3=> some x3 else if (decide (a0.kind=3)) then (if (decide (a0.n=0)) then (ZS k a0.text).bind fun x6=> if x6 then some (decide ((a0.args.length:Int)=0)) else some false else some false).bind fun x5=> some x5 else if (decide (a0.kind=4)) then (if (decide (a0.n=0)) then if (decide (a0.text=(⟨#[]⟩:ByteArray))) then some (decide ((a0.args.length:Int)<=8)) else some false else some false).bind fun x7=> some x7 else if (decide (a0.kind=5)) then (if (decide (a0.n=0)) then (ZG a0.text).bind fun x9=> some (decide ((a0.args.length:Int)=x9)) else some false).bind fun x8=> some x8 else if (decide (a0.kind=6)) then ((XZ a0.n 1 5).bind fun x11=> if x11 then if (decide (a0.text=(⟨#[]⟩:ByteArray))) then some (decide ((a0.args.length:Int)=2)) else some false else some false).bind fun x10=> some x10 else (if (decide (a0.kind=7)) then some true else some (decide (a0.kind=9))).bind fun x12=> if x12 then (if (decide (a0.n=0)) then (ZS k a0.text).bind fun x14=> if x14 then some (decide ((a0.args.length:Int)=2)) else some false else some false).bind fun x13=> some x13 else if (decide (a0.kind=8)) then (if (decide (a0.n=0)) then if (decide (a0.text=(⟨#[]⟩:ByteArray))) then some (decide ((a0.args.length:Int)=3)) else some false else some false).bind fun x15=> some x15 else some false
def WA (rec_i_areNodes:Zb->Option Bool) (a0:Zb):Nat->Int->Option (Unit ⊕ Bool) | 0,_=>none | n_+1,x1=> if (decide (x1<(a0.args.length:Int))) then (at? a0.args x1).bind fun x2=> (rec_i_areNodes x2).bind fun x3=> if (!x3) then some (.inr false) else WA rec_i_areNodes a0 n_ (IntKind.i64.wrap (x1+1)) else some (.inl ())
def Qw:Nat->Zb->Option Bool | 0,_=>none | k+1,a0=> (WA (Qw k) a0 k 0:Option (Unit ⊕ Bool)).bind fun | .inl _=>( (ZaB k a0).bind fun x4=> some x4) | .inr z5=>( some z5)
def WC (k:Nat) (a0:Zb):Option Bool:= ((Xv k a0).bind fun x2=> if (decide (x2<=40)) then (QW k a0).bind fun x3=> if (decide (x3<=8)) then (Qw k a0).bind fun x4=> some x4 else some false else some false).bind fun x1=> some x1
def Wi (k:Nat) (a0:ByteArray):Option (Zb×Int):= (Ue k a0).bind fun x1=> if (decide (0<=x1.2)) then some ((Zb.mk 0 0 (⟨#[]⟩:ByteArray) []),x1.2) else (Zj k (Zd.mk x1.1 0 (-1))).bind fun x2=> ((if (decide (x2.2.bad<0)) then some (decide (x2.2.at_<(x1.1.length:Int))) else some false).bind fun x4=> if x4 then some x2.2.at_ else some x2.2.bad).bind fun x3=> if (decide ((x1.1.length:Int)<=x3)) then some ((Zb.mk 0 0 (⟨#[]⟩:ByteArray) []),(a0.size:Int)) else if (decide (0<=x3)) then (at? x1.1 x3).bind fun x5=> some ((Zb.mk 0 0 (⟨#[]⟩:ByteArray) []),x5.at_) else (WC k x2.1).bind fun x6=> if (!x6) then some ((Zb.mk 0 0 (⟨#[]⟩:ByteArray) []),0) else some (x2.1,(-1))
def QL (a0:Int):Option Za:= some (Za.mk 6 a0 0 (⟨#[]⟩:ByteArray) [] [] [])
def W0 (a0:ByteArray) (a1:Int):Option (List ByteArray):= (YL a0 (Zne [a1])).bind fun x1=> some x1
def Yy (x1:List ByteArray):Nat->(List Int)->Int->Option ((List Int) ⊕ ((List Int)×Bool)) | 0,_,_=>none | n_+1,x3,x4=> if (decide (x4<(x1.length:Int))) then (at? x1 x4).bind fun x5=> (Zb2 x5 (-1000000000) 1000000000).bind fun x6=> if (!x6.2) then some (.inr ([],false)) else (YH 8 x3 [x6.1]).bind fun x7=> Yy x1 n_ x7 (IntKind.i64.wrap (x4+1)) else some (.inl x3)
def Uz (k:Nat) (a0:ByteArray) (a1:Int):Option ((List Int)×Bool):= (W0 a0 32).bind fun x1=> (Yy x1 k ([]:List Int) 0:Option ((List Int) ⊕ ((List Int)×Bool))).bind fun | .inl x2=>( some (x2,(decide ((x2.length:Int)=a1)))) | .inr z8=>( some z8)
def XS (a0:Int):Option Bool:= (XZ a0 (-1000000000) 1000000000).bind fun x1=> some x1
def Xm (a0:List ByteArray) (a1:ByteArray):Nat->Int->Option (Unit ⊕ Int) | 0,_=>none | n_+1,x1=> if (decide (x1<(a0.length:Int))) then (at? a0 x1).bind fun x2=> if (decide (x2=a1)) then some (.inr x1) else Xm a0 a1 n_ (IntKind.i64.wrap (x1+1)) else some (.inl ())
def Jy (k:Nat) (a0:List ByteArray) (a1:ByteArray):Option Int:= (Xm a0 a1 k 0:Option (Unit ⊕ Int)).bind fun | .inl _=>( some (-1)) | .inr z3=>( some z3)
def YB (k:Nat) (a0:List ByteArray):Nat->Int->Option (Unit ⊕ Bool) | 0,_=>none | n_+1,x1=> if (decide (x1<(a0.length:Int))) then (at? a0 x1).bind fun x2=> (Jy k a0 x2).bind fun x3=> if (!decide (x3=x1)) then some (.inr false) else YB k a0 n_ (IntKind.i64.wrap (x1+1)) else some (.inl ())
def VF (k:Nat) (a0:List ByteArray):Option Bool:= (YB k a0 k 0:Option (Unit ⊕ Bool)).bind fun | .inl _=>( some true) | .inr z4=>( some z4)
def Xb (k:Nat) (a0:List ByteArray):Nat->Int->Option (Unit ⊕ Bool) | 0,_=>none | n_+1,x1=> if (decide (x1<(a0.length:Int))) then (at? a0 x1).bind fun x2=> (ZS k x2).bind fun x3=> if (!x3) then some (.inr false) else Xb k a0 n_ (IntKind.i64.wrap (x1+1)) else some (.inl ())
def Vl (k:Nat) (a0:List ByteArray):Option Bool:= (Xb k a0 k 0:Option (Unit ⊕ Bool)).bind fun | .inl _=>( ((XZ (a0.length:Int) 1 4).bind fun x5=> if x5 then (VF k a0).bind fun x6=> some x6 else some false).bind fun x4=> some x4) | .inr z7=>( some z7)
def QT (a0:Zl) (a1:Zl):Option Bool:= (if (decide (a0.cell<a1.cell)) then some true else if (decide (a0.cell=a1.cell)) then some (decide (a0.row<a1.row)) else some false).bind fun x1=> some x1
def Wh (x4:ZM):Nat->Int->Option (Unit ⊕ Bool) | 0,_=>none | n_+1,x5=> if (decide (x5<(x4.cells.length:Int))) then (at? x4.cells x5).bind fun x6=> (XS x6).bind fun x7=> if (!x7) then some (.inr false) else Wh x4 n_ (IntKind.i64.wrap (x5+1)) else some (.inl ())
def Wg (x4:ZM):Nat->Int->Option (Unit ⊕ Bool) | 0,_=>none | n_+1,x8=> if (decide (x8<(x4.from_.length:Int))) then (at? x4.from_ x8).bind fun x9=> (if (decide (x9.cell<0)) then some true else if (decide (x9.row<0)) then some true else if (decide (0<x8)) then (at? x4.from_ (IntKind.i64.wrap (x8-1))).bind fun x11=> (QT x11 x9).bind fun x12=> some (!x12) else some false).bind fun x10=> if x10 then some (.inr false) else Wg x4 n_ (IntKind.i64.wrap (x8+1)) else some (.inl ())
def QJ (k:Nat) (a0:Za):Nat->Int->Option (Unit ⊕ Bool) | 0,_=>none | n_+1,x3=> if (decide (x3<(a0.rows.length:Int))) then ((at? a0.rows x3).bind fun x4=> if (!decide ((x4.cells.length:Int)=(a0.columns.length:Int))) then some (.inr false) else (Wh x4 k 0:Option (Unit ⊕ Bool)).bind fun | .inl _=>( Wg x4 k 0) | .inr z13=>( some (.inr z13)):Option (Unit ⊕ Bool)).bind fun | .inl _=>( QJ k a0 n_ (IntKind.i64.wrap (x3+1))) | .inr z14=>( some (.inr z14)) else some (.inl ())
def Zb3 (k:Nat) (a0:Za):Option Bool:= ((Vl k a0.columns).bind fun x2=> if (!x2) then some true else some (decide (12<(a0.rows.length:Int)))).bind fun x1=> if x1 then some false else (QJ k a0 k 0:Option (Unit ⊕ Bool)).bind fun | .inl _=>( some true) | .inr z15=>( some z15)
def Vm (rec_i_DepthOf:Za->Option Int) (a0:Za):Nat->Int->Int->Option Int | 0,_,_=>none | n_+1,x2,x3=> if (decide (x3<(a0.list.length:Int))) then (at? a0.list x3).bind fun x4=> (rec_i_DepthOf x4).bind fun x5=> Vm rec_i_DepthOf a0 n_ (if x5>x2 then x5 else x2) (IntKind.i64.wrap (x3+1)) else some x2
def XF:Nat->Za->Option Int | 0,_=>none | k+1,a0=> (Vm (XF k) a0 k 0 0).bind fun x1=> some (IntKind.i64.wrap (x1+1))
def Qf (rec_i_IsValidValue:Za->Option Bool) (a0:Za):Nat->Int->Option (Unit ⊕ Bool) | 0,_=>none | n_+1,x13=> if (decide (x13<(a0.list.length:Int))) then (at? a0.list x13).bind fun x14=> (if (!decide (x14.kind=1)) then if (!decide (x14.kind=2)) then if (!decide (x14.kind=3)) then some true else (rec_i_IsValidValue x14).bind fun x16=> some (!x16) else (rec_i_IsValidValue x14).bind fun x17=> some (!x17) else (rec_i_IsValidValue x14).bind fun x18=> some (!x18)).bind fun x15=> if x15 then some (.inr false) else Qf rec_i_IsValidValue a0 n_ (IntKind.i64.wrap (x13+1)) else some (.inl ())
def ZA:Nat->Za->Option Bool | 0,_=>none | k+1,a0=> (if (decide ((a0.list.length:Int)=0)) then if (decide ((a0.columns.length:Int)=0)) then some (decide ((a0.rows.length:Int)=0)) else some false else some false).bind fun x1=> if (decide (a0.kind=1)) then (if x1 then if (decide (a0.step=0)) then if (decide (a0.text=(⟨#[]⟩:ByteArray))) then (XS a0.n).bind fun x3=> some x3 else some false else some false else some false).bind fun x2=> some x2 else if (decide (a0.kind=2)) then (if x1 then if (decide (a0.n=0)) then if (decide (a0.step=0)) then (Xw k a0.text).bind fun x5=> some x5 else some false else some false else some false).bind fun x4=> some x4 else if (decide (a0.kind=4)) then (if x1 then if (decide (a0.text=(⟨#[]⟩:ByteArray))) then (XS a0.n).bind fun x7=> if x7 then (XS a0.step).bind fun x8=> some x8 else some false else some false else some false).bind fun x6=> some x6 else if (decide (a0.kind=6)) then (if x1 then if (decide (a0.step=0)) then if (decide (a0.text=(⟨#[]⟩:ByteArray))) then (XZ a0.n 1 8).bind fun x10=> some x10 else some false else some false else some false).bind fun x9=> some x9 else if (decide (a0.kind=5)) then (if (decide (a0.n=0)) then if (decide (a0.step=0)) then if (decide (a0.text=(⟨#[]⟩:ByteArray))) then if (decide ((a0.list.length:Int)=0)) then (Zb3 k a0).bind fun x12=> some x12 else some false else some false else some false else some false).bind fun x11=> some x11 else if (decide (a0.kind=3)) then (Qf (ZA k) a0 k 0:Option (Unit ⊕ Bool)).bind fun | .inl _=>( (if (decide (a0.n=0)) then if (decide (a0.step=0)) then if (decide (a0.text=(⟨#[]⟩:ByteArray))) then if (decide ((a0.columns.length:Int)=0)) then if (decide ((a0.rows.length:Int)=0)) then if (decide ((a0.list.length:Int)<=8)) then (XF k a0).bind fun x20=> some (decide (x20<=3)) else some false else some false else some false else some false else some false else some false).bind fun x19=> some x19) | .inr z21=>( some z21) else some false
def Qc (k:Nat) (x1:List ByteArray) (x3:List ByteArray):Nat->(List ZM)->Int->Option ((List ZM) ⊕ (Za×Bool)) | 0,_,_=>none | n_+1,x6,x7=> if (decide (x7<(((x1.take (x1.length:Int).toNat).drop (1:Int).toNat).length:Int))) then (at? ((x1.take (x1.length:Int).toNat).drop (1:Int).toNat) x7).bind fun x8=> (Uz k x8 (x3.length:Int)).bind fun x9=> if (!x9.2) then some (.inr ((Za.mk 0 0 0 (⟨#[]⟩:ByteArray) [] [] []),false)) else (YH 48 x6 [(ZM.mk x9.1 [])]).bind fun x10=> Qc k x1 x3 n_ x10 (IntKind.i64.wrap (x7+1)) else some (.inl x6)
def Wj (k:Nat) (a0:ByteArray):Option (Za×Bool):= (YL a0 (⟨#[59,32]⟩:ByteArray)).bind fun x1=> (at? x1 0).bind fun x2=> (W0 x2 32).bind fun x3=> ((ZiE x1 1 (x1.length:Int)).bind fun x5=> Qc k x1 x3 k [] 0:Option ((List ZM) ⊕ (Za×Bool))).bind fun | .inl x4=>( (ZA k (Za.mk 5 0 0 (⟨#[]⟩:ByteArray) [] x3 x4)).bind fun x11=> if (!x11) then some ((Za.mk 0 0 0 (⟨#[]⟩:ByteArray) [] [] []),false) else some ((Za.mk 5 0 0 (⟨#[]⟩:ByteArray) [] x3 x4),true)) | .inr z12=>( some z12)
def Qd (k:Nat) (x2:List ByteArray) (x4:List ByteArray):Nat->Int->Option (Unit ⊕ Int) | 0,_=>none | n_+1,x7=> if (decide (x7<(((x2.take (x2.length:Int).toNat).drop (1:Int).toNat).length:Int))) then (at? ((x2.take (x2.length:Int).toNat).drop (1:Int).toNat) x7).bind fun x8=> (Uz k x8 (x4.length:Int)).bind fun x9=> (if (!x9.2) then some true else some (decide (12<=x7))).bind fun x10=> if x10 then some (.inr (IntKind.i64.wrap (x7+1))) else Qd k x2 x4 n_ (IntKind.i64.wrap (x7+1)) else some (.inl ())
def Jz (k:Nat) (a0:ByteArray):Option Int:= (Wj k a0).bind fun x1=> if x1.2 then some (-1) else (YL a0 (⟨#[59,32]⟩:ByteArray)).bind fun x2=> (at? x2 0).bind fun x3=> (W0 x3 32).bind fun x4=> (Vl k x4).bind fun x5=> if (!x5) then some 0 else ((ZiE x2 1 (x2.length:Int)).bind fun x6=> Qd k x2 x4 k 0:Option (Unit ⊕ Int)).bind fun | .inl _=>( some (-1)) | .inr z11=>( some z11)
def KS (a0:ZM):Option ZM:= (YH 8 ([]:List Int) a0.cells).bind fun x1=> (YH 16 ([]:List Zl) a0.from_).bind fun x2=> some (ZM.mk x1 x2)
def Xa (rec_i_copyValue:Za->Option Za) (a0:List Za):Nat->(List Za)->Int->Option (List Za) | 0,_,_=>none | n_+1,x2,x3=> if (decide (x3<(a0.length:Int))) then (at? a0 x3).bind fun x4=> (rec_i_copyValue x4).bind fun x5=> (YH 112 x2 [x5]).bind fun x6=> Xa rec_i_copyValue a0 n_ x6 (IntKind.i64.wrap (x3+1)) else some x2
def XT (a0:Za):Nat->(List ZM)->Int->Option (List ZM) | 0,_,_=>none | n_+1,x4,x5=> if (decide (x5<(a0.rows.length:Int))) then (at? a0.rows x5).bind fun x6=> (KS x6).bind fun x7=> (YH 48 x4 [x7]).bind fun x8=> XT a0 n_ x8 (IntKind.i64.wrap (x5+1)) else some x4
mutual
def UA:Nat->(List Za)->Option (List Za) | 0,_=>none | k+1,a0=> (Xa (YG k) a0 k ([]:List Za) 0).bind fun x1=> some x1
def YG:Nat->Za->Option Za | 0,_=>none | k+1,a0=> (UA k a0.list).bind fun x1=> (YH 16 ([]:List ByteArray) a0.columns).bind fun x2=> (XT a0 k [] 0).bind fun x3=> some (Za.mk a0.kind a0.n a0.step a0.text x1 x2 x3)
end
def YS (a0:Int) (x4:Za):Nat->(List ZM)->Int->Option (List ZM) | 0,_,_=>none | n_+1,x6,x7=> if (decide (x7<(x4.rows.length:Int))) then (at? x6 x7).bind fun x8=> YS a0 x4 n_ (x6.set x7.toNat (ZM.mk x8.cells [(Zl.mk a0 x7)])) (IntKind.i64.wrap (x7+1)) else some x6
def VC (k:Nat) (a0:Int) (a1:Za):Option Za:= (if (!decide (a1.kind=5)) then some true else (ZA k a1).bind fun x2=> if (!x2) then some true else some (decide (a0<0))).bind fun x1=> if x1 then (QL 4).bind fun x3=> some x3 else (YG k a1).bind fun x4=> (YS a0 x4 k x4.rows 0).bind fun x5=> some (Za.mk x4.kind x4.n x4.step x4.text x4.list x4.columns x5)
def Yf (k:Nat) (a0:Zs):Option Zi:= (Y1 k a0).bind fun x1=> if (!x1) then some (Zi.mk 0 (⟨#[]⟩:ByteArray) (Zb.mk 0 0 (⟨#[]⟩:ByteArray) []) (Za.mk 0 0 0 (⟨#[]⟩:ByteArray) [] [] []) 0) else if (decide (a0.kind=1)) then some (Zi.mk 1 (⟨#[]⟩:ByteArray) (Zb.mk 0 0 (⟨#[]⟩:ByteArray) []) (Za.mk 0 0 0 (⟨#[]⟩:ByteArray) [] [] []) 0) else if (decide (a0.kind=3)) then (ZaE a0.n).bind fun x2=> some (Zi.mk 3 a0.name (Zb.mk 0 0 (⟨#[]⟩:ByteArray) []) x2 0) else if (decide (a0.kind=2)) then (Wi k a0.code).bind fun x3=> if (decide (0<=x3.2)) then (QL 8).bind fun x4=> some (Zi.mk 4 a0.name (Zb.mk 0 0 (⟨#[]⟩:ByteArray) []) x4 x3.2) else some (Zi.mk 2 a0.name x3.1 (Za.mk 0 0 0 (⟨#[]⟩:ByteArray) [] [] []) 0) else (Wj k a0.code).bind fun x5=> if (!x5.2) then (QL 8).bind fun x6=> (Jz k a0.code).bind fun x7=> some (Zi.mk 4 a0.name (Zb.mk 0 0 (⟨#[]⟩:ByteArray) []) x6 x7) else (VC k a0.id x5.1).bind fun x8=> some (Zi.mk 3 a0.name (Zb.mk 0 0 (⟨#[]⟩:ByteArray) []) x8 0)
def Xf (k:Nat) (a0:Zh):Nat->(List Zi)->Int->Option (List Zi) | 0,_,_=>none | n_+1,x3,x4=> if (decide (x4<(a0.cells.length:Int))) then (at? a0.cells x4).bind fun x5=> (Yf k x5).bind fun x6=> (YH 200 x3 [x6]).bind fun x7=> Xf k a0 n_ x7 (IntKind.i64.wrap (x4+1)) else some x3
def Vo (k:Nat) (a0:Zh):Option (List Zi):= (Xc k a0).bind fun x1=> if (!x1) then some [] else (Xf k a0 k ([]:List Zi) 0).bind fun x2=> some x2
def Wf (k:Nat) (a0:Ze):Option (Ze×(List Zi)×(List (Int×Bool))):= (Vo k a0.notebook).bind fun x1=> some (a0,x1,([]:List (Int×Bool)))
def Xd (a0:Ze) (a1:Int):Nat->Int->Option (Unit ⊕ Int) | 0,_=>none | n_+1,x1=> if (decide (x1<(a0.entries.length:Int))) then (at? a0.entries x1).bind fun x2=> if (decide (x2.cell=a1)) then some (.inr x1) else Xd a0 a1 n_ (IntKind.i64.wrap (x1+1)) else some (.inl ())
def Yz (k:Nat) (a0:Ze) (a1:Int):Option Int:= (Xd a0 a1 k 0:Option (Unit ⊕ Int)).bind fun | .inl _=>( some (-1)) | .inr z3=>( some z3)
def WE (a0:List Zi) (a1:ByteArray):Nat->(List Int)->Int->Option (List Int) | 0,_,_=>none | n_+1,x2,x3=> if (decide (x3<(a0.length:Int))) then ((at? a0 x3).bind fun x5=> (if (!decide (x5.kind=1)) then some (decide (x5.name=a1)) else some false).bind fun x6=> if x6 then (YH 8 x2 [x3]).bind fun x7=> some x7 else some x2).bind fun x4=> WE a0 a1 n_ x4 (IntKind.i64.wrap (x3+1)) else some x2
def Vn (k:Nat) (a0:List Zi) (a1:ByteArray):Option (List Int):= (WE a0 a1 k ([]:List Int) 0).bind fun x1=> some x1
def YJ (k:Nat) (a0:List Zi) (a1:Int):Option Bool:= (if (decide (0<=a1)) then if (decide (a1<(a0.length:Int))) then (at? a0 a1).bind fun x2=> if (!decide (x2.kind=1)) then (Vn k a0 x2.name).bind fun x3=> some (decide (1<(x3.length:Int))) else some false else some false else some false).bind fun x1=> some x1
def Uc (a0:List Int) (a1:Int):Nat->Int->Option (Unit ⊕ Bool) | 0,_=>none | n_+1,x1=> if (decide (x1<(a0.length:Int))) then (at? a0 x1).bind fun x2=> if (decide (x2=a1)) then some (.inr true) else Uc a0 a1 n_ (IntKind.i64.wrap (x1+1)) else some (.inl ())
def VB (k:Nat) (a0:List Int) (a1:Int):Option Bool:= (Uc a0 a1 k 0:Option (Unit ⊕ Bool)).bind fun | .inl _=>( some false) | .inr z3=>( some z3)
def V9 (a0:List Int):Nat->(List (Int×Bool))->(List Int)->Int->Option (List Int) | 0,_,_,_=>none | n_+1,x2,x3,x4=> if (decide (x4<(a0.length:Int))) then ((at? a0 x4).bind fun x7=> if (!((Ze8 x2 x7).getD false)) then (YH 8 x3 [x7]).bind fun x8=> some ((Zg9 x2 x7 true),x8) else some (x2,x3)).bind fun (x5,x6)=> V9 a0 n_ x5 x6 (IntKind.i64.wrap (x4+1)) else some x3
def ZcL (k:Nat) (a0:List Int):Option (List Int):= (V9 a0 k ([]:List (Int×Bool)) ([]:List Int) 0).bind fun x1=> (WT x1).bind fun x9=> some x9
def Wz (k:Nat) (step:Int->Option (List Int)):Nat->List Int->List Int->Nat->Option (List Int) | 0,_,_,_=>none | n_+1,out,todo,t=> if (decide (0<(todo.length:Int))) then (at? todo 0).bind fun x=> (VB k out x).bind fun b=> if (!b) then (YH 8 out [x]).bind fun o=> (step x).bind fun ys=> if t+ys.length<=17592186044416 then Wz k step n_ o (todo.drop 1++ys) (t+ys.length) else none else Wz k step n_ out (todo.drop 1) t else some out
def ZfZ (k:Nat) (step:Int->Option (List Int)) (a0:Int):Option (List Int):= (step a0).bind fun x1=> (if x1.length<=17592186044416 then Wz k step k [] x1 x1.length else none).bind fun x2=> (ZcL k x2).bind fun x3=> some x3
def UT (a0:ByteArray) (a1:List ByteArray) (a20:List ByteArray):Option (List ByteArray):= (YH 16 a20 [a0]).bind fun x1=> some x1
def Z4 (rec_i_walker_visit:Zb->(List ByteArray)->(List ByteArray)->Option (List ByteArray)) (a1:Zb) (a2:List ByteArray) (x4:Bool):Nat->(List ByteArray)->Int->Option (List ByteArray) | 0,_,_=>none | n_+1,x5,x6=> if (decide (x6<(a1.args.length:Int))) then (at? a1.args x6).bind fun x7=> ((if x4 then some (decide (0<x6)) else some false).bind fun x9=> if x9 then (YH 16 ([]:List ByteArray) a2).bind fun x10=> (YH 16 x10 [a1.text]).bind fun x11=> some x11 else some a2).bind fun x8=> (rec_i_walker_visit x7 x8 x5).bind fun x12=> Z4 rec_i_walker_visit a1 a2 x4 n_ x12 (IntKind.i64.wrap (x6+1)) else some x5
def ZV:Nat->Zb->(List ByteArray)->(List ByteArray)->Option (List ByteArray) | 0,_,_,_=>none | k+1,a1,a2,a20=> ((if (decide (a1.kind=3)) then (Jy k a2 a1.text).bind fun x2=> some (decide (x2<0)) else some false).bind fun x1=> if x1 then (UT a1.text a2 a20).bind fun x3=> some (.inr x3) else some (.inl ()):Option (Unit ⊕ (List ByteArray))).bind fun | .inl _=>( (if (decide (a1.kind=7)) then some true else some (decide (a1.kind=9))).bind fun x4=> ((if x4 then some () else some ()).bind fun _=> some ()).bind fun _=> Z4 (ZV k) a1 a2 x4 k a20 0) | .inr z13=>( some z13)
def XU (k:Nat) (a0:List ByteArray):Nat->(List ByteArray)->Int->Option (List ByteArray) | 0,_,_=>none | n_+1,x2,x3=> if (decide (x3<(a0.length:Int))) then ((at? a0 x3).bind fun x5=> (Jy k a0 x5).bind fun x6=> if (decide (x6=x3)) then (YH 16 x2 [x5]).bind fun x7=> some x7 else some x2).bind fun x4=> XU k a0 n_ x4 (IntKind.i64.wrap (x3+1)) else some x2
def Uf (k:Nat) (a0:List ByteArray):Option (List ByteArray):= (XU k a0 k ([]:List ByteArray) 0).bind fun x1=> (QN x1).bind fun x8=> some x8
def ZaF (k:Nat) (a0:Zb):Option (List ByteArray):= (ZV k a0 [] ([]:List ByteArray)).bind fun x1=> (Uf k x1).bind fun x2=> some x2
def WB (k:Nat) (a0:Zi):Option (List ByteArray):= if (!decide (a0.kind=2)) then some [] else (ZaF k a0.expr).bind fun x1=> some x1
def XC (k:Nat) (a0:List Zi) (a1:ByteArray):Option Int:= (Vn k a0 a1).bind fun x1=> if (decide ((x1.length:Int)=0)) then some (-1) else if (decide ((x1.length:Int)=1)) then (at? x1 0).bind fun x2=> some x2 else some (-2)
def Xe (k:Nat) (a0:List Zi) (x4:List ByteArray):Nat->(List Int)->Int->Option (List Int) | 0,_,_=>none | n_+1,x5,x6=> if (decide (x6<(x4.length:Int))) then ((at? x4 x6).bind fun x8=> (XC k a0 x8).bind fun x9=> if (decide (0<=x9)) then (YH 8 x5 [x9]).bind fun x10=> some x10 else some x5).bind fun x7=> Xe k a0 x4 n_ x7 (IntKind.i64.wrap (x6+1)) else some x5
def YA (k:Nat) (a0:List Zi) (a1:Int):Option (List Int):= (if (decide (a1<0)) then some true else some (decide ((a0.length:Int)<=a1))).bind fun x1=> if x1 then some [] else ((at? a0 a1).bind fun x3=> (WB k x3).bind fun x4=> Xe k a0 x4 k ([]:List Int) 0).bind fun x2=> (ZcL k x2).bind fun x11=> some x11
def Ug (k:Nat) (a0:Int) (a20:List Zi):Option (List Int):= (YA k a20 a0).bind fun x1=> some x1
def Zci (k:Nat) (a0:List Zi) (a1:Int):Option (List Int):= ZfZ k (fun x=>Ug k x a0) a1
def VE (k:Nat) (a0:List Zi) (a1:Int):Option Bool:= (Zci k a0 a1).bind fun x1=> (VB k x1 a1).bind fun x2=> some x2
def ZI (k:Nat) (a0:List Zi) (a1:Int):Option (Za×Bool):= (if (decide (a1<0)) then some true else some (decide ((a0.length:Int)<=a1))).bind fun x1=> if x1 then some ((Za.mk 0 0 0 (⟨#[]⟩:ByteArray) [] [] []),false) else (at? a0 a1).bind fun x2=> if (decide (x2.kind=1)) then some ((Za.mk 0 0 0 (⟨#[]⟩:ByteArray) [] [] []),true) else (YJ k a0 a1).bind fun x3=> if x3 then (QL 2).bind fun x4=> some (x4,true) else if (decide (x2.kind=4)) then (QL 8).bind fun x5=> some (x5,true) else if (decide (x2.kind=3)) then (YG k x2.value).bind fun x6=> some (x6,true) else (VE k a0 a1).bind fun x7=> if x7 then (QL 3).bind fun x8=> some (x8,true) else some ((Za.mk 0 0 0 (⟨#[]⟩:ByteArray) [] [] []),false)
def Qu (a0:List ByteArray) (a1:List ByteArray):Nat->Int->Option (Unit ⊕ Bool) | 0,_=>none | n_+1,x1=> if (decide (x1<(a0.length:Int))) then (at? a0 x1).bind fun x2=> (at? a1 x1).bind fun x3=> if (!decide (x2=x3)) then some (.inr false) else Qu a0 a1 n_ (IntKind.i64.wrap (x1+1)) else some (.inl ())
def Vy (k:Nat) (a0:List ByteArray) (a1:List ByteArray):Option Bool:= if (!decide ((a0.length:Int)=(a1.length:Int))) then some false else (Qu a0 a1 k 0:Option (Unit ⊕ Bool)).bind fun | .inl _=>( some true) | .inr z4=>( some z4)
def Wy (a0:List Int) (a1:List Int):Nat->Int->Option (Unit ⊕ Bool) | 0,_=>none | n_+1,x1=> if (decide (x1<(a0.length:Int))) then (at? a0 x1).bind fun x2=> (at? a1 x1).bind fun x3=> if (!decide (x2=x3)) then some (.inr false) else Wy a0 a1 n_ (IntKind.i64.wrap (x1+1)) else some (.inl ())
def Ua (k:Nat) (a0:List Int) (a1:List Int):Option Bool:= if (!decide ((a0.length:Int)=(a1.length:Int))) then some false else (Wy a0 a1 k 0:Option (Unit ⊕ Bool)).bind fun | .inl _=>( some true) | .inr z4=>( some z4)
def Qv (a0:List Zl) (a1:List Zl):Nat->Int->Option (Unit ⊕ Bool) | 0,_=>none | n_+1,x1=> if (decide (x1<(a0.length:Int))) then (at? a0 x1).bind fun x2=> (at? a1 x1).bind fun x3=> if (!(decide (x2.cell=x3.cell)&&decide (x2.row=x3.row))) then some (.inr false) else Qv a0 a1 n_ (IntKind.i64.wrap (x1+1)) else some (.inl ())
def Vz (k:Nat) (a0:List Zl) (a1:List Zl):Option Bool:= if (!decide ((a0.length:Int)=(a1.length:Int))) then some false else (Qv a0 a1 k 0:Option (Unit ⊕ Bool)).bind fun | .inl _=>( some true) | .inr z4=>( some z4)
def U5 (rec_i_equal:Za->Za->Bool->Option Bool) (a0:Za) (a1:Za) (a2:Bool):Nat->Int->Option (Unit ⊕ Bool) | 0,_=>none | n_+1,x3=> if (decide (x3<(a0.list.length:Int))) then (at? a0.list x3).bind fun x4=> (at? a1.list x3).bind fun x5=> (rec_i_equal x4 x5 a2).bind fun x6=> if (!x6) then some (.inr false) else U5 rec_i_equal a0 a1 a2 n_ (IntKind.i64.wrap (x3+1)) else some (.inl ())
def Ud (k:Nat) (a0:Za) (a1:Za) (a2:Bool):Nat->Int->Option (Unit ⊕ Bool) | 0,_=>none | n_+1,x7=> if (decide (x7<(a0.rows.length:Int))) then ((at? a0.rows x7).bind fun x9=> (at? a1.rows x7).bind fun x10=> (Ua k x9.cells x10.cells).bind fun x11=> if (!x11) then some true else if a2 then (Vz k x9.from_ x10.from_).bind fun x12=> some (!x12) else some false).bind fun x8=> if x8 then some (.inr false) else Ud k a0 a1 a2 n_ (IntKind.i64.wrap (x7+1)) else some (.inl ())
def Jw:Nat->Za->Za->Bool->Option Bool | 0,_,_,_=>none | k+1,a0,a1,a2=> (if (!decide (a0.kind=a1.kind)) then some true else if (!decide (a0.n=a1.n)) then some true else if (!decide (a0.step=a1.step)) then some true else if (!decide (a0.text=a1.text)) then some true else (Vy k a0.columns a1.columns).bind fun x2=> if (!x2) then some true else if (!decide ((a0.list.length:Int)=(a1.list.length:Int))) then some true else some (!decide ((a0.rows.length:Int)=(a1.rows.length:Int)))).bind fun x1=> if x1 then some false else (U5 (Jw k) a0 a1 a2 k 0:Option (Unit ⊕ Bool)).bind fun | .inl _=>( (Ud k a0 a1 a2 k 0:Option (Unit ⊕ Bool)).bind fun | .inl _=>( some true) | .inr z13=>( some z13)) | .inr z14=>( some z14)
def Xn (k:Nat) (a0:Za) (a1:Za):Option Bool:= (Jw k a0 a1 true).bind fun x1=> some x1
def ZO (rec_i_states_isFresh:Int->Ze->(List Zi)->(List (Int×Bool))->Option (Bool×(List (Int×Bool)))) (k:Nat) (x5:List ByteArray) (a20:Ze) (a21:List Zi):Nat->(List (Int×Bool))->(List Int)->Int->Option (((List Int)×(List (Int×Bool))) ⊕ ((List Int)×Bool×(List (Int×Bool)))) | 0,_,_,_=>none | n_+1,x6,x7,x8=> if (decide (x8<(x5.length:Int))) then ((at? x5 x8).bind fun x11=> (XC k a21 x11).bind fun x12=> if (decide (x12<0)) then (YH 8 x7 [x12]).bind fun x13=> some (.inl (x6,x13)) else (rec_i_states_isFresh x12 a20 a21 x6).bind fun x14=> if (!x14.1) then some (.inr ([],false,x14.2)) else (at? a20.notebook.cells x12).bind fun x15=> (Yz k a20 x15.id).bind fun x16=> (at? a20.entries x16).bind fun x17=> (YH 8 x7 [x17.stamp]).bind fun x18=> some (.inl (x14.2,x18)):Option (((List (Int×Bool))×(List Int)) ⊕ ((List Int)×Bool×(List (Int×Bool))))).bind fun | .inl (x9,x10)=>( ZO rec_i_states_isFresh k x5 a20 a21 n_ x9 x10 (IntKind.i64.wrap (x8+1))) | .inr z19=>( some (.inr z19)) else some (.inl (x7,x6))
mutual
def Yr:Nat->Int->Ze->(List Zi)->(List (Int×Bool))->Option ((List Int)×Bool×(List (Int×Bool))) | 0,_,_,_,_=>none | k+1,a1,a20,a21,a22=> (ZI k a21 a1).bind fun x1=> if x1.2 then some (([]:List Int),true,a22) else ((at? a21 a1).bind fun x4=> (WB k x4).bind fun x5=> ZO (Zx k) k x5 a20 a21 k a22 ([]:List Int) 0:Option (((List Int)×(List (Int×Bool))) ⊕ ((List Int)×Bool×(List (Int×Bool))))).bind fun | .inl (x2,x3)=>( some (x2,true,x3)) | .inr z20=>( some z20)
def Y0:Nat->Int->Ze->(List Zi)->(List (Int×Bool))->Option (Bool×(List (Int×Bool))) | 0,_,_,_,_=>none | k+1,a1,a20,a21,a22=> (at? a21 a1).bind fun x1=> if (decide (x1.kind=1)) then some (true,a22) else (at? a20.notebook.cells a1).bind fun x2=> (Yz k a20 x2.id).bind fun x3=> if (decide (x3<0)) then some (false,a22) else (at? a20.entries x3).bind fun x4=> (ZI k a21 a1).bind fun x5=> if x5.2 then (if x4.has then (Xn k x4.value x5.1).bind fun x7=> some x7 else some false).bind fun x6=> some (x6,a22) else (Yr k a1 a20 a21 a22).bind fun x8=> (if x8.2.1 then if (decide (x4.version=x2.version)) then (Ua k x4.inputs x8.1).bind fun x10=> some x10 else some false else some false).bind fun x9=> some (x9,x8.2.2)
def Zx:Nat->Int->Ze->(List Zi)->(List (Int×Bool))->Option (Bool×(List (Int×Bool))) | 0,_,_,_,_=>none | k+1,a1,a20,a21,a22=> if (Ze8 a22 a1).isSome then some (((Ze8 a22 a1).getD false),a22) else (Y0 k a1 a20 a21 a22).bind fun x1=> some (x1.1,(Zg9 x1.2 a1 x1.1))
end
def K8 (k:Nat) (a0:Ze) (a1:Int):Option Bool:= (Wf k a0).bind fun x1=> (if (decide (0<=a1)) then if (decide (a1<(x1.2.1.length:Int))) then (Zx k a1 x1.1 x1.2.1 x1.2.2).bind fun x3=> some x3.1 else some false else some false).bind fun x2=> some x2
end Go.Proofs.YtpblakfidofgfaaGreatDoor
namespace Go.Proofs
open Go.Shelf
def Tryz.ZmR:Go.Shelf.Ren:=⟨fun | 137=>291| 217=>311| 266=>334| n=>n,fun | 9=>9| 5=>5| 3=>3| n=>n,fun | n=>n⟩
theorem Tryz.ZtP:Go.Proofs.Lays.n137 Tryz.prog Tryz.ZmR:={
 mixed:=by kernel_rfl
 f137:=Tryz.func291.trans (congrArg some (by kernel_rfl))
 f217:=Tryz.func311.trans (congrArg some (by kernel_rfl))
 f266:=Tryz.func334.trans (congrArg some (by kernel_rfl))
 t3:=Tryz.underlying3
 a3:=Tryz.isAgg3
 z3:=Tryz.sizeOf3
 v3:=Tryz.zeroValue3
 t5:=Tryz.underlying5
 a5:=Tryz.isAgg5
 z5:=Tryz.sizeOf5
 v5:=Tryz.zeroValue5
 t9:=Tryz.underlying9
 a9:=Tryz.isAgg9
 z9:=Tryz.sizeOf9
 v9:=Tryz.zeroValue9}
open Go.RowKit in
theorem Tryz.strings_IndexByte (s:ByteArray) (c:Int) (w:World):
  Calls Tryz.prog 291 #[.string s,.int .u8 c] w fun e w'=>e= .returned (.int .i64 (Lib.indexByte s.data.toList c.toNat.toUInt8))/\w'=w:=Any.strings_IndexByte Tryz.ZtP s c w
def Tryz.ZtN:Go.Shelf.Ren:=⟨fun | 172=>300| 244=>318| 245=>319| 247=>340| 279=>341| 280=>342| 281=>343| 282=>344| 287=>357| 316=>358| 171=>301| 205=>359| 321=>374| 322=>375| 243=>320| 246=>345| 283=>360| 284=>361| 285=>362| 286=>363| 129=>332| 317=>376| 318=>377| 319=>378| 320=>379| 337=>384| 338=>385| n=>n,fun | 9=>9| 3=>3| 75=>287| 76=>288| 4=>4| 5=>5| 167=>311| 37=>187| 0=>0| 85=>312| 2=>2| 168=>314| 53=>308| 175=>334| 46=>294| 210=>338| 127=>354| 145=>357| 143=>355| 21=>21| 171=>340| 173=>342| 212=>359| 51=>306| 20=>20| 213=>360| 232=>364| 233=>365| 80=>270| n=>n,fun | 15=>3| 16=>4| 17=>5| 18=>6| 19=>7| n=>n⟩
def Tryz.Zsv:Go.Shelf.Ren:=⟨fun | 246=>345| 283=>360| 284=>361| 285=>362| 286=>363| 129=>332| 317=>376| 318=>377| 319=>378| 320=>379| 337=>384| 338=>385| n=>n,fun | 2=>2| 3=>3| 9=>9| 4=>4| 171=>340| 0=>0| 53=>308| 37=>187| 5=>5| 173=>342| 212=>359| 51=>306| 20=>20| 213=>360| 46=>294| 232=>364| 233=>365| n=>n,fun | 17=>5| 18=>6| 19=>7| n=>n⟩
def Tryz.Zsw:Go.Shelf.Ren:=⟨fun | 243=>320| 246=>345| 283=>360| 284=>361| 285=>362| 286=>363| 129=>332| 317=>376| 318=>377| 319=>378| 320=>379| 337=>384| 338=>385| n=>n,fun | 3=>3| 9=>9| 2=>2| 4=>4| 171=>340| 0=>0| 53=>308| 37=>187| 5=>5| 173=>342| 212=>359| 51=>306| 20=>20| 213=>360| 46=>294| 232=>364| 233=>365| n=>n,fun | 17=>5| 18=>6| 19=>7| n=>n⟩
def Tryz.ZlM:Go.Shelf.Ren:=⟨fun | 171=>301| 243=>320| 246=>345| 283=>360| 284=>361| 285=>362| 286=>363| 129=>332| 317=>376| 318=>377| 319=>378| 320=>379| 337=>384| 338=>385| n=>n,fun | 3=>3| 9=>9| 2=>2| 4=>4| 171=>340| 0=>0| 53=>308| 37=>187| 5=>5| 173=>342| 212=>359| 51=>306| 20=>20| 213=>360| 46=>294| 232=>364| 233=>365| n=>n,fun | 17=>5| 18=>6| 19=>7| n=>n⟩
theorem Tryz.ZrF:Go.Proofs.LaysM.n171 Tryz.prog Tryz.ZlM:={
 mixed:=by kernel_rfl
 f129:=Tryz.func332.trans (congrArg some (by kernel_rfl))
 f171:=Tryz.func301.trans (congrArg some (by kernel_rfl))
 f243:=Tryz.func320.trans (congrArg some (by kernel_rfl))
 f246:=Tryz.func345.trans (congrArg some (by kernel_rfl))
 f283:=Tryz.func360.trans (congrArg some (by kernel_rfl))
 f284:=Tryz.func361.trans (congrArg some (by kernel_rfl))
 f285:=Tryz.func362.trans (congrArg some (by kernel_rfl))
 f286:=Tryz.func363.trans (congrArg some (by kernel_rfl))
 f317:=Tryz.func376.trans (congrArg some (by kernel_rfl))
 f318:=Tryz.func377.trans (congrArg some (by kernel_rfl))
 f319:=Tryz.func378.trans (congrArg some (by kernel_rfl))
 f320:=Tryz.func379.trans (congrArg some (by kernel_rfl))
 f337:=Tryz.func384.trans (congrArg some (by kernel_rfl))
 f338:=Tryz.func385.trans (congrArg some (by kernel_rfl))
 t0:=Tryz.underlying0
 a0:=Tryz.isAgg0
 z0:=Tryz.sizeOf0
 v0:=Tryz.zeroValue0
 t2:=Tryz.underlying2
 a2:=Tryz.isAgg2
 z2:=Tryz.sizeOf2
 v2:=Tryz.zeroValue2
 t3:=Tryz.underlying3
 a3:=Tryz.isAgg3
 z3:=Tryz.sizeOf3
 v3:=Tryz.zeroValue3
 t4:=Tryz.underlying4
 a4:=Tryz.isAgg4
 z4:=Tryz.sizeOf4
 v4:=Tryz.zeroValue4
 t5:=Tryz.underlying5
 a5:=Tryz.isAgg5
 z5:=Tryz.sizeOf5
 v5:=Tryz.zeroValue5
 t9:=Tryz.underlying9
 a9:=Tryz.isAgg9
 z9:=Tryz.sizeOf9
 v9:=Tryz.zeroValue9
 t20:=Tryz.underlying20
 a20:=Tryz.isAgg20
 z20:=Tryz.sizeOf20
 v20:=Tryz.zeroValue20
 t37:=Tryz.underlying187
 a37:=Tryz.isAgg187
 z37:=Tryz.sizeOf187
 v37:=Tryz.zeroValue187
 t46:=Tryz.underlying294
 a46:=Tryz.isAgg294
 z46:=Tryz.sizeOf294
 v46:=Tryz.zeroValue294
 t51:=Tryz.underlying306
 a51:=Tryz.isAgg306
 z51:=Tryz.sizeOf306
 v51:=Tryz.zeroValue306
 t53:=Tryz.underlying308
 a53:=Tryz.isAgg308
 z53:=Tryz.sizeOf308
 v53:=Tryz.zeroValue308
 t171:=Tryz.underlying340
 a171:=Tryz.isAgg340
 z171:=Tryz.sizeOf340
 v171:=Tryz.zeroValue340
 t173:=Tryz.underlying342
 a173:=Tryz.isAgg342
 z173:=Tryz.sizeOf342
 v173:=Tryz.zeroValue342
 t212:=Tryz.underlying359
 a212:=Tryz.isAgg359
 z212:=Tryz.sizeOf359
 v212:=Tryz.zeroValue359
 t213:=Tryz.underlying360
 a213:=Tryz.isAgg360
 z213:=Tryz.sizeOf360
 t232:=Tryz.underlying364
 a232:=Tryz.isAgg364
 z232:=Tryz.sizeOf364
 v232:=Tryz.zeroValue364
 t233:=Tryz.underlying365
 a233:=Tryz.isAgg365
 z233:=Tryz.sizeOf365
 v233:=Tryz.zeroValue365
 g17:=by kernel_rfl
 g18:=by kernel_rfl
 g19:=by kernel_rfl
 i0:=by kernel_rfl
 i2:=by kernel_rfl
 i3:=by kernel_rfl
 i4:=by kernel_rfl
 i5:=by kernel_rfl
 i9:=by kernel_rfl
 i20:=by kernel_rfl
 i37:=by kernel_rfl
 i46:=by kernel_rfl
 i51:=by kernel_rfl
 i53:=by kernel_rfl
 i171:=by kernel_rfl
 i173:=by kernel_rfl
 i212:=by kernel_rfl
 i232:=by kernel_rfl
 i233:=by kernel_rfl
 m17:=by kernel_rfl
 m18:=by kernel_rfl
 m19:=by kernel_rfl}
open Go.RowKit Go.Sort Go.Lib in
theorem Tryz.strconv_Itoa (n:Int) (h0: -9223372036854775808<=n) (h1:n<=9223372036854775807) (w:World) (htab:Lib.TabIs Tryz.prog w "internal/strconv.uint64pow10" .u64 Lib.pow10Tab):
  Calls Tryz.prog 301 #[.int .i64 n] w fun e w'=>e= .returned (.string ⟨(Lib.itoa n).toArray⟩)/\∃k os,w'=grow (w.drewN k) os:=Any.strconv_Itoa Tryz.ZrF n h0 h1 w htab
def Tryz.ZlN:Go.Shelf.Ren:=⟨fun | 172=>300| 244=>318| 245=>319| 247=>340| 279=>341| 280=>342| 281=>343| 282=>344| 287=>357| 316=>358| 171=>301| 205=>359| 321=>374| 322=>375| 243=>320| 246=>345| 283=>360| 284=>361| 285=>362| 286=>363| 129=>332| 317=>376| 318=>377| 319=>378| 320=>379| 337=>384| 338=>385| n=>n,fun | 9=>9| 3=>3| 75=>287| 76=>288| 4=>4| 5=>5| 167=>311| 37=>187| 0=>0| 85=>312| 2=>2| 168=>314| 53=>308| 175=>334| 46=>294| 210=>338| 127=>354| 145=>357| 143=>355| 21=>21| 171=>340| 173=>342| 212=>359| 51=>306| 20=>20| 213=>360| 232=>364| 233=>365| 80=>270| n=>n,fun | 15=>3| 16=>4| 17=>5| 18=>6| 19=>7| n=>n⟩
theorem Tryz.Zkk:Go.Proofs.LaysC.n172 Tryz.prog Tryz.ZlN:={
 mixed:=by kernel_rfl
 f129:=Tryz.func332.trans (congrArg some (by kernel_rfl))
 f171:=Tryz.func301.trans (congrArg some (by kernel_rfl))
 f172:=Tryz.func300.trans (congrArg some (by kernel_rfl))
 f205:=Tryz.func359.trans (congrArg some (by kernel_rfl))
 f243:=Tryz.func320.trans (congrArg some (by kernel_rfl))
 f244:=Tryz.func318.trans (congrArg some (by kernel_rfl))
 f245:=Tryz.func319.trans (congrArg some (by kernel_rfl))
 f246:=Tryz.func345.trans (congrArg some (by kernel_rfl))
 f247:=Tryz.func340.trans (congrArg some (by kernel_rfl))
 f279:=Tryz.func341.trans (congrArg some (by kernel_rfl))
 f280:=Tryz.func342.trans (congrArg some (by kernel_rfl))
 f281:=Tryz.func343.trans (congrArg some (by kernel_rfl))
 f282:=Tryz.func344.trans (congrArg some (by kernel_rfl))
 f283:=Tryz.func360.trans (congrArg some (by kernel_rfl))
 f284:=Tryz.func361.trans (congrArg some (by kernel_rfl))
 f285:=Tryz.func362.trans (congrArg some (by kernel_rfl))
 f286:=Tryz.func363.trans (congrArg some (by kernel_rfl))
 f287:=Tryz.func357.trans (congrArg some (by kernel_rfl))
 f316:=Tryz.func358.trans (congrArg some (by kernel_rfl))
 f317:=Tryz.func376.trans (congrArg some (by kernel_rfl))
 f318:=Tryz.func377.trans (congrArg some (by kernel_rfl))
 f319:=Tryz.func378.trans (congrArg some (by kernel_rfl))
 f320:=Tryz.func379.trans (congrArg some (by kernel_rfl))
 f321:=Tryz.func374.trans (congrArg some (by kernel_rfl))
 f322:=Tryz.func375.trans (congrArg some (by kernel_rfl))
 f337:=Tryz.func384.trans (congrArg some (by kernel_rfl))
 f338:=Tryz.func385.trans (congrArg some (by kernel_rfl))
 t0:=Tryz.underlying0
 a0:=Tryz.isAgg0
 z0:=Tryz.sizeOf0
 v0:=Tryz.zeroValue0
 t2:=Tryz.underlying2
 a2:=Tryz.isAgg2
 z2:=Tryz.sizeOf2
 v2:=Tryz.zeroValue2
 t3:=Tryz.underlying3
 a3:=Tryz.isAgg3
 z3:=Tryz.sizeOf3
 v3:=Tryz.zeroValue3
 t4:=Tryz.underlying4
 a4:=Tryz.isAgg4
 z4:=Tryz.sizeOf4
 v4:=Tryz.zeroValue4
 t5:=Tryz.underlying5
 a5:=Tryz.isAgg5
 z5:=Tryz.sizeOf5
 v5:=Tryz.zeroValue5
 t9:=Tryz.underlying9
 a9:=Tryz.isAgg9
 z9:=Tryz.sizeOf9
 v9:=Tryz.zeroValue9
 t20:=Tryz.underlying20
 a20:=Tryz.isAgg20
 z20:=Tryz.sizeOf20
 v20:=Tryz.zeroValue20
 t21:=Tryz.underlying21
 a21:=Tryz.isAgg21
 z21:=Tryz.sizeOf21
 v21:=Tryz.zeroValue21
 t37:=Tryz.underlying187
 a37:=Tryz.isAgg187
 z37:=Tryz.sizeOf187
 v37:=Tryz.zeroValue187
 t46:=Tryz.underlying294
 a46:=Tryz.isAgg294
 z46:=Tryz.sizeOf294
 v46:=Tryz.zeroValue294
 t51:=Tryz.underlying306
 a51:=Tryz.isAgg306
 z51:=Tryz.sizeOf306
 v51:=Tryz.zeroValue306
 t53:=Tryz.underlying308
 a53:=Tryz.isAgg308
 z53:=Tryz.sizeOf308
 v53:=Tryz.zeroValue308
 t75:=Tryz.underlying287
 a75:=Tryz.isAgg287
 z75:=Tryz.sizeOf287
 v75:=Tryz.zeroValue287
 t76:=Tryz.underlying288
 a76:=Tryz.isAgg288
 z76:=Tryz.sizeOf288
 v76:=Tryz.zeroValue288
 t85:=Tryz.underlying312
 a85:=Tryz.isAgg312
 z85:=Tryz.sizeOf312
 v85:=Tryz.zeroValue312
 t127:=Tryz.underlying354
 a127:=Tryz.isAgg354
 z127:=Tryz.sizeOf354
 v127:=Tryz.zeroValue354
 t143:=Tryz.underlying355
 a143:=Tryz.isAgg355
 z143:=Tryz.sizeOf355
 v143:=Tryz.zeroValue355
 t145:=Tryz.underlying357
 a145:=Tryz.isAgg357
 z145:=Tryz.sizeOf357
 v145:=Tryz.zeroValue357
 t167:=Tryz.underlying311
 a167:=Tryz.isAgg311
 z167:=Tryz.sizeOf311
 v167:=Tryz.zeroValue311
 t168:=Tryz.underlying314
 a168:=Tryz.isAgg314
 z168:=Tryz.sizeOf314
 v168:=Tryz.zeroValue314
 t171:=Tryz.underlying340
 a171:=Tryz.isAgg340
 z171:=Tryz.sizeOf340
 v171:=Tryz.zeroValue340
 t173:=Tryz.underlying342
 a173:=Tryz.isAgg342
 z173:=Tryz.sizeOf342
 v173:=Tryz.zeroValue342
 t175:=Tryz.underlying334
 a175:=Tryz.isAgg334
 z175:=Tryz.sizeOf334
 v175:=Tryz.zeroValue334
 t210:=Tryz.underlying338
 a210:=Tryz.isAgg338
 z210:=Tryz.sizeOf338
 v210:=Tryz.zeroValue338
 t212:=Tryz.underlying359
 a212:=Tryz.isAgg359
 z212:=Tryz.sizeOf359
 v212:=Tryz.zeroValue359
 t213:=Tryz.underlying360
 a213:=Tryz.isAgg360
 z213:=Tryz.sizeOf360
 t232:=Tryz.underlying364
 a232:=Tryz.isAgg364
 z232:=Tryz.sizeOf364
 v232:=Tryz.zeroValue364
 t233:=Tryz.underlying365
 a233:=Tryz.isAgg365
 z233:=Tryz.sizeOf365
 v233:=Tryz.zeroValue365
 g15:=by kernel_rfl
 g16:=by kernel_rfl
 g17:=by kernel_rfl
 g18:=by kernel_rfl
 g19:=by kernel_rfl
 t80:=Tryz.underlying270
 a80:=Tryz.isAgg270
 z80:=Tryz.sizeOf270
 v80:=Tryz.zeroValue270
 i0:=by kernel_rfl
 i2:=by kernel_rfl
 i3:=by kernel_rfl
 i4:=by kernel_rfl
 i5:=by kernel_rfl
 i9:=by kernel_rfl
 i20:=by kernel_rfl
 i21:=by kernel_rfl
 i37:=by kernel_rfl
 i46:=by kernel_rfl
 i51:=by kernel_rfl
 i53:=by kernel_rfl
 i75:=by kernel_rfl
 i76:=by kernel_rfl
 i80:=by kernel_rfl
 i85:=by kernel_rfl
 i127:=by kernel_rfl
 i143:=by kernel_rfl
 i145:=by kernel_rfl
 i167:=by kernel_rfl
 i168:=by kernel_rfl
 i171:=by kernel_rfl
 i173:=by kernel_rfl
 i175:=by kernel_rfl
 i210:=by kernel_rfl
 i212:=by kernel_rfl
 i232:=by kernel_rfl
 i233:=by kernel_rfl
 m15:=by kernel_rfl
 m16:=by kernel_rfl
 m17:=by kernel_rfl
 m18:=by kernel_rfl
 m19:=by kernel_rfl
 c0:=by kernel_rfl
 c2:=by kernel_rfl
 c3:=by kernel_rfl
 c4:=by kernel_rfl
 c5:=by kernel_rfl
 c9:=by kernel_rfl
 c20:=by kernel_rfl
 c21:=by kernel_rfl
 c37:=by kernel_rfl
 c46:=by kernel_rfl
 c51:=by kernel_rfl
 c53:=by kernel_rfl
 c75:=by kernel_rfl
 c76:=by kernel_rfl
 c80:=by kernel_rfl
 c85:=by kernel_rfl
 c127:=by kernel_rfl
 c143:=by kernel_rfl
 c145:=by kernel_rfl
 c167:=by kernel_rfl
 c168:=by kernel_rfl
 c171:=by kernel_rfl
 c173:=by kernel_rfl
 c175:=by kernel_rfl
 c210:=by kernel_rfl
 c212:=by kernel_rfl
 c213:=by kernel_rfl
 c232:=by kernel_rfl
 c233:=by kernel_rfl}
open Go.RowKit in
theorem Tryz.strconv_Atoi_ok (s:ByteArray) (hmax:s.size<=9223372036854775806) (v:Int) (h:Lib.atoiAll s.data.toList= .ok v) (w:World):
  Calls Tryz.prog 300 #[.string s] w fun e w'=>e= .returned (.tuple #[.int .i64 v,.nilIface])/\(w'=w\/∃t,w'=Lib.bytesWorld w 5 t):=Any.strconv_Atoi_ok Tryz.Zkk s hmax v h w
open Go.RowKit in
theorem Tryz.strconv_Atoi_syntax (s:ByteArray) (hlim:s.size<=281474976710656) (h:Lib.atoiAll s.data.toList= .«syntax») (ev:Value) (w:World) (hv:w.cell? ⟨3,0,none⟩=some ev) (hev:ev= .nilIface\/∃te pe,ev= .iface te pe):
  Calls Tryz.prog 300 #[.string s] w fun e w'=>∃N,e= .returned (.tuple #[.int .i64 (0),.iface 314 (.pointer (some ⟨N,0,none⟩))])/\w.heap.size<=N/\w'.heap[N]? =some (.cells #[.string ⟨#[65,116,111,105]⟩,.string s,ev] 338 (0,0))/\Below w.heap.size w w':=Any.strconv_Atoi_syntax Tryz.Zkk s hlim h ev w hv hev
open Go.RowKit in
theorem Tryz.strconv_Atoi_range (s:ByteArray) (hlim:s.size<=281474976710656) (h:Lib.atoiAll s.data.toList= .range) (ev:Value) (w:World) (hv:w.cell? ⟨4,0,none⟩=some ev) (hev:ev= .nilIface\/∃te pe,ev= .iface te pe):
  Calls Tryz.prog 300 #[.string s] w fun e w'=>∃N,e= .returned (.tuple #[.int .i64 (Lib.atoiSat s.data.toList),.iface 314 (.pointer (some ⟨N,0,none⟩))])/\w.heap.size<=N/\w'.heap[N]? =some (.cells #[.string ⟨#[65,116,111,105]⟩,.string s,ev] 338 (0,0))/\Below w.heap.size w w':=Any.strconv_Atoi_range Tryz.Zkk s hlim h ev w hv hev
def Tryz.ZmP:Go.Shelf.Ren:=⟨fun | 191=>304| 189=>321| 125=>306| 257=>346| 128=>331| 129=>332| 294=>364| 295=>365| 296=>366| 297=>367| 298=>368| 299=>369| 216=>370| 300=>371| 301=>372| 328=>380| 329=>348| 330=>349| 331=>381| 332=>382| 215=>383| 343=>386| n=>n,fun | 28=>50| 0=>0| 3=>3| 46=>294| 51=>306| 53=>308| 4=>4| 183=>300| 182=>299| 131=>262| 5=>5| 9=>9| 218=>319| 222=>323| 228=>350| 229=>351| n=>n,fun | n=>n⟩
theorem Tryz.Zqm:Go.Proofs.Lays.n191 Tryz.prog Tryz.ZmP:={
 mixed:=by kernel_rfl
 f125:=Tryz.func306.trans (congrArg some (by kernel_rfl))
 f128:=Tryz.func331.trans (congrArg some (by kernel_rfl))
 f129:=Tryz.func332.trans (congrArg some (by kernel_rfl))
 f189:=Tryz.func321.trans (congrArg some (by kernel_rfl))
 f191:=Tryz.func304.trans (congrArg some (by kernel_rfl))
 f215:=Tryz.func383.trans (congrArg some (by kernel_rfl))
 f216:=Tryz.func370.trans (congrArg some (by kernel_rfl))
 f257:=Tryz.func346.trans (congrArg some (by kernel_rfl))
 f294:=Tryz.func364.trans (congrArg some (by kernel_rfl))
 f295:=Tryz.func365.trans (congrArg some (by kernel_rfl))
 f296:=Tryz.func366.trans (congrArg some (by kernel_rfl))
 f297:=Tryz.func367.trans (congrArg some (by kernel_rfl))
 f298:=Tryz.func368.trans (congrArg some (by kernel_rfl))
 f299:=Tryz.func369.trans (congrArg some (by kernel_rfl))
 f300:=Tryz.func371.trans (congrArg some (by kernel_rfl))
 f301:=Tryz.func372.trans (congrArg some (by kernel_rfl))
 f328:=Tryz.func380.trans (congrArg some (by kernel_rfl))
 f329:=Tryz.func348.trans (congrArg some (by kernel_rfl))
 f330:=Tryz.func349.trans (congrArg some (by kernel_rfl))
 f331:=Tryz.func381.trans (congrArg some (by kernel_rfl))
 f332:=Tryz.func382.trans (congrArg some (by kernel_rfl))
 f343:=Tryz.func386.trans (congrArg some (by kernel_rfl))
 t0:=Tryz.underlying0
 a0:=Tryz.isAgg0
 z0:=Tryz.sizeOf0
 v0:=Tryz.zeroValue0
 t3:=Tryz.underlying3
 a3:=Tryz.isAgg3
 z3:=Tryz.sizeOf3
 v3:=Tryz.zeroValue3
 t4:=Tryz.underlying4
 a4:=Tryz.isAgg4
 z4:=Tryz.sizeOf4
 v4:=Tryz.zeroValue4
 t5:=Tryz.underlying5
 a5:=Tryz.isAgg5
 z5:=Tryz.sizeOf5
 v5:=Tryz.zeroValue5
 t9:=Tryz.underlying9
 a9:=Tryz.isAgg9
 z9:=Tryz.sizeOf9
 v9:=Tryz.zeroValue9
 t28:=Tryz.underlying50
 a28:=Tryz.isAgg50
 z28:=Tryz.sizeOf50
 v28:=Tryz.zeroValue50
 t46:=Tryz.underlying294
 a46:=Tryz.isAgg294
 z46:=Tryz.sizeOf294
 v46:=Tryz.zeroValue294
 t51:=Tryz.underlying306
 a51:=Tryz.isAgg306
 z51:=Tryz.sizeOf306
 v51:=Tryz.zeroValue306
 t53:=Tryz.underlying308
 a53:=Tryz.isAgg308
 z53:=Tryz.sizeOf308
 v53:=Tryz.zeroValue308
 t131:=Tryz.underlying262
 a131:=Tryz.isAgg262
 z131:=Tryz.sizeOf262
 v131:=Tryz.zeroValue262
 t182:=Tryz.underlying299
 a182:=Tryz.isAgg299
 z182:=Tryz.sizeOf299
 v182:=Tryz.zeroValue299
 t183:=Tryz.underlying300
 a183:=Tryz.isAgg300
 z183:=Tryz.sizeOf300
 v183:=Tryz.zeroValue300
 t218:=Tryz.underlying319
 a218:=Tryz.isAgg319
 z218:=Tryz.sizeOf319
 v218:=Tryz.zeroValue319
 t222:=Tryz.underlying323
 a222:=Tryz.isAgg323
 z222:=Tryz.sizeOf323
 v222:=Tryz.zeroValue323
 t228:=Tryz.underlying350
 a228:=Tryz.isAgg350
 z228:=Tryz.sizeOf350
 v228:=Tryz.zeroValue350
 t229:=Tryz.underlying351
 a229:=Tryz.isAgg351
 z229:=Tryz.sizeOf351
 v229:=Tryz.zeroValue351}
open Go.Sort Go.RowKit in
theorem Tryz.sort_Ints (blk off cap:Nat) (zs:List Int) (w:World) (hH:Holds (Value.int .i64) w blk off zs.toArray) (hblk:blk<w.heap.size) (hsz:zs.length<4611686018427387904):
  Calls Tryz.prog 304 #[.slice (some ⟨blk,off,none⟩) zs.length cap] w fun e w'=>
   e= .returned (.tuple #[])/\∃n os,w'=grow (putRow (Value.int .i64) (Sort.ahead w n) blk off (zs.mergeSort fun x y=>decide (x<=y)).toArray) os:=Any.sort_Ints Tryz.Zqm blk off cap zs w hH hblk hsz
def Tryz.ZmO:Go.Shelf.Ren:=⟨fun | 192=>232| 190=>274| 125=>306| 258=>305| 128=>331| 129=>332| 302=>322| 303=>323| 304=>324| 305=>325| 306=>326| 307=>327| 308=>328| 309=>329| 310=>330| 333=>347| 329=>348| 330=>349| 334=>350| 335=>351| 336=>352| 344=>373| n=>n,fun | 31=>96| 0=>0| 9=>9| 3=>3| 46=>294| 51=>306| 53=>308| 4=>4| 183=>300| 182=>299| 131=>262| 5=>5| 218=>319| 222=>323| 228=>350| 229=>351| n=>n,fun | n=>n⟩
theorem Tryz.Zql:Go.Proofs.Lays.n192 Tryz.prog Tryz.ZmO:={
 mixed:=by kernel_rfl
 f125:=Tryz.func306.trans (congrArg some (by kernel_rfl))
 f128:=Tryz.func331.trans (congrArg some (by kernel_rfl))
 f129:=Tryz.func332.trans (congrArg some (by kernel_rfl))
 f190:=Tryz.func274.trans (congrArg some (by kernel_rfl))
 f192:=Tryz.func232.trans (congrArg some (by kernel_rfl))
 f258:=Tryz.func305.trans (congrArg some (by kernel_rfl))
 f302:=Tryz.func322.trans (congrArg some (by kernel_rfl))
 f303:=Tryz.func323.trans (congrArg some (by kernel_rfl))
 f304:=Tryz.func324.trans (congrArg some (by kernel_rfl))
 f305:=Tryz.func325.trans (congrArg some (by kernel_rfl))
 f306:=Tryz.func326.trans (congrArg some (by kernel_rfl))
 f307:=Tryz.func327.trans (congrArg some (by kernel_rfl))
 f308:=Tryz.func328.trans (congrArg some (by kernel_rfl))
 f309:=Tryz.func329.trans (congrArg some (by kernel_rfl))
 f310:=Tryz.func330.trans (congrArg some (by kernel_rfl))
 f329:=Tryz.func348.trans (congrArg some (by kernel_rfl))
 f330:=Tryz.func349.trans (congrArg some (by kernel_rfl))
 f333:=Tryz.func347.trans (congrArg some (by kernel_rfl))
 f334:=Tryz.func350.trans (congrArg some (by kernel_rfl))
 f335:=Tryz.func351.trans (congrArg some (by kernel_rfl))
 f336:=Tryz.func352.trans (congrArg some (by kernel_rfl))
 f344:=Tryz.func373.trans (congrArg some (by kernel_rfl))
 t0:=Tryz.underlying0
 a0:=Tryz.isAgg0
 z0:=Tryz.sizeOf0
 v0:=Tryz.zeroValue0
 t3:=Tryz.underlying3
 a3:=Tryz.isAgg3
 z3:=Tryz.sizeOf3
 v3:=Tryz.zeroValue3
 t4:=Tryz.underlying4
 a4:=Tryz.isAgg4
 z4:=Tryz.sizeOf4
 v4:=Tryz.zeroValue4
 t5:=Tryz.underlying5
 a5:=Tryz.isAgg5
 z5:=Tryz.sizeOf5
 v5:=Tryz.zeroValue5
 t9:=Tryz.underlying9
 a9:=Tryz.isAgg9
 z9:=Tryz.sizeOf9
 v9:=Tryz.zeroValue9
 t31:=Tryz.underlying96
 a31:=Tryz.isAgg96
 z31:=Tryz.sizeOf96
 v31:=Tryz.zeroValue96
 t46:=Tryz.underlying294
 a46:=Tryz.isAgg294
 z46:=Tryz.sizeOf294
 v46:=Tryz.zeroValue294
 t51:=Tryz.underlying306
 a51:=Tryz.isAgg306
 z51:=Tryz.sizeOf306
 v51:=Tryz.zeroValue306
 t53:=Tryz.underlying308
 a53:=Tryz.isAgg308
 z53:=Tryz.sizeOf308
 v53:=Tryz.zeroValue308
 t131:=Tryz.underlying262
 a131:=Tryz.isAgg262
 z131:=Tryz.sizeOf262
 v131:=Tryz.zeroValue262
 t182:=Tryz.underlying299
 a182:=Tryz.isAgg299
 z182:=Tryz.sizeOf299
 v182:=Tryz.zeroValue299
 t183:=Tryz.underlying300
 a183:=Tryz.isAgg300
 z183:=Tryz.sizeOf300
 v183:=Tryz.zeroValue300
 t218:=Tryz.underlying319
 a218:=Tryz.isAgg319
 z218:=Tryz.sizeOf319
 v218:=Tryz.zeroValue319
 t222:=Tryz.underlying323
 a222:=Tryz.isAgg323
 z222:=Tryz.sizeOf323
 v222:=Tryz.zeroValue323
 t228:=Tryz.underlying350
 a228:=Tryz.isAgg350
 z228:=Tryz.sizeOf350
 v228:=Tryz.zeroValue350
 t229:=Tryz.underlying351
 a229:=Tryz.isAgg351
 z229:=Tryz.sizeOf351
 v229:=Tryz.zeroValue351}
open Go.Sort Go.RowKit in
theorem Tryz.sort_Strings (blk off cap:Nat) (ss:List (List UInt8)) (w:World) (hH:Holds encStr w blk off ss.toArray) (hblk:blk<w.heap.size) (hsz:ss.length<4611686018427387904):
  Calls Tryz.prog 232 #[.slice (some ⟨blk,off,none⟩) ss.length cap] w fun e w'=>
   e= .returned (.tuple #[])/\∃n os,w'=grow (putRow encStr (Sort.ahead w n) blk off (ss.mergeSort fun x y=>decide (x<=y)).toArray) os:=Any.sort_Strings Tryz.Zql blk off cap ss w hH hblk hsz
def Tryz.ZtM:Go.Shelf.Ren:=⟨fun | 206=>312| n=>n,fun | 9=>9| 4=>4| 3=>3| n=>n,fun | n=>n⟩
def Tryz.ZoM:Go.Shelf.Ren:=⟨fun | 99=>292| 206=>312| n=>n,fun | 9=>9| 4=>4| 3=>3| n=>n,fun | n=>n⟩
theorem Tryz.Zvw:Go.Proofs.Lays.n99 Tryz.prog Tryz.ZoM:={
 mixed:=by kernel_rfl
 f99:=Tryz.func292.trans (congrArg some (by kernel_rfl))
 f206:=Tryz.func312.trans (congrArg some (by kernel_rfl))
 t3:=Tryz.underlying3
 a3:=Tryz.isAgg3
 z3:=Tryz.sizeOf3
 v3:=Tryz.zeroValue3
 t4:=Tryz.underlying4
 a4:=Tryz.isAgg4
 z4:=Tryz.sizeOf4
 v4:=Tryz.zeroValue4
 t9:=Tryz.underlying9
 a9:=Tryz.isAgg9
 z9:=Tryz.sizeOf9
 v9:=Tryz.zeroValue9}
open Go.RowKit Go.Lib in
theorem Tryz.strings_HasPrefix (s p:ByteArray) (w:World):
  Calls Tryz.prog 292 #[.string s,.string p] w fun e w'=>e= .returned (.bool (Lib.hasPrefix s.data.toList p.data.toList))/\w'=w:=Any.strings_HasPrefix Tryz.Zvw s p w
def Tryz.ZtL:Go.Shelf.Ren:=⟨fun | 221=>265| 268=>297| 138=>298| 143=>299| 195=>314| 197=>315| 218=>316| 219=>317| 260=>336| 217=>311| 225=>337| 224=>338| 267=>339| 266=>334| 314=>356| n=>n,fun | 9=>9| 3=>3| 31=>96| 4=>4| 0=>0| 105=>295| 21=>21| 5=>5| 46=>294| 119=>328| 139=>331| 138=>330| 146=>332| 51=>306| n=>n,fun | 1=>0| 3=>1| 4=>2| n=>n⟩
def Tryz.ZmQ:Go.Shelf.Ren:=⟨fun | 146=>220| 221=>265| 268=>297| 138=>298| 143=>299| 195=>314| 197=>315| 218=>316| 219=>317| 260=>336| 217=>311| 225=>337| 224=>338| 267=>339| 266=>334| 314=>356| n=>n,fun | 9=>9| 31=>96| 3=>3| 4=>4| 0=>0| 105=>295| 21=>21| 5=>5| 46=>294| 119=>328| 139=>331| 138=>330| 146=>332| 51=>306| n=>n,fun | 1=>0| 3=>1| 4=>2| n=>n⟩
theorem Tryz.ZtO:Go.Proofs.Lays.n146 Tryz.prog Tryz.ZmQ:={
 mixed:=by kernel_rfl
 f138:=Tryz.func298.trans (congrArg some (by kernel_rfl))
 f143:=Tryz.func299.trans (congrArg some (by kernel_rfl))
 f146:=Tryz.func220.trans (congrArg some (by kernel_rfl))
 f195:=Tryz.func314.trans (congrArg some (by kernel_rfl))
 f197:=Tryz.func315.trans (congrArg some (by kernel_rfl))
 f217:=Tryz.func311.trans (congrArg some (by kernel_rfl))
 f218:=Tryz.func316.trans (congrArg some (by kernel_rfl))
 f219:=Tryz.func317.trans (congrArg some (by kernel_rfl))
 f221:=Tryz.func265.trans (congrArg some (by kernel_rfl))
 f224:=Tryz.func338.trans (congrArg some (by kernel_rfl))
 f225:=Tryz.func337.trans (congrArg some (by kernel_rfl))
 f260:=Tryz.func336.trans (congrArg some (by kernel_rfl))
 f266:=Tryz.func334.trans (congrArg some (by kernel_rfl))
 f267:=Tryz.func339.trans (congrArg some (by kernel_rfl))
 f268:=Tryz.func297.trans (congrArg some (by kernel_rfl))
 f314:=Tryz.func356.trans (congrArg some (by kernel_rfl))
 t0:=Tryz.underlying0
 a0:=Tryz.isAgg0
 z0:=Tryz.sizeOf0
 v0:=Tryz.zeroValue0
 t3:=Tryz.underlying3
 a3:=Tryz.isAgg3
 z3:=Tryz.sizeOf3
 v3:=Tryz.zeroValue3
 t4:=Tryz.underlying4
 a4:=Tryz.isAgg4
 z4:=Tryz.sizeOf4
 v4:=Tryz.zeroValue4
 t5:=Tryz.underlying5
 a5:=Tryz.isAgg5
 z5:=Tryz.sizeOf5
 v5:=Tryz.zeroValue5
 t9:=Tryz.underlying9
 a9:=Tryz.isAgg9
 z9:=Tryz.sizeOf9
 v9:=Tryz.zeroValue9
 t21:=Tryz.underlying21
 a21:=Tryz.isAgg21
 z21:=Tryz.sizeOf21
 v21:=Tryz.zeroValue21
 t31:=Tryz.underlying96
 a31:=Tryz.isAgg96
 z31:=Tryz.sizeOf96
 v31:=Tryz.zeroValue96
 t46:=Tryz.underlying294
 a46:=Tryz.isAgg294
 z46:=Tryz.sizeOf294
 v46:=Tryz.zeroValue294
 t51:=Tryz.underlying306
 a51:=Tryz.isAgg306
 z51:=Tryz.sizeOf306
 v51:=Tryz.zeroValue306
 t105:=Tryz.underlying295
 a105:=Tryz.isAgg295
 z105:=Tryz.sizeOf295
 v105:=Tryz.zeroValue295
 t119:=Tryz.underlying328
 a119:=Tryz.isAgg328
 z119:=Tryz.sizeOf328
 t138:=Tryz.underlying330
 a138:=Tryz.isAgg330
 z138:=Tryz.sizeOf330
 v138:=Tryz.zeroValue330
 t139:=Tryz.underlying331
 a139:=Tryz.isAgg331
 z139:=Tryz.sizeOf331
 v139:=Tryz.zeroValue331
 t146:=Tryz.underlying332
 a146:=Tryz.isAgg332
 z146:=Tryz.sizeOf332
 v146:=Tryz.zeroValue332
 g1:=by kernel_rfl
 g3:=by kernel_rfl
 g4:=by kernel_rfl}
open Go.RowKit Go.Lib in
theorem Tryz.strings_Split (s sep:ByteArray) (m:Int) (w:World) (hs:s.size<4294967281) (hm:w.cell? ⟨0,0,none⟩=some (.int .i64 m)) (h1:1<=sep.size):
  Calls Tryz.prog 220 #[.string s,.string sep] w fun e w'=>
   e= .returned (.slice (some ⟨w.heap.size,0,none⟩) (Lib.countB s sep+1) (Lib.countB s sep+1))/\w'=w.alloc (.cells ((Lib.splitB sep 0 (Lib.countB s sep) s).map Value.string).toArray 9):=Any.strings_Split Tryz.ZtO (by kernel_rfl) s sep m w hs hm h1
open Go.RowKit Go.Sort in
theorem Tryz.sort_Strings_none (p:Option Addr) (cap:Nat) (w:World):
  Calls Tryz.prog 232 #[.slice p 0 cap] w fun e w'=>e= .returned (.tuple #[])/\w'=w:=Any.sort_Strings_none Tryz.Zql p cap w
open Go.RowKit Go.Sort in
theorem Tryz.sort_Ints_none (p:Option Addr) (cap:Nat) (w:World):
  Calls Tryz.prog 304 #[.slice p 0 cap] w fun e w'=>e= .returned (.tuple #[])/\w'=w:=Any.sort_Ints_none Tryz.Zqm p cap w
end Go.Proofs
namespace Go.Proofs.YtpblakfidofgfaaGreatDoor
open Go.RowKit Am
theorem ZuF (xs:List Int):Za7 (xs.map iC)=xs.map (Value.int .i64):=by simp [Za7,Zur,iC,Zha,Function.comp_def]
theorem ZuE (xs:List ByteArray):Za7 (xs.map sC)=(xs.map toL).map encStr:=by simp [Za7,Zur,sC,Zha,Function.comp_def,encStr,toL]
theorem Zbd {xs v:List Int} (h:WT xs=some v):SS Tryz.prog 304 (xs.map iC) (v.map iC):=by
 have hv:=Zc3 h
 have hl:xs.length<4611686018427387904:=by
  unfold WT at h
  split at h
  ·assumption
  ·cases h
 subst hv;refine ⟨⟨by kernel_rfl,by simp [Za7,(UY xs).length_eq],fun w p c=>⟨fun h0=> ?_,fun b cur t hp hb hle ht=> ?_⟩⟩,ZrK xs,by simp [iC],fun x hx=> ?_⟩
 ·exact Tryz.sort_Ints_none p c w
 ·subst hp;rw [ZuF] at ht hle ⊢;rw [List.length_map] at ht hle ⊢;refine (Tryz.sort_Ints b 0 c xs w (Go.holds_of_blockI hb ht) (Array.getElem?_eq_some_iff.1 hb).1 hl).mono fun e w' hR=> ?_;obtain ⟨rfl,n,os,rfl⟩:=hR;refine ⟨rfl,Go.grownBy_sortedI _,_,Go.heap_sortedI _ hb,by simp [Go.Sort.putCells], ?_⟩;have:=Go.take_putCellsI cur (Zmu xs) (by rw [(UY xs).length_eq];exact hle);rw [(UY xs).length_eq] at this;rw [ZuF];exact this
 ·obtain ⟨y,hy,rfl⟩:=List.mem_map.1 hx;exact List.mem_map.2 ⟨y,(UY xs).mem_iff.1 hy,rfl⟩
instance:HC 304 (Ty @Zbd):=⟨Zbd⟩
theorem JP {xs v:List ByteArray} (h:QN xs=some v):SS Tryz.prog 232 (xs.map sC) (v.map sC):=by
 have hv:=Ke h
 have hl:xs.length<4611686018427387904:=by
  unfold QN at h
  split at h
  ·assumption
  ·cases h
 subst hv;have hm:(xs.map toL).length=xs.length:=by simp
 refine ⟨⟨by kernel_rfl,by simp [Za7,(ZcF xs).length_eq],fun w p c=>⟨fun h0=> ?_,fun b cur t hp hb hle ht=> ?_⟩⟩,by simp [VI,Zil,sC,L.flat],by simp [sC],fun x hx=> ?_⟩
 ·exact Tryz.sort_Strings_none p c w
 ·subst hp;rw [ZuE] at ht hle ⊢;rw [List.length_map] at ht hle ⊢;refine (Tryz.sort_Strings b 0 c (xs.map toL) w (Go.holds_of_block hb ht) (Array.getElem?_eq_some_iff.1 hb).1 (by rw [hm];exact hl)).mono fun e w' hR=> ?_;obtain ⟨rfl,n,os,rfl⟩:=hR;have hp:=List.mergeSort_perm (xs.map toL) (fun x y=>decide (x<=y));refine ⟨rfl,Go.grownBy_sorted _,_,Go.heap_sorted _ hb,by simp [Go.Sort.putCells], ?_⟩;have:=Go.take_putCells cur ((xs.map toL).mergeSort (fun x y=>decide (x<=y))) (by rw [hp.length_eq];exact hle);rw [hp.length_eq] at this;have e:(Zlo xs).map toL=(xs.map toL).mergeSort (fun x y=>decide (x<=y)):=by rw [Zlo,List.map_map,show (toL∘ofL)=id from funext fun l=>Zmp l,List.map_id]
  rw [ZuE,e];exact this
 ·obtain ⟨y,hy,rfl⟩:=List.mem_map.1 hx;exact List.mem_map.2 ⟨y,(ZcF xs).mem_iff.1 hy,rfl⟩
instance:HC 232 (Ty @JP):=⟨JP⟩
end Go.Proofs.YtpblakfidofgfaaGreatDoor
