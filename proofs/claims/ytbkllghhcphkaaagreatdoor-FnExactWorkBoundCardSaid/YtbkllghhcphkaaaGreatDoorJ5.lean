import Derived.Test.YtbkllghhcphkaaaGreatDoorJ4
import Derived.Deep.Upon
import Derived.Shelf.Small.Strs
import Derived.Shelf.Strconv.Atoi
import Derived.Shelf.Strconv.Itoa0
import Derived.Shelf.Strconv.Itoa1
import Derived.Shelf.LaysM
import Derived.Shelf.Strconv.Itoa2
import Derived.Shelf.Strconv.Itoa3
import Derived.Shelf.Strconv.AtoiErrFast
import Derived.Shelf.Strconv.ParseIntEmpty
import Derived.Shelf.Strconv.AtoiFail
import Derived.Shelf.Strconv.Clone
import Derived.Shelf.Strconv.SyntaxError
import Derived.Shelf.LaysC
import Derived.Shelf.Strconv.ToError
import Derived.Shelf.Strconv.Lower
import Derived.Shelf.Strconv.ParseUint10
import Derived.Shelf.Strconv.ParseUint10Empty
import Derived.Shelf.Strconv.ParseUint10Any
import Derived.Shelf.Strconv.ParseInt10
import Derived.Shelf.Strconv.AtoiLong
import Derived.Shelf.Strconv.AtoiInnerAll
import Derived.Shelf.Strconv.RangeError
import Derived.Shelf.Strconv.ToErrorRange
import Derived.Shelf.Strconv.AtoiAll
import Derived.Shelf.Strings.Search1
import Derived.Shelf.Strings.Search2
import Derived.Shelf.Strings.Search3
import Derived.Shelf.Strings.Count
import Derived.Shelf.Strings.Shaped
import Derived.Shelf.Sort.Plain
import Derived.Shelf.Strings.Prefix
import Derived.Shelf.Strings.Split
import Derived.Shelf.Unicode.DecodeSlow
import Derived.Shelf.Slices.In.SortNone
import Derived.Shelf.Slices.In.SortNone2
import Derived.Test.YtbkllghhcphkaaaGreatDoorProg
import Derived.Sort.OwnSorted
import Derived.Sort.OwnSortedInts
import Derived.Lib.ItoaLen
import Derived.Lib.LaidTab
set_option linter.unusedSimpArgs false
set_option linter.unusedVariables false
namespace Go.Proofs.YtbkllghhcphkaaaGreatDoor
open Go.RowKit Am
def Xl (x4:ZN):Nat->Int->Option (Unit ⊕ Bool) | 0,_=>none | n_+1,x5=> if (decide (x5<(x4.cells.length:Int))) then (at? x4.cells x5).bind fun x6=> (We x6).bind fun x7=> if (!x7) then some (.inr false) else Xl x4 n_ (IntKind.i64.wrap (x5+1)) else some (.inl ())
def Xk (x4:ZN):Nat->Int->Option (Unit ⊕ Bool) | 0,_=>none | n_+1,x8=> if (decide (x8<(x4.from_.length:Int))) then (at? x4.from_ x8).bind fun x9=> (if (decide (x9.cell<0)) then some true else if (decide (x9.row<0)) then some true else if (decide (0<x8)) then (at? x4.from_ (IntKind.i64.wrap (x8-1))).bind fun x11=> (Xx x11 x9).bind fun x12=> some (!x12) else some false).bind fun x10=> if x10 then some (.inr false) else Xk x4 n_ (IntKind.i64.wrap (x8+1)) else some (.inl ())
def Qk (k:Nat) (a0:Za):Nat->Int->Option (Unit ⊕ Bool) | 0,_=>none | n_+1,x3=> if (decide (x3<(a0.rows.length:Int))) then ((at? a0.rows x3).bind fun x4=> if (!decide ((x4.cells.length:Int)=(a0.columns.length:Int))) then some (.inr false) else (Xl x4 k 0:Option (Unit ⊕ Bool)).bind fun | .inl _=>( Xk x4 k 0) | .inr z13=>( some (.inr z13)):Option (Unit ⊕ Bool)).bind fun | .inl _=>( Qk k a0 n_ (IntKind.i64.wrap (x3+1))) | .inr z14=>( some (.inr z14)) else some (.inl ())
def ZbL (k:Nat) (a0:Za):Option Bool:= ((Vl k a0.columns).bind fun x2=> if (!x2) then some true else some (decide (12<(a0.rows.length:Int)))).bind fun x1=> if x1 then some false else (Qk k a0 k 0:Option (Unit ⊕ Bool)).bind fun | .inl _=>( some true) | .inr z15=>( some z15)
def XV (rec_i_DepthOf:Za->Option Int) (a0:Za):Nat->Int->Int->Option Int | 0,_,_=>none | n_+1,x2,x3=> if (decide (x3<(a0.list.length:Int))) then (at? a0.list x3).bind fun x4=> (rec_i_DepthOf x4).bind fun x5=> XV rec_i_DepthOf a0 n_ (if x5>x2 then x5 else x2) (IntKind.i64.wrap (x3+1)) else some x2
def Xn:Nat->Za->Option Int | 0,_=>none | k+1,a0=> (XV (Xn k) a0 k 0 0).bind fun x1=> some (IntKind.i64.wrap (x1+1))
def YB (rec_i_IsValidValue:Za->Option Bool) (a0:Za):Nat->Int->Option (Unit ⊕ Bool) | 0,_=>none | n_+1,x13=> if (decide (x13<(a0.list.length:Int))) then (at? a0.list x13).bind fun x14=> (if (!decide (x14.kind=1)) then if (!decide (x14.kind=2)) then if (!decide (x14.kind=3)) then some true else (rec_i_IsValidValue x14).bind fun x16=> some (!x16) else (rec_i_IsValidValue x14).bind fun x17=> some (!x17) else (rec_i_IsValidValue x14).bind fun x18=> some (!x18)).bind fun x15=> if x15 then some (.inr false) else YB rec_i_IsValidValue a0 n_ (IntKind.i64.wrap (x13+1)) else some (.inl ())
def ZD:Nat->Za->Option Bool | 0,_=>none | k+1,a0=> (if (decide ((a0.list.length:Int)=0)) then if (decide ((a0.columns.length:Int)=0)) then some (decide ((a0.rows.length:Int)=0)) else some false else some false).bind fun x1=> if (decide (a0.kind=1)) then (if x1 then if (decide (a0.step=0)) then if (decide (a0.text=(⟨#[]⟩:ByteArray))) then (We a0.n).bind fun x3=> some x3 else some false else some false else some false).bind fun x2=> some x2 else if (decide (a0.kind=2)) then (if x1 then if (decide (a0.n=0)) then if (decide (a0.step=0)) then (X8 k a0.text).bind fun x5=> some x5 else some false else some false else some false).bind fun x4=> some x4 else if (decide (a0.kind=4)) then (if x1 then if (decide (a0.text=(⟨#[]⟩:ByteArray))) then (We a0.n).bind fun x7=> if x7 then (We a0.step).bind fun x8=> some x8 else some false else some false else some false).bind fun x6=> some x6 else if (decide (a0.kind=6)) then (if x1 then if (decide (a0.step=0)) then if (decide (a0.text=(⟨#[]⟩:ByteArray))) then (X7 a0.n 1 8).bind fun x10=> some x10 else some false else some false else some false).bind fun x9=> some x9 else if (decide (a0.kind=5)) then (if (decide (a0.n=0)) then if (decide (a0.step=0)) then if (decide (a0.text=(⟨#[]⟩:ByteArray))) then if (decide ((a0.list.length:Int)=0)) then (ZbL k a0).bind fun x12=> some x12 else some false else some false else some false else some false).bind fun x11=> some x11 else if (decide (a0.kind=3)) then (YB (ZD k) a0 k 0:Option (Unit ⊕ Bool)).bind fun | .inl _=>( (if (decide (a0.n=0)) then if (decide (a0.step=0)) then if (decide (a0.text=(⟨#[]⟩:ByteArray))) then if (decide ((a0.columns.length:Int)=0)) then if (decide ((a0.rows.length:Int)=0)) then if (decide ((a0.list.length:Int)<=8)) then (Xn k a0).bind fun x20=> some (decide (x20<=3)) else some false else some false else some false else some false else some false else some false).bind fun x19=> some x19) | .inr z21=>( some z21) else some false
def YQ (k:Nat) (x1:List ByteArray) (x3:List ByteArray):Nat->(List ZN)->Int->Option ((List ZN) ⊕ (Za×Bool)) | 0,_,_=>none | n_+1,x6,x7=> if (decide (x7<(((x1.take (x1.length:Int).toNat).drop (1:Int).toNat).length:Int))) then (at? ((x1.take (x1.length:Int).toNat).drop (1:Int).toNat) x7).bind fun x8=> (Uv k x8 (x3.length:Int)).bind fun x9=> if (!x9.2) then some (.inr ((Za.mk 0 0 0 (⟨#[]⟩:ByteArray) [] [] []),false)) else (Yv 48 x6 [(ZN.mk x9.1 [])]).bind fun x10=> YQ k x1 x3 n_ x10 (IntKind.i64.wrap (x7+1)) else some (.inl x6)
def WN (k:Nat) (a0:ByteArray):Option (Za×Bool):= (Qf a0 (⟨#[59,32]⟩:ByteArray)).bind fun x1=> (at? x1 0).bind fun x2=> (Vh x2 32).bind fun x3=> ((Zb8 x1 1 (x1.length:Int)).bind fun x5=> YQ k x1 x3 k [] 0:Option ((List ZN) ⊕ (Za×Bool))).bind fun | .inl x4=>( (ZD k (Za.mk 5 0 0 (⟨#[]⟩:ByteArray) [] x3 x4)).bind fun x11=> if (!x11) then some ((Za.mk 0 0 0 (⟨#[]⟩:ByteArray) [] [] []),false) else some ((Za.mk 5 0 0 (⟨#[]⟩:ByteArray) [] x3 x4),true)) | .inr z12=>( some z12)
def YR (k:Nat) (x2:List ByteArray) (x4:List ByteArray):Nat->Int->Option (Unit ⊕ Int) | 0,_=>none | n_+1,x7=> if (decide (x7<(((x2.take (x2.length:Int).toNat).drop (1:Int).toNat).length:Int))) then (at? ((x2.take (x2.length:Int).toNat).drop (1:Int).toNat) x7).bind fun x8=> (Uv k x8 (x4.length:Int)).bind fun x9=> (if (!x9.2) then some true else some (decide (12<=x7))).bind fun x10=> if x10 then some (.inr (IntKind.i64.wrap (x7+1))) else YR k x2 x4 n_ (IntKind.i64.wrap (x7+1)) else some (.inl ())
def JE (k:Nat) (a0:ByteArray):Option Int:= (WN k a0).bind fun x1=> if x1.2 then some (-1) else (Qf a0 (⟨#[59,32]⟩:ByteArray)).bind fun x2=> (at? x2 0).bind fun x3=> (Vh x3 32).bind fun x4=> (Vl k x4).bind fun x5=> if (!x5) then some 0 else ((Zb8 x2 1 (x2.length:Int)).bind fun x6=> YR k x2 x4 k 0:Option (Unit ⊕ Int)).bind fun | .inl _=>( some (-1)) | .inr z11=>( some z11)
def KO (a0:ZN):Option ZN:= (Yv 8 ([]:List Int) a0.cells).bind fun x1=> (Yv 16 ([]:List Zo) a0.from_).bind fun x2=> some (ZN.mk x1 x2)
def Ql (rec_i_copyValue:Za->Option Za) (a0:List Za):Nat->(List Za)->Int->Option (List Za) | 0,_,_=>none | n_+1,x2,x3=> if (decide (x3<(a0.length:Int))) then (at? a0 x3).bind fun x4=> (rec_i_copyValue x4).bind fun x5=> (Yv 112 x2 [x5]).bind fun x6=> Ql rec_i_copyValue a0 n_ x6 (IntKind.i64.wrap (x3+1)) else some x2
def QL (a0:Za):Nat->(List ZN)->Int->Option (List ZN) | 0,_,_=>none | n_+1,x4,x5=> if (decide (x5<(a0.rows.length:Int))) then (at? a0.rows x5).bind fun x6=> (KO x6).bind fun x7=> (Yv 48 x4 [x7]).bind fun x8=> QL a0 n_ x8 (IntKind.i64.wrap (x5+1)) else some x4
mutual
def Uw:Nat->(List Za)->Option (List Za) | 0,_=>none | k+1,a0=> (Ql (Y5 k) a0 k ([]:List Za) 0).bind fun x1=> some x1
def Y5:Nat->Za->Option Za | 0,_=>none | k+1,a0=> (Uw k a0.list).bind fun x1=> (Yv 16 ([]:List ByteArray) a0.columns).bind fun x2=> (QL a0 k [] 0).bind fun x3=> some (Za.mk a0.kind a0.n a0.step a0.text x1 x2 x3)
end
def Ys (a0:Int) (x4:Za):Nat->(List ZN)->Int->Option (List ZN) | 0,_,_=>none | n_+1,x6,x7=> if (decide (x7<(x4.rows.length:Int))) then (at? x6 x7).bind fun x8=> Ys a0 x4 n_ (x6.set x7.toNat (ZN.mk x8.cells [(Zo.mk a0 x7)])) (IntKind.i64.wrap (x7+1)) else some x6
def VA (k:Nat) (a0:Int) (a1:Za):Option Za:= (if (!decide (a1.kind=5)) then some true else (ZD k a1).bind fun x2=> if (!x2) then some true else some (decide (a0<0))).bind fun x1=> if x1 then (Uz 4).bind fun x3=> some x3 else (Y5 k a1).bind fun x4=> (Ys a0 x4 k x4.rows 0).bind fun x5=> some (Za.mk x4.kind x4.n x4.step x4.text x4.list x4.columns x5)
def Yt (k:Nat) (a0:Zk):Option Zq:= (YX k a0).bind fun x1=> if (!x1) then some (Zq.mk 0 (⟨#[]⟩:ByteArray) (Zb.mk 0 0 (⟨#[]⟩:ByteArray) []) (Za.mk 0 0 0 (⟨#[]⟩:ByteArray) [] [] []) 0) else if (decide (a0.kind=1)) then some (Zq.mk 1 (⟨#[]⟩:ByteArray) (Zb.mk 0 0 (⟨#[]⟩:ByteArray) []) (Za.mk 0 0 0 (⟨#[]⟩:ByteArray) [] [] []) 0) else if (decide (a0.kind=3)) then (ZaD a0.n).bind fun x2=> some (Zq.mk 3 a0.name (Zb.mk 0 0 (⟨#[]⟩:ByteArray) []) x2 0) else if (decide (a0.kind=2)) then (WM k a0.code).bind fun x3=> if (decide (0<=x3.2)) then (Uz 8).bind fun x4=> some (Zq.mk 4 a0.name (Zb.mk 0 0 (⟨#[]⟩:ByteArray) []) x4 x3.2) else some (Zq.mk 2 a0.name x3.1 (Za.mk 0 0 0 (⟨#[]⟩:ByteArray) [] [] []) 0) else (WN k a0.code).bind fun x5=> if (!x5.2) then (Uz 8).bind fun x6=> (JE k a0.code).bind fun x7=> some (Zq.mk 4 a0.name (Zb.mk 0 0 (⟨#[]⟩:ByteArray) []) x6 x7) else (VA k a0.id x5.1).bind fun x8=> some (Zq.mk 3 a0.name (Zb.mk 0 0 (⟨#[]⟩:ByteArray) []) x8 0)
def Qo (k:Nat) (a0:Zd):Nat->(List Zq)->Int->Option (List Zq) | 0,_,_=>none | n_+1,x3,x4=> if (decide (x4<(a0.cells.length:Int))) then (at? a0.cells x4).bind fun x5=> (Yt k x5).bind fun x6=> (Yv 200 x3 [x6]).bind fun x7=> Qo k a0 n_ x7 (IntKind.i64.wrap (x4+1)) else some x3
def Vn (k:Nat) (a0:Zd):Option (List Zq):= (QS k a0).bind fun x1=> if (!x1) then some [] else (Qo k a0 k ([]:List Zq) 0).bind fun x2=> some x2
def Xo (a0:List Zq) (a1:ByteArray):Nat->(List Int)->Int->Option (List Int) | 0,_,_=>none | n_+1,x2,x3=> if (decide (x3<(a0.length:Int))) then ((at? a0 x3).bind fun x5=> (if (!decide (x5.kind=1)) then some (decide (x5.name=a1)) else some false).bind fun x6=> if x6 then (Yv 8 x2 [x3]).bind fun x7=> some x7 else some x2).bind fun x4=> Xo a0 a1 n_ x4 (IntKind.i64.wrap (x3+1)) else some x2
def Vm (k:Nat) (a0:List Zq) (a1:ByteArray):Option (List Int):= (Xo a0 a1 k ([]:List Int) 0).bind fun x1=> some x1
def ZpV (k:Nat) (a0:List Zq) (a1:Int):Option Bool:= (if (decide (0<=a1)) then if (decide (a1<(a0.length:Int))) then (at? a0 a1).bind fun x2=> if (!decide (x2.kind=1)) then (Vm k a0 x2.name).bind fun x3=> some (decide (1<(x3.length:Int))) else some false else some false else some false).bind fun x1=> some x1
def WK (a0:List Int) (a1:Int):Nat->Int->Option (Unit ⊕ Bool) | 0,_=>none | n_+1,x1=> if (decide (x1<(a0.length:Int))) then (at? a0 x1).bind fun x2=> if (decide (x2=a1)) then some (.inr true) else WK a0 a1 n_ (IntKind.i64.wrap (x1+1)) else some (.inl ())
def ZaA (k:Nat) (a0:List Int) (a1:Int):Option Bool:= (WK a0 a1 k 0:Option (Unit ⊕ Bool)).bind fun | .inl _=>( some false) | .inr z3=>( some z3)
def WI (a0:List Int):Nat->(List (Int×Bool))->(List Int)->Int->Option (List Int) | 0,_,_,_=>none | n_+1,x2,x3,x4=> if (decide (x4<(a0.length:Int))) then ((at? a0 x4).bind fun x7=> if (!((Ziz x2 x7).getD false)) then (Yv 8 x3 [x7]).bind fun x8=> some ((Ziy x2 x7 true),x8) else some (x2,x3)).bind fun (x5,x6)=> WI a0 n_ x5 x6 (IntKind.i64.wrap (x4+1)) else some x3
def Zay (k:Nat) (a0:List Int):Option (List Int):= (WI a0 k ([]:List (Int×Bool)) ([]:List Int) 0).bind fun x1=> (Ve x1).bind fun x9=> some x9
def WY (k:Nat) (step:Int->Option (List Int)):Nat->List Int->List Int->Nat->Option (List Int) | 0,_,_,_=>none | n_+1,out,todo,t=> if (decide (0<(todo.length:Int))) then (at? todo 0).bind fun x=> (ZaA k out x).bind fun b=> if (!b) then (Yv 8 out [x]).bind fun o=> (step x).bind fun ys=> if t+ys.length<=17592186044416 then WY k step n_ o (todo.drop 1++ys) (t+ys.length) else none else WY k step n_ out (todo.drop 1) t else some out
def ZeM (k:Nat) (step:Int->Option (List Int)) (a0:Int):Option (List Int):= (step a0).bind fun x1=> (if x1.length<=17592186044416 then WY k step k [] x1 x1.length else none).bind fun x2=> (Zay k x2).bind fun x3=> some x3
def UQ (a0:ByteArray) (a1:List ByteArray) (a20:List ByteArray):Option (List ByteArray):= (Yv 16 a20 [a0]).bind fun x1=> some x1
def Yg (rec_i_walker_visit:Zb->(List ByteArray)->(List ByteArray)->Option (List ByteArray)) (a1:Zb) (a2:List ByteArray) (x4:Bool):Nat->(List ByteArray)->Int->Option (List ByteArray) | 0,_,_=>none | n_+1,x5,x6=> if (decide (x6<(a1.args.length:Int))) then (at? a1.args x6).bind fun x7=> ((if x4 then some (decide (0<x6)) else some false).bind fun x9=> if x9 then (Yv 16 ([]:List ByteArray) a2).bind fun x10=> (Yv 16 x10 [a1.text]).bind fun x11=> some x11 else some a2).bind fun x8=> (rec_i_walker_visit x7 x8 x5).bind fun x12=> Yg rec_i_walker_visit a1 a2 x4 n_ x12 (IntKind.i64.wrap (x6+1)) else some x5
def Z4:Nat->Zb->(List ByteArray)->(List ByteArray)->Option (List ByteArray) | 0,_,_,_=>none | k+1,a1,a2,a20=> ((if (decide (a1.kind=3)) then (VC k a2 a1.text).bind fun x2=> some (decide (x2<0)) else some false).bind fun x1=> if x1 then (UQ a1.text a2 a20).bind fun x3=> some (.inr x3) else some (.inl ()):Option (Unit ⊕ (List ByteArray))).bind fun | .inl _=>( (if (decide (a1.kind=7)) then some true else some (decide (a1.kind=9))).bind fun x4=> ((if x4 then some () else some ()).bind fun _=> some ()).bind fun _=> Yg (Z4 k) a1 a2 x4 k a20 0) | .inr z13=>( some z13)
def QM (k:Nat) (a0:List ByteArray):Nat->(List ByteArray)->Int->Option (List ByteArray) | 0,_,_=>none | n_+1,x2,x3=> if (decide (x3<(a0.length:Int))) then ((at? a0 x3).bind fun x5=> (VC k a0 x5).bind fun x6=> if (decide (x6=x3)) then (Yv 16 x2 [x5]).bind fun x7=> some x7 else some x2).bind fun x4=> QM k a0 n_ x4 (IntKind.i64.wrap (x3+1)) else some x2
def V4 (k:Nat) (a0:List ByteArray):Option (List ByteArray):= (QM k a0 k ([]:List ByteArray) 0).bind fun x1=> (Xr x1).bind fun x8=> some x8
def ZaE (k:Nat) (a0:Zb):Option (List ByteArray):= (Z4 k a0 [] ([]:List ByteArray)).bind fun x1=> (V4 k x1).bind fun x2=> some x2
def J3 (k:Nat) (a0:Zq):Option (List ByteArray):= if (!decide (a0.kind=2)) then some [] else (ZaE k a0.expr).bind fun x1=> some x1
def Ux (k:Nat) (a0:List Zq) (a1:ByteArray):Option Int:= (Vm k a0 a1).bind fun x1=> if (decide ((x1.length:Int)=0)) then some (-1) else if (decide ((x1.length:Int)=1)) then (at? x1 0).bind fun x2=> some x2 else some (-2)
def Qn (k:Nat) (a0:List Zq) (x4:List ByteArray):Nat->(List Int)->Int->Option (List Int) | 0,_,_=>none | n_+1,x5,x6=> if (decide (x6<(x4.length:Int))) then ((at? x4 x6).bind fun x8=> (Ux k a0 x8).bind fun x9=> if (decide (0<=x9)) then (Yv 8 x5 [x9]).bind fun x10=> some x10 else some x5).bind fun x7=> Qn k a0 x4 n_ x7 (IntKind.i64.wrap (x6+1)) else some x5
def XU (k:Nat) (a0:List Zq) (a1:Int):Option (List Int):= (if (decide (a1<0)) then some true else some (decide ((a0.length:Int)<=a1))).bind fun x1=> if x1 then some [] else ((at? a0 a1).bind fun x3=> (J3 k x3).bind fun x4=> Qn k a0 x4 k ([]:List Int) 0).bind fun x2=> (Zay k x2).bind fun x11=> some x11
def ZfV (k:Nat) (a0:Zd) (a1:YA):Option (Zd×Int):= (Y6 k a0 a1.cell.id).bind fun x1=> if (decide (a1.kind=1)) then (YX k a1.cell).bind fun x2=> if (!x2) then some (a0,1) else if (decide (0<=x1)) then some (a0,3) else if (decide (8<=(a0.cells.length:Int))) then some (a0,4) else (UZ a0.cells a1.at_ a1.cell).bind fun x3=> some ((Zd.mk x3),0) else if (decide (x1<0)) then some (a0,2) else (at? a0.cells x1).bind fun x4=> (if (decide (a1.kind=2)) then (KN a0.cells x1).bind fun x9=> some (.inr ((Zd.mk x9),0)) else if (decide (a1.kind=3)) then (KN a0.cells x1).bind fun x10=> (UZ x10 a1.at_ x4).bind fun x11=> some (.inr ((Zd.mk x11),0)) else if (decide (a1.kind=5)) then if (!decide (x4.kind=3)) then some (.inr (a0,5)) else some (.inl (x4.version,x4.name,x4.code,a1.cell.n)) else (if (decide (a1.kind=4)) then if (decide (x4.kind=3)) then some true else some false else if (decide (a1.kind=6)) then some (!decide (x4.kind=2)) else some false).bind fun x12=> if x12 then some (.inr (a0,5)) else if (decide (999<=x4.version)) then some (.inr (a0,6)) else if (decide (a1.kind=4)) then some (.inl ((IntKind.i64.wrap (x4.version+1)),a1.cell.name,a1.cell.code,x4.n)) else some (.inl ((IntKind.i64.wrap (x4.version+1)),x4.name,x4.code,x4.n)):Option ((Int×ByteArray×ByteArray×Int) ⊕ (Zd×Int))).bind fun | .inl (x5,x6,x7,x8)=>( (YX k (Zk.mk x4.id x5 x4.kind x6 x7 x8)).bind fun x13=> if (!x13) then some (a0,1) else (YM a0).bind fun x14=> (at? x14.cells x1).bind fun x15=> some ((Zd.mk (x14.cells.set x1.toNat (Zk.mk x4.id x5 x4.kind x6 x7 x8))),0)) | .inr z16=>( some z16)
def V6 (k:Nat) (a0:Zd) (a1:YA):Option (Zd×Int):= ((QS k a0).bind fun x2=> if (!x2) then some true else (X7 a1.kind 1 6).bind fun x3=> some (!x3)).bind fun x1=> if x1 then (YM a0).bind fun x4=> some (x4,1) else (ZfV k a0 a1).bind fun x5=> (YM x5.1).bind fun x6=> some (x6,x5.2)
def YC (k:Nat) (a0:Zd) (a1:Zd):Nat->(List Int)->Int->Option (List Int) | 0,_,_=>none | n_+1,x2,x3=> if (decide (x3<(a1.cells.length:Int))) then ((at? a1.cells x3).bind fun x5=> (Y6 k a0 x5.id).bind fun x6=> (if (decide (x6<0)) then some true else (at? a0.cells x6).bind fun x8=> some (!(decide (x8.id=x5.id)&&(decide (x8.version=x5.version)&&(decide (x8.kind=x5.kind)&&(decide (x8.name=x5.name)&&(decide (x8.code=x5.code)&&decide (x8.n=x5.n)))))))).bind fun x7=> if x7 then (Yv 8 x2 [x5.id]).bind fun x9=> some x9 else some x2).bind fun x4=> YC k a0 a1 n_ x4 (IntKind.i64.wrap (x3+1)) else some x2
def QO (k:Nat) (a0:Zd) (a1:Zd):Option (List Int):= (YC k a0 a1 k ([]:List Int) 0).bind fun x1=> some x1
def Wf (k:Nat) (a0:List Zq) (a1:Int):Nat->(List Int)->Int->Option (List Int) | 0,_,_=>none | n_+1,x2,x3=> if (decide (x3<(a0.length:Int))) then ((XU k a0 x3).bind fun x5=> (ZaA k x5 a1).bind fun x6=> if x6 then (Yv 8 x2 [x3]).bind fun x7=> some x7 else some x2).bind fun x4=> Wf k a0 a1 n_ x4 (IntKind.i64.wrap (x3+1)) else some x2
def ZgC (k:Nat) (a0:List Zq) (a1:Int):Option (List Int):= (Wf k a0 a1 k ([]:List Int) 0).bind fun x1=> some x1
def Vo (k:Nat) (a0:Int) (a20:List Zq):Option (List Int):= (ZgC k a20 a0).bind fun x1=> some x1
def KV (k:Nat) (a0:List Zq) (a1:Int):Option (List Int):= ZeM k (fun x=>Vo k x a0) a1
def Qp (k:Nat) (a0:List Zq) (a1:List Int):Nat->(List Int)->Int->Option (List Int) | 0,_,_=>none | n_+1,x2,x3=> if (decide (x3<(a1.length:Int))) then ((at? a1 x3).bind fun x5=> (if (decide (0<=x5)) then some (decide (x5<(a0.length:Int))) else some false).bind fun x6=> if x6 then (Yv 8 x2 [x5]).bind fun x7=> (KV k a0 x5).bind fun x8=> (Yv 8 x7 x8).bind fun x9=> some x9 else some x2).bind fun x4=> Qp k a0 a1 n_ x4 (IntKind.i64.wrap (x3+1)) else some x2
def Vp (k:Nat) (a0:List Zq) (a1:List Int):Option (List Int):= (Qp k a0 a1 k ([]:List Int) 0).bind fun x1=> (Zay k x1).bind fun x10=> some x10
def YP (k:Nat) (a0:Zz) (x1:Zd×Int) (x2:List Zq) (x3:List Zq) (x5:List Int) (x6:List Int):Nat->(List ByteArray)->Int->Option (List ByteArray) | 0,_,_=>none | n_+1,x8,x9=> if (decide (x9<((x5++x6).length:Int))) then ((at? (x5++x6) x9).bind fun x11=> ((Y6 k a0.notebook x11).bind fun x13=> (if (decide (0<=x13)) then if (decide (x13<(x2.length:Int))) then (at? x2 x13).bind fun x15=> some (!decide (x15.kind=1)) else some false else some false).bind fun x14=> if x14 then (at? x2 x13).bind fun x16=> (Yv 16 x8 [x16.name]).bind fun x17=> some x17 else some x8).bind fun x12=> (Y6 k x1.1 x11).bind fun x18=> (if (decide (0<=x18)) then if (decide (x18<(x3.length:Int))) then (at? x3 x18).bind fun x20=> some (!decide (x20.kind=1)) else some false else some false).bind fun x19=> if x19 then (at? x3 x18).bind fun x21=> (Yv 16 x12 [x21.name]).bind fun x22=> some x22 else some x12).bind fun x10=> YP k a0 x1 x2 x3 x5 x6 n_ x10 (IntKind.i64.wrap (x9+1)) else some x8
def Qc (k:Nat) (x1:Zd×Int) (x24:List Int):Nat->(List Int)->Int->Option (List Int) | 0,_,_=>none | n_+1,x25,x26=> if (decide (x26<(x24.length:Int))) then (at? x24 x26).bind fun x27=> (Y6 k x1.1 x27).bind fun x28=> (Yv 8 x25 [x28]).bind fun x29=> Qc k x1 x24 n_ x29 (IntKind.i64.wrap (x26+1)) else some x25
def YN (k:Nat) (x4:List ByteArray) (x38:List ByteArray):Nat->Bool->Int->Option Bool | 0,_,_=>none | n_+1,x39,x40=> if (decide (x40<(x38.length:Int))) then ((at? x38 x40).bind fun x42=> if x39 then some true else (VC k x4 x42).bind fun x43=> some (decide (0<=x43))).bind fun x41=> YN k x4 x38 n_ x41 (IntKind.i64.wrap (x40+1)) else some x39
def YO (k:Nat) (x3:List Zq) (x4:List ByteArray):Nat->(List Int)->Int->Option (List Int) | 0,_,_=>none | n_+1,x31,x32=> if (decide (x32<(x3.length:Int))) then ((at? x3 x32).bind fun x34=> (if (!decide (x34.kind=1)) then (VC k x4 x34.name).bind fun x36=> some (decide (0<=x36)) else some false).bind fun x35=> ((J3 k x34).bind fun x38=> YN k x4 x38 k x35 0).bind fun x37=> if x37 then (Yv 8 x31 [x32]).bind fun x44=> some x44 else some x31).bind fun x33=> YO k x3 x4 n_ x33 (IntKind.i64.wrap (x32+1)) else some x31
def JB (k:Nat) (a0:Zz) (a1:YA):Option Int:= (V6 k a0.notebook a1).bind fun x1=> (Vn k a0.notebook).bind fun x2=> (Vn k x1.1).bind fun x3=> ((QO k a0.notebook x1.1).bind fun x5=> (QO k x1.1 a0.notebook).bind fun x6=> (Yv 8 x5 x6).bind fun x7=> YP k a0 x1 x2 x3 x5 x6 k ([]:List ByteArray) 0).bind fun x4=> ((QO k a0.notebook x1.1).bind fun x24=> Qc k x1 x24 k ([]:List Int) 0).bind fun x23=> (YO k x3 x4 k x23 0).bind fun x30=> (Vp k x3 x30).bind fun x45=> some (x45.length:Int)
end Go.Proofs.YtbkllghhcphkaaaGreatDoor
namespace Go.Proofs.YtbkllghhcphkaaaGreatDoor.Am
open Go.RowKit
section
variable {e:Env} {O O':St} {w:World} {N:Nat->Prop} {w0:Bs} {a:Act} {P:Program} {ops:Array Oper}
theorem ZI.Znl (h:ZI N w0 e O a w) {d τ τ2 n lo W:Nat} (hd:d<O.nt) {A:Arr} {v:Value} (hA:O.ar.lookup τ=some (some A)) (hv:(CV.vw τ n lo n W).rel e O w v) (hn:A.es.length=n) (h2:O.ar.lookup τ2=none) (hdp1:τ<1000000) (hdp2:τ2<1000000)
  {x:Value} {ys:List (List L)} {f:Bool} {τs:List Nat} {tx:Nat} (hs:ZqR P tx N e O w x ys W f τs) (hτ:τ∉τs) (hfl:VH A.es=true) (hfy:VH ys=true)
  {t ty et:Nat} {ei:TI} (ht:P.underlying t=some (.slice et)) (hi:ti P et=some ei) (hsz:ei.size=W) (hz:ei.zero.length=W)
  (hWA:∀z∈A.es,z.length=W) (hWy:∀z∈ys,z.length=W) (hb1:n+ys.length<=140737488355328) (hb2:(n+ys.length)*ei.bytes<=140737488355328):
  ∃v' w' e' pre,(pre=A.es.take lo\/pre=[])/\(Builtin.append_ #[t,tx] ty #[v,x]).run P w= .ok v' w'/\
   ZI N w0 e' (stA O ((d,.one (.vw τ2 (pre.length+(n-lo+ys.length)) pre.length (pre.length+(n-lo+ys.length)) W))::O.tm) τ2 ⟨A.fr,pre++(A.es.drop lo++ys)⟩ (τ::τs)) (a.put (some d) v') w':=by
 obtain ⟨us,Fx,hsrc,hrx,hgx,hox⟩:=hs.ex;have hul:=hsrc.newsLen;obtain ⟨A',hA',hr,_⟩:=hv;rw [hA] at hA';obtain rfl:=Zym hA';obtain ⟨hlo,_,p,c,q,hρ,hq,rfl⟩:=(hr A rfl).2 hn;obtain ⟨j,dd,z,j1,j2,j3,j4,j5,j6,j7⟩:=Vf hi;have jz:z.cells.size=W:=by rw [<-hz,<-j7];simp
 have hne:τ2≠τ:=fun e1=>by rw [e1,hA] at h2;cases h2
 have hd2:τ2∉τ::τs:=fun hm=>by
  rcases List.mem_cons.1 hm with e1| hm
  ·exact hne e1
  ·obtain ⟨B,hB,_⟩:=hs.lv _ hm;rw [h2] at hB;cases hB
 obtain ⟨te,xs,Fs,r1,r2,_,_,r5⟩:=(h.ar τ A hA).row hWA;have oA:OwE N w A.es xs []:=(r2.flat (N:=N) hfl).2;have oY:OwE N w ys us []:=(hrx.flat (N:=N) hfy).2;obtain ⟨x1,x2,G1,G2,rfl,hG,o1,o2⟩:=OwE.split (xs:=A.es.take lo) (ys:=A.es.drop lo) (by rw [List.take_append_drop];exact oA);obtain ⟨hG1,hG2⟩:=List.append_eq_nil_iff.1 hG.symm;subst hG1 hG2;have htl:(A.es.take lo).length=lo:=by rw [List.length_take,hn];omega
 have hdl:(A.es.drop lo).length=n-lo:=by rw [List.length_drop,hn]
 have l1:x1.length=lo*W:=by rw [o1.len,ZT fun z hz=>hWA z (List.mem_of_mem_take hz),htl]
 have l2:x2.length=(n-lo)*W:=by rw [o2.len,ZT fun z hz=>hWA z (List.mem_of_mem_drop hz),hdl]
 have hmul:lo*W+(n-lo)*W=n*W:=by rw [<-Nat.add_mul];congr 1;omega
 have htop:∀b,(e.ρ τ).ownBlock=some b->∃κ A,O.ar.lookup κ=some (some A)/\(e.ρ κ).ownBlock=some b:=fun b hb=>⟨τ,A,hA,hb⟩
 have fin:∀(v' vρ:Value) (w':World) (te':Nat) (pre:List (List L)) (xs':List Value),(pre=A.es.take lo\/pre=[])->
   (Builtin.append_ #[t,tx] ty #[.slice q (n-lo) (c-lo),x]).run P w= .ok v' w'->
   w'.ownsRow 0 te' W vρ (pre++(A.es.drop lo++ys)).length xs'->OwE N w (pre++(A.es.drop lo++ys)) xs' []->w.grownBy w' (e.ρ τ).ownBlock->
   (vρ.ownBlock=(e.ρ τ).ownBlock\/vρ.ownBlock=some w.heap.size)->(pre++(A.es.drop lo++ys)=[]->∀p n c,vρ= .slice p n c->c=0)->
   (∃p c q,vρ= .slice p (pre.length+(n-lo+ys.length)) c/\(pre.length<c\/pre.length=0->q=p.map (·.add (pre.length*W)))/\v'= .slice q (n-lo+ys.length) (c-pre.length))->
   ∃v' w' e' pre,(pre=A.es.take lo\/pre=[])/\(Builtin.append_ #[t,tx] ty #[.slice q (n-lo) (c-lo),x]).run P w= .ok v' w'/\
   ZI N w0 e' (stA O ((d,.one (.vw τ2 (pre.length+(n-lo+ys.length)) pre.length (pre.length+(n-lo+ys.length)) W))::O.tm) τ2 ⟨A.fr,pre++(A.es.drop lo++ys)⟩ (τ::τs)) (a.put (some d) v') w':=by
  intro v' vρ w' te' pre xs' hp hrun g1 g2 g3 g4 g5 ⟨p',c',q',g6,g8,g7⟩;have hpl:pre.length<=lo:=by rcases hp with rfl| rfl<;>simp;omega
  have htopρ:∀b,vρ.ownBlock=some b->(∃κ A,O.ar.lookup κ=some (some A)/\(e.ρ κ).ownBlock=some b)\/w.heap.size<=b:=fun b hb=>by
   rcases g4 with g4| g4
   ·exact .inl (htop b (g4▸hb))
   ·rw [hb] at g4;obtain rfl:=Zym g4;exact .inr (Zyr _)
  have hlen:(pre++(A.es.drop lo++ys)).length=pre.length+(n-lo+ys.length):=by rw [List.length_append,List.length_append,hdl]
  have hW':∀z∈pre++(A.es.drop lo++ys),z.length=W:=fun z hz=>by
   rcases List.mem_append.1 hz with hz| hz
   ·rcases hp with rfl| rfl
    ·exact hWA z (List.mem_of_mem_take hz)
    ·cases hz
   ·rcases List.mem_append.1 hz with hz| hz
    ·exact hWA z (List.mem_of_mem_drop hz)
    ·exact hWy z hz
  have o':OwE N w' (pre++(A.es.drop lo++ys)) xs' []:=g2.keep ⟨g3.size,fun b hb=>by cases hb⟩
  have okN:=VI.Zqv (N:=N) (M:=Mut (Zdd e τ2 vρ (match vρ.ownBlock with | some b=>if A.fr then b::[] else [b]| none=>[])) (stA O ((d,.one (.vw τ2 (pre.length+(n-lo+ys.length)) pre.length (pre.length+(n-lo+ys.length)) W))::O.tm) τ2 ⟨A.fr,pre++(A.es.drop lo++ys)⟩ (τ::τs))) (A:=⟨A.fr,pre++(A.es.drop lo++ys)⟩) (Fs:=[]) g1
   (fun b hb=>by
    rcases htopρ b hb with ⟨κ,B,q1,q2⟩| q
    ·exact ((h.ar κ B q1).own q2).2.1
    ·exact h.tn b (h.fr.new b (Nat.le_trans h.fr.size q))) hW' g5 (fun _=>⟨o',by simp,by simp⟩) (fun _=>⟨o'.rp,by simp⟩)
  refine ⟨v',w',_,pre,hp,hrun,h.ZkG (row:=(e.ρ τ).ownBlock) hdp2 (fun κ hκ=> ?_) hd2 g3 (fun b hb=>⟨τ,A,.inr (by simp),hA,hb⟩) (fun A hA'=>by rw [h2] at hA';cases hA') htopρ (fun b hb=> ?_) okN (by rw [Yn];exact h.nt) (by rw [ZY];exact h.df)
   (fun u=>KB (by rw [h.nt];exact hd) ⟨some _,by rw [Vi,if_pos rfl],fun B hB=> ?_, ?_⟩)⟩
  ·rcases List.mem_cons.1 hκ with rfl| hκ
   ·exact ⟨A,hA,hdp1⟩
   ·exact hs.lv κ hκ
  ·cases hv:vρ.ownBlock with
   | none=>rw [hv] at hb;simp at hb
   | some b'=>
    rw [hv] at hb
    have hb':b=b':=by
     cases hf:A.fr<;>simp only [hf,if_true,if_false,Zys,List.mem_singleton] at hb<;>exact hb
    subst hb';rcases g4 with g4| g4
    ·exact .inr (.inl ⟨τ,by simp,((h.ar τ A hA).own (g4▸hv)).1⟩)
    ·rw [hv] at g4;obtain rfl:=Zym g4;exact .inr (.inr (Zyr _))
  ·obtain rfl:=Zym hB;refine ⟨by rw [<-hlen];exact Zyr _,fun _=>⟨Nat.le_add_right _ _,Zyr _,p',c',q',by simp [Zdd,g6],g8, ?_⟩⟩;rw [g7,Nat.add_sub_cancel_left]
  ·exact ⟨_,_,by rw [g7,Nat.add_sub_cancel_left],by rw [Nat.add_sub_cancel_left];omega⟩
 have hpre0:A.es.take lo++(A.es.drop lo++ys)=A.es++ys:=by rw [<-List.append_assoc,List.take_append_drop]
 have hl0:(A.es.take lo++(A.es.drop lo++ys)).length=n+ys.length:=by rw [hpre0,List.length_append,hn]
 have hlen0:(A.es.take lo).length+(n-lo+ys.length)=n+ys.length:=by rw [htl];omega
 have hc:n<=c:=by
  rcases r1.2 with ⟨k1,k2⟩| ⟨g,cap,cur,k1,_,_,k2,_⟩
  ·rw [hn] at k2;omega
  ·rw [hρ] at k1;injection k1 with _ _ k1;rw [<-k1] at k2;omega
 have hfc:=hsrc.cells
 by_cases hm:ys.length=0
 ·have hys:ys=[]:=List.eq_nil_of_length_eq_zero hm;subst hys;have hus:us=[]:=List.eq_nil_of_length_eq_zero (by simpa using hul);subst hus;refine fin _ (e.ρ τ) w te (A.es.take lo) (x1++x2) (.inl rfl) ?_ (by rw [hl0];simpa [hn] using r1) (by simpa [List.take_append_drop] using oA) ⟨rfl,rfl,rfl,Zyr _,fun _ _ _=>rfl⟩ (.inl rfl) (fun he=>r5 (by simpa [List.take_append_drop] using he)) ⟨p,c,q,by rw [hlen0];simpa using hρ,by rw [htl];exact hq,rfl⟩;rw [htl];exact _root_.Go.run_append_nothing w t tx ty et j ht j1 _ (n-lo) (c-lo) (by omega) x (by rw [j5,hsz];exact hsrc)
 ·rcases r1.2 with ⟨k1,k2⟩| ⟨g,cap,cur,k1,_,hg,hnc,hcm,hcs,htake⟩
  ·
   rw [hn] at k2;rw [hρ] at k1;injection k1 with k3 _ k4
   subst k3 k4;have hlo0:lo=0:=by omega
   subst hlo0 k2;have hx2:x2=[]:=List.eq_nil_of_length_eq_zero (by simpa using l2);have hd0:A.es.drop 0=[]:=List.eq_nil_of_length_eq_zero (by simpa using hdl);have hq0:q=none:=by rw [hq (.inr rfl)];rfl
   subst hq0;have hr':=run_append_grow_src (P:=P) w t tx ty et j z ht j1 j3 none 0 0 [] (by simp [Builtin.firstCells]) x ys.length us (by rw [j5,hsz];exact hsrc) (by omega) (by omega) (growslice_fits (by omega) (by rw [j6];simpa using hb2));simp only [Nat.zero_add,List.nil_append] at hr';have hge:=grownCap_ge w ys.length 0 et;have hcm':grownCap w ys.length 0 et<=maxLen:=grownCap_le_maxLen w ys.length 0 et (by simp only [maxLen];omega);have el:([]++(A.es.drop 0++ys))=ys:=by rw [hd0];rfl
   refine fin _ (.slice (some ⟨w.heap.size,0,none⟩) ys.length (grownCap w ys.length 0 et)) (w.drew.alloc (.cells (us.toArray++Builtin.zeroCells z.cells (grownCap w ys.length 0 et-ys.length)) et)) et [] us (.inr rfl) (by simpa using hr') (by
    rw [el];refine ⟨hul,.inr ⟨w.heap.size,_,_,rfl,Nat.zero_le _,heap_alloc_new w.drew _,hge,hcm', ?_, ?_⟩⟩
    ·simp only [Array.size_append,List.size_toArray,size_zeroCells,jz,hul,<-Nat.add_mul]
     congr 1;omega
    ·simp only [Array.toList_append];rw [<-hul];exact List.take_left) (by rw [el];exact oY) ⟨rfl,rfl,rfl,by simp,fun k hk _=>Below.heap_alloc w.drew _ k hk⟩ (.inr rfl) (fun he=>by rw [el] at he;rw [he] at hm;simp at hm)
    ⟨some ⟨w.heap.size,0,none⟩,grownCap w ys.length 0 et,some ⟨w.heap.size,0,none⟩,by simp,by simp [Addr.add],by simp⟩
  ·rw [hρ] at k1;injection k1 with k3 _ k4
   subst k3 k4;rw [hn] at htake hnc
   have hbase:lo<c->q=some ⟨g,lo*W,none⟩:=fun hcl=>by
    rw [hq (.inl hcl)];simp only [Option.map_some,Addr.add]
    split
    ·rename_i h0;rw [h0]
    ·simp
   by_cases hroom:n+ys.length<=c
   ·have hcl:lo<c:=by omega
    have hfit:n*W+us.length<=cur.size:=by rw [hul,hcs,<-Nat.add_mul];exact Nat.mul_le_mul_right _ hroom
    have hst:=run_storeCells_at P g (n*W) te us 0 cur w hg (by simpa using hfit) hsrc.one;simp only [Nat.add_zero] at hst;have hroom':n-lo+ys.length<=c-lo:=by omega
    have hfc':=hfc;rw [<-hsz,<-j5] at hfc'
    have hadd:(⟨g,lo*j.size,none⟩:Addr).add ((n-lo)*j.size)=⟨g,n*W,none⟩:=by
     rw [j5,hsz,Addr.add_lit,hmul]
    have hr':(Builtin.append_ #[t,tx] ty #[.slice (some ⟨g,lo*W,none⟩) (n-lo) (c-lo),x]).run P w= .ok (.slice (some ⟨g,lo*W,none⟩) (n-lo+ys.length) (c-lo)) (w.setRow g (cur.toList.take (n*W)++us++cur.toList.drop (n*W+us.length)).toArray):=by
     rw [<-hsz,<-j5] at hst ⊢;rw [<-hsz,<-j5] at hadd;rcases hsrc.kind with ⟨e',hk⟩| hk<;>simp [Builtin.append_,run_underlying ht,run_underlying hk,sizeOf,typeInfo,j1,hsrc.len,hroom',hfc',hadd,hst]
    refine fin (.slice (some ⟨g,lo*W,none⟩) (n-lo+ys.length) (c-lo)) (.slice (some ⟨g,0,none⟩) (n+ys.length) c) (w.setRow g (cur.toList.take (n*W)++us++cur.toList.drop (n*W+us.length)).toArray) te (A.es.take lo) (x1++x2++us) (.inl rfl) (by rw [hbase hcl];exact hr') (by
     rw [hl0];refine ⟨by rw [List.length_append,List.length_append,l1,l2,hul,hmul,Nat.add_mul],.inr ⟨g,c,_,rfl,Nat.zero_le _,setRow_heap w g cur _ te _ hg,hroom,hcm, ?_, ?_⟩⟩
     ·simp only [List.size_toArray,List.length_append,List.length_take,List.length_drop,Array.length_toList];omega
     ·rw [htake];have:(n+ys.length)*W=(x1++x2++us).length:=by rw [List.length_append,List.length_append,l1,l2,hul,hmul,Nat.add_mul]
      rw [this];exact List.take_left) (by have:=(o1.append o2).append oY;rw [List.append_assoc] at this;exact this) ⟨rfl,rfl,rfl,by simp,fun k _ hk=>setRow_other w g k _ (fun e=>hk (by rw [hρ];simp [Value.ownBlock,e]))⟩ (.inl (by rw [hρ];rfl)) (fun he=>by
      have:=congrArg List.length he;rw [hl0] at this;have h9:n+ys.length=0:=this;omega)
     ⟨some ⟨g,0,none⟩,c,some ⟨g,lo*W,none⟩,by rw [hlen0],fun hh=>by rw [htl,<-hbase hcl];exact hq (by rw [htl] at hh;exact hh),by rw [htl]⟩
   ·have hb2':(n-lo+ys.length)*j.bytes<=140737488355328:=by rw [j6];exact Nat.le_trans (Nat.mul_le_mul_right _ (by omega)) hb2
    have hold:(Builtin.firstCells j.size (n-lo) (.slice q (n-lo) (c-lo))).run P w.drew= .ok x2.toArray w.drew:=by
     rw [j5,hsz]
     by_cases hcl:¬lo<c
     ·have:n-lo=0:=by omega
      have hx:x2=[]:=List.eq_nil_of_length_eq_zero (by rw [l2,this];simp);rw [this,hx];cases q with
      | none=>simp [Builtin.firstCells]
      | some ad=>exact run_firstCells_some w.drew W 0 _ _ _ [] (by simp) (by simp)
     ·rw [hbase (by omega)];refine run_firstCells_some w.drew W (n-lo) ⟨g,lo*W,none⟩ _ _ x2 l2 fun k u hu=> ?_;rw [Addr.add_lit];have hk:(x1++x2)[lo*W+k]? =some u:=by rw [List.getElem?_append_right (by omega),l1];simpa using hu
      have:=cell_of_row w g (lo*W+k) cur te (0,0) hg;show w.cell? _=_;rw [this]
      have hkl:lo*W+k<n*W:=by
       have:=(List.getElem?_eq_some_iff.1 hu).1;omega
      have h3:(cur.toList.take (n*W))[lo*W+k]? =some u:=by rw [htake];exact hk
      rw [List.getElem?_take_of_lt hkl] at h3
      simpa using h3
    have hr':=run_append_grow_src (P:=P) w t tx ty et j z ht j1 j3 _ (n-lo) (c-lo) x2 hold x ys.length us (by rw [j5,hsz];exact hsrc) (by omega) (by omega) (growslice_fits (by omega) hb2');have hge:=grownCap_ge w (n-lo+ys.length) (c-lo) et;have hcm':grownCap w (n-lo+ys.length) (c-lo) et<=maxLen:=grownCap_le_maxLen w (n-lo+ys.length) (c-lo) et (by simp only [maxLen];omega);have el:([]++(A.es.drop lo++ys):List (List L))=A.es.drop lo++ys:=rfl;have hll:(x2++us).length=(n-lo+ys.length)*W:=by rw [List.length_append,l2,hul,Nat.add_mul]
    refine fin _ (.slice (some ⟨w.heap.size,0,none⟩) (n-lo+ys.length) (grownCap w (n-lo+ys.length) (c-lo) et)) _ et [] (x2++us) (.inr rfl) hr' (by
     rw [el,List.length_append,hdl];refine ⟨hll,.inr ⟨w.heap.size,_,_,rfl,Nat.zero_le _,heap_alloc_new w.drew _,hge,hcm', ?_, ?_⟩⟩
     ·simp only [Array.size_append,List.size_toArray,size_zeroCells,jz,hll,<-Nat.add_mul]
      congr 1;omega
     ·simp only [Array.toList_append];rw [<-hll];exact List.take_left) (by rw [el];exact o2.append oY) ⟨rfl,rfl,rfl,by simp,fun k hk _=>Below.heap_alloc w.drew _ k hk⟩ (.inr rfl) (fun he=>by
      have:=congrArg List.length he;rw [el,List.length_append] at this;have h9:(A.es.drop lo).length+ys.length=0:=this;omega)
     ⟨some ⟨w.heap.size,0,none⟩,grownCap w (n-lo+ys.length) (c-lo) et,some ⟨w.heap.size,0,none⟩,by simp,by simp [Addr.add],by simp⟩
def vaD (P:Program) (ops:Array Oper) (rest:List Oper) (O:St) (K:St->Prop) (d τ n lo hi W:Nat) (ei:TI) (A:Arr):Option (List (List L)×Bool×List Nat×Prop)->Prop
 | some (ys,f,τs,q)=>q/\hi=n/\A.es.length=n/\W=ei.size/\ei.zero.length=ei.size/\d<O.nt/\O.ar.lookup (64*d)=none/\τ<1000000/\64*d<1000000/\τ∉τs/\VH A.es=true/\VH ys=true/\
   (∀z∈A.es,z.length=ei.size)/\(∀z∈ys,z.length=ei.size)/\n+ys.length<=140737488355328/\(n+ys.length)*ei.bytes<=140737488355328/\
   ∀pre,(pre=A.es.take lo\/pre=[])->Z8 P ops rest (O.app ⟨True,[(d,.one (.vw (64*d) (pre.length+(n-lo+ys.length)) pre.length (pre.length+(n-lo+ys.length)) W))],[],(64*d,some ⟨A.fr,pre++(A.es.drop lo++ys)⟩)::(τ,none)::τs.map fun κ=>(κ,none)⟩) K
 | none=>False
def vaC (P:Program) (ops:Array Oper) (rest:List Oper) (O:St) (K:St->Prop) (d t t' τ n lo hi W:Nat) (xv:V):Option TI->Option (Option Arr)->Prop
 | some ei,some (some A)=>vaD P ops rest O K d τ n lo hi W ei A (ZlF P O ei t t' xv)
 | _,_=>False
def vaB (P:Program) (ops:Array Oper) (rest:List Oper) (O:St) (K:St->Prop) (d t t':Nat):Option TI->Option V->Option V->Prop
 | some ⟨.slice et,_,_,_⟩,some (.one (.vw τ n lo hi W)),some xv=>vaC P ops rest O K d t t' τ n lo hi W xv (ti P et) (O.ar.lookup τ)
 | _,_,_=>False
def vaA (P:Program) (ops:Array Oper) (rest:List Oper) (O:St) (K:St->Prop) (d:Nat):List Operand->List TypeId->Prop
 | [s,x],[t,t']=>vaB P ops rest O K d t t' (ti P t) (opd O s) (opd O x)
 | _,_=>False
def vaK (P:Program) (ops:Array Oper) (O:St) (K:St->Prop):List Oper->Prop
 | ⟨some d,.call { callee:=.builtin .append,args:=xs,argTypes:=ts},_,_,_,none⟩::rest=>vaA P ops rest O K d xs.toList ts.toList
 | _=>False
theorem ZnC {Q:Exit->Act->World->Prop} {l:List Oper} {K:St->Prop} (hw:vaK P ops O K l) (hs:Sim N w0 O a w) (hQ:∀O' a' w',K O'->Sim N w0 O' a' w'->Q .normal a' w'):wpList P ops Q l a w:=by
 obtain ⟨e,h⟩:=hs;unfold vaK at hw
 split at hw
 ·rename_i d xs ts ty pos af rest;unfold vaA at hw
  split at hw
  ·rename_i s x t t' hxs hts;unfold vaB at hw
   split at hw
   ·rename_i et _ _ _ τ n lo hi W xv hti hsv hxv;unfold vaC at hw
    split at hw
    ·rename_i ei A hei hA;unfold vaD at hw
     split at hw
     ·rename_i ys f τs q hsrc;obtain ⟨c1,rfl,c3,rfl,c5,c6,c7,c8,c9,c10,c11,c12,c13,c14,c15,c16,hrest⟩:=hw;have ht:=Wi hti;have src:=Zb9 h (ZB h hxv) hsrc c1 c14 ht;obtain ⟨v',w',e',pre,k0,k1,k2⟩:=h.Znl (P:=P) (ty:=ty) c6 hA (ZB h hsv) c3 c7 c8 c9 src c10 c11 c12 ht hei rfl c5 c13 c14 c15 c16;refine wpList_step fun K' hK'=> ?_;simp only [Region.wanted,if_true]
      have hex:(execOp a.eval ⟨some d,.call { callee:=.builtin .append,args:=xs,argTypes:=ts},ty,pos,af,none⟩).run P w= .ok (.value v') w':=by
       have e1:xs.map a.eval= #[a.eval s,a.eval x]:=by rw [<-Array.toList_inj];simp [hxs]
       have e2:ts= #[t,t']:=by rw [<-Array.toList_inj];simp [hts]
       subst e2;simp [execOp,resolve,invoke,builtin,e1,k1,Sem.run_bind,Result.andThen]
      unfold Oper.wp;rw [hex,Oper.upon_value];exact hK' _ _ (J7 (hrest pre k0) ⟨e',k2⟩ hQ)
     ·exact hw.elim
    ·exact hw.elim
   ·exact hw.elim
  ·exact hw.elim
 ·exact hw.elim
theorem ZsF {Q:Exit->St->Prop} {id:Nat} {l:List Oper} (n:Nat) (h:Z8 P l.toArray (l.take n) O (fun O1=>vaK P l.toArray O1 (fun O'=>Q .normal O') (l.drop n))):AW P N w0 (.region id l.toArray false) Q O:=fun a w hs=>by
 refine wp_region_lit ?_;have:=Zc9 (Q:=fun e a w=>∃O',Q e O'/\Sim N w0 O' a w) (tail:=l.drop n) h hs fun O' a' w' h1 h2=>ZnC h1 h2 fun O' a' w' h1 h2=>⟨O',h1,h2⟩
 rwa [List.take_append_drop] at this
theorem ZpG {t τ n W:Nat} (ht:O.tm.lookup t=some (.one (.own τ n))):ZfC ⟨O.nt,(t,.one (.vw τ n 0 n W))::O.tm,O.bx,O.ar⟩ O:=fun N w0 a w ⟨e,h⟩=>by
 have u:=Zpm e O w ((t,.one (.vw τ n 0 n W))::O.tm) O.nt;refine ⟨e,h.nt,h.df,fun s y hy=> ?_,fun k cs hk=>⟨(h.bx k cs hk).1,(h.bx k cs hk).2.up u⟩,h.ar,h.sep,h.fr,h.bad,h.dk,h.pn,h.tn,h.tp⟩;rw [lookup_cons] at hy
 by_cases hs:s=t
 ·subst hs;rw [if_pos rfl] at hy;obtain rfl:=Zym hy;obtain ⟨A,h1,h2,p,c,h3,h4⟩:=h.tm s _ ht;refine ⟨A,h1,fun B hB=>⟨(h2 B hB).1,fun hn=> ?_⟩,p,c,by simpa using h3,by simpa using h4⟩;refine ⟨Nat.zero_le _,Zyr _,p,c,p, ?_,fun _=> ?_,by simpa using h3⟩
  ·rw [<-(h2 B hB).2 hn];exact h3
  ·cases p with
   | none=>rfl
   | some ad=>simp [Addr.add]
 ·rw [if_neg hs] at hy;exact (h.tm s y hy).up u
end
section
variable {P:Program} {ops:Array Oper} {rest:List Oper} {O:St} {K:St->Prop} {d t t' τ n lo hi W:Nat} {ei:TI} {A:Arr} {xv:V}
theorem ZuZ {ys:List (List L)} {f:Bool} {τs:List Nat} {q:Prop}:vaD P ops rest O K d τ n lo hi W ei A (some (ys,f,τs,q))=(q/\hi=n/\A.es.length=n/\W=ei.size/\ei.zero.length=ei.size/\d<O.nt/\O.ar.lookup (64*d)=none/\τ<1000000/\64*d<1000000/\τ∉τs/\VH A.es=true/\VH ys=true/\
   (∀z∈A.es,z.length=ei.size)/\(∀z∈ys,z.length=ei.size)/\n+ys.length<=140737488355328/\(n+ys.length)*ei.bytes<=140737488355328/\
   ∀pre,(pre=A.es.take lo\/pre=[])->Z8 P ops rest (O.app ⟨True,[(d,.one (.vw (64*d) (pre.length+(n-lo+ys.length)) pre.length (pre.length+(n-lo+ys.length)) W))],[],(64*d,some ⟨A.fr,pre++(A.es.drop lo++ys)⟩)::(τ,none)::τs.map fun κ=>(κ,none)⟩) K):=rfl
theorem Zu0:vaC P ops rest O K d t t' τ n lo hi W xv (some ei) (some (some A))=vaD P ops rest O K d τ n lo hi W ei A (ZlF P O ei t t' xv):=rfl
theorem Zu1 {et a b:Nat} {c:List Value}:vaB P ops rest O K d t t' (some ⟨.slice et,a,b,c⟩) (some (.one (.vw τ n lo hi W))) (some xv)=vaC P ops rest O K d t t' τ n lo hi W xv (ti P et) (O.ar.lookup τ):=rfl
theorem Zu2 {s x:Operand}:vaA P ops rest O K d [s,x] [t,t']=vaB P ops rest O K d t t' (ti P t) (opd O s) (opd O x):=rfl
theorem ZuY {xs:Array Operand} {ts:Array TypeId} {ty:TypeId} {pos:String} {af:Array Edge}:vaK P ops O K (⟨some d,.call { callee:=.builtin .append,args:=xs,argTypes:=ts},ty,pos,af,none⟩::rest)=vaA P ops rest O K d xs.toList ts.toList:=rfl
end
attribute [go_sem] ZuZ Zu0 Zu1 Zu2 ZuY
end Go.Proofs.YtbkllghhcphkaaaGreatDoor.Am
namespace Go.Proofs
open Go.Shelf
def Tryz.Zk1:Go.Shelf.Ren:=⟨fun | 137=>263| 217=>287| 266=>310| n=>n,fun | 9=>9| 5=>5| 3=>3| n=>n,fun | n=>n⟩
theorem Tryz.ZrO:Go.Proofs.Lays.n137 Tryz.prog Tryz.Zk1:={
 mixed:=by kernel_rfl
 f137:=Tryz.func263.trans (congrArg some (by kernel_rfl))
 f217:=Tryz.func287.trans (congrArg some (by kernel_rfl))
 f266:=Tryz.func310.trans (congrArg some (by kernel_rfl))
 t3:=Tryz.underlying3
 a3:=Tryz.isAgg3
 z3:=Tryz.sizeOf3
 v3:=Tryz.zeroValue3
 t5:=Tryz.underlying5
 a5:=Tryz.isAgg5
 z5:=Tryz.sizeOf5
 v5:=Tryz.zeroValue5
 t9:=Tryz.underlying9
 a9:=Tryz.isAgg9
 z9:=Tryz.sizeOf9
 v9:=Tryz.zeroValue9}
open Go.RowKit in
theorem Tryz.strings_IndexByte (s:ByteArray) (c:Int) (w:World):
  Calls Tryz.prog 263 #[.string s,.int .u8 c] w fun e w'=>e= .returned (.int .i64 (Lib.indexByte s.data.toList c.toNat.toUInt8))/\w'=w:=Any.strings_IndexByte Tryz.ZrO s c w
def Tryz.ZrM:Go.Shelf.Ren:=⟨fun | 172=>271| 244=>294| 245=>295| 247=>316| 279=>317| 280=>318| 281=>319| 282=>320| 287=>330| 316=>331| 171=>272| 205=>332| 321=>338| 322=>339| 243=>296| 246=>321| 283=>333| 284=>334| 285=>335| 286=>336| 129=>245| 317=>340| 318=>341| 319=>342| 320=>343| 337=>344| 338=>345| n=>n,fun | 9=>9| 3=>3| 75=>280| 76=>281| 4=>4| 5=>5| 167=>309| 37=>168| 0=>0| 85=>310| 2=>2| 168=>312| 53=>262| 175=>327| 46=>218| 210=>331| 127=>339| 145=>342| 143=>340| 21=>21| 171=>333| 173=>335| 212=>344| 51=>260| 20=>20| 213=>345| 232=>346| 233=>347| 80=>247| n=>n,fun | 15=>3| 16=>4| 17=>5| 18=>6| 19=>7| n=>n⟩
def Tryz.ZqE:Go.Shelf.Ren:=⟨fun | 246=>321| 283=>333| 284=>334| 285=>335| 286=>336| 129=>245| 317=>340| 318=>341| 319=>342| 320=>343| 337=>344| 338=>345| n=>n,fun | 2=>2| 3=>3| 9=>9| 4=>4| 171=>333| 0=>0| 53=>262| 37=>168| 5=>5| 173=>335| 212=>344| 51=>260| 20=>20| 213=>345| 46=>218| 232=>346| 233=>347| n=>n,fun | 17=>5| 18=>6| 19=>7| n=>n⟩
def Tryz.ZqF:Go.Shelf.Ren:=⟨fun | 243=>296| 246=>321| 283=>333| 284=>334| 285=>335| 286=>336| 129=>245| 317=>340| 318=>341| 319=>342| 320=>343| 337=>344| 338=>345| n=>n,fun | 3=>3| 9=>9| 2=>2| 4=>4| 171=>333| 0=>0| 53=>262| 37=>168| 5=>5| 173=>335| 212=>344| 51=>260| 20=>20| 213=>345| 46=>218| 232=>346| 233=>347| n=>n,fun | 17=>5| 18=>6| 19=>7| n=>n⟩
def Tryz.ZjV:Go.Shelf.Ren:=⟨fun | 171=>272| 243=>296| 246=>321| 283=>333| 284=>334| 285=>335| 286=>336| 129=>245| 317=>340| 318=>341| 319=>342| 320=>343| 337=>344| 338=>345| n=>n,fun | 3=>3| 9=>9| 2=>2| 4=>4| 171=>333| 0=>0| 53=>262| 37=>168| 5=>5| 173=>335| 212=>344| 51=>260| 20=>20| 213=>345| 46=>218| 232=>346| 233=>347| n=>n,fun | 17=>5| 18=>6| 19=>7| n=>n⟩
theorem Tryz.ZpP:Go.Proofs.LaysM.n171 Tryz.prog Tryz.ZjV:={
 mixed:=by kernel_rfl
 f129:=Tryz.func245.trans (congrArg some (by kernel_rfl))
 f171:=Tryz.func272.trans (congrArg some (by kernel_rfl))
 f243:=Tryz.func296.trans (congrArg some (by kernel_rfl))
 f246:=Tryz.func321.trans (congrArg some (by kernel_rfl))
 f283:=Tryz.func333.trans (congrArg some (by kernel_rfl))
 f284:=Tryz.func334.trans (congrArg some (by kernel_rfl))
 f285:=Tryz.func335.trans (congrArg some (by kernel_rfl))
 f286:=Tryz.func336.trans (congrArg some (by kernel_rfl))
 f317:=Tryz.func340.trans (congrArg some (by kernel_rfl))
 f318:=Tryz.func341.trans (congrArg some (by kernel_rfl))
 f319:=Tryz.func342.trans (congrArg some (by kernel_rfl))
 f320:=Tryz.func343.trans (congrArg some (by kernel_rfl))
 f337:=Tryz.func344.trans (congrArg some (by kernel_rfl))
 f338:=Tryz.func345.trans (congrArg some (by kernel_rfl))
 t0:=Tryz.underlying0
 a0:=Tryz.isAgg0
 z0:=Tryz.sizeOf0
 v0:=Tryz.zeroValue0
 t2:=Tryz.underlying2
 a2:=Tryz.isAgg2
 z2:=Tryz.sizeOf2
 v2:=Tryz.zeroValue2
 t3:=Tryz.underlying3
 a3:=Tryz.isAgg3
 z3:=Tryz.sizeOf3
 v3:=Tryz.zeroValue3
 t4:=Tryz.underlying4
 a4:=Tryz.isAgg4
 z4:=Tryz.sizeOf4
 v4:=Tryz.zeroValue4
 t5:=Tryz.underlying5
 a5:=Tryz.isAgg5
 z5:=Tryz.sizeOf5
 v5:=Tryz.zeroValue5
 t9:=Tryz.underlying9
 a9:=Tryz.isAgg9
 z9:=Tryz.sizeOf9
 v9:=Tryz.zeroValue9
 t20:=Tryz.underlying20
 a20:=Tryz.isAgg20
 z20:=Tryz.sizeOf20
 v20:=Tryz.zeroValue20
 t37:=Tryz.underlying168
 a37:=Tryz.isAgg168
 z37:=Tryz.sizeOf168
 v37:=Tryz.zeroValue168
 t46:=Tryz.underlying218
 a46:=Tryz.isAgg218
 z46:=Tryz.sizeOf218
 v46:=Tryz.zeroValue218
 t51:=Tryz.underlying260
 a51:=Tryz.isAgg260
 z51:=Tryz.sizeOf260
 v51:=Tryz.zeroValue260
 t53:=Tryz.underlying262
 a53:=Tryz.isAgg262
 z53:=Tryz.sizeOf262
 v53:=Tryz.zeroValue262
 t171:=Tryz.underlying333
 a171:=Tryz.isAgg333
 z171:=Tryz.sizeOf333
 v171:=Tryz.zeroValue333
 t173:=Tryz.underlying335
 a173:=Tryz.isAgg335
 z173:=Tryz.sizeOf335
 v173:=Tryz.zeroValue335
 t212:=Tryz.underlying344
 a212:=Tryz.isAgg344
 z212:=Tryz.sizeOf344
 v212:=Tryz.zeroValue344
 t213:=Tryz.underlying345
 a213:=Tryz.isAgg345
 z213:=Tryz.sizeOf345
 t232:=Tryz.underlying346
 a232:=Tryz.isAgg346
 z232:=Tryz.sizeOf346
 v232:=Tryz.zeroValue346
 t233:=Tryz.underlying347
 a233:=Tryz.isAgg347
 z233:=Tryz.sizeOf347
 v233:=Tryz.zeroValue347
 g17:=by kernel_rfl
 g18:=by kernel_rfl
 g19:=by kernel_rfl
 i0:=by kernel_rfl
 i2:=by kernel_rfl
 i3:=by kernel_rfl
 i4:=by kernel_rfl
 i5:=by kernel_rfl
 i9:=by kernel_rfl
 i20:=by kernel_rfl
 i37:=by kernel_rfl
 i46:=by kernel_rfl
 i51:=by kernel_rfl
 i53:=by kernel_rfl
 i171:=by kernel_rfl
 i173:=by kernel_rfl
 i212:=by kernel_rfl
 i232:=by kernel_rfl
 i233:=by kernel_rfl
 m17:=by kernel_rfl
 m18:=by kernel_rfl
 m19:=by kernel_rfl}
open Go.RowKit Go.Sort Go.Lib in
theorem Tryz.strconv_Itoa (n:Int) (h0: -9223372036854775808<=n) (h1:n<=9223372036854775807) (w:World) (htab:Lib.TabIs Tryz.prog w "internal/strconv.uint64pow10" .u64 Lib.pow10Tab):
  Calls Tryz.prog 272 #[.int .i64 n] w fun e w'=>e= .returned (.string ⟨(Lib.itoa n).toArray⟩)/\∃k os,w'=grow (w.drewN k) os:=Any.strconv_Itoa Tryz.ZpP n h0 h1 w htab
def Tryz.ZjW:Go.Shelf.Ren:=⟨fun | 172=>271| 244=>294| 245=>295| 247=>316| 279=>317| 280=>318| 281=>319| 282=>320| 287=>330| 316=>331| 171=>272| 205=>332| 321=>338| 322=>339| 243=>296| 246=>321| 283=>333| 284=>334| 285=>335| 286=>336| 129=>245| 317=>340| 318=>341| 319=>342| 320=>343| 337=>344| 338=>345| n=>n,fun | 9=>9| 3=>3| 75=>280| 76=>281| 4=>4| 5=>5| 167=>309| 37=>168| 0=>0| 85=>310| 2=>2| 168=>312| 53=>262| 175=>327| 46=>218| 210=>331| 127=>339| 145=>342| 143=>340| 21=>21| 171=>333| 173=>335| 212=>344| 51=>260| 20=>20| 213=>345| 232=>346| 233=>347| 80=>247| n=>n,fun | 15=>3| 16=>4| 17=>5| 18=>6| 19=>7| n=>n⟩
theorem Tryz.ZiC:Go.Proofs.LaysC.n172 Tryz.prog Tryz.ZjW:={
 mixed:=by kernel_rfl
 f129:=Tryz.func245.trans (congrArg some (by kernel_rfl))
 f171:=Tryz.func272.trans (congrArg some (by kernel_rfl))
 f172:=Tryz.func271.trans (congrArg some (by kernel_rfl))
 f205:=Tryz.func332.trans (congrArg some (by kernel_rfl))
 f243:=Tryz.func296.trans (congrArg some (by kernel_rfl))
 f244:=Tryz.func294.trans (congrArg some (by kernel_rfl))
 f245:=Tryz.func295.trans (congrArg some (by kernel_rfl))
 f246:=Tryz.func321.trans (congrArg some (by kernel_rfl))
 f247:=Tryz.func316.trans (congrArg some (by kernel_rfl))
 f279:=Tryz.func317.trans (congrArg some (by kernel_rfl))
 f280:=Tryz.func318.trans (congrArg some (by kernel_rfl))
 f281:=Tryz.func319.trans (congrArg some (by kernel_rfl))
 f282:=Tryz.func320.trans (congrArg some (by kernel_rfl))
 f283:=Tryz.func333.trans (congrArg some (by kernel_rfl))
 f284:=Tryz.func334.trans (congrArg some (by kernel_rfl))
 f285:=Tryz.func335.trans (congrArg some (by kernel_rfl))
 f286:=Tryz.func336.trans (congrArg some (by kernel_rfl))
 f287:=Tryz.func330.trans (congrArg some (by kernel_rfl))
 f316:=Tryz.func331.trans (congrArg some (by kernel_rfl))
 f317:=Tryz.func340.trans (congrArg some (by kernel_rfl))
 f318:=Tryz.func341.trans (congrArg some (by kernel_rfl))
 f319:=Tryz.func342.trans (congrArg some (by kernel_rfl))
 f320:=Tryz.func343.trans (congrArg some (by kernel_rfl))
 f321:=Tryz.func338.trans (congrArg some (by kernel_rfl))
 f322:=Tryz.func339.trans (congrArg some (by kernel_rfl))
 f337:=Tryz.func344.trans (congrArg some (by kernel_rfl))
 f338:=Tryz.func345.trans (congrArg some (by kernel_rfl))
 t0:=Tryz.underlying0
 a0:=Tryz.isAgg0
 z0:=Tryz.sizeOf0
 v0:=Tryz.zeroValue0
 t2:=Tryz.underlying2
 a2:=Tryz.isAgg2
 z2:=Tryz.sizeOf2
 v2:=Tryz.zeroValue2
 t3:=Tryz.underlying3
 a3:=Tryz.isAgg3
 z3:=Tryz.sizeOf3
 v3:=Tryz.zeroValue3
 t4:=Tryz.underlying4
 a4:=Tryz.isAgg4
 z4:=Tryz.sizeOf4
 v4:=Tryz.zeroValue4
 t5:=Tryz.underlying5
 a5:=Tryz.isAgg5
 z5:=Tryz.sizeOf5
 v5:=Tryz.zeroValue5
 t9:=Tryz.underlying9
 a9:=Tryz.isAgg9
 z9:=Tryz.sizeOf9
 v9:=Tryz.zeroValue9
 t20:=Tryz.underlying20
 a20:=Tryz.isAgg20
 z20:=Tryz.sizeOf20
 v20:=Tryz.zeroValue20
 t21:=Tryz.underlying21
 a21:=Tryz.isAgg21
 z21:=Tryz.sizeOf21
 v21:=Tryz.zeroValue21
 t37:=Tryz.underlying168
 a37:=Tryz.isAgg168
 z37:=Tryz.sizeOf168
 v37:=Tryz.zeroValue168
 t46:=Tryz.underlying218
 a46:=Tryz.isAgg218
 z46:=Tryz.sizeOf218
 v46:=Tryz.zeroValue218
 t51:=Tryz.underlying260
 a51:=Tryz.isAgg260
 z51:=Tryz.sizeOf260
 v51:=Tryz.zeroValue260
 t53:=Tryz.underlying262
 a53:=Tryz.isAgg262
 z53:=Tryz.sizeOf262
 v53:=Tryz.zeroValue262
 t75:=Tryz.underlying280
 a75:=Tryz.isAgg280
 z75:=Tryz.sizeOf280
 v75:=Tryz.zeroValue280
 t76:=Tryz.underlying281
 a76:=Tryz.isAgg281
 z76:=Tryz.sizeOf281
 v76:=Tryz.zeroValue281
 t85:=Tryz.underlying310
 a85:=Tryz.isAgg310
 z85:=Tryz.sizeOf310
 v85:=Tryz.zeroValue310
 t127:=Tryz.underlying339
 a127:=Tryz.isAgg339
 z127:=Tryz.sizeOf339
 v127:=Tryz.zeroValue339
 t143:=Tryz.underlying340
 a143:=Tryz.isAgg340
 z143:=Tryz.sizeOf340
 v143:=Tryz.zeroValue340
 t145:=Tryz.underlying342
 a145:=Tryz.isAgg342
 z145:=Tryz.sizeOf342
 v145:=Tryz.zeroValue342
 t167:=Tryz.underlying309
 a167:=Tryz.isAgg309
 z167:=Tryz.sizeOf309
 v167:=Tryz.zeroValue309
 t168:=Tryz.underlying312
 a168:=Tryz.isAgg312
 z168:=Tryz.sizeOf312
 v168:=Tryz.zeroValue312
 t171:=Tryz.underlying333
 a171:=Tryz.isAgg333
 z171:=Tryz.sizeOf333
 v171:=Tryz.zeroValue333
 t173:=Tryz.underlying335
 a173:=Tryz.isAgg335
 z173:=Tryz.sizeOf335
 v173:=Tryz.zeroValue335
 t175:=Tryz.underlying327
 a175:=Tryz.isAgg327
 z175:=Tryz.sizeOf327
 v175:=Tryz.zeroValue327
 t210:=Tryz.underlying331
 a210:=Tryz.isAgg331
 z210:=Tryz.sizeOf331
 v210:=Tryz.zeroValue331
 t212:=Tryz.underlying344
 a212:=Tryz.isAgg344
 z212:=Tryz.sizeOf344
 v212:=Tryz.zeroValue344
 t213:=Tryz.underlying345
 a213:=Tryz.isAgg345
 z213:=Tryz.sizeOf345
 t232:=Tryz.underlying346
 a232:=Tryz.isAgg346
 z232:=Tryz.sizeOf346
 v232:=Tryz.zeroValue346
 t233:=Tryz.underlying347
 a233:=Tryz.isAgg347
 z233:=Tryz.sizeOf347
 v233:=Tryz.zeroValue347
 g15:=by kernel_rfl
 g16:=by kernel_rfl
 g17:=by kernel_rfl
 g18:=by kernel_rfl
 g19:=by kernel_rfl
 t80:=Tryz.underlying247
 a80:=Tryz.isAgg247
 z80:=Tryz.sizeOf247
 v80:=Tryz.zeroValue247
 i0:=by kernel_rfl
 i2:=by kernel_rfl
 i3:=by kernel_rfl
 i4:=by kernel_rfl
 i5:=by kernel_rfl
 i9:=by kernel_rfl
 i20:=by kernel_rfl
 i21:=by kernel_rfl
 i37:=by kernel_rfl
 i46:=by kernel_rfl
 i51:=by kernel_rfl
 i53:=by kernel_rfl
 i75:=by kernel_rfl
 i76:=by kernel_rfl
 i80:=by kernel_rfl
 i85:=by kernel_rfl
 i127:=by kernel_rfl
 i143:=by kernel_rfl
 i145:=by kernel_rfl
 i167:=by kernel_rfl
 i168:=by kernel_rfl
 i171:=by kernel_rfl
 i173:=by kernel_rfl
 i175:=by kernel_rfl
 i210:=by kernel_rfl
 i212:=by kernel_rfl
 i232:=by kernel_rfl
 i233:=by kernel_rfl
 m15:=by kernel_rfl
 m16:=by kernel_rfl
 m17:=by kernel_rfl
 m18:=by kernel_rfl
 m19:=by kernel_rfl
 c0:=by kernel_rfl
 c2:=by kernel_rfl
 c3:=by kernel_rfl
 c4:=by kernel_rfl
 c5:=by kernel_rfl
 c9:=by kernel_rfl
 c20:=by kernel_rfl
 c21:=by kernel_rfl
 c37:=by kernel_rfl
 c46:=by kernel_rfl
 c51:=by kernel_rfl
 c53:=by kernel_rfl
 c75:=by kernel_rfl
 c76:=by kernel_rfl
 c80:=by kernel_rfl
 c85:=by kernel_rfl
 c127:=by kernel_rfl
 c143:=by kernel_rfl
 c145:=by kernel_rfl
 c167:=by kernel_rfl
 c168:=by kernel_rfl
 c171:=by kernel_rfl
 c173:=by kernel_rfl
 c175:=by kernel_rfl
 c210:=by kernel_rfl
 c212:=by kernel_rfl
 c213:=by kernel_rfl
 c232:=by kernel_rfl
 c233:=by kernel_rfl}
open Go.RowKit in
theorem Tryz.strconv_Atoi_ok (s:ByteArray) (hmax:s.size<=9223372036854775806) (v:Int) (h:Lib.atoiAll s.data.toList= .ok v) (w:World):
  Calls Tryz.prog 271 #[.string s] w fun e w'=>e= .returned (.tuple #[.int .i64 v,.nilIface])/\(w'=w\/∃t,w'=Lib.bytesWorld w 5 t):=Any.strconv_Atoi_ok Tryz.ZiC s hmax v h w
open Go.RowKit in
theorem Tryz.strconv_Atoi_syntax (s:ByteArray) (hlim:s.size<=281474976710656) (h:Lib.atoiAll s.data.toList= .«syntax») (ev:Value) (w:World) (hv:w.cell? ⟨3,0,none⟩=some ev) (hev:ev= .nilIface\/∃te pe,ev= .iface te pe):
  Calls Tryz.prog 271 #[.string s] w fun e w'=>∃N,e= .returned (.tuple #[.int .i64 (0),.iface 312 (.pointer (some ⟨N,0,none⟩))])/\w.heap.size<=N/\w'.heap[N]? =some (.cells #[.string ⟨#[65,116,111,105]⟩,.string s,ev] 331 (0,0))/\Below w.heap.size w w':=Any.strconv_Atoi_syntax Tryz.ZiC s hlim h ev w hv hev
open Go.RowKit in
theorem Tryz.strconv_Atoi_range (s:ByteArray) (hlim:s.size<=281474976710656) (h:Lib.atoiAll s.data.toList= .range) (ev:Value) (w:World) (hv:w.cell? ⟨4,0,none⟩=some ev) (hev:ev= .nilIface\/∃te pe,ev= .iface te pe):
  Calls Tryz.prog 271 #[.string s] w fun e w'=>∃N,e= .returned (.tuple #[.int .i64 (Lib.atoiSat s.data.toList),.iface 312 (.pointer (some ⟨N,0,none⟩))])/\w.heap.size<=N/\w'.heap[N]? =some (.cells #[.string ⟨#[65,116,111,105]⟩,.string s,ev] 331 (0,0))/\Below w.heap.size w w':=Any.strconv_Atoi_range Tryz.ZiC s hlim h ev w hv hev
def Tryz.ZkZ:Go.Shelf.Ren:=⟨fun | 191=>86| 189=>139| 125=>188| 257=>187| 128=>244| 129=>245| 294=>235| 295=>236| 296=>237| 297=>238| 298=>239| 299=>240| 216=>241| 300=>242| 301=>243| 328=>274| 329=>275| 330=>276| 331=>277| 332=>278| 215=>279| 343=>297| n=>n,fun | 28=>26| 0=>0| 3=>3| 46=>218| 51=>260| 53=>262| 4=>4| 183=>253| 182=>252| 131=>240| 5=>5| 9=>9| 218=>284| 222=>288| 228=>297| 229=>298| n=>n,fun | n=>n⟩
theorem Tryz.Zot:Go.Proofs.Lays.n191 Tryz.prog Tryz.ZkZ:={
 mixed:=by kernel_rfl
 f125:=Tryz.func188.trans (congrArg some (by kernel_rfl))
 f128:=Tryz.func244.trans (congrArg some (by kernel_rfl))
 f129:=Tryz.func245.trans (congrArg some (by kernel_rfl))
 f189:=Tryz.func139.trans (congrArg some (by kernel_rfl))
 f191:=Tryz.func86.trans (congrArg some (by kernel_rfl))
 f215:=Tryz.func279.trans (congrArg some (by kernel_rfl))
 f216:=Tryz.func241.trans (congrArg some (by kernel_rfl))
 f257:=Tryz.func187.trans (congrArg some (by kernel_rfl))
 f294:=Tryz.func235.trans (congrArg some (by kernel_rfl))
 f295:=Tryz.func236.trans (congrArg some (by kernel_rfl))
 f296:=Tryz.func237.trans (congrArg some (by kernel_rfl))
 f297:=Tryz.func238.trans (congrArg some (by kernel_rfl))
 f298:=Tryz.func239.trans (congrArg some (by kernel_rfl))
 f299:=Tryz.func240.trans (congrArg some (by kernel_rfl))
 f300:=Tryz.func242.trans (congrArg some (by kernel_rfl))
 f301:=Tryz.func243.trans (congrArg some (by kernel_rfl))
 f328:=Tryz.func274.trans (congrArg some (by kernel_rfl))
 f329:=Tryz.func275.trans (congrArg some (by kernel_rfl))
 f330:=Tryz.func276.trans (congrArg some (by kernel_rfl))
 f331:=Tryz.func277.trans (congrArg some (by kernel_rfl))
 f332:=Tryz.func278.trans (congrArg some (by kernel_rfl))
 f343:=Tryz.func297.trans (congrArg some (by kernel_rfl))
 t0:=Tryz.underlying0
 a0:=Tryz.isAgg0
 z0:=Tryz.sizeOf0
 v0:=Tryz.zeroValue0
 t3:=Tryz.underlying3
 a3:=Tryz.isAgg3
 z3:=Tryz.sizeOf3
 v3:=Tryz.zeroValue3
 t4:=Tryz.underlying4
 a4:=Tryz.isAgg4
 z4:=Tryz.sizeOf4
 v4:=Tryz.zeroValue4
 t5:=Tryz.underlying5
 a5:=Tryz.isAgg5
 z5:=Tryz.sizeOf5
 v5:=Tryz.zeroValue5
 t9:=Tryz.underlying9
 a9:=Tryz.isAgg9
 z9:=Tryz.sizeOf9
 v9:=Tryz.zeroValue9
 t28:=Tryz.underlying26
 a28:=Tryz.isAgg26
 z28:=Tryz.sizeOf26
 v28:=Tryz.zeroValue26
 t46:=Tryz.underlying218
 a46:=Tryz.isAgg218
 z46:=Tryz.sizeOf218
 v46:=Tryz.zeroValue218
 t51:=Tryz.underlying260
 a51:=Tryz.isAgg260
 z51:=Tryz.sizeOf260
 v51:=Tryz.zeroValue260
 t53:=Tryz.underlying262
 a53:=Tryz.isAgg262
 z53:=Tryz.sizeOf262
 v53:=Tryz.zeroValue262
 t131:=Tryz.underlying240
 a131:=Tryz.isAgg240
 z131:=Tryz.sizeOf240
 v131:=Tryz.zeroValue240
 t182:=Tryz.underlying252
 a182:=Tryz.isAgg252
 z182:=Tryz.sizeOf252
 v182:=Tryz.zeroValue252
 t183:=Tryz.underlying253
 a183:=Tryz.isAgg253
 z183:=Tryz.sizeOf253
 v183:=Tryz.zeroValue253
 t218:=Tryz.underlying284
 a218:=Tryz.isAgg284
 z218:=Tryz.sizeOf284
 v218:=Tryz.zeroValue284
 t222:=Tryz.underlying288
 a222:=Tryz.isAgg288
 z222:=Tryz.sizeOf288
 v222:=Tryz.zeroValue288
 t228:=Tryz.underlying297
 a228:=Tryz.isAgg297
 z228:=Tryz.sizeOf297
 v228:=Tryz.zeroValue297
 t229:=Tryz.underlying298
 a229:=Tryz.isAgg298
 z229:=Tryz.sizeOf298
 v229:=Tryz.zeroValue298}
open Go.Sort Go.RowKit in
theorem Tryz.sort_Ints (blk off cap:Nat) (zs:List Int) (w:World) (hH:Holds (Value.int .i64) w blk off zs.toArray) (hblk:blk<w.heap.size) (hsz:zs.length<4611686018427387904):
  Calls Tryz.prog 86 #[.slice (some ⟨blk,off,none⟩) zs.length cap] w fun e w'=>
   e= .returned (.tuple #[])/\∃n os,w'=grow (putRow (Value.int .i64) (Sort.ahead w n) blk off (zs.mergeSort fun x y=>decide (x<=y)).toArray) os:=Any.sort_Ints Tryz.Zot blk off cap zs w hH hblk hsz
def Tryz.ZkY:Go.Shelf.Ren:=⟨fun | 192=>200| 190=>250| 125=>188| 258=>282| 128=>244| 129=>245| 302=>299| 303=>300| 304=>301| 305=>302| 306=>303| 307=>304| 308=>305| 309=>306| 310=>307| 333=>322| 329=>275| 330=>276| 334=>323| 335=>324| 336=>325| 344=>337| n=>n,fun | 31=>69| 0=>0| 9=>9| 3=>3| 46=>218| 51=>260| 53=>262| 4=>4| 183=>253| 182=>252| 131=>240| 5=>5| 218=>284| 222=>288| 228=>297| 229=>298| n=>n,fun | n=>n⟩
theorem Tryz.Zos:Go.Proofs.Lays.n192 Tryz.prog Tryz.ZkY:={
 mixed:=by kernel_rfl
 f125:=Tryz.func188.trans (congrArg some (by kernel_rfl))
 f128:=Tryz.func244.trans (congrArg some (by kernel_rfl))
 f129:=Tryz.func245.trans (congrArg some (by kernel_rfl))
 f190:=Tryz.func250.trans (congrArg some (by kernel_rfl))
 f192:=Tryz.func200.trans (congrArg some (by kernel_rfl))
 f258:=Tryz.func282.trans (congrArg some (by kernel_rfl))
 f302:=Tryz.func299.trans (congrArg some (by kernel_rfl))
 f303:=Tryz.func300.trans (congrArg some (by kernel_rfl))
 f304:=Tryz.func301.trans (congrArg some (by kernel_rfl))
 f305:=Tryz.func302.trans (congrArg some (by kernel_rfl))
 f306:=Tryz.func303.trans (congrArg some (by kernel_rfl))
 f307:=Tryz.func304.trans (congrArg some (by kernel_rfl))
 f308:=Tryz.func305.trans (congrArg some (by kernel_rfl))
 f309:=Tryz.func306.trans (congrArg some (by kernel_rfl))
 f310:=Tryz.func307.trans (congrArg some (by kernel_rfl))
 f329:=Tryz.func275.trans (congrArg some (by kernel_rfl))
 f330:=Tryz.func276.trans (congrArg some (by kernel_rfl))
 f333:=Tryz.func322.trans (congrArg some (by kernel_rfl))
 f334:=Tryz.func323.trans (congrArg some (by kernel_rfl))
 f335:=Tryz.func324.trans (congrArg some (by kernel_rfl))
 f336:=Tryz.func325.trans (congrArg some (by kernel_rfl))
 f344:=Tryz.func337.trans (congrArg some (by kernel_rfl))
 t0:=Tryz.underlying0
 a0:=Tryz.isAgg0
 z0:=Tryz.sizeOf0
 v0:=Tryz.zeroValue0
 t3:=Tryz.underlying3
 a3:=Tryz.isAgg3
 z3:=Tryz.sizeOf3
 v3:=Tryz.zeroValue3
 t4:=Tryz.underlying4
 a4:=Tryz.isAgg4
 z4:=Tryz.sizeOf4
 v4:=Tryz.zeroValue4
 t5:=Tryz.underlying5
 a5:=Tryz.isAgg5
 z5:=Tryz.sizeOf5
 v5:=Tryz.zeroValue5
 t9:=Tryz.underlying9
 a9:=Tryz.isAgg9
 z9:=Tryz.sizeOf9
 v9:=Tryz.zeroValue9
 t31:=Tryz.underlying69
 a31:=Tryz.isAgg69
 z31:=Tryz.sizeOf69
 v31:=Tryz.zeroValue69
 t46:=Tryz.underlying218
 a46:=Tryz.isAgg218
 z46:=Tryz.sizeOf218
 v46:=Tryz.zeroValue218
 t51:=Tryz.underlying260
 a51:=Tryz.isAgg260
 z51:=Tryz.sizeOf260
 v51:=Tryz.zeroValue260
 t53:=Tryz.underlying262
 a53:=Tryz.isAgg262
 z53:=Tryz.sizeOf262
 v53:=Tryz.zeroValue262
 t131:=Tryz.underlying240
 a131:=Tryz.isAgg240
 z131:=Tryz.sizeOf240
 v131:=Tryz.zeroValue240
 t182:=Tryz.underlying252
 a182:=Tryz.isAgg252
 z182:=Tryz.sizeOf252
 v182:=Tryz.zeroValue252
 t183:=Tryz.underlying253
 a183:=Tryz.isAgg253
 z183:=Tryz.sizeOf253
 v183:=Tryz.zeroValue253
 t218:=Tryz.underlying284
 a218:=Tryz.isAgg284
 z218:=Tryz.sizeOf284
 v218:=Tryz.zeroValue284
 t222:=Tryz.underlying288
 a222:=Tryz.isAgg288
 z222:=Tryz.sizeOf288
 v222:=Tryz.zeroValue288
 t228:=Tryz.underlying297
 a228:=Tryz.isAgg297
 z228:=Tryz.sizeOf297
 v228:=Tryz.zeroValue297
 t229:=Tryz.underlying298
 a229:=Tryz.isAgg298
 z229:=Tryz.sizeOf298
 v229:=Tryz.zeroValue298}
open Go.Sort Go.RowKit in
theorem Tryz.sort_Strings (blk off cap:Nat) (ss:List (List UInt8)) (w:World) (hH:Holds encStr w blk off ss.toArray) (hblk:blk<w.heap.size) (hsz:ss.length<4611686018427387904):
  Calls Tryz.prog 200 #[.slice (some ⟨blk,off,none⟩) ss.length cap] w fun e w'=>
   e= .returned (.tuple #[])/\∃n os,w'=grow (putRow encStr (Sort.ahead w n) blk off (ss.mergeSort fun x y=>decide (x<=y)).toArray) os:=Any.sort_Strings Tryz.Zos blk off cap ss w hH hblk hsz
def Tryz.ZrL:Go.Shelf.Ren:=⟨fun | 206=>288| n=>n,fun | 9=>9| 4=>4| 3=>3| n=>n,fun | n=>n⟩
def Tryz.ZmV:Go.Shelf.Ren:=⟨fun | 99=>264| 206=>288| n=>n,fun | 9=>9| 4=>4| 3=>3| n=>n,fun | n=>n⟩
theorem Tryz.ZtD:Go.Proofs.Lays.n99 Tryz.prog Tryz.ZmV:={
 mixed:=by kernel_rfl
 f99:=Tryz.func264.trans (congrArg some (by kernel_rfl))
 f206:=Tryz.func288.trans (congrArg some (by kernel_rfl))
 t3:=Tryz.underlying3
 a3:=Tryz.isAgg3
 z3:=Tryz.sizeOf3
 v3:=Tryz.zeroValue3
 t4:=Tryz.underlying4
 a4:=Tryz.isAgg4
 z4:=Tryz.sizeOf4
 v4:=Tryz.zeroValue4
 t9:=Tryz.underlying9
 a9:=Tryz.isAgg9
 z9:=Tryz.sizeOf9
 v9:=Tryz.zeroValue9}
open Go.RowKit Go.Lib in
theorem Tryz.strings_HasPrefix (s p:ByteArray) (w:World):
  Calls Tryz.prog 264 #[.string s,.string p] w fun e w'=>e= .returned (.bool (Lib.hasPrefix s.data.toList p.data.toList))/\w'=w:=Any.strings_HasPrefix Tryz.ZtD s p w
def Tryz.ZrK:Go.Shelf.Ren:=⟨fun | 221=>227| 268=>268| 138=>269| 143=>270| 195=>290| 197=>291| 218=>292| 219=>293| 260=>312| 217=>287| 225=>313| 224=>314| 267=>315| 266=>310| 314=>329| n=>n,fun | 9=>9| 3=>3| 31=>69| 4=>4| 0=>0| 105=>294| 21=>21| 5=>5| 46=>218| 119=>321| 139=>324| 138=>323| 146=>325| 51=>260| n=>n,fun | 1=>0| 3=>1| 4=>2| n=>n⟩
def Tryz.Zk0:Go.Shelf.Ren:=⟨fun | 146=>180| 221=>227| 268=>268| 138=>269| 143=>270| 195=>290| 197=>291| 218=>292| 219=>293| 260=>312| 217=>287| 225=>313| 224=>314| 267=>315| 266=>310| 314=>329| n=>n,fun | 9=>9| 31=>69| 3=>3| 4=>4| 0=>0| 105=>294| 21=>21| 5=>5| 46=>218| 119=>321| 139=>324| 138=>323| 146=>325| 51=>260| n=>n,fun | 1=>0| 3=>1| 4=>2| n=>n⟩
theorem Tryz.ZrN:Go.Proofs.Lays.n146 Tryz.prog Tryz.Zk0:={
 mixed:=by kernel_rfl
 f138:=Tryz.func269.trans (congrArg some (by kernel_rfl))
 f143:=Tryz.func270.trans (congrArg some (by kernel_rfl))
 f146:=Tryz.func180.trans (congrArg some (by kernel_rfl))
 f195:=Tryz.func290.trans (congrArg some (by kernel_rfl))
 f197:=Tryz.func291.trans (congrArg some (by kernel_rfl))
 f217:=Tryz.func287.trans (congrArg some (by kernel_rfl))
 f218:=Tryz.func292.trans (congrArg some (by kernel_rfl))
 f219:=Tryz.func293.trans (congrArg some (by kernel_rfl))
 f221:=Tryz.func227.trans (congrArg some (by kernel_rfl))
 f224:=Tryz.func314.trans (congrArg some (by kernel_rfl))
 f225:=Tryz.func313.trans (congrArg some (by kernel_rfl))
 f260:=Tryz.func312.trans (congrArg some (by kernel_rfl))
 f266:=Tryz.func310.trans (congrArg some (by kernel_rfl))
 f267:=Tryz.func315.trans (congrArg some (by kernel_rfl))
 f268:=Tryz.func268.trans (congrArg some (by kernel_rfl))
 f314:=Tryz.func329.trans (congrArg some (by kernel_rfl))
 t0:=Tryz.underlying0
 a0:=Tryz.isAgg0
 z0:=Tryz.sizeOf0
 v0:=Tryz.zeroValue0
 t3:=Tryz.underlying3
 a3:=Tryz.isAgg3
 z3:=Tryz.sizeOf3
 v3:=Tryz.zeroValue3
 t4:=Tryz.underlying4
 a4:=Tryz.isAgg4
 z4:=Tryz.sizeOf4
 v4:=Tryz.zeroValue4
 t5:=Tryz.underlying5
 a5:=Tryz.isAgg5
 z5:=Tryz.sizeOf5
 v5:=Tryz.zeroValue5
 t9:=Tryz.underlying9
 a9:=Tryz.isAgg9
 z9:=Tryz.sizeOf9
 v9:=Tryz.zeroValue9
 t21:=Tryz.underlying21
 a21:=Tryz.isAgg21
 z21:=Tryz.sizeOf21
 v21:=Tryz.zeroValue21
 t31:=Tryz.underlying69
 a31:=Tryz.isAgg69
 z31:=Tryz.sizeOf69
 v31:=Tryz.zeroValue69
 t46:=Tryz.underlying218
 a46:=Tryz.isAgg218
 z46:=Tryz.sizeOf218
 v46:=Tryz.zeroValue218
 t51:=Tryz.underlying260
 a51:=Tryz.isAgg260
 z51:=Tryz.sizeOf260
 v51:=Tryz.zeroValue260
 t105:=Tryz.underlying294
 a105:=Tryz.isAgg294
 z105:=Tryz.sizeOf294
 v105:=Tryz.zeroValue294
 t119:=Tryz.underlying321
 a119:=Tryz.isAgg321
 z119:=Tryz.sizeOf321
 t138:=Tryz.underlying323
 a138:=Tryz.isAgg323
 z138:=Tryz.sizeOf323
 v138:=Tryz.zeroValue323
 t139:=Tryz.underlying324
 a139:=Tryz.isAgg324
 z139:=Tryz.sizeOf324
 v139:=Tryz.zeroValue324
 t146:=Tryz.underlying325
 a146:=Tryz.isAgg325
 z146:=Tryz.sizeOf325
 v146:=Tryz.zeroValue325
 g1:=by kernel_rfl
 g3:=by kernel_rfl
 g4:=by kernel_rfl}
open Go.RowKit Go.Lib in
theorem Tryz.strings_Split (s sep:ByteArray) (m:Int) (w:World) (hs:s.size<4294967281) (hm:w.cell? ⟨0,0,none⟩=some (.int .i64 m)) (h1:1<=sep.size):
  Calls Tryz.prog 180 #[.string s,.string sep] w fun e w'=>
   e= .returned (.slice (some ⟨w.heap.size,0,none⟩) (Lib.countB s sep+1) (Lib.countB s sep+1))/\w'=w.alloc (.cells ((Lib.splitB sep 0 (Lib.countB s sep) s).map Value.string).toArray 9):=Any.strings_Split Tryz.ZrN (by kernel_rfl) s sep m w hs hm h1
open Go.RowKit Go.Sort in
theorem Tryz.sort_Strings_none (p:Option Addr) (cap:Nat) (w:World):
  Calls Tryz.prog 200 #[.slice p 0 cap] w fun e w'=>e= .returned (.tuple #[])/\w'=w:=Any.sort_Strings_none Tryz.Zos p cap w
open Go.RowKit Go.Sort in
theorem Tryz.sort_Ints_none (p:Option Addr) (cap:Nat) (w:World):
  Calls Tryz.prog 86 #[.slice p 0 cap] w fun e w'=>e= .returned (.tuple #[])/\w'=w:=Any.sort_Ints_none Tryz.Zot p cap w
end Go.Proofs
namespace Go.Proofs.YtbkllghhcphkaaaGreatDoor
open Go.RowKit Am
theorem ZsU (xs:List Int):ZaW (xs.map iC)=xs.map (Value.int .i64):=by simp [ZaW,ZsH,iC,ZfS,Function.comp_def]
theorem ZsT (xs:List ByteArray):ZaW (xs.map sC)=(xs.map toL).map encStr:=by simp [ZaW,ZsH,sC,ZfS,Function.comp_def,encStr,toL]
theorem Za0 {xs v:List Int} (h:Ve xs=some v):SS Tryz.prog 86 (xs.map iC) (v.map iC):=by
 have hv:=Zcw h
 have hl:xs.length<4611686018427387904:=by
  unfold Ve at h
  split at h
  ·assumption
  ·cases h
 subst hv;refine ⟨⟨by kernel_rfl,by simp [ZaW,(UU xs).length_eq],fun w p c=>⟨fun h0=> ?_,fun b cur t hp hb hle ht=> ?_⟩⟩,ZpW xs,by simp [iC],fun x hx=> ?_⟩
 ·exact Tryz.sort_Ints_none p c w
 ·subst hp;rw [ZsU] at ht hle ⊢;rw [List.length_map] at ht hle ⊢;refine (Tryz.sort_Ints b 0 c xs w (Go.holds_of_blockI hb ht) (Array.getElem?_eq_some_iff.1 hb).1 hl).mono fun e w' hR=> ?_;obtain ⟨rfl,n,os,rfl⟩:=hR;refine ⟨rfl,Go.grownBy_sortedI _,_,Go.heap_sortedI _ hb,by simp [Go.Sort.putCells], ?_⟩;have:=Go.take_putCellsI cur (ZkC xs) (by rw [(UU xs).length_eq];exact hle);rw [(UU xs).length_eq] at this;rw [ZsU];exact this
 ·obtain ⟨y,hy,rfl⟩:=List.mem_map.1 hx;exact List.mem_map.2 ⟨y,(UU xs).mem_iff.1 hy,rfl⟩
instance:HC 86 (Ty @Za0):=⟨Za0⟩
theorem JO {xs v:List ByteArray} (h:Xr xs=some v):SS Tryz.prog 200 (xs.map sC) (v.map sC):=by
 have hv:=Kp h
 have hl:xs.length<4611686018427387904:=by
  unfold Xr at h
  split at h
  ·assumption
  ·cases h
 subst hv;have hm:(xs.map toL).length=xs.length:=by simp
 refine ⟨⟨by kernel_rfl,by simp [ZaW,(Zca xs).length_eq],fun w p c=>⟨fun h0=> ?_,fun b cur t hp hb hle ht=> ?_⟩⟩,by simp [VH,Zc2,sC,L.flat],by simp [sC],fun x hx=> ?_⟩
 ·exact Tryz.sort_Strings_none p c w
 ·subst hp;rw [ZsT] at ht hle ⊢;rw [List.length_map] at ht hle ⊢;refine (Tryz.sort_Strings b 0 c (xs.map toL) w (Go.holds_of_block hb ht) (Array.getElem?_eq_some_iff.1 hb).1 (by rw [hm];exact hl)).mono fun e w' hR=> ?_;obtain ⟨rfl,n,os,rfl⟩:=hR;have hp:=List.mergeSort_perm (xs.map toL) (fun x y=>decide (x<=y));refine ⟨rfl,Go.grownBy_sorted _,_,Go.heap_sorted _ hb,by simp [Go.Sort.putCells], ?_⟩;have:=Go.take_putCells cur ((xs.map toL).mergeSort (fun x y=>decide (x<=y))) (by rw [hp.length_eq];exact hle);rw [hp.length_eq] at this;have e:(Zjw xs).map toL=(xs.map toL).mergeSort (fun x y=>decide (x<=y)):=by rw [Zjw,List.map_map,show (toL∘ofL)=id from funext fun l=>Zky l,List.map_id]
  rw [ZsT,e];exact this
 ·obtain ⟨y,hy,rfl⟩:=List.mem_map.1 hx;exact List.mem_map.2 ⟨y,(Zca xs).mem_iff.1 hy,rfl⟩
instance:HC 200 (Ty @JO):=⟨JO⟩
open Go.RowKit Am
theorem Zn2 {w:World}:∀{zs:List Int} {vs:List Value} {F:List Nat},RpL w (zs.map (L.int .u64)) vs F->vs=zs.map (Value.int .u64)
 | [],_,_,h=>by simp only [List.map_nil,RpL] at h;simp [h.1]
 | z::zs,_,_,h=>by
  simp only [List.map_cons,RpL,Rp] at h;obtain ⟨v,vs',F1,F2,rfl,rfl,⟨rfl,rfl,_⟩,h2⟩:=h;simp [Zn2 h2]
theorem Zli {w:World} {k:Nat} {os:Array Obj}:Below w.heap.size w (Sort.grow (w.drewN k) os):=by
 refine ⟨rfl,rfl,rfl, ?_,fun j hj=> ?_⟩
 ·show w.heap.size<=(w.heap++os).size;simp
 ·show (w.heap++os)[j]? =w.heap[j]?;rw [Array.getElem?_append_left hj]
theorem Zr0 {w:World} {G:Nat->Prop} (h:Glb w G):Lib.TabIs Tryz.prog w "internal/strconv.uint64pow10" .u64 Lib.pow10Tab:=by
 obtain ⟨cur,ty,fz,F,h1,_,h3,_⟩:=h.2.1 (5,Lib.pow10Tab.map (L.int .u64)) (List.mem_of_mem_head? rfl);have h4:=Zn2 h3;have hg:Tryz.prog.globalNamed "internal/strconv.uint64pow10"=some 5:=by kernel_rfl
 unfold Lib.TabIs World.var?;rw [hg,Zyl,h1,<-h4]
theorem Zsb {w:World} {a b:DV} {vs:List Value} {F:List Nat} (h:YD w [a,b] vs F):∃v u F1 F2,vs=[v,u]/\F=F1++F2/\Zc5 w a v F1/\Zc5 w b u F2:=by
 simp only [YD] at h;obtain ⟨v,_,F1,_,rfl,rfl,h1,u,_,F2,_,rfl,rfl,h2,rfl,rfl⟩:=h;exact ⟨v,u,F1,F2,rfl,by simp,h1,h2⟩
theorem Zhv {w:World}:∀{zs:List Int},(∀z∈zs,InK .u64 z)->RpL w (zs.map (L.int .u64)) (zs.map (Value.int .u64)) []
 | [],_=>by simp only [List.map_nil,RpL];exact ⟨trivial,trivial⟩
 | z::zs,h=>by
  simp only [List.map_cons,RpL,Rp];exact ⟨_,_,[],[],rfl,rfl,⟨rfl,rfl,h z (by simp)⟩,Zhv fun y hy=>h y (by simp [hy])⟩
def Zpb (W:World) (p:Nat×List L):Prop:=∃cur ty fz F,W.heap[p.1]? =some (.cells cur ty fz)/\RpL W p.2 cur.toList F
theorem Zr1 {W:World} (h:∀p∈glb,Zpb W p) (h2:∀p∈Zr2,∃v,W.cell? ⟨p.1,0,none⟩=some v/\p.2 v):∃G,Glb W G:=
 ⟨fun b=>b<W.heap.size,fun _ h=>h,fun p hp=>by
  obtain ⟨cur,ty,fz,F,h1,h2⟩:=h p hp;exact ⟨cur,ty,fz,F,h1,Vk h1,h2,h2.lt⟩,fun p hp=>by
  obtain ⟨v,h1,h3⟩:=h2 p hp;exact ⟨v,h1,World.block_lt_of_cell? _ _ h1,h3⟩⟩
theorem Zid {P:Program} {W:World} {name:String} {g:Nat} {cs:Array Value} (hg:P.globalNamed name=some g) (hv:W.var? P name=some cs):∃ty fz,W.heap[g]? =some (.cells cs ty fz):=by
 unfold World.var? at hv;rw [hg,Zyl] at hv
 split at hv
 ·rename_i cs' ty fz hh;obtain rfl:=Zym hv;exact ⟨ty,fz,hh⟩
 ·cases hv
def Zu8:List L:=Lib.pow10Tab.map (L.int .u64)
theorem ZmH {H:Type} {enc:TypeId×Value->H} {W:World} {base:Nat} {sp:Nat->Bool} {held:Bool} {fuel:Nat} {t e n:Nat} {cs:Array Value} {q:List MemPlace} (ht:Tryz.prog.underlying t=some (.array n e)) (he:Tryz.prog.underlying e=some (.int .u64)) (hce:Tryz.prog.cellsOf e=1) (hct:Tryz.prog.cellsOf t=n)
  (hg:Tryz.prog.globalNamed "internal/strconv.uint64pow10"=some 5) (hv:W.var? Tryz.prog "internal/strconv.uint64pow10"=some cs) (hd:DataW.trod enc Tryz.prog W base sp held fuel t cs.toList=some (Rows.laid_internal_strconv_uint64pow10,q)):Zpb W (5,Zu8):=by
 have ed:(Rows.laid_internal_strconv_uint64pow10:DataW H)=Lib.tabData .u64 Lib.pow10Tab:=rfl;rw [ed] at hd;have ec:=Lib.cells_of_tab ht he hce hct hd;obtain ⟨ty,fz,hh⟩:=Zid hg hv;refine ⟨_,_,_,[],hh, ?_⟩;rw [ec];exact Zhv (by unfold InK;decide)
open Go.RowKit Am
theorem Zpy {N:Nat->Prop} {w:World} {FA:List Nat} {b:Bool}:ZcU true N w FA [.one (.bool b)] [.bool b]:=by
 simp only [ZcU,if_true,Zc4,Zsc,Ow];exact ⟨[],⟨_,[],[],[],rfl,rfl,⟨rfl,rfl⟩,rfl,rfl⟩,List.nodup_nil⟩
theorem Zrd {N:Nat->Prop} {w:World} {FA:List Nat} {n:Int} (h:InK .i64 n):ZcU true N w FA [.one (.int .i64 n)] [.int .i64 n]:=by
 simp only [ZcU,if_true,Zc4,Zsc,Ow];exact ⟨[],⟨_,[],[],[],rfl,rfl,⟨rfl,rfl,h⟩,rfl,rfl⟩,List.nodup_nil⟩
theorem ZjF {N:Nat->Prop} {w:World} {FA:List Nat} {n:Int} {b:Bool} (h:InK .i64 n):ZcU true N w FA [.one (.int .i64 n),.one (.bool b)] [.int .i64 n,.bool b]:=by
 simp only [ZcU,if_true,Zc4,Zsc,Ow];exact ⟨[],⟨_,_,[],[],rfl,rfl,⟨rfl,rfl,h⟩,_,_,[],[],rfl,rfl,⟨rfl,rfl⟩,rfl,rfl⟩,List.nodup_nil⟩
theorem XY (a0 a1:ByteArray) (r:Bool) (hM:Yx a0 a1=some r):Ctr Tryz.prog 264 [.one (.str a0),.one (.str a1)] true [.one (.bool r)]:=by
 obtain rfl:=Zym hM;refine ⟨by kernel_rfl,fun w vs FA _ hd=> ?_⟩;obtain ⟨v,u,F1,F2,rfl,rfl,h1,h2⟩:=Zsb hd;simp only [Zc5,Rp] at h1 h2;obtain ⟨rfl,rfl,_⟩:=h1;obtain ⟨rfl,rfl,_⟩:=h2;refine (Tryz.strings_HasPrefix a0 a1 w).mono ?_;rintro e w' ⟨rfl,rfl⟩;exact ⟨[_],rfl,Zpy,Below.refl _ _⟩
theorem Zl5 (c:UInt8):∀l:List UInt8,Lib.indexByte l c<=l.length
 | []=>by simp [Lib.indexByte]
 | b::l=>by
  have h:=Zl5 c l;unfold Lib.indexByte
  split
  ·simp;omega
  ·split
   ·simp;omega
   ·simp;omega
theorem XX (a0:ByteArray) (a1:Int) (r:Int) (hM:Yw a0 a1=some r):Ctr Tryz.prog 263 [.one (.str a0),.one (.int .u8 a1)] true [.one (.int .i64 r)]:=by
 obtain rfl:=Zym hM;refine ⟨by kernel_rfl,fun w vs FA _ hd=> ?_⟩;obtain ⟨v,u,F1,F2,rfl,rfl,h1,h2⟩:=Zsb hd;simp only [Zc5,Rp] at h1 h2;obtain ⟨rfl,rfl,hf⟩:=h1;obtain ⟨rfl,rfl,_⟩:=h2;refine (Tryz.strings_IndexByte a0 a1 w).mono ?_;rintro e w' ⟨rfl,rfl⟩;have k1:=Zl5 a1.toNat.toUInt8 a0.data.toList;have k2:=Lib.indexByte_ge a0.data.toList a1.toNat.toUInt8;have k3:a0.data.toList.length=a0.size:=by rw [Array.length_toList];rfl
 unfold Fit at hf;exact ⟨[_],rfl,Zrd ((Zaw _).2 ⟨by omega,by omega⟩),Below.refl _ _⟩
theorem World.ZgZ (w:World) (o:Obj):(w.alloc o).heap[w.heap.size]? =some o:=by
 show (w.heap.push o)[w.heap.size]? =some o;simp
theorem Zqq {l:List UInt8} {s:ByteArray}:(⟨l.toArray⟩:ByteArray)=s↔l=s.toList:=by
 rw [ByteArray.toList_eq];constructor
 ·rintro rfl;simp
 ·intro h;apply ByteArray.ext;simp [h]
theorem ZlG (sep:ByteArray):∀(k:Nat) (s:ByteArray) (x:ByteArray),x∈Lib.splitB sep 0 k s->x.size<=s.size
 | 0,s,x,h=>by simp [Lib.splitB] at h;simp [h]
 | k+1,s,x,h=>by
  unfold Lib.splitB at h
  split at h
  ·simp at h;simp [h]
  ·rcases List.mem_cons.1 h with rfl| h
   ·rw [ByteArray.size_extract];omega
   ·have:=ZlG sep k _ x h;rw [ByteArray.size_extract] at this;omega
theorem ZlQ {N:Nat->Prop} {w:World}:∀{ss:List ByteArray},(∀s∈ss,Fit s)->OwE N w (ss.map sC) (ss.map Value.string) []
 | [],_=>by simp [OwE]
 | s::ss,h=>by
  simp only [List.map_cons,sC,OwE,OwL,Ow];exact ⟨[_],_,[],[],rfl,rfl,⟨_,[],[],[],rfl,rfl,⟨rfl,rfl,h s (by simp)⟩,rfl,rfl⟩,ZlQ fun y hy=>h y (by simp [hy])⟩
theorem XW (a0 a1:ByteArray) (r:List ByteArray) (hM:Qf a0 a1=some r):Ctr Tryz.prog 180 [.one (.str a0),.one (.str a1)] true [.one (.sl (r.map sC))]:=by
 unfold Qf at hM
 split at hM
 ·rename_i hs;have er:=Zym hM;refine ⟨by kernel_rfl,fun w vs FA ⟨G,hG⟩ hd=> ?_⟩;obtain ⟨v,u,F1,F2,rfl,rfl,h1,h2⟩:=Zsb hd;simp only [Zc5,Rp] at h1 h2;obtain ⟨rfl,rfl,_⟩:=h1;obtain ⟨rfl,rfl,_⟩:=h2;obtain ⟨v,hv,_,m,rfl⟩:=hG.2.2 (0,isI) (by simp [Zr2]);refine (Tryz.strings_Split a0 a1 m w hs.1 hv hs.2).mono ?_;rw [er];rintro e w' ⟨rfl,rfl⟩;have hl:r.length=Lib.countB a0 a1+1:=by rw [<-er];exact Lib.splitB_all a1 hs.2 0 _ a0 rfl
  have hc:=Lib.countB_le a1 hs.2 _ a0 (Zyr _);rw [<-hl];refine ⟨[_],rfl, ?_,(Below.refl _ _).alloc (Zyr _) _⟩
  have hz:∀s∈r,Fit s:=fun s h=>by
   rw [<-er] at h;have:=ZlG a1 _ _ s h;unfold Fit;omega
  simp only [ZcU,if_true,Zc4,Zsc,Ow];refine ⟨[w.heap.size],⟨_,[],[w.heap.size],[],rfl,rfl,⟨some ⟨w.heap.size,0,none⟩,r.length,by simp,by omega,.inr ⟨w.heap.size,9,(r.map Value.string).toArray,[],1,rfl,Zyr _,World.ZgZ _ _,by simp,by simp,by simp [sC],by simp,rfl, ?_⟩⟩,rfl,rfl⟩,by simp⟩;have:=ZlQ (N:=fun b=>w.heap.size<=b) (w:=w.alloc (.cells (r.map Value.string).toArray 9)) hz
  simpa [List.take_of_length_le] using this
 ·cases hM
theorem Zms {w:World} {G:Nat->Prop} (h:Glb w G) (g:Nat) (hg:(g,isF)∈Zr2):∃ev,w.cell? ⟨g,0,none⟩=some ev/\(ev= .nilIface\/∃te pe,ev= .iface te pe):=by
 obtain ⟨v,h1,_,h2⟩:=h.2.2 _ hg;exact ⟨v,h1,.inr h2⟩
theorem ZhR {l:List UInt8} {n:Int} (h:Lib.atoiAll l= .ok n): -9223372036854775808<=n/\n<=9223372036854775807:=by
 unfold Lib.atoiAll at h
 split at h
 ·cases h
 ·dsimp only at h
  split at h
  ·cases h
  ·cases h
  ·rename_i u _
   split at h
   ·cases h
   ·split at h
    ·cases h
    ·injection h with h
     subst h
     split<;>omega
set_option maxRecDepth 100000 in
set_option maxHeartbeats 4000000 in
theorem ZkO (w:World) (s:ByteArray) (lo hi:Int) (hs:s.size<=281474976710656) {G:Nat->Prop} (hG:Glb w G):
  Calls Tryz.prog 228 #[.string s,.int .i64 lo,.int .i64 hi] w fun e w'=>e= .returned (.tuple #[.int .i64 (XT s lo hi).1,.bool (XT s lo hi).2])/\Below w.heap.size w w':=by
 obtain ⟨ev1,v1,v2⟩:=Zms hG 3 (by simp [Zr2]);obtain ⟨ev2,u1,u2⟩:=Zms hG 4 (by simp [Zr2]);cases ha:Lib.atoiAll s.data.toList with
 | «syntax» =>
  go_enter Tryz.func228,Tryz.ntmps228
  go_wp2_with fail
  go_at_call 271
  refine (Tryz.strconv_Atoi_syntax s hs ha ev1 w v1 v2).mono ?_;rintro e w1 ⟨N,rfl,_,_,hb⟩
  go_wp2_with fail
  all_goals go_ret2
  all_goals exact ⟨by simp [XT,ha],hb⟩
 | range=>
  go_enter Tryz.func228,Tryz.ntmps228
  go_wp2_with fail
  go_at_call 271
  refine (Tryz.strconv_Atoi_range s hs ha ev2 w u1 u2).mono ?_;rintro e w1 ⟨N,rfl,_,_,hb⟩
  go_wp2_with fail
  all_goals go_ret2
  all_goals exact ⟨by simp [XT,ha],hb⟩
 | ok n=>
  have hn:=ZhR ha
  go_enter Tryz.func228,Tryz.ntmps228
  go_wp2_with fail
  go_at_call 271
  refine (Tryz.strconv_Atoi_ok s (by omega) n ha w).mono ?_;rintro e w1 ⟨rfl,hw⟩
  have hb:Below w.heap.size w w1:=by
   rcases hw with rfl| ⟨t,rfl⟩
   ·exact Below.refl _ _
   ·exact Lib.bytesWorld_below _ _ _
  have hG1:Glb w1 G:=hG.keep hb.size fun b hb2=>hb.block b (hG.1 b hb2);clear hw
  by_cases h1:n<lo
  ·have hp:XT s lo hi=(0,false):=by simp only [XT,ha];rw [if_neg (by omega)]
   go_wp2_with fail
   all_goals (try (exfalso;simp only [Bool.not_eq_false',decide_eq_true_eq,decide_eq_false_iff_not] at *;omega))
   all_goals go_ret2
   all_goals exact ⟨by rw [hp];rfl,hb⟩
  by_cases h2:hi<n
  ·have hp:XT s lo hi=(0,false):=by simp only [XT,ha];rw [if_neg (by omega)]
   go_wp2_with fail
   all_goals (try (exfalso;simp only [Bool.not_eq_false',decide_eq_true_eq,decide_eq_false_iff_not] at *;omega))
   all_goals go_ret2
   all_goals exact ⟨by rw [hp];rfl,hb⟩
  go_wp2_with fail
  go_at_call 272
  refine (Tryz.strconv_Itoa n hn.1 hn.2 w1 (Zr0 hG1)).mono ?_;rintro e w2 ⟨rfl,k,os,rfl⟩;have hb2:Below w.heap.size w (Sort.grow (w1.drewN k) os):=hb.trans (Zli.mono hb.size)
  by_cases h3:Lib.itoa n=s.toList
  ·have hp:XT s lo hi=(n,true):=by simp only [XT,ha];rw [if_pos ⟨by omega,by omega,Zqq.2 h3⟩]
   go_wp2_with fail
   all_goals (try (exfalso;simp_all;done))
   all_goals go_ret2
   all_goals exact ⟨by rw [hp];rfl,hb2⟩
  ·have hp:XT s lo hi=(0,false):=by simp only [XT,ha];rw [if_neg (fun h=>h3 (Zqq.1 h.2.2))]
   go_wp2_with fail
   all_goals (try (exfalso;simp_all;done))
   all_goals go_ret2
   all_goals exact ⟨by rw [hp];rfl,hb2⟩
theorem ZgA (a0:ByteArray) (a1 a2:Int) (r:Int×Bool) (hM:ZbK a0 a1 a2=some r):Ctr Tryz.prog 228 [.one (.str a0),.one (.int .i64 a1),.one (.int .i64 a2)] true [.one (.int .i64 r.1),.one (.bool r.2)]:=by
 unfold ZbK at hM
 split at hM
 ·rename_i hs;obtain rfl:=Zym hM;refine ⟨by kernel_rfl,fun w vs FA ⟨G,hG⟩ hd=> ?_⟩;simp only [YD,Zc5,Rp] at hd;obtain ⟨_,_,F1,_,rfl,rfl,⟨rfl,rfl,_⟩,_,_,F2,_,rfl,rfl,⟨rfl,rfl,_⟩,_,_,F3,_,rfl,rfl,⟨rfl,rfl,_⟩,rfl,rfl⟩:=hd;refine (ZkO w a0 a1 a2 hs hG).mono ?_;rintro e w' ⟨rfl,hb⟩;refine ⟨[_,_],rfl,ZjF ?_,hb⟩;unfold XT
  split
  ·rename_i n ha
   split
   ·exact (Zaw _).2 (ZhR ha)
   ·show IntKind.i64.wrap 0=0;decide
  ·show IntKind.i64.wrap 0=0;decide
 ·cases hM
instance:HC 228 (Ty @ZgA):=⟨ZgA⟩
instance:HC 264 (Ty @XY):=⟨XY⟩
instance:HC 263 (Ty @XX):=⟨XX⟩
instance:HC 180 (Ty @XW):=⟨XW⟩
open Go.RowKit Am
def JR (a0:Zk) (a1:Int):Option Int:= if (decide ((IntKind.i64.wrap (a1-(a0.name.size:Int)))<0)) then some (-1) else if (decide ((IntKind.i64.wrap ((IntKind.i64.wrap (a1-(a0.name.size:Int)))-(a0.code.size:Int)))<0)) then some (-1) else some (IntKind.i64.wrap ((IntKind.i64.wrap (a1-(a0.name.size:Int)))-(a0.code.size:Int)))
def XM (a0:List Zk):Nat->Int->Int->Option (Int ⊕ Int) | 0,_,_=>none | n_+1,x2,x3=> if (decide (x3<(a0.length:Int))) then (at? a0 x3).bind fun x4=> (JR x4 x2).bind fun x5=> if (decide (x5<0)) then some (.inr (-1)) else XM a0 n_ x5 (IntKind.i64.wrap (x3+1)) else some (.inl x2)
def Zbf (k:Nat) (a0:List Zk) (a1:Int):Option Int:= if (decide ((IntKind.i64.wrap (a1-(a0.length:Int)))<0)) then some (-1) else (XM a0 k (IntKind.i64.wrap (a1-(a0.length:Int))) 0:Option (Int ⊕ Int)).bind fun | .inl x1=>( some x1) | .inr z6=>( some z6)
def Uk (k:Nat) (a0:Zd) (a1:Int):Option Int:= (Zbf k a0.cells a1).bind fun x1=> if (decide (x1<0)) then some (-1) else some x1
def JQ (a0:Zk):Option Zk:= some a0
def XI (a0:List Zk):Nat->(List Zk)->Int->Option (List Zk) | 0,_,_=>none | n_+1,x3,x4=> if (decide (x4<(a0.length:Int))) then (at? a0 x4).bind fun x5=> (JQ x5).bind fun x6=> (at? x3 x4).bind fun x7=> XI a0 n_ (x3.set x4.toNat x6) (IntKind.i64.wrap (x4+1)) else some x3
def Za7 (k:Nat) (a0:List Zk):Option (List Zk):= (mk? 64 (a0.length:Int)).bind fun x1=> (XI a0 k (List.replicate x1 (Zk.mk 0 0 0 (⟨#[]⟩:ByteArray) (⟨#[]⟩:ByteArray) 0)) 0).bind fun x2=> some x2
def Uj (k:Nat) (a0:Zd):Option Zd:= (Za7 k a0.cells).bind fun x1=> some (Zd.mk x1)
def Wp (a0:List Int) (a1:List Int):Nat->Int->Option (Unit ⊕ Bool) | 0,_=>none | n_+1,x1=> if (decide (x1<(a0.length:Int))) then (at? a0 x1).bind fun x2=> (at? a1 x1).bind fun x3=> if (!decide (x2=x3)) then some (.inr false) else Wp a0 a1 n_ (IntKind.i64.wrap (x1+1)) else some (.inl ())
def Zb6 (k:Nat) (a0:List Int) (a1:List Int):Option Bool:= if (!decide ((a0.length:Int)=(a1.length:Int))) then some false else (Wp a0 a1 k 0:Option (Unit ⊕ Bool)).bind fun | .inl _=>( some true) | .inr z4=>( some z4)
def Zah (a0:Zk) (a1:Zk):Option Bool:= if (!decide (a0.id=a1.id)) then some false else if (!decide (a0.version=a1.version)) then some false else if (!decide (a0.kind=a1.kind)) then some false else if (!decide (a0.name=a1.name)) then some false else if (!decide (a0.code=a1.code)) then some false else if (!decide (a0.n=a1.n)) then some false else some true
def XQ (a0:List Zk) (a1:List Zk):Nat->Int->Option (Unit ⊕ Bool) | 0,_=>none | n_+1,x1=> if (decide (x1<(a0.length:Int))) then (at? a0 x1).bind fun x2=> (at? a1 x1).bind fun x3=> (Zah x2 x3).bind fun x4=> if (!x4) then some (.inr false) else XQ a0 a1 n_ (IntKind.i64.wrap (x1+1)) else some (.inl ())
def Zbq (k:Nat) (a0:List Zk) (a1:List Zk):Option Bool:= if (!decide ((a0.length:Int)=(a1.length:Int))) then some false else (XQ a0 a1 k 0:Option (Unit ⊕ Bool)).bind fun | .inl _=>( some true) | .inr z5=>( some z5)
def Ul (k:Nat) (a0:Zd) (a1:Zd):Option Bool:= (Zbq k a0.cells a1.cells).bind fun x1=> if (!x1) then some false else some true
def Zac (a0:ZS) (a1:Int):Option Int:= if (decide ((IntKind.i64.wrap (a1-(a0.name.size:Int)))<0)) then some (-1) else some (IntKind.i64.wrap (a1-(a0.name.size:Int)))
def XL (a0:List ZS):Nat->Int->Int->Option (Int ⊕ Int) | 0,_,_=>none | n_+1,x2,x3=> if (decide (x3<(a0.length:Int))) then (at? a0 x3).bind fun x4=> (Zac x4 x2).bind fun x5=> if (decide (x5<0)) then some (.inr (-1)) else XL a0 n_ x5 (IntKind.i64.wrap (x3+1)) else some (.inl x2)
def Zbd (k:Nat) (a0:List ZS) (a1:Int):Option Int:= if (decide ((IntKind.i64.wrap (a1-(a0.length:Int)))<0)) then some (-1) else (XL a0 k (IntKind.i64.wrap (a1-(a0.length:Int))) 0:Option (Int ⊕ Int)).bind fun | .inl x1=>( some x1) | .inr z6=>( some z6)
def Za8 (k:Nat) (a0:Yo) (a1:Int):Option Int:= (Zbd k a0.files a1).bind fun x1=> if (decide (x1<0)) then some (-1) else some x1
def QD (a0:List ByteArray):Nat->Int->Int->Option (Int ⊕ Int) | 0,_,_=>none | n_+1,x2,x3=> if (decide (x3<(a0.length:Int))) then (at? a0 x3).bind fun x4=> if (decide ((IntKind.i64.wrap (x2-(x4.size:Int)))<0)) then some (.inr (-1)) else QD a0 n_ (IntKind.i64.wrap (x2-(x4.size:Int))) (IntKind.i64.wrap (x3+1)) else some (.inl x2)
def U5 (k:Nat) (a0:List ByteArray) (a1:Int):Option Int:= if (decide ((IntKind.i64.wrap (a1-(a0.length:Int)))<0)) then some (-1) else (QD a0 k (IntKind.i64.wrap (a1-(a0.length:Int))) 0:Option (Int ⊕ Int)).bind fun | .inl x1=>( some x1) | .inr z5=>( some z5)
open Go.RowKit Am
def Zb3 (a0:List Int) (a1:Int):Option Int:= if (decide ((IntKind.i64.wrap (a1-(a0.length:Int)))<0)) then some (-1) else some (IntKind.i64.wrap (a1-(a0.length:Int)))
def U6 (a0:List Zo) (a1:Int):Option Int:= if (decide ((IntKind.i64.wrap (a1-(a0.length:Int)))<0)) then some (-1) else some (IntKind.i64.wrap (a1-(a0.length:Int)))
def ZcO (a0:ZN) (a1:Int):Option Int:= (Zb3 a0.cells a1).bind fun x1=> if (decide (x1<0)) then some (-1) else (U6 a0.from_ x1).bind fun x2=> if (decide (x2<0)) then some (-1) else some x2
def Wn (a0:List ZN):Nat->Int->Int->Option (Int ⊕ Int) | 0,_,_=>none | n_+1,x2,x3=> if (decide (x3<(a0.length:Int))) then (at? a0 x3).bind fun x4=> (ZcO x4 x2).bind fun x5=> if (decide (x5<0)) then some (.inr (-1)) else Wn a0 n_ x5 (IntKind.i64.wrap (x3+1)) else some (.inl x2)
def Zdt (k:Nat) (a0:List ZN) (a1:Int):Option Int:= if (decide ((IntKind.i64.wrap (a1-(a0.length:Int)))<0)) then some (-1) else (Wn a0 k (IntKind.i64.wrap (a1-(a0.length:Int))) 0:Option (Int ⊕ Int)).bind fun | .inl x1=>( some x1) | .inr z6=>( some z6)
def Q7 (rec_w_szValue:Za->Int->Option Int) (a0:List Za):Nat->Int->Int->Option (Int ⊕ Int) | 0,_,_=>none | n_+1,x2,x3=> if (decide (x3<(a0.length:Int))) then (at? a0 x3).bind fun x4=> (rec_w_szValue x4 x2).bind fun x5=> if (decide (x5<0)) then some (.inr (-1)) else Q7 rec_w_szValue a0 n_ x5 (IntKind.i64.wrap (x3+1)) else some (.inl x2)
mutual
def US:Nat->(List Za)->Int->Option Int | 0,_,_=>none | k+1,a0,a1=> if (decide ((IntKind.i64.wrap (a1-(a0.length:Int)))<0)) then some (-1) else (Q7 (QU k) a0 k (IntKind.i64.wrap (a1-(a0.length:Int))) 0:Option (Int ⊕ Int)).bind fun | .inl x1=>( some x1) | .inr z6=>( some z6)
def QU:Nat->Za->Int->Option Int | 0,_,_=>none | k+1,a0,a1=> if (decide ((IntKind.i64.wrap (a1-(a0.text.size:Int)))<0)) then some (-1) else (US k a0.list (IntKind.i64.wrap (a1-(a0.text.size:Int)))).bind fun x1=> if (decide (x1<0)) then some (-1) else (U5 k a0.columns x1).bind fun x2=> if (decide (x2<0)) then some (-1) else (Zdt k a0.rows x2).bind fun x3=> if (decide (x3<0)) then some (-1) else some x3
end
def Zb2 (k:Nat) (a0:ZR) (a1:Int):Option Int:= if (decide ((IntKind.i64.wrap (a1-(a0.text.size:Int)))<0)) then some (-1) else (QU k a0.result (IntKind.i64.wrap (a1-(a0.text.size:Int)))).bind fun x1=> if (decide (x1<0)) then some (-1) else some x1
def XK (k:Nat) (a0:List ZR):Nat->Int->Int->Option (Int ⊕ Int) | 0,_,_=>none | n_+1,x2,x3=> if (decide (x3<(a0.length:Int))) then (at? a0 x3).bind fun x4=> (Zb2 k x4 x2).bind fun x5=> if (decide (x5<0)) then some (.inr (-1)) else XK k a0 n_ x5 (IntKind.i64.wrap (x3+1)) else some (.inl x2)
def Zbb (k:Nat) (a0:List ZR) (a1:Int):Option Int:= if (decide ((IntKind.i64.wrap (a1-(a0.length:Int)))<0)) then some (-1) else (XK k a0 k (IntKind.i64.wrap (a1-(a0.length:Int))) 0:Option (Int ⊕ Int)).bind fun | .inl x1=>( some x1) | .inr z6=>( some z6)
def Zb1 (k:Nat) (a0:ZQ) (a1:Int):Option Int:= (Zbb k a0.reads a1).bind fun x1=> if (decide (x1<0)) then some (-1) else some x1
def XJ (k:Nat) (a0:List ZQ):Nat->Int->Int->Option (Int ⊕ Int) | 0,_,_=>none | n_+1,x2,x3=> if (decide (x3<(a0.length:Int))) then (at? a0 x3).bind fun x4=> (Zb1 k x4 x2).bind fun x5=> if (decide (x5<0)) then some (.inr (-1)) else XJ k a0 n_ x5 (IntKind.i64.wrap (x3+1)) else some (.inl x2)
def Za9 (k:Nat) (a0:List ZQ) (a1:Int):Option Int:= if (decide ((IntKind.i64.wrap (a1-(a0.length:Int)))<0)) then some (-1) else (XJ k a0 k (IntKind.i64.wrap (a1-(a0.length:Int))) 0:Option (Int ⊕ Int)).bind fun | .inl x1=>( some x1) | .inr z6=>( some z6)
def Ku (k:Nat) (a0:Zw) (a1:Int):Option Int:= (Zb3 a0.inputs a1).bind fun x1=> if (decide (x1<0)) then some (-1) else (QU k a0.value x1).bind fun x2=> if (decide (x2<0)) then some (-1) else some x2
def Q8 (k:Nat) (a0:List Zw):Nat->Int->Int->Option (Int ⊕ Int) | 0,_,_=>none | n_+1,x2,x3=> if (decide (x3<(a0.length:Int))) then (at? a0 x3).bind fun x4=> (Ku k x4 x2).bind fun x5=> if (decide (x5<0)) then some (.inr (-1)) else Q8 k a0 n_ x5 (IntKind.i64.wrap (x3+1)) else some (.inl x2)
def Kt (k:Nat) (a0:List Zw) (a1:Int):Option Int:= if (decide ((IntKind.i64.wrap (a1-(a0.length:Int)))<0)) then some (-1) else (Q8 k a0 k (IntKind.i64.wrap (a1-(a0.length:Int))) 0:Option (Int ⊕ Int)).bind fun | .inl x1=>( some x1) | .inr z6=>( some z6)
def Kv (k:Nat) (a0:Zz) (a1:Int):Option Int:= (Uk k a0.notebook a1).bind fun x1=> if (decide (x1<0)) then some (-1) else (Za8 k a0.world x1).bind fun x2=> if (decide (x2<0)) then some (-1) else (Za9 k a0.tapes x2).bind fun x3=> if (decide (x3<0)) then some (-1) else (Kt k a0.entries x3).bind fun x4=> if (decide (x4<0)) then some (-1) else some x4
def Zdx (a0:YA) (a1:Int):Option Int:= (JR a0.cell a1).bind fun x1=> if (decide (x1<0)) then some (-1) else some x1
open Go.RowKit Am
def Zab (a0:ZS):Option ZS:= some a0
def XH (a0:List ZS):Nat->(List ZS)->Int->Option (List ZS) | 0,_,_=>none | n_+1,x3,x4=> if (decide (x4<(a0.length:Int))) then (at? a0 x4).bind fun x5=> (Zab x5).bind fun x6=> (at? x3 x4).bind fun x7=> XH a0 n_ (x3.set x4.toNat x6) (IntKind.i64.wrap (x4+1)) else some x3
def Za6 (k:Nat) (a0:List ZS):Option (List ZS):= (mk? 24 (a0.length:Int)).bind fun x1=> (XH a0 k (List.replicate x1 (ZS.mk (⟨#[]⟩:ByteArray) 0)) 0).bind fun x2=> some x2
def Za1 (k:Nat) (a0:Yo):Option Yo:= (Za6 k a0.files).bind fun x1=> some (Yo.mk a0.clock a0.seed x1)
def QB (a0:List ByteArray):Nat->(List ByteArray)->Int->Option (List ByteArray) | 0,_,_=>none | n_+1,x3,x4=> if (decide (x4<(a0.length:Int))) then (at? a0 x4).bind fun x5=> (at? x3 x4).bind fun x6=> QB a0 n_ (x3.set x4.toNat x5) (IntKind.i64.wrap (x4+1)) else some x3
def U3 (k:Nat) (a0:List ByteArray):Option (List ByteArray):= (mk? 16 (a0.length:Int)).bind fun x1=> (QB a0 k (List.replicate x1 (⟨#[]⟩:ByteArray)) 0).bind fun x2=> some x2
def Wm (a0:List Int):Nat->(List Int)->Int->Option (List Int) | 0,_,_=>none | n_+1,x3,x4=> if (decide (x4<(a0.length:Int))) then (at? a0 x4).bind fun x5=> (at? x3 x4).bind fun x6=> Wm a0 n_ (x3.set x4.toNat x5) (IntKind.i64.wrap (x4+1)) else some x3
def ZbZ (k:Nat) (a0:List Int):Option (List Int):= (mk? 8 (a0.length:Int)).bind fun x1=> (Wm a0 k (List.replicate x1 0) 0).bind fun x2=> some x2
def VL (a0:Zo):Option Zo:= some a0
def QC (a0:List Zo):Nat->(List Zo)->Int->Option (List Zo) | 0,_,_=>none | n_+1,x3,x4=> if (decide (x4<(a0.length:Int))) then (at? a0 x4).bind fun x5=> (VL x5).bind fun x6=> (at? x3 x4).bind fun x7=> QC a0 n_ (x3.set x4.toNat x6) (IntKind.i64.wrap (x4+1)) else some x3
def U4 (k:Nat) (a0:List Zo):Option (List Zo):= (mk? 16 (a0.length:Int)).bind fun x1=> (QC a0 k (List.replicate x1 (Zo.mk 0 0)) 0).bind fun x2=> some x2
def Zex (k:Nat) (a0:ZN):Option ZN:= (ZbZ k a0.cells).bind fun x1=> (U4 k a0.from_).bind fun x2=> some (ZN.mk x1 x2)
def Wl (k:Nat) (a0:List ZN):Nat->(List ZN)->Int->Option (List ZN) | 0,_,_=>none | n_+1,x3,x4=> if (decide (x4<(a0.length:Int))) then (at? a0 x4).bind fun x5=> (Zex k x5).bind fun x6=> (at? x3 x4).bind fun x7=> Wl k a0 n_ (x3.set x4.toNat x6) (IntKind.i64.wrap (x4+1)) else some x3
def Zdk (k:Nat) (a0:List ZN):Option (List ZN):= (mk? 48 (a0.length:Int)).bind fun x1=> (Wl k a0 k (List.replicate x1 (ZN.mk [] [])) 0).bind fun x2=> some x2
def Q5 (rec_w_toValue:Za->Option Za) (a0:List Za):Nat->(List Za)->Int->Option (List Za) | 0,_,_=>none | n_+1,x3,x4=> if (decide (x4<(a0.length:Int))) then (at? a0 x4).bind fun x5=> (rec_w_toValue x5).bind fun x6=> (at? x3 x4).bind fun x7=> Q5 rec_w_toValue a0 n_ (x3.set x4.toNat x6) (IntKind.i64.wrap (x4+1)) else some x3
mutual
def UR:Nat->(List Za)->Option (List Za) | 0,_=>none | k+1,a0=> (mk? 112 (a0.length:Int)).bind fun x1=> (Q5 (QT k) a0 k (List.replicate x1 (Za.mk 0 0 0 (⟨#[]⟩:ByteArray) [] [] [])) 0).bind fun x2=> some x2
def QT:Nat->Za->Option Za | 0,_=>none | k+1,a0=> (UR k a0.list).bind fun x1=> (U3 k a0.columns).bind fun x2=> (Zdk k a0.rows).bind fun x3=> some (Za.mk a0.kind a0.n a0.step a0.text x1 x2 x3)
end
def ZbY (k:Nat) (a0:ZR):Option ZR:= (QT k a0.result).bind fun x1=> some (ZR.mk a0.kind a0.n a0.time a0.text x1)
def XG (k:Nat) (a0:List ZR):Nat->(List ZR)->Int->Option (List ZR) | 0,_,_=>none | n_+1,x3,x4=> if (decide (x4<(a0.length:Int))) then (at? a0 x4).bind fun x5=> (ZbY k x5).bind fun x6=> (at? x3 x4).bind fun x7=> XG k a0 n_ (x3.set x4.toNat x6) (IntKind.i64.wrap (x4+1)) else some x3
def Za4 (k:Nat) (a0:List ZR):Option (List ZR):= (mk? 152 (a0.length:Int)).bind fun x1=> (XG k a0 k (List.replicate x1 (ZR.mk 0 0 0 (⟨#[]⟩:ByteArray) (Za.mk 0 0 0 (⟨#[]⟩:ByteArray) [] [] []))) 0).bind fun x2=> some x2
def ZbX (k:Nat) (a0:ZQ):Option ZQ:= (Za4 k a0.reads).bind fun x1=> some (ZQ.mk a0.cell a0.version x1)
open Go.RowKit Am
def XF (k:Nat) (a0:List ZQ):Nat->(List ZQ)->Int->Option (List ZQ) | 0,_,_=>none | n_+1,x3,x4=> if (decide (x4<(a0.length:Int))) then (at? a0 x4).bind fun x5=> (ZbX k x5).bind fun x6=> (at? x3 x4).bind fun x7=> XF k a0 n_ (x3.set x4.toNat x6) (IntKind.i64.wrap (x4+1)) else some x3
def Za2 (k:Nat) (a0:List ZQ):Option (List ZQ):= (mk? 40 (a0.length:Int)).bind fun x1=> (XF k a0 k (List.replicate x1 (ZQ.mk 0 0 [])) 0).bind fun x2=> some x2
def Ks (k:Nat) (a0:Zw):Option Zw:= (ZbZ k a0.inputs).bind fun x1=> (QT k a0.value).bind fun x2=> some (Zw.mk a0.cell a0.version a0.stamp x1 x2 a0.has)
def Q6 (k:Nat) (a0:List Zw):Nat->(List Zw)->Int->Option (List Zw) | 0,_,_=>none | n_+1,x3,x4=> if (decide (x4<(a0.length:Int))) then (at? a0 x4).bind fun x5=> (Ks k x5).bind fun x6=> (at? x3 x4).bind fun x7=> Q6 k a0 n_ (x3.set x4.toNat x6) (IntKind.i64.wrap (x4+1)) else some x3
def Kr (k:Nat) (a0:List Zw):Option (List Zw):= (mk? 168 (a0.length:Int)).bind fun x1=> (Q6 k a0 k (List.replicate x1 (Zw.mk 0 0 0 [] (Za.mk 0 0 0 (⟨#[]⟩:ByteArray) [] [] []) false)) 0).bind fun x2=> some x2
def VM (k:Nat) (a0:Zz):Option Zz:= (Uj k a0.notebook).bind fun x1=> (Za1 k a0.world).bind fun x2=> (Za2 k a0.tapes).bind fun x3=> (Kr k a0.entries).bind fun x4=> some (Zz.mk x1 x2 x3 x4 a0.next a0.limit a0.work)
def Zb0 (a0:YA):Option YA:= (JQ a0.cell).bind fun x1=> some (YA.mk a0.kind a0.at_ x1)
def Zaf (a0:ZS) (a1:ZS):Option Bool:= if (!decide (a0.name=a1.name)) then some false else if (!decide (a0.n=a1.n)) then some false else some true
def XP (a0:List ZS) (a1:List ZS):Nat->Int->Option (Unit ⊕ Bool) | 0,_=>none | n_+1,x1=> if (decide (x1<(a0.length:Int))) then (at? a0 x1).bind fun x2=> (at? a1 x1).bind fun x3=> (Zaf x2 x3).bind fun x4=> if (!x4) then some (.inr false) else XP a0 a1 n_ (IntKind.i64.wrap (x1+1)) else some (.inl ())
def Zbo (k:Nat) (a0:List ZS) (a1:List ZS):Option Bool:= if (!decide ((a0.length:Int)=(a1.length:Int))) then some false else (XP a0 a1 k 0:Option (Unit ⊕ Bool)).bind fun | .inl _=>( some true) | .inr z5=>( some z5)
def Zbg (k:Nat) (a0:Yo) (a1:Yo):Option Bool:= if (!decide (a0.clock=a1.clock)) then some false else if (!decide (a0.seed=a1.seed)) then some false else (Zbo k a0.files a1.files).bind fun x1=> if (!x1) then some false else some true
def QE (a0:List ByteArray) (a1:List ByteArray):Nat->Int->Option (Unit ⊕ Bool) | 0,_=>none | n_+1,x1=> if (decide (x1<(a0.length:Int))) then (at? a0 x1).bind fun x2=> (at? a1 x1).bind fun x3=> if (!decide (x2=x3)) then some (.inr false) else QE a0 a1 n_ (IntKind.i64.wrap (x1+1)) else some (.inl ())
def U8 (k:Nat) (a0:List ByteArray) (a1:List ByteArray):Option Bool:= if (!decide ((a0.length:Int)=(a1.length:Int))) then some false else (QE a0 a1 k 0:Option (Unit ⊕ Bool)).bind fun | .inl _=>( some true) | .inr z4=>( some z4)
def VN (a0:Zo) (a1:Zo):Option Bool:= if (!decide (a0.cell=a1.cell)) then some false else if (!decide (a0.row=a1.row)) then some false else some true
def QF (a0:List Zo) (a1:List Zo):Nat->Int->Option (Unit ⊕ Bool) | 0,_=>none | n_+1,x1=> if (decide (x1<(a0.length:Int))) then (at? a0 x1).bind fun x2=> (at? a1 x1).bind fun x3=> (VN x2 x3).bind fun x4=> if (!x4) then some (.inr false) else QF a0 a1 n_ (IntKind.i64.wrap (x1+1)) else some (.inl ())
def U9 (k:Nat) (a0:List Zo) (a1:List Zo):Option Bool:= if (!decide ((a0.length:Int)=(a1.length:Int))) then some false else (QF a0 a1 k 0:Option (Unit ⊕ Bool)).bind fun | .inl _=>( some true) | .inr z5=>( some z5)
def Zey (k:Nat) (a0:ZN) (a1:ZN):Option Bool:= (Zb6 k a0.cells a1.cells).bind fun x1=> if (!x1) then some false else (U9 k a0.from_ a1.from_).bind fun x2=> if (!x2) then some false else some true
def Wo (k:Nat) (a0:List ZN) (a1:List ZN):Nat->Int->Option (Unit ⊕ Bool) | 0,_=>none | n_+1,x1=> if (decide (x1<(a0.length:Int))) then (at? a0 x1).bind fun x2=> (at? a1 x1).bind fun x3=> (Zey k x2 x3).bind fun x4=> if (!x4) then some (.inr false) else Wo k a0 a1 n_ (IntKind.i64.wrap (x1+1)) else some (.inl ())
def ZdB (k:Nat) (a0:List ZN) (a1:List ZN):Option Bool:= if (!decide ((a0.length:Int)=(a1.length:Int))) then some false else (Wo k a0 a1 k 0:Option (Unit ⊕ Bool)).bind fun | .inl _=>( some true) | .inr z5=>( some z5)
def Q9 (rec_w_eqValue:Za->Za->Option Bool) (a0:List Za) (a1:List Za):Nat->Int->Option (Unit ⊕ Bool) | 0,_=>none | n_+1,x1=> if (decide (x1<(a0.length:Int))) then (at? a0 x1).bind fun x2=> (at? a1 x1).bind fun x3=> (rec_w_eqValue x2 x3).bind fun x4=> if (!x4) then some (.inr false) else Q9 rec_w_eqValue a0 a1 n_ (IntKind.i64.wrap (x1+1)) else some (.inl ())
mutual
def UT:Nat->(List Za)->(List Za)->Option Bool | 0,_,_=>none | k+1,a0,a1=> if (!decide ((a0.length:Int)=(a1.length:Int))) then some false else (Q9 (QV k) a0 a1 k 0:Option (Unit ⊕ Bool)).bind fun | .inl _=>( some true) | .inr z5=>( some z5)
def QV:Nat->Za->Za->Option Bool | 0,_,_=>none | k+1,a0,a1=> if (!decide (a0.kind=a1.kind)) then some false else if (!decide (a0.n=a1.n)) then some false else if (!decide (a0.step=a1.step)) then some false else if (!decide (a0.text=a1.text)) then some false else (UT k a0.list a1.list).bind fun x1=> if (!x1) then some false else (U8 k a0.columns a1.columns).bind fun x2=> if (!x2) then some false else (ZdB k a0.rows a1.rows).bind fun x3=> if (!x3) then some false else some true
end
open Go.RowKit Am
def Zb5 (k:Nat) (a0:ZR) (a1:ZR):Option Bool:= if (!decide (a0.kind=a1.kind)) then some false else if (!decide (a0.n=a1.n)) then some false else if (!decide (a0.time=a1.time)) then some false else if (!decide (a0.text=a1.text)) then some false else (QV k a0.result a1.result).bind fun x1=> if (!x1) then some false else some true
def XO (k:Nat) (a0:List ZR) (a1:List ZR):Nat->Int->Option (Unit ⊕ Bool) | 0,_=>none | n_+1,x1=> if (decide (x1<(a0.length:Int))) then (at? a0 x1).bind fun x2=> (at? a1 x1).bind fun x3=> (Zb5 k x2 x3).bind fun x4=> if (!x4) then some (.inr false) else XO k a0 a1 n_ (IntKind.i64.wrap (x1+1)) else some (.inl ())
def Zbl (k:Nat) (a0:List ZR) (a1:List ZR):Option Bool:= if (!decide ((a0.length:Int)=(a1.length:Int))) then some false else (XO k a0 a1 k 0:Option (Unit ⊕ Bool)).bind fun | .inl _=>( some true) | .inr z5=>( some z5)
def Zb4 (k:Nat) (a0:ZQ) (a1:ZQ):Option Bool:= if (!decide (a0.cell=a1.cell)) then some false else if (!decide (a0.version=a1.version)) then some false else (Zbl k a0.reads a1.reads).bind fun x1=> if (!x1) then some false else some true
def XN (k:Nat) (a0:List ZQ) (a1:List ZQ):Nat->Int->Option (Unit ⊕ Bool) | 0,_=>none | n_+1,x1=> if (decide (x1<(a0.length:Int))) then (at? a0 x1).bind fun x2=> (at? a1 x1).bind fun x3=> (Zb4 k x2 x3).bind fun x4=> if (!x4) then some (.inr false) else XN k a0 a1 n_ (IntKind.i64.wrap (x1+1)) else some (.inl ())
def Zbi (k:Nat) (a0:List ZQ) (a1:List ZQ):Option Bool:= if (!decide ((a0.length:Int)=(a1.length:Int))) then some false else (XN k a0 a1 k 0:Option (Unit ⊕ Bool)).bind fun | .inl _=>( some true) | .inr z5=>( some z5)
def Kx (k:Nat) (a0:Zw) (a1:Zw):Option Bool:= if (!decide (a0.cell=a1.cell)) then some false else if (!decide (a0.version=a1.version)) then some false else if (!decide (a0.stamp=a1.stamp)) then some false else (Zb6 k a0.inputs a1.inputs).bind fun x1=> if (!x1) then some false else (QV k a0.value a1.value).bind fun x2=> if (!x2) then some false else if (!(a0.has==a1.has)) then some false else some true
def Xa (k:Nat) (a0:List Zw) (a1:List Zw):Nat->Int->Option (Unit ⊕ Bool) | 0,_=>none | n_+1,x1=> if (decide (x1<(a0.length:Int))) then (at? a0 x1).bind fun x2=> (at? a1 x1).bind fun x3=> (Kx k x2 x3).bind fun x4=> if (!x4) then some (.inr false) else Xa k a0 a1 n_ (IntKind.i64.wrap (x1+1)) else some (.inl ())
def Kw (k:Nat) (a0:List Zw) (a1:List Zw):Option Bool:= if (!decide ((a0.length:Int)=(a1.length:Int))) then some false else (Xa k a0 a1 k 0:Option (Unit ⊕ Bool)).bind fun | .inl _=>( some true) | .inr z5=>( some z5)
def Ky (k:Nat) (a0:Zz) (a1:Zz):Option Bool:= (Ul k a0.notebook a1.notebook).bind fun x1=> if (!x1) then some false else (Zbg k a0.world a1.world).bind fun x2=> if (!x2) then some false else (Zbi k a0.tapes a1.tapes).bind fun x3=> if (!x3) then some false else (Kw k a0.entries a1.entries).bind fun x4=> if (!x4) then some false else if (!decide (a0.next=a1.next)) then some false else if (!decide (a0.limit=a1.limit)) then some false else if (!decide (a0.work=a1.work)) then some false else some true
end Go.Proofs.YtbkllghhcphkaaaGreatDoor
