import Derived.Test.YtneeinggggadpaaPkC
import Derived.Test.YtneeinggggadpaaJ4
set_option linter.unusedSimpArgs false
set_option linter.unusedVariables false
namespace Go.Proofs.Ytneeinggggadpaa
open Go.RowKit Am
theorem Qa (s:ByteArray):s.data.toList.length=s.size:=by simp
theorem Zg0 (a lo hi:Int):Kv a lo hi=some (decide (lo≤a)&&decide (a≤hi)):=by
 unfold Kv
 cases decide (lo≤a)<;>simp
theorem Js (a lo hi:Int):XA a lo hi=some (decide (lo≤a)&&decide (a≤hi)):=by
 unfold XA
 cases decide (lo≤a)<;>simp
end Go.Proofs.Ytneeinggggadpaa
namespace Go.Proofs.Ytneeinggggadpaa
open Go.RowKit Am
def ZaB (c:UInt8):Bool:=decide (97≤(c.toNat:Int))&&decide ((c.toNat:Int)≤122)
def Zbr (c:UInt8):Bool:=decide (48≤(c.toNat:Int))&&decide ((c.toNat:Int)≤57)
def J6 (i:Nat) (c:UInt8):Bool:=!ZaB c&&(decide (i=0)||!Zbr c)
theorem Ze4 (s:ByteArray) (hs:(s.size:Int)≤9223372036854775807) {k:Nat} (hk:s.size<k):WY k s=some (!(anyI J6 0 s.data.toList)&&decide (0<(s.size:Int))):=by
 unfold WY
 rw [Wq s.data.toList J6 (fun i c=>(if (decide (97≤(c.toNat:Int)))=true then some (decide ((c.toNat:Int)≤122)) else some false:Option Bool).bind fun x2=>(if (decide (48≤(c.toNat:Int)))=true then some (decide ((c.toNat:Int)≤57)) else some false:Option Bool).bind fun x4=>
     (if (!x2)=true then if (decide (i=0))=true then some true else some (!x4) else some false:Option Bool)) false () (Y1 s) (fun j hj=> ?_) (fun n i=> ?_) (by rw [Qa];exact hs) (by rw [Qa];exact hk)]
 ·cases anyI J6 0 s.data.toList<;>simp
 ·unfold J6 ZaB Zbr
  cases decide (97≤((s.data.toList[j]).toNat:Int))<;>cases decide (((s.data.toList[j]).toNat:Int)≤122)<;>cases decide (48≤((s.data.toList[j]).toNat:Int))<;>by_cases h0:j=0<;>simp [h0]
 ·rw [Y1,Qa]
  cases at? s.data.toList i with
  | none=>rfl
  | some c=>simp only [Option.bind_some,Option.bind_assoc]
theorem Zgm (s:ByteArray) (hs:(s.size:Int)≤9223372036854775807) {k:Nat} (hk:s.size<k):Uh k s=some (!(anyI J6 0 s.data.toList)&&(decide (1≤(s.size:Int))&&decide ((s.size:Int)≤8))):=by
 unfold Uh
 rw [Wq s.data.toList J6 (fun i c=>(if (decide (97≤(c.toNat:Int)))=true then some (decide ((c.toNat:Int)≤122)) else some false:Option Bool).bind fun x2=>
     (if (!x2)=true then if (decide (i=0))=true then some true else (if (decide ((c.toNat:Int)<48))=true then some true else some (decide (57<(c.toNat:Int)))) else some false:Option Bool)) false () (Qp s) (fun j hj=> ?_) (fun n i=> ?_) (by rw [Qa];exact hs) (by rw [Qa];exact hk)]
 ·rw [Js]
  cases anyI J6 0 s.data.toList<;>simp
 ·unfold J6 ZaB Zbr
  obtain ⟨c,hc⟩:∃c,c=s.data.toList[j]:=⟨_,rfl⟩
  rw [←hc]
  by_cases h0:j=0
  ·cases decide (97≤(c.toNat:Int))<;>cases decide ((c.toNat:Int)≤122)<;>simp [h0]
  ·by_cases h1:(c.toNat:Int)<48
   ·have h2:¬(48≤(c.toNat:Int)):=by omega
    cases decide (97≤(c.toNat:Int))<;>cases decide ((c.toNat:Int)≤122)<;>simp [h0,h1,h2]
   ·have h2:48≤(c.toNat:Int):=by omega
    by_cases h3:(c.toNat:Int)≤57
    ·have h4:¬(57<(c.toNat:Int)):=by omega
     cases decide (97≤(c.toNat:Int))<;>cases decide ((c.toNat:Int)≤122)<;>simp [h0,h1,h2,h3,h4]
    ·have h4:57<(c.toNat:Int):=by omega
     cases decide (97≤(c.toNat:Int))<;>cases decide ((c.toNat:Int)≤122)<;>simp [h0,h1,h2,h3,h4]
 ·rw [Qp,Qa]
  cases at? s.data.toList i with
  | none=>rfl
  | some c=>simp only [Option.bind_some,Option.bind_assoc]
def YY:List ByteArray:=(YI).getD []
theorem ZbG:YI=some YY:=rfl
theorem Zc2 (a:ByteArray) {k:Nat} (hk:24<k):Xj k a=some (YY.any fun x=>decide (x=a)):=by
 unfold Xj
 rw [ZbG,Option.bind_some]
 unfold Uz
 rw [XV YY (fun x=>decide (x=a)) (fun x=>some (decide (x=a))) true () (QP YY a) (fun _ _=>rfl) (fun n i=>by rw [QP];rfl) (by decide) (show YY.length<k from hk)]
 cases YY.any fun x=>decide (x=a)<;>rfl
theorem Zdf (a:ByteArray):Xl a=some (YY.any fun x=>decide (x=a)):=by
 by_cases h:a∈YY
 ·have hb:(YY.any fun x=>decide (x=a))=true:=List.any_eq_true.2 ⟨a,h,by simp⟩
  rw [hb]
  simp only [YY,YI,Option.getD_some,List.mem_cons,List.not_mem_nil,or_false] at h
  rcases h with rfl| rfl| rfl| rfl| rfl| rfl| rfl| rfl| rfl| rfl| rfl| rfl| rfl| rfl| rfl| rfl| rfl| rfl| rfl| rfl| rfl| rfl| rfl| rfl<;>rfl
 ·have hb:(YY.any fun x=>decide (x=a))=false:=by
   rw [List.any_eq_false];intro x hx;simp;rintro rfl;exact h hx
  rw [hb]
  simp only [YY,YI,Option.getD_some,List.mem_cons,List.not_mem_nil,or_false,not_or] at h
  obtain ⟨h1,h2,h3,h4,h5,h6,h7,h8,h9,h10,h11,h12,h13,h14,h15,h16,h17,h18,h19,h20,h21,h22,h23,h24⟩:=h
  unfold Xl Zm
  simp [h1,h2,h3,h4,h5,h6,h7,h8,h9,h10,h11,h12,h13,h14,h15,h16,h17,h18,h19,h20,h21,h22,h23,h24]
theorem Ur (a:ByteArray):∃z,Zm a=some z:=by
 by_cases h:a∈YY
 ·simp only [YY,YI,Option.getD_some,List.mem_cons,List.not_mem_nil,or_false] at h
  rcases h with rfl| rfl| rfl| rfl| rfl| rfl| rfl| rfl| rfl| rfl| rfl| rfl| rfl| rfl| rfl| rfl| rfl| rfl| rfl| rfl| rfl| rfl| rfl| rfl<;>exact ⟨_,rfl⟩
 ·simp only [YY,YI,Option.getD_some,List.mem_cons,List.not_mem_nil,or_false,not_or] at h
  obtain ⟨h1,h2,h3,h4,h5,h6,h7,h8,h9,h10,h11,h12,h13,h14,h15,h16,h17,h18,h19,h20,h21,h22,h23,h24⟩:=h
  unfold Zm
  simp [h1,h2,h3,h4,h5,h6,h7,h8,h9,h10,h11,h12,h13,h14,h15,h16,h17,h18,h19,h20,h21,h22,h23,h24]
def Va (s:ByteArray):Bool:=!(anyI J6 0 s.data.toList)&&decide (0<(s.size:Int))&&decide ((s.size:Int)≤8)&&!(YY.any fun x=>decide (x=s))
theorem WS (s:ByteArray) (hs:(s.size:Int)≤9223372036854775807) {k:Nat} (hk:s.size<k) (hk2:24<k):Ye k s=some (Va s)∧ZY k s=some (Va s):=by
 constructor
 ·unfold Ye Va
  rw [Ze4 s hs hk,Zc2 s hk2]
  cases anyI J6 0 s.data.toList<;>cases decide (0<(s.size:Int))<;>cases decide ((s.size:Int)≤8)<;>simp
 ·unfold ZY Va
  rw [Zgm s hs hk,Zdf s]
  have e:decide (1≤(s.size:Int))=decide (0<(s.size:Int)):=by rw [decide_eq_decide];omega
  rw [e]
  cases anyI J6 0 s.data.toList<;>cases decide (0<(s.size:Int))<;>cases decide ((s.size:Int)≤8)<;>simp
end Go.Proofs.Ytneeinggggadpaa
namespace Go.Proofs.Ytneeinggggadpaa
open Go.RowKit Am
def Wc (c:UInt8):Bool:=decide ((c.toNat:Int)<32)||(decide (126<(c.toNat:Int))||decide ((c.toNat:Int)=34))
theorem ZaG (s:ByteArray) (hs:(s.size:Int)≤9223372036854775807) {k:Nat} (hk:s.size<k):Qw k s=some (!(s.data.toList.any Wc)&&decide ((s.size:Int)≤20))∧Y8 k s=some (!(s.data.toList.any Wc)&&decide ((s.size:Int)≤20)):=by
 have hT:∀x∈s.data.toList,(fun c:UInt8=>(if (decide ((c.toNat:Int)<32))=true then some true else if (decide (126<(c.toNat:Int)))=true then some true else some (decide ((c.toNat:Int)=34)):Option Bool)) x=some (Wc x):=by
  intro x _
  unfold Wc
  simp only
  cases decide ((x.toNat:Int)<32)<;>cases decide (126<(x.toNat:Int))<;>simp
 constructor
 ·unfold Qw
  rw [XV s.data.toList Wc _ false () (Z1 s) hT (fun n i=>by rw [Z1,Qa];simp only [Option.bind_assoc]) (by rw [Qa];exact hs) (by rw [Qa];exact hk)]
  cases s.data.toList.any Wc<;>simp
 ·unfold Y8
  rw [XV s.data.toList Wc _ false () (Z3 s) hT (fun n i=>by rw [Z3,Qa];simp only [Option.bind_assoc]) (by rw [Qa];exact hs) (by rw [Qa];exact hk)]
  cases s.data.toList.any Wc<;>simp
end Go.Proofs.Ytneeinggggadpaa
namespace Go.Proofs.Ytneeinggggadpaa
open Go.RowKit Am
theorem J8 (a:ByteArray):ZB a=Zm a:=by unfold ZB Zm;rfl
mutual
def Za.cnt:Za→Nat
 | ⟨_,_,_,args⟩=>1+Za.Zi2 args
def Za.Zi2:List Za→Nat
 | []=>0
 | x::xs=>Za.cnt x+Za.Zi2 xs
end
theorem Za.Zev:∀xs:List Za,Za.Zi2 xs=QB Za.cnt xs
 | []=>rfl
 | x::xs=>by rw [Za.Zi2,Za.Zev xs];rfl
theorem Za.KK (x:Za):x.cnt=1+QB Za.cnt x.args:=by cases x;simp only [Za.cnt,Za.Zev]
mutual
def Za.nest:Za→Nat
 | ⟨_,_,_,args⟩=>Za.VF 0 args+1
def Za.VF:Nat→List Za→Nat
 | n,[]=>n
 | n,x::xs=>Za.VF (max n (Za.nest x)) xs
end
theorem Za.ZbO (x:Za):x.nest=Za.VF 0 x.args+1:=by cases x;simp only [Za.nest]
theorem Za.KM:∀x:Za,x.cnt≤x.bk+1:=by
 refine Za.ind fun x ih=> ?_
 rw [Za.KK,Za.Zbg]
 have:∀xs:List Za,(∀y∈xs,y.cnt≤y.bk+1)→QB Za.cnt xs≤bkS Za.bk xs:=by
  intro xs
  induction xs with
  | nil=>intro _;simp [QB]
  | cons y ys ih2=>
   intro h
   have h1:=h y (by simp)
   have h2:=ih2 fun z hz=>h z (by simp [hz])
   simp only [QB,bkS,List.map_cons,List.sum_cons,List.length_cons] at h2 ⊢
   omega
 have:=this x.args ih
 omega
theorem Za.Zah:∀x:Za,x.nest≤x.cnt:=by
 refine Za.ind fun x ih=> ?_
 rw [Za.KK,Za.ZbO]
 have:∀(xs:List Za) (n m:Nat),(∀y∈xs,y.nest≤y.cnt)→n≤m→Za.VF n xs≤m+QB Za.cnt xs:=by
  intro xs
  induction xs with
  | nil=>intro n m _ h;simpa [Za.VF,QB] using h
  | cons y ys ih2=>
   intro n m h hn
   have h1:=h y (by simp)
   have h2:=ih2 (max n y.nest) (m+y.cnt) (fun z hz=>h z (by simp [hz])) (by omega)
   simp only [Za.VF,QB,List.map_cons,List.sum_cons] at h2 ⊢
   omega
 have:=this x.args 0 0 ih (by omega)
 omega
theorem Za.Ud (x:Za):x.args.length≤x.bk:=by rw [Za.Zbg];have:=Zez (f:=Za.bk) (xs:=x.args);omega
theorem Za.Zgy (x:Za):x.text.size≤x.bk:=by rw [Za.Zbg];omega
theorem Za.Uq {x y:Za} (h:y∈x.args):y.bk≤x.bk:=by rw [Za.Zbg x];have:=Zhl (f:=Za.bk) h;omega
theorem UY:∀x:Za,x.bk≤1048576→Ev fun k=>∀l:Int,0≤l→l≤1048576→Qi k x l=some (szR x.cnt l):=by
 refine Za.ind fun x ih hb=> ?_
 refine ((Ev.all x.args fun y hy=>ih y hy (by have:=Za.Uq hy;omega)).and (Ev.ge (x.args.length+2))).pred ?_
 rintro k ⟨hx,hk⟩ l l0 l1
 have hlen:=x.Ud
 rw [Qi,w64 (by omega) (by omega)]
 have key:∀(m n i:Nat) (c:Int),i+m=x.args.length→m<n→ -1≤c→c≤1048576→YM (Qi k) x n c (i:Int)=some (if 0≤c then szR (QB Za.cnt (x.args.drop i)) c else-1):=by
  intro m
  induction m with
  | zero=>
   intro n i c hi hn c0 c1
   obtain ⟨n,rfl⟩:∃j,n=j+1:=⟨n-1,by omega⟩
   rw [YM,if_neg (UG (by omega)),List.drop_of_length_le (by omega)]
   by_cases h:0≤c
   ·simp [QB,szR,h]
   ·rw [if_neg h];simp;omega
  | succ m ih2=>
   intro n i c hi hn c0 c1
   obtain ⟨n,rfl⟩:∃j,n=j+1:=⟨n-1,by omega⟩
   have hil:i<x.args.length:=by omega
   rw [YM,if_pos (QA hil),Option.bind_some]
   by_cases h:0≤c
   ·rw [if_pos (by simpa using h),XU hil,Option.bind_some,hx _ (List.getElem_mem hil) c h c1,Option.bind_some,wS i (by omega),if_pos h,List.drop_eq_getElem_cons hil]
    have e:QB Za.cnt (x.args[i]::x.args.drop (i+1))=x.args[i].cnt+QB Za.cnt (x.args.drop (i+1)):=by unfold QB;rw [List.map_cons,List.sum_cons]
    rw [e]
    rcases ZgA (b:=x.args[i].cnt) (left:=c) c1 with ⟨z,e1,g1,q1,p1,r1⟩| ⟨e1,q1⟩
    ·rw [e1,ih2 n (i+1) z (by omega) (by omega) (by omega) r1,if_pos p1,q1]
     unfold szR
     by_cases h2:(QB Za.cnt (x.args.drop (i+1)):Int)≤c-x.args[i].cnt
     ·rw [if_pos h2,if_pos (by omega)];congr 1;omega
     ·rw [if_neg h2,if_neg (by omega)]
    ·rw [e1,ih2 n (i+1) (-1) (by omega) (by omega) (by omega) (by omega),if_neg (by omega)]
     unfold szR
     rw [if_neg (by omega)]
   ·rw [if_neg (by simpa using h),if_neg h];congr 1;omega
 have:=key x.args.length k 0 (l-1) (by omega) (by omega) (by omega) (by omega)
 rw [show ((0:Nat):Int)=0 from rfl] at this
 rw [this,Option.bind_some,x.KK,List.drop_zero]
 congr 1
 unfold szR
 by_cases h:0≤l-1
 ·rw [if_pos h]
  by_cases h2:(QB Za.cnt x.args:Int)≤l-1
  ·rw [if_pos h2,if_pos (by omega)];omega
  ·rw [if_neg h2,if_neg (by omega)]
 ·rw [if_neg h,if_neg (by omega)]
theorem Xf:∀x:Za,x.bk≤1048576→Ev fun k=>YD k x=some (x.cnt:Int):=by
 refine Za.ind fun x ih hb=> ?_
 refine ((Ev.all x.args fun y hy=>ih y hy (by have:=Za.Uq hy;omega)).and (Ev.ge (x.args.length+2))).pred ?_
 rintro k ⟨hx,hk⟩
 have hlen:=x.Ud
 have hc:=x.KM
 have he:=x.KK
 rw [YD]
 have key:∀(m n i:Nat) (c:Nat),i+m=x.args.length→m<n→c+QB Za.cnt (x.args.drop i)≤1048577→Yj (YD k) x n (c:Int) (i:Int)=some ((c+QB Za.cnt (x.args.drop i):Nat):Int):=by
  intro m
  induction m with
  | zero=>
   intro n i c hi hn hc
   obtain ⟨n,rfl⟩:∃j,n=j+1:=⟨n-1,by omega⟩
   rw [Yj,if_neg (UG (by omega)),List.drop_of_length_le (by omega)]
   simp [QB]
  | succ m ih2=>
   intro n i c hi hn hc
   obtain ⟨n,rfl⟩:∃j,n=j+1:=⟨n-1,by omega⟩
   have hil:i<x.args.length:=by omega
   have e:QB Za.cnt (x.args.drop i)=x.args[i].cnt+QB Za.cnt (x.args.drop (i+1)):=by rw [List.drop_eq_getElem_cons hil];unfold QB;rw [List.map_cons,List.sum_cons]
   rw [Yj,if_pos (QA hil),XU hil,Option.bind_some,hx _ (List.getElem_mem hil),Option.bind_some,wS i (by omega),w64 (by omega) (by omega)]
   rw [show (c:Int)+(x.args[i].cnt:Int)=((c+x.args[i].cnt:Nat):Int) by omega,ih2 n (i+1) _ (by omega) (by omega) (by omega)]
   congr 2;omega
 have:=key x.args.length k 0 1 (by omega) (by omega) (by rw [List.drop_zero];omega)
 rw [show ((0:Nat):Int)=0 from rfl,show ((1:Nat):Int)=1 from rfl] at this
 rw [this,Option.bind_some,List.drop_zero,he]
theorem Zag (x:Za) (hb:x.bk≤1048576):Ev fun k=>Ys k x=some (x.nest:Int)∧Yt k x=some (x.nest:Int):=by
 revert hb
 refine Za.ind (p:=fun x=>x.bk≤1048576→Ev fun k=>Ys k x=some (x.nest:Int)∧Yt k x=some (x.nest:Int)) (fun x ih hb=> ?_) x
 refine ((Ev.all x.args fun y hy=>ih y hy (by have:=Za.Uq hy;omega)).and (Ev.ge (x.args.length+2))).pred ?_
 rintro k ⟨hx,hk⟩
 have hlen:=x.Ud
 have hc:=x.KM
 have hn:=x.Zah
 have he:=x.ZbO
 have key:∀(m n i:Nat) (c:Nat),i+m=x.args.length→m<n→Yd (Ys k) x n (c:Int) (i:Int)=some ((Za.VF c (x.args.drop i):Nat):Int)∧Yk (Yt k) x n (c:Int) (i:Int)=some ((Za.VF c (x.args.drop i):Nat):Int):=by
  intro m
  induction m with
  | zero=>
   intro n i c hi hn
   obtain ⟨n,rfl⟩:∃j,n=j+1:=⟨n-1,by omega⟩
   rw [Yd,Yk,if_neg (UG (by omega)),if_neg (UG (by omega)),List.drop_of_length_le (by omega)]
   simp [Za.VF]
  | succ m ih2=>
   intro n i c hi hn
   obtain ⟨n,rfl⟩:∃j,n=j+1:=⟨n-1,by omega⟩
   have hil:i<x.args.length:=by omega
   obtain ⟨h1,h2⟩:=hx _ (List.getElem_mem hil)
   have hm:JF (c:Int) (x.args[i].nest:Int)=some ((max c x.args[i].nest:Nat):Int):=by
    unfold JF
    by_cases h:(x.args[i].nest:Int)<c
    ·rw [if_pos (by simpa using h)];congr 1;omega
    ·rw [if_neg (by simpa using h)];congr 1;omega
   have hi2:(if (x.args[i].nest:Int)>(c:Int) then (x.args[i].nest:Int) else (c:Int))=((max c x.args[i].nest:Nat):Int):=by split<;>omega
   rw [Yd,Yk,if_pos (QA hil),if_pos (QA hil),XU hil,Option.bind_some,Option.bind_some,h1,h2,Option.bind_some,Option.bind_some,hm,Option.bind_some,hi2,wS i (by omega),List.drop_eq_getElem_cons hil]
   simp only [Za.VF]
   exact ih2 n (i+1) _ (by omega) (by omega)
 obtain ⟨k1,k2⟩:=key x.args.length k 0 0 (by omega) (by omega)
 rw [show ((0:Nat):Int)=0 from rfl,List.drop_zero] at k1 k2
 have hw:IntKind.i64.wrap ((Za.VF 0 x.args:Nat)+1:Int)=(x.nest:Int):=by rw [w64 (by omega) (by omega)];omega
 constructor
 ·rw [Ys,k1,Option.bind_some,hw]
 ·rw [Yt,k2,Option.bind_some,hw]
theorem ZgQ (x:Za) (hs:(x.text.size:Int)≤9223372036854775807) {k:Nat} (hk:x.text.size<k) (hk2:24<k):∃b,XG k x=some b∧Qz k x=some b∧∀j,x.text.size<j→24<j→XG j x=some b∧Qz j x=some b:=by
 have key:∃b,∀j,x.text.size<j→24<j→XG j x=some b∧Qz j x=some b:=by
  have hac:∃z,ZB x.text=some z∧Zm x.text=some z:=by
   rw [J8]
   obtain ⟨z,hz⟩:=Ur x.text
   exact ⟨z,hz,hz⟩
  obtain ⟨z,z1,z2⟩:=hac
  obtain ⟨tx,ht⟩:∃tx,tx=(!(x.text.data.toList.any Wc)&&decide ((x.text.size:Int)≤20)):=⟨_,rfl⟩
  obtain ⟨nx,hn⟩:∃nx,nx=Va x.text:=⟨_,rfl⟩
  refine ⟨if x.kind=1 then decide ((x.args.length:Int)=0)&&decide (x.text=⟨#[]⟩)&&(decide (0≤x.n)&&decide (x.n≤1000000000)) else if x.kind=2 then decide ((x.args.length:Int)=0)&&decide (x.n=0)&&tx
   else if x.kind=3 then decide ((x.args.length:Int)=0)&&decide (x.n=0)&&nx else if x.kind=4 then decide (x.n=0)&&decide (x.text=⟨#[]⟩)&&decide ((x.args.length:Int)≤8)
   else if x.kind=5 then decide (x.n=0)&&decide ((x.args.length:Int)=z) else if x.kind=6 then decide (x.text=⟨#[]⟩)&&decide ((x.args.length:Int)=2)&&(decide (1≤x.n)&&decide (x.n≤5))
   else if x.kind=7 then decide (x.n=0)&&decide ((x.args.length:Int)=2)&&nx else if x.kind=9 then decide (x.n=0)&&decide ((x.args.length:Int)=2)&&nx else if x.kind=8 then decide (x.n=0)&&decide (x.text=⟨#[]⟩)&&decide ((x.args.length:Int)=3) else false,fun j hj hj2=> ?_⟩
  obtain ⟨t1,t2⟩:=ZaG x.text hs hj
  obtain ⟨n1,n2⟩:=WS x.text hs hj hj2
  rw [←ht] at t1 t2
  rw [←hn] at n1 n2
  unfold XG Qz
  rw [t1,t2,n1,n2,z1,z2]
  simp only [Zg0,Js,Option.bind_some]
  by_cases k1:x.kind=1
  ·simp only [k1,decide_true,if_true,if_pos]
   cases decide ((x.args.length:Int)=0)<;>cases decide (x.text=(⟨#[]⟩:ByteArray))<;>cases decide (0≤x.n)<;>cases decide (x.n≤1000000000)<;>simp
  by_cases k2:x.kind=2
  ·simp only [k2]
   cases decide ((x.args.length:Int)=0)<;>cases decide (x.n=0)<;>cases tx<;>simp
  by_cases k3:x.kind=3
  ·simp only [k3]
   cases decide ((x.args.length:Int)=0)<;>cases decide (x.n=0)<;>cases nx<;>simp
  by_cases k4:x.kind=4
  ·simp only [k4]
   cases decide (x.n=0)<;>cases decide (x.text=(⟨#[]⟩:ByteArray))<;>simp
  by_cases k5:x.kind=5
  ·simp only [k5]
   cases decide (x.n=0)<;>simp
  by_cases k6:x.kind=6
  ·simp only [k6]
   cases decide ((x.args.length:Int)=2)<;>cases decide (x.text=(⟨#[]⟩:ByteArray))<;>cases decide (1≤x.n)<;>cases decide (x.n≤5)<;>simp
  by_cases k7:x.kind=7
  ·simp only [k7]
   cases decide ((x.args.length:Int)=2)<;>cases decide (x.n=0)<;>cases nx<;>simp
  by_cases k9:x.kind=9
  ·simp only [k9]
   cases decide ((x.args.length:Int)=2)<;>cases decide (x.n=0)<;>cases nx<;>simp
  by_cases k8:x.kind=8
  ·simp only [k8]
   cases decide (x.n=0)<;>cases decide (x.text=(⟨#[]⟩:ByteArray))<;>simp
  simp [k1,k2,k3,k4,k5,k6,k7,k8,k9]
 obtain ⟨b,hb⟩:=key
 exact ⟨b,(hb k hk hk2).1,(hb k hk hk2).2,hb⟩
theorem Za.ZhI {x:Za} (h:x.bk≤1048576):(x.text.size:Int)≤9223372036854775807:=by have:=x.Zgy;omega
theorem nodes (x:Za) (hb:x.bk≤1048576):∃b,Ev fun k=>Y7 k x=some b∧ZE k x=some b:=by
 revert hb
 refine Za.ind (p:=fun x=>x.bk≤1048576→∃b,Ev fun k=>Y7 k x=some b∧ZE k x=some b) (fun x ih hb=> ?_) x
 obtain ⟨f,hf⟩:=Wp (p:=fun y b=>Ev fun k=>Y7 k y=some b∧ZE k y=some b) x.args fun y hy=>ih y hy (by have:=Za.Uq hy;omega)
 obtain ⟨b,_,_,hn⟩:=ZgQ x (Za.ZhI hb) (k:=x.text.size+25) (by omega) (by omega)
 have hlen:=x.Ud
 refine ⟨!(x.args.any fun y=>!f y)&&b, ?_⟩
 refine ((Ev.all x.args hf).and ((Ev.ge (x.args.length+2)).and (Ev.ge (x.text.size+25)))).pred ?_
 rintro k ⟨hx,hk,hk2⟩
 obtain ⟨n1,n2⟩:=hn k (by omega) (by omega)
 constructor
 ·rw [Y7,XV x.args (fun y=>!f y) (fun y=>(Y7 k y).bind fun z=>some (!z)) false () (Qk (Y7 k) x) (fun y hy=>by (try simp only);rw [(hx y hy).1];rfl)
   (fun n i=>by rw [Qk];simp only [Option.bind_assoc,Option.bind_some]) (by omega) (by omega)]
  cases x.args.any fun y=>!f y<;>simp [n1]
 ·rw [ZE,XV x.args (fun y=>!f y) (fun y=>(ZE k y).bind fun z=>some (!z)) false () (Yi (ZE k) x) (fun y hy=>by (try simp only);rw [(hx y hy).2];rfl)
   (fun n i=>by rw [Yi];simp only [Option.bind_assoc,Option.bind_some]) (by omega) (by omega)]
  cases x.args.any fun y=>!f y<;>simp [n2]
theorem ZaH (x:Za) (hb:x.bk≤1048576):∃v,Ev fun k=>ZJ k x=some v∧ZR k x=some v:=by
 obtain ⟨q,hq⟩:=nodes x hb
 have hc:=x.KM
 have hn:=x.Zah
 refine ⟨decide (x.cnt≤40)&&decide (x.nest≤8)&&q, ?_⟩
 refine (hq.and ((Zag x hb).and ((UY x hb).and (Xf x hb)))).mono ?_
 rintro k ⟨⟨q1,q2⟩,⟨n1,n2⟩,l,c⟩
 constructor
 ·unfold ZJ
  rw [l 40 (by omega) (by omega),n1,q1]
  by_cases h:x.cnt≤40
  ·have e:szR x.cnt 40=40-x.cnt:=by unfold szR;rw [if_pos (by omega)]
   rw [e]
   simp only [Option.bind_some]
   rw [if_pos (by simp;omega)]
   by_cases h8:x.nest≤8
   ·rw [if_pos (by simp;omega)]
    simp [h,h8]
   ·rw [if_neg (by simp;omega)]
    simp [h8]
  ·have e:szR x.cnt 40= -1:=by unfold szR;rw [if_neg (by omega)]
   rw [e]
   simp [h]
 ·unfold ZR
  rw [c,n2,q2]
  simp only [Option.bind_some]
  by_cases h:x.cnt≤40
  ·rw [if_pos (by simp;omega)]
   by_cases h8:x.nest≤8
   ·rw [if_pos (by simp;omega)]
    simp [h,h8]
   ·rw [if_neg (by simp;omega)]
    simp [h8]
  ·rw [if_neg (by simp;omega)]
   simp [h]
end Go.Proofs.Ytneeinggggadpaa
namespace Go.Proofs.Ytneeinggggadpaa
open Go.RowKit Am
def XT (f:Za→Bool) (w:Int) (j:Nat) (y:Za):Bool:=if (j:Int)<w then !decide (y.kind=1)&&!decide (y.kind=2) else !f y
theorem Zh7 (x:Za) (hb:x.bk≤1048576):∃b,Ev fun k=>ZW k x=some b∧Zn k x=some b:=by
 revert hb
 refine Za.ind (p:=fun x=>x.bk≤1048576→∃b,Ev fun k=>ZW k x=some b∧Zn k x=some b) (fun x ih hb=> ?_) x
 obtain ⟨f,hf⟩:=Wp (p:=fun y b=>Ev fun k=>ZW k y=some b∧Zn k y=some b) x.args fun y hy=>ih y hy (by have:=Za.Uq hy;omega)
 have hlen:=x.Ud
 have loops:∀(c:Int) (k:Nat),(∀y∈x.args,ZW k y=some (f y)∧Zn k y=some (f y))→x.args.length<k→
   Y0 (ZW k) x c k 0=some (if anyI (XT f (IntKind.i64.wrap ((x.args.length:Int)-c))) 0 x.args=true then .inr false else .inl ())∧
   Z9 (Zn k) x c k 0=some (if anyI (XT f (IntKind.i64.wrap ((x.args.length:Int)-c))) 0 x.args=true then .inr false else .inl ()):=by
  intro c k hx hk
  obtain ⟨w,hw⟩:∃w,w=IntKind.i64.wrap ((x.args.length:Int)-c):=⟨_,rfl⟩
  rw [←hw]
  constructor
  ·refine Wq x.args (XT f w) (fun i y=>if (decide (i<w))=true then (if (!decide (y.kind=1))=true then if (!decide (y.kind=2))=true then some true else some false else some false:Option Bool) else (ZW k y).bind fun z=>some (!z)) false () _ (fun j hj=> ?_) (fun n i=> ?_) (by omega) hk
   ·unfold XT
    (try simp only)
    rw [(hx _ (List.getElem_mem hj)).1]
    by_cases h:(j:Int)<w
    ·rw [if_pos (by simpa using h),if_pos h]
     cases decide (x.args[j].kind=1)<;>cases decide (x.args[j].kind=2)<;>simp
    ·rw [if_neg (by simpa using h),if_neg h];rfl
   ·rw [Y0,←hw]
  ·refine Wq x.args (XT f w) (fun i y=>if (decide (w≤i))=true then (Zn k y).bind fun z=>some (!z) else (if (!decide (y.kind=1))=true then some (!decide (y.kind=2)) else some false:Option Bool)) false () _ (fun j hj=> ?_) (fun n i=> ?_) (by omega) hk
   ·unfold XT
    (try simp only)
    rw [(hx _ (List.getElem_mem hj)).2]
    by_cases h:(j:Int)<w
    ·rw [if_neg (by simp;omega),if_pos h]
     cases decide (x.args[j].kind=1)<;>cases decide (x.args[j].kind=2)<;>simp
    ·rw [if_pos (by simp;omega),if_neg h];rfl
   ·rw [Z9,←hw]
    by_cases h1:i<(x.args.length:Int)
    ·rw [if_pos (show (decide (i<(x.args.length:Int)))=true by simpa using h1),if_pos (show (decide (i<(x.args.length:Int)))=true by simpa using h1)]
     cases at? x.args i with
     | none=>rfl
     | some y=>
      simp only [Option.bind_some]
      by_cases h2:w≤i
      ·rw [if_pos (show (decide (w≤i))=true by simpa using h2),if_pos (show (decide (w≤i))=true by simpa using h2)]
       cases Zn k y with
       | none=>rfl
       | some z=>cases z<;>rfl
      ·rw [if_neg (show ¬(decide (w≤i))=true by simpa using h2),if_neg (show ¬(decide (w≤i))=true by simpa using h2)]
       cases decide (y.kind=1)<;>cases decide (y.kind=2)<;>rfl
    ·rw [if_neg (show ¬(decide (i<(x.args.length:Int)))=true by simpa using h1),if_neg (show ¬(decide (i<(x.args.length:Int)))=true by simpa using h1)]
 have htab:∃c:Int,YU x.text=some c∧((c=0∧∀k,¬x.kind=3→Zn (k+1) x=some false)∨(c≠0∧∀k,¬x.kind=3→Zn (k+1) x=if (!decide (x.kind=5))=true then some false else (Z9 (Zn k) x c k 0).bind fun | .inl _=>some true| .inr z=>some z)):=by
  by_cases e1:x.text=⟨#[119,104,101,114,101]⟩
  ·exact ⟨1,by unfold YU;simp [e1],.inr ⟨by omega,fun k h3=>by rw [Zn,if_neg (by simpa using h3)];simp [e1];rfl⟩⟩
  by_cases e2:x.text=⟨#[107,101,101,112]⟩
  ·exact ⟨1,by unfold YU;simp [e2],.inr ⟨by omega,fun k h3=>by rw [Zn,if_neg (by simpa using h3)];simp [e2];rfl⟩⟩
  by_cases e3:x.text=⟨#[97,100,100]⟩
  ·exact ⟨1,by unfold YU;simp [e3],.inr ⟨by omega,fun k h3=>by rw [Zn,if_neg (by simpa using h3)];simp [e3];rfl⟩⟩
  by_cases e4:x.text=⟨#[103,114,111,117,112]⟩
  ·exact ⟨1,by unfold YU;simp [e4],.inr ⟨by omega,fun k h3=>by rw [Zn,if_neg (by simpa using h3)];simp [e4];rfl⟩⟩
  by_cases e5:x.text=⟨#[106,111,105,110]⟩
  ·exact ⟨2,by unfold YU;simp [e5],.inr ⟨by omega,fun k h3=>by rw [Zn,if_neg (by simpa using h3)];simp [e5];rfl⟩⟩
  exact ⟨0,by unfold YU;simp [e1,e2,e3,e4,e5],.inl ⟨rfl,fun k h3=>by rw [Zn,if_neg (by simpa using h3)];simp [e1,e2,e3,e4,e5]⟩⟩
 obtain ⟨c,hc,hcase⟩:=htab
 by_cases h3:x.kind=3
 ·refine ⟨true,(Ev.ge 0).pred fun k _=>⟨by rw [ZW,if_pos (by simpa using h3)],by rw [Zn,if_pos (by simpa using h3)]⟩⟩
 by_cases h5:x.kind=5
 ·rcases hcase with ⟨hc0,hi⟩| ⟨hc0,hi⟩
  ·refine ⟨false,(Ev.ge 0).pred fun k _=>⟨?_,hi k h3⟩⟩
   rw [ZW,if_neg (by simpa using h3),hc]
   simp [h5,hc0]
  ·refine ⟨!(anyI (XT f (IntKind.i64.wrap ((x.args.length:Int)-c))) 0 x.args),((Ev.all x.args hf).and (Ev.ge (x.args.length+2))).pred ?_⟩
   rintro k ⟨hx,hk⟩
   obtain ⟨l1,l2⟩:=loops c k hx (by omega)
   constructor
   ·rw [ZW,if_neg (by simpa using h3),hc]
    simp only [Option.bind_some,h5,decide_true,Bool.not_true]
    rw [if_neg (by simp),Option.bind_some,if_neg (by simpa using hc0),l1]
    cases anyI (XT f (IntKind.i64.wrap ((x.args.length:Int)-c))) 0 x.args<;>rfl
   ·rw [hi k h3,if_neg (by simpa using h5),l2]
    cases anyI (XT f (IntKind.i64.wrap ((x.args.length:Int)-c))) 0 x.args<;>rfl
 ·refine ⟨false,(Ev.ge 0).pred fun k _=>⟨?_, ?_⟩⟩
  ·rw [ZW,if_neg (by simpa using h3),hc]
   simp [h5]
  ·rcases hcase with ⟨hc0,hi⟩| ⟨hc0,hi⟩
   ·exact hi k h3
   ·rw [hi k h3,if_pos (by simpa using h5)]
theorem ZbI (x:Za) (hb:x.bk≤1048576):∃v,Ev fun k=>Qm k x=some v∧Yn k x=some v:=by
 obtain ⟨p,hp⟩:=Zh7 x hb
 obtain ⟨q,hq⟩:=nodes x hb
 have hc:=x.KM
 have hn:=x.Zah
 refine ⟨decide (x.cnt≤40)&&decide (x.nest≤8)&&q&&p, ?_⟩
 refine (hp.and (hq.and ((Zag x hb).and ((UY x hb).and (Xf x hb))))).mono ?_
 rintro k ⟨⟨p1,p2⟩,⟨q1,q2⟩,⟨n1,n2⟩,l,c⟩
 constructor
 ·unfold Qm ZJ
  rw [l 40 (by omega) (by omega),n1,q1,p1]
  by_cases h:x.cnt≤40
  ·have e:szR x.cnt 40=40-x.cnt:=by unfold szR;rw [if_pos (by omega)]
   rw [e]
   simp only [Option.bind_some]
   rw [if_pos (by simp;omega)]
   by_cases h8:x.nest≤8
   ·rw [if_pos (by simp;omega)]
    cases q<;>simp [h,h8]
   ·rw [if_neg (by simp;omega)]
    simp [h8]
  ·have e:szR x.cnt 40= -1:=by unfold szR;rw [if_neg (by omega)]
   rw [e]
   simp [h]
 ·unfold Yn ZR
  rw [c,n2,q2,p2]
  simp only [Option.bind_some]
  by_cases h:x.cnt≤40
  ·rw [if_pos (by simp;omega)]
   by_cases h8:x.nest≤8
   ·rw [if_pos (by simp;omega)]
    cases q<;>simp [h,h8]
   ·rw [if_neg (by simp;omega)]
    simp [h8]
  ·rw [if_neg (by simp;omega)]
   simp [h]
end Go.Proofs.Ytneeinggggadpaa
namespace Go.Proofs.Ytneeinggggadpaa
open Go.RowKit Am
def Tot {α:Type} (p:α→Prop) (f:Nat→Option α):Prop:=∃v,p v∧Ev fun k=>f k=some v
section
variable {α β γ ε σ:Type} {p:α→Prop} {q:β→Prop}
theorem Tot.ret {v:α} (h:p v):Tot p fun _=>some v:=⟨v,h,Ev.of fun _=>rfl⟩
theorem Tot.mono {p':α→Prop} {f:Nat→Option α} (h:Tot p f) (g:∀v,p v→p' v):Tot p' f:=by obtain ⟨v,h1,h2⟩:=h;exact ⟨v,g v h1,h2⟩
theorem Tot.bind {f:Nat→Option α} {g:Nat→α→Option β} (h:Tot p f) (hg:∀v,p v→Tot q fun k=>g k v):Tot q fun k=>(f k).bind (g k):=by
 obtain ⟨v,h1,h2⟩:=h
 obtain ⟨u,h3,h4⟩:=hg v h1
 exact ⟨u,h3,(h2.and h4).mono fun k ⟨e1,e2⟩=>by simp only [e1,Option.bind_some,e2]⟩
theorem Tot.ite {b:Prop} [Decidable b] {f g:Nat→Option β} (h1:b→Tot q f) (h2:¬b→Tot q g):Tot q fun k=>if b then f k else g k:=by
 by_cases h:b
 ·simp only [if_pos h];exact h1 h
 ·simp only [if_neg h];exact h2 h
theorem Tot.pred {f:Nat→Option α} (h:Tot p fun k=>f (k+1)):Tot p f:=by
 obtain ⟨v,h1,h2⟩:=h
 exact ⟨v,h1,h2.pred fun k h=>h⟩
theorem Tot.of {f:Option α} {v:α} (e:f=some v) (h:p v):Tot p fun _=>f:=⟨v,h,Ev.of fun _=>e⟩
theorem Tot.at {xs:List α} {i:Int} (h0:0≤i) (h1:i<xs.length) (h:∀x,xs[i.toNat]? =some x→x∈xs→p x):Tot p fun _=>at? xs i:=by
 have hl:i.toNat<xs.length:=by omega
 refine .of (v:=xs[i.toNat]) ?_ (h _ (List.getElem?_eq_getElem hl) (List.getElem_mem hl))
 unfold at?
 rw [if_pos h0,List.getElem?_eq_getElem hl]
theorem Tot.bindAt {xs:List α} {i:Int} {g:Nat→α→Option β} (h0:0≤i) (h1:i<xs.length) (h:∀x,xs[i.toNat]? =some x→x∈xs→Tot q fun k=>g k x):Tot q fun k=>(at? xs i).bind (g k):=
 Tot.bind (p:=fun x=>xs[i.toNat]? =some x∧x∈xs) (Tot.at h0 h1 fun x e m=>⟨e,m⟩) fun x hx=>h x hx.1 hx.2
theorem Tot.bindApp {b:Nat} {xs ys:List α} {g:Nat→List α→Option β} (hb:b≤128) (h0:xs.length+ys.length≤1099511627776) (h:Tot q fun k=>g k (xs++ys)):Tot q fun k=>(Xm b xs ys).bind (g k):=by
 simp only [J9 h0 hb,Option.bind_some];exact h
def Jq (Inv:σ→Prop) (Post:ε→Prop) (U:Nat→Nat→σ→Option ε) (f:Nat→Nat→Option ε):Prop:=
 (∃s,Inv s∧Ev fun k=>∀m,f k m=U k m s)∨∃r,Post r∧Ev fun k=>∀m,f k m=some r
variable {Inv:σ→Prop} {Post:ε→Prop} {U:Nat→Nat→σ→Option ε}
theorem Jq.bind {f:Nat→Option α} {g:Nat→Nat→α→Option ε} (h:Tot p f) (hg:∀v,p v→Jq Inv Post U fun k m=>g k m v):Jq Inv Post U fun k m=>(f k).bind (g k m):=by
 obtain ⟨v,h1,h2⟩:=h
 rcases hg v h1 with ⟨s,h3,h4⟩| ⟨r,h3,h4⟩
 ·exact .inl ⟨s,h3,(h2.and h4).mono fun k ⟨e1,e2⟩ m=>by simp only [e1,Option.bind_some,e2]⟩
 ·exact .inr ⟨r,h3,(h2.and h4).mono fun k ⟨e1,e2⟩ m=>by simp only [e1,Option.bind_some,e2]⟩
theorem Jq.ite {b:Prop} [Decidable b] {f g:Nat→Nat→Option ε} (h1:b→Jq Inv Post U f) (h2:¬b→Jq Inv Post U g):Jq Inv Post U fun k m=>if b then f k m else g k m:=by
 by_cases h:b
 ·simp only [if_pos h];exact h1 h
 ·simp only [if_neg h];exact h2 h
theorem Jq.ret {r:ε} (h:Post r):Jq Inv Post U fun _ _=>some r:=.inr ⟨r,h,Ev.of fun _ _=>rfl⟩
theorem Jq.next {s:σ} (h:Inv s):Jq Inv Post U fun k m=>U k m s:=.inl ⟨s,h,Ev.of fun _ _=>rfl⟩
theorem Jq.bindAt {xs:List α} {i:Int} {g:Nat→Nat→α→Option ε} (h0:0≤i) (h1:i<xs.length) (h:∀x,xs[i.toNat]? =some x→x∈xs→Jq Inv Post U fun k m=>g k m x):Jq Inv Post U fun k m=>(at? xs i).bind (g k m):=
 Jq.bind (p:=fun x=>xs[i.toNat]? =some x∧x∈xs) (Tot.at h0 h1 fun x e m=>⟨e,m⟩) fun x hx=>h x hx.1 hx.2
theorem Jq.bindApp {b:Nat} {xs ys:List α} {g:Nat→Nat→List α→Option ε} (hb:b≤128) (h0:xs.length+ys.length≤1099511627776) (h:Jq Inv Post U fun k m=>g k m (xs++ys)):Jq Inv Post U fun k m=>(Xm b xs ys).bind (g k m):=by
 simp only [J9 h0 hb,Option.bind_some];exact h
theorem Tot.loop (U:Nat→Nat→σ→Option ε) (Inv:σ→Prop) (μ:σ→Nat) {Post:ε→Prop} {s0:σ} (h0:Inv s0)
  (step:∀s,Inv s→Jq (fun s'=>Inv s'∧μ s'<μ s) Post U fun k m=>U k (m+1) s):Tot Post fun k=>U k k s0:=by
 have key:∀n s,μ s=n→Inv s→∃r,Post r∧Ev fun k=>∀j,μ s<j→U k j s=some r:=by
  intro n
  induction n using Nat.strongRecOn with
  | _ n ih=>
   intro s hn hs
   rcases step s hs with ⟨s',⟨h1,h2⟩,h3⟩| ⟨r,h1,h2⟩
   ·obtain ⟨r,h4,h5⟩:=ih _ (by omega) s' rfl h1
    refine ⟨r,h4,(h3.and h5).mono fun k ⟨e1,e2⟩ j hj=> ?_⟩
    obtain ⟨j,rfl⟩:∃i,j=i+1:=⟨j-1,by omega⟩
    exact (e1 j).trans (e2 j (by omega))
   ·refine ⟨r,h1,h2.mono fun k e j hj=> ?_⟩
    obtain ⟨j,rfl⟩:∃i,j=i+1:=⟨j-1,by omega⟩
    exact e j
 obtain ⟨r,h1,h2⟩:=key _ s0 rfl h0
 exact ⟨r,h1,(h2.and (Ev.ge (μ s0+1))).mono fun k ⟨e,hk⟩=>e k (by omega)⟩
end
theorem Jq.next2 {A B ε:Type} {Inv:A×B→Prop} {Post:ε→Prop} {U:Nat→Nat→A×B→Option ε} {a:A} {b:B} (h:Inv (a,b)):Jq Inv Post U fun k m=>U k m (a,b):=.next h
end Go.Proofs.Ytneeinggggadpaa
namespace Go.Proofs.Ytneeinggggadpaa
open Go.RowKit Am
end Go.Proofs.Ytneeinggggadpaa
namespace Go.Proofs.Ytneeinggggadpaa
open Go.RowKit Am
def PP (x:Za):Prop:=Ev fun k=>Zn k x=some true
def VV' (x:Za):Prop:=Ev fun k=>ZE k x=some true
def PT (t:ByteArray):Prop:=t=⟨#[119,104,101,114,101]⟩∨t=⟨#[107,101,101,112]⟩∨t=⟨#[97,100,100]⟩∨t=⟨#[103,114,111,117,112]⟩∨t=⟨#[106,111,105,110]⟩
theorem ZeG {α:Type} {t:Nat→α→Bool}:∀{xs:List α} {i:Nat},anyI t i xs=false→∀j (h:j<xs.length),t (i+j) xs[j]=false
 | x::xs,i,h,0,_=>by
  have:(t i x||anyI t (i+1) xs)=false:=h
  simp only [Bool.or_eq_false_iff] at this
  exact this.1
 | x::xs,i,h,j+1,hj=>by
  have:(t i x||anyI t (i+1) xs)=false:=h
  simp only [Bool.or_eq_false_iff] at this
  have:=ZeG this.2 j (by simpa using hj)
  rw [show i+(j+1)=i+1+j by omega]
  simpa using this
theorem Zd6 (x:Za) (f:Za→Bool) (c:Int) (k:Nat) (hl:x.args.length≤1048576) (hx:∀y∈x.args,Zn k y=some (f y)) (hk:x.args.length<k):
  Z9 (Zn k) x c k 0=some (if anyI (XT f (IntKind.i64.wrap ((x.args.length:Int)-c))) 0 x.args=true then .inr false else .inl ()):=by
 obtain ⟨w,hw⟩:∃w,w=IntKind.i64.wrap ((x.args.length:Int)-c):=⟨_,rfl⟩
 rw [←hw]
 refine Wq x.args (XT f w) (fun i y=>if (decide (w≤i))=true then (Zn k y).bind fun z=>some (!z) else (if (!decide (y.kind=1))=true then some (!decide (y.kind=2)) else some false:Option Bool)) false () _ (fun j hj=> ?_) (fun n i=> ?_) (by omega) hk
 ·unfold XT
  (try simp only)
  rw [hx _ (List.getElem_mem hj)]
  by_cases h:(j:Int)<w
  ·rw [if_neg (by simp;omega),if_pos h]
   cases decide (x.args[j].kind=1)<;>cases decide (x.args[j].kind=2)<;>simp
  ·rw [if_pos (by simp;omega),if_neg h];rfl
 ·rw [Z9,←hw]
  by_cases h1:i<(x.args.length:Int)
  ·rw [if_pos (show (decide (i<(x.args.length:Int)))=true by simpa using h1),if_pos (show (decide (i<(x.args.length:Int)))=true by simpa using h1)]
   cases at? x.args i with
   | none=>rfl
   | some y=>
    simp only [Option.bind_some]
    by_cases h2:w≤i
    ·rw [if_pos (show (decide (w≤i))=true by simpa using h2),if_pos (show (decide (w≤i))=true by simpa using h2)]
     cases Zn k y with
     | none=>rfl
     | some z=>cases z<;>rfl
    ·rw [if_neg (show ¬(decide (w≤i))=true by simpa using h2),if_neg (show ¬(decide (w≤i))=true by simpa using h2)]
     cases decide (y.kind=1)<;>cases decide (y.kind=2)<;>rfl
  ·rw [if_neg (show ¬(decide (i<(x.args.length:Int)))=true by simpa using h1),if_neg (show ¬(decide (i<(x.args.length:Int)))=true by simpa using h1)]
theorem Zd7 (x:Za) (hb:x.bk≤1048576) (c:Int) (h:Ev fun k=>(Z9 (Zn k) x c k 0).bind (fun | .inl _=>some true| .inr z=>some z)=some true) (hc:0≤c) (hc2:c≤4):
  ∀j (hj:j<x.args.length),if (j:Int)<(x.args.length:Int)-c then x.args[j].kind=1∨x.args[j].kind=2 else PP x.args[j]:=by
 have hlen:=x.Ud
 obtain ⟨f,hf⟩:=Wp (p:=fun y b=>Ev fun k=>ZW k y=some b∧Zn k y=some b) x.args fun y hy=>Zh7 y (by have:=Za.Uq hy;omega)
 have hw:IntKind.i64.wrap ((x.args.length:Int)-c)=(x.args.length:Int)-c:=w64 (by omega) (by omega)
 obtain ⟨k,h1,h2,h3⟩:=(h.and ((Ev.all x.args hf).and (Ev.ge (x.args.length+1)))).get
 rw [Zd6 x f c k (by omega) (fun y hy=>(h2 y hy).2) (by omega),hw] at h1
 have hno:anyI (XT f ((x.args.length:Int)-c)) 0 x.args=false:=by
  cases ha:anyI (XT f ((x.args.length:Int)-c)) 0 x.args with
  | false=>rfl
  | true=>rw [ha] at h1;cases h1
 intro j hj
 have:=ZeG hno j hj
 rw [Nat.zero_add] at this
 unfold XT at this
 by_cases hlt:(j:Int)<(x.args.length:Int)-c
 ·rw [if_pos hlt] at this ⊢
  by_cases e1:x.args[j].kind=1
  ·exact .inl e1
  ·by_cases e2:x.args[j].kind=2
   ·exact .inr e2
   ·simp [e1,e2] at this
 ·rw [if_neg hlt] at this ⊢
  have hfj:f x.args[j]=true:=by simpa using this
  exact (hf _ (List.getElem_mem hj)).mono fun k h=>by rw [h.2,hfj]
theorem Zcq (x:Za) (hb:x.bk≤1048576) (h:PP x):x.kind=3∨(x.kind=5∧PT x.text∧∃c:Int,1≤c∧c≤2∧∀j (hj:j<x.args.length),if (j:Int)<(x.args.length:Int)-c then x.args[j].kind=1∨x.args[j].kind=2 else PP x.args[j]):=by
 by_cases h3:x.kind=3
 ·exact .inl h3
 have key:∀c:Int,(∀k,Zn (k+1) x=if (!decide (x.kind=5))=true then some false else (Z9 (Zn k) x c k 0).bind fun | .inl _=>some true| .inr z=>some z)→1≤c→c≤2→PT x.text→x.kind=5∧PT x.text∧∃c:Int,1≤c∧c≤2∧∀j (hj:j<x.args.length),if (j:Int)<(x.args.length:Int)-c then x.args[j].kind=1∨x.args[j].kind=2 else PP x.args[j]:=by
  intro c hi hc hc2 ht
  obtain ⟨B,hB⟩:=h
  by_cases h5:x.kind=5
  ·refine ⟨h5,ht,c,hc,hc2,Zd7 x hb c ⟨B,fun k hk=> ?_⟩ (by omega) (by omega)⟩
   have:Zn (k+1) x=some true:=hB (k+1) (by omega)
   rw [hi k,if_neg (by simpa using h5)] at this
   exact this
  ·have:Zn (B+1) x=some true:=hB (B+1) (by omega)
   rw [hi B,if_pos (by simpa using h5)] at this
   cases this
 right
 by_cases e1:x.text=⟨#[119,104,101,114,101]⟩
 ·exact key 1 (fun k=>by rw [Zn,if_neg (by simpa using h3)];simp [e1];rfl) (by omega) (by omega) (.inl e1)
 by_cases e2:x.text=⟨#[107,101,101,112]⟩
 ·exact key 1 (fun k=>by rw [Zn,if_neg (by simpa using h3)];simp [e2];rfl) (by omega) (by omega) (.inr (.inl e2))
 by_cases e3:x.text=⟨#[97,100,100]⟩
 ·exact key 1 (fun k=>by rw [Zn,if_neg (by simpa using h3)];simp [e3];rfl) (by omega) (by omega) (.inr (.inr (.inl e3)))
 by_cases e4:x.text=⟨#[103,114,111,117,112]⟩
 ·exact key 1 (fun k=>by rw [Zn,if_neg (by simpa using h3)];simp [e4];rfl) (by omega) (by omega) (.inr (.inr (.inr (.inl e4))))
 by_cases e5:x.text=⟨#[106,111,105,110]⟩
 ·exact key 2 (fun k=>by rw [Zn,if_neg (by simpa using h3)];simp [e5];rfl) (by omega) (by omega) (.inr (.inr (.inr (.inr e5))))
 obtain ⟨B,hB⟩:=h
 have:Zn (B+1) x=some true:=hB (B+1) (by omega)
 rw [Zn,if_neg (by simpa using h3)] at this
 simp [e1,e2,e3,e4,e5] at this
theorem Za0 (x:Za) (hb:x.bk≤1048576) (h:VV' x):(∀y∈x.args,VV' y)∧∃k,Qz k x=some true:=by
 have hlen:=x.Ud
 obtain ⟨f,hf⟩:=Wp (p:=fun y b=>Ev fun k=>Y7 k y=some b∧ZE k y=some b) x.args fun y hy=>nodes y (by have:=Za.Uq hy;omega)
 obtain ⟨B,hB⟩:=h
 obtain ⟨k,h2,h3,h4⟩:=((Ev.all x.args hf).and ((Ev.ge (x.args.length+1)).and (Ev.ge B))).get
 have h1:ZE (k+1) x=some true:=hB (k+1) (by omega)
 rw [ZE,XV x.args (fun y=>!f y) (fun y=>(ZE k y).bind fun z=>some (!z)) false () (Yi (ZE k) x) (fun y hy=>by (try simp only);rw [(h2 y hy).2];rfl)
  (fun n i=>by rw [Yi];simp only [Option.bind_assoc,Option.bind_some]) (by omega) (by omega)] at h1
 cases ha:x.args.any fun y=>!f y with
 | true=>rw [ha] at h1;cases h1
 | false=>
  rw [ha] at h1
  refine ⟨fun y hy=>(hf y hy).mono fun k h=> ?_,k, ?_⟩
  ·have:=List.any_eq_false.1 ha y hy
   rw [h.2];simpa using this
  ·cases hn:Qz k x with
   | none=>rw [hn] at h1;cases h1
   | some z=>rw [hn] at h1;simpa using h1
theorem Zbv (a lo hi:Int):∃b,XA a lo hi=some b:=⟨_,Js a lo hi⟩
theorem JO {x:Za} {k:Nat} (h:Qz k x=some true) (hk:x.kind=1∨x.kind=2∨x.kind=3):x.args=[]:=by
 have fin:decide ((x.args.length:Int)=0)=true→x.args=[]:=fun h=>by
  have h:(x.args.length:Int)=0:=by simpa using h
  exact List.length_eq_zero_iff.1 (by omega)
 unfold Qz at h
 rcases hk with hk| hk| hk
 ·obtain ⟨b,hb⟩:=Zbv x.n 0 1000000000
  simp only [hk,hb,Option.bind_some] at h
  cases b<;>cases ht:decide (x.text=(⟨#[]⟩:ByteArray))<;>rw [ht] at h<;>simp at h
  exact fin (by simpa using h)
 ·simp only [hk] at h
  cases hz:Y8 k x.text with
  | none=>rw [hz] at h;cases hd:decide (x.n=0)<;>rw [hd] at h<;>simp at h
  | some b=>rw [hz] at h;cases b<;>cases hd:decide (x.n=0)<;>rw [hd] at h<;>simp at h;exact fin (by simpa using h)
 ·simp only [hk] at h
  cases hz:ZY k x.text with
  | none=>rw [hz] at h;cases hd:decide (x.n=0)<;>rw [hd] at h<;>simp at h
  | some b=>rw [hz] at h;cases b<;>cases hd:decide (x.n=0)<;>rw [hd] at h<;>simp at h;exact fin (by simpa using h)
theorem Za1 {x:Za} {k:Nat} (h:Qz k x=some true) (hk:x.kind=5):Zm x.text=some (x.args.length:Int):=by
 unfold Qz at h
 simp only [hk] at h
 cases hz:Zm x.text with
 | none=>rw [hz] at h;cases hd:decide (x.n=0)<;>rw [hd] at h<;>simp at h
 | some b=>
  rw [hz] at h
  cases hd:decide (x.n=0)<;>rw [hd] at h<;>simp at h
  rw [h]
theorem J2 (x:Za) (k:Nat) (hl:x.args.length≤1048576) (hx:∀y∈x.args,ZS k y=some false) (hk:x.args.length<k):Yf (ZS k) x k 0=some (.inl ()):=by
 rw [XV x.args (fun _=>false) (ZS k) true () (Yf (ZS k) x) (fun y hy=>hx y hy) (fun n i=>by rw [Yf]) (by omega) hk]
 rw [show (x.args.any fun _=>false)=false by simp];rfl
theorem KP (x:Za) (k:Nat) (hx:∀y∈x.args,Yq k y=some []) (hk:x.args.length<k) (hl:x.args.length≤1048576):Yb (Yq k) x k [] 0=some []:=by
 refine Zib (fun n (s:List ByteArray) i=>Yb (Yq k) x n s i) (fun _=>[]) _ x.args.length (fun n i hi=> ?_) (fun n=> ?_) hk
 ·(try simp only)
  rw [Yb,if_pos (QA hi),XU hi,Option.bind_some,hx _ (List.getElem_mem hi),Option.bind_some,J9 (by simp) (by omega),Option.bind_some,wS i (by omega)]
  rfl
 ·(try simp only)
  rw [Yb,if_neg (UG (Nat.le_refl _))]
theorem Zba (x:Za) (k:Nat) (h7:x.kind≠7) (h9:x.kind≠9) (F:Za→List ByteArray) (hx:∀y∈x.args,Ym k y []=some (F y)) (hk:x.args.length<k) (hl:x.args.length≤1048576) (hF:((x.args.map F).flatten).length≤1099511627776):
  Yx (Ym k) x [] k [] 0=some (x.args.map F).flatten:=by
 have:=Zib (fun n (s:List ByteArray) i=>Yx (Ym k) x [] n s i) (fun i=>((x.args.take i).map F).flatten) (some (x.args.map F).flatten) x.args.length (fun n i hi=> ?_) (fun n=> ?_) hk
 ·simpa using this
 ·(try simp only)
  have e:((x.args.take (i+1)).map F).flatten=((x.args.take i).map F).flatten++F x.args[i]:=by
   rw [List.take_succ_eq_append_getElem hi,List.map_append,List.flatten_append];simp
  have hle:((x.args.take i).map F).flatten.length+(F x.args[i]).length≤1099511627776:=by
   have h1:(x.args.map F).flatten=((x.args.take (i+1)).map F).flatten++((x.args.drop (i+1)).map F).flatten:=by
    rw [←List.flatten_append,←List.map_append,List.take_append_drop]
   have h2:=congrArg List.length h1
   rw [List.length_append,e,List.length_append] at h2
   omega
  rw [Yx,if_pos (QA hi),decide_eq_false h7,decide_eq_false h9]
  simp only [Bool.false_eq_true,if_false,Option.bind_some]
  rw [XU hi,Option.bind_some,hx _ (List.getElem_mem hi),Option.bind_some,J9 hle (by omega),Option.bind_some,wS i (by omega),e]
 ·(try simp only)
  rw [Yx,if_neg (UG (Nat.le_refl _)),List.take_length]
theorem ZcE (F:Za→List ByteArray):∀xs:List Za,(∀y∈xs,(F y).length≤y.cnt)→(xs.map F).flatten.length≤QB Za.cnt xs
 | [],_=>by simp
 | x::xs,h=>by
  have h1:=h x (by simp)
  have h2:=ZcE F xs fun y hy=>h y (by simp [hy])
  rw [List.map_cons,List.flatten_cons,List.length_append,show QB Za.cnt (x::xs)=x.cnt+QB Za.cnt xs from rfl];omega
structure Pf (x:Za):Prop where
 eff:Ev fun k=>ZS k x=some false
 bnd:Ev fun k=>Yq k x=some []
 fre:∃L:List ByteArray,L.length≤x.cnt∧(PP x→L≠[])∧Ev fun k=>Ym k x []=some L
theorem ZiI {t:ByteArray} (h:PT t):decide (t=(⟨#[99,108,111,99,107]⟩:ByteArray))=false∧decide (t=(⟨#[99,104,97,110,99,101]⟩:ByteArray))=false∧decide (t=(⟨#[102,105,108,101]⟩:ByteArray))=false:=by
 rcases h with rfl| rfl| rfl| rfl| rfl<;>decide
theorem Zg4 {k:Nat} (hk:0<k) (s:ByteArray):Uz k [] s=some false:=by
 obtain ⟨k,rfl⟩:∃j,k=j+1:=⟨k-1,by omega⟩
 rfl
theorem Zc6:∀x:Za,x.bk≤1048576→VV' x→((x.kind=1∨x.kind=2)∨PP x)→Pf x:=by
 refine Za.ind fun x ih hb hv hk=> ?_
 have hlen:=x.Ud
 have hcnt:=x.KM
 have ec:=x.KK
 obtain ⟨va,k0,hn⟩:=Za0 x hb hv
 have leaf:x.args=[]→x.kind≠5→x.kind≠7→x.kind≠9→(∃L:List ByteArray,L.length≤x.cnt∧(PP x→L≠[])∧Ev fun k=>Ym k x []=some L)→Pf x:=fun ha h5 h7 h9 hf=>by
  refine ⟨(Ev.ge 2).pred fun k hk=> ?_,(Ev.ge 2).pred fun k hk=> ?_,hf⟩
  ·rw [ZS,decide_eq_false h5,J2 x k (by omega) (by rw [ha];simp) (by rw [ha];simp;omega)];rfl
  ·rw [Yq,decide_eq_false h7,decide_eq_false h9]
   simp only [Bool.false_eq_true,if_false,Option.bind_some]
   rw [KP x k (by rw [ha];simp) (by rw [ha];simp;omega) (by omega)];rfl
 by_cases hp:PP x
 ·rcases Zcq x hb hp with h3| ⟨h5,ht,c,c1,c2,hargs⟩
  ·refine leaf (JO hn (.inr (.inr h3))) (by omega) (by omega) (by omega) ⟨[x.text],by simp;omega,fun _=>by simp,(Ev.ge 2).pred fun k hk=> ?_⟩
   rw [Ym,decide_eq_true h3,Zg4 (by omega)]
   simp only [if_true,Option.bind_some,Bool.not_false]
   rw [J9 (by simp) (by omega)];rfl
  ·have hall:∀y∈x.args,Pf y:=fun y hy=>by
    obtain ⟨j,hj,rfl⟩:=List.mem_iff_getElem.1 hy
    refine ih _ hy (by have:=Za.Uq hy;omega) (va _ hy) ?_
    have:=hargs j hj
    split at this
    ·exact .inl this
    ·exact .inr this
   obtain ⟨F,hF⟩:=Wp (p:=fun y (L:List ByteArray)=>L.length≤y.cnt∧(PP y→L≠[])∧Ev fun k=>Ym k y []=some L) x.args fun y hy=>(hall y hy).fre
   have hfl:=ZcE F x.args fun y hy=>(hF y hy).1
   obtain ⟨q1,q2,q3⟩:=ZiI ht
   refine ⟨((Ev.all x.args fun y hy=>(hall y hy).eff).and (Ev.ge (x.args.length+2))).pred fun k ⟨h1,hk⟩=> ?_,((Ev.all x.args fun y hy=>(hall y hy).bnd).and (Ev.ge (x.args.length+2))).pred fun k ⟨h1,hk⟩=> ?_,(x.args.map F).flatten,by omega,fun _=> ?_,((Ev.all x.args fun y hy=>(hF y hy).2.2).and (Ev.ge (x.args.length+2))).pred fun k ⟨h1,hk⟩=> ?_⟩
   ·rw [ZS,decide_eq_true h5,q1,q2,q3,J2 x k (by omega) h1 (by omega)];rfl
   ·rw [Yq,decide_eq_false (show ¬x.kind=7 by omega),decide_eq_false (show ¬x.kind=9 by omega)]
    simp only [Bool.false_eq_true,if_false,Option.bind_some]
    rw [KP x k h1 (by omega) (by omega)];rfl
   ·have hc:=Za1 hn h5
    have hpos:0<x.args.length:=by
     rcases ht with e| e| e| e| e<;>rw [e] at hc<;>simp [Zm] at hc<;>omega
    have hj:x.args.length-1<x.args.length:=by omega
    have hlast:=hargs (x.args.length-1) hj
    rw [if_neg (by omega)] at hlast
    have hne:=(hF _ (List.getElem_mem hj)).2.1 hlast
    intro he
    have:=List.flatten_eq_nil_iff.1 he _ (List.mem_map.2 ⟨_,List.getElem_mem hj,rfl⟩)
    exact hne this
   ·rw [Ym,decide_eq_false (show ¬x.kind=3 by omega)]
    simp only [Bool.false_eq_true,if_false,Option.bind_some]
    rw [Zba x k (by omega) (by omega) F h1 (by omega) (by omega) (by omega)];rfl
 ·rcases hk with hk| hk
  ·have ha:=JO hn (by omega)
   refine leaf ha (by omega) (by omega) (by omega) ⟨[],by simp,fun h=>absurd h hp,(Ev.ge 2).pred fun k hk2=> ?_⟩
   rw [Ym,decide_eq_false (show ¬x.kind=3 by omega)]
   simp only [Bool.false_eq_true,if_false,Option.bind_some]
   rw [Zba x k (by omega) (by omega) (fun _=>[]) (by rw [ha];simp) (by rw [ha];simp;omega) (by omega) (by rw [ha];simp),ha];rfl
  ·exact absurd hk hp
theorem ZdT {α:Type} {xs:List α} {lo hi:Int} (h0:0≤lo) (h1:lo≤hi) (h2:hi≤xs.length):Tot (fun l:List α=>(l.length:Int)=hi-lo) fun _=>ZgB xs lo hi:=by
 refine .of (v:=(xs.take hi.toNat).drop lo.toNat) (by unfold ZgB;rw [if_pos ⟨h0,h1,h2⟩]) ?_
 rw [List.length_drop,List.length_take];omega
theorem Zcn (L:List ByteArray) (hL:L.length≤1100000):Tot (fun r:List ByteArray=>L≠[]→r≠[]) fun k=>QM k L:=by
 unfold QM
 refine .bind (p:=fun r:List ByteArray=>L≠[]→r≠[]) ?_ fun r hr=>.ret hr
 refine Tot.loop (fun k n (s:List ByteArray×Int)=>YA k L n s.1 s.2) (fun s=>(s.1.length:Int)≤s.2∧0≤s.2∧s.2≤L.length∧(0<s.2→s.1≠[])) (fun s=>(L.length-s.2).toNat) (s0:=([],0)) ⟨by simp,by simp,by simp,fun h=>by simp at h⟩ ?_
 rintro ⟨out,i⟩ ⟨g1,g2,g3,g4⟩
 simp only at g1 g2 g3 g4
 simp only [YA]
 refine .ite (fun e=> ?_) fun e=>.ret fun hne=>g4 (by
  have e:¬i<L.length:=by simpa using e
  have:0<L.length:=List.length_pos_iff.2 hne
  omega)
 have e:i<L.length:=by simpa using e
 have hw:IntKind.i64.wrap (i+1)=i+1:=w64 (by omega) (by omega)
 rw [hw]
 refine .bind (p:=fun r:List ByteArray=>(r.length:Int)≤i+1∧r≠[]) ?_ fun r hr=>.next2 ⟨⟨hr.1,by simp only;omega,by simp only;omega,fun _=>hr.2⟩,by simp only;omega⟩
 refine .bind (p:=fun j:Int=>0≤j∧j≤out.length) ?_ fun j hj=> ?_
 ·refine Tot.loop (fun k n (s:Int)=>Yz L out i n s) (fun s=>0≤s∧s≤out.length) (fun s=>(out.length-s).toNat) (s0:=0) ⟨by simp,by simp⟩ ?_
  rintro j ⟨j1,j2⟩
  simp only [Yz]
  refine .bind (p:=fun b:Bool=>b=true→j<out.length) (.ite (fun e2=> ?_) fun _=>.ret fun h=>by cases h) fun b hb=>.ite (fun e3=> ?_) fun _=>.ret ⟨j1,j2⟩
  ·have e2:j<out.length:=by simpa using e2
   exact .bindAt j1 e2 fun x _ _=>.bindAt g2 e fun y _ _=>.ret fun _=>e2
  ·have:=hb e3
   have hw2:IntKind.i64.wrap (j+1)=j+1:=w64 (by omega) (by omega)
   rw [hw2]
   exact .next ⟨⟨by omega,by omega⟩,by omega⟩
 ·refine .bind (p:=fun b:Bool=>b=true→out≠[]) (.ite (fun e2=> ?_) fun _=>.ret fun h=>by cases h) fun b hb=>.ite (fun e3=>.ret ⟨by omega,hb e3⟩) fun _=> ?_
  ·have e2:j<out.length:=by simpa using e2
   exact .bindAt hj.1 e2 fun x _ _=>.bindAt g2 e fun y _ _=>.ret fun _ h=>by rw [h] at e2;simp at e2;omega
  ·refine .bind (ZdT hj.1 hj.2 (Int.le_refl _)) fun a ha=>.bindApp (by omega) (by simp;omega) (.bind (ZdT (Int.le_refl 0) hj.1 hj.2) fun b hb=>.bindAt g2 e fun y _ _=>.bindApp (by omega) (by simp;omega) (.bindApp (by omega) (by simp;omega) (.ret ⟨by simp;omega,by simp⟩)))
end Go.Proofs.Ytneeinggggadpaa
namespace Go.Proofs.Ytneeinggggadpaa
open Go.RowKit Am
def Cu (c:Zf):Prop:=0≤c.i∧c.b.length≤1048576
theorem Zge (x:Int):0≤Zfr .i64 x 255∧Zfr .i64 x 255≤255:=by
 unfold Zfr
 have h:(BitVec.ofInt IntKind.i64.bits x &&& BitVec.ofInt IntKind.i64.bits 255).toNat≤255:=by
  rw [BitVec.toNat_and]
  exact Nat.le_trans Nat.and_le_right (by decide)
 rw [w64 (by omega) (by omega)]
 omega
theorem Un {c:Zf} (h:Cu c):Tot (fun r:Int×Zf=>(0≤r.1∧r.1≤255)∧Cu r.2) fun _=>Xt c:=by
 obtain ⟨h0,h1⟩:=h
 unfold Xt
 refine .bind (p:=fun r:Int×Int=>(0≤r.1∧r.1≤255)∧0≤r.2) (.ite (fun e=> ?_) fun _=>.ret ⟨Zge _,h0⟩) fun v hv=>.ret ⟨hv.1,hv.2,h1⟩
 have e:c.i<c.b.length:=by simpa using e
 refine .bindAt h0 e fun y _ _=>.ret ⟨Zge _, ?_⟩
 simp only
 rw [w64 (by omega) (by omega)];omega
theorem Zf0 {x n:Int} (h0:0≤x) (h1:x≤9223372036854775807) (hn:0<n):0≤IntKind.i64.wrap (x.tmod n)∧IntKind.i64.wrap (x.tmod n)<n:=by
 have a:=Int.tmod_nonneg n h0
 have b:=Int.tmod_lt_of_pos x hn
 have c:x.tmod n≤x:=by
  by_cases g:n≤x
  ·omega
  ·rw [Int.tmod_eq_emod_of_nonneg h0,Int.emod_eq_of_lt h0 (by omega)];omega
 rw [w64 (by omega) (by omega)]
 exact ⟨a,b⟩
theorem ZM {c:Zf} (n:Int) (h:Cu c):Tot (fun r:Int×Zf=>(0≤r.1∧(0<n→r.1<n)∧(n≤0→r.1=0))∧Cu r.2) fun _=>ZD c n:=by
 unfold ZD
 refine .ite (fun e=> ?_) fun e=> ?_
 ·have e:n≤0:=by simpa using e
  exact .ret ⟨⟨Int.le_refl _,fun g=>by omega,fun _=>rfl⟩,h⟩
 have e:0<n:=by simpa using e
 have hz:∀{β:Type} {q:β→Prop} {g:Nat→Unit→Option β},Tot q (fun k=>g k ())→Tot q fun k=>(nz? n).bind (g k):=fun hg=>by
  have:nz? n=some ():=by unfold nz?;rw [if_pos (by omega)]
  simp only [this,Option.bind_some];exact hg
 refine .ite (fun _=>.bind (Un h) fun v hv=>hz (.ret ⟨?_,hv.2⟩)) fun _=>.bind (Un h) fun v hv=>.bind (Un hv.2) fun u hu=>.bind (Un hu.2) fun t ht=>.bind (Un ht.2) fun s hs=>hz (.ret ⟨?_,hs.2⟩)
 ·have:=Zf0 (x:=v.1) (n:=n) hv.1.1 (by omega) e
  exact ⟨this.1,fun _=>this.2,fun g=>by omega⟩
 ·have a:=hv.1;have b:=hu.1;have c:=ht.1;have d:=hs.1
  have e1:IntKind.i64.wrap (v.1*16777216)=v.1*16777216:=w64 (by omega) (by omega)
  have e2:IntKind.i64.wrap (u.1*65536)=u.1*65536:=w64 (by omega) (by omega)
  have e3:IntKind.i64.wrap (t.1*256)=t.1*256:=w64 (by omega) (by omega)
  have e4:IntKind.i64.wrap (v.1*16777216+u.1*65536)=v.1*16777216+u.1*65536:=w64 (by omega) (by omega)
  have e5:IntKind.i64.wrap (v.1*16777216+u.1*65536+t.1*256)=v.1*16777216+u.1*65536+t.1*256:=w64 (by omega) (by omega)
  have e6:IntKind.i64.wrap (v.1*16777216+u.1*65536+t.1*256+s.1)=v.1*16777216+u.1*65536+t.1*256+s.1:=w64 (by omega) (by omega)
  simp only [e1,e2,e3,e4,e5,e6]
  have:=Zf0 (x:=v.1*16777216+u.1*65536+t.1*256+s.1) (n:=n) (by omega) (by omega) e
  exact ⟨this.1,fun _=>this.2,fun g=>by omega⟩
theorem Zae {c:Zf} (n:Int) (h:Cu c):Tot (fun r:Bool×Zf=>Cu r.2) fun _=>Wu c n:=by
 unfold Wu
 exact .bind (ZM n h) fun v hv=>.ret hv.2
theorem ZbJ {c:Zf} (l:List Int) (h:Cu c) (h0:0<l.length):Tot (fun r:Int×Zf=>r.1∈l∧Cu r.2) fun _=>XF c l:=by
 unfold XF
 exact .bind (ZM _ h) fun v hv=>.bindAt hv.1.1 (hv.1.2.1 (by omega)) fun x _ hm=>.ret ⟨hm,hv.2⟩
theorem Zfb {c:Zf} (l:List ByteArray) (h:Cu c) (h0:0<l.length):Tot (fun r:ByteArray×Zf=>r.1∈l∧Cu r.2) fun _=>YJ c l:=by
 unfold YJ
 exact .bind (ZM _ h) fun v hv=>.bindAt hv.1.1 (hv.1.2.1 (by omega)) fun x _ hm=>.ret ⟨hm,hv.2⟩
theorem ZgR (b:List Int) (h:b.length≤1048576):Tot Cu fun k=>JD k b:=by
 unfold JD
 refine .bind (p:=fun _=>True) ?_ fun v _=>.ret ⟨Int.le_refl _,h⟩
 refine Tot.loop (fun k n (s:Int×Int)=>QO b n s.1 s.2) (fun s=>0≤s.2∧s.2≤b.length) (fun s=>(b.length-s.2).toNat) (s0:=(_,0)) ⟨by simp,by simp⟩ ?_
 rintro ⟨x,i⟩ ⟨h0,h1⟩
 simp only at h0 h1
 simp only [QO]
 refine .bind (p:=fun v:Bool=>v=true→i<b.length) (.ite (fun e=>.ret fun _=>by simpa using e) fun _=>.ret fun g=>by cases g) fun v hv=>.ite (fun e=> ?_) fun _=>.ret trivial
 have e:=hv e
 have hw:IntKind.i64.wrap (i+1)=i+1:=w64 (by omega) (by omega)
 rw [hw]
 exact .bindAt h0 e fun y _ _=>.next2 ⟨⟨by simp only;omega,by simp only;omega⟩,by simp only;omega⟩
end Go.Proofs.Ytneeinggggadpaa
namespace Go.Proofs.Ytneeinggggadpaa
open Go.RowKit Am
theorem Yl {α:Type} (f:α→Nat) (x:α) (xs:List α):bkS f (x::xs)=1+f x+bkS f xs:=by
 unfold bkS;rw [List.length_cons,show QB f (x::xs)=f x+QB f xs from rfl];omega
theorem Yo {α:Type} (f:α→Nat):bkS f []=0:=rfl
theorem ZeA {α:Type} (f:α→Nat):∀xs ys:List α,bkS f (xs++ys)=bkS f xs+bkS f ys
 | [],ys=>by simp [Yo]
 | x::xs,ys=>by rw [List.cons_append,Yl,Yl,ZeA f xs ys];omega
theorem exb (k n:Int) (t:ByteArray) (l:List Za):(Za.mk k n t l).bk=t.size+bkS Za.bk l:=by rw [Za.Zbg];rfl
theorem X5:(⟨#[]⟩:ByteArray).size=0:=rfl
def Xb (B:Nat) (r:Za×Zf):Prop:=r.1.bk≤B∧Cu r.2
def Nm (l:List ByteArray):Prop:=0<l.length∧∀s∈l,s.size≤8
theorem QG {c:Zf} (l:List ByteArray) (h:Cu c) (h0:Nm l):Tot (fun r:ByteArray×Zf=>r.1.size≤8∧Cu r.2) fun _=>YJ c l:=
 (Zfb l h h0.1).mono fun r hr=>⟨h0.2 _ hr.1,hr.2⟩
theorem Ue {c:Zf} (h:Cu c) {l:List ByteArray} (hl:Nm l):Tot (Xb 8) fun _=>Xi c l:=by
 unfold Xi Yr XH
 simp only [Option.bind_some]
 refine .bind (ZM 5 h) fun v hv=>.ite (fun _=> ?_) fun _=>.bind (p:=fun _=>True) (.ite (fun _=>.ret trivial) fun _=>.ret trivial) fun b _=>.ite (fun _=> ?_) fun _=> ?_
 ·exact .bind (QG _ hv.2 ⟨by simp,by decide⟩) fun w hw=>.ret ⟨by rw [exb,Yo];omega,hw.2⟩
 ·exact .bind (ZM 6 hv.2) fun w hw=>.ret ⟨by rw [exb,Yo,X5];omega,hw.2⟩
 ·exact .bind (QG _ hv.2 hl) fun w hw=>.ret ⟨by rw [exb,Yo];omega,hw.2⟩
theorem ZhU {l:List Za} {B:Nat} (h:∀x∈l,x.bk≤B) {e:Za} (he:e.bk≤B) (i:Nat):∀x∈l.set i e,x.bk≤B:=fun x hx=>by
 rcases List.mem_or_eq_of_mem_set hx with h'| rfl
 ·exact h x h'
 ·exact he
theorem Zb5 {α:Type} {f:α→Nat} {B:Nat}:∀{xs:List α},(∀x∈xs,f x≤B)→bkS f xs≤xs.length*(B+1)
 | [],_=>by simp [Yo]
 | x::xs,h=>by
  have h1:=h x (by simp)
  have h2:=Zb5 (xs:=xs) fun y hy=>h y (by simp [hy])
  rw [Yl,List.length_cons,Nat.add_mul];omega
theorem Jj {c:Zf} (h:Cu c) {l:List ByteArray} (hl:Nm l):Tot (Xb 40) fun k=>Xh k c l:=by
 unfold Xh
 refine .bind (ZM 4 h) fun v hv=> ?_
 have hv1:=hv.1.2.1 (by omega)
 refine .bind (p:=fun r:List Za×List Int×Int×Int=>(∀x∈r.1,x.bk≤8)∧r.1.length≤4∧Cu ⟨r.2.1,r.2.2.1,r.2.2.2⟩) ?_ fun r hr=>.ret ⟨?_,hr.2.2⟩
 ·refine Tot.loop (fun _ n (s:List Int×Int×Int×List Za×Int)=>Y2 l v n s.1 s.2.1 s.2.2.1 s.2.2.2.1 s.2.2.2.2) (fun s=>(∀x∈s.2.2.2.1,x.bk≤8)∧(s.2.2.2.1.length:Int)=s.2.2.2.2∧s.2.2.2.2≤4∧Cu ⟨s.1,s.2.1,s.2.2.1⟩) (fun s=>(4-s.2.2.2.2).toNat) (s0:=(v.2.b,v.2.i,v.2.h,[],0)) ⟨by simp,by simp,by simp,hv.2⟩ ?_
  rintro ⟨b,i,hh,out,j⟩ ⟨g1,g2,g3,g4⟩
  simp only at g1 g2 g3 g4
  simp only [Y2,Yr,Option.bind_some]
  refine .ite (fun e=> ?_) fun e=>.ret ⟨g1,by simp only;omega,g4⟩
  have e:j<v.1:=by simpa using e
  have hw:IntKind.i64.wrap (j+1)=j+1:=w64 (by omega) (by omega)
  rw [hw]
  refine .bind (p:=fun r:List Int×Int×Int×List Za=>(∀x∈r.2.2.2,x.bk≤8)∧(r.2.2.2.length:Int)=j+1∧Cu ⟨r.1,r.2.1,r.2.2.1⟩) ?_ fun r hr=>Jq.next (s:=(r.1,r.2.1,r.2.2.1,r.2.2.2,j+1)) ⟨⟨hr.1,hr.2.1,by simp only;omega,hr.2.2⟩,by simp only;omega⟩
  refine .bind (ZM 5 g4) fun w hw=>.bindApp (by omega) (by simp;omega) ?_
  have g5:∀x∈out++[Za.mk 1 w.1 ⟨#[]⟩ []],x.bk≤8:=fun x hx=>by
   rcases List.mem_append.1 hx with h'| h'
   ·exact g1 x h'
   ·rw [List.mem_singleton.1 h',exb,Yo,X5];omega
  refine .bind (Zae 4 hw.2) fun z hz=>.ite (fun _=> ?_) fun _=>.ret ⟨g5,by simp;omega,hz⟩
  exact .bind (Ue hz hl) fun y hy=>.bindAt (by omega) (by simp;omega) fun x _ _=>.ret ⟨ZhU g5 hy.1 _,by simp;omega,hy.2⟩
 ·have h1:=Zb5 hr.1
  have h2:r.1.length*(8+1)≤4*9:=Nat.mul_le_mul hr.2.1 (by omega)
  show (Za.mk 4 0 ⟨#[]⟩ r.1).bk≤40
  rw [exb,X5];omega
theorem Wh {c:Zf} (h:Cu c) {B:Nat} {x y:Za} (hx:x.bk≤B) (hy:y.bk≤B):Tot (Xb B) fun _=>Yw c x y:=by
 unfold Yw
 exact .bind (Zae 2 h) fun v hv=>.ite (fun _=>.ret ⟨hx,hv⟩) fun _=>.ret ⟨hy,hv⟩
theorem Zb0 {c:Zf} (h:Cu c):Tot (Xb 8) fun _=>QL c:=by
 unfold QL
 exact .bind (QG _ h ⟨by simp,by decide⟩) fun w hw=>.ret ⟨by rw [exb,Yo];omega,hw.2⟩
theorem Jy {c:Zf} (h:Cu c):Tot (Xb 60) fun k=>Q2 k c:=by
 unfold Q2 YN
 simp only [Option.bind_some]
 refine .bind (ZM 4 h) fun v hv=> ?_
 have hv1:=hv.1.2.1 (by omega)
 refine .bind (p:=fun r:List Za×List Int×Int×Int=>(∀x∈r.1,x.bk≤8)∧r.1.length≤4∧Cu ⟨r.2.1,r.2.2.1,r.2.2.2⟩) ?_ fun r hr=>.ret ⟨?_,hr.2.2⟩
 ·refine Tot.loop (fun _ n (s:List Int×Int×Int×List Za×Int)=>YL v n s.1 s.2.1 s.2.2.1 s.2.2.2.1 s.2.2.2.2) (fun s=>(∀x∈s.2.2.2.1,x.bk≤8)∧(s.2.2.2.1.length:Int)=s.2.2.2.2∧s.2.2.2.2≤4∧Cu ⟨s.1,s.2.1,s.2.2.1⟩) (fun s=>(4-s.2.2.2.2).toNat) (s0:=(v.2.b,v.2.i,v.2.h,[],0)) ⟨by simp,by simp,by simp,hv.2⟩ ?_
  rintro ⟨b,i,hh,out,j⟩ ⟨g1,g2,g3,g4⟩
  simp only at g1 g2 g3 g4
  simp only [YL,Yr,Option.bind_some]
  refine .ite (fun e=> ?_) fun e=>.ret ⟨g1,by simp only;omega,g4⟩
  have e:j<v.1:=by simpa using e
  have hw:IntKind.i64.wrap (j+1)=j+1:=w64 (by omega) (by omega)
  rw [hw]
  refine .bind (ZM 3 g4) fun w hw=>.bind (ZM 4 hw.2) fun z hz=>.bindApp (by omega) (by simp;omega) ?_
  refine Jq.next (s:=(z.2.b,z.2.i,z.2.h,out++[_],j+1)) ⟨⟨fun x hx=> ?_,by simp;omega,by simp only;omega,hz.2⟩,by simp only;omega⟩
  rcases List.mem_append.1 hx with h'| h'
  ·exact g1 x h'
  ·rw [List.mem_singleton.1 h',exb,Yl,Yl,Yo,exb,exb,Yo,X5];omega
 ·have h1:=Zb5 hr.1
  have h2:r.1.length*(8+1)≤4*9:=Nat.mul_le_mul hr.2.1 (by omega)
  show (Za.mk 5 0 _ [Za.mk 2 0 _ [],Za.mk 4 0 ⟨#[]⟩ r.1]).bk≤60
  rw [exb,Yl,Yl,Yo,exb,exb,Yo,X5,show (⟨#[116,97,98,108,101]⟩:ByteArray).size=5 from rfl,show (⟨#[97,32,98]⟩:ByteArray).size=3 from rfl];omega
def MB:Nat→Nat
 | 0=>200
 | d+1=>4*MB d
theorem ZiJ:∀d,200≤MB d
 | 0=>Nat.le_refl _
 | d+1=>by have:=ZiJ d;unfold MB;omega
theorem Nm.cons {l:List ByteArray} (h:Nm l) {s:ByteArray} (hs:s.size≤8) (m:List ByteArray) (hm:∀x∈m,x.size≤8):Nm (m++l):=⟨by simp;have:=h.1;omega,fun x hx=>by
 rcases List.mem_append.1 hx with h'| h'
 ·exact hm x h'
 ·exact h.2 x h'⟩
theorem ZcP {b c:Prop} [Decidable b] [Decidable c]:Tot (fun _:Bool=>True) fun _=>if b then some true else some (decide c):=.ite (fun _=>.ret trivial) fun _=>.ret trivial
theorem Zfh:∀(d:Nat) (a:Int) (c:Zf) (l:List ByteArray),a≤d+1→d≤100→Cu c→Nm l→l.length+2*d≤1000→Tot (Xb (MB d)) fun k=>ZN k c l a:=by
 intro d
 induction d with
 | zero=>
  intro a c l ha hd hc hl hn
  refine Tot.pred ?_
  simp only [ZN]
  refine .ite (fun _=>.bind (Ue hc hl) fun v hv=>.ret ⟨by have:=hv.1;show v.1.bk≤MB 0;unfold MB;omega,hv.2⟩) fun e=> ?_
  simp at e;omega
 | succ d ih=>
  intro a c l ha hd hc hl hn
  have hM:=ZiJ d
  have hM1:MB (d+1)=4*MB d:=rfl
  refine Tot.pred ?_
  simp only [ZN,Q3,YN,Yr,Option.bind_some]
  refine .ite (fun _=>.bind (Ue hc hl) fun v hv=>.ret ⟨by have:=hv.1;show v.1.bk≤MB (d+1);omega,hv.2⟩) fun e=> ?_
  have e:¬a<2:=by simpa using e
  have hw:IntKind.i64.wrap (a-1)=a-1:=w64 (by omega) (by omega)
  rw [hw]
  have ih':∀(c:Zf) (l:List ByteArray),Cu c→Nm l→l.length+2*d≤1000→Tot (Xb (MB d)) fun k=>ZN k c l (a-1):=fun c l=>ih (a-1) c l (by omega) (by omega)
  have hpos:=hl.1
  have pk:∀(c:Zf) (x:ByteArray),Cu c→x.size≤8→Tot (fun r:ByteArray×Zf=>r.1.size≤8∧Cu r.2) fun _=>YJ c [⟨#[117]⟩,⟨#[118]⟩,x]:=fun c x h hx=>QG _ h ⟨by simp,fun s hs=>by
   simp only [List.mem_cons,List.not_mem_nil,or_false] at hs
   rcases hs with rfl| rfl| rfl
   ·decide
   ·decide
   ·exact hx⟩
  refine .bind (ZM 13 hc) fun v hv=>.bind ZcP fun b _=>.ite (fun _=> ?_) fun _=>.ite (fun _=> ?_) fun _=>.ite (fun _=> ?_) fun _=>.ite (fun _=> ?_) fun _=>.ite (fun _=> ?_) fun _=>.ite (fun _=> ?_) fun _=>.ite (fun _=> ?_) fun _=>.ite (fun _=> ?_) fun _=>.ite (fun _=> ?_) fun _=>.ite (fun _=> ?_) fun _=>.ite (fun _=> ?_) fun _=> ?_
  ·refine .bind (ZM 5 hv.2) fun w hw=>.bind (ih' _ l hw.2 hl (by omega)) fun x hx=>.bind (ih' _ l hx.2 hl (by omega)) fun y hy=>.ret ⟨?_,hy.2⟩
   have:=hx.1;have:=hy.1
   simp only [exb,Yl,Yo,X5];omega
  ·refine .bindAt (Int.le_refl _) (by omega) fun s _ hs=>.bind (pk _ s hv.2 (hl.2 s hs)) fun w hw=>.bind (ih' _ l hw.2 hl (by omega)) fun x hx=>.bindApp (by omega) (by simp;omega) (.bind (ih' _ _ hx.2 (hl.cons hw.1 [w.1] fun z hz=>by rw [List.mem_singleton.1 hz];exact hw.1) (by simp;omega)) fun y hy=>.ret ⟨?_,hy.2⟩)
   have:=hx.1;have:=hy.1;have:=hw.1
   simp only [exb,Yl,Yo];omega
  ·refine .bind (ih' _ l hv.2 hl (by omega)) fun x hx=>.bind (ih' _ l hx.2 hl (by omega)) fun y hy=>.bind (ih' _ l hy.2 hl (by omega)) fun z hz=>.ret ⟨?_,hz.2⟩
   have:=hx.1;have:=hy.1;have:=hz.1
   simp only [exb,Yl,Yo,X5];omega
  ·refine .bindAt (Int.le_refl _) (by omega) fun s _ hs=>.bind (pk _ s hv.2 (hl.2 s hs)) fun w hw=>.bind (Jj hw.2 hl) fun x hx=>.bindApp (by omega) (by simp;omega) (.bind (ih' _ _ hx.2 (hl.cons hw.1 [w.1,w.1] fun z hz=>by simp at hz;rw [hz];exact hw.1) (by simp;omega)) fun y hy=>.ret ⟨?_,hy.2⟩)
   have:=hx.1;have:=hy.1;have:=hw.1
   simp only [exb,Yl,Yo];omega
  ·exact .bind (Jj hv.2 hl) fun x hx=>.ret ⟨by have:=hx.1;show x.1.bk≤MB (d+1);omega,hx.2⟩
  ·refine .bind (QG _ hv.2 ⟨by simp,by decide⟩) fun w hw=>.bind (Jj hw.2 hl) fun x hx=>.bind (ih' _ l hx.2 hl (by omega)) fun y hy=>.bind (Wh (B:=MB d) hy.2 (by have:=hx.1;omega) hy.1) fun z hz=>.ret ⟨?_,hz.2⟩
   have:=hz.1;have:=hw.1
   simp only [exb,Yl,Yo];omega
  ·refine .bind (QG _ hv.2 ⟨by simp,by decide⟩) fun w hw=>.bind (ZM 4 hw.2) fun u hu=>.bind (Jj hu.2 hl) fun x hx=>.bind (ZM 9 hx.2) fun p hp=>.bind (ZM 4 hp.2) fun q hq=>.bind (Wh (B:=MB d) hq.2 (by have:=hx.1;omega) (by simp only [exb,Yl,Yo,X5,show (⟨#[114,97,110,103,101]⟩:ByteArray).size=5 from rfl];omega)) fun z hz=>.ret ⟨?_,hz.2⟩
   have:=hz.1;have:=hw.1
   simp only [exb,Yl,Yo,X5];omega
  ·refine .bind (Zb0 hv.2) fun w hw=>.bind (ZM 3 hw.2) fun u hu=>.bind (Jy hu.2) fun x hx=>.bind (ih' _ l hx.2 hl (by omega)) fun y hy=>.bind (Wh (B:=MB d) hy.2 (by have:=hx.1;omega) hy.1) fun z hz=>.ret ⟨?_,hz.2⟩
   have:=hz.1;have:=hw.1
   simp only [exb,Yl,Yo,X5,show (⟨#[119,104,101,114,101]⟩:ByteArray).size=5 from rfl];omega
  ·refine .bind (Zb0 hv.2) fun w hw=>.bind (Zb0 hw.2) fun u hu=>.bind (Jy hu.2) fun x hx=>.bind (ih' _ l hx.2 hl (by omega)) fun y hy=>.bind (Wh (B:=MB d) hy.2 (by have:=hx.1;omega) hy.1) fun z hz=>.ret ⟨?_,hz.2⟩
   have:=hz.1;have:=hw.1;have:=hu.1
   simp only [exb,Yl,Yo,X5,show (⟨#[103,114,111,117,112]⟩:ByteArray).size=5 from rfl];omega
  ·refine .bind (Jy hv.2) fun x hx=>.bind (ih' _ l hx.2 hl (by omega)) fun y hy=>.bind (Wh (B:=MB d) hy.2 (by have:=hx.1;omega) hy.1) fun z hz=>.ret ⟨?_,hz.2⟩
   have:=hz.1
   simp only [exb,Yl,Yo,X5,show (⟨#[114,111,119,115]⟩:ByteArray).size=4 from rfl];omega
  ·refine .bind (ZM 6 hv.2) fun w hw=>.ret ⟨?_,hw.2⟩
   simp only [exb,Yl,Yo,X5,show (⟨#[99,104,97,110,99,101]⟩:ByteArray).size=6 from rfl];omega
  ·refine .bind (QG _ hv.2 ⟨by simp,by decide⟩) fun w hw=>.bind (Wh (B:=MB d) hw.2 (by simp only [exb,Yo,show (⟨#[99,108,111,99,107]⟩:ByteArray).size=5 from rfl];omega) (by have:=hw.1;simp only [exb,Yl,Yo,show (⟨#[102,105,108,101]⟩:ByteArray).size=4 from rfl];omega)) fun z hz=>.ret ⟨?_,hz.2⟩
   have:=hz.1
   show z.1.bk≤MB (d+1);omega
theorem Zgf:Nm [⟨#[97]⟩,⟨#[98]⟩,⟨#[99]⟩]:=⟨by simp,by decide⟩
theorem Zeq {c:Zf} (h:Cu c):Tot (Xb 100000) fun k=>W0 k c:=by
 unfold W0
 refine .bind (ZM 4 h) fun v hv=> ?_
 have hv1:=hv.1.2.1 (by omega)
 have hv0:=hv.1.1
 have hw:IntKind.i64.wrap (1+v.1)=1+v.1:=w64 (by omega) (by omega)
 rw [hw]
 refine .bind (Zfh 4 _ _ _ (by omega) (by omega) hv.2 Zgf (by simp)) fun x hx=> ?_
 have hx1:x.1.bk≤100000:=Nat.le_trans hx.1 (by decide)
 obtain ⟨b,hb⟩:=ZaH x.1 (by omega)
 refine .bind (p:=fun _:Bool=>True) ⟨b,trivial,hb.mono fun k h=>h.1⟩ fun _ _=>.ite (fun _=> ?_) fun _=>.ret ⟨hx1,hx.2⟩
 exact .bind (Ue hx.2 Zgf) fun y hy=>.ret ⟨Nat.le_trans hy.1 (by omega),hy.2⟩
theorem ZfK {c:Zf} (h:Cu c):Tot (Xb 1000000) fun k=>W1 k c:=by
 unfold W1
 refine .bind (Zeq h) fun x hx=> ?_
 have hx1:=hx.1
 have e0:x.1.bk=x.1.text.size+bkS Za.bk x.1.args:=by rw [Za.Zbg];rfl
 have hl:=Zez (f:=Za.bk) (xs:=x.1.args)
 refine .bind (p:=fun r:Int×Int×ByteArray×List Za×List Int×Int×Int=>r.2.2.1.size+bkS Za.bk r.2.2.2.1≤1000000∧Cu ⟨r.2.2.2.2.1,r.2.2.2.2.2.1,r.2.2.2.2.2.2⟩) ?_ fun r hr=>.ret ⟨by rw [exb];exact hr.1,hr.2⟩
 refine .bind (ZM 12 hx.2) fun v hv=>.ite (fun _=> ?_) fun _=>.ite (fun _=> ?_) fun _=>.ite (fun _=> ?_) fun _=>.ite (fun _=> ?_) fun _=>.ite (fun _=> ?_) fun _=>.ret ⟨by simp only;omega,hv.2⟩
 ·exact .bind (ZM 11 hv.2) fun w hw=>.ret ⟨by simp only;omega,hw.2⟩
 ·exact .bind (Ue hv.2 ⟨by simp,by decide⟩) fun w hw=>.bindApp (by omega) (by simp;omega) (.ret ⟨by have:=hw.1;simp only [ZeA,Yl,Yo];omega,hw.2⟩)
 ·exact .bind (QG _ hv.2 ⟨by simp,by decide⟩) fun w hw=>.ret ⟨by have:=hw.1;simp only;omega,hw.2⟩
 ·exact .bind (ZbJ _ hv.2 (by simp)) fun w hw=>.ret ⟨by simp only;omega,hw.2⟩
 ·refine Tot.loop (fun _ n (s:Int×Int×ByteArray×List Za×Int)=>Y3 v n s.1 s.2.1 s.2.2.1 s.2.2.2.1 s.2.2.2.2) (fun s=>0≤s.2.2.2.2∧s.2.2.2.2≤7∧s.2.2.1.size+bkS Za.bk s.2.2.2.1≤100000+10*s.2.2.2.2.toNat) (fun s=>(7-s.2.2.2.2).toNat) (s0:=(x.1.kind,x.1.n,x.1.text,x.1.args,0)) ⟨by simp,by simp,by simp only;omega⟩ ?_
  rintro ⟨a,b,t,l,j⟩ ⟨g1,g2,g3⟩
  simp only at g1 g2 g3
  simp only [Y3,Yr,Q3,Option.bind_some]
  refine .ite (fun e=> ?_) fun e=>.ret ⟨by simp only;omega,hv.2⟩
  have e:j<7:=by simpa using e
  have hw:IntKind.i64.wrap (j+1)=j+1:=w64 (by omega) (by omega)
  rw [hw]
  refine Jq.next (s:=(_,_,_,_,j+1)) ⟨⟨by simp only;omega,by simp only;omega, ?_⟩,by simp only;omega⟩
  simp only [exb,Yl,Yo,X5]
  omega
end Go.Proofs.Ytneeinggggadpaa
namespace Go.Proofs.Ytneeinggggadpaa
open Go.RowKit Am
def Ev2 (p:Nat→Nat→Prop):Prop:=∃B,∀k n,B≤k→B≤n→p k n
theorem Ev2.of {p:Nat→Nat→Prop} (h:∀k n,p k (n+1)):Ev2 p:=⟨1,fun k n _ hn=>by cases n with | zero=>omega| succ n=>exact h k n⟩
structure Ja (T:List Ze) (E:Int):Prop where
 nm:∀t∈T,t.kind=1→∃c r,t.text.data.toList=c::r∧ZaB c=true
 sy:∀t∈T,t.kind=4→∃c r,t.text.data.toList=c::r∧ZaB c=false
 at_:∀t∈T,0≤t.at_
 tx:∀t∈T,t.text.size≤120
 en:0≤E
 len:T.length≤60
def ZeR (T:List Ze) (E:Int) (b:Nat):Int:=match T[b]? with
 | some t=>t.at_
 | none=>E
theorem Zct {T:List Ze} {E:Int} (ok:Ja T E) (b:Nat):0≤ZeR T E b:=by
 unfold ZeR
 split
 ·rename_i t h;exact ok.at_ t (List.mem_of_getElem? h)
 ·exact ok.en
def Rl (T:List Ze) (E:Int) (x:Zb) (p:Zc):Option Nat→Prop
 | some j=>j≤T.length∧x=⟨T,j,E, -1⟩∧p=⟨T,j, -1⟩
 | none=>∃b:Nat,b≤T.length∧x.toks=T∧x.end_=E∧p.list=T∧p.bad=b∧x.bad=ZeR T E b
def adS (x:Zb):Zb:=⟨x.toks,IntKind.i64.wrap (x.i+1),x.end_,x.bad⟩
def adI (p:Zc):Zc:=⟨p.list,IntKind.i64.wrap (p.at_+1),p.bad⟩
def Vj (t:Ze) (s:ByteArray):Bool:=decide (t.kind=4)&&decide (t.text=s)
def ZaC (t:Ze) (s:ByteArray):Bool:=decide (t.kind=1)&&decide (t.text=s)
theorem VT (t:Ze) (s:ByteArray):Qx t s=some (Vj t s):=by unfold Qx Vj;by_cases h:t.kind=4<;>simp [h]
theorem ZcB (t:Ze) (s:ByteArray):Vm t s=some (Vj t s):=by unfold Vm Vj;by_cases h:t.kind=4<;>simp [h]
theorem Ze5 (t:Ze) (s:ByteArray):XJ t s=some (ZaC t s):=by unfold XJ ZaC;by_cases h:t.kind=1<;>simp [h]
theorem Zan (t:Ze) (s:ByteArray):Ya t s=some (ZaC t s):=by unfold Ya ZaC;by_cases h:t.kind=1<;>simp [h]
def zT:Ze:=⟨0,0,0,⟨#[]⟩⟩
theorem KX (s:ByteArray):Vj zT s=false:=by simp [Vj,zT]
theorem Zdb (s:ByteArray):ZaC zT s=false:=by simp [ZaC,zT]
def VD (T:List Ze) (j:Nat) (s:ByteArray):Bool:=match T[j]? with
 | some t=>Vj t s||ZaC t s
 | none=>false
section
variable {T:List Ze} {E:Int}
theorem UT (ok:Ja T E) {j:Nat} (hj:j≤T.length) (s:ByteArray):Zi ⟨T,j,E, -1⟩ s=some (VD T j s,⟨T,j,E, -1⟩):=by
 unfold Zi VD
 by_cases h:j<T.length
 ·simp only [QA h,if_true,XU h,Option.bind_some,VT,Ze5,List.getElem?_eq_getElem h]
  cases Vj T[j] s<;>simp
 ·simp [show ¬((j:Int)<(T.length:Int)) by omega,List.getElem?_eq_none (show T.length≤j by omega)]
theorem Kt {x:Zb} (h:0≤x.bad) (s:ByteArray):Zi x s=some (false,x):=by
 unfold Zi
 simp [show ¬x.bad<0 by omega]
theorem W9 {j:Nat} (hj:j≤T.length):Zt ⟨T,j, -1⟩=some ((T[j]?).getD zT,⟨T,j, -1⟩):=by
 unfold Zt
 by_cases h:j<T.length
 ·simp only [QA h,if_true,XU h,Option.bind_some,List.getElem?_eq_getElem h]
  simp
 ·simp [show ¬((j:Int)<(T.length:Int)) by omega,List.getElem?_eq_none (show T.length≤j by omega),zT]
theorem V9 {p:Zc} (h:0≤p.bad):Zt p=some (zT,p):=by
 unfold Zt
 simp [show ¬p.bad<0 by omega,zT]
theorem XD {p:Zc} {t:Ze} (h:Zt p=some (t,p)) (s:ByteArray):Zd p s=some (Vj t s,if Vj t s=true then adI p else p):=by
 unfold Zd
 rw [h];simp only [Option.bind_some,ZcB]
 cases Vj t s<;>rfl
theorem Rl.bad {x:Zb} {p:Zc} (ok:Ja T E) (h:Rl T E x p none):0≤x.bad∧0≤p.bad:=by
 obtain ⟨b,_,_,_,_,h1,h2⟩:=h
 exact ⟨by rw [h2];exact Zct ok b,by rw [h1];omega⟩
theorem ZiG (ok:Ja T E) {j:Nat} (h:j<T.length):Rl T E (adS ⟨T,j,E, -1⟩) (adI ⟨T,j, -1⟩) (some (j+1)):=by
 have:=ok.len
 refine ⟨by omega, ?_, ?_⟩
 ·simp only [adS,wS j (by omega)]
 ·simp only [adI,wS j (by omega)]
def ZeV (s:ByteArray):Prop:=∃c r,s.data.toList=c::r∧ZaB c=false
def KwS (s:ByteArray):Prop:=∃c r,s.data.toList=c::r∧ZaB c=true
theorem Zic (ok:Ja T E) {t:Ze} (ht:t∈T) {s:ByteArray} (hs:ZeV s):ZaC t s=false:=by
 unfold ZaC
 by_cases h1:t.kind=1
 ·obtain ⟨c,r,e1,e2⟩:=ok.nm t ht h1
  obtain ⟨c',r',e3,e4⟩:=hs
  have:t.text≠s:=fun e=>by rw [e,e3] at e1;cases e1;rw [e2] at e4;cases e4
  simp [this]
 ·simp [h1]
theorem ZhQ (ok:Ja T E) {t:Ze} (ht:t∈T) {s:ByteArray} (hs:KwS s):Vj t s=false:=by
 unfold Vj
 by_cases h1:t.kind=4
 ·obtain ⟨c,r,e1,e2⟩:=ok.sy t ht h1
  obtain ⟨c',r',e3,e4⟩:=hs
  have:t.text≠s:=fun e=>by rw [e,e3] at e1;cases e1;rw [e2] at e4;cases e4
  simp [this]
 ·simp [h1]
theorem JB {j:Nat} {t:Ze} (h:T[j]? =some t) (s:ByteArray):VD T j s=(Vj t s||ZaC t s):=by unfold VD;rw [h]
theorem Ux {j:Nat} (h:T[j]? =none) (s:ByteArray):VD T j s=false:=by unfold VD;rw [h]
theorem Wr (ok:Ja T E) {x:Zb} {p:Zc} {o:Option Nat} (h:Rl T E x p o) {s:ByteArray} (hs:ZeV s):
  ∃b:Bool,Zi x s=some (b,x)∧Zd p s=some (b,if b=true then adI p else p)∧(b=true→∃j,o=some j∧j<T.length∧Rl T E (adS x) (adI p) (some (j+1))):=by
 cases o with
 | none=>
  have hb:=h.bad ok
  refine ⟨false,Kt hb.1 s, ?_,by simp⟩
  rw [XD (V9 hb.2),KX]
 | some j=>
  obtain ⟨hj,rfl,rfl⟩:=h
  refine ⟨VD T j s,UT ok hj s, ?_, ?_⟩
  ·rw [XD (W9 hj)]
   cases e:T[j]? with
   | none=>simp [Ux e,KX]
   | some t=>simp [JB e,Zic ok (List.mem_of_getElem? e) hs]
  ·intro hb
   cases e:T[j]? with
   | none=>rw [Ux e] at hb;cases hb
   | some t=>have hl:=(List.getElem?_eq_some_iff.1 e).1;exact ⟨j,rfl,hl,ZiG ok hl⟩
theorem ZbF (ok:Ja T E) {x:Zb} {p:Zc} {o:Option Nat} (h:Rl T E x p o) {s:ByteArray} (hs:KwS s):
  ∃(b:Bool) (t:Ze),Zi x s=some (b,x)∧Zt p=some (t,p)∧Ya t s=some b∧(b=true→∃j,o=some j∧j<T.length∧Rl T E (adS x) (adI p) (some (j+1))):=by
 cases o with
 | none=>
  have hb:=h.bad ok
  exact ⟨false,zT,Kt hb.1 s,V9 hb.2,by rw [Zan,Zdb],by simp⟩
 | some j=>
  obtain ⟨hj,rfl,rfl⟩:=h
  refine ⟨VD T j s,_,UT ok hj s,W9 hj, ?_, ?_⟩
  ·rw [Zan]
   cases e:T[j]? with
   | none=>simp [Ux e,Zdb]
   | some t=>simp [JB e,ZhQ ok (List.mem_of_getElem? e) hs]
  ·intro hb
   cases e:T[j]? with
   | none=>rw [Ux e] at hb;cases hb
   | some t=>have hl:=(List.getElem?_eq_some_iff.1 e).1;exact ⟨j,rfl,hl,ZiG ok hl⟩
def zE:Za:=⟨0,0,⟨#[]⟩,[]⟩
theorem Zfv (ok:Ja T E) {x:Zb} {p:Zc} {o:Option Nat} (h:Rl T E x p o):∃x' p',Z6 x=some (zE,x')∧Yh p=some (zE,p')∧Rl T E x' p' none:=by
 cases o with
 | none=>
  have hb:=h.bad ok
  obtain ⟨b,h0,h1,h2,h3,h4,h5⟩:=h
  refine ⟨x,p, ?_, ?_,⟨b,h0,h1,h2,h3,h4,h5⟩⟩
  ·unfold Z6;simp [show ¬x.bad<0 by omega,zE]
  ·unfold Yh;simp [show ¬p.bad<0 by omega,zE]
 | some j=>
  obtain ⟨hj,rfl,rfl⟩:=h
  refine ⟨⟨T,j,E,ZeR T E j⟩,⟨T,j,j⟩, ?_, ?_,⟨j,hj,rfl,rfl,rfl,rfl,rfl⟩⟩
  ·unfold Z6 ZeR
   by_cases hl:j<T.length
   ·simp only [QA hl,if_true,XU hl,Option.bind_some,List.getElem?_eq_getElem hl];simp [zE]
   ·simp [show ¬((j:Int)<(T.length:Int)) by omega,List.getElem?_eq_none (show T.length≤j by omega),zE]
  ·unfold Yh;simp [zE]
theorem ZgC (ok:Ja T E) {j:Nat} (hj:j≤T.length) (s:ByteArray):(Vj ((T[j]?).getD zT) s||ZaC ((T[j]?).getD zT) s)=VD T j s:=by
 cases e:T[j]? with
 | none=>simp [Ux e,KX,Zdb]
 | some t=>simp [JB e]
theorem VG {p:Zc} {t:Ze} (h:Zt p=some (t,p)) (s:ByteArray):Zj p s=if (ZaC t s||Vj t s)=true then some (adI p) else (Yh p).bind fun y=>some y.2:=by
 unfold Zj
 rw [h];simp only [Option.bind_some,Zan,h,ZcB]
 cases ZaC t s<;>cases Vj t s<;>simp [adI]
theorem KW (ok:Ja T E) {x:Zb} {p:Zc} {o:Option Nat} (h:Rl T E x p o) (s:ByteArray):
  ∃x' p' o',Zo x s=some x'∧Zj p s=some p'∧Rl T E x' p' o'∧∀j',o'=some j'→∃j,o=some j∧j'=j+1:=by
 obtain ⟨xf,pf,f1,f2,f3⟩:=Zfv ok h
 cases o with
 | none=>
  have hb:=h.bad ok
  refine ⟨xf,pf,none, ?_, ?_,f3,by simp⟩
  ·unfold Zo;rw [Kt hb.1];simp [f1]
  ·rw [VG (V9 hb.2),KX,Zdb,f2];rfl
 | some j=>
  obtain ⟨hj,rfl,rfl⟩:=h
  have e1:(ZaC ((T[j]?).getD zT) s||Vj ((T[j]?).getD zT) s)=VD T j s:=by rw [Bool.or_comm];exact ZgC ok hj s
  cases hb:VD T j s with
  | false=>
   refine ⟨xf,pf,none, ?_, ?_,f3,by simp⟩
   ·unfold Zo;rw [UT ok hj,hb];simp [f1]
   ·rw [VG (W9 hj),e1,hb,f2];rfl
  | true=>
   have hl:j<T.length:=by
    cases e:T[j]? with
    | none=>rw [Ux e] at hb;cases hb
    | some t=>exact (List.getElem?_eq_some_iff.1 e).1
   refine ⟨adS ⟨T,j,E, -1⟩,adI ⟨T,j, -1⟩,some (j+1), ?_, ?_,ZiG ok hl,fun j' h=>⟨j,rfl,by cases h;rfl⟩⟩
   ·unfold Zo;rw [UT ok hj,hb];rfl
   ·rw [VG (W9 hj),e1,hb];rfl
theorem names (ok:Ja T E) {x:Zb} {p:Zc} {o:Option Nat} (h:Rl T E x p o):
  ∃ns ni x' p' o',Rl T E x' p' o'∧(∀j',o'=some j'→ns=ni∧ns.size≤120∧∃j,o=some j∧j'=j+1)∧∀k,200≤k→Qb k x=some (ns,x')∧Yg k p=some (ni,p'):=by
 obtain ⟨xf,pf,f1,f2,f3⟩:=Zfv ok h
 cases o with
 | none=>
  have hb:=h.bad ok
  refine ⟨⟨#[]⟩,⟨#[]⟩,xf,pf,none,f3,by simp,fun k hk=>⟨?_, ?_⟩⟩
  ·unfold Qb;simp [show 0≤x.bad from hb.1,f1]
  ·unfold Yg;rw [V9 hb.2];simp [zT,f2]
 | some j=>
  obtain ⟨hj,rfl,rfl⟩:=h
  cases e:T[j]? with
  | none=>
   have hl:T.length≤j:=List.getElem?_eq_none_iff.1 e
   refine ⟨⟨#[]⟩,⟨#[]⟩,xf,pf,none,f3,by simp,fun k hk=>⟨?_, ?_⟩⟩
   ·unfold Qb;simp [show ((T.length:Int)≤(j:Int)) by omega,f1]
   ·unfold Yg;rw [W9 hj,e];simp [zT,f2]
  | some t=>
   obtain ⟨hl,rfl⟩:=List.getElem?_eq_some_iff.1 e
   have hm:=List.getElem_mem hl
   have ht:=ok.tx _ hm
   have hlen:=ok.len
   by_cases hn:T[j].kind=1∧Va T[j].text=true
   ·refine ⟨T[j].text,T[j].text,adS ⟨T,j,E, -1⟩,adI ⟨T,j, -1⟩,some (j+1),ZiG ok hl,fun j' h=>⟨rfl,ht,j,rfl,by cases h;rfl⟩,fun k hk=>⟨?_, ?_⟩⟩
    ·obtain ⟨v1,v2⟩:=WS T[j].text (by omega) (show T[j].text.size<k by omega) (by omega)
     unfold Qb
     have e2:IntKind.i64.wrap (IntKind.i64.wrap ((j:Int)+1)-1)=(j:Int):=by rw [wS j (by omega),w64 (by omega) (by omega)];omega
     simp only [show ¬((0:Int)≤ -1) by omega,decide_false,Bool.false_eq_true,if_false,show ¬((T.length:Int)≤(j:Int)) by omega,XU hl,Option.bind_some,hn.1,decide_true,Bool.not_true,v1,hn.2,e2]
     rfl
    ·obtain ⟨v1,v2⟩:=WS T[j].text (by omega) (show T[j].text.size<k by omega) (by omega)
     unfold Yg;rw [W9 hj,e]
     simp only [Option.bind_some,Option.getD_some,hn.1,decide_true,Bool.not_true,Bool.false_eq_true,if_false,v2,hn.2]
     rfl
   ·refine ⟨⟨#[]⟩,⟨#[]⟩,xf,pf,none,f3,by simp,fun k hk=> ?_⟩
    obtain ⟨v1,v2⟩:=WS T[j].text (by omega) (show T[j].text.size<k by omega) (by omega)
    constructor
    ·unfold Qb
     by_cases h1:T[j].kind=1
     ·have h2:Va T[j].text=false:=by simpa [h1] using hn
      simp [show ¬((T.length:Int)≤(j:Int)) by omega,XU hl,h1,v1,h2,f1]
     ·simp [show ¬((T.length:Int)≤(j:Int)) by omega,XU hl,h1,f1]
    ·unfold Yg;rw [W9 hj,e]
     by_cases h1:T[j].kind=1
     ·have h2:Va T[j].text=false:=by simpa [h1] using hn
      simp [h1,v2,h2,f2]
     ·simp [h1,f2]
end
end Go.Proofs.Ytneeinggggadpaa
namespace Go.Proofs.Ytneeinggggadpaa
open Go.RowKit Am
def star:ByteArray:=⟨#[42]⟩
def plus:ByteArray:=⟨#[43]⟩
def minus:ByteArray:=⟨#[45]⟩
def Ve:ByteArray:=⟨#[44]⟩
def opE (n:Int) (a b:Za):Za:=⟨6,n,⟨#[]⟩,[a,b]⟩
def sPL (r:Zb→Option (Za×Zb)) (n:Nat) (x:Zb) (e:Za):Option (Za×Zb):=
 (ZX r n x.toks x.i x.end_ x.bad e.kind e.n e.text e.args).map fun y=>(⟨y.1,y.2.1,y.2.2.1,y.2.2.2.1⟩,⟨y.2.2.2.2.1,y.2.2.2.2.2.1,y.2.2.2.2.2.2.1,y.2.2.2.2.2.2.2⟩)
def iPL (r:Zc→Option (Za×Zc)) (n:Nat) (x:Zc) (e:Za):Option (Za×Zc):=
 (YC r n x.list x.at_ x.bad e.kind e.n e.text e.args).map fun y=>(⟨y.1,y.2.1,y.2.2.1,y.2.2.2.1⟩,⟨y.2.2.2.2.1,y.2.2.2.2.2.1,y.2.2.2.2.2.2⟩)
def sSL (r:Zb→Option (Za×Zb)) (n:Nat) (x:Zb) (e:Za):Option (Za×Zb):=
 (Y6 r n x.toks x.i x.end_ x.bad e.kind e.n e.text e.args).map fun y=>(⟨y.1,y.2.1,y.2.2.1,y.2.2.2.1⟩,⟨y.2.2.2.2.1,y.2.2.2.2.2.1,y.2.2.2.2.2.2.1,y.2.2.2.2.2.2.2⟩)
def iSL (r:Zc→Option (Za×Zc)) (n:Nat) (x:Zc) (e:Za):Option (Za×Zc):=
 (Qo r n x.list x.at_ x.bad e.kind e.n e.text e.args).map fun y=>(⟨y.1,y.2.1,y.2.2.1,y.2.2.2.1⟩,⟨y.2.2.2.2.1,y.2.2.2.2.2.1,y.2.2.2.2.2.2⟩)
def sAL (r:Zb→Option (Za×Zb)) (n:Nat) (x:Zb) (out:List Za):Option (List Za×Zb):=
 (YK r n x.toks x.i x.end_ x.bad out).map fun y=>(y.2.2.2.2,⟨y.1,y.2.1,y.2.2.1,y.2.2.2.1⟩)
def iAL (r:Zc→Option (Za×Zc)) (c:ByteArray) (n:Nat) (x:Zc) (out:List Za):Option (List Za×Zc):=
 (YZ r c n x.list x.at_ x.bad out).map fun y=>(y.1,⟨y.2.1,y.2.2.1,y.2.2.2⟩)
theorem Zac (r:Zb→Option (Za×Zb)) (n:Nat) (x:Zb) (e:Za):sPL r (n+1) x e=(Zi x star).bind fun y=>if y.1=true then (r (adS y.2)).bind fun z=>sPL r n z.2 (opE 3 e z.1) else some (e,y.2):=by
 obtain ⟨e1,e2,e3,e4⟩:=e
 unfold sPL
 rw [ZX]
 show Option.map _ ((Zi x star).bind _)=_
 rcases Zi x star with _| ⟨b,y⟩
 ·simp
 ·cases b
  ·simp
  ·simp only [Option.bind_some,if_true]
   show Option.map _ ((r (adS y)).bind _)=_
   rcases r (adS y) with _| ⟨a,z⟩<;>simp [Q3,opE]
theorem Jl (r:Zc→Option (Za×Zc)) (n:Nat) (x:Zc) (e:Za):iPL r (n+1) x e=(Zd x star).bind fun y=>if y.1=true then (r y.2).bind fun z=>iPL r n z.2 (opE 3 e z.1) else some (e,y.2):=by
 obtain ⟨e1,e2,e3,e4⟩:=e
 unfold iPL
 rw [YC]
 show Option.map _ ((Zd x star).bind _)=_
 rcases Zd x star with _| ⟨b,y⟩
 ·simp
 ·cases b
  ·simp
  ·simp only [Option.bind_some,if_true]
   rcases r y with _| ⟨a,z⟩<;>simp [opE]
theorem Zco (r:Zb→Option (Za×Zb)) (n:Nat) (x:Zb) (e:Za):sSL r (n+1) x e=(Zi x plus).bind fun y=>(if y.1=true then some (true,y.2) else Zi y.2 minus).bind fun u=>if u.1=true then (Zi u.2 minus).bind fun v=>(r (adS v.2)).bind fun w=>sSL r n w.2 (opE (if v.1=true then 2 else 1) e w.1) else some (e,u.2):=by
 obtain ⟨e1,e2,e3,e4⟩:=e
 unfold sSL
 rw [Y6]
 show Option.map _ (((Zi x plus).bind _).bind _)=_
 rcases Zi x plus with _| ⟨b,y⟩
 ·simp
 ·cases b
  ·simp only [Option.bind_some,Bool.false_eq_true,if_false]
   show Option.map _ (((Zi y minus).bind _).bind _)=_
   rcases Zi y minus with _| ⟨c,u⟩
   ·simp
   ·cases c
    ·simp
    ·simp only [Option.bind_some,if_true]
     show Option.map _ (((Zi u minus).bind _).bind _)=_
     rcases Zi u minus with _| ⟨d,v⟩
     ·simp
     ·cases d<;>simp only [Option.bind_some,Bool.false_eq_true,if_true,if_false]<;>show Option.map _ ((r (adS v)).bind _)=_<;>rcases r (adS v) with _| ⟨a,z⟩<;>simp [Q3,opE]
  ·simp only [Option.bind_some,if_true]
   show Option.map _ (((Zi y minus).bind _).bind _)=_
   rcases Zi y minus with _| ⟨d,v⟩
   ·simp
   ·cases d<;>simp only [Option.bind_some,Bool.false_eq_true,if_true,if_false]<;>show Option.map _ ((r (adS v)).bind _)=_<;>rcases r (adS v) with _| ⟨a,z⟩<;>simp [Q3,opE]
theorem Zao (r:Zc→Option (Za×Zc)) (n:Nat) (x:Zc) (e:Za):iSL r (n+1) x e=if x.bad<0 then (Zd x plus).bind fun y=>if y.1=true then (r y.2).bind fun w=>iSL r n w.2 (opE 1 e w.1) else (Zd y.2 minus).bind fun z=>if z.1=true then (r z.2).bind fun w=>iSL r n w.2 (opE 2 e w.1) else some (e,z.2) else some (e,x):=by
 obtain ⟨e1,e2,e3,e4⟩:=e
 unfold iSL
 rw [Qo]
 by_cases hb:x.bad<0
 ·simp only [hb,decide_true,if_true]
  show Option.map _ (((Zd x plus).bind _).bind _)=_
  rcases Zd x plus with _| ⟨b,y⟩
  ·simp
  ·cases b
   ·simp only [Option.bind_some,Bool.not_false,if_true,Bool.false_eq_true,if_false]
    show Option.map _ (((Zd y minus).bind _).bind _)=_
    rcases Zd y minus with _| ⟨c,z⟩
    ·simp
    ·cases c
     ·simp
     ·simp only [Option.bind_some,Bool.not_true,Bool.false_eq_true,if_true,if_false]
      show Option.map _ ((r z).bind _)=_
      rcases r z with _| ⟨a,w⟩<;>simp [opE]
   ·simp only [Option.bind_some,Bool.not_true,Bool.false_eq_true,if_true,if_false]
    show Option.map _ ((r y).bind _)=_
    rcases r y with _| ⟨a,w⟩<;>simp [opE]
 ·simp [hb]
theorem V4 (r:Zb→Option (Za×Zb)) (n:Nat) (x:Zb) (out:List Za):sAL r (n+1) x out=if x.bad<0 then (r x).bind fun y=>(Xm 56 out [y.1]).bind fun o=>(Zi y.2 Ve).bind fun z=>if z.1=true then sAL r n (adS z.2) o else some (o,z.2) else some (out,x):=by
 unfold sAL
 rw [YK]
 by_cases hb:x.bad<0
 ·simp only [hb,decide_true,if_true]
  show Option.map _ ((r x).bind _)=_
  rcases r x with _| ⟨a,y⟩
  ·simp
  ·simp only [Option.bind_some]
   rcases Xm 56 out [a] with _| o
   ·simp
   ·simp only [Option.bind_some]
    show Option.map _ ((Zi y Ve).bind _)=_
    rcases Zi y Ve with _| ⟨b,z⟩
    ·simp
    ·cases b<;>simp [adS]
 ·simp [hb]
theorem X4 (r:Zc→Option (Za×Zc)) (c:ByteArray) (n:Nat) (x:Zc) (out:List Za):iAL r c (n+1) x out=if x.bad<0 then (r x).bind fun y=>(Xm 56 out [y.1]).bind fun o=>(Zd y.2 c).bind fun z=>if z.1=true then some (o,z.2) else (Zj z.2 Ve).bind fun u=>iAL r c n u o else some (out,x):=by
 unfold iAL
 rw [YZ]
 by_cases hb:x.bad<0
 ·simp only [hb,decide_true,if_true]
  show Option.map _ ((r x).bind _)=_
  rcases r x with _| ⟨a,y⟩
  ·simp
  ·simp only [Option.bind_some]
   rcases Xm 56 out [a] with _| o
   ·simp
   ·simp only [Option.bind_some]
    rcases Zd y c with _| ⟨b,z⟩
    ·simp
    ·cases b
     ·simp only [Option.bind_some,Bool.false_eq_true,if_false]
      show Option.map _ ((Zj z Ve).bind _)=_
      rcases Zj z Ve with _| u<;>simp
     ·simp
 ·simp [hb]
theorem Zh0 (k:Nat) (x:Zb):Zr (k+1) x=(ZF k x).bind fun y=>sPL (ZF k) k y.2 y.1:=by
 rw [Zr]
 rcases ZF k x with _| ⟨a,y⟩
 ·simp
 ·simp only [Option.bind_some,sPL]
  cases ZX (ZF k) k y.toks y.i y.end_ y.bad a.kind a.n a.text a.args<;>simp
theorem Zig (k:Nat) (x:Zc):Zp (k+1) x=(Zu k x).bind fun y=>iPL (Zu k) k y.2 y.1:=by
 rw [Zp]
 rcases Zu k x with _| ⟨a,y⟩
 ·simp
 ·simp only [Option.bind_some,iPL]
  cases YC (Zu k) k y.list y.at_ y.bad a.kind a.n a.text a.args<;>simp
theorem ZhZ (k:Nat) (x:Zb):YX (k+1) x=(Zr k x).bind fun y=>sSL (Zr k) k y.2 y.1:=by
 rw [YX]
 rcases Zr k x with _| ⟨a,y⟩
 ·simp
 ·simp only [Option.bind_some,sSL]
  cases Y6 (Zr k) k y.toks y.i y.end_ y.bad a.kind a.n a.text a.args<;>simp
theorem Zif (k:Nat) (x:Zc):Z2 (k+1) x=(Zp k x).bind fun y=>iSL (Zp k) k y.2 y.1:=by
 rw [Z2]
 rcases Zp k x with _| ⟨a,y⟩
 ·simp
 ·simp only [Option.bind_some,iSL]
  cases Qo (Zp k) k y.list y.at_ y.bad a.kind a.n a.text a.args<;>simp
theorem ZfU (k:Nat) (x:Zb) (c:ByteArray):Qg (k+1) x c=(Zi x c).bind fun y=>if y.1=true then some ([],adS y.2) else (sAL (Zl k) k y.2 []).bind fun z=>(Zo z.2 c).bind fun u=>some (z.1,u):=by
 rw [Qg]
 rcases Zi x c with _| ⟨b,y⟩
 ·simp
 ·cases b
  ·simp only [Option.bind_some,Bool.false_eq_true,if_false,sAL]
   cases YK (Zl k) k y.toks y.i y.end_ y.bad []<;>simp
  ·simp [adS]
theorem Zf6 (k:Nat) (x:Zc) (c:ByteArray):YV (k+1) x c=(Zd x c).bind fun y=>if y.1=true then some ([],y.2) else iAL (Zg k) c k y.2 []:=by
 rw [YV]
 rcases Zd x c with _| ⟨b,y⟩
 ·simp
 ·cases b
  ·simp only [Option.bind_some,Bool.false_eq_true,if_false,iAL]
   cases YZ (Zg k) c k y.list y.at_ y.bad []<;>simp
  ·simp
def gE (o o':Option Nat) (es ei:Za):Prop:=∀j',o'=some j'→es=ei∧∃j,o=some j∧j<j'∧es.bk+1≤200*(j'-j)
def Ag (T:List Ze) (E:Int) (o:Option Nat) (sX:Nat→Option (Za×Zb)) (iX:Nat→Option (Za×Zc)):Prop:=
 ∃es ei x' p' o',Rl T E x' p' o'∧gE o o' es ei∧Ev fun k=>sX k=some (es,x')∧iX k=some (ei,p')
def AgN (T:List Ze) (E:Int) (m:Nat) (sX:Nat→Zb→Option (Za×Zb)) (iX:Nat→Zc→Option (Za×Zc)):Prop:=
 ∀x p o,Rl T E x p o→(∀j,o=some j→T.length-j≤m)→Ag T E o (fun k=>sX k x) (fun k=>iX k p)
def go (j0:Nat) (o:Option Nat) (es ei:Za):Prop:=∀j,o=some j→es=ei∧j0<j∧es.bk+1≤200*(j-j0)
theorem Zea (n:Int) (a b:Za):(opE n a b).bk=2+(a.bk+b.bk):=by
 rw [Za.Zbg];simp [opE,bkS,QB];try rfl
theorem Zii {o1:Option Nat} {j0 j:Nat} {es ei ea eb:Za} (n:Int) (h:go j0 (some j) es ei) (h1:gE (some (j+1)) o1 ea eb):go j0 o1 (opE n es ea) (opE n ei eb):=by
 intro j1 e1
 obtain ⟨rfl,j',e2,h2,h3⟩:=h1 j1 e1
 cases e2
 obtain ⟨rfl,h4,h5⟩:=h j rfl
 rw [Zea]
 exact ⟨rfl,by omega,by omega⟩
section
variable {T:List Ze} {E:Int}
theorem Zci:ZeV star:=⟨42,[],rfl,by decide⟩
theorem Zcj:ZeV plus:=⟨43,[],rfl,by decide⟩
theorem ZaO:ZeV minus:=⟨45,[],rfl,by decide⟩
theorem ZaP:ZeV Ve:=⟨44,[],rfl,by decide⟩
theorem Zd5 (ok:Ja T E) (m:Nat) (hA:∀m',m'<m→AgN T E m' ZF Zu) (j0:Nat):∀(d:Nat) (x:Zb) (p:Zc) (o:Option Nat) (es ei:Za),Rl T E x p o→(∀j,o=some j→T.length-j≤d∧T.length-j≤m)→go j0 o es ei→
  ∃es' ei' x' p' o',Rl T E x' p' o'∧go j0 o' es' ei'∧Ev2 fun k n=>sPL (ZF k) n x es=some (es',x')∧iPL (Zu k) n p ei=some (ei',p'):=by
 intro d
 induction d with
 | zero=>
  intro x p o es ei h hd hg
  obtain ⟨b,h1,h2,h3⟩:=Wr ok h Zci
  have hb:b=false:=by
   cases b with
   | false=>rfl
   | true=>obtain ⟨j,e,hl,_⟩:=h3 rfl;have:=(hd j e).1;omega
  subst hb
  exact ⟨es,ei,x,p,o,h,hg,.of fun k n=>⟨by rw [Zac,h1];rfl,by rw [Jl,h2];rfl⟩⟩
 | succ d ih=>
  intro x p o es ei h hd hg
  obtain ⟨b,h1,h2,h3⟩:=Wr ok h Zci
  cases b with
  | false=>exact ⟨es,ei,x,p,o,h,hg,.of fun k n=>⟨by rw [Zac,h1];rfl,by rw [Jl,h2];rfl⟩⟩
  | true=>
   obtain ⟨j,rfl,hl,h4⟩:=h3 rfl
   have hdj:=hd j rfl
   obtain ⟨ea,eb,x1,p1,o1,r1,g1,B1,e1⟩:=hA (T.length-(j+1)) (by omega) _ _ _ h4 (fun j' e=>by cases e;omega)
   obtain ⟨es',ei',x',p',o',r2,g2,B2,e2⟩:=ih x1 p1 o1 (opE 3 es ea) (opE 3 ei eb) r1 (fun j' e=>by obtain ⟨_,j2,e3,h5,_⟩:=g1 j' e;cases e3;omega) (Zii (o1:=o1) 3 hg g1)
   refine ⟨es',ei',x',p',o',r2,g2,max B1 (B2+1),fun k n hk hn=> ?_⟩
   obtain ⟨n,rfl⟩:∃n',n=n'+1:=⟨n-1,by omega⟩
   have q1:=e1 k (by omega)
   have q2:=e2 k n (by omega) (by omega)
   exact ⟨by rw [Zac,h1];simp only [Option.bind_some,if_true,q1.1,q2.1],by rw [Jl,h2];simp only [Option.bind_some,if_true,q1.2,q2.2]⟩
theorem Ze3 (ok:Ja T E) (m:Nat) (hA:∀m',m'<m→AgN T E m' Zr Zp) (j0:Nat):∀(d:Nat) (x:Zb) (p:Zc) (o:Option Nat) (es ei:Za),Rl T E x p o→(∀j,o=some j→T.length-j≤d∧T.length-j≤m)→go j0 o es ei→
  ∃es' ei' x' p' o',Rl T E x' p' o'∧go j0 o' es' ei'∧Ev2 fun k n=>sSL (Zr k) n x es=some (es',x')∧iSL (Zp k) n p ei=some (ei',p'):=by
 have stop:∀(x:Zb) (p:Zc) (o:Option Nat) (es ei:Za),Rl T E x p o→go j0 o es ei→Zi x plus=some (false,x)→Zd p plus=some (false,p)→Zi x minus=some (false,x)→Zd p minus=some (false,p)→
   ∃es' ei' x' p' o',Rl T E x' p' o'∧go j0 o' es' ei'∧Ev2 fun k n=>sSL (Zr k) n x es=some (es',x')∧iSL (Zp k) n p ei=some (ei',p'):=by
  intro x p o es ei h hg h1 h2 h3 h4
  refine ⟨es,ei,x,p,o,h,hg,.of fun k n=>⟨by rw [Zco,h1];simp [h3], ?_⟩⟩
  rw [Zao,h2]
  split
  ·simp [h4]
  ·rfl
 have step:∀(d:Nat) (x:Zb) (p:Zc) (j:Nat) (es ei:Za) (c:Bool),j<T.length→T.length-j≤d+1→T.length-j≤m→p.bad<0→Rl T E (adS x) (adI p) (some (j+1))→go j0 (some j) es ei→
   (∀(x:Zb) (p:Zc) (o:Option Nat) (es ei:Za),Rl T E x p o→(∀j,o=some j→T.length-j≤d∧T.length-j≤m)→go j0 o es ei→
    ∃es' ei' x' p' o',Rl T E x' p' o'∧go j0 o' es' ei'∧Ev2 fun k n=>sSL (Zr k) n x es=some (es',x')∧iSL (Zp k) n p ei=some (ei',p'))→
   Zi x plus=some (!c,x)→Zi x minus=some (c,x)→Zd p plus=some (!c,if (!c)=true then adI p else p)→Zd p minus=some (c,if c=true then adI p else p)→
   ∃es' ei' x' p' o',Rl T E x' p' o'∧go j0 o' es' ei'∧Ev2 fun k n=>sSL (Zr k) n x es=some (es',x')∧iSL (Zp k) n p ei=some (ei',p'):=by
  intro d x p j es ei c hl hd hm hb h4 hg ih a1 a2 a3 a4
  obtain ⟨ea,eb,x1,p1,o1,r1,g1,B1,e1⟩:=hA (T.length-(j+1)) (by omega) _ _ _ h4 (fun j' e=>by cases e;omega)
  obtain ⟨es',ei',x',p',o',r2,g2,B2,e2⟩:=ih x1 p1 o1 (opE (if c=true then 2 else 1) es ea) (opE (if c=true then 2 else 1) ei eb) r1 (fun j' e=>by obtain ⟨_,j2,e3,h5,_⟩:=g1 j' e;cases e3;omega) (Zii _ hg g1)
  refine ⟨es',ei',x',p',o',r2,g2,max B1 (B2+1),fun k n hk hn=> ?_⟩
  obtain ⟨n,rfl⟩:∃n',n=n'+1:=⟨n-1,by omega⟩
  have q1:=e1 k (by omega)
  have q2:=e2 k n (by omega) (by omega)
  constructor
  ·rw [Zco,a1]
   cases c
   ·simp only [Bool.not_false,Option.bind_some,if_true,a2,q1.1];exact q2.1
   ·simp only [Bool.not_true,Option.bind_some,Bool.false_eq_true,if_false,a2,if_true,q1.1];exact q2.1
  ·rw [Zao,if_pos hb,a3]
   cases c
   ·simp only [Bool.not_false,Option.bind_some,if_true,q1.2]
    exact q2.2
   ·simp only [Bool.not_true,Option.bind_some,Bool.false_eq_true,if_false,a4,if_true,q1.2]
    exact q2.2
 have no_both:∀{x:Zb} {j:Nat},x=⟨T,j,E, -1⟩→j<T.length→Zi x plus=some (true,x)→Zi x minus=some (false,x):=by
  rintro x j rfl hl h
  rw [UT ok (by omega)] at h ⊢
  have h1:VD T j plus=true:=by simpa using h
  have e:T[j]? =some T[j]:=List.getElem?_eq_getElem hl
  rw [JB e] at h1 ⊢
  have hp:T[j].text=plus:=by simp only [Vj,ZaC] at h1;simp at h1;rcases h1 with h1| h1<;>exact h1.2
  simp [Vj,ZaC,hp,plus,minus]
 intro d
 induction d with
 | zero=>
  intro x p o es ei h hd hg
  obtain ⟨b,h1,h2,h3⟩:=Wr ok h Zcj
  obtain ⟨c,i1,i2,i3⟩:=Wr ok h ZaO
  have hb:b=false:=by
   cases b with
   | false=>rfl
   | true=>obtain ⟨j,e,hl,_⟩:=h3 rfl;have:=(hd j e).1;omega
  have hc:c=false:=by
   cases c with
   | false=>rfl
   | true=>obtain ⟨j,e,hl,_⟩:=i3 rfl;have:=(hd j e).1;omega
  subst hb hc
  exact stop x p o es ei h hg h1 h2 i1 i2
 | succ d ih=>
  intro x p o es ei h hd hg
  obtain ⟨b,h1,h2,h3⟩:=Wr ok h Zcj
  obtain ⟨c,i1,i2,i3⟩:=Wr ok h ZaO
  cases b with
  | true=>
   obtain ⟨j,rfl,hl,h4⟩:=h3 rfl
   obtain ⟨hj,hx,hp⟩:=h
   have hc:c=false:=by
    have:=no_both hx hl h1
    rw [i1] at this;simpa using this
   subst hc
   exact step d x p j es ei false hl (hd j rfl).1 (hd j rfl).2 (by rw [hp];show (-1:Int)<0;decide) h4 hg ih h1 i1 h2 i2
  | false=>
   cases c with
   | false=>exact stop x p o es ei h hg h1 h2 i1 i2
   | true=>
    obtain ⟨j,rfl,hl,h4⟩:=i3 rfl
    obtain ⟨hj,hx,hp⟩:=h
    exact step d x p j es ei true hl (hd j rfl).1 (hd j rfl).2 (by rw [hp];show (-1:Int)<0;decide) h4 hg ih h1 i1 h2 i2
end
end Go.Proofs.Ytneeinggggadpaa
namespace Go.Proofs.Ytneeinggggadpaa
open Go.RowKit Am
def lw (l:List Za):Nat:=(l.map fun e=>e.bk+1).sum
theorem Zf2 (l:List Za) (e:Za):lw (l++[e])=lw l+(e.bk+1):=by simp [lw]
theorem ZjQ (l:List Za):bkS Za.bk l=lw l:=by
 unfold bkS lw QB
 induction l with
 | nil=>rfl
 | cons e l ih=>simp only [List.length_cons,List.map_cons,List.sum_cons] at ih ⊢;omega
theorem Zbb (k n:Int) (t:ByteArray) (l:List Za):(Za.mk k n t l).bk=t.size+lw l:=by
 rw [Za.Zbg,←ZjQ];try rfl
theorem ZeE (out:List Za) (e:Za) (h:out.length≤100):Xm 56 out [e]=some (out++[e]):=J9 (by simp;omega) (by omega)
section
variable {T:List Ze} {E:Int}
def goL (j0:Nat) (o:Option Nat) (ls li:List Za):Prop:=∀j,o=some j→ls=li∧j0≤j∧lw ls≤200*(j-j0)∧ls.length≤j
def Zk4 (j0:Nat) (o:Option Nat) (ls li:List Za):Prop:=∀j,o=some j→ls=li∧j0<j∧lw ls≤200*(j-j0-1)
theorem ZdS {x:Zb} {p:Zc} {o:Option Nat} (ok:Ja T E) (h:Rl T E x p o) {s:ByteArray} (hs:ZeV s):∃b,Zd p s=some (b,if b=true then adI p else p)∧Zi x s=some (b,x)∧
  (b=true→∃j,o=some j∧j<T.length∧Rl T E (adS x) (adI p) (some (j+1))∧∀s',ZeV s'→s'≠s→Zi x s'=some (false,x)):=by
 obtain ⟨b,h1,h2,h3⟩:=Wr ok h hs
 refine ⟨b,h2,h1,fun hb=> ?_⟩
 obtain ⟨j,e,hl,h4⟩:=h3 hb
 refine ⟨j,e,hl,h4,fun s' hs' hne=> ?_⟩
 subst e hb
 obtain ⟨hj,rfl,rfl⟩:=h
 have ej:T[j]? =some T[j]:=List.getElem?_eq_getElem hl
 rw [UT ok hj] at h1 ⊢
 have h5:VD T j s=true:=by simpa using h1
 rw [JB ej] at h5 ⊢
 have hp:T[j].text=s:=by simp only [Vj,ZaC] at h5;simp at h5;rcases h5 with h5| h5<;>exact h5.2
 simp [Vj,ZaC,hp,Ne.symm hne]
theorem Zei (ok:Ja T E) (m:Nat) (hA:∀m',m'≤m→AgN T E m' Zl Zg) (c:ByteArray) (hc:ZeV c) (hcc:c≠Ve) (j0:Nat):∀(d:Nat) (x:Zb) (p:Zc) (o:Option Nat) (ls li:List Za),Rl T E x p o→(∀j,o=some j→T.length-j≤d∧T.length-j≤m)→goL j0 o ls li→
  ∃ls' li' x' p' o',Rl T E x' p' o'∧Zk4 j0 o' ls' li'∧Ev2 fun k n=>((sAL (Zl k) n x ls).bind fun z=>(Zo z.2 c).bind fun u=>some (z.1,u))=some (ls',x')∧iAL (Zg k) c n p li=some (li',p'):=by
 intro d
 induction d with
 | zero=>
  intro x p o ls li h hd hg
  cases o with
  | none=>
   have hb:=h.bad ok
   obtain ⟨xf,pf,o',t1,t2,t3,t4⟩:=KW ok h c
   have ho:o'=none:=by cases o' with | none=>rfl| some j'=>obtain ⟨j,e,_⟩:=t4 j' rfl;cases e
   subst ho
   have hpf:Rl T E xf p none:=by
    obtain ⟨b,h0,h1,h2,h3,h4,h5⟩:=h
    obtain ⟨b',k0,k1,k2,k3,k4,k5⟩:=t3
    have:Zo x c=some x∨True:=.inr trivial
    unfold Zo at t1;rw [Kt hb.1] at t1
    simp only [Option.bind_some,Bool.not_false,if_true] at t1
    have e1:Z6 x=some (zE,x):=by unfold Z6;simp [show ¬x.bad<0 by omega,zE]
    rw [e1] at t1
    obtain rfl:x=xf:=by simpa using t1
    exact ⟨b,h0,h1,h2,h3,h4,h5⟩
   refine ⟨ls,li,xf,p,none,hpf,(by intro j e;cases e),.of fun k n=>⟨?_, ?_⟩⟩
   ·rw [V4,if_neg (by omega)];simp [t1]
   ·rw [X4,if_neg (by omega)]
  | some j=>
   obtain ⟨hj,hx,hp⟩:=id h
   have hjl:j=T.length:=by have:=(hd j rfl).1;omega
   obtain ⟨ea,eb,x1,p1,o1,r1,g1,B1,e1⟩:=hA _ (hd j rfl).2 x p (some j) h (fun j' e=>by cases e;exact Nat.le_refl _)
   have ho1:o1=none:=by
    cases o1 with
    | none=>rfl
    | some j1=>obtain ⟨_,j2,e2,h2,_⟩:=g1 j1 rfl;cases e2;have:=r1.1;omega
   subst ho1
   have hb:=r1.bad ok
   have hlen:=ok.len
   obtain ⟨hl1,hl2,hl3,hl4⟩:=hg j rfl
   subst hl1
   obtain ⟨xf,pf,o',t1,t2,t3,t4⟩:=KW ok r1 c
   have ho:o'=none:=by cases o' with | none=>rfl| some j'=>obtain ⟨j,e,_⟩:=t4 j' rfl;cases e
   subst ho
   obtain ⟨xg,pg,o'',u1,u2,u3,u4⟩:=KW ok r1 Ve
   have ho:o''=none:=by cases o'' with | none=>rfl| some j'=>obtain ⟨j,e,_⟩:=u4 j' rfl;cases e
   subst ho
   have hbg:=u3.bad ok
   have hxg:Z6 x1=some (zE,x1):=by unfold Z6;simp [show ¬x1.bad<0 by omega,zE]
   have hx1:x1=xf:=by unfold Zo at t1;rw [Kt hb.1] at t1;simpa [hxg] using t1
   have hpg:Yh p1=some (zE,p1):=by unfold Yh;simp [show ¬p1.bad<0 by omega,zE]
   have hp1:p1=pg:=by rw [VG (V9 hb.2),KX,Zdb,hpg] at u2;simpa using u2
   subst hx1 hp1
   refine ⟨ls++[ea],ls++[eb],x1,p1,none,r1,(by intro j e;cases e),B1+2,fun k n hk hn=> ?_⟩
   obtain ⟨n,rfl⟩:∃n',n=n'+2:=⟨n-2,by omega⟩
   have q1:=e1 k (by omega);dsimp only at q1
   constructor
   ·rw [V4,if_pos (by rw [hx];show (-1:Int)<0;decide),q1.1]
    simp only [Option.bind_some]
    rw [ZeE _ _ (by omega)]
    simp only [Option.bind_some,Kt hb.1,Bool.false_eq_true,if_false,t1]
   ·rw [X4,if_pos (by rw [hp];show (-1:Int)<0;decide),q1.2]
    simp only [Option.bind_some]
    rw [ZeE _ _ (by omega)]
    simp only [Option.bind_some,XD (V9 hb.2),KX,Bool.false_eq_true,if_false,u2]
    rw [X4,if_neg (by omega)]
 | succ d ih=>
  intro x p o ls li h hd hg
  cases o with
  | none=>exact ih x p none ls li h (by intro j e;cases e) (by intro j e;cases e)
  | some j=>
   obtain ⟨hj,hx,hp⟩:=id h
   obtain ⟨ea,eb,x1,p1,o1,r1,g1,B1,e1⟩:=hA _ (hd j rfl).2 x p (some j) h (fun j' e=>by cases e;exact Nat.le_refl _)
   have hlen:=ok.len
   obtain ⟨hl1,hl2,hl3,hl4⟩:=hg j rfl
   subst hl1
   have sx:x.bad<0:=by rw [hx];show (-1:Int)<0;decide
   have sp:p.bad<0:=by rw [hp];show (-1:Int)<0;decide
   obtain ⟨bc,c1,c2,c3⟩:=ZdS ok r1 hc
   obtain ⟨bm,m1,m2,m3⟩:=ZdS ok r1 ZaP
   cases bc with
   | true=>
    obtain ⟨j1,rfl,hl,r2,c4⟩:=c3 rfl
    obtain ⟨rfl,j2,ej,g2,g3⟩:=g1 j1 rfl
    cases ej
    have hm:=c4 Ve ZaP (Ne.symm hcc)
    have t1:Zo x1 c=some (adS x1):=by unfold Zo;rw [c2];rfl
    refine ⟨ls++[ea],ls++[ea],adS x1,adI p1,some (j1+1),r2,fun j' e=> ?_,B1+2,fun k n hk hn=> ?_⟩
    ·cases e
     refine ⟨rfl,by omega, ?_⟩
     rw [Zf2];omega
    ·obtain ⟨n,rfl⟩:∃n',n=n'+2:=⟨n-2,by omega⟩
     have q1:=e1 k (by omega);dsimp only at q1
     constructor
     ·rw [V4,if_pos sx,q1.1]
      simp only [Option.bind_some]
      rw [ZeE _ _ (by omega)]
      simp only [Option.bind_some,hm,Bool.false_eq_true,if_false,t1]
     ·rw [X4,if_pos sp,q1.2]
      simp only [Option.bind_some]
      rw [ZeE _ _ (by omega)]
      simp only [Option.bind_some,c1,if_true]
   | false=>
    cases bm with
    | true=>
     obtain ⟨j1,rfl,hl,r2,m4⟩:=m3 rfl
     obtain ⟨rfl,j2,ej,g2,g3⟩:=g1 j1 rfl
     cases ej
     have n1:Zj p1 Ve=some (adI p1):=by
      obtain ⟨hj1,hx1,hp1⟩:=r1
      subst hp1 hx1
      rw [VG (W9 hj1)]
      have:=ZgC ok hj1 Ve
      rw [UT ok hj1] at m2
      have h5:VD T j1 Ve=true:=by simpa using m2
      rw [Bool.or_comm,this,h5];rfl
     obtain ⟨ls',li',x',p',o',r3,g4,B2,e2⟩:=ih (adS x1) (adI p1) (some (j1+1)) (ls++[ea]) (ls++[ea]) r2 (fun j' e=>by cases e;have:=hd j rfl;omega) (fun j' e=>by
      cases e
      refine ⟨rfl,by omega, ?_,by simp;omega⟩
      rw [Zf2];omega)
     refine ⟨ls',li',x',p',o',r3,g4,max B1 B2+2,fun k n hk hn=> ?_⟩
     obtain ⟨n,rfl⟩:∃n',n=n'+1:=⟨n-1,by omega⟩
     have q1:=e1 k (by omega);dsimp only at q1
     have q2:=e2 k n (by omega) (by omega)
     constructor
     ·rw [V4,if_pos sx,q1.1]
      simp only [Option.bind_some]
      rw [ZeE _ _ (by omega)]
      simp only [Option.bind_some,m2,if_true]
      exact q2.1
     ·rw [X4,if_pos sp,q1.2]
      simp only [Option.bind_some]
      rw [ZeE _ _ (by omega)]
      simp only [Option.bind_some,c1,Bool.false_eq_true,if_false,n1]
      exact q2.2
    | false=>
     obtain ⟨xf,pf,f1,f2,f3⟩:=Zfv ok r1
     have t1:Zo x1 c=some xf:=by unfold Zo;rw [c2];simp [f1]
     have n1:Zj p1 Ve=some pf:=by
      cases o1 with
      | none=>rw [VG (V9 (r1.bad ok).2),KX,Zdb,f2];rfl
      | some j1=>
       obtain ⟨hj1,hx1,hp1⟩:=r1
       subst hp1 hx1
       rw [VG (W9 hj1)]
       have:=ZgC ok hj1 Ve
       rw [UT ok hj1] at m2
       have h5:VD T j1 Ve=false:=by simpa using m2
       rw [Bool.or_comm,this,h5,f2];rfl
     have hb:=f3.bad ok
     refine ⟨ls++[ea],ls++[eb],xf,pf,none,f3,(by intro j e;cases e),B1+2,fun k n hk hn=> ?_⟩
     obtain ⟨n,rfl⟩:∃n',n=n'+2:=⟨n-2,by omega⟩
     have q1:=e1 k (by omega);dsimp only at q1
     constructor
     ·rw [V4,if_pos sx,q1.1]
      simp only [Option.bind_some]
      rw [ZeE _ _ (by omega)]
      simp only [Option.bind_some,m2,Bool.false_eq_true,if_false,t1]
     ·rw [X4,if_pos sp,q1.2]
      simp only [Option.bind_some]
      rw [ZeE _ _ (by omega)]
      simp only [Option.bind_some,c1,Bool.false_eq_true,if_false,n1]
      rw [X4,if_neg (by omega)]
theorem lists (ok:Ja T E) (m:Nat) (hA:∀m',m'≤m→AgN T E m' Zl Zg) (c:ByteArray) (hc:ZeV c) (hcc:c≠Ve) (x:Zb) (p:Zc) (o:Option Nat) (h:Rl T E x p o) (hd:∀j,o=some j→T.length-j≤m):
  ∃ls li x' p' o',Rl T E x' p' o'∧(∀j',o'=some j'→ls=li∧∃j,o=some j∧j<j'∧lw ls≤200*(j'-j-1))∧Ev fun k=>Qg k x c=some (ls,x')∧YV k p c=some (li,p'):=by
 obtain ⟨bc,c1,c2,c3⟩:=ZdS ok h hc
 cases bc with
 | true=>
  obtain ⟨j,rfl,hl,r2,_⟩:=c3 rfl
  refine ⟨[],[],adS x,adI p,some (j+1),r2,fun j' e=>⟨rfl,j,rfl,by cases e;omega,by simp [lw]⟩,1,fun k hk=> ?_⟩
  obtain ⟨k,rfl⟩:∃n',k=n'+1:=⟨k-1,by omega⟩
  exact ⟨by rw [ZfU,c2];rfl,by rw [Zf6,c1];rfl⟩
 | false=>
  obtain ⟨j0,hj0⟩:∃j0,∀j,o=some j→j=j0:=by
   cases o with
   | none=>exact ⟨0,by simp⟩
   | some j=>exact ⟨j,by simp⟩
  obtain ⟨ls,li,x',p',o',r1,g1,B,e1⟩:=Zei ok m hA c hc hcc j0 m x p o [] [] h (fun j e=>⟨hd j e,hd j e⟩) (fun j e=>⟨rfl,by rw [hj0 j e];exact Nat.le_refl _,by simp [lw],by simp⟩)
  refine ⟨ls,li,x',p',o',r1,fun j' e=> ?_,B+1,fun k hk=> ?_⟩
  ·obtain ⟨h1,h2,h3⟩:=g1 j' e
   cases o with
   | some j=>have:=hj0 j rfl;subst this;exact ⟨h1,j,rfl,h2,h3⟩
   | none=>
    exfalso
    have q:=(e1 (B+1) (B+1) (by omega) (by omega)).2
    have hb:=h.bad ok
    rw [X4,if_neg (by omega)] at q
    have:p=p':=by simpa using congrArg (fun y=>y.map Prod.snd) q
    subst this
    rw [e] at r1
    have:=r1.2.2
    rw [this] at hb;exact absurd hb.2 (by show ¬(0:Int)≤ -1;decide)
  ·obtain ⟨k,rfl⟩:∃n',k=n'+1:=⟨k-1,by omega⟩
   have q:=e1 k k (by omega) (by omega)
   exact ⟨by rw [ZfU,c2];simp only [Option.bind_some,Bool.false_eq_true,if_false];exact q.1,by rw [Zf6,c1];simp only [Option.bind_some,Bool.false_eq_true,if_false];exact q.2⟩
end
end Go.Proofs.Ytneeinggggadpaa
