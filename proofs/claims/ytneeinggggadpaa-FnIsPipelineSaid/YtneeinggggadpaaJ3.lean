import Derived.Test.YtneeinggggadpaaPkC
set_option linter.unusedSimpArgs false
set_option linter.unusedVariables false
namespace Go.Proofs.Ytneeinggggadpaa
open Go.RowKit Am
@[go_sem] theorem ti2:ti Try.prog 2=some ⟨(.int .i64),1,8,[.int .i64 0]⟩:=by kernel_rfl
@[go_sem] theorem ti3:ti Try.prog 3=some ⟨(.int .i64),1,8,[.int .i64 0]⟩:=by kernel_rfl
@[go_sem] theorem ti4:ti Try.prog 4=some ⟨.bool,1,1,[.bool false]⟩:=by kernel_rfl
@[go_sem] theorem ti5:ti Try.prog 5=some ⟨(.int .u8),1,1,[.int .u8 0]⟩:=by kernel_rfl
@[go_sem] theorem ti6:ti Try.prog 6=some ⟨(.int .u8),1,1,[.int .u8 0]⟩:=by kernel_rfl
@[go_sem] theorem ti7:ti Try.prog 7=some ⟨(.struct [(0,2),(1,3),(2,4),(3,6)]),4,24,[.int .i64 0,.int .i64 0,.bool false,.int .u8 0]⟩:=by kernel_rfl
@[go_sem] theorem ZlL:Zdi Try.prog 7=some [(.int .i64),(.int .i64),.bool,(.int .u8)]:=by kernel_rfl
@[go_sem] theorem ti8:ti Try.prog 8=some ⟨(.struct [(0,2),(1,3),(2,4),(3,6)]),4,24,[.int .i64 0,.int .i64 0,.bool false,.int .u8 0]⟩:=by kernel_rfl
@[go_sem] theorem ZlK:Zdi Try.prog 8=some [(.int .i64),(.int .i64),.bool,(.int .u8)]:=by kernel_rfl
@[go_sem] theorem ti9:ti Try.prog 9=some ⟨.str,1,16,[.string ⟨#[]⟩]⟩:=by kernel_rfl
@[go_sem] theorem ZlJ:ti Try.prog 10=some ⟨.str,1,16,[.string ⟨#[]⟩]⟩:=by kernel_rfl
@[go_sem] theorem ZlI:ti Try.prog 11=some ⟨.str,1,16,[.string ⟨#[]⟩]⟩:=by kernel_rfl
@[go_sem] theorem ZlH:ti Try.prog 12=some ⟨(.int .u64),1,8,[.int .u64 0]⟩:=by kernel_rfl
@[go_sem] theorem ZlG:ti Try.prog 13=some ⟨(.struct [(0,9),(1,12)]),2,24,[.string ⟨#[]⟩,.int .u64 0]⟩:=by kernel_rfl
@[go_sem] theorem ZlF:ti Try.prog 14=some ⟨(.struct [(0,9),(1,12)]),2,24,[.string ⟨#[]⟩,.int .u64 0]⟩:=by kernel_rfl
@[go_sem] theorem ZlE:ti Try.prog 18=some ⟨(.struct [(0,17)]),1,8,[.pointer none]⟩:=by kernel_rfl
@[go_sem] theorem ZlD:ti Try.prog 19=some ⟨(.struct [(0,17)]),1,8,[.pointer none]⟩:=by kernel_rfl
@[go_sem] theorem ZlC:ti Try.prog 21=some ⟨(.int .i32),1,4,[.int .i32 0]⟩:=by kernel_rfl
@[go_sem] theorem ZlB:ti Try.prog 22=some ⟨(.slice 5),1,24,[.slice none 0 0]⟩:=by kernel_rfl
@[go_sem] theorem ZlA:ti Try.prog 24=some ⟨(.slice 26),1,24,[.slice none 0 0]⟩:=by kernel_rfl
@[go_sem] theorem Zlz:ti Try.prog 25=some ⟨(.struct [(0,3),(1,3),(2,9),(3,24)]),4,56,[.int .i64 0,.int .i64 0,.string ⟨#[]⟩,.slice none 0 0]⟩:=by kernel_rfl
@[go_sem] theorem Zk3:Zdi Try.prog 25=some [(.int .i64),(.int .i64),.str,(.slice 26)]:=by kernel_rfl
@[go_sem] theorem Zly:ti Try.prog 26=some ⟨(.struct [(0,3),(1,3),(2,9),(3,24)]),4,56,[.int .i64 0,.int .i64 0,.string ⟨#[]⟩,.slice none 0 0]⟩:=by kernel_rfl
@[go_sem] theorem Zk2:Zdi Try.prog 26=some [(.int .i64),(.int .i64),.str,(.slice 26)]:=by kernel_rfl
@[go_sem] theorem Zlx:ti Try.prog 29=some ⟨(.slice 9),1,24,[.slice none 0 0]⟩:=by kernel_rfl
@[go_sem] theorem Zlw:ti Try.prog 43=some ⟨(.struct [(0,22),(1,3),(2,3)]),3,40,[.slice none 0 0,.int .i64 0,.int .i64 0]⟩:=by kernel_rfl
@[go_sem] theorem Zk1:Zdi Try.prog 43=some [(.slice 5),(.int .i64),(.int .i64)]:=by kernel_rfl
@[go_sem] theorem Zlv:ti Try.prog 44=some ⟨(.struct [(0,22),(1,3),(2,3)]),3,40,[.slice none 0 0,.int .i64 0,.int .i64 0]⟩:=by kernel_rfl
@[go_sem] theorem Zk0:Zdi Try.prog 44=some [(.slice 5),(.int .i64),(.int .i64)]:=by kernel_rfl
@[go_sem] theorem Zlu:ti Try.prog 45=some ⟨(.slice 63),1,24,[.slice none 0 0]⟩:=by kernel_rfl
@[go_sem] theorem Zlt:ti Try.prog 49=some ⟨(.struct [(0,45),(1,3),(2,3),(3,3)]),4,48,[.slice none 0 0,.int .i64 0,.int .i64 0,.int .i64 0]⟩:=by kernel_rfl
@[go_sem] theorem ZkZ:Zdi Try.prog 49=some [(.slice 63),(.int .i64),(.int .i64),(.int .i64)]:=by kernel_rfl
@[go_sem] theorem Zls:ti Try.prog 50=some ⟨(.struct [(0,45),(1,3),(2,3),(3,3)]),4,48,[.slice none 0 0,.int .i64 0,.int .i64 0,.int .i64 0]⟩:=by kernel_rfl
@[go_sem] theorem ZkY:Zdi Try.prog 50=some [(.slice 63),(.int .i64),(.int .i64),(.int .i64)]:=by kernel_rfl
@[go_sem] theorem Zlr:ti Try.prog 57=some ⟨(.slice 3),1,24,[.slice none 0 0]⟩:=by kernel_rfl
@[go_sem] theorem Zlq:ti Try.prog 62=some ⟨(.struct [(0,3),(1,3),(2,3),(3,9)]),4,40,[.int .i64 0,.int .i64 0,.int .i64 0,.string ⟨#[]⟩]⟩:=by kernel_rfl
@[go_sem] theorem ZkX:Zdi Try.prog 62=some [(.int .i64),(.int .i64),(.int .i64),.str]:=by kernel_rfl
@[go_sem] theorem Zlp:ti Try.prog 63=some ⟨(.struct [(0,3),(1,3),(2,3),(3,9)]),4,40,[.int .i64 0,.int .i64 0,.int .i64 0,.string ⟨#[]⟩]⟩:=by kernel_rfl
@[go_sem] theorem ZkW:Zdi Try.prog 63=some [(.int .i64),(.int .i64),(.int .i64),.str]:=by kernel_rfl
@[go_sem] theorem Zlo:ti Try.prog 79=some ⟨(.int .u64),1,8,[.int .u64 0]⟩:=by kernel_rfl
@[go_sem] theorem Zln:ti Try.prog 86=some ⟨(.struct [(0,17),(1,17),(2,17),(3,9)]),4,40,[.pointer none,.pointer none,.pointer none,.string ⟨#[]⟩]⟩:=by kernel_rfl
@[go_sem] theorem Zlm:ti Try.prog 87=some ⟨(.struct [(0,17),(1,17),(2,17),(3,9)]),4,40,[.pointer none,.pointer none,.pointer none,.string ⟨#[]⟩]⟩:=by kernel_rfl
@[go_sem] theorem Zll:ti Try.prog 89=some ⟨(.struct [(0,88)]),0,0,[]⟩:=by kernel_rfl
@[go_sem] theorem Zlk:ti Try.prog 90=some ⟨(.struct [(0,88)]),0,0,[]⟩:=by kernel_rfl
@[go_sem] theorem Zlj:ti Try.prog 92=some ⟨(.int .u32),1,4,[.int .u32 0]⟩:=by kernel_rfl
@[go_sem] theorem Zli:ti Try.prog 93=some ⟨(.int .u8),1,1,[.int .u8 0]⟩:=by kernel_rfl
@[go_sem] theorem Zlh:ti Try.prog 94=some ⟨(.int .u8),1,1,[.int .u8 0]⟩:=by kernel_rfl
@[go_sem] theorem Zlg:ti Try.prog 97=some ⟨(.int .i32),1,4,[.int .i32 0]⟩:=by kernel_rfl
@[go_sem] theorem Zlf:ti Try.prog 98=some ⟨(.int .i32),1,4,[.int .i32 0]⟩:=by kernel_rfl
@[go_sem] theorem Zle:ti Try.prog 99=some ⟨(.struct [(0,12),(1,12),(2,92),(3,93),(4,5),(5,5),(6,94),(7,95),(8,96),(9,97),(10,98)]),11,48,[.int .u64 0,.int .u64 0,.int .u32 0,.int .u8 0,.int .u8 0,.int .u8 0,.int .u8 0,.nilFunc,.pointer none,.int .i32 0,.int .i32 0]⟩:=by kernel_rfl
@[go_sem] theorem ZkQ:ti Try.prog 100=some ⟨(.struct [(0,12),(1,12),(2,92),(3,93),(4,5),(5,5),(6,94),(7,95),(8,96),(9,97),(10,98)]),11,48,[.int .u64 0,.int .u64 0,.int .u32 0,.int .u8 0,.int .u8 0,.int .u8 0,.int .u8 0,.nilFunc,.pointer none,.int .i32 0,.int .i32 0]⟩:=by kernel_rfl
end Go.Proofs.Ytneeinggggadpaa
namespace Go.Proofs.Ytneeinggggadpaa
open Go.RowKit Am
namespace Am
section
variable {P:Program} {ops:Array Oper} {σ σ' σ0:St} {K:St→Prop} {o:Oper} {rest:List Oper} {g:Eff} {B As:List (List Nat)} {i:Nat} {es:List (Nat×Eff)} {f:Nat} {xs:List Operand}
theorem ZeI:Zdz P ops o rest σ K (some (f,xs))=Zbn P ops o rest σ K f (Y9 σ xs) ((Y9 σ xs).bind (QI σ)):=rfl
theorem ZeJ:Zdz P ops o rest σ K none=Ko P ops o rest σ K (X7 P σ o):=rfl
theorem Zdx:Ko P ops o rest σ K (some g)=(g.side∧ZO P ops rest (σ.app g) K):=rfl
theorem Zdy:Ko P ops o rest σ K none=HBy P σ o fun g=>ZO P ops rest (σ.app g) K:=rfl
theorem ZdA:Zbm P ops rest σ K (some g)=(g.side∧ZO P ops rest (σ.app g) K):=rfl
theorem ZdB:Zbm P ops rest σ K none=False:=rfl
theorem Zex:ZeU P ops σ0 K B As o rest i es σ (some (f,xs))=Zdr P ops σ0 K B As o rest i es σ f (Y9 σ xs) ((Y9 σ xs).bind (QI σ)):=rfl
theorem Zey:ZeU P ops σ0 K B As o rest i es σ none=J5 P ops σ0 K B As rest i es (X7 P σ o):=rfl
section
variable {b want:Bool}
@[congr] theorem Zgg {v v':Option Bool} (hs:σ=σ') (hv:v=v'):QZ P ops o rest σ K want v=QZ P ops o rest σ' K want v':=by rw [hs,hv]
theorem ZeK:QZ P ops o rest σ K true (some true)=Zdz P ops o rest σ K (Y4 o.op):=by simp [QZ]
theorem ZeN:QZ P ops o rest σ K false (some false)=Zdz P ops o rest σ K (Y4 o.op):=by simp [QZ]
theorem ZeL:QZ P ops o rest σ K true (some false)=ZO P ops rest (σ.kill o.dst) K:=by simp [QZ]
theorem ZeM:QZ P ops o rest σ K false (some true)=ZO P ops rest (σ.kill o.dst) K:=by simp [QZ]
end
theorem Zdn:J5 P ops σ0 K B As rest i es (some g)=(g.side∧Je P ops σ0 K B As rest (i+1) ((i,g)::es)):=rfl
theorem Zdo:J5 P ops σ0 K B As rest i es none=False:=rfl
theorem Zb1 {want b:Bool}:Zbf P ops σ0 K B As o rest i es σ want (some b)=if b=want then ZeU P ops σ0 K B As o rest i es σ (Y4 o.op) else Je P ops σ0 K B As rest (i+1) ((i,⟨True,match o.dst with | some d=>[(d,.dead)]| none=>[],[],[]⟩)::es):=rfl
theorem Zb2 {want:Bool}:Zbf P ops σ0 K B As o rest i es σ want none=False:=rfl
def bs3 (σ:St) (d len:Nat) (vs:List (Nat×V)) (ei:TI):List (List CV)→Option (List (List L)×Bool×List Nat×Prop)→Option Eff
 | css,some (es,f,τs,q)=>if d<σ.nt∧vs.map (·.1)=List.range len∧css.all (fun c=>c.length==ei.size)∧τs.Nodup∧len*ei.size≤16777216∧len≤16777216∧ei.zero.length=ei.size∧(σ.ar.lookup (64*d)).isNone then
   some ⟨q∧64*d<1000000,[(d,.one (.own (64*d) es.length))],[],(64*d,some ⟨f,es⟩)::τs.map (fun κ=>(κ,none))⟩ else none
 | _,none=>none
def bs2 (σ:St) (d len:Nat) (vs:List (Nat×V)):Option TI→Option (List (List CV))→Option Eff
 | some ei,some css=>bs3 σ d len vs ei css (ZaE σ css)
 | _,_=>none
def bs1 (P:Program) (σ:St) (d len:Nat):Option TI→Option (List (Nat×V))→Option Eff
 | some ⟨.slice et,_,_,_⟩,some vs=>bs2 σ d len vs (ti P et) (Um vs)
 | _,_=>none
theorem ZfH {d len:Nat} {vs:List (Nat×V)} {ei:TI} {css:List (List CV)} {es:List (List L)} {f:Bool} {τs:List Nat} {q:Prop}:bs3 σ d len vs ei css (some (es,f,τs,q))=if d<σ.nt∧vs.map (·.1)=List.range len∧css.all (fun c=>c.length==ei.size)∧τs.Nodup∧len*ei.size≤16777216∧len≤16777216∧ei.zero.length=ei.size∧(σ.ar.lookup (64*d)).isNone then
   some ⟨q∧64*d<1000000,[(d,.one (.own (64*d) es.length))],[],(64*d,some ⟨f,es⟩)::τs.map (fun κ=>(κ,none))⟩ else none:=rfl
theorem ZfI {d len:Nat} {vs:List (Nat×V)} {ei:TI} {css:List (List CV)}:bs2 σ d len vs (some ei) (some css)=bs3 σ d len vs ei css (ZaE σ css):=rfl
theorem ZfJ {d len et a b:Nat} {c:List Value} {vs:List (Nat×V)}:bs1 P σ d len (some ⟨.slice et,a,b,c⟩) (some vs)=bs2 σ d len vs (ti P et) (Um vs):=rfl
theorem Zcw {d t len:Nat} {ps:Array (Nat×Operand)}:Qe P σ (some d) (.buildSlice t len ps)=bs1 P σ d len (ti P t) (parts σ ps.toList):=by
 simp only [Qe]
 cases ti P t with
 | none=>rfl
 | some i=>
  obtain ⟨td,a,b,c⟩:=i
  cases parts σ ps.toList with
  | none=>cases td<;>rfl
  | some vs=>
   cases td<;>try rfl
   rename_i et
   simp only [bs1]
   cases ti P et with
   | none=>rfl
   | some ei=>
    cases Um vs with
    | none=>rfl
    | some css=>
     simp only [bs2]
     cases ZaE σ css with
     | none=>rfl
     | some r=>obtain ⟨es,f,τs,q⟩:=r;rfl
theorem Zhn {d t len:Nat} {ps:Array (Nat×Operand)} {ty:TypeId} {pos:String} {af:Array Edge} {gd:Option (Nat×Bool)}:Zdz P ops { dst:=some d,op:=.buildSlice t len ps,type:=ty,pos:=pos,after:=af,guard:=gd} rest σ K none=Ko P ops { dst:=some d,op:=.buildSlice t len ps,type:=ty,pos:=pos,after:=af,guard:=gd} rest σ K (bs1 P σ d len (ti P t) (parts σ ps.toList)):=
 congrArg (Ko P ops { dst:=some d,op:=.buildSlice t len ps,type:=ty,pos:=pos,after:=af,guard:=gd} rest σ K) Zcw
theorem Zhg {d t len:Nat} {ps:Array (Nat×Operand)} {ty:TypeId} {pos:String} {af:Array Edge} {gd:Option (Nat×Bool)}:ZeU P ops σ0 K B As { dst:=some d,op:=.buildSlice t len ps,type:=ty,pos:=pos,after:=af,guard:=gd} rest i es σ none=J5 P ops σ0 K B As rest i es (bs1 P σ d len (ti P t) (parts σ ps.toList)):=
 congrArg (J5 P ops σ0 K B As rest i es) Zcw
end
end Am
attribute [go_sem high] Zhn Zhg
attribute [go_sem] ZfJ ZfI ZfH Zg2 Zfo ZjT ZeQ Ze9 ZbN Zeh ZdM St.Zkz ZhH UO Vf Vg ZeI ZeJ ZdC ZdD ZdA ZdB Zdx Zdy ZeK ZeN ZeL ZeM Zb8 Y4 X7 YB Qe opd ZcO Zbe U9 WE yld St.kill St.app lookup_cons ZaN inB Zj3 ZbM ZkA ZkB V6 Zjy ZiZ Zj2 ZiU Zh9 ZjB Zh8 ZiT ZiB Zft Zc5 ZiS St.ren Kx QV Uk frV frL frC Km ZdI Kn ZdJ ZaE QI ZaD Zbs ZcM Y9 num bI bSh bS Vz inV YG QH KD Zam Vy ptD L.flat ZbX XY ZcS KR KS Zex Zey Zdp Zdq Zdn Zdo Zb1 Zb2 view Vh Jc TD.agg Ul Um parts ZbY eqC Zg8 ZiV ZgO Xa Zcm base St.closed okV okC setAt ZbL Zfe cle UM ZgG vle Zhu Zhx Zhz iC uC sC bC lC KF WO ZfE ZdG ZiA
theorem mixed:Try.prog.follows .mixedOrders=true:=by kernel_rfl
@[go_sem] theorem Zkw {n:Int} (h: -9223372036854775808≤n∧n≤9223372036854775807):IntKind.i64.wrap n=n:=IntWalk.i64_in n h
@[go_sem] theorem Zi7 {n:Int} (h:0≤n∧n≤255):IntKind.u8.wrap n=n:=IntWalk.u8_in n h
@[go_sem] theorem Zi6 {n:Int} (h:0≤n∧n≤18446744073709551615):IntKind.u64.wrap n=n:=IntWalk.u64_in n h
@[go_sem] theorem Zjl {α:Type} {p:α→Prop} {xs:List α} {n:Nat} {a:α} (h:∀z∈xs,p z) (ha:p a):(∀z∈xs.set n a,p z)↔True:=⟨fun _=>trivial,fun _ z hz=>(List.mem_or_eq_of_mem_set hz).elim (h z) fun e=>e▸ha⟩
@[go_sem] theorem ZiQ {α:Type} {p:α→Prop} {xs:List α} {n:Nat} (h:∀z∈xs,p z):(∀z∈xs.take n,p z)↔True:=⟨fun _=>trivial,fun _ z hz=>h z (List.mem_of_mem_take hz)⟩
@[go_sem] theorem take_len {α β:Type} (f:α→β) (xs:List α):(xs.map f).take xs.length=xs.map f:=List.take_of_length_le (by simp)
@[go_sem] theorem Zi1 {α:Type} {p:α→Prop} {xs:List α} {n:Nat} (h:∀z∈xs,p z):(∀z∈xs.drop n,p z)↔True:=⟨fun _=>trivial,fun _ z hz=>h z (List.mem_of_mem_drop hz)⟩
@[go_sem] theorem ZkC {α:Type} {p:α→Prop} {xs:List α} {b:α} (h:∀z∈xs,p z) (hb:p b):(∀z,z∈xs∨z=b→p z)↔True:=⟨fun _=>trivial,fun _ z hz=>hz.elim (h z) fun e=>e▸hb⟩
@[go_sem] theorem ZjD {α:Type} {p:α→Prop} {xs ys:List α} (h:∀z∈xs,p z) (hb:∀z∈ys,p z):(∀z,z∈xs∨z∈ys→p z)↔True:=⟨fun _=>trivial,fun _ z hz=>hz.elim (h z) (hb z)⟩
@[go_sem] theorem ZjY (xs:List Int):(∀e∈xs.map iC,e.length=1)↔True:=by
 refine ⟨fun _=>trivial,fun _ e he=> ?_⟩
 obtain ⟨x,_,rfl⟩:=List.mem_map.1 he
 rfl
@[go_sem] theorem Zjb (xs:List Int):(∀e∈xs.map uC,e.length=1)↔True:=by
 refine ⟨fun _=>trivial,fun _ e he=> ?_⟩
 obtain ⟨x,_,rfl⟩:=List.mem_map.1 he
 rfl
@[go_sem] theorem ZiN (xs:List Int):XY (xs.map uC)=true:=by
 refine List.all_eq_true.2 fun e he=> ?_
 obtain ⟨x,_,rfl⟩:=List.mem_map.1 he
 rfl
@[go_sem] theorem Zjn (xs:List ByteArray):(∀e∈xs.map sC,e.length=1)↔True:=by
 refine ⟨fun _=>trivial,fun _ e he=> ?_⟩
 obtain ⟨x,_,rfl⟩:=List.mem_map.1 he
 rfl
@[go_sem] theorem Zkn (xs:List Bool):(∀e∈xs.map bC,e.length=1)↔True:=by
 refine ⟨fun _=>trivial,fun _ e he=> ?_⟩
 obtain ⟨x,_,rfl⟩:=List.mem_map.1 he
 rfl
@[go_sem] theorem ZjS {α:Type} (c:α→List L) (xs:List (List α)):(∀e∈xs.map (lC c),e.length=1)↔True:=by
 refine ⟨fun _=>trivial,fun _ e he=> ?_⟩
 obtain ⟨x,_,rfl⟩:=List.mem_map.1 he
 rfl
@[go_sem] theorem ZiX (xs:List Int):XY (xs.map iC)=true:=by
 refine List.all_eq_true.2 fun e he=> ?_
 obtain ⟨x,_,rfl⟩:=List.mem_map.1 he
 rfl
@[go_sem] theorem ZiR (xs:List ByteArray):XY (xs.map sC)=true:=by
 refine List.all_eq_true.2 fun e he=> ?_
 obtain ⟨x,_,rfl⟩:=List.mem_map.1 he
 rfl
@[go_sem] theorem Zi4 (xs:List Bool):XY (xs.map bC)=true:=by
 refine List.all_eq_true.2 fun e he=> ?_
 obtain ⟨x,_,rfl⟩:=List.mem_map.1 he
 rfl
end Go.Proofs.Ytneeinggggadpaa
namespace Go.Proofs.Ytneeinggggadpaa.Am
open Go.RowKit
def Zay (n:Nat) (us:List Value):Act:={ tmps:=us.toArray++Array.replicate (n-us.toArray.size) undef,defers:=[]}
def Wb:Nat→List V→List (Nat×V)
 | _,[]=>[]
 | i,v::vs=>(i,v)::Wb (i+1) vs
def GC (P:Program) (f n:Nat) (vs:List V) (bx:List (Nat×List CV)) (ar:List (Nat×Option Arr)) (r:V) (bo:List (Nat×List CV)) (ao:List (Nat×Option Arr)):Prop:=
 Qq P f=true∧vs.length≤n∧∀(N:Nat→Prop) (w0:Bs) (e:Env) (us:List Value) (w:World),us.length=vs.length→Bok N w0→Zw N w0 e ⟨n,Wb 0 vs,bx,ar⟩ (Zay n us) w→
  Calls P f us.toArray w fun ex w'=>∃e' u,ex= .returned u∧r.rel e' ⟨n,[],bo,ao⟩ w' u∧Zw N w0 e' ⟨n,[],bo,ao⟩ (Zay n []) w'
theorem KH:∀{vs:List V} {i t:Nat} {v:V},(Wb i vs).lookup t=some v→∃j,t=i+j∧vs[j]? =some v
 | [],_,_,_,h=>by simp [Wb] at h
 | x::vs,i,t,v,h=>by
  simp only [Wb,lookup_cons] at h
  split at h
  ·rename_i ht;exact ⟨0,by omega,by simpa using h⟩
  ·obtain ⟨j,h1,h2⟩:=KH h
   exact ⟨j+1,by omega,by simpa using h2⟩
theorem ZeH {n:Nat} {us:List Value} {j:Nat} {u:Value} (h:us[j]? =some u):(Zay n us).tmps.getD j undef=u:=by
 have hj:=(List.getElem?_eq_some_iff.1 h).1
 simp only [Zay]
 rw [Array.getD_eq_getD_getElem?,Array.getElem?_append_left (by simpa using hj)]
 simp [h]
def mtC (α β:Nat→Nat):CV→CV→Prop
 | .l x,.l y=>x=y
 | .l x,.kept _ y=>x=y
 | .l x,.nil=>x= .sl []
 | .nil,.nil=>True
 | .np,.np=>True
 | .adr xs,.adr ys=>xs=ys
 | .own i n,.own τ m=>α i=τ∧n=m∧τ<1000000
 | .own i n,.nil=>2000000≤α i∧n=0
 | .box i o,.box k o'=>β i=k∧o=o'
 | _,_=>False
def mtL (α β:Nat→Nat):List CV→List CV→Prop
 | [],[]=>True
 | c::cs,d::ds=>mtC α β c d∧mtL α β cs ds
 | _,_=>False
def mtV (α β:Nat→Nat):V→V→Prop
 | .one c,.one d=>mtC α β c d
 | .agg cs,.agg ds=>mtL α β cs ds
 | _,_=>False
def Zfg (α β:Nat→Nat):List V→List V→Prop
 | [],[]=>True
 | v::vs,u::us=>mtV α β v u∧Zfg α β vs us
 | _,_=>False
def rnC (γ β:Nat→Nat):CV→CV
 | .own i n=>.own (γ i) n
 | .box i o=>.box (β i) o
 | .l x=>.l x
 | .nil=>.nil
 | .np=>.np
 | .adr ls=>.adr ls
 | .kept _ x=>.l x
 | _=>.any
def clC (bx:List (Nat×List CV)) (ar:List (Nat×Option Arr)):CV→Prop
 | .own i _=>(ar.lookup i).isSome=true
 | .box i _=>(bx.lookup i).isSome=true
 | _=>True
def clO (bx:List (Nat×List CV)) (ar:List (Nat×Option Arr)):CV→Prop
 | .own i _=>∃A,ar.lookup i=some (some A)
 | .box i _=>(bx.lookup i).isSome=true
 | .l _| .nil| .np| .adr _| .kept _ _| .any=>True
 | _=>False
def clV (bx:List (Nat×List CV)) (ar:List (Nat×Option Arr)):V→Prop
 | .one c=>clC bx ar c
 | .agg cs=>∀c∈cs,clC bx ar c
 | _=>False
def rnV (γ β:Nat→Nat):V→V
 | .one c=>.one (rnC γ β c)
 | .agg cs=>.agg (cs.map (rnC γ β))
 | .tup ps=>.tup (ps.map fun p=>(p.1,p.2.map (rnC γ β)))
 | .dead=>.dead
def Zi3 (bo:List (Nat×List CV)) (ao:List (Nat×Option Arr)):V→Prop
 | .one c=>clO bo ao c
 | .agg cs=>∀c∈cs,clO bo ao c
 | .tup ps=>∀p∈ps,∀c∈p.2,clO bo ao c
 | .dead=>True
structure GM (σ:St) (n:Nat) (α β γ:Nat→Nat) (bx:List (Nat×List CV)) (ar:List (Nat×Option Arr)) (bo:List (Nat×List CV)) (ao:List (Nat×Option Arr)):Prop where
 b1:∀i cs,bx.lookup i=some cs→n≤i∧∃ds,σ.bx.lookup (β i)=some ds∧mtL α β cs ds
 b2:∀i cs j ds,bo.lookup i=some cs→bo.lookup j=some ds→β i=β j→i=j
 a1:∀i A,ar.lookup i=some A→i<1000000∧((α i<1000000∧∃C,(∃B,A=some B∧B.fr=false∧B.es=C.es)∧σ.ar.lookup (α i)=some (some C))∨(2000000≤α i∧A=some ⟨false,[]⟩∧(σ.ar.lookup (α i)=none∨σ.ar.lookup (α i)=some none)))
 a2:∀i A j B,ar.lookup i=some A→ar.lookup j=some B→α i=α j→i=j
 c1:∀i cs,bo.lookup i=some cs→(∃cs',bx.lookup i=some cs')∨(i<n∧σ.bx.lookup (β i)=none∧β i<σ.nt)
 c2:∀i cs,bx.lookup i=some cs→∃cs',bo.lookup i=some cs'
 d1:∀i A,ao.lookup i=some (some A)→i<1000000∧γ i<1000000∧σ.ar.lookup (γ i)=none
 d2:∀i A j B,ao.lookup i=some (some A)→ao.lookup j=some (some B)→γ i=γ j→i=j
 e1:∀i cs,bx.lookup i=some cs→∀c∈cs,clC bx ar c
 e2:∀i cs,bo.lookup i=some cs→∀c∈cs,clO bo ao c
mutual
theorem Ow.within {N M:Nat→Prop} {w:World}:∀{x:L} {v:Value} {F:List Nat},Ow N w x v F→(∀b∈F,M b)→Ow M w x v F
 | .int _ _,_,_,h,_=>by simp only [Ow] at h ⊢;exact h
 | .bool _,_,_,h,_=>by simp only [Ow] at h ⊢;exact h
 | .str _,_,_,h,_=>by simp only [Ow] at h ⊢;exact h
 | .void,_,_,h,_=>by simp only [Ow] at h ⊢;exact h
 | .sl _,_,_,h,hm=>by
  simp only [Ow] at h ⊢
  obtain ⟨A,c,h1,h2,h4⟩:=h
  refine ⟨A,c,h1,h2, ?_⟩
  rcases h4 with h4| ⟨b,t,cur,Fs,W,e1,e2,e3,e4,e5,e6,e7,rfl,e9⟩
  ·exact .inl h4
  ·exact .inr ⟨b,t,cur,Fs,W,e1,hm _ (by simp),e3,e4,e5,e6,e7,rfl,OwE.within e9 fun x hx=>hm x (by simp [hx])⟩
theorem OwL.within {N M:Nat→Prop} {w:World}:∀{xs:List L} {vs:List Value} {F:List Nat},OwL N w xs vs F→(∀b∈F,M b)→OwL M w xs vs F
 | [],_,_,h,_=>by simp only [OwL] at h ⊢;exact h
 | _::_,_,_,h,hm=>by
  simp only [OwL] at h ⊢
  obtain ⟨v,vs',F1,F2,h0,rfl,h1,h2⟩:=h
  exact ⟨v,vs',F1,F2,h0,rfl,Ow.within h1 fun x hx=>hm x (by simp [hx]),OwL.within h2 fun x hx=>hm x (by simp [hx])⟩
theorem OwE.within {N M:Nat→Prop} {w:World}:∀{es:List (List L)} {vs:List Value} {F:List Nat},OwE N w es vs F→(∀b∈F,M b)→OwE M w es vs F
 | [],_,_,h,_=>by simp only [OwE] at h ⊢;exact h
 | _::_,_,_,h,hm=>by
  simp only [OwE] at h ⊢
  obtain ⟨v1,v2,F1,F2,h0,rfl,h1,h2⟩:=h
  exact ⟨v1,v2,F1,F2,h0,rfl,OwL.within h1 fun x hx=>hm x (by simp [hx]),OwE.within h2 fun x hx=>hm x (by simp [hx])⟩
end
section
variable {e:Env} {σ:St} {w:World} {N:Nat→Prop} {w0:Bs} {a:Act} {P:Program}
variable {n:Nat} {α β γ:Nat→Nat} {bx bo:List (Nat×List CV)} {ar ao:List (Nat×Option Arr)}
def ob (v:Value):List Nat:=match v.ownBlock with
 | some b=>[b]
 | none=>[]
theorem Zf1 {v:Value} {b:Nat}:b∈ob v↔v.ownBlock=some b:=by
 unfold ob
 cases v.ownBlock<;>simp [eq_comm]
def rh (e:Env) (τ:Nat):Value:=if 2000000≤τ then .slice none 0 0 else e.ρ τ
def Zdg (e:Env) (α β:Nat→Nat) (bx:List (Nat×List CV)) (ar:List (Nat×Option Arr)) (b:Nat):Prop:=
 (∃i cs,bx.lookup i=some cs∧b=e.β (β i))∨∃i A,ar.lookup i=some A∧(rh e (α i)).ownBlock=some b
def Zht (e:Env) (α β:Nat→Nat) (bx:List (Nat×List CV)) (ar:List (Nat×Option Arr)) (b:Nat):Prop:=Zdg e α β bx ar b
def ZdH (e:Env) (σ:St) (α β:Nat→Nat) (bx:List (Nat×List CV)) (ar:List (Nat×Option Arr)):Env:=
 ⟨fun i=>e.β (β i),fun i=>rh e (α i),fun i=>ob (rh e (α i)),fun b=>Mut e σ b∧¬Zdg e α β bx ar b⟩
def bsG (e:Env) (σ:St) (w:World) (α β:Nat→Nat) (bx:List (Nat×List CV)) (ar:List (Nat×Option Arr)):Bs:=
 ⟨w,fun b=>Mut e σ b∧¬Zdg e α β bx ar b,fun i=>e.β (β i),fun b=>w.heap.size≤b∨Zht e α β bx ar b⟩
theorem GM.got (g:GM σ n α β γ bx ar bo ao) {i b:Nat} {A:Option Arr} (hA:ar.lookup i=some A) (hb:(rh e (α i)).ownBlock=some b):α i<1000000∧(e.ρ (α i)).ownBlock=some b∧∃C,σ.ar.lookup (α i)=some (some C):=by
 rcases (g.a1 i A hA).2 with ⟨h1,C,_,h2⟩| ⟨h1,_⟩
 ·rw [rh,if_neg (by omega)] at hb
  exact ⟨h1,hb,C,h2⟩
 ·rw [rh,if_pos h1] at hb
  simp [Value.ownBlock] at hb
theorem GM.mut (g:GM σ n α β γ bx ar bo ao) (h:Zw N w0 e σ a w) {tm:List (Nat×V)} {b:Nat} (hm:Mut (ZdH e σ α β bx ar) ⟨n,tm,bx,ar⟩ b):Mut e σ b:=by
 rcases hm with h0| ⟨i,cs,h1,h2⟩| ⟨i,A,h1,h2⟩
 ·exact h0.1
 ·obtain ⟨_,ds,h3,_⟩:=g.b1 i cs h1
  exact .inr (.inl ⟨_,ds,h3,h2⟩)
 ·obtain ⟨_,h4,B,h3⟩:=g.got h1 h2
  exact .inr (.inr ⟨_,B,h3,h4⟩)
theorem GM.rel (g:GM σ n α β γ bx ar bo ao) (h:Zw N w0 e σ a w) {tm:List (Nat×V)} {c d:CV} {v:Value} (hr:d.rel e σ w v) (hc:mtC α β c d)
  (hA:∀i m,c= .own i m→∃A,ar.lookup i=some A) (hB:∀i m,c= .box i m→∃cs,bx.lookup i=some cs):c.rel (ZdH e σ α β bx ar) ⟨n,tm,bx,ar⟩ w v:=by
 unfold mtC at hc
 split at hc
 ·subst hc
  obtain ⟨F,h1,h2⟩:=hr
  exact ⟨F,h1,fun b hb hm=>h2 b hb (g.mut h hm)⟩
 ·subst hc
  obtain ⟨_,F,h1,h2⟩:=hr
  exact ⟨F,h1,fun b hb hm=>h2 b hb (g.mut h hm)⟩
 ·subst hc
  have hv:v= .slice none 0 0:=hr
  subst hv
  refine ⟨[], ?_,by simp⟩
  simp only [Rp];exact ⟨none,0,rfl,Nat.le_refl _,by omega,.inl (by simp)⟩
 ·exact hr
 ·exact hr
 ·subst hc
  obtain ⟨b,off,vs,F,h1,h2,h3,h4,h5,h6⟩:=hr
  exact ⟨b,off,vs,F,h1,h2,h3,h4,fun hm=>h5 (g.mut h hm),fun x hx hm=>h6 x hx (g.mut h hm)⟩
 ·rename_i i n' τ m
  obtain ⟨rfl,rfl,hlt⟩:=hc
  obtain ⟨A,hA'⟩:=hA i _ rfl
  rcases (g.a1 i A hA').2 with ⟨_,C,⟨B,rfl,_,hes⟩,h3⟩| ⟨h1,_⟩
  ·obtain ⟨A2,k1,k2,k3⟩:=hr
   rw [h3] at k1
   obtain rfl:=Option.some.inj k1
   refine ⟨_,hA',fun B' hB'=> ?_,k3⟩
   obtain rfl:=Option.some.inj hB'
   show n'≤B.es.length∧(B.es.length=n'→v=rh e (α i))
   rw [hes,rh,if_neg (by omega)]
   exact k2 C rfl
  ·omega
 ·rename_i i n'
  obtain ⟨h1,rfl⟩:=hc
  have hv:v= .slice none 0 0:=hr
  subst hv
  obtain ⟨A,hA'⟩:=hA i _ rfl
  rcases (g.a1 i A hA').2 with ⟨h2,_⟩| ⟨_,rfl,_⟩
  ·omega
  ·refine ⟨_,hA',fun B hB=> ?_,none,0,rfl,by omega⟩
   obtain rfl:=Option.some.inj hB
   refine ⟨Nat.le_refl _,fun _=> ?_⟩
   show _=rh e (α i)
   rw [rh,if_pos h1]
 ·rename_i i o k o'
  obtain ⟨rfl,rfl⟩:=hc
  obtain ⟨cs,hcs⟩:=hB i _ rfl
  exact ⟨⟨cs,hcs⟩,hr.2⟩
 ·exact hc.elim
theorem GM.ZK (g:GM σ n α β γ bx ar bo ao) (h:Zw N w0 e σ a w) {tm:List (Nat×V)}:∀{cs ds:List CV} {vs:List Value},Am.ZK e σ w ds vs→mtL α β cs ds→(∀c∈cs,clC bx ar c)→Am.ZK (ZdH e σ α β bx ar) ⟨n,tm,bx,ar⟩ w cs vs
 | [],[],_,hr,_,_=>hr
 | [],_::_,_,_,hc,_=>by simp [mtL] at hc
 | _::_,[],_,_,hc,_=>by simp [mtL] at hc
 | c::cs,d::ds,vs,hr,hc,hcl=>by
  simp only [Am.ZK] at hr ⊢
  obtain ⟨v,vs',h0,h1,h2⟩:=hr
  simp only [mtL] at hc
  refine ⟨v,vs',h0,g.rel h h1 hc.1 (fun i m e'=> ?_) (fun i m e'=> ?_),g.ZK h h2 hc.2 fun c hc=>hcl c (List.mem_cons_of_mem _ hc)⟩
  ·have:=hcl c (by simp);rw [e'] at this;exact Option.isSome_iff_exists.1 this
  ·have:=hcl c (by simp);rw [e'] at this;exact Option.isSome_iff_exists.1 this
theorem Zaj:∀{vs us:List V},Zfg α β vs us→vs.length=us.length∧∀(j:Nat) (v:V),vs[j]? =some v→∃u,us[j]? =some u∧mtV α β v u
 | [],[],_=>⟨rfl,by simp⟩
 | [],_::_,h=>by simp [Zfg] at h
 | _::_,[],h=>by simp [Zfg] at h
 | v::vs,u::us,h=>by
  simp only [Zfg] at h
  obtain ⟨h1,h2⟩:=Zaj h.2
  refine ⟨by simp [h1],fun j x hx=> ?_⟩
  cases j with
  | zero=>simp at hx;subst hx;exact ⟨u,by simp,h.1⟩
  | succ j=>obtain ⟨y,k1,k2⟩:=h2 j x (by simpa using hx);exact ⟨y,by simpa using k1,k2⟩
theorem GM.Zjz (g:GM σ n α β γ bx ar bo ao) (h:Zw N w0 e σ a w) {tm:List (Nat×V)} {x y:V} {v:Value} (hr:y.rel e σ w v) (hc:mtV α β x y) (hcl:clV bx ar x):x.rel (ZdH e σ α β bx ar) ⟨n,tm,bx,ar⟩ w v:=by
 cases x<;>cases y<;>simp only [mtV] at hc
 ·exact g.rel h hr hc (fun i m e'=>by rw [e'] at hcl;exact Option.isSome_iff_exists.1 hcl) (fun i m e'=>by rw [e'] at hcl;exact Option.isSome_iff_exists.1 hcl)
 ·obtain ⟨vs,h0,h1⟩:=hr
  exact ⟨vs,h0,g.ZK h h1 hc hcl⟩
theorem GM.enter (g:GM σ n α β γ bx ar bo ao) (h:Zw N w0 e σ a w) {us:List Value} {vs vs':List V} (hl:us.length=vs'.length) (hv:∀(j:Nat) (v:V),vs'[j]? =some v→∃u,us[j]? =some u∧v.rel e σ w u) (hm:Zfg α β vs vs') (hcl:∀v∈vs,clV bx ar v) (hn:vs.length≤n):
  Zw (fun b=>w.heap.size≤b∨Zdg e α β bx ar b) (bsG e σ w α β bx ar) (ZdH e σ α β bx ar) ⟨n,Wb 0 vs,bx,ar⟩ (Zay n us) w:=by
 obtain ⟨hl2,hm2⟩:=Zaj hm
 have key:∀κ,live ⟨n,Wb 0 vs,bx,ar⟩ κ→(∀b,tpB (ZdH e σ α β bx ar) κ b→Zht e α β bx ar b)∧(∀b∈blk (ZdH e σ α β bx ar) κ,Zdg e α β bx ar b)∧¬Kl κ:=by
  intro κ hk
  cases κ with
  | b i=>
   obtain ⟨cs,hcs⟩:=hk
   exact ⟨fun b hb=>.inl ⟨i,cs,hcs,hb⟩,fun b hb=>.inl ⟨i,cs,hcs,by simpa [blk,ZdH] using hb⟩,fun hd=>hd.elim⟩
  | a i=>
   obtain ⟨A,hA⟩:=hk
   have h1:=(g.a1 i _ hA).1
   refine ⟨fun b hb=>.inr ⟨i,_,hA, ?_⟩,fun b hb=>.inr ⟨i,_,hA,Zf1.1 hb⟩,fun hd=>by have:1000000≤i:=hd;omega⟩
   rcases hb with hb| ⟨hb,_⟩
   ·exact hb
   ·omega
 have key2:∀κ b,live ⟨n,Wb 0 vs,bx,ar⟩ κ→b∈blk (ZdH e σ α β bx ar) κ→∃κ0,live σ κ0∧b∈blk e κ0∧((∃i,κ= .b i∧κ0= .b (β i))∨∃i,κ= .a i∧κ0= .a (α i)):=by
  intro κ b hk hb
  cases κ with
  | b i=>
   obtain ⟨cs,hcs⟩:=hk
   obtain ⟨_,ds,h3,_⟩:=g.b1 i cs hcs
   exact ⟨.b (β i),⟨ds,h3⟩,hb,.inl ⟨i,rfl,rfl⟩⟩
  | a i=>
   obtain ⟨A,hA⟩:=hk
   obtain ⟨_,h4,C,h3⟩:=g.got hA (Zf1.1 hb)
   exact ⟨.a (α i),⟨C,h3⟩,((h.ar _ C h3).own h4).1,.inr ⟨i,rfl,rfl⟩⟩
 have tG:∀b,Zht e α β bx ar b→w0.tch b:=by
  rintro b (⟨i,cs,h1,rfl⟩| ⟨i,A,h1,h2⟩)
  ·obtain ⟨_,ds,h3,_⟩:=g.b1 i cs h1
   exact h.tp (.b (β i)) _ ⟨ds,h3⟩ rfl
  ·obtain ⟨_,h4,B,h3⟩:=g.got h1 h2
   exact h.tp (.a (α i)) b ⟨B,h3⟩ (.inl h4)
 refine ⟨by simp [Zay];omega,rfl,fun t x ht=> ?_,fun i cs hi=> ?_,fun i A hA=> ?_,fun κ κ' hk hk' hne=> ?_,⟨?_,rfl,rfl,rfl,Nat.le_refl _,fun _ _ _=>rfl,fun b hb=>.inl hb⟩,⟨fun _ h=>h,fun b hb=>⟨?_,fun κ hk hbk=> ?_⟩⟩,fun κ hk hd=> ?_,fun _ _ _ _=>rfl,fun b hb=> ?_,fun κ b hk hb=> ?_⟩
 ·obtain ⟨j,rfl,hj⟩:=KH ht
  obtain ⟨y,h1,h2⟩:=hm2 j x hj
  obtain ⟨u,h3,h4⟩:=hv j y h1
  rw [Nat.zero_add,ZeH h3]
  exact g.Zjz h h4 h2 (hcl x (List.mem_of_getElem? hj))
 ·obtain ⟨_,ds,h3,h4⟩:=g.b1 i cs hi
  obtain ⟨_,cur,ty,k2,k3⟩:=h.bx _ ds h3
  exact ⟨.inr (.inl ⟨i,cs,hi,rfl⟩),cur,ty,k2,g.ZK h k3 h4 (g.e1 i cs hi)⟩
 ·rcases (g.a1 i _ hA).2 with ⟨hlt,C,⟨B,hB,hf,hes⟩,h3⟩| ⟨h1,hB,_⟩
  ·skip
   obtain rfl:=Option.some.inj hB
   obtain ⟨f,es⟩:=A
   simp only at hf hes
   subst hf hes
   obtain ⟨p,c,hvv,hc,h4| ⟨b,t,cur,Fs,W,rfl,q2,q3,q4,q5,q6,q7,q8⟩⟩:=h.ar _ C h3
   ·exact ⟨p,c,(show rh e (α i)=e.ρ (α i) from if_neg (by omega)).trans hvv,hc,.inl ⟨h4.1,h4.2.1,h4.2.2.1,by simp [ZdH,ob,rh,show ¬2000000≤α i by omega,hvv,h4.2.1,Value.ownBlock]⟩⟩
   ·have ho:(e.ρ (α i)).ownBlock=some b:=by rw [hvv];rfl
    have hr:rh e (α i)=e.ρ (α i):=if_neg (by omega)
    refine ⟨_,c,hr.trans hvv,hc,.inr ⟨b,t,cur,Fs,W,rfl,.inr (.inr ⟨i,_,hA,by rw [hr];exact ho⟩),q3,q4,q5,q6,q7,.inr ⟨rfl,by simp [ZdH,ob,hr,ho], ?_⟩⟩⟩
    rcases q8 with ⟨g1,g2,g3,g4⟩| ⟨g1,g2,g3,g4⟩
    ·refine ⟨g4.rp,fun x hx hm=>h.inner h3 hlt (by simp [g2,hx]) ?_ (g.mut h hm)⟩
     rw [ho]
     intro e'
     obtain rfl:=Option.some.inj e'
     rw [g2] at g3
     exact (List.nodup_cons.1 g3).1 hx
    ·exact ⟨g3,fun x hx hm=>g4 x hx (g.mut h hm)⟩
  ·obtain rfl:=Option.some.inj hB
   have hr:rh e (α i)= .slice none 0 0:=if_pos h1
   exact ⟨none,0,hr,by omega,.inl ⟨rfl,rfl,rfl,by simp [ZdH,ob,hr,Value.ownBlock]⟩⟩
 ·intro b hb hb'
  obtain ⟨κ0,k1,k2,k6⟩:=key2 κ b hk hb
  obtain ⟨κ1,l1,l2,l6⟩:=key2 κ' b hk' hb'
  refine h.sep κ0 κ1 k1 l1 (fun heq=>hne ?_) b k2 l2
  rcases k6 with ⟨i,rfl,rfl⟩| ⟨i,rfl,rfl⟩<;>rcases l6 with ⟨j,rfl,rfl⟩| ⟨j,rfl,rfl⟩
  ·obtain ⟨cs,hcs⟩:=hk
   obtain ⟨ds,hds⟩:=hk'
   obtain ⟨cs',hcs'⟩:=g.c2 i cs hcs
   obtain ⟨ds',hds'⟩:=g.c2 j ds hds
   injection heq with heq
   rw [g.b2 i cs' j ds' hcs' hds' heq]
  ·cases heq
  ·cases heq
  ·obtain ⟨A,hA⟩:=hk
   obtain ⟨B,hB⟩:=hk'
   injection heq with heq
   rw [g.a2 i _ j _ hA hB heq]
 ·obtain ⟨G,hG,hn'⟩:=h.fr.glb
  refine ⟨G,hG,fun b hb hm=> ?_⟩
  rcases hm with hm| hm
  ·have:=hG.1 b hb;omega
  ·exact hn' b hb (tG b hm)
 ·rcases h.ZfZ hb.1 with k| k
  ·exact (h.bad.2 b k).1
  ·exact k.1
 ·exact absurd ((key κ hk).2.1 b hbk) hb.2
 ·exact absurd hd (key κ hk).2.2
 ·rcases hb with hb| hb
  ·exact .inl hb
  ·exact .inr hb
 ·exact .inr ((key κ hk).1 b hb)
theorem X2 {B C:Type} (φ:Nat→Nat) (f:B→C):∀{l:List (Nat×B)},(∀i j,(l.lookup i).isSome=true→(l.lookup j).isSome=true→φ i=φ j→i=j)→∀{k:Nat} {c:C},(l.map fun p=>(φ p.1,f p.2)).lookup k=some c↔∃i x,l.lookup i=some x∧k=φ i∧c=f x
 | [],_,k,c=>by simp
 | (j,y)::l,inj,k,c=>by
  have inj':∀i j,(l.lookup i).isSome=true→(l.lookup j).isSome=true→φ i=φ j→i=j:=fun i i' hi hi' he=>inj i i' (by rw [lookup_cons];split<;>simp [*]) (by rw [lookup_cons];split<;>simp [*]) he
  have ih:=X2 (l:=l) φ f inj' (k:=k) (c:=c)
  simp only [List.map_cons,lookup_cons]
  by_cases hk:k=φ j
  ·rw [if_pos hk]
   refine ⟨fun h=>⟨j,y,by simp,hk,(Option.some.inj h).symm⟩, ?_⟩
   rintro ⟨i,x,h1,h2,rfl⟩
   have hij:i=j:=inj i j (by rw [lookup_cons,h1];rfl) (by rw [lookup_cons,if_pos rfl];rfl) (by rw [←h2,hk])
   rw [if_pos hij] at h1
   rw [Option.some.inj h1]
  ·rw [if_neg hk,ih]
   refine ⟨fun ⟨i,x,h1,h2,h3⟩=>⟨i,x,by rw [if_neg (fun e=>hk (by rw [h2,e]))];exact h1,h2,h3⟩,fun ⟨i,x,h1,h2,h3⟩=>⟨i,x,by rw [if_neg (fun e=>hk (by rw [h2,e]))] at h1;exact h1,h2,h3⟩⟩
theorem Xx {B C:Type} (φ:Nat→Nat) (f:B→C) {l:List (Nat×B)} {k:Nat} (h:(l.map fun p=>(φ p.1,f p.2)).lookup k=none):∀i x,l.lookup i=some x→k≠φ i:=by
 induction l with
 | nil=>simp
 | cons p l ih=>
  obtain ⟨j,y⟩:=p
  simp only [List.map_cons,lookup_cons] at h
  split at h
  ·cases h
  ·rename_i hk
   intro i x hi
   rw [lookup_cons] at hi
   split at hi
   ·rename_i hij;rw [hij];exact hk
   ·exact ih h i x hi
theorem X3 {B:Type} (l r:List (Nat×B)) (k:Nat):(l++r).lookup k=match l.lookup k with | some x=>some x| none=>r.lookup k:=by
 induction l with
 | nil=>rfl
 | cons p l ih=>
  obtain ⟨j,y⟩:=p
  simp only [List.cons_append,lookup_cons]
  split
  ·rfl
  ·exact ih
def gT (γ β:Nat→Nat) (dst:Option Nat) (r:V):List (Nat×V):=
 match dst with
 | some d=>[(d,rnV γ β r)]
 | none=>[]
def Kj (α β γ:Nat→Nat) (dst:Option Nat) (r:V) (bo:List (Nat×List CV)) (ao ar:List (Nat×Option Arr)):Eff:=
 ⟨True,gT γ β dst r,bo.map fun p=>(β p.1,p.2.map (rnC γ β)),(ao.map fun p=>(γ p.1,p.2))++ar.map fun p=>(α p.1,none)⟩
theorem GM.bok (g:GM σ n α β γ bx ar bo ao) (h:Zw N w0 e σ a w):Bok (fun b=>w.heap.size≤b∨Zdg e α β bx ar b) (bsG e σ w α β bx ar):=by
 refine ⟨fun b hb hn=> ?_,fun b hn=> ?_⟩
 ·rcases hn with hn| hn
  ·have:b<w.heap.size:=by
    rcases h.ZfZ hb.1 with k| k
    ·exact (h.bad.2 b k).1
    ·exact k.1
   omega
  ·exact hb.2 hn
 ·exact hn
open Classical in
theorem GM.ZjR (g:GM σ n α β γ bx ar bo ao) (h:Zw N w0 e σ a w) {w':World} {e2:Env} {r:V} {u:Value} (h2:Zw (fun b=>w.heap.size≤b∨Zdg e α β bx ar b) (bsG e σ w α β bx ar) e2 ⟨n,[],bo,ao⟩ (Zay n []) w') (hz:r.rel e2 ⟨n,[],bo,ao⟩ w' u)
  (hrc:Zi3 bo ao r) (hao:∀i A,ao.lookup i=some A→∃B,A=some B) {dst:Option Nat} (hd:∀d,dst=some d→d<σ.nt):
  ∃e3,Zw N w0 e3 (σ.app (Kj α β γ dst r bo ao ar)) (a.put dst u) w':=by
 let e3:Env:=⟨fun k=>if h:∃i cs,bo.lookup i=some cs∧β i=k then e2.β h.choose else e.β k,fun τ=>if h:∃i A,ao.lookup i=some (some A)∧γ i=τ then e2.ρ h.choose else e.ρ τ,fun τ=>if h:∃i A,ao.lookup i=some (some A)∧γ i=τ then e2.φ h.choose else e.φ τ,e.bad⟩
 obtain ⟨σ3,hσ3⟩:∃σ3,σ3=σ.app (Kj α β γ dst r bo ao ar):=⟨_,rfl⟩
 have hβ:∀i cs,bo.lookup i=some cs→e3.β (β i)=e2.β i:=fun i cs hi=>by
  have hx:∃j cs,bo.lookup j=some cs∧β j=β i:=⟨i,cs,hi,rfl⟩
  show (if h:∃j cs,bo.lookup j=some cs∧β j=β i then e2.β h.choose else e.β (β i))=_
  rw [dif_pos hx]
  obtain ⟨cs',h1,h3⟩:=hx.choose_spec
  rw [g.b2 _ _ _ _ h1 hi h3]
 have hβ':∀k,(∀i cs,bo.lookup i=some cs→β i≠k)→e3.β k=e.β k:=fun k hk=>dif_neg fun ⟨i,cs,h1,h3⟩=>hk i cs h1 h3
 have hγ:∀i A,ao.lookup i=some (some A)→e3.ρ (γ i)=e2.ρ i∧e3.φ (γ i)=e2.φ i:=fun i A hi=>by
  have hx:∃j A,ao.lookup j=some (some A)∧γ j=γ i:=⟨i,A,hi,rfl⟩
  obtain ⟨B,h1,h3⟩:=hx.choose_spec
  have hc:=g.d2 _ _ _ _ h1 hi h3
  refine ⟨?_, ?_⟩
  ·show (if h:∃j A,ao.lookup j=some (some A)∧γ j=γ i then e2.ρ h.choose else e.ρ (γ i))=_
   rw [dif_pos hx,hc]
  ·show (if h:∃j A,ao.lookup j=some (some A)∧γ j=γ i then e2.φ h.choose else e.φ (γ i))=_
   rw [dif_pos hx,hc]
 have hγ':∀τ,(∀i A,ao.lookup i=some (some A)→γ i≠τ)→e3.ρ τ=e.ρ τ∧e3.φ τ=e.φ τ:=fun τ hτ=>⟨dif_neg fun ⟨i,A,h1,h3⟩=>hτ i A h1 h3,dif_neg fun ⟨i,A,h1,h3⟩=>hτ i A h1 h3⟩
 have nog:∀i A τ B,ao.lookup i=some (some A)→σ.ar.lookup τ=some B→γ i≠τ:=fun i A τ B h1 h3 he=>by
  have:=(g.d1 i A h1).2.2
  rw [he,h3] at this;cases this
 have injb:∀i j,(bo.lookup i).isSome=true→(bo.lookup j).isSome=true→β i=β j→i=j:=fun i j hi hj he=>by
  obtain ⟨x,hx⟩:=Option.isSome_iff_exists.1 hi
  obtain ⟨y,hy⟩:=Option.isSome_iff_exists.1 hj
  exact g.b2 i x j y hx hy he
 have injo:∀i j,(ao.lookup i).isSome=true→(ao.lookup j).isSome=true→γ i=γ j→i=j:=fun i j hi hj he=>by
  obtain ⟨x,hx⟩:=Option.isSome_iff_exists.1 hi
  obtain ⟨y,hy⟩:=Option.isSome_iff_exists.1 hj
  obtain ⟨x',rfl⟩:=hao i x hx
  obtain ⟨y',rfl⟩:=hao j y hy
  exact g.d2 i x' j y' hx hy he
 have inja:∀i j,(ar.lookup i).isSome=true→(ar.lookup j).isSome=true→α i=α j→i=j:=fun i j hi hj he=>by
  obtain ⟨x,hx⟩:=Option.isSome_iff_exists.1 hi
  obtain ⟨y,hy⟩:=Option.isSome_iff_exists.1 hj
  exact g.a2 i x j y hx hy he
 have bx3:σ3.bx=(bo.map fun p=>(β p.1,p.2.map (rnC γ β)))++σ.bx:=by rw [hσ3];rfl
 have ar3:σ3.ar=(ao.map fun p=>(γ p.1,p.2))++((ar.map fun p=>(α p.1,none))++σ.ar):=by rw [hσ3];simp [St.app,Kj]
 have L1:∀k cs,σ3.bx.lookup k=some cs→(∃i cs',bo.lookup i=some cs'∧k=β i∧cs=cs'.map (rnC γ β))∨((∀i cs',bo.lookup i=some cs'→k≠β i)∧σ.bx.lookup k=some cs):=fun k cs hk=>by
  rw [bx3,X3] at hk
  split at hk
  ·rename_i x hx
   obtain rfl:=Option.some.inj hk
   exact .inl ((X2 β _ injb).1 hx)
  ·rename_i hx
   exact .inr ⟨Xx β _ hx,hk⟩
 have L1':∀i cs',bo.lookup i=some cs'→σ3.bx.lookup (β i)=some (cs'.map (rnC γ β)):=fun i cs' hi=>by
  rw [bx3,X3,(X2 β _ injb).2 ⟨i,cs',hi,rfl,rfl⟩]
 have L1'':∀k cs,σ.bx.lookup k=some cs→∃cs',σ3.bx.lookup k=some cs':=fun k cs hk=>by
  rw [bx3,X3]
  split
  ·exact ⟨_,rfl⟩
  ·exact ⟨cs,hk⟩
 have L2:∀τ B,σ3.ar.lookup τ=some (some B)→(∃i,ao.lookup i=some (some B)∧τ=γ i)∨((∀i A,ao.lookup i=some A→τ≠γ i)∧(∀i A,ar.lookup i=some A→τ≠α i)∧σ.ar.lookup τ=some (some B)):=fun τ B hτ=>by
  rw [ar3,X3] at hτ
  split at hτ
  ·rename_i x hx
   obtain rfl:=Option.some.inj hτ
   obtain ⟨i,y,h1,h3,rfl⟩:=(X2 γ (fun x=>x) injo).1 hx
   exact .inl ⟨i,h1,h3⟩
  ·rename_i hx
   rw [X3] at hτ
   split at hτ
   ·rename_i y hy
    obtain ⟨i,z,h1,h3,h4⟩:=(X2 α (fun _=>(none:Option Arr)) inja).1 hy
    rw [h4] at hτ;cases hτ
   ·rename_i hy
    exact .inr ⟨Xx γ (fun x=>x) hx,Xx α (fun _=>(none:Option Arr)) hy,hτ⟩
 have L2':∀i A,ao.lookup i=some (some A)→σ3.ar.lookup (γ i)=some (some A):=fun i A hi=>by
  rw [ar3,X3,(X2 γ (fun x=>x) injo).2 ⟨i,some A,hi,rfl,rfl⟩]
 have L2'':∀τ A,σ.ar.lookup τ=some A→σ3.ar.lookup τ=some none∨(σ3.ar.lookup τ=some A∧∀i A,ar.lookup i=some A→τ≠α i):=fun τ A hA=>by
  rw [ar3,X3]
  split
  ·rename_i x hx
   obtain ⟨i,y,h1,h3,rfl⟩:=(X2 γ (fun x=>x) injo).1 hx
   obtain ⟨B,rfl⟩:=hao i _ h1
   exact absurd h3.symm (nog i B τ A h1 hA)
  ·rw [X3]
   split
   ·rename_i y hy
    obtain ⟨i,z,h1,h3,rfl⟩:=(X2 α (fun _=>(none:Option Arr)) inja).1 hy
    exact .inl rfl
   ·rename_i hy
    exact .inr ⟨hA,Xx α (fun _=>(none:Option Arr)) hy⟩
 have nga:∀τ A,σ.ar.lookup τ=some A→∀i B,ao.lookup i=some (some B)→γ i≠τ:=fun τ A hA i B hi=>nog i B τ A hi hA
 have gN:∀b,Zdg e α β bx ar b→b<w.heap.size∧N b:=by
  rintro b (⟨i,cs,h1,rfl⟩| ⟨i,A,h1,h3⟩)
  ·obtain ⟨_,ds,h3,_⟩:=g.b1 i cs h1
   exact h.ZL (κ:=.b (β i)) ⟨ds,h3⟩ _ (by simp [blk])
  ·obtain ⟨_,h5,B,h4⟩:=g.got h1 h3
   exact h.ZL (κ:=.a (α i)) ⟨B,h4⟩ b ((h.ar _ B h4).own h5).1
 have N1:∀b,(w.heap.size≤b∨Zdg e α β bx ar b)→N b:=fun b hb=>hb.elim (fun hb=>h.tn b (h.fr.new b (Nat.le_trans h.fr.size hb))) fun hb=>(gN b hb).2
 have tG:∀b,Zht e α β bx ar b→Mut e σ b∧w0.tch b:=by
  rintro b (⟨i,cs,h1,rfl⟩| ⟨i,A,h1,h3⟩)
  ·obtain ⟨_,ds,h3,_⟩:=g.b1 i cs h1
   exact ⟨.inr (.inl ⟨_,ds,h3,rfl⟩),h.tp (.b (β i)) _ ⟨ds,h3⟩ rfl⟩
  ·obtain ⟨_,h5,B,h4⟩:=g.got h1 h3
   exact ⟨.inr (.inr ⟨_,B,h4,h5⟩),h.tp (.a (α i)) b ⟨B,h4⟩ (.inl h5)⟩
 have T1:∀b,(bsG e σ w α β bx ar).tch b→w0.tch b:=fun b hb=>hb.elim (fun hb=>h.fr.new b (Nat.le_trans h.fr.size hb)) fun hb=>(tG b hb).2
 have same:∀b,b<w.heap.size→¬Zht e α β bx ar b→w'.heap[b]? =w.heap[b]? :=fun b hb ht=>h2.fr.block b hb fun hm=>hm.elim (fun hm=>absurd (show w.heap.size≤b from hm) (by omega)) ht
 have apart:∀κ,live σ κ→(∀i cs,bx.lookup i=some cs→κ≠.b (β i))→(∀i A,ar.lookup i=some A→κ≠.a (α i))→∀b∈blk e κ,¬Zdg e α β bx ar b∧¬Zht e α β bx ar b:=by
  intro κ hk n1 n2 b hb
  have k1:¬Zdg e α β bx ar b:=by
   rintro (⟨i,cs,h1,rfl⟩| ⟨i,A,h1,h3⟩)
   ·obtain ⟨_,ds,h3,_⟩:=g.b1 i cs h1
    exact h.sep κ (.b (β i)) hk ⟨ds,h3⟩ (n1 i cs h1) _ hb (by simp [blk])
   ·obtain ⟨_,h5,B,h4⟩:=g.got h1 h3
    exact h.sep κ (.a (α i)) hk ⟨B,h4⟩ (n2 i A h1) b hb ((h.ar _ B h4).own h5).1
  exact ⟨k1,k1⟩
 have bxo:∀k,(∀i cs',bo.lookup i=some cs'→k≠β i)→∀i cs,bx.lookup i=some cs→Key.b k≠.b (β i):=fun k hk i cs hi he=>by
  obtain ⟨cs',h3⟩:=g.c2 i cs hi
  injection he with he
  exact hk i cs' h3 he
 have M:∀b,Mut e3 σ3 b→Mut e2 ⟨n,[],bo,ao⟩ b:=by
  intro b hm
  have old:Mut e σ b→¬Zdg e α β bx ar b→Mut e2 ⟨n,[],bo,ao⟩ b:=fun k1 k2=>.inl (h2.bad.1 b ⟨k1,k2⟩)
  rcases hm with h0| ⟨k,cs,k1,k2⟩| ⟨τ,B,k1,k2⟩
  ·refine old (.inl h0) ?_
   rintro (⟨i,cs,q1,rfl⟩| ⟨i,A,q1,q3⟩)
   ·obtain ⟨_,ds,q3,_⟩:=g.b1 i cs q1
    exact (h.bad.2 _ h0).2 (.b (β i)) ⟨ds,q3⟩ (by simp [blk])
   ·obtain ⟨q5,q6,B,q4⟩:=g.got q1 q3
    have:1000000≤α i:=(h.bad.2 b h0).2 (.a (α i)) ⟨B,q4⟩ ((h.ar _ B q4).own q6).1
    omega
  ·rcases L1 k cs k1 with ⟨i,cs',q1,rfl,_⟩| ⟨q1,q2⟩
   ·rw [hβ i cs' q1] at k2
    exact .inr (.inl ⟨i,cs',q1,k2⟩)
   ·rw [hβ' k fun i cs' hi he=>q1 i cs' hi he.symm] at k2
    exact old (.inr (.inl ⟨k,cs,q2,k2⟩)) (apart (.b k) ⟨cs,q2⟩ (bxo k q1) (fun i A _ he=>by cases he) b (by simp [blk,k2])).1
  ·rcases L2 τ B k1 with ⟨i,q1,rfl⟩| ⟨q1,q2,q3⟩
   ·rw [(hγ i B q1).1] at k2
    exact .inr (.inr ⟨i,B,q1,k2⟩)
   ·rw [(hγ' τ (nga τ _ q3)).1] at k2
    exact old (.inr (.inr ⟨τ,B,q3,k2⟩)) (apart (.a τ) ⟨B,q3⟩ (fun i cs _ he=>by cases he) (fun i A hi he=>by injection he with he;exact q2 i A hi he) b ((h.ar τ B q3).own k2).1).1
 have C:∀c v,c.rel e2 ⟨n,[],bo,ao⟩ w' v→clO bo ao c→(rnC γ β c).rel e3 σ3 w' v:=by
  intro c v hr hc
  cases c<;>simp only [clO] at hc<;>try exact hc.elim
  ·obtain ⟨F,k1,k2⟩:=hr
   exact ⟨F,k1,fun b hb hm=>k2 b hb (M b hm)⟩
  ·exact hr
  ·rename_i i m
   obtain ⟨A,hA⟩:=hc
   obtain ⟨A2,k1,k2,k3⟩:=hr
   have k1':ao.lookup i=some A2:=k1
   rw [hA] at k1'
   obtain rfl:=Option.some.inj k1'
   exact ⟨some A,L2' i A hA,fun B hB=>by rw [(hγ i A hA).1];exact k2 B hB,k3⟩
  ·rename_i i o
   obtain ⟨cs,hcs⟩:=Option.isSome_iff_exists.1 hc
   refine ⟨⟨_,L1' i cs hcs⟩, ?_⟩
   rw [hβ i cs hcs];exact hr.2
  ·obtain ⟨b,off,vs,F,k1,k2,k3,k4,k5,k6⟩:=hr
   exact ⟨b,off,vs,F,k1,k2,k3,k4,fun hm=>k5 (M b hm),fun x hx hm=>k6 x hx (M x hm)⟩
  ·exact hr
  ·obtain ⟨_,F,k1,k2⟩:=hr
   exact ⟨F,k1,fun b hb hm=>k2 b hb (M b hm)⟩
  ·exact hr
 have CL:∀(cs:List CV) (vs:List Value),Am.ZK e2 ⟨n,[],bo,ao⟩ w' cs vs→(∀c∈cs,clO bo ao c)→Am.ZK e3 σ3 w' (cs.map (rnC γ β)) vs:=by
  intro cs
  induction cs with
  | nil=>intro vs hr _;exact hr
  | cons c cs ih=>
   intro vs hr hc
   simp only [Am.ZK,List.map_cons] at hr ⊢
   obtain ⟨v,vs',k0,k1,k2⟩:=hr
   exact ⟨v,vs',k0,C c v k1 (hc c (by simp)),ih vs' k2 fun x hx=>hc x (by simp [hx])⟩
 have CP:∀(ps:List (Bool×List CV)) (vs:List Value),ZT e2 ⟨n,[],bo,ao⟩ w' ps vs→(∀p∈ps,∀c∈p.2,clO bo ao c)→ZT e3 σ3 w' (ps.map fun p=>(p.1,p.2.map (rnC γ β))) vs:=by
  intro ps
  induction ps with
  | nil=>intro vs hr _;exact hr
  | cons p ps ih=>
   intro vs hr hc
   obtain ⟨b,cs⟩:=p
   simp only [ZT,List.map_cons] at hr ⊢
   obtain ⟨v,vs',k0,k1,k2⟩:=hr
   refine ⟨v,vs',k0, ?_,ih vs' k2 fun x hx=>hc x (by simp [hx])⟩
   cases b
   ·obtain ⟨c,rfl,k3⟩:=k1
    exact ⟨rnC γ β c,rfl,C c v k3 (hc (false,[c]) (by simp) c (by simp))⟩
   ·obtain ⟨us,rfl,k3⟩:=k1
    exact ⟨us,rfl,CL cs us k3 (hc (true,cs) (by simp))⟩
 have CR:r.rel e2 ⟨n,[],bo,ao⟩ w' u→Zi3 bo ao r→(rnV γ β r).rel e3 σ3 w' u:=by
  intro hr hc
  cases r with
  | one c=>exact C c u hr hc
  | agg cs=>
   obtain ⟨us,hu,hr⟩:=hr
   exact ⟨us,hu,CL cs us hr hc⟩
  | tup ps=>
   obtain ⟨us,hu,hr⟩:=hr
   exact ⟨us,hu,CP ps us hr hc⟩
  | dead=>exact hr
 rw [←hσ3]
 have nt3:σ3.nt=σ.nt:=by rw [hσ3];rfl
 have tm3:σ3.tm=gT γ β dst r++σ.tm:=by rw [hσ3];rfl
 have pin2:∀i cs,bo.lookup i=some cs→∀cs0,bx.lookup i=some cs0→e2.β i=e.β (β i):=fun i cs hi cs0 h0=>h2.pn i cs hi (g.b1 i cs0 h0).1
 have bold:∀i cs,bo.lookup i=some cs→∀ds,σ.bx.lookup (β i)=some ds→e3.β (β i)=e.β (β i):=fun i cs hi ds hds=>by
  rw [hβ i cs hi]
  rcases g.c1 i cs hi with ⟨cs',h3⟩| ⟨_,h3,_⟩
  ·exact pin2 i cs hi cs' h3
  ·rw [h3] at hds;cases hds
 have mt:∀b,b<w.heap.size→Mut e3 σ3 b→Mut e σ b:=by
  intro b hb hm
  have tt:(bsG e σ w α β bx ar).tch b→Mut e σ b:=fun k=>k.elim (fun k=>absurd (show w.heap.size≤b from k) (by omega)) fun k=>(tG b k).1
  rcases hm with h0| ⟨k,cs,k1,k2⟩| ⟨τ,B,k1,k2⟩
  ·exact .inl h0
  ·rcases L1 k cs k1 with ⟨i,cs',q1,rfl,_⟩| ⟨q1,q2⟩
   ·rw [hβ i cs' q1] at k2
    exact tt (h2.tp (.b i) b ⟨cs',q1⟩ k2.symm)
   ·rw [hβ' k fun i cs' hi he=>q1 i cs' hi he.symm] at k2
    exact .inr (.inl ⟨k,cs,q2,k2⟩)
  ·rcases L2 τ B k1 with ⟨i,q1,rfl⟩| ⟨q1,q2,q3⟩
   ·rw [(hγ i B q1).1] at k2
    exact tt (h2.tp (.a i) b ⟨B,q1⟩ (.inl k2))
   ·rw [(hγ' τ (nga τ _ q3)).1] at k2
    exact .inr (.inr ⟨τ,B,q3,k2⟩)
 have up:Up e σ w e3 σ3 w':=by
  refine ⟨h2.fr.size,fun b hb hm=>same b hb fun k=>hm (tG b k).1,mt,fun k cs hk=>⟨L1'' k cs hk, ?_⟩,fun τ A hA=> ?_,fun τ hτ ⟨B,hB⟩ _=> ?_⟩
  ·by_cases hx:∃i cs',bo.lookup i=some cs'∧β i=k
   ·obtain ⟨i,cs',h3,rfl⟩:=hx
    exact bold i cs' h3 cs hk
   ·exact hβ' k fun i cs' hi he=>hx ⟨i,cs',hi,he⟩
  ·rcases L2'' τ A hA with k| ⟨k,_⟩
   ·exact ⟨none,k,fun _ hx=>by cases hx⟩
   ·exact ⟨A,k,fun B' hB=>⟨B',hB,Nat.le_refl _,fun _=>(hγ' τ (nga τ A hA)).1⟩⟩
  ·refine ⟨(hγ' τ (nga τ _ hB)).1,fun b hb=>same b ?_ ?_⟩
   ·exact (h.ZL (κ:=.a τ) ⟨B,hB⟩ b ((h.ar τ B hB).own hb).1).1
   ·exact (apart (.a τ) ⟨B,hB⟩ (fun i cs _ he=>by cases he) (fun i A hi he=>by
    injection he with he
    rcases (g.a1 i A hi).2 with ⟨hx,_⟩| ⟨_,_,hx| hx⟩
    ·omega
    ·rw [←he,hB] at hx;cases hx
    ·rw [←he,hB] at hx;cases hx) b ((h.ar τ B hB).own hb).1).2
 have oa:∀τ A,σ.ar.lookup τ=some (some A)→(∀i A,ar.lookup i=some A→τ≠α i)→∀b∈e.φ τ,w'.heap[b]? =w.heap[b]? :=fun τ A hA hn b hb=>
  same b (h.ZL (κ:=.a τ) ⟨A,hA⟩ b hb).1 (apart (.a τ) ⟨A,hA⟩ (fun i cs _ he=>by cases he) (fun i B hi he=>by injection he with he;exact hn i B hi he) b hb).2
 refine ⟨e3,h.ZdF up (fun κ=>match κ with | .b k=>∃i cs,bo.lookup i=some cs∧k=β i| .a τ=>∃i A,ao.lookup i=some (some A)∧τ=γ i) (by rw [Z5,nt3];exact h.nt) (by rw [ZI];exact h.df)
  (fun t v ht=> ?_) (fun k cs hk hK=> ?_) (fun τ A hA hK=> ?_) (fun k cs hk hK=> ?_) (fun τ A hA hK=> ?_) (fun κ hl hK b hb=> ?_) (fun κ κ' hl hl' hne hK hK'=> ?_) ?_ (fun _ h=>h) (fun b hb=>.inl hb) (fun κ hl hK hd=> ?_) (fun k cs hk hK hle=> ?_) (fun κ b hl hK hb=> ?_) nt3⟩
 ·rw [tm3] at ht
  cases dst with
  | none=>exact .inl ⟨by simpa [gT] using ht,rfl⟩
  | some d=>exact WT (by rw [h.nt];exact hd d rfl) (CR hz hrc) t v ht
 ·rcases L1 k cs hk with ⟨i,cs',q1,q2,_⟩| ⟨q1,q2⟩
  ·exact absurd ⟨i,cs',q1,q2⟩ hK
  ·refine ⟨q2,same _ (h.ZL (κ:=.b k) ⟨cs,q2⟩ _ (by simp [blk])).1 ?_⟩
   exact (apart (.b k) ⟨cs,q2⟩ (bxo k q1) (fun i A _ he=>by cases he) _ (by simp [blk])).2
 ·rcases L2 τ A hA with ⟨i,q1,q2⟩| ⟨q1,q2,q3⟩
  ·exact absurd ⟨i,A,q1,q2⟩ hK
  ·exact ⟨q3,(hγ' τ (nga τ _ q3)).1,(hγ' τ (nga τ _ q3)).2,oa τ A q3 q2⟩
 ·obtain ⟨i,cs',q1,rfl⟩:=hK
  rw [L1' i cs' q1] at hk
  obtain rfl:=Option.some.inj hk
  rw [hβ i cs' q1]
  obtain ⟨k1,cur,ty,k2,k3⟩:=h2.bx i cs' q1
  exact ⟨N1 _ k1,cur,ty,k2,CL _ _ k3 (g.e2 i cs' q1)⟩
 ·obtain ⟨i,A',q1,rfl⟩:=hK
  rw [L2' i A' q1] at hA
  obtain rfl:=Option.some.inj (Option.some.inj hA)
  rw [(hγ i A' q1).1,(hγ i A' q1).2]
  have nin:∀b∈e2.φ i,N b:=fun b hb=>N1 b (h2.ZL (κ:=.a i) ⟨A',q1⟩ b hb).2
  obtain ⟨p,c,hv,hc,k| ⟨b,t,cur,Fs,W,q2,q3,q4,q5,q6,q7,q8,q9⟩⟩:=h2.ar i A' q1
  ·exact ⟨p,c,hv,hc,.inl k⟩
  ·refine ⟨p,c,hv,hc,.inr ⟨b,t,cur,Fs,W,q2,N1 b q3,q4,q5,q6,q7,q8, ?_⟩⟩
   rcases q9 with ⟨g1,g2,g3,g4⟩| ⟨g1,g2,g3,g4⟩
   ·exact .inl ⟨g1,g2,g3,g4.within fun x hx=>nin x (by rw [g2];exact List.mem_cons_of_mem _ hx)⟩
   ·exact .inr ⟨g1,g2,g3,fun x hx hm=>g4 x hx (M x hm)⟩
 ·have hN:w.heap.size≤b∨Zdg e α β bx ar b:=by
   cases κ with
   | b k=>
    obtain ⟨i,cs',q1,rfl⟩:=hK
    refine (h2.ZL (κ:=.b i) ⟨cs',q1⟩ b ?_).2
    simp only [blk,hβ i cs' q1] at hb ⊢;exact hb
   | a τ=>
    obtain ⟨i,A,q1,rfl⟩:=hK
    refine (h2.ZL (κ:=.a i) ⟨A,q1⟩ b ?_).2
    simp only [blk,(hγ i A q1).2] at hb ⊢;exact hb
  rcases hN with k| ⟨i,cs,k1,k2⟩| ⟨i,A,k1,k2⟩
  ·exact .inr (.inr k)
  ·obtain ⟨_,ds,h3,_⟩:=g.b1 i cs k1
   obtain ⟨cs',h4⟩:=g.c2 i cs k1
   exact .inr (.inl ⟨.b (β i),.inr ⟨i,cs',h4,rfl⟩,⟨ds,h3⟩,by simp [blk,k2],fun h=>h.elim⟩)
  ·obtain ⟨k3,k4,B,h3⟩:=g.got k1 k2
   refine .inr (.inl ⟨.a (α i),.inl ?_,⟨B,h3⟩,((h.ar _ B h3).own k4).1,fun h=>absurd (show 1000000≤α i from h) (by omega)⟩)
   rintro ⟨C',hC⟩
   rcases L2'' (α i) _ h3 with k| ⟨_,k⟩
   ·rw [k] at hC;cases hC
   ·exact k i A k1 rfl
 ·have back:∀κ,(match κ with | .b k=>∃i cs,bo.lookup i=some cs∧k=β i| .a τ=>∃i A,ao.lookup i=some (some A)∧τ=γ i)→∃κ2,live ⟨n,[],bo,ao⟩ κ2∧blk e3 κ=blk e2 κ2∧((∃i,κ2= .b i∧κ= .b (β i))∨∃i,κ2= .a i∧κ= .a (γ i)):=by
   intro κ hK
   cases κ with
   | b k=>
    obtain ⟨i,cs',q1,rfl⟩:=hK
    exact ⟨.b i,⟨cs',q1⟩,by simp only [blk,hβ i cs' q1],.inl ⟨i,rfl,rfl⟩⟩
   | a τ=>
    obtain ⟨i,A,q1,rfl⟩:=hK
    exact ⟨.a i,⟨A,q1⟩,(hγ i A q1).2,.inr ⟨i,rfl,rfl⟩⟩
  obtain ⟨κ2,l1,l2,l3⟩:=back κ hK
  obtain ⟨κ3,m1,m2,m3⟩:=back κ' hK'
  rw [l2,m2]
  refine h2.sep κ2 κ3 l1 m1 fun he=>hne ?_
  subst he
  rcases l3 with ⟨i,rfl,rfl⟩| ⟨i,rfl,rfl⟩<;>rcases m3 with ⟨j,hj,rfl⟩| ⟨j,hj,rfl⟩<;>first | (cases hj;done)| (cases hj;rfl)
 ·exact ⟨h.fr.gl,h2.fr.os.trans h.fr.os,h2.fr.tape.trans h.fr.tape,h2.fr.output.trans h.fr.output,Nat.le_trans h.fr.size h2.fr.size,fun b hb hn=>(h2.fr.block b (Nat.lt_of_lt_of_le hb h.fr.size) fun k=>hn (T1 b k)).trans (h.fr.block b hb hn),h.fr.new⟩
 ·cases κ with
  | b k=>exact hd.elim
  | a τ=>
   obtain ⟨i,A,q1,rfl⟩:=hK
   have:1000000≤γ i:=hd
   have:=(g.d1 i A q1).2.1
   omega
 ·obtain ⟨i,cs',q1,rfl⟩:=hK
  rcases g.c1 i cs' q1 with ⟨cs0,h3⟩| ⟨_,_,h3⟩
  ·obtain ⟨_,ds,h4,_⟩:=g.b1 i cs0 h3
   rw [bold i cs' q1 ds h4]
   exact h.pn (β i) ds h4 (nt3▸hle)
  ·rw [nt3] at hle;omega
 ·cases κ with
  | b k=>
   obtain ⟨i,cs',q1,rfl⟩:=hK
   refine T1 b (h2.tp (.b i) b ⟨cs',q1⟩ ?_)
   simp only [tpB,hβ i cs' q1] at hb ⊢;exact hb
  | a τ=>
   obtain ⟨i,A,q1,rfl⟩:=hK
   refine T1 b (h2.tp (.a i) b ⟨A,q1⟩ ?_)
   rcases hb with hb| ⟨hb,_⟩
   ·exact .inl (by rw [←(hγ i A q1).1];exact hb)
   ·have:=(g.d1 i A q1).2.1;omega
theorem GM.le {σ':St} (g:GM σ n α β γ bx ar bo ao) {dst:Option Nat} {r:V} (k:LeB σ σ' (Kj α β γ dst r bo ao ar)) (hao:∀i A,ao.lookup i=some A→∃B,A=some B):GM σ' n α β γ bx ar bo ao:=by
 have mem:∀{B:Type} {l:List (Nat×B)} {i:Nat} {x:B},l.lookup i=some x→(i,x)∈l:=by
  intro B l i x hx
  induction l with
  | nil=>simp at hx
  | cons p l ih=>
   obtain ⟨j,y⟩:=p
   rw [lookup_cons] at hx
   split at hx
   ·rename_i hij;subst hij;rw [Option.some.inj hx];simp
   ·exact List.mem_cons_of_mem _ (ih hx)
 refine ⟨fun i cs hi=> ?_,g.b2,fun i A hA=> ?_,g.a2,fun i cs hi=> ?_,g.c2,fun i A hA=> ?_,g.d2,g.e1,g.e2⟩
 ·obtain ⟨h1,ds,h2,h3⟩:=g.b1 i cs hi
  exact ⟨h1,ds,k.bx _ _ h2,h3⟩
 ·obtain ⟨h1,h2⟩:=g.a1 i A hA
  refine ⟨h1, ?_⟩
  rcases h2 with ⟨h2,B,h3,h4⟩| ⟨h2,h3,h4⟩
  ·exact .inl ⟨h2,B,h3,k.ar _ _ h4⟩
  ·refine .inr ⟨h2,h3, ?_⟩
   rcases h4 with h4| h4
   ·exact .inl (k.fa (α i,none) (List.mem_append_right _ (List.mem_map_of_mem (f:=fun p=>(α p.1,(none:Option Arr))) (mem hA))) h4)
   ·exact .inr (k.ar _ _ h4)
 ·rcases g.c1 i cs hi with h1| ⟨h1,h2,h3⟩
  ·exact .inl h1
  ·exact .inr ⟨h1,k.fb (β i,cs.map (rnC γ β)) (List.mem_map_of_mem (f:=fun p=>(β p.1,p.2.map (rnC γ β))) (mem hi)) h2,k.nt▸h3⟩
 ·obtain ⟨h1,h2,h3⟩:=g.d1 i A hA
  exact ⟨h1,h2,k.fa (γ i,some A) (List.mem_append_left _ (List.mem_map_of_mem (f:=fun p=>(γ p.1,p.2)) (mem hA))) h3⟩
theorem GC.call {f:Nat} {vs0 vs:List V} {r:V} (c:GC P f n vs0 bx ar r bo ao) (g:GM σ n α β γ bx ar bo ao) (hm:Zfg α β vs0 vs) (hcl:∀v∈vs0,clV bx ar v) (hrc:Zi3 bo ao r) (hao:∀i A,ao.lookup i=some A→∃B,A=some B) {dst:Option Nat} (hd:∀d,dst=some d→d<σ.nt):
  ZeO P σ dst f vs (Kj α β γ dst r bo ao ar):=by
 refine ⟨c.1,fun p hp=> ?_,fun σ' k N w0 e a w us h hl hv=> ?_⟩
 ·cases dst with
  | none=>simp [Kj,gT] at hp
  | some d=>simp [Kj,gT] at hp;rw [hp]
 ·have g':=g.le k hao
  have hlen:=(Zaj hm).1
  have hs:=g'.enter h hl hv hm hcl c.2.1
  refine (c.2.2 _ _ _ us w (by omega) (g'.bok h) hs).mono fun ex w' hR=> ?_
  obtain ⟨e2,u,k1,k2,k3⟩:=hR
  obtain ⟨e3,k4⟩:=g'.ZjR h k3 k2 hrc hao (dst:=dst) (fun d hd'=>k.nt▸hd d hd')
  exact ⟨u,e3,k1,k4⟩
end
def toP:V→Option (Bool×List CV)
 | .one c=>some (false,[c])
 | .agg cs=>some (true,cs)
 | _=>none
def Ze1:List V→Option (List (Bool×List CV))
 | []=>some []
 | v::vs=>match toP v,Ze1 vs with
  | some p,some ps=>some (p::ps)
  | _,_=>none
def ZfV:List V→Option V
 | [v]=>some v
 | vs=>(Ze1 vs).map .tup
def Zhq (σ' σ:St):Prop:=Zhu σ' σ σ'.tm∧Zhx σ' σ σ'.bx∧Zhz σ σ'.ar
def ZgK (n:Nat) (r:V) (bo:List (Nat×List CV)) (ao:List (Nat×Option Arr)) (σ:St):Option V→Prop
 | some x=>0<n∧n=σ.nt∧Zhq ⟨n,[(0,r)],bo,ao⟩ ⟨n,(0,x)::σ.tm,σ.bx,σ.ar⟩
 | none=>False
def ZgL (P:Program) (rv:Array ResultVar) (n:Nat) (r:V) (bo:List (Nat×List CV)) (ao:List (Nat×Option Arr)) (σ:St):Prop:=ZgK n r bo ao σ ((V6 P σ rv.toList).bind ZfV)
def Zha (P:Program) (rv:Array ResultVar) (n:Nat) (r:V) (bo:List (Nat×List CV)) (ao:List (Nat×Option Arr)):Exit→St→Prop
 | .normal,σ=>ZgL P rv n r bo ao σ
 | .ret,σ=>ZgL P rv n r bo ao σ
 | _,_=>False
section
variable {e:Env} {σ:St} {w:World} {N:Nat→Prop} {w0:Bs} {a:Act} {P:Program}
theorem Zcg:∀{vs:List V} {us:List Value} {ps:List (Bool×List CV)},Xw e σ w vs us→Ze1 vs=some ps→ZT e σ w ps us
 | [],us,ps,h,hp=>by
  simp only [Ze1,Option.some.injEq] at hp
  subst hp
  simpa [Xw,ZT] using h
 | v::vs,us,ps,h,hp=>by
  simp only [Xw] at h
  obtain ⟨u,us',rfl,h1,h2⟩:=h
  simp only [Ze1] at hp
  split at hp
  ·rename_i p qs hq hqs
   obtain rfl:=Option.some.inj hp
   have ih:=Zcg h2 hqs
   refine ⟨u,us',rfl, ?_,ih⟩
   cases v<;>simp [toP] at hq<;>subst hq
   ·exact ⟨_,rfl,h1⟩
   ·exact h1
  ·cases hp
theorem Ze6 {vs:List V} {us:List Value} {x:V} (h:Xw e σ w vs us) (hx:ZfV vs=some x):x.rel e σ w (Zbp us):=by
 have gen:∀ps,Ze1 vs=some ps→us.length=vs.length→vs.length≠1→(V.tup ps).rel e σ w (Zbp us):=by
  intro ps hps hl h1
  refine ⟨us, ?_,Zcg h hps⟩
  match us,hl with
  | [],_=>rfl
  | [_],hl=>exact absurd hl.symm h1
  | _::_::_,_=>rfl
 have len:∀{vs:List V} {us:List Value},Xw e σ w vs us→us.length=vs.length:=by
  intro vs
  induction vs with
  | nil=>intro us h;simp only [Xw] at h;simp [h]
  | cons v vs ih=>intro us h;simp only [Xw] at h;obtain ⟨u,us',rfl,_,h2⟩:=h;simp [ih h2]
 match vs,h,hx,gen with
 | [],h,hx,gen=>
  simp only [ZfV,Ze1,Option.map_some,Option.some.injEq] at hx
  subst hx
  exact gen [] rfl (len h) (by simp)
 | [v],h,hx,gen=>
  simp only [ZfV,Option.some.injEq] at hx
  subst hx
  simp only [Xw] at h
  obtain ⟨u,us',rfl,h1,rfl⟩:=h
  exact h1
 | v::v2::vs,h,hx,gen=>
  simp only [ZfV] at hx
  obtain ⟨ps,h1,rfl⟩:=Option.map_eq_some_iff.1 hx
  exact gen ps h1 (len h) (by simp)
theorem GC.Xq {f:Nat} {fn:Func} {c:Code} {nt:Nat} {rv:Array ResultVar} (hok:Qq P f=true) (hf:P.funcs[f]? =some fn) (hb:fn.body=some c) (hnt:fn.ntmps=nt) (hrv:fn.results=rv) {vs:List V} {bx bo:List (Nat×List CV)} {ar ao:List (Nat×Option Arr)} {r:V} (hvs:vs.length≤nt)
  (h:∀N w0,Bok N w0→AW P N w0 c (Zha P rv nt r bo ao) ⟨nt,Wb 0 vs,bx,ar⟩):GC P f nt vs bx ar r bo ao:=by
 subst hnt hrv
 refine ⟨hok,hvs,fun N w0 e us w hl hbk hs=> ?_⟩
 refine calls_of_wp hf hb ?_
 refine Code.wp_mono (fun ex a' w' hq=> ?_) (h N w0 hbk _ _ ⟨e,hs⟩)
 obtain ⟨σ',h1,e',h2⟩:=hq
 have fin:ZgL P fn.results fn.ntmps r bo ao σ'→a'.defers=[]∧∃v,(results fn a'.tmps).run P w'= .ok v w'∧∃e2 u,Ending.returned v= .returned u∧r.rel e2 ⟨fn.ntmps,[],bo,ao⟩ w' u∧Zw N w0 e2 ⟨fn.ntmps,[],bo,ao⟩ (Zay fn.ntmps []) w':=by
  intro ho
  unfold ZgL ZgK at ho
  split at ho
  ·rename_i x hx
   obtain ⟨h0,hn,k1,k2,k3⟩:=ho
   obtain ⟨vs',hvs',hT⟩:=Option.bind_eq_some_iff.1 hx
   obtain ⟨zs,g1,g2⟩:=Q7 (P:=P) h2 hvs'
   have hp:=h2.put (d:=0) (by omega) (Ze6 g2 hT)
   have hp':Zw N w0 e' ⟨fn.ntmps,(0,x)::σ'.tm,σ'.bx,σ'.ar⟩ (a'.put (some 0) (Zbp zs)) w':=by rw [hn];exact hp
   obtain ⟨e3,hs3⟩:=(show Vu ⟨fn.ntmps,[(0,r)],bo,ao⟩ ⟨fn.ntmps,(0,x)::σ'.tm,σ'.bx,σ'.ar⟩ from ⟨rfl,k1,k2,k3⟩).into N w0 _ w' ⟨e',hp'⟩
   have u:=Zgp e3 ⟨fn.ntmps,[(0,r)],bo,ao⟩ w' [] fn.ntmps
   refine ⟨h2.df,_,g1,e3,_,rfl, ?_,by simp [Zay],rfl,fun t v ht=>by simp at ht,fun k cs hk=> ?_,fun τ A hA=>(hs3.ar τ A hA).up u (fun _ _=>rfl),hs3.sep,hs3.fr,hs3.bad,hs3.dk,hs3.pn,hs3.tn,hs3.tp⟩
   ·have q:=hs3.tm 0 r (by simp)
    rw [Vi a' 0 _ (by rw [h2.nt];omega)] at q
    exact q.up u
   ·obtain ⟨q1,cur,ty,q2,q3⟩:=hs3.bx k cs hk
    exact ⟨q1,cur,ty,q2,q3.up u⟩
  ·exact ho.elim
 cases ex with
 | normal=>exact fin h1
 | ret=>exact fin h1
 | _=>exact h1.elim
end
def Zax {A:Type} (p:A→Prop):List A→Prop
 | []=>True
 | x::xs=>p x∧Zax p xs
def ndP {B:Type} (f:Nat→Nat):List (Nat×B)→Prop
 | []=>True
 | x::xs=>Zax (fun y=>f x.1≠f y.1) xs∧ndP f xs
theorem YE {A:Type} {p:A→Prop}:∀{l:List A},Zax p l→∀x∈l,p x
 | [],_,x,h=>by cases h
 | y::l,h,x,hx=>by
  rcases List.mem_cons.1 hx with rfl| hx
  ·exact h.1
  ·exact YE h.2 x hx
theorem QW {B:Type}:∀{l:List (Nat×B)} {i:Nat} {x:B},l.lookup i=some x→(i,x)∈l
 | [],_,_,h=>by simp at h
 | (j,y)::l,i,x,h=>by
  rw [lookup_cons] at h
  split at h
  ·rename_i hij;subst hij;rw [Option.some.inj h];simp
  ·exact List.mem_cons_of_mem _ (QW h)
theorem Zai {B:Type} {f:Nat→Nat}:∀{l:List (Nat×B)},ndP f l→∀{i j:Nat} {x y:B},l.lookup i=some x→l.lookup j=some y→f i=f j→i=j
 | [],_,_,_,_,_,h,_,_=>by simp at h
 | (t,z)::l,h,i,j,x,y,hi,hj,he=>by
  rw [lookup_cons] at hi hj
  split at hi<;>split at hj
  ·rename_i h1 h2;rw [h1,h2]
  ·rename_i h1 h2;exact absurd (h1▸he) (YE h.1 _ (QW hj))
  ·rename_i h1 h2;exact absurd (h2▸he).symm (YE h.1 _ (QW hi))
  ·exact Zai h.2 hi hj he
def Vt (σ:St) (mv:List Nat):CV→Option (CV×List Nat×Prop)
 | .box k o=>some (.box k o,[],True)
 | .nil=>some (.nil,[],True)
 | .own τ n=>if τ∈mv then some (.own τ n,[],True) else (frC σ (.own τ n)).map fun r=>(.l r.1,r.2)
 | c=>(frC σ c).map fun r=>(.l r.1,r.2)
def Uv (σ:St) (mv:List Nat):List CV→Option (List CV×List Nat×Prop)
 | []=>some ([],[],True)
 | v::vs=>match Vt σ mv v,Uv σ mv vs with
  | some (x,t,p),some (xs,u,q)=>some (x::xs,t++u,p∧q)
  | _,_=>none
def Jb (σ:St) (mv:List Nat):V→Option (V×List Nat×Prop)
 | .one c=>(Vt σ mv c).map fun r=>(.one r.1,r.2)
 | .agg cs=>(Uv σ mv cs).map fun r=>(.agg r.1,r.2)
 | _=>none
def XZ (σ:St) (mv:List Nat):List V→Option (List V×List Nat×Prop)
 | []=>some ([],[],True)
 | v::vs=>match Jb σ mv v,XZ σ mv vs with
  | some (x,t,p),some (xs,u,q)=>some (x::xs,t++u,p∧q)
  | _,_=>none
def Zj7 (bx:List (Nat×List CV)) (ar:List (Nat×Option Arr)):V→Prop
 | .one c=>clC bx ar c
 | .agg cs=>Zax (clC bx ar) cs
 | _=>False
def ZfB (bo:List (Nat×List CV)) (ao:List (Nat×Option Arr)):V→Prop
 | .one c=>clO bo ao c
 | .agg cs=>Zax (clO bo ao) cs
 | .tup ps=>Zax (fun p=>Zax (clO bo ao) p.2) ps
 | .dead=>True
def bxO (α β:Nat→Nat) (cs:List CV):Option (List CV)→Prop
 | some ds=>mtL α β cs ds
 | none=>False
def arO (τ:Nat):Option Arr→Option (Option Arr)→Prop
 | some B,some (some C)=>τ<1000000∧B.fr=false∧B.es=C.es
 | some B,_=>2000000≤τ∧B.fr=false∧B.es=[]
 | _,_=>False
def dO (n:Nat):Option Nat→Prop
 | some d=>d<n
 | none=>True
def Zj0 (σ:St) (n:Nat) (α β γ:Nat→Nat) (dst:Option Nat) (vs0:List V) (bx:List (Nat×List CV)) (ar:List (Nat×Option Arr)) (r:V) (bo:List (Nat×List CV)) (ao:List (Nat×Option Arr)) (vs:List V):Prop:=
 Zax (fun p=>n≤p.1∧bxO α β p.2 (σ.bx.lookup (β p.1))∧(bo.lookup p.1).isSome=true∧Zax (clC bx ar) p.2) bx∧
 ndP β bo∧
 Zax (fun p=>p.1<1000000∧arO (α p.1) p.2 (σ.ar.lookup (α p.1))) ar∧
 ndP α ar∧
 Zax (fun p=>((bx.lookup p.1).isSome=true∨(p.1<n∧σ.bx.lookup (β p.1)=none∧β p.1<σ.nt))∧Zax (clO bo ao) p.2) bo∧
 Zax (fun p=>p.1<1000000∧γ p.1<1000000∧σ.ar.lookup (γ p.1)=none∧p.2.isSome=true) ao∧
 ndP γ ao∧Zfg α β vs0 vs∧Zax (Zj7 bx ar) vs0∧ZfB bo ao r∧dO σ.nt dst
def gcK (σ:St) (dst:Option Nat) (n:Nat) (α β γ:Nat→Nat) (vs0:List V) (bx:List (Nat×List CV)) (ar:List (Nat×Option Arr)) (r:V) (bo:List (Nat×List CV)) (ao:List (Nat×Option Arr)) (Z:Eff→Prop):Option (List V×List Nat×Prop)→Prop
 | some (vs',τs,p)=>p∧Zj0 (σ.frz τs) n α β γ dst vs0 bx ar r bo ao vs'∧Z ⟨True,gT γ β dst r,bo.map fun p=>(β p.1,p.2.map (rnC γ β)),((ao.map fun p=>(γ p.1,p.2))++ar.map fun p=>(α p.1,none))++τs.map fun τ=>(τ,none)⟩
 | none=>False
section
variable {e:Env} {σ σ':St} {w:World} {N:Nat→Prop} {w0:Bs} {a:Act} {P:Program}
variable {n:Nat} {α β γ:Nat→Nat} {bx bo:List (Nat×List CV)} {ar ao:List (Nat×Option Arr)}
theorem ZhG (τs:List Nat):Up e σ w e (σ.frz τs) w:=⟨Nat.le_refl _,fun _ _ _=>rfl,fun b _ hm=>JY hm,fun k cs hk=>⟨⟨cs,hk⟩,rfl⟩,fun τ A hA=>by
 rw [Vn]
 split
 ·exact ⟨none,rfl,fun B hB=>by cases hB⟩
 ·exact ⟨A,hA,fun B hB=>⟨B,hB,Nat.le_refl _,fun _=>rfl⟩⟩,fun τ _ _ _=>⟨rfl,fun _ _=>rfl⟩⟩
theorem ZaJ (h:Zw N w0 e σ a w) {mv:List Nat} {v v':CV} {u:Value} (hr:v.rel e σ w u) {ts:List Nat} {p:Prop} (ht:Vt σ mv v=some (v',ts,p)) (hp:p) {τs:List Nat} (hs:∀τ∈ts,τ∈τs):v'.rel e (σ.frz τs) w u:=by
 unfold Vt at ht
 split at ht
 ·simp only [Option.some.injEq,Prod.mk.injEq] at ht
  obtain ⟨rfl,rfl,rfl⟩:=ht
  exact hr
 ·simp only [Option.some.injEq,Prod.mk.injEq] at ht
  obtain ⟨rfl,rfl,rfl⟩:=ht
  exact hr
 ·split at ht
  ·simp only [Option.some.injEq,Prod.mk.injEq] at ht
   obtain ⟨rfl,rfl,rfl⟩:=ht
   exact hr.up (ZhG τs)
  ·obtain ⟨⟨x,t,q⟩,h1,h2⟩:=Option.map_eq_some_iff.1 ht
   simp only [Prod.mk.injEq] at h2
   obtain ⟨rfl,rfl,rfl⟩:=h2
   exact Zaq h hr h1 hp hs
 ·obtain ⟨⟨x,t,q⟩,h1,h2⟩:=Option.map_eq_some_iff.1 ht
  simp only [Prod.mk.injEq] at h2
  obtain ⟨rfl,rfl,rfl⟩:=h2
  exact Zaq h hr h1 hp hs
theorem ZaI (h:Zw N w0 e σ a w) {mv τs:List Nat}:∀{vs vs':List CV} {us:List Value},ZK e σ w vs us→∀{ts:List Nat} {p:Prop},Uv σ mv vs=some (vs',ts,p)→p→(∀τ∈ts,τ∈τs)→ZK e (σ.frz τs) w vs' us
 | [],vs',us,hr,ts,p,ht,hp,hs=>by
  simp only [Uv,Option.some.injEq,Prod.mk.injEq] at ht
  obtain ⟨rfl,rfl,rfl⟩:=ht
  exact hr
 | v::vs,vs',us,hr,ts,p,ht,hp,hs=>by
  simp only [Uv] at ht
  split at ht
  ·rename_i x t q xs u q' h1 h2
   simp only [Option.some.injEq,Prod.mk.injEq] at ht
   obtain ⟨rfl,rfl,rfl⟩:=ht
   simp only [ZK] at hr ⊢
   obtain ⟨v1,vs1,h0,k1,k2⟩:=hr
   exact ⟨v1,vs1,h0,ZaJ h k1 h1 hp.1 fun τ hτ=>hs τ (List.mem_append_left _ hτ),ZaI h k2 h2 hp.2 fun τ hτ=>hs τ (List.mem_append_right _ hτ)⟩
  ·cases ht
theorem ZdP (h:Zw N w0 e σ a w) {mv:List Nat} {v v':V} {u:Value} (hr:v.rel e σ w u) {ts:List Nat} {p:Prop} (ht:Jb σ mv v=some (v',ts,p)) (hp:p) {τs:List Nat} (hs:∀τ∈ts,τ∈τs):v'.rel e (σ.frz τs) w u:=by
 unfold Jb at ht
 split at ht
 ·obtain ⟨⟨x,t,q⟩,h1,h2⟩:=Option.map_eq_some_iff.1 ht
  simp only [Prod.mk.injEq] at h2
  obtain ⟨rfl,rfl,rfl⟩:=h2
  exact ZaJ h hr h1 hp hs
 ·obtain ⟨⟨x,t,q⟩,h1,h2⟩:=Option.map_eq_some_iff.1 ht
  simp only [Prod.mk.injEq] at h2
  obtain ⟨rfl,rfl,rfl⟩:=h2
  obtain ⟨us,hu,hr⟩:=hr
  exact ⟨us,hu,ZaI h hr h1 hp hs⟩
 ·cases ht
theorem Zij (σ:St) (tm:List (Nat×V)) (c:CV):frC ⟨σ.nt,tm,σ.bx,σ.ar⟩ c=frC σ c:=by cases c<;>rfl
theorem Zce (σ:St) (mv:List Nat) (tm:List (Nat×V)) (c:CV):Vt ⟨σ.nt,tm,σ.bx,σ.ar⟩ mv c=Vt σ mv c:=by
 unfold Vt
 split<;>simp only [Zij]
theorem Zcc (σ:St) (mv:List Nat) (tm:List (Nat×V)):∀(cs:List CV),Uv ⟨σ.nt,tm,σ.bx,σ.ar⟩ mv cs=Uv σ mv cs
 | []=>rfl
 | c::cs=>by simp only [Uv,Zce,Zcc σ mv tm cs]
theorem ZeZ (σ:St) (mv:List Nat) (tm:List (Nat×V)) (v:V):Jb ⟨σ.nt,tm,σ.bx,σ.ar⟩ mv v=Jb σ mv v:=by
 unfold Jb
 split<;>simp only [Zce,Zcc]
theorem Zf4 (k:Le σ σ') {c:CV} {y:L×List Nat×Prop} (h1:frC σ c=some y):frC σ' c=some y:=by
 have q:=k.frV (c:=.one c) (r:=(.one y.1,y.2)) (by simp only [frV,h1];rfl)
 simp only [frV] at q
 obtain ⟨z,h3,h4⟩:=Option.map_eq_some_iff.1 q
 simp only [Prod.mk.injEq,DV.one.injEq] at h4
 rw [h3];exact congrArg some (Prod.ext h4.1 h4.2)
theorem Zcf (k:Le σ σ') {mv:List Nat} {v:CV} {x:CV×List Nat×Prop} (h:Vt σ mv v=some x):Vt σ' mv v=some x:=by
 unfold Vt at h ⊢
 split at h
 ·exact h
 ·exact h
 ·split at h
  ·rename_i hm;rw [if_pos hm];exact h
  ·rename_i hm;rw [if_neg hm]
   obtain ⟨y,h1,h2⟩:=Option.map_eq_some_iff.1 h
   rw [Zf4 k h1,←h2];rfl
 ·obtain ⟨y,h1,h2⟩:=Option.map_eq_some_iff.1 h
  rw [Zf4 k h1,←h2];rfl
theorem Zcd (k:Le σ σ') {mv:List Nat}:∀{vs:List CV} {x:List CV×List Nat×Prop},Uv σ mv vs=some x→Uv σ' mv vs=some x
 | [],_,h=>h
 | v::vs,x,h=>by
  simp only [Uv] at h ⊢
  split at h
  ·rename_i h1 h2
   rw [Zcf k h1,Zcd k h2];exact h
  ·cases h
theorem Ze0 (k:Le σ σ') {mv:List Nat} {v:V} {x:V×List Nat×Prop} (h:Jb σ mv v=some x):Jb σ' mv v=some x:=by
 unfold Jb at h ⊢
 split at h
 ·obtain ⟨y,h1,h2⟩:=Option.map_eq_some_iff.1 h
  rw [Zcf k h1,←h2];rfl
 ·obtain ⟨y,h1,h2⟩:=Option.map_eq_some_iff.1 h
  rw [Zcd k h1,←h2];rfl
 ·cases h
theorem Kp {mv:List Nat}:∀{vs vs':List V} {ts:List Nat} {p:Prop},XZ σ mv vs=some (vs',ts,p)→vs'.length=vs.length∧(p→∀(j:Nat) (v':V),vs'[j]? =some v'→∃v t q,vs[j]? =some v∧Jb σ mv v=some (v',t,q)∧q∧∀τ∈t,τ∈ts)
 | [],vs',ts,p,h=>by
  simp only [XZ,Option.some.injEq,Prod.mk.injEq] at h
  obtain ⟨rfl,rfl,rfl⟩:=h
  simp
 | v::vs,vs',ts,p,h=>by
  simp only [XZ] at h
  split at h
  ·rename_i x t q xs u q' h1 h2
   simp only [Option.some.injEq,Prod.mk.injEq] at h
   obtain ⟨rfl,rfl,rfl⟩:=h
   obtain ⟨k1,k2⟩:=Kp h2
   refine ⟨by simp [k1],fun hp j v' hj=> ?_⟩
   cases j with
   | zero=>simp at hj;subst hj;exact ⟨v,t,q,by simp,h1,hp.1,fun τ hτ=>List.mem_append_left _ hτ⟩
   | succ j=>
    obtain ⟨v2,t2,q2,g1,g2,g3,g4⟩:=k2 hp.2 j v' (by simpa using hj)
    exact ⟨v2,t2,q2,by simpa using g1,g2,g3,fun τ hτ=>List.mem_append_right _ (g4 τ hτ)⟩
  ·cases h
theorem ZfF {f:Nat} {dst:Option Nat} {vs0 vs:List V} {r:V} {Z:Eff→Prop} (mv:List Nat) (α β γ:Nat→Nat) (c:GC P f n vs0 bx ar r bo ao) (hx:gcK σ dst n α β γ vs0 bx ar r bo ao Z (XZ σ mv vs)):XBy P σ dst f (some vs) Z:=by
 unfold gcK at hx
 split at hx
 ·rename_i vs' τs p ht
  obtain ⟨hp,⟨o1,o2,o3,o4,o5,o6,o7,o8,o9,o10,o11⟩,hz⟩:=hx
  have g:GM (σ.frz τs) n α β γ bx ar bo ao:=by
   refine ⟨fun i cs hi=> ?_,fun i cs j ds hi hj=>Zai o2 hi hj,fun i A hA=> ?_,fun i A j B hi hj=>Zai o4 hi hj,fun i cs hi=> ?_,fun i cs hi=> ?_,fun i A hA=> ?_,fun i A j B hi hj=>Zai o7 hi hj,fun i cs hi c hc=> ?_,fun i cs hi c hc=> ?_⟩
   ·obtain ⟨h1,h2,_⟩:=YE o1 _ (QW hi)
    unfold bxO at h2
    split at h2
    ·rename_i ds hds;exact ⟨h1,ds,hds,h2⟩
    ·exact h2.elim
   ·obtain ⟨h1,h3⟩:=YE o3 _ (QW hA)
    refine ⟨h1, ?_⟩
    simp only at h3
    cases A with
    | none=>simp [arO] at h3
    | some B=>
     cases hC:(σ.frz τs).ar.lookup (α i) with
     | none=>rw [hC] at h3;exact .inr ⟨h3.1,by obtain ⟨f,es⟩:=B;obtain ⟨_,h4,h5⟩:=h3;simp only at h4 h5;rw [h4,h5],.inl rfl⟩
     | some C=>
      cases C with
      | none=>rw [hC] at h3;exact .inr ⟨h3.1,by obtain ⟨f,es⟩:=B;obtain ⟨_,h4,h5⟩:=h3;simp only at h4 h5;rw [h4,h5],.inr rfl⟩
      | some C=>rw [hC] at h3;exact .inl ⟨h3.1,C,⟨B,rfl,h3.2.1,h3.2.2⟩,rfl⟩
   ·rcases (YE o5 _ (QW hi)).1 with h1| h1
    ·exact .inl (Option.isSome_iff_exists.1 h1)
    ·exact .inr h1
   ·exact Option.isSome_iff_exists.1 (YE o1 _ (QW hi)).2.2.1
   ·obtain ⟨h1,h2,h3,_⟩:=YE o6 _ (QW hA)
    exact ⟨h1,h2,h3⟩
   ·exact YE (YE o1 _ (QW hi)).2.2.2 c hc
   ·exact YE (YE o5 _ (QW hi)).2 c hc
  have hcl:∀v∈vs0,clV bx ar v:=fun v hv=>by
   have:=YE o9 v hv
   cases v with
   | one c=>exact this
   | agg cs=>exact fun c hc=>YE this c hc
   | _=>exact this.elim
  have hrc:Zi3 bo ao r:=by
   cases r with
   | one c=>exact o10
   | agg cs=>exact fun c hc=>YE o10 c hc
   | tup ps=>exact fun p hp c hc=>YE (YE o10 p hp) c hc
   | dead=>trivial
  have hao:∀i A,ao.lookup i=some A→∃B,A=some B:=fun i A hA=>Option.isSome_iff_exists.1 (YE o6 _ (QW hA)).2.2.2
  have hd:∀d,dst=some d→d<(σ.frz τs).nt:=fun d hd=>by subst hd;exact o11
  have H:=c.call g o8 hcl hrc hao hd
  refine ⟨vs,⟨True,gT γ β dst r,bo.map fun p=>(β p.1,p.2.map (rnC γ β)),((ao.map fun p=>(γ p.1,p.2))++ar.map fun p=>(α p.1,none))++τs.map fun τ=>(τ,none)⟩,rfl,.hand _ ⟨H.1,H.2.1,fun σ' k N w0 e a w us h hl hv=> ?_⟩,hz⟩
  have k':LeB (σ.frz τs) (σ'.frz τs) (Kj α β γ dst r bo ao ar):=by
   refine ⟨k.nt,k.bx,fun τ A hA=> ?_,k.fb,fun p hp hn=> ?_⟩
   ·rw [Vn] at hA ⊢
    split at hA
    ·rename_i hm;rw [if_pos hm];exact hA
    ·rename_i hm;rw [if_neg hm];exact k.ar τ A hA
   ·rw [Vn] at hn ⊢
    split at hn
    ·cases hn
    ·rename_i hm;rw [if_neg hm];exact k.fa p (List.mem_append_left _ hp) hn
  obtain ⟨l1,l2⟩:=Kp ht
  have kl:Le ⟨σ.nt,[],σ.bx,σ.ar⟩ σ':=⟨k.nt,fun t v h=>by simp at h,k.bx,k.ar⟩
  refine (H.2.2 (σ'.frz τs) k' N w0 e a w us (h.frz τs) (by omega) fun j v' hj=> ?_).mono fun ex w' hR=> ?_
  ·obtain ⟨v,t,q,g1,g2,g3,g4⟩:=l2 hp j v' hj
   obtain ⟨u,h1,h2⟩:=hv j v g1
   exact ⟨u,h1,ZdP h h2 (Ze0 kl ((ZeZ σ mv [] v).trans g2)) g3 g4⟩
  ·obtain ⟨u,e',h1,h2⟩:=hR
   refine ⟨u,e',h1, ?_⟩
   have he:(σ'.frz τs).app (Kj α β γ dst r bo ao ar)=σ'.app ⟨True,gT γ β dst r,bo.map fun p=>(β p.1,p.2.map (rnC γ β)),((ao.map fun p=>(γ p.1,p.2))++ar.map fun p=>(α p.1,none))++τs.map fun τ=>(τ,none)⟩:=by
    simp [St.app,Kj,St.frz,List.append_assoc]
   rw [←he];exact h2
 ·exact hx.elim
end
def ZaK (rs:List DV):List (Nat×Option Arr):=(QH 30000 rs).2.map fun p=>(p.1,some ⟨false,p.2.es⟩)
def TP (P:Program) (f n:Nat) (d1:List DV) (cs:List L) (d2:List DV) (rs:List DV) (cs':List L):Prop:=
 GC P f n (d1.map inV++.one (.box (n+d1.length) 0)::d2.map inV) [(n+d1.length,cs.map .l)] [] (Vy (QH 30000 rs).1) [(n+d1.length,cs'.map .l)] (ZaK rs)
def TC (P:Program) (f n:Nat) (ds rs:List DV):Prop:=GC P f n (ds.map inV) [] [] (Vy (QH 30000 rs).1) [] (ZaK rs)
def ZiP (σ:St) (n:Nat) (d1:List DV) (cs:List L) (d2:List DV) (rs:List DV) (cs':List L) (Z:Eff→Prop) (vs:List V):List V→Option Nat→Prop
 | .one (.box k 0)::_,some d=>gcK σ (some d) n (fun i=>i) (fun _=>k) (fun i=>64*d+(i-30000)) (d1.map inV++.one (.box (n+d1.length) 0)::d2.map inV) [(n+d1.length,cs.map .l)] [] (Vy (QH 30000 rs).1) [(n+d1.length,cs'.map .l)] (ZaK rs) Z (XZ σ [] vs)
 | _,_=>False
def ZhO (σ:St) (n:Nat) (ds rs:List DV) (Z:Eff→Prop) (vs:List V):Option Nat→Prop
 | some d=>gcK σ (some d) n (fun i=>i) (fun i=>i) (fun i=>64*d+(i-30000)) (ds.map inV) [] [] (Vy (QH 30000 rs).1) [] (ZaK rs) Z (XZ σ [] vs)
 | none=>False
def toV:Bool×List CV→V
 | (true,cs)=>.agg cs
 | (false,[c])=>.one c
 | (false,_)=>.dead
def mvA (dm:List DV):List (Nat×Option Arr):=(QH 31000 dm).2.map fun p=>(p.1,some ⟨false,p.2.es⟩)
def slN:Nat→List CV→List Nat
 | _,[]=>[]
 | k,.own τ _::cs=>τ::slN (k+1) cs
 | k,.nil::cs=>(2000000+k)::slN (k+1) cs
 | k,_::cs=>slN k cs
def vcs:V→List CV
 | .one c=>[c]
 | .agg cs=>cs
 | _=>[]
def TM (P:Program) (f n:Nat) (ds dm rs:List DV):Prop:=
 GC P f n (ds.map inV++(QH 31000 dm).1.map toV) [] (mvA dm) (Vy (QH 30000 rs).1) [] (ZaK rs)
def TQ (P:Program) (f n:Nat) (d1:List DV) (cs:List L) (d2 dm rs:List DV) (cs':List L):Prop:=
 GC P f n (d1.map inV++.one (.box (n+d1.length) 0)::(d2.map inV++(QH 31000 dm).1.map toV)) [(n+d1.length,cs.map .l)] (mvA dm) (Vy (QH 30000 rs).1) [(n+d1.length,cs'.map .l)] (ZaK rs)
def ZhL (σ:St) (n:Nat) (ds dm rs:List DV) (Z:Eff→Prop) (vs:List V) (mv:List Nat):Option Nat→Prop
 | some d=>gcK σ (some d) n (fun i=>mv.getD (i-31000) 0) (fun i=>i) (fun i=>64*d+(i-30000)) (ds.map inV++(QH 31000 dm).1.map toV) [] (mvA dm) (Vy (QH 30000 rs).1) [] (ZaK rs) Z (XZ σ mv vs)
 | _=>False
def ZiO (σ:St) (n:Nat) (d1:List DV) (cs:List L) (d2 dm rs:List DV) (cs':List L) (Z:Eff→Prop) (vs:List V) (mv:List Nat):List V→Option Nat→Prop
 | .one (.box k 0)::_,some d=>gcK σ (some d) n (fun i=>mv.getD (i-31000) 0) (fun _=>k) (fun i=>64*d+(i-30000)) (d1.map inV++.one (.box (n+d1.length) 0)::(d2.map inV++(QH 31000 dm).1.map toV)) [(n+d1.length,cs.map .l)] (mvA dm) (Vy (QH 30000 rs).1) [(n+d1.length,cs'.map .l)] (ZaK rs) Z (XZ σ mv vs)
 | _,_=>False
section
variable {P:Program} {σ:St}
theorem WQ {f n:Nat} {dst:Option Nat} {d1 d2 rs:List DV} {cs cs':List L} {vs:List V} {Z:Eff→Prop} (c:TP P f n d1 cs d2 rs cs') (hx:ZiP σ n d1 cs d2 rs cs' Z vs (vs.drop d1.length) dst):XBy P σ dst f (some vs) Z:=by
 unfold ZiP at hx
 split at hx
 ·exact ZfF [] _ _ _ c hx
 ·exact hx.elim
theorem Ziy {f n:Nat} {dst:Option Nat} {ds rs:List DV} {vs:List V} {Z:Eff→Prop} (c:TC P f n ds rs) (hx:ZhO σ n ds rs Z vs dst):XBy P σ dst f (some vs) Z:=by
 unfold ZhO at hx
 split at hx
 ·exact ZfF [] _ _ _ c hx
 ·exact hx.elim
theorem Zix {f n:Nat} {dst:Option Nat} {ds dm rs:List DV} {vs:List V} {Z:Eff→Prop} (c:TM P f n ds dm rs) (hx:ZhL σ n ds dm rs Z vs (slN 0 ((vs.drop ds.length).flatMap vcs)) dst):XBy P σ dst f (some vs) Z:=by
 unfold ZhL at hx
 split at hx
 ·exact ZfF _ _ _ _ c hx
 ·exact hx.elim
theorem Zb3 {f n:Nat} {dst:Option Nat} {d1 d2 dm rs:List DV} {cs cs':List L} {vs:List V} {Z:Eff→Prop} (c:TQ P f n d1 cs d2 dm rs cs') (hx:ZiO σ n d1 cs d2 dm rs cs' Z vs (slN 0 ((vs.drop (d1.length+1+d2.length)).flatMap vcs)) (vs.drop d1.length) dst):XBy P σ dst f (some vs) Z:=by
 unfold ZiO at hx
 split at hx
 ·exact ZfF _ _ _ _ c hx
 ·exact hx.elim
theorem XQ:∀{ds:List DV} {i:Nat},Wb i (ds.map inV)=Vz i ds
 | [],_=>rfl
 | d::ds,i=>by simp only [List.map_cons,Wb,Vz];rw [XQ]
theorem Vd:∀{xs ys:List V} {i:Nat},Wb i (xs++ys)=Wb i xs++Wb (i+xs.length) ys
 | [],_,_=>by simp [Wb]
 | x::xs,ys,i=>by simp only [List.cons_append,Wb,List.length_cons];rw [Vd,Nat.add_assoc,Nat.add_comm 1]
theorem ZdN {f:Nat} {fn:Func} {c:Code} {nt:Nat} {rv:Array ResultVar} (hf:P.funcs[f]? =some fn) (hnt:fn.ntmps=nt) (hrv:fn.results=rv) {d1 d2 rs:List DV} {cs cs':List L}
  (h:∀N w0,Bok N w0→True→AW P N w0 c (Zha P rv nt (Vy (QH 30000 rs).1) [(nt+d1.length,cs'.map .l)] (ZaK rs)) ⟨nt,Vz 0 d1++(d1.length,.one (.box (nt+d1.length) 0))::Vz (d1.length+1) d2,[(nt+d1.length,cs.map .l)],[]⟩) (hok:Qq P f=true:=by kernel_rfl) (hb:fn.body=some c:=by rfl) (hds:d1.length+1+d2.length≤nt:=by simp):TP P f nt d1 cs d2 rs cs':=
 GC.Xq hok hf hb hnt hrv (by simp;omega) fun N w0 hbk=>by
  have:=h N w0 hbk trivial
  rw [Vd,XQ,Wb,XQ]
  simpa using this
theorem ZhD {f:Nat} {fn:Func} {c:Code} {nt:Nat} {rv:Array ResultVar} (hf:P.funcs[f]? =some fn) (hnt:fn.ntmps=nt) (hrv:fn.results=rv) {ds rs:List DV}
  (h:∀N w0,Bok N w0→True→AW P N w0 c (Zha P rv nt (Vy (QH 30000 rs).1) [] (ZaK rs)) ⟨nt,Vz 0 ds,[],[]⟩) (hok:Qq P f=true:=by kernel_rfl) (hb:fn.body=some c:=by rfl) (hds:ds.length≤nt:=by simp):TC P f nt ds rs:=
 GC.Xq hok hf hb hnt hrv (by simpa using hds) fun N w0 hbk=>by
  rw [XQ];exact h N w0 hbk trivial
theorem ZhC {f:Nat} {fn:Func} {c:Code} {nt:Nat} {rv:Array ResultVar} (hf:P.funcs[f]? =some fn) (hnt:fn.ntmps=nt) (hrv:fn.results=rv) {ds dm rs:List DV}
  (h:∀N w0,Bok N w0→True→AW P N w0 c (Zha P rv nt (Vy (QH 30000 rs).1) [] (ZaK rs)) ⟨nt,Vz 0 ds++Wb ds.length ((QH 31000 dm).1.map toV),[],mvA dm⟩) (hok:Qq P f=true:=by kernel_rfl) (hb:fn.body=some c:=by rfl) (hds:ds.length+(QH 31000 dm).1.length≤nt:=by simp [QH]):TM P f nt ds dm rs:=
 GC.Xq hok hf hb hnt hrv (by simpa using hds) fun N w0 hbk=>by
  have:=h N w0 hbk trivial
  rw [Vd,XQ]
  simpa using this
theorem ZhB {f:Nat} {fn:Func} {c:Code} {nt:Nat} {rv:Array ResultVar} (hf:P.funcs[f]? =some fn) (hnt:fn.ntmps=nt) (hrv:fn.results=rv) {d1 d2 dm rs:List DV} {cs cs':List L}
  (h:∀N w0,Bok N w0→True→AW P N w0 c (Zha P rv nt (Vy (QH 30000 rs).1) [(nt+d1.length,cs'.map .l)] (ZaK rs)) ⟨nt,Vz 0 d1++(d1.length,.one (.box (nt+d1.length) 0))::(Vz (d1.length+1) d2++Wb (d1.length+1+d2.length) ((QH 31000 dm).1.map toV)),[(nt+d1.length,cs.map .l)],mvA dm⟩) (hok:Qq P f=true:=by kernel_rfl) (hb:fn.body=some c:=by rfl) (hds:d1.length+(d2.length+(QH 31000 dm).1.length+1)≤nt:=by simp [QH]):TQ P f nt d1 cs d2 dm rs cs':=
 GC.Xq hok hf hb hnt hrv (by simpa using hds) fun N w0 hbk=>by
  have:=h N w0 hbk trivial
  rw [Vd,XQ,Wb,Vd,XQ]
  simpa using this
end
section
variable {α β γ:Nat→Nat} {bx bo:List (Nat×List CV)} {ar ao:List (Nat×Option Arr)} {x y:L} {v:Value} {i j n m o:Nat} {ls:List L} {cs ds:List CV} {c d:CV} {σ:St} {mv:List Nat}
theorem ZjP:mtC α β (.l x) (.l y)=(x=y):=rfl
theorem ZjO:mtC α β (.l x) (.kept v y)=(x=y):=rfl
theorem ZjN:mtC α β (.l x) .nil=(x= .sl []):=rfl
theorem ZjM:mtC α β .nil .nil=True:=rfl
theorem ZjL:mtC α β .np .np=True:=rfl
theorem ZjK {ks:List L}:mtC α β (.adr ls) (.adr ks)=(ls=ks):=rfl
theorem ZjJ:mtC α β (.own i n) (.own j m)=(α i=j∧n=m∧j<1000000):=rfl
theorem ZjH:mtC α β (.own i n) .nil=(2000000≤α i∧n=0):=rfl
theorem ZjI {o':Nat}:mtC α β (.box i o) (.box j o')=(β i=j∧o=o'):=rfl
theorem ZjG:mtV α β (.one c) (.one d)=mtC α β c d:=rfl
theorem ZjF:mtV α β (.agg cs) (.agg ds)=mtL α β cs ds:=rfl
theorem Zjx:rnC γ β (.l x)= .l x:=rfl
theorem Zjw:rnC γ β .nil= .nil:=rfl
theorem Zjv:rnC γ β .np= .np:=rfl
theorem Zju:rnC γ β (.adr ls)= .adr ls:=rfl
theorem Zjt:rnC γ β (.own i n)= .own (γ i) n:=rfl
theorem Zjs:rnC γ β (.box i o)= .box (β i) o:=rfl
theorem Zjr:rnC γ β (.kept v x)= .l x:=rfl
theorem Zjq:rnV γ β (.one c)= .one (rnC γ β c):=rfl
theorem Zjp:rnV γ β (.agg cs)= .agg (cs.map (rnC γ β)):=rfl
theorem Zjo {ps:List (Bool×List CV)}:rnV γ β (.tup ps)= .tup (ps.map fun p=>(p.1,p.2.map (rnC γ β))):=rfl
theorem Zkj:clC bx ar (.l x)=True:=rfl
theorem Zki:clC bx ar .nil=True:=rfl
theorem Zkh:clC bx ar .np=True:=rfl
theorem Zkg:clC bx ar (.adr ls)=True:=rfl
theorem Zkf:clC bx ar (.own i n)=((ar.lookup i).isSome=true):=rfl
theorem Zke:clC bx ar (.box i o)=((bx.lookup i).isSome=true):=rfl
theorem Zkd:clO bo ao (.l x)=True:=rfl
theorem Zkc:clO bo ao .nil=True:=rfl
theorem Zkb:clO bo ao .np=True:=rfl
theorem Zka:clO bo ao (.adr ls)=True:=rfl
theorem Zj9:clO bo ao (.own i n)=∃A,ao.lookup i=some (some A):=rfl
theorem Zj8:clO bo ao (.box i o)=((bo.lookup i).isSome=true):=rfl
theorem Ziw:Zj7 bx ar (.one c)=clC bx ar c:=rfl
theorem Ziv:Zj7 bx ar (.agg cs)=Zax (clC bx ar) cs:=rfl
theorem Zhf:ZfB bo ao (.one c)=clO bo ao c:=rfl
theorem Zhe:ZfB bo ao (.agg cs)=Zax (clO bo ao) cs:=rfl
theorem Zhd {ps:List (Bool×List CV)}:ZfB bo ao (.tup ps)=Zax (fun p=>Zax (clO bo ao) p.2) ps:=rfl
theorem Zgw:Vt σ mv (.box i o)=some (.box i o,[],True):=rfl
theorem Zgv:Vt σ mv (.own i n)=if i∈mv then some (.own i n,[],True) else (frC σ (.own i n)).map fun r=>(.l r.1,r.2):=rfl
theorem Zgu:Vt σ mv (.l x)=some (.l x,[],True):=rfl
theorem Zgt:Vt σ mv (.kept v x)=some (.l x,[],True):=rfl
theorem Zgs:Vt σ mv .nil=some (.nil,[],True):=rfl
theorem Zgr:Jb σ mv (.one c)=(Vt σ mv c).map fun r=>(.one r.1,r.2):=rfl
theorem Zgq:Jb σ mv (.agg cs)=(Uv σ mv cs).map fun r=>(.agg r.1,r.2):=rfl
theorem Zjd:toV (true,cs)= .agg cs:=rfl
theorem Zjc:toV (false,[c])= .one c:=rfl
theorem Zjk:slN i []=[]:=rfl
theorem Zjj:slN i (.own j n::cs)=j::slN (i+1) cs:=rfl
theorem Zji:slN i (.nil::cs)=(2000000+i)::slN (i+1) cs:=rfl
theorem Zjh:slN i (.l x::cs)=slN i cs:=rfl
theorem Zjg:slN i (.kept v x::cs)=slN i cs:=rfl
theorem Zja:vcs (.one c)=[c]:=rfl
theorem Zi9:vcs (.agg cs)=cs:=rfl
theorem Zkl:bxO α β cs (some ds)=mtL α β cs ds:=rfl
theorem Zkk:bxO α β cs none=False:=rfl
theorem Zkr {B C:Arr}:arO n (some B) (some (some C))=(n<1000000∧B.fr=false∧B.es=C.es):=rfl
theorem Zkq {B:Arr}:arO n (some B) none=(2000000≤n∧B.fr=false∧B.es=[]):=rfl
theorem Zkp {B:Arr}:arO n (some B) (some none)=(2000000≤n∧B.fr=false∧B.es=[]):=rfl
theorem Zk6:dO n (some m)=(m<n):=rfl
theorem Zk5:dO n none=True:=rfl
theorem Zh3 {v:V}:ZfV [v]=some v:=rfl
theorem Zh2:ZfV []=some (.tup []):=rfl
theorem Zh1 {v u:V} {vs:List V}:ZfV (v::u::vs)=(Ze1 (v::u::vs)).map .tup:=rfl
theorem Zjf:toP (.one c)=some (false,[c]):=rfl
theorem Zje:toP (.agg cs)=some (true,cs):=rfl
theorem ZkT {r:V}:gT γ β (some i) r=[(i,rnV γ β r)]:=rfl
theorem ZgJ {r x:V}:ZgK n r bo ao σ (some x)=(0<n∧n=σ.nt∧Zhq ⟨n,[(0,r)],bo,ao⟩ ⟨n,(0,x)::σ.tm,σ.bx,σ.ar⟩):=rfl
theorem Zj1 {dst:Option Nat} {vs0 vs':List V} {r:V} {Z:Eff→Prop} {τs:List Nat} {p:Prop}:gcK σ dst n α β γ vs0 bx ar r bo ao Z (some (vs',τs,p))=(p∧Zj0 (σ.frz τs) n α β γ dst vs0 bx ar r bo ao vs'∧Z ⟨True,gT γ β dst r,bo.map fun p=>(β p.1,p.2.map (rnC γ β)),((ao.map fun p=>(γ p.1,p.2))++ar.map fun p=>(α p.1,none))++τs.map fun τ=>(τ,none)⟩):=rfl
theorem Zin {P:Program} {rv:Array ResultVar} {r:V}:Zha P rv n r bo ao .normal σ=ZgL P rv n r bo ao σ:=rfl
theorem Zim {P:Program} {rv:Array ResultVar} {r:V}:Zha P rv n r bo ao .ret σ=ZgL P rv n r bo ao σ:=rfl
theorem ZhM {d1 d2 rs:List DV} {ls ls':List L} {Z:Eff→Prop} {vs l:List V} {k:Nat}:ZiP σ n d1 ls d2 rs ls' Z vs (.one (.box k 0)::l) (some m)=gcK σ (some m) n (fun i=>i) (fun _=>k) (fun i=>64*m+(i-30000)) (d1.map inV++.one (.box (n+d1.length) 0)::d2.map inV) [(n+d1.length,ls.map .l)] [] (Vy (QH 30000 rs).1) [(n+d1.length,ls'.map .l)] (ZaK rs) Z (XZ σ [] vs):=rfl
theorem ZhN {ds rs:List DV} {Z:Eff→Prop} {vs:List V}:ZhO σ n ds rs Z vs (some m)=gcK σ (some m) n (fun i=>i) (fun i=>i) (fun i=>64*m+(i-30000)) (ds.map inV) [] [] (Vy (QH 30000 rs).1) [] (ZaK rs) Z (XZ σ [] vs):=rfl
theorem ZhK {ds0 dm rs:List DV} {Z:Eff→Prop} {vs:List V}:ZhL σ n ds0 dm rs Z vs mv (some m)=gcK σ (some m) n (fun i=>mv.getD (i-31000) 0) (fun i=>i) (fun i=>64*m+(i-30000)) (ds0.map inV++(QH 31000 dm).1.map toV) [] (mvA dm) (Vy (QH 30000 rs).1) [] (ZaK rs) Z (XZ σ mv vs):=rfl
theorem ZhJ {d1 d2 dm rs:List DV} {ls ls':List L} {Z:Eff→Prop} {vs l:List V} {k:Nat}:ZiO σ n d1 ls d2 dm rs ls' Z vs mv (.one (.box k 0)::l) (some m)=gcK σ (some m) n (fun i=>mv.getD (i-31000) 0) (fun _=>k) (fun i=>64*m+(i-30000)) (d1.map inV++.one (.box (n+d1.length) 0)::(d2.map inV++(QH 31000 dm).1.map toV)) [(n+d1.length,ls.map .l)] (mvA dm) (Vy (QH 30000 rs).1) [(n+d1.length,ls'.map .l)] (ZaK rs) Z (XZ σ mv vs):=rfl
end
attribute [go_sem] ZjP ZjO ZjN ZjM ZjL ZjK ZjJ ZjI ZjH ZjG ZjF mtL Zfg Zjx Zjw Zjv Zju Zjt Zjs Zjr Zjq Zjp Zjo Zkj Zki Zkh Zkg Zkf Zke Zkd Zkc Zkb Zka Zj9 Zj8 Ziw Ziv Zhf Zhe Zhd Zgw Zgv Zgu Zgt Zgs Uv Zgr Zgq XZ Zjd Zjc Zjk Zjj Zji Zjh Zjg Zja Zi9 mvA Wb Zkl Zkk Zkr Zkq Zkp Zk6 Zk5 Zh3 Zh2 Zh1 Zjf Zje Ze1 ZkT ZgJ ZgL Zj1 Zj0 Zin Zim ZhM ZhN ZhK ZhJ ZaK Zax ndP Zhq St.frz
end Go.Proofs.Ytneeinggggadpaa.Am
namespace Go.Proofs.Ytneeinggggadpaa.Am
open Go.RowKit
abbrev Ty {p:Prop} (_:p):Prop:=p
class HC (f:Nat) (T:outParam Prop):Prop where h:T
def oI (n:Int):V:=.one (.l (.int .i64 n))
def oB (b:Bool):V:=.one (.l (.bool b))
def oS (s:ByteArray):V:=.one (.l (.str s))
def oL {α:Type} (c:α→List L) (xs:List α):V:=.one (.l (.sl (xs.map c)))
def oO (τ n:Nat):V:=.one (.own τ n)
def oX (k:Nat):V:=.one (.box k 0)
def oT (ls:List L):V:=.agg (ls.map CV.l)
def bT (ls:List L):List CV:=ls.map CV.l
def cI (n:Int):CV:=.l (.int .i64 n)
def cB (b:Bool):CV:=.l (.bool b)
def cS (s:ByteArray):CV:=.l (.str s)
def cL {α:Type} (c:α→List L) (xs:List α):CV:=.l (.sl (xs.map c))
def aT {α:Type} (c:α→List L) (xs:List α):Option Arr:=some ⟨true,xs.map c⟩
def aF {α:Type} (c:α→List L) (xs:List α):Option Arr:=some ⟨false,xs.map c⟩
def pk {α:Type} (l:List (Nat×α)):List Nat→List (Nat×α)
 | []=>[]
 | t::ts=>match l.lookup t with | some v=>(t,v)::pk l ts| none=>pk l ts
def pkO {α:Type} (l:List (Nat×α)) (ts:List Nat) (t:Nat):Option α→List (Nat×α)
 | some v=>(t,v)::pk l ts
 | none=>pk l ts
theorem Zh6 {α:Type} (l:List (Nat×α)):pk l []=[]:=rfl
theorem ZgI {α:Type} (l:List (Nat×α)) (t:Nat) (ts:List Nat):pk l (t::ts)=pkO l ts t (l.lookup t):=by
 rw [pk];cases l.lookup t<;>rfl
def St.of (σ:St) (ts ks τs:List Nat) (ch:List (Nat×V)) (cb:List (Nat×List CV)) (ca:List (Nat×Option Arr)):St:=⟨σ.nt,ch++pk σ.tm ts,cb++pk σ.bx ks,ca++pk σ.ar τs⟩
attribute [go_sem] oI oB oS oL oO oX cI cB cS cL oT bT aT aF Zh6 ZgI pkO St.of
structure Wt (p:Prop):Prop where
 h:p
theorem wt {p:Prop} (h:p):Wt p:=⟨h⟩
section
variable {P:Program} {ops:Array Oper} {σ σ':St} {K:St→Prop} {o:Oper} {rest:List Oper} {b want:Bool}
theorem gd {ρ:Type} {b':Bool} {A B r:ρ} (hM:(if b=true then A else B)=r) (ht:b=true→A=r→Wt (QZ P ops o rest σ K want (some b'))) (hf:b=false→B=r→Wt (QZ P ops o rest σ K want (some b'))):QZ P ops o rest σ K want (some b'):=by
 cases b
 ·exact (hf rfl (by simpa using hM)).h
 ·exact (ht rfl (by simpa using hM)).h
end
section
variable {P:Program} {N:Nat→Prop} {w0:Bs} {Q:Exit→St→Prop} {x y:Code} {σ σ':St} {K:St→Prop}
theorem hsq (hK:∀σ,AW P N w0 y Q σ→K σ) (h:AW P N w0 y Q σ):K σ:=hK σ h
theorem fs {ι:Type} {S:ι→St} {I:ι→Prop} (hK:∀i σ',I i→Jg (S i) σ'→K σ') {i:ι} (hi:I i) (h:Vu (S i) σ:=by constructor<;>simp [go_sem,F]):K σ:=hK i σ hi h.into
theorem fs2 {α β:Type} {S:α×β→St} {I:α×β→Prop} {J:α→β→Prop} (hK:∀i σ',I i→Jg (S i) σ'→K σ') (hJ:∀a b,J a b→I (a,b)) {a:α} {b:β} (hi:J a b) (h:Vu (S (a,b)) σ:=by constructor<;>simp [go_sem,F]):K σ:=hK _ σ (hJ _ _ hi) h.into
theorem fs3 {α β γ:Type} {S:α×β×γ→St} {I:α×β×γ→Prop} {J:α→β→γ→Prop} (hK:∀i σ',I i→Jg (S i) σ'→K σ') (hJ:∀a b c,J a b c→I (a,b,c)) {a:α} {b:β} {c:γ} (hi:J a b c) (h:Vu (S (a,b,c)) σ:=by constructor<;>simp [go_sem,F]):K σ:=hK _ σ (hJ _ _ _ hi) h.into
theorem fs4 {α β γ δ:Type} {S:α×β×γ×δ→St} {I:α×β×γ×δ→Prop} {J:α→β→γ→δ→Prop} (hK:∀i σ',I i→Jg (S i) σ'→K σ') (hJ:∀a b c d,J a b c d→I (a,b,c,d)) {a:α} {b:β} {c:γ} {d:δ} (hi:J a b c d) (h:Vu (S (a,b,c,d)) σ:=by constructor<;>simp [go_sem,F]):K σ:=hK _ σ (hJ _ _ _ _ hi) h.into
theorem fs5 {α β γ δ ε:Type} {S:α×β×γ×δ×ε→St} {I:α×β×γ×δ×ε→Prop} {J:α→β→γ→δ→ε→Prop} (hK:∀i σ',I i→Jg (S i) σ'→K σ') (hJ:∀a b c d f,J a b c d f→I (a,b,c,d,f)) {a:α} {b:β} {c:γ} {d:δ} {f:ε} (hi:J a b c d f) (h:Vu (S (a,b,c,d,f)) σ:=by constructor<;>simp [go_sem,F]):K σ:=hK _ σ (hJ _ _ _ _ _ hi) h.into
theorem fs6 {α β γ δ ε ζ:Type} {S:α×β×γ×δ×ε×ζ→St} {I:α×β×γ×δ×ε×ζ→Prop} {J:α→β→γ→δ→ε→ζ→Prop} (hK:∀i σ',I i→Jg (S i) σ'→K σ') (hJ:∀a b c d f g,J a b c d f g→I (a,b,c,d,f,g)) {a:α} {b:β} {c:γ} {d:δ} {f:ε} {g:ζ} (hi:J a b c d f g) (h:Vu (S (a,b,c,d,f,g)) σ:=by constructor<;>simp [go_sem,F]):K σ:=hK _ σ (hJ _ _ _ _ _ _ hi) h.into
theorem fs7 {α β γ δ ε ζ η:Type} {S:α×β×γ×δ×ε×ζ×η→St} {I:α×β×γ×δ×ε×ζ×η→Prop} {J:α→β→γ→δ→ε→ζ→η→Prop} (hK:∀i σ',I i→Jg (S i) σ'→K σ') (hJ:∀a b c d f g u,J a b c d f g u→I (a,b,c,d,f,g,u)) {a:α} {b:β} {c:γ} {d:δ} {f:ε} {g:ζ} {u:η} (hi:J a b c d f g u) (h:Vu (S (a,b,c,d,f,g,u)) σ:=by constructor<;>simp [go_sem,F]):K σ:=hK _ σ (hJ _ _ _ _ _ _ _ hi) h.into
theorem fs8 {α β γ δ ε ζ η θ:Type} {S:α×β×γ×δ×ε×ζ×η×θ→St} {I:α×β×γ×δ×ε×ζ×η×θ→Prop} {J:α→β→γ→δ→ε→ζ→η→θ→Prop} (hK:∀i σ',I i→Jg (S i) σ'→K σ') (hJ:∀a b c d f g u v,J a b c d f g u v→I (a,b,c,d,f,g,u,v)) {a:α} {b:β} {c:γ} {d:δ} {f:ε} {g:ζ} {u:η} {v:θ} (hi:J a b c d f g u v) (h:Vu (S (a,b,c,d,f,g,u,v)) σ:=by constructor<;>simp [go_sem,F]):K σ:=hK _ σ (hJ _ _ _ _ _ _ _ _ hi) h.into
theorem fs9 {α β γ δ ε ζ η θ κ:Type} {S:α×β×γ×δ×ε×ζ×η×θ×κ→St} {I:α×β×γ×δ×ε×ζ×η×θ×κ→Prop} {J:α→β→γ→δ→ε→ζ→η→θ→κ→Prop} (hK:∀i σ',I i→Jg (S i) σ'→K σ') (hJ:∀a b c d f g u v x,J a b c d f g u v x→I (a,b,c,d,f,g,u,v,x)) {a:α} {b:β} {c:γ} {d:δ} {f:ε} {g:ζ} {u:η} {v:θ} {x:κ} (hi:J a b c d f g u v x) (h:Vu (S (a,b,c,d,f,g,u,v,x)) σ:=by constructor<;>simp [go_sem,F]):K σ:=hK _ σ (hJ _ _ _ _ _ _ _ _ _ hi) h.into
theorem ZkU {α β γ δ ε ζ η θ κ μ:Type} {S:α×β×γ×δ×ε×ζ×η×θ×κ×μ→St} {I:α×β×γ×δ×ε×ζ×η×θ×κ×μ→Prop} {J:α→β→γ→δ→ε→ζ→η→θ→κ→μ→Prop} (hK:∀i σ',I i→Jg (S i) σ'→K σ') (hJ:∀a b c d f g u v x y,J a b c d f g u v x y→I (a,b,c,d,f,g,u,v,x,y)) {a:α} {b:β} {c:γ} {d:δ} {f:ε} {g:ζ} {u:η} {v:θ} {x:κ} {y:μ} (hi:J a b c d f g u v x y) (h:Vu (S (a,b,c,d,f,g,u,v,x,y)) σ:=by constructor<;>simp [go_sem,F]):K σ:=hK _ σ (hJ _ _ _ _ _ _ _ _ _ _ hi) h.into
theorem ZiL {o:Operand} (h:AW P N w0 x Q σ) (ho:opd σ o=some (.one (.l (.bool true))):=by simp [go_sem,F]):AW P N w0 (.cond o x y) Q σ:=Zb9 ho (fun _=>h) (fun h=>nomatch h)
theorem ZiM {o:Operand} (h:AW P N w0 y Q σ) (ho:opd σ o=some (.one (.l (.bool false))):=by simp [go_sem,F]):AW P N w0 (.cond o x y) Q σ:=Zb9 ho (fun h=>nomatch h) (fun _=>h)
theorem S1 {id:Nat} {l:List Oper} (h:AW P N w0 y Q σ') (ho:∀K:St→Prop,K σ'→ZO P l.toArray l σ K:=by intro K h;simp (maxSteps:=9999999) [go_sem,F];exact h):AW P N w0 (.seq (.region id l.toArray false) y) Q σ:=ZH fun K hK=>ho K (hK _ h)
theorem le1 (ts ks τs:List Nat) (h:AW P N w0 x Q σ') (ch:List (Nat×V):=[]) (cb:List (Nat×List CV):=[]) (ca:List (Nat×Option Arr):=[]) (e:σ.of ts ks τs ch cb ca=σ':=by simp [go_sem];exact rfl) (k:Vu σ' σ:=by constructor<;>simp [go_sem,F]):AW P N w0 x Q σ:=US k.into h
theorem mj {ι ρ:Type} (ts ks τs:List Nat) (ch:ι→List (Nat×V)) {m:Option ι} {g:ι→Option ρ} {r:ρ} {S:ι→St} (hM:m.bind g=some r) (hx:∀e,m=some e→∀K:St→Prop,(∀i σ',i=e→Jg (S i) σ'→K σ')→AW P N w0 x (ZaN K Q) σ) (hy:∀i,g i=some r→AW P N w0 y Q (S i))
  (cb:ι→List (Nat×List CV):=fun _=>[]) (ca:ι→List (Nat×Option Arr):=fun _=>[]) (e:∀i,σ.of ts ks τs (ch i) (cb i) (ca i)=S i:=by intro i;simp [go_sem];exact rfl):AW P N w0 (.seq x y) Q σ:=by
 obtain ⟨v,h1,h2⟩:=bind_some hM
 exact Zgk S (fun i=>i=v) (hx v h1) (fun i hi=>hy i (hi▸h2))
theorem mjE {ι κ ρ:Type} (ts ks τs:List Nat) (ch:ι→List (Nat×V)) {m:Option (ι ⊕ κ)} {g:ι ⊕ κ→Option ρ} {r:ρ} {S:ι→St} (hM:m.bind g=some r) (hx:∀e,m=some e→g e=some r→∀K:St→Prop,(∀i σ',.inl i=e→Jg (S i) σ'→K σ')→AW P N w0 x (ZaN K Q) σ) (hy:∀i,g (.inl i)=some r→AW P N w0 y Q (S i))
  (cb:ι→List (Nat×List CV):=fun _=>[]) (ca:ι→List (Nat×Option Arr):=fun _=>[]) (e:∀i,σ.of ts ks τs (ch i) (cb i) (ca i)=S i:=by intro i;simp [go_sem];exact rfl):AW P N w0 (.seq x y) Q σ:=by
 obtain ⟨v,h1,h2⟩:=bind_some hM
 exact Zgk S (fun i=>.inl i=v) (hx v h1 h2) (fun i hi=>hy i (by rw [hi];exact h2))
theorem lp {ι:Type} (ts ks τs:List Nat) (ch:ι→List (Nat×V)) (I:Nat→ι→Prop) (n0:Nat) (i0:ι) {S:ι→St} (h0:I n0 i0) (hz:∀i,¬I 0 i)
  (body:∀(KL:St→Prop) (n:Nat) (i:ι),(∀i' σ',I n i'→Jg (S i') σ'→KL σ')→I (n+1) i→True→AW P N w0 x (ZaN KL Q) (S i)) (cb:ι→List (Nat×List CV):=fun _=>[]) (ca:ι→List (Nat×Option Arr):=fun _=>[])
  (e:∀i,σ.of ts ks τs (ch i) (cb i) (ca i)=S i:=by intro i;simp [go_sem];exact rfl) (hk:Vu (S i0) σ:=by constructor<;>simp [go_sem,F]):AW P N w0 (.loop x) Q σ:=
 Zku S I n0 i0 h0 hz body hk
theorem qI {f:Nat} {ds ds':List DV} {fr pu:Bool} {rs:List DV} {X:Bool→Bool→List DV→Prop} {Y:Prop} {T:Prop} [i:HC f T] {α:Type} {m:Option α} {z:α} (e:m=some z) (hx:Wt (X fr false rs)) (h:T→m=some z→Ctr P f ds fr rs:=by intro h e;apply h;exact e) (hd:ds'=ds:=by first | (simp [go_sem,F];done)| fail) (hp:fr=false→pu=true:=by first | exact fun _=>rfl| (intro h;contradiction)):XW P f ds' pu X Y:=
 Zgb false (h i.h e) hd hp hx.h
theorem qP {f:Nat} {dst:Option Nat} {vs:List V} {d1 d2:List DV} {ls ls':List L} {fr:Bool} {rs:List DV} {Z:Eff→Prop} {T:Prop} [i:HC f T] {α:Type} {m:Option α} {z:α} (e:m=some z) (hx:Wt (ZiT σ dst d1.length d1 ls d2 fr rs ls' Z (Kx σ d1.length vs))) (h:T→m=some z→WR P f d1 ls d2 fr rs ls':=by intro h e;apply h;exact e):XBy P σ dst f (some vs) Z:=
 Zq _ (h i.h e) hx.h
theorem qS {f:Nat} {dst:Option Nat} {vs:List V} {d1 d2:List DV} {ls ls':List L} {fr:Bool} {rs:List DV} {Z:Eff→Prop} {T:Prop} [i:HC f T] {α:Type} {m:Option α} {z:α} (e:m=some z) (hx:Wt (Ze9 σ dst d1.length d1 ls d2 fr rs ls' Z (Kx σ d1.length vs))) (h:T→m=some z→Zhp P f d1 ls d2 fr rs ls':=by intro h e;apply h;exact e):XBy P σ dst f (some vs) Z:=
 Zhh _ (h i.h e) hx.h
theorem qZ {f:Nat} {dst:Option Nat} {vs:List V} {ds ds':List DV} {pu:Bool} {X:Bool→Bool→List DV→Prop} {rs:List DV} {Z:Eff→Prop} {T:Prop} [i:HC f T] {α:Type} {m:Option α} {z:α} (e:m=some z) (hx:Wt (Zft σ dst ds rs Z (Uk σ vs))) (h:T→m=some z→Ctr P f ds false rs:=by intro h e;apply h;exact e):XW P f ds' pu X (XBy P σ dst f (some vs) Z):=Zhi (h i.h e) hx.h
theorem qT {f n:Nat} {dst:Option Nat} {vs:List V} {d1 d2 rs:List DV} {ls ls':List L} {Z:Eff→Prop} {T:Prop} [i:HC f T] {α:Type} {m:Option α} {z:α} (e:m=some z) (hx:Wt (ZiP σ n d1 ls d2 rs ls' Z vs (vs.drop d1.length) dst)) (h:T→m=some z→TP P f n d1 ls d2 rs ls':=by intro h e;apply h;exact e):XBy P σ dst f (some vs) Z:=WQ (h i.h e) hx.h
theorem qU {f n:Nat} {dst:Option Nat} {vs:List V} {ds ds' rs:List DV} {pu:Bool} {X:Bool→Bool→List DV→Prop} {Z:Eff→Prop} {T:Prop} [i:HC f T] {α:Type} {m:Option α} {z:α} (e:m=some z) (hx:Wt (ZhO σ n ds rs Z vs dst)) (h:T→m=some z→TC P f n ds rs:=by intro h e;apply h;exact e):XW P f ds' pu X (XBy P σ dst f (some vs) Z):=.inr (Ziy (h i.h e) hx.h)
theorem qM {f n:Nat} {dst:Option Nat} {vs:List V} {ds dm ds' rs:List DV} {pu:Bool} {X:Bool→Bool→List DV→Prop} {Z:Eff→Prop} {T:Prop} [i:HC f T] {α:Type} {m:Option α} {z:α} (e:m=some z) (hx:Wt (ZhL σ n ds dm rs Z vs (slN 0 ((vs.drop ds.length).flatMap vcs)) dst)) (h:T→m=some z→TM P f n ds dm rs:=by intro h e;apply h;exact e):XW P f ds' pu X (XBy P σ dst f (some vs) Z):=.inr (Zix (h i.h e) hx.h)
theorem qQ {f n:Nat} {dst:Option Nat} {vs:List V} {d1 d2 dm rs:List DV} {ls ls':List L} {Z:Eff→Prop} {T:Prop} [i:HC f T] {α:Type} {m:Option α} {z:α} (e:m=some z) (hx:Wt (ZiO σ n d1 ls d2 dm rs ls' Z vs (slN 0 ((vs.drop (d1.length+1+d2.length)).flatMap vcs)) (vs.drop d1.length) dst)) (h:T→m=some z→TQ P f n d1 ls d2 dm rs ls':=by intro h e;apply h;exact e):XBy P σ dst f (some vs) Z:=Zb3 (h i.h e) hx.h
theorem qR {f:Nat} {dst:Option Nat} {vs:List V} {ds ds':List DV} {pu:Bool} {X:Bool→Bool→List DV→Prop} {cs:List L} {Z:Eff→Prop} {T:Prop} [i:HC f T] {α:Type} {m:Option α} {z:α} (e:m=some z) (hx:Wt (ZiB σ dst ds cs Z (Uk σ vs))) (h:T→m=some z→ZfO P f ds cs:=by intro h e;apply h;exact e):XW P f ds' pu X (XBy P σ dst f (some vs) Z):=Zhj (h i.h e) hx.h
end
def St.ZgE:List (Nat×Nat)→St→St
 | [],σ=>σ
 | p::q,σ=>St.ZgE q (σ.ren p.1 p.2)
def Zc4:List (Nat×Nat)→St→Prop
 | [],_=>True
 | p::q,σ=>(match σ.ar.lookup p.1 with | some (some _)=>True| _=>False)∧σ.ar.lookup p.2=none∧p.1<1000000∧p.2<1000000∧Zc4 q (σ.ren p.1 p.2)
theorem JK:∀{q:List (Nat×Nat)} {σ:St},Zc4 q σ→Jg (St.ZgE q σ) σ
 | [],_,_=>fun _ _ _ _ h=>h
 | p::q,σ,⟨h1,h2,h3,h4,h5⟩=>fun N w0 a w hs=>JK h5 N w0 a w (Ze7 h1 h2 h3 h4 N w0 a w hs)
theorem fr {σ σ1:St} {ι:Type} {S:ι→St} {I:ι→Prop} {K:St→Prop} (hK:∀i σ',I i→Jg (S i) σ'→K σ') (q:List (Nat×Nat)) (ts ks τs:List Nat) (i:ι) (hi:I i) (e:σ.of ts ks τs [] [] []=σ1:=by simp [go_sem];exact rfl) (h1:Vu σ1 σ:=by constructor<;>simp [go_sem,F])
  (hA:Zc4 q σ1:=by simp [go_sem,Zc4]) (h:Vu (S i) (St.ZgE q σ1):=by constructor<;>simp [go_sem,St.ZgE,F]):K σ:=hK i σ hi fun N w0 a w hs=>h.into N w0 a w (JK hA N w0 a w (h1.into N w0 a w hs))
theorem KO {P:Program} {σ:St} {f n:Nat} {dst:Option Nat} {ds ds' rs:List DV} {vs:List V} {pu:Bool} {X:Bool→Bool→List DV→Prop} {Z:Eff→Prop} (c:TC P f n ds rs) (hx:ZhO σ n ds rs Z vs dst):XW P f ds' pu X (XBy P σ dst f (some vs) Z):=.inr (Ziy c hx)
theorem VC {P:Program} {σ:St} {f n:Nat} {dst:Option Nat} {ds dm ds' rs:List DV} {vs:List V} {pu:Bool} {X:Bool→Bool→List DV→Prop} {Z:Eff→Prop} (c:TM P f n ds dm rs) (hx:ZhL σ n ds dm rs Z vs (slN 0 ((vs.drop ds.length).flatMap vcs)) dst):XW P f ds' pu X (XBy P σ dst f (some vs) Z):=.inr (Zix c hx)
theorem rr {P:Program} {N:Nat→Prop} {w0:Bs} {Q:Exit→St→Prop} {x:Code} {σ σ1:St} (th:List Nat) (q:List (Nat×Nat)) (ts ks τs:List Nat) (h:AW P N w0 x Q (St.ZgE q (th.foldl St.KV σ1))) (ch:List (Nat×V):=[]) (cb:List (Nat×List CV):=[]) (ca:List (Nat×Option Arr):=[]) (e:σ.of ts ks τs ch cb ca=σ1:=by simp [go_sem];exact rfl) (h1:Vu σ1 σ:=by constructor<;>simp [go_sem,F])
  (hT:Kq th σ1:=by simp [go_sem,Kq,St.KV]) (hA:Zc4 q (th.foldl St.KV σ1):=by simp [go_sem,Zc4,St.KV]):AW P N w0 x Q σ:=US h1.into (US (Jx hT) (US (JK hA) h))
theorem Zko {α:Type} {xs:List α} {i:Int} {x:α} (h:at? xs i=some x):0≤i∧i<(xs.length:Int):=by
 have h1:=Zi5 h;have h2:=(Jf h).1;omega
theorem Zk9 {α:Type} {xs:List α} {i:Int} {x:α} (c:α→List L) (h:at? xs i=some x):∀h,(xs.map c)[i.toNat]'h=c x:=fun k=>by
 have:=(Jf h).2.2 (by simpa using k)
 rw [List.getElem_map,this]
class Enc (α:Type) where c:α→List L
instance:Enc Int:=⟨iC⟩
instance:Enc ByteArray:=⟨sC⟩
instance:Enc Bool:=⟨bC⟩
@[go_sem] theorem Zj5:(Enc.c:Int→List L)=iC:=rfl
@[go_sem] theorem Zj4:(Enc.c:ByteArray→List L)=sC:=rfl
@[go_sem] theorem Zi0:(Enc.c:Bool→List L)=bC:=rfl
theorem Zla {α:Type} [Enc α] {xs:List α} {i:Int} {x:α} (h:at? xs i=some x):(xs.map Enc.c)[i.toNat]? =some (Enc.c x)∧∀h,(xs.map Enc.c)[i.toNat]'h=Enc.c x:=by
 refine ⟨by rw [List.getElem?_map,(UQ h).2.1];rfl,fun k=> ?_⟩
 have:=(UQ h).2.2.2 (by simpa using k)
 rw [List.getElem_map,this]
theorem Zk8 {α:Type} {xs:List α} {n:Nat} {i:Int} {x:α} (h:at? ((xs.take n).drop (1:Int).toNat) i=some x):xs[i.toNat+1]? =some x∧∀h,xs[i.toNat+1]'h=x:=by
 have h1:=(UQ h).2.1
 have h2:xs[i.toNat+1]? =some x:=by
  rw [show (1:Int).toNat=1 from rfl,List.getElem?_drop,Nat.add_comm] at h1
  rw [List.getElem?_take] at h1
  split at h1
  ·exact h1
  ·cases h1
 exact ⟨h2,fun k=>(List.getElem?_eq_some_iff.1 h2).2⟩
@[go_sem] theorem Zjm (xs:List ByteArray):(∀e∈(xs.map sC).tail,e.length=1)↔True:=by
 simp only [iff_true]
 intro e he
 obtain ⟨x,_,rfl⟩:=List.mem_map.1 (List.mem_of_mem_tail he)
 rfl
@[go_sem] theorem ZjX (xs:List Int):(∀e∈(xs.map iC).tail,e.length=1)↔True:=by
 simp only [iff_true]
 intro e he
 obtain ⟨x,_,rfl⟩:=List.mem_map.1 (List.mem_of_mem_tail he)
 rfl
theorem Zid {α:Type} {xs:List α} {i:Int} {K:Prop} (h:∃x,at? xs i=some x) (k:K):i<(xs.length:Int)∧K:=⟨(Zko h.choose_spec).2,k⟩
theorem nm {Φ b c:Prop} (F:Φ) (h:b) (g:b→c:=by intro h;(try simp [go_sem] at h);exact h):Φ∧b∧c:=⟨F,h,g h⟩
theorem nf {Φ b c:Prop} (F:Φ) (h:b) (g:b→c:=by intro h;(try simp at h);exact h):Φ∧b∧c:=⟨F,h,g h⟩
theorem au {p:Prop} (h:p:=by
 repeat' (first
  | (obtain ⟨x,e,hM⟩:=bind_some hM
     first
     | (have q:=Zk8 e;have F:=And.intro F (And.intro q (Jf e)))
     | (have q:at? (_::_) _=some _:=e;have F:=And.intro (And.intro (nm F (Zla e)) (Zko e)) (Jf e))
     | (have q:=Jf e;have q':=q;simp only [Array.getElem_toList,Array.getElem?_toList,Int.toNat_zero,Int.toNat_one,Int.reduceToNat] at q';have F:=And.intro F (And.intro q q'))
     | have F:=And.intro F (Jf e)
     | (have q:=ZgN e;have q':=q;(try simp at q');have F:=And.intro F (And.intro q q'))
     | (obtain ⟨c,q⟩:=QX e;replace c:=c.symm;subst c;(try simp at q);have F:=And.intro F q)
     | (obtain ⟨c,q⟩:=ZfC e;replace c:=c.symm;subst c;(try simp [go_sem] at q);have F:=And.intro F q)
     | (obtain ⟨c,q⟩:=JA e;replace c:=c.symm;subst c;(try simp at q);have F:=And.intro F q)
     | (obtain ⟨c,q⟩:=Zck e;replace c:=c.symm;subst c;(try simp at q);have F:=And.intro F q)
     | (obtain ⟨c,q⟩:=Zfz e;replace c:=c.symm;subst c;(try simp at q);have F:=And.intro F q)
     | (obtain ⟨c,q⟩:=ZfA e;replace c:=c.symm;subst c;(try simp at q);have F:=And.intro F q)
     | (obtain ⟨c,q⟩:=ZgS e;replace c:=c.symm;subst c;(try simp at q);have F:=And.intro F q))
  | (refine ZH (fun K hK=> ?_);simp (maxSteps:=9999999) [go_sem,F])
  | (obtain rfl:=si hM;refine Kf ?_;simp (maxSteps:=9999999) [go_sem,F];done)
  | (refine Kf ?_;simp (maxSteps:=9999999) [go_sem,F])
  | (refine Zh ?_)
  | (refine ZC ?_)
  | (refine Zhs ?_)
  | (refine Zs hM (fun h hM=> ?_) (fun h hM=> ?_)<;>(have F:=nf F h)<;>(first | have F:=And.intro F (lT h)| have F:=And.intro F (lF h)| have F:=And.intro F (eT h)| have F:=And.intro F (eF h)| have F:=And.intro F (lT (nF h))| have F:=And.intro F (lF (nT h))| have F:=And.intro F (eT (nF h))| have F:=And.intro F (eF (nT h))| skip))
  | (refine gd hM (fun h hM=> ?_) (fun h hM=> ?_)<;>(have F:=nf F h)<;>(first | have F:=And.intro F (lT h)| have F:=And.intro F (lF h)| have F:=And.intro F (eT h)| have F:=And.intro F (eF h)| have F:=And.intro F (lT (nF h))| have F:=And.intro F (lF (nT h))| have F:=And.intro F (eT (nF h))| have F:=And.intro F (eF (nT h))| skip))
  | (refine wt ?_;simp (maxSteps:=9999999) [go_sem,F])
  | (refine ZiL ?_)
  | (refine ZiM ?_)
  | (refine Zk (fun K hK=> ?_))
  | (obtain rfl:=si hM;refine Zgj ?_;simp (maxSteps:=9999999) [go_sem,F];done)
  | (refine Zgj ?_;simp (maxSteps:=9999999) [go_sem,St.ZgE,St.KV,F];done)
  | (refine hsq (by assumption) ?_)
  | (refine ⟨by omega, ?_⟩)
  | (refine Zid ⟨_,by assumption⟩ ?_)
  | (obtain rfl:=si hM;simp (maxSteps:=9999999) [go_sem,F];done)
  | (exact fs (by assumption) (by exact si hM))
  | (exact fs (by assumption) (by exact hM))
  | (exact fs2 (by assumption) (by intro a b h;dsimp only;exact h) (by exact hM))
  | (exact fs3 (by assumption) (by intro a b c h;dsimp only;exact h) (by exact hM))
  | (exact fs4 (by assumption) (by intro a b c d h;dsimp only;exact h) (by exact hM))
  | (exact fs5 (by assumption) (by intro a b c d f h;dsimp only;exact h) (by exact hM))
  | (exact fs6 (by assumption) (by intro a b c d f g h;dsimp only;exact h) (by exact hM))
  | (exact fs7 (by assumption) (by intro a b c d f g u h;dsimp only;exact h) (by exact hM))
  | (exact fs8 (by assumption) (by intro a b c d f g u v h;dsimp only;exact h) (by exact hM))
  | (exact fs9 (by assumption) (by intro a b c d f g u v x h;dsimp only;exact h) (by exact hM))
  | (exact ZkU (by assumption) (by intro a b c d f g u v x y h;dsimp only;exact h) (by exact hM))
  | (obtain ⟨x,ec,hM⟩:=bind_some hM
     first
     | refine qI ec ?_
     | refine qP ec ?_
     | refine qS ec ?_
     | refine qZ ec ?_
     | refine qT ec ?_
     | refine qU ec ?_
     | refine qM ec ?_
     | refine qQ ec ?_
     | refine qR ec ?_)
  | (obtain rfl:=si hM;(first | (have hM:=hR4;clear hR4)| (have hM:=hR3;clear hR3)| (have hM:=hR2;clear hR2)| (have hM:=hR1;clear hR1));dsimp only at hM))):p:=h
end Go.Proofs.Ytneeinggggadpaa.Am
namespace Go.Proofs.Ytneeinggggadpaa
open Go.RowKit Am
structure Zf where
 b:List Int
 i:Int
 h:Int
def Zf.c (x:Zf):List L:=[.sl (x.b.map uC),.int .i64 x.i,.int .i64 x.h]
@[go_sem] theorem Zf.ZfD (x:Zf):x.c=[.sl (x.b.map uC),.int .i64 x.i,.int .i64 x.h]:=rfl
@[go_sem] theorem Zf.lens (xs:List Zf):(∀e∈xs.map Zf.c,e.length=3)↔True:=by simp [Zf.ZfD]
structure Ze where
 kind:Int
 n:Int
 at_:Int
 text:ByteArray
def Ze.c (x:Ze):List L:=[.int .i64 x.kind,.int .i64 x.n,.int .i64 x.at_,.str x.text]
@[go_sem] theorem Ze.ZfD (x:Ze):x.c=[.int .i64 x.kind,.int .i64 x.n,.int .i64 x.at_,.str x.text]:=rfl
@[go_sem] theorem Ze.lens (xs:List Ze):(∀e∈xs.map Ze.c,e.length=4)↔True:=by simp [Ze.ZfD]
@[go_sem] theorem Ze.ZkV (xs:List Ze):XY (xs.map Ze.c)=true:=by simp [XY,ZbX,L.flat,Ze.ZfD]
@[go_sem] theorem Ze.ZkG (xs:List Ze):xs.all (ZbX∘Ze.c)=true:=by simp [ZbX,L.flat,Ze.ZfD]
structure Zb where
 toks:List Ze
 i:Int
 end_:Int
 bad:Int
def Zb.c (x:Zb):List L:=[.sl (x.toks.map Ze.c),.int .i64 x.i,.int .i64 x.end_,.int .i64 x.bad]
@[go_sem] theorem Zb.ZfD (x:Zb):x.c=[.sl (x.toks.map Ze.c),.int .i64 x.i,.int .i64 x.end_,.int .i64 x.bad]:=rfl
@[go_sem] theorem Zb.lens (xs:List Zb):(∀e∈xs.map Zb.c,e.length=4)↔True:=by simp [Zb.ZfD]
structure Za where
 kind:Int
 n:Int
 text:ByteArray
 args:List Za
mutual
def Za.c:Za→List L
 | ⟨kind,n,text,args⟩=>[.int .i64 kind,.int .i64 n,.str text,.sl (Za.cs args)]
def Za.cs:List Za→List (List L)
 | []=>[]
 | x::xs=>Za.c x::Za.cs xs
end
theorem Za.Zga:∀xs:List Za,Za.cs xs=xs.map Za.c
 | []=>rfl
 | x::xs=>by rw [Za.cs,Za.Zga xs];rfl
@[go_sem] theorem Za.ZfD (x:Za):x.c=[.int .i64 x.kind,.int .i64 x.n,.str x.text,.sl (x.args.map Za.c)]:=by
 cases x;simp only [Za.c,Za.Zga]
@[go_sem] theorem Za.lens (xs:List Za):(∀e∈xs.map Za.c,e.length=4)↔True:=by simp [Za.ZfD]
end Go.Proofs.Ytneeinggggadpaa
namespace Go.Proofs.Ytneeinggggadpaa
open Go.RowKit Am
instance:Enc Zf:=⟨Zf.c⟩
@[go_sem] theorem Zf.enc:(Enc.c:Zf→List L)=Zf.c:=rfl
instance:Enc Ze:=⟨Ze.c⟩
@[go_sem] theorem Ze.enc:(Enc.c:Ze→List L)=Ze.c:=rfl
instance:Enc Zb:=⟨Zb.c⟩
@[go_sem] theorem Zb.enc:(Enc.c:Zb→List L)=Zb.c:=rfl
instance:Enc Za:=⟨Za.c⟩
@[go_sem] theorem Za.enc:(Enc.c:Za→List L)=Za.c:=rfl
end Go.Proofs.Ytneeinggggadpaa
