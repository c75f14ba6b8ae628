import Derived.Test.YtbkllghhcphkaaaGreatDoorPkD
set_option linter.unusedSimpArgs false
set_option linter.unusedVariables false
namespace Go.Proofs.YtbkllghhcphkaaaGreatDoor
open Go.RowKit Am
@[go_sem] theorem ti3:ti Tryz.prog 3=some ⟨(.int .i64),1,8,[.int .i64 0]⟩:=by kernel_rfl
@[go_sem] theorem ti4:ti Tryz.prog 4=some ⟨.bool,1,1,[.bool false]⟩:=by kernel_rfl
@[go_sem] theorem ti5:ti Tryz.prog 5=some ⟨(.int .u8),1,1,[.int .u8 0]⟩:=by kernel_rfl
@[go_sem] theorem ti9:ti Tryz.prog 9=some ⟨.str,1,16,[.string ⟨#[]⟩]⟩:=by kernel_rfl
@[go_sem] theorem Zwb:ti Tryz.prog 22=some ⟨(.slice 45),1,24,[.slice none 0 0]⟩:=by kernel_rfl
@[go_sem] theorem Zwa:ti Tryz.prog 24=some ⟨(.struct [(0,22)]),1,24,[.slice none 0 0]⟩:=by kernel_rfl
@[go_sem] theorem Zv9:ti Tryz.prog 26=some ⟨(.slice 3),1,24,[.slice none 0 0]⟩:=by kernel_rfl
@[go_sem] theorem Zv8:ti Tryz.prog 28=some ⟨(.slice 59),1,24,[.slice none 0 0]⟩:=by kernel_rfl
@[go_sem] theorem Zv7:ti Tryz.prog 30=some ⟨(.struct [(0,28)]),1,24,[.slice none 0 0]⟩:=by kernel_rfl
@[go_sem] theorem Zv6:ti Tryz.prog 45=some ⟨(.struct [(0,3),(1,3),(2,3),(3,9),(4,9),(5,3)]),6,64,[.int .i64 0,.int .i64 0,.int .i64 0,.string ⟨#[]⟩,.string ⟨#[]⟩,.int .i64 0]⟩:=by kernel_rfl
@[go_sem] theorem Zv5:ti Tryz.prog 59=some ⟨(.struct [(0,3),(1,3),(2,3),(3,9),(4,9),(5,3)]),6,64,[.int .i64 0,.int .i64 0,.int .i64 0,.string ⟨#[]⟩,.string ⟨#[]⟩,.int .i64 0]⟩:=by kernel_rfl
@[go_sem] theorem Zv4:ti Tryz.prog 66=some ⟨(.slice 80),1,24,[.slice none 0 0]⟩:=by kernel_rfl
@[go_sem] theorem Zv3:ti Tryz.prog 68=some ⟨(.slice 72),1,24,[.slice none 0 0]⟩:=by kernel_rfl
@[go_sem] theorem Zv2:ti Tryz.prog 69=some ⟨(.slice 9),1,24,[.slice none 0 0]⟩:=by kernel_rfl
@[go_sem] theorem Zv1:ti Tryz.prog 70=some ⟨(.slice 166),1,24,[.slice none 0 0]⟩:=by kernel_rfl
@[go_sem] theorem Zv0:ti Tryz.prog 72=some ⟨(.struct [(0,3),(1,3),(2,3),(3,9),(4,68),(5,69),(6,70)]),7,112,[.int .i64 0,.int .i64 0,.int .i64 0,.string ⟨#[]⟩,.slice none 0 0,.slice none 0 0,.slice none 0 0]⟩:=by kernel_rfl
@[go_sem] theorem ZvZ:ti Tryz.prog 76=some ⟨(.slice 78),1,24,[.slice none 0 0]⟩:=by kernel_rfl
@[go_sem] theorem ZvY:ti Tryz.prog 78=some ⟨(.struct [(0,3),(1,3),(2,9),(3,76)]),4,56,[.int .i64 0,.int .i64 0,.string ⟨#[]⟩,.slice none 0 0]⟩:=by kernel_rfl
@[go_sem] theorem ZvX:ti Tryz.prog 80=some ⟨(.struct [(0,3),(1,9),(2,78),(6,72),(13,3)]),14,200,[.int .i64 0,.string ⟨#[]⟩,.int .i64 0,.int .i64 0,.string ⟨#[]⟩,.slice none 0 0,.int .i64 0,.int .i64 0,.int .i64 0,.string ⟨#[]⟩,.slice none 0 0,.slice none 0 0,.slice none 0 0,.int .i64 0]⟩:=by kernel_rfl
@[go_sem] theorem ZvI:ti Tryz.prog 112=some ⟨(.slice 26),1,24,[.slice none 0 0]⟩:=by kernel_rfl
@[go_sem] theorem ZvH:ti Tryz.prog 115=some ⟨(.slice 4),1,24,[.slice none 0 0]⟩:=by kernel_rfl
@[go_sem] theorem ZvG:ti Tryz.prog 164=some ⟨(.slice 208),1,24,[.slice none 0 0]⟩:=by kernel_rfl
@[go_sem] theorem ZvF:ti Tryz.prog 166=some ⟨(.struct [(0,26),(1,164)]),2,48,[.slice none 0 0,.slice none 0 0]⟩:=by kernel_rfl
@[go_sem] theorem ZvE:ti Tryz.prog 168=some ⟨(.slice 5),1,24,[.slice none 0 0]⟩:=by kernel_rfl
@[go_sem] theorem ZvD:ti Tryz.prog 184=some ⟨.fn,1,8,[.nilFunc]⟩:=by kernel_rfl
@[go_sem] theorem ZvC:ti Tryz.prog 185=some ⟨.fn,1,8,[.nilFunc]⟩:=by kernel_rfl
@[go_sem] theorem ZvB:ti Tryz.prog 187=some ⟨(.struct [(0,184),(1,185)]),2,16,[.nilFunc,.nilFunc]⟩:=by kernel_rfl
@[go_sem] theorem ZvA:ti Tryz.prog 194=some ⟨(.slice 214),1,24,[.slice none 0 0]⟩:=by kernel_rfl
@[go_sem] theorem Zvz:ti Tryz.prog 199=some ⟨(.struct [(0,194),(1,3),(2,3),(3,3)]),4,48,[.slice none 0 0,.int .i64 0,.int .i64 0,.int .i64 0]⟩:=by kernel_rfl
@[go_sem] theorem Zvy:ti Tryz.prog 208=some ⟨(.struct [(0,3),(1,3)]),2,16,[.int .i64 0,.int .i64 0]⟩:=by kernel_rfl
@[go_sem] theorem Zvx:ti Tryz.prog 211=some ⟨(.struct [(0,194),(1,3),(2,3)]),3,40,[.slice none 0 0,.int .i64 0,.int .i64 0]⟩:=by kernel_rfl
@[go_sem] theorem Zvw:ti Tryz.prog 214=some ⟨(.struct [(0,3),(1,3),(2,3),(3,9)]),4,40,[.int .i64 0,.int .i64 0,.int .i64 0,.string ⟨#[]⟩]⟩:=by kernel_rfl
@[go_sem] theorem Zvb:mti Tryz.prog 120=some (⟨(.int .i64),1,8,[.int .i64 0]⟩,.bool false):=by kernel_rfl
namespace Am
section
variable {P:Program} {ops:Array Oper} {σ σ' σ0:St} {K:St->Prop} {o:Oper} {rest:List Oper} {g:Eff} {B As:List (List Nat)} {i:Nat} {es:List (Nat×Eff)} {f:Nat} {xs:List Operand}
theorem ZmT:Zi7 P ops o rest σ K (some (f,xs))=ZgE P ops o rest σ K f (Xl σ xs) ((Xl σ xs).bind (WN σ)):=rfl
theorem ZmU:Zi7 P ops o rest σ K none=Ze2 P ops o rest σ K (Jo P σ o):=rfl
theorem Zk6:Ze2 P ops o rest σ K (some g)=(g.side/\Z5 P ops rest (σ.app g) K):=rfl
theorem Zk7:Ze2 P ops o rest σ K none=HBy P σ o fun g=>Z5 P ops rest (σ.app g) K:=rfl
theorem Zk8:ZgD P ops rest σ K (some g)=(g.side/\Z5 P ops rest (σ.app g) K):=rfl
theorem Zk9:ZgD P ops rest σ K none=False:=rfl
theorem ZmE:Zm6 P ops σ0 K B As o rest i es σ (some (f,xs))=ZkZ P ops σ0 K B As o rest i es σ f (Xl σ xs) ((Xl σ xs).bind (WN σ)):=rfl
theorem ZmF:Zm6 P ops σ0 K B As o rest i es σ none=ZeR P ops σ0 K B As rest i es (Jo P σ o):=rfl
section
variable {b want:Bool}
@[congr] theorem ZoV {v v':Option Bool} (hs:σ=σ') (hv:v=v'):Vr P ops o rest σ K want v=Vr P ops o rest σ' K want v':=by rw [hs,hv]
theorem ZmV:Vr P ops o rest σ K true (some true)=Zi7 P ops o rest σ K (Xv o.op):=by simp [Vr]
theorem ZmY:Vr P ops o rest σ K false (some false)=Zi7 P ops o rest σ K (Xv o.op):=by simp [Vr]
theorem ZmW:Vr P ops o rest σ K true (some false)=Z5 P ops rest (σ.kill o.dst) K:=by simp [Vr]
theorem ZmX:Vr P ops o rest σ K false (some true)=Z5 P ops rest (σ.kill o.dst) K:=by simp [Vr]
end
theorem ZkV:ZeR P ops σ0 K B As rest i es (some g)=(g.side/\ZdK P ops σ0 K B As rest (i+1) ((i,g)::es)):=rfl
theorem ZkW:ZeR P ops σ0 K B As rest i es none=False:=rfl
theorem ZiY {want b:Bool}:ZhH P ops σ0 K B As o rest i es σ want (some b)=if b=want then Zm6 P ops σ0 K B As o rest i es σ (Xv o.op) else ZdK P ops σ0 K B As rest (i+1) ((i,⟨True,match o.dst with | some d=>[(d,.dead)]| none=>[],[],[]⟩)::es):=rfl
theorem ZiZ {want:Bool}:ZhH P ops σ0 K B As o rest i es σ want none=False:=rfl
theorem ZvN {x:L}:VF [.l x]=true:=rfl
theorem ZrJ:VF [.nil]=true:=rfl
theorem ZrH {τ n:Nat}:VF [.own τ n]=true:=rfl
theorem ZrN {k o:Nat}:VF [.box k o]=true:=rfl
theorem ZrP {ls:List L}:VF [.adr ls]=true:=rfl
theorem ZrL {τ n i W o:Nat}:VF [.elt τ n i W o]=true:=rfl
theorem ZrI {τ j W o m:Nat}:VF [.nst τ j W o m]=true:=rfl
theorem ZrK {τ j W o m:Nat}:VF [.nel τ j W o m]=true:=rfl
theorem ZtK {τ n l h W:Nat}:VF [.vw τ n l h W]=true:=rfl
theorem ZrO:VF [.any]=true:=rfl
theorem ZpE {v:Value} {x:L}:VF [.kept v x]=true:=rfl
theorem ZtL:VF [.np]=true:=rfl
theorem ZrM {f:Nat} {ks:List Nat}:VF [.clo f ks]=true:=rfl
theorem ZtM:VF [.nf]=true:=rfl
theorem ZtN {k:Nat}:VF [.mp k]=true:=rfl
theorem ZvM:VF []=true:=rfl
theorem ZvO {c d:CV} {cs:List CV}:VF (c::d::cs)=true:=rfl
def bs3 (σ:St) (d len:Nat) (vs:List (Nat×V)) (ei:TI):List (List CV)->Option (List (List L)×Bool×List Nat×Prop)->Option Eff
 | css,some (es,f,τs,q)=>if d<σ.nt/\vs.map (·.1)=List.range len/\css.all (fun c=>c.length==ei.size)/\τs.Nodup/\len*ei.size<=16777216/\len<=16777216/\ei.zero.length=ei.size/\(σ.ar.lookup (64*d)).isNone then
   some ⟨q/\64*d<1000000,[(d,.one (.own (64*d) es.length))],[],(64*d,some ⟨f,es⟩)::τs.map (fun κ=>(κ,none))⟩ else none
 | _,none=>none
def bs2 (σ:St) (d len:Nat) (vs:List (Nat×V)):Option TI->Option (List (List CV))->Option Eff
 | some ei,some css=>bs3 σ d len vs ei css (ZgP σ css)
 | _,_=>none
def bs1 (P:Program) (σ:St) (d len:Nat):Option TI->Option (List (Nat×V))->Option Eff
 | some ⟨.slice et,_,_,_⟩,some vs=>bs2 σ d len vs (ti P et) (ZcC vs)
 | _,_=>none
theorem Zod {d len:Nat} {vs:List (Nat×V)} {ei:TI} {css:List (List CV)} {es:List (List L)} {f:Bool} {τs:List Nat} {q:Prop}:bs3 σ d len vs ei css (some (es,f,τs,q))=if d<σ.nt/\vs.map (·.1)=List.range len/\css.all (fun c=>c.length==ei.size)/\τs.Nodup/\len*ei.size<=16777216/\len<=16777216/\ei.zero.length=ei.size/\(σ.ar.lookup (64*d)).isNone then
   some ⟨q/\64*d<1000000,[(d,.one (.own (64*d) es.length))],[],(64*d,some ⟨f,es⟩)::τs.map (fun κ=>(κ,none))⟩ else none:=rfl
theorem Zoe {d len:Nat} {vs:List (Nat×V)} {ei:TI} {css:List (List CV)}:bs2 σ d len vs (some ei) (some css)=bs3 σ d len vs ei css (ZgP σ css):=rfl
theorem Zof {d len et a b:Nat} {c:List Value} {vs:List (Nat×V)}:bs1 P σ d len (some ⟨.slice et,a,b,c⟩) (some vs)=bs2 σ d len vs (ti P et) (ZcC vs):=rfl
theorem ZjG {d t len:Nat} {ps:Array (Nat×Operand)}:XZ P σ (some d) (.buildSlice t len ps)=bs1 P σ d len (ti P t) (parts σ ps.toList):=by
 simp only [XZ];cases ti P t with
 | none=>rfl
 | some i=>
  obtain ⟨td,a,b,c⟩:=i;cases parts σ ps.toList with
  | none=>cases td<;>rfl
  | some vs=>
   cases td<;>try rfl
   rename_i et;simp only [bs1];cases ti P et with
   | none=>rfl
   | some ei=>
    cases ZcC vs with
    | none=>rfl
    | some css=>
     simp only [bs2];cases ZgP σ css with
     | none=>rfl
     | some r=>obtain ⟨es,f,τs,q⟩:=r;rfl
theorem ZqN {d t len:Nat} {ps:Array (Nat×Operand)} {ty:TypeId} {pos:String} {af:Array Edge} {gd:Option (Nat×Bool)}:Zi7 P ops { dst:=some d,op:=.buildSlice t len ps,type:=ty,pos:=pos,after:=af,guard:=gd} rest σ K none=Ze2 P ops { dst:=some d,op:=.buildSlice t len ps,type:=ty,pos:=pos,after:=af,guard:=gd} rest σ K (bs1 P σ d len (ti P t) (parts σ ps.toList)):=
 congrArg (Ze2 P ops { dst:=some d,op:=.buildSlice t len ps,type:=ty,pos:=pos,after:=af,guard:=gd} rest σ K) ZjG
theorem ZqE {d t len:Nat} {ps:Array (Nat×Operand)} {ty:TypeId} {pos:String} {af:Array Edge} {gd:Option (Nat×Bool)}:Zm6 P ops σ0 K B As { dst:=some d,op:=.buildSlice t len ps,type:=ty,pos:=pos,after:=af,guard:=gd} rest i es σ none=ZeR P ops σ0 K B As rest i es (bs1 P σ d len (ti P t) (parts σ ps.toList)):=
 congrArg (ZeR P ops σ0 K B As rest i es) ZjG
end
end Am
attribute [go_sem high] ZqN ZqE
attribute [go_sem] ZvN ZrJ ZrH ZrN ZrP ZrL ZrI ZrK ZtK ZrO ZpE ZtL ZrM ZtM ZtN ZvM ZvO Zof Zoe Zod ZnS Zub Zm8 Zix Zl7 Zkk ZaV Jl Jm ZmT ZmU Zla Zlb Zk8 Zk9 Zk6 Zk7 ZmV ZmY ZmW ZmX Zi8 Xv Jo QK XZ opd Zj1 ZhD Zdw Kw yld St.kill St.app lookup_cons ZfP inB Zum Zis Zu9 Zva Zb8 ZtC ZsY ZsU ZrF ZtG ZvL ZsT Zjz ZsS St.ren ZgK Vt ZdX frV frL frC Zfa Zlg Zfb Zlh ZgP WN ZgN ZgO ZiS Xl num bI bSh bS Zew inV QT J3 Zft Zgl Zf2 ptD L.flat ZeK Vs Zj8 ZfC ZfD ZmE ZmF ZkX ZkY ZkV ZkW ZiY ZiZ view ZaD Ue TD.agg ZcB ZcC parts ZiQ eqC Zqf ZsW ZpB Vq Zjo base setAt cle KP Zps vle ZqW Zq0 Zq3 iC sC bC lC Zfv Zbh Zjp
theorem mixed:Tryz.prog.follows .mixedOrders=true:=by kernel_rfl
@[go_sem] theorem Zu6 {n:Int} (h: -9223372036854775808<=n/\n<=9223372036854775807):IntKind.i64.wrap n=n:=IntWalk.i64_in n h
@[go_sem] theorem Zs8 {n:Int} (h:0<=n/\n<=255):IntKind.u8.wrap n=n:=IntWalk.u8_in n h
@[go_sem] theorem ZsP {α:Type} {p:α->Prop} {xs:List α} {n:Nat} (h:∀z∈xs,p z):(∀z∈xs.take n,p z)↔True:=⟨fun _=>trivial,fun _ z hz=>h z (List.mem_of_mem_take hz)⟩
@[go_sem] theorem take_len {α β:Type} (f:α->β) (xs:List α):(xs.map f).take xs.length=xs.map f:=List.take_of_length_le (by simp)
@[go_sem] theorem Zs2 {α:Type} {p:α->Prop} {xs:List α} {n:Nat} (h:∀z∈xs,p z):(∀z∈xs.drop n,p z)↔True:=⟨fun _=>trivial,fun _ z hz=>h z (List.mem_of_mem_drop hz)⟩
@[go_sem] theorem ZnU (xs:List Int):Vs (xs.map iC)=true:=by
 refine List.all_eq_true.2 fun e he=> ?_;obtain ⟨x,_,rfl⟩:=List.mem_map.1 he
 rfl
structure Zk where
 id:Int
 version:Int
 kind:Int
 name:ByteArray
 code:ByteArray
 n:Int
def Zk.c (x:Zk):List L:=[.int .i64 x.id,.int .i64 x.version,.int .i64 x.kind,.str x.name,.str x.code,.int .i64 x.n]
@[go_sem] theorem Zk.ZeQ (x:Zk):x.c=[.int .i64 x.id,.int .i64 x.version,.int .i64 x.kind,.str x.name,.str x.code,.int .i64 x.n]:=rfl
structure Ze where
 cells:List Zk
def Ze.c (x:Ze):List L:=[.sl (x.cells.map Zk.c)]
@[go_sem] theorem Ze.ZeQ (x:Ze):x.c=[.sl (x.cells.map Zk.c)]:=rfl
structure Zh where
 kind:Int
 n:Int
 at_:Int
 text:ByteArray
def Zh.c (x:Zh):List L:=[.int .i64 x.kind,.int .i64 x.n,.int .i64 x.at_,.str x.text]
@[go_sem] theorem Zh.ZeQ (x:Zh):x.c=[.int .i64 x.kind,.int .i64 x.n,.int .i64 x.at_,.str x.text]:=rfl
structure Zd where
 toks:List Zh
 i:Int
 end_:Int
 bad:Int
def Zd.c (x:Zd):List L:=[.sl (x.toks.map Zh.c),.int .i64 x.i,.int .i64 x.end_,.int .i64 x.bad]
@[go_sem] theorem Zd.ZeQ (x:Zd):x.c=[.sl (x.toks.map Zh.c),.int .i64 x.i,.int .i64 x.end_,.int .i64 x.bad]:=rfl
structure Za where
 kind:Int
 n:Int
 text:ByteArray
 args:List Za
mutual
def Za.c:Za->List L
 | ⟨kind,n,text,args⟩=>[.int .i64 kind,.int .i64 n,.str text,.sl (Za.cs args)]
def Za.cs:List Za->List (List L)
 | []=>[]
 | x::xs=>Za.c x::Za.cs xs
end
theorem Za.ZhC:∀xs:List Za,Za.cs xs=xs.map Za.c
 | []=>rfl
 | x::xs=>by rw [Za.cs,Za.ZhC xs];rfl
@[go_sem] theorem Za.ZeQ (x:Za):x.c=[.int .i64 x.kind,.int .i64 x.n,.str x.text,.sl (x.args.map Za.c)]:=by
 cases x;simp only [Za.c,Za.ZhC]
structure ZD where
 cell:Int
 row:Int
def ZD.c (x:ZD):List L:=[.int .i64 x.cell,.int .i64 x.row]
@[go_sem] theorem ZD.ZeQ (x:ZD):x.c=[.int .i64 x.cell,.int .i64 x.row]:=rfl
@[go_sem] theorem ZD.Zvh (xs:List ZD):xs.all (ZeK∘ZD.c)=true:=by simp [ZeK,L.flat,ZD.ZeQ]
structure YT where
 cells:List Int
 from_:List ZD
def YT.c (x:YT):List L:=[.sl (x.cells.map iC),.sl (x.from_.map ZD.c)]
@[go_sem] theorem YT.ZeQ (x:YT):x.c=[.sl (x.cells.map iC),.sl (x.from_.map ZD.c)]:=rfl
structure Zb where
 kind:Int
 n:Int
 step:Int
 text:ByteArray
 list:List Zb
 columns:List ByteArray
 rows:List YT
mutual
def Zb.c:Zb->List L
 | ⟨kind,n,step,text,list,columns,rows⟩=>[.int .i64 kind,.int .i64 n,.int .i64 step,.str text,.sl (Zb.cs list),.sl (columns.map sC),.sl (rows.map YT.c)]
def Zb.cs:List Zb->List (List L)
 | []=>[]
 | x::xs=>Zb.c x::Zb.cs xs
end
theorem Zb.ZhC:∀xs:List Zb,Zb.cs xs=xs.map Zb.c
 | []=>rfl
 | x::xs=>by rw [Zb.cs,Zb.ZhC xs];rfl
@[go_sem] theorem Zb.ZeQ (x:Zb):x.c=[.int .i64 x.kind,.int .i64 x.n,.int .i64 x.step,.str x.text,.sl (x.list.map Zb.c),.sl (x.columns.map sC),.sl (x.rows.map YT.c)]:=by
 cases x;simp only [Zb.c,Zb.ZhC]
structure Zm where
 kind:Int
 name:ByteArray
 expr:Za
 value:Zb
 at_:Int
def Zm.c (x:Zm):List L:=[.int .i64 x.kind,.str x.name,.int .i64 x.expr.kind,.int .i64 x.expr.n,.str x.expr.text,.sl (x.expr.args.map Za.c),.int .i64 x.value.kind,.int .i64 x.value.n,.int .i64 x.value.step,.str x.value.text,.sl (x.value.list.map Zb.c),.sl (x.value.columns.map sC),.sl (x.value.rows.map YT.c),.int .i64 x.at_]
@[go_sem] theorem Zm.ZeQ (x:Zm):x.c=[.int .i64 x.kind,.str x.name,.int .i64 x.expr.kind,.int .i64 x.expr.n,.str x.expr.text,.sl (x.expr.args.map Za.c),.int .i64 x.value.kind,.int .i64 x.value.n,.int .i64 x.value.step,.str x.value.text,.sl (x.value.list.map Zb.c),.sl (x.value.columns.map sC),.sl (x.value.rows.map YT.c),.int .i64 x.at_]:=rfl
structure Zf where
 list:List Zh
 at_:Int
 bad:Int
def Zf.c (x:Zf):List L:=[.sl (x.list.map Zh.c),.int .i64 x.at_,.int .i64 x.bad]
@[go_sem] theorem Zf.ZeQ (x:Zf):x.c=[.sl (x.list.map Zh.c),.int .i64 x.at_,.int .i64 x.bad]:=rfl
structure ZcI where
 name:ByteArray
 n:Int
def ZcI.c (x:ZcI):List L:=[.str x.name,.int .i64 x.n]
@[go_sem] theorem ZcI.ZeQ (x:ZcI):x.c=[.str x.name,.int .i64 x.n]:=rfl
structure Zbi where
 clock:Int
 seed:Int
 files:List ZcI
def Zbi.c (x:Zbi):List L:=[.int .i64 x.clock,.int .i64 x.seed,.sl (x.files.map ZcI.c)]
@[go_sem] theorem Zbi.ZeQ (x:Zbi):x.c=[.int .i64 x.clock,.int .i64 x.seed,.sl (x.files.map ZcI.c)]:=rfl
structure ZdM where
 kind:Int
 n:Int
 time:Int
 text:ByteArray
 result:Zb
def ZdM.c (x:ZdM):List L:=[.int .i64 x.kind,.int .i64 x.n,.int .i64 x.time,.str x.text,.int .i64 x.result.kind,.int .i64 x.result.n,.int .i64 x.result.step,.str x.result.text,.sl (x.result.list.map Zb.c),.sl (x.result.columns.map sC),.sl (x.result.rows.map YT.c)]
@[go_sem] theorem ZdM.ZeQ (x:ZdM):x.c=[.int .i64 x.kind,.int .i64 x.n,.int .i64 x.time,.str x.text,.int .i64 x.result.kind,.int .i64 x.result.n,.int .i64 x.result.step,.str x.result.text,.sl (x.result.list.map Zb.c),.sl (x.result.columns.map sC),.sl (x.result.rows.map YT.c)]:=rfl
structure ZdL where
 cell:Int
 version:Int
 reads:List ZdM
def ZdL.c (x:ZdL):List L:=[.int .i64 x.cell,.int .i64 x.version,.sl (x.reads.map ZdM.c)]
@[go_sem] theorem ZdL.ZeQ (x:ZdL):x.c=[.int .i64 x.cell,.int .i64 x.version,.sl (x.reads.map ZdM.c)]:=rfl
structure KM where
 cell:Int
 version:Int
 stamp:Int
 inputs:List Int
 value:Zb
 has:Bool
def KM.c (x:KM):List L:=[.int .i64 x.cell,.int .i64 x.version,.int .i64 x.stamp,.sl (x.inputs.map iC),.int .i64 x.value.kind,.int .i64 x.value.n,.int .i64 x.value.step,.str x.value.text,.sl (x.value.list.map Zb.c),.sl (x.value.columns.map sC),.sl (x.value.rows.map YT.c),.bool x.has]
@[go_sem] theorem KM.ZeQ (x:KM):x.c=[.int .i64 x.cell,.int .i64 x.version,.int .i64 x.stamp,.sl (x.inputs.map iC),.int .i64 x.value.kind,.int .i64 x.value.n,.int .i64 x.value.step,.str x.value.text,.sl (x.value.list.map Zb.c),.sl (x.value.columns.map sC),.sl (x.value.rows.map YT.c),.bool x.has]:=rfl
structure KA where
 notebook:Ze
 world:Zbi
 tapes:List ZdL
 entries:List KM
 next:Int
 limit:Int
 work:Int
def KA.c (x:KA):List L:=[.sl (x.notebook.cells.map Zk.c),.int .i64 x.world.clock,.int .i64 x.world.seed,.sl (x.world.files.map ZcI.c),.sl (x.tapes.map ZdL.c),.sl (x.entries.map KM.c),.int .i64 x.next,.int .i64 x.limit,.int .i64 x.work]
@[go_sem] theorem KA.ZeQ (x:KA):x.c=[.sl (x.notebook.cells.map Zk.c),.int .i64 x.world.clock,.int .i64 x.world.seed,.sl (x.world.files.map ZcI.c),.sl (x.tapes.map ZdL.c),.sl (x.entries.map KM.c),.int .i64 x.next,.int .i64 x.limit,.int .i64 x.work]:=rfl
structure ZgG where
 kind:Int
 at_:Int
 cell:Zk
def ZgG.c (x:ZgG):List L:=[.int .i64 x.kind,.int .i64 x.at_,.int .i64 x.cell.id,.int .i64 x.cell.version,.int .i64 x.cell.kind,.str x.cell.name,.str x.cell.code,.int .i64 x.cell.n]
@[go_sem] theorem ZgG.ZeQ (x:ZgG):x.c=[.int .i64 x.kind,.int .i64 x.at_,.int .i64 x.cell.id,.int .i64 x.cell.version,.int .i64 x.cell.kind,.str x.cell.name,.str x.cell.code,.int .i64 x.cell.n]:=rfl
end Go.Proofs.YtbkllghhcphkaaaGreatDoor
namespace Go.Proofs.YtbkllghhcphkaaaGreatDoor.Am
open Go.RowKit
section
variable {P:Program} {ops:Array Oper} {post:List Oper} {σ:St} {K:St->Prop}
def Zvr (P:Program) (f:Nat) (dv:DV) (k:Int) (X:DV->Int->Prop):Prop:=∃d' k',ZqQ P f dv k d' k'/\X d' k'
theorem ZsB {f:Nat} {d d0 d':DV} {k k0 k':Int} {X:DV->Int->Prop} (h:ZqQ P f d k d' k') (hd:d0=d) (hk:k0=k) (hx:X d' k'):Zvr P f d0 k0 X:=⟨d',k',hd▸hk▸h,hx⟩
theorem Znb {d f:Nat} {x:V} {k:Int} {dv:DV} {τs:List Nat} {p:Prop}:wOp P ops post σ K d f x k (some (dv,τs,p))=(p/\τs.Nodup/\d<σ.nt/\Zvr P f dv k fun d' k'=>ZuN σ τs (Zky x d')/\Z5 P ops post (Zh0 σ d k' (Zky x d')) K):=rfl
theorem Zlj {d f:Nat} {x:V} {k:Int}:Znd P ops post σ K d f (some [x,.one (.l (.int .i64 k))])=wOp P ops post σ K d f x k (wrV σ x):=rfl
theorem Zkl {d f:Nat} {xs:Array Operand} {ts:Array TypeId} {ty:Nat} {pos:String} {af:Array Edge}:Znc P ops σ K (⟨some d,.call { callee:=.value (.func f),args:=xs,argTypes:=ts},ty,pos,af,none⟩::post)=Znd P ops post σ K d f (Xl σ xs.toList):=rfl
end
def wr? {α:Type} (f:α->Int->α) (cn:α->Nat) (k:Int) (x:α):Option (α×Int):=if 0<=k/\k+cn x<=1099511627776 then some (f x k,k+cn x) else none
theorem ZcJ {α:Type} {f:α->Int->α} {cn:α->Nat} {k:Int} {x:α} {y:α×Int} (h:wr? f cn k x=some y):y.1=f x k/\y.2=k+cn x/\0<=k/\k+cn x<=1099511627776:=by
 unfold wr? at h
 split at h
 ·obtain rfl:=Zwf h;exact ⟨rfl,rfl,by assumption⟩
 ·cases h
theorem Zq5 {α:Type} {f:α->Int->α} {cn:α->Nat} {k:Int} {x:α} (h:0<=k) (h1:k+cn x<=1099511627776):wr? f cn k x=some (f x k,k+cn x):=by unfold wr?;rw [if_pos ⟨h,h1⟩]
def hd? (k:Int) (c:Nat):Option Int:=if 0<=k/\k+c<=1099511627776 then some (k+c) else none
theorem Zp8 {k:Int} {c:Nat} {z:Int} (h:hd? k c=some z):z=k+c/\0<=k/\k+c<=1099511627776:=by
 unfold hd? at h
 split at h
 ·obtain rfl:=Zwf h;exact ⟨rfl,by assumption⟩
 ·cases h
theorem Zug {k:Int} {c:Nat} (h:0<=k) (h1:k+c<=1099511627776):hd? k c=some (k+c):=by unfold hd?;rw [if_pos ⟨h,h1⟩]
def Zi6 {α:Type} (τs:List Nat):List (Nat×α)->Prop
 | []=>True
 | p::ps=>p.1∈τs/\Zi6 τs ps
theorem ZmR {α:Type} (τs:List Nat):Zi6 (α:=α) τs []=True:=rfl
theorem ZfG {α:Type} (τs:List Nat) (p:Nat×α) (ps:List (Nat×α)):Zi6 τs (p::ps)=(p.1∈τs/\Zi6 τs ps):=rfl
theorem ZhS {α:Type} (τs:List Nat):∀ps:List (Nat×α),Zi6 τs ps↔∀p∈ps,p.1∈τs
 | []=>by simp [Zi6]
 | p::ps=>by rw [ZfG,ZhS τs ps];simp
def Zvj (σ:St) (m:List (Nat×List (List L))) (τ:Nat):Prop:=∃A es,σ.ar.lookup τ=some (some A)/\m.lookup τ=some es/\A.es.length=es.length
def ZqM (p:Nat->Prop):List Nat->Prop
 | []=>True
 | x::xs=>p x/\ZqM p xs
theorem Zoi (p:Nat->Prop):ZqM p []=True:=rfl
theorem ZhT (p:Nat->Prop) (x:Nat) (xs:List Nat):ZqM p (x::xs)=(p x/\ZqM p xs):=rfl
theorem Zkd (p:Nat->Prop):∀xs:List Nat,ZqM p xs↔∀x∈xs,p x
 | []=>by simp [ZqM]
 | x::xs=>by rw [ZhT,Zkd p xs];simp
theorem Zqu (σ:St) (τs:List Nat) (m:List (Nat×List (List L))):ZuN σ τs m=(ZqM (Zvj σ m) τs/\Zi6 τs m):=by
 rw [Zkd,ZhS];rfl
attribute [go_sem] Znb Zlj Zkl wrV wrL wrC Zky Zld mkV mkC St.wrote Zh0 Zqu Zoi ZhT ZmR ZfG Zvj
end Go.Proofs.YtbkllghhcphkaaaGreatDoor.Am
namespace Go.Proofs.YtbkllghhcphkaaaGreatDoor
open Go.RowKit Am
theorem ZiV {α:Type} {cn:α->Nat} {f:α->Nat} {C:Nat}:∀(xs:List α),(∀x∈xs,cn x<=C*(1+f x))->cnS cn xs<=C*(xs.length+(xs.map f).sum)
 | [],_=>by simp [cnS]
 | x::xs,h=>by
  have h1:=h x (List.mem_cons_self ..);have h2:=ZiV xs fun y hy=>h y (List.mem_cons_of_mem _ hy);simp only [cnS,List.length_cons,List.map_cons,List.sum_cons];rw [show xs.length+1+(f x+(xs.map f).sum)=(1+f x)+(xs.length+(xs.map f).sum) from by omega,Nat.mul_add];omega
open Go.RowKit Am
def Zk.d (x:Zk):D:=.agg [D.int x.id,D.int x.version,D.int x.kind,D.str x.name,D.str x.code,D.int x.n]
def Zk.mark (x:Zk) (k:Int):Zk:=⟨k,k+1,k+1+1,ZdF (k+1+1+1),ZdF (k+1+1+1+1),k+1+1+1+1+1⟩
def Zk.cn (x:Zk):Nat:=6
def Zk.ZiC (xs:List Zk) (k:Int):List Zk:=mkL Zk.mark Zk.cn xs k
def Zk.cnL (xs:List Zk):Nat:=cnS Zk.cn xs
theorem Zk.Zcf (xs:List Zk) (k:Int):Zk.ZiC xs k=mkL Zk.mark Zk.cn xs k:=rfl
theorem Zk.ZeP (xs:List Zk):Zk.cnL xs=cnS Zk.cn xs:=rfl
theorem Zk.ZpM (x:Zk) (k:Int):x.mark k=⟨k,k+1,k+1+1,ZdF (k+1+1+1),ZdF (k+1+1+1+1),k+1+1+1+1+1⟩:=rfl
theorem Zk.Zsn (x:Zk):x.cn=6:=rfl
def Ze.d (x:Ze):D:=.agg [D.sl (x.cells.map Zk.d)]
def Ze.ZiB (x:Ze) (k:Int):Ze:=⟨Zk.ZiC x.cells (k)⟩
def Ze.cnV (x:Ze):Nat:=Zk.cnL x.cells
theorem Ze.Zl0 {k:Int} {x:Ze} {y:Ze×Int} (h:wr? Ze.ZiB Ze.cnV k x=some y):y.1.cells.length=x.cells.length:=by
 rw [(ZcJ h).1];simp only [Ze.ZiB,Zk.Zcf,Xr,and_self]
def Zeu (_:Int) (k:Int):Int:=k
def Zgj (_:Int):Nat:=1
def XN (xs:List Int) (k:Int):List Int:=mkL Zeu Zgj xs k
def QR (xs:List Int):Nat:=cnS Zgj xs
theorem Xj (xs:List Int) (k:Int):XN xs k=mkL Zeu Zgj xs k:=rfl
theorem XS (xs:List Int):QR xs=cnS Zgj xs:=rfl
theorem Zhq {k:Int} {xs:List Int} {y:List Int×Int} (h:wr? XN QR k xs=some y):y.1.length=xs.length:=by
 rw [(ZcJ h).1,Xj,Xr]
open Go.RowKit
theorem Zk.wd_ (x:Zk):wd x.d=6:=by simp [Zk.d,wd,wdL]
theorem Zk.wds (xs:List Zk):∀d∈xs.map Zk.d,wd d=6:=by
 intro d hd;obtain ⟨x,_,rfl⟩:=List.mem_map.1 hd;exact x.wd_
theorem Zk.open_ {w:World} {x:Zk} {cs:List Value} {F:List Nat} (h:Rep w x.d cs F):
  cs=[.int .i64 x.id,.int .i64 x.version,.int .i64 x.kind,.string x.name,.string x.code,.int .i64 x.n]/\F=[]/\I64 x.id/\I64 x.version/\I64 x.kind/\Fits x.name/\Fits x.code/\I64 x.n:=by
 simp only [Zk.d,Zf3,Zeg,Zf4,Zef,Zjy,Zim,Zov,List.length_map] at h;obtain ⟨_,_,_,_,rfl,rfl,⟨rfl,rfl,i0⟩,⟨_,_,_,_,rfl,rfl,⟨rfl,rfl,i1⟩,⟨_,_,_,_,rfl,rfl,⟨rfl,rfl,i2⟩,⟨_,_,_,_,rfl,rfl,⟨rfl,rfl,i3⟩,⟨_,_,_,_,rfl,rfl,⟨rfl,rfl,i4⟩,⟨_,_,_,_,rfl,rfl,⟨rfl,rfl,i5⟩,⟨rfl,rfl⟩⟩⟩⟩⟩⟩⟩:=h;exact ⟨rfl,by simp,i0,i1,i2,i3,i4,i5⟩
set_option maxHeartbeats 4000000 in
set_option maxRecDepth 100000 in
theorem Zgg (w:World) (v:Value) (xs:List Zk) (F:List Nat) (k:Int) (h:ZbF w v (xs.map Zk.d) F) (hn:F.Nodup) (hp:∀q∈F,Plain w q) (h0:0<=k) (h1:k+((Zk.cnL xs:Nat):Int)<=1099511627776):
  Calls Tryz.prog 38 #[v,.int .i64 k] w fun e w'=>e= .returned (.int .i64 (k+((Zk.cnL xs:Nat):Int)))/\ZbF w' v ((Zk.ZiC xs k).map Zk.d) F/\(∀q∈F,Plain w' q)/\Off F w w':=by
 obtain ⟨A,c,rfl,hc,hcm⟩:=h.form;rw [List.length_map] at h hc ⊢;have hP:=Lib.hid hp;have H1:=Lib.hid h1;clear hp h1
 go_enter Tryz.func38,Tryz.ntmps38
 go_wp2_with fail
 go_loopw [1,5] (fun kk i wr=>∃j:Nat,j<=xs.length/\i= .int .i64 j/\kk= .int .i64 (k+((Zk.cnL (xs.take j):Nat):Int))/\ZbF wr (.slice A xs.length c) ((Zk.ZiC (xs.take j) k).map Zk.d++(xs.drop j).map Zk.d) F/\(∀q∈F,Plain wr q)/\Off F w wr) (fun _ i _=>xs.length-(intOf i).toNat)
 case atStart=>exact ⟨0,Nat.zero_le _,rfl,int_eq (by rw [List.take_zero,Zk.ZeP];simp [cnS]),by rw [List.take_zero,List.drop_zero,Zk.Zcf];exact h,hP.out,Off.refl _ _⟩
 case round=>
  obtain ⟨j,hj,rfl,rfl,hs,hpr,hoff⟩:=hrel
  by_cases hlt:j<xs.length
  ·have ed:xs.drop j=xs[j]::xs.drop (j+1):=List.drop_eq_getElem_cons hlt;rw [ed,List.map_cons] at hs
   obtain ⟨b,off,ys,Fi,rfl,hbF,hbFi,hni,hsub,hr,hlen,hcell,hback⟩:=hs.Zjk (W:=6) (by
    intro y hy;rcases List.mem_append.1 hy with hy| hy
    ·exact Zk.wds _ y hy
    ·rw [<-List.map_cons] at hy;exact Zk.wds _ y hy) (by omega) hn
   have el:((Zk.ZiC (xs.take j) k).map Zk.d).length=j:=by rw [List.length_map,Zk.Zcf,Xr,List.length_take];omega
   rw [el] at hcell hback;have e1:Zk.cnL (xs.take (j+1))=Zk.cnL (xs.take j)+Zk.cn xs[j]:=by rw [Zk.ZeP,Zk.ZeP];exact Kx xs j hlt
   have e2:Zk.cnL (xs.take (j+1))<=Zk.cnL xs:=by rw [Zk.ZeP,Zk.ZeP];exact Zbx xs (j+1)
   have e3:Zk.cn xs[j]=6:=Zk.Zsn _;obtain ⟨kk,hkk⟩:∃kk:Int,kk=k+((Zk.cnL (xs.take j):Nat):Int):=⟨_,rfl⟩;rw [<-hkk];have k0:0<=kk:=by omega
   have k1:kk+6<=1099511627776:=by have:=H1.out;rw [e3] at e1;omega
   have HE1:=Lib.hid e1;have HE3:=Lib.hid e3;have HK:=Lib.hid hkk;have HB:=Lib.hid hback;have HS:=Lib.hid hsub;clear e1 e2 e3 hkk hback hsub ed el hs h hlen;obtain ⟨rfl,hF,_,_,_,_,_,_⟩:=Zk.open_ hr;clear hr;subst hF;have T0:Trk wr wr b (off+j*6) (off+j*6+6) _:=Trk.start (hpr b hbF) (fun q hq=>hpr q (HS.out q hq));have C0:=Lib.hid hcell;clear hcell hni;have c0_0:wr.cell? ⟨b,off+j*6,none⟩=_:=C0.out 0 _ rfl;have c0_1:=C0.out 1 _ rfl;have c0_2:=C0.out 2 _ rfl;have c0_3:=C0.out 3 _ rfl;have c0_4:=C0.out 4 _ rfl;have c0_5:=C0.out 5 _ rfl;have z0:=T0.here.free
   go_wp2_with fail
   refine (Zdn _ _ (by omega)).mono ?_;rintro e w1 ⟨rfl,hb1⟩;have T1:=Trk.next (Trk.set (Trk.set (Trk.set T0 0 (by omega) _) 1 (by omega) _) 2 (by omega) _) hb1;have C1:=Lib.hid (Qr.next (Qr.setAt (Qr.setAt (Qr.setAt C0.out 0 (by simp) _) 1 (by simp) _) 2 (by simp) _) hb1);clear hb1 c0_0 c0_1 c0_2 c0_3 c0_4 c0_5 z0;have c1_0:w1.cell? ⟨b,off+j*6,none⟩=_:=C1.out 0 _ rfl;have c1_1:=C1.out 1 _ rfl;have c1_2:=C1.out 2 _ rfl;have c1_3:=C1.out 3 _ rfl;have c1_4:=C1.out 4 _ rfl;have c1_5:=C1.out 5 _ rfl;have z1:=T1.here.free
   go_wp2_with fail
   refine (Zdn _ _ (by omega)).mono ?_;rintro e w2 ⟨rfl,hb2⟩;have T2:=Trk.next (Trk.set T1 3 (by omega) _) hb2;have C2:=Lib.hid (Qr.next (Qr.setAt C1.out 3 (by simp) _) hb2);clear hb2 c1_0 c1_1 c1_2 c1_3 c1_4 c1_5 z1;have c2_0:w2.cell? ⟨b,off+j*6,none⟩=_:=C2.out 0 _ rfl;have c2_1:=C2.out 1 _ rfl;have c2_2:=C2.out 2 _ rfl;have c2_3:=C2.out 3 _ rfl;have c2_4:=C2.out 4 _ rfl;have c2_5:=C2.out 5 _ rfl;have z2:=T2.here.free
   go_wp2_with fail
   go_roundw
   case rel=>
    refine ⟨j+1,by omega,by go_num,int_eq (by have h1:=HE1.out;have h2:=HE3.out;have h3:=HK.out;rw [h2] at h1;omega), ?_,Trk.Zow (Trk.set (Trk.set T2 4 (by omega) _) 5 (by omega) _) hpr,hoff.trans (Off.sub (Trk.off (Trk.set (Trk.set T2 4 (by omega) _) 5 (by omega) _)) (fun q hq=>by rcases List.mem_cons.1 hq with rfl| hq;exact hbF;exact HS.out q hq))⟩
    have hm:Zk.ZiC (xs.take (j+1)) k=Zk.ZiC (xs.take j) k++[Zk.mark xs[j] kk]:=by
     rw [Zk.Zcf,Zk.Zcf,Zce xs j k hlt,HK.out,Zk.ZeP]
    rw [hm,List.map_append,List.append_assoc];refine HB.out _ (Zk.d (Zk.mark xs[j] kk)) _ (by simp) ?_ (Qr.setAt (Qr.setAt C2.out 4 (by simp) _) 5 (by simp) _) (Trk.set (Trk.set T2 4 (by omega) _) 5 (by omega) _);simp only [Zk.ZpM,Zk.d];rw [Zf3];exact ZlM (Zbr (Zeo (ZeF (by omega) (by omega)) (by first | rfl| omega)) (Zbr (Zeo (ZeF (by omega) (by omega)) (by first | rfl| omega)) (Zbr (Zeo (ZeF (by omega) (by omega)) (by first | rfl| omega)) (Zbr (ZlZ (by omega) (by first | rfl| omega)) (Zbr (ZlZ (by omega) (by first | rfl| omega)) (Zbr (Zeo (ZeF (by omega) (by omega)) (by first | rfl| omega)) ZoD)))))) rfl (by first | rfl| simp only [List.nil_append,List.append_nil,List.append_assoc])
   case measure=>simp [intOf];omega
  ·have hj':j=xs.length:=by omega
   subst hj';rw [List.take_of_length_le (Zwk _),List.drop_of_length_le (Zwk _)] at hs;rw [List.take_of_length_le (Zwk _)];have HQ:=Lib.hid hs;clear hs
   go_wp2_with fail
   go_ret
   exact ⟨rfl,by have:=HQ.out;simpa using this,hpr,hoff⟩
theorem Ze.open_ {w:World} {x:Ze} {cs:List Value} {F:List Nat} (h:Rep w x.d cs F):
  ∃(A0:Option Addr) (c0:Nat) (F0:List Nat),cs=[.slice A0 x.cells.length c0]/\F=F0/\ZbF w (.slice A0 x.cells.length c0) (x.cells.map Zk.d) F0:=by
 simp only [Ze.d,Zf3,Zeg,Zf4,Zef,Zjy,Zim,Zov,List.length_map] at h;obtain ⟨_,_,F0,_,rfl,rfl,⟨A0,c0,rfl,q0⟩,⟨rfl,rfl⟩⟩:=h;exact ⟨A0,c0,F0,rfl,by simp,q0⟩
set_option maxHeartbeats 4000000 in
set_option maxRecDepth 100000 in
theorem ZdE (w:World) (x:Ze) (cs:List Value) (F:List Nat) (k:Int) (h:Rep w x.d cs F) (hn:F.Nodup) (hp:∀q∈F,Plain w q) (h0:0<=k) (h1:k+((x.cnV:Nat):Int)<=1099511627776):
  Calls Tryz.prog 11 #[.agg cs.toArray,.int .i64 k] w fun e w'=>e= .returned (.int .i64 (k+((x.cnV:Nat):Int)))/\Rep w' (x.ZiB k).d cs F/\(∀q∈F,Plain w' q)/\Off F w w':=by
 have hF:=h.lt;obtain ⟨A0,c0,F0,rfl,hFe,q0⟩:=Ze.open_ h;have hFe:=hFe.symm;subst hFe;have h1':k+((Zk.cnL x.cells:Nat):Int)<=1099511627776:=h1;have hn':(F0).Nodup:=by simpa only [List.append_assoc,List.append_nil] using hn
 have dn0:=hn';obtain ⟨w0,hw0⟩:∃w0,w0=w.alloc (.cells #[.slice A0 x.cells.length c0] 30):=⟨_,rfl⟩;have B0:Below w.heap.size w w0:=hw0▸Zvk (Below.refl _ _) _;have kc0:w0.cell? ⟨w.heap.size,0,none⟩=some (.slice A0 x.cells.length c0):=hw0▸Zn9 w _ _ 0 _ rfl;have HW:=Lib.hid hw0;clear hw0;have ns0:w.heap.size∉F0:=fun hm=>by have:=hF _ (show w.heap.size∈_ by (try simp only [List.mem_append] at hm ⊢);first | (simp [hm];done)| (rcases hm with h'| h'<;>simp [h'];done)| (rcases hm with h'| h'| h'<;>simp [h'];done));omega
 have Q0:=Lib.hid (q0.below B0);have P0:Hid (∀q∈F0,Plain w0 q):=Lib.hid (fun q hq=>(hp q (by (try simp only [List.mem_append] at hq ⊢);first | (simp [hq];done)| (rcases hq with h'| h'<;>simp [h'];done)| (rcases hq with h'| h'| h'<;>simp [h'];done))).next B0);clear q0;have HOLD:=Lib.hid (Zwg hp (Zwg hF h));clear hp hF h;have O0:Off (F0) w w0:=Off.ZjC B0
 go_enter Tryz.func11,Tryz.ntmps11
 go_wp2_with fail
 rw [<-HW.out];refine (Zgg _ _ x.cells F0 _ Q0.out dn0 P0.out (by omega) (by omega)).mono ?_;rintro e w1 ⟨rfl,q0,p0,hb1⟩;have O1:Off (F0) w w1:=O0.trans (hb1.sub (fun q hq=>by (try simp only [List.mem_append] at hq ⊢);first | (simp [hq];done)| (rcases hq with h'| h'<;>simp [h'];done)| (rcases hq with h'| h'| h'<;>simp [h'];done)));replace kc0:=hb1.cell ns0 kc0;replace Q0:=Lib.hid q0;replace P0:=Lib.hid p0;clear q0 p0
 go_wp2_with fail
 go_ret
 have e1:((x.cnV:Nat):Int)=((Zk.cnL x.cells:Nat):Int):=by unfold Ze.cnV;omega
 refine ⟨Zpm (by omega), ?_, ?_,O1⟩
 ·refine Zf3.2 (ZlM (Zbr (Zt7 Q0.out) (ZoD (w:=_))) ?_ ?_)
  ·first | rfl| simp only [List.cons_append,List.nil_append,List.append_nil]
  ·first | rfl| simp only [List.nil_append,List.append_nil,List.append_assoc]
 ·intro q hq
  first
  | exact P0.out q hq
  | (simp only [List.mem_append] at hq;revert hq;simp only [or_imp];simp only [or_imp,and_imp];first | exact fun h=>P0.out q h| skip)
set_option maxHeartbeats 4000000 in
set_option maxRecDepth 100000 in
theorem Zhj (w:World) (v:Value) (xs:List Int) (F:List Nat) (k:Int) (h:ZbF w v (xs.map D.int) F) (hn:F.Nodup) (hp:∀q∈F,Plain w q) (h0:0<=k) (h1:k+((QR xs:Nat):Int)<=1099511627776):
  Calls Tryz.prog 12 #[v,.int .i64 k] w fun e w'=>e= .returned (.int .i64 (k+((QR xs:Nat):Int)))/\ZbF w' v ((XN xs k).map D.int) F/\(∀q∈F,Plain w' q)/\Off F w w':=by
 obtain ⟨A,c,rfl,hc,hcm⟩:=h.form;rw [List.length_map] at h hc ⊢;have hP:=Lib.hid hp;have H1:=Lib.hid h1;clear hp h1
 go_enter Tryz.func12,Tryz.ntmps12
 go_wp2_with fail
 go_loopw [1,5] (fun kk i wr=>∃j:Nat,j<=xs.length/\i= .int .i64 j/\kk= .int .i64 (k+((QR (xs.take j):Nat):Int))/\ZbF wr (.slice A xs.length c) ((XN (xs.take j) k).map D.int++(xs.drop j).map D.int) F/\(∀q∈F,Plain wr q)/\Off F w wr) (fun _ i _=>xs.length-(intOf i).toNat)
 case atStart=>exact ⟨0,Nat.zero_le _,rfl,int_eq (by rw [List.take_zero,XS];simp [cnS]),by rw [List.take_zero,List.drop_zero,Xj];exact h,hP.out,Off.refl _ _⟩
 case round=>
  obtain ⟨j,hj,rfl,rfl,hs,hpr,hoff⟩:=hrel
  by_cases hlt:j<xs.length
  ·have ed:xs.drop j=xs[j]::xs.drop (j+1):=List.drop_eq_getElem_cons hlt;rw [ed,List.map_cons] at hs
   obtain ⟨b,off,ys,Fi,rfl,hbF,hbFi,hni,hsub,hr,hlen,hcell,hback⟩:=hs.Zjk (W:=1) (by
    intro y hy;rcases List.mem_append.1 hy with hy| hy
    ·exact Zmf _ y hy
    ·rw [<-List.map_cons] at hy;exact Zmf _ y hy) (by omega) hn
   have el:((XN (xs.take j) k).map D.int).length=j:=by rw [List.length_map,Xj,Xr,List.length_take];omega
   rw [el,Nat.mul_one] at hcell hback;have e1:QR (xs.take (j+1))=QR (xs.take j)+Zgj xs[j]:=by rw [XS,XS];exact Kx xs j hlt
   have e2:QR (xs.take (j+1))<=QR xs:=by rw [XS,XS];exact Zbx xs (j+1)
   have e3:Zgj xs[j]=1:=rfl;obtain ⟨kk,hkk⟩:∃kk:Int,kk=k+((QR (xs.take j):Nat):Int):=⟨_,rfl⟩;rw [<-hkk];have k0:0<=kk:=by omega
   have k1:kk+1<=1099511627776:=by have:=H1.out;rw [e3] at e1;omega
   have HE1:=Lib.hid e1;have HE3:=Lib.hid e3;have HK:=Lib.hid hkk;have HB:=Lib.hid hback;have HS:=Lib.hid hsub;clear e1 e2 e3 hkk hback hsub ed el hs h hlen;obtain ⟨rfl,hF,_⟩:=Zef.1 hr;clear hr;subst hF;have T0:Trk wr wr b (off+j) (off+j+1) _:=Trk.start (hpr b hbF) (fun q hq=>hpr q (HS.out q hq));have C0:=Lib.hid hcell;clear hcell hni;have c0_0:wr.cell? ⟨b,off+j,none⟩=_:=C0.out 0 _ rfl;have z0:=T0.here.free
   go_wp2_with fail
   go_roundw
   case rel=>
    refine ⟨j+1,by omega,by go_num,int_eq (by have h1:=HE1.out;have h2:=HE3.out;have h3:=HK.out;rw [h2] at h1;omega), ?_,Trk.Zow (Trk.set T0 0 (by omega) _) hpr,hoff.trans (Off.sub (Trk.off (Trk.set T0 0 (by omega) _)) (fun q hq=>by rcases List.mem_cons.1 hq with rfl| hq;exact hbF;exact HS.out q hq))⟩
    have hm:XN (xs.take (j+1)) k=XN (xs.take j) k++[Zeu xs[j] kk]:=by
     rw [Xj,Xj,Zce xs j k hlt,HK.out,XS]
    rw [hm,List.map_append,List.append_assoc];exact HB.out _ (D.int (Zeu xs[j] kk)) _ (by simp) (Zeo (ZeF (by omega) (by omega)) (by first | rfl| omega)) (Qr.setAt C0.out 0 (by simp) _) (Trk.set T0 0 (by omega) _)
   case measure=>simp [intOf];omega
  ·have hj':j=xs.length:=by omega
   subst hj';rw [List.take_of_length_le (Zwk _),List.drop_of_length_le (Zwk _)] at hs;rw [List.take_of_length_le (Zwk _)];have HQ:=Lib.hid hs;clear hs
   go_wp2_with fail
   go_ret
   exact ⟨rfl,by have:=HQ.out;simpa using this,hpr,hoff⟩
set_option maxHeartbeats 4000000 in
set_option maxRecDepth 100000 in
theorem Zht (w:World) (v:Value) (xs:List Int) (F:List Nat) (k:Int) (h:ZbF w v ((XN xs k).map D.int) F) (h0:0<=k) (h1:k+((QR xs:Nat):Int)<=1099511627776):
  Calls Tryz.prog 13 #[v,.int .i64 k] w fun e w'=>e= .returned (.int .i64 (k+((QR xs:Nat):Int)))/\Below w.heap.size w w':=by
 obtain ⟨A,c,rfl,hc,hcm⟩:=h.form;have hl:((XN xs k).map D.int).length=xs.length:=by rw [List.length_map,Xj,Xr]
 rw [hl] at h hc ⊢;have H1:=Lib.hid h1;have HS:=Lib.hid h;clear h1 hl h
 go_enter Tryz.func13,Tryz.ntmps13
 go_wp2_with fail
 go_loopw [1,5] (fun kk i wr=>∃j:Nat,j<=xs.length/\i= .int .i64 j/\kk= .int .i64 (k+((QR (xs.take j):Nat):Int))/\Below w.heap.size w wr) (fun _ i _=>xs.length-(intOf i).toNat)
 case atStart=>exact ⟨0,Nat.zero_le _,rfl,int_eq (by rw [List.take_zero,XS];simp [cnS]),Below.refl _ _⟩
 case round=>
  obtain ⟨j,hj,rfl,rfl,hb⟩:=hrel
  by_cases hlt:j<xs.length
  ·have hs:=HS.out.below hb
   obtain ⟨b,off,ys,Fi,rfl,hbl,_,hr,hlen,_,hcell⟩:=hs.at_ (W:=1) (i:=j) (by
    rw [Xj];exact Zmf _) (by rw [List.length_map,Xj,Xr];exact hlt)
   have e0:((XN xs k).map D.int)[j]'(by rw [List.length_map,Xj,Xr];exact hlt)=D.int (Zeu xs[j] (k+((QR (xs.take j):Nat):Int))):=by
    rw [List.getElem_map]
    congr 1
    exact (List.getElem_of_eq (Xj xs k) _).trans ((ZpI xs j k hlt).trans (by rw [XS]))
   rw [e0] at hr;have e1:QR (xs.take (j+1))=QR (xs.take j)+Zgj xs[j]:=by rw [XS,XS];exact Kx xs j hlt
   have e2:QR (xs.take (j+1))<=QR xs:=by rw [XS,XS];exact Zbx xs (j+1)
   have e3:Zgj xs[j]=1:=rfl;obtain ⟨kk,hkk⟩:∃kk:Int,kk=k+((QR (xs.take j):Nat):Int):=⟨_,rfl⟩;rw [<-hkk] at hr ⊢;have k0:0<=kk:=by omega
   have k1:kk+1<=1099511627776:=by have:=H1.out;rw [e3] at e1;omega
   have HE1:=Lib.hid e1;have HE3:=Lib.hid e3;have HK:=Lib.hid hkk;clear e0 e1 e2 e3 hkk hs hlen;obtain ⟨rfl,_,_⟩:=Zef.1 hr;clear hr;have c0:wr.cell? ⟨b,off+j,none⟩=some (.int .i64 (kk)):=(by have h0:=hcell 0 (.int .i64 (kk)) rfl;rwa [Nat.mul_one] at h0);clear hcell;have D0:=Below.refl wr.heap.size wr
   go_wp2_with fail
   go_roundw
   case rel=>exact ⟨j+1,by omega,by go_num,int_eq (by have h1:=HE1.out;have h2:=HE3.out;have h3:=HK.out;rw [h2] at h1;omega),ZuT hb D0⟩
   case measure=>simp [intOf];omega
  ·have hj':j=xs.length:=by omega
   subst hj';rw [List.take_of_length_le (Zwk _)]
   go_wp2_with fail
   go_ret
   exact ⟨rfl,hb⟩
open Go.RowKit Am
theorem ZlB {w:World} {es:List D} {v:Value} {F:List Nat}:ZbF w v es F↔Rp w (.sl (flE es)) v F:=by
 unfold ZbF;rw [Zdm];simp only [fl,ZcP];constructor
 ·rintro ⟨u,h1,h2⟩;simp at h1;subst h1;exact h2
 ·intro h;exact ⟨v,rfl,h⟩
theorem Zsh {w:World} {d:D} {v:Value} {F:List Nat} (h:U5 w (.agg (fl d)) v F):∃cs,v= .agg cs.toArray/\Rep w d cs F:=by
 obtain ⟨vs,h1,h2⟩:=h;exact ⟨vs,h1,Zdm.2 h2⟩
theorem Zsg {w:World} {es:List D} {v:Value} {F:List Nat} (h:U5 w (.one (.sl (flE es))) v F):ZbF w v es F:=ZlB.2 h
theorem Zqj {w:World} {a b:DV} {vs:List Value} {F:List Nat} (h:Yo w [a,b] vs F):∃u v F1 F2,vs=[u,v]/\U5 w a u F1/\U5 w b v F2:=by
 simp only [Yo] at h;obtain ⟨u,_,F1,_,rfl,rfl,h1,v,_,F2,_,rfl,rfl,h2,rfl,rfl⟩:=h;exact ⟨u,v,F1,F2,rfl,h1,h2⟩
theorem Zqm {w:World} {n:Int} {v:Value} {F:List Nat} (h:U5 w (.one (.int .i64 n)) v F):v= .int .i64 n:=by
 simp only [U5,Rp] at h;exact h.1
theorem Znv {N:Nat->Prop} {w:World} {FA:List Nat} {n:Int} (h:I64 n):Zan true N w FA [.one (.int .i64 n)] [.int .i64 n]:=by
 simp only [Zan,if_true,ZaY,ZkN,Ow];exact ⟨[],⟨_,[],[],[],rfl,rfl,⟨rfl,rfl,ZdU.2 h⟩,rfl,rfl⟩,List.nodup_nil⟩
theorem Zp7 {f:Nat} {es:List D} {k k':Int} (hk:I64 k') (hok:Wx Tryz.prog f=true)
  (h:∀w v F,ZbF w v es F->Calls Tryz.prog f #[v,.int .i64 k] w fun e w'=>e= .returned (.int .i64 k')/\Below w.heap.size w w'):
  Ctr Tryz.prog f [.one (.sl (flE es)),.one (.int .i64 k)] true [.one (.int .i64 k')]:=by
 refine ⟨hok,fun w vs FA _ hv=> ?_⟩;obtain ⟨u,v,F1,F2,rfl,h2,h3⟩:=Zqj hv;obtain rfl:=Zqm h3;refine (h w u F1 (Zsg h2)).mono ?_;rintro e w' ⟨rfl,hb⟩;exact ⟨[_],rfl,Znv hk,hb⟩
theorem Off.chg {F:List Nat} {w w':World} (h:Off F w w'):Chg F w w':=⟨h.os,h.tape,h.output,h.size,h.block⟩
theorem ZnJ {f:Nat} {d d':D} {k k':Int} (hk:I64 k') (hok:Wx Tryz.prog f=true)
  (h:∀w cs F,Rep w d cs F->F.Nodup->(∀q∈F,Plain w q)->Calls Tryz.prog f #[.agg cs.toArray,.int .i64 k] w fun e w'=>e= .returned (.int .i64 k')/\Rep w' d' cs F/\(∀q∈F,Plain w' q)/\Off F w w'):
  ZqQ Tryz.prog f (.agg (fl d)) k (.agg (fl d')) k':=by
 refine ⟨hok,fun w v F hv hn hp=> ?_⟩;obtain ⟨cs,rfl,h4⟩:=Zsh hv;refine (h w cs F h4 hn hp).mono ?_;rintro e w' ⟨rfl,h5,_,h6⟩;exact ⟨rfl,ZdU.2 hk,⟨cs,rfl,Zdm.1 h5⟩,h6.chg⟩
theorem ZpL {f:Nat} {es es':List D} {k k':Int} (hk:I64 k') (hok:Wx Tryz.prog f=true)
  (h:∀w v F,ZbF w v es F->F.Nodup->(∀q∈F,Plain w q)->Calls Tryz.prog f #[v,.int .i64 k] w fun e w'=>e= .returned (.int .i64 k')/\ZbF w' v es' F/\(∀q∈F,Plain w' q)/\Off F w w'):
  ZqQ Tryz.prog f (.one (.sl (flE es))) k (.one (.sl (flE es'))) k':=by
 refine ⟨hok,fun w v F hv hn hp=> ?_⟩;refine (h w v F (Zsg hv) hn hp).mono ?_;rintro e w' ⟨rfl,h5,_,h6⟩;exact ⟨rfl,ZdU.2 hk,ZlB.1 h5,h6.chg⟩
open Go.RowKit Am
theorem Zmt (xs:List Int):flE (xs.map D.int)=xs.map iC:=by rw [ZiP];rfl
theorem Zk.ZsX (x:Zk):fl x.d=x.c:=by
 simp only [Zk.d,fl,flL,Zk.ZeQ,List.cons_append,List.nil_append,List.append_nil]
theorem Zk.Zuk (xs:List Zk):flE (xs.map Zk.d)=xs.map Zk.c:=by rw [ZiP];exact List.map_congr_left fun x _=>x.ZsX
theorem Ze.ZsX (x:Ze):fl x.d=x.c:=by
 simp only [Ze.d,fl,flL,Ze.ZeQ,Zk.Zuk,List.cons_append,List.nil_append,List.append_nil]
theorem Ziz {k:Int} {x:Ze} {y:Ze×Int} (h:wr? Ze.ZiB Ze.cnV k x=some y):ZqQ Tryz.prog 11 (.agg x.c) k (.agg y.1.c) y.2:=by
 obtain ⟨h1,h2,h3,h4⟩:=ZcJ h;rw [h1,h2,<-Ze.ZsX,<-Ze.ZsX];exact ZnJ (by unfold I64;omega) (by kernel_rfl) fun w v F a b e=>ZdE w x v F k a b e h3 h4
theorem ZpH {k:Int} {xs:List Int} {y:List Int×Int} (h:wr? XN QR k xs=some y):ZqQ Tryz.prog 12 (.one (.sl (xs.map iC))) k (.one (.sl (y.1.map iC))) y.2:=by
 obtain ⟨h1,h2,h3,h4⟩:=ZcJ h;rw [h1,h2,<-Zmt,<-Zmt];exact ZpL (by unfold I64;omega) (by kernel_rfl) fun w v F a b e=>Zhj w v xs F k a b e h3 h4
theorem Zmp {k z:Int} {xs ys:List Int} (h:hd? k (QR xs)=some z) (hy:ys=XN xs k):Ctr Tryz.prog 13 [.one (.sl (ys.map iC)),.one (.int .i64 k)] true [.one (.int .i64 z)]:=by
 obtain ⟨h1,h2,h3⟩:=Zp8 h;rw [h1,hy,<-Zmt];exact Zp7 (by unfold I64;omega) (by kernel_rfl) fun w v F a=>Zht w v xs F k a h2 h3
end Go.Proofs.YtbkllghhcphkaaaGreatDoor
namespace Go.Proofs.YtbkllghhcphkaaaGreatDoor.Am
open Go.RowKit
def ZgC (n:Nat) (us:List Value):Act:={ tmps:=us.toArray++Array.replicate (n-us.toArray.size) undef,defers:=[]}
def ZaX:Nat->List V->List (Nat×V)
 | _,[]=>[]
 | i,v::vs=>(i,v)::ZaX (i+1) vs
def GC (P:Program) (f n:Nat) (vs:List V) (bx:List (Nat×List CV)) (ar:List (Nat×Option Arr)) (r:V) (bo:List (Nat×List CV)) (ao:List (Nat×Option Arr)):Prop:=
 Wx P f=true/\vs.length<=n/\∀(N:Nat->Prop) (w0:Bs) (e:Env) (us:List Value) (w:World),us.length=vs.length->Bok N w0->ZC N w0 e ⟨n,ZaX 0 vs,bx,ar⟩ (ZgC n us) w->
  Calls P f us.toArray w fun ex w'=>∃e' u,ex= .returned u/\r.rel e' ⟨n,[],bo,ao⟩ w' u/\ZC N w0 e' ⟨n,[],bo,ao⟩ (ZgC n []) w'
theorem Zfx:∀{vs:List V} {i t:Nat} {v:V},(ZaX i vs).lookup t=some v->∃j,t=i+j/\vs[j]? =some v
 | [],_,_,_,h=>by simp [ZaX] at h
 | x::vs,i,t,v,h=>by
  simp only [ZaX,lookup_cons] at h
  split at h
  ·rename_i ht;exact ⟨0,by omega,by simpa using h⟩
  ·obtain ⟨j,h1,h2⟩:=Zfx h;exact ⟨j+1,by omega,by simpa using h2⟩
theorem ZmS {n:Nat} {us:List Value} {j:Nat} {u:Value} (h:us[j]? =some u):(ZgC n us).tmps.getD j undef=u:=by
 have hj:=(List.getElem?_eq_some_iff.1 h).1;simp only [ZgC];rw [Array.getD_eq_getD_getElem?,Array.getElem?_append_left (by simpa using hj)];simp [h]
def mtC (α β:Nat->Nat):CV->CV->Prop
 | .l x,.l y=>x=y
 | .l x,.kept _ y=>x=y
 | .l x,.nil=>x= .sl []
 | .nil,.nil=>True
 | .np,.np=>True
 | .adr xs,.adr ys=>xs=ys
 | .own i n,.own τ m=>α i=τ/\n=m/\τ<1000000
 | .own i n,.nil=>2000000<=α i/\n=0
 | .box i o,.box k o'=>β i=k/\o=o'
 | .clo f is,.clo g ks=>f=g/\is.map β=ks
 | .nf,.nf=>True
 | .mp i,.mp k=>β i=k
 | .mc x,.mc y=>x=y
 | _,_=>False
def mtL (α β:Nat->Nat):List CV->List CV->Prop
 | [],[]=>True
 | c::cs,d::ds=>mtC α β c d/\mtL α β cs ds
 | _,_=>False
def mtV (α β:Nat->Nat):V->V->Prop
 | .one c,.one d=>mtC α β c d
 | .agg cs,.agg ds=>mtL α β cs ds
 | _,_=>False
def ZnH (α β:Nat->Nat):List V->List V->Prop
 | [],[]=>True
 | v::vs,u::us=>mtV α β v u/\ZnH α β vs us
 | _,_=>False
def rnC (γ β:Nat->Nat):CV->CV
 | .own i n=>.own (γ i) n
 | .box i o=>.box (β i) o
 | .l x=>.l x
 | .nil=>.nil
 | .np=>.np
 | .adr ls=>.adr ls
 | .kept _ x=>.l x
 | .clo f is=>.clo f (is.map β)
 | .nf=>.nf
 | .mp i=>.mp (β i)
 | .mc es=>.mc es
 | _=>.any
def clC (bx:List (Nat×List CV)) (ar:List (Nat×Option Arr)):CV->Prop
 | .own i _=>(ar.lookup i).isSome=true
 | .box i _=>(bx.lookup i).isSome=true
 | .clo _ is=>∀i∈is,(bx.lookup i).isSome=true
 | .mp i=>(bx.lookup i).isSome=true
 | _=>True
def clO (bx:List (Nat×List CV)) (ar:List (Nat×Option Arr)):CV->Prop
 | .own i _=>∃A,ar.lookup i=some (some A)
 | .box i _=>(bx.lookup i).isSome=true
 | .l _| .nil| .np| .adr _| .kept _ _| .any| .nf| .mc _=>True
 | .clo _ is=>∀i∈is,(bx.lookup i).isSome=true
 | .mp i=>(bx.lookup i).isSome=true
 | _=>False
def clV (bx:List (Nat×List CV)) (ar:List (Nat×Option Arr)):V->Prop
 | .one c=>clC bx ar c
 | .agg cs=>∀c∈cs,clC bx ar c
 | _=>False
def rnV (γ β:Nat->Nat):V->V
 | .one c=>.one (rnC γ β c)
 | .agg cs=>.agg (cs.map (rnC γ β))
 | .tup ps=>.tup (ps.map fun p=>(p.1,p.2.map (rnC γ β)))
 | .dead=>.dead
def Zs5 (bo:List (Nat×List CV)) (ao:List (Nat×Option Arr)):V->Prop
 | .one c=>clO bo ao c
 | .agg cs=>∀c∈cs,clO bo ao c
 | .tup ps=>∀p∈ps,∀c∈p.2,clO bo ao c
 | .dead=>True
structure GM (σ:St) (n:Nat) (α β γ:Nat->Nat) (bx:List (Nat×List CV)) (ar:List (Nat×Option Arr)) (bo:List (Nat×List CV)) (ao:List (Nat×Option Arr)):Prop where
 b1:∀i cs,bx.lookup i=some cs->n<=i/\∃ds,σ.bx.lookup (β i)=some ds/\mtL α β cs ds
 b2:∀i cs j ds,bo.lookup i=some cs->bo.lookup j=some ds->β i=β j->i=j
 a1:∀i A,ar.lookup i=some A->i<1000000/\((α i<1000000/\∃C,(∃B,A=some B/\B.fr=false/\B.es=C.es)/\σ.ar.lookup (α i)=some (some C))\/(2000000<=α i/\A=some ⟨false,[]⟩/\(σ.ar.lookup (α i)=none\/σ.ar.lookup (α i)=some none)))
 a2:∀i A j B,ar.lookup i=some A->ar.lookup j=some B->α i=α j->i=j
 c1:∀i cs,bo.lookup i=some cs->(∃cs',bx.lookup i=some cs')\/(i<n/\σ.bx.lookup (β i)=none/\β i<σ.nt)
 c2:∀i cs,bx.lookup i=some cs->∃cs',bo.lookup i=some cs'
 d1:∀i A,ao.lookup i=some (some A)->i<1000000/\γ i<1000000/\σ.ar.lookup (γ i)=none
 d2:∀i A j B,ao.lookup i=some (some A)->ao.lookup j=some (some B)->γ i=γ j->i=j
 e1:∀i cs,bx.lookup i=some cs->∀c∈cs,clC bx ar c
 e2:∀i cs,bo.lookup i=some cs->∀c∈cs,clO bo ao c
mutual
theorem Ow.within {N M:Nat->Prop} {w:World}:∀{x:L} {v:Value} {F:List Nat},Ow N w x v F->(∀b∈F,M b)->Ow M w x v F
 | .int _ _,_,_,h,_=>by simp only [Ow] at h ⊢;exact h
 | .bool _,_,_,h,_=>by simp only [Ow] at h ⊢;exact h
 | .str _,_,_,h,_=>by simp only [Ow] at h ⊢;exact h
 | .void,_,_,h,_=>by simp only [Ow] at h ⊢;exact h
 | .sl _,_,_,h,hm=>by
  simp only [Ow] at h ⊢;obtain ⟨A,c,h1,h2,h4⟩:=h;refine ⟨A,c,h1,h2, ?_⟩;rcases h4 with h4| ⟨b,t,cur,Fs,W,e1,e2,e3,e4,e5,e6,e7,rfl,e9⟩
  ·exact .inl h4
  ·exact .inr ⟨b,t,cur,Fs,W,e1,hm _ (by simp),e3,e4,e5,e6,e7,rfl,OwE.within e9 fun x hx=>hm x (by simp [hx])⟩
theorem OwL.within {N M:Nat->Prop} {w:World}:∀{xs:List L} {vs:List Value} {F:List Nat},OwL N w xs vs F->(∀b∈F,M b)->OwL M w xs vs F
 | [],_,_,h,_=>by simp only [OwL] at h ⊢;exact h
 | _::_,_,_,h,hm=>by
  simp only [OwL] at h ⊢;obtain ⟨v,vs',F1,F2,h0,rfl,h1,h2⟩:=h;exact ⟨v,vs',F1,F2,h0,rfl,Ow.within h1 fun x hx=>hm x (by simp [hx]),OwL.within h2 fun x hx=>hm x (by simp [hx])⟩
theorem OwE.within {N M:Nat->Prop} {w:World}:∀{es:List (List L)} {vs:List Value} {F:List Nat},OwE N w es vs F->(∀b∈F,M b)->OwE M w es vs F
 | [],_,_,h,_=>by simp only [OwE] at h ⊢;exact h
 | _::_,_,_,h,hm=>by
  simp only [OwE] at h ⊢;obtain ⟨v1,v2,F1,F2,h0,rfl,h1,h2⟩:=h;exact ⟨v1,v2,F1,F2,h0,rfl,OwL.within h1 fun x hx=>hm x (by simp [hx]),OwE.within h2 fun x hx=>hm x (by simp [hx])⟩
end
section
variable {e:Env} {σ:St} {w:World} {N:Nat->Prop} {w0:Bs} {a:Act} {P:Program}
variable {n:Nat} {α β γ:Nat->Nat} {bx bo:List (Nat×List CV)} {ar ao:List (Nat×Option Arr)}
def ob (v:Value):List Nat:=match v.ownBlock with
 | some b=>[b]
 | none=>[]
theorem ZoE {v:Value} {b:Nat}:b∈ob v↔v.ownBlock=some b:=by
 unfold ob;cases v.ownBlock<;>simp [eq_comm]
def rh (e:Env) (τ:Nat):Value:=if 2000000<=τ then .slice none 0 0 else e.ρ τ
def ZkK (e:Env) (α β:Nat->Nat) (bx:List (Nat×List CV)) (ar:List (Nat×Option Arr)) (b:Nat):Prop:= (∃i cs,bx.lookup i=some cs/\b=e.β (β i))\/∃i A,ar.lookup i=some A/\(rh e (α i)).ownBlock=some b
def ZqV (e:Env) (α β:Nat->Nat) (bx:List (Nat×List CV)) (ar:List (Nat×Option Arr)) (b:Nat):Prop:=ZkK e α β bx ar b
def Zle (e:Env) (σ:St) (α β:Nat->Nat) (bx:List (Nat×List CV)) (ar:List (Nat×Option Arr)):Env:=
 ⟨fun i=>e.β (β i),fun i=>rh e (α i),fun i=>ob (rh e (α i)),fun b=>Mut e σ b/\¬ZkK e α β bx ar b⟩
def bsG (e:Env) (σ:St) (w:World) (α β:Nat->Nat) (bx:List (Nat×List CV)) (ar:List (Nat×Option Arr)):Bs:=
 ⟨w,fun b=>Mut e σ b/\¬ZkK e α β bx ar b,fun i=>e.β (β i),fun b=>w.heap.size<=b\/ZqV e α β bx ar b⟩
theorem GM.got (g:GM σ n α β γ bx ar bo ao) {i b:Nat} {A:Option Arr} (hA:ar.lookup i=some A) (hb:(rh e (α i)).ownBlock=some b):α i<1000000/\(e.ρ (α i)).ownBlock=some b/\∃C,σ.ar.lookup (α i)=some (some C):=by
 rcases (g.a1 i A hA).2 with ⟨h1,C,_,h2⟩| ⟨h1,_⟩
 ·rw [rh,if_neg (by omega)] at hb;exact ⟨h1,hb,C,h2⟩
 ·rw [rh,if_pos h1] at hb;simp [Value.ownBlock] at hb
theorem GM.mut (g:GM σ n α β γ bx ar bo ao) (h:ZC N w0 e σ a w) {tm:List (Nat×V)} {b:Nat} (hm:Mut (Zle e σ α β bx ar) ⟨n,tm,bx,ar⟩ b):Mut e σ b:=by
 rcases hm with h0| ⟨i,cs,h1,h2⟩| ⟨i,A,h1,h2⟩
 ·exact h0.1
 ·obtain ⟨_,ds,h3,_⟩:=g.b1 i cs h1;exact .inr (.inl ⟨_,ds,h3,h2⟩)
 ·obtain ⟨_,h4,B,h3⟩:=g.got h1 h2;exact .inr (.inr ⟨_,B,h3,h4⟩)
theorem GM.rel (g:GM σ n α β γ bx ar bo ao) (h:ZC N w0 e σ a w) {tm:List (Nat×V)} {c d:CV} {v:Value} (hr:d.rel e σ w v) (hc:mtC α β c d)
  (hcl:clC bx ar c):c.rel (Zle e σ α β bx ar) ⟨n,tm,bx,ar⟩ w v:=by
 unfold mtC at hc
 split at hc
 ·subst hc;obtain ⟨F,h1,h2⟩:=hr;exact ⟨F,h1,fun b hb hm=>h2 b hb (g.mut h hm)⟩
 ·subst hc;obtain ⟨_,F,h1,h2⟩:=hr;exact ⟨F,h1,fun b hb hm=>h2 b hb (g.mut h hm)⟩
 ·subst hc;have hv:v= .slice none 0 0:=hr;subst hv;refine ⟨[], ?_,by simp⟩;simp only [Rp];exact ⟨none,0,rfl,Zwk _,by omega,.inl (by simp)⟩
 ·exact hr
 ·exact hr
 ·subst hc;obtain ⟨b,off,vs,F,h1,h2,h3,h4,h5,h6⟩:=hr;exact ⟨b,off,vs,F,h1,h2,h3,h4,fun hm=>h5 (g.mut h hm),fun x hx hm=>h6 x hx (g.mut h hm)⟩
 ·rename_i i n' τ m;obtain ⟨rfl,rfl,hlt⟩:=hc;obtain ⟨A,hA'⟩:=Option.isSome_iff_exists.1 hcl;rcases (g.a1 i A hA').2 with ⟨_,C,⟨B,rfl,_,hes⟩,h3⟩| ⟨h1,_⟩
  ·obtain ⟨A2,k1,k2,k3⟩:=hr;rw [h3] at k1;obtain rfl:=Zwf k1;refine ⟨_,hA',fun B' hB'=> ?_,k3⟩;obtain rfl:=Zwf hB';show n'<=B.es.length/\(B.es.length=n'->v=rh e (α i));rw [hes,rh,if_neg (by omega)];exact k2 C rfl
  ·omega
 ·rename_i i n';obtain ⟨h1,rfl⟩:=hc;have hv:v= .slice none 0 0:=hr;subst hv;obtain ⟨A,hA'⟩:=Option.isSome_iff_exists.1 hcl;rcases (g.a1 i A hA').2 with ⟨h2,_⟩| ⟨_,rfl,_⟩
  ·omega
  ·refine ⟨_,hA',fun B hB=> ?_,none,0,rfl,by omega⟩;obtain rfl:=Zwf hB;refine ⟨Zwk _,fun _=> ?_⟩;show _=rh e (α i);rw [rh,if_pos h1]
 ·rename_i i o k o';obtain ⟨rfl,rfl⟩:=hc;obtain ⟨cs,hcs⟩:=Option.isSome_iff_exists.1 hcl;exact ⟨⟨cs,hcs⟩,hr.2⟩
 ·rename_i f is g' ks;obtain ⟨rfl,rfl⟩:=hc;refine ⟨fun k hk=>Option.isSome_iff_exists.1 (hcl k hk), ?_⟩;rw [hr.2,List.map_map]
  rfl
 ·exact hr
 ·rename_i i k;subst hc;exact ⟨Option.isSome_iff_exists.1 hcl,hr.2⟩
 ·exact hr
 ·exact hc.elim
theorem ZrS {es:MD} {cs:List CV} (h:mtL α β cs [.mc es]):cs=[.mc es]:=by
 cases cs with
 | nil=>simp [mtL] at h
 | cons c t=>
  simp only [mtL] at h;cases t with
  | cons _ _=>simp [mtL] at h
  | nil=>cases c<;>simp [mtC,mtL] at h;rw [h]
theorem GM.Yb (g:GM σ n α β γ bx ar bo ao) (h:ZC N w0 e σ a w) {tm:List (Nat×V)}:∀{cs ds:List CV} {vs:List Value},Am.Yb e σ w ds vs->mtL α β cs ds->(∀c∈cs,clC bx ar c)->Am.Yb (Zle e σ α β bx ar) ⟨n,tm,bx,ar⟩ w cs vs
 | [],[],_,hr,_,_=>hr
 | [],_::_,_,_,hc,_=>by simp [mtL] at hc
 | _::_,[],_,_,hc,_=>by simp [mtL] at hc
 | c::cs,d::ds,vs,hr,hc,hcl=>by
  simp only [Am.Yb] at hr ⊢;obtain ⟨v,vs',h0,h1,h2⟩:=hr;simp only [mtL] at hc;refine ⟨v,vs',h0,g.rel h h1 hc.1 (hcl c (by simp)),g.Yb h h2 hc.2 fun c hc=>hcl c (List.mem_cons_of_mem _ hc)⟩
theorem Zgb:∀{vs us:List V},ZnH α β vs us->vs.length=us.length/\∀(j:Nat) (v:V),vs[j]? =some v->∃u,us[j]? =some u/\mtV α β v u
 | [],[],_=>⟨rfl,by simp⟩
 | [],_::_,h=>by simp [ZnH] at h
 | _::_,[],h=>by simp [ZnH] at h
 | v::vs,u::us,h=>by
  simp only [ZnH] at h;obtain ⟨h1,h2⟩:=Zgb h.2;refine ⟨by simp [h1],fun j x hx=> ?_⟩;cases j with
  | zero=>simp at hx;subst hx;exact ⟨u,by simp,h.1⟩
  | succ j=>obtain ⟨y,k1,k2⟩:=h2 j x (by simpa using hx);exact ⟨y,by simpa using k1,k2⟩
theorem GM.ZtD (g:GM σ n α β γ bx ar bo ao) (h:ZC N w0 e σ a w) {tm:List (Nat×V)} {x y:V} {v:Value} (hr:y.rel e σ w v) (hc:mtV α β x y) (hcl:clV bx ar x):x.rel (Zle e σ α β bx ar) ⟨n,tm,bx,ar⟩ w v:=by
 cases x<;>cases y<;>simp only [mtV] at hc
 ·exact g.rel h hr hc hcl
 ·obtain ⟨vs,h0,h1⟩:=hr;exact ⟨vs,h0,g.Yb h h1 hc hcl⟩
theorem GM.enter (g:GM σ n α β γ bx ar bo ao) (h:ZC N w0 e σ a w) {us:List Value} {vs vs':List V} (hl:us.length=vs'.length) (hv:∀(j:Nat) (v:V),vs'[j]? =some v->∃u,us[j]? =some u/\v.rel e σ w u) (hm:ZnH α β vs vs') (hcl:∀v∈vs,clV bx ar v) (hn:vs.length<=n):
  ZC (fun b=>w.heap.size<=b\/ZkK e α β bx ar b) (bsG e σ w α β bx ar) (Zle e σ α β bx ar) ⟨n,ZaX 0 vs,bx,ar⟩ (ZgC n us) w:=by
 obtain ⟨hl2,hm2⟩:=Zgb hm
 have key:∀κ,live ⟨n,ZaX 0 vs,bx,ar⟩ κ->(∀b,tpB (Zle e σ α β bx ar) κ b->ZqV e α β bx ar b)/\(∀b∈blk (Zle e σ α β bx ar) κ,ZkK e α β bx ar b)/\¬Ze9 κ:=by
  intro κ hk;cases κ with
  | b i=>
   obtain ⟨cs,hcs⟩:=hk;exact ⟨fun b hb=>.inl ⟨i,cs,hcs,hb⟩,fun b hb=>.inl ⟨i,cs,hcs,by simpa [blk,Zle] using hb⟩,fun hd=>hd.elim⟩
  | a i=>
   obtain ⟨A,hA⟩:=hk;have h1:=(g.a1 i _ hA).1;refine ⟨fun b hb=>.inr ⟨i,_,hA, ?_⟩,fun b hb=>.inr ⟨i,_,hA,ZoE.1 hb⟩,fun hd=>by have:1000000<=i:=hd;omega⟩;rcases hb with hb| ⟨hb,_⟩
   ·exact hb
   ·omega
 have key2:∀κ b,live ⟨n,ZaX 0 vs,bx,ar⟩ κ->b∈blk (Zle e σ α β bx ar) κ->∃κ0,live σ κ0/\b∈blk e κ0/\((∃i,κ= .b i/\κ0= .b (β i))\/∃i,κ= .a i/\κ0= .a (α i)):=by
  intro κ b hk hb;cases κ with
  | b i=>
   obtain ⟨cs,hcs⟩:=hk;obtain ⟨_,ds,h3,_⟩:=g.b1 i cs hcs;exact ⟨.b (β i),⟨ds,h3⟩,hb,.inl ⟨i,rfl,rfl⟩⟩
  | a i=>
   obtain ⟨A,hA⟩:=hk;obtain ⟨_,h4,C,h3⟩:=g.got hA (ZoE.1 hb);exact ⟨.a (α i),⟨C,h3⟩,((h.ar _ C h3).own h4).1,.inr ⟨i,rfl,rfl⟩⟩
 have tG:∀b,ZqV e α β bx ar b->w0.tch b:=by
  rintro b (⟨i,cs,h1,rfl⟩| ⟨i,A,h1,h2⟩)
  ·obtain ⟨_,ds,h3,_⟩:=g.b1 i cs h1;exact h.tp (.b (β i)) _ ⟨ds,h3⟩ rfl
  ·obtain ⟨_,h4,B,h3⟩:=g.got h1 h2;exact h.tp (.a (α i)) b ⟨B,h3⟩ (.inl h4)
 refine ⟨by simp [ZgC];omega,rfl,fun t x ht=> ?_,fun i cs hi=> ?_,fun i A hA=> ?_,fun κ κ' hk hk' hne=> ?_,⟨?_,rfl,rfl,rfl,Zwk _,fun _ _ _=>rfl,fun b hb=>.inl hb⟩,⟨fun _ h=>h,fun b hb=>⟨?_,fun κ hk hbk=> ?_⟩⟩,fun κ hk hd=> ?_,fun _ _ _ _=>rfl,fun b hb=> ?_,fun κ b hk hb=> ?_⟩
 ·obtain ⟨j,rfl,hj⟩:=Zfx ht;obtain ⟨y,h1,h2⟩:=hm2 j x hj;obtain ⟨u,h3,h4⟩:=hv j y h1;rw [Nat.zero_add,ZmS h3];exact g.ZtD h h4 h2 (hcl x (List.mem_of_getElem? hj))
 ·obtain ⟨_,ds,h3,h4⟩:=g.b1 i cs hi;obtain ⟨_,k2⟩:=h.bx _ ds h3;exact ⟨.inr (.inl ⟨i,cs,hi,rfl⟩),k2.imp (fun vs k3=>g.Yb h k3 h4 (g.e1 i cs hi)) fun es h0=>ZrS (h0▸h4)⟩
 ·rcases (g.a1 i _ hA).2 with ⟨hlt,C,⟨B,hB,hf,hes⟩,h3⟩| ⟨h1,hB,_⟩
  ·skip
   obtain rfl:=Zwf hB;obtain ⟨f,es⟩:=A;simp only at hf hes;subst hf hes;obtain ⟨p,c,hvv,hc,h4| ⟨b,t,cur,Fs,W,rfl,q2,q3,q4,q5,q6,q7,q8⟩⟩:=h.ar _ C h3
   ·exact ⟨p,c,(show rh e (α i)=e.ρ (α i) from if_neg (by omega)).trans hvv,hc,.inl ⟨h4.1,h4.2.1,h4.2.2.1,by simp [Zle,ob,rh,show ¬2000000<=α i by omega,hvv,h4.2.1,Value.ownBlock]⟩⟩
   ·have ho:(e.ρ (α i)).ownBlock=some b:=by rw [hvv];rfl
    have hr:rh e (α i)=e.ρ (α i):=if_neg (by omega);refine ⟨_,c,hr.trans hvv,hc,.inr ⟨b,t,cur,Fs,W,rfl,.inr (.inr ⟨i,_,hA,by rw [hr];exact ho⟩),q3,q4,q5,q6,q7,.inr ⟨rfl,by simp [Zle,ob,hr,ho], ?_⟩⟩⟩;rcases q8 with ⟨g1,g2,g3,g4⟩| ⟨g1,g2,g3,g4⟩
    ·refine ⟨g4.rp,fun x hx hm=>h.inner h3 hlt (by simp [g2,hx]) ?_ (g.mut h hm)⟩;rw [ho];intro e';obtain rfl:=Zwf e';rw [g2] at g3;exact (List.nodup_cons.1 g3).1 hx
    ·exact ⟨g3,fun x hx hm=>g4 x hx (g.mut h hm)⟩
  ·obtain rfl:=Zwf hB;have hr:rh e (α i)= .slice none 0 0:=if_pos h1;exact ⟨none,0,hr,by omega,.inl ⟨rfl,rfl,rfl,by simp [Zle,ob,hr,Value.ownBlock]⟩⟩
 ·intro b hb hb';obtain ⟨κ0,k1,k2,k6⟩:=key2 κ b hk hb;obtain ⟨κ1,l1,l2,l6⟩:=key2 κ' b hk' hb';refine h.sep κ0 κ1 k1 l1 (fun heq=>hne ?_) b k2 l2;rcases k6 with ⟨i,rfl,rfl⟩| ⟨i,rfl,rfl⟩<;>rcases l6 with ⟨j,rfl,rfl⟩| ⟨j,rfl,rfl⟩
  ·obtain ⟨cs,hcs⟩:=hk;obtain ⟨ds,hds⟩:=hk';obtain ⟨cs',hcs'⟩:=g.c2 i cs hcs;obtain ⟨ds',hds'⟩:=g.c2 j ds hds;injection heq with heq
   rw [g.b2 i cs' j ds' hcs' hds' heq]
  ·cases heq
  ·cases heq
  ·obtain ⟨A,hA⟩:=hk;obtain ⟨B,hB⟩:=hk';injection heq with heq
   rw [g.a2 i _ j _ hA hB heq]
 ·obtain ⟨G,hG,hn'⟩:=h.fr.glb;refine ⟨G,hG,fun b hb hm=> ?_⟩;rcases hm with hm| hm
  ·have:=hG.1 b hb;omega
  ·exact hn' b hb (tG b hm)
 ·rcases h.ZoC hb.1 with k| k
  ·exact (h.bad.2 b k).1
  ·exact k.1
 ·exact absurd ((key κ hk).2.1 b hbk) hb.2
 ·exact absurd hd (key κ hk).2.2
 ·rcases hb with hb| hb
  ·exact .inl hb
  ·exact .inr hb
 ·exact .inr ((key κ hk).1 b hb)
theorem Jd {B C:Type} (φ:Nat->Nat) (f:B->C):∀{l:List (Nat×B)},(∀i j,(l.lookup i).isSome=true->(l.lookup j).isSome=true->φ i=φ j->i=j)->∀{k:Nat} {c:C},(l.map fun p=>(φ p.1,f p.2)).lookup k=some c↔∃i x,l.lookup i=some x/\k=φ i/\c=f x
 | [],_,k,c=>by simp
 | (j,y)::l,inj,k,c=>by
  have inj':∀i j,(l.lookup i).isSome=true->(l.lookup j).isSome=true->φ i=φ j->i=j:=fun i i' hi hi' he=>inj i i' (by rw [lookup_cons];split<;>simp [*]) (by rw [lookup_cons];split<;>simp [*]) he;have ih:=Jd (l:=l) φ f inj' (k:=k) (c:=c);simp only [List.map_cons,lookup_cons]
  by_cases hk:k=φ j
  ·rw [if_pos hk];refine ⟨fun h=>⟨j,y,by simp,hk,(Zwf h).symm⟩, ?_⟩;rintro ⟨i,x,h1,h2,rfl⟩;have hij:i=j:=inj i j (by rw [lookup_cons,h1];rfl) (by rw [lookup_cons,if_pos rfl];rfl) (by rw [<-h2,hk]);rw [if_pos hij] at h1;rw [Zwf h1]
  ·rw [if_neg hk,ih];refine ⟨fun ⟨i,x,h1,h2,h3⟩=>⟨i,x,by rw [if_neg (fun e=>hk (by rw [h2,e]))];exact h1,h2,h3⟩,fun ⟨i,x,h1,h2,h3⟩=>⟨i,x,by rw [if_neg (fun e=>hk (by rw [h2,e]))] at h1;exact h1,h2,h3⟩⟩
theorem Un {B C:Type} (φ:Nat->Nat) (f:B->C) {l:List (Nat×B)} {k:Nat} (h:(l.map fun p=>(φ p.1,f p.2)).lookup k=none):∀i x,l.lookup i=some x->k≠φ i:=by
 induction l with
 | nil=>simp
 | cons p l ih=>
  obtain ⟨j,y⟩:=p;simp only [List.map_cons,lookup_cons] at h
  split at h
  ·cases h
  ·rename_i hk;intro i x hi;rw [lookup_cons] at hi
   split at hi
   ·rename_i hij;rw [hij];exact hk
   ·exact ih h i x hi
theorem Je {B:Type} (l r:List (Nat×B)) (k:Nat):(l++r).lookup k=match l.lookup k with | some x=>some x| none=>r.lookup k:=by
 induction l with
 | nil=>rfl
 | cons p l ih=>
  obtain ⟨j,y⟩:=p;simp only [List.cons_append,lookup_cons]
  split
  ·rfl
  ·exact ih
def gT (γ β:Nat->Nat) (dst:Option Nat) (r:V):List (Nat×V):=
 match dst with
 | some d=>[(d,rnV γ β r)]
 | none=>[]
def Ze8 (α β γ:Nat->Nat) (dst:Option Nat) (r:V) (bo:List (Nat×List CV)) (ao ar:List (Nat×Option Arr)):Eff:=
 ⟨True,gT γ β dst r,bo.map fun p=>(β p.1,p.2.map (rnC γ β)),(ao.map fun p=>(γ p.1,p.2))++ar.map fun p=>(α p.1,none)⟩
theorem GM.bok (g:GM σ n α β γ bx ar bo ao) (h:ZC N w0 e σ a w):Bok (fun b=>w.heap.size<=b\/ZkK e α β bx ar b) (bsG e σ w α β bx ar):=by
 refine ⟨fun b hb hn=> ?_,fun b hn=> ?_⟩
 ·rcases hn with hn| hn
  ·have:b<w.heap.size:=by
    rcases h.ZoC hb.1 with k| k
    ·exact (h.bad.2 b k).1
    ·exact k.1
   omega
  ·exact hb.2 hn
 ·exact hn
open Classical in
theorem GM.Zua (g:GM σ n α β γ bx ar bo ao) (h:ZC N w0 e σ a w) {w':World} {e2:Env} {r:V} {u:Value} (h2:ZC (fun b=>w.heap.size<=b\/ZkK e α β bx ar b) (bsG e σ w α β bx ar) e2 ⟨n,[],bo,ao⟩ (ZgC n []) w') (hz:r.rel e2 ⟨n,[],bo,ao⟩ w' u)
  (hrc:Zs5 bo ao r) (hao:∀i A,ao.lookup i=some A->∃B,A=some B) {dst:Option Nat} (hd:∀d,dst=some d->d<σ.nt):
  ∃e3,ZC N w0 e3 (σ.app (Ze8 α β γ dst r bo ao ar)) (a.put dst u) w':=by
 let e3:Env:=⟨fun k=>if h:∃i cs,bo.lookup i=some cs/\β i=k then e2.β h.choose else e.β k,fun τ=>if h:∃i A,ao.lookup i=some (some A)/\γ i=τ then e2.ρ h.choose else e.ρ τ,fun τ=>if h:∃i A,ao.lookup i=some (some A)/\γ i=τ then e2.φ h.choose else e.φ τ,e.bad⟩
 obtain ⟨σ3,hσ3⟩:∃σ3,σ3=σ.app (Ze8 α β γ dst r bo ao ar):=⟨_,rfl⟩
 have hβ:∀i cs,bo.lookup i=some cs->e3.β (β i)=e2.β i:=fun i cs hi=>by
  have hx:∃j cs,bo.lookup j=some cs/\β j=β i:=⟨i,cs,hi,rfl⟩;show (if h:∃j cs,bo.lookup j=some cs/\β j=β i then e2.β h.choose else e.β (β i))=_;rw [dif_pos hx];obtain ⟨cs',h1,h3⟩:=hx.choose_spec;rw [g.b2 _ _ _ _ h1 hi h3]
 have hβ':∀k,(∀i cs,bo.lookup i=some cs->β i≠k)->e3.β k=e.β k:=fun k hk=>dif_neg fun ⟨i,cs,h1,h3⟩=>hk i cs h1 h3
 have hγ:∀i A,ao.lookup i=some (some A)->e3.ρ (γ i)=e2.ρ i/\e3.φ (γ i)=e2.φ i:=fun i A hi=>by
  have hx:∃j A,ao.lookup j=some (some A)/\γ j=γ i:=⟨i,A,hi,rfl⟩;obtain ⟨B,h1,h3⟩:=hx.choose_spec;have hc:=g.d2 _ _ _ _ h1 hi h3;refine ⟨?_, ?_⟩
  ·show (if h:∃j A,ao.lookup j=some (some A)/\γ j=γ i then e2.ρ h.choose else e.ρ (γ i))=_;rw [dif_pos hx,hc]
  ·show (if h:∃j A,ao.lookup j=some (some A)/\γ j=γ i then e2.φ h.choose else e.φ (γ i))=_;rw [dif_pos hx,hc]
 have hγ':∀τ,(∀i A,ao.lookup i=some (some A)->γ i≠τ)->e3.ρ τ=e.ρ τ/\e3.φ τ=e.φ τ:=fun τ hτ=>⟨dif_neg fun ⟨i,A,h1,h3⟩=>hτ i A h1 h3,dif_neg fun ⟨i,A,h1,h3⟩=>hτ i A h1 h3⟩
 have nog:∀i A τ B,ao.lookup i=some (some A)->σ.ar.lookup τ=some B->γ i≠τ:=fun i A τ B h1 h3 he=>by
  have:=(g.d1 i A h1).2.2;rw [he,h3] at this;cases this
 have injb:∀i j,(bo.lookup i).isSome=true->(bo.lookup j).isSome=true->β i=β j->i=j:=fun i j hi hj he=>by
  obtain ⟨x,hx⟩:=Option.isSome_iff_exists.1 hi;obtain ⟨y,hy⟩:=Option.isSome_iff_exists.1 hj;exact g.b2 i x j y hx hy he
 have injo:∀i j,(ao.lookup i).isSome=true->(ao.lookup j).isSome=true->γ i=γ j->i=j:=fun i j hi hj he=>by
  obtain ⟨x,hx⟩:=Option.isSome_iff_exists.1 hi;obtain ⟨y,hy⟩:=Option.isSome_iff_exists.1 hj;obtain ⟨x',rfl⟩:=hao i x hx;obtain ⟨y',rfl⟩:=hao j y hy;exact g.d2 i x' j y' hx hy he
 have inja:∀i j,(ar.lookup i).isSome=true->(ar.lookup j).isSome=true->α i=α j->i=j:=fun i j hi hj he=>by
  obtain ⟨x,hx⟩:=Option.isSome_iff_exists.1 hi;obtain ⟨y,hy⟩:=Option.isSome_iff_exists.1 hj;exact g.a2 i x j y hx hy he
 have bx3:σ3.bx=(bo.map fun p=>(β p.1,p.2.map (rnC γ β)))++σ.bx:=by rw [hσ3];rfl
 have ar3:σ3.ar=(ao.map fun p=>(γ p.1,p.2))++((ar.map fun p=>(α p.1,none))++σ.ar):=by rw [hσ3];simp [St.app,Ze8]
 have L1:∀k cs,σ3.bx.lookup k=some cs->(∃i cs',bo.lookup i=some cs'/\k=β i/\cs=cs'.map (rnC γ β))\/((∀i cs',bo.lookup i=some cs'->k≠β i)/\σ.bx.lookup k=some cs):=fun k cs hk=>by
  rw [bx3,Je] at hk
  split at hk
  ·rename_i x hx;obtain rfl:=Zwf hk;exact .inl ((Jd β _ injb).1 hx)
  ·rename_i hx;exact .inr ⟨Un β _ hx,hk⟩
 have L1':∀i cs',bo.lookup i=some cs'->σ3.bx.lookup (β i)=some (cs'.map (rnC γ β)):=fun i cs' hi=>by
  rw [bx3,Je,(Jd β _ injb).2 ⟨i,cs',hi,rfl,rfl⟩]
 have L1'':∀k cs,σ.bx.lookup k=some cs->∃cs',σ3.bx.lookup k=some cs':=fun k cs hk=>by
  rw [bx3,Je]
  split
  ·exact ⟨_,rfl⟩
  ·exact ⟨cs,hk⟩
 have L2:∀τ B,σ3.ar.lookup τ=some (some B)->(∃i,ao.lookup i=some (some B)/\τ=γ i)\/((∀i A,ao.lookup i=some A->τ≠γ i)/\(∀i A,ar.lookup i=some A->τ≠α i)/\σ.ar.lookup τ=some (some B)):=fun τ B hτ=>by
  rw [ar3,Je] at hτ
  split at hτ
  ·rename_i x hx;obtain rfl:=Zwf hτ;obtain ⟨i,y,h1,h3,rfl⟩:=(Jd γ (fun x=>x) injo).1 hx;exact .inl ⟨i,h1,h3⟩
  ·rename_i hx;rw [Je] at hτ
   split at hτ
   ·rename_i y hy;obtain ⟨i,z,h1,h3,h4⟩:=(Jd α (fun _=>(none:Option Arr)) inja).1 hy;rw [h4] at hτ;cases hτ
   ·rename_i hy;exact .inr ⟨Un γ (fun x=>x) hx,Un α (fun _=>(none:Option Arr)) hy,hτ⟩
 have L2':∀i A,ao.lookup i=some (some A)->σ3.ar.lookup (γ i)=some (some A):=fun i A hi=>by
  rw [ar3,Je,(Jd γ (fun x=>x) injo).2 ⟨i,some A,hi,rfl,rfl⟩]
 have L2'':∀τ A,σ.ar.lookup τ=some A->σ3.ar.lookup τ=some none\/(σ3.ar.lookup τ=some A/\∀i A,ar.lookup i=some A->τ≠α i):=fun τ A hA=>by
  rw [ar3,Je]
  split
  ·rename_i x hx;obtain ⟨i,y,h1,h3,rfl⟩:=(Jd γ (fun x=>x) injo).1 hx;obtain ⟨B,rfl⟩:=hao i _ h1;exact absurd h3.symm (nog i B τ A h1 hA)
  ·rw [Je]
   split
   ·rename_i y hy;obtain ⟨i,z,h1,h3,rfl⟩:=(Jd α (fun _=>(none:Option Arr)) inja).1 hy;exact .inl rfl
   ·rename_i hy;exact .inr ⟨hA,Un α (fun _=>(none:Option Arr)) hy⟩
 have nga:∀τ A,σ.ar.lookup τ=some A->∀i B,ao.lookup i=some (some B)->γ i≠τ:=fun τ A hA i B hi=>nog i B τ A hi hA
 have gN:∀b,ZkK e α β bx ar b->b<w.heap.size/\N b:=by
  rintro b (⟨i,cs,h1,rfl⟩| ⟨i,A,h1,h3⟩)
  ·obtain ⟨_,ds,h3,_⟩:=g.b1 i cs h1;exact h.Yk (κ:=.b (β i)) ⟨ds,h3⟩ _ (by simp [blk])
  ·obtain ⟨_,h5,B,h4⟩:=g.got h1 h3;exact h.Yk (κ:=.a (α i)) ⟨B,h4⟩ b ((h.ar _ B h4).own h5).1
 have N1:∀b,(w.heap.size<=b\/ZkK e α β bx ar b)->N b:=fun b hb=>hb.elim (fun hb=>h.tn b (h.fr.new b (Nat.le_trans h.fr.size hb))) fun hb=>(gN b hb).2
 have tG:∀b,ZqV e α β bx ar b->Mut e σ b/\w0.tch b:=by
  rintro b (⟨i,cs,h1,rfl⟩| ⟨i,A,h1,h3⟩)
  ·obtain ⟨_,ds,h3,_⟩:=g.b1 i cs h1;exact ⟨.inr (.inl ⟨_,ds,h3,rfl⟩),h.tp (.b (β i)) _ ⟨ds,h3⟩ rfl⟩
  ·obtain ⟨_,h5,B,h4⟩:=g.got h1 h3;exact ⟨.inr (.inr ⟨_,B,h4,h5⟩),h.tp (.a (α i)) b ⟨B,h4⟩ (.inl h5)⟩
 have T1:∀b,(bsG e σ w α β bx ar).tch b->w0.tch b:=fun b hb=>hb.elim (fun hb=>h.fr.new b (Nat.le_trans h.fr.size hb)) fun hb=>(tG b hb).2;have same:∀b,b<w.heap.size->¬ZqV e α β bx ar b->w'.heap[b]? =w.heap[b]? :=fun b hb ht=>h2.fr.block b hb fun hm=>hm.elim (fun hm=>absurd (show w.heap.size<=b from hm) (by omega)) ht
 have apart:∀κ,live σ κ->(∀i cs,bx.lookup i=some cs->κ≠.b (β i))->(∀i A,ar.lookup i=some A->κ≠.a (α i))->∀b∈blk e κ,¬ZkK e α β bx ar b/\¬ZqV e α β bx ar b:=by
  intro κ hk n1 n2 b hb
  have k1:¬ZkK e α β bx ar b:=by
   rintro (⟨i,cs,h1,rfl⟩| ⟨i,A,h1,h3⟩)
   ·obtain ⟨_,ds,h3,_⟩:=g.b1 i cs h1;exact h.sep κ (.b (β i)) hk ⟨ds,h3⟩ (n1 i cs h1) _ hb (by simp [blk])
   ·obtain ⟨_,h5,B,h4⟩:=g.got h1 h3;exact h.sep κ (.a (α i)) hk ⟨B,h4⟩ (n2 i A h1) b hb ((h.ar _ B h4).own h5).1
  exact ⟨k1,k1⟩
 have bxo:∀k,(∀i cs',bo.lookup i=some cs'->k≠β i)->∀i cs,bx.lookup i=some cs->Key.b k≠.b (β i):=fun k hk i cs hi he=>by
  obtain ⟨cs',h3⟩:=g.c2 i cs hi;injection he with he
  exact hk i cs' h3 he
 have M:∀b,Mut e3 σ3 b->Mut e2 ⟨n,[],bo,ao⟩ b:=by
  intro b hm;have old:Mut e σ b->¬ZkK e α β bx ar b->Mut e2 ⟨n,[],bo,ao⟩ b:=fun k1 k2=>.inl (h2.bad.1 b ⟨k1,k2⟩);rcases hm with h0| ⟨k,cs,k1,k2⟩| ⟨τ,B,k1,k2⟩
  ·refine old (.inl h0) ?_;rintro (⟨i,cs,q1,rfl⟩| ⟨i,A,q1,q3⟩)
   ·obtain ⟨_,ds,q3,_⟩:=g.b1 i cs q1;exact (h.bad.2 _ h0).2 (.b (β i)) ⟨ds,q3⟩ (by simp [blk])
   ·obtain ⟨q5,q6,B,q4⟩:=g.got q1 q3;have:1000000<=α i:=(h.bad.2 b h0).2 (.a (α i)) ⟨B,q4⟩ ((h.ar _ B q4).own q6).1;omega
  ·rcases L1 k cs k1 with ⟨i,cs',q1,rfl,_⟩| ⟨q1,q2⟩
   ·rw [hβ i cs' q1] at k2;exact .inr (.inl ⟨i,cs',q1,k2⟩)
   ·rw [hβ' k fun i cs' hi he=>q1 i cs' hi he.symm] at k2;exact old (.inr (.inl ⟨k,cs,q2,k2⟩)) (apart (.b k) ⟨cs,q2⟩ (bxo k q1) (fun i A _ he=>by cases he) b (by simp [blk,k2])).1
  ·rcases L2 τ B k1 with ⟨i,q1,rfl⟩| ⟨q1,q2,q3⟩
   ·rw [(hγ i B q1).1] at k2;exact .inr (.inr ⟨i,B,q1,k2⟩)
   ·rw [(hγ' τ (nga τ _ q3)).1] at k2;exact old (.inr (.inr ⟨τ,B,q3,k2⟩)) (apart (.a τ) ⟨B,q3⟩ (fun i cs _ he=>by cases he) (fun i A hi he=>by injection he with he;exact q2 i A hi he) b ((h.ar τ B q3).own k2).1).1
 have C:∀c v,c.rel e2 ⟨n,[],bo,ao⟩ w' v->clO bo ao c->(rnC γ β c).rel e3 σ3 w' v:=by
  intro c v hr hc;cases c<;>simp only [clO] at hc<;>try exact hc.elim
  ·obtain ⟨F,k1,k2⟩:=hr;exact ⟨F,k1,fun b hb hm=>k2 b hb (M b hm)⟩
  ·exact hr
  ·rename_i i m;obtain ⟨A,hA⟩:=hc;obtain ⟨A2,k1,k2,k3⟩:=hr;have k1':ao.lookup i=some A2:=k1;rw [hA] at k1';obtain rfl:=Zwf k1';exact ⟨some A,L2' i A hA,fun B hB=>by rw [(hγ i A hA).1];exact k2 B hB,k3⟩
  ·rename_i i o;obtain ⟨cs,hcs⟩:=Option.isSome_iff_exists.1 hc;refine ⟨⟨_,L1' i cs hcs⟩, ?_⟩;rw [hβ i cs hcs];exact hr.2
  ·obtain ⟨b,off,vs,F,k1,k2,k3,k4,k5,k6⟩:=hr;exact ⟨b,off,vs,F,k1,k2,k3,k4,fun hm=>k5 (M b hm),fun x hx hm=>k6 x hx (M x hm)⟩
  ·exact hr
  ·obtain ⟨_,F,k1,k2⟩:=hr;exact ⟨F,k1,fun b hb hm=>k2 b hb (M b hm)⟩
  ·exact hr
  ·rename_i f is;refine ⟨fun k hk=> ?_, ?_⟩
   ·obtain ⟨i,hi,rfl⟩:=List.mem_map.1 hk;obtain ⟨cs,hcs⟩:=Option.isSome_iff_exists.1 (hc i hi);exact ⟨_,L1' i cs hcs⟩
   ·rw [hr.2,List.map_map];refine congrArg (fun l:List Value=>Value.func (.func f) #[] l.toArray) (List.map_congr_left fun i hi=> ?_);obtain ⟨cs,hcs⟩:=Option.isSome_iff_exists.1 (hc i hi);simp only [Function.comp,hβ i cs hcs]
  ·exact hr
  ·rename_i i;obtain ⟨cs,hcs⟩:=Option.isSome_iff_exists.1 hc;refine ⟨⟨_,L1' i cs hcs⟩, ?_⟩;rw [hβ i cs hcs];exact hr.2
  ·exact hr
 have CL:∀(cs:List CV) (vs:List Value),Am.Yb e2 ⟨n,[],bo,ao⟩ w' cs vs->(∀c∈cs,clO bo ao c)->Am.Yb e3 σ3 w' (cs.map (rnC γ β)) vs:=by
  intro cs
  induction cs with
  | nil=>intro vs hr _;exact hr
  | cons c cs ih=>
   intro vs hr hc;simp only [Am.Yb,List.map_cons] at hr ⊢;obtain ⟨v,vs',k0,k1,k2⟩:=hr;exact ⟨v,vs',k0,C c v k1 (hc c (by simp)),ih vs' k2 fun x hx=>hc x (by simp [hx])⟩
 have CP:∀(ps:List (Bool×List CV)) (vs:List Value),Yl e2 ⟨n,[],bo,ao⟩ w' ps vs->(∀p∈ps,∀c∈p.2,clO bo ao c)->Yl e3 σ3 w' (ps.map fun p=>(p.1,p.2.map (rnC γ β))) vs:=by
  intro ps
  induction ps with
  | nil=>intro vs hr _;exact hr
  | cons p ps ih=>
   intro vs hr hc;obtain ⟨b,cs⟩:=p;simp only [Yl,List.map_cons] at hr ⊢;obtain ⟨v,vs',k0,k1,k2⟩:=hr;refine ⟨v,vs',k0, ?_,ih vs' k2 fun x hx=>hc x (by simp [hx])⟩;cases b
   ·obtain ⟨c,rfl,k3⟩:=k1;exact ⟨rnC γ β c,rfl,C c v k3 (hc (false,[c]) (by simp) c (by simp))⟩
   ·obtain ⟨us,rfl,k3⟩:=k1;exact ⟨us,rfl,CL cs us k3 (hc (true,cs) (by simp))⟩
 have CR:r.rel e2 ⟨n,[],bo,ao⟩ w' u->Zs5 bo ao r->(rnV γ β r).rel e3 σ3 w' u:=by
  intro hr hc;cases r with
  | one c=>exact C c u hr hc
  | agg cs=>
   obtain ⟨us,hu,hr⟩:=hr;exact ⟨us,hu,CL cs us hr hc⟩
  | tup ps=>
   obtain ⟨us,hu,hr⟩:=hr;exact ⟨us,hu,CP ps us hr hc⟩
  | dead=>exact hr
 rw [<-hσ3];have nt3:σ3.nt=σ.nt:=by rw [hσ3];rfl
 have tm3:σ3.tm=gT γ β dst r++σ.tm:=by rw [hσ3];rfl
 have pin2:∀i cs,bo.lookup i=some cs->∀cs0,bx.lookup i=some cs0->e2.β i=e.β (β i):=fun i cs hi cs0 h0=>h2.pn i cs hi (g.b1 i cs0 h0).1
 have bold:∀i cs,bo.lookup i=some cs->∀ds,σ.bx.lookup (β i)=some ds->e3.β (β i)=e.β (β i):=fun i cs hi ds hds=>by
  rw [hβ i cs hi];rcases g.c1 i cs hi with ⟨cs',h3⟩| ⟨_,h3,_⟩
  ·exact pin2 i cs hi cs' h3
  ·rw [h3] at hds;cases hds
 have mt:∀b,b<w.heap.size->Mut e3 σ3 b->Mut e σ b:=by
  intro b hb hm;have tt:(bsG e σ w α β bx ar).tch b->Mut e σ b:=fun k=>k.elim (fun k=>absurd (show w.heap.size<=b from k) (by omega)) fun k=>(tG b k).1;rcases hm with h0| ⟨k,cs,k1,k2⟩| ⟨τ,B,k1,k2⟩
  ·exact .inl h0
  ·rcases L1 k cs k1 with ⟨i,cs',q1,rfl,_⟩| ⟨q1,q2⟩
   ·rw [hβ i cs' q1] at k2;exact tt (h2.tp (.b i) b ⟨cs',q1⟩ k2.symm)
   ·rw [hβ' k fun i cs' hi he=>q1 i cs' hi he.symm] at k2;exact .inr (.inl ⟨k,cs,q2,k2⟩)
  ·rcases L2 τ B k1 with ⟨i,q1,rfl⟩| ⟨q1,q2,q3⟩
   ·rw [(hγ i B q1).1] at k2;exact tt (h2.tp (.a i) b ⟨B,q1⟩ (.inl k2))
   ·rw [(hγ' τ (nga τ _ q3)).1] at k2;exact .inr (.inr ⟨τ,B,q3,k2⟩)
 have up:Up e σ w e3 σ3 w':=by
  refine ⟨h2.fr.size,fun b hb hm=>same b hb fun k=>hm (tG b k).1,mt,fun k cs hk=>⟨L1'' k cs hk, ?_⟩,fun τ A hA=> ?_,fun τ hτ ⟨B,hB⟩ _=> ?_⟩
  ·by_cases hx:∃i cs',bo.lookup i=some cs'/\β i=k
   ·obtain ⟨i,cs',h3,rfl⟩:=hx;exact bold i cs' h3 cs hk
   ·exact hβ' k fun i cs' hi he=>hx ⟨i,cs',hi,he⟩
  ·rcases L2'' τ A hA with k| ⟨k,_⟩
   ·exact ⟨none,k,fun _ hx=>by cases hx⟩
   ·exact ⟨A,k,fun B' hB=>⟨B',hB,Zwk _,fun _=>(hγ' τ (nga τ A hA)).1⟩⟩
  ·refine ⟨(hγ' τ (nga τ _ hB)).1,fun b hb=>same b ?_ ?_⟩
   ·exact (h.Yk (κ:=.a τ) ⟨B,hB⟩ b ((h.ar τ B hB).own hb).1).1
   ·exact (apart (.a τ) ⟨B,hB⟩ (fun i cs _ he=>by cases he) (fun i A hi he=>by
    injection he with he
    rcases (g.a1 i A hi).2 with ⟨hx,_⟩| ⟨_,_,hx| hx⟩
    ·omega
    ·rw [<-he,hB] at hx;cases hx
    ·rw [<-he,hB] at hx;cases hx) b ((h.ar τ B hB).own hb).1).2
 have oa:∀τ A,σ.ar.lookup τ=some (some A)->(∀i A,ar.lookup i=some A->τ≠α i)->∀b∈e.φ τ,w'.heap[b]? =w.heap[b]? :=fun τ A hA hn b hb=>
  same b (h.Yk (κ:=.a τ) ⟨A,hA⟩ b hb).1 (apart (.a τ) ⟨A,hA⟩ (fun i cs _ he=>by cases he) (fun i B hi he=>by injection he with he;exact hn i B hi he) b hb).2
 refine ⟨e3,h.Zkn up (fun κ=>match κ with | .b k=>∃i cs,bo.lookup i=some cs/\k=β i| .a τ=>∃i A,ao.lookup i=some (some A)/\τ=γ i) (by rw [Yn,nt3];exact h.nt) (by rw [ZV];exact h.df)
  (fun t v ht=> ?_) (fun k cs hk hK=> ?_) (fun τ A hA hK=> ?_) (fun k cs hk hK=> ?_) (fun τ A hA hK=> ?_) (fun κ hl hK b hb=> ?_) (fun κ κ' hl hl' hne hK hK'=> ?_) ?_ (fun _ h=>h) (fun b hb=>.inl hb) (fun κ hl hK hd=> ?_) (fun k cs hk hK hle=> ?_) (fun κ b hl hK hb=> ?_) nt3⟩
 ·rw [tm3] at ht;cases dst with
  | none=>exact .inl ⟨by simpa [gT] using ht,rfl⟩
  | some d=>exact JC (by rw [h.nt];exact hd d rfl) (CR hz hrc) t v ht
 ·rcases L1 k cs hk with ⟨i,cs',q1,q2,_⟩| ⟨q1,q2⟩
  ·exact absurd ⟨i,cs',q1,q2⟩ hK
  ·refine ⟨q2,same _ (h.Yk (κ:=.b k) ⟨cs,q2⟩ _ (by simp [blk])).1 ?_⟩;exact (apart (.b k) ⟨cs,q2⟩ (bxo k q1) (fun i A _ he=>by cases he) _ (by simp [blk])).2
 ·rcases L2 τ A hA with ⟨i,q1,q2⟩| ⟨q1,q2,q3⟩
  ·exact absurd ⟨i,A,q1,q2⟩ hK
  ·exact ⟨q3,(hγ' τ (nga τ _ q3)).1,(hγ' τ (nga τ _ q3)).2,oa τ A q3 q2⟩
 ·obtain ⟨i,cs',q1,rfl⟩:=hK;rw [L1' i cs' q1] at hk;obtain rfl:=Zwf hk;rw [hβ i cs' q1];obtain ⟨k1,k2⟩:=h2.bx i cs' q1;exact ⟨N1 _ k1,k2.imp (fun vs k3=>CL _ _ k3 (g.e2 i cs' q1)) fun es h0=>by rw [h0];rfl⟩
 ·obtain ⟨i,A',q1,rfl⟩:=hK;rw [L2' i A' q1] at hA;obtain rfl:=Zwf (Zwf hA);rw [(hγ i A' q1).1,(hγ i A' q1).2];have nin:∀b∈e2.φ i,N b:=fun b hb=>N1 b (h2.Yk (κ:=.a i) ⟨A',q1⟩ b hb).2;obtain ⟨p,c,hv,hc,k| ⟨b,t,cur,Fs,W,q2,q3,q4,q5,q6,q7,q8,q9⟩⟩:=h2.ar i A' q1
  ·exact ⟨p,c,hv,hc,.inl k⟩
  ·refine ⟨p,c,hv,hc,.inr ⟨b,t,cur,Fs,W,q2,N1 b q3,q4,q5,q6,q7,q8, ?_⟩⟩;rcases q9 with ⟨g1,g2,g3,g4⟩| ⟨g1,g2,g3,g4⟩
   ·exact .inl ⟨g1,g2,g3,g4.within fun x hx=>nin x (by rw [g2];exact List.mem_cons_of_mem _ hx)⟩
   ·exact .inr ⟨g1,g2,g3,fun x hx hm=>g4 x hx (M x hm)⟩
 ·have hN:w.heap.size<=b\/ZkK e α β bx ar b:=by
   cases κ with
   | b k=>
    obtain ⟨i,cs',q1,rfl⟩:=hK;refine (h2.Yk (κ:=.b i) ⟨cs',q1⟩ b ?_).2;simp only [blk,hβ i cs' q1] at hb ⊢;exact hb
   | a τ=>
    obtain ⟨i,A,q1,rfl⟩:=hK;refine (h2.Yk (κ:=.a i) ⟨A,q1⟩ b ?_).2;simp only [blk,(hγ i A q1).2] at hb ⊢;exact hb
  rcases hN with k| ⟨i,cs,k1,k2⟩| ⟨i,A,k1,k2⟩
  ·exact .inr (.inr k)
  ·obtain ⟨_,ds,h3,_⟩:=g.b1 i cs k1;obtain ⟨cs',h4⟩:=g.c2 i cs k1;exact .inr (.inl ⟨.b (β i),.inr ⟨i,cs',h4,rfl⟩,⟨ds,h3⟩,by simp [blk,k2],fun h=>h.elim⟩)
  ·obtain ⟨k3,k4,B,h3⟩:=g.got k1 k2;refine .inr (.inl ⟨.a (α i),.inl ?_,⟨B,h3⟩,((h.ar _ B h3).own k4).1,fun h=>absurd (show 1000000<=α i from h) (by omega)⟩);rintro ⟨C',hC⟩;rcases L2'' (α i) _ h3 with k| ⟨_,k⟩
   ·rw [k] at hC;cases hC
   ·exact k i A k1 rfl
 ·have back:∀κ,(match κ with | .b k=>∃i cs,bo.lookup i=some cs/\k=β i| .a τ=>∃i A,ao.lookup i=some (some A)/\τ=γ i)->∃κ2,live ⟨n,[],bo,ao⟩ κ2/\blk e3 κ=blk e2 κ2/\((∃i,κ2= .b i/\κ= .b (β i))\/∃i,κ2= .a i/\κ= .a (γ i)):=by
   intro κ hK;cases κ with
   | b k=>
    obtain ⟨i,cs',q1,rfl⟩:=hK;exact ⟨.b i,⟨cs',q1⟩,by simp only [blk,hβ i cs' q1],.inl ⟨i,rfl,rfl⟩⟩
   | a τ=>
    obtain ⟨i,A,q1,rfl⟩:=hK;exact ⟨.a i,⟨A,q1⟩,(hγ i A q1).2,.inr ⟨i,rfl,rfl⟩⟩
  obtain ⟨κ2,l1,l2,l3⟩:=back κ hK;obtain ⟨κ3,m1,m2,m3⟩:=back κ' hK';rw [l2,m2];refine h2.sep κ2 κ3 l1 m1 fun he=>hne ?_;subst he;rcases l3 with ⟨i,rfl,rfl⟩| ⟨i,rfl,rfl⟩<;>rcases m3 with ⟨j,hj,rfl⟩| ⟨j,hj,rfl⟩<;>first | (cases hj;done)| (cases hj;rfl)
 ·exact ⟨h.fr.gl,h2.fr.os.trans h.fr.os,h2.fr.tape.trans h.fr.tape,h2.fr.output.trans h.fr.output,Nat.le_trans h.fr.size h2.fr.size,fun b hb hn=>(h2.fr.block b (Nat.lt_of_lt_of_le hb h.fr.size) fun k=>hn (T1 b k)).trans (h.fr.block b hb hn),h.fr.new⟩
 ·cases κ with
  | b k=>exact hd.elim
  | a τ=>
   obtain ⟨i,A,q1,rfl⟩:=hK;have:1000000<=γ i:=hd;have:=(g.d1 i A q1).2.1;omega
 ·obtain ⟨i,cs',q1,rfl⟩:=hK;rcases g.c1 i cs' q1 with ⟨cs0,h3⟩| ⟨_,_,h3⟩
  ·obtain ⟨_,ds,h4,_⟩:=g.b1 i cs0 h3;rw [bold i cs' q1 ds h4];exact h.pn (β i) ds h4 (nt3▸hle)
  ·rw [nt3] at hle;omega
 ·cases κ with
  | b k=>
   obtain ⟨i,cs',q1,rfl⟩:=hK;refine T1 b (h2.tp (.b i) b ⟨cs',q1⟩ ?_);simp only [tpB,hβ i cs' q1] at hb ⊢;exact hb
  | a τ=>
   obtain ⟨i,A,q1,rfl⟩:=hK;refine T1 b (h2.tp (.a i) b ⟨A,q1⟩ ?_);rcases hb with hb| ⟨hb,_⟩
   ·exact .inl (by rw [<-(hγ i A q1).1];exact hb)
   ·have:=(g.d1 i A q1).2.1;omega
theorem GM.le {σ':St} (g:GM σ n α β γ bx ar bo ao) {dst:Option Nat} {r:V} (k:LeB σ σ' (Ze8 α β γ dst r bo ao ar)) (hao:∀i A,ao.lookup i=some A->∃B,A=some B):GM σ' n α β γ bx ar bo ao:=by
 have mem:∀{B:Type} {l:List (Nat×B)} {i:Nat} {x:B},l.lookup i=some x->(i,x)∈l:=by
  intro B l i x hx
  induction l with
  | nil=>simp at hx
  | cons p l ih=>
   obtain ⟨j,y⟩:=p;rw [lookup_cons] at hx
   split at hx
   ·rename_i hij;subst hij;rw [Zwf hx];simp
   ·exact List.mem_cons_of_mem _ (ih hx)
 refine ⟨fun i cs hi=> ?_,g.b2,fun i A hA=> ?_,g.a2,fun i cs hi=> ?_,g.c2,fun i A hA=> ?_,g.d2,g.e1,g.e2⟩
 ·obtain ⟨h1,ds,h2,h3⟩:=g.b1 i cs hi;exact ⟨h1,ds,k.bx _ _ h2,h3⟩
 ·obtain ⟨h1,h2⟩:=g.a1 i A hA;refine ⟨h1, ?_⟩;rcases h2 with ⟨h2,B,h3,h4⟩| ⟨h2,h3,h4⟩
  ·exact .inl ⟨h2,B,h3,k.ar _ _ h4⟩
  ·refine .inr ⟨h2,h3, ?_⟩;rcases h4 with h4| h4
   ·exact .inl (k.fa (α i,none) (List.mem_append_right _ (List.mem_map_of_mem (f:=fun p=>(α p.1,(none:Option Arr))) (mem hA))) h4)
   ·exact .inr (k.ar _ _ h4)
 ·rcases g.c1 i cs hi with h1| ⟨h1,h2,h3⟩
  ·exact .inl h1
  ·exact .inr ⟨h1,k.fb (β i,cs.map (rnC γ β)) (List.mem_map_of_mem (f:=fun p=>(β p.1,p.2.map (rnC γ β))) (mem hi)) h2,k.nt▸h3⟩
 ·obtain ⟨h1,h2,h3⟩:=g.d1 i A hA;exact ⟨h1,h2,k.fa (γ i,some A) (List.mem_append_left _ (List.mem_map_of_mem (f:=fun p=>(γ p.1,p.2)) (mem hA))) h3⟩
theorem GC.call {f:Nat} {vs0 vs:List V} {r:V} (c:GC P f n vs0 bx ar r bo ao) (g:GM σ n α β γ bx ar bo ao) (hm:ZnH α β vs0 vs) (hcl:∀v∈vs0,clV bx ar v) (hrc:Zs5 bo ao r) (hao:∀i A,ao.lookup i=some A->∃B,A=some B) {dst:Option Nat} (hd:∀d,dst=some d->d<σ.nt):
  ZgI P σ dst f vs (Ze8 α β γ dst r bo ao ar):=by
 refine ⟨c.1,fun p hp=> ?_,fun σ' k N w0 e a w us h hl hv=> ?_⟩
 ·cases dst with
  | none=>simp [Ze8,gT] at hp
  | some d=>simp [Ze8,gT] at hp;rw [hp]
 ·have g':=g.le k hao;have hlen:=(Zgb hm).1;have hs:=g'.enter h hl hv hm hcl c.2.1;refine (c.2.2 _ _ _ us w (by omega) (g'.bok h) hs).mono fun ex w' hR=> ?_;obtain ⟨e2,u,k1,k2,k3⟩:=hR;obtain ⟨e3,k4⟩:=g'.Zua h k3 k2 hrc hao (dst:=dst) (fun d hd'=>k.nt▸hd d hd');exact ⟨u,e3,k1,k4⟩
end
def toP:V->Option (Bool×List CV)
 | .one c=>some (false,[c])
 | .agg cs=>some (true,cs)
 | _=>none
def Znj:List V->Option (List (Bool×List CV))
 | []=>some []
 | v::vs=>match toP v,Znj vs with
  | some p,some ps=>some (p::ps)
  | _,_=>none
def Zou:List V->Option V
 | [v]=>some v
 | vs=>(Znj vs).map .tup
def ZqR (σ' σ:St):Prop:=ZqW σ' σ σ'.tm/\Zq0 σ' σ σ'.bx/\Zq3 σ σ'.ar
def Zpw (n:Nat) (r:V) (bo:List (Nat×List CV)) (ao:List (Nat×Option Arr)) (σ:St):Option V->Prop
 | some x=>0<n/\n=σ.nt/\ZqR ⟨n,[(0,r)],bo,ao⟩ ⟨n,(0,x)::σ.tm,σ.bx,σ.ar⟩
 | none=>False
def Zpx (P:Program) (rv:Array ResultVar) (n:Nat) (r:V) (bo:List (Nat×List CV)) (ao:List (Nat×Option Arr)) (σ:St):Prop:=Zpw n r bo ao σ ((Zb8 P σ rv.toList).bind Zou)
def ZsZ (P:Program) (rv:Array ResultVar) (n:Nat) (r:V) (bo:List (Nat×List CV)) (ao:List (Nat×Option Arr)):Exit->St->Prop
 | .normal,σ=>Zpx P rv n r bo ao σ
 | .ret,σ=>Zpx P rv n r bo ao σ
 | _,_=>False
section
variable {e:Env} {σ:St} {w:World} {N:Nat->Prop} {w0:Bs} {a:Act} {P:Program}
theorem Zji:∀{vs:List V} {us:List Value} {ps:List (Bool×List CV)},UQ e σ w vs us->Znj vs=some ps->Yl e σ w ps us
 | [],us,ps,h,hp=>by
  simp only [Znj,Zwh] at hp;subst hp
  simpa [UQ,Yl] using h
 | v::vs,us,ps,h,hp=>by
  simp only [UQ] at h;obtain ⟨u,us',rfl,h1,h2⟩:=h;simp only [Znj] at hp
  split at hp
  ·rename_i p qs hq hqs;obtain rfl:=Zwf hp;have ih:=Zji h2 hqs;refine ⟨u,us',rfl, ?_,ih⟩;cases v<;>simp [toP] at hq<;>subst hq
   ·exact ⟨_,rfl,h1⟩
   ·exact h1
  ·cases hp
theorem Znu {vs:List V} {us:List Value} {x:V} (h:UQ e σ w vs us) (hx:Zou vs=some x):x.rel e σ w (ZhW us):=by
 have gen:∀ps,Znj vs=some ps->us.length=vs.length->vs.length≠1->(V.tup ps).rel e σ w (ZhW us):=by
  intro ps hps hl h1;refine ⟨us, ?_,Zji h hps⟩
  match us,hl with
  | [],_=>rfl
  | [_],hl=>exact absurd hl.symm h1
  | _::_::_,_=>rfl
 have len:∀{vs:List V} {us:List Value},UQ e σ w vs us->us.length=vs.length:=by
  intro vs
  induction vs with
  | nil=>intro us h;simp only [UQ] at h;simp [h]
  | cons v vs ih=>intro us h;simp only [UQ] at h;obtain ⟨u,us',rfl,_,h2⟩:=h;simp [ih h2]
 match vs,h,hx,gen with
 | [],h,hx,gen=>
  simp only [Zou,Znj,Option.map_some,Zwh] at hx;subst hx;exact gen [] rfl (len h) (by simp)
 | [v],h,hx,gen=>
  simp only [Zou,Zwh] at hx;subst hx;simp only [UQ] at h;obtain ⟨u,us',rfl,h1,rfl⟩:=h;exact h1
 | v::v2::vs,h,hx,gen=>
  simp only [Zou] at hx;obtain ⟨ps,h1,rfl⟩:=Option.map_eq_some_iff.1 hx;exact gen ps h1 (len h) (by simp)
theorem GC.UR {f:Nat} {fn:Func} {c:Code} {nt:Nat} {rv:Array ResultVar} (hok:Wx P f=true) (hf:P.funcs[f]? =some fn) (hb:fn.body=some c) (hnt:fn.ntmps=nt) (hrv:fn.results=rv) {vs:List V} {bx bo:List (Nat×List CV)} {ar ao:List (Nat×Option Arr)} {r:V} (hvs:vs.length<=nt)
  (h:∀N w0,Bok N w0->AW P N w0 c (ZsZ P rv nt r bo ao) ⟨nt,ZaX 0 vs,bx,ar⟩):GC P f nt vs bx ar r bo ao:=by
 subst hnt hrv;refine ⟨hok,hvs,fun N w0 e us w hl hbk hs=> ?_⟩;refine calls_of_wp hf hb ?_;refine Code.wp_mono (fun ex a' w' hq=> ?_) (h N w0 hbk _ _ ⟨e,hs⟩);obtain ⟨σ',h1,e',h2⟩:=hq
 have fin:Zpx P fn.results fn.ntmps r bo ao σ'->a'.defers=[]/\∃v,(results fn a'.tmps).run P w'= .ok v w'/\∃e2 u,Ending.returned v= .returned u/\r.rel e2 ⟨fn.ntmps,[],bo,ao⟩ w' u/\ZC N w0 e2 ⟨fn.ntmps,[],bo,ao⟩ (ZgC fn.ntmps []) w':=by
  intro ho;unfold Zpx Zpw at ho
  split at ho
  ·rename_i x hx;obtain ⟨h0,hn,k1,k2,k3⟩:=ho;obtain ⟨vs',hvs',hT⟩:=Option.bind_eq_some_iff.1 hx;obtain ⟨zs,g1,g2⟩:=UP (P:=P) h2 hvs';have hp:=h2.put (d:=0) (by omega) (Znu g2 hT);have hp':ZC N w0 e' ⟨fn.ntmps,(0,x)::σ'.tm,σ'.bx,σ'.ar⟩ (a'.put (some 0) (ZhW zs)) w':=by rw [hn];exact hp
   obtain ⟨e3,hs3⟩:=(show Zbk ⟨fn.ntmps,[(0,r)],bo,ao⟩ ⟨fn.ntmps,(0,x)::σ'.tm,σ'.bx,σ'.ar⟩ from ⟨rfl,k1,k2,k3⟩).into N w0 _ w' ⟨e',hp'⟩;have u:=Zne e3 ⟨fn.ntmps,[(0,r)],bo,ao⟩ w' [] fn.ntmps;refine ⟨h2.df,_,g1,e3,_,rfl, ?_,by simp [ZgC],rfl,fun t v ht=>by simp at ht,fun k cs hk=> ?_,fun τ A hA=>(hs3.ar τ A hA).up u (fun _ _=>rfl),hs3.sep,hs3.fr,hs3.bad,hs3.dk,hs3.pn,hs3.tn,hs3.tp⟩
   ·have q:=hs3.tm 0 r (by simp);rw [ZaE a' 0 _ (by rw [h2.nt];omega)] at q;exact q.up u
   ·obtain ⟨q1,q2⟩:=hs3.bx k cs hk;exact ⟨q1,q2.up u⟩
  ·exact ho.elim
 cases ex with
 | normal=>exact fin h1
 | ret=>exact fin h1
 | _=>exact h1.elim
end
def ZgB {A:Type} (p:A->Prop):List A->Prop
 | []=>True
 | x::xs=>p x/\ZgB p xs
def ndP {B:Type} (f:Nat->Nat):List (Nat×B)->Prop
 | []=>True
 | x::xs=>ZgB (fun y=>f x.1≠f y.1) xs/\ndP f xs
theorem QQ {A:Type} {p:A->Prop}:∀{l:List A},ZgB p l->∀x∈l,p x
 | [],_,x,h=>by cases h
 | y::l,h,x,hx=>by
  rcases List.mem_cons.1 hx with rfl| hx
  ·exact h.1
  ·exact QQ h.2 x hx
theorem Vj {B:Type}:∀{l:List (Nat×B)} {i:Nat} {x:B},l.lookup i=some x->(i,x)∈l
 | [],_,_,h=>by simp at h
 | (j,y)::l,i,x,h=>by
  rw [lookup_cons] at h
  split at h
  ·rename_i hij;subst hij;rw [Zwf h];simp
  ·exact List.mem_cons_of_mem _ (Vj h)
theorem Zga {B:Type} {f:Nat->Nat}:∀{l:List (Nat×B)},ndP f l->∀{i j:Nat} {x y:B},l.lookup i=some x->l.lookup j=some y->f i=f j->i=j
 | [],_,_,_,_,_,h,_,_=>by simp at h
 | (t,z)::l,h,i,j,x,y,hi,hj,he=>by
  rw [lookup_cons] at hi hj
  split at hi<;>split at hj
  ·rename_i h1 h2;rw [h1,h2]
  ·rename_i h1 h2;exact absurd (h1▸he) (QQ h.1 _ (Vj hj))
  ·rename_i h1 h2;exact absurd (h2▸he).symm (QQ h.1 _ (Vj hi))
  ·exact Zga h.2 hi hj he
def J8 (σ:St) (mv:List Nat):CV->Option (CV×List Nat×Prop)
 | .box k o=>some (.box k o,[],True)
 | .nil=>some (.nil,[],True)
 | .clo f ks=>some (.clo f ks,[],True)
 | .nf=>some (.nf,[],True)
 | .mp k=>some (.mp k,[],True)
 | .own τ n=>if τ∈mv then some (.own τ n,[],True) else (frC σ (.own τ n)).map fun r=>(.l r.1,r.2)
 | c=>(frC σ c).map fun r=>(.l r.1,r.2)
def ZcK (σ:St) (mv:List Nat):List CV->Option (List CV×List Nat×Prop)
 | []=>some ([],[],True)
 | v::vs=>match J8 σ mv v,ZcK σ mv vs with
  | some (x,t,p),some (xs,u,q)=>some (x::xs,t++u,p/\q)
  | _,_=>none
def ZdC (σ:St) (mv:List Nat):V->Option (V×List Nat×Prop)
 | .one c=>(J8 σ mv c).map fun r=>(.one r.1,r.2)
 | .agg cs=>(ZcK σ mv cs).map fun r=>(.agg r.1,r.2)
 | _=>none
def ZbN (σ:St) (mv:List Nat):List V->Option (List V×List Nat×Prop)
 | []=>some ([],[],True)
 | v::vs=>match ZdC σ mv v,ZbN σ mv vs with
  | some (x,t,p),some (xs,u,q)=>some (x::xs,t++u,p/\q)
  | _,_=>none
def Zus (bx:List (Nat×List CV)) (ar:List (Nat×Option Arr)):V->Prop
 | .one c=>clC bx ar c
 | .agg cs=>ZgB (clC bx ar) cs
 | _=>False
def Zn8 (bo:List (Nat×List CV)) (ao:List (Nat×Option Arr)):V->Prop
 | .one c=>clO bo ao c
 | .agg cs=>ZgB (clO bo ao) cs
 | .tup ps=>ZgB (fun p=>ZgB (clO bo ao) p.2) ps
 | .dead=>True
def bxO (α β:Nat->Nat) (cs:List CV):Option (List CV)->Prop
 | some ds=>mtL α β cs ds
 | none=>False
def arO (τ:Nat):Option Arr->Option (Option Arr)->Prop
 | some B,some (some C)=>τ<1000000/\B.fr=false/\B.es=C.es
 | some B,_=>2000000<=τ/\B.fr=false/\B.es=[]
 | _,_=>False
def dO (n:Nat):Option Nat->Prop
 | some d=>d<n
 | none=>True
def Zuh (σ:St) (n:Nat) (α β γ:Nat->Nat) (dst:Option Nat) (vs0:List V) (bx:List (Nat×List CV)) (ar:List (Nat×Option Arr)) (r:V) (bo:List (Nat×List CV)) (ao:List (Nat×Option Arr)) (vs:List V):Prop:=
 ZgB (fun p=>n<=p.1/\bxO α β p.2 (σ.bx.lookup (β p.1))/\(bo.lookup p.1).isSome=true/\ZgB (clC bx ar) p.2) bx/\
 ndP β bo/\
 ZgB (fun p=>p.1<1000000/\arO (α p.1) p.2 (σ.ar.lookup (α p.1))) ar/\
 ndP α ar/\
 ZgB (fun p=>((bx.lookup p.1).isSome=true\/(p.1<n/\σ.bx.lookup (β p.1)=none/\β p.1<σ.nt))/\ZgB (clO bo ao) p.2) bo/\
 ZgB (fun p=>p.1<1000000/\γ p.1<1000000/\σ.ar.lookup (γ p.1)=none/\p.2.isSome=true) ao/\
 ndP γ ao/\ZnH α β vs0 vs/\ZgB (Zus bx ar) vs0/\Zn8 bo ao r/\dO σ.nt dst
def gcK (σ:St) (dst:Option Nat) (n:Nat) (α β γ:Nat->Nat) (vs0:List V) (bx:List (Nat×List CV)) (ar:List (Nat×Option Arr)) (r:V) (bo:List (Nat×List CV)) (ao:List (Nat×Option Arr)) (Z:Eff->Prop):Option (List V×List Nat×Prop)->Prop
 | some (vs',τs,p)=>p/\Zuh (σ.frz τs) n α β γ dst vs0 bx ar r bo ao vs'/\Z ⟨True,gT γ β dst r,bo.map fun p=>(β p.1,p.2.map (rnC γ β)),((ao.map fun p=>(γ p.1,p.2))++ar.map fun p=>(α p.1,none))++τs.map fun τ=>(τ,none)⟩
 | none=>False
section
variable {e:Env} {σ σ':St} {w:World} {N:Nat->Prop} {w0:Bs} {a:Act} {P:Program}
variable {n:Nat} {α β γ:Nat->Nat} {bx bo:List (Nat×List CV)} {ar ao:List (Nat×Option Arr)}
theorem Zrb (τs:List Nat):Up e σ w e (σ.frz τs) w:=⟨Zwk _,fun _ _ _=>rfl,fun b _ hm=>ZeH hm,fun k cs hk=>⟨⟨cs,hk⟩,rfl⟩,fun τ A hA=>by
 rw [ZaQ]
 split
 ·exact ⟨none,rfl,fun B hB=>by cases hB⟩
 ·exact ⟨A,hA,fun B hB=>⟨B,hB,Zwk _,fun _=>rfl⟩⟩,fun τ _ _ _=>⟨rfl,fun _ _=>rfl⟩⟩
theorem ZgW (h:ZC N w0 e σ a w) {mv:List Nat} {v v':CV} {u:Value} (hr:v.rel e σ w u) {ts:List Nat} {p:Prop} (ht:J8 σ mv v=some (v',ts,p)) (hp:p) {τs:List Nat} (hs:∀τ∈ts,τ∈τs):v'.rel e (σ.frz τs) w u:=by
 unfold J8 at ht
 split at ht
 ·simp only [Zwh,Zwi] at ht;obtain ⟨rfl,rfl,rfl⟩:=ht;exact hr
 ·simp only [Zwh,Zwi] at ht;obtain ⟨rfl,rfl,rfl⟩:=ht;exact hr
 ·simp only [Zwh,Zwi] at ht;obtain ⟨rfl,rfl,rfl⟩:=ht;exact hr
 ·simp only [Zwh,Zwi] at ht;obtain ⟨rfl,rfl,rfl⟩:=ht;exact hr
 ·simp only [Zwh,Zwi] at ht;obtain ⟨rfl,rfl,rfl⟩:=ht;exact hr
 ·split at ht
  ·simp only [Zwh,Zwi] at ht;obtain ⟨rfl,rfl,rfl⟩:=ht;exact hr.up (Zrb τs)
  ·obtain ⟨⟨x,t,q⟩,h1,h2⟩:=Option.map_eq_some_iff.1 ht;simp only [Zwi] at h2;obtain ⟨rfl,rfl,rfl⟩:=h2;exact Zgt h hr h1 hp hs
 ·obtain ⟨⟨x,t,q⟩,h1,h2⟩:=Option.map_eq_some_iff.1 ht;simp only [Zwi] at h2;obtain ⟨rfl,rfl,rfl⟩:=h2;exact Zgt h hr h1 hp hs
theorem ZgV (h:ZC N w0 e σ a w) {mv τs:List Nat}:∀{vs vs':List CV} {us:List Value},Yb e σ w vs us->∀{ts:List Nat} {p:Prop},ZcK σ mv vs=some (vs',ts,p)->p->(∀τ∈ts,τ∈τs)->Yb e (σ.frz τs) w vs' us
 | [],vs',us,hr,ts,p,ht,hp,hs=>by
  simp only [ZcK,Zwh,Zwi] at ht;obtain ⟨rfl,rfl,rfl⟩:=ht;exact hr
 | v::vs,vs',us,hr,ts,p,ht,hp,hs=>by
  simp only [ZcK] at ht
  split at ht
  ·rename_i x t q xs u q' h1 h2;simp only [Zwh,Zwi] at ht;obtain ⟨rfl,rfl,rfl⟩:=ht;simp only [Yb] at hr ⊢;obtain ⟨v1,vs1,h0,k1,k2⟩:=hr;exact ⟨v1,vs1,h0,ZgW h k1 h1 hp.1 fun τ hτ=>hs τ (List.mem_append_left _ hτ),ZgV h k2 h2 hp.2 fun τ hτ=>hs τ (List.mem_append_right _ hτ)⟩
  ·cases ht
theorem Zln (h:ZC N w0 e σ a w) {mv:List Nat} {v v':V} {u:Value} (hr:v.rel e σ w u) {ts:List Nat} {p:Prop} (ht:ZdC σ mv v=some (v',ts,p)) (hp:p) {τs:List Nat} (hs:∀τ∈ts,τ∈τs):v'.rel e (σ.frz τs) w u:=by
 unfold ZdC at ht
 split at ht
 ·obtain ⟨⟨x,t,q⟩,h1,h2⟩:=Option.map_eq_some_iff.1 ht;simp only [Zwi] at h2;obtain ⟨rfl,rfl,rfl⟩:=h2;exact ZgW h hr h1 hp hs
 ·obtain ⟨⟨x,t,q⟩,h1,h2⟩:=Option.map_eq_some_iff.1 ht;simp only [Zwi] at h2;obtain ⟨rfl,rfl,rfl⟩:=h2;obtain ⟨us,hu,hr⟩:=hr;exact ⟨us,hu,ZgV h hr h1 hp hs⟩
 ·cases ht
theorem Zr9 (σ:St) (tm:List (Nat×V)) (c:CV):frC ⟨σ.nt,tm,σ.bx,σ.ar⟩ c=frC σ c:=by cases c<;>rfl
theorem Zjg (σ:St) (mv:List Nat) (tm:List (Nat×V)) (c:CV):J8 ⟨σ.nt,tm,σ.bx,σ.ar⟩ mv c=J8 σ mv c:=by
 unfold J8
 split<;>simp only [Zr9]
theorem Zje (σ:St) (mv:List Nat) (tm:List (Nat×V)):∀(cs:List CV),ZcK ⟨σ.nt,tm,σ.bx,σ.ar⟩ mv cs=ZcK σ mv cs
 | []=>rfl
 | c::cs=>by simp only [ZcK,Zjg,Zje σ mv tm cs]
theorem Zng (σ:St) (mv:List Nat) (tm:List (Nat×V)) (v:V):ZdC ⟨σ.nt,tm,σ.bx,σ.ar⟩ mv v=ZdC σ mv v:=by
 unfold ZdC
 split<;>simp only [Zjg,Zje]
theorem ZoH (k:Le σ σ') {c:CV} {y:L×List Nat×Prop} (h1:frC σ c=some y):frC σ' c=some y:=by
 have q:=k.frV (c:=.one c) (r:=(.one y.1,y.2)) (by simp only [frV,h1];rfl);simp only [frV] at q;obtain ⟨z,h3,h4⟩:=Option.map_eq_some_iff.1 q;simp only [Zwi,DV.one.injEq] at h4;rw [h3];exact congrArg some (Prod.ext h4.1 h4.2)
theorem Zjh (k:Le σ σ') {mv:List Nat} {v:CV} {x:CV×List Nat×Prop} (h:J8 σ mv v=some x):J8 σ' mv v=some x:=by
 unfold J8 at h ⊢
 split at h
 ·exact h
 ·exact h
 ·exact h
 ·exact h
 ·exact h
 ·split at h
  ·rename_i hm;rw [if_pos hm];exact h
  ·rename_i hm;rw [if_neg hm];obtain ⟨y,h1,h2⟩:=Option.map_eq_some_iff.1 h;rw [ZoH k h1,<-h2];rfl
 ·obtain ⟨y,h1,h2⟩:=Option.map_eq_some_iff.1 h;rw [ZoH k h1,<-h2];rfl
theorem Zjf (k:Le σ σ') {mv:List Nat}:∀{vs:List CV} {x:List CV×List Nat×Prop},ZcK σ mv vs=some x->ZcK σ' mv vs=some x
 | [],_,h=>h
 | v::vs,x,h=>by
  simp only [ZcK] at h ⊢
  split at h
  ·rename_i h1 h2;rw [Zjh k h1,Zjf k h2];exact h
  ·cases h
theorem Znh (k:Le σ σ') {mv:List Nat} {v:V} {x:V×List Nat×Prop} (h:ZdC σ mv v=some x):ZdC σ' mv v=some x:=by
 unfold ZdC at h ⊢
 split at h
 ·obtain ⟨y,h1,h2⟩:=Option.map_eq_some_iff.1 h;rw [Zjh k h1,<-h2];rfl
 ·obtain ⟨y,h1,h2⟩:=Option.map_eq_some_iff.1 h;rw [Zjf k h1,<-h2];rfl
 ·cases h
theorem Zfd {mv:List Nat}:∀{vs vs':List V} {ts:List Nat} {p:Prop},ZbN σ mv vs=some (vs',ts,p)->vs'.length=vs.length/\(p->∀(j:Nat) (v':V),vs'[j]? =some v'->∃v t q,vs[j]? =some v/\ZdC σ mv v=some (v',t,q)/\q/\∀τ∈t,τ∈ts)
 | [],vs',ts,p,h=>by
  simp only [ZbN,Zwh,Zwi] at h;obtain ⟨rfl,rfl,rfl⟩:=h;simp
 | v::vs,vs',ts,p,h=>by
  simp only [ZbN] at h
  split at h
  ·rename_i x t q xs u q' h1 h2;simp only [Zwh,Zwi] at h;obtain ⟨rfl,rfl,rfl⟩:=h;obtain ⟨k1,k2⟩:=Zfd h2;refine ⟨by simp [k1],fun hp j v' hj=> ?_⟩;cases j with
   | zero=>simp at hj;subst hj;exact ⟨v,t,q,by simp,h1,hp.1,fun τ hτ=>List.mem_append_left _ hτ⟩
   | succ j=>
    obtain ⟨v2,t2,q2,g1,g2,g3,g4⟩:=k2 hp.2 j v' (by simpa using hj);exact ⟨v2,t2,q2,by simpa using g1,g2,g3,fun τ hτ=>List.mem_append_right _ (g4 τ hτ)⟩
  ·cases h
def ZsK (P:Program) (σ:St) (dst:Option Nat) (f:Nat) (vs:List V) (Z:Eff->Prop):Prop:=∃g,ZgI P σ dst f vs g/\Z g
theorem ZsK.x {f:Nat} {dst:Option Nat} {vs:List V} {Z:Eff->Prop} (h:ZsK P σ dst f vs Z):XBy P σ dst f (some vs) Z:=h.elim fun g q=>⟨vs,g,rfl,.hand g q.1,q.2⟩
theorem Zj3 {f:Nat} {dst:Option Nat} {vs0 vs:List V} {r:V} {Z:Eff->Prop} (mv:List Nat) (α β γ:Nat->Nat) (c:GC P f n vs0 bx ar r bo ao) (hx:gcK σ dst n α β γ vs0 bx ar r bo ao Z (ZbN σ mv vs)):ZsK P σ dst f vs Z:=by
 unfold gcK at hx
 split at hx
 ·rename_i vs' τs p ht;obtain ⟨hp,⟨o1,o2,o3,o4,o5,o6,o7,o8,o9,o10,o11⟩,hz⟩:=hx
  have g:GM (σ.frz τs) n α β γ bx ar bo ao:=by
   refine ⟨fun i cs hi=> ?_,fun i cs j ds hi hj=>Zga o2 hi hj,fun i A hA=> ?_,fun i A j B hi hj=>Zga o4 hi hj,fun i cs hi=> ?_,fun i cs hi=> ?_,fun i A hA=> ?_,fun i A j B hi hj=>Zga o7 hi hj,fun i cs hi c hc=> ?_,fun i cs hi c hc=> ?_⟩
   ·obtain ⟨h1,h2,_⟩:=QQ o1 _ (Vj hi);unfold bxO at h2
    split at h2
    ·rename_i ds hds;exact ⟨h1,ds,hds,h2⟩
    ·exact h2.elim
   ·obtain ⟨h1,h3⟩:=QQ o3 _ (Vj hA);refine ⟨h1, ?_⟩;simp only at h3;cases A with
    | none=>simp [arO] at h3
    | some B=>
     cases hC:(σ.frz τs).ar.lookup (α i) with
     | none=>rw [hC] at h3;exact .inr ⟨h3.1,by obtain ⟨f,es⟩:=B;obtain ⟨_,h4,h5⟩:=h3;simp only at h4 h5;rw [h4,h5],.inl rfl⟩
     | some C=>
      cases C with
      | none=>rw [hC] at h3;exact .inr ⟨h3.1,by obtain ⟨f,es⟩:=B;obtain ⟨_,h4,h5⟩:=h3;simp only at h4 h5;rw [h4,h5],.inr rfl⟩
      | some C=>rw [hC] at h3;exact .inl ⟨h3.1,C,⟨B,rfl,h3.2.1,h3.2.2⟩,rfl⟩
   ·rcases (QQ o5 _ (Vj hi)).1 with h1| h1
    ·exact .inl (Option.isSome_iff_exists.1 h1)
    ·exact .inr h1
   ·exact Option.isSome_iff_exists.1 (QQ o1 _ (Vj hi)).2.2.1
   ·obtain ⟨h1,h2,h3,_⟩:=QQ o6 _ (Vj hA);exact ⟨h1,h2,h3⟩
   ·exact QQ (QQ o1 _ (Vj hi)).2.2.2 c hc
   ·exact QQ (QQ o5 _ (Vj hi)).2 c hc
  have hcl:∀v∈vs0,clV bx ar v:=fun v hv=>by
   have:=QQ o9 v hv;cases v with
   | one c=>exact this
   | agg cs=>exact fun c hc=>QQ this c hc
   | _=>exact this.elim
  have hrc:Zs5 bo ao r:=by
   cases r with
   | one c=>exact o10
   | agg cs=>exact fun c hc=>QQ o10 c hc
   | tup ps=>exact fun p hp c hc=>QQ (QQ o10 p hp) c hc
   | dead=>trivial
  have hao:∀i A,ao.lookup i=some A->∃B,A=some B:=fun i A hA=>Option.isSome_iff_exists.1 (QQ o6 _ (Vj hA)).2.2.2;have hd:∀d,dst=some d->d<(σ.frz τs).nt:=fun d hd=>by subst hd;exact o11
  have H:=c.call g o8 hcl hrc hao hd;refine ⟨⟨True,gT γ β dst r,bo.map fun p=>(β p.1,p.2.map (rnC γ β)),((ao.map fun p=>(γ p.1,p.2))++ar.map fun p=>(α p.1,none))++τs.map fun τ=>(τ,none)⟩,⟨H.1,H.2.1,fun σ' k N w0 e a w us h hl hv=> ?_⟩,hz⟩
  have k':LeB (σ.frz τs) (σ'.frz τs) (Ze8 α β γ dst r bo ao ar):=by
   refine ⟨k.nt,k.bx,fun τ A hA=> ?_,k.fb,fun p hp hn=> ?_⟩
   ·rw [ZaQ] at hA ⊢
    split at hA
    ·rename_i hm;rw [if_pos hm];exact hA
    ·rename_i hm;rw [if_neg hm];exact k.ar τ A hA
   ·rw [ZaQ] at hn ⊢
    split at hn
    ·cases hn
    ·rename_i hm;rw [if_neg hm];exact k.fa p (List.mem_append_left _ hp) hn
  obtain ⟨l1,l2⟩:=Zfd ht;have kl:Le ⟨σ.nt,[],σ.bx,σ.ar⟩ σ':=⟨k.nt,fun t v h=>by simp at h,k.bx,k.ar⟩;refine (H.2.2 (σ'.frz τs) k' N w0 e a w us (h.frz τs) (by omega) fun j v' hj=> ?_).mono fun ex w' hR=> ?_
  ·obtain ⟨v,t,q,g1,g2,g3,g4⟩:=l2 hp j v' hj;obtain ⟨u,h1,h2⟩:=hv j v g1;exact ⟨u,h1,Zln h h2 (Znh kl ((Zng σ mv [] v).trans g2)) g3 g4⟩
  ·obtain ⟨u,e',h1,h2⟩:=hR;refine ⟨u,e',h1, ?_⟩
   have he:(σ'.frz τs).app (Ze8 α β γ dst r bo ao ar)=σ'.app ⟨True,gT γ β dst r,bo.map fun p=>(β p.1,p.2.map (rnC γ β)),((ao.map fun p=>(γ p.1,p.2))++ar.map fun p=>(α p.1,none))++τs.map fun τ=>(τ,none)⟩:=by
    simp [St.app,Ze8,St.frz,List.append_assoc]
   rw [<-he];exact h2
 ·exact hx.elim
theorem Zob {f:Nat} {dst:Option Nat} {vs0 vs:List V} {r:V} {Z:Eff->Prop} (mv:List Nat) (α β γ:Nat->Nat) (c:GC P f n vs0 bx ar r bo ao) (hx:gcK σ dst n α β γ vs0 bx ar r bo ao Z (ZbN σ mv vs)):XBy P σ dst f (some vs) Z:=(Zj3 mv α β γ c hx).x
end
def Zre (rs:List DV):List (Nat×Option Arr):=(J3 30000 rs).2.map fun p=>(p.1,some ⟨false,p.2.es⟩)
def TC (P:Program) (f n:Nat) (ds rs:List DV):Prop:=GC P f n (ds.map inV) [] [] (Zf2 (J3 30000 rs).1) [] (Zre rs)
def ZsO (σ:St) (n:Nat) (ds rs:List DV) (Z:Eff->Prop) (vs:List V):Option Nat->Prop
 | some d=>gcK σ (some d) n (fun i=>i) (fun i=>i) (fun i=>64*d+(i-30000)) (ds.map inV) [] [] (Zf2 (J3 30000 rs).1) [] (Zre rs) Z (ZbN σ [] vs)
 | none=>False
section
variable {P:Program} {σ:St}
theorem ZuP {f n:Nat} {dst:Option Nat} {ds rs:List DV} {vs:List V} {Z:Eff->Prop} (c:TC P f n ds rs) (hx:ZsO σ n ds rs Z vs dst):XBy P σ dst f (some vs) Z:=by
 unfold ZsO at hx
 split at hx
 ·exact Zob [] _ _ _ c hx
 ·exact hx.elim
theorem Zhx:∀{ds:List DV} {i:Nat},ZaX i (ds.map inV)=Zew i ds
 | [],_=>rfl
 | d::ds,i=>by simp only [List.map_cons,ZaX,Zew];rw [Zhx]
theorem Zq6 {f:Nat} {fn:Func} {c:Code} {nt:Nat} {rv:Array ResultVar} (hf:P.funcs[f]? =some fn) (hnt:fn.ntmps=nt) (hrv:fn.results=rv) {ds rs:List DV}
  (h:∀N w0,Bok N w0->True->AW P N w0 c (ZsZ P rv nt (Zf2 (J3 30000 rs).1) [] (Zre rs)) ⟨nt,Zew 0 ds,[],[]⟩) (hok:Wx P f=true:=by kernel_rfl) (hb:fn.body=some c:=by rfl) (hds:ds.length<=nt:=by simp):TC P f nt ds rs:=
 GC.UR hok hf hb hnt hrv (by simpa using hds) fun N w0 hbk=>by
  rw [Zhx];exact h N w0 hbk trivial
end
section
variable {α β γ:Nat->Nat} {bx bo:List (Nat×List CV)} {ar ao:List (Nat×Option Arr)} {x y:L} {v:Value} {i j n m o:Nat} {ls:List L} {cs ds:List CV} {c d:CV} {σ:St} {mv:List Nat}
theorem Zt6:mtC α β (.l x) (.l y)=(x=y):=rfl
theorem Zt5:mtC α β (.l x) (.kept v y)=(x=y):=rfl
theorem Zt4:mtC α β (.l x) .nil=(x= .sl []):=rfl
theorem Zt3:mtC α β .nil .nil=True:=rfl
theorem Zt2:mtC α β .np .np=True:=rfl
theorem Zt1 {ks:List L}:mtC α β (.adr ls) (.adr ks)=(ls=ks):=rfl
theorem Zt0:mtC α β (.own i n) (.own j m)=(α i=j/\n=m/\j<1000000):=rfl
theorem ZtY:mtC α β (.own i n) .nil=(2000000<=α i/\n=0):=rfl
theorem ZtZ {o':Nat}:mtC α β (.box i o) (.box j o')=(β i=j/\o=o'):=rfl
theorem ZtT:mtV α β (.one c) (.one d)=mtC α β c d:=rfl
theorem ZtS:mtV α β (.agg cs) (.agg ds)=mtL α β cs ds:=rfl
theorem ZtB:rnC γ β (.l x)= .l x:=rfl
theorem ZtA:rnC γ β .nil= .nil:=rfl
theorem Ztz:rnC γ β .np= .np:=rfl
theorem Zty:rnC γ β (.adr ls)= .adr ls:=rfl
theorem Ztx:rnC γ β (.own i n)= .own (γ i) n:=rfl
theorem Ztw:rnC γ β (.box i o)= .box (β i) o:=rfl
theorem Ztv:rnC γ β (.kept v x)= .l x:=rfl
theorem Ztq:rnV γ β (.one c)= .one (rnC γ β c):=rfl
theorem Ztp:rnV γ β (.agg cs)= .agg (cs.map (rnC γ β)):=rfl
theorem Zto {ps:List (Bool×List CV)}:rnV γ β (.tup ps)= .tup (ps.map fun p=>(p.1,p.2.map (rnC γ β))):=rfl
theorem ZuM:clC bx ar (.l x)=True:=rfl
theorem ZuL:clC bx ar .nil=True:=rfl
theorem ZuK:clC bx ar .np=True:=rfl
theorem ZuJ:clC bx ar (.adr ls)=True:=rfl
theorem ZuI:clC bx ar (.own i n)=((ar.lookup i).isSome=true):=rfl
theorem ZuH:clC bx ar (.box i o)=((bx.lookup i).isSome=true):=rfl
theorem ZuC:clO bo ao (.l x)=True:=rfl
theorem ZuB:clO bo ao .nil=True:=rfl
theorem ZuA:clO bo ao .np=True:=rfl
theorem Zuz:clO bo ao (.adr ls)=True:=rfl
theorem Zuy:clO bo ao (.own i n)=∃A,ao.lookup i=some (some A):=rfl
theorem Zux:clO bo ao (.box i o)=((bo.lookup i).isSome=true):=rfl
theorem Zst:Zus bx ar (.one c)=clC bx ar c:=rfl
theorem Zss:Zus bx ar (.agg cs)=ZgB (clC bx ar) cs:=rfl
theorem Zqt:Zn8 bo ao (.one c)=clO bo ao c:=rfl
theorem Zqs:Zn8 bo ao (.agg cs)=ZgB (clO bo ao) cs:=rfl
theorem Zqr {ps:List (Bool×List CV)}:Zn8 bo ao (.tup ps)=ZgB (fun p=>ZgB (clO bo ao) p.2) ps:=rfl
theorem Zpb:J8 σ mv (.box i o)=some (.box i o,[],True):=rfl
theorem Zpa:J8 σ mv (.own i n)=if i∈mv then some (.own i n,[],True) else (frC σ (.own i n)).map fun r=>(.l r.1,r.2):=rfl
theorem Zo9:J8 σ mv (.l x)=some (.l x,[],True):=rfl
theorem Zo8:J8 σ mv (.kept v x)=some (.l x,[],True):=rfl
theorem Zo7:J8 σ mv .nil=some (.nil,[],True):=rfl
theorem Zo3:ZdC σ mv (.one c)=(J8 σ mv c).map fun r=>(.one r.1,r.2):=rfl
theorem Zo2:ZdC σ mv (.agg cs)=(ZcK σ mv cs).map fun r=>(.agg r.1,r.2):=rfl
theorem ZuR:bxO α β cs (some ds)=mtL α β cs ds:=rfl
theorem ZuQ:bxO α β cs none=False:=rfl
theorem ZuW {B C:Arr}:arO n (some B) (some (some C))=(n<1000000/\B.fr=false/\B.es=C.es):=rfl
theorem ZuV {B:Arr}:arO n (some B) none=(2000000<=n/\B.fr=false/\B.es=[]):=rfl
theorem ZuU {B:Arr}:arO n (some B) (some none)=(2000000<=n/\B.fr=false/\B.es=[]):=rfl
theorem ZvT:dO n (some m)=(m<n):=rfl
theorem ZvS:dO n none=True:=rfl
theorem ZrA {v:V}:Zou [v]=some v:=rfl
theorem Zrz:Zou []=some (.tup []):=rfl
theorem Zry {v u:V} {vs:List V}:Zou (v::u::vs)=(Znj (v::u::vs)).map .tup:=rfl
theorem Ztg:toP (.one c)=some (false,[c]):=rfl
theorem Ztf:toP (.agg cs)=some (true,cs):=rfl
theorem ZvQ {r:V}:gT γ β (some i) r=[(i,rnV γ β r)]:=rfl
theorem Zpv {r x:V}:Zpw n r bo ao σ (some x)=(0<n/\n=σ.nt/\ZqR ⟨n,[(0,r)],bo,ao⟩ ⟨n,(0,x)::σ.tm,σ.bx,σ.ar⟩):=rfl
theorem Zui {dst:Option Nat} {vs0 vs':List V} {r:V} {Z:Eff->Prop} {τs:List Nat} {p:Prop}:gcK σ dst n α β γ vs0 bx ar r bo ao Z (some (vs',τs,p))=(p/\Zuh (σ.frz τs) n α β γ dst vs0 bx ar r bo ao vs'/\Z ⟨True,gT γ β dst r,bo.map fun p=>(β p.1,p.2.map (rnC γ β)),((ao.map fun p=>(γ p.1,p.2))++ar.map fun p=>(α p.1,none))++τs.map fun τ=>(τ,none)⟩):=rfl
theorem Zsf {P:Program} {rv:Array ResultVar} {r:V}:ZsZ P rv n r bo ao .normal σ=Zpx P rv n r bo ao σ:=rfl
theorem Zse {P:Program} {rv:Array ResultVar} {r:V}:ZsZ P rv n r bo ao .ret σ=Zpx P rv n r bo ao σ:=rfl
theorem Zrd {ds rs:List DV} {Z:Eff->Prop} {vs:List V}:ZsO σ n ds rs Z vs (some m)=gcK σ (some m) n (fun i=>i) (fun i=>i) (fun i=>64*m+(i-30000)) (ds.map inV) [] [] (Zf2 (J3 30000 rs).1) [] (Zre rs) Z (ZbN σ [] vs):=rfl
theorem ZtX {f g:Nat} {is ks:List Nat}:mtC α β (.clo f is) (.clo g ks)=(f=g/\is.map β=ks):=rfl
theorem ZtW:mtC α β .nf .nf=True:=rfl
theorem ZtV {j:Nat}:mtC α β (.mp i) (.mp j)=(β i=j):=rfl
theorem ZtU {x y:MD}:mtC α β (.mc x) (.mc y)=(x=y):=rfl
theorem Ztu {f:Nat} {is:List Nat}:rnC γ β (.clo f is)= .clo f (is.map β):=rfl
theorem Ztt:rnC γ β .nf= .nf:=rfl
theorem Zts:rnC γ β (.mp i)= .mp (β i):=rfl
theorem Ztr {x:MD}:rnC γ β (.mc x)= .mc x:=rfl
theorem ZuG {f:Nat} {is:List Nat}:clC bx ar (.clo f is)=∀i∈is,(bx.lookup i).isSome=true:=rfl
theorem ZuF:clC bx ar .nf=True:=rfl
theorem ZuE:clC bx ar (.mp i)=((bx.lookup i).isSome=true):=rfl
theorem ZuD {x:MD}:clC bx ar (.mc x)=True:=rfl
theorem Zuw {f:Nat} {is:List Nat}:clO bo ao (.clo f is)=∀i∈is,(bo.lookup i).isSome=true:=rfl
theorem Zuv:clO bo ao .nf=True:=rfl
theorem Zuu:clO bo ao (.mp i)=((bo.lookup i).isSome=true):=rfl
theorem Zut {x:MD}:clO bo ao (.mc x)=True:=rfl
theorem Zo6 {f:Nat} {ks:List Nat}:J8 σ mv (.clo f ks)=some (.clo f ks,[],True):=rfl
theorem Zo5:J8 σ mv .nf=some (.nf,[],True):=rfl
theorem Zo4:J8 σ mv (.mp i)=some (.mp i,[],True):=rfl
end
attribute [go_sem] ZtX ZtW ZtV ZtU Ztu Ztt Zts Ztr ZuG ZuF ZuE ZuD Zuw Zuv Zuu Zut Zo6 Zo5 Zo4 Zt6 Zt5 Zt4 Zt3 Zt2 Zt1 Zt0 ZtZ ZtY ZtT ZtS mtL ZnH ZtB ZtA Ztz Zty Ztx Ztw Ztv Ztq Ztp Zto ZuM ZuL ZuK ZuJ ZuI ZuH ZuC ZuB ZuA Zuz Zuy Zux Zst Zss Zqt Zqs Zqr Zpb Zpa Zo9 Zo8 Zo7 ZcK Zo3 Zo2 ZbN ZaX ZuR ZuQ ZuW ZuV ZuU ZvT ZvS ZrA Zrz Zry Ztg Ztf Znj ZvQ Zpv Zpx Zui Zuh Zsf Zse Zrd Zre ZgB ndP ZqR St.frz
end Go.Proofs.YtbkllghhcphkaaaGreatDoor.Am
