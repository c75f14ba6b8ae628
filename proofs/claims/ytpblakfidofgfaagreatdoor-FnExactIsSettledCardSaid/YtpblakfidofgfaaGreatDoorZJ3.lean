import Derived.Test.YtpblakfidofgfaaGreatDoorZPkC
import Derived.MapKept
set_option linter.unusedSimpArgs false
set_option linter.unusedVariables false
namespace Go.Proofs.YtpblakfidofgfaaGreatDoor
open Go.RowKit Am
@[go_sem] theorem ti3:ti Tryz.prog 3=some ⟨(.int .i64),1,8,[.int .i64 0]⟩:=by kernel_rfl
@[go_sem] theorem ti4:ti Tryz.prog 4=some ⟨.bool,1,1,[.bool false]⟩:=by kernel_rfl
@[go_sem] theorem ti5:ti Tryz.prog 5=some ⟨(.int .u8),1,1,[.int .u8 0]⟩:=by kernel_rfl
@[go_sem] theorem ti9:ti Tryz.prog 9=some ⟨.str,1,16,[.string ⟨#[]⟩]⟩:=by kernel_rfl
@[go_sem] theorem Zz5:ti Tryz.prog 22=some ⟨(.slice 160),1,24,[.slice none 0 0]⟩:=by kernel_rfl
@[go_sem] theorem Zz4:ti Tryz.prog 24=some ⟨(.struct [(0,22)]),1,24,[.slice none 0 0]⟩:=by kernel_rfl
@[go_sem] theorem Zz3:ti Tryz.prog 25=some ⟨(.slice 163),1,24,[.slice none 0 0]⟩:=by kernel_rfl
@[go_sem] theorem Zz2:ti Tryz.prog 27=some ⟨(.struct [(0,3),(1,3),(2,25)]),3,40,[.int .i64 0,.int .i64 0,.slice none 0 0]⟩:=by kernel_rfl
@[go_sem] theorem Zz1:ti Tryz.prog 28=some ⟨(.slice 108),1,24,[.slice none 0 0]⟩:=by kernel_rfl
@[go_sem] theorem Zz0:ti Tryz.prog 29=some ⟨(.slice 115),1,24,[.slice none 0 0]⟩:=by kernel_rfl
@[go_sem] theorem ZzZ:ti Tryz.prog 31=some ⟨(.struct [(0,24),(1,27),(4,28),(5,29),(6,3),(7,3),(8,3)]),9,136,[.slice none 0 0,.int .i64 0,.int .i64 0,.slice none 0 0,.slice none 0 0,.slice none 0 0,.int .i64 0,.int .i64 0,.int .i64 0]⟩:=by kernel_rfl
@[go_sem] theorem ZzY:ti Tryz.prog 34=some ⟨(.slice 89),1,24,[.slice none 0 0]⟩:=by kernel_rfl
@[go_sem] theorem ZzX:ti Tryz.prog 36=some ⟨(.struct [(0,34)]),1,24,[.slice none 0 0]⟩:=by kernel_rfl
@[go_sem] theorem ZzW:ti Tryz.prog 37=some ⟨(.slice 175),1,24,[.slice none 0 0]⟩:=by kernel_rfl
@[go_sem] theorem ZzV:ti Tryz.prog 39=some ⟨(.struct [(0,3),(1,3),(2,37)]),3,40,[.int .i64 0,.int .i64 0,.slice none 0 0]⟩:=by kernel_rfl
@[go_sem] theorem ZzU:ti Tryz.prog 40=some ⟨(.slice 128),1,24,[.slice none 0 0]⟩:=by kernel_rfl
@[go_sem] theorem ZzT:ti Tryz.prog 41=some ⟨(.slice 101),1,24,[.slice none 0 0]⟩:=by kernel_rfl
@[go_sem] theorem ZzS:ti Tryz.prog 43=some ⟨(.struct [(0,36),(1,39),(4,40),(5,41),(6,3),(7,3),(8,3)]),9,136,[.slice none 0 0,.int .i64 0,.int .i64 0,.slice none 0 0,.slice none 0 0,.slice none 0 0,.int .i64 0,.int .i64 0,.int .i64 0]⟩:=by kernel_rfl
@[go_sem] theorem ZzR:ti Tryz.prog 50=some ⟨(.slice 3),1,24,[.slice none 0 0]⟩:=by kernel_rfl
@[go_sem] theorem ZzQ:ti Tryz.prog 68=some ⟨(.slice 142),1,24,[.slice none 0 0]⟩:=by kernel_rfl
@[go_sem] theorem ZzP:ti Tryz.prog 69=some ⟨(.slice 4),1,24,[.slice none 0 0]⟩:=by kernel_rfl
@[go_sem] theorem ZzO:ti Tryz.prog 70=some ⟨(.slice 50),1,24,[.slice none 0 0]⟩:=by kernel_rfl
@[go_sem] theorem ZzN:ti Tryz.prog 72=some ⟨(.struct [(0,68),(1,69),(2,69),(3,69),(4,70)]),5,120,[.slice none 0 0,.slice none 0 0,.slice none 0 0,.slice none 0 0,.slice none 0 0]⟩:=by kernel_rfl
@[go_sem] theorem ZzM:ti Tryz.prog 79=some ⟨.ref,1,8,[.map none]⟩:=by kernel_rfl
@[go_sem] theorem ZzL:ti Tryz.prog 81=some ⟨(.struct [(0,43),(9,68),(10,79)]),11,168,[.slice none 0 0,.int .i64 0,.int .i64 0,.slice none 0 0,.slice none 0 0,.slice none 0 0,.int .i64 0,.int .i64 0,.int .i64 0,.slice none 0 0,.map none]⟩:=by kernel_rfl
@[go_sem] theorem ZzK:ti Tryz.prog 89=some ⟨(.struct [(0,3),(1,3),(2,3),(3,9),(4,9),(5,3)]),6,64,[.int .i64 0,.int .i64 0,.int .i64 0,.string ⟨#[]⟩,.string ⟨#[]⟩,.int .i64 0]⟩:=by kernel_rfl
@[go_sem] theorem ZzJ:ti Tryz.prog 95=some ⟨(.slice 99),1,24,[.slice none 0 0]⟩:=by kernel_rfl
@[go_sem] theorem ZzI:ti Tryz.prog 96=some ⟨(.slice 9),1,24,[.slice none 0 0]⟩:=by kernel_rfl
@[go_sem] theorem ZzH:ti Tryz.prog 97=some ⟨(.slice 158),1,24,[.slice none 0 0]⟩:=by kernel_rfl
@[go_sem] theorem ZzG:ti Tryz.prog 99=some ⟨(.struct [(0,3),(1,3),(2,3),(3,9),(4,95),(5,96),(6,97)]),7,112,[.int .i64 0,.int .i64 0,.int .i64 0,.string ⟨#[]⟩,.slice none 0 0,.slice none 0 0,.slice none 0 0]⟩:=by kernel_rfl
@[go_sem] theorem Zzq:ti Tryz.prog 101=some ⟨(.struct [(0,3),(1,3),(2,3),(3,50),(4,99),(11,4)]),12,168,[.int .i64 0,.int .i64 0,.int .i64 0,.slice none 0 0,.int .i64 0,.int .i64 0,.int .i64 0,.string ⟨#[]⟩,.slice none 0 0,.slice none 0 0,.slice none 0 0,.bool false]⟩:=by kernel_rfl
@[go_sem] theorem Zzp:ti Tryz.prog 106=some ⟨(.slice 194),1,24,[.slice none 0 0]⟩:=by kernel_rfl
@[go_sem] theorem Zzo:ti Tryz.prog 108=some ⟨(.struct [(0,3),(1,3),(2,106)]),3,40,[.int .i64 0,.int .i64 0,.slice none 0 0]⟩:=by kernel_rfl
@[go_sem] theorem Zzn:ti Tryz.prog 110=some ⟨(.slice 113),1,24,[.slice none 0 0]⟩:=by kernel_rfl
@[go_sem] theorem Zzm:ti Tryz.prog 111=some ⟨(.slice 224),1,24,[.slice none 0 0]⟩:=by kernel_rfl
@[go_sem] theorem Zzl:ti Tryz.prog 113=some ⟨(.struct [(0,3),(1,3),(2,3),(3,9),(4,110),(5,96),(6,111)]),7,112,[.int .i64 0,.int .i64 0,.int .i64 0,.string ⟨#[]⟩,.slice none 0 0,.slice none 0 0,.slice none 0 0]⟩:=by kernel_rfl
@[go_sem] theorem Zzk:ti Tryz.prog 115=some ⟨(.struct [(0,3),(1,3),(2,3),(3,50),(4,113),(11,4)]),12,168,[.int .i64 0,.int .i64 0,.int .i64 0,.slice none 0 0,.int .i64 0,.int .i64 0,.int .i64 0,.string ⟨#[]⟩,.slice none 0 0,.slice none 0 0,.slice none 0 0,.bool false]⟩:=by kernel_rfl
@[go_sem] theorem Zzj:ti Tryz.prog 126=some ⟨(.slice 186),1,24,[.slice none 0 0]⟩:=by kernel_rfl
@[go_sem] theorem Zzi:ti Tryz.prog 128=some ⟨(.struct [(0,3),(1,3),(2,126)]),3,40,[.int .i64 0,.int .i64 0,.slice none 0 0]⟩:=by kernel_rfl
@[go_sem] theorem Zzh:ti Tryz.prog 138=some ⟨(.slice 140),1,24,[.slice none 0 0]⟩:=by kernel_rfl
@[go_sem] theorem Zzg:ti Tryz.prog 140=some ⟨(.struct [(0,3),(1,3),(2,9),(3,138)]),4,56,[.int .i64 0,.int .i64 0,.string ⟨#[]⟩,.slice none 0 0]⟩:=by kernel_rfl
@[go_sem] theorem Zzf:ti Tryz.prog 142=some ⟨(.struct [(0,3),(1,9),(2,140),(6,99),(13,3)]),14,200,[.int .i64 0,.string ⟨#[]⟩,.int .i64 0,.int .i64 0,.string ⟨#[]⟩,.slice none 0 0,.int .i64 0,.int .i64 0,.int .i64 0,.string ⟨#[]⟩,.slice none 0 0,.slice none 0 0,.slice none 0 0,.int .i64 0]⟩:=by kernel_rfl
@[go_sem] theorem Zze:ti Tryz.prog 156=some ⟨(.slice 219),1,24,[.slice none 0 0]⟩:=by kernel_rfl
@[go_sem] theorem Zzd:ti Tryz.prog 158=some ⟨(.struct [(0,50),(1,156)]),2,48,[.slice none 0 0,.slice none 0 0]⟩:=by kernel_rfl
@[go_sem] theorem Zzc:ti Tryz.prog 160=some ⟨(.struct [(0,3),(1,3),(2,3),(3,9),(4,9),(5,3)]),6,64,[.int .i64 0,.int .i64 0,.int .i64 0,.string ⟨#[]⟩,.string ⟨#[]⟩,.int .i64 0]⟩:=by kernel_rfl
@[go_sem] theorem Zzb:ti Tryz.prog 163=some ⟨(.struct [(0,9),(1,3)]),2,24,[.string ⟨#[]⟩,.int .i64 0]⟩:=by kernel_rfl
@[go_sem] theorem Zza:ti Tryz.prog 175=some ⟨(.struct [(0,9),(1,3)]),2,24,[.string ⟨#[]⟩,.int .i64 0]⟩:=by kernel_rfl
@[go_sem] theorem Zy9:ti Tryz.prog 186=some ⟨(.struct [(0,3),(1,3),(2,3),(3,9),(4,99)]),11,152,[.int .i64 0,.int .i64 0,.int .i64 0,.string ⟨#[]⟩,.int .i64 0,.int .i64 0,.int .i64 0,.string ⟨#[]⟩,.slice none 0 0,.slice none 0 0,.slice none 0 0]⟩:=by kernel_rfl
@[go_sem] theorem Zy8:ti Tryz.prog 187=some ⟨(.slice 5),1,24,[.slice none 0 0]⟩:=by kernel_rfl
@[go_sem] theorem Zy7:ti Tryz.prog 194=some ⟨(.struct [(0,3),(1,3),(2,3),(3,9),(4,113)]),11,152,[.int .i64 0,.int .i64 0,.int .i64 0,.string ⟨#[]⟩,.int .i64 0,.int .i64 0,.int .i64 0,.string ⟨#[]⟩,.slice none 0 0,.slice none 0 0,.slice none 0 0]⟩:=by kernel_rfl
@[go_sem] theorem Zy6:ti Tryz.prog 213=some ⟨.fn,1,8,[.nilFunc]⟩:=by kernel_rfl
@[go_sem] theorem Zy5:ti Tryz.prog 214=some ⟨.fn,1,8,[.nilFunc]⟩:=by kernel_rfl
@[go_sem] theorem Zy4:ti Tryz.prog 216=some ⟨(.struct [(0,213),(1,214)]),2,16,[.nilFunc,.nilFunc]⟩:=by kernel_rfl
@[go_sem] theorem Zy3:ti Tryz.prog 219=some ⟨(.struct [(0,3),(1,3)]),2,16,[.int .i64 0,.int .i64 0]⟩:=by kernel_rfl
@[go_sem] theorem ZyI:Zwn Tryz.prog 219=some [(.int .i64),(.int .i64)]:=by kernel_rfl
@[go_sem] theorem Zy2:ti Tryz.prog 222=some ⟨(.slice 281),1,24,[.slice none 0 0]⟩:=by kernel_rfl
@[go_sem] theorem Zy1:ti Tryz.prog 224=some ⟨(.struct [(0,50),(1,222)]),2,48,[.slice none 0 0,.slice none 0 0]⟩:=by kernel_rfl
@[go_sem] theorem Zy0:ti Tryz.prog 226=some ⟨(.slice 247),1,24,[.slice none 0 0]⟩:=by kernel_rfl
@[go_sem] theorem ZyZ:ti Tryz.prog 231=some ⟨(.struct [(0,226),(1,3),(2,3),(3,3)]),4,48,[.slice none 0 0,.int .i64 0,.int .i64 0,.int .i64 0]⟩:=by kernel_rfl
@[go_sem] theorem ZyY:ti Tryz.prog 244=some ⟨(.struct [(0,226),(1,3),(2,3)]),3,40,[.slice none 0 0,.int .i64 0,.int .i64 0]⟩:=by kernel_rfl
@[go_sem] theorem ZyX:ti Tryz.prog 247=some ⟨(.struct [(0,3),(1,3),(2,3),(3,9)]),4,40,[.int .i64 0,.int .i64 0,.int .i64 0,.string ⟨#[]⟩]⟩:=by kernel_rfl
@[go_sem] theorem ZyW:ti Tryz.prog 281=some ⟨(.struct [(0,3),(1,3)]),2,16,[.int .i64 0,.int .i64 0]⟩:=by kernel_rfl
@[go_sem] theorem Zzw:mti Tryz.prog 79=some (⟨(.int .i64),1,8,[.int .i64 0]⟩,.bool false):=by kernel_rfl
namespace Am
section
variable {P:Program} {ops:Array Oper} {O O' O0:St} {K:St->Prop} {o:Oper} {rest:List Oper} {g:Eff} {B As:List (List Nat)} {i:Nat} {es:List (Nat×Eff)} {f:Nat} {xs:List Operand}
theorem Zq0:Zni P ops o rest O K (some (f,xs))=ZkI P ops o rest O K f (Xs O xs) ((Xs O xs).bind (WK O)):=rfl
theorem Zq1:Zni P ops o rest O K none=ZiC P ops o rest O K (JL P O o):=rfl
theorem Zpe:ZiC P ops o rest O K (some g)=(g.side/\ZW P ops rest (O.app g) K):=rfl
theorem Zpf:ZiC P ops o rest O K none=HBy P O o fun g=>ZW P ops rest (O.app g) K:=rfl
theorem Zpg:ZkH P ops rest O K (some g)=(g.side/\ZW P ops rest (O.app g) K):=rfl
theorem Zph:ZkH P ops rest O K none=False:=rfl
theorem ZqO:Zra P ops O0 K B As o rest i es O (some (f,xs))=Zo7 P ops O0 K B As o rest i es O f (Xs O xs) ((Xs O xs).bind (WK O)):=rfl
theorem ZqP:Zra P ops O0 K B As o rest i es O none=Zl2 P ops O0 K B As o rest i es O (JL P O o):=rfl
theorem Zo1:Zl2 P ops O0 K B As o rest i es O (some g)=(g.side/\ZdB P ops O0 K B As rest (i+1) ((i,g)::es)):=rfl
theorem Zo2:Zl2 P ops O0 K B As o rest i es O none=HBy P O o fun g=>ZdB P ops O0 K B As rest (i+1) ((i,g)::es):=rfl
section
variable {b want:Bool}
@[congr] theorem ZsJ {v v':Option Bool} (hs:O=O') (hv:v=v'):WL P ops o rest O K want v=WL P ops o rest O' K want v':=by rw [hs,hv]
theorem Zq2:WL P ops o rest O K true (some true)=Zni P ops o rest O K (Xg o.op):=by simp [WL]
theorem Zq5:WL P ops o rest O K false (some false)=Zni P ops o rest O K (Xg o.op):=by simp [WL]
theorem Zq3:WL P ops o rest O K true (some false)=ZW P ops rest (O.kill o.dst) K:=by simp [WL]
theorem Zq4:WL P ops o rest O K false (some true)=ZW P ops rest (O.kill o.dst) K:=by simp [WL]
end
theorem Zo3:Zm6 P ops O0 K B As rest i es (some g)=(g.side/\ZdB P ops O0 K B As rest (i+1) ((i,g)::es)):=rfl
theorem Zo4:Zm6 P ops O0 K B As rest i es none=False:=rfl
theorem Zm7 {want b:Bool}:Zl3 P ops O0 K B As o rest i es O want (some b)=if b=want then Zra P ops O0 K B As o rest i es O (Xg o.op) else ZdB P ops O0 K B As rest (i+1) ((i,⟨True,match o.dst with | some d=>[(d,.dead)]| none=>[],[],[]⟩)::es):=rfl
theorem Zm8 {want:Bool}:Zl3 P ops O0 K B As o rest i es O want none=False:=rfl
theorem Zzu {x:L}:V7 [.l x]=true:=rfl
theorem Zvl:V7 [.nil]=true:=rfl
theorem Zvj {τ n:Nat}:V7 [.own τ n]=true:=rfl
theorem Zvp {k o:Nat}:V7 [.box k o]=true:=rfl
theorem Zvr {ls:List L}:V7 [.adr ls]=true:=rfl
theorem Zvn {τ n i W o:Nat}:V7 [.elt τ n i W o]=true:=rfl
theorem Zvk {τ j W o m:Nat}:V7 [.nst τ j W o m]=true:=rfl
theorem Zvm {τ j W o m:Nat}:V7 [.nel τ j W o m]=true:=rfl
theorem Zxa {τ n l h W:Nat}:V7 [.vw τ n l h W]=true:=rfl
theorem Zvq:V7 [.any]=true:=rfl
theorem Ztr {v:Value} {x:L}:V7 [.kept v x]=true:=rfl
theorem Zxb:V7 [.np]=true:=rfl
theorem Zvo {f:Nat} {ks:List Nat}:V7 [.clo f ks]=true:=rfl
theorem Zxc:V7 [.nf]=true:=rfl
theorem Zxd {k:Nat}:V7 [.mp k]=true:=rfl
theorem Zzt:V7 []=true:=rfl
theorem Zzv {c d:CV} {cs:List CV}:V7 (c::d::cs)=true:=rfl
def bs3 (O:St) (d len:Nat) (vs:List (Nat×V)) (ei:TI):List (List CV)->Option (List (List L)×Bool×List Nat×Prop)->Option Eff
 | css,some (es,f,τs,q)=>if d<O.nt/\vs.map (·.1)=List.range len/\css.all (fun c=>c.length==ei.size)/\τs.Nodup/\len*ei.size<=16777216/\len<=16777216/\ei.zero.length=ei.size/\(O.ar.lookup (64*d)).isNone then
   some ⟨q/\64*d<1000000,[(d,.one (.own (64*d) es.length))],[],(64*d,some ⟨f,es⟩)::τs.map (fun κ=>(κ,none))⟩ else none
 | _,none=>none
def bs2 (O:St) (d len:Nat) (vs:List (Nat×V)):Option TI->Option (List (List CV))->Option Eff
 | some ei,some css=>bs3 O d len vs ei css (ZkX O css)
 | _,_=>none
def bs1 (P:Program) (O:St) (d len:Nat):Option TI->Option (List (Nat×V))->Option Eff
 | some ⟨.slice et,_,_,_⟩,some vs=>bs2 O d len vs (ti P et) (Zfy vs)
 | _,_=>none
theorem Zr1 {d len:Nat} {vs:List (Nat×V)} {ei:TI} {css:List (List CV)} {es:List (List L)} {f:Bool} {τs:List Nat} {q:Prop}:bs3 O d len vs ei css (some (es,f,τs,q))=if d<O.nt/\vs.map (·.1)=List.range len/\css.all (fun c=>c.length==ei.size)/\τs.Nodup/\len*ei.size<=16777216/\len<=16777216/\ei.zero.length=ei.size/\(O.ar.lookup (64*d)).isNone then
   some ⟨q/\64*d<1000000,[(d,.one (.own (64*d) es.length))],[],(64*d,some ⟨f,es⟩)::τs.map (fun κ=>(κ,none))⟩ else none:=rfl
theorem Zr2 {d len:Nat} {vs:List (Nat×V)} {ei:TI} {css:List (List CV)}:bs2 O d len vs (some ei) (some css)=bs3 O d len vs ei css (ZkX O css):=rfl
theorem Zr3 {d len et a b:Nat} {c:List Value} {vs:List (Nat×V)}:bs1 P O d len (some ⟨.slice et,a,b,c⟩) (some vs)=bs2 O d len vs (ti P et) (Zfy vs):=rfl
theorem ZnS {d t len:Nat} {ps:Array (Nat×Operand)}:XW P O (some d) (.buildSlice t len ps)=bs1 P O d len (ti P t) (parts O ps.toList):=by
 simp only [XW];cases ti P t with
 | none=>rfl
 | some i=>
  obtain ⟨td,a,b,c⟩:=i;cases parts O ps.toList with
  | none=>cases td<;>rfl
  | some vs=>
   cases td<;>try rfl
   rename_i et;simp only [bs1];cases ti P et with
   | none=>rfl
   | some ei=>
    cases Zfy vs with
    | none=>rfl
    | some css=>
     simp only [bs2];cases ZkX O css with
     | none=>rfl
     | some r=>obtain ⟨es,f,τs,q⟩:=r;rfl
theorem Zuk {d t len:Nat} {ps:Array (Nat×Operand)} {ty:TypeId} {pos:String} {af:Array Edge} {gd:Option (Nat×Bool)}:Zni P ops { dst:=some d,op:=.buildSlice t len ps,type:=ty,pos:=pos,after:=af,guard:=gd} rest O K none=ZiC P ops { dst:=some d,op:=.buildSlice t len ps,type:=ty,pos:=pos,after:=af,guard:=gd} rest O K (bs1 P O d len (ti P t) (parts O ps.toList)):=
 congrArg (ZiC P ops { dst:=some d,op:=.buildSlice t len ps,type:=ty,pos:=pos,after:=af,guard:=gd} rest O K) ZnS
theorem Zub {d t len:Nat} {ps:Array (Nat×Operand)} {ty:TypeId} {pos:String} {af:Array Edge} {gd:Option (Nat×Bool)}:Zra P ops O0 K B As { dst:=some d,op:=.buildSlice t len ps,type:=ty,pos:=pos,after:=af,guard:=gd} rest i es O none=Zl2 P ops O0 K B As { dst:=some d,op:=.buildSlice t len ps,type:=ty,pos:=pos,after:=af,guard:=gd} rest i es O (bs1 P O d len (ti P t) (parts O ps.toList)):=
 congrArg (Zl2 P ops O0 K B As { dst:=some d,op:=.buildSlice t len ps,type:=ty,pos:=pos,after:=af,guard:=gd} rest i es O) ZnS
end
end Am
attribute [go_sem high] Zuk Zub
attribute [go_sem] Zzu Zvl Zvj Zvp Zvr Zvn Zvk Zvm Zxa Zvq Ztr Zxb Zvo Zxc Zxd Zzt Zzv Zr3 Zr2 Zr1 ZrH Zxz Zrc ZmJ Zqh Zou ZcT J3 J4 Zq0 Zq1 Zpi Zpj Zpg Zph Zpe Zpf Zq2 Zq5 Zq3 Zq4 Znj Xg JL Qg XW opd Zob ZlZ ZgR ZaL yld St.kill St.app lookup_cons Kq inB ZvJ ZmF Zyz ZyA Ze3 Zw4 ZvK ZxH Zwj Zvf Zw7 Zve Zwi Zv3 ZnK Zwh St.ren ZkS VL Zf2 frV frL frC ZiX Zpp ZiY Zpq ZkX WK ZkV ZkW Zm1 Xs num bI bSh bS ZdK inV Qq Zah Zjl Zkm Zkc ptD L.flat Zil VI Zoi Zjw Zjx ZqO ZqP Zo5 Zo6 Zo3 Zo4 Zo1 Zo2 Zm7 Zm8 view Zcq VH TD.agg Zfx Zfy parts ZmZ eqC ZtY Zwm Zto VG Znz base setAt cle Zba Ztf vle Zut Zuy ZuB iC sC bC lC Zii ZdA ZnA
theorem mixed:Tryz.prog.follows .mixedOrders=true:=by kernel_rfl
@[go_sem] theorem Zyt {n:Int} (h: -9223372036854775808<=n/\n<=9223372036854775807):IntKind.i64.wrap n=n:=IntWalk.i64_in n h
@[go_sem] theorem Zwx {n:Int} (h:0<=n/\n<=255):IntKind.u8.wrap n=n:=IntWalk.u8_in n h
@[go_sem] theorem Zwe {α:Type} {p:α->Prop} {xs:List α} {n:Nat} (h:∀z∈xs,p z):(∀z∈xs.take n,p z)↔True:=⟨fun _=>trivial,fun _ z hz=>h z (List.mem_of_mem_take hz)⟩
@[go_sem] theorem take_len {α β:Type} (f:α->β) (xs:List α):(xs.map f).take xs.length=xs.map f:=List.take_of_length_le (by simp)
@[go_sem] theorem Zws {α:Type} {p:α->Prop} {xs:List α} {n:Nat} (h:∀z∈xs,p z):(∀z∈xs.drop n,p z)↔True:=⟨fun _=>trivial,fun _ z hz=>h z (List.mem_of_mem_drop hz)⟩
@[go_sem] theorem ZrK (xs:List Int):VI (xs.map iC)=true:=by
 refine List.all_eq_true.2 fun e he=> ?_;obtain ⟨x,_,rfl⟩:=List.mem_map.1 he
 rfl
end Go.Proofs.YtpblakfidofgfaaGreatDoor
namespace Go.Proofs.YtpblakfidofgfaaGreatDoor.Am
open Go.RowKit
def ZkG (n:Nat) (us:List Value):Act:={ tmps:=us.toArray++Array.replicate (n-us.toArray.size) undef,defers:=[]}
def JN:Nat->List V->List (Nat×V)
 | _,[]=>[]
 | i,v::vs=>(i,v)::JN (i+1) vs
def GC (P:Program) (f n:Nat) (vs:List V) (bx:List (Nat×List CV)) (ar:List (Nat×Option Arr)) (r:V) (bo:List (Nat×List CV)) (ao:List (Nat×Option Arr)):Prop:=
 X0 P f=true/\vs.length<=n/\∀(N:Nat->Prop) (w0:Bs) (e:Env) (us:List Value) (w:World),us.length=vs.length->Bok N w0->Zz N w0 e ⟨n,JN 0 vs,bx,ar⟩ (ZkG n us) w->
  Calls P f us.toArray w fun ex w'=>∃e' u,ex= .returned u/\r.rel e' ⟨n,[],bo,ao⟩ w' u/\Zz N w0 e' ⟨n,[],bo,ao⟩ (ZkG n []) w'
theorem Zjp:∀{vs:List V} {i t:Nat} {v:V},(JN i vs).lookup t=some v->∃j,t=i+j/\vs[j]? =some v
 | [],_,_,_,h=>by simp [JN] at h
 | x::vs,i,t,v,h=>by
  simp only [JN,lookup_cons] at h
  split at h
  ·rename_i ht;exact ⟨0,by omega,by simpa using h⟩
  ·obtain ⟨j,h1,h2⟩:=Zjp h;exact ⟨j+1,by omega,by simpa using h2⟩
theorem ZqZ {n:Nat} {us:List Value} {j:Nat} {u:Value} (h:us[j]? =some u):(ZkG n us).tmps.getD j undef=u:=by
 have hj:=(List.getElem?_eq_some_iff.1 h).1;simp only [ZkG];rw [Array.getD_eq_getD_getElem?,Array.getElem?_append_left (by simpa using hj)];simp [h]
def mtC (α β:Nat->Nat):CV->CV->Prop
 | .l x,.l y=>x=y
 | .l x,.kept _ y=>x=y
 | .l x,.nil=>x= .sl []
 | .nil,.nil=>True
 | .np,.np=>True
 | .adr xs,.adr ys=>xs=ys
 | .own i n,.own τ m=>α i=τ/\n=m/\τ<1000000
 | .own i n,.nil=>2000000<=α i/\n=0
 | .box i o,.box k o'=>β i=k/\o=o'
 | .clo f is,.clo g ks=>f=g/\is.map β=ks
 | .nf,.nf=>True
 | .mp i,.mp k=>β i=k
 | .mc x,.mc y=>x=y
 | _,_=>False
def mtL (α β:Nat->Nat):List CV->List CV->Prop
 | [],[]=>True
 | c::cs,d::ds=>mtC α β c d/\mtL α β cs ds
 | _,_=>False
def mtV (α β:Nat->Nat):V->V->Prop
 | .one c,.one d=>mtC α β c d
 | .agg cs,.agg ds=>mtL α β cs ds
 | _,_=>False
def ZrA (α β:Nat->Nat):List V->List V->Prop
 | [],[]=>True
 | v::vs,u::us=>mtV α β v u/\ZrA α β vs us
 | _,_=>False
def rnC (γ β:Nat->Nat):CV->CV
 | .own i n=>.own (γ i) n
 | .box i o=>.box (β i) o
 | .l x=>.l x
 | .nil=>.nil
 | .np=>.np
 | .adr ls=>.adr ls
 | .kept _ x=>.l x
 | .clo f is=>.clo f (is.map β)
 | .nf=>.nf
 | .mp i=>.mp (β i)
 | .mc es=>.mc es
 | _=>.any
def clC (bx:List (Nat×List CV)) (ar:List (Nat×Option Arr)):CV->Prop
 | .own i _=>(ar.lookup i).isSome=true
 | .box i _=>(bx.lookup i).isSome=true
 | .clo _ is=>∀i∈is,(bx.lookup i).isSome=true
 | .mp i=>(bx.lookup i).isSome=true
 | _=>True
def clO (bx:List (Nat×List CV)) (ar:List (Nat×Option Arr)):CV->Prop
 | .own i _=>∃A,ar.lookup i=some (some A)
 | .box i _=>(bx.lookup i).isSome=true
 | .l _| .nil| .np| .adr _| .kept _ _| .any| .nf| .mc _=>True
 | .clo _ is=>∀i∈is,(bx.lookup i).isSome=true
 | .mp i=>(bx.lookup i).isSome=true
 | _=>False
def clV (bx:List (Nat×List CV)) (ar:List (Nat×Option Arr)):V->Prop
 | .one c=>clC bx ar c
 | .agg cs=>∀c∈cs,clC bx ar c
 | _=>False
def rnV (γ β:Nat->Nat):V->V
 | .one c=>.one (rnC γ β c)
 | .agg cs=>.agg (cs.map (rnC γ β))
 | .tup ps=>.tup (ps.map fun p=>(p.1,p.2.map (rnC γ β)))
 | .dead=>.dead
def Zwv (bo:List (Nat×List CV)) (ao:List (Nat×Option Arr)):V->Prop
 | .one c=>clO bo ao c
 | .agg cs=>∀c∈cs,clO bo ao c
 | .tup ps=>∀p∈ps,∀c∈p.2,clO bo ao c
 | .dead=>True
structure GM (O:St) (n:Nat) (α β γ:Nat->Nat) (bx:List (Nat×List CV)) (ar:List (Nat×Option Arr)) (bo:List (Nat×List CV)) (ao:List (Nat×Option Arr)):Prop where
 b1:∀i cs,bx.lookup i=some cs->n<=i/\∃ds,O.bx.lookup (β i)=some ds/\mtL α β cs ds
 b2:∀i cs j ds,bo.lookup i=some cs->bo.lookup j=some ds->β i=β j->i=j
 a1:∀i A,ar.lookup i=some A->i<1000000/\((α i<1000000/\∃C,(∃B,A=some B/\B.fr=false/\B.es=C.es)/\O.ar.lookup (α i)=some (some C))\/(2000000<=α i/\A=some ⟨false,[]⟩/\(O.ar.lookup (α i)=none\/O.ar.lookup (α i)=some none)))
 a2:∀i A j B,ar.lookup i=some A->ar.lookup j=some B->α i=α j->i=j
 c1:∀i cs,bo.lookup i=some cs->(∃cs',bx.lookup i=some cs')\/(i<n/\O.bx.lookup (β i)=none/\β i<O.nt)
 c2:∀i cs,bx.lookup i=some cs->∃cs',bo.lookup i=some cs'
 d1:∀i A,ao.lookup i=some (some A)->i<1000000/\γ i<1000000/\O.ar.lookup (γ i)=none
 d2:∀i A j B,ao.lookup i=some (some A)->ao.lookup j=some (some B)->γ i=γ j->i=j
 e1:∀i cs,bx.lookup i=some cs->∀c∈cs,clC bx ar c
 e2:∀i cs,bo.lookup i=some cs->∀c∈cs,clO bo ao c
mutual
theorem Ow.within {N M:Nat->Prop} {w:World}:∀{x:L} {v:Value} {F:List Nat},Ow N w x v F->(∀b∈F,M b)->Ow M w x v F
 | .int _ _,_,_,h,_=>by simp only [Ow] at h ⊢;exact h
 | .bool _,_,_,h,_=>by simp only [Ow] at h ⊢;exact h
 | .str _,_,_,h,_=>by simp only [Ow] at h ⊢;exact h
 | .void,_,_,h,_=>by simp only [Ow] at h ⊢;exact h
 | .sl _,_,_,h,hm=>by
  simp only [Ow] at h ⊢;obtain ⟨A,c,h1,h2,h4⟩:=h;refine ⟨A,c,h1,h2, ?_⟩;rcases h4 with h4| ⟨b,t,cur,Fs,W,e1,e2,e3,e4,e5,e6,e7,rfl,e9⟩
  ·exact .inl h4
  ·exact .inr ⟨b,t,cur,Fs,W,e1,hm _ (by simp),e3,e4,e5,e6,e7,rfl,OwE.within e9 fun x hx=>hm x (by simp [hx])⟩
theorem OwL.within {N M:Nat->Prop} {w:World}:∀{xs:List L} {vs:List Value} {F:List Nat},OwL N w xs vs F->(∀b∈F,M b)->OwL M w xs vs F
 | [],_,_,h,_=>by simp only [OwL] at h ⊢;exact h
 | _::_,_,_,h,hm=>by
  simp only [OwL] at h ⊢;obtain ⟨v,vs',F1,F2,h0,rfl,h1,h2⟩:=h;exact ⟨v,vs',F1,F2,h0,rfl,Ow.within h1 fun x hx=>hm x (by simp [hx]),OwL.within h2 fun x hx=>hm x (by simp [hx])⟩
theorem OwE.within {N M:Nat->Prop} {w:World}:∀{es:List (List L)} {vs:List Value} {F:List Nat},OwE N w es vs F->(∀b∈F,M b)->OwE M w es vs F
 | [],_,_,h,_=>by simp only [OwE] at h ⊢;exact h
 | _::_,_,_,h,hm=>by
  simp only [OwE] at h ⊢;obtain ⟨v1,v2,F1,F2,h0,rfl,h1,h2⟩:=h;exact ⟨v1,v2,F1,F2,h0,rfl,OwL.within h1 fun x hx=>hm x (by simp [hx]),OwE.within h2 fun x hx=>hm x (by simp [hx])⟩
end
section
variable {e:Env} {O:St} {w:World} {N:Nat->Prop} {w0:Bs} {a:Act} {P:Program}
variable {n:Nat} {α β γ:Nat->Nat} {bx bo:List (Nat×List CV)} {ar ao:List (Nat×Option Arr)}
def ob (v:Value):List Nat:=match v.ownBlock with
 | some b=>[b]
 | none=>[]
theorem Zsr {v:Value} {b:Nat}:b∈ob v↔v.ownBlock=some b:=by
 unfold ob;cases v.ownBlock<;>simp [eq_comm]
def rh (e:Env) (τ:Nat):Value:=if 2000000<=τ then .slice none 0 0 else e.ρ τ
def ZoT (e:Env) (α β:Nat->Nat) (bx:List (Nat×List CV)) (ar:List (Nat×Option Arr)) (b:Nat):Prop:= (∃i cs,bx.lookup i=some cs/\b=e.β (β i))\/∃i A,ar.lookup i=some A/\(rh e (α i)).ownBlock=some b
def Zus (e:Env) (α β:Nat->Nat) (bx:List (Nat×List CV)) (ar:List (Nat×Option Arr)) (b:Nat):Prop:=ZoT e α β bx ar b
def Zpn (e:Env) (O:St) (α β:Nat->Nat) (bx:List (Nat×List CV)) (ar:List (Nat×Option Arr)):Env:=
 ⟨fun i=>e.β (β i),fun i=>rh e (α i),fun i=>ob (rh e (α i)),fun b=>Mut e O b/\¬ZoT e α β bx ar b⟩
def bsG (e:Env) (O:St) (w:World) (α β:Nat->Nat) (bx:List (Nat×List CV)) (ar:List (Nat×Option Arr)):Bs:=
 ⟨w,fun b=>Mut e O b/\¬ZoT e α β bx ar b,fun i=>e.β (β i),fun b=>w.heap.size<=b\/Zus e α β bx ar b⟩
theorem GM.got (g:GM O n α β γ bx ar bo ao) {i b:Nat} {A:Option Arr} (hA:ar.lookup i=some A) (hb:(rh e (α i)).ownBlock=some b):α i<1000000/\(e.ρ (α i)).ownBlock=some b/\∃C,O.ar.lookup (α i)=some (some C):=by
 rcases (g.a1 i A hA).2 with ⟨h1,C,_,h2⟩| ⟨h1,_⟩
 ·rw [rh,if_neg (by omega)] at hb;exact ⟨h1,hb,C,h2⟩
 ·rw [rh,if_pos h1] at hb;simp [Value.ownBlock] at hb
theorem GM.mut (g:GM O n α β γ bx ar bo ao) (h:Zz N w0 e O a w) {tm:List (Nat×V)} {b:Nat} (hm:Mut (Zpn e O α β bx ar) ⟨n,tm,bx,ar⟩ b):Mut e O b:=by
 rcases hm with h0| ⟨i,cs,h1,h2⟩| ⟨i,A,h1,h2⟩
 ·exact h0.1
 ·obtain ⟨_,ds,h3,_⟩:=g.b1 i cs h1;exact .inr (.inl ⟨_,ds,h3,h2⟩)
 ·obtain ⟨_,h4,B,h3⟩:=g.got h1 h2;exact .inr (.inr ⟨_,B,h3,h4⟩)
theorem GM.rel (g:GM O n α β γ bx ar bo ao) (h:Zz N w0 e O a w) {tm:List (Nat×V)} {c d:CV} {v:Value} (hr:d.rel e O w v) (hc:mtC α β c d)
  (hcl:clC bx ar c):c.rel (Zpn e O α β bx ar) ⟨n,tm,bx,ar⟩ w v:=by
 unfold mtC at hc
 split at hc
 ·subst hc;obtain ⟨F,h1,h2⟩:=hr;exact ⟨F,h1,fun b hb hm=>h2 b hb (g.mut h hm)⟩
 ·subst hc;obtain ⟨_,F,h1,h2⟩:=hr;exact ⟨F,h1,fun b hb hm=>h2 b hb (g.mut h hm)⟩
 ·subst hc;have hv:v= .slice none 0 0:=hr;subst hv;refine ⟨[], ?_,by simp⟩;simp only [Rp];exact ⟨none,0,rfl,ZAe _,by omega,.inl (by simp)⟩
 ·exact hr
 ·exact hr
 ·subst hc;obtain ⟨b,off,vs,F,h1,h2,h3,h4,h5,h6⟩:=hr;exact ⟨b,off,vs,F,h1,h2,h3,h4,fun hm=>h5 (g.mut h hm),fun x hx hm=>h6 x hx (g.mut h hm)⟩
 ·rename_i i n' τ m;obtain ⟨rfl,rfl,hlt⟩:=hc;obtain ⟨A,hA'⟩:=Option.isSome_iff_exists.1 hcl;rcases (g.a1 i A hA').2 with ⟨_,C,⟨B,rfl,_,hes⟩,h3⟩| ⟨h1,_⟩
  ·obtain ⟨A2,k1,k2,k3⟩:=hr;rw [h3] at k1;obtain rfl:=Zz9 k1;refine ⟨_,hA',fun B' hB'=> ?_,k3⟩;obtain rfl:=Zz9 hB';show n'<=B.es.length/\(B.es.length=n'->v=rh e (α i));rw [hes,rh,if_neg (by omega)];exact k2 C rfl
  ·omega
 ·rename_i i n';obtain ⟨h1,rfl⟩:=hc;have hv:v= .slice none 0 0:=hr;subst hv;obtain ⟨A,hA'⟩:=Option.isSome_iff_exists.1 hcl;rcases (g.a1 i A hA').2 with ⟨h2,_⟩| ⟨_,rfl,_⟩
  ·omega
  ·refine ⟨_,hA',fun B hB=> ?_,none,0,rfl,by omega⟩;obtain rfl:=Zz9 hB;refine ⟨ZAe _,fun _=> ?_⟩;show _=rh e (α i);rw [rh,if_pos h1]
 ·rename_i i o k o';obtain ⟨rfl,rfl⟩:=hc;obtain ⟨cs,hcs⟩:=Option.isSome_iff_exists.1 hcl;exact ⟨⟨cs,hcs⟩,hr.2⟩
 ·rename_i f is g' ks;obtain ⟨rfl,rfl⟩:=hc;refine ⟨fun k hk=>Option.isSome_iff_exists.1 (hcl k hk), ?_⟩;rw [hr.2,List.map_map]
  rfl
 ·exact hr
 ·rename_i i k;subst hc;exact ⟨Option.isSome_iff_exists.1 hcl,hr.2⟩
 ·exact hr
 ·exact hc.elim
theorem Zvt {es:MD} {cs:List CV} (h:mtL α β cs [.mc es]):cs=[.mc es]:=by
 cases cs with
 | nil=>simp [mtL] at h
 | cons c t=>
  simp only [mtL] at h;cases t with
  | cons _ _=>simp [mtL] at h
  | nil=>cases c<;>simp [mtC,mtL] at h;rw [h]
theorem GM.Z6 (g:GM O n α β γ bx ar bo ao) (h:Zz N w0 e O a w) {tm:List (Nat×V)}:∀{cs ds:List CV} {vs:List Value},Am.Z6 e O w ds vs->mtL α β cs ds->(∀c∈cs,clC bx ar c)->Am.Z6 (Zpn e O α β bx ar) ⟨n,tm,bx,ar⟩ w cs vs
 | [],[],_,hr,_,_=>hr
 | [],_::_,_,_,hc,_=>by simp [mtL] at hc
 | _::_,[],_,_,hc,_=>by simp [mtL] at hc
 | c::cs,d::ds,vs,hr,hc,hcl=>by
  simp only [Am.Z6] at hr ⊢;obtain ⟨v,vs',h0,h1,h2⟩:=hr;simp only [mtL] at hc;refine ⟨v,vs',h0,g.rel h h1 hc.1 (hcl c (by simp)),g.Z6 h h2 hc.2 fun c hc=>hcl c (List.mem_cons_of_mem _ hc)⟩
theorem Zkg:∀{vs us:List V},ZrA α β vs us->vs.length=us.length/\∀(j:Nat) (v:V),vs[j]? =some v->∃u,us[j]? =some u/\mtV α β v u
 | [],[],_=>⟨rfl,by simp⟩
 | [],_::_,h=>by simp [ZrA] at h
 | _::_,[],h=>by simp [ZrA] at h
 | v::vs,u::us,h=>by
  simp only [ZrA] at h;obtain ⟨h1,h2⟩:=Zkg h.2;refine ⟨by simp [h1],fun j x hx=> ?_⟩;cases j with
  | zero=>simp at hx;subst hx;exact ⟨u,by simp,h.1⟩
  | succ j=>obtain ⟨y,k1,k2⟩:=h2 j x (by simpa using hx);exact ⟨y,by simpa using k1,k2⟩
theorem GM.Zw5 (g:GM O n α β γ bx ar bo ao) (h:Zz N w0 e O a w) {tm:List (Nat×V)} {x y:V} {v:Value} (hr:y.rel e O w v) (hc:mtV α β x y) (hcl:clV bx ar x):x.rel (Zpn e O α β bx ar) ⟨n,tm,bx,ar⟩ w v:=by
 cases x<;>cases y<;>simp only [mtV] at hc
 ·exact g.rel h hr hc hcl
 ·obtain ⟨vs,h0,h1⟩:=hr;exact ⟨vs,h0,g.Z6 h h1 hc hcl⟩
theorem GM.enter (g:GM O n α β γ bx ar bo ao) (h:Zz N w0 e O a w) {us:List Value} {vs vs':List V} (hl:us.length=vs'.length) (hv:∀(j:Nat) (v:V),vs'[j]? =some v->∃u,us[j]? =some u/\v.rel e O w u) (hm:ZrA α β vs vs') (hcl:∀v∈vs,clV bx ar v) (hn:vs.length<=n):
  Zz (fun b=>w.heap.size<=b\/ZoT e α β bx ar b) (bsG e O w α β bx ar) (Zpn e O α β bx ar) ⟨n,JN 0 vs,bx,ar⟩ (ZkG n us) w:=by
 obtain ⟨hl2,hm2⟩:=Zkg hm
 have key:∀κ,live ⟨n,JN 0 vs,bx,ar⟩ κ->(∀b,tpB (Zpn e O α β bx ar) κ b->Zus e α β bx ar b)/\(∀b∈blk (Zpn e O α β bx ar) κ,ZoT e α β bx ar b)/\¬ZiW κ:=by
  intro κ hk;cases κ with
  | b i=>
   obtain ⟨cs,hcs⟩:=hk;exact ⟨fun b hb=>.inl ⟨i,cs,hcs,hb⟩,fun b hb=>.inl ⟨i,cs,hcs,by simpa [blk,Zpn] using hb⟩,fun hd=>hd.elim⟩
  | a i=>
   obtain ⟨A,hA⟩:=hk;have h1:=(g.a1 i _ hA).1;refine ⟨fun b hb=>.inr ⟨i,_,hA, ?_⟩,fun b hb=>.inr ⟨i,_,hA,Zsr.1 hb⟩,fun hd=>by have:1000000<=i:=hd;omega⟩;rcases hb with hb| ⟨hb,_⟩
   ·exact hb
   ·omega
 have key2:∀κ b,live ⟨n,JN 0 vs,bx,ar⟩ κ->b∈blk (Zpn e O α β bx ar) κ->∃κ0,live O κ0/\b∈blk e κ0/\((∃i,κ= .b i/\κ0= .b (β i))\/∃i,κ= .a i/\κ0= .a (α i)):=by
  intro κ b hk hb;cases κ with
  | b i=>
   obtain ⟨cs,hcs⟩:=hk;obtain ⟨_,ds,h3,_⟩:=g.b1 i cs hcs;exact ⟨.b (β i),⟨ds,h3⟩,hb,.inl ⟨i,rfl,rfl⟩⟩
  | a i=>
   obtain ⟨A,hA⟩:=hk;obtain ⟨_,h4,C,h3⟩:=g.got hA (Zsr.1 hb);exact ⟨.a (α i),⟨C,h3⟩,((h.ar _ C h3).own h4).1,.inr ⟨i,rfl,rfl⟩⟩
 have tG:∀b,Zus e α β bx ar b->w0.tch b:=by
  rintro b (⟨i,cs,h1,rfl⟩| ⟨i,A,h1,h2⟩)
  ·obtain ⟨_,ds,h3,_⟩:=g.b1 i cs h1;exact h.tp (.b (β i)) _ ⟨ds,h3⟩ rfl
  ·obtain ⟨_,h4,B,h3⟩:=g.got h1 h2;exact h.tp (.a (α i)) b ⟨B,h3⟩ (.inl h4)
 refine ⟨by simp [ZkG];omega,rfl,fun t x ht=> ?_,fun i cs hi=> ?_,fun i A hA=> ?_,fun κ κ' hk hk' hne=> ?_,⟨?_,rfl,rfl,rfl,ZAe _,fun _ _ _=>rfl,fun b hb=>.inl hb⟩,⟨fun _ h=>h,fun b hb=>⟨?_,fun κ hk hbk=> ?_⟩⟩,fun κ hk hd=> ?_,fun _ _ _ _=>rfl,fun b hb=> ?_,fun κ b hk hb=> ?_⟩
 ·obtain ⟨j,rfl,hj⟩:=Zjp ht;obtain ⟨y,h1,h2⟩:=hm2 j x hj;obtain ⟨u,h3,h4⟩:=hv j y h1;rw [Nat.zero_add,ZqZ h3];exact g.Zw5 h h4 h2 (hcl x (List.mem_of_getElem? hj))
 ·obtain ⟨_,ds,h3,h4⟩:=g.b1 i cs hi;obtain ⟨_,k2⟩:=h.bx _ ds h3;exact ⟨.inr (.inl ⟨i,cs,hi,rfl⟩),k2.imp (fun vs k3=>g.Z6 h k3 h4 (g.e1 i cs hi)) fun es h0=>Zvt (h0▸h4)⟩
 ·rcases (g.a1 i _ hA).2 with ⟨hlt,C,⟨B,hB,hf,hes⟩,h3⟩| ⟨h1,hB,_⟩
  ·skip
   obtain rfl:=Zz9 hB;obtain ⟨f,es⟩:=A;simp only at hf hes;subst hf hes;obtain ⟨p,c,hvv,hc,h4| ⟨b,t,cur,Fs,W,rfl,q2,q3,q4,q5,q6,q7,q8⟩⟩:=h.ar _ C h3
   ·exact ⟨p,c,(show rh e (α i)=e.ρ (α i) from if_neg (by omega)).trans hvv,hc,.inl ⟨h4.1,h4.2.1,h4.2.2.1,by simp [Zpn,ob,rh,show ¬2000000<=α i by omega,hvv,h4.2.1,Value.ownBlock]⟩⟩
   ·have ho:(e.ρ (α i)).ownBlock=some b:=by rw [hvv];rfl
    have hr:rh e (α i)=e.ρ (α i):=if_neg (by omega);refine ⟨_,c,hr.trans hvv,hc,.inr ⟨b,t,cur,Fs,W,rfl,.inr (.inr ⟨i,_,hA,by rw [hr];exact ho⟩),q3,q4,q5,q6,q7,.inr ⟨rfl,by simp [Zpn,ob,hr,ho], ?_⟩⟩⟩;rcases q8 with ⟨g1,g2,g3,g4⟩| ⟨g1,g2,g3,g4⟩
    ·refine ⟨g4.rp,fun x hx hm=>h.inner h3 hlt (by simp [g2,hx]) ?_ (g.mut h hm)⟩;rw [ho];intro e';obtain rfl:=Zz9 e';rw [g2] at g3;exact (List.nodup_cons.1 g3).1 hx
    ·exact ⟨g3,fun x hx hm=>g4 x hx (g.mut h hm)⟩
  ·obtain rfl:=Zz9 hB;have hr:rh e (α i)= .slice none 0 0:=if_pos h1;exact ⟨none,0,hr,by omega,.inl ⟨rfl,rfl,rfl,by simp [Zpn,ob,hr,Value.ownBlock]⟩⟩
 ·intro b hb hb';obtain ⟨κ0,k1,k2,k6⟩:=key2 κ b hk hb;obtain ⟨κ1,l1,l2,l6⟩:=key2 κ' b hk' hb';refine h.sep κ0 κ1 k1 l1 (fun heq=>hne ?_) b k2 l2;rcases k6 with ⟨i,rfl,rfl⟩| ⟨i,rfl,rfl⟩<;>rcases l6 with ⟨j,rfl,rfl⟩| ⟨j,rfl,rfl⟩
  ·obtain ⟨cs,hcs⟩:=hk;obtain ⟨ds,hds⟩:=hk';obtain ⟨cs',hcs'⟩:=g.c2 i cs hcs;obtain ⟨ds',hds'⟩:=g.c2 j ds hds;injection heq with heq
   rw [g.b2 i cs' j ds' hcs' hds' heq]
  ·cases heq
  ·cases heq
  ·obtain ⟨A,hA⟩:=hk;obtain ⟨B,hB⟩:=hk';injection heq with heq
   rw [g.a2 i _ j _ hA hB heq]
 ·obtain ⟨G,hG,hn'⟩:=h.fr.glb;refine ⟨G,hG,fun b hb hm=> ?_⟩;rcases hm with hm| hm
  ·have:=hG.1 b hb;omega
  ·exact hn' b hb (tG b hm)
 ·rcases h.Zsq hb.1 with k| k
  ·exact (h.bad.2 b k).1
  ·exact k.1
 ·exact absurd ((key κ hk).2.1 b hbk) hb.2
 ·exact absurd hd (key κ hk).2.2
 ·rcases hb with hb| hb
  ·exact .inl hb
  ·exact .inr hb
 ·exact .inr ((key κ hk).1 b hb)
theorem JV {B C:Type} (φ:Nat->Nat) (f:B->C):∀{l:List (Nat×B)},(∀i j,(l.lookup i).isSome=true->(l.lookup j).isSome=true->φ i=φ j->i=j)->∀{k:Nat} {c:C},(l.map fun p=>(φ p.1,f p.2)).lookup k=some c↔∃i x,l.lookup i=some x/\k=φ i/\c=f x
 | [],_,k,c=>by simp
 | (j,y)::l,inj,k,c=>by
  have inj':∀i j,(l.lookup i).isSome=true->(l.lookup j).isSome=true->φ i=φ j->i=j:=fun i i' hi hi' he=>inj i i' (by rw [lookup_cons];split<;>simp [*]) (by rw [lookup_cons];split<;>simp [*]) he;have ih:=JV (l:=l) φ f inj' (k:=k) (c:=c);simp only [List.map_cons,lookup_cons]
  by_cases hk:k=φ j
  ·rw [if_pos hk];refine ⟨fun h=>⟨j,y,by simp,hk,(Zz9 h).symm⟩, ?_⟩;rintro ⟨i,x,h1,h2,rfl⟩;have hij:i=j:=inj i j (by rw [lookup_cons,h1];rfl) (by rw [lookup_cons,if_pos rfl];rfl) (by rw [<-h2,hk]);rw [if_pos hij] at h1;rw [Zz9 h1]
  ·rw [if_neg hk,ih];refine ⟨fun ⟨i,x,h1,h2,h3⟩=>⟨i,x,by rw [if_neg (fun e=>hk (by rw [h2,e]))];exact h1,h2,h3⟩,fun ⟨i,x,h1,h2,h3⟩=>⟨i,x,by rw [if_neg (fun e=>hk (by rw [h2,e]))] at h1;exact h1,h2,h3⟩⟩
theorem UQ {B C:Type} (φ:Nat->Nat) (f:B->C) {l:List (Nat×B)} {k:Nat} (h:(l.map fun p=>(φ p.1,f p.2)).lookup k=none):∀i x,l.lookup i=some x->k≠φ i:=by
 induction l with
 | nil=>simp
 | cons p l ih=>
  obtain ⟨j,y⟩:=p;simp only [List.map_cons,lookup_cons] at h
  split at h
  ·cases h
  ·rename_i hk;intro i x hi;rw [lookup_cons] at hi
   split at hi
   ·rename_i hij;rw [hij];exact hk
   ·exact ih h i x hi
theorem JW {B:Type} (l r:List (Nat×B)) (k:Nat):(l++r).lookup k=match l.lookup k with | some x=>some x| none=>r.lookup k:=by
 induction l with
 | nil=>rfl
 | cons p l ih=>
  obtain ⟨j,y⟩:=p;simp only [List.cons_append,lookup_cons]
  split
  ·rfl
  ·exact ih
def gT (γ β:Nat->Nat) (dst:Option Nat) (r:V):List (Nat×V):=
 match dst with
 | some d=>[(d,rnV γ β r)]
 | none=>[]
def ZiV (α β γ:Nat->Nat) (dst:Option Nat) (r:V) (bo:List (Nat×List CV)) (ao ar:List (Nat×Option Arr)):Eff:=
 ⟨True,gT γ β dst r,bo.map fun p=>(β p.1,p.2.map (rnC γ β)),(ao.map fun p=>(γ p.1,p.2))++ar.map fun p=>(α p.1,none)⟩
theorem GM.bok (g:GM O n α β γ bx ar bo ao) (h:Zz N w0 e O a w):Bok (fun b=>w.heap.size<=b\/ZoT e α β bx ar b) (bsG e O w α β bx ar):=by
 refine ⟨fun b hb hn=> ?_,fun b hn=> ?_⟩
 ·rcases hn with hn| hn
  ·have:b<w.heap.size:=by
    rcases h.Zsq hb.1 with k| k
    ·exact (h.bad.2 b k).1
    ·exact k.1
   omega
  ·exact hb.2 hn
 ·exact hn
open Classical in
theorem GM.Zxy (g:GM O n α β γ bx ar bo ao) (h:Zz N w0 e O a w) {w':World} {e2:Env} {r:V} {u:Value} (h2:Zz (fun b=>w.heap.size<=b\/ZoT e α β bx ar b) (bsG e O w α β bx ar) e2 ⟨n,[],bo,ao⟩ (ZkG n []) w') (hz:r.rel e2 ⟨n,[],bo,ao⟩ w' u)
  (hrc:Zwv bo ao r) (hao:∀i A,ao.lookup i=some A->∃B,A=some B) {dst:Option Nat} (hd:∀d,dst=some d->d<O.nt):
  ∃e3,Zz N w0 e3 (O.app (ZiV α β γ dst r bo ao ar)) (a.put dst u) w':=by
 let e3:Env:=⟨fun k=>if h:∃i cs,bo.lookup i=some cs/\β i=k then e2.β h.choose else e.β k,fun τ=>if h:∃i A,ao.lookup i=some (some A)/\γ i=τ then e2.ρ h.choose else e.ρ τ,fun τ=>if h:∃i A,ao.lookup i=some (some A)/\γ i=τ then e2.φ h.choose else e.φ τ,e.bad⟩
 obtain ⟨O3,hσ3⟩:∃O3,O3=O.app (ZiV α β γ dst r bo ao ar):=⟨_,rfl⟩
 have hβ:∀i cs,bo.lookup i=some cs->e3.β (β i)=e2.β i:=fun i cs hi=>by
  have hx:∃j cs,bo.lookup j=some cs/\β j=β i:=⟨i,cs,hi,rfl⟩;show (if h:∃j cs,bo.lookup j=some cs/\β j=β i then e2.β h.choose else e.β (β i))=_;rw [dif_pos hx];obtain ⟨cs',h1,h3⟩:=hx.choose_spec;rw [g.b2 _ _ _ _ h1 hi h3]
 have hβ':∀k,(∀i cs,bo.lookup i=some cs->β i≠k)->e3.β k=e.β k:=fun k hk=>dif_neg fun ⟨i,cs,h1,h3⟩=>hk i cs h1 h3
 have hγ:∀i A,ao.lookup i=some (some A)->e3.ρ (γ i)=e2.ρ i/\e3.φ (γ i)=e2.φ i:=fun i A hi=>by
  have hx:∃j A,ao.lookup j=some (some A)/\γ j=γ i:=⟨i,A,hi,rfl⟩;obtain ⟨B,h1,h3⟩:=hx.choose_spec;have hc:=g.d2 _ _ _ _ h1 hi h3;refine ⟨?_, ?_⟩
  ·show (if h:∃j A,ao.lookup j=some (some A)/\γ j=γ i then e2.ρ h.choose else e.ρ (γ i))=_;rw [dif_pos hx,hc]
  ·show (if h:∃j A,ao.lookup j=some (some A)/\γ j=γ i then e2.φ h.choose else e.φ (γ i))=_;rw [dif_pos hx,hc]
 have hγ':∀τ,(∀i A,ao.lookup i=some (some A)->γ i≠τ)->e3.ρ τ=e.ρ τ/\e3.φ τ=e.φ τ:=fun τ hτ=>⟨dif_neg fun ⟨i,A,h1,h3⟩=>hτ i A h1 h3,dif_neg fun ⟨i,A,h1,h3⟩=>hτ i A h1 h3⟩
 have nog:∀i A τ B,ao.lookup i=some (some A)->O.ar.lookup τ=some B->γ i≠τ:=fun i A τ B h1 h3 he=>by
  have:=(g.d1 i A h1).2.2;rw [he,h3] at this;cases this
 have injb:∀i j,(bo.lookup i).isSome=true->(bo.lookup j).isSome=true->β i=β j->i=j:=fun i j hi hj he=>by
  obtain ⟨x,hx⟩:=Option.isSome_iff_exists.1 hi;obtain ⟨y,hy⟩:=Option.isSome_iff_exists.1 hj;exact g.b2 i x j y hx hy he
 have injo:∀i j,(ao.lookup i).isSome=true->(ao.lookup j).isSome=true->γ i=γ j->i=j:=fun i j hi hj he=>by
  obtain ⟨x,hx⟩:=Option.isSome_iff_exists.1 hi;obtain ⟨y,hy⟩:=Option.isSome_iff_exists.1 hj;obtain ⟨x',rfl⟩:=hao i x hx;obtain ⟨y',rfl⟩:=hao j y hy;exact g.d2 i x' j y' hx hy he
 have inja:∀i j,(ar.lookup i).isSome=true->(ar.lookup j).isSome=true->α i=α j->i=j:=fun i j hi hj he=>by
  obtain ⟨x,hx⟩:=Option.isSome_iff_exists.1 hi;obtain ⟨y,hy⟩:=Option.isSome_iff_exists.1 hj;exact g.a2 i x j y hx hy he
 have bx3:O3.bx=(bo.map fun p=>(β p.1,p.2.map (rnC γ β)))++O.bx:=by rw [hσ3];rfl
 have ar3:O3.ar=(ao.map fun p=>(γ p.1,p.2))++((ar.map fun p=>(α p.1,none))++O.ar):=by rw [hσ3];simp [St.app,ZiV]
 have L1:∀k cs,O3.bx.lookup k=some cs->(∃i cs',bo.lookup i=some cs'/\k=β i/\cs=cs'.map (rnC γ β))\/((∀i cs',bo.lookup i=some cs'->k≠β i)/\O.bx.lookup k=some cs):=fun k cs hk=>by
  rw [bx3,JW] at hk
  split at hk
  ·rename_i x hx;obtain rfl:=Zz9 hk;exact .inl ((JV β _ injb).1 hx)
  ·rename_i hx;exact .inr ⟨UQ β _ hx,hk⟩
 have L1':∀i cs',bo.lookup i=some cs'->O3.bx.lookup (β i)=some (cs'.map (rnC γ β)):=fun i cs' hi=>by
  rw [bx3,JW,(JV β _ injb).2 ⟨i,cs',hi,rfl,rfl⟩]
 have L1'':∀k cs,O.bx.lookup k=some cs->∃cs',O3.bx.lookup k=some cs':=fun k cs hk=>by
  rw [bx3,JW]
  split
  ·exact ⟨_,rfl⟩
  ·exact ⟨cs,hk⟩
 have L2:∀τ B,O3.ar.lookup τ=some (some B)->(∃i,ao.lookup i=some (some B)/\τ=γ i)\/((∀i A,ao.lookup i=some A->τ≠γ i)/\(∀i A,ar.lookup i=some A->τ≠α i)/\O.ar.lookup τ=some (some B)):=fun τ B hτ=>by
  rw [ar3,JW] at hτ
  split at hτ
  ·rename_i x hx;obtain rfl:=Zz9 hτ;obtain ⟨i,y,h1,h3,rfl⟩:=(JV γ (fun x=>x) injo).1 hx;exact .inl ⟨i,h1,h3⟩
  ·rename_i hx;rw [JW] at hτ
   split at hτ
   ·rename_i y hy;obtain ⟨i,z,h1,h3,h4⟩:=(JV α (fun _=>(none:Option Arr)) inja).1 hy;rw [h4] at hτ;cases hτ
   ·rename_i hy;exact .inr ⟨UQ γ (fun x=>x) hx,UQ α (fun _=>(none:Option Arr)) hy,hτ⟩
 have L2':∀i A,ao.lookup i=some (some A)->O3.ar.lookup (γ i)=some (some A):=fun i A hi=>by
  rw [ar3,JW,(JV γ (fun x=>x) injo).2 ⟨i,some A,hi,rfl,rfl⟩]
 have L2'':∀τ A,O.ar.lookup τ=some A->O3.ar.lookup τ=some none\/(O3.ar.lookup τ=some A/\∀i A,ar.lookup i=some A->τ≠α i):=fun τ A hA=>by
  rw [ar3,JW]
  split
  ·rename_i x hx;obtain ⟨i,y,h1,h3,rfl⟩:=(JV γ (fun x=>x) injo).1 hx;obtain ⟨B,rfl⟩:=hao i _ h1;exact absurd h3.symm (nog i B τ A h1 hA)
  ·rw [JW]
   split
   ·rename_i y hy;obtain ⟨i,z,h1,h3,rfl⟩:=(JV α (fun _=>(none:Option Arr)) inja).1 hy;exact .inl rfl
   ·rename_i hy;exact .inr ⟨hA,UQ α (fun _=>(none:Option Arr)) hy⟩
 have nga:∀τ A,O.ar.lookup τ=some A->∀i B,ao.lookup i=some (some B)->γ i≠τ:=fun τ A hA i B hi=>nog i B τ A hi hA
 have gN:∀b,ZoT e α β bx ar b->b<w.heap.size/\N b:=by
  rintro b (⟨i,cs,h1,rfl⟩| ⟨i,A,h1,h3⟩)
  ·obtain ⟨_,ds,h3,_⟩:=g.b1 i cs h1;exact h.Yg (κ:=.b (β i)) ⟨ds,h3⟩ _ (by simp [blk])
  ·obtain ⟨_,h5,B,h4⟩:=g.got h1 h3;exact h.Yg (κ:=.a (α i)) ⟨B,h4⟩ b ((h.ar _ B h4).own h5).1
 have N1:∀b,(w.heap.size<=b\/ZoT e α β bx ar b)->N b:=fun b hb=>hb.elim (fun hb=>h.tn b (h.fr.new b (Nat.le_trans h.fr.size hb))) fun hb=>(gN b hb).2
 have tG:∀b,Zus e α β bx ar b->Mut e O b/\w0.tch b:=by
  rintro b (⟨i,cs,h1,rfl⟩| ⟨i,A,h1,h3⟩)
  ·obtain ⟨_,ds,h3,_⟩:=g.b1 i cs h1;exact ⟨.inr (.inl ⟨_,ds,h3,rfl⟩),h.tp (.b (β i)) _ ⟨ds,h3⟩ rfl⟩
  ·obtain ⟨_,h5,B,h4⟩:=g.got h1 h3;exact ⟨.inr (.inr ⟨_,B,h4,h5⟩),h.tp (.a (α i)) b ⟨B,h4⟩ (.inl h5)⟩
 have T1:∀b,(bsG e O w α β bx ar).tch b->w0.tch b:=fun b hb=>hb.elim (fun hb=>h.fr.new b (Nat.le_trans h.fr.size hb)) fun hb=>(tG b hb).2;have same:∀b,b<w.heap.size->¬Zus e α β bx ar b->w'.heap[b]? =w.heap[b]? :=fun b hb ht=>h2.fr.block b hb fun hm=>hm.elim (fun hm=>absurd (show w.heap.size<=b from hm) (by omega)) ht
 have apart:∀κ,live O κ->(∀i cs,bx.lookup i=some cs->κ≠.b (β i))->(∀i A,ar.lookup i=some A->κ≠.a (α i))->∀b∈blk e κ,¬ZoT e α β bx ar b/\¬Zus e α β bx ar b:=by
  intro κ hk n1 n2 b hb
  have k1:¬ZoT e α β bx ar b:=by
   rintro (⟨i,cs,h1,rfl⟩| ⟨i,A,h1,h3⟩)
   ·obtain ⟨_,ds,h3,_⟩:=g.b1 i cs h1;exact h.sep κ (.b (β i)) hk ⟨ds,h3⟩ (n1 i cs h1) _ hb (by simp [blk])
   ·obtain ⟨_,h5,B,h4⟩:=g.got h1 h3;exact h.sep κ (.a (α i)) hk ⟨B,h4⟩ (n2 i A h1) b hb ((h.ar _ B h4).own h5).1
  exact ⟨k1,k1⟩
 have bxo:∀k,(∀i cs',bo.lookup i=some cs'->k≠β i)->∀i cs,bx.lookup i=some cs->Key.b k≠.b (β i):=fun k hk i cs hi he=>by
  obtain ⟨cs',h3⟩:=g.c2 i cs hi;injection he with he
  exact hk i cs' h3 he
 have M:∀b,Mut e3 O3 b->Mut e2 ⟨n,[],bo,ao⟩ b:=by
  intro b hm;have old:Mut e O b->¬ZoT e α β bx ar b->Mut e2 ⟨n,[],bo,ao⟩ b:=fun k1 k2=>.inl (h2.bad.1 b ⟨k1,k2⟩);rcases hm with h0| ⟨k,cs,k1,k2⟩| ⟨τ,B,k1,k2⟩
  ·refine old (.inl h0) ?_;rintro (⟨i,cs,q1,rfl⟩| ⟨i,A,q1,q3⟩)
   ·obtain ⟨_,ds,q3,_⟩:=g.b1 i cs q1;exact (h.bad.2 _ h0).2 (.b (β i)) ⟨ds,q3⟩ (by simp [blk])
   ·obtain ⟨q5,q6,B,q4⟩:=g.got q1 q3;have:1000000<=α i:=(h.bad.2 b h0).2 (.a (α i)) ⟨B,q4⟩ ((h.ar _ B q4).own q6).1;omega
  ·rcases L1 k cs k1 with ⟨i,cs',q1,rfl,_⟩| ⟨q1,q2⟩
   ·rw [hβ i cs' q1] at k2;exact .inr (.inl ⟨i,cs',q1,k2⟩)
   ·rw [hβ' k fun i cs' hi he=>q1 i cs' hi he.symm] at k2;exact old (.inr (.inl ⟨k,cs,q2,k2⟩)) (apart (.b k) ⟨cs,q2⟩ (bxo k q1) (fun i A _ he=>by cases he) b (by simp [blk,k2])).1
  ·rcases L2 τ B k1 with ⟨i,q1,rfl⟩| ⟨q1,q2,q3⟩
   ·rw [(hγ i B q1).1] at k2;exact .inr (.inr ⟨i,B,q1,k2⟩)
   ·rw [(hγ' τ (nga τ _ q3)).1] at k2;exact old (.inr (.inr ⟨τ,B,q3,k2⟩)) (apart (.a τ) ⟨B,q3⟩ (fun i cs _ he=>by cases he) (fun i A hi he=>by injection he with he;exact q2 i A hi he) b ((h.ar τ B q3).own k2).1).1
 have C:∀c v,c.rel e2 ⟨n,[],bo,ao⟩ w' v->clO bo ao c->(rnC γ β c).rel e3 O3 w' v:=by
  intro c v hr hc;cases c<;>simp only [clO] at hc<;>try exact hc.elim
  ·obtain ⟨F,k1,k2⟩:=hr;exact ⟨F,k1,fun b hb hm=>k2 b hb (M b hm)⟩
  ·exact hr
  ·rename_i i m;obtain ⟨A,hA⟩:=hc;obtain ⟨A2,k1,k2,k3⟩:=hr;have k1':ao.lookup i=some A2:=k1;rw [hA] at k1';obtain rfl:=Zz9 k1';exact ⟨some A,L2' i A hA,fun B hB=>by rw [(hγ i A hA).1];exact k2 B hB,k3⟩
  ·rename_i i o;obtain ⟨cs,hcs⟩:=Option.isSome_iff_exists.1 hc;refine ⟨⟨_,L1' i cs hcs⟩, ?_⟩;rw [hβ i cs hcs];exact hr.2
  ·obtain ⟨b,off,vs,F,k1,k2,k3,k4,k5,k6⟩:=hr;exact ⟨b,off,vs,F,k1,k2,k3,k4,fun hm=>k5 (M b hm),fun x hx hm=>k6 x hx (M x hm)⟩
  ·exact hr
  ·obtain ⟨_,F,k1,k2⟩:=hr;exact ⟨F,k1,fun b hb hm=>k2 b hb (M b hm)⟩
  ·exact hr
  ·rename_i f is;refine ⟨fun k hk=> ?_, ?_⟩
   ·obtain ⟨i,hi,rfl⟩:=List.mem_map.1 hk;obtain ⟨cs,hcs⟩:=Option.isSome_iff_exists.1 (hc i hi);exact ⟨_,L1' i cs hcs⟩
   ·rw [hr.2,List.map_map];refine congrArg (fun l:List Value=>Value.func (.func f) #[] l.toArray) (List.map_congr_left fun i hi=> ?_);obtain ⟨cs,hcs⟩:=Option.isSome_iff_exists.1 (hc i hi);simp only [Function.comp,hβ i cs hcs]
  ·exact hr
  ·rename_i i;obtain ⟨cs,hcs⟩:=Option.isSome_iff_exists.1 hc;refine ⟨⟨_,L1' i cs hcs⟩, ?_⟩;rw [hβ i cs hcs];exact hr.2
  ·exact hr
 have CL:∀(cs:List CV) (vs:List Value),Am.Z6 e2 ⟨n,[],bo,ao⟩ w' cs vs->(∀c∈cs,clO bo ao c)->Am.Z6 e3 O3 w' (cs.map (rnC γ β)) vs:=by
  intro cs
  induction cs with
  | nil=>intro vs hr _;exact hr
  | cons c cs ih=>
   intro vs hr hc;simp only [Am.Z6,List.map_cons] at hr ⊢;obtain ⟨v,vs',k0,k1,k2⟩:=hr;exact ⟨v,vs',k0,C c v k1 (hc c (by simp)),ih vs' k2 fun x hx=>hc x (by simp [hx])⟩
 have CP:∀(ps:List (Bool×List CV)) (vs:List Value),Yo e2 ⟨n,[],bo,ao⟩ w' ps vs->(∀p∈ps,∀c∈p.2,clO bo ao c)->Yo e3 O3 w' (ps.map fun p=>(p.1,p.2.map (rnC γ β))) vs:=by
  intro ps
  induction ps with
  | nil=>intro vs hr _;exact hr
  | cons p ps ih=>
   intro vs hr hc;obtain ⟨b,cs⟩:=p;simp only [Yo,List.map_cons] at hr ⊢;obtain ⟨v,vs',k0,k1,k2⟩:=hr;refine ⟨v,vs',k0, ?_,ih vs' k2 fun x hx=>hc x (by simp [hx])⟩;cases b
   ·obtain ⟨c,rfl,k3⟩:=k1;exact ⟨rnC γ β c,rfl,C c v k3 (hc (false,[c]) (by simp) c (by simp))⟩
   ·obtain ⟨us,rfl,k3⟩:=k1;exact ⟨us,rfl,CL cs us k3 (hc (true,cs) (by simp))⟩
 have CR:r.rel e2 ⟨n,[],bo,ao⟩ w' u->Zwv bo ao r->(rnV γ β r).rel e3 O3 w' u:=by
  intro hr hc;cases r with
  | one c=>exact C c u hr hc
  | agg cs=>
   obtain ⟨us,hu,hr⟩:=hr;exact ⟨us,hu,CL cs us hr hc⟩
  | tup ps=>
   obtain ⟨us,hu,hr⟩:=hr;exact ⟨us,hu,CP ps us hr hc⟩
  | dead=>exact hr
 rw [<-hσ3];have nt3:O3.nt=O.nt:=by rw [hσ3];rfl
 have tm3:O3.tm=gT γ β dst r++O.tm:=by rw [hσ3];rfl
 have pin2:∀i cs,bo.lookup i=some cs->∀cs0,bx.lookup i=some cs0->e2.β i=e.β (β i):=fun i cs hi cs0 h0=>h2.pn i cs hi (g.b1 i cs0 h0).1
 have bold:∀i cs,bo.lookup i=some cs->∀ds,O.bx.lookup (β i)=some ds->e3.β (β i)=e.β (β i):=fun i cs hi ds hds=>by
  rw [hβ i cs hi];rcases g.c1 i cs hi with ⟨cs',h3⟩| ⟨_,h3,_⟩
  ·exact pin2 i cs hi cs' h3
  ·rw [h3] at hds;cases hds
 have mt:∀b,b<w.heap.size->Mut e3 O3 b->Mut e O b:=by
  intro b hb hm;have tt:(bsG e O w α β bx ar).tch b->Mut e O b:=fun k=>k.elim (fun k=>absurd (show w.heap.size<=b from k) (by omega)) fun k=>(tG b k).1;rcases hm with h0| ⟨k,cs,k1,k2⟩| ⟨τ,B,k1,k2⟩
  ·exact .inl h0
  ·rcases L1 k cs k1 with ⟨i,cs',q1,rfl,_⟩| ⟨q1,q2⟩
   ·rw [hβ i cs' q1] at k2;exact tt (h2.tp (.b i) b ⟨cs',q1⟩ k2.symm)
   ·rw [hβ' k fun i cs' hi he=>q1 i cs' hi he.symm] at k2;exact .inr (.inl ⟨k,cs,q2,k2⟩)
  ·rcases L2 τ B k1 with ⟨i,q1,rfl⟩| ⟨q1,q2,q3⟩
   ·rw [(hγ i B q1).1] at k2;exact tt (h2.tp (.a i) b ⟨B,q1⟩ (.inl k2))
   ·rw [(hγ' τ (nga τ _ q3)).1] at k2;exact .inr (.inr ⟨τ,B,q3,k2⟩)
 have up:Up e O w e3 O3 w':=by
  refine ⟨h2.fr.size,fun b hb hm=>same b hb fun k=>hm (tG b k).1,mt,fun k cs hk=>⟨L1'' k cs hk, ?_⟩,fun τ A hA=> ?_,fun τ hτ ⟨B,hB⟩ _=> ?_⟩
  ·by_cases hx:∃i cs',bo.lookup i=some cs'/\β i=k
   ·obtain ⟨i,cs',h3,rfl⟩:=hx;exact bold i cs' h3 cs hk
   ·exact hβ' k fun i cs' hi he=>hx ⟨i,cs',hi,he⟩
  ·rcases L2'' τ A hA with k| ⟨k,_⟩
   ·exact ⟨none,k,fun _ hx=>by cases hx⟩
   ·exact ⟨A,k,fun B' hB=>⟨B',hB,ZAe _,fun _=>(hγ' τ (nga τ A hA)).1⟩⟩
  ·refine ⟨(hγ' τ (nga τ _ hB)).1,fun b hb=>same b ?_ ?_⟩
   ·exact (h.Yg (κ:=.a τ) ⟨B,hB⟩ b ((h.ar τ B hB).own hb).1).1
   ·exact (apart (.a τ) ⟨B,hB⟩ (fun i cs _ he=>by cases he) (fun i A hi he=>by
    injection he with he
    rcases (g.a1 i A hi).2 with ⟨hx,_⟩| ⟨_,_,hx| hx⟩
    ·omega
    ·rw [<-he,hB] at hx;cases hx
    ·rw [<-he,hB] at hx;cases hx) b ((h.ar τ B hB).own hb).1).2
 have oa:∀τ A,O.ar.lookup τ=some (some A)->(∀i A,ar.lookup i=some A->τ≠α i)->∀b∈e.φ τ,w'.heap[b]? =w.heap[b]? :=fun τ A hA hn b hb=>
  same b (h.Yg (κ:=.a τ) ⟨A,hA⟩ b hb).1 (apart (.a τ) ⟨A,hA⟩ (fun i cs _ he=>by cases he) (fun i B hi he=>by injection he with he;exact hn i B hi he) b hb).2
 refine ⟨e3,h.Zox up (fun κ=>match κ with | .b k=>∃i cs,bo.lookup i=some cs/\k=β i| .a τ=>∃i A,ao.lookup i=some (some A)/\τ=γ i) (by rw [Z8,nt3];exact h.nt) (by rw [ZP];exact h.df)
  (fun t v ht=> ?_) (fun k cs hk hK=> ?_) (fun τ A hA hK=> ?_) (fun k cs hk hK=> ?_) (fun τ A hA hK=> ?_) (fun κ hl hK b hb=> ?_) (fun κ κ' hl hl' hne hK hK'=> ?_) ?_ (fun _ h=>h) (fun b hb=>.inl hb) (fun κ hl hK hd=> ?_) (fun k cs hk hK hle=> ?_) (fun κ b hl hK hb=> ?_) nt3⟩
 ·rw [tm3] at ht;cases dst with
  | none=>exact .inl ⟨by simpa [gT] using ht,rfl⟩
  | some d=>exact Kp (by rw [h.nt];exact hd d rfl) (CR hz hrc) t v ht
 ·rcases L1 k cs hk with ⟨i,cs',q1,q2,_⟩| ⟨q1,q2⟩
  ·exact absurd ⟨i,cs',q1,q2⟩ hK
  ·refine ⟨q2,same _ (h.Yg (κ:=.b k) ⟨cs,q2⟩ _ (by simp [blk])).1 ?_⟩;exact (apart (.b k) ⟨cs,q2⟩ (bxo k q1) (fun i A _ he=>by cases he) _ (by simp [blk])).2
 ·rcases L2 τ A hA with ⟨i,q1,q2⟩| ⟨q1,q2,q3⟩
  ·exact absurd ⟨i,A,q1,q2⟩ hK
  ·exact ⟨q3,(hγ' τ (nga τ _ q3)).1,(hγ' τ (nga τ _ q3)).2,oa τ A q3 q2⟩
 ·obtain ⟨i,cs',q1,rfl⟩:=hK;rw [L1' i cs' q1] at hk;obtain rfl:=Zz9 hk;rw [hβ i cs' q1];obtain ⟨k1,k2⟩:=h2.bx i cs' q1;exact ⟨N1 _ k1,k2.imp (fun vs k3=>CL _ _ k3 (g.e2 i cs' q1)) fun es h0=>by rw [h0];rfl⟩
 ·obtain ⟨i,A',q1,rfl⟩:=hK;rw [L2' i A' q1] at hA;obtain rfl:=Zz9 (Zz9 hA);rw [(hγ i A' q1).1,(hγ i A' q1).2];have nin:∀b∈e2.φ i,N b:=fun b hb=>N1 b (h2.Yg (κ:=.a i) ⟨A',q1⟩ b hb).2;obtain ⟨p,c,hv,hc,k| ⟨b,t,cur,Fs,W,q2,q3,q4,q5,q6,q7,q8,q9⟩⟩:=h2.ar i A' q1
  ·exact ⟨p,c,hv,hc,.inl k⟩
  ·refine ⟨p,c,hv,hc,.inr ⟨b,t,cur,Fs,W,q2,N1 b q3,q4,q5,q6,q7,q8, ?_⟩⟩;rcases q9 with ⟨g1,g2,g3,g4⟩| ⟨g1,g2,g3,g4⟩
   ·exact .inl ⟨g1,g2,g3,g4.within fun x hx=>nin x (by rw [g2];exact List.mem_cons_of_mem _ hx)⟩
   ·exact .inr ⟨g1,g2,g3,fun x hx hm=>g4 x hx (M x hm)⟩
 ·have hN:w.heap.size<=b\/ZoT e α β bx ar b:=by
   cases κ with
   | b k=>
    obtain ⟨i,cs',q1,rfl⟩:=hK;refine (h2.Yg (κ:=.b i) ⟨cs',q1⟩ b ?_).2;simp only [blk,hβ i cs' q1] at hb ⊢;exact hb
   | a τ=>
    obtain ⟨i,A,q1,rfl⟩:=hK;refine (h2.Yg (κ:=.a i) ⟨A,q1⟩ b ?_).2;simp only [blk,(hγ i A q1).2] at hb ⊢;exact hb
  rcases hN with k| ⟨i,cs,k1,k2⟩| ⟨i,A,k1,k2⟩
  ·exact .inr (.inr k)
  ·obtain ⟨_,ds,h3,_⟩:=g.b1 i cs k1;obtain ⟨cs',h4⟩:=g.c2 i cs k1;exact .inr (.inl ⟨.b (β i),.inr ⟨i,cs',h4,rfl⟩,⟨ds,h3⟩,by simp [blk,k2],fun h=>h.elim⟩)
  ·obtain ⟨k3,k4,B,h3⟩:=g.got k1 k2;refine .inr (.inl ⟨.a (α i),.inl ?_,⟨B,h3⟩,((h.ar _ B h3).own k4).1,fun h=>absurd (show 1000000<=α i from h) (by omega)⟩);rintro ⟨C',hC⟩;rcases L2'' (α i) _ h3 with k| ⟨_,k⟩
   ·rw [k] at hC;cases hC
   ·exact k i A k1 rfl
 ·have back:∀κ,(match κ with | .b k=>∃i cs,bo.lookup i=some cs/\k=β i| .a τ=>∃i A,ao.lookup i=some (some A)/\τ=γ i)->∃κ2,live ⟨n,[],bo,ao⟩ κ2/\blk e3 κ=blk e2 κ2/\((∃i,κ2= .b i/\κ= .b (β i))\/∃i,κ2= .a i/\κ= .a (γ i)):=by
   intro κ hK;cases κ with
   | b k=>
    obtain ⟨i,cs',q1,rfl⟩:=hK;exact ⟨.b i,⟨cs',q1⟩,by simp only [blk,hβ i cs' q1],.inl ⟨i,rfl,rfl⟩⟩
   | a τ=>
    obtain ⟨i,A,q1,rfl⟩:=hK;exact ⟨.a i,⟨A,q1⟩,(hγ i A q1).2,.inr ⟨i,rfl,rfl⟩⟩
  obtain ⟨κ2,l1,l2,l3⟩:=back κ hK;obtain ⟨κ3,m1,m2,m3⟩:=back κ' hK';rw [l2,m2];refine h2.sep κ2 κ3 l1 m1 fun he=>hne ?_;subst he;rcases l3 with ⟨i,rfl,rfl⟩| ⟨i,rfl,rfl⟩<;>rcases m3 with ⟨j,hj,rfl⟩| ⟨j,hj,rfl⟩<;>first | (cases hj;done)| (cases hj;rfl)
 ·exact ⟨h.fr.gl,h2.fr.os.trans h.fr.os,h2.fr.tape.trans h.fr.tape,h2.fr.output.trans h.fr.output,Nat.le_trans h.fr.size h2.fr.size,fun b hb hn=>(h2.fr.block b (Nat.lt_of_lt_of_le hb h.fr.size) fun k=>hn (T1 b k)).trans (h.fr.block b hb hn),h.fr.new⟩
 ·cases κ with
  | b k=>exact hd.elim
  | a τ=>
   obtain ⟨i,A,q1,rfl⟩:=hK;have:1000000<=γ i:=hd;have:=(g.d1 i A q1).2.1;omega
 ·obtain ⟨i,cs',q1,rfl⟩:=hK;rcases g.c1 i cs' q1 with ⟨cs0,h3⟩| ⟨_,_,h3⟩
  ·obtain ⟨_,ds,h4,_⟩:=g.b1 i cs0 h3;rw [bold i cs' q1 ds h4];exact h.pn (β i) ds h4 (nt3▸hle)
  ·rw [nt3] at hle;omega
 ·cases κ with
  | b k=>
   obtain ⟨i,cs',q1,rfl⟩:=hK;refine T1 b (h2.tp (.b i) b ⟨cs',q1⟩ ?_);simp only [tpB,hβ i cs' q1] at hb ⊢;exact hb
  | a τ=>
   obtain ⟨i,A,q1,rfl⟩:=hK;refine T1 b (h2.tp (.a i) b ⟨A,q1⟩ ?_);rcases hb with hb| ⟨hb,_⟩
   ·exact .inl (by rw [<-(hγ i A q1).1];exact hb)
   ·have:=(g.d1 i A q1).2.1;omega
theorem GM.le {O':St} (g:GM O n α β γ bx ar bo ao) {dst:Option Nat} {r:V} (k:LeB O O' (ZiV α β γ dst r bo ao ar)) (hao:∀i A,ao.lookup i=some A->∃B,A=some B):GM O' n α β γ bx ar bo ao:=by
 have mem:∀{B:Type} {l:List (Nat×B)} {i:Nat} {x:B},l.lookup i=some x->(i,x)∈l:=by
  intro B l i x hx
  induction l with
  | nil=>simp at hx
  | cons p l ih=>
   obtain ⟨j,y⟩:=p;rw [lookup_cons] at hx
   split at hx
   ·rename_i hij;subst hij;rw [Zz9 hx];simp
   ·exact List.mem_cons_of_mem _ (ih hx)
 refine ⟨fun i cs hi=> ?_,g.b2,fun i A hA=> ?_,g.a2,fun i cs hi=> ?_,g.c2,fun i A hA=> ?_,g.d2,g.e1,g.e2⟩
 ·obtain ⟨h1,ds,h2,h3⟩:=g.b1 i cs hi;exact ⟨h1,ds,k.bx _ _ h2,h3⟩
 ·obtain ⟨h1,h2⟩:=g.a1 i A hA;refine ⟨h1, ?_⟩;rcases h2 with ⟨h2,B,h3,h4⟩| ⟨h2,h3,h4⟩
  ·exact .inl ⟨h2,B,h3,k.ar _ _ h4⟩
  ·refine .inr ⟨h2,h3, ?_⟩;rcases h4 with h4| h4
   ·exact .inl (k.fa (α i,none) (List.mem_append_right _ (List.mem_map_of_mem (f:=fun p=>(α p.1,(none:Option Arr))) (mem hA))) h4)
   ·exact .inr (k.ar _ _ h4)
 ·rcases g.c1 i cs hi with h1| ⟨h1,h2,h3⟩
  ·exact .inl h1
  ·exact .inr ⟨h1,k.fb (β i,cs.map (rnC γ β)) (List.mem_map_of_mem (f:=fun p=>(β p.1,p.2.map (rnC γ β))) (mem hi)) h2,k.nt▸h3⟩
 ·obtain ⟨h1,h2,h3⟩:=g.d1 i A hA;exact ⟨h1,h2,k.fa (γ i,some A) (List.mem_append_left _ (List.mem_map_of_mem (f:=fun p=>(γ p.1,p.2)) (mem hA))) h3⟩
theorem GC.call {f:Nat} {vs0 vs:List V} {r:V} (c:GC P f n vs0 bx ar r bo ao) (g:GM O n α β γ bx ar bo ao) (hm:ZrA α β vs0 vs) (hcl:∀v∈vs0,clV bx ar v) (hrc:Zwv bo ao r) (hao:∀i A,ao.lookup i=some A->∃B,A=some B) {dst:Option Nat} (hd:∀d,dst=some d->d<O.nt):
  ZkN P O dst f vs (ZiV α β γ dst r bo ao ar):=by
 refine ⟨c.1,fun p hp=> ?_,fun O' k N w0 e a w us h hl hv=> ?_⟩
 ·cases dst with
  | none=>simp [ZiV,gT] at hp
  | some d=>simp [ZiV,gT] at hp;rw [hp]
 ·have g':=g.le k hao;have hlen:=(Zkg hm).1;have hs:=g'.enter h hl hv hm hcl c.2.1;refine (c.2.2 _ _ _ us w (by omega) (g'.bok h) hs).mono fun ex w' hR=> ?_;obtain ⟨e2,u,k1,k2,k3⟩:=hR;obtain ⟨e3,k4⟩:=g'.Zxy h k3 k2 hrc hao (dst:=dst) (fun d hd'=>k.nt▸hd d hd');exact ⟨u,e3,k1,k4⟩
end
def toP:V->Option (Bool×List CV)
 | .one c=>some (false,[c])
 | .agg cs=>some (true,cs)
 | _=>none
def Zrj:List V->Option (List (Bool×List CV))
 | []=>some []
 | v::vs=>match toP v,Zrj vs with
  | some p,some ps=>some (p::ps)
  | _,_=>none
def Zsj:List V->Option V
 | [v]=>some v
 | vs=>(Zrj vs).map .tup
def Zun (O' O:St):Prop:=Zut O' O O'.tm/\Zuy O' O O'.bx/\ZuB O O'.ar
def Ztk (n:Nat) (r:V) (bo:List (Nat×List CV)) (ao:List (Nat×Option Arr)) (O:St):Option V->Prop
 | some x=>0<n/\n=O.nt/\Zun ⟨n,[(0,r)],bo,ao⟩ ⟨n,(0,x)::O.tm,O.bx,O.ar⟩
 | none=>False
def Ztl (P:Program) (rv:Array ResultVar) (n:Nat) (r:V) (bo:List (Nat×List CV)) (ao:List (Nat×Option Arr)) (O:St):Prop:=Ztk n r bo ao O ((Ze3 P O rv.toList).bind Zsj)
def Zwo (P:Program) (rv:Array ResultVar) (n:Nat) (r:V) (bo:List (Nat×List CV)) (ao:List (Nat×Option Arr)):Exit->St->Prop
 | .normal,O=>Ztl P rv n r bo ao O
 | .ret,O=>Ztl P rv n r bo ao O
 | _,_=>False
section
variable {e:Env} {O:St} {w:World} {N:Nat->Prop} {w0:Bs} {a:Act} {P:Program}
theorem Znu:∀{vs:List V} {us:List Value} {ps:List (Bool×List CV)},UP e O w vs us->Zrj vs=some ps->Yo e O w ps us
 | [],us,ps,h,hp=>by
  simp only [Zrj,ZAb] at hp;subst hp
  simpa [UP,Yo] using h
 | v::vs,us,ps,h,hp=>by
  simp only [UP] at h;obtain ⟨u,us',rfl,h1,h2⟩:=h;simp only [Zrj] at hp
  split at hp
  ·rename_i p qs hq hqs;obtain rfl:=Zz9 hp;have ih:=Znu h2 hqs;refine ⟨u,us',rfl, ?_,ih⟩;cases v<;>simp [toP] at hq<;>subst hq
   ·exact ⟨_,rfl,h1⟩
   ·exact h1
  ·cases hp
theorem Zrt {vs:List V} {us:List Value} {x:V} (h:UP e O w vs us) (hx:Zsj vs=some x):x.rel e O w (Zmh us):=by
 have gen:∀ps,Zrj vs=some ps->us.length=vs.length->vs.length≠1->(V.tup ps).rel e O w (Zmh us):=by
  intro ps hps hl h1;refine ⟨us, ?_,Znu h hps⟩
  match us,hl with
  | [],_=>rfl
  | [_],hl=>exact absurd hl.symm h1
  | _::_::_,_=>rfl
 have len:∀{vs:List V} {us:List Value},UP e O w vs us->us.length=vs.length:=by
  intro vs
  induction vs with
  | nil=>intro us h;simp only [UP] at h;simp [h]
  | cons v vs ih=>intro us h;simp only [UP] at h;obtain ⟨u,us',rfl,_,h2⟩:=h;simp [ih h2]
 match vs,h,hx,gen with
 | [],h,hx,gen=>
  simp only [Zsj,Zrj,Option.map_some,ZAb] at hx;subst hx;exact gen [] rfl (len h) (by simp)
 | [v],h,hx,gen=>
  simp only [Zsj,ZAb] at hx;subst hx;simp only [UP] at h;obtain ⟨u,us',rfl,h1,rfl⟩:=h;exact h1
 | v::v2::vs,h,hx,gen=>
  simp only [Zsj] at hx;obtain ⟨ps,h1,rfl⟩:=Option.map_eq_some_iff.1 hx;exact gen ps h1 (len h) (by simp)
theorem GC.Xt {f:Nat} {fn:Func} {c:Code} {nt:Nat} {rv:Array ResultVar} (hok:X0 P f=true) (hf:P.funcs[f]? =some fn) (hb:fn.body=some c) (hnt:fn.ntmps=nt) (hrv:fn.results=rv) {vs:List V} {bx bo:List (Nat×List CV)} {ar ao:List (Nat×Option Arr)} {r:V} (hvs:vs.length<=nt)
  (h:∀N w0,Bok N w0->AW P N w0 c (Zwo P rv nt r bo ao) ⟨nt,JN 0 vs,bx,ar⟩):GC P f nt vs bx ar r bo ao:=by
 subst hnt hrv;refine ⟨hok,hvs,fun N w0 e us w hl hbk hs=> ?_⟩;refine calls_of_wp hf hb ?_;refine Code.wp_mono (fun ex a' w' hq=> ?_) (h N w0 hbk _ _ ⟨e,hs⟩);obtain ⟨O',h1,e',h2⟩:=hq
 have fin:Ztl P fn.results fn.ntmps r bo ao O'->a'.defers=[]/\∃v,(results fn a'.tmps).run P w'= .ok v w'/\∃e2 u,Ending.returned v= .returned u/\r.rel e2 ⟨fn.ntmps,[],bo,ao⟩ w' u/\Zz N w0 e2 ⟨fn.ntmps,[],bo,ao⟩ (ZkG fn.ntmps []) w':=by
  intro ho;unfold Ztl Ztk at ho
  split at ho
  ·rename_i x hx;obtain ⟨h0,hn,k1,k2,k3⟩:=ho;obtain ⟨vs',hvs',hT⟩:=Option.bind_eq_some_iff.1 hx;obtain ⟨zs,g1,g2⟩:=V6 (P:=P) h2 hvs';have hp:=h2.put (d:=0) (by omega) (Zrt g2 hT);have hp':Zz N w0 e' ⟨fn.ntmps,(0,x)::O'.tm,O'.bx,O'.ar⟩ (a'.put (some 0) (Zmh zs)) w':=by rw [hn];exact hp
   obtain ⟨e3,hs3⟩:=(show JK ⟨fn.ntmps,[(0,r)],bo,ao⟩ ⟨fn.ntmps,(0,x)::O'.tm,O'.bx,O'.ar⟩ from ⟨rfl,k1,k2,k3⟩).into N w0 _ w' ⟨e',hp'⟩;have u:=Zrg e3 ⟨fn.ntmps,[(0,r)],bo,ao⟩ w' [] fn.ntmps;refine ⟨h2.df,_,g1,e3,_,rfl, ?_,by simp [ZkG],rfl,fun t v ht=>by simp at ht,fun k cs hk=> ?_,fun τ A hA=>(hs3.ar τ A hA).up u (fun _ _=>rfl),hs3.sep,hs3.fr,hs3.bad,hs3.dk,hs3.pn,hs3.tn,hs3.tp⟩
   ·have q:=hs3.tm 0 r (by simp);rw [Zcr a' 0 _ (by rw [h2.nt];omega)] at q;exact q.up u
   ·obtain ⟨q1,q2⟩:=hs3.bx k cs hk;exact ⟨q1,q2.up u⟩
  ·exact ho.elim
 cases ex with
 | normal=>exact fin h1
 | ret=>exact fin h1
 | _=>exact h1.elim
end
def ZkF {A:Type} (p:A->Prop):List A->Prop
 | []=>True
 | x::xs=>p x/\ZkF p xs
def ndP {B:Type} (f:Nat->Nat):List (Nat×B)->Prop
 | []=>True
 | x::xs=>ZkF (fun y=>f x.1≠f y.1) xs/\ndP f xs
theorem Qo {A:Type} {p:A->Prop}:∀{l:List A},ZkF p l->∀x∈l,p x
 | [],_,x,h=>by cases h
 | y::l,h,x,hx=>by
  rcases List.mem_cons.1 hx with rfl| hx
  ·exact h.1
  ·exact Qo h.2 x hx
theorem Vx {B:Type}:∀{l:List (Nat×B)} {i:Nat} {x:B},l.lookup i=some x->(i,x)∈l
 | [],_,_,h=>by simp at h
 | (j,y)::l,i,x,h=>by
  rw [lookup_cons] at h
  split at h
  ·rename_i hij;subst hij;rw [Zz9 h];simp
  ·exact List.mem_cons_of_mem _ (Vx h)
theorem Zkf {B:Type} {f:Nat->Nat}:∀{l:List (Nat×B)},ndP f l->∀{i j:Nat} {x y:B},l.lookup i=some x->l.lookup j=some y->f i=f j->i=j
 | [],_,_,_,_,_,h,_,_=>by simp at h
 | (t,z)::l,h,i,j,x,y,hi,hj,he=>by
  rw [lookup_cons] at hi hj
  split at hi<;>split at hj
  ·rename_i h1 h2;rw [h1,h2]
  ·rename_i h1 h2;exact absurd (h1▸he) (Qo h.1 _ (Vx hj))
  ·rename_i h1 h2;exact absurd (h2▸he).symm (Qo h.1 _ (Vx hi))
  ·exact Zkf h.2 hi hj he
def Zaq (O:St) (mv:List Nat):CV->Option (CV×List Nat×Prop)
 | .box k o=>some (.box k o,[],True)
 | .nil=>some (.nil,[],True)
 | .clo f ks=>some (.clo f ks,[],True)
 | .nf=>some (.nf,[],True)
 | .mp k=>some (.mp k,[],True)
 | .own τ n=>if τ∈mv then some (.own τ n,[],True) else (frC O (.own τ n)).map fun r=>(.l r.1,r.2)
 | c=>(frC O c).map fun r=>(.l r.1,r.2)
def ZfH (O:St) (mv:List Nat):List CV->Option (List CV×List Nat×Prop)
 | []=>some ([],[],True)
 | v::vs=>match Zaq O mv v,ZfH O mv vs with
  | some (x,t,p),some (xs,u,q)=>some (x::xs,t++u,p/\q)
  | _,_=>none
def ZgY (O:St) (mv:List Nat):V->Option (V×List Nat×Prop)
 | .one c=>(Zaq O mv c).map fun r=>(.one r.1,r.2)
 | .agg cs=>(ZfH O mv cs).map fun r=>(.agg r.1,r.2)
 | _=>none
def Zdc (O:St) (mv:List Nat):List V->Option (List V×List Nat×Prop)
 | []=>some ([],[],True)
 | v::vs=>match ZgY O mv v,Zdc O mv vs with
  | some (x,t,p),some (xs,u,q)=>some (x::xs,t++u,p/\q)
  | _,_=>none
def ZxP (bx:List (Nat×List CV)) (ar:List (Nat×Option Arr)):V->Prop
 | .one c=>clC bx ar c
 | .agg cs=>ZkF (clC bx ar) cs
 | _=>False
def ZrY (bo:List (Nat×List CV)) (ao:List (Nat×Option Arr)):V->Prop
 | .one c=>clO bo ao c
 | .agg cs=>ZkF (clO bo ao) cs
 | .tup ps=>ZkF (fun p=>ZkF (clO bo ao) p.2) ps
 | .dead=>True
def bxO (α β:Nat->Nat) (cs:List CV):Option (List CV)->Prop
 | some ds=>mtL α β cs ds
 | none=>False
def arO (τ:Nat):Option Arr->Option (Option Arr)->Prop
 | some B,some (some C)=>τ<1000000/\B.fr=false/\B.es=C.es
 | some B,_=>2000000<=τ/\B.fr=false/\B.es=[]
 | _,_=>False
def dO (n:Nat):Option Nat->Prop
 | some d=>d<n
 | none=>True
def ZxE (O:St) (n:Nat) (α β γ:Nat->Nat) (dst:Option Nat) (vs0:List V) (bx:List (Nat×List CV)) (ar:List (Nat×Option Arr)) (r:V) (bo:List (Nat×List CV)) (ao:List (Nat×Option Arr)) (vs:List V):Prop:=
 ZkF (fun p=>n<=p.1/\bxO α β p.2 (O.bx.lookup (β p.1))/\(bo.lookup p.1).isSome=true/\ZkF (clC bx ar) p.2) bx/\
 ndP β bo/\
 ZkF (fun p=>p.1<1000000/\arO (α p.1) p.2 (O.ar.lookup (α p.1))) ar/\
 ndP α ar/\
 ZkF (fun p=>((bx.lookup p.1).isSome=true\/(p.1<n/\O.bx.lookup (β p.1)=none/\β p.1<O.nt))/\ZkF (clO bo ao) p.2) bo/\
 ZkF (fun p=>p.1<1000000/\γ p.1<1000000/\O.ar.lookup (γ p.1)=none/\p.2.isSome=true) ao/\
 ndP γ ao/\ZrA α β vs0 vs/\ZkF (ZxP bx ar) vs0/\ZrY bo ao r/\dO O.nt dst
def gcK (O:St) (dst:Option Nat) (n:Nat) (α β γ:Nat->Nat) (vs0:List V) (bx:List (Nat×List CV)) (ar:List (Nat×Option Arr)) (r:V) (bo:List (Nat×List CV)) (ao:List (Nat×Option Arr)) (Z:Eff->Prop):Option (List V×List Nat×Prop)->Prop
 | some (vs',τs,p)=>p/\ZxE (O.frz τs) n α β γ dst vs0 bx ar r bo ao vs'/\Z ⟨True,gT γ β dst r,bo.map fun p=>(β p.1,p.2.map (rnC γ β)),((ao.map fun p=>(γ p.1,p.2))++ar.map fun p=>(α p.1,none))++τs.map fun τ=>(τ,none)⟩
 | none=>False
section
variable {e:Env} {O O':St} {w:World} {N:Nat->Prop} {w0:Bs} {a:Act} {P:Program}
variable {n:Nat} {α β γ:Nat->Nat} {bx bo:List (Nat×List CV)} {ar ao:List (Nat×Option Arr)}
theorem ZuI (τs:List Nat):Up e O w e (O.frz τs) w:=⟨ZAe _,fun _ _ _=>rfl,fun b _ hm=>Zih hm,fun k cs hk=>⟨⟨cs,hk⟩,rfl⟩,fun τ A hA=>by
 rw [ZcN]
 split
 ·exact ⟨none,rfl,fun B hB=>by cases hB⟩
 ·exact ⟨A,hA,fun B hB=>⟨B,hB,ZAe _,fun _=>rfl⟩⟩,fun τ _ _ _=>⟨rfl,fun _ _=>rfl⟩⟩
theorem Zlf (h:Zz N w0 e O a w) {mv:List Nat} {v v':CV} {u:Value} (hr:v.rel e O w u) {ts:List Nat} {p:Prop} (ht:Zaq O mv v=some (v',ts,p)) (hp:p) {τs:List Nat} (hs:∀τ∈ts,τ∈τs):v'.rel e (O.frz τs) w u:=by
 unfold Zaq at ht
 split at ht
 ·simp only [ZAb,ZAc] at ht;obtain ⟨rfl,rfl,rfl⟩:=ht;exact hr
 ·simp only [ZAb,ZAc] at ht;obtain ⟨rfl,rfl,rfl⟩:=ht;exact hr
 ·simp only [ZAb,ZAc] at ht;obtain ⟨rfl,rfl,rfl⟩:=ht;exact hr
 ·simp only [ZAb,ZAc] at ht;obtain ⟨rfl,rfl,rfl⟩:=ht;exact hr
 ·simp only [ZAb,ZAc] at ht;obtain ⟨rfl,rfl,rfl⟩:=ht;exact hr
 ·split at ht
  ·simp only [ZAb,ZAc] at ht;obtain ⟨rfl,rfl,rfl⟩:=ht;exact hr.up (ZuI τs)
  ·obtain ⟨⟨x,t,q⟩,h1,h2⟩:=Option.map_eq_some_iff.1 ht;simp only [ZAc] at h2;obtain ⟨rfl,rfl,rfl⟩:=h2;exact Zkv h hr h1 hp hs
 ·obtain ⟨⟨x,t,q⟩,h1,h2⟩:=Option.map_eq_some_iff.1 ht;simp only [ZAc] at h2;obtain ⟨rfl,rfl,rfl⟩:=h2;exact Zkv h hr h1 hp hs
theorem Zle (h:Zz N w0 e O a w) {mv τs:List Nat}:∀{vs vs':List CV} {us:List Value},Z6 e O w vs us->∀{ts:List Nat} {p:Prop},ZfH O mv vs=some (vs',ts,p)->p->(∀τ∈ts,τ∈τs)->Z6 e (O.frz τs) w vs' us
 | [],vs',us,hr,ts,p,ht,hp,hs=>by
  simp only [ZfH,ZAb,ZAc] at ht;obtain ⟨rfl,rfl,rfl⟩:=ht;exact hr
 | v::vs,vs',us,hr,ts,p,ht,hp,hs=>by
  simp only [ZfH] at ht
  split at ht
  ·rename_i x t q xs u q' h1 h2;simp only [ZAb,ZAc] at ht;obtain ⟨rfl,rfl,rfl⟩:=ht;simp only [Z6] at hr ⊢;obtain ⟨v1,vs1,h0,k1,k2⟩:=hr;exact ⟨v1,vs1,h0,Zlf h k1 h1 hp.1 fun τ hτ=>hs τ (List.mem_append_left _ hτ),Zle h k2 h2 hp.2 fun τ hτ=>hs τ (List.mem_append_right _ hτ)⟩
  ·cases ht
theorem Zpx (h:Zz N w0 e O a w) {mv:List Nat} {v v':V} {u:Value} (hr:v.rel e O w u) {ts:List Nat} {p:Prop} (ht:ZgY O mv v=some (v',ts,p)) (hp:p) {τs:List Nat} (hs:∀τ∈ts,τ∈τs):v'.rel e (O.frz τs) w u:=by
 unfold ZgY at ht
 split at ht
 ·obtain ⟨⟨x,t,q⟩,h1,h2⟩:=Option.map_eq_some_iff.1 ht;simp only [ZAc] at h2;obtain ⟨rfl,rfl,rfl⟩:=h2;exact Zlf h hr h1 hp hs
 ·obtain ⟨⟨x,t,q⟩,h1,h2⟩:=Option.map_eq_some_iff.1 ht;simp only [ZAc] at h2;obtain ⟨rfl,rfl,rfl⟩:=h2;obtain ⟨us,hu,hr⟩:=hr;exact ⟨us,hu,Zle h hr h1 hp hs⟩
 ·cases ht
theorem ZvE (O:St) (tm:List (Nat×V)) (c:CV):frC ⟨O.nt,tm,O.bx,O.ar⟩ c=frC O c:=by cases c<;>rfl
theorem Zns (O:St) (mv:List Nat) (tm:List (Nat×V)) (c:CV):Zaq ⟨O.nt,tm,O.bx,O.ar⟩ mv c=Zaq O mv c:=by
 unfold Zaq
 split<;>simp only [ZvE]
theorem Znq (O:St) (mv:List Nat) (tm:List (Nat×V)):∀(cs:List CV),ZfH ⟨O.nt,tm,O.bx,O.ar⟩ mv cs=ZfH O mv cs
 | []=>rfl
 | c::cs=>by simp only [ZfH,Zns,Znq O mv tm cs]
theorem Zrh (O:St) (mv:List Nat) (tm:List (Nat×V)) (v:V):ZgY ⟨O.nt,tm,O.bx,O.ar⟩ mv v=ZgY O mv v:=by
 unfold ZgY
 split<;>simp only [Zns,Znq]
theorem Zsu (k:Le O O') {c:CV} {y:L×List Nat×Prop} (h1:frC O c=some y):frC O' c=some y:=by
 have q:=k.frV (c:=.one c) (r:=(.one y.1,y.2)) (by simp only [frV,h1];rfl);simp only [frV] at q;obtain ⟨z,h3,h4⟩:=Option.map_eq_some_iff.1 q;simp only [ZAc,DV.one.injEq] at h4;rw [h3];exact congrArg some (Prod.ext h4.1 h4.2)
theorem Znt (k:Le O O') {mv:List Nat} {v:CV} {x:CV×List Nat×Prop} (h:Zaq O mv v=some x):Zaq O' mv v=some x:=by
 unfold Zaq at h ⊢
 split at h
 ·exact h
 ·exact h
 ·exact h
 ·exact h
 ·exact h
 ·split at h
  ·rename_i hm;rw [if_pos hm];exact h
  ·rename_i hm;rw [if_neg hm];obtain ⟨y,h1,h2⟩:=Option.map_eq_some_iff.1 h;rw [Zsu k h1,<-h2];rfl
 ·obtain ⟨y,h1,h2⟩:=Option.map_eq_some_iff.1 h;rw [Zsu k h1,<-h2];rfl
theorem Znr (k:Le O O') {mv:List Nat}:∀{vs:List CV} {x:List CV×List Nat×Prop},ZfH O mv vs=some x->ZfH O' mv vs=some x
 | [],_,h=>h
 | v::vs,x,h=>by
  simp only [ZfH] at h ⊢
  split at h
  ·rename_i h1 h2;rw [Znt k h1,Znr k h2];exact h
  ·cases h
theorem Zri (k:Le O O') {mv:List Nat} {v:V} {x:V×List Nat×Prop} (h:ZgY O mv v=some x):ZgY O' mv v=some x:=by
 unfold ZgY at h ⊢
 split at h
 ·obtain ⟨y,h1,h2⟩:=Option.map_eq_some_iff.1 h;rw [Znt k h1,<-h2];rfl
 ·obtain ⟨y,h1,h2⟩:=Option.map_eq_some_iff.1 h;rw [Znr k h1,<-h2];rfl
 ·cases h
theorem Zi2 {mv:List Nat}:∀{vs vs':List V} {ts:List Nat} {p:Prop},Zdc O mv vs=some (vs',ts,p)->vs'.length=vs.length/\(p->∀(j:Nat) (v':V),vs'[j]? =some v'->∃v t q,vs[j]? =some v/\ZgY O mv v=some (v',t,q)/\q/\∀τ∈t,τ∈ts)
 | [],vs',ts,p,h=>by
  simp only [Zdc,ZAb,ZAc] at h;obtain ⟨rfl,rfl,rfl⟩:=h;simp
 | v::vs,vs',ts,p,h=>by
  simp only [Zdc] at h
  split at h
  ·rename_i x t q xs u q' h1 h2;simp only [ZAb,ZAc] at h;obtain ⟨rfl,rfl,rfl⟩:=h;obtain ⟨k1,k2⟩:=Zi2 h2;refine ⟨by simp [k1],fun hp j v' hj=> ?_⟩;cases j with
   | zero=>simp at hj;subst hj;exact ⟨v,t,q,by simp,h1,hp.1,fun τ hτ=>List.mem_append_left _ hτ⟩
   | succ j=>
    obtain ⟨v2,t2,q2,g1,g2,g3,g4⟩:=k2 hp.2 j v' (by simpa using hj);exact ⟨v2,t2,q2,by simpa using g1,g2,g3,fun τ hτ=>List.mem_append_right _ (g4 τ hτ)⟩
  ·cases h
def Zwb (P:Program) (O:St) (dst:Option Nat) (f:Nat) (vs:List V) (Z:Eff->Prop):Prop:=∃g,ZkN P O dst f vs g/\Z g
theorem Zwb.x {f:Nat} {dst:Option Nat} {vs:List V} {Z:Eff->Prop} (h:Zwb P O dst f vs Z):XBy P O dst f (some vs) Z:=h.elim fun g q=>⟨vs,g,rfl,.hand g q.1,q.2⟩
theorem Zod {f:Nat} {dst:Option Nat} {vs0 vs:List V} {r:V} {Z:Eff->Prop} (mv:List Nat) (α β γ:Nat->Nat) (c:GC P f n vs0 bx ar r bo ao) (hx:gcK O dst n α β γ vs0 bx ar r bo ao Z (Zdc O mv vs)):Zwb P O dst f vs Z:=by
 unfold gcK at hx
 split at hx
 ·rename_i vs' τs p ht;obtain ⟨hp,⟨o1,o2,o3,o4,o5,o6,o7,o8,o9,o10,o11⟩,hz⟩:=hx
  have g:GM (O.frz τs) n α β γ bx ar bo ao:=by
   refine ⟨fun i cs hi=> ?_,fun i cs j ds hi hj=>Zkf o2 hi hj,fun i A hA=> ?_,fun i A j B hi hj=>Zkf o4 hi hj,fun i cs hi=> ?_,fun i cs hi=> ?_,fun i A hA=> ?_,fun i A j B hi hj=>Zkf o7 hi hj,fun i cs hi c hc=> ?_,fun i cs hi c hc=> ?_⟩
   ·obtain ⟨h1,h2,_⟩:=Qo o1 _ (Vx hi);unfold bxO at h2
    split at h2
    ·rename_i ds hds;exact ⟨h1,ds,hds,h2⟩
    ·exact h2.elim
   ·obtain ⟨h1,h3⟩:=Qo o3 _ (Vx hA);refine ⟨h1, ?_⟩;simp only at h3;cases A with
    | none=>simp [arO] at h3
    | some B=>
     cases hC:(O.frz τs).ar.lookup (α i) with
     | none=>rw [hC] at h3;exact .inr ⟨h3.1,by obtain ⟨f,es⟩:=B;obtain ⟨_,h4,h5⟩:=h3;simp only at h4 h5;rw [h4,h5],.inl rfl⟩
     | some C=>
      cases C with
      | none=>rw [hC] at h3;exact .inr ⟨h3.1,by obtain ⟨f,es⟩:=B;obtain ⟨_,h4,h5⟩:=h3;simp only at h4 h5;rw [h4,h5],.inr rfl⟩
      | some C=>rw [hC] at h3;exact .inl ⟨h3.1,C,⟨B,rfl,h3.2.1,h3.2.2⟩,rfl⟩
   ·rcases (Qo o5 _ (Vx hi)).1 with h1| h1
    ·exact .inl (Option.isSome_iff_exists.1 h1)
    ·exact .inr h1
   ·exact Option.isSome_iff_exists.1 (Qo o1 _ (Vx hi)).2.2.1
   ·obtain ⟨h1,h2,h3,_⟩:=Qo o6 _ (Vx hA);exact ⟨h1,h2,h3⟩
   ·exact Qo (Qo o1 _ (Vx hi)).2.2.2 c hc
   ·exact Qo (Qo o5 _ (Vx hi)).2 c hc
  have hcl:∀v∈vs0,clV bx ar v:=fun v hv=>by
   have:=Qo o9 v hv;cases v with
   | one c=>exact this
   | agg cs=>exact fun c hc=>Qo this c hc
   | _=>exact this.elim
  have hrc:Zwv bo ao r:=by
   cases r with
   | one c=>exact o10
   | agg cs=>exact fun c hc=>Qo o10 c hc
   | tup ps=>exact fun p hp c hc=>Qo (Qo o10 p hp) c hc
   | dead=>trivial
  have hao:∀i A,ao.lookup i=some A->∃B,A=some B:=fun i A hA=>Option.isSome_iff_exists.1 (Qo o6 _ (Vx hA)).2.2.2;have hd:∀d,dst=some d->d<(O.frz τs).nt:=fun d hd=>by subst hd;exact o11
  have H:=c.call g o8 hcl hrc hao hd;refine ⟨⟨True,gT γ β dst r,bo.map fun p=>(β p.1,p.2.map (rnC γ β)),((ao.map fun p=>(γ p.1,p.2))++ar.map fun p=>(α p.1,none))++τs.map fun τ=>(τ,none)⟩,⟨H.1,H.2.1,fun O' k N w0 e a w us h hl hv=> ?_⟩,hz⟩
  have k':LeB (O.frz τs) (O'.frz τs) (ZiV α β γ dst r bo ao ar):=by
   refine ⟨k.nt,k.bx,fun τ A hA=> ?_,k.fb,fun p hp hn=> ?_⟩
   ·rw [ZcN] at hA ⊢
    split at hA
    ·rename_i hm;rw [if_pos hm];exact hA
    ·rename_i hm;rw [if_neg hm];exact k.ar τ A hA
   ·rw [ZcN] at hn ⊢
    split at hn
    ·cases hn
    ·rename_i hm;rw [if_neg hm];exact k.fa p (List.mem_append_left _ hp) hn
  obtain ⟨l1,l2⟩:=Zi2 ht;have kl:Le ⟨O.nt,[],O.bx,O.ar⟩ O':=⟨k.nt,fun t v h=>by simp at h,k.bx,k.ar⟩;refine (H.2.2 (O'.frz τs) k' N w0 e a w us (h.frz τs) (by omega) fun j v' hj=> ?_).mono fun ex w' hR=> ?_
  ·obtain ⟨v,t,q,g1,g2,g3,g4⟩:=l2 hp j v' hj;obtain ⟨u,h1,h2⟩:=hv j v g1;exact ⟨u,h1,Zpx h h2 (Zri kl ((Zrh O mv [] v).trans g2)) g3 g4⟩
  ·obtain ⟨u,e',h1,h2⟩:=hR;refine ⟨u,e',h1, ?_⟩
   have he:(O'.frz τs).app (ZiV α β γ dst r bo ao ar)=O'.app ⟨True,gT γ β dst r,bo.map fun p=>(β p.1,p.2.map (rnC γ β)),((ao.map fun p=>(γ p.1,p.2))++ar.map fun p=>(α p.1,none))++τs.map fun τ=>(τ,none)⟩:=by
    simp [St.app,ZiV,St.frz,List.append_assoc]
   rw [<-he];exact h2
 ·exact hx.elim
theorem Zd1 {f:Nat} {dst:Option Nat} {vs0 vs:List V} {r:V} {Z:Eff->Prop} (mv:List Nat) (α β γ:Nat->Nat) (c:GC P f n vs0 bx ar r bo ao) (hx:gcK O dst n α β γ vs0 bx ar r bo ao Z (Zdc O mv vs)):XBy P O dst f (some vs) Z:=(Zod mv α β γ c hx).x
end
def ZuL (rs:List DV):List (Nat×Option Arr):=(Zah 30000 rs).2.map fun p=>(p.1,some ⟨false,p.2.es⟩)
def TC (P:Program) (f n:Nat) (ds rs:List DV):Prop:=GC P f n (ds.map inV) [] [] (Zkc (Zah 30000 rs).1) [] (ZuL rs)
def Zwd (O:St) (n:Nat) (ds rs:List DV) (Z:Eff->Prop) (vs:List V):Option Nat->Prop
 | some d=>gcK O (some d) n (fun i=>i) (fun i=>i) (fun i=>64*d+(i-30000)) (ds.map inV) [] [] (Zkc (Zah 30000 rs).1) [] (ZuL rs) Z (Zdc O [] vs)
 | none=>False
section
variable {P:Program} {O:St}
theorem Zyc {f n:Nat} {dst:Option Nat} {ds rs:List DV} {vs:List V} {Z:Eff->Prop} (c:TC P f n ds rs) (hx:Zwd O n ds rs Z vs dst):XBy P O dst f (some vs) Z:=by
 unfold Zwd at hx
 split at hx
 ·exact Zd1 [] _ _ _ c hx
 ·exact hx.elim
theorem ZlU:∀{ds:List DV} {i:Nat},JN i (ds.map inV)=ZdK i ds
 | [],_=>rfl
 | d::ds,i=>by simp only [List.map_cons,JN,ZdK];rw [ZlU]
theorem ZuD {f:Nat} {fn:Func} {c:Code} {nt:Nat} {rv:Array ResultVar} (hf:P.funcs[f]? =some fn) (hnt:fn.ntmps=nt) (hrv:fn.results=rv) {ds rs:List DV}
  (h:∀N w0,Bok N w0->True->AW P N w0 c (Zwo P rv nt (Zkc (Zah 30000 rs).1) [] (ZuL rs)) ⟨nt,ZdK 0 ds,[],[]⟩) (hok:X0 P f=true:=by kernel_rfl) (hb:fn.body=some c:=by rfl) (hds:ds.length<=nt:=by simp):TC P f nt ds rs:=
 GC.Xt hok hf hb hnt hrv (by simpa using hds) fun N w0 hbk=>by
  rw [ZlU];exact h N w0 hbk trivial
end
section
variable {α β γ:Nat->Nat} {bx bo:List (Nat×List CV)} {ar ao:List (Nat×Option Arr)} {x y:L} {v:Value} {i j n m o:Nat} {ls:List L} {cs ds:List CV} {c d:CV} {O:St} {mv:List Nat}
theorem Zxw:mtC α β (.l x) (.l y)=(x=y):=rfl
theorem Zxv:mtC α β (.l x) (.kept v y)=(x=y):=rfl
theorem Zxu:mtC α β (.l x) .nil=(x= .sl []):=rfl
theorem Zxt:mtC α β .nil .nil=True:=rfl
theorem Zxs:mtC α β .np .np=True:=rfl
theorem Zxr {ks:List L}:mtC α β (.adr ls) (.adr ks)=(ls=ks):=rfl
theorem Zxq:mtC α β (.own i n) (.own j m)=(α i=j/\n=m/\j<1000000):=rfl
theorem Zxo:mtC α β (.own i n) .nil=(2000000<=α i/\n=0):=rfl
theorem Zxp {o':Nat}:mtC α β (.box i o) (.box j o')=(β i=j/\o=o'):=rfl
theorem Zxj:mtV α β (.one c) (.one d)=mtC α β c d:=rfl
theorem Zxi:mtV α β (.agg cs) (.agg ds)=mtL α β cs ds:=rfl
theorem Zw3:rnC γ β (.l x)= .l x:=rfl
theorem Zw2:rnC γ β .nil= .nil:=rfl
theorem Zw1:rnC γ β .np= .np:=rfl
theorem Zw0:rnC γ β (.adr ls)= .adr ls:=rfl
theorem ZwZ:rnC γ β (.own i n)= .own (γ i) n:=rfl
theorem ZwY:rnC γ β (.box i o)= .box (β i) o:=rfl
theorem ZwX:rnC γ β (.kept v x)= .l x:=rfl
theorem ZwS:rnV γ β (.one c)= .one (rnC γ β c):=rfl
theorem ZwR:rnV γ β (.agg cs)= .agg (cs.map (rnC γ β)):=rfl
theorem ZwQ {ps:List (Bool×List CV)}:rnV γ β (.tup ps)= .tup (ps.map fun p=>(p.1,p.2.map (rnC γ β))):=rfl
theorem Zx9:clC bx ar (.l x)=True:=rfl
theorem Zx8:clC bx ar .nil=True:=rfl
theorem Zx7:clC bx ar .np=True:=rfl
theorem Zx6:clC bx ar (.adr ls)=True:=rfl
theorem Zx5:clC bx ar (.own i n)=((ar.lookup i).isSome=true):=rfl
theorem Zx4:clC bx ar (.box i o)=((bx.lookup i).isSome=true):=rfl
theorem ZxZ:clO bo ao (.l x)=True:=rfl
theorem ZxY:clO bo ao .nil=True:=rfl
theorem ZxX:clO bo ao .np=True:=rfl
theorem ZxW:clO bo ao (.adr ls)=True:=rfl
theorem ZxV:clO bo ao (.own i n)=∃A,ao.lookup i=some (some A):=rfl
theorem ZxU:clO bo ao (.box i o)=((bo.lookup i).isSome=true):=rfl
theorem ZvY:ZxP bx ar (.one c)=clC bx ar c:=rfl
theorem ZvX:ZxP bx ar (.agg cs)=ZkF (clC bx ar) cs:=rfl
theorem Zt8:ZrY bo ao (.one c)=clO bo ao c:=rfl
theorem Zt7:ZrY bo ao (.agg cs)=ZkF (clO bo ao) cs:=rfl
theorem Zt6 {ps:List (Bool×List CV)}:ZrY bo ao (.tup ps)=ZkF (fun p=>ZkF (clO bo ao) p.2) ps:=rfl
theorem ZsZ:Zaq O mv (.box i o)=some (.box i o,[],True):=rfl
theorem ZsY:Zaq O mv (.own i n)=if i∈mv then some (.own i n,[],True) else (frC O (.own i n)).map fun r=>(.l r.1,r.2):=rfl
theorem ZsX:Zaq O mv (.l x)=some (.l x,[],True):=rfl
theorem ZsW:Zaq O mv (.kept v x)=some (.l x,[],True):=rfl
theorem ZsV:Zaq O mv .nil=some (.nil,[],True):=rfl
theorem ZsR:ZgY O mv (.one c)=(Zaq O mv c).map fun r=>(.one r.1,r.2):=rfl
theorem ZsQ:ZgY O mv (.agg cs)=(ZfH O mv cs).map fun r=>(.agg r.1,r.2):=rfl
theorem Zye:bxO α β cs (some ds)=mtL α β cs ds:=rfl
theorem Zyd:bxO α β cs none=False:=rfl
theorem Zyj {B C:Arr}:arO n (some B) (some (some C))=(n<1000000/\B.fr=false/\B.es=C.es):=rfl
theorem Zyi {B:Arr}:arO n (some B) none=(2000000<=n/\B.fr=false/\B.es=[]):=rfl
theorem Zyh {B:Arr}:arO n (some B) (some none)=(2000000<=n/\B.fr=false/\B.es=[]):=rfl
theorem ZzB:dO n (some m)=(m<n):=rfl
theorem ZzA:dO n none=True:=rfl
theorem Zu9 {v:V}:Zsj [v]=some v:=rfl
theorem Zu8:Zsj []=some (.tup []):=rfl
theorem Zu7 {v u:V} {vs:List V}:Zsj (v::u::vs)=(Zrj (v::u::vs)).map .tup:=rfl
theorem ZwI:toP (.one c)=some (false,[c]):=rfl
theorem ZwH:toP (.agg cs)=some (true,cs):=rfl
theorem Zzy {r:V}:gT γ β (some i) r=[(i,rnV γ β r)]:=rfl
theorem Ztj {r x:V}:Ztk n r bo ao O (some x)=(0<n/\n=O.nt/\Zun ⟨n,[(0,r)],bo,ao⟩ ⟨n,(0,x)::O.tm,O.bx,O.ar⟩):=rfl
theorem ZxF {dst:Option Nat} {vs0 vs':List V} {r:V} {Z:Eff->Prop} {τs:List Nat} {p:Prop}:gcK O dst n α β γ vs0 bx ar r bo ao Z (some (vs',τs,p))=(p/\ZxE (O.frz τs) n α β γ dst vs0 bx ar r bo ao vs'/\Z ⟨True,gT γ β dst r,bo.map fun p=>(β p.1,p.2.map (rnC γ β)),((ao.map fun p=>(γ p.1,p.2))++ar.map fun p=>(α p.1,none))++τs.map fun τ=>(τ,none)⟩):=rfl
theorem ZvM {P:Program} {rv:Array ResultVar} {r:V}:Zwo P rv n r bo ao .normal O=Ztl P rv n r bo ao O:=rfl
theorem ZvL {P:Program} {rv:Array ResultVar} {r:V}:Zwo P rv n r bo ao .ret O=Ztl P rv n r bo ao O:=rfl
theorem ZuK {ds rs:List DV} {Z:Eff->Prop} {vs:List V}:Zwd O n ds rs Z vs (some m)=gcK O (some m) n (fun i=>i) (fun i=>i) (fun i=>64*m+(i-30000)) (ds.map inV) [] [] (Zkc (Zah 30000 rs).1) [] (ZuL rs) Z (Zdc O [] vs):=rfl
theorem Zxn {f g:Nat} {is ks:List Nat}:mtC α β (.clo f is) (.clo g ks)=(f=g/\is.map β=ks):=rfl
theorem Zxm:mtC α β .nf .nf=True:=rfl
theorem Zxl {j:Nat}:mtC α β (.mp i) (.mp j)=(β i=j):=rfl
theorem Zxk {x y:MD}:mtC α β (.mc x) (.mc y)=(x=y):=rfl
theorem ZwW {f:Nat} {is:List Nat}:rnC γ β (.clo f is)= .clo f (is.map β):=rfl
theorem ZwV:rnC γ β .nf= .nf:=rfl
theorem ZwU:rnC γ β (.mp i)= .mp (β i):=rfl
theorem ZwT {x:MD}:rnC γ β (.mc x)= .mc x:=rfl
theorem Zx3 {f:Nat} {is:List Nat}:clC bx ar (.clo f is)=∀i∈is,(bx.lookup i).isSome=true:=rfl
theorem Zx2:clC bx ar .nf=True:=rfl
theorem Zx1:clC bx ar (.mp i)=((bx.lookup i).isSome=true):=rfl
theorem Zx0 {x:MD}:clC bx ar (.mc x)=True:=rfl
theorem ZxT {f:Nat} {is:List Nat}:clO bo ao (.clo f is)=∀i∈is,(bo.lookup i).isSome=true:=rfl
theorem ZxS:clO bo ao .nf=True:=rfl
theorem ZxR:clO bo ao (.mp i)=((bo.lookup i).isSome=true):=rfl
theorem ZxQ {x:MD}:clO bo ao (.mc x)=True:=rfl
theorem ZsU {f:Nat} {ks:List Nat}:Zaq O mv (.clo f ks)=some (.clo f ks,[],True):=rfl
theorem ZsT:Zaq O mv .nf=some (.nf,[],True):=rfl
theorem ZsS:Zaq O mv (.mp i)=some (.mp i,[],True):=rfl
end
attribute [go_sem] Zxn Zxm Zxl Zxk ZwW ZwV ZwU ZwT Zx3 Zx2 Zx1 Zx0 ZxT ZxS ZxR ZxQ ZsU ZsT ZsS Zxw Zxv Zxu Zxt Zxs Zxr Zxq Zxp Zxo Zxj Zxi mtL ZrA Zw3 Zw2 Zw1 Zw0 ZwZ ZwY ZwX ZwS ZwR ZwQ Zx9 Zx8 Zx7 Zx6 Zx5 Zx4 ZxZ ZxY ZxX ZxW ZxV ZxU ZvY ZvX Zt8 Zt7 Zt6 ZsZ ZsY ZsX ZsW ZsV ZfH ZsR ZsQ Zdc JN Zye Zyd Zyj Zyi Zyh ZzB ZzA Zu9 Zu8 Zu7 ZwI ZwH Zrj Zzy Ztj Ztl ZxF ZxE ZvM ZvL ZuK ZuL ZkF ndP Zun St.frz
open Go.RowKit
section
variable {e:Env} {O O':St} {w:World} {N:Nat->Prop} {w0:Bs} {a:Act} {P:Program}
theorem ZfE {x:Code} {Q:Exit->St->Prop} (h:∀K:St->Prop,(∀O' O'',Zai O'' O'->Q .normal O''->K O')->AW P N w0 x (Kq K Q) O):AW P N w0 x Q O:=fun a w hs=>
 Code.wp_mono (fun e a w ⟨O',h1,h2⟩=>by
  cases e<;>first | exact ⟨O',h1,h2⟩| (obtain ⟨O'',h3,h4⟩:=h1;exact ⟨O'',h4,h3 N w0 a w h2⟩)) (h (fun O'=>∃O'',Zai O'' O'/\Q .normal O'') (fun O' O'' h1 h2=>⟨O'',h1,h2⟩) a w hs)
def ren (l:List (Nat×Nat)) (i:Nat):Nat:=(l.lookup i).getD 0
theorem Zvc (l:List (Nat×Nat)) (i:Nat):ren l i=(l.lookup i).getD 0:=rfl
def Zl6:List V->Option (List Nat)
 | []=>some []
 | .one (.box k 0)::vs=>(Zl6 vs).map (k:: ·)
 | _::_=>none
theorem Zl5 (h:Zz N w0 e O a w):∀{ps:List Operand} {vs:List V} {ks:List Nat},Xs O ps=some vs->Zl6 vs=some ks->
  ps.map a.eval=ks.map (fun k=>Value.pointer (some ⟨e.β k,0,none⟩))/\∀k∈ks,∃cs,O.bx.lookup k=some cs
 | [],vs,ks,ho,hk=>by
  simp only [Xs,ZAb] at ho;subst ho;simp only [Zl6,ZAb] at hk;subst hk;simp
 | o::ps,vs,ks,ho,hk=>by
  simp only [Xs] at ho
  split at ho
  ·rename_i v vs' hv hvs;obtain rfl:=Zz9 ho;unfold Zl6 at hk
   split at hk
   ·rename_i h1;cases h1
   ·rename_i k us h1;obtain ⟨rfl,rfl⟩:=List.cons.inj h1;obtain ⟨ks',h2,rfl⟩:=Option.map_eq_some_iff.1 hk;obtain ⟨g1,g2⟩:=Zl5 h hvs h2;obtain ⟨g3,g4⟩:=Zv h hv
    exact ⟨by rw [List.map_cons,List.map_cons,g1,g4],fun j hj=>by
     rcases List.mem_cons.1 hj with rfl| hj
     ·exact g3
     ·exact g2 j hj⟩
   ·cases hk
  ·cases ho
def fnK (O:St) (d f:Nat) (Z:Eff->Prop):Option (List Nat)->Prop
 | some ks=>d<O.nt/\Z ⟨True,[(d,.one (.clo f ks))],[],[]⟩
 | none=>False
theorem ZrZ {d f:Nat} {caps:Array Operand} {ty:TypeId} {pos:String} {af:Array Edge} {gd:Option (Nat×Bool)} {Z:Eff->Prop} (hx:fnK O d f Z ((Xs O caps.toList).bind Zl6)):
  HBy P O { dst:=some d,op:=.makeFunc (.func f) #[] caps,type:=ty,pos:=pos,after:=af,guard:=gd} Z:=by
 unfold fnK at hx
 split at hx
 ·rename_i ks hks;obtain ⟨vs,h1,h2⟩:=Option.bind_eq_some_iff.1 hks;refine ⟨_,⟨.inl rfl,by simp,fun O' k fr N w0 e a w h=>.inl ⟨w,e,.inl ⟨.func (.func f) #[] (caps.map a.eval),by simp [execOp,Instr.makeFunc,Sem.run_bind], ?_⟩⟩⟩,hx.2⟩;obtain ⟨g1,g2⟩:=Zl5 h (k.Xs h1) h2;refine h.put (x:=.one (.clo f ks)) (k.nt▸hx.1) ⟨g2, ?_⟩;have:caps.map a.eval=(caps.toList.map a.eval).toArray:=by rw [<-Array.toList_inj];simp
  rw [this,g1]
 ·exact hx.elim
def ZxO (P:Program) (O:St) (dst:Option Nat) (Z:Eff->Prop):Option V->Option (List V)->Prop
 | some (.one (.clo f ks)),some vs=>Zwb P O dst f (vs++ks.map fun k=>.one (.box k 0)) Z
 | _,_=>False
theorem Zl4 {dst:Option Nat} {t:Nat} {xs:Array Operand} {ts:Array TypeId} {ty:TypeId} {pos:String} {af:Array Edge} {gd:Option (Nat×Bool)} {Z:Eff->Prop} (hx:ZxO P O dst Z (O.tm.lookup t) (Xs O xs.toList)):
  HBy P O { dst:=dst,op:=.call { callee:=.value (.tmp t),args:=xs,argTypes:=ts},type:=ty,pos:=pos,after:=af,guard:=gd} Z:=by
 unfold ZxO at hx
 split at hx
 ·rename_i f ks vs ht hvs;obtain ⟨g,⟨hok,h1,h2⟩,hZ⟩:=hx;refine ⟨g,⟨.inl rfl,fun p hp=>h1 p hp,fun O' k fr N w0 e a w h=>.inr ?_⟩,hZ⟩;have hc:=h.tm t _ (k.tm t _ ht);obtain ⟨hc1,hc2⟩:=hc;obtain ⟨hl,hr⟩:=ZfQ h (k.Xs hvs);refine ⟨f,(xs.toList.map a.eval++ks.map fun k=>Value.pointer (some ⟨e.β k,0,none⟩)).toArray, ?_, ?_⟩
  ·unfold X0 at hok
   split at hok
   ·rename_i fn hfn;simp only [ZAd,bne_iff_ne,ne_eq] at hok;obtain ⟨c,hb⟩:∃c,fn.body=some c:=Option.isSome_iff_exists.1 hok.2;have hv:a.eval (.tmp t)= .func (.func f) #[] (ks.map fun k=>Value.pointer (some ⟨e.β k,0,none⟩)).toArray:=hc2;have hargs:(xs.toList.map a.eval++ks.map fun k=>Value.pointer (some ⟨e.β k,0,none⟩)).toArray=xs.map a.eval++(ks.map fun k=>Value.pointer (some ⟨e.β k,0,none⟩)).toArray:=by rw [<-Array.toList_inj];simp
    rw [hargs];simp [execOp,resolve,hv,Deferred.ofValue,invoke,callFunc,hfn,hok.1,hb]
   ·cases hok
  ·refine (h2 O' ⟨k.nt,k.bx,k.ar,fr.bx,fr.ar⟩ N w0 e a w _ h (by simp [hl]) fun j v hj=> ?_)
   by_cases hlt:j<vs.length
   ·rw [List.getElem?_append_left hlt] at hj;have hq:(xs.toList.map a.eval)[j]? =some ((xs.toList.map a.eval)[j]'(by rw [List.length_map];omega)):=ZAg _;exact ⟨_,by rw [List.getElem?_append_left (by rw [List.length_map];omega)];exact hq,hr j v _ hj hq⟩
   ·rw [List.getElem?_append_right (by omega)] at hj;rw [List.getElem?_map] at hj;obtain ⟨k0,hk0,rfl⟩:=Option.map_eq_some_iff.1 hj;refine ⟨.pointer (some ⟨e.β k0,0,none⟩), ?_,hc1 k0 (List.mem_of_getElem? hk0),rfl⟩;rw [List.getElem?_append_right (by rw [List.length_map];omega),List.getElem?_map,List.length_map,<-hl,hk0]
    rfl
 ·exact hx.elim
def Ze8:List (Int×Bool)->Int->Option Bool
 | [],_=>none
 | p::M,n=>if n=p.1 then some p.2 else Ze8 M n
def Zg9:List (Int×Bool)->Int->Bool->List (Int×Bool)
 | [],n,b=>[(n,b)]
 | p::M,n,b=>if n=p.1 then (n,b)::M else p::Zg9 M n b
theorem Zkn {n:Int}:∀{M:List (Int×Bool)} {l:List MapEntry} (i:Nat),l.map (fun m=>(m.key,m.val))=M.map (fun p=>(Value.int .i64 p.1,Value.bool p.2))->
  (∃b j,Ze8 M n=some b/\Instr.findNow (.int .i64) (.int .i64 n) l i=some (some (i+j,.bool b))/\(∃x,l[j]? =some x/\x.key= .int .i64 n)/\
   ∀b' (y:MapEntry->MapEntry),(∀x,(y x).key= .int .i64 n/\(y x).val= .bool b')->(l.modify j y).map (fun m=>(m.key,m.val))=(Zg9 M n b').map (fun p=>(Value.int .i64 p.1,Value.bool p.2)))\/
  (Ze8 M n=none/\Instr.findNow (.int .i64) (.int .i64 n) l i=some none/\∀b',Zg9 M n b'=M++[(n,b')])
 | [],[],i,_=>.inr ⟨rfl,rfl,fun _=>rfl⟩
 | [],_::_,_,h=>by simp at h
 | _::_,[],_,h=>by simp at h
 | p::M,x::l,i,h=>by
  simp only [List.map_cons,List.cons.injEq,ZAc] at h;obtain ⟨⟨h1,h2⟩,h3⟩:=h
  by_cases hn:n=p.1
  ·subst hn;refine .inl ⟨p.2,0,by simp [Ze8],by simp [Instr.findNow,Instr.sameNow,h1,h2],⟨x,rfl,h1⟩,fun b' y hy=> ?_⟩;simp [Zg9,(hy x).1,(hy x).2,h3]
  ·have hs:Instr.sameNow (.int .i64) (.int .i64 n) x.key=some false:=by simp [Instr.sameNow,h1,hn]
   rcases Zkn (n:=n) (i+1) h3 with ⟨b,j,g1,g2,⟨y,g3,g4⟩,g5⟩| ⟨g1,g2,g3⟩
   ·refine .inl ⟨b,j+1,by simp [Ze8,hn,g1], ?_,⟨y,by simpa using g3,g4⟩,fun b' y hy=> ?_⟩
    ·simp only [Instr.findNow,hs,g2];congr 3;omega
    ·simp [Zg9,hn,h1,h2,g5 b' y hy]
   ·exact .inr ⟨by simp [Ze8,hn,g1],by simp [Instr.findNow,hs,g2],fun b'=>by simp [Zg9,hn,g3 b']⟩
theorem ZnQ {t:Nat} {x:TI} {z:Value} (h:mti P t=some (x,z)):∃k v,P.underlying t=some (.map k v)/\ti P k=some x/\∀w,(zeroValue v).run P w= .ok z w:=by
 unfold mti at h
 split at h
 ·rename_i k v hu
  split at h
  ·rename_i x' i hx hi;obtain ⟨z',h1,h2⟩:=Option.map_eq_some_iff.1 h;obtain ⟨rfl,rfl⟩:=Prod.mk.inj h2;exact ⟨k,v,hu,hx,fun w=>by simp [zeroValue,typeInfo,hi,h1]⟩
  ·cases h
 ·cases h
theorem ZpB {t:Nat} {k:IntKind} {a b:Nat} {z:List Value} (h:ti P t=some ⟨.int k,a,b,z⟩):P.underlying t=some (.int k):=by
 obtain ⟨j,d,z',h1,h2,h3,h4,_⟩:=WU h;cases d<;>simp [Zq7] at h4;rw [h4] at h2;exact h2
theorem ZkO.mc {M:List (Int×Bool)} {o:Option Obj} (h:ZkO e O w [.mc (.ib M)] o):∃es n,o=Option.some (.map es n)/\es.toList.map (fun m=>(m.key,m.val))=M.map (fun p=>(Value.int .i64 p.1,Value.bool p.2))/\∀p∈M,InK .i64 p.1:=by
 rcases h with ⟨cur,ty,_,h⟩| ⟨md,es,n,h0,h1,h2,h3⟩
 ·simp only [Z6] at h;obtain ⟨_,_,_,h,_⟩:=h;exact h.elim
 ·obtain ⟨h0,_⟩:=List.cons.inj h0;obtain rfl:=CV.mc.inj h0;refine ⟨es,n,h1,by rw [h2];simp [MD.es,Zwr,Zha,Function.comp_def],fun p hp=> ?_⟩;exact (h3 (.one (.int .i64 p.1),.one (.bool p.2)) (List.mem_map.2 ⟨p,hp,rfl⟩)).1
def Zqa (d:Nat) (ok:Bool) (r:Option Bool):Eff:= ⟨True,[(d,if ok then .tup [(false,[.l (.bool (r.getD false))]),(false,[.l (.bool r.isSome)])] else .one (.l (.bool (r.getD false))))],[],[]⟩
def ZrB (O:St) (d:Nat) (ok:Bool) (Z:Eff->Prop) (n:Int):Option (List CV)->Prop
 | some [.mc (.ib M)]=>d<O.nt/\Z (Zqa d ok (Ze8 M n))
 | _=>False
def ZtD (O:St) (d:Nat) (ok:Bool) (Z:Eff->Prop):Option (TI×Value)->Option V->Option V->Prop
 | some (⟨.int .i64,_,_,_⟩,.bool false),some (.one (.mp k)),some (.one (.l (.int .i64 n)))=>ZrB O d ok Z n (O.bx.lookup k)
 | _,_,_=>False
theorem Zna {d t:Nat} {m x:Operand} {ok:Bool} {ty:TypeId} {pos:String} {af:Array Edge} {gd:Option (Nat×Bool)} {Z:Eff->Prop} (hx:ZtD O d ok Z (mti P t) (opd O m) (opd O x)):
  HBy P O { dst:=some d,op:=.lookup t m x ok,type:=ty,pos:=pos,after:=af,guard:=gd} Z:=by
 unfold ZtD at hx
 split at hx
 ·rename_i i1 i2 i3 k n hm hmp hk;unfold ZrB at hx
  split at hx
  ·rename_i M hb;obtain ⟨kt,et,q1,q2,q3⟩:=ZnQ hm;have q4:=ZpB q2;refine ⟨_,⟨.inl rfl,by simp [Zqa],fun O' kk fr N w0 e a w h=>.inl ?_⟩,hx.2⟩;obtain ⟨_,hc⟩:=h.bx k _ (kk.bx k _ hb);obtain ⟨es,cl,g1,g2,g3⟩:=hc.mc;obtain ⟨_,hv⟩:=Zv h (kk.opd hmp);obtain ⟨F,hkv,_⟩:=Zv h (kk.opd hk);simp only [Rp] at hkv;have hz:=q3 w;have hck:=MapKept.run_checkKey (P:=P) (w:=w) (k:=.int .i64 n) q4 rfl es.isEmpty 9999;have ho:=MapKept.run_getObj_map (P:=P) g1;rcases Zkn (n:=n) 0 g2 with ⟨b,j,r1,r2,_,_⟩| ⟨r1,r2,_⟩
   ·have hf:=MapKept.run_findKey (P:=P) (w:=w) q4 r2;cases ok
    ·refine ⟨w,e,.inl ⟨.bool b,by simp [execOp,Instr.lookup,hv,hkv.1,run_underlying q1,ho,hck,hf,Result.andThen,Sem.run_bind], ?_⟩⟩;rw [r1];exact h.put (x:=.one (.l (.bool b))) (kk.nt▸hx.1) ⟨[],by simp [Rp],by simp⟩
    ·refine ⟨w,e,.inl ⟨.tuple #[.bool b,.bool true],by simp [execOp,Instr.lookup,hv,hkv.1,run_underlying q1,ho,hck,hf,Result.andThen,Sem.run_bind], ?_⟩⟩;rw [r1];refine h.put (x:=.tup [(false,[.l (.bool b)]),(false,[.l (.bool true)])]) (kk.nt▸hx.1) ⟨_,rfl, ?_⟩;simp only [Yo,ZmD];exact ⟨_,_,rfl,⟨_,rfl,[],by simp [Rp],by simp⟩,_,_,rfl,⟨_,rfl,[],by simp [Rp],by simp⟩,rfl⟩
   ·have hf:=MapKept.run_findKey (P:=P) (w:=w) q4 r2;cases ok
    ·refine ⟨w,e,.inl ⟨.bool false,by simp [execOp,Instr.lookup,hv,hkv.1,run_underlying q1,ho,hck,hf,hz,Result.andThen,Sem.run_bind], ?_⟩⟩;rw [r1];exact h.put (x:=.one (.l (.bool false))) (kk.nt▸hx.1) ⟨[],by simp [Rp],by simp⟩
    ·refine ⟨w,e,.inl ⟨.tuple #[.bool false,.bool false],by simp [execOp,Instr.lookup,hv,hkv.1,run_underlying q1,ho,hck,hf,hz,Result.andThen,Sem.run_bind], ?_⟩⟩;rw [r1];refine h.put (x:=.tup [(false,[.l (.bool false)]),(false,[.l (.bool false)])]) (kk.nt▸hx.1) ⟨_,rfl, ?_⟩;simp only [Yo,ZmD];exact ⟨_,_,rfl,⟨_,rfl,[],by simp [Rp],by simp⟩,_,_,rfl,⟨_,rfl,[],by simp [Rp],by simp⟩,rfl⟩
  ·exact hx.elim
 ·exact hx.elim
def Ztx (O:St) (d:Nat) (Z:Eff->Prop):Option (List CV)->Prop
 | none=>d<O.nt/\Z ⟨True,[(d,.one (.mp d))],[(d,[.mc (.ib [])])],[]⟩
 | some _=>False
theorem Zm9 {d t:Nat} {ty:TypeId} {pos:String} {af:Array Edge} {gd:Option (Nat×Bool)} {Z:Eff->Prop} (hx:Ztx O d Z (O.bx.lookup d)):
  HBy P O { dst:=some d,op:=.makeMap t none,type:=ty,pos:=pos,after:=af,guard:=gd} Z:=by
 unfold Ztx at hx
 split at hx
 ·rename_i hn;refine ⟨_,⟨.inl rfl,by simp,fun O' kk fr N w0 e a w h=>.inl ?_⟩,hx.2⟩;have hn':O'.bx.lookup d=none:=fr.bx (d,[.mc (.ib [])]) (by simp) hn;refine ⟨_,{ e with β:=fun k=>if k=d then w.heap.size else e.β k},.inl ⟨.map (some w.heap.size),by simp [execOp,Instr.makeMap,newObj,Result.andThen,Sem.run_bind];rfl, ?_⟩⟩;exact h.newObj (cs:=[.mc (.ib [])]) (c:=.mp d) (kk.nt▸hx.1) hn' (.inr ⟨.ib [], #[],0,rfl,rfl,rfl,by simp [MD.es]⟩) ⟨⟨[.mc (.ib [])],by simp⟩,by simp⟩
 ·exact hx.elim
def Zwc (O:St) (k:Nat) (Z:Eff->Prop) (n:Int) (b:Bool):Option (List CV)->Prop
 | some [.mc (.ib M)]=>Z ⟨True,[],[(k,[.mc (.ib (Zg9 M n b))])],[]⟩
 | _=>False
def ZwG (O:St) (Z:Eff->Prop):Option (TI×Value)->Option V->Option V->Option V->Prop
 | some (⟨.int .i64,_,_,_⟩,_),some (.one (.mp k)),some (.one (.l (.int .i64 n))),some (.one (.l (.bool b)))=>Zwc O k Z n b (O.bx.lookup k)
 | _,_,_,_=>False
def nfK (O:St) (d:Nat) (op:BinOp) (Z:Eff->Prop):Option TI->Option V->Prop
 | some ⟨.fn,_,_,_⟩,some (.one c)=>d<O.nt/\match op,c with
  | .eql,.clo _ _=>Z ⟨True,[(d,.one (.l (.bool false)))],[],[]⟩
  | .neq,.clo _ _=>Z ⟨True,[(d,.one (.l (.bool true)))],[],[]⟩
  | .eql,.nf=>Z ⟨True,[(d,.one (.l (.bool true)))],[],[]⟩
  | .neq,.nf=>Z ⟨True,[(d,.one (.l (.bool false)))],[],[]⟩
  | _,_=>False
 | _,_=>False
theorem ZuN {t:Nat} {a b:Nat} {z:List Value} (h:ti P t=some ⟨.fn,a,b,z⟩):∃p r v,P.underlying t=some (.func p r v):=by
 obtain ⟨j,d,z',h1,h2,h3,h4,_⟩:=WU h;cases d<;>simp [Zq7] at h4;exact ⟨_,_,_,h2⟩
theorem ZvI {t:Nat} {p r:Array TypeId} {vv:Bool} (hu:P.underlying t=some (.func p r vv)) (fn:Fn) (a b:Array Value) (w:World):(Op.equal t (.func fn a b) .nilFunc).run P w= .ok false w:=by
 unfold Op.equal Op.maxDepth;rw [show (10000:Nat)=9999+1 from rfl,Op.equalIn,Sem.run_bind,run_underlying hu]
 rfl
theorem ZvH {t:Nat} {p r:Array TypeId} {vv:Bool} (hu:P.underlying t=some (.func p r vv)) (w:World):(Op.equal t .nilFunc .nilFunc).run P w= .ok true w:=by
 unfold Op.equal Op.maxDepth;rw [show (10000:Nat)=9999+1 from rfl,Op.equalIn,Sem.run_bind,run_underlying hu]
 rfl
theorem Zud {d t:Nat} {op:BinOp} {x:Operand} {yt:TypeId} {ty:TypeId} {pos:String} {af:Array Edge} {gd:Option (Nat×Bool)} {Z:Eff->Prop} (hx:nfK O d op Z (ti P t) (opd O x)):
  HBy P O { dst:=some d,op:=.binOp op t x (.const .nilFunc) yt,type:=ty,pos:=pos,after:=af,guard:=gd} Z:=by
 unfold nfK at hx
 split at hx
 ·rename_i c ht hc;obtain ⟨hd,hx⟩:=hx;obtain ⟨p,r,vv,hu⟩:=ZuN ht
  have fin:∀b:Bool,(∀(e:Env) (O':St) (w:World) (u:Value),c.rel e O' w u->(binOp op t u .nilFunc).run P w= .ok (.bool b) w)->Z ⟨True,[(d,.one (.l (.bool b)))],[],[]⟩->
    HBy P O { dst:=some d,op:=.binOp op t x (.const .nilFunc) yt,type:=ty,pos:=pos,after:=af,guard:=gd} Z:=fun b hb hZ=>by
   refine ⟨⟨True,[(d,.one (.l (.bool b)))],[],[]⟩,⟨.inl rfl,by simp,fun O' kk fr N w0 e a w h=>.inl ⟨w,e,.inl ⟨.bool b, ?_,h.put (d:=d) (x:=.one (.l (.bool b))) (kk.nt▸hd) ⟨[],by simp [Rp],by simp⟩⟩⟩⟩,hZ⟩;have h1:=hb e O' w _ (Zv h (kk.opd hc))
   have hg:(eqGuard op t x (.const .nilFunc) (a.eval x) .nilFunc).run P w= .ok () w:=by
    unfold eqGuard;generalize a.eval x=u;cases op<;>first | rfl| (cases u<;>rfl)
   have h0:a.eval (.const .nilFunc)= .nilFunc:=rfl;simp [execOp,h0,Sem.run_bind,hg,h1,Result.andThen]
  revert hx
  split<;>intro hx
  ·refine fin false (fun e O' w u hr=> ?_) hx;obtain ⟨_,rfl⟩:=hr;show (Sem.run P (do pure (Value.bool (<-Op.equal t _ _))) w)=_;rw [Sem.run_bind,ZvI hu];rfl
  ·refine fin true (fun e O' w u hr=> ?_) hx;obtain ⟨_,rfl⟩:=hr;show (Sem.run P (do pure (Value.bool (!(<-Op.equal t _ _)))) w)=_;rw [Sem.run_bind,ZvI hu];rfl
  ·refine fin true (fun e O' w u hr=> ?_) hx;obtain rfl:=hr;show (Sem.run P (do pure (Value.bool (<-Op.equal t _ _))) w)=_;rw [Sem.run_bind,ZvH hu];rfl
  ·refine fin false (fun e O' w u hr=> ?_) hx;obtain rfl:=hr;show (Sem.run P (do pure (Value.bool (!(<-Op.equal t _ _)))) w)=_;rw [Sem.run_bind,ZvH hu];rfl
  ·exact hx.elim
 ·exact hx.elim
theorem ZqQ {t:Nat} {m x v:Operand} {ty:TypeId} {pos:String} {af:Array Edge} {gd:Option (Nat×Bool)} {Z:Eff->Prop} (hx:ZwG O Z (mti P t) (opd O m) (opd O x) (opd O v)):
  HBy P O { dst:=none,op:=.mapUpdate t m x v,type:=ty,pos:=pos,after:=af,guard:=gd} Z:=by
 unfold ZwG at hx
 split at hx
 ·rename_i i1 i2 i3 z k n b hm hmp hk hv;unfold Zwc at hx
  split at hx
  ·rename_i M hb;obtain ⟨kt,et,q1,q2,_⟩:=ZnQ hm;have q4:=ZpB q2;refine ⟨_,⟨.inl rfl,by simp,fun O' kk fr N w0 e a w h=>.inl ?_⟩,hx⟩;obtain ⟨_,hc⟩:=h.bx k _ (kk.bx k _ hb);obtain ⟨es,cl,g1,g2,g3⟩:=hc.mc;obtain ⟨_,hmv⟩:=Zv h (kk.opd hmp);obtain ⟨F,hkv,_⟩:=Zv h (kk.opd hk);obtain ⟨F',hbv,_⟩:=Zv h (kk.opd hv);simp only [Rp] at hkv hbv;have hck:=MapKept.run_checkKey (P:=P) (w:=w) (k:=.int .i64 n) q4 rfl false 9999;have ho:=MapKept.run_getObj_map (P:=P) g1;have hst:∀o,(Go.setObj (e.β k) o).run P w= .ok () { w with heap:=w.heap.setIfInBounds (e.β k) o}:=fun o=>MapKept.run_setObj_map (P:=P) o g1
   have okn:∀p∈Zg9 M n b,InK .i64 p.1:=fun p hp=>by
    have key:∀{M:List (Int×Bool)},(∀p∈M,InK .i64 p.1)->∀p∈Zg9 M n b,InK .i64 p.1:=fun {M}=>by
     induction M with
     | nil=>intro _ p hp;simp [Zg9] at hp;rw [hp];exact hkv.2.2
     | cons q M ih=>
      intro hM p hp;simp only [Zg9] at hp
      split at hp
      ·rcases List.mem_cons.1 hp with rfl| hp
       ·exact hkv.2.2
       ·exact hM p (List.mem_cons_of_mem _ hp)
      ·rcases List.mem_cons.1 hp with rfl| hp
       ·exact hM _ (List.mem_cons_self ..)
       ·exact ih (fun x hx=>hM x (List.mem_cons_of_mem _ hx)) p hp
    exact key g3 p hp
   have cont:∀(es':Array MapEntry) (n':Nat),es'.toList.map (fun m=>(m.key,m.val))=(Zg9 M n b).map (fun p=>(Value.int .i64 p.1,Value.bool p.2))->ZkO e O' w [.mc (.ib (Zg9 M n b))] (some (.map es' n')):=fun es' n' h1=>
    .inr ⟨.ib (Zg9 M n b),es',n',rfl,rfl,by rw [h1];simp [MD.es,Zwr,Zha,Function.comp_def],fun p hp=>by
     obtain ⟨q,hq,rfl⟩:=List.mem_map.1 hp;exact ⟨okn q hq,trivial⟩⟩
   rcases Zkn (n:=n) 0 g2 with ⟨b0,j,r1,r2,⟨x0,r3,r4⟩,r5⟩| ⟨r1,r2,r5⟩
   ·have hf:=MapKept.run_findKey (P:=P) (w:=w) q4 r2;have hj:es[j]? =some x0:=by simpa using r3
    have hks:(Instr.keyThatStays (.int .i64 n) (.int .i64 n)).run P w= .ok (.int .i64 n) w:=MapKept.run_keyThatStays (d:=.int .i64) rfl;refine ⟨_,e,.inr ⟨by simp [execOp,Instr.mapUpdate,hmv,hkv.1,hbv.1,run_underlying q1,ho,hck,hf,hj,r4,hks,hst,Result.andThen,Sem.run_bind];rfl,h.setObj (kk.bx k _ hb) (cont _ _ ?_)⟩⟩;rw [Array.toList_modify];exact r5 b _ fun x=>⟨rfl,rfl⟩
   ·have hf:=MapKept.run_findKey (P:=P) (w:=w) q4 r2;refine ⟨_,e,.inr ⟨by simp [execOp,Instr.mapUpdate,hmv,hkv.1,hbv.1,run_underlying q1,ho,hck,hf,hst,Result.andThen,Sem.run_bind];rfl,h.setObj (kk.bx k _ hb) (cont _ _ ?_)⟩⟩;simp [r5,g2]
  ·exact hx.elim
 ·exact hx.elim
end
open Go.RowKit
def Zur:List L->Value
 | [x]=>Zha x
 | _=>undef
def Za7 (es:List (List L)):List Value:=es.map Zur
def ZyR (P:Program) (f:Nat) (us us':List Value):Prop:=X0 P f=true/\us'.length=us.length/\∀(w:World) (p:Option Addr) (c:Nat),
 (us=[]->Calls P f #[.slice p 0 c] w fun ex w'=>ex= .returned (.tuple #[])/\w'=w)/\
 ∀b cur t,p=some ⟨b,0,none⟩->w.heap[b]? =some (.cells cur t (0,0))->us.length<=cur.size->cur.toList.take us.length=us->
  Calls P f #[.slice p us.length c] w fun ex w'=>ex= .returned (.tuple #[])/\w.grownBy w' (some b)/\∃cur':Array Value,w'.heap[b]? =some (.cells cur' t (0,0))/\cur'.size=cur.size/\cur'.toList.take us.length=us'
section
variable {e:Env} {O:St} {w w':World} {N:Nat->Prop} {w0:Bs} {a:Act} {P:Program} {ops:Array Oper}
theorem Ztm {M:Nat->Prop} {x:List L} {v:List Value} {F:List Nat} (h:RpL w x v F) (hf:Zil x=true) (hl:x.length=1):v=[Zur x]/\∀w',OwL M w' x v []:=by
 match x,hl with
 | [y],_=>
  simp only [RpL] at h;obtain ⟨u,_,G1,_,rfl,rfl,k3,rfl,rfl⟩:=h;have hy:y.flat=true:=by simpa [Zil] using hf
  have hu:u=Zha y:=by
   cases y<;>simp only [Rp,L.flat] at k3 hy
   ·exact k3.1
   ·exact k3.1
   ·exact k3.1
   ·cases hy
   ·cases hy
  refine ⟨by rw [hu];rfl,fun w'=> ?_⟩;simp only [OwL];refine ⟨u,[],[],[],rfl,rfl, ?_,rfl,rfl⟩;cases y<;>simp only [Rp,Ow,L.flat] at k3 hy ⊢
  ·exact ⟨k3.1,trivial,k3.2.2⟩
  ·exact ⟨k3.1,trivial⟩
  ·exact ⟨k3.1,trivial,k3.2.2⟩
  ·cases hy
  ·cases hy
theorem Zpu {M:Nat->Prop}:∀{es:List (List L)} {vs:List Value} {F:List Nat},RpE w es vs F->VI es=true->(∀e∈es,e.length=1)->vs=Za7 es/\∀x∈es,∀w',OwL M w' x [Zur x] []
 | [],vs,F,h,_,_=>by simp only [RpE] at h;simp [h.1,Za7]
 | e::es,vs,F,h,hf,h1=>by
  simp only [RpE] at h;obtain ⟨v1,v2,F1,F2,rfl,rfl,k1,k2⟩:=h;simp only [VI,List.all_cons,ZAd] at hf;obtain ⟨g1,g2⟩:=Ztm (M:=M) k1 hf.1 (h1 e (by simp));obtain ⟨g3,g4⟩:=Zpu (M:=M) k2 hf.2 fun e he=>h1 e (by simp [he]);refine ⟨by rw [g1,g3];rfl,fun x hx w'=> ?_⟩;rcases List.mem_cons.1 hx with rfl| hx
  ·exact g1▸g2 w'
  ·exact g4 x hx w'
theorem Zp3 {M:Nat->Prop}:∀{es:List (List L)},(∀x∈es,OwL M w x [Zur x] [])->OwE M w es (Za7 es) []
 | [],_=>by simp [OwE,Za7]
 | x::es,h=>by
  simp only [OwE];exact ⟨_,Za7 es,[],[],rfl,rfl,h x (by simp),Zp3 fun y hy=>h y (by simp [hy])⟩
def tmT (dst:Option Nat):List (Nat×V):=match dst with | some d=>[(d,.tup [])]| none=>[]
theorem ZkN.sort {f:Nat} {dst:Option Nat} {τ n:Nat} {A:Arr} {es':List (List L)} (hA:O.ar.lookup τ=some (some A)) (hn:A.es.length=n) (hd:∀d,dst=some d->d<O.nt) (hτ:τ<1000000) (hf:VI A.es=true) (h1:∀e∈A.es,e.length=1) (hm:∀x∈es',x∈A.es)
  (c:ZyR P f (Za7 A.es) (Za7 es')):ZkN P O dst f [.one (.own τ n)] ⟨True,tmT dst,[],[(τ,some ⟨A.fr,es'⟩)]⟩:=by
 obtain ⟨hok,hlen,hc⟩:=c;have hl:es'.length=A.es.length:=by simpa [Za7] using hlen
 refine ⟨hok,fun p hp=>by unfold tmT at hp;split at hp<;>simp at hp;rw [hp],fun O' k N w0 e a w us h hus hv=> ?_⟩;have hA':=k.ar τ _ hA;obtain ⟨u,hu,B,hB,q1,q2⟩:=hv 0 _ rfl;rw [hA'] at hB;obtain rfl:=Zz9 hB;have hue:=(q1 A rfl).2 hn;subst hue
 obtain rfl:us=[e.ρ τ]:=by
  match us,hus,hu with
  | [x],_,hu=>simpa using hu
 have hok0:=h.ar τ A hA'
 have fin:∀(w':World) (row:Option Nat),w.grownBy w' row->(∀b,row=some b->(e.ρ τ).ownBlock=some b)->VJ N (Mut (Zd7 e τ (e.ρ τ) (e.φ τ)) (stA O' (tmT dst++O'.tm) τ ⟨A.fr,es'⟩ [])) w' ⟨A.fr,es'⟩ (e.ρ τ) (e.φ τ)->
   Zz N w0 (Zd7 e τ (e.ρ τ) (e.φ τ)) (O'.app ⟨True,tmT dst,[],[(τ,some ⟨A.fr,es'⟩)]⟩) (a.put dst (.tuple #[])) w':=fun w' row hg hr hok=>by
  refine h.ZnG (τs:=[]) (tm:=tmT dst++O'.tm) hτ (by simp) (by simp) hg (fun b hb=>⟨A,hA',hr b hb⟩) (fun C hC=>by rw [hA'] at hC;obtain rfl:=Zz9 hC;exact ⟨A,rfl,by simp [hl],fun _=>rfl⟩) (fun b hb=>.inl ⟨A,hA',hb⟩) (fun b hb=>.inl ⟨A,hA',hb⟩) hok (by rw [Z8];exact h.nt) (by rw [ZP];exact h.df) fun u t x ht=> ?_;cases dst with
  | none=>exact .inl ⟨ht,rfl⟩
  | some d=>
   refine Kp (x:=.tup []) (by rw [h.nt,k.nt];exact hd d rfl) ⟨[],rfl, ?_⟩ t x ht;simp [Yo]
 obtain ⟨p,cc,hv,hcc,g0⟩:=hok0;rcases g0 with ⟨g1,g2,g3,g4⟩| ⟨b,t,cur,Fs,W,g1,g2,g3,g4,g5,g6,g7,g8⟩
 ·have he':es'=[]:=List.eq_nil_of_length_eq_zero (by rw [hl,g1];rfl);have hn0:n=0:=by rw [<-hn,g1];rfl
  rw [hv,g1];refine ((hc w p cc).1 (by rw [g1];rfl)).mono fun ex w' hR=> ?_;obtain ⟨rfl,hw⟩:=hR;have hw:=hw.symm;subst hw;refine ⟨_,_,rfl,fin w none ⟨rfl,rfl,rfl,ZAe _,fun _ _ _=>rfl⟩ (fun _ h=>by cases h) ⟨p,cc,by rw [hv,he',g1],hcc,.inl ⟨he',g2,g3,g4⟩⟩⟩
 ·have hW:A.es≠[]->W=1:=fun hne=>by
   obtain ⟨x,l,hx⟩:=List.exists_cons_of_ne_nil hne;have:=g6 x (by rw [hx];simp);rw [<-this];exact h1 x (by rw [hx];simp)
  by_cases hne:A.es=[]
  ·have he':es'=[]:=List.eq_nil_of_length_eq_zero (by rw [hl,hne];rfl);rw [hv,hne];refine ((hc w p cc).1 (by rw [hne];rfl)).mono fun ex w' hR=> ?_;obtain ⟨rfl,hw⟩:=hR;have hw:=hw.symm;subst hw;have hh:=fin w none ⟨rfl,rfl,rfl,ZAe _,fun _ _ _=>rfl⟩ (fun _ h=>by cases h) ⟨p,cc,by rw [hv,he',hne],hcc,.inr ⟨b,t,cur,Fs,W,g1,g2,g3,by rw [he'];simp,g5,by rw [he'];simp,fun _=>g7 hne, ?_⟩⟩
   ·exact ⟨_,_,rfl,hh⟩
   ·rcases g8 with ⟨m1,m2,m3,m4⟩| ⟨m1,m2,m3,m4⟩
    ·refine .inl ⟨m1,m2,m3, ?_⟩;rw [hne] at m4;rw [he'];exact m4
    ·refine .inr ⟨m1,m2, ?_,fun x hx hmm=> ?_⟩
     ·rw [hne] at m3;rw [he'];exact m3
     ·have:Fs=[]:=by rw [hne] at m3;simp only [List.length_nil,Nat.zero_mul,List.take_zero,RpE] at m3;exact m3.2
      rw [this] at hx;cases hx
  ·obtain rfl:=hW hne;subst g1
   have hrp:∃Fs',RpE w A.es (cur.toList.take (A.es.length*1)) Fs':=by
    rcases g8 with ⟨_,_,_,m4⟩| ⟨_,_,m3,_⟩
    ·exact ⟨_,m4.rp⟩
    ·exact ⟨_,m3⟩
   obtain ⟨Fs',hrp⟩:=hrp;obtain ⟨v1,v2⟩:=Zpu (M:=N) hrp hf h1;rw [Nat.mul_one] at v1;have hvl:(Za7 A.es).length=A.es.length:=by simp [Za7]
   have hcall:=(hc w (some ⟨b,0,none⟩) cc).2 b cur t rfl g3 (by rw [hvl,g5,Nat.mul_one];exact g4) (by rw [hvl];exact v1);rw [hvl] at hcall;rw [hv];refine hcall.mono fun ex w' hR=> ?_;obtain ⟨rfl,r1,cur',r2,r3,r4⟩:=hR
   have hFs:Fs=[]:=by
    rcases g8 with ⟨_,_,_,m4⟩| ⟨_,_,m3,_⟩
    ·exact (m4.rp.flat (N:=N) hf).1
    ·exact (m3.flat (N:=N) hf).1
   subst hFs
   have how:OwE N w' es' (cur'.toList.take (es'.length*1)) []:=by
    rw [Nat.mul_one,hl,r4];exact Zp3 fun x hx=>v2 x (hm x hx) w'
   refine ⟨_,_,rfl,fin w' (some b) r1 (fun b' hb'=>by rw [hv];obtain rfl:=Zz9 hb';rfl) ⟨_,cc,by rw [hv,hl],hcc,.inr ⟨b,t,cur',[],1,rfl,g2,r2,by rw [hl];exact g4,by rw [r3];exact g5,fun x hx=>h1 x (hm x hx),fun h0=>absurd (List.eq_nil_of_length_eq_zero (by rw [<-hl];exact congrArg List.length h0)) hne, ?_⟩⟩⟩;rcases g8 with ⟨m1,m2,m3,m4⟩| ⟨m1,m2,m3,m4⟩
   ·exact .inl ⟨m1,m2,m3,how⟩
   ·exact .inr ⟨m1,m2,how.rp,by simp⟩
def Zwg (O:St) (dst:Option Nat) (es':List (List L)) (Z:Eff->Prop) (es:List (List L)) (τ n:Nat):Option (Option Arr)->Prop
 | some (some A)=>A.es=es/\es.length=n/\dO O.nt dst/\τ<1000000/\Z ⟨True,tmT dst,[],[(τ,some ⟨A.fr,es'⟩)]⟩
 | _=>False
def Zwf (O:St) (dst:Option Nat) (es':List (List L)) (Z:Eff->Prop) (es:List (List L)):List V->Prop
 | [.one (.own τ n)]=>Zwg O dst es' Z es τ n (O.ar.lookup τ)
 | _=>False
def SS (P:Program) (f:Nat) (es es':List (List L)):Prop:=ZyR P f (Za7 es) (Za7 es')/\VI es=true/\(∀e∈es,e.length=1)/\∀x∈es',x∈es
theorem Zuc {f:Nat} {dst:Option Nat} {vs:List V} {es es':List (List L)} {Z:Eff->Prop} (c:SS P f es es') (hx:Zwf O dst es' Z es vs):XBy P O dst f (some vs) Z:=by
 unfold Zwf at hx
 split at hx
 ·rename_i τ n;unfold Zwg at hx
  split at hx
  ·rename_i A hA;obtain ⟨rfl,k1,k2,k3,k4⟩:=hx;exact ⟨_,_,rfl,.hand _ (ZkN.sort hA k1 (fun d hd=>by subst hd;exact k2) k3 c.2.1 c.2.2.1 c.2.2.2 c.1),k4⟩
  ·exact hx.elim
 ·exact hx.elim
end
end Go.Proofs.YtpblakfidofgfaaGreatDoor.Am
namespace Go.Proofs.YtpblakfidofgfaaGreatDoor
open Go.RowKit Am
def toL (s:ByteArray):List UInt8:=s.data.toList
def ofL (l:List UInt8):ByteArray:=⟨l.toArray⟩
theorem ZmH (s:ByteArray):ofL (toL s)=s:=by simp [ofL,toL]
theorem Zmp (l:List UInt8):toL (ofL l)=l:=by simp [ofL,toL]
def Zlo (xs:List ByteArray):List ByteArray:=((xs.map toL).mergeSort (fun x y=>decide (x<=y))).map ofL
def Zmu (xs:List Int):List Int:=xs.mergeSort (fun x y=>decide (x<=y))
def QN (xs:List ByteArray):Option (List ByteArray):=if xs.length<4611686018427387904 then some (Zlo xs) else none
def WT (xs:List Int):Option (List Int):=if xs.length<4611686018427387904 then some (Zmu xs) else none
theorem ZcF (xs:List ByteArray):(Zlo xs).Perm xs:=by
 have h:=(List.mergeSort_perm (xs.map toL) (fun x y=>decide (x<=y))).map ofL;rw [List.map_map] at h;have:(ofL∘toL)=id:=funext fun s=>ZmH s;rw [this,List.map_id] at h;exact h
theorem UY (xs:List Int):(Zmu xs).Perm xs:=List.mergeSort_perm _ _
theorem Ke {xs v:List ByteArray} (h:QN xs=some v):v=Zlo xs:=by
 unfold QN at h
 split at h
 ·exact (Zz9 h).symm
 ·cases h
theorem Zc3 {xs v:List Int} (h:WT xs=some v):v=Zmu xs:=by
 unfold WT at h
 split at h
 ·exact (Zz9 h).symm
 ·cases h
theorem JO {xs v:List ByteArray} (h:QN xs=some v):v.length=xs.length:=by
 rw [Ke h];exact (ZcF xs).length_eq
theorem Zbc {xs v:List Int} (h:WT xs=some v):v.length=xs.length:=by
 rw [Zc3 h];exact (UY xs).length_eq
end Go.Proofs.YtpblakfidofgfaaGreatDoor
