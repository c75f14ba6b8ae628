import Derived.Test.YtpblakfidofgfaaGreatDoorZJ10
set_option linter.unusedSimpArgs false
set_option linter.unusedVariables false
namespace Go.Proofs.YtpblakfidofgfaaGreatDoor
open Go.RowKit Am
theorem Zsh {ps:List Zi} (hl:ps.length<=1048576) {U:Int->List Int} (h:GU ps U):Ev fun k=>V1 k ps=some ((List.range ps.length).map fun (i:Nat)=>U (i:Int)):=by
 refine (h.ev.and (Ev.ge (ps.length+1))).mono fun k ⟨hk,hk2⟩=> ?_;unfold V1
 have:=ZiS (fun n (s:List (List Int)) i=>QD k ps n s i) (fun i:Nat=>(List.range i).map fun (i:Nat)=>U (i:Int)) (some ((List.range ps.length).map fun (i:Nat)=>U (i:Int))) ps.length
  (fun n i hi=>by
   try simp only
   rw [QD,if_pos (ZE hi),(hk i).1,Zz8,XG (by simp;omega) (by omega),Zz8,wS i (by omega),List.range_succ,List.map_append]
   rfl)
  (fun n=>by
   try simp only
   rw [QD,if_neg (Ql (ZAe _))]) (k:=k) (by omega)
 rw [show QD k ps k [] 0=_ from this];rfl
theorem ZpC {n:Nat} (U:Int->List Int) {x:Int} (h0:0<=x) (h1:x<n):at? ((List.range n).map fun (i:Nat)=>U (i:Int)) x=some (U x):=by
 obtain ⟨m,rfl⟩:=Int.eq_ofNat_of_zero_le h0;rw [Zit,List.getElem?_map,List.getElem?_range (by omega)];rfl
theorem ZqK {n:Nat} (hn:n<=1048576) {U:Int->List Int} (nd:∀i,(U i).Nodup) (bd:∀i,∀z∈U i,0<=z/\z<n) (cb:Nat->Bool) (hcb:∀i,i<n->(cb i=true↔Reach U i i)):Ev fun k=>X5 k ((List.range n).map fun (i:Nat)=>U (i:Int))=some ((List.range n).map cb):=by
 have hb:∀i,i<n->∃r:List Int,(r.length<=n/\∀z,z∈r↔Reach U i z)/\Ev fun k=>Y6 k ((List.range n).map fun (i:Nat)=>U (i:Int)) k (U (i:Int)) 0=some r:=fun i hi=>
  bfs hn nd bd i (fun k=>Y6 k ((List.range n).map fun (i:Nat)=>U (i:Int))) (fun k v=>XO k v) (fun k x=>at? ((List.range n).map fun (i:Nat)=>U (i:Int)) x) (fun x h0 h1=>⟨U x,rfl,Ev.of fun k=>ZpC U h0 h1⟩) (fun k m l j=>by rw [Y6]) (fun k v m l j=>by rw [XO])
 obtain ⟨f,hf⟩:=YO (p:=fun (i:Nat) (r:List Int)=>(r.length<=n/\∀z,z∈r↔Reach U i z)/\Ev fun k=>Y6 k ((List.range n).map fun (i:Nat)=>U (i:Int)) k (U (i:Int)) 0=some r) (List.range n) fun i hi=>hb i (List.mem_range.1 hi);refine ((Ev.all (List.range n) fun i hi=>(hf i hi).2).and (Ev.ge (n+1))).mono fun k ⟨h1,hk⟩=> ?_;have hl:((List.range n).map fun (i:Nat)=>U (i:Int)).length=n:=by simp
 unfold X5;rw [hl,Zp9 (by omega) (by omega),Zz8]
 have:=ZiS (fun m (s:List Bool) i=>Y7 k ((List.range n).map fun (i:Nat)=>U (i:Int)) m s i) (fun i=>(List.range i).map cb++List.replicate (n-i) false) (some ((List.range n).map cb)) n
  (fun m i hi=>by
   have hi':i∈List.range n:=List.mem_range.2 hi;have hlen:(U (i:Int)).length<=n:=Q9 (nd i) (bd i);have hr:=hf i hi'
   have hd:decide ((i:Int)∈f i)=cb i:=by
    rw [Bool.eq_iff_iff,decide_eq_true_eq,hr.1.2,hcb i hi]
   try simp only
   rw [Y7,hl,if_pos (ZE hi),ZpC U (by omega) (by omega),Zz8,XG (by simp;omega) (by omega),Zz8,List.nil_append,h1 i hi',Zz8,ZcH _ _ (by omega) (show (f i).length<k by have:=hr.1.1;omega),Zz8,ZJ (show i<((List.range i).map cb++List.replicate (n-i) false).length by simp;omega),Zz8,hd,wS i (by omega)]
   have:((List.range i).map cb++List.replicate (n-i) false).set (i:Int).toNat (cb i)=(List.range (i+1)).map cb++List.replicate (n-(i+1)) false:=by
    rw [Int.toNat_natCast,List.set_append_right _ _ (by simp),List.range_succ,List.map_append,List.append_assoc]
    congr 1
    rw [show n-i=(n-(i+1))+1 by omega,List.replicate_succ];simp
   rw [this])
  (fun m=>by
   try simp only
   rw [Y7,hl,if_neg (Ql (ZAe _))];simp) (k:=k) (by omega)
 rw [show Y7 k ((List.range n).map fun (i:Nat)=>U (i:Int)) k (List.replicate n false) 0=_ by simpa using this];rfl
structure Zr7 (ps:List Zi) (U:Int->List Int) (run:Nat->Bool):Prop where
 nocyc:∀i,i<ps.length->run i=true->¬Reach U i i
 knd:∀i (h:i<ps.length),run i=true->ps[i].kind=2\/ps[i].kind=3
 evI:Ev fun k=>∀i,i<ps.length->QK k ps (i:Int)=some (run i)
 evS:Ev fun k=>∃cyc,X5 k ((List.range ps.length).map fun (i:Nat)=>U (i:Int))=some cyc/\QC k ps cyc k (List.replicate ps.length false) 0 0=some ((List.range ps.length).map run,(((List.range ps.length).filter run).length:Int))
theorem Zs9 {ps:List Zi} (hl:ps.length<=1048576) {U:Int->List Int} (h:GU ps U):∃run,Zr7 ps U run:=by
 obtain ⟨db,hdb⟩:=YO (p:=fun (i:Nat) (b:Bool)=>Ev fun k=>YZ k ps (i:Int)=some b/\YJ k ps (i:Int)=some b) (List.range ps.length) fun i _=>ZsC ps hl i;obtain ⟨cb,hcb⟩:=YO (p:=fun (i:Nat) (b:Bool)=>(b=true↔Reach U i i)/\Ev fun k=>ZeW k ps (i:Int)=some b/\VE k ps (i:Int)=some b) (List.range ps.length) fun i _=>ZqL hl h i;have mr:∀{i},i<ps.length->i∈List.range ps.length:=fun h=>List.mem_range.2 h;have evd:=Ev.all (List.range ps.length) fun i hi=>hdb i hi;have evc:=Ev.all (List.range ps.length) fun i hi=>(hcb i hi).2;have hcy:=ZqK hl (fun i=>Zag (h.asc i)) h.bd cb fun i hi=>(hcb i (mr hi)).1
 let kd:Nat->Bool:=fun i=>match ps[i]? with | some p=>decide (p.kind=2)||decide (p.kind=3)| none=>false
 let run:Nat->Bool:=fun i=>kd i&&!db i&&!cb i
 have hkd:∀i (h:i<ps.length),kd i=(decide (ps[i].kind=2)||decide (ps[i].kind=3)):=fun i h=>by simp only [kd,ZAg h]
 refine ⟨run,fun i hi hr g=> ?_,fun i hi hr=> ?_,(evd.and evc).mono fun k ⟨e1,e2⟩ i hi=> ?_,(evd.and (hcy.and (Ev.ge (ps.length+1)))).mono fun k ⟨e1,e2,hk⟩=>⟨_,e2, ?_⟩⟩
 ·have:=(hcb i (mr hi)).1.2 g;simp only [run,this] at hr;simp at hr
 ·simp only [run,hkd i hi,ZAd,Bool.or_eq_true,decide_eq_true_eq] at hr;exact hr.1.1
 ·obtain ⟨_,d2⟩:=e1 i (mr hi);obtain ⟨_,c2⟩:=e2 i (mr hi);unfold QK;rw [decide_eq_true (show (0:Int)<=(i:Int) by omega),decide_eq_true (show (i:Int)<(ps.length:Int) by omega),ZJ hi,d2,c2];simp only [if_true,Zz8,run,hkd i hi];cases decide (ps[i].kind=2)<;>cases decide (ps[i].kind=3)<;>cases db i<;>cases cb i<;>rfl
 ·have:=ZiS (fun m (s:List Bool×Int) i=>QC k ps ((List.range ps.length).map cb) m s.1 s.2 i) (fun i=>((List.range i).map run++List.replicate (ps.length-i) false,(((List.range i).filter run).length:Int))) (some ((List.range ps.length).map run,(((List.range ps.length).filter run).length:Int))) ps.length
   (fun m i hi=>by
    obtain ⟨d1,_⟩:=e1 i (mr hi);have hls:i<((List.range i).map run++List.replicate (ps.length-i) false).length:=by simp;omega
    have hset:∀b:Bool,((List.range i).map run++List.replicate (ps.length-i) false).set (i:Int).toNat b=(List.range i).map run++b::List.replicate (ps.length-(i+1)) false:=fun b=>by
     rw [Int.toNat_natCast,List.set_append_right _ _ (by simp)]
     congr 1
     rw [show ps.length-i=(ps.length-(i+1))+1 by omega,List.replicate_succ];simp
    have hget:∀b:Bool,at? ((List.range i).map run++b::List.replicate (ps.length-(i+1)) false) (i:Int)=some b:=fun b=>by
     rw [Zit,List.getElem?_append_right (by simp)];simp
    have hcnt:((List.range i).filter run).length<=i:=by have:=List.length_filter_le run (List.range i);simpa using this
    have hcat:at? ((List.range ps.length).map cb) (i:Int)=some (cb i):=by rw [Zit,List.getElem?_map,List.getElem?_range hi];rfl
    have hw:IntKind.i64.wrap ((((List.range i).filter run).length:Int)+1)=((((List.range i).filter run).length+1:Nat):Int):=wS _ (by omega)
    have key:∀b:Bool,b=run i->(if b=true then some ((List.range i).map run++b::List.replicate (ps.length-(i+1)) false,IntKind.i64.wrap ((((List.range i).filter run).length:Int)+1)) else some ((List.range i).map run++b::List.replicate (ps.length-(i+1)) false,(((List.range i).filter run).length:Int)):Option (List Bool×Int))=some ((List.range (i+1)).map run++List.replicate (ps.length-(i+1)) false,(((List.range (i+1)).filter run).length:Int)):=fun b hb=>by
     rw [List.range_succ,List.map_append,List.filter_append,hw];cases hr:run i<;>rw [hr] at hb<;>subst hb<;>simp [hr]
    try simp only
    rw [QC,if_pos (ZE hi),hcat,ZJ hi,ZJ hls,d1,wS i (by omega)];simp only [Zz8,hset,hget];have hrun:run i=((decide (ps[i].kind=2)||decide (ps[i].kind=3))&&!db i&&!cb i):=by simp only [run,hkd i hi]
    cases hc:cb i
    ·cases hd:db i
     ·cases h2:decide (ps[i].kind=2)
      ·simp only [Bool.not_false,if_true,ZAf,if_false,Zz8,hget];rw [key _ (by rw [hrun,hc,hd,h2];simp),Zz8]
      ·simp only [Bool.not_false,if_true,Zz8,hget];have q:=key true (by rw [hrun,hc,hd,h2];simp);rw [if_pos rfl] at q;obtain ⟨q1,q2⟩:=Prod.mk.inj (Zz9 q);rw [q1,q2]
     ·simp only [Bool.not_false,Bool.not_true,if_true,ZAf,if_false,Zz8,hget];have q:=key false (by rw [hrun,hc,hd];simp);rw [if_neg (by simp)] at q;obtain ⟨q1,q2⟩:=Prod.mk.inj (Zz9 q);rw [q1,q2]
    ·simp only [Bool.not_true,ZAf,if_false,Zz8,hget];have q:=key false (by rw [hrun,hc];simp);rw [if_neg (by simp)] at q;obtain ⟨q1,q2⟩:=Prod.mk.inj (Zz9 q);rw [q1,q2])
   (fun m=>by
    try simp only
    rw [QC,if_neg (Ql (ZAe _))];simp) (k:=k) (by omega)
  simpa using this
def ZgT (U:Int->List Int) (run:Nat->Bool) (o:List Int) (i:Nat):Bool:=run i&&!decide ((i:Int)∈o)&&!(U (i:Int)).any fun j=>run j.toNat&&!decide (j∈o)
theorem Ztd {U:Int->List Int} {n:Nat} (bd:∀i,∀z∈U i,0<=z/\z<n) (nd:∀i,(U i).Nodup) (hn:n<=1048576) (run:Nat->Bool) (o:List Int) (i:Int) (ho:o.length<=n) {k:Nat} (hk:n<k):U0 k o (U i) ((List.range n).map run)=some (!(U i).any fun j=>run j.toNat&&!decide (j∈o)):=by
 have hlen:(U i).length<=n:=Q9 (nd i) (bd i);unfold U0
 rw [YV (U i) (fun j=>run j.toNat&&!decide (j∈o)) (fun x=>(at? ((List.range n).map run) x).bind fun x4=>if x4=true then (Ym k o x).bind fun x5=>some (!x5) else some false) false () (Ws k o (U i) ((List.range n).map run))
  (fun x hx=>by
   obtain ⟨h0,h1⟩:=bd i x hx;obtain ⟨m,rfl⟩:=Int.eq_ofNat_of_zero_le h0;rw [Zit,List.getElem?_map,List.getElem?_range (by omega),ZcH o _ (by omega) (by omega)];simp only [Option.map_some,Zz8,Int.toNat_natCast];cases run m<;>rfl)
  (fun m j=>by rw [Ws];simp only [Option.bind_assoc]) (by omega) (by omega)]
 cases (U i).any fun j=>run j.toNat&&!decide (j∈o)<;>rfl
theorem Zuj (xs o:List Int) (hx:xs.length<=4294967296) (ho:o.length<=4294967296) {k:Nat} (hk:xs.length<k) (hk2:o.length<k):Zkq k xs o=some (!xs.any fun j=>!decide (j∈o)):=by
 unfold Zkq
 rw [YV xs (fun j=>!decide (j∈o)) (fun x=>(VB k o x).bind fun x3=>some (!x3)) false () (ZcM k xs o)
  (fun x hx=>by rw [ZaC o _ (by omega) (by omega)];rfl)
  (fun m j=>by rw [ZcM];simp only [Option.bind_assoc,Zz8]) (by omega) (by omega)]
 cases xs.any fun j=>!decide (j∈o)<;>rfl
theorem ZpV {ps:List Zi} {U:Int->List Int} (h:GU ps U) (hl:ps.length<=1048576) (run:Nat->Bool) {k:Nat} (hk:ps.length<k) (h1:∀i,YA k ps i=some (U i)) (h2:∀i,i<ps.length->QK k ps (i:Int)=some (run i)) (i:Int):Uo k ps i=some ((U i).filter fun j=>run j.toNat):=by
 have hlen:=h.len i;unfold Uo;rw [h1,Zz8]
 have:=ZiS (fun m (s:List Int) j=>Qe k ps (U i) m s j) (fun j=>((U i).take j).filter fun j=>run j.toNat) (some ((U i).filter fun j=>run j.toNat)) (U i).length
  (fun m j hj=>by
   obtain ⟨b0,b1⟩:=h.bd i _ (List.getElem_mem hj);have hr:=h2 (U i)[j].toNat (by omega);rw [show (((U i)[j].toNat:Nat):Int)=(U i)[j] by omega] at hr
   have hfl:(((U i).take j).filter fun j=>run j.toNat).length<=j:=by
    have:=List.length_filter_le (fun j:Int=>run j.toNat) ((U i).take j);rw [List.length_take] at this;omega
   try simp only
   rw [Qe,if_pos (ZE hj),ZJ hj,Zz8,hr,Zz8,XG (by simp;omega) (by omega),wS j (by omega),List.take_succ_eq_append_getElem hj,List.filter_append];cases hrun:run (U i)[j].toNat<;>simp [hrun])
  (fun m=>by
   try simp only
   rw [Qe,if_neg (Ql (ZAe _)),List.take_length]) (k:=k) (by omega)
 rw [show Qe k ps (U i) k [] 0=_ by simpa using this];rfl
theorem ZsG {ps:List Zi} {U:Int->List Int} (h:GU ps U) (hl:ps.length<=1048576) (run:Nat->Bool) {k:Nat} (hk:ps.length<k) (h1:∀i,YA k ps i=some (U i)) (h2:∀i,i<ps.length->QK k ps (i:Int)=some (run i)) (o:List Int) (ho:o.length<=ps.length):Xu k ps o k 0=some (((List.range ps.length).findIdx (ZgT U run o):Nat):Int):=by
 have hb:∀i,i<ps.length->((VB k o (i:Int)).bind fun x5=>if x5=true then some true else (QK k ps (i:Int)).bind fun x6=>if (!x6)=true then some true else (Uo k ps (i:Int)).bind fun x7=>(Zkq k x7 o).bind fun x8=>some (!x8))=some (!ZgT U run o i):=fun i hi=>by
  have hlen:=h.len (i:Int);have hfl:=List.length_filter_le (fun j:Int=>run j.toNat) (U (i:Int));rw [ZaC o _ (by omega) (by omega),h2 i hi,ZpV h hl run hk h1 h2];simp only [Zz8];rw [Zuj _ o (by omega) (by omega) (by omega) (by omega),List.any_filter];unfold ZgT;cases decide ((i:Int)∈o)<;>cases run i<;>simp
 rw [Zck (List.range ps.length) (ZgT U run o) (Xu k ps o) (fun i=>some (i:Int)) (some (ps.length:Int))
  (fun m i hi hc=>by
   have hi':i<ps.length:=by simpa using hi
   rw [List.getElem_range] at hc;rw [Xu,if_pos (ZE hi'),hb i hi',hc,wS i (by omega)];rfl)
  (fun m i hi hc=>by
   have hi':i<ps.length:=by simpa using hi
   rw [List.getElem_range] at hc;rw [Xu,if_pos (ZE hi'),hb i hi',hc];rfl)
  (fun m=>by
   rw [List.length_range,Xu,if_neg (Ql (ZAe _))];rfl) (by simpa using hk)]
 have:=List.findIdx_le_length (xs:=List.range ps.length) (p:=ZgT U run o)
 split
 ·rfl
 ·rename_i hc;simp only [List.length_range] at hc this;rw [show (List.range ps.length).findIdx (ZgT U run o)=ps.length by omega]
theorem ZvZ {U:Int->List Int} {ps:List Zi} (h:GU ps U) (hl:ps.length<=1048576) (run:Nat->Bool) {k:Nat} (hk:ps.length<k) (c:List Int->Option (List Int)) (o:List Int) (ho:o.length<=ps.length):YW c k ps ((List.range ps.length).map fun (i:Nat)=>U (i:Int)) ((List.range ps.length).map run) o k 0=if (List.range ps.length).findIdx (ZgT U run o)<ps.length then c (o++[(((List.range ps.length).findIdx (ZgT U run o):Nat):Int)]) else c o:=by
 have hb:∀i,i<ps.length->((at? ((List.range ps.length).map run) (i:Int)).bind fun x22=>if x22=true then (Ym k o (i:Int)).bind fun x23=>if (!x23)=true then (at? ((List.range ps.length).map fun (i:Nat)=>U (i:Int)) (i:Int)).bind fun x24=>(U0 k o x24 ((List.range ps.length).map run)).bind fun x25=>some x25 else some false else some false)=some (ZgT U run o i):=fun i hi=>by
  rw [show at? ((List.range ps.length).map run) (i:Int)=some (run i) by rw [Zit,List.getElem?_map,List.getElem?_range hi];rfl,ZcH o _ (by omega) (by omega),ZpC U (by omega) (by omega)];simp only [Zz8];rw [Ztd h.bd (fun i=>Zag (h.asc i)) hl run o _ ho hk];unfold ZgT;cases decide ((i:Int)∈o)<;>cases run i<;>simp
 have:=Zck (List.range ps.length) (ZgT U run o) (YW c k ps ((List.range ps.length).map fun (i:Nat)=>U (i:Int)) ((List.range ps.length).map run) o) (fun i=>c (o++[(i:Int)])) (c o)
  (fun m i hi hc=>by
   have hi':i<ps.length:=by simpa using hi
   rw [List.getElem_range] at hc;rw [YW,if_pos (ZE hi'),hb i hi',hc,wS i (by omega)];rfl)
  (fun m i hi hc=>by
   have hi':i<ps.length:=by simpa using hi
   rw [List.getElem_range] at hc;rw [YW,if_pos (ZE hi'),hb i hi',hc];simp only [Zz8,if_true];rw [XG (by simp;omega) (by omega)];rfl)
  (fun m=>by
   rw [List.length_range,YW,if_neg (Ql (ZAe _))]) (k:=k) (by simpa using hk)
 rw [this,List.length_range]
def Zum (U:Int->List Int) (run:Nat->Bool) (r:List Int):Prop:=∀i (h:i<r.length),∀j∈U r[i],run j.toNat=true->j∈r.take i
theorem Zum.snoc {U:Int->List Int} {run:Nat->Bool} {o:List Int} {x:Int} (h:Zum U run o) (hx:∀j∈U x,run j.toNat=true->j∈o):Zum U run (o++[x]):=by
 intro i hi j hj hr;rw [List.length_append,List.length_singleton] at hi
 by_cases g:i<o.length
 ·rw [List.getElem_append_left g] at hj;rw [List.take_append_of_le_length (by omega)];exact h i g j hj hr
 ·obtain rfl:i=o.length:=by omega
  rw [List.getElem_append_right (ZAe _)] at hj;simp only [Nat.sub_self,List.getElem_cons_zero] at hj;rw [List.take_append_of_le_length (ZAe _),List.take_length];exact hx j hj hr
theorem Zvg {ps:List Zi} (hl:ps.length<=1048576) {U:Int->List Int} (h:GU ps U) {run:Nat->Bool} (hr:Zr7 ps U run):∀(d:Nat) (o:List Int),o.Nodup->(∀x∈o,(0<=x/\x<ps.length)/\run x.toNat=true)->Zum U run o->o.length+d=((List.range ps.length).filter run).length->
  ∃r:List Int,((r.Nodup/\∀x∈r,(0<=x/\x<ps.length)/\run x.toNat=true)/\Zum U run r/\∀i,i<ps.length->run i=true->(i:Int)∈r)/\∀k,ps.length<k->(∀i,YA k ps i=some (U i))->(∀i,i<ps.length->QK k ps (i:Int)=some (run i))->∀m,d<m->
   Xo k ps ((List.range ps.length).map fun (i:Nat)=>U (i:Int)) ((List.range ps.length).map run) (((List.range ps.length).filter run).length:Int) m o=some r/\VD k ps m o=some r:=by
 intro d
 induction d with
 | zero=>
  intro o ho hm hor hlen
  have hall:∀i,i<ps.length->run i=true->(i:Int)∈o:=fun i hi hri=>by
   refine Classical.byContradiction fun hno=> ?_
   have h3:=Ze6 (l:=o++[(i:Int)]) (m:=((List.range ps.length).filter run).map fun (i:Nat)=>(i:Int)) (KG ho hno) fun z hz=>by
    rcases List.mem_append.1 hz with g| g
    ·obtain ⟨⟨b0,b1⟩,b2⟩:=hm z g;exact List.mem_map.2 ⟨z.toNat,List.mem_filter.2 ⟨List.mem_range.2 (by omega),b2⟩,by omega⟩
    ·rw [List.mem_singleton] at g;exact List.mem_map.2 ⟨i,List.mem_filter.2 ⟨List.mem_range.2 hi,hri⟩,g.symm⟩
   rw [List.length_append,List.length_map,List.length_singleton] at h3;omega
  refine ⟨o,⟨⟨ho,hm⟩,hor,hall⟩,fun k hk h1 h2 m hmm=> ?_⟩;obtain ⟨m,rfl⟩:∃q,m=q+1:=⟨m-1,by omega⟩;have hol:o.length<=ps.length:=Q9 ho fun x hx=>(hm x hx).1
  have hno:(List.range ps.length).findIdx (ZgT U run o)=ps.length:=by
   have:=List.findIdx_eq_length (xs:=List.range ps.length) (p:=ZgT U run o);rw [List.length_range] at this;refine this.2 fun i hi=> ?_;have hi':=List.mem_range.1 hi;unfold ZgT;cases hri:run i
   ·simp
   ·simp [hall i hi' hri]
  constructor
  ·rw [Xo,if_neg (by simp;omega)]
  ·rw [VD,ZsG h hl run hk h1 h2 o hol,hno];simp
 | succ d ih=>
  intro o ho hm hor hlen;have hol:o.length<=ps.length:=Q9 ho fun x hx=>(hm x hx).1
  have hlt:(List.range ps.length).findIdx (ZgT U run o)<ps.length:=by
   refine Classical.byContradiction fun hno=> ?_
   have hno':∀i,i<ps.length->ZgT U run o i=false:=fun i hi=>by
    have:=List.not_of_lt_findIdx (xs:=List.range ps.length) (p:=ZgT U run o) (i:=i) (by omega)
    simpa using this
   have hne:∃x:Int,(0<=x/\x<ps.length)/\run x.toNat=true/\x∉o:=by
    refine Classical.byContradiction fun hall=> ?_
    have h3:=Ze6 (l:=((List.range ps.length).filter run).map fun (i:Nat)=>(i:Int)) (m:=o) (by
     rw [List.Nodup,List.pairwise_map];exact List.Pairwise.imp (fun {a b} hab e=>hab (by omega)) (List.Pairwise.filter _ List.nodup_range)) fun z hz=>by
     obtain ⟨i,hi,rfl⟩:=List.mem_map.1 hz;obtain ⟨hi1,hi2⟩:=List.mem_filter.1 hi;have hi1:=List.mem_range.1 hi1;refine Classical.byContradiction fun g=>hall ⟨(i:Int),⟨by omega,by omega⟩,by simpa using hi2,g⟩
    rw [List.length_map] at h3;omega
   obtain ⟨x,⟨x1,x2,x3⟩,hx⟩:=ZrW (U:=U) (n:=ps.length) (S:=fun x=>(0<=x/\x<ps.length)/\run x.toNat=true/\x∉o) (fun x h=>h.1) hne fun x ⟨⟨x0,x1⟩,x2,x3⟩=>by
    have hc:=hno' x.toNat (by omega);unfold ZgT at hc;rw [show ((x.toNat:Nat):Int)=x by omega,x2,decide_eq_false x3] at hc;simp only [Bool.not_false,Bool.true_and,Bool.and_true,Bool.not_eq_false'] at hc;obtain ⟨y,hy,hy2⟩:=List.any_eq_true.1 hc;simp only [ZAd,Bool.not_eq_true',decide_eq_false_iff_not] at hy2;exact ⟨y,hy,h.bd _ _ hy,hy2⟩
   have:=hr.nocyc x.toNat (by omega) x2;rw [show ((x.toNat:Nat):Int)=x by omega] at this;exact this hx
  have hc:ZgT U run o ((List.range ps.length).findIdx (ZgT U run o))=true:=by
   have:=List.findIdx_getElem (xs:=List.range ps.length) (p:=ZgT U run o) (w:=by rw [List.length_range];exact hlt)
   rwa [List.getElem_range] at this
  have hc2:run ((List.range ps.length).findIdx (ZgT U run o))=true/\(((List.range ps.length).findIdx (ZgT U run o):Nat):Int)∉o:=by
   unfold ZgT at hc;simp only [ZAd,Bool.not_eq_true',decide_eq_false_iff_not] at hc;exact hc.1
  obtain ⟨r,h3,h4⟩:=ih (o++[(((List.range ps.length).findIdx (ZgT U run o):Nat):Int)]) (KG ho hc2.2) (fun x hx=>by
   rcases List.mem_append.1 hx with g| g
   ·exact hm x g
   ·rw [List.mem_singleton] at g;subst g;exact ⟨⟨by omega,by omega⟩,by simpa using hc2.1⟩) (hor.snoc fun j hj hrj=>by
    unfold ZgT at hc;simp only [ZAd,Bool.not_eq_true'] at hc;refine Classical.byContradiction fun hn=> ?_;have:=List.any_eq_false.1 hc.2 j hj;simp [hrj,hn] at this) (by simp;omega)
  refine ⟨r,h3,fun k hk h1 h2 m hmm=> ?_⟩;obtain ⟨m,rfl⟩:∃q,m=q+1:=⟨m-1,by omega⟩;obtain ⟨q1,q2⟩:=h4 k hk h1 h2 m (by omega);constructor
  ·rw [Xo,if_pos (by simp;omega),ZvZ h hl run hk _ o hol,if_pos hlt];exact q1
  ·rw [VD,ZsG h hl run hk h1 h2 o hol,Zz8,if_neg (by simp;omega),XG (by simp;omega) (by omega)];exact q2
theorem Zp4 {ps:List Zi} (hl:ps.length<=1048576) {U:Int->List Int} (h:GU ps U) {run:Nat->Bool} (hr:Zr7 ps U run):∃r:List Int,((r.Nodup/\∀x∈r,(0<=x/\x<ps.length)/\run x.toNat=true)/\Zum U run r/\∀i,i<ps.length->run i=true->(i:Int)∈r)/\Ev fun k=>ZfL k ps=some r/\Zjn k ps=some r:=by
 obtain ⟨r,h1,h2⟩:=Zvg hl h hr ((List.range ps.length).filter run).length [] (by simp) (by simp) (fun i h=>absurd h (by simp)) (by simp);refine ⟨r,h1,((Zsh hl h).and (hr.evS.and (hr.evI.and (h.ev.and (Ev.ge (ps.length+1)))))).mono fun k ⟨e1,⟨cyc,e2,e3⟩,e4,e5,hk⟩=> ?_⟩;have hcnt:((List.range ps.length).filter run).length<=ps.length:=by have:=List.length_filter_le run (List.range ps.length);simpa using this
 obtain ⟨q1,q2⟩:=h2 k (by omega) (fun i=>(e5 i).2) e4 k (by omega);constructor
 ·unfold ZfL U1;rw [e1,Zz8,e2,Zz8,Zp9 (by omega) (by omega),Zz8,e3];simp only [Zz8,q1]
 ·unfold Zjn;exact q2
def Ev2 (p:Nat->Nat->Prop):Prop:=∃B,∀k n,B<=k->B<=n->p k n
theorem Ev2.of {p:Nat->Nat->Prop} (h:∀k n,p k (n+1)):Ev2 p:=⟨1,fun k n _ hn=>by cases n with | zero=>omega| succ n=>exact h k n⟩
structure ZgU (T:List Zg) (E:Int):Prop where
 nm:∀t∈T,t.kind=1->∃c r,t.text.data.toList=c::r/\ZkT c=true
 sy:∀t∈T,t.kind=4->∃c r,t.text.data.toList=c::r/\ZkT c=false
 at_:∀t∈T,0<=t.at_
 tx:∀t∈T,t.text.size<=120
 en:0<=E
 len:T.length<=60
def Zq8 (T:List Zg) (E:Int) (b:Nat):Int:=match T[b]? with
 | some t=>t.at_
 | none=>E
theorem ZnN {T:List Zg} {E:Int} (ok:ZgU T E) (b:Nat):0<=Zq8 T E b:=by
 unfold Zq8
 split
 ·rename_i t h;exact ok.at_ t (List.mem_of_getElem? h)
 ·exact ok.en
def Rl (T:List Zg) (E:Int) (x:Zc) (p:Zd):Option Nat->Prop
 | some j=>j<=T.length/\x=⟨T,j,E, -1⟩/\p=⟨T,j, -1⟩
 | none=>∃b:Nat,b<=T.length/\x.toks=T/\x.end_=E/\p.list=T/\p.bad=b/\x.bad=Zq8 T E b
def adS (x:Zc):Zc:=⟨x.toks,IntKind.i64.wrap (x.i+1),x.end_,x.bad⟩
def adI (p:Zd):Zd:=⟨p.list,IntKind.i64.wrap (p.at_+1),p.bad⟩
def ZcD (t:Zg) (s:ByteArray):Bool:=decide (t.kind=4)&&decide (t.text=s)
def ZkU (t:Zg) (s:ByteArray):Bool:=decide (t.kind=1)&&decide (t.text=s)
theorem ZeF (t:Zg) (s:ByteArray):Wx t s=some (ZcD t s):=by unfold Wx ZcD;by_cases h:t.kind=4<;>simp [h]
theorem ZnZ (t:Zg) (s:ByteArray):U7 t s=some (ZcD t s):=by unfold U7 ZcD;by_cases h:t.kind=4<;>simp [h]
theorem Zrp (t:Zg) (s:ByteArray):Jp t s=some (ZkU t s):=by unfold Jp ZkU;by_cases h:t.kind=1<;>simp [h]
theorem Zkp (t:Zg) (s:ByteArray):Yk t s=some (ZkU t s):=by unfold Yk ZkU;by_cases h:t.kind=1<;>simp [h]
def zT:Zg:=⟨0,0,0,⟨#[]⟩⟩
theorem ZjZ (s:ByteArray):ZcD zT s=false:=by simp [ZcD,zT]
theorem ZoN (s:ByteArray):ZkU zT s=false:=by simp [ZkU,zT]
def ZdD (T:List Zg) (j:Nat) (s:ByteArray):Bool:=match T[j]? with
 | some t=>ZcD t s||ZkU t s
 | none=>false
section
variable {T:List Zg} {E:Int}
theorem Zgx (ok:ZgU T E) {j:Nat} (hj:j<=T.length) (s:ByteArray):Zo ⟨T,j,E, -1⟩ s=some (ZdD T j s,⟨T,j,E, -1⟩):=by
 unfold Zo ZdD
 by_cases h:j<T.length
 ·simp only [ZE h,if_true,ZJ h,Zz8,ZeF,Zrp,ZAg h];cases ZcD T[j] s<;>simp
 ·simp [show ¬((j:Int)<(T.length:Int)) by omega,List.getElem?_eq_none (show T.length<=j by omega)]
theorem Zi7 {x:Zc} (h:0<=x.bad) (s:ByteArray):Zo x s=some (false,x):=by
 unfold Zo;simp [show ¬x.bad<0 by omega]
theorem Zb0 {j:Nat} (hj:j<=T.length):Zw ⟨T,j, -1⟩=some ((T[j]?).getD zT,⟨T,j, -1⟩):=by
 unfold Zw
 by_cases h:j<T.length
 ·simp only [ZE h,if_true,ZJ h,Zz8,ZAg h];simp
 ·simp [show ¬((j:Int)<(T.length:Int)) by omega,List.getElem?_eq_none (show T.length<=j by omega),zT]
theorem Ze7 {p:Zd} (h:0<=p.bad):Zw p=some (zT,p):=by
 unfold Zw;simp [show ¬p.bad<0 by omega,zT]
theorem Ji {p:Zd} {t:Zg} (h:Zw p=some (t,p)) (s:ByteArray):Zf p s=some (ZcD t s,if ZcD t s=true then adI p else p):=by
 unfold Zf;rw [h];simp only [Zz8,ZnZ];cases ZcD t s<;>rfl
theorem Rl.bad {x:Zc} {p:Zd} (ok:ZgU T E) (h:Rl T E x p none):0<=x.bad/\0<=p.bad:=by
 obtain ⟨b,_,_,_,_,h1,h2⟩:=h;exact ⟨by rw [h2];exact ZnN ok b,by rw [h1];omega⟩
theorem Zv9 (ok:ZgU T E) {j:Nat} (h:j<T.length):Rl T E (adS ⟨T,j,E, -1⟩) (adI ⟨T,j, -1⟩) (some (j+1)):=by
 have:=ok.len;refine ⟨by omega, ?_, ?_⟩
 ·simp only [adS,wS j (by omega)]
 ·simp only [adI,wS j (by omega)]
def Zrb (s:ByteArray):Prop:=∃c r,s.data.toList=c::r/\ZkT c=false
def KwS (s:ByteArray):Prop:=∃c r,s.data.toList=c::r/\ZkT c=true
theorem Zvx (ok:ZgU T E) {t:Zg} (ht:t∈T) {s:ByteArray} (hs:Zrb s):ZkU t s=false:=by
 unfold ZkU
 by_cases h1:t.kind=1
 ·obtain ⟨c,r,e1,e2⟩:=ok.nm t ht h1;obtain ⟨c',r',e3,e4⟩:=hs;have:t.text≠s:=fun e=>by rw [e,e3] at e1;cases e1;rw [e2] at e4;cases e4
  simp [this]
 ·simp [h1]
theorem ZuP (ok:ZgU T E) {t:Zg} (ht:t∈T) {s:ByteArray} (hs:KwS s):ZcD t s=false:=by
 unfold ZcD
 by_cases h1:t.kind=4
 ·obtain ⟨c,r,e1,e2⟩:=ok.sy t ht h1;obtain ⟨c',r',e3,e4⟩:=hs;have:t.text≠s:=fun e=>by rw [e,e3] at e1;cases e1;rw [e2] at e4;cases e4
  simp [this]
 ·simp [h1]
theorem ZhB {j:Nat} {t:Zg} (h:T[j]? =some t) (s:ByteArray):ZdD T j s=(ZcD t s||ZkU t s):=by unfold ZdD;rw [h]
theorem ZfI {j:Nat} (h:T[j]? =none) (s:ByteArray):ZdD T j s=false:=by unfold ZdD;rw [h]
theorem Zar (ok:ZgU T E) {x:Zc} {p:Zd} {o:Option Nat} (h:Rl T E x p o) {s:ByteArray} (hs:Zrb s):
  ∃b:Bool,Zo x s=some (b,x)/\Zf p s=some (b,if b=true then adI p else p)/\(b=true->∃j,o=some j/\j<T.length/\Rl T E (adS x) (adI p) (some (j+1))):=by
 cases o with
 | none=>
  have hb:=h.bad ok;refine ⟨false,Zi7 hb.1 s, ?_,by simp⟩;rw [Ji (Ze7 hb.2),ZjZ]
 | some j=>
  obtain ⟨hj,rfl,rfl⟩:=h;refine ⟨ZdD T j s,Zgx ok hj s, ?_, ?_⟩
  ·rw [Ji (Zb0 hj)];cases e:T[j]? with
   | none=>simp [ZfI e,ZjZ]
   | some t=>simp [ZhB e,Zvx ok (List.mem_of_getElem? e) hs]
  ·intro hb;cases e:T[j]? with
   | none=>rw [ZfI e] at hb;cases hb
   | some t=>have hl:=(List.getElem?_eq_some_iff.1 e).1;exact ⟨j,rfl,hl,Zv9 ok hl⟩
theorem Zmz (ok:ZgU T E) {x:Zc} {p:Zd} {o:Option Nat} (h:Rl T E x p o) {s:ByteArray} (hs:KwS s):
  ∃(b:Bool) (t:Zg),Zo x s=some (b,x)/\Zw p=some (t,p)/\Yk t s=some b/\(b=true->∃j,o=some j/\j<T.length/\Rl T E (adS x) (adI p) (some (j+1))):=by
 cases o with
 | none=>
  have hb:=h.bad ok;exact ⟨false,zT,Zi7 hb.1 s,Ze7 hb.2,by rw [Zkp,ZoN],by simp⟩
 | some j=>
  obtain ⟨hj,rfl,rfl⟩:=h;refine ⟨ZdD T j s,_,Zgx ok hj s,Zb0 hj, ?_, ?_⟩
  ·rw [Zkp];cases e:T[j]? with
   | none=>simp [ZfI e,ZoN]
   | some t=>simp [ZhB e,ZuP ok (List.mem_of_getElem? e) hs]
  ·intro hb;cases e:T[j]? with
   | none=>rw [ZfI e] at hb;cases hb
   | some t=>have hl:=(List.getElem?_eq_some_iff.1 e).1;exact ⟨j,rfl,hl,Zv9 ok hl⟩
def zE:Zb:=⟨0,0,⟨#[]⟩,[]⟩
theorem ZrO (ok:ZgU T E) {x:Zc} {p:Zd} {o:Option Nat} (h:Rl T E x p o):∃x' p',YD x=some (zE,x')/\Ye p=some (zE,p')/\Rl T E x' p' none:=by
 cases o with
 | none=>
  have hb:=h.bad ok;obtain ⟨b,h0,h1,h2,h3,h4,h5⟩:=h;refine ⟨x,p, ?_, ?_,⟨b,h0,h1,h2,h3,h4,h5⟩⟩
  ·unfold YD;simp [show ¬x.bad<0 by omega,zE]
  ·unfold Ye;simp [show ¬p.bad<0 by omega,zE]
 | some j=>
  obtain ⟨hj,rfl,rfl⟩:=h;refine ⟨⟨T,j,E,Zq8 T E j⟩,⟨T,j,j⟩, ?_, ?_,⟨j,hj,rfl,rfl,rfl,rfl,rfl⟩⟩
  ·unfold YD Zq8
   by_cases hl:j<T.length
   ·simp only [ZE hl,if_true,ZJ hl,Zz8,ZAg hl];simp [zE]
   ·simp [show ¬((j:Int)<(T.length:Int)) by omega,List.getElem?_eq_none (show T.length<=j by omega),zE]
  ·unfold Ye;simp [zE]
theorem Zs6 (ok:ZgU T E) {j:Nat} (hj:j<=T.length) (s:ByteArray):(ZcD ((T[j]?).getD zT) s||ZkU ((T[j]?).getD zT) s)=ZdD T j s:=by
 cases e:T[j]? with
 | none=>simp [ZfI e,ZjZ,ZoN]
 | some t=>simp [ZhB e]
theorem ZdH {p:Zd} {t:Zg} (h:Zw p=some (t,p)) (s:ByteArray):Zn p s=if (ZkU t s||ZcD t s)=true then some (adI p) else (Ye p).bind fun y=>some y.2:=by
 unfold Zn;rw [h];simp only [Zz8,Zkp,h,ZnZ];cases ZkU t s<;>cases ZcD t s<;>simp [adI]
theorem ZjY (ok:ZgU T E) {x:Zc} {p:Zd} {o:Option Nat} (h:Rl T E x p o) (s:ByteArray):
  ∃x' p' o',Zu x s=some x'/\Zn p s=some p'/\Rl T E x' p' o'/\∀j',o'=some j'->∃j,o=some j/\j'=j+1:=by
 obtain ⟨xf,pf,f1,f2,f3⟩:=ZrO ok h;cases o with
 | none=>
  have hb:=h.bad ok;refine ⟨xf,pf,none, ?_, ?_,f3,by simp⟩
  ·unfold Zu;rw [Zi7 hb.1];simp [f1]
  ·rw [ZdH (Ze7 hb.2),ZjZ,ZoN,f2];rfl
 | some j=>
  obtain ⟨hj,rfl,rfl⟩:=h;have e1:(ZkU ((T[j]?).getD zT) s||ZcD ((T[j]?).getD zT) s)=ZdD T j s:=by rw [Bool.or_comm];exact Zs6 ok hj s
  cases hb:ZdD T j s with
  | false=>
   refine ⟨xf,pf,none, ?_, ?_,f3,by simp⟩
   ·unfold Zu;rw [Zgx ok hj,hb];simp [f1]
   ·rw [ZdH (Zb0 hj),e1,hb,f2];rfl
  | true=>
   have hl:j<T.length:=by
    cases e:T[j]? with
    | none=>rw [ZfI e] at hb;cases hb
    | some t=>exact (List.getElem?_eq_some_iff.1 e).1
   refine ⟨adS ⟨T,j,E, -1⟩,adI ⟨T,j, -1⟩,some (j+1), ?_, ?_,Zv9 ok hl,fun j' h=>⟨j,rfl,by cases h;rfl⟩⟩
   ·unfold Zu;rw [Zgx ok hj,hb];rfl
   ·rw [ZdH (Zb0 hj),e1,hb];rfl
theorem names (ok:ZgU T E) {x:Zc} {p:Zd} {o:Option Nat} (h:Rl T E x p o):
  ∃ns ni x' p' o',Rl T E x' p' o'/\(∀j',o'=some j'->ns=ni/\ns.size<=120/\∃j,o=some j/\j'=j+1)/\∀k,200<=k->Xz k x=some (ns,x')/\Yd k p=some (ni,p'):=by
 obtain ⟨xf,pf,f1,f2,f3⟩:=ZrO ok h;cases o with
 | none=>
  have hb:=h.bad ok;refine ⟨⟨#[]⟩,⟨#[]⟩,xf,pf,none,f3,by simp,fun k hk=>⟨?_, ?_⟩⟩
  ·unfold Xz;simp [show 0<=x.bad from hb.1,f1]
  ·unfold Yd;rw [Ze7 hb.2];simp [zT,f2]
 | some j=>
  obtain ⟨hj,rfl,rfl⟩:=h;cases e:T[j]? with
  | none=>
   have hl:T.length<=j:=List.getElem?_eq_none_iff.1 e;refine ⟨⟨#[]⟩,⟨#[]⟩,xf,pf,none,f3,by simp,fun k hk=>⟨?_, ?_⟩⟩
   ·unfold Xz;simp [show ((T.length:Int)<=(j:Int)) by omega,f1]
   ·unfold Yd;rw [Zb0 hj,e];simp [zT,f2]
  | some t=>
   obtain ⟨hl,rfl⟩:=List.getElem?_eq_some_iff.1 e;have hm:=List.getElem_mem hl;have ht:=ok.tx _ hm;have hlen:=ok.len
   by_cases hn:T[j].kind=1/\WJ T[j].text=true
   ·refine ⟨T[j].text,T[j].text,adS ⟨T,j,E, -1⟩,adI ⟨T,j, -1⟩,some (j+1),Zv9 ok hl,fun j' h=>⟨rfl,ht,j,rfl,by cases h;rfl⟩,fun k hk=>⟨?_, ?_⟩⟩
    ·obtain ⟨v1,v2⟩:=Jh T[j].text (by omega) (show T[j].text.size<k by omega) (by omega);unfold Xz;have e2:IntKind.i64.wrap (IntKind.i64.wrap ((j:Int)+1)-1)=(j:Int):=by rw [wS j (by omega),w64 (by omega) (by omega)];omega
     simp only [show ¬((0:Int)<= -1) by omega,decide_false,ZAf,if_false,show ¬((T.length:Int)<=(j:Int)) by omega,ZJ hl,Zz8,hn.1,decide_true,Bool.not_true,v1,hn.2,e2]
     rfl
    ·obtain ⟨v1,v2⟩:=Jh T[j].text (by omega) (show T[j].text.size<k by omega) (by omega);unfold Yd;rw [Zb0 hj,e];simp only [Zz8,Option.getD_some,hn.1,decide_true,Bool.not_true,ZAf,if_false,v2,hn.2]
     rfl
   ·refine ⟨⟨#[]⟩,⟨#[]⟩,xf,pf,none,f3,by simp,fun k hk=> ?_⟩;obtain ⟨v1,v2⟩:=Jh T[j].text (by omega) (show T[j].text.size<k by omega) (by omega);constructor
    ·unfold Xz
     by_cases h1:T[j].kind=1
     ·have h2:WJ T[j].text=false:=by simpa [h1] using hn
      simp [show ¬((T.length:Int)<=(j:Int)) by omega,ZJ hl,h1,v1,h2,f1]
     ·simp [show ¬((T.length:Int)<=(j:Int)) by omega,ZJ hl,h1,f1]
    ·unfold Yd;rw [Zb0 hj,e]
     by_cases h1:T[j].kind=1
     ·have h2:WJ T[j].text=false:=by simpa [h1] using hn
      simp [h1,v2,h2,f2]
     ·simp [h1,f2]
end
def star:ByteArray:=⟨#[42]⟩
def plus:ByteArray:=⟨#[43]⟩
def minus:ByteArray:=⟨#[45]⟩
def Zco:ByteArray:=⟨#[44]⟩
def opE (n:Int) (a b:Zb):Zb:=⟨6,n,⟨#[]⟩,[a,b]⟩
def sPL (r:Zc->Option (Zb×Zc)) (n:Nat) (x:Zc) (e:Zb):Option (Zb×Zc):=
 (Qj r n x.toks x.i x.end_ x.bad e.kind e.n e.text e.args).map fun y=>(⟨y.1,y.2.1,y.2.2.1,y.2.2.2.1⟩,⟨y.2.2.2.2.1,y.2.2.2.2.2.1,y.2.2.2.2.2.2.1,y.2.2.2.2.2.2.2⟩)
def iPL (r:Zd->Option (Zb×Zd)) (n:Nat) (x:Zd) (e:Zb):Option (Zb×Zd):=
 (Yj r n x.list x.at_ x.bad e.kind e.n e.text e.args).map fun y=>(⟨y.1,y.2.1,y.2.2.1,y.2.2.2.1⟩,⟨y.2.2.2.2.1,y.2.2.2.2.2.1,y.2.2.2.2.2.2⟩)
def sSL (r:Zc->Option (Zb×Zc)) (n:Nat) (x:Zc) (e:Zb):Option (Zb×Zc):=
 (WY r n x.toks x.i x.end_ x.bad e.kind e.n e.text e.args).map fun y=>(⟨y.1,y.2.1,y.2.2.1,y.2.2.2.1⟩,⟨y.2.2.2.2.1,y.2.2.2.2.2.1,y.2.2.2.2.2.2.1,y.2.2.2.2.2.2.2⟩)
def iSL (r:Zd->Option (Zb×Zd)) (n:Nat) (x:Zd) (e:Zb):Option (Zb×Zd):=
 (Qm r n x.list x.at_ x.bad e.kind e.n e.text e.args).map fun y=>(⟨y.1,y.2.1,y.2.2.1,y.2.2.2.1⟩,⟨y.2.2.2.2.1,y.2.2.2.2.2.1,y.2.2.2.2.2.2⟩)
def sAL (r:Zc->Option (Zb×Zc)) (n:Nat) (x:Zc) (out:List Zb):Option (List Zb×Zc):=
 (X9 r n x.toks x.i x.end_ x.bad out).map fun y=>(y.2.2.2.2,⟨y.1,y.2.1,y.2.2.1,y.2.2.2.1⟩)
def iAL (r:Zd->Option (Zb×Zd)) (c:ByteArray) (n:Nat) (x:Zd) (out:List Zb):Option (List Zb×Zd):=
 (YF r c n x.list x.at_ x.bad out).map fun y=>(y.1,⟨y.2.1,y.2.2.1,y.2.2.2⟩)
theorem Zkb (r:Zc->Option (Zb×Zc)) (n:Nat) (x:Zc) (e:Zb):sPL r (n+1) x e=(Zo x star).bind fun y=>if y.1=true then (r (adS y.2)).bind fun z=>sPL r n z.2 (opE 3 e z.1) else some (e,y.2):=by
 obtain ⟨e1,e2,e3,e4⟩:=e;unfold sPL;rw [Qj];show Option.map _ ((Zo x star).bind _)=_;rcases Zo x star with _| ⟨b,y⟩
 ·simp
 ·cases b
  ·simp
  ·simp only [Zz8,if_true];show Option.map _ ((r (adS y)).bind _)=_;rcases r (adS y) with _| ⟨a,z⟩<;>simp [Zaw,opE]
theorem Zhf (r:Zd->Option (Zb×Zd)) (n:Nat) (x:Zd) (e:Zb):iPL r (n+1) x e=(Zf x star).bind fun y=>if y.1=true then (r y.2).bind fun z=>iPL r n z.2 (opE 3 e z.1) else some (e,y.2):=by
 obtain ⟨e1,e2,e3,e4⟩:=e;unfold iPL;rw [Yj];show Option.map _ ((Zf x star).bind _)=_;rcases Zf x star with _| ⟨b,y⟩
 ·simp
 ·cases b
  ·simp
  ·simp only [Zz8,if_true];rcases r y with _| ⟨a,z⟩<;>simp [opE]
theorem ZnH (r:Zc->Option (Zb×Zc)) (n:Nat) (x:Zc) (e:Zb):sSL r (n+1) x e=(Zo x plus).bind fun y=>(if y.1=true then some (true,y.2) else Zo y.2 minus).bind fun u=>if u.1=true then (Zo u.2 minus).bind fun v=>(r (adS v.2)).bind fun w=>sSL r n w.2 (opE (if v.1=true then 2 else 1) e w.1) else some (e,u.2):=by
 obtain ⟨e1,e2,e3,e4⟩:=e;unfold sSL;rw [WY];show Option.map _ (((Zo x plus).bind _).bind _)=_;rcases Zo x plus with _| ⟨b,y⟩
 ·simp
 ·cases b
  ·simp only [Zz8,ZAf,if_false];show Option.map _ (((Zo y minus).bind _).bind _)=_;rcases Zo y minus with _| ⟨c,u⟩
   ·simp
   ·cases c
    ·simp
    ·simp only [Zz8,if_true];show Option.map _ (((Zo u minus).bind _).bind _)=_;rcases Zo u minus with _| ⟨d,v⟩
     ·simp
     ·cases d<;>simp only [Zz8,ZAf,if_true,if_false]<;>show Option.map _ ((r (adS v)).bind _)=_<;>rcases r (adS v) with _| ⟨a,z⟩<;>simp [Zaw,opE]
  ·simp only [Zz8,if_true];show Option.map _ (((Zo y minus).bind _).bind _)=_;rcases Zo y minus with _| ⟨d,v⟩
   ·simp
   ·cases d<;>simp only [Zz8,ZAf,if_true,if_false]<;>show Option.map _ ((r (adS v)).bind _)=_<;>rcases r (adS v) with _| ⟨a,z⟩<;>simp [Zaw,opE]
theorem Zks (r:Zd->Option (Zb×Zd)) (n:Nat) (x:Zd) (e:Zb):iSL r (n+1) x e=if x.bad<0 then (Zf x plus).bind fun y=>if y.1=true then (r y.2).bind fun w=>iSL r n w.2 (opE 1 e w.1) else (Zf y.2 minus).bind fun z=>if z.1=true then (r z.2).bind fun w=>iSL r n w.2 (opE 2 e w.1) else some (e,z.2) else some (e,x):=by
 obtain ⟨e1,e2,e3,e4⟩:=e;unfold iSL;rw [Qm]
 by_cases hb:x.bad<0
 ·simp only [hb,decide_true,if_true];show Option.map _ (((Zf x plus).bind _).bind _)=_;rcases Zf x plus with _| ⟨b,y⟩
  ·simp
  ·cases b
   ·simp only [Zz8,Bool.not_false,if_true,ZAf,if_false];show Option.map _ (((Zf y minus).bind _).bind _)=_;rcases Zf y minus with _| ⟨c,z⟩
    ·simp
    ·cases c
     ·simp
     ·simp only [Zz8,Bool.not_true,ZAf,if_true,if_false];show Option.map _ ((r z).bind _)=_;rcases r z with _| ⟨a,w⟩<;>simp [opE]
   ·simp only [Zz8,Bool.not_true,ZAf,if_true,if_false];show Option.map _ ((r y).bind _)=_;rcases r y with _| ⟨a,w⟩<;>simp [opE]
 ·simp [hb]
theorem Ze0 (r:Zc->Option (Zb×Zc)) (n:Nat) (x:Zc) (out:List Zb):sAL r (n+1) x out=if x.bad<0 then (r x).bind fun y=>(YH 56 out [y.1]).bind fun o=>(Zo y.2 Zco).bind fun z=>if z.1=true then sAL r n (adS z.2) o else some (o,z.2) else some (out,x):=by
 unfold sAL;rw [X9]
 by_cases hb:x.bad<0
 ·simp only [hb,decide_true,if_true];show Option.map _ ((r x).bind _)=_;rcases r x with _| ⟨a,y⟩
  ·simp
  ·simp only [Zz8];rcases YH 56 out [a] with _| o
   ·simp
   ·simp only [Zz8];show Option.map _ ((Zo y Zco).bind _)=_;rcases Zo y Zco with _| ⟨b,z⟩
    ·simp
    ·cases b<;>simp [adS]
 ·simp [hb]
theorem JZ (r:Zd->Option (Zb×Zd)) (c:ByteArray) (n:Nat) (x:Zd) (out:List Zb):iAL r c (n+1) x out=if x.bad<0 then (r x).bind fun y=>(YH 56 out [y.1]).bind fun o=>(Zf y.2 c).bind fun z=>if z.1=true then some (o,z.2) else (Zn z.2 Zco).bind fun u=>iAL r c n u o else some (out,x):=by
 unfold iAL;rw [YF]
 by_cases hb:x.bad<0
 ·simp only [hb,decide_true,if_true];show Option.map _ ((r x).bind _)=_;rcases r x with _| ⟨a,y⟩
  ·simp
  ·simp only [Zz8];rcases YH 56 out [a] with _| o
   ·simp
   ·simp only [Zz8];rcases Zf y c with _| ⟨b,z⟩
    ·simp
    ·cases b
     ·simp only [Zz8,ZAf,if_false];show Option.map _ ((Zn z Zco).bind _)=_;rcases Zn z Zco with _| u<;>simp
     ·simp
 ·simp [hb]
theorem Zu5 (k:Nat) (x:Zc):ZH (k+1) x=(Z5 k x).bind fun y=>sPL (Z5 k) k y.2 y.1:=by
 rw [ZH];rcases Z5 k x with _| ⟨a,y⟩
 ·simp
 ·simp only [Zz8,sPL];cases Qj (Z5 k) k y.toks y.i y.end_ y.bad a.kind a.n a.text a.args<;>simp
theorem ZvB (k:Nat) (x:Zd):Zp (k+1) x=(Zt k x).bind fun y=>iPL (Zt k) k y.2 y.1:=by
 rw [Zp];rcases Zt k x with _| ⟨a,y⟩
 ·simp
 ·simp only [Zz8,iPL];cases Yj (Zt k) k y.list y.at_ y.bad a.kind a.n a.text a.args<;>simp
theorem Zu4 (k:Nat) (x:Zc):Xp (k+1) x=(ZH k x).bind fun y=>sSL (ZH k) k y.2 y.1:=by
 rw [Xp];rcases ZH k x with _| ⟨a,y⟩
 ·simp
 ·simp only [Zz8,sSL];cases WY (ZH k) k y.toks y.i y.end_ y.bad a.kind a.n a.text a.args<;>simp
theorem ZvA (k:Nat) (x:Zd):Z1 (k+1) x=(Zp k x).bind fun y=>iSL (Zp k) k y.2 y.1:=by
 rw [Z1];rcases Zp k x with _| ⟨a,y⟩
 ·simp
 ·simp only [Zz8,iSL];cases Qm (Zp k) k y.list y.at_ y.bad a.kind a.n a.text a.args<;>simp
theorem Zsi (k:Nat) (x:Zc) (c:ByteArray):WI (k+1) x c=(Zo x c).bind fun y=>if y.1=true then some ([],adS y.2) else (sAL (Zq k) k y.2 []).bind fun z=>(Zu z.2 c).bind fun u=>some (z.1,u):=by
 rw [WI];rcases Zo x c with _| ⟨b,y⟩
 ·simp
 ·cases b
  ·simp only [Zz8,ZAf,if_false,sAL];cases X9 (Zq k) k y.toks y.i y.end_ y.bad []<;>simp
  ·simp [adS]
theorem ZsA (k:Nat) (x:Zd) (c:ByteArray):Yq (k+1) x c=(Zf x c).bind fun y=>if y.1=true then some ([],y.2) else iAL (Zj k) c k y.2 []:=by
 rw [Yq];rcases Zf x c with _| ⟨b,y⟩
 ·simp
 ·cases b
  ·simp only [Zz8,ZAf,if_false,iAL];cases YF (Zj k) c k y.list y.at_ y.bad []<;>simp
  ·simp
def gE (o o':Option Nat) (es ei:Zb):Prop:=∀j',o'=some j'->es=ei/\∃j,o=some j/\j<j'/\es.bk+1<=200*(j'-j)
def Ag (T:List Zg) (E:Int) (o:Option Nat) (sX:Nat->Option (Zb×Zc)) (iX:Nat->Option (Zb×Zd)):Prop:=
 ∃es ei x' p' o',Rl T E x' p' o'/\gE o o' es ei/\Ev fun k=>sX k=some (es,x')/\iX k=some (ei,p')
def AgN (T:List Zg) (E:Int) (m:Nat) (sX:Nat->Zc->Option (Zb×Zc)) (iX:Nat->Zd->Option (Zb×Zd)):Prop:=
 ∀x p o,Rl T E x p o->(∀j,o=some j->T.length-j<=m)->Ag T E o (fun k=>sX k x) (fun k=>iX k p)
def go (j0:Nat) (o:Option Nat) (es ei:Zb):Prop:=∀j,o=some j->es=ei/\j0<j/\es.bk+1<=200*(j-j0)
theorem Zp5 (n:Int) (a b:Zb):(opE n a b).bk=2+(a.bk+b.bk):=by
 rw [Zb.ZB];simp [opE,bkS,Qh];try rfl
theorem ZvC {o1:Option Nat} {j0 j:Nat} {es ei ea eb:Zb} (n:Int) (h:go j0 (some j) es ei) (h1:gE (some (j+1)) o1 ea eb):go j0 o1 (opE n es ea) (opE n ei eb):=by
 intro j1 e1;obtain ⟨rfl,j',e2,h2,h3⟩:=h1 j1 e1;cases e2;obtain ⟨rfl,h4,h5⟩:=h j rfl;rw [Zp5];exact ⟨rfl,by omega,by omega⟩
section
variable {T:List Zg} {E:Int}
theorem Znw:Zrb star:=⟨42,[],rfl,by decide⟩
theorem Znx:Zrb plus:=⟨43,[],rfl,by decide⟩
theorem Zlk:Zrb minus:=⟨45,[],rfl,by decide⟩
theorem Zll:Zrb Zco:=⟨44,[],rfl,by decide⟩
theorem Zp1 (ok:ZgU T E) (m:Nat) (hA:∀m',m'<m->AgN T E m' Z5 Zt) (j0:Nat):∀(d:Nat) (x:Zc) (p:Zd) (o:Option Nat) (es ei:Zb),Rl T E x p o->(∀j,o=some j->T.length-j<=d/\T.length-j<=m)->go j0 o es ei->
  ∃es' ei' x' p' o',Rl T E x' p' o'/\go j0 o' es' ei'/\Ev2 fun k n=>sPL (Z5 k) n x es=some (es',x')/\iPL (Zt k) n p ei=some (ei',p'):=by
 intro d
 induction d with
 | zero=>
  intro x p o es ei h hd hg;obtain ⟨b,h1,h2,h3⟩:=Zar ok h Znw
  have hb:b=false:=by
   cases b with
   | false=>rfl
   | true=>obtain ⟨j,e,hl,_⟩:=h3 rfl;have:=(hd j e).1;omega
  subst hb;exact ⟨es,ei,x,p,o,h,hg,.of fun k n=>⟨by rw [Zkb,h1];rfl,by rw [Zhf,h2];rfl⟩⟩
 | succ d ih=>
  intro x p o es ei h hd hg;obtain ⟨b,h1,h2,h3⟩:=Zar ok h Znw;cases b with
  | false=>exact ⟨es,ei,x,p,o,h,hg,.of fun k n=>⟨by rw [Zkb,h1];rfl,by rw [Zhf,h2];rfl⟩⟩
  | true=>
   obtain ⟨j,rfl,hl,h4⟩:=h3 rfl;have hdj:=hd j rfl;obtain ⟨ea,eb,x1,p1,o1,r1,g1,B1,e1⟩:=hA (T.length-(j+1)) (by omega) _ _ _ h4 (fun j' e=>by cases e;omega);obtain ⟨es',ei',x',p',o',r2,g2,B2,e2⟩:=ih x1 p1 o1 (opE 3 es ea) (opE 3 ei eb) r1 (fun j' e=>by obtain ⟨_,j2,e3,h5,_⟩:=g1 j' e;cases e3;omega) (ZvC (o1:=o1) 3 hg g1);refine ⟨es',ei',x',p',o',r2,g2,max B1 (B2+1),fun k n hk hn=> ?_⟩;obtain ⟨n,rfl⟩:∃n',n=n'+1:=⟨n-1,by omega⟩;have q1:=e1 k (by omega);have q2:=e2 k n (by omega) (by omega);exact ⟨by rw [Zkb,h1];simp only [Zz8,if_true,q1.1,q2.1],by rw [Zhf,h2];simp only [Zz8,if_true,q1.2,q2.2]⟩
theorem Zrm (ok:ZgU T E) (m:Nat) (hA:∀m',m'<m->AgN T E m' ZH Zp) (j0:Nat):∀(d:Nat) (x:Zc) (p:Zd) (o:Option Nat) (es ei:Zb),Rl T E x p o->(∀j,o=some j->T.length-j<=d/\T.length-j<=m)->go j0 o es ei->
  ∃es' ei' x' p' o',Rl T E x' p' o'/\go j0 o' es' ei'/\Ev2 fun k n=>sSL (ZH k) n x es=some (es',x')/\iSL (Zp k) n p ei=some (ei',p'):=by
 have stop:∀(x:Zc) (p:Zd) (o:Option Nat) (es ei:Zb),Rl T E x p o->go j0 o es ei->Zo x plus=some (false,x)->Zf p plus=some (false,p)->Zo x minus=some (false,x)->Zf p minus=some (false,p)->
   ∃es' ei' x' p' o',Rl T E x' p' o'/\go j0 o' es' ei'/\Ev2 fun k n=>sSL (ZH k) n x es=some (es',x')/\iSL (Zp k) n p ei=some (ei',p'):=by
  intro x p o es ei h hg h1 h2 h3 h4;refine ⟨es,ei,x,p,o,h,hg,.of fun k n=>⟨by rw [ZnH,h1];simp [h3], ?_⟩⟩;rw [Zks,h2]
  split
  ·simp [h4]
  ·rfl
 have step:∀(d:Nat) (x:Zc) (p:Zd) (j:Nat) (es ei:Zb) (c:Bool),j<T.length->T.length-j<=d+1->T.length-j<=m->p.bad<0->Rl T E (adS x) (adI p) (some (j+1))->go j0 (some j) es ei->
   (∀(x:Zc) (p:Zd) (o:Option Nat) (es ei:Zb),Rl T E x p o->(∀j,o=some j->T.length-j<=d/\T.length-j<=m)->go j0 o es ei->
    ∃es' ei' x' p' o',Rl T E x' p' o'/\go j0 o' es' ei'/\Ev2 fun k n=>sSL (ZH k) n x es=some (es',x')/\iSL (Zp k) n p ei=some (ei',p'))->
   Zo x plus=some (!c,x)->Zo x minus=some (c,x)->Zf p plus=some (!c,if (!c)=true then adI p else p)->Zf p minus=some (c,if c=true then adI p else p)->
   ∃es' ei' x' p' o',Rl T E x' p' o'/\go j0 o' es' ei'/\Ev2 fun k n=>sSL (ZH k) n x es=some (es',x')/\iSL (Zp k) n p ei=some (ei',p'):=by
  intro d x p j es ei c hl hd hm hb h4 hg ih a1 a2 a3 a4;obtain ⟨ea,eb,x1,p1,o1,r1,g1,B1,e1⟩:=hA (T.length-(j+1)) (by omega) _ _ _ h4 (fun j' e=>by cases e;omega);obtain ⟨es',ei',x',p',o',r2,g2,B2,e2⟩:=ih x1 p1 o1 (opE (if c=true then 2 else 1) es ea) (opE (if c=true then 2 else 1) ei eb) r1 (fun j' e=>by obtain ⟨_,j2,e3,h5,_⟩:=g1 j' e;cases e3;omega) (ZvC _ hg g1);refine ⟨es',ei',x',p',o',r2,g2,max B1 (B2+1),fun k n hk hn=> ?_⟩;obtain ⟨n,rfl⟩:∃n',n=n'+1:=⟨n-1,by omega⟩;have q1:=e1 k (by omega);have q2:=e2 k n (by omega) (by omega);constructor
  ·rw [ZnH,a1];cases c
   ·simp only [Bool.not_false,Zz8,if_true,a2,q1.1];exact q2.1
   ·simp only [Bool.not_true,Zz8,ZAf,if_false,a2,if_true,q1.1];exact q2.1
  ·rw [Zks,if_pos hb,a3];cases c
   ·simp only [Bool.not_false,Zz8,if_true,q1.2];exact q2.2
   ·simp only [Bool.not_true,Zz8,ZAf,if_false,a4,if_true,q1.2];exact q2.2
 have no_both:∀{x:Zc} {j:Nat},x=⟨T,j,E, -1⟩->j<T.length->Zo x plus=some (true,x)->Zo x minus=some (false,x):=by
  rintro x j rfl hl h;rw [Zgx ok (by omega)] at h ⊢;have h1:ZdD T j plus=true:=by simpa using h
  have e:T[j]? =some T[j]:=ZAg hl;rw [ZhB e] at h1 ⊢;have hp:T[j].text=plus:=by simp only [ZcD,ZkU] at h1;simp at h1;rcases h1 with h1| h1<;>exact h1.2
  simp [ZcD,ZkU,hp,plus,minus]
 intro d
 induction d with
 | zero=>
  intro x p o es ei h hd hg;obtain ⟨b,h1,h2,h3⟩:=Zar ok h Znx;obtain ⟨c,i1,i2,i3⟩:=Zar ok h Zlk
  have hb:b=false:=by
   cases b with
   | false=>rfl
   | true=>obtain ⟨j,e,hl,_⟩:=h3 rfl;have:=(hd j e).1;omega
  have hc:c=false:=by
   cases c with
   | false=>rfl
   | true=>obtain ⟨j,e,hl,_⟩:=i3 rfl;have:=(hd j e).1;omega
  subst hb hc;exact stop x p o es ei h hg h1 h2 i1 i2
 | succ d ih=>
  intro x p o es ei h hd hg;obtain ⟨b,h1,h2,h3⟩:=Zar ok h Znx;obtain ⟨c,i1,i2,i3⟩:=Zar ok h Zlk;cases b with
  | true=>
   obtain ⟨j,rfl,hl,h4⟩:=h3 rfl;obtain ⟨hj,hx,hp⟩:=h
   have hc:c=false:=by
    have:=no_both hx hl h1;rw [i1] at this;simpa using this
   subst hc;exact step d x p j es ei false hl (hd j rfl).1 (hd j rfl).2 (by rw [hp];show (-1:Int)<0;decide) h4 hg ih h1 i1 h2 i2
  | false=>
   cases c with
   | false=>exact stop x p o es ei h hg h1 h2 i1 i2
   | true=>
    obtain ⟨j,rfl,hl,h4⟩:=i3 rfl;obtain ⟨hj,hx,hp⟩:=h;exact step d x p j es ei true hl (hd j rfl).1 (hd j rfl).2 (by rw [hp];show (-1:Int)<0;decide) h4 hg ih h1 i1 h2 i2
end
def lw (l:List Zb):Nat:=(l.map fun e=>e.bk+1).sum
theorem Zss (l:List Zb) (e:Zb):lw (l++[e])=lw l+(e.bk+1):=by simp [lw]
theorem Zxx (l:List Zb):bkS Zb.bk l=lw l:=by
 unfold bkS lw Qh
 induction l with
 | nil=>rfl
 | cons e l ih=>simp only [List.length_cons,List.map_cons,List.sum_cons] at ih ⊢;omega
theorem ZlT (k n:Int) (t:ByteArray) (l:List Zb):(Zb.mk k n t l).bk=t.size+lw l:=by
 rw [Zb.ZB,<-Zxx];try rfl
theorem ZqX (out:List Zb) (e:Zb) (h:out.length<=100):YH 56 out [e]=some (out++[e]):=XG (by simp;omega) (by omega)
section
variable {T:List Zg} {E:Int}
def goL (j0:Nat) (o:Option Nat) (ls li:List Zb):Prop:=∀j,o=some j->ls=li/\j0<=j/\lw ls<=200*(j-j0)/\ls.length<=j
def Zzz (j0:Nat) (o:Option Nat) (ls li:List Zb):Prop:=∀j,o=some j->ls=li/\j0<j/\lw ls<=200*(j-j0-1)
theorem ZpE {x:Zc} {p:Zd} {o:Option Nat} (ok:ZgU T E) (h:Rl T E x p o) {s:ByteArray} (hs:Zrb s):∃b,Zf p s=some (b,if b=true then adI p else p)/\Zo x s=some (b,x)/\
  (b=true->∃j,o=some j/\j<T.length/\Rl T E (adS x) (adI p) (some (j+1))/\∀s',Zrb s'->s'≠s->Zo x s'=some (false,x)):=by
 obtain ⟨b,h1,h2,h3⟩:=Zar ok h hs;refine ⟨b,h2,h1,fun hb=> ?_⟩;obtain ⟨j,e,hl,h4⟩:=h3 hb;refine ⟨j,e,hl,h4,fun s' hs' hne=> ?_⟩;subst e hb;obtain ⟨hj,rfl,rfl⟩:=h;have ej:T[j]? =some T[j]:=ZAg hl;rw [Zgx ok hj] at h1 ⊢;have h5:ZdD T j s=true:=by simpa using h1
 rw [ZhB ej] at h5 ⊢;have hp:T[j].text=s:=by simp only [ZcD,ZkU] at h5;simp at h5;rcases h5 with h5| h5<;>exact h5.2
 simp [ZcD,ZkU,hp,Ne.symm hne]
theorem Zqi (ok:ZgU T E) (m:Nat) (hA:∀m',m'<=m->AgN T E m' Zq Zj) (c:ByteArray) (hc:Zrb c) (hcc:c≠Zco) (j0:Nat):∀(d:Nat) (x:Zc) (p:Zd) (o:Option Nat) (ls li:List Zb),Rl T E x p o->(∀j,o=some j->T.length-j<=d/\T.length-j<=m)->goL j0 o ls li->
  ∃ls' li' x' p' o',Rl T E x' p' o'/\Zzz j0 o' ls' li'/\Ev2 fun k n=>((sAL (Zq k) n x ls).bind fun z=>(Zu z.2 c).bind fun u=>some (z.1,u))=some (ls',x')/\iAL (Zj k) c n p li=some (li',p'):=by
 intro d
 induction d with
 | zero=>
  intro x p o ls li h hd hg;cases o with
  | none=>
   have hb:=h.bad ok;obtain ⟨xf,pf,o',t1,t2,t3,t4⟩:=ZjY ok h c;have ho:o'=none:=by cases o' with | none=>rfl| some j'=>obtain ⟨j,e,_⟩:=t4 j' rfl;cases e
   subst ho
   have hpf:Rl T E xf p none:=by
    obtain ⟨b,h0,h1,h2,h3,h4,h5⟩:=h;obtain ⟨b',k0,k1,k2,k3,k4,k5⟩:=t3;have:Zu x c=some x\/True:=.inr trivial;unfold Zu at t1;rw [Zi7 hb.1] at t1;simp only [Zz8,Bool.not_false,if_true] at t1;have e1:YD x=some (zE,x):=by unfold YD;simp [show ¬x.bad<0 by omega,zE]
    rw [e1] at t1;obtain rfl:x=xf:=by simpa using t1
    exact ⟨b,h0,h1,h2,h3,h4,h5⟩
   refine ⟨ls,li,xf,p,none,hpf,(by intro j e;cases e),.of fun k n=>⟨?_, ?_⟩⟩
   ·rw [Ze0,if_neg (by omega)];simp [t1]
   ·rw [JZ,if_neg (by omega)]
  | some j=>
   obtain ⟨hj,hx,hp⟩:=id h;have hjl:j=T.length:=by have:=(hd j rfl).1;omega
   obtain ⟨ea,eb,x1,p1,o1,r1,g1,B1,e1⟩:=hA _ (hd j rfl).2 x p (some j) h (fun j' e=>by cases e;exact ZAe _)
   have ho1:o1=none:=by
    cases o1 with
    | none=>rfl
    | some j1=>obtain ⟨_,j2,e2,h2,_⟩:=g1 j1 rfl;cases e2;have:=r1.1;omega
   subst ho1;have hb:=r1.bad ok;have hlen:=ok.len;obtain ⟨hl1,hl2,hl3,hl4⟩:=hg j rfl;subst hl1;obtain ⟨xf,pf,o',t1,t2,t3,t4⟩:=ZjY ok r1 c;have ho:o'=none:=by cases o' with | none=>rfl| some j'=>obtain ⟨j,e,_⟩:=t4 j' rfl;cases e
   subst ho;obtain ⟨xg,pg,o'',u1,u2,u3,u4⟩:=ZjY ok r1 Zco;have ho:o''=none:=by cases o'' with | none=>rfl| some j'=>obtain ⟨j,e,_⟩:=u4 j' rfl;cases e
   subst ho;have hbg:=u3.bad ok;have hxg:YD x1=some (zE,x1):=by unfold YD;simp [show ¬x1.bad<0 by omega,zE]
   have hx1:x1=xf:=by unfold Zu at t1;rw [Zi7 hb.1] at t1;simpa [hxg] using t1
   have hpg:Ye p1=some (zE,p1):=by unfold Ye;simp [show ¬p1.bad<0 by omega,zE]
   have hp1:p1=pg:=by rw [ZdH (Ze7 hb.2),ZjZ,ZoN,hpg] at u2;simpa using u2
   subst hx1 hp1;refine ⟨ls++[ea],ls++[eb],x1,p1,none,r1,(by intro j e;cases e),B1+2,fun k n hk hn=> ?_⟩;obtain ⟨n,rfl⟩:∃n',n=n'+2:=⟨n-2,by omega⟩;have q1:=e1 k (by omega);dsimp only at q1;constructor
   ·rw [Ze0,if_pos (by rw [hx];show (-1:Int)<0;decide),q1.1];simp only [Zz8];rw [ZqX _ _ (by omega)];simp only [Zz8,Zi7 hb.1,ZAf,if_false,t1]
   ·rw [JZ,if_pos (by rw [hp];show (-1:Int)<0;decide),q1.2];simp only [Zz8];rw [ZqX _ _ (by omega)];simp only [Zz8,Ji (Ze7 hb.2),ZjZ,ZAf,if_false,u2];rw [JZ,if_neg (by omega)]
 | succ d ih=>
  intro x p o ls li h hd hg;cases o with
  | none=>exact ih x p none ls li h (by intro j e;cases e) (by intro j e;cases e)
  | some j=>
   obtain ⟨hj,hx,hp⟩:=id h;obtain ⟨ea,eb,x1,p1,o1,r1,g1,B1,e1⟩:=hA _ (hd j rfl).2 x p (some j) h (fun j' e=>by cases e;exact ZAe _);have hlen:=ok.len;obtain ⟨hl1,hl2,hl3,hl4⟩:=hg j rfl;subst hl1;have sx:x.bad<0:=by rw [hx];show (-1:Int)<0;decide
   have sp:p.bad<0:=by rw [hp];show (-1:Int)<0;decide
   obtain ⟨bc,c1,c2,c3⟩:=ZpE ok r1 hc;obtain ⟨bm,m1,m2,m3⟩:=ZpE ok r1 Zll;cases bc with
   | true=>
    obtain ⟨j1,rfl,hl,r2,c4⟩:=c3 rfl;obtain ⟨rfl,j2,ej,g2,g3⟩:=g1 j1 rfl;cases ej;have hm:=c4 Zco Zll (Ne.symm hcc);have t1:Zu x1 c=some (adS x1):=by unfold Zu;rw [c2];rfl
    refine ⟨ls++[ea],ls++[ea],adS x1,adI p1,some (j1+1),r2,fun j' e=> ?_,B1+2,fun k n hk hn=> ?_⟩
    ·cases e;refine ⟨rfl,by omega, ?_⟩;rw [Zss];omega
    ·obtain ⟨n,rfl⟩:∃n',n=n'+2:=⟨n-2,by omega⟩;have q1:=e1 k (by omega);dsimp only at q1;constructor
     ·rw [Ze0,if_pos sx,q1.1];simp only [Zz8];rw [ZqX _ _ (by omega)];simp only [Zz8,hm,ZAf,if_false,t1]
     ·rw [JZ,if_pos sp,q1.2];simp only [Zz8];rw [ZqX _ _ (by omega)];simp only [Zz8,c1,if_true]
   | false=>
    cases bm with
    | true=>
     obtain ⟨j1,rfl,hl,r2,m4⟩:=m3 rfl;obtain ⟨rfl,j2,ej,g2,g3⟩:=g1 j1 rfl;cases ej
     have n1:Zn p1 Zco=some (adI p1):=by
      obtain ⟨hj1,hx1,hp1⟩:=r1;subst hp1 hx1;rw [ZdH (Zb0 hj1)];have:=Zs6 ok hj1 Zco;rw [Zgx ok hj1] at m2;have h5:ZdD T j1 Zco=true:=by simpa using m2
      rw [Bool.or_comm,this,h5];rfl
     obtain ⟨ls',li',x',p',o',r3,g4,B2,e2⟩:=ih (adS x1) (adI p1) (some (j1+1)) (ls++[ea]) (ls++[ea]) r2 (fun j' e=>by cases e;have:=hd j rfl;omega) (fun j' e=>by
      cases e;refine ⟨rfl,by omega, ?_,by simp;omega⟩;rw [Zss];omega)
     refine ⟨ls',li',x',p',o',r3,g4,max B1 B2+2,fun k n hk hn=> ?_⟩;obtain ⟨n,rfl⟩:∃n',n=n'+1:=⟨n-1,by omega⟩;have q1:=e1 k (by omega);dsimp only at q1;have q2:=e2 k n (by omega) (by omega);constructor
     ·rw [Ze0,if_pos sx,q1.1];simp only [Zz8];rw [ZqX _ _ (by omega)];simp only [Zz8,m2,if_true];exact q2.1
     ·rw [JZ,if_pos sp,q1.2];simp only [Zz8];rw [ZqX _ _ (by omega)];simp only [Zz8,c1,ZAf,if_false,n1];exact q2.2
    | false=>
     obtain ⟨xf,pf,f1,f2,f3⟩:=ZrO ok r1;have t1:Zu x1 c=some xf:=by unfold Zu;rw [c2];simp [f1]
     have n1:Zn p1 Zco=some pf:=by
      cases o1 with
      | none=>rw [ZdH (Ze7 (r1.bad ok).2),ZjZ,ZoN,f2];rfl
      | some j1=>
       obtain ⟨hj1,hx1,hp1⟩:=r1;subst hp1 hx1;rw [ZdH (Zb0 hj1)];have:=Zs6 ok hj1 Zco;rw [Zgx ok hj1] at m2;have h5:ZdD T j1 Zco=false:=by simpa using m2
       rw [Bool.or_comm,this,h5,f2];rfl
     have hb:=f3.bad ok;refine ⟨ls++[ea],ls++[eb],xf,pf,none,f3,(by intro j e;cases e),B1+2,fun k n hk hn=> ?_⟩;obtain ⟨n,rfl⟩:∃n',n=n'+2:=⟨n-2,by omega⟩;have q1:=e1 k (by omega);dsimp only at q1;constructor
     ·rw [Ze0,if_pos sx,q1.1];simp only [Zz8];rw [ZqX _ _ (by omega)];simp only [Zz8,m2,ZAf,if_false,t1]
     ·rw [JZ,if_pos sp,q1.2];simp only [Zz8];rw [ZqX _ _ (by omega)];simp only [Zz8,c1,ZAf,if_false,n1];rw [JZ,if_neg (by omega)]
theorem lists (ok:ZgU T E) (m:Nat) (hA:∀m',m'<=m->AgN T E m' Zq Zj) (c:ByteArray) (hc:Zrb c) (hcc:c≠Zco) (x:Zc) (p:Zd) (o:Option Nat) (h:Rl T E x p o) (hd:∀j,o=some j->T.length-j<=m):
  ∃ls li x' p' o',Rl T E x' p' o'/\(∀j',o'=some j'->ls=li/\∃j,o=some j/\j<j'/\lw ls<=200*(j'-j-1))/\Ev fun k=>WI k x c=some (ls,x')/\Yq k p c=some (li,p'):=by
 obtain ⟨bc,c1,c2,c3⟩:=ZpE ok h hc;cases bc with
 | true=>
  obtain ⟨j,rfl,hl,r2,_⟩:=c3 rfl;refine ⟨[],[],adS x,adI p,some (j+1),r2,fun j' e=>⟨rfl,j,rfl,by cases e;omega,by simp [lw]⟩,1,fun k hk=> ?_⟩;obtain ⟨k,rfl⟩:∃n',k=n'+1:=⟨k-1,by omega⟩;exact ⟨by rw [Zsi,c2];rfl,by rw [ZsA,c1];rfl⟩
 | false=>
  obtain ⟨j0,hj0⟩:∃j0,∀j,o=some j->j=j0:=by
   cases o with
   | none=>exact ⟨0,by simp⟩
   | some j=>exact ⟨j,by simp⟩
  obtain ⟨ls,li,x',p',o',r1,g1,B,e1⟩:=Zqi ok m hA c hc hcc j0 m x p o [] [] h (fun j e=>⟨hd j e,hd j e⟩) (fun j e=>⟨rfl,by rw [hj0 j e];exact ZAe _,by simp [lw],by simp⟩);refine ⟨ls,li,x',p',o',r1,fun j' e=> ?_,B+1,fun k hk=> ?_⟩
  ·obtain ⟨h1,h2,h3⟩:=g1 j' e;cases o with
   | some j=>have:=hj0 j rfl;subst this;exact ⟨h1,j,rfl,h2,h3⟩
   | none=>
    exfalso
    have q:=(e1 (B+1) (B+1) (by omega) (by omega)).2;have hb:=h.bad ok;rw [JZ,if_neg (by omega)] at q;have:p=p':=by simpa using congrArg (fun y=>y.map Prod.snd) q
    subst this;rw [e] at r1;have:=r1.2.2;rw [this] at hb;exact absurd hb.2 (by show ¬(0:Int)<= -1;decide)
  ·obtain ⟨k,rfl⟩:∃n',k=n'+1:=⟨k-1,by omega⟩;have q:=e1 k k (by omega) (by omega);exact ⟨by rw [Zsi,c2];simp only [Zz8,ZAf,if_false];exact q.1,by rw [ZsA,c1];simp only [Zz8,ZAf,if_false];exact q.2⟩
end
def Zry:ByteArray:=⟨#[40]⟩
def Zuu:ByteArray:=⟨#[41]⟩
def Zuz:ByteArray:=⟨#[91]⟩
def Zyf:ByteArray:=⟨#[93]⟩
def eqS:ByteArray:=⟨#[61]⟩
def Zqk:ByteArray:=⟨#[60]⟩
def ZpQ:ByteArray:=⟨#[61,61]⟩
def ZxA:ByteArray:=⟨#[108,101,116]⟩
def kIn:ByteArray:=⟨#[105,110]⟩
def kIf:ByteArray:=⟨#[105,102]⟩
def Zqn:ByteArray:=⟨#[116,104,101,110]⟩
def Zqo:ByteArray:=⟨#[101,108,115,101]⟩
def ZxB:ByteArray:=⟨#[102,111,114]⟩
def kDo:ByteArray:=⟨#[100,111]⟩
theorem ZzD (t:ByteArray):∃z,Z0 t=some z/\ZG t=some z:=by
 obtain ⟨z,h⟩:=Zfz t;exact ⟨z,by rw [show Z0 t=ZG t by unfold Z0 ZG;rfl,h],h⟩
section
variable {T:List Zg} {E:Int}
theorem Zui (ok:ZgU T E) (m:Nat) (IH:∀m',m'<m->AgN T E m' Zq Zj):AgN T E m Z5 Zt:=by
 intro x p o h hd;obtain ⟨xf,pf,f1,f2,f3⟩:=ZrO ok h;have hlen:=ok.len
 have bad:(∀k,200<=k->Z5 (k+1) x=some (zE,xf)/\Zt (k+1) p=some (zE,pf))->Ag T E o (fun k=>Z5 k x) (fun k=>Zt k p):=by
  intro hk;refine ⟨zE,zE,xf,pf,none,f3,(by intro j e;cases e),201,fun k hk2=> ?_⟩;obtain ⟨k,rfl⟩:∃n',k=n'+1:=⟨k-1,by omega⟩;exact hk k (by omega)
 have symz:∀s,Zw p=some (zT,p)->Zf p s=some (false,p):=fun s hn=>by rw [Ji hn,ZjZ];rfl
 have badI:∀k,Zw p=some (zT,p)->Zt (k+1) p=some (zE,pf):=by
  intro k hn;rw [Zt,hn];simp only [Zz8];simp [zT,symz _ hn,f2]
 cases o with
 | none=>
  have hb:=h.bad ok;refine bad fun k hk=>⟨?_,badI k (Ze7 hb.2)⟩;rw [Z5];simp [show 0<=x.bad from hb.1,f1]
 | some j=>
  obtain ⟨hj,hx,hp⟩:=id h;cases e:T[j]? with
  | none=>
   have hl:T.length<=j:=List.getElem?_eq_none_iff.1 e;refine bad fun k hk=>⟨?_,badI k (by rw [hp,Zb0 hj,e];rfl)⟩;rw [Z5,hx];rw [hx] at f1;simp [show ((T.length:Int)<=(j:Int)) by omega,f1]
  | some t=>
   obtain ⟨hl,rfl⟩:=List.getElem?_eq_some_iff.1 e;have hm:=List.getElem_mem hl;have htx:=ok.tx _ hm;have ad:=Zv9 ok hl;rw [<-hx,<-hp] at ad;have hnx:Zw p=some (T[j],p):=by rw [hp,Zb0 hj,e];rfl
   have sgood:∀k,Z5 (k+1) x=(at? T (j:Int)).bind fun x3=>
     if (decide (x3.kind=2))=true then (ZeS x3.n).bind fun x4=>some (x4,adS x)
     else if (decide (x3.kind=3))=true then some ((Zb.mk 2 0 x3.text []),adS x)
     else (if (decide (x3.kind=1))=true then (ZR k x3.text).bind fun x6=>some x6 else some false).bind fun x5=>
      if x5=true then (ZbL x3.text).bind fun x7=>some (x7,adS x)
      else (if (decide (x3.kind=1))=true then (Z0 x3.text).bind fun x9=>some (decide (0<=x9)) else some false).bind fun x8=>
       if x8=true then (Zu (adS x) Zry).bind fun x10=>(WI k x10 Zuu).bind fun x11=>some ((Zb.mk 5 0 x3.text x11.1),x11.2)
       else (Wx x3 Zuz).bind fun x12=>if x12=true then (WI k (adS x) Zyf).bind fun x13=>some ((Zb.mk 4 0 (⟨#[]⟩:ByteArray) x13.1),x13.2)
        else (Wx x3 Zry).bind fun x14=>if x14=true then (Zq k (adS x)).bind fun x15=>(Zu x15.2 Zuu).bind fun x16=>some (x15.1,x16)
         else (YD x).bind fun x17=>some (x17.1,x17.2):=by
    intro k;rw [Z5,hx];simp only [show ¬((0:Int)<= -1) by omega,decide_false,ZAf,if_false,show ¬((T.length:Int)<=(j:Int)) by omega,Zz8]
    rfl
   have igood:∀k,Zt (k+1) p=
     if (decide (T[j].kind=2))=true then some ((Zb.mk 1 T[j].n (⟨#[]⟩:ByteArray) []),adI p)
     else if (decide (T[j].kind=3))=true then some ((Zb.mk 2 0 T[j].text []),adI p)
     else (if (decide (T[j].kind=1))=true then (ZS k T[j].text).bind fun x3=>some x3 else some false).bind fun x2=>
      if x2=true then some ((Zb.mk 3 0 T[j].text []),adI p)
      else (if (decide (T[j].kind=1))=true then (ZG T[j].text).bind fun x5=>some (decide (0<=x5)) else some false).bind fun x4=>
       if x4=true then (Zn (adI p) Zry).bind fun x6=>(Yq k x6 Zuu).bind fun x7=>some ((Zb.mk 5 0 T[j].text x7.1),x7.2)
       else if ZcD T[j] Zuz=true then (Yq k (adI p) Zyf).bind fun x9=>some ((Zb.mk 4 0 (⟨#[]⟩:ByteArray) x9.1),x9.2)
        else if ZcD T[j] Zry=true then (Zj k (adI p)).bind fun x11=>(Zn x11.2 Zuu).bind fun x12=>some (x11.1,x12)
         else (Ye p).bind fun x13=>some (x13.1,x13.2):=by
    intro k;rw [Zt,hnx];simp only [Zz8];have s1:Zf p (⟨#[91]⟩:ByteArray)=some (ZcD T[j] Zuz,if ZcD T[j] Zuz=true then adI p else p):=Ji hnx _;have s2:Zf p (⟨#[40]⟩:ByteArray)=some (ZcD T[j] Zry,if ZcD T[j] Zry=true then adI p else p):=Ji hnx _;rw [s1];simp only [Zz8];cases hb1:ZcD T[j] Zuz
    ·simp only [ZAf,if_false];rw [s2];cases hb2:ZcD T[j] Zry<;>rfl
    ·rfl
   have done:∀(ex:Zb),ex.bk+1<=200->(∀k,200<=k->Z5 (k+1) x=some (ex,adS x)/\Zt (k+1) p=some (ex,adI p))->Ag T E (some j) (fun k=>Z5 k x) (fun k=>Zt k p):=by
    intro ex hbk hk;refine ⟨ex,ex,adS x,adI p,some (j+1),ad,fun j' e=>⟨rfl,j,rfl,by cases e;omega,by cases e;omega⟩,201,fun k hk2=> ?_⟩;obtain ⟨k,rfl⟩:∃n',k=n'+1:=⟨k-1,by omega⟩;exact hk k (by omega)
   have hat:at? T (j:Int)=some T[j]:=ZJ hl;have hn0:T.length-(j+1)<m:=by have:=hd j rfl;omega
   obtain ⟨z,z1,z2⟩:=ZzD T[j].text;have vn:∀k,200<=k->ZR k T[j].text=some (WJ T[j].text)/\ZS k T[j].text=some (WJ T[j].text):=fun k hk=>Jh _ (by omega) (by omega) (by omega)
   by_cases k2:T[j].kind=2
   ·refine done ⟨1,T[j].n,⟨#[]⟩,[]⟩ (by rw [ZlT];simp [lw];try decide) fun k hk=>⟨?_, ?_⟩
    ·rw [sgood,hat];simp only [Zz8,k2,decide_true,if_true,ZeS]
    ·rw [igood];simp only [k2,decide_true,if_true]
   by_cases k3:T[j].kind=3
   ·refine done ⟨2,0,T[j].text,[]⟩ (by rw [ZlT];simp [lw];omega) fun k hk=>⟨?_, ?_⟩
    ·rw [sgood,hat];simp [k3]
    ·rw [igood];simp [k3]
   by_cases k1:T[j].kind=1
   ·have nosym:∀s,ZcD T[j] s=false:=fun s=>by simp [ZcD,k1]
    cases hv:WJ T[j].text with
    | true=>
     refine done ⟨3,0,T[j].text,[]⟩ (by rw [ZlT];simp [lw];omega) fun k hk=>⟨?_, ?_⟩
     ·rw [sgood,hat];simp [k1,(vn k hk).1,hv,ZbL]
     ·rw [igood];simp [k1,(vn k hk).2,hv]
    | false=>
     by_cases hz:0<=z
     ·obtain ⟨x1,p1,o1,t1,t2,r1,g1⟩:=ZjY ok ad Zry;obtain ⟨ls,li,x2,p2,o2,r2,g2,B,e2⟩:=lists ok (m-1) (fun m' hm'=>IH m' (by omega)) Zuu ⟨41,[],rfl,by decide⟩ (by decide) x1 p1 o1 r1 (fun j' e=>by obtain ⟨j2,e2,h2⟩:=g1 j' e;cases e2;omega);refine ⟨⟨5,0,T[j].text,ls⟩,⟨5,0,T[j].text,li⟩,x2,p2,o2,r2,fun j' e=> ?_,max B 200+1,fun k hk=> ?_⟩
      ·obtain ⟨rfl,j2,e3,h3,h4⟩:=g2 j' e;obtain ⟨j3,e4,h5⟩:=g1 j2 e3;cases e4;refine ⟨rfl,j,rfl,by omega, ?_⟩;rw [ZlT];omega
      ·obtain ⟨k,rfl⟩:∃n',k=n'+1:=⟨k-1,by omega⟩;have q:=e2 k (by omega);dsimp only at q;have v:=vn k (by omega);dsimp only;constructor
       ·rw [sgood,hat];simp [k1,v.1,hv,z1,hz,t1,q.1]
       ·rw [igood];simp [k1,v.2,hv,z2,hz,t2,q.2]
     ·refine bad fun k hk=>⟨?_, ?_⟩
      ·rw [sgood,hat];simp [k1,(vn k hk).1,hv,z1,hz,ZeF,nosym,f1]
      ·rw [igood];simp [k1,(vn k hk).2,hv,z2,hz,nosym,f2]
   ·cases hs1:ZcD T[j] Zuz with
    | true=>
     obtain ⟨ls,li,x2,p2,o2,r2,g2,B,e2⟩:=lists ok (m-1) (fun m' hm'=>IH m' (by omega)) Zyf ⟨93,[],rfl,by decide⟩ (by decide) (adS x) (adI p) _ ad (fun j' e=>by cases e;omega);refine ⟨⟨4,0,⟨#[]⟩,ls⟩,⟨4,0,⟨#[]⟩,li⟩,x2,p2,o2,r2,fun j' e=> ?_,max B 200+1,fun k hk=> ?_⟩
     ·obtain ⟨rfl,j2,e3,h3,h4⟩:=g2 j' e;cases e3;refine ⟨rfl,j,rfl,by omega, ?_⟩;rw [ZlT];have h0:(⟨#[]⟩:ByteArray).size=0:=rfl;omega
     ·obtain ⟨k,rfl⟩:∃n',k=n'+1:=⟨k-1,by omega⟩;have q:=e2 k (by omega);dsimp only at q;dsimp only;constructor
      ·rw [sgood,hat];simp [k1,k2,k3,ZeF,hs1,q.1]
      ·rw [igood];simp [k1,k2,k3,hs1,q.2]
    | false=>
     cases hs2:ZcD T[j] Zry with
     | true=>
      obtain ⟨ea,eb,x1,p1,o1,r1,g1,B,e1⟩:=IH _ hn0 (adS x) (adI p) _ ad (fun j' e=>by cases e;exact ZAe _);obtain ⟨x2,p2,o2,t1,t2,r2,g2⟩:=ZjY ok r1 Zuu;refine ⟨ea,eb,x2,p2,o2,r2,fun j' e=> ?_,max B 200+1,fun k hk=> ?_⟩
      ·obtain ⟨j2,e3,h3⟩:=g2 j' e;obtain ⟨h4,j3,e4,h5,h6⟩:=g1 j2 e3;cases e4;exact ⟨h4,j,rfl,by omega,by omega⟩
      ·obtain ⟨k,rfl⟩:∃n',k=n'+1:=⟨k-1,by omega⟩;have q:=e1 k (by omega);dsimp only at q;dsimp only;constructor
       ·rw [sgood,hat];simp [k1,k2,k3,ZeF,hs1,hs2,q.1,t1]
       ·rw [igood];simp [k1,k2,k3,hs1,hs2,q.2,t2]
     | false=>
      refine bad fun k hk=>⟨?_, ?_⟩
      ·rw [sgood,hat];simp [k1,k2,k3,ZeF,hs1,hs2,f1]
      ·rw [igood];simp [k1,k2,k3,hs1,hs2,f2]
theorem Ztg (ok:ZgU T E) (m:Nat) (hA:∀m',m'<=m->AgN T E m' Z5 Zt):AgN T E m ZH Zp:=by
 intro x p o h hd;obtain ⟨ea,eb,x1,p1,o1,r1,g1,B1,e1⟩:=hA m (ZAe _) x p o h hd
 obtain ⟨j0,hj0⟩:∃j0,∀j,o=some j->j=j0:=by
  cases o with
  | none=>exact ⟨0,by simp⟩
  | some j=>exact ⟨j,by simp⟩
 obtain ⟨es,ei,x2,p2,o2,r2,g2,B2,e2⟩:=Zp1 ok m (fun m' hm'=>hA m' (by omega)) j0 m x1 p1 o1 ea eb r1
  (fun j e=>by obtain ⟨_,j2,e3,h3,_⟩:=g1 j e;have:=hd j2 e3;omega)
  (fun j e=>by obtain ⟨h2,j2,e3,h3,h4⟩:=g1 j e;have:=hj0 j2 e3;subst this;exact ⟨h2,h3,h4⟩)
 refine ⟨es,ei,x2,p2,o2,r2,fun j' e=> ?_,max B1 B2+1,fun k hk=> ?_⟩
 ·obtain ⟨h1,h2,h3⟩:=g2 j' e;cases o with
  | some j=>have:=hj0 j rfl;subst this;exact ⟨h1,j,rfl,h2,h3⟩
  | none=>
   exfalso
   have ho1:o1=none:=by cases o1 with | none=>rfl| some j1=>obtain ⟨_,j2,e3,_⟩:=g1 j1 rfl;cases e3
   subst ho1;have q:=(e2 (B2+1) (B2+1) (by omega) (by omega)).2;have hb:=r1.bad ok;rw [Zhf,Ji (Ze7 hb.2),ZjZ] at q;simp only [Zz8,ZAf,if_false,ZAb,ZAc] at q;rw [e,<-q.2] at r2;have:=r2.2.2;rw [this] at hb;exact absurd hb.2 (by show ¬(0:Int)<= -1;decide)
 ·obtain ⟨k,rfl⟩:∃n',k=n'+1:=⟨k-1,by omega⟩;have q1:=e1 k (by omega);dsimp only at q1;have q2:=e2 k k (by omega) (by omega);dsimp only at q2;dsimp only;exact ⟨by rw [Zu5,q1.1];exact q2.1,by rw [ZvB,q1.2];exact q2.2⟩
theorem ZuR (ok:ZgU T E) (m:Nat) (hA:∀m',m'<=m->AgN T E m' ZH Zp):AgN T E m Xp Z1:=by
 intro x p o h hd;obtain ⟨ea,eb,x1,p1,o1,r1,g1,B1,e1⟩:=hA m (ZAe _) x p o h hd
 obtain ⟨j0,hj0⟩:∃j0,∀j,o=some j->j=j0:=by
  cases o with
  | none=>exact ⟨0,by simp⟩
  | some j=>exact ⟨j,by simp⟩
 obtain ⟨es,ei,x2,p2,o2,r2,g2,B2,e2⟩:=Zrm ok m (fun m' hm'=>hA m' (by omega)) j0 m x1 p1 o1 ea eb r1
  (fun j e=>by obtain ⟨_,j2,e3,h3,_⟩:=g1 j e;have:=hd j2 e3;omega)
  (fun j e=>by obtain ⟨h2,j2,e3,h3,h4⟩:=g1 j e;have:=hj0 j2 e3;subst this;exact ⟨h2,h3,h4⟩)
 refine ⟨es,ei,x2,p2,o2,r2,fun j' e=> ?_,max B1 B2+1,fun k hk=> ?_⟩
 ·obtain ⟨h1,h2,h3⟩:=g2 j' e;cases o with
  | some j=>have:=hj0 j rfl;subst this;exact ⟨h1,j,rfl,h2,h3⟩
  | none=>
   exfalso
   have ho1:o1=none:=by cases o1 with | none=>rfl| some j1=>obtain ⟨_,j2,e3,_⟩:=g1 j1 rfl;cases e3
   subst ho1;have q:=(e2 (B2+1) (B2+1) (by omega) (by omega)).2;have hb:=r1.bad ok;rw [Zks,if_neg (by omega)] at q;simp only [ZAb,ZAc] at q;rw [e,<-q.2] at r2;have:=r2.2.2;rw [this] at hb;exact absurd hb.2 (by show ¬(0:Int)<= -1;decide)
 ·obtain ⟨k,rfl⟩:∃n',k=n'+1:=⟨k-1,by omega⟩;have q1:=e1 k (by omega);dsimp only at q1;have q2:=e2 k k (by omega) (by omega);dsimp only at q2;dsimp only;exact ⟨by rw [Zu4,q1.1];exact q2.1,by rw [ZvA,q1.2];exact q2.2⟩
end
def iCL (r:Zd->Option (Zb×Zd)) (y:Zb×Zd) (n:Nat) (p:Zd) (i:Int):Option (Zb×Zd):=
 (Yx r y n p.list p.at_ p.bad i:Option (((List Zg)×Int×Int) ⊕ (Zb×Zd))).bind fun
  | .inl (a,b,c)=>some (y.1,⟨a,b,c⟩)
  | .inr z=>some z
theorem Zzs:KU 4=some Zqk:=by decide+kernel
theorem Zzr:KU 5=some ZpQ:=by decide+kernel
theorem ZxD (r:Zd->Option (Zb×Zd)) (y:Zb×Zd) (n:Nat) (p:Zd):iCL r y (n+1) p 0=(Zf p Zqk).bind fun s=>if s.1=true then (r s.2).bind fun w=>some (opE 4 y.1 w.1,w.2) else iCL r y n s.2 1:=by
 unfold iCL;rw [Yx];have h1:at? [(4:Int),5] 0=some 4:=rfl;have h2:IntKind.i64.wrap (0+1)=1:=by decide
 simp only [h1,h2,Zz8,Zzs,show (decide ((0:Int)<(([4,5]:List Nat).length:Int)))=true from rfl,if_true];rcases Zf p Zqk with _| ⟨b,q⟩
 ·rfl
 ·cases b
  ·simp only [Zz8,ZAf,if_false]
  ·simp only [Zz8,if_true];rcases r q with _| ⟨a,z⟩<;>rfl
theorem ZyF (r:Zd->Option (Zb×Zd)) (y:Zb×Zd) (n:Nat) (p:Zd):iCL r y (n+2) p 1=(Zf p ZpQ).bind fun s=>if s.1=true then (r s.2).bind fun w=>some (opE 5 y.1 w.1,w.2) else some (y.1,s.2):=by
 unfold iCL;rw [Yx];have h1:at? [(4:Int),5] 1=some 5:=rfl;have h2:IntKind.i64.wrap (1+1)=2:=by decide
 simp only [h1,h2,Zz8,Zzr,show (decide ((1:Int)<(([4,5]:List Nat).length:Int)))=true from rfl,if_true];rcases Zf p ZpQ with _| ⟨b,q⟩
 ·rfl
 ·cases b
  ·simp only [Zz8,ZAf,if_false];rw [Yx];simp only [show (decide ((2:Int)<(([4,5]:List Nat).length:Int)))=false from rfl,ZAf,if_false,Zz8]
  ·simp only [Zz8,if_true];rcases r q with _| ⟨a,z⟩<;>rfl
theorem ZpU (k:Nat) (x:Zc):QF (k+1) x=(Xp k x).bind fun y=>(Zo y.2 Zqk).bind fun u=>if u.1=true then (Xp k (adS u.2)).bind fun w=>some (opE 4 y.1 w.1,w.2) else (Zo u.2 ZpQ).bind fun v=>if v.1=true then (Xp k (adS v.2)).bind fun w=>some (opE 5 y.1 w.1,w.2) else some (y.1,v.2):=by
 rw [QF];rfl
theorem ZnJ (k:Nat) (x:Zc):Zq (k+1) x=(Zo x ZxA).bind fun y=>
  if y.1=true then (Xz k (adS y.2)).bind fun n=>(Zu n.2 eqS).bind fun z=>(Zq k z).bind fun a=>(Zu a.2 kIn).bind fun u=>(Zq k u).bind fun b=>some (⟨7,0,n.1,[a.1,b.1]⟩,b.2)
  else (Zo y.2 kIf).bind fun y=>if y.1=true then (Zq k (adS y.2)).bind fun a=>(Zu a.2 Zqn).bind fun z=>(Zq k z).bind fun b=>(Zu b.2 Zqo).bind fun u=>(Zq k u).bind fun c=>some (⟨8,0,⟨#[]⟩,[a.1,b.1,c.1]⟩,c.2)
  else (Zo y.2 ZxB).bind fun y=>if y.1=true then (Xz k (adS y.2)).bind fun n=>(Zu n.2 kIn).bind fun z=>(Zq k z).bind fun a=>(Zu a.2 kDo).bind fun u=>(Zq k u).bind fun b=>some (⟨9,0,n.1,[a.1,b.1]⟩,b.2)
  else (QF k y.2).bind fun z=>some (z.1,z.2):=by
 rw [Zq];rfl
theorem Zn0 (k:Nat) (p:Zd) (t:Zg) (h:Zw p=some (t,p)) {b1 b2 b3:Bool} (h1:Yk t ZxA=some b1) (h2:Yk t kIf=some b2) (h3:Yk t ZxB=some b3):Zj (k+1) p=
  if b1=true then (Yd k (adI p)).bind fun n=>(Zn n.2 eqS).bind fun z=>(Zj k z).bind fun a=>(YH 56 ([]:List Zb) [a.1]).bind fun l=>(Zn a.2 kIn).bind fun u=>(Zj k u).bind fun b=>(YH 56 l [b.1]).bind fun l2=>some (⟨7,0,n.1,l2⟩,b.2)
  else if b2=true then (Zj k (adI p)).bind fun a=>(YH 56 ([]:List Zb) [a.1]).bind fun l=>(Zn a.2 Zqn).bind fun z=>(Zj k z).bind fun b=>(YH 56 l [b.1]).bind fun l2=>(Zn b.2 Zqo).bind fun u=>(Zj k u).bind fun c=>(YH 56 l2 [c.1]).bind fun l3=>some (⟨8,0,⟨#[]⟩,l3⟩,c.2)
  else if b3=true then (Yd k (adI p)).bind fun n=>(Zn n.2 kIn).bind fun z=>(Zj k z).bind fun a=>(YH 56 ([]:List Zb) [a.1]).bind fun l=>(Zn a.2 kDo).bind fun u=>(Zj k u).bind fun b=>(YH 56 l [b.1]).bind fun l2=>some (⟨9,0,n.1,l2⟩,b.2)
  else (Z1 k p).bind fun y=>iCL (Z1 k) y k y.2 0:=by
 have g1:Yk t ⟨#[108,101,116]⟩=some b1:=h1;have g2:Yk t ⟨#[105,102]⟩=some b2:=h2;have g3:Yk t ⟨#[102,111,114]⟩=some b3:=h3;rw [Zj];simp only [h,Zz8,g1,g2,g3];cases b1
 ·cases b2
  ·cases b3
   ·rfl
   ·rfl
  ·rfl
 ·rfl
section
variable {T:List Zg} {E:Int}
theorem ZvV (ok:ZgU T E) (m:Nat) (hS:∀m',m'<=m->AgN T E m' Xp Z1):AgN T E m QF (fun k p=>(Z1 k p).bind fun y=>iCL (Z1 k) y k y.2 0):=by
 intro x p o h hd;obtain ⟨ea,eb,x1,p1,o1,r1,g1,B1,e1⟩:=hS m (ZAe _) x p o h hd;obtain ⟨b,s1,s2,s3⟩:=Zar ok r1 (s:=Zqk) ⟨60,[],rfl,by decide⟩;cases b with
 | true=>
  obtain ⟨j1,rfl,hl,r2⟩:=s3 rfl;obtain ⟨rfl,j,rfl,h2,h3⟩:=g1 j1 rfl;have hj:=hd j rfl;obtain ⟨fa,fb,x2,p2,o2,r3,g3,B2,e2⟩:=hS (T.length-(j1+1)) (by omega) _ _ _ r2 (fun j' e=>by cases e;exact ZAe _);refine ⟨opE 4 ea fa,opE 4 ea fb,x2,p2,o2,r3,fun j' e=> ?_,max B1 B2+2,fun k hk=> ?_⟩
  ·obtain ⟨rfl,j2,e3,h4,h5⟩:=g3 j' e;cases e3;exact ⟨rfl,j,rfl,by omega,by rw [Zp5];omega⟩
  ·obtain ⟨k,rfl⟩:∃n',k=n'+1:=⟨k-1,by omega⟩;have q1:=e1 k (by omega);dsimp only at q1;have q2:=e2 k (by omega);dsimp only at q2;have q1':=e1 (k+1) (by omega);dsimp only at q1';have q2':=e2 (k+1) (by omega);dsimp only at q2';dsimp only;exact ⟨by rw [ZpU,q1.1];simp only [Zz8,s1,if_true,q2.1],by rw [q1'.2];simp only [Zz8];rw [ZxD,s2];simp only [Zz8,if_true,q2'.2]⟩
 | false=>
  obtain ⟨c,t1,t2,t3⟩:=Zar ok r1 (s:=ZpQ) ⟨61,[61],rfl,by decide⟩;cases c with
  | true=>
   obtain ⟨j1,rfl,hl,r2⟩:=t3 rfl;obtain ⟨rfl,j,rfl,h2,h3⟩:=g1 j1 rfl;have hj:=hd j rfl;obtain ⟨fa,fb,x2,p2,o2,r3,g3,B2,e2⟩:=hS (T.length-(j1+1)) (by omega) _ _ _ r2 (fun j' e=>by cases e;exact ZAe _);refine ⟨opE 5 ea fa,opE 5 ea fb,x2,p2,o2,r3,fun j' e=> ?_,max B1 B2+4,fun k hk=> ?_⟩
   ·obtain ⟨rfl,j2,e3,h4,h5⟩:=g3 j' e;cases e3;exact ⟨rfl,j,rfl,by omega,by rw [Zp5];omega⟩
   ·obtain ⟨k,rfl⟩:∃n',k=n'+3:=⟨k-3,by omega⟩;have q1:=e1 (k+2) (by omega);dsimp only at q1;have q2:=e2 (k+2) (by omega);dsimp only at q2;have q1':=e1 (k+3) (by omega);dsimp only at q1';have q2':=e2 (k+3) (by omega);dsimp only at q2';dsimp only;exact ⟨by rw [ZpU,q1.1];simp only [Zz8,s1,ZAf,if_false,t1,if_true,q2.1],by rw [q1'.2];simp only [Zz8];rw [ZxD,s2];simp only [Zz8,ZAf,if_false];rw [ZyF,t2];simp only [Zz8,if_true,q2'.2]⟩
  | false=>
   refine ⟨ea,eb,x1,p1,o1,r1,g1,B1+4,fun k hk=> ?_⟩;obtain ⟨k,rfl⟩:∃n',k=n'+3:=⟨k-3,by omega⟩;have q1:=e1 (k+2) (by omega);dsimp only at q1;have q1':=e1 (k+3) (by omega);dsimp only at q1';dsimp only;exact ⟨by rw [ZpU,q1.1];simp only [Zz8,s1,ZAf,if_false,t1],by rw [q1'.2];simp only [Zz8];rw [ZxD,s2];simp only [Zz8,ZAf,if_false];rw [ZyF,t2];simp only [Zz8,ZAf,if_false]⟩
theorem ZyP (a b:Zb):YH 56 [a] [b]=some [a,b]:=ZqX [a] b (by simp)
theorem ZyQ (a:Zb):YH 56 ([]:List Zb) [a]=some [a]:=ZqX [] a (by simp)
theorem ZzE (a b c:Zb):YH 56 [a,b] [c]=some [a,b,c]:=ZqX [a,b] c (by simp)
theorem lw2 (a b:Zb):lw [a,b]=(a.bk+1)+(b.bk+1):=by simp [lw]
theorem lw3 (a b c:Zb):lw [a,b,c]=(a.bk+1)+(b.bk+1)+(c.bk+1):=by simp [lw];omega
theorem ZqR (ok:ZgU T E) (m:Nat) (IH:∀m',m'<m->AgN T E m' Zq Zj) {x:Zc} {p:Zd} {j:Nat} (hj:T.length-j<=m) (hl:j<T.length) (r0:Rl T E x p (some (j+1))) (c1 c2:ByteArray) (kd:Int):
  Ag T E (some j) (fun k=>(Xz k x).bind fun n=>(Zu n.2 c1).bind fun z=>(Zq k z).bind fun a=>(Zu a.2 c2).bind fun u=>(Zq k u).bind fun b=>some (⟨kd,0,n.1,[a.1,b.1]⟩,b.2))
   (fun k=>(Yd k p).bind fun n=>(Zn n.2 c1).bind fun z=>(Zj k z).bind fun a=>(YH 56 ([]:List Zb) [a.1]).bind fun l=>(Zn a.2 c2).bind fun u=>(Zj k u).bind fun b=>(YH 56 l [b.1]).bind fun l2=>some (⟨kd,0,n.1,l2⟩,b.2)):=by
 obtain ⟨ns,ni,x1,p1,o1,r1,g1,v1⟩:=names ok r0;obtain ⟨x2,p2,o2,t1,t2,r2,g2⟩:=ZjY ok r1 c1;obtain ⟨ea,eb,x3,p3,o3,r3,g3,B3,e3⟩:=IH (T.length-(j+1)) (by omega) _ _ _ r2 (fun j' e=>by obtain ⟨j2,e2,h2⟩:=g2 j' e;obtain ⟨_,_,j3,e4,h3⟩:=g1 j2 e2;cases e4;omega);obtain ⟨x4,p4,o4,u1,u2,r4,g4⟩:=ZjY ok r3 c2
 obtain ⟨fa,fb,x5,p5,o5,r5,g5,B5,e5⟩:=IH (T.length-(j+1)) (by omega) _ _ _ r4 (fun j' e=>by
  obtain ⟨j2,e2,h2⟩:=g4 j' e;obtain ⟨_,j3,e4,h3,_⟩:=g3 j2 e2;obtain ⟨j4,e6,h4⟩:=g2 j3 e4;obtain ⟨_,_,j5,e7,h5⟩:=g1 j4 e6;cases e7;omega)
 refine ⟨⟨kd,0,ns,[ea,fa]⟩,⟨kd,0,ni,[eb,fb]⟩,x5,p5,o5,r5,fun j' e=> ?_,max B3 B5+200,fun k hk=> ?_⟩
 ·obtain ⟨rfl,j1,a1,a2,a3⟩:=g5 j' e;obtain ⟨j2,b1,b2⟩:=g4 j1 a1;obtain ⟨rfl,j3,c1,c2,c3⟩:=g3 j2 b1;obtain ⟨j4,d1,d2⟩:=g2 j3 c1;obtain ⟨rfl,f1,j5,f2,f3⟩:=g1 j4 d1;cases f2;exact ⟨rfl,j,rfl,by omega,by rw [ZlT,lw2];omega⟩
 ·have q1:=v1 k (by omega);have q3:=e3 k (by omega);dsimp only at q3;have q5:=e5 k (by omega);dsimp only at q5;dsimp only;exact ⟨by simp only [q1.1,Zz8,t1,q3.1,u1,q5.1],by simp only [q1.2,Zz8,t2,q3.2,ZyQ,u2,q5.2,ZyP]⟩
theorem ZxC (ok:ZgU T E) (m:Nat) (IH:∀m',m'<m->AgN T E m' Zq Zj) {x:Zc} {p:Zd} {j:Nat} (hj:T.length-j<=m) (hl:j<T.length) (r0:Rl T E x p (some (j+1))):
  Ag T E (some j) (fun k=>(Zq k x).bind fun a=>(Zu a.2 Zqn).bind fun z=>(Zq k z).bind fun b=>(Zu b.2 Zqo).bind fun u=>(Zq k u).bind fun c=>some (⟨8,0,⟨#[]⟩,[a.1,b.1,c.1]⟩,c.2))
   (fun k=>(Zj k p).bind fun a=>(YH 56 ([]:List Zb) [a.1]).bind fun l=>(Zn a.2 Zqn).bind fun z=>(Zj k z).bind fun b=>(YH 56 l [b.1]).bind fun l2=>(Zn b.2 Zqo).bind fun u=>(Zj k u).bind fun c=>(YH 56 l2 [c.1]).bind fun l3=>some (⟨8,0,⟨#[]⟩,l3⟩,c.2)):=by
 obtain ⟨ea,eb,x1,p1,o1,r1,g1,B1,e1⟩:=IH (T.length-(j+1)) (by omega) _ _ _ r0 (fun j' e=>by cases e;exact ZAe _);obtain ⟨x2,p2,o2,t1,t2,r2,g2⟩:=ZjY ok r1 Zqn;obtain ⟨fa,fb,x3,p3,o3,r3,g3,B3,e3⟩:=IH (T.length-(j+1)) (by omega) _ _ _ r2 (fun j' e=>by obtain ⟨j2,e2,h2⟩:=g2 j' e;obtain ⟨_,j3,e4,h3,_⟩:=g1 j2 e2;cases e4;omega);obtain ⟨x4,p4,o4,u1,u2,r4,g4⟩:=ZjY ok r3 Zqo
 obtain ⟨ga,gb,x5,p5,o5,r5,g5,B5,e5⟩:=IH (T.length-(j+1)) (by omega) _ _ _ r4 (fun j' e=>by
  obtain ⟨j2,e2,h2⟩:=g4 j' e;obtain ⟨_,j3,e4,h3,_⟩:=g3 j2 e2;obtain ⟨j4,e6,h4⟩:=g2 j3 e4;obtain ⟨_,j5,e7,h5,_⟩:=g1 j4 e6;cases e7;omega)
 refine ⟨⟨8,0,⟨#[]⟩,[ea,fa,ga]⟩,⟨8,0,⟨#[]⟩,[eb,fb,gb]⟩,x5,p5,o5,r5,fun j' e=> ?_,max B1 (max B3 B5),fun k hk=> ?_⟩
 ·obtain ⟨rfl,j1,a1,a2,a3⟩:=g5 j' e;obtain ⟨j2,b1,b2⟩:=g4 j1 a1;obtain ⟨rfl,j3,c1,c2,c3⟩:=g3 j2 b1;obtain ⟨j4,d1,d2⟩:=g2 j3 c1;obtain ⟨rfl,j5,f2,f3,f4⟩:=g1 j4 d1;cases f2;have h0:(⟨#[]⟩:ByteArray).size=0:=rfl;exact ⟨rfl,j,rfl,by omega,by rw [ZlT,lw3];omega⟩
 ·have q1:=e1 k (by omega);dsimp only at q1;have q3:=e3 k (by omega);dsimp only at q3;have q5:=e5 k (by omega);dsimp only at q5;dsimp only;exact ⟨by simp only [q1.1,Zz8,t1,q3.1,u1,q5.1],by simp only [q1.2,Zz8,t2,q3.2,ZyQ,u2,q5.2,ZyP,ZzE]⟩
theorem Ag.next {o:Option Nat} {s s':Nat->Option (Zb×Zc)} {i i':Nat->Option (Zb×Zd)} (h:Ag T E o s i) (hs:∀k,s' (k+1)=s k) (hi:∀k,i' (k+1)=i k):Ag T E o s' i':=by
 obtain ⟨ea,eb,x1,p1,o1,r1,g1,B1,e1⟩:=h;refine ⟨ea,eb,x1,p1,o1,r1,g1,B1+1,fun k hk=> ?_⟩;obtain ⟨k,rfl⟩:∃n',k=n'+1:=⟨k-1,by omega⟩;rw [hs,hi];exact e1 k (by omega)
theorem ZtW (ok:ZgU T E) (m:Nat) (hS:∀m',m'<=m->AgN T E m' Xp Z1) (IH:∀m',m'<m->AgN T E m' Zq Zj):AgN T E m Zq Zj:=by
 intro x p o h hd;obtain ⟨b1,t,a1,a2,a3,a4⟩:=Zmz ok h (s:=ZxA) ⟨108,[101,116],rfl,by decide⟩;obtain ⟨b2,t',d1,d2,d3,d4⟩:=Zmz ok h (s:=kIf) ⟨105,[102],rfl,by decide⟩;obtain ⟨b3,t'',c1,c2,c3,c4⟩:=Zmz ok h (s:=ZxB) ⟨102,[111,114],rfl,by decide⟩;obtain rfl:t=t':=by rw [a2] at d2;simpa using d2
 obtain rfl:t=t'':=by rw [a2] at c2;simpa using c2
 cases b1 with
 | true=>
  obtain ⟨j,rfl,hl,r2⟩:=a4 rfl;refine (ZqR ok m IH (hd j rfl) hl r2 eqS kIn 7).next (fun k=> ?_) (fun k=> ?_)
  ·rw [ZnJ,a1];simp only [Zz8,if_true]
  ·rw [Zn0 k p t a2 a3 d3 c3];simp only [if_true]
 | false=>
  cases b2 with
  | true=>
   obtain ⟨j,rfl,hl,r2⟩:=d4 rfl;refine (ZxC ok m IH (hd j rfl) hl r2).next (fun k=> ?_) (fun k=> ?_)
   ·rw [ZnJ,a1];simp only [Zz8,ZAf,if_false,d1,if_true]
   ·rw [Zn0 k p t a2 a3 d3 c3];simp only [ZAf,if_false,if_true]
  | false=>
   cases b3 with
   | true=>
    obtain ⟨j,rfl,hl,r2⟩:=c4 rfl;refine (ZqR ok m IH (hd j rfl) hl r2 kIn kDo 9).next (fun k=> ?_) (fun k=> ?_)
    ·rw [ZnJ,a1];simp only [Zz8,ZAf,if_false,d1,c1,if_true]
    ·rw [Zn0 k p t a2 a3 d3 c3];simp only [ZAf,if_false,if_true]
   | false=>
    refine (ZvV ok m hS x p o h hd).next (fun k=> ?_) (fun k=> ?_)
    ·rw [ZnJ,a1];simp only [Zz8,ZAf,if_false,d1,c1];rcases QF k x with _| ⟨a,z⟩<;>rfl
    ·rw [Zn0 k p t a2 a3 d3 c3];simp only [ZAf,if_false]
theorem Zv7 (ok:ZgU T E):∀m,AgN T E m Zq Zj:=by
 intro m
 induction m using Nat.strongRecOn with
 | _ m IH=>
  have atoms:∀m',m'<=m->AgN T E m' Z5 Zt:=fun m' h=>Zui ok m' fun m'' h2=>IH m'' (by omega);have prods:∀m',m'<=m->AgN T E m' ZH Zp:=fun m' h=>Ztg ok m' fun m'' h2=>atoms m'' (by omega);have sums:∀m',m'<=m->AgN T E m' Xp Z1:=fun m' h=>ZuR ok m' fun m'' h2=>prods m'' (by omega);exact ZtW ok m sums IH
end
def toB (l:List UInt8):ByteArray:=⟨l.toArray⟩
theorem ZpA (l m:List UInt8):toB l++toB m=toB (l++m):=by
 apply ByteArray.ext;rw [ByteArray.data_append];simp [toB]
theorem Zg5 (l:List UInt8):(toB l).size=l.length:=by unfold toB ByteArray.size;simp
theorem ZsF {s t:ByteArray} (h:s.size+t.size<=1099511627776):Zua s t=some (s++t):=by
 unfold Zua;rw [if_pos (by omega)]
def ZfV (u:Nat):List UInt8:=if u=0 then [] else Lib.decDigits u
theorem ZoO {u:Nat} (h:u≠0):ZfV u=ZfV (u/10)++[UInt8.ofNat (48+u%10)]:=by
 unfold ZfV;rw [if_neg h,Lib.decDigits]
 by_cases g:u<10
 ·rw [dif_pos g,if_pos (by omega),show u%10=u by omega];rfl
 ·rw [dif_neg g,if_neg (by omega)]
theorem ZoP:∀(m:Nat) (x:Int) (l:List UInt8),x.natAbs<10^m-> -9223372036854775808<=x->x<=9223372036854775807->l.length+m<=10000->ZU (m+1) x (toB l)=some (toB (ZfV x.natAbs++l)):=by
 intro m
 induction m with
 | zero=>
  intro x l h0 _ _ _;have:x=0:=by simp at h0;exact h0
  subst this;rw [ZU];simp [ZfV]
 | succ m ih=>
  intro x l h0 h1 h2 h3;rw [ZU]
  by_cases hx:x=0
  ·subst hx;simp [ZfV]
  ·rw [if_pos (by simpa using hx)]
   have ht:x.tmod 10=if x<0 then-((x.natAbs%10:Nat):Int) else ((x.natAbs%10:Nat):Int):=by
    split
    ·obtain ⟨n,rfl⟩:∃n:Nat,x= -(n:Int):=⟨x.natAbs,by omega⟩;rw [Int.neg_tmod];simp;rfl
    ·obtain ⟨n,rfl⟩:∃n:Nat,x=(n:Int):=⟨x.natAbs,by omega⟩
     rfl
   have hd:x.natAbs%10<10:=Nat.mod_lt _ (by omega);have e1:IntKind.i64.wrap (x.tmod 10)=x.tmod 10:=w64 (by rw [ht];split<;>omega) (by rw [ht];split<;>omega)
   have e2:(if decide (IntKind.i64.wrap (x.tmod 10)<0)=true then some (IntKind.i64.wrap (0-IntKind.i64.wrap (x.tmod 10))) else some (IntKind.i64.wrap (x.tmod 10)):Option Int)=some ((x.natAbs%10:Nat):Int):=by
    rw [e1,ht]
    by_cases hn:x<0
    ·simp only [if_pos hn]
     by_cases hz:x.natAbs%10=0
     ·simp [hz]
     ·rw [if_pos (by simp;omega),w64 (by omega) (by omega)];congr 1;omega
    ·simp only [if_neg hn];rw [if_neg (by simp;omega)]
   have e3:IntKind.i64.wrap (48+((x.natAbs%10:Nat):Int))=((48+x.natAbs%10:Nat):Int):=by rw [w64 (by omega) (by omega)];omega
   have e4:IntKind.u8.wrap ((48+x.natAbs%10:Nat):Int)=((48+x.natAbs%10:Nat):Int):=IntWalk.u8_in _ ⟨by omega,by omega⟩
   have e5:Zne [((48+x.natAbs%10:Nat):Int)]=toB [UInt8.ofNat (48+x.natAbs%10)]:=by
    unfold Zne toB;simp only [List.foldl_cons,List.foldl_nil,Int.toNat_natCast]
    rfl
   have e6:(x.tdiv 10).natAbs=x.natAbs/10:=by rw [Int.natAbs_tdiv];rfl
   have hq: -9223372036854775808<=x.tdiv 10/\x.tdiv 10<=9223372036854775807:=by omega
   rw [e2,Zz8,e3,e4,e5,ZsF (by rw [Zg5,Zg5];simp;omega),Zz8,ZpA,w64 hq.1 hq.2,ih _ _ (by rw [e6];rw [Nat.pow_succ] at h0;omega) hq.1 hq.2 (by simp;omega),e6,ZoO (u:=x.natAbs) (by omega)];simp
theorem ZwM (n:Int) (h0: -9223372036854775808<=n) (h1:n<=9223372036854775807) {k:Nat} (hk:100<k):Jq k n=some (toB (Lib.itoa n)):=by
 obtain ⟨k,rfl⟩:∃j,k=j+1:=⟨k-1,by omega⟩;unfold Jq
 by_cases hn:n=0
 ·subst hn
  have:Lib.itoa 0=[48]:=by
   unfold Lib.itoa;rw [if_neg (by omega),Lib.decDigits,dif_pos (by decide)];rfl
  rw [if_pos (by simp),this];rfl
 ·rw [if_neg (by simpa using hn)]
  have hp:n.natAbs<10^20:=by have:(10:Nat)^20=100000000000000000000:=by decide
                             omega
  have key:ZU (k+1) n (⟨#[]⟩:ByteArray)=some (toB (ZfV n.natAbs)):=by
   have mono:∀(m j:Nat) (x:Int) (acc r:ByteArray),ZU m x acc=some r->ZU (m+j) x acc=some r:=by
    intro m
    induction m with
    | zero=>intro j x acc r h;simp [ZU] at h
    | succ m ih=>
     intro j x acc r h;rw [show m+1+j=(m+j)+1 by omega,ZU];rw [ZU] at h
     split at h
     ·rename_i c;rw [if_pos c];obtain ⟨a,ha,h⟩:=Option.bind_eq_some_iff.1 h;obtain ⟨b,hb,h⟩:=Option.bind_eq_some_iff.1 h;rw [ha,Zz8,hb,Zz8];exact ih j _ _ _ h
     ·rename_i c;rw [if_neg c];exact h
   have h20:=ZoP 20 n [] hp h0 h1 (by simp);have:=mono 21 (k-20) _ _ _ h20;rw [show 21+(k-20)=k+1 by omega,List.append_nil] at this;exact this
  rw [key,Zz8]
  by_cases g:n<0
  ·rw [if_pos (by simpa using g)]
   have hc:Zua (⟨#[45]⟩:ByteArray) (toB (ZfV n.natAbs))=some (toB (45::ZfV n.natAbs)):=by
    have hl:=Lib.itoa_length_le n h0 h1;unfold Lib.itoa at hl;rw [if_pos g] at hl;have e:(⟨#[45]⟩:ByteArray)=toB [45]:=rfl;have e2:ZfV n.natAbs=Lib.decDigits n.natAbs:=by unfold ZfV;rw [if_neg (by omega)]
    rw [e,ZsF (by rw [Zg5,Zg5,e2];simp at hl ⊢;omega),ZpA];rfl
   rw [hc];unfold Lib.itoa ZfV;rw [if_pos g,if_neg (by omega)];rfl
  ·rw [if_neg (by simpa using g)];unfold Lib.itoa ZfV;rw [if_neg g,if_neg (by omega)]
   congr 3
   omega
def ZdJ (c:UInt8):Bool:=decide (48<=c.toNat)&&decide (c.toNat<=57)
def val (a:Nat) (l:List UInt8):Nat:=l.foldl (fun a c=>a*10+(c.toNat-48)) a
theorem Zhv (a:Nat):val a []=a:=by simp only [val,List.foldl_nil]
theorem ZeB (a:Nat) (c:UInt8) (r:List UInt8):val a (c::r)=val (a*10+(c.toNat-48)) r:=by simp only [val,List.foldl_cons]
theorem ZsO (l:List UInt8) (c:UInt8) (a:Nat):val a (l++[c])=val a l*10+(c.toNat-48):=by
 simp only [val,List.foldl_append,List.foldl_cons,List.foldl_nil]
theorem Zsd:∀(l:List UInt8) (a:Nat),a<=val a l
 | [],a=>by rw [Zhv];exact ZAe _
 | c::r,a=>by rw [ZeB];have:=Zsd r (a*10+(c.toNat-48));omega
theorem Zsc:∀(l:List UInt8) (a m:Nat),a<10^m->(∀c∈l,ZdJ c=true)->val a l<10^(m+l.length)
 | [],a,m,h,_=>by rw [Zhv];simpa using h
 | c::r,a,m,h,hd=>by
  rw [ZeB];have hc:=hd c (by simp);simp only [ZdJ,ZAd,decide_eq_true_eq] at hc;have:=Zsc r (a*10+(c.toNat-48)) (m+1) (by rw [Nat.pow_succ];omega) (fun c hc=>hd c (by simp [hc]));rw [List.length_cons,show m+(r.length+1)=m+1+r.length by omega];exact this
theorem Zt3 (u:Nat):(UInt8.ofNat (48+u%10)).toNat=48+u%10:=by
 rw [UInt8.toNat_ofNat'];omega
theorem Ziq (u:Nat):Lib.decDigits u=if u<10 then [UInt8.ofNat (48+u%10)] else Lib.decDigits (u/10)++[UInt8.ofNat (48+u%10)]:=by
 conv=>lhs;rw [Lib.decDigits]
 split
 ·rename_i h;rw [Nat.mod_eq_of_lt h]
 ·rfl
theorem ZqH (u:Nat):∀c∈Lib.decDigits u,ZdJ c=true:=by
 induction u using Nat.strongRecOn with
 | _ u ih=>
  intro c hc;rw [Ziq] at hc
  have hlast:∀c,c=UInt8.ofNat (48+u%10)->ZdJ c=true:=by
   rintro c rfl;simp only [ZdJ,Zt3];simp;omega
  split at hc
  ·exact hlast c (by simpa using hc)
  ·rcases List.mem_append.1 hc with h| h
   ·exact ih (u/10) (by omega) c h
   ·exact hlast c (by simpa using h)
theorem ZsD (u:Nat):val 0 (Lib.decDigits u)=u:=by
 induction u using Nat.strongRecOn with
 | _ u ih=>
  rw [Ziq]
  split
  ·rw [ZeB,Zhv,Zt3];omega
  ·rw [ZsO,ih (u/10) (by omega),Zt3];omega
theorem ZvQ (u:Nat):1<=(Lib.decDigits u).length:=by
 rw [Ziq];split<;>simp
theorem ZsE:∀(m u:Nat),u<10^(m+1)->(Lib.decDigits u).length<=m+1
 | 0,u,h=>by rw [Ziq,if_pos (by simpa using h)];simp
 | m+1,u,h=>by
  rw [Ziq]
  split
  ·simp
  ·have:=ZsE m (u/10) (by rw [Nat.pow_succ] at h;omega);simp;omega
theorem Zmn:∀(l:List UInt8) (a:Nat),(∀c∈l,ZdJ c=true)->val a l<18446744073709551616->Lib.parseUint10 a l= .ok (val a l)
 | [],a,_,_=>by rw [Zhv];rfl
 | c::r,a,hd,hv=>by
  have hc:=hd c (by simp);simp only [ZdJ,ZAd,decide_eq_true_eq] at hc;rw [ZeB] at hv ⊢;have h1:=Zsd r (a*10+(c.toNat-48));rw [Lib.parseUint10,if_pos hc,if_neg (by omega),if_neg (by omega)];exact Zmn r _ (fun c hc=>hd c (by simp [hc])) hv
theorem ZqU (n:Int) (h:n.natAbs<1000000000000):Lib.atoiAll (Lib.itoa n)= .ok n:=by
 have hne:=ZvQ n.natAbs;have hdg:=ZqH n.natAbs;have hvl:=ZsD n.natAbs
 by_cases hn:n<0
 ·have e:Lib.itoa n=45::Lib.decDigits n.natAbs:=by unfold Lib.itoa;rw [if_pos hn]
  rw [e];unfold Lib.atoiAll Lib.parseMag;have hnil:Lib.decDigits n.natAbs≠[]:=fun e=>by rw [e] at hne;simp at hne
  dsimp only;rw [if_pos (show (45:UInt8).toNat=43\/(45:UInt8).toNat=45 from .inr rfl),if_neg hnil,Zmn _ _ hdg (by rw [hvl];omega),hvl];have h45:(45:UInt8).toNat=45:=rfl;simp only [h45];rw [if_neg (by omega),if_neg (by omega)];simp;omega
 ·have e:Lib.itoa n=Lib.decDigits n.natAbs:=by unfold Lib.itoa;rw [if_neg hn];congr 1;omega
  rw [e];cases hl:Lib.decDigits n.natAbs with
  | nil=>rw [hl] at hne;simp at hne
  | cons c r=>
   have hc:=hdg c (by rw [hl];simp);simp only [ZdJ,ZAd,decide_eq_true_eq] at hc;unfold Lib.atoiAll Lib.parseMag;simp only [if_neg (show ¬(c.toNat=43\/c.toNat=45) by omega)];rw [if_neg (by simp),Zmn _ _ (by rw [<-hl];exact hdg) (by rw [<-hl,hvl];omega),<-hl,hvl];simp only;rw [if_neg (by omega),if_neg (by omega),if_neg (by omega)]
   congr 1;omega
def ZnO (x:ByteArray):Option Int:=match Lib.atoiAll x.data.toList with
 | .ok n=>if toB (Lib.itoa n)=x then some n else none
 | _=>none
theorem Zp2 (x:ByteArray) (lo hi:Int):Xj x lo hi=match ZnO x with
  | some n=>if lo<=n/\n<=hi then (n,true) else (0,false)
  | none=>(0,false):=by
 unfold Xj ZnO;cases Lib.atoiAll x.data.toList with
 | ok n=>
  simp only
  by_cases h:toB (Lib.itoa n)=x
  ·simp only [h,if_true];have h':(⟨(Lib.itoa n).toArray⟩:ByteArray)=x:=h;simp [h']
  ·simp only [h,if_false];have h':¬(⟨(Lib.itoa n).toArray⟩:ByteArray)=x:=h;simp [h']
 | «syntax» =>rfl
 | range=>rfl
def Uy (x:ByteArray):Int×Bool:=match ZnO x with
 | some n=>if n.natAbs<1000000000000 then (n,true) else (0,false)
 | none=>(0,false)
theorem Znv (l:List UInt8):(toB l).data.toList=l:=by simp [toB]
theorem ZhP {x:ByteArray} {n:Int} (h:ZnO x=some n):Lib.itoa n=x.data.toList:=by
 unfold ZnO at h
 split at h
 ·split at h
  ·rename_i e;cases h;rw [<-e,Znv]
  ·cases h
 ·cases h
theorem Ztp {x:ByteArray} {n:Int} (hn:n.natAbs<1000000000000) (h:toB (Lib.itoa n)=x):ZnO x=some n:=by
 unfold ZnO;have:x.data.toList=Lib.itoa n:=by rw [<-h,Znv]
 rw [this,ZqU n hn];simp [h]
theorem ZpY (t:ByteArray) (l:List UInt8) (hl:t.data.toList=l) (h12:l.length<=12):∀(m i a:Nat) (n:Nat),i+m=l.length->a<10^i->m<n->WX t n (a:Int) (i:Int)=some (if (l.drop i).all ZdJ=true then .inl (val a (l.drop i):Int) else .inr (0,false)):=by
 have hsz:t.size=l.length:=by rw [<-hl,Array.length_toList];rfl
 intro m
 induction m with
 | zero=>
  intro i a n hi ha hn;obtain ⟨n,rfl⟩:∃n',n=n'+1:=⟨n-1,by omega⟩;have hd:l.drop i=[]:=List.drop_eq_nil_of_le (by omega);rw [WX,hd];simp [hsz,Zhv,show ¬((i:Int)<(l.length:Int)) by omega]
 | succ m ih=>
  intro i a n hi ha hn;obtain ⟨n,rfl⟩:∃n',n=n'+1:=⟨n-1,by omega⟩;have hlt:i<l.length:=by omega
  have hd:l.drop i=l[i]::l.drop (i+1):=List.drop_eq_getElem_cons hlt;have hat:at? t.data.toList (i:Int)=some l[i]:=by rw [hl];exact ZJ hlt
  have hp:(10:Nat)^i<=10^11:=Nat.pow_le_pow_right (by omega) (by omega);rw [WX,hsz,if_pos (ZE hlt),hat,hd];simp only [Zz8];generalize l[i]=c;have hc8:c.toNat<256:=c.toNat_lt;cases hc:ZdJ c with
  | false=>
   have hx:(if (decide ((c.toNat:Int)<48))=true then some true else some (decide (57<(c.toNat:Int))))=some true:=by
    simp only [ZdJ,Bool.and_eq_false_iff,decide_eq_false_iff_not] at hc
    by_cases h1:(c.toNat:Int)<48
    ·simp [h1]
    ·simp only [h1,decide_false,ZAf,if_false,ZAb,decide_eq_true_eq];omega
   rw [hx];simp [hc]
  | true=>
   have hcd:=hc;simp only [ZdJ,ZAd,decide_eq_true_eq] at hcd
   have hx:(if (decide ((c.toNat:Int)<48))=true then some true else some (decide (57<(c.toNat:Int))))=some false:=by
    simp only [show ¬((c.toNat:Int)<48) by omega,decide_false,ZAf,if_false,ZAb,decide_eq_false_iff_not];omega
   rw [hx];simp only [Zz8,ZAf,if_false]
   have e1:IntKind.u8.wrap ((c.toNat:Int)-48)=(c.toNat:Int)-48:=by
    unfold IntKind.wrap;simp [IntKind.bits,IntKind.signed];omega
   have hp2:(10:Nat)^11=100000000000:=by decide
   have e2:IntKind.i64.wrap (IntKind.i64.wrap (10*(a:Int))+IntKind.i64.wrap (IntKind.u8.wrap ((c.toNat:Int)-48)))=((a*10+(c.toNat-48):Nat):Int):=by
    rw [e1,w64 (n:=10*(a:Int)) (by omega) (by omega),w64 (n:=(c.toNat:Int)-48) (by omega) (by omega),w64 (by omega) (by omega)];omega
   rw [e2,wS i (by omega),ih (i+1) (a*10+(c.toNat-48)) n (by omega) (by rw [Nat.pow_succ];omega) (by omega)];simp [hc,ZeB]
theorem Zji (n:Int):Lib.itoa n=if n<0 then 45::Lib.decDigits n.natAbs else Lib.decDigits n.natAbs:=by
 unfold Lib.itoa
 split
 ·rfl
 ·congr 1;omega
theorem Zu2 (x:ByteArray) (hx:x.size<=1048576) {k:Nat} (hk:1000<k):ZeL k x 12=some (Uy x):=by
 have hsz:x.size=x.data.toList.length:=by rw [Array.length_toList];rfl
 have rep:∀n:Int,n.natAbs<1000000000000->ZnO x=some n->x.data.toList=(if n<0 then 45::Lib.decDigits n.natAbs else Lib.decDigits n.natAbs)/\(Lib.decDigits n.natAbs).length<=12:=fun n hn h=>by
  rw [<-Zji];exact ⟨(ZhP h).symm,ZsE 11 _ (by simpa using hn)⟩
 have no:(∀n:Int,n.natAbs<1000000000000->ZnO x≠some n)->Uy x=(0,false):=fun h=>by
  unfold Uy;cases hv:ZnO x with
  | none=>rfl
  | some n=>
   simp only;rw [if_neg];intro hn;exact h n hn hv
 unfold ZeL
 obtain ⟨below,hbelow,hb2⟩:∃below:Bool,(if (decide (0<(x.size:Int)))=true then (at? x.data.toList 0).bind fun x2=>some (decide ((x2.toNat:Int)=45)) else some false)=some below/\(below=true↔∃r,x.data.toList=45::r):=by
  cases hl:x.data.toList with
  | nil=>exact ⟨false,by rw [hsz,hl];simp,by simp⟩
  | cons c r=>
   refine ⟨decide ((c.toNat:Int)=45),by rw [hsz,hl];simp [at?], ?_⟩;simp only [decide_eq_true_eq,List.cons.injEq,exists_and_left,exists_eq',and_true];constructor
   ·intro h;exact UInt8.toNat_inj.1 (by show c.toNat=45;omega)
   ·rintro rfl;rfl
 rw [hbelow];simp only [Zz8]
 obtain ⟨t,ht,htl⟩:∃t:ByteArray,(if below=true then (UN x 1 (x.size:Int)).bind fun x4=>some x4 else some x)=some t/\x.data.toList=(if below=true then 45::t.data.toList else t.data.toList):=by
  cases below with
  | false=>exact ⟨x,rfl,rfl⟩
  | true=>
   obtain ⟨r,hr⟩:=hb2.1 rfl;have h1:1<=x.size:=by rw [hsz,hr];simp
   refine ⟨x.extract 1 x.size, ?_, ?_⟩
   ·simp only [if_true];unfold UN;rw [if_pos ⟨by omega,by omega,by omega⟩];rfl
   ·simp only [if_true,ByteArray.data_extract,Array.toList_extract,List.extract_eq_take_drop];rw [hr];simp [hsz,hr]
 rw [ht];simp only [Zz8];have hts:t.size=t.data.toList.length:=by rw [Array.length_toList];rfl
 have dig:∀n:Int,n.natAbs<1000000000000->ZnO x=some n->t.data.toList=Lib.decDigits n.natAbs/\(below=true↔n<0):=by
  intro n hn h;obtain ⟨h1,h2⟩:=rep n hn h
  by_cases hneg:n<0
  ·rw [if_pos hneg] at h1;have hb:below=true:=hb2.2 ⟨_,h1⟩;rw [htl,hb] at h1;simp only [if_true,List.cons.injEq,true_and] at h1;exact ⟨h1,by simp [hb,hneg]⟩
  ·rw [if_neg hneg] at h1
   have hb:below=false:=by
    cases hbb:below with
    | false=>rfl
    | true=>
     obtain ⟨r,hr⟩:=hb2.1 hbb;have:=ZqH n.natAbs 45 (by rw [<-h1,hr];simp);simp [ZdJ] at this
   rw [htl,hb] at h1;exact ⟨by simpa using h1,by simp [hb,hneg]⟩
 by_cases hlen:t.data.toList.length<1\/12<t.data.toList.length
 ·have e:(if (decide ((t.size:Int)<1))=true then some true else some (decide ((12:Int)<(t.size:Int))))=some true:=by
   rw [hts]
   by_cases h1:t.data.toList.length<1
   ·rw [if_pos (decide_eq_true (by omega))]
   ·rw [if_neg (by rw [decide_eq_true_eq];omega),decide_eq_true (by omega)]
  rw [e];simp only [Zz8,if_true];rw [no];intro n hn hv;obtain ⟨h1,_⟩:=dig n hn hv;have h2:=ZvQ n.natAbs;have h3:=(rep n hn hv).2;rw [h1] at hlen;omega
 ·have e:(if (decide ((t.size:Int)<1))=true then some true else some (decide ((12:Int)<(t.size:Int))))=some false:=by
   rw [hts];simp only [show ¬((t.data.toList.length:Int)<1) by omega,decide_false,ZAf,if_false,ZAb,decide_eq_false_iff_not];omega
  rw [e];simp only [Zz8,ZAf,if_false];have hloop:=ZpY t _ rfl (by omega) t.data.toList.length 0 0 k (by omega) (by decide) (by omega);rw [show ((0:Nat):Int)=0 from rfl] at hloop;rw [hloop,List.drop_zero];cases hall:t.data.toList.all ZdJ with
  | false=>
   simp only [ZAf,if_false,Zz8];rw [no];intro n hn hv;obtain ⟨h1,_⟩:=dig n hn hv;have:t.data.toList.all ZdJ=true:=by rw [h1];exact List.all_eq_true.2 (ZqH n.natAbs)
   rw [hall] at this;cases this
  | true=>
   simp only [if_true,Zz8];have hv:=Zsc t.data.toList 0 0 (by decide) (List.all_eq_true.1 hall);have hp:(10:Nat)^(0+t.data.toList.length)<=10^12:=Nat.pow_le_pow_right (by omega) (by omega);have hp2:(10:Nat)^12=1000000000000:=by decide
   generalize hvv:val 0 t.data.toList=v at hv
   obtain ⟨n,hn,hna,hns⟩:∃n:Int,(if below=true then some (IntKind.i64.wrap (0-(v:Int))) else some (v:Int))=some n/\n.natAbs=v/\n=(if below=true then-(v:Int) else (v:Int)):=by
    cases below with
    | false=>exact ⟨v,rfl,by simp,rfl⟩
    | true=>exact ⟨-(v:Int),by simp only [if_true];rw [w64 (by omega) (by omega)];simp,by simp,rfl⟩
   rw [hn];simp only [Zz8];rw [ZwM n (by omega) (by omega) (by omega)];simp only [Zz8]
   by_cases he:toB (Lib.itoa n)=x
   ·have:ZnO x=some n:=Ztp (by omega) he;simp only [he,decide_true,Bool.not_true,ZAf,if_false];unfold Uy;rw [this];simp only;rw [if_pos (by omega)]
   ·simp only [he,decide_false,Bool.not_false,if_true];rw [no];intro m hm hmv;obtain ⟨h1,h2⟩:=dig m hm hmv;have h3:v=m.natAbs:=by rw [<-hvv,h1,ZsD]
    have h4:n=m:=by
     rw [hns]
     by_cases hb:below=true
     ·rw [if_pos hb];have:=h2.1 hb;omega
     ·rw [if_neg hb];have:¬m<0:=fun h=>hb (h2.2 h);omega
    apply he;rw [h4,ZhP hmv];apply ByteArray.ext;simp [toB]
theorem ZhM (x:ByteArray) (hx:x.size<=1048576) {k:Nat} (hk:1000<k):Wv k x=some (Uy x):=by
 unfold Wv;rw [Zu2 x hx hk];rfl
theorem Zje (x:ByteArray) (lo hi:Int) (h1: -999999999999<=lo) (h2:hi<=999999999999):Xj x lo hi=if (Uy x).2=true/\lo<=(Uy x).1/\(Uy x).1<=hi then ((Uy x).1,true) else (0,false):=by
 rw [Zp2];unfold Uy;cases ZnO x with
 | none=>simp
 | some n=>
  simp only
  by_cases hn:n.natAbs<1000000000000
  ·simp [hn]
  ·rw [if_neg hn,if_neg (by omega)];simp
end Go.Proofs.YtpblakfidofgfaaGreatDoor
