import Derived.Test.YtbkllghhcphkaaaGreatDoorJ8
set_option linter.unusedSimpArgs false
set_option linter.unusedVariables false
namespace Go.Proofs.YtbkllghhcphkaaaGreatDoor
open Go.RowKit Am
theorem Zrh {ps:List Zm} (hl:ps.length<=1048576) {U:Int->List Int} (h:GU ps U):Ev fun k=>JE k ps=some ((List.range ps.length).map fun (i:Nat)=>U (i:Int)):=by
 refine (h.ev.and (Ev.ge (ps.length+1))).mono fun k ⟨hk,hk2⟩=> ?_;unfold JE
 have:=ZdG (fun n (s:List (List Int)) i=>Y4 k ps n s i) (fun i:Nat=>(List.range i).map fun (i:Nat)=>U (i:Int)) (some ((List.range ps.length).map fun (i:Nat)=>U (i:Int))) ps.length
  (fun n i hi=>by
   try simp only
   rw [Y4,if_pos (ZK hi),(hk i).1,Zwe,X4 (by simp;omega) (by omega),Zwe,wS i (by omega),List.range_succ,List.map_append]
   rfl)
  (fun n=>by
   try simp only
   rw [Y4,if_neg (Xs (Zwk _))]) (k:=k) (by omega)
 rw [show Y4 k ps k [] 0=_ from this];rfl
theorem Zls {n:Nat} (U:Int->List Int) {x:Int} (h0:0<=x) (h1:x<n):at? ((List.range n).map fun (i:Nat)=>U (i:Int)) x=some (U x):=by
 obtain ⟨m,rfl⟩:=Int.eq_ofNat_of_zero_le h0;rw [ZfF,List.getElem?_map,List.getElem?_range (by omega)];rfl
theorem Zqq {n:Nat} (hn:n<=1048576) {U:Int->List Int} (nd:∀i,(U i).Nodup) (bd:∀i,∀z∈U i,0<=z/\z<n) (cb:Nat->Bool) (hcb:∀i,i<n->(cb i=true↔Reach U i i)):Ev fun k=>Vx k ((List.range n).map fun (i:Nat)=>U (i:Int))=some ((List.range n).map cb):=by
 have hb:∀i,i<n->∃r:List Int,(r.length<=n/\∀z,z∈r↔Reach U i z)/\Ev fun k=>YE k ((List.range n).map fun (i:Nat)=>U (i:Int)) k (U (i:Int)) 0=some r:=fun i hi=>
  bfs hn nd bd i (fun k=>YE k ((List.range n).map fun (i:Nat)=>U (i:Int))) (fun k v=>QA k v) (fun k x=>at? ((List.range n).map fun (i:Nat)=>U (i:Int)) x) (fun x h0 h1=>⟨U x,rfl,Ev.of fun k=>Zls U h0 h1⟩) (fun k m l j=>by rw [YE]) (fun k v m l j=>by rw [QA])
 obtain ⟨f,hf⟩:=QV (p:=fun (i:Nat) (r:List Int)=>(r.length<=n/\∀z,z∈r↔Reach U i z)/\Ev fun k=>YE k ((List.range n).map fun (i:Nat)=>U (i:Int)) k (U (i:Int)) 0=some r) (List.range n) fun i hi=>hb i (List.mem_range.1 hi);refine ((Ev.all (List.range n) fun i hi=>(hf i hi).2).and (Ev.ge (n+1))).mono fun k ⟨h1,hk⟩=> ?_;have hl:((List.range n).map fun (i:Nat)=>U (i:Int)).length=n:=by simp
 unfold Vx;rw [hl,ZpG (by omega) (by omega),Zwe]
 have:=ZdG (fun m (s:List Bool) i=>YF k ((List.range n).map fun (i:Nat)=>U (i:Int)) m s i) (fun i=>(List.range i).map cb++List.replicate (n-i) false) (some ((List.range n).map cb)) n
  (fun m i hi=>by
   have hi':i∈List.range n:=List.mem_range.2 hi;have hlen:(U (i:Int)).length<=n:=Xq (nd i) (bd i);have hr:=hf i hi'
   have hd:decide ((i:Int)∈f i)=cb i:=by
    rw [Bool.eq_iff_iff,decide_eq_true_eq,hr.1.2,hcb i hi]
   try simp only
   rw [YF,hl,if_pos (ZK hi),Zls U (by omega) (by omega),Zwe,X4 (by simp;omega) (by omega),Zwe,List.nil_append,h1 i hi',Zwe,Ja _ _ (by omega) (show (f i).length<k by have:=hr.1.1;omega),Zwe,Yp (show i<((List.range i).map cb++List.replicate (n-i) false).length by simp;omega),Zwe,hd,wS i (by omega)]
   have:((List.range i).map cb++List.replicate (n-i) false).set (i:Int).toNat (cb i)=(List.range (i+1)).map cb++List.replicate (n-(i+1)) false:=by
    rw [Int.toNat_natCast,List.set_append_right _ _ (by simp),List.range_succ,List.map_append,List.append_assoc]
    congr 1
    rw [show n-i=(n-(i+1))+1 by omega,List.replicate_succ];simp
   rw [this])
  (fun m=>by
   try simp only
   rw [YF,hl,if_neg (Xs (Zwk _))];simp) (k:=k) (by omega)
 rw [show YF k ((List.range n).map fun (i:Nat)=>U (i:Int)) k (List.replicate n false) 0=_ by simpa using this];rfl
structure ZqO (ps:List Zm) (U:Int->List Int) (run:Nat->Bool):Prop where
 nocyc:∀i,i<ps.length->run i=true->¬Reach U i i
 knd:∀i (h:i<ps.length),run i=true->ps[i].kind=2\/ps[i].kind=3
 evI:Ev fun k=>∀i,i<ps.length->QH k ps (i:Int)=some (run i)
 evS:Ev fun k=>∃cyc,Vx k ((List.range ps.length).map fun (i:Nat)=>U (i:Int))=some cyc/\Y3 k ps cyc k (List.replicate ps.length false) 0 0=some ((List.range ps.length).map run,(((List.range ps.length).filter run).length:Int))
theorem Zpl {ps:List Zm} (hl:ps.length<=1048576) {U:Int->List Int} (h:GU ps U):∃run,ZqO ps U run:=by
 obtain ⟨db,hdb⟩:=QV (p:=fun (i:Nat) (b:Bool)=>Ev fun k=>Qw k ps (i:Int)=some b/\Qa k ps (i:Int)=some b) (List.range ps.length) fun i _=>ZoM ps hl i;obtain ⟨cb,hcb⟩:=QV (p:=fun (i:Nat) (b:Bool)=>(b=true↔Reach U i i)/\Ev fun k=>UH k ps (i:Int)=some b/\Vo k ps (i:Int)=some b) (List.range ps.length) fun i _=>ZoQ hl h i;have mr:∀{i},i<ps.length->i∈List.range ps.length:=fun h=>List.mem_range.2 h;have evd:=Ev.all (List.range ps.length) fun i hi=>hdb i hi;have evc:=Ev.all (List.range ps.length) fun i hi=>(hcb i hi).2;have hcy:=Zqq hl (fun i=>ZaC (h.asc i)) h.bd cb fun i hi=>(hcb i (mr hi)).1
 let kd:Nat->Bool:=fun i=>match ps[i]? with | some p=>decide (p.kind=2)||decide (p.kind=3)| none=>false
 let run:Nat->Bool:=fun i=>kd i&&!db i&&!cb i
 have hkd:∀i (h:i<ps.length),kd i=(decide (ps[i].kind=2)||decide (ps[i].kind=3)):=fun i h=>by simp only [kd,Zwm h]
 refine ⟨run,fun i hi hr g=> ?_,fun i hi hr=> ?_,(evd.and evc).mono fun k ⟨e1,e2⟩ i hi=> ?_,(evd.and (hcy.and (Ev.ge (ps.length+1)))).mono fun k ⟨e1,e2,hk⟩=>⟨_,e2, ?_⟩⟩
 ·have:=(hcb i (mr hi)).1.2 g;simp only [run,this] at hr;simp at hr
 ·simp only [run,hkd i hi,Zwj,Bool.or_eq_true,decide_eq_true_eq] at hr;exact hr.1.1
 ·obtain ⟨_,d2⟩:=e1 i (mr hi);obtain ⟨_,c2⟩:=e2 i (mr hi);unfold QH;rw [decide_eq_true (show (0:Int)<=(i:Int) by omega),decide_eq_true (show (i:Int)<(ps.length:Int) by omega),Yp hi,d2,c2];simp only [if_true,Zwe,run,hkd i hi];cases decide (ps[i].kind=2)<;>cases decide (ps[i].kind=3)<;>cases db i<;>cases cb i<;>rfl
 ·have:=ZdG (fun m (s:List Bool×Int) i=>Y3 k ps ((List.range ps.length).map cb) m s.1 s.2 i) (fun i=>((List.range i).map run++List.replicate (ps.length-i) false,(((List.range i).filter run).length:Int))) (some ((List.range ps.length).map run,(((List.range ps.length).filter run).length:Int))) ps.length
   (fun m i hi=>by
    obtain ⟨d1,_⟩:=e1 i (mr hi);have hls:i<((List.range i).map run++List.replicate (ps.length-i) false).length:=by simp;omega
    have hset:∀b:Bool,((List.range i).map run++List.replicate (ps.length-i) false).set (i:Int).toNat b=(List.range i).map run++b::List.replicate (ps.length-(i+1)) false:=fun b=>by
     rw [Int.toNat_natCast,List.set_append_right _ _ (by simp)]
     congr 1
     rw [show ps.length-i=(ps.length-(i+1))+1 by omega,List.replicate_succ];simp
    have hget:∀b:Bool,at? ((List.range i).map run++b::List.replicate (ps.length-(i+1)) false) (i:Int)=some b:=fun b=>by
     rw [ZfF,List.getElem?_append_right (by simp)];simp
    have hcnt:((List.range i).filter run).length<=i:=by have:=List.length_filter_le run (List.range i);simpa using this
    have hcat:at? ((List.range ps.length).map cb) (i:Int)=some (cb i):=by rw [ZfF,List.getElem?_map,List.getElem?_range hi];rfl
    have hw:IntKind.i64.wrap ((((List.range i).filter run).length:Int)+1)=((((List.range i).filter run).length+1:Nat):Int):=wS _ (by omega)
    have key:∀b:Bool,b=run i->(if b=true then some ((List.range i).map run++b::List.replicate (ps.length-(i+1)) false,IntKind.i64.wrap ((((List.range i).filter run).length:Int)+1)) else some ((List.range i).map run++b::List.replicate (ps.length-(i+1)) false,(((List.range i).filter run).length:Int)):Option (List Bool×Int))=some ((List.range (i+1)).map run++List.replicate (ps.length-(i+1)) false,(((List.range (i+1)).filter run).length:Int)):=fun b hb=>by
     rw [List.range_succ,List.map_append,List.filter_append,hw];cases hr:run i<;>rw [hr] at hb<;>subst hb<;>simp [hr]
    try simp only
    rw [Y3,if_pos (ZK hi),hcat,Yp hi,Yp hls,d1,wS i (by omega)];simp only [Zwe,hset,hget];have hrun:run i=((decide (ps[i].kind=2)||decide (ps[i].kind=3))&&!db i&&!cb i):=by simp only [run,hkd i hi]
    cases hc:cb i
    ·cases hd:db i
     ·cases h2:decide (ps[i].kind=2)
      ·simp only [Bool.not_false,if_true,Zwl,if_false,Zwe,hget];rw [key _ (by rw [hrun,hc,hd,h2];simp),Zwe]
      ·simp only [Bool.not_false,if_true,Zwe,hget];have q:=key true (by rw [hrun,hc,hd,h2];simp);rw [if_pos rfl] at q;obtain ⟨q1,q2⟩:=Prod.mk.inj (Zwf q);rw [q1,q2]
     ·simp only [Bool.not_false,Bool.not_true,if_true,Zwl,if_false,Zwe,hget];have q:=key false (by rw [hrun,hc,hd];simp);rw [if_neg (by simp)] at q;obtain ⟨q1,q2⟩:=Prod.mk.inj (Zwf q);rw [q1,q2]
    ·simp only [Bool.not_true,Zwl,if_false,Zwe,hget];have q:=key false (by rw [hrun,hc];simp);rw [if_neg (by simp)] at q;obtain ⟨q1,q2⟩:=Prod.mk.inj (Zwf q);rw [q1,q2])
   (fun m=>by
    try simp only
    rw [Y3,if_neg (Xs (Zwk _))];simp) (k:=k) (by omega)
  simpa using this
def ZdI (U:Int->List Int) (run:Nat->Bool) (o:List Int) (i:Nat):Bool:=run i&&!decide ((i:Int)∈o)&&!(U (i:Int)).any fun j=>run j.toNat&&!decide (j∈o)
theorem Zpq {U:Int->List Int} {n:Nat} (bd:∀i,∀z∈U i,0<=z/\z<n) (nd:∀i,(U i).Nodup) (hn:n<=1048576) (run:Nat->Bool) (o:List Int) (i:Int) (ho:o.length<=n) {k:Nat} (hk:n<k):Uu k o (U i) ((List.range n).map run)=some (!(U i).any fun j=>run j.toNat&&!decide (j∈o)):=by
 have hlen:(U i).length<=n:=Xq (nd i) (bd i);unfold Uu
 rw [Qm (U i) (fun j=>run j.toNat&&!decide (j∈o)) (fun x=>(at? ((List.range n).map run) x).bind fun x4=>if x4=true then (Z8 k o x).bind fun x5=>some (!x5) else some false) false () (QY k o (U i) ((List.range n).map run))
  (fun x hx=>by
   obtain ⟨h0,h1⟩:=bd i x hx;obtain ⟨m,rfl⟩:=Int.eq_ofNat_of_zero_le h0;rw [ZfF,List.getElem?_map,List.getElem?_range (by omega),Ja o _ (by omega) (by omega)];simp only [Option.map_some,Zwe,Int.toNat_natCast];cases run m<;>rfl)
  (fun m j=>by rw [QY];simp only [Option.bind_assoc]) (by omega) (by omega)]
 cases (U i).any fun j=>run j.toNat&&!decide (j∈o)<;>rfl
theorem ZmQ (xs o:List Int) (hx:xs.length<=4294967296) (ho:o.length<=4294967296) {k:Nat} (hk:xs.length<k) (hk2:o.length<k):Zbu k xs o=some (!xs.any fun j=>!decide (j∈o)):=by
 unfold Zbu
 rw [Qm xs (fun j=>!decide (j∈o)) (fun x=>(Vl k o x).bind fun x3=>some (!x3)) false () (W7 k xs o)
  (fun x hx=>by rw [Ko o _ (by omega) (by omega)];rfl)
  (fun m j=>by rw [W7];simp only [Option.bind_assoc,Zwe]) (by omega) (by omega)]
 cases xs.any fun j=>!decide (j∈o)<;>rfl
theorem Zt8 (xs o:List Int) (hx:xs.length<=4294967296) (ho:o.length<=4294967296) {k:Nat} (hk:xs.length<k) (hk2:o.length<k):ZbV k o xs=some (!xs.any fun j=>!decide (j∈o)):=by
 unfold ZbV
 rw [Qm xs (fun j=>!decide (j∈o)) (fun x=>(Z8 k o x).bind fun x3=>some (!x3)) false () (X9 k o xs)
  (fun x hx=>by rw [Ja o _ (by omega) (by omega)];rfl)
  (fun m j=>by rw [X9];simp only [Option.bind_assoc,Zwe]) (by omega) (by omega)]
 cases xs.any fun j=>!decide (j∈o)<;>rfl
theorem ZlJ {ps:List Zm} {U:Int->List Int} (h:GU ps U) (hl:ps.length<=1048576) (run:Nat->Bool) {k:Nat} (hk:ps.length<k) (h1:∀i,YD k ps i=some (U i)) (h2:∀i,i<ps.length->QH k ps (i:Int)=some (run i)) (i:Int):XX k ps i=some ((U i).filter fun j=>run j.toNat):=by
 have hlen:=h.len i;unfold XX;rw [h1,Zwe]
 have:=ZdG (fun m (s:List Int) j=>Z2 k ps (U i) m s j) (fun j=>((U i).take j).filter fun j=>run j.toNat) (some ((U i).filter fun j=>run j.toNat)) (U i).length
  (fun m j hj=>by
   obtain ⟨b0,b1⟩:=h.bd i _ (List.getElem_mem hj);have hr:=h2 (U i)[j].toNat (by omega);rw [show (((U i)[j].toNat:Nat):Int)=(U i)[j] by omega] at hr
   have hfl:(((U i).take j).filter fun j=>run j.toNat).length<=j:=by
    have:=List.length_filter_le (fun j:Int=>run j.toNat) ((U i).take j);rw [List.length_take] at this;omega
   try simp only
   rw [Z2,if_pos (ZK hj),Yp hj,Zwe,hr,Zwe,X4 (by simp;omega) (by omega),wS j (by omega),List.take_succ_eq_append_getElem hj,List.filter_append];cases hrun:run (U i)[j].toNat<;>simp [hrun])
  (fun m=>by
   try simp only
   rw [Z2,if_neg (Xs (Zwk _)),List.take_length]) (k:=k) (by omega)
 rw [show Z2 k ps (U i) k [] 0=_ by simpa using this];rfl
theorem ZoS {ps:List Zm} {U:Int->List Int} (h:GU ps U) (hl:ps.length<=1048576) (run:Nat->Bool) {k:Nat} (hk:ps.length<k) (h1:∀i,YD k ps i=some (U i)) (h2:∀i,i<ps.length->QH k ps (i:Int)=some (run i)) (o:List Int) (ho:o.length<=ps.length):YS k ps o k 0=some (((List.range ps.length).findIdx (ZdI U run o):Nat):Int):=by
 have hb:∀i,i<ps.length->((Vl k o (i:Int)).bind fun x5=>if x5=true then some true else (QH k ps (i:Int)).bind fun x6=>if (!x6)=true then some true else (XX k ps (i:Int)).bind fun x7=>(Zbu k x7 o).bind fun x8=>some (!x8))=some (!ZdI U run o i):=fun i hi=>by
  have hlen:=h.len (i:Int);have hfl:=List.length_filter_le (fun j:Int=>run j.toNat) (U (i:Int));rw [Ko o _ (by omega) (by omega),h2 i hi,ZlJ h hl run hk h1 h2];simp only [Zwe];rw [ZmQ _ o (by omega) (by omega) (by omega) (by omega),List.any_filter];unfold ZdI;cases decide ((i:Int)∈o)<;>cases run i<;>simp
 rw [Zcz (List.range ps.length) (ZdI U run o) (YS k ps o) (fun i=>some (i:Int)) (some (ps.length:Int))
  (fun m i hi hc=>by
   have hi':i<ps.length:=by simpa using hi
   rw [List.getElem_range] at hc;rw [YS,if_pos (ZK hi'),hb i hi',hc,wS i (by omega)];rfl)
  (fun m i hi hc=>by
   have hi':i<ps.length:=by simpa using hi
   rw [List.getElem_range] at hc;rw [YS,if_pos (ZK hi'),hb i hi',hc];rfl)
  (fun m=>by
   rw [List.length_range,YS,if_neg (Xs (Zwk _))];rfl) (by simpa using hk)]
 have:=List.findIdx_le_length (xs:=List.range ps.length) (p:=ZdI U run o)
 split
 ·rfl
 ·rename_i hc;simp only [List.length_range] at hc this;rw [show (List.range ps.length).findIdx (ZdI U run o)=ps.length by omega]
theorem Zsu {U:Int->List Int} {ps:List Zm} (h:GU ps U) (hl:ps.length<=1048576) (run:Nat->Bool) {k:Nat} (hk:ps.length<k) (c:List Int->Option (List Int)) (o:List Int) (ho:o.length<=ps.length):YM c k ps ((List.range ps.length).map fun (i:Nat)=>U (i:Int)) ((List.range ps.length).map run) o k 0=if (List.range ps.length).findIdx (ZdI U run o)<ps.length then c (o++[(((List.range ps.length).findIdx (ZdI U run o):Nat):Int)]) else c o:=by
 have hb:∀i,i<ps.length->((at? ((List.range ps.length).map run) (i:Int)).bind fun x22=>if x22=true then (Z8 k o (i:Int)).bind fun x23=>if (!x23)=true then (at? ((List.range ps.length).map fun (i:Nat)=>U (i:Int)) (i:Int)).bind fun x24=>(Uu k o x24 ((List.range ps.length).map run)).bind fun x25=>some x25 else some false else some false)=some (ZdI U run o i):=fun i hi=>by
  rw [show at? ((List.range ps.length).map run) (i:Int)=some (run i) by rw [ZfF,List.getElem?_map,List.getElem?_range hi];rfl,Ja o _ (by omega) (by omega),Zls U (by omega) (by omega)];simp only [Zwe];rw [Zpq h.bd (fun i=>ZaC (h.asc i)) hl run o _ ho hk];unfold ZdI;cases decide ((i:Int)∈o)<;>cases run i<;>simp
 have:=Zcz (List.range ps.length) (ZdI U run o) (YM c k ps ((List.range ps.length).map fun (i:Nat)=>U (i:Int)) ((List.range ps.length).map run) o) (fun i=>c (o++[(i:Int)])) (c o)
  (fun m i hi hc=>by
   have hi':i<ps.length:=by simpa using hi
   rw [List.getElem_range] at hc;rw [YM,if_pos (ZK hi'),hb i hi',hc,wS i (by omega)];rfl)
  (fun m i hi hc=>by
   have hi':i<ps.length:=by simpa using hi
   rw [List.getElem_range] at hc;rw [YM,if_pos (ZK hi'),hb i hi',hc];simp only [Zwe,if_true];rw [X4 (by simp;omega) (by omega)];rfl)
  (fun m=>by
   rw [List.length_range,YM,if_neg (Xs (Zwk _))]) (k:=k) (by simpa using hk)
 rw [this,List.length_range]
theorem ZrG {ps:List Zm} (hl:ps.length<=1048576) {U:Int->List Int} (h:GU ps U) {run:Nat->Bool} (hr:ZqO ps U run):∀(d:Nat) (o:List Int),o.Nodup->(∀x∈o,(0<=x/\x<ps.length)/\run x.toNat=true)->o.length+d=((List.range ps.length).filter run).length->
  ∃r:List Int,(r.Nodup/\∀x∈r,(0<=x/\x<ps.length)/\run x.toNat=true)/\∀k,ps.length<k->(∀i,YD k ps i=some (U i))->(∀i,i<ps.length->QH k ps (i:Int)=some (run i))->∀m,d<m->
   YN k ps ((List.range ps.length).map fun (i:Nat)=>U (i:Int)) ((List.range ps.length).map run) (((List.range ps.length).filter run).length:Int) m o=some r/\Qx k ps m o=some r:=by
 intro d
 induction d with
 | zero=>
  intro o ho hm hlen;refine ⟨o,⟨ho,hm⟩,fun k hk h1 h2 m hmm=> ?_⟩;obtain ⟨m,rfl⟩:∃q,m=q+1:=⟨m-1,by omega⟩;have hol:o.length<=ps.length:=Xq ho fun x hx=>(hm x hx).1
  have hall:∀i,i<ps.length->run i=true->(i:Int)∈o:=fun i hi hri=>by
   refine Classical.byContradiction fun hno=> ?_
   have h3:=Zcc (l:=o++[(i:Int)]) (m:=((List.range ps.length).filter run).map fun (i:Nat)=>(i:Int)) (JN ho hno) fun z hz=>by
    rcases List.mem_append.1 hz with g| g
    ·obtain ⟨⟨b0,b1⟩,b2⟩:=hm z g;exact List.mem_map.2 ⟨z.toNat,List.mem_filter.2 ⟨List.mem_range.2 (by omega),b2⟩,by omega⟩
    ·rw [List.mem_singleton] at g;exact List.mem_map.2 ⟨i,List.mem_filter.2 ⟨List.mem_range.2 hi,hri⟩,g.symm⟩
   rw [List.length_append,List.length_map,List.length_singleton] at h3;omega
  have hno:(List.range ps.length).findIdx (ZdI U run o)=ps.length:=by
   have:=List.findIdx_eq_length (xs:=List.range ps.length) (p:=ZdI U run o);rw [List.length_range] at this;refine this.2 fun i hi=> ?_;have hi':=List.mem_range.1 hi;unfold ZdI;cases hri:run i
   ·simp
   ·simp [hall i hi' hri]
  constructor
  ·rw [YN,if_neg (by simp;omega)]
  ·rw [Qx,ZoS h hl run hk h1 h2 o hol,hno];simp
 | succ d ih=>
  intro o ho hm hlen;have hol:o.length<=ps.length:=Xq ho fun x hx=>(hm x hx).1
  have hlt:(List.range ps.length).findIdx (ZdI U run o)<ps.length:=by
   refine Classical.byContradiction fun hno=> ?_
   have hno':∀i,i<ps.length->ZdI U run o i=false:=fun i hi=>by
    have:=List.not_of_lt_findIdx (xs:=List.range ps.length) (p:=ZdI U run o) (i:=i) (by omega)
    simpa using this
   have hne:∃x:Int,(0<=x/\x<ps.length)/\run x.toNat=true/\x∉o:=by
    refine Classical.byContradiction fun hall=> ?_
    have h3:=Zcc (l:=((List.range ps.length).filter run).map fun (i:Nat)=>(i:Int)) (m:=o) (by
     rw [List.Nodup,List.pairwise_map];exact List.Pairwise.imp (fun {a b} hab e=>hab (by omega)) (List.Pairwise.filter _ List.nodup_range)) fun z hz=>by
     obtain ⟨i,hi,rfl⟩:=List.mem_map.1 hz;obtain ⟨hi1,hi2⟩:=List.mem_filter.1 hi;have hi1:=List.mem_range.1 hi1;refine Classical.byContradiction fun g=>hall ⟨(i:Int),⟨by omega,by omega⟩,by simpa using hi2,g⟩
    rw [List.length_map] at h3;omega
   obtain ⟨x,⟨x1,x2,x3⟩,hx⟩:=Zn6 (U:=U) (n:=ps.length) (S:=fun x=>(0<=x/\x<ps.length)/\run x.toNat=true/\x∉o) (fun x h=>h.1) hne fun x ⟨⟨x0,x1⟩,x2,x3⟩=>by
    have hc:=hno' x.toNat (by omega);unfold ZdI at hc;rw [show ((x.toNat:Nat):Int)=x by omega,x2,decide_eq_false x3] at hc;simp only [Bool.not_false,Bool.true_and,Bool.and_true,Bool.not_eq_false'] at hc;obtain ⟨y,hy,hy2⟩:=List.any_eq_true.1 hc;simp only [Zwj,Bool.not_eq_true',decide_eq_false_iff_not] at hy2;exact ⟨y,hy,h.bd _ _ hy,hy2⟩
   have:=hr.nocyc x.toNat (by omega) x2;rw [show ((x.toNat:Nat):Int)=x by omega] at this;exact this hx
  have hc:ZdI U run o ((List.range ps.length).findIdx (ZdI U run o))=true:=by
   have:=List.findIdx_getElem (xs:=List.range ps.length) (p:=ZdI U run o) (w:=by rw [List.length_range];exact hlt)
   rwa [List.getElem_range] at this
  have hc2:run ((List.range ps.length).findIdx (ZdI U run o))=true/\(((List.range ps.length).findIdx (ZdI U run o):Nat):Int)∉o:=by
   unfold ZdI at hc;simp only [Zwj,Bool.not_eq_true',decide_eq_false_iff_not] at hc;exact hc.1
  obtain ⟨r,h3,h4⟩:=ih (o++[(((List.range ps.length).findIdx (ZdI U run o):Nat):Int)]) (JN ho hc2.2) (fun x hx=>by
   rcases List.mem_append.1 hx with g| g
   ·exact hm x g
   ·rw [List.mem_singleton] at g;subst g;exact ⟨⟨by omega,by omega⟩,by simpa using hc2.1⟩) (by simp;omega)
  refine ⟨r,h3,fun k hk h1 h2 m hmm=> ?_⟩;obtain ⟨m,rfl⟩:∃q,m=q+1:=⟨m-1,by omega⟩;obtain ⟨q1,q2⟩:=h4 k hk h1 h2 m (by omega);constructor
  ·rw [YN,if_pos (by simp;omega),Zsu h hl run hk _ o hol,if_pos hlt];exact q1
  ·rw [Qx,ZoS h hl run hk h1 h2 o hol,Zwe,if_neg (by simp;omega),X4 (by simp;omega) (by omega)];exact q2
theorem ZnE {ps:List Zm} (hl:ps.length<=1048576) {U:Int->List Int} (h:GU ps U) {run:Nat->Bool} (hr:ZqO ps U run):∃r:List Int,(r.Nodup/\∀x∈r,(0<=x/\x<ps.length)/\run x.toNat=true)/\Ev fun k=>JF k ps=some r/\JR k ps=some r:=by
 obtain ⟨r,h1,h2⟩:=ZrG hl h hr ((List.range ps.length).filter run).length [] (by simp) (by simp) (by simp);refine ⟨r,h1,((Zrh hl h).and (hr.evS.and (hr.evI.and (h.ev.and (Ev.ge (ps.length+1)))))).mono fun k ⟨e1,⟨cyc,e2,e3⟩,e4,e5,hk⟩=> ?_⟩;have hcnt:((List.range ps.length).filter run).length<=ps.length:=by have:=List.length_filter_le run (List.range ps.length);simpa using this
 obtain ⟨q1,q2⟩:=h2 k (by omega) (fun i=>(e5 i).2) e4 k (by omega);constructor
 ·unfold JF ZaJ;rw [e1,Zwe,e2,Zwe,ZpG (by omega) (by omega),Zwe,e3];simp only [Zwe,q1]
 ·unfold JR;exact q2
def Ev2 (p:Nat->Nat->Prop):Prop:=∃B,∀k n,B<=k->B<=n->p k n
theorem Ev2.of {p:Nat->Nat->Prop} (h:∀k n,p k (n+1)):Ev2 p:=⟨1,fun k n _ hn=>by cases n with | zero=>omega| succ n=>exact h k n⟩
structure Zdy (T:List Zh) (E:Int):Prop where
 nm:∀t∈T,t.kind=1->∃c r,t.text.data.toList=c::r/\ZgL c=true
 sy:∀t∈T,t.kind=4->∃c r,t.text.data.toList=c::r/\ZgL c=false
 at_:∀t∈T,0<=t.at_
 tx:∀t∈T,t.text.size<=120
 en:0<=E
 len:T.length<=60
def Zm5 (T:List Zh) (E:Int) (b:Nat):Int:=match T[b]? with
 | some t=>t.at_
 | none=>E
theorem ZjB {T:List Zh} {E:Int} (ok:Zdy T E) (b:Nat):0<=Zm5 T E b:=by
 unfold Zm5
 split
 ·rename_i t h;exact ok.at_ t (List.mem_of_getElem? h)
 ·exact ok.en
def Rl (T:List Zh) (E:Int) (x:Zd) (p:Zf):Option Nat->Prop
 | some j=>j<=T.length/\x=⟨T,j,E, -1⟩/\p=⟨T,j, -1⟩
 | none=>∃b:Nat,b<=T.length/\x.toks=T/\x.end_=E/\p.list=T/\p.bad=b/\x.bad=Zm5 T E b
def adS (x:Zd):Zd:=⟨x.toks,IntKind.i64.wrap (x.i+1),x.end_,x.bad⟩
def adI (p:Zf):Zf:=⟨p.list,IntKind.i64.wrap (p.at_+1),p.bad⟩
def ZaG (t:Zh) (s:ByteArray):Bool:=decide (t.kind=4)&&decide (t.text=s)
def ZgM (t:Zh) (s:ByteArray):Bool:=decide (t.kind=1)&&decide (t.text=s)
theorem ZbR (t:Zh) (s:ByteArray):WC t s=some (ZaG t s):=by unfold WC ZaG;by_cases h:t.kind=4<;>simp [h]
theorem ZjN (t:Zh) (s:ByteArray):Ux t s=some (ZaG t s):=by unfold Ux ZaG;by_cases h:t.kind=4<;>simp [h]
theorem Znq (t:Zh) (s:ByteArray):UJ t s=some (ZgM t s):=by unfold UJ ZgM;by_cases h:t.kind=1<;>simp [h]
theorem Zgo (t:Zh) (s:ByteArray):YA t s=some (ZgM t s):=by unfold YA ZgM;by_cases h:t.kind=1<;>simp [h]
def zT:Zh:=⟨0,0,0,⟨#[]⟩⟩
theorem ZfR (s:ByteArray):ZaG zT s=false:=by simp [ZaG,zT]
theorem ZkE (s:ByteArray):ZgM zT s=false:=by simp [ZgM,zT]
def Zbm (T:List Zh) (j:Nat) (s:ByteArray):Bool:=match T[j]? with
 | some t=>ZaG t s||ZgM t s
 | none=>false
section
variable {T:List Zh} {E:Int}
theorem Zdf (ok:Zdy T E) {j:Nat} (hj:j<=T.length) (s:ByteArray):Zp ⟨T,j,E, -1⟩ s=some (Zbm T j s,⟨T,j,E, -1⟩):=by
 unfold Zp Zbm
 by_cases h:j<T.length
 ·simp only [ZK h,if_true,Yp h,Zwe,ZbR,Znq,Zwm h];cases ZaG T[j] s<;>simp
 ·simp [show ¬((j:Int)<(T.length:Int)) by omega,List.getElem?_eq_none (show T.length<=j by omega)]
theorem Zfh {x:Zd} (h:0<=x.bad) (s:ByteArray):Zp x s=some (false,x):=by
 unfold Zp;simp [show ¬x.bad<0 by omega]
theorem Zao {j:Nat} (hj:j<=T.length):Zy ⟨T,j, -1⟩=some ((T[j]?).getD zT,⟨T,j, -1⟩):=by
 unfold Zy
 by_cases h:j<T.length
 ·simp only [ZK h,if_true,Yp h,Zwe,Zwm h];simp
 ·simp [show ¬((j:Int)<(T.length:Int)) by omega,List.getElem?_eq_none (show T.length<=j by omega),zT]
theorem Zcd {p:Zf} (h:0<=p.bad):Zy p=some (zT,p):=by
 unfold Zy;simp [show ¬p.bad<0 by omega,zT]
theorem Uz {p:Zf} {t:Zh} (h:Zy p=some (t,p)) (s:ByteArray):Zj p s=some (ZaG t s,if ZaG t s=true then adI p else p):=by
 unfold Zj;rw [h];simp only [Zwe,ZjN];cases ZaG t s<;>rfl
theorem Rl.bad {x:Zd} {p:Zf} (ok:Zdy T E) (h:Rl T E x p none):0<=x.bad/\0<=p.bad:=by
 obtain ⟨b,_,_,_,_,h1,h2⟩:=h;exact ⟨by rw [h2];exact ZjB ok b,by rw [h1];omega⟩
theorem ZsJ (ok:Zdy T E) {j:Nat} (h:j<T.length):Rl T E (adS ⟨T,j,E, -1⟩) (adI ⟨T,j, -1⟩) (some (j+1)):=by
 have:=ok.len;refine ⟨by omega, ?_, ?_⟩
 ·simp only [adS,wS j (by omega)]
 ·simp only [adI,wS j (by omega)]
def Zm7 (s:ByteArray):Prop:=∃c r,s.data.toList=c::r/\ZgL c=false
def KwS (s:ByteArray):Prop:=∃c r,s.data.toList=c::r/\ZgL c=true
theorem ZrX (ok:Zdy T E) {t:Zh} (ht:t∈T) {s:ByteArray} (hs:Zm7 s):ZgM t s=false:=by
 unfold ZgM
 by_cases h1:t.kind=1
 ·obtain ⟨c,r,e1,e2⟩:=ok.nm t ht h1;obtain ⟨c',r',e3,e4⟩:=hs;have:t.text≠s:=fun e=>by rw [e,e3] at e1;cases e1;rw [e2] at e4;cases e4
  simp [this]
 ·simp [h1]
theorem Zri (ok:Zdy T E) {t:Zh} (ht:t∈T) {s:ByteArray} (hs:KwS s):ZaG t s=false:=by
 unfold ZaG
 by_cases h1:t.kind=4
 ·obtain ⟨c,r,e1,e2⟩:=ok.sy t ht h1;obtain ⟨c',r',e3,e4⟩:=hs;have:t.text≠s:=fun e=>by rw [e,e3] at e1;cases e1;rw [e2] at e4;cases e4
  simp [this]
 ·simp [h1]
theorem Zd8 {j:Nat} {t:Zh} (h:T[j]? =some t) (s:ByteArray):Zbm T j s=(ZaG t s||ZgM t s):=by unfold Zbm;rw [h]
theorem ZcL {j:Nat} (h:T[j]? =none) (s:ByteArray):Zbm T j s=false:=by unfold Zbm;rw [h]
theorem J9 (ok:Zdy T E) {x:Zd} {p:Zf} {o:Option Nat} (h:Rl T E x p o) {s:ByteArray} (hs:Zm7 s):
  ∃b:Bool,Zp x s=some (b,x)/\Zj p s=some (b,if b=true then adI p else p)/\(b=true->∃j,o=some j/\j<T.length/\Rl T E (adS x) (adI p) (some (j+1))):=by
 cases o with
 | none=>
  have hb:=h.bad ok;refine ⟨false,Zfh hb.1 s, ?_,by simp⟩;rw [Uz (Zcd hb.2),ZfR]
 | some j=>
  obtain ⟨hj,rfl,rfl⟩:=h;refine ⟨Zbm T j s,Zdf ok hj s, ?_, ?_⟩
  ·rw [Uz (Zao hj)];cases e:T[j]? with
   | none=>simp [ZcL e,ZfR]
   | some t=>simp [Zd8 e,ZrX ok (List.mem_of_getElem? e) hs]
  ·intro hb;cases e:T[j]? with
   | none=>rw [ZcL e] at hb;cases hb
   | some t=>have hl:=(List.getElem?_eq_some_iff.1 e).1;exact ⟨j,rfl,hl,ZsJ ok hl⟩
theorem Zii (ok:Zdy T E) {x:Zd} {p:Zf} {o:Option Nat} (h:Rl T E x p o) {s:ByteArray} (hs:KwS s):
  ∃(b:Bool) (t:Zh),Zp x s=some (b,x)/\Zy p=some (t,p)/\YA t s=some b/\(b=true->∃j,o=some j/\j<T.length/\Rl T E (adS x) (adI p) (some (j+1))):=by
 cases o with
 | none=>
  have hb:=h.bad ok;exact ⟨false,zT,Zfh hb.1 s,Zcd hb.2,by rw [Zgo,ZkE],by simp⟩
 | some j=>
  obtain ⟨hj,rfl,rfl⟩:=h;refine ⟨Zbm T j s,_,Zdf ok hj s,Zao hj, ?_, ?_⟩
  ·rw [Zgo];cases e:T[j]? with
   | none=>simp [ZcL e,ZkE]
   | some t=>simp [Zd8 e,Zri ok (List.mem_of_getElem? e) hs]
  ·intro hb;cases e:T[j]? with
   | none=>rw [ZcL e] at hb;cases hb
   | some t=>have hl:=(List.getElem?_eq_some_iff.1 e).1;exact ⟨j,rfl,hl,ZsJ ok hl⟩
def zE:Za:=⟨0,0,⟨#[]⟩,[]⟩
theorem ZnY (ok:Zdy T E) {x:Zd} {p:Zf} {o:Option Nat} (h:Rl T E x p o):∃x' p',Y1 x=some (zE,x')/\Ys p=some (zE,p')/\Rl T E x' p' none:=by
 cases o with
 | none=>
  have hb:=h.bad ok;obtain ⟨b,h0,h1,h2,h3,h4,h5⟩:=h;refine ⟨x,p, ?_, ?_,⟨b,h0,h1,h2,h3,h4,h5⟩⟩
  ·unfold Y1;simp [show ¬x.bad<0 by omega,zE]
  ·unfold Ys;simp [show ¬p.bad<0 by omega,zE]
 | some j=>
  obtain ⟨hj,rfl,rfl⟩:=h;refine ⟨⟨T,j,E,Zm5 T E j⟩,⟨T,j,j⟩, ?_, ?_,⟨j,hj,rfl,rfl,rfl,rfl,rfl⟩⟩
  ·unfold Y1 Zm5
   by_cases hl:j<T.length
   ·simp only [ZK hl,if_true,Yp hl,Zwe,Zwm hl];simp [zE]
   ·simp [show ¬((j:Int)<(T.length:Int)) by omega,List.getElem?_eq_none (show T.length<=j by omega),zE]
  ·unfold Ys;simp [zE]
theorem Zpj (ok:Zdy T E) {j:Nat} (hj:j<=T.length) (s:ByteArray):(ZaG ((T[j]?).getD zT) s||ZgM ((T[j]?).getD zT) s)=Zbm T j s:=by
 cases e:T[j]? with
 | none=>simp [ZcL e,ZfR,ZkE]
 | some t=>simp [Zd8 e]
theorem Zbq {p:Zf} {t:Zh} (h:Zy p=some (t,p)) (s:ByteArray):Zo p s=if (ZgM t s||ZaG t s)=true then some (adI p) else (Ys p).bind fun y=>some y.2:=by
 unfold Zo;rw [h];simp only [Zwe,Zgo,h,ZjN];cases ZgM t s<;>cases ZaG t s<;>simp [adI]
theorem ZfQ (ok:Zdy T E) {x:Zd} {p:Zf} {o:Option Nat} (h:Rl T E x p o) (s:ByteArray):
  ∃x' p' o',Zx x s=some x'/\Zo p s=some p'/\Rl T E x' p' o'/\∀j',o'=some j'->∃j,o=some j/\j'=j+1:=by
 obtain ⟨xf,pf,f1,f2,f3⟩:=ZnY ok h;cases o with
 | none=>
  have hb:=h.bad ok;refine ⟨xf,pf,none, ?_, ?_,f3,by simp⟩
  ·unfold Zx;rw [Zfh hb.1];simp [f1]
  ·rw [Zbq (Zcd hb.2),ZfR,ZkE,f2];rfl
 | some j=>
  obtain ⟨hj,rfl,rfl⟩:=h;have e1:(ZgM ((T[j]?).getD zT) s||ZaG ((T[j]?).getD zT) s)=Zbm T j s:=by rw [Bool.or_comm];exact Zpj ok hj s
  cases hb:Zbm T j s with
  | false=>
   refine ⟨xf,pf,none, ?_, ?_,f3,by simp⟩
   ·unfold Zx;rw [Zdf ok hj,hb];simp [f1]
   ·rw [Zbq (Zao hj),e1,hb,f2];rfl
  | true=>
   have hl:j<T.length:=by
    cases e:T[j]? with
    | none=>rw [ZcL e] at hb;cases hb
    | some t=>exact (List.getElem?_eq_some_iff.1 e).1
   refine ⟨adS ⟨T,j,E, -1⟩,adI ⟨T,j, -1⟩,some (j+1), ?_, ?_,ZsJ ok hl,fun j' h=>⟨j,rfl,by cases h;rfl⟩⟩
   ·unfold Zx;rw [Zdf ok hj,hb];rfl
   ·rw [Zbq (Zao hj),e1,hb];rfl
theorem names (ok:Zdy T E) {x:Zd} {p:Zf} {o:Option Nat} (h:Rl T E x p o):
  ∃ns ni x' p' o',Rl T E x' p' o'/\(∀j',o'=some j'->ns=ni/\ns.size<=120/\∃j,o=some j/\j'=j+1)/\∀k,200<=k->XR k x=some (ns,x')/\Yr k p=some (ni,p'):=by
 obtain ⟨xf,pf,f1,f2,f3⟩:=ZnY ok h;cases o with
 | none=>
  have hb:=h.bad ok;refine ⟨⟨#[]⟩,⟨#[]⟩,xf,pf,none,f3,by simp,fun k hk=>⟨?_, ?_⟩⟩
  ·unfold XR;simp [show 0<=x.bad from hb.1,f1]
  ·unfold Yr;rw [Zcd hb.2];simp [zT,f2]
 | some j=>
  obtain ⟨hj,rfl,rfl⟩:=h;cases e:T[j]? with
  | none=>
   have hl:T.length<=j:=List.getElem?_eq_none_iff.1 e;refine ⟨⟨#[]⟩,⟨#[]⟩,xf,pf,none,f3,by simp,fun k hk=>⟨?_, ?_⟩⟩
   ·unfold XR;simp [show ((T.length:Int)<=(j:Int)) by omega,f1]
   ·unfold Yr;rw [Zao hj,e];simp [zT,f2]
  | some t=>
   obtain ⟨hl,rfl⟩:=List.getElem?_eq_some_iff.1 e;have hm:=List.getElem_mem hl;have ht:=ok.tx _ hm;have hlen:=ok.len
   by_cases hn:T[j].kind=1/\WM T[j].text=true
   ·refine ⟨T[j].text,T[j].text,adS ⟨T,j,E, -1⟩,adI ⟨T,j, -1⟩,some (j+1),ZsJ ok hl,fun j' h=>⟨rfl,ht,j,rfl,by cases h;rfl⟩,fun k hk=>⟨?_, ?_⟩⟩
    ·obtain ⟨v1,v2⟩:=Uy T[j].text (by omega) (show T[j].text.size<k by omega) (by omega);unfold XR;have e2:IntKind.i64.wrap (IntKind.i64.wrap ((j:Int)+1)-1)=(j:Int):=by rw [wS j (by omega),w64 (by omega) (by omega)];omega
     simp only [show ¬((0:Int)<= -1) by omega,decide_false,Zwl,if_false,show ¬((T.length:Int)<=(j:Int)) by omega,Yp hl,Zwe,hn.1,decide_true,Bool.not_true,v1,hn.2,e2]
     rfl
    ·obtain ⟨v1,v2⟩:=Uy T[j].text (by omega) (show T[j].text.size<k by omega) (by omega);unfold Yr;rw [Zao hj,e];simp only [Zwe,Option.getD_some,hn.1,decide_true,Bool.not_true,Zwl,if_false,v2,hn.2]
     rfl
   ·refine ⟨⟨#[]⟩,⟨#[]⟩,xf,pf,none,f3,by simp,fun k hk=> ?_⟩;obtain ⟨v1,v2⟩:=Uy T[j].text (by omega) (show T[j].text.size<k by omega) (by omega);constructor
    ·unfold XR
     by_cases h1:T[j].kind=1
     ·have h2:WM T[j].text=false:=by simpa [h1] using hn
      simp [show ¬((T.length:Int)<=(j:Int)) by omega,Yp hl,h1,v1,h2,f1]
     ·simp [show ¬((T.length:Int)<=(j:Int)) by omega,Yp hl,h1,f1]
    ·unfold Yr;rw [Zao hj,e]
     by_cases h1:T[j].kind=1
     ·have h2:WM T[j].text=false:=by simpa [h1] using hn
      simp [h1,v2,h2,f2]
     ·simp [h1,f2]
end
def star:ByteArray:=⟨#[42]⟩
def plus:ByteArray:=⟨#[43]⟩
def minus:ByteArray:=⟨#[45]⟩
def ZaB:ByteArray:=⟨#[44]⟩
def opE (n:Int) (a b:Za):Za:=⟨6,n,⟨#[]⟩,[a,b]⟩
def sPL (r:Zd->Option (Za×Zd)) (n:Nat) (x:Zd) (e:Za):Option (Za×Zd):=
 (YQ r n x.toks x.i x.end_ x.bad e.kind e.n e.text e.args).map fun y=>(⟨y.1,y.2.1,y.2.2.1,y.2.2.2.1⟩,⟨y.2.2.2.2.1,y.2.2.2.2.2.1,y.2.2.2.2.2.2.1,y.2.2.2.2.2.2.2⟩)
def iPL (r:Zf->Option (Za×Zf)) (n:Nat) (x:Zf) (e:Za):Option (Za×Zf):=
 (ZY r n x.list x.at_ x.bad e.kind e.n e.text e.args).map fun y=>(⟨y.1,y.2.1,y.2.2.1,y.2.2.2.1⟩,⟨y.2.2.2.2.1,y.2.2.2.2.2.1,y.2.2.2.2.2.2⟩)
def sSL (r:Zd->Option (Za×Zd)) (n:Nat) (x:Zd) (e:Za):Option (Za×Zd):=
 (XJ r n x.toks x.i x.end_ x.bad e.kind e.n e.text e.args).map fun y=>(⟨y.1,y.2.1,y.2.2.1,y.2.2.2.1⟩,⟨y.2.2.2.2.1,y.2.2.2.2.2.1,y.2.2.2.2.2.2.1,y.2.2.2.2.2.2.2⟩)
def iSL (r:Zf->Option (Za×Zf)) (n:Nat) (x:Zf) (e:Za):Option (Za×Zf):=
 (YR r n x.list x.at_ x.bad e.kind e.n e.text e.args).map fun y=>(⟨y.1,y.2.1,y.2.2.1,y.2.2.2.1⟩,⟨y.2.2.2.2.1,y.2.2.2.2.2.1,y.2.2.2.2.2.2⟩)
def sAL (r:Zd->Option (Za×Zd)) (n:Nat) (x:Zd) (out:List Za):Option (List Za×Zd):=
 (Q1 r n x.toks x.i x.end_ x.bad out).map fun y=>(y.2.2.2.2,⟨y.1,y.2.1,y.2.2.1,y.2.2.2.1⟩)
def iAL (r:Zf->Option (Za×Zf)) (c:ByteArray) (n:Nat) (x:Zf) (out:List Za):Option (List Za×Zf):=
 (Yj r c n x.list x.at_ x.bad out).map fun y=>(y.1,⟨y.2.1,y.2.2.1,y.2.2.2⟩)
theorem Zf1 (r:Zd->Option (Za×Zd)) (n:Nat) (x:Zd) (e:Za):sPL r (n+1) x e=(Zp x star).bind fun y=>if y.1=true then (r (adS y.2)).bind fun z=>sPL r n z.2 (opE 3 e z.1) else some (e,y.2):=by
 obtain ⟨e1,e2,e3,e4⟩:=e;unfold sPL;rw [YQ];show Option.map _ ((Zp x star).bind _)=_;rcases Zp x star with _| ⟨b,y⟩
 ·simp
 ·cases b
  ·simp
  ·simp only [Zwe,if_true];show Option.map _ ((r (adS y)).bind _)=_;rcases r (adS y) with _| ⟨a,z⟩<;>simp [Ke,opE]
theorem ZdV (r:Zf->Option (Za×Zf)) (n:Nat) (x:Zf) (e:Za):iPL r (n+1) x e=(Zj x star).bind fun y=>if y.1=true then (r y.2).bind fun z=>iPL r n z.2 (opE 3 e z.1) else some (e,y.2):=by
 obtain ⟨e1,e2,e3,e4⟩:=e;unfold iPL;rw [ZY];show Option.map _ ((Zj x star).bind _)=_;rcases Zj x star with _| ⟨b,y⟩
 ·simp
 ·cases b
  ·simp
  ·simp only [Zwe,if_true];rcases r y with _| ⟨a,z⟩<;>simp [opE]
theorem Zjv (r:Zd->Option (Za×Zd)) (n:Nat) (x:Zd) (e:Za):sSL r (n+1) x e=(Zp x plus).bind fun y=>(if y.1=true then some (true,y.2) else Zp y.2 minus).bind fun u=>if u.1=true then (Zp u.2 minus).bind fun v=>(r (adS v.2)).bind fun w=>sSL r n w.2 (opE (if v.1=true then 2 else 1) e w.1) else some (e,u.2):=by
 obtain ⟨e1,e2,e3,e4⟩:=e;unfold sSL;rw [XJ];show Option.map _ (((Zp x plus).bind _).bind _)=_;rcases Zp x plus with _| ⟨b,y⟩
 ·simp
 ·cases b
  ·simp only [Zwe,Zwl,if_false];show Option.map _ (((Zp y minus).bind _).bind _)=_;rcases Zp y minus with _| ⟨c,u⟩
   ·simp
   ·cases c
    ·simp
    ·simp only [Zwe,if_true];show Option.map _ (((Zp u minus).bind _).bind _)=_;rcases Zp u minus with _| ⟨d,v⟩
     ·simp
     ·cases d<;>simp only [Zwe,Zwl,if_true,if_false]<;>show Option.map _ ((r (adS v)).bind _)=_<;>rcases r (adS v) with _| ⟨a,z⟩<;>simp [Ke,opE]
  ·simp only [Zwe,if_true];show Option.map _ (((Zp y minus).bind _).bind _)=_;rcases Zp y minus with _| ⟨d,v⟩
   ·simp
   ·cases d<;>simp only [Zwe,Zwl,if_true,if_false]<;>show Option.map _ ((r (adS v)).bind _)=_<;>rcases r (adS v) with _| ⟨a,z⟩<;>simp [Ke,opE]
theorem Zgq (r:Zf->Option (Za×Zf)) (n:Nat) (x:Zf) (e:Za):iSL r (n+1) x e=if x.bad<0 then (Zj x plus).bind fun y=>if y.1=true then (r y.2).bind fun w=>iSL r n w.2 (opE 1 e w.1) else (Zj y.2 minus).bind fun z=>if z.1=true then (r z.2).bind fun w=>iSL r n w.2 (opE 2 e w.1) else some (e,z.2) else some (e,x):=by
 obtain ⟨e1,e2,e3,e4⟩:=e;unfold iSL;rw [YR]
 by_cases hb:x.bad<0
 ·simp only [hb,decide_true,if_true];show Option.map _ (((Zj x plus).bind _).bind _)=_;rcases Zj x plus with _| ⟨b,y⟩
  ·simp
  ·cases b
   ·simp only [Zwe,Bool.not_false,if_true,Zwl,if_false];show Option.map _ (((Zj y minus).bind _).bind _)=_;rcases Zj y minus with _| ⟨c,z⟩
    ·simp
    ·cases c
     ·simp
     ·simp only [Zwe,Bool.not_true,Zwl,if_true,if_false];show Option.map _ ((r z).bind _)=_;rcases r z with _| ⟨a,w⟩<;>simp [opE]
   ·simp only [Zwe,Bool.not_true,Zwl,if_true,if_false];show Option.map _ ((r y).bind _)=_;rcases r y with _| ⟨a,w⟩<;>simp [opE]
 ·simp [hb]
theorem Zb5 (r:Zd->Option (Za×Zd)) (n:Nat) (x:Zd) (out:List Za):sAL r (n+1) x out=if x.bad<0 then (r x).bind fun y=>(Qb 56 out [y.1]).bind fun o=>(Zp y.2 ZaB).bind fun z=>if z.1=true then sAL r n (adS z.2) o else some (o,z.2) else some (out,x):=by
 unfold sAL;rw [Q1]
 by_cases hb:x.bad<0
 ·simp only [hb,decide_true,if_true];show Option.map _ ((r x).bind _)=_;rcases r x with _| ⟨a,y⟩
  ·simp
  ·simp only [Zwe];rcases Qb 56 out [a] with _| o
   ·simp
   ·simp only [Zwe];show Option.map _ ((Zp y ZaB).bind _)=_;rcases Zp y ZaB with _| ⟨b,z⟩
    ·simp
    ·cases b<;>simp [adS]
 ·simp [hb]
theorem Ji (r:Zf->Option (Za×Zf)) (c:ByteArray) (n:Nat) (x:Zf) (out:List Za):iAL r c (n+1) x out=if x.bad<0 then (r x).bind fun y=>(Qb 56 out [y.1]).bind fun o=>(Zj y.2 c).bind fun z=>if z.1=true then some (o,z.2) else (Zo z.2 ZaB).bind fun u=>iAL r c n u o else some (out,x):=by
 unfold iAL;rw [Yj]
 by_cases hb:x.bad<0
 ·simp only [hb,decide_true,if_true];show Option.map _ ((r x).bind _)=_;rcases r x with _| ⟨a,y⟩
  ·simp
  ·simp only [Zwe];rcases Qb 56 out [a] with _| o
   ·simp
   ·simp only [Zwe];rcases Zj y c with _| ⟨b,z⟩
    ·simp
    ·cases b
     ·simp only [Zwe,Zwl,if_false];show Option.map _ ((Zo z ZaB).bind _)=_;rcases Zo z ZaB with _| u<;>simp
     ·simp
 ·simp [hb]
theorem Zrw (k:Nat) (x:Zd):ZE (k+1) x=(Z6 k x).bind fun y=>sPL (Z6 k) k y.2 y.1:=by
 rw [ZE];rcases Z6 k x with _| ⟨a,y⟩
 ·simp
 ·simp only [Zwe,sPL];cases YQ (Z6 k) k y.toks y.i y.end_ y.bad a.kind a.n a.text a.args<;>simp
theorem Zr2 (k:Nat) (x:Zf):Zt (k+1) x=(Zv k x).bind fun y=>iPL (Zv k) k y.2 y.1:=by
 rw [Zt];rcases Zv k x with _| ⟨a,y⟩
 ·simp
 ·simp only [Zwe,iPL];cases ZY (Zv k) k y.list y.at_ y.bad a.kind a.n a.text a.args<;>simp
theorem Zrv (k:Nat) (x:Zd):XK (k+1) x=(ZE k x).bind fun y=>sSL (ZE k) k y.2 y.1:=by
 rw [XK];rcases ZE k x with _| ⟨a,y⟩
 ·simp
 ·simp only [Zwe,sSL];cases XJ (ZE k) k y.toks y.i y.end_ y.bad a.kind a.n a.text a.args<;>simp
theorem Zr1 (k:Nat) (x:Zf):ZW (k+1) x=(Zt k x).bind fun y=>iSL (Zt k) k y.2 y.1:=by
 rw [ZW];rcases Zt k x with _| ⟨a,y⟩
 ·simp
 ·simp only [Zwe,iSL];cases YR (Zt k) k y.list y.at_ y.bad a.kind a.n a.text a.args<;>simp
theorem Zot (k:Nat) (x:Zd) (c:ByteArray):WL (k+1) x c=(Zp x c).bind fun y=>if y.1=true then some ([],adS y.2) else (sAL (Zu k) k y.2 []).bind fun z=>(Zx z.2 c).bind fun u=>some (z.1,u):=by
 rw [WL];rcases Zp x c with _| ⟨b,y⟩
 ·simp
 ·cases b
  ·simp only [Zwe,Zwl,if_false,sAL];cases Q1 (Zu k) k y.toks y.i y.end_ y.bad []<;>simp
  ·simp [adS]
theorem ZoL (k:Nat) (x:Zf) (c:ByteArray):YJ (k+1) x c=(Zj x c).bind fun y=>if y.1=true then some ([],y.2) else iAL (Zl k) c k y.2 []:=by
 rw [YJ];rcases Zj x c with _| ⟨b,y⟩
 ·simp
 ·cases b
  ·simp only [Zwe,Zwl,if_false,iAL];cases Yj (Zl k) c k y.list y.at_ y.bad []<;>simp
  ·simp
def gE (o o':Option Nat) (es ei:Za):Prop:=∀j',o'=some j'->es=ei/\∃j,o=some j/\j<j'/\es.bk+1<=200*(j'-j)
def Ag (T:List Zh) (E:Int) (o:Option Nat) (sX:Nat->Option (Za×Zd)) (iX:Nat->Option (Za×Zf)):Prop:=
 ∃es ei x' p' o',Rl T E x' p' o'/\gE o o' es ei/\Ev fun k=>sX k=some (es,x')/\iX k=some (ei,p')
def AgN (T:List Zh) (E:Int) (m:Nat) (sX:Nat->Zd->Option (Za×Zd)) (iX:Nat->Zf->Option (Za×Zf)):Prop:=
 ∀x p o,Rl T E x p o->(∀j,o=some j->T.length-j<=m)->Ag T E o (fun k=>sX k x) (fun k=>iX k p)
def go (j0:Nat) (o:Option Nat) (es ei:Za):Prop:=∀j,o=some j->es=ei/\j0<j/\es.bk+1<=200*(j-j0)
theorem ZlU (n:Int) (a b:Za):(opE n a b).bk=2+(a.bk+b.bk):=by
 rw [Za.QP];simp [opE,bkS,QL];try rfl
theorem Zr6 {o1:Option Nat} {j0 j:Nat} {es ei ea eb:Za} (n:Int) (h:go j0 (some j) es ei) (h1:gE (some (j+1)) o1 ea eb):go j0 o1 (opE n es ea) (opE n ei eb):=by
 intro j1 e1;obtain ⟨rfl,j',e2,h2,h3⟩:=h1 j1 e1;cases e2;obtain ⟨rfl,h4,h5⟩:=h j rfl;rw [ZlU];exact ⟨rfl,by omega,by omega⟩
section
variable {T:List Zh} {E:Int}
theorem Zjl:Zm7 star:=⟨42,[],rfl,by decide⟩
theorem Zjm:Zm7 plus:=⟨43,[],rfl,by decide⟩
theorem Zg0:Zm7 minus:=⟨45,[],rfl,by decide⟩
theorem Zg1:Zm7 ZaB:=⟨44,[],rfl,by decide⟩
theorem ZlQ (ok:Zdy T E) (m:Nat) (hA:∀m',m'<m->AgN T E m' Z6 Zv) (j0:Nat):∀(d:Nat) (x:Zd) (p:Zf) (o:Option Nat) (es ei:Za),Rl T E x p o->(∀j,o=some j->T.length-j<=d/\T.length-j<=m)->go j0 o es ei->
  ∃es' ei' x' p' o',Rl T E x' p' o'/\go j0 o' es' ei'/\Ev2 fun k n=>sPL (Z6 k) n x es=some (es',x')/\iPL (Zv k) n p ei=some (ei',p'):=by
 intro d
 induction d with
 | zero=>
  intro x p o es ei h hd hg;obtain ⟨b,h1,h2,h3⟩:=J9 ok h Zjl
  have hb:b=false:=by
   cases b with
   | false=>rfl
   | true=>obtain ⟨j,e,hl,_⟩:=h3 rfl;have:=(hd j e).1;omega
  subst hb;exact ⟨es,ei,x,p,o,h,hg,.of fun k n=>⟨by rw [Zf1,h1];rfl,by rw [ZdV,h2];rfl⟩⟩
 | succ d ih=>
  intro x p o es ei h hd hg;obtain ⟨b,h1,h2,h3⟩:=J9 ok h Zjl;cases b with
  | false=>exact ⟨es,ei,x,p,o,h,hg,.of fun k n=>⟨by rw [Zf1,h1];rfl,by rw [ZdV,h2];rfl⟩⟩
  | true=>
   obtain ⟨j,rfl,hl,h4⟩:=h3 rfl;have hdj:=hd j rfl;obtain ⟨ea,eb,x1,p1,o1,r1,g1,B1,e1⟩:=hA (T.length-(j+1)) (by omega) _ _ _ h4 (fun j' e=>by cases e;omega);obtain ⟨es',ei',x',p',o',r2,g2,B2,e2⟩:=ih x1 p1 o1 (opE 3 es ea) (opE 3 ei eb) r1 (fun j' e=>by obtain ⟨_,j2,e3,h5,_⟩:=g1 j' e;cases e3;omega) (Zr6 (o1:=o1) 3 hg g1);refine ⟨es',ei',x',p',o',r2,g2,max B1 (B2+1),fun k n hk hn=> ?_⟩;obtain ⟨n,rfl⟩:∃n',n=n'+1:=⟨n-1,by omega⟩;have q1:=e1 k (by omega);have q2:=e2 k n (by omega) (by omega);exact ⟨by rw [Zf1,h1];simp only [Zwe,if_true,q1.1,q2.1],by rw [ZdV,h2];simp only [Zwe,if_true,q1.2,q2.2]⟩
theorem Znm (ok:Zdy T E) (m:Nat) (hA:∀m',m'<m->AgN T E m' ZE Zt) (j0:Nat):∀(d:Nat) (x:Zd) (p:Zf) (o:Option Nat) (es ei:Za),Rl T E x p o->(∀j,o=some j->T.length-j<=d/\T.length-j<=m)->go j0 o es ei->
  ∃es' ei' x' p' o',Rl T E x' p' o'/\go j0 o' es' ei'/\Ev2 fun k n=>sSL (ZE k) n x es=some (es',x')/\iSL (Zt k) n p ei=some (ei',p'):=by
 have stop:∀(x:Zd) (p:Zf) (o:Option Nat) (es ei:Za),Rl T E x p o->go j0 o es ei->Zp x plus=some (false,x)->Zj p plus=some (false,p)->Zp x minus=some (false,x)->Zj p minus=some (false,p)->
   ∃es' ei' x' p' o',Rl T E x' p' o'/\go j0 o' es' ei'/\Ev2 fun k n=>sSL (ZE k) n x es=some (es',x')/\iSL (Zt k) n p ei=some (ei',p'):=by
  intro x p o es ei h hg h1 h2 h3 h4;refine ⟨es,ei,x,p,o,h,hg,.of fun k n=>⟨by rw [Zjv,h1];simp [h3], ?_⟩⟩;rw [Zgq,h2]
  split
  ·simp [h4]
  ·rfl
 have step:∀(d:Nat) (x:Zd) (p:Zf) (j:Nat) (es ei:Za) (c:Bool),j<T.length->T.length-j<=d+1->T.length-j<=m->p.bad<0->Rl T E (adS x) (adI p) (some (j+1))->go j0 (some j) es ei->
   (∀(x:Zd) (p:Zf) (o:Option Nat) (es ei:Za),Rl T E x p o->(∀j,o=some j->T.length-j<=d/\T.length-j<=m)->go j0 o es ei->
    ∃es' ei' x' p' o',Rl T E x' p' o'/\go j0 o' es' ei'/\Ev2 fun k n=>sSL (ZE k) n x es=some (es',x')/\iSL (Zt k) n p ei=some (ei',p'))->
   Zp x plus=some (!c,x)->Zp x minus=some (c,x)->Zj p plus=some (!c,if (!c)=true then adI p else p)->Zj p minus=some (c,if c=true then adI p else p)->
   ∃es' ei' x' p' o',Rl T E x' p' o'/\go j0 o' es' ei'/\Ev2 fun k n=>sSL (ZE k) n x es=some (es',x')/\iSL (Zt k) n p ei=some (ei',p'):=by
  intro d x p j es ei c hl hd hm hb h4 hg ih a1 a2 a3 a4;obtain ⟨ea,eb,x1,p1,o1,r1,g1,B1,e1⟩:=hA (T.length-(j+1)) (by omega) _ _ _ h4 (fun j' e=>by cases e;omega);obtain ⟨es',ei',x',p',o',r2,g2,B2,e2⟩:=ih x1 p1 o1 (opE (if c=true then 2 else 1) es ea) (opE (if c=true then 2 else 1) ei eb) r1 (fun j' e=>by obtain ⟨_,j2,e3,h5,_⟩:=g1 j' e;cases e3;omega) (Zr6 _ hg g1);refine ⟨es',ei',x',p',o',r2,g2,max B1 (B2+1),fun k n hk hn=> ?_⟩;obtain ⟨n,rfl⟩:∃n',n=n'+1:=⟨n-1,by omega⟩;have q1:=e1 k (by omega);have q2:=e2 k n (by omega) (by omega);constructor
  ·rw [Zjv,a1];cases c
   ·simp only [Bool.not_false,Zwe,if_true,a2,q1.1];exact q2.1
   ·simp only [Bool.not_true,Zwe,Zwl,if_false,a2,if_true,q1.1];exact q2.1
  ·rw [Zgq,if_pos hb,a3];cases c
   ·simp only [Bool.not_false,Zwe,if_true,q1.2];exact q2.2
   ·simp only [Bool.not_true,Zwe,Zwl,if_false,a4,if_true,q1.2];exact q2.2
 have no_both:∀{x:Zd} {j:Nat},x=⟨T,j,E, -1⟩->j<T.length->Zp x plus=some (true,x)->Zp x minus=some (false,x):=by
  rintro x j rfl hl h;rw [Zdf ok (by omega)] at h ⊢;have h1:Zbm T j plus=true:=by simpa using h
  have e:T[j]? =some T[j]:=Zwm hl;rw [Zd8 e] at h1 ⊢;have hp:T[j].text=plus:=by simp only [ZaG,ZgM] at h1;simp at h1;rcases h1 with h1| h1<;>exact h1.2
  simp [ZaG,ZgM,hp,plus,minus]
 intro d
 induction d with
 | zero=>
  intro x p o es ei h hd hg;obtain ⟨b,h1,h2,h3⟩:=J9 ok h Zjm;obtain ⟨c,i1,i2,i3⟩:=J9 ok h Zg0
  have hb:b=false:=by
   cases b with
   | false=>rfl
   | true=>obtain ⟨j,e,hl,_⟩:=h3 rfl;have:=(hd j e).1;omega
  have hc:c=false:=by
   cases c with
   | false=>rfl
   | true=>obtain ⟨j,e,hl,_⟩:=i3 rfl;have:=(hd j e).1;omega
  subst hb hc;exact stop x p o es ei h hg h1 h2 i1 i2
 | succ d ih=>
  intro x p o es ei h hd hg;obtain ⟨b,h1,h2,h3⟩:=J9 ok h Zjm;obtain ⟨c,i1,i2,i3⟩:=J9 ok h Zg0;cases b with
  | true=>
   obtain ⟨j,rfl,hl,h4⟩:=h3 rfl;obtain ⟨hj,hx,hp⟩:=h
   have hc:c=false:=by
    have:=no_both hx hl h1;rw [i1] at this;simpa using this
   subst hc;exact step d x p j es ei false hl (hd j rfl).1 (hd j rfl).2 (by rw [hp];show (-1:Int)<0;decide) h4 hg ih h1 i1 h2 i2
  | false=>
   cases c with
   | false=>exact stop x p o es ei h hg h1 h2 i1 i2
   | true=>
    obtain ⟨j,rfl,hl,h4⟩:=i3 rfl;obtain ⟨hj,hx,hp⟩:=h;exact step d x p j es ei true hl (hd j rfl).1 (hd j rfl).2 (by rw [hp];show (-1:Int)<0;decide) h4 hg ih h1 i1 h2 i2
end
def lw (l:List Za):Nat:=(l.map fun e=>e.bk+1).sum
theorem ZoF (l:List Za) (e:Za):lw (l++[e])=lw l+(e.bk+1):=by simp [lw]
theorem Zt9 (l:List Za):bkS Za.bk l=lw l:=by
 unfold bkS lw QL
 induction l with
 | nil=>rfl
 | cons e l ih=>simp only [List.length_cons,List.map_cons,List.sum_cons] at ih ⊢;omega
theorem Zhw (k n:Int) (t:ByteArray) (l:List Za):(Za.mk k n t l).bk=t.size+lw l:=by
 rw [Za.QP,<-Zt9];try rfl
theorem ZmO (out:List Za) (e:Za) (h:out.length<=100):Qb 56 out [e]=some (out++[e]):=X4 (by simp;omega) (by omega)
section
variable {T:List Zh} {E:Int}
def goL (j0:Nat) (o:Option Nat) (ls li:List Za):Prop:=∀j,o=some j->ls=li/\j0<=j/\lw ls<=200*(j-j0)/\ls.length<=j
def ZvR (j0:Nat) (o:Option Nat) (ls li:List Za):Prop:=∀j,o=some j->ls=li/\j0<j/\lw ls<=200*(j-j0-1)
theorem Zlu {x:Zd} {p:Zf} {o:Option Nat} (ok:Zdy T E) (h:Rl T E x p o) {s:ByteArray} (hs:Zm7 s):∃b,Zj p s=some (b,if b=true then adI p else p)/\Zp x s=some (b,x)/\
  (b=true->∃j,o=some j/\j<T.length/\Rl T E (adS x) (adI p) (some (j+1))/\∀s',Zm7 s'->s'≠s->Zp x s'=some (false,x)):=by
 obtain ⟨b,h1,h2,h3⟩:=J9 ok h hs;refine ⟨b,h2,h1,fun hb=> ?_⟩;obtain ⟨j,e,hl,h4⟩:=h3 hb;refine ⟨j,e,hl,h4,fun s' hs' hne=> ?_⟩;subst e hb;obtain ⟨hj,rfl,rfl⟩:=h;have ej:T[j]? =some T[j]:=Zwm hl;rw [Zdf ok hj] at h1 ⊢;have h5:Zbm T j s=true:=by simpa using h1
 rw [Zd8 ej] at h5 ⊢;have hp:T[j].text=s:=by simp only [ZaG,ZgM] at h5;simp at h5;rcases h5 with h5| h5<;>exact h5.2
 simp [ZaG,ZgM,hp,Ne.symm hne]
theorem Zl8 (ok:Zdy T E) (m:Nat) (hA:∀m',m'<=m->AgN T E m' Zu Zl) (c:ByteArray) (hc:Zm7 c) (hcc:c≠ZaB) (j0:Nat):∀(d:Nat) (x:Zd) (p:Zf) (o:Option Nat) (ls li:List Za),Rl T E x p o->(∀j,o=some j->T.length-j<=d/\T.length-j<=m)->goL j0 o ls li->
  ∃ls' li' x' p' o',Rl T E x' p' o'/\ZvR j0 o' ls' li'/\Ev2 fun k n=>((sAL (Zu k) n x ls).bind fun z=>(Zx z.2 c).bind fun u=>some (z.1,u))=some (ls',x')/\iAL (Zl k) c n p li=some (li',p'):=by
 intro d
 induction d with
 | zero=>
  intro x p o ls li h hd hg;cases o with
  | none=>
   have hb:=h.bad ok;obtain ⟨xf,pf,o',t1,t2,t3,t4⟩:=ZfQ ok h c;have ho:o'=none:=by cases o' with | none=>rfl| some j'=>obtain ⟨j,e,_⟩:=t4 j' rfl;cases e
   subst ho
   have hpf:Rl T E xf p none:=by
    obtain ⟨b,h0,h1,h2,h3,h4,h5⟩:=h;obtain ⟨b',k0,k1,k2,k3,k4,k5⟩:=t3;have:Zx x c=some x\/True:=.inr trivial;unfold Zx at t1;rw [Zfh hb.1] at t1;simp only [Zwe,Bool.not_false,if_true] at t1;have e1:Y1 x=some (zE,x):=by unfold Y1;simp [show ¬x.bad<0 by omega,zE]
    rw [e1] at t1;obtain rfl:x=xf:=by simpa using t1
    exact ⟨b,h0,h1,h2,h3,h4,h5⟩
   refine ⟨ls,li,xf,p,none,hpf,(by intro j e;cases e),.of fun k n=>⟨?_, ?_⟩⟩
   ·rw [Zb5,if_neg (by omega)];simp [t1]
   ·rw [Ji,if_neg (by omega)]
  | some j=>
   obtain ⟨hj,hx,hp⟩:=id h;have hjl:j=T.length:=by have:=(hd j rfl).1;omega
   obtain ⟨ea,eb,x1,p1,o1,r1,g1,B1,e1⟩:=hA _ (hd j rfl).2 x p (some j) h (fun j' e=>by cases e;exact Zwk _)
   have ho1:o1=none:=by
    cases o1 with
    | none=>rfl
    | some j1=>obtain ⟨_,j2,e2,h2,_⟩:=g1 j1 rfl;cases e2;have:=r1.1;omega
   subst ho1;have hb:=r1.bad ok;have hlen:=ok.len;obtain ⟨hl1,hl2,hl3,hl4⟩:=hg j rfl;subst hl1;obtain ⟨xf,pf,o',t1,t2,t3,t4⟩:=ZfQ ok r1 c;have ho:o'=none:=by cases o' with | none=>rfl| some j'=>obtain ⟨j,e,_⟩:=t4 j' rfl;cases e
   subst ho;obtain ⟨xg,pg,o'',u1,u2,u3,u4⟩:=ZfQ ok r1 ZaB;have ho:o''=none:=by cases o'' with | none=>rfl| some j'=>obtain ⟨j,e,_⟩:=u4 j' rfl;cases e
   subst ho;have hbg:=u3.bad ok;have hxg:Y1 x1=some (zE,x1):=by unfold Y1;simp [show ¬x1.bad<0 by omega,zE]
   have hx1:x1=xf:=by unfold Zx at t1;rw [Zfh hb.1] at t1;simpa [hxg] using t1
   have hpg:Ys p1=some (zE,p1):=by unfold Ys;simp [show ¬p1.bad<0 by omega,zE]
   have hp1:p1=pg:=by rw [Zbq (Zcd hb.2),ZfR,ZkE,hpg] at u2;simpa using u2
   subst hx1 hp1;refine ⟨ls++[ea],ls++[eb],x1,p1,none,r1,(by intro j e;cases e),B1+2,fun k n hk hn=> ?_⟩;obtain ⟨n,rfl⟩:∃n',n=n'+2:=⟨n-2,by omega⟩;have q1:=e1 k (by omega);dsimp only at q1;constructor
   ·rw [Zb5,if_pos (by rw [hx];show (-1:Int)<0;decide),q1.1];simp only [Zwe];rw [ZmO _ _ (by omega)];simp only [Zwe,Zfh hb.1,Zwl,if_false,t1]
   ·rw [Ji,if_pos (by rw [hp];show (-1:Int)<0;decide),q1.2];simp only [Zwe];rw [ZmO _ _ (by omega)];simp only [Zwe,Uz (Zcd hb.2),ZfR,Zwl,if_false,u2];rw [Ji,if_neg (by omega)]
 | succ d ih=>
  intro x p o ls li h hd hg;cases o with
  | none=>exact ih x p none ls li h (by intro j e;cases e) (by intro j e;cases e)
  | some j=>
   obtain ⟨hj,hx,hp⟩:=id h;obtain ⟨ea,eb,x1,p1,o1,r1,g1,B1,e1⟩:=hA _ (hd j rfl).2 x p (some j) h (fun j' e=>by cases e;exact Zwk _);have hlen:=ok.len;obtain ⟨hl1,hl2,hl3,hl4⟩:=hg j rfl;subst hl1;have sx:x.bad<0:=by rw [hx];show (-1:Int)<0;decide
   have sp:p.bad<0:=by rw [hp];show (-1:Int)<0;decide
   obtain ⟨bc,c1,c2,c3⟩:=Zlu ok r1 hc;obtain ⟨bm,m1,m2,m3⟩:=Zlu ok r1 Zg1;cases bc with
   | true=>
    obtain ⟨j1,rfl,hl,r2,c4⟩:=c3 rfl;obtain ⟨rfl,j2,ej,g2,g3⟩:=g1 j1 rfl;cases ej;have hm:=c4 ZaB Zg1 (Ne.symm hcc);have t1:Zx x1 c=some (adS x1):=by unfold Zx;rw [c2];rfl
    refine ⟨ls++[ea],ls++[ea],adS x1,adI p1,some (j1+1),r2,fun j' e=> ?_,B1+2,fun k n hk hn=> ?_⟩
    ·cases e;refine ⟨rfl,by omega, ?_⟩;rw [ZoF];omega
    ·obtain ⟨n,rfl⟩:∃n',n=n'+2:=⟨n-2,by omega⟩;have q1:=e1 k (by omega);dsimp only at q1;constructor
     ·rw [Zb5,if_pos sx,q1.1];simp only [Zwe];rw [ZmO _ _ (by omega)];simp only [Zwe,hm,Zwl,if_false,t1]
     ·rw [Ji,if_pos sp,q1.2];simp only [Zwe];rw [ZmO _ _ (by omega)];simp only [Zwe,c1,if_true]
   | false=>
    cases bm with
    | true=>
     obtain ⟨j1,rfl,hl,r2,m4⟩:=m3 rfl;obtain ⟨rfl,j2,ej,g2,g3⟩:=g1 j1 rfl;cases ej
     have n1:Zo p1 ZaB=some (adI p1):=by
      obtain ⟨hj1,hx1,hp1⟩:=r1;subst hp1 hx1;rw [Zbq (Zao hj1)];have:=Zpj ok hj1 ZaB;rw [Zdf ok hj1] at m2;have h5:Zbm T j1 ZaB=true:=by simpa using m2
      rw [Bool.or_comm,this,h5];rfl
     obtain ⟨ls',li',x',p',o',r3,g4,B2,e2⟩:=ih (adS x1) (adI p1) (some (j1+1)) (ls++[ea]) (ls++[ea]) r2 (fun j' e=>by cases e;have:=hd j rfl;omega) (fun j' e=>by
      cases e;refine ⟨rfl,by omega, ?_,by simp;omega⟩;rw [ZoF];omega)
     refine ⟨ls',li',x',p',o',r3,g4,max B1 B2+2,fun k n hk hn=> ?_⟩;obtain ⟨n,rfl⟩:∃n',n=n'+1:=⟨n-1,by omega⟩;have q1:=e1 k (by omega);dsimp only at q1;have q2:=e2 k n (by omega) (by omega);constructor
     ·rw [Zb5,if_pos sx,q1.1];simp only [Zwe];rw [ZmO _ _ (by omega)];simp only [Zwe,m2,if_true];exact q2.1
     ·rw [Ji,if_pos sp,q1.2];simp only [Zwe];rw [ZmO _ _ (by omega)];simp only [Zwe,c1,Zwl,if_false,n1];exact q2.2
    | false=>
     obtain ⟨xf,pf,f1,f2,f3⟩:=ZnY ok r1;have t1:Zx x1 c=some xf:=by unfold Zx;rw [c2];simp [f1]
     have n1:Zo p1 ZaB=some pf:=by
      cases o1 with
      | none=>rw [Zbq (Zcd (r1.bad ok).2),ZfR,ZkE,f2];rfl
      | some j1=>
       obtain ⟨hj1,hx1,hp1⟩:=r1;subst hp1 hx1;rw [Zbq (Zao hj1)];have:=Zpj ok hj1 ZaB;rw [Zdf ok hj1] at m2;have h5:Zbm T j1 ZaB=false:=by simpa using m2
       rw [Bool.or_comm,this,h5,f2];rfl
     have hb:=f3.bad ok;refine ⟨ls++[ea],ls++[eb],xf,pf,none,f3,(by intro j e;cases e),B1+2,fun k n hk hn=> ?_⟩;obtain ⟨n,rfl⟩:∃n',n=n'+2:=⟨n-2,by omega⟩;have q1:=e1 k (by omega);dsimp only at q1;constructor
     ·rw [Zb5,if_pos sx,q1.1];simp only [Zwe];rw [ZmO _ _ (by omega)];simp only [Zwe,m2,Zwl,if_false,t1]
     ·rw [Ji,if_pos sp,q1.2];simp only [Zwe];rw [ZmO _ _ (by omega)];simp only [Zwe,c1,Zwl,if_false,n1];rw [Ji,if_neg (by omega)]
theorem lists (ok:Zdy T E) (m:Nat) (hA:∀m',m'<=m->AgN T E m' Zu Zl) (c:ByteArray) (hc:Zm7 c) (hcc:c≠ZaB) (x:Zd) (p:Zf) (o:Option Nat) (h:Rl T E x p o) (hd:∀j,o=some j->T.length-j<=m):
  ∃ls li x' p' o',Rl T E x' p' o'/\(∀j',o'=some j'->ls=li/\∃j,o=some j/\j<j'/\lw ls<=200*(j'-j-1))/\Ev fun k=>WL k x c=some (ls,x')/\YJ k p c=some (li,p'):=by
 obtain ⟨bc,c1,c2,c3⟩:=Zlu ok h hc;cases bc with
 | true=>
  obtain ⟨j,rfl,hl,r2,_⟩:=c3 rfl;refine ⟨[],[],adS x,adI p,some (j+1),r2,fun j' e=>⟨rfl,j,rfl,by cases e;omega,by simp [lw]⟩,1,fun k hk=> ?_⟩;obtain ⟨k,rfl⟩:∃n',k=n'+1:=⟨k-1,by omega⟩;exact ⟨by rw [Zot,c2];rfl,by rw [ZoL,c1];rfl⟩
 | false=>
  obtain ⟨j0,hj0⟩:∃j0,∀j,o=some j->j=j0:=by
   cases o with
   | none=>exact ⟨0,by simp⟩
   | some j=>exact ⟨j,by simp⟩
  obtain ⟨ls,li,x',p',o',r1,g1,B,e1⟩:=Zl8 ok m hA c hc hcc j0 m x p o [] [] h (fun j e=>⟨hd j e,hd j e⟩) (fun j e=>⟨rfl,by rw [hj0 j e];exact Zwk _,by simp [lw],by simp⟩);refine ⟨ls,li,x',p',o',r1,fun j' e=> ?_,B+1,fun k hk=> ?_⟩
  ·obtain ⟨h1,h2,h3⟩:=g1 j' e;cases o with
   | some j=>have:=hj0 j rfl;subst this;exact ⟨h1,j,rfl,h2,h3⟩
   | none=>
    exfalso
    have q:=(e1 (B+1) (B+1) (by omega) (by omega)).2;have hb:=h.bad ok;rw [Ji,if_neg (by omega)] at q;have:p=p':=by simpa using congrArg (fun y=>y.map Prod.snd) q
    subst this;rw [e] at r1;have:=r1.2.2;rw [this] at hb;exact absurd hb.2 (by show ¬(0:Int)<= -1;decide)
  ·obtain ⟨k,rfl⟩:∃n',k=n'+1:=⟨k-1,by omega⟩;have q:=e1 k k (by omega) (by omega);exact ⟨by rw [Zot,c2];simp only [Zwe,Zwl,if_false];exact q.1,by rw [ZoL,c1];simp only [Zwe,Zwl,if_false];exact q.2⟩
end
def ZnB:ByteArray:=⟨#[40]⟩
def ZqX:ByteArray:=⟨#[41]⟩
def Zq1:ByteArray:=⟨#[91]⟩
def ZuS:ByteArray:=⟨#[93]⟩
def eqS:ByteArray:=⟨#[61]⟩
def Zma:ByteArray:=⟨#[60]⟩
def ZlE:ByteArray:=⟨#[61,61]⟩
def Zuc:ByteArray:=⟨#[108,101,116]⟩
def kIn:ByteArray:=⟨#[105,110]⟩
def kIf:ByteArray:=⟨#[105,102]⟩
def Zmd:ByteArray:=⟨#[116,104,101,110]⟩
def Zme:ByteArray:=⟨#[101,108,115,101]⟩
def Zud:ByteArray:=⟨#[102,111,114]⟩
def kDo:ByteArray:=⟨#[100,111]⟩
theorem ZvU (t:ByteArray):∃z,Ya t=some z/\ZH t=some z:=by
 obtain ⟨z,h⟩:=ZcF t;exact ⟨z,by rw [show Ya t=ZH t by unfold Ya ZH;rfl,h],h⟩
section
variable {T:List Zh} {E:Int}
theorem ZqL (ok:Zdy T E) (m:Nat) (IH:∀m',m'<m->AgN T E m' Zu Zl):AgN T E m Z6 Zv:=by
 intro x p o h hd;obtain ⟨xf,pf,f1,f2,f3⟩:=ZnY ok h;have hlen:=ok.len
 have bad:(∀k,200<=k->Z6 (k+1) x=some (zE,xf)/\Zv (k+1) p=some (zE,pf))->Ag T E o (fun k=>Z6 k x) (fun k=>Zv k p):=by
  intro hk;refine ⟨zE,zE,xf,pf,none,f3,(by intro j e;cases e),201,fun k hk2=> ?_⟩;obtain ⟨k,rfl⟩:∃n',k=n'+1:=⟨k-1,by omega⟩;exact hk k (by omega)
 have symz:∀s,Zy p=some (zT,p)->Zj p s=some (false,p):=fun s hn=>by rw [Uz hn,ZfR];rfl
 have badI:∀k,Zy p=some (zT,p)->Zv (k+1) p=some (zE,pf):=by
  intro k hn;rw [Zv,hn];simp only [Zwe];simp [zT,symz _ hn,f2]
 cases o with
 | none=>
  have hb:=h.bad ok;refine bad fun k hk=>⟨?_,badI k (Zcd hb.2)⟩;rw [Z6];simp [show 0<=x.bad from hb.1,f1]
 | some j=>
  obtain ⟨hj,hx,hp⟩:=id h;cases e:T[j]? with
  | none=>
   have hl:T.length<=j:=List.getElem?_eq_none_iff.1 e;refine bad fun k hk=>⟨?_,badI k (by rw [hp,Zao hj,e];rfl)⟩;rw [Z6,hx];rw [hx] at f1;simp [show ((T.length:Int)<=(j:Int)) by omega,f1]
  | some t=>
   obtain ⟨hl,rfl⟩:=List.getElem?_eq_some_iff.1 e;have hm:=List.getElem_mem hl;have htx:=ok.tx _ hm;have ad:=ZsJ ok hl;rw [<-hx,<-hp] at ad;have hnx:Zy p=some (T[j],p):=by rw [hp,Zao hj,e];rfl
   have sgood:∀k,Z6 (k+1) x=(at? T (j:Int)).bind fun x3=>
     if (decide (x3.kind=2))=true then (ZbY x3.n).bind fun x4=>some (x4,adS x)
     else if (decide (x3.kind=3))=true then some ((Za.mk 2 0 x3.text []),adS x)
     else (if (decide (x3.kind=1))=true then (ZX k x3.text).bind fun x6=>some x6 else some false).bind fun x5=>
      if x5=true then (Zag x3.text).bind fun x7=>some (x7,adS x)
      else (if (decide (x3.kind=1))=true then (Ya x3.text).bind fun x9=>some (decide (0<=x9)) else some false).bind fun x8=>
       if x8=true then (Zx (adS x) ZnB).bind fun x10=>(WL k x10 ZqX).bind fun x11=>some ((Za.mk 5 0 x3.text x11.1),x11.2)
       else (WC x3 Zq1).bind fun x12=>if x12=true then (WL k (adS x) ZuS).bind fun x13=>some ((Za.mk 4 0 (⟨#[]⟩:ByteArray) x13.1),x13.2)
        else (WC x3 ZnB).bind fun x14=>if x14=true then (Zu k (adS x)).bind fun x15=>(Zx x15.2 ZqX).bind fun x16=>some (x15.1,x16)
         else (Y1 x).bind fun x17=>some (x17.1,x17.2):=by
    intro k;rw [Z6,hx];simp only [show ¬((0:Int)<= -1) by omega,decide_false,Zwl,if_false,show ¬((T.length:Int)<=(j:Int)) by omega,Zwe]
    rfl
   have igood:∀k,Zv (k+1) p=
     if (decide (T[j].kind=2))=true then some ((Za.mk 1 T[j].n (⟨#[]⟩:ByteArray) []),adI p)
     else if (decide (T[j].kind=3))=true then some ((Za.mk 2 0 T[j].text []),adI p)
     else (if (decide (T[j].kind=1))=true then (ZZ k T[j].text).bind fun x3=>some x3 else some false).bind fun x2=>
      if x2=true then some ((Za.mk 3 0 T[j].text []),adI p)
      else (if (decide (T[j].kind=1))=true then (ZH T[j].text).bind fun x5=>some (decide (0<=x5)) else some false).bind fun x4=>
       if x4=true then (Zo (adI p) ZnB).bind fun x6=>(YJ k x6 ZqX).bind fun x7=>some ((Za.mk 5 0 T[j].text x7.1),x7.2)
       else if ZaG T[j] Zq1=true then (YJ k (adI p) ZuS).bind fun x9=>some ((Za.mk 4 0 (⟨#[]⟩:ByteArray) x9.1),x9.2)
        else if ZaG T[j] ZnB=true then (Zl k (adI p)).bind fun x11=>(Zo x11.2 ZqX).bind fun x12=>some (x11.1,x12)
         else (Ys p).bind fun x13=>some (x13.1,x13.2):=by
    intro k;rw [Zv,hnx];simp only [Zwe];have s1:Zj p (⟨#[91]⟩:ByteArray)=some (ZaG T[j] Zq1,if ZaG T[j] Zq1=true then adI p else p):=Uz hnx _;have s2:Zj p (⟨#[40]⟩:ByteArray)=some (ZaG T[j] ZnB,if ZaG T[j] ZnB=true then adI p else p):=Uz hnx _;rw [s1];simp only [Zwe];cases hb1:ZaG T[j] Zq1
    ·simp only [Zwl,if_false];rw [s2];cases hb2:ZaG T[j] ZnB<;>rfl
    ·rfl
   have done:∀(ex:Za),ex.bk+1<=200->(∀k,200<=k->Z6 (k+1) x=some (ex,adS x)/\Zv (k+1) p=some (ex,adI p))->Ag T E (some j) (fun k=>Z6 k x) (fun k=>Zv k p):=by
    intro ex hbk hk;refine ⟨ex,ex,adS x,adI p,some (j+1),ad,fun j' e=>⟨rfl,j,rfl,by cases e;omega,by cases e;omega⟩,201,fun k hk2=> ?_⟩;obtain ⟨k,rfl⟩:∃n',k=n'+1:=⟨k-1,by omega⟩;exact hk k (by omega)
   have hat:at? T (j:Int)=some T[j]:=Yp hl;have hn0:T.length-(j+1)<m:=by have:=hd j rfl;omega
   obtain ⟨z,z1,z2⟩:=ZvU T[j].text;have vn:∀k,200<=k->ZX k T[j].text=some (WM T[j].text)/\ZZ k T[j].text=some (WM T[j].text):=fun k hk=>Uy _ (by omega) (by omega) (by omega)
   by_cases k2:T[j].kind=2
   ·refine done ⟨1,T[j].n,⟨#[]⟩,[]⟩ (by rw [Zhw];simp [lw];try decide) fun k hk=>⟨?_, ?_⟩
    ·rw [sgood,hat];simp only [Zwe,k2,decide_true,if_true,ZbY]
    ·rw [igood];simp only [k2,decide_true,if_true]
   by_cases k3:T[j].kind=3
   ·refine done ⟨2,0,T[j].text,[]⟩ (by rw [Zhw];simp [lw];omega) fun k hk=>⟨?_, ?_⟩
    ·rw [sgood,hat];simp [k3]
    ·rw [igood];simp [k3]
   by_cases k1:T[j].kind=1
   ·have nosym:∀s,ZaG T[j] s=false:=fun s=>by simp [ZaG,k1]
    cases hv:WM T[j].text with
    | true=>
     refine done ⟨3,0,T[j].text,[]⟩ (by rw [Zhw];simp [lw];omega) fun k hk=>⟨?_, ?_⟩
     ·rw [sgood,hat];simp [k1,(vn k hk).1,hv,Zag]
     ·rw [igood];simp [k1,(vn k hk).2,hv]
    | false=>
     by_cases hz:0<=z
     ·obtain ⟨x1,p1,o1,t1,t2,r1,g1⟩:=ZfQ ok ad ZnB;obtain ⟨ls,li,x2,p2,o2,r2,g2,B,e2⟩:=lists ok (m-1) (fun m' hm'=>IH m' (by omega)) ZqX ⟨41,[],rfl,by decide⟩ (by decide) x1 p1 o1 r1 (fun j' e=>by obtain ⟨j2,e2,h2⟩:=g1 j' e;cases e2;omega);refine ⟨⟨5,0,T[j].text,ls⟩,⟨5,0,T[j].text,li⟩,x2,p2,o2,r2,fun j' e=> ?_,max B 200+1,fun k hk=> ?_⟩
      ·obtain ⟨rfl,j2,e3,h3,h4⟩:=g2 j' e;obtain ⟨j3,e4,h5⟩:=g1 j2 e3;cases e4;refine ⟨rfl,j,rfl,by omega, ?_⟩;rw [Zhw];omega
      ·obtain ⟨k,rfl⟩:∃n',k=n'+1:=⟨k-1,by omega⟩;have q:=e2 k (by omega);dsimp only at q;have v:=vn k (by omega);dsimp only;constructor
       ·rw [sgood,hat];simp [k1,v.1,hv,z1,hz,t1,q.1]
       ·rw [igood];simp [k1,v.2,hv,z2,hz,t2,q.2]
     ·refine bad fun k hk=>⟨?_, ?_⟩
      ·rw [sgood,hat];simp [k1,(vn k hk).1,hv,z1,hz,ZbR,nosym,f1]
      ·rw [igood];simp [k1,(vn k hk).2,hv,z2,hz,nosym,f2]
   ·cases hs1:ZaG T[j] Zq1 with
    | true=>
     obtain ⟨ls,li,x2,p2,o2,r2,g2,B,e2⟩:=lists ok (m-1) (fun m' hm'=>IH m' (by omega)) ZuS ⟨93,[],rfl,by decide⟩ (by decide) (adS x) (adI p) _ ad (fun j' e=>by cases e;omega);refine ⟨⟨4,0,⟨#[]⟩,ls⟩,⟨4,0,⟨#[]⟩,li⟩,x2,p2,o2,r2,fun j' e=> ?_,max B 200+1,fun k hk=> ?_⟩
     ·obtain ⟨rfl,j2,e3,h3,h4⟩:=g2 j' e;cases e3;refine ⟨rfl,j,rfl,by omega, ?_⟩;rw [Zhw];have h0:(⟨#[]⟩:ByteArray).size=0:=rfl;omega
     ·obtain ⟨k,rfl⟩:∃n',k=n'+1:=⟨k-1,by omega⟩;have q:=e2 k (by omega);dsimp only at q;dsimp only;constructor
      ·rw [sgood,hat];simp [k1,k2,k3,ZbR,hs1,q.1]
      ·rw [igood];simp [k1,k2,k3,hs1,q.2]
    | false=>
     cases hs2:ZaG T[j] ZnB with
     | true=>
      obtain ⟨ea,eb,x1,p1,o1,r1,g1,B,e1⟩:=IH _ hn0 (adS x) (adI p) _ ad (fun j' e=>by cases e;exact Zwk _);obtain ⟨x2,p2,o2,t1,t2,r2,g2⟩:=ZfQ ok r1 ZqX;refine ⟨ea,eb,x2,p2,o2,r2,fun j' e=> ?_,max B 200+1,fun k hk=> ?_⟩
      ·obtain ⟨j2,e3,h3⟩:=g2 j' e;obtain ⟨h4,j3,e4,h5,h6⟩:=g1 j2 e3;cases e4;exact ⟨h4,j,rfl,by omega,by omega⟩
      ·obtain ⟨k,rfl⟩:∃n',k=n'+1:=⟨k-1,by omega⟩;have q:=e1 k (by omega);dsimp only at q;dsimp only;constructor
       ·rw [sgood,hat];simp [k1,k2,k3,ZbR,hs1,hs2,q.1,t1]
       ·rw [igood];simp [k1,k2,k3,hs1,hs2,q.2,t2]
     | false=>
      refine bad fun k hk=>⟨?_, ?_⟩
      ·rw [sgood,hat];simp [k1,k2,k3,ZbR,hs1,hs2,f1]
      ·rw [igood];simp [k1,k2,k3,hs1,hs2,f2]
theorem Zpt (ok:Zdy T E) (m:Nat) (hA:∀m',m'<=m->AgN T E m' Z6 Zv):AgN T E m ZE Zt:=by
 intro x p o h hd;obtain ⟨ea,eb,x1,p1,o1,r1,g1,B1,e1⟩:=hA m (Zwk _) x p o h hd
 obtain ⟨j0,hj0⟩:∃j0,∀j,o=some j->j=j0:=by
  cases o with
  | none=>exact ⟨0,by simp⟩
  | some j=>exact ⟨j,by simp⟩
 obtain ⟨es,ei,x2,p2,o2,r2,g2,B2,e2⟩:=ZlQ ok m (fun m' hm'=>hA m' (by omega)) j0 m x1 p1 o1 ea eb r1
  (fun j e=>by obtain ⟨_,j2,e3,h3,_⟩:=g1 j e;have:=hd j2 e3;omega)
  (fun j e=>by obtain ⟨h2,j2,e3,h3,h4⟩:=g1 j e;have:=hj0 j2 e3;subst this;exact ⟨h2,h3,h4⟩)
 refine ⟨es,ei,x2,p2,o2,r2,fun j' e=> ?_,max B1 B2+1,fun k hk=> ?_⟩
 ·obtain ⟨h1,h2,h3⟩:=g2 j' e;cases o with
  | some j=>have:=hj0 j rfl;subst this;exact ⟨h1,j,rfl,h2,h3⟩
  | none=>
   exfalso
   have ho1:o1=none:=by cases o1 with | none=>rfl| some j1=>obtain ⟨_,j2,e3,_⟩:=g1 j1 rfl;cases e3
   subst ho1;have q:=(e2 (B2+1) (B2+1) (by omega) (by omega)).2;have hb:=r1.bad ok;rw [ZdV,Uz (Zcd hb.2),ZfR] at q;simp only [Zwe,Zwl,if_false,Zwh,Zwi] at q;rw [e,<-q.2] at r2;have:=r2.2.2;rw [this] at hb;exact absurd hb.2 (by show ¬(0:Int)<= -1;decide)
 ·obtain ⟨k,rfl⟩:∃n',k=n'+1:=⟨k-1,by omega⟩;have q1:=e1 k (by omega);dsimp only at q1;have q2:=e2 k k (by omega) (by omega);dsimp only at q2;dsimp only;exact ⟨by rw [Zrw,q1.1];exact q2.1,by rw [Zr2,q1.2];exact q2.2⟩
theorem Zrk (ok:Zdy T E) (m:Nat) (hA:∀m',m'<=m->AgN T E m' ZE Zt):AgN T E m XK ZW:=by
 intro x p o h hd;obtain ⟨ea,eb,x1,p1,o1,r1,g1,B1,e1⟩:=hA m (Zwk _) x p o h hd
 obtain ⟨j0,hj0⟩:∃j0,∀j,o=some j->j=j0:=by
  cases o with
  | none=>exact ⟨0,by simp⟩
  | some j=>exact ⟨j,by simp⟩
 obtain ⟨es,ei,x2,p2,o2,r2,g2,B2,e2⟩:=Znm ok m (fun m' hm'=>hA m' (by omega)) j0 m x1 p1 o1 ea eb r1
  (fun j e=>by obtain ⟨_,j2,e3,h3,_⟩:=g1 j e;have:=hd j2 e3;omega)
  (fun j e=>by obtain ⟨h2,j2,e3,h3,h4⟩:=g1 j e;have:=hj0 j2 e3;subst this;exact ⟨h2,h3,h4⟩)
 refine ⟨es,ei,x2,p2,o2,r2,fun j' e=> ?_,max B1 B2+1,fun k hk=> ?_⟩
 ·obtain ⟨h1,h2,h3⟩:=g2 j' e;cases o with
  | some j=>have:=hj0 j rfl;subst this;exact ⟨h1,j,rfl,h2,h3⟩
  | none=>
   exfalso
   have ho1:o1=none:=by cases o1 with | none=>rfl| some j1=>obtain ⟨_,j2,e3,_⟩:=g1 j1 rfl;cases e3
   subst ho1;have q:=(e2 (B2+1) (B2+1) (by omega) (by omega)).2;have hb:=r1.bad ok;rw [Zgq,if_neg (by omega)] at q;simp only [Zwh,Zwi] at q;rw [e,<-q.2] at r2;have:=r2.2.2;rw [this] at hb;exact absurd hb.2 (by show ¬(0:Int)<= -1;decide)
 ·obtain ⟨k,rfl⟩:∃n',k=n'+1:=⟨k-1,by omega⟩;have q1:=e1 k (by omega);dsimp only at q1;have q2:=e2 k k (by omega) (by omega);dsimp only at q2;dsimp only;exact ⟨by rw [Zrv,q1.1];exact q2.1,by rw [Zr1,q1.2];exact q2.2⟩
end
def iCL (r:Zf->Option (Za×Zf)) (y:Za×Zf) (n:Nat) (p:Zf) (i:Int):Option (Za×Zf):=
 (Yf r y n p.list p.at_ p.bad i:Option (((List Zh)×Int×Int) ⊕ (Za×Zf))).bind fun
  | .inl (a,b,c)=>some (y.1,⟨a,b,c⟩)
  | .inr z=>some z
theorem ZvK:JS 4=some Zma:=by decide+kernel
theorem ZvJ:JS 5=some ZlE:=by decide+kernel
theorem Zuf (r:Zf->Option (Za×Zf)) (y:Za×Zf) (n:Nat) (p:Zf):iCL r y (n+1) p 0=(Zj p Zma).bind fun s=>if s.1=true then (r s.2).bind fun w=>some (opE 4 y.1 w.1,w.2) else iCL r y n s.2 1:=by
 unfold iCL;rw [Yf];have h1:at? [(4:Int),5] 0=some 4:=rfl;have h2:IntKind.i64.wrap (0+1)=1:=by decide
 simp only [h1,h2,Zwe,ZvK,show (decide ((0:Int)<(([4,5]:List Nat).length:Int)))=true from rfl,if_true];rcases Zj p Zma with _| ⟨b,q⟩
 ·rfl
 ·cases b
  ·simp only [Zwe,Zwl,if_false]
  ·simp only [Zwe,if_true];rcases r q with _| ⟨a,z⟩<;>rfl
theorem Zvf (r:Zf->Option (Za×Zf)) (y:Za×Zf) (n:Nat) (p:Zf):iCL r y (n+2) p 1=(Zj p ZlE).bind fun s=>if s.1=true then (r s.2).bind fun w=>some (opE 5 y.1 w.1,w.2) else some (y.1,s.2):=by
 unfold iCL;rw [Yf];have h1:at? [(4:Int),5] 1=some 5:=rfl;have h2:IntKind.i64.wrap (1+1)=2:=by decide
 simp only [h1,h2,Zwe,ZvJ,show (decide ((1:Int)<(([4,5]:List Nat).length:Int)))=true from rfl,if_true];rcases Zj p ZlE with _| ⟨b,q⟩
 ·rfl
 ·cases b
  ·simp only [Zwe,Zwl,if_false];rw [Yf];simp only [show (decide ((2:Int)<(([4,5]:List Nat).length:Int)))=false from rfl,Zwl,if_false,Zwe]
  ·simp only [Zwe,if_true];rcases r q with _| ⟨a,z⟩<;>rfl
theorem ZlI (k:Nat) (x:Zd):QZ (k+1) x=(XK k x).bind fun y=>(Zp y.2 Zma).bind fun u=>if u.1=true then (XK k (adS u.2)).bind fun w=>some (opE 4 y.1 w.1,w.2) else (Zp u.2 ZlE).bind fun v=>if v.1=true then (XK k (adS v.2)).bind fun w=>some (opE 5 y.1 w.1,w.2) else some (y.1,v.2):=by
 rw [QZ];rfl
theorem Zjx (k:Nat) (x:Zd):Zu (k+1) x=(Zp x Zuc).bind fun y=>
  if y.1=true then (XR k (adS y.2)).bind fun n=>(Zx n.2 eqS).bind fun z=>(Zu k z).bind fun a=>(Zx a.2 kIn).bind fun u=>(Zu k u).bind fun b=>some (⟨7,0,n.1,[a.1,b.1]⟩,b.2)
  else (Zp y.2 kIf).bind fun y=>if y.1=true then (Zu k (adS y.2)).bind fun a=>(Zx a.2 Zmd).bind fun z=>(Zu k z).bind fun b=>(Zx b.2 Zme).bind fun u=>(Zu k u).bind fun c=>some (⟨8,0,⟨#[]⟩,[a.1,b.1,c.1]⟩,c.2)
  else (Zp y.2 Zud).bind fun y=>if y.1=true then (XR k (adS y.2)).bind fun n=>(Zx n.2 kIn).bind fun z=>(Zu k z).bind fun a=>(Zx a.2 kDo).bind fun u=>(Zu k u).bind fun b=>some (⟨9,0,n.1,[a.1,b.1]⟩,b.2)
  else (QZ k y.2).bind fun z=>some (z.1,z.2):=by
 rw [Zu];rfl
theorem ZjO (k:Nat) (p:Zf) (t:Zh) (h:Zy p=some (t,p)) {b1 b2 b3:Bool} (h1:YA t Zuc=some b1) (h2:YA t kIf=some b2) (h3:YA t Zud=some b3):Zl (k+1) p=
  if b1=true then (Yr k (adI p)).bind fun n=>(Zo n.2 eqS).bind fun z=>(Zl k z).bind fun a=>(Qb 56 ([]:List Za) [a.1]).bind fun l=>(Zo a.2 kIn).bind fun u=>(Zl k u).bind fun b=>(Qb 56 l [b.1]).bind fun l2=>some (⟨7,0,n.1,l2⟩,b.2)
  else if b2=true then (Zl k (adI p)).bind fun a=>(Qb 56 ([]:List Za) [a.1]).bind fun l=>(Zo a.2 Zmd).bind fun z=>(Zl k z).bind fun b=>(Qb 56 l [b.1]).bind fun l2=>(Zo b.2 Zme).bind fun u=>(Zl k u).bind fun c=>(Qb 56 l2 [c.1]).bind fun l3=>some (⟨8,0,⟨#[]⟩,l3⟩,c.2)
  else if b3=true then (Yr k (adI p)).bind fun n=>(Zo n.2 kIn).bind fun z=>(Zl k z).bind fun a=>(Qb 56 ([]:List Za) [a.1]).bind fun l=>(Zo a.2 kDo).bind fun u=>(Zl k u).bind fun b=>(Qb 56 l [b.1]).bind fun l2=>some (⟨9,0,n.1,l2⟩,b.2)
  else (ZW k p).bind fun y=>iCL (ZW k) y k y.2 0:=by
 have g1:YA t ⟨#[108,101,116]⟩=some b1:=h1;have g2:YA t ⟨#[105,102]⟩=some b2:=h2;have g3:YA t ⟨#[102,111,114]⟩=some b3:=h3;rw [Zl];simp only [h,Zwe,g1,g2,g3];cases b1
 ·cases b2
  ·cases b3
   ·rfl
   ·rfl
  ·rfl
 ·rfl
section
variable {T:List Zh} {E:Int}
theorem Zsq (ok:Zdy T E) (m:Nat) (hS:∀m',m'<=m->AgN T E m' XK ZW):AgN T E m QZ (fun k p=>(ZW k p).bind fun y=>iCL (ZW k) y k y.2 0):=by
 intro x p o h hd;obtain ⟨ea,eb,x1,p1,o1,r1,g1,B1,e1⟩:=hS m (Zwk _) x p o h hd;obtain ⟨b,s1,s2,s3⟩:=J9 ok r1 (s:=Zma) ⟨60,[],rfl,by decide⟩;cases b with
 | true=>
  obtain ⟨j1,rfl,hl,r2⟩:=s3 rfl;obtain ⟨rfl,j,rfl,h2,h3⟩:=g1 j1 rfl;have hj:=hd j rfl;obtain ⟨fa,fb,x2,p2,o2,r3,g3,B2,e2⟩:=hS (T.length-(j1+1)) (by omega) _ _ _ r2 (fun j' e=>by cases e;exact Zwk _);refine ⟨opE 4 ea fa,opE 4 ea fb,x2,p2,o2,r3,fun j' e=> ?_,max B1 B2+2,fun k hk=> ?_⟩
  ·obtain ⟨rfl,j2,e3,h4,h5⟩:=g3 j' e;cases e3;exact ⟨rfl,j,rfl,by omega,by rw [ZlU];omega⟩
  ·obtain ⟨k,rfl⟩:∃n',k=n'+1:=⟨k-1,by omega⟩;have q1:=e1 k (by omega);dsimp only at q1;have q2:=e2 k (by omega);dsimp only at q2;have q1':=e1 (k+1) (by omega);dsimp only at q1';have q2':=e2 (k+1) (by omega);dsimp only at q2';dsimp only;exact ⟨by rw [ZlI,q1.1];simp only [Zwe,s1,if_true,q2.1],by rw [q1'.2];simp only [Zwe];rw [Zuf,s2];simp only [Zwe,if_true,q2'.2]⟩
 | false=>
  obtain ⟨c,t1,t2,t3⟩:=J9 ok r1 (s:=ZlE) ⟨61,[61],rfl,by decide⟩;cases c with
  | true=>
   obtain ⟨j1,rfl,hl,r2⟩:=t3 rfl;obtain ⟨rfl,j,rfl,h2,h3⟩:=g1 j1 rfl;have hj:=hd j rfl;obtain ⟨fa,fb,x2,p2,o2,r3,g3,B2,e2⟩:=hS (T.length-(j1+1)) (by omega) _ _ _ r2 (fun j' e=>by cases e;exact Zwk _);refine ⟨opE 5 ea fa,opE 5 ea fb,x2,p2,o2,r3,fun j' e=> ?_,max B1 B2+4,fun k hk=> ?_⟩
   ·obtain ⟨rfl,j2,e3,h4,h5⟩:=g3 j' e;cases e3;exact ⟨rfl,j,rfl,by omega,by rw [ZlU];omega⟩
   ·obtain ⟨k,rfl⟩:∃n',k=n'+3:=⟨k-3,by omega⟩;have q1:=e1 (k+2) (by omega);dsimp only at q1;have q2:=e2 (k+2) (by omega);dsimp only at q2;have q1':=e1 (k+3) (by omega);dsimp only at q1';have q2':=e2 (k+3) (by omega);dsimp only at q2';dsimp only;exact ⟨by rw [ZlI,q1.1];simp only [Zwe,s1,Zwl,if_false,t1,if_true,q2.1],by rw [q1'.2];simp only [Zwe];rw [Zuf,s2];simp only [Zwe,Zwl,if_false];rw [Zvf,t2];simp only [Zwe,if_true,q2'.2]⟩
  | false=>
   refine ⟨ea,eb,x1,p1,o1,r1,g1,B1+4,fun k hk=> ?_⟩;obtain ⟨k,rfl⟩:∃n',k=n'+3:=⟨k-3,by omega⟩;have q1:=e1 (k+2) (by omega);dsimp only at q1;have q1':=e1 (k+3) (by omega);dsimp only at q1';dsimp only;exact ⟨by rw [ZlI,q1.1];simp only [Zwe,s1,Zwl,if_false,t1],by rw [q1'.2];simp only [Zwe];rw [Zuf,s2];simp only [Zwe,Zwl,if_false];rw [Zvf,t2];simp only [Zwe,Zwl,if_false]⟩
theorem Zvp (a b:Za):Qb 56 [a] [b]=some [a,b]:=ZmO [a] b (by simp)
theorem Zvq (a:Za):Qb 56 ([]:List Za) [a]=some [a]:=ZmO [] a (by simp)
theorem ZvV (a b c:Za):Qb 56 [a,b] [c]=some [a,b,c]:=ZmO [a,b] c (by simp)
theorem lw2 (a b:Za):lw [a,b]=(a.bk+1)+(b.bk+1):=by simp [lw]
theorem lw3 (a b c:Za):lw [a,b,c]=(a.bk+1)+(b.bk+1)+(c.bk+1):=by simp [lw];omega
theorem ZmI (ok:Zdy T E) (m:Nat) (IH:∀m',m'<m->AgN T E m' Zu Zl) {x:Zd} {p:Zf} {j:Nat} (hj:T.length-j<=m) (hl:j<T.length) (r0:Rl T E x p (some (j+1))) (c1 c2:ByteArray) (kd:Int):
  Ag T E (some j) (fun k=>(XR k x).bind fun n=>(Zx n.2 c1).bind fun z=>(Zu k z).bind fun a=>(Zx a.2 c2).bind fun u=>(Zu k u).bind fun b=>some (⟨kd,0,n.1,[a.1,b.1]⟩,b.2))
   (fun k=>(Yr k p).bind fun n=>(Zo n.2 c1).bind fun z=>(Zl k z).bind fun a=>(Qb 56 ([]:List Za) [a.1]).bind fun l=>(Zo a.2 c2).bind fun u=>(Zl k u).bind fun b=>(Qb 56 l [b.1]).bind fun l2=>some (⟨kd,0,n.1,l2⟩,b.2)):=by
 obtain ⟨ns,ni,x1,p1,o1,r1,g1,v1⟩:=names ok r0;obtain ⟨x2,p2,o2,t1,t2,r2,g2⟩:=ZfQ ok r1 c1;obtain ⟨ea,eb,x3,p3,o3,r3,g3,B3,e3⟩:=IH (T.length-(j+1)) (by omega) _ _ _ r2 (fun j' e=>by obtain ⟨j2,e2,h2⟩:=g2 j' e;obtain ⟨_,_,j3,e4,h3⟩:=g1 j2 e2;cases e4;omega);obtain ⟨x4,p4,o4,u1,u2,r4,g4⟩:=ZfQ ok r3 c2
 obtain ⟨fa,fb,x5,p5,o5,r5,g5,B5,e5⟩:=IH (T.length-(j+1)) (by omega) _ _ _ r4 (fun j' e=>by
  obtain ⟨j2,e2,h2⟩:=g4 j' e;obtain ⟨_,j3,e4,h3,_⟩:=g3 j2 e2;obtain ⟨j4,e6,h4⟩:=g2 j3 e4;obtain ⟨_,_,j5,e7,h5⟩:=g1 j4 e6;cases e7;omega)
 refine ⟨⟨kd,0,ns,[ea,fa]⟩,⟨kd,0,ni,[eb,fb]⟩,x5,p5,o5,r5,fun j' e=> ?_,max B3 B5+200,fun k hk=> ?_⟩
 ·obtain ⟨rfl,j1,a1,a2,a3⟩:=g5 j' e;obtain ⟨j2,b1,b2⟩:=g4 j1 a1;obtain ⟨rfl,j3,c1,c2,c3⟩:=g3 j2 b1;obtain ⟨j4,d1,d2⟩:=g2 j3 c1;obtain ⟨rfl,f1,j5,f2,f3⟩:=g1 j4 d1;cases f2;exact ⟨rfl,j,rfl,by omega,by rw [Zhw,lw2];omega⟩
 ·have q1:=v1 k (by omega);have q3:=e3 k (by omega);dsimp only at q3;have q5:=e5 k (by omega);dsimp only at q5;dsimp only;exact ⟨by simp only [q1.1,Zwe,t1,q3.1,u1,q5.1],by simp only [q1.2,Zwe,t2,q3.2,Zvq,u2,q5.2,Zvp]⟩
theorem Zue (ok:Zdy T E) (m:Nat) (IH:∀m',m'<m->AgN T E m' Zu Zl) {x:Zd} {p:Zf} {j:Nat} (hj:T.length-j<=m) (hl:j<T.length) (r0:Rl T E x p (some (j+1))):
  Ag T E (some j) (fun k=>(Zu k x).bind fun a=>(Zx a.2 Zmd).bind fun z=>(Zu k z).bind fun b=>(Zx b.2 Zme).bind fun u=>(Zu k u).bind fun c=>some (⟨8,0,⟨#[]⟩,[a.1,b.1,c.1]⟩,c.2))
   (fun k=>(Zl k p).bind fun a=>(Qb 56 ([]:List Za) [a.1]).bind fun l=>(Zo a.2 Zmd).bind fun z=>(Zl k z).bind fun b=>(Qb 56 l [b.1]).bind fun l2=>(Zo b.2 Zme).bind fun u=>(Zl k u).bind fun c=>(Qb 56 l2 [c.1]).bind fun l3=>some (⟨8,0,⟨#[]⟩,l3⟩,c.2)):=by
 obtain ⟨ea,eb,x1,p1,o1,r1,g1,B1,e1⟩:=IH (T.length-(j+1)) (by omega) _ _ _ r0 (fun j' e=>by cases e;exact Zwk _);obtain ⟨x2,p2,o2,t1,t2,r2,g2⟩:=ZfQ ok r1 Zmd;obtain ⟨fa,fb,x3,p3,o3,r3,g3,B3,e3⟩:=IH (T.length-(j+1)) (by omega) _ _ _ r2 (fun j' e=>by obtain ⟨j2,e2,h2⟩:=g2 j' e;obtain ⟨_,j3,e4,h3,_⟩:=g1 j2 e2;cases e4;omega);obtain ⟨x4,p4,o4,u1,u2,r4,g4⟩:=ZfQ ok r3 Zme
 obtain ⟨ga,gb,x5,p5,o5,r5,g5,B5,e5⟩:=IH (T.length-(j+1)) (by omega) _ _ _ r4 (fun j' e=>by
  obtain ⟨j2,e2,h2⟩:=g4 j' e;obtain ⟨_,j3,e4,h3,_⟩:=g3 j2 e2;obtain ⟨j4,e6,h4⟩:=g2 j3 e4;obtain ⟨_,j5,e7,h5,_⟩:=g1 j4 e6;cases e7;omega)
 refine ⟨⟨8,0,⟨#[]⟩,[ea,fa,ga]⟩,⟨8,0,⟨#[]⟩,[eb,fb,gb]⟩,x5,p5,o5,r5,fun j' e=> ?_,max B1 (max B3 B5),fun k hk=> ?_⟩
 ·obtain ⟨rfl,j1,a1,a2,a3⟩:=g5 j' e;obtain ⟨j2,b1,b2⟩:=g4 j1 a1;obtain ⟨rfl,j3,c1,c2,c3⟩:=g3 j2 b1;obtain ⟨j4,d1,d2⟩:=g2 j3 c1;obtain ⟨rfl,j5,f2,f3,f4⟩:=g1 j4 d1;cases f2;have h0:(⟨#[]⟩:ByteArray).size=0:=rfl;exact ⟨rfl,j,rfl,by omega,by rw [Zhw,lw3];omega⟩
 ·have q1:=e1 k (by omega);dsimp only at q1;have q3:=e3 k (by omega);dsimp only at q3;have q5:=e5 k (by omega);dsimp only at q5;dsimp only;exact ⟨by simp only [q1.1,Zwe,t1,q3.1,u1,q5.1],by simp only [q1.2,Zwe,t2,q3.2,Zvq,u2,q5.2,Zvp,ZvV]⟩
theorem Ag.next {o:Option Nat} {s s':Nat->Option (Za×Zd)} {i i':Nat->Option (Za×Zf)} (h:Ag T E o s i) (hs:∀k,s' (k+1)=s k) (hi:∀k,i' (k+1)=i k):Ag T E o s' i':=by
 obtain ⟨ea,eb,x1,p1,o1,r1,g1,B1,e1⟩:=h;refine ⟨ea,eb,x1,p1,o1,r1,g1,B1+1,fun k hk=> ?_⟩;obtain ⟨k,rfl⟩:∃n',k=n'+1:=⟨k-1,by omega⟩;rw [hs,hi];exact e1 k (by omega)
theorem Zqd (ok:Zdy T E) (m:Nat) (hS:∀m',m'<=m->AgN T E m' XK ZW) (IH:∀m',m'<m->AgN T E m' Zu Zl):AgN T E m Zu Zl:=by
 intro x p o h hd;obtain ⟨b1,t,a1,a2,a3,a4⟩:=Zii ok h (s:=Zuc) ⟨108,[101,116],rfl,by decide⟩;obtain ⟨b2,t',d1,d2,d3,d4⟩:=Zii ok h (s:=kIf) ⟨105,[102],rfl,by decide⟩;obtain ⟨b3,t'',c1,c2,c3,c4⟩:=Zii ok h (s:=Zud) ⟨102,[111,114],rfl,by decide⟩;obtain rfl:t=t':=by rw [a2] at d2;simpa using d2
 obtain rfl:t=t'':=by rw [a2] at c2;simpa using c2
 cases b1 with
 | true=>
  obtain ⟨j,rfl,hl,r2⟩:=a4 rfl;refine (ZmI ok m IH (hd j rfl) hl r2 eqS kIn 7).next (fun k=> ?_) (fun k=> ?_)
  ·rw [Zjx,a1];simp only [Zwe,if_true]
  ·rw [ZjO k p t a2 a3 d3 c3];simp only [if_true]
 | false=>
  cases b2 with
  | true=>
   obtain ⟨j,rfl,hl,r2⟩:=d4 rfl;refine (Zue ok m IH (hd j rfl) hl r2).next (fun k=> ?_) (fun k=> ?_)
   ·rw [Zjx,a1];simp only [Zwe,Zwl,if_false,d1,if_true]
   ·rw [ZjO k p t a2 a3 d3 c3];simp only [Zwl,if_false,if_true]
  | false=>
   cases b3 with
   | true=>
    obtain ⟨j,rfl,hl,r2⟩:=c4 rfl;refine (ZmI ok m IH (hd j rfl) hl r2 kIn kDo 9).next (fun k=> ?_) (fun k=> ?_)
    ·rw [Zjx,a1];simp only [Zwe,Zwl,if_false,d1,c1,if_true]
    ·rw [ZjO k p t a2 a3 d3 c3];simp only [Zwl,if_false,if_true]
   | false=>
    refine (Zsq ok m hS x p o h hd).next (fun k=> ?_) (fun k=> ?_)
    ·rw [Zjx,a1];simp only [Zwe,Zwl,if_false,d1,c1];rcases QZ k x with _| ⟨a,z⟩<;>rfl
    ·rw [ZjO k p t a2 a3 d3 c3];simp only [Zwl,if_false]
theorem ZsH (ok:Zdy T E):∀m,AgN T E m Zu Zl:=by
 intro m
 induction m using Nat.strongRecOn with
 | _ m IH=>
  have atoms:∀m',m'<=m->AgN T E m' Z6 Zv:=fun m' h=>ZqL ok m' fun m'' h2=>IH m'' (by omega);have prods:∀m',m'<=m->AgN T E m' ZE Zt:=fun m' h=>Zpt ok m' fun m'' h2=>atoms m'' (by omega);have sums:∀m',m'<=m->AgN T E m' XK ZW:=fun m' h=>Zrk ok m' fun m'' h2=>prods m'' (by omega);exact Zqd ok m sums IH
end
def toB (l:List UInt8):ByteArray:=⟨l.toArray⟩
theorem Zlq (l m:List UInt8):toB l++toB m=toB (l++m):=by
 apply ByteArray.ext;rw [ByteArray.data_append];simp [toB]
theorem ZdN (l:List UInt8):(toB l).size=l.length:=by unfold toB ByteArray.size;simp
theorem ZoR {s t:ByteArray} (h:s.size+t.size<=1099511627776):Zqw s t=some (s++t):=by
 unfold Zqw;rw [if_pos (by omega)]
def Zc1 (u:Nat):List UInt8:=if u=0 then [] else Lib.decDigits u
theorem ZkF {u:Nat} (h:u≠0):Zc1 u=Zc1 (u/10)++[UInt8.ofNat (48+u%10)]:=by
 unfold Zc1;rw [if_neg h,Lib.decDigits]
 by_cases g:u<10
 ·rw [dif_pos g,if_pos (by omega),show u%10=u by omega];rfl
 ·rw [dif_neg g,if_neg (by omega)]
theorem ZkG:∀(m:Nat) (x:Int) (l:List UInt8),x.natAbs<10^m-> -9223372036854775808<=x->x<=9223372036854775807->l.length+m<=10000->ZI (m+1) x (toB l)=some (toB (Zc1 x.natAbs++l)):=by
 intro m
 induction m with
 | zero=>
  intro x l h0 _ _ _;have:x=0:=by simp at h0;exact h0
  subst this;rw [ZI];simp [Zc1]
 | succ m ih=>
  intro x l h0 h1 h2 h3;rw [ZI]
  by_cases hx:x=0
  ·subst hx;simp [Zc1]
  ·rw [if_pos (by simpa using hx)]
   have ht:x.tmod 10=if x<0 then-((x.natAbs%10:Nat):Int) else ((x.natAbs%10:Nat):Int):=by
    split
    ·obtain ⟨n,rfl⟩:∃n:Nat,x= -(n:Int):=⟨x.natAbs,by omega⟩;rw [Int.neg_tmod];simp;rfl
    ·obtain ⟨n,rfl⟩:∃n:Nat,x=(n:Int):=⟨x.natAbs,by omega⟩
     rfl
   have hd:x.natAbs%10<10:=Nat.mod_lt _ (by omega);have e1:IntKind.i64.wrap (x.tmod 10)=x.tmod 10:=w64 (by rw [ht];split<;>omega) (by rw [ht];split<;>omega)
   have e2:(if decide (IntKind.i64.wrap (x.tmod 10)<0)=true then some (IntKind.i64.wrap (0-IntKind.i64.wrap (x.tmod 10))) else some (IntKind.i64.wrap (x.tmod 10)):Option Int)=some ((x.natAbs%10:Nat):Int):=by
    rw [e1,ht]
    by_cases hn:x<0
    ·simp only [if_pos hn]
     by_cases hz:x.natAbs%10=0
     ·simp [hz]
     ·rw [if_pos (by simp;omega),w64 (by omega) (by omega)];congr 1;omega
    ·simp only [if_neg hn];rw [if_neg (by simp;omega)]
   have e3:IntKind.i64.wrap (48+((x.natAbs%10:Nat):Int))=((48+x.natAbs%10:Nat):Int):=by rw [w64 (by omega) (by omega)];omega
   have e4:IntKind.u8.wrap ((48+x.natAbs%10:Nat):Int)=((48+x.natAbs%10:Nat):Int):=IntWalk.u8_in _ ⟨by omega,by omega⟩
   have e5:Zi3 [((48+x.natAbs%10:Nat):Int)]=toB [UInt8.ofNat (48+x.natAbs%10)]:=by
    unfold Zi3 toB;simp only [List.foldl_cons,List.foldl_nil,Int.toNat_natCast]
    rfl
   have e6:(x.tdiv 10).natAbs=x.natAbs/10:=by rw [Int.natAbs_tdiv];rfl
   have hq: -9223372036854775808<=x.tdiv 10/\x.tdiv 10<=9223372036854775807:=by omega
   rw [e2,Zwe,e3,e4,e5,ZoR (by rw [ZdN,ZdN];simp;omega),Zwe,Zlq,w64 hq.1 hq.2,ih _ _ (by rw [e6];rw [Nat.pow_succ] at h0;omega) hq.1 hq.2 (by simp;omega),e6,ZkF (u:=x.natAbs) (by omega)];simp
theorem Ztl (n:Int) (h0: -9223372036854775808<=n) (h1:n<=9223372036854775807) {k:Nat} (hk:100<k):UK k n=some (toB (Lib.itoa n)):=by
 obtain ⟨k,rfl⟩:∃j,k=j+1:=⟨k-1,by omega⟩;unfold UK
 by_cases hn:n=0
 ·subst hn
  have:Lib.itoa 0=[48]:=by
   unfold Lib.itoa;rw [if_neg (by omega),Lib.decDigits,dif_pos (by decide)];rfl
  rw [if_pos (by simp),this];rfl
 ·rw [if_neg (by simpa using hn)]
  have hp:n.natAbs<10^20:=by have:(10:Nat)^20=100000000000000000000:=by decide
                             omega
  have key:ZI (k+1) n (⟨#[]⟩:ByteArray)=some (toB (Zc1 n.natAbs)):=by
   have mono:∀(m j:Nat) (x:Int) (acc r:ByteArray),ZI m x acc=some r->ZI (m+j) x acc=some r:=by
    intro m
    induction m with
    | zero=>intro j x acc r h;simp [ZI] at h
    | succ m ih=>
     intro j x acc r h;rw [show m+1+j=(m+j)+1 by omega,ZI];rw [ZI] at h
     split at h
     ·rename_i c;rw [if_pos c];obtain ⟨a,ha,h⟩:=Option.bind_eq_some_iff.1 h;obtain ⟨b,hb,h⟩:=Option.bind_eq_some_iff.1 h;rw [ha,Zwe,hb,Zwe];exact ih j _ _ _ h
     ·rename_i c;rw [if_neg c];exact h
   have h20:=ZkG 20 n [] hp h0 h1 (by simp);have:=mono 21 (k-20) _ _ _ h20;rw [show 21+(k-20)=k+1 by omega,List.append_nil] at this;exact this
  rw [key,Zwe]
  by_cases g:n<0
  ·rw [if_pos (by simpa using g)]
   have hc:Zqw (⟨#[45]⟩:ByteArray) (toB (Zc1 n.natAbs))=some (toB (45::Zc1 n.natAbs)):=by
    have hl:=Lib.itoa_length_le n h0 h1;unfold Lib.itoa at hl;rw [if_pos g] at hl;have e:(⟨#[45]⟩:ByteArray)=toB [45]:=rfl;have e2:Zc1 n.natAbs=Lib.decDigits n.natAbs:=by unfold Zc1;rw [if_neg (by omega)]
    rw [e,ZoR (by rw [ZdN,ZdN,e2];simp at hl ⊢;omega),Zlq];rfl
   rw [hc];unfold Lib.itoa Zc1;rw [if_pos g,if_neg (by omega)];rfl
  ·rw [if_neg (by simpa using g)];unfold Lib.itoa Zc1;rw [if_neg g,if_neg (by omega)]
   congr 3
   omega
def Zbt (c:UInt8):Bool:=decide (48<=c.toNat)&&decide (c.toNat<=57)
def val (a:Nat) (l:List UInt8):Nat:=l.foldl (fun a c=>a*10+(c.toNat-48)) a
theorem Zd3 (a:Nat):val a []=a:=by simp only [val,List.foldl_nil]
theorem ZbM (a:Nat) (c:UInt8) (r:List UInt8):val a (c::r)=val (a*10+(c.toNat-48)) r:=by simp only [val,List.foldl_cons]
theorem Zo0 (l:List UInt8) (c:UInt8) (a:Nat):val a (l++[c])=val a l*10+(c.toNat-48):=by
 simp only [val,List.foldl_append,List.foldl_cons,List.foldl_nil]
theorem Zoq:∀(l:List UInt8) (a:Nat),a<=val a l
 | [],a=>by rw [Zd3];exact Zwk _
 | c::r,a=>by rw [ZbM];have:=Zoq r (a*10+(c.toNat-48));omega
theorem Zop:∀(l:List UInt8) (a m:Nat),a<10^m->(∀c∈l,Zbt c=true)->val a l<10^(m+l.length)
 | [],a,m,h,_=>by rw [Zd3];simpa using h
 | c::r,a,m,h,hd=>by
  rw [ZbM];have hc:=hd c (by simp);simp only [Zbt,Zwj,decide_eq_true_eq] at hc;have:=Zop r (a*10+(c.toNat-48)) (m+1) (by rw [Nat.pow_succ];omega) (fun c hc=>hd c (by simp [hc]));rw [List.length_cons,show m+(r.length+1)=m+1+r.length by omega];exact this
theorem Zqn (u:Nat):(UInt8.ofNat (48+u%10)).toNat=48+u%10:=by
 rw [UInt8.toNat_ofNat'];omega
theorem ZeN (u:Nat):Lib.decDigits u=if u<10 then [UInt8.ofNat (48+u%10)] else Lib.decDigits (u/10)++[UInt8.ofNat (48+u%10)]:=by
 conv=>lhs;rw [Lib.decDigits]
 split
 ·rename_i h;rw [Nat.mod_eq_of_lt h]
 ·rfl
theorem Zmx (u:Nat):∀c∈Lib.decDigits u,Zbt c=true:=by
 induction u using Nat.strongRecOn with
 | _ u ih=>
  intro c hc;rw [ZeN] at hc
  have hlast:∀c,c=UInt8.ofNat (48+u%10)->Zbt c=true:=by
   rintro c rfl;simp only [Zbt,Zqn];simp;omega
  split at hc
  ·exact hlast c (by simpa using hc)
  ·rcases List.mem_append.1 hc with h| h
   ·exact ih (u/10) (by omega) c h
   ·exact hlast c (by simpa using h)
theorem ZoO (u:Nat):val 0 (Lib.decDigits u)=u:=by
 induction u using Nat.strongRecOn with
 | _ u ih=>
  rw [ZeN]
  split
  ·rw [ZbM,Zd3,Zqn];omega
  ·rw [Zo0,ih (u/10) (by omega),Zqn];omega
theorem Zsj (u:Nat):1<=(Lib.decDigits u).length:=by
 rw [ZeN];split<;>simp
theorem ZoP:∀(m u:Nat),u<10^(m+1)->(Lib.decDigits u).length<=m+1
 | 0,u,h=>by rw [ZeN,if_pos (by simpa using h)];simp
 | m+1,u,h=>by
  rw [ZeN]
  split
  ·simp
  ·have:=ZoP m (u/10) (by rw [Nat.pow_succ] at h;omega);simp;omega
theorem Zh4:∀(l:List UInt8) (a:Nat),(∀c∈l,Zbt c=true)->val a l<18446744073709551616->Lib.parseUint10 a l= .ok (val a l)
 | [],a,_,_=>by rw [Zd3];rfl
 | c::r,a,hd,hv=>by
  have hc:=hd c (by simp);simp only [Zbt,Zwj,decide_eq_true_eq] at hc;rw [ZbM] at hv ⊢;have h1:=Zoq r (a*10+(c.toNat-48));rw [Lib.parseUint10,if_pos hc,if_neg (by omega),if_neg (by omega)];exact Zh4 r _ (fun c hc=>hd c (by simp [hc])) hv
theorem ZmL (n:Int) (h:n.natAbs<1000000000000):Lib.atoiAll (Lib.itoa n)= .ok n:=by
 have hne:=Zsj n.natAbs;have hdg:=Zmx n.natAbs;have hvl:=ZoO n.natAbs
 by_cases hn:n<0
 ·have e:Lib.itoa n=45::Lib.decDigits n.natAbs:=by unfold Lib.itoa;rw [if_pos hn]
  rw [e];unfold Lib.atoiAll Lib.parseMag;have hnil:Lib.decDigits n.natAbs≠[]:=fun e=>by rw [e] at hne;simp at hne
  dsimp only;rw [if_pos (show (45:UInt8).toNat=43\/(45:UInt8).toNat=45 from .inr rfl),if_neg hnil,Zh4 _ _ hdg (by rw [hvl];omega),hvl];have h45:(45:UInt8).toNat=45:=rfl;simp only [h45];rw [if_neg (by omega),if_neg (by omega)];simp;omega
 ·have e:Lib.itoa n=Lib.decDigits n.natAbs:=by unfold Lib.itoa;rw [if_neg hn];congr 1;omega
  rw [e];cases hl:Lib.decDigits n.natAbs with
  | nil=>rw [hl] at hne;simp at hne
  | cons c r=>
   have hc:=hdg c (by rw [hl];simp);simp only [Zbt,Zwj,decide_eq_true_eq] at hc;unfold Lib.atoiAll Lib.parseMag;simp only [if_neg (show ¬(c.toNat=43\/c.toNat=45) by omega)];rw [if_neg (by simp),Zh4 _ _ (by rw [<-hl];exact hdg) (by rw [<-hl,hvl];omega),<-hl,hvl];simp only;rw [if_neg (by omega),if_neg (by omega),if_neg (by omega)]
   congr 1;omega
def ZjD (x:ByteArray):Option Int:=match Lib.atoiAll x.data.toList with
 | .ok n=>if toB (Lib.itoa n)=x then some n else none
 | _=>none
theorem ZlS (x:ByteArray) (lo hi:Int):XD x lo hi=match ZjD x with
  | some n=>if lo<=n/\n<=hi then (n,true) else (0,false)
  | none=>(0,false):=by
 unfold XD ZjD;cases Lib.atoiAll x.data.toList with
 | ok n=>
  simp only
  by_cases h:toB (Lib.itoa n)=x
  ·simp only [h,if_true];have h':(⟨(Lib.itoa n).toArray⟩:ByteArray)=x:=h;simp [h']
  ·simp only [h,if_false];have h':¬(⟨(Lib.itoa n).toArray⟩:ByteArray)=x:=h;simp [h']
 | «syntax» =>rfl
 | range=>rfl
def V2 (x:ByteArray):Int×Bool:=match ZjD x with
 | some n=>if n.natAbs<1000000000000 then (n,true) else (0,false)
 | none=>(0,false)
theorem Zjj (l:List UInt8):(toB l).data.toList=l:=by simp [toB]
theorem Zem {x:ByteArray} {n:Int} (h:ZjD x=some n):Lib.itoa n=x.data.toList:=by
 unfold ZjD at h
 split at h
 ·split at h
  ·rename_i e;cases h;rw [<-e,Zjj]
  ·cases h
 ·cases h
theorem ZpC {x:ByteArray} {n:Int} (hn:n.natAbs<1000000000000) (h:toB (Lib.itoa n)=x):ZjD x=some n:=by
 unfold ZjD;have:x.data.toList=Lib.itoa n:=by rw [<-h,Zjj]
 rw [this,ZmL n hn];simp [h]
theorem ZlN (t:ByteArray) (l:List UInt8) (hl:t.data.toList=l) (h12:l.length<=12):∀(m i a:Nat) (n:Nat),i+m=l.length->a<10^i->m<n->XI t n (a:Int) (i:Int)=some (if (l.drop i).all Zbt=true then .inl (val a (l.drop i):Int) else .inr (0,false)):=by
 have hsz:t.size=l.length:=by rw [<-hl,Array.length_toList];rfl
 intro m
 induction m with
 | zero=>
  intro i a n hi ha hn;obtain ⟨n,rfl⟩:∃n',n=n'+1:=⟨n-1,by omega⟩;have hd:l.drop i=[]:=List.drop_eq_nil_of_le (by omega);rw [XI,hd];simp [hsz,Zd3,show ¬((i:Int)<(l.length:Int)) by omega]
 | succ m ih=>
  intro i a n hi ha hn;obtain ⟨n,rfl⟩:∃n',n=n'+1:=⟨n-1,by omega⟩;have hlt:i<l.length:=by omega
  have hd:l.drop i=l[i]::l.drop (i+1):=List.drop_eq_getElem_cons hlt;have hat:at? t.data.toList (i:Int)=some l[i]:=by rw [hl];exact Yp hlt
  have hp:(10:Nat)^i<=10^11:=Nat.pow_le_pow_right (by omega) (by omega);rw [XI,hsz,if_pos (ZK hlt),hat,hd];simp only [Zwe];generalize l[i]=c;have hc8:c.toNat<256:=c.toNat_lt;cases hc:Zbt c with
  | false=>
   have hx:(if (decide ((c.toNat:Int)<48))=true then some true else some (decide (57<(c.toNat:Int))))=some true:=by
    simp only [Zbt,Bool.and_eq_false_iff,decide_eq_false_iff_not] at hc
    by_cases h1:(c.toNat:Int)<48
    ·simp [h1]
    ·simp only [h1,decide_false,Zwl,if_false,Zwh,decide_eq_true_eq];omega
   rw [hx];simp [hc]
  | true=>
   have hcd:=hc;simp only [Zbt,Zwj,decide_eq_true_eq] at hcd
   have hx:(if (decide ((c.toNat:Int)<48))=true then some true else some (decide (57<(c.toNat:Int))))=some false:=by
    simp only [show ¬((c.toNat:Int)<48) by omega,decide_false,Zwl,if_false,Zwh,decide_eq_false_iff_not];omega
   rw [hx];simp only [Zwe,Zwl,if_false]
   have e1:IntKind.u8.wrap ((c.toNat:Int)-48)=(c.toNat:Int)-48:=by
    unfold IntKind.wrap;simp [IntKind.bits,IntKind.signed];omega
   have hp2:(10:Nat)^11=100000000000:=by decide
   have e2:IntKind.i64.wrap (IntKind.i64.wrap (10*(a:Int))+IntKind.i64.wrap (IntKind.u8.wrap ((c.toNat:Int)-48)))=((a*10+(c.toNat-48):Nat):Int):=by
    rw [e1,w64 (n:=10*(a:Int)) (by omega) (by omega),w64 (n:=(c.toNat:Int)-48) (by omega) (by omega),w64 (by omega) (by omega)];omega
   rw [e2,wS i (by omega),ih (i+1) (a*10+(c.toNat-48)) n (by omega) (by rw [Nat.pow_succ];omega) (by omega)];simp [hc,ZbM]
theorem Zfq (n:Int):Lib.itoa n=if n<0 then 45::Lib.decDigits n.natAbs else Lib.decDigits n.natAbs:=by
 unfold Lib.itoa
 split
 ·rfl
 ·congr 1;omega
theorem Zrt (x:ByteArray) (hx:x.size<=1048576) {k:Nat} (hk:1000<k):ZbW k x 12=some (V2 x):=by
 have hsz:x.size=x.data.toList.length:=by rw [Array.length_toList];rfl
 have rep:∀n:Int,n.natAbs<1000000000000->ZjD x=some n->x.data.toList=(if n<0 then 45::Lib.decDigits n.natAbs else Lib.decDigits n.natAbs)/\(Lib.decDigits n.natAbs).length<=12:=fun n hn h=>by
  rw [<-Zfq];exact ⟨(Zem h).symm,ZoP 11 _ (by simpa using hn)⟩
 have no:(∀n:Int,n.natAbs<1000000000000->ZjD x≠some n)->V2 x=(0,false):=fun h=>by
  unfold V2;cases hv:ZjD x with
  | none=>rfl
  | some n=>
   simp only;rw [if_neg];intro hn;exact h n hn hv
 unfold ZbW
 obtain ⟨below,hbelow,hb2⟩:∃below:Bool,(if (decide (0<(x.size:Int)))=true then (at? x.data.toList 0).bind fun x2=>some (decide ((x2.toNat:Int)=45)) else some false)=some below/\(below=true↔∃r,x.data.toList=45::r):=by
  cases hl:x.data.toList with
  | nil=>exact ⟨false,by rw [hsz,hl];simp,by simp⟩
  | cons c r=>
   refine ⟨decide ((c.toNat:Int)=45),by rw [hsz,hl];simp [at?], ?_⟩;simp only [decide_eq_true_eq,List.cons.injEq,exists_and_left,exists_eq',and_true];constructor
   ·intro h;exact UInt8.toNat_inj.1 (by show c.toNat=45;omega)
   ·rintro rfl;rfl
 rw [hbelow];simp only [Zwe]
 obtain ⟨t,ht,htl⟩:∃t:ByteArray,(if below=true then (Uj x 1 (x.size:Int)).bind fun x4=>some x4 else some x)=some t/\x.data.toList=(if below=true then 45::t.data.toList else t.data.toList):=by
  cases below with
  | false=>exact ⟨x,rfl,rfl⟩
  | true=>
   obtain ⟨r,hr⟩:=hb2.1 rfl;have h1:1<=x.size:=by rw [hsz,hr];simp
   refine ⟨x.extract 1 x.size, ?_, ?_⟩
   ·simp only [if_true];unfold Uj;rw [if_pos ⟨by omega,by omega,by omega⟩];rfl
   ·simp only [if_true,ByteArray.data_extract,Array.toList_extract,List.extract_eq_take_drop];rw [hr];simp [hsz,hr]
 rw [ht];simp only [Zwe];have hts:t.size=t.data.toList.length:=by rw [Array.length_toList];rfl
 have dig:∀n:Int,n.natAbs<1000000000000->ZjD x=some n->t.data.toList=Lib.decDigits n.natAbs/\(below=true↔n<0):=by
  intro n hn h;obtain ⟨h1,h2⟩:=rep n hn h
  by_cases hneg:n<0
  ·rw [if_pos hneg] at h1;have hb:below=true:=hb2.2 ⟨_,h1⟩;rw [htl,hb] at h1;simp only [if_true,List.cons.injEq,true_and] at h1;exact ⟨h1,by simp [hb,hneg]⟩
  ·rw [if_neg hneg] at h1
   have hb:below=false:=by
    cases hbb:below with
    | false=>rfl
    | true=>
     obtain ⟨r,hr⟩:=hb2.1 hbb;have:=Zmx n.natAbs 45 (by rw [<-h1,hr];simp);simp [Zbt] at this
   rw [htl,hb] at h1;exact ⟨by simpa using h1,by simp [hb,hneg]⟩
 by_cases hlen:t.data.toList.length<1\/12<t.data.toList.length
 ·have e:(if (decide ((t.size:Int)<1))=true then some true else some (decide ((12:Int)<(t.size:Int))))=some true:=by
   rw [hts]
   by_cases h1:t.data.toList.length<1
   ·rw [if_pos (decide_eq_true (by omega))]
   ·rw [if_neg (by rw [decide_eq_true_eq];omega),decide_eq_true (by omega)]
  rw [e];simp only [Zwe,if_true];rw [no];intro n hn hv;obtain ⟨h1,_⟩:=dig n hn hv;have h2:=Zsj n.natAbs;have h3:=(rep n hn hv).2;rw [h1] at hlen;omega
 ·have e:(if (decide ((t.size:Int)<1))=true then some true else some (decide ((12:Int)<(t.size:Int))))=some false:=by
   rw [hts];simp only [show ¬((t.data.toList.length:Int)<1) by omega,decide_false,Zwl,if_false,Zwh,decide_eq_false_iff_not];omega
  rw [e];simp only [Zwe,Zwl,if_false];have hloop:=ZlN t _ rfl (by omega) t.data.toList.length 0 0 k (by omega) (by decide) (by omega);rw [show ((0:Nat):Int)=0 from rfl] at hloop;rw [hloop,List.drop_zero];cases hall:t.data.toList.all Zbt with
  | false=>
   simp only [Zwl,if_false,Zwe];rw [no];intro n hn hv;obtain ⟨h1,_⟩:=dig n hn hv;have:t.data.toList.all Zbt=true:=by rw [h1];exact List.all_eq_true.2 (Zmx n.natAbs)
   rw [hall] at this;cases this
  | true=>
   simp only [if_true,Zwe];have hv:=Zop t.data.toList 0 0 (by decide) (List.all_eq_true.1 hall);have hp:(10:Nat)^(0+t.data.toList.length)<=10^12:=Nat.pow_le_pow_right (by omega) (by omega);have hp2:(10:Nat)^12=1000000000000:=by decide
   generalize hvv:val 0 t.data.toList=v at hv
   obtain ⟨n,hn,hna,hns⟩:∃n:Int,(if below=true then some (IntKind.i64.wrap (0-(v:Int))) else some (v:Int))=some n/\n.natAbs=v/\n=(if below=true then-(v:Int) else (v:Int)):=by
    cases below with
    | false=>exact ⟨v,rfl,by simp,rfl⟩
    | true=>exact ⟨-(v:Int),by simp only [if_true];rw [w64 (by omega) (by omega)];simp,by simp,rfl⟩
   rw [hn];simp only [Zwe];rw [Ztl n (by omega) (by omega) (by omega)];simp only [Zwe]
   by_cases he:toB (Lib.itoa n)=x
   ·have:ZjD x=some n:=ZpC (by omega) he;simp only [he,decide_true,Bool.not_true,Zwl,if_false];unfold V2;rw [this];simp only;rw [if_pos (by omega)]
   ·simp only [he,decide_false,Bool.not_false,if_true];rw [no];intro m hm hmv;obtain ⟨h1,h2⟩:=dig m hm hmv;have h3:v=m.natAbs:=by rw [<-hvv,h1,ZoO]
    have h4:n=m:=by
     rw [hns]
     by_cases hb:below=true
     ·rw [if_pos hb];have:=h2.1 hb;omega
     ·rw [if_neg hb];have:¬m<0:=fun h=>hb (h2.2 h);omega
    apply he;rw [h4,Zem hmv];apply ByteArray.ext;simp [toB]
theorem Zei (x:ByteArray) (hx:x.size<=1048576) {k:Nat} (hk:1000<k):WB k x=some (V2 x):=by
 unfold WB;rw [Zrt x hx hk];rfl
theorem Zfm (x:ByteArray) (lo hi:Int) (h1: -999999999999<=lo) (h2:hi<=999999999999):XD x lo hi=if (V2 x).2=true/\lo<=(V2 x).1/\(V2 x).1<=hi then ((V2 x).1,true) else (0,false):=by
 rw [ZlS];unfold V2;cases ZjD x with
 | none=>simp
 | some n=>
  simp only
  by_cases hn:n.natAbs<1000000000000
  ·simp [hn]
  ·rw [if_neg hn,if_neg (by omega)];simp
end Go.Proofs.YtbkllghhcphkaaaGreatDoor
