import Derived.Test.YtmcfegjoccgpoaaGreatDoorZJ12
set_option linter.unusedSimpArgs false
set_option linter.unusedVariables false
namespace Go.Proofs.YtmcfegjoccgpoaaGreatDoor
open Go.RowKit Am
theorem Zwm {j:List Zl} (hl:j.length<=1048576) {U:Int->List Int} (h:GU j U):Ev λk=>US k j=some ((List.range j.length).map λ(i:Nat)=>U (i:Int)):=by
 refine (h.ev.and (Ev.ge (j.length+1))).mono λk ⟨m,o⟩=> ?_;unfold US
 have:=ZhR (λn (s:List (List Int)) i=>Q2 k j n s i) (λi:Nat=>(List.range i).map λ(i:Nat)=>U (i:Int)) (some ((List.range j.length).map λ(i:Nat)=>U (i:Int))) j.length
  (λn i l=>by
   try simp only
   rw [Q2,if_pos (ZL l),(m i).1,ZEH,Wa (by simp;omega) WF,ZEH,wS i WF,List.range_succ,GD]
   rfl)
  (λn=>by
   try simp only
   rw [Q2,if_neg (Qg (ZEN _))]) (k:=k) WF
 rw [show Q2 k j k [] 0=_ from this];rfl
theorem ZsS {n:Nat} (U:Int->List Int) {x:Int} (j:0<=x) (k:x<n):at? ((List.range n).map λ(i:Nat)=>U (i:Int)) x=some (U x):=by
 obtain ⟨m,rfl⟩:=Int.eq_ofNat_of_zero_le j;rw [Zkp,HX,GK WF];rfl
theorem Zuh {n:Nat} (M:n<=1048576) {U:Int->List Int} (G:∀i,(U i).Nodup) (A:∀i,∀z∈U i,0<=z/\z<n) (cb:Nat->Bool) (w:∀i,i<n->(cb i=true↔Reach U i i)):Ev λk=>WB k ((List.range n).map λ(i:Nat)=>U (i:Int))=some ((List.range n).map cb):=by
 have J:∀i,i<n->∃r:List Int,(r.length<=n/\∀z,z∈r↔Reach U i z)/\Ev λk=>Qu k ((List.range n).map λ(i:Nat)=>U (i:Int)) k (U (i:Int)) 0=some r:=λi o=>
  bfs M G A i (λk=>Qu k ((List.range n).map λ(i:Nat)=>U (i:Int))) (λk v=>Wi k v) (λk x=>at? ((List.range n).map λ(i:Nat)=>U (i:Int)) x) (λx I t=>⟨U x,rfl,Ev.of λk=>ZsS U I t⟩) (λk m l j=>by rw [Qu]) (λk v m l j=>by rw [Wi])
 obtain ⟨f,hf⟩:=YI (p:=λ(i:Nat) (r:List Int)=>(r.length<=n/\∀z,z∈r↔Reach U i z)/\Ev λk=>Qu k ((List.range n).map λ(i:Nat)=>U (i:Int)) k (U (i:Int)) 0=some r) (List.range n) λi o=>J i (HN.1 o);refine ((Ev.all (List.range n) λi o=>(hf i o).2).and (Ev.ge (n+1))).mono λk ⟨t,O⟩=> ?_;have hl:((List.range n).map λ(i:Nat)=>U (i:Int)).length=n:=Ha
 unfold WB;rw [hl,Zty WF WF,ZEH]
 have:=ZhR (λm (s:List Bool) i=>Qv k ((List.range n).map λ(i:Nat)=>U (i:Int)) m s i) (λi=>(List.range i).map cb++List.replicate (n-i) false) (some ((List.range n).map cb)) n
  (λm i o=>by
   have p:i∈List.range n:=HN.2 o;have B:(U (i:Int)).length<=n:=XA (G i) (A i);have C:=hf i p
   have hd:decide ((i:Int)∈f i)=cb i:=by
    rw [Bool.eq_iff_iff,decide_eq_true_eq,C.1.2,w i o]
   try simp only
   rw [Qv,hl,if_pos (ZL o),ZsS U WF WF,ZEH,Wa (by simp;omega) WF,ZEH,Hs,t i p,ZEH,Zeq _ _ WF (show (f i).length<k by have:=C.1.1;omega),ZEH,ZQ (show i<((List.range i).map cb++List.replicate (n-i) false).length by simp;omega),ZEH,hd,wS i WF]
   have:((List.range i).map cb++List.replicate (n-i) false).set (i:Int).toNat (cb i)=(List.range (i+1)).map cb++List.replicate (n-(i+1)) false:=by
    rw [Gb,GS _ _ Ha,List.range_succ,GD,Hx]
    congr 1
    rw [show n-i=(n-(i+1))+1 from WF,List.replicate_succ];simp
   rw [this])
  (λm=>by
   try simp only
   rw [Qv,hl,if_neg (Qg (ZEN _))];simp) (k:=k) WF
 rw [show Qv k ((List.range n).map λ(i:Nat)=>U (i:Int)) k (List.replicate n false) 0=_ by simpa using this];rfl
structure Zv9 (ps:List Zl) (U:Int->List Int) (run:Nat->Bool):Prop where
 nocyc:∀i,i<ps.length->run i=true->¬Reach U i i
 knd:∀i (h:i<ps.length),run i=true->ps[i].kind=2\/ps[i].kind=3
 evI:Ev λk=>∀i,i<ps.length->Q9 k ps (i:Int)=some (run i)
 evS:Ev λk=>∃cyc,WB k ((List.range ps.length).map λ(i:Nat)=>U (i:Int))=some cyc/\Q1 k ps cyc k (List.replicate ps.length false) 0 0=some ((List.range ps.length).map run,(((List.range ps.length).filter run).length:Int))
theorem Zxk {l:List Zl} (hl:l.length<=1048576) {U:Int->List Int} (h:GU l U):∃j,Zv9 l U j:=by
 obtain ⟨Q,Z⟩:=YI (p:=λ(i:Nat) (b:Bool)=>Ev λk=>Qm k l (i:Int)=some b/\Y4 k l (i:Int)=some b) (List.range l.length) λi _=>ZwL l hl i;obtain ⟨z,B⟩:=YI (p:=λ(i:Nat) (b:Bool)=>(b=true↔Reach U i i)/\Ev λk=>Zgy k l (i:Int)=some b/\Uw k l (i:Int)=some b) (List.range l.length) λi _=>Zui hl h i;have M:∀{i},i<l.length->i∈List.range l.length:=λh=>HN.2 h;have G:=Ev.all (List.range l.length) λi o=>Z i o;have X:=Ev.all (List.range l.length) λi o=>(B i o).2;have Y:=Zuh hl (λi=>ZbG (h.asc i)) h.bd z λi o=>(B i (M o)).1
 let kd:Nat->Bool:=λi=>match l[i]? with | some p=>decide (p.kind=2)||decide (p.kind=3)| none=>false
 let j:Nat->Bool:=λi=>kd i&&!Q i&&!z i
 have C:∀i (h:i<l.length),kd i=(decide (l[i].kind=2)||decide (l[i].kind=3)):=λi h=>by simp only [kd,ZEP h]
 refine ⟨j,λi o A g=> ?_,λi o A=> ?_,(G.and X).mono λk ⟨S,W⟩ i o=> ?_,(G.and (Y.and (Ev.ge (l.length+1)))).mono λk ⟨S,W,hk⟩=>⟨_,W, ?_⟩⟩
 ·have:=(B i (M o)).1.2 g;simp only [j,this] at A;simp at A
 ·simp only [j,C i o,ZEM,Gv,decide_eq_true_eq] at A;exact A.1.1
 ·obtain ⟨_,d2⟩:=S i (M o);obtain ⟨_,c2⟩:=W i (M o);unfold Q9;rw [decide_eq_true (show (0:Int)<=(i:Int) from WF),decide_eq_true (show (i:Int)<(l.length:Int) from WF),ZQ o,d2,c2];simp only [if_true,ZEH,j,C i o];cases decide (l[i].kind=2)<;>cases decide (l[i].kind=3)<;>cases Q i<;>cases z i<;>rfl
 ·have:=ZhR (λm (s:List Bool×Int) i=>Q1 k l ((List.range l.length).map z) m s.1 s.2 i) (λi=>((List.range i).map j++List.replicate (l.length-i) false,(((List.range i).filter j).length:Int))) (some ((List.range l.length).map j,(((List.range l.length).filter j).length:Int))) l.length
   (λm i o=>by
    obtain ⟨d1,_⟩:=S i (M o);have b0:i<((List.range i).map j++List.replicate (l.length-i) false).length:=by simp;omega
    have J:∀b:Bool,((List.range i).map j++List.replicate (l.length-i) false).set (i:Int).toNat b=(List.range i).map j++b::List.replicate (l.length-(i+1)) false:=λb=>by
     rw [Gb,GS _ _ Ha]
     congr 1
     rw [show l.length-i=(l.length-(i+1))+1 from WF,List.replicate_succ];simp
    have r:∀b:Bool,at? ((List.range i).map j++b::List.replicate (l.length-(i+1)) false) (i:Int)=some b:=λb=>by
     rw [Zkp,Ge Ha];simp
    have b1:((List.range i).filter j).length<=i:=by have:=GW j (List.range i);simpa using this
    have I:at? ((List.range l.length).map z) (i:Int)=some (z i):=by rw [Zkp,HX,GK o];rfl
    have hw:GZ ((((List.range i).filter j).length:Int)+1)=((((List.range i).filter j).length+1:Nat):Int):=wS _ WF
    have w:∀b:Bool,b=j i->(if b=true then some ((List.range i).map j++b::List.replicate (l.length-(i+1)) false,GZ ((((List.range i).filter j).length:Int)+1)) else some ((List.range i).map j++b::List.replicate (l.length-(i+1)) false,(((List.range i).filter j).length:Int)):Option (List Bool×Int))=some ((List.range (i+1)).map j++List.replicate (l.length-(i+1)) false,(((List.range (i+1)).filter j).length:Int)):=λb hb=>by
     rw [List.range_succ,GD,List.filter_append,hw];cases A:j i<;>rw [A] at hb<;>subst hb<;>simp [A]
    try simp only
    rw [Q1,if_pos (ZL o),I,ZQ o,ZQ b0,d1,wS i WF];simp only [ZEH,J,r];have t:j i=((decide (l[i].kind=2)||decide (l[i].kind=3))&&!Q i&&!z i):=by simp only [j,C i o]
    cases R:z i
    ·cases hd:Q i
     ·cases h2:decide (l[i].kind=2)
      ·simp only [HK,if_true,ZEO,if_false,ZEH,r];rw [w _ (by rw [t,R,hd,h2];simp),ZEH]
      ·simp only [HK,if_true,ZEH,r];have q:=w true (by rw [t,R,hd,h2];simp);rw [if_pos rfl] at q;obtain ⟨O,P⟩:=Prod.mk.inj (ZEI q);rw [O,P]
     ·simp only [HK,Hr,if_true,ZEO,if_false,ZEH,r];have q:=w false (by rw [t,R,hd];simp);rw [if_neg Ha] at q;obtain ⟨O,P⟩:=Prod.mk.inj (ZEI q);rw [O,P]
    ·simp only [Hr,ZEO,if_false,ZEH,r];have q:=w false (by rw [t,R];simp);rw [if_neg Ha] at q;obtain ⟨O,P⟩:=Prod.mk.inj (ZEI q);rw [O,P])
   (λm=>by
    try simp only
    rw [Q1,if_neg (Qg (ZEN _))];simp) (k:=k) WF
  simpa using this
def ZiV (U:Int->List Int) (k:Nat->Bool) (o:List Int) (i:Nat):Bool:=k i&&!decide ((i:Int)∈o)&&!(U (i:Int)).any λj=>k j.toNat&&!decide (j∈o)
theorem Zxo {U:Int->List Int} {n:Nat} (p:∀i,∀z∈U i,0<=z/\z<n) (w:∀i,(U i).Nodup) (I:n<=1048576) (l:Nat->Bool) (o:List Int) (i:Int) (ho:o.length<=n) {k:Nat} (G:n<k):Kg k o (U i) ((List.range n).map l)=some (!(U i).any λj=>l j.toNat&&!decide (j∈o)):=by
 have r:(U i).length<=n:=XA (w i) (p i);unfold Kg
 rw [Qi (U i) (λj=>l j.toNat&&!decide (j∈o)) (λx=>(at? ((List.range n).map l) x).bind λA=>if A=true then (YG k o x).bind λB=>some (!B) else some false) false () (W5 k o (U i) ((List.range n).map l))
  (λx t=>by
   obtain ⟨s,C⟩:=p i x t;obtain ⟨m,rfl⟩:=Int.eq_ofNat_of_zero_le s;rw [Zkp,HX,GK WF,Zeq o _ WF WF];simp only [Gk,ZEH,Gb];cases l m<;>rfl)
  (λm j=>by rw [W5];simp only [HB]) WF WF]
 cases (U i).any λj=>l j.toNat&&!decide (j∈o)<;>rfl
theorem Zyy (xs o:List Int) (p:xs.length<=4294967296) (ho:o.length<=4294967296) {k:Nat} (s:xs.length<k) (l:o.length<k):ZmB k xs o=some (!xs.any λj=>!decide (j∈o)):=by
 unfold ZmB
 rw [Qi xs (λj=>!decide (j∈o)) (λx=>(Ut k o x).bind λr=>some (!r)) false () (Zev k xs o)
  (λx p=>by rw [Zb6 o _ WF WF];rfl)
  (λm j=>by rw [Zev];simp only [HB,ZEH]) WF WF]
 cases xs.any λj=>!decide (j∈o)<;>rfl
theorem Ztc {o:List Zl} {U:Int->List Int} (h:GU o U) (hl:o.length<=1048576) (l:Nat->Bool) {k:Nat} (G:o.length<k) (w:∀i,YY k o i=some (U i)) (z:∀i,i<o.length->Q9 k o (i:Int)=some (l i)) (i:Int):Jq k o i=some ((U i).filter λj=>l j.toNat):=by
 have r:=h.len i;unfold Jq;rw [w,ZEH]
 have:=ZhR (λm (s:List Int) j=>QC k o (U i) m s j) (λj=>((U i).take j).filter λj=>l j.toNat) (some ((U i).filter λj=>l j.toNat)) (U i).length
  (λm j hj=>by
   obtain ⟨B,C⟩:=h.bd i _ (Hl hj);have t:=z (U i)[j].toNat WF;rw [show (((U i)[j].toNat:Nat):Int)=(U i)[j] from WF] at t
   have A:(((U i).take j).filter λj=>l j.toNat).length<=j:=by
    have:=GW (λj:Int=>l j.toNat) ((U i).take j);rw [Hg] at this;omega
   try simp only
   rw [QC,if_pos (ZL hj),ZQ hj,ZEH,t,ZEH,Wa (by simp;omega) WF,wS j WF,Gm hj,List.filter_append];cases p:l (U i)[j].toNat<;>simp [p])
  (λm=>by
   try simp only
   rw [QC,if_neg (Qg (ZEN _)),Gh]) (k:=k) WF
 rw [show QC k o (U i) k [] 0=_ by simpa using this];rfl
theorem ZwP {l:List Zl} {U:Int->List Int} (h:GU l U) (hl:l.length<=1048576) (p:Nat->Bool) {k:Nat} (A:l.length<k) (C:∀i,YY k l i=some (U i)) (w:∀i,i<l.length->Q9 k l (i:Int)=some (p i)) (o:List Int) (ho:o.length<=l.length):X1 k l o k 0=some (((List.range l.length).findIdx (ZiV U p o):Nat):Int):=by
 have z:∀i,i<l.length->((Ut k o (i:Int)).bind λI=>if I=true then some true else (Q9 k l (i:Int)).bind λJ=>if (!J)=true then some true else (Jq k l (i:Int)).bind λM=>(ZmB k M o).bind λO=>some (!O))=some (!ZiV U p o i):=λi t=>by
  have B:=h.len (i:Int);have G:=GW (λj:Int=>p j.toNat) (U (i:Int));rw [Zb6 o _ WF WF,w i t,Ztc h hl p A C w];simp only [ZEH];rw [Zyy _ o WF WF WF WF,List.any_filter];unfold ZiV;cases decide ((i:Int)∈o)<;>cases p i<;>simp
 rw [Zd3 (List.range l.length) (ZiV U p o) (X1 k l o) (λi=>some (i:Int)) (some (l.length:Int))
  (λm i t s=>by
   have r:i<l.length:=by simpa using t
   rw [List.getElem_range] at s;rw [X1,if_pos (ZL r),z i r,s,wS i WF];rfl)
  (λm i t s=>by
   have r:i<l.length:=by simpa using t
   rw [List.getElem_range] at s;rw [X1,if_pos (ZL r),z i r,s];rfl)
  (λm=>by
   rw [GO,X1,if_neg (Qg (ZEN _))];rfl) (by simpa using A)]
 have:=List.findIdx_le_length (xs:=List.range l.length) (p:=ZiV U p o)
 split
 ·rfl
 ·rename_i s;simp only [GO] at s this;rw [show (List.range l.length).findIdx (ZiV U p o)=l.length from WF]
theorem ZAw {U:Int->List Int} {l:List Zl} (h:GU l U) (hl:l.length<=1048576) (j:Nat->Bool) {k:Nat} (C:l.length<k) (c:List Int->Option (List Int)) (o:List Int) (ho:o.length<=l.length):Qj c k l ((List.range l.length).map λ(i:Nat)=>U (i:Int)) ((List.range l.length).map j) o k 0=if (List.range l.length).findIdx (ZiV U j o)<l.length then c (o++[(((List.range l.length).findIdx (ZiV U j o):Nat):Int)]) else c o:=by
 have B:∀i,i<l.length->((at? ((List.range l.length).map j) (i:Int)).bind λt=>if t=true then (YG k o (i:Int)).bind λw=>if (!w)=true then (at? ((List.range l.length).map λ(i:Nat)=>U (i:Int)) (i:Int)).bind λz=>(Kg k o z ((List.range l.length).map j)).bind λA=>some A else some false else some false)=some (ZiV U j o i):=λi s=>by
  rw [show at? ((List.range l.length).map j) (i:Int)=some (j i) by rw [Zkp,HX,GK s];rfl,Zeq o _ WF WF,ZsS U WF WF];simp only [ZEH];rw [Zxo h.bd (λi=>ZbG (h.asc i)) hl j o _ ho C];unfold ZiV;cases decide ((i:Int)∈o)<;>cases j i<;>simp
 have:=Zd3 (List.range l.length) (ZiV U j o) (Qj c k l ((List.range l.length).map λ(i:Nat)=>U (i:Int)) ((List.range l.length).map j) o) (λi=>c (o++[(i:Int)])) (c o)
  (λm i s r=>by
   have p:i<l.length:=by simpa using s
   rw [List.getElem_range] at r;rw [Qj,if_pos (ZL p),B i p,r,wS i WF];rfl)
  (λm i s r=>by
   have p:i<l.length:=by simpa using s
   rw [List.getElem_range] at r;rw [Qj,if_pos (ZL p),B i p,r];simp only [ZEH,if_true];rw [Wa (by simp;omega) WF];rfl)
  (λm=>by
   rw [GO,Qj,if_neg (Qg (ZEN _))]) (k:=k) (by simpa using C)
 rw [this,GO]
def ZyC (U:Int->List Int) (k:Nat->Bool) (r:List Int):Prop:=∀i (h:i<r.length),∀j∈U r[i],k j.toNat=true->j∈r.take i
theorem ZyC.snoc {U:Int->List Int} {k:Nat->Bool} {o:List Int} {x:Int} (h:ZyC U k o) (p:∀j∈U x,k j.toNat=true->j∈o):ZyC U k (o++[x]):=by
 intro i m j hj l;rw [Hp,List.length_singleton] at m
 by_cases g:i<o.length
 ·rw [List.getElem_append_left g] at hj;rw [List.take_append_of_le_length WF];exact h i g j hj l
 ·obtain rfl:i=o.length:=by omega
  rw [List.getElem_append_right (ZEN _)] at hj;simp only [Gz,List.getElem_cons_zero] at hj;rw [List.take_append_of_le_length (ZEN _),Gh];exact p j hj l
theorem ZzE {p:List Zl} (hl:p.length<=1048576) {U:Int->List Int} (h:GU p U) {l:Nat->Bool} (hr:Zv9 p U l):∀(d:Nat) (o:List Int),o.Nodup->(∀x∈o,(0<=x/\x<p.length)/\l x.toNat=true)->ZyC U l o->o.length+d=((List.range p.length).filter l).length->
  ∃r:List Int,((r.Nodup/\∀x∈r,(0<=x/\x<p.length)/\l x.toNat=true)/\ZyC U l r/\∀i,i<p.length->l i=true->(i:Int)∈r)/\∀k,p.length<k->(∀i,YY k p i=some (U i))->(∀i,i<p.length->Q9 k p (i:Int)=some (l i))->∀m,d<m->
   XU k p ((List.range p.length).map λ(i:Nat)=>U (i:Int)) ((List.range p.length).map l) (((List.range p.length).filter l).length:Int) m o=some r/\Uv k p m o=some r:=by
 intro d
 induction d with
 | zero=>
  intro o ho J B R
  have s:∀i,i<p.length->l i=true->(i:Int)∈o:=λi I C=>by
   refine Classical.byContradiction λw=> ?_
   have M:=ZgI (l:=o++[(i:Int)]) (m:=((List.range p.length).filter l).map λ(i:Nat)=>(i:Int)) (Zbf ho w) λz hz=>by
    rcases He.1 hz with g| g
    ·obtain ⟨⟨b0,b1⟩,b2⟩:=J z g;exact Hd.2 ⟨z.toNat,HU.2 ⟨HN.2 WF,b2⟩,WF⟩
    ·rw [Hu] at g;exact Hd.2 ⟨i,HU.2 ⟨HN.2 I,C⟩,g.symm⟩
   rw [Hp,HO,List.length_singleton] at M;omega
  refine ⟨o,⟨⟨ho,J⟩,B,s⟩,λk Q Y Z m b6=> ?_⟩;obtain ⟨m,rfl⟩:∃q,m=q+1:=⟨m-1,WF⟩;have A:o.length<=p.length:=XA ho λx G=>(J x G).1
  have w:(List.range p.length).findIdx (ZiV U l o)=p.length:=by
   have:=List.findIdx_eq_length (xs:=List.range p.length) (p:=ZiV U l o);rw [GO] at this;refine this.2 λi I=> ?_;have b4:=HN.1 I;unfold ZiV;cases C:l i
   ·simp
   ·simp [s i b4 C]
  constructor
  ·rw [XU,if_neg (by simp;omega)]
  ·rw [Uv,ZwP h hl l Q Y Z o A,w];simp
 | succ d ih=>
  intro o ho J B R;have A:o.length<=p.length:=XA ho λx G=>(J x G).1
  have S:(List.range p.length).findIdx (ZiV U l o)<p.length:=by
   refine Classical.byContradiction λw=> ?_
   have W:∀i,i<p.length->ZiV U l o i=false:=λi I=>by
    have:=List.not_of_lt_findIdx (xs:=List.range p.length) (p:=ZiV U l o) (i:=i) WF
    simpa using this
   have b7:∃x:Int,(0<=x/\x<p.length)/\l x.toNat=true/\x∉o:=by
    refine Classical.byContradiction λs=> ?_
    have M:=ZgI (l:=((List.range p.length).filter l).map λ(i:Nat)=>(i:Int)) (m:=o) (by
     rw [List.Nodup,List.pairwise_map];exact List.Pairwise.imp (λ{a b} b3 e=>b3 WF) (List.Pairwise.filter _ List.nodup_range)) λz hz=>by
     obtain ⟨i,I,rfl⟩:=Hd.1 hz;obtain ⟨P,b5⟩:=HU.1 I;have P:=HN.1 P;refine Classical.byContradiction λg=>s ⟨(i:Int),⟨WF,WF⟩,by simpa using b5,g⟩
    rw [HO] at M;omega
   obtain ⟨x,⟨x1,x2,x3⟩,G⟩:=ZvW (U:=U) (n:=p.length) (S:=λx=>(0<=x/\x<p.length)/\l x.toNat=true/\x∉o) (λx h=>h.1) b7 λx ⟨⟨x0,x1⟩,x2,x3⟩=>by
    have t:=W x.toNat WF;unfold ZiV at t;rw [show ((x.toNat:Nat):Int)=x from WF,x2,decide_eq_false x3] at t;simp only [HK,Gt,Bool.and_true,Bool.not_eq_false'] at t;obtain ⟨y,hy,X⟩:=GQ.1 t;simp only [ZEM,Ga,decide_eq_false_iff_not] at X;exact ⟨y,hy,h.bd _ _ hy,X⟩
   have:=hr.nocyc x.toNat WF x2;rw [show ((x.toNat:Nat):Int)=x from WF] at this;exact this G
  have t:ZiV U l o ((List.range p.length).findIdx (ZiV U l o))=true:=by
   have:=List.findIdx_getElem (xs:=List.range p.length) (p:=ZiV U l o) (w:=by rw [GO];exact S)
   rwa [List.getElem_range] at this
  have O:l ((List.range p.length).findIdx (ZiV U l o))=true/\(((List.range p.length).findIdx (ZiV U l o):Nat):Int)∉o:=by
   unfold ZiV at t;simp only [ZEM,Ga,decide_eq_false_iff_not] at t;exact t.1
  obtain ⟨r,M,h4⟩:=ih (o++[(((List.range p.length).findIdx (ZiV U l o):Nat):Int)]) (Zbf ho O.2) (λx G=>by
   rcases He.1 G with g| g
   ·exact J x g
   ·rw [Hu] at g;subst g;exact ⟨⟨WF,WF⟩,by simpa using O.1⟩) (B.snoc λj hj b8=>by
    unfold ZiV at t;simp only [ZEM,Ga] at t;refine Classical.byContradiction λhn=> ?_;have:=GN.1 t.2 j hj;simp [b8,hn] at this) (by simp;omega)
  refine ⟨r,M,λk Q Y Z m b6=> ?_⟩;obtain ⟨m,rfl⟩:∃q,m=q+1:=⟨m-1,WF⟩;obtain ⟨q1,q2⟩:=h4 k Q Y Z m WF;constructor
  ·rw [XU,if_pos (by simp;omega),ZAw h hl l Q _ o A,if_pos S];exact q1
  ·rw [Uv,ZwP h hl l Q Y Z o A,ZEH,if_neg (by simp;omega),Wa (by simp;omega) WF];exact q2
theorem Ztp {l:List Zl} (hl:l.length<=1048576) {U:Int->List Int} (h:GU l U) {j:Nat->Bool} (m:Zv9 l U j):∃r:List Int,((r.Nodup/\∀x∈r,(0<=x/\x<l.length)/\j x.toNat=true)/\ZyC U j r/\∀i,i<l.length->j i=true->(i:Int)∈r)/\Ev λk=>ZhB k l=some r/\Zlt k l=some r:=by
 obtain ⟨r,B,C⟩:=ZzE hl h m ((List.range l.length).filter j).length [] Ha Ha (λi h=>absurd h Ha) Ha;refine ⟨r,B,((Zwm hl h).and (m.evS.and (m.evI.and (h.ev.and (Ev.ge (l.length+1)))))).mono λk ⟨s,⟨p,t,w⟩,z,A,J⟩=> ?_⟩;have o:((List.range l.length).filter j).length<=l.length:=by have:=GW j (List.range l.length);simpa using this
 obtain ⟨G,I⟩:=C k WF (λi=>(A i).2) z k WF;constructor
 ·unfold ZhB Kh;rw [s,ZEH,t,ZEH,Zty WF WF,ZEH,w];simp only [ZEH,G]
 ·unfold Zlt;exact I
def Ev2 (p:Nat->Nat->Prop):Prop:=∃B,∀k n,B<=k->B<=n->p k n
theorem Ev2.of {p:Nat->Nat->Prop} (h:∀k n,p k (n+1)):Ev2 p:=⟨1,λk n _ j=>by cases n with | zero=>omega| succ n=>exact h k n⟩
structure ZiW (T:List Zj) (E:Int):Prop where
 nm:∀t∈T,t.kind=1->∃c r,t.text.data.toList=c::r/\Zm3 c=true
 sy:∀t∈T,t.kind=4->∃c r,t.text.data.toList=c::r/\Zm3 c=false
 at_:∀t∈T,0<=t.at_
 tx:∀t∈T,t.text.size<=120
 en:0<=E
 len:T.length<=60
def ZuN (T:List Zj) (E:Int) (b:Nat):Int:=match T[b]? with
 | some t=>t.at_
 | none=>E
theorem ZqH {T:List Zj} {E:Int} (ok:ZiW T E) (b:Nat):0<=ZuN T E b:=by
 unfold ZuN
 split
 ·rename_i t h;exact ok.at_ t (Gg h)
 ·exact ok.en
def Rl (T:List Zj) (E:Int) (x:Zd) (p:Zf):Option Nat->Prop
 | some j=>j<=T.length/\x=⟨T,j,E, -1⟩/\p=⟨T,j, -1⟩
 | none=>∃b:Nat,b<=T.length/\x.toks=T/\x.end_=E/\p.list=T/\p.bad=b/\x.bad=ZuN T E b
def adS (x:Zd):Zd:=⟨x.toks,GZ (x.i+1),x.end_,x.bad⟩
def adI (p:Zf):Zf:=⟨p.list,GZ (p.at_+1),p.bad⟩
def Zel (t:Zj) (s:Ma):Bool:=decide (t.kind=4)&&decide (t.text=s)
def Zm4 (t:Zj) (s:Ma):Bool:=decide (t.kind=1)&&decide (t.text=s)
theorem Zgd (t:Zj) (s:Ma):Va t s=some (Zel t s):=by unfold Va Zel;by_cases h:t.kind=4<;>simp [h]
theorem ZqT (t:Zj) (s:Ma):Kl t s=some (Zel t s):=by unfold Kl Zel;by_cases h:t.kind=4<;>simp [h]
theorem Zu7 (t:Zj) (s:Ma):KE t s=some (Zm4 t s):=by unfold KE Zm4;by_cases h:t.kind=1<;>simp [h]
theorem ZmA (t:Zj) (s:Ma):YF t s=some (Zm4 t s):=by unfold YF Zm4;by_cases h:t.kind=1<;>simp [h]
def zT:Zj:=⟨0,0,0,⟨#[]⟩⟩
theorem Zl8 (s:Ma):Zel zT s=false:=by simp [Zel,zT]
theorem ZrT (s:Ma):Zm4 zT s=false:=by simp [Zm4,zT]
def Zfl (T:List Zj) (j:Nat) (s:Ma):Bool:=match T[j]? with
 | some t=>Zel t s||Zm4 t s
 | none=>false
section
variable {T:List Zj} {E:Int}
theorem Ziz (ok:ZiW T E) {j:Nat} (hj:j<=T.length) (s:Ma):Zt ⟨T,j,E, -1⟩ s=some (Zfl T j s,⟨T,j,E, -1⟩):=by
 unfold Zt Zfl
 by_cases h:j<T.length
 ·simp only [ZL h,if_true,ZQ h,ZEH,Zgd,Zu7,ZEP h];cases Zel T[j] s<;>simp
 ·simp [show ¬((j:Int)<(T.length:Int)) from WF,Gj (show T.length<=j from WF)]
theorem Zlc {x:Zd} (h:0<=x.bad) (s:Ma):Zt x s=some (false,x):=by
 unfold Zt;simp [show ¬x.bad<0 from WF]
theorem ZdE {j:Nat} (hj:j<=T.length):ZI ⟨T,j, -1⟩=some ((T[j]?).getD zT,⟨T,j, -1⟩):=by
 unfold ZI
 by_cases h:j<T.length
 ·simp only [ZL h,if_true,ZQ h,ZEH,ZEP h];simp
 ·simp [show ¬((j:Int)<(T.length:Int)) from WF,Gj (show T.length<=j from WF),zT]
theorem ZgJ {p:Zf} (h:0<=p.bad):ZI p=some (zT,p):=by
 unfold ZI;simp [show ¬p.bad<0 from WF,zT]
theorem Kx {p:Zf} {t:Zj} (h:ZI p=some (t,p)) (s:Ma):Zi p s=some (Zel t s,if Zel t s=true then adI p else p):=by
 unfold Zi;rw [h];simp only [ZEH,ZqT];cases Zel t s<;>rfl
theorem Rl.bad {x:Zd} {p:Zf} (ok:ZiW T E) (h:Rl T E x p none):0<=x.bad/\0<=p.bad:=by
 obtain ⟨b,_,_,_,_,j,k⟩:=h;exact ⟨by rw [k];exact ZqH ok b,by rw [j];omega⟩
theorem ZAI (ok:ZiW T E) {j:Nat} (h:j<T.length):Rl T E (adS ⟨T,j,E, -1⟩) (adI ⟨T,j, -1⟩) (some (j+1)):=by
 have:=ok.len;refine ⟨WF, ?_, ?_⟩
 ·simp only [adS,wS j WF]
 ·simp only [adI,wS j WF]
def ZuP (s:Ma):Prop:=∃c r,s.data.toList=c::r/\Zm3 c=false
def KwS (s:Ma):Prop:=∃c r,s.data.toList=c::r/\Zm3 c=true
theorem ZzZ (ok:ZiW T E) {t:Zj} (w:t∈T) {s:Ma} (p:ZuP s):Zm4 t s=false:=by
 unfold Zm4
 by_cases l:t.kind=1
 ·obtain ⟨c,r,j,m⟩:=ok.nm t w l;obtain ⟨z,A,o,k⟩:=p;have:t.text≠s:=λe=>by rw [e,o] at j;cases j;rw [m] at k;cases k
  simp [this]
 ·simp [l]
theorem Zza (ok:ZiW T E) {t:Zj} (w:t∈T) {s:Ma} (p:KwS s):Zel t s=false:=by
 unfold Zel
 by_cases l:t.kind=4
 ·obtain ⟨c,r,j,m⟩:=ok.sy t w l;obtain ⟨z,A,o,k⟩:=p;have:t.text≠s:=λe=>by rw [e,o] at j;cases j;rw [m] at k;cases k
  simp [this]
 ·simp [l]
theorem ZjE {j:Nat} {t:Zj} (h:T[j]? =some t) (s:Ma):Zfl T j s=(Zel t s||Zm4 t s):=by unfold Zfl;rw [h]
theorem Zhy {j:Nat} (h:T[j]? =none) (s:Ma):Zfl T j s=false:=by unfold Zfl;rw [h]
theorem ZbS (ok:ZiW T E) {x:Zd} {p:Zf} {o:Option Nat} (h:Rl T E x p o) {s:Ma} (l:ZuP s):
  ∃b:Bool,Zt x s=some (b,x)/\Zi p s=some (b,if b=true then adI p else p)/\(b=true->∃j,o=some j/\j<T.length/\Rl T E (adS x) (adI p) (some (j+1))):=by
 cases o with
 | none=>
  have k:=h.bad ok;refine ⟨false,Zlc k.1 s, ?_,Ha⟩;rw [Kx (ZgJ k.2),Zl8]
 | some j=>
  obtain ⟨hj,rfl,rfl⟩:=h;refine ⟨Zfl T j s,Ziz ok hj s, ?_, ?_⟩
  ·rw [Kx (ZdE hj)];cases e:T[j]? with
   | none=>simp [Zhy e,Zl8]
   | some t=>simp [ZjE e,ZzZ ok (Gg e) l]
  ·intro k;cases e:T[j]? with
   | none=>rw [Zhy e] at k;cases k
   | some t=>have hl:=(Hh.1 e).1;exact ⟨j,rfl,hl,ZAI ok hl⟩
theorem Zo8 (ok:ZiW T E) {x:Zd} {p:Zf} {o:Option Nat} (h:Rl T E x p o) {s:Ma} (l:KwS s):
  ∃(b:Bool) (t:Zj),Zt x s=some (b,x)/\ZI p=some (t,p)/\YF t s=some b/\(b=true->∃j,o=some j/\j<T.length/\Rl T E (adS x) (adI p) (some (j+1))):=by
 cases o with
 | none=>
  have k:=h.bad ok;exact ⟨false,zT,Zlc k.1 s,ZgJ k.2,by rw [ZmA,ZrT],Ha⟩
 | some j=>
  obtain ⟨hj,rfl,rfl⟩:=h;refine ⟨Zfl T j s,_,Ziz ok hj s,ZdE hj, ?_, ?_⟩
  ·rw [ZmA];cases e:T[j]? with
   | none=>simp [Zhy e,ZrT]
   | some t=>simp [ZjE e,Zza ok (Gg e) l]
  ·intro k;cases e:T[j]? with
   | none=>rw [Zhy e] at k;cases k
   | some t=>have hl:=(Hh.1 e).1;exact ⟨j,rfl,hl,ZAI ok hl⟩
def zE:Zc:=⟨0,0,⟨#[]⟩,[]⟩
theorem ZvN (ok:ZiW T E) {x:Zd} {p:Zf} {o:Option Nat} (h:Rl T E x p o):∃l k,Y1 x=some (zE,l)/\Yz p=some (zE,k)/\Rl T E l k none:=by
 cases o with
 | none=>
  have A:=h.bad ok;obtain ⟨b,m,r,s,t,w,z⟩:=h;refine ⟨x,p, ?_, ?_,⟨b,m,r,s,t,w,z⟩⟩
  ·unfold Y1;simp [show ¬x.bad<0 from WF,zE]
  ·unfold Yz;simp [show ¬p.bad<0 from WF,zE]
 | some j=>
  obtain ⟨hj,rfl,rfl⟩:=h;refine ⟨⟨T,j,E,ZuN T E j⟩,⟨T,j,j⟩, ?_, ?_,⟨j,hj,rfl,rfl,rfl,rfl,rfl⟩⟩
  ·unfold Y1 ZuN
   by_cases hl:j<T.length
   ·simp only [ZL hl,if_true,ZQ hl,ZEH,ZEP hl];simp [zE]
   ·simp [show ¬((j:Int)<(T.length:Int)) from WF,Gj (show T.length<=j from WF),zE]
  ·unfold Yz;simp [zE]
theorem Zxh (ok:ZiW T E) {j:Nat} (hj:j<=T.length) (s:Ma):(Zel ((T[j]?).getD zT) s||Zm4 ((T[j]?).getD zT) s)=Zfl T j s:=by
 cases e:T[j]? with
 | none=>simp [Zhy e,Zl8,ZrT]
 | some t=>simp [ZjE e]
theorem Zfq {p:Zf} {t:Zj} (h:ZI p=some (t,p)) (s:Ma):Zs p s=if (Zm4 t s||Zel t s)=true then some (adI p) else (Yz p).bind λy=>some y.2:=by
 unfold Zs;rw [h];simp only [ZEH,ZmA,h,ZqT];cases Zm4 t s<;>cases Zel t s<;>simp [adI]
theorem Zl7 (ok:ZiW T E) {x:Zd} {p:Zf} {o:Option Nat} (h:Rl T E x p o) (s:Ma):
  ∃A w r,ZH x s=some A/\Zs p s=some w/\Rl T E A w r/\∀l,r=some l->∃j,o=some j/\l=j+1:=by
 obtain ⟨B,z,f1,f2,f3⟩:=ZvN ok h;cases o with
 | none=>
  have k:=h.bad ok;refine ⟨B,z,none, ?_, ?_,f3,Ha⟩
  ·unfold ZH;rw [Zlc k.1];simp [f1]
  ·rw [Zfq (ZgJ k.2),Zl8,ZrT,f2];rfl
 | some j=>
  obtain ⟨hj,rfl,rfl⟩:=h;have m:(Zm4 ((T[j]?).getD zT) s||Zel ((T[j]?).getD zT) s)=Zfl T j s:=by rw [Bool.or_comm];exact Zxh ok hj s
  cases k:Zfl T j s with
  | false=>
   refine ⟨B,z,none, ?_, ?_,f3,Ha⟩
   ·unfold ZH;rw [Ziz ok hj,k];simp [f1]
   ·rw [Zfq (ZdE hj),m,k,f2];rfl
  | true=>
   have hl:j<T.length:=by
    cases e:T[j]? with
    | none=>rw [Zhy e] at k;cases k
    | some t=>exact (Hh.1 e).1
   refine ⟨adS ⟨T,j,E, -1⟩,adI ⟨T,j, -1⟩,some (j+1), ?_, ?_,ZAI ok hl,λl h=>⟨j,rfl,by cases h;rfl⟩⟩
   ·unfold ZH;rw [Ziz ok hj,k];rfl
   ·rw [Zfq (ZdE hj),m,k];rfl
theorem names (ok:ZiW T E) {x:Zd} {p:Zf} {o:Option Nat} (h:Rl T E x p o):
  ∃B M Q P O,Rl T E Q P O/\(∀A,O=some A->B=M/\B.size<=120/\∃j,o=some j/\A=j+1)/\∀k,200<=k->X5 k x=some (B,Q)/\Yy k p=some (M,P):=by
 obtain ⟨G,C,f1,f2,f3⟩:=ZvN ok h;cases o with
 | none=>
  have I:=h.bad ok;refine ⟨⟨#[]⟩,⟨#[]⟩,G,C,none,f3,Ha,λk z=>⟨?_, ?_⟩⟩
  ·unfold X5;simp [show 0<=x.bad from I.1,f1]
  ·unfold Yy;rw [ZgJ I.2];simp [zT,f2]
 | some j=>
  obtain ⟨hj,rfl,rfl⟩:=h;cases e:T[j]? with
  | none=>
   have hl:T.length<=j:=List.getElem?_eq_none_iff.1 e;refine ⟨⟨#[]⟩,⟨#[]⟩,G,C,none,f3,Ha,λk z=>⟨?_, ?_⟩⟩
   ·unfold X5;simp [show ((T.length:Int)<=(j:Int)) from WF,f1]
   ·unfold Yy;rw [ZdE hj,e];simp [zT,f2]
  | some t=>
   obtain ⟨hl,rfl⟩:=Hh.1 e;have S:=Hl hl;have U:=ok.tx _ S;have J:=ok.len
   by_cases m:T[j].kind=1/\Vr T[j].text=true
   ·refine ⟨T[j].text,T[j].text,adS ⟨T,j,E, -1⟩,adI ⟨T,j, -1⟩,some (j+1),ZAI ok hl,λA h=>⟨rfl,U,j,rfl,by cases h;rfl⟩,λk z=>⟨?_, ?_⟩⟩
    ·obtain ⟨r,s⟩:=Kw T[j].text WF (show T[j].text.size<k from WF) WF;unfold X5;have R:GZ (GZ ((j:Int)+1)-1)=(j:Int):=by rw [wS j WF,w64 WF WF];omega
     simp only [show ¬((0:Int)<= -1) from WF,decide_false,ZEO,if_false,show ¬((T.length:Int)<=(j:Int)) from WF,ZQ hl,ZEH,m.1,decide_true,Hr,r,m.2,R]
     rfl
    ·obtain ⟨r,s⟩:=Kw T[j].text WF (show T[j].text.size<k from WF) WF;unfold Yy;rw [ZdE hj,e];simp only [ZEH,Option.getD_some,m.1,decide_true,Hr,ZEO,if_false,s,m.2]
     rfl
   ·refine ⟨⟨#[]⟩,⟨#[]⟩,G,C,none,f3,Ha,λk z=> ?_⟩;obtain ⟨r,s⟩:=Kw T[j].text WF (show T[j].text.size<k from WF) WF;constructor
    ·unfold X5
     by_cases l:T[j].kind=1
     ·have w:Vr T[j].text=false:=by simpa [l] using m
      simp [show ¬((T.length:Int)<=(j:Int)) from WF,ZQ hl,l,r,w,f1]
     ·simp [show ¬((T.length:Int)<=(j:Int)) from WF,ZQ hl,l,f1]
    ·unfold Yy;rw [ZdE hj,e]
     by_cases l:T[j].kind=1
     ·have w:Vr T[j].text=false:=by simpa [l] using m
      simp [l,s,w,f2]
     ·simp [l,f2]
end
def star:Ma:=⟨#[42]⟩
def plus:Ma:=⟨#[43]⟩
def minus:Ma:=⟨#[45]⟩
def Zd6:Ma:=⟨#[44]⟩
def opE (n:Int) (a b:Zc):Zc:=⟨6,n,⟨#[]⟩,[a,b]⟩
def sPL (r:Zd->Option (Zc×Zd)) (n:Nat) (x:Zd) (e:Zc):Option (Zc×Zd):=
 (QI r n x.toks x.i x.end_ x.bad e.kind e.n e.text e.args).map λy=>(⟨y.1,y.2.1,y.2.2.1,y.2.2.2.1⟩,⟨y.2.2.2.2.1,y.2.2.2.2.2.1,y.2.2.2.2.2.2.1,y.2.2.2.2.2.2.2⟩)
def iPL (r:Zf->Option (Zc×Zf)) (n:Nat) (x:Zf) (e:Zc):Option (Zc×Zf):=
 (YE r n x.list x.at_ x.bad e.kind e.n e.text e.args).map λy=>(⟨y.1,y.2.1,y.2.2.1,y.2.2.2.1⟩,⟨y.2.2.2.2.1,y.2.2.2.2.2.1,y.2.2.2.2.2.2⟩)
def sSL (r:Zd->Option (Zc×Zd)) (n:Nat) (x:Zd) (e:Zc):Option (Zc×Zd):=
 (VI r n x.toks x.i x.end_ x.bad e.kind e.n e.text e.args).map λy=>(⟨y.1,y.2.1,y.2.2.1,y.2.2.2.1⟩,⟨y.2.2.2.2.1,y.2.2.2.2.2.1,y.2.2.2.2.2.2.1,y.2.2.2.2.2.2.2⟩)
def iSL (r:Zf->Option (Zc×Zf)) (n:Nat) (x:Zf) (e:Zc):Option (Zc×Zf):=
 (QK r n x.list x.at_ x.bad e.kind e.n e.text e.args).map λy=>(⟨y.1,y.2.1,y.2.2.1,y.2.2.2.1⟩,⟨y.2.2.2.2.1,y.2.2.2.2.2.1,y.2.2.2.2.2.2⟩)
def sAL (r:Zd->Option (Zc×Zd)) (n:Nat) (x:Zd) (out:List Zc):Option (List Zc×Zd):=
 (WG r n x.toks x.i x.end_ x.bad out).map λy=>(y.2.2.2.2,⟨y.1,y.2.1,y.2.2.1,y.2.2.2.1⟩)
def iAL (r:Zf->Option (Zc×Zf)) (c:Ma) (n:Nat) (x:Zf) (out:List Zc):Option (List Zc×Zf):=
 (Y3 r c n x.list x.at_ x.bad out).map λy=>(y.1,⟨y.2.1,y.2.2.1,y.2.2.2⟩)
theorem Zmk (r:Zd->Option (Zc×Zd)) (n:Nat) (x:Zd) (e:Zc):sPL r (n+1) x e=(Zt x star).bind λy=>if y.1=true then (r (adS y.2)).bind λz=>sPL r n z.2 (opE 3 e z.1) else some (e,y.2):=by
 obtain ⟨j,k,l,m⟩:=e;unfold sPL;rw [QI];show Option.map _ ((Zt x star).bind _)=_;rcases Zt x star with _| ⟨b,y⟩
 ·simp
 ·cases b
  ·simp
  ·simp only [ZEH,if_true];show Option.map _ ((r (adS y)).bind _)=_;rcases r (adS y) with _| ⟨a,z⟩<;>simp [ZbY,opE]
theorem Zji (r:Zf->Option (Zc×Zf)) (n:Nat) (x:Zf) (e:Zc):iPL r (n+1) x e=(Zi x star).bind λy=>if y.1=true then (r y.2).bind λz=>iPL r n z.2 (opE 3 e z.1) else some (e,y.2):=by
 obtain ⟨j,k,l,m⟩:=e;unfold iPL;rw [YE];show Option.map _ ((Zi x star).bind _)=_;rcases Zi x star with _| ⟨b,y⟩
 ·simp
 ·cases b
  ·simp
  ·simp only [ZEH,if_true];rcases r y with _| ⟨a,z⟩<;>simp [opE]
theorem Zqw (r:Zd->Option (Zc×Zd)) (n:Nat) (x:Zd) (e:Zc):sSL r (n+1) x e=(Zt x plus).bind λy=>(if y.1=true then some (true,y.2) else Zt y.2 minus).bind λu=>if u.1=true then (Zt u.2 minus).bind λv=>(r (adS v.2)).bind λw=>sSL r n w.2 (opE (if v.1=true then 2 else 1) e w.1) else some (e,u.2):=by
 obtain ⟨j,k,l,m⟩:=e;unfold sSL;rw [VI];show Option.map _ (((Zt x plus).bind _).bind _)=_;rcases Zt x plus with _| ⟨b,y⟩
 ·simp
 ·cases b
  ·simp only [ZEH,ZEO,if_false];show Option.map _ (((Zt y minus).bind _).bind _)=_;rcases Zt y minus with _| ⟨c,u⟩
   ·simp
   ·cases c
    ·simp
    ·simp only [ZEH,if_true];show Option.map _ (((Zt u minus).bind _).bind _)=_;rcases Zt u minus with _| ⟨d,v⟩
     ·simp
     ·cases d<;>simp only [ZEH,ZEO,if_true,if_false]<;>show Option.map _ ((r (adS v)).bind _)=_<;>rcases r (adS v) with _| ⟨a,z⟩<;>simp [ZbY,opE]
  ·simp only [ZEH,if_true];show Option.map _ (((Zt y minus).bind _).bind _)=_;rcases Zt y minus with _| ⟨d,v⟩
   ·simp
   ·cases d<;>simp only [ZEH,ZEO,if_true,if_false]<;>show Option.map _ ((r (adS v)).bind _)=_<;>rcases r (adS v) with _| ⟨a,z⟩<;>simp [ZbY,opE]
theorem ZmD (r:Zf->Option (Zc×Zf)) (n:Nat) (x:Zf) (e:Zc):iSL r (n+1) x e=if x.bad<0 then (Zi x plus).bind λy=>if y.1=true then (r y.2).bind λw=>iSL r n w.2 (opE 1 e w.1) else (Zi y.2 minus).bind λz=>if z.1=true then (r z.2).bind λw=>iSL r n w.2 (opE 2 e w.1) else some (e,z.2) else some (e,x):=by
 obtain ⟨k,l,m,o⟩:=e;unfold iSL;rw [QK]
 by_cases j:x.bad<0
 ·simp only [j,decide_true,if_true];show Option.map _ (((Zi x plus).bind _).bind _)=_;rcases Zi x plus with _| ⟨b,y⟩
  ·simp
  ·cases b
   ·simp only [ZEH,HK,if_true,ZEO,if_false];show Option.map _ (((Zi y minus).bind _).bind _)=_;rcases Zi y minus with _| ⟨c,z⟩
    ·simp
    ·cases c
     ·simp
     ·simp only [ZEH,Hr,ZEO,if_true,if_false];show Option.map _ ((r z).bind _)=_;rcases r z with _| ⟨a,w⟩<;>simp [opE]
   ·simp only [ZEH,Hr,ZEO,if_true,if_false];show Option.map _ ((r y).bind _)=_;rcases r y with _| ⟨a,w⟩<;>simp [opE]
 ·simp [j]
theorem ZgB (r:Zd->Option (Zc×Zd)) (n:Nat) (x:Zd) (out:List Zc):sAL r (n+1) x out=if x.bad<0 then (r x).bind λy=>(YJ 56 out [y.1]).bind λo=>(Zt y.2 Zd6).bind λz=>if z.1=true then sAL r n (adS z.2) o else some (o,z.2) else some (out,x):=by
 unfold sAL;rw [WG]
 by_cases j:x.bad<0
 ·simp only [j,decide_true,if_true];show Option.map _ ((r x).bind _)=_;rcases r x with _| ⟨a,y⟩
  ·simp
  ·simp only [ZEH];rcases YJ 56 out [a] with _| o
   ·simp
   ·simp only [ZEH];show Option.map _ ((Zt y Zd6).bind _)=_;rcases Zt y Zd6 with _| ⟨b,z⟩
    ·simp
    ·cases b<;>simp [adS]
 ·simp [j]
theorem Zar (r:Zf->Option (Zc×Zf)) (c:Ma) (n:Nat) (x:Zf) (out:List Zc):iAL r c (n+1) x out=if x.bad<0 then (r x).bind λy=>(YJ 56 out [y.1]).bind λo=>(Zi y.2 c).bind λz=>if z.1=true then some (o,z.2) else (Zs z.2 Zd6).bind λu=>iAL r c n u o else some (out,x):=by
 unfold iAL;rw [Y3]
 by_cases j:x.bad<0
 ·simp only [j,decide_true,if_true];show Option.map _ ((r x).bind _)=_;rcases r x with _| ⟨a,y⟩
  ·simp
  ·simp only [ZEH];rcases YJ 56 out [a] with _| o
   ·simp
   ·simp only [ZEH];rcases Zi y c with _| ⟨b,z⟩
    ·simp
    ·cases b
     ·simp only [ZEH,ZEO,if_false];show Option.map _ ((Zs z Zd6).bind _)=_;rcases Zs z Zd6 with _| u<;>simp
     ·simp
 ·simp [j]
theorem Zzq (k:Nat) (x:Zd):ZW (k+1) x=(Yo k x).bind λy=>sPL (Yo k) k y.2 y.1:=by
 rw [ZW];rcases Yo k x with _| ⟨a,y⟩
 ·simp
 ·simp only [ZEH,sPL];cases QI (Yo k) k y.toks y.i y.end_ y.bad a.kind a.n a.text a.args<;>simp
theorem Zz3 (k:Nat) (x:Zf):Zy (k+1) x=(ZF k x).bind λy=>iPL (ZF k) k y.2 y.1:=by
 rw [Zy];rcases ZF k x with _| ⟨a,y⟩
 ·simp
 ·simp only [ZEH,iPL];cases YE (ZF k) k y.list y.at_ y.bad a.kind a.n a.text a.args<;>simp
theorem Zzp (k:Nat) (x:Zd):XV (k+1) x=(ZW k x).bind λy=>sSL (ZW k) k y.2 y.1:=by
 rw [XV];rcases ZW k x with _| ⟨a,y⟩
 ·simp
 ·simp only [ZEH,sSL];cases VI (ZW k) k y.toks y.i y.end_ y.bad a.kind a.n a.text a.args<;>simp
theorem Zz2 (k:Nat) (x:Zf):Yj (k+1) x=(Zy k x).bind λy=>iSL (Zy k) k y.2 y.1:=by
 rw [Yj];rcases Zy k x with _| ⟨a,y⟩
 ·simp
 ·simp only [ZEH,iSL];cases QK (Zy k) k y.list y.at_ y.bad a.kind a.n a.text a.args<;>simp
theorem Zwn (k:Nat) (x:Zd) (c:Ma):Vq (k+1) x c=(Zt x c).bind λy=>if y.1=true then some ([],adS y.2) else (sAL (ZC k) k y.2 []).bind λz=>(ZH z.2 c).bind λu=>some (z.1,u):=by
 rw [Vq];rcases Zt x c with _| ⟨b,y⟩
 ·simp
 ·cases b
  ·simp only [ZEH,ZEO,if_false,sAL];cases WG (ZC k) k y.toks y.i y.end_ y.bad []<;>simp
  ·simp [adS]
theorem ZwH (k:Nat) (x:Zf) (c:Ma):YN (k+1) x c=(Zi x c).bind λy=>if y.1=true then some ([],y.2) else iAL (Zm k) c k y.2 []:=by
 rw [YN];rcases Zi x c with _| ⟨b,y⟩
 ·simp
 ·cases b
  ·simp only [ZEH,ZEO,if_false,iAL];cases Y3 (Zm k) c k y.list y.at_ y.bad []<;>simp
  ·simp
def gE (o m:Option Nat) (es l:Zc):Prop:=∀k,m=some k->es=l/\∃j,o=some j/\j<k/\es.bk+1<=200*(k-j)
def Ag (T:List Zj) (E:Int) (o:Option Nat) (s:Nat->Option (Zc×Zd)) (r:Nat->Option (Zc×Zf)):Prop:=
 ∃es j p m l,Rl T E p m l/\gE o l es j/\Ev λk=>s k=some (es,p)/\r k=some (j,m)
def AgN (T:List Zj) (E:Int) (m:Nat) (r:Nat->Zd->Option (Zc×Zd)) (l:Nat->Zf->Option (Zc×Zf)):Prop:=
 ∀x p o,Rl T E x p o->(∀j,o=some j->T.length-j<=m)->Ag T E o (λk=>r k x) (λk=>l k p)
def go (k:Nat) (o:Option Nat) (es l:Zc):Prop:=∀j,o=some j->es=l/\k<j/\es.bk+1<=200*(j-k)
theorem Ztq (n:Int) (a b:Zc):(opE n a b).bk=2+(a.bk+b.bk):=by
 rw [Zc.Zz];simp [opE,bkS,ZU];try rfl
theorem Zz7 {o1:Option Nat} {o j:Nat} {es m k l:Zc} (n:Int) (h:go o (some j) es m) (s:gE (some (j+1)) o1 k l):go o o1 (opE n es k) (opE n m l):=by
 intro t p;obtain ⟨rfl,C,r,w,z⟩:=s t p;cases r;obtain ⟨rfl,A,B⟩:=h j rfl;rw [Ztq];exact ⟨rfl,WF,WF⟩
section
variable {T:List Zj} {E:Int}
theorem Zql:ZuP star:=⟨42,[],rfl,by decide⟩
theorem Zqm:ZuP plus:=⟨43,[],rfl,by decide⟩
theorem Znw:ZuP minus:=⟨45,[],rfl,by decide⟩
theorem Znx:ZuP Zd6:=⟨44,[],rfl,by decide⟩
theorem Ztm (ok:ZiW T E) (m:Nat) (hA:∀M,M<m->AgN T E M Yo ZF) (J:Nat):∀(d:Nat) (x:Zd) (p:Zf) (o:Option Nat) (es r:Zc),Rl T E x p o->(∀j,o=some j->T.length-j<=d/\T.length-j<=m)->go J o es r->
  ∃es' l B A z,Rl T E B A z/\go J z es' l/\Ev2 λk n=>sPL (Yo k) n x es=some (es',B)/\iPL (ZF k) n p r=some (l,A):=by
 intro d
 induction d with
 | zero=>
  intro x p o es r h hd w;obtain ⟨b,s,t,C⟩:=ZbS ok h Zql
  have hb:b=false:=by
   cases b with
   | false=>rfl
   | true=>obtain ⟨j,e,hl,_⟩:=C rfl;have:=(hd j e).1;omega
  subst hb;exact ⟨es,r,x,p,o,h,w,.of λk n=>⟨by rw [Zmk,s];rfl,by rw [Zji,t];rfl⟩⟩
 | succ d ih=>
  intro x p o es r h hd w;obtain ⟨b,s,t,C⟩:=ZbS ok h Zql;cases b with
  | false=>exact ⟨es,r,x,p,o,h,w,.of λk n=>⟨by rw [Zmk,s];rfl,by rw [Zji,t];rfl⟩⟩
  | true=>
   obtain ⟨j,rfl,hl,h4⟩:=C rfl;have b0:=hd j rfl;obtain ⟨Y,Z,x1,p1,O,r1,G,R,U⟩:=hA (T.length-(j+1)) WF _ _ _ h4 (λI e=>by cases e;omega);obtain ⟨es',l,B,A,z,r2,g2,S,W⟩:=ih x1 p1 O (opE 3 es Y) (opE 3 r Z) r1 (λI e=>by obtain ⟨_,j2,X,h5,_⟩:=G I e;cases X;omega) (Zz7 (o1:=O) 3 w G);refine ⟨es',l,B,A,z,r2,g2,max R (S+1),λk n hk hn=> ?_⟩;obtain ⟨n,rfl⟩:∃n',n=n'+1:=⟨n-1,WF⟩;have P:=U k WF;have Q:=W k n WF WF;exact ⟨by rw [Zmk,s];simp only [ZEH,if_true,P.1,Q.1],by rw [Zji,t];simp only [ZEH,if_true,P.2,Q.2]⟩
theorem Zu4 (ok:ZiW T E) (m:Nat) (hA:∀m',m'<m->AgN T E m' ZW Zy) (C:Nat):∀(d:Nat) (x:Zd) (p:Zf) (o:Option Nat) (es r:Zc),Rl T E x p o->(∀j,o=some j->T.length-j<=d/\T.length-j<=m)->go C o es r->
  ∃es' l z w t,Rl T E z w t/\go C t es' l/\Ev2 λk n=>sSL (ZW k) n x es=some (es',z)/\iSL (Zy k) n p r=some (l,w):=by
 have G:∀(x:Zd) (p:Zf) (o:Option Nat) (es r:Zc),Rl T E x p o->go C o es r->Zt x plus=some (false,x)->Zi p plus=some (false,p)->Zt x minus=some (false,x)->Zi p minus=some (false,p)->
   ∃es' l z w t,Rl T E z w t/\go C t es' l/\Ev2 λk n=>sSL (ZW k) n x es=some (es',z)/\iSL (Zy k) n p r=some (l,w):=by
  intro x p o es r h B s I O J;refine ⟨es,r,x,p,o,h,B,.of λk n=>⟨by rw [Zqw,s];simp [O], ?_⟩⟩;rw [ZmD,I]
  split
  ·simp [J]
  ·rfl
 have step:∀(d:Nat) (x:Zd) (p:Zf) (j:Nat) (es r:Zc) (c:Bool),j<T.length->T.length-j<=d+1->T.length-j<=m->p.bad<0->Rl T E (adS x) (adI p) (some (j+1))->go C (some j) es r->
   (∀(x:Zd) (p:Zf) (o:Option Nat) (es r:Zc),Rl T E x p o->(∀j,o=some j->T.length-j<=d/\T.length-j<=m)->go C o es r->
    ∃es' l z w t,Rl T E z w t/\go C t es' l/\Ev2 λk n=>sSL (ZW k) n x es=some (es',z)/\iSL (Zy k) n p r=some (l,w))->
   Zt x plus=some (!c,x)->Zt x minus=some (c,x)->Zi p plus=some (!c,if (!c)=true then adI p else p)->Zi p minus=some (c,if c=true then adI p else p)->
   ∃es' l z w t,Rl T E z w t/\go C t es' l/\Ev2 λk n=>sSL (ZW k) n x es=some (es',z)/\iSL (Zy k) n p r=some (l,w):=by
  intro d x p j es r c hl hd hm U J B Q a1 a2 a3 a4;obtain ⟨ea,eb,x1,p1,o1,r1,Y,B1,e1⟩:=hA (T.length-(j+1)) WF _ _ _ J (λj' e=>by cases e;omega);obtain ⟨es',l,z,w,t,r2,g2,B2,e2⟩:=Q x1 p1 o1 (opE (if c=true then 2 else 1) es ea) (opE (if c=true then 2 else 1) r eb) r1 (λj' e=>by obtain ⟨_,j2,e3,h5,_⟩:=Y j' e;cases e3;omega) (Zz7 _ B Y);refine ⟨es',l,z,w,t,r2,g2,max B1 (B2+1),λk n hk hn=> ?_⟩;obtain ⟨n,rfl⟩:∃n',n=n'+1:=⟨n-1,WF⟩;have R:=e1 k WF;have S:=e2 k n WF WF;constructor
  ·rw [Zqw,a1];cases c
   ·simp only [HK,ZEH,if_true,a2,R.1];exact S.1
   ·simp only [Hr,ZEH,ZEO,if_false,a2,if_true,R.1];exact S.1
  ·rw [ZmD,if_pos U,a3];cases c
   ·simp only [HK,ZEH,if_true,R.2];exact S.2
   ·simp only [Hr,ZEH,ZEO,if_false,a4,if_true,R.2];exact S.2
 have A:∀{x:Zd} {j:Nat},x=⟨T,j,E, -1⟩->j<T.length->Zt x plus=some (true,x)->Zt x minus=some (false,x):=by
  rintro x j rfl hl h;rw [Ziz ok WF] at h ⊢;have s:Zfl T j plus=true:=by simpa using h
  have e:T[j]? =some T[j]:=ZEP hl;rw [ZjE e] at s ⊢;have hp:T[j].text=plus:=by simp only [Zel,Zm4] at s;simp at s;rcases s with s| s<;>exact s.2
  simp [Zel,Zm4,hp,plus,minus]
 intro d
 induction d with
 | zero=>
  intro x p o es r h hd B;obtain ⟨b,s,I,O⟩:=ZbS ok h Zqm;obtain ⟨c,M,P,X⟩:=ZbS ok h Znw
  have U:b=false:=by
   cases b with
   | false=>rfl
   | true=>obtain ⟨j,e,hl,_⟩:=O rfl;have:=(hd j e).1;omega
  have W:c=false:=by
   cases c with
   | false=>rfl
   | true=>obtain ⟨j,e,hl,_⟩:=X rfl;have:=(hd j e).1;omega
  subst U W;exact G x p o es r h B s I M P
 | succ d Q=>
  intro x p o es r h hd B;obtain ⟨b,s,I,O⟩:=ZbS ok h Zqm;obtain ⟨c,M,P,X⟩:=ZbS ok h Znw;cases b with
  | true=>
   obtain ⟨j,rfl,hl,J⟩:=O rfl;obtain ⟨hj,Z,hp⟩:=h
   have W:c=false:=by
    have:=A Z hl s;rw [M] at this;simpa using this
   subst W;exact step d x p j es r false hl (hd j rfl).1 (hd j rfl).2 (by rw [hp];show (-1:Int)<0;decide) J B Q s M I P
  | false=>
   cases c with
   | false=>exact G x p o es r h B s I M P
   | true=>
    obtain ⟨j,rfl,hl,J⟩:=X rfl;obtain ⟨hj,Z,hp⟩:=h;exact step d x p j es r true hl (hd j rfl).1 (hd j rfl).2 (by rw [hp];show (-1:Int)<0;decide) J B Q s M I P
end
def lw (l:List Zc):Nat:=(l.map λe=>e.bk+1).sum
theorem Zwz (l:List Zc) (e:Zc):lw (l++[e])=lw l+(e.bk+1):=by simp [lw]
theorem ZB6 (l:List Zc):bkS Zc.bk l=lw l:=by
 unfold bkS lw ZU
 induction l with
 | nil=>rfl
 | cons e l j=>simp only [HL,Hi,HV] at j ⊢;omega
theorem Zoh (k n:Int) (t:Ma) (l:List Zc):(Zc.mk k n t l).bk=t.size+lw l:=by
 rw [Zc.Zz,<-ZB6];try rfl
theorem Zux (out:List Zc) (e:Zc) (h:out.length<=100):YJ 56 out [e]=some (out++[e]):=Wa (by simp;omega) WF
section
variable {T:List Zj} {E:Int}
def goL (l:Nat) (o:Option Nat) (k m:List Zc):Prop:=∀j,o=some j->k=m/\l<=j/\lw k<=200*(j-l)/\k.length<=j
def ZD9 (k:Nat) (o:Option Nat) (l m:List Zc):Prop:=∀j,o=some j->l=m/\k<j/\lw l<=200*(j-k-1)
theorem ZsV {x:Zd} {p:Zf} {o:Option Nat} (ok:ZiW T E) (h:Rl T E x p o) {s:Ma} (C:ZuP s):∃b,Zi p s=some (b,if b=true then adI p else p)/\Zt x s=some (b,x)/\
  (b=true->∃j,o=some j/\j<T.length/\Rl T E (adS x) (adI p) (some (j+1))/\∀l,ZuP l->l≠s->Zt x l=some (false,x)):=by
 obtain ⟨b,m,z,A⟩:=ZbS ok h C;refine ⟨b,z,m,λt=> ?_⟩;obtain ⟨j,e,hl,B⟩:=A t;refine ⟨j,e,hl,B,λl G r=> ?_⟩;subst e t;obtain ⟨hj,rfl,rfl⟩:=h;have w:T[j]? =some T[j]:=ZEP hl;rw [Ziz ok hj] at m ⊢;have k:Zfl T j s=true:=by simpa using m
 rw [ZjE w] at k ⊢;have hp:T[j].text=s:=by simp only [Zel,Zm4] at k;simp at k;rcases k with k| k<;>exact k.2
 simp [Zel,Zm4,hp,Ne.symm r]
theorem ZtI (ok:ZiW T E) (m:Nat) (hA:∀m',m'<=m->AgN T E m' ZC Zm) (c:Ma) (hc:ZuP c) (b2:c≠Zd6) (j0:Nat):∀(d:Nat) (x:Zd) (p:Zf) (o:Option Nat) (s X:List Zc),Rl T E x p o->(∀j,o=some j->T.length-j<=d/\T.length-j<=m)->goL j0 o s X->
  ∃O M x' p' J,Rl T E x' p' J/\ZD9 j0 J O M/\Ev2 λk n=>((sAL (ZC k) n x s).bind λz=>(ZH z.2 c).bind λu=>some (z.1,u))=some (O,x')/\iAL (Zm k) c n p X=some (M,p'):=by
 intro d
 induction d with
 | zero=>
  intro x p o s X h hd hg;cases o with
  | none=>
   have S:=h.bad ok;obtain ⟨P,pf,J,t1,t2,t3,t4⟩:=Zl7 ok h c;have ho:J=none:=by cases J with | none=>rfl| some G=>obtain ⟨j,e,_⟩:=t4 G rfl;cases e
   subst ho
   have b7:Rl T E P p none:=by
    obtain ⟨b,h0,h1,h2,h3,h4,h5⟩:=h;obtain ⟨b',k0,k1,k2,k3,k4,k5⟩:=t3;have:ZH x c=some x\/True:=.inr trivial;unfold ZH at t1;rw [Zlc S.1] at t1;simp only [ZEH,HK,if_true] at t1;have Q:Y1 x=some (zE,x):=by unfold Y1;simp [show ¬x.bad<0 from WF,zE]
    rw [Q] at t1;obtain rfl:x=P:=by simpa using t1
    exact ⟨b,h0,h1,h2,h3,h4,h5⟩
   refine ⟨s,X,P,p,none,b7,(by intro j e;cases e),.of λk n=>⟨?_, ?_⟩⟩
   ·rw [ZgB,if_neg WF];simp [t1]
   ·rw [Zar,if_neg WF]
  | some j=>
   obtain ⟨hj,hx,hp⟩:=id h;have c5:j=T.length:=by have:=(hd j rfl).1;omega
   obtain ⟨R,eb,C,B,o1,t,g1,Z,Q⟩:=hA _ (hd j rfl).2 x p (some j) h (λG e=>by cases e;exact ZEN _)
   have b6:o1=none:=by
    cases o1 with
    | none=>rfl
    | some I=>obtain ⟨_,j2,e2,h2,_⟩:=g1 I rfl;cases e2;have:=t.1;omega
   subst b6;have S:=t.bad ok;have b0:=ok.len;obtain ⟨U,b3,b4,b5⟩:=hg j rfl;subst U;obtain ⟨P,pf,J,t1,t2,t3,t4⟩:=Zl7 ok t c;have ho:J=none:=by cases J with | none=>rfl| some G=>obtain ⟨j,e,_⟩:=t4 G rfl;cases e
   subst ho;obtain ⟨xg,pg,b1,u1,u2,u3,u4⟩:=Zl7 ok t Zd6;have ho:b1=none:=by cases b1 with | none=>rfl| some G=>obtain ⟨j,e,_⟩:=u4 G rfl;cases e
   subst ho;have c0:=u3.bad ok;have b9:Y1 C=some (zE,C):=by unfold Y1;simp [show ¬C.bad<0 from WF,zE]
   have A:C=P:=by unfold ZH at t1;rw [Zlc S.1] at t1;simpa [b9] using t1
   have b8:Yz B=some (zE,B):=by unfold Yz;simp [show ¬B.bad<0 from WF,zE]
   have w:B=pg:=by rw [Zfq (ZgJ S.2),Zl8,ZrT,b8] at u2;simpa using u2
   subst A w;refine ⟨s++[R],s++[eb],C,B,none,t,(by intro j e;cases e),Z+2,λk n hk hn=> ?_⟩;obtain ⟨n,rfl⟩:∃W,n=W+2:=⟨n-2,WF⟩;have r:=Q k WF;dsimp only at r;constructor
   ·rw [ZgB,if_pos (by rw [hx];show (-1:Int)<0;decide),r.1];simp only [ZEH];rw [Zux _ _ WF];simp only [ZEH,Zlc S.1,ZEO,if_false,t1]
   ·rw [Zar,if_pos (by rw [hp];show (-1:Int)<0;decide),r.2];simp only [ZEH];rw [Zux _ _ WF];simp only [ZEH,Kx (ZgJ S.2),Zl8,ZEO,if_false,u2];rw [Zar,if_neg WF]
 | succ d ih=>
  intro x p o s X h hd hg;cases o with
  | none=>exact ih x p none s X h (by intro j e;cases e) (by intro j e;cases e)
  | some j=>
   obtain ⟨hj,hx,hp⟩:=id h;obtain ⟨R,eb,C,B,o1,t,g1,Z,Q⟩:=hA _ (hd j rfl).2 x p (some j) h (λG e=>by cases e;exact ZEN _);have b0:=ok.len;obtain ⟨U,b3,b4,b5⟩:=hg j rfl;subst U;have sx:x.bad<0:=by rw [hx];show (-1:Int)<0;decide
   have sp:p.bad<0:=by rw [hp];show (-1:Int)<0;decide
   obtain ⟨bc,c1,c2,c3⟩:=ZsV ok t hc;obtain ⟨bm,m1,Y,m3⟩:=ZsV ok t Znx;cases bc with
   | true=>
    obtain ⟨I,rfl,hl,r2,c4⟩:=c3 rfl;obtain ⟨rfl,j2,ej,g2,g3⟩:=g1 I rfl;cases ej;have hm:=c4 Zd6 Znx (Ne.symm b2);have t1:ZH C c=some (adS C):=by unfold ZH;rw [c2];rfl
    refine ⟨s++[R],s++[R],adS C,adI B,some (I+1),r2,λG e=> ?_,Z+2,λk n hk hn=> ?_⟩
    ·cases e;refine ⟨rfl,WF, ?_⟩;rw [Zwz];omega
    ·obtain ⟨n,rfl⟩:∃W,n=W+2:=⟨n-2,WF⟩;have r:=Q k WF;dsimp only at r;constructor
     ·rw [ZgB,if_pos sx,r.1];simp only [ZEH];rw [Zux _ _ WF];simp only [ZEH,hm,ZEO,if_false,t1]
     ·rw [Zar,if_pos sp,r.2];simp only [ZEH];rw [Zux _ _ WF];simp only [ZEH,c1,if_true]
   | false=>
    cases bm with
    | true=>
     obtain ⟨I,rfl,hl,r2,m4⟩:=m3 rfl;obtain ⟨rfl,j2,ej,g2,g3⟩:=g1 I rfl;cases ej
     have n1:Zs B Zd6=some (adI B):=by
      obtain ⟨l,A,w⟩:=t;subst w A;rw [Zfq (ZdE l)];have:=Zxh ok l Zd6;rw [Ziz ok l] at Y;have h5:Zfl T I Zd6=true:=by simpa using Y
      rw [Bool.or_comm,this,h5];rfl
     obtain ⟨O,M,x',p',J,r3,g4,B2,e2⟩:=ih (adS C) (adI B) (some (I+1)) (s++[R]) (s++[R]) r2 (λG e=>by cases e;have:=hd j rfl;omega) (λG e=>by
      cases e;refine ⟨rfl,WF, ?_,by simp;omega⟩;rw [Zwz];omega)
     refine ⟨O,M,x',p',J,r3,g4,max Z B2+2,λk n hk hn=> ?_⟩;obtain ⟨n,rfl⟩:∃W,n=W+1:=⟨n-1,WF⟩;have r:=Q k WF;dsimp only at r;have q2:=e2 k n WF WF;constructor
     ·rw [ZgB,if_pos sx,r.1];simp only [ZEH];rw [Zux _ _ WF];simp only [ZEH,Y,if_true];exact q2.1
     ·rw [Zar,if_pos sp,r.2];simp only [ZEH];rw [Zux _ _ WF];simp only [ZEH,c1,ZEO,if_false,n1];exact q2.2
    | false=>
     obtain ⟨P,pf,f1,f2,f3⟩:=ZvN ok t;have t1:ZH C c=some P:=by unfold ZH;rw [c2];simp [f1]
     have n1:Zs B Zd6=some pf:=by
      cases o1 with
      | none=>rw [Zfq (ZgJ (t.bad ok).2),Zl8,ZrT,f2];rfl
      | some I=>
       obtain ⟨l,A,w⟩:=t;subst w A;rw [Zfq (ZdE l)];have:=Zxh ok l Zd6;rw [Ziz ok l] at Y;have h5:Zfl T I Zd6=false:=by simpa using Y
       rw [Bool.or_comm,this,h5,f2];rfl
     have S:=f3.bad ok;refine ⟨s++[R],s++[eb],P,pf,none,f3,(by intro j e;cases e),Z+2,λk n hk hn=> ?_⟩;obtain ⟨n,rfl⟩:∃W,n=W+2:=⟨n-2,WF⟩;have r:=Q k WF;dsimp only at r;constructor
     ·rw [ZgB,if_pos sx,r.1];simp only [ZEH];rw [Zux _ _ WF];simp only [ZEH,Y,ZEO,if_false,t1]
     ·rw [Zar,if_pos sp,r.2];simp only [ZEH];rw [Zux _ _ WF];simp only [ZEH,c1,ZEO,if_false,n1];rw [Zar,if_neg WF]
theorem lists (ok:ZiW T E) (m:Nat) (hA:∀R,R<=m->AgN T E R ZC Zm) (c:Ma) (hc:ZuP c) (C:c≠Zd6) (x:Zd) (p:Zf) (o:Option Nat) (h:Rl T E x p o) (hd:∀j,o=some j->T.length-j<=m):
  ∃s w A t z,Rl T E A t z/\(∀l,z=some l->s=w/\∃j,o=some j/\j<l/\lw s<=200*(l-j-1))/\Ev λk=>Vq k x c=some (s,A)/\YN k p c=some (w,t):=by
 obtain ⟨S,M,O,U⟩:=ZsV ok h hc;cases S with
 | true=>
  obtain ⟨j,rfl,hl,r2,_⟩:=U rfl;refine ⟨[],[],adS x,adI p,some (j+1),r2,λl e=>⟨rfl,j,rfl,by cases e;omega,by simp [lw]⟩,1,λk hk=> ?_⟩;obtain ⟨k,rfl⟩:∃I,k=I+1:=⟨k-1,WF⟩;exact ⟨by rw [Zwn,O];rfl,by rw [ZwH,M];rfl⟩
 | false=>
  obtain ⟨G,r⟩:∃G,∀j,o=some j->j=G:=by
   cases o with
   | none=>exact ⟨0,Ha⟩
   | some j=>exact ⟨j,Ha⟩
  obtain ⟨s,w,A,t,z,J,W,B,P⟩:=ZtI ok m hA c hc C G m x p o [] [] h (λj e=>⟨hd j e,hd j e⟩) (λj e=>⟨rfl,by rw [r j e];exact ZEN _,by simp [lw],Ha⟩);refine ⟨s,w,A,t,z,J,λl e=> ?_,B+1,λk hk=> ?_⟩
  ·obtain ⟨X,Y,Z⟩:=W l e;cases o with
   | some j=>have:=r j rfl;subst this;exact ⟨X,j,rfl,Y,Z⟩
   | none=>
    exfalso
    have q:=(P (B+1) (B+1) WF WF).2;have Q:=h.bad ok;rw [Zar,if_neg WF] at q;have:p=t:=by simpa using congrArg (λy=>y.map Prod.snd) q
    subst this;rw [e] at J;have:=J.2.2;rw [this] at Q;exact absurd Q.2 (by show ¬(0:Int)<= -1;decide)
  ·obtain ⟨k,rfl⟩:∃I,k=I+1:=⟨k-1,WF⟩;have q:=P k k WF WF;exact ⟨by rw [Zwn,O];simp only [ZEH,ZEO,if_false];exact q.1,by rw [ZwH,M];simp only [ZEH,ZEO,if_false];exact q.2⟩
end
def Zvi:Ma:=⟨#[40]⟩
def ZyO:Ma:=⟨#[41]⟩
def ZyS:Ma:=⟨#[91]⟩
def ZCN:Ma:=⟨#[93]⟩
def eqS:Ma:=⟨#[61]⟩
def ZtK:Ma:=⟨#[60]⟩
def Zs7:Ma:=⟨#[61,61]⟩
def ZB9:Ma:=⟨#[108,101,116]⟩
def kIn:Ma:=⟨#[105,110]⟩
def kIf:Ma:=⟨#[105,102]⟩
def ZtN:Ma:=⟨#[116,104,101,110]⟩
def ZtO:Ma:=⟨#[101,108,115,101]⟩
def ZCa:Ma:=⟨#[102,111,114]⟩
def kDo:Ma:=⟨#[100,111]⟩
theorem ZEc (t:Ma):∃z,Yi t=some z/\ZS t=some z:=by
 obtain ⟨z,h⟩:=Zhp t;exact ⟨z,by rw [show Yi t=ZS t by unfold Yi ZS;rfl,h],h⟩
section
variable {T:List Zj} {E:Int}
theorem Zyx (ok:ZiW T E) (m:Nat) (IH:∀m',m'<m->AgN T E m' ZC Zm):AgN T E m Yo ZF:=by
 intro x p o h hd;obtain ⟨xf,pf,f1,f2,f3⟩:=ZvN ok h;have b9:=ok.len
 have bad:(∀k,200<=k->Yo (k+1) x=some (zE,xf)/\ZF (k+1) p=some (zE,pf))->Ag T E o (λk=>Yo k x) (λk=>ZF k p):=by
  intro w;refine ⟨zE,zE,xf,pf,none,f3,(by intro j e;cases e),201,λk b3=> ?_⟩;obtain ⟨k,rfl⟩:∃R,k=R+1:=⟨k-1,WF⟩;exact w k WF
 have b0:∀s,ZI p=some (zT,p)->Zi p s=some (false,p):=λs hn=>by rw [Kx hn,Zl8];rfl
 have S:∀k,ZI p=some (zT,p)->ZF (k+1) p=some (zE,pf):=by
  intro k hn;rw [ZF,hn];simp only [ZEH];simp [zT,b0 _ hn,f2]
 cases o with
 | none=>
  have hb:=h.bad ok;refine bad λk w=>⟨?_,S k (ZgJ hb.2)⟩;rw [Yo];simp [show 0<=x.bad from hb.1,f1]
 | some j=>
  obtain ⟨hj,hx,hp⟩:=id h;cases e:T[j]? with
  | none=>
   have hl:T.length<=j:=List.getElem?_eq_none_iff.1 e;refine bad λk w=>⟨?_,S k (by rw [hp,ZdE hj,e];rfl)⟩;rw [Yo,hx];rw [hx] at f1;simp [show ((T.length:Int)<=(j:Int)) from WF,f1]
  | some t=>
   obtain ⟨hl,rfl⟩:=Hh.1 e;have hm:=Hl hl;have c3:=ok.tx _ hm;have ad:=ZAI ok hl;rw [<-hx,<-hp] at ad;have X:ZI p=some (T[j],p):=by rw [hp,ZdE hj,e];rfl
   have r:∀k,Yo (k+1) x=(at? T (j:Int)).bind λC=>
     if (decide (C.kind=2))=true then (Zgu C.n).bind λx4=>some (x4,adS x)
     else if (decide (C.kind=3))=true then some ((Zc.mk 2 0 C.text []),adS x)
     else (if (decide (C.kind=1))=true then (Z7 k C.text).bind λx6=>some x6 else some false).bind λx5=>
      if x5=true then (Zdo C.text).bind λx7=>some (x7,adS x)
      else (if (decide (C.kind=1))=true then (Yi C.text).bind λx9=>some (decide (0<=x9)) else some false).bind λx8=>
       if x8=true then (ZH (adS x) Zvi).bind λb6=>(Vq k b6 ZyO).bind λM=>some ((Zc.mk 5 0 C.text M.1),M.2)
       else (Va C ZyS).bind λY=>if Y=true then (Vq k (adS x) ZCN).bind λO=>some ((Zc.mk 4 0 (⟨#[]⟩:Ma) O.1),O.2)
        else (Va C Zvi).bind λb7=>if b7=true then (ZC k (adS x)).bind λb1=>(ZH b1.2 ZyO).bind λb8=>some (b1.1,b8)
         else (Y1 x).bind λb2=>some (b2.1,b2.2):=by
    intro k;rw [Yo,hx];simp only [show ¬((0:Int)<= -1) from WF,decide_false,ZEO,if_false,show ¬((T.length:Int)<=(j:Int)) from WF,ZEH]
    rfl
   have l:∀k,ZF (k+1) p=
     if (decide (T[j].kind=2))=true then some ((Zc.mk 1 T[j].n (⟨#[]⟩:Ma) []),adI p)
     else if (decide (T[j].kind=3))=true then some ((Zc.mk 2 0 T[j].text []),adI p)
     else (if (decide (T[j].kind=1))=true then (Z8 k T[j].text).bind λC=>some C else some false).bind λZ=>
      if Z=true then some ((Zc.mk 3 0 T[j].text []),adI p)
      else (if (decide (T[j].kind=1))=true then (ZS T[j].text).bind λx5=>some (decide (0<=x5)) else some false).bind λx4=>
       if x4=true then (Zs (adI p) Zvi).bind λx6=>(YN k x6 ZyO).bind λx7=>some ((Zc.mk 5 0 T[j].text x7.1),x7.2)
       else if Zel T[j] ZyS=true then (YN k (adI p) ZCN).bind λx9=>some ((Zc.mk 4 0 (⟨#[]⟩:Ma) x9.1),x9.2)
        else if Zel T[j] Zvi=true then (Zm k (adI p)).bind λM=>(Zs M.2 ZyO).bind λY=>some (M.1,Y)
         else (Yz p).bind λO=>some (O.1,O.2):=by
    intro k;rw [ZF,X];simp only [ZEH];have s1:Zi p (⟨#[91]⟩:Ma)=some (Zel T[j] ZyS,if Zel T[j] ZyS=true then adI p else p):=Kx X _;have s2:Zi p (⟨#[40]⟩:Ma)=some (Zel T[j] Zvi,if Zel T[j] Zvi=true then adI p else p):=Kx X _;rw [s1];simp only [ZEH];cases c0:Zel T[j] ZyS
    ·simp only [ZEO,if_false];rw [s2];cases c1:Zel T[j] Zvi<;>rfl
    ·rfl
   have done:∀(ex:Zc),ex.bk+1<=200->(∀k,200<=k->Yo (k+1) x=some (ex,adS x)/\ZF (k+1) p=some (ex,adI p))->Ag T E (some j) (λk=>Yo k x) (λk=>ZF k p):=by
    intro ex c2 w;refine ⟨ex,ex,adS x,adI p,some (j+1),ad,λP e=>⟨rfl,j,rfl,by cases e;omega,by cases e;omega⟩,201,λk b3=> ?_⟩;obtain ⟨k,rfl⟩:∃R,k=R+1:=⟨k-1,WF⟩;exact w k WF
   have A:at? T (j:Int)=some T[j]:=ZQ hl;have b5:T.length-(j+1)<m:=by have:=hd j rfl;omega
   obtain ⟨z,z1,z2⟩:=ZEc T[j].text;have vn:∀k,200<=k->Z7 k T[j].text=some (Vr T[j].text)/\Z8 k T[j].text=some (Vr T[j].text):=λk w=>Kw _ WF WF WF
   by_cases U:T[j].kind=2
   ·refine done ⟨1,T[j].n,⟨#[]⟩,[]⟩ (by rw [Zoh];simp [lw];try decide) λk w=>⟨?_, ?_⟩
    ·rw [r,A];simp only [ZEH,U,decide_true,if_true,Zgu]
    ·rw [l];simp only [U,decide_true,if_true]
   by_cases W:T[j].kind=3
   ·refine done ⟨2,0,T[j].text,[]⟩ (by rw [Zoh];simp [lw];omega) λk w=>⟨?_, ?_⟩
    ·rw [r,A];simp [W]
    ·rw [l];simp [W]
   by_cases I:T[j].kind=1
   ·have J:∀s,Zel T[j] s=false:=λs=>by simp [Zel,I]
    cases hv:Vr T[j].text with
    | true=>
     refine done ⟨3,0,T[j].text,[]⟩ (by rw [Zoh];simp [lw];omega) λk w=>⟨?_, ?_⟩
     ·rw [r,A];simp [I,(vn k w).1,hv,Zdo]
     ·rw [l];simp [I,(vn k w).2,hv]
    | false=>
     by_cases hz:0<=z
     ·obtain ⟨x1,p1,o1,t1,t2,r1,g1⟩:=Zl7 ok ad Zvi;obtain ⟨ls,li,Z,p2,o2,r2,g2,B,e2⟩:=lists ok (m-1) (λm' b4=>IH m' WF) ZyO ⟨41,[],rfl,by decide⟩ (by decide) x1 p1 o1 r1 (λP e=>by obtain ⟨j2,e2,h2⟩:=g1 P e;cases e2;omega);refine ⟨⟨5,0,T[j].text,ls⟩,⟨5,0,T[j].text,li⟩,Z,p2,o2,r2,λP e=> ?_,max B 200+1,λk w=> ?_⟩
      ·obtain ⟨rfl,j2,e3,h3,h4⟩:=g2 P e;obtain ⟨j3,e4,h5⟩:=g1 j2 e3;cases e4;refine ⟨rfl,j,rfl,WF, ?_⟩;rw [Zoh];omega
      ·obtain ⟨k,rfl⟩:∃R,k=R+1:=⟨k-1,WF⟩;have q:=e2 k WF;dsimp only at q;have v:=vn k WF;dsimp only;constructor
       ·rw [r,A];simp [I,v.1,hv,z1,hz,t1,q.1]
       ·rw [l];simp [I,v.2,hv,z2,hz,t2,q.2]
     ·refine bad λk w=>⟨?_, ?_⟩
      ·rw [r,A];simp [I,(vn k w).1,hv,z1,hz,Zgd,J,f1]
      ·rw [l];simp [I,(vn k w).2,hv,z2,hz,J,f2]
   ·cases G:Zel T[j] ZyS with
    | true=>
     obtain ⟨ls,li,Z,p2,o2,r2,g2,B,e2⟩:=lists ok (m-1) (λm' b4=>IH m' WF) ZCN ⟨93,[],rfl,by decide⟩ (by decide) (adS x) (adI p) _ ad (λP e=>by cases e;omega);refine ⟨⟨4,0,⟨#[]⟩,ls⟩,⟨4,0,⟨#[]⟩,li⟩,Z,p2,o2,r2,λP e=> ?_,max B 200+1,λk w=> ?_⟩
     ·obtain ⟨rfl,j2,e3,h3,h4⟩:=g2 P e;cases e3;refine ⟨rfl,j,rfl,WF, ?_⟩;rw [Zoh];have h0:(⟨#[]⟩:Ma).size=0:=rfl;omega
     ·obtain ⟨k,rfl⟩:∃R,k=R+1:=⟨k-1,WF⟩;have q:=e2 k WF;dsimp only at q;dsimp only;constructor
      ·rw [r,A];simp [I,U,W,Zgd,G,q.1]
      ·rw [l];simp [I,U,W,G,q.2]
    | false=>
     cases Q:Zel T[j] Zvi with
     | true=>
      obtain ⟨ea,eb,x1,p1,o1,r1,g1,B,e1⟩:=IH _ b5 (adS x) (adI p) _ ad (λP e=>by cases e;exact ZEN _);obtain ⟨Z,p2,o2,t1,t2,r2,g2⟩:=Zl7 ok r1 ZyO;refine ⟨ea,eb,Z,p2,o2,r2,λP e=> ?_,max B 200+1,λk w=> ?_⟩
      ·obtain ⟨j2,e3,h3⟩:=g2 P e;obtain ⟨h4,j3,e4,h5,h6⟩:=g1 j2 e3;cases e4;exact ⟨h4,j,rfl,WF,WF⟩
      ·obtain ⟨k,rfl⟩:∃R,k=R+1:=⟨k-1,WF⟩;have q:=e1 k WF;dsimp only at q;dsimp only;constructor
       ·rw [r,A];simp [I,U,W,Zgd,G,Q,q.1,t1]
       ·rw [l];simp [I,U,W,G,Q,q.2,t2]
     | false=>
      refine bad λk w=>⟨?_, ?_⟩
      ·rw [r,A];simp [I,U,W,Zgd,G,Q,f1]
      ·rw [l];simp [I,U,W,G,Q,f2]
theorem Zxr (ok:ZiW T E) (m:Nat) (R:∀w,w<=m->AgN T E w Yo ZF):AgN T E m ZW Zy:=by
 intro x p o h hd;obtain ⟨X,Y,x1,p1,J,S,A,U,W⟩:=R m (ZEN _) x p o h hd
 obtain ⟨I,r⟩:∃I,∀j,o=some j->j=I:=by
  cases o with
  | none=>exact ⟨0,Ha⟩
  | some j=>exact ⟨j,Ha⟩
 obtain ⟨es,Z,x2,p2,o2,P,g2,z,Q⟩:=Ztm ok m (λw b0=>R w WF) I m x1 p1 J X Y S
  (λj e=>by obtain ⟨_,t,l,s,_⟩:=A j e;have:=hd t l;omega)
  (λj e=>by obtain ⟨B,t,l,s,h4⟩:=A j e;have:=r t l;subst this;exact ⟨B,s,h4⟩)
 refine ⟨es,Z,x2,p2,o2,P,λj' e=> ?_,max U z+1,λk hk=> ?_⟩
 ·obtain ⟨h1,B,s⟩:=g2 j' e;cases o with
  | some j=>have:=r j rfl;subst this;exact ⟨h1,j,rfl,B,s⟩
  | none=>
   exfalso
   have G:J=none:=by cases J with | none=>rfl| some j1=>obtain ⟨_,t,l,_⟩:=A j1 rfl;cases l
   subst G;have q:=(Q (z+1) (z+1) WF WF).2;have C:=S.bad ok;rw [Zji,Kx (ZgJ C.2),Zl8] at q;simp only [ZEH,ZEO,if_false,ZEK,ZEL] at q;rw [e,<-q.2] at P;have:=P.2.2;rw [this] at C;exact absurd C.2 (by show ¬(0:Int)<= -1;decide)
 ·obtain ⟨k,rfl⟩:∃n',k=n'+1:=⟨k-1,WF⟩;have M:=W k WF;dsimp only at M;have O:=Q k k WF WF;dsimp only at O;dsimp only;exact ⟨by rw [Zzq,M.1];exact O.1,by rw [Zz3,M.2];exact O.2⟩
theorem Zzc (ok:ZiW T E) (m:Nat) (Q:∀w,w<=m->AgN T E w ZW Zy):AgN T E m XV Yj:=by
 intro x p o h hd;obtain ⟨X,Y,x1,p1,I,S,A,U,W⟩:=Q m (ZEN _) x p o h hd
 obtain ⟨G,r⟩:∃G,∀j,o=some j->j=G:=by
  cases o with
  | none=>exact ⟨0,Ha⟩
  | some j=>exact ⟨j,Ha⟩
 obtain ⟨es,Z,x2,p2,o2,O,g2,z,P⟩:=Zu4 ok m (λw b0=>Q w WF) G m x1 p1 I X Y S
  (λj e=>by obtain ⟨_,t,l,s,_⟩:=A j e;have:=hd t l;omega)
  (λj e=>by obtain ⟨B,t,l,s,h4⟩:=A j e;have:=r t l;subst this;exact ⟨B,s,h4⟩)
 refine ⟨es,Z,x2,p2,o2,O,λj' e=> ?_,max U z+1,λk hk=> ?_⟩
 ·obtain ⟨h1,B,s⟩:=g2 j' e;cases o with
  | some j=>have:=r j rfl;subst this;exact ⟨h1,j,rfl,B,s⟩
  | none=>
   exfalso
   have C:I=none:=by cases I with | none=>rfl| some j1=>obtain ⟨_,t,l,_⟩:=A j1 rfl;cases l
   subst C;have q:=(P (z+1) (z+1) WF WF).2;have R:=S.bad ok;rw [ZmD,if_neg WF] at q;simp only [ZEK,ZEL] at q;rw [e,<-q.2] at O;have:=O.2.2;rw [this] at R;exact absurd R.2 (by show ¬(0:Int)<= -1;decide)
 ·obtain ⟨k,rfl⟩:∃n',k=n'+1:=⟨k-1,WF⟩;have J:=W k WF;dsimp only at J;have M:=P k k WF WF;dsimp only at M;dsimp only;exact ⟨by rw [Zzp,J.1];exact M.1,by rw [Zz2,J.2];exact M.2⟩
end
def iCL (r:Zf->Option (Zc×Zf)) (y:Zc×Zf) (n:Nat) (p:Zf) (i:Int):Option (Zc×Zf):=
 (YW r y n p.list p.at_ p.bad i:Option (((List Zj)×Int×Int) ⊕ (Zc×Zf))).bind fun
  | .inl (a,b,c)=>some (y.1,⟨a,b,c⟩)
  | .inr z=>some z
theorem ZD3:Zbs 4=some ZtK:=by decide+kernel
theorem ZD2:Zbs 5=some Zs7:=by decide+kernel
theorem ZCc (r:Zf->Option (Zc×Zf)) (y:Zc×Zf) (n:Nat) (p:Zf):iCL r y (n+1) p 0=(Zi p ZtK).bind λs=>if s.1=true then (r s.2).bind λw=>some (opE 4 y.1 w.1,w.2) else iCL r y n s.2 1:=by
 unfold iCL;rw [YW];have j:at? [(4:Int),5] 0=some 4:=rfl;have k:GZ (0+1)=1:=by decide
 simp only [j,k,ZEH,ZD3,show (decide ((0:Int)<(([4,5]:List Nat).length:Int)))=true from rfl,if_true];rcases Zi p ZtK with _| ⟨b,q⟩
 ·rfl
 ·cases b
  ·simp only [ZEH,ZEO,if_false]
  ·simp only [ZEH,if_true];rcases r q with _| ⟨a,z⟩<;>rfl
theorem ZDh (r:Zf->Option (Zc×Zf)) (y:Zc×Zf) (n:Nat) (p:Zf):iCL r y (n+2) p 1=(Zi p Zs7).bind λs=>if s.1=true then (r s.2).bind λw=>some (opE 5 y.1 w.1,w.2) else some (y.1,s.2):=by
 unfold iCL;rw [YW];have j:at? [(4:Int),5] 1=some 5:=rfl;have k:GZ (1+1)=2:=by decide
 simp only [j,k,ZEH,ZD2,show (decide ((1:Int)<(([4,5]:List Nat).length:Int)))=true from rfl,if_true];rcases Zi p Zs7 with _| ⟨b,q⟩
 ·rfl
 ·cases b
  ·simp only [ZEH,ZEO,if_false];rw [YW];simp only [show (decide ((2:Int)<(([4,5]:List Nat).length:Int)))=false from rfl,ZEO,if_false,ZEH]
  ·simp only [ZEH,if_true];rcases r q with _| ⟨a,z⟩<;>rfl
theorem Ztb (k:Nat) (x:Zd):Q4 (k+1) x=(XV k x).bind λy=>(Zt y.2 ZtK).bind λu=>if u.1=true then (XV k (adS u.2)).bind λw=>some (opE 4 y.1 w.1,w.2) else (Zt u.2 Zs7).bind λv=>if v.1=true then (XV k (adS v.2)).bind λw=>some (opE 5 y.1 w.1,w.2) else some (y.1,v.2):=by
 rw [Q4];rfl
theorem Zqy (k:Nat) (x:Zd):ZC (k+1) x=(Zt x ZB9).bind λy=>
  if y.1=true then (X5 k (adS y.2)).bind λn=>(ZH n.2 eqS).bind λz=>(ZC k z).bind λa=>(ZH a.2 kIn).bind λu=>(ZC k u).bind λb=>some (⟨7,0,n.1,[a.1,b.1]⟩,b.2)
  else (Zt y.2 kIf).bind λy=>if y.1=true then (ZC k (adS y.2)).bind λa=>(ZH a.2 ZtN).bind λz=>(ZC k z).bind λb=>(ZH b.2 ZtO).bind λu=>(ZC k u).bind λc=>some (⟨8,0,⟨#[]⟩,[a.1,b.1,c.1]⟩,c.2)
  else (Zt y.2 ZCa).bind λy=>if y.1=true then (X5 k (adS y.2)).bind λn=>(ZH n.2 kIn).bind λz=>(ZC k z).bind λa=>(ZH a.2 kDo).bind λu=>(ZC k u).bind λb=>some (⟨9,0,n.1,[a.1,b.1]⟩,b.2)
  else (Q4 k y.2).bind λz=>some (z.1,z.2):=by
 rw [ZC];rfl
theorem ZqU (k:Nat) (p:Zf) (t:Zj) (h:ZI p=some (t,p)) {j b2 m:Bool} (w:YF t ZB9=some j) (A:YF t kIf=some b2) (B:YF t ZCa=some m):Zm (k+1) p=
  if j=true then (Yy k (adI p)).bind λn=>(Zs n.2 eqS).bind λz=>(Zm k z).bind λa=>(YJ 56 ([]:List Zc) [a.1]).bind λl=>(Zs a.2 kIn).bind λu=>(Zm k u).bind λb=>(YJ 56 l [b.1]).bind λl2=>some (⟨7,0,n.1,l2⟩,b.2)
  else if b2=true then (Zm k (adI p)).bind λa=>(YJ 56 ([]:List Zc) [a.1]).bind λl=>(Zs a.2 ZtN).bind λz=>(Zm k z).bind λb=>(YJ 56 l [b.1]).bind λl2=>(Zs b.2 ZtO).bind λu=>(Zm k u).bind λc=>(YJ 56 l2 [c.1]).bind λl3=>some (⟨8,0,⟨#[]⟩,l3⟩,c.2)
  else if m=true then (Yy k (adI p)).bind λn=>(Zs n.2 kIn).bind λz=>(Zm k z).bind λa=>(YJ 56 ([]:List Zc) [a.1]).bind λl=>(Zs a.2 kDo).bind λu=>(Zm k u).bind λb=>(YJ 56 l [b.1]).bind λl2=>some (⟨9,0,n.1,l2⟩,b.2)
  else (Yj k p).bind λy=>iCL (Yj k) y k y.2 0:=by
 have o:YF t ⟨#[108,101,116]⟩=some j:=w;have r:YF t ⟨#[105,102]⟩=some b2:=A;have s:YF t ⟨#[102,111,114]⟩=some m:=B;rw [Zm];simp only [h,ZEH,o,r,s];cases j
 ·cases b2
  ·cases m
   ·rfl
   ·rfl
  ·rfl
 ·rfl
section
variable {T:List Zj} {E:Int}
theorem ZAs (ok:ZiW T E) (m:Nat) (S:∀m',m'<=m->AgN T E m' XV Yj):AgN T E m Q4 (λk p=>(Yj k p).bind λy=>iCL (Yj k) y k y.2 0):=by
 intro x p o h hd;obtain ⟨z,eb,x1,p1,o1,X,Q,I,t⟩:=S m (ZEN _) x p o h hd;obtain ⟨b,s1,s2,s3⟩:=ZbS ok X (s:=ZtK) ⟨60,[],rfl,by decide⟩;cases b with
 | true=>
  obtain ⟨B,rfl,hl,Y⟩:=s3 rfl;obtain ⟨rfl,j,rfl,h2,h3⟩:=Q B rfl;have hj:=hd j rfl;obtain ⟨O,P,x2,W,U,Z,R,J,w⟩:=S (T.length-(B+1)) WF _ _ _ Y (λA e=>by cases e;exact ZEN _);refine ⟨opE 4 z O,opE 4 z P,x2,W,U,Z,λA e=> ?_,max I J+2,λk hk=> ?_⟩
  ·obtain ⟨rfl,j2,M,h4,h5⟩:=R A e;cases M;exact ⟨rfl,j,rfl,WF,by rw [Ztq];omega⟩
  ·obtain ⟨k,rfl⟩:∃C,k=C+1:=⟨k-1,WF⟩;have s:=t k WF;dsimp only at s;have G:=w k WF;dsimp only at G;have l:=t (k+1) WF;dsimp only at l;have r:=w (k+1) WF;dsimp only at r;dsimp only;exact ⟨by rw [Ztb,s.1];simp only [ZEH,s1,if_true,G.1],by rw [l.2];simp only [ZEH];rw [ZCc,s2];simp only [ZEH,if_true,r.2]⟩
 | false=>
  obtain ⟨c,t1,t2,t3⟩:=ZbS ok X (s:=Zs7) ⟨61,[61],rfl,by decide⟩;cases c with
  | true=>
   obtain ⟨B,rfl,hl,Y⟩:=t3 rfl;obtain ⟨rfl,j,rfl,h2,h3⟩:=Q B rfl;have hj:=hd j rfl;obtain ⟨O,P,x2,W,U,Z,R,J,w⟩:=S (T.length-(B+1)) WF _ _ _ Y (λA e=>by cases e;exact ZEN _);refine ⟨opE 5 z O,opE 5 z P,x2,W,U,Z,λA e=> ?_,max I J+4,λk hk=> ?_⟩
   ·obtain ⟨rfl,j2,M,h4,h5⟩:=R A e;cases M;exact ⟨rfl,j,rfl,WF,by rw [Ztq];omega⟩
   ·obtain ⟨k,rfl⟩:∃C,k=C+3:=⟨k-3,WF⟩;have s:=t (k+2) WF;dsimp only at s;have G:=w (k+2) WF;dsimp only at G;have l:=t (k+3) WF;dsimp only at l;have r:=w (k+3) WF;dsimp only at r;dsimp only;exact ⟨by rw [Ztb,s.1];simp only [ZEH,s1,ZEO,if_false,t1,if_true,G.1],by rw [l.2];simp only [ZEH];rw [ZCc,s2];simp only [ZEH,ZEO,if_false];rw [ZDh,t2];simp only [ZEH,if_true,r.2]⟩
  | false=>
   refine ⟨z,eb,x1,p1,o1,X,Q,I+4,λk hk=> ?_⟩;obtain ⟨k,rfl⟩:∃C,k=C+3:=⟨k-3,WF⟩;have s:=t (k+2) WF;dsimp only at s;have l:=t (k+3) WF;dsimp only at l;dsimp only;exact ⟨by rw [Ztb,s.1];simp only [ZEH,s1,ZEO,if_false,t1],by rw [l.2];simp only [ZEH];rw [ZCc,s2];simp only [ZEH,ZEO,if_false];rw [ZDh,t2];simp only [ZEH,ZEO,if_false]⟩
theorem ZDr (a b:Zc):YJ 56 [a] [b]=some [a,b]:=Zux [a] b Ha
theorem ZDs (a:Zc):YJ 56 ([]:List Zc) [a]=some [a]:=Zux [] a Ha
theorem ZEd (a b c:Zc):YJ 56 [a,b] [c]=some [a,b,c]:=Zux [a,b] c Ha
theorem lw2 (a b:Zc):lw [a,b]=(a.bk+1)+(b.bk+1):=by simp [lw]
theorem lw3 (a b c:Zc):lw [a,b,c]=(a.bk+1)+(b.bk+1)+(c.bk+1):=by simp [lw];omega
theorem Zur (ok:ZiW T E) (m:Nat) (M:∀Q,Q<m->AgN T E Q ZC Zm) {x:Zd} {p:Zf} {j:Nat} (hj:T.length-j<=m) (hl:j<T.length) (r0:Rl T E x p (some (j+1))) (c1 s:Ma) (kd:Int):
  Ag T E (some j) (λk=>(X5 k x).bind λn=>(ZH n.2 c1).bind λz=>(ZC k z).bind λa=>(ZH a.2 s).bind λu=>(ZC k u).bind λb=>some (⟨kd,0,n.1,[a.1,b.1]⟩,b.2))
   (λk=>(Yy k p).bind λn=>(Zs n.2 c1).bind λz=>(Zm k z).bind λa=>(YJ 56 ([]:List Zc) [a.1]).bind λl=>(Zs a.2 s).bind λu=>(Zm k u).bind λb=>(YJ 56 l [b.1]).bind λl2=>some (⟨kd,0,n.1,l2⟩,b.2)):=by
 obtain ⟨ns,ni,x1,p1,o1,r1,B,v1⟩:=names ok r0;obtain ⟨x2,p2,o2,t1,t2,r2,C⟩:=Zl7 ok r1 c1;obtain ⟨ea,eb,x3,p3,o3,r3,O,S,X⟩:=M (T.length-(j+1)) WF _ _ _ r2 (λo e=>by obtain ⟨r,w,h2⟩:=C o e;obtain ⟨_,_,t,A,h3⟩:=B r w;cases A;omega);obtain ⟨x4,p4,o4,u1,u2,r4,P⟩:=Zl7 ok r3 s
 obtain ⟨fa,fb,x5,p5,o5,r5,g5,U,Y⟩:=M (T.length-(j+1)) WF _ _ _ r4 (λo e=>by
  obtain ⟨r,w,h2⟩:=P o e;obtain ⟨_,t,A,h3,_⟩:=O r w;obtain ⟨G,Z,h4⟩:=C t A;obtain ⟨_,_,j5,e7,h5⟩:=B G Z;cases e7;omega)
 refine ⟨⟨kd,0,ns,[ea,fa]⟩,⟨kd,0,ni,[eb,fb]⟩,x5,p5,o5,r5,λo e=> ?_,max S U+200,λk hk=> ?_⟩
 ·obtain ⟨rfl,j1,a1,a2,a3⟩:=g5 o e;obtain ⟨r,W,b2⟩:=P j1 a1;obtain ⟨rfl,t,c1,s,c3⟩:=O r W;obtain ⟨G,d1,d2⟩:=C t c1;obtain ⟨rfl,f1,j5,f2,f3⟩:=B G d1;cases f2;exact ⟨rfl,j,rfl,WF,by rw [Zoh,lw2];omega⟩
 ·have R:=v1 k WF;have I:=X k WF;dsimp only at I;have J:=Y k WF;dsimp only at J;dsimp only;exact ⟨by simp only [R.1,ZEH,t1,I.1,u1,J.1],by simp only [R.2,ZEH,t2,I.2,ZDs,u2,J.2,ZDr]⟩
theorem ZCb (ok:ZiW T E) (m:Nat) (t:∀Q,Q<m->AgN T E Q ZC Zm) {x:Zd} {p:Zf} {j:Nat} (hj:T.length-j<=m) (hl:j<T.length) (r0:Rl T E x p (some (j+1))):
  Ag T E (some j) (λk=>(ZC k x).bind λa=>(ZH a.2 ZtN).bind λz=>(ZC k z).bind λb=>(ZH b.2 ZtO).bind λu=>(ZC k u).bind λc=>some (⟨8,0,⟨#[]⟩,[a.1,b.1,c.1]⟩,c.2))
   (λk=>(Zm k p).bind λa=>(YJ 56 ([]:List Zc) [a.1]).bind λl=>(Zs a.2 ZtN).bind λz=>(Zm k z).bind λb=>(YJ 56 l [b.1]).bind λl2=>(Zs b.2 ZtO).bind λu=>(Zm k u).bind λc=>(YJ 56 l2 [c.1]).bind λl3=>some (⟨8,0,⟨#[]⟩,l3⟩,c.2)):=by
 obtain ⟨ea,eb,x1,p1,o1,r1,B,R,X⟩:=t (T.length-(j+1)) WF _ _ _ r0 (λo e=>by cases e;exact ZEN _);obtain ⟨x2,p2,o2,t1,t2,r2,C⟩:=Zl7 ok r1 ZtN;obtain ⟨fa,fb,x3,p3,o3,r3,O,S,Y⟩:=t (T.length-(j+1)) WF _ _ _ r2 (λo e=>by obtain ⟨r,w,h2⟩:=C o e;obtain ⟨_,s,A,h3,_⟩:=B r w;cases A;omega);obtain ⟨x4,p4,o4,u1,u2,r4,P⟩:=Zl7 ok r3 ZtO
 obtain ⟨ga,gb,x5,p5,o5,r5,g5,U,Z⟩:=t (T.length-(j+1)) WF _ _ _ r4 (λo e=>by
  obtain ⟨r,w,h2⟩:=P o e;obtain ⟨_,s,A,h3,_⟩:=O r w;obtain ⟨G,e6,h4⟩:=C s A;obtain ⟨_,j5,e7,h5,_⟩:=B G e6;cases e7;omega)
 refine ⟨⟨8,0,⟨#[]⟩,[ea,fa,ga]⟩,⟨8,0,⟨#[]⟩,[eb,fb,gb]⟩,x5,p5,o5,r5,λo e=> ?_,max R (max S U),λk hk=> ?_⟩
 ·obtain ⟨rfl,j1,a1,a2,a3⟩:=g5 o e;obtain ⟨r,W,b2⟩:=P j1 a1;obtain ⟨rfl,s,c1,c2,c3⟩:=O r W;obtain ⟨G,d1,d2⟩:=C s c1;obtain ⟨rfl,j5,f2,f3,f4⟩:=B G d1;cases f2;have h0:(⟨#[]⟩:Ma).size=0:=rfl;exact ⟨rfl,j,rfl,WF,by rw [Zoh,lw3];omega⟩
 ·have I:=X k WF;dsimp only at I;have J:=Y k WF;dsimp only at J;have M:=Z k WF;dsimp only at M;dsimp only;exact ⟨by simp only [I.1,ZEH,t1,J.1,u1,M.1],by simp only [I.2,ZEH,t2,J.2,ZDs,u2,M.2,ZDr,ZEd]⟩
theorem Ag.next {o:Option Nat} {s l:Nat->Option (Zc×Zd)} {i j:Nat->Option (Zc×Zf)} (h:Ag T E o s i) (z:∀k,l (k+1)=s k) (hi:∀k,j (k+1)=i k):Ag T E o l j:=by
 obtain ⟨r,t,I,C,B,G,w,m,p⟩:=h;refine ⟨r,t,I,C,B,G,w,m+1,λk J=> ?_⟩;obtain ⟨k,rfl⟩:∃A,k=A+1:=⟨k-1,WF⟩;rw [z,hi];exact p k WF
theorem Zyb (ok:ZiW T E) (m:Nat) (O:∀l,l<=m->AgN T E l XV Yj) (w:∀l,l<m->AgN T E l ZC Zm):AgN T E m ZC Zm:=by
 intro x p o h hd;obtain ⟨G,t,a1,a2,a3,a4⟩:=Zo8 ok h (s:=ZB9) ⟨108,[101,116],rfl,by decide⟩;obtain ⟨I,P,d1,d2,d3,d4⟩:=Zo8 ok h (s:=kIf) ⟨105,[102],rfl,by decide⟩;obtain ⟨J,A,B,C,s,M⟩:=Zo8 ok h (s:=ZCa) ⟨102,[111,114],rfl,by decide⟩;obtain rfl:t=P:=by rw [a2] at d2;simpa using d2
 obtain rfl:t=A:=by rw [a2] at C;simpa using C
 cases G with
 | true=>
  obtain ⟨j,rfl,hl,r⟩:=a4 rfl;refine (Zur ok m w (hd j rfl) hl r eqS kIn 7).next (λk=> ?_) (λk=> ?_)
  ·rw [Zqy,a1];simp only [ZEH,if_true]
  ·rw [ZqU k p t a2 a3 d3 s];simp only [if_true]
 | false=>
  cases I with
  | true=>
   obtain ⟨j,rfl,hl,r⟩:=d4 rfl;refine (ZCb ok m w (hd j rfl) hl r).next (λk=> ?_) (λk=> ?_)
   ·rw [Zqy,a1];simp only [ZEH,ZEO,if_false,d1,if_true]
   ·rw [ZqU k p t a2 a3 d3 s];simp only [ZEO,if_false,if_true]
  | false=>
   cases J with
   | true=>
    obtain ⟨j,rfl,hl,r⟩:=M rfl;refine (Zur ok m w (hd j rfl) hl r kIn kDo 9).next (λk=> ?_) (λk=> ?_)
    ·rw [Zqy,a1];simp only [ZEH,ZEO,if_false,d1,B,if_true]
    ·rw [ZqU k p t a2 a3 d3 s];simp only [ZEO,if_false,if_true]
   | false=>
    refine (ZAs ok m O x p o h hd).next (λk=> ?_) (λk=> ?_)
    ·rw [Zqy,a1];simp only [ZEH,ZEO,if_false,d1,B];rcases Q4 k x with _| ⟨a,z⟩<;>rfl
    ·rw [ZqU k p t a2 a3 d3 s];simp only [ZEO,if_false]
theorem ZAG (ok:ZiW T E):∀m,AgN T E m ZC Zm:=by
 intro m
 induction m using Nat.strongRecOn with
 | _ m r=>
  have l:∀j,j<=m->AgN T E j Yo ZF:=λj h=>Zyx ok j λk s=>r k WF;have o:∀j,j<=m->AgN T E j ZW Zy:=λj h=>Zxr ok j λk s=>l k WF;have p:∀j,j<=m->AgN T E j XV Yj:=λj h=>Zzc ok j λk s=>o k WF;exact Zyb ok m p r
end
def toB (l:List UInt8):Ma:=⟨l.toArray⟩
theorem ZsQ (l m:List UInt8):toB l++toB m=toB (l++m):=by
 apply ByteArray.ext;rw [ByteArray.data_append];simp [toB]
theorem Zi8 (l:List UInt8):(toB l).size=l.length:=by unfold toB ByteArray.size;simp
theorem ZwO {s t:Ma} (h:s.size+t.size<=1099511627776):Zyp s t=some (s++t):=by
 unfold Zyp;rw [if_pos WF]
def ZhU (u:Nat):List UInt8:=if u=0 then [] else Lib.decDigits u
theorem ZrU {u:Nat} (h:u≠0):ZhU u=ZhU (u/10)++[UInt8.ofNat (48+u%10)]:=by
 unfold ZhU;rw [if_neg h,Lib.decDigits]
 by_cases g:u<10
 ·rw [dif_pos g,if_pos WF,show u%10=u from WF];rfl
 ·rw [dif_neg g,if_neg WF]
theorem ZrV:∀(m:Nat) (x:Int) (l:List UInt8),x.natAbs<10^m-> -9223372036854775808<=x->x<=9223372036854775807->l.length+m<=10000->Yc (m+1) x (toB l)=some (toB (ZhU x.natAbs++l)):=by
 intro m
 induction m with
 | zero=>
  intro x l j _ _ _;have:x=0:=by simp at j;exact j
  subst this;rw [Yc];simp [ZhU]
 | succ m C=>
  intro x l j G I J;rw [Yc]
  by_cases r:x=0
  ·subst r;simp [ZhU]
  ·rw [if_pos (by simpa using r)]
   have k:x.tmod 10=if x<0 then-((x.natAbs%10:Nat):Int) else ((x.natAbs%10:Nat):Int):=by
    split
    ·obtain ⟨n,rfl⟩:∃n:Nat,x= -(n:Int):=⟨x.natAbs,WF⟩;rw [Int.neg_tmod];simp;rfl
    ·obtain ⟨n,rfl⟩:∃n:Nat,x=(n:Int):=⟨x.natAbs,WF⟩
     rfl
   have hd:x.natAbs%10<10:=Nat.mod_lt _ WF;have s:GZ (x.tmod 10)=x.tmod 10:=w64 (by rw [k];split<;>omega) (by rw [k];split<;>omega)
   have t:(if decide (GZ (x.tmod 10)<0)=true then some (GZ (0-GZ (x.tmod 10))) else some (GZ (x.tmod 10)):Option Int)=some ((x.natAbs%10:Nat):Int):=by
    rw [s,k]
    by_cases p:x<0
    ·simp only [if_pos p]
     by_cases B:x.natAbs%10=0
     ·simp [B]
     ·rw [if_pos (by simp;omega),w64 WF WF];congr 1;omega
    ·simp only [if_neg p];rw [if_neg (by simp;omega)]
   have w:GZ (48+((x.natAbs%10:Nat):Int))=((48+x.natAbs%10:Nat):Int):=by rw [w64 WF WF];omega
   have z:IntKind.u8.wrap ((48+x.natAbs%10:Nat):Int)=((48+x.natAbs%10:Nat):Int):=IntWalk.u8_in _ ⟨WF,WF⟩
   have A:Zp1 [((48+x.natAbs%10:Nat):Int)]=toB [UInt8.ofNat (48+x.natAbs%10)]:=by
    unfold Zp1 toB;simp only [List.foldl_cons,List.foldl_nil,Gb]
    rfl
   have o:(x.tdiv 10).natAbs=x.natAbs/10:=by rw [Int.natAbs_tdiv];rfl
   have hq: -9223372036854775808<=x.tdiv 10/\x.tdiv 10<=9223372036854775807:=WF
   rw [t,ZEH,w,z,A,ZwO (by rw [Zi8,Zi8];simp;omega),ZEH,ZsQ,w64 hq.1 hq.2,C _ _ (by rw [o];rw [Nat.pow_succ] at j;omega) hq.1 hq.2 (by simp;omega),o,ZrU (u:=x.natAbs) WF];simp
theorem ZBl (n:Int) (s: -9223372036854775808<=n) (t:n<=9223372036854775807) {k:Nat} (I:100<k):KF k n=some (toB (Lib.itoa n)):=by
 obtain ⟨k,rfl⟩:∃j,k=j+1:=⟨k-1,WF⟩;unfold KF
 by_cases w:n=0
 ·subst w
  have:Lib.itoa 0=[48]:=by
   unfold Lib.itoa;rw [if_neg WF,Lib.decDigits,dif_pos (by decide)];rfl
  rw [if_pos Ha,this];rfl
 ·rw [if_neg (by simpa using w)]
  have hp:n.natAbs<10^20:=by have:(10:Nat)^20=100000000000000000000:=by decide
                             omega
  have p:Yc (k+1) n (⟨#[]⟩:Ma)=some (toB (ZhU n.natAbs)):=by
   have mono:∀(m j:Nat) (x:Int) (l r:Ma),Yc m x l=some r->Yc (m+j) x l=some r:=by
    intro m
    induction m with
    | zero=>intro j x l r h;simp [Yc] at h
    | succ m G=>
     intro j x l r h;rw [show m+1+j=(m+j)+1 from WF,Yc];rw [Yc] at h
     split at h
     ·rename_i c;rw [if_pos c];obtain ⟨a,A,h⟩:=Hq.1 h;obtain ⟨b,B,h⟩:=Hq.1 h;rw [A,ZEH,B,ZEH];exact G j _ _ _ h
     ·rename_i c;rw [if_neg c];exact h
   have o:=ZrV 20 n [] hp s t Ha;have:=mono 21 (k-20) _ _ _ o;rw [show 21+(k-20)=k+1 from WF,HG] at this;exact this
  rw [p,ZEH]
  by_cases g:n<0
  ·rw [if_pos (by simpa using g)]
   have C:Zyp (⟨#[45]⟩:Ma) (toB (ZhU n.natAbs))=some (toB (45::ZhU n.natAbs)):=by
    have hl:=Lib.itoa_length_le n s t;unfold Lib.itoa at hl;rw [if_pos g] at hl;have e:(⟨#[45]⟩:Ma)=toB [45]:=rfl;have z:ZhU n.natAbs=Lib.decDigits n.natAbs:=by unfold ZhU;rw [if_neg WF]
    rw [e,ZwO (by rw [Zi8,Zi8,z];simp at hl ⊢;omega),ZsQ];rfl
   rw [C];unfold Lib.itoa ZhU;rw [if_pos g,if_neg WF];rfl
  ·rw [if_neg (by simpa using g)];unfold Lib.itoa ZhU;rw [if_neg g,if_neg WF]
   congr 3
   omega
def Zfs (c:UInt8):Bool:=decide (48<=c.toNat)&&decide (c.toNat<=57)
def val (a:Nat) (l:List UInt8):Nat:=l.foldl (λa c=>a*10+(c.toNat-48)) a
theorem Zjy (a:Nat):val a []=a:=by simp only [val,List.foldl_nil]
theorem Zf8 (a:Nat) (c:UInt8) (r:List UInt8):val a (c::r)=val (a*10+(c.toNat-48)) r:=by simp only [val,List.foldl_cons]
theorem ZwY (l:List UInt8) (c:UInt8) (a:Nat):val a (l++[c])=val a l*10+(c.toNat-48):=by
 simp only [val,List.foldl_append,List.foldl_cons,List.foldl_nil]
theorem Zwi:∀(l:List UInt8) (a:Nat),a<=val a l
 | [],a=>by rw [Zjy];exact ZEN _
 | c::r,a=>by rw [Zf8];have:=Zwi r (a*10+(c.toNat-48));omega
theorem Zwh:∀(l:List UInt8) (a m:Nat),a<10^m->(∀c∈l,Zfs c=true)->val a l<10^(m+l.length)
 | [],a,m,h,_=>by rw [Zjy];simpa using h
 | c::r,a,m,h,hd=>by
  rw [Zf8];have j:=hd c Ha;simp only [Zfs,ZEM,decide_eq_true_eq] at j;have:=Zwh r (a*10+(c.toNat-48)) (m+1) (by rw [Nat.pow_succ];omega) (λc j=>hd c (by simp [j]));rw [HL,show m+(r.length+1)=m+1+r.length from WF];exact this
theorem Zyg (u:Nat):(UInt8.ofNat (48+u%10)).toNat=48+u%10:=by
 rw [UInt8.toNat_ofNat'];omega
theorem Zkm (u:Nat):Lib.decDigits u=if u<10 then [UInt8.ofNat (48+u%10)] else Lib.decDigits (u/10)++[UInt8.ofNat (48+u%10)]:=by
 conv=>lhs;rw [Lib.decDigits]
 split
 ·rename_i h;rw [Nat.mod_eq_of_lt h]
 ·rfl
theorem Zue (u:Nat):∀c∈Lib.decDigits u,Zfs c=true:=by
 induction u using Nat.strongRecOn with
 | _ u l=>
  intro c k;rw [Zkm] at k
  have j:∀c,c=UInt8.ofNat (48+u%10)->Zfs c=true:=by
   rintro c rfl;simp only [Zfs,Zyg];simp;omega
  split at k
  ·exact j c (by simpa using k)
  ·rcases He.1 k with h| h
   ·exact l (u/10) WF c h
   ·exact j c (by simpa using h)
theorem ZwM (u:Nat):val 0 (Lib.decDigits u)=u:=by
 induction u using Nat.strongRecOn with
 | _ u j=>
  rw [Zkm]
  split
  ·rw [Zf8,Zjy,Zyg];omega
  ·rw [ZwY,j (u/10) WF,Zyg];omega
theorem ZAn (u:Nat):1<=(Lib.decDigits u).length:=by
 rw [Zkm];split<;>simp
theorem ZwN:∀(m u:Nat),u<10^(m+1)->(Lib.decDigits u).length<=m+1
 | 0,u,h=>by rw [Zkm,if_pos (by simpa using h)];simp
 | m+1,u,h=>by
  rw [Zkm]
  split
  ·simp
  ·have:=ZwN m (u/10) (by rw [Nat.pow_succ] at h;omega);simp;omega
theorem ZoU:∀(l:List UInt8) (a:Nat),(∀c∈l,Zfs c=true)->val a l<18446744073709551616->Lib.parseUint10 a l= .ok (val a l)
 | [],a,_,_=>by rw [Zjy];rfl
 | c::r,a,hd,k=>by
  have j:=hd c Ha;simp only [Zfs,ZEM,decide_eq_true_eq] at j;rw [Zf8] at k ⊢;have m:=Zwi r (a*10+(c.toNat-48));rw [Lib.parseUint10,if_pos j,if_neg WF,if_neg WF];exact ZoU r _ (λc j=>hd c (by simp [j])) k
theorem Zuu (n:Int) (h:n.natAbs<1000000000000):Lib.atoiAll (Lib.itoa n)= .ok n:=by
 have j:=ZAn n.natAbs;have l:=Zue n.natAbs;have k:=ZwM n.natAbs
 by_cases p:n<0
 ·have e:Lib.itoa n=45::Lib.decDigits n.natAbs:=by unfold Lib.itoa;rw [if_pos p]
  rw [e];unfold Lib.atoiAll Lib.parseMag;have m:Lib.decDigits n.natAbs≠[]:=λe=>by rw [e] at j;simp at j
  dsimp only;rw [if_pos (show (45:UInt8).toNat=43\/(45:UInt8).toNat=45 from .inr rfl),if_neg m,ZoU _ _ l (by rw [k];omega),k];have o:(45:UInt8).toNat=45:=rfl;simp only [o];rw [if_neg WF,if_neg WF];simp;omega
 ·have e:Lib.itoa n=Lib.decDigits n.natAbs:=by unfold Lib.itoa;rw [if_neg p];congr 1;omega
  rw [e];cases hl:Lib.decDigits n.natAbs with
  | nil=>rw [hl] at j;simp at j
  | cons c r=>
   have s:=l c (by rw [hl];simp);simp only [Zfs,ZEM,decide_eq_true_eq] at s;unfold Lib.atoiAll Lib.parseMag;simp only [if_neg (show ¬(c.toNat=43\/c.toNat=45) from WF)];rw [if_neg Ha,ZoU _ _ (by rw [<-hl];exact l) (by rw [<-hl,k];omega),<-hl,k];simp only;rw [if_neg WF,if_neg WF,if_neg WF]
   congr 1;omega
def ZqI (x:Ma):Option Int:=match Lib.atoiAll x.data.toList with
 | .ok n=>if toB (Lib.itoa n)=x then some n else none
 | _=>none
theorem Ztn (x:Ma) (lo hi:Int):XM x lo hi=match ZqI x with
  | some n=>if lo<=n/\n<=hi then (n,true) else (0,false)
  | none=>(0,false):=by
 unfold XM ZqI;cases Lib.atoiAll x.data.toList with
 | ok n=>
  simp only
  by_cases h:toB (Lib.itoa n)=x
  ·simp only [h,if_true];have j:(⟨(Lib.itoa n).toArray⟩:Ma)=x:=h;simp [j]
  ·simp only [h,if_false];have j:¬(⟨(Lib.itoa n).toArray⟩:Ma)=x:=h;simp [j]
 | «syntax» =>rfl
 | range=>rfl
def JF (x:Ma):Int×Bool:=match ZqI x with
 | some n=>if n.natAbs<1000000000000 then (n,true) else (0,false)
 | none=>(0,false)
theorem Zqk (l:List UInt8):(toB l).data.toList=l:=by simp [toB]
theorem ZjT {x:Ma} {n:Int} (h:ZqI x=some n):Lib.itoa n=x.data.toList:=by
 unfold ZqI at h
 split at h
 ·split at h
  ·rename_i e;cases h;rw [<-e,Zqk]
  ·cases h
 ·cases h
theorem ZxC {x:Ma} {n:Int} (j:n.natAbs<1000000000000) (h:toB (Lib.itoa n)=x):ZqI x=some n:=by
 unfold ZqI;have:x.data.toList=Lib.itoa n:=by rw [<-h,Zqk]
 rw [this,Zuu n j];simp [h]
theorem Ztf (t:Ma) (l:List UInt8) (hl:t.data.toList=l) (C:l.length<=12):∀(m i a:Nat) (n:Nat),i+m=l.length->a<10^i->m<n->VH t n (a:Int) (i:Int)=some (if (l.drop i).all Zfs=true then .inl (val a (l.drop i):Int) else .inr (0,false)):=by
 have k:t.size=l.length:=by rw [<-hl,HY];rfl
 intro m
 induction m with
 | zero=>
  intro i a n J G M;obtain ⟨n,rfl⟩:∃w,n=w+1:=⟨n-1,WF⟩;have hd:l.drop i=[]:=Gs WF;rw [VH,hd];simp [k,Zjy,show ¬((i:Int)<(l.length:Int)) from WF]
 | succ m P=>
  intro i a n J G M;obtain ⟨n,rfl⟩:∃w,n=w+1:=⟨n-1,WF⟩;have j:i<l.length:=WF
  have hd:l.drop i=l[i]::l.drop (i+1):=Ho j;have p:at? t.data.toList (i:Int)=some l[i]:=by rw [hl];exact ZQ j
  have hp:(10:Nat)^i<=10^11:=Nat.pow_le_pow_right WF WF;rw [VH,k,if_pos (ZL j),p,hd];simp only [ZEH];generalize l[i]=c;have I:c.toNat<256:=c.toNat_lt;cases o:Zfs c with
  | false=>
   have s:(if (decide ((c.toNat:Int)<48))=true then some true else some (decide (57<(c.toNat:Int))))=some true:=by
    simp only [Zfs,Bool.and_eq_false_iff,decide_eq_false_iff_not] at o
    by_cases z:(c.toNat:Int)<48
    ·simp [z]
    ·simp only [z,decide_false,ZEO,if_false,ZEK,decide_eq_true_eq];omega
   rw [s];simp [o]
  | true=>
   have r:=o;simp only [Zfs,ZEM,decide_eq_true_eq] at r
   have s:(if (decide ((c.toNat:Int)<48))=true then some true else some (decide (57<(c.toNat:Int))))=some false:=by
    simp only [show ¬((c.toNat:Int)<48) from WF,decide_false,ZEO,if_false,ZEK,decide_eq_false_iff_not];omega
   rw [s];simp only [ZEH,ZEO,if_false]
   have A:IntKind.u8.wrap ((c.toNat:Int)-48)=(c.toNat:Int)-48:=by
    unfold IntKind.wrap;simp [IntKind.bits,IntKind.signed];omega
   have O:(10:Nat)^11=100000000000:=by decide
   have B:GZ (GZ (10*(a:Int))+GZ (IntKind.u8.wrap ((c.toNat:Int)-48)))=((a*10+(c.toNat-48):Nat):Int):=by
    rw [A,w64 (n:=10*(a:Int)) WF WF,w64 (n:=(c.toNat:Int)-48) WF WF,w64 WF WF];omega
   rw [B,wS i WF,P (i+1) (a*10+(c.toNat-48)) n WF (by rw [Nat.pow_succ];omega) WF];simp [o,Zf8]
theorem Zlo (n:Int):Lib.itoa n=if n<0 then 45::Lib.decDigits n.natAbs else Lib.decDigits n.natAbs:=by
 unfold Lib.itoa
 split
 ·rfl
 ·congr 1;omega
theorem Zzn (x:Ma) (hx:x.size<=1048576) {k:Nat} (hk:1000<k):Zgk k x 12=some (JF x):=by
 have z:x.size=x.data.toList.length:=by rw [HY];rfl
 have Q:∀n:Int,n.natAbs<1000000000000->ZqI x=some n->x.data.toList=(if n<0 then 45::Lib.decDigits n.natAbs else Lib.decDigits n.natAbs)/\(Lib.decDigits n.natAbs).length<=12:=λn o h=>by
  rw [<-Zlo];exact ⟨(ZjT h).symm,ZwN 11 _ (by simpa using o)⟩
 have no:(∀n:Int,n.natAbs<1000000000000->ZqI x≠some n)->JF x=(0,false):=λh=>by
  unfold JF;cases B:ZqI x with
  | none=>rfl
  | some n=>
   simp only;rw [if_neg];intro o;exact h n o B
 unfold Zgk
 obtain ⟨below,w,G⟩:∃below:Bool,(if (decide (0<(x.size:Int)))=true then (at? x.data.toList 0).bind λx2=>some (decide ((x2.toNat:Int)=45)) else some false)=some below/\(below=true↔∃r,x.data.toList=45::r):=by
  cases hl:x.data.toList with
  | nil=>exact ⟨false,by rw [z,hl];simp,Ha⟩
  | cons c r=>
   refine ⟨decide ((c.toNat:Int)=45),by rw [z,hl];simp [at?], ?_⟩;simp only [decide_eq_true_eq,List.cons.injEq,exists_and_left,exists_eq',and_true];constructor
   ·intro h;exact UInt8.toNat_inj.1 (by show c.toNat=45;omega)
   ·rintro rfl;rfl
 rw [w];simp only [ZEH]
 obtain ⟨t,ht,O⟩:∃t:Ma,(if below=true then (J2 x 1 (x.size:Int)).bind λx4=>some x4 else some x)=some t/\x.data.toList=(if below=true then 45::t.data.toList else t.data.toList):=by
  cases below with
  | false=>exact ⟨x,rfl,rfl⟩
  | true=>
   obtain ⟨r,M⟩:=G.1 rfl;have j:1<=x.size:=by rw [z,M];simp
   refine ⟨x.extract 1 x.size, ?_, ?_⟩
   ·simp only [if_true];unfold J2;rw [if_pos ⟨WF,WF,WF⟩];rfl
   ·simp only [if_true,ByteArray.data_extract,Array.toList_extract,List.extract_eq_take_drop];rw [M];simp [z,M]
 rw [ht];simp only [ZEH];have P:t.size=t.data.toList.length:=by rw [HY];rfl
 have C:∀n:Int,n.natAbs<1000000000000->ZqI x=some n->t.data.toList=Lib.decDigits n.natAbs/\(below=true↔n<0):=by
  intro n o h;obtain ⟨j,R⟩:=Q n o h
  by_cases l:n<0
  ·rw [if_pos l] at j;have s:below=true:=G.2 ⟨_,j⟩;rw [O,s] at j;simp only [if_true,List.cons.injEq,true_and] at j;exact ⟨j,by simp [s,l]⟩
  ·rw [if_neg l] at j
   have s:below=false:=by
    cases U:below with
    | false=>rfl
    | true=>
     obtain ⟨r,M⟩:=G.1 U;have:=Zue n.natAbs 45 (by rw [<-j,M];simp);simp [Zfs] at this
   rw [O,s] at j;exact ⟨by simpa using j,by simp [s,l]⟩
 by_cases I:t.data.toList.length<1\/12<t.data.toList.length
 ·have e:(if (decide ((t.size:Int)<1))=true then some true else some (decide ((12:Int)<(t.size:Int))))=some true:=by
   rw [P]
   by_cases j:t.data.toList.length<1
   ·rw [if_pos (decide_eq_true WF)]
   ·rw [if_neg (by rw [decide_eq_true_eq];omega),decide_eq_true WF]
  rw [e];simp only [ZEH,if_true];rw [no];intro n o B;obtain ⟨j,_⟩:=C n o B;have R:=ZAn n.natAbs;have Y:=(Q n o B).2;rw [j] at I;omega
 ·have e:(if (decide ((t.size:Int)<1))=true then some true else some (decide ((12:Int)<(t.size:Int))))=some false:=by
   rw [P];simp only [show ¬((t.data.toList.length:Int)<1) from WF,decide_false,ZEO,if_false,ZEK,decide_eq_false_iff_not];omega
  rw [e];simp only [ZEH,ZEO,if_false];have p:=Ztf t _ rfl WF t.data.toList.length 0 0 k WF (by decide) WF;rw [show ((0:Nat):Int)=0 from rfl] at p;rw [p,Gd];cases A:t.data.toList.all Zfs with
  | false=>
   simp only [ZEO,if_false,ZEH];rw [no];intro n o B;obtain ⟨j,_⟩:=C n o B;have:t.data.toList.all Zfs=true:=by rw [j];exact Hj.2 (Zue n.natAbs)
   rw [A] at this;cases this
  | true=>
   simp only [if_true,ZEH];have B:=Zwh t.data.toList 0 0 (by decide) (Hj.1 A);have hp:(10:Nat)^(0+t.data.toList.length)<=10^12:=Nat.pow_le_pow_right WF WF;have b1:(10:Nat)^12=1000000000000:=by decide
   generalize X:val 0 t.data.toList=v at B
   obtain ⟨n,o,b0,W⟩:∃n:Int,(if below=true then some (GZ (0-(v:Int))) else some (v:Int))=some n/\n.natAbs=v/\n=(if below=true then-(v:Int) else (v:Int)):=by
    cases below with
    | false=>exact ⟨v,rfl,Ha,rfl⟩
    | true=>exact ⟨-(v:Int),by simp only [if_true];rw [w64 WF WF];simp,Ha,rfl⟩
   rw [o];simp only [ZEH];rw [ZBl n WF WF WF];simp only [ZEH]
   by_cases S:toB (Lib.itoa n)=x
   ·have:ZqI x=some n:=ZxC WF S;simp only [S,decide_true,Hr,ZEO,if_false];unfold JF;rw [this];simp only;rw [if_pos WF]
   ·simp only [S,decide_false,HK,if_true];rw [no];intro m hm J;obtain ⟨j,R⟩:=C m hm J;have Y:v=m.natAbs:=by rw [<-X,j,ZwM]
    have Z:n=m:=by
     rw [W]
     by_cases s:below=true
     ·rw [if_pos s];have:=R.1 s;omega
     ·rw [if_neg s];have:¬m<0:=λh=>s (R.2 h);omega
    apply S;rw [Z,ZjT J];apply ByteArray.ext;simp [toB]
theorem ZjP (x:Ma) (l:x.size<=1048576) {k:Nat} (j:1000<k):W8 k x=some (JF x):=by
 unfold W8;rw [Zzn x l j];rfl
theorem Zlj (x:Ma) (lo hi:Int) (k: -999999999999<=lo) (l:hi<=999999999999):XM x lo hi=if (JF x).2=true/\lo<=(JF x).1/\(JF x).1<=hi then ((JF x).1,true) else (0,false):=by
 rw [Ztn];unfold JF;cases ZqI x with
 | none=>simp
 | some n=>
  simp only
  by_cases j:n.natAbs<1000000000000
  ·simp [j]
  ·rw [if_neg j,if_neg WF];simp
end Go.Proofs.YtmcfegjoccgpoaaGreatDoor
