import Derived.Test.YtmcfegjoccgpoaaGreatDoorZPkA
set_option linter.unusedSimpArgs false
set_option linter.unusedVariables false
namespace Go.Proofs.YtmcfegjoccgpoaaGreatDoor.Am
open Go.RowKit
def Zhn:List (Nat×V)->Option (List (List CV))
 | []=>some []
 | (_,v)::rest=>match Zhm v,Zhn rest with
  | some c,some cs=>some (c::cs)
  | _,_=>none
def Zcp:List Value->Option (List L)
 | []=>some []
 | .int k n::j=>if k.wrap n=n then (Zcp j).map (.int k n:: ·) else none
 | .bool b::j=>(Zcp j).map (.bool b:: ·)
 | .string s::j=>if s.size<=9223372036854775807 then (Zcp j).map (.str s:: ·) else none
 | .slice none 0 0::j=>(Zcp j).map (.sl []:: ·)
 | _=>none
def Zqo (O:St):V->Option (List (List L)×Bool×List Nat×Prop)
 | .one .nil=>some ([],true,[],True)
 | .one (.l (.sl k))=>some (k,Ue k,[],True)
 | .one (.own j m)=>match O.ar.lookup j with
  | some (some A)=>if j<1000000 then (if Ue A.es then some (A.es,true,[],A.es.length=m) else some (A.es,A.fr,[j],A.es.length=m)) else none
  | _=>none
 | .one (.vw j n p l W)=>match O.ar.lookup j with
  | some (some A)=>if Ue A.es then some ((A.es.take l).drop p,true,[],A.es.length=n/\∀z∈A.es,z.length=W) else none
  | _=>none
 | _=>none
def Zqp (P:Program) (O:St) (k:TI) (t j:Nat) (v:V):Option (List (List L)×Bool×List Nat×Prop):=
 if t=j then Zqo O v else match ti P j,v with
  | some ⟨.str,_,_,_⟩,.one (.l (.str s))=>some (byE s,true,[],k.size=1)
  | _,_=>none
def over {α:Type} (xs ys:List α):List α:=ys.take xs.length++xs.drop ys.length
def Wu (P:Program) (O:St) (dst:Option Nat):Op->Option Eff
 | .box _ x=>match dst,opd O x with
  | some d,some v=>match Zhm v,O.bx.lookup d with
   | some cs,none=>if d<O.nt then some ⟨True,[(d,.one (.box d 0))],[(d,cs)],[]⟩ else none
   | _,_=>none
  | _,_=>none
 | .alloc t=>match dst,ti P t with
  | some d,some i=>match ZiT i.zero,O.bx.lookup d with
   | some cs,none=>if d<O.nt then some ⟨True,[(d,.one (.box d 0))],[(d,cs)],[]⟩ else none
   | _,_=>none
  | _,_=>none
 | .store t p v=>match dst,ti P t,opd O v with
  | none,some i,some x=>match Zhm x with
   | some J=>if J.length=i.size then match opd O p with
     | some (.one (.box k I))=>match O.bx.lookup k with
      | some cs=>if I+J.length<=cs.length/\U3 cs=true then some ⟨True,[],[(k,cs.take I++J++cs.drop (I+J.length))],[]⟩ else none
      | none=>none
     | some (.one (.elt E n j W I))=>match O.ar.lookup E,Zk1 O J with
      | some (some A),some (Y,f,G,q)=>match A.es[j]? with
       | some el=>if el.length=W/\I+Y.length<=W/\E∉G/\G.Nodup/\E<1000000 then
         some ⟨A.es.length=n/\q,[],[],(E,some ⟨A.fr&&f,setAt A.es j I Y⟩)::G.map (λR=>(R,none))⟩ else none
       | none=>none
      | _,_=>none
     | some (.one (.nel E j W I n))=>match O.ar.lookup E,J with
      | some (some A),[.l x]=>match A.es[j]? with
       | some el=>match el[I]? with
        | some (.sl C)=>if A.fr=true/\el.length=W/\x.flat=true then some ⟨n<C.length/\(∀y∈C,y.length=1)/\Ue C=true,[],[],[(E,some ⟨true,A.es.set j (el.set I (.sl (C.set n [x])))⟩)]⟩ else none
        | _=>none
       | none=>none
      | _,_=>none
     | _=>none
    else none
   | none=>none
  | _,_,_=>none
 | .buildSlice t len ps=>match dst,ti P t,parts O ps.toList with
  | some d,some ⟨.slice M,_,_,_⟩,some vs=>match ti P M,Zhn vs with
   | some r,some S=>match Zm7 O S with
    | some (es,f,G,q)=>if d<O.nt/\vs.map (·.1)=List.range len/\S.all (λc=>c.length==r.size)/\G.Nodup/\len*r.size<=16777216/\len<=16777216/\r.zero.length=r.size/\(O.ar.lookup (64*d)).isNone then
      some ⟨q/\64*d<1000000,[(d,.one (.own (64*d) es.length))],[],(64*d,some ⟨f,es⟩)::G.map (λR=>(R,none))⟩ else none
    | none=>none
   | _,_=>none
  | _,_,_=>none
 | .makeSlice t l c=>match dst,ti P t,num O l,num O c with
  | some d,some ⟨.slice M,_,_,_⟩,some (_,n),some (_,m)=>match ti P M with
   | some r=>match Zcp r.zero with
    | some z=>if d<O.nt/\r.zero.length=r.size/\0<r.size/\(O.ar.lookup (64*d)).isNone then
      some ⟨n=m/\0<=n/\n<=9223372036854775807/\r.bytes*n<=281474976710656/\64*d<1000000,[(d,.one (.own (64*d) n.toNat))],[],[(64*d,some ⟨true,List.replicate n.toNat z⟩)]⟩ else none
    | none=>none
   | none=>none
  | _,_,_,_=>none
 | .call { callee:=.builtin .append,args:=U,argTypes:=T}=>match dst,U.toList,T.toList with
  | some d,[s,x],[t,Z]=>if d<O.nt then match ti P t,opd O s,opd O x with
    | some ⟨.slice M,_,_,_⟩,some sv,some X=>match ti P M with
     | none=>none
     | some r=>match Zqp P O r t Z X with
      | some (C,f,G,q)=>if r.zero.length=r.size then match sv with
        | .one .nil=>if (O.ar.lookup (64*d)).isNone then
          some ⟨q/\64*d<1000000/\(∀z∈C,z.length=r.size)/\C.length<=140737488355328/\C.length*r.bytes<=140737488355328,[(d,.one (.own (64*d) C.length))],[],(64*d,some ⟨f,C⟩)::G.map (λR=>(R,none))⟩ else none
        | .one (.own E n)=>match O.ar.lookup E with
         | some (some A)=>if E∉G/\E<1000000 then
           some ⟨q/\A.es.length=n/\(∀z∈A.es,z.length=r.size)/\(∀z∈C,z.length=r.size)/\n+C.length<=140737488355328/\(n+C.length)*r.bytes<=140737488355328,[(d,.one (.own E (n+C.length)))],[],(E,some ⟨A.fr&&f,A.es++C⟩)::G.map (λR=>(R,none))⟩ else none
         | _=>none
        | .one (.vw E n lo m _)=>match O.ar.lookup E with
         | some (some A)=>if lo=0/\E∉G/\E<1000000/\(O.ar.lookup (64*d)).isNone then
           some ⟨q/\A.es.length=n/\64*d<1000000/\0<C.length/\(∀z∈A.es,z.length=r.size)/\(∀z∈C,z.length=r.size)/\m+C.length<=140737488355328/\(m+C.length)*r.bytes<=140737488355328,[(d,.one (.own (64*d) (m+C.length)))],[],(64*d,some ⟨A.fr&&f,A.es.take m++C⟩)::(E,none)::G.map (λR=>(R,none))⟩ else none
         | _=>none
        | _=>none
       else none
      | none=>none
    | _,_,_=>none
   else none
  | _,_,_=>none
 | .call { callee:=.builtin .copy,args:=U,argTypes:=T}=>match dst,U.toList,T.toList with
  | some d,[s,x],[t,Z]=>if d<O.nt then match ti P t,opd O s,opd O x with
    | some ⟨.slice M,_,_,_⟩,some (.one (.own E n)),some X=>match ti P M,O.ar.lookup E,Zqo O X with
     | some r,some (some A),some (C,true,[],q)=>if E<1000000 then
       some ⟨q/\A.es.length=n/\C.length<=9223372036854775807/\n<=9223372036854775807/\(∀z∈A.es,z.length=r.size)/\(∀z∈C,z.length=r.size),[(d,.one (.l (.int .i64 (min C.length n:Nat))))],[],[(E,some ⟨A.fr,over A.es C⟩)]⟩ else none
     | _,_,_=>none
    | _,_,_=>none
   else none
  | _,_,_=>none
 | .slice t x none (some (.const hi)) none=>match dst,ti P t,opd O x,num O (.const hi) with
  | some d,some ⟨.slice M,_,_,_⟩,some (.one (.own E n)),some (_,m)=>match ti P M,O.ar.lookup E with
   | some r,some (some A)=>if d<O.nt/\E<1000000/\(O.ar.lookup (64*d)).isNone then
     some ⟨A.es.length=n/\1<=m/\m<=n/\64*d<1000000/\∀z∈A.es,z.length=r.size,[(d,.one (.own (64*d) m.toNat))],[],[(64*d,some ⟨A.fr,A.es.take m.toNat⟩),(E,none)]⟩ else none
   | _,_=>none
  | _,_,_,_=>none
 | _=>none
section
variable {e:Env} {O:St} {w:World} {N:Nat->Prop} {w0:Bs} {a:Act} {P:Program}
theorem KV:∀{vs:List Value} {t:List L},Zcp vs=some t->OwL N w t vs []/\t.length=vs.length
 | [],_,h=>by simp [Zcp] at h;subst h;simp [OwL]
 | v::vs,_,h=>by
  unfold Zcp at h
  split at h
  ·rename_i j;cases j
  ·rename_i k n z j;injection j with l m
   subst l m
   split at h
   ·rename_i A;obtain ⟨t,s,rfl⟩:=Hf.1 h;obtain ⟨p,r⟩:=KV s;exact ⟨by simp only [OwL];exact ⟨_,vs,[],[],rfl,rfl,by simp [Ow,InK,A],p⟩,by simp [r]⟩
   ·cases h
  ·rename_i b z j;injection j with l m
   subst l m;obtain ⟨t,s,rfl⟩:=Hf.1 h;obtain ⟨p,r⟩:=KV s;exact ⟨by simp only [OwL];exact ⟨_,vs,[],[],rfl,rfl,by simp [Ow],p⟩,by simp [r]⟩
  ·rename_i b z j;injection j with l m
   subst l m
   split at h
   ·rename_i A;obtain ⟨t,s,rfl⟩:=Hf.1 h;obtain ⟨p,r⟩:=KV s;exact ⟨by simp only [OwL];exact ⟨_,vs,[],[],rfl,rfl,by simp [Ow,Fit,A],p⟩,by simp [r]⟩
   ·cases h
  ·rename_i z j;injection j with l m
   subst l m;obtain ⟨t,s,rfl⟩:=Hf.1 h;obtain ⟨p,r⟩:=KV s;exact ⟨by simp only [OwL];exact ⟨_,vs,[],[],rfl,rfl,by simp only [Ow];exact ⟨none,0,rfl,WF,.inl Ha⟩,p⟩,by simp [r]⟩
  ·cases h
theorem ZqZ {W:Nat}:∀(us:List Value) (k:Nat) (cells:Array Value),(∀u∈us,u.cells.size=W)->(k+us.length)*W<=cells.size->
  ∃cur,Instr.fill (λi=>some (i*W,W)) cells ((us.zipIdx k).map λp=>(p.2,p.1))=some cur/\cur.toList=cells.toList.take (k*W)++us.flatMap (λu=>u.cells.toList)++cells.toList.drop ((k+us.length)*W)
 | [],k,cells,_,_=>⟨cells,rfl,Ha⟩
 | u::us,k,cells,h,hl=>by
  have m:=h u Ha;simp only [HL] at hl
  have t:k*W+W<=cells.size:=by
   have:(k+1)*W<=cells.size:=HA (Gn _ WF) hl;rw [HE,Nat.one_mul] at this;exact this
  have j:=Zkg (k*W) u.cells.toList 0 cells (by simp [m];omega);have l:u.cells.toList.length=W:=by simp [m]
  obtain ⟨cur,r,s⟩:=ZqZ us (k+1) ((u.cells.toList.zipIdx 0).foldl (λcs (x:Value×Nat)=>cs.setIfInBounds (k*W+x.2) x.1) cells) (λx z=>h x (by simp [z])) (by
   rw [<-HY,j];simp;rw [show k+1+us.length=k+(us.length+1) from WF];omega)
  refine ⟨cur, ?_, ?_⟩
  ·simp;unfold Instr.fill;simp only;rw [if_neg (by simp [m];omega),<-r]
   congr 1
   rw [<-Array.foldl_toList];simp
  ·rw [s,j,l];simp only [Gr]
   have t1:(cells.toList.take (k*W)++u.cells.toList).length=(k+1)*W:=by
    rw [Hp,Hg,l,HY,HE,Nat.one_mul];omega
   rw [List.take_append,t1,Gl (by rw [t1];exact ZEN _),Gz,Gi,HG];have t2:k*W+W=(k+1)*W:=by rw [HE,Nat.one_mul]
   have t3:(k+1+us.length)*W=(k+1)*W+us.length*W:=HE _ _ _
   have t4:(cells.toList.take (k*W)++u.cells.toList++cells.toList.drop (k*W+W)).drop ((k+1+us.length)*W)=cells.toList.drop ((k+(us.length+1))*W):=by
    rw [t3,<-GB,<-t1,GG,GB,t2,<-t3]
    congr 2;omega
   rw [t4];simp
theorem ZlB (h:ZJ N w0 e O a w):∀{vs:List (Nat×V)} {us:List Value} {k:List (List CV)},Zhn vs=some k->vs.length=us.length->(∀(j:Nat) p q,vs[j]? =some p->us[j]? =some q->p.2.rel e O w q)->
  Zxn e O w k (us.flatMap λu=>u.cells.toList)/\us.map (λu=>u.cells.size)=k.map List.length
 | [],us,_,l,hl,_=>by
  simp [Zhn] at l;subst l;have:us=[]:=by simpa using hl.symm
  subst this;simp [Zxn]
 | (i,v)::vs,[],_,_,hl,_=>by simp at hl
 | (i,v)::vs,u::us,_,l,hl,m=>by
  simp only [Zhn] at l
  split at l
  ·rename_i c cs z A;obtain rfl:=ZEI l;obtain ⟨s,t⟩:=ZlB h A (by simpa using hl) (λj p q hp hq=>m (j+1) p q (by simpa using hp) (by simpa using hq));have r:=(m 0 (i,v) u rfl rfl).cellsL z;refine ⟨?_, ?_⟩
   ·simp only [List.flatMap_cons,Zxn];exact ⟨_,_,rfl,r,s⟩
   ·simp only [Hi,t]
    congr 1
    have:=r.len
    simpa using this
  ·cases l
theorem Zlb (h:ZJ N w0 e O a w) {xv:V} {x:Value} (E:xv.rel e O w x) {ys:List (List L)} {f:Bool} {τs:List Nat} {q:Prop} (k:Zqo O xv=some (ys,f,τs,q)) (hq:q) {W:Nat} (hW:∀z∈ys,z.length=W):Src N e O w x ys W f τs:=by
 unfold Zqo at k
 split at k
 ·simp only [ZEK,ZEL] at k;obtain ⟨rfl,rfl,rfl,rfl⟩:=k;have hv:=E;subst hv;exact ⟨⟨none,0,[],[],rfl,Ha,λ_=>rfl,Ha,Ha,by simp [RpE],by simp [JQ],λ_=>⟨[],by simp [OwE],Ha,Ha⟩⟩,Ha⟩
 ·simp only [ZEK,ZEL] at k;obtain ⟨rfl,rfl,rfl,rfl⟩:=k;rename_i ys;obtain ⟨F,h1,h2⟩:=E;simp only [Rp] at h1;obtain ⟨A,c,h3,h4,h5,⟨h6,h7⟩| ⟨b,c0,xs,s,Z,k2,X,k4,k5⟩⟩:=h1
  ·subst h6;exact ⟨⟨A,c,[],[],h3,Ha,λ_=>rfl,Ha,Ha,by simp [RpE],by simp [JQ],λ_=>⟨[],by simp [OwE],Ha,Ha⟩⟩,Ha⟩
  ·subst Z X;refine ⟨⟨_,c,xs,s,h3,by rw [k5.len,ZT hW],Ha,λad r j u J=> ?_,k5.one,k5,λx E=>.inl (h2 x (by simp [E])),λhf=> ?_⟩,Ha⟩
   ·obtain rfl:=ZEI r;rw [Addr.add_lit];exact k4 j u J
   ·obtain ⟨rfl,o⟩:=k5.flat hf;exact ⟨[],o,Ha,Ha⟩
 ·rename_i τ m
  split at k
  ·rename_i A C;obtain ⟨A',t,g1,_⟩:=E;rw [C] at t;obtain rfl:=ZEI t;have b1:∀hm:A.es.length=m,x=e.ρ τ:=λhm=>(g1 A rfl).2 hm
   split at k
   rotate_left
   ·cases k
   rename_i G
   split at k
   ·rename_i I;simp only [ZEK,ZEL] at k;obtain ⟨rfl,rfl,rfl,rfl⟩:=k;rw [b1 hq];obtain ⟨p',c,l,_,_,T| ⟨b,vs,s,W',rfl,q2,q3,q4,q5,q6⟩⟩:=h.elems C G
    ·exact ⟨⟨p',c,[],[],l,by simp [T],λ_=>by simp [T],Ha,Ha,by simp [T,RpE],by simp [JQ],λ_=>⟨[],by simp [T,OwE],Ha,Ha⟩⟩,Ha⟩
    ·refine ⟨⟨_,c,vs,s,l,by rw [q4.len,ZT hW],Ha,λad r j u J=> ?_,q4.one,q4,λx E=>.inl (q6 x E),λhf=> ?_⟩,Ha⟩
     ·obtain rfl:=ZEI r;rw [Addr.add_lit];exact q2 j u J
     ·obtain ⟨rfl,o⟩:=q4.flat I;exact ⟨[],o,Ha,Ha⟩
   ·simp only [ZEK,ZEL] at k;obtain ⟨rfl,rfl,rfl,rfl⟩:=k;rw [b1 hq];have b6:=h.ar τ A C;obtain ⟨te,xs,s,r1,r2,r3,r4,r5⟩:=b6.row hW
    have b2:∀b∈s,¬Mut e O b:=by
     intro b hb;cases hf:A.fr
     ·exact r4 hf b hb
     ·obtain ⟨Z,k2,X,k4⟩:=r3 hf;exact h.inner C G (X b hb) (λe'=>k4 b e' hb)
    obtain ⟨p',c,l,_,_⟩:=h.elems C G;refine ⟨⟨p',c,xs,s,l,r1.1,λhn=> ?_,λad r j u J=> ?_,r2.one,r2,λx E=>.inl (b2 x E),λhf=> ?_⟩,λκ b9=> ?_⟩
    ·rcases r1.2 with ⟨_,g⟩| ⟨_,_,_,g,_⟩
     ·exact g
     ·rw [l] at g;injection g with g;rw [hn] at g;cases g
    ·rcases r1.2 with ⟨g,g'⟩| ⟨g0,c1,c3,g,_⟩
     ·have hl:xs.length=0:=by rw [r1.1,g',Nat.zero_mul]
      have b8:=HI hl;rw [b8] at J;simp at J
     ·rw [l] at g;injection g with g
      rw [r] at g;obtain rfl:=ZEI g;exact r1.cells (by rw [l,r];rfl) j u J
    ·obtain ⟨Z,k2,X,k4⟩:=r3 hf;exact ⟨s,Z,k2,λb hb=>⟨τ,Ha,X b hb⟩⟩
    ·obtain rfl:=Hu.1 b9;exact ⟨A,C,G⟩
  ·cases k
 ·rename_i τ n R Y W2
  split at k
  ·rename_i A C
   split at k
   ·rename_i I;simp only [ZEK,ZEL] at k;obtain ⟨rfl,rfl,rfl,rfl⟩:=k;obtain ⟨hn,b3⟩:=hq;obtain ⟨A',t,g1,_⟩:=E;rw [C] at t;obtain rfl:=ZEI t;obtain ⟨c4,hm,p,c,q,l,hq,rfl⟩:=(g1 A rfl).2 hn;obtain ⟨p',c',S,g2,g3,g4⟩:=h.Zat C;rw [l] at S;injection S with e1 e2 e3
    subst e1 e3
    by_cases b4:R<c
    case neg=>
     have h0:((A.es.take Y).drop R)=[]:=HI (by rw [HR,Hg];omega);have h9:Y-R=0:=WF
     rw [h0,h9];exact ⟨⟨_,_,[],[],rfl,Ha,λ_=>rfl,Ha,Ha,by simp [RpE],by simp [JQ],λ_=>⟨[],by simp [OwE],Ha,Ha⟩⟩,Ha⟩
    have b7:q=if c=R then p else p.map (·.add (R*W2)):=by rw [if_neg WF,hq (.inl b4)]
    subst b7
    have U:∃F,Rp w (.sl A.es) (.slice p n c) F:=by
     rcases g4 with g4| ⟨b,vs,s,W',rfl,q2,q3,q4,q5⟩
     ·exact ⟨[],by simp only [Rp];exact ⟨p,c,by rw [e2],g2,g3,.inl ⟨g4,trivial⟩⟩⟩
     ·exact ⟨b::s,by simp only [Rp];exact ⟨_,c,by rw [e2],g2,g3,.inr ⟨b,0,vs,s,rfl,(h.Yp (κ:=.a τ) ⟨A,C⟩ b q5).1,rfl,q2,q4⟩⟩⟩
    obtain ⟨F,U⟩:=U;obtain ⟨F',T,_⟩:=U.cut b3 (l:=R) (hh:=Y) WF WF
    have b5:Ue ((A.es.take Y).drop R)=true:=by
     simp only [Ue,Hj] at I ⊢;exact λz hz=>I z (HP (GJ hz))
    have b0:((A.es.take Y).drop R).length=Y-R:=by rw [HR,Hg];omega
    simp only [Rp] at T;obtain ⟨A2,c2,X,k4,k5,⟨k6,k7⟩| ⟨b,c0,xs,s,Z,k2,k8,k9,M⟩⟩:=T
    ·rw [k6] at b0 ⊢;rw [<-b0];exact ⟨⟨_,_,[],[],rfl,Ha,λ_=>rfl,Ha,Ha,by simp [RpE],by simp [JQ],λ_=>⟨[],by simp [OwE],Ha,Ha⟩⟩,Ha⟩
    ·subst Z;obtain ⟨rfl,o⟩:=M.flat (N:=N) b5;refine ⟨⟨_,c2,xs,[],X,by rw [M.len,ZT hW],Ha,λad r j u J=> ?_,M.one,M,by simp [JQ],λ_=>⟨[],o,Ha,Ha⟩⟩,Ha⟩;obtain rfl:=ZEI r;rw [Addr.add_lit];exact k9 j u J
   ·cases k
  ·cases k
 ·cases k
end
section
variable {e:Env} {O:St} {w:World} {N:Nat->Prop} {w0:Bs} {a:Act} {P:Program}
theorem Zm8 {us:List (Nat×Value)} {n:Nat} (h:us.map (·.1)=List.range n):us=(us.map (·.2)).zipIdx.map λp=>(p.2,p.1):=by
 apply List.ext_getElem?;intro j;rw [HX,List.getElem?_zipIdx,HX];cases hj:us[j]? with
 | none=>simp
 | some p=>
  have k:(us.map (·.1))[j]? =some p.1:=by rw [HX,hj];rfl
  rw [h,GK (by
   have:=(Hh.1 hj).1;have hl:=congrArg List.length h;simp at hl;omega)] at k
  have l:=ZEI k;simp [l]
theorem Zi5 (h:ZJ N w0 e O a w) {d:Nat} {t len:Nat} {s:Array (Nat×Operand)} {f:Eff} (E:Wu P O (some d) (.buildSlice t len s)=some f) (hs:f.side):
  ∃u w' M,(Instr.buildSlice t len (s.map λ(i,x)=>(i,a.eval x))).run P w= .ok u w'/\ZJ N w0 M (O.app f) (a.put (some d) u) w':=by
 simp only [Wu] at E
 split at E
 ·rename_i d' et _ _ _ vs b3 hi b7;obtain rfl:=ZEI b3;have ht:=Xp hi
  split at E
  ·rename_i m J U b2
   split at E
   ·rename_i es fr c3 q b1
    split at E
    ·rename_i hc;obtain ⟨hd,hr,hw,b6,c5,c4,hz,hn⟩:=hc;obtain rfl:=ZEI E;obtain ⟨hs,b4⟩:=hs;obtain ⟨q1,q2⟩:=Zfp h b7;have I:=q1.trans hr;have hl:vs.length=len:=by have:=congrArg List.length hr;simpa using this
     have W:(s.toList.map λx=>(x.1,a.eval x.2)).length=len:=by have:=congrArg List.length I;simpa using this
     have Y:∀(j:Nat) p u,vs[j]? =some p->((s.toList.map λx=>(x.1,a.eval x.2)).map (·.2))[j]? =some u->p.2.rel e O w u:=by
      intro j p u hp hu;rw [HX] at hu;obtain ⟨r,b8,rfl⟩:=Hf.1 hu;exact q2 j p r hp b8
     obtain ⟨c1,c2⟩:=ZlB h b2 (by rw [hl,HO,W]) Y;obtain ⟨k1,k2,k3,k4⟩:=Zrp h c1 b1 hs
     have Z:∀c∈J,c.length=m.size:=by
      intro c hc;rw [Hj] at hw
      simpa using hw c hc
     have b9:∀u∈(s.toList.map λx=>(x.1,a.eval x.2)).map (·.2),u.cells.size=m.size:=by
      intro u hu;have:u.cells.size∈J.map List.length:=by rw [<-c2];exact Hd.2 ⟨u,hu,rfl⟩
      obtain ⟨c,R,S⟩:=Hd.1 this;rw [<-S];exact Z c R
     have X:es.length=len:=by
      have h1:=congrArg List.length k4;have h2:=congrArg List.length c2;simp at h1 h2;rw [h1,<-h2]
      simpa using W
     have hW:∀z∈es,z.length=m.size:=by
      intro z c0;have:z.length∈J.map List.length:=by rw [<-k4];exact Hd.2 ⟨z,c0,rfl⟩
      obtain ⟨c,R,S⟩:=Hd.1 this;rw [<-S];exact Z c R
     obtain ⟨zv,z1,z2⟩:=ZlJ U w;have c6:zv.cells.size=m.size:=by rw [<-hz,<-z2];simp
     have l:((s.toList.map λx=>(x.1,a.eval x.2)).map (·.2)).length=len:=by rw [HO,W]
     have fin:∀cells:Array Value,cells.size=len*m.size->∃k,Instr.fill (λi=>some (i*m.size,m.size)) cells (s.map λ(i,x)=>(i,a.eval x)).toList=some k/\k.toList=((s.toList.map λx=>(x.1,a.eval x.2)).map (·.2)).flatMap (λu=>u.cells.toList)/\k.size=es.length*m.size:=by
      intro cells C;obtain ⟨k,f1,f2⟩:=ZqZ ((s.toList.map λx=>(x.1,a.eval x.2)).map (·.2)) 0 cells b9 (by rw [HH,l,C];exact ZEN _);refine ⟨k, ?_, ?_, ?_⟩
      ·have:(s.map λ(i,x)=>(i,a.eval x)).toList=s.toList.map λx=>(x.1,a.eval x.2):=by simp
       rw [this,Zm8 I];exact f1
      ·rw [f2,Nat.zero_mul,Gi,Hs,HH,l,Gs (by simp [C]),HG]
      ·rw [<-HY,f2,Nat.zero_mul,Gi,Hs,HH,l,Gs (by simp [C]),HG];have:=RpE.len k1.choose_spec.1;rw [this,ZT hW]
     have b5:O.ar.lookup (64*d)=none:=by simpa using hn
     have b0:∀k:Array Value,k.toList=((s.toList.map λx=>(x.1,a.eval x.2)).map (·.2)).flatMap (λu=>u.cells.toList)->k.size=es.length*m.size->
       ∃M,ZJ N w0 M (stA O ((d,.one (.own (64*d) es.length))::O.tm) (64*d) ⟨fr,es⟩ c3) (a.put (some d) (.slice (some ⟨w.heap.size,0,none⟩) len len)) (w.alloc (.cells k et)):=by
      intro k G C;have:=h.Zwv hd b4 b5 et (by rw [G];exact k1) (by rw [G];exact k2) k3 (λ_=>b6) hW (by rw [X];omega) C;rw [X] at this ⊢;exact ⟨_,this⟩
     by_cases h0:len*m.size=0
     ·obtain ⟨k,f1,f2,f3⟩:=fin ((Array.range (len*m.size)).map ((#[]:Array Value)[· %(#[]:Array Value).size]!)) Ha;obtain ⟨M,T⟩:=b0 k f2 f3;refine ⟨_,_,M, ?_,T⟩;simp only [Instr.buildSlice,Sem.run_bind,run_underlying ht,Result.andThen_ok,Yr U];have A:¬(len*m.size>2^24):=by omega
      rw [if_neg A,if_pos h0];simp only [Sem.run_pure,Sem.run_bind,Result.andThen_ok,f1,newRow,run_newObj]
      rfl
     ·obtain ⟨k,f1,f2,f3⟩:=fin ((Array.range (len*m.size)).map (zv.cells[· %zv.cells.size]!)) Ha;obtain ⟨M,T⟩:=b0 k f2 f3;refine ⟨_,_,M, ?_,T⟩;simp only [Instr.buildSlice,Sem.run_bind,run_underlying ht,Result.andThen_ok,Yr U];have A:¬(len*m.size>2^24):=by omega
      simp only [A,if_false,h0,Sem.run_pure,Sem.run_bind,z1,Result.andThen_ok,f1,newRow,run_newObj]
      rfl
    ·cases E
   ·cases E
  ·cases E
 ·cases E
theorem Zb2 {z:List L} {vs:List Value} (h:OwL N w z vs []):∀n,OwE N w (List.replicate n z) (List.replicate n vs).flatten []
 | 0=>by simp [OwE]
 | n+1=>by
  simp only [List.replicate_succ,List.flatten_cons,OwE];exact ⟨vs,_,[],[],rfl,rfl,h,Zb2 h n⟩
theorem ZmN (z:Array Value) (n:Nat):((Array.range (n*z.size)).map (z[· %z.size]!)).toList=(List.replicate n z.toList).flatten:=by
 apply List.ext_getElem?;intro j;have l:((List.replicate n z.toList).flatten).length=n*z.size:=Ha
 by_cases hj:j<n*z.size
 ·have m:((Array.range (n*z.size)).map (z[· %z.size]!)).toList[j]? =some (z[j%z.size]!):=by simp [hj]
  rw [m];clear m
  induction n generalizing j with
  | zero=>simp at hj
  | succ n p=>
   rw [List.replicate_succ,List.flatten_cons]
   by_cases k:j<z.size
   ·rw [Gq (by simpa using k),Nat.mod_eq_of_lt k];simp [k]
   ·rw [Ge (by simpa using k),HY,<-p (j-z.size) Ha (by rw [HE] at hj;omega)];rw [Nat.mod_eq_sub_mod WF]
 ·rw [Gj (by simp;omega),Gj (by rw [l];omega)]
theorem ZjW (h:ZJ N w0 e O a w) {d:Nat} {t:Nat} {l c:Operand} {f:Eff} (p:Wu P O (some d) (.makeSlice t l c)=some f) (hs:f.side):
  ∃u w' e',(Instr.makeSlice t (a.eval l) (a.eval c)).run P w= .ok u w'/\ZJ N w0 e' (O.app f) (a.put (some d) u) w':=by
 simp only [Wu] at p
 split at p
 ·rename_i d' S _ _ _ k n k' m T hi hl hc;obtain rfl:=ZEI T;have ht:=Xp hi
  split at p
  ·rename_i s r
   split at p
   ·rename_i z hz
    split at p
    ·rename_i I;obtain ⟨hd,M,Z,hn⟩:=I;obtain rfl:=ZEI p;obtain ⟨rfl,s1,s2,s3,U⟩:=hs;obtain ⟨g1,_⟩:=ZgH h hl;obtain ⟨g2,_⟩:=ZgH h hc;obtain ⟨n,rfl⟩:=Int.eq_ofNat_of_zero_le s1;obtain ⟨o1,o2⟩:=KV (N:=N) (w:=w) hz;obtain ⟨R,z1,z2⟩:=ZlJ r w;have G:R.cells.size=s.size:=by rw [<-M,<-z2];simp
     have X:(n:Int)<=9223372036854775807:=s2;have W:O.ar.lookup (64*d)=none:=by simpa using hn
     have C:=ZmN R.cells n;rw [z2,G] at C
     have A:=h.Zwv (d:=d) (τ:=64*d) hd U W (es:=List.replicate n z) (f:=true) (τs:=[]) (us:=(Array.range (n*s.size)).map (R.cells[· %s.size]!)) (W:=s.size) S
      (by rw [C];exact ⟨[],(Zb2 o1 n).rp,by simp [JQ]⟩) (λ_=>by rw [C];exact Zb2 o1 n) Ha (λ_=>Ha) (λx hx=>by rw [List.eq_of_mem_replicate hx,o2,M]) (by simp;omega) Ha
     simp only [List.length_replicate] at A;refine ⟨.slice (some ⟨w.heap.size,0,none⟩) n n,w.alloc (.cells ((Array.range (n*s.size)).map (R.cells[· %s.size]!)) S),_, ?_,A⟩;obtain ⟨j,dd,zz,j1,j2,j3,j4,j5,j6,j7⟩:=VE r;have J:GZ (n:Int)=n:=IntWalk.i64_in _ ⟨WF,X⟩;have c1:¬((n:Int)<0):=WF
     have c2:¬((s.bytes:Int)*n>281474976710656):=WF
     have zc:(zeroValue S).run P w= .ok R w:=z1;rw [g1,g2]
     by_cases E:n*s.size=0
     ·have:n=0:=by
       rcases Nat.mul_eq_zero.1 E with q| q
       ·exact q
       ·omega
      subst this;have Y:GZ 0=0:=by decide
      simp [Instr.makeSlice,run_underlying ht,asInt,asIntOf,typeInfo,j1,j6,sizeOf,newRow,Y]
      congr 2
      apply Array.ext<;>simp
     ·simp only [Instr.makeSlice,run_underlying ht,asInt,asIntOf,typeInfo,j1,j6,Sem.run_bind,Sem.run_pure,Result.andThen_ok,run_program,J,Yr r,run_askRoom,Gb,E,if_false,zc,G,newRow,run_newObj];simp [c1,c2,Yr r,E,zc,G]
    ·cases p
   ·cases p
  ·cases p
 ·cases p
end
section
variable {e:Env} {O:St} {w:World} {N:Nat->Prop} {w0:Bs} {a:Act} {P:Program}
def ZDw (P:Program) (N:Nat->Prop) (w0:Bs) (o:Oper) (a:Act) (w:World) (O':St):Prop:= ∃j k,(∃u,(execOp a.eval o).run P w= .ok (.value u) j/\ZJ N w0 k O' (a.put o.dst u) j)\/((execOp a.eval o).run P w= .ok .skip j/\ZJ N w0 k O' (a.put o.dst undef) j)
theorem Zcl {j:Operand->Value} {o:Oper} {s:Sem Value} {u:Value} {w':World} (h:execOp j o=(do pure (.value (<-s)):Sem Next)) (k:s.run P w= .ok u w'):(execOp j o).run P w= .ok (.value u) w':=by
 rw [h,Sem.run_bind,k];rfl
theorem Zo1 (h:ZJ N w0 e O a w) {t:Nat} {p v:Operand} {f:Eff} (l:Wu P O none (.store t p v)=some f) (hs:f.side):
  ∃w' X,(Instr.storeAt t (a.eval p) (a.eval v)).run P w= .ok () w'/\ZJ N w0 X (O.app f) a w':=by
 simp only [Wu] at l
 split at l
 ·rename_i i x _ hi hx
  split at l
  ·rename_i b7 I;have J:=(ZG h hx).cellsL I
   split at l
   ·rename_i b3;have G:(a.eval v).cells.size=i.size:=by rw [<-b3,<-J.len];simp
    have sv:∀(T:Addr) w',(storeCells T (a.eval v).cells.toList).run P w= .ok () w'->(storeVar t T (a.eval v)).run P w= .ok () w':=by
     intro T w' b0;simp [storeVar,Yr hi,G,b0]
    split at l
    ·rename_i k R hp;obtain ⟨_,he⟩:=ZG h hp
     split at l
     ·rename_i cs hk
      split at l
      ·rename_i E;obtain rfl:=ZEI l;obtain ⟨w',z,M⟩:=h.Zzl (P:=P) hk J E.1 E.2;exact ⟨w',e,by simp [Instr.storeAt,Instr.sureAddr,he,sv _ _ z],M⟩
      ·cases l
     ·cases l
    ·rename_i τ n j W R hp;obtain ⟨A',r,Y,_⟩:=ZG h hp
     split at l
     ·rename_i A ls fr b8 q C Z
      split at l
      ·rename_i el s
       split at l
       ·rename_i hc;obtain ⟨S,c2,U,c4,c5⟩:=hc;obtain rfl:=ZEI l;rw [C] at r;obtain rfl:=ZEI r;obtain ⟨b,b1,b2⟩:=(Y A rfl).2 hs.1;obtain ⟨w',X,z,M⟩:=h.Zzk (P:=P) C s b1 J Z hs.2 U c5 (λ_=>c4) (by rw [S];exact c2);rw [S] at z;exact ⟨w',X,by simp [Instr.storeAt,Instr.sureAddr,b2,sv _ _ z],M⟩
       ·cases l
      ·cases l
     ·cases l
    ·rename_i τ j W R n hp;obtain ⟨A',r,Y,_⟩:=ZG h hp
     split at l
     ·rename_i A x C
      split at l
      ·rename_i el s
       split at l
       ·rename_i ys b5
        split at l
        ·rename_i hc;obtain ⟨S,rfl,U⟩:=hc;obtain rfl:=ZEI l;obtain ⟨s1,s2,s3⟩:=hs;rw [C] at r;obtain rfl:=ZEI r;obtain ⟨hd,b,b6,t',b',m,c,r1,r2,r3,r4⟩:=Y A rfl;simp only [Yn] at J;obtain ⟨u,us,hu,⟨F,b4,_⟩,rfl⟩:=J;obtain ⟨w',z,M⟩:=h.Zo5 (P:=P) C hd S s b5 s2 s3 s1 r1 r2 r3 b4 U;exact ⟨w',e,by simp [Instr.storeAt,Instr.sureAddr,r4,sv _ _ (by rw [hu];exact z)],M⟩
        ·cases l
       ·cases l
      ·cases l
     ·cases l
    ·cases l
   ·cases l
  ·cases l
 ·cases l
theorem Zem (h:ZJ N w0 e O a w) {r:V} {x:Value} (m:r.rel e O w x) {k:TI} {t p A:Nat} {ys:List (List L)} {f:Bool} {τs:List Nat} {q:Prop} (j:Zqp P O k t p r=some (ys,f,τs,q)) (hq:q) (C:∀z∈ys,z.length=k.size) (I:P.underlying t=some (.slice A)):ZwT P p N e O w x ys k.size f τs:=by
 unfold Zqp at j
 split at j
 ·rename_i E;subst E;exact (Zlb h m j hq C).toA I
 ·split at j
  ·rename_i s G;simp only [ZEK,ZEL] at j;obtain ⟨rfl,rfl,rfl,rfl⟩:=j;obtain ⟨F,l,_⟩:=m;simp only [Rp] at l;rw [l.1,hq];exact .ofString (Zga G) s
  ·cases j
theorem Zoz (h:ZJ N w0 e O a w) {d:Nat} {xs:Array Operand} {ts:Array Nat} {f:Eff} (j:Wu P O (some d) (.call { callee:=.builtin .append,args:=xs,argTypes:=ts})=some f) (hs:f.side) (ty:Nat):
  ∃u w' r,(Builtin.append_ ts ty (xs.map a.eval)).run P w= .ok u w'/\ZJ N w0 r (O.app f) (a.put (some d) u) w':=by
 simp only [Wu] at j
 split at j
 ·rename_i d' s x t t' b0 b3 b2;obtain rfl:=ZEI b0;have T:xs= #[s,x]:=by rw [<-HJ];exact b3
  have S:ts= #[t,t']:=by rw [<-HJ];exact b2
  subst T S
  split at j
  ·rename_i hd
   split at j
   ·rename_i et _ _ _ sv xv hi b1 b4;have G:=Xp hi
    split at j
    ·cases j
    rename_i ei E
    split at j
    ·rename_i ys fr b6 q l
     split at j
     ·rename_i hz;have rx:=ZG h b4;have rs:=ZG h b1
      split at j
      ·split at j
       ·rename_i hn;obtain rfl:=ZEI j;obtain ⟨W,s0,s2,X,J⟩:=hs;have R:O.ar.lookup (64*d)=none:=by simpa using hn
        have src:=Zem h rx l W s2 G;have k:64*d∉b6:=λhm=>by obtain ⟨B,hB,_⟩:=src.lv _ hm;rw [R] at hB;cases hB
        have p:=rs;obtain ⟨Y,w',r,U,I⟩:=h.Zrm hd (.inr ⟨R,p,rfl⟩) src k s0 G E rfl hz (by simpa using s2) (by simpa using X) (by simpa using J);refine ⟨Y,w',r,by simpa using U, ?_⟩;simp only [List.length_nil,HH,Hs,Gt] at I;exact I
       ·cases j
      ·rename_i τ n
       split at j
       ·rename_i A Z
        split at j
        ·rename_i k;obtain ⟨k,C⟩:=k;obtain rfl:=ZEI j;obtain ⟨W,rfl,X,J,s5,s6⟩:=hs;have src:=Zem h rx l W J G;obtain ⟨A',M,h1,_⟩:=rs;rw [Z] at M;obtain rfl:=ZEI M;have p:=(h1 A rfl).2 rfl;obtain ⟨Y,w',r,U,I⟩:=h.Zrm hd (.inl ⟨Z,p⟩) src k C G E rfl hz (λz b5=>by rcases He.1 b5 with q| q;exact X z q;exact J z q) s5 s6;exact ⟨Y,w',r,by simpa using U,I⟩
        ·cases j
       ·cases j
      ·rename_i τ n lo m W2
       split at j
       ·rename_i A Z
        split at j
        ·rename_i hc;obtain ⟨rfl,k,C,hn⟩:=hc;obtain rfl:=ZEI j;obtain ⟨W,s2,s0,X,J,s5,s6,s7⟩:=hs;have src:=Zem h rx l W s5 G;obtain ⟨Y,w',r,U,I⟩:=h.Zsj hd Z rs s2 (by simpa using hn) C src k s0 X G E rfl hz J s5 s6 s7;exact ⟨Y,w',r,by simpa using U,I⟩
        ·cases j
       ·cases j
      ·cases j
     ·cases j
    ·cases j
   ·cases j
  ·cases j
 ·cases j
theorem Zr6 (h:ZJ N w0 e O a w) {d:Nat} {xs:Array Operand} {ts:Array Nat} {f:Eff} (E:Wu P O (some d) (.call { callee:=.builtin .copy,args:=xs,argTypes:=ts})=some f) (hs:f.side) (ty:Nat):
  ∃u w' e',(Builtin.copy_ ts ty (xs.map a.eval)).run P w= .ok u w'/\ZJ N w0 e' (O.app f) (a.put (some d) u) w':=by
 simp only [Wu] at E
 split at E
 ·rename_i d' s x t t' e8 h5 g9;obtain rfl:=ZEI e8;have e2:xs= #[s,x]:=by rw [<-HJ];exact h5
  have e0:ts= #[t,t']:=by rw [<-HJ];exact g9
  subst e2 e0
  split at E
  ·rename_i hd
   split at E
   ·rename_i et _ _ _ τ n xv hi g8 h6;have X:=Xp hi
    split at E
    ·rename_i r A p q e9 hA c8
     split at E
     ·rename_i c1;obtain rfl:=ZEI E;obtain ⟨s1,rfl,s2,s3,U,b1⟩:=hs;have rx:=ZG h h6;have rs:=ZG h g8;have src:=Zlb h rx c8 s1 b1;obtain ⟨A',I,h1,_⟩:=rs;rw [hA] at I;obtain rfl:=ZEI I;have Z:a.eval s=e.ρ τ:=(h1 A rfl).2 rfl;obtain ⟨Ax,c,us,Fx,hx,h2,e5,b4,i2,i9,i7,g5⟩:=src.ex;obtain ⟨G,hO,i3,b0⟩:=g5 rfl;obtain rfl:G=[]:=List.eq_nil_iff_forall_not_mem.2 λb C=>by obtain ⟨κ,h7,_⟩:=b0 b C;simp at h7
      obtain ⟨m,hm⟩:∃m,m=min p.length A.es.length:=⟨_,rfl⟩
      have g0:over A.es p=p.take m++A.es.drop m:=by
       unfold over;rw [hm]
       by_cases c2:p.length<=A.es.length
       ·rw [Hw c2,Gl c2,Gh]
       ·rw [Nat.min_eq_right WF,Gp (by omega:A.es.length<=p.length),List.drop_length]
      have c4:m<=p.length:=WF
      have b3:m<=A.es.length:=WF
      have b9:(us.take (m*r.size)).length=m*r.size:=by
       rw [Hg,h2];exact Hw (Gn _ c4)
      have l:(Builtin.firstCells r.size m (a.eval x)).run P w= .ok (us.take (m*r.size)).toArray w:=by
       rw [hx];cases Y:Ax with
       | none=>
        have h0:p.length=0:=e5 Y;have b2:m=0:=WF
        simp [Builtin.firstCells,b2]
       | some ad=>
        simp only [Builtin.firstCells]
        have:=run_loadCells_list (P:=P) w ad (us.take (m*r.size)) (λj v hj=>b4 ad Y j v (by
         rw [Gw] at hj
         split at hj
         ·exact hj
         ·cases hj))
        rw [b9] at this;exact this
      have M:(sizeOf et).run P w= .ok r.size w:=by rw [Yr e9]
      have g3:∀{n:Nat},n<=9223372036854775807->goInt n= .int .i64 n:=λ{n} hn=>by
       rfl
      have h9:InK .i64 ((m:Nat):Int):=IntWalk.i64_in _ ⟨WF,WF⟩;have c3:m=p.length.min A.es.length:=hm
      have c9:∀t x,(((d,V.one (.l (.int .i64 (m:Nat))))::O.tm).lookup t=some x)->(O.tm.lookup t=some x/\(a.put (some d) (goInt m)).tmps.getD t undef=a.tmps.getD t undef)\/∃k n,x= .one (.l (.int k n))/\InK k n/\(a.put (some d) (goInt m)).tmps.getD t undef= .int k n:=by
       intro t x X;rw [lookup_cons] at X
       split at X
       ·rename_i b6;subst b6;obtain rfl:=ZEI X;refine .inr ⟨_,_,rfl,h9, ?_⟩;rw [Ud _ _ _ (by rw [h.nt];exact hd),g3 WF]
       ·rename_i b6;exact .inl ⟨X,Vn _ _ _ _ b6⟩
      have c7:(a.put (some d) (goInt m)).tmps.size=O.nt:=by rw [Z2];exact h.nt
      have c0:(a.put (some d) (goInt m)).defers=[]:=by rw [ZO];exact h.df
      have g7:(O.app ⟨(q/\A.es.length=A.es.length/\p.length<=9223372036854775807/\A.es.length<=9223372036854775807/\(∀z∈A.es,z.length=r.size)/\∀z∈p,z.length=r.size),[(d,.one (.l (.int .i64 (min p.length A.es.length:Nat))))],[],[(τ,some ⟨A.fr,over A.es p⟩)]⟩)=stA O ((d,V.one (.l (.int .i64 (m:Nat))))::O.tm) τ ⟨A.fr&&true,p.take m++A.es.drop m⟩ []:=by
       simp only [St.app,stA,g0,<-hm,Bool.and_true,List.map_nil,Hs,Hm]
      rw [g7];have J:(p.take m++A.es.drop m).length=A.es.length:=by simp;omega
      have e6:∀z∈p.take m++A.es.drop m,z.length=r.size:=λz S=>by
       rcases He.1 S with S| S
       ·exact b1 z (HP S)
       ·exact U z (GJ S)
      obtain ⟨v1,v2,G1,G2,rfl,_,o1,o2⟩:=(OwE.split (xs:=p.take m) (ys:=p.drop m) (by rw [Hn];exact hO));have e1:v1.length=m*r.size:=by rw [o1.rp.len,ZT (λz S=>b1 z (HP S)),Hg,Hw c4]
      have ev:(v1++v2).take (m*r.size)=v1:=by rw [<-e1,Gu]
      rw [ev] at l b9;obtain ⟨p',cc,T,e7,c6| ⟨b,te,i1,Fs,W,rfl,hN,hh,i8,i6,i4,i5,g6⟩⟩:=h.ar τ A hA
      ·obtain ⟨c5,b5,b8,h8⟩:=c6;have b2:m=0:=by rw [hm,c5];simp
       subst b2;have h3:v1=[]:=HI (by simpa using e1);subst h3;refine ⟨goInt (0:Nat),w,_, ?_,h.Zqv (row:=none) (τs:=[]) (v':=e.ρ τ) (F':=e.φ τ) c1 Ha Ha (World.grownBy.refl _ _) Ha (λA' I=> ?_) (λb C=>by rw [T,b5] at C;simp [Value.ownBlock] at C) (λb C=>.inl ⟨A,hA,C⟩) ⟨p',cc,by rw [T,J],e7,.inl ⟨by simp [c5],b5,b8,h8⟩⟩ c7 c0 (λu t x X=> ?_)⟩
       ·simp [Builtin.copy_,run_underlying X,Builtin.lenOf,Z,T,hx,<-c3,M,l,b5];rw [<-hx,l];simp
       ·rw [hA] at I;obtain rfl:=ZEI I;exact ⟨A,rfl,by rw [J];exact ZEN _,λ_=>rfl⟩
       ·rcases c9 t x X with q| ⟨k',n,rfl,q1,q2⟩
        ·exact .inl q
        ·rw [q2];exact .inr (Vo q1)
      ·obtain ⟨w',e',k1,k2⟩:=h.inPlace (P:=P) hA (W:=r.size) U (g:=b) (by rw [T];rfl) (es':=p.take m++A.es.drop m) (f:=true) (τs:=[]) (k:=0) (us:=v1) Ha Ha c1 J e6 (by rw [e1,HH];exact Gn _ b3) o1.rp.one
        (λxs e4 R b7 h4=>by
         rw [<-Hn m A.es] at R;obtain ⟨u1,u2,F1,F2,rfl,rfl,g1,g2⟩:=R.split;have l1:u1.length=m*r.size:=by rw [g1.len,ZT (λz S=>U z (HP S)),Hg,Hw b3]
         refine ⟨[]++F2, ?_,λb C=>.inl (b7 b (by simp at C ⊢;exact .inr C))⟩;rw [Gi,Hs,HH,e1,<-l1,GG];have e3:=o1.rp
         have:G1=[]:=by
          have:=(‹[]=G1++G2›);simp at this;exact this.1
         rw [this] at e3;exact e3.append g2)
        (λhf _ xs e4 R g4 i0 h4=>by
         rw [<-Hn m A.es] at R;obtain ⟨u1,u2,F1,F2,rfl,rfl,g1,g2⟩:=R.split;have l1:u1.length=m*r.size:=by rw [g1.rp.len,ZT (λz S=>U z (HP S)),Hg,Hw b3]
         refine ⟨[]++F2, ?_, ?_,λb C=>.inl (by simp at C ⊢;exact .inr C)⟩
         ·rw [Gi,Hs,HH,e1,<-l1,GG]
          have:G1=[]:=by
           have:=(‹[]=G1++G2›);simp at this;exact this.1
          rw [this] at o1;exact o1.append g2
         ·exact g4.sublist Ha)
        c7 c0 c9
       refine ⟨goInt m,w',e', ?_,k2⟩;simp [Builtin.copy_,run_underlying X,Builtin.lenOf,Z,T,hx,<-c3,M];rw [<-hx,l];simp [k1]
     ·cases E
    ·cases E
   ·cases E
  ·cases E
 ·cases E
theorem ZJ.cut (h:ZJ N w0 e O a w) {τ d m:Nat} {A:Arr} (hA:O.ar.lookup τ=some (some A)) (c3:τ<1000000) (hd:d<O.nt) (hn:O.ar.lookup (64*d)=none) (c1:64*d<1000000) (m1:1<=m) (m2:m<=A.es.length) {p:Option Addr} {c:Nat} (hv:e.ρ τ= .slice p A.es.length c):
  ∃E,ZJ N w0 E ⟨O.nt,(d,.one (.own (64*d) m))::O.tm,O.bx,(64*d,some ⟨A.fr,A.es.take m⟩)::(τ,none)::O.ar⟩ (a.put (some d) (.slice p m c)) w:=by
 have b9:τ≠64*d:=λE=>by rw [<-E,hA] at hn;cases hn
 have c0:=h.ar τ A hA;obtain ⟨p',c',b6,hc,⟨h0,_⟩| ⟨b,t,I,Fs,W,rfl,h1,h2,h3,h4,h5,h6,h7⟩⟩:=c0
 ·rw [h0] at m2;simp at m2;omega
 rw [hv] at b6;injection b6 with G _ g3
 subst G g3;have T:=(Hn m A.es).symm
 have hW:(I.toList.take (A.es.length*W)).take (m*W)=I.toList.take (m*W):=by
  rw [List.take_take,Hw (Gn _ m2)]
 have X:∀S v2:List Value,I.toList.take (A.es.length*W)=S++v2->S.length=m*W->I.toList.take ((A.es.take m).length*W)=S:=λS v2 J e2=>by
  rw [Hg,Hw m2,<-hW,J,<-e2,Gu]
 have b1:∀z∈A.es.take m,z.length=W:=λz hz=>h5 z (HP hz);have b7:width (A.es.take m)=m*W:=by rw [ZT b1,Hg,Hw m2]
 obtain ⟨F',b8,b5⟩:∃F':List Nat,(∀x∈F',x∈e.φ τ)/\∀M:Nat->Prop,(∀x,M x->Mut e O x)->Uf N M w ⟨A.fr,A.es.take m⟩ (.slice (some ⟨b,0,none⟩) m c) F':=by
  have l:(A.es.take m).length=m:=by rw [Hg,Hw m2]
  have Y:A.es.take m=[]->c=0:=λJ=>by
   have:=congrArg List.length J;rw [l] at this;simp at this;omega
  rcases h7 with ⟨k1,k2,k3,k4⟩| ⟨k1,k2,k3,k4⟩
  ·rw [T] at k4;obtain ⟨S,v2,F1,F2,J,rfl,G,g2⟩:=k4.split;rw [<-T] at J;have e2:S.length=m*W:=by rw [G.len,b7]
   refine ⟨b::F1,λx Z=>by rw [k2];exact (Hc.1 Z).elim (λg=>g▸GL ..) (λg=>Hz _ (HW _ g)),λM hM=>⟨_,c,by simp only [l],hc,.inr ⟨b,t,I,F1,W,rfl,h1,h2,by simp only [l];omega,h4,b1,Y,.inl ⟨k1,rfl, ?_,by rw [X S v2 J e2];exact G⟩⟩⟩⟩;rw [k2] at k3;exact k3.sublist Ha
  ·rw [T] at k3;obtain ⟨S,v2,F1,F2,J,rfl,G,g2⟩:=k3.split;rw [<-T] at J;have e2:S.length=m*W:=by rw [G.len,b7]
   exact ⟨[b],λx Z=>by rw [k2];exact Z,λM hM=>⟨_,c,by simp only [l],hc,.inr ⟨b,t,I,F1,W,rfl,h1,h2,by simp only [l];omega,h4,b1,Y,.inr ⟨k1,rfl,by rw [X S v2 J e2];exact G,λx Z hm=>k4 x (by simp [Z]) (hM x hm)⟩⟩⟩⟩
 let E:Env:=⟨e.β,λj=>if j=64*d then .slice (some ⟨b,0,none⟩) m c else e.ρ j,λj=>if j=64*d then F' else e.φ j,e.bad⟩
 have s:∀j B,((64*d,some (⟨A.fr,A.es.take m⟩:Arr))::(τ,none)::O.ar).lookup j=some (some B)->(j=64*d/\B=⟨A.fr,A.es.take m⟩)\/(j≠64*d/\j≠τ/\O.ar.lookup j=some (some B)):=λj B r=>by
  rw [lookup_cons] at r
  split at r
  ·rename_i R;exact .inl ⟨R,(ZEI (ZEI r)).symm⟩
  ·rename_i R;rw [lookup_cons] at r
   split at r
   ·cases r
   ·rename_i U;exact .inr ⟨R,U,r⟩
 have b3:∀x,Mut E ⟨O.nt,(d,.one (.own (64*d) m))::O.tm,O.bx,(64*d,some ⟨A.fr,A.es.take m⟩)::(τ,none)::O.ar⟩ x->Mut e O x:=λx hm=>by
  rcases hm with h0| ⟨k,cs,q1,q2⟩| ⟨j,B,q1,q2⟩
  ·exact .inl h0
  ·exact .inr (.inl ⟨k,cs,q1,q2⟩)
  ·rcases s j B q1 with ⟨rfl,rfl⟩| ⟨G,_,g2⟩
   ·simp only [E,if_true] at q2;exact .inr (.inr ⟨τ,A,hA,by rw [hv];exact q2⟩)
   ·simp only [E,if_neg G] at q2;exact .inr (.inr ⟨j,B,g2,q2⟩)
 have u:Up e O w E ⟨O.nt,(d,.one (.own (64*d) m))::O.tm,O.bx,(64*d,some ⟨A.fr,A.es.take m⟩)::(τ,none)::O.ar⟩ w:=by
  refine ⟨ZEN _,λ_ _ _=>rfl,λx _ hm=>b3 x hm,λk cs R=>⟨⟨cs,R⟩,rfl⟩,λj B r=> ?_,λj c2 _ _=>⟨by simp [E,show j≠64*d from WF],λ_ _=>rfl⟩⟩;have R:j≠64*d:=λJ=>by rw [J,hn] at r;cases r
  simp only [lookup_cons,if_neg R]
  by_cases U:j=τ
  ·rw [if_pos U];exact ⟨none,rfl,λ_ hb=>by cases hb⟩
  ·rw [if_neg U];exact ⟨B,r,λC hC=>⟨C,hC,ZEN _,λ_=>by simp [E,R]⟩⟩
 refine ⟨E,h.Zqi u (λj=>j= .a (64*d)) (by rw [Z2];exact h.nt) (by rw [ZO];exact h.df) (ZaX (by rw [h.nt];exact hd) ?_) (λk cs R _=>⟨R,rfl⟩) (λj B r hK=> ?_) (λk cs _ hK=>by cases hK) (λj B r hK=> ?_) (λj hl hK x Z=> ?_) (λj c4 _ _ b4 q1 q2=>absurd (q1.trans q2.symm) b4) h.fr (λ_ h=>h) (λ_ h=>.inl h) (λj _ hK b0=> ?_) (λk cs _ hK _=>by cases hK) (λj b2 _ hK hb=>by
  subst hK;rcases hb with hb| ⟨hb,_⟩
  ·simp only [E,if_true] at hb;exact h.tp (.a τ) b2 ⟨A,hA⟩ (.inl (by rw [hv];exact hb))
  ·omega)⟩
 ·refine ⟨some ⟨A.fr,A.es.take m⟩,Ha,λB r=> ?_,_,c,rfl,WF⟩;obtain rfl:=ZEI r;have l:(A.es.take m).length=m:=by rw [Hg,Hw m2]
  exact ⟨by simp only [l];exact ZEN _,λ_=>by simp [E]⟩
 ·rcases s j B r with ⟨rfl,_⟩| ⟨G,_,g2⟩
  ·exact absurd rfl hK
  ·exact ⟨g2,by simp [E,G],by simp [E,G],λ_ _=>rfl⟩
 ·injection hK with hK
  subst hK;rcases s _ B r with ⟨_,rfl⟩| ⟨G,_,_⟩
  ·simp only [E,if_true];exact b5 _ b3
  ·exact absurd rfl G
 ·subst hK;simp only [blk,E,if_true] at Z;refine .inr (.inl ⟨.a τ,.inl ?_,⟨A,hA⟩,b8 x Z,λb0=>by have:1000000<=τ:=b0;omega⟩);rintro ⟨B,r⟩;rcases s τ B r with ⟨g,_⟩| ⟨_,g,_⟩
  ·exact b9 g
  ·exact g rfl
 ·subst hK;have:1000000<=64*d:=b0;omega
theorem Zuj (h:ZJ N w0 e O a w) {d t:Nat} {x:Operand} {hi:Value} {f:Eff} (j:Wu P O (some d) (.slice t x none (some (.const hi)) none)=some f) (X:f.side):
  ∃u r,(Instr.sliceAt t (a.eval x) none (some (a.eval (.const hi))) none).run P w= .ok u w/\ZJ N w0 r (O.app f) (a.put (some d) u) w:=by
 simp only [Wu] at j
 split at j
 ·rename_i d' et _ _ _ τ n k m C G Z U;obtain rfl:=ZEI C
  split at j
  ·rename_i R A E z
   split at j
   ·rename_i S;obtain ⟨hd,J,W⟩:=S;obtain rfl:=ZEI j;obtain ⟨rfl,m1,m2,s,hW⟩:=X;obtain ⟨A',l,r1,_⟩:=ZG h Z;rw [z] at l;obtain rfl:=ZEI l;have I:=(r1 A rfl).2 rfl;obtain ⟨p,c,j,g1,g2,g3⟩:=h.Zat z;obtain ⟨r,T⟩:=h.cut z J hd (by simpa using W) s (m:=m.toNat) WF WF j;refine ⟨.slice p m.toNat c,r, ?_,T⟩;have M:=WK (P:=P) (lo:=none) (hi:=some (.const hi)) (l:=0) (hh:=m) (len:=A.es.length) (cap:=c) h rfl (by simp only [UA,U,Gk]) WF WF WF true;have Y:=Xp G;rw [I,j]
    have hp:(if c=0 then p else p.map (·.add (0*R.size)))=p:=by
     split
     ·rfl
     ·cases p with
      | none=>rfl
      | some ad=>simp [Addr.add]
    simp only [Option.map_none,Gk] at M;simp [Instr.sliceAt,run_underlying Y,Instr.slice,M,Yr E]
    try (cases p<;>simp [Addr.add])
   ·cases j
  ·cases j
 ·cases j
theorem Zpr (h:ZJ N w0 e O a w) {o:Oper} {f:Eff} (k:Wu P O o.dst o.op=some f) (I:f.side):ZDw P N w0 o a w (O.app f):=by
 have j:=k;unfold Wu at k
 split at k
 ·rename_i t x ho
  split at k
  ·rename_i d v hd T
   split at k
   ·rename_i cs E M
    split at k
    ·rename_i G;obtain rfl:=ZEI k;have S:=(ZG h T).cellsL E;have J:=h.Zwu G M S t;rw [<-hd] at J;exact ⟨_,_,.inl ⟨_,by simp [execOp,ho,Instr.box,newVar,newRow],J⟩⟩
    ·cases k
   ·cases k
  ·cases k
 ·rename_i t ho
  split at k
  ·rename_i d i hd R
   split at k
   ·rename_i cs E M
    split at k
    ·rename_i G;obtain rfl:=ZEI k;obtain ⟨z,X,Y⟩:=ZlJ R w;have J:=h.Zwu G M (by rw [Y];exact Zez E) t;rw [<-hd] at J;exact ⟨_,_,.inl ⟨_,by simp [execOp,ho,Instr.alloc,newVar,newRow,X],J⟩⟩
    ·cases k
   ·cases k
  ·cases k
 ·rename_i t p v ho
  have hd:o.dst=none:=by
   rw [ho] at j;simp only [Wu] at j
   split at j
   ·rename_i r _ _;exact r
   ·cases j
  rw [ho,hd] at j;obtain ⟨C,m,s,A⟩:=Zo1 h j I;exact ⟨C,m,.inr ⟨by simp [execOp,ho,s],by rw [hd];exact A⟩⟩
 ·rename_i t len Z ho
  obtain ⟨d,hd⟩:∃d,o.dst=some d:=by
   rw [ho] at j;simp only [Wu] at j
   split at j
   ·rename_i r _ _;exact ⟨_,r⟩
   ·cases j
  rw [ho,hd] at j;obtain ⟨u,C,m,s,A⟩:=Zi5 h j I;exact ⟨C,m,.inl ⟨u,Zcl (by simp only [execOp,ho]) s,by rw [hd];exact A⟩⟩
 ·rename_i t l c ho
  obtain ⟨d,hd⟩:∃d,o.dst=some d:=by
   rw [ho] at j;simp only [Wu] at j
   split at j
   ·rename_i r _ _ _;exact ⟨_,r⟩
   ·cases j
  rw [ho,hd] at j;obtain ⟨u,C,m,s,A⟩:=ZjW h j I;exact ⟨C,m,.inl ⟨u,Zcl (by simp only [execOp,ho]) s,by rw [hd];exact A⟩⟩
 ·rename_i W U ho
  obtain ⟨d,hd⟩:∃d,o.dst=some d:=by
   rw [ho] at j;simp only [Wu] at j
   split at j
   ·rename_i r _ _;exact ⟨_,r⟩
   ·cases j
  rw [ho,hd] at j;obtain ⟨u,C,m,s,A⟩:=Zoz h j I o.type;refine ⟨C,m,.inl ⟨u, ?_,by rw [hd];exact A⟩⟩;simp [execOp,ho,resolve,invoke,builtin,s]
 ·rename_i W U ho
  obtain ⟨d,hd⟩:∃d,o.dst=some d:=by
   rw [ho] at j;simp only [Wu] at j
   split at j
   ·rename_i r _ _;exact ⟨_,r⟩
   ·cases j
  rw [ho,hd] at j;obtain ⟨u,C,m,s,A⟩:=Zr6 h j I o.type;refine ⟨C,m,.inl ⟨u, ?_,by rw [hd];exact A⟩⟩;simp [execOp,ho,resolve,invoke,builtin,s]
 ·rename_i t x R ho
  obtain ⟨d,hd⟩:∃d,o.dst=some d:=by
   rw [ho] at j;simp only [Wu] at j
   split at j
   ·rename_i r _ _ _;exact ⟨_,r⟩
   ·cases j
  rw [ho,hd] at j;obtain ⟨u,m,s,A⟩:=Zuj h j I;exact ⟨w,m,.inl ⟨u,Zcl (by simp only [execOp,ho,Option.map_none,Gk]) s,by rw [hd];exact A⟩⟩
 ·cases k
end
def Jl:Value->List Value
 | .agg j=>j.toList
 | v=>[v]
def Zad (w:World):DV->Value->List Nat->Prop
 | .one x,v,F=>Rp w x v F
 | .agg k,v,F=>∃j,v= .agg j.toArray/\RpL w k j F
def Zr3 (N:Nat->Prop) (w:World):DV->Value->List Nat->Prop
 | .one x,v,F=>Ow N w x v F
 | .agg k,v,F=>∃j,v= .agg j.toArray/\OwL N w k j F
def Yu (w:World):List DV->List Value->List Nat->Prop
 | [],k,F=>k=[]/\F=[]
 | d::p,k,F=>∃v j l m,k=v::j/\F=l++m/\Zad w d v l/\Yu w p j m
def ZeG (N:Nat->Prop) (w:World):List DV->List Value->List Nat->Prop
 | [],k,F=>k=[]/\F=[]
 | d::p,k,F=>∃v j l m,k=v::j/\F=l++m/\Zr3 N w d v l/\ZeG N w p j m
def ZdC (fr:Bool) (N:Nat->Prop) (w:World) (k:List Nat) (j:List DV) (us:List Value):Prop:= if fr then ∃F,ZeG N w j us F/\F.Nodup else ∃F,Yu w j us F/\∀b∈F,b∈k\/N b
def Zpc:List Value->Value
 | [u]=>u
 | j=>.tuple j.toArray
def Y9 (P:Program) (f:Nat):Bool:=
 match P.funcs[f]? with
 | some fn=>fn.name != "runtime.NumGoroutine"&&fn.body.isSome
 | none=>false
def Ctr (P:Program) (f:Nat) (p:List DV) (fr:Bool) (r:List DV):Prop:=
 Y9 P f=true/\∀(w:World) (l:List Value) (j:List Nat),(∃G,Glb w G)->Yu w p l j->
  Calls P f l.toArray w λe m=>∃k,e= .returned (Zpc k)/\ZdC fr (w.heap.size<= ·) m j r k/\Below w.heap.size w m
def ZpO (O:St):CV->Option (L×Bool×Prop)
 | .l x=>some (x,true,True)
 | .kept _ x=>some (x,true,True)
 | .nil=>some (.sl [],true,True)
 | .own j n=>match O.ar.lookup j with
  | some (some A)=>some (.sl A.es,false,A.es.length=n)
  | _=>none
 | _=>none
def Zm6 (O:St):List CV->Option (List L×Bool×Prop)
 | []=>some ([],true,True)
 | c::cs=>match ZpO O c,Zm6 O cs with
  | some (x,f,p),some (j,g,q)=>some (x::j,f&&g,p/\q)
  | _,_=>none
def Zm5 (O:St):V->Option (DV×Bool×Prop)
 | .one c=>(ZpO O c).map λr=>(.one r.1,r.2)
 | .agg cs=>(Zm6 O cs).map λr=>(.agg r.1,r.2)
 | _=>none
def Vs (O:St):List V->Option (List DV×Bool×Prop)
 | []=>some ([],true,True)
 | v::j=>match Zm5 O v,Vs O j with
  | some (x,f,p),some (k,g,q)=>some (x::k,f&&g,p/\q)
  | _,_=>none
def Zmx (τ:Nat):L->CV×List (Nat×Arr)
 | .sl es=>(.own τ es.length,[(τ,⟨true,es⟩)])
 | x=>(.l x,[])
def Zlr (τ:Nat):List L->List CV×List (Nat×Arr)
 | []=>([],[])
 | x::j=>((Zmx τ x).1::(Zlr (τ+(Zmx τ x).2.length) j).1,(Zmx τ x).2++(Zlr (τ+(Zmx τ x).2.length) j).2)
def Zb3 (τ:Nat):List DV->List (Bool×List CV)×List (Nat×Arr)
 | []=>([],[])
 | .one x::j=>((false,[(Zmx τ x).1])::(Zb3 (τ+(Zmx τ x).2.length) j).1,(Zmx τ x).2++(Zb3 (τ+(Zmx τ x).2.length) j).2)
 | .agg k::j=>((true,(Zlr τ k).1)::(Zb3 (τ+(Zlr τ k).2.length) j).1,(Zlr τ k).2++(Zb3 (τ+(Zlr τ k).2.length) j).2)
def ptD:DV->Bool×List CV
 | .one x=>(false,[.l x])
 | .agg j=>(true,j.map .l)
def Zml:List (Bool×List CV)->V
 | [(false,[c])]=>.one c
 | [(true,cs)]=>.agg cs
 | j=>.tup j
def base (j:Bool) (d:Nat):Nat:=if j then 64*d+1000000 else 64*d
def QO (O:St) (dst:Option Nat) (fr k:Bool) (j:List DV):Option Eff:=
 match dst with
 | none=>some ⟨True,[],[],[]⟩
 | some d=>if d<O.nt then
   if fr then
    if (Zb3 (base k d) j).2.all (λp=>(O.ar.lookup p.1).isNone) then
     some ⟨True,[(d,Zml (Zb3 (base k d) j).1)],[],(Zb3 (base k d) j).2.map λp=>(p.1,some p.2)⟩
    else none
   else some ⟨True,[(d,Zml (j.map ptD))],[],[]⟩
  else none
section
variable {e:Env} {O:St} {w:World} {N:Nat->Prop} {w0:Bs} {a:Act} {P:Program}
theorem Zq7 (h:ZJ N w0 e O a w) {c:CV} {v:Value} (m:c.rel e O w v) {x:L} {f:Bool} {p:Prop} (hd:ZpO O c=some (x,f,p)) (hp:p):∃F,Rp w x v F/\(f=true->∀b∈F,¬Mut e O b):=by
 unfold ZpO at hd
 split at hd
 ·simp only [ZEK,ZEL] at hd;obtain ⟨rfl,rfl,rfl⟩:=hd;obtain ⟨F,j,r⟩:=m;exact ⟨F,j,λ_=>r⟩
 ·simp only [ZEK,ZEL] at hd;obtain ⟨rfl,rfl,rfl⟩:=hd;obtain ⟨_,F,j,r⟩:=m;exact ⟨F,j,λ_=>r⟩
 ·simp only [ZEK,ZEL] at hd;obtain ⟨rfl,rfl,rfl⟩:=hd;have t:=m;subst t;refine ⟨[], ?_,Ha⟩;simp only [Rp];exact ⟨none,0,rfl,ZEN _,WF,.inl Ha⟩
 ·rename_i T n
  split at hd
  ·rename_i A s;simp only [ZEK,ZEL] at hd;obtain ⟨rfl,rfl,rfl⟩:=hd;obtain ⟨U,k,j,_⟩:=m;rw [s] at k;obtain rfl:=ZEI k;have t:=(j A rfl).2 hp;subst t;obtain ⟨I,c,l,C,E,G| ⟨b,S,z,W,rfl,J,X,M,R⟩⟩:=h.Zat s
   ·refine ⟨[], ?_,Ha⟩;simp only [Rp];exact ⟨I,c,l,C,E,.inl (by simp [G])⟩
   ·refine ⟨b::z, ?_,Ha⟩;simp only [Rp];exact ⟨_,c,l,C,E,.inr ⟨b,0,S,z,rfl,(h.Yp (κ:=.a T) ⟨A,s⟩ b R).1,rfl,J,M⟩⟩
  ·cases hd
 ·cases hd
theorem ZmL (h:ZJ N w0 e O a w):∀{cs:List CV} {vs:List Value},Yn e O w cs vs->∀{xs:List L} {f:Bool} {p:Prop},Zm6 O cs=some (xs,f,p)->p->∃F,RpL w xs vs F/\(f=true->∀b∈F,¬Mut e O b)
 | [],vs,k,xs,f,p,hd,hp=>by
  simp only [Yn] at k;subst k;simp only [Zm6,ZEK,ZEL] at hd;obtain ⟨rfl,rfl,rfl⟩:=hd;exact ⟨[],by simp [RpL],Ha⟩
 | c::cs,vs,k,xs,f,p,hd,hp=>by
  simp only [Yn] at k;obtain ⟨v,l,rfl,C,E⟩:=k;simp only [Zm6] at hd
  split at hd
  ·rename_i x f1 M J f2 R s t;simp only [ZEK,ZEL] at hd;obtain ⟨rfl,rfl,rfl⟩:=hd;obtain ⟨m,G,I⟩:=Zq7 h C s hp.1;obtain ⟨r,z,A⟩:=ZmL h E t hp.2;refine ⟨m++r,by simp only [RpL];exact ⟨v,l,m,r,rfl,rfl,G,z⟩,λhf b j=> ?_⟩;simp only [ZEM] at hf;rcases He.1 j with j| j
   ·exact I hf.1 b j
   ·exact A hf.2 b j
  ·cases hd
theorem Zq6 (h:ZJ N w0 e O a w) {x:V} {v:Value} (k:x.rel e O w v) {d:DV} {f:Bool} {p:Prop} (hd:Zm5 O x=some (d,f,p)) (hp:p):∃F,Zad w d v F/\(f=true->∀b∈F,¬Mut e O b):=by
 cases x with
 | one c=>
  simp only [Zm5] at hd;obtain ⟨⟨y,m,t⟩,l,j⟩:=Hf.1 hd;simp only [ZEL] at j;obtain ⟨rfl,rfl,rfl⟩:=j;exact Zq7 h k l hp
 | agg cs=>
  simp only [Zm5] at hd;obtain ⟨⟨y,m,t⟩,l,j⟩:=Hf.1 hd;simp only [ZEL] at j;obtain ⟨rfl,rfl,rfl⟩:=j;obtain ⟨z,rfl,k⟩:=k;obtain ⟨F,r,s⟩:=ZmL h k l hp;exact ⟨F,⟨z,rfl,r⟩,s⟩
 | tup A=>simp [Zm5] at hd
 | dead=>simp [Zm5] at hd
theorem Zon (h:ZJ N w0 e O a w):∀{m:List Operand} {vs:List V},Xs O m=some vs->∀{k:List DV} {f:Bool} {p:Prop},Vs O vs=some (k,f,p)->p->∃F,Yu w k (m.map a.eval) F/\(f=true->∀b∈F,¬Mut e O b)
 | [],vs,ho,k,f,p,hd,hp=>by
  simp only [Xs,ZEK] at ho;subst ho;simp only [Vs,ZEK,ZEL] at hd;obtain ⟨rfl,rfl,rfl⟩:=hd;exact ⟨[],by simp [Yu],Ha⟩
 | o::m,vs,ho,k,f,p,hd,hp=>by
  simp only [Xs] at ho
  split at ho
  ·rename_i v J E l;obtain rfl:=ZEI ho;simp only [Vs] at hd
   split at hd
   ·rename_i x f1 R M f2 S t z;simp only [ZEK,ZEL] at hd;obtain ⟨rfl,rfl,rfl⟩:=hd;obtain ⟨r,G,I⟩:=Zq6 h (ZG h E) t hp.1;obtain ⟨s,A,C⟩:=Zon h l z hp.2;refine ⟨r++s,by simp only [Hi,Yu];exact ⟨_,_,r,s,rfl,rfl,G,A⟩,λhf b j=> ?_⟩;simp only [ZEM] at hf;rcases He.1 j with j| j
    ·exact I hf.1 b j
    ·exact C hf.2 b j
   ·cases hd
  ·cases ho
structure Inc where
 τ:Nat
 A:Arr
 v:Value
 F:List Nat
def QN (e:Env) (q:List Inc) (k:Bool):Env:=
 ⟨e.β,λj=>((q.find? (·.τ==j)).map (·.v)).getD (e.ρ j),λj=>((q.find? (·.τ==j)).map (·.F)).getD (e.φ j),λb=>e.bad b\/∃i∈q,1000000<=i.τ/\b∈i.F⟩
def ZpB (j:Nat->Prop) (w':World) (q:Inc):Prop:=Ow j w' (.sl q.A.es) q.v q.F/\q.A.fr=true
theorem Zls {l:Nat->Prop} {w':World} {τ:Nat} {x:L} {v:Value} {F:List Nat} (h:Ow l w' x v F):∃q:List Inc,q.map (λi=>(i.τ,i.A))=(Zmx τ x).2/\(∀i∈q,ZpB l w' i)/\F=q.flatMap (·.F)/\
  (∀(j:Env) (O':St),(∀i∈q,j.ρ i.τ=i.v/\O'.ar.lookup i.τ=some (some i.A))->(Zmx τ x).1.rel j O' w' v)/\∀i∈q,i.v=v:=by
 cases x with
 | sl es=>
  refine ⟨[⟨τ,⟨true,es⟩,v,F⟩],rfl,by simp [ZpB,h],Ha,λj O' hq=> ?_,Ha⟩;obtain ⟨r,z⟩:=hq _ (Hu.2 rfl);simp only [Ow] at h;obtain ⟨A,c,C,J,E⟩:=h;refine ⟨some ⟨true,es⟩,z,λB G=> ?_,A,c,C, ?_⟩
  ·obtain rfl:=ZEI G;exact ⟨ZEN _,λ_=>r.symm⟩
  ·rcases E with ⟨m,_⟩| ⟨b,t,p,I,W,_,_,_,m,_⟩
   ·simp [m]
   ·omega
 | int k n=>simp only [Ow] at h;exact ⟨[],rfl,Ha,by simp [h.2.1],λj O' _=>⟨[],by simp [Rp,h.1,h.2.2],Ha⟩,Ha⟩
 | bool b=>simp only [Ow] at h;exact ⟨[],rfl,Ha,by simp [h.2],λj O' _=>⟨[],by simp [Rp,h.1],Ha⟩,Ha⟩
 | str s=>simp only [Ow] at h;exact ⟨[],rfl,Ha,by simp [h.2.1],λj O' _=>⟨[],by simp [Rp,h.1,h.2.2],Ha⟩,Ha⟩
 | void=>simp only [Ow] at h;exact ⟨[],rfl,Ha,by simp [h.2],λj O' _=>⟨[],by simp only [Rp];exact ⟨h.1,trivial⟩,Ha⟩,Ha⟩
theorem Zlq {m:Nat->Prop} {w':World}:∀{xs:List L} {τ:Nat} {vs:List Value} {F:List Nat},OwL m w' xs vs F->∃q:List Inc,q.map (λi=>(i.τ,i.A))=(Zlr τ xs).2/\(∀i∈q,ZpB m w' i)/\F=q.flatMap (·.F)/\
  (∀(k:Env) (O':St),(∀i∈q,k.ρ i.τ=i.v/\O'.ar.lookup i.τ=some (some i.A))->Yn k O' w' (Zlr τ xs).1 vs)/\∀i∈q,i.v∈vs
 | [],τ,vs,F,h=>by simp only [OwL] at h;exact ⟨[],rfl,Ha,by simp [h.2],λk O' _=>by simp [Zlr,Yn,h.1],Ha⟩
 | x::xs,τ,vs,F,h=>by
  simp only [OwL] at h;obtain ⟨v,l,I,J,rfl,rfl,A,C⟩:=h;obtain ⟨E,a1,a2,a3,a4,a5⟩:=Zls (τ:=τ) A;obtain ⟨G,p,r,s,t,z⟩:=Zlq (τ:=τ+(Zmx τ x).2.length) C;refine ⟨E++G,by simp [Zlr,a1,p],λi j=>by rcases He.1 j with j| j;exact a2 i j;exact r i j,by simp [a3,s],λk O' hq=> ?_,λi j=>by rcases He.1 j with j| j;exact a5 i j▸GL ..;exact Hz _ (z i j)⟩;simp only [Zlr,Yn];exact ⟨v,l,rfl,a4 k O' λi j=>hq i (by simp [j]),t k O' λi j=>hq i (by simp [j])⟩
theorem Zet {r:Nat->Prop} {w':World}:∀{p:List DV} {τ:Nat} {vs:List Value} {F:List Nat},ZeG r w' p vs F->∃q:List Inc,q.map (λi=>(i.τ,i.A))=(Zb3 τ p).2/\(∀i∈q,ZpB r w' i)/\F=q.flatMap (·.F)/\
  (∀(l:Env) (O':St),(∀i∈q,l.ρ i.τ=i.v/\O'.ar.lookup i.τ=some (some i.A))->YH l O' w' (Zb3 τ p).1 vs)/\∀i∈q,∃u∈vs,i.v∈Jl u
 | [],τ,vs,F,h=>by simp only [ZeG] at h;exact ⟨[],rfl,Ha,by simp [h.2],λl O' _=>by simp [Zb3,YH,h.1],Ha⟩
 | .one x::T,τ,vs,F,h=>by
  simp only [ZeG] at h;obtain ⟨v,m,S,U,rfl,rfl,k,G⟩:=h;obtain ⟨M,a1,a2,a3,a4,a5⟩:=Zls (τ:=τ) k;obtain ⟨R,s,t,z,C,E⟩:=Zet (τ:=τ+(Zmx τ x).2.length) G;refine ⟨M++R,by simp [Zb3,a1,s],λi j=>by rcases He.1 j with j| j;exact a2 i j;exact t i j,by simp [a3,z],λl O' hq=> ?_,λi j=> ?_⟩
  rotate_left
  ·rcases He.1 j with j| j
   ·refine ⟨v,GL .., ?_⟩;rw [a5 i j];have k:Ow r w' x v S:=k;cases x with
    | sl es=>simp only [Ow] at k;obtain ⟨A,c,rfl,_⟩:=k;simp [Jl]
    | void=>simp only [Ow] at k;obtain ⟨⟨A,n,c,rfl⟩,_⟩:=k;simp [Jl]
    | _=>simp only [Ow] at k;rw [k.1];simp [Jl]
   ·obtain ⟨u,I,J⟩:=E i j;exact ⟨u,Hz _ I,J⟩
  simp only [Zb3,YH];exact ⟨v,m,rfl,⟨_,rfl,a4 l O' λi j=>hq i (by simp [j])⟩,C l O' λi j=>hq i (by simp [j])⟩
 | .agg T::p,τ,vs,F,h=>by
  simp only [ZeG] at h;obtain ⟨v,m,S,U,rfl,rfl,⟨W,rfl,k⟩,G⟩:=h;obtain ⟨M,a1,a2,a3,a4,a5⟩:=Zlq (τ:=τ) k;obtain ⟨R,s,t,z,C,E⟩:=Zet (τ:=τ+(Zlr τ T).2.length) G;refine ⟨M++R,by simp [Zb3,a1,s],λi j=>by rcases He.1 j with j| j;exact a2 i j;exact t i j,by simp [a3,z],λl O' hq=> ?_,λi j=> ?_⟩
  rotate_left
  ·rcases He.1 j with j| j
   ·exact ⟨_,GL ..,by simpa [Jl] using a5 i j⟩
   ·obtain ⟨u,I,J⟩:=E i j;exact ⟨u,Hz _ I,J⟩
  simp only [Zb3,YH];exact ⟨_,m,rfl,⟨W,rfl,a4 l O' λi j=>hq i (by simp [j])⟩,C l O' λi j=>hq i (by simp [j])⟩
theorem Zob:∀(xs:List L) (τ:Nat),((Zlr τ xs).2.map (·.1)).Nodup/\∀p∈(Zlr τ xs).2,τ<=p.1/\p.1<τ+(Zlr τ xs).2.length
 | [],τ=>by simp [Zlr]
 | x::xs,τ=>by
  obtain ⟨k,j⟩:=Zob xs (τ+(Zmx τ x).2.length);cases x with
  | sl es=>
   simp only [Zlr,Zmx,HL,List.length_nil,HH,Hm,Hs,Hi] at k j ⊢;refine ⟨Gf.2 ⟨λl=> ?_,k⟩,λp hp=> ?_⟩
   ·obtain ⟨p,hp,m⟩:=Hd.1 l;have:=j p hp;omega
   ·rcases Hc.1 hp with rfl| hp
    ·simp
    ·have:=j p hp;omega
  | _=>simpa [Zlr,Zmx] using ZEJ k j
theorem ZgS:∀(j:List DV) (τ:Nat),((Zb3 τ j).2.map (·.1)).Nodup/\∀p∈(Zb3 τ j).2,τ<=p.1/\p.1<τ+(Zb3 τ j).2.length
 | [],τ=>by simp [Zb3]
 | .one x::j,τ=>by
  obtain ⟨l,k⟩:=ZgS j (τ+(Zmx τ x).2.length);cases x with
  | sl es=>
   simp only [Zb3,Zmx,HL,List.length_nil,HH,Hm,Hs,Hi] at l k ⊢;refine ⟨Gf.2 ⟨λA=> ?_,l⟩,λp hp=> ?_⟩
   ·obtain ⟨p,hp,C⟩:=Hd.1 A;have:=k p hp;omega
   ·rcases Hc.1 hp with rfl| hp
    ·simp
    ·have:=k p hp;omega
  | _=>simpa [Zb3,Zmx] using ZEJ l k
 | .agg t::j,τ=>by
  obtain ⟨l,k⟩:=ZgS j (τ+(Zlr τ t).2.length);obtain ⟨z,s⟩:=Zob t τ;simp only [Zb3,GD,Hp];refine ⟨HZ.2 ⟨z,l,λx I y J m=> ?_⟩,λp hp=> ?_⟩
  ·subst m;obtain ⟨p,hp,rfl⟩:=Hd.1 I;obtain ⟨r,E,G⟩:=Hd.1 J;have:=s p hp;have:=k r E;omega
  ·rcases He.1 hp with hp| hp
   ·have:=s p hp;omega
   ·have:=k p hp;omega
end
section
variable {e:Env} {O:St} {w:World} {N:Nat->Prop} {w0:Bs} {a:Act} {P:Program}
theorem J6:∀{q:List Inc},(q.map (·.τ)).Nodup->∀i∈q,q.find? (·.τ==i.τ)=some i
 | [],_,i,k=>by simp at k
 | j::q,p,i,k=>by
  simp only [Hi,Gf] at p
  by_cases l:j.τ=i.τ
  ·have:i=j:=by
    rcases Hc.1 k with h| h
    ·exact h
    ·exact absurd (Hd.2 ⟨i,h,l.symm⟩) p.1
   subst this;simp
  ·have m:i∈q:=by
    rcases Hc.1 k with h| h
    ·subst h;exact absurd rfl l
    ·exact h
   simp only [List.find?,beq_eq_false_iff_ne.2 l];exact J6 p.2 i m
theorem J5 {q:List Inc} {κ:Nat} (h:κ∉q.map (·.τ)):q.find? (·.τ==κ)=none:=by
 rw [List.find?_eq_none];intro i k j;exact h (Hd.2 ⟨i,k,by simpa using j⟩)
def Zab (q:List Inc):List (Nat×Option Arr):=q.map λi=>(i.τ,some i.A)
theorem Zbg:∀{q:List Inc} {l:List (Nat×Option Arr)},(q.map (·.τ)).Nodup->∀i∈q,(Zab q++l).lookup i.τ=some (some i.A)
 | [],_,_,i,k=>by simp at k
 | j::q,l,r,i,k=>by
  simp only [Hi,Gf] at r;simp only [Zab,Hi,Hm,lookup_cons]
  by_cases m:i.τ=j.τ
  ·have:i=j:=by
    rcases Hc.1 k with h| h
    ·exact h
    ·exact absurd (Hd.2 ⟨i,h,m⟩) r.1
   subst this;simp
  ·have p:i∈q:=by
    rcases Hc.1 k with h| h
    ·subst h;exact absurd rfl m
    ·exact h
   rw [if_neg m];exact Zbg r.2 i p
theorem Zbh:∀{q:List Inc} {l:List (Nat×Option Arr)} {κ:Nat},κ∉q.map (·.τ)->(Zab q++l).lookup κ=l.lookup κ
 | [],_,_,_=>rfl
 | j::q,l,κ,h=>by
  simp only [Hi,Hc,not_or] at h;simp only [Zab,Hi,Hm,lookup_cons,if_neg h.1];exact Zbh h.2
theorem Zmr {q:List Inc} {i:Inc} (hi:i∈q) {b:Nat} (j:b∈i.F):b∈q.flatMap (·.F):=GH.2 ⟨i,hi,j⟩
theorem Zex:∀{q:List Inc},(q.flatMap (·.F)).Nodup->∀i∈q,∀j∈q,i.τ≠j.τ->∀b∈i.F,b∉j.F
 | [],_,i,t,_,_,_,_,_=>by simp at t
 | k::q,A,i,t,j,hj,r,b,s=>by
  simp only [List.flatMap_cons] at A;obtain ⟨E,C,z⟩:=HZ.1 A;rcases Hc.1 t with l| l<;>rcases Hc.1 hj with m| m
  ·exact absurd (by rw [l,m]) r
  ·exact λp=>z b (l▸s) b (Zmr m p) rfl
  ·exact λp=>z b (m▸p) b (Zmr l s) rfl
  ·exact Zex C i l j m r b s
theorem Zck:∀{q:List Inc},(q.flatMap (·.F)).Nodup->∀i∈q,i.F.Nodup
 | [],_,i,j=>by simp at j
 | k::q,l,i,j=>by
  simp only [List.flatMap_cons] at l;obtain ⟨m,p,r⟩:=HZ.1 l;rcases Hc.1 j with rfl| j
  ·exact m
  ·exact Zck p i j
theorem Uf.Zll {M:Nat->Prop} {i:Inc} {w':World} {l:Nat->Prop} (h:ZpB l w' i) (C:∀b,l b->N b) (E:i.F.Nodup):Uf N M w' i.A i.v i.F:=by
 obtain ⟨j,s⟩:=h;have j:=j.mono C;simp only [Ow] at j;obtain ⟨A,c,p,m,z| ⟨b,t,k,r,W,G,I,J,R,S,T,U,X,Y⟩⟩:=j
 ·exact ⟨A,c,p,m,.inl z⟩
 ·exact ⟨A,c,p,m,.inr ⟨b,t,k,r,W,G,I,J,R,S,T,U,.inl ⟨s,X,E,Y⟩⟩⟩
theorem ZJ.Zjh (h:ZJ N w0 e O a w) {w':World} (G:Below w.heap.size w w') {q:List Inc} (hq:∀i∈q,ZpB (w.heap.size<= ·) w' i) (X:(q.map (·.τ)).Nodup) (hF:(q.flatMap (·.F)).Nodup) (hn:∀i∈q,O.ar.lookup i.τ=none) (S:Bool)
  {tm:List (Nat×V)} {a':Act} (c1:a'.tmps.size=O.nt) (b6:a'.defers=[])
  (c4:Up e O w (QN e q S) ⟨O.nt,tm,O.bx,Zab q++O.ar⟩ w'->(∀i∈q,(QN e q S).ρ i.τ=i.v/\(Zab q++O.ar).lookup i.τ=some (some i.A))->
   ∀t x,tm.lookup t=some x->(O.tm.lookup t=some x/\a'.tmps.getD t undef=a.tmps.getD t undef)\/x.rel (QN e q S) ⟨O.nt,tm,O.bx,Zab q++O.ar⟩ w' (a'.tmps.getD t undef)):
  ZJ N w0 (QN e q S) ⟨O.nt,tm,O.bx,Zab q++O.ar⟩ a' w':=by
 have U:∀i∈q,(QN e q S).ρ i.τ=i.v:=λi m=>by simp [QN,J6 X i m]
 have E:∀i∈q,(QN e q S).φ i.τ=i.F:=λi m=>by simp [QN,J6 X i m]
 have I:∀l,l∉q.map (·.τ)->(QN e q S).ρ l=e.ρ l:=λl b0=>by simp [QN,J5 b0]
 have Y:∀l,l∉q.map (·.τ)->(QN e q S).φ l=e.φ l:=λl b0=>by simp [QN,J5 b0]
 have M:∀l A,O.ar.lookup l=some A->l∉q.map (·.τ):=λl A C r=>by
  obtain ⟨i,m,rfl⟩:=Hd.1 r;rw [hn i m] at C;cases C
 have s:∀i∈q,∀b∈i.F,w.heap.size<=b:=λi m b p=>((hq i m).1.blocks b p).1
 have z:∀l A,(Zab q++O.ar).lookup l=some (some A)->(∃i∈q,i.τ=l/\A=i.A)\/(l∉q.map (·.τ)/\O.ar.lookup l=some (some A)):=by
  intro l A C
  by_cases r:l∈q.map (·.τ)
  ·obtain ⟨i,m,rfl⟩:=Hd.1 r;rw [Zbg X i m] at C;exact .inl ⟨i,m,rfl,(ZEI (ZEI C)).symm⟩
  ·rw [Zbh r] at C;exact .inr ⟨r,C⟩
 have u:Up e O w (QN e q S) ⟨O.nt,tm,O.bx,Zab q++O.ar⟩ w':=by
  refine ⟨G.size,λb b3 _=>G.block b b3,λb b3 r=> ?_,λk cs X=>⟨⟨cs,X⟩,rfl⟩,λl A C=> ?_,λl _ ⟨B,hB⟩ _=>⟨I l (M l _ hB),λb p=>G.block b (h.Yp (κ:=.a l) ⟨B,hB⟩ b ((h.ar l B hB).own p).1).1⟩⟩
  ·rcases r with (h0| ⟨i,m,_,p⟩)| ⟨k,cs,W,R⟩| ⟨l,A,W,R⟩
   ·exact .inl h0
   ·have:=s i m b p;omega
   ·exact .inr (.inl ⟨k,cs,W,R⟩)
   ·rcases z l A W with ⟨i,m,rfl,rfl⟩| ⟨r,C⟩
    ·rw [U i m] at R
     have:=s i m b (by
      have c2:=Uf.Zll (N:=λb=>w.heap.size<=b) (M:=λ_=>True) (hq i m) (λ_ h=>h) (Zck hF i m);exact (c2.own R).1)
     omega
    ·rw [I l r] at R;exact .inr (.inr ⟨l,A,C,R⟩)
  ·have r:=M l A C;refine ⟨A, ?_,λB hB=>⟨B,hB,ZEN _,λ_=>I l r⟩⟩;show (Zab q++O.ar).lookup l=some A;rw [Zbh r];exact C
 refine h.Zqi u (λl=>∃i∈q,l= .a i.τ) c1 b6 (c4 u λi m=>⟨U i m,Zbg X i m⟩) (λk cs b2 _=>⟨b2,G.block _ (h.Yp (κ:=.b k) ⟨cs,b2⟩ _ (by simp [blk])).1⟩) (λl A C hK=> ?_)
  (λk cs _ hK=>by obtain ⟨i,_,Z⟩:=hK;cases Z) (λl A C hK=> ?_) (λl hl hK b p=> ?_) (λl c6 _ _ c0 hK b4 b p=> ?_) (h.fr.below G) (λb h=>.inl h) (λb p=> ?_) (λl _ hK hd b p=>by
   obtain ⟨i,m,rfl⟩:=hK;simp only [blk,E i m] at p;exact .inr ⟨i,m,hd,p⟩) (λk cs _ hK _=>by obtain ⟨i,_,Z⟩:=hK;cases Z) (λl b _ hK G=>by
   obtain ⟨i,m,rfl⟩:=hK;refine h.fr.new b (HA h.fr.size (s i m b ?_));rcases G with G| ⟨_,G⟩
   ·rw [U i m] at G;exact ((Uf.Zll (N:=λb=>w.heap.size<=b) (M:=λ_=>True) (hq i m) (λ_ h=>h) (Zck hF i m)).own G).1
   ·rw [E i m] at G;exact G)
 ·rcases z l A C with ⟨i,m,rfl,rfl⟩| ⟨r,T⟩
  ·exact absurd ⟨i,m,rfl⟩ hK
  ·exact ⟨T,I l r,Y l r,λb p=>G.block b (h.Yp (κ:=.a l) ⟨A,T⟩ b p).1⟩
 ·obtain ⟨i,m,Z⟩:=hK;injection Z with Z
  subst Z;rcases z i.τ A C with ⟨j,hj,b8,rfl⟩| ⟨r,_⟩
  ·have:j=i:=by
    have W:=J6 X j hj;have R:=J6 X i m;rw [b8,R] at W;exact (ZEI W).symm
   subst this;rw [U j m,E j m];exact Uf.Zll (hq j m) (λb p=>h.tn b (h.fr.new b (HA h.fr.size p))) (Zck hF j m)
  ·exact absurd (Hd.2 ⟨i,m,rfl⟩) r
 ·obtain ⟨i,m,rfl⟩:=hK;simp only [blk,E i m] at p;exact .inr (.inr (s i m b p))
 ·obtain ⟨i,m,rfl⟩:=hK;obtain ⟨j,hj,rfl⟩:=b4;simp only [blk,E i m,E j hj] at p ⊢;exact Zex hF i m j hj (λe'=>c0 (by rw [e'])) b p
 ·rcases p with p| ⟨i,m,b7,J⟩
  ·exact .inl p
  ·obtain ⟨_,c5,ty,c3⟩:=(hq i m).1.blocks b J;refine .inr ⟨s i m b J,V6 c3,λl hl r=> ?_⟩;cases l with
   | b k=>
    obtain ⟨cs,b5⟩:=hl;have W:=(h.Yp (κ:=.b k) ⟨cs,b5⟩ b r).1;have R:=s i m b J;omega
   | a l=>
    obtain ⟨A,C⟩:=hl;rcases z l A C with ⟨j,hj,rfl,_⟩| ⟨b9,T⟩
    ·by_cases b1:i.τ=j.τ
     ·rw [<-b1];exact b7
     ·simp only [blk,E j hj] at r;exact absurd r (Zex hF i m j hj b1 b J)
    ·simp only [blk,Y l b9] at r;have W:=(h.Yp (κ:=.a l) ⟨A,T⟩ b r).1;have R:=s i m b J;omega
theorem Un {w':World} {z:Env} {O':St}:∀{m:List DV} {us:List Value} {F:List Nat},Yu w' m us F->(∀b∈F,¬Mut z O' b)->YH z O' w' (m.map ptD) us
 | [],us,F,h,_=>by simp only [Yu] at h;simp [YH,h.1]
 | .one x::m,us,F,h,l=>by
  simp only [Yu] at h;obtain ⟨v,k,t,A,rfl,rfl,p,r⟩:=h;simp;exact ⟨v,k,rfl,⟨_,rfl,t,p,λb j=>l b (by simp [j])⟩,Un r λb j=>l b (by simp [j])⟩
 | .agg C::m,us,F,h,l=>by
  simp only [Yu] at h;obtain ⟨v,k,t,A,rfl,rfl,⟨s,rfl,p⟩,r⟩:=h;simp;exact ⟨_,k,rfl,⟨s,rfl,WL p λb j=>l b (by simp [j])⟩,Un r λb j=>l b (by simp [j])⟩
theorem ZgD {w':World} {A:Env} {O':St} {l:List (Bool×List CV)} {us:List Value} (h:YH A O' w' l us):(Zml l).rel A O' w' (Zpc us):=by
 unfold Zml
 split
 ·rename_i c;simp only [YH] at h;obtain ⟨v,k,rfl,⟨G,s,j⟩,m⟩:=h;subst m;injection s with s _
  subst s;exact j
 ·rename_i cs;simp only [YH] at h;obtain ⟨v,k,rfl,⟨us,rfl,j⟩,m⟩:=h;subst m;exact ⟨us,rfl,j⟩
 ·rename_i t z;cases l with
  | nil=>
   simp only [YH] at h;subst h;exact ⟨[],rfl,by simp [YH]⟩
  | cons p l=>
   cases l with
   | nil=>
    simp only [YH] at h;obtain ⟨v,k,rfl,j,m⟩:=h;obtain ⟨b,cs⟩:=p;cases b
    ·obtain ⟨c,rfl,j⟩:=j;exact absurd rfl (t c)
    ·exact absurd rfl (z cs)
   | cons J l=>
    have C:=h;simp only [YH] at h;obtain ⟨v,k,rfl,j,E,r,rfl,m,I⟩:=h;exact ⟨v::E::r,rfl,C⟩
theorem Zad.lt {d:DV} {v:Value} {F:List Nat} (h:Zad w d v F):∀b∈F,b<w.heap.size:=by
 cases d with
 | one x=>exact Rp.lt h
 | agg k=>obtain ⟨j,_,h⟩:=h;exact h.lt
theorem Zlx:∀{k:List DV} {vs:List Value} {F:List Nat},Yu w k vs F->∀b∈F,b<w.heap.size
 | [],_,_,h=>by simp only [Yu] at h;simp [h.2]
 | d::k,_,_,h=>by
  simp only [Yu] at h;obtain ⟨v,p,r,s,rfl,rfl,l,m⟩:=h;intro b j;rcases He.1 j with j| j
  ·exact l.lt b j
  ·exact Zlx m b j
theorem Zr8 (h:ZJ N w0 e O a w) {o:Oper} {f:Nat} {xs:Array Operand} {ts:Array Nat} (ho:o.op= .call { callee:=.value (.func f),args:=xs,argTypes:=ts})
  {vs:List V} (b4:Xs O xs.toList=some vs) {ds:List DV} {z:Bool} {p:Prop} (hd:Vs O vs=some (ds,z,p)) (hp:p) {fr S:Bool} {R:List DV} (hc:Ctr P f ds fr R) (b3:fr=false->z=true)
  {g:Eff} (C:QO O o.dst fr S R=some g) {K:Act->World->Prop} {Q:Exit->Act->World->Prop} (hK:∀e' a' w',ZJ N w0 e' (O.app g) a' w'->K a' w'):o.wp P a w K Q:=by
 obtain ⟨m,I⟩:=hc;obtain ⟨FA,W,M⟩:=Zon h b4 hd hp
 have Z:(execOp a.eval o).run P w= .ok (.enter f (xs.toList.map a.eval).toArray) w:=by
  unfold Y9 at m
  split at m
  ·rename_i fn b2;simp only [ZEM,bne_iff_ne,ne_eq] at m;obtain ⟨c,hb⟩:∃c,fn.body=some c:=Hk.1 m.2;have G:(xs.toList.map a.eval).toArray=xs.map a.eval:=by rw [<-HJ];simp
   rw [G];simp [execOp,ho,resolve,Act.eval,Deferred.ofValue,invoke,callFunc,b2,m.1,hb]
  ·cases m
 unfold Oper.wp;rw [Z,Oper.upon_enter];refine (I w _ FA (h.fr.glb.imp λ_ g=>g.1) W).mono λen w' hR=> ?_;obtain ⟨us,rfl,l,r⟩:=hR;simp only;unfold QO at C
 split at C
 ·rename_i s;obtain rfl:=ZEI C;rw [s];have:=h.Zjh r (q:=[]) Ha Ha Ha Ha false (tm:=O.tm) (a':=a) h.nt h.df (λu _ t x ht=>.inl ⟨ht,rfl⟩);exact hK _ _ _ this
 ·rename_i d s;rw [s]
  split at C
  ·rename_i X
   split at C
   ·rename_i j;subst j
    split at C
    ·rename_i E;obtain rfl:=ZEI C;simp only [ZdC,if_true] at l;obtain ⟨F,k1,k2⟩:=l;obtain ⟨q,q1,q2,rfl,q4,_⟩:=Zet k1;have J:q.map (·.τ)=(Zb3 (base S d) R).2.map (·.1):=by rw [<-q1,List.map_map];rfl
     have b0:Zab q=(Zb3 (base S d) R).2.map λp=>(p.1,some p.2):=by rw [<-q1,List.map_map];rfl
     have:=h.Zjh r q2 (by rw [J];exact (ZgS R (base S d)).1) k2 (λi hi=>by
      rw [Hj] at E;have:=E (i.τ,i.A) (by rw [<-q1];exact Hd.2 ⟨i,hi,rfl⟩)
      simpa using this) S (by rw [Z2];exact h.nt) (by rw [ZO];exact h.df)
      (λu Y=>ZaX (by rw [h.nt];exact X) (ZgD (q4 _ _ λi hi=>Y i hi)))
     rw [b0] at this;exact hK _ _ _ this
    ·cases C
   ·rename_i j;have j:fr=false:=by simpa using j
    subst j;obtain rfl:=ZEI C;simp only [ZdC,ZEO,if_false] at l;obtain ⟨F,k1,k2⟩:=l
    have:=h.Zjh r (q:=[]) Ha Ha Ha Ha false (tm:=(d,Zml (R.map ptD))::O.tm) (a':=a.put (some d) (Zpc us)) (by rw [Z2];exact h.nt) (by rw [ZO];exact h.df)
     (λu Y=>ZaX (by rw [h.nt];exact X) (ZgD (Un k1 λb hb hm=>by
      rcases k2 b hb with g1| g1
      ·have b1:=(Zlx W b g1);exact M (b3 rfl) b g1 (u.mt b b1 hm)
      ·rcases hm with (h0| ⟨_,h0,_⟩)| ⟨k,cs,h1,h2⟩| ⟨κ,A,h1,h2⟩
       ·have:=(h.bad.2 b h0).1;omega
       ·cases h0
       ·have:=(h.Yp (κ:=.b k) ⟨cs,h1⟩ (e.β k) (by simp [blk])).1;have U:e.β k=b:=h2;omega
       ·have T:=h1;have U:=h2;have:=(h.Yp (κ:=.a κ) ⟨A,T⟩ b ((h.ar κ A T).own U).1).1;omega)))
    exact hK _ _ _ this
  ·cases C
end
structure But (b:Nat) (w w':World):Prop where
 os:w'.os=w.os
 tape:w'.tape=w.tape
 output:w'.output=w.output
 size:w.heap.size<=w'.heap.size
 block:∀x,x<w.heap.size->x≠b->w'.heap[x]? =w.heap[x]?
def Zxm (fr:Bool) (w w':World) (b:Nat) (k FS:List Nat) (j:List DV) (us:List Value):Prop:=
 if fr then ∃F,ZeG (λx=>w.heap.size<=x\/x=b) w' j us F/\F.Nodup/\b∉F/\∀u∈us,∀v∈Jl u,∀x,v.ownBlock=some x->x∉FS
 else ∃F,Yu w' j us F/\∀x∈F,x≠b/\(x∈k\/w.heap.size<=x)
def ZeC (P:Program) (f:Nat) (d1:List DV) (cs:List L) (d2:List DV) (fr:Bool) (E:List DV) (z:List L):Prop:=
 Y9 P f=true/\∀(w:World) (m p:List Value) (r s FS:List Nat) (b:Nat) (l:Array Value) (I:TypeId),(∃G,Glb w G/\¬G b)->Yu w d1 m r->Yu w d2 p s->w.heap[b]? =some (.cells l I (0,0))->RpL w cs l.toList FS->b∉r++(s++FS)->
  Calls P f (m++.pointer (some ⟨b,0,none⟩)::p).toArray w λe t=>∃C j A k,e= .returned (Zpc C)/\t.heap[b]? =some (.cells j A (0,0))/\RpL t z j.toList k/\
   (∀x∈k,x≠b/\(x∈r++(s++FS)\/w.heap.size<=x))/\Zxm fr w t b (r++(s++FS)) k E C/\But b w t
def ZmW (P:Program) (f:Nat) (d1:List DV) (cs:List L) (d2:List DV) (fr:Bool) (E:List DV) (z:List L) (X:List Value->List Value->Prop):Prop:=
 Y9 P f=true/\∀(w:World) (m p:List Value) (r s FS:List Nat) (b:Nat) (l:Array Value) (I:TypeId),(∃G,Glb w G/\¬G b)->Yu w d1 m r->Yu w d2 p s->w.heap[b]? =some (.cells l I (0,0))->RpL w cs l.toList FS->b∉r++(s++FS)->
  Calls P f (m++.pointer (some ⟨b,0,none⟩)::p).toArray w λe t=>∃C j A k,e= .returned (Zpc C)/\t.heap[b]? =some (.cells j A (0,0))/\RpL t z j.toList k/\
   (∀x∈k,x≠b/\(x∈r++(s++FS)\/w.heap.size<=x))/\Zxm fr w t b (r++(s++FS)) k E C/\But b w t/\X l.toList j.toList
theorem ZeC.toX {P:Program} {f:Nat} {d1 d2:List DV} {cs j:List L} {fr:Bool} {t:List DV} (h:ZeC P f d1 cs d2 fr t j):ZmW P f d1 cs d2 fr t j λ_ _=>True:=
 ⟨h.1,λw r s z A FS b m Y M C E G I J=>(h.2 w r s z A FS b m Y M C E G I J).mono λen w' hR=>by
  obtain ⟨Z,k,p,l,R,S,T,U,W,X⟩:=hR;exact ⟨Z,k,p,l,R,S,T,U,W,X,trivial⟩⟩
theorem ZmW.ZDx {P:Program} {f:Nat} {d1 d2:List DV} {cs j:List L} {fr:Bool} {t:List DV} {X:List Value->List Value->Prop} (h:ZmW P f d1 cs d2 fr t j X):ZeC P f d1 cs d2 fr t j:=
 ⟨h.1,λw r s z A FS b m Z M C E G I J=>(h.2 w r s z A FS b m Z M C E G I J).mono λen w' hR=>by
  obtain ⟨us,k,p,l,R,S,T,U,W,Y,_⟩:=hR;exact ⟨us,k,p,l,R,S,T,U,W,Y⟩⟩
def ZnD:List L->List Value->List Value->Prop
 | .sl _::j,v::l,u::k=>u=v/\ZnD j l k
 | .sl _::_,_,_=>False
 | _::j,l,k=>ZnD j (l.drop 1) (k.drop 1)
 | [],_,_=>True
def ZCV (P:Program) (f:Nat) (d1:List DV) (cs:List L) (d2:List DV) (fr:Bool) (k:List DV) (j:List L):Prop:=ZmW P f d1 cs d2 fr k j (ZnD j)
def ZuQ:List CV->List L->List CV
 | .kept v _::cs,.sl es::j=>.kept v (.sl es)::ZuQ cs j
 | _::cs,x::j=>.l x::ZuQ cs j
 | [],j=>j.map .l
 | _,[]=>[]
def Zwb (P:Program) (f:Nat) (p:List DV) (cs:List L):Prop:=
 Y9 P f=true/\∀(w:World) (m:List Value) (l:List Nat),(∃G,Glb w G)->Yu w p m l->
  Calls P f m.toArray w λe k=>∃b j r FS,e= .returned (.pointer (some ⟨b,0,none⟩))/\w.heap.size<=b/\k.heap[b]? =some (.cells j r (0,0))/\RpL k cs j.toList FS/\(∀x∈FS,x≠b/\(x∈l\/w.heap.size<=x))/\Below w.heap.size w k
def frC (O:St):CV->Option (L×List Nat×Prop)
 | .l x=>some (x,[],True)
 | .kept _ x=>some (x,[],True)
 | .nil=>some (.sl [],[],True)
 | .own j n=>match O.ar.lookup j with
  | some (some A)=>some (.sl A.es,[j],A.es.length=n/\j<1000000)
  | _=>none
 | _=>none
def frL (O:St):List CV->Option (List L×List Nat×Prop)
 | []=>some ([],[],True)
 | c::cs=>match frC O c,frL O cs with
  | some (x,t,p),some (j,u,q)=>some (x::j,t++u,p/\q)
  | _,_=>none
def frV (O:St):V->Option (DV×List Nat×Prop)
 | .one c=>(frC O c).map λr=>(.one r.1,r.2)
 | .agg cs=>(frL O cs).map λr=>(.agg r.1,r.2)
 | _=>none
def Zhs (O:St):List V->Option (List DV×List Nat×Prop)
 | []=>some ([],[],True)
 | v::j=>match frV O v,Zhs O j with
  | some (x,t,p),some (k,u,q)=>some (x::k,t++u,p/\q)
  | _,_=>none
def St.frz (O:St) (τs:List Nat):St:=⟨O.nt,O.tm,O.bx,τs.map (λj=>(j,none))++O.ar⟩
def Zm2 (O:St) (j:Nat) (vs:List V):Option (List DV×Nat×List L×List DV×List Nat×Prop):=
 match vs.drop j with
 | .one (.box k 0)::l=>match Zhs O (vs.take j),O.bx.lookup k,Zhs O l with
  | some (d1,t1,p),some cells,some (d2,t2,r)=>match frL O cells with
   | some (m,t3,s)=>some (d1,k,m,d2,t1++(t2++t3),p/\r/\s)
   | none=>none
  | _,_,_=>none
 | _=>none
def UC (O:St) (dst:Option Nat) (k:Nat) (τs:List Nat) (fr:Bool) (l:List DV) (m:List L):Option Eff:=
 match dst with
 | none=>some ⟨True,[],[(k,m.map .l)],τs.map λj=>(j,none)⟩
 | some d=>if d<O.nt then
   if fr then
    if (Zb3 (64*d) l).2.all (λp=>(O.ar.lookup p.1).isNone&&decide (p.1<1000000)) then
     some ⟨True,[(d,Zml (Zb3 (64*d) l).1)],[(k,m.map .l)],((Zb3 (64*d) l).2.map λp=>(p.1,some p.2))++τs.map λj=>(j,none)⟩
    else none
   else some ⟨True,[(d,Zml (l.map ptD))],[(k,m.map .l)],τs.map λj=>(j,none)⟩
  else none
structure LeB (O O':St) (g:Eff):Prop where
 nt:O'.nt=O.nt
 bx:∀k cs,O.bx.lookup k=some cs->O'.bx.lookup k=some cs
 ar:∀τ A,O.ar.lookup τ=some A->O'.ar.lookup τ=some A
 fb:∀p∈g.bx,O.bx.lookup p.1=none->O'.bx.lookup p.1=none
 fa:∀p∈g.ar,O.ar.lookup p.1=none->O'.ar.lookup p.1=none
theorem LeB.trans {O m r:St} {g:Eff} (h:LeB O m g) (k:LeB m r g):LeB O r g:=
 ⟨k.nt.trans h.nt,λt v l=>k.bx t v (h.bx t v l),λt v l=>k.ar t v (h.ar t v l),λp hp j=>k.fb p hp (h.fb p hp j),λp hp j=>k.fa p hp (h.fa p hp j)⟩
def ZmY (P:Program) (O:St) (dst:Option Nat) (f:Nat) (vs:List V) (g:Eff):Prop:=
 Y9 P f=true/\(∀p∈g.tm,dst=some p.1)/\∀O',LeB O O' g->∀(N:Nat->Prop) (w0:Bs) (e:Env) (a:Act) (w:World) (k:List Value),ZJ N w0 e O' a w->k.length=vs.length->(∀(j:Nat) (v:V),vs[j]? =some v->∃u,k[j]? =some u/\v.rel e O' w u)->
  Calls P f k.toArray w λm r=>∃u l,m= .returned u/\ZJ N w0 l (O'.app g) (a.put dst u) r
theorem ZmY.le {P:Program} {O O':St} {dst:Option Nat} {f:Nat} {vs:List V} {g:Eff} (h:ZmY P O dst f vs g) (k:LeB O O' g):ZmY P O' dst f vs g:=⟨h.1,h.2.1,λj l=>h.2.2 j (k.trans l)⟩
inductive Zhq (P:Program) (O:St) (dst:Option Nat) (f:Nat) (vs:List V):Eff->Prop where
 | ptr (j:Nat) (d1:List DV) (k:Nat) (ls:List L) (d2:List DV) (τs:List Nat) (p:Prop) (fr:Bool) (rs:List DV) (ls':List L) (g:Eff) (h1:Zm2 O j vs=some (d1,k,ls,d2,τs,p)) (h2:p) (h3:ZeC P f d1 ls d2 fr rs ls') (h4:UC O dst k τs fr rs ls'=some g):Zhq P O dst f vs g
 | ptrS (j:Nat) (d1:List DV) (k:Nat) (ls:List L) (d2:List DV) (τs:List Nat) (p:Prop) (fr:Bool) (rs:List DV) (ls':List L) (g:Eff) (cells:List CV) (h1:Zm2 O j vs=some (d1,k,ls,d2,τs,p)) (h2:p) (h3:ZCV P f d1 ls d2 fr rs ls') (h4:UC O dst k τs fr rs ls'=some g) (h5:O.bx.lookup k=some cells):Zhq P O dst f vs ⟨g.side,g.tm,[(k,ZuQ cells ls')],g.ar⟩
 | box (ds:List DV) (τs:List Nat) (p:Prop) (cs:List L) (d:Nat) (h1:Zhs O vs=some (ds,τs,p)) (h2:p) (h3:Zwb P f ds cs) (h4:dst=some d) (h5:d<O.nt) (h6:O.bx.lookup d=none):Zhq P O dst f vs ⟨True,[(d,.one (.box d 0))],[(d,cs.map .l)],τs.map λτ=>(τ,none)⟩
 | froz (ds:List DV) (τs:List Nat) (p:Prop) (rs:List DV) (d:Nat) (h1:Zhs O vs=some (ds,τs,p)) (h2:p) (h3:Ctr P f ds false rs) (h4:dst=some d) (h5:d<O.nt):Zhq P O dst f vs ⟨True,[(d,Zml (rs.map ptD))],[],τs.map λτ=>(τ,none)⟩
 | hand (g:Eff) (h:ZmY P O dst f vs g):Zhq P O dst f vs g
section
variable {e:Env} {O:St} {w:World} {N:Nat->Prop} {w0:Bs} {a:Act} {P:Program}
theorem Zew {τs:List Nat} {τ:Nat}:(O.frz τs).ar.lookup τ=if τ∈τs then some none else O.ar.lookup τ:=by
 show (τs.map (λτ=>(τ,(none:Option Arr)))++O.ar).lookup τ=_
 induction τs with
 | nil=>simp
 | cons t τs j=>
  simp only [Hi,Hm,lookup_cons,Hc]
  by_cases h:τ=t
  ·simp [h]
  ·simp only [h,false_or,if_false];exact j
theorem Zjj {τs:List Nat} {τ:Nat} {A:Arr} (h:(O.frz τs).ar.lookup τ=some (some A)):τ∉τs/\O.ar.lookup τ=some (some A):=by
 rw [Zew] at h
 split at h
 ·cases h
 ·exact ⟨by assumption,h⟩
theorem Zkd {τs:List Nat} {b:Nat} (h:Mut e (O.frz τs) b):Mut e O b:=by
 rcases h with h| ⟨k,cs,j,l⟩| ⟨m,A,j,l⟩
 ·exact .inl h
 ·exact .inr (.inl ⟨k,cs,j,l⟩)
 ·exact .inr (.inr ⟨m,A,(Zjj j).2,l⟩)
theorem ZJ.frz (h:ZJ N w0 e O a w) (τs:List Nat):ZJ N w0 e (O.frz τs) a w:=by
 have u:Up e O w e (O.frz τs) w:=⟨ZEN _,λ_ _ _=>rfl,λb _ p=>Zkd p,λk cs m=>⟨⟨cs,m⟩,rfl⟩,λs A j=>by
  rw [Zew]
  split
  ·exact ⟨none,rfl,λB l=>by cases l⟩
  ·exact ⟨A,j,λB l=>⟨B,l,ZEN _,λ_=>rfl⟩⟩,λ_ _ _ _=>⟨rfl,λ_ _=>rfl⟩⟩
 exact h.Zqi u (λ_=>False) h.nt h.df (λt v r=>.inl ⟨r,rfl⟩) (λk cs m _=>⟨m,rfl⟩) (λs A j _=>⟨(Zjj j).2,rfl,rfl,λ_ _=>rfl⟩)
  (λ_ _ _ h=>h.elim) (λ_ _ _ h=>h.elim) (λ_ _ h=>h.elim) (λ_ _ _ _ _ h=>h.elim) h.fr (λ_ h=>h) (λ_ h=>.inl h) (λ_ _ h=>h.elim) (λ_ _ _ h=>h.elim) (λ_ _ _ h=>h.elim)
theorem ZmG (h:ZJ N w0 e O a w) {c:CV} {v:Value} (G:c.rel e O w v) {x:L} {Z:List Nat} {p:Prop} (hd:frC O c=some (x,Z,p)) (hp:p) {τs:List Nat} (hs:∀τ∈Z,τ∈τs):∃F,Rp w x v F/\∀b∈F,¬Mut e (O.frz τs) b:=by
 unfold frC at hd
 split at hd
 ·simp only [ZEK,ZEL] at hd;obtain ⟨rfl,rfl,rfl⟩:=hd;obtain ⟨F,l,E⟩:=G;exact ⟨F,l,λb t r=>E b t (Zkd r)⟩
 ·simp only [ZEK,ZEL] at hd;obtain ⟨rfl,rfl,rfl⟩:=hd;obtain ⟨_,F,l,E⟩:=G;exact ⟨F,l,λb t r=>E b t (Zkd r)⟩
 ·simp only [ZEK,ZEL] at hd;obtain ⟨rfl,rfl,rfl⟩:=hd;have R:=G;subst R;refine ⟨[], ?_,Ha⟩;simp only [Rp];exact ⟨none,0,rfl,ZEN _,WF,.inl Ha⟩
 ·rename_i τ n
  split at hd
  ·rename_i A m;simp only [ZEK,ZEL] at hd;obtain ⟨rfl,rfl,rfl⟩:=hd;obtain ⟨J,s,l,_⟩:=G;rw [m] at s;obtain rfl:=ZEI s;have R:=(l A rfl).2 hp.1;subst R;have T:=hs τ Ha;obtain ⟨p',c,z,X,Y,hc| ⟨b,vs,U,W,rfl,q2,q3,q4,I,q6⟩⟩:=h.elems m hp.2
   ·refine ⟨[], ?_,Ha⟩;simp only [Rp];exact ⟨p',c,z,X,Y,.inl (by simp [hc])⟩
   ·refine ⟨b::U, ?_,λx S r=> ?_⟩
    ·simp only [Rp];exact ⟨_,c,z,X,Y,.inr ⟨b,0,vs,U,rfl,(h.Yp (κ:=.a τ) ⟨A,m⟩ b I).1,rfl,q2,q4⟩⟩
    ·rcases Hc.1 S with rfl| S
     ·rcases r with t| ⟨j,cs,k,M⟩| ⟨C,J,k,M⟩
      ·have l:1000000<=τ:=(h.bad.2 x t).2 (.a τ) ⟨A,m⟩ I;have E:=hp.2;omega
      ·exact h.sep (.b j) (.a τ) ⟨cs,k⟩ ⟨A,m⟩ Ha x (by simp only [blk,Hu];exact M.symm) I
      ·obtain ⟨hn,k⟩:=Zjj k;exact h.sep (.a C) (.a τ) ⟨J,k⟩ ⟨A,m⟩ (by rintro ⟨⟩;exact hn T) x ((h.ar C J k).own M).1 I
     ·exact q6 x S (Zkd r)
  ·cases hd
 ·cases hd
theorem Zz8:∀{cs:List CV} {x:List L×List Nat×Prop},frL O cs=some x->U3 cs=true
 | [],_,_=>rfl
 | [c],_,h=>by cases c<;>first | rfl| (simp [frL,frC] at h)
 | _::_::_,_,_=>rfl
theorem ZpL (h:ZJ N w0 e O a w) {τs:List Nat}:∀{cs:List CV} {vs:List Value},Yn e O w cs vs->∀{xs:List L} {z:List Nat} {p:Prop},frL O cs=some (xs,z,p)->p->(∀τ∈z,τ∈τs)->∃F,RpL w xs vs F/\∀b∈F,¬Mut e (O.frz τs) b
 | [],vs,l,xs,f,p,hd,hp,m=>by
  simp only [Yn] at l;subst l;simp only [frL,ZEK,ZEL] at hd;obtain ⟨rfl,rfl,rfl⟩:=hd;exact ⟨[],by simp [RpL],Ha⟩
 | c::cs,vs,l,xs,f,p,hd,hp,m=>by
  simp only [Yn] at l;obtain ⟨v,r,rfl,I,J⟩:=l;simp only [frL] at hd
  split at hd
  ·rename_i x f1 T S f2 U A C;simp only [ZEK,ZEL] at hd;obtain ⟨rfl,rfl,rfl⟩:=hd;obtain ⟨s,M,R⟩:=ZmG h I A hp.1 (τs:=τs) λτ j=>m τ (by simp [j]);obtain ⟨t,E,G⟩:=ZpL h J C hp.2 λτ j=>m τ (by simp [j]);refine ⟨s++t,by simp only [RpL];exact ⟨v,r,s,t,rfl,rfl,M,E⟩,λb k=> ?_⟩;rcases He.1 k with k| k
   ·exact R b k
   ·exact G b k
  ·cases hd
theorem Zx9 (h:ZJ N w0 e O a w) {τs:List Nat} {x:V} {v:Value} (k:x.rel e O w v) {d:DV} {r:List Nat} {p:Prop} (hd:frV O x=some (d,r,p)) (hp:p) (m:∀τ∈r,τ∈τs):∃F,Zad w d v F/\∀b∈F,¬Mut e (O.frz τs) b:=by
 cases x with
 | one c=>
  simp only [frV] at hd;obtain ⟨⟨y,s,A⟩,l,j⟩:=Hf.1 hd;simp only [ZEL] at j;obtain ⟨rfl,rfl,rfl⟩:=j;exact ZmG h k l hp m
 | agg cs=>
  simp only [frV] at hd;obtain ⟨⟨y,s,A⟩,l,j⟩:=Hf.1 hd;simp only [ZEL] at j;obtain ⟨rfl,rfl,rfl⟩:=j;obtain ⟨C,rfl,k⟩:=k;obtain ⟨F,t,z⟩:=ZpL h k l hp m;exact ⟨F,⟨C,rfl,t⟩,z⟩
 | tup E=>simp [frV] at hd
 | dead=>simp [frV] at hd
theorem Zhl (h:ZJ N w0 e O a w) {τs:List Nat}:∀{s:List Operand} {vs:List V},Xs O s=some vs->∀{l:List DV} {A:List Nat} {p:Prop},Zhs O vs=some (l,A,p)->p->(∀τ∈A,τ∈τs)->∃F,Yu w l (s.map a.eval) F/\∀b∈F,¬Mut e (O.frz τs) b
 | [],vs,ho,l,f,p,hd,hp,m=>by
  simp only [Xs,ZEK] at ho;subst ho;simp only [Zhs,ZEK,ZEL] at hd;obtain ⟨rfl,rfl,rfl⟩:=hd;exact ⟨[],by simp [Yu],Ha⟩
 | o::s,vs,ho,l,f,p,hd,hp,m=>by
  simp only [Xs] at ho
  split at ho
  ·rename_i v S J r;obtain rfl:=ZEI ho;simp only [Zhs] at hd
   split at hd
   ·rename_i x f1 U T f2 W C E;simp only [ZEK,ZEL] at hd;obtain ⟨rfl,rfl,rfl⟩:=hd;obtain ⟨t,M,R⟩:=Zx9 h (ZG h J) C hp.1 (τs:=τs) λτ j=>m τ (by simp [j]);obtain ⟨z,G,I⟩:=Zhl h r E hp.2 λτ j=>m τ (by simp [j]);refine ⟨t++z,by simp only [Hi,Yu];exact ⟨_,_,t,z,rfl,rfl,M,G⟩,λb k=> ?_⟩;rcases He.1 k with k| k
    ·exact R b k
    ·exact I b k
   ·cases hd
  ·cases ho
theorem Zlk:∀{l:List Operand} {vs:List V} (j:Nat),Xs O l=some vs->Xs O (l.take j)=some (vs.take j)/\Xs O (l.drop j)=some (vs.drop j)
 | l,vs,0,h=>by simpa [Xs] using h
 | [],vs,j+1,h=>by simp only [Xs,ZEK] at h;subst h;simp [Xs]
 | o::l,vs,j+1,h=>by
  simp only [Xs] at h
  split at h
  ·rename_i v s r k;obtain rfl:=ZEI h;obtain ⟨m,p⟩:=Zlk j k;simp only [List.take_succ_cons,List.drop_succ_cons,Xs,r,m];exact ⟨trivial,p⟩
  ·cases h
theorem Zvg (h:ZJ N w0 e O a w) {l:List Operand} {vs:List V} (J:Xs O l=some vs) {j k:Nat} {d1 d2:List DV} {S:List L} {τs:List Nat} {p:Prop} (s:Zm2 O j vs=some (d1,k,S,d2,τs,p)) (hp:p):
  ∃C E G I cells cur ty FS,l.map a.eval=C++.pointer (some ⟨e.β k,0,none⟩)::E/\Yu w d1 C G/\Yu w d2 E I/\O.bx.lookup k=some cells/\w.heap[e.β k]? =some (.cells cur ty (0,0))/\RpL w S cur.toList FS/\
   ∀x∈G++(I++FS),¬Mut e (O.frz τs) x:=by
 unfold Zm2 at s
 split at s
 ·rename_i k' T A
  split at s
  ·rename_i b0 t1 p1 cells b3 t2 p2 e1 M e3
   split at s
   ·rename_i b4 t3 p3 R;simp only [ZEK,ZEL] at s;obtain ⟨rfl,rfl,rfl,rfl,rfl,rfl⟩:=s;obtain ⟨s1,z⟩:=Zlk j J;rw [A] at z
    obtain ⟨o,r,hl⟩:∃o r,l.drop j=o::r:=by
     cases hd:l.drop j with
     | nil=>rw [hd] at z;simp [Xs] at z
     | cons o r=>exact ⟨o,r,rfl⟩
    rw [hl] at z;simp only [Xs] at z
    split at z
    ·rename_i v b5 hv hr;obtain ⟨rfl,rfl⟩:=List.cons.inj (ZEI z);obtain ⟨G,a1,a2⟩:=Zhl h s1 e1 hp.1 (τs:=t1++(t2++t3)) λU m=>by simp [m]
     obtain ⟨I,W,X⟩:=Zhl h hr e3 hp.2.1 (τs:=t1++(t2++t3)) λU m=>by simp [m]
     obtain ⟨_,cur,ty,Y,Z⟩:=h.bxC M (Zz8 R);obtain ⟨FS,f1,f2⟩:=ZpL h Z R hp.2.2 (τs:=t1++(t2++t3)) λU m=>by simp [m]
     refine ⟨_,_,G,I,cells,cur,ty,FS, ?_,a1,W,M,Y,f1,λx t=> ?_⟩
     ·have hb:=(ZG h hv).2;rw [<-hb,<-Hi,<-GD,<-hl,Hn]
     ·rcases He.1 t with t| t
      ·exact a2 x t
      ·rcases He.1 t with t| t
       ·exact X x t
       ·exact f2 x t
    ·cases z
   ·cases s
  ·cases s
 ·cases s
theorem ZqX {c:CV} {x:L} {k:List Nat} {p:Prop} (h:frC O c=some (x,k,p)):∀τ∈k,∃A,O.ar.lookup τ=some A:=by
 unfold frC at h
 split at h
 ·simp only [ZEK,ZEL] at h;simp [<-h.2.1]
 ·simp only [ZEK,ZEL] at h;simp [<-h.2.1]
 ·simp only [ZEK,ZEL] at h;simp [<-h.2.1]
 ·split at h
  ·rename_i A l;simp only [ZEK,ZEL] at h;obtain ⟨_,rfl,_⟩:=h;intro τ j;simp at j;exact j▸⟨_,l⟩
  ·cases h
 ·cases h
theorem ZmF:∀{cs:List CV} {xs:List L} {k:List Nat} {p:Prop},frL O cs=some (xs,k,p)->∀τ∈k,∃A,O.ar.lookup τ=some A
 | [],_,_,_,h=>by simp only [frL,ZEK,ZEL] at h;simp [<-h.2.1]
 | c::cs,_,_,_,h=>by
  simp only [frL] at h
  split at h
  ·rename_i l m;simp only [ZEK,ZEL] at h;obtain ⟨_,rfl,_⟩:=h;intro τ j;rcases He.1 j with j| j
   ·exact ZqX l τ j
   ·exact ZmF m τ j
  ·cases h
theorem ZvL {x:V} {d:DV} {l:List Nat} {p:Prop} (h:frV O x=some (d,l,p)):∀τ∈l,∃A,O.ar.lookup τ=some A:=by
 cases x with
 | one c=>
  simp only [frV] at h;obtain ⟨⟨y,m,r⟩,k,j⟩:=Hf.1 h;simp only [ZEL] at j;obtain ⟨_,rfl,_⟩:=j;exact ZqX k
 | agg cs=>
  simp only [frV] at h;obtain ⟨⟨y,m,r⟩,k,j⟩:=Hf.1 h;simp only [ZEL] at j;obtain ⟨_,rfl,_⟩:=j;exact ZmF k
 | tup s=>simp [frV] at h
 | dead=>simp [frV] at h
theorem Zkf:∀{cs:List V} {xs:List DV} {k:List Nat} {p:Prop},Zhs O cs=some (xs,k,p)->∀τ∈k,∃A,O.ar.lookup τ=some A
 | [],_,_,_,h=>by simp only [Zhs,ZEK,ZEL] at h;simp [<-h.2.1]
 | c::cs,_,_,_,h=>by
  simp only [Zhs] at h
  split at h
  ·rename_i l m;simp only [ZEK,ZEL] at h;obtain ⟨_,rfl,_⟩:=h;intro τ j;rcases He.1 j with j| j
   ·exact ZvL l τ j
   ·exact Zkf m τ j
  ·cases h
theorem Ztl {vs:List V} {j k:Nat} {d1 d2:List DV} {t:List L} {τs:List Nat} {p:Prop} (h:Zm2 O j vs=some (d1,k,t,d2,τs,p)):∀τ∈τs,∃A,O.ar.lookup τ=some A:=by
 unfold Zm2 at h
 split at h
 ·split at h
  ·rename_i m z r
   split at h
   ·rename_i s;simp only [ZEK,ZEL] at h;obtain ⟨_,_,_,_,rfl,_⟩:=h;intro τ l;rcases He.1 l with l| l
    ·exact Zkf m τ l
    ·rcases He.1 l with l| l
     ·exact Zkf r τ l
     ·exact ZmF s τ l
   ·cases h
  ·cases h
 ·cases h
theorem ZJ.through (h:ZJ N w0 e O a w) {k:Nat} {cells:List CV} (T:O.bx.lookup k=some cells) {w':World} (s:But (e.β k) w w') {cur:Array Value} {ty:TypeId} (hc:w'.heap[e.β k]? =some (.cells cur ty (0,0))) {ls:List L} {FS:List Nat} (hl:RpL w' ls cur.toList FS)
  {q:List Inc} (hq:∀i∈q,ZpB (λx=>w.heap.size<=x\/x=e.β k) w' i) (e0:e.β k∉q.flatMap (·.F)) (R:(q.map (·.τ)).Nodup) (hF:(q.flatMap (·.F)).Nodup) (hn:∀i∈q,O.ar.lookup i.τ=none) (I:∀i∈q,i.τ<1000000)
  (c4:∀x∈FS,(w.heap.size<=x/\∀i∈q,i.v.ownBlock≠some x)\/(x<w.heap.size/\¬Mut e O x))
  {tm:List (Nat×V)} {a':Act} (c9:a'.tmps.size=O.nt) (c6:a'.defers=[])
  (e1:(∀x,(w.heap.size<=x/\∀i∈q,i.v.ownBlock≠some x)\/(x<w.heap.size/\¬Mut e O x)->¬Mut (QN e q false) ⟨O.nt,tm,(k,ls.map .l)::O.bx,Zab q++O.ar⟩ x)->(∀i∈q,(QN e q false).ρ i.τ=i.v/\(Zab q++O.ar).lookup i.τ=some (some i.A))->
   ∀t x,tm.lookup t=some x->(O.tm.lookup t=some x/\a'.tmps.getD t undef=a.tmps.getD t undef)\/x.rel (QN e q false) ⟨O.nt,tm,(k,ls.map .l)::O.bx,Zab q++O.ar⟩ w' (a'.tmps.getD t undef)):
  ZJ N w0 (QN e q false) ⟨O.nt,tm,(k,ls.map .l)::O.bx,Zab q++O.ar⟩ a' w':=by
 have Z:∀i∈q,(QN e q false).ρ i.τ=i.v:=λi m=>by simp [QN,J6 R i m]
 have S:∀i∈q,(QN e q false).φ i.τ=i.F:=λi m=>by simp [QN,J6 R i m]
 have M:∀p,p∉q.map (·.τ)->(QN e q false).ρ p=e.ρ p:=λp b4=>by simp [QN,J5 b4]
 have c3:∀p,p∉q.map (·.τ)->(QN e q false).φ p=e.φ p:=λp b4=>by simp [QN,J5 b4]
 have U:∀p A,O.ar.lookup p=some A->p∉q.map (·.τ):=λp A z r=>by
  obtain ⟨i,m,rfl⟩:=Hd.1 r;rw [hn i m] at z;cases z
 obtain ⟨hN,Y⟩:=h.Yp (κ:=.b k) ⟨cells,T⟩ (e.β k) (by simp [blk])
 have J:∀i∈q,∀b∈i.F,w.heap.size<=b:=λi m b l=>by
  rcases ((hq i m).1.blocks b l).1 with g| g
  ·exact g
  ·exact absurd (g▸Zmr m l) e0
 have C:∀p A,(Zab q++O.ar).lookup p=some (some A)->(∃i∈q,i.τ=p/\A=i.A)\/(p∉q.map (·.τ)/\O.ar.lookup p=some (some A)):=by
  intro p A z
  by_cases r:p∈q.map (·.τ)
  ·obtain ⟨i,m,rfl⟩:=Hd.1 r;rw [Zbg R i m] at z;exact .inl ⟨i,m,rfl,(ZEI (ZEI z)).symm⟩
  ·rw [Zbh r] at z;exact .inr ⟨r,z⟩
 have b8:Mut e O (e.β k):=.inr (.inl ⟨k,cells,T,rfl⟩)
 have b9:∀b,Mut (QN e q false) ⟨O.nt,tm,(k,ls.map .l)::O.bx,Zab q++O.ar⟩ b->Mut e O b\/∃i∈q,i.v.ownBlock=some b:=by
  intro b r;rcases r with (h0| ⟨i,m,hd,_⟩)| ⟨j,cs,E,G⟩| ⟨p,A,E,G⟩
  ·exact .inl (.inl h0)
  ·have:=I i m;omega
  ·simp only [lookup_cons] at E
   by_cases hj:j=k
   ·subst hj;exact .inl ((show e.β j=b from G)▸b8)
   ·rw [if_neg hj] at E;exact .inl (.inr (.inl ⟨j,cs,E,G⟩))
  ·rcases C p A E with ⟨i,m,rfl,rfl⟩| ⟨r,z⟩
   ·rw [Z i m] at G;exact .inr ⟨i,m,G⟩
   ·rw [M p r] at G;exact .inl (.inr (.inr ⟨p,A,z,G⟩))
 have b1:∀i∈q,∀b,i.v.ownBlock=some b->w.heap.size<=b:=λi m b l=>by
  have b3:=Uf.Zll (N:=λx=>w.heap.size<=x\/x=e.β k) (M:=λ_=>True) (hq i m) (λ_ h=>h) (Zck hF i m);exact J i m b (b3.own l).1
 have b7:∀b,Mut e O b->b<w.heap.size:=λb r=>by
  rcases r with h0| ⟨j,cs,E,G⟩| ⟨p,A,E,G⟩
  ·exact (h.bad.2 b h0).1
  ·exact G▸(h.Yp (κ:=.b j) ⟨cs,E⟩ (e.β j) (by simp [blk])).1
  ·exact (h.Yp (κ:=.a p) ⟨A,E⟩ b ((h.ar p A E).own G).1).1
 have c2:∀x,(w.heap.size<=x/\∀i∈q,i.v.ownBlock≠some x)\/(x<w.heap.size/\¬Mut e O x)->¬Mut (QN e q false) ⟨O.nt,tm,(k,ls.map .l)::O.bx,Zab q++O.ar⟩ x:=by
  intro x W r;rcases b9 x r with g| ⟨i,m,g⟩
  ·rcases W with ⟨W,_⟩| ⟨_,W⟩
   ·have:=b7 x g;omega
   ·exact W g
  ·rcases W with ⟨_,W⟩| ⟨W,_⟩
   ·exact W i m g
   ·have:=b1 i m x g;omega
 have u:Up e O w (QN e q false) ⟨O.nt,tm,(k,ls.map .l)::O.bx,Zab q++O.ar⟩ w':=by
  refine ⟨s.size,λb Y r=>s.block b Y λhe=>r (he▸b8),λb Y r=> ?_,λj cs hj=>⟨?_,rfl⟩,λp A z=> ?_,λp _ ⟨B,hB⟩ _=>⟨M p (U p _ hB),λb l=>s.block b (h.Yp (κ:=.a p) ⟨B,hB⟩ b ((h.ar p B hB).own l).1).1 λX=>h.sep (.b k) (.a p) ⟨cells,T⟩ ⟨B,hB⟩ Ha (e.β k) (by simp [blk]) (X▸((h.ar p B hB).own l).1)⟩⟩
  ·rcases b9 b r with g| ⟨i,m,g⟩
   ·exact g
   ·have:=b1 i m b g;omega
  ·simp only [lookup_cons]
   split
   ·exact ⟨_,rfl⟩
   ·exact ⟨cs,hj⟩
  ·have r:=U p A z;refine ⟨A, ?_,λB hB=>⟨B,hB,ZEN _,λ_=>M p r⟩⟩;show (Zab q++O.ar).lookup p=some A;rw [Zbh r];exact z
 refine h.Zqi u (λp=>p= .b k\/∃i∈q,p= .a i.τ) c9 c6 (e1 c2 λi m=>⟨Z i m,Zbg R i m⟩) (λj cs hj hK=> ?_) (λp A z hK=> ?_)
  (λj cs hj hK=> ?_) (λp A z hK=> ?_) (λp hl hK b l=> ?_) (λp e2 _ _ c1 hK c5 b l=> ?_) ?_ (λb h=>.inl h) (λb l=> ?_) (λp _ hK hd b l=> ?_) (λj cs _ hK c8=>by
   rcases hK with hK| ⟨i,_,hK⟩
   ·injection hK with hK;subst hK;exact h.pn _ cells T c8
   ·cases hK) (λp b _ hK s=>by
   rcases hK with rfl| ⟨i,m,rfl⟩
   ·exact h.tp (.b k) b ⟨cells,T⟩ s
   ·rcases s with s| ⟨s,_⟩
    ·rw [Z i m] at s;have b3:=Uf.Zll (N:=λx=>w.heap.size<=x\/x=e.β k) (M:=λ_=>True) (hq i m) (λ_ h=>h) (Zck hF i m);rcases (b3.own s).2.1 with g| g
     ·exact h.fr.new b (HA h.fr.size g)
     ·exact h.tp (.b k) b ⟨cells,T⟩ g
    ·have:=I i m;omega)
 ·have b6:j≠k:=λe=>hK (.inl (by rw [e]));simp only [lookup_cons,if_neg b6] at hj;exact ⟨hj,s.block _ (h.Yp (κ:=.b j) ⟨cs,hj⟩ _ (by simp [blk])).1 λX=>h.sep (.b j) (.b k) ⟨cs,hj⟩ ⟨cells,T⟩ (by simp [b6]) (e.β j) (by simp [blk]) (by simp [blk,X])⟩
 ·rcases C p A z with ⟨i,m,rfl,rfl⟩| ⟨r,b2⟩
  ·exact absurd (.inr ⟨i,m,rfl⟩) hK
  ·exact ⟨b2,M p r,c3 p r,λb l=>s.block b (h.Yp (κ:=.a p) ⟨A,b2⟩ b l).1 λX=>h.sep (.b k) (.a p) ⟨cells,T⟩ ⟨A,b2⟩ Ha (e.β k) (by simp [blk]) (X▸l)⟩
 ·obtain rfl:j=k:=by
   rcases hK with hK| ⟨i,_,hK⟩
   ·injection hK
   ·cases hK
  simp only [lookup_cons,if_true] at hj;obtain rfl:=ZEI hj;obtain ⟨g1,_⟩:=h.bx j cells T;exact ⟨g1,.inl ⟨cur,ty,hc,WL hl λx W=>c2 x (c4 x W)⟩⟩
 ·rcases hK with hK| ⟨i,m,h9⟩
  ·cases hK
  injection h9 with h9
  subst h9;rcases C i.τ A z with ⟨j,hj,c7,rfl⟩| ⟨r,_⟩
  ·have:j=i:=by
    have E:=J6 R j hj;have G:=J6 R i m;rw [c7,G] at E;exact (ZEI E).symm
   subst this;rw [Z j m,S j m];refine Uf.Zll (hq j m) (λb l=> ?_) (Zck hF j m);rcases l with g| rfl
   ·exact h.tn b (h.fr.new b (HA h.fr.size g))
   ·exact Y
  ·exact absurd (Hd.2 ⟨i,m,rfl⟩) r
 ·rcases hK with rfl| ⟨i,m,rfl⟩
  ·exact .inl ⟨⟨cells,T⟩,l⟩
  ·simp only [blk,S i m] at l;exact .inr (.inr (J i m b l))
 ·rcases hK with rfl| ⟨i,m,rfl⟩<;>rcases c5 with rfl| ⟨j,hj,rfl⟩
  ·exact absurd rfl c1
  ·simp only [blk,S j hj,Hu] at l ⊢;have b5:b=e.β k:=l;subst b5;intro g;have:=J j hj _ g;omega
  ·simp only [blk,S i m,Hu] at l ⊢;intro g;have g':b=e.β k:=g;have:=J i m b l;omega
  ·simp only [blk,S i m,S j hj] at l ⊢;exact Zex hF i m j hj (λX=>c1 (by rw [X])) b l
 ·exact ⟨h.fr.gl,s.os.trans h.fr.os,s.tape.trans h.fr.tape,s.output.trans h.fr.output,HA h.fr.size s.size,λb b0 c0=>(s.block b (HM b0 h.fr.size) λX=>c0 (X▸h.tp (.b k) _ ⟨cells,T⟩ rfl)).trans (h.fr.block b b0 c0),h.fr.new⟩
 ·rcases l with l| ⟨i,m,hd,_⟩
  ·exact .inl l
  ·have:=I i m;omega
 ·rcases hK with rfl| ⟨i,m,rfl⟩
  ·exact hd.elim
  ·have E:=I i m;have G:1000000<=i.τ:=hd;omega
theorem ZJ.got (h:ZJ N w0 e O a w) {d:Nat} (hd:d<O.nt) (hn:O.bx.lookup d=none) {w':World} (E:Below w.heap.size w w') {b:Nat} (I:w.heap.size<=b) {cur:Array Value} {ty:TypeId} (hc:w'.heap[b]? =some (.cells cur ty (0,0))) {R:List L} {FS:List Nat} (hl:RpL w' R cur.toList FS)
  (Y:∀x∈FS,x≠b/\(w.heap.size<=x\/(x<w.heap.size/\¬Mut e O x))):
  ZJ N w0 { e with β:=λk=>if k=d then b else e.β k} ⟨O.nt,(d,.one (.box d 0))::O.tm,(d,R.map .l)::O.bx,O.ar⟩ (a.put (some d) (.pointer (some ⟨b,0,none⟩))) w':=by
 have M:∀x,Mut { e with β:=λk=>if k=d then b else e.β k} ⟨O.nt,(d,.one (.box d 0))::O.tm,(d,R.map .l)::O.bx,O.ar⟩ x->x=b\/Mut e O x:=by
  intro x C;rcases C with X| ⟨k,m,p,s⟩| p
  ·exact .inr (.inl X)
  ·simp only [lookup_cons] at p
   by_cases r:k=d
   ·simp [r] at s;exact .inl s.symm
   ·simp only [if_neg r] at p s;exact .inr (.inr (.inl ⟨k,m,p,s⟩))
  ·exact .inr (.inr (.inr p))
 have J:∀b,Mut e O b->b<w.heap.size:=λb C=>by
  rcases C with X| ⟨j,cs,p,s⟩| ⟨t,A,p,s⟩
  ·exact (h.bad.2 b X).1
  ·exact s▸(h.Yp (κ:=.b j) ⟨cs,p⟩ (e.β j) (by simp [blk])).1
  ·exact (h.Yp (κ:=.a t) ⟨A,p⟩ b ((h.ar t A p).own s).1).1
 have u:Up e O w { e with β:=λk=>if k=d then b else e.β k} ⟨O.nt,(d,.one (.box d 0))::O.tm,(d,R.map .l)::O.bx,O.ar⟩ w':=by
  refine ⟨E.size,λb l _=>E.block b l,λx W C=> ?_,λk m r=> ?_,λG A T=>⟨A,T,λB U=>⟨B,U,ZEN _,λ_=>rfl⟩⟩,λG _ ⟨B,U⟩ _=>⟨rfl,λb' l=>E.block b' (h.Yp (κ:=.a G) ⟨B,U⟩ b' ((h.ar G B U).own l).1).1⟩⟩
  ·rcases M x C with g| g
   ·omega
   ·exact g
  ·have z:k≠d:=λe=>by rw [e,hn] at r;cases r
   simp only [lookup_cons,if_neg z];exact ⟨⟨m,r⟩,trivial⟩
 refine h.Zqi u (λt=>t= .b d) (by rw [Z2];exact h.nt) (by rw [ZO];exact h.df)
  (ZaX (by rw [h.nt];exact hd) ⟨⟨R.map .l,Ha⟩,Ha⟩) (λk m r hK=> ?_) (λG A T _=>⟨T,rfl,rfl,λb l=>E.block b (h.Yp (κ:=.a G) ⟨A,T⟩ b l).1⟩)
  (λk m r hK=> ?_) (λG A _ hK=>by cases hK) (λt _ hK x W=> ?_) (λt b1 _ _ b0 p s=>absurd (p.trans s.symm) b0) (h.fr.below E) (λ_ h=>h) (λ_ h=>.inl h) (λt _ hK hd=>by subst hK;exact hd.elim) (λk m _ hK Z=>by injection hK with hK;subst hK;have p:O.nt<=k:=Z;omega) (λt x _ hK l=>by subst hK;simp [tpB] at l;subst l;exact h.fr.new _ (HA h.fr.size I))
 ·have z:k≠d:=λe=>hK (by rw [e]);simp only [lookup_cons,if_neg z] at r;exact ⟨r,E.block _ (h.Yp (κ:=.b k) ⟨m,r⟩ _ (by simp [blk])).1⟩
 ·injection hK with hK
  subst hK;simp at r;subst r;simp only [if_pos];refine ⟨h.tn _ (h.fr.new _ (HA h.fr.size I)),.inl ⟨cur,ty,hc,WL hl λx W C=> ?_⟩⟩;obtain ⟨g1,S⟩:=Y x W;rcases M x C with g| g
  ·exact g1 g
  ·rcases S with S| ⟨_,S⟩
   ·have:=J x g;omega
   ·exact S g
 ·subst hK;simp [blk] at W;exact .inr (.inr WF)
theorem ZeA {o:Oper} {f:Nat} {xs:Array Operand} {p:Array Nat} (ho:o.op= .call { callee:=.value (.func f),args:=xs,argTypes:=p}) (j:Y9 P f=true):(execOp a.eval o).run P w= .ok (.enter f (xs.toList.map a.eval).toArray) w:=by
 unfold Y9 at j
 split at j
 ·rename_i fn l;simp only [ZEM,bne_iff_ne,ne_eq] at j;obtain ⟨c,m⟩:∃c,fn.body=some c:=Hk.1 j.2;have k:(xs.toList.map a.eval).toArray=xs.map a.eval:=by rw [<-HJ];simp
  rw [k];simp [execOp,ho,resolve,Act.eval,Deferred.ofValue,invoke,callFunc,l,j.1,m]
 ·cases j
theorem Zqc {m:Env} {O':St} {w':World}:∀{cells:List CV} {vs:List Value},Yn e O w cells vs->∀{k:List L} {us:List Value},Yn m O' w' (k.map .l) us->ZnD k vs us->Yn m O' w' (ZuQ cells k) us
 | [],vs,_,k,us,h,_=>by simpa [ZuQ] using h
 | c::cells,vs,p,[],us,h,_=>by cases c<;>simpa [ZuQ] using h
 | c::cells,vs,p,x::k,us,h,r=>by
  simp only [Am.Yn] at p;obtain ⟨v,s,rfl,G,I⟩:=p;simp only [Hi,Am.Yn] at h;obtain ⟨u,j,rfl,t,E⟩:=h
  have C:ZnD k s j:=by
   cases x with
   | sl es=>exact r.2
   | _=>exact r
  have go:=Zqc I E C;have l:Yn m O' w' (.l x::ZuQ cells k) (u::j):=by simp only [Am.Yn];exact ⟨u,j,rfl,t,go⟩
  cases c with
  | kept J y=>
   cases x with
   | sl es=>
    simp only [ZuQ,Am.Yn];have z:=r.1;have A:=G.1;exact ⟨u,j,rfl,⟨z.trans A,t⟩,go⟩
   | _=>exact l
  | _=>exact l
theorem ZJ.ZBF {k nt:Nat} {tm:List (Nat×V)} {c1 C:List CV} {m:List (Nat×List CV)} {r:List (Nat×Option Arr)} (h:ZJ N w0 e ⟨nt,tm,(k,c1)::m,r⟩ a w) {cur:Array Value} {ty:TypeId} (hc:w.heap[e.β k]? =some (.cells cur ty (0,0)))
  (Z:Yn e ⟨nt,tm,(k,c1)::m,r⟩ w c1 cur.toList->Yn e ⟨nt,tm,(k,c1)::m,r⟩ w C cur.toList):ZJ N w0 e ⟨nt,tm,(k,C)::m,r⟩ a w:=by
 have I:∀j cs,((k,C)::m).lookup j=some cs->∃p,((k,c1)::m).lookup j=some p:=λj cs hj=>by
  simp only [lookup_cons] at hj ⊢
  split
  ·exact ⟨_,rfl⟩
  ·rename_i l;rw [if_neg l] at hj;exact ⟨_,hj⟩
 have u:Up e ⟨nt,tm,(k,c1)::m,r⟩ w e ⟨nt,tm,(k,C)::m,r⟩ w:=⟨ZEN _,λ_ _ _=>rfl,λb _ Y=>by
   rcases Y with g| ⟨j,cs,E,T⟩| g
   ·exact .inl g
   ·obtain ⟨p,s⟩:=I j cs E;exact .inr (.inl ⟨j,p,s,T⟩)
   ·exact .inr (.inr g),λj cs hj=>⟨by
    simp only [lookup_cons] at hj ⊢
    split
    ·exact ⟨_,rfl⟩
    ·rename_i l;rw [if_neg l] at hj;exact ⟨_,hj⟩,rfl⟩,λτ A G=>⟨A,G,λB X=>⟨B,X,ZEN _,λ_=>rfl⟩⟩,λ_ _ _ _=>⟨rfl,λ_ _=>rfl⟩⟩
 obtain ⟨E,s⟩:=h.bx k c1 Ha;have s:=s.rel hc
 refine h.Zqi u (λz=>z= .b k) h.nt h.df (λt v ht=>.inl ⟨ht,rfl⟩) (λj cs hj hK=> ?_) (λτ A G _=>⟨G,rfl,rfl,λ_ _=>rfl⟩)
  (λj cs hj hK=> ?_) (λ_ _ _ hK=>by cases hK) (λz hl hK b J=>.inl ⟨?_,J⟩) (λz b0 _ _ l U W=>absurd (U.trans W.symm) l) h.fr (λ_ h=>h) (λ_ h=>.inl h) (λz _ hK hd=>by subst hK;exact hd.elim) (λj cs hj hK R=> ?_) (λz b _ hK I=>by subst hK;exact h.tp (.b k) b ⟨c1,Ha⟩ I)
 ·have M:j≠k:=λS=>hK (by rw [S]);simp only [lookup_cons,if_neg M] at hj ⊢;exact ⟨hj,trivial⟩
 ·injection hK with hK
  subst hK;simp only [lookup_cons,if_true] at hj;obtain rfl:=ZEI hj;exact ⟨E,.inl ⟨cur,ty,hc,(Z s).up u⟩⟩
 ·subst hK;exact ⟨c1,Ha⟩
 ·injection hK with hK
  subst hK;exact h.pn _ c1 Ha R
theorem Ztk {dst:Option Nat} {k:Nat} {τs:List Nat} {fr:Bool} {l:List DV} {j:List L} {g:Eff} (h:UC O dst k τs fr l j=some g):g.bx=[(k,j.map .l)]:=by
 unfold UC at h
 split at h
 ·obtain rfl:=ZEI h;rfl
 ·split at h
  ·split at h
   ·split at h
    ·obtain rfl:=ZEI h;rfl
    ·cases h
   ·obtain rfl:=ZEI h;rfl
  ·cases h
theorem ZnY (h:ZJ N w0 e O a w) {o:Oper} {f:Nat} {xs:Array Operand} {ts:Array Nat} (ho:o.op= .call { callee:=.value (.func f),args:=xs,argTypes:=ts}) {vs:List V} (c5:Xs O xs.toList=some vs)
  {j:Nat} {d1:List DV} {k:Nat} {ls:List L} {d2:List DV} {τs:List Nat} {p:Prop} {fr:Bool} {E:List DV} {M:List L} {g:Eff} {X:List Value->List Value->Prop} (h1:Zm2 O j vs=some (d1,k,ls,d2,τs,p)) (h2:p) (h3:ZmW P f d1 ls d2 fr E M X) (I:UC O o.dst k τs fr E M=some g)
  {K:Act->World->Prop} {Q:Exit->Act->World->Prop} (hK:∀(e':Env) (a':Act) (w':World) (cells:List CV) (cur m:Array Value) (G:TypeId),ZJ N w0 e' (O.app g) a' w'->e'.β k=e.β k->O.bx.lookup k=some cells->Yn e O w cells cur.toList->w'.heap[e.β k]? =some (.cells m G (0,0))->X cur.toList m.toList->K a' w'):o.wp P a w K Q:=by
 obtain ⟨c1,U⟩:=h3;obtain ⟨c7,c8,F1,F2,cells,cur,ty,FS,T,a1,a2,J,a3,a4,a5⟩:=Zvg h c5 h1 h2;have hs:=h.frz τs;have b8:Mut e (O.frz τs) (e.β k):=.inr (.inl ⟨k,cells,J,rfl⟩)
 have b9:∀x∈F1++(F2++FS),x<w.heap.size:=λx l=>by
  rcases He.1 l with l| l
  ·exact Zlx a1 x l
  ·rcases He.1 l with l| l
   ·exact Zlx a2 x l
   ·exact a4.lt x l
 unfold Oper.wp;rw [ZeA ho c1,Oper.upon_enter,T];refine (U w c7 c8 F1 F2 FS (e.β k) cur ty (h.fr.glb.imp λ_ g=>⟨g.1,λq=>g.2 _ q (h.tp (.b k) _ ⟨cells,J⟩ rfl)⟩) a1 a2 a3 a4 λhm=>a5 _ hm b8).mono λen w' hR=> ?_;obtain ⟨us,m,G,c9,rfl,Y,b2,b3,b4,b5,b6⟩:=hR;have c2:=(h.bx k cells J).2.rel a3;simp only;have R:∀x,x∈F1++(F2++FS)->x<w.heap.size/\¬Mut e (O.frz τs) x:=λx l=>⟨b9 x l,a5 x l⟩;unfold UC at I
 split at I
 ·rename_i z;obtain rfl:=ZEI I;rw [z]
  have:=hs.through (k:=k) J b5 Y b2 (q:=[]) Ha Ha Ha Ha Ha Ha (λx l=>by
   rcases (b3 x l).2 with g| g
   ·exact .inr (R x g)
   ·exact .inl ⟨g,Ha⟩) (tm:=O.tm) (a':=a) h.nt h.df (λ_ _ t x ht=>.inl ⟨ht,rfl⟩)
  exact hK _ _ _ cells cur m G this rfl J c2 Y b6
 ·rename_i d z;rw [z]
  split at I
  ·rename_i hd
   split at I
   ·rename_i C;subst C
    split at I
    ·rename_i S;obtain rfl:=ZEI I;simp only [Zxm,if_true] at b4;obtain ⟨F,k1,k2,k3,k4⟩:=b4;obtain ⟨q,q1,q2,rfl,q4,q5⟩:=Zet (τ:=64*d) k1;have W:q.map (·.τ)=(Zb3 (64*d) E).2.map (·.1):=by rw [<-q1,List.map_map];rfl
     have b0:Zab q=(Zb3 (64*d) E).2.map λp=>(p.1,some p.2):=by rw [<-q1,List.map_map];rfl
     rw [Hj] at S
     have r:∀i∈q,O.ar.lookup i.τ=none/\i.τ<1000000:=λi s=>by
      have:=S (i.τ,i.A) (by rw [<-q1];exact Hd.2 ⟨i,s,rfl⟩)
      simpa using this
     have Z:∀i∈q,(O.frz τs).ar.lookup i.τ=none\/i.τ∈τs:=λi s=>by
      rw [Zew]
      split
      ·exact .inr (by assumption)
      ·exact .inl (r i s).1
     have c4:∀τ∈τs,∃A,O.ar.lookup τ=some A:=Ztl h1
     have:=hs.through (k:=k) J b5 Y b2 (q:=q) q2 k3 (by rw [W];exact (ZgS E (64*d)).1) k2 (λi s=>by
      rcases Z i s with g| g
      ·exact g
      ·obtain ⟨A,hA⟩:=c4 _ g;rw [(r i s).1] at hA;cases hA) (λi s=>(r i s).2) (λx l=>by
      rcases (b3 x l).2 with g| g
      ·exact .inr (R x g)
      ·refine .inl ⟨g,λi s c6=> ?_⟩;obtain ⟨u,hu,hv⟩:=q5 i s;exact k4 u hu _ hv x c6 l)
      (tm:=(d,Zml (Zb3 (64*d) E).1)::O.tm) (a':=a.put (some d) (Zpc us)) (by rw [Z2];exact h.nt) (by rw [ZO];exact h.df)
      (λ_ c3=>ZaX (by rw [h.nt];exact hd) (ZgD (q4 (QN e q false) _ λi s=>c3 i s)))
     rw [b0] at this;refine hK (QN e q false) (a.put (some d) (Zpc us)) w' cells cur m G ?_ rfl J c2 Y b6
     have b7:O.app ⟨True,[(d,Zml (Zb3 (64*d) E).1)],[(k,M.map .l)],((Zb3 (64*d) E).2.map λp=>(p.1,some p.2))++τs.map λτ=>(τ,none)⟩=⟨O.nt,(d,Zml (Zb3 (64*d) E).1)::O.tm,(k,M.map .l)::O.bx,((Zb3 (64*d) E).2.map λp=>(p.1,some p.2))++(O.frz τs).ar⟩:=by
      simp [St.app,St.frz]
     rw [b7];exact this
    ·cases I
   ·rename_i C;have C:fr=false:=by simpa using C
    subst C;obtain rfl:=ZEI I;simp only [Zxm,ZEO,if_false] at b4;obtain ⟨F,k1,k2⟩:=b4
    have:=hs.through (k:=k) J b5 Y b2 (q:=[]) Ha Ha Ha Ha Ha Ha (λx l=>by
     rcases (b3 x l).2 with g| g
     ·exact .inr (R x g)
     ·exact .inl ⟨g,Ha⟩) (tm:=(d,Zml (E.map ptD))::O.tm) (a':=a.put (some d) (Zpc us)) (by rw [Z2];exact h.nt) (by rw [ZO];exact h.df)
     (λc0 _=>ZaX (by rw [h.nt];exact hd) (ZgD (Un k1 λx l=>c0 x (by
      rcases (k2 x l).2 with g| g
      ·exact .inr (R x g)
      ·exact .inl ⟨g,Ha⟩))))
    exact hK _ _ _ cells cur m G this rfl J c2 Y b6
  ·cases I
theorem Zhq.sound (h:ZJ N w0 e O a w) {o:Oper} {f:Nat} {xs:Array Operand} {ts:Array Nat} (ho:o.op= .call { callee:=.value (.func f),args:=xs,argTypes:=ts}) {vs:List V} (z:Xs O xs.toList=some vs)
  {g:Eff} (hc:Zhq P O o.dst f vs g) {K:Act->World->Prop} {Q:Exit->Act->World->Prop} (hK:∀M a' w',ZJ N w0 M (O.app g) a' w'->K a' w'):o.wp P a w K Q:=by
 cases hc with
 | ptr j d1 k ls d2 r p fr rs b7 g m s I E=>exact ZnY h ho z m s I.toX E λM a' w' _ _ _ _ C _ _ _ _ _=>hK M a' w' C
 | ptrS j d1 k ls d2 r p fr rs b7 g cells m s I E T=>
  refine ZnY h ho z m s I E λM a' w' W Y b8 c1 C b6 hk hr hc hX=>hK M a' w' ?_;rw [T] at hk;obtain rfl:=ZEI hk;have hb:=Ztk E;obtain ⟨gs,gt,gb,ga⟩:=g;subst hb;exact ZJ.ZBF C (b6▸hc) λb0=>Zqc hr b0 hX
 | box ds r p cs d m s I E T h6=>
  obtain ⟨t,l⟩:=I;obtain ⟨X,a1,a2⟩:=Zhl h z m s λ_ J=>J;have C:=h.frz r;unfold Oper.wp;rw [ZeA ho t,Oper.upon_enter];refine (l w _ X (h.fr.glb.imp λ_ g=>g.1) a1).mono λen w' hR=> ?_;obtain ⟨b,Y,ty,FS,rfl,b1,b2,b3,b4,b5⟩:=hR;simp only;rw [E]
  exact hK _ _ _ (C.got T h6 b5 b1 b2 b3 λx hx=>⟨(b4 x hx).1,by
   rcases (b4 x hx).2 with g| g
   ·exact .inr ⟨Zlx a1 x g,a2 x g⟩
   ·exact .inl g⟩)
 | froz ds r p rs d m s I E T=>
  obtain ⟨t,l⟩:=I;obtain ⟨X,a1,a2⟩:=Zhl h z m s λ_ J=>J;have C:=h.frz r;unfold Oper.wp;rw [ZeA ho t,Oper.upon_enter];refine (l w _ X (h.fr.glb.imp λ_ g=>g.1) a1).mono λen w' hR=> ?_;obtain ⟨us,rfl,G,U⟩:=hR;simp only;rw [E];simp only [ZdC,ZEO,if_false] at G;obtain ⟨F,k1,k2⟩:=G
  have:=C.Zjh U (q:=[]) Ha Ha Ha Ha false (tm:=(d,Zml (rs.map ptD))::O.tm) (a':=a.put (some d) (Zpc us)) (by rw [Z2];exact h.nt) (by rw [ZO];exact h.df)
   (λu c0=>ZaX (by rw [h.nt];exact T) (ZgD (Un k1 λb hb hm=>by
    rcases k2 b hb with Z| Z
    ·exact a2 b Z (u.mt b (Zlx a1 b Z) hm)
    ·rcases hm with (h0| ⟨_,h0,_⟩)| ⟨k,cs,m,s⟩| ⟨κ,A,m,s⟩
     ·have:=(h.bad.2 b h0).1;omega
     ·cases h0
     ·have:=(h.Yp (κ:=.b k) ⟨cs,m⟩ (e.β k) (by simp [blk])).1;have S:e.β k=b:=s;omega
     ·have R:=(Zjj (show (O.frz r).ar.lookup κ=some (some A) from m)).2;have S:=s;have:=(h.Yp (κ:=.a κ) ⟨A,R⟩ b ((h.ar κ A R).own S).1).1;omega)))
  exact hK _ _ _ this
 | hand g m=>
  obtain ⟨t,_,l⟩:=m;obtain ⟨hl,hr⟩:=ZhL h z;unfold Oper.wp;rw [ZeA ho t,Oper.upon_enter];refine (l O ⟨rfl,λ_ _ h=>h,λ_ _ h=>h,λ_ _ h=>h,λ_ _ h=>h⟩ N w0 e a w _ h (by simp [hl]) λj v hj=> ?_).mono λen w' hR=> ?_
  ·have b9:=(Hh.1 hj).1;have hq:(xs.toList.map a.eval)[j]? =some ((xs.toList.map a.eval)[j]'(by rw [HO];omega)):=ZEP _;exact ⟨_,hq,hr j v _ hj hq⟩
  ·obtain ⟨u,M,rfl,C⟩:=hR;exact hK _ _ _ C
end
def XBy (P:Program) (O:St) (dst:Option Nat) (f:Nat) (vs:Option (List V)) (Z:Eff->Prop):Prop:=∃j g,vs=some j/\Zhq P O dst f j g/\Z g
def Zaa (P:Program) (O:St) (o:Oper):Option Eff:=
 match QG P O o.op with
 | some (x,s)=>match o.dst with
  | some d=>if d<O.nt then some ⟨s,[(d,x)],[],[]⟩ else none
  | none=>some ⟨s,[],[],[]⟩
 | none=>Wu P O o.dst o.op
structure Le (O O':St):Prop where
 nt:O'.nt=O.nt
 tm:∀t v,O.tm.lookup t=some v->O'.tm.lookup t=some v
 bx:∀k cs,O.bx.lookup k=some cs->O'.bx.lookup k=some cs
 ar:∀τ A,O.ar.lookup τ=some A->O'.ar.lookup τ=some A
structure ZoI (O O':St) (g:Eff):Prop where
 bx:∀p∈g.bx,O.bx.lookup p.1=none->O'.bx.lookup p.1=none
 ar:∀p∈g.ar,O.ar.lookup p.1=none->O'.ar.lookup p.1=none
def ZhT:Op->Bool
 | .box _ _| .alloc _| .store _ _ _| .buildSlice _ _ _| .makeSlice _ _ _=>true
 | .call { callee:=.builtin .append,args:=_,argTypes:=_}=>true
 | .call { callee:=.builtin .copy,args:=_,argTypes:=_}=>true
 | .slice _ _ none (some _) none=>true
 | .call { callee:=.value (.tmp _),args:=_,argTypes:=_}=>true
 | .mapUpdate _ _ _ _| .lookup _ _ _ _| .makeMap _ _| .makeFunc _ _ _=>true
 | .binOp _ _ _ (.const .nilFunc) _=>true
 | _=>false
def ZCY (P:Program) (N:Nat->Prop) (w0:Bs) (o:Oper) (a:Act) (w:World) (O':St):Prop:=
 ZDw P N w0 o a w O'\/∃f j,(execOp a.eval o).run P w= .ok (.enter f j) w/\Calls P f j w λl m=>∃u k,l= .returned u/\ZJ N w0 k O' (a.put o.dst u) m
def HOp (P:Program) (O:St) (o:Oper) (g:Eff):Prop:=(ZhT o.op=true\/g.ar≠[])/\(∀p∈g.tm,o.dst=some p.1)/\∀O',Le O O'->ZoI O O' g->∀(N:Nat->Prop) (w0:Bs) (e:Env) (a:Act) (w:World),ZJ N w0 e O' a w->ZCY P N w0 o a w (O'.app g)
def HBy (P:Program) (O:St) (o:Oper) (Z:Eff->Prop):Prop:=∃g,HOp P O o g/\Z g
theorem HOp.le {P:Program} {O O':St} {o:Oper} {g:Eff} (h:HOp P O o g) (k:Le O O') (f:ZoI O O' g):HOp P O' o g:=⟨h.1,h.2.1,λr l f2=>
 h.2.2 r ⟨l.nt.trans k.nt,λt v j=>l.tm t v (k.tm t v j),λt v j=>l.bx t v (k.bx t v j),λt v j=>l.ar t v (k.ar t v j)⟩
  ⟨λp hp m=>f2.bx p hp (f.bx p hp m),λp hp m=>f2.ar p hp (f.ar p hp m)⟩⟩
def XJ:Op->Option (Nat×List Operand)
 | .call { callee:=.value (.func f),args:=j,argTypes:=_}=>some (f,j.toList)
 | _=>none
def yld (O:St) (ops:Array Oper) (j:Nat) (k:Bool):Option Bool:=
 match (ops[j]?).bind (·.dst) with
 | some d=>match O.tm.lookup d with
  | some (.one (.l (.bool b)))=>some b
  | some .dead=>some (!k)
  | _=>none
 | none=>none
def St.kill (O:St):Option Nat->St
 | some d=>{ O with tm:=(d,.dead)::O.tm}
 | none=>O
mutual
def Z9 (P:Program) (ops:Array Oper):List Oper->St->(St->Prop)->Prop
 | [],O,K=>K O
 | o::rest,O,K=>match o.guard with
  | none=>match XJ o.op with
   | some (f,xs)=>match (Xs O xs).bind (Vs O) with
    | some (r,s,p)=>p/\((∃fr m l,Ctr P f r fr l/\(fr=false->s=true)/\(match QO O o.dst fr m l with | some g=>g.side/\Z9 P ops rest (O.app g) K| none=>False))\/XBy P O o.dst f (Xs O xs) λg=>Z9 P ops rest (O.app g) K)
    | none=>XBy P O o.dst f (Xs O xs) λg=>Z9 P ops rest (O.app g) K
   | none=>match Zaa P O o with | some g=>g.side/\Z9 P ops rest (O.app g) K| none=>HBy P O o λg=>Z9 P ops rest (O.app g) K
  | some (j,k)=>match yld O ops j k with
   | some b=>(b=k->match XJ o.op with
    | some (f,xs)=>match (Xs O xs).bind (Vs O) with
     | some (r,s,p)=>p/\((∃fr m l,Ctr P f r fr l/\(fr=false->s=true)/\(match QO O o.dst fr m l with | some g=>g.side/\Z9 P ops rest (O.app g) K| none=>False))\/XBy P O o.dst f (Xs O xs) λg=>Z9 P ops rest (O.app g) K)
     | none=>XBy P O o.dst f (Xs O xs) λg=>Z9 P ops rest (O.app g) K
    | none=>match Zaa P O o with | some g=>g.side/\Z9 P ops rest (O.app g) K| none=>HBy P O o λg=>Z9 P ops rest (O.app g) K)/\
    ((!b)=k->Z9 P ops rest (O.kill o.dst) K)
   | none=>False
end
def ZmS (P:Program) (ops:Array Oper) (rest:List Oper) (O:St) (K:St->Prop):Option Eff->Prop
 | some g=>g.side/\Z9 P ops rest (O.app g) K
 | none=>False
def Zky (P:Program) (ops:Array Oper) (o:Oper) (rest:List Oper) (O:St) (K:St->Prop):Option Eff->Prop
 | some g=>g.side/\Z9 P ops rest (O.app g) K
 | none=>HBy P O o λg=>Z9 P ops rest (O.app g) K
def ZmT (P:Program) (ops:Array Oper) (o:Oper) (rest:List Oper) (O:St) (K:St->Prop) (f:Nat) (vs:Option (List V)):Option (List DV×Bool×Prop)->Prop
 | some (l,m,p)=>p/\((∃fr k j,Ctr P f l fr j/\(fr=false->m=true)/\ZmS P ops rest O K (QO O o.dst fr k j))\/XBy P O o.dst f vs λg=>Z9 P ops rest (O.app g) K)
 | none=>XBy P O o.dst f vs λg=>Z9 P ops rest (O.app g) K
def Zp6 (P:Program) (ops:Array Oper) (o:Oper) (rest:List Oper) (O:St) (K:St->Prop):Option (Nat×List Operand)->Prop
 | some (f,j)=>ZmT P ops o rest O K f (Xs O j) ((Xs O j).bind (Vs O))
 | none=>Zky P ops o rest O K (Zaa P O o)
def Vu (P:Program) (ops:Array Oper) (o:Oper) (rest:List Oper) (O:St) (K:St->Prop) (j:Bool):Option Bool->Prop
 | some b=>(b=j->Zp6 P ops o rest O K (XJ o.op))/\((!b)=j->Z9 P ops rest (O.kill o.dst) K)
 | none=>False
section
variable {P:Program} {ops:Array Oper} {O:St} {K:St->Prop} {o:Oper} {rest:List Oper}
theorem ZeB:Z9 P ops [] O K=K O:=by unfold Z9;rfl
theorem Zau (d:Option Nat) (op:Op) (ty:Nat) (pos:String) (j:Array Edge):Z9 P ops (⟨d,op,ty,pos,j,none⟩::rest) O K=Zp6 P ops ⟨d,op,ty,pos,j,none⟩ rest O K (XJ op):=by
 rw [Z9];simp only [Zp6,ZmT,ZmS,Zky]
theorem Zav (d:Option Nat) (op:Op) (ty:Nat) (pos:String) (l:Array Edge) (j:Nat) (k:Bool):Z9 P ops (⟨d,op,ty,pos,l,some (j,k)⟩::rest) O K=Vu P ops ⟨d,op,ty,pos,l,some (j,k)⟩ rest O K k (yld O ops j k):=by
 rw [Z9];simp only [Vu,Zp6,ZmT,ZmS,Zky]
end
inductive Ev (P:Program) (O:St) (o:Oper):Eff->Prop where
 | step (g:Eff) (h:Zaa P O o=some g) (hs:g.side):Ev P O o g
 | call (f:Nat) (xs:List Operand) (vs:List V) (ds:List DV) (pu:Bool) (p:Prop) (fr dp:Bool) (rs:List DV) (g:Eff) (h1:XJ o.op=some (f,xs)) (h2:Xs O xs=some vs) (h3:Vs O vs=some (ds,pu,p)) (h4:p) (h5:Ctr P f ds fr rs) (h6:fr=false->pu=true) (h7:QO O o.dst fr dp rs=some g):Ev P O o g
 | ZaK (f:Nat) (xs:List Operand) (vs:List V) (g:Eff) (h1:XJ o.op=some (f,xs)) (h2:Xs O xs=some vs) (h3:Zhq P O o.dst f vs g):Ev P O o g
 | hand (g:Eff) (h:HOp P O o g):Ev P O o g
section
variable {e:Env} {O:St} {w:World} {N:Nat->Prop} {w0:Bs} {a:Act} {P:Program} {ops:Array Oper}
theorem Ev.sound {o:Oper} {g:Eff} (S:Ev P O o g) (h:ZJ N w0 e O a w) {K:Act->World->Prop} {Q:Exit->Act->World->Prop} (hK:∀a' w',Sim N w0 (O.app g) a' w'->K a' w'):o.wp P a w K Q:=by
 cases S with
 | step g j r=>
  unfold Zaa at j
  split at j
  ·rename_i x s E
   split at j
   ·rename_i d hd
    split at j
    ·rename_i A;obtain rfl:=ZEI j;obtain ⟨u,k,l⟩:=Zjz h E r;unfold Oper.wp;rw [k,Oper.upon_value,hd];exact hK _ _ ⟨e,h.put A l⟩
    ·cases j
   ·rename_i hd;obtain rfl:=ZEI j;obtain ⟨u,k,l⟩:=Zjz h E r;unfold Oper.wp;rw [k,Oper.upon_value,hd];exact hK _ _ ⟨e,h⟩
  ·obtain ⟨w',m,⟨u,k,l⟩| ⟨k,l⟩⟩:=Zpr h j r
   ·unfold Oper.wp;rw [k,Oper.upon_value];exact hK _ _ ⟨m,l⟩
   ·unfold Oper.wp;rw [k,Oper.upon_skip];exact hK _ _ ⟨m,l⟩
 | call f W U Y Z p fr X rs g j t z I J M R=>
  unfold XJ at j
  split at j
  ·rename_i G C T ho;obtain ⟨rfl,rfl⟩:=Prod.mk.inj (ZEI j);exact Zr8 h ho t z I J M R λm a' w' r=>hK _ _ ⟨m,r⟩
  ·cases j
 | ZaK f W U g j t z=>
  unfold XJ at j
  split at j
  ·rename_i G C T ho;obtain ⟨rfl,rfl⟩:=Prod.mk.inj (ZEI j);exact z.sound h ho t λm a' w' r=>hK _ _ ⟨m,r⟩
  ·cases j
 | hand g j=>
  obtain ⟨w',m,⟨u,k,l⟩| ⟨k,l⟩⟩| ⟨f,us,k,l⟩:=j.2.2 O ⟨rfl,λ_ _ h=>h,λ_ _ h=>h,λ_ _ h=>h⟩ ⟨λ_ _ h=>h,λ_ _ h=>h⟩ N w0 e a w h
  ·unfold Oper.wp;rw [k,Oper.upon_value];exact hK _ _ ⟨m,l⟩
  ·unfold Oper.wp;rw [k,Oper.upon_skip];exact hK _ _ ⟨m,l⟩
  ·unfold Oper.wp;rw [k,Oper.upon_enter];refine l.mono λen w' hR=> ?_;obtain ⟨u,m,rfl,r⟩:=hR;exact hK _ _ ⟨m,r⟩
theorem ZfD (h:ZJ N w0 e O a w) {j:Nat} {b k:Bool} (m:yld O ops j k=some b):(yielded ops a.tmps j==some k)=(b==k):=by
 unfold yld at m
 split at m
 ·rename_i d hd
  split at m
  ·rename_i s p;obtain rfl:=ZEI m;obtain ⟨F,r,_⟩:=h.tm d _ p;simp only [Rp] at r;unfold yielded;rw [hd];simp;have l:=r.1;rw [HQ] at l;cases hq:a.tmps[d]? with
   | none=>rw [hq] at l;simp [undef] at l
   | some v=>rw [hq] at l;simp at l;subst l;cases s<;>cases k<;>rfl
  ·rename_i p;obtain rfl:=ZEI m;have l:=h.tm d _ p;unfold yielded;rw [hd];simp only [ZEH];rw [HQ] at l;cases hq:a.tmps[d]? with
   | none=>cases k<;>rfl
   | some v=>rw [hq] at l;simp at l;subst l;cases k<;>rfl
  ·cases m
 ·cases m
theorem ZJ.kill (h:ZJ N w0 e O a w) (d:Option Nat):ZJ N w0 e (O.kill d) (a.put d undef) w:=by
 cases d with
 | none=>exact h
 | some d=>exact h.Zvf
theorem JO {Q:Exit->Act->World->Prop}:∀{l:List Oper} {O:St} {K:St->Prop},Z9 P ops l O K->∀{a:Act} {w:World},Sim N w0 O a w->(∀O' a' w',K O'->Sim N w0 O' a' w'->Q .normal a' w')->wpList P ops Q l a w
 | [],O,K,h,a,w,J,U=>U _ _ _ (by simpa [ZeB] using h) J
 | ⟨d,E,I,r,G,gd⟩::rest,O,K,h,a,w,⟨e,J⟩,U=>by
  have R:Zp6 P ops ⟨d,E,I,r,G,gd⟩ rest O K (XJ E)->∀A:Act->World->Prop,(∀a w,wpList P ops Q rest a w->A a w)->(Oper.mk d E I r G gd).wp P a w A Q:=by
   intro m A s
   have fin:∀g:Eff,Ev P O ⟨d,E,I,r,G,gd⟩ g->Z9 P ops rest (O.app g) K->(Oper.mk d E I r G gd).wp P a w A Q:=
    λg Y C=>Y.sound J λa' w' Z=>s _ _ (JO C Z U)
   unfold Zp6 at m
   split at m
   ·rename_i f xs X;unfold ZmT at m
    split at m
    ·rename_i ds pu p hd;obtain ⟨hp,⟨fr,dp,rs,h5,h6,T⟩| ⟨S,g,t,hx,z⟩⟩:=m
     ·unfold ZmS at T
      split at T
      ·rename_i g z;obtain ⟨S,t,hd⟩:=Hq.1 hd;exact fin g (.call f xs S ds pu p fr dp rs g X t hd hp h5 h6 z) T.2
      ·exact T.elim
     ·exact fin g (.ZaK f xs S g X t hx) z
    ·obtain ⟨S,g,t,hx,z⟩:=m;exact fin g (.ZaK f xs S g X t hx) z
   ·unfold Zky at m
    split at m
    ·rename_i g z;exact fin g (.step g z m.1) m.2
    ·obtain ⟨g,z,m⟩:=m;exact fin g (.hand g z) m
  refine wpList_step λA s=> ?_;cases gd with
  | none=>
   rw [Zau] at h;simp;exact R h A s
  | some g=>
   obtain ⟨j,k⟩:=g;rw [Zav] at h;unfold Vu at h
   split at h
   ·rename_i b hy;have M:=ZfD J hy
    by_cases W:b=k
    ·have:Region.wanted (Oper.mk d E I r G (some (j,k))) (yielded ops a.tmps)=true:=by
      show (yielded ops a.tmps j==some k)=true;rw [M];simp [W]
     rw [if_pos this];exact R (h.1 W) A s
    ·have:Region.wanted (Oper.mk d E I r G (some (j,k))) (yielded ops a.tmps)=false:=by
      show (yielded ops a.tmps j==some k)=false;rw [M];simp [W]
     rw [if_neg (by simp [this])];exact s _ _ (JO (h.2 (by cases b<;>cases k<;>simp_all)) ⟨e,J.kill d⟩ U)
   ·exact h.elim
end
def AW (P:Program) (N:Nat->Prop) (w0:Bs) (c:Code) (Q:Exit->St->Prop) (O:St):Prop:=
 ∀a w,Sim N w0 O a w->c.wp P (λe a w=>∃O',Q e O'/\Sim N w0 O' a w) a w
def Zax (K:St->Prop) (Q:Exit->St->Prop):Exit->St->Prop
 | .normal,O=>K O
 | e,O=>Q e O
def inB (id:Nat) (Q:Exit->St->Prop):Exit->St->Prop
 | .exit j,O=>if j=id then Q .normal O else Q (.exit j) O
 | e,O=>Q e O
theorem ZhS {α:Type}:∀{l:List (Nat×α)} {k:Nat} {v:α},l.lookup k=some v->(k,v)∈l
 | [],_,_,h=>by simp at h
 | (j,u)::l,k,v,h=>by
  rw [lookup_cons] at h
  by_cases m:k=j
  ·subst m;rw [if_pos rfl] at h;obtain rfl:=ZEI h;simp
  ·rw [if_neg m] at h;exact Hz _ (ZhS h)
section
variable {e:Env} {O O':St} {w:World} {N:Nat->Prop} {w0:Bs} {a:Act} {P:Program}
variable {Q:Exit->St->Prop} {x y c:Code}
theorem Zv (h:Q .normal O):AW P N w0 .skip Q O:=λ_ _ j=>wp_skip ⟨O,h,j⟩
theorem Zm1 {id:Nat} (h:Q (.exit id) O):AW P N w0 (.exit id) Q O:=λ_ _ j=>wp_exit ⟨O,h,j⟩
theorem Z3 (h:Q .ret O):AW P N w0 .ret Q O:=λ_ _ j=>wp_ret ⟨O,h,j⟩
theorem Zr (h:∀K:St->Prop,(∀O,AW P N w0 y Q O->K O)->AW P N w0 x (Zax K Q) O):AW P N w0 (.seq x y) Q O:=λa w l=>
 wp_seq (Code.wp_mono (λe a w ⟨O',j,k⟩=>by
  cases e<;>first | exact j a w k| exact ⟨O',j,k⟩) (h (λO=>AW P N w0 y Q O) (λ_ h=>h) a w l))
theorem Y5 {id:Nat} (h:AW P N w0 c (inB id Q) O):AW P N w0 (.block id c) Q O:=λa w m=>
 wp_block (Code.wp_mono (λe a w ⟨O',k,l⟩=>by
  cases e with
  | exit j=>
   simp only [Exit.inBlock];simp only [inB] at k
   split
   ·rename_i hj;rw [if_pos hj] at k;exact ⟨O',k,l⟩
   ·rename_i hj;rw [if_neg hj] at k;exact ⟨O',k,l⟩
  | _=>exact ⟨O',k,l⟩) (h a w m))
theorem Zqb {o:Operand} {b:Bool} (ho:opd O o=some (.one (.l (.bool b)))) (k:b=true->AW P N w0 x Q O) (hf:b=false->AW P N w0 y Q O):AW P N w0 (.cond o x y) Q O:=λa w ⟨e,j⟩=>
 wp_cond_split (ZfA j ho) (λh=>k h a w ⟨e,j⟩) (λh=>hf h a w ⟨e,j⟩)
theorem Zx {id:Nat} {l:List Oper} (h:Z9 P l.toArray l O (λO'=>Q .normal O')):AW P N w0 (.region id l.toArray false) Q O:=λa w m=>
 wp_region_lit (JO h m λO' _ _ j k=>⟨O',j,k⟩)
end
def inV:DV->V
 | .one x=>.one (.l x)
 | .agg j=>.agg (j.map .l)
def Zft:Nat->List DV->List (Nat×V)
 | _,[]=>[]
 | k,d::j=>(k,inV d)::Zft (k+1) j
def ZBD (P:Program) (O:St):ResultVar->Option V
 | .tmp t=>O.tm.lookup t
 | .cell t l=>match O.tm.lookup t,ti P l with
  | some (.one (.box k j)),some i=>match O.bx.lookup k with
   | some cs=>UB i cs j
   | none=>none
  | _,_=>none
def ZgE (P:Program) (O:St):List ResultVar->Option (List V)
 | []=>some []
 | r::j=>match ZBD P O r,ZgE P O j with
  | some v,some k=>some (v::k)
  | _,_=>none
def Zsz (O:St):V->Option (DV×Bool×List Nat×Prop)
 | .one c=>(ZsA O c).map λr=>(.one r.1,r.2)
 | .agg cs=>(Zk1 O cs).map λr=>(.agg r.1,r.2)
 | _=>none
def Zk0 (O:St):List V->Option (List DV×Bool×List Nat×Prop)
 | []=>some ([],true,[],True)
 | v::k=>match Zsz O v,Zk0 O k with
  | some (x,f,m,p),some (l,g,j,q)=>some (x::l,f&&g,m++j,p/\q)
  | _,_=>none
def ZDc (l:List DV):Option (List DV×Bool×List Nat×Prop)->Prop
 | some (k,f,j,p)=>p/\f=true/\j.Nodup/\k=l
 | none=>False
def ZDd (l:List DV):Option (List DV×Bool×Prop)->Prop
 | some (j,k,p)=>p/\k=true/\j=l
 | none=>False
def Zph (P:Program) (k:Array ResultVar) (fr:Bool) (j:List DV) (O:St):Prop:= if fr then ZDc j ((ZgE P O k.toList).bind (Zk0 O)) else ZDd j ((ZgE P O k.toList).bind (Vs O))
def ZAe (P:Program) (k:Array ResultVar) (fr:Bool) (j:List DV):Exit->St->Prop
 | .normal,O=>Zph P k fr j O
 | .ret,O=>Zph P k fr j O
 | _,_=>False
section
variable {e:Env} {O:St} {w:World} {N:Nat->Prop} {w0:Bs} {a:Act} {P:Program}
theorem Zv7 (h:ZJ N w0 e O a w) {x:V} {v:Value} (r:x.rel e O w v) {d:DV} {f:Bool} {τs:List Nat} {p:Prop} (l:Zsz O x=some (d,f,τs,p)) (hp:p) (hf:f=true):Zr3 N w d v (τs.flatMap e.φ)/\∀τ∈τs,∃A,O.ar.lookup τ=some (some A)/\A.fr=true:=by
 cases x with
 | one c=>
  simp only [Zsz] at l;obtain ⟨⟨y,G,E,I⟩,z,m⟩:=Hf.1 l;simp only [ZEL] at m;obtain ⟨rfl,rfl,rfl,rfl⟩:=m;obtain ⟨_,s,t⟩:=Zrr h r z hp;exact ⟨s hf,λτ k=>by obtain ⟨A,C,j,_⟩:=t τ k;exact ⟨A,C,j hf⟩⟩
 | agg cs=>
  simp only [Zsz] at l;obtain ⟨⟨y,G,E,I⟩,z,m⟩:=Hf.1 l;simp only [ZEL] at m;obtain ⟨rfl,rfl,rfl,rfl⟩:=m;obtain ⟨J,rfl,r⟩:=r;obtain ⟨_,s,t,_⟩:=Zjm h r z hp;exact ⟨⟨J,rfl,s hf⟩,λτ k=>by obtain ⟨A,C,j,_⟩:=t τ k;exact ⟨A,C,j hf⟩⟩
 | tup M=>simp [Zsz] at l
 | dead=>simp [Zsz] at l
def J3 (e:Env) (O:St) (w:World):List V->List Value->Prop
 | [],k=>k=[]
 | v::l,k=>∃u j,k=u::j/\v.rel e O w u/\J3 e O w l j
theorem Zkx (h:ZJ N w0 e O a w):∀{vs:List V} {us:List Value},J3 e O w vs us->∀{m:List DV} {f:Bool} {τs:List Nat} {p:Prop},Zk0 O vs=some (m,f,τs,p)->p->f=true->ZeG N w m us (τs.flatMap e.φ)/\∀τ∈τs,∃A,O.ar.lookup τ=some (some A)/\A.fr=true
 | [],us,l,m,f,τs,p,k,hp,hf=>by
  simp only [J3] at l;subst l;simp only [Zk0,ZEK,ZEL] at k;obtain ⟨rfl,rfl,rfl,rfl⟩:=k;simp [ZeG]
 | v::vs,us,l,m,f,τs,p,k,hp,hf=>by
  simp only [J3] at l;obtain ⟨u,r,rfl,E,G⟩:=l;simp only [Zk0] at k
  split at k
  ·rename_i x f1 R T M f2 S U s t;simp only [ZEK,ZEL] at k;obtain ⟨rfl,rfl,rfl,rfl⟩:=k;simp only [ZEM] at hf;obtain ⟨I,J⟩:=Zv7 h E s hp.1 hf.1;obtain ⟨z,C⟩:=Zkx h G t hp.2 hf.2;refine ⟨?_,λτ j=>by rcases He.1 j with j| j;exact J τ j;exact C τ j⟩;simp only [ZeG,List.flatMap_append];exact ⟨u,r,_,_,rfl,rfl,I,z⟩
  ·cases k
theorem Zfy (h:ZJ N w0 e O a w):∀{vs:List V} {us:List Value},J3 e O w vs us->∀{l:List DV} {f:Bool} {p:Prop},Vs O vs=some (l,f,p)->p->∃F,Yu w l us F/\(f=true->∀b∈F,¬Mut e O b)
 | [],us,k,l,f,p,hd,hp=>by
  simp only [J3] at k;subst k;simp only [Vs,ZEK,ZEL] at hd;obtain ⟨rfl,rfl,rfl⟩:=hd;exact ⟨[],by simp [Yu],Ha⟩
 | v::vs,us,k,l,f,p,hd,hp=>by
  simp only [J3] at k;obtain ⟨u,J,rfl,C,E⟩:=k;simp only [Vs] at hd
  split at hd
  ·rename_i x f1 R M f2 S s t;simp only [ZEK,ZEL] at hd;obtain ⟨rfl,rfl,rfl⟩:=hd;obtain ⟨m,G,I⟩:=Zq6 h C s hp.1;obtain ⟨r,z,A⟩:=Zfy h E t hp.2;refine ⟨m++r,by simp only [Yu];exact ⟨_,_,m,r,rfl,rfl,G,z⟩,λhf b j=> ?_⟩;simp only [ZEM] at hf;rcases He.1 j with j| j
   ·exact I hf.1 b j
   ·exact A hf.2 b j
  ·cases hd
def Zzv (tmps:Array Value):ResultVar->Sem Value
 | .tmp t=>pure (tmps.getD t undef)
 | .cell p t=>do loadVar t (<-asAddr (tmps.getD p undef))
theorem ZnP (h:ZJ N w0 e O a w):∀{z:List ResultVar} {vs:List V},ZgE P O z=some vs->∃us,(z.mapM (Zzv a.tmps)).run P w= .ok us w/\J3 e O w vs us
 | [],vs,l=>by
  simp only [ZgE,ZEK] at l;subst l;exact ⟨[],Ha,by simp [J3]⟩
 | r::z,vs,l=>by
  simp only [ZgE] at l
  split at l
  ·rename_i v T j C;obtain rfl:=ZEI l;obtain ⟨us,m,A⟩:=ZnP h C;rw [List.mapM_cons];cases r with
   | tmp t=>
    refine ⟨a.tmps.getD t undef::us, ?_,by simp only [J3];exact ⟨_,_,rfl,h.tm t v j,A⟩⟩;simp only [Zzv,Sem.run_bind,Sem.run_pure,Result.andThen_ok] at m ⊢;rw [m]
    rfl
   | cell t S=>
    simp only [ZBD] at j
    split at j
    ·rename_i k s i J G
     split at j
     ·rename_i cs p;obtain ⟨u,M,R⟩:=Zvv h p G j;obtain ⟨_,hp⟩:=h.tm t _ J;refine ⟨u::us, ?_,by simp only [J3];exact ⟨_,_,rfl,R,A⟩⟩;have E:asAddr (a.tmps.getD t undef)=pure ⟨e.β k,s,none⟩:=by rw [hp];rfl
      have I:(Zzv a.tmps (.cell t S)).run P w= .ok u w:=by simp only [Zzv,Sem.run_bind,E,Sem.run_pure,Result.andThen_ok,M]
      rw [Sem.run_bind,I,Result.andThen_ok,Sem.run_bind,m]
      rfl
     ·cases j
    ·cases j
  ·cases l
theorem U1 {fn:Func} (h:ZJ N w0 e O a w) {vs:List V} (m:ZgE P O fn.results.toList=some vs):∃us,(results fn a.tmps).run P w= .ok (Zpc us) w/\J3 e O w vs us:=by
 obtain ⟨us,j,k⟩:=ZnP h m;refine ⟨us, ?_,k⟩
 have l:results fn a.tmps=(do let vs <-fn.results.mapM (Zzv a.tmps);pure (if h:vs.size=1 then vs[0] else .tuple vs)):=by
  unfold results
  congr 1
 rw [l,Array.mapM_eq_mapM_toList,Sem.run_bind,Sem.run_map,j];simp
 congr 1
 cases us with
 | nil=>rfl
 | cons u us=>
  cases us with
  | nil=>rfl
  | cons p us=>rfl
theorem KK:∀{p:List DV} {vs:List Value} {F:List Nat} {k t:Nat} {x:V} {e:Env} {O:St},Yu w p vs F->(∀b∈F,¬Mut e O b)->(Zft k p).lookup t=some x->∃j v,t=k+j/\vs[j]? =some v/\x.rel e O w v
 | [],vs,F,k,t,x,e,O,_,_,hl=>by simp [Zft] at hl
 | d::p,vs,F,k,t,x,e,O,h,r,hl=>by
  simp only [Yu] at h;obtain ⟨v,I,z,J,rfl,rfl,m,E⟩:=h;simp only [Zft,lookup_cons] at hl
  by_cases s:t=k
  ·rw [if_pos s] at hl;obtain rfl:=ZEI hl;refine ⟨0,v,by simp [s],rfl, ?_⟩;cases d with
   | one x=>exact ⟨z,m,λb l=>r b (by simp [l])⟩
   | agg R=>obtain ⟨G,rfl,m⟩:=m;exact ⟨G,rfl,WL m λb l=>r b (by simp [l])⟩
  ·rw [if_neg s] at hl;obtain ⟨j,u,M,A,C⟩:=KK E (λb l=>r b (by simp [l])) hl;exact ⟨j+1,u,WF,by simpa using A,C⟩
theorem Yu.len:∀{j:List DV} {vs:List Value} {F:List Nat},Yu w j vs F->vs.length=j.length
 | [],_,_,h=>by simp only [Yu] at h;simp [h.1]
 | d::j,_,_,h=>by
  simp only [Yu] at h;obtain ⟨v,l,m,p,rfl,rfl,r,k⟩:=h;simp [Yu.len k]
theorem Ctr.XZ {f:Nat} {fn:Func} {c:Code} {nt:Nat} {rv:Array ResultVar} (b4:Y9 P f=true) (hf:P.funcs[f]? =some fn) (m:fn.body=some c) (b3:fn.ntmps=nt) (b6:fn.results=rv) {J:List DV} {fr:Bool} {U:List DV} (b9:J.length<=nt)
  (h:∀N w0,Bok N w0->AW P N w0 c (ZAe P rv fr U) ⟨nt,Zft 0 J,[],[]⟩):Ctr P f J fr U:=by
 subst b3 b6;refine ⟨b4,λw W X b1 R=> ?_⟩;obtain ⟨G,hG⟩:=b1;refine calls_of_wp hf m ?_;have b8:=R.len
 let M:Env:=⟨λ_=>0,λ_=>undef,λ_=>[],λb=>b<w.heap.size/\b∉X⟩
 have S:ZJ (w.heap.size<= ·) ⟨w,M.bad,λ_=>0,(w.heap.size<= ·)⟩ M ⟨fn.ntmps,Zft 0 J,[],[]⟩ { tmps:=W.toArray++Array.replicate (fn.ntmps-W.toArray.size) undef,defers:=[]} w:=by
  refine ⟨by simp;omega,rfl,λt x ht=> ?_,Ha,Ha,λC c0 hl=> ?_,⟨⟨G,hG,λb g=>by have:=hG.1 b g;omega⟩,rfl,rfl,rfl,ZEN _,λ_ _ _=>rfl,λb m=>m⟩,⟨λ_ h=>h,λb m=>⟨m.1,λC hl=> ?_⟩⟩,λC _ hd=> ?_,λk cs hk=>by simp at hk,λ_ h=>h,λC b hl _=>by cases C<;>obtain ⟨_,l⟩:=hl<;>simp at l⟩
  ·obtain ⟨j,v,rfl,E,g3⟩:=KK (e:=M) (O:=⟨fn.ntmps,Zft 0 J,[],[]⟩) R (λb m hm=>by
    rcases hm with h0| ⟨_,_,l,_⟩| ⟨_,_,l,_⟩
    ·exact h0.2 m
    ·simp at l
    ·simp at l) ht
   have hj:=(Hh.1 E).1
   have:(W.toArray++Array.replicate (fn.ntmps-W.toArray.size) undef).getD (0+j) undef=v:=by
    rw [HQ,HH,GE (by simpa using hj)];simp [E]
   rw [this];exact g3
  ·cases C with
   | b k=>obtain ⟨_,l⟩:=hl;simp at l
   | a τ=>obtain ⟨_,l⟩:=hl;simp at l
  ·cases C with
   | b k=>obtain ⟨_,l⟩:=hl;simp at l
   | a τ=>obtain ⟨_,l⟩:=hl;simp at l
  ·cases C with
   | b k=>exact hd.elim
   | a τ=>intro b m;cases m
 refine Code.wp_mono (λex a' T hq=> ?_) (h (w.heap.size<= ·) ⟨w,M.bad,λ_=>0,(w.heap.size<= ·)⟩ ⟨λb m hn=>by have:=m.1;have:w.heap.size<=b:=hn;omega,λ_ h=>h⟩ _ _ ⟨M,S⟩);obtain ⟨O',l,e',z⟩:=hq
 have fin:Zph P fn.results fr U O'->a'.defers=[]/\∃v,(results fn a'.tmps).run P T= .ok v T/\∃I,Ending.returned v= .returned (Zpc I)/\ZdC fr (w.heap.size<= ·) T X U I/\Below w.heap.size w T:=by
  intro ho;have s:Below w.heap.size w T:=⟨z.fr.os,z.fr.tape,z.fr.output,z.fr.size,λb m=>z.fr.block b m WF⟩;unfold Zph at ho;cases fr
  ·simp only [ZEO,if_false] at ho;cases hq:(ZgE P O' fn.results.toList).bind (Vs O') with
   | none=>rw [hq] at ho;exact ho.elim
   | some r=>
    obtain ⟨Y,pu,p⟩:=r;rw [hq] at ho;obtain ⟨hp,b5,rfl⟩:=ho;obtain ⟨b7,A,hd⟩:=Hq.1 hq;obtain ⟨I,k1,k2⟩:=U1 z A;obtain ⟨F,Z,E⟩:=Zfy z k2 hd hp;refine ⟨z.df,_,k1,I,rfl, ?_,s⟩;simp only [ZdC,ZEO,if_false];refine ⟨F,Z,λb m=> ?_⟩
    by_cases h3:w.heap.size<=b
    ·exact .inr h3
    ·by_cases h4:b∈X
     ·exact .inl h4
     ·exact absurd (.inl (z.bad.1 b ⟨WF,h4⟩)) (E b5 b m)
  ·simp only [if_true] at ho;cases hq:(ZgE P O' fn.results.toList).bind (Zk0 O') with
   | none=>rw [hq] at ho;exact ho.elim
   | some r=>
    obtain ⟨Y,f',c1,p⟩:=r;rw [hq] at ho;obtain ⟨hp,b0,b2,rfl⟩:=ho;obtain ⟨b7,A,hd⟩:=Hq.1 hq;obtain ⟨I,k1,k2⟩:=U1 z A;obtain ⟨Z,E⟩:=Zkx z k2 hd hp b0;refine ⟨z.df,_,k1,I,rfl, ?_,s⟩;simp only [ZdC,if_true];exact ⟨_,Z,Ji z E b2⟩
 cases ex with
 | normal=>exact fin l
 | ret=>exact fin l
 | _=>exact l.elim
end
section
variable {O O':St} {P:Program}
theorem Le.opd (h:Le O O') {x:Operand} {v:V} (j:opd O x=some v):opd O' x=some v:=by
 cases x with
 | tmp t=>exact h.tm t v j
 | const c=>exact j
 | global g=>exact j
 | func f=>exact j
theorem Le.num (h:Le O O') {x:Operand} {r:IntKind×Int} (j:num O x=some r):num O' x=some r:=by
 unfold Am.num at j ⊢
 split at j
 ·rename_i k n l;rw [h.opd l];exact j
 ·cases j
theorem Le.UA (h:Le O O') {d:Int} {x:Option Operand} {r:Int} (j:UA O d x=some r):UA O' d x=some r:=by
 unfold Am.UA at j ⊢
 split at j
 ·exact j
 ·obtain ⟨y,k,l⟩:=Hf.1 j;simp only [h.num k,Gk,l]
theorem Le.parts (h:Le O O'):∀{j:List (Nat×Operand)} {vs:List (Nat×V)},parts O j=some vs->parts O' j=some vs
 | [],_,hp=>hp
 | (i,o)::j,vs,hp=>by
  simp only [Am.parts] at hp ⊢
  split at hp
  ·rename_i v m k l;rw [h.opd k,h.parts l];exact hp
  ·cases hp
theorem Le.Xs (h:Le O O'):∀{j:List Operand} {vs:List V},Xs O j=some vs->Xs O' j=some vs
 | [],_,hp=>hp
 | o::j,vs,hp=>by
  simp only [Am.Xs] at hp ⊢
  split at hp
  ·rename_i v m k l;rw [h.opd k,h.Xs l];exact hp
  ·cases hp
theorem Le.QG (h:Le O O') {op:Op} {r:V×Prop} (j:QG P O op=some r):QG P O' op=some r:=by
 have p:∀x,(Am.opd O x).isSome=true->Am.opd O' x=Am.opd O x:=λx l=>by obtain ⟨v,j⟩:=Hk.1 l;rw [h.opd j,j]
 have s:∀k,(O.bx.lookup k).isSome=true->O'.bx.lookup k=O.bx.lookup k:=λk l=>by obtain ⟨v,j⟩:=Hk.1 l;rw [h.bx k v j,j]
 have t:∀k,(O.ar.lookup k).isSome=true->O'.ar.lookup k=O.ar.lookup k:=λk l=>by obtain ⟨v,j⟩:=Hk.1 l;rw [h.ar k v j,j]
 have z:∀x,(Am.num O x).isSome=true->Am.num O' x=Am.num O x:=λx l=>by obtain ⟨v,j⟩:=Hk.1 l;rw [h.num j,j]
 have A:∀d x,(Am.UA O d x).isSome=true->Am.UA O' d x=Am.UA O d x:=λd x l=>by obtain ⟨v,j⟩:=Hk.1 l;rw [h.UA j,j]
 have C:∀x,(Am.parts O x).isSome=true->Am.parts O' x=Am.parts O x:=λx l=>by obtain ⟨v,j⟩:=Hk.1 l;rw [h.parts j,j]
 have E:∀x,(Am.Xs O x).isSome=true->Am.Xs O' x=Am.Xs O x:=λx l=>by obtain ⟨v,j⟩:=Hk.1 l;rw [h.Xs j,j]
 clear h;unfold Am.QG at j
 repeat' (split at j)
 all_goals first
  | (cases j;done)
  | (simp only [Am.QG, *,Option.isSome_some,Gk];done)
  | (obtain ⟨y,G,m⟩:=Hf.1 j;simp only [Am.QG, *,Option.isSome_some,Gk];done)
  | (rw [<-j];clear j;simp [Am.QG, *];done)
  | (rw [<-j];clear j;simp_all [Am.QG];done)
  | skip
theorem Le.ZsA (h:Le O O') {c:CV} {r:L×Bool×List Nat×Prop} (j:ZsA O c=some r):ZsA O' c=some r:=by
 unfold Am.ZsA at j ⊢
 split at j
 ·exact j
 ·exact j
 ·split at j
  ·rename_i A k;rw [h.ar _ _ k];exact j
  ·cases j
 ·cases j
theorem Le.Zk1 (h:Le O O'):∀{cs:List CV} {r:List L×Bool×List Nat×Prop},Zk1 O cs=some r->Zk1 O' cs=some r
 | [],_,j=>j
 | c::cs,r,j=>by
  simp only [Am.Zk1] at j ⊢
  split at j
  ·rename_i k l;rw [h.ZsA k,h.Zk1 l];exact j
  ·cases j
theorem Le.Zm7 (h:Le O O'):∀{cs:List (List CV)} {r:List (List L)×Bool×List Nat×Prop},Zm7 O cs=some r->Zm7 O' cs=some r
 | [],_,j=>j
 | c::cs,r,j=>by
  simp only [Am.Zm7] at j ⊢
  split at j
  ·rename_i k l;rw [h.Zk1 k,h.Zm7 l];exact j
  ·cases j
theorem Le.ZpO (h:Le O O') {c:CV} {r:L×Bool×Prop} (j:ZpO O c=some r):ZpO O' c=some r:=by
 unfold Am.ZpO at j ⊢
 split at j
 ·exact j
 ·exact j
 ·exact j
 ·split at j
  ·rename_i A k;rw [h.ar _ _ k];exact j
  ·cases j
 ·cases j
theorem Le.Zm6 (h:Le O O'):∀{cs:List CV} {r:List L×Bool×Prop},Zm6 O cs=some r->Zm6 O' cs=some r
 | [],_,j=>j
 | c::cs,r,j=>by
  simp only [Am.Zm6] at j ⊢
  split at j
  ·rename_i k l;rw [h.ZpO k,h.Zm6 l];exact j
  ·cases j
theorem Le.Zm5 (h:Le O O') {c:V} {r:DV×Bool×Prop} (j:Zm5 O c=some r):Zm5 O' c=some r:=by
 cases c with
 | one c=>
  simp only [Am.Zm5] at j ⊢;obtain ⟨y,k,l⟩:=Hf.1 j;rw [h.ZpO k,Gk,l]
 | agg cs=>
  simp only [Am.Zm5] at j ⊢;obtain ⟨y,k,l⟩:=Hf.1 j;rw [h.Zm6 k,Gk,l]
 | tup m=>simp [Am.Zm5] at j
 | dead=>simp [Am.Zm5] at j
theorem Le.Vs (h:Le O O'):∀{cs:List V} {r:List DV×Bool×Prop},Vs O cs=some r->Vs O' cs=some r
 | [],_,j=>j
 | c::cs,r,j=>by
  simp only [Am.Vs] at j ⊢
  split at j
  ·rename_i k l;rw [h.Zm5 k,h.Vs l];exact j
  ·cases j
theorem Le.Zqo (h:Le O O') {x:V} {r:List (List L)×Bool×List Nat×Prop} (j:Zqo O x=some r):Zqo O' x=some r:=by
 unfold Am.Zqo at j ⊢
 split at j
 ·exact j
 ·exact j
 ·split at j
  ·rename_i A k;rw [h.ar _ _ k];exact j
  ·cases j
 ·split at j
  ·rename_i A k;rw [h.ar _ _ k];exact j
  ·cases j
 ·cases j
theorem Le.Zqp (h:Le O O') {l:TI} {t m:Nat} {x:V} {r:List (List L)×Bool×List Nat×Prop} (j:Zqp P O l t m x=some r):Zqp P O' l t m x=some r:=by
 unfold Am.Zqp at j ⊢
 split at j
 ·rename_i k;rw [if_pos k];exact h.Zqo j
 ·rename_i k;rw [if_neg k];exact j
theorem Q7 {α:Type} {o:Option α} {v:α} (h:o=some v):o.isSome=true:=by rw [h];rfl
theorem Le.Wu (h:Le O O') {d:Option Nat} {op:Op} {g:Eff} (j:Wu P O d op=some g) (hf:ZoI O O' g):Wu P O' d op=some g:=by
 have p:∀x,(Am.opd O x).isSome=true->Am.opd O' x=Am.opd O x:=λx l=>by obtain ⟨v,j⟩:=Hk.1 l;rw [h.opd j,j]
 have T:∀k,(O.bx.lookup k).isSome=true->O'.bx.lookup k=O.bx.lookup k:=λk l=>by obtain ⟨v,j⟩:=Hk.1 l;rw [h.bx k v j,j]
 have E:∀k,(O.ar.lookup k).isSome=true->O'.ar.lookup k=O.ar.lookup k:=λk l=>by obtain ⟨v,j⟩:=Hk.1 l;rw [h.ar k v j,j]
 have H4:∀x,(Am.num O x).isSome=true->Am.num O' x=Am.num O x:=λx l=>by obtain ⟨v,j⟩:=Hk.1 l;rw [h.num j,j]
 have H6:∀x,(Am.parts O x).isSome=true->Am.parts O' x=Am.parts O x:=λx l=>by obtain ⟨v,j⟩:=Hk.1 l;rw [h.parts j,j]
 have H7:∀x,(Am.Zm7 O x).isSome=true->Am.Zm7 O' x=Am.Zm7 O x:=λx l=>by obtain ⟨v,j⟩:=Hk.1 l;rw [h.Zm7 j,j]
 have H8:∀x,(Am.Zk1 O x).isSome=true->Am.Zk1 O' x=Am.Zk1 O x:=λx l=>by obtain ⟨v,j⟩:=Hk.1 l;rw [h.Zk1 j,j]
 have G:∀x,(Am.Zqo O x).isSome=true->Am.Zqo O' x=Am.Zqo O x:=λx l=>by obtain ⟨v,j⟩:=Hk.1 l;rw [h.Zqo j,j]
 have U:∀(r:TI) (t z:Nat) x,(Am.Zqp P O r t z x).isSome=true->Am.Zqp P O' r t z x=Am.Zqp P O r t z x:=λr t z x l=>by obtain ⟨v,j⟩:=Hk.1 l;rw [h.Zqp j,j]
 have C:=h.nt;obtain ⟨f1,f2⟩:=hf;clear h;unfold Am.Wu at j
 repeat' (split at j)
 all_goals first
  | (cases j;done)
  | skip
 all_goals obtain rfl:=ZEI j
 all_goals clear j
 all_goals (try simp only [Hc,HS,forall_eq_or_imp,false_imp_iff,implies_true,and_true,false_or,or_false,forall_eq] at f1)
 all_goals (try simp only [Hc,HS,forall_eq_or_imp,false_imp_iff,implies_true,and_true,false_or,or_false,forall_eq] at f2)
 all_goals (try simp only [Option.isNone_iff_eq_none] at *)
 all_goals first
  | (simp [Am.Wu, *];done)
  | (rename_i W I _ c X l1 _ k Y J _ cs M l2;unfold Am.Wu;simp only [W,p _ (Q7 I),I,X,if_pos l1,p _ (Q7 J),J,T _ (Q7 M),M,if_pos l2];done)
  | (rename_i a1 a2 l1 _ _ _ _ _ _ _ R a3 a4 _ _ r S f s q a5 a6 l2 _ a7 l3;unfold Am.Wu;simp only [a1,a2,C,if_pos l1,a3,p _ (Q7 a4),a4,p _ (Q7 a7),a7,a5,G _ (Q7 a6),a6,if_pos l2,f2.1 l3,Option.isNone_none,if_true];done)
  | (rename_i a1 a2 l1 _ _ _ _ _ _ _ R a3 a4 _ _ r S f s q a5 a6 l2 _ Z n a7 _ A a8 l3;unfold Am.Wu;simp only [a1,a2,C,if_pos l1,a3,p _ (Q7 a4),a4,p _ (Q7 a7),a7,a5,G _ (Q7 a6),a6,if_pos l2,E _ (Q7 a8),a8,if_pos l3];done)
  | (rename_i a1 a2 l1 _ _ _ _ _ _ _ R a3 a4 _ _ r S f s q a5 a6 l2 _ Z n lo m W2 a7 _ A a8 l3;unfold Am.Wu;simp only [a1,a2,C,if_pos l1,a3,p _ (Q7 a4),a4,p _ (Q7 a7),a7,a5,U _ _ _ _ (Q7 a6),a6,if_pos l2,E _ (Q7 a8),a8,l3,f2.1 l3.2.2.2];simp;done)
  | (simp_all [Am.Wu];done)
  | skip
theorem Le.Zaa (h:Le O O') {o:Oper} {g:Eff} (j:Zaa P O o=some g) (hf:ZoI O O' g):Zaa P O' o=some g:=by
 unfold Am.Zaa at j ⊢
 split at j
 ·rename_i x s p;rw [h.QG p];simp only
  split at j
  ·simp only [h.nt];exact j
  ·exact j
 ·rename_i z;have m:=h.Wu j hf
  have k:Am.QG P O' o.op=none:=by
   unfold Am.Wu at j
   split at j
   all_goals first
    | (rename_i ho;rw [ho];rfl)
    | (rename_i ho;split at j<;>first | (rename_i r l t;rw [ho];simp only [Am.QG,h.opd l,ZtH];split<;>simp_all;done)| (cases j;done))
    | (cases j;done)
  rw [k];exact m
theorem Le.QO (h:Le O O') {d:Option Nat} {fr r:Bool} {s:List DV} {g:Eff} (j:QO O d fr r s=some g) (hf:ZoI O O' g):QO O' d fr r s=some g:=by
 unfold Am.QO at j ⊢
 split at j
 ·exact j
 ·rename_i d;simp only [h.nt]
  split at j
  ·rename_i m;rw [if_pos m]
   split at j
   ·rename_i l;rw [if_pos l]
    split at j
    ·rename_i k;obtain rfl:=ZEI j;rw [if_pos];rw [Hj] at k ⊢;intro p hp;have t:=k p hp;have:=hf.ar (p.1,some p.2) (Hd.2 ⟨p,hp,rfl⟩) (by simpa using t)
     simpa using this
    ·cases j
   ·rename_i l;rw [if_neg l];exact j
  ·cases j
theorem Le.frC (h:Le O O') {c:CV} {r:L×List Nat×Prop} (j:frC O c=some r):frC O' c=some r:=by
 unfold Am.frC at j ⊢
 split at j
 ·exact j
 ·exact j
 ·exact j
 ·split at j
  ·rename_i A k;rw [h.ar _ _ k];exact j
  ·cases j
 ·cases j
theorem Le.frL (h:Le O O'):∀{cs:List CV} {r:List L×List Nat×Prop},frL O cs=some r->frL O' cs=some r
 | [],_,j=>j
 | c::cs,r,j=>by
  simp only [Am.frL] at j ⊢
  split at j
  ·rename_i k l;rw [h.frC k,h.frL l];exact j
  ·cases j
theorem Le.frV (h:Le O O') {c:V} {r:DV×List Nat×Prop} (j:frV O c=some r):frV O' c=some r:=by
 cases c with
 | one c=>
  simp only [Am.frV] at j ⊢;obtain ⟨y,k,l⟩:=Hf.1 j;rw [h.frC k,Gk,l]
 | agg cs=>
  simp only [Am.frV] at j ⊢;obtain ⟨y,k,l⟩:=Hf.1 j;rw [h.frL k,Gk,l]
 | tup m=>simp [Am.frV] at j
 | dead=>simp [Am.frV] at j
theorem Le.Zhs (h:Le O O'):∀{cs:List V} {r:List DV×List Nat×Prop},Zhs O cs=some r->Zhs O' cs=some r
 | [],_,j=>j
 | c::cs,r,j=>by
  simp only [Am.Zhs] at j ⊢
  split at j
  ·rename_i k l;rw [h.frV k,h.Zhs l];exact j
  ·cases j
theorem Le.Zm2 (h:Le O O') {j:Nat} {vs:List V} {r:List DV×Nat×List L×List DV×List Nat×Prop} (k:Zm2 O j vs=some r):Zm2 O' j vs=some r:=by
 unfold Am.Zm2 at k ⊢
 split at k
 ·split at k
  ·rename_i l m p
   split at k
   ·rename_i s;simp only [h.Zhs l,h.bx _ _ m,h.Zhs p,h.frL s];exact k
   ·cases k
  ·cases k
 ·cases k
theorem Le.UC (h:Le O O') {d:Option Nat} {k:Nat} {τs:List Nat} {fr:Bool} {z:List DV} {t:List L} {g:Eff} (j:UC O d k τs fr z t=some g) (hf:∀p∈g.ar,O.ar.lookup p.1=none->O'.ar.lookup p.1=none):UC O' d k τs fr z t=some g:=by
 unfold Am.UC at j ⊢
 split at j
 ·exact j
 ·simp only [h.nt]
  split at j
  ·rename_i s;rw [if_pos s]
   split at j
   ·rename_i m;rw [if_pos m]
    split at j
    ·rename_i l;obtain rfl:=ZEI j;rw [if_pos];rw [Hj] at l ⊢;intro p hp;have r:=l p hp;simp only [ZEM,Option.isNone_iff_eq_none] at r ⊢;exact ⟨hf (p.1,some p.2) (HW _ (Hd.2 ⟨p,hp,rfl⟩)) r.1,r.2⟩
    ·cases j
   ·rename_i m;rw [if_neg m];exact j
  ·cases j
theorem Le.ZaK (h:Le O O') {d:Option Nat} {f:Nat} {vs:List V} {g:Eff} (M:Zhq P O d f vs g) (hf:ZoI O O' g):Zhq P O' d f vs g:=by
 cases M with
 | ptr j d1 k I d2 l p fr C z g m r s t=>exact .ptr j d1 k I d2 l p fr C z g (h.Zm2 m) r s (h.UC t λp hp G=>hf.ar p hp G)
 | ptrS j d1 k I d2 l p fr C z g cells m r s t A=>exact .ptrS j d1 k I d2 l p fr C z g cells (h.Zm2 m) r s (h.UC t λp hp G=>hf.ar p hp G) (h.bx _ _ A)
 | box E l p cs d m r s t A J=>exact .box E l p cs d (h.Zhs m) r s t (h.nt▸A) (hf.bx (d,cs.map .l) Ha J)
 | froz E l p C d m r s t A=>exact .froz E l p C d (h.Zhs m) r s t (h.nt▸A)
 | hand g m=>exact .hand g (m.le ⟨h.nt,h.bx,h.ar,hf.bx,hf.ar⟩)
theorem Le.ev (h:Le O O') {o:Oper} {g:Eff} (G:Ev P O o g) (hf:ZoI O O' g):Ev P O' o g:=by
 cases G with
 | step g j k=>exact .step g (h.Zaa j hf) k
 | call f r m t I p fr s J g j k l z A C E=>exact .call f r m t I p fr s J g j (h.Xs k) (h.Vs l) z A C (h.QO E hf)
 | ZaK f r m g j k l=>exact .ZaK f r m g j (h.Xs k) (h.ZaK l hf)
 | hand g j=>exact .hand g (j.le h hf)
end
def Zd9 (O0:St):List (Nat×Eff)->St
 | []=>O0
 | g::L=>(Zd9 O0 L).app g.2
def ZR {α:Type} (l:List (Nat×α)):List Nat:=l.map (·.1)
def view (O0:St) (es:List (Nat×Eff)) (A:List Nat):St:=⟨(Zd9 O0 (es.filter λp=>A.contains p.1)).nt,(Zd9 O0 (es.filter λp=>A.contains p.1)).tm,(Zd9 O0 (es.filter λp=>A.contains p.1)).bx.filter (λp=>!A.contains (1000000+p.1)),(Zd9 O0 (es.filter λp=>A.contains p.1)).ar.filter (λp=>!A.contains (10000000+p.1))⟩
def Zl4 (g:Eff) (O:St):Bool:=g.tm.any (λp=>(O.tm.lookup p.1).isSome)||g.bx.any (λp=>(O.bx.lookup p.1).isSome)||g.ar.any (λp=>(O.ar.lookup p.1).isSome)
def apart (g h:Eff):Bool:=g.tm.all (λp=>!(ZR h.tm).contains p.1)&&g.bx.all (λp=>!(ZR h.bx).contains p.1)&&g.ar.all (λp=>!(ZR h.ar).contains p.1)
def dOk (O0:St) (A:List (List Nat)) (es:List (Nat×Eff)):Bool:=
 es.all λp=>(p.2.bx.all λr=>!(A.getD p.1 []).contains (1000000+r.1))&&(p.2.ar.all λr=>!(A.getD p.1 []).contains (10000000+r.1))&&es.all λq=>p.1==q.1||(A.getD p.1 []).contains q.1||(A.getD q.1 []).contains p.1||(apart q.2 p.2&&!Zl4 q.2 (view O0 es (A.getD p.1 [])))
def ZcI (l:List Oper) (A:List (List Nat)):Bool:=
 l.length==A.length&&decide (l.length<=1000000)&&(l.zip A).zipIdx.all λ((o,d),i)=>
  (o.after.toList.all λe=>!Region.binds .any e||(d.contains e.on&&decide (e.on<i)))&&
  d.all λk=>decide (1000000<=k)||o.after.toList.any λe=>Region.binds .any e&&(e.on==k||(A.getD e.on []).contains k)
inductive EvG (P:Program) (ops:Array Oper) (O:St) (o:Oper):Eff->Prop where
 | plain (g:Eff) (hg:o.guard=none) (h:Ev P O o g):EvG P ops O o g
 | yes (g:Eff) (j:Nat) (want:Bool) (hg:o.guard=some (j,want)) (hy:yld O ops j want=some want) (h:Ev P O o g):EvG P ops O o g
 | no (j:Nat) (want:Bool) (hg:o.guard=some (j,want)) (hy:yld O ops j want=some (!want)):EvG P ops O o ⟨True,match o.dst with | some d=>[(d,.dead)]| none=>[],[],[]⟩
section
variable (P:Program) (ops:Array Oper) (O0:St) (K:St->Prop) (B:List (List Nat))
def Zp2:List (List Nat)->List Oper->Nat->List (Nat×Eff)->Prop
 | A::j,o::rest,i,es=>∃g,EvG P ops (view O0 es A) o g/\Zp2 j rest (i+1) ((i,g)::es)
 | _,[],_,es=>dOk O0 B es=true/\K (Zd9 O0 es)
 | _,_,_,_=>False
def ZvV (j:List (List Nat)) (rest:List Oper) (i:Nat) (es:List (Nat×Eff)):Option Eff->Prop
 | some g=>g.side/\Zp2 P ops O0 K B j rest (i+1) ((i,g)::es)
 | none=>False
def ZAo (j:List (List Nat)) (o:Oper) (rest:List Oper) (i:Nat) (es:List (Nat×Eff)) (O:St):Option Eff->Prop
 | some g=>g.side/\Zp2 P ops O0 K B j rest (i+1) ((i,g)::es)
 | none=>HBy P O o λg=>Zp2 P ops O0 K B j rest (i+1) ((i,g)::es)
def ZAr (j:List (List Nat)) (o:Oper) (rest:List Oper) (i:Nat) (es:List (Nat×Eff)) (O:St) (f:Nat) (vs:Option (List V)):Option (List DV×Bool×Prop)->Prop
 | some (m,r,p)=>p/\((∃fr l k,Ctr P f m fr k/\(fr=false->r=true)/\ZvV P ops O0 K B j rest i es (QO O o.dst fr l k))\/XBy P O o.dst f vs λg=>Zp2 P ops O0 K B j rest (i+1) ((i,g)::es))
 | none=>XBy P O o.dst f vs λg=>Zp2 P ops O0 K B j rest (i+1) ((i,g)::es)
def ZyQ (j:List (List Nat)) (o:Oper) (rest:List Oper) (i:Nat) (es:List (Nat×Eff)) (O:St):Option (Nat×List Operand)->Prop
 | some (f,k)=>ZAr P ops O0 K B j o rest i es O f (Xs O k) ((Xs O k).bind (Vs O))
 | none=>ZAo P ops O0 K B j o rest i es O (Zaa P O o)
def Zug (k:List (List Nat)) (o:Oper) (rest:List Oper) (i:Nat) (es:List (Nat×Eff)) (O:St) (j:Bool):Option Bool->Prop
 | some b=>if b=j then ZyQ P ops O0 K B k o rest i es O (XJ o.op) else ZvV P ops O0 K B k rest i es (some ⟨True,match o.dst with | some d=>[(d,.dead)]| none=>[],[],[]⟩)
 | none=>False
end
section
variable {P:Program} {ops:Array Oper} {O0:St} {K:St->Prop} {B:List (List Nat)}
theorem Zq8 {z:List (List Nat)} {o:Oper} {rest:List Oper} {i:Nat} {es:List (Nat×Eff)} {O:St} (h:ZyQ P ops O0 K B z o rest i es O (XJ o.op)):∃g,Ev P O o g/\Zp2 P ops O0 K B z rest (i+1) ((i,g)::es):=by
 unfold ZyQ at h
 split at h
 ·rename_i f t r;unfold ZAr at h
  split at h
  ·rename_i C J p hd;obtain ⟨hp,⟨fr,A,M,E,G,m⟩| ⟨l,g,j,s,k⟩⟩:=h
   ·unfold ZvV at m
    split at m
    ·rename_i g k;obtain ⟨l,j,hd⟩:=Hq.1 hd;exact ⟨g,.call f t l C J p fr A M g r j hd hp E G k,m.2⟩
    ·exact m.elim
   ·exact ⟨g,.ZaK f t l g r j s,k⟩
  ·obtain ⟨l,g,j,s,k⟩:=h;exact ⟨g,.ZaK f t l g r j s,k⟩
 ·unfold ZAo at h
  split at h
  ·rename_i g k;exact ⟨g,.step g k h.1,h.2⟩
  ·obtain ⟨g,ho,I⟩:=h;exact ⟨g,.hand g ho,I⟩
theorem Zsg (A:List Nat) (j:List (List Nat)) (rest:List Oper) (i:Nat) (es:List (Nat×Eff)) (d:Option Nat) (op:Op) (ty:Nat) (pos:String) (k:Array Edge)
  (h:ZyQ P ops O0 K B j ⟨d,op,ty,pos,k,none⟩ rest i es (view O0 es A) (XJ op)):Zp2 P ops O0 K B (A::j) (⟨d,op,ty,pos,k,none⟩::rest) i es:=by
 obtain ⟨g,l,m⟩:=Zq8 h;exact ⟨g,.plain g rfl l,m⟩
theorem Zsh (A:List Nat) (l:List (List Nat)) (rest:List Oper) (i:Nat) (es:List (Nat×Eff)) (d:Option Nat) (op:Op) (ty:Nat) (pos:String) (m:Array Edge) (j:Nat) (k:Bool)
  (h:Zug P ops O0 K B l ⟨d,op,ty,pos,m,some (j,k)⟩ rest i es (view O0 es A) k (yld (view O0 es A) ops j k)):Zp2 P ops O0 K B (A::l) (⟨d,op,ty,pos,m,some (j,k)⟩::rest) i es:=by
 unfold Zug at h
 split at h
 ·rename_i b r
  split at h
  ·rename_i p;subst p;obtain ⟨g,s,t⟩:=Zq8 h;exact ⟨g,.yes g j b rfl r s,t⟩
  ·rename_i p;obtain ⟨_,h⟩:=h;refine ⟨_,.no j k rfl ?_,h⟩;rw [r];cases b<;>cases k<;>simp_all
 ·exact h.elim
theorem Zre (j:List (List Nat)) (i:Nat) (es:List (Nat×Eff)) (h:dOk O0 B es=true) (k:K (Zd9 O0 es)):Zp2 P ops O0 K B j [] i es:=by
 cases j<;>exact ⟨h,k⟩
theorem Zrf:∀{m:List (List Nat)} {l:List Oper} {i:Nat} {es:List (Nat×Eff)},Zp2 P ops O0 K B m l i es->m.length=l.length->
  ∃fs:List (Nat×Eff),fs.map (·.1)=(List.range' i l.length).reverse/\dOk O0 B (fs++es)=true/\K (Zd9 O0 (fs++es))/\
   ∀j o A,l[j]? =some o->m[j]? =some A->∃g,(i+j,g)∈fs/\EvG P ops (view O0 ((fs.filter λp=>decide (p.1<i+j))++es) A) o g
 | _,[],i,es,h,hl=>by
  have t:dOk O0 B es=true/\K (Zd9 O0 es):=by
   unfold Zp2 at h
   split at h
   ·rename_i s;cases s
   ·exact h
   ·exact h.elim
  exact ⟨[],Ha,by simpa using t.1,by simpa using t.2,Ha⟩
 | [],o::l,i,es,h,hl=>by simp at hl
 | A::m,o::l,i,es,h,hl=>by
  obtain ⟨g,G,I⟩:=h;obtain ⟨fs,z,J,M,R⟩:=Zrf I (by simpa using hl)
  have k:∀p∈fs,i+1<=p.1:=by
   intro p hp;have:p.1∈fs.map (·.1):=Hd.2 ⟨p,hp,rfl⟩;rw [z,List.mem_reverse,List.mem_range'_1] at this;exact this.1
  refine ⟨fs++[(i,g)], ?_,by simpa using J,by simpa using M, ?_⟩
  ·simp [z,List.range'_succ]
  ·intro j S C ho r;cases j with
   | zero=>
    simp only [List.getElem?_cons_zero,ZEK] at ho r;subst ho r;refine ⟨g,Ha, ?_⟩
    have:(fs++[(i,g)]).filter (λp=>decide (p.1<i+0))=[]:=by
     rw [List.filter_eq_nil_iff];intro p hp;simp only [He,Hu] at hp;rcases hp with hp| rfl
     ·have:=k p hp;simp;omega
     ·simp
    rw [this];exact G
   | succ j=>
    obtain ⟨E,T,U⟩:=R j S C (by simpa using ho) (by simpa using r);refine ⟨E, ?_, ?_⟩
    ·rw [show i+(j+1)=i+1+j from WF];simp [T]
    ·rw [show i+(j+1)=i+1+j from WF]
     have:(fs++[(i,g)]).filter (λp=>decide (p.1<i+1+j))++es=fs.filter (λp=>decide (p.1<i+1+j))++(i,g)::es:=by
      rw [List.filter_append,Hx]
      congr 1
      have:decide (i<i+1+j)=true:=by simp;omega
      simp [this]
     rw [this];exact U
theorem Zh9 (es:List (Nat×Eff)):(Zd9 O0 es).tm=es.flatMap (λp=>p.2.tm)++O0.tm:=by
 induction es with
 | nil=>rfl
 | cons p es j=>simp [Zd9,St.app,j]
theorem Zks (es:List (Nat×Eff)):(Zd9 O0 es).bx=es.flatMap (λp=>p.2.bx)++O0.bx:=by
 induction es with
 | nil=>rfl
 | cons p es j=>simp [Zd9,St.app,j]
theorem Zkt (es:List (Nat×Eff)):(Zd9 O0 es).ar=es.flatMap (λp=>p.2.ar)++O0.ar:=by
 induction es with
 | nil=>rfl
 | cons p es j=>simp [Zd9,St.app,j]
theorem Zkr (es:List (Nat×Eff)):(Zd9 O0 es).nt=O0.nt:=by
 induction es with
 | nil=>rfl
 | cons p es j=>simp [Zd9,St.app,j]
theorem lookup_append {α:Type} (l m:List (Nat×α)) (k:Nat):(l++m).lookup k=(l.lookup k).or (m.lookup k):=by
 induction l with
 | nil=>simp
 | cons p l r=>
  obtain ⟨j,v⟩:=p;simp only [Hm,lookup_cons,r]
  split<;>simp
theorem Jp {α:Type} {l:List (Nat×α)} {k:Nat} (h:k∉ZR l):l.lookup k=none:=by
 induction l with
 | nil=>rfl
 | cons p l m=>
  obtain ⟨j,v⟩:=p;simp only [ZR,Hi,Hc,not_or] at h;rw [lookup_cons,if_neg h.1];exact m h.2
section lists
variable {α:Type} (f:Nat×Eff->List (Nat×α))
theorem ZjZ (base:List (Nat×α)) (j:Nat×Eff->Bool) (k:Nat):∀{L:List (Nat×Eff)},(∀p∈L,j p=false->k∉ZR (f p))->(L.flatMap f++base).lookup k=((L.filter j).flatMap f++base).lookup k
 | [],_=>rfl
 | p::L,h=>by
  have m:=ZjZ base j k (L:=L) λq hq=>h q (by simp [hq]);simp only [List.flatMap_cons,Hx];rw [lookup_append,m];cases l:j p
  ·rw [Jp (h p Ha l)];simp [l]
  ·rw [List.filter_cons_of_pos (by simp [l]),List.flatMap_cons,Hx,lookup_append (f p)]
theorem ZgM (base:List (Nat×α)) (p:Nat×Eff) (k:Nat):∀{L1 L2:List (Nat×Eff)},(∀q∈L1,k∈ZR (f p)->k∉ZR (f q))->((L1++p::L2).flatMap f++base).lookup k=(f p++((L1++L2).flatMap f++base)).lookup k
 | [],L2,_=>Ha
 | q::L1,L2,h=>by
  have l:=ZgM base p k (L1:=L1) (L2:=L2) λr m=>h r (by simp [m]);simp only [Hm,List.flatMap_cons,Hx] at l ⊢;rw [lookup_append,l,lookup_append (f p),lookup_append (f p),lookup_append (f q)]
  by_cases j:k∈ZR (f p)
  ·rw [Jp (h q Ha j)];simp
  ·rw [Jp j];simp
end lists
structure Eqv (O O':St):Prop where
 nt:O'.nt=O.nt
 tm:∀t,O'.tm.lookup t=O.tm.lookup t
 bx:∀t,O'.bx.lookup t=O.bx.lookup t
 ar:∀t,O'.ar.lookup t=O.ar.lookup t
theorem Eqv.sim {N:Nat->Prop} {w0:Bs} {O O':St} {a:Act} {w:World} (h:Eqv O O') (l:Sim N w0 O a w):Sim N w0 O' a w:=by
 obtain ⟨e,l⟩:=l
 have J:∀b,Mut e O' b->Mut e O b:=by
  intro b p;rcases p with p| ⟨k,cs,j,s⟩| ⟨C,A,j,s⟩
  ·exact .inl p
  ·exact .inr (.inl ⟨k,cs,by rw [<-h.bx];exact j,s⟩)
  ·exact .inr (.inr ⟨C,A,by rw [<-h.ar];exact j,s⟩)
 have u:Up e O w e O' w:=⟨ZEN _,λ_ _ _=>rfl,λb _ p=>J b p,λk cs r=>⟨⟨cs,by rw [h.bx];exact r⟩,rfl⟩,λC A E=>⟨A,by rw [h.ar];exact E,λB I=>⟨B,I,ZEN _,λ_=>rfl⟩⟩,λ_ _ _ _=>⟨rfl,λ_ _=>rfl⟩⟩
 have hl:∀m,live O' m->live O m:=by
  intro m r;cases m with
  | b k=>obtain ⟨cs,j⟩:=r;exact ⟨cs,by rw [<-h.bx];exact j⟩
  | a C=>obtain ⟨A,j⟩:=r;exact ⟨A,by rw [<-h.ar];exact j⟩
 refine ⟨e,⟨by rw [l.nt,h.nt],l.df,λt v M=>(l.tm t v (by rw [<-h.tm];exact M)).up u,λk cs r=> ?_,λC A E=>(l.ar C A (by rw [<-h.ar];exact E)).up u λ_ _=>rfl,λm z j s=>l.sep m z (hl m j) (hl z s),l.fr,⟨l.bad.1,λb p=>⟨(l.bad.2 b p).1,λm j=>(l.bad.2 b p).2 m (hl m j)⟩⟩,λm j=>l.dk m (hl m j),λk cs r G=>l.pn k cs (by rw [<-h.bx];exact r) (h.nt▸G),l.tn,λm b j p=>l.tp m b (hl m j) p⟩⟩;obtain ⟨j,s⟩:=l.bx k cs (by rw [<-h.bx];exact r);exact ⟨j,s.up u⟩
theorem Sim.drew {N:Nat->Prop} {w0:Bs} {O:St} {a:Act} {w:World} (j:Sim N w0 O a w):Sim N w0 O a { w with drawn:=w.drawn+1}:=by
 obtain ⟨e,j⟩:=j;have u:Up e O w e O w.drew:=⟨ZEN _,λ_ _ _=>rfl,λb _ C=>C,λk cs m=>⟨⟨cs,m⟩,rfl⟩,λp A l=>⟨A,l,λB z=>⟨B,z,ZEN _,λ_=>rfl⟩⟩,λ_ _ _ _=>⟨rfl,λ_ _=>rfl⟩⟩;refine ⟨e,⟨j.nt,j.df,λt v E=>(j.tm t v E).up u,λk cs m=> ?_,λp A l=>(j.ar p A l).up u λ_ _=>rfl,j.sep,j.fr.drew,j.bad,j.dk,j.pn,j.tn,j.tp⟩⟩;obtain ⟨r,s⟩:=j.bx k cs m;exact ⟨r,s.up u⟩
end
section
variable {P:Program} {O0:St} {B:List (List Nat)} {N:Nat->Prop} {w0:Bs}
theorem Le.yld {O O':St} {ops:Array Oper} {j:Nat} {b k:Bool} (h:Le O O') (l:yld O ops j k=some b):yld O' ops j k=some b:=by
 unfold Am.yld at l ⊢
 split at l
 ·rename_i d hd
  split at l
  ·rename_i p m;rw [h.tm d _ m];exact l
  ·rename_i m;rw [h.tm d _ m];exact l
  ·cases l
 ·cases l
theorem Zco {l:List Oper} {A:List (List Nat)} (h:ZcI l A=true):l.length=A.length/\∀i o d,l[i]? =some o->A[i]? =some d->
  (∀e∈o.after,Region.binds .any e=true->e.on∈d/\e.on<i)/\∀k∈d,k<1000000->∃e∈o.after,Region.binds .any e=true/\(e.on=k\/k∈A.getD e.on []):=by
 unfold ZcI at h;simp only [ZEM,beq_iff_eq,Hj] at h;refine ⟨h.1.1,λi o d ho hd=> ?_⟩
 have C:((o,d),i)∈(l.zip A).zipIdx:=by
  rw [List.mem_zipIdx_iff_getElem?];rw [List.getElem?_zip_eq_some];exact ⟨ho,hd⟩
 have r:=h.2 _ C;refine ⟨λe p s=> ?_,λk t z=> ?_⟩
 ·have j:=r.1 e (by simpa using p);simp only [s,Hr,Bool.false_or,ZEM,GV,decide_eq_true_eq] at j;exact j
 ·have j:=r.2 k t;rw [Gv] at j;rcases j with j| j
  ·simp only [decide_eq_true_eq] at j;omega
  rw [GQ] at j;obtain ⟨e,p,m⟩:=j;simp only [ZEM,Gv,beq_iff_eq,GV] at m;exact ⟨e,by simpa using p,m.1,m.2⟩
theorem Zol {l:List Oper} {A:List (List Nat)} (h:ZcI l A=true):l.length<=1000000:=by
 unfold ZcI at h;simp only [ZEM,decide_eq_true_eq] at h;exact h.1.2
theorem Zfr {α:Type} (q:Nat->Bool):∀(l:List (Nat×α)) (k:Nat),(l.filter λp=>q p.1).lookup k=if q k=true then l.lookup k else none
 | [],k=>Ha
 | (j,v)::l,k=>by
  have r:=Zfr q l k
  by_cases hj:q j=true
  ·rw [List.filter_cons_of_pos (by simpa using hj),lookup_cons,lookup_cons,r]
   by_cases m:k=j
   ·subst m;simp [hj]
   ·simp [m]
  ·rw [List.filter_cons_of_neg (by simpa using hj),lookup_cons,r]
   by_cases m:k=j
   ·subst m;simp [hj]
   ·simp [m]
theorem ZAp {es:List (Nat×Eff)} (h:dOk O0 B es=true):∀p∈es,∀r∈p.2.bx,(!(B.getD p.1 []).contains (1000000+r.1))=true:=by
 intro p hp r k;unfold dOk at h;have j:=Hj.1 h p hp;rw [ZEM,ZEM] at j;exact Hj.1 j.1.1 r k
theorem ZAq {es:List (Nat×Eff)} (h:dOk O0 B es=true):∀p∈es,∀r∈p.2.ar,(!(B.getD p.1 []).contains (10000000+r.1))=true:=by
 intro p hp r k;unfold dOk at h;have j:=Hj.1 h p hp;rw [ZEM,ZEM] at j;exact Hj.1 j.1.2 r k
theorem ZvU {es:List (Nat×Eff)} (h:dOk O0 B es=true):∀p∈es,∀q∈es,(p.1==q.1||(B.getD p.1 []).contains q.1||(B.getD q.1 []).contains p.1||(apart q.2 p.2&&!Zl4 q.2 (view O0 es (B.getD p.1 []))))=true:=by
 intro p hp q hq;unfold dOk at h;have j:=Hj.1 h p hp;rw [ZEM] at j;exact Hj.1 j.2 q hq
theorem ZqP {α:Type} {p:Prop} [Decidable p] {o:Option α} {v:α} (h:(if p then o else none)=some v):o=some v:=by
 by_cases hp:p
 ·rwa [if_pos hp] at h
 ·rw [if_neg hp] at h;cases h
theorem Zx3 (O:St) (d:Option Nat):O.kill d=O.app ⟨True,match d with | some d=>[(d,.dead)]| none=>[],[],[]⟩:=by cases d<;>rfl
def Zcn (O0:St) (fs:List (Nat×Eff)) (j:Array Bool):St:=Zd9 O0 (fs.filter λp=>j.getD p.1 false)
set_option maxHeartbeats 800000 in
theorem ZvR {l:List Oper} {A:List (List Nat)} {fs:List (Nat×Eff)} {Q:Exit->Act->World->Prop} (b3:ZcI l A=true) (b7:fs.map (·.1)=(List.range' 0 l.length).reverse) (e6:dOk O0 A fs=true)
  (i8:∀j o d,l[j]? =some o->A[j]? =some d->∃g,(j,g)∈fs/\EvG P l.toArray (view O0 (fs.filter λp=>decide (p.1<j)) d) o g)
  (hQ:∀a w,Sim N w0 (Zd9 O0 fs) a w->Q .normal a w):∀(R:Nat) (z:Array Bool) (a:Act) (w:World),z.size=l.length->
   (∀j,j<l.length->z.getD j false=true->∀k∈A.getD j [],k<1000000->z.getD k false=true)->((List.range l.length).filter λi=>!z.getD i false).length<=R->Sim N w0 (Zcn O0 fs z) a w->wpAny P .any l.toArray Q R z a w:=by
 obtain ⟨k0,S⟩:=Zco b3;have k1:=Zol b3
 have I:∀p∈fs,p.1<l.length:=by
  intro p hp;have:p.1∈fs.map (·.1):=Hd.2 ⟨p,hp,rfl⟩;rw [b7,List.mem_reverse,List.mem_range'_1] at this;omega
 have hA:∀i,i<l.length->∃o d,l[i]? =some o/\A[i]? =some d/\A.getD i []=d:=by
  intro i hi;have T:i<A.length:=WF
  exact ⟨l[i],A[i],ZEP hi,ZEP T,by rw [Gc,ZEP T];rfl⟩
 have e5:∀i,i<l.length->∀k∈A.getD i [],k<1000000->k<i:=by
  intro i
  induction i using Nat.strongRecOn with
  | _ i ih=>
   intro hi k G M;obtain ⟨o,d,T,E,C⟩:=hA i hi;rw [C] at G;obtain ⟨e,he,hb,X⟩:=(S i o d T E).2 k G M;have g8:=((S i o d T E).1 e he hb).2;rcases X with rfl| X
   ·exact g8
   ·have:=ih e.on g8 WF k X M;omega
 have c6:∀z:Array Bool,((List.range l.length).filter λi=>!z.getD i false)=[]->∀a w,Sim N w0 (Zcn O0 fs z) a w->Q .normal a w:=by
  intro z hn a w hs;rw [List.filter_eq_nil_iff] at hn
  have:Zcn O0 fs z=Zd9 O0 fs:=by
   unfold Zcn
   congr 1
   rw [List.filter_eq_self];intro p hp;have:=hn p.1 (HN.2 (I p hp))
   simpa using this
  rw [this] at hs;exact hQ a w hs
 intro R
 induction R with
 | zero=>
  intro z a w i1 c2 g7 hs;have hn:((List.range l.length).filter λi=>!z.getD i false)=[]:=HI WF;refine ⟨?_,c6 z hn a w hs⟩;apply List.eq_nil_iff_forall_not_mem.2;intro i hi;obtain ⟨T,o,ho,_⟩:=mem_ready.1 hi;have b2:i<l.length:=by have:=(GX.1 ho).1;simpa using this
  rw [List.filter_eq_nil_iff] at hn;have E:=hn i (HN.2 b2);have C:i<z.size:=WF
  simp [C] at T E;rw [T] at E;cases E
 | succ R ih=>
  intro z a w i1 c2 g7 hs;refine ⟨λc5=> ?_,λi hi=> ?_⟩
  ·by_cases hn:((List.range l.length).filter λi=>!z.getD i false)=[]
   ·exact c6 z hn a w hs
   ·exfalso
    have i9:∀n,∀i,i<l.length->z.getD i false=false->i<=n->False:=by
     intro n
     induction n using Nat.strongRecOn with
     | _ n j3=>
      intro i hi Y k2
      by_cases hd:∀k∈A.getD i [],k<1000000->z.getD k false=true
      ·obtain ⟨o,d,T,E,C⟩:=hA i hi
       have:i∈Region.ready .any l.toArray z:=mem_ready.2 ⟨by
        have h4:i<z.size:=WF
        simp [h4] at Y ⊢;exact Y,o,by simpa using T,λe he hb=>hd e.on (by rw [C];exact ((S i o d T E).1 e he hb).1) (by have:=((S i o d T E).1 e he hb).2;omega)⟩
       rw [c5] at this;cases this
      ·obtain ⟨k,G⟩:=Classical.not_forall.1 hd;obtain ⟨j0,b6⟩:=Classical.not_imp.1 G;obtain ⟨M,b6⟩:=Classical.not_imp.1 b6;have e4:=e5 i hi k j0 M;exact j3 k WF k WF (by simpa using b6) (ZEN _)
    obtain ⟨i,hi⟩:=List.exists_mem_of_ne_nil _ hn;rw [HU] at hi;exact i9 i i (HN.1 hi.1) (by simpa using hi.2) (ZEN _)
  ·obtain ⟨T,o,ho,c1⟩:=mem_ready.1 hi;have h8:l[i]? =some o:=by simpa using ho
   have b2:i<l.length:=(Hh.1 h8).1;have e0:i<z.size:=WF
   have Y:z.getD i false=false:=by simp [e0] at T ⊢;exact T
   obtain ⟨o2,d,q1,q2,q3⟩:=hA i b2;obtain rfl:o2=o:=ZEI (q1.symm.trans h8)
   have c8:∀k∈d,k<1000000->z.getD k false=true:=by
    intro k G M;obtain ⟨e,he,hb,X⟩:=(S i o2 d q1 q2).2 k G M;have g9:=c1 e he hb;rcases X with rfl| X
    ·exact g9
    ·exact c2 e.on (by have:=((S i o2 d q1 q2).1 e he hb).2;omega) g9 k X M
   obtain ⟨g,hg,c7⟩:=i8 i o2 d q1 q2
   have e9:view O0 (fs.filter λp=>decide (p.1<i)) d=view O0 fs d:=by
    have hf:(fs.filter λp=>decide (p.1<i)).filter (λp=>d.contains p.1)=fs.filter (λp=>d.contains p.1):=by
     rw [List.filter_filter];apply List.filter_congr;intro p hp
     by_cases b8:p.1∈d
     ·have:=e5 i b2 p.1 (by rw [q3];exact b8) (by have:=I p hp;omega);simp [this]
     ·simp [b8]
    unfold view;rw [hf]
   rw [e9] at c7
   have Z:∀p∈fs,z.getD p.1 false=true->p.1∉d->apart p.2 g=true/\Zl4 p.2 (view O0 fs d)=false:=by
    intro p hp hS U;have C:=ZvU e6 (i,g) hg p hp;simp only [q3,Gv,beq_iff_eq,GV,ZEM,Ga] at C;rcases C with ((C| C)| C)| C
    ·rw [<-C,Y] at hS;cases hS
    ·exact absurd C U
    ·have:=c2 p.1 (I p hp) hS i C WF;rw [Y] at this;cases this
    ·exact C
   have h5:(fs.filter λp=>z.getD p.1 false).filter (λp=>d.contains p.1)=fs.filter (λp=>d.contains p.1):=by
    rw [List.filter_filter];apply List.filter_congr;intro p hp
    by_cases b8:p.1∈d
    ·simp [c8 p.1 b8 (by have:=I p hp;omega)]
    ·simp [b8]
   have skip:∀{α:Type} (f:Nat×Eff->List (Nat×α)) (base:List (Nat×α)) (k:Nat),(∀p∈fs,z.getD p.1 false=true->p.1∉d->k∉ZR (f p))->
     ((fs.filter λp=>z.getD p.1 false).flatMap f++base).lookup k=((fs.filter λp=>d.contains p.1).flatMap f++base).lookup k:=by
    intro α f base k G;rw [ZjZ f base (λp=>d.contains p.1) k,h5];intro p hp i0;rw [HU] at hp;exact G p hp.1 (by simpa using hp.2) (by simpa using i0)
   have j9:(view O0 fs d).tm=(fs.filter λp=>d.contains p.1).flatMap (λp=>p.2.tm)++O0.tm:=Zh9 _;have j8:(view O0 fs d).bx=((fs.filter λp=>d.contains p.1).flatMap (λp=>p.2.bx)++O0.bx).filter (λp=>!d.contains (1000000+p.1)):=congrArg (List.filter λp:Nat×List CV=>!d.contains (1000000+p.1)) (Zks _);have i5:∀k,(view O0 fs d).bx.lookup k=if (!d.contains (1000000+k))=true then ((fs.filter λp=>d.contains p.1).flatMap (λp=>p.2.bx)++O0.bx).lookup k else none:=λk=>by rw [j8];exact Zfr (λk=>!d.contains (1000000+k)) _ k
   have g2:∀k v,(view O0 fs d).bx.lookup k=some v->((fs.filter λp=>d.contains p.1).flatMap (λp=>p.2.bx)++O0.bx).lookup k=some v:=λk v hv=>ZqP ((i5 k).symm.trans hv);have g1:∀k,(!d.contains (1000000+k))=true->(view O0 fs d).bx.lookup k=none->((fs.filter λp=>d.contains p.1).flatMap (λp=>p.2.bx)++O0.bx).lookup k=none:=λk G hv=>(if_pos G).symm.trans ((i5 k).symm.trans hv);have i4:(view O0 fs d).ar=((fs.filter λp=>d.contains p.1).flatMap (λp=>p.2.ar)++O0.ar).filter (λp=>!d.contains (10000000+p.1)):=congrArg (List.filter λp:Nat×Option Arr=>!d.contains (10000000+p.1)) (Zkt _);have i6:∀k,(view O0 fs d).ar.lookup k=if (!d.contains (10000000+k))=true then ((fs.filter λp=>d.contains p.1).flatMap (λp=>p.2.ar)++O0.ar).lookup k else none:=λk=>by rw [i4];exact Zfr (λk=>!d.contains (10000000+k)) _ k
   have g4:∀k v,(view O0 fs d).ar.lookup k=some v->((fs.filter λp=>d.contains p.1).flatMap (λp=>p.2.ar)++O0.ar).lookup k=some v:=λk v hv=>ZqP ((i6 k).symm.trans hv);have g3:∀k,(!d.contains (10000000+k))=true->(view O0 fs d).ar.lookup k=none->((fs.filter λp=>d.contains p.1).flatMap (λp=>p.2.ar)++O0.ar).lookup k=none:=λk G hv=>(if_pos G).symm.trans ((i6 k).symm.trans hv);have j7:(Zcn O0 fs z).tm=(fs.filter λp=>z.getD p.1 false).flatMap (λp=>p.2.tm)++O0.tm:=Zh9 _;have i3:(Zcn O0 fs z).bx=(fs.filter λp=>z.getD p.1 false).flatMap (λp=>p.2.bx)++O0.bx:=Zks _;have i2:(Zcn O0 fs z).ar=(fs.filter λp=>z.getD p.1 false).flatMap (λp=>p.2.ar)++O0.ar:=Zkt _
   have J:∀{α:Type} (f:Eff->List (Nat×α)) (m:List (Nat×α)) (k:Nat) (v:α),m.lookup k=some v->(∀p∈fs,Zl4 p.2 (view O0 fs d)=false->(f p.2).any (λr=>(m.lookup r.1).isSome)=false)->∀p∈fs,z.getD p.1 false=true->p.1∉d->k∉ZR (f p.2):=by
    intro α f m k v hv ht p hp hS U G;have E:=ht p hp (Z p hp hS U).2;rw [GN] at E;obtain ⟨r,hr,rfl⟩:=Hd.1 G;have:=E r hr;rw [hv] at this;simp at this
   have c4:Le (view O0 fs d) (Zcn O0 fs z):=by
    refine ⟨by unfold Zcn view;rw [Zkr,Zkr],λt v ht=> ?_,λt v ht=> ?_,λt v ht=> ?_⟩
    ·rw [j7,skip _ _ t (J (λg=>g.tm) _ t v ht λp _ E=>by simp only [Zl4,GF] at E;exact E.1.1),<-j9];exact ht
    ·rw [i3,skip _ _ t (J (λg=>g.bx) _ t v ht λp _ E=>by simp only [Zl4,GF] at E;exact E.1.2)];exact g2 t v ht
    ·rw [i2,skip _ _ t (J (λg=>g.ar) _ t v ht λp _ E=>by simp only [Zl4,GF] at E;exact E.2)];exact g4 t v ht
   have b0:ZoI (view O0 fs d) (Zcn O0 fs z) g:=by
    refine ⟨λr hr hn=> ?_,λr hr hn=> ?_⟩
    ·rw [i3,skip _ _ r.1 (λp hp hS U G=> ?_)]
     ·refine g1 r.1 ?_ hn;have C:=ZAp e6 (i,g) hg r hr;rw [<-q3];exact C
     ·have E:=(Z p hp hS U).1;simp only [apart,ZEM,Hj] at E;obtain ⟨r',e8,he⟩:=Hd.1 G;have C:=E.1.2 r' e8;rw [he] at C;simp only [Ga,List.contains_eq_mem,decide_eq_false_iff_not] at C;exact C (Hd.2 ⟨r,hr,rfl⟩)
    ·rw [i2,skip _ _ r.1 (λp hp hS U G=> ?_)]
     ·refine g3 r.1 ?_ hn;have C:=ZAq e6 (i,g) hg r hr;rw [<-q3];exact C
     ·have E:=(Z p hp hS U).1;simp only [apart,ZEM,Hj] at E;obtain ⟨r',e8,he⟩:=Hd.1 G;have C:=E.2 r' e8;rw [he] at C;simp only [Ga,List.contains_eq_mem,decide_eq_false_iff_not] at C;exact C (Hd.2 ⟨r,hr,rfl⟩)
   have b1:∀k,(z.setIfInBounds i true).getD k false=if k=i then true else z.getD k false:=by
    intro k
    by_cases G:k=i
    ·subst G;simp [e0]
    ·rw [if_neg G,getD_set_ne false (Ne.symm G)]
   obtain ⟨L1,L2,b4⟩:=List.append_of_mem hg
   have h9:(fs.map (·.1)).Pairwise (· > ·):=by
    rw [b7,List.pairwise_reverse];exact List.pairwise_lt_range'
   rw [List.pairwise_map,b4] at h9;obtain ⟨k3,j4,j5⟩:=List.pairwise_append.1 h9;obtain ⟨j6,k4⟩:=GA.1 j4;have g5:∀q∈L1,i<q.1:=λq hq=>j5 q hq (i,g) Ha;have i7:∀q∈L2,q.1<i:=λq hq=>j6 q hq
   have h7:fs.filter (λp=>(z.setIfInBounds i true).getD p.1 false)=L1.filter (λp=>z.getD p.1 false)++(i,g)::L2.filter (λp=>z.getD p.1 false):=by
    rw [b4,List.filter_append,List.filter_cons_of_pos (by simp [e0])]
    congr 1
    ·apply List.filter_congr;intro q hq;rw [b1,if_neg (by have:=g5 q hq;omega)]
    ·congr 1
     apply List.filter_congr;intro q hq;rw [b1,if_neg (by have:=i7 q hq;omega)]
   have e7:fs.filter (λp=>z.getD p.1 false)=L1.filter (λp=>z.getD p.1 false)++L2.filter (λp=>z.getD p.1 false):=by
    rw [b4,List.filter_append,List.filter_cons_of_neg (by simp [Y])]
   have g6:∀q∈L1.filter (λp=>z.getD p.1 false),apart q.2 g=true:=by
    intro q hq;rw [HU] at hq;refine (Z q (by rw [b4];simp [hq.1]) (by simpa using hq.2) λj1=> ?_).1;have:=e5 i b2 q.1 (by rw [q3];exact j1) (by have:=I q (by rw [b4];simp [hq.1]);omega);have:=g5 q hq.1;omega
   have h0:Eqv ((Zcn O0 fs z).app g) (Zcn O0 fs (z.setIfInBounds i true)):=by
    have e1:(Zcn O0 fs (z.setIfInBounds i true))=Zd9 O0 (L1.filter (λp=>z.getD p.1 false)++(i,g)::L2.filter (λp=>z.getD p.1 false)):=by unfold Zcn;rw [h7]
    have e2:(Zcn O0 fs z)=Zd9 O0 (L1.filter (λp=>z.getD p.1 false)++L2.filter (λp=>z.getD p.1 false)):=by unfold Zcn;rw [e7]
    have c0:∀{α:Type} (f:Eff->List (Nat×α)),(∀h:Eff,apart h g=true->(f h).all (λp=>!(ZR (f g)).contains p.1)=true)->∀k,∀q∈L1.filter (λp=>z.getD p.1 false),k∈ZR (f g)->k∉ZR (f q.2):=by
     intro α f hf k q hq G b6;have E:=hf q.2 (g6 q hq);rw [Hj] at E;obtain ⟨r,hr,rfl⟩:=Hd.1 b6;have C:=E r hr;simp only [Ga,List.contains_eq_mem,decide_eq_false_iff_not] at C;exact C G
    rw [e1,e2];refine ⟨by simp only [St.app,Zkr],λt=> ?_,λt=> ?_,λt=> ?_⟩
    ·simp only [St.app,Zh9];exact ZgM (λp=>p.2.tm) _ (i,g) t (c0 (λh=>h.tm) (λh hh=>by simp only [apart,ZEM] at hh;exact hh.1.1) t)
    ·simp only [St.app,Zks];exact ZgM (λp=>p.2.bx) _ (i,g) t (c0 (λh=>h.bx) (λh hh=>by simp only [apart,ZEM] at hh;exact hh.1.2) t)
    ·simp only [St.app,Zkt];exact ZgM (λp=>p.2.ar) _ (i,g) t (c0 (λh=>h.ar) (λh hh=>by simp only [apart,ZEM] at hh;exact hh.2) t)
   have W:∀a' w',Sim N w0 ((Zcn O0 fs z).app g) a' w'->wpAny P .any l.toArray Q R (z.setIfInBounds i true) a' w':=by
    intro a' w' j2;refine ih _ _ _ (by simp [i1]) (λj hj hS k G M=> ?_) ?_ (h0.sim j2)
    ·rw [b1] at hS ⊢
     by_cases e4:k=i
     ·simp [e4]
     ·rw [if_neg e4]
      by_cases c3:j=i
      ·subst c3;rw [q3] at G;exact c8 k G M
      ·rw [if_neg c3] at hS;exact c2 j hj hS k G M
    ·have:((List.range l.length).filter λj=>!(z.setIfInBounds i true).getD j false).length<((List.range l.length).filter λj=>!z.getD j false).length:=by
      have e3:((List.range l.length).filter λj=>!(z.setIfInBounds i true).getD j false)=((List.range l.length).filter λj=>!z.getD j false).filter (λj=>decide (j≠i)):=by
       rw [List.filter_filter];apply List.filter_congr;intro j _;rw [b1]
       by_cases c3:j=i<;>simp [c3]
      rw [e3];have h6:i∈(List.range l.length).filter λj=>!z.getD j false:=HU.2 ⟨HN.2 b2,by simp [Y]⟩;exact List.length_filter_lt_length_iff_exists.2 ⟨i,h6,Ha⟩
     omega
   unfold wpOp;rw [ho];simp only;obtain ⟨e,b9⟩:=hs;cases c7 with
   | plain g b5 hE=>
    rw [if_pos (by simp [Region.wanted,b5])];exact .inl ((c4.ev hE b0).sound b9 W)
   | yes g j c9 b5 hy hE=>
    have g0:=ZfD b9 (c4.yld hy);have hw:Region.wanted o2 (yielded l.toArray a.tmps)=true:=by unfold Region.wanted;rw [b5];simp only;rw [g0];simp
    rw [if_pos hw];exact .inl ((c4.ev hE b0).sound b9 W)
   | no j c9 b5 hy=>
    have g0:=ZfD b9 (c4.yld hy);have hw:Region.wanted o2 (yielded l.toArray a.tmps)=false:=by unfold Region.wanted;rw [b5];simp only;rw [g0];cases c9<;>rfl
    rw [if_neg (by simp [hw])];refine W _ _ (Eq.mp (congrArg (λs=>Sim N w0 s (a.put o2.dst undef) w) ?_) ⟨e,b9.kill o2.dst⟩);generalize o2.dst=dd;cases dd<;>rfl
theorem ZuK {Q:Exit->St->Prop} {id:Nat} {l:List Oper} (A:List (List Nat)) (hm:P.follows .mixedOrders=true) (hd:ZcI l A=true) (h:Zp2 P l.toArray O0 (λO'=>Q .normal O') A A l 0 []):AW P N w0 (.region id l.toArray true) Q O0:=by
 intro a w m;obtain ⟨fs,C,r,s,t⟩:=Zrf h (Zco hd).1.symm;simp only [HG] at r s t;refine wp_region_any hm ?_;refine ZvR hd C r (λj o d ho k=>by simpa using t j o d ho k) (λa w m=>⟨_,s,m⟩) _ _ _ _ Ha ?_ ?_ ?_
 ·intro j hj z;simp [hj] at z
 ·have:=GW (λi=>!(Array.replicate l.toArray.size false).getD i false) (List.range l.length)
  simpa using this
 ·have:Zcn O0 fs (Array.replicate l.toArray.size false)=O0:=by
   unfold Zcn
   have:fs.filter (λp=>(Array.replicate l.toArray.size false).getD p.1 false)=[]:=by
    rw [List.filter_eq_nil_iff];intro p hp
    have:(Array.replicate l.toArray.size false).getD p.1 false=false:=by
     rcases Nat.lt_or_ge p.1 l.toArray.size with h| h
     ·rw [HQ,Array.getElem?_replicate,if_pos h];rfl
     ·rw [HQ,Array.getElem?_replicate,if_neg WF];rfl
    rw [this];simp
   rw [this]
   rfl
  rw [this];exact m.drew
end
end Go.Proofs.YtmcfegjoccgpoaaGreatDoor.Am
