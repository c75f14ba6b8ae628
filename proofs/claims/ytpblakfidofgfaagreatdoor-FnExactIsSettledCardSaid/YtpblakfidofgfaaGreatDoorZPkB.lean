import Derived.Test.YtpblakfidofgfaaGreatDoorZPkA
import Derived.LoopN
import Derived.Orders
set_option linter.unusedSimpArgs false
set_option linter.unusedVariables false
namespace Go.Proofs.YtpblakfidofgfaaGreatDoor.Am
open Go.RowKit
def Zfy:List (Nat×V)->Option (List (List CV))
 | []=>some []
 | (_,v)::rest=>match Zfx v,Zfy rest with
  | some c,some cs=>some (c::cs)
  | _,_=>none
def ZaL:List Value->Option (List L)
 | []=>some []
 | .int k n::vs=>if k.wrap n=n then (ZaL vs).map (.int k n:: ·) else none
 | .bool b::vs=>(ZaL vs).map (.bool b:: ·)
 | .string s::vs=>if s.size<=9223372036854775807 then (ZaL vs).map (.str s:: ·) else none
 | .slice none 0 0::vs=>(ZaL vs).map (.sl []:: ·)
 | _=>none
def Znz (O:St):V->Option (List (List L)×Bool×List Nat×Prop)
 | .one .nil=>some ([],true,[],True)
 | .one (.l (.sl ys))=>some (ys,VI ys,[],True)
 | .one (.own τ m)=>match O.ar.lookup τ with
  | some (some A)=>if τ<1000000 then (if VI A.es then some (A.es,true,[],A.es.length=m) else some (A.es,A.fr,[τ],A.es.length=m)) else none
  | _=>none
 | .one (.vw τ n lo hi W)=>match O.ar.lookup τ with
  | some (some A)=>if VI A.es then some ((A.es.take hi).drop lo,true,[],A.es.length=n/\∀z∈A.es,z.length=W) else none
  | _=>none
 | _=>none
def ZnA (P:Program) (O:St) (ei:TI) (t t':Nat) (v:V):Option (List (List L)×Bool×List Nat×Prop):=
 if t=t' then Znz O v else match ti P t',v with
  | some ⟨.str,_,_,_⟩,.one (.l (.str s))=>some (byE s,true,[],ei.size=1)
  | _,_=>none
def over {α:Type} (xs ys:List α):List α:=ys.take xs.length++xs.drop ys.length
def XW (P:Program) (O:St) (dst:Option Nat):Op->Option Eff
 | .box _ x=>match dst,opd O x with
  | some d,some v=>match Zfx v,O.bx.lookup d with
   | some cs,none=>if d<O.nt then some ⟨True,[(d,.one (.box d 0))],[(d,cs)],[]⟩ else none
   | _,_=>none
  | _,_=>none
 | .alloc t=>match dst,ti P t with
  | some d,some i=>match ZgR i.zero,O.bx.lookup d with
   | some cs,none=>if d<O.nt then some ⟨True,[(d,.one (.box d 0))],[(d,cs)],[]⟩ else none
   | _,_=>none
  | _,_=>none
 | .store t p v=>match dst,ti P t,opd O v with
  | none,some i,some x=>match Zfx x with
   | some new=>if new.length=i.size then match opd O p with
     | some (.one (.box k off))=>match O.bx.lookup k with
      | some cs=>if off+new.length<=cs.length/\V7 cs=true then some ⟨True,[],[(k,cs.take off++new++cs.drop (off+new.length))],[]⟩ else none
      | none=>none
     | some (.one (.elt τ n j W off))=>match O.ar.lookup τ,ZiY O new with
      | some (some A),some (ls,f,τs,q)=>match A.es[j]? with
       | some el=>if el.length=W/\off+ls.length<=W/\τ∉τs/\τs.Nodup/\τ<1000000 then
         some ⟨A.es.length=n/\q,[],[],(τ,some ⟨A.fr&&f,setAt A.es j off ls⟩)::τs.map (fun κ=>(κ,none))⟩ else none
       | none=>none
      | _,_=>none
     | some (.one (.nel τ j W off n))=>match O.ar.lookup τ,new with
      | some (some A),[.l x]=>match A.es[j]? with
       | some el=>match el[off]? with
        | some (.sl ys)=>if A.fr=true/\el.length=W/\x.flat=true then some ⟨n<ys.length/\(∀y∈ys,y.length=1)/\VI ys=true,[],[],[(τ,some ⟨true,A.es.set j (el.set off (.sl (ys.set n [x])))⟩)]⟩ else none
        | _=>none
       | none=>none
      | _,_=>none
     | _=>none
    else none
   | none=>none
  | _,_,_=>none
 | .buildSlice t len ps=>match dst,ti P t,parts O ps.toList with
  | some d,some ⟨.slice et,_,_,_⟩,some vs=>match ti P et,Zfy vs with
   | some ei,some css=>match ZkX O css with
    | some (es,f,τs,q)=>if d<O.nt/\vs.map (·.1)=List.range len/\css.all (fun c=>c.length==ei.size)/\τs.Nodup/\len*ei.size<=16777216/\len<=16777216/\ei.zero.length=ei.size/\(O.ar.lookup (64*d)).isNone then
      some ⟨q/\64*d<1000000,[(d,.one (.own (64*d) es.length))],[],(64*d,some ⟨f,es⟩)::τs.map (fun κ=>(κ,none))⟩ else none
    | none=>none
   | _,_=>none
  | _,_,_=>none
 | .makeSlice t l c=>match dst,ti P t,num O l,num O c with
  | some d,some ⟨.slice et,_,_,_⟩,some (_,n),some (_,m)=>match ti P et with
   | some ei=>match ZaL ei.zero with
    | some z=>if d<O.nt/\ei.zero.length=ei.size/\0<ei.size/\(O.ar.lookup (64*d)).isNone then
      some ⟨n=m/\0<=n/\n<=9223372036854775807/\ei.bytes*n<=281474976710656/\64*d<1000000,[(d,.one (.own (64*d) n.toNat))],[],[(64*d,some ⟨true,List.replicate n.toNat z⟩)]⟩ else none
    | none=>none
   | none=>none
  | _,_,_,_=>none
 | .call { callee:=.builtin .append,args:=xs,argTypes:=ts}=>match dst,xs.toList,ts.toList with
  | some d,[s,x],[t,t']=>if d<O.nt then match ti P t,opd O s,opd O x with
    | some ⟨.slice et,_,_,_⟩,some sv,some xv=>match ti P et with
     | none=>none
     | some ei=>match ZnA P O ei t t' xv with
      | some (ys,f,τs,q)=>if ei.zero.length=ei.size then match sv with
        | .one .nil=>if (O.ar.lookup (64*d)).isNone then
          some ⟨q/\64*d<1000000/\(∀z∈ys,z.length=ei.size)/\ys.length<=140737488355328/\ys.length*ei.bytes<=140737488355328,[(d,.one (.own (64*d) ys.length))],[],(64*d,some ⟨f,ys⟩)::τs.map (fun κ=>(κ,none))⟩ else none
        | .one (.own τ n)=>match O.ar.lookup τ with
         | some (some A)=>if τ∉τs/\τ<1000000 then
           some ⟨q/\A.es.length=n/\(∀z∈A.es,z.length=ei.size)/\(∀z∈ys,z.length=ei.size)/\n+ys.length<=140737488355328/\(n+ys.length)*ei.bytes<=140737488355328,[(d,.one (.own τ (n+ys.length)))],[],(τ,some ⟨A.fr&&f,A.es++ys⟩)::τs.map (fun κ=>(κ,none))⟩ else none
         | _=>none
        | .one (.vw τ n lo m _)=>match O.ar.lookup τ with
         | some (some A)=>if lo=0/\τ∉τs/\τ<1000000/\(O.ar.lookup (64*d)).isNone then
           some ⟨q/\A.es.length=n/\64*d<1000000/\0<ys.length/\(∀z∈A.es,z.length=ei.size)/\(∀z∈ys,z.length=ei.size)/\m+ys.length<=140737488355328/\(m+ys.length)*ei.bytes<=140737488355328,[(d,.one (.own (64*d) (m+ys.length)))],[],(64*d,some ⟨A.fr&&f,A.es.take m++ys⟩)::(τ,none)::τs.map (fun κ=>(κ,none))⟩ else none
         | _=>none
        | _=>none
       else none
      | none=>none
    | _,_,_=>none
   else none
  | _,_,_=>none
 | .call { callee:=.builtin .copy,args:=xs,argTypes:=ts}=>match dst,xs.toList,ts.toList with
  | some d,[s,x],[t,t']=>if d<O.nt then match ti P t,opd O s,opd O x with
    | some ⟨.slice et,_,_,_⟩,some (.one (.own τ n)),some xv=>match ti P et,O.ar.lookup τ,Znz O xv with
     | some ei,some (some A),some (ys,true,[],q)=>if τ<1000000 then
       some ⟨q/\A.es.length=n/\ys.length<=9223372036854775807/\n<=9223372036854775807/\(∀z∈A.es,z.length=ei.size)/\(∀z∈ys,z.length=ei.size),[(d,.one (.l (.int .i64 (min ys.length n:Nat))))],[],[(τ,some ⟨A.fr,over A.es ys⟩)]⟩ else none
     | _,_,_=>none
    | _,_,_=>none
   else none
  | _,_,_=>none
 | .slice t x none (some (.const hi)) none=>match dst,ti P t,opd O x,num O (.const hi) with
  | some d,some ⟨.slice et,_,_,_⟩,some (.one (.own τ n)),some (_,m)=>match ti P et,O.ar.lookup τ with
   | some ei,some (some A)=>if d<O.nt/\τ<1000000/\(O.ar.lookup (64*d)).isNone then
     some ⟨A.es.length=n/\1<=m/\m<=n/\64*d<1000000/\∀z∈A.es,z.length=ei.size,[(d,.one (.own (64*d) m.toNat))],[],[(64*d,some ⟨A.fr,A.es.take m.toNat⟩),(τ,none)]⟩ else none
   | _,_=>none
  | _,_,_,_=>none
 | _=>none
section
variable {e:Env} {O:St} {w:World} {N:Nat->Prop} {w0:Bs} {a:Act} {P:Program}
theorem JF:∀{vs:List Value} {ls:List L},ZaL vs=some ls->OwL N w ls vs []/\ls.length=vs.length
 | [],_,h=>by simp [ZaL] at h;subst h;simp [OwL]
 | v::vs,_,h=>by
  unfold ZaL at h
  split at h
  ·rename_i heq;cases heq
  ·rename_i k n vs' heq;injection heq with e1 e2
   subst e1 e2
   split at h
   ·rename_i hk;obtain ⟨ls,h1,rfl⟩:=Option.map_eq_some_iff.1 h;obtain ⟨g1,g2⟩:=JF h1;exact ⟨by simp only [OwL];exact ⟨_,vs,[],[],rfl,rfl,by simp [Ow,InK,hk],g1⟩,by simp [g2]⟩
   ·cases h
  ·rename_i b vs' heq;injection heq with e1 e2
   subst e1 e2;obtain ⟨ls,h1,rfl⟩:=Option.map_eq_some_iff.1 h;obtain ⟨g1,g2⟩:=JF h1;exact ⟨by simp only [OwL];exact ⟨_,vs,[],[],rfl,rfl,by simp [Ow],g1⟩,by simp [g2]⟩
  ·rename_i b vs' heq;injection heq with e1 e2
   subst e1 e2
   split at h
   ·rename_i hk;obtain ⟨ls,h1,rfl⟩:=Option.map_eq_some_iff.1 h;obtain ⟨g1,g2⟩:=JF h1;exact ⟨by simp only [OwL];exact ⟨_,vs,[],[],rfl,rfl,by simp [Ow,Fit,hk],g1⟩,by simp [g2]⟩
   ·cases h
  ·rename_i vs' heq;injection heq with e1 e2
   subst e1 e2;obtain ⟨ls,h1,rfl⟩:=Option.map_eq_some_iff.1 h;obtain ⟨g1,g2⟩:=JF h1;exact ⟨by simp only [OwL];exact ⟨_,vs,[],[],rfl,rfl,by simp only [Ow];exact ⟨none,0,rfl,by omega,.inl (by simp)⟩,g1⟩,by simp [g2]⟩
  ·cases h
theorem Zn3 {W:Nat}:∀(us:List Value) (k:Nat) (cells:Array Value),(∀u∈us,u.cells.size=W)->(k+us.length)*W<=cells.size->
  ∃cur,Instr.fill (fun i=>some (i*W,W)) cells ((us.zipIdx k).map fun p=>(p.2,p.1))=some cur/\cur.toList=cells.toList.take (k*W)++us.flatMap (fun u=>u.cells.toList)++cells.toList.drop ((k+us.length)*W)
 | [],k,cells,_,_=>⟨cells,rfl,by simp⟩
 | u::us,k,cells,h,hl=>by
  have hu:=h u (by simp);simp only [List.length_cons] at hl
  have hkW:k*W+W<=cells.size:=by
   have:(k+1)*W<=cells.size:=Nat.le_trans (Nat.mul_le_mul_right _ (by omega)) hl;rw [Nat.add_mul,Nat.one_mul] at this;exact this
  have hfs:=Zik (k*W) u.cells.toList 0 cells (by simp [hu];omega);have hul:u.cells.toList.length=W:=by simp [hu]
  obtain ⟨cur,h1,h2⟩:=Zn3 us (k+1) ((u.cells.toList.zipIdx 0).foldl (fun cs (x:Value×Nat)=>cs.setIfInBounds (k*W+x.2) x.1) cells) (fun x hx=>h x (by simp [hx])) (by
   rw [<-Array.length_toList,hfs];simp only [List.length_append,List.length_take,List.length_drop,Array.length_toList,hul];rw [show k+1+us.length=k+(us.length+1) by omega];omega)
  refine ⟨cur, ?_, ?_⟩
  ·simp only [List.zipIdx_cons,List.map_cons];unfold Instr.fill;simp only;rw [if_neg (by simp [hu];omega),<-h1]
   congr 1
   rw [<-Array.foldl_toList];simp [Array.toList_zipIdx]
  ·rw [h2,hfs,hul];simp only [Nat.add_zero]
   have t1:(cells.toList.take (k*W)++u.cells.toList).length=(k+1)*W:=by
    rw [List.length_append,List.length_take,hul,Array.length_toList,Nat.add_mul,Nat.one_mul];omega
   rw [List.take_append,t1,List.take_of_length_le (by rw [t1];exact ZAe _),Nat.sub_self,List.take_zero,List.append_nil];have t2:k*W+W=(k+1)*W:=by rw [Nat.add_mul,Nat.one_mul]
   have t3:(k+1+us.length)*W=(k+1)*W+us.length*W:=Nat.add_mul _ _ _
   have t4:(cells.toList.take (k*W)++u.cells.toList++cells.toList.drop (k*W+W)).drop ((k+1+us.length)*W)=cells.toList.drop ((k+(us.length+1))*W):=by
    rw [t3,<-List.drop_drop,<-t1,List.drop_left,List.drop_drop,t2,<-t3]
    congr 2;omega
   rw [t4];simp
theorem Zju (h:Zz N w0 e O a w):∀{vs:List (Nat×V)} {us:List Value} {css:List (List CV)},Zfy vs=some css->vs.length=us.length->(∀(j:Nat) p q,vs[j]? =some p->us[j]? =some q->p.2.rel e O w q)->
  Ztc e O w css (us.flatMap fun u=>u.cells.toList)/\us.map (fun u=>u.cells.size)=css.map List.length
 | [],us,_,hc,hl,_=>by
  simp [Zfy] at hc;subst hc;have:us=[]:=by simpa using hl.symm
  subst this;simp [Ztc]
 | (i,v)::vs,[],_,_,hl,_=>by simp at hl
 | (i,v)::vs,u::us,_,hc,hl,hr=>by
  simp only [Zfy] at hc
  split at hc
  ·rename_i c cs h1 h2;obtain rfl:=Zz9 hc;obtain ⟨g1,g2⟩:=Zju h h2 (by simpa using hl) (fun j p q hp hq=>hr (j+1) p q (by simpa using hp) (by simpa using hq));have hv:=(hr 0 (i,v) u rfl rfl).cellsL h1;refine ⟨?_, ?_⟩
   ·simp only [List.flatMap_cons,Ztc];exact ⟨_,_,rfl,hv,g1⟩
   ·simp only [List.map_cons,g2]
    congr 1
    have:=hv.len
    simpa using this
  ·cases hc
theorem Zi6 (h:Zz N w0 e O a w) {xv:V} {x:Value} (hx:xv.rel e O w x) {ys:List (List L)} {f:Bool} {τs:List Nat} {q:Prop} (hs:Znz O xv=some (ys,f,τs,q)) (hq:q) {W:Nat} (hW:∀z∈ys,z.length=W):Src N e O w x ys W f τs:=by
 unfold Znz at hs
 split at hs
 ·simp only [ZAb,ZAc] at hs;obtain ⟨rfl,rfl,rfl,rfl⟩:=hs;have hv:x= .slice none 0 0:=hx;subst hv;exact ⟨⟨none,0,[],[],rfl,by simp,fun _=>rfl,by simp,by simp,by simp [RpE],by simp [UF],fun _=>⟨[],by simp [OwE],by simp,by simp⟩⟩,by simp⟩
 ·simp only [ZAb,ZAc] at hs;obtain ⟨rfl,rfl,rfl,rfl⟩:=hs;rename_i ys;obtain ⟨F,h1,h2⟩:=hx;simp only [Rp] at h1;obtain ⟨A,c,h3,h4,h5,⟨h6,h7⟩| ⟨b,off,xs,Fs,k1,k2,k3,k4,k5⟩⟩:=h1
  ·subst h6;exact ⟨⟨A,c,[],[],h3,by simp,fun _=>rfl,by simp,by simp,by simp [RpE],by simp [UF],fun _=>⟨[],by simp [OwE],by simp,by simp⟩⟩,by simp⟩
  ·subst k1 k3;refine ⟨⟨_,c,xs,Fs,h3,by rw [k5.len,ZN hW],by simp,fun ad had j u hu=> ?_,k5.one,k5,fun x hx=>.inl (h2 x (by simp [hx])),fun hf=> ?_⟩,by simp⟩
   ·obtain rfl:=Zz9 had;rw [Addr.add_lit];exact k4 j u hu
   ·obtain ⟨rfl,o⟩:=k5.flat (N:=N) hf;exact ⟨[],o,by simp,by simp⟩
 ·rename_i τ m
  split at hs
  ·rename_i A hA;obtain ⟨A',hA',g1,_⟩:=hx;rw [hA] at hA';obtain rfl:=Zz9 hA';have key:∀hm:A.es.length=m,x=e.ρ τ:=fun hm=>(g1 A rfl).2 hm
   split at hs
   rotate_left
   ·cases hs
   rename_i hdp
   split at hs
   ·rename_i hfl;simp only [ZAb,ZAc] at hs;obtain ⟨rfl,rfl,rfl,rfl⟩:=hs;rw [key hq];obtain ⟨p',c,hρ,_,_,hc| ⟨b,vs,Fs,W',rfl,q2,q3,q4,q5,q6⟩⟩:=h.elems hA hdp
    ·exact ⟨⟨p',c,[],[],hρ,by simp [hc],fun _=>by simp [hc],by simp,by simp,by simp [hc,RpE],by simp [UF],fun _=>⟨[],by simp [hc,OwE],by simp,by simp⟩⟩,by simp⟩
    ·refine ⟨⟨_,c,vs,Fs,hρ,by rw [q4.len,ZN hW],by simp,fun ad had j u hu=> ?_,q4.one,q4,fun x hx=>.inl (q6 x hx),fun hf=> ?_⟩,by simp⟩
     ·obtain rfl:=Zz9 had;rw [Addr.add_lit];exact q2 j u hu
     ·obtain ⟨rfl,o⟩:=q4.flat (N:=N) hfl;exact ⟨[],o,by simp,by simp⟩
   ·simp only [ZAb,ZAc] at hs;obtain ⟨rfl,rfl,rfl,rfl⟩:=hs;rw [key hq];have hok:=h.ar τ A hA;obtain ⟨te,xs,Fs,r1,r2,r3,r4,r5⟩:=hok.row hW
    have hFs:∀b∈Fs,¬Mut e O b:=by
     intro b hb;cases hf:A.fr
     ·exact r4 hf b hb
     ·obtain ⟨k1,k2,k3,k4⟩:=r3 hf;exact h.inner hA hdp (k3 b hb) (fun e'=>k4 b e' hb)
    obtain ⟨p',c,hρ,_,_⟩:=h.elems hA hdp;refine ⟨⟨p',c,xs,Fs,hρ,r1.1,fun hn=> ?_,fun ad had j u hu=> ?_,r2.one,r2,fun x hx=>.inl (hFs x hx),fun hf=> ?_⟩,fun κ hκ=> ?_⟩
    ·rcases r1.2 with ⟨_,g⟩| ⟨_,_,_,g,_⟩
     ·exact g
     ·rw [hρ] at g;injection g with g;rw [hn] at g;cases g
    ·rcases r1.2 with ⟨g,g'⟩| ⟨g0,cap,cur,g,_⟩
     ·have hl:xs.length=0:=by rw [r1.1,g',Nat.zero_mul]
      have hx0:=List.eq_nil_of_length_eq_zero hl;rw [hx0] at hu;simp at hu
     ·rw [hρ] at g;injection g with g
      rw [had] at g;obtain rfl:=Zz9 g;exact r1.cells (g:=g0) (by rw [hρ,had];rfl) j u hu
    ·obtain ⟨k1,k2,k3,k4⟩:=r3 hf;exact ⟨Fs,k1,k2,fun b hb=>⟨τ,by simp,k3 b hb⟩⟩
    ·obtain rfl:=List.mem_singleton.1 hκ;exact ⟨A,hA,hdp⟩
  ·cases hs
 ·rename_i τ n lo hi W2
  split at hs
  ·rename_i A hA
   split at hs
   ·rename_i hfl;simp only [ZAb,ZAc] at hs;obtain ⟨rfl,rfl,rfl,rfl⟩:=hs;obtain ⟨hn,hW2⟩:=hq;obtain ⟨A',hA',g1,_⟩:=hx;rw [hA] at hA';obtain rfl:=Zz9 hA';obtain ⟨hm0,hm,p,c,q,hρ,hq,rfl⟩:=(g1 A rfl).2 hn;obtain ⟨p',c',hρ',g2,g3,g4⟩:=h.J0 hA;rw [hρ] at hρ';injection hρ' with e1 e2 e3
    subst e1 e3
    by_cases hcl:lo<c
    case neg=>
     have h0:((A.es.take hi).drop lo)=[]:=List.eq_nil_of_length_eq_zero (by rw [List.length_drop,List.length_take];omega);have h9:hi-lo=0:=by omega
     rw [h0,h9];exact ⟨⟨_,_,[],[],rfl,by simp,fun _=>rfl,by simp,by simp,by simp [RpE],by simp [UF],fun _=>⟨[],by simp [OwE],by simp,by simp⟩⟩,by simp⟩
    have hqe:q=if c=lo then p else p.map (·.add (lo*W2)):=by rw [if_neg (by omega),hq (.inl hcl)]
    subst hqe
    have hrp:∃F,Rp w (.sl A.es) (.slice p n c) F:=by
     rcases g4 with g4| ⟨b,vs,Fs,W',rfl,q2,q3,q4,q5⟩
     ·exact ⟨[],by simp only [Rp];exact ⟨p,c,by rw [e2],g2,g3,.inl ⟨g4,trivial⟩⟩⟩
     ·exact ⟨b::Fs,by simp only [Rp];exact ⟨_,c,by rw [e2],g2,g3,.inr ⟨b,0,vs,Fs,rfl,(h.Yg (κ:=.a τ) ⟨A,hA⟩ b q5).1,rfl,q2,q4⟩⟩⟩
    obtain ⟨F,hrp⟩:=hrp;obtain ⟨F',hc,_⟩:=hrp.cut hW2 (l:=lo) (hh:=hi) (by omega) (by omega)
    have hff:VI ((A.es.take hi).drop lo)=true:=by
     simp only [VI,List.all_eq_true] at hfl ⊢;exact fun z hz=>hfl z (List.mem_of_mem_take (List.mem_of_mem_drop hz))
    have hly:((A.es.take hi).drop lo).length=hi-lo:=by rw [List.length_drop,List.length_take];omega
    simp only [Rp] at hc;obtain ⟨A2,c2,k3,k4,k5,⟨k6,k7⟩| ⟨b,off,xs,Fs,k1,k2,k8,k9,k10⟩⟩:=hc
    ·rw [k6] at hly ⊢;rw [<-hly];exact ⟨⟨_,_,[],[],rfl,by simp,fun _=>rfl,by simp,by simp,by simp [RpE],by simp [UF],fun _=>⟨[],by simp [OwE],by simp,by simp⟩⟩,by simp⟩
    ·subst k1;obtain ⟨rfl,o⟩:=k10.flat (N:=N) hff;refine ⟨⟨_,c2,xs,[],k3,by rw [k10.len,ZN hW],by simp,fun ad had j u hu=> ?_,k10.one,k10,by simp [UF],fun _=>⟨[],o,by simp,by simp⟩⟩,by simp⟩;obtain rfl:=Zz9 had;rw [Addr.add_lit];exact k9 j u hu
   ·cases hs
  ·cases hs
 ·cases hs
end
section
variable {e:Env} {O:St} {w:World} {N:Nat->Prop} {w0:Bs} {a:Act} {P:Program}
theorem ZkY {us:List (Nat×Value)} {n:Nat} (h:us.map (·.1)=List.range n):us=(us.map (·.2)).zipIdx.map fun p=>(p.2,p.1):=by
 apply List.ext_getElem?;intro j;rw [List.getElem?_map,List.getElem?_zipIdx,List.getElem?_map];cases hj:us[j]? with
 | none=>simp
 | some p=>
  have h2:(us.map (·.1))[j]? =some p.1:=by rw [List.getElem?_map,hj];rfl
  rw [h,List.getElem?_range (by
   have:=(List.getElem?_eq_some_iff.1 hj).1;have hl:=congrArg List.length h;simp at hl;omega)] at h2
  have h3:=Zz9 h2;simp [h3]
theorem Zg4 (h:Zz N w0 e O a w) {d:Nat} {t len:Nat} {ps:Array (Nat×Operand)} {f:Eff} (hv:XW P O (some d) (.buildSlice t len ps)=some f) (hs:f.side):
  ∃u w' e',(Instr.buildSlice t len (ps.map fun (i,x)=>(i,a.eval x))).run P w= .ok u w'/\Zz N w0 e' (O.app f) (a.put (some d) u) w':=by
 simp only [XW] at hv
 split at hv
 ·rename_i d' et _ _ _ vs hd' hi hps;obtain rfl:=Zz9 hd';have ht:=XY hi
  split at hv
  ·rename_i ei css hei hce
   split at hv
   ·rename_i es fr τs q hab
    split at hv
    ·rename_i hc;obtain ⟨hd,hr,hw,hnd,h24,hlen,hz,hn⟩:=hc;obtain rfl:=Zz9 hv;obtain ⟨hs,hdp⟩:=hs;obtain ⟨q1,q2⟩:=ZdG h hps;have hidx:(ps.toList.map fun x=>(x.1,a.eval x.2)).map (·.1)=List.range len:=q1.trans hr;have hl:vs.length=len:=by have:=congrArg List.length hr;simpa using this
     have hul:(ps.toList.map fun x=>(x.1,a.eval x.2)).length=len:=by have:=congrArg List.length hidx;simpa using this
     have hrel:∀(j:Nat) p u,vs[j]? =some p->((ps.toList.map fun x=>(x.1,a.eval x.2)).map (·.2))[j]? =some u->p.2.rel e O w u:=by
      intro j p u hp hu;rw [List.getElem?_map] at hu;obtain ⟨r,hr1,rfl⟩:=Option.map_eq_some_iff.1 hu;exact q2 j p r hp hr1
     obtain ⟨c1,c2⟩:=Zju h hce (us:=(ps.toList.map fun x=>(x.1,a.eval x.2)).map (·.2)) (by rw [hl,List.length_map,hul]) hrel;obtain ⟨k1,k2,k3,k4⟩:=Zop h c1 hab hs
     have hw':∀c∈css,c.length=ei.size:=by
      intro c hc;rw [List.all_eq_true] at hw
      simpa using hw c hc
     have hsz:∀u∈(ps.toList.map fun x=>(x.1,a.eval x.2)).map (·.2),u.cells.size=ei.size:=by
      intro u hu;have:u.cells.size∈css.map List.length:=by rw [<-c2];exact List.mem_map.2 ⟨u,hu,rfl⟩
      obtain ⟨c,hc1,hc2⟩:=List.mem_map.1 this;rw [<-hc2];exact hw' c hc1
     have hel:es.length=len:=by
      have h1:=congrArg List.length k4;have h2:=congrArg List.length c2;simp at h1 h2;rw [h1,<-h2]
      simpa using hul
     have hW:∀z∈es,z.length=ei.size:=by
      intro z hz';have:z.length∈css.map List.length:=by rw [<-k4];exact List.mem_map.2 ⟨z,hz',rfl⟩
      obtain ⟨c,hc1,hc2⟩:=List.mem_map.1 this;rw [<-hc2];exact hw' c hc1
     obtain ⟨zv,z1,z2⟩:=ZjB hei w;have zsz:zv.cells.size=ei.size:=by rw [<-hz,<-z2];simp
     have hlenu:((ps.toList.map fun x=>(x.1,a.eval x.2)).map (·.2)).length=len:=by rw [List.length_map,hul]
     have fin:∀cells:Array Value,cells.size=len*ei.size->∃cur,Instr.fill (fun i=>some (i*ei.size,ei.size)) cells (ps.map fun (i,x)=>(i,a.eval x)).toList=some cur/\cur.toList=((ps.toList.map fun x=>(x.1,a.eval x.2)).map (·.2)).flatMap (fun u=>u.cells.toList)/\cur.size=es.length*ei.size:=by
      intro cells hcs;obtain ⟨cur,f1,f2⟩:=Zn3 (W:=ei.size) ((ps.toList.map fun x=>(x.1,a.eval x.2)).map (·.2)) 0 cells hsz (by rw [Nat.zero_add,hlenu,hcs];exact ZAe _);refine ⟨cur, ?_, ?_, ?_⟩
      ·have:(ps.map fun (i,x)=>(i,a.eval x)).toList=ps.toList.map fun x=>(x.1,a.eval x.2):=by simp
       rw [this,ZkY hidx];exact f1
      ·rw [f2,Nat.zero_mul,List.take_zero,List.nil_append,Nat.zero_add,hlenu,List.drop_eq_nil_of_le (by simp [hcs]),List.append_nil]
      ·rw [<-Array.length_toList,f2,Nat.zero_mul,List.take_zero,List.nil_append,Nat.zero_add,hlenu,List.drop_eq_nil_of_le (by simp [hcs]),List.append_nil];have:=RpE.len k1.choose_spec.1;rw [this,ZN hW]
     have hn':O.ar.lookup (64*d)=none:=by simpa using hn
     have key:∀cur:Array Value,cur.toList=((ps.toList.map fun x=>(x.1,a.eval x.2)).map (·.2)).flatMap (fun u=>u.cells.toList)->cur.size=es.length*ei.size->
       ∃e',Zz N w0 e' (stA O ((d,.one (.own (64*d) es.length))::O.tm) (64*d) ⟨fr,es⟩ τs) (a.put (some d) (.slice (some ⟨w.heap.size,0,none⟩) len len)) (w.alloc (.cells cur et)):=by
      intro cur hcur hcs;have:=h.Zsn (d:=d) hd hdp hn' (es:=es) (f:=fr) (τs:=τs) (us:=cur) (W:=ei.size) et (by rw [hcur];exact k1) (by rw [hcur];exact k2) k3 (fun _=>hnd) hW (by rw [hel];omega) hcs;rw [hel] at this ⊢;exact ⟨_,this⟩
     by_cases h0:len*ei.size=0
     ·obtain ⟨cur,f1,f2,f3⟩:=fin ((Array.range (len*ei.size)).map ((#[]:Array Value)[· %(#[]:Array Value).size]!)) (by simp);obtain ⟨e',he'⟩:=key cur f2 f3;refine ⟨_,_,e', ?_,he'⟩;simp only [Instr.buildSlice,Sem.run_bind,run_underlying ht,Result.andThen_ok,YC hei];have h24':¬(len*ei.size>2^24):=by omega
      rw [if_neg h24',if_pos h0];simp only [Sem.run_pure,Sem.run_bind,Result.andThen_ok,f1,newRow,run_newObj]
      rfl
     ·obtain ⟨cur,f1,f2,f3⟩:=fin ((Array.range (len*ei.size)).map (zv.cells[· %zv.cells.size]!)) (by simp);obtain ⟨e',he'⟩:=key cur f2 f3;refine ⟨_,_,e', ?_,he'⟩;simp only [Instr.buildSlice,Sem.run_bind,run_underlying ht,Result.andThen_ok,YC hei];have h24':¬(len*ei.size>2^24):=by omega
      simp only [h24',if_false,h0,Sem.run_pure,Sem.run_bind,z1,Result.andThen_ok,f1,newRow,run_newObj]
      rfl
    ·cases hv
   ·cases hv
  ·cases hv
 ·cases hv
theorem ZaA {z:List L} {vs:List Value} (h:OwL N w z vs []):∀n,OwE N w (List.replicate n z) (List.replicate n vs).flatten []
 | 0=>by simp [OwE]
 | n+1=>by
  simp only [List.replicate_succ,List.flatten_cons,OwE];exact ⟨vs,_,[],[],rfl,rfl,h,ZaA h n⟩
theorem ZkD (z:Array Value) (n:Nat):((Array.range (n*z.size)).map (z[· %z.size]!)).toList=(List.replicate n z.toList).flatten:=by
 apply List.ext_getElem?;intro j;have hlen:((List.replicate n z.toList).flatten).length=n*z.size:=by simp
 by_cases hj:j<n*z.size
 ·have e1:((Array.range (n*z.size)).map (z[· %z.size]!)).toList[j]? =some (z[j%z.size]!):=by simp [hj]
  rw [e1];clear e1
  induction n generalizing j with
  | zero=>simp at hj
  | succ n ih=>
   rw [List.replicate_succ,List.flatten_cons]
   by_cases hj':j<z.size
   ·rw [List.getElem?_append_left (by simpa using hj'),Nat.mod_eq_of_lt hj'];simp [hj']
   ·rw [List.getElem?_append_right (by simpa using hj'),Array.length_toList,<-ih (j-z.size) (by simp) (by rw [Nat.add_mul] at hj;omega)];rw [Nat.mod_eq_sub_mod (by omega)]
 ·rw [List.getElem?_eq_none (by simp;omega),List.getElem?_eq_none (by rw [hlen];omega)]
theorem ZhS (h:Zz N w0 e O a w) {d:Nat} {t:Nat} {l c:Operand} {f:Eff} (hv:XW P O (some d) (.makeSlice t l c)=some f) (hs:f.side):
  ∃u w' e',(Instr.makeSlice t (a.eval l) (a.eval c)).run P w= .ok u w'/\Zz N w0 e' (O.app f) (a.put (some d) u) w':=by
 simp only [XW] at hv
 split at hv
 ·rename_i d' et _ _ _ k n k' m hd' hi hl hc;obtain rfl:=Zz9 hd';have ht:=XY hi
  split at hv
  ·rename_i ei hei
   split at hv
   ·rename_i z hz
    split at hv
    ·rename_i hcnd;obtain ⟨hd,hzl,hpos,hn⟩:=hcnd;obtain rfl:=Zz9 hv;obtain ⟨rfl,s1,s2,s3,hdp⟩:=hs;obtain ⟨g1,_⟩:=Ze5 h hl;obtain ⟨g2,_⟩:=Ze5 h hc;obtain ⟨n,rfl⟩:=Int.eq_ofNat_of_zero_le s1;obtain ⟨o1,o2⟩:=JF (N:=N) (w:=w) hz;obtain ⟨zv,z1,z2⟩:=ZjB hei w;have zsz:zv.cells.size=ei.size:=by rw [<-hzl,<-z2];simp
     have hsz:(n:Int)<=9223372036854775807:=s2;have hn':O.ar.lookup (64*d)=none:=by simpa using hn
     have hcl:=ZkD zv.cells n;rw [z2,zsz] at hcl
     have hsim:=h.Zsn (d:=d) (τ:=64*d) hd hdp hn' (es:=List.replicate n z) (f:=true) (τs:=[]) (us:=(Array.range (n*ei.size)).map (zv.cells[· %ei.size]!)) (W:=ei.size) et
      (by rw [hcl];exact ⟨[],(ZaA o1 n).rp,by simp [UF]⟩) (fun _=>by rw [hcl];exact ZaA o1 n) (by simp) (fun _=>by simp) (fun x hx=>by rw [List.eq_of_mem_replicate hx,o2,hzl]) (by simp;omega) (by simp)
     simp only [List.length_replicate] at hsim;refine ⟨.slice (some ⟨w.heap.size,0,none⟩) n n,w.alloc (.cells ((Array.range (n*ei.size)).map (zv.cells[· %ei.size]!)) et),_, ?_,hsim⟩;obtain ⟨j,dd,zz,j1,j2,j3,j4,j5,j6,j7⟩:=WU hei;have hw64:IntKind.i64.wrap (n:Int)=n:=IntWalk.i64_in _ ⟨by omega,hsz⟩;have c1:¬((n:Int)<0):=by omega
     have c2:¬((ei.bytes:Int)*n>281474976710656):=by omega
     have zc:(zeroValue et).run P w= .ok zv w:=z1;rw [g1,g2]
     by_cases hn0:n*ei.size=0
     ·have:n=0:=by
       rcases Nat.mul_eq_zero.1 hn0 with q| q
       ·exact q
       ·omega
      subst this;have hw0:IntKind.i64.wrap 0=0:=by decide
      simp [Instr.makeSlice,run_underlying ht,asInt,asIntOf,typeInfo,j1,j6,sizeOf,newRow,hw0]
      congr 2
      apply Array.ext<;>simp
     ·simp only [Instr.makeSlice,run_underlying ht,asInt,asIntOf,typeInfo,j1,j6,Sem.run_bind,Sem.run_pure,Result.andThen_ok,run_program,hw64,YC hei,run_askRoom,Int.toNat_natCast,hn0,if_false,zc,zsz,newRow,run_newObj];simp [c1,c2,YC hei,hn0,zc,zsz]
    ·cases hv
   ·cases hv
  ·cases hv
 ·cases hv
end
section
variable {e:Env} {O:St} {w:World} {N:Nat->Prop} {w0:Bs} {a:Act} {P:Program}
def ZyT (P:Program) (N:Nat->Prop) (w0:Bs) (o:Oper) (a:Act) (w:World) (O':St):Prop:= ∃w' e',(∃u,(execOp a.eval o).run P w= .ok (.value u) w'/\Zz N w0 e' O' (a.put o.dst u) w')\/((execOp a.eval o).run P w= .ok .skip w'/\Zz N w0 e' O' (a.put o.dst undef) w')
theorem Zkz {ρ:Operand->Value} {o:Oper} {s:Sem Value} {u:Value} {w':World} (h:execOp ρ o=(do pure (.value (<-s)):Sem Next)) (hr:s.run P w= .ok u w'):(execOp ρ o).run P w= .ok (.value u) w':=by
 rw [h,Sem.run_bind,hr];rfl
theorem Zms (h:Zz N w0 e O a w) {t:Nat} {p v:Operand} {f:Eff} (hv:XW P O none (.store t p v)=some f) (hs:f.side):
  ∃w' e',(Instr.storeAt t (a.eval p) (a.eval v)).run P w= .ok () w'/\Zz N w0 e' (O.app f) a w':=by
 simp only [XW] at hv
 split at hv
 ·rename_i i x _ hi hx
  split at hv
  ·rename_i new hnew;have hr:=(Zv h hx).cellsL hnew
   split at hv
   ·rename_i hsz;have hlen:(a.eval v).cells.size=i.size:=by rw [<-hsz,<-hr.len];simp
    have sv:∀(ad:Addr) w',(storeCells ad (a.eval v).cells.toList).run P w= .ok () w'->(storeVar t ad (a.eval v)).run P w= .ok () w':=by
     intro ad w' hst;simp [storeVar,YC hi,hlen,hst]
    split at hv
    ·rename_i k off hp;obtain ⟨_,he⟩:=Zv h hp
     split at hv
     ·rename_i cs hk
      split at hv
      ·rename_i hle;obtain rfl:=Zz9 hv;obtain ⟨w',k1,k2⟩:=h.Zu0 (P:=P) hk hr hle.1 hle.2;exact ⟨w',e,by simp [Instr.storeAt,Instr.sureAddr,he,sv _ _ k1],k2⟩
      ·cases hv
     ·cases hv
    ·rename_i τ n j W off hp;obtain ⟨A',hA',h1,_⟩:=Zv h hp
     split at hv
     ·rename_i A ls fr τs q hA hab
      split at hv
      ·rename_i el hel
       split at hv
       ·rename_i hc;obtain ⟨c1,c2,c3,c4,c5⟩:=hc;obtain rfl:=Zz9 hv;rw [hA] at hA';obtain rfl:=Zz9 hA';obtain ⟨b,b1,b2⟩:=(h1 A rfl).2 hs.1;obtain ⟨w',e',k1,k2⟩:=h.ZuZ (P:=P) hA hel b1 hr hab hs.2 c3 c5 (fun _=>c4) (by rw [c1];exact c2);rw [c1] at k1;exact ⟨w',e',by simp [Instr.storeAt,Instr.sureAddr,b2,sv _ _ k1],k2⟩
       ·cases hv
      ·cases hv
     ·cases hv
    ·rename_i τ j W off n hp;obtain ⟨A',hA',h1,_⟩:=Zv h hp
     split at hv
     ·rename_i A x hA
      split at hv
      ·rename_i el hel
       split at hv
       ·rename_i ys hys
        split at hv
        ·rename_i hc;obtain ⟨c1,rfl,c3⟩:=hc;obtain rfl:=Zz9 hv;obtain ⟨s1,s2,s3⟩:=hs;rw [hA] at hA';obtain rfl:=Zz9 hA';obtain ⟨hd,b,cur,t',b',m,c,r1,r2,r3,r4⟩:=h1 A rfl;simp only [Z6] at hr;obtain ⟨u,us,hu,⟨F,hx',_⟩,rfl⟩:=hr;obtain ⟨w',k1,k2⟩:=h.Zmw (P:=P) hA hd c1 hel hys s2 s3 s1 r1 r2 r3 hx' c3;exact ⟨w',e,by simp [Instr.storeAt,Instr.sureAddr,r4,sv _ _ (by rw [hu];exact k1)],k2⟩
        ·cases hv
       ·cases hv
      ·cases hv
     ·cases hv
    ·cases hv
   ·cases hv
  ·cases hv
 ·cases hv
theorem ZcE (h:Zz N w0 e O a w) {xv:V} {x:Value} (hx:xv.rel e O w x) {ei:TI} {t t' et:Nat} {ys:List (List L)} {f:Bool} {τs:List Nat} {q:Prop} (hs:ZnA P O ei t t' xv=some (ys,f,τs,q)) (hq:q) (hW:∀z∈ys,z.length=ei.size) (ht:P.underlying t=some (.slice et)):ZsK P t' N e O w x ys ei.size f τs:=by
 unfold ZnA at hs
 split at hs
 ·rename_i he;subst he;exact (Zi6 h hx hs hq hW).toA ht
 ·split at hs
  ·rename_i s hi;simp only [ZAb,ZAc] at hs;obtain ⟨rfl,rfl,rfl,rfl⟩:=hs;obtain ⟨F,h1,_⟩:=hx;simp only [Rp] at h1;rw [h1.1,hq];exact .ofString (ZeC hi) s
  ·cases hs
theorem Zl9 (h:Zz N w0 e O a w) {d:Nat} {xs:Array Operand} {ts:Array Nat} {f:Eff} (hv:XW P O (some d) (.call { callee:=.builtin .append,args:=xs,argTypes:=ts})=some f) (hs:f.side) (ty:Nat):
  ∃u w' e',(Builtin.append_ ts ty (xs.map a.eval)).run P w= .ok u w'/\Zz N w0 e' (O.app f) (a.put (some d) u) w':=by
 simp only [XW] at hv
 split at hv
 ·rename_i d' s x t t' hd' hxs hts;obtain rfl:=Zz9 hd';have hxs':xs= #[s,x]:=by rw [<-Array.toList_inj];exact hxs
  have hts':ts= #[t,t']:=by rw [<-Array.toList_inj];exact hts
  subst hxs' hts'
  split at hv
  ·rename_i hd
   split at hv
   ·rename_i et _ _ _ sv xv hi hsv hxv;have ht:=XY hi
    split at hv
    ·cases hv
    rename_i ei hei
    split at hv
    ·rename_i ys fr τs q hsrc
     split at hv
     ·rename_i hz;have rx:=Zv h hxv;have rs:=Zv h hsv
      split at hv
      ·split at hv
       ·rename_i hn;obtain rfl:=Zz9 hv;obtain ⟨s1,s0,s2,s3,s4⟩:=hs;have hn':O.ar.lookup (64*d)=none:=by simpa using hn
        have src:=ZcE h rx hsrc s1 s2 ht;have hτ:64*d∉τs:=fun hm=>by obtain ⟨B,hB,_⟩:=src.lv _ hm;rw [hn'] at hB;cases hB
        have hsv':a.eval s= .slice none 0 0:=rs;obtain ⟨v',w',e',k1,k2⟩:=h.Zon (P:=P) (ty:=ty) hd (A0:=⟨true,[]⟩) (.inr ⟨hn',hsv',rfl⟩) src hτ s0 ht hei rfl hz (by simpa using s2) (by simpa using s3) (by simpa using s4);refine ⟨v',w',e',by simpa using k1, ?_⟩;simp only [List.length_nil,Nat.zero_add,List.nil_append,Bool.true_and] at k2;exact k2
       ·cases hv
      ·rename_i τ n
       split at hv
       ·rename_i A hA
        split at hv
        ·rename_i hτ;obtain ⟨hτ,hdp⟩:=hτ;obtain rfl:=Zz9 hv;obtain ⟨s1,rfl,s3,s4,s5,s6⟩:=hs;have src:=ZcE h rx hsrc s1 s4 ht;obtain ⟨A',hA',h1,_⟩:=rs;rw [hA] at hA';obtain rfl:=Zz9 hA';have hsv':=(h1 A rfl).2 rfl;obtain ⟨v',w',e',k1,k2⟩:=h.Zon (P:=P) (ty:=ty) hd (A0:=A) (.inl ⟨hA,hsv'⟩) src hτ hdp ht hei rfl hz (fun z hz'=>by rcases List.mem_append.1 hz' with q| q;exact s3 z q;exact s4 z q) s5 s6;exact ⟨v',w',e',by simpa using k1,k2⟩
        ·cases hv
       ·cases hv
      ·rename_i τ n lo m W2
       split at hv
       ·rename_i A hA
        split at hv
        ·rename_i hc;obtain ⟨rfl,hτ,hdp,hn⟩:=hc;obtain rfl:=Zz9 hv;obtain ⟨s1,s2,s0,s3,s4,s5,s6,s7⟩:=hs;have src:=ZcE h rx hsrc s1 s5 ht;obtain ⟨v',w',e',k1,k2⟩:=h.Zpc (P:=P) (ty:=ty) hd hA rs s2 (by simpa using hn) hdp src hτ s0 s3 ht hei rfl hz s4 s5 s6 s7;exact ⟨v',w',e',by simpa using k1,k2⟩
        ·cases hv
       ·cases hv
      ·cases hv
     ·cases hv
    ·cases hv
   ·cases hv
  ·cases hv
 ·cases hv
theorem ZoY (h:Zz N w0 e O a w) {d:Nat} {xs:Array Operand} {ts:Array Nat} {f:Eff} (hv:XW P O (some d) (.call { callee:=.builtin .copy,args:=xs,argTypes:=ts})=some f) (hs:f.side) (ty:Nat):
  ∃u w' e',(Builtin.copy_ ts ty (xs.map a.eval)).run P w= .ok u w'/\Zz N w0 e' (O.app f) (a.put (some d) u) w':=by
 simp only [XW] at hv
 split at hv
 ·rename_i d' s x t t' hd' hxs hts;obtain rfl:=Zz9 hd';have hxs':xs= #[s,x]:=by rw [<-Array.toList_inj];exact hxs
  have hts':ts= #[t,t']:=by rw [<-Array.toList_inj];exact hts
  subst hxs' hts'
  split at hv
  ·rename_i hd
   split at hv
   ·rename_i et _ _ _ τ n xv hi hsv hxv;have ht:=XY hi
    split at hv
    ·rename_i ei A ys q hei hA hsrc
     split at hv
     ·rename_i hdp;obtain rfl:=Zz9 hv;obtain ⟨s1,rfl,s2,s3,hWA,hWy⟩:=hs;have rx:=Zv h hxv;have rs:=Zv h hsv;have src:=Zi6 h rx hsrc s1 hWy;obtain ⟨A',hA',h1,_⟩:=rs;rw [hA] at hA';obtain rfl:=Zz9 hA';have hsv':a.eval s=e.ρ τ:=(h1 A rfl).2 rfl;obtain ⟨Ax,c,us,Fx,hx,hul,hAx,hnews,h1x,hrx,hgx,hox⟩:=src.ex;obtain ⟨G,hO,hGn,hGsub⟩:=hox rfl;obtain rfl:G=[]:=List.eq_nil_iff_forall_not_mem.2 fun b hb=>by obtain ⟨κ,hκ,_⟩:=hGsub b hb;simp at hκ
      obtain ⟨m,hm⟩:∃m,m=min ys.length A.es.length:=⟨_,rfl⟩
      have hes:over A.es ys=ys.take m++A.es.drop m:=by
       unfold over;rw [hm]
       by_cases hle:ys.length<=A.es.length
       ·rw [Nat.min_eq_left hle,List.take_of_length_le hle,List.take_length]
       ·rw [Nat.min_eq_right (by omega),List.drop_of_length_le (by omega:A.es.length<=ys.length),List.drop_length]
      have hmy:m<=ys.length:=by omega
      have hmA:m<=A.es.length:=by omega
      have hcl:(us.take (m*ei.size)).length=m*ei.size:=by
       rw [List.length_take,hul];exact Nat.min_eq_left (Nat.mul_le_mul_right _ hmy)
      have hcells:(Builtin.firstCells ei.size m (a.eval x)).run P w= .ok (us.take (m*ei.size)).toArray w:=by
       rw [hx];cases hAx':Ax with
       | none=>
        have h0:ys.length=0:=hAx hAx';have hm0:m=0:=by omega
        simp [Builtin.firstCells,hm0]
       | some ad=>
        simp only [Builtin.firstCells]
        have:=run_loadCells_list (P:=P) w ad (us.take (m*ei.size)) (fun j v hj=>hnews ad hAx' j v (by
         rw [List.getElem?_take] at hj
         split at hj
         ·exact hj
         ·cases hj))
        rw [hcl] at this;exact this
      have hsize:(sizeOf et).run P w= .ok ei.size w:=by rw [YC hei]
      have hgi:∀{n:Nat},n<=9223372036854775807->goInt n= .int .i64 n:=fun {n} hn=>by
       rfl
      have inI:InK .i64 ((m:Nat):Int):=IntWalk.i64_in _ ⟨by omega,by omega⟩;have hmm:m=ys.length.min A.es.length:=hm
      have htm:∀t x,(((d,V.one (.l (.int .i64 (m:Nat))))::O.tm).lookup t=some x)->(O.tm.lookup t=some x/\(a.put (some d) (goInt m)).tmps.getD t undef=a.tmps.getD t undef)\/∃k n,x= .one (.l (.int k n))/\InK k n/\(a.put (some d) (goInt m)).tmps.getD t undef= .int k n:=by
       intro t x ht;rw [lookup_cons] at ht
       split at ht
       ·rename_i htd;subst htd;obtain rfl:=Zz9 ht;refine .inr ⟨_,_,rfl,inI, ?_⟩;rw [Zcr _ _ _ (by rw [h.nt];exact hd),hgi (by omega)]
       ·rename_i htd;exact .inl ⟨ht,ZfA _ _ _ _ htd⟩
      have hnt:(a.put (some d) (goInt m)).tmps.size=O.nt:=by rw [Z8];exact h.nt
      have hdf:(a.put (some d) (goInt m)).defers=[]:=by rw [ZP];exact h.df
      have hst:(O.app ⟨(q/\A.es.length=A.es.length/\ys.length<=9223372036854775807/\A.es.length<=9223372036854775807/\(∀z∈A.es,z.length=ei.size)/\∀z∈ys,z.length=ei.size),[(d,.one (.l (.int .i64 (min ys.length A.es.length:Nat))))],[],[(τ,some ⟨A.fr,over A.es ys⟩)]⟩)=stA O ((d,V.one (.l (.int .i64 (m:Nat))))::O.tm) τ ⟨A.fr&&true,ys.take m++A.es.drop m⟩ []:=by
       simp only [St.app,stA,hes,<-hm,Bool.and_true,List.map_nil,List.nil_append,List.cons_append]
      rw [hst];have hlen:(ys.take m++A.es.drop m).length=A.es.length:=by simp;omega
      have hW':∀z∈ys.take m++A.es.drop m,z.length=ei.size:=fun z hz=>by
       rcases List.mem_append.1 hz with hz| hz
       ·exact hWy z (List.mem_of_mem_take hz)
       ·exact hWA z (List.mem_of_mem_drop hz)
      obtain ⟨v1,v2,G1,G2,rfl,_,o1,o2⟩:=(OwE.split (xs:=ys.take m) (ys:=ys.drop m) (by rw [List.take_append_drop];exact hO));have e1:v1.length=m*ei.size:=by rw [o1.rp.len,ZN (fun z hz=>hWy z (List.mem_of_mem_take hz)),List.length_take,Nat.min_eq_left hmy]
      have ev:(v1++v2).take (m*ei.size)=v1:=by rw [<-e1,List.take_left]
      rw [ev] at hcells hcl;obtain ⟨p',cc,hρ,hcc,hnil| ⟨b,te,cur,Fs,W,rfl,hN,hh,hnc,hcs,hWs,hc0,hrest⟩⟩:=h.ar τ A hA
      ·obtain ⟨hn0,hp0,hc0',hφ⟩:=hnil;have hm0:m=0:=by rw [hm,hn0];simp
       subst hm0;have hv0:v1=[]:=List.eq_nil_of_length_eq_zero (by simpa using e1);subst hv0;refine ⟨goInt (0:Nat),w,_, ?_,h.ZnG (row:=none) (τs:=[]) (v':=e.ρ τ) (F':=e.φ τ) hdp (by simp) (by simp) (World.grownBy.refl _ _) (by simp) (fun A' hA'=> ?_) (fun b hb=>by rw [hρ,hp0] at hb;simp [Value.ownBlock] at hb) (fun b hb=>.inl ⟨A,hA,hb⟩) ⟨p',cc,by rw [hρ,hlen],hcc,.inl ⟨by simp [hn0],hp0,hc0',hφ⟩⟩ hnt hdf (fun u t x ht=> ?_)⟩
       ·simp [Builtin.copy_,run_underlying ht,Builtin.lenOf,hsv',hρ,hx,<-hmm,hsize,hcells,hp0];rw [<-hx,hcells];simp
       ·rw [hA] at hA';obtain rfl:=Zz9 hA';exact ⟨A,rfl,by rw [hlen];exact ZAe _,fun _=>rfl⟩
       ·rcases htm t x ht with q| ⟨k',n,rfl,q1,q2⟩
        ·exact .inl q
        ·rw [q2];exact .inr (WH q1)
      ·obtain ⟨w',e',k1,k2⟩:=h.inPlace (P:=P) hA (W:=ei.size) hWA (g:=b) (by rw [hρ];rfl) (es':=ys.take m++A.es.drop m) (f:=true) (τs:=[]) (k:=0) (us:=v1) (by simp) (by simp) hdp hlen hW' (by rw [e1,Nat.zero_add];exact Nat.mul_le_mul_right _ hmA) o1.rp.one
        (fun xs Fs' hx' hFs' hxl=>by
         rw [<-List.take_append_drop m A.es] at hx';obtain ⟨u1,u2,F1,F2,rfl,rfl,g1,g2⟩:=hx'.split;have l1:u1.length=m*ei.size:=by rw [g1.len,ZN (fun z hz=>hWA z (List.mem_of_mem_take hz)),List.length_take,Nat.min_eq_left hmA]
         refine ⟨[]++F2, ?_,fun b hb=>.inl (hFs' b (by simp at hb ⊢;exact .inr hb))⟩;rw [List.take_zero,List.nil_append,Nat.zero_add,e1,<-l1,List.drop_left];have o1':=o1.rp
         have:G1=[]:=by
          have:=(‹[]=G1++G2›);simp at this;exact this.1
         rw [this] at o1';exact o1'.append g2)
        (fun hf _ xs Fs' hx' hnd hsub hxl=>by
         rw [<-List.take_append_drop m A.es] at hx';obtain ⟨u1,u2,F1,F2,rfl,rfl,g1,g2⟩:=hx'.split;have l1:u1.length=m*ei.size:=by rw [g1.rp.len,ZN (fun z hz=>hWA z (List.mem_of_mem_take hz)),List.length_take,Nat.min_eq_left hmA]
         refine ⟨[]++F2, ?_, ?_,fun b hb=>.inl (by simp at hb ⊢;exact .inr hb)⟩
         ·rw [List.take_zero,List.nil_append,Nat.zero_add,e1,<-l1,List.drop_left]
          have:G1=[]:=by
           have:=(‹[]=G1++G2›);simp at this;exact this.1
          rw [this] at o1;exact o1.append g2
         ·exact hnd.sublist (by simp))
        hnt hdf htm
       refine ⟨goInt m,w',e', ?_,k2⟩;simp [Builtin.copy_,run_underlying ht,Builtin.lenOf,hsv',hρ,hx,<-hmm,hsize];rw [<-hx,hcells];simp [k1]
     ·cases hv
    ·cases hv
   ·cases hv
  ·cases hv
 ·cases hv
theorem Zz.cut (h:Zz N w0 e O a w) {τ d m:Nat} {A:Arr} (hA:O.ar.lookup τ=some (some A)) (hτ:τ<1000000) (hd:d<O.nt) (hn:O.ar.lookup (64*d)=none) (h64:64*d<1000000) (m1:1<=m) (m2:m<=A.es.length) {p:Option Addr} {c:Nat} (hv:e.ρ τ= .slice p A.es.length c):
  ∃e',Zz N w0 e' ⟨O.nt,(d,.one (.own (64*d) m))::O.tm,O.bx,(64*d,some ⟨A.fr,A.es.take m⟩)::(τ,none)::O.ar⟩ (a.put (some d) (.slice p m c)) w:=by
 have hne:τ≠64*d:=fun e'=>by rw [<-e',hA] at hn;cases hn
 have hok:=h.ar τ A hA;obtain ⟨p',c',hv',hc,⟨h0,_⟩| ⟨b,t,cur,Fs,W,rfl,h1,h2,h3,h4,h5,h6,h7⟩⟩:=hok
 ·rw [h0] at m2;simp at m2;omega
 rw [hv] at hv';injection hv' with g1 _ g3
 subst g1 g3;have hes:A.es=A.es.take m++A.es.drop m:=(List.take_append_drop m A.es).symm
 have hW:(cur.toList.take (A.es.length*W)).take (m*W)=cur.toList.take (m*W):=by
  rw [List.take_take,Nat.min_eq_left (Nat.mul_le_mul_right _ m2)]
 have cut1:∀v1 v2:List Value,cur.toList.take (A.es.length*W)=v1++v2->v1.length=m*W->cur.toList.take ((A.es.take m).length*W)=v1:=fun v1 v2 e1 e2=>by
  rw [List.length_take,Nat.min_eq_left m2,<-hW,e1,<-e2,List.take_left]
 have hwd:∀z∈A.es.take m,z.length=W:=fun z hz=>h5 z (List.mem_of_mem_take hz);have hwl:width (A.es.take m)=m*W:=by rw [ZN hwd,List.length_take,Nat.min_eq_left m2]
 obtain ⟨F',hF',hnew⟩:∃F':List Nat,(∀x∈F',x∈e.φ τ)/\∀M:Nat->Prop,(∀x,M x->Mut e O x)->VJ N M w ⟨A.fr,A.es.take m⟩ (.slice (some ⟨b,0,none⟩) m c) F':=by
  have hlen:(A.es.take m).length=m:=by rw [List.length_take,Nat.min_eq_left m2]
  have hnil:A.es.take m=[]->c=0:=fun e1=>by
   have:=congrArg List.length e1;rw [hlen] at this;simp at this;omega
  rcases h7 with ⟨k1,k2,k3,k4⟩| ⟨k1,k2,k3,k4⟩
  ·rw [hes] at k4;obtain ⟨v1,v2,F1,F2,e1,rfl,g1,g2⟩:=k4.split;rw [<-hes] at e1;have e2:v1.length=m*W:=by rw [g1.len,hwl]
   refine ⟨b::F1,fun x hx=>by rw [k2];exact (List.mem_cons.1 hx).elim (fun g=>g▸List.mem_cons_self ..) (fun g=>List.mem_cons_of_mem _ (List.mem_append_left _ g)),fun M hM=>⟨_,c,by simp only [hlen],hc,.inr ⟨b,t,cur,F1,W,rfl,h1,h2,by simp only [hlen];omega,h4,hwd,hnil,.inl ⟨k1,rfl, ?_,by rw [cut1 v1 v2 e1 e2];exact g1⟩⟩⟩⟩;rw [k2] at k3;exact k3.sublist (by simp)
  ·rw [hes] at k3;obtain ⟨v1,v2,F1,F2,e1,rfl,g1,g2⟩:=k3.split;rw [<-hes] at e1;have e2:v1.length=m*W:=by rw [g1.len,hwl]
   exact ⟨[b],fun x hx=>by rw [k2];exact hx,fun M hM=>⟨_,c,by simp only [hlen],hc,.inr ⟨b,t,cur,F1,W,rfl,h1,h2,by simp only [hlen];omega,h4,hwd,hnil,.inr ⟨k1,rfl,by rw [cut1 v1 v2 e1 e2];exact g1,fun x hx hm=>k4 x (by simp [hx]) (hM x hm)⟩⟩⟩⟩
 let e':Env:=⟨e.β,fun κ=>if κ=64*d then .slice (some ⟨b,0,none⟩) m c else e.ρ κ,fun κ=>if κ=64*d then F' else e.φ κ,e.bad⟩
 have hlook:∀κ B,((64*d,some (⟨A.fr,A.es.take m⟩:Arr))::(τ,none)::O.ar).lookup κ=some (some B)->(κ=64*d/\B=⟨A.fr,A.es.take m⟩)\/(κ≠64*d/\κ≠τ/\O.ar.lookup κ=some (some B)):=fun κ B hB=>by
  rw [lookup_cons] at hB
  split at hB
  ·rename_i hk;exact .inl ⟨hk,(Zz9 (Zz9 hB)).symm⟩
  ·rename_i hk;rw [lookup_cons] at hB
   split at hB
   ·cases hB
   ·rename_i hk2;exact .inr ⟨hk,hk2,hB⟩
 have hmu:∀x,Mut e' ⟨O.nt,(d,.one (.own (64*d) m))::O.tm,O.bx,(64*d,some ⟨A.fr,A.es.take m⟩)::(τ,none)::O.ar⟩ x->Mut e O x:=fun x hm=>by
  rcases hm with h0| ⟨k,cs,q1,q2⟩| ⟨κ,B,q1,q2⟩
  ·exact .inl h0
  ·exact .inr (.inl ⟨k,cs,q1,q2⟩)
  ·rcases hlook κ B q1 with ⟨rfl,rfl⟩| ⟨g1,_,g2⟩
   ·simp only [e',if_true] at q2;exact .inr (.inr ⟨τ,A,hA,by rw [hv];exact q2⟩)
   ·simp only [e',if_neg g1] at q2;exact .inr (.inr ⟨κ,B,g2,q2⟩)
 have u:Up e O w e' ⟨O.nt,(d,.one (.own (64*d) m))::O.tm,O.bx,(64*d,some ⟨A.fr,A.es.take m⟩)::(τ,none)::O.ar⟩ w:=by
  refine ⟨ZAe _,fun _ _ _=>rfl,fun x _ hm=>hmu x hm,fun k cs hk=>⟨⟨cs,hk⟩,rfl⟩,fun κ B hB=> ?_,fun κ hκ _ _=>⟨by simp [e',show κ≠64*d by omega],fun _ _=>rfl⟩⟩;have hk:κ≠64*d:=fun e1=>by rw [e1,hn] at hB;cases hB
  simp only [lookup_cons,if_neg hk]
  by_cases hk2:κ=τ
  ·rw [if_pos hk2];exact ⟨none,rfl,fun _ hb=>by cases hb⟩
  ·rw [if_neg hk2];exact ⟨B,hB,fun C hC=>⟨C,hC,ZAe _,fun _=>by simp [e',hk]⟩⟩
 refine ⟨e',h.Zox u (fun κ=>κ= .a (64*d)) (by rw [Z8];exact h.nt) (by rw [ZP];exact h.df) (Kp (by rw [h.nt];exact hd) ?_) (fun k cs hk _=>⟨hk,rfl⟩) (fun κ B hB hK=> ?_) (fun k cs _ hK=>by cases hK) (fun κ B hB hK=> ?_) (fun κ hl hK x hx=> ?_) (fun κ κ' _ _ hne' q1 q2=>absurd (q1.trans q2.symm) hne') h.fr (fun _ h=>h) (fun _ h=>.inl h) (fun κ _ hK hdp=> ?_) (fun k cs _ hK _=>by cases hK) (fun κ b2 _ hK hb=>by
  subst hK;rcases hb with hb| ⟨hb,_⟩
  ·simp only [e',if_true] at hb;exact h.tp (.a τ) b2 ⟨A,hA⟩ (.inl (by rw [hv];exact hb))
  ·omega)⟩
 ·refine ⟨some ⟨A.fr,A.es.take m⟩,by simp,fun B hB=> ?_,_,c,rfl,by omega⟩;obtain rfl:=Zz9 hB;have hlen:(A.es.take m).length=m:=by rw [List.length_take,Nat.min_eq_left m2]
  exact ⟨by simp only [hlen];exact ZAe _,fun _=>by simp [e']⟩
 ·rcases hlook κ B hB with ⟨rfl,_⟩| ⟨g1,_,g2⟩
  ·exact absurd rfl hK
  ·exact ⟨g2,by simp [e',g1],by simp [e',g1],fun _ _=>rfl⟩
 ·injection hK with hK
  subst hK;rcases hlook _ B hB with ⟨_,rfl⟩| ⟨g1,_,_⟩
  ·simp only [e',if_true];exact hnew _ hmu
  ·exact absurd rfl g1
 ·subst hK;simp only [blk,e',if_true] at hx;refine .inr (.inl ⟨.a τ,.inl ?_,⟨A,hA⟩,hF' x hx,fun hdp=>by have:1000000<=τ:=hdp;omega⟩);rintro ⟨B,hB⟩;rcases hlook τ B hB with ⟨g,_⟩| ⟨_,g,_⟩
  ·exact hne g
  ·exact g rfl
 ·subst hK;have:1000000<=64*d:=hdp;omega
theorem ZqM (h:Zz N w0 e O a w) {d t:Nat} {x:Operand} {hi:Value} {f:Eff} (hv:XW P O (some d) (.slice t x none (some (.const hi)) none)=some f) (hs:f.side):
  ∃u e',(Instr.sliceAt t (a.eval x) none (some (a.eval (.const hi))) none).run P w= .ok u w/\Zz N w0 e' (O.app f) (a.put (some d) u) w:=by
 simp only [XW] at hv
 split at hv
 ·rename_i d' et _ _ _ τ n k m hd' hi1 hx hm;obtain rfl:=Zz9 hd'
  split at hv
  ·rename_i ei A hei hA
   split at hv
   ·rename_i hc;obtain ⟨hd,hτ,hn⟩:=hc;obtain rfl:=Zz9 hv;obtain ⟨rfl,m1,m2,h64,hW⟩:=hs;obtain ⟨A',hA',r1,_⟩:=Zv h hx;rw [hA] at hA';obtain rfl:=Zz9 hA';have hxv:=(r1 A rfl).2 rfl;obtain ⟨p,c,hv,g1,g2,g3⟩:=h.J0 hA;obtain ⟨e',he⟩:=h.cut hA hτ hd (by simpa using hn) h64 (m:=m.toNat) (by omega) (by omega) hv;refine ⟨.slice p m.toNat c,e', ?_,he⟩;have hb:=Wd (P:=P) (lo:=none) (hi:=some (.const hi)) (l:=0) (hh:=m) (len:=A.es.length) (cap:=c) h rfl (by simp only [VG,hm,Option.map_some]) (by omega) (by omega) (by omega) true;have hu:=XY hi1;rw [hxv,hv]
    have hp:(if c=0 then p else p.map (·.add (0*ei.size)))=p:=by
     split
     ·rfl
     ·cases p with
      | none=>rfl
      | some ad=>simp [Addr.add]
    simp only [Option.map_none,Option.map_some] at hb;simp [Instr.sliceAt,run_underlying hu,Instr.slice,hb,YC hei]
    try (cases p<;>simp [Addr.add])
   ·cases hv
  ·cases hv
 ·cases hv
theorem ZmL (h:Zz N w0 e O a w) {o:Oper} {f:Eff} (hv:XW P O o.dst o.op=some f) (hs:f.side):ZyT P N w0 o a w (O.app f):=by
 have hv0:=hv;unfold XW at hv
 split at hv
 ·rename_i t x ho
  split at hv
  ·rename_i d v hd hx
   split at hv
   ·rename_i cs hcs hn
    split at hv
    ·rename_i hlt;obtain rfl:=Zz9 hv;have hr:=(Zv h hx).cellsL hcs;have hh:=h.Zsm hlt hn (us:=(a.eval x).cells) hr t;rw [<-hd] at hh;exact ⟨_,_,.inl ⟨_,by simp [execOp,ho,Instr.box,newVar,newRow],hh⟩⟩
    ·cases hv
   ·cases hv
  ·cases hv
 ·rename_i t ho
  split at hv
  ·rename_i d i hd hi
   split at hv
   ·rename_i cs hcs hn
    split at hv
    ·rename_i hlt;obtain rfl:=Zz9 hv;obtain ⟨z,z1,z2⟩:=ZjB hi w;have hh:=h.Zsm hlt hn (us:=z.cells) (by rw [z2];exact ZcR hcs) t;rw [<-hd] at hh;exact ⟨_,_,.inl ⟨_,by simp [execOp,ho,Instr.alloc,newVar,newRow,z1],hh⟩⟩
    ·cases hv
   ·cases hv
  ·cases hv
 ·rename_i t p v ho
  have hd:o.dst=none:=by
   rw [ho] at hv0;simp only [XW] at hv0
   split at hv0
   ·rename_i h1 _ _;exact h1
   ·cases hv0
  rw [ho,hd] at hv0;obtain ⟨w',e',k1,k2⟩:=Zms h hv0 hs;exact ⟨w',e',.inr ⟨by simp [execOp,ho,k1],by rw [hd];exact k2⟩⟩
 ·rename_i t len ps ho
  obtain ⟨d,hd⟩:∃d,o.dst=some d:=by
   rw [ho] at hv0;simp only [XW] at hv0
   split at hv0
   ·rename_i h1 _ _;exact ⟨_,h1⟩
   ·cases hv0
  rw [ho,hd] at hv0;obtain ⟨u,w',e',k1,k2⟩:=Zg4 h hv0 hs;exact ⟨w',e',.inl ⟨u,Zkz (by simp only [execOp,ho]) k1,by rw [hd];exact k2⟩⟩
 ·rename_i t l c ho
  obtain ⟨d,hd⟩:∃d,o.dst=some d:=by
   rw [ho] at hv0;simp only [XW] at hv0
   split at hv0
   ·rename_i h1 _ _ _;exact ⟨_,h1⟩
   ·cases hv0
  rw [ho,hd] at hv0;obtain ⟨u,w',e',k1,k2⟩:=ZhS h hv0 hs;exact ⟨w',e',.inl ⟨u,Zkz (by simp only [execOp,ho]) k1,by rw [hd];exact k2⟩⟩
 ·rename_i xs ts ho
  obtain ⟨d,hd⟩:∃d,o.dst=some d:=by
   rw [ho] at hv0;simp only [XW] at hv0
   split at hv0
   ·rename_i h1 _ _;exact ⟨_,h1⟩
   ·cases hv0
  rw [ho,hd] at hv0;obtain ⟨u,w',e',k1,k2⟩:=Zl9 h hv0 hs o.type;refine ⟨w',e',.inl ⟨u, ?_,by rw [hd];exact k2⟩⟩;simp [execOp,ho,resolve,invoke,builtin,k1]
 ·rename_i xs ts ho
  obtain ⟨d,hd⟩:∃d,o.dst=some d:=by
   rw [ho] at hv0;simp only [XW] at hv0
   split at hv0
   ·rename_i h1 _ _;exact ⟨_,h1⟩
   ·cases hv0
  rw [ho,hd] at hv0;obtain ⟨u,w',e',k1,k2⟩:=ZoY h hv0 hs o.type;refine ⟨w',e',.inl ⟨u, ?_,by rw [hd];exact k2⟩⟩;simp [execOp,ho,resolve,invoke,builtin,k1]
 ·rename_i t x hi ho
  obtain ⟨d,hd⟩:∃d,o.dst=some d:=by
   rw [ho] at hv0;simp only [XW] at hv0
   split at hv0
   ·rename_i h1 _ _ _;exact ⟨_,h1⟩
   ·cases hv0
  rw [ho,hd] at hv0;obtain ⟨u,e',k1,k2⟩:=ZqM h hv0 hs;exact ⟨w,e',.inl ⟨u,Zkz (by simp only [execOp,ho,Option.map_none,Option.map_some]) k1,by rw [hd];exact k2⟩⟩
 ·cases hv
end
def Uk:Value->List Value
 | .agg vs=>vs.toList
 | v=>[v]
def Zcl (w:World):DV->Value->List Nat->Prop
 | .one x,v,F=>Rp w x v F
 | .agg xs,v,F=>∃vs,v= .agg vs.toArray/\RpL w xs vs F
def Zt2 (N:Nat->Prop) (w:World):DV->Value->List Nat->Prop
 | .one x,v,F=>Ow N w x v F
 | .agg xs,v,F=>∃vs,v= .agg vs.toArray/\OwL N w xs vs F
def Yn (w:World):List DV->List Value->List Nat->Prop
 | [],vs,F=>vs=[]/\F=[]
 | d::ds,vs,F=>∃v vs' F1 F2,vs=v::vs'/\F=F1++F2/\Zcl w d v F1/\Yn w ds vs' F2
def ZdY (N:Nat->Prop) (w:World):List DV->List Value->List Nat->Prop
 | [],vs,F=>vs=[]/\F=[]
 | d::ds,vs,F=>∃v vs' F1 F2,vs=v::vs'/\F=F1++F2/\Zt2 N w d v F1/\ZdY N w ds vs' F2
def ZdF (fr:Bool) (N:Nat->Prop) (w:World) (FA:List Nat) (rs:List DV) (us:List Value):Prop:= if fr then ∃F,ZdY N w rs us F/\F.Nodup else ∃F,Yn w rs us F/\∀b∈F,b∈FA\/N b
def Zmh:List Value->Value
 | [u]=>u
 | us=>.tuple us.toArray
def X0 (P:Program) (f:Nat):Bool:=
 match P.funcs[f]? with
 | some fn=>fn.name != "runtime.NumGoroutine"&&fn.body.isSome
 | none=>false
def Ctr (P:Program) (f:Nat) (ds:List DV) (fr:Bool) (rs:List DV):Prop:=
 X0 P f=true/\∀(w:World) (vs:List Value) (FA:List Nat),(∃G,Glb w G)->Yn w ds vs FA->
  Calls P f vs.toArray w fun e w'=>∃us,e= .returned (Zmh us)/\ZdF fr (w.heap.size<= ·) w' FA rs us/\Below w.heap.size w w'
def Zm1 (O:St):CV->Option (L×Bool×Prop)
 | .l x=>some (x,true,True)
 | .kept _ x=>some (x,true,True)
 | .nil=>some (.sl [],true,True)
 | .own τ n=>match O.ar.lookup τ with
  | some (some A)=>some (.sl A.es,false,A.es.length=n)
  | _=>none
 | _=>none
def ZkW (O:St):List CV->Option (List L×Bool×Prop)
 | []=>some ([],true,True)
 | c::cs=>match Zm1 O c,ZkW O cs with
  | some (x,f,p),some (xs,g,q)=>some (x::xs,f&&g,p/\q)
  | _,_=>none
def ZkV (O:St):V->Option (DV×Bool×Prop)
 | .one c=>(Zm1 O c).map fun r=>(.one r.1,r.2)
 | .agg cs=>(ZkW O cs).map fun r=>(.agg r.1,r.2)
 | _=>none
def WK (O:St):List V->Option (List DV×Bool×Prop)
 | []=>some ([],true,True)
 | v::vs=>match ZkV O v,WK O vs with
  | some (x,f,p),some (xs,g,q)=>some (x::xs,f&&g,p/\q)
  | _,_=>none
def Zkm (τ:Nat):L->CV×List (Nat×Arr)
 | .sl es=>(.own τ es.length,[(τ,⟨true,es⟩)])
 | x=>(.l x,[])
def Zjl (τ:Nat):List L->List CV×List (Nat×Arr)
 | []=>([],[])
 | x::xs=>((Zkm τ x).1::(Zjl (τ+(Zkm τ x).2.length) xs).1,(Zkm τ x).2++(Zjl (τ+(Zkm τ x).2.length) xs).2)
def Zah (τ:Nat):List DV->List (Bool×List CV)×List (Nat×Arr)
 | []=>([],[])
 | .one x::ds=>((false,[(Zkm τ x).1])::(Zah (τ+(Zkm τ x).2.length) ds).1,(Zkm τ x).2++(Zah (τ+(Zkm τ x).2.length) ds).2)
 | .agg xs::ds=>((true,(Zjl τ xs).1)::(Zah (τ+(Zjl τ xs).2.length) ds).1,(Zjl τ xs).2++(Zah (τ+(Zjl τ xs).2.length) ds).2)
def ptD:DV->Bool×List CV
 | .one x=>(false,[.l x])
 | .agg xs=>(true,xs.map .l)
def Zkc:List (Bool×List CV)->V
 | [(false,[c])]=>.one c
 | [(true,cs)]=>.agg cs
 | ps=>.tup ps
def base (dp:Bool) (d:Nat):Nat:=if dp then 64*d+1000000 else 64*d
def Qq (O:St) (dst:Option Nat) (fr dp:Bool) (rs:List DV):Option Eff:=
 match dst with
 | none=>some ⟨True,[],[],[]⟩
 | some d=>if d<O.nt then
   if fr then
    if (Zah (base dp d) rs).2.all (fun p=>(O.ar.lookup p.1).isNone) then
     some ⟨True,[(d,Zkc (Zah (base dp d) rs).1)],[],(Zah (base dp d) rs).2.map fun p=>(p.1,some p.2)⟩
    else none
   else some ⟨True,[(d,Zkc (rs.map ptD))],[],[]⟩
  else none
section
variable {e:Env} {O:St} {w:World} {N:Nat->Prop} {w0:Bs} {a:Act} {P:Program}
theorem Zn9 (h:Zz N w0 e O a w) {c:CV} {v:Value} (hr:c.rel e O w v) {x:L} {f:Bool} {p:Prop} (hd:Zm1 O c=some (x,f,p)) (hp:p):∃F,Rp w x v F/\(f=true->∀b∈F,¬Mut e O b):=by
 unfold Zm1 at hd
 split at hd
 ·simp only [ZAb,ZAc] at hd;obtain ⟨rfl,rfl,rfl⟩:=hd;obtain ⟨F,h1,h2⟩:=hr;exact ⟨F,h1,fun _=>h2⟩
 ·simp only [ZAb,ZAc] at hd;obtain ⟨rfl,rfl,rfl⟩:=hd;obtain ⟨_,F,h1,h2⟩:=hr;exact ⟨F,h1,fun _=>h2⟩
 ·simp only [ZAb,ZAc] at hd;obtain ⟨rfl,rfl,rfl⟩:=hd;have hv:v= .slice none 0 0:=hr;subst hv;refine ⟨[], ?_,by simp⟩;simp only [Rp];exact ⟨none,0,rfl,ZAe _,by omega,.inl (by simp)⟩
 ·rename_i τ n
  split at hd
  ·rename_i A hA;simp only [ZAb,ZAc] at hd;obtain ⟨rfl,rfl,rfl⟩:=hd;obtain ⟨A',hA',h1,_⟩:=hr;rw [hA] at hA';obtain rfl:=Zz9 hA';have hv:=(h1 A rfl).2 hp;subst hv;obtain ⟨p',c,hρ,g1,g2,hc| ⟨b,vs,Fs,W,rfl,q2,q3,q4,q5⟩⟩:=h.J0 hA
   ·refine ⟨[], ?_,by simp⟩;simp only [Rp];exact ⟨p',c,hρ,g1,g2,.inl (by simp [hc])⟩
   ·refine ⟨b::Fs, ?_,by simp⟩;simp only [Rp];exact ⟨_,c,hρ,g1,g2,.inr ⟨b,0,vs,Fs,rfl,(h.Yg (κ:=.a τ) ⟨A,hA⟩ b q5).1,rfl,q2,q4⟩⟩
  ·cases hd
 ·cases hd
theorem ZkB (h:Zz N w0 e O a w):∀{cs:List CV} {vs:List Value},Z6 e O w cs vs->∀{xs:List L} {f:Bool} {p:Prop},ZkW O cs=some (xs,f,p)->p->∃F,RpL w xs vs F/\(f=true->∀b∈F,¬Mut e O b)
 | [],vs,hr,xs,f,p,hd,hp=>by
  simp only [Z6] at hr;subst hr;simp only [ZkW,ZAb,ZAc] at hd;obtain ⟨rfl,rfl,rfl⟩:=hd;exact ⟨[],by simp [RpL],by simp⟩
 | c::cs,vs,hr,xs,f,p,hd,hp=>by
  simp only [Z6] at hr;obtain ⟨v,vs',rfl,h1,h2⟩:=hr;simp only [ZkW] at hd
  split at hd
  ·rename_i x f1 p1 xs2 f2 p2 e1 e2;simp only [ZAb,ZAc] at hd;obtain ⟨rfl,rfl,rfl⟩:=hd;obtain ⟨F1,k1,k2⟩:=Zn9 h h1 e1 hp.1;obtain ⟨F2,g1,g2⟩:=ZkB h h2 e2 hp.2;refine ⟨F1++F2,by simp only [RpL];exact ⟨v,vs',F1,F2,rfl,rfl,k1,g1⟩,fun hf b hb=> ?_⟩;simp only [ZAd] at hf;rcases List.mem_append.1 hb with hb| hb
   ·exact k2 hf.1 b hb
   ·exact g2 hf.2 b hb
  ·cases hd
theorem Zn8 (h:Zz N w0 e O a w) {x:V} {v:Value} (hr:x.rel e O w v) {d:DV} {f:Bool} {p:Prop} (hd:ZkV O x=some (d,f,p)) (hp:p):∃F,Zcl w d v F/\(f=true->∀b∈F,¬Mut e O b):=by
 cases x with
 | one c=>
  simp only [ZkV] at hd;obtain ⟨⟨y,f',p'⟩,h1,h2⟩:=Option.map_eq_some_iff.1 hd;simp only [ZAc] at h2;obtain ⟨rfl,rfl,rfl⟩:=h2;exact Zn9 h hr h1 hp
 | agg cs=>
  simp only [ZkV] at hd;obtain ⟨⟨y,f',p'⟩,h1,h2⟩:=Option.map_eq_some_iff.1 hd;simp only [ZAc] at h2;obtain ⟨rfl,rfl,rfl⟩:=h2;obtain ⟨vs,rfl,hr⟩:=hr;obtain ⟨F,g1,g2⟩:=ZkB h hr h1 hp;exact ⟨F,⟨vs,rfl,g1⟩,g2⟩
 | tup ps=>simp [ZkV] at hd
 | dead=>simp [ZkV] at hd
theorem ZlX (h:Zz N w0 e O a w):∀{ps:List Operand} {vs:List V},Xs O ps=some vs->∀{ds:List DV} {f:Bool} {p:Prop},WK O vs=some (ds,f,p)->p->∃F,Yn w ds (ps.map a.eval) F/\(f=true->∀b∈F,¬Mut e O b)
 | [],vs,ho,ds,f,p,hd,hp=>by
  simp only [Xs,ZAb] at ho;subst ho;simp only [WK,ZAb,ZAc] at hd;obtain ⟨rfl,rfl,rfl⟩:=hd;exact ⟨[],by simp [Yn],by simp⟩
 | o::ps,vs,ho,ds,f,p,hd,hp=>by
  simp only [Xs] at ho
  split at ho
  ·rename_i v vs' hv hvs;obtain rfl:=Zz9 ho;simp only [WK] at hd
   split at hd
   ·rename_i x f1 p1 xs2 f2 p2 e1 e2;simp only [ZAb,ZAc] at hd;obtain ⟨rfl,rfl,rfl⟩:=hd;obtain ⟨F1,k1,k2⟩:=Zn8 h (Zv h hv) e1 hp.1;obtain ⟨F2,g1,g2⟩:=ZlX h hvs e2 hp.2;refine ⟨F1++F2,by simp only [List.map_cons,Yn];exact ⟨_,_,F1,F2,rfl,rfl,k1,g1⟩,fun hf b hb=> ?_⟩;simp only [ZAd] at hf;rcases List.mem_append.1 hb with hb| hb
    ·exact k2 hf.1 b hb
    ·exact g2 hf.2 b hb
   ·cases hd
  ·cases ho
structure Inc where
 τ:Nat
 A:Arr
 v:Value
 F:List Nat
def Qp (e:Env) (q:List Inc) (dp:Bool):Env:=
 ⟨e.β,fun κ=>((q.find? (·.τ==κ)).map (·.v)).getD (e.ρ κ),fun κ=>((q.find? (·.τ==κ)).map (·.F)).getD (e.φ κ),fun b=>e.bad b\/∃i∈q,1000000<=i.τ/\b∈i.F⟩
def ZmU (N':Nat->Prop) (w':World) (q:Inc):Prop:=Ow N' w' (.sl q.A.es) q.v q.F/\q.A.fr=true
theorem Zjm {N':Nat->Prop} {w':World} {τ:Nat} {x:L} {v:Value} {F:List Nat} (h:Ow N' w' x v F):∃q:List Inc,q.map (fun i=>(i.τ,i.A))=(Zkm τ x).2/\(∀i∈q,ZmU N' w' i)/\F=q.flatMap (·.F)/\
  (∀(e':Env) (O':St),(∀i∈q,e'.ρ i.τ=i.v/\O'.ar.lookup i.τ=some (some i.A))->(Zkm τ x).1.rel e' O' w' v)/\∀i∈q,i.v=v:=by
 cases x with
 | sl es=>
  refine ⟨[⟨τ,⟨true,es⟩,v,F⟩],rfl,by simp [ZmU,h],by simp,fun e' O' hq=> ?_,by simp⟩;obtain ⟨g1,g2⟩:=hq _ (List.mem_singleton.2 rfl);simp only [Ow] at h;obtain ⟨A,c,h1,h2,h3⟩:=h;refine ⟨some ⟨true,es⟩,g2,fun B hB=> ?_,A,c,h1, ?_⟩
  ·obtain rfl:=Zz9 hB;exact ⟨ZAe _,fun _=>g1.symm⟩
  ·rcases h3 with ⟨h4,_⟩| ⟨b,t,cur,Fs,W,_,_,_,h4,_⟩
   ·simp [h4]
   ·omega
 | int k n=>simp only [Ow] at h;exact ⟨[],rfl,by simp,by simp [h.2.1],fun e' O' _=>⟨[],by simp [Rp,h.1,h.2.2],by simp⟩,by simp⟩
 | bool b=>simp only [Ow] at h;exact ⟨[],rfl,by simp,by simp [h.2],fun e' O' _=>⟨[],by simp [Rp,h.1],by simp⟩,by simp⟩
 | str s=>simp only [Ow] at h;exact ⟨[],rfl,by simp,by simp [h.2.1],fun e' O' _=>⟨[],by simp [Rp,h.1,h.2.2],by simp⟩,by simp⟩
 | void=>simp only [Ow] at h;exact ⟨[],rfl,by simp,by simp [h.2],fun e' O' _=>⟨[],by simp only [Rp];exact ⟨h.1,trivial⟩,by simp⟩,by simp⟩
theorem Zjk {N':Nat->Prop} {w':World}:∀{xs:List L} {τ:Nat} {vs:List Value} {F:List Nat},OwL N' w' xs vs F->∃q:List Inc,q.map (fun i=>(i.τ,i.A))=(Zjl τ xs).2/\(∀i∈q,ZmU N' w' i)/\F=q.flatMap (·.F)/\
  (∀(e':Env) (O':St),(∀i∈q,e'.ρ i.τ=i.v/\O'.ar.lookup i.τ=some (some i.A))->Z6 e' O' w' (Zjl τ xs).1 vs)/\∀i∈q,i.v∈vs
 | [],τ,vs,F,h=>by simp only [OwL] at h;exact ⟨[],rfl,by simp,by simp [h.2],fun e' O' _=>by simp [Zjl,Z6,h.1],by simp⟩
 | x::xs,τ,vs,F,h=>by
  simp only [OwL] at h;obtain ⟨v,vs',F1,F2,rfl,rfl,h1,h2⟩:=h;obtain ⟨q1,a1,a2,a3,a4,a5⟩:=Zjm (τ:=τ) h1;obtain ⟨q2,b1,b2,b3,b4,b5⟩:=Zjk (τ:=τ+(Zkm τ x).2.length) h2;refine ⟨q1++q2,by simp [Zjl,a1,b1],fun i hi=>by rcases List.mem_append.1 hi with hi| hi;exact a2 i hi;exact b2 i hi,by simp [a3,b3],fun e' O' hq=> ?_,fun i hi=>by rcases List.mem_append.1 hi with hi| hi;exact a5 i hi▸List.mem_cons_self ..;exact List.mem_cons_of_mem _ (b5 i hi)⟩;simp only [Zjl,Z6];exact ⟨v,vs',rfl,a4 e' O' fun i hi=>hq i (by simp [hi]),b4 e' O' fun i hi=>hq i (by simp [hi])⟩
theorem ZcK {N':Nat->Prop} {w':World}:∀{ds:List DV} {τ:Nat} {vs:List Value} {F:List Nat},ZdY N' w' ds vs F->∃q:List Inc,q.map (fun i=>(i.τ,i.A))=(Zah τ ds).2/\(∀i∈q,ZmU N' w' i)/\F=q.flatMap (·.F)/\
  (∀(e':Env) (O':St),(∀i∈q,e'.ρ i.τ=i.v/\O'.ar.lookup i.τ=some (some i.A))->Yo e' O' w' (Zah τ ds).1 vs)/\∀i∈q,∃u∈vs,i.v∈Uk u
 | [],τ,vs,F,h=>by simp only [ZdY] at h;exact ⟨[],rfl,by simp,by simp [h.2],fun e' O' _=>by simp [Zah,Yo,h.1],by simp⟩
 | .one x::xs,τ,vs,F,h=>by
  simp only [ZdY] at h;obtain ⟨v,vs',F1,F2,rfl,rfl,h1,h2⟩:=h;obtain ⟨q1,a1,a2,a3,a4,a5⟩:=Zjm (τ:=τ) h1;obtain ⟨q2,b1,b2,b3,b4,b5⟩:=ZcK (τ:=τ+(Zkm τ x).2.length) h2;refine ⟨q1++q2,by simp [Zah,a1,b1],fun i hi=>by rcases List.mem_append.1 hi with hi| hi;exact a2 i hi;exact b2 i hi,by simp [a3,b3],fun e' O' hq=> ?_,fun i hi=> ?_⟩
  rotate_left
  ·rcases List.mem_append.1 hi with hi| hi
   ·refine ⟨v,List.mem_cons_self .., ?_⟩;rw [a5 i hi];have h1:Ow N' w' x v F1:=h1;cases x with
    | sl es=>simp only [Ow] at h1;obtain ⟨A,c,rfl,_⟩:=h1;simp [Uk]
    | void=>simp only [Ow] at h1;obtain ⟨⟨A,n,c,rfl⟩,_⟩:=h1;simp [Uk]
    | _=>simp only [Ow] at h1;rw [h1.1];simp [Uk]
   ·obtain ⟨u,hu,hv⟩:=b5 i hi;exact ⟨u,List.mem_cons_of_mem _ hu,hv⟩
  simp only [Zah,Yo];exact ⟨v,vs',rfl,⟨_,rfl,a4 e' O' fun i hi=>hq i (by simp [hi])⟩,b4 e' O' fun i hi=>hq i (by simp [hi])⟩
 | .agg xs::ds,τ,vs,F,h=>by
  simp only [ZdY] at h;obtain ⟨v,vs',F1,F2,rfl,rfl,⟨us,rfl,h1⟩,h2⟩:=h;obtain ⟨q1,a1,a2,a3,a4,a5⟩:=Zjk (τ:=τ) h1;obtain ⟨q2,b1,b2,b3,b4,b5⟩:=ZcK (τ:=τ+(Zjl τ xs).2.length) h2;refine ⟨q1++q2,by simp [Zah,a1,b1],fun i hi=>by rcases List.mem_append.1 hi with hi| hi;exact a2 i hi;exact b2 i hi,by simp [a3,b3],fun e' O' hq=> ?_,fun i hi=> ?_⟩
  rotate_left
  ·rcases List.mem_append.1 hi with hi| hi
   ·exact ⟨_,List.mem_cons_self ..,by simpa [Uk] using a5 i hi⟩
   ·obtain ⟨u,hu,hv⟩:=b5 i hi;exact ⟨u,List.mem_cons_of_mem _ hu,hv⟩
  simp only [Zah,Yo];exact ⟨_,vs',rfl,⟨us,rfl,a4 e' O' fun i hi=>hq i (by simp [hi])⟩,b4 e' O' fun i hi=>hq i (by simp [hi])⟩
theorem ZlP:∀(xs:List L) (τ:Nat),((Zjl τ xs).2.map (·.1)).Nodup/\∀p∈(Zjl τ xs).2,τ<=p.1/\p.1<τ+(Zjl τ xs).2.length
 | [],τ=>by simp [Zjl]
 | x::xs,τ=>by
  obtain ⟨h1,h2⟩:=ZlP xs (τ+(Zkm τ x).2.length);cases x with
  | sl es=>
   simp only [Zjl,Zkm,List.length_cons,List.length_nil,Nat.zero_add,List.cons_append,List.nil_append,List.map_cons] at h1 h2 ⊢;refine ⟨List.nodup_cons.2 ⟨fun hm=> ?_,h1⟩,fun p hp=> ?_⟩
   ·obtain ⟨p,hp,hp2⟩:=List.mem_map.1 hm;have:=h2 p hp;omega
   ·rcases List.mem_cons.1 hp with rfl| hp
    ·simp
    ·have:=h2 p hp;omega
  | _=>simpa [Zjl,Zkm] using ZAa h1 h2
theorem Zfc:∀(ds:List DV) (τ:Nat),((Zah τ ds).2.map (·.1)).Nodup/\∀p∈(Zah τ ds).2,τ<=p.1/\p.1<τ+(Zah τ ds).2.length
 | [],τ=>by simp [Zah]
 | .one x::ds,τ=>by
  obtain ⟨h1,h2⟩:=Zfc ds (τ+(Zkm τ x).2.length);cases x with
  | sl es=>
   simp only [Zah,Zkm,List.length_cons,List.length_nil,Nat.zero_add,List.cons_append,List.nil_append,List.map_cons] at h1 h2 ⊢;refine ⟨List.nodup_cons.2 ⟨fun hm=> ?_,h1⟩,fun p hp=> ?_⟩
   ·obtain ⟨p,hp,hp2⟩:=List.mem_map.1 hm;have:=h2 p hp;omega
   ·rcases List.mem_cons.1 hp with rfl| hp
    ·simp
    ·have:=h2 p hp;omega
  | _=>simpa [Zah,Zkm] using ZAa h1 h2
 | .agg xs::ds,τ=>by
  obtain ⟨h1,h2⟩:=Zfc ds (τ+(Zjl τ xs).2.length);obtain ⟨g1,g2⟩:=ZlP xs τ;simp only [Zah,List.map_append,List.length_append];refine ⟨List.nodup_append.2 ⟨g1,h1,fun x hx y hy hxy=> ?_⟩,fun p hp=> ?_⟩
  ·subst hxy;obtain ⟨p,hp,rfl⟩:=List.mem_map.1 hx;obtain ⟨r,hr,hr2⟩:=List.mem_map.1 hy;have:=g2 p hp;have:=h2 r hr;omega
  ·rcases List.mem_append.1 hp with hp| hp
   ·have:=g2 p hp;omega
   ·have:=h2 p hp;omega
end
section
variable {e:Env} {O:St} {w:World} {N:Nat->Prop} {w0:Bs} {a:Act} {P:Program}
theorem US:∀{q:List Inc},(q.map (·.τ)).Nodup->∀i∈q,q.find? (·.τ==i.τ)=some i
 | [],_,i,hi=>by simp at hi
 | j::q,hn,i,hi=>by
  simp only [List.map_cons,List.nodup_cons] at hn
  by_cases he:j.τ=i.τ
  ·have:i=j:=by
    rcases List.mem_cons.1 hi with h| h
    ·exact h
    ·exact absurd (List.mem_map.2 ⟨i,h,he.symm⟩) hn.1
   subst this;simp
  ·have hi':i∈q:=by
    rcases List.mem_cons.1 hi with h| h
    ·subst h;exact absurd rfl he
    ·exact h
   simp only [List.find?,beq_eq_false_iff_ne.2 he];exact US hn.2 i hi'
theorem UR {q:List Inc} {κ:Nat} (h:κ∉q.map (·.τ)):q.find? (·.τ==κ)=none:=by
 rw [List.find?_eq_none];intro i hi he;exact h (List.mem_map.2 ⟨i,hi,by simpa using he⟩)
def JM (q:List Inc):List (Nat×Option Arr):=q.map fun i=>(i.τ,some i.A)
theorem KH:∀{q:List Inc} {l:List (Nat×Option Arr)},(q.map (·.τ)).Nodup->∀i∈q,(JM q++l).lookup i.τ=some (some i.A)
 | [],_,_,i,hi=>by simp at hi
 | j::q,l,hn,i,hi=>by
  simp only [List.map_cons,List.nodup_cons] at hn;simp only [JM,List.map_cons,List.cons_append,lookup_cons]
  by_cases he:i.τ=j.τ
  ·have:i=j:=by
    rcases List.mem_cons.1 hi with h| h
    ·exact h
    ·exact absurd (List.mem_map.2 ⟨i,h,he⟩) hn.1
   subst this;simp
  ·have hi':i∈q:=by
    rcases List.mem_cons.1 hi with h| h
    ·subst h;exact absurd rfl he
    ·exact h
   rw [if_neg he];exact KH hn.2 i hi'
theorem KI:∀{q:List Inc} {l:List (Nat×Option Arr)} {κ:Nat},κ∉q.map (·.τ)->(JM q++l).lookup κ=l.lookup κ
 | [],_,_,_=>rfl
 | j::q,l,κ,h=>by
  simp only [List.map_cons,List.mem_cons,not_or] at h;simp only [JM,List.map_cons,List.cons_append,lookup_cons,if_neg h.1];exact KI h.2
theorem Zkh {q:List Inc} {i:Inc} (hi:i∈q) {b:Nat} (hb:b∈i.F):b∈q.flatMap (·.F):=List.mem_flatMap.2 ⟨i,hi,hb⟩
theorem ZcO:∀{q:List Inc},(q.flatMap (·.F)).Nodup->∀i∈q,∀j∈q,i.τ≠j.τ->∀b∈i.F,b∉j.F
 | [],_,i,hi,_,_,_,_,_=>by simp at hi
 | k::q,hn,i,hi,j,hj,hne,b,hb=>by
  simp only [List.flatMap_cons] at hn;obtain ⟨h1,h2,h3⟩:=List.nodup_append.1 hn;rcases List.mem_cons.1 hi with hi1| hi1<;>rcases List.mem_cons.1 hj with hj1| hj1
  ·exact absurd (by rw [hi1,hj1]) hne
  ·exact fun hb'=>h3 b (hi1▸hb) b (Zkh hj1 hb') rfl
  ·exact fun hb'=>h3 b (hj1▸hb') b (Zkh hi1 hb) rfl
  ·exact ZcO h2 i hi1 j hj1 hne b hb
theorem ZaH:∀{q:List Inc},(q.flatMap (·.F)).Nodup->∀i∈q,i.F.Nodup
 | [],_,i,hi=>by simp at hi
 | k::q,hn,i,hi=>by
  simp only [List.flatMap_cons] at hn;obtain ⟨h1,h2,h3⟩:=List.nodup_append.1 hn;rcases List.mem_cons.1 hi with rfl| hi
  ·exact h1
  ·exact ZaH h2 i hi
theorem VJ.Zjg {M:Nat->Prop} {i:Inc} {w':World} {N':Nat->Prop} (h:ZmU N' w' i) (hN:∀b,N' b->N b) (hn:i.F.Nodup):VJ N M w' i.A i.v i.F:=by
 obtain ⟨h1,h2⟩:=h;have h1:=h1.mono hN;simp only [Ow] at h1;obtain ⟨A,c,hv,hc,h3| ⟨b,t,cur,Fs,W,k1,k2,k3,k4,k5,k6,k7,k8,k9⟩⟩:=h1
 ·exact ⟨A,c,hv,hc,.inl h3⟩
 ·exact ⟨A,c,hv,hc,.inr ⟨b,t,cur,Fs,W,k1,k2,k3,k4,k5,k6,k7,.inl ⟨h2,k8,hn,k9⟩⟩⟩
theorem Zz.Zhe (h:Zz N w0 e O a w) {w':World} (hb:Below w.heap.size w w') {q:List Inc} (hq:∀i∈q,ZmU (w.heap.size<= ·) w' i) (hk:(q.map (·.τ)).Nodup) (hF:(q.flatMap (·.F)).Nodup) (hn:∀i∈q,O.ar.lookup i.τ=none) (dp:Bool)
  {tm:List (Nat×V)} {a':Act} (hnt:a'.tmps.size=O.nt) (hdf:a'.defers=[])
  (htm:Up e O w (Qp e q dp) ⟨O.nt,tm,O.bx,JM q++O.ar⟩ w'->(∀i∈q,(Qp e q dp).ρ i.τ=i.v/\(JM q++O.ar).lookup i.τ=some (some i.A))->
   ∀t x,tm.lookup t=some x->(O.tm.lookup t=some x/\a'.tmps.getD t undef=a.tmps.getD t undef)\/x.rel (Qp e q dp) ⟨O.nt,tm,O.bx,JM q++O.ar⟩ w' (a'.tmps.getD t undef)):
  Zz N w0 (Qp e q dp) ⟨O.nt,tm,O.bx,JM q++O.ar⟩ a' w':=by
 have hρ:∀i∈q,(Qp e q dp).ρ i.τ=i.v:=fun i hi=>by simp [Qp,US hk i hi]
 have hφ:∀i∈q,(Qp e q dp).φ i.τ=i.F:=fun i hi=>by simp [Qp,US hk i hi]
 have hρ':∀κ,κ∉q.map (·.τ)->(Qp e q dp).ρ κ=e.ρ κ:=fun κ hκ=>by simp [Qp,UR hκ]
 have hφ':∀κ,κ∉q.map (·.τ)->(Qp e q dp).φ κ=e.φ κ:=fun κ hκ=>by simp [Qp,UR hκ]
 have hlive:∀κ A,O.ar.lookup κ=some A->κ∉q.map (·.τ):=fun κ A hA hm=>by
  obtain ⟨i,hi,rfl⟩:=List.mem_map.1 hm;rw [hn i hi] at hA;cases hA
 have hnew:∀i∈q,∀b∈i.F,w.heap.size<=b:=fun i hi b hb'=>((hq i hi).1.blocks b hb').1
 have hlook:∀κ A,(JM q++O.ar).lookup κ=some (some A)->(∃i∈q,i.τ=κ/\A=i.A)\/(κ∉q.map (·.τ)/\O.ar.lookup κ=some (some A)):=by
  intro κ A hA
  by_cases hm:κ∈q.map (·.τ)
  ·obtain ⟨i,hi,rfl⟩:=List.mem_map.1 hm;rw [KH hk i hi] at hA;exact .inl ⟨i,hi,rfl,(Zz9 (Zz9 hA)).symm⟩
  ·rw [KI hm] at hA;exact .inr ⟨hm,hA⟩
 have u:Up e O w (Qp e q dp) ⟨O.nt,tm,O.bx,JM q++O.ar⟩ w':=by
  refine ⟨hb.size,fun b hlt _=>hb.block b hlt,fun b hlt hm=> ?_,fun k cs hk=>⟨⟨cs,hk⟩,rfl⟩,fun κ A hA=> ?_,fun κ _ ⟨B,hB⟩ _=>⟨hρ' κ (hlive κ _ hB),fun b hb'=>hb.block b (h.Yg (κ:=.a κ) ⟨B,hB⟩ b ((h.ar κ B hB).own hb').1).1⟩⟩
  ·rcases hm with (h0| ⟨i,hi,_,hb'⟩)| ⟨k,cs,h1,h2⟩| ⟨κ,A,h1,h2⟩
   ·exact .inl h0
   ·have:=hnew i hi b hb';omega
   ·exact .inr (.inl ⟨k,cs,h1,h2⟩)
   ·rcases hlook κ A h1 with ⟨i,hi,rfl,rfl⟩| ⟨hm,hA⟩
    ·rw [hρ i hi] at h2
     have:=hnew i hi b (by
      have hok:=VJ.Zjg (N:=fun b=>w.heap.size<=b) (M:=fun _=>True) (hq i hi) (fun _ h=>h) (ZaH hF i hi);exact (hok.own h2).1)
     omega
    ·rw [hρ' κ hm] at h2;exact .inr (.inr ⟨κ,A,hA,h2⟩)
  ·have hm:=hlive κ A hA;refine ⟨A, ?_,fun B hB=>⟨B,hB,ZAe _,fun _=>hρ' κ hm⟩⟩;show (JM q++O.ar).lookup κ=some A;rw [KI hm];exact hA
 refine h.Zox u (fun κ=>∃i∈q,κ= .a i.τ) hnt hdf (htm u fun i hi=>⟨hρ i hi,KH hk i hi⟩) (fun k cs hk' _=>⟨hk',hb.block _ (h.Yg (κ:=.b k) ⟨cs,hk'⟩ _ (by simp [blk])).1⟩) (fun κ A hA hK=> ?_)
  (fun k cs _ hK=>by obtain ⟨i,_,h9⟩:=hK;cases h9) (fun κ A hA hK=> ?_) (fun κ hl hK b hb'=> ?_) (fun κ κ' _ _ hne hK hK' b hb'=> ?_) (h.fr.below hb) (fun b h=>.inl h) (fun b hb'=> ?_) (fun κ _ hK hd b hb'=>by
   obtain ⟨i,hi,rfl⟩:=hK;simp only [blk,hφ i hi] at hb';exact .inr ⟨i,hi,hd,hb'⟩) (fun k cs _ hK _=>by obtain ⟨i,_,h9⟩:=hK;cases h9) (fun κ b _ hK hb=>by
   obtain ⟨i,hi,rfl⟩:=hK;refine h.fr.new b (Nat.le_trans h.fr.size (hnew i hi b ?_));rcases hb with hb| ⟨_,hb⟩
   ·rw [hρ i hi] at hb;exact ((VJ.Zjg (N:=fun b=>w.heap.size<=b) (M:=fun _=>True) (hq i hi) (fun _ h=>h) (ZaH hF i hi)).own hb).1
   ·rw [hφ i hi] at hb;exact hb)
 ·rcases hlook κ A hA with ⟨i,hi,rfl,rfl⟩| ⟨hm,hA'⟩
  ·exact absurd ⟨i,hi,rfl⟩ hK
  ·exact ⟨hA',hρ' κ hm,hφ' κ hm,fun b hb'=>hb.block b (h.Yg (κ:=.a κ) ⟨A,hA'⟩ b hb').1⟩
 ·obtain ⟨i,hi,h9⟩:=hK;injection h9 with h9
  subst h9;rcases hlook i.τ A hA with ⟨j,hj,hji,rfl⟩| ⟨hm,_⟩
  ·have:j=i:=by
    have h1:=US hk j hj;have h2:=US hk i hi;rw [hji,h2] at h1;exact (Zz9 h1).symm
   subst this;rw [hρ j hi,hφ j hi];exact VJ.Zjg (hq j hi) (fun b hb'=>h.tn b (h.fr.new b (Nat.le_trans h.fr.size hb'))) (ZaH hF j hi)
  ·exact absurd (List.mem_map.2 ⟨i,hi,rfl⟩) hm
 ·obtain ⟨i,hi,rfl⟩:=hK;simp only [blk,hφ i hi] at hb';exact .inr (.inr (hnew i hi b hb'))
 ·obtain ⟨i,hi,rfl⟩:=hK;obtain ⟨j,hj,rfl⟩:=hK';simp only [blk,hφ i hi,hφ j hj] at hb' ⊢;exact ZcO hF i hi j hj (fun e'=>hne (by rw [e'])) b hb'
 ·rcases hb' with hb'| ⟨i,hi,hdt,hbi⟩
  ·exact .inl hb'
  ·obtain ⟨_,cur,ty,hpl⟩:=(hq i hi).1.blocks b hbi;refine .inr ⟨hnew i hi b hbi,Vk hpl,fun κ hl hm=> ?_⟩;cases κ with
   | b k=>
    obtain ⟨cs,hcs⟩:=hl;have h1:=(h.Yg (κ:=.b k) ⟨cs,hcs⟩ b hm).1;have h2:=hnew i hi b hbi;omega
   | a κ=>
    obtain ⟨A,hA⟩:=hl;rcases hlook κ A hA with ⟨j,hj,rfl,_⟩| ⟨hm',hA'⟩
    ·by_cases hij:i.τ=j.τ
     ·rw [<-hij];exact hdt
     ·simp only [blk,hφ j hj] at hm;exact absurd hm (ZcO hF i hi j hj hij b hbi)
    ·simp only [blk,hφ' κ hm'] at hm;have h1:=(h.Yg (κ:=.a κ) ⟨A,hA'⟩ b hm).1;have h2:=hnew i hi b hbi;omega
theorem Vw {w':World} {e':Env} {O':St}:∀{rs:List DV} {us:List Value} {F:List Nat},Yn w' rs us F->(∀b∈F,¬Mut e' O' b)->Yo e' O' w' (rs.map ptD) us
 | [],us,F,h,_=>by simp only [Yn] at h;simp [Yo,h.1]
 | .one x::rs,us,F,h,hF=>by
  simp only [Yn] at h;obtain ⟨v,vs',F1,F2,rfl,rfl,h1,h2⟩:=h;simp only [List.map_cons,Yo];exact ⟨v,vs',rfl,⟨_,rfl,F1,h1,fun b hb=>hF b (by simp [hb])⟩,Vw h2 fun b hb=>hF b (by simp [hb])⟩
 | .agg xs::rs,us,F,h,hF=>by
  simp only [Yn] at h;obtain ⟨v,vs',F1,F2,rfl,rfl,⟨us',rfl,h1⟩,h2⟩:=h;simp only [List.map_cons,Yo];exact ⟨_,vs',rfl,⟨us',rfl,We h1 fun b hb=>hF b (by simp [hb])⟩,Vw h2 fun b hb=>hF b (by simp [hb])⟩
theorem Ze2 {w':World} {e':Env} {O':St} {ps:List (Bool×List CV)} {us:List Value} (h:Yo e' O' w' ps us):(Zkc ps).rel e' O' w' (Zmh us):=by
 unfold Zkc
 split
 ·rename_i c;simp only [Yo] at h;obtain ⟨v,vs',rfl,⟨c',hc,h1⟩,h2⟩:=h;subst h2;injection hc with hc _
  subst hc;exact h1
 ·rename_i cs;simp only [Yo] at h;obtain ⟨v,vs',rfl,⟨us,rfl,h1⟩,h2⟩:=h;subst h2;exact ⟨us,rfl,h1⟩
 ·rename_i hn1 hn2;cases ps with
  | nil=>
   simp only [Yo] at h;subst h;exact ⟨[],rfl,by simp [Yo]⟩
  | cons p ps=>
   cases ps with
   | nil=>
    simp only [Yo] at h;obtain ⟨v,vs',rfl,h1,h2⟩:=h;obtain ⟨b,cs⟩:=p;cases b
    ·obtain ⟨c,rfl,h1⟩:=h1;exact absurd rfl (hn1 c)
    ·exact absurd rfl (hn2 cs)
   | cons p' ps=>
    have h0:=h;simp only [Yo] at h;obtain ⟨v,vs',rfl,h1,v',vs'',rfl,h2,h3⟩:=h;exact ⟨v::v'::vs'',rfl,h0⟩
theorem Zcl.lt {d:DV} {v:Value} {F:List Nat} (h:Zcl w d v F):∀b∈F,b<w.heap.size:=by
 cases d with
 | one x=>exact Rp.lt h
 | agg xs=>obtain ⟨vs,_,h⟩:=h;exact h.lt
theorem Zjq:∀{ds:List DV} {vs:List Value} {F:List Nat},Yn w ds vs F->∀b∈F,b<w.heap.size
 | [],_,_,h=>by simp only [Yn] at h;simp [h.2]
 | d::ds,_,_,h=>by
  simp only [Yn] at h;obtain ⟨v,vs',F1,F2,rfl,rfl,h1,h2⟩:=h;intro b hb;rcases List.mem_append.1 hb with hb| hb
  ·exact h1.lt b hb
  ·exact Zjq h2 b hb
theorem Zo0 (h:Zz N w0 e O a w) {o:Oper} {f:Nat} {xs:Array Operand} {ts:Array Nat} (ho:o.op= .call { callee:=.value (.func f),args:=xs,argTypes:=ts})
  {vs:List V} (hvs:Xs O xs.toList=some vs) {ds:List DV} {pure_:Bool} {p:Prop} (hd:WK O vs=some (ds,pure_,p)) (hp:p) {fr dp:Bool} {rs:List DV} (hc:Ctr P f ds fr rs) (hfr:fr=false->pure_=true)
  {g:Eff} (hg:Qq O o.dst fr dp rs=some g) {K:Act->World->Prop} {Q:Exit->Act->World->Prop} (hK:∀e' a' w',Zz N w0 e' (O.app g) a' w'->K a' w'):o.wp P a w K Q:=by
 obtain ⟨hok,hcall⟩:=hc;obtain ⟨FA,hFA,hpure⟩:=ZlX h hvs hd hp
 have hrun:(execOp a.eval o).run P w= .ok (.enter f (xs.toList.map a.eval).toArray) w:=by
  unfold X0 at hok
  split at hok
  ·rename_i fn hfn;simp only [ZAd,bne_iff_ne,ne_eq] at hok;obtain ⟨c,hb⟩:∃c,fn.body=some c:=Option.isSome_iff_exists.1 hok.2;have hargs:(xs.toList.map a.eval).toArray=xs.map a.eval:=by rw [<-Array.toList_inj];simp
   rw [hargs];simp [execOp,ho,resolve,Act.eval,Deferred.ofValue,invoke,callFunc,hfn,hok.1,hb]
  ·cases hok
 unfold Oper.wp;rw [hrun,Oper.upon_enter];refine (hcall w _ FA (h.fr.glb.imp fun _ g=>g.1) hFA).mono fun en w' hR=> ?_;obtain ⟨us,rfl,hres,hbel⟩:=hR;simp only;unfold Qq at hg
 split at hg
 ·rename_i hdst;obtain rfl:=Zz9 hg;rw [hdst];have:=h.Zhe hbel (q:=[]) (by simp) (by simp) (by simp) (by simp) false (tm:=O.tm) (a':=a) h.nt h.df (fun u _ t x ht=>.inl ⟨ht,rfl⟩);exact hK _ _ _ this
 ·rename_i d hdst;rw [hdst]
  split at hg
  ·rename_i hlt
   split at hg
   ·rename_i hfr';subst hfr'
    split at hg
    ·rename_i hall;obtain rfl:=Zz9 hg;simp only [ZdF,if_true] at hres;obtain ⟨F,k1,k2⟩:=hres;obtain ⟨q,q1,q2,rfl,q4,_⟩:=ZcK (τ:=base dp d) k1;have hkeys:q.map (·.τ)=(Zah (base dp d) rs).2.map (·.1):=by rw [<-q1,List.map_map];rfl
     have har:JM q=(Zah (base dp d) rs).2.map fun p=>(p.1,some p.2):=by rw [<-q1,List.map_map];rfl
     have:=h.Zhe hbel (q:=q) q2 (by rw [hkeys];exact (Zfc rs (base dp d)).1) k2 (fun i hi=>by
      rw [List.all_eq_true] at hall;have:=hall (i.τ,i.A) (by rw [<-q1];exact List.mem_map.2 ⟨i,hi,rfl⟩)
      simpa using this) dp (tm:=(d,Zkc (Zah (base dp d) rs).1)::O.tm) (a':=a.put (some d) (Zmh us)) (by rw [Z8];exact h.nt) (by rw [ZP];exact h.df)
      (fun u hq'=>Kp (by rw [h.nt];exact hlt) (Ze2 (q4 _ _ fun i hi=>hq' i hi)))
     rw [har] at this;exact hK _ _ _ this
    ·cases hg
   ·rename_i hfr';have hfr':fr=false:=by simpa using hfr'
    subst hfr';obtain rfl:=Zz9 hg;simp only [ZdF,ZAf,if_false] at hres;obtain ⟨F,k1,k2⟩:=hres
    have:=h.Zhe hbel (q:=[]) (by simp) (by simp) (by simp) (by simp) false (tm:=(d,Zkc (rs.map ptD))::O.tm) (a':=a.put (some d) (Zmh us)) (by rw [Z8];exact h.nt) (by rw [ZP];exact h.df)
     (fun u hq'=>Kp (by rw [h.nt];exact hlt) (Ze2 (Vw k1 fun b hb hm=>by
      rcases k2 b hb with g1| g1
      ·have hbl:=(Zjq hFA b g1);exact hpure (hfr rfl) b g1 (u.mt b hbl hm)
      ·rcases hm with (h0| ⟨_,h0,_⟩)| ⟨k,cs,h1,h2⟩| ⟨κ,A,h1,h2⟩
       ·have:=(h.bad.2 b h0).1;omega
       ·cases h0
       ·have:=(h.Yg (κ:=.b k) ⟨cs,h1⟩ (e.β k) (by simp [blk])).1;have h2':e.β k=b:=h2;omega
       ·have h1':O.ar.lookup κ=some (some A):=h1;have h2':(e.ρ κ).ownBlock=some b:=h2;have:=(h.Yg (κ:=.a κ) ⟨A,h1'⟩ b ((h.ar κ A h1').own h2').1).1;omega)))
    exact hK _ _ _ this
  ·cases hg
end
structure But (b:Nat) (w w':World):Prop where
 os:w'.os=w.os
 tape:w'.tape=w.tape
 output:w'.output=w.output
 size:w.heap.size<=w'.heap.size
 block:∀x,x<w.heap.size->x≠b->w'.heap[x]? =w.heap[x]?
def Ztb (fr:Bool) (w w':World) (b:Nat) (FA FS:List Nat) (rs:List DV) (us:List Value):Prop:=
 if fr then ∃F,ZdY (fun x=>w.heap.size<=x\/x=b) w' rs us F/\F.Nodup/\b∉F/\∀u∈us,∀v∈Uk u,∀x,v.ownBlock=some x->x∉FS
 else ∃F,Yn w' rs us F/\∀x∈F,x≠b/\(x∈FA\/w.heap.size<=x)
def ZcU (P:Program) (f:Nat) (d1:List DV) (cs:List L) (d2:List DV) (fr:Bool) (rs:List DV) (cs':List L):Prop:=
 X0 P f=true/\∀(w:World) (vs1 vs2:List Value) (F1 F2 FS:List Nat) (b:Nat) (cur:Array Value) (ty:TypeId),(∃G,Glb w G/\¬G b)->Yn w d1 vs1 F1->Yn w d2 vs2 F2->w.heap[b]? =some (.cells cur ty (0,0))->RpL w cs cur.toList FS->b∉F1++(F2++FS)->
  Calls P f (vs1++.pointer (some ⟨b,0,none⟩)::vs2).toArray w fun e w'=>∃us cur' ty' FS',e= .returned (Zmh us)/\w'.heap[b]? =some (.cells cur' ty' (0,0))/\RpL w' cs' cur'.toList FS'/\
   (∀x∈FS',x≠b/\(x∈F1++(F2++FS)\/w.heap.size<=x))/\Ztb fr w w' b (F1++(F2++FS)) FS' rs us/\But b w w'
def ZkL (P:Program) (f:Nat) (d1:List DV) (cs:List L) (d2:List DV) (fr:Bool) (rs:List DV) (cs':List L) (X:List Value->List Value->Prop):Prop:=
 X0 P f=true/\∀(w:World) (vs1 vs2:List Value) (F1 F2 FS:List Nat) (b:Nat) (cur:Array Value) (ty:TypeId),(∃G,Glb w G/\¬G b)->Yn w d1 vs1 F1->Yn w d2 vs2 F2->w.heap[b]? =some (.cells cur ty (0,0))->RpL w cs cur.toList FS->b∉F1++(F2++FS)->
  Calls P f (vs1++.pointer (some ⟨b,0,none⟩)::vs2).toArray w fun e w'=>∃us cur' ty' FS',e= .returned (Zmh us)/\w'.heap[b]? =some (.cells cur' ty' (0,0))/\RpL w' cs' cur'.toList FS'/\
   (∀x∈FS',x≠b/\(x∈F1++(F2++FS)\/w.heap.size<=x))/\Ztb fr w w' b (F1++(F2++FS)) FS' rs us/\But b w w'/\X cur.toList cur'.toList
theorem ZcU.toX {P:Program} {f:Nat} {d1 d2:List DV} {cs cs':List L} {fr:Bool} {rs:List DV} (h:ZcU P f d1 cs d2 fr rs cs'):ZkL P f d1 cs d2 fr rs cs' fun _ _=>True:=
 ⟨h.1,fun w vs1 vs2 F1 F2 FS b cur ty hG h1 h2 h3 h4 h5=>(h.2 w vs1 vs2 F1 F2 FS b cur ty hG h1 h2 h3 h4 h5).mono fun en w' hR=>by
  obtain ⟨us,cur',ty',FS',k1,k2,k3,k4,k5,k6⟩:=hR;exact ⟨us,cur',ty',FS',k1,k2,k3,k4,k5,k6,trivial⟩⟩
theorem ZkL.ZyU {P:Program} {f:Nat} {d1 d2:List DV} {cs cs':List L} {fr:Bool} {rs:List DV} {X:List Value->List Value->Prop} (h:ZkL P f d1 cs d2 fr rs cs' X):ZcU P f d1 cs d2 fr rs cs':=
 ⟨h.1,fun w vs1 vs2 F1 F2 FS b cur ty hG h1 h2 h3 h4 h5=>(h.2 w vs1 vs2 F1 F2 FS b cur ty hG h1 h2 h3 h4 h5).mono fun en w' hR=>by
  obtain ⟨us,cur',ty',FS',k1,k2,k3,k4,k5,k6,_⟩:=hR;exact ⟨us,cur',ty',FS',k1,k2,k3,k4,k5,k6⟩⟩
def Zlq:List L->List Value->List Value->Prop
 | .sl _::ls,v::vs,u::us=>u=v/\Zlq ls vs us
 | .sl _::_,_,_=>False
 | _::ls,vs,us=>Zlq ls (vs.drop 1) (us.drop 1)
 | [],_,_=>True
def Zyn (P:Program) (f:Nat) (d1:List DV) (cs:List L) (d2:List DV) (fr:Bool) (rs:List DV) (cs':List L):Prop:=ZkL P f d1 cs d2 fr rs cs' (Zlq cs')
def Zrc:List CV->List L->List CV
 | .kept v _::cs,.sl es::ls=>.kept v (.sl es)::Zrc cs ls
 | _::cs,x::ls=>.l x::Zrc cs ls
 | [],ls=>ls.map .l
 | _,[]=>[]
def Zr8 (P:Program) (f:Nat) (ds:List DV) (cs:List L):Prop:=
 X0 P f=true/\∀(w:World) (vs:List Value) (FA:List Nat),(∃G,Glb w G)->Yn w ds vs FA->
  Calls P f vs.toArray w fun e w'=>∃b cur ty FS,e= .returned (.pointer (some ⟨b,0,none⟩))/\w.heap.size<=b/\w'.heap[b]? =some (.cells cur ty (0,0))/\RpL w' cs cur.toList FS/\(∀x∈FS,x≠b/\(x∈FA\/w.heap.size<=x))/\Below w.heap.size w w'
def frC (O:St):CV->Option (L×List Nat×Prop)
 | .l x=>some (x,[],True)
 | .kept _ x=>some (x,[],True)
 | .nil=>some (.sl [],[],True)
 | .own τ n=>match O.ar.lookup τ with
  | some (some A)=>some (.sl A.es,[τ],A.es.length=n/\τ<1000000)
  | _=>none
 | _=>none
def frL (O:St):List CV->Option (List L×List Nat×Prop)
 | []=>some ([],[],True)
 | c::cs=>match frC O c,frL O cs with
  | some (x,t,p),some (xs,u,q)=>some (x::xs,t++u,p/\q)
  | _,_=>none
def frV (O:St):V->Option (DV×List Nat×Prop)
 | .one c=>(frC O c).map fun r=>(.one r.1,r.2)
 | .agg cs=>(frL O cs).map fun r=>(.agg r.1,r.2)
 | _=>none
def Zf2 (O:St):List V->Option (List DV×List Nat×Prop)
 | []=>some ([],[],True)
 | v::vs=>match frV O v,Zf2 O vs with
  | some (x,t,p),some (xs,u,q)=>some (x::xs,t++u,p/\q)
  | _,_=>none
def St.frz (O:St) (τs:List Nat):St:=⟨O.nt,O.tm,O.bx,τs.map (fun τ=>(τ,none))++O.ar⟩
def ZkS (O:St) (j:Nat) (vs:List V):Option (List DV×Nat×List L×List DV×List Nat×Prop):=
 match vs.drop j with
 | .one (.box k 0)::post=>match Zf2 O (vs.take j),O.bx.lookup k,Zf2 O post with
  | some (d1,t1,p1),some cells,some (d2,t2,p2)=>match frL O cells with
   | some (ls,t3,p3)=>some (d1,k,ls,d2,t1++(t2++t3),p1/\p2/\p3)
   | none=>none
  | _,_,_=>none
 | _=>none
def VL (O:St) (dst:Option Nat) (k:Nat) (τs:List Nat) (fr:Bool) (rs:List DV) (ls:List L):Option Eff:=
 match dst with
 | none=>some ⟨True,[],[(k,ls.map .l)],τs.map fun τ=>(τ,none)⟩
 | some d=>if d<O.nt then
   if fr then
    if (Zah (64*d) rs).2.all (fun p=>(O.ar.lookup p.1).isNone&&decide (p.1<1000000)) then
     some ⟨True,[(d,Zkc (Zah (64*d) rs).1)],[(k,ls.map .l)],((Zah (64*d) rs).2.map fun p=>(p.1,some p.2))++τs.map fun τ=>(τ,none)⟩
    else none
   else some ⟨True,[(d,Zkc (rs.map ptD))],[(k,ls.map .l)],τs.map fun τ=>(τ,none)⟩
  else none
structure LeB (O O':St) (g:Eff):Prop where
 nt:O'.nt=O.nt
 bx:∀k cs,O.bx.lookup k=some cs->O'.bx.lookup k=some cs
 ar:∀τ A,O.ar.lookup τ=some A->O'.ar.lookup τ=some A
 fb:∀p∈g.bx,O.bx.lookup p.1=none->O'.bx.lookup p.1=none
 fa:∀p∈g.ar,O.ar.lookup p.1=none->O'.ar.lookup p.1=none
theorem LeB.trans {O O1 O2:St} {g:Eff} (h:LeB O O1 g) (k:LeB O1 O2 g):LeB O O2 g:=
 ⟨k.nt.trans h.nt,fun t v ht=>k.bx t v (h.bx t v ht),fun t v ht=>k.ar t v (h.ar t v ht),fun p hp hn=>k.fb p hp (h.fb p hp hn),fun p hp hn=>k.fa p hp (h.fa p hp hn)⟩
def ZkN (P:Program) (O:St) (dst:Option Nat) (f:Nat) (vs:List V) (g:Eff):Prop:=
 X0 P f=true/\(∀p∈g.tm,dst=some p.1)/\∀O',LeB O O' g->∀(N:Nat->Prop) (w0:Bs) (e:Env) (a:Act) (w:World) (us:List Value),Zz N w0 e O' a w->us.length=vs.length->(∀(j:Nat) (v:V),vs[j]? =some v->∃u,us[j]? =some u/\v.rel e O' w u)->
  Calls P f us.toArray w fun ex w'=>∃u e',ex= .returned u/\Zz N w0 e' (O'.app g) (a.put dst u) w'
theorem ZkN.le {P:Program} {O O':St} {dst:Option Nat} {f:Nat} {vs:List V} {g:Eff} (h:ZkN P O dst f vs g) (k:LeB O O' g):ZkN P O' dst f vs g:=⟨h.1,h.2.1,fun O2 k2=>h.2.2 O2 (k.trans k2)⟩
inductive ZfB (P:Program) (O:St) (dst:Option Nat) (f:Nat) (vs:List V):Eff->Prop where
 | ptr (j:Nat) (d1:List DV) (k:Nat) (ls:List L) (d2:List DV) (τs:List Nat) (p:Prop) (fr:Bool) (rs:List DV) (ls':List L) (g:Eff) (h1:ZkS O j vs=some (d1,k,ls,d2,τs,p)) (h2:p) (h3:ZcU P f d1 ls d2 fr rs ls') (h4:VL O dst k τs fr rs ls'=some g):ZfB P O dst f vs g
 | ptrS (j:Nat) (d1:List DV) (k:Nat) (ls:List L) (d2:List DV) (τs:List Nat) (p:Prop) (fr:Bool) (rs:List DV) (ls':List L) (g:Eff) (cells:List CV) (h1:ZkS O j vs=some (d1,k,ls,d2,τs,p)) (h2:p) (h3:Zyn P f d1 ls d2 fr rs ls') (h4:VL O dst k τs fr rs ls'=some g) (h5:O.bx.lookup k=some cells):ZfB P O dst f vs ⟨g.side,g.tm,[(k,Zrc cells ls')],g.ar⟩
 | box (ds:List DV) (τs:List Nat) (p:Prop) (cs:List L) (d:Nat) (h1:Zf2 O vs=some (ds,τs,p)) (h2:p) (h3:Zr8 P f ds cs) (h4:dst=some d) (h5:d<O.nt) (h6:O.bx.lookup d=none):ZfB P O dst f vs ⟨True,[(d,.one (.box d 0))],[(d,cs.map .l)],τs.map fun τ=>(τ,none)⟩
 | froz (ds:List DV) (τs:List Nat) (p:Prop) (rs:List DV) (d:Nat) (h1:Zf2 O vs=some (ds,τs,p)) (h2:p) (h3:Ctr P f ds false rs) (h4:dst=some d) (h5:d<O.nt):ZfB P O dst f vs ⟨True,[(d,Zkc (rs.map ptD))],[],τs.map fun τ=>(τ,none)⟩
 | hand (g:Eff) (h:ZkN P O dst f vs g):ZfB P O dst f vs g
section
variable {e:Env} {O:St} {w:World} {N:Nat->Prop} {w0:Bs} {a:Act} {P:Program}
theorem ZcN {τs:List Nat} {τ:Nat}:(O.frz τs).ar.lookup τ=if τ∈τs then some none else O.ar.lookup τ:=by
 show (τs.map (fun τ=>(τ,(none:Option Arr)))++O.ar).lookup τ=_
 induction τs with
 | nil=>simp
 | cons t τs ih=>
  simp only [List.map_cons,List.cons_append,lookup_cons,List.mem_cons]
  by_cases h:τ=t
  ·simp [h]
  ·simp only [h,false_or,if_false];exact ih
theorem Zhh {τs:List Nat} {τ:Nat} {A:Arr} (h:(O.frz τs).ar.lookup τ=some (some A)):τ∉τs/\O.ar.lookup τ=some (some A):=by
 rw [ZcN] at h
 split at h
 ·cases h
 ·exact ⟨by assumption,h⟩
theorem Zih {τs:List Nat} {b:Nat} (h:Mut e (O.frz τs) b):Mut e O b:=by
 rcases h with h| ⟨k,cs,h1,h2⟩| ⟨τ,A,h1,h2⟩
 ·exact .inl h
 ·exact .inr (.inl ⟨k,cs,h1,h2⟩)
 ·exact .inr (.inr ⟨τ,A,(Zhh h1).2,h2⟩)
theorem Zz.frz (h:Zz N w0 e O a w) (τs:List Nat):Zz N w0 e (O.frz τs) a w:=by
 have u:Up e O w e (O.frz τs) w:=⟨ZAe _,fun _ _ _=>rfl,fun b _ hm=>Zih hm,fun k cs hk=>⟨⟨cs,hk⟩,rfl⟩,fun τ A hA=>by
  rw [ZcN]
  split
  ·exact ⟨none,rfl,fun B hB=>by cases hB⟩
  ·exact ⟨A,hA,fun B hB=>⟨B,hB,ZAe _,fun _=>rfl⟩⟩,fun _ _ _ _=>⟨rfl,fun _ _=>rfl⟩⟩
 exact h.Zox u (fun _=>False) h.nt h.df (fun t v ht=>.inl ⟨ht,rfl⟩) (fun k cs hk _=>⟨hk,rfl⟩) (fun τ A hA _=>⟨(Zhh hA).2,rfl,rfl,fun _ _=>rfl⟩)
  (fun _ _ _ h=>h.elim) (fun _ _ _ h=>h.elim) (fun _ _ h=>h.elim) (fun _ _ _ _ _ h=>h.elim) h.fr (fun _ h=>h) (fun _ h=>.inl h) (fun _ _ h=>h.elim) (fun _ _ _ h=>h.elim) (fun _ _ _ h=>h.elim)
theorem Zkv (h:Zz N w0 e O a w) {c:CV} {v:Value} (hr:c.rel e O w v) {x:L} {ts:List Nat} {p:Prop} (hd:frC O c=some (x,ts,p)) (hp:p) {τs:List Nat} (hs:∀τ∈ts,τ∈τs):∃F,Rp w x v F/\∀b∈F,¬Mut e (O.frz τs) b:=by
 unfold frC at hd
 split at hd
 ·simp only [ZAb,ZAc] at hd;obtain ⟨rfl,rfl,rfl⟩:=hd;obtain ⟨F,h1,h2⟩:=hr;exact ⟨F,h1,fun b hb hm=>h2 b hb (Zih hm)⟩
 ·simp only [ZAb,ZAc] at hd;obtain ⟨rfl,rfl,rfl⟩:=hd;obtain ⟨_,F,h1,h2⟩:=hr;exact ⟨F,h1,fun b hb hm=>h2 b hb (Zih hm)⟩
 ·simp only [ZAb,ZAc] at hd;obtain ⟨rfl,rfl,rfl⟩:=hd;have hv:v= .slice none 0 0:=hr;subst hv;refine ⟨[], ?_,by simp⟩;simp only [Rp];exact ⟨none,0,rfl,ZAe _,by omega,.inl (by simp)⟩
 ·rename_i τ n
  split at hd
  ·rename_i A hA;simp only [ZAb,ZAc] at hd;obtain ⟨rfl,rfl,rfl⟩:=hd;obtain ⟨A',hA',h1,_⟩:=hr;rw [hA] at hA';obtain rfl:=Zz9 hA';have hv:=(h1 A rfl).2 hp.1;subst hv;have hτ:τ∈τs:=hs τ (by simp);obtain ⟨p',c,hρ,g1,g2,hc| ⟨b,vs,Fs,W,rfl,q2,q3,q4,q5,q6⟩⟩:=h.elems hA hp.2
   ·refine ⟨[], ?_,by simp⟩;simp only [Rp];exact ⟨p',c,hρ,g1,g2,.inl (by simp [hc])⟩
   ·refine ⟨b::Fs, ?_,fun x hx hm=> ?_⟩
    ·simp only [Rp];exact ⟨_,c,hρ,g1,g2,.inr ⟨b,0,vs,Fs,rfl,(h.Yg (κ:=.a τ) ⟨A,hA⟩ b q5).1,rfl,q2,q4⟩⟩
    ·rcases List.mem_cons.1 hx with rfl| hx
     ·rcases hm with hb| ⟨j,cs,g3,g4⟩| ⟨τ',A',g3,g4⟩
      ·have h1:1000000<=τ:=(h.bad.2 x hb).2 (.a τ) ⟨A,hA⟩ q5;have h2:=hp.2;omega
      ·exact h.sep (.b j) (.a τ) ⟨cs,g3⟩ ⟨A,hA⟩ (by simp) x (by simp only [blk,List.mem_singleton];exact g4.symm) q5
      ·obtain ⟨hn,g3⟩:=Zhh g3;exact h.sep (.a τ') (.a τ) ⟨A',g3⟩ ⟨A,hA⟩ (by rintro ⟨⟩;exact hn hτ) x ((h.ar τ' A' g3).own g4).1 q5
     ·exact q6 x hx (Zih hm)
  ·cases hd
 ·cases hd
theorem ZvD:∀{cs:List CV} {x:List L×List Nat×Prop},frL O cs=some x->V7 cs=true
 | [],_,_=>rfl
 | [c],_,h=>by cases c<;>first | rfl| (simp [frL,frC] at h)
 | _::_::_,_,_=>rfl
theorem ZmY (h:Zz N w0 e O a w) {τs:List Nat}:∀{cs:List CV} {vs:List Value},Z6 e O w cs vs->∀{xs:List L} {ts:List Nat} {p:Prop},frL O cs=some (xs,ts,p)->p->(∀τ∈ts,τ∈τs)->∃F,RpL w xs vs F/\∀b∈F,¬Mut e (O.frz τs) b
 | [],vs,hr,xs,f,p,hd,hp,hs=>by
  simp only [Z6] at hr;subst hr;simp only [frL,ZAb,ZAc] at hd;obtain ⟨rfl,rfl,rfl⟩:=hd;exact ⟨[],by simp [RpL],by simp⟩
 | c::cs,vs,hr,xs,f,p,hd,hp,hs=>by
  simp only [Z6] at hr;obtain ⟨v,vs',rfl,h1,h2⟩:=hr;simp only [frL] at hd
  split at hd
  ·rename_i x f1 p1 xs2 f2 p2 e1 e2;simp only [ZAb,ZAc] at hd;obtain ⟨rfl,rfl,rfl⟩:=hd;obtain ⟨F1,k1,k2⟩:=Zkv h h1 e1 hp.1 (τs:=τs) fun τ hτ=>hs τ (by simp [hτ]);obtain ⟨F2,g1,g2⟩:=ZmY h h2 e2 hp.2 fun τ hτ=>hs τ (by simp [hτ]);refine ⟨F1++F2,by simp only [RpL];exact ⟨v,vs',F1,F2,rfl,rfl,k1,g1⟩,fun b hb=> ?_⟩;rcases List.mem_append.1 hb with hb| hb
   ·exact k2 b hb
   ·exact g2 b hb
  ·cases hd
theorem ZtU (h:Zz N w0 e O a w) {τs:List Nat} {x:V} {v:Value} (hr:x.rel e O w v) {d:DV} {ts:List Nat} {p:Prop} (hd:frV O x=some (d,ts,p)) (hp:p) (hs:∀τ∈ts,τ∈τs):∃F,Zcl w d v F/\∀b∈F,¬Mut e (O.frz τs) b:=by
 cases x with
 | one c=>
  simp only [frV] at hd;obtain ⟨⟨y,f',p'⟩,h1,h2⟩:=Option.map_eq_some_iff.1 hd;simp only [ZAc] at h2;obtain ⟨rfl,rfl,rfl⟩:=h2;exact Zkv h hr h1 hp hs
 | agg cs=>
  simp only [frV] at hd;obtain ⟨⟨y,f',p'⟩,h1,h2⟩:=Option.map_eq_some_iff.1 hd;simp only [ZAc] at h2;obtain ⟨rfl,rfl,rfl⟩:=h2;obtain ⟨vs,rfl,hr⟩:=hr;obtain ⟨F,g1,g2⟩:=ZmY h hr h1 hp hs;exact ⟨F,⟨vs,rfl,g1⟩,g2⟩
 | tup ps=>simp [frV] at hd
 | dead=>simp [frV] at hd
theorem Zfv (h:Zz N w0 e O a w) {τs:List Nat}:∀{ps:List Operand} {vs:List V},Xs O ps=some vs->∀{ds:List DV} {ts:List Nat} {p:Prop},Zf2 O vs=some (ds,ts,p)->p->(∀τ∈ts,τ∈τs)->∃F,Yn w ds (ps.map a.eval) F/\∀b∈F,¬Mut e (O.frz τs) b
 | [],vs,ho,ds,f,p,hd,hp,hs=>by
  simp only [Xs,ZAb] at ho;subst ho;simp only [Zf2,ZAb,ZAc] at hd;obtain ⟨rfl,rfl,rfl⟩:=hd;exact ⟨[],by simp [Yn],by simp⟩
 | o::ps,vs,ho,ds,f,p,hd,hp,hs=>by
  simp only [Xs] at ho
  split at ho
  ·rename_i v vs' hv hvs;obtain rfl:=Zz9 ho;simp only [Zf2] at hd
   split at hd
   ·rename_i x f1 p1 xs2 f2 p2 e1 e2;simp only [ZAb,ZAc] at hd;obtain ⟨rfl,rfl,rfl⟩:=hd;obtain ⟨F1,k1,k2⟩:=ZtU h (Zv h hv) e1 hp.1 (τs:=τs) fun τ hτ=>hs τ (by simp [hτ]);obtain ⟨F2,g1,g2⟩:=Zfv h hvs e2 hp.2 fun τ hτ=>hs τ (by simp [hτ]);refine ⟨F1++F2,by simp only [List.map_cons,Yn];exact ⟨_,_,F1,F2,rfl,rfl,k1,g1⟩,fun b hb=> ?_⟩;rcases List.mem_append.1 hb with hb| hb
    ·exact k2 b hb
    ·exact g2 b hb
   ·cases hd
  ·cases ho
theorem Zjf:∀{l:List Operand} {vs:List V} (j:Nat),Xs O l=some vs->Xs O (l.take j)=some (vs.take j)/\Xs O (l.drop j)=some (vs.drop j)
 | l,vs,0,h=>by simpa [Xs] using h
 | [],vs,j+1,h=>by simp only [Xs,ZAb] at h;subst h;simp [Xs]
 | o::l,vs,j+1,h=>by
  simp only [Xs] at h
  split at h
  ·rename_i v vs' hv hvs;obtain rfl:=Zz9 h;obtain ⟨h1,h2⟩:=Zjf j hvs;simp only [List.take_succ_cons,List.drop_succ_cons,Xs,hv,h1];exact ⟨trivial,h2⟩
  ·cases h
theorem Zrw (h:Zz N w0 e O a w) {l:List Operand} {vs:List V} (hvs:Xs O l=some vs) {j k:Nat} {d1 d2:List DV} {ls:List L} {τs:List Nat} {p:Prop} (hA:ZkS O j vs=some (d1,k,ls,d2,τs,p)) (hp:p):
  ∃vs1 vs2 F1 F2 cells cur ty FS,l.map a.eval=vs1++.pointer (some ⟨e.β k,0,none⟩)::vs2/\Yn w d1 vs1 F1/\Yn w d2 vs2 F2/\O.bx.lookup k=some cells/\w.heap[e.β k]? =some (.cells cur ty (0,0))/\RpL w ls cur.toList FS/\
   ∀x∈F1++(F2++FS),¬Mut e (O.frz τs) x:=by
 unfold ZkS at hA
 split at hA
 ·rename_i k' post hdrop
  split at hA
  ·rename_i d1' t1 p1 cells d2' t2 p2 e1 e2 e3
   split at hA
   ·rename_i ls' t3 p3 e4;simp only [ZAb,ZAc] at hA;obtain ⟨rfl,rfl,rfl,rfl,rfl,rfl⟩:=hA;obtain ⟨s1,s2⟩:=Zjf j hvs;rw [hdrop] at s2
    obtain ⟨o,r,hl⟩:∃o r,l.drop j=o::r:=by
     cases hd:l.drop j with
     | nil=>rw [hd] at s2;simp [Xs] at s2
     | cons o r=>exact ⟨o,r,rfl⟩
    rw [hl] at s2;simp only [Xs] at s2
    split at s2
    ·rename_i v vs' hv hr;obtain ⟨rfl,rfl⟩:=List.cons.inj (Zz9 s2);obtain ⟨F1,a1,a2⟩:=Zfv h s1 e1 hp.1 (τs:=t1++(t2++t3)) fun τ hτ=>by simp [hτ]
     obtain ⟨F2,b1,b2⟩:=Zfv h hr e3 hp.2.1 (τs:=t1++(t2++t3)) fun τ hτ=>by simp [hτ]
     obtain ⟨_,cur,ty,c1,c2⟩:=h.bxC e2 (ZvD e4);obtain ⟨FS,f1,f2⟩:=ZmY h c2 e4 hp.2.2 (τs:=t1++(t2++t3)) fun τ hτ=>by simp [hτ]
     refine ⟨_,_,F1,F2,cells,cur,ty,FS, ?_,a1,b1,e2,c1,f1,fun x hx=> ?_⟩
     ·have hb:a.eval o= .pointer (some ⟨e.β k',0,none⟩):=(Zv h hv).2;rw [<-hb,<-List.map_cons,<-List.map_append,<-hl,List.take_append_drop]
     ·rcases List.mem_append.1 hx with hx| hx
      ·exact a2 x hx
      ·rcases List.mem_append.1 hx with hx| hx
       ·exact b2 x hx
       ·exact f2 x hx
    ·cases s2
   ·cases hA
  ·cases hA
 ·cases hA
theorem Zn2 {c:CV} {x:L} {ts:List Nat} {p:Prop} (h:frC O c=some (x,ts,p)):∀τ∈ts,∃A,O.ar.lookup τ=some A:=by
 unfold frC at h
 split at h
 ·simp only [ZAb,ZAc] at h;simp [<-h.2.1]
 ·simp only [ZAb,ZAc] at h;simp [<-h.2.1]
 ·simp only [ZAb,ZAc] at h;simp [<-h.2.1]
 ·split at h
  ·rename_i A hA;simp only [ZAb,ZAc] at h;obtain ⟨_,rfl,_⟩:=h;intro τ hτ;simp at hτ;exact hτ▸⟨_,hA⟩
  ·cases h
 ·cases h
theorem Zku:∀{cs:List CV} {xs:List L} {ts:List Nat} {p:Prop},frL O cs=some (xs,ts,p)->∀τ∈ts,∃A,O.ar.lookup τ=some A
 | [],_,_,_,h=>by simp only [frL,ZAb,ZAc] at h;simp [<-h.2.1]
 | c::cs,_,_,_,h=>by
  simp only [frL] at h
  split at h
  ·rename_i h1 h2;simp only [ZAb,ZAc] at h;obtain ⟨_,rfl,_⟩:=h;intro τ hτ;rcases List.mem_append.1 hτ with hτ| hτ
   ·exact Zn2 h1 τ hτ
   ·exact Zku h2 τ hτ
  ·cases h
theorem ZrM {x:V} {d:DV} {ts:List Nat} {p:Prop} (h:frV O x=some (d,ts,p)):∀τ∈ts,∃A,O.ar.lookup τ=some A:=by
 cases x with
 | one c=>
  simp only [frV] at h;obtain ⟨⟨y,f',p'⟩,h1,h2⟩:=Option.map_eq_some_iff.1 h;simp only [ZAc] at h2;obtain ⟨_,rfl,_⟩:=h2;exact Zn2 h1
 | agg cs=>
  simp only [frV] at h;obtain ⟨⟨y,f',p'⟩,h1,h2⟩:=Option.map_eq_some_iff.1 h;simp only [ZAc] at h2;obtain ⟨_,rfl,_⟩:=h2;exact Zku h1
 | tup ps=>simp [frV] at h
 | dead=>simp [frV] at h
theorem Zij:∀{cs:List V} {xs:List DV} {ts:List Nat} {p:Prop},Zf2 O cs=some (xs,ts,p)->∀τ∈ts,∃A,O.ar.lookup τ=some A
 | [],_,_,_,h=>by simp only [Zf2,ZAb,ZAc] at h;simp [<-h.2.1]
 | c::cs,_,_,_,h=>by
  simp only [Zf2] at h
  split at h
  ·rename_i h1 h2;simp only [ZAb,ZAc] at h;obtain ⟨_,rfl,_⟩:=h;intro τ hτ;rcases List.mem_append.1 hτ with hτ| hτ
   ·exact ZrM h1 τ hτ
   ·exact Zij h2 τ hτ
  ·cases h
theorem Zp0 {vs:List V} {j k:Nat} {d1 d2:List DV} {ls:List L} {τs:List Nat} {p:Prop} (h:ZkS O j vs=some (d1,k,ls,d2,τs,p)):∀τ∈τs,∃A,O.ar.lookup τ=some A:=by
 unfold ZkS at h
 split at h
 ·split at h
  ·rename_i e1 e2 e3
   split at h
   ·rename_i e4;simp only [ZAb,ZAc] at h;obtain ⟨_,_,_,_,rfl,_⟩:=h;intro τ hτ;rcases List.mem_append.1 hτ with hτ| hτ
    ·exact Zij e1 τ hτ
    ·rcases List.mem_append.1 hτ with hτ| hτ
     ·exact Zij e3 τ hτ
     ·exact Zku e4 τ hτ
   ·cases h
  ·cases h
 ·cases h
theorem Zz.through (h:Zz N w0 e O a w) {k:Nat} {cells:List CV} (hk:O.bx.lookup k=some cells) {w':World} (hb:But (e.β k) w w') {cur:Array Value} {ty:TypeId} (hc:w'.heap[e.β k]? =some (.cells cur ty (0,0))) {ls:List L} {FS:List Nat} (hl:RpL w' ls cur.toList FS)
  {q:List Inc} (hq:∀i∈q,ZmU (fun x=>w.heap.size<=x\/x=e.β k) w' i) (hqb:e.β k∉q.flatMap (·.F)) (hkq:(q.map (·.τ)).Nodup) (hF:(q.flatMap (·.F)).Nodup) (hn:∀i∈q,O.ar.lookup i.τ=none) (hlow:∀i∈q,i.τ<1000000)
  (hFS:∀x∈FS,(w.heap.size<=x/\∀i∈q,i.v.ownBlock≠some x)\/(x<w.heap.size/\¬Mut e O x))
  {tm:List (Nat×V)} {a':Act} (hnt:a'.tmps.size=O.nt) (hdf:a'.defers=[])
  (htm:(∀x,(w.heap.size<=x/\∀i∈q,i.v.ownBlock≠some x)\/(x<w.heap.size/\¬Mut e O x)->¬Mut (Qp e q false) ⟨O.nt,tm,(k,ls.map .l)::O.bx,JM q++O.ar⟩ x)->(∀i∈q,(Qp e q false).ρ i.τ=i.v/\(JM q++O.ar).lookup i.τ=some (some i.A))->
   ∀t x,tm.lookup t=some x->(O.tm.lookup t=some x/\a'.tmps.getD t undef=a.tmps.getD t undef)\/x.rel (Qp e q false) ⟨O.nt,tm,(k,ls.map .l)::O.bx,JM q++O.ar⟩ w' (a'.tmps.getD t undef)):
  Zz N w0 (Qp e q false) ⟨O.nt,tm,(k,ls.map .l)::O.bx,JM q++O.ar⟩ a' w':=by
 have hρ:∀i∈q,(Qp e q false).ρ i.τ=i.v:=fun i hi=>by simp [Qp,US hkq i hi]
 have hφ:∀i∈q,(Qp e q false).φ i.τ=i.F:=fun i hi=>by simp [Qp,US hkq i hi]
 have hρ':∀κ,κ∉q.map (·.τ)->(Qp e q false).ρ κ=e.ρ κ:=fun κ hκ=>by simp [Qp,UR hκ]
 have hφ':∀κ,κ∉q.map (·.τ)->(Qp e q false).φ κ=e.φ κ:=fun κ hκ=>by simp [Qp,UR hκ]
 have hlive:∀κ A,O.ar.lookup κ=some A->κ∉q.map (·.τ):=fun κ A hA hm=>by
  obtain ⟨i,hi,rfl⟩:=List.mem_map.1 hm;rw [hn i hi] at hA;cases hA
 obtain ⟨hN,hlt⟩:=h.Yg (κ:=.b k) ⟨cells,hk⟩ (e.β k) (by simp [blk])
 have hnew:∀i∈q,∀b∈i.F,w.heap.size<=b:=fun i hi b hb'=>by
  rcases ((hq i hi).1.blocks b hb').1 with g| g
  ·exact g
  ·exact absurd (g▸Zkh hi hb') hqb
 have hlook:∀κ A,(JM q++O.ar).lookup κ=some (some A)->(∃i∈q,i.τ=κ/\A=i.A)\/(κ∉q.map (·.τ)/\O.ar.lookup κ=some (some A)):=by
  intro κ A hA
  by_cases hm:κ∈q.map (·.τ)
  ·obtain ⟨i,hi,rfl⟩:=List.mem_map.1 hm;rw [KH hkq i hi] at hA;exact .inl ⟨i,hi,rfl,(Zz9 (Zz9 hA)).symm⟩
  ·rw [KI hm] at hA;exact .inr ⟨hm,hA⟩
 have hmk:Mut e O (e.β k):=.inr (.inl ⟨k,cells,hk,rfl⟩)
 have hmu:∀b,Mut (Qp e q false) ⟨O.nt,tm,(k,ls.map .l)::O.bx,JM q++O.ar⟩ b->Mut e O b\/∃i∈q,i.v.ownBlock=some b:=by
  intro b hm;rcases hm with (h0| ⟨i,hi,hd,_⟩)| ⟨j,cs,h1,h2⟩| ⟨κ,A,h1,h2⟩
  ·exact .inl (.inl h0)
  ·have:=hlow i hi;omega
  ·simp only [lookup_cons] at h1
   by_cases hj:j=k
   ·subst hj;exact .inl ((show e.β j=b from h2)▸hmk)
   ·rw [if_neg hj] at h1;exact .inl (.inr (.inl ⟨j,cs,h1,h2⟩))
  ·rcases hlook κ A h1 with ⟨i,hi,rfl,rfl⟩| ⟨hm,hA⟩
   ·rw [hρ i hi] at h2;exact .inr ⟨i,hi,h2⟩
   ·rw [hρ' κ hm] at h2;exact .inl (.inr (.inr ⟨κ,A,hA,h2⟩))
 have hown:∀i∈q,∀b,i.v.ownBlock=some b->w.heap.size<=b:=fun i hi b hb'=>by
  have hok:=VJ.Zjg (N:=fun x=>w.heap.size<=x\/x=e.β k) (M:=fun _=>True) (hq i hi) (fun _ h=>h) (ZaH hF i hi);exact hnew i hi b (hok.own hb').1
 have hlt':∀b,Mut e O b->b<w.heap.size:=fun b hm=>by
  rcases hm with h0| ⟨j,cs,h1,h2⟩| ⟨κ,A,h1,h2⟩
  ·exact (h.bad.2 b h0).1
  ·exact h2▸(h.Yg (κ:=.b j) ⟨cs,h1⟩ (e.β j) (by simp [blk])).1
  ·exact (h.Yg (κ:=.a κ) ⟨A,h1⟩ b ((h.ar κ A h1).own h2).1).1
 have hnm:∀x,(w.heap.size<=x/\∀i∈q,i.v.ownBlock≠some x)\/(x<w.heap.size/\¬Mut e O x)->¬Mut (Qp e q false) ⟨O.nt,tm,(k,ls.map .l)::O.bx,JM q++O.ar⟩ x:=by
  intro x hx hm;rcases hmu x hm with g| ⟨i,hi,g⟩
  ·rcases hx with ⟨hx,_⟩| ⟨_,hx⟩
   ·have:=hlt' x g;omega
   ·exact hx g
  ·rcases hx with ⟨_,hx⟩| ⟨hx,_⟩
   ·exact hx i hi g
   ·have:=hown i hi x g;omega
 have u:Up e O w (Qp e q false) ⟨O.nt,tm,(k,ls.map .l)::O.bx,JM q++O.ar⟩ w':=by
  refine ⟨hb.size,fun b hlt hm=>hb.block b hlt fun he=>hm (he▸hmk),fun b hlt hm=> ?_,fun j cs hj=>⟨?_,rfl⟩,fun κ A hA=> ?_,fun κ _ ⟨B,hB⟩ _=>⟨hρ' κ (hlive κ _ hB),fun b hb'=>hb.block b (h.Yg (κ:=.a κ) ⟨B,hB⟩ b ((h.ar κ B hB).own hb').1).1 fun e'=>h.sep (.b k) (.a κ) ⟨cells,hk⟩ ⟨B,hB⟩ (by simp) (e.β k) (by simp [blk]) (e'▸((h.ar κ B hB).own hb').1)⟩⟩
  ·rcases hmu b hm with g| ⟨i,hi,g⟩
   ·exact g
   ·have:=hown i hi b g;omega
  ·simp only [lookup_cons]
   split
   ·exact ⟨_,rfl⟩
   ·exact ⟨cs,hj⟩
  ·have hm:=hlive κ A hA;refine ⟨A, ?_,fun B hB=>⟨B,hB,ZAe _,fun _=>hρ' κ hm⟩⟩;show (JM q++O.ar).lookup κ=some A;rw [KI hm];exact hA
 refine h.Zox u (fun κ=>κ= .b k\/∃i∈q,κ= .a i.τ) hnt hdf (htm hnm fun i hi=>⟨hρ i hi,KH hkq i hi⟩) (fun j cs hj hK=> ?_) (fun κ A hA hK=> ?_)
  (fun j cs hj hK=> ?_) (fun κ A hA hK=> ?_) (fun κ hl hK b hb'=> ?_) (fun κ κ' _ _ hne hK hK' b hb'=> ?_) ?_ (fun b h=>.inl h) (fun b hb'=> ?_) (fun κ _ hK hd b hb'=> ?_) (fun j cs _ hK hle=>by
   rcases hK with hK| ⟨i,_,hK⟩
   ·injection hK with hK;subst hK;exact h.pn _ cells hk hle
   ·cases hK) (fun κ b _ hK hb=>by
   rcases hK with rfl| ⟨i,hi,rfl⟩
   ·exact h.tp (.b k) b ⟨cells,hk⟩ hb
   ·rcases hb with hb| ⟨hb,_⟩
    ·rw [hρ i hi] at hb;have hok:=VJ.Zjg (N:=fun x=>w.heap.size<=x\/x=e.β k) (M:=fun _=>True) (hq i hi) (fun _ h=>h) (ZaH hF i hi);rcases (hok.own hb).2.1 with g| g
     ·exact h.fr.new b (Nat.le_trans h.fr.size g)
     ·exact h.tp (.b k) b ⟨cells,hk⟩ g
    ·have:=hlow i hi;omega)
 ·have hjk:j≠k:=fun e=>hK (.inl (by rw [e]));simp only [lookup_cons,if_neg hjk] at hj;exact ⟨hj,hb.block _ (h.Yg (κ:=.b j) ⟨cs,hj⟩ _ (by simp [blk])).1 fun e'=>h.sep (.b j) (.b k) ⟨cs,hj⟩ ⟨cells,hk⟩ (by simp [hjk]) (e.β j) (by simp [blk]) (by simp [blk,e'])⟩
 ·rcases hlook κ A hA with ⟨i,hi,rfl,rfl⟩| ⟨hm,hA'⟩
  ·exact absurd (.inr ⟨i,hi,rfl⟩) hK
  ·exact ⟨hA',hρ' κ hm,hφ' κ hm,fun b hb'=>hb.block b (h.Yg (κ:=.a κ) ⟨A,hA'⟩ b hb').1 fun e'=>h.sep (.b k) (.a κ) ⟨cells,hk⟩ ⟨A,hA'⟩ (by simp) (e.β k) (by simp [blk]) (e'▸hb')⟩
 ·obtain rfl:j=k:=by
   rcases hK with hK| ⟨i,_,hK⟩
   ·injection hK
   ·cases hK
  simp only [lookup_cons,if_true] at hj;obtain rfl:=Zz9 hj;obtain ⟨g1,_⟩:=h.bx j cells hk;exact ⟨g1,.inl ⟨cur,ty,hc,We hl fun x hx=>hnm x (hFS x hx)⟩⟩
 ·rcases hK with hK| ⟨i,hi,h9⟩
  ·cases hK
  injection h9 with h9
  subst h9;rcases hlook i.τ A hA with ⟨j,hj,hji,rfl⟩| ⟨hm,_⟩
  ·have:j=i:=by
    have h1:=US hkq j hj;have h2:=US hkq i hi;rw [hji,h2] at h1;exact (Zz9 h1).symm
   subst this;rw [hρ j hi,hφ j hi];refine VJ.Zjg (hq j hi) (fun b hb'=> ?_) (ZaH hF j hi);rcases hb' with g| rfl
   ·exact h.tn b (h.fr.new b (Nat.le_trans h.fr.size g))
   ·exact hlt
  ·exact absurd (List.mem_map.2 ⟨i,hi,rfl⟩) hm
 ·rcases hK with rfl| ⟨i,hi,rfl⟩
  ·exact .inl ⟨⟨cells,hk⟩,hb'⟩
  ·simp only [blk,hφ i hi] at hb';exact .inr (.inr (hnew i hi b hb'))
 ·rcases hK with rfl| ⟨i,hi,rfl⟩<;>rcases hK' with rfl| ⟨j,hj,rfl⟩
  ·exact absurd rfl hne
  ·simp only [blk,hφ j hj,List.mem_singleton] at hb' ⊢;have hb'':b=e.β k:=hb';subst hb'';intro g;have:=hnew j hj _ g;omega
  ·simp only [blk,hφ i hi,List.mem_singleton] at hb' ⊢;intro g;have g':b=e.β k:=g;have:=hnew i hi b hb';omega
  ·simp only [blk,hφ i hi,hφ j hj] at hb' ⊢;exact ZcO hF i hi j hj (fun e'=>hne (by rw [e'])) b hb'
 ·exact ⟨h.fr.gl,hb.os.trans h.fr.os,hb.tape.trans h.fr.tape,hb.output.trans h.fr.output,Nat.le_trans h.fr.size hb.size,fun b hlt2 hn2=>(hb.block b (Nat.lt_of_lt_of_le hlt2 h.fr.size) fun e'=>hn2 (e'▸h.tp (.b k) _ ⟨cells,hk⟩ rfl)).trans (h.fr.block b hlt2 hn2),h.fr.new⟩
 ·rcases hb' with hb'| ⟨i,hi,hd,_⟩
  ·exact .inl hb'
  ·have:=hlow i hi;omega
 ·rcases hK with rfl| ⟨i,hi,rfl⟩
  ·exact hd.elim
  ·have h1:=hlow i hi;have h2:1000000<=i.τ:=hd;omega
theorem Zz.got (h:Zz N w0 e O a w) {d:Nat} (hd:d<O.nt) (hn:O.bx.lookup d=none) {w':World} (hb:Below w.heap.size w w') {b:Nat} (hbn:w.heap.size<=b) {cur:Array Value} {ty:TypeId} (hc:w'.heap[b]? =some (.cells cur ty (0,0))) {ls:List L} {FS:List Nat} (hl:RpL w' ls cur.toList FS)
  (hFS:∀x∈FS,x≠b/\(w.heap.size<=x\/(x<w.heap.size/\¬Mut e O x))):
  Zz N w0 { e with β:=fun k=>if k=d then b else e.β k} ⟨O.nt,(d,.one (.box d 0))::O.tm,(d,ls.map .l)::O.bx,O.ar⟩ (a.put (some d) (.pointer (some ⟨b,0,none⟩))) w':=by
 have hmu:∀x,Mut { e with β:=fun k=>if k=d then b else e.β k} ⟨O.nt,(d,.one (.box d 0))::O.tm,(d,ls.map .l)::O.bx,O.ar⟩ x->x=b\/Mut e O x:=by
  intro x hm;rcases hm with h0| ⟨k,cs',h1,h2⟩| h1
  ·exact .inr (.inl h0)
  ·simp only [lookup_cons] at h1
   by_cases hk:k=d
   ·simp [hk] at h2;exact .inl h2.symm
   ·simp only [if_neg hk] at h1 h2;exact .inr (.inr (.inl ⟨k,cs',h1,h2⟩))
  ·exact .inr (.inr (.inr h1))
 have hlt':∀b,Mut e O b->b<w.heap.size:=fun b hm=>by
  rcases hm with h0| ⟨j,cs,h1,h2⟩| ⟨κ,A,h1,h2⟩
  ·exact (h.bad.2 b h0).1
  ·exact h2▸(h.Yg (κ:=.b j) ⟨cs,h1⟩ (e.β j) (by simp [blk])).1
  ·exact (h.Yg (κ:=.a κ) ⟨A,h1⟩ b ((h.ar κ A h1).own h2).1).1
 have u:Up e O w { e with β:=fun k=>if k=d then b else e.β k} ⟨O.nt,(d,.one (.box d 0))::O.tm,(d,ls.map .l)::O.bx,O.ar⟩ w':=by
  refine ⟨hb.size,fun b hb' _=>hb.block b hb',fun x hx hm=> ?_,fun k cs' hk=> ?_,fun τ A hA=>⟨A,hA,fun B hB=>⟨B,hB,ZAe _,fun _=>rfl⟩⟩,fun τ _ ⟨B,hB⟩ _=>⟨rfl,fun b' hb'=>hb.block b' (h.Yg (κ:=.a τ) ⟨B,hB⟩ b' ((h.ar τ B hB).own hb').1).1⟩⟩
  ·rcases hmu x hm with g| g
   ·omega
   ·exact g
  ·have hk':k≠d:=fun e=>by rw [e,hn] at hk;cases hk
   simp only [lookup_cons,if_neg hk'];exact ⟨⟨cs',hk⟩,trivial⟩
 refine h.Zox u (fun κ=>κ= .b d) (by rw [Z8];exact h.nt) (by rw [ZP];exact h.df)
  (Kp (by rw [h.nt];exact hd) ⟨⟨ls.map .l,by simp⟩,by simp⟩) (fun k cs' hk hK=> ?_) (fun τ A hA _=>⟨hA,rfl,rfl,fun b hb'=>hb.block b (h.Yg (κ:=.a τ) ⟨A,hA⟩ b hb').1⟩)
  (fun k cs' hk hK=> ?_) (fun τ A _ hK=>by cases hK) (fun κ _ hK x hx=> ?_) (fun κ κ' _ _ hne h1 h2=>absurd (h1.trans h2.symm) hne) (h.fr.below hb) (fun _ h=>h) (fun _ h=>.inl h) (fun κ _ hK hd=>by subst hK;exact hd.elim) (fun k cs' _ hK hle=>by injection hK with hK;subst hK;have h1:O.nt<=k:=hle;omega) (fun κ x _ hK hb'=>by subst hK;simp [tpB] at hb';subst hb';exact h.fr.new _ (Nat.le_trans h.fr.size hbn))
 ·have hk':k≠d:=fun e=>hK (by rw [e]);simp only [lookup_cons,if_neg hk'] at hk;exact ⟨hk,hb.block _ (h.Yg (κ:=.b k) ⟨cs',hk⟩ _ (by simp [blk])).1⟩
 ·injection hK with hK
  subst hK;simp at hk;subst hk;simp only [if_pos];refine ⟨h.tn _ (h.fr.new _ (Nat.le_trans h.fr.size hbn)),.inl ⟨cur,ty,hc,We hl fun x hx hm=> ?_⟩⟩;obtain ⟨g1,g2⟩:=hFS x hx;rcases hmu x hm with g| g
  ·exact g1 g
  ·rcases g2 with g2| ⟨_,g2⟩
   ·have:=hlt' x g;omega
   ·exact g2 g
 ·subst hK;simp [blk] at hx;exact .inr (.inr (by omega))
theorem ZcS {o:Oper} {f:Nat} {xs:Array Operand} {ts:Array Nat} (ho:o.op= .call { callee:=.value (.func f),args:=xs,argTypes:=ts}) (hok:X0 P f=true):(execOp a.eval o).run P w= .ok (.enter f (xs.toList.map a.eval).toArray) w:=by
 unfold X0 at hok
 split at hok
 ·rename_i fn hfn;simp only [ZAd,bne_iff_ne,ne_eq] at hok;obtain ⟨c,hb⟩:∃c,fn.body=some c:=Option.isSome_iff_exists.1 hok.2;have hargs:(xs.toList.map a.eval).toArray=xs.map a.eval:=by rw [<-Array.toList_inj];simp
  rw [hargs];simp [execOp,ho,resolve,Act.eval,Deferred.ofValue,invoke,callFunc,hfn,hok.1,hb]
 ·cases hok
theorem Zno {e':Env} {O':St} {w':World}:∀{cells:List CV} {vs:List Value},Z6 e O w cells vs->∀{ls:List L} {us:List Value},Z6 e' O' w' (ls.map .l) us->Zlq ls vs us->Z6 e' O' w' (Zrc cells ls) us
 | [],vs,_,ls,us,h,_=>by simpa [Zrc] using h
 | c::cells,vs,hr,[],us,h,_=>by cases c<;>simpa [Zrc] using h
 | c::cells,vs,hr,x::ls,us,h,hs=>by
  simp only [Am.Z6] at hr;obtain ⟨v,vs',rfl,r1,r2⟩:=hr;simp only [List.map_cons,Am.Z6] at h;obtain ⟨u,us',rfl,q1,q2⟩:=h
  have ht:Zlq ls vs' us':=by
   cases x with
   | sl es=>exact hs.2
   | _=>exact hs
  have go:=Zno r2 q2 ht;have gen:Z6 e' O' w' (.l x::Zrc cells ls) (u::us'):=by simp only [Am.Z6];exact ⟨u,us',rfl,q1,go⟩
  cases c with
  | kept v0 y=>
   cases x with
   | sl es=>
    simp only [Zrc,Am.Z6];have h1:u=v:=hs.1;have h2:v=v0:=r1.1;exact ⟨u,us',rfl,⟨h1.trans h2,q1⟩,go⟩
   | _=>exact gen
  | _=>exact gen
theorem Zz.Zw6 {k nt:Nat} {tm:List (Nat×V)} {c1 c2:List CV} {bx:List (Nat×List CV)} {ar:List (Nat×Option Arr)} (h:Zz N w0 e ⟨nt,tm,(k,c1)::bx,ar⟩ a w) {cur:Array Value} {ty:TypeId} (hc:w.heap[e.β k]? =some (.cells cur ty (0,0)))
  (hr:Z6 e ⟨nt,tm,(k,c1)::bx,ar⟩ w c1 cur.toList->Z6 e ⟨nt,tm,(k,c1)::bx,ar⟩ w c2 cur.toList):Zz N w0 e ⟨nt,tm,(k,c2)::bx,ar⟩ a w:=by
 have hb:∀j cs,((k,c2)::bx).lookup j=some cs->∃cs',((k,c1)::bx).lookup j=some cs':=fun j cs hj=>by
  simp only [lookup_cons] at hj ⊢
  split
  ·exact ⟨_,rfl⟩
  ·rename_i hne;rw [if_neg hne] at hj;exact ⟨_,hj⟩
 have u:Up e ⟨nt,tm,(k,c1)::bx,ar⟩ w e ⟨nt,tm,(k,c2)::bx,ar⟩ w:=⟨ZAe _,fun _ _ _=>rfl,fun b _ hm=>by
   rcases hm with g| ⟨j,cs,g1,g2⟩| g
   ·exact .inl g
   ·obtain ⟨cs',g3⟩:=hb j cs g1;exact .inr (.inl ⟨j,cs',g3,g2⟩)
   ·exact .inr (.inr g),fun j cs hj=>⟨by
    simp only [lookup_cons] at hj ⊢
    split
    ·exact ⟨_,rfl⟩
    ·rename_i hne;rw [if_neg hne] at hj;exact ⟨_,hj⟩,rfl⟩,fun τ A hA=>⟨A,hA,fun B hB=>⟨B,hB,ZAe _,fun _=>rfl⟩⟩,fun _ _ _ _=>⟨rfl,fun _ _=>rfl⟩⟩
 obtain ⟨g1,g3⟩:=h.bx k c1 (by simp);have g3:=g3.rel hc
 refine h.Zox u (fun κ=>κ= .b k) h.nt h.df (fun t v ht=>.inl ⟨ht,rfl⟩) (fun j cs hj hK=> ?_) (fun τ A hA _=>⟨hA,rfl,rfl,fun _ _=>rfl⟩)
  (fun j cs hj hK=> ?_) (fun _ _ _ hK=>by cases hK) (fun κ hl hK b hb'=>.inl ⟨?_,hb'⟩) (fun κ κ' _ _ hne h1 h2=>absurd (h1.trans h2.symm) hne) h.fr (fun _ h=>h) (fun _ h=>.inl h) (fun κ _ hK hd=>by subst hK;exact hd.elim) (fun j cs hj hK hle=> ?_) (fun κ b _ hK hb=>by subst hK;exact h.tp (.b k) b ⟨c1,by simp⟩ hb)
 ·have hjk:j≠k:=fun e'=>hK (by rw [e']);simp only [lookup_cons,if_neg hjk] at hj ⊢;exact ⟨hj,trivial⟩
 ·injection hK with hK
  subst hK;simp only [lookup_cons,if_true] at hj;obtain rfl:=Zz9 hj;exact ⟨g1,.inl ⟨cur,ty,hc,(hr g3).up u⟩⟩
 ·subst hK;exact ⟨c1,by simp⟩
 ·injection hK with hK
  subst hK;exact h.pn _ c1 (by simp) hle
theorem ZpZ {dst:Option Nat} {k:Nat} {τs:List Nat} {fr:Bool} {rs:List DV} {ls:List L} {g:Eff} (h:VL O dst k τs fr rs ls=some g):g.bx=[(k,ls.map .l)]:=by
 unfold VL at h
 split at h
 ·obtain rfl:=Zz9 h;rfl
 ·split at h
  ·split at h
   ·split at h
    ·obtain rfl:=Zz9 h;rfl
    ·cases h
   ·obtain rfl:=Zz9 h;rfl
  ·cases h
theorem ZlD (h:Zz N w0 e O a w) {o:Oper} {f:Nat} {xs:Array Operand} {ts:Array Nat} (ho:o.op= .call { callee:=.value (.func f),args:=xs,argTypes:=ts}) {vs:List V} (hvs:Xs O xs.toList=some vs)
  {j:Nat} {d1:List DV} {k:Nat} {ls:List L} {d2:List DV} {τs:List Nat} {p:Prop} {fr:Bool} {rs:List DV} {ls':List L} {g:Eff} {X:List Value->List Value->Prop} (h1:ZkS O j vs=some (d1,k,ls,d2,τs,p)) (h2:p) (h3:ZkL P f d1 ls d2 fr rs ls' X) (h4:VL O o.dst k τs fr rs ls'=some g)
  {K:Act->World->Prop} {Q:Exit->Act->World->Prop} (hK:∀(e':Env) (a':Act) (w':World) (cells:List CV) (cur cur':Array Value) (ty':TypeId),Zz N w0 e' (O.app g) a' w'->e'.β k=e.β k->O.bx.lookup k=some cells->Z6 e O w cells cur.toList->w'.heap[e.β k]? =some (.cells cur' ty' (0,0))->X cur.toList cur'.toList->K a' w'):o.wp P a w K Q:=by
 obtain ⟨hok,hcall⟩:=h3;obtain ⟨vs1,vs2,F1,F2,cells,cur,ty,FS,hargs,a1,a2,hk,a3,a4,a5⟩:=Zrw h hvs h1 h2;have hs:=h.frz τs;have hkm:Mut e (O.frz τs) (e.β k):=.inr (.inl ⟨k,cells,hk,rfl⟩)
 have hlt:∀x∈F1++(F2++FS),x<w.heap.size:=fun x hx=>by
  rcases List.mem_append.1 hx with hx| hx
  ·exact Zjq a1 x hx
  ·rcases List.mem_append.1 hx with hx| hx
   ·exact Zjq a2 x hx
   ·exact a4.lt x hx
 unfold Oper.wp;rw [ZcS ho hok,Oper.upon_enter,hargs];refine (hcall w vs1 vs2 F1 F2 FS (e.β k) cur ty (h.fr.glb.imp fun _ g=>⟨g.1,fun q=>g.2 _ q (h.tp (.b k) _ ⟨cells,hk⟩ rfl)⟩) a1 a2 a3 a4 fun hm=>a5 _ hm hkm).mono fun en w' hR=> ?_;obtain ⟨us,cur',ty',FS',rfl,b1,b2,b3,b4,b5,b6⟩:=hR;have c2:=(h.bx k cells hk).2.rel a3;simp only;have old:∀x,x∈F1++(F2++FS)->x<w.heap.size/\¬Mut e (O.frz τs) x:=fun x hx=>⟨hlt x hx,a5 x hx⟩;unfold VL at h4
 split at h4
 ·rename_i hdst;obtain rfl:=Zz9 h4;rw [hdst]
  have:=hs.through (k:=k) hk b5 b1 b2 (q:=[]) (by simp) (by simp) (by simp) (by simp) (by simp) (by simp) (fun x hx=>by
   rcases (b3 x hx).2 with g| g
   ·exact .inr (old x g)
   ·exact .inl ⟨g,by simp⟩) (tm:=O.tm) (a':=a) h.nt h.df (fun _ _ t x ht=>.inl ⟨ht,rfl⟩)
  exact hK _ _ _ cells cur cur' ty' this rfl hk c2 b1 b6
 ·rename_i d hdst;rw [hdst]
  split at h4
  ·rename_i hd
   split at h4
   ·rename_i hfr;subst hfr
    split at h4
    ·rename_i hall;obtain rfl:=Zz9 h4;simp only [Ztb,if_true] at b4;obtain ⟨F,k1,k2,k3,k4⟩:=b4;obtain ⟨q,q1,q2,rfl,q4,q5⟩:=ZcK (τ:=64*d) k1;have hkeys:q.map (·.τ)=(Zah (64*d) rs).2.map (·.1):=by rw [<-q1,List.map_map];rfl
     have har:JM q=(Zah (64*d) rs).2.map fun p=>(p.1,some p.2):=by rw [<-q1,List.map_map];rfl
     rw [List.all_eq_true] at hall
     have hall':∀i∈q,O.ar.lookup i.τ=none/\i.τ<1000000:=fun i hi=>by
      have:=hall (i.τ,i.A) (by rw [<-q1];exact List.mem_map.2 ⟨i,hi,rfl⟩)
      simpa using this
     have hnew:∀i∈q,(O.frz τs).ar.lookup i.τ=none\/i.τ∈τs:=fun i hi=>by
      rw [ZcN]
      split
      ·exact .inr (by assumption)
      ·exact .inl (hall' i hi).1
     have hts:∀τ∈τs,∃A,O.ar.lookup τ=some A:=Zp0 h1
     have:=hs.through (k:=k) hk b5 b1 b2 (q:=q) q2 k3 (by rw [hkeys];exact (Zfc rs (64*d)).1) k2 (fun i hi=>by
      rcases hnew i hi with g| g
      ·exact g
      ·obtain ⟨A,hA⟩:=hts _ g;rw [(hall' i hi).1] at hA;cases hA) (fun i hi=>(hall' i hi).2) (fun x hx=>by
      rcases (b3 x hx).2 with g| g
      ·exact .inr (old x g)
      ·refine .inl ⟨g,fun i hi hx'=> ?_⟩;obtain ⟨u,hu,hv⟩:=q5 i hi;exact k4 u hu _ hv x hx' hx)
      (tm:=(d,Zkc (Zah (64*d) rs).1)::O.tm) (a':=a.put (some d) (Zmh us)) (by rw [Z8];exact h.nt) (by rw [ZP];exact h.df)
      (fun _ hq'=>Kp (by rw [h.nt];exact hd) (Ze2 (q4 (Qp e q false) _ fun i hi=>hq' i hi)))
     rw [har] at this;refine hK (Qp e q false) (a.put (some d) (Zmh us)) w' cells cur cur' ty' ?_ rfl hk c2 b1 b6
     have heq:O.app ⟨True,[(d,Zkc (Zah (64*d) rs).1)],[(k,ls'.map .l)],((Zah (64*d) rs).2.map fun p=>(p.1,some p.2))++τs.map fun τ=>(τ,none)⟩=⟨O.nt,(d,Zkc (Zah (64*d) rs).1)::O.tm,(k,ls'.map .l)::O.bx,((Zah (64*d) rs).2.map fun p=>(p.1,some p.2))++(O.frz τs).ar⟩:=by
      simp [St.app,St.frz]
     rw [heq];exact this
    ·cases h4
   ·rename_i hfr;have hfr:fr=false:=by simpa using hfr
    subst hfr;obtain rfl:=Zz9 h4;simp only [Ztb,ZAf,if_false] at b4;obtain ⟨F,k1,k2⟩:=b4
    have:=hs.through (k:=k) hk b5 b1 b2 (q:=[]) (by simp) (by simp) (by simp) (by simp) (by simp) (by simp) (fun x hx=>by
     rcases (b3 x hx).2 with g| g
     ·exact .inr (old x g)
     ·exact .inl ⟨g,by simp⟩) (tm:=(d,Zkc (rs.map ptD))::O.tm) (a':=a.put (some d) (Zmh us)) (by rw [Z8];exact h.nt) (by rw [ZP];exact h.df)
     (fun hnm _=>Kp (by rw [h.nt];exact hd) (Ze2 (Vw k1 fun x hx=>hnm x (by
      rcases (k2 x hx).2 with g| g
      ·exact .inr (old x g)
      ·exact .inl ⟨g,by simp⟩))))
    exact hK _ _ _ cells cur cur' ty' this rfl hk c2 b1 b6
  ·cases h4
theorem ZfB.sound (h:Zz N w0 e O a w) {o:Oper} {f:Nat} {xs:Array Operand} {ts:Array Nat} (ho:o.op= .call { callee:=.value (.func f),args:=xs,argTypes:=ts}) {vs:List V} (hvs:Xs O xs.toList=some vs)
  {g:Eff} (hc:ZfB P O o.dst f vs g) {K:Act->World->Prop} {Q:Exit->Act->World->Prop} (hK:∀e' a' w',Zz N w0 e' (O.app g) a' w'->K a' w'):o.wp P a w K Q:=by
 cases hc with
 | ptr j d1 k ls d2 τs p fr rs ls' g h1 h2 h3 h4=>exact ZlD h ho hvs h1 h2 h3.toX h4 fun e' a' w' _ _ _ _ hs _ _ _ _ _=>hK e' a' w' hs
 | ptrS j d1 k ls d2 τs p fr rs ls' g cells h1 h2 h3 h4 h5=>
  refine ZlD h ho hvs h1 h2 h3 h4 fun e' a' w' cells' cur cur' ty' hs hβ hk hr hc hX=>hK e' a' w' ?_;rw [h5] at hk;obtain rfl:=Zz9 hk;have hb:=ZpZ h4;obtain ⟨gs,gt,gb,ga⟩:=g;subst hb;exact Zz.Zw6 (c1:=ls'.map .l) hs (hβ▸hc) fun hr'=>Zno hr hr' hX
 | box ds τs p cs d h1 h2 h3 h4 h5 h6=>
  obtain ⟨hok,hcall⟩:=h3;obtain ⟨FA,a1,a2⟩:=Zfv h hvs h1 h2 (τs:=τs) fun _ hτ=>hτ;have hs:=h.frz τs;unfold Oper.wp;rw [ZcS ho hok,Oper.upon_enter];refine (hcall w _ FA (h.fr.glb.imp fun _ g=>g.1) a1).mono fun en w' hR=> ?_;obtain ⟨b,cur,ty,FS,rfl,b1,b2,b3,b4,b5⟩:=hR;simp only;rw [h4]
  exact hK _ _ _ (hs.got (d:=d) h5 h6 b5 b1 b2 b3 fun x hx=>⟨(b4 x hx).1,by
   rcases (b4 x hx).2 with g| g
   ·exact .inr ⟨Zjq a1 x g,a2 x g⟩
   ·exact .inl g⟩)
 | froz ds τs p rs d h1 h2 h3 h4 h5=>
  obtain ⟨hok,hcall⟩:=h3;obtain ⟨FA,a1,a2⟩:=Zfv h hvs h1 h2 (τs:=τs) fun _ hτ=>hτ;have hs:=h.frz τs;unfold Oper.wp;rw [ZcS ho hok,Oper.upon_enter];refine (hcall w _ FA (h.fr.glb.imp fun _ g=>g.1) a1).mono fun en w' hR=> ?_;obtain ⟨us,rfl,hres,hbel⟩:=hR;simp only;rw [h4];simp only [ZdF,ZAf,if_false] at hres;obtain ⟨F,k1,k2⟩:=hres
  have:=hs.Zhe hbel (q:=[]) (by simp) (by simp) (by simp) (by simp) false (tm:=(d,Zkc (rs.map ptD))::O.tm) (a':=a.put (some d) (Zmh us)) (by rw [Z8];exact h.nt) (by rw [ZP];exact h.df)
   (fun u hq'=>Kp (by rw [h.nt];exact h5) (Ze2 (Vw k1 fun b hb hm=>by
    rcases k2 b hb with g1| g1
    ·exact a2 b g1 (u.mt b (Zjq a1 b g1) hm)
    ·rcases hm with (h0| ⟨_,h0,_⟩)| ⟨k,cs,h1,h2⟩| ⟨κ,A,h1,h2⟩
     ·have:=(h.bad.2 b h0).1;omega
     ·cases h0
     ·have:=(h.Yg (κ:=.b k) ⟨cs,h1⟩ (e.β k) (by simp [blk])).1;have h2':e.β k=b:=h2;omega
     ·have h1':=(Zhh (show (O.frz τs).ar.lookup κ=some (some A) from h1)).2;have h2':(e.ρ κ).ownBlock=some b:=h2;have:=(h.Yg (κ:=.a κ) ⟨A,h1'⟩ b ((h.ar κ A h1').own h2').1).1;omega)))
  exact hK _ _ _ this
 | hand g h1=>
  obtain ⟨hok,_,hcall⟩:=h1;obtain ⟨hl,hr⟩:=ZfQ h hvs;unfold Oper.wp;rw [ZcS ho hok,Oper.upon_enter];refine (hcall O ⟨rfl,fun _ _ h=>h,fun _ _ h=>h,fun _ _ h=>h,fun _ _ h=>h⟩ N w0 e a w _ h (by simp [hl]) fun j v hj=> ?_).mono fun en w' hR=> ?_
  ·have hj':=(List.getElem?_eq_some_iff.1 hj).1;have hq:(xs.toList.map a.eval)[j]? =some ((xs.toList.map a.eval)[j]'(by rw [List.length_map];omega)):=ZAg _;exact ⟨_,hq,hr j v _ hj hq⟩
  ·obtain ⟨u,e',rfl,hs⟩:=hR;exact hK _ _ _ hs
end
def XBy (P:Program) (O:St) (dst:Option Nat) (f:Nat) (vs:Option (List V)) (Z:Eff->Prop):Prop:=∃vs' g,vs=some vs'/\ZfB P O dst f vs' g/\Z g
def JL (P:Program) (O:St) (o:Oper):Option Eff:=
 match Qg P O o.op with
 | some (x,s)=>match o.dst with
  | some d=>if d<O.nt then some ⟨s,[(d,x)],[],[]⟩ else none
  | none=>some ⟨s,[],[],[]⟩
 | none=>XW P O o.dst o.op
structure Le (O O':St):Prop where
 nt:O'.nt=O.nt
 tm:∀t v,O.tm.lookup t=some v->O'.tm.lookup t=some v
 bx:∀k cs,O.bx.lookup k=some cs->O'.bx.lookup k=some cs
 ar:∀τ A,O.ar.lookup τ=some A->O'.ar.lookup τ=some A
structure Zmf (O O':St) (g:Eff):Prop where
 bx:∀p∈g.bx,O.bx.lookup p.1=none->O'.bx.lookup p.1=none
 ar:∀p∈g.ar,O.ar.lookup p.1=none->O'.ar.lookup p.1=none
def ZfU:Op->Bool
 | .box _ _| .alloc _| .store _ _ _| .buildSlice _ _ _| .makeSlice _ _ _=>true
 | .call { callee:=.builtin .append,args:=_,argTypes:=_}=>true
 | .call { callee:=.builtin .copy,args:=_,argTypes:=_}=>true
 | .slice _ _ none (some _) none=>true
 | .call { callee:=.value (.tmp _),args:=_,argTypes:=_}=>true
 | .mapUpdate _ _ _ _| .lookup _ _ _ _| .makeMap _ _| .makeFunc _ _ _=>true
 | .binOp _ _ _ (.const .nilFunc) _=>true
 | _=>false
def Zyq (P:Program) (N:Nat->Prop) (w0:Bs) (o:Oper) (a:Act) (w:World) (O':St):Prop:=
 ZyT P N w0 o a w O'\/∃f us,(execOp a.eval o).run P w= .ok (.enter f us) w/\Calls P f us w fun ex w'=>∃u e',ex= .returned u/\Zz N w0 e' O' (a.put o.dst u) w'
def HOp (P:Program) (O:St) (o:Oper) (g:Eff):Prop:=(ZfU o.op=true\/g.ar≠[])/\(∀p∈g.tm,o.dst=some p.1)/\∀O',Le O O'->Zmf O O' g->∀(N:Nat->Prop) (w0:Bs) (e:Env) (a:Act) (w:World),Zz N w0 e O' a w->Zyq P N w0 o a w (O'.app g)
def HBy (P:Program) (O:St) (o:Oper) (Z:Eff->Prop):Prop:=∃g,HOp P O o g/\Z g
theorem HOp.le {P:Program} {O O':St} {o:Oper} {g:Eff} (h:HOp P O o g) (k:Le O O') (f:Zmf O O' g):HOp P O' o g:=⟨h.1,h.2.1,fun O2 k2 f2=>
 h.2.2 O2 ⟨k2.nt.trans k.nt,fun t v ht=>k2.tm t v (k.tm t v ht),fun t v ht=>k2.bx t v (k.bx t v ht),fun t v ht=>k2.ar t v (k.ar t v ht)⟩
  ⟨fun p hp hn=>f2.bx p hp (f.bx p hp hn),fun p hp hn=>f2.ar p hp (f.ar p hp hn)⟩⟩
def Xg:Op->Option (Nat×List Operand)
 | .call { callee:=.value (.func f),args:=xs,argTypes:=_}=>some (f,xs.toList)
 | _=>none
def yld (O:St) (ops:Array Oper) (j:Nat) (want:Bool):Option Bool:=
 match (ops[j]?).bind (·.dst) with
 | some d=>match O.tm.lookup d with
  | some (.one (.l (.bool b)))=>some b
  | some .dead=>some (!want)
  | _=>none
 | none=>none
def St.kill (O:St):Option Nat->St
 | some d=>{ O with tm:=(d,.dead)::O.tm}
 | none=>O
mutual
def ZW (P:Program) (ops:Array Oper):List Oper->St->(St->Prop)->Prop
 | [],O,K=>K O
 | o::rest,O,K=>match o.guard with
  | none=>match Xg o.op with
   | some (f,xs)=>match (Xs O xs).bind (WK O) with
    | some (ds,pu,p)=>p/\((∃fr dp rs,Ctr P f ds fr rs/\(fr=false->pu=true)/\(match Qq O o.dst fr dp rs with | some g=>g.side/\ZW P ops rest (O.app g) K| none=>False))\/XBy P O o.dst f (Xs O xs) fun g=>ZW P ops rest (O.app g) K)
    | none=>XBy P O o.dst f (Xs O xs) fun g=>ZW P ops rest (O.app g) K
   | none=>match JL P O o with | some g=>g.side/\ZW P ops rest (O.app g) K| none=>HBy P O o fun g=>ZW P ops rest (O.app g) K
  | some (j,want)=>match yld O ops j want with
   | some b=>(b=want->match Xg o.op with
    | some (f,xs)=>match (Xs O xs).bind (WK O) with
     | some (ds,pu,p)=>p/\((∃fr dp rs,Ctr P f ds fr rs/\(fr=false->pu=true)/\(match Qq O o.dst fr dp rs with | some g=>g.side/\ZW P ops rest (O.app g) K| none=>False))\/XBy P O o.dst f (Xs O xs) fun g=>ZW P ops rest (O.app g) K)
     | none=>XBy P O o.dst f (Xs O xs) fun g=>ZW P ops rest (O.app g) K
    | none=>match JL P O o with | some g=>g.side/\ZW P ops rest (O.app g) K| none=>HBy P O o fun g=>ZW P ops rest (O.app g) K)/\
    ((!b)=want->ZW P ops rest (O.kill o.dst) K)
   | none=>False
end
def ZkH (P:Program) (ops:Array Oper) (rest:List Oper) (O:St) (K:St->Prop):Option Eff->Prop
 | some g=>g.side/\ZW P ops rest (O.app g) K
 | none=>False
def ZiC (P:Program) (ops:Array Oper) (o:Oper) (rest:List Oper) (O:St) (K:St->Prop):Option Eff->Prop
 | some g=>g.side/\ZW P ops rest (O.app g) K
 | none=>HBy P O o fun g=>ZW P ops rest (O.app g) K
def ZkI (P:Program) (ops:Array Oper) (o:Oper) (rest:List Oper) (O:St) (K:St->Prop) (f:Nat) (vs:Option (List V)):Option (List DV×Bool×Prop)->Prop
 | some (ds,pu,p)=>p/\((∃fr dp rs,Ctr P f ds fr rs/\(fr=false->pu=true)/\ZkH P ops rest O K (Qq O o.dst fr dp rs))\/XBy P O o.dst f vs fun g=>ZW P ops rest (O.app g) K)
 | none=>XBy P O o.dst f vs fun g=>ZW P ops rest (O.app g) K
def Zni (P:Program) (ops:Array Oper) (o:Oper) (rest:List Oper) (O:St) (K:St->Prop):Option (Nat×List Operand)->Prop
 | some (f,xs)=>ZkI P ops o rest O K f (Xs O xs) ((Xs O xs).bind (WK O))
 | none=>ZiC P ops o rest O K (JL P O o)
def WL (P:Program) (ops:Array Oper) (o:Oper) (rest:List Oper) (O:St) (K:St->Prop) (want:Bool):Option Bool->Prop
 | some b=>(b=want->Zni P ops o rest O K (Xg o.op))/\((!b)=want->ZW P ops rest (O.kill o.dst) K)
 | none=>False
section
variable {P:Program} {ops:Array Oper} {O:St} {K:St->Prop} {o:Oper} {rest:List Oper}
theorem ZcT:ZW P ops [] O K=K O:=by unfold ZW;rfl
theorem J3 (d:Option Nat) (op:Op) (ty:Nat) (pos:String) (af:Array Edge):ZW P ops (⟨d,op,ty,pos,af,none⟩::rest) O K=Zni P ops ⟨d,op,ty,pos,af,none⟩ rest O K (Xg op):=by
 rw [ZW];simp only [Zni,ZkI,ZkH,ZiC]
theorem J4 (d:Option Nat) (op:Op) (ty:Nat) (pos:String) (af:Array Edge) (j:Nat) (want:Bool):ZW P ops (⟨d,op,ty,pos,af,some (j,want)⟩::rest) O K=WL P ops ⟨d,op,ty,pos,af,some (j,want)⟩ rest O K want (yld O ops j want):=by
 rw [ZW];simp only [WL,Zni,ZkI,ZkH,ZiC]
end
inductive Ev (P:Program) (O:St) (o:Oper):Eff->Prop where
 | step (g:Eff) (h:JL P O o=some g) (hs:g.side):Ev P O o g
 | call (f:Nat) (xs:List Operand) (vs:List V) (ds:List DV) (pu:Bool) (p:Prop) (fr dp:Bool) (rs:List DV) (g:Eff) (h1:Xg o.op=some (f,xs)) (h2:Xs O xs=some vs) (h3:WK O vs=some (ds,pu,p)) (h4:p) (h5:Ctr P f ds fr rs) (h6:fr=false->pu=true) (h7:Qq O o.dst fr dp rs=some g):Ev P O o g
 | xcall (f:Nat) (xs:List Operand) (vs:List V) (g:Eff) (h1:Xg o.op=some (f,xs)) (h2:Xs O xs=some vs) (h3:ZfB P O o.dst f vs g):Ev P O o g
 | hand (g:Eff) (h:HOp P O o g):Ev P O o g
section
variable {e:Env} {O:St} {w:World} {N:Nat->Prop} {w0:Bs} {a:Act} {P:Program} {ops:Array Oper}
theorem Ev.sound {o:Oper} {g:Eff} (he:Ev P O o g) (h:Zz N w0 e O a w) {K:Act->World->Prop} {Q:Exit->Act->World->Prop} (hK:∀a' w',Sim N w0 (O.app g) a' w'->K a' w'):o.wp P a w K Q:=by
 cases he with
 | step g h1 hs=>
  unfold JL at h1
  split at h1
  ·rename_i x s hv
   split at h1
   ·rename_i d hd
    split at h1
    ·rename_i hlt;obtain rfl:=Zz9 h1;obtain ⟨u,k1,k2⟩:=Zhw h hv hs;unfold Oper.wp;rw [k1,Oper.upon_value,hd];exact hK _ _ ⟨e,h.put hlt k2⟩
    ·cases h1
   ·rename_i hd;obtain rfl:=Zz9 h1;obtain ⟨u,k1,k2⟩:=Zhw h hv hs;unfold Oper.wp;rw [k1,Oper.upon_value,hd];exact hK _ _ ⟨e,h⟩
  ·obtain ⟨w',e',⟨u,k1,k2⟩| ⟨k1,k2⟩⟩:=ZmL h h1 hs
   ·unfold Oper.wp;rw [k1,Oper.upon_value];exact hK _ _ ⟨e',k2⟩
   ·unfold Oper.wp;rw [k1,Oper.upon_skip];exact hK _ _ ⟨e',k2⟩
 | call f xs vs ds pu p fr dp rs g h1 h2 h3 h4 h5 h6 h7=>
  unfold Xg at h1
  split at h1
  ·rename_i f' xs' ts ho;obtain ⟨rfl,rfl⟩:=Prod.mk.inj (Zz9 h1);exact Zo0 h ho h2 h3 h4 h5 h6 h7 fun e' a' w' hs=>hK _ _ ⟨e',hs⟩
  ·cases h1
 | xcall f xs vs g h1 h2 h3=>
  unfold Xg at h1
  split at h1
  ·rename_i f' xs' ts ho;obtain ⟨rfl,rfl⟩:=Prod.mk.inj (Zz9 h1);exact h3.sound h ho h2 fun e' a' w' hs=>hK _ _ ⟨e',hs⟩
  ·cases h1
 | hand g h1=>
  obtain ⟨w',e',⟨u,k1,k2⟩| ⟨k1,k2⟩⟩| ⟨f,us,k1,k2⟩:=h1.2.2 O ⟨rfl,fun _ _ h=>h,fun _ _ h=>h,fun _ _ h=>h⟩ ⟨fun _ _ h=>h,fun _ _ h=>h⟩ N w0 e a w h
  ·unfold Oper.wp;rw [k1,Oper.upon_value];exact hK _ _ ⟨e',k2⟩
  ·unfold Oper.wp;rw [k1,Oper.upon_skip];exact hK _ _ ⟨e',k2⟩
  ·unfold Oper.wp;rw [k1,Oper.upon_enter];refine k2.mono fun en w' hR=> ?_;obtain ⟨u,e',rfl,hs⟩:=hR;exact hK _ _ ⟨e',hs⟩
theorem Zd8 (h:Zz N w0 e O a w) {j:Nat} {b want:Bool} (hy:yld O ops j want=some b):(yielded ops a.tmps j==some want)=(b==want):=by
 unfold yld at hy
 split at hy
 ·rename_i d hd
  split at hy
  ·rename_i b' hb;obtain rfl:=Zz9 hy;obtain ⟨F,h1,_⟩:=h.tm d _ hb;simp only [Rp] at h1;unfold yielded;rw [hd];simp only [Zz8];have h2:=h1.1;rw [Array.getD_eq_getD_getElem?] at h2;cases hq:a.tmps[d]? with
   | none=>rw [hq] at h2;simp [undef] at h2
   | some v=>rw [hq] at h2;simp at h2;subst h2;cases b'<;>cases want<;>rfl
  ·rename_i hb;obtain rfl:=Zz9 hy;have h2:a.tmps.getD d undef=undef:=h.tm d _ hb;unfold yielded;rw [hd];simp only [Zz8];rw [Array.getD_eq_getD_getElem?] at h2;cases hq:a.tmps[d]? with
   | none=>cases want<;>rfl
   | some v=>rw [hq] at h2;simp at h2;subst h2;cases want<;>rfl
  ·cases hy
 ·cases hy
theorem Zz.kill (h:Zz N w0 e O a w) (d:Option Nat):Zz N w0 e (O.kill d) (a.put d undef) w:=by
 cases d with
 | none=>exact h
 | some d=>exact h.Zrv
theorem J2 {Q:Exit->Act->World->Prop}:∀{l:List Oper} {O:St} {K:St->Prop},ZW P ops l O K->∀{a:Act} {w:World},Sim N w0 O a w->(∀O' a' w',K O'->Sim N w0 O' a' w'->Q .normal a' w')->wpList P ops Q l a w
 | [],O,K,h,a,w,hs,hQ=>hQ _ _ _ (by simpa [ZcT] using h) hs
 | ⟨d,op,ty,pos,af,gd⟩::rest,O,K,h,a,w,⟨e,hs⟩,hQ=>by
  have run:Zni P ops ⟨d,op,ty,pos,af,gd⟩ rest O K (Xg op)->∀K':Act->World->Prop,(∀a w,wpList P ops Q rest a w->K' a w)->(Oper.mk d op ty pos af gd).wp P a w K' Q:=by
   intro hr K' hK'
   have fin:∀g:Eff,Ev P O ⟨d,op,ty,pos,af,gd⟩ g->ZW P ops rest (O.app g) K->(Oper.mk d op ty pos af gd).wp P a w K' Q:=
    fun g hev hrest=>hev.sound hs fun a' w' hs'=>hK' _ _ (J2 hrest hs' hQ)
   unfold Zni at hr
   split at hr
   ·rename_i f xs hc;unfold ZkI at hr
    split at hr
    ·rename_i ds pu p hd;obtain ⟨hp,⟨fr,dp,rs,h5,h6,h7⟩| ⟨vs,g,hvs,hx,hg⟩⟩:=hr
     ·unfold ZkH at h7
      split at h7
      ·rename_i g hg;obtain ⟨vs,hvs,hd⟩:=Option.bind_eq_some_iff.1 hd;exact fin g (.call f xs vs ds pu p fr dp rs g hc hvs hd hp h5 h6 hg) h7.2
      ·exact h7.elim
     ·exact fin g (.xcall f xs vs g hc hvs hx) hg
    ·obtain ⟨vs,g,hvs,hx,hg⟩:=hr;exact fin g (.xcall f xs vs g hc hvs hx) hg
   ·unfold ZiC at hr
    split at hr
    ·rename_i g hg;exact fin g (.step g hg hr.1) hr.2
    ·obtain ⟨g,hg,hr⟩:=hr;exact fin g (.hand g hg) hr
  refine wpList_step fun K' hK'=> ?_;cases gd with
  | none=>
   rw [J3] at h;simp only [Region.wanted,if_true];exact run h K' hK'
  | some g=>
   obtain ⟨j,want⟩:=g;rw [J4] at h;unfold WL at h
   split at h
   ·rename_i b hy;have hy':=Zd8 hs hy
    by_cases hb:b=want
    ·have:Region.wanted (Oper.mk d op ty pos af (some (j,want))) (yielded ops a.tmps)=true:=by
      show (yielded ops a.tmps j==some want)=true;rw [hy'];simp [hb]
     rw [if_pos this];exact run (h.1 hb) K' hK'
    ·have:Region.wanted (Oper.mk d op ty pos af (some (j,want))) (yielded ops a.tmps)=false:=by
      show (yielded ops a.tmps j==some want)=false;rw [hy'];simp [hb]
     rw [if_neg (by simp [this])];exact hK' _ _ (J2 (h.2 (by cases b<;>cases want<;>simp_all)) ⟨e,hs.kill d⟩ hQ)
   ·exact h.elim
end
def AW (P:Program) (N:Nat->Prop) (w0:Bs) (c:Code) (Q:Exit->St->Prop) (O:St):Prop:=
 ∀a w,Sim N w0 O a w->c.wp P (fun e a w=>∃O',Q e O'/\Sim N w0 O' a w) a w
def Kq (K:St->Prop) (Q:Exit->St->Prop):Exit->St->Prop
 | .normal,O=>K O
 | e,O=>Q e O
def inB (id:Nat) (Q:Exit->St->Prop):Exit->St->Prop
 | .exit j,O=>if j=id then Q .normal O else Q (.exit j) O
 | e,O=>Q e O
section
variable {e:Env} {O O':St} {w:World} {N:Nat->Prop} {w0:Bs} {a:Act} {P:Program}
variable {Q:Exit->St->Prop} {x y c:Code}
theorem YT (h:Q .normal O):AW P N w0 .skip Q O:=fun _ _ hs=>wp_skip ⟨O,h,hs⟩
theorem ZkR {id:Nat} (h:Q (.exit id) O):AW P N w0 (.exit id) Q O:=fun _ _ hs=>wp_exit ⟨O,h,hs⟩
theorem Zmg (h:Q .ret O):AW P N w0 .ret Q O:=fun _ _ hs=>wp_ret ⟨O,h,hs⟩
theorem YP (h:∀K:St->Prop,(∀O,AW P N w0 y Q O->K O)->AW P N w0 x (Kq K Q) O):AW P N w0 (.seq x y) Q O:=fun a w hs=>
 wp_seq (Code.wp_mono (fun e a w ⟨O',h1,h2⟩=>by
  cases e<;>first | exact h1 a w h2| exact ⟨O',h1,h2⟩) (h (fun O=>AW P N w0 y Q O) (fun _ h=>h) a w hs))
theorem YK {id:Nat} (h:AW P N w0 c (inB id Q) O):AW P N w0 (.block id c) Q O:=fun a w hs=>
 wp_block (Code.wp_mono (fun e a w ⟨O',h1,h2⟩=>by
  cases e with
  | exit j=>
   simp only [Exit.inBlock];simp only [inB] at h1
   split
   ·rename_i hj;rw [if_pos hj] at h1;exact ⟨O',h1,h2⟩
   ·rename_i hj;rw [if_neg hj] at h1;exact ⟨O',h1,h2⟩
  | _=>exact ⟨O',h1,h2⟩) (h a w hs))
theorem Znn {o:Operand} {b:Bool} (ho:opd O o=some (.one (.l (.bool b)))) (ht:b=true->AW P N w0 x Q O) (hf:b=false->AW P N w0 y Q O):AW P N w0 (.cond o x y) Q O:=fun a w ⟨e,hs⟩=>
 wp_cond_split (Zd2 hs ho) (fun h=>ht h a w ⟨e,hs⟩) (fun h=>hf h a w ⟨e,hs⟩)
theorem WM {id:Nat} {l:List Oper} (h:ZW P l.toArray l O (fun O'=>Q .normal O')):AW P N w0 (.region id l.toArray false) Q O:=fun a w hs=>
 wp_region_lit (J2 h hs fun O' _ _ h1 h2=>⟨O',h1,h2⟩)
end
def inV:DV->V
 | .one x=>.one (.l x)
 | .agg xs=>.agg (xs.map .l)
def ZdK:Nat->List DV->List (Nat×V)
 | _,[]=>[]
 | k,d::ds=>(k,inV d)::ZdK (k+1) ds
def Zw4 (P:Program) (O:St):ResultVar->Option V
 | .tmp t=>O.tm.lookup t
 | .cell t ty=>match O.tm.lookup t,ti P ty with
  | some (.one (.box k off)),some i=>match O.bx.lookup k with
   | some cs=>VH i cs off
   | none=>none
  | _,_=>none
def Ze3 (P:Program) (O:St):List ResultVar->Option (List V)
 | []=>some []
 | r::rs=>match Zw4 P O r,Ze3 P O rs with
  | some v,some vs=>some (v::vs)
  | _,_=>none
def Zpp (O:St):V->Option (DV×Bool×List Nat×Prop)
 | .one c=>(Zpq O c).map fun r=>(.one r.1,r.2)
 | .agg cs=>(ZiY O cs).map fun r=>(.agg r.1,r.2)
 | _=>none
def ZiX (O:St):List V->Option (List DV×Bool×List Nat×Prop)
 | []=>some ([],true,[],True)
 | v::vs=>match Zpp O v,ZiX O vs with
  | some (x,f,τ,p),some (xs,g,τs,q)=>some (x::xs,f&&g,τ++τs,p/\q)
  | _,_=>none
def Zyz (rs:List DV):Option (List DV×Bool×List Nat×Prop)->Prop
 | some (ds,f,τs,p)=>p/\f=true/\τs.Nodup/\ds=rs
 | none=>False
def ZyA (rs:List DV):Option (List DV×Bool×Prop)->Prop
 | some (ds,pu,p)=>p/\pu=true/\ds=rs
 | none=>False
def ZmF (P:Program) (rv:Array ResultVar) (fr:Bool) (rs:List DV) (O:St):Prop:= if fr then Zyz rs ((Ze3 P O rv.toList).bind (ZiX O)) else ZyA rs ((Ze3 P O rv.toList).bind (WK O))
def ZvJ (P:Program) (rv:Array ResultVar) (fr:Bool) (rs:List DV):Exit->St->Prop
 | .normal,O=>ZmF P rv fr rs O
 | .ret,O=>ZmF P rv fr rs O
 | _,_=>False
section
variable {e:Env} {O:St} {w:World} {N:Nat->Prop} {w0:Bs} {a:Act} {P:Program}
theorem Zr6 (h:Zz N w0 e O a w) {x:V} {v:Value} (hr:x.rel e O w v) {d:DV} {f:Bool} {τs:List Nat} {p:Prop} (ha:Zpp O x=some (d,f,τs,p)) (hp:p) (hf:f=true):Zt2 N w d v (τs.flatMap e.φ)/\∀τ∈τs,∃A,O.ar.lookup τ=some (some A)/\A.fr=true:=by
 cases x with
 | one c=>
  simp only [Zpp] at ha;obtain ⟨⟨y,f',τ',p'⟩,h1,h2⟩:=Option.map_eq_some_iff.1 ha;simp only [ZAc] at h2;obtain ⟨rfl,rfl,rfl,rfl⟩:=h2;obtain ⟨_,g2,g3⟩:=Zor h hr h1 hp;exact ⟨g2 hf,fun τ hτ=>by obtain ⟨A,hA,hA2,_⟩:=g3 τ hτ;exact ⟨A,hA,hA2 hf⟩⟩
 | agg cs=>
  simp only [Zpp] at ha;obtain ⟨⟨y,f',τ',p'⟩,h1,h2⟩:=Option.map_eq_some_iff.1 ha;simp only [ZAc] at h2;obtain ⟨rfl,rfl,rfl,rfl⟩:=h2;obtain ⟨vs,rfl,hr⟩:=hr;obtain ⟨_,g2,g3,_⟩:=Zhk h hr h1 hp;exact ⟨⟨vs,rfl,g2 hf⟩,fun τ hτ=>by obtain ⟨A,hA,hA2,_⟩:=g3 τ hτ;exact ⟨A,hA,hA2 hf⟩⟩
 | tup ps=>simp [Zpp] at ha
 | dead=>simp [Zpp] at ha
def UP (e:Env) (O:St) (w:World):List V->List Value->Prop
 | [],us=>us=[]
 | v::vs,us=>∃u us',us=u::us'/\v.rel e O w u/\UP e O w vs us'
theorem ZiB (h:Zz N w0 e O a w):∀{vs:List V} {us:List Value},UP e O w vs us->∀{ds:List DV} {f:Bool} {τs:List Nat} {p:Prop},ZiX O vs=some (ds,f,τs,p)->p->f=true->ZdY N w ds us (τs.flatMap e.φ)/\∀τ∈τs,∃A,O.ar.lookup τ=some (some A)/\A.fr=true
 | [],us,hr,ds,f,τs,p,ha,hp,hf=>by
  simp only [UP] at hr;subst hr;simp only [ZiX,ZAb,ZAc] at ha;obtain ⟨rfl,rfl,rfl,rfl⟩:=ha;simp [ZdY]
 | v::vs,us,hr,ds,f,τs,p,ha,hp,hf=>by
  simp only [UP] at hr;obtain ⟨u,us',rfl,h1,h2⟩:=hr;simp only [ZiX] at ha
  split at ha
  ·rename_i x f1 τ1 p1 xs2 f2 τ2 p2 e1 e2;simp only [ZAb,ZAc] at ha;obtain ⟨rfl,rfl,rfl,rfl⟩:=ha;simp only [ZAd] at hf;obtain ⟨k1,k2⟩:=Zr6 h h1 e1 hp.1 hf.1;obtain ⟨g1,g2⟩:=ZiB h h2 e2 hp.2 hf.2;refine ⟨?_,fun τ hτ=>by rcases List.mem_append.1 hτ with hτ| hτ;exact k2 τ hτ;exact g2 τ hτ⟩;simp only [ZdY,List.flatMap_append];exact ⟨u,us',_,_,rfl,rfl,k1,g1⟩
  ·cases ha
theorem ZdZ (h:Zz N w0 e O a w):∀{vs:List V} {us:List Value},UP e O w vs us->∀{ds:List DV} {f:Bool} {p:Prop},WK O vs=some (ds,f,p)->p->∃F,Yn w ds us F/\(f=true->∀b∈F,¬Mut e O b)
 | [],us,hr,ds,f,p,hd,hp=>by
  simp only [UP] at hr;subst hr;simp only [WK,ZAb,ZAc] at hd;obtain ⟨rfl,rfl,rfl⟩:=hd;exact ⟨[],by simp [Yn],by simp⟩
 | v::vs,us,hr,ds,f,p,hd,hp=>by
  simp only [UP] at hr;obtain ⟨u,us',rfl,h1,h2⟩:=hr;simp only [WK] at hd
  split at hd
  ·rename_i x f1 p1 xs2 f2 p2 e1 e2;simp only [ZAb,ZAc] at hd;obtain ⟨rfl,rfl,rfl⟩:=hd;obtain ⟨F1,k1,k2⟩:=Zn8 h h1 e1 hp.1;obtain ⟨F2,g1,g2⟩:=ZdZ h h2 e2 hp.2;refine ⟨F1++F2,by simp only [Yn];exact ⟨_,_,F1,F2,rfl,rfl,k1,g1⟩,fun hf b hb=> ?_⟩;simp only [ZAd] at hf;rcases List.mem_append.1 hb with hb| hb
   ·exact k2 hf.1 b hb
   ·exact g2 hf.2 b hb
  ·cases hd
def Zva (tmps:Array Value):ResultVar->Sem Value
 | .tmp t=>pure (tmps.getD t undef)
 | .cell p t=>do loadVar t (<-asAddr (tmps.getD p undef))
theorem ZlA (h:Zz N w0 e O a w):∀{rv:List ResultVar} {vs:List V},Ze3 P O rv=some vs->∃us,(rv.mapM (Zva a.tmps)).run P w= .ok us w/\UP e O w vs us
 | [],vs,hv=>by
  simp only [Ze3,ZAb] at hv;subst hv;exact ⟨[],by simp,by simp [UP]⟩
 | r::rv,vs,hv=>by
  simp only [Ze3] at hv
  split at hv
  ·rename_i v vs' h1 h2;obtain rfl:=Zz9 hv;obtain ⟨us,g1,g2⟩:=ZlA h h2;rw [List.mapM_cons];cases r with
   | tmp t=>
    refine ⟨a.tmps.getD t undef::us, ?_,by simp only [UP];exact ⟨_,_,rfl,h.tm t v h1,g2⟩⟩;simp only [Zva,Sem.run_bind,Sem.run_pure,Result.andThen_ok] at g1 ⊢;rw [g1]
    rfl
   | cell t ty=>
    simp only [Zw4] at h1
    split at h1
    ·rename_i k off i ht hi
     split at h1
     ·rename_i cs hcs;obtain ⟨u,k1,k2⟩:=ZrD (P:=P) h hcs hi h1;obtain ⟨_,hp⟩:=h.tm t _ ht;refine ⟨u::us, ?_,by simp only [UP];exact ⟨_,_,rfl,k2,g2⟩⟩;have ha:asAddr (a.tmps.getD t undef)=pure ⟨e.β k,off,none⟩:=by rw [hp];rfl
      have hr:(Zva a.tmps (.cell t ty)).run P w= .ok u w:=by simp only [Zva,Sem.run_bind,ha,Sem.run_pure,Result.andThen_ok,k1]
      rw [Sem.run_bind,hr,Result.andThen_ok,Sem.run_bind,g1]
      rfl
     ·cases h1
    ·cases h1
  ·cases hv
theorem V6 {fn:Func} (h:Zz N w0 e O a w) {vs:List V} (hv:Ze3 P O fn.results.toList=some vs):∃us,(results fn a.tmps).run P w= .ok (Zmh us) w/\UP e O w vs us:=by
 obtain ⟨us,g1,g2⟩:=ZlA (P:=P) h hv;refine ⟨us, ?_,g2⟩
 have hh:results fn a.tmps=(do let vs <-fn.results.mapM (Zva a.tmps);pure (if h:vs.size=1 then vs[0] else .tuple vs)):=by
  unfold results
  congr 1
 rw [hh,Array.mapM_eq_mapM_toList,Sem.run_bind,Sem.run_map,g1];simp only [Result.andThen_ok,Sem.run_pure]
 congr 1
 cases us with
 | nil=>rfl
 | cons u us=>
  cases us with
  | nil=>rfl
  | cons u' us=>rfl
theorem Jt:∀{ds:List DV} {vs:List Value} {F:List Nat} {k t:Nat} {x:V} {e:Env} {O:St},Yn w ds vs F->(∀b∈F,¬Mut e O b)->(ZdK k ds).lookup t=some x->∃j v,t=k+j/\vs[j]? =some v/\x.rel e O w v
 | [],vs,F,k,t,x,e,O,_,_,hl=>by simp [ZdK] at hl
 | d::ds,vs,F,k,t,x,e,O,h,hF,hl=>by
  simp only [Yn] at h;obtain ⟨v,vs',F1,F2,rfl,rfl,h1,h2⟩:=h;simp only [ZdK,lookup_cons] at hl
  by_cases ht:t=k
  ·rw [if_pos ht] at hl;obtain rfl:=Zz9 hl;refine ⟨0,v,by simp [ht],rfl, ?_⟩;cases d with
   | one x=>exact ⟨F1,h1,fun b hb=>hF b (by simp [hb])⟩
   | agg xs=>obtain ⟨us,rfl,h1⟩:=h1;exact ⟨us,rfl,We h1 fun b hb=>hF b (by simp [hb])⟩
  ·rw [if_neg ht] at hl;obtain ⟨j,u,g1,g2,g3⟩:=Jt h2 (fun b hb=>hF b (by simp [hb])) hl;exact ⟨j+1,u,by omega,by simpa using g2,g3⟩
theorem Yn.len:∀{ds:List DV} {vs:List Value} {F:List Nat},Yn w ds vs F->vs.length=ds.length
 | [],_,_,h=>by simp only [Yn] at h;simp [h.1]
 | d::ds,_,_,h=>by
  simp only [Yn] at h;obtain ⟨v,vs',F1,F2,rfl,rfl,h1,h2⟩:=h;simp [Yn.len h2]
theorem Ctr.Xt {f:Nat} {fn:Func} {c:Code} {nt:Nat} {rv:Array ResultVar} (hok:X0 P f=true) (hf:P.funcs[f]? =some fn) (hb:fn.body=some c) (hnt:fn.ntmps=nt) (hrv:fn.results=rv) {ds:List DV} {fr:Bool} {rs:List DV} (hds:ds.length<=nt)
  (h:∀N w0,Bok N w0->AW P N w0 c (ZvJ P rv fr rs) ⟨nt,ZdK 0 ds,[],[]⟩):Ctr P f ds fr rs:=by
 subst hnt hrv;refine ⟨hok,fun w vs FA hgl hFA=> ?_⟩;obtain ⟨G,hG⟩:=hgl;refine calls_of_wp hf hb ?_;have hlen:=hFA.len
 let e0:Env:=⟨fun _=>0,fun _=>undef,fun _=>[],fun b=>b<w.heap.size/\b∉FA⟩
 have hsim:Zz (w.heap.size<= ·) ⟨w,e0.bad,fun _=>0,(w.heap.size<= ·)⟩ e0 ⟨fn.ntmps,ZdK 0 ds,[],[]⟩ { tmps:=vs.toArray++Array.replicate (fn.ntmps-vs.toArray.size) undef,defers:=[]} w:=by
  refine ⟨by simp;omega,rfl,fun t x ht=> ?_,by simp,by simp,fun κ κ' hl=> ?_,⟨⟨G,hG,fun b g=>by have:=hG.1 b g;omega⟩,rfl,rfl,rfl,ZAe _,fun _ _ _=>rfl,fun b hb=>hb⟩,⟨fun _ h=>h,fun b hb=>⟨hb.1,fun κ hl=> ?_⟩⟩,fun κ _ hd=> ?_,fun k cs hk=>by simp at hk,fun _ h=>h,fun κ b hl _=>by cases κ<;>obtain ⟨_,h1⟩:=hl<;>simp at h1⟩
  ·obtain ⟨j,v,rfl,g2,g3⟩:=Jt (e:=e0) (O:=⟨fn.ntmps,ZdK 0 ds,[],[]⟩) hFA (fun b hb hm=>by
    rcases hm with h0| ⟨_,_,h1,_⟩| ⟨_,_,h1,_⟩
    ·exact h0.2 hb
    ·simp at h1
    ·simp at h1) ht
   have hj:j<vs.length:=(List.getElem?_eq_some_iff.1 g2).1
   have:(vs.toArray++Array.replicate (fn.ntmps-vs.toArray.size) undef).getD (0+j) undef=v:=by
    rw [Array.getD_eq_getD_getElem?,Nat.zero_add,Array.getElem?_append_left (by simpa using hj)];simp [g2]
   rw [this];exact g3
  ·cases κ with
   | b k=>obtain ⟨_,h1⟩:=hl;simp at h1
   | a τ=>obtain ⟨_,h1⟩:=hl;simp at h1
  ·cases κ with
   | b k=>obtain ⟨_,h1⟩:=hl;simp at h1
   | a τ=>obtain ⟨_,h1⟩:=hl;simp at h1
  ·cases κ with
   | b k=>exact hd.elim
   | a τ=>intro b hb;cases hb
 refine Code.wp_mono (fun ex a' w' hq=> ?_) (h (w.heap.size<= ·) ⟨w,e0.bad,fun _=>0,(w.heap.size<= ·)⟩ ⟨fun b hb hn=>by have:=hb.1;have:w.heap.size<=b:=hn;omega,fun _ h=>h⟩ _ _ ⟨e0,hsim⟩);obtain ⟨O',h1,e',h2⟩:=hq
 have fin:ZmF P fn.results fr rs O'->a'.defers=[]/\∃v,(results fn a'.tmps).run P w'= .ok v w'/\∃us,Ending.returned v= .returned (Zmh us)/\ZdF fr (w.heap.size<= ·) w' FA rs us/\Below w.heap.size w w':=by
  intro ho;have hbelow:Below w.heap.size w w':=⟨h2.fr.os,h2.fr.tape,h2.fr.output,h2.fr.size,fun b hb=>h2.fr.block b hb (by omega)⟩;unfold ZmF at ho;cases fr
  ·simp only [ZAf,if_false] at ho;cases hq:(Ze3 P O' fn.results.toList).bind (WK O') with
   | none=>rw [hq] at ho;exact ho.elim
   | some r=>
    obtain ⟨ds',pu,p⟩:=r;rw [hq] at ho;obtain ⟨hp,hpu,rfl⟩:=ho;obtain ⟨vs',hvs,hd⟩:=Option.bind_eq_some_iff.1 hq;obtain ⟨us,k1,k2⟩:=V6 (P:=P) h2 hvs;obtain ⟨F,g1,g2⟩:=ZdZ h2 k2 hd hp;refine ⟨h2.df,_,k1,us,rfl, ?_,hbelow⟩;simp only [ZdF,ZAf,if_false];refine ⟨F,g1,fun b hb=> ?_⟩
    by_cases h3:w.heap.size<=b
    ·exact .inr h3
    ·by_cases h4:b∈FA
     ·exact .inl h4
     ·exact absurd (.inl (h2.bad.1 b ⟨by omega,h4⟩)) (g2 hpu b hb)
  ·simp only [if_true] at ho;cases hq:(Ze3 P O' fn.results.toList).bind (ZiX O') with
   | none=>rw [hq] at ho;exact ho.elim
   | some r=>
    obtain ⟨ds',f',τs,p⟩:=r;rw [hq] at ho;obtain ⟨hp,hf',hnd,rfl⟩:=ho;obtain ⟨vs',hvs,hd⟩:=Option.bind_eq_some_iff.1 hq;obtain ⟨us,k1,k2⟩:=V6 (P:=P) h2 hvs;obtain ⟨g1,g2⟩:=ZiB h2 k2 hd hp hf';refine ⟨h2.df,_,k1,us,rfl, ?_,hbelow⟩;simp only [ZdF,if_true];exact ⟨_,g1,JD h2 g2 hnd⟩
 cases ex with
 | normal=>exact fin h1
 | ret=>exact fin h1
 | _=>exact h1.elim
end
section
variable {O O':St} {P:Program}
theorem Le.opd (h:Le O O') {x:Operand} {v:V} (hx:opd O x=some v):opd O' x=some v:=by
 cases x with
 | tmp t=>exact h.tm t v hx
 | const c=>exact hx
 | global g=>exact hx
 | func f=>exact hx
theorem Le.num (h:Le O O') {x:Operand} {r:IntKind×Int} (hx:num O x=some r):num O' x=some r:=by
 unfold Am.num at hx ⊢
 split at hx
 ·rename_i k n hk;rw [h.opd hk];exact hx
 ·cases hx
theorem Le.VG (h:Le O O') {d:Int} {x:Option Operand} {r:Int} (hx:VG O d x=some r):VG O' d x=some r:=by
 unfold Am.VG at hx ⊢
 split at hx
 ·exact hx
 ·obtain ⟨y,h1,h2⟩:=Option.map_eq_some_iff.1 hx;simp only [h.num h1,Option.map_some,h2]
theorem Le.parts (h:Le O O'):∀{ps:List (Nat×Operand)} {vs:List (Nat×V)},parts O ps=some vs->parts O' ps=some vs
 | [],_,hp=>hp
 | (i,o)::ps,vs,hp=>by
  simp only [Am.parts] at hp ⊢
  split at hp
  ·rename_i v vs' h1 h2;rw [h.opd h1,h.parts h2];exact hp
  ·cases hp
theorem Le.Xs (h:Le O O'):∀{ps:List Operand} {vs:List V},Xs O ps=some vs->Xs O' ps=some vs
 | [],_,hp=>hp
 | o::ps,vs,hp=>by
  simp only [Am.Xs] at hp ⊢
  split at hp
  ·rename_i v vs' h1 h2;rw [h.opd h1,h.Xs h2];exact hp
  ·cases hp
theorem Le.Qg (h:Le O O') {op:Op} {r:V×Prop} (hv:Qg P O op=some r):Qg P O' op=some r:=by
 have H1:∀x,(Am.opd O x).isSome=true->Am.opd O' x=Am.opd O x:=fun x hx=>by obtain ⟨v,hv⟩:=Option.isSome_iff_exists.1 hx;rw [h.opd hv,hv]
 have H2:∀k,(O.bx.lookup k).isSome=true->O'.bx.lookup k=O.bx.lookup k:=fun k hx=>by obtain ⟨v,hv⟩:=Option.isSome_iff_exists.1 hx;rw [h.bx k v hv,hv]
 have H3:∀k,(O.ar.lookup k).isSome=true->O'.ar.lookup k=O.ar.lookup k:=fun k hx=>by obtain ⟨v,hv⟩:=Option.isSome_iff_exists.1 hx;rw [h.ar k v hv,hv]
 have H4:∀x,(Am.num O x).isSome=true->Am.num O' x=Am.num O x:=fun x hx=>by obtain ⟨v,hv⟩:=Option.isSome_iff_exists.1 hx;rw [h.num hv,hv]
 have H5:∀d x,(Am.VG O d x).isSome=true->Am.VG O' d x=Am.VG O d x:=fun d x hx=>by obtain ⟨v,hv⟩:=Option.isSome_iff_exists.1 hx;rw [h.VG hv,hv]
 have H6:∀x,(Am.parts O x).isSome=true->Am.parts O' x=Am.parts O x:=fun x hx=>by obtain ⟨v,hv⟩:=Option.isSome_iff_exists.1 hx;rw [h.parts hv,hv]
 have H7:∀x,(Am.Xs O x).isSome=true->Am.Xs O' x=Am.Xs O x:=fun x hx=>by obtain ⟨v,hv⟩:=Option.isSome_iff_exists.1 hx;rw [h.Xs hv,hv]
 clear h;unfold Am.Qg at hv
 repeat' (split at hv)
 all_goals first
  | (cases hv;done)
  | (simp only [Am.Qg, *,Option.isSome_some,Option.map_some];done)
  | (obtain ⟨y,hy,heq⟩:=Option.map_eq_some_iff.1 hv;simp only [Am.Qg, *,Option.isSome_some,Option.map_some];done)
  | (rw [<-hv];clear hv;simp [Am.Qg, *];done)
  | (rw [<-hv];clear hv;simp_all [Am.Qg];done)
  | skip
theorem Le.Zpq (h:Le O O') {c:CV} {r:L×Bool×List Nat×Prop} (hx:Zpq O c=some r):Zpq O' c=some r:=by
 unfold Am.Zpq at hx ⊢
 split at hx
 ·exact hx
 ·exact hx
 ·split at hx
  ·rename_i A hA;rw [h.ar _ _ hA];exact hx
  ·cases hx
 ·cases hx
theorem Le.ZiY (h:Le O O'):∀{cs:List CV} {r:List L×Bool×List Nat×Prop},ZiY O cs=some r->ZiY O' cs=some r
 | [],_,hx=>hx
 | c::cs,r,hx=>by
  simp only [Am.ZiY] at hx ⊢
  split at hx
  ·rename_i h1 h2;rw [h.Zpq h1,h.ZiY h2];exact hx
  ·cases hx
theorem Le.ZkX (h:Le O O'):∀{cs:List (List CV)} {r:List (List L)×Bool×List Nat×Prop},ZkX O cs=some r->ZkX O' cs=some r
 | [],_,hx=>hx
 | c::cs,r,hx=>by
  simp only [Am.ZkX] at hx ⊢
  split at hx
  ·rename_i h1 h2;rw [h.ZiY h1,h.ZkX h2];exact hx
  ·cases hx
theorem Le.Zm1 (h:Le O O') {c:CV} {r:L×Bool×Prop} (hx:Zm1 O c=some r):Zm1 O' c=some r:=by
 unfold Am.Zm1 at hx ⊢
 split at hx
 ·exact hx
 ·exact hx
 ·exact hx
 ·split at hx
  ·rename_i A hA;rw [h.ar _ _ hA];exact hx
  ·cases hx
 ·cases hx
theorem Le.ZkW (h:Le O O'):∀{cs:List CV} {r:List L×Bool×Prop},ZkW O cs=some r->ZkW O' cs=some r
 | [],_,hx=>hx
 | c::cs,r,hx=>by
  simp only [Am.ZkW] at hx ⊢
  split at hx
  ·rename_i h1 h2;rw [h.Zm1 h1,h.ZkW h2];exact hx
  ·cases hx
theorem Le.ZkV (h:Le O O') {c:V} {r:DV×Bool×Prop} (hx:ZkV O c=some r):ZkV O' c=some r:=by
 cases c with
 | one c=>
  simp only [Am.ZkV] at hx ⊢;obtain ⟨y,h1,h2⟩:=Option.map_eq_some_iff.1 hx;rw [h.Zm1 h1,Option.map_some,h2]
 | agg cs=>
  simp only [Am.ZkV] at hx ⊢;obtain ⟨y,h1,h2⟩:=Option.map_eq_some_iff.1 hx;rw [h.ZkW h1,Option.map_some,h2]
 | tup ps=>simp [Am.ZkV] at hx
 | dead=>simp [Am.ZkV] at hx
theorem Le.WK (h:Le O O'):∀{cs:List V} {r:List DV×Bool×Prop},WK O cs=some r->WK O' cs=some r
 | [],_,hx=>hx
 | c::cs,r,hx=>by
  simp only [Am.WK] at hx ⊢
  split at hx
  ·rename_i h1 h2;rw [h.ZkV h1,h.WK h2];exact hx
  ·cases hx
theorem Le.Znz (h:Le O O') {x:V} {r:List (List L)×Bool×List Nat×Prop} (hx:Znz O x=some r):Znz O' x=some r:=by
 unfold Am.Znz at hx ⊢
 split at hx
 ·exact hx
 ·exact hx
 ·split at hx
  ·rename_i A hA;rw [h.ar _ _ hA];exact hx
  ·cases hx
 ·split at hx
  ·rename_i A hA;rw [h.ar _ _ hA];exact hx
  ·cases hx
 ·cases hx
theorem Le.ZnA (h:Le O O') {ei:TI} {t t':Nat} {x:V} {r:List (List L)×Bool×List Nat×Prop} (hx:ZnA P O ei t t' x=some r):ZnA P O' ei t t' x=some r:=by
 unfold Am.ZnA at hx ⊢
 split at hx
 ·rename_i he;rw [if_pos he];exact h.Znz hx
 ·rename_i he;rw [if_neg he];exact hx
theorem QI {α:Type} {o:Option α} {v:α} (h:o=some v):o.isSome=true:=by rw [h];rfl
theorem Le.XW (h:Le O O') {d:Option Nat} {op:Op} {g:Eff} (hv:XW P O d op=some g) (hf:Zmf O O' g):XW P O' d op=some g:=by
 have H1:∀x,(Am.opd O x).isSome=true->Am.opd O' x=Am.opd O x:=fun x hx=>by obtain ⟨v,hv⟩:=Option.isSome_iff_exists.1 hx;rw [h.opd hv,hv]
 have H2:∀k,(O.bx.lookup k).isSome=true->O'.bx.lookup k=O.bx.lookup k:=fun k hx=>by obtain ⟨v,hv⟩:=Option.isSome_iff_exists.1 hx;rw [h.bx k v hv,hv]
 have H3:∀k,(O.ar.lookup k).isSome=true->O'.ar.lookup k=O.ar.lookup k:=fun k hx=>by obtain ⟨v,hv⟩:=Option.isSome_iff_exists.1 hx;rw [h.ar k v hv,hv]
 have H4:∀x,(Am.num O x).isSome=true->Am.num O' x=Am.num O x:=fun x hx=>by obtain ⟨v,hv⟩:=Option.isSome_iff_exists.1 hx;rw [h.num hv,hv]
 have H6:∀x,(Am.parts O x).isSome=true->Am.parts O' x=Am.parts O x:=fun x hx=>by obtain ⟨v,hv⟩:=Option.isSome_iff_exists.1 hx;rw [h.parts hv,hv]
 have H7:∀x,(Am.ZkX O x).isSome=true->Am.ZkX O' x=Am.ZkX O x:=fun x hx=>by obtain ⟨v,hv⟩:=Option.isSome_iff_exists.1 hx;rw [h.ZkX hv,hv]
 have H8:∀x,(Am.ZiY O x).isSome=true->Am.ZiY O' x=Am.ZiY O x:=fun x hx=>by obtain ⟨v,hv⟩:=Option.isSome_iff_exists.1 hx;rw [h.ZiY hv,hv]
 have H9:∀x,(Am.Znz O x).isSome=true->Am.Znz O' x=Am.Znz O x:=fun x hx=>by obtain ⟨v,hv⟩:=Option.isSome_iff_exists.1 hx;rw [h.Znz hv,hv]
 have HA:∀(ei:TI) (t t':Nat) x,(Am.ZnA P O ei t t' x).isSome=true->Am.ZnA P O' ei t t' x=Am.ZnA P O ei t t' x:=fun ei t t' x hx=>by obtain ⟨v,hv⟩:=Option.isSome_iff_exists.1 hx;rw [h.ZnA hv,hv]
 have H0:=h.nt;obtain ⟨f1,f2⟩:=hf;clear h;unfold Am.XW at hv
 repeat' (split at hv)
 all_goals first
  | (cases hv;done)
  | skip
 all_goals obtain rfl:=Zz9 hv
 all_goals clear hv
 all_goals (try simp only [List.mem_cons,List.not_mem_nil,forall_eq_or_imp,false_imp_iff,implies_true,and_true,false_or,or_false,forall_eq] at f1)
 all_goals (try simp only [List.mem_cons,List.not_mem_nil,forall_eq_or_imp,false_imp_iff,implies_true,and_true,false_or,or_false,forall_eq] at f2)
 all_goals (try simp only [Option.isNone_iff_eq_none] at *)
 all_goals first
  | (simp [Am.XW, *];done)
  | (rename_i e1 e2 _ c e3 l1 _ k off e4 _ cs e5 l2;unfold Am.XW;simp only [e1,H1 _ (QI e2),e2,e3,if_pos l1,H1 _ (QI e4),e4,H2 _ (QI e5),e5,if_pos l2];done)
  | (rename_i a1 a2 l1 _ _ _ _ _ _ _ xv a3 a4 _ _ ei ys f τs q a5 a6 l2 _ a7 l3;unfold Am.XW;simp only [a1,a2,H0,if_pos l1,a3,H1 _ (QI a4),a4,H1 _ (QI a7),a7,a5,H9 _ (QI a6),a6,if_pos l2,f2.1 l3,Option.isNone_none,if_true];done)
  | (rename_i a1 a2 l1 _ _ _ _ _ _ _ xv a3 a4 _ _ ei ys f τs q a5 a6 l2 _ τ n a7 _ A a8 l3;unfold Am.XW;simp only [a1,a2,H0,if_pos l1,a3,H1 _ (QI a4),a4,H1 _ (QI a7),a7,a5,H9 _ (QI a6),a6,if_pos l2,H3 _ (QI a8),a8,if_pos l3];done)
  | (rename_i a1 a2 l1 _ _ _ _ _ _ _ xv a3 a4 _ _ ei ys f τs q a5 a6 l2 _ τ n lo m W2 a7 _ A a8 l3;unfold Am.XW;simp only [a1,a2,H0,if_pos l1,a3,H1 _ (QI a4),a4,H1 _ (QI a7),a7,a5,HA _ _ _ _ (QI a6),a6,if_pos l2,H3 _ (QI a8),a8,l3,f2.1 l3.2.2.2];simp;done)
  | (simp_all [Am.XW];done)
  | skip
theorem Le.JL (h:Le O O') {o:Oper} {g:Eff} (hv:JL P O o=some g) (hf:Zmf O O' g):JL P O' o=some g:=by
 unfold Am.JL at hv ⊢
 split at hv
 ·rename_i x s hx;rw [h.Qg hx];simp only
  split at hv
  ·simp only [h.nt];exact hv
  ·exact hv
 ·rename_i hn;have hm:=h.XW hv hf
  have hn':Am.Qg P O' o.op=none:=by
   unfold Am.XW at hv
   split at hv
   all_goals first
    | (rename_i ho;rw [ho];rfl)
    | (rename_i ho;split at hv<;>first | (rename_i e1 e2 e3;rw [ho];simp only [Am.Qg,h.opd e2,Zqh];split<;>simp_all;done)| (cases hv;done))
    | (cases hv;done)
  rw [hn'];exact hm
theorem Le.Qq (h:Le O O') {d:Option Nat} {fr dp:Bool} {rs:List DV} {g:Eff} (hv:Qq O d fr dp rs=some g) (hf:Zmf O O' g):Qq O' d fr dp rs=some g:=by
 unfold Am.Qq at hv ⊢
 split at hv
 ·exact hv
 ·rename_i d;simp only [h.nt]
  split at hv
  ·rename_i hlt;rw [if_pos hlt]
   split at hv
   ·rename_i hfr;rw [if_pos hfr]
    split at hv
    ·rename_i hall;obtain rfl:=Zz9 hv;rw [if_pos];rw [List.all_eq_true] at hall ⊢;intro p hp;have h1:=hall p hp;have:=hf.ar (p.1,some p.2) (List.mem_map.2 ⟨p,hp,rfl⟩) (by simpa using h1)
     simpa using this
    ·cases hv
   ·rename_i hfr;rw [if_neg hfr];exact hv
  ·cases hv
theorem Le.frC (h:Le O O') {c:CV} {r:L×List Nat×Prop} (hx:frC O c=some r):frC O' c=some r:=by
 unfold Am.frC at hx ⊢
 split at hx
 ·exact hx
 ·exact hx
 ·exact hx
 ·split at hx
  ·rename_i A hA;rw [h.ar _ _ hA];exact hx
  ·cases hx
 ·cases hx
theorem Le.frL (h:Le O O'):∀{cs:List CV} {r:List L×List Nat×Prop},frL O cs=some r->frL O' cs=some r
 | [],_,hx=>hx
 | c::cs,r,hx=>by
  simp only [Am.frL] at hx ⊢
  split at hx
  ·rename_i h1 h2;rw [h.frC h1,h.frL h2];exact hx
  ·cases hx
theorem Le.frV (h:Le O O') {c:V} {r:DV×List Nat×Prop} (hx:frV O c=some r):frV O' c=some r:=by
 cases c with
 | one c=>
  simp only [Am.frV] at hx ⊢;obtain ⟨y,h1,h2⟩:=Option.map_eq_some_iff.1 hx;rw [h.frC h1,Option.map_some,h2]
 | agg cs=>
  simp only [Am.frV] at hx ⊢;obtain ⟨y,h1,h2⟩:=Option.map_eq_some_iff.1 hx;rw [h.frL h1,Option.map_some,h2]
 | tup ps=>simp [Am.frV] at hx
 | dead=>simp [Am.frV] at hx
theorem Le.Zf2 (h:Le O O'):∀{cs:List V} {r:List DV×List Nat×Prop},Zf2 O cs=some r->Zf2 O' cs=some r
 | [],_,hx=>hx
 | c::cs,r,hx=>by
  simp only [Am.Zf2] at hx ⊢
  split at hx
  ·rename_i h1 h2;rw [h.frV h1,h.Zf2 h2];exact hx
  ·cases hx
theorem Le.ZkS (h:Le O O') {j:Nat} {vs:List V} {r:List DV×Nat×List L×List DV×List Nat×Prop} (h1:ZkS O j vs=some r):ZkS O' j vs=some r:=by
 unfold Am.ZkS at h1 ⊢
 split at h1
 ·split at h1
  ·rename_i e1 e2 e3
   split at h1
   ·rename_i e4;simp only [h.Zf2 e1,h.bx _ _ e2,h.Zf2 e3,h.frL e4];exact h1
   ·cases h1
  ·cases h1
 ·cases h1
theorem Le.VL (h:Le O O') {d:Option Nat} {k:Nat} {τs:List Nat} {fr:Bool} {rs:List DV} {ls:List L} {g:Eff} (h4:VL O d k τs fr rs ls=some g) (hf:∀p∈g.ar,O.ar.lookup p.1=none->O'.ar.lookup p.1=none):VL O' d k τs fr rs ls=some g:=by
 unfold Am.VL at h4 ⊢
 split at h4
 ·exact h4
 ·simp only [h.nt]
  split at h4
  ·rename_i hlt;rw [if_pos hlt]
   split at h4
   ·rename_i hfr;rw [if_pos hfr]
    split at h4
    ·rename_i hall;obtain rfl:=Zz9 h4;rw [if_pos];rw [List.all_eq_true] at hall ⊢;intro p hp;have h1:=hall p hp;simp only [ZAd,Option.isNone_iff_eq_none] at h1 ⊢;exact ⟨hf (p.1,some p.2) (List.mem_append_left _ (List.mem_map.2 ⟨p,hp,rfl⟩)) h1.1,h1.2⟩
    ·cases h4
   ·rename_i hfr;rw [if_neg hfr];exact h4
  ·cases h4
theorem Le.xcall (h:Le O O') {d:Option Nat} {f:Nat} {vs:List V} {g:Eff} (hv:ZfB P O d f vs g) (hf:Zmf O O' g):ZfB P O' d f vs g:=by
 cases hv with
 | ptr j d1 k ls d2 τs p fr rs ls' g h1 h2 h3 h4=>exact .ptr j d1 k ls d2 τs p fr rs ls' g (h.ZkS h1) h2 h3 (h.VL h4 fun p hp hn=>hf.ar p hp hn)
 | ptrS j d1 k ls d2 τs p fr rs ls' g cells h1 h2 h3 h4 h5=>exact .ptrS j d1 k ls d2 τs p fr rs ls' g cells (h.ZkS h1) h2 h3 (h.VL h4 fun p hp hn=>hf.ar p hp hn) (h.bx _ _ h5)
 | box ds τs p cs d h1 h2 h3 h4 h5 h6=>exact .box ds τs p cs d (h.Zf2 h1) h2 h3 h4 (h.nt▸h5) (hf.bx (d,cs.map .l) (by simp) h6)
 | froz ds τs p rs d h1 h2 h3 h4 h5=>exact .froz ds τs p rs d (h.Zf2 h1) h2 h3 h4 (h.nt▸h5)
 | hand g h1=>exact .hand g (h1.le ⟨h.nt,h.bx,h.ar,hf.bx,hf.ar⟩)
theorem Le.ev (h:Le O O') {o:Oper} {g:Eff} (hv:Ev P O o g) (hf:Zmf O O' g):Ev P O' o g:=by
 cases hv with
 | step g h1 h2=>exact .step g (h.JL h1 hf) h2
 | call f xs vs ds pu p fr dp rs g h1 h2 h3 h4 h5 h6 h7=>exact .call f xs vs ds pu p fr dp rs g h1 (h.Xs h2) (h.WK h3) h4 h5 h6 (h.Qq h7 hf)
 | xcall f xs vs g h1 h2 h3=>exact .xcall f xs vs g h1 (h.Xs h2) (h.xcall h3 hf)
 | hand g h1=>exact .hand g (h1.le h hf)
end
def Zcq (O0:St):List (Nat×Eff)->St
 | []=>O0
 | g::L=>(Zcq O0 L).app g.2
def ZF {α:Type} (l:List (Nat×α)):List Nat:=l.map (·.1)
def view (O0:St) (es:List (Nat×Eff)) (A:List Nat):St:=⟨(Zcq O0 (es.filter fun p=>A.contains p.1)).nt,(Zcq O0 (es.filter fun p=>A.contains p.1)).tm,(Zcq O0 (es.filter fun p=>A.contains p.1)).bx.filter (fun p=>!A.contains (1000000+p.1)),(Zcq O0 (es.filter fun p=>A.contains p.1)).ar.filter (fun p=>!A.contains (10000000+p.1))⟩
def ZjW (g:Eff) (O:St):Bool:=g.tm.any (fun p=>(O.tm.lookup p.1).isSome)||g.bx.any (fun p=>(O.bx.lookup p.1).isSome)||g.ar.any (fun p=>(O.ar.lookup p.1).isSome)
def apart (g h:Eff):Bool:=g.tm.all (fun p=>!(ZF h.tm).contains p.1)&&g.bx.all (fun p=>!(ZF h.bx).contains p.1)&&g.ar.all (fun p=>!(ZF h.ar).contains p.1)
def dOk (O0:St) (A:List (List Nat)) (es:List (Nat×Eff)):Bool:=
 es.all fun p=>(p.2.bx.all fun r=>!(A.getD p.1 []).contains (1000000+r.1))&&(p.2.ar.all fun r=>!(A.getD p.1 []).contains (10000000+r.1))&&es.all fun q=>p.1==q.1||(A.getD p.1 []).contains q.1||(A.getD q.1 []).contains p.1||(apart q.2 p.2&&!ZjW q.2 (view O0 es (A.getD p.1 [])))
def Za4 (l:List Oper) (A:List (List Nat)):Bool:=
 l.length==A.length&&decide (l.length<=1000000)&&(l.zip A).zipIdx.all fun ((o,d),i)=>
  (o.after.toList.all fun e=>!Region.binds .any e||(d.contains e.on&&decide (e.on<i)))&&
  d.all fun k=>decide (1000000<=k)||o.after.toList.any fun e=>Region.binds .any e&&(e.on==k||(A.getD e.on []).contains k)
inductive EvG (P:Program) (ops:Array Oper) (O:St) (o:Oper):Eff->Prop where
 | plain (g:Eff) (hg:o.guard=none) (h:Ev P O o g):EvG P ops O o g
 | yes (g:Eff) (j:Nat) (want:Bool) (hg:o.guard=some (j,want)) (hy:yld O ops j want=some want) (h:Ev P O o g):EvG P ops O o g
 | no (j:Nat) (want:Bool) (hg:o.guard=some (j,want)) (hy:yld O ops j want=some (!want)):EvG P ops O o ⟨True,match o.dst with | some d=>[(d,.dead)]| none=>[],[],[]⟩
section
variable (P:Program) (ops:Array Oper) (O0:St) (K:St->Prop) (B:List (List Nat))
def Znf:List (List Nat)->List Oper->Nat->List (Nat×Eff)->Prop
 | A::As,o::rest,i,es=>∃g,EvG P ops (view O0 es A) o g/\Znf As rest (i+1) ((i,g)::es)
 | _,[],_,es=>dOk O0 B es=true/\K (Zcq O0 es)
 | _,_,_,_=>False
def ZrV (As:List (List Nat)) (rest:List Oper) (i:Nat) (es:List (Nat×Eff)):Option Eff->Prop
 | some g=>g.side/\Znf P ops O0 K B As rest (i+1) ((i,g)::es)
 | none=>False
def ZvR (As:List (List Nat)) (o:Oper) (rest:List Oper) (i:Nat) (es:List (Nat×Eff)) (O:St):Option Eff->Prop
 | some g=>g.side/\Znf P ops O0 K B As rest (i+1) ((i,g)::es)
 | none=>HBy P O o fun g=>Znf P ops O0 K B As rest (i+1) ((i,g)::es)
def ZvU (As:List (List Nat)) (o:Oper) (rest:List Oper) (i:Nat) (es:List (Nat×Eff)) (O:St) (f:Nat) (vs:Option (List V)):Option (List DV×Bool×Prop)->Prop
 | some (ds,pu,p)=>p/\((∃fr dp rs,Ctr P f ds fr rs/\(fr=false->pu=true)/\ZrV P ops O0 K B As rest i es (Qq O o.dst fr dp rs))\/XBy P O o.dst f vs fun g=>Znf P ops O0 K B As rest (i+1) ((i,g)::es))
 | none=>XBy P O o.dst f vs fun g=>Znf P ops O0 K B As rest (i+1) ((i,g)::es)
def Zux (As:List (List Nat)) (o:Oper) (rest:List Oper) (i:Nat) (es:List (Nat×Eff)) (O:St):Option (Nat×List Operand)->Prop
 | some (f,xs)=>ZvU P ops O0 K B As o rest i es O f (Xs O xs) ((Xs O xs).bind (WK O))
 | none=>ZvR P ops O0 K B As o rest i es O (JL P O o)
def ZqJ (As:List (List Nat)) (o:Oper) (rest:List Oper) (i:Nat) (es:List (Nat×Eff)) (O:St) (want:Bool):Option Bool->Prop
 | some b=>if b=want then Zux P ops O0 K B As o rest i es O (Xg o.op) else ZrV P ops O0 K B As rest i es (some ⟨True,match o.dst with | some d=>[(d,.dead)]| none=>[],[],[]⟩)
 | none=>False
end
section
variable {P:Program} {ops:Array Oper} {O0:St} {K:St->Prop} {B:List (List Nat)}
theorem Zoa {As:List (List Nat)} {o:Oper} {rest:List Oper} {i:Nat} {es:List (Nat×Eff)} {O:St} (h:Zux P ops O0 K B As o rest i es O (Xg o.op)):∃g,Ev P O o g/\Znf P ops O0 K B As rest (i+1) ((i,g)::es):=by
 unfold Zux at h
 split at h
 ·rename_i f xs hc;unfold ZvU at h
  split at h
  ·rename_i ds pu p hd;obtain ⟨hp,⟨fr,dp,rs,h5,h6,h7⟩| ⟨vs,g,hvs,hx,hg⟩⟩:=h
   ·unfold ZrV at h7
    split at h7
    ·rename_i g hg;obtain ⟨vs,hvs,hd⟩:=Option.bind_eq_some_iff.1 hd;exact ⟨g,.call f xs vs ds pu p fr dp rs g hc hvs hd hp h5 h6 hg,h7.2⟩
    ·exact h7.elim
   ·exact ⟨g,.xcall f xs vs g hc hvs hx,hg⟩
  ·obtain ⟨vs,g,hvs,hx,hg⟩:=h;exact ⟨g,.xcall f xs vs g hc hvs hx,hg⟩
 ·unfold ZvR at h
  split at h
  ·rename_i g hg;exact ⟨g,.step g hg h.1,h.2⟩
  ·obtain ⟨g,ho,hz⟩:=h;exact ⟨g,.hand g ho,hz⟩
theorem Zo9 (A:List Nat) (As:List (List Nat)) (rest:List Oper) (i:Nat) (es:List (Nat×Eff)) (d:Option Nat) (op:Op) (ty:Nat) (pos:String) (af:Array Edge)
  (h:Zux P ops O0 K B As ⟨d,op,ty,pos,af,none⟩ rest i es (view O0 es A) (Xg op)):Znf P ops O0 K B (A::As) (⟨d,op,ty,pos,af,none⟩::rest) i es:=by
 obtain ⟨g,h1,h2⟩:=Zoa (o:=⟨d,op,ty,pos,af,none⟩) h;exact ⟨g,.plain g rfl h1,h2⟩
theorem Zpa (A:List Nat) (As:List (List Nat)) (rest:List Oper) (i:Nat) (es:List (Nat×Eff)) (d:Option Nat) (op:Op) (ty:Nat) (pos:String) (af:Array Edge) (j:Nat) (want:Bool)
  (h:ZqJ P ops O0 K B As ⟨d,op,ty,pos,af,some (j,want)⟩ rest i es (view O0 es A) want (yld (view O0 es A) ops j want)):Znf P ops O0 K B (A::As) (⟨d,op,ty,pos,af,some (j,want)⟩::rest) i es:=by
 unfold ZqJ at h
 split at h
 ·rename_i b hy
  split at h
  ·rename_i hb;subst hb;obtain ⟨g,h1,h2⟩:=Zoa (o:=⟨d,op,ty,pos,af,some (j,b)⟩) h;exact ⟨g,.yes g j b rfl hy h1,h2⟩
  ·rename_i hb;obtain ⟨_,h⟩:=h;refine ⟨_,.no j want rfl ?_,h⟩;rw [hy];cases b<;>cases want<;>simp_all
 ·exact h.elim
theorem Zog (As:List (List Nat)) (i:Nat) (es:List (Nat×Eff)) (h:dOk O0 B es=true) (hk:K (Zcq O0 es)):Znf P ops O0 K B As [] i es:=by
 cases As<;>exact ⟨h,hk⟩
theorem Zoh:∀{As:List (List Nat)} {l:List Oper} {i:Nat} {es:List (Nat×Eff)},Znf P ops O0 K B As l i es->As.length=l.length->
  ∃fs:List (Nat×Eff),fs.map (·.1)=(List.range' i l.length).reverse/\dOk O0 B (fs++es)=true/\K (Zcq O0 (fs++es))/\
   ∀j o A,l[j]? =some o->As[j]? =some A->∃g,(i+j,g)∈fs/\EvG P ops (view O0 ((fs.filter fun p=>decide (p.1<i+j))++es) A) o g
 | _,[],i,es,h,hl=>by
  have h':dOk O0 B es=true/\K (Zcq O0 es):=by
   unfold Znf at h
   split at h
   ·rename_i heq;cases heq
   ·exact h
   ·exact h.elim
  exact ⟨[],by simp,by simpa using h'.1,by simpa using h'.2,by simp⟩
 | [],o::l,i,es,h,hl=>by simp at hl
 | A::As,o::l,i,es,h,hl=>by
  obtain ⟨g,h1,h2⟩:=h;obtain ⟨fs,k1,k2,k3,k4⟩:=Zoh h2 (by simpa using hl)
  have hkeys:∀p∈fs,i+1<=p.1:=by
   intro p hp;have:p.1∈fs.map (·.1):=List.mem_map.2 ⟨p,hp,rfl⟩;rw [k1,List.mem_reverse,List.mem_range'_1] at this;exact this.1
  refine ⟨fs++[(i,g)], ?_,by simpa using k2,by simpa using k3, ?_⟩
  ·simp [k1,List.range'_succ]
  ·intro j o' A' ho hA;cases j with
   | zero=>
    simp only [List.getElem?_cons_zero,ZAb] at ho hA;subst ho hA;refine ⟨g,by simp, ?_⟩
    have:(fs++[(i,g)]).filter (fun p=>decide (p.1<i+0))=[]:=by
     rw [List.filter_eq_nil_iff];intro p hp;simp only [List.mem_append,List.mem_singleton] at hp;rcases hp with hp| rfl
     ·have:=hkeys p hp;simp;omega
     ·simp
    rw [this];exact h1
   | succ j=>
    obtain ⟨g',q1,q2⟩:=k4 j o' A' (by simpa using ho) (by simpa using hA);refine ⟨g', ?_, ?_⟩
    ·rw [show i+(j+1)=i+1+j by omega];simp [q1]
    ·rw [show i+(j+1)=i+1+j by omega]
     have:(fs++[(i,g)]).filter (fun p=>decide (p.1<i+1+j))++es=fs.filter (fun p=>decide (p.1<i+1+j))++(i,g)::es:=by
      rw [List.filter_append,List.append_assoc]
      congr 1
      have:decide (i<i+1+j)=true:=by simp;omega
      simp [this]
     rw [this];exact q2
theorem Zf9 (es:List (Nat×Eff)):(Zcq O0 es).tm=es.flatMap (fun p=>p.2.tm)++O0.tm:=by
 induction es with
 | nil=>rfl
 | cons p es ih=>simp [Zcq,St.app,ih]
theorem Ziw (es:List (Nat×Eff)):(Zcq O0 es).bx=es.flatMap (fun p=>p.2.bx)++O0.bx:=by
 induction es with
 | nil=>rfl
 | cons p es ih=>simp [Zcq,St.app,ih]
theorem Zix (es:List (Nat×Eff)):(Zcq O0 es).ar=es.flatMap (fun p=>p.2.ar)++O0.ar:=by
 induction es with
 | nil=>rfl
 | cons p es ih=>simp [Zcq,St.app,ih]
theorem Ziv (es:List (Nat×Eff)):(Zcq O0 es).nt=O0.nt:=by
 induction es with
 | nil=>rfl
 | cons p es ih=>simp [Zcq,St.app,ih]
theorem lookup_append {α:Type} (l m:List (Nat×α)) (k:Nat):(l++m).lookup k=(l.lookup k).or (m.lookup k):=by
 induction l with
 | nil=>simp
 | cons p l ih=>
  obtain ⟨j,v⟩:=p;simp only [List.cons_append,lookup_cons,ih]
  split<;>simp
theorem Un {α:Type} {l:List (Nat×α)} {k:Nat} (h:k∉ZF l):l.lookup k=none:=by
 induction l with
 | nil=>rfl
 | cons p l ih=>
  obtain ⟨j,v⟩:=p;simp only [ZF,List.map_cons,List.mem_cons,not_or] at h;rw [lookup_cons,if_neg h.1];exact ih h.2
section lists
variable {α:Type} (f:Nat×Eff->List (Nat×α))
theorem ZhT (base:List (Nat×α)) (sel:Nat×Eff->Bool) (k:Nat):∀{L:List (Nat×Eff)},(∀p∈L,sel p=false->k∉ZF (f p))->(L.flatMap f++base).lookup k=((L.filter sel).flatMap f++base).lookup k
 | [],_=>rfl
 | p::L,h=>by
  have ih:=ZhT base sel k (L:=L) fun q hq=>h q (by simp [hq]);simp only [List.flatMap_cons,List.append_assoc];rw [lookup_append,ih];cases hs:sel p
  ·rw [Un (h p (by simp) hs)];simp [hs]
  ·rw [List.filter_cons_of_pos (by simp [hs]),List.flatMap_cons,List.append_assoc,lookup_append (f p)]
theorem Zfa (base:List (Nat×α)) (p:Nat×Eff) (k:Nat):∀{L1 L2:List (Nat×Eff)},(∀q∈L1,k∈ZF (f p)->k∉ZF (f q))->((L1++p::L2).flatMap f++base).lookup k=(f p++((L1++L2).flatMap f++base)).lookup k
 | [],L2,_=>by simp
 | q::L1,L2,h=>by
  have ih:=Zfa base p k (L1:=L1) (L2:=L2) fun r hr=>h r (by simp [hr]);simp only [List.cons_append,List.flatMap_cons,List.append_assoc] at ih ⊢;rw [lookup_append,ih,lookup_append (f p),lookup_append (f p),lookup_append (f q)]
  by_cases hk:k∈ZF (f p)
  ·rw [Un (h q (by simp) hk)];simp
  ·rw [Un hk];simp
end lists
structure Eqv (O O':St):Prop where
 nt:O'.nt=O.nt
 tm:∀t,O'.tm.lookup t=O.tm.lookup t
 bx:∀t,O'.bx.lookup t=O.bx.lookup t
 ar:∀t,O'.ar.lookup t=O.ar.lookup t
theorem Eqv.sim {N:Nat->Prop} {w0:Bs} {O O':St} {a:Act} {w:World} (h:Eqv O O') (hs:Sim N w0 O a w):Sim N w0 O' a w:=by
 obtain ⟨e,hs⟩:=hs
 have hm:∀b,Mut e O' b->Mut e O b:=by
  intro b hb;rcases hb with hb| ⟨k,cs,h1,h2⟩| ⟨τ,A,h1,h2⟩
  ·exact .inl hb
  ·exact .inr (.inl ⟨k,cs,by rw [<-h.bx];exact h1,h2⟩)
  ·exact .inr (.inr ⟨τ,A,by rw [<-h.ar];exact h1,h2⟩)
 have u:Up e O w e O' w:=⟨ZAe _,fun _ _ _=>rfl,fun b _ hb=>hm b hb,fun k cs hk=>⟨⟨cs,by rw [h.bx];exact hk⟩,rfl⟩,fun τ A hA=>⟨A,by rw [h.ar];exact hA,fun B hB=>⟨B,hB,ZAe _,fun _=>rfl⟩⟩,fun _ _ _ _=>⟨rfl,fun _ _=>rfl⟩⟩
 have hl:∀κ,live O' κ->live O κ:=by
  intro κ hk;cases κ with
  | b k=>obtain ⟨cs,h1⟩:=hk;exact ⟨cs,by rw [<-h.bx];exact h1⟩
  | a τ=>obtain ⟨A,h1⟩:=hk;exact ⟨A,by rw [<-h.ar];exact h1⟩
 refine ⟨e,⟨by rw [hs.nt,h.nt],hs.df,fun t v ht=>(hs.tm t v (by rw [<-h.tm];exact ht)).up u,fun k cs hk=> ?_,fun τ A hA=>(hs.ar τ A (by rw [<-h.ar];exact hA)).up u fun _ _=>rfl,fun κ κ' h1 h2=>hs.sep κ κ' (hl κ h1) (hl κ' h2),hs.fr,⟨hs.bad.1,fun b hb=>⟨(hs.bad.2 b hb).1,fun κ h1=>(hs.bad.2 b hb).2 κ (hl κ h1)⟩⟩,fun κ h1=>hs.dk κ (hl κ h1),fun k cs hk hle=>hs.pn k cs (by rw [<-h.bx];exact hk) (h.nt▸hle),hs.tn,fun κ b h1 hb=>hs.tp κ b (hl κ h1) hb⟩⟩;obtain ⟨h1,h2⟩:=hs.bx k cs (by rw [<-h.bx];exact hk);exact ⟨h1,h2.up u⟩
theorem Sim.drew {N:Nat->Prop} {w0:Bs} {O:St} {a:Act} {w:World} (hs:Sim N w0 O a w):Sim N w0 O a { w with drawn:=w.drawn+1}:=by
 obtain ⟨e,hs⟩:=hs;have u:Up e O w e O w.drew:=⟨ZAe _,fun _ _ _=>rfl,fun b _ hb=>hb,fun k cs hk=>⟨⟨cs,hk⟩,rfl⟩,fun τ A hA=>⟨A,hA,fun B hB=>⟨B,hB,ZAe _,fun _=>rfl⟩⟩,fun _ _ _ _=>⟨rfl,fun _ _=>rfl⟩⟩;refine ⟨e,⟨hs.nt,hs.df,fun t v ht=>(hs.tm t v ht).up u,fun k cs hk=> ?_,fun τ A hA=>(hs.ar τ A hA).up u fun _ _=>rfl,hs.sep,hs.fr.drew,hs.bad,hs.dk,hs.pn,hs.tn,hs.tp⟩⟩;obtain ⟨h1,h2⟩:=hs.bx k cs hk;exact ⟨h1,h2.up u⟩
end
section
variable {P:Program} {O0:St} {B:List (List Nat)} {N:Nat->Prop} {w0:Bs}
theorem Le.yld {O O':St} {ops:Array Oper} {j:Nat} {b want:Bool} (h:Le O O') (hy:yld O ops j want=some b):yld O' ops j want=some b:=by
 unfold Am.yld at hy ⊢
 split at hy
 ·rename_i d hd
  split at hy
  ·rename_i b' hb;rw [h.tm d _ hb];exact hy
  ·rename_i hb;rw [h.tm d _ hb];exact hy
  ·cases hy
 ·cases hy
theorem ZaK {l:List Oper} {A:List (List Nat)} (h:Za4 l A=true):l.length=A.length/\∀i o d,l[i]? =some o->A[i]? =some d->
  (∀e∈o.after,Region.binds .any e=true->e.on∈d/\e.on<i)/\∀k∈d,k<1000000->∃e∈o.after,Region.binds .any e=true/\(e.on=k\/k∈A.getD e.on []):=by
 unfold Za4 at h;simp only [ZAd,beq_iff_eq,List.all_eq_true] at h;refine ⟨h.1.1,fun i o d ho hd=> ?_⟩
 have hm:((o,d),i)∈(l.zip A).zipIdx:=by
  rw [List.mem_zipIdx_iff_getElem?];rw [List.getElem?_zip_eq_some];exact ⟨ho,hd⟩
 have h2:=h.2 _ hm;refine ⟨fun e he hb=> ?_,fun k hk hkl=> ?_⟩
 ·have h3:=h2.1 e (by simpa using he);simp only [hb,Bool.not_true,Bool.false_or,ZAd,List.contains_iff_mem,decide_eq_true_eq] at h3;exact h3
 ·have h3:=h2.2 k hk;rw [Bool.or_eq_true] at h3;rcases h3 with h3| h3
  ·simp only [decide_eq_true_eq] at h3;omega
  rw [List.any_eq_true] at h3;obtain ⟨e,he,h4⟩:=h3;simp only [ZAd,Bool.or_eq_true,beq_iff_eq,List.contains_iff_mem] at h4;exact ⟨e,by simpa using he,h4.1,h4.2⟩
theorem ZlV {l:List Oper} {A:List (List Nat)} (h:Za4 l A=true):l.length<=1000000:=by
 unfold Za4 at h;simp only [ZAd,decide_eq_true_eq] at h;exact h.1.2
theorem ZdI {α:Type} (q:Nat->Bool):∀(l:List (Nat×α)) (k:Nat),(l.filter fun p=>q p.1).lookup k=if q k=true then l.lookup k else none
 | [],k=>by simp
 | (j,v)::l,k=>by
  have ih:=ZdI q l k
  by_cases hj:q j=true
  ·rw [List.filter_cons_of_pos (by simpa using hj),lookup_cons,lookup_cons,ih]
   by_cases hk:k=j
   ·subst hk;simp [hj]
   ·simp [hk]
  ·rw [List.filter_cons_of_neg (by simpa using hj),lookup_cons,ih]
   by_cases hk:k=j
   ·subst hk;simp [hj]
   ·simp [hk]
theorem ZvS {es:List (Nat×Eff)} (h:dOk O0 B es=true):∀p∈es,∀r∈p.2.bx,(!(B.getD p.1 []).contains (1000000+r.1))=true:=by
 intro p hp r hr;unfold dOk at h;have h1:=List.all_eq_true.1 h p hp;rw [ZAd,ZAd] at h1;exact List.all_eq_true.1 h1.1.1 r hr
theorem ZvT {es:List (Nat×Eff)} (h:dOk O0 B es=true):∀p∈es,∀r∈p.2.ar,(!(B.getD p.1 []).contains (10000000+r.1))=true:=by
 intro p hp r hr;unfold dOk at h;have h1:=List.all_eq_true.1 h p hp;rw [ZAd,ZAd] at h1;exact List.all_eq_true.1 h1.1.2 r hr
theorem ZrU {es:List (Nat×Eff)} (h:dOk O0 B es=true):∀p∈es,∀q∈es,(p.1==q.1||(B.getD p.1 []).contains q.1||(B.getD q.1 []).contains p.1||(apart q.2 p.2&&!ZjW q.2 (view O0 es (B.getD p.1 []))))=true:=by
 intro p hp q hq;unfold dOk at h;have h1:=List.all_eq_true.1 h p hp;rw [ZAd] at h1;exact List.all_eq_true.1 h1.2 q hq
theorem ZnV {α:Type} {p:Prop} [Decidable p] {o:Option α} {v:α} (h:(if p then o else none)=some v):o=some v:=by
 by_cases hp:p
 ·rwa [if_pos hp] at h
 ·rw [if_neg hp] at h;cases h
theorem ZtQ (O:St) (d:Option Nat):O.kill d=O.app ⟨True,match d with | some d=>[(d,.dead)]| none=>[],[],[]⟩:=by cases d<;>rfl
def ZaJ (O0:St) (fs:List (Nat×Eff)) (listed:Array Bool):St:=Zcq O0 (fs.filter fun p=>listed.getD p.1 false)
set_option maxHeartbeats 800000 in
theorem ZrS {l:List Oper} {A:List (List Nat)} {fs:List (Nat×Eff)} {Q:Exit->Act->World->Prop} (hdeps:Za4 l A=true) (hkeys:fs.map (·.1)=(List.range' 0 l.length).reverse) (hok:dOk O0 A fs=true)
  (hev:∀j o d,l[j]? =some o->A[j]? =some d->∃g,(j,g)∈fs/\EvG P l.toArray (view O0 (fs.filter fun p=>decide (p.1<j)) d) o g)
  (hQ:∀a w,Sim N w0 (Zcq O0 fs) a w->Q .normal a w):∀(fuel:Nat) (listed:Array Bool) (a:Act) (w:World),listed.size=l.length->
   (∀j,j<l.length->listed.getD j false=true->∀k∈A.getD j [],k<1000000->listed.getD k false=true)->((List.range l.length).filter fun i=>!listed.getD i false).length<=fuel->Sim N w0 (ZaJ O0 fs listed) a w->wpAny P .any l.toArray Q fuel listed a w:=by
 obtain ⟨hlen,hdep⟩:=ZaK hdeps;have hmax:=ZlV hdeps
 have hmemk:∀p∈fs,p.1<l.length:=by
  intro p hp;have:p.1∈fs.map (·.1):=List.mem_map.2 ⟨p,hp,rfl⟩;rw [hkeys,List.mem_reverse,List.mem_range'_1] at this;omega
 have hA:∀i,i<l.length->∃o d,l[i]? =some o/\A[i]? =some d/\A.getD i []=d:=by
  intro i hi;have h1:i<A.length:=by omega
  exact ⟨l[i],A[i],ZAg hi,ZAg h1,by rw [List.getD_eq_getElem?_getD,ZAg h1];rfl⟩
 have hlt:∀i,i<l.length->∀k∈A.getD i [],k<1000000->k<i:=by
  intro i
  induction i using Nat.strongRecOn with
  | _ i ih=>
   intro hi k hk hkl;obtain ⟨o,d,h1,h2,h3⟩:=hA i hi;rw [h3] at hk;obtain ⟨e,he,hb,hor⟩:=(hdep i o d h1 h2).2 k hk hkl;have he2:=((hdep i o d h1 h2).1 e he hb).2;rcases hor with rfl| hor
   ·exact he2
   ·have:=ih e.on he2 (by omega) k hor hkl;omega
 have hall:∀listed:Array Bool,((List.range l.length).filter fun i=>!listed.getD i false)=[]->∀a w,Sim N w0 (ZaJ O0 fs listed) a w->Q .normal a w:=by
  intro listed hn a w hs;rw [List.filter_eq_nil_iff] at hn
  have:ZaJ O0 fs listed=Zcq O0 fs:=by
   unfold ZaJ
   congr 1
   rw [List.filter_eq_self];intro p hp;have:=hn p.1 (List.mem_range.2 (hmemk p hp))
   simpa using this
  rw [this] at hs;exact hQ a w hs
 intro fuel
 induction fuel with
 | zero=>
  intro listed a w hsz hcl hcnt hs;have hn:((List.range l.length).filter fun i=>!listed.getD i false)=[]:=List.eq_nil_of_length_eq_zero (by omega);refine ⟨?_,hall listed hn a w hs⟩;apply List.eq_nil_iff_forall_not_mem.2;intro i hi;obtain ⟨h1,o,ho,_⟩:=mem_ready.1 hi;have hil:i<l.length:=by have:=(Array.getElem?_eq_some_iff.1 ho).1;simpa using this
  rw [List.filter_eq_nil_iff] at hn;have h2:=hn i (List.mem_range.2 hil);have h3:i<listed.size:=by omega
  simp [h3] at h1 h2;rw [h1] at h2;cases h2
 | succ fuel ih=>
  intro listed a w hsz hcl hcnt hs;refine ⟨fun hready=> ?_,fun i hi=> ?_⟩
  ·by_cases hn:((List.range l.length).filter fun i=>!listed.getD i false)=[]
   ·exact hall listed hn a w hs
   ·exfalso
    have hex:∀n,∀i,i<l.length->listed.getD i false=false->i<=n->False:=by
     intro n
     induction n using Nat.strongRecOn with
     | _ n ihn=>
      intro i hi hun hin
      by_cases hd:∀k∈A.getD i [],k<1000000->listed.getD k false=true
      ·obtain ⟨o,d,h1,h2,h3⟩:=hA i hi
       have:i∈Region.ready .any l.toArray listed:=mem_ready.2 ⟨by
        have h4:i<listed.size:=by omega
        simp [h4] at hun ⊢;exact hun,o,by simpa using h1,fun e he hb=>hd e.on (by rw [h3];exact ((hdep i o d h1 h2).1 e he hb).1) (by have:=((hdep i o d h1 h2).1 e he hb).2;omega)⟩
       rw [hready] at this;cases this
      ·obtain ⟨k,hk⟩:=Classical.not_forall.1 hd;obtain ⟨hk1,hk2⟩:=Classical.not_imp.1 hk;obtain ⟨hkl,hk2⟩:=Classical.not_imp.1 hk2;have hki:=hlt i hi k hk1 hkl;exact ihn k (by omega) k (by omega) (by simpa using hk2) (ZAe _)
    obtain ⟨i,hi⟩:=List.exists_mem_of_ne_nil _ hn;rw [List.mem_filter] at hi;exact hex i i (List.mem_range.1 hi.1) (by simpa using hi.2) (ZAe _)
  ·obtain ⟨h1,o,ho,hafter⟩:=mem_ready.1 hi;have ho':l[i]? =some o:=by simpa using ho
   have hil:i<l.length:=(List.getElem?_eq_some_iff.1 ho').1;have his:i<listed.size:=by omega
   have hun:listed.getD i false=false:=by simp [his] at h1 ⊢;exact h1
   obtain ⟨o2,d,q1,q2,q3⟩:=hA i hil;obtain rfl:o2=o:=Zz9 (q1.symm.trans ho')
   have hsub:∀k∈d,k<1000000->listed.getD k false=true:=by
    intro k hk hkl;obtain ⟨e,he,hb,hor⟩:=(hdep i o2 d q1 q2).2 k hk hkl;have hel:=hafter e he hb;rcases hor with rfl| hor
    ·exact hel
    ·exact hcl e.on (by have:=((hdep i o2 d q1 q2).1 e he hb).2;omega) hel k hor hkl
   obtain ⟨g,hg,hev0⟩:=hev i o2 d q1 q2
   have hview:view O0 (fs.filter fun p=>decide (p.1<i)) d=view O0 fs d:=by
    have hf:(fs.filter fun p=>decide (p.1<i)).filter (fun p=>d.contains p.1)=fs.filter (fun p=>d.contains p.1):=by
     rw [List.filter_filter];apply List.filter_congr;intro p hp
     by_cases hpd:p.1∈d
     ·have:=hlt i hil p.1 (by rw [q3];exact hpd) (by have:=hmemk p hp;omega);simp [this]
     ·simp [hpd]
    unfold view;rw [hf]
   rw [hview] at hev0
   have happ:∀p∈fs,listed.getD p.1 false=true->p.1∉d->apart p.2 g=true/\ZjW p.2 (view O0 fs d)=false:=by
    intro p hp hS hnd;have h3:=ZrU hok (i,g) hg p hp;simp only [q3,Bool.or_eq_true,beq_iff_eq,List.contains_iff_mem,ZAd,Bool.not_eq_true'] at h3;rcases h3 with ((h3| h3)| h3)| h3
    ·rw [<-h3,hun] at hS;cases hS
    ·exact absurd h3 hnd
    ·have:=hcl p.1 (hmemk p hp) hS i h3 (by omega);rw [hun] at this;cases this
    ·exact h3
   have hfil:(fs.filter fun p=>listed.getD p.1 false).filter (fun p=>d.contains p.1)=fs.filter (fun p=>d.contains p.1):=by
    rw [List.filter_filter];apply List.filter_congr;intro p hp
    by_cases hpd:p.1∈d
    ·simp [hsub p.1 hpd (by have:=hmemk p hp;omega)]
    ·simp [hpd]
   have skip:∀{α:Type} (f:Nat×Eff->List (Nat×α)) (base:List (Nat×α)) (k:Nat),(∀p∈fs,listed.getD p.1 false=true->p.1∉d->k∉ZF (f p))->
     ((fs.filter fun p=>listed.getD p.1 false).flatMap f++base).lookup k=((fs.filter fun p=>d.contains p.1).flatMap f++base).lookup k:=by
    intro α f base k hk;rw [ZhT f base (fun p=>d.contains p.1) k,hfil];intro p hp hsel;rw [List.mem_filter] at hp;exact hk p hp.1 (by simpa using hp.2) (by simpa using hsel)
   have vtm:(view O0 fs d).tm=(fs.filter fun p=>d.contains p.1).flatMap (fun p=>p.2.tm)++O0.tm:=Zf9 _;have vbx:(view O0 fs d).bx=((fs.filter fun p=>d.contains p.1).flatMap (fun p=>p.2.bx)++O0.bx).filter (fun p=>!d.contains (1000000+p.1)):=congrArg (List.filter fun p:Nat×List CV=>!d.contains (1000000+p.1)) (Ziw _);have vlk:∀k,(view O0 fs d).bx.lookup k=if (!d.contains (1000000+k))=true then ((fs.filter fun p=>d.contains p.1).flatMap (fun p=>p.2.bx)++O0.bx).lookup k else none:=fun k=>by rw [vbx];exact ZdI (fun k=>!d.contains (1000000+k)) _ k
   have vsome:∀k v,(view O0 fs d).bx.lookup k=some v->((fs.filter fun p=>d.contains p.1).flatMap (fun p=>p.2.bx)++O0.bx).lookup k=some v:=fun k v hv=>ZnV ((vlk k).symm.trans hv);have vnone:∀k,(!d.contains (1000000+k))=true->(view O0 fs d).bx.lookup k=none->((fs.filter fun p=>d.contains p.1).flatMap (fun p=>p.2.bx)++O0.bx).lookup k=none:=fun k hk hv=>(if_pos hk).symm.trans ((vlk k).symm.trans hv);have var_:(view O0 fs d).ar=((fs.filter fun p=>d.contains p.1).flatMap (fun p=>p.2.ar)++O0.ar).filter (fun p=>!d.contains (10000000+p.1)):=congrArg (List.filter fun p:Nat×Option Arr=>!d.contains (10000000+p.1)) (Zix _);have wlk:∀k,(view O0 fs d).ar.lookup k=if (!d.contains (10000000+k))=true then ((fs.filter fun p=>d.contains p.1).flatMap (fun p=>p.2.ar)++O0.ar).lookup k else none:=fun k=>by rw [var_];exact ZdI (fun k=>!d.contains (10000000+k)) _ k
   have wsome:∀k v,(view O0 fs d).ar.lookup k=some v->((fs.filter fun p=>d.contains p.1).flatMap (fun p=>p.2.ar)++O0.ar).lookup k=some v:=fun k v hv=>ZnV ((wlk k).symm.trans hv);have wnone:∀k,(!d.contains (10000000+k))=true->(view O0 fs d).ar.lookup k=none->((fs.filter fun p=>d.contains p.1).flatMap (fun p=>p.2.ar)++O0.ar).lookup k=none:=fun k hk hv=>(if_pos hk).symm.trans ((wlk k).symm.trans hv);have stm:(ZaJ O0 fs listed).tm=(fs.filter fun p=>listed.getD p.1 false).flatMap (fun p=>p.2.tm)++O0.tm:=Zf9 _;have sbx:(ZaJ O0 fs listed).bx=(fs.filter fun p=>listed.getD p.1 false).flatMap (fun p=>p.2.bx)++O0.bx:=Ziw _;have sar:(ZaJ O0 fs listed).ar=(fs.filter fun p=>listed.getD p.1 false).flatMap (fun p=>p.2.ar)++O0.ar:=Zix _
   have notouch:∀{α:Type} (f:Eff->List (Nat×α)) (m:List (Nat×α)) (k:Nat) (v:α),m.lookup k=some v->(∀p∈fs,ZjW p.2 (view O0 fs d)=false->(f p.2).any (fun r=>(m.lookup r.1).isSome)=false)->∀p∈fs,listed.getD p.1 false=true->p.1∉d->k∉ZF (f p.2):=by
    intro α f m k v hv ht p hp hS hnd hk;have h2:=ht p hp (happ p hp hS hnd).2;rw [List.any_eq_false] at h2;obtain ⟨r,hr,rfl⟩:=List.mem_map.1 hk;have:=h2 r hr;rw [hv] at this;simp at this
   have hle:Le (view O0 fs d) (ZaJ O0 fs listed):=by
    refine ⟨by unfold ZaJ view;rw [Ziv,Ziv],fun t v ht=> ?_,fun t v ht=> ?_,fun t v ht=> ?_⟩
    ·rw [stm,skip _ _ t (notouch (fun g=>g.tm) _ t v ht fun p _ h2=>by simp only [ZjW,Bool.or_eq_false_iff] at h2;exact h2.1.1),<-vtm];exact ht
    ·rw [sbx,skip _ _ t (notouch (fun g=>g.bx) _ t v ht fun p _ h2=>by simp only [ZjW,Bool.or_eq_false_iff] at h2;exact h2.1.2)];exact vsome t v ht
    ·rw [sar,skip _ _ t (notouch (fun g=>g.ar) _ t v ht fun p _ h2=>by simp only [ZjW,Bool.or_eq_false_iff] at h2;exact h2.2)];exact wsome t v ht
   have hfresh:Zmf (view O0 fs d) (ZaJ O0 fs listed) g:=by
    refine ⟨fun r hr hn=> ?_,fun r hr hn=> ?_⟩
    ·rw [sbx,skip _ _ r.1 (fun p hp hS hnd hk=> ?_)]
     ·refine vnone r.1 ?_ hn;have h3:=ZvS hok (i,g) hg r hr;rw [<-q3];exact h3
     ·have h2:=(happ p hp hS hnd).1;simp only [apart,ZAd,List.all_eq_true] at h2;obtain ⟨r',hr',he⟩:=List.mem_map.1 hk;have h3:=h2.1.2 r' hr';rw [he] at h3;simp only [Bool.not_eq_true',List.contains_eq_mem,decide_eq_false_iff_not] at h3;exact h3 (List.mem_map.2 ⟨r,hr,rfl⟩)
    ·rw [sar,skip _ _ r.1 (fun p hp hS hnd hk=> ?_)]
     ·refine wnone r.1 ?_ hn;have h3:=ZvT hok (i,g) hg r hr;rw [<-q3];exact h3
     ·have h2:=(happ p hp hS hnd).1;simp only [apart,ZAd,List.all_eq_true] at h2;obtain ⟨r',hr',he⟩:=List.mem_map.1 hk;have h3:=h2.2 r' hr';rw [he] at h3;simp only [Bool.not_eq_true',List.contains_eq_mem,decide_eq_false_iff_not] at h3;exact h3 (List.mem_map.2 ⟨r,hr,rfl⟩)
   have hget:∀k,(listed.setIfInBounds i true).getD k false=if k=i then true else listed.getD k false:=by
    intro k
    by_cases hk:k=i
    ·subst hk;simp [his]
    ·rw [if_neg hk,getD_set_ne false (Ne.symm hk)]
   obtain ⟨L1,L2,hfs⟩:=List.append_of_mem hg
   have hpw:(fs.map (·.1)).Pairwise (· > ·):=by
    rw [hkeys,List.pairwise_reverse];exact List.pairwise_lt_range'
   rw [List.pairwise_map,hfs] at hpw;obtain ⟨pw1,pw2,pw3⟩:=List.pairwise_append.1 hpw;obtain ⟨pw4,pw5⟩:=List.pairwise_cons.1 pw2;have hL1:∀q∈L1,i<q.1:=fun q hq=>pw3 q hq (i,g) (by simp);have hL2:∀q∈L2,q.1<i:=fun q hq=>pw4 q hq
   have hnew:fs.filter (fun p=>(listed.setIfInBounds i true).getD p.1 false)=L1.filter (fun p=>listed.getD p.1 false)++(i,g)::L2.filter (fun p=>listed.getD p.1 false):=by
    rw [hfs,List.filter_append,List.filter_cons_of_pos (by simp [his])]
    congr 1
    ·apply List.filter_congr;intro q hq;rw [hget,if_neg (by have:=hL1 q hq;omega)]
    ·congr 1
     apply List.filter_congr;intro q hq;rw [hget,if_neg (by have:=hL2 q hq;omega)]
   have holdl:fs.filter (fun p=>listed.getD p.1 false)=L1.filter (fun p=>listed.getD p.1 false)++L2.filter (fun p=>listed.getD p.1 false):=by
    rw [hfs,List.filter_append,List.filter_cons_of_neg (by simp [hun])]
   have hap1:∀q∈L1.filter (fun p=>listed.getD p.1 false),apart q.2 g=true:=by
    intro q hq;rw [List.mem_filter] at hq;refine (happ q (by rw [hfs];simp [hq.1]) (by simpa using hq.2) fun hqd=> ?_).1;have:=hlt i hil q.1 (by rw [q3];exact hqd) (by have:=hmemk q (by rw [hfs];simp [hq.1]);omega);have:=hL1 q hq.1;omega
   have heqv:Eqv ((ZaJ O0 fs listed).app g) (ZaJ O0 fs (listed.setIfInBounds i true)):=by
    have e1:(ZaJ O0 fs (listed.setIfInBounds i true))=Zcq O0 (L1.filter (fun p=>listed.getD p.1 false)++(i,g)::L2.filter (fun p=>listed.getD p.1 false)):=by unfold ZaJ;rw [hnew]
    have e2:(ZaJ O0 fs listed)=Zcq O0 (L1.filter (fun p=>listed.getD p.1 false)++L2.filter (fun p=>listed.getD p.1 false)):=by unfold ZaJ;rw [holdl]
    have keys:∀{α:Type} (f:Eff->List (Nat×α)),(∀h:Eff,apart h g=true->(f h).all (fun p=>!(ZF (f g)).contains p.1)=true)->∀k,∀q∈L1.filter (fun p=>listed.getD p.1 false),k∈ZF (f g)->k∉ZF (f q.2):=by
     intro α f hf k q hq hk hk2;have h2:=hf q.2 (hap1 q hq);rw [List.all_eq_true] at h2;obtain ⟨r,hr,rfl⟩:=List.mem_map.1 hk2;have h3:=h2 r hr;simp only [Bool.not_eq_true',List.contains_eq_mem,decide_eq_false_iff_not] at h3;exact h3 hk
    rw [e1,e2];refine ⟨by simp only [St.app,Ziv],fun t=> ?_,fun t=> ?_,fun t=> ?_⟩
    ·simp only [St.app,Zf9];exact Zfa (fun p=>p.2.tm) _ (i,g) t (keys (fun h=>h.tm) (fun h hh=>by simp only [apart,ZAd] at hh;exact hh.1.1) t)
    ·simp only [St.app,Ziw];exact Zfa (fun p=>p.2.bx) _ (i,g) t (keys (fun h=>h.bx) (fun h hh=>by simp only [apart,ZAd] at hh;exact hh.1.2) t)
    ·simp only [St.app,Zix];exact Zfa (fun p=>p.2.ar) _ (i,g) t (keys (fun h=>h.ar) (fun h hh=>by simp only [apart,ZAd] at hh;exact hh.2) t)
   have hnext:∀a' w',Sim N w0 ((ZaJ O0 fs listed).app g) a' w'->wpAny P .any l.toArray Q fuel (listed.setIfInBounds i true) a' w':=by
    intro a' w' hs';refine ih _ _ _ (by simp [hsz]) (fun j hj hS k hk hkl=> ?_) ?_ (heqv.sim hs')
    ·rw [hget] at hS ⊢
     by_cases hki:k=i
     ·simp [hki]
     ·rw [if_neg hki]
      by_cases hji:j=i
      ·subst hji;rw [q3] at hk;exact hsub k hk hkl
      ·rw [if_neg hji] at hS;exact hcl j hj hS k hk hkl
    ·have:((List.range l.length).filter fun j=>!(listed.setIfInBounds i true).getD j false).length<((List.range l.length).filter fun j=>!listed.getD j false).length:=by
      have e3:((List.range l.length).filter fun j=>!(listed.setIfInBounds i true).getD j false)=((List.range l.length).filter fun j=>!listed.getD j false).filter (fun j=>decide (j≠i)):=by
       rw [List.filter_filter];apply List.filter_congr;intro j _;rw [hget]
       by_cases hji:j=i<;>simp [hji]
      rw [e3];have hmem:i∈(List.range l.length).filter fun j=>!listed.getD j false:=List.mem_filter.2 ⟨List.mem_range.2 hil,by simp [hun]⟩;exact List.length_filter_lt_length_iff_exists.2 ⟨i,hmem,by simp⟩
     omega
   unfold wpOp;rw [ho];simp only;obtain ⟨e,hse⟩:=hs;cases hev0 with
   | plain g hgd hE=>
    rw [if_pos (by simp [Region.wanted,hgd])];exact .inl ((hle.ev hE hfresh).sound hse hnext)
   | yes g j want hgd hy hE=>
    have hy':=Zd8 hse (hle.yld hy);have hw:Region.wanted o2 (yielded l.toArray a.tmps)=true:=by unfold Region.wanted;rw [hgd];simp only;rw [hy'];simp
    rw [if_pos hw];exact .inl ((hle.ev hE hfresh).sound hse hnext)
   | no j want hgd hy=>
    have hy':=Zd8 hse (hle.yld hy);have hw:Region.wanted o2 (yielded l.toArray a.tmps)=false:=by unfold Region.wanted;rw [hgd];simp only;rw [hy'];cases want<;>rfl
    rw [if_neg (by simp [hw])];refine hnext _ _ (Eq.mp (congrArg (fun s=>Sim N w0 s (a.put o2.dst undef) w) ?_) ⟨e,hse.kill o2.dst⟩);generalize o2.dst=dd;cases dd<;>rfl
theorem Zq6 {Q:Exit->St->Prop} {id:Nat} {l:List Oper} (A:List (List Nat)) (hm:P.follows .mixedOrders=true) (hd:Za4 l A=true) (h:Znf P l.toArray O0 (fun O'=>Q .normal O') A A l 0 []):AW P N w0 (.region id l.toArray true) Q O0:=by
 intro a w hs;obtain ⟨fs,k1,k2,k3,k4⟩:=Zoh h (ZaK hd).1.symm;simp only [List.append_nil] at k2 k3 k4;refine wp_region_any hm ?_;refine ZrS (Q:=fun e a w=>∃O',Q e O'/\Sim N w0 O' a w) hd k1 k2 (fun j o d ho hdj=>by simpa using k4 j o d ho hdj) (fun a w hs=>⟨_,k3,hs⟩) _ _ _ _ (by simp) ?_ ?_ ?_
 ·intro j hj hS;simp [hj] at hS
 ·have:=List.length_filter_le (fun i=>!(Array.replicate l.toArray.size false).getD i false) (List.range l.length)
  simpa using this
 ·have:ZaJ O0 fs (Array.replicate l.toArray.size false)=O0:=by
   unfold ZaJ
   have:fs.filter (fun p=>(Array.replicate l.toArray.size false).getD p.1 false)=[]:=by
    rw [List.filter_eq_nil_iff];intro p hp
    have:(Array.replicate l.toArray.size false).getD p.1 false=false:=by
     rcases Nat.lt_or_ge p.1 l.toArray.size with h| h
     ·rw [Array.getD_eq_getD_getElem?,Array.getElem?_replicate,if_pos h];rfl
     ·rw [Array.getD_eq_getD_getElem?,Array.getElem?_replicate,if_neg (by omega)];rfl
    rw [this];simp
   rw [this]
   rfl
  rw [this];exact hs.drew
end
end Go.Proofs.YtpblakfidofgfaaGreatDoor.Am
