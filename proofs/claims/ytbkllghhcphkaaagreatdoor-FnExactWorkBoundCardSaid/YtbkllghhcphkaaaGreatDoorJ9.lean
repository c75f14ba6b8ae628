import Derived.Test.YtbkllghhcphkaaaGreatDoorJ8
set_option linter.unusedSimpArgs false
set_option linter.unusedVariables false
namespace Go.Proofs.YtbkllghhcphkaaaGreatDoor
open Go.RowKit Am
def spl (sep t:ByteArray):List ByteArray:=Lib.splitB sep 0 (Lib.countB t sep) t
theorem ZoV {a b:ByteArray} (h:a.data.toList=b.data.toList):a=b:=ByteArray.ext (Array.toList_inj.1 h)
theorem ZnM (sep:ByteArray):∀(k:Nat) (s:ByteArray) (x:ByteArray),x∈Lib.splitB sep 0 k s->x.size<=s.size
 | 0,s,x,h=>by simp [Lib.splitB] at h;simp [h]
 | k+1,s,x,h=>by
  unfold Lib.splitB at h
  split at h
  ·simp at h;simp [h]
  ·rcases List.mem_cons.1 h with rfl| h
   ·rw [ByteArray.size_extract];omega
   ·have:=ZnM sep k _ x h;rw [ByteArray.size_extract] at this;omega
theorem ZlH {sep t x:ByteArray} (h:x∈spl sep t):x.size<=t.size:=ZnM sep _ t x h
theorem Zij (sep t:ByteArray) (h1:1<=sep.size):1<=(spl sep t).length/\(spl sep t).length<=t.size+1:=by
 have h2:=Lib.splitB_all sep h1 0 _ t rfl;have h3:=Lib.countB_le sep h1 _ t (Zyr _);unfold spl;omega
theorem ZnN (s sep:ByteArray) (h1:1<=sep.size) {fr i:Nat} (hf:fr<=i) (hi:i+sep.size<=s.size) (ho:Lib.occAt s.data.toList sep.data.toList i=true) (hn:∀j,fr<=j->j<i->Lib.occAt s.data.toList sep.data.toList j=false):
  spl sep (s.extract fr s.size)=s.extract fr i::spl sep (s.extract (i+sep.size) s.size):=by
 have tl:=Lib.extract_to_end s fr;have hsz:=Lib.size_eq s;have occ:∀j,Lib.occAt (s.data.toList.drop fr) sep.data.toList j=Lib.occAt s.data.toList sep.data.toList (fr+j):=fun j=>by unfold Lib.occAt;rw [List.drop_drop]
 have idx:Lib.indexB (s.extract fr s.size) sep=((i-fr:Nat):Int):=by
  show Lib.index _ _=_;rw [tl];refine Lib.index_first (by rw [List.length_drop];omega) ?_ fun j hj=> ?_
  ·rw [occ,show fr+(i-fr)=i by omega];exact ho
  ·rw [occ];exact hn _ (by omega) (by omega)
 have cnt:=Lib.countB_hit _ sep (i-fr) h1 idx
 have e2:(s.extract fr s.size).extract (i-fr+sep.size) (s.extract fr s.size).size=s.extract (i+sep.size) s.size:=by
  apply ZoV;rw [Lib.extract_to_end,tl,Lib.extract_to_end,List.drop_drop]
  congr 1;omega
 have e1:(s.extract fr s.size).extract 0 (i-fr+0)=s.extract fr i:=by
  apply ZoV;rw [Lib.extract_data,tl,Lib.extract_data,List.drop_zero]
  congr 1
 unfold spl;rw [cnt,Nat.add_comm,Lib.splitB_hit sep 0 _ _ (i-fr) idx,e1,e2]
theorem ZlI (s sep:ByteArray) {fr:Nat} (hn:∀j,fr<=j->Lib.occAt s.data.toList sep.data.toList j=false):spl sep (s.extract fr s.size)=[s.extract fr s.size]:=by
 have idx:Lib.indexB (s.extract fr s.size) sep= -1:=by
  show Lib.index _ _=_;rw [Lib.extract_to_end];refine Lib.index_none fun j _=> ?_;unfold Lib.occAt;rw [List.drop_drop];exact hn _ (by omega)
 unfold spl;rw [Lib.splitB_miss _ _ _ _ idx]
theorem ZuI (l:List UInt8) (c:UInt8) (j:Nat):Lib.occAt l [c] j=decide (l[j]? =some c):=by
 unfold Lib.occAt
 by_cases h:j<l.length
 ·rw [List.drop_eq_getElem_cons h,Zyt h];simp [List.isPrefixOf,eq_comm]
  rfl
 ·rw [List.drop_eq_nil_of_le (by omega),List.getElem?_eq_none (by omega)];simp
theorem Zvx (l:List UInt8) (c d:UInt8) (j:Nat):Lib.occAt l [c,d] j=(decide (l[j]? =some c)&&decide (l[j+1]? =some d)):=by
 have:=ZuI l d (j+1);unfold Lib.occAt at this ⊢
 by_cases h:j<l.length
 ·rw [List.drop_eq_getElem_cons h,Zyt h,<-this];simp only [List.isPrefixOf]
  congr 1
  simp [eq_comm]
  rfl
 ·rw [List.drop_eq_nil_of_le (by omega),List.getElem?_eq_none (by omega)];simp
theorem whole (s:ByteArray):s.extract 0 s.size=s:=by apply ZoV;rw [Lib.extract_to_end];simp
theorem ZmJ (s:ByteArray) (hs:s.size<=120) (c:UInt8):∀(m fr i:Nat) (out:List ByteArray) (n:Nat),i+m=s.size+1->fr<=i->(m=0->fr=s.size+1)->out.length<=i->(∀j,fr<=j->j<i->s.data.toList[j]? ≠some c)->m<n->
  YI s (c.toNat:Int) n out fr i=some (out++if fr<=s.size then spl ⟨#[c]⟩ (s.extract fr s.size) else []):=by
 have hsz:=Lib.size_eq s;have hsep:(⟨#[c]⟩:ByteArray).data.toList=[c]:=rfl;intro m
 induction m with
 | zero=>
  intro fr i out n hi hf h0 hl hn hm;obtain ⟨n,rfl⟩:∃n',n=n'+1:=⟨n-1,by omega⟩;have:=h0 rfl;rw [YI,if_neg (by simp;omega),if_neg (by omega),List.append_nil]
 | succ m ih=>
  intro fr i out n hi hf h0 hl hn hm;obtain ⟨n,rfl⟩:∃n',n=n'+1:=⟨n-1,by omega⟩;rw [YI,if_pos (decide_eq_true (by omega)),if_pos (show fr<=s.size by omega)];have hcut:UH s (fr:Int) (i:Int)=some (s.extract fr i):=ZbT s hs hf (by omega);have happ:Yv 16 out [s.extract fr i]=some (out++[s.extract fr i]):=WS (by simp;omega) (by omega)
  by_cases he:i=s.size
  ·subst he;rw [decide_eq_true (show ((s.size:Nat):Int)=(s.size:Int) from rfl)];simp only [if_true,Zyl,hcut,happ];rw [wS s.size (by omega),ih (s.size+1) (s.size+1) _ n (by omega) (by omega) (fun _=>rfl) (by simp;omega) (fun j h1 h2=>by omega) (by omega),if_neg (by omega),List.append_nil,ZlI];intro j hj;rw [hsep,ZuI]
   by_cases h2:j<s.size
   ·simpa using hn j hj h2
   ·rw [List.getElem?_eq_none (by omega)];simp
  ·have hlt:i<s.data.toList.length:=by omega
   have hat:at? s.data.toList (i:Int)=some s.data.toList[i]:=YF hlt;have hget:s.data.toList[i]? =some s.data.toList[i]:=Zyt hlt;generalize s.data.toList[i]=d at hat hget;rw [decide_eq_false (show ¬((i:Int)=(s.size:Int)) by omega)];simp only [Zys,if_false,hat,Zyl];have hd:decide ((d.toNat:Int)=(c.toNat:Int))=decide (d=c):=u8i d c;rw [hd]
   by_cases hdc:d=c
   ·subst hdc;simp only [decide_true,if_true,hcut,happ,Zyl];rw [wS i (by omega),ih (i+1) (i+1) _ n (by omega) (by omega) (fun h=>by omega) (by simp;omega) (fun j h1 h2=>by omega) (by omega),if_pos (by omega)];rw [ZnN s ⟨#[d]⟩ (Zyr 1) hf (by show i+1<=s.size;omega) (by rw [hsep,ZuI,hget];simp) (fun j h1 h2=>by rw [hsep,ZuI];simpa using hn j h1 h2)];rw [List.append_assoc];rfl
   ·rw [decide_eq_false hdc];simp only [Zys,if_false,Zyl]
    rw [wS i (by omega),ih fr (i+1) out n (by omega) (by omega) (fun h=>by omega) (by omega) (fun j h1 h2=>by
     by_cases hj:j=i
     ·subst hj;rw [hget];simpa using hdc
     ·exact hn j h1 (by omega)) (by omega),if_pos (by omega)]
def sp:ByteArray:=⟨#[32]⟩
theorem Zil (s:ByteArray) (hs:s.size<=120) {k:Nat} (hk:2000<=k):Vg k s 32=some (spl sp s):=by
 unfold Vg;have:=ZmJ s hs 32 (s.size+1) 0 0 [] k (by omega) (by omega) (by omega) (by simp) (fun j h1 h2=>by omega) (by omega);have:YI s 32 k [] 0 0=some ([]++if 0<=s.size then spl sp (s.extract 0 s.size) else []):=this;rw [this,if_pos (by omega),whole];rfl
theorem ZiG (s:ByteArray) (hs:s.size<=120):Vh s 32=some (spl sp s):=by
 unfold Vh Qf;have e:Zlj [32]=sp:=by decide
 rw [e,if_pos ⟨by omega,by decide⟩];rfl
def ZmK:ByteArray:=⟨#[59,32]⟩
theorem ZmQ (s:ByteArray) (hs:s.size<=120):∀(m fr i:Nat) (out:List ByteArray),i+m=s.size->fr<=i->out.length<=i->(∀j,fr<=j->j<i->Lib.occAt s.data.toList ZmK.data.toList j=false)->
  ∃ps f2,f2<=s.size/\out.length+ps.length<=s.size/\ps++[s.extract f2 s.size]=spl ZmK (s.extract fr s.size)/\∀n,m<n->ZU s n out fr i=some (out++ps,(f2:Int)):=by
 have hsz:=Lib.size_eq s;have hsep:ZmK.data.toList=[59,32]:=rfl;intro m
 induction m using Nat.strongRecOn with
 | _ m ih=>
 intro fr i out hi hf hl hn
 by_cases hlt:i+1<s.size
 ·have hl0:i<s.data.toList.length:=by omega
  have hl1:i+1<s.data.toList.length:=by omega
  have hat:at? s.data.toList (i:Int)=some s.data.toList[i]:=YF hl0;have hat1:at? s.data.toList ((i+1:Nat):Int)=some s.data.toList[i+1]:=YF hl1;have hget:s.data.toList[i]? =some s.data.toList[i]:=Zyt hl0;have hget1:s.data.toList[i+1]? =some s.data.toList[i+1]:=Zyt hl1;generalize s.data.toList[i]=c at hat hget;generalize s.data.toList[i+1]=d at hat1 hget1;have hc:decide ((c.toNat:Int)=59)=decide (c=59):=u8i c 59;have hd:decide ((d.toNat:Int)=32)=decide (d=32):=u8i d 32
  have step:∀n,ZU s (n+1) out fr i=(if (decide (c=59)&&decide (d=32))=true then (UH s fr i).bind fun x11=>(Yv 16 out [x11]).bind fun x12=>ZU s n x12 ((i+2:Nat):Int) ((i+1:Nat):Int) else ZU s n out fr ((i+1:Nat):Int)):=by
   intro n;rw [ZU,wS i (by omega),if_pos (decide_eq_true (by omega)),hat,hat1];simp only [Zyl,hc,hd];rw [show IntKind.i64.wrap ((i:Int)+2)=((i+2:Nat):Int) by rw [w64 (by omega) (by omega)];rfl];cases decide (c=59)
   ·simp
   ·cases decide (d=32)
    ·simp
    ·simp only [if_true,Bool.and_self,Zyl];cases UH s fr i with
     | none=>rfl
     | some x=>simp only [Zyl];cases Yv 16 out [x]<;>rfl
  have hcut:UH s (fr:Int) (i:Int)=some (s.extract fr i):=ZbT s hs hf (by omega);have happ:Yv 16 out [s.extract fr i]=some (out++[s.extract fr i]):=WS (by simp;omega) (by omega)
  by_cases hh:c=59/\d=32
  ·obtain ⟨rfl,rfl⟩:=hh;have ho:Lib.occAt s.data.toList ZmK.data.toList i=true:=by rw [hsep,Zvx,hget,hget1];simp
   have hspl:=ZnN s ZmK (by decide) hf (by show i+2<=s.size;omega) ho hn;have hspl:spl ZmK (s.extract fr s.size)=s.extract fr i::spl ZmK (s.extract (i+2) s.size):=hspl;obtain ⟨ps,f2,a1,a2,a3,a4⟩:=ih (m-2) (by omega) (i+2) (i+2) (out++[s.extract fr i]) (by omega) (by omega) (by simp;omega) (fun j h1 h2=>by omega);refine ⟨s.extract fr i::ps,f2,a1,by simp at a2 ⊢;omega,by rw [hspl,<-a3];rfl,fun n hm=> ?_⟩;obtain ⟨n,rfl⟩:∃n',n=n'+2:=⟨n-2,by omega⟩;rw [step (n+1)];simp only [decide_true,Bool.and_self,if_true,hcut,happ,Zyl]
   by_cases h2:i+2<s.size
   ·have hl2:i+1+1<s.data.toList.length:=by omega
    rw [ZU,wS (i+1) (by omega),if_pos (decide_eq_true (by omega)),hat1];simp only [Zyl];rw [show (decide (((32:UInt8).toNat:Int)=59))=false from rfl];simp only [Zys,if_false,Zyl];rw [a4 n (by omega)];simp
   ·have:=a4 (n+1) (by omega);rw [ZU,wS (i+2) (by omega),if_neg (by simp;omega)] at this;rw [ZU,wS (i+1) (by omega),if_neg (by simp;omega)];rw [this];simp
  ·have hno:(decide (c=59)&&decide (d=32))=false:=by
    by_cases h1:c=59
    ·have:d≠32:=fun h=>hh ⟨h1,h⟩;simp [this]
    ·simp [h1]
   obtain ⟨ps,f2,a1,a2,a3,a4⟩:=ih (m-1) (by omega) fr (i+1) out (by omega) (by omega) (by omega) (fun j h1 h2=>by
    by_cases hj:j=i
    ·subst hj;rw [hsep,Zvx,hget,hget1];simpa using hno
    ·exact hn j h1 (by omega))
   refine ⟨ps,f2,a1,a2,a3,fun n hm=> ?_⟩;obtain ⟨n,rfl⟩:∃n',n=n'+1:=⟨n-1,by omega⟩;rw [step n,hno];simp only [Zys,if_false];exact a4 n (by omega)
 ·refine ⟨[],fr,by omega,by simp;omega, ?_,fun n hm=> ?_⟩
  ·rw [ZlI,List.nil_append];intro j hj
   by_cases h2:j<i
   ·exact hn j hj h2
   ·rw [hsep,Zvx,List.getElem?_eq_none (show s.data.toList.length<=j+1 by omega)];simp
  ·obtain ⟨n,rfl⟩:∃n',n=n'+1:=⟨n-1,by omega⟩;rw [ZU,wS i (by omega),if_neg (by simp;omega),List.append_nil]
theorem ZnX (s:ByteArray) (hs:s.size<=120) {k:Nat} (hk:2000<=k):UY k s=some (spl ZmK s):=by
 obtain ⟨ps,f2,a1,a2,a3,a4⟩:=ZmQ s hs s.size 0 0 [] (by omega) (by omega) (by simp) (fun j h1 h2=>by omega);unfold UY;have:=a4 k (by omega);have:ZU s k [] 0 0=some ([]++ps,(f2:Int)):=this;rw [this];simp only [Zyl,List.nil_append];rw [ZbT s hs a1 (Zyr _)];simp only [Zyl];rw [WS (by simp at a2 ⊢;omega) (by omega),a3,whole];rfl
theorem ZoD (s:ByteArray) (hs:s.size<=120):Qf s (⟨#[59,32]⟩:ByteArray)=some (spl ZmK s):=by
 unfold Qf;rw [if_pos ⟨by omega,by decide⟩];rfl
def Zgq:List ByteArray->Option (List Int)
 | []=>some []
 | w::ws=>if (XT w (-1000000000) 1000000000).2=true then (Zgq ws).map fun ns=>(XT w (-1000000000) 1000000000).1::ns else none
theorem ZjM:∀{ws:List ByteArray} {ns:List Int},Zgq ws=some ns->ns.length=ws.length
 | [],ns,h=>by simp [Zgq] at h;simp [<-h]
 | w::ws,ns,h=>by
  unfold Zgq at h
  split at h
  ·obtain ⟨ms,h1,rfl⟩:=Option.map_eq_some_iff.1 h;simp [ZjM h1]
  ·cases h
theorem Zpx (ws:List ByteArray) (hl:ws.length<=1000) (hs:∀w∈ws,w.size<=120):∀(m i:Nat) (out:List Int),i+m=ws.length->out.length<=i->
  (∀ns,Zgq (ws.drop i)=some ns->∀k n,2000<=k->m<n->YT k ws n out i=some (.inl (out++ns))/\Ym ws n out i=some (.inl (out++ns)))/\
  (Zgq (ws.drop i)=none->∃r,r.length<=ws.length/\∀k n,2000<=k->m<n->YT k ws n out i=some (.inr (r,false))/\Ym ws n out i=some (.inr ([],false))):=by
 intro m
 induction m with
 | zero=>
  intro i out hi hlo;rw [List.drop_eq_nil_of_le (by omega)];refine ⟨fun ns h k n hk hn=> ?_,fun h=>by cases h⟩;obtain rfl:ns=[]:=by simpa [Zgq] using h.symm
  obtain ⟨n,rfl⟩:∃n',n=n'+1:=⟨n-1,by omega⟩;rw [YT,Ym,if_neg (X6 (by omega)),if_neg (X6 (by omega)),List.append_nil];exact ⟨rfl,rfl⟩
 | succ m ih=>
  intro i out hi hlo;have hlt:i<ws.length:=by omega
  have hat:at? ws (i:Int)=some ws[i]:=YF hlt;have hw:=hs ws[i] (List.getElem_mem hlt);rw [List.drop_eq_getElem_cons hlt];generalize ws[i]=w at hat hw;have hp:ZbK w (-1000000000) 1000000000=some (XT w (-1000000000) 1000000000):=by unfold ZbK;rw [if_pos (by omega)]
  have hr:=Zhz w (-1000000000) 1000000000 (by omega) (by omega)
  have hb:∀k,2000<=k->((WU k w).bind fun x6=>(if (!x6.2)=true then some true else (Qs x6.1).bind fun x8=>some (!x8)).bind fun x7=>some (x6.1,x7))=some ((Ut w).1,!(XT w (-1000000000) 1000000000).2):=by
   intro k hk;rw [Zgo w (by omega) (by omega),hr];simp only [Zyl];generalize Ut w=rv;cases h2:rv.2 with
   | false=>simp
   | true=>
    simp only [Bool.not_true,Zys,if_false,true_and];unfold Qs;rw [Km];simp only [Zyl]
    by_cases h3: -1000000000<=rv.1/\rv.1<=1000000000
    ·rw [if_pos h3];simp [h3.1,h3.2]
    ·rw [if_neg h3]
     have:(decide (-1000000000<=rv.1)&&decide (rv.1<=1000000000))=false:=by
      by_cases h4: -1000000000<=rv.1
      ·have:¬rv.1<=1000000000:=fun h=>h3 ⟨h4,h⟩;simp [this]
      ·simp [h4]
     rw [this]
  have sstep:∀k n,2000<=k->YT k ws (n+1) out i=(if (!(XT w (-1000000000) 1000000000).2)=true then some (.inr (out,false)) else (Yv 8 out [(Ut w).1]).bind fun x9=>YT k ws n x9 ((i+1:Nat):Int)):=by
   intro k n hk;have:=hb k hk;rw [YT,if_pos (Z3 hlt),hat,wS i (by omega)];simp only [Zyl];cases hq:WU k w with
   | none=>rw [hq] at this;cases this
   | some x6=>
    rw [hq] at this;simp only [Zyl] at this ⊢;cases hq2:(if (!x6.2)=true then some true else (Qs x6.1).bind fun x8=>some (!x8)) with
    | none=>rw [hq2] at this;cases this
    | some x7=>
     rw [hq2] at this;simp only [Zyl,Zyo,Zyp] at this ⊢;rw [this.2,this.1]
  have istep:∀n,Ym ws (n+1) out i=(if (!(XT w (-1000000000) 1000000000).2)=true then some (.inr ([],false)) else (Yv 8 out [(XT w (-1000000000) 1000000000).1]).bind fun x7=>Ym ws n x7 ((i+1:Nat):Int)):=by
   intro n;rw [Ym,if_pos (Z3 hlt),hat,wS i (by omega)];simp only [Zyl,hp]
  unfold Zgq;cases hv:(XT w (-1000000000) 1000000000).2 with
  | false=>
   rw [hv] at sstep istep;refine ⟨fun ns h=>by simp at h,fun _=>⟨out,by omega,fun k n hk hn=> ?_⟩⟩;obtain ⟨n,rfl⟩:∃n',n=n'+1:=⟨n-1,by omega⟩;exact ⟨by rw [sstep k n hk];rfl,by rw [istep n];rfl⟩
  | true=>
   rw [hv] at sstep istep
   have e1:(XT w (-1000000000) 1000000000).1=(Ut w).1:=by
    rw [hr] at hv ⊢
    split
    ·rfl
    ·rename_i h;rw [if_neg h] at hv;cases hv
   have ha:Yv 8 out [(Ut w).1]=some (out++[(Ut w).1]):=WS (by simp;omega) (by omega);obtain ⟨g1,g2⟩:=ih (i+1) (out++[(Ut w).1]) (by omega) (by simp;omega);simp only [if_true];refine ⟨fun ns h=> ?_,fun h=> ?_⟩
   ·obtain ⟨ms,h1,rfl⟩:=Option.map_eq_some_iff.1 h;intro k n hk hn;obtain ⟨n,rfl⟩:∃n',n=n'+1:=⟨n-1,by omega⟩;obtain ⟨q1,q2⟩:=g1 ms h1 k n hk (by omega);rw [sstep k n hk,istep n,e1,ha];simp only [Bool.not_true,Zys,if_false,Zyl,q1,q2];simp
   ·have h1:Zgq (ws.drop (i+1))=none:=by
     cases hx:Zgq (ws.drop (i+1)) with
     | none=>rfl
     | some ms=>rw [hx] at h;cases h
    obtain ⟨r,r0,r1⟩:=g2 h1;refine ⟨r,r0,fun k n hk hn=> ?_⟩;obtain ⟨n,rfl⟩:∃n',n=n'+1:=⟨n-1,by omega⟩;obtain ⟨q1,q2⟩:=r1 k n hk (by omega);rw [sstep k n hk,istep n,e1,ha];simp only [Bool.not_true,Zys,if_false,Zyl,q1,q2];exact ⟨trivial,trivial⟩
theorem Zti (s:ByteArray) (hs:s.size<=120) (c:Int):∃(rs ri:List Int) (b:Bool),(b=true->rs=ri)/\ri.length<=121/\∀k,2000<=k->JV k s c=some (rs,b)/\Uv k s c=some (ri,b):=by
 obtain ⟨l1,l2⟩:=Zij sp s (by decide);obtain ⟨g1,g2⟩:=Zpx (spl sp s) (by omega) (fun w hw=>by have:=ZlH hw;omega) (spl sp s).length 0 [] (by omega) (by simp);rw [List.drop_zero] at g1 g2;cases hv:Zgq (spl sp s) with
 | some ns=>
  have hl:=ZjM hv;refine ⟨ns,ns,decide ((ns.length:Int)=c),fun _=>rfl,by omega,fun k hk=> ?_⟩;obtain ⟨q1,q2⟩:=g1 ns hv k k hk (by omega);have q1:YT k (spl sp s) k [] 0=some (.inl ([]++ns)):=q1;have q2:Ym (spl sp s) k [] 0=some (.inl ([]++ns)):=q2;constructor
  ·unfold JV;rw [Zil s hs hk];simp only [Zyl];rw [q1];rfl
  ·unfold Uv;rw [ZiG s hs];simp only [Zyl];rw [q2];rfl
 | none=>
  obtain ⟨r,r0,r1⟩:=g2 hv;refine ⟨r,[],false,fun h=>(by cases h),by simp,fun k hk=> ?_⟩;obtain ⟨q1,q2⟩:=r1 k k hk (by omega);have q1:YT k (spl sp s) k [] 0=some (.inr (r,false)):=q1;have q2:Ym (spl sp s) k [] 0=some (.inr ([],false)):=q2;constructor
  ·unfold JV;rw [Zil s hs hk];simp only [Zyl];rw [q1];rfl
  ·unfold Uv;rw [ZiG s hs];simp only [Zyl];rw [q2];rfl
def cix (nb:Zd) (id:Int):Int:=KY (fun x:Zk=>decide (x.id=id)) nb.cells
theorem Ue (nb:Zd) (id:Int) (hl:nb.cells.length<=4294967296) {k:Nat} (hk:nb.cells.length<k):Xw k nb id=some (cix nb id):=by
 unfold Xw cix KY
 rw [Zj1 nb.cells (fun x=>decide (x.id=id)) (Yc nb id) (fun i=>some (.inr (i:Int))) (some (.inl ()))
  (fun n i h hp=>by rw [Yc,if_pos (Z3 h),YF h,Zyl,if_neg (by simpa using hp),wS i (by omega)])
  (fun n i h hp=>by rw [Yc,if_pos (Z3 h),YF h,Zyl,if_pos hp])
  (fun n=>by rw [Yc,if_neg (X6 (Zyr _))]) hk]
 split<;>rfl
theorem W7 (nb:Zd) (id:Int) (hl:nb.cells.length<=4294967296) {k:Nat} (hk:nb.cells.length<k):Y6 k nb id=some (cix nb id):=by
 rw [JF];exact Ue nb id hl hk
theorem ZlU (nb:Zd):nb.cells.length<=nb.bk:=by rw [Zd.ZH];have:=Yj (f:=Zk.bk) (xs:=nb.cells);omega
def Zun (c:UInt8):Bool:=decide ((c.toNat:Int)<32)||decide (126<(c.toNat:Int))
def ZcV (s:ByteArray):Bool:=!(s.data.toList.any Zun)&&decide ((s.size:Int)<=120)
theorem Zgg (s:ByteArray) (hs:(s.size:Int)<=9223372036854775807) {k:Nat} (hk:s.size<k):X4 k s=some (ZcV s):=by
 have hT:∀x∈s.data.toList,(fun c:UInt8=>(if (decide ((c.toNat:Int)<32))=true then some true else some (decide (126<(c.toNat:Int))):Option Bool)) x=some (Zun x):=by
  intro x _;unfold Zun;simp only;cases decide ((x.toNat:Int)<32)<;>simp
 unfold X4 ZcV;rw [Xq s.data.toList Zun _ false () (Yb s) hT (fun n i=>by rw [Yb,QX];simp only [Option.bind_assoc]) (by rw [QX];exact hs) (by rw [QX];exact hk)];cases s.data.toList.any Zun<;>simp
theorem Zk7 (s:ByteArray) (hs:(s.size:Int)<=9223372036854775807) {k:Nat} (hk:s.size<k):W1 k s=some (ZcV s):=by
 rw [ZeN];exact Zgg s hs hk
def QQ (c:Zk):Bool:= ((decide (1<=c.id)&&decide (c.id<=999))&&(decide (1<=c.version)&&decide (c.version<=999))&&ZcV c.code)&& (if c.kind=1 then decide (c.name=(⟨#[]⟩:ByteArray))&&decide (c.n=0) else if c.kind=2\/c.kind=4 then WH c.name&&decide (c.n=0) else if c.kind=3 then WH c.name&&(decide (c.code=(⟨#[]⟩:ByteArray))&&(decide (0<=c.n)&&decide (c.n<=100))) else false)
theorem Jb (c:Zk) (hc:c.bk<=1048576) {k:Nat} (hk:1048600<k):YV k c=some (QQ c)/\YX k c=some (QQ c):=by
 have e:=Zk.ZH c;obtain ⟨n1,n2⟩:=Ja c.name (by omega) (show c.name.size<k by omega) (by omega);have p1:=Zgg c.code (by omega) (show c.code.size<k by omega);have p2:=Zk7 c.code (by omega) (show c.code.size<k by omega);unfold YV YX QQ;rw [n1,n2,p1,p2];simp only [Km,U2,Zyl];generalize (decide (1<=c.id)&&decide (c.id<=999))=A;generalize (decide (1<=c.version)&&decide (c.version<=999))=B;generalize ZcV c.code=C;generalize WH c.name=D;generalize decide (c.name=(⟨#[]⟩:ByteArray))=E;generalize decide (c.code=(⟨#[]⟩:ByteArray))=F;generalize (decide (0<=c.n)&&decide (c.n<=100))=G;generalize decide (c.n=0)=H
 by_cases h1:c.kind=1
 ·simp only [h1,decide_true,if_true];cases A<;>cases B<;>cases C<;>cases E<;>cases H<;>exact ⟨rfl,rfl⟩
 by_cases h2:c.kind=2
 ·simp only [h2];cases A<;>cases B<;>cases C<;>cases D<;>cases H<;>exact ⟨rfl,rfl⟩
 by_cases h4:c.kind=4
 ·simp only [h4];cases A<;>cases B<;>cases C<;>cases D<;>cases H<;>exact ⟨rfl,rfl⟩
 by_cases h3:c.kind=3
 ·simp only [h3];cases A<;>cases B<;>cases C<;>cases D<;>cases F<;>cases G<;>exact ⟨rfl,rfl⟩
 simp only [h1,h2,h3,h4,decide_false,if_false,or_self];cases A<;>cases B<;>cases C<;>exact ⟨rfl,rfl⟩
def ZaJ (nb:Zd) (j:Nat) (c:Zk):Bool:=!QQ c||!decide (cix nb c.id=(j:Int))
def Ziw (nb:Zd):Bool:=!anyI (ZaJ nb) 0 nb.cells&&decide ((nb.cells.length:Int)<=8)
theorem ZdH (nb:Zd) (hb:nb.bk<=1048576) {k:Nat} (hk:1048600<k):QR k nb=some (Ziw nb)/\QS k nb=some (Ziw nb):=by
 have e:=Zd.ZH nb;have hl:=ZlU nb
 have hc:∀j (h:j<nb.cells.length),YV k nb.cells[j]=some (QQ nb.cells[j])/\YX k nb.cells[j]=some (QQ nb.cells[j]):=fun j h=>by
  have:=QA (f:=Zk.bk) (List.getElem_mem h);exact Jb _ (by omega) hk
 constructor
 ·unfold QR Ziw
  rw [U1 nb.cells (ZaJ nb) (fun i x3=>(YV k x3).bind fun x4=>if (!x4)=true then some true else (Xw k nb x3.id).bind fun x5=>some (!decide (x5=i))) false () (Z5 k nb)
   (fun j h=>by rw [(hc j h).1,Ue nb _ (by omega) (by omega)];unfold ZaJ;simp only [Zyl];cases QQ nb.cells[j]<;>simp)
   (fun n i=>by rw [Z5];simp only [Option.bind_assoc]) (by omega) (by omega)]
  cases anyI (ZaJ nb) 0 nb.cells<;>simp
 ·unfold QS Ziw
  rw [U1 nb.cells (ZaJ nb) (fun i x3=>(YX k x3).bind fun x4=>if (!x4)=true then some true else (Y6 k nb x3.id).bind fun x5=>some (!decide (x5=i))) false () (Z6 k nb)
   (fun j h=>by rw [(hc j h).2,W7 nb _ (by omega) (by omega)];unfold ZaJ;simp only [Zyl];cases QQ nb.cells[j]<;>simp)
   (fun n i=>by rw [Z6]) (by omega) (by omega)]
  cases anyI (ZaJ nb) 0 nb.cells<;>simp
theorem ZnF (s:ByteArray) (hs:s.size<=120):∀(m a:Nat) (out:List Zi),a<=s.size->s.size-a<=m->out.length<=60->(∀t∈out,WFt t)->
  ∃r,(∀k n,2000<=k->m<n->ZV k s n out a=some r/\ZW k s n out a=some r)/\(∀o,r= .inl o->o.length<=60/\∀t∈o,WFt t)/\∀z,r= .inr z->0<=z.2:=by
 have hsz:=Zpq s hs
 have stop:∀(m a:Nat) (out:List Zi),s.size<=a->out.length<=60->(∀t∈out,WFt t)->
   ∃r,(∀k n,2000<=k->m<n->ZV k s n out a=some r/\ZW k s n out a=some r)/\(∀o,r= .inl o->o.length<=60/\∀t∈o,WFt t)/\∀z,r= .inr z->0<=z.2:=by
  intro m a out ha hl hw;refine ⟨.inl out,fun k n hk hn=> ?_,(fun o e=>by cases e;exact ⟨hl,hw⟩),fun z e=>by cases e⟩;obtain ⟨n,rfl⟩:∃n',n=n'+1:=⟨n-1,by omega⟩;exact ⟨by rw [ZV,if_neg (X6 (by omega))],by rw [ZW,if_neg (X6 (by omega))]⟩
 intro m
 induction m with
 | zero=>intro a out ha hm hl hw;exact stop 0 a out (by omega) hl hw
 | succ m ih=>
  intro a out ha hm hl hw
  by_cases hlt:a<s.size
  ·have hla:a<s.data.toList.length:=by omega
   have hat:at? s.data.toList (a:Int)=some s.data.toList[a]:=YF hla;generalize s.data.toList[a]=c at hat
   by_cases h32:(c.toNat:Int)=32
   ·obtain ⟨r,r1,r2,r3⟩:=ih (a+1) out (by omega) (by omega) hl hw;refine ⟨r,fun k n hk hn=> ?_,r2,r3⟩;obtain ⟨n,rfl⟩:∃n',n=n'+1:=⟨n-1,by omega⟩;rw [ZV,ZW,if_pos (Z3 hlt),if_pos (Z3 hlt),hat];simp only [Zyl];rw [if_pos (decide_eq_true h32),if_pos (decide_eq_true h32),wS a (by omega)];exact r1 k n hk (by omega)
   ·have start:∀k n,ZV k s (n+1) out a=((Xz k s a).bind fun x5=>(if (decide (x5.2=0))=true then some true else some (decide ((out.length:Int)=60))).bind fun x6=>if x6=true then some (.inr (([]:List Zi),(a:Int))) else (Yv 40 out [x5.1]).bind fun x7=>ZV k s n x7 (IntKind.i64.wrap ((a:Int)+x5.2)))/\
      ZW k s (n+1) out a=((Qy k s a).bind fun x5=>(if (!x5.2.2)=true then some true else some (decide ((out.length:Int)=60))).bind fun x6=>if x6=true then some (.inr (([]:List Zi),(a:Int))) else (Yv 40 out [x5.1]).bind fun x7=>ZW k s n x7 x5.2.1):=by
     intro k n;rw [ZV,ZW,if_pos (Z3 hlt),if_pos (Z3 hlt),hat];simp only [Zyl];rw [if_neg (by simpa using h32),if_neg (by simpa using h32)];exact ⟨rfl,rfl⟩
    rcases Zs1 s hs a hlt with ⟨t,e,h1,h2,h3,h4⟩| ⟨t,t',e,h4⟩
    ·by_cases h60:out.length=60
     ·refine ⟨.inr ([],a),fun k n hk hn=> ?_,(fun o e=>by cases e),fun z e=>by cases e;show (0:Int)<=a;omega⟩;obtain ⟨n,rfl⟩:∃n',n=n'+1:=⟨n-1,by omega⟩;obtain ⟨q1,q2⟩:=h4 k hk;rw [(start k n).1,(start k n).2,q1,q2];have hd:decide ((out.length:Int)=60)=true:=by simp;omega
      simp [hd]
     ·obtain ⟨r,r1,r2,r3⟩:=ih e (out++[t]) h2 (by omega) (by simp;omega) (fun t' ht=>by
       rcases List.mem_append.1 ht with ht| ht
       ·exact hw t' ht
       ·simp at ht;rw [ht];exact h3)
      refine ⟨r,fun k n hk hn=> ?_,r2,r3⟩;obtain ⟨n,rfl⟩:∃n',n=n'+1:=⟨n-1,by omega⟩;obtain ⟨q1,q2⟩:=h4 k hk;have hd:decide ((out.length:Int)=60)=false:=by simp;omega
      have hd2:decide ((((e-a:Nat):Int))=0)=false:=by simp;omega
      rw [(start k n).1,(start k n).2,q1,q2];simp only [Zyl,Bool.not_true,Zys,if_false,hd,hd2];rw [WS (by simp;omega) (by omega)];simp only [Zyl];rw [show IntKind.i64.wrap ((a:Int)+((e-a:Nat):Int))=(e:Int) by rw [w64 (by omega) (by omega)];omega];exact r1 k n hk (by omega)
    ·refine ⟨.inr ([],a),fun k n hk hn=> ?_,(fun o e=>by cases e),fun z e=>by cases e;show (0:Int)<=a;omega⟩;obtain ⟨n,rfl⟩:∃n',n=n'+1:=⟨n-1,by omega⟩;obtain ⟨q1,q2⟩:=h4 k hk;rw [(start k n).1,(start k n).2,q1,q2];simp
  ·exact stop _ a out (by omega) hl hw
theorem Zkx (s:ByteArray):∃(T:List Zi) (b:Int),(b<0->b= -1/\s.size<=120/\ZfB T s.size)/\∀k,2000<=k->VS k s=some (T,b)/\V2 k s=some (T,b):=by
 by_cases hs:s.size<=120
 ·obtain ⟨r,h1,h2,h3⟩:=ZnF s hs s.size 0 [] (by omega) (by omega) (by simp) (by simp);cases r with
  | inl T=>
   obtain ⟨g1,g2⟩:=h2 T rfl;refine ⟨T, -1,fun _=>⟨rfl,hs,⟨fun t ht=>(g2 t ht).nm,fun t ht=>(g2 t ht).sy,fun t ht=>(g2 t ht).at_,fun t ht=>(g2 t ht).tx,by omega,g1⟩⟩,fun k hk=> ?_⟩;obtain ⟨q1,q2⟩:=h1 k k hk (by omega);have q1:ZV k s k [] 0=some (.inl T):=q1;have q2:ZW k s k [] 0=some (.inl T):=q2;constructor
   ·unfold VS;rw [if_neg (by simp;omega),q1];rfl
   ·unfold V2;rw [if_neg (by simp;omega),q2];rfl
  | inr z=>
   refine ⟨z.1,z.2,fun h=>absurd h (by have:=h3 z rfl;omega),fun k hk=> ?_⟩;obtain ⟨q1,q2⟩:=h1 k k hk (by omega);have q1:ZV k s k [] 0=some (.inr z):=q1;have q2:ZW k s k [] 0=some (.inr z):=q2;constructor
   ·unfold VS;rw [if_neg (by simp;omega),q1];rfl
   ·unfold V2;rw [if_neg (by simp;omega),q2];rfl
 ·refine ⟨[],120,fun h=>absurd h (by decide),fun k hk=>⟨?_, ?_⟩⟩
  ·unfold VS;rw [if_pos (decide_eq_true (by omega))]
  ·unfold V2;rw [if_pos (decide_eq_true (by omega))]
def zX:Zb:=⟨0,0,⟨#[]⟩,[]⟩
theorem Zpj:zX.bk=0:=by rw [zX,Zj3];rfl
theorem ZpE (s:ByteArray):∃r:Zb×Int,r.1.bk<=12000/\(-1<=r.2)/\Ev fun k=>WB k s=some r/\WM k s=some r:=by
 obtain ⟨T,b,h1,h2⟩:=Zkx s
 by_cases hb:0<=b
 ·refine ⟨(zX,b),by rw [Zpj];omega,by show -1<=b;omega,2000,fun k hk=>⟨?_, ?_⟩⟩
  ·unfold WB;rw [(h2 k hk).1];simp only [Zyl];rw [if_pos (decide_eq_true hb)];rfl
  ·unfold WM;rw [(h2 k hk).2];simp only [Zyl];rw [if_pos (decide_eq_true hb)];rfl
 obtain ⟨rfl,hs,ok⟩:=h1 (by omega);obtain ⟨es,ei,x',p',o',r1,g1,B,e1⟩:=Zus ok T.length ⟨T,0,s.size, -1⟩ ⟨T,0, -1⟩ (some 0) ⟨by omega,rfl,rfl⟩ (fun j e=>by cases e;omega);have hlen:=ok.len
 have sS:∀k,2000<=k->B<=k->WB k s=((if (decide (x'.bad<0))=true then some (decide (x'.i<(T.length:Int))) else some false).bind fun x7=>if x7=true then (Y3 x').bind fun x8=>some (x8.2.toks,x8.2.i,x8.2.end_,x8.2.bad) else some (x'.toks,x'.i,x'.end_,x'.bad)).bind fun (x3,x4,x5,x6)=>if (decide (0<=x6))=true then some (zX,x6) else (WV k es).bind fun x9=>if (!x9)=true then some (zX,0) else some (es, -1):=by
  intro k hk hB;have q:=(e1 k hB).1;dsimp only at q;unfold WB;rw [(h2 k hk).1];simp only [Zyl];rw [if_neg (by simp),q]
  rfl
 have iS:∀k,2000<=k->B<=k->WM k s=((if (decide (p'.bad<0))=true then some (decide (p'.at_<(T.length:Int))) else some false).bind fun x4=>if x4=true then some p'.at_ else some p'.bad).bind fun x3=>if (decide ((T.length:Int)<=x3))=true then some (zX,(s.size:Int)) else if (decide (0<=x3))=true then (at? T x3).bind fun x5=>some (zX,x5.at_) else (W0 k ei).bind fun x6=>if (!x6)=true then some (zX,0) else some (ei, -1):=by
  intro k hk hB;have q:=(e1 k hB).2;dsimp only at q;unfold WM;rw [(h2 k hk).2];simp only [Zyl];rw [if_neg (by simp),q]
  rfl
 cases o' with
 | none=>
  obtain ⟨c,c0,c1,c2,c3,c4,c5⟩:=r1;have hp:=ZlR ok c;refine ⟨(zX,Zpf T s.size c),by rw [Zpj];omega,by show -1<=Zpf T s.size c;omega,max 2000 B,fun k hk=>⟨?_, ?_⟩⟩
  ·rw [sS k (by omega) (by omega),c5];simp [show ¬Zpf T s.size c<0 by omega,hp]
  ·rw [iS k (by omega) (by omega),c4];simp only [show ¬((c:Int)<0) by omega,decide_false,Zys,if_false,Zyl]
   by_cases hc:c<T.length
   ·rw [if_neg (by simp;omega),if_pos (decide_eq_true (by omega)),YF hc];simp only [Zyl,Zpf,Zyt hc]
   ·rw [if_pos (decide_eq_true (by omega))];simp only [Zpf,List.getElem?_eq_none (show T.length<=c by omega)]
 | some j=>
  obtain ⟨c0,rfl,rfl⟩:=r1;obtain ⟨rfl,j0,hj0,hj1,hj2⟩:=g1 j rfl;cases hj0
  by_cases hj:j<T.length
  ·have hat:at? T (j:Int)=some T[j]:=YF hj;have hpos:=ok.at_ T[j] (List.getElem_mem hj)
   have f1:Y3 ⟨T,j,s.size, -1⟩=some (zE,⟨T,j,s.size,T[j].at_⟩):=by
    unfold Y3;simp [Z3 hj,hat,zE,hj]
   refine ⟨(zX,T[j].at_),by rw [Zpj];omega,by show -1<=T[j].at_;omega,max 2000 B,fun k hk=>⟨?_, ?_⟩⟩
   ·rw [sS k (by omega) (by omega)];simp only [show ((-1:Int)<0) by decide,decide_true,if_true,Z3 hj,Zyl,f1];rw [if_pos (decide_eq_true hpos)]
   ·rw [iS k (by omega) (by omega)];simp only [show ((-1:Int)<0) by decide,decide_true,if_true,Z3 hj,Zyl];rw [if_neg (by simp;omega),if_pos (decide_eq_true (by omega)),hat]
    rfl
  ·obtain ⟨v,B2,hv⟩:=ZnB es (by omega);have hno:decide ((j:Int)<(T.length:Int))=false:=by simp;omega
   have h9:∀k,max 2000 (max B B2)<=k->WB k s=some (if v=true then (es, -1) else (zX,0))/\WM k s=some (if v=true then (es, -1) else (zX,0)):=by
    intro k hk;obtain ⟨v1,v2⟩:=hv k (by omega);constructor
    ·rw [sS k (by omega) (by omega)];simp only [show ((-1:Int)<0) by decide,decide_true,if_true,hno,Zyl,Zys,if_false];rw [if_neg (by simp),v1];cases v<;>rfl
    ·rw [iS k (by omega) (by omega)];simp only [show ((-1:Int)<0) by decide,decide_true,if_true,hno,Zyl,Zys,if_false];rw [if_neg (by simp;omega),if_neg (by simp),v2];cases v<;>rfl
   refine ⟨_, ?_, ?_,_,h9⟩
   ·split
    ·show es.bk<=12000;omega
    ·rw [Zpj];omega
   ·split
    ·exact Int.le_refl _
    ·show (-1:Int)<=0;decide
theorem Zmo {α:Type} {f:α->Nat} {B:Nat}:∀{xs:List α},(∀x∈xs,f x<=B)->bkS f xs<=xs.length*(B+1)
 | [],_=>by simp [bkS,Qx]
 | x::xs,h=>by
  have h1:=h x (by simp);have h2:=Zmo (xs:=xs) fun y hy=>h y (by simp [hy]);have e:bkS f (x::xs)=1+f x+bkS f xs:=by unfold bkS;rw [List.length_cons,show Qx f (x::xs)=f x+Qx f xs from rfl];omega
  rw [e,List.length_cons,Nat.add_mul];omega
def zV:Za:=Za.mk 0 0 0 ⟨#[]⟩ [] [] []
abbrev Zlp:=ByteArray->List Int×List Int×Bool
def Znw (g:Zlp) (s:ByteArray):ZN:=ZN.mk (g s).2.1 []
def Zcu (g:Zlp) (out:List ZN) (l:List ByteArray):Option (List ZN ⊕ (Za×Bool)):=if l.all (fun s=>(g s).2.2)=true then some (.inl (out++l.map (Znw g))) else some (.inr (zV,false))
theorem Zp7 {g:Zlp} {out:List ZN} {s:ByteArray} {l:List ByteArray} (h:(g s).2.2=false):Zcu g out (s::l)=some (.inr (zV,false)):=by unfold Zcu;rw [List.all_cons,h];rfl
theorem ZoM {g:Zlp} {out:List ZN} {s:ByteArray} {l:List ByteArray} (h:(g s).2.2=true):Zcu g out (s::l)=Zcu g (out++[Znw g s]) l:=by unfold Zcu;rw [List.all_cons,h,Bool.true_and,List.map_cons,List.append_assoc];rfl
structure ZsD (c:Int) (t:ByteArray) (r:List Int×List Int×Bool):Prop where
 same:r.2.2=true->r.1=r.2.1
 len:r.2.1.length<=121
 s:∀k,2000<=k->JV k t c=some (r.1,r.2.2)
 i:∀k,2000<=k->Uv k t c=some (r.2.1,r.2.2)
theorem KZ (x:ByteArray) (ys:List ByteArray):(((x::ys).take (((x::ys).length:Int)).toNat).drop (1:Int).toNat)=ys:=by
 rw [show (((x::ys).length:Int)).toNat=(x::ys).length from Int.toNat_natCast _,List.take_length];rfl
theorem Zj6 (x:ByteArray) (ys cs:List ByteArray) (hl:ys.length<=1000) (g:Zlp) (hg:∀s∈ys,ZsD cs.length s (g s)):∀(m i:Nat) (out:List ZN) (k n:Nat),i+m=ys.length->out.length<=i->2000<=k->m<n->
  YJ k (x::ys) cs n out ((i+1:Nat):Int)=Zcu g out (ys.drop i)/\YQ k (x::ys) cs n out (i:Int)=Zcu g out (ys.drop i):=by
 intro m
 induction m with
 | zero=>
  intro i out k n hi ho hk hn;obtain ⟨n,rfl⟩:∃n',n=n'+1:=⟨n-1,by omega⟩;rw [List.drop_eq_nil_of_le (by omega),YJ,YQ,KZ,if_neg (X6 (by simp;omega)),if_neg (X6 (by omega))];unfold Zcu;simp
 | succ m ih=>
  intro i out k n hi ho hk hn;obtain ⟨n,rfl⟩:∃n',n=n'+1:=⟨n-1,by omega⟩;have hlt:i<ys.length:=by omega
  have hat:at? ys (i:Int)=some ys[i]:=YF hlt;have hat':at? (x::ys) ((i+1:Nat):Int)=some ys[i]:=YF (by simp;omega);have h:=hg ys[i] (List.getElem_mem hlt);rw [List.drop_eq_getElem_cons hlt,YJ,YQ,KZ,if_pos (Z3 (by simp;omega)),if_pos (Z3 hlt),hat,hat',wS (i+1) (by omega),wS i (by omega)];generalize ys[i]=s at h;simp only [Zyl,h.s k hk,h.i k hk];cases hv:(g s).2.2 with
  | false=>rw [Zp7 hv];exact ⟨rfl,rfl⟩
  | true=>
   rw [ZoM hv,h.same hv];have ha:Yv 48 out [ZN.mk (g s).2.1 []]=some (out++[Znw g s]):=WS (by simp;omega) (by omega);simp only [Bool.not_true,Zys,if_false,ha,Zyl];exact ih (i+1) _ k n (by omega) (by simp;omega) hk (by omega)
structure ZuV (v:Za):Prop where
 bk:v.bk<=100000
 rows:v.rows.length<=121
 row:∀r∈v.rows,r.cells.length<=121/\r.from_=[]
theorem Zqn:ZuV zV:=⟨by rw [Za.ZH];show 0<=100000;omega,by simp [zV],by simp [zV]⟩
theorem ZwO (x:ByteArray) (ys:List ByteArray):Zb8 (x::ys) 1 ((x::ys).length:Int)=some ys:=by
 unfold Zb8;rw [if_pos ⟨by omega,by simp;omega,by omega⟩,KZ]
theorem Zjx (s:ByteArray) (hs:s.size<=120):∃x ys,spl ZmK s=x::ys/\x.size<=120/\ys.length<=120/\∀y∈ys,y.size<=120:=by
 obtain ⟨l1,l2⟩:=Zij ZmK s (by decide);have h:∀y∈spl ZmK s,y.size<=120:=fun y hy=>by have:=ZlH hy;omega
 cases e:spl ZmK s with
 | nil=>rw [e] at l1;simp at l1
 | cons x ys=>
  rw [e] at l2 h;exact ⟨x,ys,rfl,h x (by simp),by simp at l2;omega,fun y hy=>h y (by simp [hy])⟩
theorem Zn3 (cs ys:List ByteArray) (hy:∀y∈ys,y.size<=120):∃g:Zlp,∀s∈ys,ZsD cs.length s (g s):=by
 refine V7 ys fun y h=> ?_;obtain ⟨rs,ri,b,h1,h2,h3⟩:=Zti y (hy y h) cs.length;exact ⟨(rs,ri,b),⟨h1,h2,fun k hk=>(h3 k hk).1,fun k hk=>(h3 k hk).2⟩⟩
theorem Zse (s:ByteArray) (hs:s.size<=120):∃r:Za×Bool,ZuV r.1/\Ev fun k=>VV k s=some r/\WN k s=some r:=by
 obtain ⟨x,ys,e,hx,hl,hy⟩:=Zjx s hs;have hcs:∀y∈spl sp x,y.size<=120:=fun y h=>by have:=ZlH h;omega
 have hcl:=(Zij sp x (by decide)).2;obtain ⟨g,hg⟩:=Zn3 (spl sp x) ys hy
 have sdef:∀k,2000<=k->VV k s=(Zcu g [] ys).bind fun | .inl x4=>(ZK k (Za.mk 5 0 0 ⟨#[]⟩ [] (spl sp x) x4)).bind fun x10=>if (!x10)=true then some (zV,false) else some (Za.mk 5 0 0 ⟨#[]⟩ [] (spl sp x) x4,true)| .inr z=>some z:=by
  intro k hk;unfold VV;have h0:at? (x::ys) 0=some x:=YF (xs:=x::ys) (i:=0) (by simp);rw [ZnX s hs hk,e,Zyl,h0,Zyl,Zil x hx hk,Zyl];have:=(Zj6 x ys (spl sp x) (by omega) g hg ys.length 0 [] k k (by omega) (by simp) hk (by omega)).1;rw [List.drop_zero] at this;have:YJ k (x::ys) (spl sp x) k [] 1=Zcu g [] ys:=this;rw [this];rfl
 have idef:∀k,2000<=k->WN k s=(Zcu g [] ys).bind fun | .inl x4=>(ZD k (Za.mk 5 0 0 ⟨#[]⟩ [] (spl sp x) x4)).bind fun x10=>if (!x10)=true then some (zV,false) else some (Za.mk 5 0 0 ⟨#[]⟩ [] (spl sp x) x4,true)| .inr z=>some z:=by
  intro k hk;unfold WN;have h0:at? (x::ys) 0=some x:=YF (xs:=x::ys) (i:=0) (by simp);rw [ZoD s hs,e,Zyl,h0,Zyl,ZiG x hx,Zyl,ZwO,Zyl];have:=(Zj6 x ys (spl sp x) (by omega) g hg ys.length 0 [] k k (by omega) (by simp) hk (by omega)).2;rw [List.drop_zero] at this;have:YQ k (x::ys) (spl sp x) k [] 0=Zcu g [] ys:=this;rw [this];rfl
 by_cases hall:ys.all (fun s=>(g s).2.2)=true
 ·have hr:Zcu g [] ys=some (.inl (ys.map (Znw g))):=by unfold Zcu;rw [if_pos hall,List.nil_append]
  have htab:ZuV (Za.mk 5 0 0 ⟨#[]⟩ [] (spl sp x) (ys.map (Znw g))):=by
   have hrow:∀r∈ys.map (Znw g),r.cells.length<=121/\r.from_=[]:=fun r hr=>by
    obtain ⟨y,hy,rfl⟩:=List.mem_map.1 hr;exact ⟨(hg y hy).len,rfl⟩
   refine ⟨?_,by show (ys.map (Znw g)).length<=121;simp;omega,hrow⟩;rw [Za.ZH];show (0:Nat)+(bkS Za.bk []+(bkS ByteArray.size (spl sp x)+(bkS ZN.bk (ys.map (Znw g))+0)))<=100000;have h1:=Zmo (f:=ByteArray.size) (xs:=spl sp x) hcs
   have h2:=Zmo (f:=ZN.bk) (B:=121) (xs:=ys.map (Znw g)) fun r hr=>by
    obtain ⟨a,b⟩:=hrow r hr;rw [ZN.ZH,Znh,Znh,b];simp;omega
   have h3:bkS Za.bk []=0:=rfl;have h4:(spl sp x).length*(120+1)<=121*121:=Nat.mul_le_mul (by omega) (by omega);have h5:(ys.map (Znw g)).length*(121+1)<=120*122:=Nat.mul_le_mul (by simp;omega) (by omega);omega
  obtain ⟨b,hb,hev⟩:=Zhp (Za.mk 5 0 0 ⟨#[]⟩ [] (spl sp x) (ys.map (Znw g))) (by have:=htab.bk;omega);refine ⟨if b then (Za.mk 5 0 0 ⟨#[]⟩ [] (spl sp x) (ys.map (Znw g)),true) else (zV,false), ?_,(hev.and (Ev.ge 2000)).mono fun k ⟨⟨h1,h2⟩,hk⟩=> ?_⟩
  ·cases b
   ·exact Zqn
   ·exact htab
  ·rw [sdef k hk,idef k hk,hr];simp only [Zyl,h1,h2];cases b<;>exact ⟨rfl,rfl⟩
 ·have hr:Zcu g [] ys=some (.inr (zV,false)):=by unfold Zcu;rw [if_neg hall]
  refine ⟨(zV,false),Zqn,(Ev.ge 2000).mono fun k hk=> ?_⟩;rw [sdef k hk,idef k hk,hr];exact ⟨rfl,rfl⟩
theorem Zp3 (x:ByteArray) (ys cs:List ByteArray) (hl:ys.length<=1000) (g:Zlp) (hg:∀s∈ys,ZsD cs.length s (g s)):∀(m i:Nat),i+m=ys.length->∃r:Unit ⊕ Int,∀k n:Nat,2000<=k->m<n->
  YK k (x::ys) cs n ((i+1:Nat):Int)=some r/\YR k (x::ys) cs n (i:Int)=some r:=by
 intro m
 induction m with
 | zero=>
  intro i hi;refine ⟨.inl (),fun k n hk hn=> ?_⟩;obtain ⟨n,rfl⟩:∃n',n=n'+1:=⟨n-1,by omega⟩;rw [YK,YR,KZ,if_neg (X6 (by simp;omega)),if_neg (X6 (by omega))];exact ⟨rfl,rfl⟩
 | succ m ih=>
  intro i hi;have hlt:i<ys.length:=by omega
  have hat:at? ys (i:Int)=some ys[i]:=YF hlt;have hat':at? (x::ys) ((i+1:Nat):Int)=some ys[i]:=YF (by simp;omega);have h:=hg ys[i] (List.getElem_mem hlt);generalize ys[i]=s at h hat hat';obtain ⟨r,hr⟩:=ih (i+1) (by omega);refine ⟨if ((!(g s).2.2)||decide (12<=i))=true then .inr ((i+1:Nat):Int) else r,fun k n hk hn=> ?_⟩;obtain ⟨n,rfl⟩:∃n',n=n'+1:=⟨n-1,by omega⟩;obtain ⟨q1,q2⟩:=hr k n hk (by omega);rw [YK,YR,KZ,if_pos (Z3 (by simp;omega)),if_pos (Z3 hlt),hat,hat',wS (i+1) (by omega),wS i (by omega)];simp only [Zyl,h.s k hk,h.i k hk,q1,q2];have e1:decide (12<((i+1:Nat):Int))=decide (12<=i):=decide_eq_decide.2 (by omega);have e2:decide (12<=(i:Int))=decide (12<=i):=decide_eq_decide.2 (by omega);rw [e1,e2];cases (g s).2.2<;>cases decide (12<=i)<;>exact ⟨rfl,rfl⟩
theorem Zm6 (s:ByteArray) (hs:s.size<=120) {v:Za} (hf:Ev fun k=>WN k s=some (v,false)):∃n:Int,Ev fun k=>Jq k s=some n/\JE k s=some n:=by
 obtain ⟨x,ys,e,hx,hl,hy⟩:=Zjx s hs;have hcs:∀y∈spl sp x,y.size<=120:=fun y h=>by have:=ZlH h;omega
 have hcl:=(Zij sp x (by decide)).2;obtain ⟨g,hg⟩:=Zn3 (spl sp x) ys hy;obtain ⟨r,hr⟩:=Zp3 x ys (spl sp x) (by omega) g hg ys.length 0 (by omega);refine ⟨if ZcK (spl sp x)=true then (match r with | .inl _=> -1| .inr z=>z) else 0,(hf.and (Ev.ge 1048700)).mono fun k ⟨hp,hk⟩=> ?_⟩;have h0:at? (x::ys) 0=some x:=YF (xs:=x::ys) (i:=0) (by simp);obtain ⟨c1,c2⟩:=Zka (spl sp x) (by omega) (fun y h=>by have:=hcs y h;omega) (k:=k) (by omega);obtain ⟨q1,q2⟩:=hr k k (by omega) (by omega);have q1:YK k (x::ys) (spl sp x) k 1=some r:=q1;have q2:YR k (x::ys) (spl sp x) k 0=some r:=q2;constructor
 ·unfold Jq;rw [ZnX s hs (by omega),e,Zyl,h0,Zyl,Zil x hx (by omega),Zyl,c1,q1];cases ZcK (spl sp x)<;>cases r<;>rfl
 ·unfold JE;rw [hp,ZoD s hs,e,Zyl];simp only [Zys,if_false,Zyl];rw [h0,Zyl,ZiG x hx,Zyl,c2,ZwO,Zyl,q2];cases ZcK (spl sp x)<;>cases r<;>rfl
theorem ZlD (a:Int) (v:Za):∀(n:Nat) (xs:List ZN) (i:Int),xs.length=v.rows.length->ZX a n xs i=Ys a v n xs i
 | 0,_,_,_=>rfl
 | n+1,xs,i,h=>by
  rw [ZX,Ys,h]
  split
  ·cases at? xs i with
   | none=>rfl
   | some y=>exact ZlD a v n _ _ (by simp [h])
  ·rfl
theorem Zps (a:Int) (B:Nat):∀(m i:Nat) (xs:List ZN),i+m=xs.length->xs.length<=1000->(∀r∈xs,r.cells.length<=121/\r.from_.length<=1)->∃ys:List ZN,ys.length=xs.length/\(∀r∈ys,r.cells.length<=121/\r.from_.length<=1)/\∀n,m<n->ZX a n xs (i:Int)=some ys:=by
 intro m
 induction m with
 | zero=>
  intro i xs hi hl hx;refine ⟨xs,rfl,hx,fun n hn=> ?_⟩;obtain ⟨n,rfl⟩:∃n',n=n'+1:=⟨n-1,by omega⟩;rw [ZX,if_neg (X6 (by omega))]
 | succ m ih=>
  intro i xs hi hl hx;have hlt:i<xs.length:=by omega
  have hat:at? xs (i:Int)=some xs[i]:=YF hlt;have h:=hx xs[i] (List.getElem_mem hlt)
  obtain ⟨ys,h1,h2,h3⟩:=ih (i+1) (xs.set i (ZN.mk xs[i].cells [Zo.mk a i])) (by simp;omega) (by simp;omega) fun r hr=>by
   rcases List.mem_or_eq_of_mem_set hr with h'| rfl
   ·exact hx r h'
   ·exact ⟨h.1,Zyr 1⟩
  refine ⟨ys,by rw [h1];simp,h2,fun n hn=> ?_⟩;obtain ⟨n,rfl⟩:∃n',n=n'+1:=⟨n-1,by omega⟩;rw [ZX,if_pos (Z3 hlt),hat,Zyl,wS i (by omega),Int.toNat_natCast];exact h3 n (by omega)
theorem Zr9 (n:Int):(Za.mk 6 n 0 (⟨#[]⟩:ByteArray) [] [] []).bk<=0:=by rw [Za.ZH];exact Zyr 0
theorem ZnO (a:Int) (v:Za) (hv:ZuV v):∃w:Za,w.bk<=200000/\Ev fun k=>Vt k a v=some w/\VA k a v=some w:=by
 obtain ⟨b,hb,hev⟩:=Zhp v (by have:=hv.bk;omega);have hrow:∀r∈v.rows,r.cells.length<=121/\r.from_.length<=1:=fun r hr=>⟨(hv.row r hr).1,by rw [(hv.row r hr).2];simp⟩;have hl:=hv.rows;obtain ⟨ys,h1,h2,h3⟩:=Zps a 0 v.rows.length 0 v.rows (by omega) (by omega) hrow;have hbk:=hv.bk;have hlens:=v.ZrJ;refine ⟨if (!decide (v.kind=5)||(!b||decide (a<0)))=true then Za.mk 6 4 0 ⟨#[]⟩ [] [] [] else Za.mk v.kind v.n v.step v.text v.list v.columns ys, ?_,(hev.and ((ZkI v (by omega)).and ((Zk5 v (by omega)).and (Ev.ge 2000)))).mono fun k ⟨⟨e1,e2⟩,e3,e4,hk⟩=> ?_⟩
 ·split
  ·have:=Zr9 4;omega
  ·have e:=Za.ZH v;rw [Za.ZH];show v.text.size+(bkS Za.bk v.list+(bkS ByteArray.size v.columns+(bkS ZN.bk ys+0)))<=200000
   have:=Zmo (f:=ZN.bk) (B:=122) (xs:=ys) fun r hr=>by
    obtain ⟨a,b⟩:=h2 r hr;rw [ZN.ZH,Znh,Znh];omega
   have h5:ys.length*(122+1)<=121*123:=Nat.mul_le_mul (by omega) (by omega);omega
 ·have q1:ZX a k v.rows 0=some ys:=h3 k (by omega);have q2:Ys a v k v.rows 0=some ys:=by rw [<-ZlD a v k v.rows 0 rfl];exact q1
  unfold Vt VA;rw [e1,e2,e3,e4];simp only [Zyl];rw [q1,q2];cases decide (v.kind=5)<;>cases b<;>cases decide (a<0)<;>exact ⟨rfl,rfl⟩
theorem Zld {c:Zk} (h:QQ c=true):c.code.size<=120:=by
 unfold QQ at h;simp only [Zyq] at h;have:=h.1.2;unfold ZcV at this;simp only [Zyq,decide_eq_true_eq] at this;omega
theorem Zlc {c:Zk} (h:QQ c=true):c.kind=1\/c.kind=2\/c.kind=3\/c.kind=4:=by
 unfold QQ at h
 by_cases h1:c.kind=1
 ·exact .inl h1
 by_cases h2:c.kind=2
 ·exact .inr (.inl h2)
 by_cases h3:c.kind=3
 ·exact .inr (.inr (.inl h3))
 by_cases h4:c.kind=4
 ·exact .inr (.inr (.inr h4))
 simp [h1,h2,h3,h4] at h
def zEx:Zb:=Zb.mk 0 0 ⟨#[]⟩ []
theorem ZsR:zEx.bk<=0:=by rw [Zb.ZH];exact Zyr 0
def CP (c:Zk) (p:Zq):Prop:=QQ c=true->(p.kind=1↔c.kind=1)/\(¬c.kind=1->p.name=c.name)
theorem Zsl (c:Zk) (hc:c.bk<=1048576):∃p:Zq,((p.bk<=2097152/\p.expr.bk<=12000)/\CP c p)/\Ev fun k=>Yp k c=some p/\Yt k c=some p:=by
 have e:=Zk.ZH c;have hz:=ZsR;have hz12:zEx.bk<=12000:=by omega
 have hzv:zV.bk<=0:=by rw [Za.ZH];exact Zyr 0
 cases hok:QQ c with
 | false=>
  refine ⟨Zq.mk 0 ⟨#[]⟩ zEx zV 0,⟨⟨by rw [Zq.ZH];show 0+(zEx.bk+(zV.bk+0))<=2097152;omega,hz12⟩,fun h=>absurd h (by rw [hok];simp)⟩,(Ev.ge 1048601).mono fun k hk=> ?_⟩;obtain ⟨h1,h2⟩:=Jb c hc (k:=k) (by omega);unfold Yp Yt;rw [h1,h2,hok];exact ⟨rfl,rfl⟩
 | true=>
  have hcode:=Zld hok
  have hval:Ev fun k=>YV k c=some true/\YX k c=some true:=(Ev.ge 1048601).mono fun k hk=>by
   have:=Jb c hc (k:=k) (by omega);rw [hok] at this;exact this
  rcases Zlc hok with hk| hk| hk| hk
  ·refine ⟨Zq.mk 1 ⟨#[]⟩ zEx zV 0,⟨⟨by rw [Zq.ZH];show 0+(zEx.bk+(zV.bk+0))<=2097152;omega,hz12⟩,fun _=>⟨by simp [hk],fun h=>absurd hk h⟩⟩,hval.mono fun k ⟨h1,h2⟩=> ?_⟩;unfold Yp Yt;rw [h1,h2,hk];exact ⟨rfl,rfl⟩
  ·obtain ⟨r,r1,r2,r3⟩:=ZpE c.code;refine ⟨if 0<=r.2 then Zq.mk 4 c.name zEx (Za.mk 6 8 0 ⟨#[]⟩ [] [] []) r.2 else Zq.mk 2 c.name r.1 zV 0,⟨⟨?_,by split;exact hz12;exact r1⟩,fun _=>⟨by split<;>simp [hk],fun _=>by split<;>rfl⟩⟩,(hval.and r3).mono fun k ⟨⟨h1,h2⟩,h3,h4⟩=> ?_⟩
   ·have:=Zr9 8
    split
    ·rw [Zq.ZH];show c.name.size+(zEx.bk+((Za.mk 6 8 0 ⟨#[]⟩ [] [] []).bk+0))<=2097152;omega
    ·rw [Zq.ZH];show c.name.size+(r.1.bk+(zV.bk+0))<=2097152;omega
   ·unfold Yp Yt;rw [h1,h2,hk,h3,h4];simp only [Zyl]
    by_cases h0:0<=r.2
    ·rw [if_pos h0,decide_eq_true h0];exact ⟨rfl,rfl⟩
    ·rw [if_neg h0,decide_eq_false h0];exact ⟨rfl,rfl⟩
  ·refine ⟨Zq.mk 3 c.name zEx (Za.mk 1 c.n 0 ⟨#[]⟩ [] [] []) 0,⟨⟨?_,hz12⟩,fun _=>⟨by simp [hk],fun _=>rfl⟩⟩,hval.mono fun k ⟨h1,h2⟩=> ?_⟩
   ·have:(Za.mk 1 c.n 0 (⟨#[]⟩:ByteArray) [] [] []).bk<=0:=by rw [Za.ZH];exact Zyr 0
    rw [Zq.ZH];show c.name.size+(zEx.bk+((Za.mk 1 c.n 0 ⟨#[]⟩ [] [] []).bk+0))<=2097152;omega
   ·unfold Yp Yt;rw [h1,h2,hk];exact ⟨rfl,rfl⟩
  ·obtain ⟨⟨v,b⟩,hd,he⟩:=Zse c.code hcode;cases b with
   | false=>
    obtain ⟨n,hn⟩:=Zm6 c.code hcode (v:=v) (he.mono fun k h=>h.2);refine ⟨Zq.mk 4 c.name zEx (Za.mk 6 8 0 ⟨#[]⟩ [] [] []) n,⟨⟨?_,hz12⟩,fun _=>⟨by simp [hk],fun _=>rfl⟩⟩,(hval.and (he.and hn)).mono fun k ⟨⟨h1,h2⟩,⟨h3,h4⟩,h5,h6⟩=> ?_⟩
    ·have:=Zr9 8;rw [Zq.ZH];show c.name.size+(zEx.bk+((Za.mk 6 8 0 ⟨#[]⟩ [] [] []).bk+0))<=2097152;omega
    ·unfold Yp Yt;rw [h1,h2,hk,h3,h4];simp only [Zyl];rw [h5,h6];exact ⟨rfl,rfl⟩
   | true=>
    obtain ⟨w,hw,hn⟩:=ZnO c.id v hd;refine ⟨Zq.mk 3 c.name zEx w 0,⟨⟨?_,hz12⟩,fun _=>⟨by simp [hk],fun _=>rfl⟩⟩,(hval.and (he.and hn)).mono fun k ⟨⟨h1,h2⟩,⟨h3,h4⟩,h5,h6⟩=> ?_⟩
    ·rw [Zq.ZH];show c.name.size+(zEx.bk+(w.bk+0))<=2097152;omega
    ·unfold Yp Yt;rw [h1,h2,hk,h3,h4];simp only [Zyl];rw [h5,h6];exact ⟨rfl,rfl⟩
theorem ZgM (nb:Zd) (hb:nb.bk<=1048576):∃ps:List Zq,(ps.length<=1048576/\(ps=[]/\Ziw nb=false\/Ziw nb=true/\∃f,ps=nb.cells.map f/\∀c∈nb.cells,CP c (f c)))/\(∀p∈ps,p.bk<=2097152/\p.expr.bk<=12000)/\Ev fun k=>Us k nb=some ps/\Vn k nb=some ps:=by
 have e:=Zd.ZH nb;have hl:=Yj (f:=Zk.bk) (xs:=nb.cells);haveI:Inhabited Zq:=⟨Zq.mk 0 ⟨#[]⟩ zEx zV 0⟩;obtain ⟨f,hf⟩:=V7 nb.cells (p:=fun c (p:Zq)=>((p.bk<=2097152/\p.expr.bk<=12000)/\CP c p)/\Ev fun k=>Yp k c=some p/\Yt k c=some p) fun c hc=>Zsl c (by have:=QA (f:=Zk.bk) hc;omega);have hall:=Ev.all nb.cells fun c hc=>(hf c hc).2;refine ⟨if Ziw nb=true then nb.cells.map f else [], ?_, ?_,(hall.and (Ev.ge 1048700)).mono fun k ⟨h1,hk⟩=> ?_⟩
 ·split
  ·rename_i hnb;exact ⟨by rw [List.length_map];omega,.inr ⟨hnb,f,rfl,fun c hc=>(hf c hc).1.2⟩⟩
  ·rename_i hnb;exact ⟨by simp,.inl ⟨rfl,by simpa using hnb⟩⟩
 ·split
  ·intro p hp;obtain ⟨c,hc,rfl⟩:=List.mem_map.1 hp;exact (hf c hc).1.1
  ·intro p hp;cases hp
 ·obtain ⟨v1,v2⟩:=ZdH nb hb (k:=k) (by omega);unfold Us Vn
  rw [v1,v2,ZfR 200 (by omega) nb.cells f (Yp k) (Qi k nb) (fun c hc=>(h1 c hc).1) (fun n out i=>by rw [Qi]) (by omega) (by omega),
   ZfR 200 (by omega) nb.cells f (Yt k) (Qo k nb) (fun c hc=>(h1 c hc).2) (fun n out i=>by rw [Qo]) (by omega) (by omega)]
  cases Ziw nb<;>exact ⟨rfl,rfl⟩
theorem Zfn (nb:Zd) (h:nb.bk<=1073741824):Uo nb=some nb/\YM nb=some nb:=by
 have e:=nb.ZH;have l:=Yj (f:=Zk.bk) (xs:=nb.cells);have:Uo nb=some nb:=by unfold Uo;rw [Wh (by simp;omega) (by omega)];rfl
 exact ⟨this,by rw [Zeg];exact this⟩
def Zfz (at_:Int) (n:Nat):Nat:=if at_<=0 then 0 else if (n:Int)<=at_ then n else at_.toNat
theorem ZgN (a:Int) (n:Nat):Zfz a n<=n:=by unfold Zfz;split<;>(try split)<;>omega
theorem Zsg (a:Int) (n:Nat):((ZcS a (n:Int)).bind fun x=>Vs 0 x)=some (Zfz a n:Int):=by
 unfold ZcS Vs Zfz
 by_cases h1:a<n
 ·by_cases h2:a<0
  ·simp [h1,h2,show a<=0 by omega]
  ·by_cases h3:a<=0
   ·simp [h1,h2,h3];omega
   ·simp [h1,h2,h3,show ¬(n:Int)<=a by omega];omega
 ·by_cases h3:a<=0
  ·simp [h1,h3];omega
  ·simp [h1,h3,show (n:Int)<=a by omega];omega
theorem Zsh (a:Int) (n:Nat):(if (if (n:Int)<a then (n:Int) else a)>0 then (if (n:Int)<a then (n:Int) else a) else 0)=(Zfz a n:Int):=by
 unfold Zfz
 by_cases h1:(n:Int)<a
 ·by_cases h2:(n:Int)>0
  ·simp [h1,h2,show ¬a<=0 by omega,show (n:Int)<=a by omega];intro h;omega
  ·simp [h1,h2,show ¬a<=0 by omega,show (n:Int)<=a by omega];omega
 ·by_cases h2:a>0
  ·by_cases h3:(n:Int)<=a
   ·simp [h1,h2,show ¬a<=0 by omega,h3];omega
   ·simp [h1,h2,show ¬a<=0 by omega,h3];omega
  ·simp [h1,h2,show a<=0 by omega]
def Znu (xs:List Zk) (at_:Int) (c:Zk):List Zk:=xs.take (Zfz at_ xs.length)++[c]++xs.drop (Zfz at_ xs.length)
def Zeo (xs:List Zk) (j:Nat):List Zk:=xs.take j++xs.drop (j+1)
theorem ZfO {α:Type} (xs:List α) (n:Nat) (h:n<=xs.length):Zb8 xs 0 (n:Int)=some (xs.take n):=by
 unfold Zb8;rw [if_pos ⟨by omega,by omega,by omega⟩];simp
theorem ZfP {α:Type} (xs:List α) (n:Nat) (h:n<=xs.length):Zb8 xs (n:Int) (xs.length:Int)=some (xs.drop n):=by
 unfold Zb8;rw [if_pos ⟨by omega,by omega,by omega⟩];simp
theorem Zte (xs:List Zk) (a:Int) (c:Zk) (hl:xs.length<=1048576):Zce xs a c=some (Znu xs a c):=by
 have hc:=ZgN a xs.length;have h1:=Zsg a xs.length;unfold Zce;rw [show ∀f:Int->Option (List Zk),((ZcS a (xs.length:Int)).bind fun x1=>(Vs 0 x1).bind f)=(((ZcS a (xs.length:Int)).bind fun x1=>Vs 0 x1).bind f) from fun f=>by rw [Option.bind_assoc]];rw [h1,Zyl,ZfO xs _ hc,Zyl,Wh (by simp;omega) (by omega),Zyl,Wh (by simp;omega) (by omega),Zyl,ZfP xs _ hc,Zyl,Wh (by simp;omega) (by omega)]
 rfl
theorem ZtH (xs:List Zk) (a:Int) (c:Zk) (hl:xs.length<=1048576):UZ xs a c=some (Znu xs a c):=by
 have hc:=ZgN a xs.length;unfold UZ;rw [Zsh a xs.length,ZfO xs _ hc,Zyl,Wh (by simp;omega) (by omega),Zyl,Wh (by simp;omega) (by omega),Zyl,ZfP xs _ hc,Zyl,Wh (by simp;omega) (by omega)]
 rfl
theorem Zqr (xs:List Zk) (j:Nat) (hj:j<xs.length) (hl:xs.length<=1048576):KD xs (j:Int)=some (Zeo xs j):=by
 unfold KD;rw [wS j (by omega),ZfO xs j (by omega),Zyl,Wh (by simp;omega) (by omega),Zyl,ZfP xs (j+1) (by omega),Zyl,Wh (by simp;omega) (by omega)]
 rfl
theorem ZqH (xs:List Zk) (j:Nat) (hj:j<xs.length) (hl:xs.length<=1048576):KN xs (j:Int)=some (Zeo xs j):=by
 unfold KN;rw [wS j (by omega),ZfO xs j (by omega),Zyl,Wh (by simp;omega) (by omega),Zyl,ZfP xs (j+1) (by omega),Zyl,Wh (by simp;omega) (by omega)]
 rfl
theorem Zgt {s:ByteArray} (h:WH s=true):s.size<=8:=by
 unfold WH at h;simp only [Zyq,decide_eq_true_eq] at h;omega
theorem ZfA {c:Zk} (h:QQ c=true):c.bk<=128:=by
 have hp:c.code.size<=120:=by
  unfold QQ ZcV at h;simp only [Zyq,decide_eq_true_eq] at h;omega
 have hn:c.name.size<=8:=by
  unfold QQ at h;simp only [Zyq] at h;have h2:=h.2
  split at h2
  ·simp only [Zyq,decide_eq_true_eq] at h2;rw [h2.1];decide
  ·split at h2
   ·simp only [Zyq] at h2;exact Zgt h2.1
   ·split at h2
    ·simp only [Zyq] at h2;exact Zgt h2.1
    ·cases h2
 rw [Zk.ZH];omega
theorem ZhS {α:Type} {t:Nat->α->Bool}:∀{xs:List α} {i:Nat},anyI t i xs=false->∀x∈xs,∃j,t j x=false
 | [],_,_,x,hx=>by simp at hx
 | y::ys,i,h,x,hx=>by
  simp only [anyI,Bool.or_eq_false_iff] at h;rcases List.mem_cons.1 hx with rfl| hx
  ·exact ⟨i,h.1⟩
  ·exact ZhS h.2 x hx
theorem ZeI {nb:Zd} (h:Ziw nb=true):nb.cells.length<=8/\∀c∈nb.cells,QQ c=true:=by
 unfold Ziw at h;simp only [Zyq,Bool.not_eq_true',decide_eq_true_eq] at h;refine ⟨by omega,fun c hc=> ?_⟩;obtain ⟨j,hj⟩:=ZhS h.1 c hc;unfold ZaJ at hj;simp only [Bool.or_eq_false_iff,Bool.not_eq_false'] at hj;exact hj.1
theorem Zjv {α:Type} (f:α->Nat) (B:Nat):∀(xs:List α),(∀x∈xs,f x<=B)->Qx f xs<=xs.length*B
 | [],_=>by simp [Qx]
 | x::xs,h=>by
  have h1:=Zjv f B xs fun y hy=>h y (List.mem_cons_of_mem _ hy);have h2:=h x (by simp);simp only [Qx,List.map_cons,List.sum_cons,List.length_cons] at h1 ⊢;rw [Nat.add_mul];omega
theorem ZpI (xs:List Zk) (hl:xs.length<=9) (h:∀c∈xs,QQ c=true):(Zd.mk xs).bk<=4096:=by
 have h1:=Zjv Zk.bk 128 xs fun c hc=>ZfA (h c hc);rw [Zd.ZH];unfold bkS;simp only;omega
theorem ZlX {xs:List Zk} {a:Int} {c x:Zk} (h:x∈Znu xs a c):x∈xs\/x=c:=by
 unfold Znu at h;simp only [List.mem_append,List.mem_singleton] at h;rcases h with (h| h)| h
 ·exact .inl (List.mem_of_mem_take h)
 ·exact .inr h
 ·exact .inl (List.mem_of_mem_drop h)
theorem Zl1 (xs:List Zk) (a:Int) (c:Zk):(Znu xs a c).length=xs.length+1:=by
 have:=ZgN a xs.length;unfold Znu;simp;omega
theorem ZjP {xs:List Zk} {j:Nat} {x:Zk} (h:x∈Zeo xs j):x∈xs:=by
 unfold Zeo at h;rcases List.mem_append.1 h with h| h
 ·exact List.mem_of_mem_take h
 ·exact List.mem_of_mem_drop h
theorem ZjT (xs:List Zk) (j:Nat):(Zeo xs j).length<=xs.length:=by
 unfold Zeo;simp;omega
def ZeR (c:Zk) (e:YA):Zk:= if e.kind=4 then ⟨c.id,c.version+1,c.kind,e.cell.name,e.cell.code,c.n⟩ else if e.kind=5 then ⟨c.id,c.version,c.kind,c.name,c.code,e.cell.n⟩ else ⟨c.id,c.version+1,c.kind,c.name,c.code,c.n⟩
def Qu (nb:Zd) (e:YA):Zd×Int:=
 if Ziw nb=false then (nb,1) else if (decide (1<=e.kind)&&decide (e.kind<=6))=false then (nb,1)
 else if e.kind=1 then
  if QQ e.cell=false then (nb,1) else if 0<=cix nb e.cell.id then (nb,3) else if nb.cells.length=8 then (nb,4) else (⟨Znu nb.cells e.at_ e.cell⟩,0)
 else if cix nb e.cell.id<0 then (nb,2)
 else match nb.cells[(cix nb e.cell.id).toNat]? with
  | none=>(nb,0)
  | some c=>if e.kind=2 then (⟨Zeo nb.cells (cix nb e.cell.id).toNat⟩,0) else if e.kind=3 then (⟨Znu (Zeo nb.cells (cix nb e.cell.id).toNat) e.at_ c⟩,0)
   else if (e.kind=4/\c.kind=3)\/(e.kind=5/\¬c.kind=3)\/(e.kind=6/\¬c.kind=2) then (nb,5)
   else if ¬e.kind=5/\c.version=999 then (nb,6)
   else if QQ (ZeR c e)=false then (nb,1) else (⟨nb.cells.set (cix nb e.cell.id).toNat (ZeR c e)⟩,0)
theorem ZcN (nb:Zd) (b:nb.bk<=1048576) (e:YA) (be:e.bk<=1048576) {k:Nat} (hk:1048600<k):∃v:Zd×Int,v=Qu nb e/\(v.1=nb\/v.1.bk<=4096)/\VY k nb e=some v/\V6 k nb e=some v:=by
 have hl:=ZlU nb;have hec:e.cell.bk<=1048576:=by rw [YA.ZH] at be;omega
 obtain ⟨v1,v2⟩:=ZdH nb b hk;obtain ⟨c1,c2⟩:=Zfn nb (by omega);obtain ⟨ec1,ec2⟩:=Jb e.cell hec hk;have ix1:=Ue nb e.cell.id (by omega) (show nb.cells.length<k by omega);have ix2:=W7 nb e.cell.id (by omega) (show nb.cells.length<k by omega);unfold VY V6;rw [c1,c2,v1,v2];simp only [Zyl,Km,U2];cases hv:Ziw nb with
 | false=>exact ⟨(nb,1),by simp [Qu,hv],.inl rfl,by simp,by simp⟩
 | true=>
 obtain ⟨n8,hcs⟩:=ZeI hv;simp only [Bool.not_true,Zys,if_false,Zyl];cases hkd:decide (1<=e.kind)&&decide (e.kind<=6) with
 | false=>exact ⟨(nb,1),by simp [Qu,hv,hkd],.inl rfl,by simp,by simp⟩
 | true=>
 simp only [Bool.not_true,Zys,if_false];unfold ZfV;rw [ix1,ix2];simp only [Zyl]
 have small:∀xs:List Zk,xs.length<=9->(∀c∈xs,QQ c=true)->YM ⟨xs⟩=some ⟨xs⟩/\(Zd.mk xs).bk<=4096:=fun xs h1 h2=>by
  have h3:=ZpI xs h1 h2;exact ⟨(Zfn _ (by omega)).2,h3⟩
 by_cases k1:e.kind=1
 ·simp only [k1,decide_true,if_true,ec1,ec2,Zyl];cases hc:QQ e.cell with
  | false=>exact ⟨(nb,1),by simp [Qu,hv,hkd,k1,hc],.inl rfl,by simp,by simp [c2]⟩
  | true=>
  simp only [Bool.not_true,Zys,if_false]
  by_cases k2:0<=cix nb e.cell.id
  ·exact ⟨(nb,3),by simp [Qu,hv,hkd,k1,hc,k2],.inl rfl,by simp [k2],by simp [k2,c2]⟩
  ·by_cases k3:nb.cells.length=8
   ·exact ⟨(nb,4),by simp [Qu,hv,hkd,k1,hc,k2,k3],.inl rfl,by simp [k2,k3],by simp [k2,k3,c2]⟩
   ·obtain ⟨q1,q2⟩:=small (Znu nb.cells e.at_ e.cell) (by rw [Zl1];omega) fun c hc'=>by rcases ZlX hc' with h| rfl;exact hcs c h;exact hc
    refine ⟨(⟨Znu nb.cells e.at_ e.cell⟩,0),by simp [Qu,hv,hkd,k1,hc,k2,k3],.inr q2, ?_, ?_⟩
    ·have:¬(nb.cells.length:Int)=8:=by omega
     simp [k2,this,Zte nb.cells e.at_ e.cell (by omega)]
    ·have:¬(8<=(nb.cells.length:Int)):=by omega
     simp [k2,this,ZtH nb.cells e.at_ e.cell (by omega),q1]
 ·simp only [k1,decide_false,Zys,if_false];have hb:=Zl9 (fun x:Zk=>decide (x.id=e.cell.id)) nb.cells
  by_cases k2:cix nb e.cell.id<0
  ·exact ⟨(nb,2),by simp [Qu,hv,hkd,k1,k2],.inl rfl,by simp [k2],by simp [k2,c2]⟩
  ·obtain ⟨j,hj⟩:∃j:Nat,cix nb e.cell.id=(j:Int):=⟨(cix nb e.cell.id).toNat,by omega⟩;have hjl:j<nb.cells.length:=by unfold cix at hj;omega
   rw [hj];have hat:=YF hjl;have hx9:nb.cells[j]? =some nb.cells[j]:=Zyt hjl;have hcj:QQ nb.cells[j]=true:=hcs _ (List.getElem_mem hjl);have k2':¬((j:Int)<0):=by omega
   simp only [k2',decide_false,Zys,if_false,hat,Zyl]
   by_cases k3:e.kind=2
   ·obtain ⟨q1,q2⟩:=small (Zeo nb.cells j) (by have:=ZjT nb.cells j;omega) fun c hc=>hcs c (ZjP hc);refine ⟨(⟨Zeo nb.cells j⟩,0),by simp [Qu,hv,hkd,k1,hj,hx9,k3],.inr q2, ?_, ?_⟩
    ·simp [k3,Zqr nb.cells j hjl (by omega)]
    ·simp [k3,ZqH nb.cells j hjl (by omega),q1]
   ·simp only [k3,decide_false,Zys,if_false]
    by_cases k4:e.kind=3
    ·have hd:=ZjT nb.cells j;obtain ⟨q1,q2⟩:=small (Znu (Zeo nb.cells j) e.at_ nb.cells[j]) (by rw [Zl1];omega) fun c hc=>by rcases ZlX hc with h| rfl;exact hcs c (ZjP h);exact hcj
     refine ⟨(⟨Znu (Zeo nb.cells j) e.at_ nb.cells[j]⟩,0),by simp [Qu,hv,hkd,k1,hj,hx9,k3,k4],.inr q2, ?_, ?_⟩
     ·simp [k4,Zqr nb.cells j hjl (by omega),Zte (Zeo nb.cells j) e.at_ nb.cells[j] (by omega)]
     ·simp [k4,ZqH nb.cells j hjl (by omega),ZtH (Zeo nb.cells j) e.at_ nb.cells[j] (by omega),q1]
    ·simp only [k4,decide_false,Zys,if_false];generalize hx:nb.cells[j]=c at *;have hcb:c.bk<=1048576:=by have:=ZfA hcj;omega
     have ver:c.version<=999:=by unfold QQ at hcj;simp only [Zyq,decide_eq_true_eq] at hcj;omega
     have fin:∀d:Zk,QQ d=true->(Zd.mk (nb.cells.set j d)).bk<=4096/\YM ⟨nb.cells.set j d⟩=some ⟨nb.cells.set j d⟩:=fun d hd=>by
      obtain ⟨q1,q2⟩:=small (nb.cells.set j d) (by simp;omega) fun x hx=>by
       rcases List.mem_or_eq_of_mem_set hx with h| rfl
       ·exact hcs x h
       ·exact hd
      exact ⟨q2,q1⟩
     have leaf:∀d:Zk,d.bk<=1048576->(QQ d=false->∃v:Zd×Int,v=(nb,1)/\(v.1=nb\/v.1.bk<=4096))/\(QQ d=true->(Zd.mk (nb.cells.set j d)).bk<=4096):=fun d hd=>⟨fun _=>⟨_,rfl,.inl rfl⟩,fun h=>(fin d h).1⟩;have hcn:=Zk.ZH c;have hen:=Zk.ZH e.cell;have wv:¬c.version=999->IntKind.i64.wrap (c.version+1)=c.version+1:=fun _=>w64 (by unfold QQ at hcj;simp only [Zyq,decide_eq_true_eq] at hcj;omega) (by omega);have v999:decide (999<=c.version)=decide (c.version=999):=by rw [decide_eq_decide];omega
     have k456:e.kind=4\/e.kind=5\/e.kind=6:=by
      simp only [Zyq,decide_eq_true_eq] at hkd;omega
     rcases k456 with k5| k5| k5
     ·by_cases c3:c.kind=3
      ·exact ⟨(nb,5),by simp [Qu,hv,hkd,k1,hj,hx9,ZeR,k5,c3],.inl rfl,by simp [Xd,k5,c3],by simp [k5,c3,c2]⟩
      ·by_cases cv:c.version=999
       ·exact ⟨(nb,6),by simp [Qu,hv,hkd,k1,hj,hx9,ZeR,k5,c3,cv],.inl rfl,by simp [Xd,k5,c3,cv],by simp [k5,c3,cv,c2]⟩
       ·have hd:(Zk.mk c.id (c.version+1) c.kind e.cell.name e.cell.code c.n).bk<=1048576:=by rw [Zk.ZH];simp only;omega
        obtain ⟨w1,w2⟩:=Jb _ hd hk;cases hdk:QQ (Zk.mk c.id (c.version+1) c.kind e.cell.name e.cell.code c.n) with
        | false=>exact ⟨(nb,1),by simp [Qu,hv,hkd,k1,hj,hx9,ZeR,k5,c3,cv,hdk],.inl rfl,by simp [Xd,k5,c3,cv,wv cv,w1,hdk],by simp [k5,c3,v999,cv,wv cv,w2,hdk,c2]⟩
        | true=>
         obtain ⟨f1,f2⟩:=fin _ hdk;exact ⟨(⟨nb.cells.set j (Zk.mk c.id (c.version+1) c.kind e.cell.name e.cell.code c.n)⟩,0),by simp [Qu,hv,hkd,k1,hj,hx9,ZeR,k5,c3,cv,hdk],.inr f1,by simp [Xd,k5,c3,cv,wv cv,w1,hdk,hat],by simp [k5,c3,v999,cv,wv cv,w2,hdk,c2,f2,hat]⟩
     ·by_cases c3:c.kind=3
      ·have hd:(Zk.mk c.id c.version c.kind c.name c.code e.cell.n).bk<=1048576:=by rw [Zk.ZH];simp only;omega
       obtain ⟨w1,w2⟩:=Jb _ hd hk;cases hdk:QQ (Zk.mk c.id c.version c.kind c.name c.code e.cell.n) with
       | false=>exact ⟨(nb,1),by rw [c3] at hdk;simp [Qu,hv,hkd,k1,hj,hx9,ZeR,k5,c3,hdk],.inl rfl,by rw [c3] at w1 hdk;simp [Xd,k5,c3,w1,hdk],by rw [c3] at w2 hdk;simp [k5,c3,w2,hdk,c2]⟩
       | true=>
        obtain ⟨f1,f2⟩:=fin _ hdk;exact ⟨(⟨nb.cells.set j (Zk.mk c.id c.version c.kind c.name c.code e.cell.n)⟩,0),by rw [c3] at hdk;simp [Qu,hv,hkd,k1,hj,hx9,ZeR,k5,c3,hdk],.inr f1,by rw [c3] at w1 hdk;simp [Xd,k5,c3,w1,hdk,hat],by rw [c3] at w2 hdk f2;simp [k5,c3,w2,hdk,c2,f2,hat]⟩
      ·exact ⟨(nb,5),by simp [Qu,hv,hkd,k1,hj,hx9,ZeR,k5,c3],.inl rfl,by simp [Xd,k5,c3],by simp [k5,c3,c2]⟩
     ·by_cases c3:c.kind=2
      ·by_cases cv:c.version=999
       ·exact ⟨(nb,6),by simp [Qu,hv,hkd,k1,hj,hx9,ZeR,k5,c3,cv],.inl rfl,by simp [Xd,k5,c3,cv],by simp [k5,c3,cv,c2]⟩
       ·have hd:(Zk.mk c.id (c.version+1) c.kind c.name c.code c.n).bk<=1048576:=by rw [Zk.ZH];simp only;omega
        obtain ⟨w1,w2⟩:=Jb _ hd hk;cases hdk:QQ (Zk.mk c.id (c.version+1) c.kind c.name c.code c.n) with
        | false=>exact ⟨(nb,1),by rw [c3] at hdk;simp [Qu,hv,hkd,k1,hj,hx9,ZeR,k5,c3,cv,hdk],.inl rfl,by rw [c3] at w1 hdk;simp [Xd,k5,c3,cv,wv cv,w1,hdk],by rw [c3] at w2 hdk;simp [k5,c3,v999,cv,wv cv,w2,hdk,c2]⟩
        | true=>
         obtain ⟨f1,f2⟩:=fin _ hdk;exact ⟨(⟨nb.cells.set j (Zk.mk c.id (c.version+1) c.kind c.name c.code c.n)⟩,0),by rw [c3] at hdk;simp [Qu,hv,hkd,k1,hj,hx9,ZeR,k5,c3,cv,hdk],.inr f1,by rw [c3] at w1 hdk;simp [Xd,k5,c3,cv,wv cv,w1,hdk,hat],by rw [c3] at w2 hdk f2;simp [k5,c3,v999,cv,wv cv,w2,hdk,c2,f2,hat]⟩
      ·exact ⟨(nb,5),by simp [Qu,hv,hkd,k1,hj,hx9,ZeR,k5,c3],.inl rfl,by simp [Xd,k5,c3],by simp [k5,c3,c2]⟩
theorem Zkq (nb:Zd) (b:nb.bk<=1048576) (e:YA) (be:e.bk<=1048576) {k:Nat} (hk:1048600<k):VY k nb e=some (Qu nb e)/\V6 k nb e=some (Qu nb e):=by
 obtain ⟨v,rfl,_,h⟩:=ZcN nb b e be hk;exact h
theorem ZoZ (nb:Zd) (b:nb.bk<=1048576) (e:YA) (be:e.bk<=1048576):(Qu nb e).1.bk<=1048576:=by
 obtain ⟨v,rfl,h,_⟩:=ZcN nb b e be (show 1048600<1048601 by omega);rcases h with h| h
 ·rw [h];exact b
 ·omega
theorem Zo2 {α:Type} {t:Nat->α->Bool}:∀{xs:List α} {i:Nat},anyI t i xs=false->∀j (h:j<xs.length),t (i+j) xs[j]=false
 | x::xs,i,h,j,hj=>by
  have h:(t i x||anyI t (i+1) xs)=false:=h;rw [Bool.or_eq_false_iff] at h;cases j with
  | zero=>exact h.1
  | succ j=>have:=Zo2 h.2 j (by simpa using hj);rw [show i+(j+1)=i+1+j by omega];exact this
theorem ZdF {nb:Zd} (h:Ziw nb=true) (j:Nat) (hj:j<nb.cells.length):cix nb nb.cells[j].id=(j:Int):=by
 unfold Ziw at h;simp only [Zyq,Bool.not_eq_true',decide_eq_true_eq] at h;have:=Zo2 h.1 j hj;rw [Nat.zero_add] at this;unfold ZaJ at this;simp only [Bool.or_eq_false_iff,Bool.not_eq_false',decide_eq_true_eq] at this;exact this.2
theorem Zki {nb:Zd} {e:YA} (h:Ziw (Qu nb e).1=true):Ziw nb=true:=by
 cases hv:Ziw nb with
 | true=>rfl
 | false=>
  have:Qu nb e=(nb,1):=by unfold Qu;rw [if_pos hv]
  rw [this,hv] at h;exact h
def eqC (d c:Zk):Bool:=decide (d.id=c.id)&&(decide (d.version=c.version)&&(decide (d.kind=c.kind)&&(decide (d.name=c.name)&&(decide (d.code=c.code)&&decide (d.n=c.n)))))
theorem Zp4 (d c:Zk):eqC d c=eqC c d:=by unfold eqC;simp only [eq_comm]
def chB (a:Zd) (c:Zk):Bool:=if cix a c.id<0 then true else match a.cells[(cix a c.id).toNat]? with | some d=>!eqC d c| none=>true
def chL (a b:Zd):List Int:=(b.cells.filter (chB a)).map (·.id)
theorem ZgO (a b:Zd):(chL a b).length<=b.cells.length:=by unfold chL;rw [List.length_map];exact List.length_filter_le _ _
theorem ZhM (a b:Zd) (ha:a.cells.length<=1048576) (hb:b.cells.length<=1048576) {k:Nat} (hk:1048577<k):Qb k a b=some (chL a b)/\QO k a b=some (chL a b):=by
 have:Qb k a b=some (chL a b):=by
  unfold Qb
  rw [show ZO k a b k [] 0=some (chL a b) from by
   have:=ZfI (fun m (s:List Int) i=>ZO k a b m s i) (fun i=>((b.cells.take i).filter (chB a)).map (·.id)) (some (chL a b)) b.cells.length
    (fun m i hi=>by
     have hfl:(((b.cells.take i).filter (chB a)).map (·.id)).length<=i:=by
      rw [List.length_map];have:=List.length_filter_le (chB a) (b.cells.take i);rw [List.length_take] at this;omega
     have hbd:=Zl9 (fun x:Zk=>decide (x.id=b.cells[i].id)) a.cells
     have hbody:(if decide (cix a b.cells[i].id<0)=true then some true else (at? a.cells (cix a b.cells[i].id)).bind fun x8=>some (!(decide (x8.id=b.cells[i].id)&&(decide (x8.version=b.cells[i].version)&&(decide (x8.kind=b.cells[i].kind)&&(decide (x8.name=b.cells[i].name)&&(decide (x8.code=b.cells[i].code)&&decide (x8.n=b.cells[i].n))))))))=some (chB a b.cells[i]):=by
      unfold chB
      by_cases h0:cix a b.cells[i].id<0
      ·rw [if_pos (by simpa using h0),if_pos h0]
      ·have hlt:(cix a b.cells[i].id).toNat<a.cells.length:=by unfold cix at h0 ⊢;omega
       rw [if_neg (by simpa using h0),if_neg h0,Zyt hlt];have hat:at? a.cells (cix a b.cells[i].id)=some a.cells[(cix a b.cells[i].id).toNat]:=by unfold at?;rw [if_pos (by omega),Zyt hlt]
       rw [hat];rfl
     try simp only
     rw [ZO,if_pos (Z3 hi),YF hi,Zyl,Ue a _ (by omega) (by omega),Zyl,hbody,Zyl,WS (by simp only [List.length_singleton];omega) (by omega),wS i (by omega),List.take_succ_eq_append_getElem hi,List.filter_append,List.map_append];cases h:chB a b.cells[i]<;>simp [h])
    (fun m=>by
     try simp only
     rw [ZO,if_neg (X6 (Zyr _)),List.take_length];rfl) (k:=k) (by omega)
   simpa using this]
  rfl
 exact ⟨this,by rw [Zel];exact this⟩
def nmS (nb:Zd) (ids:List Int):List ByteArray:=(nb.cells.filter fun c=>decide (c.id∈ids)&&!decide (c.kind=1)).map (·.name)
theorem Zog (nb:Zd) (ids:List Int) (hn:nb.cells.length<=1048576) (hl:ids.length<=4194304) {k:Nat} (hk:4194305<k):UX k nb ids=some (nmS nb ids):=by
 unfold UX
 rw [show Y7 k nb ids k [] 0=some (nmS nb ids) from by
  have:=ZfI (fun m (s:List ByteArray) i=>Y7 k nb ids m s i) (fun i=>((nb.cells.take i).filter fun c=>decide (c.id∈ids)&&!decide (c.kind=1)).map (·.name)) (some (nmS nb ids)) nb.cells.length
   (fun m i hi=>by
    have hfl:(((nb.cells.take i).filter fun c=>decide (c.id∈ids)&&!decide (c.kind=1)).map (·.name)).length<=i:=by
     rw [List.length_map];have:=List.length_filter_le (fun c:Zk=>decide (c.id∈ids)&&!decide (c.kind=1)) (nb.cells.take i);rw [List.length_take] at this;omega
    try simp only
    rw [Y7,if_pos (Z3 hi),YF hi,Zyl,ZdU ids _ (by omega) (by omega),Zyl,Zyl,WS (by simp only [List.length_singleton];omega) (by omega),wS i (by omega),List.take_succ_eq_append_getElem hi,List.filter_append,List.map_append];cases h1:decide (nb.cells[i].id∈ids)<;>cases h2:decide (nb.cells[i].kind=1)<;>simp [h1,h2])
   (fun m=>by
    try simp only
    rw [Y7,if_neg (X6 (Zyr _)),List.take_length];rfl) (k:=k) (by omega)
  simpa using this]
 rfl
def nmA (ps:List Zq) (j:Int):List ByteArray:=if 0<=j then (match ps[j.toNat]? with | some p=>if p.kind=1 then [] else [p.name]| none=>[]) else []
theorem ZkT (ps:List Zq) (j:Int):(nmA ps j).length<=1:=by
 unfold nmA
 split
 ·split
  ·split<;>simp
  ·simp
 ·simp
theorem Zoe (ps:List Zq) (j:Int) (out:List ByteArray) (h:out.length<=1073741824):((if decide (0<=j)=true then if decide (j<(ps.length:Int))=true then (at? ps j).bind fun x15=>some (!decide (x15.kind=1)) else some false else some false).bind fun x14=>if x14=true then (at? ps j).bind fun x16=>(Yv 16 out [x16.name]).bind fun x17=>some x17 else some out)=some (out++nmA ps j):=by
 unfold nmA
 by_cases h0:0<=j
 ·by_cases h1:j<ps.length
  ·have hlt:j.toNat<ps.length:=by omega
   have hat:at? ps j=some ps[j.toNat]:=by unfold at?;rw [if_pos h0,Zyt hlt]
   have ha:=WS (b:=16) (xs:=out) (ys:=[ps[j.toNat].name]) (by simp only [List.length_singleton];omega) (by omega);rw [if_pos (by simpa using h0),if_pos (by simpa using h1),hat,if_pos h0,Zyt hlt]
   by_cases h2:ps[j.toNat].kind=1<;>simp [h2,ha]
  ·rw [if_pos (by simpa using h0),if_neg (by simpa using h1),if_pos h0,List.getElem?_eq_none (by omega)];simp
 ·rw [if_neg (by simpa using h0),if_neg h0];simp
def inN (N:List ByteArray) (s:ByteArray):Bool:=N.any fun y=>decide (y=s)
theorem ZoA {N:List ByteArray} {s:ByteArray}:inN N s=true↔s∈N:=by
 unfold inN;rw [List.any_eq_true]
 exact ⟨fun ⟨y,h1,h2⟩=>by have h2:y=s:=by simpa using h2
                          exact h2▸h1,fun h=>⟨s,h,by simp⟩⟩
theorem Zj2 (N:List ByteArray) (s:ByteArray):decide (0<=KY (fun y=>decide (y=s)) N)=inN N s:=by
 rw [Bool.eq_iff_iff,decide_eq_true_eq];unfold KY inN;rw [List.any_eq_true];constructor
 ·intro h
  split at h
  ·rename_i g;exact ⟨_,List.getElem_mem g,List.findIdx_getElem (p:=fun y=>decide (y=s)) (w:=g)⟩
  ·omega
 ·rintro ⟨y,h1,h2⟩;rw [if_pos (List.findIdx_lt_length_of_exists ⟨y,h1,h2⟩)];omega
theorem ZoB {N M:List ByteArray} (h:∀s,s∈N↔s∈M) (s:ByteArray):inN N s=inN M s:=by rw [Bool.eq_iff_iff,ZoA,ZoA,h]
theorem ZfQ {nb:Zd} (hv:Ziw nb=true) {f:Zk->Zq} (hf:∀c∈nb.cells,CP c (f c)) (z:Int) (s:ByteArray):s∈nmA (nb.cells.map f) (cix nb z)↔∃c∈nb.cells,c.id=z/\¬c.kind=1/\c.name=s:=by
 have hcs:=(ZeI hv).2;unfold nmA;constructor
 ·intro h
  split at h
  ·rename_i h0;obtain ⟨j,hj⟩:=Int.eq_ofNat_of_zero_le h0;obtain ⟨hlt,hid⟩:=Zp1 hj;have hid:nb.cells[j].id=z:=by simpa using hid
   rw [hj,Int.toNat_natCast,List.getElem?_map,Zyt hlt,Option.map_some] at h;obtain ⟨c1,c2⟩:=hf _ (List.getElem_mem hlt) (hcs _ (List.getElem_mem hlt));simp only at h
   split at h
   ·cases h
   ·rename_i hk;have hk':¬nb.cells[j].kind=1:=fun e=>hk (c1.2 e);rw [List.mem_singleton,c2 hk'] at h;exact ⟨_,List.getElem_mem hlt,hid,hk',h.symm⟩
  ·cases h
 ·rintro ⟨c,hc,h1,h2,h3⟩;obtain ⟨j,hj,rfl⟩:=List.mem_iff_getElem.1 hc;obtain ⟨c1,c2⟩:=hf _ hc (hcs _ hc);rw [<-h1,ZdF hv j hj,if_pos (by omega),Int.toNat_natCast,List.getElem?_map,Zyt hj,Option.map_some];simp only;rw [if_neg (fun e=>h2 (c1.1 e)),c2 h2,h3];simp
theorem Zg2 (e:Zz) (_h:Zcr e.c) (be:e.bk<=1048576) (x:YA) (_hx:Zcr x.c) (bx:x.bk<=1048576):∃v:Int,Ev fun k=>Jj k e x=some v/\JB k e x=some v:=by
 have ba:e.notebook.bk<=1048576:=by rw [Zz.ZH] at be;omega
 obtain ⟨a,ha⟩:∃a,a=e.notebook:=⟨_,rfl⟩;rw [<-ha] at ba;obtain ⟨b,hb⟩:∃b,b=(Qu a x).1:=⟨_,rfl⟩;have bb:b.bk<=1048576:=by rw [hb];exact ZoZ a ba x bx
 have la:a.cells.length<=1048576:=Nat.le_trans (ZlU a) ba;have lb:b.cells.length<=1048576:=Nat.le_trans (ZlU b) bb;obtain ⟨pa,⟨hla,hpa⟩,_,ca⟩:=ZgM a ba;obtain ⟨pb,⟨hlb,hpb⟩,hpb2,cb⟩:=ZgM b bb;have hpbk:=fun p h=>(hpb2 p h).1;obtain ⟨U,hU⟩:=ZpZ pb hlb hpbk
 have h8:pb.length<=8/\pb.length<=b.cells.length:=by
  rcases hpb with ⟨h,_⟩| ⟨h,f,hf,_⟩
  ·rw [h];simp
  ·rw [hf,List.length_map];exact ⟨(ZeI h).1,Zyr _⟩
 obtain ⟨uf,huf⟩:=V7 (p:=fun (p:Zq) (u:List ByteArray)=>u.length<=2097153/\Ev fun k=>JX k p=some u/\J3 k p=some u) pb fun p h=>ZnD p (hpbk p h);have hallU:=Ev.all pb fun p h=>(huf p h).2;obtain ⟨ids,hids⟩:∃ids,ids=chL a b++chL b a:=⟨_,rfl⟩;have hidl:ids.length<=2097152:=by have:=ZgO a b;have:=ZgO b a;rw [hids,List.length_append];omega
 let g:Int->List ByteArray:=fun z=>nmA pa (cix a z)++nmA pb (cix b z)
 have hgl:∀i,(((ids.take i).map g).flatten).length<=2*i:=fun i=>by
  induction i with
  | zero=>simp
  | succ i ih=>
   by_cases hi:i<ids.length
   ·rw [List.take_succ_eq_append_getElem hi,List.map_append,List.flatten_append,List.length_append];have h1:=ZkT pa (cix a ids[i]);have h2:=ZkT pb (cix b ids[i]);simp only [List.map_cons,List.map_nil,List.flatten_cons,List.flatten_nil,List.append_nil,g,List.length_append];simp only [g] at ih;omega
   ·rw [List.take_of_length_le (by omega)] at ih ⊢;omega
 obtain ⟨NI,hNI⟩:∃NI,NI=(ids.map g).flatten:=⟨_,rfl⟩;have hNIl:NI.length<=4194304:=by have:=hgl ids.length;rw [List.take_length] at this;rw [hNI];omega
 obtain ⟨N,hN⟩:∃N,N=nmS a ids++nmS b ids:=⟨_,rfl⟩;have nl:∀nb:Zd,(nmS nb ids).length<=nb.cells.length:=fun nb=>by unfold nmS;rw [List.length_map];exact List.length_filter_le _ _
 have hNl:N.length<=2097152:=by have:=nl a;have:=nl b;rw [hN,List.length_append];omega
 let mk:List ByteArray->Nat->Bool:=fun N i=>match pb[i]? with | some p=>(!decide (p.kind=1)&&inN N p.name)||(uf p).any (inN N)| none=>false
 let idm:Nat->Bool:=fun i=>match b.cells[i]? with | some c=>decide (c.id∈ids)| none=>false
 obtain ⟨xs,hxs⟩:∃xs,xs=ZaX (fun i=>idm i||mk N i) pb.length:=⟨_,rfl⟩;obtain ⟨ys,hys⟩:∃ys,ys=(chL a b).map (cix b)++ZaX (mk NI) pb.length:=⟨_,rfl⟩
 have same:∀x:Int,0<=x->x<pb.length->(x∈xs↔x∈ys):=fun x h0 h1=>by
  obtain ⟨i,rfl⟩:=Int.eq_ofNat_of_zero_le h0;have hi:i<pb.length:=by omega
  rcases hpb with ⟨hp,_⟩| ⟨hvb,f,hf,hcp⟩
  ·rw [hp] at hi;cases hi
  ·have hva:Ziw a=true:=Zki (by rw [<-hb];exact hvb);rcases hpa with ⟨_,hva'⟩| ⟨_,fa,hfa,hcpa⟩
   ·rw [hva] at hva';cases hva'
   ·have hNN:∀s,s∈N↔s∈NI:=fun s=>by
     have e1:∀{nb:Zd},s∈nmS nb ids↔∃z∈ids,∃c∈nb.cells,c.id=z/\¬c.kind=1/\c.name=s:=fun {nb}=>by
      unfold nmS;rw [List.mem_map];constructor
      ·rintro ⟨c,hc,rfl⟩;obtain ⟨h1,h2⟩:=List.mem_filter.1 hc;simp only [Zyq,decide_eq_true_eq,Bool.not_eq_true',decide_eq_false_iff_not] at h2;exact ⟨c.id,h2.1,c,h1,rfl,h2.2,rfl⟩
      ·rintro ⟨z,hz,c,hc,rfl,h2,rfl⟩;exact ⟨c,List.mem_filter.2 ⟨hc,by simp [hz,h2]⟩,rfl⟩
     rw [hN,hNI,List.mem_append,e1,e1,List.mem_flatten];constructor
     ·rintro (⟨z,hz,h⟩| ⟨z,hz,h⟩)
      ·exact ⟨g z,List.mem_map_of_mem hz,List.mem_append_left _ (by rw [hfa];exact (ZfQ hva hcpa z s).2 h)⟩
      ·exact ⟨g z,List.mem_map_of_mem hz,List.mem_append_right _ (by rw [hf];exact (ZfQ hvb hcp z s).2 h)⟩
     ·rintro ⟨l,hl,hs⟩;obtain ⟨z,hz,rfl⟩:=List.mem_map.1 hl;rcases List.mem_append.1 hs with h| h
      ·exact .inl ⟨z,hz,(ZfQ hva hcpa z s).1 (by rw [hfa] at h;exact h)⟩
      ·exact .inr ⟨z,hz,(ZfQ hvb hcp z s).1 (by rw [hf] at h;exact h)⟩
    have hmk:mk N i=mk NI i:=by
     have:inN N=inN NI:=funext fun s=>ZoB hNN s;simp only [mk,this]
    have hbi:i<b.cells.length:=by omega
    have hid:idm i=true↔(i:Int)∈(chL a b).map (cix b):=by
     have:idm i=decide (b.cells[i].id∈ids):=by simp only [idm,Zyt hbi]
     rw [this,decide_eq_true_eq,hids,List.mem_append,List.mem_map];have toC1:b.cells[i].id∈chL a b->∃z∈chL a b,cix b z=(i:Int):=fun h=>⟨_,h,ZdF hvb i hbi⟩;constructor
     ·rintro (h| h)
      ·exact toC1 h
      ·refine toC1 ?_;unfold chL at h ⊢;obtain ⟨c,hc,hcid⟩:=List.mem_map.1 h;obtain ⟨hc1,hc2⟩:=List.mem_filter.1 hc;obtain ⟨j,hj,rfl⟩:=List.mem_iff_getElem.1 hc1;refine List.mem_map.2 ⟨b.cells[i],List.mem_filter.2 ⟨List.getElem_mem hbi, ?_⟩,rfl⟩;unfold chB at hc2 ⊢;rw [hcid,ZdF hvb i hbi,if_neg (by omega),Int.toNat_natCast,Zyt hbi] at hc2;rw [<-hcid,ZdF hva j hj,if_neg (by omega),Int.toNat_natCast,Zyt hj];simp only at hc2 ⊢;rw [Zp4];exact hc2
     ·rintro ⟨z,hz,hzi⟩;refine .inl ?_;unfold chL at hz;obtain ⟨c,hc,rfl⟩:=List.mem_map.1 hz;obtain ⟨hc1,_⟩:=List.mem_filter.1 hc;obtain ⟨j,hj,rfl⟩:=List.mem_iff_getElem.1 hc1;rw [ZdF hvb j hj] at hzi;obtain rfl:j=i:=by omega
      unfold chL;exact List.mem_map.2 ⟨_,hc,rfl⟩
    rw [hxs,hys,List.mem_append,Jv,Jv,<-hid,Int.toNat_natCast,Bool.or_eq_true,hmk];constructor
    ·rintro ⟨h,h1| h1⟩
     ·exact .inl h1
     ·exact .inr ⟨h,h1⟩
    ·rintro (h1| ⟨h,h1⟩)
     ·exact ⟨⟨h0,by omega⟩,.inl h1⟩
     ·exact ⟨h,.inr h1⟩
 have hxl:xs.length<=4194304:=by rw [hxs];have:=Jw (fun i=>idm i||mk N i) pb.length;omega
 have hyl:ys.length<=4194304:=by rw [hys,List.length_append,List.length_map];have:=Jw (mk NI) pb.length;have:=ZgO a b;omega
 obtain ⟨r,_,haff⟩:=Zuu h8.1 hU xs ys hxl hyl same;refine ⟨(r.length:Int),((ca.and cb).and ((hallU.and haff).and (Ev.ge 4194400))).mono fun k ⟨⟨⟨a1,a2⟩,b1,b2⟩,⟨hu,r1,r2⟩,hk⟩=> ?_⟩;obtain ⟨p1,p2⟩:=Zkq a ba x bx (k:=k) (by omega);obtain ⟨q1,q2⟩:=ZhM a b la lb (k:=k) (by omega);obtain ⟨q3,q4⟩:=ZhM b a lb la (k:=k) (by omega);have hap:Yv 8 (chL a b) (chL b a)=some ids:=by rw [hids];exact WS (by rw [hids,List.length_append] at hidl;omega) (by omega)
 have n1:=Zog a ids la (by omega) (k:=k) (by omega);have n2:=Zog b ids lb (by omega) (k:=k) (by omega);have hapN:Yv 16 (nmS a ids) (nmS b ids)=some N:=by rw [hN];exact WS (by rw [hN,List.length_append] at hNl;omega) (by omega)
 have hmkE:∀(N:List ByteArray) i (hi:i<pb.length),mk N i=((!decide (pb[i].kind=1)&&inN N pb[i].name)||(uf pb[i]).any (inN N)):=fun N i hi=>by simp only [mk,Zyt hi]
 have hidE:∀i (hi:i<b.cells.length),idm i=decide (b.cells[i].id∈ids):=fun i hi=>by simp only [idm,Zyt hi]
 have anyT:∀(l:List ByteArray) (N:List ByteArray) i (hi:i<l.length),(l.take (i+1)).any (inN N)=((l.take i).any (inN N)||inN N l[i]):=fun l N i hi=>by
  rw [List.take_succ_eq_append_getElem hi,List.any_append];simp
 have sU2:∀p∈pb,∀c:Bool,YG k (nmS a ids) (nmS b ids) (uf p) k c 0=some (c||(uf p).any (inN N)):=fun p hp c=>by
  have hul:=(huf p hp).1
  have:=ZfI (fun m (s:Bool) i=>YG k (nmS a ids) (nmS b ids) (uf p) m s i) (fun i=>c||((uf p).take i).any (inN N)) (some (c||(uf p).any (inN N))) (uf p).length
   (fun m i hi=>by
    try simp only
    rw [YG,if_pos (Z3 hi),YF hi,Zyl,<-hN,Zn0 N _ (by omega) (by omega),wS i (by omega),anyT _ _ i hi,<-Bool.or_assoc];cases (c||((uf p).take i).any (inN N))<;>rfl)
   (fun m=>by
    try simp only
    rw [YG,if_neg (X6 (Zyr _)),List.take_length]) (k:=k) (by omega)
  simpa using this
 have iU4:∀p∈pb,∀c:Bool,YN k NI (uf p) k c 0=some (c||(uf p).any (inN NI)):=fun p hp c=>by
  have hul:=(huf p hp).1
  have:=ZfI (fun m (s:Bool) i=>YN k NI (uf p) m s i) (fun i=>c||((uf p).take i).any (inN NI)) (some (c||(uf p).any (inN NI))) (uf p).length
   (fun m i hi=>by
    try simp only
    rw [YN,if_pos (Z3 hi),YF hi,Zyl,Zc0 NI _ (by omega) (by omega),Zyl,Zj2,wS i (by omega),anyT _ _ i hi,<-Bool.or_assoc];cases (c||((uf p).take i).any (inN NI))<;>rfl)
   (fun m=>by
    try simp only
    rw [YN,if_neg (X6 (Zyr _)),List.take_length]) (k:=k) (by omega)
  simpa using this
 have sU1:YH k (Qu a x) (chL a b) (chL b a) (nmS a ids) (nmS b ids) pb k [] 0=some xs:=by
  rw [hxs]
  exact ZfI (fun m (s:List Int) i=>YH k (Qu a x) (chL a b) (chL b a) (nmS a ids) (nmS b ids) pb m s i) (fun i=>ZaX (fun i=>idm i||mk N i) i) _ pb.length
   (fun m i hi=>by
    have hpl:=Jw (fun i=>idm i||mk N i) i;have hbi:i<b.cells.length:=by omega
    have hpm:=List.getElem_mem hi
    try simp only
    have e1:(if decide (b.cells[i].id∈ids)=true then some true else if (!decide (pb[i].kind=1))=true then some (N.any fun y=>decide (y=pb[i].name)) else some false:Option Bool)=some (decide (b.cells[i].id∈ids)||(!decide (pb[i].kind=1)&&inN N pb[i].name)):=by
     unfold inN;cases decide (b.cells[i].id∈ids)<;>cases decide (pb[i].kind=1)<;>rfl
    rw [YH,if_pos (Z3 hi),<-hb,<-hids,<-hN,YF hbi,Zyl,ZdU ids _ (by omega) (by omega),Zyl,YF hi,Zyl,Zn0 N _ (by omega) (by omega),Zyl,e1,Zyl,Zyl,(hu _ hpm).1,Zyl,sU2 _ hpm,Zyl,WS (by simp only [List.length_singleton];omega) (by omega),wS i (by omega),Zcg,hmkE N i hi,hidE i hbi,Bool.or_assoc];cases (decide (b.cells[i].id∈ids)||((!decide (pb[i].kind=1)&&inN N pb[i].name)||(uf pb[i]).any (inN N)))<;>rfl)
   (fun m=>by
    try simp only
    rw [YH,if_neg (X6 (Zyr _))]) (by omega)
 have iU1:YP k e (Qu a x) pa pb (chL a b) (chL b a) k [] 0=some NI:=by
  have:=ZfI (fun m (s:List ByteArray) i=>YP k e (Qu a x) pa pb (chL a b) (chL b a) m s i) (fun i=>((ids.take i).map g).flatten) (some NI) ids.length
   (fun m i hi=>by
    have hl1:=hgl i;have hl2:=ZkT pa (cix a ids[i])
    try simp only
    rw [YP,<-hids,if_pos (Z3 hi),YF hi,Zyl,<-ha,<-hb,W7 a _ (by omega) (by omega),Zyl,Zoe pa _ _ (by omega),Zyl,W7 b _ (by omega) (by omega),Zyl,Zoe pb _ _ (by rw [List.length_append];omega),Zyl,wS i (by omega),List.take_succ_eq_append_getElem hi,List.map_append,List.flatten_append];simp only [List.map_cons,List.map_nil,List.flatten_cons,List.flatten_nil,List.append_nil,g,List.append_assoc])
   (fun m=>by
    try simp only
    rw [YP,<-hids,if_neg (X6 (Zyr _)),List.take_length,hNI]) (k:=k) (by omega)
  simpa using this
 have iU2:Qc k (Qu a x) (chL a b) k [] 0=some ((chL a b).map (cix b)):=by
  have hcl:=ZgO a b;exact ZfR 8 (by omega) (chL a b) (cix b) (Y6 k b) (Qc k (Qu a x) (chL a b)) (fun z _=>W7 b z (by omega) (by omega)) (fun n out i=>by rw [Qc,<-hb]) (by omega) (by omega)
 have iU3:YO k pb NI k ((chL a b).map (cix b)) 0=some ys:=by
  have hcl:=ZgO a b
  have:=ZfI (fun m (s:List Int) i=>YO k pb NI m s i) (fun i=>(chL a b).map (cix b)++ZaX (mk NI) i) (some ys) pb.length
   (fun m i hi=>by
    have hpl:=Jw (mk NI) i;have hpm:=List.getElem_mem hi
    try simp only
    rw [YO,if_pos (Z3 hi),YF hi,Zyl,Zc0 NI _ (by omega) (by omega),Zyl,Zj2,(hu _ hpm).2,wS i (by omega),Zcg,hmkE NI i hi]
    have e1:(if (!decide (pb[i].kind=1))=true then some (inN NI pb[i].name) else some false:Option Bool)=some (!decide (pb[i].kind=1)&&inN NI pb[i].name):=by
     cases decide (pb[i].kind=1)<;>rfl
    rw [e1,Zyl,Zyl,iU4 _ hpm,Zyl,WS (by simp only [List.length_singleton,List.length_append,List.length_map];omega) (by omega)];cases ((!decide (pb[i].kind=1)&&inN NI pb[i].name)||(uf pb[i]).any (inN NI))
    ·rfl
    ·simp)
   (fun m=>by
    try simp only
    rw [YO,if_neg (X6 (Zyr _)),hys]) (k:=k) (by omega)
  simpa [ZaX] using this
 constructor
 ·unfold Jj;rw [<-ha,p1,Zyl,<-hb];simp only [q1,q3,hap,n1,n2,hapN,b1,sU1,r1,Zyl]
 ·unfold JB;rw [<-ha,p2,Zyl,<-hb];simp only [a2,b2,q2,q4,hap,iU1,iU2,iU3,r2,Zyl]
end Go.Proofs.YtbkllghhcphkaaaGreatDoor
