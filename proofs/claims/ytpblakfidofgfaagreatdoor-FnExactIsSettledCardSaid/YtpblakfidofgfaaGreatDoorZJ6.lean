import Derived.Deep.Upon
import Derived.Test.YtpblakfidofgfaaGreatDoorZJ5
import Derived.Lib.ItoaLen
import Derived.Lib.LaidTab
set_option linter.unusedSimpArgs false
set_option linter.unusedVariables false
namespace Go.Proofs.YtpblakfidofgfaaGreatDoor.Am
open Go.RowKit
section
variable {e:Env} {O O':St} {w:World} {N:Nat->Prop} {w0:Bs} {a:Act} {P:Program} {ops:Array Oper}
theorem Zz.Zpb (h:Zz N w0 e O a w) {d τ τ2 n lo W:Nat} (hd:d<O.nt) {A:Arr} {v:Value} (hA:O.ar.lookup τ=some (some A)) (hv:(CV.vw τ n lo n W).rel e O w v) (hn:A.es.length=n) (h2:O.ar.lookup τ2=none) (hdp1:τ<1000000) (hdp2:τ2<1000000)
  {x:Value} {ys:List (List L)} {f:Bool} {τs:List Nat} {tx:Nat} (hs:ZsK P tx N e O w x ys W f τs) (hτ:τ∉τs) (hfl:VI A.es=true) (hfy:VI ys=true)
  {t ty et:Nat} {ei:TI} (ht:P.underlying t=some (.slice et)) (hi:ti P et=some ei) (hsz:ei.size=W) (hz:ei.zero.length=W)
  (hWA:∀z∈A.es,z.length=W) (hWy:∀z∈ys,z.length=W) (hb1:n+ys.length<=140737488355328) (hb2:(n+ys.length)*ei.bytes<=140737488355328):
  ∃v' w' e' pre,(pre=A.es.take lo\/pre=[])/\(Builtin.append_ #[t,tx] ty #[v,x]).run P w= .ok v' w'/\
   Zz N w0 e' (stA O ((d,.one (.vw τ2 (pre.length+(n-lo+ys.length)) pre.length (pre.length+(n-lo+ys.length)) W))::O.tm) τ2 ⟨A.fr,pre++(A.es.drop lo++ys)⟩ (τ::τs)) (a.put (some d) v') w':=by
 obtain ⟨us,Fx,hsrc,hrx,hgx,hox⟩:=hs.ex;have hul:=hsrc.newsLen;obtain ⟨A',hA',hr,_⟩:=hv;rw [hA] at hA';obtain rfl:=Zz9 hA';obtain ⟨hlo,_,p,c,q,hρ,hq,rfl⟩:=(hr A rfl).2 hn;obtain ⟨j,dd,z,j1,j2,j3,j4,j5,j6,j7⟩:=WU hi;have jz:z.cells.size=W:=by rw [<-hz,<-j7];simp
 have hne:τ2≠τ:=fun e1=>by rw [e1,hA] at h2;cases h2
 have hd2:τ2∉τ::τs:=fun hm=>by
  rcases List.mem_cons.1 hm with e1| hm
  ·exact hne e1
  ·obtain ⟨B,hB,_⟩:=hs.lv _ hm;rw [h2] at hB;cases hB
 obtain ⟨te,xs,Fs,r1,r2,_,_,r5⟩:=(h.ar τ A hA).row hWA;have oA:OwE N w A.es xs []:=(r2.flat (N:=N) hfl).2;have oY:OwE N w ys us []:=(hrx.flat (N:=N) hfy).2;obtain ⟨x1,x2,G1,G2,rfl,hG,o1,o2⟩:=OwE.split (xs:=A.es.take lo) (ys:=A.es.drop lo) (by rw [List.take_append_drop];exact oA);obtain ⟨hG1,hG2⟩:=List.append_eq_nil_iff.1 hG.symm;subst hG1 hG2;have htl:(A.es.take lo).length=lo:=by rw [List.length_take,hn];omega
 have hdl:(A.es.drop lo).length=n-lo:=by rw [List.length_drop,hn]
 have l1:x1.length=lo*W:=by rw [o1.len,ZN fun z hz=>hWA z (List.mem_of_mem_take hz),htl]
 have l2:x2.length=(n-lo)*W:=by rw [o2.len,ZN fun z hz=>hWA z (List.mem_of_mem_drop hz),hdl]
 have hmul:lo*W+(n-lo)*W=n*W:=by rw [<-Nat.add_mul];congr 1;omega
 have htop:∀b,(e.ρ τ).ownBlock=some b->∃κ A,O.ar.lookup κ=some (some A)/\(e.ρ κ).ownBlock=some b:=fun b hb=>⟨τ,A,hA,hb⟩
 have fin:∀(v' vρ:Value) (w':World) (te':Nat) (pre:List (List L)) (xs':List Value),(pre=A.es.take lo\/pre=[])->
   (Builtin.append_ #[t,tx] ty #[.slice q (n-lo) (c-lo),x]).run P w= .ok v' w'->
   w'.ownsRow 0 te' W vρ (pre++(A.es.drop lo++ys)).length xs'->OwE N w (pre++(A.es.drop lo++ys)) xs' []->w.grownBy w' (e.ρ τ).ownBlock->
   (vρ.ownBlock=(e.ρ τ).ownBlock\/vρ.ownBlock=some w.heap.size)->(pre++(A.es.drop lo++ys)=[]->∀p n c,vρ= .slice p n c->c=0)->
   (∃p c q,vρ= .slice p (pre.length+(n-lo+ys.length)) c/\(pre.length<c\/pre.length=0->q=p.map (·.add (pre.length*W)))/\v'= .slice q (n-lo+ys.length) (c-pre.length))->
   ∃v' w' e' pre,(pre=A.es.take lo\/pre=[])/\(Builtin.append_ #[t,tx] ty #[.slice q (n-lo) (c-lo),x]).run P w= .ok v' w'/\
   Zz N w0 e' (stA O ((d,.one (.vw τ2 (pre.length+(n-lo+ys.length)) pre.length (pre.length+(n-lo+ys.length)) W))::O.tm) τ2 ⟨A.fr,pre++(A.es.drop lo++ys)⟩ (τ::τs)) (a.put (some d) v') w':=by
  intro v' vρ w' te' pre xs' hp hrun g1 g2 g3 g4 g5 ⟨p',c',q',g6,g8,g7⟩;have hpl:pre.length<=lo:=by rcases hp with rfl| rfl<;>simp;omega
  have htopρ:∀b,vρ.ownBlock=some b->(∃κ A,O.ar.lookup κ=some (some A)/\(e.ρ κ).ownBlock=some b)\/w.heap.size<=b:=fun b hb=>by
   rcases g4 with g4| g4
   ·exact .inl (htop b (g4▸hb))
   ·rw [hb] at g4;obtain rfl:=Zz9 g4;exact .inr (ZAe _)
  have hlen:(pre++(A.es.drop lo++ys)).length=pre.length+(n-lo+ys.length):=by rw [List.length_append,List.length_append,hdl]
  have hW':∀z∈pre++(A.es.drop lo++ys),z.length=W:=fun z hz=>by
   rcases List.mem_append.1 hz with hz| hz
   ·rcases hp with rfl| rfl
    ·exact hWA z (List.mem_of_mem_take hz)
    ·cases hz
   ·rcases List.mem_append.1 hz with hz| hz
    ·exact hWA z (List.mem_of_mem_drop hz)
    ·exact hWy z hz
  have o':OwE N w' (pre++(A.es.drop lo++ys)) xs' []:=g2.keep ⟨g3.size,fun b hb=>by cases hb⟩
  have okN:=VJ.Zsl (N:=N) (M:=Mut (Zd7 e τ2 vρ (match vρ.ownBlock with | some b=>if A.fr then b::[] else [b]| none=>[])) (stA O ((d,.one (.vw τ2 (pre.length+(n-lo+ys.length)) pre.length (pre.length+(n-lo+ys.length)) W))::O.tm) τ2 ⟨A.fr,pre++(A.es.drop lo++ys)⟩ (τ::τs))) (A:=⟨A.fr,pre++(A.es.drop lo++ys)⟩) (Fs:=[]) g1
   (fun b hb=>by
    rcases htopρ b hb with ⟨κ,B,q1,q2⟩| q
    ·exact ((h.ar κ B q1).own q2).2.1
    ·exact h.tn b (h.fr.new b (Nat.le_trans h.fr.size q))) hW' g5 (fun _=>⟨o',by simp,by simp⟩) (fun _=>⟨o'.rp,by simp⟩)
  refine ⟨v',w',_,pre,hp,hrun,h.Zmy (row:=(e.ρ τ).ownBlock) hdp2 (fun κ hκ=> ?_) hd2 g3 (fun b hb=>⟨τ,A,.inr (by simp),hA,hb⟩) (fun A hA'=>by rw [h2] at hA';cases hA') htopρ (fun b hb=> ?_) okN (by rw [Z8];exact h.nt) (by rw [ZP];exact h.df)
   (fun u=>Kp (by rw [h.nt];exact hd) ⟨some _,by rw [Vg,if_pos rfl],fun B hB=> ?_, ?_⟩)⟩
  ·rcases List.mem_cons.1 hκ with rfl| hκ
   ·exact ⟨A,hA,hdp1⟩
   ·exact hs.lv κ hκ
  ·cases hv:vρ.ownBlock with
   | none=>rw [hv] at hb;simp at hb
   | some b'=>
    rw [hv] at hb
    have hb':b=b':=by
     cases hf:A.fr<;>simp only [hf,if_true,if_false,ZAf,List.mem_singleton] at hb<;>exact hb
    subst hb';rcases g4 with g4| g4
    ·exact .inr (.inl ⟨τ,by simp,((h.ar τ A hA).own (g4▸hv)).1⟩)
    ·rw [hv] at g4;obtain rfl:=Zz9 g4;exact .inr (.inr (ZAe _))
  ·obtain rfl:=Zz9 hB;refine ⟨by rw [<-hlen];exact ZAe _,fun _=>⟨Nat.le_add_right _ _,ZAe _,p',c',q',by simp [Zd7,g6],g8, ?_⟩⟩;rw [g7,Nat.add_sub_cancel_left]
  ·exact ⟨_,_,by rw [g7,Nat.add_sub_cancel_left],by rw [Nat.add_sub_cancel_left];omega⟩
 have hpre0:A.es.take lo++(A.es.drop lo++ys)=A.es++ys:=by rw [<-List.append_assoc,List.take_append_drop]
 have hl0:(A.es.take lo++(A.es.drop lo++ys)).length=n+ys.length:=by rw [hpre0,List.length_append,hn]
 have hlen0:(A.es.take lo).length+(n-lo+ys.length)=n+ys.length:=by rw [htl];omega
 have hc:n<=c:=by
  rcases r1.2 with ⟨k1,k2⟩| ⟨g,cap,cur,k1,_,_,k2,_⟩
  ·rw [hn] at k2;omega
  ·rw [hρ] at k1;injection k1 with _ _ k1;rw [<-k1] at k2;omega
 have hfc:=hsrc.cells
 by_cases hm:ys.length=0
 ·have hys:ys=[]:=List.eq_nil_of_length_eq_zero hm;subst hys;have hus:us=[]:=List.eq_nil_of_length_eq_zero (by simpa using hul);subst hus;refine fin _ (e.ρ τ) w te (A.es.take lo) (x1++x2) (.inl rfl) ?_ (by rw [hl0];simpa [hn] using r1) (by simpa [List.take_append_drop] using oA) ⟨rfl,rfl,rfl,ZAe _,fun _ _ _=>rfl⟩ (.inl rfl) (fun he=>r5 (by simpa [List.take_append_drop] using he)) ⟨p,c,q,by rw [hlen0];simpa using hρ,by rw [htl];exact hq,rfl⟩;rw [htl];exact _root_.Go.run_append_nothing w t tx ty et j ht j1 _ (n-lo) (c-lo) (by omega) x (by rw [j5,hsz];exact hsrc)
 ·rcases r1.2 with ⟨k1,k2⟩| ⟨g,cap,cur,k1,_,hg,hnc,hcm,hcs,htake⟩
  ·
   rw [hn] at k2;rw [hρ] at k1;injection k1 with k3 _ k4
   subst k3 k4;have hlo0:lo=0:=by omega
   subst hlo0 k2;have hx2:x2=[]:=List.eq_nil_of_length_eq_zero (by simpa using l2);have hd0:A.es.drop 0=[]:=List.eq_nil_of_length_eq_zero (by simpa using hdl);have hq0:q=none:=by rw [hq (.inr rfl)];rfl
   subst hq0;have hr':=run_append_grow_src (P:=P) w t tx ty et j z ht j1 j3 none 0 0 [] (by simp [Builtin.firstCells]) x ys.length us (by rw [j5,hsz];exact hsrc) (by omega) (by omega) (growslice_fits (by omega) (by rw [j6];simpa using hb2));simp only [Nat.zero_add,List.nil_append] at hr';have hge:=grownCap_ge w ys.length 0 et;have hcm':grownCap w ys.length 0 et<=maxLen:=grownCap_le_maxLen w ys.length 0 et (by simp only [maxLen];omega);have el:([]++(A.es.drop 0++ys))=ys:=by rw [hd0];rfl
   refine fin _ (.slice (some ⟨w.heap.size,0,none⟩) ys.length (grownCap w ys.length 0 et)) (w.drew.alloc (.cells (us.toArray++Builtin.zeroCells z.cells (grownCap w ys.length 0 et-ys.length)) et)) et [] us (.inr rfl) (by simpa using hr') (by
    rw [el];refine ⟨hul,.inr ⟨w.heap.size,_,_,rfl,Nat.zero_le _,heap_alloc_new w.drew _,hge,hcm', ?_, ?_⟩⟩
    ·simp only [Array.size_append,List.size_toArray,size_zeroCells,jz,hul,<-Nat.add_mul]
     congr 1;omega
    ·simp only [Array.toList_append];rw [<-hul];exact List.take_left) (by rw [el];exact oY) ⟨rfl,rfl,rfl,by simp,fun k hk _=>Below.heap_alloc w.drew _ k hk⟩ (.inr rfl) (fun he=>by rw [el] at he;rw [he] at hm;simp at hm)
    ⟨some ⟨w.heap.size,0,none⟩,grownCap w ys.length 0 et,some ⟨w.heap.size,0,none⟩,by simp,by simp [Addr.add],by simp⟩
  ·rw [hρ] at k1;injection k1 with k3 _ k4
   subst k3 k4;rw [hn] at htake hnc
   have hbase:lo<c->q=some ⟨g,lo*W,none⟩:=fun hcl=>by
    rw [hq (.inl hcl)];simp only [Option.map_some,Addr.add]
    split
    ·rename_i h0;rw [h0]
    ·simp
   by_cases hroom:n+ys.length<=c
   ·have hcl:lo<c:=by omega
    have hfit:n*W+us.length<=cur.size:=by rw [hul,hcs,<-Nat.add_mul];exact Nat.mul_le_mul_right _ hroom
    have hst:=run_storeCells_at P g (n*W) te us 0 cur w hg (by simpa using hfit) hsrc.one;simp only [Nat.add_zero] at hst;have hroom':n-lo+ys.length<=c-lo:=by omega
    have hfc':=hfc;rw [<-hsz,<-j5] at hfc'
    have hadd:(⟨g,lo*j.size,none⟩:Addr).add ((n-lo)*j.size)=⟨g,n*W,none⟩:=by
     rw [j5,hsz,Addr.add_lit,hmul]
    have hr':(Builtin.append_ #[t,tx] ty #[.slice (some ⟨g,lo*W,none⟩) (n-lo) (c-lo),x]).run P w= .ok (.slice (some ⟨g,lo*W,none⟩) (n-lo+ys.length) (c-lo)) (w.setRow g (cur.toList.take (n*W)++us++cur.toList.drop (n*W+us.length)).toArray):=by
     rw [<-hsz,<-j5] at hst ⊢;rw [<-hsz,<-j5] at hadd;rcases hsrc.kind with ⟨e',hk⟩| hk<;>simp [Builtin.append_,run_underlying ht,run_underlying hk,sizeOf,typeInfo,j1,hsrc.len,hroom',hfc',hadd,hst]
    refine fin (.slice (some ⟨g,lo*W,none⟩) (n-lo+ys.length) (c-lo)) (.slice (some ⟨g,0,none⟩) (n+ys.length) c) (w.setRow g (cur.toList.take (n*W)++us++cur.toList.drop (n*W+us.length)).toArray) te (A.es.take lo) (x1++x2++us) (.inl rfl) (by rw [hbase hcl];exact hr') (by
     rw [hl0];refine ⟨by rw [List.length_append,List.length_append,l1,l2,hul,hmul,Nat.add_mul],.inr ⟨g,c,_,rfl,Nat.zero_le _,setRow_heap w g cur _ te _ hg,hroom,hcm, ?_, ?_⟩⟩
     ·simp only [List.size_toArray,List.length_append,List.length_take,List.length_drop,Array.length_toList];omega
     ·rw [htake];have:(n+ys.length)*W=(x1++x2++us).length:=by rw [List.length_append,List.length_append,l1,l2,hul,hmul,Nat.add_mul]
      rw [this];exact List.take_left) (by have:=(o1.append o2).append oY;rw [List.append_assoc] at this;exact this) ⟨rfl,rfl,rfl,by simp,fun k _ hk=>setRow_other w g k _ (fun e=>hk (by rw [hρ];simp [Value.ownBlock,e]))⟩ (.inl (by rw [hρ];rfl)) (fun he=>by
      have:=congrArg List.length he;rw [hl0] at this;have h9:n+ys.length=0:=this;omega)
     ⟨some ⟨g,0,none⟩,c,some ⟨g,lo*W,none⟩,by rw [hlen0],fun hh=>by rw [htl,<-hbase hcl];exact hq (by rw [htl] at hh;exact hh),by rw [htl]⟩
   ·have hb2':(n-lo+ys.length)*j.bytes<=140737488355328:=by rw [j6];exact Nat.le_trans (Nat.mul_le_mul_right _ (by omega)) hb2
    have hold:(Builtin.firstCells j.size (n-lo) (.slice q (n-lo) (c-lo))).run P w.drew= .ok x2.toArray w.drew:=by
     rw [j5,hsz]
     by_cases hcl:¬lo<c
     ·have:n-lo=0:=by omega
      have hx:x2=[]:=List.eq_nil_of_length_eq_zero (by rw [l2,this];simp);rw [this,hx];cases q with
      | none=>simp [Builtin.firstCells]
      | some ad=>exact run_firstCells_some w.drew W 0 _ _ _ [] (by simp) (by simp)
     ·rw [hbase (by omega)];refine run_firstCells_some w.drew W (n-lo) ⟨g,lo*W,none⟩ _ _ x2 l2 fun k u hu=> ?_;rw [Addr.add_lit];have hk:(x1++x2)[lo*W+k]? =some u:=by rw [List.getElem?_append_right (by omega),l1];simpa using hu
      have:=cell_of_row w g (lo*W+k) cur te (0,0) hg;show w.cell? _=_;rw [this]
      have hkl:lo*W+k<n*W:=by
       have:=(List.getElem?_eq_some_iff.1 hu).1;omega
      have h3:(cur.toList.take (n*W))[lo*W+k]? =some u:=by rw [htake];exact hk
      rw [List.getElem?_take_of_lt hkl] at h3
      simpa using h3
    have hr':=run_append_grow_src (P:=P) w t tx ty et j z ht j1 j3 _ (n-lo) (c-lo) x2 hold x ys.length us (by rw [j5,hsz];exact hsrc) (by omega) (by omega) (growslice_fits (by omega) hb2');have hge:=grownCap_ge w (n-lo+ys.length) (c-lo) et;have hcm':grownCap w (n-lo+ys.length) (c-lo) et<=maxLen:=grownCap_le_maxLen w (n-lo+ys.length) (c-lo) et (by simp only [maxLen];omega);have el:([]++(A.es.drop lo++ys):List (List L))=A.es.drop lo++ys:=rfl;have hll:(x2++us).length=(n-lo+ys.length)*W:=by rw [List.length_append,l2,hul,Nat.add_mul]
    refine fin _ (.slice (some ⟨w.heap.size,0,none⟩) (n-lo+ys.length) (grownCap w (n-lo+ys.length) (c-lo) et)) _ et [] (x2++us) (.inr rfl) hr' (by
     rw [el,List.length_append,hdl];refine ⟨hll,.inr ⟨w.heap.size,_,_,rfl,Nat.zero_le _,heap_alloc_new w.drew _,hge,hcm', ?_, ?_⟩⟩
     ·simp only [Array.size_append,List.size_toArray,size_zeroCells,jz,hll,<-Nat.add_mul]
      congr 1;omega
     ·simp only [Array.toList_append];rw [<-hll];exact List.take_left) (by rw [el];exact o2.append oY) ⟨rfl,rfl,rfl,by simp,fun k hk _=>Below.heap_alloc w.drew _ k hk⟩ (.inr rfl) (fun he=>by
      have:=congrArg List.length he;rw [el,List.length_append] at this;have h9:(A.es.drop lo).length+ys.length=0:=this;omega)
     ⟨some ⟨w.heap.size,0,none⟩,grownCap w (n-lo+ys.length) (c-lo) et,some ⟨w.heap.size,0,none⟩,by simp,by simp [Addr.add],by simp⟩
def vaD (P:Program) (ops:Array Oper) (rest:List Oper) (O:St) (K:St->Prop) (d τ n lo hi W:Nat) (ei:TI) (A:Arr):Option (List (List L)×Bool×List Nat×Prop)->Prop
 | some (ys,f,τs,q)=>q/\hi=n/\A.es.length=n/\W=ei.size/\ei.zero.length=ei.size/\d<O.nt/\O.ar.lookup (64*d)=none/\τ<1000000/\64*d<1000000/\τ∉τs/\VI A.es=true/\VI ys=true/\
   (∀z∈A.es,z.length=ei.size)/\(∀z∈ys,z.length=ei.size)/\n+ys.length<=140737488355328/\(n+ys.length)*ei.bytes<=140737488355328/\
   ∀pre,(pre=A.es.take lo\/pre=[])->ZW P ops rest (O.app ⟨True,[(d,.one (.vw (64*d) (pre.length+(n-lo+ys.length)) pre.length (pre.length+(n-lo+ys.length)) W))],[],(64*d,some ⟨A.fr,pre++(A.es.drop lo++ys)⟩)::(τ,none)::τs.map fun κ=>(κ,none)⟩) K
 | none=>False
def vaC (P:Program) (ops:Array Oper) (rest:List Oper) (O:St) (K:St->Prop) (d t t' τ n lo hi W:Nat) (xv:V):Option TI->Option (Option Arr)->Prop
 | some ei,some (some A)=>vaD P ops rest O K d τ n lo hi W ei A (ZnA P O ei t t' xv)
 | _,_=>False
def vaB (P:Program) (ops:Array Oper) (rest:List Oper) (O:St) (K:St->Prop) (d t t':Nat):Option TI->Option V->Option V->Prop
 | some ⟨.slice et,_,_,_⟩,some (.one (.vw τ n lo hi W)),some xv=>vaC P ops rest O K d t t' τ n lo hi W xv (ti P et) (O.ar.lookup τ)
 | _,_,_=>False
def vaA (P:Program) (ops:Array Oper) (rest:List Oper) (O:St) (K:St->Prop) (d:Nat):List Operand->List TypeId->Prop
 | [s,x],[t,t']=>vaB P ops rest O K d t t' (ti P t) (opd O s) (opd O x)
 | _,_=>False
def vaK (P:Program) (ops:Array Oper) (O:St) (K:St->Prop):List Oper->Prop
 | ⟨some d,.call { callee:=.builtin .append,args:=xs,argTypes:=ts},_,_,_,none⟩::rest=>vaA P ops rest O K d xs.toList ts.toList
 | _=>False
theorem Zpw {Q:Exit->Act->World->Prop} {l:List Oper} {K:St->Prop} (hw:vaK P ops O K l) (hs:Sim N w0 O a w) (hQ:∀O' a' w',K O'->Sim N w0 O' a' w'->Q .normal a' w'):wpList P ops Q l a w:=by
 obtain ⟨e,h⟩:=hs;unfold vaK at hw
 split at hw
 ·rename_i d xs ts ty pos af rest;unfold vaA at hw
  split at hw
  ·rename_i s x t t' hxs hts;unfold vaB at hw
   split at hw
   ·rename_i et _ _ _ τ n lo hi W xv hti hsv hxv;unfold vaC at hw
    split at hw
    ·rename_i ei A hei hA;unfold vaD at hw
     split at hw
     ·rename_i ys f τs q hsrc;obtain ⟨c1,rfl,c3,rfl,c5,c6,c7,c8,c9,c10,c11,c12,c13,c14,c15,c16,hrest⟩:=hw;have ht:=XY hti;have src:=ZcE h (Zv h hxv) hsrc c1 c14 ht;obtain ⟨v',w',e',pre,k0,k1,k2⟩:=h.Zpb (P:=P) (ty:=ty) c6 hA (Zv h hsv) c3 c7 c8 c9 src c10 c11 c12 ht hei rfl c5 c13 c14 c15 c16;refine wpList_step fun K' hK'=> ?_;simp only [Region.wanted,if_true]
      have hex:(execOp a.eval ⟨some d,.call { callee:=.builtin .append,args:=xs,argTypes:=ts},ty,pos,af,none⟩).run P w= .ok (.value v') w':=by
       have e1:xs.map a.eval= #[a.eval s,a.eval x]:=by rw [<-Array.toList_inj];simp [hxs]
       have e2:ts= #[t,t']:=by rw [<-Array.toList_inj];simp [hts]
       subst e2;simp [execOp,resolve,invoke,builtin,e1,k1,Sem.run_bind,Result.andThen]
      unfold Oper.wp;rw [hex,Oper.upon_value];exact hK' _ _ (J2 (hrest pre k0) ⟨e',k2⟩ hQ)
     ·exact hw.elim
    ·exact hw.elim
   ·exact hw.elim
  ·exact hw.elim
 ·exact hw.elim
theorem Zup {Q:Exit->St->Prop} {id:Nat} {l:List Oper} (n:Nat) (h:ZW P l.toArray (l.take n) O (fun O1=>vaK P l.toArray O1 (fun O'=>Q .normal O') (l.drop n))):AW P N w0 (.region id l.toArray false) Q O:=fun a w hs=>by
 refine wp_region_lit ?_;have:=Zd3 (Q:=fun e a w=>∃O',Q e O'/\Sim N w0 O' a w) (tail:=l.drop n) h hs fun O' a' w' h1 h2=>Zpw h1 h2 fun O' a' w' h1 h2=>⟨O',h1,h2⟩
 rwa [List.take_append_drop] at this
theorem Zrz {t τ n W:Nat} (ht:O.tm.lookup t=some (.one (.own τ n))):Zai ⟨O.nt,(t,.one (.vw τ n 0 n W))::O.tm,O.bx,O.ar⟩ O:=fun N w0 a w ⟨e,h⟩=>by
 have u:=Zrg e O w ((t,.one (.vw τ n 0 n W))::O.tm) O.nt;refine ⟨e,h.nt,h.df,fun s y hy=> ?_,fun k cs hk=>⟨(h.bx k cs hk).1,(h.bx k cs hk).2.up u⟩,h.ar,h.sep,h.fr,h.bad,h.dk,h.pn,h.tn,h.tp⟩;rw [lookup_cons] at hy
 by_cases hs:s=t
 ·subst hs;rw [if_pos rfl] at hy;obtain rfl:=Zz9 hy;obtain ⟨A,h1,h2,p,c,h3,h4⟩:=h.tm s _ ht;refine ⟨A,h1,fun B hB=>⟨(h2 B hB).1,fun hn=> ?_⟩,p,c,by simpa using h3,by simpa using h4⟩;refine ⟨Nat.zero_le _,ZAe _,p,c,p, ?_,fun _=> ?_,by simpa using h3⟩
  ·rw [<-(h2 B hB).2 hn];exact h3
  ·cases p with
   | none=>rfl
   | some ad=>simp [Addr.add]
 ·rw [if_neg hs] at hy;exact (h.tm s y hy).up u
end
section
variable {P:Program} {ops:Array Oper} {rest:List Oper} {O:St} {K:St->Prop} {d t t' τ n lo hi W:Nat} {ei:TI} {A:Arr} {xv:V}
theorem ZwC {ys:List (List L)} {f:Bool} {τs:List Nat} {q:Prop}:vaD P ops rest O K d τ n lo hi W ei A (some (ys,f,τs,q))=(q/\hi=n/\A.es.length=n/\W=ei.size/\ei.zero.length=ei.size/\d<O.nt/\O.ar.lookup (64*d)=none/\τ<1000000/\64*d<1000000/\τ∉τs/\VI A.es=true/\VI ys=true/\
   (∀z∈A.es,z.length=ei.size)/\(∀z∈ys,z.length=ei.size)/\n+ys.length<=140737488355328/\(n+ys.length)*ei.bytes<=140737488355328/\
   ∀pre,(pre=A.es.take lo\/pre=[])->ZW P ops rest (O.app ⟨True,[(d,.one (.vw (64*d) (pre.length+(n-lo+ys.length)) pre.length (pre.length+(n-lo+ys.length)) W))],[],(64*d,some ⟨A.fr,pre++(A.es.drop lo++ys)⟩)::(τ,none)::τs.map fun κ=>(κ,none)⟩) K):=rfl
theorem ZwD:vaC P ops rest O K d t t' τ n lo hi W xv (some ei) (some (some A))=vaD P ops rest O K d τ n lo hi W ei A (ZnA P O ei t t' xv):=rfl
theorem ZwE {et a b:Nat} {c:List Value}:vaB P ops rest O K d t t' (some ⟨.slice et,a,b,c⟩) (some (.one (.vw τ n lo hi W))) (some xv)=vaC P ops rest O K d t t' τ n lo hi W xv (ti P et) (O.ar.lookup τ):=rfl
theorem ZwF {s x:Operand}:vaA P ops rest O K d [s,x] [t,t']=vaB P ops rest O K d t t' (ti P t) (opd O s) (opd O x):=rfl
theorem ZwB {xs:Array Operand} {ts:Array TypeId} {ty:TypeId} {pos:String} {af:Array Edge}:vaK P ops O K (⟨some d,.call { callee:=.builtin .append,args:=xs,argTypes:=ts},ty,pos,af,none⟩::rest)=vaA P ops rest O K d xs.toList ts.toList:=rfl
end
attribute [go_sem] ZwC ZwD ZwE ZwF ZwB
end Go.Proofs.YtpblakfidofgfaaGreatDoor.Am
namespace Go.Proofs.YtpblakfidofgfaaGreatDoor
open Go.RowKit Am
theorem ZpW {w:World}:∀{zs:List Int} {vs:List Value} {F:List Nat},RpL w (zs.map (L.int .u64)) vs F->vs=zs.map (Value.int .u64)
 | [],_,_,h=>by simp only [List.map_nil,RpL] at h;simp [h.1]
 | z::zs,_,_,h=>by
  simp only [List.map_cons,RpL,Rp] at h;obtain ⟨v,vs',F1,F2,rfl,rfl,⟨rfl,rfl,_⟩,h2⟩:=h;simp [ZpW h2]
theorem Znd {w:World} {k:Nat} {os:Array Obj}:Below w.heap.size w (Sort.grow (w.drewN k) os):=by
 refine ⟨rfl,rfl,rfl, ?_,fun j hj=> ?_⟩
 ·show w.heap.size<=(w.heap++os).size;simp
 ·show (w.heap++os)[j]? =w.heap[j]?;rw [Array.getElem?_append_left hj]
theorem ZtS {w:World} {G:Nat->Prop} (h:Glb w G):Lib.TabIs Tryz.prog w "internal/strconv.uint64pow10" .u64 Lib.pow10Tab:=by
 obtain ⟨cur,ty,fz,F,h1,_,h3,_⟩:=h.2.1 (5,Lib.pow10Tab.map (L.int .u64)) (List.mem_of_mem_head? rfl);have h4:=ZpW h3;have hg:Tryz.prog.globalNamed "internal/strconv.uint64pow10"=some 5:=by kernel_rfl
 unfold Lib.TabIs World.var?;rw [hg,Zz8,h1,<-h4]
theorem Zt1 {w:World} {a b:DV} {vs:List Value} {F:List Nat} (h:Yn w [a,b] vs F):∃v u F1 F2,vs=[v,u]/\F=F1++F2/\Zcl w a v F1/\Zcl w b u F2:=by
 simp only [Yn] at h;obtain ⟨v,_,F1,_,rfl,rfl,h1,u,_,F2,_,rfl,rfl,h2,rfl,rfl⟩:=h;exact ⟨v,u,F1,F2,rfl,by simp,h1,h2⟩
theorem Zjb {w:World}:∀{zs:List Int},(∀z∈zs,InK .u64 z)->RpL w (zs.map (L.int .u64)) (zs.map (Value.int .u64)) []
 | [],_=>by simp only [List.map_nil,RpL];exact ⟨trivial,trivial⟩
 | z::zs,h=>by
  simp only [List.map_cons,RpL,Rp];exact ⟨_,_,[],[],rfl,rfl,⟨rfl,rfl,h z (by simp)⟩,Zjb fun y hy=>h y (by simp [hy])⟩
def ZjA (W:World) (p:Nat×List L):Prop:=∃cur ty fz F,W.heap[p.1]? =some (.cells cur ty fz)/\RpL W p.2 cur.toList F
theorem Zkt {W:World} (h:∀p∈glb,ZjA W p) (h2:∀p∈Zq9,∃v,W.cell? ⟨p.1,0,none⟩=some v/\p.2 v):∃G,Glb W G:=
 ⟨fun b=>b<W.heap.size,fun _ h=>h,fun p hp=>by
  obtain ⟨cur,ty,fz,F,h1,h2⟩:=h p hp;exact ⟨cur,ty,fz,F,h1,Vk h1,h2,h2.lt⟩,fun p hp=>by
  obtain ⟨v,h1,h3⟩:=h2 p hp;exact ⟨v,h1,World.block_lt_of_cell? _ _ h1,h3⟩⟩
theorem UM {P:Program} {W:World} {name:String} {g:Nat} {cs:Array Value} (hg:P.globalNamed name=some g) (hv:W.var? P name=some cs):∃ty fz,W.heap[g]? =some (.cells cs ty fz):=by
 unfold World.var? at hv;rw [hg,Zz8] at hv
 split at hv
 ·rename_i cs' ty fz hh;obtain rfl:=Zz9 hv;exact ⟨ty,fz,hh⟩
 ·cases hv
def Zrk:List L:=Lib.pow10Tab.map (L.int .u64)
theorem ZcC {H:Type} {enc:TypeId×Value->H} {W:World} {base:Nat} {sp:Nat->Bool} {held:Bool} {fuel:Nat} {t e n:Nat} {cs:Array Value} {q:List MemPlace} (ht:Tryz.prog.underlying t=some (.array n e)) (he:Tryz.prog.underlying e=some (.int .u64)) (hce:Tryz.prog.cellsOf e=1) (hct:Tryz.prog.cellsOf t=n)
  (hg:Tryz.prog.globalNamed "internal/strconv.uint64pow10"=some 5) (hv:W.var? Tryz.prog "internal/strconv.uint64pow10"=some cs) (hd:DataW.trod enc Tryz.prog W base sp held fuel t cs.toList=some (Rows.laid_internal_strconv_uint64pow10,q)):ZjA W (5,Zrk):=by
 have ed:(Rows.laid_internal_strconv_uint64pow10:DataW H)=Lib.tabData .u64 Lib.pow10Tab:=rfl;rw [ed] at hd;have ec:=Lib.cells_of_tab ht he hce hct hd;obtain ⟨ty,fz,hh⟩:=UM hg hv;refine ⟨_,_,_,[],hh, ?_⟩;rw [ec];exact Zjb (by unfold InK;decide)
open Go.RowKit Am
theorem Zrs {N:Nat->Prop} {w:World} {FA:List Nat} {b:Bool}:ZdF true N w FA [.one (.bool b)] [.bool b]:=by
 simp only [ZdF,if_true,ZdY,Zt2,Ow];exact ⟨[],⟨_,[],[],[],rfl,rfl,⟨rfl,rfl⟩,rfl,rfl⟩,List.nodup_nil⟩
theorem Zta {N:Nat->Prop} {w:World} {FA:List Nat} {n:Int} (h:InK .i64 n):ZdF true N w FA [.one (.int .i64 n)] [.int .i64 n]:=by
 simp only [ZdF,if_true,ZdY,Zt2,Ow];exact ⟨[],⟨_,[],[],[],rfl,rfl,⟨rfl,rfl,h⟩,rfl,rfl⟩,List.nodup_nil⟩
theorem Zlz {N:Nat->Prop} {w:World} {FA:List Nat} {n:Int} {b:Bool} (h:InK .i64 n):ZdF true N w FA [.one (.int .i64 n),.one (.bool b)] [.int .i64 n,.bool b]:=by
 simp only [ZdF,if_true,ZdY,Zt2,Ow];exact ⟨[],⟨_,_,[],[],rfl,rfl,⟨rfl,rfl,h⟩,_,_,[],[],rfl,rfl,⟨rfl,rfl⟩,rfl,rfl⟩,List.nodup_nil⟩
theorem Vr (a0 a1:ByteArray) (r:Bool) (hM:Yi a0 a1=some r):Ctr Tryz.prog 292 [.one (.str a0),.one (.str a1)] true [.one (.bool r)]:=by
 obtain rfl:=Zz9 hM;refine ⟨by kernel_rfl,fun w vs FA _ hd=> ?_⟩;obtain ⟨v,u,F1,F2,rfl,rfl,h1,h2⟩:=Zt1 hd;simp only [Zcl,Rp] at h1 h2;obtain ⟨rfl,rfl,_⟩:=h1;obtain ⟨rfl,rfl,_⟩:=h2;refine (Tryz.strings_HasPrefix a0 a1 w).mono ?_;rintro e w' ⟨rfl,rfl⟩;exact ⟨[_],rfl,Zrs,Below.refl _ _⟩
theorem ZnY (c:UInt8):∀l:List UInt8,Lib.indexByte l c<=l.length
 | []=>by simp [Lib.indexByte]
 | b::l=>by
  have h:=ZnY c l;unfold Lib.indexByte
  split
  ·simp;omega
  ·split
   ·simp;omega
   ·simp;omega
theorem Vq (a0:ByteArray) (a1:Int) (r:Int) (hM:Yh a0 a1=some r):Ctr Tryz.prog 291 [.one (.str a0),.one (.int .u8 a1)] true [.one (.int .i64 r)]:=by
 obtain rfl:=Zz9 hM;refine ⟨by kernel_rfl,fun w vs FA _ hd=> ?_⟩;obtain ⟨v,u,F1,F2,rfl,rfl,h1,h2⟩:=Zt1 hd;simp only [Zcl,Rp] at h1 h2;obtain ⟨rfl,rfl,hf⟩:=h1;obtain ⟨rfl,rfl,_⟩:=h2;refine (Tryz.strings_IndexByte a0 a1 w).mono ?_;rintro e w' ⟨rfl,rfl⟩;have k1:=ZnY a1.toNat.toUInt8 a0.data.toList;have k2:=Lib.indexByte_ge a0.data.toList a1.toNat.toUInt8;have k3:a0.data.toList.length=a0.size:=by rw [Array.length_toList];rfl
 unfold Fit at hf;exact ⟨[_],rfl,Zta ((Kd _).2 ⟨by omega,by omega⟩),Below.refl _ _⟩
theorem World.ZiA (w:World) (o:Obj):(w.alloc o).heap[w.heap.size]? =some o:=by
 show (w.heap.push o)[w.heap.size]? =some o;simp
theorem Zsg {l:List UInt8} {s:ByteArray}:(⟨l.toArray⟩:ByteArray)=s↔l=s.toList:=by
 rw [ByteArray.toList_eq];constructor
 ·rintro rfl;simp
 ·intro h;apply ByteArray.ext;simp [h]
theorem ZnB (sep:ByteArray):∀(k:Nat) (s:ByteArray) (x:ByteArray),x∈Lib.splitB sep 0 k s->x.size<=s.size
 | 0,s,x,h=>by simp [Lib.splitB] at h;simp [h]
 | k+1,s,x,h=>by
  unfold Lib.splitB at h
  split at h
  ·simp at h;simp [h]
  ·rcases List.mem_cons.1 h with rfl| h
   ·rw [ByteArray.size_extract];omega
   ·have:=ZnB sep k _ x h;rw [ByteArray.size_extract] at this;omega
theorem ZnL {N:Nat->Prop} {w:World}:∀{ss:List ByteArray},(∀s∈ss,Fit s)->OwE N w (ss.map sC) (ss.map Value.string) []
 | [],_=>by simp [OwE]
 | s::ss,h=>by
  simp only [List.map_cons,sC,OwE,OwL,Ow];exact ⟨[_],_,[],[],rfl,rfl,⟨_,[],[],[],rfl,rfl,⟨rfl,rfl,h s (by simp)⟩,rfl,rfl⟩,ZnL fun y hy=>h y (by simp [hy])⟩
theorem Ja (a0 a1:ByteArray) (r:List ByteArray) (hM:YL a0 a1=some r):Ctr Tryz.prog 220 [.one (.str a0),.one (.str a1)] true [.one (.sl (r.map sC))]:=by
 unfold YL at hM
 split at hM
 ·rename_i hs;have er:=Zz9 hM;refine ⟨by kernel_rfl,fun w vs FA ⟨G,hG⟩ hd=> ?_⟩;obtain ⟨v,u,F1,F2,rfl,rfl,h1,h2⟩:=Zt1 hd;simp only [Zcl,Rp] at h1 h2;obtain ⟨rfl,rfl,_⟩:=h1;obtain ⟨rfl,rfl,_⟩:=h2;obtain ⟨v,hv,_,m,rfl⟩:=hG.2.2 (0,isI) (by simp [Zq9]);refine (Tryz.strings_Split a0 a1 m w hs.1 hv hs.2).mono ?_;rw [er];rintro e w' ⟨rfl,rfl⟩;have hl:r.length=Lib.countB a0 a1+1:=by rw [<-er];exact Lib.splitB_all a1 hs.2 0 _ a0 rfl
  have hc:=Lib.countB_le a1 hs.2 _ a0 (ZAe _);rw [<-hl];refine ⟨[_],rfl, ?_,(Below.refl _ _).alloc (ZAe _) _⟩
  have hz:∀s∈r,Fit s:=fun s h=>by
   rw [<-er] at h;have:=ZnB a1 _ _ s h;unfold Fit;omega
  simp only [ZdF,if_true,ZdY,Zt2,Ow];refine ⟨[w.heap.size],⟨_,[],[w.heap.size],[],rfl,rfl,⟨some ⟨w.heap.size,0,none⟩,r.length,by simp,by omega,.inr ⟨w.heap.size,9,(r.map Value.string).toArray,[],1,rfl,ZAe _,World.ZiA _ _,by simp,by simp,by simp [sC],by simp,rfl, ?_⟩⟩,rfl,rfl⟩,by simp⟩;have:=ZnL (N:=fun b=>w.heap.size<=b) (w:=w.alloc (.cells (r.map Value.string).toArray 9)) hz
  simpa [List.take_of_length_le] using this
 ·cases hM
theorem Zoj {w:World} {G:Nat->Prop} (h:Glb w G) (g:Nat) (hg:(g,isF)∈Zq9):∃ev,w.cell? ⟨g,0,none⟩=some ev/\(ev= .nilIface\/∃te pe,ev= .iface te pe):=by
 obtain ⟨v,h1,_,h2⟩:=h.2.2 _ hg;exact ⟨v,h1,.inr h2⟩
theorem Zjy {l:List UInt8} {n:Int} (h:Lib.atoiAll l= .ok n): -9223372036854775808<=n/\n<=9223372036854775807:=by
 unfold Lib.atoiAll at h
 split at h
 ·cases h
 ·dsimp only at h
  split at h
  ·cases h
  ·cases h
  ·rename_i u _
   split at h
   ·cases h
   ·split at h
    ·cases h
    ·injection h with h
     subst h
     split<;>omega
set_option maxRecDepth 100000 in
set_option maxHeartbeats 4000000 in
theorem ZmE (w:World) (s:ByteArray) (lo hi:Int) (hs:s.size<=281474976710656) {G:Nat->Prop} (hG:Glb w G):
  Calls Tryz.prog 266 #[.string s,.int .i64 lo,.int .i64 hi] w fun e w'=>e= .returned (.tuple #[.int .i64 (Xj s lo hi).1,.bool (Xj s lo hi).2])/\Below w.heap.size w w':=by
 obtain ⟨ev1,v1,v2⟩:=Zoj hG 3 (by simp [Zq9]);obtain ⟨ev2,u1,u2⟩:=Zoj hG 4 (by simp [Zq9]);cases ha:Lib.atoiAll s.data.toList with
 | «syntax» =>
  go_enter Tryz.func266,Tryz.ntmps266
  go_wp2_with fail
  go_at_call 300
  refine (Tryz.strconv_Atoi_syntax s hs ha ev1 w v1 v2).mono ?_;rintro e w1 ⟨N,rfl,_,_,hb⟩
  go_wp2_with fail
  all_goals go_ret2
  all_goals exact ⟨by simp [Xj,ha],hb⟩
 | range=>
  go_enter Tryz.func266,Tryz.ntmps266
  go_wp2_with fail
  go_at_call 300
  refine (Tryz.strconv_Atoi_range s hs ha ev2 w u1 u2).mono ?_;rintro e w1 ⟨N,rfl,_,_,hb⟩
  go_wp2_with fail
  all_goals go_ret2
  all_goals exact ⟨by simp [Xj,ha],hb⟩
 | ok n=>
  have hn:=Zjy ha
  go_enter Tryz.func266,Tryz.ntmps266
  go_wp2_with fail
  go_at_call 300
  refine (Tryz.strconv_Atoi_ok s (by omega) n ha w).mono ?_;rintro e w1 ⟨rfl,hw⟩
  have hb:Below w.heap.size w w1:=by
   rcases hw with rfl| ⟨t,rfl⟩
   ·exact Below.refl _ _
   ·exact Lib.bytesWorld_below _ _ _
  have hG1:Glb w1 G:=hG.keep hb.size fun b hb2=>hb.block b (hG.1 b hb2);clear hw
  by_cases h1:n<lo
  ·have hp:Xj s lo hi=(0,false):=by simp only [Xj,ha];rw [if_neg (by omega)]
   go_wp2_with fail
   all_goals (try (exfalso;simp only [Bool.not_eq_false',decide_eq_true_eq,decide_eq_false_iff_not] at *;omega))
   all_goals go_ret2
   all_goals exact ⟨by rw [hp];rfl,hb⟩
  by_cases h2:hi<n
  ·have hp:Xj s lo hi=(0,false):=by simp only [Xj,ha];rw [if_neg (by omega)]
   go_wp2_with fail
   all_goals (try (exfalso;simp only [Bool.not_eq_false',decide_eq_true_eq,decide_eq_false_iff_not] at *;omega))
   all_goals go_ret2
   all_goals exact ⟨by rw [hp];rfl,hb⟩
  go_wp2_with fail
  go_at_call 301
  refine (Tryz.strconv_Itoa n hn.1 hn.2 w1 (ZtS hG1)).mono ?_;rintro e w2 ⟨rfl,k,os,rfl⟩;have hb2:Below w.heap.size w (Sort.grow (w1.drewN k) os):=hb.trans (Znd.mono hb.size)
  by_cases h3:Lib.itoa n=s.toList
  ·have hp:Xj s lo hi=(n,true):=by simp only [Xj,ha];rw [if_pos ⟨by omega,by omega,Zsg.2 h3⟩]
   go_wp2_with fail
   all_goals (try (exfalso;simp_all;done))
   all_goals go_ret2
   all_goals exact ⟨by rw [hp];rfl,hb2⟩
  ·have hp:Xj s lo hi=(0,false):=by simp only [Xj,ha];rw [if_neg (fun h=>h3 (Zsg.1 h.2.2))]
   go_wp2_with fail
   all_goals (try (exfalso;simp_all;done))
   all_goals go_ret2
   all_goals exact ⟨by rw [hp];rfl,hb2⟩
theorem Zh0 (a0:ByteArray) (a1 a2:Int) (r:Int×Bool) (hM:Zb2 a0 a1 a2=some r):Ctr Tryz.prog 266 [.one (.str a0),.one (.int .i64 a1),.one (.int .i64 a2)] true [.one (.int .i64 r.1),.one (.bool r.2)]:=by
 unfold Zb2 at hM
 split at hM
 ·rename_i hs;obtain rfl:=Zz9 hM;refine ⟨by kernel_rfl,fun w vs FA ⟨G,hG⟩ hd=> ?_⟩;simp only [Yn,Zcl,Rp] at hd;obtain ⟨_,_,F1,_,rfl,rfl,⟨rfl,rfl,_⟩,_,_,F2,_,rfl,rfl,⟨rfl,rfl,_⟩,_,_,F3,_,rfl,rfl,⟨rfl,rfl,_⟩,rfl,rfl⟩:=hd;refine (ZmE w a0 a1 a2 hs hG).mono ?_;rintro e w' ⟨rfl,hb⟩;refine ⟨[_,_],rfl,Zlz ?_,hb⟩;unfold Xj
  split
  ·rename_i n ha
   split
   ·exact (Kd _).2 (Zjy ha)
   ·show IntKind.i64.wrap 0=0;decide
  ·show IntKind.i64.wrap 0=0;decide
 ·cases hM
instance:HC 266 (Ty @Zh0):=⟨Zh0⟩
instance:HC 292 (Ty @Vr):=⟨Vr⟩
instance:HC 291 (Ty @Vq):=⟨Vq⟩
instance:HC 220 (Ty @Ja):=⟨Ja⟩
open Go.RowKit Am
def Zam (a0:Zs) (a1:Int):Option Int:= if (decide ((IntKind.i64.wrap (a1-(a0.name.size:Int)))<0)) then some (-1) else if (decide ((IntKind.i64.wrap ((IntKind.i64.wrap (a1-(a0.name.size:Int)))-(a0.code.size:Int)))<0)) then some (-1) else some (IntKind.i64.wrap ((IntKind.i64.wrap (a1-(a0.name.size:Int)))-(a0.code.size:Int)))
def Va (a0:List Zs):Nat->Int->Int->Option (Int ⊕ Int) | 0,_,_=>none | n_+1,x2,x3=> if (decide (x3<(a0.length:Int))) then (at? a0 x3).bind fun x4=> (Zam x4 x2).bind fun x5=> if (decide (x5<0)) then some (.inr (-1)) else Va a0 n_ x5 (IntKind.i64.wrap (x3+1)) else some (.inl x2)
def Zbr (k:Nat) (a0:List Zs) (a1:Int):Option Int:= if (decide ((IntKind.i64.wrap (a1-(a0.length:Int)))<0)) then some (-1) else (Va a0 k (IntKind.i64.wrap (a1-(a0.length:Int))) 0:Option (Int ⊕ Int)).bind fun | .inl x1=>( some x1) | .inr z6=>( some z6)
def Us (k:Nat) (a0:Zh) (a1:Int):Option Int:= (Zbr k a0.cells a1).bind fun x1=> if (decide (x1<0)) then some (-1) else some x1
def Zal (a0:ZD) (a1:Int):Option Int:= if (decide ((IntKind.i64.wrap (a1-(a0.name.size:Int)))<0)) then some (-1) else some (IntKind.i64.wrap (a1-(a0.name.size:Int)))
def W8 (a0:List ZD):Nat->Int->Int->Option (Int ⊕ Int) | 0,_,_=>none | n_+1,x2,x3=> if (decide (x3<(a0.length:Int))) then (at? a0 x3).bind fun x4=> (Zal x4 x2).bind fun x5=> if (decide (x5<0)) then some (.inr (-1)) else W8 a0 n_ x5 (IntKind.i64.wrap (x3+1)) else some (.inl x2)
def Zbq (k:Nat) (a0:List ZD) (a1:Int):Option Int:= if (decide ((IntKind.i64.wrap (a1-(a0.length:Int)))<0)) then some (-1) else (W8 a0 k (IntKind.i64.wrap (a1-(a0.length:Int))) 0:Option (Int ⊕ Int)).bind fun | .inl x1=>( some x1) | .inr z6=>( some z6)
def Zbl (k:Nat) (a0:Z3) (a1:Int):Option Int:= (Zbq k a0.files a1).bind fun x1=> if (decide (x1<0)) then some (-1) else some x1
def XK (a0:List ByteArray):Nat->Int->Int->Option (Int ⊕ Int) | 0,_,_=>none | n_+1,x2,x3=> if (decide (x3<(a0.length:Int))) then (at? a0 x3).bind fun x4=> if (decide ((IntKind.i64.wrap (x2-(x4.size:Int)))<0)) then some (.inr (-1)) else XK a0 n_ (IntKind.i64.wrap (x2-(x4.size:Int))) (IntKind.i64.wrap (x3+1)) else some (.inl x2)
def Jd (k:Nat) (a0:List ByteArray) (a1:Int):Option Int:= if (decide ((IntKind.i64.wrap (a1-(a0.length:Int)))<0)) then some (-1) else (XK a0 k (IntKind.i64.wrap (a1-(a0.length:Int))) 0:Option (Int ⊕ Int)).bind fun | .inl x1=>( some x1) | .inr z5=>( some z5)
def Zcx (a0:List Int) (a1:Int):Option Int:= if (decide ((IntKind.i64.wrap (a1-(a0.length:Int)))<0)) then some (-1) else some (IntKind.i64.wrap (a1-(a0.length:Int)))
def Je (a0:List Zl) (a1:Int):Option Int:= if (decide ((IntKind.i64.wrap (a1-(a0.length:Int)))<0)) then some (-1) else some (IntKind.i64.wrap (a1-(a0.length:Int)))
def ZdC (a0:ZM) (a1:Int):Option Int:= (Zcx a0.cells a1).bind fun x1=> if (decide (x1<0)) then some (-1) else (Je a0.from_ x1).bind fun x2=> if (decide (x2<0)) then some (-1) else some x2
def VQ (a0:List ZM):Nat->Int->Int->Option (Int ⊕ Int) | 0,_,_=>none | n_+1,x2,x3=> if (decide (x3<(a0.length:Int))) then (at? a0 x3).bind fun x4=> (ZdC x4 x2).bind fun x5=> if (decide (x5<0)) then some (.inr (-1)) else VQ a0 n_ x5 (IntKind.i64.wrap (x3+1)) else some (.inl x2)
def Zem (k:Nat) (a0:List ZM) (a1:Int):Option Int:= if (decide ((IntKind.i64.wrap (a1-(a0.length:Int)))<0)) then some (-1) else (VQ a0 k (IntKind.i64.wrap (a1-(a0.length:Int))) 0:Option (Int ⊕ Int)).bind fun | .inl x1=>( some x1) | .inr z6=>( some z6)
def Wn (rec_w_szValue:Za->Int->Option Int) (a0:List Za):Nat->Int->Int->Option (Int ⊕ Int) | 0,_,_=>none | n_+1,x2,x3=> if (decide (x3<(a0.length:Int))) then (at? a0 x3).bind fun x4=> (rec_w_szValue x4 x2).bind fun x5=> if (decide (x5<0)) then some (.inr (-1)) else Wn rec_w_szValue a0 n_ x5 (IntKind.i64.wrap (x3+1)) else some (.inl x2)
mutual
def UW:Nat->(List Za)->Int->Option Int | 0,_,_=>none | k+1,a0,a1=> if (decide ((IntKind.i64.wrap (a1-(a0.length:Int)))<0)) then some (-1) else (Wn (Q1 k) a0 k (IntKind.i64.wrap (a1-(a0.length:Int))) 0:Option (Int ⊕ Int)).bind fun | .inl x1=>( some x1) | .inr z6=>( some z6)
def Q1:Nat->Za->Int->Option Int | 0,_,_=>none | k+1,a0,a1=> if (decide ((IntKind.i64.wrap (a1-(a0.text.size:Int)))<0)) then some (-1) else (UW k a0.list (IntKind.i64.wrap (a1-(a0.text.size:Int)))).bind fun x1=> if (decide (x1<0)) then some (-1) else (Jd k a0.columns x1).bind fun x2=> if (decide (x2<0)) then some (-1) else (Zem k a0.rows x2).bind fun x3=> if (decide (x3<0)) then some (-1) else some x3
end
def Zcw (k:Nat) (a0:ZQ) (a1:Int):Option Int:= if (decide ((IntKind.i64.wrap (a1-(a0.text.size:Int)))<0)) then some (-1) else (Q1 k a0.result (IntKind.i64.wrap (a1-(a0.text.size:Int)))).bind fun x1=> if (decide (x1<0)) then some (-1) else some x1
open Go.RowKit Am
def W7 (k:Nat) (a0:List ZQ):Nat->Int->Int->Option (Int ⊕ Int) | 0,_,_=>none | n_+1,x2,x3=> if (decide (x3<(a0.length:Int))) then (at? a0 x3).bind fun x4=> (Zcw k x4 x2).bind fun x5=> if (decide (x5<0)) then some (.inr (-1)) else W7 k a0 n_ x5 (IntKind.i64.wrap (x3+1)) else some (.inl x2)
def Zbo (k:Nat) (a0:List ZQ) (a1:Int):Option Int:= if (decide ((IntKind.i64.wrap (a1-(a0.length:Int)))<0)) then some (-1) else (W7 k a0 k (IntKind.i64.wrap (a1-(a0.length:Int))) 0:Option (Int ⊕ Int)).bind fun | .inl x1=>( some x1) | .inr z6=>( some z6)
def Zcv (k:Nat) (a0:ZC) (a1:Int):Option Int:= (Zbo k a0.reads a1).bind fun x1=> if (decide (x1<0)) then some (-1) else some x1
def W6 (k:Nat) (a0:List ZC):Nat->Int->Int->Option (Int ⊕ Int) | 0,_,_=>none | n_+1,x2,x3=> if (decide (x3<(a0.length:Int))) then (at? a0 x3).bind fun x4=> (Zcv k x4 x2).bind fun x5=> if (decide (x5<0)) then some (.inr (-1)) else W6 k a0 n_ x5 (IntKind.i64.wrap (x3+1)) else some (.inl x2)
def Zbm (k:Nat) (a0:List ZC) (a1:Int):Option Int:= if (decide ((IntKind.i64.wrap (a1-(a0.length:Int)))<0)) then some (-1) else (W6 k a0 k (IntKind.i64.wrap (a1-(a0.length:Int))) 0:Option (Int ⊕ Int)).bind fun | .inl x1=>( some x1) | .inr z6=>( some z6)
def Kj (k:Nat) (a0:Zm) (a1:Int):Option Int:= (Zcx a0.inputs a1).bind fun x1=> if (decide (x1<0)) then some (-1) else (Q1 k a0.value x1).bind fun x2=> if (decide (x2<0)) then some (-1) else some x2
def Wo (k:Nat) (a0:List Zm):Nat->Int->Int->Option (Int ⊕ Int) | 0,_,_=>none | n_+1,x2,x3=> if (decide (x3<(a0.length:Int))) then (at? a0 x3).bind fun x4=> (Kj k x4 x2).bind fun x5=> if (decide (x5<0)) then some (.inr (-1)) else Wo k a0 n_ x5 (IntKind.i64.wrap (x3+1)) else some (.inl x2)
def Ki (k:Nat) (a0:List Zm) (a1:Int):Option Int:= if (decide ((IntKind.i64.wrap (a1-(a0.length:Int)))<0)) then some (-1) else (Wo k a0 k (IntKind.i64.wrap (a1-(a0.length:Int))) 0:Option (Int ⊕ Int)).bind fun | .inl x1=>( some x1) | .inr z6=>( some z6)
def W9 (k:Nat) (a0:Ze) (a1:Int):Option Int:= (Us k a0.notebook a1).bind fun x1=> if (decide (x1<0)) then some (-1) else (Zbl k a0.world x1).bind fun x2=> if (decide (x2<0)) then some (-1) else (Zbm k a0.tapes x2).bind fun x3=> if (decide (x3<0)) then some (-1) else (Ki k a0.entries x3).bind fun x4=> if (decide (x4<0)) then some (-1) else some x4
def Zak (a0:Zs):Option Zs:= some a0
def W5 (a0:List Zs):Nat->(List Zs)->Int->Option (List Zs) | 0,_,_=>none | n_+1,x3,x4=> if (decide (x4<(a0.length:Int))) then (at? a0 x4).bind fun x5=> (Zak x5).bind fun x6=> (at? x3 x4).bind fun x7=> W5 a0 n_ (x3.set x4.toNat x6) (IntKind.i64.wrap (x4+1)) else some x3
def Zbk (k:Nat) (a0:List Zs):Option (List Zs):= (mk? 64 (a0.length:Int)).bind fun x1=> (W5 a0 k (List.replicate x1 (Zs.mk 0 0 0 (⟨#[]⟩:ByteArray) (⟨#[]⟩:ByteArray) 0)) 0).bind fun x2=> some x2
def Ur (k:Nat) (a0:Zh):Option Zh:= (Zbk k a0.cells).bind fun x1=> some (Zh.mk x1)
def Zaj (a0:ZD):Option ZD:= some a0
def W4 (a0:List ZD):Nat->(List ZD)->Int->Option (List ZD) | 0,_,_=>none | n_+1,x3,x4=> if (decide (x4<(a0.length:Int))) then (at? a0 x4).bind fun x5=> (Zaj x5).bind fun x6=> (at? x3 x4).bind fun x7=> W4 a0 n_ (x3.set x4.toNat x6) (IntKind.i64.wrap (x4+1)) else some x3
def Zbj (k:Nat) (a0:List ZD):Option (List ZD):= (mk? 24 (a0.length:Int)).bind fun x1=> (W4 a0 k (List.replicate x1 (ZD.mk (⟨#[]⟩:ByteArray) 0)) 0).bind fun x2=> some x2
def Zbe (k:Nat) (a0:Z3):Option Z3:= (Zbj k a0.files).bind fun x1=> some (Z3.mk a0.clock a0.seed x1)
def XI (a0:List ByteArray):Nat->(List ByteArray)->Int->Option (List ByteArray) | 0,_,_=>none | n_+1,x3,x4=> if (decide (x4<(a0.length:Int))) then (at? a0 x4).bind fun x5=> (at? x3 x4).bind fun x6=> XI a0 n_ (x3.set x4.toNat x5) (IntKind.i64.wrap (x4+1)) else some x3
def Jb (k:Nat) (a0:List ByteArray):Option (List ByteArray):= (mk? 16 (a0.length:Int)).bind fun x1=> (XI a0 k (List.replicate x1 (⟨#[]⟩:ByteArray)) 0).bind fun x2=> some x2
def VP (a0:List Int):Nat->(List Int)->Int->Option (List Int) | 0,_,_=>none | n_+1,x3,x4=> if (decide (x4<(a0.length:Int))) then (at? a0 x4).bind fun x5=> (at? x3 x4).bind fun x6=> VP a0 n_ (x3.set x4.toNat x5) (IntKind.i64.wrap (x4+1)) else some x3
def Zcu (k:Nat) (a0:List Int):Option (List Int):= (mk? 8 (a0.length:Int)).bind fun x1=> (VP a0 k (List.replicate x1 0) 0).bind fun x2=> some x2
open Go.RowKit Am
def VO (a0:Zl):Option Zl:= some a0
def XJ (a0:List Zl):Nat->(List Zl)->Int->Option (List Zl) | 0,_,_=>none | n_+1,x3,x4=> if (decide (x4<(a0.length:Int))) then (at? a0 x4).bind fun x5=> (VO x5).bind fun x6=> (at? x3 x4).bind fun x7=> XJ a0 n_ (x3.set x4.toNat x6) (IntKind.i64.wrap (x4+1)) else some x3
def Jc (k:Nat) (a0:List Zl):Option (List Zl):= (mk? 16 (a0.length:Int)).bind fun x1=> (XJ a0 k (List.replicate x1 (Zl.mk 0 0)) 0).bind fun x2=> some x2
def ZfF (k:Nat) (a0:ZM):Option ZM:= (Zcu k a0.cells).bind fun x1=> (Jc k a0.from_).bind fun x2=> some (ZM.mk x1 x2)
def VN (k:Nat) (a0:List ZM):Nat->(List ZM)->Int->Option (List ZM) | 0,_,_=>none | n_+1,x3,x4=> if (decide (x4<(a0.length:Int))) then (at? a0 x4).bind fun x5=> (ZfF k x5).bind fun x6=> (at? x3 x4).bind fun x7=> VN k a0 n_ (x3.set x4.toNat x6) (IntKind.i64.wrap (x4+1)) else some x3
def Zed (k:Nat) (a0:List ZM):Option (List ZM):= (mk? 48 (a0.length:Int)).bind fun x1=> (VN k a0 k (List.replicate x1 (ZM.mk [] [])) 0).bind fun x2=> some x2
def Wl (rec_w_toValue:Za->Option Za) (a0:List Za):Nat->(List Za)->Int->Option (List Za) | 0,_,_=>none | n_+1,x3,x4=> if (decide (x4<(a0.length:Int))) then (at? a0 x4).bind fun x5=> (rec_w_toValue x5).bind fun x6=> (at? x3 x4).bind fun x7=> Wl rec_w_toValue a0 n_ (x3.set x4.toNat x6) (IntKind.i64.wrap (x4+1)) else some x3
mutual
def UU:Nat->(List Za)->Option (List Za) | 0,_=>none | k+1,a0=> (mk? 112 (a0.length:Int)).bind fun x1=> (Wl (Q0 k) a0 k (List.replicate x1 (Za.mk 0 0 0 (⟨#[]⟩:ByteArray) [] [] [])) 0).bind fun x2=> some x2
def Q0:Nat->Za->Option Za | 0,_=>none | k+1,a0=> (UU k a0.list).bind fun x1=> (Jb k a0.columns).bind fun x2=> (Zed k a0.rows).bind fun x3=> some (Za.mk a0.kind a0.n a0.step a0.text x1 x2 x3)
end
def Zct (k:Nat) (a0:ZQ):Option ZQ:= (Q0 k a0.result).bind fun x1=> some (ZQ.mk a0.kind a0.n a0.time a0.text x1)
def W3 (k:Nat) (a0:List ZQ):Nat->(List ZQ)->Int->Option (List ZQ) | 0,_,_=>none | n_+1,x3,x4=> if (decide (x4<(a0.length:Int))) then (at? a0 x4).bind fun x5=> (Zct k x5).bind fun x6=> (at? x3 x4).bind fun x7=> W3 k a0 n_ (x3.set x4.toNat x6) (IntKind.i64.wrap (x4+1)) else some x3
def Zbh (k:Nat) (a0:List ZQ):Option (List ZQ):= (mk? 152 (a0.length:Int)).bind fun x1=> (W3 k a0 k (List.replicate x1 (ZQ.mk 0 0 0 (⟨#[]⟩:ByteArray) (Za.mk 0 0 0 (⟨#[]⟩:ByteArray) [] [] []))) 0).bind fun x2=> some x2
def Zcs (k:Nat) (a0:ZC):Option ZC:= (Zbh k a0.reads).bind fun x1=> some (ZC.mk a0.cell a0.version x1)
def W1 (k:Nat) (a0:List ZC):Nat->(List ZC)->Int->Option (List ZC) | 0,_,_=>none | n_+1,x3,x4=> if (decide (x4<(a0.length:Int))) then (at? a0 x4).bind fun x5=> (Zcs k x5).bind fun x6=> (at? x3 x4).bind fun x7=> W1 k a0 n_ (x3.set x4.toNat x6) (IntKind.i64.wrap (x4+1)) else some x3
def Zbf (k:Nat) (a0:List ZC):Option (List ZC):= (mk? 40 (a0.length:Int)).bind fun x1=> (W1 k a0 k (List.replicate x1 (ZC.mk 0 0 [])) 0).bind fun x2=> some x2
def Kh (k:Nat) (a0:Zm):Option Zm:= (Zcu k a0.inputs).bind fun x1=> (Q0 k a0.value).bind fun x2=> some (Zm.mk a0.cell a0.version a0.stamp x1 x2 a0.has)
def Wm (k:Nat) (a0:List Zm):Nat->(List Zm)->Int->Option (List Zm) | 0,_,_=>none | n_+1,x3,x4=> if (decide (x4<(a0.length:Int))) then (at? a0 x4).bind fun x5=> (Kh k x5).bind fun x6=> (at? x3 x4).bind fun x7=> Wm k a0 n_ (x3.set x4.toNat x6) (IntKind.i64.wrap (x4+1)) else some x3
def Kg (k:Nat) (a0:List Zm):Option (List Zm):= (mk? 168 (a0.length:Int)).bind fun x1=> (Wm k a0 k (List.replicate x1 (Zm.mk 0 0 0 [] (Za.mk 0 0 0 (⟨#[]⟩:ByteArray) [] [] []) false)) 0).bind fun x2=> some x2
def Ys (k:Nat) (a0:Ze):Option Ze:= (Ur k a0.notebook).bind fun x1=> (Zbe k a0.world).bind fun x2=> (Zbf k a0.tapes).bind fun x3=> (Kg k a0.entries).bind fun x4=> some (Ze.mk x1 x2 x3 x4 a0.next a0.limit a0.work)
def Zao (a0:Zs) (a1:Zs):Option Bool:= if (!decide (a0.id=a1.id)) then some false else if (!decide (a0.version=a1.version)) then some false else if (!decide (a0.kind=a1.kind)) then some false else if (!decide (a0.name=a1.name)) then some false else if (!decide (a0.code=a1.code)) then some false else if (!decide (a0.n=a1.n)) then some false else some true
open Go.RowKit Am
def Vf (a0:List Zs) (a1:List Zs):Nat->Int->Option (Unit ⊕ Bool) | 0,_=>none | n_+1,x1=> if (decide (x1<(a0.length:Int))) then (at? a0 x1).bind fun x2=> (at? a1 x1).bind fun x3=> (Zao x2 x3).bind fun x4=> if (!x4) then some (.inr false) else Vf a0 a1 n_ (IntKind.i64.wrap (x1+1)) else some (.inl ())
def Zby (k:Nat) (a0:List Zs) (a1:List Zs):Option Bool:= if (!decide ((a0.length:Int)=(a1.length:Int))) then some false else (Vf a0 a1 k 0:Option (Unit ⊕ Bool)).bind fun | .inl _=>( some true) | .inr z5=>( some z5)
def Ut (k:Nat) (a0:Zh) (a1:Zh):Option Bool:= (Zby k a0.cells a1.cells).bind fun x1=> if (!x1) then some false else some true
def Zan (a0:ZD) (a1:ZD):Option Bool:= if (!decide (a0.name=a1.name)) then some false else if (!decide (a0.n=a1.n)) then some false else some true
def Vd (a0:List ZD) (a1:List ZD):Nat->Int->Option (Unit ⊕ Bool) | 0,_=>none | n_+1,x1=> if (decide (x1<(a0.length:Int))) then (at? a0 x1).bind fun x2=> (at? a1 x1).bind fun x3=> (Zan x2 x3).bind fun x4=> if (!x4) then some (.inr false) else Vd a0 a1 n_ (IntKind.i64.wrap (x1+1)) else some (.inl ())
def Zbx (k:Nat) (a0:List ZD) (a1:List ZD):Option Bool:= if (!decide ((a0.length:Int)=(a1.length:Int))) then some false else (Vd a0 a1 k 0:Option (Unit ⊕ Bool)).bind fun | .inl _=>( some true) | .inr z5=>( some z5)
def Zbs (k:Nat) (a0:Z3) (a1:Z3):Option Bool:= if (!decide (a0.clock=a1.clock)) then some false else if (!decide (a0.seed=a1.seed)) then some false else (Zbx k a0.files a1.files).bind fun x1=> if (!x1) then some false else some true
def XL (a0:List ByteArray) (a1:List ByteArray):Nat->Int->Option (Unit ⊕ Bool) | 0,_=>none | n_+1,x1=> if (decide (x1<(a0.length:Int))) then (at? a0 x1).bind fun x2=> (at? a1 x1).bind fun x3=> if (!decide (x2=x3)) then some (.inr false) else XL a0 a1 n_ (IntKind.i64.wrap (x1+1)) else some (.inl ())
def Jf (k:Nat) (a0:List ByteArray) (a1:List ByteArray):Option Bool:= if (!decide ((a0.length:Int)=(a1.length:Int))) then some false else (XL a0 a1 k 0:Option (Unit ⊕ Bool)).bind fun | .inl _=>( some true) | .inr z4=>( some z4)
def VT (a0:List Int) (a1:List Int):Nat->Int->Option (Unit ⊕ Bool) | 0,_=>none | n_+1,x1=> if (decide (x1<(a0.length:Int))) then (at? a0 x1).bind fun x2=> (at? a1 x1).bind fun x3=> if (!decide (x2=x3)) then some (.inr false) else VT a0 a1 n_ (IntKind.i64.wrap (x1+1)) else some (.inl ())
def ZcA (k:Nat) (a0:List Int) (a1:List Int):Option Bool:= if (!decide ((a0.length:Int)=(a1.length:Int))) then some false else (VT a0 a1 k 0:Option (Unit ⊕ Bool)).bind fun | .inl _=>( some true) | .inr z4=>( some z4)
def VS (a0:Zl) (a1:Zl):Option Bool:= if (!decide (a0.cell=a1.cell)) then some false else if (!decide (a0.row=a1.row)) then some false else some true
def XM (a0:List Zl) (a1:List Zl):Nat->Int->Option (Unit ⊕ Bool) | 0,_=>none | n_+1,x1=> if (decide (x1<(a0.length:Int))) then (at? a0 x1).bind fun x2=> (at? a1 x1).bind fun x3=> (VS x2 x3).bind fun x4=> if (!x4) then some (.inr false) else XM a0 a1 n_ (IntKind.i64.wrap (x1+1)) else some (.inl ())
def Jg (k:Nat) (a0:List Zl) (a1:List Zl):Option Bool:= if (!decide ((a0.length:Int)=(a1.length:Int))) then some false else (XM a0 a1 k 0:Option (Unit ⊕ Bool)).bind fun | .inl _=>( some true) | .inr z5=>( some z5)
def ZfG (k:Nat) (a0:ZM) (a1:ZM):Option Bool:= (ZcA k a0.cells a1.cells).bind fun x1=> if (!x1) then some false else (Jg k a0.from_ a1.from_).bind fun x2=> if (!x2) then some false else some true
def VR (k:Nat) (a0:List ZM) (a1:List ZM):Nat->Int->Option (Unit ⊕ Bool) | 0,_=>none | n_+1,x1=> if (decide (x1<(a0.length:Int))) then (at? a0 x1).bind fun x2=> (at? a1 x1).bind fun x3=> (ZfG k x2 x3).bind fun x4=> if (!x4) then some (.inr false) else VR k a0 a1 n_ (IntKind.i64.wrap (x1+1)) else some (.inl ())
def Zev (k:Nat) (a0:List ZM) (a1:List ZM):Option Bool:= if (!decide ((a0.length:Int)=(a1.length:Int))) then some false else (VR k a0 a1 k 0:Option (Unit ⊕ Bool)).bind fun | .inl _=>( some true) | .inr z5=>( some z5)
def Wp (rec_w_eqValue:Za->Za->Option Bool) (a0:List Za) (a1:List Za):Nat->Int->Option (Unit ⊕ Bool) | 0,_=>none | n_+1,x1=> if (decide (x1<(a0.length:Int))) then (at? a0 x1).bind fun x2=> (at? a1 x1).bind fun x3=> (rec_w_eqValue x2 x3).bind fun x4=> if (!x4) then some (.inr false) else Wp rec_w_eqValue a0 a1 n_ (IntKind.i64.wrap (x1+1)) else some (.inl ())
mutual
def UX:Nat->(List Za)->(List Za)->Option Bool | 0,_,_=>none | k+1,a0,a1=> if (!decide ((a0.length:Int)=(a1.length:Int))) then some false else (Wp (Q2 k) a0 a1 k 0:Option (Unit ⊕ Bool)).bind fun | .inl _=>( some true) | .inr z5=>( some z5)
def Q2:Nat->Za->Za->Option Bool | 0,_,_=>none | k+1,a0,a1=> if (!decide (a0.kind=a1.kind)) then some false else if (!decide (a0.n=a1.n)) then some false else if (!decide (a0.step=a1.step)) then some false else if (!decide (a0.text=a1.text)) then some false else (UX k a0.list a1.list).bind fun x1=> if (!x1) then some false else (Jf k a0.columns a1.columns).bind fun x2=> if (!x2) then some false else (Zev k a0.rows a1.rows).bind fun x3=> if (!x3) then some false else some true
end
def Zcz (k:Nat) (a0:ZQ) (a1:ZQ):Option Bool:= if (!decide (a0.kind=a1.kind)) then some false else if (!decide (a0.n=a1.n)) then some false else if (!decide (a0.time=a1.time)) then some false else if (!decide (a0.text=a1.text)) then some false else (Q2 k a0.result a1.result).bind fun x1=> if (!x1) then some false else some true
open Go.RowKit Am
def Vc (k:Nat) (a0:List ZQ) (a1:List ZQ):Nat->Int->Option (Unit ⊕ Bool) | 0,_=>none | n_+1,x1=> if (decide (x1<(a0.length:Int))) then (at? a0 x1).bind fun x2=> (at? a1 x1).bind fun x3=> (Zcz k x2 x3).bind fun x4=> if (!x4) then some (.inr false) else Vc k a0 a1 n_ (IntKind.i64.wrap (x1+1)) else some (.inl ())
def Zbv (k:Nat) (a0:List ZQ) (a1:List ZQ):Option Bool:= if (!decide ((a0.length:Int)=(a1.length:Int))) then some false else (Vc k a0 a1 k 0:Option (Unit ⊕ Bool)).bind fun | .inl _=>( some true) | .inr z5=>( some z5)
def Zcy (k:Nat) (a0:ZC) (a1:ZC):Option Bool:= if (!decide (a0.cell=a1.cell)) then some false else if (!decide (a0.version=a1.version)) then some false else (Zbv k a0.reads a1.reads).bind fun x1=> if (!x1) then some false else some true
def Vb (k:Nat) (a0:List ZC) (a1:List ZC):Nat->Int->Option (Unit ⊕ Bool) | 0,_=>none | n_+1,x1=> if (decide (x1<(a0.length:Int))) then (at? a0 x1).bind fun x2=> (at? a1 x1).bind fun x3=> (Zcy k x2 x3).bind fun x4=> if (!x4) then some (.inr false) else Vb k a0 a1 n_ (IntKind.i64.wrap (x1+1)) else some (.inl ())
def Zbt (k:Nat) (a0:List ZC) (a1:List ZC):Option Bool:= if (!decide ((a0.length:Int)=(a1.length:Int))) then some false else (Vb k a0 a1 k 0:Option (Unit ⊕ Bool)).bind fun | .inl _=>( some true) | .inr z5=>( some z5)
def Kl (k:Nat) (a0:Zm) (a1:Zm):Option Bool:= if (!decide (a0.cell=a1.cell)) then some false else if (!decide (a0.version=a1.version)) then some false else if (!decide (a0.stamp=a1.stamp)) then some false else (ZcA k a0.inputs a1.inputs).bind fun x1=> if (!x1) then some false else (Q2 k a0.value a1.value).bind fun x2=> if (!x2) then some false else if (!(a0.has==a1.has)) then some false else some true
def Wq (k:Nat) (a0:List Zm) (a1:List Zm):Nat->Int->Option (Unit ⊕ Bool) | 0,_=>none | n_+1,x1=> if (decide (x1<(a0.length:Int))) then (at? a0 x1).bind fun x2=> (at? a1 x1).bind fun x3=> (Kl k x2 x3).bind fun x4=> if (!x4) then some (.inr false) else Wq k a0 a1 n_ (IntKind.i64.wrap (x1+1)) else some (.inl ())
def Kk (k:Nat) (a0:List Zm) (a1:List Zm):Option Bool:= if (!decide ((a0.length:Int)=(a1.length:Int))) then some false else (Wq k a0 a1 k 0:Option (Unit ⊕ Bool)).bind fun | .inl _=>( some true) | .inr z5=>( some z5)
def Ve (k:Nat) (a0:Ze) (a1:Ze):Option Bool:= (Ut k a0.notebook a1.notebook).bind fun x1=> if (!x1) then some false else (Zbs k a0.world a1.world).bind fun x2=> if (!x2) then some false else (Zbt k a0.tapes a1.tapes).bind fun x3=> if (!x3) then some false else (Kk k a0.entries a1.entries).bind fun x4=> if (!x4) then some false else if (!decide (a0.next=a1.next)) then some false else if (!decide (a0.limit=a1.limit)) then some false else if (!decide (a0.work=a1.work)) then some false else some true
open Go.RowKit Am
def Zs.bk (x:Zs):Nat:=x.name.size+(x.code.size+(0))
theorem Zs.ZB (x:Zs):x.bk=x.name.size+(x.code.size+(0)):=rfl
theorem Zk8 (x:Zs) (hf:Zbb x.c):∀left:Int,0<=left->left<=1048576->Zam x left=some (szR (x.bk) left):=by
 have hf':=hf;rw [Zs.Qr] at hf';simp only [Zbb] at hf';obtain ⟨f0,f1,f2,f3,f4,f5,_⟩:=hf';intro left l0 l1;rw [Zs.ZB];unfold Zam;rcases Zlj (b:=x.name.size) l0 l1 (Zga f3) with ⟨z0,e0,g0,q0,p0,r0⟩| ⟨g0,q0⟩
 rotate_left
 ·rw [if_pos g0];exact Q4 (by omega)
 rw [e0,if_neg g0];rcases Zlj (b:=x.code.size) p0 r0 (Zga f4) with ⟨z1,e1,g1,q1,p1,r1⟩| ⟨g1,q1⟩
 rotate_left
 ·rw [if_pos g1];exact Q4 (by omega)
 rw [e1,if_neg g1];exact J5 p1 (by omega)
theorem Zk3 (x:Zs) (hb:x.bk<=1048576):Zak x=some x:=by
 unfold Zak
 all_goals (first | rfl| (cases x;rfl))
theorem Zld (x:Zs) (hb:x.bk<=1073741824):Zao x x=some true:=by
 unfold Zao;simp []
theorem ZjO (xs:List Zs) (hf:DOk (.sl (xs.map Zs.c))):Ev fun k=>∀left:Int,0<=left->left<=1048576->Zbr k xs left=some (szR (bkS Zs.bk xs) left):=by
 have hx:∀x∈xs,∀left:Int,0<=left->left<=1048576->Zam x left=some (szR (Zs.bk x) left):=fun x hm=>Zk8 x ((VM hf).2 x hm);refine (Ev.ge (xs.length+1)).mono fun k hk=> ?_;intro left l0 l1;unfold Zbr;refine JQ Zs.bk xs (Zam) (Va xs) k (fun x hm l p q=> ?_) (fun n l i=>by rw [Va]) (by omega) (VM hf).1 left l0 l1;rw [hx x hm l p q,Zz8];have:=ZbB (b:=Zs.bk x) (b2:=0) (F:=fun z=>some z) p fun z pz _=>J6 pz;exact this
theorem ZjI (xs:List Zs) (hb:bkS Zs.bk xs<=1048576):Ev fun k=>Zbk k xs=some xs:=by
 have hx:∀x∈xs,Zak x=some x:=fun x hm=>Zk3 x (by have:=Yl (f:=Zs.bk) hm;omega);refine (Ev.ge (xs.length+1)).mono fun k hk=> ?_;unfold Zbk;exact Ul _ (by omega) _ xs (Zak) (W5 xs) k (fun x hm=>hx x hm) (fun n out i=>by rw [W5]) (by omega) (by have:=ZL (f:=Zs.bk) (xs:=xs);omega)
theorem ZjU (xs:List Zs) (hb:bkS Zs.bk xs<=1073741824):Ev fun k=>Zby k xs xs=some true:=by
 have hx:∀x∈xs,Zao x x=some true:=fun x hm=>Zld x (by have:=Yl (f:=Zs.bk) hm;omega);refine (Ev.ge (xs.length+1)).mono fun k hk=> ?_;unfold Zby;exact Uq xs (Zao) (Vf xs xs) k (fun x hm=>hx x hm) (fun n i=>by rw [Vf]) (by omega) (by have:=ZL (f:=Zs.bk) (xs:=xs);omega)
def Zh.bk (x:Zh):Nat:=bkS Zs.bk x.cells+(0)
theorem Zh.ZB (x:Zh):x.bk=bkS Zs.bk x.cells+(0):=rfl
theorem ZgW (x:Zh) (hf:Zbb x.c):Ev fun k=>∀left:Int,0<=left->left<=1048576->Us k x left=some (szR (x.bk) left):=by
 have hf':=hf;rw [Zh.Qr] at hf';simp only [Zbb] at hf';obtain ⟨f0,_⟩:=hf';refine (ZjO x.cells f0).mono ?_;rintro k h0;intro left l0 l1;rw [Zh.ZB];unfold Us;rw [h0 left l0 l1,Zz8];rcases Q5 (b:=bkS Zs.bk x.cells) l1 with ⟨z0,e0,g0,q0,p0,r0⟩| ⟨e0,q0⟩
 rotate_left
 ·rw [e0,if_pos (by decide)];exact Q4 (by omega)
 rw [e0,if_neg g0];exact J5 p0 (by omega)
theorem ZgV (x:Zh) (hb:x.bk<=1048576):Ev fun k=>Ur k x=some x:=by
 refine (ZjI x.cells (by have:=Zh.ZB x;omega)).mono ?_;rintro k h0;unfold Ur;rw [h0,Zz8]
 all_goals (first | rfl| (cases x;rfl))
theorem ZgX (x:Zh) (hb:x.bk<=1073741824):Ev fun k=>Ut k x x=some true:=by
 refine (ZjU x.cells (by have:=Zh.ZB x;omega)).mono ?_;rintro k h0;unfold Ut;simp [h0]
def ZD.bk (x:ZD):Nat:=x.name.size+(0)
theorem ZD.ZB (x:ZD):x.bk=x.name.size+(0):=rfl
theorem Zk7 (x:ZD) (hf:Zbb x.c):∀left:Int,0<=left->left<=1048576->Zal x left=some (szR (x.bk) left):=by
 have hf':=hf;rw [ZD.Qr] at hf';simp only [Zbb] at hf';obtain ⟨f0,f1,_⟩:=hf';intro left l0 l1;rw [ZD.ZB];unfold Zal;rcases Zlj (b:=x.name.size) l0 l1 (Zga f0) with ⟨z0,e0,g0,q0,p0,r0⟩| ⟨g0,q0⟩
 rotate_left
 ·rw [if_pos g0];exact Q4 (by omega)
 rw [e0,if_neg g0];exact J5 p0 (by omega)
theorem Zk2 (x:ZD) (hb:x.bk<=1048576):Zaj x=some x:=by
 unfold Zaj
 all_goals (first | rfl| (cases x;rfl))
theorem Zlc (x:ZD) (hb:x.bk<=1073741824):Zan x x=some true:=by
 unfold Zan;simp []
theorem ZjM (xs:List ZD) (hf:DOk (.sl (xs.map ZD.c))):Ev fun k=>∀left:Int,0<=left->left<=1048576->Zbq k xs left=some (szR (bkS ZD.bk xs) left):=by
 have hx:∀x∈xs,∀left:Int,0<=left->left<=1048576->Zal x left=some (szR (ZD.bk x) left):=fun x hm=>Zk7 x ((VM hf).2 x hm);refine (Ev.ge (xs.length+1)).mono fun k hk=> ?_;intro left l0 l1;unfold Zbq;refine JQ ZD.bk xs (Zal) (W8 xs) k (fun x hm l p q=> ?_) (fun n l i=>by rw [W8]) (by omega) (VM hf).1 left l0 l1;rw [hx x hm l p q,Zz8];have:=ZbB (b:=ZD.bk x) (b2:=0) (F:=fun z=>some z) p fun z pz _=>J6 pz;exact this
theorem ZjG (xs:List ZD) (hb:bkS ZD.bk xs<=1048576):Ev fun k=>Zbj k xs=some xs:=by
 have hx:∀x∈xs,Zaj x=some x:=fun x hm=>Zk2 x (by have:=Yl (f:=ZD.bk) hm;omega);refine (Ev.ge (xs.length+1)).mono fun k hk=> ?_;unfold Zbj;exact Ul _ (by omega) _ xs (Zaj) (W4 xs) k (fun x hm=>hx x hm) (fun n out i=>by rw [W4]) (by omega) (by have:=ZL (f:=ZD.bk) (xs:=xs);omega)
theorem ZjS (xs:List ZD) (hb:bkS ZD.bk xs<=1073741824):Ev fun k=>Zbx k xs xs=some true:=by
 have hx:∀x∈xs,Zan x x=some true:=fun x hm=>Zlc x (by have:=Yl (f:=ZD.bk) hm;omega);refine (Ev.ge (xs.length+1)).mono fun k hk=> ?_;unfold Zbx;exact Uq xs (Zan) (Vd xs xs) k (fun x hm=>hx x hm) (fun n i=>by rw [Vd]) (by omega) (by have:=ZL (f:=ZD.bk) (xs:=xs);omega)
def Z3.bk (x:Z3):Nat:=bkS ZD.bk x.files+(0)
theorem Z3.ZB (x:Z3):x.bk=bkS ZD.bk x.files+(0):=rfl
theorem ZjJ (x:Z3) (hf:Zbb x.c):Ev fun k=>∀left:Int,0<=left->left<=1048576->Zbl k x left=some (szR (x.bk) left):=by
 have hf':=hf;rw [Z3.Qr] at hf';simp only [Zbb] at hf';obtain ⟨f0,f1,f2,_⟩:=hf';refine (ZjM x.files f2).mono ?_;rintro k h0;intro left l0 l1;rw [Z3.ZB];unfold Zbl;rw [h0 left l0 l1,Zz8];rcases Q5 (b:=bkS ZD.bk x.files) l1 with ⟨z0,e0,g0,q0,p0,r0⟩| ⟨e0,q0⟩
 rotate_left
 ·rw [e0,if_pos (by decide)];exact Q4 (by omega)
 rw [e0,if_neg g0];exact J5 p0 (by omega)
theorem ZjD (x:Z3) (hb:x.bk<=1048576):Ev fun k=>Zbe k x=some x:=by
 refine (ZjG x.files (by have:=Z3.ZB x;omega)).mono ?_;rintro k h0;unfold Zbe;rw [h0,Zz8]
 all_goals (first | rfl| (cases x;rfl))
theorem ZjP (x:Z3) (hb:x.bk<=1073741824):Ev fun k=>Zbs k x x=some true:=by
 refine (ZjS x.files (by have:=Z3.ZB x;omega)).mono ?_;rintro k h0;unfold Zbs;simp [h0]
theorem Zho (xs:List ByteArray) (hf:DOk (.sl (xs.map sC))):Ev fun k=>∀left:Int,0<=left->left<=1048576->Jd k xs left=some (szR (bkS ByteArray.size xs) left):=by
 refine (Ev.ge (xs.length+1)).mono fun k hk=> ?_;intro left l0 l1;unfold Jd;refine JQ ByteArray.size xs (fun x l=>some (IntKind.i64.wrap (l-(x.size:Int)))) (XK xs) k (fun x hm l p q=> ?_) (fun n l i=>by rw [XK];rfl) (by omega) (VM hf).1 left l0 l1;have:=ZpD (b:=x.size) (b2:=0) (F:=fun z=>some z) p q (Zga ((VM hf).2 x hm).1) fun z pz _=>J6 pz;exact this
theorem Zhl (xs:List ByteArray) (hb:bkS ByteArray.size xs<=1048576):Ev fun k=>Jb k xs=some xs:=by
 refine (Ev.ge (xs.length+1)).mono fun k hk=> ?_;unfold Jb;exact Ul _ (by omega) _ xs (fun x=>some x) (XI xs) k (fun x hm=>rfl) (fun n out i=>by rw [XI];rfl) (by omega) (by have:=ZL (f:=ByteArray.size) (xs:=xs);omega)
theorem Zhr (xs:List ByteArray) (hb:bkS ByteArray.size xs<=1073741824):Ev fun k=>Jf k xs xs=some true:=by
 refine (Ev.ge (xs.length+1)).mono fun k hk=> ?_;unfold Jf;exact Uq xs (fun x y=>some (decide (x=y))) (XL xs xs) k (fun x hm=>by simp) (fun n i=>by rw [XL];rfl) (by omega) (by have:=ZL (f:=ByteArray.size) (xs:=xs);omega)
theorem Zgm (xs:List Int) (hf:DOk (.sl (xs.map iC))):∀left:Int,0<=left->left<=1048576->Zcx xs left=some (szR (bkS (fun _=>0) xs) left):=by
 intro left l0 l1;unfold Zcx;have:=ZpD (b:=xs.length) (b2:=0) (F:=fun z=>some z) l0 l1 (VM hf).1 fun x p _=>J6 p;have e:bkS (fun _=>0) xs=xs.length+0:=Zo8 xs;rw [e];exact this
theorem Zgf (xs:List Int) (hb:bkS (fun _=>0) xs<=1048576):Ev fun k=>Zcu k xs=some xs:=by
 refine (Ev.ge (xs.length+1)).mono fun k hk=> ?_;unfold Zcu;exact Ul _ (by omega) _ xs (fun x=>some x) (VP xs) k (fun x hm=>rfl) (fun n out i=>by rw [VP];rfl) (by omega) (by have:=ZL (f:=(fun _=>0)) (xs:=xs);omega)
theorem Zgt (xs:List Int) (hb:bkS (fun _=>0) xs<=1073741824):Ev fun k=>ZcA k xs xs=some true:=by
 refine (Ev.ge (xs.length+1)).mono fun k hk=> ?_;unfold ZcA;exact Uq xs (fun x y=>some (decide (x=y))) (VT xs xs) k (fun x hm=>by simp) (fun n i=>by rw [VT];rfl) (by omega) (by have:=ZL (f:=(fun _=>0)) (xs:=xs);omega)
theorem ZiH (x:Zl):VO x=some x:=by
 unfold VO
 all_goals (first | rfl| (cases x;rfl))
theorem ZiO (x:Zl):VS x x=some true:=by
 unfold VS;simp []
theorem Zhq (xs:List Zl) (hf:DOk (.sl (xs.map Zl.c))):∀left:Int,0<=left->left<=1048576->Je xs left=some (szR (bkS (fun _=>0) xs) left):=by
 intro left l0 l1;unfold Je;have:=ZpD (b:=xs.length) (b2:=0) (F:=fun z=>some z) l0 l1 (VM hf).1 fun x p _=>J6 p;have e:bkS (fun _=>0) xs=xs.length+0:=Zo8 xs;rw [e];exact this
theorem Zhn (xs:List Zl) (hb:bkS (fun _=>0) xs<=1048576):Ev fun k=>Jc k xs=some xs:=by
 have hx:∀x∈xs,VO x=some x:=fun x hm=>ZiH x;refine (Ev.ge (xs.length+1)).mono fun k hk=> ?_;unfold Jc;exact Ul _ (by omega) _ xs (VO) (XJ xs) k (fun x hm=>hx x hm) (fun n out i=>by rw [XJ]) (by omega) (by have:=ZL (f:=(fun _=>0)) (xs:=xs);omega)
theorem Zht (xs:List Zl) (hb:bkS (fun _=>0) xs<=1073741824):Ev fun k=>Jg k xs xs=some true:=by
 have hx:∀x∈xs,VS x x=some true:=fun x hm=>ZiO x;refine (Ev.ge (xs.length+1)).mono fun k hk=> ?_;unfold Jg;exact Uq xs (VS) (XM xs xs) k (fun x hm=>hx x hm) (fun n i=>by rw [XM]) (by omega) (by have:=ZL (f:=(fun _=>0)) (xs:=xs);omega)
def ZM.bk (x:ZM):Nat:=bkS (fun _=>0) x.cells+(bkS (fun _=>0) x.from_+(0))
theorem ZM.ZB (x:ZM):x.bk=bkS (fun _=>0) x.cells+(bkS (fun _=>0) x.from_+(0)):=rfl
theorem Zmk (x:ZM) (hf:Zbb x.c):∀left:Int,0<=left->left<=1048576->ZdC x left=some (szR (x.bk) left):=by
 have hf':=hf;rw [ZM.Qr] at hf';simp only [Zbb] at hf';obtain ⟨f0,f1,_⟩:=hf';have h0:=Zgm x.cells f0;have h1:=Zhq x.from_ f1;intro left l0 l1;rw [ZM.ZB];unfold ZdC;rw [h0 left l0 l1,Zz8];rcases Q5 (b:=bkS (fun _=>0) x.cells) l1 with ⟨z0,e0,g0,q0,p0,r0⟩| ⟨e0,q0⟩
 rotate_left
 ·rw [e0,if_pos (by decide)];exact Q4 (by omega)
 rw [e0,if_neg g0];rw [h1 z0 p0 r0,Zz8];rcases Q5 (b:=bkS (fun _=>0) x.from_) r0 with ⟨z1,e1,g1,q1,p1,r1⟩| ⟨e1,q1⟩
 rotate_left
 ·rw [e1,if_pos (by decide)];exact Q4 (by omega)
 rw [e1,if_neg g1];exact J5 p1 (by omega)
theorem Zmj (x:ZM) (hb:x.bk<=1048576):Ev fun k=>ZfF k x=some x:=by
 refine ((Zgf x.cells (by have:=ZM.ZB x;omega)).and (Zhn x.from_ (by have:=ZM.ZB x;omega))).mono ?_;rintro k ⟨h0,h1⟩;unfold ZfF;rw [h0,Zz8];rw [h1,Zz8]
 all_goals (first | rfl| (cases x;rfl))
theorem Zml (x:ZM) (hb:x.bk<=1073741824):Ev fun k=>ZfG k x x=some true:=by
 refine ((Zgt x.cells (by have:=ZM.ZB x;omega)).and (Zht x.from_ (by have:=ZM.ZB x;omega))).mono ?_;rintro k ⟨h0,h1⟩;unfold ZfG;simp [h0,h1]
theorem Zk5 (xs:List ZM) (hf:DOk (.sl (xs.map ZM.c))):Ev fun k=>∀left:Int,0<=left->left<=1048576->Zem k xs left=some (szR (bkS ZM.bk xs) left):=by
 have hx:∀x∈xs,∀left:Int,0<=left->left<=1048576->ZdC x left=some (szR (ZM.bk x) left):=fun x hm=>Zmk x ((VM hf).2 x hm);refine (Ev.ge (xs.length+1)).mono fun k hk=> ?_;intro left l0 l1;unfold Zem;refine JQ ZM.bk xs (ZdC) (VQ xs) k (fun x hm l p q=> ?_) (fun n l i=>by rw [VQ]) (by omega) (VM hf).1 left l0 l1;rw [hx x hm l p q,Zz8];have:=ZbB (b:=ZM.bk x) (b2:=0) (F:=fun z=>some z) p fun z pz _=>J6 pz;exact this
theorem Zk0 (xs:List ZM) (hb:bkS ZM.bk xs<=1048576):Ev fun k=>Zed k xs=some xs:=by
 refine ((Ev.all xs fun x hm=>Zmj x (by have:=Yl (f:=ZM.bk) hm;omega)).and (Ev.ge (xs.length+1))).mono ?_;rintro k ⟨hx,hk⟩;unfold Zed;exact Ul _ (by omega) _ xs (ZfF k) (VN k xs) k (fun x hm=>hx x hm) (fun n out i=>by rw [VN]) (by omega) (by have:=ZL (f:=ZM.bk) (xs:=xs);omega)
theorem Zla (xs:List ZM) (hb:bkS ZM.bk xs<=1073741824):Ev fun k=>Zev k xs xs=some true:=by
 refine ((Ev.all xs fun x hm=>Zml x (by have:=Yl (f:=ZM.bk) hm;omega)).and (Ev.ge (xs.length+1))).mono ?_;rintro k ⟨hx,hk⟩;unfold Zev;exact Uq xs (ZfG k) (VR k xs xs) k (fun x hm=>hx x hm) (fun n i=>by rw [VR]) (by omega) (by have:=ZL (f:=ZM.bk) (xs:=xs);omega)
mutual
def Za.bk:Za->Nat
 | ⟨kind,n,step,text,list,columns,rows⟩=>text.size+((list.length+Za.bks list)+(bkS ByteArray.size columns+(bkS ZM.bk rows+(0))))
def Za.bks:List Za->Nat
 | []=>0
 | x::xs=>Za.bk x+Za.bks xs
end
theorem Za.Zl7:∀xs:List Za,Za.bks xs=Qh Za.bk xs
 | []=>rfl
 | x::xs=>by rw [Za.bks,Za.Zl7 xs];rfl
theorem Za.ZB (x:Za):x.bk=x.text.size+(bkS Za.bk x.list+(bkS ByteArray.size x.columns+(bkS ZM.bk x.rows+(0)))):=by
 cases x;simp only [Za.bk,Za.Zl7,bkS]
theorem Za.ind {p:Za->Prop} (h:∀x,(∀y∈x.list,p y)->p x):∀x,p x
 | ⟨kind,n,step,text,list,columns,rows⟩=>h _ fun y hy=>Za.ind h y
termination_by x=>SizeOf.sizeOf x
decreasing_by
 have:=List.sizeOf_lt_of_mem hy;simp at this ⊢;omega
theorem ZiJ (xs:List Za) (hf:DOk (.sl (xs.map Za.c))) (ih:∀x∈xs,Ev fun k=>∀left:Int,0<=left->left<=1048576->Q1 k x left=some (szR (Za.bk x) left)):Ev fun k=>∀left:Int,0<=left->left<=1048576->UW k xs left=some (szR (bkS Za.bk xs) left):=by
 refine ((Ev.all xs ih).and (Ev.ge (xs.length+1))).pred ?_;rintro k ⟨hx,hk⟩;intro left l0 l1;rw [UW];refine JQ Za.bk xs (Q1 k) (Wn (Q1 k) xs) k (fun x hm l p q=> ?_) (fun n l i=>by rw [Wn]) (by omega) (VM hf).1 left l0 l1;rw [hx x hm l p q,Zz8];have:=ZbB (b:=Za.bk x) (b2:=0) (F:=fun z=>some z) p fun z pz _=>J6 pz;exact this
theorem ZiF (xs:List Za) (hb:bkS Za.bk xs<=1048576) (ih:∀x∈xs,Ev fun k=>Q0 k x=some x):Ev fun k=>UU k xs=some xs:=by
 refine ((Ev.all xs ih).and (Ev.ge (xs.length+1))).pred ?_;rintro k ⟨hx,hk⟩;rw [UU];exact Ul _ (by omega) _ xs (Q0 k) (Wl (Q0 k) xs) k (fun x hm=>hx x hm) (fun n out i=>by rw [Wl]) (by omega) (by have:=ZL (f:=Za.bk) (xs:=xs);omega)
theorem ZiM (xs:List Za) (hb:bkS Za.bk xs<=1073741824) (ih:∀x∈xs,Ev fun k=>Q2 k x x=some true):Ev fun k=>UX k xs xs=some true:=by
 refine ((Ev.all xs ih).and (Ev.ge (xs.length+1))).pred ?_;rintro k ⟨hx,hk⟩;rw [UX];exact Uq xs (Q2 k) (Wp (Q2 k) xs xs) k (fun x hm=>hx x hm) (fun n i=>by rw [Wp]) (by omega) (by have:=ZL (f:=Za.bk) (xs:=xs);omega)
theorem Zej (x:Za) (hf:Zbb x.c):Ev fun k=>∀left:Int,0<=left->left<=1048576->Q1 k x left=some (szR (x.bk) left):=by
 revert hf;refine Za.ind (p:=fun x=>Zbb x.c->Ev fun k=>∀left:Int,0<=left->left<=1048576->Q1 k x left=some (szR (x.bk) left)) ?_ x;clear x;intro x ih hf;have hf':=hf;rw [Za.Qr] at hf';simp only [Zbb] at hf';obtain ⟨f0,f1,f2,f3,f4,f5,f6,_⟩:=hf';refine ((ZiJ x.list f4 fun y hy=>ih y hy ((VM f4).2 y hy)).and ((Zho x.columns f5).and (Zk5 x.rows f6))).pred ?_;rintro k ⟨h0,h1,h2⟩;intro left l0 l1;rw [Za.ZB];rw [Q1];rcases Zlj (b:=x.text.size) l0 l1 (Zga f3) with ⟨z0,e0,g0,q0,p0,r0⟩| ⟨g0,q0⟩
 rotate_left
 ·rw [if_pos g0];exact Q4 (by omega)
 rw [e0,if_neg g0];rw [h0 z0 p0 r0,Zz8];rcases Q5 (b:=bkS Za.bk x.list) r0 with ⟨z1,e1,g1,q1,p1,r1⟩| ⟨e1,q1⟩
 rotate_left
 ·rw [e1,if_pos (by decide)];exact Q4 (by omega)
 rw [e1,if_neg g1];rw [h1 z1 p1 r1,Zz8];rcases Q5 (b:=bkS ByteArray.size x.columns) r1 with ⟨z2,e2,g2,q2,p2,r2⟩| ⟨e2,q2⟩
 rotate_left
 ·rw [e2,if_pos (by decide)];exact Q4 (by omega)
 rw [e2,if_neg g2];rw [h2 z2 p2 r2,Zz8];rcases Q5 (b:=bkS ZM.bk x.rows) r2 with ⟨z3,e3,g3,q3,p3,r3⟩| ⟨e3,q3⟩
 rotate_left
 ·rw [e3,if_pos (by decide)];exact Q4 (by omega)
 rw [e3,if_neg g3];exact J5 p3 (by omega)
theorem Zea (x:Za) (hb:x.bk<=1048576):Ev fun k=>Q0 k x=some x:=by
 revert hb;refine Za.ind (p:=fun x=>x.bk<=1048576->Ev fun k=>Q0 k x=some x) ?_ x;clear x;intro x ih hb;refine ((ZiF x.list (by have:=Za.ZB x;omega) fun y hy=>ih y hy (by have:=Yl (f:=Za.bk) hy;have:=Za.ZB x;omega)).and ((Zhl x.columns (by have:=Za.ZB x;omega)).and (Zk0 x.rows (by have:=Za.ZB x;omega)))).pred ?_;rintro k ⟨h0,h1,h2⟩;rw [Q0];rw [h0,Zz8];rw [h1,Zz8];rw [h2,Zz8]
 all_goals (first | rfl| (cases x;rfl))
theorem Zes (x:Za) (hb:x.bk<=1073741824):Ev fun k=>Q2 k x x=some true:=by
 revert hb;refine Za.ind (p:=fun x=>x.bk<=1073741824->Ev fun k=>Q2 k x x=some true) ?_ x;clear x;intro x ih hb;refine ((ZiM x.list (by have:=Za.ZB x;omega) fun y hy=>ih y hy (by have:=Yl (f:=Za.bk) hy;have:=Za.ZB x;omega)).and ((Zhr x.columns (by have:=Za.ZB x;omega)).and (Zla x.rows (by have:=Za.ZB x;omega)))).pred ?_;rintro k ⟨h0,h1,h2⟩;rw [Q2];simp [h0,h1,h2]
def ZQ.bk (x:ZQ):Nat:=x.text.size+(Za.bk x.result+(0))
theorem ZQ.ZB (x:ZQ):x.bk=x.text.size+(Za.bk x.result+(0)):=rfl
theorem Zk6 (x:ZQ) (hf:Zbb x.c):Ev fun k=>∀left:Int,0<=left->left<=1048576->Zcw k x left=some (szR (x.bk) left):=by
 have hf':=hf;rw [ZQ.Qr] at hf';simp only [Zbb] at hf';obtain ⟨f0,f1,f2,f3,f4,f5,f6,f7,f8,f9,f10,_⟩:=hf';refine (Zej x.result (by rw [Za.Qr];exact ⟨f4,f5,f6,f7,f8,f9,f10,trivial⟩)).mono ?_;rintro k h0;intro left l0 l1;rw [ZQ.ZB];unfold Zcw;rcases Zlj (b:=x.text.size) l0 l1 (Zga f3) with ⟨z0,e0,g0,q0,p0,r0⟩| ⟨g0,q0⟩
 rotate_left
 ·rw [if_pos g0];exact Q4 (by omega)
 rw [e0,if_neg g0];rw [h0 z0 p0 r0,Zz8];rcases Q5 (b:=Za.bk x.result) r0 with ⟨z1,e1,g1,q1,p1,r1⟩| ⟨e1,q1⟩
 rotate_left
 ·rw [e1,if_pos (by decide)];exact Q4 (by omega)
 rw [e1,if_neg g1];exact J5 p1 (by omega)
theorem Zk1 (x:ZQ) (hb:x.bk<=1048576):Ev fun k=>Zct k x=some x:=by
 refine (Zea x.result (by have:=ZQ.ZB x;omega)).mono ?_;rintro k h0;unfold Zct;rw [h0,Zz8]
 all_goals (first | rfl| (cases x;rfl))
theorem Zlb (x:ZQ) (hb:x.bk<=1073741824):Ev fun k=>Zcz k x x=some true:=by
 refine (Zes x.result (by have:=ZQ.ZB x;omega)).mono ?_;rintro k h0;unfold Zcz;simp [h0]
theorem ZjL (xs:List ZQ) (hf:DOk (.sl (xs.map ZQ.c))):Ev fun k=>∀left:Int,0<=left->left<=1048576->Zbo k xs left=some (szR (bkS ZQ.bk xs) left):=by
 refine ((Ev.all xs fun x hm=>Zk6 x ((VM hf).2 x hm)).and (Ev.ge (xs.length+1))).mono ?_;rintro k ⟨hx,hk⟩;intro left l0 l1;unfold Zbo;refine JQ ZQ.bk xs (Zcw k) (W7 k xs) k (fun x hm l p q=> ?_) (fun n l i=>by rw [W7]) (by omega) (VM hf).1 left l0 l1;rw [hx x hm l p q,Zz8];have:=ZbB (b:=ZQ.bk x) (b2:=0) (F:=fun z=>some z) p fun z pz _=>J6 pz;exact this
theorem ZjF (xs:List ZQ) (hb:bkS ZQ.bk xs<=1048576):Ev fun k=>Zbh k xs=some xs:=by
 refine ((Ev.all xs fun x hm=>Zk1 x (by have:=Yl (f:=ZQ.bk) hm;omega)).and (Ev.ge (xs.length+1))).mono ?_;rintro k ⟨hx,hk⟩;unfold Zbh;exact Ul _ (by omega) _ xs (Zct k) (W3 k xs) k (fun x hm=>hx x hm) (fun n out i=>by rw [W3]) (by omega) (by have:=ZL (f:=ZQ.bk) (xs:=xs);omega)
theorem ZjR (xs:List ZQ) (hb:bkS ZQ.bk xs<=1073741824):Ev fun k=>Zbv k xs xs=some true:=by
 refine ((Ev.all xs fun x hm=>Zlb x (by have:=Yl (f:=ZQ.bk) hm;omega)).and (Ev.ge (xs.length+1))).mono ?_;rintro k ⟨hx,hk⟩;unfold Zbv;exact Uq xs (Zcz k) (Vc k xs xs) k (fun x hm=>hx x hm) (fun n i=>by rw [Vc]) (by omega) (by have:=ZL (f:=ZQ.bk) (xs:=xs);omega)
def ZC.bk (x:ZC):Nat:=bkS ZQ.bk x.reads+(0)
theorem ZC.ZB (x:ZC):x.bk=bkS ZQ.bk x.reads+(0):=rfl
theorem Zk4 (x:ZC) (hf:Zbb x.c):Ev fun k=>∀left:Int,0<=left->left<=1048576->Zcv k x left=some (szR (x.bk) left):=by
 have hf':=hf;rw [ZC.Qr] at hf';simp only [Zbb] at hf';obtain ⟨f0,f1,f2,_⟩:=hf';refine (ZjL x.reads f2).mono ?_;rintro k h0;intro left l0 l1;rw [ZC.ZB];unfold Zcv;rw [h0 left l0 l1,Zz8];rcases Q5 (b:=bkS ZQ.bk x.reads) l1 with ⟨z0,e0,g0,q0,p0,r0⟩| ⟨e0,q0⟩
 rotate_left
 ·rw [e0,if_pos (by decide)];exact Q4 (by omega)
 rw [e0,if_neg g0];exact J5 p0 (by omega)
theorem ZkZ (x:ZC) (hb:x.bk<=1048576):Ev fun k=>Zcs k x=some x:=by
 refine (ZjF x.reads (by have:=ZC.ZB x;omega)).mono ?_;rintro k h0;unfold Zcs;rw [h0,Zz8]
 all_goals (first | rfl| (cases x;rfl))
theorem Zk9 (x:ZC) (hb:x.bk<=1073741824):Ev fun k=>Zcy k x x=some true:=by
 refine (ZjR x.reads (by have:=ZC.ZB x;omega)).mono ?_;rintro k h0;unfold Zcy;simp [h0]
theorem ZjK (xs:List ZC) (hf:DOk (.sl (xs.map ZC.c))):Ev fun k=>∀left:Int,0<=left->left<=1048576->Zbm k xs left=some (szR (bkS ZC.bk xs) left):=by
 refine ((Ev.all xs fun x hm=>Zk4 x ((VM hf).2 x hm)).and (Ev.ge (xs.length+1))).mono ?_;rintro k ⟨hx,hk⟩;intro left l0 l1;unfold Zbm;refine JQ ZC.bk xs (Zcv k) (W6 k xs) k (fun x hm l p q=> ?_) (fun n l i=>by rw [W6]) (by omega) (VM hf).1 left l0 l1;rw [hx x hm l p q,Zz8];have:=ZbB (b:=ZC.bk x) (b2:=0) (F:=fun z=>some z) p fun z pz _=>J6 pz;exact this
theorem ZjE (xs:List ZC) (hb:bkS ZC.bk xs<=1048576):Ev fun k=>Zbf k xs=some xs:=by
 refine ((Ev.all xs fun x hm=>ZkZ x (by have:=Yl (f:=ZC.bk) hm;omega)).and (Ev.ge (xs.length+1))).mono ?_;rintro k ⟨hx,hk⟩;unfold Zbf;exact Ul _ (by omega) _ xs (Zcs k) (W1 k xs) k (fun x hm=>hx x hm) (fun n out i=>by rw [W1]) (by omega) (by have:=ZL (f:=ZC.bk) (xs:=xs);omega)
theorem ZjQ (xs:List ZC) (hb:bkS ZC.bk xs<=1073741824):Ev fun k=>Zbt k xs xs=some true:=by
 refine ((Ev.all xs fun x hm=>Zk9 x (by have:=Yl (f:=ZC.bk) hm;omega)).and (Ev.ge (xs.length+1))).mono ?_;rintro k ⟨hx,hk⟩;unfold Zbt;exact Uq xs (Zcy k) (Vb k xs xs) k (fun x hm=>hx x hm) (fun n i=>by rw [Vb]) (by omega) (by have:=ZL (f:=ZC.bk) (xs:=xs);omega)
def Zm.bk (x:Zm):Nat:=bkS (fun _=>0) x.inputs+(Za.bk x.value+(0))
theorem Zm.ZB (x:Zm):x.bk=bkS (fun _=>0) x.inputs+(Za.bk x.value+(0)):=rfl
theorem ZjN (x:Zm) (hf:Zbb x.c):Ev fun k=>∀left:Int,0<=left->left<=1048576->Kj k x left=some (szR (x.bk) left):=by
 have hf':=hf;rw [Zm.Qr] at hf';simp only [Zbb] at hf';obtain ⟨f0,f1,f2,f3,f4,f5,f6,f7,f8,f9,f10,f11,_⟩:=hf';have h0:=Zgm x.inputs f3;refine (Zej x.value (by rw [Za.Qr];exact ⟨f4,f5,f6,f7,f8,f9,f10,trivial⟩)).mono ?_;rintro k h1;intro left l0 l1;rw [Zm.ZB];unfold Kj;rw [h0 left l0 l1,Zz8];rcases Q5 (b:=bkS (fun _=>0) x.inputs) l1 with ⟨z0,e0,g0,q0,p0,r0⟩| ⟨e0,q0⟩
 rotate_left
 ·rw [e0,if_pos (by decide)];exact Q4 (by omega)
 rw [e0,if_neg g0];rw [h1 z0 p0 r0,Zz8];rcases Q5 (b:=Za.bk x.value) r0 with ⟨z1,e1,g1,q1,p1,r1⟩| ⟨e1,q1⟩
 rotate_left
 ·rw [e1,if_pos (by decide)];exact Q4 (by omega)
 rw [e1,if_neg g1];exact J5 p1 (by omega)
theorem ZjH (x:Zm) (hb:x.bk<=1048576):Ev fun k=>Kh k x=some x:=by
 refine ((Zgf x.inputs (by have:=Zm.ZB x;omega)).and (Zea x.value (by have:=Zm.ZB x;omega))).mono ?_;rintro k ⟨h0,h1⟩;unfold Kh;rw [h0,Zz8];rw [h1,Zz8]
 all_goals (first | rfl| (cases x;rfl))
theorem ZjT (x:Zm) (hb:x.bk<=1073741824):Ev fun k=>Kl k x x=some true:=by
 refine ((Zgt x.inputs (by have:=Zm.ZB x;omega)).and (Zes x.value (by have:=Zm.ZB x;omega))).mono ?_;rintro k ⟨h0,h1⟩;unfold Kl;simp [h0,h1]
theorem ZiL (xs:List Zm) (hf:DOk (.sl (xs.map Zm.c))):Ev fun k=>∀left:Int,0<=left->left<=1048576->Ki k xs left=some (szR (bkS Zm.bk xs) left):=by
 refine ((Ev.all xs fun x hm=>ZjN x ((VM hf).2 x hm)).and (Ev.ge (xs.length+1))).mono ?_;rintro k ⟨hx,hk⟩;intro left l0 l1;unfold Ki;refine JQ Zm.bk xs (Kj k) (Wo k xs) k (fun x hm l p q=> ?_) (fun n l i=>by rw [Wo]) (by omega) (VM hf).1 left l0 l1;rw [hx x hm l p q,Zz8];have:=ZbB (b:=Zm.bk x) (b2:=0) (F:=fun z=>some z) p fun z pz _=>J6 pz;exact this
theorem ZiI (xs:List Zm) (hb:bkS Zm.bk xs<=1048576):Ev fun k=>Kg k xs=some xs:=by
 refine ((Ev.all xs fun x hm=>ZjH x (by have:=Yl (f:=Zm.bk) hm;omega)).and (Ev.ge (xs.length+1))).mono ?_;rintro k ⟨hx,hk⟩;unfold Kg;exact Ul _ (by omega) _ xs (Kh k) (Wm k xs) k (fun x hm=>hx x hm) (fun n out i=>by rw [Wm]) (by omega) (by have:=ZL (f:=Zm.bk) (xs:=xs);omega)
theorem ZiP (xs:List Zm) (hb:bkS Zm.bk xs<=1073741824):Ev fun k=>Kk k xs xs=some true:=by
 refine ((Ev.all xs fun x hm=>ZjT x (by have:=Yl (f:=Zm.bk) hm;omega)).and (Ev.ge (xs.length+1))).mono ?_;rintro k ⟨hx,hk⟩;unfold Kk;exact Uq xs (Kl k) (Wq k xs xs) k (fun x hm=>hx x hm) (fun n i=>by rw [Wq]) (by omega) (by have:=ZL (f:=Zm.bk) (xs:=xs);omega)
def Ze.bk (x:Ze):Nat:=Zh.bk x.notebook+(Z3.bk x.world+(bkS ZC.bk x.tapes+(bkS Zm.bk x.entries+(0))))
theorem Ze.ZB (x:Ze):x.bk=Zh.bk x.notebook+(Z3.bk x.world+(bkS ZC.bk x.tapes+(bkS Zm.bk x.entries+(0)))):=rfl
theorem Y3 (x:Ze) (hf:Zbb x.c):Ev fun k=>∀left:Int,0<=left->left<=1048576->W9 k x left=some (szR (x.bk) left):=by
 have hf':=hf;rw [Ze.Qr] at hf';simp only [Zbb] at hf';obtain ⟨f0,f1,f2,f3,f4,f5,f6,f7,f8,_⟩:=hf';refine ((ZgW x.notebook (by rw [Zh.Qr];exact ⟨f0,trivial⟩)).and ((ZjJ x.world (by rw [Z3.Qr];exact ⟨f1,f2,f3,trivial⟩)).and ((ZjK x.tapes f4).and (ZiL x.entries f5)))).mono ?_;rintro k ⟨h0,h1,h2,h3⟩;intro left l0 l1;rw [Ze.ZB];unfold W9;rw [h0 left l0 l1,Zz8];rcases Q5 (b:=Zh.bk x.notebook) l1 with ⟨z0,e0,g0,q0,p0,r0⟩| ⟨e0,q0⟩
 rotate_left
 ·rw [e0,if_pos (by decide)];exact Q4 (by omega)
 rw [e0,if_neg g0];rw [h1 z0 p0 r0,Zz8];rcases Q5 (b:=Z3.bk x.world) r0 with ⟨z1,e1,g1,q1,p1,r1⟩| ⟨e1,q1⟩
 rotate_left
 ·rw [e1,if_pos (by decide)];exact Q4 (by omega)
 rw [e1,if_neg g1];rw [h2 z1 p1 r1,Zz8];rcases Q5 (b:=bkS ZC.bk x.tapes) r1 with ⟨z2,e2,g2,q2,p2,r2⟩| ⟨e2,q2⟩
 rotate_left
 ·rw [e2,if_pos (by decide)];exact Q4 (by omega)
 rw [e2,if_neg g2];rw [h3 z2 p2 r2,Zz8];rcases Q5 (b:=bkS Zm.bk x.entries) r2 with ⟨z3,e3,g3,q3,p3,r3⟩| ⟨e3,q3⟩
 rotate_left
 ·rw [e3,if_pos (by decide)];exact Q4 (by omega)
 rw [e3,if_neg g3];exact J5 p3 (by omega)
theorem Ui (x:Ze) (hb:x.bk<=1048576):Ev fun k=>Ys k x=some x:=by
 refine ((ZgV x.notebook (by have:=Ze.ZB x;omega)).and ((ZjD x.world (by have:=Ze.ZB x;omega)).and ((ZjE x.tapes (by have:=Ze.ZB x;omega)).and (ZiI x.entries (by have:=Ze.ZB x;omega))))).mono ?_;rintro k ⟨h0,h1,h2,h3⟩;unfold Ys;rw [h0,Zz8];rw [h1,Zz8];rw [h2,Zz8];rw [h3,Zz8]
 all_goals (first | rfl| (cases x;rfl))
theorem Uj (x:Ze) (hb:x.bk<=1073741824):Ev fun k=>Ve k x x=some true:=by
 refine ((ZgX x.notebook (by have:=Ze.ZB x;omega)).and ((ZjP x.world (by have:=Ze.ZB x;omega)).and ((ZjQ x.tapes (by have:=Ze.ZB x;omega)).and (ZiP x.entries (by have:=Ze.ZB x;omega))))).mono ?_;rintro k ⟨h0,h1,h2,h3⟩;unfold Ve;simp [h0,h1,h2,h3]
mutual
def Zb.bk:Zb->Nat
 | ⟨kind,n,text,args⟩=>text.size+((args.length+Zb.bks args)+(0))
def Zb.bks:List Zb->Nat
 | []=>0
 | x::xs=>Zb.bk x+Zb.bks xs
end
theorem Zb.Zl7:∀xs:List Zb,Zb.bks xs=Qh Zb.bk xs
 | []=>rfl
 | x::xs=>by rw [Zb.bks,Zb.Zl7 xs];rfl
theorem Zb.ZB (x:Zb):x.bk=x.text.size+(bkS Zb.bk x.args+(0)):=by
 cases x;simp only [Zb.bk,Zb.Zl7,bkS]
theorem Zb.ind {p:Zb->Prop} (h:∀x,(∀y∈x.args,p y)->p x):∀x,p x
 | ⟨kind,n,text,args⟩=>h _ fun y hy=>Zb.ind h y
termination_by x=>SizeOf.sizeOf x
decreasing_by
 have:=List.sizeOf_lt_of_mem hy;simp at this ⊢;omega
def Zi.bk (x:Zi):Nat:=x.name.size+(Zb.bk x.expr+(Za.bk x.value+(0)))
theorem Zi.ZB (x:Zi):x.bk=x.name.size+(Zb.bk x.expr+(Za.bk x.value+(0))):=rfl
open Go.RowKit Am
def Zja (k:Nat) (a0:List Zi) (a1:Int):Nat->(List Int)->Int->Option (List Int) | 0,_,_=>none | n_+1,x2,x3=> if (decide (x3<(a0.length:Int))) then ((Qa k a0 x3).bind fun x5=> (Ym k x5 a1).bind fun x6=> if x6 then (YH 8 x2 [x3]).bind fun x7=> some x7 else some x2).bind fun x4=> Zja k a0 a1 n_ x4 (IntKind.i64.wrap (x3+1)) else some x2
def Zs8 (k:Nat) (a0:List Zi) (a1:Int):Option (List Int):= (Zja k a0 a1 k ([]:List Int) 0).bind fun x1=> some x1
def Ku (k:Nat) (a0:List Zi) (a1:Int) (a2:Bool):Option (List Int):= if a2 then (Zs8 k a0 a1).bind fun x1=> some x1 else (Qa k a0 a1).bind fun x2=> some x2
def Zas (k:Nat) (x7:List Int):Nat->(List Int)->Int->Option (List Int) | 0,_,_=>none | n_+1,x8,x9=> if (decide (x9<(x7.length:Int))) then ((at? x7 x9).bind fun x11=> (Ym k x8 x11).bind fun x12=> if (!x12) then (YH 8 x8 [x11]).bind fun x13=> some x13 else some x8).bind fun x10=> Zas k x7 n_ x10 (IntKind.i64.wrap (x9+1)) else some x8
def Zat (k:Nat) (a0:List Zi) (a2:Bool):Nat->(List Int)->Int->Option (List Int) | 0,_,_=>none | n_+1,x3,x4=> if (decide (x4<(x3.length:Int))) then ((at? x3 x4).bind fun x6=> (Ku k a0 x6 a2).bind fun x7=> Zas k x7 k x3 0).bind fun x5=> Zat k a0 a2 n_ x5 (IntKind.i64.wrap (x4+1)) else some x3
def Zg7 (k:Nat) (a0:List Zi) (a1:Int) (a2:Bool):Option (List Int):= (Ku k a0 a1 a2).bind fun x1=> (Zat k a0 a2 k x1 0).bind fun x2=> (ZcG k x2).bind fun x14=> some x14
def ZhJ (k:Nat) (a0:List Zi) (a1:Int):Option (List Int):= (Zg7 k a0 a1 false).bind fun x1=> some x1
def ZeW (k:Nat) (a0:List Zi) (a1:Int):Option Bool:= (ZhJ k a0 a1).bind fun x1=> (Ym k x1 a1).bind fun x2=> some x2
def ZfL (k:Nat) (a0:List Zi):Option (List Int):= (V1 k a0).bind fun x1=> (X5 k x1).bind fun x2=> (U1 k a0 x1 x2).bind fun x3=> some x3
def QK (k:Nat) (a0:List Zi) (a1:Int):Option Bool:= (if (decide (0<=a1)) then if (decide (a1<(a0.length:Int))) then (at? a0 a1).bind fun x2=> if (decide (x2.kind=2)) then (YJ k a0 a1).bind fun x3=> if (!x3) then (VE k a0 a1).bind fun x4=> some (!x4) else some false else if (decide (x2.kind=3)) then (YJ k a0 a1).bind fun x5=> if (!x5) then (VE k a0 a1).bind fun x6=> some (!x6) else some false else some false else some false else some false).bind fun x1=> some x1
def Qe (k:Nat) (a0:List Zi) (x2:List Int):Nat->(List Int)->Int->Option (List Int) | 0,_,_=>none | n_+1,x3,x4=> if (decide (x4<(x2.length:Int))) then ((at? x2 x4).bind fun x6=> (QK k a0 x6).bind fun x7=> if x7 then (YH 8 x3 [x6]).bind fun x8=> some x8 else some x3).bind fun x5=> Qe k a0 x2 n_ x5 (IntKind.i64.wrap (x4+1)) else some x3
def Uo (k:Nat) (a0:List Zi) (a1:Int):Option (List Int):= ((YA k a0 a1).bind fun x2=> Qe k a0 x2 k ([]:List Int) 0).bind fun x1=> some x1
def ZcM (k:Nat) (a0:List Int) (a1:List Int):Nat->Int->Option (Unit ⊕ Bool) | 0,_=>none | n_+1,x1=> if (decide (x1<(a0.length:Int))) then (at? a0 x1).bind fun x2=> (VB k a1 x2).bind fun x3=> if (!x3) then some (.inr false) else ZcM k a0 a1 n_ (IntKind.i64.wrap (x1+1)) else some (.inl ())
def Zkq (k:Nat) (a0:List Int) (a1:List Int):Option Bool:= (ZcM k a0 a1 k 0:Option (Unit ⊕ Bool)).bind fun | .inl _=>( some true) | .inr z4=>( some z4)
def Xu (k:Nat) (a0:List Zi) (x1:List Int):Nat->Int->Option Int | 0,_=>none | n_+1,x3=> (if (decide (x3<(a0.length:Int))) then (VB k x1 x3).bind fun x5=> if x5 then some true else (QK k a0 x3).bind fun x6=> if (!x6) then some true else (Uo k a0 x3).bind fun x7=> (Zkq k x7 x1).bind fun x8=> some (!x8) else some false).bind fun x4=> if x4 then Xu k a0 x1 n_ (IntKind.i64.wrap (x3+1)) else some x3
def VD (k:Nat) (a0:List Zi):Nat->(List Int)->Option (List Int) | 0,_=>none | n_+1,x1=> (Xu k a0 x1 k 0).bind fun x2=> if (decide (x2=(a0.length:Int))) then some x1 else (YH 8 x1 [x2]).bind fun x9=> VD k a0 n_ x9
def Zjn (k:Nat) (a0:List Zi):Option (List Int):= VD k a0 k ([]:List Int)
open Go.RowKit Am
theorem Zc0: @Qy= @Yv:=by
 funext b0 n
 induction n with
 | zero=>funext y0;rfl
 | succ n ih=>
  funext y0
  simp only [Qy,Yv,ih]
  try rfl
theorem Zf0: @WD= @Xr:=by
 funext b0 b1
 simp only [WD,Xr,Zc0]
 try rfl
theorem Zfs: @XV= @Yp:=by
 funext b0 b1 n
 induction n with
 | zero=>funext y0;rfl
 | succ n ih=>
  funext y0
  simp only [XV,Yp,ih]
  try rfl
theorem Zh5: @Qn= @YR:=by
 funext b0 b1 b2
 simp only [Qn,YR,Zfs]
 try rfl
open Go.RowKit Am
theorem ZcY: @Qu= @Xh:=by
 funext b0 b1 n
 induction n with
 | zero=>funext y0;rfl
 | succ n ih=>
  funext y0
  simp only [Qu,Xh,ih]
  try rfl
theorem ZfW: @Vy= @Jk:=by
 funext b0 b1 b2
 simp only [Vy,Jk,ZcY]
 try rfl
theorem ZfX: @Wy= @X8:=by
 funext b0 b1 n
 induction n with
 | zero=>funext y0;rfl
 | succ n ih=>
  funext y0
  simp only [Wy,X8,ih]
  try rfl
theorem Zdp: @Ua= @WQ:=by
 funext b0 b1 b2
 simp only [Ua,WQ,ZfX]
 try rfl
theorem ZcZ: @Qv= @Y4:=by
 funext b0 b1 n
 induction n with
 | zero=>funext y0;rfl
 | succ n ih=>
  funext y0
  simp only [Qv,Y4,ih]
  try rfl
theorem ZfY: @Vz= @QO:=by
 funext b0 b1 b2
 simp only [Vz,QO,ZcZ]
 try rfl
open Go.RowKit Am
theorem ZdM: @Xd= @Z9:=by
 funext b0 b1 n
 induction n with
 | zero=>funext y0;rfl
 | succ n ih=>
  funext y0
  simp only [Xd,Z9,ih]
  try rfl
theorem Zg1: @Yz= @Z7:=by
 funext b0 b1 b2
 simp only [Yz,Z7,ZdM]
 try rfl
end Go.Proofs.YtpblakfidofgfaaGreatDoor
