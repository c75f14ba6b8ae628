import Derived.Test.YtmcfegjoccgpoaaGreatDoorZJ19
import Derived.Test.YtmcfegjoccgpoaaGreatDoorZJ11
set_option linter.unusedSimpArgs false
set_option linter.unusedVariables false
namespace Go.Proofs.YtmcfegjoccgpoaaGreatDoor
open Go.RowKit Am
theorem Ze.ZuX (x:Ze):x.value.bk<=x.bk:=by rw [Ze.Zz];omega
theorem ZkA (e:Za) (b:e.bk<=1048576):∃v,Ev λk=>UZ k e=some v/\Km k e=some v:=by
 have B:=e.Zz;have l1:=ZE (f:=Ze.bk) (xs:=e.entries)
 obtain ⟨f,hf⟩:=YI (p:=λ(y:Ze) n=>n<=y.bk+1/\Ev λk=>Y0 k y.value=some ((n:Nat):Int)) e.entries λy j=>by
  have o:=Z1 (f:=Ze.bk) j;have l:=y.ZuX;obtain ⟨n,p,w⟩:=ZuH y.value WF;exact ⟨n,WF,w⟩
 let g:Ze->Nat:=λy=>if y.has then f y else 0
 have E:ZU g e.entries<=bkS Ze.bk e.entries:=by
  have:=Zny (f:=g) (g:=λy=>y.bk+1) (xs:=e.entries) λy j=>by
   have:=(hf y j).1;show (if y.has then f y else 0)<=_
   split<;>omega
  rw [ZoZ] at this;unfold bkS;omega
 refine ⟨(ZU g e.entries:Int),((Ev.all e.entries λy j=>(hf y j).2).and (Ev.ge (e.entries.length+1))).mono ?_⟩;rintro k ⟨A,C⟩;rw [ZkU,UZ]
 have r:=ZhR (λn (s:Nat) i=>Qn k e n (s:Int) i) (λi=>ZU g (e.entries.take i)) (some ((ZU g e.entries:Nat):Int)) e.entries.length
   (λn i m=>by
    have o:=ZbR g e.entries i m;have l:=Zfk g e.entries (i+1);have p:g e.entries[i]=if e.entries[i].has then f e.entries[i] else 0:=rfl
    try simp only
    rw [Qn,if_pos (ZL m),ZQ m,ZEH,A _ (Hl m),wS i WF,o,p];rw [o,p] at l;cases z:e.entries[i].has with
    | true=>rw [z] at l;simp only [if_true,ZEH] at l ⊢;rw [w64 WF WF];rfl
    | false=>simp)
   (λn=>by
    try simp only
    rw [Qn,if_neg (Qg (ZEN _)),Gl (ZEN _)]) (k:=k) WF
 simp only [Gi] at r;have t:((ZU g ([]:List Ze):Nat):Int)=0:=rfl;rw [t] at r;rw [r];exact ⟨rfl,rfl⟩
theorem ZsN:∀(n:Nat) (e:Za),ZvJ e<=n->e.bk<=1048576->∃v:Za,v.bk<=e.bk/\Ev λk=>∀m,n<m->
  (∃r,YO k m e.notebook.cells e.world.clock e.world.seed e.world.files e.tapes e.entries e.next e.limit e.work=some r/\(r= .inr v\/r= .inl (v.notebook.cells,v.world.clock,v.world.seed,v.world.files,v.tapes,v.entries,v.next,v.limit,v.work)))/\
  YQ k m e.notebook.cells e.world.clock e.world.seed e.world.files e.tapes e.entries e.next e.limit e.work=some (v.notebook.cells,v.world.clock,v.world.seed,v.world.files,v.tapes,v.entries,v.next,v.limit,v.work):=by
 intro n
 induction n with
 | zero=>
  intro e E b;obtain ⟨h,p⟩:=ZkA e b;obtain ⟨v,⟨B,z,C⟩,hd⟩:=ZaJ e b
  have j:v.2=false:=by
   cases j:v.2
   ·rfl
   ·have:=z j;omega
  refine ⟨e,ZEN _,(p.and hd).mono λk ⟨⟨l,o⟩,s,t⟩ m A=> ?_⟩;obtain ⟨m,rfl⟩:∃q,m=q+1:=⟨m-1,WF⟩;rw [YO,YQ];simp only [l,o,s,t,ZEH,j,HK,if_true];cases decide (e.limit<h)
  ·exact ⟨⟨_,rfl,.inr rfl⟩,rfl⟩
  ·exact ⟨⟨_,rfl,.inl rfl⟩,rfl⟩
 | succ n G=>
  intro e E b;obtain ⟨h,p⟩:=ZkA e b;obtain ⟨v,⟨B,z,C⟩,hd⟩:=ZaJ e b
  by_cases hl:e.limit<h
  ·cases j:v.2
   ·refine ⟨e,ZEN _,(p.and hd).mono λk ⟨⟨l,o⟩,s,t⟩ m A=> ?_⟩;obtain ⟨m,rfl⟩:∃q,m=q+1:=⟨m-1,WF⟩;rw [YO,YQ];simp only [l,o,s,t,ZEH,j,HK,if_true,decide_eq_true hl];exact ⟨⟨_,rfl,.inl rfl⟩,trivial⟩
   ·obtain ⟨w,M,J⟩:=G v.1 (by have:=z j;omega) WF;refine ⟨w,WF,((p.and hd).and J).mono λk ⟨⟨⟨l,o⟩,s,t⟩,I⟩ m A=> ?_⟩;obtain ⟨m,rfl⟩:∃q,m=q+1:=⟨m-1,WF⟩;rw [YO,YQ];simp only [l,o,s,t,ZEH,j,Hr,ZEO,if_false,if_true,decide_eq_true hl];exact I m WF
  ·refine ⟨e,ZEN _,p.mono λk ⟨l,o⟩ m A=> ?_⟩;obtain ⟨m,rfl⟩:∃q,m=q+1:=⟨m-1,WF⟩;rw [YO,YQ];simp only [l,o,ZEH,decide_eq_false hl,ZEO,if_false];exact ⟨⟨_,rfl,.inr rfl⟩,trivial⟩
theorem Zx5 (e:Za):ZvJ e<=e.bk:=by
 have:=Zny (f:=λx:Ze=>if x.has=true then 1 else 0) (g:=λ_=>0+1) (xs:=e.entries) λx _=>by split<;>omega
 rw [ZoZ] at this;have j:=ZE (f:=Ze.bk) (xs:=e.entries);have k:=e.Zz
 have l:ZU (λ_:Ze=>0) e.entries=0:=by
  have:=ZkZ e.entries;unfold bkS at this;omega
 unfold ZvJ;omega
theorem Zi6 (e:Za) (t:ZcJ e.c) (b:e.bk<=1048576):∃v,v.bk<=1073741824/\Ev λk=>JC k e=some v/\V8 k e=some v:=by
 obtain ⟨v,w,m⟩:=ZsN (ZvJ e) e (ZEN _) b;have A:=Zx5 e;refine ⟨v,WF,(m.and (((Zdp e WF).and (ZdJ e WF)).and (Ev.ge 1048600))).mono λk ⟨q,⟨j,l⟩,z⟩=> ?_⟩;obtain ⟨⟨r,o,p⟩,s⟩:=q k WF;unfold JC V8;rw [j,l,ZEH,ZEH,o,s];rcases p with rfl| rfl<;>exact ⟨rfl,rfl⟩
end Go.Proofs.YtmcfegjoccgpoaaGreatDoor
