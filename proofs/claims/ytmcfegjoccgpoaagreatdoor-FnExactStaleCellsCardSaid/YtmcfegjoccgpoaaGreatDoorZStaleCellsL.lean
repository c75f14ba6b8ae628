import Derived.Test.YtmcfegjoccgpoaaGreatDoorZJ15
import Derived.Test.YtmcfegjoccgpoaaGreatDoorZMd12
set_option linter.unusedSimpArgs false
set_option linter.unusedVariables false
namespace Go.Proofs.YtmcfegjoccgpoaaGreatDoor
open Go.RowKit Am
def Ky (e:Za) (fr:Nat->Bool) (i:Nat):List Int:=((List.range i).filter λj=>!fr j).map λj=>match e.notebook.cells[j]? with | some c=>c.id| none=>0
theorem Zla (e:Za) (fr:Nat->Bool) (i:Nat):Ky e fr (i+1)=if fr i=true then Ky e fr i else Ky e fr i++[match e.notebook.cells[i]? with | some c=>c.id| none=>0]:=by
 unfold Ky;rw [List.range_succ,List.filter_append,GD];cases h:fr i<;>simp [List.filter_cons,h]
theorem ZsY (e:Za) (fr:Nat->Bool) (i:Nat):(Ky e fr i).length<=i:=by
 unfold Ky;rw [HO];have:=GW (λj=>!fr j) (List.range i);simpa using this
theorem ZmV (e:Za) (b:e.bk<=1048576):∃v:List Int,v.length<=1048576/\Ev λk=>V4 k e=some v/\WQ k e=some v:=by
 obtain ⟨j,I,fr,kn,w,K⟩:=Zjg e b;have hl:=K.nl;have O:=K.nb;have l:=ZsY e fr;refine ⟨Ky e fr j.length,HA (l _) hl,K.ev.mono λk ⟨C,E,G,_,_,_,P⟩=>⟨?_, ?_⟩⟩
 ·have:=ZhR (λm (s:List Int) i=>Y8 e (Yb.mk j (tb j.length I) (tb j.length fr) (tb j.length kn) (tb j.length w)) m s i) (λi=>Ky e fr i) (some (Ky e fr j.length)) j.length
   (λm i t=>by
    have p:i<e.notebook.cells.length:=WF
    have:=l i
    try simp only
    rw [Y8,if_pos (ZL t),ZjA t,Zla,wS i WF,ZQ p,ZEP p];simp only [ZEH];cases fr i
    ·simp only [HK,if_true,ZEO,if_false];rw [Wa (by simp;omega) WF];rfl
    ·simp)
   (λm=>by
    try simp only
    rw [Y8,if_neg (Qg (ZEN _))]) (k:=k) WF
  unfold V4;rw [C,ZEH,show Y8 e _ k [] 0=_ from this];rfl
 ·have z:∀(m n i:Nat) (M:List (Int×Bool)),i+m=j.length->m<n->Con j.length fr M->Yt k e (e,j,[]) n M (Ky e fr i) (i:Int)=some (Ky e fr j.length):=by
   intro m
   induction m with
   | zero=>
    intro n i M t J _;obtain ⟨n,rfl⟩:∃q,n=q+1:=⟨n-1,WF⟩;obtain rfl:i=j.length:=WF
    rw [Yt,if_neg (Qg (ZEN _))]
   | succ m B=>
    intro n i M t J hM;obtain ⟨n,rfl⟩:∃q,n=q+1:=⟨n-1,WF⟩;have r:i<j.length:=WF
    have p:i<e.notebook.cells.length:=WF
    have:=l i;obtain ⟨A,c,q⟩:=(G i r).1 M hM;have o:=Zla e fr i;rw [ZEP p] at o;rw [Yt];simp only [];rw [if_pos (ZL r),q,wS i WF];simp only [ZEH];cases hf:fr i
    ·rw [hf] at o;simp only [ZEO,if_false] at o;simp only [HK,if_true,ZQ p,ZEH];rw [Wa (by simp;omega) WF];simp only [ZEH];rw [<-o];exact B n (i+1) A WF WF c
    ·rw [hf] at o;simp only [if_true] at o;simp only [Hr,ZEO,if_false,ZEH];rw [<-o];exact B n (i+1) A WF WF c
  unfold WQ;rw [E,ZEH];rw [show Yt k e (e,j,[]) k [] [] 0=_ from z j.length k 0 [] WF WF Con.nil];rfl
theorem Zi7 (e:Za) (l:ZcJ e.c) (b:e.bk<=1048576):∃v,bkS (λ_=>0) v<=1073741824/\Ev λk=>V4 k e=some v/\WQ k e=some v:=by
 obtain ⟨v,m,j⟩:=ZmV e b;exact ⟨v,by rw [ZkZ];omega,j⟩
end Go.Proofs.YtmcfegjoccgpoaaGreatDoor
