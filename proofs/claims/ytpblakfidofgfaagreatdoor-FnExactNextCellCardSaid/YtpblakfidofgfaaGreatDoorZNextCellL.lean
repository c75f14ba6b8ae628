import Derived.Test.YtpblakfidofgfaaGreatDoorZJ13
import Derived.Test.YtpblakfidofgfaaGreatDoorZMd13
set_option linter.unusedSimpArgs false
set_option linter.unusedVariables false
namespace Go.Proofs.YtpblakfidofgfaaGreatDoor
open Go.RowKit Am
def ZgJ (e:Ze) (fr kn:Nat->Bool) (i:Nat):Nat->Option Int
 | 0=>none
 | m+1=>if fr i=false/\kn i=true then some (match e.notebook.cells[i]? with | some c=>c.id| none=>0) else ZgJ e fr kn (i+1) m
theorem Znl (e:Ze) (b:e.bk<=1048576):∃v,Ev fun k=>U3 k e=some v/\U6 k e=some v:=by
 obtain ⟨ps,fx,fr,kn,inp,K⟩:=Zhd e b;have hl:=K.nl;have hnb:=K.nb;refine ⟨(ZgJ e fr kn 0 ps.length).getD 0,K.ev.mono fun k ⟨e1,e2,e3,_,_,_,hk⟩=>⟨?_, ?_⟩⟩
 ·have key:∀(m n i:Nat),i+m=ps.length->m<n->QG e (ZT.mk ps (tb ps.length fx) (tb ps.length fr) (tb ps.length kn) (tb ps.length inp)) n (i:Int)=some (match ZgJ e fr kn i m with | some z=>.inr z| none=>.inl ()):=by
   intro m
   induction m with
   | zero=>
    intro n i hi hn;obtain ⟨n,rfl⟩:∃q,n=q+1:=⟨n-1,by omega⟩;obtain rfl:i=ps.length:=by omega
    rw [QG,if_neg (Ql (ZAe _))];rfl
   | succ m ih=>
    intro n i hi hn;obtain ⟨n,rfl⟩:∃q,n=q+1:=⟨n-1,by omega⟩;have hil:i<ps.length:=by omega
    have hc:i<e.notebook.cells.length:=by omega
    rw [QG,if_pos (ZE hil),wS i (by omega)];simp only [ZgZ hil,Zz8,ZJ hc];unfold ZgJ;rw [ZAg hc];have ih:=ih n (i+1) (by omega) (by omega);cases hf:fr i<;>cases hq:kn i<;>simp<;>exact ih
  unfold U3;rw [e1,Zz8,show QG e _ k 0=_ from key ps.length k 0 (by omega) (by omega)];cases ZgJ e fr kn 0 ps.length<;>rfl
 ·have key:∀(m n i:Nat) (M:List (Int×Bool)),i+m=ps.length->m<n->Con ps.length fr M->YI k e (e,ps,[]) n M (i:Int)=some (match ZgJ e fr kn i m with | some z=>.inr z| none=>.inl ()):=by
   intro m
   induction m with
   | zero=>
    intro n i M hi hn _;obtain ⟨n,rfl⟩:∃q,n=q+1:=⟨n-1,by omega⟩;obtain rfl:i=ps.length:=by omega
    rw [YI];simp only [];rw [if_neg (Ql (ZAe _))];rfl
   | succ m ih=>
    intro n i M hi hn hM;obtain ⟨n,rfl⟩:∃q,n=q+1:=⟨n-1,by omega⟩;have hil:i<ps.length:=by omega
    have hc:i<e.notebook.cells.length:=by omega
    obtain ⟨M1,c1,q1⟩:=(e3 i hil).1 M hM;obtain ⟨M2,c2,q2⟩:=(e3 i hil).2 M1 c1;have ih1:=ih n (i+1) M1 (by omega) (by omega) c1;have ih2:=ih n (i+1) M2 (by omega) (by omega) c2;rw [YI];simp only [];rw [if_pos (ZE hil),q1,wS i (by omega)];simp only [Zz8,q2,ZJ hc];unfold ZgJ;rw [ZAg hc];cases hf:fr i<;>cases hq:kn i<;>simp<;>first | exact ih1| exact ih2
  unfold U6;rw [e2,Zz8];rw [show YI k e (e,ps,[]) k [] 0=_ from key ps.length k 0 [] (by omega) (by omega) Con.nil];cases ZgJ e fr kn 0 ps.length<;>rfl
theorem ZiZ (e:Ze) (_h:Zbb e.c) (b:e.bk<=1048576):∃v,Ev fun k=>U3 k e=some v/\U6 k e=some v:=Znl e b
end Go.Proofs.YtpblakfidofgfaaGreatDoor
