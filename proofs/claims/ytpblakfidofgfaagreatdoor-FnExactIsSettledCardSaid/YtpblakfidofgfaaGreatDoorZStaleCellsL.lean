import Derived.Test.YtpblakfidofgfaaGreatDoorZJ13
import Derived.Test.YtpblakfidofgfaaGreatDoorZMd14
set_option linter.unusedSimpArgs false
set_option linter.unusedVariables false
namespace Go.Proofs.YtpblakfidofgfaaGreatDoor
open Go.RowKit Am
def Jj (e:Ze) (fr:Nat->Bool) (i:Nat):List Int:=((List.range i).filter fun j=>!fr j).map fun j=>match e.notebook.cells[j]? with | some c=>c.id| none=>0
theorem Zi5 (e:Ze) (fr:Nat->Bool) (i:Nat):Jj e fr (i+1)=if fr i=true then Jj e fr i else Jj e fr i++[match e.notebook.cells[i]? with | some c=>c.id| none=>0]:=by
 unfold Jj;rw [List.range_succ,List.filter_append,List.map_append];cases h:fr i<;>simp [List.filter_cons,h]
theorem ZpH (e:Ze) (fr:Nat->Bool) (i:Nat):(Jj e fr i).length<=i:=by
 unfold Jj;rw [List.length_map];have:=List.length_filter_le (fun j=>!fr j) (List.range i);simpa using this
theorem ZkK (e:Ze) (b:e.bk<=1048576):∃v:List Int,v.length<=1048576/\Ev fun k=>Uv k e=some v/\UB k e=some v:=by
 obtain ⟨ps,fx,fr,kn,inp,K⟩:=Zhd e b;have hl:=K.nl;have hnb:=K.nb;have hlen:=ZpH e fr;refine ⟨Jj e fr ps.length,Nat.le_trans (hlen _) hl,K.ev.mono fun k ⟨e1,e2,e3,_,_,_,hk⟩=>⟨?_, ?_⟩⟩
 ·have:=ZiS (fun m (s:List Int) i=>YM e (ZT.mk ps (tb ps.length fx) (tb ps.length fr) (tb ps.length kn) (tb ps.length inp)) m s i) (fun i=>Jj e fr i) (some (Jj e fr ps.length)) ps.length
   (fun m i hi=>by
    have hc:i<e.notebook.cells.length:=by omega
    have:=hlen i
    try simp only
    rw [YM,if_pos (ZE hi),ZgZ hi,Zi5,wS i (by omega),ZJ hc,ZAg hc];simp only [Zz8];cases fr i
    ·simp only [Bool.not_false,if_true,ZAf,if_false];rw [XG (by simp;omega) (by omega)];rfl
    ·simp)
   (fun m=>by
    try simp only
    rw [YM,if_neg (Ql (ZAe _))]) (k:=k) (by omega)
  unfold Uv;rw [e1,Zz8,show YM e _ k [] 0=_ from this];rfl
 ·have key:∀(m n i:Nat) (M:List (Int×Bool)),i+m=ps.length->m<n->Con ps.length fr M->Ya k e (e,ps,[]) n M (Jj e fr i) (i:Int)=some (Jj e fr ps.length):=by
   intro m
   induction m with
   | zero=>
    intro n i M hi hn _;obtain ⟨n,rfl⟩:∃q,n=q+1:=⟨n-1,by omega⟩;obtain rfl:i=ps.length:=by omega
    rw [Ya,if_neg (Ql (ZAe _))]
   | succ m ih=>
    intro n i M hi hn hM;obtain ⟨n,rfl⟩:∃q,n=q+1:=⟨n-1,by omega⟩;have hil:i<ps.length:=by omega
    have hc:i<e.notebook.cells.length:=by omega
    have:=hlen i;obtain ⟨M',c,q⟩:=(e3 i hil).1 M hM;have hs:=Zi5 e fr i;rw [ZAg hc] at hs;rw [Ya];simp only [];rw [if_pos (ZE hil),q,wS i (by omega)];simp only [Zz8];cases hf:fr i
    ·rw [hf] at hs;simp only [ZAf,if_false] at hs;simp only [Bool.not_false,if_true,ZJ hc,Zz8];rw [XG (by simp;omega) (by omega)];simp only [Zz8];rw [<-hs];exact ih n (i+1) M' (by omega) (by omega) c
    ·rw [hf] at hs;simp only [if_true] at hs;simp only [Bool.not_true,ZAf,if_false,Zz8];rw [<-hs];exact ih n (i+1) M' (by omega) (by omega) c
  unfold UB;rw [e2,Zz8];rw [show Ya k e (e,ps,[]) k [] [] 0=_ from key ps.length k 0 [] (by omega) (by omega) Con.nil];rfl
theorem ZiD (e:Ze) (_h:Zbb e.c) (b:e.bk<=1048576):∃v,Ev fun k=>Jo k e=some v/\Jx k e=some v:=by
 obtain ⟨v,h1,h2⟩:=ZkK e b;refine ⟨decide ((v.length:Int)=0),h2.mono fun k ⟨e1,e2⟩=> ?_⟩;unfold Jo Jx;rw [e1,e2];exact ⟨rfl,rfl⟩
end Go.Proofs.YtpblakfidofgfaaGreatDoor
