import Derived.Test.YtmcfegjoccgpoaaGreatDoorZJ15
set_option linter.unusedSimpArgs false
set_option linter.unusedVariables false
namespace Go.Proofs.YtmcfegjoccgpoaaGreatDoor
open Go.RowKit Am
theorem Zib (e:Za) (E:ZcJ e.c) (b:e.bk<=1048576) (i:Int) (w:DOk (.int .i64 i)):∃v,bkS (λ_=>0) v.1<=1073741824/\Ev λk=>Vb k e i=some v/\X4 k e i=some v:=by
 obtain ⟨l,G,fr,kn,m,K⟩:=Zjg e b;have hl:=K.nl;have t:GZ ((l.length:Int)-1)=(l.length:Int)-1:=w64 WF WF
 by_cases C:0<=i/\i<l.length
 ·obtain ⟨j,rfl⟩:∃j:Nat,i=(j:Int):=⟨i.toNat,WF⟩;have hj:j<l.length:=by omega
  have A:=K.inl j hj;refine ⟨if kn j=true then (m j,true) else ([],false),by split<;>simp [ZkZ];omega,K.ev.mono λk ⟨o,p,z,_⟩=> ?_⟩;obtain ⟨M,_,q⟩:=(z j hj).2 [] Con.nil;have r:kn j=false->m j=[]:=λh=>K.ini j hj h;unfold Vb X4;rw [o,p];simp only [ZEH,U5,t,decide_eq_true C.1,decide_eq_false (show ¬(j:Int)<0 from WF),decide_eq_false (show ¬(l.length:Int)<=j from WF),decide_eq_true (show (j:Int)<=(l.length:Int)-1 from WF),Bool.and_self,Hr,ZEO,if_false,ZjA hj,q];cases B:kn j
  ·simp [r B]
  ·simp
 ·refine ⟨([],false),by simp [ZkZ],K.ev.mono λk ⟨o,p,_⟩=> ?_⟩;unfold Vb X4;rw [o,p];simp only [ZEH,U5,t]
  by_cases s:0<=i
  ·rw [decide_eq_true s,decide_eq_false (show ¬i<=(l.length:Int)-1 from WF),decide_eq_false (show ¬i<0 from WF),decide_eq_true (show (l.length:Int)<=i from WF)];exact ⟨rfl,rfl⟩
  ·rw [decide_eq_false s,decide_eq_true (show i<0 from WF)];exact ⟨rfl,rfl⟩
end Go.Proofs.YtmcfegjoccgpoaaGreatDoor
