import Derived.Test.YtpblakfidofgfaaGreatDoorZJ13
set_option linter.unusedSimpArgs false
set_option linter.unusedVariables false
namespace Go.Proofs.YtpblakfidofgfaaGreatDoor
open Go.RowKit Am
theorem ZkM (e:Ze) (_h:Zbb e.c) (b:e.bk<=1048576) (i:Int) (_hi:DOk (.int .i64 i)):∃v,Ev fun k=>KC k e i=some v/\K8 k e i=some v:=by
 obtain ⟨ps,fx,fr,kn,inp,K⟩:=Zhd e b;have hl:=K.nl;have hw:IntKind.i64.wrap ((ps.length:Int)-1)=(ps.length:Int)-1:=w64 (by omega) (by omega)
 by_cases hr:0<=i/\i<ps.length
 ·obtain ⟨j,rfl⟩:∃j:Nat,i=(j:Int):=⟨i.toNat,by omega⟩;refine ⟨fr j,K.ev.mono fun k ⟨e1,e2,e3,_⟩=> ?_⟩;obtain ⟨M,_,q⟩:=(e3 j (by omega)).1 [] Con.nil;unfold KC K8;rw [e1,e2];simp only [Zz8,V8,hw,decide_eq_true hr.1,decide_eq_true hr.2,decide_eq_true (show (j:Int)<=(ps.length:Int)-1 by omega),Bool.and_self,if_true,ZgZ (show j<ps.length by omega),q,and_self]
 ·refine ⟨false,K.ev.mono fun k ⟨e1,e2,_⟩=> ?_⟩;unfold KC K8;rw [e1,e2];simp only [Zz8,V8,hw]
  by_cases h0:0<=i
  ·rw [decide_eq_true h0,decide_eq_false (show ¬i<=(ps.length:Int)-1 by omega),decide_eq_false (show ¬i<ps.length by omega)];exact ⟨rfl,rfl⟩
  ·rw [decide_eq_false h0];exact ⟨rfl,rfl⟩
end Go.Proofs.YtpblakfidofgfaaGreatDoor
