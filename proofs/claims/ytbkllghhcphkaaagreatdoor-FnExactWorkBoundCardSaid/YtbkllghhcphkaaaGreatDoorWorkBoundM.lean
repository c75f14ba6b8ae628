import Derived.Test.YtbkllghhcphkaaaGreatDoorJ9
import Derived.Test.YtbkllghhcphkaaaGreatDoorLaFnExactWorkBound
set_option linter.unusedSimpArgs false
set_option linter.unusedVariables false
namespace Go.Proofs.YtbkllghhcphkaaaGreatDoor
open Go.RowKit Am
set_option maxHeartbeats 2000000 in
theorem Zcv (x0:Zz) (h0:Zcr x0.c) (x1:YA) (h1:Zcr x1.c):∃k,Qr k x0 x1=some true:=by
 rcases XZ (b:=Zz.bk x0) (left:=1048576) (by omega) with ⟨c0,e0,g0,q0,p0,r0⟩| ⟨e0,q0⟩
 rotate_left
 ·refine Ev.get ?_;refine (Ka x0 h0).mono ?_;rintro k z0;unfold Qr;rw [z0 1048576 (by omega) (by omega),Zyl,e0,if_pos (by decide)]
 rcases XZ (b:=YA.bk x1) (left:=c0) r0 with ⟨c1,e1,g1,q1,p1,r1⟩| ⟨e1,q1⟩
 rotate_left
 ·refine Ev.get ?_;have z1:=Zfb x1 h1;refine (Ka x0 h0).mono ?_;rintro k z0;unfold Qr;rw [z0 1048576 (by omega) (by omega),Zyl,e0,if_neg g0,z1 c0 p0 r0,Zyl,e1,if_pos (by decide)]
 have b0:Zz.bk x0<=1048576:=by omega
 have b1:YA.bk x1<=1048576:=by omega
 obtain ⟨v,ag⟩:=Zg2 x0 h0 b0 x1 h1 b1;refine Ev.get ?_;have z1:=Zfb x1 h1;have to1:=Zjd x1 b1;refine ((Ka x0 h0).and ((ag).and ((Zg8 x0 b0).and (Zhg x0 (by omega))))).mono ?_;rintro k ⟨z0,⟨aS,aI⟩,to0,eq0⟩;unfold Qr;rw [z0 1048576 (by omega) (by omega),Zyl,e0,if_neg g0,z1 c0 p0 r0,Zyl,e1,if_neg g1];simp [aS,aI,to0,eq0,to1]
end Go.Proofs.YtbkllghhcphkaaaGreatDoor
