import Derived.Test.YtpblakfidofgfaaGreatDoorZStaleCellsL
import Derived.Test.YtpblakfidofgfaaGreatDoorZLaFnExactIsSettled
set_option linter.unusedSimpArgs false
set_option linter.unusedVariables false
namespace Go.Proofs.YtpblakfidofgfaaGreatDoor
open Go.RowKit Am
set_option maxHeartbeats 2000000 in
theorem Zc2 (x0:Ze) (h0:Zbb x0.c):∃k,Qz k x0=some true:=by
 rcases Q5 (b:=Ze.bk x0) (left:=1048576) (by omega) with ⟨c0,e0,g0,q0,p0,r0⟩| ⟨e0,q0⟩
 rotate_left
 ·refine Ev.get ?_;refine (Y3 x0 h0).mono ?_;rintro k z0;unfold Qz;rw [z0 1048576 (by omega) (by omega),Zz8,e0,if_pos (by decide)]
 have b0:Ze.bk x0<=1048576:=by omega
 obtain ⟨v,ag⟩:=ZiD x0 h0 b0;refine Ev.get ?_;refine ((Y3 x0 h0).and ((ag).and ((Ui x0 b0).and (Uj x0 (by omega))))).mono ?_;rintro k ⟨z0,⟨aS,aI⟩,to0,eq0⟩;unfold Qz;rw [z0 1048576 (by omega) (by omega),Zz8,e0,if_neg g0];simp [aS,aI,to0,eq0]
end Go.Proofs.YtpblakfidofgfaaGreatDoor
