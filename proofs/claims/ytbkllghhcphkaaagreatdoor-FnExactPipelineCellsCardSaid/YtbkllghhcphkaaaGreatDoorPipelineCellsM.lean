import Derived.Test.YtbkllghhcphkaaaGreatDoorJ10
import Derived.Test.YtbkllghhcphkaaaGreatDoorLaFnExactPipelineCells
set_option linter.unusedSimpArgs false
set_option linter.unusedVariables false
namespace Go.Proofs.YtbkllghhcphkaaaGreatDoor
open Go.RowKit Am
set_option maxHeartbeats 2000000 in
theorem J2 (x0:Ze) (h0:Zlc x0.c):∃k,YY k x0=some true:=by
 rcases Zia (b:=Ze.bk x0) (left:=1048576) (by omega) with ⟨c0,e0,g0,q0,p0,r0⟩| ⟨e0,q0⟩
 rotate_left
 ·refine Ev.get ?_;refine (KB x0 h0).mono ?_;rintro k z0;unfold YY;rw [z0 1048576 (by omega) (by omega),Zwe,e0,if_pos (by decide)]
 have b0:Ze.bk x0<=1048576:=by omega
 obtain ⟨v,vb0,ag⟩:=ZbD x0 h0 b0;refine Ev.get ?_;have u0:=Ze.Zso x0;have wk0:wr? Ze.ZiB Ze.cnV (1) x0=some (Ze.ZiB x0 (1),1+((Ze.cnV x0:Nat):Int)):=Zq5 (by omega) (by omega);have kn:¬(1+((Ze.cnV x0:Nat):Int)<0):=by omega
 have ur0:=Zmg v;have wr0:wr? XN QR (1) v=some (XN v (1),1+((QR v:Nat):Int)):=Zq5 (by omega) (by omega);have hd0:hd? (1) (QR v)=some (1+((QR v:Nat):Int)):=Zug (by omega) (by omega);have hn0:¬(1+((QR v:Nat):Int)<0):=by omega
 refine ((KB x0 h0).and ((ag).and ((ZdA x0 b0).and ((ZdB x0 (by omega)).and (ZgT v vb0))))).mono ?_;rintro k ⟨z0,⟨aS,aI⟩,to0,eq0,eqr0⟩;unfold YY;rw [z0 1048576 (by omega) (by omega),Zwe,e0,if_neg g0];simp [aS,aI,to0,eq0,eqr0,wk0,kn,wr0,hd0,hn0]
end Go.Proofs.YtbkllghhcphkaaaGreatDoor
