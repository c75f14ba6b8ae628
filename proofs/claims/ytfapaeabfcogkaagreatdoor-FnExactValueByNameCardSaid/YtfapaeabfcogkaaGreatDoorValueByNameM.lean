import Derived.Test.YtfapaeabfcogkaaGreatDoorJ8
import Derived.Test.YtfapaeabfcogkaaGreatDoorJ10
import Derived.Test.YtfapaeabfcogkaaGreatDoorLaFnExactValueByName
set_option linter.unusedSimpArgs false
set_option linter.unusedVariables false
namespace Go.Proofs.YtfapaeabfcogkaaGreatDoor
open Go.RowKit Am
set_option maxHeartbeats 2000000 in
theorem KT (x0:Ze) (h0:Zea x0.c) (x1:Qf) (h1:Zea x1.c) (x2:ByteArray) (h2:DOk (.str x2)):∃k,Yn k x0 x1 x2=some true:=by
 by_cases g2:(decide (1048576<(x2.size:Int)))=true
 ·refine Ev.get ?_
  refine ((Ev.of fun _=>trivial:Ev fun _=>True)).mono ?_
  rintro k _
  unfold Yn
  rw [if_pos g2]
 have q2:(x2.size:Int)≤1048576:=by simpa using g2
 rcases Vw (b:=Ze.bk x0) (left:=1048576) (by omega) with ⟨c0,e0,g0,q0,p0,r0⟩| ⟨e0,q0⟩
 rotate_left
 ·refine Ev.get ?_
  refine (V8 x0 h0).mono ?_
  rintro k z0
  unfold Yn
  rw [if_neg g2,z0 1048576 (by omega) (by omega),Option.bind_some,e0,if_pos (by decide)]
 rcases Vw (b:=Qf.bk x1) (left:=c0) r0 with ⟨c1,e1,g1,q1,p1,r1⟩| ⟨e1,q1⟩
 rotate_left
 ·refine Ev.get ?_
  refine ((V8 x0 h0).and (Zex x1 h1)).mono ?_
  rintro k ⟨z0,z1⟩
  unfold Yn
  rw [if_neg g2,z0 1048576 (by omega) (by omega),Option.bind_some,e0,if_neg g0,z1 c0 p0 r0,Option.bind_some,e1,if_pos (by decide)]
 have b2:x2.size≤1048576:=by omega
 have b0:Ze.bk x0≤1048576:=by omega
 have b1:Qf.bk x1≤1048576:=by omega
 obtain ⟨v,vb0,ag⟩:=Zdz x0 h0 b0 x1 h1 b1 x2 h2 b2
 refine Ev.get ?_
 have u0:=Ze.Ziz x0
 have wk0:wr? Ze.XF Ze.cnV (1) x0=some (Ze.XF x0 (1),1+((Ze.cnV x0:Nat):Int)):=ZoW (by omega) (by omega)
 have u1:=Qf.Ziz x1
 have wk1:wr? Qf.XF Qf.cnV (1+((Ze.cnV x0:Nat):Int)) x1=some (Qf.XF x1 (1+((Ze.cnV x0:Nat):Int)),1+((Ze.cnV x0:Nat):Int)+((Qf.cnV x1:Nat):Int)):=ZoW (by omega) (by omega)
 have kn:¬(1+((Ze.cnV x0:Nat):Int)+((Qf.cnV x1:Nat):Int)<0):=by omega
 have ur0:=Za.Ziz v
 have wr0:wr? Za.XF Za.cnV (1) v=some (Za.XF v (1),1+((Za.cnV v:Nat):Int)):=ZoW (by omega) (by omega)
 have hd0:hd? (1) (Za.cnV v)=some (1+((Za.cnV v:Nat):Int)):=Ztk (by omega) (by omega)
 have hn0:¬(1+((Za.cnV v:Nat):Int)<0):=by omega
 refine ((V8 x0 h0).and ((Zex x1 h1).and ((ag).and ((Zeb x0 b0).and ((Zec x0 (by omega)).and ((ZiU x1 b1).and ((ZiX x1 (by omega)).and (Kg v vb0)))))))).mono ?_
 rintro k ⟨z0,z1,⟨aS,aI⟩,to0,eq0,to1,eq1,eqr0⟩
 unfold Yn
 rw [if_neg g2,z0 1048576 (by omega) (by omega),Option.bind_some,e0,if_neg g0,z1 c0 p0 r0,Option.bind_some,e1,if_neg g1]
 simp [aS,aI,to0,eq0,to1,eq1,eqr0,wk0,wk1,kn,wr0,hd0,hn0]
end Go.Proofs.YtfapaeabfcogkaaGreatDoor
