import Derived.Test.YtmcfegjoccgpoaaGreatDoorZInputStampsL
import Derived.Test.YtmcfegjoccgpoaaGreatDoorZLaFnExactInputStamps
set_option linter.unusedSimpArgs false
set_option linter.unusedVariables false
namespace Go.Proofs.YtmcfegjoccgpoaaGreatDoor
open Go.RowKit Am
set_option maxHeartbeats 2000000 in
theorem ZcN (j:Za) (p:ZcJ j.c) (A:Int) (M:DOk (.int .i64 A)):∃k,Qe k j A=some true:=by
 rcases Xd (b:=Za.bk j) (left:=1048576) WF with ⟨Q,m,J,O,R,S⟩| ⟨m,O⟩
 rotate_left
 ·refine Ev.get ?_;refine (YL j p).mono ?_;rintro k B;unfold Qe;rw [B 1048576 WF WF,ZEH,m,if_pos (by decide)]
 have C:Za.bk j<=1048576:=WF
 obtain ⟨v,w,I⟩:=Zib j p C A M;refine Ev.get ?_;have T:=Za.ZnS j;have z:hd? (1) (qwR (Za.c j))=some (1+((qwR (Za.c j):Nat):Int)):=ZkV WF WF;have kn:¬(1+((qwR (Za.c j):Nat):Int)<0):=WF
 have P:=ZmX v.1;have r:hd? (1) (qnE (v.1.map iC))=some (1+((qnE (v.1.map iC):Nat):Int)):=ZkV WF WF;have s:¬(1+((qnE (v.1.map iC):Nat):Int)<0):=WF
 refine ((YL j p).and ((I).and ((Vp j C).and ((Qr j WF).and (Zag v.1 w))))).mono ?_;rintro k ⟨B,⟨G,E⟩,t,o,l⟩;unfold Qe;rw [B 1048576 WF WF,ZEH,m,if_neg J];simp [G,E,t,o,l,z,kn,r,s]
end Go.Proofs.YtmcfegjoccgpoaaGreatDoor
