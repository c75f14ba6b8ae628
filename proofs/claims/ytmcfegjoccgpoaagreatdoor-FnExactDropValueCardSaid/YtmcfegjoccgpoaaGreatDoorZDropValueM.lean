import Derived.Test.YtmcfegjoccgpoaaGreatDoorZJ18
import Derived.Test.YtmcfegjoccgpoaaGreatDoorZLaFnExactDropValue
set_option linter.unusedSimpArgs false
set_option linter.unusedVariables false
namespace Go.Proofs.YtmcfegjoccgpoaaGreatDoor
open Go.RowKit Am
set_option maxHeartbeats 2000000 in
theorem ZeI (j:Za) (p:ZcJ j.c) (A:Int) (M:DOk (.int .i64 A)):∃k,QY k j A=some true:=by
 rcases Xd (b:=Za.bk j) (left:=1048576) WF with ⟨Q,m,J,O,R,S⟩| ⟨m,O⟩
 rotate_left
 ·refine Ev.get ?_;refine (YL j p).mono ?_;rintro k B;unfold QY;rw [B 1048576 WF WF,ZEH,m,if_pos (by decide)]
 have C:Za.bk j<=1048576:=WF
 obtain ⟨v,w,I⟩:=ZkB j p C A M;refine Ev.get ?_;have T:=Za.ZnS j;have z:hd? (1) (qwR (Za.c j))=some (1+((qwR (Za.c j):Nat):Int)):=ZkV WF WF;have kn:¬(1+((qwR (Za.c j):Nat):Int)<0):=WF
 have P:=Za.ZnS v.1;have r:hd? (1) (qwR (Za.c v.1))=some (1+((qwR (Za.c v.1):Nat):Int)):=ZkV WF WF;have s:¬(1+((qwR (Za.c v.1):Nat):Int)<0):=WF
 refine ((YL j p).and ((I).and ((Vp j C).and ((Qr j WF).and (Qr v.1 w))))).mono ?_;rintro k ⟨B,⟨G,E⟩,t,o,l⟩;unfold QY;rw [B 1048576 WF WF,ZEH,m,if_neg J];simp [G,E,t,o,l,z,kn,r,s]
end Go.Proofs.YtmcfegjoccgpoaaGreatDoor
