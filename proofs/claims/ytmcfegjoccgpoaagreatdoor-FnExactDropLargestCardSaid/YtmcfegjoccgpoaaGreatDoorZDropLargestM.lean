import Derived.Test.YtmcfegjoccgpoaaGreatDoorZJ19
import Derived.Test.YtmcfegjoccgpoaaGreatDoorZLaFnExactDropLargest
set_option linter.unusedSimpArgs false
set_option linter.unusedVariables false
namespace Go.Proofs.YtmcfegjoccgpoaaGreatDoor
open Go.RowKit Am
set_option maxHeartbeats 2000000 in
theorem ZcO (j:Za) (p:ZcJ j.c):∃k,Qf k j=some true:=by
 rcases Xd (b:=Za.bk j) (left:=1048576) WF with ⟨O,m,I,J,P,Q⟩| ⟨m,J⟩
 rotate_left
 ·refine Ev.get ?_;refine (YL j p).mono ?_;rintro k A;unfold Qf;rw [A 1048576 WF WF,ZEH,m,if_pos (by decide)]
 have B:Za.bk j<=1048576:=WF
 obtain ⟨v,w,G⟩:=Zic j p B;refine Ev.get ?_;have R:=Za.ZnS j;have z:hd? (1) (qwR (Za.c j))=some (1+((qwR (Za.c j):Nat):Int)):=ZkV WF WF;have kn:¬(1+((qwR (Za.c j):Nat):Int)<0):=WF
 have M:=Za.ZnS v.1;have r:hd? (1) (qwR (Za.c v.1))=some (1+((qwR (Za.c v.1):Nat):Int)):=ZkV WF WF;have s:¬(1+((qwR (Za.c v.1):Nat):Int)<0):=WF
 refine ((YL j p).and ((G).and ((Vp j B).and ((Qr j WF).and (Qr v.1 w))))).mono ?_;rintro k ⟨A,⟨E,C⟩,t,o,l⟩;unfold Qf;rw [A 1048576 WF WF,ZEH,m,if_neg I];simp [E,C,t,o,l,z,kn,r,s]
end Go.Proofs.YtmcfegjoccgpoaaGreatDoor
