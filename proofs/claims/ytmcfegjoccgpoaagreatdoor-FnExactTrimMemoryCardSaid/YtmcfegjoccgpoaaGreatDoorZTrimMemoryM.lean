import Derived.Test.YtmcfegjoccgpoaaGreatDoorZJ20
import Derived.Test.YtmcfegjoccgpoaaGreatDoorZLaFnExactTrimMemory
set_option linter.unusedSimpArgs false
set_option linter.unusedVariables false
namespace Go.Proofs.YtmcfegjoccgpoaaGreatDoor
open Go.RowKit Am
set_option maxHeartbeats 2000000 in
theorem Zea (j:Za) (p:ZcJ j.c):∃k,QE k j=some true:=by
 rcases Xd (b:=Za.bk j) (left:=1048576) WF with ⟨O,m,I,J,P,Q⟩| ⟨m,J⟩
 rotate_left
 ·refine Ev.get ?_;refine (YL j p).mono ?_;rintro k A;unfold QE;rw [A 1048576 WF WF,ZEH,m,if_pos (by decide)]
 have B:Za.bk j<=1048576:=WF
 obtain ⟨v,w,G⟩:=Zi6 j p B;refine Ev.get ?_;have R:=Za.ZnS j;have z:hd? (1) (qwR (Za.c j))=some (1+((qwR (Za.c j):Nat):Int)):=ZkV WF WF;have kn:¬(1+((qwR (Za.c j):Nat):Int)<0):=WF
 have M:=Za.ZnS v;have r:hd? (1) (qwR (Za.c v))=some (1+((qwR (Za.c v):Nat):Int)):=ZkV WF WF;have s:¬(1+((qwR (Za.c v):Nat):Int)<0):=WF
 refine ((YL j p).and ((G).and ((Vp j B).and ((Qr j WF).and (Qr v w))))).mono ?_;rintro k ⟨A,⟨E,C⟩,t,o,l⟩;unfold QE;rw [A 1048576 WF WF,ZEH,m,if_neg I];simp [E,C,t,o,l,z,kn,r,s]
end Go.Proofs.YtmcfegjoccgpoaaGreatDoor
