import Derived.Test.YtpblakfidofgfaaGreatDoorZCtA3
set_option linter.unusedSimpArgs false
set_option linter.unusedVariables false
namespace Go.Proofs.YtpblakfidofgfaaGreatDoor
open Go.RowKit Am
set_option maxHeartbeats 4000000
set_option maxRecDepth 100000
theorem Zew:kT Tryz.prog 148 true Zbv:=wK Tryz.func148 Tryz.ntmps148 Tryz.results148 Zbv.eq_1 (.i .e (hU [] [] [] (hl [0,1] [] [] 1 Vc.eq_1 Vc.eq_2 (fun (i:Int)=>[(5,oI i)]) (.i (hq 8) .e))))
instance:HC 148 (Ty @Zew):=⟨Zew⟩
theorem Zgq:kT Tryz.prog 92 true Zcy:=wK Tryz.func92 Tryz.ntmps92 Tryz.results92 Zcy.eq_1 .e
instance:HC 92 (Ty @Zgq):=⟨Zgq⟩
theorem Zeu:kT Tryz.prog 52 true Zbt:=wK Tryz.func52 Tryz.ntmps52 Tryz.results52 Zbt.eq_1 (.i .e (hU [] [] [] (hl [0,1] [] [] 1 Vb.eq_1 Vb.eq_2 (fun (i:Int)=>[(5,oI i)]) (.i (hq 8) .e))))
instance:HC 52 (Ty @Zeu):=⟨Zeu⟩
theorem Zey:kT Tryz.prog 93 true Kl:=wK Tryz.func93 Tryz.ntmps93 Tryz.results93 Kl.eq_1 .e
instance:HC 93 (Ty @Zey):=⟨Zey⟩
theorem Zda:kT Tryz.prog 53 true Kk:=wK Tryz.func53 Tryz.ntmps53 Tryz.results53 Kk.eq_1 (.i .e (hU [] [] [] (hl [0,1] [] [] 1 Wq.eq_1 Wq.eq_2 (fun (i:Int)=>[(5,oI i)]) (.i (hq 8) .e))))
instance:HC 53 (Ty @Zda):=⟨Zda⟩
theorem Zdb:kT Tryz.prog 16 true Ve:=wK Tryz.func16 Tryz.ntmps16 Tryz.results16 Ve.eq_1 (.i .e (.i .e (.i .e (.i .e (.i .e (.i .e (.i (hf [] [] [] 14) (hf [] [] [] 15))))))))
instance:HC 16 (Ty @Zdb):=⟨Zdb⟩
end Go.Proofs.YtpblakfidofgfaaGreatDoor
