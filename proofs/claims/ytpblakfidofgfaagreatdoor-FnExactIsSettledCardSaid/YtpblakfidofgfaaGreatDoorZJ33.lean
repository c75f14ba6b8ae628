import Derived.Test.YtpblakfidofgfaaGreatDoorZJ29
import Derived.Test.YtpblakfidofgfaaGreatDoorZJ27
import Derived.Test.YtpblakfidofgfaaGreatDoorZJ28
set_option linter.unusedSimpArgs false
set_option linter.unusedVariables false
namespace Go.Proofs.YtpblakfidofgfaaGreatDoor
open Go.RowKit Am
set_option maxHeartbeats 4000000
set_option maxRecDepth 100000
theorem ZmX:∀(k:Nat),(kT Tryz.prog 186 true (Jw k)):=by
 intro k
 induction k with
 | zero=>(repeat intro hM);simp [Jw] at hM
 | succ k ih_i_equal=>
  ·haveI:HC 186 _:=⟨ih_i_equal⟩;exact wK Tryz.func186 Tryz.ntmps186 Tryz.results186 Jw.eq_2 (hj [2,3,4] [3,4] [] (fun (i:Bool)=>[(60,oB i)]) .e (.i .e (hU [2,3,4] [3,4] [] (hl [2,3,4,63] [3,4] [] 1 U5.eq_1 U5.eq_2 (fun (i:Int)=>[(64,oI i)]) (.i (hq 11) .e)) (hU [] [] [] (hl [2,3,4,83] [3,4] [] 1 Ud.eq_1 Ud.eq_2 (fun (i:Int)=>[(84,oI i)]) (.i (hj [2,3,4,83,84] [3,4] [] (fun (i:Bool)=>[(119,oB i)]) (hq 29)) .e))))))
theorem Zh2 (k:Nat):kT Tryz.prog 186 true (Jw k):=(ZmX k)
instance:HC 186 (Ty @Zh2):=⟨Zh2⟩
set_option maxHeartbeats 4000000
set_option maxRecDepth 100000
theorem Za3:kT Tryz.prog 144 true Xn:=wK Tryz.func144 Tryz.ntmps144 Tryz.results144 Xn.eq_1 .e
instance:HC 144 (Ty @Za3):=⟨Za3⟩
set_option maxHeartbeats 4000000
set_option maxRecDepth 100000
theorem Zls:∀(k:Nat),(kT Tryz.prog 173 true (Vs k)):=by
 intro k
 induction k with
 | zero=>(repeat intro hM);simp [Vs] at hM
 | succ k ih_s_l3Same=>
  ·haveI:HC 173 _:=⟨ih_s_l3Same⟩;exact wK Tryz.func173 Tryz.ntmps173 Tryz.results173 Vs.eq_2 (hj [2,3,4] [3,4] [] (fun (i:Bool)=>[(60,oB i)]) .e (.i .e (hU [2,3,4] [3,4] [] (hl [2,3,4] [3,4] [] 1 VV.eq_1 VV.eq_2 (fun (i:Int)=>[(7,oI i)]) (.i (hq 11) .e)) (hU [] [] [] (hl [2,3,4] [3,4] [] 1 WW.eq_1 WW.eq_2 (fun (i:Int)=>[(8,oI i)]) (.i (hj [2,3,4,8] [3,4] [] (fun (i:Bool)=>[(120,oB i)]) (hq 29)) .e))))))
theorem Zgz (k:Nat):kT Tryz.prog 173 true (Vs k):=(Zls k)
instance:HC 173 (Ty @Zgz):=⟨Zgz⟩
set_option maxHeartbeats 4000000
set_option maxRecDepth 100000
theorem ZaW:kT Tryz.prog 132 true Xi:=wK Tryz.func132 Tryz.ntmps132 Tryz.results132 Xi.eq_1 .e
instance:HC 132 (Ty @ZaW):=⟨ZaW⟩
set_option maxHeartbeats 4000000
set_option maxRecDepth 100000
theorem J7:kT Tryz.prog 81 true Kt:=wK Tryz.func81 Tryz.ntmps81 Tryz.results81 Kt.eq_1 (.i .e (hq 8 (hj [] [] [] (fun (i:Bool)=>[(8,oB i)]) (hq 18))))
instance:HC 81 (Ty @J7):=⟨J7⟩
end Go.Proofs.YtpblakfidofgfaaGreatDoor
