import Derived.Test.YtpblakfidofgfaaGreatDoorZCtA2
set_option linter.unusedSimpArgs false
set_option linter.unusedVariables false
namespace Go.Proofs.YtpblakfidofgfaaGreatDoor
open Go.RowKit Am
set_option maxHeartbeats 4000000
set_option maxRecDepth 100000
theorem Zez:kT Tryz.prog 90 true Zby:=wK Tryz.func90 Tryz.ntmps90 Tryz.results90 Zby.eq_1 (.i .e (hU [] [] [] (hl [0,1] [] [] 1 Vf.eq_1 Vf.eq_2 (fun (i:Int)=>[(5,oI i)]) (.i (hq 8) .e))))
instance:HC 90 (Ty @Zez):=⟨Zez⟩
theorem ZaQ:kT Tryz.prog 50 true Ut:=wK Tryz.func50 Tryz.ntmps50 Tryz.results50 Ut.eq_1 .e
instance:HC 50 (Ty @ZaQ):=⟨ZaQ⟩
theorem Zgv:kT Tryz.prog 147 true Zan:=wK Tryz.func147 Tryz.ntmps147 Tryz.results147 Zan.eq_1 .e
instance:HC 147 (Ty @Zgv):=⟨Zgv⟩
theorem Zex:kT Tryz.prog 91 true Zbx:=wK Tryz.func91 Tryz.ntmps91 Tryz.results91 Zbx.eq_1 (.i .e (hU [] [] [] (hl [0,1] [] [] 1 Vd.eq_1 Vd.eq_2 (fun (i:Int)=>[(5,oI i)]) (.i (hq 8) .e))))
instance:HC 91 (Ty @Zex):=⟨Zex⟩
theorem Zer:kT Tryz.prog 51 true Zbs:=wK Tryz.func51 Tryz.ntmps51 Tryz.results51 Zbs.eq_1 .e
instance:HC 51 (Ty @Zer):=⟨Zer⟩
theorem Zbu:kT Tryz.prog 189 true Jf:=wK Tryz.func189 Tryz.ntmps189 Tryz.results189 Jf.eq_1 (.i .e (hU [] [] [] (hl [0,1] [] [] 1 XL.eq_1 XL.eq_2 (fun (i:Int)=>[(5,oI i)]) (.i (hq 8) .e))))
instance:HC 189 (Ty @Zbu):=⟨Zbu⟩
theorem Zgu:kT Tryz.prog 25 true ZcA:=wK Tryz.func25 Tryz.ntmps25 Tryz.results25 ZcA.eq_1 (.i .e (hU [] [] [] (hl [0,1] [] [] 1 VT.eq_1 VT.eq_2 (fun (i:Int)=>[(5,oI i)]) (.i (hq 8) .e))))
instance:HC 25 (Ty @Zgu):=⟨Zgu⟩
theorem Zc9:kT Tryz.prog 303 true VS:=wK Tryz.func303 Tryz.ntmps303 Tryz.results303 VS.eq_1 .e
instance:HC 303 (Ty @Zc9):=⟨Zc9⟩
theorem Zbw:kT Tryz.prog 272 true Jg:=wK Tryz.func272 Tryz.ntmps272 Tryz.results272 Jg.eq_1 (.i .e (hU [] [] [] (hl [0,1] [] [] 1 XM.eq_1 XM.eq_2 (fun (i:Int)=>[(5,oI i)]) (.i (hq 8) .e))))
instance:HC 272 (Ty @Zbw):=⟨Zbw⟩
theorem Zhs:kT Tryz.prog 227 true ZfG:=wK Tryz.func227 Tryz.ntmps227 Tryz.results227 ZfG.eq_1 .e
instance:HC 227 (Ty @Zhs):=⟨Zhs⟩
theorem Zgr:kT Tryz.prog 190 true Zev:=wK Tryz.func190 Tryz.ntmps190 Tryz.results190 Zev.eq_1 (.i .e (hU [] [] [] (hl [0,1] [] [] 1 VR.eq_1 VR.eq_2 (fun (i:Int)=>[(5,oI i)]) (.i (hq 8) .e))))
instance:HC 190 (Ty @Zgr):=⟨Zgr⟩
theorem ZiN:∀(k:Nat),(kT Tryz.prog 188 true (UX k))/\
  (kT Tryz.prog 149 true (Q2 k)):=by
 intro k
 induction k with
 | zero=>exact ⟨by (repeat intro hM);simp [UX] at hM,by (repeat intro hM);simp [Q2] at hM⟩
 | succ k ih=>
  obtain ⟨ih_w_eqValueS,ih_w_eqValue⟩:=ih;refine ⟨?_, ?_⟩
  ·haveI:HC 188 _:=⟨ih_w_eqValueS⟩;haveI:HC 149 _:=⟨ih_w_eqValue⟩;exact wK Tryz.func188 Tryz.ntmps188 Tryz.results188 UX.eq_2 (.i .e (hU [] [] [] (hl [0,1] [] [] 1 Wp.eq_1 Wp.eq_2 (fun (i:Int)=>[(5,oI i)]) (.i (hq 8) .e))))
  ·haveI:HC 188 _:=⟨ih_w_eqValueS⟩;haveI:HC 149 _:=⟨ih_w_eqValue⟩;exact wK Tryz.func149 Tryz.ntmps149 Tryz.results149 Q2.eq_2 (.i .e (.i .e (.i .e (.i .e (.i .e (.i .e (.i (hf [] [] [] 14) (hf [] [] [] 15))))))))
theorem Zet (k:Nat):kT Tryz.prog 149 true (Q2 k):=(ZiN k).2
instance:HC 149 (Ty @Zet):=⟨Zet⟩
theorem Zgs:kT Tryz.prog 187 true Zcz:=wK Tryz.func187 Tryz.ntmps187 Tryz.results187 Zcz.eq_1 .e
instance:HC 187 (Ty @Zgs):=⟨Zgs⟩
end Go.Proofs.YtpblakfidofgfaaGreatDoor
