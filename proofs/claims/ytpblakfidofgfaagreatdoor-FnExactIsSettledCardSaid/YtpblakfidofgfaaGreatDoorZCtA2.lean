import Derived.Test.YtpblakfidofgfaaGreatDoorZJ19
set_option linter.unusedSimpArgs false
set_option linter.unusedVariables false
namespace Go.Proofs.YtpblakfidofgfaaGreatDoor
open Go.RowKit Am
set_option maxHeartbeats 4000000
set_option maxRecDepth 100000
theorem Zc4:kT Tryz.prog 289 true VO:=wK Tryz.func289 Tryz.ntmps289 Tryz.results289 VO.eq_1 .e
instance:HC 289 (Ty @Zc4):=⟨Zc4⟩
theorem Zbi:kT Tryz.prog 251 true Jc:=wK Tryz.func251 Tryz.ntmps251 Tryz.results251 Jc.eq_1 (hj [] [] [] (fun (i:List Zl)=>[(3,oO 448 i.length)]) (hl [0] [] [] 2 XJ.eq_1 XJ.eq_2 (fun (i:(List Zl)×Int)=>[(3,oO 448 i.1.length),(4,oI i.2)]) (ca:=fun i=>[(448,aT Zl.c i.1)])) (ca:=fun i=>[(448,aT Zl.c i)]))
instance:HC 251 (Ty @Zbi):=⟨Zbi⟩
theorem Zhm:kT Tryz.prog 213 true ZfF:=wK Tryz.func213 Tryz.ntmps213 Tryz.results213 ZfF.eq_1 .e
instance:HC 213 (Ty @Zhm):=⟨Zhm⟩
theorem Zgd:kT Tryz.prog 179 true Zed:=wK Tryz.func179 Tryz.ntmps179 Tryz.results179 Zed.eq_1 (hj [] [] [] (fun (i:List ZM)=>[(3,oO 448 i.length)]) (hl [0] [] [] 2 VN.eq_1 VN.eq_2 (fun (i:(List ZM)×Int)=>[(3,oO 448 i.1.length),(4,oI i.2)]) (ca:=fun i=>[(448,aT ZM.c i.1)])) (ca:=fun i=>[(448,aT ZM.c i)]))
instance:HC 179 (Ty @Zgd):=⟨Zgd⟩
theorem ZiG:∀(k:Nat),(kT Tryz.prog 177 true (UU k))/\
  (kT Tryz.prog 141 true (Q0 k)):=by
 intro k
 induction k with
 | zero=>exact ⟨by (repeat intro hM);simp [UU] at hM,by (repeat intro hM);simp [Q0] at hM⟩
 | succ k ih=>
  obtain ⟨ih_w_toValueS,ih_w_toValue⟩:=ih;refine ⟨?_, ?_⟩
  ·haveI:HC 177 _:=⟨ih_w_toValueS⟩;haveI:HC 141 _:=⟨ih_w_toValue⟩;exact wK Tryz.func177 Tryz.ntmps177 Tryz.results177 UU.eq_2 (hj [] [] [] (fun (i:List Za)=>[(3,oO 448 i.length)]) (hl [0] [] [] 2 Wl.eq_1 Wl.eq_2 (fun (i:(List Za)×Int)=>[(3,oO 448 i.1.length),(4,oI i.2)]) (ca:=fun i=>[(448,aT Za.c i.1)])) (ca:=fun i=>[(448,aT Za.c i)]))
  ·haveI:HC 177 _:=⟨ih_w_toValueS⟩;haveI:HC 141 _:=⟨ih_w_toValue⟩;exact wK Tryz.func141 Tryz.ntmps141 Tryz.results141 Q0.eq_2 .e
theorem Zeb (k:Nat):kT Tryz.prog 141 true (Q0 k):=(ZiG k).2
instance:HC 141 (Ty @Zeb):=⟨Zeb⟩
theorem Zge:kT Tryz.prog 176 true Zct:=wK Tryz.func176 Tryz.ntmps176 Tryz.results176 Zct.eq_1 .e
instance:HC 176 (Ty @Zge):=⟨Zge⟩
theorem Zee:kT Tryz.prog 139 true Zbh:=wK Tryz.func139 Tryz.ntmps139 Tryz.results139 Zbh.eq_1 (hj [] [] [] (fun (i:List ZQ)=>[(3,oO 448 i.length)]) (hl [0] [] [] 2 W3.eq_1 W3.eq_2 (fun (i:(List ZQ)×Int)=>[(3,oO 448 i.1.length),(4,oI i.2)]) (ca:=fun i=>[(448,aT ZQ.c i.1)])) (ca:=fun i=>[(448,aT ZQ.c i)]))
instance:HC 139 (Ty @Zee):=⟨Zee⟩
theorem Zgc:kT Tryz.prog 86 true Zcs:=wK Tryz.func86 Tryz.ntmps86 Tryz.results86 Zcs.eq_1 .e
instance:HC 86 (Ty @Zgc):=⟨Zgc⟩
theorem Zec:kT Tryz.prog 46 true Zbf:=wK Tryz.func46 Tryz.ntmps46 Tryz.results46 Zbf.eq_1 (hj [] [] [] (fun (i:List ZC)=>[(3,oO 448 i.length)]) (hl [0] [] [] 2 W1.eq_1 W1.eq_2 (fun (i:(List ZC)×Int)=>[(3,oO 448 i.1.length),(4,oI i.2)]) (ca:=fun i=>[(448,aT ZC.c i.1)])) (ca:=fun i=>[(448,aT ZC.c i)]))
instance:HC 46 (Ty @Zec):=⟨Zec⟩
theorem Zeg:kT Tryz.prog 87 true Kh:=wK Tryz.func87 Tryz.ntmps87 Tryz.results87 Kh.eq_1 .e
instance:HC 87 (Ty @Zeg):=⟨Zeg⟩
theorem Zc5:kT Tryz.prog 47 true Kg:=wK Tryz.func47 Tryz.ntmps47 Tryz.results47 Kg.eq_1 (hj [] [] [] (fun (i:List Zm)=>[(3,oO 448 i.length)]) (hl [0] [] [] 2 Wm.eq_1 Wm.eq_2 (fun (i:(List Zm)×Int)=>[(3,oO 448 i.1.length),(4,oI i.2)]) (ca:=fun i=>[(448,aT Zm.c i.1)])) (ca:=fun i=>[(448,aT Zm.c i)]))
instance:HC 47 (Ty @Zc5):=⟨Zc5⟩
theorem Zc6:kT Tryz.prog 14 true Ys:=wK Tryz.func14 Tryz.ntmps14 Tryz.results14 Ys.eq_1 .e
instance:HC 14 (Ty @Zc6):=⟨Zc6⟩
theorem Zgw:kT Tryz.prog 146 true Zao:=wK Tryz.func146 Tryz.ntmps146 Tryz.results146 Zao.eq_1 .e
instance:HC 146 (Ty @Zgw):=⟨Zgw⟩
end Go.Proofs.YtpblakfidofgfaaGreatDoor
