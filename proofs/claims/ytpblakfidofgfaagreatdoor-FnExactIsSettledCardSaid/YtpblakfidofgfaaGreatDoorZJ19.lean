import Derived.Test.YtpblakfidofgfaaGreatDoorZJ6
set_option linter.unusedSimpArgs false
set_option linter.unusedVariables false
namespace Go.Proofs.YtpblakfidofgfaaGreatDoor
open Go.RowKit Am
set_option maxHeartbeats 4000000
set_option maxRecDepth 100000
theorem Zgp:kT Tryz.prog 120 true Zam:=wK Tryz.func120 Tryz.ntmps120 Tryz.results120 Zam.eq_1 .e
instance:HC 120 (Ty @Zgp):=⟨Zgp⟩
theorem Zeq:kT Tryz.prog 73 true Zbr:=wK Tryz.func73 Tryz.ntmps73 Tryz.results73 Zbr.eq_1 (.i .e (hJ [] [] [] (fun (i:Int)=>[(1,oI i)]) (hl [0] [] [] 2 Va.eq_1 Va.eq_2 (fun (i:Int×Int)=>[(1,oI i.1),(5,oI i.2)]))))
instance:HC 73 (Ty @Zeq):=⟨Zeq⟩
theorem ZaP:kT Tryz.prog 38 true Us:=wK Tryz.func38 Tryz.ntmps38 Tryz.results38 Us.eq_1 .e
instance:HC 38 (Ty @ZaP):=⟨ZaP⟩
theorem Zgo:kT Tryz.prog 121 true Zal:=wK Tryz.func121 Tryz.ntmps121 Tryz.results121 Zal.eq_1 .e
instance:HC 121 (Ty @Zgo):=⟨Zgo⟩
theorem Zeo:kT Tryz.prog 74 true Zbq:=wK Tryz.func74 Tryz.ntmps74 Tryz.results74 Zbq.eq_1 (.i .e (hJ [] [] [] (fun (i:Int)=>[(1,oI i)]) (hl [0] [] [] 2 W8.eq_1 W8.eq_2 (fun (i:Int×Int)=>[(1,oI i.1),(5,oI i.2)]))))
instance:HC 74 (Ty @Zeo):=⟨Zeo⟩
theorem Zei:kT Tryz.prog 39 true Zbl:=wK Tryz.func39 Tryz.ntmps39 Tryz.results39 Zbl.eq_1 .e
instance:HC 39 (Ty @Zei):=⟨Zei⟩
theorem Zbn:kT Tryz.prog 163 true Jd:=wK Tryz.func163 Tryz.ntmps163 Tryz.results163 Jd.eq_1 (.i .e (hJ [] [] [] (fun (i:Int)=>[(1,oI i)]) (hl [0] [] [] 2 XK.eq_1 XK.eq_2 (fun (i:Int×Int)=>[(1,oI i.1),(5,oI i.2)]))))
instance:HC 163 (Ty @Zbn):=⟨Zbn⟩
theorem Zgn:kT Tryz.prog 123 true Zcx:=wK Tryz.func123 Tryz.ntmps123 Tryz.results123 Zcx.eq_1 .e
instance:HC 123 (Ty @Zgn):=⟨Zgn⟩
theorem Zbp:kT Tryz.prog 233 true Je:=wK Tryz.func233 Tryz.ntmps233 Tryz.results233 Je.eq_1 .e
instance:HC 233 (Ty @Zbp):=⟨Zbp⟩
theorem Zhp:kT Tryz.prog 197 true ZdC:=wK Tryz.func197 Tryz.ntmps197 Tryz.results197 ZdC.eq_1 .e
instance:HC 197 (Ty @Zhp):=⟨Zhp⟩
theorem Zgk:kT Tryz.prog 164 true Zem:=wK Tryz.func164 Tryz.ntmps164 Tryz.results164 Zem.eq_1 (.i .e (hJ [] [] [] (fun (i:Int)=>[(1,oI i)]) (hl [0] [] [] 2 VQ.eq_1 VQ.eq_2 (fun (i:Int×Int)=>[(1,oI i.1),(5,oI i.2)]))))
instance:HC 164 (Ty @Zgk):=⟨Zgk⟩
theorem ZiK:∀(k:Nat),(kT Tryz.prog 162 true (UW k))/\
  (kT Tryz.prog 124 true (Q1 k)):=by
 intro k
 induction k with
 | zero=>exact ⟨by (repeat intro hM);simp [UW] at hM,by (repeat intro hM);simp [Q1] at hM⟩
 | succ k ih=>
  obtain ⟨ih_w_szValueS,ih_w_szValue⟩:=ih;refine ⟨?_, ?_⟩
  ·haveI:HC 162 _:=⟨ih_w_szValueS⟩;haveI:HC 124 _:=⟨ih_w_szValue⟩;exact wK Tryz.func162 Tryz.ntmps162 Tryz.results162 UW.eq_2 (.i .e (hJ [] [] [] (fun (i:Int)=>[(1,oI i)]) (hl [0] [] [] 2 Wn.eq_1 Wn.eq_2 (fun (i:Int×Int)=>[(1,oI i.1),(5,oI i.2)]))))
  ·haveI:HC 162 _:=⟨ih_w_szValueS⟩;haveI:HC 124 _:=⟨ih_w_szValue⟩;exact wK Tryz.func124 Tryz.ntmps124 Tryz.results124 Q1.eq_2 .e
theorem Zek (k:Nat):kT Tryz.prog 124 true (Q1 k):=(ZiK k).2
instance:HC 124 (Ty @Zek):=⟨Zek⟩
theorem Zgl:kT Tryz.prog 161 true Zcw:=wK Tryz.func161 Tryz.ntmps161 Tryz.results161 Zcw.eq_1 .e
instance:HC 161 (Ty @Zgl):=⟨Zgl⟩
set_option maxHeartbeats 4000000
set_option maxRecDepth 100000
theorem Zen:kT Tryz.prog 122 true Zbo:=wK Tryz.func122 Tryz.ntmps122 Tryz.results122 Zbo.eq_1 (.i .e (hJ [] [] [] (fun (i:Int)=>[(1,oI i)]) (hl [0] [] [] 2 W7.eq_1 W7.eq_2 (fun (i:Int×Int)=>[(1,oI i.1),(5,oI i.2)]))))
instance:HC 122 (Ty @Zen):=⟨Zen⟩
theorem Zgj:kT Tryz.prog 75 true Zcv:=wK Tryz.func75 Tryz.ntmps75 Tryz.results75 Zcv.eq_1 .e
instance:HC 75 (Ty @Zgj):=⟨Zgj⟩
theorem Zel:kT Tryz.prog 40 true Zbm:=wK Tryz.func40 Tryz.ntmps40 Tryz.results40 Zbm.eq_1 (.i .e (hJ [] [] [] (fun (i:Int)=>[(1,oI i)]) (hl [0] [] [] 2 W6.eq_1 W6.eq_2 (fun (i:Int×Int)=>[(1,oI i.1),(5,oI i.2)]))))
instance:HC 40 (Ty @Zel):=⟨Zel⟩
theorem Zep:kT Tryz.prog 76 true Kj:=wK Tryz.func76 Tryz.ntmps76 Tryz.results76 Kj.eq_1 .e
instance:HC 76 (Ty @Zep):=⟨Zep⟩
theorem Zc7:kT Tryz.prog 41 true Ki:=wK Tryz.func41 Tryz.ntmps41 Tryz.results41 Ki.eq_1 (.i .e (hJ [] [] [] (fun (i:Int)=>[(1,oI i)]) (hl [0] [] [] 2 Wo.eq_1 Wo.eq_2 (fun (i:Int×Int)=>[(1,oI i.1),(5,oI i.2)]))))
instance:HC 41 (Ty @Zc7):=⟨Zc7⟩
theorem Zc8:kT Tryz.prog 12 true W9:=wK Tryz.func12 Tryz.ntmps12 Tryz.results12 W9.eq_1 .e
instance:HC 12 (Ty @Zc8):=⟨Zc8⟩
theorem Zgi:kT Tryz.prog 137 true Zak:=wK Tryz.func137 Tryz.ntmps137 Tryz.results137 Zak.eq_1 .e
instance:HC 137 (Ty @Zgi):=⟨Zgi⟩
theorem Zeh:kT Tryz.prog 84 true Zbk:=wK Tryz.func84 Tryz.ntmps84 Tryz.results84 Zbk.eq_1 (hj [] [] [] (fun (i:List Zs)=>[(3,oO 448 i.length)]) (hl [0] [] [] 2 W5.eq_1 W5.eq_2 (fun (i:(List Zs)×Int)=>[(3,oO 448 i.1.length),(4,oI i.2)]) (ca:=fun i=>[(448,aT Zs.c i.1)])) (ca:=fun i=>[(448,aT Zs.c i)]))
instance:HC 84 (Ty @Zeh):=⟨Zeh⟩
theorem ZaO:kT Tryz.prog 44 true Ur:=wK Tryz.func44 Tryz.ntmps44 Tryz.results44 Ur.eq_1 .e
instance:HC 44 (Ty @ZaO):=⟨ZaO⟩
theorem Zgh:kT Tryz.prog 138 true Zaj:=wK Tryz.func138 Tryz.ntmps138 Tryz.results138 Zaj.eq_1 .e
instance:HC 138 (Ty @Zgh):=⟨Zgh⟩
theorem Zef:kT Tryz.prog 85 true Zbj:=wK Tryz.func85 Tryz.ntmps85 Tryz.results85 Zbj.eq_1 (hj [] [] [] (fun (i:List ZD)=>[(3,oO 448 i.length)]) (hl [0] [] [] 2 W4.eq_1 W4.eq_2 (fun (i:(List ZD)×Int)=>[(3,oO 448 i.1.length),(4,oI i.2)]) (ca:=fun i=>[(448,aT ZD.c i.1)])) (ca:=fun i=>[(448,aT ZD.c i)]))
instance:HC 85 (Ty @Zef):=⟨Zef⟩
theorem Zd9:kT Tryz.prog 45 true Zbe:=wK Tryz.func45 Tryz.ntmps45 Tryz.results45 Zbe.eq_1 .e
instance:HC 45 (Ty @Zd9):=⟨Zd9⟩
theorem Zbg:kT Tryz.prog 178 true Jb:=wK Tryz.func178 Tryz.ntmps178 Tryz.results178 Jb.eq_1 (hj [] [] [] (fun (i:List ByteArray)=>[(3,oO 448 i.length)]) (hl [0] [] [] 2 XI.eq_1 XI.eq_2 (fun (i:(List ByteArray)×Int)=>[(3,oO 448 i.1.length),(4,oI i.2)]) (ca:=fun i=>[(448,aT sC i.1)])) (ca:=fun i=>[(448,aT sC i)]))
instance:HC 178 (Ty @Zbg):=⟨Zbg⟩
theorem Zgg:kT Tryz.prog 140 true Zcu:=wK Tryz.func140 Tryz.ntmps140 Tryz.results140 Zcu.eq_1 (hj [] [] [] (fun (i:List Int)=>[(3,oO 448 i.length)]) (hl [0] [] [] 2 VP.eq_1 VP.eq_2 (fun (i:(List Int)×Int)=>[(3,oO 448 i.1.length),(4,oI i.2)]) (ca:=fun i=>[(448,aT iC i.1)])) (ca:=fun i=>[(448,aT iC i)]))
instance:HC 140 (Ty @Zgg):=⟨Zgg⟩
end Go.Proofs.YtpblakfidofgfaaGreatDoor
