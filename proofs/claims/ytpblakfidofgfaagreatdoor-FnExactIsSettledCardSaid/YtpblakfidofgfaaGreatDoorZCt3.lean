import Derived.Test.YtpblakfidofgfaaGreatDoorZCt2
set_option linter.unusedSimpArgs false
set_option linter.unusedVariables false
namespace Go.Proofs.YtpblakfidofgfaaGreatDoor
open Go.RowKit Am
set_option maxHeartbeats 4000000
set_option maxRecDepth 100000
theorem ZaV:kT Tryz.prog 130 true QH:=wK Tryz.func130 Tryz.ntmps130 Tryz.results130 QH.eq_1 .e
instance:HC 130 (Ty @ZaV):=⟨ZaV⟩
theorem Kw:kT Tryz.prog 167 true Zay:=wK Tryz.func167 Tryz.ntmps167 Tryz.results167 Zay.eq_1 .e
instance:HC 167 (Ty @Kw):=⟨Kw⟩
theorem Zdi:kT Tryz.prog 204 true U2:=wK Tryz.func204 Tryz.ntmps204 Tryz.results204 U2.eq_1 (hj [0] [] [] (fun (i:(List ByteArray)×Int)=>[(3,oO 384 i.1.length),(4,oI i.2)]) (hl [0] [] [] 3 ZX.eq_1 ZX.eq_2 (fun (i:(List ByteArray)×Int×Int)=>[(3,oO 384 i.1.length),(4,oI i.2.1),(5,oI i.2.2)]) (.i (hj [0,5] [] [] (fun (i:(List ByteArray)×Int)=>[(3,oO 384 i.1.length),(4,oI i.2)]) (hj [0,3,4,5] [] [384] (fun (i:Bool)=>[(24,oB i)])) (ca:=fun i=>[(384,aT sC i.1)])) .e) (ca:=fun i=>[(384,aT sC i.1)])) (ca:=fun i=>[(384,aT sC i.1)]))
instance:HC 204 (Ty @Zdi):=⟨Zdi⟩
theorem ZbN (k:Nat) (a0:ByteArray) (a1:Int) (r:List ByteArray) (hM:WZ k a0 a1=some r):Ctr Tryz.prog 205 [.one (.str a0),.one (.int .u8 a1)] true [.one (.sl (r.map sC))]:=by
 unfold WZ at hM;exact wM Tryz.func205 Tryz.ntmps205 Tryz.results205 (hj [] [] [] (fun (i:List ByteArray)=>[(5,oO 512 i.length)]) (hl [0,1] [] [] 3 Y8.eq_1 Y8.eq_2 (fun (i:(List ByteArray)×Int×Int)=>[(5,oO 512 i.1.length),(6,oI i.2.1),(7,oI i.2.2)]) (.i (hj [0,1,7] [] [] (fun (i:(List ByteArray)×Int)=>[(5,oO 512 i.1.length),(6,oI i.2)]) (hj [0,1,5,6,7] [] [512] (fun (i:Bool)=>[(25,oB i)])) (ca:=fun i=>[(512,aT sC i.1)])) .e) (ca:=fun i=>[(512,aT sC i.1)])) (ca:=fun i=>[(512,aT sC i)]))
instance:HC 205 (Ty @ZbN):=⟨ZbN⟩
theorem Zdf:kT Tryz.prog 245 true YN:=wK Tryz.func245 Tryz.ntmps245 Tryz.results245 YN.eq_1 .e
instance:HC 245 (Ty @Zdf):=⟨Zdf⟩
theorem ZgF:kT Tryz.prog 206 true JS:=wK Tryz.func206 Tryz.ntmps206 Tryz.results206 JS.eq_1 (hJ [1] [] [] (fun (i:List Int)=>[(6,oO 704 i.length)]) (hl [1,7] [] [832] 2 YQ.eq_1 YQ.eq_2 (fun (i:(List Int)×Int)=>[(6,oO 704 i.1.length),(8,oI i.2)]) (.i (hj [1,6,7,8,9] [] [704,832] (fun (i:Bool)=>[(34,oB i)])) .e) (ca:=fun i=>[(704,aT iC i.1)])) (ca:=fun i=>[(704,aT iC i)]))
instance:HC 206 (Ty @ZgF):=⟨ZgF⟩
theorem ZbG:kT Tryz.prog 286 true Jl:=wK Tryz.func286 Tryz.ntmps286 Tryz.results286 Jl.eq_1 (hj [] [] [] (fun (i:Bool)=>[(2,oB i)]))
instance:HC 286 (Ty @ZbG):=⟨ZbG⟩
theorem Zka:∀(k:Nat),(kT Tryz.prog 287 true (XA k)):=by
 intro k
 induction k with
 | zero=>(repeat intro hM);simp [XA] at hM
 | succ k ih_s_DepthOf=>
  ·haveI:HC 287 _:=⟨ih_s_DepthOf⟩;exact wK Tryz.func287 Tryz.ntmps287 Tryz.results287 XA.eq_2 (hj [] [] [] (fun (i:Int)=>[(3,oI i)]) (hl [1] [1] [] 2 Vj.eq_1 Vj.eq_2 (fun (i:Int×Int)=>[(3,oI i.1),(4,oI i.2)])))
theorem ZeY (k:Nat):kT Tryz.prog 287 true (XA k):=(Zka k)
instance:HC 287 (Ty @ZeY):=⟨ZeY⟩
theorem KF:kT Tryz.prog 249 true Vv:=wK Tryz.func249 Tryz.ntmps249 Tryz.results249 Vv.eq_1 (hU [] [] [] (hl [0] [] [] 1 Yw.eq_1 Yw.eq_2 (fun (i:Int)=>[(3,oI i)]) (.i (hf [0,3] [] [] 4 (ho [[],[],[0,1],[],[],[3,4],[3,4,5],[0,1,2,3,4,5,6]])) .e)))
instance:HC 249 (Ty @KF):=⟨KF⟩
theorem ZbH:kT Tryz.prog 208 true VZ:=wK Tryz.func208 Tryz.ntmps208 Tryz.results208 VZ.eq_1 (hU [0] [] [] (hl [0] [] [] 1 XN.eq_1 XN.eq_2 (fun (i:Int)=>[(3,oI i)])) (hj [] [] [] (fun (i:Bool)=>[(2,oB i)])))
instance:HC 208 (Ty @ZbH):=⟨ZbH⟩
theorem Zdg:kT Tryz.prog 310 true V0:=wK Tryz.func310 Tryz.ntmps310 Tryz.results310 V0.eq_1 (hj [] [] [] (fun (i:Bool)=>[(4,oB i)]))
instance:HC 310 (Ty @Zdg):=⟨Zdg⟩
theorem Ks:kT Tryz.prog 288 true Wr:=wK Tryz.func288 Tryz.ntmps288 Tryz.results288 Wr.eq_1 (hU [] [] [] (hl [0] [] [] 1 Qs.eq_1 Qs.eq_2 (fun (i:Int)=>[(3,oI i)]) (.i (hj [0,3] [] [] (fun (i:Bool)=>[(40,oB i)]) (hq 27)) .e)))
instance:HC 288 (Ty @Ks):=⟨Ks⟩
theorem ZeI:kT Tryz.prog 248 true ZbE:=wK Tryz.func248 Tryz.ntmps248 Tryz.results248 ZbE.eq_1 (hj [1] [1] [] (fun (i:Bool)=>[(15,oB i)]) .e (.i .e (hU [] [] [] (hl [1] [1] [] 1 QA.eq_1 QA.eq_2 (fun (i:Int)=>[(3,oI i)]) (.i (hU [1,3] [1] [] (hj [1,3,4] [1,4] [] (fun (i:Bool)=>[(40,oB i)]) .e (.i .e (hl [1,3,4] [1,4] [] 1 X4.eq_1 X4.eq_2 (fun (i:Int)=>[(5,oI i)]))))) .e)))))
instance:HC 248 (Ty @ZeI):=⟨ZeI⟩
theorem Zlt:∀(k:Nat),(kT Tryz.prog 247 true (JR k))/\
  (kT Tryz.prog 207 true (ZK k)):=by
 intro k
 induction k with
 | zero=>exact ⟨by (repeat intro hM);simp [JR] at hM,by (repeat intro hM);simp [ZK] at hM⟩
 | succ k ih=>
  obtain ⟨ih_s_l3List,ih_s_IsValidValue⟩:=ih;refine ⟨?_, ?_⟩
  ·haveI:HC 247 _:=⟨ih_s_l3List⟩;haveI:HC 207 _:=⟨ih_s_IsValidValue⟩;exact wK Tryz.func247 Tryz.ntmps247 Tryz.results247 JR.eq_2 (hU [1] [1] [] (hl [1] [1] [] 1 VW.eq_1 VW.eq_2 (fun (i:Int)=>[(3,oI i)]) (.i (hj [1,3] [1] [] (fun (i:Bool)=>[(26,oB i)])) .e)) (hj [] [] [] (fun (i:Bool)=>[(2,oB i)])))
  ·haveI:HC 247 _:=⟨ih_s_l3List⟩;haveI:HC 207 _:=⟨ih_s_IsValidValue⟩;exact wK Tryz.func207 Tryz.ntmps207 Tryz.results207 ZK.eq_2 (hj [1] [1] [] (fun (i:Bool)=>[(26,oB i)]) .e (.i .e (hj [1] [1] [] (fun (i:Bool)=>[(44,oB i)]) .e (.i .e (.i .e (.i (hj [] [] [] (fun (i:Bool)=>[(2,oB i)])) (.i (hj [] [] [] (fun (i:Bool)=>[(2,oB i)])) (.i (hj [] [] [] (fun (i:Bool)=>[(2,oB i)])) (.i (hj [] [] [] (fun (i:Bool)=>[(2,oB i)])) .e)))))))))
theorem JT (k:Nat):kT Tryz.prog 207 true (ZK k):=(Zlt k).2
instance:HC 207 (Ty @JT):=⟨JT⟩
end Go.Proofs.YtpblakfidofgfaaGreatDoor
