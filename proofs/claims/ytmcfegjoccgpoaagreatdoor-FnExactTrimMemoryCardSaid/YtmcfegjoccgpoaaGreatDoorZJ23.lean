import Derived.Test.YtmcfegjoccgpoaaGreatDoorZJ21
import Derived.Test.YtmcfegjoccgpoaaGreatDoorZJ22
set_option linter.unusedSimpArgs false
set_option linter.unusedVariables false
set_option maxHeartbeats 4000000
set_option maxRecDepth 100000
namespace Go.Proofs.YtmcfegjoccgpoaaGreatDoor
open Go.Proofs.Tryz
open Go.RowKit Am
theorem ZdZ (k:Nat) (a0:Zc) (r:List Ma) (hM:Zb9 k a0=some r):Ctr Tryz.prog 137 [.agg (Zc.c a0)] true [.one (.sl (r.map sC))]:=by
 unfold Zb9 at hM;refine ZfF func137 ntmps137 results137 λN w0 hbad F=> ?_;refine S1 ?_;refine S1 ?_;refine Zp λK h=> ?_;simp [go_sem,F];refine ZvZ ?_;simp [go_sem,F];refine h _ ?_;obtain ⟨l,j,hM⟩:=bind_some hM;refine Zp λK h=> ?_;simp [go_sem,F];refine Zho [] (ren [(31000,320)]) (ren [(82,8),(83,3)]) (ren [(30000,704)]) (ZgT k a0 [] ([]:List Ma) l j) ?_;simp [go_sem,F];exact au
instance:HC 137 (Ty @ZdZ):=⟨ZdZ⟩
theorem ZdO:kT Tryz.prog 80 true Vf:=wK func80 ntmps80 results80 Vf.eq_1 .e
instance:HC 80 (Ty @ZdO):=⟨ZdO⟩
instance:UV 205 true Vh:=⟨wK func205 ntmps205 results205 Vh.eq_1 (hU [0] [] [] (hl [0] [] [] 1 QW.eq_1 QW.eq_2 (λ(i:Int)=>[(3,oI i)]) (.i (hj [0,3] [] [] (λ(i:Bool)=>[(19,oB i)])) .e)))⟩
instance:UV 280 true ZS:=⟨wK func280 ntmps280 results280 ZS.eq_1 (.i .e (hj [3] [] [] (λ(i:Bool)=>[(6,oB i)]) .e (.i .e (hj [3] [] [] (λ(i:Bool)=>[(12,oB i)]) .e (.i .e (hj [3] [] [] (λ(i:Bool)=>[(20,oB i)])))))))⟩
instance:UV 243 true JM:=⟨wK func243 ntmps243 results243 JM.eq_1 (hj [0] [] [] (λ(i:Bool)=>[(4,oB i)]))⟩
theorem Zj7:∀(k:Nat),(kT Tryz.prog 252 true (X2 k)):=by
 intro k
 induction k with
 | zero=>(repeat intro hM);simp [X2] at hM
 | succ k j=>
  ·haveI:HC 252 _:=⟨j⟩;exact wK func252 ntmps252 results252 X2.eq_2 (hj [] [] [] (λ(i:Int)=>[(3,oI i)]) (hl [7,8] [] [] 2 Xm.eq_1 Xm.eq_2 (λ(i:Int×Int)=>[(3,oI i.1),(9,oI i.2)])))
theorem ZdW (k:Nat):kT Tryz.prog 252 true (X2 k):=(Zj7 k)
instance:HC 252 (Ty @ZdW):=⟨ZdW⟩
theorem ZdP (a0:Ma) (a1:Int) (r:List Ma) (hM:VL a0 a1=some r):Ctr Tryz.prog 211 [.one (.str a0),.one (.int .u8 a1)] true [.one (.sl (r.map sC))]:=by
 unfold VL at hM;exact wM func211 ntmps211 results211 .e
instance:HC 211 (Ty @ZdP):=⟨ZdP⟩
instance:UV 212 true JJ:=⟨wK func212 ntmps212 results212 JJ.eq_1 (hJ [1] [] [] (λ(i:List Int)=>[(7,oO 896 i.length)]) (hl [1,15,16] [] [832] 2 YX.eq_1 YX.eq_2 (λ(i:(List Int)×Int)=>[(7,oO 896 i.1.length),(17,oI i.2)]) (ca:=λi=>[(896,aT iC i.1)])) (ca:=λi=>[(896,aT iC i)]))⟩
theorem Zmg:∀(k:Nat),(kT Tryz.prog 202 true (Xx k)):=by
 intro k
 induction k with
 | zero=>(repeat intro hM);simp [Xx] at hM
 | succ k j=>
  ·haveI:HC 202 _:=⟨j⟩;exact wK func202 ntmps202 results202 Xx.eq_2 (hj [1,2,5] [2] [512] (λ(i:Bool)=>[(18,oB i)]) .e (.i .e (hj [] [] [] (λ(i:List Ma)=>[(5,oO 512 i.length)]) (hl [1,2] [2] [] 2 Q3.eq_1 Q3.eq_2 (λ(i:(List Ma)×Int)=>[(5,oO 512 i.1.length),(6,oI i.2)]) (.i (hj [1,2,5,6] [2] [512] (λ(i:List Ma)=>[(7,oL sC i)]) (hj [1,2,5,6,7] [2] [512] (λ(i:Bool)=>[(43,oB i)]) .e (.i (hf [1,2,5,6] [2] [512] 9 (ho [[],[],[0,1],[10002816],[3],[3,4],[0,1,2,3,4,5],[0,1,2,3,4,5,6]])) .e))) .e) (ca:=λi=>[(512,aT sC i.1)])) (ca:=λi=>[(512,aT sC i)]))))
theorem Zgo (k:Nat):kT Tryz.prog 202 true (Xx k):=(Zmg k)
instance:HC 202 (Ty @Zgo):=⟨Zgo⟩
theorem Zmi:∀(k:Nat),(kT Tryz.prog 231 true (Uk k)):=by
 intro k
 induction k with
 | zero=>(repeat intro hM);simp [Uk] at hM
 | succ k j=>
  ·haveI:HC 231 _:=⟨j⟩;exact wK func231 ntmps231 results231 Uk.eq_2 (hj [] [] [] (λ(i:Int)=>[(1,oI i)]) (hl [2] [2] [] 2 WH.eq_1 WH.eq_2 (λ(i:Int×Int)=>[(1,oI i.1),(5,oI i.2)]) (hj [1,2,5] [2] [] (λ(i:Bool)=>[(16,oB i)]))))
theorem Zgx (k:Nat):kT Tryz.prog 231 true (Uk k):=(Zmi k)
instance:HC 231 (Ty @Zgx):=⟨Zgx⟩
instance:UV 273 true ZbW:=⟨wK func273 ntmps273 results273 ZbW.eq_1 .e⟩
theorem ZjK:∀(k:Nat),(kT Tryz.prog 232 true (Xj k)):=by
 intro k
 induction k with
 | zero=>(repeat intro hM);simp [Xj] at hM
 | succ k j=>
  ·haveI:HC 232 _:=⟨j⟩;exact wK func232 ntmps232 results232 Xj.eq_2 (hj [] [] [] (λ(i:Int)=>[(3,oI i)]) (hl [1] [1] [] 2 Xi.eq_1 Xi.eq_2 (λ(i:Int×Int)=>[(3,oI i.1),(4,oI i.2)])))
theorem Zdv (k:Nat):kT Tryz.prog 232 true (Xj k):=(ZjK k)
instance:HC 232 (Ty @Zdv):=⟨Zdv⟩
instance:UV 274 true KD:=⟨wK func274 ntmps274 results274 KD.eq_1 (.i (hj [] [] [] (λ(i:Bool)=>[(2,oB i)])) (.i (hj [] [] [] (λ(i:Bool)=>[(2,oB i)])) (.i (hj [] [] [] (λ(i:Bool)=>[(2,oB i)])) (.i (hj [] [] [] (λ(i:Bool)=>[(2,oB i)])) (.i (hj [] [] [] (λ(i:Bool)=>[(2,oB i)])) (.i (hj [] [] [] (λ(i:Bool)=>[(2,oB i)])) (hj [1,3,8] [1] [] (λ(i:Bool)=>[(91,oB i)]) .e (.i (hj [] [] [] (λ(i:Bool)=>[(2,oB i)])) (.i (hj [] [] [] (λ(i:Bool)=>[(2,oB i)])) .e)))))))))⟩
theorem ZnJ:∀(k:Nat),(kT Tryz.prog 233 true (Vy k)):=by
 intro k
 induction k with
 | zero=>(repeat intro hM);simp [Vy] at hM
 | succ k j=>
  ·haveI:HC 233 _:=⟨j⟩;exact wK func233 ntmps233 results233 Vy.eq_2 (hU [1] [1] [] (hl [1] [1] [] 1 UT.eq_1 UT.eq_2 (λ(i:Int)=>[(3,oI i)])))
theorem ZiJ (k:Nat):kT Tryz.prog 233 true (Vy k):=(ZnJ k)
instance:HC 233 (Ty @ZiJ):=⟨ZiJ⟩
instance:UV 193 true W9:=⟨wK func193 ntmps193 results193 W9.eq_1 (hj [] [] [] (λ(i:Bool)=>[(2,oB i)]))⟩
theorem Zmj:∀(k:Nat),(kT Tryz.prog 277 true (X6 k)):=by
 intro k
 induction k with
 | zero=>(repeat intro hM);simp [X6] at hM
 | succ k j=>
  ·haveI:HC 277 _:=⟨j⟩;exact wK func277 ntmps277 results277 X6.eq_2 (hj [] [] [] (λ(i:Int)=>[(3,oI i)]) (hl [1] [1] [] 2 V5.eq_1 V5.eq_2 (λ(i:Int×Int)=>[(3,oI i.1),(4,oI i.2)])))
theorem Zgz (k:Nat):kT Tryz.prog 277 true (X6 k):=(Zmj k)
instance:HC 277 (Ty @Zgz):=⟨Zgz⟩
theorem Zdr (k:Nat) (a0:Ma) (a1:Int) (r:List Ma) (hM:VJ k a0 a1=some r):Ctr Tryz.prog 195 [.one (.str a0),.one (.int .u8 a1)] true [.one (.sl (r.map sC))]:=by
 unfold VJ at hM;exact wM func195 ntmps195 results195 (hj [] [] [] (λ(i:List Ma)=>[(5,oO 512 i.length)]) (hl [0,1] [] [] 3 Qw.eq_1 Qw.eq_2 (λ(i:(List Ma)×Int×Int)=>[(5,oO 512 i.1.length),(6,oI i.2.1),(7,oI i.2.2)]) (.i (hj [0,1,7] [] [] (λ(i:(List Ma)×Int)=>[(5,oO 512 i.1.length),(6,oI i.2)]) (hj [0,1,5,6,7] [] [512] (λ(i:Bool)=>[(25,oB i)])) (ca:=λi=>[(512,aT sC i.1)])) .e) (ca:=λi=>[(512,aT sC i.1)])) (ca:=λi=>[(512,aT sC i)]))
instance:HC 195 (Ty @Zdr):=⟨Zdr⟩
instance:UV 199 true Kz:=⟨wK func199 ntmps199 results199 Kz.eq_1 (.i .e (hU [] [] [] (hl [0,1] [] [] 1 XK.eq_1 XK.eq_2 (λ(i:Int)=>[(5,oI i)]) (.i (hq 8) .e))))⟩
instance:UV 139 true ZbN:=⟨wK func139 ntmps139 results139 ZbN.eq_1 .e⟩
instance:UV 82 true Zdb:=⟨wK func82 ntmps82 results82 Zdb.eq_1 (.i .e (hU [] [] [] (hl [0,1] [] [] 1 VY.eq_1 VY.eq_2 (λ(i:Int)=>[(5,oI i)]) (.i (hq 8) .e))))⟩
instance:UV 38 true Jy:=⟨wK func38 ntmps38 results38 Jy.eq_1 .e⟩
instance:UV 140 true ZbM:=⟨wK func140 ntmps140 results140 ZbM.eq_1 .e⟩
instance:UV 83 true Zda:=⟨wK func83 ntmps83 results83 Zda.eq_1 (.i .e (hU [] [] [] (hl [0,1] [] [] 1 VX.eq_1 VX.eq_2 (λ(i:Int)=>[(5,oI i)]) (.i (hq 8) .e))))⟩
instance:UV 39 true Zc5:=⟨wK func39 ntmps39 results39 Zc5.eq_1 .e⟩
instance:UV 183 true Ku:=⟨wK func183 ntmps183 results183 Ku.eq_1 (.i .e (hU [] [] [] (hl [0,1] [] [] 1 Wf.eq_1 Wf.eq_2 (λ(i:Int)=>[(5,oI i)]) (.i (hq 8) .e))))⟩
instance:UV 296 true UJ:=⟨wK func296 ntmps296 results296 UJ.eq_1 .e⟩
instance:UV 264 true Kv:=⟨wK func264 ntmps264 results264 Kv.eq_1 (.i .e (hU [] [] [] (hl [0,1] [] [] 1 Wg.eq_1 Wg.eq_2 (λ(i:Int)=>[(5,oI i)]) (.i (hq 8) .e))))⟩
instance:UV 220 true Zhw:=⟨wK func220 ntmps220 results220 Zhw.eq_1 .e⟩
instance:UV 184 true Zf2:=⟨wK func184 ntmps184 results184 Zf2.eq_1 (.i .e (hU [] [] [] (hl [0,1] [] [] 1 UI.eq_1 UI.eq_2 (λ(i:Int)=>[(5,oI i)]) (.i (hq 8) .e))))⟩
theorem ZkM:∀(k:Nat),(kT Tryz.prog 182 true (Kd k))/\
  (kT Tryz.prog 142 true (Xv k)):=by
 intro k
 induction k with
 | zero=>exact ⟨by (repeat intro hM);simp [Kd] at hM,by (repeat intro hM);simp [Xv] at hM⟩
 | succ k m=>
  obtain ⟨j,l⟩:=m;refine ⟨?_, ?_⟩
  ·haveI:HC 182 _:=⟨j⟩;haveI:HC 142 _:=⟨l⟩;exact wK func182 ntmps182 results182 Kd.eq_2 (.i .e (hU [] [] [] (hl [0,1] [] [] 1 W1.eq_1 W1.eq_2 (λ(i:Int)=>[(5,oI i)]) (.i (hq 8) .e))))
  ·haveI:HC 182 _:=⟨j⟩;haveI:HC 142 _:=⟨l⟩;exact wK func142 ntmps142 results142 Xv.eq_2 (.i .e (.i .e (.i .e (.i .e (.i .e (.i .e (.i (hf [] [] [] 14) (hf [] [] [] 15))))))))
theorem Zf0 (k:Nat):kT Tryz.prog 142 true (Xv k):=(ZkM k).2
instance:HC 142 (Ty @Zf0):=⟨Zf0⟩
instance:UV 181 true Zej:=⟨wK func181 ntmps181 results181 Zej.eq_1 .e⟩
instance:UV 141 true Zc8:=⟨wK func141 ntmps141 results141 Zc8.eq_1 (.i .e (hU [] [] [] (hl [0,1] [] [] 1 VW.eq_1 VW.eq_2 (λ(i:Int)=>[(5,oI i)]) (.i (hq 8) .e))))⟩
instance:UV 84 true Zei:=⟨wK func84 ntmps84 results84 Zei.eq_1 .e⟩
instance:UV 40 true Zc6:=⟨wK func40 ntmps40 results40 Zc6.eq_1 (.i .e (hU [] [] [] (hl [0,1] [] [] 1 VV.eq_1 VV.eq_2 (λ(i:Int)=>[(5,oI i)]) (.i (hq 8) .e))))⟩
instance:UV 85 true ZaS:=⟨wK func85 ntmps85 results85 ZaS.eq_1 .e⟩
instance:UV 41 true ZaR:=⟨wK func41 ntmps41 results41 ZaR.eq_1 (.i .e (hU [] [] [] (hl [0,1] [] [] 1 W3.eq_1 W3.eq_2 (λ(i:Int)=>[(5,oI i)]) (.i (hq 8) .e))))⟩
theorem ZB:kT Tryz.prog 13 true Yq:=wK func13 ntmps13 results13 Yq.eq_1 (.i .e (.i .e (.i .e (.i .e (.i .e (.i .e (.i (hf [] [] [] 14) (hf [] [] [] 15))))))))
instance:HC 13 (Ty @ZB):=⟨ZB⟩
end Go.Proofs.YtmcfegjoccgpoaaGreatDoor
