import Derived.Test.YtpblakfidofgfaaGreatDoorZCt1
set_option linter.unusedSimpArgs false
set_option linter.unusedVariables false
namespace Go.Proofs.YtpblakfidofgfaaGreatDoor
open Go.RowKit Am
set_option maxHeartbeats 4000000
set_option maxRecDepth 100000
theorem ZhH (a0:Int) (a1:Zb) (a2:Zb) (r:Zb) (hM:Zaw a0 a1 a2=some r):TC Tryz.prog 282 12 [.one (.int .i64 a0),.agg (Zb.c a1),.agg (Zb.c a2)] [.agg (Zb.c r)]:=by
 unfold Zaw at hM;refine ZuD Tryz.func282 Tryz.ntmps282 Tryz.results282 fun N w0 hbad F=> ?_;refine S1 ?_;refine S1 ?_;obtain rfl:=si hM;refine rr [] [(640,30000)] [6] [6] [640] ?_;exact au
instance:HC 282 (Ty @ZhH):=⟨ZhH⟩
theorem Zj8:∀(k:Nat),(∀(a0:Zc) (a1:ByteArray) (r:(List Zb)×Zc) (hM:WI k a0 a1=some r),ZcU Tryz.prog 355 [] (Zc.c a0) [.one (.str a1)] false [.one (.sl (r.1.map Zb.c))] (Zc.c r.2))/\
  (∀(a0:Zc) (r:Zb×Zc) (hM:Z5 k a0=some r),ZcU Tryz.prog 333 [] (Zc.c a0) [] false [.agg (Zb.c r.1)] (Zc.c r.2))/\
  (∀(a0:Zc) (r:Zb×Zc) (hM:ZH k a0=some r),ZcU Tryz.prog 307 [] (Zc.c a0) [] false [.agg (Zb.c r.1)] (Zc.c r.2))/\
  (∀(a0:Zc) (r:Zb×Zc) (hM:Xp k a0=some r),ZcU Tryz.prog 281 [] (Zc.c a0) [] false [.agg (Zb.c r.1)] (Zc.c r.2))/\
  (∀(a0:Zc) (r:Zb×Zc) (hM:QF k a0=some r),ZcU Tryz.prog 240 [] (Zc.c a0) [] false [.agg (Zb.c r.1)] (Zc.c r.2))/\
  (∀(a0:Zc) (r:Zb×Zc) (hM:Zq k a0=some r),ZcU Tryz.prog 201 [] (Zc.c a0) [] false [.agg (Zb.c r.1)] (Zc.c r.2)):=by
 intro k
 induction k with
 | zero=>exact ⟨by intro a0 a1 r hM;simp [WI] at hM,by intro a0 r hM;simp [Z5] at hM,by intro a0 r hM;simp [ZH] at hM,by intro a0 r hM;simp [Xp] at hM,by intro a0 r hM;simp [QF] at hM,by intro a0 r hM;simp [Zq] at hM⟩
 | succ k ih=>
  obtain ⟨ih_s_l11Args,ih_s_l11Atom,ih_s_l11Product,ih_s_l11Sum,ih_s_l11Compare,ih_s_l11Expr⟩:=ih;refine ⟨?_, ?_, ?_, ?_, ?_, ?_⟩
  ·intro a0 a1 r hM;haveI:HC 355 _:=⟨ih_s_l11Args⟩;haveI:HC 333 _:=⟨ih_s_l11Atom⟩;haveI:HC 307 _:=⟨ih_s_l11Product⟩;haveI:HC 281 _:=⟨ih_s_l11Sum⟩;haveI:HC 240 _:=⟨ih_s_l11Compare⟩;haveI:HC 201 _:=⟨ih_s_l11Expr⟩;rw [WI] at hM;exact wP Tryz.func355 Tryz.ntmps355 Tryz.results355 (.i (hp [4] [44] [] 999999 [384]) (hj [0,1] [] [] (fun (i:(List Zg)×Int×Int×Int×(List Zb))=>[(5,oO 384 i.2.2.2.2.length)]) (hth [384] (hl [0,1] [] [] 5 X9.eq_1 X9.eq_2 (fun (i:(List Zg)×Int×Int×Int×(List Zb))=>[(5,oO 384 i.2.2.2.2.length)]) (ca:=fun i=>[(384,aF Zb.c i.2.2.2.2)]) (cb:=fun i=>[(44,[cL Zg.c i.1,cI i.2.1,cI i.2.2.1,cI i.2.2.2.1])]))) (hp [4] [44] [] 999999 [384]) (ca:=fun i=>[(384,aF Zb.c i.2.2.2.2)]) (cb:=fun i=>[(44,[cL Zg.c i.1,cI i.2.1,cI i.2.2.1,cI i.2.2.2.1])])))
  ·intro a0 r hM;haveI:HC 355 _:=⟨ih_s_l11Args⟩;haveI:HC 333 _:=⟨ih_s_l11Atom⟩;haveI:HC 307 _:=⟨ih_s_l11Product⟩;haveI:HC 281 _:=⟨ih_s_l11Sum⟩;haveI:HC 240 _:=⟨ih_s_l11Compare⟩;haveI:HC 201 _:=⟨ih_s_l11Expr⟩;rw [Z5] at hM;exact wP Tryz.func333 Tryz.ntmps333 Tryz.results333 (hj [0,2] [2,141] [] (fun (i:Bool)=>[(21,oB i)]) (hq 15) (.i (hp [2] [2,141] [] 999999 [1472]) (hf [0,2] [2,141] [] 3 (ho [[],[0],[0,1],[0,1,2],[],[4],[4,5],[4,5,6],[0,1,2,3,4,5,6,7],[0,1,2,3,4,5,6,7,8],[],[0,1,2,3,4,5,6,7,8,9,10]] (.i (hp [2] [2,141] [] 999999 [3072]) (.i .e (hj [0,2,3] [2,3,141] [] (fun (i:Bool)=>[(64,oB i)]) .e (.i (hp [2] [2,141] [] 999999 [5312]) (hj [0,2,3] [2,3,141] [] (fun (i:Bool)=>[(84,oB i)]) .e (.i (hf [0,2,3] [2,3,141] [] 16 (ho [[1000141],[0,1000141],[],[2],[0,1,2,3],[0,1,2,3,4]])) (.i .e (.i .e (hp [2] [2,141] [] 999999 [8960])))))))))))))
  ·intro a0 r hM;haveI:HC 355 _:=⟨ih_s_l11Args⟩;haveI:HC 333 _:=⟨ih_s_l11Atom⟩;haveI:HC 307 _:=⟨ih_s_l11Product⟩;haveI:HC 281 _:=⟨ih_s_l11Sum⟩;haveI:HC 240 _:=⟨ih_s_l11Compare⟩;haveI:HC 201 _:=⟨ih_s_l11Expr⟩;rw [ZH] at hM;exact wP Tryz.func307 Tryz.ntmps307 Tryz.results307 (hj [2,3] [2] [] (fun (i:Int×Int×ByteArray×(List Zb)×(List Zg)×Int×Int×Int)=>[]) (hl [0,2,3] [2] [] 8 Qj.eq_1 Qj.eq_2 (fun (i:(List Zg)×Int×Int×Int×Int×Int×ByteArray×(List Zb))=>[]) (.i (hf [0,2,3] [2,3,21] [] 4 (ho [[1000021],[],[1],[0,1,2],[0,1,2,3]])) .e) (cb:=fun i=>[(3,[cI i.2.2.2.2.1,cI i.2.2.2.2.2.1,cS i.2.2.2.2.2.2.1,cL Zb.c i.2.2.2.2.2.2.2]),(21,[cL Zg.c i.1,cI i.2.1,cI i.2.2.1,cI i.2.2.2.1])])) (cb:=fun i=>[(3,[cI i.1,cI i.2.1,cS i.2.2.1,cL Zb.c i.2.2.2.1]),(21,[cL Zg.c i.2.2.2.2.1,cI i.2.2.2.2.2.1,cI i.2.2.2.2.2.2.1,cI i.2.2.2.2.2.2.2])]))
  ·intro a0 r hM;haveI:HC 355 _:=⟨ih_s_l11Args⟩;haveI:HC 333 _:=⟨ih_s_l11Atom⟩;haveI:HC 307 _:=⟨ih_s_l11Product⟩;haveI:HC 281 _:=⟨ih_s_l11Sum⟩;haveI:HC 240 _:=⟨ih_s_l11Compare⟩;haveI:HC 201 _:=⟨ih_s_l11Expr⟩;rw [Xp] at hM;exact wP Tryz.func281 Tryz.ntmps281 Tryz.results281 (hj [2,3] [2] [] (fun (i:Int×Int×ByteArray×(List Zb)×(List Zg)×Int×Int×Int)=>[]) (hl [0,2,3] [2] [] 8 WY.eq_1 WY.eq_2 (fun (i:(List Zg)×Int×Int×Int×Int×Int×ByteArray×(List Zb))=>[]) (hj [0,2,3] [2,3] [] (fun (i:(List Zg)×Int×Int×Int×Bool)=>[(12,oB i.2.2.2.2)]) .e (.i (hj [0,2,3] [2,3] [] (fun (i:(List Zg)×Int×Int×Int×Int)=>[(4,oI i.2.2.2.2)]) .e (hf [0,2,3,4] [2,3,29] [] 7 (ho [[1000029],[1000029],[],[2],[0,1,2,3],[0,1,2,3,4]])) (cb:=fun i=>[(29,[cL Zg.c i.1,cI i.2.1,cI i.2.2.1,cI i.2.2.2.1])])) .e) (cb:=fun i=>[(29,[cL Zg.c i.1,cI i.2.1,cI i.2.2.1,cI i.2.2.2.1])])) (cb:=fun i=>[(3,[cI i.2.2.2.2.1,cI i.2.2.2.2.2.1,cS i.2.2.2.2.2.2.1,cL Zb.c i.2.2.2.2.2.2.2]),(29,[cL Zg.c i.1,cI i.2.1,cI i.2.2.1,cI i.2.2.2.1])])) (cb:=fun i=>[(3,[cI i.1,cI i.2.1,cS i.2.2.1,cL Zb.c i.2.2.2.1]),(29,[cL Zg.c i.2.2.2.2.1,cI i.2.2.2.2.2.1,cI i.2.2.2.2.2.2.1,cI i.2.2.2.2.2.2.2])]))
  ·intro a0 r hM;haveI:HC 355 _:=⟨ih_s_l11Args⟩;haveI:HC 333 _:=⟨ih_s_l11Atom⟩;haveI:HC 307 _:=⟨ih_s_l11Product⟩;haveI:HC 281 _:=⟨ih_s_l11Sum⟩;haveI:HC 240 _:=⟨ih_s_l11Compare⟩;haveI:HC 201 _:=⟨ih_s_l11Expr⟩;rw [QF] at hM;exact wP Tryz.func240 Tryz.ntmps240 Tryz.results240 (.i (hf [0,2,3] [2,3,37] [] 4 (ho [[1000037],[],[1],[0,1,2],[0,1,2,3]] (hp [2] [2,37] [] 999999 [1280]))) (.i (hf [0,2,3] [2,3,37] [] 7 (ho [[1000037],[],[1],[0,1,2],[0,1,2,3]] (hp [2] [2,37] [] 999999 [2240]))) .e))
  ·intro a0 r hM;haveI:HC 355 _:=⟨ih_s_l11Args⟩;haveI:HC 333 _:=⟨ih_s_l11Atom⟩;haveI:HC 307 _:=⟨ih_s_l11Product⟩;haveI:HC 281 _:=⟨ih_s_l11Sum⟩;haveI:HC 240 _:=⟨ih_s_l11Compare⟩;haveI:HC 201 _:=⟨ih_s_l11Expr⟩;rw [Zq] at hM;exact wP Tryz.func201 Tryz.ntmps201 Tryz.results201 (.i (hf [0,2,3,4] [2,4,86] [] 7 (ho [[1000086],[1000086],[],[2],[1,2,3],[0,1,2,3,4],[0,1,2,3,4,5]] (hp [2] [2,86] [] 999999 [2048]))) (.i (hf [0,2,5,6] [2,5,6,86] [] 14 (ho [[1000086],[1000086],[],[2],[0,1,2,3],[0,1,2,3,4],[0,1,2,3,4,5]] (hp [2] [2,86] [] 999999 [3648]))) (.i (hf [0,2,7,8] [2,8,86] [] 21 (ho [[1000086],[1000086],[],[2],[1,2,3],[0,1,2,3,4],[0,1,2,3,4,5]] (hp [2] [2,86] [] 999999 [5248]))) .e)))
theorem ZeR (k:Nat):∀(a0:Zc) (r:Zb×Zc) (hM:Zq k a0=some r),ZcU Tryz.prog 201 [] (Zc.c a0) [] false [.agg (Zb.c r.1)] (Zc.c r.2):=(Zj8 k).2.2.2.2.2
instance:HC 201 (Ty @ZeR):=⟨ZeR⟩
theorem Zj9:∀(k:Nat),(kT Tryz.prog 241 true (Vt k)):=by
 intro k
 induction k with
 | zero=>(repeat intro hM);simp [Vt] at hM
 | succ k ih_s_l10Left=>
  ·haveI:HC 241 _:=⟨ih_s_l10Left⟩;exact wK Tryz.func241 Tryz.ntmps241 Tryz.results241 Vt.eq_2 (hj [] [] [] (fun (i:Int)=>[(1,oI i)]) (hl [2] [2] [] 2 Wa.eq_1 Wa.eq_2 (fun (i:Int×Int)=>[(1,oI i.1),(5,oI i.2)]) (hj [1,2,5] [2] [] (fun (i:Bool)=>[(16,oB i)]))))
theorem ZeV (k:Nat):kT Tryz.prog 241 true (Vt k):=(Zj9 k)
instance:HC 241 (Ty @ZeV):=⟨ZeV⟩
theorem ZhF:kT Tryz.prog 283 true Zau:=wK Tryz.func283 Tryz.ntmps283 Tryz.results283 Zau.eq_1 .e
instance:HC 283 (Ty @ZhF):=⟨ZhF⟩
theorem ZhI:∀(k:Nat),(kT Tryz.prog 242 true (QS k)):=by
 intro k
 induction k with
 | zero=>(repeat intro hM);simp [QS] at hM
 | succ k ih_s_NestingOf=>
  ·haveI:HC 242 _:=⟨ih_s_NestingOf⟩;exact wK Tryz.func242 Tryz.ntmps242 Tryz.results242 QS.eq_2 (hj [] [] [] (fun (i:Int)=>[(3,oI i)]) (hl [1] [1] [] 2 QR.eq_1 QR.eq_2 (fun (i:Int×Int)=>[(3,oI i.1),(4,oI i.2)])))
theorem ZbR (k:Nat):kT Tryz.prog 242 true (QS k):=(ZhI k)
instance:HC 242 (Ty @ZbR):=⟨ZbR⟩
theorem ZeT:kT Tryz.prog 284 true Jn:=wK Tryz.func284 Tryz.ntmps284 Tryz.results284 Jn.eq_1 (.i (hj [] [] [] (fun (i:Bool)=>[(2,oB i)])) (.i (hj [] [] [] (fun (i:Bool)=>[(2,oB i)])) (.i (hj [] [] [] (fun (i:Bool)=>[(2,oB i)])) (.i (hj [] [] [] (fun (i:Bool)=>[(2,oB i)])) (.i (hj [] [] [] (fun (i:Bool)=>[(2,oB i)])) (.i (hj [] [] [] (fun (i:Bool)=>[(2,oB i)])) (hj [1,3,8] [1] [] (fun (i:Bool)=>[(91,oB i)]) .e (.i (hj [] [] [] (fun (i:Bool)=>[(2,oB i)])) (.i (hj [] [] [] (fun (i:Bool)=>[(2,oB i)])) .e)))))))))
instance:HC 284 (Ty @ZeT):=⟨ZeT⟩
theorem Zlw:∀(k:Nat),(kT Tryz.prog 243 true (WR k)):=by
 intro k
 induction k with
 | zero=>(repeat intro hM);simp [WR] at hM
 | succ k ih_s_l10All=>
  ·haveI:HC 243 _:=⟨ih_s_l10All⟩;exact wK Tryz.func243 Tryz.ntmps243 Tryz.results243 WR.eq_2 (hU [1] [1] [] (hl [1] [1] [] 1 V2.eq_1 V2.eq_2 (fun (i:Int)=>[(3,oI i)])))
theorem ZgH (k:Nat):kT Tryz.prog 243 true (WR k):=(Zlw k)
instance:HC 243 (Ty @ZgH):=⟨ZgH⟩
theorem Kz:kT Tryz.prog 203 true Ww:=wK Tryz.func203 Tryz.ntmps203 Tryz.results203 Ww.eq_1 (hj [] [] [] (fun (i:Bool)=>[(2,oB i)]))
instance:HC 203 (Ty @Kz):=⟨Kz⟩
theorem ZbP:kT Tryz.prog 166 false Wb:=wK Tryz.func166 Tryz.ntmps166 Tryz.results166 Wb.eq_1 (.i .e (hp [2,4,6] [2,21] [] 5 [640] (hj [2,6,7] [2,7] [] (fun (i:(List Zg)×Int×Int×Int)=>[]) (hj [2,6,7] [2,7,21] [] (fun (i:Bool)=>[(37,oB i)])) (.i (hf [2,6] [2,21] [] 9 (ho [[],[1000002],[1,1000002],[1,2,1000002],[1,2,3,1000002],[0],[0,1,2,3,4,5]])) .e) (cb:=fun i=>[(21,[cL Zg.c i.1,cI i.2.1,cI i.2.2.1,cI i.2.2.2])]))))
instance:HC 166 (Ty @ZbP):=⟨ZbP⟩
end Go.Proofs.YtpblakfidofgfaaGreatDoor
