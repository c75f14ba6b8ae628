import Derived.Test.YtfapaeabfcogkaaGreatDoorJ6
import Derived.Test.YtfapaeabfcogkaaGreatDoorJ7
import Derived.Test.YtfapaeabfcogkaaGreatDoorJ13
set_option linter.unusedSimpArgs false
set_option linter.unusedVariables false
namespace Go.Proofs.YtfapaeabfcogkaaGreatDoor
open Go.RowKit Am
set_option maxHeartbeats 4000000
set_option maxRecDepth 100000
theorem U4 (a0:ByteArray) (r:Int) (hM:ZM a0=some r):Ctr Tryz.prog 284 [.one (.str a0)] true [.one (.int .i64 r)]:=by
 unfold ZM at hM
 refine Zr Tryz.func284 Tryz.ntmps284 Tryz.results284 fun N w0 hbad F=> ?_
 refine S1 ?_;refine Zh fun K1 hK1=> ?_;refine S1 ?_;refine Zg ?_;refine S1 ?_;refine Zp hM (fun h2 hM=> ?_) (fun h2 hM=> ?_)
 ·have F:=nf F h2;exact au
 ·have F:=nf F h2;refine mj (ι:=Bool) [3] [] [] (fun i=>[(6,oB i)]) hM ?_ ?_
  ·intro e3 hM K5 hK5;exact au
  ·intro x1 hM;(try dsimp only at hM);refine Zp hM (fun h10 hM=> ?_) (fun h10 hM=> ?_)
   ·have F:=nf F h10;exact au
   ·have F:=nf F h10;refine mj (ι:=Bool) [3] [] [] (fun i=>[(12,oB i)]) hM ?_ ?_
    ·intro e11 hM K13 hK13;exact au
    ·intro x2 hM;(try dsimp only at hM);refine Zp hM (fun h20 hM=> ?_) (fun h20 hM=> ?_)
     ·have F:=nf F h20;exact au
     ·have F:=nf F h20;refine mj (ι:=Bool) [3] [] [] (fun i=>[(20,oB i)]) hM ?_ ?_
      ·intro e21 hM K23 hK23;exact au
      ·intro x3 hM;(try dsimp only at hM);exact au
instance:HC 284 (Ty @U4):=⟨U4⟩
theorem KQ (a0:ByteArray) (r:Bool) (hM:V4 a0=some r):Ctr Tryz.prog 267 [.one (.str a0)] true [.one (.bool r)]:=by
 unfold V4 at hM
 refine Zr Tryz.func267 Tryz.ntmps267 Tryz.results267 fun N w0 hbad F=> ?_
 refine S1 ?_;refine Zh fun K1 hK1=> ?_;refine S1 ?_;refine Zg ?_;refine mj (ι:=Bool) [0] [] [] (fun i=>[(4,oB i)]) hM ?_ ?_
 ·intro e2 hM K4 hK4;exact au
 ·intro x1 hM;(try dsimp only at hM);exact au
instance:HC 267 (Ty @KQ):=⟨KQ⟩
theorem J2 (k:Nat) (a0:ByteArray) (r:Bool) (hM:Z2 k a0=some r):Ctr Tryz.prog 232 [.one (.str a0)] true [.one (.bool r)]:=by
 unfold Z2 at hM
 refine Zr Tryz.func232 Tryz.ntmps232 Tryz.results232 fun N w0 hbad F=> ?_
 refine S1 ?_;refine mj (ι:=Bool) [] [] [] (fun i=>[(2,oB i)]) hM ?_ ?_
 ·intro e1 hM K3 hK3;exact au
 ·intro x1 hM;(try dsimp only at hM);exact au
instance:HC 232 (Ty @J2):=⟨J2⟩
theorem VO (k:Nat) (a0:Zj) (r:Bool) (hM:Qi k a0=some r):Ctr Tryz.prog 172 [.agg (Zj.c a0)] true [.one (.bool r)]:=by
 unfold Qi at hM
 refine Zr Tryz.func172 Tryz.ntmps172 Tryz.results172 fun N w0 hbad F=> ?_
 refine S1 ?_;refine Zh fun K1 hK1=> ?_;refine mj (ι:=Bool) [1] [1] [] (fun i=>[(18,oB i)]) hM ?_ ?_
 ·intro e2 hM K4 hK4;exact au
 ·intro x1 hM;(try dsimp only at hM);refine Zp hM (fun h10 hM=> ?_) (fun h10 hM=> ?_)
  ·have F:=nf F h10;exact au
  ·have F:=nf F h10;refine Zl ?_;refine hK1 _ ?_;refine Zh fun K11 hK11=> ?_;refine S1 ?_;refine Zg ?_;refine S1 ?_;refine Zp hM (fun h12 hM=> ?_) (fun h12 hM=> ?_)
   ·have F:=nf F h12;refine mj (ι:=Bool) [] [] [] (fun i=>[(2,oB i)]) hM ?_ ?_
    ·intro e13 hM K15 hK15;exact au
    ·intro x5 hM;(try dsimp only at hM);exact au
   ·have F:=nf F h12;refine mj (ι:=Bool) [1,20] [1] [] (fun i=>[(31,oB i)]) hM ?_ ?_
    ·intro e17 hM K19 hK19;exact au
    ·intro x6 hM;(try dsimp only at hM);refine Zp hM (fun h21 hM=> ?_) (fun h21 hM=> ?_)
     ·have F:=nf F h21;refine mj (ι:=Bool) [] [] [] (fun i=>[(2,oB i)]) hM ?_ ?_
      ·intro e22 hM K24 hK24;exact au
      ·intro x7 hM;(try dsimp only at hM);exact au
     ·have F:=nf F h21;refine S1 ?_;refine Zp hM (fun h27 hM=> ?_) (fun h27 hM=> ?_)
      ·have F:=nf F h27;refine mj (ι:=Bool) [] [] [] (fun i=>[(2,oB i)]) hM ?_ ?_
       ·intro e28 hM K30 hK30;exact au
       ·intro x9 hM;(try dsimp only at hM);exact au
      ·have F:=nf F h27;exact au
instance:HC 172 (Ty @VO):=⟨VO⟩
theorem ZaL (k:Nat) (a0:Ze) (a1:Int) (r:Int) (hM:WX k a0 a1=some r):Ctr Tryz.prog 84 [.agg (Ze.c a0),.one (.int .i64 a1)] true [.one (.int .i64 r)]:=by
 unfold WX at hM
 refine Zr Tryz.func84 Tryz.ntmps84 Tryz.results84 fun N w0 hbad F=> ?_
 refine S1 ?_;refine mjE (ι:=Unit) [] [] [] (fun i=>[]) hM ?_ ?_
 ·intro e1 hM hR1 K3 hK3;refine S1 ?_;refine Zg ?_;refine lp (ι:=Int) [1,8,9] [] [] (fun i=>[(10,oI i)]) (fun n i=>Qv a0 a1 n i=some e1) k 0 hM (by simp [Qv]) ?_;intro KL4 nL4 x1 hL4 hM _;have hM:Qv a0 a1 (nL4+1) x1=some e1:=hM;rw [Qv] at hM;exact au
 ·intro _ hM;dsimp only at hM;exact au
instance:HC 84 (Ty @ZaL):=⟨ZaL⟩
theorem Wl (k:Nat) (a0:Ze) (r:Bool) (hM:Xf k a0=some r):Ctr Tryz.prog 107 [.agg (Ze.c a0)] true [.one (.bool r)]:=by
 unfold Xf at hM
 refine Zr Tryz.func107 Tryz.ntmps107 Tryz.results107 fun N w0 hbad F=> ?_
 refine S1 ?_;refine mjE (ι:=Unit) [1] [1] [] (fun i=>[]) hM ?_ ?_
 ·intro e1 hM hR1 K3 hK3;refine S1 ?_;refine Zg ?_;refine lp (ι:=Int) [1,6,7] [1] [] (fun i=>[(8,oI i)]) (fun n i=>Z5 k a0 n i=some e1) k 0 hM (by simp [Z5]) ?_;intro KL4 nL4 x1 hL4 hM _;have hM:Z5 k a0 (nL4+1) x1=some e1:=hM;rw [Z5] at hM;refine S1 ?_;refine Zh fun K5 hK5=> ?_;refine Zp hM (fun h6 hM=> ?_) (fun h6 hM=> ?_)
  ·have F:=And.intro (nf F h6) (lT h6);refine Zl ?_;refine hK5 _ ?_;refine Zh fun K7 hK7=> ?_;refine Zg ?_;obtain ⟨x2,e8,hM⟩:=bind_some hM;have F:=And.intro F (Vs e8);refine S1 ?_;refine mj (ι:=Bool) [1,6,7,8] [1] [] (fun i=>[(23,oB i)]) hM ?_ ?_
   ·intro e9 hM K11 hK11;exact au
   ·intro x3 hM;(try dsimp only at hM);exact au
  ·have F:=And.intro (nf F h6) (lF h6);exact au
 ·intro _ hM;dsimp only at hM;exact au
instance:HC 107 (Ty @Wl):=⟨Wl⟩
theorem VN (a0:Int) (r:Za) (hM:Kz a0=some r):Ctr Tryz.prog 173 [.one (.int .i64 a0)] true [.agg (Za.c r)]:=by
 unfold Kz at hM
 refine Zr Tryz.func173 Tryz.ntmps173 Tryz.results173 fun N w0 hbad F=> ?_
 exact au
instance:HC 173 (Ty @VN):=⟨VN⟩
theorem J1 (k:Nat) (a0:ByteArray) (r:Bool) (hM:XH k a0=some r):Ctr Tryz.prog 279 [.one (.str a0)] true [.one (.bool r)]:=by
 unfold XH at hM
 refine Zr Tryz.func279 Tryz.ntmps279 Tryz.results279 fun N w0 hbad F=> ?_
 refine S1 ?_;refine mjE (ι:=Unit) [0] [] [] (fun i=>[]) hM ?_ ?_
 ·intro e1 hM hR1 K3 hK3;refine S1 ?_;refine Zg ?_;refine lp (ι:=Int) [0] [] [] (fun i=>[(3,oI i)]) (fun n i=>YO a0 n i=some e1) k 0 hM (by simp [YO]) ?_;intro KL4 nL4 x1 hL4 hM _;have hM:YO a0 (nL4+1) x1=some e1:=hM;rw [YO] at hM;refine Zh fun K5 hK5=> ?_;refine S1 ?_;refine Zp hM (fun h6 hM=> ?_) (fun h6 hM=> ?_)
  ·have F:=And.intro (nf F h6) (lT h6);refine Zl ?_;refine hK5 _ ?_;refine Zh fun K7 hK7=> ?_;refine Zg ?_;refine mj (ι:=Bool) [0,3] [] [] (fun i=>[(25,oB i)]) hM ?_ ?_
   ·intro e8 hM K10 hK10;exact au
   ·intro x2 hM;(try dsimp only at hM);exact au
  ·have F:=And.intro (nf F h6) (lF h6);exact au
 ·intro _ hM;dsimp only at hM;exact au
instance:HC 279 (Ty @J1):=⟨J1⟩
theorem Ku (k:Nat) (a0:ByteArray) (a1:Int) (r:Zi×Int×Bool) (hM:Qd k a0 a1=some r):Ctr Tryz.prog 268 [.one (.str a0),.one (.int .i64 a1)] true [.agg (Zi.c r.1),.one (.int .i64 r.2.1),.one (.bool r.2.2)]:=by
 unfold Qd at hM
 refine Zr Tryz.func268 Tryz.ntmps268 Tryz.results268 fun N w0 hbad F=> ?_
 refine S1 ?_;refine S1 ?_;obtain ⟨x1,e1,hM⟩:=bind_some hM;have F:=And.intro F (Vs e1);refine S1 ?_;refine Zh fun K2 hK2=> ?_;refine Zg ?_;refine mj (ι:=Bool) [0,1,4,7,8] [4] [] (fun i=>[(17,oB i)]) hM ?_ ?_
 ·intro e3 hM K5 hK5;exact au
 ·intro x2 hM;(try dsimp only at hM);refine Zp hM (fun h7 hM=> ?_) (fun h7 hM=> ?_)
  ·have F:=nf F h7;refine mj (ι:=Int) [0,1,4] [4] [] (fun i=>[(7,oI i)]) hM ?_ ?_
   ·intro e8 hM K10 hK10;refine Zg ?_;refine lp (ι:=Int) [0,1,4] [4] [] (fun i=>[(7,oI i)]) (fun n i=>Qs a0 n i=some e8) k a1 hM (by simp [Qs]) ?_;intro KL11 nL11 x4 hL11 hM _;have hM:Qs a0 (nL11+1) x4=some e8:=hM;rw [Qs] at hM;refine Zh fun K12 hK12=> ?_;refine mj (ι:=Bool) [0,1,4,7] [4] [] (fun i=>[(51,oB i)]) hM ?_ ?_
    ·intro e13 hM K15 hK15;exact au
    ·intro x5 hM;(try dsimp only at hM);exact au
   ·intro x3 hM;(try dsimp only at hM);exact au
  ·have F:=nf F h7;refine mj (ι:=Bool) [0,1,4,7,8] [4] [] (fun i=>[(65,oB i)]) hM ?_ ?_
   ·intro e28 hM K30 hK30;exact au
   ·intro x8 hM;(try dsimp only at hM);refine Zp hM (fun h32 hM=> ?_) (fun h32 hM=> ?_)
    ·have F:=nf F h32;refine mj (ι:=Int) [0,1,4] [4] [] (fun i=>[(7,oI i)]) hM ?_ ?_
     ·intro e33 hM K35 hK35;refine Zg ?_;refine lp (ι:=Int) [0,1,4] [4] [] (fun i=>[(7,oI i)]) (fun n i=>Qr a0 n i=some e33) k a1 hM (by simp [Qr]) ?_;intro KL36 nL36 x10 hL36 hM _;have hM:Qr a0 (nL36+1) x10=some e33:=hM;rw [Qr] at hM;refine Zh fun K37 hK37=> ?_;refine mj (ι:=Bool) [0,1,4,7] [4] [] (fun i=>[(87,oB i)]) hM ?_ ?_
      ·intro e38 hM K40 hK40;exact au
      ·intro x11 hM;(try dsimp only at hM);exact au
     ·intro x9 hM;(try dsimp only at hM);exact au
    ·have F:=nf F h32;refine S1 ?_;refine Zp hM (fun h51 hM=> ?_) (fun h51 hM=> ?_)
     ·have F:=nf F h51;exact au
     ·have F:=nf F h51;obtain ⟨x19,e66,hM⟩:=bind_some hM;obtain ⟨c67,s68⟩:=Zao e66;replace c67:=c67.symm;subst c67;(try simp at s68);have F:=And.intro F s68;obtain ⟨x20,e71,hM⟩:=bind_some hM;refine Zw fun K h=> ?_;simp [go_sem,F];refine Qb false (Xz (a0.extract a1.toNat (a0.size:Int).toNat) (⟨#[61,61]⟩:ByteArray) x20 e71) ?_;simp [go_sem,F]
      refine h _ ?_;refine Zp hM (fun h72 hM=> ?_) (fun h72 hM=> ?_)
      ·have F:=nf F h72;exact au
      ·have F:=nf F h72;refine Zl ?_;refine hK2 _ ?_;refine Zh fun K73 hK73=> ?_;refine le1 [0,1,4,8] [4] [] ?_;obtain ⟨x21,e74,hM⟩:=bind_some hM;obtain ⟨c75,s76⟩:=Zao e74;replace c75:=c75.symm;subst c75;(try simp at s76);have F:=And.intro F s76;obtain ⟨x22,e79,hM⟩:=bind_some hM;refine ZT [[],[],[],[2],[0,1,2,3],[],[0,1,2,3,4,5],[1000004],[7,1000004],[],[9],[9,10,1000004],[0,1,2,3,4,5,6,9,10],[0,1,2,3,4,5,6,7,8,9,10,12],[0,1,2,3,4,5,6,7,8,9,10,11,12,13]] mixed (by kernel_rfl) ?_
       simp (maxSteps:=9999999) [go_sem,F];refine Qb false (Xy (⟨#[40,41,91,93,44,43,45,42,60,61]⟩:ByteArray) (x1.toNat:Int) x22 e79) ?_;simp (maxSteps:=9999999) [go_sem,F];refine ⟨Zu (by kernel_rfl), ?_⟩;exact au
instance:HC 268 (Ty @Ku):=⟨Ku⟩
theorem JG (k:Nat) (a0:ByteArray) (r:(List Zi)×Int) (hM:VL k a0=some r):Ctr Tryz.prog 233 [.one (.str a0)] true [.one (.sl (r.1.map Zi.c)),.one (.int .i64 r.2)]:=by
 unfold VL at hM
 refine Zr Tryz.func233 Tryz.ntmps233 Tryz.results233 fun N w0 hbad F=> ?_
 refine S1 ?_;refine Zh fun K1 hK1=> ?_;refine S1 ?_;refine Zp hM (fun h2 hM=> ?_) (fun h2 hM=> ?_)
 ·have F:=And.intro (nf F h2) (lT h2);exact au
 ·have F:=And.intro (nf F h2) (lF h2);refine Zl ?_;refine hK1 _ ?_;refine S1 ?_;refine mjE (ι:=List Zi) [] [] [] (fun i=>[(4,oO 768 i.length)]) hM ?_ ?_ (ca:=fun i=>[(768,aT Zi.c i)])
  ·intro e3 hM hR1 K5 hK5;refine S1 ?_;refine Zg ?_;refine lp (ι:=(List Zi)×Int) [0] [] [] (fun i=>[(4,oO 768 i.1.length),(5,oI i.2)]) (fun n i=>ZX k a0 n i.1 i.2=some e3) k (([]:List Zi),0) hM (by simp [ZX]) ?_ (ca:=fun i=>[(768,aT Zi.c i.1)]);intro KL6 nL6 ⟨x2,x3⟩ hL6 hM _;have hM:ZX k a0 (nL6+1) x2 x3=some e3:=hM
   rw [ZX] at hM;refine Zh fun K7 hK7=> ?_;refine S1 ?_;refine Zp hM (fun h8 hM=> ?_) (fun h8 hM=> ?_)
   ·have F:=And.intro (nf F h8) (lT h8);refine Zl ?_;refine hK7 _ ?_;refine Zg ?_;refine Zh fun K9 hK9=> ?_;obtain ⟨x4,e10,hM⟩:=bind_some hM;have F:=And.intro F (Vs e10);refine S1 ?_;refine Zp hM (fun h11 hM=> ?_) (fun h11 hM=> ?_)
    ·have F:=nf F h11;exact au
    ·have F:=nf F h11;refine Zl ?_;refine hK9 _ ?_;obtain ⟨x5,e12,hM⟩:=bind_some hM;refine Zw fun K h=> ?_;simp [go_sem,F];refine Qb false (Ku k a0 x3 x5 e12) ?_;simp [go_sem,F];refine h _ ?_;refine Zh fun K13 hK13=> ?_;refine mj (ι:=Bool) [0,4,5,6,7] [6] [768] (fun i=>[(36,oB i)]) hM ?_ ?_
     ·intro e14 hM K16 hK16;exact au
     ·intro x6 hM;(try dsimp only at hM);exact au
   ·have F:=And.intro (nf F h8) (lF h8);exact au
  ·intro x1 hM;dsimp only at hM;exact au
instance:HC 233 (Ty @JG):=⟨JG⟩
theorem YS (a0:Zf) (r:Zi×Zf) (hM:ZE a0=some r):Kd Tryz.prog 270 [] (Zf.c a0) [] true [.agg (Zi.c r.1)] (Zf.c r.2):=by
 unfold ZE at hM
 refine JL Tryz.func270 Tryz.ntmps270 Tryz.results270 fun N w0 hbad F=> ?_
 refine S1 ?_;refine Zh fun K1 hK1=> ?_;refine mj (ι:=Bool) [0,2] [2,31] [] (fun i=>[(19,oB i)]) hM ?_ ?_
 ·intro e2 hM K4 hK4;rcases ifM hM with ⟨h5,hM⟩| ⟨h5,hM⟩
  ·have F:=And.intro (nf F h5) (lT h5);refine ZD 15 mixed (by kernel_rfl) (by kernel_rfl) ?_;simp [go_sem,F];exact au
  ·have F:=And.intro (nf F h5) (lF h5);refine ZD 15 mixed (by kernel_rfl) (by kernel_rfl) ?_;simp [go_sem,F];exact au
 ·intro x1 hM;(try dsimp only at hM);refine Zp hM (fun h6 hM=> ?_) (fun h6 hM=> ?_)
  ·have F:=nf F h6;refine Zh fun K7 hK7=> ?_;obtain ⟨x2,e8,hM⟩:=bind_some hM;have F:=And.intro F (Vs e8);refine ZD 8 mixed (by kernel_rfl) (by kernel_rfl) ?_;simp [go_sem,F];exact au
  ·have F:=nf F h6;exact au
instance:HC 270 (Ty @YS):=⟨YS⟩
theorem Wm (a0:Zi) (a1:ByteArray) (r:Bool) (hM:Yz a0 a1=some r):Ctr Tryz.prog 269 [.agg (Zi.c a0),.one (.str a1)] true [.one (.bool r)]:=by
 unfold Yz at hM
 refine Zr Tryz.func269 Tryz.ntmps269 Tryz.results269 fun N w0 hbad F=> ?_
 refine S1 ?_;refine mj (ι:=Bool) [] [] [] (fun i=>[(4,oB i)]) hM ?_ ?_
 ·intro e1 hM K3 hK3;exact au
 ·intro x1 hM;(try dsimp only at hM);exact au
instance:HC 269 (Ty @Wm):=⟨Wm⟩
theorem VJ (a0:Zf) (r:Zb×Zf) (hM:Yt a0=some r):Kd Tryz.prog 317 [] (Zf.c a0) [] true [.agg (Zb.c r.1)] (Zf.c r.2):=by
 unfold Yt at hM
 refine JL Tryz.func317 Tryz.ntmps317 Tryz.results317 fun N w0 hbad F=> ?_
 refine S1 ?_;refine mj (ι:=Int) [2] [2] [] (fun i=>[]) hM ?_ ?_ (cb:=fun i=>[(16,[cL Zi.c a0.list,cI a0.at_,cI i])])
 ·intro e1 hM K3 hK3;exact au
 ·intro x1 hM;(try dsimp only at hM);exact au
instance:HC 317 (Ty @VJ):=⟨VJ⟩
theorem WC (k:Nat) (a0:Zf) (r:ByteArray×Zf) (hM:Ys k a0=some r):Kd Tryz.prog 271 [] (Zf.c a0) [] true [.one (.str r.1)] (Zf.c r.2):=by
 unfold Ys at hM
 refine JL Tryz.func271 Tryz.ntmps271 Tryz.results271 fun N w0 hbad F=> ?_
 refine S1 ?_;obtain ⟨x1,e1,hM⟩:=bind_some hM;refine Zw fun K h=> ?_;simp [go_sem,F];refine ZH 0 (YS a0 x1 e1) ?_;simp [go_sem,F];refine h _ ?_;refine Zh fun K2 hK2=> ?_;refine mj (ι:=Bool) [0,3] [3,26] [] (fun i=>[(14,oB i)]) hM ?_ ?_
 ·intro e3 hM K5 hK5;exact au
 ·intro x2 hM;(try dsimp only at hM);exact au
instance:HC 271 (Ty @WC):=⟨WC⟩
end Go.Proofs.YtfapaeabfcogkaaGreatDoor
namespace Go.Proofs.YtfapaeabfcogkaaGreatDoor
open Go.RowKit Am
set_option maxHeartbeats 4000000
set_option maxRecDepth 100000
theorem ZbA (a0:Zi) (a1:ByteArray) (r:Bool) (hM:Uv a0 a1=some r):Ctr Tryz.prog 318 [.agg (Zi.c a0),.one (.str a1)] true [.one (.bool r)]:=by
 unfold Uv at hM
 refine Zr Tryz.func318 Tryz.ntmps318 Tryz.results318 fun N w0 hbad F=> ?_
 refine S1 ?_;refine mj (ι:=Bool) [] [] [] (fun i=>[(4,oB i)]) hM ?_ ?_
 ·intro e1 hM K3 hK3;exact au
 ·intro x1 hM;(try dsimp only at hM);exact au
instance:HC 318 (Ty @ZbA):=⟨ZbA⟩
theorem Yh (a0:Zf) (a1:ByteArray) (r:Zf) (hM:Zs a0 a1=some r):Kd Tryz.prog 272 [] (Zf.c a0) [.one (.str a1)] true [] (Zf.c r):=by
 unfold Zs at hM
 refine JL Tryz.func272 Tryz.ntmps272 Tryz.results272 fun N w0 hbad F=> ?_
 refine Zh fun K1 hK1=> ?_;refine mj (ι:=(List Zi)×Int×Int×Bool) [0] [] [] (fun i=>[(13,oB i.2.2.2)]) hM ?_ ?_ (cb:=fun i=>[(23,[cL Zi.c i.1,cI i.2.1,cI i.2.2.1])])
 ·intro e2 hM K4 hK4;exact au
 ·rintro ⟨x1,x2,x3,x4⟩ hM;dsimp only at hM;exact au
instance:HC 272 (Ty @Yh):=⟨Yh⟩
theorem Yy (a0:Zf) (a1:ByteArray) (r:Bool×Zf) (hM:Zk a0 a1=some r):Kd Tryz.prog 274 [] (Zf.c a0) [.one (.str a1)] true [.one (.bool r.1)] (Zf.c r.2):=by
 unfold Zk at hM
 refine JL Tryz.func274 Tryz.ntmps274 Tryz.results274 fun N w0 hbad F=> ?_
 exact au
instance:HC 274 (Ty @Yy):=⟨Yy⟩
theorem JH (a0:Int) (r:ByteArray) (hM:J0 a0=some r):Ctr Tryz.prog 275 [.one (.int .i64 a0)] true [.one (.str r)]:=by
 unfold J0 at hM
 refine Zr Tryz.func275 Tryz.ntmps275 Tryz.results275 fun N w0 hbad F=> ?_
 exact au
instance:HC 275 (Ty @JH):=⟨JH⟩
theorem QS:∀(k:Nat),(∀(a0:Zf) (a1:ByteArray) (r:(List Zb)×Zf) (hM:Yq k a0 a1=some r),Kd Tryz.prog 358 [] (Zf.c a0) [.one (.str a1)] false [.one (.sl (r.1.map Zb.c))] (Zf.c r.2))∧
  (∀(a0:Zf) (r:Zb×Zf) (hM:Zx k a0=some r),Kd Tryz.prog 338 [] (Zf.c a0) [] false [.agg (Zb.c r.1)] (Zf.c r.2))∧
  (∀(a0:Zf) (r:Zb×Zf) (hM:Zv k a0=some r),Kd Tryz.prog 319 [] (Zf.c a0) [] false [.agg (Zb.c r.1)] (Zf.c r.2))∧
  (∀(a0:Zf) (r:Zb×Zf) (hM:ZU k a0=some r),Kd Tryz.prog 273 [] (Zf.c a0) [] false [.agg (Zb.c r.1)] (Zf.c r.2))∧
  (∀(a0:Zf) (r:Zb×Zf) (hM:Zm k a0=some r),Kd Tryz.prog 234 [] (Zf.c a0) [] false [.agg (Zb.c r.1)] (Zf.c r.2)):=by
 intro k
 induction k with
 | zero=>exact ⟨by intro a0 a1 r hM;simp [Yq] at hM,by intro a0 r hM;simp [Zx] at hM,by intro a0 r hM;simp [Zv] at hM,by intro a0 r hM;simp [ZU] at hM,by intro a0 r hM;simp [Zm] at hM⟩
 | succ k ih=>
  obtain ⟨ih_i_parser_list2,ih_i_parser_atom,ih_i_parser_product,ih_i_parser_sum,ih_i_parser_expr⟩:=ih
  refine ⟨?_, ?_, ?_, ?_, ?_⟩
  ·intro a0 a1 r hM
   haveI:HC 358 _:=⟨ih_i_parser_list2⟩;haveI:HC 338 _:=⟨ih_i_parser_atom⟩;haveI:HC 319 _:=⟨ih_i_parser_product⟩;haveI:HC 273 _:=⟨ih_i_parser_sum⟩;haveI:HC 234 _:=⟨ih_i_parser_expr⟩;rw [Yq] at hM
   refine JL Tryz.func358 Tryz.ntmps358 Tryz.results358 fun N w0 hbad F=> ?_
   refine S1 ?_;refine S1 ?_;refine Zh fun K1 hK1=> ?_;obtain ⟨x1,e2,hM⟩:=bind_some hM;refine Zw fun K h=> ?_;simp [go_sem,F];refine ZH 0 (Yy a0 a1 x1 e2) ?_;simp [go_sem,F];refine h _ ?_;refine Zp hM (fun h3 hM=> ?_) (fun h3 hM=> ?_)
   ·have F:=nf F h3;refine S1 ?_;obtain rfl:=si hM;refine le1 [] [27] [] ?_ (ch:=[(4,oL Zb.c ([]:List Zb))]);exact au
   ·have F:=nf F h3;refine Zl ?_;refine hK1 _ ?_;refine mj (ι:=(List Zb)×(List Zi)×Int×Int) [] [] [] (fun i=>[(5,oO 384 i.1.length)]) hM ?_ ?_ (cb:=fun i=>[(27,[cL Zi.c i.2.1,cI i.2.2.1,cI i.2.2.2])]) (ca:=fun i=>[(384,aF Zb.c i.1)])
    ·intro e4 hM K6 hK6;refine Zg ?_;refine Zoo [384] (σ':=⟨27,[(0,.one (.box 27 0)),(1,.one (.l (.str a1))),(5,.one (.own 384 (([]:List Zb).length)))],[(27,[.l (.sl (x1.2.list.map Zi.c)),.l (.int .i64 x1.2.at_),.l (.int .i64 x1.2.bad)])],[(384,some ⟨false,([]:List Zb).map Zb.c⟩)]⟩) ?_;refine lp (ι:=(List Zi)×Int×Int×(List Zb)) [0,1] [] [] (fun i=>[(5,oO 384 i.2.2.2.length)]) (fun n i=>Yi (Zm k) a1 n i.1 i.2.1 i.2.2.1 i.2.2.2=some e4) k (x1.2.list,x1.2.at_,x1.2.bad,([]:List Zb)) hM (by simp [Yi]) ?_ (cb:=fun i=>[(27,[cL Zi.c i.1,cI i.2.1,cI i.2.2.1])]) (ca:=fun i=>[(384,aF Zb.c i.2.2.2)])
     intro KL7 nL7 ⟨x6,x7,x8,x9⟩ hL7 hM _;have hM:Yi (Zm k) a1 (nL7+1) x6 x7 x8 x9=some e4:=hM;rw [Yi] at hM;exact au
    ·rintro ⟨x2,x3,x4,x5⟩ hM;dsimp only at hM;refine S1 ?_;obtain rfl:=si hM;refine le1 [] [27] [] ?_ (ch:=[(4,oL Zb.c x2)]);exact au
  ·intro a0 r hM
   haveI:HC 358 _:=⟨ih_i_parser_list2⟩;haveI:HC 338 _:=⟨ih_i_parser_atom⟩;haveI:HC 319 _:=⟨ih_i_parser_product⟩;haveI:HC 273 _:=⟨ih_i_parser_sum⟩;haveI:HC 234 _:=⟨ih_i_parser_expr⟩;rw [Zx] at hM
   refine JL Tryz.func338 Tryz.ntmps338 Tryz.results338 fun N w0 hbad F=> ?_
   refine S1 ?_;obtain ⟨x1,e1,hM⟩:=bind_some hM;refine Zw fun K h=> ?_;simp [go_sem,F];refine ZH 0 (YS a0 x1 e1) ?_;simp [go_sem,F];refine h _ ?_;refine Zh fun K2 hK2=> ?_;refine Zg ?_;refine S1 ?_;refine Zp hM (fun h3 hM=> ?_) (fun h3 hM=> ?_)
   ·have F:=nf F h3;exact au
   ·have F:=nf F h3;refine S1 ?_;refine Zp hM (fun h4 hM=> ?_) (fun h4 hM=> ?_)
    ·have F:=nf F h4;exact au
    ·have F:=nf F h4;refine mj (ι:=Bool) [0,2,3] [2,3,94] [] (fun i=>[(35,oB i)]) hM ?_ ?_
     ·intro e5 hM K7 hK7;exact au
     ·intro x2 hM;(try dsimp only at hM);refine Zp hM (fun h10 hM=> ?_) (fun h10 hM=> ?_)
      ·have F:=nf F h10;exact au
      ·have F:=nf F h10;refine mj (ι:=Bool) [0,2,3] [2,3,94] [] (fun i=>[(54,oB i)]) hM ?_ ?_
       ·intro e11 hM K13 hK13;exact au
       ·intro x4 hM;(try dsimp only at hM);refine Zp hM (fun h16 hM=> ?_) (fun h16 hM=> ?_)
        ·have F:=nf F h16;refine S1 ?_;obtain ⟨x6,e17,hM⟩:=bind_some hM;refine Zw fun K h=> ?_;simp [go_sem,F];refine ZH 0 (Yh (Zf.mk x1.2.list (IntKind.i64.wrap (x1.2.at_+1)) x1.2.bad) (⟨#[40]⟩:ByteArray) x6 e17) ?_;simp [go_sem,F];refine h _ ?_;refine Zh fun K18 hK18=> ?_;refine le1 [0,2,3] [2,3,94] [] ?_;obtain ⟨x7,e19,hM⟩:=bind_some hM
         refine ZT [[1000094],[0,1000094],[],[2],[0,1,2,3],[0,1,2,3,4]] mixed (by kernel_rfl) ?_;simp [go_sem,F];refine ZH 0 (ih_i_parser_list2 x6 (⟨#[41]⟩:ByteArray) x7 e19) ?_;simp [go_sem,F];refine ⟨Zu (by kernel_rfl), ?_⟩;exact au
        ·have F:=nf F h16;obtain ⟨x8,e20,hM⟩:=bind_some hM;refine Zw fun K h=> ?_;simp [go_sem,F];refine ZH 0 (Yy x1.2 (⟨#[91]⟩:ByteArray) x8 e20) ?_;simp [go_sem,F];refine h _ ?_;refine Zp hM (fun h21 hM=> ?_) (fun h21 hM=> ?_)
         ·have F:=nf F h21;exact au
         ·have F:=nf F h21;obtain ⟨x10,e23,hM⟩:=bind_some hM;refine Zw fun K h=> ?_;simp [go_sem,F];refine ZH 0 (Yy x8.2 (⟨#[40]⟩:ByteArray) x10 e23) ?_;simp [go_sem,F];refine h _ ?_;refine Zp hM (fun h24 hM=> ?_) (fun h24 hM=> ?_)
          ·have F:=nf F h24;exact au
          ·have F:=nf F h24;refine Zl ?_;refine hK2 _ ?_;obtain ⟨x13,e27,hM⟩:=bind_some hM;refine Zw fun K h=> ?_;simp [go_sem,F];refine ZH 0 (VJ x10.2 x13 e27) ?_;simp [go_sem,F];refine h _ ?_;obtain rfl:=si hM;refine le1 [2] [94] [] ?_ (cb:=[(2,bT (Zb.c x13.1))]);exact au
  ·intro a0 r hM
   haveI:HC 358 _:=⟨ih_i_parser_list2⟩;haveI:HC 338 _:=⟨ih_i_parser_atom⟩;haveI:HC 319 _:=⟨ih_i_parser_product⟩;haveI:HC 273 _:=⟨ih_i_parser_sum⟩;haveI:HC 234 _:=⟨ih_i_parser_expr⟩;rw [Zv] at hM
   refine JL Tryz.func319 Tryz.ntmps319 Tryz.results319 fun N w0 hbad F=> ?_
   refine S1 ?_;obtain ⟨x1,e1,hM⟩:=bind_some hM;refine Zw fun K h=> ?_;simp [go_sem,F];refine ZH 0 (ih_i_parser_atom a0 x1 e1) ?_;simp [go_sem,F];refine h _ ?_;refine mj (ι:=Int×Int×ByteArray×(List Zb)×(List Zi)×Int×Int) [2,3] [2] [] (fun i=>[]) hM ?_ ?_ (cb:=fun i=>[(3,[cI i.1,cI i.2.1,cS i.2.2.1,cL Zb.c i.2.2.2.1]),(14,[cL Zi.c i.2.2.2.2.1,cI i.2.2.2.2.2.1,cI i.2.2.2.2.2.2])])
   ·intro e2 hM K4 hK4;refine Zg ?_;refine lp (ι:=(List Zi)×Int×Int×Int×Int×ByteArray×(List Zb)) [0,2,3] [2] [] (fun i=>[]) (fun n i=>Z1 (Zx k) n i.1 i.2.1 i.2.2.1 i.2.2.2.1 i.2.2.2.2.1 i.2.2.2.2.2.1 i.2.2.2.2.2.2=some e2) k (x1.2.list,x1.2.at_,x1.2.bad,x1.1.kind,x1.1.n,x1.1.text,x1.1.args) hM (by simp [Z1]) ?_ (cb:=fun i=>[(3,[cI i.2.2.2.1,cI i.2.2.2.2.1,cS i.2.2.2.2.2.1,cL Zb.c i.2.2.2.2.2.2]),(14,[cL Zi.c i.1,cI i.2.1,cI i.2.2.1])])
    intro KL5 nL5 ⟨x9,x10,x11,x12,x13,x14,x15⟩ hL5 hM _;have hM:Z1 (Zx k) (nL5+1) x9 x10 x11 x12 x13 x14 x15=some e2:=hM;rw [Z1] at hM;refine Zh fun K6 hK6=> ?_;obtain ⟨x16,e7,hM⟩:=bind_some hM;refine Zw fun K h=> ?_;simp [go_sem,F];refine ZH 0 (Yy (Zf.mk x9 x10 x11) (⟨#[42]⟩:ByteArray) x16 e7) ?_
    simp [go_sem,F];refine h _ ?_;refine Zp hM (fun h8 hM=> ?_) (fun h8 hM=> ?_)
    ·have F:=nf F h8;refine Zl ?_;refine hK6 _ ?_;refine Zg ?_;refine le1 [0,2,3] [2,3,14] [] ?_;obtain ⟨x17,e9,hM⟩:=bind_some hM;refine ZT [[1000014],[],[1],[0,1,2],[0,1,2,3],[0,1,2,3,4]] mixed (by kernel_rfl) ?_;simp [go_sem,F];refine ZH 0 (ih_i_parser_atom x16.2 x17 e9) ?_;simp [go_sem,F];refine ⟨Zu (by kernel_rfl), ?_⟩;exact au
    ·have F:=nf F h8;exact au
   ·rintro ⟨x2,x3,x4,x5,x6,x7,x8⟩ hM;dsimp only at hM;exact au
  ·intro a0 r hM
   haveI:HC 358 _:=⟨ih_i_parser_list2⟩;haveI:HC 338 _:=⟨ih_i_parser_atom⟩;haveI:HC 319 _:=⟨ih_i_parser_product⟩;haveI:HC 273 _:=⟨ih_i_parser_sum⟩;haveI:HC 234 _:=⟨ih_i_parser_expr⟩;rw [ZU] at hM
   refine JL Tryz.func273 Tryz.ntmps273 Tryz.results273 fun N w0 hbad F=> ?_
   refine S1 ?_;obtain ⟨x1,e1,hM⟩:=bind_some hM;refine Zw fun K h=> ?_;simp [go_sem,F];refine ZH 0 (ih_i_parser_product a0 x1 e1) ?_;simp [go_sem,F];refine h _ ?_;refine mj (ι:=Int×Int×ByteArray×(List Zb)×(List Zi)×Int×Int) [2,3] [2] [] (fun i=>[]) hM ?_ ?_ (cb:=fun i=>[(3,[cI i.1,cI i.2.1,cS i.2.2.1,cL Zb.c i.2.2.2.1]),(25,[cL Zi.c i.2.2.2.2.1,cI i.2.2.2.2.2.1,cI i.2.2.2.2.2.2])])
   ·intro e2 hM K4 hK4;refine Zg ?_;refine lp (ι:=(List Zi)×Int×Int×Int×Int×ByteArray×(List Zb)) [0,2,3] [2] [] (fun i=>[]) (fun n i=>YJ (Zv k) n i.1 i.2.1 i.2.2.1 i.2.2.2.1 i.2.2.2.2.1 i.2.2.2.2.2.1 i.2.2.2.2.2.2=some e2) k (x1.2.list,x1.2.at_,x1.2.bad,x1.1.kind,x1.1.n,x1.1.text,x1.1.args) hM (by simp [YJ]) ?_ (cb:=fun i=>[(3,[cI i.2.2.2.1,cI i.2.2.2.2.1,cS i.2.2.2.2.2.1,cL Zb.c i.2.2.2.2.2.2]),(25,[cL Zi.c i.1,cI i.2.1,cI i.2.2.1])])
    intro KL5 nL5 ⟨x9,x10,x11,x12,x13,x14,x15⟩ hL5 hM _;have hM:YJ (Zv k) (nL5+1) x9 x10 x11 x12 x13 x14 x15=some e2:=hM;rw [YJ] at hM;refine Zh fun K6 hK6=> ?_;refine S1 ?_;refine Zp hM (fun h7 hM=> ?_) (fun h7 hM=> ?_)
    ·have F:=And.intro (nf F h7) (lT h7);refine Zl ?_;refine hK6 _ ?_;refine Zg ?_;refine S1 ?_;refine mjE (ι:=(List Zi)×Int×Int×Int) [0,2,3] [2,3] [] (fun i=>[(4,oI i.2.2.2)]) hM ?_ ?_ (cb:=fun i=>[(25,[cL Zi.c i.1,cI i.2.1,cI i.2.2.1])])
     ·intro e8 hM hR2 K10 hK10;exact au
     ·rintro ⟨x16,x17,x18,x19⟩ hM;dsimp only at hM;refine le1 [0,2,3,4] [2,3,25] [] ?_;obtain ⟨x25,e16,hM⟩:=bind_some hM;refine ZT [[1000025],[1000025],[],[2],[1,2,3],[0,1,2,3,4],[0,1,2,3,4,5]] mixed (by kernel_rfl) ?_;simp [go_sem,F];refine ZH 0 (ih_i_parser_product (Zf.mk x16 x17 x18) x25 e16) ?_;simp [go_sem,F];refine ⟨Zu (by kernel_rfl), ?_⟩
      exact au
    ·have F:=And.intro (nf F h7) (lF h7);exact au
   ·rintro ⟨x2,x3,x4,x5,x6,x7,x8⟩ hM;dsimp only at hM;exact au
  ·intro a0 r hM
   haveI:HC 358 _:=⟨ih_i_parser_list2⟩;haveI:HC 338 _:=⟨ih_i_parser_atom⟩;haveI:HC 319 _:=⟨ih_i_parser_product⟩;haveI:HC 273 _:=⟨ih_i_parser_sum⟩;haveI:HC 234 _:=⟨ih_i_parser_expr⟩;rw [Zm] at hM
   refine JL Tryz.func234 Tryz.ntmps234 Tryz.results234 fun N w0 hbad F=> ?_
   refine S1 ?_;refine Zh fun K1 hK1=> ?_;refine Zg ?_;obtain ⟨x1,e2,hM⟩:=bind_some hM;obtain ⟨x2,e3,hM⟩:=bind_some hM;refine Zw fun K h=> ?_;simp [go_sem,F];refine ZH 0 (YS a0 x1 e2) ?_;simp [go_sem,F];refine Qb false (Wm x1.1 (⟨#[108,101,116]⟩:ByteArray) x2 e3) ?_;simp [go_sem,F];refine h _ ?_;refine Zp hM (fun h4 hM=> ?_) (fun h4 hM=> ?_)
   ·have F:=nf F h4;refine S1 ?_;obtain ⟨x3,e5,hM⟩:=bind_some hM;refine Zw fun K h=> ?_;simp [go_sem,F];refine ZH 0 (WC k (Zf.mk x1.2.list (IntKind.i64.wrap (x1.2.at_+1)) x1.2.bad) x3 e5) ?_;simp [go_sem,F];refine h _ ?_;obtain ⟨x4,e6,hM⟩:=bind_some hM;refine Zw fun K h=> ?_;simp [go_sem,F];refine ZH 0 (Yh x3.2 (⟨#[61]⟩:ByteArray) x4 e6) ?_
    simp [go_sem,F];refine h _ ?_;refine Zh fun K7 hK7=> ?_;refine le1 [0,2,3] [2,3,133] [] ?_;obtain ⟨x5,e8,hM⟩:=bind_some hM;obtain ⟨x6,e9,hM⟩:=bind_some hM;obtain ⟨c10,s11⟩:=QY e9;replace c10:=c10.symm;subst c10;(try simp at s11);have F:=And.intro F s11;refine ZT [[1000133],[0,1000133],[],[2],[2,3],[0,1,2,3,4],[0,1,2,3,4,5],[0,1,2,3,4,5,6]] mixed (by kernel_rfl) ?_
    simp [go_sem,F];refine ZH 0 (ih_i_parser_expr x4 x5 e8) ?_;simp [go_sem,F];refine ⟨Zu (by kernel_rfl), ?_⟩;refine hK7 _ ?_;obtain ⟨x7,e13,hM⟩:=bind_some hM;refine Zw fun K h=> ?_;simp [go_sem,F];refine ZH 0 (Yh x5.2 (⟨#[105,110]⟩:ByteArray) x7 e13) ?_;simp [go_sem,F];refine h _ ?_;refine Zh fun K14 hK14=> ?_;refine le1 [0,2,3] [2,3,133] [] ?_ (ca:=[(1920,aF Zb.c ([]++[x5.1]))])
    obtain ⟨x8,e15,hM⟩:=bind_some hM;obtain ⟨x9,e16,hM⟩:=bind_some hM;obtain ⟨c17,s18⟩:=QY e16;replace c17:=c17.symm;subst c17;(try simp at s18);have F:=And.intro F s18;refine ZT [[1000133],[0,1000133],[],[2],[2,3],[0,1,2,3,4],[0,1,2,3,4,5],[0,1,2,3,4,5,6]] mixed (by kernel_rfl) ?_;simp [go_sem,F];refine ZH 0 (ih_i_parser_expr x7 x8 e15) ?_
    simp [go_sem,F];refine ⟨Zu (by kernel_rfl), ?_⟩;refine hK14 _ ?_;refine S1 ?_;obtain rfl:=si hM;refine le1 [2] [133] [] ?_ (cb:=[(2,[cI 7,cI 0,cS x3.1,cL Zb.c (([]++[x5.1])++[x8.1])])]);exact au
   ·have F:=nf F h4;obtain ⟨x10,e20,hM⟩:=bind_some hM;obtain ⟨x11,e21,hM⟩:=bind_some hM;refine Zw fun K h=> ?_;simp [go_sem,F];refine ZH 0 (YS x1.2 x10 e20) ?_;simp [go_sem,F];refine Qb false (Wm x10.1 (⟨#[105,102]⟩:ByteArray) x11 e21) ?_;simp [go_sem,F];refine h _ ?_;refine Zp hM (fun h22 hM=> ?_) (fun h22 hM=> ?_)
    ·have F:=nf F h22;refine S1 ?_;refine S1 ?_;refine Zh fun K23 hK23=> ?_;refine le1 [0,2,4] [2,4,133] [] ?_;obtain ⟨x12,e24,hM⟩:=bind_some hM;obtain ⟨x13,e25,hM⟩:=bind_some hM;obtain ⟨c26,s27⟩:=QY e25;replace c26:=c26.symm;subst c26;(try simp at s27);have F:=And.intro F s27;refine ZT [[1000133],[0,1000133],[],[2],[2,3],[0,1,2,3,4],[0,1,2,3,4,5],[0,1,2,3,4,5,6]] mixed (by kernel_rfl) ?_
     simp [go_sem,F];refine ZH 0 (ih_i_parser_expr (Zf.mk x10.2.list (IntKind.i64.wrap (x10.2.at_+1)) x10.2.bad) x12 e24) ?_;simp [go_sem,F];refine ⟨Zu (by kernel_rfl), ?_⟩;refine hK23 _ ?_;obtain ⟨x14,e29,hM⟩:=bind_some hM;refine Zw fun K h=> ?_;simp [go_sem,F];refine ZH 0 (Yh x12.2 (⟨#[116,104,101,110]⟩:ByteArray) x14 e29) ?_;simp [go_sem,F]
     refine h _ ?_;refine Zh fun K30 hK30=> ?_;refine le1 [0,2,4] [2,4,133] [] ?_ (ca:=[(3776,aF Zb.c ([]++[x12.1]))]);obtain ⟨x15,e31,hM⟩:=bind_some hM;obtain ⟨x16,e32,hM⟩:=bind_some hM;obtain ⟨c33,s34⟩:=QY e32;replace c33:=c33.symm;subst c33;(try simp at s34);have F:=And.intro F s34;refine ZT [[1000133],[0,1000133],[],[2],[2,3],[0,1,2,3,4],[0,1,2,3,4,5],[0,1,2,3,4,5,6]] mixed (by kernel_rfl) ?_
     simp [go_sem,F];refine ZH 0 (ih_i_parser_expr x14 x15 e31) ?_;simp [go_sem,F];refine ⟨Zu (by kernel_rfl), ?_⟩;refine hK30 _ ?_;obtain ⟨x17,e36,hM⟩:=bind_some hM;refine Zw fun K h=> ?_;simp [go_sem,F];refine ZH 0 (Yh x15.2 (⟨#[101,108,115,101]⟩:ByteArray) x17 e36) ?_;simp [go_sem,F];refine h _ ?_;refine Zh fun K37 hK37=> ?_;refine le1 [0,2,4] [2,4,133] [] ?_ (ca:=[(3776,aF Zb.c (([]++[x12.1])++[x15.1]))])
     obtain ⟨x18,e38,hM⟩:=bind_some hM;obtain ⟨x19,e39,hM⟩:=bind_some hM;obtain ⟨c40,s41⟩:=QY e39;replace c40:=c40.symm;subst c40;(try simp at s41);have F:=And.intro F s41;refine ZT [[1000133],[0,1000133],[],[2],[2,3],[0,1,2,3,4],[0,1,2,3,4,5],[0,1,2,3,4,5,6]] mixed (by kernel_rfl) ?_;simp [go_sem,F];refine ZH 0 (ih_i_parser_expr x17 x18 e38) ?_
     simp [go_sem,F];refine ⟨Zu (by kernel_rfl), ?_⟩;refine hK37 _ ?_;refine S1 ?_;obtain rfl:=si hM;refine le1 [2] [133] [] ?_ (cb:=[(2,[cI 8,cI 0,cS (⟨#[]⟩:ByteArray),cL Zb.c ((([]++[x12.1])++[x15.1])++[x18.1])])]);exact au
    ·have F:=nf F h22;obtain ⟨x20,e43,hM⟩:=bind_some hM;obtain ⟨x21,e44,hM⟩:=bind_some hM;refine Zw fun K h=> ?_;simp [go_sem,F];refine ZH 0 (YS x10.2 x20 e43) ?_;simp [go_sem,F];refine Qb false (Wm x20.1 (⟨#[102,111,114]⟩:ByteArray) x21 e44) ?_;simp [go_sem,F];refine h _ ?_;refine Zp hM (fun h45 hM=> ?_) (fun h45 hM=> ?_)
     ·have F:=nf F h45;refine S1 ?_;obtain ⟨x22,e46,hM⟩:=bind_some hM;refine Zw fun K h=> ?_;simp [go_sem,F];refine ZH 0 (WC k (Zf.mk x20.2.list (IntKind.i64.wrap (x20.2.at_+1)) x20.2.bad) x22 e46) ?_;simp [go_sem,F];refine h _ ?_;obtain ⟨x23,e47,hM⟩:=bind_some hM;refine Zw fun K h=> ?_;simp [go_sem,F];refine ZH 0 (Yh x22.2 (⟨#[105,110]⟩:ByteArray) x23 e47) ?_
      simp [go_sem,F];refine h _ ?_;refine Zh fun K48 hK48=> ?_;refine le1 [0,2,5] [2,5,133] [] ?_;obtain ⟨x24,e49,hM⟩:=bind_some hM;obtain ⟨x25,e50,hM⟩:=bind_some hM;obtain ⟨c51,s52⟩:=QY e50;replace c51:=c51.symm;subst c51;(try simp at s52);have F:=And.intro F s52;refine ZT [[1000133],[0,1000133],[],[2],[2,3],[0,1,2,3,4],[0,1,2,3,4,5],[0,1,2,3,4,5,6]] mixed (by kernel_rfl) ?_
      simp [go_sem,F];refine ZH 0 (ih_i_parser_expr x23 x24 e49) ?_;simp [go_sem,F];refine ⟨Zu (by kernel_rfl), ?_⟩;refine hK48 _ ?_;obtain ⟨x26,e54,hM⟩:=bind_some hM;refine Zw fun K h=> ?_;simp [go_sem,F];refine ZH 0 (Yh x24.2 (⟨#[100,111]⟩:ByteArray) x26 e54) ?_;simp [go_sem,F];refine h _ ?_;refine Zh fun K55 hK55=> ?_;refine le1 [0,2,5] [2,5,133] [] ?_ (ca:=[(6464,aF Zb.c ([]++[x24.1]))])
      obtain ⟨x27,e56,hM⟩:=bind_some hM;obtain ⟨x28,e57,hM⟩:=bind_some hM;obtain ⟨c58,s59⟩:=QY e57;replace c58:=c58.symm;subst c58;(try simp at s59);have F:=And.intro F s59;refine ZT [[1000133],[0,1000133],[],[2],[2,3],[0,1,2,3,4],[0,1,2,3,4,5],[0,1,2,3,4,5,6]] mixed (by kernel_rfl) ?_;simp [go_sem,F];refine ZH 0 (ih_i_parser_expr x26 x27 e56) ?_
      simp [go_sem,F];refine ⟨Zu (by kernel_rfl), ?_⟩;refine hK55 _ ?_;refine S1 ?_;obtain rfl:=si hM;refine le1 [2] [133] [] ?_ (cb:=[(2,[cI 9,cI 0,cS x22.1,cL Zb.c (([]++[x24.1])++[x27.1])])]);exact au
     ·have F:=nf F h45;refine Zl ?_;refine hK1 _ ?_;obtain ⟨x29,e61,hM⟩:=bind_some hM;refine Zw fun K h=> ?_;simp [go_sem,F];refine ZH 0 (ih_i_parser_sum x20.2 x29 e61) ?_;simp [go_sem,F];refine h _ ?_;refine mjE (ι:=(List Zi)×Int×Int) [2,6] [2,6] [] (fun i=>[]) hM ?_ ?_ (cb:=fun i=>[(133,[cL Zi.c i.1,cI i.2.1,cI i.2.2])])
      ·intro e62 hM hR1 K64 hK64;refine S1 ?_;refine Zg ?_;refine lp (ι:=(List Zi)×Int×Int×Int) [0,2,6,115,116] [2,6] [7360] (fun i=>[(117,oI i.2.2.2)]) (fun n i=>Yd (ZU k) x29 n i.1 i.2.1 i.2.2.1 i.2.2.2=some e62) k (x29.2.list,x29.2.at_,x29.2.bad,0) hM (by simp [Yd]) ?_ (cb:=fun i=>[(133,[cL Zi.c i.1,cI i.2.1,cI i.2.2.1])])
       intro KL65 nL65 ⟨x33,x34,x35,x36⟩ hL65 hM _;have hM:Yd (ZU k) x29 (nL65+1) x33 x34 x35 x36=some e62:=hM;rw [Yd] at hM;refine S1 ?_;refine Zh fun K66 hK66=> ?_;refine Zp hM (fun h67 hM=> ?_) (fun h67 hM=> ?_)
       ·have F:=And.intro (nf F h67) (lT h67);refine Zl ?_;refine hK66 _ ?_;refine Zh fun K68 hK68=> ?_;refine Zg ?_;obtain ⟨x37,e69,hM⟩:=bind_some hM;have F:=And.intro F (Vs e69);have F:=And.intro F (Zoi e69);have F:=nm F (ZuN e69);refine S1 ?_;obtain ⟨x38,e70,hM⟩:=bind_some hM;obtain ⟨x39,e71,hM⟩:=bind_some hM;refine Zw fun K h=> ?_
        simp [go_sem,F];refine Qb false (JH x37 x38 e70) ?_;simp [go_sem,F];refine ZH 0 (Yy (Zf.mk x33 x34 x35) x38 x39 e71) ?_;simp [go_sem,F];refine h _ ?_;refine Zp hM (fun h72 hM=> ?_) (fun h72 hM=> ?_)
        ·have F:=nf F h72;refine Zh fun K73 hK73=> ?_;refine le1 [0,2,6,8] [2,6,133] [] ?_;obtain ⟨x40,e74,hM⟩:=bind_some hM;refine ZT [[1000133],[1000133],[],[2],[1,2,3],[0,1,2,3,4],[0,1,2,3,4,5]] mixed (by kernel_rfl) ?_;simp [go_sem,F];refine ZH 0 (ih_i_parser_sum x39.2 x40 e74) ?_;simp [go_sem,F];refine ⟨Zu (by kernel_rfl), ?_⟩
         refine hK73 _ ?_;obtain rfl:=si hM;have hM:=hR1;clear hR1;dsimp only at hM;obtain rfl:=si hM;refine le1 [2] [133] [] ?_ (cb:=[(2,[cI 6,cI x37,cS (⟨#[]⟩:ByteArray),cL Zb.c [x29.1,x40.1]])]);exact au
        ·have F:=nf F h72;exact au
       ·have F:=And.intro (nf F h67) (lF h67);exact au
      ·rintro ⟨x30,x31,x32⟩ hM;dsimp only at hM;exact au
theorem Jq (k:Nat):∀(a0:Zf) (a1:ByteArray) (r:(List Zb)×Zf) (hM:Yq k a0 a1=some r),Kd Tryz.prog 358 [] (Zf.c a0) [.one (.str a1)] false [.one (.sl (r.1.map Zb.c))] (Zf.c r.2):=(QS k).1
instance:HC 358 (Ty @Jq):=⟨Jq⟩
theorem JY (k:Nat):∀(a0:Zf) (r:Zb×Zf) (hM:Zx k a0=some r),Kd Tryz.prog 338 [] (Zf.c a0) [] false [.agg (Zb.c r.1)] (Zf.c r.2):=(QS k).2.1
instance:HC 338 (Ty @JY):=⟨JY⟩
theorem Uh (k:Nat):∀(a0:Zf) (r:Zb×Zf) (hM:Zv k a0=some r),Kd Tryz.prog 319 [] (Zf.c a0) [] false [.agg (Zb.c r.1)] (Zf.c r.2):=(QS k).2.2.1
instance:HC 319 (Ty @Uh):=⟨Uh⟩
theorem KN (k:Nat):∀(a0:Zf) (r:Zb×Zf) (hM:ZU k a0=some r),Kd Tryz.prog 273 [] (Zf.c a0) [] false [.agg (Zb.c r.1)] (Zf.c r.2):=(QS k).2.2.2.1
instance:HC 273 (Ty @KN):=⟨KN⟩
theorem VK (k:Nat):∀(a0:Zf) (r:Zb×Zf) (hM:Zm k a0=some r),Kd Tryz.prog 234 [] (Zf.c a0) [] false [.agg (Zb.c r.1)] (Zf.c r.2):=(QS k).2.2.2.2
instance:HC 234 (Ty @VK):=⟨VK⟩
theorem Zfe:∀(k:Nat),(∀(a0:Zb) (r:Int) (hM:Qz k a0=some r),Ctr Tryz.prog 188 [.agg (Zb.c a0)] true [.one (.int .i64 r)]):=by
 intro k
 induction k with
 | zero=>intro a0 r hM;simp [Qz] at hM
 | succ k ih_i_NodeCount=>
  ·intro a0 r hM
   haveI:HC 188 _:=⟨ih_i_NodeCount⟩;rw [Qz] at hM
   refine Zr Tryz.func188 Tryz.ntmps188 Tryz.results188 fun N w0 hbad F=> ?_
   refine S1 ?_;refine S1 ?_;refine mj (ι:=Int) [] [] [] (fun i=>[(3,oI i)]) hM ?_ ?_
   ·intro e1 hM K3 hK3;refine S1 ?_;refine Zg ?_;refine lp (ι:=Int×Int) [7,8] [] [] (fun i=>[(3,oI i.1),(9,oI i.2)]) (fun n i=>YW (Qz k) a0 n i.1 i.2=some e1) k (1,0) hM (by simp [YW]) ?_;intro KL4 nL4 ⟨x2,x3⟩ hL4 hM _;have hM:YW (Qz k) a0 (nL4+1) x2 x3=some e1:=hM;rw [YW] at hM;exact au
   ·intro x1 hM;(try dsimp only at hM);exact au
theorem ZaI (k:Nat):∀(a0:Zb) (r:Int) (hM:Qz k a0=some r),Ctr Tryz.prog 188 [.agg (Zb.c a0)] true [.one (.int .i64 r)]:=(Zfe k)
instance:HC 188 (Ty @ZaI):=⟨ZaI⟩
theorem Zff:∀(k:Nat),(∀(a0:Zb) (r:Int) (hM:Qa k a0=some r),Ctr Tryz.prog 189 [.agg (Zb.c a0)] true [.one (.int .i64 r)]):=by
 intro k
 induction k with
 | zero=>intro a0 r hM;simp [Qa] at hM
 | succ k ih_i_NestingOf=>
  ·intro a0 r hM
   haveI:HC 189 _:=⟨ih_i_NestingOf⟩;rw [Qa] at hM
   refine Zr Tryz.func189 Tryz.ntmps189 Tryz.results189 fun N w0 hbad F=> ?_
   refine S1 ?_;refine S1 ?_;refine mj (ι:=Int) [] [] [] (fun i=>[(3,oI i)]) hM ?_ ?_
   ·intro e1 hM K3 hK3;refine S1 ?_;refine Zg ?_;refine lp (ι:=Int×Int) [7,8] [] [] (fun i=>[(3,oI i.1),(9,oI i.2)]) (fun n i=>YX (Qa k) a0 n i.1 i.2=some e1) k (0,0) hM (by simp [YX]) ?_;intro KL4 nL4 ⟨x2,x3⟩ hL4 hM _;have hM:YX (Qa k) a0 (nL4+1) x2 x3=some e1:=hM;rw [YX] at hM;exact au
   ·intro x1 hM;(try dsimp only at hM);exact au
theorem ZaJ (k:Nat):∀(a0:Zb) (r:Int) (hM:Qa k a0=some r),Ctr Tryz.prog 189 [.agg (Zb.c a0)] true [.one (.int .i64 r)]:=(Zff k)
instance:HC 189 (Ty @ZaJ):=⟨ZaJ⟩
theorem Zd1 (k:Nat) (a0:Zb) (r:Bool) (hM:Kv k a0=some r):Ctr Tryz.prog 244 [.agg (Zb.c a0)] true [.one (.bool r)]:=by
 unfold Kv at hM
 refine Zr Tryz.func244 Tryz.ntmps244 Tryz.results244 fun N w0 hbad F=> ?_
 refine S1 ?_;refine S1 ?_;refine Zh fun K1 hK1=> ?_;refine S1 ?_;refine Zg ?_;refine S1 ?_;refine Zp hM (fun h2 hM=> ?_) (fun h2 hM=> ?_)
 ·have F:=nf F h2;refine mj (ι:=Bool) [] [] [] (fun i=>[(2,oB i)]) hM ?_ ?_
  ·intro e3 hM K5 hK5;exact au
  ·intro x1 hM;(try dsimp only at hM);exact au
 ·have F:=nf F h2;refine S1 ?_;refine Zp hM (fun h9 hM=> ?_) (fun h9 hM=> ?_)
  ·have F:=nf F h9;refine mj (ι:=Bool) [] [] [] (fun i=>[(2,oB i)]) hM ?_ ?_
   ·intro e10 hM K12 hK12;exact au
   ·intro x3 hM;(try dsimp only at hM);exact au
  ·have F:=nf F h9;refine S1 ?_;refine Zp hM (fun h16 hM=> ?_) (fun h16 hM=> ?_)
   ·have F:=nf F h16;refine mj (ι:=Bool) [] [] [] (fun i=>[(2,oB i)]) hM ?_ ?_
    ·intro e17 hM K19 hK19;exact au
    ·intro x5 hM;(try dsimp only at hM);exact au
   ·have F:=nf F h16;refine S1 ?_;refine Zp hM (fun h23 hM=> ?_) (fun h23 hM=> ?_)
    ·have F:=nf F h23;refine mj (ι:=Bool) [] [] [] (fun i=>[(2,oB i)]) hM ?_ ?_
     ·intro e24 hM K26 hK26;exact au
     ·intro x7 hM;(try dsimp only at hM);exact au
    ·have F:=nf F h23;refine S1 ?_;refine Zp hM (fun h29 hM=> ?_) (fun h29 hM=> ?_)
     ·have F:=nf F h29;refine mj (ι:=Bool) [] [] [] (fun i=>[(2,oB i)]) hM ?_ ?_
      ·intro e30 hM K32 hK32;exact au
      ·intro x8 hM;(try dsimp only at hM);exact au
     ·have F:=nf F h29;refine S1 ?_;refine Zp hM (fun h35 hM=> ?_) (fun h35 hM=> ?_)
      ·have F:=nf F h35;refine mj (ι:=Bool) [] [] [] (fun i=>[(2,oB i)]) hM ?_ ?_
       ·intro e36 hM K38 hK38;exact au
       ·intro x10 hM;(try dsimp only at hM);exact au
      ·have F:=nf F h35;refine mj (ι:=Bool) [1,3,8] [1] [] (fun i=>[(91,oB i)]) hM ?_ ?_
       ·intro e42 hM K44 hK44;exact au
       ·intro x12 hM;(try dsimp only at hM);refine Zp hM (fun h46 hM=> ?_) (fun h46 hM=> ?_)
        ·have F:=nf F h46;refine mj (ι:=Bool) [] [] [] (fun i=>[(2,oB i)]) hM ?_ ?_
         ·intro e47 hM K49 hK49;exact au
         ·intro x13 hM;(try dsimp only at hM);exact au
        ·have F:=nf F h46;refine S1 ?_;refine Zp hM (fun h53 hM=> ?_) (fun h53 hM=> ?_)
         ·have F:=nf F h53;refine mj (ι:=Bool) [] [] [] (fun i=>[(2,oB i)]) hM ?_ ?_
          ·intro e54 hM K56 hK56;exact au
          ·intro x15 hM;(try dsimp only at hM);exact au
         ·have F:=nf F h53;exact au
instance:HC 244 (Ty @Zd1):=⟨Zd1⟩
theorem ZfM:∀(k:Nat),(∀(a0:Zb) (r:Bool) (hM:Y8 k a0=some r),Ctr Tryz.prog 190 [.agg (Zb.c a0)] true [.one (.bool r)]):=by
 intro k
 induction k with
 | zero=>intro a0 r hM;simp [Y8] at hM
 | succ k ih_i_areNodes=>
  ·intro a0 r hM
   haveI:HC 190 _:=⟨ih_i_areNodes⟩;rw [Y8] at hM
   refine Zr Tryz.func190 Tryz.ntmps190 Tryz.results190 fun N w0 hbad F=> ?_
   refine S1 ?_;refine mjE (ι:=Unit) [1] [1] [] (fun i=>[]) hM ?_ ?_
   ·intro e1 hM hR1 K3 hK3;refine S1 ?_;refine Zg ?_;refine lp (ι:=Int) [1,6,7] [1] [] (fun i=>[(8,oI i)]) (fun n i=>QV (Y8 k) a0 n i=some e1) k 0 hM (by simp [QV]) ?_;intro KL4 nL4 x1 hL4 hM _;have hM:QV (Y8 k) a0 (nL4+1) x1=some e1:=hM;rw [QV] at hM;exact au
   ·intro _ hM;dsimp only at hM;exact au
theorem Zbz (k:Nat):∀(a0:Zb) (r:Bool) (hM:Y8 k a0=some r),Ctr Tryz.prog 190 [.agg (Zb.c a0)] true [.one (.bool r)]:=(ZfM k)
instance:HC 190 (Ty @Zbz):=⟨Zbz⟩
theorem J3 (k:Nat) (a0:Zb) (r:Bool) (hM:WG k a0=some r):Ctr Tryz.prog 130 [.agg (Zb.c a0)] true [.one (.bool r)]:=by
 unfold WG at hM
 refine Zr Tryz.func130 Tryz.ntmps130 Tryz.results130 fun N w0 hbad F=> ?_
 refine S1 ?_;refine mj (ι:=Bool) [] [] [] (fun i=>[(2,oB i)]) hM ?_ ?_
 ·intro e1 hM K3 hK3;exact au
 ·intro x1 hM;(try dsimp only at hM);exact au
instance:HC 130 (Ty @J3):=⟨J3⟩
end Go.Proofs.YtfapaeabfcogkaaGreatDoor
