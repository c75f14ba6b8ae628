import Derived.Test.YtpblakfidofgfaaGreatDoorZJ28
import Derived.Test.YtpblakfidofgfaaGreatDoorZJ29
import Derived.Test.YtpblakfidofgfaaGreatDoorZJ27
import Derived.Test.YtpblakfidofgfaaGreatDoorZJ30
set_option linter.unusedSimpArgs false
set_option linter.unusedVariables false
namespace Go.Proofs.YtpblakfidofgfaaGreatDoor
open Go.RowKit Am
set_option maxHeartbeats 4000000
set_option maxRecDepth 100000
theorem ZmV {cf cn:Nat} {lx:L} (k:Nat) (step:Int->Option (List Int)) (hs:∀(a:Int) (r:List Int),step a=some r->GC Tryz.prog cf cn [.one (.l (.int .i64 a)),.one (.box cn 0)] [(cn,[.l lx])] [] (.one (.own 30000 r.length)) [(cn,[.l lx])] [(30000,some ⟨false,r.map iC⟩)])
  (a0:Int) (r:List Int) (hM:ZfZ k step a0=some r):GC Tryz.prog 228 35 [.one (.l (.int .i64 a0)),.one (.clo cf [35])] [(35,[.l lx])] [] (.one (.own 30000 r.length)) [(35,[.l lx])] [(30000,some ⟨true,r.map iC⟩)]:=by
 unfold ZfZ at hM;refine GC.Xt (by kernel_rfl) Tryz.func228 rfl Tryz.ntmps228 Tryz.results228 (by simp) fun N w0 hbad=> ?_;have F:=True.intro;simp only [JN];refine S1 ?_;refine S1 ?_;obtain ⟨x1,e1,hM⟩:=bind_some hM;refine XX fun K h=> ?_;simp [go_sem,F];refine Zl4 ?_;simp [go_sem,F];refine Zod [] (ren []) (ren [(cn,35)]) (ren [(30000,704)]) (hs a0 x1 e1) ?_;simp [go_sem,F];refine h _ ?_;refine JJ (Zrz (t:=6) (τ:=704) (n:=x1.length) (W:=1) (by simp [go_sem])) ?_;refine mj (ι:=List Int) [] [35] [] (fun i=>[(5,oO 512 i.length)]) hM ?_ ?_ (ca:=fun i=>[(512,aT iC i)])
 ·intro e2 hM K3 hK3
  have hx1:x1.length<=17592186044416:=by
   by_cases h:x1.length<=17592186044416
   ·exact h
   ·rw [if_neg h] at hM;cases hM
  rw [if_pos hx1] at hM;refine YK ?_;refine lp (ι:=(List Int×List Int)×(List Int×Nat)) [1] [35] [] (fun i=>[(5,oO 512 i.1.1.length),(6,.one (.vw 704 (i.2.1.length+i.1.2.length) i.2.1.length (i.2.1.length+i.1.2.length) 1))]) (fun n i=>Wz k step n i.1.1 i.1.2 i.2.2=some e2/\i.2.1.length+i.1.2.length<=i.2.2/\i.2.2<=17592186044416) k (([],x1),([],x1.length)) ⟨hM,by simp,hx1⟩ (by simp [Wz]) ?_ (ca:=fun i=>[(512,aT iC i.1.1),(704,aF iC (i.2.1++i.1.2))]);intro KL nL ⟨⟨out,todo⟩,pre,t⟩ hL ⟨hM,ht,ht2⟩ _;have hM:Wz k step (nL+1) out todo t=some e2:=hM;have ht:pre.length+todo.length<=t:=ht;have ht2:t<=17592186044416:=ht2;rw [Wz] at hM;refine YP fun K5 hK5=> ?_;refine S1 ?_;refine VK hM (fun h6 hM=> ?_) (fun h6 hM=> ?_)
  ·have F:=ZAa (nf F h6) (lT h6);refine YT ?_;refine hK5 _ ?_;refine YK ?_;obtain ⟨x,e7,hM⟩:=bind_some hM
   obtain ⟨rest,rfl⟩:∃rest,todo=x::rest:=by
    cases todo with
    | nil=>simp [at?] at e7
    | cons y l=>simp [at?] at e7;subst e7;exact ⟨l,rfl⟩
   have hx:(List.map iC pre++iC x::List.map iC rest)[pre.length]? =some (iC x):=by rw [List.getElem?_append_right (by simp)];simp
   have hp:(1:Int)<=(rest.length:Int)+1:=by omega
   have F:=ZAa F (ZAa hx hp);refine S1 ?_;refine S1 ?_;have ht:pre.length+(rest.length+1)<=t:=ht;obtain ⟨pre1,hpre⟩:∃pre1,pre1=pre++[x]:=⟨_,rfl⟩;have hpl:pre1.length=pre.length+1:=by rw [hpre];simp
   refine le1 [1,5,7] [35] [512] ?_ (ch:=[(6,.one (.vw 704 (pre1.length+rest.length) pre1.length (pre1.length+rest.length) 1))]) (ca:=[(704,aF iC (pre1++rest))]) (k:=by
    constructor<;>simp [go_sem,F,hpre]<;>omega)
   obtain ⟨b,e8,hM⟩:=bind_some hM;refine XX fun K h=> ?_;simp [go_sem,F];refine Zg3 false (Zb4 k out x b e8) ?_;simp [go_sem,F];refine h _ ?_;refine VK hM (fun h9 hM=> ?_) (fun h9 hM=> ?_)
   ·have F:=nf F h9;obtain ⟨o,e10,hM⟩:=bind_some hM;obtain ⟨c20,s21⟩:=WG e10;replace c20:=c20.symm;subst c20;(try simp at s21);have F:=ZAa F s21;obtain ⟨ys,e11,hM⟩:=bind_some hM
    have hys:t+ys.length<=17592186044416:=by
     by_cases h:t+ys.length<=17592186044416
     ·exact h
     ·rw [if_neg h] at hM;cases hM
    rw [if_pos hys] at hM;refine S1 ?_;refine Zup 4 ?_;simp [go_sem,F];refine Zl4 ?_;simp [go_sem,F];refine Zod [] (ren []) (ren [(cn,35)]) (ren [(30000,1984)]) (hs x ys e11) ?_;simp [go_sem,F];refine ⟨by omega,by omega, ?_, ?_⟩
    ·exact fr hL [(2048,704)] [1,5,6] [35] [512,2048] ((out++[x],rest++ys),(pre1,t+ys.length)) ⟨hM,by simp;omega,hys⟩
    ·exact fr hL [(2048,704)] [1,5,6] [35] [512,2048] ((out++[x],rest++ys),([],t+ys.length)) ⟨hM,by simp;omega,hys⟩
   ·have F:=nf F h9;refine YT ?_;exact fs (i:=((out,rest),(pre1,t))) hL ⟨hM,by show pre1.length+rest.length<=t;omega,ht2⟩
  ·have F:=ZAa (nf F h6) (lF h6);refine ZkR ?_;obtain rfl:=si hM;exact fs hK3 rfl
 ·intro x2 hM;(try dsimp only at hM);obtain ⟨x3,e3,hM⟩:=bind_some hM;refine XX fun K h=> ?_;simp [go_sem,F];refine Zg3 false (Zb1 k x2 x3 e3) ?_;simp [go_sem,F];refine h _ ?_;obtain rfl:=si hM;refine rr [] [(2176,30000)] [4] [35] [2176] ?_;exact au
set_option maxHeartbeats 4000000
set_option maxRecDepth 100000
theorem KN (a0:Zd) (a1:ByteArray) (r:Zd) (hM:Zn a0 a1=some r):ZcU Tryz.prog 258 [] (Zd.c a0) [.one (.str a1)] true [] (Zd.c r):=by
 unfold Zn at hM;exact wP Tryz.func258 Tryz.ntmps258 Tryz.results258 (hj [0] [] [] (fun (i:(List Zg)×Int×Int×Bool)=>[(13,oB i.2.2.2)]) (cb:=fun i=>[(23,[cL Zg.c i.1,cI i.2.1,cI i.2.2.1])]))
instance:HC 258 (Ty @KN):=⟨KN⟩
set_option maxHeartbeats 4000000
set_option maxRecDepth 100000
theorem J9:kT Tryz.prog 82 true U1:=wK Tryz.func82 Tryz.ntmps82 Tryz.results82 U1.eq_1 (hj [0,1] [] [] (fun (i:(List Bool)×Int)=>[(7,oO 896 i.1.length),(8,oI i.2)]) (hl [0,1,2] [] [] 3 QC.eq_1 QC.eq_2 (fun (i:(List Bool)×Int×Int)=>[(7,oO 896 i.1.length),(8,oI i.2.1),(9,oI i.2.2)]) (.i (hj [0,1,2,9] [] [] (fun (i:(List Bool)×Int)=>[(7,oO 896 i.1.length),(8,oI i.2)]) (hj [0,1,2,8,9] [] [] (fun (i:List Bool)=>[(7,oO 896 i.length)]) (ca:=fun i=>[(896,aT bC i)])) (ca:=fun i=>[(896,aT bC i.1)])) .e) (ca:=fun i=>[(896,aT bC i.1)])) (hj [] [] [] (fun (i:List Int)=>[(10,oO 3648 i.length)]) (hl [0,1,7,8] [] [896] 1 Xo.eq_1 Xo.eq_2 (fun (i:List Int)=>[(10,oO 3648 i.length)]) (.i (hl [0,1,7,8,10] [] [896,3648] 1 YW.eq_1 YW.eq_2 (fun (i:Int)=>[(11,oI i)]) (.i (hj [0,1,7,8,10,11] [] [896,3648] (fun (i:Bool)=>[(86,oB i)])) .e)) .e) (ca:=fun i=>[(3648,aT iC i)])) (ca:=fun i=>[(3648,aT iC i)])) (ca:=fun i=>[(896,aT bC i.1)]))
instance:HC 82 (Ty @J9):=⟨J9⟩
end Go.Proofs.YtpblakfidofgfaaGreatDoor
