import Derived.Test.YtlbjjjhamfbhaaaGreatDoorJ5
import Derived.Test.YtlbjjjhamfbhaaaGreatDoorJ6
import Derived.Test.YtlbjjjhamfbhaaaGreatDoorJ4
import Derived.Test.YtlbjjjhamfbhaaaGreatDoorPkC
set_option linter.unusedSimpArgs false
set_option linter.unusedVariables false
namespace Go.Proofs.YtlbjjjhamfbhaaaGreatDoor
open Go.RowKit Am
theorem Zm6 {N:Nat->Prop} {w:World} {FA:List Nat} {b:Bool}:Zan true N w FA [.one (.bool b)] [.bool b]:=by
 simp only [Zan,if_true,ZaY,ZkF,Ow];exact ⟨[],⟨_,[],[],[],rfl,rfl,⟨rfl,rfl⟩,rfl,rfl⟩,List.nodup_nil⟩
theorem ZoK {N:Nat->Prop} {w:World} {FA:List Nat} {n:Int} (h:InK .i64 n):Zan true N w FA [.one (.int .i64 n)] [.int .i64 n]:=by
 simp only [Zan,if_true,ZaY,ZkF,Ow];exact ⟨[],⟨_,[],[],[],rfl,rfl,⟨rfl,rfl,h⟩,rfl,rfl⟩,List.nodup_nil⟩
theorem Zg4 {N:Nat->Prop} {w:World} {FA:List Nat} {n:Int} {b:Bool} (h:InK .i64 n):Zan true N w FA [.one (.int .i64 n),.one (.bool b)] [.int .i64 n,.bool b]:=by
 simp only [Zan,if_true,ZaY,ZkF,Ow];exact ⟨[],⟨_,_,[],[],rfl,rfl,⟨rfl,rfl,h⟩,_,_,[],[],rfl,rfl,⟨rfl,rfl⟩,rfl,rfl⟩,List.nodup_nil⟩
theorem XH (a0 a1:ByteArray) (r:Bool) (hM:Yx a0 a1=some r):Ctr Tryz.prog 348 [.one (.str a0),.one (.str a1)] true [.one (.bool r)]:=by
 obtain rfl:=ZtT hM;refine ⟨by kernel_rfl,fun w vs FA _ hd=> ?_⟩;obtain ⟨v,u,F1,F2,rfl,rfl,h1,h2⟩:=Zpx hd;simp only [U5,Rp] at h1 h2;obtain ⟨rfl,rfl,_⟩:=h1;obtain ⟨rfl,rfl,_⟩:=h2;refine (Tryz.strings_HasPrefix a0 a1 w).mono ?_;rintro e w' ⟨rfl,rfl⟩;exact ⟨[_],rfl,Zm6,Below.refl _ _⟩
theorem ZjE (c:UInt8):∀l:List UInt8,Lib.indexByte l c<=l.length
 | []=>by simp [Lib.indexByte]
 | b::l=>by
  have h:=ZjE c l;unfold Lib.indexByte
  split
  ·simp;omega
  ·split
   ·simp;omega
   ·simp;omega
theorem XG (a0:ByteArray) (a1:Int) (r:Int) (hM:Yw a0 a1=some r):Ctr Tryz.prog 347 [.one (.str a0),.one (.int .u8 a1)] true [.one (.int .i64 r)]:=by
 obtain rfl:=ZtT hM;refine ⟨by kernel_rfl,fun w vs FA _ hd=> ?_⟩;obtain ⟨v,u,F1,F2,rfl,rfl,h1,h2⟩:=Zpx hd;simp only [U5,Rp] at h1 h2;obtain ⟨rfl,rfl,hf⟩:=h1;obtain ⟨rfl,rfl,_⟩:=h2;refine (Tryz.strings_IndexByte a0 a1 w).mono ?_;rintro e w' ⟨rfl,rfl⟩;have k1:=ZjE a1.toNat.toUInt8 a0.data.toList;have k2:=Lib.indexByte_ge a0.data.toList a1.toNat.toUInt8;have k3:a0.data.toList.length=a0.size:=by rw [Array.length_toList];rfl
 unfold Fit at hf;exact ⟨[_],rfl,ZoK ((Kj _).2 ⟨by omega,by omega⟩),Below.refl _ _⟩
theorem World.ZeV (w:World) (o:Obj):(w.alloc o).heap[w.heap.size]? =some o:=by
 show (w.heap.push o)[w.heap.size]? =some o;simp
theorem ZnZ {l:List UInt8} {s:ByteArray}:(⟨l.toArray⟩:ByteArray)=s↔l=s.toList:=by
 rw [ByteArray.toList_eq];constructor
 ·rintro rfl;simp
 ·intro h;apply ByteArray.ext;simp [h]
theorem Zji (sep:ByteArray):∀(k:Nat) (s:ByteArray) (x:ByteArray),x∈Lib.splitB sep 0 k s->x.size<=s.size
 | 0,s,x,h=>by simp [Lib.splitB] at h;simp [h]
 | k+1,s,x,h=>by
  unfold Lib.splitB at h
  split at h
  ·simp at h;simp [h]
  ·rcases List.mem_cons.1 h with rfl| h
   ·rw [ByteArray.size_extract];omega
   ·have:=Zji sep k _ x h;rw [ByteArray.size_extract] at this;omega
theorem Zjs {N:Nat->Prop} {w:World}:∀{ss:List ByteArray},(∀s∈ss,Fit s)->OwE N w (ss.map sC) (ss.map Value.string) []
 | [],_=>by simp [OwE]
 | s::ss,h=>by
  simp only [List.map_cons,sC,OwE,OwL,Ow];exact ⟨[_],_,[],[],rfl,rfl,⟨_,[],[],[],rfl,rfl,⟨rfl,rfl,h s (by simp)⟩,rfl,rfl⟩,Zjs fun y hy=>h y (by simp [hy])⟩
theorem XF (a0 a1:ByteArray) (r:List ByteArray) (hM:Qc a0 a1=some r):Ctr Tryz.prog 257 [.one (.str a0),.one (.str a1)] true [.one (.sl (r.map sC))]:=by
 unfold Qc at hM
 split at hM
 ·rename_i hs;have er:=ZtT hM;refine ⟨by kernel_rfl,fun w vs FA ⟨G,hG⟩ hd=> ?_⟩;obtain ⟨v,u,F1,F2,rfl,rfl,h1,h2⟩:=Zpx hd;simp only [U5,Rp] at h1 h2;obtain ⟨rfl,rfl,_⟩:=h1;obtain ⟨rfl,rfl,_⟩:=h2;obtain ⟨v,hv,_,m,rfl⟩:=hG.2.2 (0,isI) (by simp [Zpn]);refine (Tryz.strings_Split a0 a1 m w hs.1 hv hs.2).mono ?_;rw [er];rintro e w' ⟨rfl,rfl⟩;have hl:r.length=Lib.countB a0 a1+1:=by rw [<-er];exact Lib.splitB_all a1 hs.2 0 _ a0 rfl
  have hc:=Lib.countB_le a1 hs.2 _ a0 (ZtY _);rw [<-hl];refine ⟨[_],rfl, ?_,(Below.refl _ _).alloc (ZtY _) _⟩;have hz:∀s∈r,Fit s:=fun s h=>by
   rw [<-er] at h;have:=Zji a1 _ _ s h;unfold Fit;omega
  simp only [Zan,if_true,ZaY,ZkF,Ow];refine ⟨[w.heap.size],⟨_,[],[w.heap.size],[],rfl,rfl,⟨some ⟨w.heap.size,0,none⟩,r.length,by simp,by omega,.inr ⟨w.heap.size,9,(r.map Value.string).toArray,[],1,rfl,ZtY _,World.ZeV _ _,by simp,by simp,by simp [sC],by simp,rfl, ?_⟩⟩,rfl,rfl⟩,by simp⟩;have:=Zjs (N:=fun b=>w.heap.size<=b) (w:=w.alloc (.cells (r.map Value.string).toArray 9)) hz
  simpa [List.take_of_length_le] using this
 ·cases hM
theorem Zj2 {w:World} {G:Nat->Prop} (h:Glb w G) (g:Nat) (hg:(g,isF)∈Zpn):∃ev,w.cell? ⟨g,0,none⟩=some ev/\(ev= .nilIface\/∃te pe,ev= .iface te pe):=by
 obtain ⟨v,h1,_,h2⟩:=h.2.2 _ hg;exact ⟨v,h1,.inr h2⟩
theorem ZfB {l:List UInt8} {n:Int} (h:Lib.atoiAll l= .ok n): -9223372036854775808<=n/\n<=9223372036854775807:=by
 unfold Lib.atoiAll at h
 split at h
 ·cases h
 ·dsimp only at h
  split at h
  ·cases h
  ·cases h
  ·rename_i u _
   split at h
   ·cases h
   ·split at h
    ·cases h
    ·injection h with h
     subst h
     split<;>omega
set_option maxRecDepth 100000 in
set_option maxHeartbeats 4000000 in
theorem Zik (w:World) (s:ByteArray) (lo hi:Int) (hs:s.size<=281474976710656) {G:Nat->Prop} (hG:Glb w G):
  Calls Tryz.prog 308 #[.string s,.int .i64 lo,.int .i64 hi] w fun e w'=>e= .returned (.tuple #[.int .i64 (XC s lo hi).1,.bool (XC s lo hi).2])/\Below w.heap.size w w':=by
 obtain ⟨ev1,v1,v2⟩:=Zj2 hG 3 (by simp [Zpn]);obtain ⟨ev2,u1,u2⟩:=Zj2 hG 4 (by simp [Zpn]);cases ha:Lib.atoiAll s.data.toList with
 | «syntax» =>
  go_enter Tryz.func308,Tryz.ntmps308
  go_wp2_with fail
  go_at_call 355
  refine (Tryz.strconv_Atoi_syntax s hs ha ev1 w v1 v2).mono ?_;rintro e w1 ⟨N,rfl,_,_,hb⟩
  go_wp2_with fail
  all_goals go_ret2
  all_goals exact ⟨by simp [XC,ha],hb⟩
 | range=>
  go_enter Tryz.func308,Tryz.ntmps308
  go_wp2_with fail
  go_at_call 355
  refine (Tryz.strconv_Atoi_range s hs ha ev2 w u1 u2).mono ?_;rintro e w1 ⟨N,rfl,_,_,hb⟩
  go_wp2_with fail
  all_goals go_ret2
  all_goals exact ⟨by simp [XC,ha],hb⟩
 | ok n=>
  have hn:=ZfB ha
  go_enter Tryz.func308,Tryz.ntmps308
  go_wp2_with fail
  go_at_call 355
  refine (Tryz.strconv_Atoi_ok s (by omega) n ha w).mono ?_;rintro e w1 ⟨rfl,hw⟩;have hb:Below w.heap.size w w1:=by
   rcases hw with rfl| ⟨t,rfl⟩
   ·exact Below.refl _ _
   ·exact Lib.bytesWorld_below _ _ _
  have hG1:Glb w1 G:=hG.keep hb.size fun b hb2=>hb.block b (hG.1 b hb2);clear hw
  by_cases h1:n<lo
  ·have hp:XC s lo hi=(0,false):=by simp only [XC,ha];rw [if_neg (by omega)]
   go_wp2_with fail
   all_goals (try (exfalso;simp only [Bool.not_eq_false',decide_eq_true_eq,decide_eq_false_iff_not] at *;omega))
   all_goals go_ret2
   all_goals exact ⟨by rw [hp];rfl,hb⟩
  by_cases h2:hi<n
  ·have hp:XC s lo hi=(0,false):=by simp only [XC,ha];rw [if_neg (by omega)]
   go_wp2_with fail
   all_goals (try (exfalso;simp only [Bool.not_eq_false',decide_eq_true_eq,decide_eq_false_iff_not] at *;omega))
   all_goals go_ret2
   all_goals exact ⟨by rw [hp];rfl,hb⟩
  go_wp2_with fail
  go_at_call 356
  refine (Tryz.strconv_Itoa n hn.1 hn.2 w1 (Zpl hG1)).mono ?_;rintro e w2 ⟨rfl,k,os,rfl⟩;have hb2:Below w.heap.size w (Sort.grow (w1.drewN k) os):=hb.trans (ZiV.mono hb.size)
  by_cases h3:Lib.itoa n=s.toList
  ·have hp:XC s lo hi=(n,true):=by simp only [XC,ha];rw [if_pos ⟨by omega,by omega,ZnZ.2 h3⟩]
   go_wp2_with fail
   all_goals (try (exfalso;simp_all;done))
   all_goals go_ret2
   all_goals exact ⟨by rw [hp];rfl,hb2⟩
  ·have hp:XC s lo hi=(0,false):=by simp only [XC,ha];rw [if_neg (fun h=>h3 (ZnZ.1 h.2.2))]
   go_wp2_with fail
   all_goals (try (exfalso;simp_all;done))
   all_goals go_ret2
   all_goals exact ⟨by rw [hp];rfl,hb2⟩
theorem Zew (a0:ByteArray) (a1 a2:Int) (r:Int×Bool) (hM:Zap a0 a1 a2=some r):Ctr Tryz.prog 308 [.one (.str a0),.one (.int .i64 a1),.one (.int .i64 a2)] true [.one (.int .i64 r.1),.one (.bool r.2)]:=by
 unfold Zap at hM
 split at hM
 ·rename_i hs;obtain rfl:=ZtT hM;refine ⟨by kernel_rfl,fun w vs FA ⟨G,hG⟩ hd=> ?_⟩;simp only [Yn,U5,Rp] at hd;obtain ⟨_,_,F1,_,rfl,rfl,⟨rfl,rfl,_⟩,_,_,F2,_,rfl,rfl,⟨rfl,rfl,_⟩,_,_,F3,_,rfl,rfl,⟨rfl,rfl,_⟩,rfl,rfl⟩:=hd;refine (Zik w a0 a1 a2 hs hG).mono ?_;rintro e w' ⟨rfl,hb⟩;refine ⟨[_,_],rfl,Zg4 ?_,hb⟩;unfold XC
  split
  ·rename_i n ha
   split
   ·exact (Kj _).2 (ZfB ha)
   ·show IntKind.i64.wrap 0=0;decide
  ·show IntKind.i64.wrap 0=0;decide
 ·cases hM
instance:HC 308 (Ty @Zew):=⟨Zew⟩
instance:HC 348 (Ty @XH):=⟨XH⟩
instance:HC 347 (Ty @XG):=⟨XG⟩
instance:HC 257 (Ty @XF):=⟨XF⟩
def J4 (a0:Zk) (a1:Int):Option Int:=
 if (decide ((IntKind.i64.wrap (a1-(a0.name.size:Int)))<0)) then
  some (-1)
 else
  if (decide ((IntKind.i64.wrap ((IntKind.i64.wrap (a1-(a0.name.size:Int)))-(a0.code.size:Int)))<0)) then
   some (-1)
  else
   some (IntKind.i64.wrap ((IntKind.i64.wrap (a1-(a0.name.size:Int)))-(a0.code.size:Int)))
def Xx (a0:List Zk):Nat->Int->Int->Option (Int ⊕ Int)
 | 0,_,_=>none
 | n_+1,x2,x3=>
  if (decide (x3<(a0.length:Int))) then
   (at? a0 x3).bind fun x4=>
   (J4 x4 x2).bind fun x5=>
   if (decide (x5<0)) then
    some (.inr (-1))
   else
    Xx a0 n_ x5 (IntKind.i64.wrap (x3+1))
  else
   some (.inl x2)
def KS (k:Nat) (a0:List Zk) (a1:Int):Option Int:=
 if (decide ((IntKind.i64.wrap (a1-(a0.length:Int)))<0)) then
  some (-1)
 else
  (Xx a0 k (IntKind.i64.wrap (a1-(a0.length:Int))) 0:Option (Int ⊕ Int)).bind fun
   | .inl x1=>(
    some x1)
   | .inr z6=>(
    some z6)
def VU (k:Nat) (a0:Ze) (a1:Int):Option Int:=
 (KS k a0.cells a1).bind fun x1=>
 if (decide (x1<0)) then
  some (-1)
 else
  some x1
def J3 (a0:Zk):Option Zk:=
 some a0
def Xw (a0:List Zk):Nat->(List Zk)->Int->Option (List Zk)
 | 0,_,_=>none
 | n_+1,x3,x4=>
  if (decide (x4<(a0.length:Int))) then
   (at? a0 x4).bind fun x5=>
   (J3 x5).bind fun x6=>
   (at? x3 x4).bind fun x7=>
   Xw a0 n_ (x3.set x4.toNat x6) (IntKind.i64.wrap (x4+1))
  else
   some x3
def KR (k:Nat) (a0:List Zk):Option (List Zk):=
 (mk? 64 (a0.length:Int)).bind fun x1=>
 (Xw a0 k (List.replicate x1 (Zk.mk 0 0 0 (⟨#[]⟩:ByteArray) (⟨#[]⟩:ByteArray) 0)) 0).bind fun x2=>
 some x2
def Xv (k:Nat) (a0:Ze):Option Ze:=
 (KR k a0.cells).bind fun x1=>
 some (Ze.mk x1)
def X5 (a0:List Int) (a1:List Int):Nat->Int->Option (Unit ⊕ Bool)
 | 0,_=>none
 | n_+1,x1=>
  if (decide (x1<(a0.length:Int))) then
   (at? a0 x1).bind fun x2=>
   (at? a1 x1).bind fun x3=>
   if (!decide (x2=x3)) then
    some (.inr false)
   else
    X5 a0 a1 n_ (IntKind.i64.wrap (x1+1))
  else
   some (.inl ())
def J5 (k:Nat) (a0:List Int) (a1:List Int):Option Bool:=
 if (!decide ((a0.length:Int)=(a1.length:Int))) then
  some false
 else
  (X5 a0 a1 k 0:Option (Unit ⊕ Bool)).bind fun
   | .inl _=>(
    some true)
   | .inr z4=>(
    some z4)
def J6 (a0:Zk) (a1:Zk):Option Bool:=
 if (!decide (a0.id=a1.id)) then
  some false
 else
  if (!decide (a0.version=a1.version)) then
   some false
  else
   if (!decide (a0.kind=a1.kind)) then
    some false
   else
    if (!decide (a0.name=a1.name)) then
     some false
    else
     if (!decide (a0.code=a1.code)) then
      some false
     else
      if (!decide (a0.n=a1.n)) then
       some false
      else
       some true
def Xy (a0:List Zk) (a1:List Zk):Nat->Int->Option (Unit ⊕ Bool)
 | 0,_=>none
 | n_+1,x1=>
  if (decide (x1<(a0.length:Int))) then
   (at? a0 x1).bind fun x2=>
   (at? a1 x1).bind fun x3=>
   (J6 x2 x3).bind fun x4=>
   if (!x4) then
    some (.inr false)
   else
    Xy a0 a1 n_ (IntKind.i64.wrap (x1+1))
  else
   some (.inl ())
def KU (k:Nat) (a0:List Zk) (a1:List Zk):Option Bool:=
 if (!decide ((a0.length:Int)=(a1.length:Int))) then
  some false
 else
  (Xy a0 a1 k 0:Option (Unit ⊕ Bool)).bind fun
   | .inl _=>(
    some true)
   | .inr z5=>(
    some z5)
def VV (k:Nat) (a0:Ze) (a1:Ze):Option Bool:=
 (KU k a0.cells a1.cells).bind fun x1=>
 if (!x1) then
  some false
 else
  some true
def J2 (a0:List Int):Nat->(List Int)->Int->Option (List Int)
 | 0,_,_=>none
 | n_+1,x3,x4=>
  if (decide (x4<(a0.length:Int))) then
   (at? a0 x4).bind fun x5=>
   (at? x3 x4).bind fun x6=>
   J2 a0 n_ (x3.set x4.toNat x5) (IntKind.i64.wrap (x4+1))
  else
   some x3
def Zi4 (k:Nat) (a0:List Int):Option (List Int):=
 (mk? 8 (a0.length:Int)).bind fun x1=>
 (J2 a0 k (List.replicate x1 0) 0).bind fun x2=>
 some x2
def Zk.bk (x:Zk):Nat:=x.name.size+(x.code.size+(0))
theorem Zk.QP (x:Zk):x.bk=x.name.size+(x.code.size+(0)):=rfl
theorem ZgM (x:Zk) (hf:ZkX x.c):∀left:Int,0<=left->left<=1048576->J4 x left=some (szR (x.bk) left):=by
 have hf':=hf;rw [Zk.ZdX] at hf';simp only [ZkX] at hf';obtain ⟨f0,f1,f2,f3,f4,f5,_⟩:=hf';intro left l0 l1;rw [Zk.QP];unfold J4;rcases Zn0 (b:=x.name.size) l0 l1 (ZmJ f3) with ⟨z0,e0,g0,q0,p0,r0⟩| ⟨g0,q0⟩
 rotate_left
 ·rw [if_pos g0];exact Zh3 (by omega)
 rw [e0,if_neg g0];rcases Zn0 (b:=x.code.size) p0 r0 (ZmJ f4) with ⟨z1,e1,g1,q1,p1,r1⟩| ⟨g1,q1⟩
 rotate_left
 ·rw [if_pos g1];exact Zh3 (by omega)
 rw [e1,if_neg g1];exact Zlf p1 (by omega)
theorem ZgL (x:Zk) (hb:x.bk<=1048576):J3 x=some x:=by
 unfold J3
 all_goals (first | rfl| (cases x;rfl))
theorem ZgO (x:Zk) (hb:x.bk<=1073741824):J6 x x=some true:=by
 unfold J6;simp []
theorem ZfG (xs:List Zk) (hf:DOk (.sl (xs.map Zk.c))):Ev fun k=>∀left:Int,0<=left->left<=1048576->KS k xs left=some (szR (bkS Zk.bk xs) left):=by
 have hx:∀x∈xs,∀left:Int,0<=left->left<=1048576->J4 x left=some (szR (Zk.bk x) left):=fun x hm=>ZgM x ((Zov hf).2 x hm);refine (Ev.ge (xs.length+1)).mono fun k hk=> ?_;intro left l0 l1;unfold KS;refine ZmX Zk.bk xs (J4) (Xx xs) k (fun x hm l p q=> ?_) (fun n l i=>by rw [Xx]) (by omega) (Zov hf).1 left l0 l1;rw [hx x hm l p q,ZtS];have:=Zle (b:=Zk.bk x) (b2:=0) (F:=fun z=>some z) p fun z pz _=>ZoE pz;exact this
theorem ZfF (xs:List Zk) (hb:bkS Zk.bk xs<=1048576):Ev fun k=>KR k xs=some xs:=by
 have hx:∀x∈xs,J3 x=some x:=fun x hm=>ZgL x (by have:=Uh (f:=Zk.bk) hm;omega);refine (Ev.ge (xs.length+1)).mono fun k hk=> ?_;unfold KR;exact Zja _ (by omega) _ xs (J3) (Xw xs) k (fun x hm=>hx x hm) (fun n out i=>by rw [Xw]) (by omega) (by have:=Wy (f:=Zk.bk) (xs:=xs);omega)
theorem ZfH (xs:List Zk) (hb:bkS Zk.bk xs<=1073741824):Ev fun k=>KU k xs xs=some true:=by
 have hx:∀x∈xs,J6 x x=some true:=fun x hm=>ZgO x (by have:=Uh (f:=Zk.bk) hm;omega);refine (Ev.ge (xs.length+1)).mono fun k hk=> ?_;unfold KU;exact ZjL xs (J6) (Xy xs xs) k (fun x hm=>hx x hm) (fun n i=>by rw [Xy]) (by omega) (by have:=Wy (f:=Zk.bk) (xs:=xs);omega)
def Ze.bk (x:Ze):Nat:=bkS Zk.bk x.cells+(0)
theorem Ze.QP (x:Ze):x.bk=bkS Zk.bk x.cells+(0):=rfl
theorem KB (x:Ze) (hf:ZkX x.c):Ev fun k=>∀left:Int,0<=left->left<=1048576->VU k x left=some (szR (x.bk) left):=by
 have hf':=hf;rw [Ze.ZdX] at hf';simp only [ZkX] at hf';obtain ⟨f0,_⟩:=hf';refine (ZfG x.cells f0).mono ?_;rintro k h0;intro left l0 l1;rw [Ze.QP];unfold VU;rw [h0 left l0 l1,ZtS];rcases Zh4 (b:=bkS Zk.bk x.cells) l1 with ⟨z0,e0,g0,q0,p0,r0⟩| ⟨e0,q0⟩
 rotate_left
 ·rw [e0,if_pos (by decide)];exact Zh3 (by omega)
 rw [e0,if_neg g0];exact Zlf p0 (by omega)
theorem Zdz (x:Ze) (hb:x.bk<=1048576):Ev fun k=>Xv k x=some x:=by
 refine (ZfF x.cells (by have:=Ze.QP x;omega)).mono ?_;rintro k h0;unfold Xv;rw [h0,ZtS]
 all_goals (first | rfl| (cases x;rfl))
theorem ZdA (x:Ze) (hb:x.bk<=1073741824):Ev fun k=>VV k x x=some true:=by
 refine (ZfH x.cells (by have:=Ze.QP x;omega)).mono ?_;rintro k h0;unfold VV;simp [h0]
theorem ZnV (xs:List Int) (hb:bkS (fun _=>0) xs<=1048576):Ev fun k=>Zi4 k xs=some xs:=by
 refine (Ev.ge (xs.length+1)).mono fun k hk=> ?_;unfold Zi4;exact Zja _ (by omega) _ xs (fun x=>some x) (J2 xs) k (fun x hm=>rfl) (fun n out i=>by rw [J2];rfl) (by omega) (by have:=Wy (f:=(fun _=>0)) (xs:=xs);omega)
theorem ZgN (xs:List Int) (hb:bkS (fun _=>0) xs<=1073741824):Ev fun k=>J5 k xs xs=some true:=by
 refine (Ev.ge (xs.length+1)).mono fun k hk=> ?_;unfold J5;exact ZjL xs (fun x y=>some (decide (x=y))) (X5 xs xs) k (fun x hm=>by simp) (fun n i=>by rw [X5];rfl) (by omega) (by have:=Wy (f:=(fun _=>0)) (xs:=xs);omega)
def YT.bk (x:YT):Nat:=bkS (fun _=>0) x.cells+(bkS (fun _=>0) x.from_+(0))
theorem YT.QP (x:YT):x.bk=bkS (fun _=>0) x.cells+(bkS (fun _=>0) x.from_+(0)):=rfl
mutual
def Zb.bk:Zb->Nat
 | ⟨kind,n,step,text,list,columns,rows⟩=>text.size+((list.length+Zb.bks list)+(bkS ByteArray.size columns+(bkS YT.bk rows+(0))))
def Zb.bks:List Zb->Nat
 | []=>0
 | x::xs=>Zb.bk x+Zb.bks xs
end
theorem Zb.ZhC:∀xs:List Zb,Zb.bks xs=QL Zb.bk xs
 | []=>rfl
 | x::xs=>by rw [Zb.bks,Zb.ZhC xs];rfl
theorem Zb.QP (x:Zb):x.bk=x.text.size+(bkS Zb.bk x.list+(bkS ByteArray.size x.columns+(bkS YT.bk x.rows+(0)))):=by
 cases x;simp only [Zb.bk,Zb.ZhC,bkS]
theorem Zb.ind {p:Zb->Prop} (h:∀x,(∀y∈x.list,p y)->p x):∀x,p x
 | ⟨kind,n,step,text,list,columns,rows⟩=>h _ fun y hy=>Zb.ind h y
termination_by x=>SizeOf.sizeOf x
decreasing_by
 have:=List.sizeOf_lt_of_mem hy;simp at this ⊢;omega
mutual
def Za.bk:Za->Nat
 | ⟨kind,n,text,args⟩=>text.size+((args.length+Za.bks args)+(0))
def Za.bks:List Za->Nat
 | []=>0
 | x::xs=>Za.bk x+Za.bks xs
end
theorem Za.ZhC:∀xs:List Za,Za.bks xs=QL Za.bk xs
 | []=>rfl
 | x::xs=>by rw [Za.bks,Za.ZhC xs];rfl
theorem Za.QP (x:Za):x.bk=x.text.size+(bkS Za.bk x.args+(0)):=by
 cases x;simp only [Za.bk,Za.ZhC,bkS]
theorem Za.ind {p:Za->Prop} (h:∀x,(∀y∈x.args,p y)->p x):∀x,p x
 | ⟨kind,n,text,args⟩=>h _ fun y hy=>Za.ind h y
termination_by x=>SizeOf.sizeOf x
decreasing_by
 have:=List.sizeOf_lt_of_mem hy;simp at this ⊢;omega
def Zl.bk (x:Zl):Nat:=x.name.size+(Za.bk x.expr+(Zb.bk x.value+(0)))
theorem Zl.QP (x:Zl):x.bk=x.name.size+(Za.bk x.expr+(Zb.bk x.value+(0))):=rfl
theorem ZaW: @YX= @Yb:=by
 funext b0 n
 induction n with
 | zero=>funext y0;rfl
 | succ n ih=>
  funext y0
  simp only [YX,Yb,ih]
  try rfl
theorem Zc0: @WI= @XM:=by
 funext b0 b1
 simp only [WI,XM,ZaW]
 try rfl
theorem Zcv: @QJ= @Yc:=by
 funext b0 b1 n
 induction n with
 | zero=>funext y0;rfl
 | succ n ih=>
  funext y0
  simp only [QJ,Yc,ih]
  try rfl
theorem ZeB: @WX= @Wl:=by
 funext b0 b1 b2
 simp only [WX,Wl,Zcv]
 try rfl
theorem Zk.Zsr (x:Zk):x.cn<=6*(1+Zk.bk x):=by
 rw [Zk.Zri,Zk.QP];omega
theorem Zk.Zrk (xs:List Zk):Zk.cnL xs<=6*bkS Zk.bk xs:=by rw [Zk.ZeM];exact ZiP xs fun x _=>x.Zsr
theorem Ze.Zrj (x:Ze):x.cnV<=6*x.bk:=by
 unfold Ze.cnV;rw [Ze.QP];have h0:=Zk.Zrk x.cells;omega
theorem Zl2 (xs:List Int):QR xs<=1*bkS (fun _=>0) xs:=ZiP xs fun x _=>by simp only [Zgd];omega
end Go.Proofs.YtlbjjjhamfbhaaaGreatDoor
