import Derived.Test.YtbkllghhcphkaaaGreatDoorJ6
set_option linter.unusedSimpArgs false
set_option linter.unusedVariables false
namespace Go.Proofs.YtbkllghhcphkaaaGreatDoor
open Go.RowKit Am
theorem Znt {N:Nat->Prop} {w:World} {FA:List Nat} {b:Bool}:Zan true N w FA [.one (.bool b)] [.bool b]:=by
 simp only [Zan,if_true,ZaY,ZkN,Ow];exact ⟨[],⟨_,[],[],[],rfl,rfl,⟨rfl,rfl⟩,rfl,rfl⟩,List.nodup_nil⟩
theorem Zpn {N:Nat->Prop} {w:World} {FA:List Nat} {n:Int} (h:InK .i64 n):Zan true N w FA [.one (.int .i64 n)] [.int .i64 n]:=by
 simp only [Zan,if_true,ZaY,ZkN,Ow];exact ⟨[],⟨_,[],[],[],rfl,rfl,⟨rfl,rfl,h⟩,rfl,rfl⟩,List.nodup_nil⟩
theorem Zha {N:Nat->Prop} {w:World} {FA:List Nat} {n:Int} {b:Bool} (h:InK .i64 n):Zan true N w FA [.one (.int .i64 n),.one (.bool b)] [.int .i64 n,.bool b]:=by
 simp only [Zan,if_true,ZaY,ZkN,Ow];exact ⟨[],⟨_,_,[],[],rfl,rfl,⟨rfl,rfl,h⟩,_,_,[],[],rfl,rfl,⟨rfl,rfl⟩,rfl,rfl⟩,List.nodup_nil⟩
theorem XH (a0 a1:ByteArray) (r:Bool) (hM:Yx a0 a1=some r):Ctr Tryz.prog 264 [.one (.str a0),.one (.str a1)] true [.one (.bool r)]:=by
 obtain rfl:=Zwf hM;refine ⟨by kernel_rfl,fun w vs FA _ hd=> ?_⟩;obtain ⟨v,u,F1,F2,rfl,rfl,h1,h2⟩:=Zql hd;simp only [U5,Rp] at h1 h2;obtain ⟨rfl,rfl,_⟩:=h1;obtain ⟨rfl,rfl,_⟩:=h2;refine (Tryz.strings_HasPrefix a0 a1 w).mono ?_;rintro e w' ⟨rfl,rfl⟩;exact ⟨[_],rfl,Znt,Below.refl _ _⟩
theorem ZjM (c:UInt8):∀l:List UInt8,Lib.indexByte l c<=l.length
 | []=>by simp [Lib.indexByte]
 | b::l=>by
  have h:=ZjM c l;unfold Lib.indexByte
  split
  ·simp;omega
  ·split
   ·simp;omega
   ·simp;omega
theorem XG (a0:ByteArray) (a1:Int) (r:Int) (hM:Yw a0 a1=some r):Ctr Tryz.prog 263 [.one (.str a0),.one (.int .u8 a1)] true [.one (.int .i64 r)]:=by
 obtain rfl:=Zwf hM;refine ⟨by kernel_rfl,fun w vs FA _ hd=> ?_⟩;obtain ⟨v,u,F1,F2,rfl,rfl,h1,h2⟩:=Zql hd;simp only [U5,Rp] at h1 h2;obtain ⟨rfl,rfl,hf⟩:=h1;obtain ⟨rfl,rfl,_⟩:=h2;refine (Tryz.strings_IndexByte a0 a1 w).mono ?_;rintro e w' ⟨rfl,rfl⟩;have k1:=ZjM a1.toNat.toUInt8 a0.data.toList;have k2:=Lib.indexByte_ge a0.data.toList a1.toNat.toUInt8;have k3:a0.data.toList.length=a0.size:=by rw [Array.length_toList];rfl
 unfold Fit at hf;exact ⟨[_],rfl,Zpn ((Kk _).2 ⟨by omega,by omega⟩),Below.refl _ _⟩
theorem World.Ze0 (w:World) (o:Obj):(w.alloc o).heap[w.heap.size]? =some o:=by
 show (w.heap.push o)[w.heap.size]? =some o;simp
theorem Zor {l:List UInt8} {s:ByteArray}:(⟨l.toArray⟩:ByteArray)=s↔l=s.toList:=by
 rw [ByteArray.toList_eq];constructor
 ·rintro rfl;simp
 ·intro h;apply ByteArray.ext;simp [h]
theorem Zjq (sep:ByteArray):∀(k:Nat) (s:ByteArray) (x:ByteArray),x∈Lib.splitB sep 0 k s->x.size<=s.size
 | 0,s,x,h=>by simp [Lib.splitB] at h;simp [h]
 | k+1,s,x,h=>by
  unfold Lib.splitB at h
  split at h
  ·simp at h;simp [h]
  ·rcases List.mem_cons.1 h with rfl| h
   ·rw [ByteArray.size_extract];omega
   ·have:=Zjq sep k _ x h;rw [ByteArray.size_extract] at this;omega
theorem ZjA {N:Nat->Prop} {w:World}:∀{ss:List ByteArray},(∀s∈ss,Fit s)->OwE N w (ss.map sC) (ss.map Value.string) []
 | [],_=>by simp [OwE]
 | s::ss,h=>by
  simp only [List.map_cons,sC,OwE,OwL,Ow];exact ⟨[_],_,[],[],rfl,rfl,⟨_,[],[],[],rfl,rfl,⟨rfl,rfl,h s (by simp)⟩,rfl,rfl⟩,ZjA fun y hy=>h y (by simp [hy])⟩
theorem XF (a0 a1:ByteArray) (r:List ByteArray) (hM:Qc a0 a1=some r):Ctr Tryz.prog 180 [.one (.str a0),.one (.str a1)] true [.one (.sl (r.map sC))]:=by
 unfold Qc at hM
 split at hM
 ·rename_i hs;have er:=Zwf hM;refine ⟨by kernel_rfl,fun w vs FA ⟨G,hG⟩ hd=> ?_⟩;obtain ⟨v,u,F1,F2,rfl,rfl,h1,h2⟩:=Zql hd;simp only [U5,Rp] at h1 h2;obtain ⟨rfl,rfl,_⟩:=h1;obtain ⟨rfl,rfl,_⟩:=h2;obtain ⟨v,hv,_,m,rfl⟩:=hG.2.2 (0,isI) (by simp [Zqb]);refine (Tryz.strings_Split a0 a1 m w hs.1 hv hs.2).mono ?_;rw [er];rintro e w' ⟨rfl,rfl⟩;have hl:r.length=Lib.countB a0 a1+1:=by rw [<-er];exact Lib.splitB_all a1 hs.2 0 _ a0 rfl
  have hc:=Lib.countB_le a1 hs.2 _ a0 (Zwk _);rw [<-hl];refine ⟨[_],rfl, ?_,(Below.refl _ _).alloc (Zwk _) _⟩
  have hz:∀s∈r,Fit s:=fun s h=>by
   rw [<-er] at h;have:=Zjq a1 _ _ s h;unfold Fit;omega
  simp only [Zan,if_true,ZaY,ZkN,Ow];refine ⟨[w.heap.size],⟨_,[],[w.heap.size],[],rfl,rfl,⟨some ⟨w.heap.size,0,none⟩,r.length,by simp,by omega,.inr ⟨w.heap.size,9,(r.map Value.string).toArray,[],1,rfl,Zwk _,World.Ze0 _ _,by simp,by simp,by simp [sC],by simp,rfl, ?_⟩⟩,rfl,rfl⟩,by simp⟩;have:=ZjA (N:=fun b=>w.heap.size<=b) (w:=w.alloc (.cells (r.map Value.string).toArray 9)) hz
  simpa [List.take_of_length_le] using this
 ·cases hM
theorem Zj9 {w:World} {G:Nat->Prop} (h:Glb w G) (g:Nat) (hg:(g,isF)∈Zqb):∃ev,w.cell? ⟨g,0,none⟩=some ev/\(ev= .nilIface\/∃te pe,ev= .iface te pe):=by
 obtain ⟨v,h1,_,h2⟩:=h.2.2 _ hg;exact ⟨v,h1,.inr h2⟩
theorem ZfE {l:List UInt8} {n:Int} (h:Lib.atoiAll l= .ok n): -9223372036854775808<=n/\n<=9223372036854775807:=by
 unfold Lib.atoiAll at h
 split at h
 ·cases h
 ·dsimp only at h
  split at h
  ·cases h
  ·cases h
  ·rename_i u _
   split at h
   ·cases h
   ·split at h
    ·cases h
    ·injection h with h
     subst h
     split<;>omega
set_option maxRecDepth 100000 in
set_option maxHeartbeats 4000000 in
theorem Zir (w:World) (s:ByteArray) (lo hi:Int) (hs:s.size<=281474976710656) {G:Nat->Prop} (hG:Glb w G):
  Calls Tryz.prog 228 #[.string s,.int .i64 lo,.int .i64 hi] w fun e w'=>e= .returned (.tuple #[.int .i64 (XD s lo hi).1,.bool (XD s lo hi).2])/\Below w.heap.size w w':=by
 obtain ⟨ev1,v1,v2⟩:=Zj9 hG 3 (by simp [Zqb]);obtain ⟨ev2,u1,u2⟩:=Zj9 hG 4 (by simp [Zqb]);cases ha:Lib.atoiAll s.data.toList with
 | «syntax» =>
  go_enter Tryz.func228,Tryz.ntmps228
  go_wp2_with fail
  go_at_call 271
  refine (Tryz.strconv_Atoi_syntax s hs ha ev1 w v1 v2).mono ?_;rintro e w1 ⟨N,rfl,_,_,hb⟩
  go_wp2_with fail
  all_goals go_ret2
  all_goals exact ⟨by simp [XD,ha],hb⟩
 | range=>
  go_enter Tryz.func228,Tryz.ntmps228
  go_wp2_with fail
  go_at_call 271
  refine (Tryz.strconv_Atoi_range s hs ha ev2 w u1 u2).mono ?_;rintro e w1 ⟨N,rfl,_,_,hb⟩
  go_wp2_with fail
  all_goals go_ret2
  all_goals exact ⟨by simp [XD,ha],hb⟩
 | ok n=>
  have hn:=ZfE ha
  go_enter Tryz.func228,Tryz.ntmps228
  go_wp2_with fail
  go_at_call 271
  refine (Tryz.strconv_Atoi_ok s (by omega) n ha w).mono ?_;rintro e w1 ⟨rfl,hw⟩
  have hb:Below w.heap.size w w1:=by
   rcases hw with rfl| ⟨t,rfl⟩
   ·exact Below.refl _ _
   ·exact Lib.bytesWorld_below _ _ _
  have hG1:Glb w1 G:=hG.keep hb.size fun b hb2=>hb.block b (hG.1 b hb2);clear hw
  by_cases h1:n<lo
  ·have hp:XD s lo hi=(0,false):=by simp only [XD,ha];rw [if_neg (by omega)]
   go_wp2_with fail
   all_goals (try (exfalso;simp only [Bool.not_eq_false',decide_eq_true_eq,decide_eq_false_iff_not] at *;omega))
   all_goals go_ret2
   all_goals exact ⟨by rw [hp];rfl,hb⟩
  by_cases h2:hi<n
  ·have hp:XD s lo hi=(0,false):=by simp only [XD,ha];rw [if_neg (by omega)]
   go_wp2_with fail
   all_goals (try (exfalso;simp only [Bool.not_eq_false',decide_eq_true_eq,decide_eq_false_iff_not] at *;omega))
   all_goals go_ret2
   all_goals exact ⟨by rw [hp];rfl,hb⟩
  go_wp2_with fail
  go_at_call 272
  refine (Tryz.strconv_Itoa n hn.1 hn.2 w1 (Zp9 hG1)).mono ?_;rintro e w2 ⟨rfl,k,os,rfl⟩;have hb2:Below w.heap.size w (Sort.grow (w1.drewN k) os):=hb.trans (Zi2.mono hb.size)
  by_cases h3:Lib.itoa n=s.toList
  ·have hp:XD s lo hi=(n,true):=by simp only [XD,ha];rw [if_pos ⟨by omega,by omega,Zor.2 h3⟩]
   go_wp2_with fail
   all_goals (try (exfalso;simp_all;done))
   all_goals go_ret2
   all_goals exact ⟨by rw [hp];rfl,hb2⟩
  ·have hp:XD s lo hi=(0,false):=by simp only [XD,ha];rw [if_neg (fun h=>h3 (Zor.1 h.2.2))]
   go_wp2_with fail
   all_goals (try (exfalso;simp_all;done))
   all_goals go_ret2
   all_goals exact ⟨by rw [hp];rfl,hb2⟩
theorem Zey (a0:ByteArray) (a1 a2:Int) (r:Int×Bool) (hM:Zap a0 a1 a2=some r):Ctr Tryz.prog 228 [.one (.str a0),.one (.int .i64 a1),.one (.int .i64 a2)] true [.one (.int .i64 r.1),.one (.bool r.2)]:=by
 unfold Zap at hM
 split at hM
 ·rename_i hs;obtain rfl:=Zwf hM;refine ⟨by kernel_rfl,fun w vs FA ⟨G,hG⟩ hd=> ?_⟩;simp only [Yo,U5,Rp] at hd;obtain ⟨_,_,F1,_,rfl,rfl,⟨rfl,rfl,_⟩,_,_,F2,_,rfl,rfl,⟨rfl,rfl,_⟩,_,_,F3,_,rfl,rfl,⟨rfl,rfl,_⟩,rfl,rfl⟩:=hd;refine (Zir w a0 a1 a2 hs hG).mono ?_;rintro e w' ⟨rfl,hb⟩;refine ⟨[_,_],rfl,Zha ?_,hb⟩;unfold XD
  split
  ·rename_i n ha
   split
   ·exact (Kk _).2 (ZfE ha)
   ·show IntKind.i64.wrap 0=0;decide
  ·show IntKind.i64.wrap 0=0;decide
 ·cases hM
instance:HC 228 (Ty @Zey):=⟨Zey⟩
instance:HC 264 (Ty @XH):=⟨XH⟩
instance:HC 263 (Ty @XG):=⟨XG⟩
instance:HC 180 (Ty @XF):=⟨XF⟩
def J5 (a0:Zk) (a1:Int):Option Int:= if (decide ((IntKind.i64.wrap (a1-(a0.name.size:Int)))<0)) then some (-1) else if (decide ((IntKind.i64.wrap ((IntKind.i64.wrap (a1-(a0.name.size:Int)))-(a0.code.size:Int)))<0)) then some (-1) else some (IntKind.i64.wrap ((IntKind.i64.wrap (a1-(a0.name.size:Int)))-(a0.code.size:Int)))
def Xy (a0:List Zk):Nat->Int->Int->Option (Int ⊕ Int) | 0,_,_=>none | n_+1,x2,x3=> if (decide (x3<(a0.length:Int))) then (at? a0 x3).bind fun x4=> (J5 x4 x2).bind fun x5=> if (decide (x5<0)) then some (.inr (-1)) else Xy a0 n_ x5 (IntKind.i64.wrap (x3+1)) else some (.inl x2)
def KS (k:Nat) (a0:List Zk) (a1:Int):Option Int:= if (decide ((IntKind.i64.wrap (a1-(a0.length:Int)))<0)) then some (-1) else (Xy a0 k (IntKind.i64.wrap (a1-(a0.length:Int))) 0:Option (Int ⊕ Int)).bind fun | .inl x1=>( some x1) | .inr z6=>( some z6)
def VW (k:Nat) (a0:Ze) (a1:Int):Option Int:= (KS k a0.cells a1).bind fun x1=> if (decide (x1<0)) then some (-1) else some x1
def J4 (a0:Zk):Option Zk:= some a0
def Xx (a0:List Zk):Nat->(List Zk)->Int->Option (List Zk) | 0,_,_=>none | n_+1,x3,x4=> if (decide (x4<(a0.length:Int))) then (at? a0 x4).bind fun x5=> (J4 x5).bind fun x6=> (at? x3 x4).bind fun x7=> Xx a0 n_ (x3.set x4.toNat x6) (IntKind.i64.wrap (x4+1)) else some x3
def KR (k:Nat) (a0:List Zk):Option (List Zk):= (mk? 64 (a0.length:Int)).bind fun x1=> (Xx a0 k (List.replicate x1 (Zk.mk 0 0 0 (⟨#[]⟩:ByteArray) (⟨#[]⟩:ByteArray) 0)) 0).bind fun x2=> some x2
def Xw (k:Nat) (a0:Ze):Option Ze:= (KR k a0.cells).bind fun x1=> some (Ze.mk x1)
def X5 (a0:List Int) (a1:List Int):Nat->Int->Option (Unit ⊕ Bool) | 0,_=>none | n_+1,x1=> if (decide (x1<(a0.length:Int))) then (at? a0 x1).bind fun x2=> (at? a1 x1).bind fun x3=> if (!decide (x2=x3)) then some (.inr false) else X5 a0 a1 n_ (IntKind.i64.wrap (x1+1)) else some (.inl ())
def J6 (k:Nat) (a0:List Int) (a1:List Int):Option Bool:= if (!decide ((a0.length:Int)=(a1.length:Int))) then some false else (X5 a0 a1 k 0:Option (Unit ⊕ Bool)).bind fun | .inl _=>( some true) | .inr z4=>( some z4)
def J7 (a0:Zk) (a1:Zk):Option Bool:= if (!decide (a0.id=a1.id)) then some false else if (!decide (a0.version=a1.version)) then some false else if (!decide (a0.kind=a1.kind)) then some false else if (!decide (a0.name=a1.name)) then some false else if (!decide (a0.code=a1.code)) then some false else if (!decide (a0.n=a1.n)) then some false else some true
def Xz (a0:List Zk) (a1:List Zk):Nat->Int->Option (Unit ⊕ Bool) | 0,_=>none | n_+1,x1=> if (decide (x1<(a0.length:Int))) then (at? a0 x1).bind fun x2=> (at? a1 x1).bind fun x3=> (J7 x2 x3).bind fun x4=> if (!x4) then some (.inr false) else Xz a0 a1 n_ (IntKind.i64.wrap (x1+1)) else some (.inl ())
def KU (k:Nat) (a0:List Zk) (a1:List Zk):Option Bool:= if (!decide ((a0.length:Int)=(a1.length:Int))) then some false else (Xz a0 a1 k 0:Option (Unit ⊕ Bool)).bind fun | .inl _=>( some true) | .inr z5=>( some z5)
def VX (k:Nat) (a0:Ze) (a1:Ze):Option Bool:= (KU k a0.cells a1.cells).bind fun x1=> if (!x1) then some false else some true
def Zd1 (a0:List Int):Nat->(List Int)->Int->Option (List Int) | 0,_,_=>none | n_+1,x3,x4=> if (decide (x4<(a0.length:Int))) then (at? a0 x4).bind fun x5=> (at? x3 x4).bind fun x6=> Zd1 a0 n_ (x3.set x4.toNat x5) (IntKind.i64.wrap (x4+1)) else some x3
def ZsM (k:Nat) (a0:List Int):Option (List Int):= (mk? 8 (a0.length:Int)).bind fun x1=> (Zd1 a0 k (List.replicate x1 0) 0).bind fun x2=> some x2
def Zk.bk (x:Zk):Nat:=x.name.size+(x.code.size+(0))
theorem Zk.QP (x:Zk):x.bk=x.name.size+(x.code.size+(0)):=rfl
theorem ZgS (x:Zk) (hf:Zlc x.c):∀left:Int,0<=left->left<=1048576->J5 x left=some (szR (x.bk) left):=by
 have hf':=hf;rw [Zk.ZeQ] at hf';simp only [Zlc] at hf';obtain ⟨f0,f1,f2,f3,f4,f5,_⟩:=hf';intro left l0 l1;rw [Zk.QP];unfold J5;rcases Zos (b:=x.name.size) l0 l1 (Zm0 f3) with ⟨z0,e0,g0,q0,p0,r0⟩| ⟨g0,q0⟩
 rotate_left
 ·rw [if_pos g0];exact Zh9 (by omega)
 rw [e0,if_neg g0];rcases Zos (b:=x.code.size) p0 r0 (Zm0 f4) with ⟨z1,e1,g1,q1,p1,r1⟩| ⟨g1,q1⟩
 rotate_left
 ·rw [if_pos g1];exact Zh9 (by omega)
 rw [e1,if_neg g1];exact Zlt p1 (by omega)
theorem ZgR (x:Zk) (hb:x.bk<=1048576):J4 x=some x:=by
 unfold J4
 all_goals (first | rfl| (cases x;rfl))
theorem ZgU (x:Zk) (hb:x.bk<=1073741824):J7 x x=some true:=by
 unfold J7;simp []
theorem ZfJ (xs:List Zk) (hf:DOk (.sl (xs.map Zk.c))):Ev fun k=>∀left:Int,0<=left->left<=1048576->KS k xs left=some (szR (bkS Zk.bk xs) left):=by
 have hx:∀x∈xs,∀left:Int,0<=left->left<=1048576->J5 x left=some (szR (Zk.bk x) left):=fun x hm=>ZgS x ((ZoY hf).2 x hm);refine (Ev.ge (xs.length+1)).mono fun k hk=> ?_;intro left l0 l1;unfold KS;refine Znk Zk.bk xs (J5) (Xy xs) k (fun x hm l p q=> ?_) (fun n l i=>by rw [Xy]) (by omega) (ZoY hf).1 left l0 l1;rw [hx x hm l p q,Zwe];have:=Zpf (b:=Zk.bk x) (b2:=0) (F:=fun z=>some z) p fun z pz _=>Zph pz;exact this
theorem ZfI (xs:List Zk) (hb:bkS Zk.bk xs<=1048576):Ev fun k=>KR k xs=some xs:=by
 have hx:∀x∈xs,J4 x=some x:=fun x hm=>ZgR x (by have:=Ui (f:=Zk.bk) hm;omega);refine (Ev.ge (xs.length+1)).mono fun k hk=> ?_;unfold KR;exact Zni _ (by omega) _ xs (J4) (Xx xs) k (fun x hm=>hx x hm) (fun n out i=>by rw [Xx]) (by omega) (by have:=WK (f:=Zk.bk) (xs:=xs);omega)
theorem ZfK (xs:List Zk) (hb:bkS Zk.bk xs<=1073741824):Ev fun k=>KU k xs xs=some true:=by
 have hx:∀x∈xs,J7 x x=some true:=fun x hm=>ZgU x (by have:=Ui (f:=Zk.bk) hm;omega);refine (Ev.ge (xs.length+1)).mono fun k hk=> ?_;unfold KU;exact ZjT xs (J7) (Xz xs xs) k (fun x hm=>hx x hm) (fun n i=>by rw [Xz]) (by omega) (by have:=WK (f:=Zk.bk) (xs:=xs);omega)
def Ze.bk (x:Ze):Nat:=bkS Zk.bk x.cells+(0)
theorem Ze.QP (x:Ze):x.bk=bkS Zk.bk x.cells+(0):=rfl
theorem KB (x:Ze) (hf:Zlc x.c):Ev fun k=>∀left:Int,0<=left->left<=1048576->VW k x left=some (szR (x.bk) left):=by
 have hf':=hf;rw [Ze.ZeQ] at hf';simp only [Zlc] at hf';obtain ⟨f0,_⟩:=hf';refine (ZfJ x.cells f0).mono ?_;rintro k h0;intro left l0 l1;rw [Ze.QP];unfold VW;rw [h0 left l0 l1,Zwe];rcases Zia (b:=bkS Zk.bk x.cells) l1 with ⟨z0,e0,g0,q0,p0,r0⟩| ⟨e0,q0⟩
 rotate_left
 ·rw [e0,if_pos (by decide)];exact Zh9 (by omega)
 rw [e0,if_neg g0];exact Zlt p0 (by omega)
theorem ZdA (x:Ze) (hb:x.bk<=1048576):Ev fun k=>Xw k x=some x:=by
 refine (ZfI x.cells (by have:=Ze.QP x;omega)).mono ?_;rintro k h0;unfold Xw;rw [h0,Zwe]
 all_goals (first | rfl| (cases x;rfl))
theorem ZdB (x:Ze) (hb:x.bk<=1073741824):Ev fun k=>VX k x x=some true:=by
 refine (ZfK x.cells (by have:=Ze.QP x;omega)).mono ?_;rintro k h0;unfold VX;simp [h0]
theorem ZgT (xs:List Int) (hb:bkS (fun _=>0) xs<=1073741824):Ev fun k=>J6 k xs xs=some true:=by
 refine (Ev.ge (xs.length+1)).mono fun k hk=> ?_;unfold J6;exact ZjT xs (fun x y=>some (decide (x=y))) (X5 xs xs) k (fun x hm=>by simp) (fun n i=>by rw [X5];rfl) (by omega) (by have:=WK (f:=(fun _=>0)) (xs:=xs);omega)
def YT.bk (x:YT):Nat:=bkS (fun _=>0) x.cells+(bkS (fun _=>0) x.from_+(0))
theorem YT.QP (x:YT):x.bk=bkS (fun _=>0) x.cells+(bkS (fun _=>0) x.from_+(0)):=rfl
mutual
def Zb.bk:Zb->Nat
 | ⟨kind,n,step,text,list,columns,rows⟩=>text.size+((list.length+Zb.bks list)+(bkS ByteArray.size columns+(bkS YT.bk rows+(0))))
def Zb.bks:List Zb->Nat
 | []=>0
 | x::xs=>Zb.bk x+Zb.bks xs
end
theorem Zb.ZhK:∀xs:List Zb,Zb.bks xs=QL Zb.bk xs
 | []=>rfl
 | x::xs=>by rw [Zb.bks,Zb.ZhK xs];rfl
theorem Zb.QP (x:Zb):x.bk=x.text.size+(bkS Zb.bk x.list+(bkS ByteArray.size x.columns+(bkS YT.bk x.rows+(0)))):=by
 cases x;simp only [Zb.bk,Zb.ZhK,bkS]
theorem Zb.ind {p:Zb->Prop} (h:∀x,(∀y∈x.list,p y)->p x):∀x,p x
 | ⟨kind,n,step,text,list,columns,rows⟩=>h _ fun y hy=>Zb.ind h y
termination_by x=>SizeOf.sizeOf x
decreasing_by
 have:=List.sizeOf_lt_of_mem hy;simp at this ⊢;omega
mutual
def Za.bk:Za->Nat
 | ⟨kind,n,text,args⟩=>text.size+((args.length+Za.bks args)+(0))
def Za.bks:List Za->Nat
 | []=>0
 | x::xs=>Za.bk x+Za.bks xs
end
theorem Za.ZhK:∀xs:List Za,Za.bks xs=QL Za.bk xs
 | []=>rfl
 | x::xs=>by rw [Za.bks,Za.ZhK xs];rfl
theorem Za.QP (x:Za):x.bk=x.text.size+(bkS Za.bk x.args+(0)):=by
 cases x;simp only [Za.bk,Za.ZhK,bkS]
theorem Za.ind {p:Za->Prop} (h:∀x,(∀y∈x.args,p y)->p x):∀x,p x
 | ⟨kind,n,text,args⟩=>h _ fun y hy=>Za.ind h y
termination_by x=>SizeOf.sizeOf x
decreasing_by
 have:=List.sizeOf_lt_of_mem hy;simp at this ⊢;omega
def Zm.bk (x:Zm):Nat:=x.name.size+(Za.bk x.expr+(Zb.bk x.value+(0)))
theorem Zm.QP (x:Zm):x.bk=x.name.size+(Za.bk x.expr+(Zb.bk x.value+(0))):=rfl
theorem ZaW: @YX= @Yc:=by
 funext b0 n
 induction n with
 | zero=>funext y0;rfl
 | succ n ih=>
  funext y0
  simp only [YX,Yc,ih]
  try rfl
theorem Zc3: @WH= @XM:=by
 funext b0 b1
 simp only [WH,XM,ZaW]
 try rfl
theorem Zcw: @QJ= @Yd:=by
 funext b0 b1 n
 induction n with
 | zero=>funext y0;rfl
 | succ n ih=>
  funext y0
  simp only [QJ,Yd,ih]
  try rfl
theorem ZeD: @WY= @Wl:=by
 funext b0 b1 b2
 simp only [WY,Wl,Zcw]
 try rfl
theorem Zk.Zuq (x:Zk):x.cn<=6*(1+Zk.bk x):=by
 rw [Zk.Zsn,Zk.QP];omega
theorem Zk.Zsp (xs:List Zk):Zk.cnL xs<=6*bkS Zk.bk xs:=by rw [Zk.ZeP];exact ZiV xs fun x _=>x.Zuq
theorem Ze.Zso (x:Ze):x.cnV<=6*x.bk:=by
 unfold Ze.cnV;rw [Ze.QP];have h0:=Zk.Zsp x.cells;omega
theorem Zmg (xs:List Int):QR xs<=1*bkS (fun _=>0) xs:=ZiV xs fun x _=>by simp only [Zgj];omega
end Go.Proofs.YtbkllghhcphkaaaGreatDoor
