import Derived.Test.YtmcfegjoccgpoaaGreatDoorZJ6
import Derived.Sort.OwnSortedInts
import Derived.Lib.ItoaLen
set_option linter.unusedSimpArgs false
set_option linter.unusedVariables false
set_option maxHeartbeats 4000000
set_option maxRecDepth 100000
namespace Go.Proofs.YtmcfegjoccgpoaaGreatDoor
open Go.RowKit Am
theorem Zy0 (xs:List Int):ZcL (xs.map iC)=xs.map (Value.int .i64):=by simp [ZcL,ZyL,iC,Zje,Function.comp_def]
theorem ZyZ (xs:List Ma):ZcL (xs.map sC)=(xs.map toL).map encStr:=by simp [ZcL,ZyL,sC,Zje,Function.comp_def,encStr,toL]
theorem ZcQ {xs v:List Int} (h:VD xs=some v):SS Tryz.prog 293 (xs.map iC) (v.map iC):=by
 have o:=ZeJ h
 have hl:xs.length<4611686018427387904:=by
  unfold VD at h
  split at h
  ·assumption
  ·cases h
 subst o;refine ⟨⟨WP,by simp [ZcL,(Ke xs).length_eq],λw p c=>⟨λz=> ?_,λb k t hp l j m=> ?_⟩⟩,ZvC xs,by simp [iC],λx r=> ?_⟩
 ·exact Tryz.sort_Ints_none p c w
 ·subst hp;rw [Zy0] at m j ⊢;rw [HO] at m j ⊢;refine (Tryz.sort_Ints b 0 c xs w (Go.holds_of_blockI l m) (GX.1 l).1 hl).mono λe B hR=> ?_;obtain ⟨rfl,n,A,rfl⟩:=hR;refine ⟨rfl,Go.grownBy_sortedI _,_,Go.heap_sortedI _ l,by simp [Go.Sort.putCells], ?_⟩;have:=Go.take_putCellsI k (Zo3 xs) (by rw [(Ke xs).length_eq];exact j);rw [(Ke xs).length_eq] at this;rw [Zy0];exact this
 ·obtain ⟨y,s,rfl⟩:=Hd.1 r;exact Hd.2 ⟨y,(Ke xs).mem_iff.1 s,rfl⟩
instance:HC 293 (Ty @ZcQ):=⟨ZcQ⟩
theorem Zaf {xs v:List Ma} (h:Xb xs=some v):SS Tryz.prog 219 (xs.map sC) (v.map sC):=by
 have s:=ZaL h
 have hl:xs.length<4611686018427387904:=by
  unfold Xb at h
  split at h
  ·assumption
  ·cases h
 subst s;have r:(xs.map toL).length=xs.length:=Ha
 refine ⟨⟨WP,by simp [ZcL,(Zen xs).length_eq],λw p c=>⟨λB=> ?_,λb k t hp m j o=> ?_⟩⟩,by simp [Ue,Zfw,sC,L.flat],by simp [sC],λx z=> ?_⟩
 ·exact Tryz.sort_Strings_none p c w
 ·subst hp;rw [ZyZ] at o j ⊢;rw [HO] at o j ⊢;refine (Tryz.sort_Strings b 0 c (xs.map toL) w (Go.holds_of_block m o) (GX.1 m).1 (by rw [r];exact hl)).mono λe E hR=> ?_;obtain ⟨rfl,n,C,rfl⟩:=hR;have hp:=List.mergeSort_perm (xs.map toL) (λx y=>decide (x<=y));refine ⟨rfl,Go.grownBy_sorted _,_,Go.heap_sorted _ m,by simp [Go.Sort.putCells], ?_⟩;have:=Go.take_putCells k ((xs.map toL).mergeSort (λx y=>decide (x<=y))) (by rw [hp.length_eq];exact j);rw [hp.length_eq] at this;have e:(ZnB xs).map toL=(xs.map toL).mergeSort (λx y=>decide (x<=y)):=by rw [ZnB,List.map_map,show (toL∘ofL)=id from funext λl=>ZoW l,List.map_id]
  rw [ZyZ,e];exact this
 ·obtain ⟨y,A,rfl⟩:=Hd.1 z;exact Hd.2 ⟨y,(Zen xs).mem_iff.1 A,rfl⟩
instance:HC 219 (Ty @Zaf):=⟨Zaf⟩
theorem Ztd {w:World}:∀{j:List Int} {vs:List Value} {F:List Nat},RpL w (j.map (L.int .u64)) vs F->vs=j.map (Value.int .u64)
 | [],_,_,h=>by simp only [List.map_nil,RpL] at h;simp [h.1]
 | z::j,_,_,h=>by
  simp only [Hi,RpL,Rp] at h;obtain ⟨v,l,m,o,rfl,rfl,⟨rfl,rfl,_⟩,k⟩:=h;simp [Ztd k]
theorem Zp0 {w:World} {k:Nat} {os:Array Obj}:Below w.heap.size w (Sort.grow (w.drewN k) os):=by
 refine ⟨rfl,rfl,rfl, ?_,λj hj=> ?_⟩
 ·show w.heap.size<=(w.heap++os).size;simp
 ·show (w.heap++os)[j]? =w.heap[j]?;rw [GE hj]
theorem Zx6 {w:World} {G:Nat->Prop} (h:Glb w G):Lib.TabIs Tryz.prog w "internal/strconv.uint64pow10" .u64 Lib.pow10Tab:=by
 obtain ⟨j,r,p,F,k,_,l,_⟩:=h.2.1 (5,Lib.pow10Tab.map (L.int .u64)) (List.mem_of_mem_head? rfl);have m:=Ztd l;have o:Tryz.prog.globalNamed "internal/strconv.uint64pow10"=some 5:=by kernel_rfl
 unfold Lib.TabIs World.var?;rw [o,ZEH,k,<-m]
theorem Zyf {w:World} {a b:DV} {vs:List Value} {F:List Nat} (h:Yu w [a,b] vs F):∃v u j k,vs=[v,u]/\F=j++k/\Zad w a v j/\Zad w b u k:=by
 simp only [Yu] at h;obtain ⟨v,_,j,_,rfl,rfl,l,u,_,k,_,rfl,rfl,m,rfl,rfl⟩:=h;exact ⟨v,u,j,k,rfl,Ha,l,m⟩
theorem Zlg {w:World}:∀{j:List Int},(∀z∈j,InK .u64 z)->RpL w (j.map (L.int .u64)) (j.map (Value.int .u64)) []
 | [],_=>by simp only [List.map_nil,RpL];exact ⟨trivial,trivial⟩
 | z::j,h=>by
  simp only [Hi,RpL,Rp];exact ⟨_,_,[],[],rfl,rfl,⟨rfl,rfl,h z Ha⟩,Zlg λy k=>h y (by simp [k])⟩
def Zkz (W:World) (p:Nat×List L):Prop:=∃j l k F,W.heap[p.1]? =some (.cells j l k)/\RpL W p.2 j.toList F
theorem Zkb {W:World} (h:∀p∈glb,Zkz W p) (k:∀p∈Zt2,∃v,W.cell? ⟨p.1,0,none⟩=some v/\p.2 v):∃G,Glb W G:=
 ⟨λb=>b<W.heap.size,λ_ h=>h,λp hp=>by
  obtain ⟨l,r,m,F,j,k⟩:=h p hp;exact ⟨l,r,m,F,j,V6 j,k,k.lt⟩,λp hp=>by
  obtain ⟨v,j,o⟩:=k p hp;exact ⟨v,j,World.block_lt_of_cell? _ _ j,o⟩⟩
theorem Ui {P:Program} {W:World} {j:String} {g:Nat} {cs:Array Value} (o:P.globalNamed j=some g) (k:W.var? P j=some cs):∃ty l,W.heap[g]? =some (.cells cs ty l):=by
 unfold World.var? at k;rw [o,ZEH] at k
 split at k
 ·rename_i m ty l p;obtain rfl:=ZEI k;exact ⟨ty,l,p⟩
 ·cases k
def ZsT:List L:=Lib.pow10Tab.map (L.int .u64)
theorem ZaZ {H:Type} {enc:TypeId×Value->H} {W:World} {base:Nat} {sp:Nat->Bool} {held:Bool} {j:Nat} {t e n:Nat} {cs:Array Value} {q:List MemPlace} (s:Tryz.prog.underlying t=some (.array n e)) (o:Tryz.prog.underlying e=some (.int .u64)) (k:Tryz.prog.cellsOf e=1) (l:Tryz.prog.cellsOf t=n)
  (p:Tryz.prog.globalNamed "internal/strconv.uint64pow10"=some 5) (w:W.var? Tryz.prog "internal/strconv.uint64pow10"=some cs) (hd:DataW.trod enc Tryz.prog W base sp held j t cs.toList=some (Rows.laid_internal_strconv_uint64pow10,q)):Zkz W (5,ZsT):=by
 have m:(Rows.laid_internal_strconv_uint64pow10:DataW H)=Lib.tabData .u64 Lib.pow10Tab:=rfl;rw [m] at hd;have ec:=Lib.cells_of_tab s o k l hd;obtain ⟨A,z,r⟩:=Ui p w;refine ⟨_,_,_,[],r, ?_⟩;rw [ec];exact Zlg (by unfold InK;decide)
theorem Zva {N:Nat->Prop} {w:World} {j:List Nat} {b:Bool}:ZdC true N w j [.one (.bool b)] [.bool b]:=by
 simp only [ZdC,if_true,ZeG,Zr3,Ow];exact ⟨[],⟨_,[],[],[],rfl,rfl,⟨rfl,rfl⟩,rfl,rfl⟩,List.nodup_nil⟩
theorem Zxl {N:Nat->Prop} {w:World} {j:List Nat} {n:Int} (h:InK .i64 n):ZdC true N w j [.one (.int .i64 n)] [.int .i64 n]:=by
 simp only [ZdC,if_true,ZeG,Zr3,Ow];exact ⟨[],⟨_,[],[],[],rfl,rfl,⟨rfl,rfl,h⟩,rfl,rfl⟩,List.nodup_nil⟩
theorem ZnO {N:Nat->Prop} {w:World} {j:List Nat} {n:Int} {b:Bool} (h:InK .i64 n):ZdC true N w j [.one (.int .i64 n),.one (.bool b)] [.int .i64 n,.bool b]:=by
 simp only [ZdC,if_true,ZeG,Zr3,Ow];exact ⟨[],⟨_,_,[],[],rfl,rfl,⟨rfl,rfl,h⟩,_,_,[],[],rfl,rfl,⟨rfl,rfl⟩,rfl,rfl⟩,List.nodup_nil⟩
theorem Uh (a0 a1:Ma) (r:Bool) (hM:YC a0 a1=some r):Ctr Tryz.prog 282 [.one (.str a0),.one (.str a1)] true [.one (.bool r)]:=by
 obtain rfl:=ZEI hM;refine ⟨WP,λw p o _ hd=> ?_⟩;obtain ⟨v,u,l,m,rfl,rfl,j,k⟩:=Zyf hd;simp only [Zad,Rp] at j k;obtain ⟨rfl,rfl,_⟩:=j;obtain ⟨rfl,rfl,_⟩:=k;refine (Tryz.strings_HasPrefix a0 a1 w).mono ?_;rintro e s ⟨rfl,rfl⟩;exact ⟨[_],rfl,Zva,Below.refl _ _⟩
theorem ZqS (c:UInt8):∀l:List UInt8,Lib.indexByte l c<=l.length
 | []=>by simp [Lib.indexByte]
 | b::l=>by
  have h:=ZqS c l;unfold Lib.indexByte
  split
  ·simp;omega
  ·split
   ·simp;omega
   ·simp;omega
theorem Ug (a0:Ma) (a1:Int) (r:Int) (hM:YB a0 a1=some r):Ctr Tryz.prog 281 [.one (.str a0),.one (.int .u8 a1)] true [.one (.int .i64 r)]:=by
 obtain rfl:=ZEI hM;refine ⟨WP,λw z o _ hd=> ?_⟩;obtain ⟨v,u,l,m,rfl,rfl,j,k⟩:=Zyf hd;simp only [Zad,Rp] at j k;obtain ⟨rfl,rfl,hf⟩:=j;obtain ⟨rfl,rfl,_⟩:=k;refine (Tryz.strings_IndexByte a0 a1 w).mono ?_;rintro e A ⟨rfl,rfl⟩;have p:=ZqS a1.toNat.toUInt8 a0.data.toList;have s:=Lib.indexByte_ge a0.data.toList a1.toNat.toUInt8;have t:a0.data.toList.length=a0.size:=by rw [HY];rfl
 unfold Fit at hf;exact ⟨[_],rfl,Zxl ((ZaH _).2 ⟨WF,WF⟩),Below.refl _ _⟩
theorem World.Zkw (w:World) (o:Obj):(w.alloc o).heap[w.heap.size]? =some o:=by
 show (w.heap.push o)[w.heap.size]? =some o;simp
theorem Zwl {l:List UInt8} {s:Ma}:(⟨l.toArray⟩:Ma)=s↔l=s.toList:=by
 rw [ByteArray.toList_eq];constructor
 ·rintro rfl;simp
 ·intro h;apply ByteArray.ext;simp [h]
theorem Zqq (j:Ma):∀(k:Nat) (s:Ma) (x:Ma),x∈Lib.splitB j 0 k s->x.size<=s.size
 | 0,s,x,h=>by simp [Lib.splitB] at h;simp [h]
 | k+1,s,x,h=>by
  unfold Lib.splitB at h
  split at h
  ·simp at h;simp [h]
  ·rcases Hc.1 h with rfl| h
   ·rw [GT];omega
   ·have:=Zqq j k _ x h;rw [GT] at this;omega
theorem ZqF {N:Nat->Prop} {w:World}:∀{j:List Ma},(∀s∈j,Fit s)->OwE N w (j.map sC) (j.map Value.string) []
 | [],_=>by simp [OwE]
 | s::j,h=>by
  simp only [Hi,sC,OwE,OwL,Ow];exact ⟨[_],_,[],[],rfl,rfl,⟨_,[],[],[],rfl,rfl,⟨rfl,rfl,h s Ha⟩,rfl,rfl⟩,ZqF λy k=>h y (by simp [k])⟩
theorem Kp (a0 a1:Ma) (r:List Ma) (hM:Y6 a0 a1=some r):Ctr Tryz.prog 210 [.one (.str a0),.one (.str a1)] true [.one (.sl (r.map sC))]:=by
 unfold Y6 at hM
 split at hM
 ·rename_i j;have k:=ZEI hM;refine ⟨WP,λw I C ⟨G,p⟩ hd=> ?_⟩;obtain ⟨v,u,A,B,rfl,rfl,l,o⟩:=Zyf hd;simp only [Zad,Rp] at l o;obtain ⟨rfl,rfl,_⟩:=l;obtain ⟨rfl,rfl,_⟩:=o;obtain ⟨v,t,_,m,rfl⟩:=p.2.2 (0,isI) (by simp [Zt2]);refine (Tryz.strings_Split a0 a1 m w j.1 t j.2).mono ?_;rw [k];rintro e J ⟨rfl,rfl⟩;have hl:r.length=Lib.countB a0 a1+1:=by rw [<-k];exact Lib.splitB_all a1 j.2 0 _ a0 rfl
  have E:=Lib.countB_le a1 j.2 _ a0 (ZEN _);rw [<-hl];refine ⟨[_],rfl, ?_,(Below.refl _ _).alloc (ZEN _) _⟩
  have z:∀s∈r,Fit s:=λs h=>by
   rw [<-k] at h;have:=Zqq a1 _ _ s h;unfold Fit;omega
  simp only [ZdC,if_true,ZeG,Zr3,Ow];refine ⟨[w.heap.size],⟨_,[],[w.heap.size],[],rfl,rfl,⟨some ⟨w.heap.size,0,none⟩,r.length,Ha,WF,.inr ⟨w.heap.size,9,(r.map Value.string).toArray,[],1,rfl,ZEN _,World.Zkw _ _,Ha,Ha,by simp [sC],Ha,rfl, ?_⟩⟩,rfl,rfl⟩,Ha⟩;have:=ZqF (N:=λb=>w.heap.size<=b) (w:=w.alloc (.cells (r.map Value.string).toArray 9)) z
  simpa [Gl] using this
 ·cases hM
theorem Zrh {w:World} {G:Nat->Prop} (h:Glb w G) (g:Nat) (l:(g,isF)∈Zt2):∃ev,w.cell? ⟨g,0,none⟩=some ev/\(ev= .nilIface\/∃te m,ev= .iface te m):=by
 obtain ⟨v,j,_,k⟩:=h.2.2 _ l;exact ⟨v,j,.inr k⟩
theorem ZlF {l:List UInt8} {n:Int} (h:Lib.atoiAll l= .ok n): -9223372036854775808<=n/\n<=9223372036854775807:=by
 unfold Lib.atoiAll at h
 split at h
 ·cases h
 ·dsimp only at h
  split at h
  ·cases h
  ·cases h
  ·rename_i u _
   split at h
   ·cases h
   ·split at h
    ·cases h
    ·injection h with h
     subst h
     split<;>omega
theorem Zpg (w:World) (s:Ma) (lo hi:Int) (hs:s.size<=281474976710656) {G:Nat->Prop} (hG:Glb w G):
  Calls Tryz.prog 256 #[.string s,.int .i64 lo,.int .i64 hi] w λe w'=>e= .returned (.tuple #[.int .i64 (XM s lo hi).1,.bool (XM s lo hi).2])/\Below w.heap.size w w':=by
 obtain ⟨ev1,v1,v2⟩:=Zrh hG 3 (by simp [Zt2]);obtain ⟨ev2,u1,u2⟩:=Zrh hG 4 (by simp [Zt2]);cases ha:Lib.atoiAll s.data.toList with
 | «syntax» =>
  go_enter Tryz.func256,Tryz.ntmps256
  go_wp2_with fail
  go_at_call 290
  refine (Tryz.strconv_Atoi_syntax s hs ha ev1 w v1 v2).mono ?_;rintro e w1 ⟨N,rfl,_,_,hb⟩
  go_wp2_with fail
  all_goals go_ret2
  all_goals exact ⟨by simp [XM,ha],hb⟩
 | range=>
  go_enter Tryz.func256,Tryz.ntmps256
  go_wp2_with fail
  go_at_call 290
  refine (Tryz.strconv_Atoi_range s hs ha ev2 w u1 u2).mono ?_;rintro e w1 ⟨N,rfl,_,_,hb⟩
  go_wp2_with fail
  all_goals go_ret2
  all_goals exact ⟨by simp [XM,ha],hb⟩
 | ok n=>
  have hn:=ZlF ha
  go_enter Tryz.func256,Tryz.ntmps256
  go_wp2_with fail
  go_at_call 290
  refine (Tryz.strconv_Atoi_ok s WF n ha w).mono ?_;rintro e w1 ⟨rfl,hw⟩
  have hb:Below w.heap.size w w1:=by
   rcases hw with rfl| ⟨t,rfl⟩
   ·exact Below.refl _ _
   ·exact Lib.bytesWorld_below _ _ _
  have hG1:Glb w1 G:=hG.keep hb.size λb hb2=>hb.block b (hG.1 b hb2);clear hw
  by_cases h1:n<lo
  ·have hp:XM s lo hi=(0,false):=by simp only [XM,ha];rw [if_neg WF]
   go_wp2_with fail
   all_goals (try (exfalso;simp only [Bool.not_eq_false',decide_eq_true_eq,decide_eq_false_iff_not] at *;omega))
   all_goals go_ret2
   all_goals exact ⟨by rw [hp];rfl,hb⟩
  by_cases h2:hi<n
  ·have hp:XM s lo hi=(0,false):=by simp only [XM,ha];rw [if_neg WF]
   go_wp2_with fail
   all_goals (try (exfalso;simp only [Bool.not_eq_false',decide_eq_true_eq,decide_eq_false_iff_not] at *;omega))
   all_goals go_ret2
   all_goals exact ⟨by rw [hp];rfl,hb⟩
  go_wp2_with fail
  go_at_call 291
  refine (Tryz.strconv_Itoa n hn.1 hn.2 w1 (Zx6 hG1)).mono ?_;rintro e w2 ⟨rfl,k,os,rfl⟩;have hb2:Below w.heap.size w (Sort.grow (w1.drewN k) os):=hb.trans (Zp0.mono hb.size)
  by_cases h3:Lib.itoa n=s.toList
  ·have hp:XM s lo hi=(n,true):=by simp only [XM,ha];rw [if_pos ⟨WF,WF,Zwl.2 h3⟩]
   go_wp2_with fail
   all_goals (try (exfalso;simp_all;done))
   all_goals go_ret2
   all_goals exact ⟨by rw [hp];rfl,hb2⟩
  ·have hp:XM s lo hi=(0,false):=by simp only [XM,ha];rw [if_neg (λh=>h3 (Zwl.1 h.2.2))]
   go_wp2_with fail
   all_goals (try (exfalso;simp_all;done))
   all_goals go_ret2
   all_goals exact ⟨by rw [hp];rfl,hb2⟩
theorem Zj2 (a0:Ma) (a1 a2:Int) (r:Int×Bool) (hM:ZdG a0 a1 a2=some r):Ctr Tryz.prog 256 [.one (.str a0),.one (.int .i64 a1),.one (.int .i64 a2)] true [.one (.int .i64 r.1),.one (.bool r.2)]:=by
 unfold ZdG at hM
 split at hM
 ·rename_i m;obtain rfl:=ZEI hM;refine ⟨WP,λw z t ⟨G,j⟩ hd=> ?_⟩;simp only [Yu,Zad,Rp] at hd;obtain ⟨_,_,o,_,rfl,rfl,⟨rfl,rfl,_⟩,_,_,p,_,rfl,rfl,⟨rfl,rfl,_⟩,_,_,s,_,rfl,rfl,⟨rfl,rfl,_⟩,rfl,rfl⟩:=hd;refine (Zpg w a0 a1 a2 m j).mono ?_;rintro e A ⟨rfl,l⟩;refine ⟨[_,_],rfl,ZnO ?_,l⟩;unfold XM
  split
  ·rename_i n k
   split
   ·exact (ZaH _).2 (ZlF k)
   ·show GZ 0=0;decide
  ·show GZ 0=0;decide
 ·cases hM
instance:HC 256 (Ty @Zj2):=⟨Zj2⟩
instance:HC 282 (Ty @Uh):=⟨Uh⟩
instance:HC 281 (Ty @Ug):=⟨Ug⟩
instance:HC 210 (Ty @Kp):=⟨Kp⟩
def Zlf (k:Nat) (a0:List Zl) (a1:Int):Nat->(List Int)->Int->Option (List Int) | 0,_,_=>none | m+1,l,j=> if (decide (j<(a0.length:Int))) then ((Qy k a0 j).bind λp=> (YG k p a1).bind λr=> if r then (YJ 8 l [j]).bind λs=> some s else some l).bind λo=> Zlf k a0 a1 m o (GZ (j+1)) else some l
def Zxj (k:Nat) (a0:List Zl) (a1:Int):Option (List Int):= (Zlf k a0 a1 k ([]:List Int) 0).bind λj=> some j
def Za3 (k:Nat) (a0:List Zl) (a1:Int) (a2:Bool):Option (List Int):= if a2 then (Zxj k a0 a1).bind λj=> some j else (Qy k a0 a1).bind λl=> some l
def ZbU (k:Nat) (r:List Int):Nat->(List Int)->Int->Option (List Int) | 0,_,_=>none | t+1,l,s=> if (decide (s<(r.length:Int))) then ((at? r s).bind λj=> (YG k l j).bind λo=> if (!o) then (YJ 8 l [j]).bind λp=> some p else some l).bind λm=> ZbU k r t m (GZ (s+1)) else some l
def ZbV (k:Nat) (a0:List Zl) (a2:Bool):Nat->(List Int)->Int->Option (List Int) | 0,_,_=>none | m+1,j,l=> if (decide (l<(j.length:Int))) then ((at? j l).bind λp=> (Za3 k a0 p a2).bind λr=> ZbU k r k j 0).bind λo=> ZbV k a0 a2 m o (GZ (l+1)) else some j
def Zja (k:Nat) (a0:List Zl) (a1:Int) (a2:Bool):Option (List Int):= (Za3 k a0 a1 a2).bind λl=> (ZbV k a0 a2 k l 0).bind λm=> (Zep k m).bind λj=> some j
def ZjL (k:Nat) (a0:List Zl) (a1:Int):Option (List Int):= (Zja k a0 a1 false).bind λj=> some j
def Zgy (k:Nat) (a0:List Zl) (a1:Int):Option Bool:= (ZjL k a0 a1).bind λj=> (YG k j a1).bind λl=> some l
def ZhB (k:Nat) (a0:List Zl):Option (List Int):= (US k a0).bind λj=> (WB k j).bind λl=> (Kh k a0 j l).bind λm=> some m
def Q9 (k:Nat) (a0:List Zl) (a1:Int):Option Bool:= (if (decide (0<=a1)) then if (decide (a1<(a0.length:Int))) then (at? a0 a1).bind λj=> if (decide (j.kind=2)) then (Y4 k a0 a1).bind λm=> if (!m) then (Uw k a0 a1).bind λo=> some (!o) else some false else if (decide (j.kind=3)) then (Y4 k a0 a1).bind λp=> if (!p) then (Uw k a0 a1).bind λr=> some (!r) else some false else some false else some false else some false).bind λl=> some l
def QC (k:Nat) (a0:List Zl) (j:List Int):Nat->(List Int)->Int->Option (List Int) | 0,_,_=>none | p+1,l,m=> if (decide (m<(j.length:Int))) then ((at? j m).bind λo=> (Q9 k a0 o).bind λs=> if s then (YJ 8 l [o]).bind λt=> some t else some l).bind λr=> QC k a0 j p r (GZ (m+1)) else some l
def Jq (k:Nat) (a0:List Zl) (a1:Int):Option (List Int):= ((YY k a0 a1).bind λl=> QC k a0 l k ([]:List Int) 0).bind λj=> some j
def Zev (k:Nat) (a0:List Int) (a1:List Int):Nat->Int->Option (Unit ⊕ Bool) | 0,_=>none | l+1,j=> if (decide (j<(a0.length:Int))) then (at? a0 j).bind λm=> (Ut k a1 m).bind λo=> if (!o) then some (.inr false) else Zev k a0 a1 l (GZ (j+1)) else some (.inl ())
def ZmB (k:Nat) (a0:List Int) (a1:List Int):Option Bool:= (Zev k a0 a1 k 0:Option (Unit ⊕ Bool)).bind fun | .inl _=>( some true) | .inr j=>( some j)
def X1 (k:Nat) (a0:List Zl) (l:List Int):Nat->Int->Option Int | 0,_=>none | m+1,j=> (if (decide (j<(a0.length:Int))) then (Ut k l j).bind λp=> if p then some true else (Q9 k a0 j).bind λr=> if (!r) then some true else (Jq k a0 j).bind λs=> (ZmB k s l).bind λt=> some (!t) else some false).bind λo=> if o then X1 k a0 l m (GZ (j+1)) else some j
def Uv (k:Nat) (a0:List Zl):Nat->(List Int)->Option (List Int) | 0,_=>none | m+1,j=> (X1 k a0 j k 0).bind λl=> if (decide (l=(a0.length:Int))) then some j else (YJ 8 j [l]).bind λo=> Uv k a0 m o
def Zlt (k:Nat) (a0:List Zl):Option (List Int):= Uv k a0 k ([]:List Int)
theorem ZeF: @QW= @YU:=by
 funext l n
 induction n with
 | zero=>funext k;rfl
 | succ n j=>
  funext k
  simp only [QW,YU,j]
  try rfl
theorem ZhZ: @Vh= @XY:=by
 funext j k
 simp only [Vh,XY,ZeF]
 try rfl
theorem Zg8: @Ws= @YM:=by
 funext l m n
 induction n with
 | zero=>funext k;rfl
 | succ n j=>
  funext k
  simp only [Ws,YM,j]
  try rfl
theorem Zj9: @YR= @YD:=by
 funext j k l
 simp only [YR,YD,Zg8]
 try rfl
theorem Zfv: @XF= @Ys:=by
 funext l m n
 induction n with
 | zero=>funext k;rfl
 | succ n j=>
  funext k
  simp only [XF,Ys,j]
  try rfl
theorem Zi3: @Z6= @ZX:=by
 funext j k l
 simp only [Z6,ZX,Zfv]
 try rfl
theorem ZeD: @QS= @XK:=by
 funext l m n
 induction n with
 | zero=>funext k;rfl
 | succ n j=>
  funext k
  simp only [QS,XK,j]
  try rfl
theorem ZhV: @Uq= @Kz:=by
 funext j k l
 simp only [Uq,Kz,ZeD]
 try rfl
theorem ZhW: @Vc= @WE:=by
 funext l m n
 induction n with
 | zero=>funext k;rfl
 | succ n j=>
  funext k
  simp only [Vc,WE,j]
  try rfl
theorem Ze5: @U7= @Vx:=by
 funext j k l
 simp only [U7,Vx,ZhW]
 try rfl
theorem ZeE: @QT= @Qs:=by
 funext l m n
 induction n with
 | zero=>funext k;rfl
 | succ n j=>
  funext k
  simp only [QT,Qs,j]
  try rfl
theorem ZhX: @Ur= @Xe:=by
 funext j k l
 simp only [Ur,Xe,ZeE]
 try rfl
end Go.Proofs.YtmcfegjoccgpoaaGreatDoor
