import Derived.Test.YtbkllghhcphkaaaGreatDoorPkC
import Derived.Maps.AppendAt
import Derived.StillTailTactics
import Derived.Deep.QuietTactic
import Derived.BigQuiet
import Derived.Deep.DeepFit
import Derived.Deep.DeepMust
set_option linter.unusedSimpArgs false
set_option linter.unusedVariables false
namespace Go.Proofs.YtbkllghhcphkaaaGreatDoor
open Go.RowKit
def Plain (w:World) (b:Nat):Prop:=∃cur t,w.heap[b]? =some (.cells cur t (0,0))
theorem Plain.lt {w:World} {b:Nat} (h:Plain w b):b<w.heap.size:=by
 obtain ⟨cur,t,h⟩:=h;exact (Array.getElem?_eq_some_iff.1 h).1
section
variable {B E W:Nat} {w w':World} {v:Value} {es:List D} {Fs:List Nat}
end
section
variable {P:Program} (w:World)
def Src (w:World) (A:Option Addr) (m:Nat) (ys:List D) (cs:List Value) (Fx:List Nat):Prop:= ys.length=m/\WI w ys cs Fx/\((A=none/\m=0)\/∃b off,A=some ⟨b,off,none⟩/\Qr w b off cs)
end
section
variable {w:World}
theorem Zef {n:Int} {cs:List Value} {F:List Nat}:Rep w (.int n) cs F↔cs=[.int .i64 n]/\F=[]/\I64 n:=by simp only [Rep]
theorem Zjy {b:Bool} {cs:List Value} {F:List Nat}:Rep w (.bool b) cs F↔cs=[.bool b]/\F=[]:=by simp only [Rep]
def Fits (s:ByteArray):Prop:=s.size<=9223372036854775807
theorem Zim {s:ByteArray} {cs:List Value} {F:List Nat}:Rep w (.str s) cs F↔cs=[.string s]/\F=[]/\Fits s:=by simp only [Rep,Fits]
theorem Zf3 {fs:List D} {cs:List Value} {F:List Nat}:Rep w (.agg fs) cs F↔WI w fs cs F:=by simp only [Rep]
theorem Zf4 {cs:List Value} {F:List Nat}:WI w [] cs F↔cs=[]/\F=[]:=by simp only [WI]
theorem Zeg {d:D} {ds:List D} {cs:List Value} {F:List Nat}:WI w (d::ds) cs F↔∃c1 c2 F1 F2,cs=c1++c2/\F=F1++F2/\Rep w d c1 F1/\WI w ds c2 F2:=by simp only [WI]
theorem Zov {es:List D} {cs:List Value} {F:List Nat}:Rep w (.sl es) cs F↔∃A c,cs=[.slice A es.length c]/\ZbF w (.slice A es.length c) es F:=by
 constructor
 ·intro h;have h':=h;simp only [Rep] at h';obtain ⟨A,c,rfl,_⟩:=h';exact ⟨A,c,rfl,h⟩
 ·rintro ⟨A,c,rfl,h⟩;exact h
theorem ZrU {n:Int} (h:I64 n):Rep w (.int n) [.int .i64 n] []:=Zef.2 ⟨rfl,rfl,h⟩
theorem ZrT {s:ByteArray} (h:Fits s):Rep w (.str s) [.string s] []:=Zim.2 ⟨rfl,rfl,h⟩
theorem Zt7 {A:Option Addr} {n c:Nat} {es:List D} {F:List Nat} (h:ZbF w (.slice A n c) es F):Rep w (.sl es) [.slice A n c] F:=h
theorem Zbr {d:D} {ds:List D} {c1 c2:List Value} {F1 F2:List Nat} (h:Rep w d c1 F1) (k:WI w ds c2 F2):WI w (d::ds) (c1++c2) (F1++F2):=Zeg.2 ⟨_,_,_,_,rfl,rfl,h,k⟩
theorem ZoD:WI w [] [] []:=Zf4.2 ⟨rfl,rfl⟩
theorem ZbF.below {w':World} {v:Value} {es:List D} {F:List Nat} (h:ZbF w v es F) (hb:Below w.heap.size w w'):ZbF w' v es F:=Rep.below h hb
end
theorem Zpm {k:IntKind} {a b:Int} (h:a=b):Ending.returned (.int k a)= .returned (.int k b):=by rw [h]
mutual
def bk:D->Nat
 | .int _=>0
 | .byte _=>0
 | .bool _=>0
 | .str s=>s.size
 | .agg fs=>bkL fs
 | .sl es=>es.length+bkL es
def bkL:List D->Nat
 | []=>0
 | d::ds=>bk d+bkL ds
end
section
variable {P:Program} {w:World}
end
theorem Zmf (xs:List Int):∀d∈xs.map D.int,wd d=1:=by intro d hd;obtain ⟨l,_,rfl⟩:=List.mem_map.1 hd;rfl
theorem Zog:∀(xs:List Int),bkL (xs.map D.int)=0
 | []=>rfl
 | x::xs=>by simp only [List.map_cons,bkL,bk,Zog xs]
theorem Zvk {a w:World} (h:Below a.heap.size a w) (o:Obj):Below a.heap.size a (w.alloc o):=h.alloc h.size o
theorem ZuT {a w w1:World} (h:Below a.heap.size a w) (k:Below w.heap.size w w1):Below a.heap.size a w1:=h.trans (k.mono h.size)
def SzR (b:Nat) (left r:Int):Prop:=((b:Int)<=left/\r=left-b)\/(left<b/\r= -1)
mutual
def nd:D->Nat
 | .int _=>1
 | .byte _=>1
 | .bool _=>1
 | .str _=>1
 | .agg fs=>1+ndL fs
 | .sl es=>1+ndL es
def ndL:List D->Nat
 | []=>0
 | d::ds=>nd d+ndL ds
end
theorem size_set (w:World) (p:Addr) (u:Value):(w.setCell p u).heap.size=w.heap.size:=by simp [World.setCell]
theorem ZlM {w:World} {ds:List D} {cs cs':List Value} {F F':List Nat} (h:WI w ds cs F) (h1:cs=cs') (h2:F=F'):WI w ds cs' F':=h1▸h2▸h
theorem Zn9 (w:World) (cs:Array Value) (t:TypeId) (j:Nat) (u:Value) (h:cs[j]? =some u):(w.alloc (.cells cs t)).cell? ⟨w.heap.size,j,none⟩=some u:=
 (cell_of_row _ _ j cs t (0,0) (heap_alloc_new w _)).trans h
theorem ZmC {w w1:World} (hb:Below w.heap.size w w1) {b o:Nat} {u:Value} (h:w.cell? ⟨b,o,none⟩=some u):w1.cell? ⟨b,o,none⟩=some u:=
 (hb.cell (p:=⟨b,o,none⟩) (World.block_lt_of_cell? w _ h)).trans h
def Zn3:Nat->Nat->List UInt8->List UInt8
 | 0,_,acc=>acc
 | f+1,n,acc=>if n=0 then acc else Zn3 f (n/10) (UInt8.ofNat (48+n%10)::acc)
theorem ZjV:∀f n acc,(Zn3 f n acc).length<=acc.length+f
 | 0,_,_=>by simp [Zn3]
 | f+1,n,acc=>by
  unfold Zn3
  split
  ·omega
  ·have:=ZjV f (n/10) (UInt8.ofNat (48+n%10)::acc);simp only [List.length_cons] at this;omega
def ZdF (k:Int):ByteArray:=if k<=0 then ⟨#[109,48]⟩ else ⟨(109::Zn3 k.toNat k.toNat []).toArray⟩
theorem Zkz {k:Int} (h:k<=1099511627776):Fits (ZdF k):=by
 unfold ZdF Fits
 split
 ·decide
 ·have:=ZjV k.toNat k.toNat [];show (List.toArray _).size<=_;simp only [List.size_toArray,List.length_cons,List.length_nil] at this ⊢;omega
theorem Zpz (w:World) (m:Int):(convert 168 9 (.slice (some ⟨w.heap.size,0,none⟩) 1 1)).run Tryz.prog (w.alloc (.cells #[.int .u8 m] 5))= .ok (.string (strOfNums [m])) (w.alloc (.cells #[.int .u8 m] 5)):=
 run_convert_bytes_arg _ 168 5 Tryz.underlying168 Tryz.underlying5 _ 0 1 1 [m] rfl (fun i hi=>by
  obtain rfl:i=0:=by omega
  simp) 9 Tryz.underlying9
theorem Ziu (r:Nat) (acc:List UInt8):strOfNums [48+(r:Int)%10]++⟨acc.toArray⟩=⟨(UInt8.ofNat (48+r%10)::acc).toArray⟩:=by
 have e:(48+(r:Int)%10).toNat=48+r%10:=by omega
 apply ByteArray.ext;rw [ByteArray.data_append];simp [strOfNums,e]
theorem ZnI (acc:List UInt8):(⟨#[109]⟩:ByteArray)++⟨acc.toArray⟩=⟨(109::acc).toArray⟩:=by
 apply ByteArray.ext;rw [ByteArray.data_append];simp
set_option maxHeartbeats 1000000 in
set_option maxRecDepth 100000 in
theorem Zdn (k:Int) (w:World) (h1:k<=1099511627776):
  Calls Tryz.prog 88 #[.int .i64 k] w fun e w'=>e= .returned (.string (ZdF k))/\Below w.heap.size w w':=by
 by_cases h0:k<=0
 ·go_enter Tryz.func88,Tryz.ntmps88
  go_wp2_with fail
  go_ret
  exact ⟨by unfold ZdF;rw [if_pos h0];rfl,Below.refl _ _⟩
 ·have hfin:ZdF k=⟨(109::Zn3 k.toNat k.toNat []).toArray⟩:=by unfold ZdF;rw [if_neg h0]
  have HF:=Lib.hid hfin;clear hfin;obtain ⟨n,rfl⟩:=Int.eq_ofNat_of_zero_le (show 0<=k by omega);rw [Int.toNat_natCast] at HF;have hd:decide ((n:Int)<=0)=false:=by simp;omega
  go_enter Tryz.func88,Tryz.ntmps88
  go_wp2_with fail
  go_loopw [0,3] (fun kk out wr=>∃(r f:Nat) (acc:List UInt8),kk= .int .i64 r/\r<=f/\r<=n/\out= .string ⟨acc.toArray⟩/\Zn3 f r acc=Zn3 n n []/\acc.length+r<=n/\Below w.heap.size w wr) (fun kk _ _=>(intOf kk).toNat)
  case atStart=>exact ⟨n,n,[],rfl,Zwk _,Zwk _,rfl,rfl,by simp,Below.refl _ _⟩
  case round=>
   obtain ⟨r,f,acc,rfl,hrf,hrn,rfl,hdig,hlen,hb⟩:=hrel;have HD:=Lib.hid hdig;clear hdig
   by_cases hr:r=0
   ·subst hr
    go_wp2_with fail
    go_ret
    refine ⟨?_,hb⟩;show Ending.returned (.string _)=_;rw [HF.out,ZnI,<-HD.out];cases f<;>rfl
   ·have hr0:0<r:=by omega
    have kc:=Zpz;have hz:(strOfNums [48+(r:Int)%10]).size=1:=by rw [strOfNums_size];rfl
    have hac:(⟨acc.toArray⟩:ByteArray).size=acc.length:=by show acc.toArray.size=_;simp
    go_wp2_with fail
    go_roundw
    case rel=>
     obtain ⟨g,rfl⟩:∃g,f=g+1:=⟨f-1,by omega⟩;refine ⟨r/10,g,UInt8.ofNat (48+r%10)::acc,by go_num,by omega,by omega,by rw [Ziu], ?_,by simp only [List.length_cons];omega,Zvk hb _⟩;rw [<-HD.out]
     conv=>rhs;unfold Zn3
     rw [if_neg hr]
    case measure=>simp [intOf];omega
def mkL {α:Type} (mk:α->Int->α) (cn:α->Nat):List α->Int->List α
 | [],_=>[]
 | x::xs,k=>mk x k::mkL mk cn xs (k+cn x)
def cnS {α:Type} (cn:α->Nat):List α->Nat
 | []=>0
 | x::xs=>cn x+cnS cn xs
section
variable {α:Type} {mk:α->Int->α} {cn:α->Nat}
theorem Xr:∀(xs:List α) (k:Int),(mkL mk cn xs k).length=xs.length
 | [],_=>rfl
 | x::xs,k=>by simp only [mkL,List.length_cons,Xr xs]
theorem Zc7:∀(xs ys:List α),cnS cn (xs++ys)=cnS cn xs+cnS cn ys
 | [],ys=>by simp [cnS]
 | x::xs,ys=>by simp only [List.cons_append,cnS,Zc7 xs];omega
theorem ZcX:∀(xs ys:List α) (k:Int),mkL mk cn (xs++ys) k=mkL mk cn xs k++mkL mk cn ys (k+cnS cn xs)
 | [],ys,k=>by simp [mkL,cnS]
 | x::xs,ys,k=>by
  simp only [List.cons_append,mkL,cnS,ZcX xs];rw [show k+((cn x+cnS cn xs:Nat):Int)=k+cn x+cnS cn xs from by omega]
theorem Kx (xs:List α) (i:Nat) (h:i<xs.length):cnS cn (xs.take (i+1))=cnS cn (xs.take i)+cn xs[i]:=by
 rw [List.take_succ_eq_append_getElem h,Zc7];simp [cnS]
theorem Zbx (xs:List α) (i:Nat):cnS cn (xs.take i)<=cnS cn xs:=by
 have h:=Zc7 (cn:=cn) (xs.take i) (xs.drop i);rw [List.take_append_drop] at h;omega
theorem Zce (xs:List α) (i:Nat) (k:Int) (h:i<xs.length):mkL mk cn (xs.take (i+1)) k=mkL mk cn (xs.take i) k++[mk xs[i] (k+cnS cn (xs.take i))]:=by
 rw [List.take_succ_eq_append_getElem h,ZcX];rfl
theorem ZpI (xs:List α) (i:Nat) (k:Int) (h:i<xs.length):(mkL mk cn xs k)[i]'(by rw [Xr];exact h)=mk xs[i] (k+cnS cn (xs.take i)):=by
 have e:xs=xs.take i++xs[i]::xs.drop (i+1):=by rw [List.getElem_cons_drop,List.take_append_drop]
 have h1:mkL mk cn xs k=mkL mk cn (xs.take i) k++(mk xs[i] (k+cnS cn (xs.take i))::mkL mk cn (xs.drop (i+1)) (k+cnS cn (xs.take i)+cn xs[i])):=by
  conv=>lhs;rw [e]
  rw [ZcX];rfl
 have hl:(mkL mk cn (xs.take i) k).length=i:=by rw [Xr,List.length_take];omega
 have h2:(mkL mk cn xs k)[i]? =some (mk xs[i] (k+cnS cn (xs.take i))):=by
  rw [h1,List.getElem?_append_right (by omega),hl];simp
 have h3:=Zwm (l:=mkL mk cn xs k) (i:=i) (by rw [Xr];exact h);rw [h3] at h2;exact Zwf h2
end
structure Off (F:List Nat) (w w':World):Prop where
 os:w'.os=w.os
 tape:w'.tape=w.tape
 output:w'.output=w.output
 size:w.heap.size<=w'.heap.size
 block:∀b,b<w.heap.size->b∉F->w'.heap[b]? =w.heap[b]?
section
variable {F G:List Nat} {w w' w1:World}
theorem Off.refl (F:List Nat) (w:World):Off F w w:=⟨rfl,rfl,rfl,Zwk _,fun _ _ _=>rfl⟩
theorem Off.trans (h:Off F w w') (k:Off F w' w1):Off F w w1:=
 ⟨k.os.trans h.os,k.tape.trans h.tape,k.output.trans h.output,Nat.le_trans h.size k.size,fun b hb hF=>(k.block b (Nat.lt_of_lt_of_le hb h.size) hF).trans (h.block b hb hF)⟩
theorem Off.sub (h:Off F w w') (hs:∀b∈F,b∈G):Off G w w':=⟨h.os,h.tape,h.output,h.size,fun b hb hG=>h.block b hb fun hF=>hG (hs b hF)⟩
theorem Off.ZjC (h:Below w.heap.size w w'):Off F w w':=⟨h.os,h.tape,h.output,h.size,fun b hb _=>h.block b hb⟩
theorem Off.set (w:World) {p:Addr} (hp:p.block∈F) (u:Value):Off F w (w.setCell p u):=
 ⟨rfl,rfl,rfl,by rw [size_set];exact Zwk _,fun b _ hF=>Below.heap_setCell _ _ _ _ (fun e=>hF (e▸hp))⟩
theorem Off.cell (h:Off F w w') {b o:Nat} {u:Value} (hF:b∉F) (hc:w.cell? ⟨b,o,none⟩=some u):w'.cell? ⟨b,o,none⟩=some u:=
 (World.cell?_of_block (w:=w) (w':=w') (a:=⟨b,o,none⟩) (h.block b (World.block_lt_of_cell? w _ hc) hF)).trans hc
theorem Off.plain (h:Off F w w') {b:Nat} (k:Plain w b) (hF:b∉F):Plain w' b:=by
 obtain ⟨cur,t,e⟩:=k;exact ⟨cur,t,(h.block b (Array.getElem?_eq_some_iff.1 e).1 hF).trans e⟩
theorem Plain.set {b:Nat} (k:Plain w b) (p:Addr) (u:Value):Plain (w.setCell p u) b:=by
 obtain ⟨cur,t,e⟩:=k
 by_cases hb:b=p.block
 ·subst hb
  by_cases hs:p.spot.isSome=true
  ·exact ⟨cur,t,by simp [World.setCell,Array.getElem?_modify,e,hs]⟩
  ·exact ⟨cur.setIfInBounds p.off u,t,by simp [World.setCell,Array.getElem?_modify,e,hs]⟩
 ·exact ⟨cur,t,(Below.heap_setCell _ _ _ _ hb).trans e⟩
theorem Plain.next {b:Nat} (k:Plain w b) (h:Below w.heap.size w w'):Plain w' b:=by
 obtain ⟨cur,t,e⟩:=k;exact ⟨cur,t,(h.block b (Array.getElem?_eq_some_iff.1 e).1).trans e⟩
theorem Plain.free {b:Nat} (k:Plain w b) (o:Nat):w.frozen? ⟨b,o,none⟩=false:=by
 obtain ⟨cur,t,e⟩:=k;exact frozen_of_row w b o cur t e
end
structure Trk (wr W:World) (b lo hi:Nat) (Fi:List Nat):Prop where
 off:Off (b::Fi) wr W
 out:∀o,(o<lo\/hi<=o)->W.cell? ⟨b,o,none⟩=wr.cell? ⟨b,o,none⟩
 here:Plain W b
 inner:∀q∈Fi,Plain W q
section
variable {wr W W1:World} {b lo hi:Nat} {Fi:List Nat}
theorem Trk.start (h:Plain wr b) (k:∀q∈Fi,Plain wr q):Trk wr wr b lo hi Fi:=⟨Off.refl _ _,fun _ _=>rfl,h,k⟩
theorem Trk.set (h:Trk wr W b lo hi Fi) (j:Nat) (hj:lo+j<hi) (u:Value):Trk wr (W.setCell ⟨b,lo+j,none⟩ u) b lo hi Fi:=
 ⟨h.off.trans (Off.set W (by simp) u),fun o ho=>(World.cell?_setCell_other W ⟨b,lo+j,none⟩ ⟨b,o,none⟩ u (fun e=>by injection e with _ e;omega)).trans (h.out o ho),h.here.set _ _,fun q hq=>(h.inner q hq).set _ _⟩
theorem Trk.next (h:Trk wr W b lo hi Fi) (hb:Below W.heap.size W W1):Trk wr W1 b lo hi Fi:=
 ⟨h.off.trans (Off.ZjC hb),fun o ho=>(hb.cell (p:=⟨b,o,none⟩) h.here.lt).trans (h.out o ho),h.here.next hb,fun q hq=>(h.inner q hq).next hb⟩
theorem Qr.setAt {ys:List Value} (h:Qr W b lo ys) (j:Nat) (hj:j<ys.length) (u:Value):Qr (W.setCell ⟨b,lo+j,none⟩ u) b lo (ys.set j u):=by
 intro i v hv
 by_cases e:i=j
 ·subst e;rw [List.getElem?_set_self hj] at hv;obtain rfl:=Zwf hv;have h0:=h i _ (Zwm hj);exact World.cell?_setCell_same W ⟨b,lo+i,none⟩ _ h0
 ·rw [List.getElem?_set_ne (fun h=>e h.symm)] at hv;rw [World.cell?_setCell_other _ _ _ _ (fun e'=>by injection e' with _ e';omega)];exact h i v hv
theorem Qr.next {ys:List Value} (h:Qr W b lo ys) (hb:Below W.heap.size W W1):Qr W1 b lo ys:=fun j u hu=>ZmC hb (h j u hu)
end
theorem ZbF.Zjk {w:World} {A:Option Addr} {n c W:Nat} {ds es:List D} {x:D} {F:List Nat} (h:ZbF w (.slice A n c) (ds++x::es) F) (hW:∀d∈ds++x::es,wd d=W) (hW0:0<W) (hn:F.Nodup):
  ∃b off ys Fi,A=some ⟨b,off,none⟩/\b∈F/\b∉Fi/\Fi.Nodup/\(∀q∈Fi,q∈F)/\Rep w x ys Fi/\ys.length=W/\Qr w b (off+ds.length*W) ys/\
   ∀(w':World) (x':D) (ys':List Value),ys'.length=W->Rep w' x' ys' Fi->Qr w' b (off+ds.length*W) ys'->Trk w w' b (off+ds.length*W) (off+ds.length*W+W) Fi->
    ZbF w' (.slice A n c) (ds++x'::es) F:=by
 have h':=h;unfold ZbF at h';unfold Rep at h';obtain ⟨A',c',e1,e2,e3,e4⟩:=h'
 have ea:A=A'/\n=(ds++x::es).length/\c=c':=by
  injection e1 with e1 _;injection e1 with a1 a2 a3;exact ⟨a1,a2,a3⟩
 obtain ⟨rfl,rfl,rfl⟩:=ea;rcases e4 with ⟨e4,_⟩| ⟨b,off,xs,Fs,rfl,hb,rfl,hc,hr⟩
 ·simp at e4
 obtain ⟨c1,c2,F1,F2,rfl,rfl,r1,r2⟩:=WI.split hr;simp only [WI] at r2;obtain ⟨c3,c4,F3,F4,rfl,rfl,r3,r4⟩:=r2;have hnd:=List.nodup_cons.1 hn;have l1:c1.length=ds.length*W:=by rw [r1.len,Zbl (W:=W) _ (fun d hd=>hW d (by simp [hd]))]
 have l3:c3.length=W:=by rw [r3.len];exact hW x (by simp)
 have hn2:=List.nodup_append.1 hnd.2;have hn3:=List.nodup_append.1 hn2.2.1;refine ⟨b,off,c3,F3,rfl,by simp,fun hm=>hnd.1 (by simp [hm]),hn3.1,fun q hq=>by simp [hq],r3,l3, ?_, ?_⟩
 ·intro j u hu;have:=hc (ds.length*W+j) u (by rw [List.getElem?_append_right (by omega),List.getElem?_append_left (by rw [l1];have:=(List.getElem?_eq_some_iff.1 hu).1;omega),l1,show ds.length*W+j-ds.length*W=j from by omega];exact hu)
  rwa [Nat.add_assoc]
 ·intro w' x' ys' hl hx' hys ht
  have keep1:ZhZ w w' F1:=⟨ht.off.size,fun q hq=>ht.off.block q (r1.lt q hq) (fun hm=>by
   rcases List.mem_cons.1 hm with rfl| hm
   ·exact hnd.1 (by simp [hq])
   ·exact hn2.2.2 q hq q (by simp [hm]) rfl)⟩
  have keep4:ZhZ w w' F4:=⟨ht.off.size,fun q hq=>ht.off.block q (r4.lt q hq) (fun hm=>by
   rcases List.mem_cons.1 hm with rfl| hm
   ·exact hnd.1 (by simp [hq])
   ·exact hn3.2.2 q hm q hq rfl)⟩
  unfold ZbF;unfold Rep;refine ⟨some ⟨b,off,none⟩,c,by simp,by simpa using e2,e3,.inr ⟨b,off,c1++(ys'++c4),F1++(F3++F4),rfl,Nat.lt_of_lt_of_le hb ht.off.size,rfl, ?_, ?_⟩⟩
  ·intro j u hu
   by_cases hj1:j<ds.length*W
   ·rw [List.getElem?_append_left (by omega)] at hu;rw [ht.out (off+j) (by left;omega)];exact hc j u (by rw [List.getElem?_append_left (by omega)];exact hu)
   ·by_cases hj2:j<ds.length*W+W
    ·rw [List.getElem?_append_right (by omega),List.getElem?_append_left (by omega),l1] at hu;have:=hys (j-ds.length*W) u hu
     rwa [show off+ds.length*W+(j-ds.length*W)=off+j from by omega] at this
    ·rw [List.getElem?_append_right (by omega),List.getElem?_append_right (by omega),l1,hl] at hu;rw [ht.out (off+j) (by right;omega)];exact hc j u (by rw [List.getElem?_append_right (by omega),List.getElem?_append_right (by omega),l1,l3];exact hu)
  ·exact (r1.keep keep1).append (by simp only [WI];exact ⟨ys',c4,F3,F4,rfl,rfl,hx',r4.keep keep4⟩)
theorem Zeo {w:World} {a b:Int} (h:I64 b) (e:a=b):Rep w (.int a) [.int .i64 b] []:=by subst e;exact ZrU h
theorem ZlZ {w:World} {k k':Int} (h:k'<=1099511627776) (e:k=k'):Rep w (.str (ZdF k)) [.string (ZdF k')] []:=by subst e;exact ZrT (Zkz h)
theorem ZeF {k:Int} (h0:0<=k) (h1:k<=1099511627776):I64 k:=by unfold I64;omega
theorem Trk.Zow {wr W:World} {b lo hi:Nat} {Fi F:List Nat} (h:Trk wr W b lo hi Fi) (hp:∀q∈F,Plain wr q):∀q∈F,Plain W q:=by
 intro q hq
 by_cases e:q=b
 ·subst e;exact h.here
 by_cases hm:q∈Fi
 ·exact h.inner q hm
 ·exact h.off.plain (hp q hq) (fun hm'=>by rcases List.mem_cons.1 hm' with rfl| hm';exact e rfl;exact hm hm')
theorem int_eq {a b:Int} (h:a=b):Value.int .i64 a= .int .i64 b:=by rw [h]
end Go.Proofs.YtbkllghhcphkaaaGreatDoor
