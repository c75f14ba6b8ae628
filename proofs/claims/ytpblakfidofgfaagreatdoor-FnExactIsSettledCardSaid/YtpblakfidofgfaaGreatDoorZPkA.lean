import Derived.Test.YtpblakfidofgfaaGreatDoorRows
import Derived.WalkKit
import Derived.WalkSpells
import Derived.WalkLawsBesides
import Derived.Lib.Hide
import Derived.Laws.BytesString
import Derived.Deep.AppendSrc
set_option linter.unusedSimpArgs false
set_option linter.unusedVariables false
namespace Go.Proofs.YtpblakfidofgfaaGreatDoor
theorem Zz8 {α β:Type _} {a:α} {f:α->Option β}:(some a).bind f=f a:=rfl
theorem Zz9 {α:Type _} {a b:α} (h:some a=some b):a=b:=Option.some.inj h
theorem ZAa {a b:Prop} (x:a) (y:b):a/\b:=⟨x,y⟩
theorem ZAb {α:Type _} {a b:α}:(some a=some b)=(a=b):=Option.some.injEq a b
theorem ZAc {α β:Type _} {a c:α} {b d:β}:((a,b)=(c,d))=(a=c/\b=d):=Prod.mk.injEq a b c d
theorem ZAd {a b:Bool}:((a&&b)=true)=(a=true/\b=true):=Bool.and_eq_true a b
theorem ZAe (n:Nat):n<=n:=Nat.le_refl n
theorem ZAf:(false=true)=False:=Bool.false_eq_true
theorem ZAg {α:Type _} {l:List α} {i:Nat} (h:i<l.length):l[i]?=some l[i]:=List.getElem?_eq_getElem h
end Go.Proofs.YtpblakfidofgfaaGreatDoor
namespace Go.Proofs.YtpblakfidofgfaaGreatDoor.Am
inductive L where
 | int (k:IntKind) (n:Int)
 | bool (b:Bool)
 | str (s:ByteArray)
 | sl (es:List (List L))
 | void
def glb:List (Nat×List L):=[(5,[.int .u64 1,.int .u64 10,.int .u64 100,.int .u64 1000,.int .u64 10000,.int .u64 100000,.int .u64 1000000,.int .u64 10000000,.int .u64 100000000,.int .u64 1000000000,.int .u64 10000000000,.int .u64 100000000000,.int .u64 1000000000000,.int .u64 10000000000000,.int .u64 100000000000000,.int .u64 1000000000000000,.int .u64 10000000000000000,.int .u64 100000000000000000,.int .u64 1000000000000000000,.int .u64 10000000000000000000])]
def isI (v:Value):Prop:=∃m,v= .int .i64 m
def isF (v:Value):Prop:=∃t x,v= .iface t x
def Zq9:List (Nat×(Value->Prop)):=[(4,isF),(3,isF),(0,isI)]
open Go.RowKit
def InK (k:IntKind) (n:Int):Prop:=k.wrap n=n
def Fit (s:ByteArray):Prop:=s.size<=9223372036854775807
def At (w:World) (b off:Nat) (xs:List Value):Prop:=∀j u,xs[j]? =some u->w.cell? ⟨b,off+j,none⟩=some u
mutual
def Rp (w:World):L->Value->List Nat->Prop
 | .int k n,v,F=>v= .int k n/\F=[]/\InK k n
 | .bool b,v,F=>v= .bool b/\F=[]
 | .str s,v,F=>v= .string s/\F=[]/\Fit s
 | .void,v,F=>(∃A n c,v= .slice A n c)/\F=[]
 | .sl es,v,F=>∃A c,v= .slice A es.length c/\es.length<=c/\c<=9223372036854775807/\
   ((es=[]/\F=[])\/∃b off xs Fs,A=some ⟨b,off,none⟩/\b<w.heap.size/\F=b::Fs/\At w b off xs/\RpE w es xs Fs)
def RpL (w:World):List L->List Value->List Nat->Prop
 | [],vs,F=>vs=[]/\F=[]
 | x::xs,vs,F=>∃v vs' F1 F2,vs=v::vs'/\F=F1++F2/\Rp w x v F1/\RpL w xs vs' F2
def RpE (w:World):List (List L)->List Value->List Nat->Prop
 | [],vs,F=>vs=[]/\F=[]
 | e::es,vs,F=>∃v1 v2 F1 F2,vs=v1++v2/\F=F1++F2/\RpL w e v1 F1/\RpE w es v2 F2
end
mutual
def Ow (N:Nat->Prop) (w:World):L->Value->List Nat->Prop
 | .int k n,v,F=>v= .int k n/\F=[]/\InK k n
 | .bool b,v,F=>v= .bool b/\F=[]
 | .str s,v,F=>v= .string s/\F=[]/\Fit s
 | .void,v,F=>(∃A n c,v= .slice A n c)/\F=[]
 | .sl es,v,F=>∃A c,v= .slice A es.length c/\c<=9223372036854775807/\
   ((es=[]/\A=none/\c=0/\F=[])\/∃b t cur Fs W,A=some ⟨b,0,none⟩/\N b/\w.heap[b]? =some (.cells cur t (0,0))/\es.length<=c/\cur.size=c*W/\(∀e∈es,e.length=W)/\(es=[]->c=0)/\
     F=b::Fs/\OwE N w es (cur.toList.take (es.length*W)) Fs)
def OwL (N:Nat->Prop) (w:World):List L->List Value->List Nat->Prop
 | [],vs,F=>vs=[]/\F=[]
 | x::xs,vs,F=>∃v vs' F1 F2,vs=v::vs'/\F=F1++F2/\Ow N w x v F1/\OwL N w xs vs' F2
def OwE (N:Nat->Prop) (w:World):List (List L)->List Value->List Nat->Prop
 | [],vs,F=>vs=[]/\F=[]
 | e::es,vs,F=>∃v1 v2 F1 F2,vs=v1++v2/\F=F1++F2/\OwL N w e v1 F1/\OwE N w es v2 F2
end
def width:List (List L)->Nat
 | []=>0
 | e::es=>e.length+width es
theorem ZN {W:Nat}:∀{es:List (List L)},(∀e∈es,e.length=W)->width es=es.length*W
 | [],_=>by simp [width]
 | e::es,h=>by
  simp only [width,List.length_cons,ZN (es:=es) (fun x hx=>h x (List.mem_cons_of_mem _ hx)),h e (by simp)];rw [Nat.add_mul];omega
theorem RpL.len {w:World}:∀{xs:List L} {vs:List Value} {F:List Nat},RpL w xs vs F->vs.length=xs.length
 | [],_,_,h=>by simp only [RpL] at h;simp [h.1]
 | _::_,_,_,h=>by
  simp only [RpL] at h;obtain ⟨v,vs',F1,F2,rfl,rfl,_,h2⟩:=h;simp [RpL.len h2]
theorem RpE.len {w:World}:∀{es:List (List L)} {vs:List Value} {F:List Nat},RpE w es vs F->vs.length=width es
 | [],_,_,h=>by simp only [RpE] at h;simp [h.1,width]
 | _::_,_,_,h=>by
  simp only [RpE] at h;obtain ⟨v1,v2,F1,F2,rfl,rfl,h1,h2⟩:=h;simp [RpE.len h2,h1.len,width]
def Sm (w w':World) (F:List Nat):Prop:=w.heap.size<=w'.heap.size/\∀b∈F,w'.heap[b]? =w.heap[b]?
theorem Sm.left {w w':World} {F G:List Nat} (h:Sm w w' (F++G)):Sm w w' F:=⟨h.1,fun b hb=>h.2 b (List.mem_append_left _ hb)⟩
theorem Sm.right {w w':World} {F G:List Nat} (h:Sm w w' (F++G)):Sm w w' G:=⟨h.1,fun b hb=>h.2 b (List.mem_append_right _ hb)⟩
theorem Sm.tail {w w':World} {b:Nat} {G:List Nat} (h:Sm w w' (b::G)):Sm w w' G:=⟨h.1,fun x hx=>h.2 x (List.mem_cons_of_mem _ hx)⟩
theorem At.keep {w w':World} {b off:Nat} {xs:List Value} (h:At w b off xs) (hb:w'.heap[b]? =w.heap[b]?):At w' b off xs:=
 fun j u hu=>(World.cell?_of_block (w:=w) (w':=w') (a:=⟨b,off+j,none⟩) hb).trans (h j u hu)
mutual
theorem Rp.keep {w w':World}:∀{x:L} {v:Value} {F:List Nat},Rp w x v F->Sm w w' F->Rp w' x v F
 | .int _ _,_,_,h,_=>by simp only [Rp] at h ⊢;exact h
 | .bool _,_,_,h,_=>by simp only [Rp] at h ⊢;exact h
 | .str _,_,_,h,_=>by simp only [Rp] at h ⊢;exact h
 | .void,_,_,h,_=>by simp only [Rp] at h ⊢;exact h
 | .sl _,_,_,h,hs=>by
  simp only [Rp] at h ⊢;obtain ⟨A,c,h1,h2,h3,h4⟩:=h;refine ⟨A,c,h1,h2,h3, ?_⟩;rcases h4 with h4| ⟨b,off,xs,Fs,e1,e2,e3,e4,e5⟩
  ·exact .inl h4
  ·subst e3;exact .inr ⟨b,off,xs,Fs,e1,Nat.lt_of_lt_of_le e2 hs.1,rfl,e4.keep (hs.2 b (by simp)),RpE.keep e5 hs.tail⟩
theorem RpL.keep {w w':World}:∀{xs:List L} {vs:List Value} {F:List Nat},RpL w xs vs F->Sm w w' F->RpL w' xs vs F
 | [],_,_,h,_=>by simp only [RpL] at h ⊢;exact h
 | _::_,_,_,h,hs=>by
  simp only [RpL] at h ⊢;obtain ⟨v,vs',F1,F2,rfl,rfl,h1,h2⟩:=h;exact ⟨v,vs',F1,F2,rfl,rfl,Rp.keep h1 hs.left,RpL.keep h2 hs.right⟩
theorem RpE.keep {w w':World}:∀{es:List (List L)} {vs:List Value} {F:List Nat},RpE w es vs F->Sm w w' F->RpE w' es vs F
 | [],_,_,h,_=>by simp only [RpE] at h ⊢;exact h
 | _::_,_,_,h,hs=>by
  simp only [RpE] at h ⊢;obtain ⟨v1,v2,F1,F2,rfl,rfl,h1,h2⟩:=h;exact ⟨v1,v2,F1,F2,rfl,rfl,RpL.keep h1 hs.left,RpE.keep h2 hs.right⟩
end
mutual
theorem Ow.keep {N:Nat->Prop} {w w':World}:∀{x:L} {v:Value} {F:List Nat},Ow N w x v F->Sm w w' F->Ow N w' x v F
 | .int _ _,_,_,h,_=>by simp only [Ow] at h ⊢;exact h
 | .bool _,_,_,h,_=>by simp only [Ow] at h ⊢;exact h
 | .str _,_,_,h,_=>by simp only [Ow] at h ⊢;exact h
 | .void,_,_,h,_=>by simp only [Ow] at h ⊢;exact h
 | .sl _,_,_,h,hs=>by
  simp only [Ow] at h ⊢;obtain ⟨A,c,h1,h2,h4⟩:=h;refine ⟨A,c,h1,h2, ?_⟩;rcases h4 with h4| ⟨b,t,cur,Fs,W,e1,e2,e3,e4,e5,e6,e7,e8,e9⟩
  ·exact .inl h4
  ·subst e8;exact .inr ⟨b,t,cur,Fs,W,e1,e2,(hs.2 b (by simp)).trans e3,e4,e5,e6,e7,rfl,OwE.keep e9 hs.tail⟩
theorem OwL.keep {N:Nat->Prop} {w w':World}:∀{xs:List L} {vs:List Value} {F:List Nat},OwL N w xs vs F->Sm w w' F->OwL N w' xs vs F
 | [],_,_,h,_=>by simp only [OwL] at h ⊢;exact h
 | _::_,_,_,h,hs=>by
  simp only [OwL] at h ⊢;obtain ⟨v,vs',F1,F2,rfl,rfl,h1,h2⟩:=h;exact ⟨v,vs',F1,F2,rfl,rfl,Ow.keep h1 hs.left,OwL.keep h2 hs.right⟩
theorem OwE.keep {N:Nat->Prop} {w w':World}:∀{es:List (List L)} {vs:List Value} {F:List Nat},OwE N w es vs F->Sm w w' F->OwE N w' es vs F
 | [],_,_,h,_=>by simp only [OwE] at h ⊢;exact h
 | _::_,_,_,h,hs=>by
  simp only [OwE] at h ⊢;obtain ⟨v1,v2,F1,F2,rfl,rfl,h1,h2⟩:=h;exact ⟨v1,v2,F1,F2,rfl,rfl,OwL.keep h1 hs.left,OwE.keep h2 hs.right⟩
end
mutual
theorem Ow.mono {N M:Nat->Prop} {w:World} (hm:∀b,N b->M b):∀{x:L} {v:Value} {F:List Nat},Ow N w x v F->Ow M w x v F
 | .int _ _,_,_,h=>by simp only [Ow] at h ⊢;exact h
 | .bool _,_,_,h=>by simp only [Ow] at h ⊢;exact h
 | .str _,_,_,h=>by simp only [Ow] at h ⊢;exact h
 | .void,_,_,h=>by simp only [Ow] at h ⊢;exact h
 | .sl _,_,_,h=>by
  simp only [Ow] at h ⊢;obtain ⟨A,c,h1,h2,h4⟩:=h;refine ⟨A,c,h1,h2, ?_⟩;rcases h4 with h4| ⟨b,t,cur,Fs,W,e1,e2,e3,e4,e5,e6,e7,e8,e9⟩
  ·exact .inl h4
  ·exact .inr ⟨b,t,cur,Fs,W,e1,hm _ e2,e3,e4,e5,e6,e7,e8,OwE.mono hm e9⟩
theorem OwL.mono {N M:Nat->Prop} {w:World} (hm:∀b,N b->M b):∀{xs:List L} {vs:List Value} {F:List Nat},OwL N w xs vs F->OwL M w xs vs F
 | [],_,_,h=>by simp only [OwL] at h ⊢;exact h
 | _::_,_,_,h=>by
  simp only [OwL] at h ⊢;obtain ⟨v,vs',F1,F2,h0,h00,h1,h2⟩:=h;exact ⟨v,vs',F1,F2,h0,h00,Ow.mono hm h1,OwL.mono hm h2⟩
theorem OwE.mono {N M:Nat->Prop} {w:World} (hm:∀b,N b->M b):∀{es:List (List L)} {vs:List Value} {F:List Nat},OwE N w es vs F->OwE M w es vs F
 | [],_,_,h=>by simp only [OwE] at h ⊢;exact h
 | _::_,_,_,h=>by
  simp only [OwE] at h ⊢;obtain ⟨v1,v2,F1,F2,h0,h00,h1,h2⟩:=h;exact ⟨v1,v2,F1,F2,h0,h00,OwL.mono hm h1,OwE.mono hm h2⟩
end
mutual
theorem Ow.blocks {N:Nat->Prop} {w:World}:∀{x:L} {v:Value} {F:List Nat},Ow N w x v F->∀b∈F,N b/\∃cur t,w.heap[b]? =some (.cells cur t (0,0))
 | .int _ _,_,_,h=>by simp only [Ow] at h;simp [h.2.1]
 | .bool _,_,_,h=>by simp only [Ow] at h;simp [h.2]
 | .str _,_,_,h=>by simp only [Ow] at h;simp [h.2.1]
 | .void,_,_,h=>by simp only [Ow] at h;simp [h.2]
 | .sl _,_,_,h=>by
  simp only [Ow] at h;obtain ⟨A,c,h1,h2,h4⟩:=h;rcases h4 with ⟨_,_,_,rfl⟩| ⟨b,t,cur,Fs,W,e1,e2,e3,e4,e5,e6,e7,e8,e9⟩
  ·simp
  ·subst e8;intro x hx;rcases List.mem_cons.1 hx with rfl| hx
   ·exact ⟨e2,cur,t,e3⟩
   ·exact OwE.blocks e9 x hx
theorem OwL.blocks {N:Nat->Prop} {w:World}:∀{xs:List L} {vs:List Value} {F:List Nat},OwL N w xs vs F->∀b∈F,N b/\∃cur t,w.heap[b]? =some (.cells cur t (0,0))
 | [],_,_,h=>by simp only [OwL] at h;simp [h.2]
 | _::_,_,_,h=>by
  simp only [OwL] at h;obtain ⟨v,vs',F1,F2,rfl,rfl,h1,h2⟩:=h;intro x hx;rcases List.mem_append.1 hx with hx| hx
  ·exact Ow.blocks h1 x hx
  ·exact OwL.blocks h2 x hx
theorem OwE.blocks {N:Nat->Prop} {w:World}:∀{es:List (List L)} {vs:List Value} {F:List Nat},OwE N w es vs F->∀b∈F,N b/\∃cur t,w.heap[b]? =some (.cells cur t (0,0))
 | [],_,_,h=>by simp only [OwE] at h;simp [h.2]
 | _::_,_,_,h=>by
  simp only [OwE] at h;obtain ⟨v1,v2,F1,F2,rfl,rfl,h1,h2⟩:=h;intro x hx;rcases List.mem_append.1 hx with hx| hx
  ·exact OwL.blocks h1 x hx
  ·exact OwE.blocks h2 x hx
end
theorem Vk {w:World} {b:Nat} {o:Obj} (h:w.heap[b]? =some o):b<w.heap.size:=(Array.getElem?_eq_some_iff.1 h).1
mutual
theorem Rp.lt {w:World}:∀{x:L} {v:Value} {F:List Nat},Rp w x v F->∀b∈F,b<w.heap.size
 | .int _ _,_,_,h=>by simp only [Rp] at h;simp [h.2.1]
 | .bool _,_,_,h=>by simp only [Rp] at h;simp [h.2]
 | .str _,_,_,h=>by simp only [Rp] at h;simp [h.2.1]
 | .void,_,_,h=>by simp only [Rp] at h;simp [h.2]
 | .sl _,_,_,h=>by
  simp only [Rp] at h;obtain ⟨A,c,h1,h2,h3,h4⟩:=h;rcases h4 with ⟨_,rfl⟩| ⟨b,off,xs,Fs,e1,e2,e3,e4,e5⟩
  ·simp
  ·subst e3;intro x hx;rcases List.mem_cons.1 hx with rfl| hx
   ·exact e2
   ·exact RpE.lt e5 x hx
theorem RpL.lt {w:World}:∀{xs:List L} {vs:List Value} {F:List Nat},RpL w xs vs F->∀b∈F,b<w.heap.size
 | [],_,_,h=>by simp only [RpL] at h;simp [h.2]
 | _::_,_,_,h=>by
  simp only [RpL] at h;obtain ⟨v,vs',F1,F2,rfl,rfl,h1,h2⟩:=h;intro x hx;rcases List.mem_append.1 hx with hx| hx
  ·exact Rp.lt h1 x hx
  ·exact RpL.lt h2 x hx
theorem RpE.lt {w:World}:∀{es:List (List L)} {vs:List Value} {F:List Nat},RpE w es vs F->∀b∈F,b<w.heap.size
 | [],_,_,h=>by simp only [RpE] at h;simp [h.2]
 | _::_,_,_,h=>by
  simp only [RpE] at h;obtain ⟨v1,v2,F1,F2,rfl,rfl,h1,h2⟩:=h;intro x hx;rcases List.mem_append.1 hx with hx| hx
  ·exact RpL.lt h1 x hx
  ·exact RpE.lt h2 x hx
end
theorem OwL.len {N:Nat->Prop} {w:World}:∀{xs:List L} {vs:List Value} {F:List Nat},OwL N w xs vs F->vs.length=xs.length
 | [],_,_,h=>by simp only [OwL] at h;simp [h.1]
 | _::_,_,_,h=>by
  simp only [OwL] at h;obtain ⟨v,vs',F1,F2,rfl,rfl,_,h2⟩:=h;simp [OwL.len h2]
theorem OwE.len {N:Nat->Prop} {w:World}:∀{es:List (List L)} {vs:List Value} {F:List Nat},OwE N w es vs F->vs.length=width es
 | [],_,_,h=>by simp only [OwE] at h;simp [h.1,width]
 | _::_,_,_,h=>by
  simp only [OwE] at h;obtain ⟨v1,v2,F1,F2,rfl,rfl,h1,h2⟩:=h;simp [OwE.len h2,h1.len,width]
theorem Zok {w:World} {b:Nat} {cur:Array Value} {t:TypeId} {fr:Nat×Nat} (h:w.heap[b]? =some (.cells cur t fr)) (n:Nat):At w b 0 (cur.toList.take n):=by
 intro j u hu;rw [Nat.zero_add,cell_of_row w b j cur t fr h];rw [List.getElem?_take] at hu
 split at hu
 ·simpa using hu
 ·cases hu
mutual
theorem Ow.rp {N:Nat->Prop} {w:World}:∀{x:L} {v:Value} {F:List Nat},Ow N w x v F->Rp w x v F
 | .int _ _,_,_,h=>by simp only [Ow,Rp] at h ⊢;exact h
 | .bool _,_,_,h=>by simp only [Ow,Rp] at h ⊢;exact h
 | .str _,_,_,h=>by simp only [Ow,Rp] at h ⊢;exact h
 | .void,_,_,h=>by simp only [Ow,Rp] at h ⊢;exact h
 | .sl _,_,_,h=>by
  simp only [Ow,Rp] at h ⊢;obtain ⟨A,c,h1,h2,h4⟩:=h;rcases h4 with ⟨e1,e2,e3,e4⟩| ⟨b,t,cur,Fs,W,e1,e2,e3,e4,e5,e6,e7,e8,e9⟩
  ·exact ⟨A,c,h1,by simp [e1],h2,.inl ⟨e1,e4⟩⟩
  ·exact ⟨A,c,h1,e4,h2,.inr ⟨b,0,_,Fs,e1,Vk e3,e8,Zok e3 _,OwE.rp e9⟩⟩
theorem OwL.rp {N:Nat->Prop} {w:World}:∀{xs:List L} {vs:List Value} {F:List Nat},OwL N w xs vs F->RpL w xs vs F
 | [],_,_,h=>by simp only [OwL,RpL] at h ⊢;exact h
 | _::_,_,_,h=>by
  simp only [OwL,RpL] at h ⊢;obtain ⟨v,vs',F1,F2,h0,h00,h1,h2⟩:=h;exact ⟨v,vs',F1,F2,h0,h00,Ow.rp h1,OwL.rp h2⟩
theorem OwE.rp {N:Nat->Prop} {w:World}:∀{es:List (List L)} {vs:List Value} {F:List Nat},OwE N w es vs F->RpE w es vs F
 | [],_,_,h=>by simp only [OwE,RpE] at h ⊢;exact h
 | _::_,_,_,h=>by
  simp only [OwE,RpE] at h ⊢;obtain ⟨v1,v2,F1,F2,h0,h00,h1,h2⟩:=h;exact ⟨v1,v2,F1,F2,h0,h00,OwL.rp h1,OwE.rp h2⟩
end
def L.flat:L->Bool
 | .sl _=>false
 | .void=>false
 | _=>true
def Zil (xs:List L):Bool:=xs.all L.flat
def VI (es:List (List L)):Bool:=es.all Zil
theorem Rp.flat {w:World} {N:Nat->Prop} {x:L} {v:Value} {F:List Nat} (h:Rp w x v F) (hf:x.flat=true):F=[]/\Ow N w x v []:=by
 cases x<;>simp only [Rp,Ow,L.flat] at h hf ⊢
 ·simp [h.1,h.2.1,h.2.2]
 ·simp [h.1,h.2]
 ·simp [h.1,h.2.1,h.2.2]
 ·cases hf
 ·cases hf
theorem RpL.flat {w:World} {N:Nat->Prop}:∀{xs:List L} {vs:List Value} {F:List Nat},RpL w xs vs F->Zil xs=true->F=[]/\OwL N w xs vs []
 | [],_,_,h,_=>by simp only [RpL,OwL] at h ⊢;simp [h.1,h.2]
 | x::xs,_,_,h,hf=>by
  simp only [RpL] at h;obtain ⟨v,vs',F1,F2,rfl,rfl,h1,h2⟩:=h;simp only [Zil,List.all_cons,ZAd] at hf;obtain ⟨e1,o1⟩:=h1.flat (N:=N) hf.1;obtain ⟨e2,o2⟩:=RpL.flat (N:=N) h2 hf.2;subst e1 e2;refine ⟨rfl, ?_⟩;simp only [OwL];exact ⟨v,vs',[],[],rfl,rfl,o1,o2⟩
theorem RpE.flat {w:World} {N:Nat->Prop}:∀{es:List (List L)} {vs:List Value} {F:List Nat},RpE w es vs F->VI es=true->F=[]/\OwE N w es vs []
 | [],_,_,h,_=>by simp only [RpE,OwE] at h ⊢;simp [h.1,h.2]
 | x::xs,_,_,h,hf=>by
  simp only [RpE] at h;obtain ⟨v,vs',F1,F2,rfl,rfl,h1,h2⟩:=h;simp only [VI,List.all_cons,ZAd] at hf;obtain ⟨e1,o1⟩:=h1.flat (N:=N) hf.1;obtain ⟨e2,o2⟩:=RpE.flat (N:=N) h2 hf.2;subst e1 e2;refine ⟨rfl, ?_⟩;simp only [OwE];exact ⟨v,vs',[],[],rfl,rfl,o1,o2⟩
theorem RpL.append {w:World}:∀{xs ys:List L} {v1 v2:List Value} {F1 F2:List Nat},RpL w xs v1 F1->RpL w ys v2 F2->RpL w (xs++ys) (v1++v2) (F1++F2)
 | [],_,_,_,_,_,h,k=>by simp only [RpL] at h;obtain ⟨rfl,rfl⟩:=h;simpa using k
 | x::xs,_,_,_,_,_,h,k=>by
  simp only [RpL] at h;obtain ⟨v,vs',G1,G2,rfl,rfl,h1,h2⟩:=h;simp only [List.cons_append,RpL];exact ⟨v,_,G1,_,rfl,by rw [List.append_assoc],h1,RpL.append h2 k⟩
theorem RpE.append {w:World}:∀{xs ys:List (List L)} {v1 v2:List Value} {F1 F2:List Nat},RpE w xs v1 F1->RpE w ys v2 F2->RpE w (xs++ys) (v1++v2) (F1++F2)
 | [],_,_,_,_,_,h,k=>by simp only [RpE] at h;obtain ⟨rfl,rfl⟩:=h;simpa using k
 | x::xs,_,_,_,_,_,h,k=>by
  simp only [RpE] at h;obtain ⟨v,vs',G1,G2,rfl,rfl,h1,h2⟩:=h;simp only [List.cons_append,RpE];exact ⟨v,_,G1,_,by rw [List.append_assoc],by rw [List.append_assoc],h1,RpE.append h2 k⟩
theorem OwL.append {N:Nat->Prop} {w:World}:∀{xs ys:List L} {v1 v2:List Value} {F1 F2:List Nat},OwL N w xs v1 F1->OwL N w ys v2 F2->OwL N w (xs++ys) (v1++v2) (F1++F2)
 | [],_,_,_,_,_,h,k=>by simp only [OwL] at h;obtain ⟨rfl,rfl⟩:=h;simpa using k
 | x::xs,_,_,_,_,_,h,k=>by
  simp only [OwL] at h;obtain ⟨v,vs',G1,G2,rfl,rfl,h1,h2⟩:=h;simp only [List.cons_append,OwL];exact ⟨v,_,G1,_,rfl,by rw [List.append_assoc],h1,OwL.append h2 k⟩
theorem OwE.append {N:Nat->Prop} {w:World}:∀{xs ys:List (List L)} {v1 v2:List Value} {F1 F2:List Nat},OwE N w xs v1 F1->OwE N w ys v2 F2->OwE N w (xs++ys) (v1++v2) (F1++F2)
 | [],_,_,_,_,_,h,k=>by simp only [OwE] at h;obtain ⟨rfl,rfl⟩:=h;simpa using k
 | x::xs,_,_,_,_,_,h,k=>by
  simp only [OwE] at h;obtain ⟨v,vs',G1,G2,rfl,rfl,h1,h2⟩:=h;simp only [List.cons_append,OwE];exact ⟨v,_,G1,_,by rw [List.append_assoc],by rw [List.append_assoc],h1,OwE.append h2 k⟩
theorem RpL.split {w:World}:∀{xs ys:List L} {vs:List Value} {F:List Nat},RpL w (xs++ys) vs F->∃v1 v2 F1 F2,vs=v1++v2/\F=F1++F2/\RpL w xs v1 F1/\RpL w ys v2 F2
 | [],_,vs,F,h=>⟨[],vs,[],F,rfl,rfl,⟨rfl,rfl⟩,h⟩
 | x::xs,ys,vs,F,h=>by
  simp only [List.cons_append,RpL] at h;obtain ⟨v,vs',F1,F2,rfl,rfl,h1,h2⟩:=h;obtain ⟨v3,v4,F3,F4,rfl,rfl,h3,h4⟩:=RpL.split h2;refine ⟨v::v3,v4,F1++F3,F4,rfl,by rw [List.append_assoc], ?_,h4⟩;simp only [RpL];exact ⟨v,v3,F1,F3,rfl,rfl,h1,h3⟩
theorem RpE.split {w:World}:∀{xs ys:List (List L)} {vs:List Value} {F:List Nat},RpE w (xs++ys) vs F->∃v1 v2 F1 F2,vs=v1++v2/\F=F1++F2/\RpE w xs v1 F1/\RpE w ys v2 F2
 | [],_,vs,F,h=>⟨[],vs,[],F,rfl,rfl,⟨rfl,rfl⟩,h⟩
 | x::xs,ys,vs,F,h=>by
  simp only [List.cons_append,RpE] at h;obtain ⟨v,vs',F1,F2,rfl,rfl,h1,h2⟩:=h;obtain ⟨v3,v4,F3,F4,rfl,rfl,h3,h4⟩:=RpE.split h2;refine ⟨v++v3,v4,F1++F3,F4,by rw [List.append_assoc],by rw [List.append_assoc], ?_,h4⟩;simp only [RpE];exact ⟨v,v3,F1,F3,rfl,rfl,h1,h3⟩
theorem OwE.split {N:Nat->Prop} {w:World}:∀{xs ys:List (List L)} {vs:List Value} {F:List Nat},OwE N w (xs++ys) vs F->∃v1 v2 F1 F2,vs=v1++v2/\F=F1++F2/\OwE N w xs v1 F1/\OwE N w ys v2 F2
 | [],_,vs,F,h=>⟨[],vs,[],F,rfl,rfl,⟨rfl,rfl⟩,h⟩
 | x::xs,ys,vs,F,h=>by
  simp only [List.cons_append,OwE] at h;obtain ⟨v,vs',F1,F2,rfl,rfl,h1,h2⟩:=h;obtain ⟨v3,v4,F3,F4,rfl,rfl,h3,h4⟩:=OwE.split h2;refine ⟨v++v3,v4,F1++F3,F4,by rw [List.append_assoc],by rw [List.append_assoc], ?_,h4⟩;simp only [OwE];exact ⟨v,v3,F1,F3,rfl,rfl,h1,h3⟩
theorem At.drop {w:World} {b off:Nat} {xs:List Value} (h:At w b off xs) (k:Nat):At w b (off+k) (xs.drop k):=by
 intro j u hu;rw [List.getElem?_drop] at hu;have:=h _ u hu;rw [Nat.add_assoc];exact this
theorem At.left {w:World} {b off:Nat} {xs ys:List Value} (h:At w b off (xs++ys)):At w b off xs:=fun j u hu=>h j u (by
 rw [List.getElem?_append_left (List.getElem?_eq_some_iff.1 hu).1];exact hu)
theorem At.right {w:World} {b off:Nat} {xs ys:List Value} (h:At w b off (xs++ys)):At w b (off+xs.length) ys:=by
 have:=h.drop xs.length
 rwa [List.drop_left] at this
theorem RpE.get {w:World} {es:List (List L)} {vs:List Value} {F:List Nat} {W i:Nat} {e:List L} {b off:Nat} (h:RpE w es vs F) (ha:At w b off vs) (hW:∀e∈es,e.length=W) (hi:es[i]? =some e):
  ∃ys Fi,RpL w e ys Fi/\At w b (off+i*W) ys/\(∀x∈Fi,x∈F):=by
 obtain ⟨hlt,rfl⟩:=List.getElem?_eq_some_iff.1 hi;have e:es=es.take i++es[i]::es.drop (i+1):=by rw [List.getElem_cons_drop,List.take_append_drop]
 rw [e] at h;obtain ⟨c1,c2,F1,F2,rfl,rfl,h1,h2⟩:=RpE.split h;simp only [RpE] at h2;obtain ⟨c3,c4,F3,F4,rfl,rfl,h3,h4⟩:=h2
 have l1:c1.length=i*W:=by
  rw [h1.len,ZN (W:=W) (fun d hd=>hW d (List.mem_of_mem_take hd)),List.length_take,Nat.min_eq_left (by omega)]
 refine ⟨c3,F3,h3, ?_,fun b hb=>by simp [hb]⟩;have:=ha.right.left
 rwa [l1] at this
theorem OwL.Zvb {N:Nat->Prop} {w:World}:∀{xs:List L} {vs:List Value} {F:List Nat},OwL N w xs vs F->F.Nodup->∀{k:Nat} {x:L},xs[k]? =some x->
  ∃u G,vs[k]? =some u/\Ow N w x u G/\(∀b∈G,b∈F)/\∀(w':World) (x':L),w.heap.size<=w'.heap.size->(∀b∈F,b∉G->w'.heap[b]? =w.heap[b]?)->Ow N w' x' u G->OwL N w' (xs.set k x') vs F
 | [],_,_,_,_,k,x,hk=>by simp at hk
 | y::xs,vs,F,h,nd,k,x,hk=>by
  simp only [OwL] at h;obtain ⟨v,vs',F1,F2,rfl,rfl,h1,h2⟩:=h;obtain ⟨n1,n2,n3⟩:=List.nodup_append.1 nd;cases k with
  | zero=>
   obtain rfl:y=x:=by simpa using hk
   refine ⟨v,F1,rfl,h1,fun b hb=>by simp [hb],fun w' x' hs hk' ho=> ?_⟩;simp only [List.set_cons_zero,OwL];exact ⟨v,vs',F1,F2,rfl,rfl,ho,h2.keep ⟨hs,fun b hb=>hk' b (by simp [hb]) fun hb1=>n3 b hb1 b hb rfl⟩⟩
  | succ k=>
   obtain ⟨u,G,g1,g2,g3,g4⟩:=OwL.Zvb h2 n2 (by simpa using hk);refine ⟨u,G,by simpa using g1,g2,fun b hb=>by simp [g3 b hb],fun w' x' hs hk' ho=> ?_⟩;simp only [List.set_cons_succ,OwL];exact ⟨v,vs',F1,F2,rfl,rfl,h1.keep ⟨hs,fun b hb=>hk' b (by simp [hb]) fun hbG=>n3 b hb b (g3 b hbG) rfl⟩,g4 w' x' hs (fun b hb hbG=>hk' b (by simp [hb]) hbG) ho⟩
theorem OwE.Zvb {N:Nat->Prop} {w:World} {W:Nat}:∀{es:List (List L)} {vs:List Value} {F:List Nat},OwE N w es vs F->F.Nodup->(∀e∈es,e.length=W)->∀{j k:Nat} {el:List L} {x:L},es[j]? =some el->el[k]? =some x->
  ∃u G,vs[j*W+k]? =some u/\Ow N w x u G/\(∀b∈G,b∈F)/\∀(w':World) (x':L),w.heap.size<=w'.heap.size->(∀b∈F,b∉G->w'.heap[b]? =w.heap[b]?)->Ow N w' x' u G->OwE N w' (es.set j (el.set k x')) vs F
 | [],_,_,_,_,_,j,k,el,x,hj,_=>by simp at hj
 | y::es,vs,F,h,nd,hW,j,k,el,x,hj,hk=>by
  simp only [OwE] at h;obtain ⟨v1,v2,F1,F2,rfl,rfl,h1,h2⟩:=h;obtain ⟨n1,n2,n3⟩:=List.nodup_append.1 nd;have l1:v1.length=W:=by rw [h1.len];exact hW y (by simp)
  cases j with
  | zero=>
   obtain rfl:y=el:=by simpa using hj
   obtain ⟨u,G,g1,g2,g3,g4⟩:=OwL.Zvb h1 n1 hk;have hkl:k<v1.length:=(List.getElem?_eq_some_iff.1 g1).1;refine ⟨u,G,by rw [Nat.zero_mul,Nat.zero_add,List.getElem?_append_left hkl];exact g1,g2,fun b hb=>by simp [g3 b hb],fun w' x' hs hk' ho=> ?_⟩;simp only [List.set_cons_zero,OwE];exact ⟨v1,v2,F1,F2,rfl,rfl,g4 w' x' hs (fun b hb hbG=>hk' b (by simp [hb]) hbG) ho,h2.keep ⟨hs,fun b hb=>hk' b (by simp [hb]) fun hbG=>n3 b (g3 b hbG) b hb rfl⟩⟩
  | succ j=>
   obtain ⟨u,G,g1,g2,g3,g4⟩:=OwE.Zvb h2 n2 (fun e he=>hW e (by simp [he])) (show es[j]? =some el by simpa using hj) hk;refine ⟨u,G,by rw [Nat.add_mul,Nat.one_mul,List.getElem?_append_right (by omega)];rw [<-g1];congr 1;omega,g2,fun b hb=>by simp [g3 b hb],fun w' x' hs hk' ho=> ?_⟩;simp only [List.set_cons_succ,OwE];exact ⟨v1,v2,F1,F2,rfl,rfl,h1.keep ⟨hs,fun b hb=>hk' b (by simp [hb]) fun hbG=>n3 b hb b (g3 b hbG) rfl⟩,g4 w' x' hs (fun b hb hbG=>hk' b (by simp [hb]) hbG) ho⟩
theorem OwE.ZpO {N:Nat->Prop} {w w':World}:∀{ys:List (List L)} {vs:List Value},OwE N w ys vs []->(∀y∈ys,y.length=1)->VI ys=true->∀{i:Nat} {x:L} {v:Value},Ow N w' x v []->w.heap.size<=w'.heap.size->OwE N w' (ys.set i [x]) (vs.set i v) []
 | [],vs,h,_,_,i,x,v,_,_=>by simp only [OwE] at h;simp [h.1,OwE]
 | y::ys,vs,h,h1,hf,i,x,v,hx,hs=>by
  simp only [OwE] at h;obtain ⟨v1,v2,F1,F2,rfl,hF,g1,g2⟩:=h;obtain ⟨rfl,rfl⟩:F1=[]/\F2=[]:=by simpa using hF.symm
  have l1:v1.length=1:=by rw [g1.len];exact h1 y (by simp)
  obtain ⟨v0,rfl⟩:∃v0,v1=[v0]:=by
   match v1,l1 with
   | [v0],_=>exact ⟨v0,rfl⟩
  have hf2:VI ys=true:=by simp only [VI,List.all_cons,ZAd] at hf;exact hf.2
  cases i with
  | zero=>
   simp only [List.set_cons_zero,List.singleton_append,OwE];exact ⟨[v],v2,[],[],rfl,rfl,by simp only [OwL];exact ⟨v,[],[],[],rfl,rfl,hx,rfl,rfl⟩,g2.keep ⟨hs,fun b hb=>by simp at hb⟩⟩
  | succ i=>
   simp only [List.set_cons_succ,List.singleton_append,OwE];exact ⟨[v0],_,[],[],rfl,rfl,g1.keep ⟨hs,fun b hb=>by simp at hb⟩,OwE.ZpO g2 (fun y hy=>h1 y (by simp [hy])) hf2 hx hs⟩
theorem Ow.Zmw {N:Nat->Prop} {w:World} {ys:List (List L)} {u:Value} {G:List Nat} (h:Ow N w (.sl ys) u G) (h1:∀y∈ys,y.length=1) (hf:VI ys=true) {i:Nat} (hi:i<ys.length):
  ∃b c cur t,u= .slice (some ⟨b,0,none⟩) ys.length c/\G=[b]/\N b/\w.heap[b]? =some (.cells cur t (0,0))/\i<cur.size/\
   ∀{x:L} {v:Value} {w':World},Ow N w' x v []->w.heap.size<=w'.heap.size->w'.heap[b]? =some (.cells (cur.setIfInBounds i v) t (0,0))->Ow N w' (.sl (ys.set i [x])) u G:=by
 simp only [Ow] at h;obtain ⟨A,c,rfl,hc,⟨h3,_⟩| ⟨b,t,cur,Fs,W,rfl,k2,k3,k4,k5,k6,k7,rfl,k9⟩⟩:=h
 ·subst h3;simp at hi
 ·obtain ⟨rfl,k10⟩:=(k9.rp).flat (N:=N) hf
  have hW:W=1:=by
   rw [<-k6 _ (List.getElem_mem hi)];exact h1 _ (List.getElem_mem hi)
  subst hW;refine ⟨b,c,cur,t,rfl,rfl,k2,k3,by omega,fun {x v w'} hx hs hh=> ?_⟩;simp only [Ow];refine ⟨_,c,by rw [List.length_set],hc,.inr ⟨b,t,_,[],1,rfl,k2,hh,by rw [List.length_set];exact k4,by simp [k5],fun e he=> ?_,fun h0=> ?_,rfl, ?_⟩⟩
  ·rcases List.mem_or_eq_of_mem_set he with h9| rfl
   ·exact k6 e h9
   ·rfl
  ·have:=congrArg List.length h0;simp at this;simp [this] at hi
  ·have:=OwE.ZpO (N:=N) (w:=w) (w':=w') (i:=i) k10 (fun y hy=>h1 y hy) hf hx hs;rw [List.length_set,Array.toList_setIfInBounds];rw [List.take_set];exact this
structure Arr where
 fr:Bool
 es:List (List L)
def Zha:L->Value
 | .int k n=>.int k n
 | .bool b=>.bool b
 | .str s=>.string s
 | .sl _=>undef
 | .void=>undef
inductive DV where
 | one (x:L)
 | agg (xs:List L)
def Zwr:DV->Value
 | .one x=>Zha x
 | .agg xs=>.agg (xs.map Zha).toArray
def okL:L->Prop
 | .int k n=>InK k n
 | .bool _=>True
 | .str s=>Fit s
 | _=>False
def okD:DV->Prop
 | .one x=>okL x
 | .agg xs=>∀x∈xs,okL x
inductive MD where
 | ib (M:List (Int×Bool))
def MD.es:MD->List (DV×DV)
 | .ib M=>M.map fun p=>(.one (.int .i64 p.1),.one (.bool p.2))
structure Env where
 β:Nat->Nat
 ρ:Nat->Value
 φ:Nat->List Nat
 bad:Nat->Prop
inductive CV where
 | l (x:L)
 | nil
 | own (τ n:Nat)
 | box (k off:Nat)
 | adr (ls:List L)
 | elt (τ n i W off:Nat)
 | nst (τ j W off m:Nat)
 | nel (τ j W off i:Nat)
 | vw (τ n lo hi W:Nat)
 | any
 | kept (v0:Value) (x:L)
 | np
 | clo (f:Nat) (ks:List Nat)
 | nf
 | mp (k:Nat)
 | mc (m:MD)
def CV.Zzx:CV->Bool
 | .mc _=>true
 | _=>false
def V7:List CV->Bool
 | [c]=>!c.Zzx
 | _=>true
inductive V where
 | one (c:CV)
 | agg (cs:List CV)
 | tup (ps:List (Bool×List CV))
 | dead
structure St where
 nt:Nat
 tm:List (Nat×V)
 bx:List (Nat×List CV)
 ar:List (Nat×Option Arr)
def Mut (e:Env) (O:St) (b:Nat):Prop:= e.bad b\/(∃k cs,O.bx.lookup k=some cs/\e.β k=b)\/(∃τ A,O.ar.lookup τ=some (some A)/\(e.ρ τ).ownBlock=some b)
def CV.rel (e:Env) (O:St) (w:World):CV->Value->Prop
 | .l x,v=>∃F,Rp w x v F/\∀b∈F,¬Mut e O b
 | .nil,v=>v= .slice none 0 0
 | .own τ n,v=>∃A,O.ar.lookup τ=some A/\(∀B,A=some B->n<=B.es.length/\(B.es.length=n->v=e.ρ τ))/\∃p c,v= .slice p n c/\n<=9223372036854775807
 | .box k off,v=>(∃cs,O.bx.lookup k=some cs)/\v= .pointer (some ⟨e.β k,off,none⟩)
 | .adr ls,v=>∃b off vs F,v= .pointer (some ⟨b,off,none⟩)/\At w b off vs/\RpL w ls vs F/\b<w.heap.size/\¬Mut e O b/\∀x∈F,¬Mut e O x
 | .elt τ n i W off,v=>∃A,O.ar.lookup τ=some A/\(∀B,A=some B->n<=B.es.length/\(B.es.length=n->∃b,(e.ρ τ).ownBlock=some b/\v= .pointer (some ⟨b,i*W+off,none⟩)))/\∃p,v= .pointer p
 | .nst τ j W off m,v=>∃A,O.ar.lookup τ=some A/\(∀B,A=some B->1000000<=τ/\∃b cur t,(e.ρ τ).ownBlock=some b/\w.heap[b]? =some (.cells cur t (0,0))/\cur[j*W+off]? =some v)/\∃q c,v= .slice q m c/\m<=9223372036854775807
 | .nel τ j W off i,v=>∃A,O.ar.lookup τ=some A/\(∀B,A=some B->1000000<=τ/\∃b cur t b' m c,(e.ρ τ).ownBlock=some b/\w.heap[b]? =some (.cells cur t (0,0))/\cur[j*W+off]? =some (.slice (some ⟨b',0,none⟩) m c)/\v= .pointer (some ⟨b',i,none⟩))/\∃q,v= .pointer q
 | .vw τ n lo hi W,v=>∃A,O.ar.lookup τ=some A/\(∀B,A=some B->n<=B.es.length/\(B.es.length=n->lo<=hi/\hi<=n/\∃p c q,e.ρ τ= .slice p n c/\(lo<c\/lo=0->q=p.map (·.add (lo*W)))/\v= .slice q (hi-lo) (c-lo)))/\∃q c,v= .slice q (hi-lo) c/\hi-lo<=9223372036854775807
 | .any,v=>v.cells= #[v]/\v.oneCell'=true
 | .kept v0 x,v=>v=v0/\∃F,Rp w x v F/\∀b∈F,¬Mut e O b
 | .np,v=>v= .pointer none
 | .clo f ks,v=>(∀k∈ks,∃cs,O.bx.lookup k=some cs)/\v= .func (.func f) #[] (ks.map fun k=>Value.pointer (some ⟨e.β k,0,none⟩)).toArray
 | .nf,v=>v= .nilFunc
 | .mp k,v=>(∃cs,O.bx.lookup k=some cs)/\v= .map (some (e.β k))
 | .mc _,_=>False
def Z6 (e:Env) (O:St) (w:World):List CV->List Value->Prop
 | [],vs=>vs=[]
 | c::cs,vs=>∃v vs',vs=v::vs'/\c.rel e O w v/\Z6 e O w cs vs'
def ZkO (e:Env) (O:St) (w:World) (cs:List CV) (o:Option Obj):Prop:=
 (∃cur ty,o=some (.cells cur ty (0,0))/\Z6 e O w cs cur.toList)\/
 (∃md a n,cs=[.mc md]/\o=some (.map a n)/\a.toList.map (fun m=>(m.key,m.val))=md.es.map (fun p=>(Zwr p.1,Zwr p.2))/\∀p∈md.es,okD p.1/\okD p.2)
def ZmD (e:Env) (O:St) (w:World):Bool×List CV->Value->Prop
 | (true,cs),v=>∃vs,v= .agg vs.toArray/\Z6 e O w cs vs
 | (false,cs),v=>∃c,cs=[c]/\c.rel e O w v
def Yo (e:Env) (O:St) (w:World):List (Bool×List CV)->List Value->Prop
 | [],vs=>vs=[]
 | p::ps,vs=>∃v vs',vs=v::vs'/\ZmD e O w p v/\Yo e O w ps vs'
def V.rel (e:Env) (O:St) (w:World):V->Value->Prop
 | .one c,v=>c.rel e O w v
 | .agg cs,v=>∃vs,v= .agg vs.toArray/\Z6 e O w cs vs
 | .tup ps,v=>∃vs,v= .tuple vs.toArray/\Yo e O w ps vs
 | .dead,v=>v=undef
def VJ (N M:Nat->Prop) (w:World) (A:Arr) (v:Value) (F:List Nat):Prop:= ∃p c,v= .slice p A.es.length c/\c<=9223372036854775807/\ ((A.es=[]/\p=none/\c=0/\F=[])\/∃b t cur Fs W,p=some ⟨b,0,none⟩/\N b/\w.heap[b]? =some (.cells cur t (0,0))/\A.es.length<=c/\cur.size=c*W/\(∀e∈A.es,e.length=W)/\(A.es=[]->c=0)/\ ((A.fr=true/\F=b::Fs/\F.Nodup/\OwE N w A.es (cur.toList.take (A.es.length*W)) Fs)\/ (A.fr=false/\F=[b]/\RpE w A.es (cur.toList.take (A.es.length*W)) Fs/\∀x∈Fs,¬M x)))
def Glb (w:World) (G:Nat->Prop):Prop:=(∀b,G b->b<w.heap.size)/\(∀p∈glb,∃cur ty fz F,w.heap[p.1]? =some (.cells cur ty fz)/\G p.1/\RpL w p.2 cur.toList F/\∀b∈F,G b)/\∀p∈Zq9,∃v,w.cell? ⟨p.1,0,none⟩=some v/\G p.1/\p.2 v
theorem Glb.keep {w w':World} {G:Nat->Prop} (h:Glb w G) (hs:w.heap.size<=w'.heap.size) (hb:∀b,G b->w'.heap[b]? =w.heap[b]?):Glb w' G:=
 ⟨fun b g=>Nat.lt_of_lt_of_le (h.1 b g) hs,fun p hp=>by
  obtain ⟨cur,ty,fz,F,h1,h2,h3,h4⟩:=h.2.1 p hp;exact ⟨cur,ty,fz,F,(hb _ h2).trans h1,h2,h3.keep ⟨hs,fun b hbF=>hb b (h4 b hbF)⟩,h4⟩,fun p hp=>by
  obtain ⟨v,h1,h2,h3⟩:=h.2.2 p hp;exact ⟨v,(World.cell?_of_block (a:=⟨p.1,0,none⟩) (hb _ h2)).trans h1,h2,h3⟩⟩
structure Frame (N:Nat->Prop) (w0 w:World):Prop where
 gl:∃G,Glb w0 G/\∀b,G b->¬N b
 os:w.os=w0.os
 tape:w.tape=w0.tape
 output:w.output=w0.output
 size:w0.heap.size<=w.heap.size
 block:∀b,b<w0.heap.size->¬N b->w.heap[b]? =w0.heap[b]?
 new:∀b,w0.heap.size<=b->N b
inductive Key where
 | b (k:Nat)
 | a (τ:Nat)
 deriving DecidableEq
def ZiW:Key->Prop
 | .b _=>False
 | .a τ=>1000000<=τ
def live (O:St):Key->Prop
 | .b k=>∃cs,O.bx.lookup k=some cs
 | .a τ=>∃A,O.ar.lookup τ=some (some A)
def blk (e:Env):Key->List Nat
 | .b k=>[e.β k]
 | .a τ=>e.φ τ
structure Bs where
 w:World
 bad:Nat->Prop
 pin:Nat->Nat
 tch:Nat->Prop
def Bok (N:Nat->Prop) (w0:Bs):Prop:=(∀b,w0.bad b->¬N b)/\∀b,N b->w0.tch b
def tpB (e:Env):Key->Nat->Prop
 | .b k,b=>b=e.β k
 | .a τ,b=>(e.ρ τ).ownBlock=some b\/(1000000<=τ/\b∈e.φ τ)
structure Zz (N:Nat->Prop) (w0:Bs) (e:Env) (O:St) (a:Act) (w:World):Prop where
 nt:a.tmps.size=O.nt
 df:a.defers=[]
 tm:∀t v,O.tm.lookup t=some v->v.rel e O w (a.tmps.getD t undef)
 bx:∀k cs,O.bx.lookup k=some cs->N (e.β k)/\ZkO e O w cs w.heap[e.β k]?
 ar:∀τ A,O.ar.lookup τ=some (some A)->VJ N (Mut e O) w A (e.ρ τ) (e.φ τ)
 sep:∀κ κ',live O κ->live O κ'->κ≠κ'->∀b∈blk e κ,b∉blk e κ'
 fr:Frame w0.tch w0.w w
 bad:(∀b,w0.bad b->e.bad b)/\∀b,e.bad b->b<w.heap.size/\∀κ,live O κ->b∈blk e κ->ZiW κ
 dk:∀κ,live O κ->ZiW κ->∀b∈blk e κ,e.bad b
 pn:∀k cs,O.bx.lookup k=some cs->O.nt<=k->e.β k=w0.pin k
 tn:∀b,w0.tch b->N b
 tp:∀κ b,live O κ->tpB e κ b->w0.tch b
def Sim (N:Nat->Prop) (w0:Bs) (O:St) (a:Act) (w:World):Prop:=∃e,Zz N w0 e O a w
section
variable {e e':Env} {O O':St} {w w':World} {N:Nat->Prop} {w0:Bs} {a:Act}
theorem CV.rel.cells {c:CV} {v:Value} (h:c.rel e O w v):v.cells= #[v]/\v.oneCell'=true:=by
 cases c with
 | l x=>
  obtain ⟨F,h,_⟩:=h;cases x<;>simp only [Rp] at h
  ·rw [h.1];exact ⟨rfl,rfl⟩
  ·rw [h.1];exact ⟨rfl,rfl⟩
  ·rw [h.1];exact ⟨rfl,rfl⟩
  ·obtain ⟨A,c,h,_⟩:=h;rw [h];exact ⟨rfl,rfl⟩
  ·obtain ⟨⟨A,n,c,h⟩,_⟩:=h;rw [h];exact ⟨rfl,rfl⟩
 | nil=>simp only [CV.rel] at h;rw [h];exact ⟨rfl,rfl⟩
 | own τ n=>obtain ⟨_,_,_,p,c,h,_⟩:=h;rw [h];exact ⟨rfl,rfl⟩
 | box k off=>rw [h.2];exact ⟨rfl,rfl⟩
 | adr ls=>obtain ⟨b,off,vs,F,h,_⟩:=h;rw [h];exact ⟨rfl,rfl⟩
 | elt τ n i W off=>obtain ⟨_,_,_,p,h⟩:=h;rw [h];exact ⟨rfl,rfl⟩
 | nst τ j W off m=>obtain ⟨_,_,_,p,c,h,_⟩:=h;rw [h];exact ⟨rfl,rfl⟩
 | nel τ j W off i=>obtain ⟨_,_,_,p,h⟩:=h;rw [h];exact ⟨rfl,rfl⟩
 | vw τ n lo m W=>obtain ⟨_,_,_,p,c,h,_⟩:=h;rw [h];exact ⟨rfl,rfl⟩
 | any=>exact h
 | kept v0 x=>
  obtain ⟨_,F,h,_⟩:=h;cases x<;>simp only [Rp] at h
  ·rw [h.1];exact ⟨rfl,rfl⟩
  ·rw [h.1];exact ⟨rfl,rfl⟩
  ·rw [h.1];exact ⟨rfl,rfl⟩
  ·obtain ⟨A,c,h,_⟩:=h;rw [h];exact ⟨rfl,rfl⟩
  ·obtain ⟨⟨A,n,c,h⟩,_⟩:=h;rw [h];exact ⟨rfl,rfl⟩
 | np=>simp only [CV.rel] at h;rw [h];exact ⟨rfl,rfl⟩
 | clo f ks=>simp only [CV.rel] at h;rw [h.2];exact ⟨rfl,rfl⟩
 | nf=>simp only [CV.rel] at h;rw [h];exact ⟨rfl,rfl⟩
 | mp k=>simp only [CV.rel] at h;rw [h.2];exact ⟨rfl,rfl⟩
 | mc es=>exact h.elim
theorem Z6.len:∀{cs:List CV} {vs:List Value},Z6 e O w cs vs->vs.length=cs.length
 | [],_,h=>by simp only [Z6] at h;simp [h]
 | _::_,_,h=>by
  simp only [Z6] at h;obtain ⟨v,vs',rfl,_,h2⟩:=h;simp [Z6.len h2]
theorem Z6.one:∀{cs:List CV} {vs:List Value},Z6 e O w cs vs->∀u∈vs,u.oneCell'=true
 | [],_,h=>by simp only [Z6] at h;simp [h]
 | _::_,_,h=>by
  simp only [Z6] at h;obtain ⟨v,vs',rfl,h1,h2⟩:=h;intro u hu;rcases List.mem_cons.1 hu with rfl| hu
  ·exact h1.cells.2
  ·exact Z6.one h2 u hu
theorem Z6.get:∀{cs:List CV} {vs:List Value} {i:Nat} {c:CV},Z6 e O w cs vs->cs[i]? =some c->∃v,vs[i]? =some v/\c.rel e O w v
 | c::cs,_,0,_,h,hi=>by
  simp only [Z6] at h;obtain ⟨v,vs',rfl,h1,h2⟩:=h;simp at hi;subst hi;exact ⟨v,rfl,h1⟩
 | c::cs,_,i+1,_,h,hi=>by
  simp only [Z6] at h;obtain ⟨v,vs',rfl,h1,h2⟩:=h;simp at hi
  simpa using Z6.get h2 hi
theorem Z6.drop:∀{cs:List CV} {vs:List Value} (k:Nat),Z6 e O w cs vs->Z6 e O w (cs.drop k) (vs.drop k)
 | _,_,0,h=>h
 | [],_,k+1,h=>by simp only [Z6] at h;subst h;simp [Z6]
 | c::cs,_,k+1,h=>by
  simp only [Z6] at h;obtain ⟨v,vs',rfl,h1,h2⟩:=h;exact Z6.drop k h2
theorem Z6.take:∀{cs:List CV} {vs:List Value} (k:Nat),Z6 e O w cs vs->Z6 e O w (cs.take k) (vs.take k)
 | _,_,0,_=>by simp [Z6]
 | [],_,k+1,h=>by simp only [Z6] at h;subst h;simp [Z6]
 | c::cs,_,k+1,h=>by
  simp only [Z6] at h;obtain ⟨v,vs',rfl,h1,h2⟩:=h;simp only [List.take_succ_cons,Z6];exact ⟨v,_,rfl,h1,Z6.take k h2⟩
theorem Z6.append:∀{cs ds:List CV} {vs us:List Value},Z6 e O w cs vs->Z6 e O w ds us->Z6 e O w (cs++ds) (vs++us)
 | [],_,_,_,h,k=>by simp only [Z6] at h;subst h;simpa using k
 | c::cs,_,_,_,h,k=>by
  simp only [Z6] at h;obtain ⟨v,vs',rfl,h1,h2⟩:=h;simp only [List.cons_append,Z6];exact ⟨v,_,rfl,h1,Z6.append h2 k⟩
theorem We:∀{xs:List L} {vs:List Value} {F:List Nat},RpL w xs vs F->(∀b∈F,¬Mut e O b)->Z6 e O w (xs.map CV.l) vs
 | [],_,_,h,_=>by simp only [RpL] at h;simp [Z6,h.1]
 | x::xs,_,_,h,hF=>by
  simp only [RpL] at h;obtain ⟨v,vs',F1,F2,rfl,rfl,h1,h2⟩:=h;simp only [List.map_cons,Z6];exact ⟨v,vs',rfl,⟨F1,h1,fun b hb=>hF b (by simp [hb])⟩,We h2 fun b hb=>hF b (by simp [hb])⟩
structure Up (e:Env) (O:St) (w:World) (e':Env) (O':St) (w':World):Prop where
 size:w.heap.size<=w'.heap.size
 heap:∀b,b<w.heap.size->¬Mut e O b->w'.heap[b]? =w.heap[b]?
 mt:∀b,b<w.heap.size->Mut e' O' b->Mut e O b
 bx:∀k cs,O.bx.lookup k=some cs->(∃cs',O'.bx.lookup k=some cs')/\e'.β k=e.β k
 ar:∀τ A,O.ar.lookup τ=some A->∃A',O'.ar.lookup τ=some A'/\∀B',A'=some B'->∃B,A=some B/\B.es.length<=B'.es.length/\(B'.es.length=B.es.length->e'.ρ τ=e.ρ τ)
 hp:∀τ,1000000<=τ->(∃B,O.ar.lookup τ=some (some B))->(∃B,O'.ar.lookup τ=some (some B))->e'.ρ τ=e.ρ τ/\∀b,(e.ρ τ).ownBlock=some b->w'.heap[b]? =w.heap[b]?
theorem CV.rel.up (u:Up e O w e' O' w') {c:CV} {v:Value} (h:c.rel e O w v):c.rel e' O' w' v:=by
 cases c with
 | l x=>
  obtain ⟨F,h1,h2⟩:=h;exact ⟨F,h1.keep ⟨u.size,fun b hb=>u.heap b (h1.lt b hb) (h2 b hb)⟩,fun b hb hm=>h2 b hb (u.mt b (h1.lt b hb) hm)⟩
 | nil=>exact h
 | own τ n=>
  obtain ⟨A,h1,h2,h3⟩:=h;obtain ⟨A',k1,k2⟩:=u.ar τ A h1;refine ⟨A',k1,fun B' hB'=> ?_,h3⟩;obtain ⟨B,q1,q2,q3⟩:=k2 B' hB';obtain ⟨r1,r2⟩:=h2 B q1;exact ⟨Nat.le_trans r1 q2,fun hn=>by rw [r2 (by omega),q3 (by omega)]⟩
 | box k off=>
  obtain ⟨⟨cs,h1⟩,h2⟩:=h;obtain ⟨k1,k2⟩:=u.bx k cs h1;exact ⟨k1,by rw [h2,k2]⟩
 | adr ls=>
  obtain ⟨b,off,vs,F,h1,h2,h3,h4,h5,h6⟩:=h;exact ⟨b,off,vs,F,h1,h2.keep (u.heap b h4 h5),h3.keep ⟨u.size,fun x hx=>u.heap x (h3.lt x hx) (h6 x hx)⟩,Nat.lt_of_lt_of_le h4 u.size,fun hm=>h5 (u.mt b h4 hm),fun x hx hm=>h6 x hx (u.mt x (h3.lt x hx) hm)⟩
 | elt τ n i W off=>
  obtain ⟨A,h1,h2,h3⟩:=h;obtain ⟨A',k1,k2⟩:=u.ar τ A h1;refine ⟨A',k1,fun B' hB'=> ?_,h3⟩;obtain ⟨B,q1,q2,q3⟩:=k2 B' hB';obtain ⟨r1,r2⟩:=h2 B q1
  exact ⟨Nat.le_trans r1 q2,fun hn=>by
   have:=r2 (by omega);rw [q3 (by omega)];exact this⟩
 | nst τ j W off m=>
  obtain ⟨A,h1,h2,h3⟩:=h;obtain ⟨A',k1,k2⟩:=u.ar τ A h1;refine ⟨A',k1,fun B' hB'=> ?_,h3⟩;obtain ⟨B,q1,_⟩:=k2 B' hB';subst q1 hB';obtain ⟨r1,b,cur,t,r2,r3,r4⟩:=h2 B rfl;obtain ⟨s1,s2⟩:=u.hp τ r1 ⟨B,h1⟩ ⟨B',k1⟩;exact ⟨r1,b,cur,t,by rw [s1];exact r2,(s2 b r2).trans r3,r4⟩
 | nel τ j W off i=>
  obtain ⟨A,h1,h2,h3⟩:=h;obtain ⟨A',k1,k2⟩:=u.ar τ A h1;refine ⟨A',k1,fun B' hB'=> ?_,h3⟩;obtain ⟨B,q1,_⟩:=k2 B' hB';subst q1 hB';obtain ⟨r1,b,cur,t,b',m,c,r2,r3,r4,r5⟩:=h2 B rfl;obtain ⟨s1,s2⟩:=u.hp τ r1 ⟨B,h1⟩ ⟨B',k1⟩;exact ⟨r1,b,cur,t,b',m,c,by rw [s1];exact r2,(s2 b r2).trans r3,r4,r5⟩
 | vw τ n lo m W=>
  obtain ⟨A,h1,h2,h3⟩:=h;obtain ⟨A',k1,k2⟩:=u.ar τ A h1;refine ⟨A',k1,fun B' hB'=> ?_,h3⟩;obtain ⟨B,q1,q2,q3⟩:=k2 B' hB';obtain ⟨r1,r2⟩:=h2 B q1
  exact ⟨Nat.le_trans r1 q2,fun hn=>by
   have:=r2 (by omega);rw [q3 (by omega)];exact this⟩
 | any=>exact h
 | kept v0 x=>
  obtain ⟨h0,F,h1,h2⟩:=h;exact ⟨h0,F,h1.keep ⟨u.size,fun b hb=>u.heap b (h1.lt b hb) (h2 b hb)⟩,fun b hb hm=>h2 b hb (u.mt b (h1.lt b hb) hm)⟩
 | np=>exact h
 | clo f ks=>
  obtain ⟨h1,h2⟩:=h;refine ⟨fun k hk=>(u.bx k _ (h1 k hk).choose_spec).1, ?_⟩;rw [h2];exact congrArg (fun l:List Value=>Value.func (.func f) #[] l.toArray) (List.map_congr_left fun k hk=>by rw [(u.bx k _ (h1 k hk).choose_spec).2])
 | nf=>exact h
 | mp k=>
  obtain ⟨⟨cs,h1⟩,h2⟩:=h;obtain ⟨k1,k2⟩:=u.bx k cs h1;exact ⟨k1,by rw [h2,k2]⟩
 | mc es=>exact h
theorem Z6.up (u:Up e O w e' O' w'):∀{cs:List CV} {vs:List Value},Z6 e O w cs vs->Z6 e' O' w' cs vs
 | [],_,h=>h
 | c::cs,_,h=>by
  simp only [Z6] at h ⊢;obtain ⟨v,vs',h0,h1,h2⟩:=h;exact ⟨v,vs',h0,h1.up u,Z6.up u h2⟩
theorem ZkO.up (u:Up e O w e' O' w') {cs:List CV} {o:Option Obj} (h:ZkO e O w cs o):ZkO e' O' w' cs o:=by
 rcases h with ⟨cur,ty,h1,h2⟩| h
 ·exact .inl ⟨cur,ty,h1,Z6.up u h2⟩
 ·exact .inr h
theorem ZkO.some {cs:List CV} {b:Nat} (h:ZkO e O w cs w.heap[b]?):b<w.heap.size:=by
 rcases h with ⟨cur,ty,h1,_⟩| ⟨es,a,n,_,h1,_⟩<;>exact Vk h1
theorem ZkO.cells {cs:List CV} {o:Option Obj} (h:ZkO e O w cs o) (hn:V7 cs=true):∃cur ty,o=Option.some (.cells cur ty (0,0))/\Z6 e O w cs cur.toList:=by
 rcases h with h| ⟨es,a,n,rfl,_⟩
 ·exact h
 ·cases hn
theorem ZkO.rel {cs:List CV} {o:Option Obj} {cur:Array Value} {ty:TypeId} {fz:Nat×Nat} (h:ZkO e O w cs o) (ho:o=Option.some (.cells cur ty fz)):Z6 e O w cs cur.toList:=by
 rcases h with ⟨c,t,h1,h2⟩| ⟨es,a,n,_,h1,_⟩
 ·rw [ho] at h1;cases h1;exact h2
 ·rw [ho] at h1;cases h1
theorem ZkO.imp {cs cs':List CV} {o:Option Obj} (h:ZkO e O w cs o) (hf:∀vs,Z6 e O w cs vs->Z6 e' O' w' cs' vs) (hm:∀es,cs=[.mc es]->cs'=[.mc es]):ZkO e' O' w' cs' o:=by
 rcases h with ⟨c,t,h1,h2⟩| ⟨es,a,n,h0,h1⟩
 ·exact .inl ⟨c,t,h1,hf _ h2⟩
 ·exact .inr ⟨es,a,n,hm es h0,h1⟩
theorem Zz.bxC (h:Zz N w0 e O a w) {k:Nat} {cs:List CV} (hk:O.bx.lookup k=Option.some cs) (hn:V7 cs=true):N (e.β k)/\∃cur ty,w.heap[e.β k]? =Option.some (.cells cur ty (0,0))/\Z6 e O w cs cur.toList:=
 ⟨(h.bx k cs hk).1,(h.bx k cs hk).2.cells hn⟩
theorem ZmD.up (u:Up e O w e' O' w') {p:Bool×List CV} {v:Value} (h:ZmD e O w p v):ZmD e' O' w' p v:=by
 obtain ⟨b,cs⟩:=p;cases b
 ·obtain ⟨c,h0,h1⟩:=h;exact ⟨c,h0,h1.up u⟩
 ·obtain ⟨vs,h0,h1⟩:=h;exact ⟨vs,h0,h1.up u⟩
theorem Yo.up (u:Up e O w e' O' w'):∀{ps:List (Bool×List CV)} {vs:List Value},Yo e O w ps vs->Yo e' O' w' ps vs
 | [],_,h=>h
 | c::cs,_,h=>by
  simp only [Yo] at h ⊢;obtain ⟨v,vs',h0,h1,h2⟩:=h;exact ⟨v,vs',h0,h1.up u,Yo.up u h2⟩
theorem V.rel.up (u:Up e O w e' O' w') {x:V} {v:Value} (h:x.rel e O w v):x.rel e' O' w' v:=by
 cases x with
 | one c=>exact CV.rel.up u h
 | agg cs=>obtain ⟨vs,h0,h1⟩:=h;exact ⟨vs,h0,h1.up u⟩
 | tup ps=>obtain ⟨vs,h0,h1⟩:=h;exact ⟨vs,h0,h1.up u⟩
 | dead=>exact h
theorem Zrg (e:Env) (O:St) (w:World) (tm:List (Nat×V)) (nt:Nat):Up e O w e { O with tm:=tm,nt:=nt} w:=
 ⟨ZAe _,fun _ _ _=>rfl,fun _ _ h=>h,fun k cs h=>⟨⟨cs,h⟩,rfl⟩,fun τ A h=>⟨A,h,fun B hB=>⟨B,hB,ZAe _,fun _=>rfl⟩⟩,fun τ _ _ _=>⟨rfl,fun _ _=>rfl⟩⟩
theorem lookup_cons {α:Type} (k j:Nat) (v:α) (l:List (Nat×α)):((j,v)::l).lookup k=if k=j then some v else l.lookup k:=by
 by_cases h:k=j
 ·subst h;simp [List.lookup]
 ·have hf:(k==j)=false:=by simp [h]
  simp only [List.lookup,hf,if_neg h]
theorem Zz.put (h:Zz N w0 e O a w) {d:Nat} {x:V} {v:Value} (hd:d<O.nt) (hx:x.rel e O w v):Zz N w0 e { O with tm:=(d,x)::O.tm} (a.put (some d) v) w:=by
 have u:=Zrg e O w ((d,x)::O.tm) O.nt;refine ⟨by simp [Act.put,h.nt],h.df,fun t y ht=> ?_,fun k cs hk=> ?_,fun τ A hA=> ?_,h.sep,h.fr,h.bad,h.dk,h.pn,h.tn,h.tp⟩
 ·rw [lookup_cons] at ht
  by_cases htd:t=d
  ·subst htd;rw [if_pos rfl] at ht;obtain rfl:=Zz9 ht;have:(a.put (some t) v).tmps.getD t undef=v:=by simp [Act.put,h.nt,hd]
   rw [this];exact hx.up u
  ·rw [if_neg htd] at ht
   have:(a.put (some d) v).tmps.getD t undef=a.tmps.getD t undef:=by
    simp only [Act.put,Array.getD_eq_getD_getElem?];rw [Array.getElem?_setIfInBounds_ne (Ne.symm htd)]
   rw [this];exact (h.tm t y ht).up u
 ·obtain ⟨h1,h2⟩:=h.bx k cs hk;exact ⟨h1,h2.up u⟩
 ·exact h.ar τ A hA
theorem Zz.Zrv (h:Zz N w0 e O a w) {d:Nat}:Zz N w0 e { O with tm:=(d,.dead)::O.tm} (a.put (some d) undef) w:=by
 have u:=Zrg e O w ((d,.dead)::O.tm) O.nt;refine ⟨by simp [Act.put,h.nt],h.df,fun t y ht=> ?_,fun k cs hk=> ?_,fun τ A hA=> ?_,h.sep,h.fr,h.bad,h.dk,h.pn,h.tn,h.tp⟩
 ·rw [lookup_cons] at ht
  by_cases htd:t=d
  ·subst htd;rw [if_pos rfl] at ht;obtain rfl:=Zz9 ht;show (a.put (some t) undef).tmps.getD t undef=undef;simp only [Act.put,Array.getD_eq_getD_getElem?,Array.getElem?_setIfInBounds]
   split<;>(try split)<;>simp_all
  ·rw [if_neg htd] at ht
   have:(a.put (some d) undef).tmps.getD t undef=a.tmps.getD t undef:=by
    simp only [Act.put,Array.getD_eq_getD_getElem?];rw [Array.getElem?_setIfInBounds_ne (Ne.symm htd)]
   rw [this];exact (h.tm t y ht).up u
 ·obtain ⟨h1,h2⟩:=h.bx k cs hk;exact ⟨h1,h2.up u⟩
 ·exact h.ar τ A hA
theorem VJ.own {M:Nat->Prop} {A:Arr} {v:Value} {F:List Nat} (h:VJ N M w A v F) {b:Nat} (hb:v.ownBlock=some b):b∈F/\N b/\∃cur t,w.heap[b]? =some (.cells cur t (0,0)):=by
 obtain ⟨p,c,rfl,hc,h| ⟨b',t,cur,Fs,W,rfl,h1,h2,h3,h4,h5,h6,h7⟩⟩:=h
 ·obtain ⟨_,rfl,_⟩:=h;simp [Value.ownBlock] at hb
 ·simp [Value.ownBlock] at hb;subst hb;refine ⟨?_,h1,cur,t,h2⟩;rcases h7 with ⟨_,rfl,_⟩| ⟨_,rfl,_⟩<;>simp
theorem VJ.blocks {M:Nat->Prop} {A:Arr} {v:Value} {F:List Nat} (h:VJ N M w A v F):∀b∈F,N b/\∃cur t,w.heap[b]? =some (.cells cur t (0,0)):=by
 obtain ⟨p,c,rfl,hc,h| ⟨b',t,cur,Fs,W,rfl,h1,h2,h3,h4,h5,h6,h7⟩⟩:=h
 ·obtain ⟨_,_,_,rfl⟩:=h;simp
 ·rcases h7 with ⟨_,rfl,_,h8⟩| ⟨_,rfl,_⟩
  ·intro b hb;rcases List.mem_cons.1 hb with rfl| hb
   ·exact ⟨h1,cur,t,h2⟩
   ·exact h8.blocks b hb
  ·intro b hb;obtain rfl:=List.mem_singleton.1 hb;exact ⟨h1,cur,t,h2⟩
theorem Zz.Zsq (h:Zz N w0 e O a w) {b:Nat} (hm:Mut e O b):e.bad b\/(b<w.heap.size/\N b):=by
 rcases hm with hb| ⟨k,cs,h1,rfl⟩| ⟨τ,A,h1,h2⟩
 ·exact .inl hb
 all_goals right
 ·obtain ⟨k1,k2⟩:=h.bx k cs h1;exact ⟨k2.some,k1⟩
 ·obtain ⟨_,k1,cur,t,k2⟩:=(h.ar τ A h1).own h2;exact ⟨Vk k2,k1⟩
theorem Zz.inner (h:Zz N w0 e O a w) {τ:Nat} {A:Arr} (hA:O.ar.lookup τ=some (some A)) (hd:τ<1000000) {b:Nat} (hb:b∈e.φ τ) (ht:(e.ρ τ).ownBlock≠some b):¬Mut e O b:=by
 rintro (hbad| ⟨k,cs,h1,rfl⟩| ⟨τ',A',h1,h2⟩)
 ·have:1000000<=τ:=(h.bad.2 b hbad).2 (.a τ) ⟨A,hA⟩ hb;omega
 ·exact h.sep (.b k) (.a τ) ⟨cs,h1⟩ ⟨A,hA⟩ (by simp) _ (by simp [blk]) hb
 ·by_cases he:τ=τ'
  ·subst he;exact ht h2
  ·exact h.sep (.a τ) (.a τ') ⟨A,hA⟩ ⟨A',h1⟩ (by simp [he]) b hb ((h.ar τ' A' h1).own h2).1
theorem Zz.elems (h:Zz N w0 e O a w) {τ:Nat} {A:Arr} (hA:O.ar.lookup τ=some (some A)) (hd:τ<1000000):∃p c,e.ρ τ= .slice p A.es.length c/\A.es.length<=c/\c<=9223372036854775807/\
  (A.es=[]\/∃b vs Fs W,p=some ⟨b,0,none⟩/\At w b 0 vs/\(∀x∈A.es,x.length=W)/\RpE w A.es vs Fs/\b∈e.φ τ/\∀x∈Fs,¬Mut e O x):=by
 have hok:=h.ar τ A hA;obtain ⟨p,c,hv,hc,h4| ⟨b',t,cur,Fs,W,rfl,h1,h2,h3,h4,h5,h6,h7⟩⟩:=hok
 ·exact ⟨p,c,hv,by simp [h4.1],hc,.inl h4.1⟩
 ·refine ⟨_,c,hv,h3,hc,.inr ⟨b',cur.toList.take (A.es.length*W),Fs,W,rfl,Zok h2 _,h5, ?_⟩⟩;have hown:(e.ρ τ).ownBlock=some b':=by rw [hv];rfl
  rcases h7 with ⟨g1,g2,g3,g4⟩| ⟨g1,g2,g3,g4⟩
  ·refine ⟨g4.rp,by simp [g2],fun x hx=>h.inner hA hd (by simp [g2,hx]) ?_⟩;rw [hown];intro e';obtain rfl:=Zz9 e';rw [g2] at g3;exact (List.nodup_cons.1 g3).1 hx
  ·exact ⟨g3,by simp [g2],g4⟩
theorem Zz.Yg (h:Zz N w0 e O a w) {κ:Key} (hk:live O κ):∀b∈blk e κ,b<w.heap.size/\N b:=by
 cases κ with
 | b k=>
  obtain ⟨cs,hcs⟩:=hk;obtain ⟨h1,h2⟩:=h.bx k cs hcs;intro b hb;simp only [blk,List.mem_singleton] at hb;subst hb;exact ⟨h2.some,h1⟩
 | a τ=>
  obtain ⟨A,hA⟩:=hk;intro b hb;obtain ⟨h1,cur,t,h2⟩:=(h.ar τ A hA).blocks b hb;exact ⟨Vk h2,h1⟩
theorem Zz.J0 (h:Zz N w0 e O a w) {τ:Nat} {A:Arr} (hA:O.ar.lookup τ=some (some A)):∃p c,e.ρ τ= .slice p A.es.length c/\A.es.length<=c/\c<=9223372036854775807/\
  (A.es=[]\/∃b vs Fs W,p=some ⟨b,0,none⟩/\At w b 0 vs/\(∀x∈A.es,x.length=W)/\RpE w A.es vs Fs/\b∈e.φ τ):=by
 obtain ⟨p,c,hv,hc,h4| ⟨b',t,cur,Fs,W,rfl,h1,h2,h3,h4,h5,h6,h7⟩⟩:=h.ar τ A hA
 ·exact ⟨p,c,hv,by simp [h4.1],hc,.inl h4.1⟩
 ·refine ⟨_,c,hv,h3,hc,.inr ⟨b',cur.toList.take (A.es.length*W),Fs,W,rfl,Zok h2 _,h5, ?_⟩⟩;rcases h7 with ⟨g1,g2,g3,g4⟩| ⟨g1,g2,g3,g4⟩
  ·exact ⟨g4.rp,by simp [g2]⟩
  ·exact ⟨g3,by simp [g2]⟩
theorem Zz.nest (h:Zz N w0 e O a w) {τ:Nat} {A:Arr} (hA:O.ar.lookup τ=some (some A)) (hfr:A.fr=true) {j off:Nat} {el:List L} {x:L} (hel:A.es[j]? =some el) (hx:el[off]? =some x):
  ∃b t cur c Fs u G,e.ρ τ= .slice (some ⟨b,0,none⟩) A.es.length c/\c<=9223372036854775807/\N b/\w.heap[b]? =some (.cells cur t (0,0))/\A.es.length<=c/\cur.size=c*el.length/\(∀y∈A.es,y.length=el.length)/\
   e.φ τ=b::Fs/\(b::Fs).Nodup/\cur[j*el.length+off]? =some u/\Ow N w x u G/\(∀z∈G,z∈Fs)/\
   ∀(w':World) (x':L),w.heap.size<=w'.heap.size->(∀z∈Fs,z∉G->w'.heap[z]? =w.heap[z]?)->Ow N w' x' u G->OwE N w' (A.es.set j (el.set off x')) (cur.toList.take (A.es.length*el.length)) Fs:=by
 obtain ⟨p,c,hv,hc,h4| ⟨b,t,cur,Fs,W,rfl,h1,h2,h3,h4,h5,h6,h7⟩⟩:=h.ar τ A hA
 ·rw [h4.1] at hel;simp at hel
 ·obtain rfl:el.length=W:=h5 el (List.mem_of_getElem? hel);rcases h7 with ⟨_,g2,g3,g4⟩| ⟨g1,_⟩
  ·rw [g2] at g3;obtain ⟨u,G,m1,m2,m3,m4⟩:=g4.Zvb (List.nodup_cons.1 g3).2 h5 hel hx;have hlt:=(List.getElem?_eq_some_iff.1 m1).1;rw [List.length_take] at hlt;rw [List.getElem?_take_of_lt (by omega)] at m1;exact ⟨b,t,cur,c,Fs,u,G,hv,hc,h1,h2,h3,h4,h5,g2,g3,by simpa using m1,m2,m3,m4⟩
  ·rw [hfr] at g1;cases g1
theorem VJ.up {A:Arr} {v:Value} {F:List Nat} (h:VJ N (Mut e O) w A v F) (u:Up e O w e' O' w') (hF:∀b∈F,w'.heap[b]? =w.heap[b]?):VJ N (Mut e' O') w' A v F:=by
 obtain ⟨p,c,hv,hc,h| ⟨b,t,cur,Fs,W,rfl,h1,h2,h3,h4,h5,h6,h7⟩⟩:=h
 ·exact ⟨p,c,hv,hc,.inl h⟩
 ·refine ⟨_,c,hv,hc,.inr ⟨b,t,cur,Fs,W,rfl,h1, ?_,h3,h4,h5,h6, ?_⟩⟩
  ·rcases h7 with ⟨_,rfl,_⟩| ⟨_,rfl,_⟩<;>exact (hF b (by simp)).trans h2
  ·rcases h7 with ⟨g1,rfl,g3,g4⟩| ⟨g1,rfl,g3,g4⟩
   ·exact .inl ⟨g1,rfl,g3,g4.keep ⟨u.size,fun x hx=>hF x (by simp [hx])⟩⟩
   ·exact .inr ⟨g1,rfl,g3.keep ⟨u.size,fun x hx=>u.heap x (g3.lt x hx) (g4 x hx)⟩,fun x hx hm=>g4 x hx (u.mt x (g3.lt x hx) hm)⟩
theorem Zz.Zox {a':Act} (h:Zz N w0 e O a w) (u:Up e O w e' O' w') (K:Key->Prop) (hnt:a'.tmps.size=O'.nt) (hdf:a'.defers=[])
  (htm:∀t v,O'.tm.lookup t=some v->(O.tm.lookup t=some v/\a'.tmps.getD t undef=a.tmps.getD t undef)\/v.rel e' O' w' (a'.tmps.getD t undef))
  (hob:∀k cs,O'.bx.lookup k=some cs->¬K (.b k)->O.bx.lookup k=some cs/\w'.heap[e.β k]? =w.heap[e.β k]?)
  (hoa:∀τ A,O'.ar.lookup τ=some (some A)->¬K (.a τ)->O.ar.lookup τ=some (some A)/\e'.ρ τ=e.ρ τ/\e'.φ τ=e.φ τ/\∀b∈e.φ τ,w'.heap[b]? =w.heap[b]?)
  (hnb:∀k cs,O'.bx.lookup k=some cs->K (.b k)->N (e'.β k)/\ZkO e' O' w' cs w'.heap[e'.β k]?)
  (hna:∀τ A,O'.ar.lookup τ=some (some A)->K (.a τ)->VJ N (Mut e' O') w' A (e'.ρ τ) (e'.φ τ))
  (hblk:∀κ,live O' κ->K κ->∀b∈blk e' κ,(live O κ/\b∈blk e κ)\/(∃κ1,(¬live O' κ1\/K κ1)/\live O κ1/\b∈blk e κ1/\(ZiW κ1->ZiW κ))\/w.heap.size<=b)
  (hsep:∀κ κ',live O' κ->live O' κ'->κ≠κ'->K κ->K κ'->∀b∈blk e' κ,b∉blk e' κ')
  (hfr:Frame w0.tch w0.w w') (hbd:∀b,e.bad b->e'.bad b) (hbn:∀b,e'.bad b->e.bad b\/(w.heap.size<=b/\b<w'.heap.size/\∀κ,live O' κ->b∈blk e' κ->ZiW κ)) (hdk:∀κ,live O' κ->K κ->ZiW κ->∀b∈blk e' κ,e'.bad b) (hpn:∀k cs,O'.bx.lookup k=some cs->K (.b k)->O'.nt<=k->e'.β k=w0.pin k) (htp:∀κ b,live O' κ->K κ->tpB e' κ b->w0.tch b) (hnn:O'.nt=O.nt:=by rfl):Zz N w0 e' O' a' w':=by
 have hold:∀κ,live O' κ->¬K κ->live O κ/\blk e' κ=blk e κ:=by
  intro κ hl hK;cases κ with
  | b k=>
   obtain ⟨cs,hcs⟩:=hl;obtain ⟨h1,_⟩:=hob k cs hcs hK;exact ⟨⟨cs,h1⟩,by simp [blk,(u.bx k cs h1).2]⟩
  | a τ=>
   obtain ⟨A,hA⟩:=hl;obtain ⟨h1,_,h2,_⟩:=hoa τ A hA hK;exact ⟨⟨A,h1⟩,h2⟩
 have mixed:∀κ κ',live O' κ->live O' κ'->κ≠κ'->K κ->¬K κ'->∀b∈blk e' κ,b∉blk e' κ':=by
  intro κ κ' hl hl' hne hK hK' b hb hb';obtain ⟨g1,g2⟩:=hold κ' hl' hK';rw [g2] at hb';rcases hblk κ hl hK b hb with ⟨k1,k2⟩| ⟨κ1,k1,k2,k3,_⟩| k
  ·exact h.sep κ κ' k1 g1 hne b k2 hb'
  ·exact h.sep κ1 κ' k2 g1 (fun e=>by rcases k1 with k1| k1<;>first | exact k1 (e▸hl')| exact hK' (e▸k1)) b k3 hb'
  ·have:=(h.Yg g1 b hb').1;omega
 refine ⟨hnt,hdf,fun t v ht=> ?_,fun k cs hk=> ?_,fun τ A hA=> ?_,fun κ κ' hl hl' hne=> ?_,hfr,⟨fun b hb=>hbd b (h.bad.1 b hb),fun b hb=> ?_⟩,fun κ hl hd b hb=>by
  by_cases hK:K κ
  ·exact hdk κ hl hK hd b hb
  ·obtain ⟨k1,k2⟩:=hold κ hl hK;rw [k2] at hb;exact hbd b (h.dk κ k1 hd b hb),fun k cs hk hle=>by
  by_cases hK:K (.b k)
  ·exact hpn k cs hk hK hle
  ·obtain ⟨h1,_⟩:=hob k cs hk hK;rw [(u.bx k cs h1).2];exact h.pn k cs h1 (hnn▸hle),h.tn,fun κ b hl hb=>by
  by_cases hK:K κ
  ·exact htp κ b hl hK hb
  ·cases κ with
   | b k=>
    obtain ⟨cs,hcs⟩:=hl;obtain ⟨h1,_⟩:=hob k cs hcs hK;have h2:=(u.bx k cs h1).2;exact h.tp (.b k) b ⟨cs,h1⟩ (by simp only [tpB] at hb ⊢;rw [<-h2];exact hb)
   | a τ=>
    obtain ⟨A,hA⟩:=hl;obtain ⟨h1,h2,h3,_⟩:=hoa τ A hA hK;exact h.tp (.a τ) b ⟨A,h1⟩ (by simp only [tpB,h2,h3] at hb ⊢;exact hb)⟩
 ·rcases htm t v ht with ⟨h1,h2⟩| h1
  ·rw [h2];exact (h.tm t v h1).up u
  ·exact h1
 ·by_cases hK:K (.b k)
  ·exact hnb k cs hk hK
  ·obtain ⟨h1,h2⟩:=hob k cs hk hK;obtain ⟨k1,k2⟩:=h.bx k cs h1;rw [(u.bx k cs h1).2];exact ⟨k1,by rw [h2];exact k2.up u⟩
 ·by_cases hK:K (.a τ)
  ·exact hna τ A hA hK
  ·obtain ⟨h1,h2,h3,h4⟩:=hoa τ A hA hK;rw [h2,h3];exact (h.ar τ A h1).up u h4
 ·by_cases hK:K κ<;>by_cases hK':K κ'
  ·exact hsep κ κ' hl hl' hne hK hK'
  ·exact mixed κ κ' hl hl' hne hK hK'
  ·intro b hb hb';exact mixed κ' κ hl' hl (Ne.symm hne) hK' hK b hb' hb
  ·obtain ⟨g1,g2⟩:=hold κ hl hK;obtain ⟨g3,g4⟩:=hold κ' hl' hK';rw [g2,g4];exact h.sep κ κ' g1 g3 hne
 ·rcases hbn b hb with hb'| ⟨_,h2,h3⟩
  ·obtain ⟨q1,q2⟩:=h.bad.2 b hb';refine ⟨Nat.lt_of_lt_of_le q1 u.size,fun κ hl hm=> ?_⟩
   by_cases hK:K κ
   ·rcases hblk κ hl hK b hm with ⟨k1,k2⟩| ⟨κ1,_,k2,k3,k4⟩| k
    ·exact q2 κ k1 k2
    ·exact k4 (q2 κ1 k2 k3)
    ·omega
   ·obtain ⟨g1,g2⟩:=hold κ hl hK;exact q2 κ g1 (g2▸hm)
  ·exact ⟨h2,h3⟩
theorem Frame.alloc {w0 w:World} (h:Frame N w0 w) (o:Obj):Frame N w0 (w.alloc o):=
 ⟨h.gl,h.os,h.tape,h.output,by simp;have:=h.size;omega,fun b hb hn=>(Below.heap_alloc w o b (by have:=h.size;omega)).trans (h.block b hb hn),h.new⟩
theorem Frame.drew {w0 w:World} (h:Frame N w0 w):Frame N w0 w.drew:=⟨h.gl,h.os,h.tape,h.output,h.size,h.block,h.new⟩
theorem Frame.grown {w0 w w':World} (h:Frame N w0 w) {row:Option Nat} (g:w.grownBy w' row) (hr:∀b,row=some b->N b):Frame N w0 w':=
 ⟨h.gl,g.os.trans h.os,g.tape.trans h.tape,g.output.trans h.output,Nat.le_trans h.size g.size,fun b hb hn=>(g.block b (Nat.lt_of_lt_of_le hb h.size) (fun e=>hn (hr b e.symm))).trans (h.block b hb hn),h.new⟩
theorem Frame.below {w0 w w':World} (h:Frame N w0 w) (g:Below w.heap.size w w'):Frame N w0 w':=
 ⟨h.gl,g.os.trans h.os,g.tape.trans h.tape,g.output.trans h.output,Nat.le_trans h.size g.size,fun b hb hn=>(g.block b (Nat.lt_of_lt_of_le hb h.size)).trans (h.block b hb hn),h.new⟩
theorem Frame.glb {w0 w:World} (h:Frame N w0 w):∃G,Glb w G/\∀b,G b->¬N b:=
 h.gl.elim fun G h1=>⟨G,h1.1.keep h.size fun b g=>h.block b (h1.1.1 b g) (h1.2 b g),h1.2⟩
theorem Z8 (a:Act) (d:Option Nat) (v:Value):(a.put d v).tmps.size=a.tmps.size:=by cases d<;>simp [Act.put]
theorem ZP (a:Act) (d:Option Nat) (v:Value):(a.put d v).defers=a.defers:=by cases d<;>rfl
theorem Zcr (a:Act) (d:Nat) (v:Value) (h:d<a.tmps.size):(a.put (some d) v).tmps.getD d undef=v:=by simp [Act.put,h]
theorem ZfA (a:Act) (d t:Nat) (v:Value) (h:t≠d):(a.put (some d) v).tmps.getD t undef=a.tmps.getD t undef:=by
 simp only [Act.put,Array.getD_eq_getD_getElem?];rw [Array.getElem?_setIfInBounds_ne (Ne.symm h)]
theorem Kp {x:V} {d:Nat} {v:Value} (h:d<a.tmps.size) (hx:x.rel e' O' w' v) (t:Nat) (y:V) (ht:((d,x)::O.tm).lookup t=some y):
  (O.tm.lookup t=some y/\(a.put (some d) v).tmps.getD t undef=a.tmps.getD t undef)\/y.rel e' O' w' ((a.put (some d) v).tmps.getD t undef):=by
 rw [lookup_cons] at ht
 by_cases htd:t=d
 ·subst htd;rw [if_pos rfl] at ht;obtain rfl:=Zz9 ht
  right
  rw [Zcr a t v h];exact hx
 ·rw [if_neg htd] at ht;exact .inl ⟨ht,ZfA a d t v htd⟩
end
theorem wrap_wrap (k:IntKind) (n:Int):k.wrap (k.wrap n)=k.wrap n:=by
 cases k<;>simp only [IntKind.wrap,IntKind.bits,IntKind.signed]<;>simp<;>(try split)<;>(try split)<;>omega
theorem InK.wrap (k:IntKind) (n:Int):InK k (k.wrap n):=wrap_wrap k n
theorem Kd (n:Int):InK .i64 n↔ -9223372036854775808<=n/\n<=9223372036854775807:=by
 constructor
 ·intro h;unfold InK at h;simp only [IntKind.wrap,IntKind.bits,IntKind.signed] at h;simp at h
  split at h<;>omega
 ·exact fun h=>IntWalk.i64_in n h
theorem Zsy (n:Int):InK .u8 n↔0<=n/\n<=255:=by
 constructor
 ·intro h;unfold InK at h;simp only [IntKind.wrap,IntKind.bits,IntKind.signed] at h;simp at h;omega
 ·exact fun h=>IntWalk.u8_in n h
inductive TD where
 | bool
 | int (k:IntKind)
 | str
 | slice (e:Nat)
 | struct (fs:List (Nat×Nat))
 | fn
 | ref
 | other
structure TI where
 td:TD
 size:Nat
 bytes:Nat
 zero:List Value
def Zq7:TypeDesc->TD
 | .bool=>.bool
 | .int k=>.int k
 | .string=>.str
 | .slice e=>.slice e
 | .struct fs=>.struct (fs.toList.map fun f=>(f.offset,f.type))
 | .func _ _ _=>.fn
 | .pointer _=>.ref
 | .map _ _=>.ref
 | _=>.other
def ti (P:Program) (t:Nat):Option TI:=
 match P.info? t,P.underlying t with
 | some i,some d=>i.zero.map fun z=>⟨Zq7 d,i.size,i.bytes,z.cells.toList⟩
 | _,_=>none
def mti (P:Program) (t:Nat):Option (TI×Value):=
 match P.underlying t with
 | some (.map k v)=>match ti P k,P.info? v with
  | some x,some i=>i.zero.map fun z=>(x,z)
  | _,_=>none
 | _=>none
def TD.agg:TD->Option Bool
 | .struct _=>some true
 | .other=>none
 | _=>some false
theorem WU {P:Program} {t:Nat} {i:TI} (h:ti P t=some i):∃j d z,P.info? t=some j/\P.underlying t=some d/\j.zero=some z/\Zq7 d=i.td/\j.size=i.size/\j.bytes=i.bytes/\z.cells.toList=i.zero:=by
 unfold ti at h
 split at h
 ·rename_i j d hj hd;obtain ⟨z,hz,h⟩:=Option.map_eq_some_iff.1 h;subst h;exact ⟨j,d,z,hj,hd,hz,rfl,rfl,rfl,rfl⟩
 ·cases h
theorem ZcJ {P:Program} {t:Nat} {i:TI} {b:Bool} (h:ti P t=some i) (hb:i.td.agg=some b) (w:World):(isAgg t).run P w= .ok b w:=by
 obtain ⟨j,d,z,h1,h2,h3,h4,h5,h6,h7⟩:=WU h;unfold isAgg;rw [Sem.run_bind,run_underlying h2 w];rw [<-h4] at hb;cases d<;>simp [Zq7,TD.agg] at hb<;>subst hb<;>rfl
theorem YC {P:Program} {t:Nat} {i:TI} (h:ti P t=some i) (w:World):(sizeOf t).run P w= .ok i.size w:=by
 obtain ⟨j,d,z,h1,h2,h3,h4,h5,h6,h7⟩:=WU h;simp [sizeOf,typeInfo,h1,h5]
theorem ZjB {P:Program} {t:Nat} {i:TI} (h:ti P t=some i) (w:World):∃z,(zeroValue t).run P w= .ok z w/\z.cells.toList=i.zero:=by
 obtain ⟨j,d,z,h1,h2,h3,h4,h5,h6,h7⟩:=WU h;exact ⟨z,by simp [zeroValue,typeInfo,h1,h3],h7⟩
def ZlZ:Value->Option CV
 | .int k n=>if k.wrap n=n then some (.l (.int k n)) else none
 | .bool b=>some (.l (.bool b))
 | .string s=>if s.size<=9223372036854775807 then some (.l (.str s)) else none
 | .slice none 0 0=>some .nil
 | .pointer none=>some .np
 | .nilFunc=>some .nf
 | .map none=>some .any
 | _=>none
def ZgR:List Value->Option (List CV)
 | []=>some []
 | v::vs=>match ZlZ v,ZgR vs with
  | some c,some cs=>some (c::cs)
  | _,_=>none
def Zob:Value->Option V
 | .agg cs=>(ZgR cs.toList).map V.agg
 | v=>(ZlZ v).map V.one
def opd (O:St):Operand->Option V
 | .tmp t=>O.tm.lookup t
 | .const v=>Zob v
 | _=>none
section
variable {e:Env} {O:St} {w:World} {N:Nat->Prop} {w0:Bs} {a:Act} {P:Program}
theorem Zjr {v:Value} {c:CV} (h:ZlZ v=some c):c.rel e O w v:=by
 unfold ZlZ at h
 split at h
 ·split at h
  ·obtain rfl:=Zz9 h;rename_i hk;exact ⟨[],by simp [Rp,InK,Fit,hk],by simp⟩
  ·cases h
 ·obtain rfl:=Zz9 h;exact ⟨[],by simp [Rp],by simp⟩
 ·split at h
  ·obtain rfl:=Zz9 h;rename_i hk;exact ⟨[],by simp [Rp,InK,Fit,hk],by simp⟩
  ·cases h
 ·obtain rfl:=Zz9 h;rfl
 ·obtain rfl:=Zz9 h;rfl
 ·obtain rfl:=Zz9 h;rfl
 ·obtain rfl:=Zz9 h;exact ⟨rfl,rfl⟩
 ·cases h
theorem ZcR:∀{vs:List Value} {cs:List CV},ZgR vs=some cs->Z6 e O w cs vs
 | [],_,h=>by simp [ZgR] at h;subst h;simp [Z6]
 | v::vs,_,h=>by
  simp only [ZgR] at h
  split at h
  ·rename_i c cs h1 h2;obtain rfl:=Zz9 h;simp only [Z6];exact ⟨v,vs,rfl,Zjr h1,ZcR h2⟩
  ·cases h
theorem ZoZ {v:Value} {x:V} (h:Zob v=some x):x.rel e O w v:=by
 unfold Zob at h
 split at h
 ·obtain ⟨cs,h1,rfl⟩:=Option.map_eq_some_iff.1 h;exact ⟨_,by simp,ZcR h1⟩
 ·obtain ⟨c,h1,rfl⟩:=Option.map_eq_some_iff.1 h;exact Zjr h1
theorem Zv (h:Zz N w0 e O a w) {o:Operand} {x:V} (hx:opd O o=some x):x.rel e O w (a.eval o):=by
 cases o with
 | tmp t=>exact h.tm t x hx
 | const v=>exact ZoZ hx
 | global g=>simp [opd] at hx
 | func f=>simp [opd] at hx
theorem ZaY {b off:Nat} {vs:List Value} (h:At w b off vs):(loadCells ⟨b,off,none⟩ vs.length).run P w= .ok vs.toArray w:=
 run_loadCells_list (P:=P) w ⟨b,off,none⟩ vs (fun j v hv=>by rw [Addr.add_lit];exact h j v hv)
theorem Um {b off:Nat} {vs:List Value} (h:At w b off vs) {t:Nat} {i:TI} (hi:ti P t=some i) (hl:vs.length=i.size) {g:Bool} (hg:i.td.agg=some g) (h1:g=false->∃v,vs=[v]):
  ∃u,(loadVar t ⟨b,off,none⟩).run P w= .ok u w/\(g=true->u= .agg vs.toArray)/\(g=false->vs=[u]):=by
 cases g with
 | true=>
  refine ⟨.agg vs.toArray, ?_,fun _=>rfl,by simp⟩;have:=ZaY (P:=P) h;simp [loadVar,Sem.run_bind,ZcJ hi hg,YC hi,<-hl,this]
 | false=>
  obtain ⟨v,rfl⟩:=h1 rfl;have:=h 0 v rfl;exact ⟨v,by simp [loadVar,Sem.run_bind,ZcJ hi hg] at this ⊢;simp [this],by simp,by simp⟩
def VH (i:TI) (cs:List CV) (off:Nat):Option V:=
 if V7 cs then match i.td.agg with
 | some true=>if off+i.size<=cs.length then some (.agg ((cs.drop off).take i.size)) else none
 | some false=>if i.size=1 then (cs[off]?).map V.one else none
 | none=>none
 else none
theorem Zke {i:TI} {cs:List CV} {off:Nat} {x:V} (h:VH i cs off=some x):V7 cs=true:=by
 unfold VH at h
 split at h
 ·assumption
 ·cases h
theorem Ze4 {i:TI} {cs:List CV} {off:Nat} {x:V} (h:VH i cs off=some x) {vs:List Value} (hr:Z6 e O w cs vs):
  ∃g us,i.td.agg=some g/\us=(vs.drop off).take i.size/\us.length=i.size/\(g=true->x.rel e O w (.agg us.toArray))/\(g=false->∃u,us=[u]/\x.rel e O w u):=by
 unfold VH at h;rw [if_pos (Zke h)] at h
 split at h
 ·rename_i hg
  split at h
  ·rename_i hle;obtain rfl:=Zz9 h;have hl:=hr.len;refine ⟨true,_,hg,rfl,by rw [List.length_take,List.length_drop];omega,fun _=>⟨_,rfl,(hr.drop off).take i.size⟩,by simp⟩
  ·cases h
 ·rename_i hg
  split at h
  ·rename_i h1;obtain ⟨c,hc,rfl⟩:=Option.map_eq_some_iff.1 h;obtain ⟨v,hv,hcr⟩:=hr.get hc
   have:(vs.drop off).take i.size=[v]:=by
    rw [h1];obtain ⟨hlt,rfl⟩:=List.getElem?_eq_some_iff.1 hv;rw [List.drop_eq_getElem_cons hlt];rfl
   exact ⟨false,_,hg,rfl,by rw [this,h1];rfl,by simp,fun _=>⟨v,this,hcr⟩⟩
  ·cases h
 ·cases h
theorem At.sub {b off:Nat} {vs:List Value} (h:At w b off vs) (k n:Nat):At w b (off+k) ((vs.drop k).take n):=by
 have:=h.drop k;rw [<-List.take_append_drop n (vs.drop k)] at this;exact this.left
theorem ZgK {b off:Nat} {vs:List Value} (h:At w b 0 vs) {t:Nat} {i:TI} (hi:ti P t=some i) {cs:List CV} (hr:Z6 e O w cs vs) {x:V} (hx:VH i cs off=some x):
  ∃u,(loadVar t ⟨b,off,none⟩).run P w= .ok u w/\x.rel e O w u:=by
 obtain ⟨g,us,hg,rfl,hl,h1,h2⟩:=Ze4 hx hr;have ha:=h.sub off i.size;rw [Nat.zero_add] at ha;obtain ⟨u,k1,k2,k3⟩:=Um (P:=P) ha hi hl hg (fun hf=>by obtain ⟨u,hu,_⟩:=h2 hf;exact ⟨u,hu⟩);refine ⟨u,k1, ?_⟩;cases g with
 | true=>rw [k2 rfl];exact h1 rfl
 | false=>
  obtain ⟨u',hu,hur⟩:=h2 rfl;have:=k3 rfl;rw [hu] at this;injection this with this _
  subst this;exact hur
theorem ZsI {b:Nat} {cur:Array Value} {t:Nat} {fr:Nat×Nat} (h:w.heap[b]? =some (.cells cur t fr)):At w b 0 cur.toList:=by
 have:=Zok h cur.toList.length
 rwa [List.take_length] at this
def Zou:CV->CV
 | .kept _ x=>.l x
 | .l x=>.l x
 | .nil=>.nil
 | .own τ n=>.own τ n
 | .box k o=>.box k o
 | .adr ls=>.adr ls
 | .elt τ n i W o=>.elt τ n i W o
 | .nst τ j W o m=>.nst τ j W o m
 | .nel τ j W o i=>.nel τ j W o i
 | .vw τ n lo hi W=>.vw τ n lo hi W
 | .any=>.any
 | .np=>.np
 | .clo f ks=>.clo f ks
 | .nf=>.nf
 | .mp k=>.mp k
 | .mc es=>.mc es
theorem Zpr {c:CV} {v:Value} (h:c.rel e O w v):(Zou c).rel e O w v:=by
 cases c with
 | kept v0 x=>exact h.2
 | _=>exact h
theorem ZlC:∀{cs:List CV} {vs:List Value},Z6 e O w cs vs->Z6 e O w (cs.map Zou) vs
 | [],_,h=>h
 | c::cs,_,h=>by
  simp only [Z6,List.map_cons] at h ⊢;obtain ⟨v,vs',h0,h1,h2⟩:=h;exact ⟨v,vs',h0,Zpr h1,ZlC h2⟩
theorem ZoH (cs:List CV):V7 (cs.map Zou)=V7 cs:=by
 cases cs with
 | nil=>rfl
 | cons c cs=>cases cs<;>cases c<;>rfl
theorem Zqg (h:Zz N w0 e O a w) {k off:Nat} {cs:List CV} (hk:O.bx.lookup k=some cs) {t:Nat} {i:TI} (hi:ti P t=some i) {x:V} (hx:VH i (cs.map Zou) off=some x):
  ∃u,(loadVar t ⟨e.β k,off,none⟩).run P w= .ok u w/\x.rel e O w u:=by
 obtain ⟨_,cur,ty,h1,h2⟩:=h.bxC hk (ZoH cs▸Zke hx);exact ZgK (ZsI h1) hi (ZlC h2) hx
theorem ZrD (h:Zz N w0 e O a w) {k off:Nat} {cs:List CV} (hk:O.bx.lookup k=some cs) {t:Nat} {i:TI} (hi:ti P t=some i) {x:V} (hx:VH i cs off=some x):
  ∃u,(loadVar t ⟨e.β k,off,none⟩).run P w= .ok u w/\x.rel e O w u:=by
 obtain ⟨_,cur,ty,h1,h2⟩:=h.bxC hk (Zke hx);exact ZgK (ZsI h1) hi h2 hx
theorem ZrE {b off:Nat} {vs:List Value} (ha:At w b off vs) {ls:List L} {F:List Nat} (hr:RpL w ls vs F) (hF:∀x∈F,¬Mut e O x) {t:Nat} {i:TI} (hi:ti P t=some i) {x:V} (hx:VH i (ls.map CV.l) 0=some x):
  ∃u,(loadVar t ⟨b,off,none⟩).run P w= .ok u w/\x.rel e O w u:=by
 obtain ⟨g,us,hg,rfl,hl,h1,h2⟩:=Ze4 hx (We hr hF);have ha:=ha.sub 0 i.size;rw [Nat.add_zero] at ha;obtain ⟨u,k1,k2,k3⟩:=Um (P:=P) ha hi hl hg (fun hf=>by obtain ⟨u,hu,_⟩:=h2 hf;exact ⟨u,hu⟩);refine ⟨u,k1, ?_⟩;cases g with
 | true=>rw [k2 rfl];exact h1 rfl
 | false=>
  obtain ⟨u',hu,hur⟩:=h2 rfl;have:=k3 rfl;rw [hu] at this;injection this with this _
  subst this;exact hur
end
theorem ZpF (x y:ByteArray):(x.toList==y.toList)=decide (x=y):=by
 rw [ByteArray.toList_eq,ByteArray.toList_eq];obtain ⟨⟨x⟩⟩:=x;obtain ⟨⟨y⟩⟩:=y;rw [Bool.eq_iff_iff];simp
def ZmA (x y:ByteArray):Bool:=Op.bytesLess x.toList y.toList
def ZyG (k:IntKind) (x y:Int):Int:=k.wrap ((BitVec.ofInt k.bits x &&& BitVec.ofInt k.bits y).toNat:Int)
def iOr (k:IntKind) (x y:Int):Int:=k.wrap ((BitVec.ofInt k.bits x ||| BitVec.ofInt k.bits y).toNat:Int)
def ZyD (k:IntKind) (x y:Int):Int:=k.wrap ((BitVec.ofInt k.bits x ^^^ BitVec.ofInt k.bits y).toNat:Int)
def Zuw (k:IntKind) (x y:Int):Int:=x.fdiv (2^(min y.toNat k.bits))
def bSh (op:BinOp) (k:IntKind) (a b:Int):Option (L×Prop):=
 match op with
 | .shr=>some (.int k (Zuw k a b),0<=b)
 | _=>none
def bI (op:BinOp) (k:IntKind) (a b:Int):Option (L×Prop):=
 match op with
 | .add=>some (.int k (k.wrap (a+b)),True)
 | .sub=>some (.int k (k.wrap (a-b)),True)
 | .mul=>some (.int k (k.wrap (a*b)),True)
 | .quo=>some (.int k (k.wrap (a.tdiv b)),b≠0)
 | .rem=>some (.int k (k.wrap (a.tmod b)),b≠0)
 | .eql=>some (.bool (decide (a=b)),True)
 | .neq=>some (.bool (!decide (a=b)),True)
 | .lss=>some (.bool (decide (a<b)),True)
 | .leq=>some (.bool (decide (a<=b)),True)
 | .gtr=>some (.bool (decide (b<a)),True)
 | .geq=>some (.bool (decide (b<=a)),True)
 | .and=>some (.int k (ZyG k a b),True)
 | .or=>some (.int k (iOr k a b),True)
 | .xor=>some (.int k (ZyD k a b),True)
 | .shr=>some (.int k (Zuw k a b),0<=b)
 | _=>none
def bS (op:BinOp) (a b:ByteArray):Option (L×Prop):=
 match op with
 | .add=>some (.str (a++b),a.size+b.size<=9223372036854775807)
 | .eql=>some (.bool (decide (a=b)),True)
 | .neq=>some (.bool (!decide (a=b)),True)
 | .lss=>some (.bool (ZmA a b),True)
 | .leq=>some (.bool (ZmA a b||decide (a=b)),True)
 | .gtr=>some (.bool (!(ZmA a b||decide (a=b))),True)
 | .geq=>some (.bool (!ZmA a b),True)
 | _=>none
def eqC:TD->CV->CV->Option Bool
 | .int _,.l (.int k a),.l (.int j b)=>if k=j then some (decide (a=b)) else none
 | .bool,.l (.bool a),.l (.bool b)=>some (a==b)
 | .str,.l (.str a),.l (.str b)=>some (decide (a=b))
 | _,_,_=>none
def ZtY:List TD->List CV->List CV->Option Bool
 | [],[],[]=>some true
 | t::ts,c::cs,d::ds=>match eqC t c d,ZtY ts cs ds with
  | some x,some y=>some (x&&y)
  | _,_=>none
 | _,_,_=>none
def Zad (P:Program):Nat->List Field->Option (List TD)
 | _,[]=>some []
 | n,f::fs=>if f.name != "_"&&f.offset==n then match ti P f.type,Zad P (n+1) fs with
   | some i,some r=>some (i.td::r)
   | _,_=>none
  else none
def Zwn (P:Program) (t:Nat):Option (List TD):=
 match P.underlying t with
 | some (.struct fs)=>if !P.stoodInHeld t&&!P.eqGuardType P.depth t then Zad P 0 fs.toList else none
 | _=>none
def num (O:St) (o:Operand):Option (IntKind×Int):=
 match opd O o with
 | some (.one (.l (.int k n)))=>some (k,n)
 | _=>none
def ZmZ (P:Program) (fs:List (Nat×Nat)) (cells:List CV):List (Nat×V)->Option (List CV)
 | []=>some cells
 | (i,x)::rest=>match fs[i]? with
  | some (off,t)=>match ti P t,x with
   | some fi,.one c=>if fi.size=1/\off<cells.length then ZmZ P fs (cells.set off c) rest else none
   | some fi,.agg cs=>if fi.size=cs.length/\off+cs.length<=cells.length then ZmZ P fs (cells.take off++cs++cells.drop (off+cs.length)) rest else none
   | _,_=>none
  | none=>none
def parts (O:St):List (Nat×Operand)->Option (List (Nat×V))
 | []=>some []
 | (i,o)::rest=>match opd O o,parts O rest with
  | some v,some vs=>some ((i,v)::vs)
  | _,_=>none
def Zwm:V->Option Int
 | .one (.l (.sl es))=>some es.length
 | .one (.l (.str s))=>some s.size
 | .one (.own _ n)=>some n
 | .one .nil=>some 0
 | .one (.nst _ _ _ _ m)=>some m
 | .one (.vw _ _ lo hi _)=>some ((hi-lo:Nat):Int)
 | _=>none
def Xs (O:St):List Operand->Option (List V)
 | []=>some []
 | o::rest=>match opd O o,Xs O rest with
  | some v,some vs=>some (v::vs)
  | _,_=>none
def Zto:List V->Option (List Int)
 | []=>some []
 | .one (.l (.int .i64 n))::rest=>(Zto rest).map (n:: ·)
 | _=>none
def VG (O:St) (dflt:Int):Option Operand->Option Int
 | none=>some dflt
 | some o=>(num O o).map (·.2)
def ZdA:List (List L)->Option (List Int)
 | []=>some []
 | [.int .u8 n]::r=>(ZdA r).map (n:: ·)
 | _=>none
def Zne (ns:List Int):ByteArray:=ns.foldl (fun r n=>r.push (UInt8.ofNat n.toNat)) ByteArray.empty
def Zqh:Option Operand->Option Operand->Bool
 | none,some (.const _)=>true
 | _,_=>false
def ZmJ (i:TI) (A:Arr) (el:List L) (τ j W off:Nat):Option V:=
 if el.length=W/\1000000<=τ/\A.fr=true/\i.size=1 then match i.td,el[off]? with
  | .slice _,some (.sl ys)=>some (.one (.nst τ j W off ys.length))
  | _,_=>none
 else none
def Qg (P:Program) (O:St):Op->Option (V×Prop)
 | .move x| .assign x=>(opd O x).map (·,True)
 | .pick c x y=>match opd O c with
  | some (.one (.l (.bool b)))=>match opd O x,opd O y with
   | some (.one (.l (.bool p))),some (.one (.l (.bool q)))=>some (.one (.l (.bool (bif b then p else q))),True)
   | some vx,some vy=>some (if b then vx else vy,True)
   | _,_=>none
  | _=>none
 | .load t p=>match ti P t with
  | some i=>match opd O p with
   | some (.one (.box k off))=>match O.bx.lookup k with
    | some cs=>(VH i (cs.map Zou) off).map (·,True)
    | none=>none
   | some (.one (.adr ls))=>(VH i (ls.map CV.l) 0).map (·,True)
   | some (.one (.elt τ n j W off))=>match O.ar.lookup τ with
    | some (some A)=>match A.es[j]? with
     | some el=>if el.length=W/\τ<1000000 then (VH i (el.map CV.l) off).map (·,A.es.length=n) else (ZmJ i A el τ j W off).map (·,A.es.length=n)
     | none=>none
    | _=>none
   | _=>none
  | none=>none
 | .fieldAddr s p f=>match ti P s with
  | some ⟨.struct fs,_,_,_⟩=>match fs[f]? with
   | some (off,ft)=>match ti P ft with
    | some fi=>if fi.size=0 then none else match opd O p with
     | some (.one (.box k o))=>some (.one (.box k (o+off)),True)
     | some (.one (.adr ls))=>some (.one (.adr (ls.drop off)),True)
     | some (.one (.elt τ n j W o))=>match O.ar.lookup τ with
      | some (some A)=>some (.one (.elt τ n j W (o+off)),A.es.length=n)
      | _=>none
     | _=>none
    | none=>none
   | none=>none
  | _=>none
 | .field s x f=>match ti P s with
  | some ⟨.struct fs,_,_,_⟩=>match fs[f]? with
   | some (off,ft)=>match ti P ft,opd O x with
    | some fi,some (.agg cs)=>(VH fi cs off).map (·,True)
    | _,_=>none
   | none=>none
  | _=>none
 | .indexAddr t x i=>match ti P t,num O i with
  | some ⟨.slice et,_,_,_⟩,some (_,n)=>match ti P et,opd O x with
   | some ei,some (.one (.l (.sl es)))=>match es[n.toNat]? with
    | some el=>some (.one (.adr el),0<=n/\∀x∈es,x.length=ei.size)
    | none=>none
   | some ei,some (.one (.own τ m))=>match O.ar.lookup τ with
    | some (some A)=>some (.one (.elt τ m n.toNat ei.size 0),0<=n/\n.toNat<m/\A.es.length=m)
    | _=>none
   | some ei,some (.one (.nst τ j W off m))=>match O.ar.lookup τ with
    | some (some A)=>match A.es[j]? with
     | some el=>match el[off]? with
      | some (.sl ys)=>if A.fr=true/\el.length=W then some (.one (.nel τ j W off (n.toNat*ei.size)),0<=n/\n.toNat<m/\ys.length=m) else none
      | _=>none
     | none=>none
    | _=>none
   | some ei,some (.one (.vw τ m lo hi W))=>match O.ar.lookup τ with
    | some (some A)=>some (.one (.elt τ m (lo+n.toNat) ei.size 0),0<=n/\n.toNat<hi-lo/\A.es.length=m/\W=ei.size)
    | _=>none
   | _,_=>none
  | _,_=>none
 | .index t x i=>match ti P t,num O i,opd O x with
  | some ⟨.str,_,_,_⟩,some (_,n),some (.one (.l (.str s)))=>match s.data.toList[n.toNat]? with
   | some c=>some (.one (.l (.int .u8 c.toNat)),0<=n)
   | none=>none
  | _,_,_=>none
 | .extract t i=>match opd O t with
  | some (.tup ps)=>match ps[i]? with
   | some (true,cs)=>some (.agg cs,True)
   | some (false,[c])=>some (.one c,True)
   | _=>none
  | _=>none
 | .nilCheck x=>match opd O x with
  | some (.one (.box k o))=>some (.one (.box k o),True)
  | some (.one (.adr ls))=>some (.one (.adr ls),True)
  | _=>none
 | .binOp op t x y _=>match opd O x,opd O y with
  | some (.one (.l (.int k a))),some (.one (.l (.int j b)))=>if k=j then (bI op k a b).map fun r=>(.one (.l r.1),r.2) else (bSh op k a b).map fun r=>(.one (.l r.1),r.2)
  | some (.one (.l (.str a))),some (.one (.l (.str b)))=>(bS op a b).map fun r=>(.one (.l r.1),r.2)
  | some (.one (.l (.bool a))),some (.one (.l (.bool b)))=>match ti P t,op with
   | some ⟨.bool,_,_,_⟩,.eql=>some (.one (.l (.bool (a==b))),True)
   | some ⟨.bool,_,_,_⟩,.neq=>some (.one (.l (.bool (!(a==b)))),True)
   | _,_=>none
  | some (.agg cs),some (.agg ds)=>match Zwn P t with
   | some tds=>match ZtY tds cs ds,op with
    | some r,.eql=>some (.one (.l (.bool r)),True)
    | some r,.neq=>some (.one (.l (.bool (!r))),True)
    | _,_=>none
   | none=>none
  | _,_=>none
 | .unOp op _ x=>match op,opd O x with
  | .not,some (.one (.l (.bool b)))=>some (.one (.l (.bool (!b))),True)
  | .neg,some (.one (.l (.int k n)))=>some (.one (.l (.int k (k.wrap (0-n)))),True)
  | _,_=>none
 | .convert s t x=>match ti P s,ti P t,opd O x with
  | some _,some ⟨.int k,_,_,_⟩,some (.one (.l (.int _ n)))=>some (.one (.l (.int k (k.wrap n))),True)
  | some _,some ⟨.str,_,_,_⟩,some (.one (.l (.str s)))=>some (.one (.l (.str s)),True)
  | some ⟨.slice et,_,_,_⟩,some ⟨.str,_,_,_⟩,some (.one (.l (.sl es)))=>match ti P et with
   | some ⟨.int .u8,_,_,_⟩=>(ZdA es).map fun ns=>(.one (.l (.str (Zne ns))),True)
   | _=>none
  | some ⟨.slice et,_,_,_⟩,some ⟨.str,_,_,_⟩,some (.one (.own τ n))=>match ti P et,O.ar.lookup τ with
   | some ⟨.int .u8,_,_,_⟩,some (some A)=>(ZdA A.es).map fun ns=>(.one (.l (.str (Zne ns))),A.es.length=n)
   | _,_=>none
  | _,_,_=>none
 | .build t ps=>match ti P t,parts O ps.toList with
  | some ⟨.struct fs,_,_,z⟩,some vs=>if fs.all (fun f=>(ti P f.2).isSome) then match ZgR z with
    | some cells=>(ZmZ P fs cells vs).map fun cs=>(.agg cs,True)
    | none=>none
   else none
  | _,_=>none
 | .slice t x lo hi none=>match ti P t,opd O x with
  | some ⟨.str,_,_,_⟩,some (.one (.l (.str s)))=>match VG O 0 lo,VG O s.size hi with
   | some l,some h=>some (.one (.l (.str (s.extract l.toNat h.toNat))),0<=l/\l<=h/\h<=s.size)
   | _,_=>none
  | some ⟨.slice et,_,_,_⟩,some (.one (.l (.sl es)))=>match ti P et,VG O 0 lo,VG O es.length hi with
   | some ei,some l,some h=>some (.one (.l (.sl ((es.take h.toNat).drop l.toNat))),0<=l/\l<=h/\h<=es.length/\∀x∈es,x.length=ei.size)
   | _,_,_=>none
  | some ⟨.slice et,_,_,_⟩,some (.one (.own τ n))=>if Zqh lo hi then none else match ti P et,VG O 0 lo,VG O n hi,O.ar.lookup τ with
   | some ei,some l,some h,some (some A)=>some (.one (.vw τ n l.toNat h.toNat ei.size),0<=l/\l<=h/\h<=n/\A.es.length=n)
   | _,_,_,_=>none
  | some ⟨.slice et,_,_,_⟩,some (.one (.vw τ n lo0 hi0 W))=>match ti P et,VG O 0 lo,VG O (hi0-lo0:Nat) hi,O.ar.lookup τ with
   | some ei,some l,some h,some (some A)=>some (.one (.vw τ n (lo0+l.toNat) (lo0+h.toNat) W),0<=l/\l<=h/\h<=(hi0-lo0:Nat)/\A.es.length=n/\W=ei.size)
   | _,_,_,_=>none
  | _,_=>none
 | .call { callee:=.builtin .len,args:=xs,argTypes:=ts}=>match xs.toList,ts.toList with
  | [x],[t]=>match ti P t,opd O x with
   | some ⟨.slice _,_,_,_⟩,some v=>match v with
    | .one (.l (.str _))=>none
    | v=>(Zwm v).map fun n=>(.one (.l (.int .i64 n)),True)
   | some ⟨.str,_,_,_⟩,some (.one (.l (.str s)))=>some (.one (.l (.int .i64 s.size)),True)
   | _,_=>none
  | _,_=>none
 | .call { callee:=.builtin .max,args:=xs,argTypes:=_}=>match Xs O xs.toList with
  | some vs=>match Zto vs with
   | some [a,b]=>some (.one (.l (.int .i64 (if b>a then b else a))),True)
   | _=>none
  | none=>none
 | .call { callee:=.builtin .min,args:=xs,argTypes:=_}=>match Xs O xs.toList with
  | some vs=>match Zto vs with
   | some [a,b]=>some (.one (.l (.int .i64 (if b<a then b else a))),True)
   | _=>none
  | none=>none
 | _=>none
section
variable {e:Env} {O:St} {w:World} {N:Nat->Prop} {w0:Bs} {a:Act} {P:Program}
theorem Ze5 (h:Zz N w0 e O a w) {o:Operand} {k:IntKind} {n:Int} (hn:num O o=some (k,n)):a.eval o= .int k n/\InK k n:=by
 unfold num at hn
 split at hn
 ·rename_i k' n' hx;obtain ⟨rfl,rfl⟩:=Prod.mk.inj (Zz9 hn);obtain ⟨F,h1,_⟩:=Zv h hx;simp only [Rp] at h1;exact ⟨h1.1,h1.2.2⟩
 ·cases hn
theorem ZhX (h:Zz N w0 e O a w) {o:Operand} {k:IntKind} {n:Int} (hx:opd O o=some (.one (.l (.int k n)))):a.eval o= .int k n/\InK k n:=by
 obtain ⟨F,h1,_⟩:=Zv h hx;simp only [Rp] at h1;exact ⟨h1.1,h1.2.2⟩
theorem Zd2 (h:Zz N w0 e O a w) {o:Operand} {b:Bool} (hx:opd O o=some (.one (.l (.bool b)))):a.eval o= .bool b:=by
 obtain ⟨F,h1,_⟩:=Zv h hx;simp only [Rp] at h1;exact h1.1
theorem Zi4 (h:Zz N w0 e O a w) {o:Operand} {s:ByteArray} (hx:opd O o=some (.one (.l (.str s)))):a.eval o= .string s/\Fit s:=by
 obtain ⟨F,h1,_⟩:=Zv h hx;simp only [Rp] at h1;exact ⟨h1.1,h1.2.2⟩
theorem WH {k:IntKind} {n:Int} (h:InK k n):(V.one (.l (.int k n))).rel e O w (.int k n):=⟨[],by simp [Rp,h],by simp⟩
theorem JU {b:Bool}:(V.one (.l (.bool b))).rel e O w (.bool b):=⟨[],by simp [Rp],by simp⟩
theorem ZfN {s:ByteArray} (h:Fit s):(V.one (.l (.str s))).rel e O w (.string s):=⟨[],by simp [Rp,h],by simp⟩
theorem ZoK (h:Zz N w0 e O a w) {t:Nat} {p:Operand} {x:V} {s:Prop} (hv:Qg P O (.load t p)=some (x,s)) (hs:s):
  ∃u,(Instr.loadAt t (a.eval p)).run P w= .ok u w/\x.rel e O w u:=by
 simp only [Qg] at hv
 split at hv
 ·rename_i i hi
  split at hv
  ·rename_i k off hp;have hr:=Zv h hp;obtain ⟨⟨cs',hcs⟩,he⟩:=hr
   split at hv
   ·rename_i cs hk;obtain ⟨y,hy,heq⟩:=Option.map_eq_some_iff.1 hv;obtain ⟨rfl,rfl⟩:=Prod.mk.inj heq;obtain ⟨u,h1,h2⟩:=Zqg (P:=P) h hk hi hy;exact ⟨u,by simp [Instr.loadAt,Instr.sureAddr,he,h1],h2⟩
   ·cases hv
  ·rename_i ls hp;obtain ⟨b,off,vs,F,he,h1,h2,h3,h4,h5⟩:=Zv h hp;obtain ⟨y,hy,heq⟩:=Option.map_eq_some_iff.1 hv;obtain ⟨rfl,rfl⟩:=Prod.mk.inj heq;obtain ⟨u,k1,k2⟩:=ZrE (P:=P) h1 h2 h5 hi hy;exact ⟨u,by simp [Instr.loadAt,Instr.sureAddr,he,k1],k2⟩
  ·rename_i τ n j W off hp;obtain ⟨A',hA',h1,_⟩:=Zv h hp
   split at hv
   ·rename_i A hA
    split at hv
    ·rename_i el hel
     split at hv
     ·rename_i hW;obtain ⟨hW,hdp⟩:=hW;obtain ⟨y,hy,heq⟩:=Option.map_eq_some_iff.1 hv;obtain ⟨rfl,rfl⟩:=Prod.mk.inj heq;rw [hA] at hA';obtain rfl:=Zz9 hA';obtain ⟨_,hb⟩:=h1 A rfl;obtain ⟨b,hb1,hb2⟩:=hb hs;obtain ⟨p',c,hρ,_,_,hc| ⟨b',vs,Fs,W',q1,q2,q3,q4,q5,q6⟩⟩:=h.elems hA hdp
      ·rw [hc] at hel;simp at hel
      ·subst q1;rw [hρ] at hb1;simp [Value.ownBlock] at hb1;subst hb1;have hW':W'=W:=by rw [<-hW];exact (q3 el (List.mem_of_getElem? hel)).symm
       subst hW';obtain ⟨ys,Fi,r1,r2,r3⟩:=q4.get q2 q3 hel;rw [Nat.zero_add] at r2;obtain ⟨g,us,hg,rfl,hl,k1,k2⟩:=Ze4 hy (We (e:=e) (O:=O) r1 fun x hx=>q6 x (r3 x hx));obtain ⟨u,m1,m2,m3⟩:=Um (P:=P) (r2.sub off i.size) hi hl hg (fun hf=>by obtain ⟨u,hu,_⟩:=k2 hf;exact ⟨u,hu⟩);refine ⟨u,by simp [Instr.loadAt,Instr.sureAddr,hb2,m1], ?_⟩;cases g with
       | true=>rw [m2 rfl];exact k1 rfl
       | false=>
        obtain ⟨u',hu,hur⟩:=k2 rfl;have:=m3 rfl;rw [hu] at this;injection this with this _
        subst this;exact hur
     ·obtain ⟨y,hy,heq⟩:=Option.map_eq_some_iff.1 hv;obtain ⟨rfl,rfl⟩:=Prod.mk.inj heq;unfold ZmJ at hy
      split at hy
      ·rename_i hc9;obtain ⟨rfl,hdp,hfr,hsz⟩:=hc9
       split at hy
       ·rename_i et ys htd hys;obtain rfl:=Zz9 hy;rw [hA] at hA';obtain rfl:=Zz9 hA';obtain ⟨_,hb⟩:=h1 A rfl;obtain ⟨b,hb1,hb2⟩:=hb hs;obtain ⟨b',t',cur,c,Fs,u,G,m1,m2,m3,m4,m5,m6,m7,m8,m9,m10,m11,m12,_⟩:=h.nest hA hfr hel hys;have ho:(e.ρ τ).ownBlock=some b':=by rw [m1];rfl
        rw [ho] at hb1;obtain rfl:=Zz9 hb1
        have hat:At w b' (j*el.length+off) [u]:=fun k v hv=>by
         cases k with
         | zero=>obtain rfl:u=v:=by simpa using hv
                 simp [World.cell?,m4,m10]
         | succ k=>simp at hv
        obtain ⟨u',k1,k2,k3⟩:=Um (P:=P) hat hi (by simp [hsz]) (g:=false) (by rw [htd];rfl) (fun _=>⟨u,rfl⟩);have:=k3 rfl;injection this with e1 _
        subst e1;refine ⟨u,by simp [Instr.loadAt,Instr.sureAddr,hb2,k1],some A,hA,fun B hB=>⟨hdp,b',cur,t',ho,m4,m10⟩, ?_⟩;simp only [Ow] at m11;obtain ⟨P9,c9,rfl,h9,h10⟩:=m11;refine ⟨P9,c9,rfl, ?_⟩;rcases h10 with ⟨h10,_⟩| ⟨_,_,_,_,_,_,_,_,h10,_⟩
        ·simp [h10]
        ·omega
       ·cases hy
      ·cases hy
    ·cases hv
   ·cases hv
  ·cases hv
 ·cases hv
theorem Zhx {t:Nat} {fs:List (Nat×Nat)} {s b:Nat} {z:List Value} (h:ti P t=some ⟨.struct fs,s,b,z⟩):∃flds:Array Field,P.underlying t=some (.struct flds)/\fs=flds.toList.map (fun f=>(f.offset,f.type)):=by
 obtain ⟨j,d,z',h1,h2,h3,h4,h5,h6,h7⟩:=WU h;cases d<;>simp [Zq7] at h4;exact ⟨_,h2,h4.symm⟩
theorem XY {t et s b:Nat} {z:List Value} (h:ti P t=some ⟨.slice et,s,b,z⟩):P.underlying t=some (.slice et):=by
 obtain ⟨j,d,z',h1,h2,h3,h4,h5,h6,h7⟩:=WU h;cases d<;>simp [Zq7] at h4;subst h4;exact h2
theorem Zlh {t s b:Nat} {k:IntKind} {z:List Value} (h:ti P t=some ⟨.int k,s,b,z⟩):P.underlying t=some (.int k):=by
 obtain ⟨j,d,z',h1,h2,h3,h4,h5,h6,h7⟩:=WU h;cases d<;>simp [Zq7] at h4;subst h4;exact h2
theorem ZeC {t s b:Nat} {z:List Value} (h:ti P t=some ⟨.str,s,b,z⟩):P.underlying t=some .string:=by
 obtain ⟨j,d,z',h1,h2,h3,h4,h5,h6,h7⟩:=WU h;cases d<;>simp [Zq7] at h4;exact h2
theorem Zmq {t s b:Nat} {z:List Value} (h:ti P t=some ⟨.bool,s,b,z⟩):P.underlying t=some .bool:=by
 obtain ⟨j,d,z',h1,h2,h3,h4,h5,h6,h7⟩:=WU h;cases d<;>simp [Zq7] at h4;exact h2
theorem Zn4 {flds:Array Field} {f off ft:Nat} (h:(flds.toList.map fun f=>(f.offset,f.type))[f]? =some (off,ft)):∃fd,flds[f]? =some fd/\fd.offset=off/\fd.type=ft:=by
 rw [List.getElem?_map] at h;obtain ⟨fd,h1,h2⟩:=Option.map_eq_some_iff.1 h;obtain ⟨h3,h4⟩:=Prod.mk.inj h2;exact ⟨fd,by simpa using h1,h3,h4⟩
theorem Zim (h:Zz N w0 e O a w) {t f:Nat} {p:Operand} {x:V} {s:Prop} (hv:Qg P O (.fieldAddr t p f)=some (x,s)) (hs:s):
  ∃u,(Instr.fieldAt t (a.eval p) f).run P w= .ok u w/\x.rel e O w u:=by
 simp only [Qg] at hv
 split at hv
 ·rename_i fs _ _ _ hi;obtain ⟨flds,hu,rfl⟩:=Zhx hi
  split at hv
  ·rename_i off ft hf;obtain ⟨fd,hfd,rfl,rfl⟩:=Zn4 hf
   split at hv
   ·rename_i fi hfi
    split at hv
    ·cases hv
    ·rename_i hz
     have key:∀ad:Addr,a.eval p= .pointer (some ad)->(Instr.fieldAt t (a.eval p) f).run P w= .ok (.pointer (some (ad.add fd.offset))) w:=by
      intro ad had;simp [Instr.fieldAt,run_underlying hu,hfd,had,Instr.sureAddr,fieldPlace,YC hfi,hz]
     split at hv
     ·rename_i k o hp;obtain ⟨rfl,rfl⟩:=Prod.mk.inj (Zz9 hv);obtain ⟨hcs,he⟩:=Zv h hp;refine ⟨_,key _ he,hcs, ?_⟩;rw [Addr.add_lit]
     ·rename_i ls hp;obtain ⟨rfl,rfl⟩:=Prod.mk.inj (Zz9 hv);obtain ⟨b,off,vs,F,he,h1,h2,h3,h4,h5⟩:=Zv h hp;refine ⟨_,key _ he,b,off+fd.offset,vs.drop fd.offset, ?_⟩;rw [Addr.add_lit]
      by_cases hle:fd.offset<=ls.length
      ·rw [<-List.take_append_drop fd.offset ls] at h2;obtain ⟨v1,v2,F1,F2,rfl,rfl,g1,g2⟩:=h2.split;have hl:v1.length=fd.offset:=by rw [g1.len,List.length_take];omega
       rw [<-hl,List.drop_left,hl];exact ⟨F2,rfl,by have:=h1.right;rwa [hl] at this,g2,h3,h4,fun x hx=>h5 x (by simp [hx])⟩
      ·have hl:=h2.len;rw [List.drop_eq_nil_of_le (by omega),List.drop_eq_nil_of_le (by omega)];exact ⟨[],rfl,fun j u hu=>by simp at hu,by simp [RpL],h3,h4,by simp⟩
     ·rename_i τ n j W o hp;obtain ⟨A',hA',h1,h2⟩:=Zv h hp
      split at hv
      ·rename_i A hA;obtain ⟨rfl,rfl⟩:=Prod.mk.inj (Zz9 hv);rw [hA] at hA';obtain rfl:=Zz9 hA';obtain ⟨hle,hb⟩:=h1 A rfl;obtain ⟨b,hb1,hb2⟩:=hb hs;refine ⟨_,key _ hb2,some A,hA,fun B hB=> ?_,_,rfl⟩;obtain rfl:=Zz9 hB;refine ⟨hle,fun _=>⟨b,hb1, ?_⟩⟩;rw [Addr.add_lit,Nat.add_assoc]
      ·cases hv
     ·cases hv
   ·cases hv
  ·cases hv
 ·cases hv
theorem Zm0 (h:Zz N w0 e O a w) {t f:Nat} {p:Operand} {x:V} {s:Prop} (hv:Qg P O (.field t p f)=some (x,s)):
  ∃u,(Instr.field t (a.eval p) f).run P w= .ok u w/\x.rel e O w u:=by
 simp only [Qg] at hv
 split at hv
 ·rename_i fs _ _ _ hi;obtain ⟨flds,hu,rfl⟩:=Zhx hi
  split at hv
  ·rename_i off ft hf;obtain ⟨fd,hfd,rfl,rfl⟩:=Zn4 hf
   split at hv
   ·rename_i fi cs hfi hp;obtain ⟨y,hy,heq⟩:=Option.map_eq_some_iff.1 hv;obtain ⟨rfl,rfl⟩:=Prod.mk.inj heq;obtain ⟨vs,he,hr⟩:=Zv h hp;obtain ⟨g,us,hg,hus,hl,h1,h2⟩:=Ze4 hy hr;cases g with
    | true=>
     refine ⟨.agg us.toArray, ?_,h1 rfl⟩;simp [Instr.field,run_underlying hu,hfd,he,asAgg,part,ZcJ hfi hg,YC hfi,hus,List.extract_eq_take_drop]
    | false=>
     obtain ⟨u,hu1,hu2⟩:=h2 rfl;refine ⟨u, ?_,hu2⟩
     have hg1:vs[fd.offset]? =some u:=by
      have h3:(List.take fi.size (List.drop fd.offset vs))[0]? =some u:=by rw [<-hus,hu1];rfl
      rw [List.getElem?_take] at h3
      split at h3
      ·rw [List.getElem?_drop] at h3;simpa using h3
      ·cases h3
     simp [Instr.field,run_underlying hu,hfd,he,asAgg,part,ZcJ hfi hg,hg1]
   ·cases hv
  ·cases hv
 ·cases hv
theorem ZhY (h:Zz N w0 e O a w) {t:Nat} {p i:Operand} {x:V} {s:Prop} (hv:Qg P O (.indexAddr t p i)=some (x,s)) (hs:s):
  ∃u,(Instr.indexAt t (a.eval p) (a.eval i)).run P w= .ok u w/\x.rel e O w u:=by
 simp only [Qg] at hv
 split at hv
 ·rename_i et _ _ _ k n hi hn;have hu:=XY hi;obtain ⟨hne,_⟩:=Ze5 h hn
  split at hv
  ·rename_i ei es hei hp
   split at hv
   ·rename_i el hel;obtain ⟨rfl,rfl⟩:=Prod.mk.inj (Zz9 hv);obtain ⟨F,h1,h2⟩:=Zv h hp;simp only [Rp] at h1;obtain ⟨A,c,h3,h4,h5,h6⟩:=h1;rcases h6 with ⟨rfl,_⟩| ⟨b,off,xs,Fs,rfl,q2,rfl,q4,q5⟩
    ·simp at hel
    ·obtain ⟨ys,Fi,r1,r2,r3⟩:=q5.get q4 hs.2 hel;have hlt:n.toNat<es.length:=(List.getElem?_eq_some_iff.1 hel).1;refine ⟨.pointer (some ⟨b,off+n.toNat*ei.size,none⟩), ?_,b,_,ys,Fi,rfl,r2,r1,q2,h2 b (by simp),fun x hx=>h2 x (by simp [r3 x hx])⟩;have hc:0<=n/\n<(es.length:Int):=⟨hs.1,by omega⟩;simp [Instr.indexAt,hne,asIntOf,run_underlying hu,h3,hc,YC hei,Addr.add_lit]
   ·cases hv
  ·rename_i ei τ m hei hp
   split at hv
   ·rename_i A hA;obtain ⟨rfl,rfl⟩:=Prod.mk.inj (Zz9 hv);obtain ⟨hs0,hs1,hs2⟩:=hs;obtain ⟨A',hA',h1,p',c',h3⟩:=Zv h hp;rw [hA] at hA';obtain rfl:=Zz9 hA';obtain ⟨hle,hb⟩:=h1 A rfl;have hv':=hb hs2;obtain ⟨p'',c,hρ,_,_,hc| ⟨b',vs,Fs,W',q1,q2,q3,q4,q5⟩⟩:=h.J0 hA
    ·rw [hc] at hs2;simp at hs2;omega
    ·subst q1;refine ⟨.pointer (some ⟨b',n.toNat*ei.size+0,none⟩), ?_,some A,hA,fun B hB=> ?_,_,rfl⟩
     ·have hc:0<=n/\n<(m:Int):=⟨hs0,by omega⟩;rw [hv',hρ,hs2];simp [Instr.indexAt,hne,asIntOf,run_underlying hu,hc,YC hei,Addr.add_lit]
     ·obtain rfl:=Zz9 hB;exact ⟨hle,fun _=>⟨b',by rw [hρ];rfl,rfl⟩⟩
   ·cases hv
  ·rename_i ei τ j W off m hei hp
   split at hv
   ·rename_i A hA
    split at hv
    ·rename_i el hel
     split at hv
     ·rename_i ys hys
      split at hv
      ·rename_i hc9;obtain ⟨hfr,rfl⟩:=hc9;obtain ⟨rfl,rfl⟩:=Prod.mk.inj (Zz9 hv);obtain ⟨hs0,hs1,hs2⟩:=hs;obtain ⟨A',hA',h1,q',c',h3,_⟩:=Zv h hp;rw [hA] at hA';obtain rfl:=Zz9 hA';obtain ⟨hdp,b1,cur1,t1,r1,r2,r3⟩:=h1 A rfl;obtain ⟨b',t',cur,c,Fs,u,G,m1,m2,m3,m4,m5,m6,m7,m8,m9,m10,m11,m12,_⟩:=h.nest hA hfr hel hys;have ho:(e.ρ τ).ownBlock=some b':=by rw [m1];rfl
       rw [ho] at r1;obtain rfl:=Zz9 r1;rw [m4] at r2;injection r2 with r2
       injection r2 with r2 _ _
       subst r2;rw [m10] at r3;obtain rfl:=Zz9 r3;simp only [Ow] at m11;obtain ⟨P9,c9,h8,h9,h10⟩:=m11;rcases h10 with ⟨h10,_⟩| ⟨bn,_,_,_,_,rfl,_⟩
       ·rw [h10] at hs2;simp at hs2;omega
       ·refine ⟨.pointer (some ⟨bn,n.toNat*ei.size,none⟩), ?_,some A,hA,fun B hB=>⟨hdp,b',cur,t',bn,ys.length,c9,ho,m4,by rw [m10,h8],rfl⟩,_,rfl⟩;have hc:0<=n/\n<(ys.length:Int):=⟨hs0,by omega⟩;rw [h8];simp [Instr.indexAt,hne,asIntOf,run_underlying hu,hc,YC hei,Addr.add_lit]
      ·cases hv
     ·cases hv
    ·cases hv
   ·cases hv
  ·rename_i ei τ m lo hi2 W hei hp
   split at hv
   ·rename_i A hA;obtain ⟨rfl,rfl⟩:=Prod.mk.inj (Zz9 hv);obtain ⟨hs0,hs1,hs2,rfl⟩:=hs;obtain ⟨A',hA',h1,_⟩:=Zv h hp;rw [hA] at hA';obtain rfl:=Zz9 hA';obtain ⟨hle,hb⟩:=h1 A rfl;obtain ⟨t1,t2,p1,c1,q,hρ1,hq,hv'⟩:=hb hs2;have hlm:lo<m:=Nat.lt_of_lt_of_le (Nat.lt_of_sub_pos (Nat.lt_of_le_of_lt (Nat.zero_le _) hs1)) t2;have hnn:n<((hi2-lo:Nat):Int):=by have:=Int.toNat_of_nonneg hs0;rw [<-this];exact Int.ofNat_lt.2 hs1
    obtain ⟨p'',c,hρ,hc1,_,hc| ⟨b',vs,Fs,W',q1,q2,q3,q4,q5⟩⟩:=h.J0 hA
    ·rw [hc] at hs2;simp at hs2;omega
    ·subst q1;rw [hρ1] at hρ;injection hρ with r1 r2 r3
     subst r1 r3;refine ⟨.pointer (some ⟨b',(lo+n.toNat)*ei.size+0,none⟩), ?_,some A,hA,fun B hB=> ?_,_,rfl⟩
     ·have hc:0<=n/\n<((hi2-lo:Nat):Int):=⟨hs0,hnn⟩;rw [hv',hq (.inl (Nat.lt_of_lt_of_le hlm (hs2▸hc1)))];simp [Instr.indexAt,hne,asIntOf,run_underlying hu,hc,YC hei,Addr.add_lit,Nat.add_mul]
     ·obtain rfl:=Zz9 hB;exact ⟨hle,fun _=>⟨b',by rw [hρ1];rfl,rfl⟩⟩
   ·cases hv
  ·cases hv
 ·cases hv
theorem ZmT (h:Zz N w0 e O a w) {t:Nat} {p i:Operand} {x:V} {s:Prop} (hv:Qg P O (.index t p i)=some (x,s)) (hs:s):
  ∃u,(Instr.index t (a.eval p) (a.eval i)).run P w= .ok u w/\x.rel e O w u:=by
 simp only [Qg] at hv
 split at hv
 ·rename_i _ _ _ k n st hi hn hp;have hu:=ZeC hi;obtain ⟨hne,_⟩:=Ze5 h hn
  split at hv
  ·rename_i c hc;obtain ⟨rfl,rfl⟩:=Prod.mk.inj (Zz9 hv);obtain ⟨hse,_⟩:=Zi4 h hp;have hcl:=(List.getElem?_eq_some_iff.1 hc).1;refine ⟨.int .u8 c.toNat, ?_,WH ((Zsy _).2 ⟨by omega,by have:=c.toNat_lt;omega⟩)⟩
   have hg:st[n.toNat]? =some c:=by
    have hlt:n.toNat<st.size:=by rw [Array.length_toList] at hcl;exact hcl
    rw [getElem?_pos st n.toNat hlt]
    congr 1
    have h9:=(List.getElem?_eq_some_iff.1 hc).2;rw [Array.getElem_toList] at h9;exact h9
   simp [Instr.index,hne,hse,asIntOf,run_underlying hu,hs,hg]
  ·cases hv
 ·cases hv
theorem ZfO:∀{ps:List (Bool×List CV)} {vs:List Value} {i:Nat} {p:Bool×List CV},Yo e O w ps vs->ps[i]? =some p->∃v,vs[i]? =some v/\ZmD e O w p v
 | c::cs,_,0,_,h,hi=>by
  simp only [Yo] at h;obtain ⟨v,vs',rfl,h1,h2⟩:=h;simp at hi;subst hi;exact ⟨v,rfl,h1⟩
 | c::cs,_,i+1,_,h,hi=>by
  simp only [Yo] at h;obtain ⟨v,vs',rfl,h1,h2⟩:=h;simp at hi
  simpa using ZfO h2 hi
theorem Zkx (h:Zz N w0 e O a w) {i:Nat} {p:Operand} {x:V} {s:Prop} (hv:Qg P O (.extract p i)=some (x,s)):
  ∃u,(Instr.extract (a.eval p) i).run P w= .ok u w/\x.rel e O w u:=by
 simp only [Qg] at hv
 split at hv
 ·rename_i ps hp;obtain ⟨vs,he,hr⟩:=Zv h hp
  split at hv
  ·rename_i cs hi;obtain ⟨rfl,rfl⟩:=Prod.mk.inj (Zz9 hv);obtain ⟨v,hv1,hv2⟩:=ZfO hr hi;exact ⟨v,by simp [Instr.extract,he,hv1],hv2⟩
  ·rename_i c hi;obtain ⟨rfl,rfl⟩:=Prod.mk.inj (Zz9 hv);obtain ⟨v,hv1,c',hc',hv2⟩:=ZfO hr hi;injection hc' with hc' _
   subst hc';exact ⟨v,by simp [Instr.extract,he,hv1],hv2⟩
  ·cases hv
 ·cases hv
end
section
variable {e:Env} {O:St} {w:World} {N:Nat->Prop} {w0:Bs} {a:Act} {P:Program}
theorem Zs1 {k:IntKind} {a b:Int} (ha:InK k a) (hb:InK k b) (h0:b≠0):k.wrap (a.tmod b)=a.tmod b:=by
 have h1:a.tmod b<=a.natAbs/\ -(a.natAbs:Int)<=a.tmod b:=by
  have:=Int.natAbs_tmod a b;have h2:=Nat.mod_le a.natAbs b.natAbs;omega
 have h3:(0<=a->0<=a.tmod b):=fun h=>Int.tmod_nonneg b h
 have h4:(a<=0->a.tmod b<=0):=fun h=>by
  have:=Int.neg_tmod a b;have h5:=Int.tmod_nonneg (a:= -a) b (by omega);omega
 unfold InK at *;revert ha;generalize a.tmod b=m at *;clear hb h0;cases k<;>simp only [IntKind.wrap,IntKind.bits,IntKind.signed]<;>simp<;>intro ha<;>(try split at ha)<;>(try split)<;>omega
theorem ZuX {k:IntKind} {a b:Int} (ha:InK k a):k.wrap (Zuw k a b)=Zuw k a b:=by
 unfold Zuw;obtain ⟨m,hm⟩:∃m:Nat,m=min b.toNat k.bits:=⟨_,rfl⟩;rw [<-hm];have h0:(0:Int)<2^m:=Int.pow_pos (by omega)
 have h1:0<=a->0<=a.fdiv (2^m)/\a.fdiv (2^m)<=a:=fun h=>by
  rw [Int.fdiv_eq_ediv_of_nonneg _ (Int.le_of_lt h0)];exact ⟨Int.ediv_nonneg h (Int.le_of_lt h0),Int.ediv_le_self _ h⟩
 have h2:a<0->a<=a.fdiv (2^m)/\a.fdiv (2^m)<0:=fun h=>by
  rw [Int.fdiv_eq_ediv_of_nonneg _ (Int.le_of_lt h0)];refine ⟨Int.le_ediv_of_mul_le h0 ?_,Int.ediv_neg_of_neg_of_pos h h0⟩;have:a*2^m<=a*1:=Int.mul_le_mul_of_nonpos_left (by omega) (by omega);omega
 unfold InK at *;revert ha h1 h2;generalize a.fdiv (2^m)=q;intro ha h1 h2;revert ha;cases k<;>simp only [IntKind.wrap,IntKind.bits,IntKind.signed]<;>simp<;>intro ha<;>(try split at ha)<;>(try split)<;>omega
theorem ZqT {op:BinOp} {k j:IntKind} {x y:Int} {r:L} {s:Prop} (hr:bSh op k x y=some (r,s)) (hs:s) (hx:InK k x) (t:Nat) (oa ob:Operand):
  (do eqGuard op t oa ob (.int k x) (.int j y);binOp op t (.int k x) (.int j y):Sem Value).run P w= .ok (Zha r) w/\(V.one (.l r)).rel e O w (Zha r):=by
 cases op<;>simp only [bSh,ZAb,ZAc] at hr<;>first | (cases hr;done)| skip
 obtain ⟨rfl,rfl⟩:=hr;have h1:¬y<0:=by omega
 exact ⟨by simp [eqGuard,binOp,Op.shift,h1,Zha,Zuw],WH (by unfold InK;exact ZuX hx)⟩
theorem Zv6 {op:BinOp} {k:IntKind} {x y:Int} {r:L} {s:Prop} (hr:bI op k x y=some (r,s)) (hs:s) (hx:InK k x) (hy:InK k y) (t:Nat) (oa ob:Operand):
  (do eqGuard op t oa ob (.int k x) (.int k y);binOp op t (.int k x) (.int k y):Sem Value).run P w= .ok (Zha r) w/\(V.one (.l r)).rel e O w (Zha r):=by
 cases op<;>simp only [bI,ZAb,ZAc] at hr<;>first | (cases hr;done)| skip
 all_goals (obtain ⟨rfl,rfl⟩:=hr)
 case quo=>
  exact ⟨by simp [eqGuard,binOp,Op.intDiv,hs,Zha],WH (InK.wrap _ _)⟩
 case rem=>
  exact ⟨by simp [eqGuard,binOp,Op.intDiv,hs,Zha,Zs1 hx hy hs],WH (InK.wrap _ _)⟩
 case and=>
  have hb:Op.intBits .and k x y=pure (.int k (ZyG k x y)):=rfl;exact ⟨by simp [eqGuard,binOp,Zha,hb],WH (InK.wrap _ _)⟩
 case or=>
  have hb:Op.intBits .or k x y=pure (.int k (iOr k x y)):=rfl;exact ⟨by simp [eqGuard,binOp,Zha,hb],WH (InK.wrap _ _)⟩
 case xor=>
  have hb:Op.intBits .xor k x y=pure (.int k (ZyD k x y)):=rfl;exact ⟨by simp [eqGuard,binOp,Zha,hb],WH (InK.wrap _ _)⟩
 case shr=>exact ZqT (op:=.shr) rfl hs hx t oa ob
 all_goals first
  | exact ⟨by simp [eqGuard,binOp,Op.intArith,Zha],WH (InK.wrap _ _)⟩
  | exact ⟨by simp [eqGuard,binOp,Op.intCmp,Zha];try (rw [Bool.eq_iff_iff];simp),JU⟩
theorem Zv5 {op:BinOp} {x y:ByteArray} {r:L} {s:Prop} (hr:bS op x y=some (r,s)) (hs:s) (t:Nat) (oa ob:Operand):
  (do eqGuard op t oa ob (.string x) (.string y);binOp op t (.string x) (.string y):Sem Value).run P w= .ok (Zha r) w/\(V.one (.l r)).rel e O w (Zha r):=by
 cases op<;>simp only [bS,ZAb,ZAc] at hr<;>first | (cases hr;done)| skip
 all_goals (obtain ⟨rfl,rfl⟩:=hr)
 case add=>
  have h1:¬((x.size:Int)+y.size>9223372036854775807):=by omega
  refine ⟨?_,ZfN (by unfold Fit;rw [ByteArray.size_append];exact hs)⟩;have h2:IntKind.max .i64=9223372036854775807:=by decide
  simp [eqGuard,binOp,Op.stringOp,Zha,h2,h1]
 all_goals exact ⟨by simp [eqGuard,binOp,Op.stringOp,Zha,ZmA,ZpF],JU⟩
theorem ZtZ {fd:Field} {i:TI} (hi:ti P fd.type=some i) {c d:CV} {r:Bool} (h:eqC i.td c d=some r) {u v:Value} (hu:c.rel e O w u) (hv:d.rel e O w v) (n:Nat):
  i.td.agg=some false/\(Op.equalIn (n+1) fd.type u v).run P w= .ok r w:=by
 obtain ⟨td,sz,by_,z⟩:=i;unfold eqC at h
 split at h
 ·rename_i k' k x j y hk;simp only at hk;subst hk
  split at h
  ·rename_i hkj;subst hkj;obtain rfl:=Zz9 h;obtain ⟨F,g1,_⟩:=hu;obtain ⟨G,g2,_⟩:=hv;simp only [Rp] at g1 g2;rw [g1.1,g2.1];refine ⟨rfl, ?_⟩;rw [run_equalIn_int w n fd.type k k' x y (Zlh hi)]
   rfl
  ·cases h
 ·rename_i x y hk;simp only at hk;subst hk;obtain rfl:=Zz9 h;obtain ⟨F,g1,_⟩:=hu;obtain ⟨G,g2,_⟩:=hv;simp only [Rp] at g1 g2;rw [g1.1,g2.1];exact ⟨rfl,run_equalIn_bool' w n fd.type x y (Zmq hi)⟩
 ·rename_i x y hk;simp only at hk;subst hk;obtain rfl:=Zz9 h;obtain ⟨F,g1,_⟩:=hu;obtain ⟨G,g2,_⟩:=hv;simp only [Rp] at g1 g2;rw [g1.1,g2.1];refine ⟨rfl, ?_⟩;rw [run_equalIn_string w n fd.type x y (ZeC hi),ZpF]
 ·cases h
theorem ZgQ (m:Nat):∀{fs:List Field} {n:Nat} {ts:List TD} {cs ds:List CV} {us vs:List Value} {r:Bool} (xs ys:Array Value),Zad P n fs=some ts->ZtY ts cs ds=some r->Z6 e O w cs us->Z6 e O w ds vs->
  (∀j,us[j]? =xs[n+j]?)->(∀j,vs[j]? =ys[n+j]?)->(Op.eqFields (m+1) xs ys fs).run P w= .ok r w
 | [],n,ts,cs,ds,us,vs,r,xs,ys,hf,he,_,_,_,_=>by
  simp only [Zad,ZAb] at hf;subst hf;unfold ZtY at he
  split at he
  ·obtain rfl:=Zz9 he;simp [Op.eqFields]
  ·contradiction
  ·cases he
 | f::fs,n,ts,cs,ds,us,vs,r,xs,ys,hf,he,hu,hv,hx,hy=>by
  simp only [Zad] at hf
  split at hf
  ·rename_i hc;simp only [ZAd,bne_iff_ne,ne_eq,beq_iff_eq] at hc;obtain ⟨hn,ho⟩:=hc
   split at hf
   ·rename_i i ts' hi hrest;obtain rfl:=Zz9 hf;unfold ZtY at he
    split at he
    ·contradiction
    ·rename_i c cs d ds h;injection h with h3 h4
     subst h3 h4
     split at he
     ·rename_i r1 r2 h1 h2;obtain rfl:=Zz9 he;simp only [Z6] at hu hv;obtain ⟨u,us',rfl,hu1,hu2⟩:=hu;obtain ⟨v,vs',rfl,hv1,hv2⟩:=hv;obtain ⟨hg,pe⟩:=ZtZ hi h1 hu1 hv1 m;have px:xs[f.offset]? =some u:=by have:=hx 0;simp at this;rw [ho];exact this.symm
      have py:ys[f.offset]? =some v:=by have:=hy 0;simp at this;rw [ho];exact this.symm
      have ih:=ZgQ m (fs:=fs) (n:=n+1) xs ys hrest h2 hu2 hv2 (fun j=>by have:=hx (j+1);simp at this;rw [this];congr 1;omega) (fun j=>by have:=hy (j+1);simp at this;rw [this];congr 1;omega);have pa:(part f.type xs f.offset).run P w= .ok u w:=by simp [part,ZcJ hi hg,px]
      have pb:(part f.type ys f.offset).run P w= .ok v w:=by simp [part,ZcJ hi hg,py]
      simp only [Op.eqFields,Sem.run_ite,Sem.run_bind,pa,pb,pe,Result.andThen_ok];rw [if_pos (by simpa using hn)];cases r1
      ·simp
      ·simpa using ih
     ·cases he
    ·cases he
   ·cases hf
  ·cases hf
theorem Zjo {t:Nat} {tds:List TD} (ht:Zwn P t=some tds) {cs ds:List CV} {r:Bool} (hr:ZtY tds cs ds=some r) {us vs:List Value} (hu:Z6 e O w cs us) (hv:Z6 e O w ds vs) (oa ob:Operand):
  (do eqGuard .eql t oa ob (.agg us.toArray) (.agg vs.toArray);binOp .eql t (.agg us.toArray) (.agg vs.toArray):Sem Value).run P w= .ok (.bool r) w/\
  (do eqGuard .neq t oa ob (.agg us.toArray) (.agg vs.toArray);binOp .neq t (.agg us.toArray) (.agg vs.toArray):Sem Value).run P w= .ok (.bool (!r)) w:=by
 unfold Zwn at ht
 split at ht
 ·rename_i fs hfs
  split at ht
  ·rename_i hc;simp only [ZAd,Bool.not_eq_true'] at hc;have hfo:P.fieldsOf t=fs:=by simp [Program.fieldsOf,hfs]
   have h1:=run_equalIn_agg (P:=P) w 9999 t us.toArray vs.toArray (by rw [hfo];exact hfs) hc.1;rw [hfo] at h1;have h2:=ZgQ (P:=P) (e:=e) (O:=O) (w:=w) 9998 us.toArray vs.toArray ht hr hu hv (by simp) (by simp);rw [h2] at h1;have g1:=run_eqGuard_agg (P:=P) w .eql t oa ob us.toArray vs.toArray hc.2;have g2:=run_eqGuard_agg (P:=P) w .neq t oa ob us.toArray vs.toArray hc.2;rw [Sem.run_bind,Sem.run_bind,g1,g2,Result.andThen_ok,Result.andThen_ok,run_eql_struct,run_neq_struct,h1];exact ⟨rfl,rfl⟩
  ·cases ht
 ·cases ht
end
section
variable {e:Env} {O:St} {w:World} {N:Nat->Prop} {w0:Bs} {a:Act} {P:Program}
theorem Znc (h:Zz N w0 e O a w) {op:BinOp} {t t':Nat} {p q:Operand} {x:V} {s:Prop} (hv:Qg P O (.binOp op t p q t')=some (x,s)) (hs:s):
  ∃u,(do eqGuard op t p q (a.eval p) (a.eval q);binOp op t (a.eval p) (a.eval q):Sem Value).run P w= .ok u w/\x.rel e O w u:=by
 simp only [Qg] at hv
 split at hv
 ·rename_i k n j m hp hq
  split at hv
  ·rename_i hk;subst hk;obtain ⟨⟨r,s'⟩,hr,heq⟩:=Option.map_eq_some_iff.1 hv;obtain ⟨rfl,rfl⟩:=Prod.mk.inj heq;obtain ⟨h1,h2⟩:=ZhX h hp;obtain ⟨h3,h4⟩:=ZhX h hq;obtain ⟨g1,g2⟩:=Zv6 (P:=P) (e:=e) (O:=O) (w:=w) hr hs h2 h4 t p q;exact ⟨_,by rw [h1,h3];exact g1,g2⟩
  ·obtain ⟨⟨r,s'⟩,hr,heq⟩:=Option.map_eq_some_iff.1 hv;obtain ⟨rfl,rfl⟩:=Prod.mk.inj heq;obtain ⟨h1,h2⟩:=ZhX h hp;obtain ⟨h3,h4⟩:=ZhX h hq;obtain ⟨g1,g2⟩:=ZqT (P:=P) (e:=e) (O:=O) (w:=w) (j:=j) hr hs h2 t p q;exact ⟨_,by rw [h1,h3];exact g1,g2⟩
 ·rename_i n m hp hq;obtain ⟨⟨r,s'⟩,hr,heq⟩:=Option.map_eq_some_iff.1 hv;obtain ⟨rfl,rfl⟩:=Prod.mk.inj heq;obtain ⟨h1,h2⟩:=Zi4 h hp;obtain ⟨h3,h4⟩:=Zi4 h hq;obtain ⟨g1,g2⟩:=Zv5 (P:=P) (e:=e) (O:=O) (w:=w) hr hs t p q;exact ⟨_,by rw [h1,h3];exact g1,g2⟩
 ·rename_i n m hp hq;have h1:=Zd2 h hp;have h3:=Zd2 h hq
  split at hv
  ·rename_i hi;obtain ⟨rfl,rfl⟩:=Prod.mk.inj (Zz9 hv);exact ⟨.bool (n==m),by rw [h1,h3];simp [eqGuard,binOp,Op.equal,Op.maxDepth,run_equalIn_bool' w 9999 t n m (Zmq hi)],JU⟩
  ·rename_i hi;obtain ⟨rfl,rfl⟩:=Prod.mk.inj (Zz9 hv);exact ⟨.bool (!(n==m)),by rw [h1,h3];simp [eqGuard,binOp,Op.equal,Op.maxDepth,run_equalIn_bool' w 9999 t n m (Zmq hi)],JU⟩
  ·cases hv
 ·rename_i cs ds hp hq;obtain ⟨us,h1,h2⟩:=Zv h hp;obtain ⟨vs,h3,h4⟩:=Zv h hq
  split at hv
  ·rename_i tds ht
   split at hv
   ·rename_i r hr;obtain ⟨rfl,rfl⟩:=Prod.mk.inj (Zz9 hv);exact ⟨.bool r,by rw [h1,h3];exact (Zjo (P:=P) ht hr h2 h4 p q).1,JU⟩
   ·rename_i r hr;obtain ⟨rfl,rfl⟩:=Prod.mk.inj (Zz9 hv);exact ⟨.bool (!r),by rw [h1,h3];exact (Zjo (P:=P) ht hr h2 h4 p q).2,JU⟩
   ·cases hv
  ·cases hv
 ·cases hv
theorem Zow (h:Zz N w0 e O a w) {op:UnOp} {t:Nat} {p:Operand} {x:V} {s:Prop} (hv:Qg P O (.unOp op t p)=some (x,s)):
  ∃u,(Op.unary op (a.eval p)).run P w= .ok u w/\x.rel e O w u:=by
 simp only [Qg] at hv
 split at hv
 ·rename_i b hp;obtain ⟨rfl,rfl⟩:=Prod.mk.inj (Zz9 hv);exact ⟨_,by rw [Zd2 h hp];simp [Op.unary],JU⟩
 ·rename_i k n hp;obtain ⟨rfl,rfl⟩:=Prod.mk.inj (Zz9 hv);obtain ⟨h1,h2⟩:=ZhX h hp;exact ⟨.int k (k.wrap (0-n)),by rw [h1];simp [Op.unary,Op.intArith],WH (InK.wrap _ _)⟩
 ·cases hv
theorem Zf6:∀{es:List (List L)} {ns:List Int},ZdA es=some ns->es.length=ns.length
 | [],_,h=>by simp [ZdA] at h;subst h;rfl
 | e::es,ns,h=>by
  unfold ZdA at h
  split at h
  ·rename_i heq;cases heq
  ·rename_i n r heq;injection heq with e1 e2
   subst e1 e2;obtain ⟨m,h1,rfl⟩:=Option.map_eq_some_iff.1 h;simp [Zf6 h1]
  ·cases h
theorem Zd0:∀{es:List (List L)} {ns:List Int} {vs:List Value} {F:List Nat},ZdA es=some ns->RpE w es vs F->vs=ns.map (Value.int .u8)
 | [],_,_,_,h,hr=>by
  simp [ZdA] at h;subst h;simp only [RpE] at hr;simp [hr.1]
 | e::es,ns,vs,F,h,hr=>by
  unfold ZdA at h
  split at h
  ·rename_i heq;cases heq
  ·rename_i n r heq;injection heq with e1 e2
   subst e1 e2;obtain ⟨m,h1,rfl⟩:=Option.map_eq_some_iff.1 h;simp only [RpE,RpL,Rp] at hr;obtain ⟨v1,v2,F1,F2,rfl,rfl,⟨v,vs',G1,G2,rfl,rfl,⟨rfl,rfl,_⟩,rfl,rfl⟩,h3⟩:=hr;simp [Zd0 h1 h3]
  ·cases h
theorem Zis (ns:List Int):(Zne ns).size=ns.length:=by
 have key:∀(ns:List Int) (s:ByteArray),(ns.foldl (fun r n=>r.push (UInt8.ofNat n.toNat)) s).size=s.size+ns.length:=by
  intro ns
  induction ns with
  | nil=>intro s;simp
  | cons n ns ih=>intro s;simp only [List.foldl_cons,ih,ByteArray.size_push,List.length_cons];omega
 unfold Zne;rw [key];simp
theorem ZhK {A:Option Addr} {n c:Nat} {ns:List Int} (hn:n=ns.length) (hA:n=0\/∃b off,A=some ⟨b,off,none⟩/\At w b off (ns.map (Value.int .u8))):(Conv.bytesToString (.slice A n c)).run P w= .ok (.string (Zne ns)) w:=by
 rcases hA with h0| ⟨b,off,rfl,h1⟩
 ·have:ns=[]:=by cases ns with | nil=>rfl| cons _ _=>simp at hn;omega
  subst this;subst hn;cases A with
  | none=>simp [Conv.bytesToString,Zne]
  | some a=>
   have:=run_bytesToString (P:=P) w a 0 c [] (by simp [loadCells,loadCellsFrom])
   simpa [Zne] using this
 ·subst hn;have h2:=ZaY (P:=P) h1;simp only [List.length_map] at h2;exact run_bytesToString w _ _ _ ns h2
theorem ZkC (h:Zz N w0 e O a w) {t t':Nat} {p:Operand} {x:V} {s:Prop} (hv:Qg P O (.convert t t' p)=some (x,s)) (hs:s):
  ∃u,(convert t t' (a.eval p)).run P w= .ok u w/\x.rel e O w u:=by
 simp only [Qg] at hv
 split at hv
 ·rename_i k _ _ _ k' n hi1 hi2 hp;obtain ⟨rfl,rfl⟩:=Prod.mk.inj (Zz9 hv);obtain ⟨h1,h2⟩:=ZhX h hp;obtain ⟨j,d,z,g1,g2,_⟩:=WU hi1;refine ⟨.int k (k.wrap n), ?_,WH (InK.wrap _ _)⟩;rw [h1];simp [convert,run_underlying g2,run_underlying (Zlh hi2),Conv.intToInt]
 ·rename_i i _ _ _ st hi1 hi2 hp;obtain ⟨rfl,rfl⟩:=Prod.mk.inj (Zz9 hv);obtain ⟨h1,h2⟩:=Zi4 h hp;obtain ⟨j,d,z,g1,g2,_⟩:=WU hi1;refine ⟨.string st, ?_,ZfN h2⟩;rw [h1];simp only [convert,Sem.run_bind,run_underlying g2,run_underlying (ZeC hi2),Result.andThen_ok];cases d<;>simp
 ·rename_i et _ _ _ _ _ _ es hi1 hi2 hp
  split at hv
  ·rename_i _ _ _ hei;obtain ⟨ns,hns,heq⟩:=Option.map_eq_some_iff.1 hv;obtain ⟨rfl,rfl⟩:=Prod.mk.inj heq;obtain ⟨F,h1,h2⟩:=Zv h hp;simp only [Rp] at h1;obtain ⟨A,c,h3,h4,h5,h6⟩:=h1;have hl:=Zf6 hns;refine ⟨.string (Zne ns), ?_,ZfN (by unfold Fit;rw [Zis];omega)⟩;rw [h3,run_convert_bytes_string w t t' et A _ c (XY hi1) (Zlh hei) (ZeC hi2)];refine ZhK hl ?_;rcases h6 with ⟨rfl,_⟩| ⟨b,off,xs,Fs,rfl,q2,rfl,q4,q5⟩
   ·exact .inl rfl
   ·exact .inr ⟨b,off,rfl,by rw [<-Zd0 hns q5];exact q4⟩
  ·cases hv
 ·rename_i et _ _ _ _ _ _ τ n hi1 hi2 hp
  split at hv
  ·rename_i _ _ _ A hei hA;obtain ⟨ns,hns,heq⟩:=Option.map_eq_some_iff.1 hv;obtain ⟨rfl,rfl⟩:=Prod.mk.inj heq;have hs:A.es.length=n:=hs;have hl:=Zf6 hns;obtain ⟨A',hA',h1,p',c',h3⟩:=Zv h hp;rw [hA] at hA';obtain rfl:=Zz9 hA';have hv':=(h1 A rfl).2 hs;obtain ⟨p'',c,hρ,q1,q2,hc| ⟨b',vs,Fs,W',k1,k2,k3,k4,k5⟩⟩:=h.J0 hA
   ·refine ⟨.string (Zne ns), ?_,ZfN (by unfold Fit;rw [Zis];omega)⟩;rw [hv',hρ,run_convert_bytes_string w t t' et p'' _ c (XY hi1) (Zlh hei) (ZeC hi2)];exact ZhK hl (.inl (by rw [hc];rfl))
   ·refine ⟨.string (Zne ns), ?_,ZfN (by unfold Fit;rw [Zis];omega)⟩;rw [hv',hρ,run_convert_bytes_string w t t' et p'' _ c (XY hi1) (Zlh hei) (ZeC hi2)];exact ZhK hl (.inr ⟨b',0,k1,by rw [<-Zd0 hns k4];exact k2⟩)
  ·cases hv
 ·cases hv
theorem Zik (off:Nat):∀(us:List Value) (k:Nat) (cells:Array Value),off+k+us.length<=cells.size->
  ((us.zipIdx k).foldl (fun cs (x:Value×Nat)=>cs.setIfInBounds (off+x.2) x.1) cells).toList=cells.toList.take (off+k)++us++cells.toList.drop (off+k+us.length)
 | [],k,cells,_=>by simp
 | u::us,k,cells,h=>by
  simp only [List.zipIdx_cons,List.foldl_cons];rw [Zik off us (k+1) _ (by simp at h ⊢;omega)];simp only [List.length_cons] at h;simp only [Array.toList_setIfInBounds];have hlt:off+k<cells.toList.length:=by simp;omega
  rw [show off+(k+1)=off+k+1 by omega,List.take_set,List.take_succ_eq_append_getElem hlt,List.set_append_right _ _ (by rw [List.length_take];omega)];simp only [List.length_take];rw [Nat.min_eq_left (by omega),Nat.sub_self];simp only [List.set_cons_zero,List.length_cons];rw [List.drop_set];rw [if_pos (by omega)];simp [Nat.add_comm,Nat.add_left_comm]
theorem ZdX (h:Zz N w0 e O a w) {flds:List Field} {places:Nat->Option (Nat×Nat)}
  (hpl:∀(i:Nat) (fd:Field) fi,flds[i]? =some fd->ti P fd.type=some fi->places i=some (fd.offset,fi.size)):
  ∀{vs:List (Nat×V)} {us:List (Nat×Value)} {cells cs':List CV} {cur:Array Value},ZmZ P (flds.map fun f=>(f.offset,f.type)) cells vs=some cs'->Z6 e O w cells cur.toList->
   us.map (·.1)=vs.map (·.1)->(∀(j:Nat) p q,vs[j]? =some p->us[j]? =some q->p.2.rel e O w q.2)->
   ∃cur',Instr.fill places cur us=some cur'/\Z6 e O w cs' cur'.toList
 | [],us,cells,cs',cur,hf,hr,hm,_=>by
  simp only [ZmZ,ZAb] at hf;subst hf;have:us=[]:=by simpa using hm
  subst this;exact ⟨cur,rfl,hr⟩
 | (i,x)::vs,[],cells,cs',cur,hf,hr,hm,_=>by simp at hm
 | (i,x)::vs,(i',u)::us,cells,cs',cur,hf,hr,hm,hrel=>by
  simp only [List.map_cons,List.cons.injEq] at hm;obtain ⟨hi',hm⟩:=hm
  try simp only at hi'
  subst hi';have hxu:=hrel 0 (i',x) (i',u) rfl rfl
  try simp only at hxu
  have hrel':∀(j:Nat) p q,vs[j]? =some p->us[j]? =some q->p.2.rel e O w q.2:=fun j p q hp hq=>hrel (j+1) p q (by simpa using hp) (by simpa using hq);simp only [ZmZ] at hf
  split at hf
  ·rename_i off t hft;rw [List.getElem?_map] at hft;obtain ⟨fd,hfd,heq⟩:=Option.map_eq_some_iff.1 hft;obtain ⟨rfl,rfl⟩:=Prod.mk.inj heq
   split at hf
   ·rename_i fi c hfi
    split at hf
    ·rename_i hc;obtain ⟨hsz,hlt⟩:=hc;have hcu:u.cells= #[u]:=CV.rel.cells (c:=c) hxu |>.1
     have hlen:=hr.len
     have hr2:Z6 e O w (cells.set fd.offset c) (cur.setIfInBounds fd.offset u).toList:=by
      simp only [Array.toList_setIfInBounds];rw [List.set_eq_take_append_cons_drop,List.set_eq_take_append_cons_drop,if_pos hlt,if_pos (by rw [hlen];exact hlt)];refine (hr.take _).append ?_;simp only [Z6];exact ⟨u,_,rfl,hxu,hr.drop _⟩
     obtain ⟨cur',k1,k2⟩:=ZdX h hpl hf hr2 hm hrel';refine ⟨cur', ?_,k2⟩;unfold Instr.fill;rw [hpl i' fd fi hfd hfi];have hcl:cur.size=cells.length:=by rw [<-hlen];simp
     simp only [hcu,hsz];rw [if_neg (by simp [hcl];omega)]
     simpa using k1
    ·cases hf
   ·rename_i fi cs hfi
    split at hf
    ·rename_i hc;obtain ⟨hsz,hle⟩:=hc;obtain ⟨us',rfl,hus⟩:=hxu;have hcu:(Value.agg us'.toArray).cells=us'.toArray:=rfl;have hlen:=hr.len;have hl2:=hus.len;have hcl:cur.size=cells.length:=by rw [<-hlen];simp
     have hfs:=Zik fd.offset us' 0 cur (by omega)
     have hr2:Z6 e O w (cells.take fd.offset++cs++cells.drop (fd.offset+cs.length)) ((us'.zipIdx 0).foldl (fun cs (x:Value×Nat)=>cs.setIfInBounds (fd.offset+x.2) x.1) cur).toList:=by
      rw [hfs,Nat.add_zero,hl2];exact ((hr.take _).append hus).append (hr.drop _)
     obtain ⟨cur',k1,k2⟩:=ZdX h hpl hf hr2 hm hrel';refine ⟨cur', ?_,k2⟩;unfold Instr.fill;rw [hpl i' fd fi hfd hfi];simp only [hcu,hsz];rw [if_neg (by simp [hcl,hl2];omega)];rw [<-k1]
     congr 1
     simp [Array.zipIdx_toArray]
    ·cases hf
   ·cases hf
  ·cases hf
theorem ZdG (h:Zz N w0 e O a w):∀{ps:List (Nat×Operand)} {vs:List (Nat×V)},parts O ps=some vs->(ps.map fun x=>(x.1,a.eval x.2)).map (·.1)=vs.map (·.1)/\∀(j:Nat) p q,vs[j]? =some p->(ps.map fun x=>(x.1,a.eval x.2))[j]? =some q->p.2.rel e O w q.2
 | [],_,hp=>by simp [parts] at hp;subst hp;simp
 | (i,o)::ps,_,hp=>by
  simp only [parts] at hp
  split at hp
  ·rename_i v vs hv hvs;obtain rfl:=Zz9 hp;obtain ⟨h1,h2⟩:=ZdG h hvs;refine ⟨by simp at h1 ⊢;exact h1,fun j p q hj hq=> ?_⟩;cases j with
   | zero=>
    simp at hj hq;subst hj hq;exact Zv h hv
   | succ j=>exact h2 j p q (by simpa using hj) (by simpa using hq)
  ·cases hp
theorem ZhR:∀(fs:List Field),(∀fd∈fs,∃fi,ti P fd.type=some fi)->∃pl:List (Nat×Nat),(fs.mapM (fun f=>do pure (f.offset,<-sizeOf f.type):Field->Sem (Nat×Nat))).run P w= .ok pl w/\∀(i:Nat) fd fi,fs[i]? =some fd->ti P fd.type=some fi->pl[i]? =some (fd.offset,fi.size)
 | [],_=>⟨[],by simp,by simp⟩
 | f::fs,h=>by
  obtain ⟨fi,hfi⟩:=h f (by simp);obtain ⟨pl,h1,h2⟩:=ZhR fs (fun fd hfd=>h fd (by simp [hfd]));refine ⟨(f.offset,fi.size)::pl, ?_, ?_⟩
  ·rw [List.mapM_cons];simp only [Sem.run_bind,YC hfi,Result.andThen_ok,Sem.run_pure] at h1 ⊢;rw [h1]
   rfl
  ·intro i fd fi' hi hfi';cases i with
   | zero=>
    simp at hi;subst hi;rw [hfi] at hfi';obtain rfl:=Zz9 hfi'
    rfl
   | succ i=>exact h2 i fd fi' (by simpa using hi) hfi'
end
section
variable {e:Env} {O:St} {w:World} {N:Nat->Prop} {w0:Bs} {a:Act} {P:Program}
theorem Znb (h:Zz N w0 e O a w) {t:Nat} {ps:Array (Nat×Operand)} {x:V} {s:Prop} (hv:Qg P O (.build t ps)=some (x,s)):
  ∃u,(Instr.build t (ps.map fun (i,x)=>(i,a.eval x))).run P w= .ok u w/\x.rel e O w u:=by
 simp only [Qg] at hv
 split at hv
 ·rename_i fs _ _ z vs hi hps
  split at hv
  ·rename_i hall
   split at hv
   ·rename_i cells hz;obtain ⟨cs,hcs,heq⟩:=Option.map_eq_some_iff.1 hv;obtain ⟨rfl,rfl⟩:=Prod.mk.inj heq;obtain ⟨flds,hu,rfl⟩:=Zhx hi;obtain ⟨zv,hz1,hz2⟩:=ZjB hi w;simp only at hz2
    have hall':∀fd∈flds.toList,∃fi,ti P fd.type=some fi:=by
     intro fd hfd;rw [List.all_eq_true] at hall;have:=hall (fd.offset,fd.type) (List.mem_map.2 ⟨fd,hfd,rfl⟩);exact Option.isSome_iff_exists.1 this
    obtain ⟨pl,hp1,hp2⟩:=ZhR (P:=P) (w:=w) flds.toList hall';obtain ⟨q1,q2⟩:=ZdG h hps;obtain ⟨cur',k1,k2⟩:=ZdX (P:=P) h (flds:=flds.toList) (places:=fun i=>pl.toArray[i]?) (fun i fd fi hfd hfi=>by simpa using hp2 i fd fi hfd hfi) hcs (cur:=zv.cells) (by rw [hz2];exact ZcR hz) q1 q2;refine ⟨.agg cur', ?_,cur'.toList,by simp,k2⟩
    have hmp:(flds.mapM fun f=>do pure (f.offset,<-sizeOf f.type):Sem (Array (Nat×Nat))).run P w= .ok pl.toArray w:=by
     rw [Array.mapM_eq_mapM_toList,Sem.run_map,hp1]
     rfl
    have hfill:Instr.fill (fun i=>pl.toArray[i]?) zv.cells (ps.map fun (i,x)=>(i,a.eval x)).toList=some cur':=by
     rw [<-k1];congr 1;simp
    simp only [Instr.build,Sem.run_bind,hz1,Result.andThen_ok,run_underlying hu];rw [hmp];simp only [Result.andThen_ok,hfill,Sem.run_pure]
   ·cases hv
  ·cases hv
 ·cases hv
theorem Zjv (h:Zz N w0 e O a w) {d:Int} {o:Option Operand} {n:Int} (hb:VG O d o=some n):(o=none/\n=d)\/∃p k,o=some p/\a.eval p= .int k n:=by
 unfold VG at hb
 split at hb
 ·exact .inl ⟨rfl,(Zz9 hb).symm⟩
 ·rename_i p;obtain ⟨⟨k,m⟩,hn,rfl⟩:=Option.map_eq_some_iff.1 hb;exact .inr ⟨p,k,rfl,(Ze5 h hn).1⟩
theorem Wd (h:Zz N w0 e O a w) {lo hi:Option Operand} {len cap:Nat} {l hh:Int} (hl:VG O 0 lo=some l) (hhi:VG O len hi=some hh) (h0:0<=l) (h1:l<=hh) (h2:hh<=cap) (b:Bool):
  (Instr.sliceBounds b len cap (lo.map a.eval) (hi.map a.eval) none).run P w= .ok (l.toNat,hh.toNat,cap) w:=by
 have c1:0<=hh:=by omega
 rcases Zjv h hl with ⟨rfl,rfl⟩| ⟨p,k,rfl,hp⟩<;>rcases Zjv h hhi with ⟨rfl,rfl⟩| ⟨q,j,rfl,hq⟩
 ·simp [Instr.sliceBounds]
 ·simp [Instr.sliceBounds,hq,Instr.sliceBound,asIntOf,c1,h2]
 ·have:l<=(len:Int):=h1;simp [Instr.sliceBounds,hp,Instr.sliceBound,asIntOf,h0,this]
 ·have c3:l<=((hh.toNat:Nat):Int):=by omega
  simp [Instr.sliceBounds,hp,hq,Instr.sliceBound,asIntOf,c1,h2,h0];omega
theorem Rp.cut {es:List (List L)} {A:Option Addr} {n c:Nat} {F:List Nat} (h:Rp w (.sl es) (.slice A n c) F) {W l hh:Nat} (hW:∀x∈es,x.length=W) (h1:l<=hh) (h2:hh<=es.length):
  ∃F',Rp w (.sl ((es.take hh).drop l)) (.slice (if c=l then A else A.map (·.add (l*W))) (hh-l) (c-l)) F'/\∀b∈F',b∈F:=by
 simp only [Rp] at h;obtain ⟨A',c',h3,h4,h5,h6⟩:=h;injection h3 with e1 e2 e3
 subst e1 e2 e3;have hlen:((es.take hh).drop l).length=hh-l:=by rw [List.length_drop,List.length_take];omega
 by_cases hz:l=hh
 ·subst hz;have he:(es.take l).drop l=[]:=List.eq_nil_of_length_eq_zero (by omega);refine ⟨[], ?_,by simp⟩;simp only [Rp];exact ⟨_,_,by rw [hlen],by rw [hlen];omega,by omega,.inl (by simp [he])⟩
 ·rcases h6 with ⟨rfl,_⟩| ⟨b,off,xs,Fs,rfl,q2,rfl,q4,q5⟩
  ·simp at h2;omega
  ·have hsplit:es=es.take l++((es.take hh).drop l++es.drop hh):=by
    rw [<-List.append_assoc]
    have:es.take l++(es.take hh).drop l=es.take hh:=by
     have h9:=List.take_append_drop l (es.take hh);rw [List.take_take,Nat.min_eq_left h1] at h9;exact h9
    rw [this,List.take_append_drop]
   rw [hsplit] at q5;obtain ⟨v1,v2,F1,F2,rfl,rfl,g1,g2⟩:=q5.split;obtain ⟨v3,v4,F3,F4,rfl,rfl,g3,g4⟩:=g2.split
   have l1:v1.length=l*W:=by
    rw [g1.len,ZN (W:=W) (fun x hx=>hW x (List.mem_of_mem_take hx)),List.length_take,Nat.min_eq_left (by omega)]
   have ha:=q4.right.left;rw [l1] at ha;refine ⟨b::F3, ?_, ?_⟩
   ·simp only [Rp];refine ⟨_,_,by rw [hlen],by rw [hlen];omega,by omega,.inr ⟨b,off+l*W,v3,F3, ?_,q2,rfl,ha,g3⟩⟩;rw [if_neg (by omega)];simp [Addr.add_lit]
   ·intro x hx;rcases List.mem_cons.1 hx with rfl| hx
    ·simp
    ·simp [hx]
theorem Zmv (h:Zz N w0 e O a w) {t:Nat} {p:Operand} {lo hi:Option Operand} {x:V} {s:Prop} (hv:Qg P O (.slice t p lo hi none)=some (x,s)) (hs:s):
  ∃u,(Instr.sliceAt t (a.eval p) (lo.map a.eval) (hi.map a.eval) none).run P w= .ok u w/\x.rel e O w u:=by
 simp only [Qg] at hv
 split at hv
 ·rename_i st hi1 hp;have hu:=ZeC hi1;obtain ⟨h1,h2⟩:=Zi4 h hp
  split at hv
  ·rename_i l hh hl hhh;obtain ⟨rfl,rfl⟩:=Prod.mk.inj (Zz9 hv);obtain ⟨s1,s2,s3⟩:=hs;refine ⟨.string (st.extract l.toNat hh.toNat), ?_,ZfN ?_⟩
   ·have hb:=Wd (P:=P) h hl hhh s1 s2 s3 false;simp [Instr.sliceAt,run_underlying hu,h1,Instr.slice,hb]
   ·unfold Fit at h2 ⊢;rw [ByteArray.size_extract];omega
  ·cases hv
 ·rename_i et _ _ _ es hi1 hp;have hu:=XY hi1;obtain ⟨F,h1,h2⟩:=Zv h hp
  split at hv
  ·rename_i ei l hh hei hl hhh;obtain ⟨rfl,rfl⟩:=Prod.mk.inj (Zz9 hv);obtain ⟨s1,s2,s3,s4⟩:=hs;have h1':=h1;simp only [Rp] at h1';obtain ⟨A,c,h3,h4,h5,_⟩:=h1';rw [h3] at h1;obtain ⟨F',g1,g2⟩:=h1.cut (l:=l.toNat) (hh:=hh.toNat) s4 (by omega) (by omega);refine ⟨_, ?_,F',g1,fun b hb=>h2 b (g2 b hb)⟩;have hb:=Wd (P:=P) (cap:=c) h hl hhh s1 s2 (by omega) true;rw [h3];simp [Instr.sliceAt,run_underlying hu,Instr.slice,hb,YC hei]
  ·cases hv
 ·rename_i et _ _ _ τ n hi1 hp;have hu:=XY hi1
  split at hv
  ·cases hv
  ·split at hv
   ·rename_i ei l hh A hei hl hhh hA;obtain ⟨rfl,rfl⟩:=Prod.mk.inj (Zz9 hv);obtain ⟨s1,s2,s3,s4⟩:=hs;obtain ⟨A',hA',r1,_⟩:=Zv h hp;rw [hA] at hA';obtain rfl:=Zz9 hA';have hxv:=(r1 A rfl).2 s4;obtain ⟨p',c,hv',g1,g2,_⟩:=h.J0 hA;rw [s4] at hv' g1;have hb:=Wd (P:=P) (cap:=c) h hl hhh s1 s2 (by omega) true;refine ⟨.slice (if c=l.toNat then p' else p'.map (·.add (l.toNat*ei.size))) (hh.toNat-l.toNat) (c-l.toNat), ?_,some A,hA,fun B hB=> ?_,_,_,rfl,by omega⟩
    ·rw [hxv,hv'];simp [Instr.sliceAt,run_underlying hu,Instr.slice,hb,YC hei]
    ·obtain rfl:=Zz9 hB;refine ⟨by omega,fun _=>⟨by omega,by omega,p',c,_,hv',fun hq=> ?_,rfl⟩⟩
     split
     ·rename_i h0;have h1:l.toNat=0:=by omega
      rw [h1];cases p' with
      | none=>rfl
      | some ad=>simp [Addr.add]
     ·rfl
   ·cases hv
 ·rename_i et _ _ _ τ n lo0 hi0 W hi1 hp;have hu:=XY hi1
  split at hv
  ·rename_i ei l hh A hei hl hhh hA;obtain ⟨rfl,rfl⟩:=Prod.mk.inj (Zz9 hv);obtain ⟨s1,s2,s3,s4,rfl⟩:=hs;obtain ⟨A',hA',r1,_⟩:=Zv h hp;rw [hA] at hA';obtain rfl:=Zz9 hA';obtain ⟨t1,t2,p',c,q,hv',hq,hxv⟩:=(r1 A rfl).2 s4;obtain ⟨p2,c2,hv2,g1,g2,_⟩:=h.J0 hA;rw [hv'] at hv2;injection hv2 with _ _ hv2
   subst hv2;rw [s4] at g1;have hb:=Wd (P:=P) (cap:=c-lo0) h hl hhh s1 s2 (by omega) true;refine ⟨.slice (if c-lo0=l.toNat then q else q.map (·.add (l.toNat*ei.size))) (hh.toNat-l.toNat) (c-lo0-l.toNat), ?_,some A,hA,fun B hB=> ?_,_,_,by rw [Nat.add_sub_add_left],by omega⟩
   ·rw [hxv];simp [Instr.sliceAt,run_underlying hu,Instr.slice,hb,YC hei]
   ·obtain rfl:=Zz9 hB;refine ⟨by omega,fun _=>⟨by omega,by omega,p',c,_,hv',fun hq'=> ?_,by rw [Nat.add_sub_add_left,Nat.sub_sub]⟩⟩;rw [hq (by omega)]
    split
    ·rename_i h0;have h1:lo0=0/\l.toNat=0:=by omega
     rw [h1.1,h1.2]
    ·cases p' with
     | none=>rfl
     | some ad=>
      obtain ⟨b,o,sp⟩:=ad;simp only [Option.map_some,ZAb,Addr.add]
      by_cases h1:lo0*ei.size=0<;>by_cases h2:l.toNat*ei.size=0<;>simp [h1,h2,Nat.add_mul,Nat.add_assoc]
  ·cases hv
 ·cases hv
theorem ZfQ (h:Zz N w0 e O a w):∀{ps:List Operand} {vs:List V},Xs O ps=some vs->vs.length=ps.length/\∀(j:Nat) p q,vs[j]? =some p->(ps.map a.eval)[j]? =some q->p.rel e O w q
 | [],_,hp=>by simp [Xs] at hp;subst hp;simp
 | o::ps,_,hp=>by
  simp only [Xs] at hp
  split at hp
  ·rename_i v vs hv hvs;obtain rfl:=Zz9 hp;obtain ⟨h1,h2⟩:=ZfQ h hvs;refine ⟨by simp [h1],fun j p q hj hq=> ?_⟩;cases j with
   | zero=>
    simp at hj hq;subst hj hq;exact Zv h hv
   | succ j=>exact h2 j p q (by simpa using hj) (by simpa using hq)
  ·cases hp
theorem ZfR (h:Zz N w0 e O a w):∀{ps:List Operand} {vs:List V} {ns:List Int},Xs O ps=some vs->Zto vs=some ns->ps.map a.eval=ns.map (Value.int .i64)/\∀n∈ns,InK .i64 n
 | [],_,_,hp,hn=>by simp [Xs] at hp;subst hp;simp [Zto] at hn;subst hn;simp
 | o::ps,_,_,hp,hn=>by
  simp only [Xs] at hp
  split at hp
  ·rename_i v vs hv hvs;obtain rfl:=Zz9 hp;unfold Zto at hn
   split at hn
   ·rename_i heq;cases heq
   ·rename_i n rest heq;injection heq with e1 e2
    subst e1 e2;obtain ⟨ns,hns,rfl⟩:=Option.map_eq_some_iff.1 hn;obtain ⟨g1,g2⟩:=ZfR h hvs hns;obtain ⟨k1,k2⟩:=ZhX h hv;exact ⟨by simp [g1,k1],fun m hm=>by rcases List.mem_cons.1 hm with rfl| hm<;>first | exact k2| exact g2 m hm⟩
   ·cases hn
  ·cases hp
theorem ZoL (h:Zz N w0 e O a w) {p:Operand} {v:V} (hp:opd O p=some v) {n:Int} (hn:Zwm v=some n) (hns:∀s,v≠.one (.l (.str s))):∃A m c,a.eval p= .slice A m c/\n=(m:Int)/\InK .i64 n:=by
 have hr:=Zv h hp;unfold Zwm at hn
 split at hn
 ·rename_i es;obtain rfl:=Zz9 hn;obtain ⟨F,h1,h2⟩:=hr;simp only [Rp] at h1;obtain ⟨A,c,h3,h4,h5,_⟩:=h1;exact ⟨A,_,c,h3,rfl,(Kd _).2 ⟨by omega,by omega⟩⟩
 ·rename_i s;exact absurd rfl (hns s)
 ·rename_i τ m;obtain rfl:=Zz9 hn;obtain ⟨A,h1,h2,p',c,h3,h4⟩:=hr;exact ⟨p',m,c,h3,rfl,(Kd _).2 ⟨by omega,by omega⟩⟩
 ·obtain rfl:=Zz9 hn;exact ⟨none,0,0,hr,rfl,(Kd _).2 ⟨by omega,by omega⟩⟩
 ·rename_i τ j W off m;obtain rfl:=Zz9 hn;obtain ⟨A,h1,h2,p',c,h3,h4⟩:=hr;exact ⟨p',m,c,h3,rfl,(Kd _).2 ⟨by omega,by omega⟩⟩
 ·rename_i τ n lo hi W;obtain rfl:=Zz9 hn;obtain ⟨A,h1,h2,p',c,h3,h4⟩:=hr;exact ⟨p',hi-lo,c,h3,rfl,(Kd _).2 ⟨by omega,by omega⟩⟩
 ·cases hn
theorem Ztv (x y:Int) (t:Array TypeId) (ty:TypeId):(Builtin.max_ t ty #[.int .i64 x,.int .i64 y]).run P w= .ok (.int .i64 (if y>x then y else x)) w:=by
 simp [Builtin.max_,Builtin.max2]
theorem Ztu (x y:Int) (t:Array TypeId) (ty:TypeId):(Builtin.min_ t ty #[.int .i64 x,.int .i64 y]).run P w= .ok (.int .i64 (if y<x then y else x)) w:=by
 simp [Builtin.min_,Builtin.min2]
theorem JE {ρ:Operand->Value} {o:Oper} {s:Sem Value} {u:Value} (h:execOp ρ o=(do pure (.value (<-s)):Sem Next)) (hr:s.run P w= .ok u w):(execOp ρ o).run P w= .ok (.value u) w:=by
 rw [h,Sem.run_bind,hr];rfl
theorem Zhw (h:Zz N w0 e O a w) {o:Oper} {x:V} {s:Prop} (hv:Qg P O o.op=some (x,s)) (hs:s):
  ∃u,(execOp a.eval o).run P w= .ok (.value u) w/\x.rel e O w u:=by
 have hv0:=hv;unfold Qg at hv
 split at hv
 ·rename_i p ho;obtain ⟨y,hy,heq⟩:=Option.map_eq_some_iff.1 hv;obtain ⟨rfl,rfl⟩:=Prod.mk.inj heq;exact ⟨_,by simp [execOp,ho],Zv h hy⟩
 ·rename_i p ho;obtain ⟨y,hy,heq⟩:=Option.map_eq_some_iff.1 hv;obtain ⟨rfl,rfl⟩:=Prod.mk.inj heq;exact ⟨_,by simp [execOp,ho],Zv h hy⟩
 ·rename_i c p q ho
  split at hv
  ·rename_i b hc;have hcb:=Zd2 h hc
   split at hv
   ·rename_i u v hp hq;obtain ⟨rfl,rfl⟩:=Prod.mk.inj (Zz9 hv);refine ⟨.bool (bif b then u else v), ?_,JU⟩;simp only [execOp,ho,hcb,asBool,Sem.run_bind,Sem.run_pure,Result.andThen_ok,Zd2 h hp,Zd2 h hq];cases b<;>rfl
   ·rename_i vx vy _ hp hq;obtain ⟨rfl,rfl⟩:=Prod.mk.inj (Zz9 hv);refine ⟨if b then a.eval p else a.eval q,by simp [execOp,ho,hcb,asBool], ?_⟩;cases b
    ·exact Zv h hq
    ·exact Zv h hp
   ·cases hv
  ·cases hv
 ·rename_i t p ho;rw [ho] at hv0;obtain ⟨u,h1,h2⟩:=ZoK h hv0 hs;exact ⟨u,JE (by simp only [execOp,ho]) h1,h2⟩
 ·rename_i t p f ho;rw [ho] at hv0;obtain ⟨u,h1,h2⟩:=Zim h hv0 hs;exact ⟨u,JE (by simp only [execOp,ho]) h1,h2⟩
 ·rename_i t p f ho;rw [ho] at hv0;obtain ⟨u,h1,h2⟩:=Zm0 h hv0;exact ⟨u,JE (by simp only [execOp,ho]) h1,h2⟩
 ·rename_i t p i ho;rw [ho] at hv0;obtain ⟨u,h1,h2⟩:=ZhY h hv0 hs;exact ⟨u,JE (by simp only [execOp,ho]) h1,h2⟩
 ·rename_i t p i ho;rw [ho] at hv0;obtain ⟨u,h1,h2⟩:=ZmT h hv0 hs;exact ⟨u,JE (by simp only [execOp,ho]) h1,h2⟩
 ·rename_i t i ho;rw [ho] at hv0;obtain ⟨u,h1,h2⟩:=Zkx h hv0;exact ⟨u,JE (by simp only [execOp,ho]) h1,h2⟩
 ·rename_i p ho
  split at hv
  ·rename_i k o' hp;obtain ⟨rfl,rfl⟩:=Prod.mk.inj (Zz9 hv);have hr:=Zv h hp;have hr':=hr;obtain ⟨h1,h2⟩:=hr';exact ⟨_,by simp only [execOp,ho,h2];rfl,h1,rfl⟩
  ·rename_i ls hp;obtain ⟨rfl,rfl⟩:=Prod.mk.inj (Zz9 hv);have hr:=Zv h hp;have hr':=hr;obtain ⟨b,off,vs,F,h2,h3⟩:=hr';exact ⟨_,by simp only [execOp,ho,h2];rfl,b,off,vs,F,rfl,h3⟩
  ·cases hv
 ·rename_i op t p q t' ho;rw [ho] at hv0;obtain ⟨u,h1,h2⟩:=Znc h hv0 hs;exact ⟨u,JE (by simp only [execOp,ho]) h1,h2⟩
 ·rename_i op t p ho;rw [ho] at hv0;obtain ⟨u,h1,h2⟩:=Zow h hv0;exact ⟨u,JE (by simp only [execOp,ho]) h1,h2⟩
 ·rename_i t t' p ho;rw [ho] at hv0;obtain ⟨u,h1,h2⟩:=ZkC h hv0 hs;exact ⟨u,JE (by simp only [execOp,ho]) h1,h2⟩
 ·rename_i t ps ho;rw [ho] at hv0;obtain ⟨u,h1,h2⟩:=Znb h hv0;exact ⟨u,JE (by simp only [execOp,ho]) h1,h2⟩
 ·rename_i t p lo hi ho;rw [ho] at hv0;obtain ⟨u,h1,h2⟩:=Zmv h hv0 hs;exact ⟨u,JE (by simp only [execOp,ho,Option.map_none]) h1,h2⟩
 ·rename_i xs ts ho
  split at hv
  ·rename_i p t hxs hts;have hxs':xs= #[p]:=by rw [<-Array.toList_inj];exact hxs
   have hts':ts= #[t]:=by rw [<-Array.toList_inj];exact hts
   subst hxs' hts'
   split at hv
   ·rename_i et _ _ _ v hi hp
    split at hv
    ·cases hv
    ·rename_i hns;obtain ⟨n,hn,heq⟩:=Option.map_eq_some_iff.1 hv;obtain ⟨rfl,rfl⟩:=Prod.mk.inj heq;obtain ⟨A,m,c,h1,rfl,h3⟩:=ZoL h hp hn (fun s hs'=>hns s hs');refine ⟨.int .i64 m, ?_,WH h3⟩;simp [execOp,ho,resolve,invoke,builtin,Builtin.len_,h1,run_underlying (XY hi),goInt]
   ·rename_i _ _ _ st hi hp;obtain ⟨rfl,rfl⟩:=Prod.mk.inj (Zz9 hv);obtain ⟨h1,h2⟩:=Zi4 h hp;refine ⟨.int .i64 st.size, ?_,WH ((Kd _).2 ⟨by omega,by unfold Fit at h2;omega⟩)⟩;simp [execOp,ho,resolve,invoke,builtin,Builtin.len_,h1,run_underlying (ZeC hi),goInt]
   ·cases hv
  ·cases hv
 ·rename_i xs ts ho
  split at hv
  ·rename_i vs hvs
   split at hv
   ·rename_i x y hn;obtain ⟨rfl,rfl⟩:=Prod.mk.inj (Zz9 hv);obtain ⟨g1,g2⟩:=ZfR h hvs hn;have hm:xs.map a.eval= #[.int .i64 x,.int .i64 y]:=by rw [<-Array.toList_inj];simpa using g1
    refine ⟨.int .i64 (if y>x then y else x), ?_,WH (by split<;>first | exact g2 y (by simp)| exact g2 x (by simp))⟩;simp [execOp,ho,resolve,invoke,builtin,hm,Ztv]
   ·cases hv
  ·cases hv
 ·rename_i xs ts ho
  split at hv
  ·rename_i vs hvs
   split at hv
   ·rename_i x y hn;obtain ⟨rfl,rfl⟩:=Prod.mk.inj (Zz9 hv);obtain ⟨g1,g2⟩:=ZfR h hvs hn;have hm:xs.map a.eval= #[.int .i64 x,.int .i64 y]:=by rw [<-Array.toList_inj];simpa using g1
    refine ⟨.int .i64 (if y<x then y else x), ?_,WH (by split<;>first | exact g2 y (by simp)| exact g2 x (by simp))⟩;simp [execOp,ho,resolve,invoke,builtin,hm,Ztu]
   ·cases hv
  ·cases hv
 ·cases hv
end
structure Eff where
 side:Prop
 tm:List (Nat×V)
 bx:List (Nat×List CV)
 ar:List (Nat×Option Arr)
def St.app (O:St) (f:Eff):St:=⟨O.nt,f.tm++O.tm,f.bx++O.bx,f.ar++O.ar⟩
def Zfx:V->Option (List CV)
 | .one c=>some [c]
 | .agg cs=>some cs
 | _=>none
def Zpq (O:St):CV->Option (L×Bool×List Nat×Prop)
 | .l x=>some (x,x.flat,[],True)
 | .nil=>some (.sl [],true,[],True)
 | .own τ n=>match O.ar.lookup τ with
  | some (some A)=>if τ<1000000 then some (.sl A.es,A.fr,[τ],A.es.length=n) else none
  | _=>none
 | _=>none
def ZiY (O:St):List CV->Option (List L×Bool×List Nat×Prop)
 | []=>some ([],true,[],True)
 | c::cs=>match Zpq O c,ZiY O cs with
  | some (x,f,τ,p),some (xs,g,τs,q)=>some (x::xs,f&&g,τ++τs,p/\q)
  | _,_=>none
def ZkX (O:St):List (List CV)->Option (List (List L)×Bool×List Nat×Prop)
 | []=>some ([],true,[],True)
 | c::cs=>match ZiY O c,ZkX O cs with
  | some (x,f,τ,p),some (xs,g,τs,q)=>some (x::xs,f&&g,τ++τs,p/\q)
  | _,_=>none
section
variable {e:Env} {O:St} {w:World} {N:Nat->Prop} {w0:Bs} {a:Act} {P:Program}
theorem V.rel.cellsL {x:V} {u:Value} {cs:List CV} (h:x.rel e O w u) (hc:Zfx x=some cs):Z6 e O w cs u.cells.toList:=by
 cases x with
 | one c=>
  simp only [Zfx,ZAb] at hc;subst hc;have:=CV.rel.cells (c:=c) h;rw [this.1];simp only [Z6];exact ⟨u,[],rfl,h,rfl⟩
 | agg cs'=>
  simp only [Zfx,ZAb] at hc;subst hc;obtain ⟨vs,rfl,hr⟩:=h
  simpa [Value.cells] using hr
 | tup ps=>simp [Zfx] at hc
 | dead=>simp [Zfx] at hc
theorem Zz.newObj (h:Zz N w0 e O a w) {d:Nat} (hd:d<O.nt) (hn:O.bx.lookup d=none) {cs:List CV} {o:Obj} (hr:ZkO e O w cs (some o)) {c:CV} {v:Value} (hc:c.rel { e with β:=fun k=>if k=d then w.heap.size else e.β k} ⟨O.nt,(d,.one c)::O.tm,(d,cs)::O.bx,O.ar⟩ (w.alloc o) v):
  Zz N w0 { e with β:=fun k=>if k=d then w.heap.size else e.β k} ⟨O.nt,(d,.one c)::O.tm,(d,cs)::O.bx,O.ar⟩ (a.put (some d) v) (w.alloc o):=by
 have u:Up e O w { e with β:=fun k=>if k=d then w.heap.size else e.β k} ⟨O.nt,(d,.one c)::O.tm,(d,cs)::O.bx,O.ar⟩ (w.alloc o):=by
  refine ⟨by simp,fun b hb _=>Below.heap_alloc w _ b hb,fun b hb hm=> ?_,fun k cs' hk=> ?_,fun τ A hA=>⟨A,hA,fun B hB=>⟨B,hB,ZAe _,fun _=>rfl⟩⟩,fun τ _ ⟨B,hB⟩ _=>⟨rfl,fun b hb=>Below.heap_alloc w _ b (h.Yg (κ:=.a τ) ⟨B,hB⟩ b ((h.ar τ B hB).own hb).1).1⟩⟩
  ·rcases hm with h0| ⟨k,cs',h1,h2⟩| h1
   ·exact .inl h0
   ·simp only [lookup_cons] at h1
    by_cases hk:k=d
    ·simp [hk] at h2;omega
    ·simp only [if_neg hk] at h1 h2;exact .inr (.inl ⟨k,cs',h1,h2⟩)
   ·exact .inr (.inr h1)
  ·have hk':k≠d:=fun e=>by rw [e,hn] at hk;cases hk
   simp only [lookup_cons,if_neg hk'];exact ⟨⟨cs',hk⟩,trivial⟩
 refine h.Zox u (fun κ=>κ= .b d) (by rw [Z8];exact h.nt) (by rw [ZP];exact h.df)
  (Kp (by rw [h.nt];exact hd) hc) (fun k cs' hk hK=> ?_) (fun τ A hA _=>⟨hA,rfl,rfl,fun b hb=>Below.heap_alloc w _ b (h.Yg (κ:=.a τ) ⟨A,hA⟩ b hb).1⟩)
  (fun k cs' hk hK=> ?_) (fun τ A _ hK=>by cases hK) (fun κ _ hK b hb=> ?_) (fun κ κ' _ _ hne h1 h2=>absurd (h1.trans h2.symm) hne) (h.fr.alloc _) (fun _ h=>h) (fun _ h=>.inl h) (fun κ _ hK hd=>by subst hK;exact hd.elim) (fun k cs' _ hK hle=>by injection hK with hK;subst hK;have h1:O.nt<=k:=hle;omega) (fun κ b _ hK hb=>by subst hK;simp [tpB] at hb;subst hb;exact h.fr.new _ h.fr.size)
 ·have hk':k≠d:=fun e=>hK (by rw [e]);simp only [lookup_cons,if_neg hk'] at hk;exact ⟨hk,Below.heap_alloc w _ _ (h.Yg (κ:=.b k) ⟨cs',hk⟩ _ (by simp [blk])).1⟩
 ·injection hK with hK
  subst hK;simp at hk;subst hk;simp only [if_pos];exact ⟨h.tn _ (h.fr.new _ h.fr.size),by rw [heap_alloc_new w _];exact hr.up u⟩
 ·subst hK;simp [blk] at hb;exact .inr (.inr (by omega))
theorem Zz.Zsm (h:Zz N w0 e O a w) {d:Nat} (hd:d<O.nt) (hn:O.bx.lookup d=none) {cs:List CV} {us:Array Value} (hr:Z6 e O w cs us.toList) (t:Nat):
  Zz N w0 { e with β:=fun k=>if k=d then w.heap.size else e.β k} ⟨O.nt,(d,.one (.box d 0))::O.tm,(d,cs)::O.bx,O.ar⟩ (a.put (some d) (.pointer (some ⟨w.heap.size,0,none⟩))) (w.alloc (.cells us t)):=
 h.newObj hd hn (.inl ⟨us,t,rfl,hr⟩) ⟨⟨cs,by simp⟩,by simp⟩
theorem Zz.Zu0 (h:Zz N w0 e O a w) {k off:Nat} {cs new:List CV} (hk:O.bx.lookup k=some cs) {us:List Value} (hr:Z6 e O w new us) (hle:off+new.length<=cs.length) (hm:V7 cs=true):
  ∃w',(storeCells ⟨e.β k,off,none⟩ us).run P w= .ok () w'/\Zz N w0 e ⟨O.nt,O.tm,(k,cs.take off++new++cs.drop (off+new.length))::O.bx,O.ar⟩ a w':=by
 obtain ⟨hN,cur,ty,hh,hcs⟩:=h.bxC hk hm;have hl:=hr.len;have hl2:=hcs.len;have hst:=run_storeCells_at P (e.β k) off ty us 0 cur w hh (by rw [Array.length_toList] at hl2;omega) hr.one;rw [Nat.add_zero,hl] at hst;refine ⟨_,hst, ?_⟩;have hlt:=Vk hh;have other:∀b,b≠e.β k->(w.setRow (e.β k) (cur.toList.take off++us++cur.toList.drop (off+new.length)).toArray).heap[b]? =w.heap[b]? :=fun b hb=>setRow_other w _ b _ hb;have hmu:Mut e O (e.β k):=.inr (.inl ⟨k,cs,hk,rfl⟩)
 have u:Up e O w e ⟨O.nt,O.tm,(k,cs.take off++new++cs.drop (off+new.length))::O.bx,O.ar⟩ (w.setRow (e.β k) (cur.toList.take off++us++cur.toList.drop (off+new.length)).toArray):=by
  refine ⟨by simp,fun b hb hnm=>other b (fun e'=>hnm (e'▸hmu)),fun b hb hm'=> ?_,fun j cs' hj=> ?_,fun τ A hA=>⟨A,hA,fun B hB=>⟨B,hB,ZAe _,fun _=>rfl⟩⟩,fun τ _ ⟨B,hB⟩ _=>⟨rfl,fun b hb=>other b fun e'=>h.sep (.b k) (.a τ) ⟨cs,hk⟩ ⟨B,hB⟩ (by simp) (e.β k) (by simp [blk]) (e'▸((h.ar τ B hB).own hb).1)⟩⟩
  ·rcases hm' with h0| ⟨j,cs',h1,h2⟩| h1
   ·exact .inl h0
   ·simp only [lookup_cons] at h1
    by_cases hj:j=k
    ·subst hj;exact h2▸hmu
    ·simp only [if_neg hj] at h1;exact .inr (.inl ⟨j,cs',h1,h2⟩)
   ·exact .inr (.inr h1)
  ·refine ⟨?_,rfl⟩;simp only [lookup_cons]
   by_cases hj':j=k
   ·simp [hj']
   ·simp only [if_neg hj'];exact ⟨cs',hj⟩
 refine h.Zox u (fun κ=>κ= .b k) h.nt h.df (fun t v ht=>.inl ⟨ht,rfl⟩) (fun j cs' hj hK=> ?_) (fun τ A hA _=>⟨hA,rfl,rfl,fun b hb=>other b (fun e'=> ?_)⟩)
  (fun j cs' hj hK=> ?_) (fun τ A _ hK=>by cases hK) (fun κ hl' hK b hb=> ?_) (fun κ κ' _ _ hne h1 h2=>absurd (h1.trans h2.symm) hne) ?_ (fun _ h=>h) (fun _ h=>.inl h) (fun κ _ hK hd=>by subst hK;exact hd.elim) (fun j cs' _ hK hle=>by injection hK with hK;subst hK;exact h.pn _ cs hk hle) (fun κ b _ hK hb=>by subst hK;exact h.tp (.b k) b ⟨cs,hk⟩ hb)
 ·have hj':j≠k:=fun e=>hK (by rw [e]);simp only [lookup_cons,if_neg hj'] at hj;exact ⟨hj,other _ (fun e'=>h.sep (.b j) (.b k) ⟨cs',hj⟩ ⟨cs,hk⟩ (by simp [hj']) (e.β j) (by simp [blk]) (by simp [blk,e']))⟩
 ·exact h.sep (.b k) (.a τ) ⟨cs,hk⟩ ⟨A,hA⟩ (by simp) (e.β k) (by simp [blk]) (e'▸hb)
 ·injection hK with hK
  subst hK;simp only [lookup_cons,if_true] at hj;obtain rfl:=Zz9 hj;refine ⟨hN,.inl ⟨_,ty,setRow_heap w _ cur _ ty _ hh, ?_⟩⟩;have:=((hcs.take off).append hr).append (hcs.drop (off+new.length));exact this.up u
 ·subst hK;exact .inl ⟨⟨cs,hk⟩,hb⟩
 ·exact ⟨h.fr.gl,h.fr.os,h.fr.tape,h.fr.output,by simpa using h.fr.size,fun b hb hn=>(other b (fun e'=>hn (e'▸h.tp (.b k) _ ⟨cs,hk⟩ rfl))).trans (h.fr.block b hb hn),h.fr.new⟩
theorem Zz.setObj (h:Zz N w0 e O a w) {k:Nat} {cs new:List CV} (hk:O.bx.lookup k=some cs) {o:Obj} (hr:ZkO e O w new (some o)):
  Zz N w0 e ⟨O.nt,O.tm,(k,new)::O.bx,O.ar⟩ a ({ w with heap:=w.heap.setIfInBounds (e.β k) o}:World):=by
 have hN:=(h.bx k cs hk).1;have hlt:=(h.bx k cs hk).2.some;have other:∀b,b≠e.β k->({ w with heap:=w.heap.setIfInBounds (e.β k) o}:World).heap[b]? =w.heap[b]? :=fun b hb=>by simp [Array.getElem?_setIfInBounds,Ne.symm hb]
 have here:({ w with heap:=w.heap.setIfInBounds (e.β k) o}:World).heap[e.β k]? =some o:=by simp [hlt]
 have hmu:Mut e O (e.β k):=.inr (.inl ⟨k,cs,hk,rfl⟩)
 have u:Up e O w e ⟨O.nt,O.tm,(k,new)::O.bx,O.ar⟩ ({ w with heap:=w.heap.setIfInBounds (e.β k) o}:World):=by
  refine ⟨by simp,fun b hb hnm=>other b (fun e'=>hnm (e'▸hmu)),fun b hb hm'=> ?_,fun j cs' hj=> ?_,fun τ A hA=>⟨A,hA,fun B hB=>⟨B,hB,ZAe _,fun _=>rfl⟩⟩,fun τ _ ⟨B,hB⟩ _=>⟨rfl,fun b hb=>other b fun e'=>h.sep (.b k) (.a τ) ⟨cs,hk⟩ ⟨B,hB⟩ (by simp) (e.β k) (by simp [blk]) (e'▸((h.ar τ B hB).own hb).1)⟩⟩
  ·rcases hm' with h0| ⟨j,cs',h1,h2⟩| h1
   ·exact .inl h0
   ·simp only [lookup_cons] at h1
    by_cases hj:j=k
    ·subst hj;exact h2▸hmu
    ·simp only [if_neg hj] at h1;exact .inr (.inl ⟨j,cs',h1,h2⟩)
   ·exact .inr (.inr h1)
  ·refine ⟨?_,rfl⟩;simp only [lookup_cons]
   by_cases hj':j=k
   ·simp [hj']
   ·simp only [if_neg hj'];exact ⟨cs',hj⟩
 refine h.Zox u (fun κ=>κ= .b k) h.nt h.df (fun t v ht=>.inl ⟨ht,rfl⟩) (fun j cs' hj hK=> ?_) (fun τ A hA _=>⟨hA,rfl,rfl,fun b hb=>other b (fun e'=> ?_)⟩)
  (fun j cs' hj hK=> ?_) (fun τ A _ hK=>by cases hK) (fun κ hl' hK b hb=> ?_) (fun κ κ' _ _ hne h1 h2=>absurd (h1.trans h2.symm) hne) ?_ (fun _ h=>h) (fun _ h=>.inl h) (fun κ _ hK hd=>by subst hK;exact hd.elim) (fun j cs' _ hK hle=>by injection hK with hK;subst hK;exact h.pn _ cs hk hle) (fun κ b _ hK hb=>by subst hK;exact h.tp (.b k) b ⟨cs,hk⟩ hb)
 ·have hj':j≠k:=fun e=>hK (by rw [e]);simp only [lookup_cons,if_neg hj'] at hj;exact ⟨hj,other _ (fun e'=>h.sep (.b j) (.b k) ⟨cs',hj⟩ ⟨cs,hk⟩ (by simp [hj']) (e.β j) (by simp [blk]) (by simp [blk,e']))⟩
 ·exact h.sep (.b k) (.a τ) ⟨cs,hk⟩ ⟨A,hA⟩ (by simp) (e.β k) (by simp [blk]) (e'▸hb)
 ·injection hK with hK
  subst hK;simp only [lookup_cons,if_true] at hj;obtain rfl:=Zz9 hj;exact ⟨hN,by rw [here];exact hr.up u⟩
 ·subst hK;exact .inl ⟨⟨cs,hk⟩,hb⟩
 ·exact ⟨h.fr.gl,h.fr.os,h.fr.tape,h.fr.output,by simpa using h.fr.size,fun b hb hn=>(other b (fun e'=>hn (e'▸h.tp (.b k) _ ⟨cs,hk⟩ rfl))).trans (h.fr.block b hb hn),h.fr.new⟩
end
section
variable {e:Env} {O:St} {w:World} {N:Nat->Prop} {w0:Bs} {a:Act} {P:Program}
def UF (e:Env) (O:St) (τs:List Nat) (F:List Nat):Prop:=∀b∈F,¬Mut e O b\/∃τ∈τs,(e.ρ τ).ownBlock=some b
theorem UF.append {τs τs' F F':List Nat} (h:UF e O τs F) (k:UF e O τs' F'):UF e O (τs++τs') (F++F'):=by
 intro b hb;rcases List.mem_append.1 hb with hb| hb
 ·rcases h b hb with h1| ⟨τ,h1,h2⟩
  ·exact .inl h1
  ·exact .inr ⟨τ,by simp [h1],h2⟩
 ·rcases k b hb with h1| ⟨τ,h1,h2⟩
  ·exact .inl h1
  ·exact .inr ⟨τ,by simp [h1],h2⟩
theorem Zor (h:Zz N w0 e O a w) {c:CV} {v:Value} (hr:c.rel e O w v) {x:L} {f:Bool} {τs:List Nat} {p:Prop} (ha:Zpq O c=some (x,f,τs,p)) (hp:p):
  (∃F,Rp w x v F/\UF e O τs F)/\(f=true->Ow N w x v (τs.flatMap e.φ))/\(∀τ∈τs,∃A,O.ar.lookup τ=some (some A)/\(f=true->A.fr=true)/\τ<1000000):=by
 unfold Zpq at ha
 split at ha
 ·simp only [ZAb,ZAc] at ha;obtain ⟨rfl,rfl,rfl,rfl⟩:=ha;obtain ⟨F,h1,h2⟩:=hr;refine ⟨⟨F,h1,fun b hb=>.inl (h2 b hb)⟩,fun hf=> ?_,by simp⟩;exact (h1.flat (N:=N) hf).2
 ·simp only [ZAb,ZAc] at ha;obtain ⟨rfl,rfl,rfl,rfl⟩:=ha;have hv:v= .slice none 0 0:=hr;subst hv;refine ⟨⟨[], ?_,by simp [UF]⟩,fun _=> ?_,by simp⟩
  ·simp only [Rp];exact ⟨none,0,rfl,ZAe _,by omega,.inl (by simp)⟩
  ·simp only [Ow];exact ⟨none,0,rfl,by omega,.inl (by simp)⟩
 ·rename_i τ n
  split at ha
  ·rename_i A hA
   split at ha
   rotate_left
   ·cases ha
   rename_i hdp;simp only [ZAb,ZAc] at ha;obtain ⟨rfl,rfl,rfl,rfl⟩:=ha;obtain ⟨A',hA',h1,_⟩:=hr;rw [hA] at hA';obtain rfl:=Zz9 hA';have hv:=(h1 A rfl).2 hp;subst hv;have hok:=h.ar τ A hA;refine ⟨?_,fun hf=> ?_,fun κ hκ=> ?_⟩
   ·obtain ⟨p',c,hρ,g1,g2,hc| ⟨b,vs,Fs,W,rfl,q2,q3,q4,q5,q6⟩⟩:=h.elems hA hdp
    ·refine ⟨[], ?_,by simp [UF]⟩;simp only [Rp];exact ⟨p',c,hρ,g1,g2,.inl (by simp [hc])⟩
    ·refine ⟨b::Fs, ?_, ?_⟩
     ·simp only [Rp];exact ⟨_,c,hρ,g1,g2,.inr ⟨b,0,vs,Fs,rfl,(h.Yg (κ:=.a τ) ⟨A,hA⟩ b q5).1,rfl,q2,q4⟩⟩
     ·intro x hx;rcases List.mem_cons.1 hx with rfl| hx
      ·exact .inr ⟨τ,by simp,by rw [hρ];rfl⟩
      ·exact .inl (q6 x hx)
   ·obtain ⟨p',c,hρ,g1,hc| ⟨b,t,cur,Fs,W,rfl,q1,q2,q3,q4,q5,q6,q7⟩⟩:=hok
    ·obtain ⟨k1,rfl,rfl,k4⟩:=hc;simp only [Ow,List.flatMap_cons,List.flatMap_nil,List.append_nil];exact ⟨_,_,hρ,g1,.inl (by simp [k1,k4])⟩
    ·rcases q7 with ⟨k1,k2,k3,k4⟩| ⟨k1,_⟩
     ·simp only [Ow,List.flatMap_cons,List.flatMap_nil,List.append_nil];exact ⟨_,c,hρ,g1,.inr ⟨b,t,cur,Fs,W,rfl,q1,q2,q3,q4,q5,q6,k2,k4⟩⟩
     ·rw [hf] at k1;cases k1
   ·obtain rfl:=List.mem_singleton.1 hκ;exact ⟨A,hA,fun hf=>hf,hdp⟩
  ·cases ha
 ·cases ha
theorem Zhk (h:Zz N w0 e O a w):∀{cs:List CV} {vs:List Value},Z6 e O w cs vs->∀{xs:List L} {f:Bool} {τs:List Nat} {p:Prop},ZiY O cs=some (xs,f,τs,p)->p->
  (∃F,RpL w xs vs F/\UF e O τs F)/\(f=true->OwL N w xs vs (τs.flatMap e.φ))/\(∀τ∈τs,∃A,O.ar.lookup τ=some (some A)/\(f=true->A.fr=true)/\τ<1000000)/\xs.length=cs.length
 | [],vs,hr,xs,f,τs,p,ha,hp=>by
  simp only [Z6] at hr;subst hr;simp only [ZiY,ZAb,ZAc] at ha;obtain ⟨rfl,rfl,rfl,rfl⟩:=ha;exact ⟨⟨[],by simp [RpL],by simp [UF]⟩,fun _=>by simp [OwL],by simp,rfl⟩
 | c::cs,vs,hr,xs,f,τs,p,ha,hp=>by
  simp only [Z6] at hr;obtain ⟨v,vs',rfl,h1,h2⟩:=hr;simp only [ZiY] at ha
  split at ha
  ·rename_i x f1 τ1 p1 xs2 f2 τ2 p2 e1 e2;simp only [ZAb,ZAc] at ha;obtain ⟨rfl,rfl,rfl,rfl⟩:=ha;obtain ⟨⟨F1,k1,k2⟩,k3,k4⟩:=Zor h h1 e1 hp.1;obtain ⟨⟨F2,g1,g2⟩,g3,g4,g5⟩:=Zhk h h2 e2 hp.2;refine ⟨⟨F1++F2, ?_,k2.append g2⟩,fun hf=> ?_,fun τ hτ=> ?_,by simp [g5]⟩
   ·simp only [RpL];exact ⟨v,vs',F1,F2,rfl,rfl,k1,g1⟩
   ·simp only [ZAd] at hf;simp only [OwL,List.flatMap_append];exact ⟨v,vs',_,_,rfl,rfl,k3 hf.1,g3 hf.2⟩
   ·rcases List.mem_append.1 hτ with hτ| hτ
    ·obtain ⟨A,hA,hf,hd⟩:=k4 τ hτ;exact ⟨A,hA,fun h=>hf (by simp only [ZAd] at h;exact h.1),hd⟩
    ·obtain ⟨A,hA,hf,hd⟩:=g4 τ hτ;exact ⟨A,hA,fun h=>hf (by simp only [ZAd] at h;exact h.2),hd⟩
  ·cases ha
def Ztc (e:Env) (O:St) (w:World):List (List CV)->List Value->Prop
 | [],vs=>vs=[]
 | c::cs,vs=>∃v1 v2,vs=v1++v2/\Z6 e O w c v1/\Ztc e O w cs v2
theorem Zop (h:Zz N w0 e O a w):∀{cs:List (List CV)} {vs:List Value},Ztc e O w cs vs->∀{xs:List (List L)} {f:Bool} {τs:List Nat} {p:Prop},ZkX O cs=some (xs,f,τs,p)->p->
  (∃F,RpE w xs vs F/\UF e O τs F)/\(f=true->OwE N w xs vs (τs.flatMap e.φ))/\(∀τ∈τs,∃A,O.ar.lookup τ=some (some A)/\(f=true->A.fr=true)/\τ<1000000)/\xs.map List.length=cs.map List.length
 | [],vs,hr,xs,f,τs,p,ha,hp=>by
  simp only [Ztc] at hr;subst hr;simp only [ZkX,ZAb,ZAc] at ha;obtain ⟨rfl,rfl,rfl,rfl⟩:=ha;exact ⟨⟨[],by simp [RpE],by simp [UF]⟩,fun _=>by simp [OwE],by simp,rfl⟩
 | c::cs,vs,hr,xs,f,τs,p,ha,hp=>by
  simp only [Ztc] at hr;obtain ⟨v,vs',rfl,h1,h2⟩:=hr;simp only [ZkX] at ha
  split at ha
  ·rename_i x f1 τ1 p1 xs2 f2 τ2 p2 e1 e2;simp only [ZAb,ZAc] at ha;obtain ⟨rfl,rfl,rfl,rfl⟩:=ha;obtain ⟨⟨F1,k1,k2⟩,k3,k4,k5⟩:=Zhk h h1 e1 hp.1;obtain ⟨⟨F2,g1,g2⟩,g3,g4,g5⟩:=Zop h h2 e2 hp.2;refine ⟨⟨F1++F2, ?_,k2.append g2⟩,fun hf=> ?_,fun τ hτ=> ?_,by simp [g5,k5]⟩
   ·simp only [RpE];exact ⟨v,vs',F1,F2,rfl,rfl,k1,g1⟩
   ·simp only [ZAd] at hf;simp only [OwE,List.flatMap_append];exact ⟨v,vs',_,_,rfl,rfl,k3 hf.1,g3 hf.2⟩
   ·rcases List.mem_append.1 hτ with hτ| hτ
    ·obtain ⟨A,hA,hf,hd⟩:=k4 τ hτ;exact ⟨A,hA,fun h=>hf (by simp only [ZAd] at h;exact h.1),hd⟩
    ·obtain ⟨A,hA,hf,hd⟩:=g4 τ hτ;exact ⟨A,hA,fun h=>hf (by simp only [ZAd] at h;exact h.2),hd⟩
  ·cases ha
theorem JD (h:Zz N w0 e O a w):∀{τs:List Nat},(∀τ∈τs,∃A,O.ar.lookup τ=some (some A)/\A.fr=true)->τs.Nodup->(τs.flatMap e.φ).Nodup
 | [],_,_=>by simp
 | τ::τs,hl,hn=>by
  obtain ⟨hn1,hn2⟩:=List.nodup_cons.1 hn;obtain ⟨A,hA,hf⟩:=hl τ (by simp);simp only [List.flatMap_cons];refine List.nodup_append.2 ⟨?_,JD h (fun κ hκ=>hl κ (by simp [hκ])) hn2,fun b hb b' hb' hbb=> ?_⟩
  ·obtain ⟨p',c,hρ,g1,hc| ⟨b,t,cur,Fs,W,rfl,q1,q2,q3,q4,q5,q6,q7⟩⟩:=h.ar τ A hA
   ·rw [hc.2.2.2];exact List.nodup_nil
   ·rcases q7 with ⟨k1,k2,k3,k4⟩| ⟨k1,_⟩
    ·exact k3
    ·rw [hf] at k1;cases k1
  ·subst hbb;obtain ⟨κ,hκ,hbκ⟩:=List.mem_flatMap.1 hb';obtain ⟨B,hB,_⟩:=hl κ (by simp [hκ]);exact h.sep (.a τ) (.a κ) ⟨A,hA⟩ ⟨B,hB⟩ (by rintro ⟨⟩;exact hn1 hκ) b hb hbκ
def Zd7 (e:Env) (τ:Nat) (v:Value) (F:List Nat):Env:=⟨e.β,fun κ=>if κ=τ then v else e.ρ κ,fun κ=>if κ=τ then F else e.φ κ,e.bad⟩
def stA (O:St) (tm:List (Nat×V)) (τ:Nat) (A:Arr) (τs:List Nat):St:=⟨O.nt,tm,O.bx,(τ,some A)::(τs.map (fun κ=>(κ,none))++O.ar)⟩
theorem ZmM (τs:List Nat) (l:List (Nat×Option Arr)) (κ:Nat):(τs.map (fun κ=>(κ,(none:Option Arr)))++l).lookup κ=if κ∈τs then some none else l.lookup κ:=by
 induction τs with
 | nil=>simp
 | cons τ τs ih=>
  simp only [List.map_cons,List.cons_append,lookup_cons,ih,List.mem_cons]
  by_cases h1:κ=τ
  ·simp [h1]
  ·simp [h1]
theorem Vg (tm:List (Nat×V)) (τ:Nat) (A:Arr) (τs:List Nat) (κ:Nat):(stA O tm τ A τs).ar.lookup κ=if κ=τ then some (some A) else if κ∈τs then some none else O.ar.lookup κ:=by
 simp only [stA,lookup_cons,ZmM]
theorem ZlG {tm:List (Nat×V)} {τ:Nat} {A:Arr} {τs:List Nat} {v:Value} {F:List Nat} {b:Nat} (hm:Mut (Zd7 e τ v F) (stA O tm τ A τs) b):
  v.ownBlock=some b\/(e.bad b\/(∃k cs,O.bx.lookup k=some cs/\e.β k=b)\/∃κ B,κ≠τ/\κ∉τs/\O.ar.lookup κ=some (some B)/\(e.ρ κ).ownBlock=some b):=by
 rcases hm with h0| ⟨k,cs,h1,h2⟩| ⟨κ,B,h1,h2⟩
 ·exact .inr (.inl h0)
 ·exact .inr (.inr (.inl ⟨k,cs,h1,h2⟩))
 ·rw [Vg] at h1
  by_cases h3:κ=τ
  ·subst h3;simp only [Zd7,if_true] at h2;exact .inl h2
  ·rw [if_neg h3] at h1;simp only [Zd7,if_neg h3] at h2
   by_cases h4:κ∈τs
   ·rw [if_pos h4] at h1;cases h1
   ·rw [if_neg h4] at h1;exact .inr (.inr (.inr ⟨κ,B,h3,h4,h1,h2⟩))
theorem ZgP (h:Zz N w0 e O a w) {tm:List (Nat×V)} {τ:Nat} {A:Arr} {τs D:List Nat} {v:Value} {F G:List Nat} (hg:UF e O τs G) (hl:∀κ∈τs,∃B,O.ar.lookup κ=some (some B)/\κ<1000000) (hD:∀κ∈τs,κ∈D)
  (hG:∀b∈G,b<w.heap.size) (ht:∀b,v.ownBlock=some b->(∃κ A,κ∉τs/\O.ar.lookup κ=some (some A)/\(e.ρ κ).ownBlock=some b)\/w.heap.size<=b):∀b∈G,¬Mut (Zd7 e τ v F) (stA O tm τ A D) b:=by
 intro b hb hm;have hlt:=hG b hb;rcases ZlG hm with h1| h1
 ·rcases ht b h1 with ⟨κ0,B,hκ0,h2,h3⟩| h2
  ·rcases hg b hb with h4| ⟨κ,h4,h5⟩
   ·exact h4 (.inr (.inr ⟨κ0,B,h2,h3⟩))
   ·obtain ⟨C,hC,_⟩:=hl κ h4;exact h.sep (.a κ0) (.a κ) ⟨B,h2⟩ ⟨C,hC⟩ (by rintro ⟨⟩;exact hκ0 h4) b ((h.ar κ0 B h2).own h3).1 ((h.ar κ C hC).own h5).1
  ·omega
 ·rcases hg b hb with h4| ⟨κ,h4,h5⟩
  ·apply h4;rcases h1 with h0| ⟨k,cs,h1,h2⟩| ⟨κ,B,_,_,h1,h2⟩
   ·exact .inl h0
   ·exact .inr (.inl ⟨k,cs,h1,h2⟩)
   ·exact .inr (.inr ⟨κ,B,h1,h2⟩)
  ·obtain ⟨C,hC,hCd⟩:=hl κ h4;rcases h1 with h0| ⟨k,cs,h1,h2⟩| ⟨κ',B,h6,h7,h1,h2⟩
   ·have:1000000<=κ:=(h.bad.2 b h0).2 (.a κ) ⟨C,hC⟩ ((h.ar κ C hC).own h5).1;omega
   ·exact h.sep (.b k) (.a κ) ⟨cs,h1⟩ ⟨C,hC⟩ (by simp) b (by simp [blk,h2]) ((h.ar κ C hC).own h5).1
   ·exact h.sep (.a κ') (.a κ) ⟨B,h1⟩ ⟨C,hC⟩ (by rintro ⟨⟩;exact h7 (hD _ h4)) b ((h.ar κ' B h1).own h2).1 ((h.ar κ C hC).own h5).1
theorem Zig (h:Zz N w0 e O a w) {tm:List (Nat×V)} {τ:Nat} {A:Arr} {τs:List Nat} {v:Value} {F G:List Nat} (hg:UF e O τs G) (hl:∀κ∈τs,∃B,O.ar.lookup κ=some (some B)/\κ<1000000) (hτ:τ∉τs)
  (hG:∀b∈G,b<w.heap.size) (ht:∀b,v.ownBlock=some b->(∃A,O.ar.lookup τ=some (some A)/\(e.ρ τ).ownBlock=some b)\/w.heap.size<=b):∀b∈G,¬Mut (Zd7 e τ v F) (stA O tm τ A τs) b:=
 ZgP h hg hl (fun _ h=>h) hG fun b hb=>(ht b hb).imp (fun ⟨A,q⟩=>⟨τ,A,hτ,q⟩) id
theorem Zz.Zmy (h:Zz N w0 e O a w) {w':World} {τ:Nat} {A':Arr} {τs:List Nat} {v':Value} {F':List Nat} {row:Option Nat} {tm:List (Nat×V)} {a':Act}
  (hnd:τ<1000000) (hl:∀κ∈τs,∃B,O.ar.lookup κ=some (some B)/\κ<1000000) (hτ:τ∉τs) (hg:w.grownBy w' row)
  (hrow:∀b,row=some b->∃κ A,(κ=τ\/κ∈τs)/\O.ar.lookup κ=some (some A)/\(e.ρ κ).ownBlock=some b)
  (hold:∀A,O.ar.lookup τ=some A->∃B,A=some B/\B.es.length<=A'.es.length/\(A'.es.length=B.es.length->v'=e.ρ τ))
  (htop:∀b,v'.ownBlock=some b->(∃κ A,O.ar.lookup κ=some (some A)/\(e.ρ κ).ownBlock=some b)\/w.heap.size<=b)
  (hF:∀b∈F',(∃A,O.ar.lookup τ=some (some A)/\b∈e.φ τ)\/(∃κ∈τs,b∈e.φ κ)\/w.heap.size<=b)
  (hok:VJ N (Mut (Zd7 e τ v' F') (stA O tm τ A' τs)) w' A' v' F')
  (hnt:a'.tmps.size=O.nt) (hdf:a'.defers=[])
  (htm:Up e O w (Zd7 e τ v' F') (stA O tm τ A' τs) w'->∀t x,tm.lookup t=some x->(O.tm.lookup t=some x/\a'.tmps.getD t undef=a.tmps.getD t undef)\/x.rel (Zd7 e τ v' F') (stA O tm τ A' τs) w' (a'.tmps.getD t undef)):
  Zz N w0 (Zd7 e τ v' F') (stA O tm τ A' τs) a' w':=by
 have rowMut:∀b,row=some b->Mut e O b:=fun b hb=>by obtain ⟨κ,A,_,h1,h2⟩:=hrow b hb;exact .inr (.inr ⟨κ,A,h1,h2⟩)
 have low:∀κ,κ=τ\/κ∈τs->κ<1000000:=fun κ hκ=>by
  rcases hκ with rfl| hκ
  ·exact hnd
  ·obtain ⟨_,_,q⟩:=hl κ hκ;exact q
 have u:Up e O w (Zd7 e τ v' F') (stA O tm τ A' τs) w':=by
  refine ⟨hg.size,fun b hb hm=>hg.block b hb (fun e=>hm (rowMut b e.symm)),fun b hb hm=> ?_,fun k cs hk=>⟨⟨cs,hk⟩,rfl⟩,fun κ B hB=> ?_,fun κ hκ ⟨B,hB⟩ _=> ?_⟩
  rotate_right
  ·have h1:κ≠τ:=by omega
   refine ⟨by simp [Zd7,h1],fun b hb=>hg.block b (h.Yg (κ:=.a κ) ⟨B,hB⟩ b ((h.ar κ B hB).own hb).1).1 (fun e'=> ?_)⟩;obtain ⟨κ2,A,k2,h3,h4⟩:=hrow b e'.symm;have:=low κ2 k2;exact h.sep (.a κ) (.a κ2) ⟨B,hB⟩ ⟨A,h3⟩ (by rintro ⟨⟩;omega) b ((h.ar κ B hB).own hb).1 ((h.ar κ2 A h3).own h4).1
  ·rcases ZlG hm with h1| h1
   ·rcases htop b h1 with ⟨κ,B,h2,h3⟩| h2
    ·exact .inr (.inr ⟨κ,B,h2,h3⟩)
    ·omega
   ·rcases h1 with h0| ⟨k,cs,h1,h2⟩| ⟨κ,B,_,_,h1,h2⟩
    ·exact .inl h0
    ·exact .inr (.inl ⟨k,cs,h1,h2⟩)
    ·exact .inr (.inr ⟨κ,B,h1,h2⟩)
  ·rw [Vg]
   by_cases h1:κ=τ
   ·subst h1;rw [if_pos rfl];obtain ⟨B',k1,k2,k3⟩:=hold B hB;refine ⟨_,rfl,fun C hC=>⟨B',k1, ?_⟩⟩;obtain rfl:=Zz9 hC;exact ⟨k2,fun hn=>by simp only [Zd7,if_true];exact k3 hn⟩
   ·rw [if_neg h1]
    by_cases h2:κ∈τs
    ·rw [if_pos h2];exact ⟨none,rfl,by simp⟩
    ·rw [if_neg h2];exact ⟨B,hB,fun C hC=>⟨C,hC,ZAe _,fun _=>by simp [Zd7,h1]⟩⟩
 refine h.Zox u (fun κ=>κ= .a τ) hnt hdf (htm u) (fun k cs hk _=>⟨hk, ?_⟩) (fun κ B hB hK=> ?_) (fun k cs _ hK=>by cases hK) (fun κ B hB hK=> ?_) (fun κ hl' hK b hb=> ?_) (fun κ κ' _ _ hne h1 h2=>absurd (h1.trans h2.symm) hne)
  (h.fr.grown hg fun b hb=>by obtain ⟨κ,A,_,h1,h2⟩:=hrow b hb;exact h.tp (.a κ) b ⟨A,h1⟩ (.inl h2)) (fun _ h=>h) (fun _ h=>.inl h) (fun κ _ hK hd=>by subst hK;have:1000000<=τ:=hd;omega) (fun k cs _ hK _=>by cases hK)
  (fun κ b _ hK hb=>by
   subst hK;rcases hb with hb| ⟨hb,_⟩
   ·simp only [Zd7,if_true] at hb;rcases htop b hb with ⟨κ,A,h1,h2⟩| h1
    ·exact h.tp (.a κ) b ⟨A,h1⟩ (.inl h2)
    ·exact h.fr.new b (Nat.le_trans h.fr.size h1)
   ·omega)
 ·refine hg.block _ (h.Yg (κ:=.b k) ⟨cs,hk⟩ _ (by simp [blk])).1 (fun e'=> ?_);obtain ⟨κ,A,_,h1,h2⟩:=hrow _ e'.symm;exact h.sep (.b k) (.a κ) ⟨cs,hk⟩ ⟨A,h1⟩ (by simp) (e.β k) (by simp [blk]) ((h.ar κ A h1).own h2).1
 ·have h1:κ≠τ:=fun e'=>hK (by rw [e']);rw [Vg,if_neg h1] at hB
  by_cases h2:κ∈τs
  ·rw [if_pos h2] at hB;cases hB
  ·rw [if_neg h2] at hB;refine ⟨hB,by simp [Zd7,h1],by simp [Zd7,h1],fun b hb=>hg.block b (h.Yg (κ:=.a κ) ⟨B,hB⟩ b hb).1 (fun e'=> ?_)⟩;obtain ⟨κ2,A,k2,h3,h4⟩:=hrow b e'.symm;exact h.sep (.a κ) (.a κ2) ⟨B,hB⟩ ⟨A,h3⟩ (by rintro ⟨⟩;rcases k2 with k2| k2<;>first | exact h1 k2| exact h2 k2) b hb ((h.ar κ2 A h3).own h4).1
 ·injection hK with hK
  subst hK;rw [Vg,if_pos rfl] at hB;obtain rfl:=Zz9 (Zz9 hB);simp only [Zd7,if_true];exact hok
 ·subst hK;simp only [blk,Zd7,if_true] at hb;rcases hF b hb with ⟨A,h1,h2⟩| ⟨κ,h1,h2⟩| h1
  ·exact .inl ⟨⟨A,h1⟩,h2⟩
  ·obtain ⟨B,hB,hBd⟩:=hl κ h1;refine .inr (.inl ⟨.a κ,.inl ?_,⟨B,hB⟩,h2,fun hdk=> ?_⟩)
   rotate_left
   ·have:1000000<=κ:=hdk;omega
   rintro ⟨C,hC⟩;rw [Vg,if_neg (by rintro rfl;exact hτ h1),if_pos h1] at hC;cases hC
  ·exact .inr (.inr h1)
theorem Zz.ZnG (h:Zz N w0 e O a w) {w':World} {τ:Nat} {A':Arr} {τs:List Nat} {v':Value} {F':List Nat} {row:Option Nat} {tm:List (Nat×V)} {a':Act}
  (hnd:τ<1000000) (hl:∀κ∈τs,∃B,O.ar.lookup κ=some (some B)/\κ<1000000) (hτ:τ∉τs) (hg:w.grownBy w' row)
  (hrow:∀b,row=some b->∃A,O.ar.lookup τ=some (some A)/\(e.ρ τ).ownBlock=some b)
  (hold:∀A,O.ar.lookup τ=some A->∃B,A=some B/\B.es.length<=A'.es.length/\(A'.es.length=B.es.length->v'=e.ρ τ))
  (htop:∀b,v'.ownBlock=some b->(∃A,O.ar.lookup τ=some (some A)/\(e.ρ τ).ownBlock=some b)\/w.heap.size<=b)
  (hF:∀b∈F',(∃A,O.ar.lookup τ=some (some A)/\b∈e.φ τ)\/(∃κ∈τs,b∈e.φ κ)\/w.heap.size<=b)
  (hok:VJ N (Mut (Zd7 e τ v' F') (stA O tm τ A' τs)) w' A' v' F')
  (hnt:a'.tmps.size=O.nt) (hdf:a'.defers=[])
  (htm:Up e O w (Zd7 e τ v' F') (stA O tm τ A' τs) w'->∀t x,tm.lookup t=some x->(O.tm.lookup t=some x/\a'.tmps.getD t undef=a.tmps.getD t undef)\/x.rel (Zd7 e τ v' F') (stA O tm τ A' τs) w' (a'.tmps.getD t undef)):
  Zz N w0 (Zd7 e τ v' F') (stA O tm τ A' τs) a' w':=
 h.Zmy hnd hl hτ hg (fun b hb=>(hrow b hb).elim fun A q=>⟨τ,A,.inl rfl,q⟩) hold (fun b hb=>(htop b hb).imp (fun ⟨A,q⟩=>⟨τ,A,q⟩) id) hF hok hnt hdf htm
end
section
variable {e:Env} {O:St} {w:World} {N:Nat->Prop} {w0:Bs} {a:Act} {P:Program}
theorem Zz.Zsn (h:Zz N w0 e O a w) {d τ:Nat} (hd:d<O.nt) (hdp:τ<1000000) (hn:O.ar.lookup τ=none) {es:List (List L)} {f:Bool} {τs:List Nat} {us:Array Value} {W:Nat} (t:Nat)
  (hr:∃F,RpE w es us.toList F/\UF e O τs F) (ho:f=true->OwE N w es us.toList (τs.flatMap e.φ)) (hl:∀κ∈τs,∃A,O.ar.lookup κ=some (some A)/\(f=true->A.fr=true)/\κ<1000000) (hnd:f=true->τs.Nodup)
  (hW:∀x∈es,x.length=W) (hlen:es.length<=9223372036854775807) (hus:us.size=es.length*W):
  Zz N w0 (Zd7 e τ (.slice (some ⟨w.heap.size,0,none⟩) es.length es.length) (if f then w.heap.size::τs.flatMap e.φ else [w.heap.size])) (stA O ((d,.one (.own τ es.length))::O.tm) τ ⟨f,es⟩ τs)
   (a.put (some d) (.slice (some ⟨w.heap.size,0,none⟩) es.length es.length)) (w.alloc (.cells us t)):=by
 have hτ:τ∉τs:=fun hm=>by obtain ⟨A,hA,_⟩:=hl τ hm;rw [hn] at hA;cases hA
 have hl':∀κ∈τs,∃B,O.ar.lookup κ=some (some B)/\κ<1000000:=fun κ hκ=>by obtain ⟨A,hA,_,hd⟩:=hl κ hκ;exact ⟨A,hA,hd⟩
 have hinner:∀b∈τs.flatMap e.φ,∃κ∈τs,b∈e.φ κ:=fun b hb=>by obtain ⟨κ,h1,h2⟩:=List.mem_flatMap.1 hb;exact ⟨κ,h1,h2⟩
 have htake:us.toList.take (es.length*W)=us.toList:=List.take_of_length_le (by simp [hus])
 have htop:∀b,(Value.slice (some ⟨w.heap.size,0,none⟩) es.length es.length).ownBlock=some b->(∃A,O.ar.lookup τ=some (some A)/\(e.ρ τ).ownBlock=some b)\/w.heap.size<=b:=fun b hb=>by
  simp [Value.ownBlock] at hb;exact .inr (by omega)
 obtain ⟨F,r1,r2⟩:=hr;have sm:∀F:List Nat,(∀b∈F,b<w.heap.size)->Sm w (w.alloc (.cells us t)) F:=fun F hF=>⟨by simp,fun b hb=>Below.heap_alloc w _ b (hF b hb)⟩
 refine h.ZnG (row:=none) hdp hl' hτ (World.grownBy_alloc w _ none) (by simp) (fun A hA=>by rw [hn] at hA;cases hA) htop (fun b hb=> ?_) ⟨_,_,rfl,hlen,.inr ⟨w.heap.size,t,us, ?_⟩⟩ (by rw [Z8];exact h.nt) (by rw [ZP];exact h.df)
  (fun u=>Kp (by rw [h.nt];exact hd) ⟨some ⟨f,es⟩,by rw [Vg,if_pos rfl],fun B hB=> ?_,_,_,rfl,hlen⟩)
 ·cases f
  ·simp at hb;exact .inr (.inr (by omega))
  ·simp only [if_true] at hb;rcases List.mem_cons.1 hb with rfl| hb
   ·exact .inr (.inr (ZAe _))
   ·exact .inr (.inl (hinner b hb))
 ·cases f
  ·refine ⟨F,W,rfl,h.tn _ (h.fr.new _ h.fr.size),heap_alloc_new w _,ZAe _,hus,hW,fun he=>by (have h2:es=[]:=he);simp [h2],.inr ⟨rfl,rfl, ?_, ?_⟩⟩
   ·rw [htake];exact r1.keep (sm F r1.lt)
   ·exact Zig h r2 hl' hτ r1.lt htop
  ·have ho':=ho rfl
   have hlt:∀b∈τs.flatMap e.φ,b<w.heap.size:=fun b hb=>by
    obtain ⟨κ,h1,h2⟩:=hinner b hb;obtain ⟨A,hA,_⟩:=hl' κ h1;exact (h.Yg (κ:=.a κ) ⟨A,hA⟩ b h2).1
   refine ⟨τs.flatMap e.φ,W,rfl,h.tn _ (h.fr.new _ h.fr.size),heap_alloc_new w _,ZAe _,hus,hW,fun he=>by (have h2:es=[]:=he);simp [h2],.inl ⟨rfl,rfl, ?_, ?_⟩⟩
   ·simp only [if_true];exact List.nodup_cons.2 ⟨fun hm=>by have:=hlt _ hm;omega,JD h (fun κ hκ=>by obtain ⟨A,hA,hf,_⟩:=hl κ hκ;exact ⟨A,hA,hf rfl⟩) (hnd rfl)⟩
   ·rw [htake];exact ho'.keep (sm _ hlt)
 ·obtain rfl:=Zz9 hB;exact ⟨ZAe _,fun _=>by simp [Zd7]⟩
theorem ZiQ (base:Nat) (t tx ty e te:TypeId) (i:TypeInfo) (z:Value) (size bytes:Nat) (ht:P.underlying t=some (.slice e)) (hi:P.info? e=some i) (hz:i.zero=some z)
  (hsize:i.size=size) (hby:i.bytes=bytes) (hzs:z.cells.size=size)
  (v:Value) (n:Nat) (xs:List Value) (hown:w.ownsRow base te size v n xs)
  (x:Value) (m:Nat) (news:List Value) (hs:_root_.Go.Src P size tx x m news w)
  (h63:n+m<=140737488355328) (hbytes:(n+m)*bytes<=140737488355328) (hbase:base<=w.heap.size):
  ∃v' w' te',(Builtin.append_ #[t,tx] ty #[v,x]).run P w= .ok v' w'/\w'.ownsRow base te' size v' (n+m) (xs++news)/\w.grownBy w' v.ownBlock/\
   (v'.ownBlock=v.ownBlock\/v'.ownBlock=some w.heap.size)/\(m=0->v'=v):=by
 subst hsize;subst hby;have hl:=hs.newsLen;have h1:=hs.one;have hm63:n+m<=maxLen:=by simp only [maxLen];omega
 have hlen:(xs++news).length=(n+m)*i.size:=by rw [List.length_append,hown.1,hl,Nat.add_mul]
 by_cases hm:m=0
 ·subst hm;have hnn:news=[]:=List.eq_nil_of_length_eq_zero (by simpa using hl);subst hnn;refine ⟨v,w,te, ?_,by simpa using hown,⟨rfl,rfl,rfl,ZAe _,fun _ _ _=>rfl⟩,.inl rfl,fun _=>rfl⟩;have hfc:=hs.cells;rcases hown.2 with ⟨rfl,rfl⟩| ⟨g,cap,cur,rfl,hbg,hg,hnc,hcm,hcs,htake⟩
  ·rcases hs.kind with ⟨e',hk⟩| hk<;>simp [Builtin.append_,run_underlying ht,run_underlying hk,sizeOf,typeInfo,hi,hs.len,hfc]
  ·rcases hs.kind with ⟨e',hk⟩| hk<;>simp [Builtin.append_,run_underlying ht,run_underlying hk,sizeOf,typeInfo,hi,hs.len,hfc,hnc,storeCells]
 ·have grown:∀(old:Nat),old<n+m->∀(row:Option Nat),
    (w.drew.alloc (.cells ((xs++news).toArray++Builtin.zeroCells z.cells (grownCap w (n+m) old e-(n+m))) e)).ownsRow base e i.size
     (.slice (some ⟨w.heap.size,0,none⟩) (n+m) (grownCap w (n+m) old e)) (n+m) (xs++news)/\
    w.grownBy (w.drew.alloc (.cells ((xs++news).toArray++Builtin.zeroCells z.cells (grownCap w (n+m) old e-(n+m))) e)) row:=by
   intro old ho row;have hge:=grownCap_ge w (n+m) old e;have hcm:grownCap w (n+m) old e<=maxLen:=grownCap_le_maxLen w (n+m) old e hm63;refine ⟨⟨hlen,.inr ⟨w.heap.size,_,_,rfl,hbase,heap_alloc_new w.drew _,hge,hcm, ?_, ?_⟩⟩,⟨rfl,rfl,rfl,by simp,fun k hk _=>Below.heap_alloc w.drew _ k hk⟩⟩
   ·simp only [Array.size_append,List.size_toArray,size_zeroCells,hzs,List.length_append,hown.1,hl,<-Nat.add_mul]
    congr 1
    omega
   ·simp only [Array.toList_append];rw [<-hlen];exact List.take_left
  rcases hown.2 with ⟨rfl,rfl⟩| ⟨g,cap,cur,rfl,hbg,hg,hnc,hcm,hcs,htake⟩
  ·have hx:xs=[]:=List.eq_nil_of_length_eq_zero (by simpa using hown.1);subst hx;have hr:=run_append_grow_src (P:=P) w t tx ty e i z ht hi hz none 0 0 [] (by simp [Builtin.firstCells]) x m news hs (by omega) (by omega) (growslice_fits (by omega) hbytes);have hgr:=grown 0 (by omega) (Value.ownBlock (.slice none 0 0));simp only [Nat.zero_add,List.nil_append] at hr hgr ⊢;exact ⟨_,_,e,hr,hgr.1,hgr.2,.inr rfl,fun h=>absurd h hm⟩
  ·by_cases hroom:n+m<=cap
   ·have hfit:n*i.size+news.length<=cur.size:=by rw [hl,hcs,<-Nat.add_mul];exact Nat.mul_le_mul_right _ hroom
    have hf:=hs.cells;have hst:=run_storeCells_at P g (n*i.size) te news 0 cur w hg (by simpa using hfit) h1;simp only [Nat.add_zero] at hst
    have hr:(Builtin.append_ #[t,tx] ty #[.slice (some ⟨g,0,none⟩) n cap,x]).run P w=
      .ok (.slice (some ⟨g,0,none⟩) (n+m) cap) (w.setRow g (cur.toList.take (n*i.size)++news++cur.toList.drop (n*i.size+news.length)).toArray):=by
     rcases hs.kind with ⟨e',hk⟩| hk<;>simp [Builtin.append_,run_underlying ht,run_underlying hk,sizeOf,typeInfo,hi,hs.len,hroom,hf,Addr.add_lit,hst]
    refine ⟨_,_,te,hr,⟨hlen,.inr ⟨g,cap,_,rfl,hbg,setRow_heap w g cur _ te _ hg,hroom,hcm, ?_, ?_⟩⟩,⟨rfl,rfl,rfl,by simp,fun k _ hk=>setRow_other w g k _ (fun e=>hk (by simp [Value.ownBlock,e]))⟩,.inl rfl,fun h=>absurd h hm⟩
    ·simp only [List.size_toArray,List.length_append,List.length_take,List.length_drop,Array.length_toList];omega
    ·rw [htake,<-hlen];exact List.take_left
   ·have holds:∀j u,xs[j]? =some u->w.cell? ((⟨g,0,none⟩:Addr).add j)=some u:=hown.cells (g:=g) rfl;have hr:=run_append_grow_src (P:=P) w t tx ty e i z ht hi hz (some ⟨g,0,none⟩) n cap xs (run_firstCells_some w.drew i.size n ⟨g,0,none⟩ n cap xs hown.1 (by simpa using holds)) x m news hs (by omega) (by omega) (growslice_fits (by omega) hbytes);have hgr:=grown cap (by omega) (Value.ownBlock (.slice (some ⟨g,0,none⟩) n cap));exact ⟨_,_,e,hr,hgr.1,hgr.2,.inr rfl,fun h=>absurd h hm⟩
theorem VJ.row {M:Nat->Prop} {A:Arr} {v:Value} {F:List Nat} (h:VJ N M w A v F) {W:Nat} (hW:∀x∈A.es,x.length=W):
  ∃te xs Fs,w.ownsRow 0 te W v A.es.length xs/\RpE w A.es xs Fs/\(A.fr=true->OwE N w A.es xs Fs/\Fs.Nodup/\(∀b∈Fs,b∈F)/\∀b,v.ownBlock=some b->b∉Fs)/\(A.fr=false->∀x∈Fs,¬M x)/\(A.es=[]->∀p n c,v= .slice p n c->c=0):=by
 obtain ⟨p,c,rfl,hc,⟨h1,rfl,rfl,rfl⟩| ⟨b,t,cur,Fs,W',rfl,h1,h2,h3,h4,h5,h6,h7⟩⟩:=h
 ·refine ⟨0,[],[],⟨by simp [h1],.inl (by simp [h1])⟩,by simp [h1,RpE],fun _=>⟨by simp [h1,OwE],by simp,by simp,by simp⟩,by simp,fun _ p n c e=>by injection e with _ _ e;exact e.symm⟩
 ·have hWW:A.es≠[]->W'=W:=fun hne=>by
   obtain ⟨x,hx⟩:=List.exists_mem_of_ne_nil _ hne;rw [<-h5 x hx,hW x hx]
  have hsz:cur.size=c*W:=by
   by_cases hne:A.es=[]
   ·rw [h4,h6 hne];simp
   ·rw [h4,hWW hne]
  have htk:A.es.length*W'=A.es.length*W:=by
   by_cases hne:A.es=[]
   ·simp [hne]
   ·rw [hWW hne]
  rw [htk] at h7;refine ⟨t,cur.toList.take (A.es.length*W),Fs,⟨?_,.inr ⟨b,c,cur,rfl,Nat.zero_le _,h2,h3,hc,hsz,rfl⟩⟩, ?_,fun hf=> ?_,fun hf=> ?_,fun he p n c' e=> ?_⟩
  ·rw [List.length_take,Array.length_toList,hsz];exact Nat.min_eq_left (Nat.mul_le_mul_right _ h3)
  ·rcases h7 with ⟨_,_,_,g⟩| ⟨_,_,g,_⟩
   ·exact g.rp
   ·exact g
  ·rcases h7 with ⟨_,g1,g2,g3⟩| ⟨g,_⟩
   ·rw [g1] at g2;obtain ⟨k1,k2⟩:=List.nodup_cons.1 g2;refine ⟨g3,k2,fun x hx=>by simp [g1,hx],fun b' hb'=> ?_⟩;simp [Value.ownBlock] at hb';subst hb';exact k1
   ·rw [hf] at g;cases g
  ·rcases h7 with ⟨g,_⟩| ⟨_,_,_,g⟩
   ·rw [hf] at g;cases g
   ·exact g
  ·injection e with _ _ e
   rw [<-e];exact h6 he
theorem VJ.Zsl {M:Nat->Prop} {A:Arr} {v:Value} {te W:Nat} {xs:List Value} {Fs:List Nat} (h:w.ownsRow 0 te W v A.es.length xs) (hN:∀b,v.ownBlock=some b->N b) (hW:∀x∈A.es,x.length=W) (hc:A.es=[]->∀p n c,v= .slice p n c->c=0)
  (ho:A.fr=true->OwE N w A.es xs Fs/\Fs.Nodup/\∀b,v.ownBlock=some b->b∉Fs) (hr:A.fr=false->RpE w A.es xs Fs/\∀x∈Fs,¬M x):
  VJ N M w A v (match v.ownBlock with | some b=>if A.fr then b::Fs else [b]| none=>[]):=by
 rcases h.2 with ⟨rfl,hn⟩| ⟨g,cap,cur,rfl,hb,hh,hnc,hcm,hcs,htake⟩
 ·have he:A.es=[]:=List.eq_nil_of_length_eq_zero hn;refine ⟨none,0,by rw [hn],by omega,.inl ⟨he,rfl,rfl,rfl⟩⟩
 ·refine ⟨some ⟨g,0,none⟩,cap,rfl,hcm,.inr ⟨g,te,cur,Fs,W,rfl,hN g rfl,hh,hnc,hcs,hW,fun he=>hc he _ _ _ rfl, ?_⟩⟩;rw [htake];cases hf:A.fr
  ·obtain ⟨k1,k2⟩:=hr hf;exact .inr ⟨rfl,by simp [Value.ownBlock],k1,k2⟩
  ·obtain ⟨k1,k2,k3⟩:=ho hf;have k4:g∉Fs:=k3 g rfl;exact .inl ⟨rfl,by simp [Value.ownBlock],by simp [Value.ownBlock,k4,k2],k1⟩
end
section
variable {e:Env} {O:St} {w:World} {N:Nat->Prop} {w0:Bs} {a:Act} {P:Program}
structure Src (N:Nat->Prop) (e:Env) (O:St) (w:World) (v:Value) (ys:List (List L)) (W:Nat) (f:Bool) (τs:List Nat):Prop where
 ex:∃A c us Fx,v= .slice A ys.length c/\us.length=ys.length*W/\(A=none->ys.length=0)/\(∀ad,A=some ad->∀j u,us[j]? =some u->w.cell? (ad.add j)=some u)/\(∀u∈us,u.oneCell'=true)/\
  RpE w ys us Fx/\UF e O τs Fx/\(f=true->∃G,OwE N w ys us G/\G.Nodup/\∀b∈G,∃κ∈τs,b∈e.φ κ)
 lv:∀κ∈τs,∃B,O.ar.lookup κ=some (some B)/\κ<1000000
structure ZsK (P:Program) (tx:Nat) (N:Nat->Prop) (e:Env) (O:St) (w:World) (v:Value) (ys:List (List L)) (W:Nat) (f:Bool) (τs:List Nat):Prop where
 ex:∃us Fx,_root_.Go.Src P W tx v ys.length us w/\RpE w ys us Fx/\UF e O τs Fx/\(f=true->∃G,OwE N w ys us G/\G.Nodup/\∀b∈G,∃κ∈τs,b∈e.φ κ)
 lv:∀κ∈τs,∃B,O.ar.lookup κ=some (some B)/\κ<1000000
theorem Src.toA {v:Value} {ys:List (List L)} {W:Nat} {f:Bool} {τs:List Nat} (h:Src N e O w v ys W f τs) {tx e':Nat} (hk:P.underlying tx=some (.slice e')):ZsK P tx N e O w v ys W f τs:=by
 obtain ⟨A,c,us,Fx,rfl,hul,hA,hn,h1,hr,hg,ho⟩:=h.ex;refine ⟨⟨us,Fx, ?_,hr,hg,ho⟩,h.lv⟩;cases A with
 | none=>
  have h0:=hA rfl;rw [h0] at hul;have:us=[]:=List.eq_nil_of_length_eq_zero (by simpa using hul);subst this;rw [h0];exact _root_.Go.Src.ofNil w hk c
 | some ad=>exact _root_.Go.Src.ofSlice w hk ad _ c us hul (hn ad rfl) h1
def byE (s:ByteArray):List (List L):=s.data.toList.map fun c=>[L.int .u8 c.toNat]
theorem Zuf (w:World) (l:List UInt8):RpE w (l.map fun c=>[L.int .u8 c.toNat]) (l.map fun b=>Value.int .u8 b.toNat) []:=by
 induction l with
 | nil=>simp [RpE]
 | cons c l ih=>
  simp only [List.map_cons,RpE,RpL,Rp];refine ⟨[Value.int .u8 c.toNat],_,[],[],rfl,rfl,⟨_,[],[],[],rfl,rfl,⟨rfl,rfl, ?_⟩,rfl,rfl⟩,ih⟩;have:=c.toNat_lt;unfold InK;exact IntWalk.u8_in _ ⟨by omega,by omega⟩
theorem Zr0 (l:List UInt8):VI (l.map fun c=>[L.int .u8 c.toNat])=true:=by
 refine List.all_eq_true.2 fun e he=> ?_;obtain ⟨x,_,rfl⟩:=List.mem_map.1 he
 rfl
theorem ZsK.ofString {tx:Nat} (hk:P.underlying tx=some .string) (s:ByteArray):ZsK P tx N e O w (.string s) (byE s) 1 true []:=by
 have hr:=Zuf w s.data.toList;refine ⟨⟨_root_.Go.byteCells s,[], ?_,hr,by simp [UF],fun _=> ?_⟩,by simp⟩
 ·have:=_root_.Go.Src.ofString w hk s;rw [show (byE s).length=s.size by unfold byE;simp];exact this
 ·obtain ⟨_,o⟩:=hr.flat (N:=N) (Zr0 _);exact ⟨[],o,by simp,by simp⟩
theorem Rp.one {x:L} {v:Value} {F:List Nat} (h:Rp w x v F):v.oneCell'=true:=by
 cases x<;>simp only [Rp] at h
 ·rw [h.1];rfl
 ·rw [h.1];rfl
 ·rw [h.1];rfl
 ·obtain ⟨A,c,h,_⟩:=h;rw [h];rfl
 ·obtain ⟨⟨A,n,c,h⟩,_⟩:=h;rw [h];rfl
theorem RpL.one:∀{xs:List L} {vs:List Value} {F:List Nat},RpL w xs vs F->∀u∈vs,u.oneCell'=true
 | [],_,_,h=>by simp only [RpL] at h;simp [h.1]
 | _::_,_,_,h=>by
  simp only [RpL] at h;obtain ⟨v,vs',F1,F2,rfl,rfl,h1,h2⟩:=h;intro u hu;rcases List.mem_cons.1 hu with rfl| hu
  ·exact h1.one
  ·exact RpL.one h2 u hu
theorem RpE.one:∀{xs:List (List L)} {vs:List Value} {F:List Nat},RpE w xs vs F->∀u∈vs,u.oneCell'=true
 | [],_,_,h=>by simp only [RpE] at h;simp [h.1]
 | _::_,_,_,h=>by
  simp only [RpE] at h;obtain ⟨v1,v2,F1,F2,rfl,rfl,h1,h2⟩:=h;intro u hu;rcases List.mem_append.1 hu with hu| hu
  ·exact h1.one u hu
  ·exact RpE.one h2 u hu
theorem Zz.Znh (h:Zz N w0 e O a w) {d τ:Nat} (hd:d<O.nt) {A0:Arr} {v:Value} {own:Option Nat} {x:Value} {ys:List (List L)} {W:Nat} {f:Bool} {τs D:List Nat} {tx:Nat} (hs:ZsK P tx N e O w x ys W f τs) (hτ:τ∉D) (hdp:τ<1000000)
  (hsame:∀A,O.ar.lookup τ=some A->A=some A0/\v=e.ρ τ)
  (hown:∀κ,own=some κ->κ∉τs/\(κ=τ\/κ∈D)) (hD:∀κ∈τs,κ∈D) (hDl:∀κ∈D,∃B,O.ar.lookup κ=some (some B)/\κ<1000000)
  (vtop:∀b,v.ownBlock=some b->∃κ A,own=some κ/\O.ar.lookup κ=some (some A)/\(e.ρ κ).ownBlock=some b)
  (hrow:∃te xs Fs,w.ownsRow 0 te W v A0.es.length xs/\RpE w A0.es xs Fs/\(A0.fr=true->OwE N w A0.es xs Fs/\Fs.Nodup/\(∀b∈Fs,∃κ A,own=some κ/\O.ar.lookup κ=some (some A)/\b∈e.φ κ)/\∀b,v.ownBlock=some b->b∉Fs)/\
   (∀x∈Fs,¬Mut e O x)/\(A0.es=[]->ys=[]->∀p n c,v= .slice p n c->c=0))
  {t ty et:Nat} {ei:TI} (ht:P.underlying t=some (.slice et)) (hi:ti P et=some ei) (hsz:ei.size=W) (hz:ei.zero.length=W)
  (hW:∀z∈A0.es++ys,z.length=W) (hb1:A0.es.length+ys.length<=140737488355328) (hb2:(A0.es.length+ys.length)*ei.bytes<=140737488355328):
  ∃v' w' e',(Builtin.append_ #[t,tx] ty #[v,x]).run P w= .ok v' w'/\
   Zz N w0 e' (stA O ((d,.one (.own τ (A0.es.length+ys.length)))::O.tm) τ ⟨A0.fr&&f,A0.es++ys⟩ D) (a.put (some d) v') w':=by
 obtain ⟨us,Fx,hsrc,hrx,hgx,hox⟩:=hs.ex;have hul:=hsrc.newsLen;have h1:=hsrc.one;have hlv:=hs.lv;obtain ⟨j,dd,z,j1,j2,j3,j4,j5,j6,j7⟩:=WU hi;obtain ⟨te,xs,Fs,r1,r2,r3,hFs,r5⟩:=hrow;have vmut:∀b,v.ownBlock=some b->Mut e O b:=fun b hb=>by obtain ⟨κ,A,_,g1,g2⟩:=vtop b hb;exact .inr (.inr ⟨κ,A,g1,g2⟩)
 obtain ⟨v',w',te',hrun,g1,g2,g3,g4⟩:=ZiQ (P:=P) (w:=w) 0 t tx ty et te j z W ei.bytes ht j1 j3 (by rw [j5,hsz]) j6 (by rw [<-hz,<-j7];simp) v A0.es.length xs r1 x ys.length us hsrc hb1 hb2 (Nat.zero_le _);have hFslt:∀b∈Fs,b<w.heap.size:=r2.lt;have hFxlt:∀b∈Fx,b<w.heap.size:=hrx.lt
 have given:UF e O τs (Fs++Fx):=by
  intro b hb;rcases List.mem_append.1 hb with hb| hb
  ·exact .inl (hFs b hb)
  ·exact hgx b hb
 have apart:∀b κ B,v.ownBlock=some b->κ∈τs->O.ar.lookup κ=some (some B)->b∉e.φ κ:=fun b κ B hv k1 hB hb=>by
  obtain ⟨κ0,A,p0,q1,q2⟩:=vtop b hv;exact h.sep (.a κ0) (.a κ) ⟨A,q1⟩ ⟨B,hB⟩ (by rintro ⟨⟩;exact (hown _ p0).1 k1) b ((h.ar κ0 A q1).own q2).1 hb
 have notTop:∀b∈Fs++Fx,v.ownBlock≠some b:=by
  intro b hb hv;rcases given b hb with k| ⟨κ,k1,k2⟩
  ·exact k (vmut b hv)
  ·obtain ⟨B,hB,_⟩:=hlv κ k1;exact apart b κ B hv k1 hB ((h.ar κ B hB).own k2).1
 have keep:∀b,b<w.heap.size->v.ownBlock≠some b->w'.heap[b]? =w.heap[b]? :=fun b hb hv=>g2.block b hb (Ne.symm hv)
 have htop:∀b,v'.ownBlock=some b->(∃κ A,own=some κ/\O.ar.lookup κ=some (some A)/\(e.ρ κ).ownBlock=some b)\/w.heap.size<=b:=by
  intro b hb;rcases g3 with g3| g3
  ·exact .inl (vtop b (g3▸hb))
  ·rw [hb] at g3;obtain rfl:=Zz9 g3;exact .inr (ZAe _)
 have hlen:(A0.es++ys).length=A0.es.length+ys.length:=List.length_append
 obtain ⟨G,hG⟩:∃G:List Nat,f=true->OwE N w ys us G/\G.Nodup/\∀b∈G,∃κ∈τs,b∈e.φ κ:=by
  cases f
  ·exact ⟨[],by simp⟩
  ·obtain ⟨G,q⟩:=hox rfl;exact ⟨G,fun _=>q⟩
 have hform:∃p n c,v'= .slice p n c/\n=A0.es.length+ys.length:=by
  rcases g1.2 with ⟨q,q'⟩| ⟨_,_,_,q,_⟩
  ·exact ⟨_,_,_,q,q'.symm⟩
  ·exact ⟨_,_,_,q,rfl⟩
 have okN:=VJ.Zsl (N:=N) (M:=Mut (Zd7 e τ v' (match v'.ownBlock with | some b=>if A0.fr&&f then b::(if A0.fr&&f then Fs++G else Fs++Fx) else [b]| none=>[])) (stA O ((d,.one (.own τ (A0.es.length+ys.length)))::O.tm) τ ⟨A0.fr&&f,A0.es++ys⟩ D)) (A:=⟨A0.fr&&f,A0.es++ys⟩) (v:=v') (te:=te') (W:=W) (xs:=xs++us) (Fs:=if A0.fr&&f then Fs++G else Fs++Fx)
  (by rw [show (Arr.mk (A0.fr&&f) (A0.es++ys)).es.length=A0.es.length+ys.length from hlen];exact g1)
  (fun b hb=>by
   rcases htop b hb with ⟨κ,A,_,q1,q2⟩| q
   ·exact ((h.ar κ A q1).own q2).2.1
   ·exact h.tn b (h.fr.new b (Nat.le_trans h.fr.size q)))
  hW
  (fun he p n c hv=>by
   have he':A0.es++ys=[]:=he;obtain ⟨e1,e2⟩:=List.append_eq_nil_iff.1 he';have:=g4 (by simp [e2]);exact r5 e1 e2 p n c (this▸hv))
  (fun hf=>by
   have hf':(A0.fr&&f)=true:=hf;simp only [ZAd] at hf';obtain ⟨k1,k2,k3,k4⟩:=r3 hf'.1;obtain ⟨q1,q2,q3⟩:=hG hf'.2;rw [if_pos (by simp [hf'.1,hf'.2])]
   have hGin:∀b∈G,∃κ∈τs,∃B,O.ar.lookup κ=some (some B)/\b∈e.φ κ:=fun b hb=>by
    obtain ⟨κ,m1,m2⟩:=q3 b hb;obtain ⟨B,hB,_⟩:=hlv κ m1;exact ⟨κ,m1,B,hB,m2⟩
   have hGlt:∀b∈G,b<w.heap.size:=fun b hb=>by
    obtain ⟨κ,m1,B,hB,m2⟩:=hGin b hb;exact (h.Yg (κ:=.a κ) ⟨B,hB⟩ b m2).1
   have hGtop:∀b∈G,v.ownBlock≠some b:=fun b hb hv=>by
    obtain ⟨κ,m1,B,hB,m2⟩:=hGin b hb;exact apart b κ B hv m1 hB m2
   refine ⟨(k1.keep ⟨g2.size,fun b hb=>keep b (hFslt b hb) (notTop b (by simp [hb]))⟩).append (q1.keep ⟨g2.size,fun b hb=>keep b (hGlt b hb) (hGtop b hb)⟩), ?_,fun b hb hm=> ?_⟩
   ·refine List.nodup_append.2 ⟨k2,q2,fun b hb b' hb' hbb=> ?_⟩;subst hbb;obtain ⟨κ0,A,p0,p1,p2⟩:=k3 b hb;obtain ⟨κ,m1,B,hB,m2⟩:=hGin b hb';exact h.sep (.a κ0) (.a κ) ⟨A,p1⟩ ⟨B,hB⟩ (by rintro ⟨⟩;exact (hown _ p0).1 m1) b p2 m2
   ·rcases g3 with g3| g3
    ·rw [g3] at hb;rcases List.mem_append.1 hm with hm| hm
     ·exact k4 b hb hm
     ·exact hGtop b hm hb
    ·rw [hb] at g3;obtain rfl:=Zz9 g3;rcases List.mem_append.1 hm with hm| hm
     ·have:=hFslt _ hm;omega
     ·have:=hGlt _ hm;omega)
  (fun hf=>by
   have hf':(A0.fr&&f)=false:=hf;have hif:(if (A0.fr&&f)=true then Fs++G else Fs++Fx)=Fs++Fx:=by rw [if_neg (by simp [hf'])]
   rw [hif];refine ⟨(r2.keep ⟨g2.size,fun b hb=>keep b (hFslt b hb) (notTop b (by simp [hb]))⟩).append (hrx.keep ⟨g2.size,fun b hb=>keep b (hFxlt b hb) (notTop b (by simp [hb]))⟩), ?_⟩;exact ZgP h given hlv hD (fun b hb=>by rcases List.mem_append.1 hb with hb| hb<;>first | exact hFslt b hb| exact hFxlt b hb) fun b hb=>(htop b hb).imp (fun ⟨κ,A,p0,q⟩=>⟨κ,A,(hown κ p0).1,q⟩) id)
 have place:∀κ A b,own=some κ->O.ar.lookup κ=some (some A)->b∈e.φ κ->(∃A,O.ar.lookup τ=some (some A)/\b∈e.φ τ)\/(∃κ∈D,b∈e.φ κ)\/w.heap.size<=b:=fun κ A b p0 q1 q2=>by
  rcases (hown κ p0).2 with rfl| hm
  ·exact .inl ⟨A,q1,q2⟩
  ·exact .inr (.inl ⟨κ,hm,q2⟩)
 refine ⟨v',w',_,hrun,h.Zmy (row:=v.ownBlock) hdp hDl hτ g2 (fun b hb=>(vtop b hb).elim fun κ ⟨A,p0,q⟩=>⟨κ,A,(hown κ p0).2,q⟩) (fun A hA'=> ?_) (fun b hb=>(htop b hb).imp (fun ⟨κ,A,_,q⟩=>⟨κ,A,q⟩) id) (fun b hb=> ?_) okN (by rw [Z8];exact h.nt) (by rw [ZP];exact h.df)
  (fun u=>Kp (by rw [h.nt];exact hd) ⟨some _,by rw [Vg,if_pos rfl],fun B hB=> ?_, ?_⟩)⟩
 ·obtain ⟨rfl,hvρ⟩:=hsame A hA';exact ⟨A0,rfl,by simp,fun hn=>(g4 (by simpa using hn)).trans hvρ⟩
 ·cases hv:v'.ownBlock with
  | none=>rw [hv] at hb;simp at hb
  | some b'=>
   rw [hv] at hb
   have top:b=b'->(∃A,O.ar.lookup τ=some (some A)/\b∈e.φ τ)\/(∃κ∈D,b∈e.φ κ)\/w.heap.size<=b:=by
    rintro rfl;rcases htop b hv with ⟨κ,A,p0,q1,q2⟩| q
    ·exact place κ A b p0 q1 ((h.ar κ A q1).own q2).1
    ·exact .inr (.inr q)
   cases hf:A0.fr&&f
   ·simp only [hf,ZAf,if_false,List.mem_singleton] at hb;exact top hb
   ·simp only [hf,if_true] at hb;simp only [ZAd] at hf;rcases List.mem_cons.1 hb with hb| hb
    ·exact top hb
    ·rcases List.mem_append.1 hb with hb| hb
     ·obtain ⟨κ,A,p0,q1,q2⟩:=(r3 hf.1).2.2.1 b hb;exact place κ A b p0 q1 q2
     ·obtain ⟨κ,m1,m2⟩:=(hG hf.2).2.2 b hb;exact .inr (.inl ⟨κ,hD κ m1,m2⟩)
 ·obtain rfl:=Zz9 hB;exact ⟨by simp,fun _=>by simp [Zd7]⟩
 ·obtain ⟨p,n,c,q1,q2⟩:=hform;exact ⟨p,c,by rw [q1,q2],by omega⟩
theorem Zz.Zon (h:Zz N w0 e O a w) {d τ:Nat} (hd:d<O.nt) {A0:Arr} {v:Value}
  (hA:(O.ar.lookup τ=some (some A0)/\v=e.ρ τ)\/(O.ar.lookup τ=none/\v= .slice none 0 0/\A0=⟨true,[]⟩)) {x:Value} {ys:List (List L)} {W:Nat} {f:Bool} {τs:List Nat} {tx:Nat} (hs:ZsK P tx N e O w x ys W f τs) (hτ:τ∉τs) (hdp:τ<1000000)
  {t ty et:Nat} {ei:TI} (ht:P.underlying t=some (.slice et)) (hi:ti P et=some ei) (hsz:ei.size=W) (hz:ei.zero.length=W)
  (hW:∀z∈A0.es++ys,z.length=W) (hb1:A0.es.length+ys.length<=140737488355328) (hb2:(A0.es.length+ys.length)*ei.bytes<=140737488355328):
  ∃v' w' e',(Builtin.append_ #[t,tx] ty #[v,x]).run P w= .ok v' w'/\
   Zz N w0 e' (stA O ((d,.one (.own τ (A0.es.length+ys.length)))::O.tm) τ ⟨A0.fr&&f,A0.es++ys⟩ τs) (a.put (some d) v') w':=by
 have hWe:∀z∈A0.es,z.length=W:=fun z hz=>hW z (by simp [hz]);rcases hA with ⟨hA,rfl⟩| ⟨hA,rfl,rfl⟩
 ·obtain ⟨te,xs,Fs,r1,r2,r3,r4,r5⟩:=(h.ar τ A0 hA).row hWe
  refine h.Znh hd (own:=some τ) hs hτ hdp (fun A hA'=>by rw [hA] at hA';exact ⟨(Zz9 hA').symm,rfl⟩) (fun κ hκ=>by obtain rfl:=Zz9 hκ;exact ⟨hτ,.inl rfl⟩) (fun _ h=>h) hs.lv
   (fun b hb=>⟨τ,A0,rfl,hA,hb⟩) ⟨te,xs,Fs,r1,r2,fun hf=> ?_,fun b hb=> ?_,fun e1 _=>r5 e1⟩ ht hi hsz hz hW hb1 hb2
  ·obtain ⟨k1,k2,k3,k4⟩:=r3 hf;exact ⟨k1,k2,fun b hb=>⟨τ,A0,rfl,hA,k3 b hb⟩,k4⟩
  ·cases hf:A0.fr
   ·exact r4 hf b hb
   ·obtain ⟨k1,k2,k3,k4⟩:=r3 hf;exact h.inner hA hdp (k3 b hb) (fun e'=>k4 b e' hb)
 ·exact h.Znh hd (own:=none) hs hτ hdp (fun A hA'=>by rw [hA] at hA';cases hA') (fun κ hκ=>by cases hκ) (fun _ h=>h) hs.lv
   (fun b hb=>by simp [Value.ownBlock] at hb) ⟨0,[],[],⟨by simp,.inl (by simp)⟩,by simp [RpE],fun _=>by simp [OwE],by simp,fun _ _ p n c e'=>by injection e' with _ _ e';exact e'.symm⟩ ht hi hsz hz hW hb1 hb2
theorem Zz.Zpc (h:Zz N w0 e O a w) {d τ τ2 n m W2:Nat} (hd:d<O.nt) {A:Arr} {v:Value} (hA:O.ar.lookup τ=some (some A)) (hv:(CV.vw τ n 0 m W2).rel e O w v) (hn:A.es.length=n) (h2:O.ar.lookup τ2=none) (hdp1:τ<1000000)
  {x:Value} {ys:List (List L)} {W:Nat} {f:Bool} {τs:List Nat} {tx:Nat} (hs:ZsK P tx N e O w x ys W f τs) (hτ:τ∉τs) (hdp:τ2<1000000) (hys:0<ys.length)
  {t ty et:Nat} {ei:TI} (ht:P.underlying t=some (.slice et)) (hi:ti P et=some ei) (hsz:ei.size=W) (hz:ei.zero.length=W)
  (hWA:∀z∈A.es,z.length=W) (hWy:∀z∈ys,z.length=W) (hb1:m+ys.length<=140737488355328) (hb2:(m+ys.length)*ei.bytes<=140737488355328):
  ∃v' w' e',(Builtin.append_ #[t,tx] ty #[v,x]).run P w= .ok v' w'/\
   Zz N w0 e' (stA O ((d,.one (.own τ2 (m+ys.length)))::O.tm) τ2 ⟨A.fr&&f,A.es.take m++ys⟩ (τ::τs)) (a.put (some d) v') w':=by
 obtain ⟨A',hA',hr,_⟩:=hv;rw [hA] at hA';obtain rfl:=Zz9 hA';obtain ⟨_,hm,p,c,q,hρ,hq,rfl⟩:=(hr A rfl).2 hn;have hm':m<=A.es.length:=by omega
 have hp:q=p:=by
  rw [hq (.inr rfl)];cases p with
  | none=>rfl
  | some ad=>simp [Addr.add]
 rw [hp,Nat.sub_zero,Nat.sub_zero];have hlm:(A.es.take m).length=m:=by rw [List.length_take,Nat.min_eq_left hm']
 obtain ⟨te,xs,Fs,r1,r2,r3,r4,r5⟩:=(h.ar τ A hA).row hWA;have hne:τ2≠τ:=fun e1=>by rw [e1,hA] at h2;cases h2
 have hd2:τ2∉τs:=fun hm=>by obtain ⟨B,hB,_⟩:=hs.lv _ hm;rw [h2] at hB;cases hB
 have hFs:∀b∈Fs,¬Mut e O b:=fun b hb=>by
  cases hf:A.fr
  ·exact r4 hf b hb
  ·obtain ⟨k1,k2,k3,k4⟩:=r3 hf;exact h.inner hA hdp1 (k3 b hb) (fun e'=>k4 b e' hb)
 have hes:A.es=A.es.take m++A.es.drop m:=(List.take_append_drop m A.es).symm;rw [hρ] at r1 r3 r5;have hxl:xs.length=A.es.length*W:=r1.1
 have rsub:w.ownsRow 0 te W (.slice p m c) (A.es.take m).length (xs.take (m*W)):=by
  rw [hlm];refine ⟨by rw [List.length_take,hxl];exact Nat.min_eq_left (Nat.mul_le_mul_right _ hm'), ?_⟩;rcases r1.2 with ⟨q1,q2⟩| ⟨g,cap,cur,q1,q2,q3,q4,q5,q6,q7⟩
  ·injection q1 with q1 q8 q9
   have:m=0:=by omega
   subst q1 q9;exact .inl ⟨by rw [this],this⟩
  ·injection q1 with q1 q8 q9
   subst q1 q9;refine .inr ⟨g,c,cur,rfl,q2,q3,by omega,q5,q6, ?_⟩;rw [<-q7,List.take_take,Nat.min_eq_left (Nat.mul_le_mul_right _ hm')]
 have hcut:∀{u1 u2:List Value},xs=u1++u2->u1.length=m*W->xs.take (m*W)=u1:=fun e1 e2=>by rw [e1,<-e2,List.take_left]
 have hwd:width (A.es.take m)=m*W:=by rw [ZN (W:=W) fun z hz=>hWA z (List.mem_of_mem_take hz),hlm]
 have hrow:∃Fs',RpE w (A.es.take m) (xs.take (m*W)) Fs'/\(∀b∈Fs',b∈Fs)/\(A.fr=true->OwE N w (A.es.take m) (xs.take (m*W)) Fs'/\Fs'.Nodup):=by
  cases hf:A.fr
  ·rw [hes] at r2;obtain ⟨u1,u2,F1,F2,e1,rfl,g1,g2⟩:=r2.split;rw [hcut e1 (by rw [g1.len,hwd])];exact ⟨F1,g1,fun b hb=>by simp [hb],by simp⟩
  ·obtain ⟨k1,k2,k3,k4⟩:=r3 hf;rw [hes] at k1;obtain ⟨u1,u2,F1,F2,e1,rfl,g1,g2⟩:=k1.split;rw [hcut e1 (by rw [g1.len,hwd])];exact ⟨F1,g1.rp,fun b hb=>by simp [hb],fun _=>⟨g1,(List.nodup_append.1 k2).1⟩⟩
 obtain ⟨Fs',q1,q2,q3⟩:=hrow
 have:=h.Znh (P:=P) hd (τ:=τ2) (A0:=⟨A.fr,A.es.take m⟩) (v:=.slice p m c) (own:=some τ) (D:=τ::τs) (ty:=ty) hs (by simp [hne,hd2]) hdp (fun B hB=>by rw [h2] at hB;cases hB)
  (fun κ hκ=>by obtain rfl:=Zz9 hκ;exact ⟨hτ,.inr (by simp)⟩) (fun κ hκ=>by simp [hκ])
  (fun κ hκ=>by rcases List.mem_cons.1 hκ with rfl| hκ;exact ⟨A,hA,hdp1⟩;exact hs.lv κ hκ)
  (fun b hb=>⟨τ,A,rfl,hA,by rw [hρ];cases p with | none=>simp [Value.ownBlock] at hb| some ad=>exact hb⟩)
  ⟨te,_,Fs',rsub,q1,fun hf=>⟨(q3 hf).1,(q3 hf).2,fun b hb=>⟨τ,A,rfl,hA,(r3 hf).2.2.1 b (q2 b hb)⟩,fun b hb hb'=>(r3 hf).2.2.2 b (by cases p with | none=>simp [Value.ownBlock] at hb| some ad=>exact hb) (q2 b hb')⟩,fun b hb=>hFs b (q2 b hb),fun _ e2=>by rw [e2] at hys;simp at hys⟩
  ht hi hsz hz (fun z hz=>by rcases List.mem_append.1 hz with q| q;exact hWA z (List.mem_of_mem_take q);exact hWy z q) (by simp only [hlm];exact hb1) (by simp only [hlm];exact hb2)
 simp only [hlm] at this;exact this
end
section
variable {e:Env} {O:St} {w:World} {N:Nat->Prop} {w0:Bs} {a:Act} {P:Program}
theorem Zmr {cur:List Value} {n k:Nat} {us:List Value} (h:k+us.length<=n) (hn:n<=cur.length):(cur.take k++us++cur.drop (k+us.length)).take n=(cur.take n).take k++us++(cur.take n).drop (k+us.length):=by
 have h1:(cur.take k++us).length=k+us.length:=by simp;omega
 rw [List.take_append,h1,List.take_of_length_le (by rw [h1];exact h),List.take_take,Nat.min_eq_left (by omega),List.drop_take]
theorem Zz.inPlace (h:Zz N w0 e O a w) {τ:Nat} {A:Arr} (hA:O.ar.lookup τ=some (some A)) {W:Nat} (hW:∀z∈A.es,z.length=W) {g:Nat} (hg:(e.ρ τ).ownBlock=some g)
  {es':List (List L)} {f:Bool} {τs:List Nat} {k:Nat} {us:List Value} (hl:∀κ∈τs,∃B,O.ar.lookup κ=some (some B)/\κ<1000000) (hτ:τ∉τs) (hdp:τ<1000000) (hlen:es'.length=A.es.length) (hW':∀z∈es',z.length=W) (hk:k+us.length<=A.es.length*W) (h1:∀u∈us,u.oneCell'=true)
  (hR:∀xs Fs,RpE w A.es xs Fs->(∀b∈Fs,¬Mut e O b)->xs.length=A.es.length*W->∃F,RpE w es' (xs.take k++us++xs.drop (k+us.length)) F/\UF e O τs F)
  (hO:A.fr=true->f=true->∀xs Fs,OwE N w A.es xs Fs->Fs.Nodup->(∀b∈Fs,b∈e.φ τ)->xs.length=A.es.length*W->∃F,OwE N w es' (xs.take k++us++xs.drop (k+us.length)) F/\F.Nodup/\∀b∈F,b∈Fs\/∃κ∈τs,b∈e.φ κ)
  {tm:List (Nat×V)} {a':Act} (hnt:a'.tmps.size=O.nt) (hdf:a'.defers=[])
  (htm:∀t x,tm.lookup t=some x->(O.tm.lookup t=some x/\a'.tmps.getD t undef=a.tmps.getD t undef)\/∃k n,x= .one (.l (.int k n))/\InK k n/\a'.tmps.getD t undef= .int k n):
  ∃w' e',(storeCells ⟨g,k,none⟩ us).run P w= .ok () w'/\Zz N w0 e' (stA O tm τ ⟨A.fr&&f,es'⟩ τs) a' w':=by
 have hok:=h.ar τ A hA;obtain ⟨te,xs,Fs,r1,r2,r3,r4,r5⟩:=hok.row hW;have gmut:Mut e O g:=.inr (.inr ⟨τ,A,hA,hg⟩)
 have hFs:∀b∈Fs,¬Mut e O b:=by
  intro b hb;cases hf:A.fr
  ·exact r4 hf b hb
  ·obtain ⟨k1,k2,k3,k4⟩:=r3 hf;exact h.inner hA hdp (k3 b hb) (fun e'=>k4 b e' hb)
 have hxl:xs.length=A.es.length*W:=r1.1;rcases r1.2 with ⟨hv,_⟩| ⟨g',cap,cur,hv,_,hh,hnc,hcm,hcs,htake⟩
 ·rw [hv] at hg;simp [Value.ownBlock] at hg
 ·rw [hv] at hg;simp [Value.ownBlock] at hg;subst hg;have hcl:A.es.length*W<=cur.toList.length:=by rw [Array.length_toList,hcs];exact Nat.mul_le_mul_right _ hnc
  have hst:=run_storeCells_at P g' k te us 0 cur w hh (by rw [Array.length_toList] at hcl;omega) h1;rw [Nat.add_zero] at hst;have other:∀b,b≠g'->(w.setRow g' (cur.toList.take k++us++cur.toList.drop (k+us.length)).toArray).heap[b]? =w.heap[b]? :=fun b hb=>setRow_other w _ b _ hb;have hgr:w.grownBy (w.setRow g' (cur.toList.take k++us++cur.toList.drop (k+us.length)).toArray) (some g'):=⟨rfl,rfl,rfl,by simp,fun b _ hb=>other b (fun e'=>hb (by rw [e']))⟩;have hg:(e.ρ τ).ownBlock=some g':=by rw [hv];rfl
  obtain ⟨F1,p1,p2⟩:=hR xs Fs r2 hFs hxl
  have hF1:∀b∈F1,b≠g':=by
   intro b hb hbg;subst hbg;rcases p2 b hb with q| ⟨κ,q1,q2⟩
   ·exact q gmut
   ·obtain ⟨B,hB,_⟩:=hl κ q1;exact h.sep (.a τ) (.a κ) ⟨A,hA⟩ ⟨B,hB⟩ (by rintro ⟨⟩;exact hτ q1) b (hok.own hg).1 ((h.ar κ B hB).own q2).1
  have hnew:(cur.toList.take k++us++cur.toList.drop (k+us.length)).take (es'.length*W)=xs.take k++us++xs.drop (k+us.length):=by
   rw [hlen,Zmr hk hcl,htake]
  have htop:∀b,(e.ρ τ).ownBlock=some b->(∃A,O.ar.lookup τ=some (some A)/\(e.ρ τ).ownBlock=some b)\/w.heap.size<=b:=fun b hb=>.inl ⟨A,hA,hb⟩
  have hsz:(cur.toList.take k++us++cur.toList.drop (k+us.length)).toArray.size=cap*W:=by
   rw [<-hcs,List.size_toArray,List.length_append,List.length_append,List.length_take,List.length_drop];rw [Array.length_toList] at hcl ⊢;omega
  have he0:es'=[]->cap=0:=fun he=>by
   have:A.es=[]:=List.eq_nil_of_length_eq_zero (by rw [<-hlen,he];rfl);exact r5 this _ _ _ hv
  obtain ⟨G,hG⟩:∃G:List Nat,(A.fr&&f)=true->OwE N w es' (xs.take k++us++xs.drop (k+us.length)) G/\G.Nodup/\∀b∈G,(b∈e.φ τ/\b≠g')\/∃κ∈τs,b∈e.φ κ:=by
   cases hf:A.fr&&f
   ·exact ⟨[],by simp⟩
   ·simp only [ZAd] at hf;obtain ⟨k1,k2,k3,k4⟩:=r3 hf.1;obtain ⟨G,q1,q2,q3⟩:=hO hf.1 hf.2 xs Fs k1 k2 k3 hxl;refine ⟨G,fun _=>⟨q1,q2,fun b hb=> ?_⟩⟩;rcases q3 b hb with q| q
    ·exact .inl ⟨k3 b q,fun e'=>k4 g' hg (e'▸q)⟩
    ·exact .inr q
  have hGg:(A.fr&&f)=true->∀b∈G,b≠g':=by
   intro hf b hb;rcases (hG hf).2.2 b hb with ⟨_,q⟩| ⟨κ,q1,q2⟩
   ·exact q
   ·rintro rfl;obtain ⟨B,hB,_⟩:=hl κ q1;exact h.sep (.a τ) (.a κ) ⟨A,hA⟩ ⟨B,hB⟩ (by rintro ⟨⟩;exact hτ q1) b (hok.own hg).1 q2
  refine ⟨_,_,hst,h.ZnG (row:=some g') (v':=e.ρ τ) (F':=if A.fr&&f then g'::G else [g']) hdp hl hτ hgr (fun b hb=>⟨A,hA,by rw [<-hb];exact hg⟩) (fun A' hA'=> ?_) htop (fun b hb=> ?_) ⟨some ⟨g',0,none⟩,cap,by rw [hv,hlen],hcm,.inr ⟨g',te,_,if A.fr&&f then G else F1,W,rfl,(hok.own hg).2.1,setRow_heap w g' cur _ te _ hh,by rw [hlen];exact hnc,hsz,hW',he0, ?_⟩⟩ hnt hdf (fun u t x ht=> ?_)⟩
  ·rw [hA] at hA';obtain rfl:=Zz9 hA';exact ⟨A,rfl,by rw [hlen];exact ZAe _,fun _=>rfl⟩
  ·cases hf:A.fr&&f
   ·simp only [hf,ZAf,if_false,List.mem_singleton] at hb;subst hb;exact .inl ⟨A,hA,(hok.own hg).1⟩
   ·simp only [hf,if_true] at hb;rcases List.mem_cons.1 hb with rfl| hb
    ·exact .inl ⟨A,hA,(hok.own hg).1⟩
    ·rcases (hG hf).2.2 b hb with ⟨q,_⟩| q
     ·exact .inl ⟨A,hA,q⟩
     ·exact .inr (.inl q)
  ·have htl:List.take ((Arr.mk (A.fr&&f) es').es.length*W) (cur.toList.take k++us++cur.toList.drop (k+us.length)).toArray.toList=xs.take k++us++xs.drop (k+us.length):=hnew;rw [htl];cases hf:A.fr&&f
   ·refine .inr ⟨rfl,by simp, ?_, ?_⟩
    ·simp only [ZAf,if_false];exact p1.keep ⟨by simp,fun b hb=>other b (hF1 b hb)⟩
    ·simp only [ZAf,if_false];have:=Zig h (tm:=tm) (A:=⟨false,es'⟩) (F:=[g']) p2 hl hτ p1.lt htop;exact this
   ·refine .inl ⟨rfl,by simp, ?_, ?_⟩
    ·simp only [if_true];exact List.nodup_cons.2 ⟨fun hm=>hGg hf g' hm rfl,(hG hf).2.1⟩
    ·simp only [if_true];exact (hG hf).1.keep ⟨by simp,fun b hb=>other b (hGg hf b hb)⟩
  ·rcases htm t x ht with q| ⟨k',n,rfl,q1,q2⟩
   ·exact .inl q
   ·rw [q2];exact .inr (WH q1)
theorem OwL.split {N:Nat->Prop} {w:World}:∀{xs ys:List L} {vs:List Value} {F:List Nat},OwL N w (xs++ys) vs F->∃v1 v2 F1 F2,vs=v1++v2/\F=F1++F2/\OwL N w xs v1 F1/\OwL N w ys v2 F2
 | [],_,vs,F,h=>⟨[],vs,[],F,rfl,rfl,⟨rfl,rfl⟩,h⟩
 | x::xs,ys,vs,F,h=>by
  simp only [List.cons_append,OwL] at h;obtain ⟨v,vs',F1,F2,rfl,rfl,h1,h2⟩:=h;obtain ⟨v3,v4,F3,F4,rfl,rfl,h3,h4⟩:=OwL.split h2;refine ⟨v::v3,v4,F1++F3,F4,rfl,by rw [List.append_assoc], ?_,h4⟩;simp only [OwL];exact ⟨v,v3,F1,F3,rfl,rfl,h1,h3⟩
def setAt (es:List (List L)) (j off:Nat) (ls:List L):List (List L):=es.set j (((es[j]?).getD []).take off++ls++((es[j]?).getD []).drop (off+ls.length))
theorem Zn5 {es:List (List L)} {j:Nat} {el:List L} (h:es[j]? =some el):es=es.take j++el::es.drop (j+1):=by
 obtain ⟨hlt,rfl⟩:=List.getElem?_eq_some_iff.1 h;rw [List.getElem_cons_drop,List.take_append_drop]
theorem Zmx {es:List (List L)} {j off:Nat} {ls el:List L} (h:es[j]? =some el):setAt es j off ls=es.take j++(el.take off++(ls++el.drop (off+ls.length)))::es.drop (j+1):=by
 obtain ⟨hlt,rfl⟩:=List.getElem?_eq_some_iff.1 h;unfold setAt;rw [h,List.set_eq_take_append_cons_drop,if_pos hlt];simp
theorem Zn6 (el:List L) (off n:Nat):el=el.take off++((el.drop off).take n++el.drop (off+n)):=by
 rw [<-List.drop_drop,List.take_append_drop,List.take_append_drop]
theorem Zz.ZuZ (h:Zz N w0 e O a w) {τ:Nat} {A:Arr} (hA:O.ar.lookup τ=some (some A)) {j off:Nat} {el:List L} (hel:A.es[j]? =some el) {b:Nat} (hb:(e.ρ τ).ownBlock=some b)
  {cs:List CV} {us:List Value} (hr:Z6 e O w cs us) {ls:List L} {f:Bool} {τs:List Nat} {p:Prop} (ha:ZiY O cs=some (ls,f,τs,p)) (hp:p) (hτ:τ∉τs) (hdp:τ<1000000) (hnd:f=true->τs.Nodup) (hle:off+ls.length<=el.length):
  ∃w' e',(storeCells ⟨b,j*el.length+off,none⟩ us).run P w= .ok () w'/\Zz N w0 e' (stA O O.tm τ ⟨A.fr&&f,setAt A.es j off ls⟩ τs) a w':=by
 obtain ⟨⟨Fx,k1,k2⟩,k3,k4,k5⟩:=Zhk h hr ha hp;have hlt:j<A.es.length:=(List.getElem?_eq_some_iff.1 hel).1;have hul:us.length=ls.length:=by rw [hr.len,k5]
 obtain ⟨p',c,hρ,_,_,hc| ⟨b',vs,Fs,W,q1,q2,q3,q4,q5,q6⟩⟩:=h.elems hA hdp
 ·rw [hc] at hlt;simp at hlt
 ·have hW:el.length=W:=q3 el (List.mem_of_getElem? hel);have hjW:j*W+W<=A.es.length*W:=by rw [<-Nat.succ_mul];exact Nat.mul_le_mul_right _ hlt
  have hsl:setAt A.es j off ls=A.es.take j++(el.take off++(ls++el.drop (off+ls.length)))::A.es.drop (j+1):=Zmx hel
  have hcells:∀{v1 u1 u2 u3 v4:List Value},v1.length=j*W->u1.length=off->u2.length=us.length->
    (v1++((u1++(u2++u3))++v4)).take (j*el.length+off)++us++(v1++((u1++(u2++u3))++v4)).drop (j*el.length+off+us.length)=v1++((u1++(us++u3))++v4):=by
   intro v1 u1 u2 u3 v4 e1 e2 e3;rw [hW];have t1:(v1++((u1++(u2++u3))++v4))=(v1++u1)++(u2++(u3++v4)):=by simp
   have t2:(v1++((u1++(u2++u3))++v4))=((v1++u1)++u2)++(u3++v4):=by simp
   have l1:(v1++u1).length=j*W+off:=by simp [e1,e2]
   have l2:((v1++u1)++u2).length=j*W+off+us.length:=by simp [e1,e2,e3];omega
   rw [show (v1++((u1++(u2++u3))++v4)).take (j*W+off)=v1++u1 from by rw [t1,<-l1,List.take_left]];rw [show (v1++((u1++(u2++u3))++v4)).drop (j*W+off+us.length)=u3++v4 from by rw [t2,<-l2,List.drop_left]];simp
  refine h.inPlace hA q3 hb (fun κ hκ=>by obtain ⟨B,hB,_,hd⟩:=k4 κ hκ;exact ⟨B,hB,hd⟩) hτ hdp (by unfold setAt;simp) ?_ (by rw [hul,hW];omega) hr.one ?_ ?_ h.nt h.df (fun t x ht=>.inl ⟨ht,rfl⟩)
  ·intro z hz;rw [hsl] at hz;simp only [List.mem_append,List.mem_cons] at hz;rcases hz with hz| rfl| hz
   ·exact q3 z (List.mem_of_mem_take hz)
   ·simp only [List.length_append,List.length_take,List.length_drop];omega
   ·exact q3 z (List.mem_of_mem_drop hz)
  ·intro xs Fs' hx hFs' hxl;rw [Zn5 hel] at hx;obtain ⟨v1,v2,F1,F2,rfl,rfl,g1,g2⟩:=hx.split;simp only [RpE] at g2;obtain ⟨v3,v4,F3,F4,rfl,rfl,g3,g4⟩:=g2;rw [Zn6 el off ls.length] at g3;obtain ⟨u1,u23,G1,G23,rfl,rfl,m1,m2⟩:=g3.split;obtain ⟨u2,u3,G2,G3,rfl,rfl,m3,m4⟩:=m2.split;have e1:v1.length=j*W:=by rw [g1.len,ZN (fun x hx=>q3 x (List.mem_of_mem_take hx)),List.length_take,Nat.min_eq_left (by omega)]
   have e2:u1.length=off:=by rw [m1.len,List.length_take];omega
   have e3:u2.length=us.length:=by rw [m3.len,List.length_take,List.length_drop,hul];omega
   rw [hcells e1 e2 e3,hsl];refine ⟨F1++((G1++(Fx++G3))++F4),g1.append ?_, ?_⟩
   ·simp only [RpE];exact ⟨_,v4,_,F4,rfl,rfl,m1.append (k1.append m4),g4⟩
   ·intro x hx;simp only [List.mem_append] at hx;rcases hx with hx| (hx| hx| hx)| hx
    ·exact .inl (hFs' x (by simp [hx]))
    ·exact .inl (hFs' x (by simp [hx]))
    ·exact k2 x hx
    ·exact .inl (hFs' x (by simp [hx]))
    ·exact .inl (hFs' x (by simp [hx]))
  ·intro hfA hff xs Fs' hx hnd' hsub hxl;rw [Zn5 hel] at hx;obtain ⟨v1,v2,F1,F2,rfl,rfl,g1,g2⟩:=hx.split;simp only [OwE] at g2;obtain ⟨v3,v4,F3,F4,rfl,rfl,g3,g4⟩:=g2;rw [Zn6 el off ls.length] at g3;obtain ⟨u1,u23,G1,G23,rfl,rfl,m1,m2⟩:=g3.split;obtain ⟨u2,u3,G2,G3,rfl,rfl,m3,m4⟩:=m2.split;have e1:v1.length=j*W:=by rw [g1.len,ZN (fun x hx=>q3 x (List.mem_of_mem_take hx)),List.length_take,Nat.min_eq_left (by omega)]
   have e2:u1.length=off:=by rw [m1.len,List.length_take];omega
   have e3:u2.length=us.length:=by rw [m3.len,List.length_take,List.length_drop,hul];omega
   rw [hcells e1 e2 e3,hsl];have gn:=JD h (fun κ hκ=>by obtain ⟨B,hB,hf,_⟩:=k4 κ hκ;exact ⟨B,hB,hf hff⟩) (hnd hff);refine ⟨F1++((G1++(τs.flatMap e.φ++G3))++F4),g1.append ?_, ?_, ?_⟩
   ·simp only [OwE];exact ⟨_,v4,_,F4,rfl,rfl,m1.append ((k3 hff).append m4),g4⟩
   ·have hs:List.Sublist (F1++((G1++G3)++F4)) (F1++((G1++(G2++G3))++F4)):=
     List.Sublist.append (List.Sublist.refl _) (List.Sublist.append (List.Sublist.append (List.Sublist.refl _) (List.sublist_append_right _ _)) (List.Sublist.refl _))
    have hn2:=hnd'.sublist hs
    have hp2:(F1++((G1++(τs.flatMap e.φ++G3))++F4)).Perm (τs.flatMap e.φ++(F1++((G1++G3)++F4))):=by
     have t1:(F1++((G1++(τs.flatMap e.φ++G3))++F4))=(F1++G1)++(τs.flatMap e.φ++(G3++F4)):=by simp
     have t2:(F1++((G1++G3)++F4))=(F1++G1)++(G3++F4):=by simp
     rw [t1,t2];exact List.perm_append_comm_assoc _ _ _
    rw [hp2.nodup_iff];refine List.nodup_append.2 ⟨gn,hn2,fun x hx y hy hxy=> ?_⟩;subst hxy;obtain ⟨κ,n1,n2⟩:=List.mem_flatMap.1 hx;obtain ⟨B,hB,_⟩:=k4 κ n1;exact h.sep (.a κ) (.a τ) ⟨B,hB⟩ ⟨A,hA⟩ (by rintro ⟨⟩;exact hτ n1) x n2 (hsub x (hs.subset hy))
   ·intro x hx;simp only [List.mem_append] at hx;rcases hx with hx| (hx| hx| hx)| hx
    ·exact .inl (by simp [hx])
    ·exact .inl (by simp [hx])
    ·obtain ⟨κ,n1,n2⟩:=List.mem_flatMap.1 hx;exact .inr ⟨κ,n1,n2⟩
    ·exact .inl (by simp [hx])
    ·exact .inl (by simp [hx])
theorem Zz.Zmw (h:Zz N w0 e O a w) {τ:Nat} {A:Arr} (hA:O.ar.lookup τ=some (some A)) (hd:1000000<=τ) (hfr:A.fr=true) {j off i:Nat} {el:List L} {ys:List (List L)} (hel:A.es[j]? =some el) (hys:el[off]? =some (.sl ys)) (h1:∀y∈ys,y.length=1) (hf:VI ys=true) (hi:i<ys.length)
  {b b' m c:Nat} {cur:Array Value} {t:TypeId} (ho:(e.ρ τ).ownBlock=some b) (hh:w.heap[b]? =some (.cells cur t (0,0))) (hcu:cur[j*el.length+off]? =some (.slice (some ⟨b',0,none⟩) m c)) {x:L} {v:Value} {F:List Nat} (hx:Rp w x v F) (hxf:x.flat=true):
  ∃w',(storeCells ⟨b',i,none⟩ [v]).run P w= .ok () w'/\Zz N w0 e ⟨O.nt,O.tm,O.bx,(τ,some ⟨true,A.es.set j (el.set off (.sl (ys.set i [x])))⟩)::O.ar⟩ a w':=by
 obtain ⟨b1,t1,cur1,c1,Fs,u,G,m1,m2,m3,m4,m5,m6,m7,m8,m9,m10,m11,m12,m13⟩:=h.nest hA hfr hel hys;have ho1:(e.ρ τ).ownBlock=some b1:=by rw [m1];rfl
 rw [ho1] at ho;obtain rfl:=Zz9 ho;rw [m4] at hh;injection hh with hh
 injection hh with hh _ _
 subst hh;rw [m10] at hcu;obtain rfl:=Zz9 hcu;obtain ⟨b2,c2,cur2,t2,k1,rfl,k3,k4,k5,k6⟩:=m11.Zmw h1 hf hi;injection k1 with k1 _ _
 injection k1 with k1
 injection k1 with k1 _ _
 subst k1;obtain ⟨rfl,hxo⟩:=hx.flat (N:=N) hxf;have hst:=run_storeCells_at P b' i t2 [v] 0 cur2 w k4 (by simp;omega) (fun u hu=>by obtain rfl:=List.mem_singleton.1 hu;exact hx.one);rw [Nat.add_zero] at hst
 have hcur:(cur2.toList.take i++[v]++cur2.toList.drop (i+1)).toArray=cur2.setIfInBounds i v:=by
  apply Array.toList_inj.1;rw [Array.toList_setIfInBounds,List.set_eq_take_append_cons_drop,if_pos (by simpa using k5)];simp
 simp only [List.length_singleton] at hst;rw [hcur] at hst;refine ⟨_,hst, ?_⟩;have hb':b'∈Fs:=m12 b' (by simp);have hnd:=List.nodup_cons.1 m9;have hlive:live O (.a τ):=⟨A,hA⟩;have hmem:b'∈blk e (.a τ):=by simp [blk,m8,hb']
 have hm:Mut e O b':=.inl (h.dk (.a τ) hlive hd b' hmem);have other:∀z,z≠b'->(w.setRow b' (cur2.setIfInBounds i v)).heap[z]? =w.heap[z]? :=fun z hz=>setRow_other w _ z _ hz
 have hlook:∀κ B,((τ,some (⟨true,A.es.set j (el.set off (.sl (ys.set i [x])))⟩:Arr))::O.ar).lookup κ=some (some B)->(κ=τ/\B=⟨true,A.es.set j (el.set off (.sl (ys.set i [x])))⟩)\/(κ≠τ/\O.ar.lookup κ=some (some B)):=by
  intro κ B hB;simp only [lookup_cons] at hB
  by_cases hk:κ=τ
  ·rw [if_pos hk] at hB;exact .inl ⟨hk,(Zz9 (Zz9 hB)).symm⟩
  ·rw [if_neg hk] at hB;exact .inr ⟨hk,hB⟩
 have hmu:∀z,Mut e ⟨O.nt,O.tm,O.bx,(τ,some ⟨true,A.es.set j (el.set off (.sl (ys.set i [x])))⟩)::O.ar⟩ z->Mut e O z:=fun z hz=>by
  rcases hz with h0| ⟨k,cs,q1,q2⟩| ⟨κ,B,q1,q2⟩
  ·exact .inl h0
  ·exact .inr (.inl ⟨k,cs,q1,q2⟩)
  ·rcases hlook κ B q1 with ⟨rfl,_⟩| ⟨_,q3⟩
   ·exact .inr (.inr ⟨κ,A,hA,q2⟩)
   ·exact .inr (.inr ⟨κ,B,q3,q2⟩)
 have topne:∀κ B,O.ar.lookup κ=some (some B)->∀z,(e.ρ κ).ownBlock=some z->z≠b':=fun κ B hB z hz e'=>by
  by_cases hk:κ=τ
  ·subst hk;rw [ho1] at hz;obtain rfl:=Zz9 hz;exact hnd.1 (e'▸hb')
  ·exact h.sep (.a κ) (.a τ) ⟨B,hB⟩ hlive (by simp [hk]) z ((h.ar κ B hB).own hz).1 (e'▸hmem)
 have u:Up e O w e ⟨O.nt,O.tm,O.bx,(τ,some ⟨true,A.es.set j (el.set off (.sl (ys.set i [x])))⟩)::O.ar⟩ (w.setRow b' (cur2.setIfInBounds i v)):=by
  refine ⟨by simp,fun z _ hnm=>other z (fun e'=>hnm (e'▸hm)),fun z _ hz=>hmu z hz,fun k cs hk=>⟨⟨cs,hk⟩,rfl⟩,fun κ B hB=> ?_,fun κ _ ⟨B,hB⟩ _=>⟨rfl,fun z hz=>other z (topne κ B hB z hz)⟩⟩;simp only [lookup_cons]
  by_cases hk:κ=τ
  ·subst hk;rw [hA] at hB;obtain rfl:=Zz9 hB;rw [if_pos rfl];exact ⟨_,rfl,fun C hC=>⟨A,rfl,by obtain rfl:=Zz9 hC;simp,fun _=>trivial⟩⟩
  ·rw [if_neg hk];exact ⟨B,hB,fun C hC=>⟨C,hC,ZAe _,fun _=>trivial⟩⟩
 refine h.Zox u (fun κ=>κ= .a τ) h.nt h.df (fun t v ht=>.inl ⟨ht,rfl⟩) (fun k cs hk _=>⟨hk,other _ fun e'=> ?_⟩) (fun κ B hB hK=> ?_) (fun k cs _ hK=>by cases hK) (fun κ B hB hK=> ?_) (fun κ hl hK z hz=> ?_) (fun κ κ' _ _ hne q1 q2=>absurd (q1.trans q2.symm) hne) ?_ (fun _ h=>h) (fun _ h=>.inl h) (fun κ _ hK hdp z hz=>by subst hK;exact h.dk (.a τ) hlive hdp z hz) (fun k cs _ hK _=>by cases hK) (fun κ b _ hK hb=>by subst hK;exact h.tp (.a τ) b hlive hb)
 ·exact h.sep (.b k) (.a τ) ⟨cs,hk⟩ hlive (by simp) (e.β k) (by simp [blk]) (e'▸hmem)
 ·rcases hlook κ B hB with ⟨rfl,_⟩| ⟨hk,q3⟩
  ·exact absurd rfl hK
  ·exact ⟨q3,rfl,rfl,fun z hz=>other z fun e'=>h.sep (.a κ) (.a τ) ⟨B,q3⟩ hlive (by simp [hk]) z hz (e'▸hmem)⟩
 ·injection hK with hK
  subst hK;rcases hlook κ B hB with ⟨_,rfl⟩| ⟨hk,_⟩
  ·refine ⟨_,c1,by rw [m1,List.length_set],m2,.inr ⟨b1,t1,cur1,Fs,el.length,rfl,m3,(other b1 fun e'=>hnd.1 (e'▸hb')).trans m4,by rw [List.length_set];exact m5,m6,fun y hy=> ?_,fun h0=> ?_,.inl ⟨rfl,m8,by rw [m8];exact m9, ?_⟩⟩⟩
   ·rcases List.mem_or_eq_of_mem_set hy with h9| rfl
    ·exact m7 y h9
    ·simp
   ·have:=congrArg List.length h0;have hj:=(List.getElem?_eq_some_iff.1 hel).1;simp at this;simp [this] at hj
   ·rw [List.length_set];refine m13 _ _ (by simp) (fun z hz hz2=>other z (by simpa using hz2)) (k6 (Ow.keep hxo ⟨by simp,fun z hz=>by simp at hz⟩) (by simp) (setRow_heap w _ cur2 _ t2 _ k4))
  ·exact absurd rfl hk
 ·subst hK;exact .inl ⟨hlive,hz⟩
 ·exact ⟨h.fr.gl,h.fr.os,h.fr.tape,h.fr.output,by simp;exact h.fr.size,fun z hz hnz=>(other z fun e'=>hnz (e'▸h.tp (.a τ) b' hlive (.inr ⟨hd,hmem⟩))).trans (h.fr.block z hz hnz),h.fr.new⟩
end
end Go.Proofs.YtpblakfidofgfaaGreatDoor.Am
