import Derived.Test.YtmcfegjoccgpoaaGreatDoorRows
import Derived.WalkSpells
import Derived.WalkLawsBesides
import Derived.Lib.Hide
import Derived.Deep.AppendSrc
set_option linter.unusedSimpArgs false
set_option linter.unusedVariables false
namespace Go.Proofs.YtmcfegjoccgpoaaGreatDoor
abbrev Ma:=ByteArray
theorem WF {p:Prop} (h:p:=by omega):p:=h
theorem WP {p:Prop} (h:p:=by kernel_rfl):p:=h
theorem Ha {p:Prop} (h:p:=by simp):p:=h
theorem Hb {p:Prop} (h:p:=by rfl):p:=h
theorem Hc:type_of% @List.mem_cons:=@List.mem_cons
theorem Hd:type_of% @List.mem_map:=@List.mem_map
theorem He:type_of% @List.mem_append:=@List.mem_append
theorem Hf:type_of% @Option.map_eq_some_iff:=@Option.map_eq_some_iff
theorem Hg:type_of% @List.length_take:=@List.length_take
theorem Hh:type_of% @List.getElem?_eq_some_iff:=@List.getElem?_eq_some_iff
theorem Hi:type_of% @List.map_cons:=@List.map_cons
theorem Hj:type_of% @List.all_eq_true:=@List.all_eq_true
theorem Hk:type_of% @Option.isSome_iff_exists:=@Option.isSome_iff_exists
theorem Hl:type_of% @List.getElem_mem:=@List.getElem_mem
theorem Hm:type_of% @List.cons_append:=@List.cons_append
theorem Hn:type_of% @List.take_append_drop:=@List.take_append_drop
theorem Ho:type_of% @List.drop_eq_getElem_cons:=@List.drop_eq_getElem_cons
theorem Hp:type_of% @List.length_append:=@List.length_append
theorem Hq:type_of% @Option.bind_eq_some_iff:=@Option.bind_eq_some_iff
theorem Hr:type_of% @Bool.not_true:=@Bool.not_true
theorem Hs:type_of% @List.nil_append:=@List.nil_append
theorem Hu:type_of% @List.mem_singleton:=@List.mem_singleton
theorem Hw:type_of% @Nat.min_eq_left:=@Nat.min_eq_left
theorem Hx:type_of% @List.append_assoc:=@List.append_assoc
theorem Hz:type_of% @List.mem_cons_of_mem:=@List.mem_cons_of_mem
theorem HA:type_of% @Nat.le_trans:=@Nat.le_trans
theorem HB:type_of% @Option.bind_assoc:=@Option.bind_assoc
theorem HE:type_of% @Nat.add_mul:=@Nat.add_mul
theorem HG:type_of% @List.append_nil:=@List.append_nil
theorem HH:type_of% @Nat.zero_add:=@Nat.zero_add
theorem HI:type_of% @List.eq_nil_of_length_eq_zero:=@List.eq_nil_of_length_eq_zero
theorem HJ:type_of% @Array.toList_inj:=@Array.toList_inj
theorem HK:type_of% @Bool.not_false:=@Bool.not_false
theorem HL:type_of% @List.length_cons:=@List.length_cons
theorem HM:type_of% @Nat.lt_of_lt_of_le:=@Nat.lt_of_lt_of_le
theorem HN:type_of% @List.mem_range:=@List.mem_range
theorem HO:type_of% @List.length_map:=@List.length_map
theorem HP:type_of% @List.mem_of_mem_take:=@List.mem_of_mem_take
theorem HQ:type_of% @Array.getD_eq_getD_getElem?:=@Array.getD_eq_getD_getElem?
theorem HR:type_of% @List.length_drop:=@List.length_drop
theorem HS:type_of% @List.not_mem_nil:=@List.not_mem_nil
theorem HU:type_of% @List.mem_filter:=@List.mem_filter
theorem HV:type_of% @List.sum_cons:=@List.sum_cons
theorem HW:type_of% @List.mem_append_left:=@List.mem_append_left
theorem HX:type_of% @List.getElem?_map:=@List.getElem?_map
theorem HY:type_of% @Array.length_toList:=@Array.length_toList
theorem HZ:type_of% @List.nodup_append:=@List.nodup_append
theorem Ga:type_of% @Bool.not_eq_true':=@Bool.not_eq_true'
theorem Gb:type_of% @Int.toNat_natCast:=@Int.toNat_natCast
theorem Gc:type_of% @List.getD_eq_getElem?_getD:=@List.getD_eq_getElem?_getD
theorem Gd:type_of% @List.drop_zero:=@List.drop_zero
theorem Ge:type_of% @List.getElem?_append_right:=@List.getElem?_append_right
theorem Gf:type_of% @List.nodup_cons:=@List.nodup_cons
theorem Gg:type_of% @List.mem_of_getElem?:=@List.mem_of_getElem?
theorem Gh:type_of% @List.take_length:=@List.take_length
theorem Gi:type_of% @List.take_zero:=@List.take_zero
theorem Gj:type_of% @List.getElem?_eq_none:=@List.getElem?_eq_none
theorem Gk:type_of% @Option.map_some:=@Option.map_some
theorem Gl:type_of% @List.take_of_length_le:=@List.take_of_length_le
theorem Gm:type_of% @List.take_succ_eq_append_getElem:=@List.take_succ_eq_append_getElem
theorem Gn:type_of% @Nat.mul_le_mul_right:=@Nat.mul_le_mul_right
theorem Gp:type_of% @List.drop_of_length_le:=@List.drop_of_length_le
theorem Gq:type_of% @List.getElem?_append_left:=@List.getElem?_append_left
theorem Gr:type_of% @Nat.add_zero:=@Nat.add_zero
theorem Gs:type_of% @List.drop_eq_nil_of_le:=@List.drop_eq_nil_of_le
theorem Gt:type_of% @Bool.true_and:=@Bool.true_and
theorem Gu:type_of% @List.take_left:=@List.take_left
theorem Gv:type_of% @Bool.or_eq_true:=@Bool.or_eq_true
theorem Gw:type_of% @List.getElem?_take:=@List.getElem?_take
theorem Gx:type_of% @Nat.add_assoc:=@Nat.add_assoc
theorem Gy:type_of% @List.length_set:=@List.length_set
theorem Gz:type_of% @Nat.sub_self:=@Nat.sub_self
theorem GA:type_of% @List.pairwise_cons:=@List.pairwise_cons
theorem GB:type_of% @List.drop_drop:=@List.drop_drop
theorem GD:type_of% @List.map_append:=@List.map_append
theorem GE:type_of% @Array.getElem?_append_left:=@Array.getElem?_append_left
theorem GF:type_of% @Bool.or_eq_false_iff:=@Bool.or_eq_false_iff
theorem GG:type_of% @List.drop_left:=@List.drop_left
theorem GH:type_of% @List.mem_flatMap:=@List.mem_flatMap
theorem GI:type_of% @List.size_toArray:=@List.size_toArray
theorem GJ:type_of% @List.mem_of_mem_drop:=@List.mem_of_mem_drop
theorem GK:type_of% @List.getElem?_range:=@List.getElem?_range
theorem GL:type_of% @List.mem_cons_self:=@List.mem_cons_self
theorem GN:type_of% @List.any_eq_false:=@List.any_eq_false
theorem GO:type_of% @List.length_range:=@List.length_range
theorem GP:type_of% @List.getElem?_drop:=@List.getElem?_drop
theorem GQ:type_of% @List.any_eq_true:=@List.any_eq_true
theorem GR:type_of% @List.mem_append_right:=@List.mem_append_right
theorem GS:type_of% @List.set_append_right:=@List.set_append_right
theorem GT:type_of% @ByteArray.size_extract:=@ByteArray.size_extract
theorem GV:type_of% @List.contains_iff_mem:=@List.contains_iff_mem
theorem GW:type_of% @List.length_filter_le:=@List.length_filter_le
theorem GX:type_of% @Array.getElem?_eq_some_iff:=@Array.getElem?_eq_some_iff
theorem GY:type_of% @List.set_eq_take_append_cons_drop:=@List.set_eq_take_append_cons_drop
abbrev GZ:=Go.IntKind.i64.wrap
theorem ZEH {α β:Type _} {a:α} {f:α->Option β}:(some a).bind f=f a:=rfl
theorem ZEI {α:Type _} {a b:α} (h:some a=some b):a=b:=Option.some.inj h
theorem ZEJ {a b:Prop} (x:a) (y:b):a/\b:=⟨x,y⟩
theorem ZEK {α:Type _} {a b:α}:(some a=some b)=(a=b):=Option.some.injEq a b
theorem ZEL {α β:Type _} {a c:α} {b d:β}:((a,b)=(c,d))=(a=c/\b=d):=Prod.mk.injEq a b c d
theorem ZEM {a b:Bool}:((a&&b)=true)=(a=true/\b=true):=Bool.and_eq_true a b
theorem ZEN (n:Nat):n<=n:=Nat.le_refl n
theorem ZEO:(false=true)=False:=Bool.false_eq_true
theorem ZEP {α:Type _} {l:List α} {i:Nat} (h:i<l.length):l[i]?=some l[i]:=List.getElem?_eq_getElem h
end Go.Proofs.YtmcfegjoccgpoaaGreatDoor
namespace Go.Proofs.YtmcfegjoccgpoaaGreatDoor.Am
inductive L where
 | int (k:IntKind) (n:Int)
 | bool (b:Bool)
 | str (s:Ma)
 | sl (es:List (List L))
 | void
def glb:List (Nat×List L):=[(5,[.int .u64 1,.int .u64 10,.int .u64 100,.int .u64 1000,.int .u64 10000,.int .u64 100000,.int .u64 1000000,.int .u64 10000000,.int .u64 100000000,.int .u64 1000000000,.int .u64 10000000000,.int .u64 100000000000,.int .u64 1000000000000,.int .u64 10000000000000,.int .u64 100000000000000,.int .u64 1000000000000000,.int .u64 10000000000000000,.int .u64 100000000000000000,.int .u64 1000000000000000000,.int .u64 10000000000000000000])]
def isI (v:Value):Prop:=∃m,v= .int .i64 m
def isF (v:Value):Prop:=∃t x,v= .iface t x
def Zt2:List (Nat×(Value->Prop)):=[(4,isF),(3,isF),(0,isI)]
open Go.RowKit
def InK (k:IntKind) (n:Int):Prop:=k.wrap n=n
def Fit (s:Ma):Prop:=s.size<=9223372036854775807
def At (w:World) (b off:Nat) (xs:List Value):Prop:=∀j u,xs[j]? =some u->w.cell? ⟨b,off+j,none⟩=some u
mutual
def Rp (w:World):L->Value->List Nat->Prop
 | .int k n,v,F=>v= .int k n/\F=[]/\InK k n
 | .bool b,v,F=>v= .bool b/\F=[]
 | .str s,v,F=>v= .string s/\F=[]/\Fit s
 | .void,v,F=>(∃A n c,v= .slice A n c)/\F=[]
 | .sl es,v,F=>∃A c,v= .slice A es.length c/\es.length<=c/\c<=9223372036854775807/\
   ((es=[]/\F=[])\/∃b off xs Fs,A=some ⟨b,off,none⟩/\b<w.heap.size/\F=b::Fs/\At w b off xs/\RpE w es xs Fs)
def RpL (w:World):List L->List Value->List Nat->Prop
 | [],vs,F=>vs=[]/\F=[]
 | x::xs,vs,F=>∃v m j l,vs=v::m/\F=j++l/\Rp w x v j/\RpL w xs m l
def RpE (w:World):List (List L)->List Value->List Nat->Prop
 | [],vs,F=>vs=[]/\F=[]
 | e::es,vs,F=>∃o p j l,vs=o++p/\F=j++l/\RpL w e o j/\RpE w es p l
end
mutual
def Ow (N:Nat->Prop) (w:World):L->Value->List Nat->Prop
 | .int k n,v,F=>v= .int k n/\F=[]/\InK k n
 | .bool b,v,F=>v= .bool b/\F=[]
 | .str s,v,F=>v= .string s/\F=[]/\Fit s
 | .void,v,F=>(∃A n c,v= .slice A n c)/\F=[]
 | .sl es,v,F=>∃A c,v= .slice A es.length c/\c<=9223372036854775807/\
   ((es=[]/\A=none/\c=0/\F=[])\/∃b t cur Fs W,A=some ⟨b,0,none⟩/\N b/\w.heap[b]? =some (.cells cur t (0,0))/\es.length<=c/\cur.size=c*W/\(∀e∈es,e.length=W)/\(es=[]->c=0)/\
     F=b::Fs/\OwE N w es (cur.toList.take (es.length*W)) Fs)
def OwL (N:Nat->Prop) (w:World):List L->List Value->List Nat->Prop
 | [],vs,F=>vs=[]/\F=[]
 | x::xs,vs,F=>∃v m j l,vs=v::m/\F=j++l/\Ow N w x v j/\OwL N w xs m l
def OwE (N:Nat->Prop) (w:World):List (List L)->List Value->List Nat->Prop
 | [],vs,F=>vs=[]/\F=[]
 | e::es,vs,F=>∃o p j l,vs=o++p/\F=j++l/\OwL N w e o j/\OwE N w es p l
end
def width:List (List L)->Nat
 | []=>0
 | e::es=>e.length+width es
theorem ZT {W:Nat}:∀{es:List (List L)},(∀e∈es,e.length=W)->width es=es.length*W
 | [],_=>by simp [width]
 | e::es,h=>by
  simp only [width,HL,ZT (es:=es) (λx j=>h x (Hz _ j)),h e Ha];rw [HE];omega
theorem RpL.len {w:World}:∀{xs:List L} {vs:List Value} {F:List Nat},RpL w xs vs F->vs.length=xs.length
 | [],_,_,h=>by simp only [RpL] at h;simp [h.1]
 | _::_,_,_,h=>by
  simp only [RpL] at h;obtain ⟨v,k,l,m,rfl,rfl,_,j⟩:=h;simp [RpL.len j]
theorem RpE.len {w:World}:∀{es:List (List L)} {vs:List Value} {F:List Nat},RpE w es vs F->vs.length=width es
 | [],_,_,h=>by simp only [RpE] at h;simp [h.1,width]
 | _::_,_,_,h=>by
  simp only [RpE] at h;obtain ⟨o,p,l,m,rfl,rfl,j,k⟩:=h;simp [RpE.len k,j.len,width]
def Sm (w w':World) (F:List Nat):Prop:=w.heap.size<=w'.heap.size/\∀b∈F,w'.heap[b]? =w.heap[b]?
theorem Sm.left {w w':World} {F G:List Nat} (h:Sm w w' (F++G)):Sm w w' F:=⟨h.1,λb j=>h.2 b (HW _ j)⟩
theorem Sm.right {w w':World} {F G:List Nat} (h:Sm w w' (F++G)):Sm w w' G:=⟨h.1,λb j=>h.2 b (GR _ j)⟩
theorem Sm.tail {w w':World} {b:Nat} {G:List Nat} (h:Sm w w' (b::G)):Sm w w' G:=⟨h.1,λx j=>h.2 x (Hz _ j)⟩
theorem At.keep {w w':World} {b off:Nat} {xs:List Value} (h:At w b off xs) (k:w'.heap[b]? =w.heap[b]?):At w' b off xs:=
 λj u l=>(World.cell?_of_block k).trans (h j u l)
mutual
theorem Rp.keep {w w':World}:∀{x:L} {v:Value} {F:List Nat},Rp w x v F->Sm w w' F->Rp w' x v F
 | .int _ _,_,_,h,_=>by simp only [Rp] at h ⊢;exact h
 | .bool _,_,_,h,_=>by simp only [Rp] at h ⊢;exact h
 | .str _,_,_,h,_=>by simp only [Rp] at h ⊢;exact h
 | .void,_,_,h,_=>by simp only [Rp] at h ⊢;exact h
 | .sl _,_,_,h,j=>by
  simp only [Rp] at h ⊢;obtain ⟨A,c,k,l,E,p⟩:=h;refine ⟨A,c,k,l,E, ?_⟩;rcases p with p| ⟨b,off,xs,Fs,s,t,z,B,C⟩
  ·exact .inl p
  ·subst z;exact .inr ⟨b,off,xs,Fs,s,HM t j.1,rfl,B.keep (j.2 b Ha),RpE.keep C j.tail⟩
theorem RpL.keep {w w':World}:∀{xs:List L} {vs:List Value} {F:List Nat},RpL w xs vs F->Sm w w' F->RpL w' xs vs F
 | [],_,_,h,_=>by simp only [RpL] at h ⊢;exact h
 | _::_,_,_,h,j=>by
  simp only [RpL] at h ⊢;obtain ⟨v,r,m,o,rfl,rfl,k,l⟩:=h;exact ⟨v,r,m,o,rfl,rfl,Rp.keep k j.left,RpL.keep l j.right⟩
theorem RpE.keep {w w':World}:∀{es:List (List L)} {vs:List Value} {F:List Nat},RpE w es vs F->Sm w w' F->RpE w' es vs F
 | [],_,_,h,_=>by simp only [RpE] at h ⊢;exact h
 | _::_,_,_,h,j=>by
  simp only [RpE] at h ⊢;obtain ⟨G,I,m,o,rfl,rfl,k,l⟩:=h;exact ⟨G,I,m,o,rfl,rfl,RpL.keep k j.left,RpE.keep l j.right⟩
end
mutual
theorem Ow.keep {N:Nat->Prop} {w w':World}:∀{x:L} {v:Value} {F:List Nat},Ow N w x v F->Sm w w' F->Ow N w' x v F
 | .int _ _,_,_,h,_=>by simp only [Ow] at h ⊢;exact h
 | .bool _,_,_,h,_=>by simp only [Ow] at h ⊢;exact h
 | .str _,_,_,h,_=>by simp only [Ow] at h ⊢;exact h
 | .void,_,_,h,_=>by simp only [Ow] at h ⊢;exact h
 | .sl _,_,_,h,j=>by
  simp only [Ow] at h ⊢;obtain ⟨A,c,k,l,p⟩:=h;refine ⟨A,c,k,l, ?_⟩;rcases p with p| ⟨b,t,cur,Fs,W,s,z,B,C,E,G,I,J,M⟩
  ·exact .inl p
  ·subst J;exact .inr ⟨b,t,cur,Fs,W,s,z,(j.2 b Ha).trans B,C,E,G,I,rfl,OwE.keep M j.tail⟩
theorem OwL.keep {N:Nat->Prop} {w w':World}:∀{xs:List L} {vs:List Value} {F:List Nat},OwL N w xs vs F->Sm w w' F->OwL N w' xs vs F
 | [],_,_,h,_=>by simp only [OwL] at h ⊢;exact h
 | _::_,_,_,h,j=>by
  simp only [OwL] at h ⊢;obtain ⟨v,r,m,o,rfl,rfl,k,l⟩:=h;exact ⟨v,r,m,o,rfl,rfl,Ow.keep k j.left,OwL.keep l j.right⟩
theorem OwE.keep {N:Nat->Prop} {w w':World}:∀{es:List (List L)} {vs:List Value} {F:List Nat},OwE N w es vs F->Sm w w' F->OwE N w' es vs F
 | [],_,_,h,_=>by simp only [OwE] at h ⊢;exact h
 | _::_,_,_,h,j=>by
  simp only [OwE] at h ⊢;obtain ⟨Q,R,m,o,rfl,rfl,k,l⟩:=h;exact ⟨Q,R,m,o,rfl,rfl,OwL.keep k j.left,OwE.keep l j.right⟩
end
mutual
theorem Ow.mono {N M:Nat->Prop} {w:World} (hm:∀b,N b->M b):∀{x:L} {v:Value} {F:List Nat},Ow N w x v F->Ow M w x v F
 | .int _ _,_,_,h=>by simp only [Ow] at h ⊢;exact h
 | .bool _,_,_,h=>by simp only [Ow] at h ⊢;exact h
 | .str _,_,_,h=>by simp only [Ow] at h ⊢;exact h
 | .void,_,_,h=>by simp only [Ow] at h ⊢;exact h
 | .sl _,_,_,h=>by
  simp only [Ow] at h ⊢;obtain ⟨A,c,k,l,r⟩:=h;refine ⟨A,c,k,l, ?_⟩;rcases r with r| ⟨b,t,cur,Fs,W,z,B,C,E,G,I,J,Q,R⟩
  ·exact .inl r
  ·exact .inr ⟨b,t,cur,Fs,W,z,hm _ B,C,E,G,I,J,Q,OwE.mono hm R⟩
theorem OwL.mono {N M:Nat->Prop} {w:World} (hm:∀b,N b->M b):∀{xs:List L} {vs:List Value} {F:List Nat},OwL N w xs vs F->OwL M w xs vs F
 | [],_,_,h=>by simp only [OwL] at h ⊢;exact h
 | _::_,_,_,h=>by
  simp only [OwL] at h ⊢;obtain ⟨v,s,m,o,p,j,k,l⟩:=h;exact ⟨v,s,m,o,p,j,Ow.mono hm k,OwL.mono hm l⟩
theorem OwE.mono {N M:Nat->Prop} {w:World} (hm:∀b,N b->M b):∀{es:List (List L)} {vs:List Value} {F:List Nat},OwE N w es vs F->OwE M w es vs F
 | [],_,_,h=>by simp only [OwE] at h ⊢;exact h
 | _::_,_,_,h=>by
  simp only [OwE] at h ⊢;obtain ⟨S,T,m,o,p,j,k,l⟩:=h;exact ⟨S,T,m,o,p,j,OwL.mono hm k,OwE.mono hm l⟩
end
mutual
theorem Ow.blocks {N:Nat->Prop} {w:World}:∀{x:L} {v:Value} {F:List Nat},Ow N w x v F->∀b∈F,N b/\∃cur t,w.heap[b]? =some (.cells cur t (0,0))
 | .int _ _,_,_,h=>by simp only [Ow] at h;simp [h.2.1]
 | .bool _,_,_,h=>by simp only [Ow] at h;simp [h.2]
 | .str _,_,_,h=>by simp only [Ow] at h;simp [h.2.1]
 | .void,_,_,h=>by simp only [Ow] at h;simp [h.2]
 | .sl _,_,_,h=>by
  simp only [Ow] at h;obtain ⟨A,c,k,l,B⟩:=h;rcases B with ⟨_,_,_,rfl⟩| ⟨b,t,cur,Fs,W,E,p,r,G,I,J,M,s,z⟩
  ·simp
  ·subst s;intro x j;rcases Hc.1 j with rfl| j
   ·exact ⟨p,cur,t,r⟩
   ·exact OwE.blocks z x j
theorem OwL.blocks {N:Nat->Prop} {w:World}:∀{xs:List L} {vs:List Value} {F:List Nat},OwL N w xs vs F->∀b∈F,N b/\∃cur t,w.heap[b]? =some (.cells cur t (0,0))
 | [],_,_,h=>by simp only [OwL] at h;simp [h.2]
 | _::_,_,_,h=>by
  simp only [OwL] at h;obtain ⟨v,C,m,o,rfl,rfl,k,l⟩:=h;intro x j;rcases He.1 j with j| j
  ·exact Ow.blocks k x j
  ·exact OwL.blocks l x j
theorem OwE.blocks {N:Nat->Prop} {w:World}:∀{es:List (List L)} {vs:List Value} {F:List Nat},OwE N w es vs F->∀b∈F,N b/\∃cur t,w.heap[b]? =some (.cells cur t (0,0))
 | [],_,_,h=>by simp only [OwE] at h;simp [h.2]
 | _::_,_,_,h=>by
  simp only [OwE] at h;obtain ⟨Q,R,m,o,rfl,rfl,k,l⟩:=h;intro x j;rcases He.1 j with j| j
  ·exact OwL.blocks k x j
  ·exact OwE.blocks l x j
end
theorem V6 {w:World} {b:Nat} {o:Obj} (h:w.heap[b]? =some o):b<w.heap.size:=(GX.1 h).1
mutual
theorem Rp.lt {w:World}:∀{x:L} {v:Value} {F:List Nat},Rp w x v F->∀b∈F,b<w.heap.size
 | .int _ _,_,_,h=>by simp only [Rp] at h;simp [h.2.1]
 | .bool _,_,_,h=>by simp only [Rp] at h;simp [h.2]
 | .str _,_,_,h=>by simp only [Rp] at h;simp [h.2.1]
 | .void,_,_,h=>by simp only [Rp] at h;simp [h.2]
 | .sl _,_,_,h=>by
  simp only [Rp] at h;obtain ⟨A,c,k,l,E,t⟩:=h;rcases t with ⟨_,rfl⟩| ⟨b,off,xs,Fs,B,p,r,C,s⟩
  ·simp
  ·subst r;intro x j;rcases Hc.1 j with rfl| j
   ·exact p
   ·exact RpE.lt s x j
theorem RpL.lt {w:World}:∀{xs:List L} {vs:List Value} {F:List Nat},RpL w xs vs F->∀b∈F,b<w.heap.size
 | [],_,_,h=>by simp only [RpL] at h;simp [h.2]
 | _::_,_,_,h=>by
  simp only [RpL] at h;obtain ⟨v,z,m,o,rfl,rfl,k,l⟩:=h;intro x j;rcases He.1 j with j| j
  ·exact Rp.lt k x j
  ·exact RpL.lt l x j
theorem RpE.lt {w:World}:∀{es:List (List L)} {vs:List Value} {F:List Nat},RpE w es vs F->∀b∈F,b<w.heap.size
 | [],_,_,h=>by simp only [RpE] at h;simp [h.2]
 | _::_,_,_,h=>by
  simp only [RpE] at h;obtain ⟨G,I,m,o,rfl,rfl,k,l⟩:=h;intro x j;rcases He.1 j with j| j
  ·exact RpL.lt k x j
  ·exact RpE.lt l x j
end
theorem OwL.len {N:Nat->Prop} {w:World}:∀{xs:List L} {vs:List Value} {F:List Nat},OwL N w xs vs F->vs.length=xs.length
 | [],_,_,h=>by simp only [OwL] at h;simp [h.1]
 | _::_,_,_,h=>by
  simp only [OwL] at h;obtain ⟨v,k,l,m,rfl,rfl,_,j⟩:=h;simp [OwL.len j]
theorem OwE.len {N:Nat->Prop} {w:World}:∀{es:List (List L)} {vs:List Value} {F:List Nat},OwE N w es vs F->vs.length=width es
 | [],_,_,h=>by simp only [OwE] at h;simp [h.1,width]
 | _::_,_,_,h=>by
  simp only [OwE] at h;obtain ⟨o,p,l,m,rfl,rfl,j,k⟩:=h;simp [OwE.len k,j.len,width]
theorem Zri {w:World} {b:Nat} {cur:Array Value} {t:TypeId} {fr:Nat×Nat} (h:w.heap[b]? =some (.cells cur t fr)) (n:Nat):At w b 0 (cur.toList.take n):=by
 intro j u k;rw [HH,cell_of_row w b j cur t fr h];rw [Gw] at k
 split at k
 ·simpa using k
 ·cases k
mutual
theorem Ow.rp {N:Nat->Prop} {w:World}:∀{x:L} {v:Value} {F:List Nat},Ow N w x v F->Rp w x v F
 | .int _ _,_,_,h=>by simp only [Ow,Rp] at h ⊢;exact h
 | .bool _,_,_,h=>by simp only [Ow,Rp] at h ⊢;exact h
 | .str _,_,_,h=>by simp only [Ow,Rp] at h ⊢;exact h
 | .void,_,_,h=>by simp only [Ow,Rp] at h ⊢;exact h
 | .sl _,_,_,h=>by
  simp only [Ow,Rp] at h ⊢;obtain ⟨A,c,k,l,I⟩:=h;rcases I with ⟨m,C,r,s⟩| ⟨b,t,cur,Fs,W,m,C,r,s,Q,R,S,E,G⟩
  ·exact ⟨A,c,k,by simp [m],l,.inl ⟨m,s⟩⟩
  ·exact ⟨A,c,k,s,l,.inr ⟨b,0,_,Fs,m,V6 r,E,Zri r _,OwE.rp G⟩⟩
theorem OwL.rp {N:Nat->Prop} {w:World}:∀{xs:List L} {vs:List Value} {F:List Nat},OwL N w xs vs F->RpL w xs vs F
 | [],_,_,h=>by simp only [OwL,RpL] at h ⊢;exact h
 | _::_,_,_,h=>by
  simp only [OwL,RpL] at h ⊢;obtain ⟨v,B,o,p,z,j,k,l⟩:=h;exact ⟨v,B,o,p,z,j,Ow.rp k,OwL.rp l⟩
theorem OwE.rp {N:Nat->Prop} {w:World}:∀{es:List (List L)} {vs:List Value} {F:List Nat},OwE N w es vs F->RpE w es vs F
 | [],_,_,h=>by simp only [OwE,RpE] at h ⊢;exact h
 | _::_,_,_,h=>by
  simp only [OwE,RpE] at h ⊢;obtain ⟨J,M,o,p,z,j,k,l⟩:=h;exact ⟨J,M,o,p,z,j,OwL.rp k,OwE.rp l⟩
end
def L.flat:L->Bool
 | .sl _=>false
 | .void=>false
 | _=>true
def Zfw (xs:List L):Bool:=xs.all L.flat
def Ue (es:List (List L)):Bool:=es.all Zfw
theorem Rp.flat {w:World} {N:Nat->Prop} {x:L} {v:Value} {F:List Nat} (h:Rp w x v F) (hf:x.flat=true):F=[]/\Ow N w x v []:=by
 cases x<;>simp only [Rp,Ow,L.flat] at h hf ⊢
 ·simp [h.1,h.2.1,h.2.2]
 ·simp [h.1,h.2]
 ·simp [h.1,h.2.1,h.2.2]
 ·cases hf
 ·cases hf
theorem RpL.flat {w:World} {N:Nat->Prop}:∀{xs:List L} {vs:List Value} {F:List Nat},RpL w xs vs F->Zfw xs=true->F=[]/\OwL N w xs vs []
 | [],_,_,h,_=>by simp only [RpL,OwL] at h ⊢;simp [h.1,h.2]
 | x::xs,_,_,h,hf=>by
  simp only [RpL] at h;obtain ⟨v,j,s,t,rfl,rfl,m,o⟩:=h;simp only [Zfw,List.all_cons,ZEM] at hf;obtain ⟨k,p⟩:=m.flat hf.1;obtain ⟨l,r⟩:=RpL.flat o hf.2;subst k l;refine ⟨rfl, ?_⟩;simp only [OwL];exact ⟨v,j,[],[],rfl,rfl,p,r⟩
theorem RpE.flat {w:World} {N:Nat->Prop}:∀{es:List (List L)} {vs:List Value} {F:List Nat},RpE w es vs F->Ue es=true->F=[]/\OwE N w es vs []
 | [],_,_,h,_=>by simp only [RpE,OwE] at h ⊢;simp [h.1,h.2]
 | x::z,_,_,h,hf=>by
  simp only [RpE] at h;obtain ⟨v,j,s,t,rfl,rfl,m,o⟩:=h;simp only [Ue,List.all_cons,ZEM] at hf;obtain ⟨k,p⟩:=m.flat hf.1;obtain ⟨l,r⟩:=RpE.flat o hf.2;subst k l;refine ⟨rfl, ?_⟩;simp only [OwE];exact ⟨v,j,[],[],rfl,rfl,p,r⟩
theorem RpL.append {w:World}:∀{xs ys:List L} {m o:List Value} {j l:List Nat},RpL w xs m j->RpL w ys o l->RpL w (xs++ys) (m++o) (j++l)
 | [],_,_,_,_,_,h,k=>by simp only [RpL] at h;obtain ⟨rfl,rfl⟩:=h;simpa using k
 | x::xs,_,_,_,_,_,h,k=>by
  simp only [RpL] at h;obtain ⟨v,t,p,z,rfl,rfl,r,s⟩:=h;simp only [Hm,RpL];exact ⟨v,_,p,_,rfl,by rw [Hx],r,RpL.append s k⟩
theorem RpE.append {w:World}:∀{xs ys:List (List L)} {m o:List Value} {j l:List Nat},RpE w xs m j->RpE w ys o l->RpE w (xs++ys) (m++o) (j++l)
 | [],_,_,_,_,_,h,k=>by simp only [RpE] at h;obtain ⟨rfl,rfl⟩:=h;simpa using k
 | x::xs,_,_,_,_,_,h,k=>by
  simp only [RpE] at h;obtain ⟨v,t,p,z,rfl,rfl,r,s⟩:=h;simp only [Hm,RpE];exact ⟨v,_,p,_,by rw [Hx],by rw [Hx],r,RpE.append s k⟩
theorem OwL.append {N:Nat->Prop} {w:World}:∀{xs ys:List L} {m o:List Value} {j l:List Nat},OwL N w xs m j->OwL N w ys o l->OwL N w (xs++ys) (m++o) (j++l)
 | [],_,_,_,_,_,h,k=>by simp only [OwL] at h;obtain ⟨rfl,rfl⟩:=h;simpa using k
 | x::xs,_,_,_,_,_,h,k=>by
  simp only [OwL] at h;obtain ⟨v,t,p,z,rfl,rfl,r,s⟩:=h;simp only [Hm,OwL];exact ⟨v,_,p,_,rfl,by rw [Hx],r,OwL.append s k⟩
theorem OwE.append {N:Nat->Prop} {w:World}:∀{xs ys:List (List L)} {m o:List Value} {j l:List Nat},OwE N w xs m j->OwE N w ys o l->OwE N w (xs++ys) (m++o) (j++l)
 | [],_,_,_,_,_,h,k=>by simp only [OwE] at h;obtain ⟨rfl,rfl⟩:=h;simpa using k
 | x::xs,_,_,_,_,_,h,k=>by
  simp only [OwE] at h;obtain ⟨v,t,p,z,rfl,rfl,r,s⟩:=h;simp only [Hm,OwE];exact ⟨v,_,p,_,by rw [Hx],by rw [Hx],r,OwE.append s k⟩
theorem RpL.split {w:World}:∀{xs ys:List L} {vs:List Value} {F:List Nat},RpL w (xs++ys) vs F->∃m o j k,vs=m++o/\F=j++k/\RpL w xs m j/\RpL w ys o k
 | [],_,vs,F,h=>⟨[],vs,[],F,rfl,rfl,⟨rfl,rfl⟩,h⟩
 | x::xs,ys,vs,F,h=>by
  simp only [Hm,RpL] at h;obtain ⟨v,C,j,k,rfl,rfl,s,t⟩:=h;obtain ⟨p,B,l,r,rfl,rfl,z,A⟩:=RpL.split t;refine ⟨v::p,B,j++l,r,rfl,by rw [Hx], ?_,A⟩;simp only [RpL];exact ⟨v,p,j,l,rfl,rfl,s,z⟩
theorem RpE.split {w:World}:∀{xs ys:List (List L)} {vs:List Value} {F:List Nat},RpE w (xs++ys) vs F->∃m o j k,vs=m++o/\F=j++k/\RpE w xs m j/\RpE w ys o k
 | [],_,vs,F,h=>⟨[],vs,[],F,rfl,rfl,⟨rfl,rfl⟩,h⟩
 | x::xs,ys,vs,F,h=>by
  simp only [Hm,RpE] at h;obtain ⟨v,C,j,k,rfl,rfl,s,t⟩:=h;obtain ⟨p,B,l,r,rfl,rfl,z,A⟩:=RpE.split t;refine ⟨v++p,B,j++l,r,by rw [Hx],by rw [Hx], ?_,A⟩;simp only [RpE];exact ⟨v,p,j,l,rfl,rfl,s,z⟩
theorem OwE.split {N:Nat->Prop} {w:World}:∀{xs ys:List (List L)} {vs:List Value} {F:List Nat},OwE N w (xs++ys) vs F->∃m o j k,vs=m++o/\F=j++k/\OwE N w xs m j/\OwE N w ys o k
 | [],_,vs,F,h=>⟨[],vs,[],F,rfl,rfl,⟨rfl,rfl⟩,h⟩
 | x::xs,ys,vs,F,h=>by
  simp only [Hm,OwE] at h;obtain ⟨v,C,j,k,rfl,rfl,s,t⟩:=h;obtain ⟨p,B,l,r,rfl,rfl,z,A⟩:=OwE.split t;refine ⟨v++p,B,j++l,r,by rw [Hx],by rw [Hx], ?_,A⟩;simp only [OwE];exact ⟨v,p,j,l,rfl,rfl,s,z⟩
theorem At.drop {w:World} {b off:Nat} {xs:List Value} (h:At w b off xs) (k:Nat):At w b (off+k) (xs.drop k):=by
 intro j u l;rw [GP] at l;have:=h _ u l;rw [Gx];exact this
theorem At.left {w:World} {b off:Nat} {xs ys:List Value} (h:At w b off (xs++ys)):At w b off xs:=λj u k=>h j u (by
 rw [Gq (Hh.1 k).1];exact k)
theorem At.right {w:World} {b off:Nat} {xs ys:List Value} (h:At w b off (xs++ys)):At w b (off+xs.length) ys:=by
 have:=h.drop xs.length
 rwa [GG] at this
theorem RpE.get {w:World} {es:List (List L)} {vs:List Value} {F:List Nat} {W i:Nat} {e:List L} {b off:Nat} (h:RpE w es vs F) (t:At w b off vs) (s:∀e∈es,e.length=W) (hi:es[i]? =some e):
  ∃ys j,RpL w e ys j/\At w b (off+i*W) ys/\(∀x∈j,x∈F):=by
 obtain ⟨A,rfl⟩:=Hh.1 hi;have e:es=es.take i++es[i]::es.drop (i+1):=by rw [List.getElem_cons_drop,Hn]
 rw [e] at h;obtain ⟨m,G,B,C,rfl,rfl,p,k⟩:=RpE.split h;simp only [RpE] at k;obtain ⟨o,I,l,E,rfl,rfl,r,J⟩:=k
 have l1:m.length=i*W:=by
  rw [p.len,ZT (λd hd=>s d (HP hd)),Hg,Hw WF]
 refine ⟨o,l,r, ?_,λb z=>by simp [z]⟩;have:=t.right.left
 rwa [l1] at this
theorem OwL.Zzw {N:Nat->Prop} {w:World}:∀{xs:List L} {vs:List Value} {F:List Nat},OwL N w xs vs F->F.Nodup->∀{k:Nat} {x:L},xs[k]? =some x->
  ∃u G,vs[k]? =some u/\Ow N w x u G/\(∀b∈G,b∈F)/\∀(w':World) (p:L),w.heap.size<=w'.heap.size->(∀b∈F,b∉G->w'.heap[b]? =w.heap[b]?)->Ow N w' p u G->OwL N w' (xs.set k p) vs F
 | [],_,_,_,_,k,x,r=>by simp at r
 | y::xs,vs,F,h,S,k,x,r=>by
  simp only [OwL] at h;obtain ⟨v,o,t,A,rfl,rfl,C,E⟩:=h;obtain ⟨T,R,I⟩:=HZ.1 S;cases k with
  | zero=>
   obtain rfl:y=x:=by simpa using r
   refine ⟨v,t,rfl,C,λb j=>by simp [j],λw' p s l ho=> ?_⟩;simp;exact ⟨v,o,t,A,rfl,rfl,ho,E.keep ⟨s,λb j=>l b (by simp [j]) λz=>I b z b j rfl⟩⟩
  | succ k=>
   obtain ⟨u,G,J,M,B,Q⟩:=OwL.Zzw E R (by simpa using r);refine ⟨u,G,by simpa using J,M,λb j=>by simp [B b j],λw' p s l ho=> ?_⟩;simp;exact ⟨v,o,t,A,rfl,rfl,C.keep ⟨s,λb j=>l b (by simp [j]) λm=>I b j b (B b m) rfl⟩,Q w' p s (λb j m=>l b (by simp [j]) m) ho⟩
theorem OwE.Zzw {N:Nat->Prop} {w:World} {W:Nat}:∀{es:List (List L)} {vs:List Value} {F:List Nat},OwE N w es vs F->F.Nodup->(∀e∈es,e.length=W)->∀{j k:Nat} {el:List L} {x:L},es[j]? =some el->el[k]? =some x->
  ∃u G,vs[j*W+k]? =some u/\Ow N w x u G/\(∀b∈G,b∈F)/\∀(w':World) (p:L),w.heap.size<=w'.heap.size->(∀b∈F,b∉G->w'.heap[b]? =w.heap[b]?)->Ow N w' p u G->OwE N w' (es.set j (el.set k p)) vs F
 | [],_,_,_,_,_,j,k,el,x,hj,_=>by simp at hj
 | y::es,vs,F,h,Z,Q,j,k,el,x,hj,R=>by
  simp only [OwE] at h;obtain ⟨E,T,I,J,rfl,rfl,B,M⟩:=h;obtain ⟨X,Y,S⟩:=HZ.1 Z;have l1:E.length=W:=by rw [B.len];exact Q y Ha
  cases j with
  | zero=>
   obtain rfl:y=el:=by simpa using hj
   obtain ⟨u,G,t,z,r,A⟩:=OwL.Zzw B X R;have C:=(Hh.1 t).1;refine ⟨u,G,by rw [Nat.zero_mul,HH,Gq C];exact t,z,λb m=>by simp [r b m],λw' p s o ho=> ?_⟩;simp;exact ⟨E,T,I,J,rfl,rfl,A w' p s (λb m l=>o b (by simp [m]) l) ho,M.keep ⟨s,λb m=>o b (by simp [m]) λl=>S b (r b l) b m rfl⟩⟩
  | succ j=>
   obtain ⟨u,G,t,z,r,A⟩:=OwE.Zzw M Y (λe U=>Q e (by simp [U])) (show es[j]? =some el by simpa using hj) R;refine ⟨u,G,by rw [HE,Nat.one_mul,Ge WF];rw [<-t];congr 1;omega,z,λb m=>by simp [r b m],λw' p s o ho=> ?_⟩;simp;exact ⟨E,T,I,J,rfl,rfl,B.keep ⟨s,λb m=>o b (by simp [m]) λl=>S b m b (r b l) rfl⟩,A w' p s (λb m l=>o b (by simp [m]) l) ho⟩
theorem OwE.Zs5 {N:Nat->Prop} {w w':World}:∀{ys:List (List L)} {vs:List Value},OwE N w ys vs []->(∀y∈ys,y.length=1)->Ue ys=true->∀{i:Nat} {x:L} {v:Value},Ow N w' x v []->w.heap.size<=w'.heap.size->OwE N w' (ys.set i [x]) (vs.set i v) []
 | [],vs,h,_,_,i,x,v,_,_=>by simp only [OwE] at h;simp [h.1,OwE]
 | y::ys,vs,h,s,hf,i,x,v,t,m=>by
  simp only [OwE] at h;obtain ⟨o,E,z,A,rfl,B,p,r⟩:=h;obtain ⟨rfl,rfl⟩:z=[]/\A=[]:=by simpa using B.symm
  have l1:o.length=1:=by rw [p.len];exact s y Ha
  obtain ⟨j,rfl⟩:∃j,o=[j]:=by
   match o,l1 with
   | [j],_=>exact ⟨j,rfl⟩
  have l:Ue ys=true:=by simp only [Ue,List.all_cons,ZEM] at hf;exact hf.2
  cases i with
  | zero=>
   simp;exact ⟨[v],E,[],[],rfl,rfl,by simp only [OwL];exact ⟨v,[],[],[],rfl,rfl,t,rfl,rfl⟩,r.keep ⟨m,λb k=>by simp at k⟩⟩
  | succ i=>
   simp;exact ⟨[j],_,[],[],rfl,rfl,p.keep ⟨m,λb k=>by simp at k⟩,OwE.Zs5 r (λy C=>s y (by simp [C])) l t m⟩
theorem Ow.Zo5 {N:Nat->Prop} {w:World} {ys:List (List L)} {u:Value} {G:List Nat} (h:Ow N w (.sl ys) u G) (k:∀y∈ys,y.length=1) (hf:Ue ys=true) {i:Nat} (hi:i<ys.length):
  ∃b c cur t,u= .slice (some ⟨b,0,none⟩) ys.length c/\G=[b]/\N b/\w.heap[b]? =some (.cells cur t (0,0))/\i<cur.size/\
   ∀{x:L} {v:Value} {w':World},Ow N w' x v []->w.heap.size<=w'.heap.size->w'.heap[b]? =some (.cells (cur.setIfInBounds i v) t (0,0))->Ow N w' (.sl (ys.set i [x])) u G:=by
 simp only [Ow] at h;obtain ⟨A,c,rfl,o,⟨R,_⟩| ⟨b,t,cur,M,W,rfl,l,B,C,E,I,T,rfl,J⟩⟩:=h
 ·simp_all
 ·obtain ⟨rfl,j⟩:=(J.rp).flat hf
  have m:W=1:=by
   rw [<-I _ (Hl hi)];exact k _ (Hl hi)
  subst m;refine ⟨b,c,cur,t,rfl,rfl,l,B,WF,λ{x v w'} s r p=> ?_⟩;simp only [Ow];refine ⟨_,c,by rw [Gy],o,.inr ⟨b,t,_,[],1,rfl,l,p,by rw [Gy];exact C,by simp [E],λe S=> ?_,λQ=> ?_,rfl, ?_⟩⟩
  ·grind
  ·simp_all
  ·have:=OwE.Zs5 (N:=N) (w:=w) (w':=w') (i:=i) j (λy z=>k y z) hf s r;rw [Gy,Array.toList_setIfInBounds];rw [List.take_set];exact this
structure Arr where
 fr:Bool
 es:List (List L)
def Zje:L->Value
 | .int k n=>.int k n
 | .bool b=>.bool b
 | .str s=>.string s
 | .sl _=>undef
 | .void=>undef
inductive DV where
 | one (x:L)
 | agg (xs:List L)
def ZAZ:DV->Value
 | .one x=>Zje x
 | .agg j=>.agg (j.map Zje).toArray
def okL:L->Prop
 | .int k n=>InK k n
 | .bool _=>True
 | .str s=>Fit s
 | _=>False
def okD:DV->Prop
 | .one x=>okL x
 | .agg j=>∀x∈j,okL x
inductive MD where
 | ib (M:List (Int×Bool))
def MD.es:MD->List (DV×DV)
 | .ib M=>M.map λp=>(.one (.int .i64 p.1),.one (.bool p.2))
structure Env where
 β:Nat->Nat
 ρ:Nat->Value
 φ:Nat->List Nat
 bad:Nat->Prop
inductive CV where
 | l (x:L)
 | nil
 | own (τ n:Nat)
 | box (k off:Nat)
 | adr (ls:List L)
 | elt (τ n i W off:Nat)
 | nst (τ j W off m:Nat)
 | nel (τ j W off i:Nat)
 | vw (τ n lo hi W:Nat)
 | any
 | kept (v0:Value) (x:L)
 | np
 | clo (f:Nat) (ks:List Nat)
 | nf
 | mp (k:Nat)
 | mc (m:MD)
 | mpt (M:List (Int×Nat))
def CV.ZAU:CV->Bool
 | .mc _=>true
 | .mpt _=>true
 | _=>false
def U3:List CV->Bool
 | [c]=>!c.ZAU
 | _=>true
inductive V where
 | one (c:CV)
 | agg (cs:List CV)
 | tup (ps:List (Bool×List CV))
 | dead
structure St where
 nt:Nat
 tm:List (Nat×V)
 bx:List (Nat×List CV)
 ar:List (Nat×Option Arr)
def Mut (e:Env) (O:St) (b:Nat):Prop:= e.bad b\/(∃k cs,O.bx.lookup k=some cs/\e.β k=b)\/(∃j A,O.ar.lookup j=some (some A)/\(e.ρ j).ownBlock=some b)
def CV.rel (e:Env) (O:St) (w:World):CV->Value->Prop
 | .l x,v=>∃F,Rp w x v F/\∀b∈F,¬Mut e O b
 | .nil,v=>v= .slice none 0 0
 | .own r n,v=>∃A,O.ar.lookup r=some A/\(∀B,A=some B->n<=B.es.length/\(B.es.length=n->v=e.ρ r))/\∃p c,v= .slice p n c/\n<=9223372036854775807
 | .box k o,v=>(∃cs,O.bx.lookup k=some cs)/\v= .pointer (some ⟨e.β k,o,none⟩)
 | .adr J,v=>∃b o I F,v= .pointer (some ⟨b,o,none⟩)/\At w b o I/\RpL w J I F/\b<w.heap.size/\¬Mut e O b/\∀x∈F,¬Mut e O x
 | .elt r n i W o,v=>∃A,O.ar.lookup r=some A/\(∀B,A=some B->n<=B.es.length/\(B.es.length=n->∃b,(e.ρ r).ownBlock=some b/\v= .pointer (some ⟨b,i*W+o,none⟩)))/\∃p,v= .pointer p
 | .nst r j W o m,v=>∃A,O.ar.lookup r=some A/\(∀B,A=some B->1000000<=r/\∃b s t,(e.ρ r).ownBlock=some b/\w.heap[b]? =some (.cells s t (0,0))/\s[j*W+o]? =some v)/\∃q c,v= .slice q m c/\m<=9223372036854775807
 | .nel r j W o i,v=>∃A,O.ar.lookup r=some A/\(∀B,A=some B->1000000<=r/\∃b s t E m c,(e.ρ r).ownBlock=some b/\w.heap[b]? =some (.cells s t (0,0))/\s[j*W+o]? =some (.slice (some ⟨E,0,none⟩) m c)/\v= .pointer (some ⟨E,i,none⟩))/\∃q,v= .pointer q
 | .vw r n z C W,v=>∃A,O.ar.lookup r=some A/\(∀B,A=some B->n<=B.es.length/\(B.es.length=n->z<=C/\C<=n/\∃p c q,e.ρ r= .slice p n c/\(z<c\/z=0->q=p.map (·.add (z*W)))/\v= .slice q (C-z) (c-z)))/\∃q c,v= .slice q (C-z) c/\C-z<=9223372036854775807
 | .any,v=>v.cells= #[v]/\v.oneCell'=true
 | .kept Q x,v=>v=Q/\∃F,Rp w x v F/\∀b∈F,¬Mut e O b
 | .np,v=>v= .pointer none
 | .clo f G,v=>(∀k∈G,∃cs,O.bx.lookup k=some cs)/\v= .func (.func f) #[] (G.map λk=>Value.pointer (some ⟨e.β k,0,none⟩)).toArray
 | .nf,v=>v= .nilFunc
 | .mp k,v=>(∃cs,O.bx.lookup k=some cs)/\v= .map (some (e.β k))
 | .mc _,_=>False
 | .mpt M,v=>(∀p∈M,(∃cs,O.bx.lookup p.2=some cs)/\InK .i64 p.1)/\v= .func (.func 0) #[] (M.flatMap λp=>[Value.int .i64 p.1,Value.pointer (some ⟨e.β p.2,0,none⟩)]).toArray
def Yn (e:Env) (O:St) (w:World):List CV->List Value->Prop
 | [],k=>k=[]
 | c::cs,k=>∃v j,k=v::j/\c.rel e O w v/\Yn e O w cs j
def ZmZ (e:Env) (O:St) (w:World) (cs:List CV) (o:Option Obj):Prop:=
 (∃j l,o=some (.cells j l (0,0))/\Yn e O w cs j.toList)\/
 (∃k a n,cs=[.mc k]/\o=some (.map a n)/\a.toList.map (λm=>(m.key,m.val))=k.es.map (λp=>(ZAZ p.1,ZAZ p.2))/\∀p∈k.es,okD p.1/\okD p.2)\/
 (∃M a n,cs=[.mpt M]/\o=some (.map a n)/\(CV.mpt M).rel e O w (.func (.func 0) #[] (a.toList.flatMap λm=>[m.key,m.val]).toArray))
def Zpf (e:Env) (O:St) (w:World):Bool×List CV->Value->Prop
 | (true,cs),v=>∃j,v= .agg j.toArray/\Yn e O w cs j
 | (false,cs),v=>∃c,cs=[c]/\c.rel e O w v
def YH (e:Env) (O:St) (w:World):List (Bool×List CV)->List Value->Prop
 | [],k=>k=[]
 | p::l,k=>∃v j,k=v::j/\Zpf e O w p v/\YH e O w l j
def V.rel (e:Env) (O:St) (w:World):V->Value->Prop
 | .one c,v=>c.rel e O w v
 | .agg cs,v=>∃j,v= .agg j.toArray/\Yn e O w cs j
 | .tup k,v=>∃j,v= .tuple j.toArray/\YH e O w k j
 | .dead,v=>v=undef
def Uf (N M:Nat->Prop) (w:World) (A:Arr) (v:Value) (F:List Nat):Prop:= ∃p c,v= .slice p A.es.length c/\c<=9223372036854775807/\ ((A.es=[]/\p=none/\c=0/\F=[])\/∃b t j k W,p=some ⟨b,0,none⟩/\N b/\w.heap[b]? =some (.cells j t (0,0))/\A.es.length<=c/\j.size=c*W/\(∀e∈A.es,e.length=W)/\(A.es=[]->c=0)/\ ((A.fr=true/\F=b::k/\F.Nodup/\OwE N w A.es (j.toList.take (A.es.length*W)) k)\/ (A.fr=false/\F=[b]/\RpE w A.es (j.toList.take (A.es.length*W)) k/\∀x∈k,¬M x)))
def Glb (w:World) (G:Nat->Prop):Prop:=(∀b,G b->b<w.heap.size)/\(∀p∈glb,∃j l k F,w.heap[p.1]? =some (.cells j l k)/\G p.1/\RpL w p.2 j.toList F/\∀b∈F,G b)/\∀p∈Zt2,∃v,w.cell? ⟨p.1,0,none⟩=some v/\G p.1/\p.2 v
theorem Glb.keep {w w':World} {G:Nat->Prop} (h:Glb w G) (t:w.heap.size<=w'.heap.size) (o:∀b,G b->w'.heap[b]? =w.heap[b]?):Glb w' G:=
 ⟨λb g=>HM (h.1 b g) t,λp hp=>by
  obtain ⟨k,A,z,F,l,j,m,s⟩:=h.2.1 p hp;exact ⟨k,A,z,F,(o _ j).trans l,j,m.keep ⟨t,λb r=>o b (s b r)⟩,s⟩,λp hp=>by
  obtain ⟨v,l,j,m⟩:=h.2.2 p hp;exact ⟨v,(World.cell?_of_block (o _ j)).trans l,j,m⟩⟩
structure Frame (N:Nat->Prop) (w0 w:World):Prop where
 gl:∃G,Glb w0 G/\∀b,G b->¬N b
 os:w.os=w0.os
 tape:w.tape=w0.tape
 output:w.output=w0.output
 size:w0.heap.size<=w.heap.size
 block:∀b,b<w0.heap.size->¬N b->w.heap[b]? =w0.heap[b]?
 new:∀b,w0.heap.size<=b->N b
inductive Key where
 | b (k:Nat)
 | a (τ:Nat)
 deriving DecidableEq
def ZkX:Key->Prop
 | .b _=>False
 | .a j=>1000000<=j
def live (O:St):Key->Prop
 | .b k=>∃cs,O.bx.lookup k=some cs
 | .a j=>∃A,O.ar.lookup j=some (some A)
def blk (e:Env):Key->List Nat
 | .b k=>[e.β k]
 | .a j=>e.φ j
structure Bs where
 w:World
 bad:Nat->Prop
 pin:Nat->Nat
 tch:Nat->Prop
def Bok (N:Nat->Prop) (w0:Bs):Prop:=(∀b,w0.bad b->¬N b)/\∀b,N b->w0.tch b
def tpB (e:Env):Key->Nat->Prop
 | .b k,b=>b=e.β k
 | .a j,b=>(e.ρ j).ownBlock=some b\/(1000000<=j/\b∈e.φ j)
structure ZJ (N:Nat->Prop) (w0:Bs) (e:Env) (O:St) (a:Act) (w:World):Prop where
 nt:a.tmps.size=O.nt
 df:a.defers=[]
 tm:∀t v,O.tm.lookup t=some v->v.rel e O w (a.tmps.getD t undef)
 bx:∀k cs,O.bx.lookup k=some cs->N (e.β k)/\ZmZ e O w cs w.heap[e.β k]?
 ar:∀τ A,O.ar.lookup τ=some (some A)->Uf N (Mut e O) w A (e.ρ τ) (e.φ τ)
 sep:∀κ κ',live O κ->live O κ'->κ≠κ'->∀b∈blk e κ,b∉blk e κ'
 fr:Frame w0.tch w0.w w
 bad:(∀b,w0.bad b->e.bad b)/\∀b,e.bad b->b<w.heap.size/\∀κ,live O κ->b∈blk e κ->ZkX κ
 dk:∀κ,live O κ->ZkX κ->∀b∈blk e κ,e.bad b
 pn:∀k cs,O.bx.lookup k=some cs->O.nt<=k->e.β k=w0.pin k
 tn:∀b,w0.tch b->N b
 tp:∀κ b,live O κ->tpB e κ b->w0.tch b
def Sim (N:Nat->Prop) (w0:Bs) (O:St) (a:Act) (w:World):Prop:=∃e,ZJ N w0 e O a w
section
variable {e e':Env} {O O':St} {w w':World} {N:Nat->Prop} {w0:Bs} {a:Act}
theorem CV.rel.cells {c:CV} {v:Value} (h:c.rel e O w v):v.cells= #[v]/\v.oneCell'=true:=by
 cases c with
 | l x=>
  obtain ⟨F,h,_⟩:=h;cases x<;>simp only [Rp] at h
  ·rw [h.1];exact ⟨rfl,rfl⟩
  ·rw [h.1];exact ⟨rfl,rfl⟩
  ·rw [h.1];exact ⟨rfl,rfl⟩
  ·obtain ⟨A,c,h,_⟩:=h;rw [h];exact ⟨rfl,rfl⟩
  ·obtain ⟨⟨A,n,c,h⟩,_⟩:=h;rw [h];exact ⟨rfl,rfl⟩
 | nil=>simp only [CV.rel] at h;rw [h];exact ⟨rfl,rfl⟩
 | own τ n=>obtain ⟨_,_,_,p,c,h,_⟩:=h;rw [h];exact ⟨rfl,rfl⟩
 | box k off=>rw [h.2];exact ⟨rfl,rfl⟩
 | adr r=>obtain ⟨b,off,vs,F,h,_⟩:=h;rw [h];exact ⟨rfl,rfl⟩
 | elt τ n i W off=>obtain ⟨_,_,_,p,h⟩:=h;rw [h];exact ⟨rfl,rfl⟩
 | nst τ j W off m=>obtain ⟨_,_,_,p,c,h,_⟩:=h;rw [h];exact ⟨rfl,rfl⟩
 | nel τ j W off i=>obtain ⟨_,_,_,p,h⟩:=h;rw [h];exact ⟨rfl,rfl⟩
 | vw τ n lo m W=>obtain ⟨_,_,_,p,c,h,_⟩:=h;rw [h];exact ⟨rfl,rfl⟩
 | any=>exact h
 | kept s x=>
  obtain ⟨_,F,h,_⟩:=h;cases x<;>simp only [Rp] at h
  ·rw [h.1];exact ⟨rfl,rfl⟩
  ·rw [h.1];exact ⟨rfl,rfl⟩
  ·rw [h.1];exact ⟨rfl,rfl⟩
  ·obtain ⟨A,c,h,_⟩:=h;rw [h];exact ⟨rfl,rfl⟩
  ·obtain ⟨⟨A,n,c,h⟩,_⟩:=h;rw [h];exact ⟨rfl,rfl⟩
 | np=>simp only [CV.rel] at h;rw [h];exact ⟨rfl,rfl⟩
 | clo f o=>simp only [CV.rel] at h;rw [h.2];exact ⟨rfl,rfl⟩
 | nf=>simp only [CV.rel] at h;rw [h];exact ⟨rfl,rfl⟩
 | mp k=>simp only [CV.rel] at h;rw [h.2];exact ⟨rfl,rfl⟩
 | mc es=>exact h.elim
 | mpt M=>simp only [CV.rel] at h;rw [h.2];exact ⟨rfl,rfl⟩
theorem Yn.len:∀{cs:List CV} {vs:List Value},Yn e O w cs vs->vs.length=cs.length
 | [],_,h=>by simp only [Yn] at h;simp [h]
 | _::_,_,h=>by
  simp only [Yn] at h;obtain ⟨v,k,rfl,_,j⟩:=h;simp [Yn.len j]
theorem Yn.one:∀{cs:List CV} {vs:List Value},Yn e O w cs vs->∀u∈vs,u.oneCell'=true
 | [],_,h=>by simp only [Yn] at h;simp [h]
 | _::_,_,h=>by
  simp only [Yn] at h;obtain ⟨v,m,rfl,k,l⟩:=h;intro u j;rcases Hc.1 j with rfl| j
  ·exact k.cells.2
  ·exact Yn.one l u j
theorem Yn.get:∀{cs:List CV} {vs:List Value} {i:Nat} {c:CV},Yn e O w cs vs->cs[i]? =some c->∃v,vs[i]? =some v/\c.rel e O w v
 | c::cs,_,0,_,h,j=>by
  simp only [Yn] at h;obtain ⟨v,k,rfl,l,m⟩:=h;simp at j;subst j;exact ⟨v,rfl,l⟩
 | c::cs,_,i+1,_,h,j=>by
  simp only [Yn] at h;obtain ⟨v,k,rfl,l,m⟩:=h;simp at j
  simpa using Yn.get m j
theorem Yn.drop:∀{cs:List CV} {vs:List Value} (k:Nat),Yn e O w cs vs->Yn e O w (cs.drop k) (vs.drop k)
 | _,_,0,h=>h
 | [],_,k+1,h=>by simp only [Yn] at h;subst h;simp [Yn]
 | c::cs,_,k+1,h=>by
  simp only [Yn] at h;obtain ⟨v,l,rfl,m,j⟩:=h;exact Yn.drop k j
theorem Yn.take:∀{cs:List CV} {vs:List Value} (k:Nat),Yn e O w cs vs->Yn e O w (cs.take k) (vs.take k)
 | _,_,0,_=>by simp [Yn]
 | [],_,k+1,h=>by simp only [Yn] at h;subst h;simp [Yn]
 | c::cs,_,k+1,h=>by
  simp only [Yn] at h;obtain ⟨v,m,rfl,j,l⟩:=h;simp;exact ⟨v,_,rfl,j,Yn.take k l⟩
theorem Yn.append:∀{cs j:List CV} {vs us:List Value},Yn e O w cs vs->Yn e O w j us->Yn e O w (cs++j) (vs++us)
 | [],_,_,_,h,k=>by simp only [Yn] at h;subst h;simpa using k
 | c::cs,_,_,_,h,k=>by
  simp only [Yn] at h;obtain ⟨v,o,rfl,l,m⟩:=h;simp;exact ⟨v,_,rfl,l,Yn.append m k⟩
theorem WL:∀{xs:List L} {vs:List Value} {F:List Nat},RpL w xs vs F->(∀b∈F,¬Mut e O b)->Yn e O w (xs.map CV.l) vs
 | [],_,_,h,_=>by simp only [RpL] at h;simp [Yn,h.1]
 | x::xs,_,_,h,l=>by
  simp only [RpL] at h;obtain ⟨v,k,m,r,rfl,rfl,o,p⟩:=h;simp;exact ⟨v,k,rfl,⟨m,o,λb j=>l b (by simp [j])⟩,WL p λb j=>l b (by simp [j])⟩
structure Up (e:Env) (O:St) (w:World) (e':Env) (O':St) (w':World):Prop where
 size:w.heap.size<=w'.heap.size
 heap:∀b,b<w.heap.size->¬Mut e O b->w'.heap[b]? =w.heap[b]?
 mt:∀b,b<w.heap.size->Mut e' O' b->Mut e O b
 bx:∀k cs,O.bx.lookup k=some cs->(∃cs',O'.bx.lookup k=some cs')/\e'.β k=e.β k
 ar:∀τ A,O.ar.lookup τ=some A->∃A',O'.ar.lookup τ=some A'/\∀B',A'=some B'->∃B,A=some B/\B.es.length<=B'.es.length/\(B'.es.length=B.es.length->e'.ρ τ=e.ρ τ)
 hp:∀τ,1000000<=τ->(∃B,O.ar.lookup τ=some (some B))->(∃B,O'.ar.lookup τ=some (some B))->e'.ρ τ=e.ρ τ/\∀b,(e.ρ τ).ownBlock=some b->w'.heap[b]? =w.heap[b]?
theorem CV.rel.up (u:Up e O w e' O' w') {c:CV} {v:Value} (h:c.rel e O w v):c.rel e' O' w' v:=by
 cases c with
 | l x=>
  obtain ⟨F,o,r⟩:=h;exact ⟨F,o.keep ⟨u.size,λb I=>u.heap b (o.lt b I) (r b I)⟩,λb I Y=>r b I (u.mt b (o.lt b I) Y)⟩
 | nil=>exact h
 | own S n=>
  obtain ⟨A,o,r,C⟩:=h;obtain ⟨T,z,E⟩:=u.ar S A o;refine ⟨T,z,λG s=> ?_,C⟩;obtain ⟨B,U,q2,q3⟩:=E G s;obtain ⟨Q,R⟩:=r B U;exact ⟨HA Q q2,λhn=>by rw [R WF,q3 WF]⟩
 | box k J=>
  obtain ⟨⟨cs,o⟩,r⟩:=h;obtain ⟨z,E⟩:=u.bx k cs o;exact ⟨z,by rw [r,E]⟩
 | adr ls=>
  obtain ⟨b,J,vs,F,o,r,C,h4,h5,h6⟩:=h;exact ⟨b,J,vs,F,o,r.keep (u.heap b h4 h5),C.keep ⟨u.size,λx Z=>u.heap x (C.lt x Z) (h6 x Z)⟩,HM h4 u.size,λY=>h5 (u.mt b h4 Y),λx Z Y=>h6 x Z (u.mt x (C.lt x Z) Y)⟩
 | elt S n i W J=>
  obtain ⟨A,o,r,C⟩:=h;obtain ⟨T,z,E⟩:=u.ar S A o;refine ⟨T,z,λG s=> ?_,C⟩;obtain ⟨B,U,q2,q3⟩:=E G s;obtain ⟨Q,R⟩:=r B U
  exact ⟨HA Q q2,λhn=>by
   have:=R WF;rw [q3 WF];exact this⟩
 | nst S j W J m=>
  obtain ⟨A,o,r,C⟩:=h;obtain ⟨T,z,E⟩:=u.ar S A o;refine ⟨T,z,λG s=> ?_,C⟩;obtain ⟨B,U,_⟩:=E G s;subst U s;obtain ⟨Q,b,X,t,R,r3,r4⟩:=r B rfl;obtain ⟨s1,s2⟩:=u.hp S Q ⟨B,o⟩ ⟨G,z⟩;exact ⟨Q,b,X,t,by rw [s1];exact R,(s2 b R).trans r3,r4⟩
 | nel S j W J i=>
  obtain ⟨A,o,r,C⟩:=h;obtain ⟨T,z,E⟩:=u.ar S A o;refine ⟨T,z,λG s=> ?_,C⟩;obtain ⟨B,U,_⟩:=E G s;subst U s;obtain ⟨Q,b,X,t,b',m,c,R,r3,r4,r5⟩:=r B rfl;obtain ⟨s1,s2⟩:=u.hp S Q ⟨B,o⟩ ⟨G,z⟩;exact ⟨Q,b,X,t,b',m,c,by rw [s1];exact R,(s2 b R).trans r3,r4,r5⟩
 | vw S n lo m W=>
  obtain ⟨A,o,r,C⟩:=h;obtain ⟨T,z,E⟩:=u.ar S A o;refine ⟨T,z,λG s=> ?_,C⟩;obtain ⟨B,U,q2,q3⟩:=E G s;obtain ⟨Q,R⟩:=r B U
  exact ⟨HA Q q2,λhn=>by
   have:=R WF;rw [q3 WF];exact this⟩
 | any=>exact h
 | kept v0 x=>
  obtain ⟨h0,F,o,r⟩:=h;exact ⟨h0,F,o.keep ⟨u.size,λb I=>u.heap b (o.lt b I) (r b I)⟩,λb I Y=>r b I (u.mt b (o.lt b I) Y)⟩
 | np=>exact h
 | clo f ks=>
  obtain ⟨o,r⟩:=h;refine ⟨λk hk=>(u.bx k _ (o k hk).choose_spec).1, ?_⟩;rw [r];exact congrArg (λl:List Value=>Value.func (.func f) #[] l.toArray) (List.map_congr_left λk hk=>by rw [(u.bx k _ (o k hk).choose_spec).2])
 | nf=>exact h
 | mp k=>
  obtain ⟨⟨cs,o⟩,r⟩:=h;obtain ⟨z,E⟩:=u.bx k cs o;exact ⟨z,by rw [r,E]⟩
 | mc es=>exact h
 | mpt M=>
  obtain ⟨o,r⟩:=h;refine ⟨λp hp=>⟨(u.bx p.2 _ (o p hp).1.choose_spec).1,(o p hp).2⟩, ?_⟩;rw [r];exact congrArg (λl:List Value=>Value.func (.func 0) #[] l.toArray) (by rw [List.flatMap_def,List.flatMap_def];exact congrArg List.flatten (List.map_congr_left λp hp=>by rw [(u.bx p.2 _ (o p hp).1.choose_spec).2]))
theorem Yn.up (u:Up e O w e' O' w'):∀{cs:List CV} {vs:List Value},Yn e O w cs vs->Yn e' O' w' cs vs
 | [],_,h=>h
 | c::cs,_,h=>by
  simp only [Yn] at h ⊢;obtain ⟨v,j,k,l,m⟩:=h;exact ⟨v,j,k,l.up u,Yn.up u m⟩
theorem ZmZ.up (u:Up e O w e' O' w') {cs:List CV} {o:Option Obj} (h:ZmZ e O w cs o):ZmZ e' O' w' cs o:=by
 rcases h with ⟨j,p,k,l⟩| h| ⟨M,a,n,m,k,l⟩
 ·exact .inl ⟨j,p,k,Yn.up u l⟩
 ·exact .inr (.inl h)
 ·exact .inr (.inr ⟨M,a,n,m,k,l.up u⟩)
theorem ZmZ.some {cs:List CV} {b:Nat} (h:ZmZ e O w cs w.heap[b]?):b<w.heap.size:=by
 rcases h with ⟨k,l,j,_⟩| ⟨es,a,n,_,j,_⟩| ⟨M,a,n,_,j,_⟩<;>exact V6 j
theorem ZmZ.cells {cs:List CV} {o:Option Obj} (h:ZmZ e O w cs o) (j:U3 cs=true):∃cur ty,o=Option.some (.cells cur ty (0,0))/\Yn e O w cs cur.toList:=by
 rcases h with h| ⟨es,a,n,rfl,_⟩| ⟨M,a,n,rfl,_⟩
 ·exact h
 ·cases j
 ·cases j
theorem ZmZ.rel {cs:List CV} {o:Option Obj} {cur:Array Value} {ty:TypeId} {k:Nat×Nat} (h:ZmZ e O w cs o) (ho:o=Option.some (.cells cur ty k)):Yn e O w cs cur.toList:=by
 rcases h with ⟨c,t,j,l⟩| ⟨es,a,n,_,j,_⟩| ⟨M,a,n,_,j,_⟩
 ·rw [ho] at j;cases j;exact l
 ·rw [ho] at j;cases j
 ·rw [ho] at j;cases j
theorem ZmZ.imp {cs j:List CV} {o:Option Obj} (h:ZmZ e O w cs o) (hf:∀vs,Yn e O w cs vs->Yn e' O' w' j vs) (hm:∀c,cs=[c]->c.ZAU=true->j=[c]):ZmZ e' O' w' j o:=by
 rcases h with ⟨c,t,l,m⟩| ⟨es,a,n,k,l⟩| ⟨M,a,n,k,l,m⟩
 ·exact .inl ⟨c,t,l,hf _ m⟩
 ·exact .inr (.inl ⟨es,a,n,hm _ k rfl,l⟩)
 ·have q:=hf [_] (by rw [k];exact ⟨_,[],rfl,m,rfl⟩);rw [hm _ k rfl] at q;obtain ⟨_,_,p,r,_⟩:=q;obtain ⟨rfl,_⟩:=List.cons.inj p;exact .inr (.inr ⟨M,a,n,hm _ k rfl,l,r⟩)
theorem ZJ.bxC (h:ZJ N w0 e O a w) {k:Nat} {cs:List CV} (j:O.bx.lookup k=Option.some cs) (l:U3 cs=true):N (e.β k)/\∃cur ty,w.heap[e.β k]? =Option.some (.cells cur ty (0,0))/\Yn e O w cs cur.toList:=
 ⟨(h.bx k cs j).1,(h.bx k cs j).2.cells l⟩
theorem Zpf.up (u:Up e O w e' O' w') {p:Bool×List CV} {v:Value} (h:Zpf e O w p v):Zpf e' O' w' p v:=by
 obtain ⟨b,cs⟩:=p;cases b
 ·obtain ⟨c,j,k⟩:=h;exact ⟨c,j,k.up u⟩
 ·obtain ⟨l,j,k⟩:=h;exact ⟨l,j,k.up u⟩
theorem YH.up (u:Up e O w e' O' w'):∀{k:List (Bool×List CV)} {vs:List Value},YH e O w k vs->YH e' O' w' k vs
 | [],_,h=>h
 | c::cs,_,h=>by
  simp only [YH] at h ⊢;obtain ⟨v,j,l,m,o⟩:=h;exact ⟨v,j,l,m.up u,YH.up u o⟩
theorem V.rel.up (u:Up e O w e' O' w') {x:V} {v:Value} (h:x.rel e O w v):x.rel e' O' w' v:=by
 cases x with
 | one c=>exact CV.rel.up u h
 | agg cs=>obtain ⟨l,j,k⟩:=h;exact ⟨l,j,k.up u⟩
 | tup m=>obtain ⟨l,j,k⟩:=h;exact ⟨l,j,k.up u⟩
 | dead=>exact h
theorem ZuZ (e:Env) (O:St) (w:World) (tm:List (Nat×V)) (nt:Nat):Up e O w e { O with tm:=tm,nt:=nt} w:=
 ⟨ZEN _,λ_ _ _=>rfl,λ_ _ h=>h,λk cs h=>⟨⟨cs,h⟩,rfl⟩,λl A h=>⟨A,h,λB j=>⟨B,j,ZEN _,λ_=>rfl⟩⟩,λl _ _ _=>⟨rfl,λ_ _=>rfl⟩⟩
theorem lookup_cons {α:Type} (k j:Nat) (v:α) (l:List (Nat×α)):((j,v)::l).lookup k=if k=j then some v else l.lookup k:=by
 by_cases h:k=j
 ·subst h;simp
 ·have hf:(k==j)=false:=by simp [h]
  simp only [List.lookup,hf,if_neg h]
theorem ZJ.put (h:ZJ N w0 e O a w) {d:Nat} {x:V} {v:Value} (hd:d<O.nt) (s:x.rel e O w v):ZJ N w0 e { O with tm:=(d,x)::O.tm} (a.put (some d) v) w:=by
 have u:=ZuZ e O w ((d,x)::O.tm) O.nt;refine ⟨by simp [Act.put,h.nt],h.df,λt y l=> ?_,λk cs r=> ?_,λz A p=> ?_,h.sep,h.fr,h.bad,h.dk,h.pn,h.tn,h.tp⟩
 ·rw [lookup_cons] at l
  by_cases j:t=d
  ·subst j;rw [if_pos rfl] at l;obtain rfl:=ZEI l;have:(a.put (some t) v).tmps.getD t undef=v:=by simp [Act.put,h.nt,hd]
   rw [this];exact s.up u
  ·rw [if_neg j] at l
   have:(a.put (some d) v).tmps.getD t undef=a.tmps.getD t undef:=by
    simp only [Act.put,HQ];rw [Array.getElem?_setIfInBounds_ne (Ne.symm j)]
   rw [this];exact (h.tm t y l).up u
 ·obtain ⟨m,o⟩:=h.bx k cs r;exact ⟨m,o.up u⟩
 ·exact h.ar z A p
theorem ZJ.Zvf (h:ZJ N w0 e O a w) {d:Nat}:ZJ N w0 e { O with tm:=(d,.dead)::O.tm} (a.put (some d) undef) w:=by
 have u:=ZuZ e O w ((d,.dead)::O.tm) O.nt;refine ⟨by simp [Act.put,h.nt],h.df,λt y l=> ?_,λk cs r=> ?_,λs A p=> ?_,h.sep,h.fr,h.bad,h.dk,h.pn,h.tn,h.tp⟩
 ·rw [lookup_cons] at l
  by_cases j:t=d
  ·subst j;rw [if_pos rfl] at l;obtain rfl:=ZEI l;show (a.put (some t) undef).tmps.getD t undef=undef;simp only [Act.put,HQ,Array.getElem?_setIfInBounds]
   split<;>(try split)<;>simp_all
  ·rw [if_neg j] at l
   have:(a.put (some d) undef).tmps.getD t undef=a.tmps.getD t undef:=by
    simp only [Act.put,HQ];rw [Array.getElem?_setIfInBounds_ne (Ne.symm j)]
   rw [this];exact (h.tm t y l).up u
 ·obtain ⟨m,o⟩:=h.bx k cs r;exact ⟨m,o.up u⟩
 ·exact h.ar s A p
theorem Uf.own {M:Nat->Prop} {A:Arr} {v:Value} {F:List Nat} (h:Uf N M w A v F) {b:Nat} (j:v.ownBlock=some b):b∈F/\N b/\∃cur t,w.heap[b]? =some (.cells cur t (0,0)):=by
 obtain ⟨p,c,rfl,E,h| ⟨r,t,cur,o,W,rfl,k,l,s,z,B,C,m⟩⟩:=h
 ·obtain ⟨_,rfl,_⟩:=h;simp [Value.ownBlock] at j
 ·simp [Value.ownBlock] at j;subst j;refine ⟨?_,k,cur,t,l⟩;rcases m with ⟨_,rfl,_⟩| ⟨_,rfl,_⟩<;>simp
theorem Uf.blocks {M:Nat->Prop} {A:Arr} {v:Value} {F:List Nat} (h:Uf N M w A v F):∀b∈F,N b/\∃cur t,w.heap[b]? =some (.cells cur t (0,0)):=by
 obtain ⟨p,c,rfl,G,h| ⟨s,t,cur,r,W,rfl,k,l,z,B,C,E,m⟩⟩:=h
 ·obtain ⟨_,_,_,rfl⟩:=h;simp
 ·rcases m with ⟨_,rfl,_,o⟩| ⟨_,rfl,_⟩
  ·intro b j;rcases Hc.1 j with rfl| j
   ·exact ⟨k,cur,t,l⟩
   ·exact o.blocks b j
  ·intro b j;obtain rfl:=Hu.1 j;exact ⟨k,cur,t,l⟩
theorem ZJ.Zwx (h:ZJ N w0 e O a w) {b:Nat} (hm:Mut e O b):e.bad b\/(b<w.heap.size/\N b):=by
 rcases hm with r| ⟨k,cs,j,rfl⟩| ⟨s,A,j,p⟩
 ·exact .inl r
 all_goals right
 ·obtain ⟨l,m⟩:=h.bx k cs j;exact ⟨m.some,l⟩
 ·obtain ⟨_,l,o,t,m⟩:=(h.ar s A j).own p;exact ⟨V6 m,l⟩
theorem ZJ.inner (h:ZJ N w0 e O a w) {τ:Nat} {A:Arr} (m:O.ar.lookup τ=some (some A)) (hd:τ<1000000) {b:Nat} (o:b∈e.φ τ) (t:(e.ρ τ).ownBlock≠some b):¬Mut e O b:=by
 rintro (hbad| ⟨k,cs,l,rfl⟩| ⟨j,p,l,r⟩)
 ·have:1000000<=τ:=(h.bad.2 b hbad).2 (.a τ) ⟨A,m⟩ o;omega
 ·exact h.sep (.b k) (.a τ) ⟨cs,l⟩ ⟨A,m⟩ Ha _ (by simp [blk]) o
 ·by_cases s:τ=j
  ·subst s;exact t r
  ·exact h.sep (.a τ) (.a j) ⟨A,m⟩ ⟨p,l⟩ (by simp [s]) b o ((h.ar j p l).own r).1
theorem ZJ.elems (h:ZJ N w0 e O a w) {τ:Nat} {A:Arr} (C:O.ar.lookup τ=some (some A)) (hd:τ<1000000):∃p c,e.ρ τ= .slice p A.es.length c/\A.es.length<=c/\c<=9223372036854775807/\
  (A.es=[]\/∃b vs Fs W,p=some ⟨b,0,none⟩/\At w b 0 vs/\(∀x∈A.es,x.length=W)/\RpE w A.es vs Fs/\b∈e.φ τ/\∀x∈Fs,¬Mut e O x):=by
 have s:=h.ar τ A C;obtain ⟨p,c,z,E,r| ⟨B,t,m,Fs,W,rfl,S,J,M,r,Q,T,R⟩⟩:=s
 ·exact ⟨p,c,z,by simp [r.1],E,.inl r.1⟩
 ·refine ⟨_,c,z,M,E,.inr ⟨B,m.toList.take (A.es.length*W),Fs,W,rfl,Zri J _,Q, ?_⟩⟩;have k:(e.ρ τ).ownBlock=some B:=by rw [z];rfl
  rcases R with ⟨I,j,l,o⟩| ⟨I,j,l,o⟩
  ·refine ⟨o.rp,by simp [j],λx G=>h.inner C hd (by simp [j,G]) ?_⟩;rw [k];intro e';obtain rfl:=ZEI e';rw [j] at l;exact (Gf.1 l).1 G
  ·exact ⟨l,by simp [j],o⟩
theorem ZJ.Yp (h:ZJ N w0 e O a w) {κ:Key} (p:live O κ):∀b∈blk e κ,b<w.heap.size/\N b:=by
 cases κ with
 | b k=>
  obtain ⟨cs,o⟩:=p;obtain ⟨l,m⟩:=h.bx k cs o;intro b j;simp only [blk,Hu] at j;subst j;exact ⟨m.some,l⟩
 | a z=>
  obtain ⟨A,s⟩:=p;intro b j;obtain ⟨l,r,t,m⟩:=(h.ar z A s).blocks b j;exact ⟨V6 m,l⟩
theorem ZJ.Zat (h:ZJ N w0 e O a w) {τ:Nat} {A:Arr} (J:O.ar.lookup τ=some (some A)):∃p c,e.ρ τ= .slice p A.es.length c/\A.es.length<=c/\c<=9223372036854775807/\
  (A.es=[]\/∃b vs Fs W,p=some ⟨b,0,none⟩/\At w b 0 vs/\(∀x∈A.es,x.length=W)/\RpE w A.es vs Fs/\b∈e.φ τ):=by
 obtain ⟨p,c,s,r,l| ⟨z,t,j,Fs,W,rfl,M,C,E,l,G,Q,I⟩⟩:=h.ar τ A J
 ·exact ⟨p,c,s,by simp [l.1],r,.inl l.1⟩
 ·refine ⟨_,c,s,E,r,.inr ⟨z,j.toList.take (A.es.length*W),Fs,W,rfl,Zri C _,G, ?_⟩⟩;rcases I with ⟨B,k,m,o⟩| ⟨B,k,m,o⟩
  ·exact ⟨o.rp,by simp [k]⟩
  ·exact ⟨m,by simp [k]⟩
theorem ZJ.nest (h:ZJ N w0 e O a w) {τ:Nat} {A:Arr} (T:O.ar.lookup τ=some (some A)) (r:A.fr=true) {j off:Nat} {el:List L} {x:L} (k:A.es[j]? =some el) (Y:el[off]? =some x):
  ∃b t cur c Fs u G,e.ρ τ= .slice (some ⟨b,0,none⟩) A.es.length c/\c<=9223372036854775807/\N b/\w.heap[b]? =some (.cells cur t (0,0))/\A.es.length<=c/\cur.size=c*el.length/\(∀y∈A.es,y.length=el.length)/\
   e.φ τ=b::Fs/\(b::Fs).Nodup/\cur[j*el.length+off]? =some u/\Ow N w x u G/\(∀z∈G,z∈Fs)/\
   ∀(w':World) (I:L),w.heap.size<=w'.heap.size->(∀z∈Fs,z∉G->w'.heap[z]? =w.heap[z]?)->Ow N w' I u G->OwE N w' (A.es.set j (el.set off I)) (cur.toList.take (A.es.length*el.length)) Fs:=by
 obtain ⟨p,c,X,U,m| ⟨b,t,cur,Fs,W,rfl,M,Q,R,m,o,h6,S⟩⟩:=h.ar τ A T
 ·rw [m.1] at k;simp at k
 ·obtain rfl:el.length=W:=o el (Gg k);rcases S with ⟨_,E,l,J⟩| ⟨C,_⟩
  ·rw [E] at l;obtain ⟨u,G,B,Z,m3,m4⟩:=J.Zzw (Gf.1 l).2 o k Y;have s:=(Hh.1 B).1;rw [Hg] at s;rw [List.getElem?_take_of_lt WF] at B;exact ⟨b,t,cur,c,Fs,u,G,X,U,M,Q,R,m,o,E,l,by simpa using B,Z,m3,m4⟩
  ·rw [r] at C;cases C
theorem Uf.up {A:Arr} {v:Value} {F:List Nat} (h:Uf N (Mut e O) w A v F) (u:Up e O w e' O' w') (s:∀b∈F,w'.heap[b]? =w.heap[b]?):Uf N (Mut e' O') w' A v F:=by
 obtain ⟨p,c,B,z,h| ⟨b,t,m,C,W,rfl,E,G,I,J,M,Q,r⟩⟩:=h
 ·exact ⟨p,c,B,z,.inl h⟩
 ·refine ⟨_,c,B,z,.inr ⟨b,t,m,C,W,rfl,E, ?_,I,J,M,Q, ?_⟩⟩
  ·rcases r with ⟨_,rfl,_⟩| ⟨_,rfl,_⟩<;>exact (s b Ha).trans G
  ·rcases r with ⟨o,rfl,k,l⟩| ⟨o,rfl,k,l⟩
   ·exact .inl ⟨o,rfl,k,l.keep ⟨u.size,λx j=>s x (by simp [j])⟩⟩
   ·exact .inr ⟨o,rfl,k.keep ⟨u.size,λx j=>u.heap x (k.lt x j) (l x j)⟩,λx j R=>l x j (u.mt x (k.lt x j) R)⟩
theorem ZJ.Zqi {a':Act} (h:ZJ N w0 e O a w) (u:Up e O w e' O' w') (K:Key->Prop) (b7:a'.tmps.size=O'.nt) (b1:a'.defers=[])
  (b9:∀t v,O'.tm.lookup t=some v->(O.tm.lookup t=some v/\a'.tmps.getD t undef=a.tmps.getD t undef)\/v.rel e' O' w' (a'.tmps.getD t undef))
  (I:∀k cs,O'.bx.lookup k=some cs->¬K (.b k)->O.bx.lookup k=some cs/\w'.heap[e.β k]? =w.heap[e.β k]?)
  (R:∀τ A,O'.ar.lookup τ=some (some A)->¬K (.a τ)->O.ar.lookup τ=some (some A)/\e'.ρ τ=e.ρ τ/\e'.φ τ=e.φ τ/\∀b∈e.φ τ,w'.heap[b]? =w.heap[b]?)
  (b5:∀k cs,O'.bx.lookup k=some cs->K (.b k)->N (e'.β k)/\ZmZ e' O' w' cs w'.heap[e'.β k]?)
  (b4:∀τ A,O'.ar.lookup τ=some (some A)->K (.a τ)->Uf N (Mut e' O') w' A (e'.ρ τ) (e'.φ τ))
  (J:∀κ,live O' κ->K κ->∀b∈blk e' κ,(live O κ/\b∈blk e κ)\/(∃m,(¬live O' m\/K m)/\live O m/\b∈blk e m/\(ZkX m->ZkX κ))\/w.heap.size<=b)
  (Z:∀κ j,live O' κ->live O' j->κ≠j->K κ->K j->∀b∈blk e' κ,b∉blk e' j)
  (b3:Frame w0.tch w0.w w') (W:∀b,e.bad b->e'.bad b) (b0:∀b,e'.bad b->e.bad b\/(w.heap.size<=b/\b<w'.heap.size/\∀κ,live O' κ->b∈blk e' κ->ZkX κ)) (b2:∀κ,live O' κ->K κ->ZkX κ->∀b∈blk e' κ,e'.bad b) (b8:∀k cs,O'.bx.lookup k=some cs->K (.b k)->O'.nt<=k->e'.β k=w0.pin k) (c0:∀κ b,live O' κ->K κ->tpB e' κ b->w0.tch b) (b6:O'.nt=O.nt:=by rfl):ZJ N w0 e' O' a' w':=by
 have r:∀κ,live O' κ->¬K κ->live O κ/\blk e' κ=blk e κ:=by
  intro κ hl hK;cases κ with
  | b k=>
   obtain ⟨cs,Q⟩:=hl;obtain ⟨l,_⟩:=I k cs Q hK;exact ⟨⟨cs,l⟩,by simp [blk,(u.bx k cs l).2]⟩
  | a τ=>
   obtain ⟨A,S⟩:=hl;obtain ⟨l,_,B,_⟩:=R τ A S hK;exact ⟨⟨A,l⟩,B⟩
 have mixed:∀κ j,live O' κ->live O' j->κ≠j->K κ->¬K j->∀b∈blk e' κ,b∉blk e' j:=by
  intro κ j hl z C hK s b o p;obtain ⟨M,T⟩:=r j z s;rw [T] at p;rcases J κ hl hK b o with ⟨E,G⟩| ⟨m,E,G,k3,_⟩| k
  ·exact h.sep κ j E M C b G p
  ·exact h.sep m j G M (λe=>by rcases E with E| E<;>first | exact E (e▸z)| exact s (e▸E)) b k3 p
  ·have:=(h.Yp M b p).1;omega
 refine ⟨b7,b1,λt v ht=> ?_,λk cs X=> ?_,λτ A S=> ?_,λκ j hl z C=> ?_,b3,⟨λb o=>W b (h.bad.1 b o),λb o=> ?_⟩,λκ hl hd b o=>by
  by_cases hK:K κ
  ·exact b2 κ hl hK hd b o
  ·obtain ⟨E,G⟩:=r κ hl hK;rw [G] at o;exact W b (h.dk κ E hd b o),λk cs X Y=>by
  by_cases hK:K (.b k)
  ·exact b8 k cs X hK Y
  ·obtain ⟨l,_⟩:=I k cs X hK;rw [(u.bx k cs l).2];exact h.pn k cs l (b6▸Y),h.tn,λκ b hl o=>by
  by_cases hK:K κ
  ·exact c0 κ b hl hK o
  ·cases κ with
   | b k=>
    obtain ⟨cs,Q⟩:=hl;obtain ⟨l,_⟩:=I k cs Q hK;have B:=(u.bx k cs l).2;exact h.tp (.b k) b ⟨cs,l⟩ (by simp only [tpB] at o ⊢;rw [<-B];exact o)
   | a τ=>
    obtain ⟨A,S⟩:=hl;obtain ⟨l,B,U,_⟩:=R τ A S hK;exact h.tp (.a τ) b ⟨A,l⟩ (by simp only [tpB,B,U] at o ⊢;exact o)⟩
 ·rcases b9 t v ht with ⟨l,B⟩| l
  ·rw [B];exact (h.tm t v l).up u
  ·exact l
 ·by_cases hK:K (.b k)
  ·exact b5 k cs X hK
  ·obtain ⟨l,B⟩:=I k cs X hK;obtain ⟨E,G⟩:=h.bx k cs l;rw [(u.bx k cs l).2];exact ⟨E,by rw [B];exact G.up u⟩
 ·by_cases hK:K (.a τ)
  ·exact b4 τ A S hK
  ·obtain ⟨l,B,U,h4⟩:=R τ A S hK;rw [B,U];exact (h.ar τ A l).up u h4
 ·by_cases hK:K κ<;>by_cases s:K j
  ·exact Z κ j hl z C hK s
  ·exact mixed κ j hl z C hK s
  ·intro b o p;exact mixed j κ z hl (Ne.symm C) s hK b p o
  ·obtain ⟨M,T⟩:=r κ hl hK;obtain ⟨g3,g4⟩:=r j z s;rw [T,g4];exact h.sep κ j M g3 C
 ·rcases b0 b o with p| ⟨_,B,U⟩
  ·obtain ⟨q1,q2⟩:=h.bad.2 b p;refine ⟨HM q1 u.size,λκ hl hm=> ?_⟩
   by_cases hK:K κ
   ·rcases J κ hl hK b hm with ⟨E,G⟩| ⟨m,_,G,k3,k4⟩| k
    ·exact q2 κ E G
    ·exact k4 (q2 m G k3)
    ·omega
   ·obtain ⟨M,T⟩:=r κ hl hK;exact q2 κ M (T▸hm)
  ·exact ⟨B,U⟩
theorem Frame.alloc {w0 w:World} (h:Frame N w0 w) (o:Obj):Frame N w0 (w.alloc o):=
 ⟨h.gl,h.os,h.tape,h.output,by simp;have:=h.size;omega,λb j k=>(Below.heap_alloc w o b (by have:=h.size;omega)).trans (h.block b j k),h.new⟩
theorem Frame.drew {w0 w:World} (h:Frame N w0 w):Frame N w0 w.drew:=⟨h.gl,h.os,h.tape,h.output,h.size,h.block,h.new⟩
theorem Frame.grown {w0 w w':World} (h:Frame N w0 w) {row:Option Nat} (g:w.grownBy w' row) (l:∀b,row=some b->N b):Frame N w0 w':=
 ⟨h.gl,g.os.trans h.os,g.tape.trans h.tape,g.output.trans h.output,HA h.size g.size,λb j k=>(g.block b (HM j h.size) (λe=>k (l b e.symm))).trans (h.block b j k),h.new⟩
theorem Frame.below {w0 w w':World} (h:Frame N w0 w) (g:Below w.heap.size w w'):Frame N w0 w':=
 ⟨h.gl,g.os.trans h.os,g.tape.trans h.tape,g.output.trans h.output,HA h.size g.size,λb j k=>(g.block b (HM j h.size)).trans (h.block b j k),h.new⟩
theorem Frame.glb {w0 w:World} (h:Frame N w0 w):∃G,Glb w G/\∀b,G b->¬N b:=
 h.gl.elim λG j=>⟨G,j.1.keep h.size λb g=>h.block b (j.1.1 b g) (j.2 b g),j.2⟩
theorem Z2 (a:Act) (d:Option Nat) (v:Value):(a.put d v).tmps.size=a.tmps.size:=by cases d<;>simp [Act.put]
theorem ZO (a:Act) (d:Option Nat) (v:Value):(a.put d v).defers=a.defers:=by cases d<;>rfl
theorem Ud (a:Act) (d:Nat) (v:Value) (h:d<a.tmps.size):(a.put (some d) v).tmps.getD d undef=v:=by simp [Act.put,h]
theorem Vn (a:Act) (d t:Nat) (v:Value) (h:t≠d):(a.put (some d) v).tmps.getD t undef=a.tmps.getD t undef:=by
 simp only [Act.put,HQ];rw [Array.getElem?_setIfInBounds_ne (Ne.symm h)]
theorem ZaX {x:V} {d:Nat} {v:Value} (h:d<a.tmps.size) (l:x.rel e' O' w' v) (t:Nat) (y:V) (k:((d,x)::O.tm).lookup t=some y):
  (O.tm.lookup t=some y/\(a.put (some d) v).tmps.getD t undef=a.tmps.getD t undef)\/y.rel e' O' w' ((a.put (some d) v).tmps.getD t undef):=by
 rw [lookup_cons] at k
 by_cases j:t=d
 ·subst j;rw [if_pos rfl] at k;obtain rfl:=ZEI k
  right
  rw [Ud a t v h];exact l
 ·rw [if_neg j] at k;exact .inl ⟨k,Vn a d t v j⟩
end
theorem wrap_wrap (k:IntKind) (n:Int):k.wrap (k.wrap n)=k.wrap n:=by
 cases k<;>simp only [IntKind.wrap,IntKind.bits,IntKind.signed]<;>simp<;>(try split)<;>(try split)<;>omega
theorem InK.wrap (k:IntKind) (n:Int):InK k (k.wrap n):=wrap_wrap k n
theorem ZaH (n:Int):InK .i64 n↔ -9223372036854775808<=n/\n<=9223372036854775807:=by
 constructor
 ·intro h;unfold InK at h;simp only [IntKind.wrap,IntKind.bits,IntKind.signed] at h;simp at h
  split at h<;>omega
 ·exact λh=>IntWalk.i64_in n h
theorem ZwF (n:Int):InK .u8 n↔0<=n/\n<=255:=by
 constructor
 ·intro h;unfold InK at h;simp only [IntKind.wrap,IntKind.bits,IntKind.signed] at h;simp at h;omega
 ·exact λh=>IntWalk.u8_in n h
inductive TD where
 | bool
 | int (k:IntKind)
 | str
 | slice (e:Nat)
 | struct (fs:List (Nat×Nat))
 | fn
 | ref
 | other
structure TI where
 td:TD
 size:Nat
 bytes:Nat
 zero:List Value
def ZuL:TypeDesc->TD
 | .bool=>.bool
 | .int k=>.int k
 | .string=>.str
 | .slice e=>.slice e
 | .struct fs=>.struct (fs.toList.map λf=>(f.offset,f.type))
 | .func _ _ _=>.fn
 | .pointer _=>.ref
 | .map _ _=>.ref
 | _=>.other
def ti (P:Program) (t:Nat):Option TI:=
 match P.info? t,P.underlying t with
 | some i,some d=>i.zero.map λz=>⟨ZuL d,i.size,i.bytes,z.cells.toList⟩
 | _,_=>none
def mti (P:Program) (t:Nat):Option (TI×Value):=
 match P.underlying t with
 | some (.map k v)=>match ti P k,P.info? v with
  | some x,some i=>i.zero.map λz=>(x,z)
  | _,_=>none
 | _=>none
def TD.agg:TD->Option Bool
 | .struct _=>some true
 | .other=>none
 | _=>some false
theorem VE {P:Program} {t:Nat} {i:TI} (h:ti P t=some i):∃j d z,P.info? t=some j/\P.underlying t=some d/\j.zero=some z/\ZuL d=i.td/\j.size=i.size/\j.bytes=i.bytes/\z.cells.toList=i.zero:=by
 unfold ti at h
 split at h
 ·rename_i j d hj hd;obtain ⟨z,k,h⟩:=Hf.1 h;subst h;exact ⟨j,d,z,hj,hd,k,rfl,rfl,rfl,rfl⟩
 ·cases h
theorem Zes {P:Program} {t:Nat} {i:TI} {b:Bool} (h:ti P t=some i) (k:i.td.agg=some b) (w:World):(isAgg t).run P w= .ok b w:=by
 obtain ⟨j,d,z,o,l,p,m,r,s,A⟩:=VE h;unfold isAgg;rw [Sem.run_bind,run_underlying l w];rw [<-m] at k;cases d<;>simp [ZuL,TD.agg] at k<;>subst k<;>rfl
theorem Yr {P:Program} {t:Nat} {i:TI} (h:ti P t=some i) (w:World):(sizeOf t).run P w= .ok i.size w:=by
 obtain ⟨j,d,z,k,m,o,p,l,r,s⟩:=VE h;simp [sizeOf,typeInfo,k,l]
theorem ZlJ {P:Program} {t:Nat} {i:TI} (h:ti P t=some i) (w:World):∃z,(zeroValue t).run P w= .ok z w/\z.cells.toList=i.zero:=by
 obtain ⟨j,d,z,k,o,l,p,r,s,m⟩:=VE h;exact ⟨z,by simp [zeroValue,typeInfo,k,l],m⟩
def Zop:Value->Option CV
 | .int k n=>if k.wrap n=n then some (.l (.int k n)) else none
 | .bool b=>some (.l (.bool b))
 | .string s=>if s.size<=9223372036854775807 then some (.l (.str s)) else none
 | .slice none 0 0=>some .nil
 | .pointer none=>some .np
 | .nilFunc=>some .nf
 | .map none=>some .any
 | _=>none
def ZiT:List Value->Option (List CV)
 | []=>some []
 | v::j=>match Zop v,ZiT j with
  | some c,some cs=>some (c::cs)
  | _,_=>none
def Zq9:Value->Option V
 | .agg cs=>(ZiT cs.toList).map V.agg
 | v=>(Zop v).map V.one
def opd (O:St):Operand->Option V
 | .tmp t=>O.tm.lookup t
 | .const v=>Zq9 v
 | _=>none
section
variable {e:Env} {O:St} {w:World} {N:Nat->Prop} {w0:Bs} {a:Act} {P:Program}
theorem Zly {v:Value} {c:CV} (h:Zop v=some c):c.rel e O w v:=by
 unfold Zop at h
 split at h
 ·split at h
  ·obtain rfl:=ZEI h;rename_i j;exact ⟨[],by simp [Rp,InK,Fit,j],Ha⟩
  ·cases h
 ·obtain rfl:=ZEI h;exact ⟨[],by simp [Rp],Ha⟩
 ·split at h
  ·obtain rfl:=ZEI h;rename_i j;exact ⟨[],by simp [Rp,InK,Fit,j],Ha⟩
  ·cases h
 ·obtain rfl:=ZEI h;rfl
 ·obtain rfl:=ZEI h;rfl
 ·obtain rfl:=ZEI h;rfl
 ·obtain rfl:=ZEI h;exact ⟨rfl,rfl⟩
 ·cases h
theorem Zez:∀{vs:List Value} {cs:List CV},ZiT vs=some cs->Yn e O w cs vs
 | [],_,h=>by simp [ZiT] at h;subst h;simp [Yn]
 | v::vs,_,h=>by
  simp only [ZiT] at h
  split at h
  ·rename_i c cs j k;obtain rfl:=ZEI h;simp only [Yn];exact ⟨v,vs,rfl,Zly j,Zez k⟩
  ·cases h
theorem Zr7 {v:Value} {x:V} (h:Zq9 v=some x):x.rel e O w v:=by
 unfold Zq9 at h
 split at h
 ·obtain ⟨cs,j,rfl⟩:=Hf.1 h;exact ⟨_,Ha,Zez j⟩
 ·obtain ⟨c,j,rfl⟩:=Hf.1 h;exact Zly j
theorem ZG (h:ZJ N w0 e O a w) {o:Operand} {x:V} (j:opd O o=some x):x.rel e O w (a.eval o):=by
 cases o with
 | tmp t=>exact h.tm t x j
 | const v=>exact Zr7 j
 | global g=>simp [opd] at j
 | func f=>simp [opd] at j
theorem ZcC {b off:Nat} {vs:List Value} (h:At w b off vs):(loadCells ⟨b,off,none⟩ vs.length).run P w= .ok vs.toArray w:=
 run_loadCells_list w ⟨b,off,none⟩ vs (λj v k=>by rw [Addr.add_lit];exact h j v k)
theorem Xk {b off:Nat} {vs:List Value} (h:At w b off vs) {t:Nat} {i:TI} (hi:ti P t=some i) (hl:vs.length=i.size) {g:Bool} (j:i.td.agg=some g) (k:g=false->∃v,vs=[v]):
  ∃u,(loadVar t ⟨b,off,none⟩).run P w= .ok u w/\(g=true->u= .agg vs.toArray)/\(g=false->vs=[u]):=by
 cases g with
 | true=>
  refine ⟨.agg vs.toArray, ?_,λ_=>rfl,Ha⟩;have:=ZcC (P:=P) h;simp [loadVar,Sem.run_bind,Zes hi j,Yr hi,<-hl,this]
 | false=>
  obtain ⟨v,rfl⟩:=k rfl;have:=h 0 v rfl;exact ⟨v,by simp [loadVar,Sem.run_bind,Zes hi j] at this ⊢;simp [this],Ha,Ha⟩
def UB (i:TI) (cs:List CV) (off:Nat):Option V:=
 if U3 cs then match i.td.agg with
 | some true=>if off+i.size<=cs.length then some (.agg ((cs.drop off).take i.size)) else none
 | some false=>if i.size=1 then (cs[off]?).map V.one else none
 | none=>none
 else none
theorem Zmn {i:TI} {cs:List CV} {off:Nat} {x:V} (h:UB i cs off=some x):U3 cs=true:=by
 unfold UB at h
 split at h
 ·assumption
 ·cases h
theorem ZgG {i:TI} {cs:List CV} {off:Nat} {x:V} (h:UB i cs off=some x) {vs:List Value} (m:Yn e O w cs vs):
  ∃g us,i.td.agg=some g/\us=(vs.drop off).take i.size/\us.length=i.size/\(g=true->x.rel e O w (.agg us.toArray))/\(g=false->∃u,us=[u]/\x.rel e O w u):=by
 unfold UB at h;rw [if_pos (Zmn h)] at h
 split at h
 ·rename_i k
  split at h
  ·rename_i r;obtain rfl:=ZEI h;have hl:=m.len;refine ⟨true,_,k,rfl,by rw [Hg,HR];omega,λ_=>⟨_,rfl,(m.drop off).take i.size⟩,Ha⟩
  ·cases h
 ·rename_i k
  split at h
  ·rename_i o;obtain ⟨c,p,rfl⟩:=Hf.1 h;obtain ⟨v,s,j⟩:=m.get p
   have:(vs.drop off).take i.size=[v]:=by
    rw [o];obtain ⟨l,rfl⟩:=Hh.1 s;rw [Ho l];rfl
   exact ⟨false,_,k,rfl,by rw [this,o];rfl,Ha,λ_=>⟨v,this,j⟩⟩
  ·cases h
 ·cases h
theorem At.sub {b off:Nat} {vs:List Value} (h:At w b off vs) (k n:Nat):At w b (off+k) ((vs.drop k).take n):=by
 have:=h.drop k;rw [<-Hn n (vs.drop k)] at this;exact this.left
theorem ZiM {b off:Nat} {vs:List Value} (h:At w b 0 vs) {t:Nat} {i:TI} (hi:ti P t=some i) {cs:List CV} (r:Yn e O w cs vs) {x:V} (s:UB i cs off=some x):
  ∃u,(loadVar t ⟨b,off,none⟩).run P w= .ok u w/\x.rel e O w u:=by
 obtain ⟨g,E,p,rfl,hl,o,l⟩:=ZgG s r;have m:=h.sub off i.size;rw [HH] at m;obtain ⟨u,z,A,B⟩:=Xk m hi hl p (λhf=>by obtain ⟨u,j,_⟩:=l hf;exact ⟨u,j⟩);refine ⟨u,z, ?_⟩;cases g with
 | true=>rw [A rfl];exact o rfl
 | false=>
  obtain ⟨C,j,k⟩:=l rfl;have:=B rfl;rw [j] at this;injection this with this _
  subst this;exact k
theorem Zrj {b:Nat} {cur:Array Value} {t:Nat} {fr:Nat×Nat} (h:w.heap[b]? =some (.cells cur t fr)):At w b 0 cur.toList:=by
 have:=Zri h cur.toList.length
 rwa [Gh] at this
def Zrv:CV->CV
 | .kept _ x=>.l x
 | .l x=>.l x
 | .nil=>.nil
 | .own l n=>.own l n
 | .box k o=>.box k o
 | .adr t=>.adr t
 | .elt l n i W o=>.elt l n i W o
 | .nst l j W o m=>.nst l j W o m
 | .nel l j W o i=>.nel l j W o i
 | .vw l n s p W=>.vw l n s p W
 | .any=>.any
 | .np=>.np
 | .clo f r=>.clo f r
 | .nf=>.nf
 | .mp k=>.mp k
 | .mc es=>.mc es
 | .mpt M=>.mpt M
theorem ZsF {c:CV} {v:Value} (h:c.rel e O w v):(Zrv c).rel e O w v:=by
 cases c with
 | kept j x=>exact h.2
 | _=>exact h
theorem ZnR:∀{cs:List CV} {vs:List Value},Yn e O w cs vs->Yn e O w (cs.map Zrv) vs
 | [],_,h=>h
 | c::cs,_,h=>by
  simp only [Yn,Hi] at h ⊢;obtain ⟨v,j,k,l,m⟩:=h;exact ⟨v,j,k,ZsF l,ZnR m⟩
theorem ZrL (cs:List CV):U3 (cs.map Zrv)=U3 cs:=by
 cases cs with
 | nil=>rfl
 | cons c cs=>cases cs<;>cases c<;>rfl
theorem ZtG (h:ZJ N w0 e O a w) {k off:Nat} {cs:List CV} (p:O.bx.lookup k=some cs) {t:Nat} {i:TI} (hi:ti P t=some i) {x:V} (j:UB i (cs.map Zrv) off=some x):
  ∃u,(loadVar t ⟨e.β k,off,none⟩).run P w= .ok u w/\x.rel e O w u:=by
 obtain ⟨_,l,r,m,o⟩:=h.bxC p (ZrL cs▸Zmn j);exact ZiM (Zrj m) hi (ZnR o) j
theorem Zvv (h:ZJ N w0 e O a w) {k off:Nat} {cs:List CV} (p:O.bx.lookup k=some cs) {t:Nat} {i:TI} (hi:ti P t=some i) {x:V} (j:UB i cs off=some x):
  ∃u,(loadVar t ⟨e.β k,off,none⟩).run P w= .ok u w/\x.rel e O w u:=by
 obtain ⟨_,l,r,m,o⟩:=h.bxC p (Zmn j);exact ZiM (Zrj m) hi o j
theorem Zvw {b off:Nat} {vs:List Value} (j:At w b off vs) {o:List L} {F:List Nat} (z:RpL w o vs F) (r:∀x∈F,¬Mut e O x) {t:Nat} {i:TI} (hi:ti P t=some i) {x:V} (A:UB i (o.map CV.l) 0=some x):
  ∃u,(loadVar t ⟨b,off,none⟩).run P w= .ok u w/\x.rel e O w u:=by
 obtain ⟨g,I,s,rfl,hl,p,m⟩:=ZgG A (WL z r);have j:=j.sub 0 i.size;rw [Gr] at j;obtain ⟨u,B,C,E⟩:=Xk j hi hl s (λhf=>by obtain ⟨u,k,_⟩:=m hf;exact ⟨u,k⟩);refine ⟨u,B, ?_⟩;cases g with
 | true=>rw [C rfl];exact p rfl
 | false=>
  obtain ⟨G,k,l⟩:=m rfl;have:=E rfl;rw [k] at this;injection this with this _
  subst this;exact l
end
theorem Zo0 (x y:Ma):(x.toList==y.toList)=decide (x=y):=by
 rw [ByteArray.toList_eq,ByteArray.toList_eq];obtain ⟨⟨x⟩⟩:=x;obtain ⟨⟨y⟩⟩:=y;rw [Bool.eq_iff_iff];simp
def Zpb (x y:Ma):Bool:=Op.bytesLess x.toList y.toList
def ZDi (k:IntKind) (x y:Int):Int:=k.wrap ((BitVec.ofInt k.bits x &&& BitVec.ofInt k.bits y).toNat:Int)
def iOr (k:IntKind) (x y:Int):Int:=k.wrap ((BitVec.ofInt k.bits x ||| BitVec.ofInt k.bits y).toNat:Int)
def ZDf (k:IntKind) (x y:Int):Int:=k.wrap ((BitVec.ofInt k.bits x ^^^ BitVec.ofInt k.bits y).toNat:Int)
def ZyP (k:IntKind) (x y:Int):Int:=x.fdiv (2^(min y.toNat k.bits))
def bSh (op:BinOp) (k:IntKind) (a b:Int):Option (L×Prop):=
 match op with
 | .shr=>some (.int k (ZyP k a b),0<=b)
 | _=>none
def bI (op:BinOp) (k:IntKind) (a b:Int):Option (L×Prop):=
 match op with
 | .add=>some (.int k (k.wrap (a+b)),True)
 | .sub=>some (.int k (k.wrap (a-b)),True)
 | .mul=>some (.int k (k.wrap (a*b)),True)
 | .quo=>some (.int k (k.wrap (a.tdiv b)),b≠0)
 | .rem=>some (.int k (k.wrap (a.tmod b)),b≠0)
 | .eql=>some (.bool (decide (a=b)),True)
 | .neq=>some (.bool (!decide (a=b)),True)
 | .lss=>some (.bool (decide (a<b)),True)
 | .leq=>some (.bool (decide (a<=b)),True)
 | .gtr=>some (.bool (decide (b<a)),True)
 | .geq=>some (.bool (decide (b<=a)),True)
 | .and=>some (.int k (ZDi k a b),True)
 | .or=>some (.int k (iOr k a b),True)
 | .xor=>some (.int k (ZDf k a b),True)
 | .shr=>some (.int k (ZyP k a b),0<=b)
 | _=>none
def bS (op:BinOp) (a b:Ma):Option (L×Prop):=
 match op with
 | .add=>some (.str (a++b),a.size+b.size<=9223372036854775807)
 | .eql=>some (.bool (decide (a=b)),True)
 | .neq=>some (.bool (!decide (a=b)),True)
 | .lss=>some (.bool (Zpb a b),True)
 | .leq=>some (.bool (Zpb a b||decide (a=b)),True)
 | .gtr=>some (.bool (!(Zpb a b||decide (a=b))),True)
 | .geq=>some (.bool (!Zpb a b),True)
 | _=>none
def eqC:TD->CV->CV->Option Bool
 | .int _,.l (.int k a),.l (.int j b)=>if k=j then some (decide (a=b)) else none
 | .bool,.l (.bool a),.l (.bool b)=>some (a==b)
 | .str,.l (.str a),.l (.str b)=>some (decide (a=b))
 | _,_,_=>none
def Zyd:List TD->List CV->List CV->Option Bool
 | [],[],[]=>some true
 | t::k,c::cs,d::j=>match eqC t c d,Zyd k cs j with
  | some x,some y=>some (x&&y)
  | _,_=>none
 | _,_,_=>none
def ZbD (P:Program):Nat->List Field->Option (List TD)
 | _,[]=>some []
 | n,f::fs=>if f.name != "_"&&f.offset==n then match ti P f.type,ZbD P (n+1) fs with
   | some i,some r=>some (i.td::r)
   | _,_=>none
  else none
def ZAV (P:Program) (t:Nat):Option (List TD):=
 match P.underlying t with
 | some (.struct fs)=>if !P.stoodInHeld t&&!P.eqGuardType P.depth t then ZbD P 0 fs.toList else none
 | _=>none
def num (O:St) (o:Operand):Option (IntKind×Int):=
 match opd O o with
 | some (.one (.l (.int k n)))=>some (k,n)
 | _=>none
def ZpM (P:Program) (fs:List (Nat×Nat)) (cells:List CV):List (Nat×V)->Option (List CV)
 | []=>some cells
 | (i,x)::k=>match fs[i]? with
  | some (j,t)=>match ti P t,x with
   | some l,.one c=>if l.size=1/\j<cells.length then ZpM P fs (cells.set j c) k else none
   | some l,.agg cs=>if l.size=cs.length/\j+cs.length<=cells.length then ZpM P fs (cells.take j++cs++cells.drop (j+cs.length)) k else none
   | _,_=>none
  | none=>none
def parts (O:St):List (Nat×Operand)->Option (List (Nat×V))
 | []=>some []
 | (i,o)::j=>match opd O o,parts O j with
  | some v,some k=>some ((i,v)::k)
  | _,_=>none
def ZAT:V->Option Int
 | .one (.l (.sl es))=>some es.length
 | .one (.l (.str s))=>some s.size
 | .one (.own _ n)=>some n
 | .one .nil=>some 0
 | .one (.nst _ _ _ _ m)=>some m
 | .one (.vw _ _ k j _)=>some ((j-k:Nat):Int)
 | _=>none
def Xs (O:St):List Operand->Option (List V)
 | []=>some []
 | o::j=>match opd O o,Xs O j with
  | some v,some k=>some (v::k)
  | _,_=>none
def ZxB:List V->Option (List Int)
 | []=>some []
 | .one (.l (.int .i64 n))::j=>(ZxB j).map (n:: ·)
 | _=>none
def UA (O:St) (j:Int):Option Operand->Option Int
 | none=>some j
 | some o=>(num O o).map (·.2)
def Zfh:List (List L)->Option (List Int)
 | []=>some []
 | [.int .u8 n]::r=>(Zfh r).map (n:: ·)
 | _=>none
def Zp1 (j:List Int):Ma:=j.foldl (λr n=>r.push (UInt8.ofNat n.toNat)) ByteArray.empty
def ZtH:Option Operand->Option Operand->Bool
 | none,some (.const _)=>true
 | _,_=>false
def Zpm (i:TI) (A:Arr) (el:List L) (τ j W off:Nat):Option V:=
 if el.length=W/\1000000<=τ/\A.fr=true/\i.size=1 then match i.td,el[off]? with
  | .slice _,some (.sl k)=>some (.one (.nst τ j W off k.length))
  | _,_=>none
 else none
def QG (P:Program) (O:St):Op->Option (V×Prop)
 | .move x| .assign x=>(opd O x).map (·,True)
 | .pick c x y=>match opd O c with
  | some (.one (.l (.bool b)))=>match opd O x,opd O y with
   | some (.one (.l (.bool p))),some (.one (.l (.bool q)))=>some (.one (.l (.bool (bif b then p else q))),True)
   | some vx,some vy=>some (if b then vx else vy,True)
   | _,_=>none
  | _=>none
 | .load t p=>match ti P t with
  | some i=>match opd O p with
   | some (.one (.box k B))=>match O.bx.lookup k with
    | some cs=>(UB i (cs.map Zrv) B).map (·,True)
    | none=>none
   | some (.one (.adr S))=>(UB i (S.map CV.l) 0).map (·,True)
   | some (.one (.elt C n j W B))=>match O.ar.lookup C with
    | some (some A)=>match A.es[j]? with
     | some el=>if el.length=W/\C<1000000 then (UB i (el.map CV.l) B).map (·,A.es.length=n) else (Zpm i A el C j W B).map (·,A.es.length=n)
     | none=>none
    | _=>none
   | _=>none
  | none=>none
 | .fieldAddr s p f=>match ti P s with
  | some ⟨.struct fs,_,_,_⟩=>match fs[f]? with
   | some (B,Y)=>match ti P Y with
    | some X=>if X.size=0 then none else match opd O p with
     | some (.one (.box k o))=>some (.one (.box k (o+B)),True)
     | some (.one (.adr S))=>some (.one (.adr (S.drop B)),True)
     | some (.one (.elt C n j W o))=>match O.ar.lookup C with
      | some (some A)=>some (.one (.elt C n j W (o+B)),A.es.length=n)
      | _=>none
     | _=>none
    | none=>none
   | none=>none
  | _=>none
 | .field s x f=>match ti P s with
  | some ⟨.struct fs,_,_,_⟩=>match fs[f]? with
   | some (B,Y)=>match ti P Y,opd O x with
    | some X,some (.agg cs)=>(UB X cs B).map (·,True)
    | _,_=>none
   | none=>none
  | _=>none
 | .indexAddr t x i=>match ti P t,num O i with
  | some ⟨.slice G,_,_,_⟩,some (_,n)=>match ti P G,opd O x with
   | some E,some (.one (.l (.sl es)))=>match es[n.toNat]? with
    | some el=>some (.one (.adr el),0<=n/\∀x∈es,x.length=E.size)
    | none=>none
   | some E,some (.one (.own C m))=>match O.ar.lookup C with
    | some (some A)=>some (.one (.elt C m n.toNat E.size 0),0<=n/\n.toNat<m/\A.es.length=m)
    | _=>none
   | some E,some (.one (.nst C j W B m))=>match O.ar.lookup C with
    | some (some A)=>match A.es[j]? with
     | some el=>match el[B]? with
      | some (.sl ys)=>if A.fr=true/\el.length=W then some (.one (.nel C j W B (n.toNat*E.size)),0<=n/\n.toNat<m/\ys.length=m) else none
      | _=>none
     | none=>none
    | _=>none
   | some E,some (.one (.vw C m J M W))=>match O.ar.lookup C with
    | some (some A)=>some (.one (.elt C m (J+n.toNat) E.size 0),0<=n/\n.toNat<M-J/\A.es.length=m/\W=E.size)
    | _=>none
   | _,_=>none
  | _,_=>none
 | .index t x i=>match ti P t,num O i,opd O x with
  | some ⟨.str,_,_,_⟩,some (_,n),some (.one (.l (.str s)))=>match s.data.toList[n.toNat]? with
   | some c=>some (.one (.l (.int .u8 c.toNat)),0<=n)
   | none=>none
  | _,_,_=>none
 | .extract t i=>match opd O t with
  | some (.tup ps)=>match ps[i]? with
   | some (true,cs)=>some (.agg cs,True)
   | some (false,[c])=>some (.one c,True)
   | _=>none
  | _=>none
 | .nilCheck x=>match opd O x with
  | some (.one (.box k o))=>some (.one (.box k o),True)
  | some (.one (.adr S))=>some (.one (.adr S),True)
  | _=>none
 | .binOp Q t x y _=>match opd O x,opd O y with
  | some (.one (.l (.int k a))),some (.one (.l (.int j b)))=>if k=j then (bI Q k a b).map λr=>(.one (.l r.1),r.2) else (bSh Q k a b).map λr=>(.one (.l r.1),r.2)
  | some (.one (.l (.str a))),some (.one (.l (.str b)))=>(bS Q a b).map λr=>(.one (.l r.1),r.2)
  | some (.one (.l (.bool a))),some (.one (.l (.bool b)))=>match ti P t,Q with
   | some ⟨.bool,_,_,_⟩,.eql=>some (.one (.l (.bool (a==b))),True)
   | some ⟨.bool,_,_,_⟩,.neq=>some (.one (.l (.bool (!(a==b)))),True)
   | _,_=>none
  | some (.agg cs),some (.agg ds)=>match ZAV P t with
   | some b0=>match Zyd b0 cs ds,Q with
    | some r,.eql=>some (.one (.l (.bool r)),True)
    | some r,.neq=>some (.one (.l (.bool (!r))),True)
    | _,_=>none
   | none=>none
  | _,_=>none
 | .unOp Q _ x=>match Q,opd O x with
  | .not,some (.one (.l (.bool b)))=>some (.one (.l (.bool (!b))),True)
  | .neg,some (.one (.l (.int k n)))=>some (.one (.l (.int k (k.wrap (0-n)))),True)
  | _,_=>none
 | .convert s t x=>match ti P s,ti P t,opd O x with
  | some _,some ⟨.int k,_,_,_⟩,some (.one (.l (.int _ n)))=>some (.one (.l (.int k (k.wrap n))),True)
  | some _,some ⟨.str,_,_,_⟩,some (.one (.l (.str s)))=>some (.one (.l (.str s)),True)
  | some ⟨.slice G,_,_,_⟩,some ⟨.str,_,_,_⟩,some (.one (.l (.sl es)))=>match ti P G with
   | some ⟨.int .u8,_,_,_⟩=>(Zfh es).map λZ=>(.one (.l (.str (Zp1 Z))),True)
   | _=>none
  | some ⟨.slice G,_,_,_⟩,some ⟨.str,_,_,_⟩,some (.one (.own C n))=>match ti P G,O.ar.lookup C with
   | some ⟨.int .u8,_,_,_⟩,some (some A)=>(Zfh A.es).map λZ=>(.one (.l (.str (Zp1 Z))),A.es.length=n)
   | _,_=>none
  | _,_,_=>none
 | .build t ps=>match ti P t,parts O ps.toList with
  | some ⟨.struct fs,_,_,z⟩,some T=>if fs.all (λf=>(ti P f.2).isSome) then match ZiT z with
    | some cells=>(ZpM P fs cells T).map λcs=>(.agg cs,True)
    | none=>none
   else none
  | _,_=>none
 | .slice t x J M none=>match ti P t,opd O x with
  | some ⟨.str,_,_,_⟩,some (.one (.l (.str s)))=>match UA O 0 J,UA O s.size M with
   | some l,some h=>some (.one (.l (.str (s.extract l.toNat h.toNat))),0<=l/\l<=h/\h<=s.size)
   | _,_=>none
  | some ⟨.slice G,_,_,_⟩,some (.one (.l (.sl es)))=>match ti P G,UA O 0 J,UA O es.length M with
   | some E,some l,some h=>some (.one (.l (.sl ((es.take h.toNat).drop l.toNat))),0<=l/\l<=h/\h<=es.length/\∀x∈es,x.length=E.size)
   | _,_,_=>none
  | some ⟨.slice G,_,_,_⟩,some (.one (.own C n))=>if ZtH J M then none else match ti P G,UA O 0 J,UA O n M,O.ar.lookup C with
   | some E,some l,some h,some (some A)=>some (.one (.vw C n l.toNat h.toNat E.size),0<=l/\l<=h/\h<=n/\A.es.length=n)
   | _,_,_,_=>none
  | some ⟨.slice G,_,_,_⟩,some (.one (.vw C n I R W))=>match ti P G,UA O 0 J,UA O (R-I:Nat) M,O.ar.lookup C with
   | some E,some l,some h,some (some A)=>some (.one (.vw C n (I+l.toNat) (I+h.toNat) W),0<=l/\l<=h/\h<=(R-I:Nat)/\A.es.length=n/\W=E.size)
   | _,_,_,_=>none
  | _,_=>none
 | .call { callee:=.builtin .len,args:=U,argTypes:=ts}=>match U.toList,ts.toList with
  | [x],[t]=>match ti P t,opd O x with
   | some ⟨.slice _,_,_,_⟩,some v=>match v with
    | .one (.l (.str _))=>none
    | v=>(ZAT v).map λn=>(.one (.l (.int .i64 n)),True)
   | some ⟨.str,_,_,_⟩,some (.one (.l (.str s)))=>some (.one (.l (.int .i64 s.size)),True)
   | _,_=>none
  | _,_=>none
 | .call { callee:=.builtin .max,args:=U,argTypes:=_}=>match Xs O U.toList with
  | some T=>match ZxB T with
   | some [a,b]=>some (.one (.l (.int .i64 (if b>a then b else a))),True)
   | _=>none
  | none=>none
 | .call { callee:=.builtin .min,args:=U,argTypes:=_}=>match Xs O U.toList with
  | some T=>match ZxB T with
   | some [a,b]=>some (.one (.l (.int .i64 (if b<a then b else a))),True)
   | _=>none
  | none=>none
 | _=>none
section
variable {e:Env} {O:St} {w:World} {N:Nat->Prop} {w0:Bs} {a:Act} {P:Program}
theorem ZgH (h:ZJ N w0 e O a w) {o:Operand} {k:IntKind} {n:Int} (j:num O o=some (k,n)):a.eval o= .int k n/\InK k n:=by
 unfold num at j
 split at j
 ·rename_i p r m;obtain ⟨rfl,rfl⟩:=Prod.mk.inj (ZEI j);obtain ⟨F,l,_⟩:=ZG h m;simp only [Rp] at l;exact ⟨l.1,l.2.2⟩
 ·cases j
theorem Zj0 (h:ZJ N w0 e O a w) {o:Operand} {k:IntKind} {n:Int} (l:opd O o=some (.one (.l (.int k n)))):a.eval o= .int k n/\InK k n:=by
 obtain ⟨F,j,_⟩:=ZG h l;simp only [Rp] at j;exact ⟨j.1,j.2.2⟩
theorem ZfA (h:ZJ N w0 e O a w) {o:Operand} {b:Bool} (k:opd O o=some (.one (.l (.bool b)))):a.eval o= .bool b:=by
 obtain ⟨F,j,_⟩:=ZG h k;simp only [Rp] at j;exact j.1
theorem Zk9 (h:ZJ N w0 e O a w) {o:Operand} {s:Ma} (k:opd O o=some (.one (.l (.str s)))):a.eval o= .string s/\Fit s:=by
 obtain ⟨F,j,_⟩:=ZG h k;simp only [Rp] at j;exact ⟨j.1,j.2.2⟩
theorem Vo {k:IntKind} {n:Int} (h:InK k n):(V.one (.l (.int k n))).rel e O w (.int k n):=⟨[],by simp [Rp,h],Ha⟩
theorem Zal {b:Bool}:(V.one (.l (.bool b))).rel e O w (.bool b):=⟨[],by simp [Rp],Ha⟩
theorem ZhD {s:Ma} (h:Fit s):(V.one (.l (.str s))).rel e O w (.string s):=⟨[],by simp [Rp,h],Ha⟩
theorem ZrQ (h:ZJ N w0 e O a w) {t:Nat} {p:Operand} {x:V} {s:Prop} (l:QG P O (.load t p)=some (x,s)) (hs:s):
  ∃u,(Instr.loadAt t (a.eval p)).run P w= .ok u w/\x.rel e O w u:=by
 simp only [QG] at l
 split at l
 ·rename_i i Z
  split at l
  ·rename_i k I hp;have hr:=ZG h hp;obtain ⟨⟨c0,c1⟩,he⟩:=hr
   split at l
   ·rename_i cs hk;obtain ⟨y,r,m⟩:=Hf.1 l;obtain ⟨rfl,rfl⟩:=Prod.mk.inj m;obtain ⟨u,Q,h2⟩:=ZtG (P:=P) h hk Z r;exact ⟨u,by simp [Instr.loadAt,Instr.sureAddr,he,Q],h2⟩
   ·cases l
  ·rename_i ls hp;obtain ⟨b,I,vs,F,he,Q,h2,h3,h4,h5⟩:=ZG h hp;obtain ⟨y,r,m⟩:=Hf.1 l;obtain ⟨rfl,rfl⟩:=Prod.mk.inj m;obtain ⟨u,S,T⟩:=Zvw (P:=P) Q h2 h5 Z r;exact ⟨u,by simp [Instr.loadAt,Instr.sureAddr,he,S],T⟩
  ·rename_i τ n j W I hp;obtain ⟨A',E,Q,_⟩:=ZG h hp
   split at l
   ·rename_i A R
    split at l
    ·rename_i el z
     split at l
     ·rename_i hW;obtain ⟨hW,M⟩:=hW;obtain ⟨y,r,m⟩:=Hf.1 l;obtain ⟨rfl,rfl⟩:=Prod.mk.inj m;rw [R] at E;obtain rfl:=ZEI E;obtain ⟨_,hb⟩:=Q A rfl;obtain ⟨b,o,J⟩:=hb hs;obtain ⟨p',c,b9,_,_,hc| ⟨Y,vs,Fs,W',q1,q2,q3,q4,q5,q6⟩⟩:=h.elems R M
      ·rw [hc] at z;simp at z
      ·subst q1;rw [b9] at o;simp [Value.ownBlock] at o;subst o;have b1:W'=W:=by rw [<-hW];exact (q3 el (Gg z)).symm
       subst b1;obtain ⟨ys,Fi,r1,r2,r3⟩:=q4.get q2 q3 z;rw [HH] at r2;obtain ⟨g,us,hg,rfl,hl,S,T⟩:=ZgG r (WL (e:=e) (O:=O) r1 λx hx=>q6 x (r3 x hx));obtain ⟨u,m1,m2,m3⟩:=Xk (P:=P) (r2.sub I i.size) Z hl hg (λhf=>by obtain ⟨u,hu,_⟩:=T hf;exact ⟨u,hu⟩);refine ⟨u,by simp [Instr.loadAt,Instr.sureAddr,J,m1], ?_⟩;cases g with
       | true=>rw [m2 rfl];exact S rfl
       | false=>
        obtain ⟨u',hu,b7⟩:=T rfl;have:=m3 rfl;rw [hu] at this;injection this with this _
        subst this;exact b7
     ·obtain ⟨y,r,m⟩:=Hf.1 l;obtain ⟨rfl,rfl⟩:=Prod.mk.inj m;unfold Zpm at r
      split at r
      ·rename_i b3;obtain ⟨rfl,M,b4,b5⟩:=b3
       split at r
       ·rename_i et ys b6 b8;obtain rfl:=ZEI r;rw [R] at E;obtain rfl:=ZEI E;obtain ⟨_,hb⟩:=Q A rfl;obtain ⟨b,o,J⟩:=hb hs;obtain ⟨Y,t',b0,c,Fs,u,G,m1,m2,m3,m4,m5,m6,m7,m8,m9,U,X,c2,_⟩:=h.nest R b4 z b8;have ho:(e.ρ τ).ownBlock=some Y:=by rw [m1];rfl
        rw [ho] at o;obtain rfl:=ZEI o
        have b2:At w Y (j*el.length+I) [u]:=λk v l=>by
         cases k with
         | zero=>obtain rfl:u=v:=by simpa using l
                 simp [World.cell?,m4,U]
         | succ k=>simp at l
        obtain ⟨u',S,T,k3⟩:=Xk (P:=P) b2 Z (by simp [b5]) (g:=false) (by rw [b6];rfl) (λ_=>⟨u,rfl⟩);have:=k3 rfl;injection this with e1 _
        subst e1;refine ⟨u,by simp [Instr.loadAt,Instr.sureAddr,J,S],some A,R,λB hB=>⟨M,Y,b0,t',ho,m4,U⟩, ?_⟩;simp only [Ow] at X;obtain ⟨P9,c9,rfl,h9,C⟩:=X;refine ⟨P9,c9,rfl, ?_⟩;rcases C with ⟨C,_⟩| ⟨_,_,_,_,_,_,_,_,C,_⟩
        ·simp [C]
        ·omega
       ·cases r
      ·cases r
    ·cases l
   ·cases l
  ·cases l
 ·cases l
theorem Zf9 {t:Nat} {fs:List (Nat×Nat)} {s b:Nat} {z:List Value} (h:ti P t=some ⟨.struct fs,s,b,z⟩):∃flds:Array Field,P.underlying t=some (.struct flds)/\fs=flds.toList.map (λf=>(f.offset,f.type)):=by
 obtain ⟨j,d,B,m,l,o,k,p,r,A⟩:=VE h;cases d<;>simp [ZuL] at k;exact ⟨_,l,k.symm⟩
theorem Xp {t k s b:Nat} {z:List Value} (h:ti P t=some ⟨.slice k,s,b,z⟩):P.underlying t=some (.slice k):=by
 obtain ⟨j,d,C,o,m,p,l,r,A,B⟩:=VE h;cases d<;>simp [ZuL] at l;subst l;exact m
theorem Znt {t s b:Nat} {k:IntKind} {z:List Value} (h:ti P t=some ⟨.int k,s,b,z⟩):P.underlying t=some (.int k):=by
 obtain ⟨j,d,C,o,m,p,l,r,A,B⟩:=VE h;cases d<;>simp [ZuL] at l;subst l;exact m
theorem Zga {t s b:Nat} {z:List Value} (h:ti P t=some ⟨.str,s,b,z⟩):P.underlying t=some .string:=by
 obtain ⟨j,d,B,m,k,o,l,p,r,A⟩:=VE h;cases d<;>simp [ZuL] at l;exact k
theorem Zl5 {t s b:Nat} {z:List Value} (h:ti P t=some ⟨.bool,s,b,z⟩):P.underlying t=some .bool:=by
 obtain ⟨j,d,B,m,k,o,l,p,r,A⟩:=VE h;cases d<;>simp [ZuL] at l;exact k
theorem ZmI {flds:Array Field} {f off k:Nat} (h:(flds.toList.map λf=>(f.offset,f.type))[f]? =some (off,k)):∃j,flds[f]? =some j/\j.offset=off/\j.type=k:=by
 rw [HX] at h;obtain ⟨j,l,m⟩:=Hf.1 h;obtain ⟨o,p⟩:=Prod.mk.inj m;exact ⟨j,by simpa using l,o,p⟩
theorem Zkh (h:ZJ N w0 e O a w) {t f:Nat} {p:Operand} {x:V} {s:Prop} (l:QG P O (.fieldAddr t p f)=some (x,s)) (hs:s):
  ∃u,(Instr.fieldAt t (a.eval p) f).run P w= .ok u w/\x.rel e O w u:=by
 simp only [QG] at l
 split at l
 ·rename_i fs _ _ _ hi;obtain ⟨Z,Y,rfl⟩:=Zf9 hi
  split at l
  ·rename_i E ft hf;obtain ⟨r,U,rfl,rfl⟩:=ZmI hf
   split at l
   ·rename_i fi X
    split at l
    ·cases l
    ·rename_i hz
     have m:∀I:Addr,a.eval p= .pointer (some I)->(Instr.fieldAt t (a.eval p) f).run P w= .ok (.pointer (some (I.add r.offset))) w:=by
      intro I M;simp [Instr.fieldAt,run_underlying Y,U,M,Instr.sureAddr,fieldPlace,Yr X,hz]
     split at l
     ·rename_i k o hp;obtain ⟨rfl,rfl⟩:=Prod.mk.inj (ZEI l);obtain ⟨S,T⟩:=ZG h hp;refine ⟨_,m _ T,S, ?_⟩;rw [Addr.add_lit]
     ·rename_i ls hp;obtain ⟨rfl,rfl⟩:=Prod.mk.inj (ZEI l);obtain ⟨b,E,vs,F,T,J,G,h3,h4,h5⟩:=ZG h hp;refine ⟨_,m _ T,b,E+r.offset,vs.drop r.offset, ?_⟩;rw [Addr.add_lit]
      by_cases C:r.offset<=ls.length
      ·rw [<-Hn r.offset ls] at G;obtain ⟨v1,v2,F1,F2,rfl,rfl,g1,g2⟩:=G.split;have hl:v1.length=r.offset:=by rw [g1.len,Hg];omega
       rw [<-hl,GG,hl];exact ⟨F2,rfl,by have:=J.right;rwa [hl] at this,g2,h3,h4,λx hx=>h5 x (by simp [hx])⟩
      ·have hl:=G.len;rw [Gs WF,Gs WF];exact ⟨[],rfl,λj u Y=>by simp at Y,by simp [RpL],h3,h4,Ha⟩
     ·rename_i τ n j W o hp;obtain ⟨A',z,J,G⟩:=ZG h hp
      split at l
      ·rename_i A hA;obtain ⟨rfl,rfl⟩:=Prod.mk.inj (ZEI l);rw [hA] at z;obtain rfl:=ZEI z;obtain ⟨C,hb⟩:=J A rfl;obtain ⟨b,Q,R⟩:=hb hs;refine ⟨_,m _ R,some A,hA,λB hB=> ?_,_,rfl⟩;obtain rfl:=ZEI hB;refine ⟨C,λ_=>⟨b,Q, ?_⟩⟩;rw [Addr.add_lit,Gx]
      ·cases l
     ·cases l
   ·cases l
  ·cases l
 ·cases l
theorem ZpN (h:ZJ N w0 e O a w) {t f:Nat} {p:Operand} {x:V} {s:Prop} (j:QG P O (.field t p f)=some (x,s)):
  ∃u,(Instr.field t (a.eval p) f).run P w= .ok u w/\x.rel e O w u:=by
 simp only [QG] at j
 split at j
 ·rename_i fs _ _ _ T;obtain ⟨E,J,rfl⟩:=Zf9 T
  split at j
  ·rename_i X Z hf;obtain ⟨C,m,rfl,rfl⟩:=ZmI hf
   split at j
   ·rename_i Q cs k hp;obtain ⟨y,W,r⟩:=Hf.1 j;obtain ⟨rfl,rfl⟩:=Prod.mk.inj r;obtain ⟨M,G,U⟩:=ZG h hp;obtain ⟨g,Y,I,o,hl,R,S⟩:=ZgG W U;cases g with
    | true=>
     refine ⟨.agg Y.toArray, ?_,R rfl⟩;simp [Instr.field,run_underlying J,m,G,asAgg,part,Zes k I,Yr k,o,List.extract_eq_take_drop]
    | false=>
     obtain ⟨u,A,B⟩:=S rfl;refine ⟨u, ?_,B⟩
     have z:M[C.offset]? =some u:=by
      have l:(List.take Q.size (List.drop C.offset M))[0]? =some u:=by rw [<-o,A];rfl
      rw [Gw] at l
      split at l
      ·rw [GP] at l;simpa using l
      ·cases l
     simp [Instr.field,run_underlying J,m,G,asAgg,part,Zes k I,z]
   ·cases j
  ·cases j
 ·cases j
theorem Zj1 (h:ZJ N w0 e O a w) {t:Nat} {p i:Operand} {x:V} {s:Prop} (o:QG P O (.indexAddr t p i)=some (x,s)) (hs:s):
  ∃u,(Instr.indexAt t (a.eval p) (a.eval i)).run P w= .ok u w/\x.rel e O w u:=by
 simp only [QG] at o
 split at o
 ·rename_i et _ _ _ k n hi hn;have hu:=Xp hi;obtain ⟨Q,_⟩:=ZgH h hn
  split at o
  ·rename_i Y es z hp
   split at o
   ·rename_i el J;obtain ⟨rfl,rfl⟩:=Prod.mk.inj (ZEI o);obtain ⟨F,U,h2⟩:=ZG h hp;simp only [Rp] at U;obtain ⟨A,c,h3,h4,h5,h6⟩:=U;rcases h6 with ⟨rfl,_⟩| ⟨b,b6,xs,Fs,rfl,q2,rfl,q4,q5⟩
    ·simp at J
    ·obtain ⟨ys,Fi,r1,S,r3⟩:=q5.get q4 hs.2 J;have c8:n.toNat<es.length:=(Hh.1 J).1;refine ⟨.pointer (some ⟨b,b6+n.toNat*Y.size,none⟩), ?_,b,_,ys,Fi,rfl,S,r1,q2,h2 b Ha,λx hx=>h2 x (by simp [r3 x hx])⟩;have I:0<=n/\n<(es.length:Int):=⟨hs.1,WF⟩;simp [Instr.indexAt,Q,asIntOf,run_underlying hu,h3,I,Yr z,Addr.add_lit]
   ·cases o
  ·rename_i Y τ m z hp
   split at o
   ·rename_i A E;obtain ⟨rfl,rfl⟩:=Prod.mk.inj (ZEI o);obtain ⟨C,R,l⟩:=hs;obtain ⟨A',r,U,p',c',h3⟩:=ZG h hp;rw [E] at r;obtain rfl:=ZEI r;obtain ⟨b0,hb⟩:=U A rfl;have b2:=hb l;obtain ⟨c6,c,M,_,_,I| ⟨T,vs,Fs,W',q1,q2,q3,q4,q5⟩⟩:=h.Zat E
    ·rw [I] at l;simp at l;omega
    ·subst q1;refine ⟨.pointer (some ⟨T,n.toNat*Y.size+0,none⟩), ?_,some A,E,λB hB=> ?_,_,rfl⟩
     ·have I:0<=n/\n<(m:Int):=⟨C,WF⟩;rw [b2,M,l];simp [Instr.indexAt,Q,asIntOf,run_underlying hu,I,Yr z,Addr.add_lit]
     ·obtain rfl:=ZEI hB;exact ⟨b0,λ_=>⟨T,by rw [M];rfl,rfl⟩⟩
   ·cases o
  ·rename_i Y τ j W b6 m z hp
   split at o
   ·rename_i A E
    split at o
    ·rename_i el J
     split at o
     ·rename_i ys c5
      split at o
      ·rename_i b9;obtain ⟨c2,rfl⟩:=b9;obtain ⟨rfl,rfl⟩:=Prod.mk.inj (ZEI o);obtain ⟨C,R,l⟩:=hs;obtain ⟨A',r,U,q',c',h3,_⟩:=ZG h hp;rw [E] at r;obtain rfl:=ZEI r;obtain ⟨c0,b1,c7,t1,r1,S,r3⟩:=U A rfl;obtain ⟨T,t',b7,c,Fs,u,G,m1,m2,m3,m4,m5,m6,m7,m8,m9,b4,b5,e0,_⟩:=h.nest E c2 J c5;have ho:(e.ρ τ).ownBlock=some T:=by rw [m1];rfl
       rw [ho] at r1;obtain rfl:=ZEI r1;rw [m4] at S;injection S with S
       injection S with S _ _
       subst S;rw [b4] at r3;obtain rfl:=ZEI r3;simp only [Ow] at b5;obtain ⟨P9,c9,h8,h9,Z⟩:=b5;rcases Z with ⟨Z,_⟩| ⟨bn,_,_,_,_,rfl,_⟩
       ·rw [Z] at l;simp at l;omega
       ·refine ⟨.pointer (some ⟨bn,n.toNat*Y.size,none⟩), ?_,some A,E,λB hB=>⟨c0,T,b7,t',bn,ys.length,c9,ho,m4,by rw [b4,h8],rfl⟩,_,rfl⟩;have I:0<=n/\n<(ys.length:Int):=⟨C,WF⟩;rw [h8];simp [Instr.indexAt,Q,asIntOf,run_underlying hu,I,Yr z,Addr.add_lit]
      ·cases o
     ·cases o
    ·cases o
   ·cases o
  ·rename_i Y τ m lo b3 W z hp
   split at o
   ·rename_i A E;obtain ⟨rfl,rfl⟩:=Prod.mk.inj (ZEI o);obtain ⟨C,R,l,rfl⟩:=hs;obtain ⟨A',r,U,_⟩:=ZG h hp;rw [E] at r;obtain rfl:=ZEI r;obtain ⟨b0,hb⟩:=U A rfl;obtain ⟨t1,t2,p1,c1,q,X,hq,b2⟩:=hb l;have c3:lo<m:=HM (Nat.lt_of_sub_pos (Nat.lt_of_le_of_lt (Nat.zero_le _) R)) t2;have c4:n<((b3-lo:Nat):Int):=by have:=Int.toNat_of_nonneg C;rw [<-this];exact Int.ofNat_lt.2 R
    obtain ⟨c6,c,M,b8,_,I| ⟨T,vs,Fs,W',q1,q2,q3,q4,q5⟩⟩:=h.Zat E
    ·rw [I] at l;simp at l;omega
    ·subst q1;rw [X] at M;injection M with r1 S r3
     subst r1 r3;refine ⟨.pointer (some ⟨T,(lo+n.toNat)*Y.size+0,none⟩), ?_,some A,E,λB hB=> ?_,_,rfl⟩
     ·have I:0<=n/\n<((b3-lo:Nat):Int):=⟨C,c4⟩;rw [b2,hq (.inl (HM c3 (l▸b8)))];simp [Instr.indexAt,Q,asIntOf,run_underlying hu,I,Yr z,Addr.add_lit,HE]
     ·obtain rfl:=ZEI hB;exact ⟨b0,λ_=>⟨T,by rw [X];rfl,rfl⟩⟩
   ·cases o
  ·cases o
 ·cases o
theorem ZpA (h:ZJ N w0 e O a w) {t:Nat} {p i:Operand} {x:V} {s:Prop} (j:QG P O (.index t p i)=some (x,s)) (I:s):
  ∃u,(Instr.index t (a.eval p) (a.eval i)).run P w= .ok u w/\x.rel e O w u:=by
 simp only [QG] at j
 split at j
 ·rename_i _ _ _ k n z E G hp;have J:=Zga E;obtain ⟨o,_⟩:=ZgH h G
  split at j
  ·rename_i c B;obtain ⟨rfl,rfl⟩:=Prod.mk.inj (ZEI j);obtain ⟨r,_⟩:=Zk9 h hp;have l:=(Hh.1 B).1;refine ⟨.int .u8 c.toNat, ?_,Vo ((ZwF _).2 ⟨WF,by have:=c.toNat_lt;omega⟩)⟩
   have C:z[n.toNat]? =some c:=by
    have m:n.toNat<z.size:=by rw [HY] at l;exact l
    rw [getElem?_pos z n.toNat m]
    congr 1
    have A:=(Hh.1 B).2;rw [Array.getElem_toList] at A;exact A
   simp [Instr.index,o,r,asIntOf,run_underlying J,I,C]
  ·cases j
 ·cases j
theorem ZhJ:∀{o:List (Bool×List CV)} {vs:List Value} {i:Nat} {p:Bool×List CV},YH e O w o vs->o[i]? =some p->∃v,vs[i]? =some v/\Zpf e O w p v
 | c::cs,_,0,_,h,j=>by
  simp only [YH] at h;obtain ⟨v,k,rfl,l,m⟩:=h;simp at j;subst j;exact ⟨v,rfl,l⟩
 | c::cs,_,i+1,_,h,j=>by
  simp only [YH] at h;obtain ⟨v,k,rfl,l,m⟩:=h;simp at j
  simpa using ZhJ m j
theorem ZmJ (h:ZJ N w0 e O a w) {i:Nat} {p:Operand} {x:V} {s:Prop} (k:QG P O (.extract p i)=some (x,s)):
  ∃u,(Instr.extract (a.eval p) i).run P w= .ok u w/\x.rel e O w u:=by
 simp only [QG] at k
 split at k
 ·rename_i A hp;obtain ⟨B,r,t⟩:=ZG h hp
  split at k
  ·rename_i cs o;obtain ⟨rfl,rfl⟩:=Prod.mk.inj (ZEI k);obtain ⟨v,l,m⟩:=ZhJ t o;exact ⟨v,by simp [Instr.extract,r,l],m⟩
  ·rename_i c o;obtain ⟨rfl,rfl⟩:=Prod.mk.inj (ZEI k);obtain ⟨v,l,z,j,m⟩:=ZhJ t o;injection j with j _
   subst j;exact ⟨v,by simp [Instr.extract,r,l],m⟩
  ·cases k
 ·cases k
end
section
variable {e:Env} {O:St} {w:World} {N:Nat->Prop} {w0:Bs} {a:Act} {P:Program}
theorem Zxb {k:IntKind} {a b:Int} (j:InK k a) (o:InK k b) (l:b≠0):k.wrap (a.tmod b)=a.tmod b:=by
 have p:a.tmod b<=a.natAbs/\ -(a.natAbs:Int)<=a.tmod b:=by
  have:=Int.natAbs_tmod a b;have r:=Nat.mod_le a.natAbs b.natAbs;omega
 have s:(0<=a->0<=a.tmod b):=λh=>Int.tmod_nonneg b h
 have t:(a<=0->a.tmod b<=0):=λh=>by
  have:=Int.neg_tmod a b;have z:=Int.tmod_nonneg (a:= -a) b WF;omega
 unfold InK at *;revert j;generalize a.tmod b=m at *;clear o l;cases k<;>simp only [IntKind.wrap,IntKind.bits,IntKind.signed]<;>simp<;>intro j<;>(try split at j)<;>(try split)<;>omega
theorem Zzi {k:IntKind} {a b:Int} (l:InK k a):k.wrap (ZyP k a b)=ZyP k a b:=by
 unfold ZyP;obtain ⟨m,r⟩:∃m:Nat,m=min b.toNat k.bits:=⟨_,rfl⟩;rw [<-r];have j:(0:Int)<2^m:=Int.pow_pos WF
 have o:0<=a->0<=a.fdiv (2^m)/\a.fdiv (2^m)<=a:=λh=>by
  rw [Int.fdiv_eq_ediv_of_nonneg _ (Int.le_of_lt j)];exact ⟨Int.ediv_nonneg h (Int.le_of_lt j),Int.ediv_le_self _ h⟩
 have p:a<0->a<=a.fdiv (2^m)/\a.fdiv (2^m)<0:=λh=>by
  rw [Int.fdiv_eq_ediv_of_nonneg _ (Int.le_of_lt j)];refine ⟨Int.le_ediv_of_mul_le j ?_,Int.ediv_neg_of_neg_of_pos h j⟩;have:a*2^m<=a*1:=Int.mul_le_mul_of_nonpos_left WF WF;omega
 unfold InK at *;revert l o p;generalize a.fdiv (2^m)=q;intro l o p;revert l;cases k<;>simp only [IntKind.wrap,IntKind.bits,IntKind.signed]<;>simp<;>intro l<;>(try split at l)<;>(try split)<;>omega
theorem Zut {op:BinOp} {k j:IntKind} {x y:Int} {r:L} {s:Prop} (l:bSh op k x y=some (r,s)) (z:s) (o:InK k x) (t:Nat) (p ob:Operand):
  (do eqGuard op t p ob (.int k x) (.int j y);binOp op t (.int k x) (.int j y):Sem Value).run P w= .ok (Zje r) w/\(V.one (.l r)).rel e O w (Zje r):=by
 cases op<;>simp only [bSh,ZEK,ZEL] at l<;>first | (cases l;done)| skip
 obtain ⟨rfl,rfl⟩:=l;have m:¬y<0:=WF
 exact ⟨by simp [eqGuard,binOp,Op.shift,m,Zje,ZyP],Vo (by unfold InK;exact Zzi o)⟩
theorem ZAF {op:BinOp} {k:IntKind} {x y:Int} {r:L} {s:Prop} (m:bI op k x y=some (r,s)) (l:s) (o:InK k x) (z:InK k y) (t:Nat) (p ob:Operand):
  (do eqGuard op t p ob (.int k x) (.int k y);binOp op t (.int k x) (.int k y):Sem Value).run P w= .ok (Zje r) w/\(V.one (.l r)).rel e O w (Zje r):=by
 cases op<;>simp only [bI,ZEK,ZEL] at m<;>first | (cases m;done)| skip
 all_goals (obtain ⟨rfl,rfl⟩:=m)
 case quo=>
  exact ⟨by simp [eqGuard,binOp,Op.intDiv,l,Zje],Vo (InK.wrap _ _)⟩
 case rem=>
  exact ⟨by simp [eqGuard,binOp,Op.intDiv,l,Zje,Zxb o z l],Vo (InK.wrap _ _)⟩
 case and=>
  have j:Op.intBits .and k x y=pure (.int k (ZDi k x y)):=rfl;exact ⟨by simp [eqGuard,binOp,Zje,j],Vo (InK.wrap _ _)⟩
 case or=>
  have j:Op.intBits .or k x y=pure (.int k (iOr k x y)):=rfl;exact ⟨by simp [eqGuard,binOp,Zje,j],Vo (InK.wrap _ _)⟩
 case xor=>
  have j:Op.intBits .xor k x y=pure (.int k (ZDf k x y)):=rfl;exact ⟨by simp [eqGuard,binOp,Zje,j],Vo (InK.wrap _ _)⟩
 case shr=>exact Zut rfl l o t p ob
 all_goals first
  | exact ⟨by simp [eqGuard,binOp,Op.intArith,Zje],Vo (InK.wrap _ _)⟩
  | exact ⟨by simp [eqGuard,binOp,Op.intCmp,Zje];try (rw [Bool.eq_iff_iff];simp),Zal⟩
theorem ZAE {op:BinOp} {x y:Ma} {r:L} {s:Prop} (j:bS op x y=some (r,s)) (m:s) (t:Nat) (o ob:Operand):
  (do eqGuard op t o ob (.string x) (.string y);binOp op t (.string x) (.string y):Sem Value).run P w= .ok (Zje r) w/\(V.one (.l r)).rel e O w (Zje r):=by
 cases op<;>simp only [bS,ZEK,ZEL] at j<;>first | (cases j;done)| skip
 all_goals (obtain ⟨rfl,rfl⟩:=j)
 case add=>
  have k:¬((x.size:Int)+y.size>9223372036854775807):=WF
  refine ⟨?_,ZhD (by unfold Fit;rw [ByteArray.size_append];exact m)⟩;have l:IntKind.max .i64=9223372036854775807:=by decide
  simp [eqGuard,binOp,Op.stringOp,Zje,l,k]
 all_goals exact ⟨by simp [eqGuard,binOp,Op.stringOp,Zje,Zpb,Zo0],Zal⟩
theorem Zye {p:Field} {i:TI} (hi:ti P p.type=some i) {c d:CV} {r:Bool} (h:eqC i.td c d=some r) {u v:Value} (t:c.rel e O w u) (A:d.rel e O w v) (n:Nat):
  i.td.agg=some false/\(Op.equalIn (n+1) p.type u v).run P w= .ok r w:=by
 obtain ⟨I,E,B,z⟩:=i;unfold eqC at h
 split at h
 ·rename_i C k x j y o;simp only at o;subst o
  split at h
  ·rename_i s;subst s;obtain rfl:=ZEI h;obtain ⟨F,l,_⟩:=t;obtain ⟨G,m,_⟩:=A;simp only [Rp] at l m;rw [l.1,m.1];refine ⟨rfl, ?_⟩;rw [run_equalIn_int w n p.type k C x y (Znt hi)]
   rfl
  ·cases h
 ·rename_i x y o;simp only at o;subst o;obtain rfl:=ZEI h;obtain ⟨F,l,_⟩:=t;obtain ⟨G,m,_⟩:=A;simp only [Rp] at l m;rw [l.1,m.1];exact ⟨rfl,run_equalIn_bool' w n p.type x y (Zl5 hi)⟩
 ·rename_i x y o;simp only at o;subst o;obtain rfl:=ZEI h;obtain ⟨F,l,_⟩:=t;obtain ⟨G,m,_⟩:=A;simp only [Rp] at l m;rw [l.1,m.1];refine ⟨rfl, ?_⟩;rw [run_equalIn_string w n p.type x y (Zga hi),Zo0]
 ·cases h
theorem ZiS (m:Nat):∀{fs:List Field} {n:Nat} {p:List TD} {cs o:List CV} {us vs:List Value} {r:Bool} (xs ys:Array Value),ZbD P n fs=some p->Zyd p cs o=some r->Yn e O w cs us->Yn e O w o vs->
  (∀j,us[j]? =xs[n+j]?)->(∀j,vs[j]? =ys[n+j]?)->(Op.eqFields (m+1) xs ys fs).run P w= .ok r w
 | [],n,p,cs,o,us,vs,r,xs,ys,hf,k,_,_,_,_=>by
  simp only [ZbD,ZEK] at hf;subst hf;unfold Zyd at k
  split at k
  ·obtain rfl:=ZEI k;simp [Op.eqFields]
  ·contradiction
  ·cases k
 | f::fs,n,p,cs,o,us,vs,r,xs,ys,hf,k,G,I,J,M=>by
  simp only [ZbD] at hf
  split at hf
  ·rename_i C;simp only [ZEM,bne_iff_ne,ne_eq,beq_iff_eq] at C;obtain ⟨U,ho⟩:=C
   split at hf
   ·rename_i i b0 s l;obtain rfl:=ZEI hf;unfold Zyd at k
    split at k
    ·contradiction
    ·rename_i c cs d o h;injection h with S T
     subst S T
     split at k
     ·rename_i r1 r2 Q R;obtain rfl:=ZEI k;simp only [Yn] at G I;obtain ⟨u,b1,rfl,t,z⟩:=G;obtain ⟨v,b2,rfl,A,B⟩:=I;obtain ⟨E,Z⟩:=Zye s Q t A m;have px:xs[f.offset]? =some u:=by have:=J 0;simp at this;rw [ho];exact this.symm
      have py:ys[f.offset]? =some v:=by have:=M 0;simp at this;rw [ho];exact this.symm
      have W:=ZiS m xs ys l R z B (λj=>by have:=J (j+1);simp at this;rw [this];congr 1;omega) (λj=>by have:=M (j+1);simp at this;rw [this];congr 1;omega);have X:(part f.type xs f.offset).run P w= .ok u w:=by simp [part,Zes s E,px]
      have Y:(part f.type ys f.offset).run P w= .ok v w:=by simp [part,Zes s E,py]
      simp only [Op.eqFields,Sem.run_ite,Sem.run_bind,X,Y,Z,Result.andThen_ok];rw [if_pos (by simpa using U)];cases r1
      ·simp
      ·simpa using W
     ·cases k
    ·cases k
   ·cases hf
  ·cases hf
theorem Zlv {t:Nat} {m:List TD} (j:ZAV P t=some m) {cs z:List CV} {r:Bool} (E:Zyd m cs z=some r) {us vs:List Value} (G:Yn e O w cs us) (I:Yn e O w z vs) (p ob:Operand):
  (do eqGuard .eql t p ob (.agg us.toArray) (.agg vs.toArray);binOp .eql t (.agg us.toArray) (.agg vs.toArray):Sem Value).run P w= .ok (.bool r) w/\
  (do eqGuard .neq t p ob (.agg us.toArray) (.agg vs.toArray);binOp .neq t (.agg us.toArray) (.agg vs.toArray):Sem Value).run P w= .ok (.bool (!r)) w:=by
 unfold ZAV at j
 split at j
 ·rename_i fs l
  split at j
  ·rename_i o;simp only [ZEM,Ga] at o;have k:P.fieldsOf t=fs:=by simp [Program.fieldsOf,l]
   have s:=run_equalIn_agg w 9999 t us.toArray vs.toArray (by rw [k];exact l) o.1;rw [k] at s;have C:=ZiS 9998 us.toArray vs.toArray j E G I Ha Ha;rw [C] at s;have A:=run_eqGuard_agg w .eql t p ob us.toArray vs.toArray o.2;have B:=run_eqGuard_agg w .neq t p ob us.toArray vs.toArray o.2;rw [Sem.run_bind,Sem.run_bind,A,B,Result.andThen_ok,Result.andThen_ok,run_eql_struct,run_neq_struct,s];exact ⟨rfl,rfl⟩
  ·cases j
 ·cases j
end
section
variable {e:Env} {O:St} {w:World} {N:Nat->Prop} {w0:Bs} {a:Act} {P:Program}
theorem ZpZ (h:ZJ N w0 e O a w) {op:BinOp} {t T:Nat} {p q:Operand} {x:V} {s:Prop} (l:QG P O (.binOp op t p q T)=some (x,s)) (M:s):
  ∃u,(do eqGuard op t p q (a.eval p) (a.eval q);binOp op t (a.eval p) (a.eval q):Sem Value).run P w= .ok u w/\x.rel e O w u:=by
 simp only [QG] at l
 split at l
 ·rename_i k n j m hp hq
  split at l
  ·rename_i S;subst S;obtain ⟨⟨r,R⟩,B,A⟩:=Hf.1 l;obtain ⟨rfl,rfl⟩:=Prod.mk.inj A;obtain ⟨o,C⟩:=Zj0 h hp;obtain ⟨z,E⟩:=Zj0 h hq;obtain ⟨G,I⟩:=ZAF B M C E t p q;exact ⟨_,by rw [o,z];exact G,I⟩
  ·obtain ⟨⟨r,R⟩,B,A⟩:=Hf.1 l;obtain ⟨rfl,rfl⟩:=Prod.mk.inj A;obtain ⟨o,C⟩:=Zj0 h hp;obtain ⟨z,E⟩:=Zj0 h hq;obtain ⟨G,I⟩:=Zut B M C t p q;exact ⟨_,by rw [o,z];exact G,I⟩
 ·rename_i n m hp hq;obtain ⟨⟨r,R⟩,B,A⟩:=Hf.1 l;obtain ⟨rfl,rfl⟩:=Prod.mk.inj A;obtain ⟨o,C⟩:=Zk9 h hp;obtain ⟨z,E⟩:=Zk9 h hq;obtain ⟨G,I⟩:=ZAE B M t p q;exact ⟨_,by rw [o,z];exact G,I⟩
 ·rename_i n m hp hq;have o:=ZfA h hp;have z:=ZfA h hq
  split at l
  ·rename_i J;obtain ⟨rfl,rfl⟩:=Prod.mk.inj (ZEI l);exact ⟨.bool (n==m),by rw [o,z];simp [eqGuard,binOp,Op.equal,Op.maxDepth,run_equalIn_bool' w 9999 t n m (Zl5 J)],Zal⟩
  ·rename_i J;obtain ⟨rfl,rfl⟩:=Prod.mk.inj (ZEI l);exact ⟨.bool (!(n==m)),by rw [o,z];simp [eqGuard,binOp,Op.equal,Op.maxDepth,run_equalIn_bool' w 9999 t n m (Zl5 J)],Zal⟩
  ·cases l
 ·rename_i cs W hp hq;obtain ⟨X,o,C⟩:=ZG h hp;obtain ⟨Y,z,E⟩:=ZG h hq
  split at l
  ·rename_i U Q
   split at l
   ·rename_i r B;obtain ⟨rfl,rfl⟩:=Prod.mk.inj (ZEI l);exact ⟨.bool r,by rw [o,z];exact (Zlv Q B C E p q).1,Zal⟩
   ·rename_i r B;obtain ⟨rfl,rfl⟩:=Prod.mk.inj (ZEI l);exact ⟨.bool (!r),by rw [o,z];exact (Zlv Q B C E p q).2,Zal⟩
   ·cases l
  ·cases l
 ·cases l
theorem Zry (h:ZJ N w0 e O a w) {op:UnOp} {t:Nat} {p:Operand} {x:V} {s:Prop} (j:QG P O (.unOp op t p)=some (x,s)):
  ∃u,(Op.unary op (a.eval p)).run P w= .ok u w/\x.rel e O w u:=by
 simp only [QG] at j
 split at j
 ·rename_i b hp;obtain ⟨rfl,rfl⟩:=Prod.mk.inj (ZEI j);exact ⟨_,by rw [ZfA h hp];simp [Op.unary],Zal⟩
 ·rename_i k n hp;obtain ⟨rfl,rfl⟩:=Prod.mk.inj (ZEI j);obtain ⟨l,m⟩:=Zj0 h hp;exact ⟨.int k (k.wrap (0-n)),by rw [l];simp [Op.unary,Op.intArith],Vo (InK.wrap _ _)⟩
 ·cases j
theorem Zh6:∀{es:List (List L)} {k:List Int},Zfh es=some k->es.length=k.length
 | [],_,h=>by simp [Zfh] at h;subst h;rfl
 | e::es,k,h=>by
  unfold Zfh at h
  split at h
  ·rename_i j;cases j
  ·rename_i n r j;injection j with l o
   subst l o;obtain ⟨m,p,rfl⟩:=Hf.1 h;simp [Zh6 p]
  ·cases h
theorem Zfz:∀{es:List (List L)} {l:List Int} {vs:List Value} {F:List Nat},Zfh es=some l->RpE w es vs F->vs=l.map (Value.int .u8)
 | [],_,_,_,h,k=>by
  simp [Zfh] at h;subst h;simp only [RpE] at k;simp [k.1]
 | e::es,l,vs,F,h,k=>by
  unfold Zfh at h
  split at h
  ·rename_i j;cases j
  ·rename_i n r j;injection j with o p
   subst o p;obtain ⟨m,s,rfl⟩:=Hf.1 h;simp only [RpE,RpL,Rp] at k;obtain ⟨G,I,A,B,rfl,rfl,⟨v,z,C,E,rfl,rfl,⟨rfl,rfl,_⟩,rfl,rfl⟩,t⟩:=k;simp [Zfz s t]
  ·cases h
theorem Zko (j:List Int):(Zp1 j).size=j.length:=by
 have k:∀(j:List Int) (s:Ma),(j.foldl (λr n=>r.push (UInt8.ofNat n.toNat)) s).size=s.size+j.length:=by
  intro j
  induction j with
  | nil=>intro s;simp
  | cons n j l=>intro s;simp only [List.foldl_cons,l,ByteArray.size_push,HL];omega
 unfold Zp1;rw [k];simp
theorem ZjM {A:Option Addr} {n c:Nat} {j:List Int} (k:n=j.length) (o:n=0\/∃b off,A=some ⟨b,off,none⟩/\At w b off (j.map (Value.int .u8))):(Conv.bytesToString (.slice A n c)).run P w= .ok (.string (Zp1 j)) w:=by
 rcases o with p| ⟨b,off,rfl,m⟩
 ·have:j=[]:=by cases j with | nil=>rfl| cons _ _=>simp at k;omega
  subst this;subst k;cases A with
  | none=>simp [Conv.bytesToString,Zp1]
  | some a=>
   have:=run_bytesToString (P:=P) w a 0 c [] (by simp [loadCells,loadCellsFrom])
   simpa [Zp1] using this
 ·subst k;have l:=ZcC (P:=P) m;simp only [HO] at l;exact run_bytesToString w _ _ _ j l
theorem ZmM (h:ZJ N w0 e O a w) {t Q:Nat} {p:Operand} {x:V} {s:Prop} (r:QG P O (.convert t Q p)=some (x,s)) (W:s):
  ∃u,(convert t Q (a.eval p)).run P w= .ok u w/\x.rel e O w u:=by
 simp only [QG] at r
 split at r
 ·rename_i k _ _ _ k' n l m hp;obtain ⟨rfl,rfl⟩:=Prod.mk.inj (ZEI r);obtain ⟨C,U⟩:=Zj0 h hp;obtain ⟨j,d,z,g1,T,_⟩:=VE l;refine ⟨.int k (k.wrap n), ?_,Vo (InK.wrap _ _)⟩;rw [C];simp [convert,run_underlying T,run_underlying (Znt m),Conv.intToInt]
 ·rename_i i _ _ _ st l m hp;obtain ⟨rfl,rfl⟩:=Prod.mk.inj (ZEI r);obtain ⟨C,U⟩:=Zk9 h hp;obtain ⟨j,d,z,g1,T,_⟩:=VE l;refine ⟨.string st, ?_,ZhD U⟩;rw [C];simp only [convert,Sem.run_bind,run_underlying T,run_underlying (Zga m),Result.andThen_ok];cases d<;>simp
 ·rename_i R _ _ _ _ _ _ es l m hp
  split at r
  ·rename_i _ _ _ B;obtain ⟨S,o,E⟩:=Hf.1 r;obtain ⟨rfl,rfl⟩:=Prod.mk.inj E;obtain ⟨F,C,U⟩:=ZG h hp;simp only [Rp] at C;obtain ⟨A,c,Y,h4,h5,h6⟩:=C;have hl:=Zh6 o;refine ⟨.string (Zp1 S), ?_,ZhD (by unfold Fit;rw [Zko];omega)⟩;rw [Y,run_convert_bytes_string w t Q R A _ c (Xp l) (Znt B) (Zga m)];refine ZjM hl ?_;rcases h6 with ⟨rfl,_⟩| ⟨b,X,xs,Fs,rfl,q2,rfl,q4,q5⟩
   ·exact .inl rfl
   ·exact .inr ⟨b,X,rfl,by rw [<-Zfz o q5];exact q4⟩
  ·cases r
 ·rename_i R _ _ _ _ _ _ τ n l m hp
  split at r
  ·rename_i _ _ _ A B Z;obtain ⟨S,o,E⟩:=Hf.1 r;obtain ⟨rfl,rfl⟩:=Prod.mk.inj E;have W:=W;have hl:=Zh6 o;obtain ⟨A',G,C,p',c',Y⟩:=ZG h hp;rw [Z] at G;obtain rfl:=ZEI G;have I:=(C A rfl).2 W;obtain ⟨M,c,J,q1,q2,hc| ⟨b',vs,Fs,W',k1,k2,k3,k4,k5⟩⟩:=h.Zat Z
   ·refine ⟨.string (Zp1 S), ?_,ZhD (by unfold Fit;rw [Zko];omega)⟩;rw [I,J,run_convert_bytes_string w t Q R M _ c (Xp l) (Znt B) (Zga m)];exact ZjM hl (.inl (by rw [hc];rfl))
   ·refine ⟨.string (Zp1 S), ?_,ZhD (by unfold Fit;rw [Zko];omega)⟩;rw [I,J,run_convert_bytes_string w t Q R M _ c (Xp l) (Znt B) (Zga m)];exact ZjM hl (.inr ⟨b',0,k1,by rw [<-Zfz o k4];exact k2⟩)
  ·cases r
 ·cases r
theorem Zkg (off:Nat):∀(us:List Value) (k:Nat) (cells:Array Value),off+k+us.length<=cells.size->
  ((us.zipIdx k).foldl (λcs (x:Value×Nat)=>cs.setIfInBounds (off+x.2) x.1) cells).toList=cells.toList.take (off+k)++us++cells.toList.drop (off+k+us.length)
 | [],k,cells,_=>Ha
 | u::us,k,cells,h=>by
  simp only [List.zipIdx_cons,List.foldl_cons];rw [Zkg off us (k+1) _ (by simp at h ⊢;omega)];simp only [HL] at h;simp only [Array.toList_setIfInBounds];have j:off+k<cells.toList.length:=by simp;omega
  rw [show off+(k+1)=off+k+1 from WF,List.take_set,Gm j,GS _ _ (by rw [Hg];omega)];simp only [Hg];rw [Hw WF,Gz];simp only [List.set_cons_zero,HL];rw [List.drop_set];rw [if_pos WF];simp [Nat.add_comm,Nat.add_left_comm]
theorem Zfx (h:ZJ N w0 e O a w) {flds:List Field} {places:Nat->Option (Nat×Nat)}
  (z:∀(i:Nat) (m:Field) R,flds[i]? =some m->ti P m.type=some R->places i=some (m.offset,R.size)):
  ∀{vs:List (Nat×V)} {us:List (Nat×Value)} {cells o:List CV} {cur:Array Value},ZpM P (flds.map λf=>(f.offset,f.type)) cells vs=some o->Yn e O w cells cur.toList->
   us.map (·.1)=vs.map (·.1)->(∀(j:Nat) p q,vs[j]? =some p->us[j]? =some q->p.2.rel e O w q.2)->
   ∃k,Instr.fill places cur us=some k/\Yn e O w o k.toList
 | [],us,cells,o,cur,hf,A,s,_=>by
  simp only [ZpM,ZEK] at hf;subst hf;have:us=[]:=by simpa using s
  subst this;exact ⟨cur,rfl,A⟩
 | (i,x)::vs,[],cells,o,cur,hf,A,s,_=>by simp at s
 | (i,x)::vs,(Z,u)::us,cells,o,cur,hf,A,s,E=>by
  simp only [Hi,List.cons.injEq] at s;obtain ⟨U,s⟩:=s
  try simp only at U
  subst U;have B:=E 0 (Z,x) (Z,u) rfl rfl
  try simp only at B
  have r:∀(j:Nat) p q,vs[j]? =some p->us[j]? =some q->p.2.rel e O w q.2:=λj p q hp hq=>E (j+1) p q (by simpa using hp) (by simpa using hq);simp only [ZpM] at hf
  split at hf
  ·rename_i b3 t T;rw [HX] at T;obtain ⟨m,S,b0⟩:=Hf.1 T;obtain ⟨rfl,rfl⟩:=Prod.mk.inj b0
   split at hf
   ·rename_i R c J
    split at hf
    ·rename_i hc;obtain ⟨Q,X⟩:=hc;have I:=CV.rel.cells B |>.1
     have l:=A.len
     have M:Yn e O w (cells.set m.offset c) (cur.setIfInBounds m.offset u).toList:=by
      simp;rw [GY,GY,if_pos X,if_pos (by rw [l];exact X)];refine (A.take _).append ?_;simp only [Yn];exact ⟨u,_,rfl,B,A.drop _⟩
     obtain ⟨k,k1,k2⟩:=Zfx h z hf M s r;refine ⟨k, ?_,k2⟩;unfold Instr.fill;rw [z Z m R S J];have G:cur.size=cells.length:=by rw [<-l];simp
     simp only [I,Q];rw [if_neg (by simp [G];omega)]
     simpa using k1
    ·cases hf
   ·rename_i R cs J
    split at hf
    ·rename_i hc;obtain ⟨Q,b2⟩:=hc;obtain ⟨C,rfl,Y⟩:=B;have I:(Value.agg C.toArray).cells=C.toArray:=rfl;have l:=A.len;have W:=Y.len;have G:cur.size=cells.length:=by rw [<-l];simp
     have b1:=Zkg m.offset C 0 cur WF
     have M:Yn e O w (cells.take m.offset++cs++cells.drop (m.offset+cs.length)) ((C.zipIdx 0).foldl (λcs (x:Value×Nat)=>cs.setIfInBounds (m.offset+x.2) x.1) cur).toList:=by
      rw [b1,Gr,W];exact ((A.take _).append Y).append (A.drop _)
     obtain ⟨k,k1,k2⟩:=Zfx h z hf M s r;refine ⟨k, ?_,k2⟩;unfold Instr.fill;rw [z Z m R S J];simp only [I,Q];rw [if_neg (by simp [G,W];omega)];rw [<-k1]
     congr 1
     simp
    ·cases hf
   ·cases hf
  ·cases hf
theorem Zfp (h:ZJ N w0 e O a w):∀{k:List (Nat×Operand)} {vs:List (Nat×V)},parts O k=some vs->(k.map λx=>(x.1,a.eval x.2)).map (·.1)=vs.map (·.1)/\∀(j:Nat) p q,vs[j]? =some p->(k.map λx=>(x.1,a.eval x.2))[j]? =some q->p.2.rel e O w q.2
 | [],_,hp=>by simp [parts] at hp;subst hp;simp
 | (i,o)::k,_,hp=>by
  simp only [parts] at hp
  split at hp
  ·rename_i v vs s l;obtain rfl:=ZEI hp;obtain ⟨m,r⟩:=Zfp h l;refine ⟨by simp at m ⊢;exact m,λj p q hj hq=> ?_⟩;cases j with
   | zero=>
    simp at hj hq;subst hj hq;exact ZG h s
   | succ j=>exact r j p q (by simpa using hj) (by simpa using hq)
  ·cases hp
theorem ZjV:∀(fs:List Field),(∀k∈fs,∃l,ti P k.type=some l)->∃pl:List (Nat×Nat),(fs.mapM (λf=>do pure (f.offset,<-sizeOf f.type):Field->Sem (Nat×Nat))).run P w= .ok pl w/\∀(i:Nat) k l,fs[i]? =some k->ti P k.type=some l->pl[i]? =some (k.offset,l.size)
 | [],_=>⟨[],Ha,Ha⟩
 | f::fs,h=>by
  obtain ⟨l,m⟩:=h f Ha;obtain ⟨pl,s,t⟩:=ZjV fs (λk p=>h k (by simp [p]));refine ⟨(f.offset,l.size)::pl, ?_, ?_⟩
  ·rw [List.mapM_cons];simp only [Sem.run_bind,Yr m,Result.andThen_ok,Sem.run_pure] at s ⊢;rw [s]
   rfl
  ·intro i k o r j;cases i with
   | zero=>
    simp at r;subst r;rw [m] at j;obtain rfl:=ZEI j
    rfl
   | succ i=>exact t i k o (by simpa using r) j
end
section
variable {e:Env} {O:St} {w:World} {N:Nat->Prop} {w0:Bs} {a:Act} {P:Program}
theorem ZpY (h:ZJ N w0 e O a w) {t:Nat} {T:Array (Nat×Operand)} {x:V} {s:Prop} (m:QG P O (.build t T)=some (x,s)):
  ∃u,(Instr.build t (T.map λ(i,x)=>(i,a.eval x))).run P w= .ok u w/\x.rel e O w u:=by
 simp only [QG] at m
 split at m
 ·rename_i fs _ _ z vs U R
  split at m
  ·rename_i l
   split at m
   ·rename_i cells Y;obtain ⟨cs,E,G⟩:=Hf.1 m;obtain ⟨rfl,rfl⟩:=Prod.mk.inj G;obtain ⟨j,X,rfl⟩:=Zf9 U;obtain ⟨W,S,B⟩:=ZlJ U w;simp only at B
    have p:∀o∈j.toList,∃C,ti P o.type=some C:=by
     intro o r;rw [Hj] at l;have:=l (o.offset,o.type) (Hd.2 ⟨o,r,rfl⟩);exact Hk.1 this
    obtain ⟨pl,M,Q⟩:=ZjV (P:=P) (w:=w) j.toList p;obtain ⟨q1,q2⟩:=Zfp h R;obtain ⟨k,Z,k2⟩:=Zfx (P:=P) h (flds:=j.toList) (places:=λi=>pl.toArray[i]?) (λi o C r I=>by simpa using Q i o C r I) E (cur:=W.cells) (by rw [B];exact Zez Y) q1 q2;refine ⟨.agg k, ?_,k.toList,Ha,k2⟩
    have J:(j.mapM λf=>do pure (f.offset,<-sizeOf f.type):Sem (Array (Nat×Nat))).run P w= .ok pl.toArray w:=by
     rw [Array.mapM_eq_mapM_toList,Sem.run_map,M]
     rfl
    have A:Instr.fill (λi=>pl.toArray[i]?) W.cells (T.map λ(i,x)=>(i,a.eval x)).toList=some k:=by
     rw [<-Z];congr 1;simp
    simp only [Instr.build,Sem.run_bind,S,Result.andThen_ok,run_underlying X];rw [J];simp only [Result.andThen_ok,A,Sem.run_pure]
   ·cases m
  ·cases m
 ·cases m
theorem ZlC (h:ZJ N w0 e O a w) {d:Int} {o:Option Operand} {n:Int} (j:UA O d o=some n):(o=none/\n=d)\/∃p k,o=some p/\a.eval p= .int k n:=by
 unfold UA at j
 split at j
 ·exact .inl ⟨rfl,(ZEI j).symm⟩
 ·rename_i p;obtain ⟨⟨k,m⟩,l,rfl⟩:=Hf.1 j;exact .inr ⟨p,k,rfl,(ZgH h l).1⟩
theorem WK (h:ZJ N w0 e O a w) {lo hi:Option Operand} {len cap:Nat} {l hh:Int} (hl:UA O 0 lo=some l) (m:UA O len hi=some hh) (r:0<=l) (t:l<=hh) (s:hh<=cap) (b:Bool):
  (Instr.sliceBounds b len cap (lo.map a.eval) (hi.map a.eval) none).run P w= .ok (l.toNat,hh.toNat,cap) w:=by
 have o:0<=hh:=WF
 rcases ZlC h hl with ⟨rfl,rfl⟩| ⟨p,k,rfl,hp⟩<;>rcases ZlC h m with ⟨rfl,rfl⟩| ⟨q,j,rfl,hq⟩
 ·simp [Instr.sliceBounds]
 ·simp [Instr.sliceBounds,hq,Instr.sliceBound,asIntOf,o,s]
 ·have:l<=(len:Int):=t;simp [Instr.sliceBounds,hp,Instr.sliceBound,asIntOf,r,this]
 ·have z:l<=((hh.toNat:Nat):Int):=by omega
  simp [Instr.sliceBounds,hp,hq,Instr.sliceBound,asIntOf,o,s,r];omega
theorem Rp.cut {es:List (List L)} {A:Option Addr} {n c:Nat} {F:List Nat} (h:Rp w (.sl es) (.slice A n c) F) {W l hh:Nat} (S:∀x∈es,x.length=W) (J:l<=hh) (M:hh<=es.length):
  ∃F',Rp w (.sl ((es.take hh).drop l)) (.slice (if c=l then A else A.map (·.add (l*W))) (hh-l) (c-l)) F'/\∀b∈F',b∈F:=by
 simp only [Rp] at h;obtain ⟨A',c',Q,h4,h5,R⟩:=h;injection Q with z B C
 subst z B C;have j:((es.take hh).drop l).length=hh-l:=by rw [HR,Hg];omega
 by_cases U:l=hh
 ·subst U;have T:(es.take l).drop l=[]:=HI WF;refine ⟨[], ?_,Ha⟩;simp only [Rp];exact ⟨_,_,by rw [j],by rw [j];omega,WF,.inl (by simp [T])⟩
 ·rcases R with ⟨rfl,_⟩| ⟨b,o,xs,Fs,rfl,X,rfl,Y,t⟩
  ·simp at M;omega
  ·have k:es=es.take l++((es.take hh).drop l++es.drop hh):=by
    rw [<-Hx]
    have:es.take l++(es.take hh).drop l=es.take hh:=by
     have r:=Hn l (es.take hh);rw [List.take_take,Hw J] at r;exact r
    rw [this,Hn]
   rw [k] at t;obtain ⟨Z,v2,F1,F2,rfl,rfl,E,G⟩:=t.split;obtain ⟨v3,v4,p,F4,rfl,rfl,I,g4⟩:=G.split
   have l1:Z.length=l*W:=by
    rw [E.len,ZT (W:=W) (λx m=>S x (HP m)),Hg,Hw WF]
   have s:=Y.right.left;rw [l1] at s;refine ⟨b::p, ?_, ?_⟩
   ·simp only [Rp];refine ⟨_,_,by rw [j],by rw [j];omega,WF,.inr ⟨b,o+l*W,v3,p, ?_,X,rfl,s,I⟩⟩;rw [if_neg WF];simp [Addr.add_lit]
   ·intro x m;rcases Hc.1 m with rfl| m
    ·simp
    ·simp [m]
theorem Zo4 (h:ZJ N w0 e O a w) {t:Nat} {p:Operand} {lo hi:Option Operand} {x:V} {s:Prop} (j:QG P O (.slice t p lo hi none)=some (x,s)) (hs:s):
  ∃u,(Instr.sliceAt t (a.eval p) (lo.map a.eval) (hi.map a.eval) none).run P w= .ok u w/\x.rel e O w u:=by
 simp only [QG] at j
 split at j
 ·rename_i st m hp;have R:=Zga m;obtain ⟨z,h2⟩:=Zk9 h hp
  split at j
  ·rename_i l Q hl k;obtain ⟨rfl,rfl⟩:=Prod.mk.inj (ZEI j);obtain ⟨U,X,s3⟩:=hs;refine ⟨.string (st.extract l.toNat Q.toNat), ?_,ZhD ?_⟩
   ·have I:=WK (P:=P) h hl k U X s3 false;simp [Instr.sliceAt,run_underlying R,z,Instr.slice,I]
   ·unfold Fit at h2 ⊢;rw [GT];omega
  ·cases j
 ·rename_i et _ _ _ es m hp;have R:=Xp m;obtain ⟨F,z,h2⟩:=ZG h hp
  split at j
  ·rename_i Z l Q E hl k;obtain ⟨rfl,rfl⟩:=Prod.mk.inj (ZEI j);obtain ⟨U,X,s3,Y⟩:=hs;have b0:=z;simp only [Rp] at b0;obtain ⟨A,c,h3,h4,h5,_⟩:=b0;rw [h3] at z;obtain ⟨F',g1,g2⟩:=z.cut (l:=l.toNat) (hh:=Q.toNat) Y WF WF;refine ⟨_, ?_,F',g1,λb I=>h2 b (g2 b I)⟩;have I:=WK (P:=P) (cap:=c) h hl k U X WF true;rw [h3];simp [Instr.sliceAt,run_underlying R,Instr.slice,I,Yr E]
  ·cases j
 ·rename_i et _ _ _ τ n m hp;have R:=Xp m
  split at j
  ·cases j
  ·split at j
   ·rename_i Z l Q A E hl k M;obtain ⟨rfl,rfl⟩:=Prod.mk.inj (ZEI j);obtain ⟨U,X,s3,Y⟩:=hs;obtain ⟨A',C,r1,_⟩:=ZG h hp;rw [M] at C;obtain rfl:=ZEI C;have S:=(r1 A rfl).2 Y;obtain ⟨T,c,r,g1,g2,_⟩:=h.Zat M;rw [Y] at r g1;have I:=WK (P:=P) (cap:=c) h hl k U X WF true;refine ⟨.slice (if c=l.toNat then T else T.map (·.add (l.toNat*Z.size))) (Q.toNat-l.toNat) (c-l.toNat), ?_,some A,M,λB hB=> ?_,_,_,rfl,WF⟩
    ·rw [S,r];simp [Instr.sliceAt,run_underlying R,Instr.slice,I,Yr E]
    ·obtain rfl:=ZEI hB;refine ⟨WF,λ_=>⟨WF,WF,T,c,_,r,λhq=> ?_,rfl⟩⟩
     split
     ·rename_i h0;have z:l.toNat=0:=by omega
      rw [z];cases T with
      | none=>rfl
      | some ad=>simp [Addr.add]
     ·rfl
   ·cases j
 ·rename_i et _ _ _ τ n G b1 W m hp;have R:=Xp m
  split at j
  ·rename_i Z l Q A E hl k M;obtain ⟨rfl,rfl⟩:=Prod.mk.inj (ZEI j);obtain ⟨U,X,s3,Y,rfl⟩:=hs;obtain ⟨A',C,r1,_⟩:=ZG h hp;rw [M] at C;obtain rfl:=ZEI C;obtain ⟨t1,t2,T,c,q,r,hq,S⟩:=(r1 A rfl).2 Y;obtain ⟨p2,c2,J,g1,g2,_⟩:=h.Zat M;rw [r] at J;injection J with _ _ J
   subst J;rw [Y] at g1;have I:=WK (P:=P) (cap:=c-G) h hl k U X WF true;refine ⟨.slice (if c-G=l.toNat then q else q.map (·.add (l.toNat*Z.size))) (Q.toNat-l.toNat) (c-G-l.toNat), ?_,some A,M,λB hB=> ?_,_,_,by rw [Nat.add_sub_add_left],WF⟩
   ·rw [S];simp [Instr.sliceAt,run_underlying R,Instr.slice,I,Yr E]
   ·obtain rfl:=ZEI hB;refine ⟨WF,λ_=>⟨WF,WF,T,c,_,r,λb2=> ?_,by rw [Nat.add_sub_add_left,Nat.sub_sub]⟩⟩;rw [hq WF]
    split
    ·rename_i h0;have z:G=0/\l.toNat=0:=by omega
     rw [z.1,z.2]
    ·cases T with
     | none=>rfl
     | some ad=>
      obtain ⟨b,o,sp⟩:=ad;simp only [Gk,ZEK,Addr.add]
      by_cases z:G*Z.size=0<;>by_cases h2:l.toNat*Z.size=0<;>simp [z,h2,HE,Gx]
  ·cases j
 ·cases j
theorem ZhL (h:ZJ N w0 e O a w):∀{k:List Operand} {vs:List V},Xs O k=some vs->vs.length=k.length/\∀(j:Nat) p q,vs[j]? =some p->(k.map a.eval)[j]? =some q->p.rel e O w q
 | [],_,hp=>by simp [Xs] at hp;subst hp;simp
 | o::k,_,hp=>by
  simp only [Xs] at hp
  split at hp
  ·rename_i v vs s l;obtain rfl:=ZEI hp;obtain ⟨m,r⟩:=ZhL h l;refine ⟨by simp [m],λj p q hj hq=> ?_⟩;cases j with
   | zero=>
    simp at hj hq;subst hj hq;exact ZG h s
   | succ j=>exact r j p q (by simpa using hj) (by simpa using hq)
  ·cases hp
theorem ZhN (h:ZJ N w0 e O a w):∀{t:List Operand} {vs:List V} {l:List Int},Xs O t=some vs->ZxB vs=some l->t.map a.eval=l.map (Value.int .i64)/\∀n∈l,InK .i64 n
 | [],_,_,hp,k=>by simp [Xs] at hp;subst hp;simp [ZxB] at k;subst k;simp
 | o::t,_,_,hp,k=>by
  simp only [Xs] at hp
  split at hp
  ·rename_i v vs G s;obtain rfl:=ZEI hp;unfold ZxB at k
   split at k
   ·rename_i j;cases j
   ·rename_i n z j;injection j with A B
    subst A B;obtain ⟨l,r,rfl⟩:=Hf.1 k;obtain ⟨C,E⟩:=ZhN h s r;obtain ⟨I,J⟩:=Zj0 h G;exact ⟨by simp [C,I],λm p=>by rcases Hc.1 p with rfl| p<;>first | exact J| exact E m p⟩
   ·cases k
  ·cases hp
theorem ZrR (h:ZJ N w0 e O a w) {p:Operand} {v:V} (hp:opd O p=some v) {n:Int} (k:ZAT v=some n) (C:∀s,v≠.one (.l (.str s))):∃A m c,a.eval p= .slice A m c/\n=(m:Int)/\InK .i64 n:=by
 have r:=ZG h hp;unfold ZAT at k
 split at k
 ·rename_i es;obtain rfl:=ZEI k;obtain ⟨F,o,z⟩:=r;simp only [Rp] at o;obtain ⟨A,c,l,B,M,_⟩:=o;exact ⟨A,_,c,l,rfl,(ZaH _).2 ⟨WF,WF⟩⟩
 ·rename_i s;exact absurd rfl (C s)
 ·rename_i E m;obtain rfl:=ZEI k;obtain ⟨A,o,z,t,c,l,B⟩:=r;exact ⟨t,m,c,l,rfl,(ZaH _).2 ⟨WF,WF⟩⟩
 ·obtain rfl:=ZEI k;exact ⟨none,0,0,r,rfl,(ZaH _).2 ⟨WF,WF⟩⟩
 ·rename_i E j W J m;obtain rfl:=ZEI k;obtain ⟨A,o,z,t,c,l,B⟩:=r;exact ⟨t,m,c,l,rfl,(ZaH _).2 ⟨WF,WF⟩⟩
 ·rename_i E n I G W;obtain rfl:=ZEI k;obtain ⟨A,o,z,t,c,l,B⟩:=r;exact ⟨t,G-I,c,l,rfl,(ZaH _).2 ⟨WF,WF⟩⟩
 ·cases k
theorem ZxI (x y:Int) (t:Array TypeId) (ty:TypeId):(Builtin.max_ t ty #[.int .i64 x,.int .i64 y]).run P w= .ok (.int .i64 (if y>x then y else x)) w:=by
 simp [Builtin.max_,Builtin.max2]
theorem ZxH (x y:Int) (t:Array TypeId) (ty:TypeId):(Builtin.min_ t ty #[.int .i64 x,.int .i64 y]).run P w= .ok (.int .i64 (if y<x then y else x)) w:=by
 simp [Builtin.min_,Builtin.min2]
theorem KU {j:Operand->Value} {o:Oper} {s:Sem Value} {u:Value} (h:execOp j o=(do pure (.value (<-s)):Sem Next)) (k:s.run P w= .ok u w):(execOp j o).run P w= .ok (.value u) w:=by
 rw [h,Sem.run_bind,k];rfl
theorem Zjz (h:ZJ N w0 e O a w) {o:Oper} {x:V} {s:Prop} (l:QG P O o.op=some (x,s)) (E:s):
  ∃u,(execOp a.eval o).run P w= .ok (.value u) w/\x.rel e O w u:=by
 have j:=l;unfold QG at l
 split at l
 ·rename_i p ho;obtain ⟨y,hy,B⟩:=Hf.1 l;obtain ⟨rfl,rfl⟩:=Prod.mk.inj B;exact ⟨_,by simp [execOp,ho],ZG h hy⟩
 ·rename_i p ho;obtain ⟨y,hy,B⟩:=Hf.1 l;obtain ⟨rfl,rfl⟩:=Prod.mk.inj B;exact ⟨_,by simp [execOp,ho],ZG h hy⟩
 ·rename_i c p q ho
  split at l
  ·rename_i b hc;have J:=ZfA h hc
   split at l
   ·rename_i u v hp hq;obtain ⟨rfl,rfl⟩:=Prod.mk.inj (ZEI l);refine ⟨.bool (bif b then u else v), ?_,Zal⟩;simp only [execOp,ho,J,asBool,Sem.run_bind,Sem.run_pure,Result.andThen_ok,ZfA h hp,ZfA h hq];cases b<;>rfl
   ·rename_i vx vy _ hp hq;obtain ⟨rfl,rfl⟩:=Prod.mk.inj (ZEI l);refine ⟨if b then a.eval p else a.eval q,by simp [execOp,ho,J,asBool], ?_⟩;cases b
    ·exact ZG h hq
    ·exact ZG h hp
   ·cases l
  ·cases l
 ·rename_i t p ho;rw [ho] at j;obtain ⟨u,r,z⟩:=ZrQ h j E;exact ⟨u,KU (by simp only [execOp,ho]) r,z⟩
 ·rename_i t p f ho;rw [ho] at j;obtain ⟨u,r,z⟩:=Zkh h j E;exact ⟨u,KU (by simp only [execOp,ho]) r,z⟩
 ·rename_i t p f ho;rw [ho] at j;obtain ⟨u,r,z⟩:=ZpN h j;exact ⟨u,KU (by simp only [execOp,ho]) r,z⟩
 ·rename_i t p i ho;rw [ho] at j;obtain ⟨u,r,z⟩:=Zj1 h j E;exact ⟨u,KU (by simp only [execOp,ho]) r,z⟩
 ·rename_i t p i ho;rw [ho] at j;obtain ⟨u,r,z⟩:=ZpA h j E;exact ⟨u,KU (by simp only [execOp,ho]) r,z⟩
 ·rename_i t i ho;rw [ho] at j;obtain ⟨u,r,z⟩:=ZmJ h j;exact ⟨u,KU (by simp only [execOp,ho]) r,z⟩
 ·rename_i p ho
  split at l
  ·rename_i k o' hp;obtain ⟨rfl,rfl⟩:=Prod.mk.inj (ZEI l);have Z:=ZG h hp;have C:=Z;obtain ⟨r,z⟩:=C;exact ⟨_,by simp only [execOp,ho,z];rfl,r,rfl⟩
  ·rename_i ls hp;obtain ⟨rfl,rfl⟩:=Prod.mk.inj (ZEI l);have Z:=ZG h hp;have C:=Z;obtain ⟨b,b3,vs,F,z,W⟩:=C;exact ⟨_,by simp only [execOp,ho,z];rfl,b,b3,vs,F,rfl,W⟩
  ·cases l
 ·rename_i op t p q t' ho;rw [ho] at j;obtain ⟨u,r,z⟩:=ZpZ h j E;exact ⟨u,KU (by simp only [execOp,ho]) r,z⟩
 ·rename_i op t p ho;rw [ho] at j;obtain ⟨u,r,z⟩:=Zry h j;exact ⟨u,KU (by simp only [execOp,ho]) r,z⟩
 ·rename_i t t' p ho;rw [ho] at j;obtain ⟨u,r,z⟩:=ZmM h j E;exact ⟨u,KU (by simp only [execOp,ho]) r,z⟩
 ·rename_i t ps ho;rw [ho] at j;obtain ⟨u,r,z⟩:=ZpY h j;exact ⟨u,KU (by simp only [execOp,ho]) r,z⟩
 ·rename_i t p lo T ho;rw [ho] at j;obtain ⟨u,r,z⟩:=Zo4 h j E;exact ⟨u,KU (by simp only [execOp,ho,Option.map_none]) r,z⟩
 ·rename_i S ts ho
  split at l
  ·rename_i p t b2 b1;have R:S= #[p]:=by rw [<-HJ];exact b2
   have Q:ts= #[t]:=by rw [<-HJ];exact b1
   subst R Q
   split at l
   ·rename_i et _ _ _ v T hp
    split at l
    ·cases l
    ·rename_i Y;obtain ⟨n,M,B⟩:=Hf.1 l;obtain ⟨rfl,rfl⟩:=Prod.mk.inj B;obtain ⟨A,m,c,r,rfl,W⟩:=ZrR h hp M (λs b0=>Y s b0);refine ⟨.int .i64 m, ?_,Vo W⟩;simp [execOp,ho,resolve,invoke,builtin,Builtin.len_,r,run_underlying (Xp T),goInt]
   ·rename_i _ _ _ st T hp;obtain ⟨rfl,rfl⟩:=Prod.mk.inj (ZEI l);obtain ⟨r,z⟩:=Zk9 h hp;refine ⟨.int .i64 st.size, ?_,Vo ((ZaH _).2 ⟨WF,by unfold Fit at z;omega⟩)⟩;simp [execOp,ho,resolve,invoke,builtin,Builtin.len_,r,run_underlying (Zga T),goInt]
   ·cases l
  ·cases l
 ·rename_i S ts ho
  split at l
  ·rename_i vs G
   split at l
   ·rename_i x y M;obtain ⟨rfl,rfl⟩:=Prod.mk.inj (ZEI l);obtain ⟨U,I⟩:=ZhN h G M;have X:S.map a.eval= #[.int .i64 x,.int .i64 y]:=by rw [<-HJ];simpa using U
    refine ⟨.int .i64 (if y>x then y else x), ?_,Vo (by split<;>first | exact I y Ha| exact I x Ha)⟩;simp [execOp,ho,resolve,invoke,builtin,X,ZxI]
   ·cases l
  ·cases l
 ·rename_i S ts ho
  split at l
  ·rename_i vs G
   split at l
   ·rename_i x y M;obtain ⟨rfl,rfl⟩:=Prod.mk.inj (ZEI l);obtain ⟨U,I⟩:=ZhN h G M;have X:S.map a.eval= #[.int .i64 x,.int .i64 y]:=by rw [<-HJ];simpa using U
    refine ⟨.int .i64 (if y<x then y else x), ?_,Vo (by split<;>first | exact I y Ha| exact I x Ha)⟩;simp [execOp,ho,resolve,invoke,builtin,X,ZxH]
   ·cases l
  ·cases l
 ·cases l
end
structure Eff where
 side:Prop
 tm:List (Nat×V)
 bx:List (Nat×List CV)
 ar:List (Nat×Option Arr)
def St.app (O:St) (f:Eff):St:=⟨O.nt,f.tm++O.tm,f.bx++O.bx,f.ar++O.ar⟩
def Zhm:V->Option (List CV)
 | .one c=>some [c]
 | .agg cs=>some cs
 | _=>none
def ZsA (O:St):CV->Option (L×Bool×List Nat×Prop)
 | .l x=>some (x,x.flat,[],True)
 | .nil=>some (.sl [],true,[],True)
 | .own j n=>match O.ar.lookup j with
  | some (some A)=>if j<1000000 then some (.sl A.es,A.fr,[j],A.es.length=n) else none
  | _=>none
 | _=>none
def Zk1 (O:St):List CV->Option (List L×Bool×List Nat×Prop)
 | []=>some ([],true,[],True)
 | c::cs=>match ZsA O c,Zk1 O cs with
  | some (x,f,l,p),some (k,g,j,q)=>some (x::k,f&&g,l++j,p/\q)
  | _,_=>none
def Zm7 (O:St):List (List CV)->Option (List (List L)×Bool×List Nat×Prop)
 | []=>some ([],true,[],True)
 | c::cs=>match Zk1 O c,Zm7 O cs with
  | some (x,f,l,p),some (k,g,j,q)=>some (x::k,f&&g,l++j,p/\q)
  | _,_=>none
section
variable {e:Env} {O:St} {w:World} {N:Nat->Prop} {w0:Bs} {a:Act} {P:Program}
theorem V.rel.cellsL {x:V} {u:Value} {cs:List CV} (h:x.rel e O w u) (hc:Zhm x=some cs):Yn e O w cs u.cells.toList:=by
 cases x with
 | one c=>
  simp only [Zhm,ZEK] at hc;subst hc;have:=CV.rel.cells h;rw [this.1];simp;exact ⟨u,[],rfl,h,rfl⟩
 | agg j=>
  simp only [Zhm,ZEK] at hc;subst hc;obtain ⟨m,rfl,k⟩:=h
  simpa [Value.cells] using k
 | tup l=>simp [Zhm] at hc
 | dead=>simp [Zhm] at hc
theorem ZJ.newObj (h:ZJ N w0 e O a w) {d:Nat} (hd:d<O.nt) (Q:O.bx.lookup d=none) {cs:List CV} {o:Obj} (R:ZmZ e O w cs (some o)) {c:CV} {v:Value} (hc:c.rel { e with β:=λk=>if k=d then w.heap.size else e.β k} ⟨O.nt,(d,.one c)::O.tm,(d,cs)::O.bx,O.ar⟩ (w.alloc o) v):
  ZJ N w0 { e with β:=λk=>if k=d then w.heap.size else e.β k} ⟨O.nt,(d,.one c)::O.tm,(d,cs)::O.bx,O.ar⟩ (a.put (some d) v) (w.alloc o):=by
 have u:Up e O w { e with β:=λk=>if k=d then w.heap.size else e.β k} ⟨O.nt,(d,.one c)::O.tm,(d,cs)::O.bx,O.ar⟩ (w.alloc o):=by
  refine ⟨Ha,λb m _=>Below.heap_alloc w _ b m,λb m M=> ?_,λk j l=> ?_,λs A C=>⟨A,C,λB E=>⟨B,E,ZEN _,λ_=>rfl⟩⟩,λs _ ⟨B,E⟩ _=>⟨rfl,λb m=>Below.heap_alloc w _ b (h.Yp (κ:=.a s) ⟨B,E⟩ b ((h.ar s B E).own m).1).1⟩⟩
  ·rcases M with J| ⟨k,j,p,t⟩| p
   ·exact .inl J
   ·simp only [lookup_cons] at p
    by_cases l:k=d
    ·simp [l] at t;omega
    ·simp only [if_neg l] at p t;exact .inr (.inl ⟨k,j,p,t⟩)
   ·exact .inr (.inr p)
  ·have r:k≠d:=λe=>by rw [e,Q] at l;cases l
   simp only [lookup_cons,if_neg r];exact ⟨⟨j,l⟩,trivial⟩
 refine h.Zqi u (λz=>z= .b d) (by rw [Z2];exact h.nt) (by rw [ZO];exact h.df)
  (ZaX (by rw [h.nt];exact hd) hc) (λk j l hK=> ?_) (λs A C _=>⟨C,rfl,rfl,λb m=>Below.heap_alloc w _ b (h.Yp (κ:=.a s) ⟨A,C⟩ b m).1⟩)
  (λk j l hK=> ?_) (λs A _ hK=>by cases hK) (λz _ hK b m=> ?_) (λz S _ _ I p t=>absurd (p.trans t.symm) I) (h.fr.alloc _) (λ_ h=>h) (λ_ h=>.inl h) (λz _ hK hd=>by subst hK;exact hd.elim) (λk j _ hK G=>by injection hK with hK;subst hK;have p:O.nt<=k:=G;omega) (λz b _ hK m=>by subst hK;simp [tpB] at m;subst m;exact h.fr.new _ h.fr.size)
 ·have r:k≠d:=λe=>hK (by rw [e]);simp only [lookup_cons,if_neg r] at l;exact ⟨l,Below.heap_alloc w _ _ (h.Yp (κ:=.b k) ⟨j,l⟩ _ (by simp [blk])).1⟩
 ·injection hK with hK
  subst hK;simp at l;subst l;simp only [if_pos];exact ⟨h.tn _ (h.fr.new _ h.fr.size),by rw [heap_alloc_new w _];exact R.up u⟩
 ·subst hK;simp [blk] at m;exact .inr (.inr WF)
theorem ZJ.Zwu (h:ZJ N w0 e O a w) {d:Nat} (hd:d<O.nt) (j:O.bx.lookup d=none) {cs:List CV} {us:Array Value} (l:Yn e O w cs us.toList) (t:Nat):
  ZJ N w0 { e with β:=λk=>if k=d then w.heap.size else e.β k} ⟨O.nt,(d,.one (.box d 0))::O.tm,(d,cs)::O.bx,O.ar⟩ (a.put (some d) (.pointer (some ⟨w.heap.size,0,none⟩))) (w.alloc (.cells us t)):=
 h.newObj hd j (.inl ⟨us,t,rfl,l⟩) ⟨⟨cs,Ha⟩,Ha⟩
theorem ZJ.Zzl (h:ZJ N w0 e O a w) {k off:Nat} {cs l:List CV} (s:O.bx.lookup k=some cs) {us:List Value} (Z:Yn e O w l us) (G:off+l.length<=cs.length) (hm:U3 cs=true):
  ∃w',(storeCells ⟨e.β k,off,none⟩ us).run P w= .ok () w'/\ZJ N w0 e ⟨O.nt,O.tm,(k,cs.take off++l++cs.drop (off+l.length))::O.bx,O.ar⟩ a w':=by
 obtain ⟨hN,o,ty,T,C⟩:=h.bxC s hm;have hl:=Z.len;have U:=C.len;have J:=run_storeCells_at P (e.β k) off ty us 0 o w T (by rw [HY] at U;omega) Z.one;rw [Gr,hl] at J;refine ⟨_,J, ?_⟩;have b1:=V6 T;have other:∀b,b≠e.β k->(w.setRow (e.β k) (o.toList.take off++us++o.toList.drop (off+l.length)).toArray).heap[b]? =w.heap[b]? :=λb p=>setRow_other w _ b _ p;have I:Mut e O (e.β k):=.inr (.inl ⟨k,cs,s,rfl⟩)
 have u:Up e O w e ⟨O.nt,O.tm,(k,cs.take off++l++cs.drop (off+l.length))::O.bx,O.ar⟩ (w.setRow (e.β k) (o.toList.take off++us++o.toList.drop (off+l.length)).toArray):=by
  refine ⟨Ha,λb p Y=>other b (λe'=>Y (e'▸I)),λb p W=> ?_,λj m hj=> ?_,λE A R=>⟨A,R,λB S=>⟨B,S,ZEN _,λ_=>rfl⟩⟩,λE _ ⟨B,S⟩ _=>⟨rfl,λb p=>other b λe'=>h.sep (.b k) (.a E) ⟨cs,s⟩ ⟨B,S⟩ Ha (e.β k) (by simp [blk]) (e'▸((h.ar E B S).own p).1)⟩⟩
  ·rcases W with h0| ⟨j,m,z,Q⟩| z
   ·exact .inl h0
   ·simp only [lookup_cons] at z
    by_cases hj:j=k
    ·subst hj;exact Q▸I
    ·simp only [if_neg hj] at z;exact .inr (.inl ⟨j,m,z,Q⟩)
   ·exact .inr (.inr z)
  ·refine ⟨?_,rfl⟩;simp only [lookup_cons]
   by_cases r:j=k
   ·simp [r]
   ·simp only [if_neg r];exact ⟨m,hj⟩
 refine h.Zqi u (λM=>M= .b k) h.nt h.df (λt v ht=>.inl ⟨ht,rfl⟩) (λj m hj hK=> ?_) (λE A R _=>⟨R,rfl,rfl,λb p=>other b (λe'=> ?_)⟩)
  (λj m hj hK=> ?_) (λE A _ hK=>by cases hK) (λM b0 hK b p=> ?_) (λM b2 _ _ X z Q=>absurd (z.trans Q.symm) X) ?_ (λ_ h=>h) (λ_ h=>.inl h) (λM _ hK hd=>by subst hK;exact hd.elim) (λj m _ hK G=>by injection hK with hK;subst hK;exact h.pn _ cs s G) (λM b _ hK p=>by subst hK;exact h.tp (.b k) b ⟨cs,s⟩ p)
 ·have r:j≠k:=λe=>hK (by rw [e]);simp only [lookup_cons,if_neg r] at hj;exact ⟨hj,other _ (λe'=>h.sep (.b j) (.b k) ⟨m,hj⟩ ⟨cs,s⟩ (by simp [r]) (e.β j) (by simp [blk]) (by simp [blk,e']))⟩
 ·exact h.sep (.b k) (.a E) ⟨cs,s⟩ ⟨A,R⟩ Ha (e.β k) (by simp [blk]) (e'▸p)
 ·injection hK with hK
  subst hK;simp only [lookup_cons,if_true] at hj;obtain rfl:=ZEI hj;refine ⟨hN,.inl ⟨_,ty,setRow_heap w _ o _ ty _ T, ?_⟩⟩;have:=((C.take off).append Z).append (C.drop (off+l.length));exact this.up u
 ·subst hK;exact .inl ⟨⟨cs,s⟩,p⟩
 ·exact ⟨h.fr.gl,h.fr.os,h.fr.tape,h.fr.output,by simpa using h.fr.size,λb p hn=>(other b (λe'=>hn (e'▸h.tp (.b k) _ ⟨cs,s⟩ rfl))).trans (h.fr.block b p hn),h.fr.new⟩
theorem ZJ.setObj (h:ZJ N w0 e O a w) {k:Nat} {cs z:List CV} (r:O.bx.lookup k=some cs) {o:Obj} (hr:ZmZ e O w z (some o)):
  ZJ N w0 e ⟨O.nt,O.tm,(k,z)::O.bx,O.ar⟩ a ({ w with heap:=w.heap.setIfInBounds (e.β k) o}:World):=by
 have Z:=(h.bx k cs r).1;have S:=(h.bx k cs r).2.some;have other:∀b,b≠e.β k->({ w with heap:=w.heap.setIfInBounds (e.β k) o}:World).heap[b]? =w.heap[b]? :=λb m=>by simp [Array.getElem?_setIfInBounds,Ne.symm m]
 have E:({ w with heap:=w.heap.setIfInBounds (e.β k) o}:World).heap[e.β k]? =some o:=by simp [S]
 have G:Mut e O (e.β k):=.inr (.inl ⟨k,cs,r,rfl⟩)
 have u:Up e O w e ⟨O.nt,O.tm,(k,z)::O.bx,O.ar⟩ ({ w with heap:=w.heap.setIfInBounds (e.β k) o}:World):=by
  refine ⟨Ha,λb m W=>other b (λe'=>W (e'▸G)),λb m T=> ?_,λj l hj=> ?_,λC A M=>⟨A,M,λB Q=>⟨B,Q,ZEN _,λ_=>rfl⟩⟩,λC _ ⟨B,Q⟩ _=>⟨rfl,λb m=>other b λe'=>h.sep (.b k) (.a C) ⟨cs,r⟩ ⟨B,Q⟩ Ha (e.β k) (by simp [blk]) (e'▸((h.ar C B Q).own m).1)⟩⟩
  ·rcases T with Y| ⟨j,l,s,J⟩| s
   ·exact .inl Y
   ·simp only [lookup_cons] at s
    by_cases hj:j=k
    ·subst hj;exact J▸G
    ·simp only [if_neg hj] at s;exact .inr (.inl ⟨j,l,s,J⟩)
   ·exact .inr (.inr s)
  ·refine ⟨?_,rfl⟩;simp only [lookup_cons]
   by_cases p:j=k
   ·simp [p]
   ·simp only [if_neg p];exact ⟨l,hj⟩
 refine h.Zqi u (λI=>I= .b k) h.nt h.df (λt v ht=>.inl ⟨ht,rfl⟩) (λj l hj hK=> ?_) (λC A M _=>⟨M,rfl,rfl,λb m=>other b (λe'=> ?_)⟩)
  (λj l hj hK=> ?_) (λC A _ hK=>by cases hK) (λI b0 hK b m=> ?_) (λI b1 _ _ U s J=>absurd (s.trans J.symm) U) ?_ (λ_ h=>h) (λ_ h=>.inl h) (λI _ hK hd=>by subst hK;exact hd.elim) (λj l _ hK R=>by injection hK with hK;subst hK;exact h.pn _ cs r R) (λI b _ hK m=>by subst hK;exact h.tp (.b k) b ⟨cs,r⟩ m)
 ·have p:j≠k:=λe=>hK (by rw [e]);simp only [lookup_cons,if_neg p] at hj;exact ⟨hj,other _ (λe'=>h.sep (.b j) (.b k) ⟨l,hj⟩ ⟨cs,r⟩ (by simp [p]) (e.β j) (by simp [blk]) (by simp [blk,e']))⟩
 ·exact h.sep (.b k) (.a C) ⟨cs,r⟩ ⟨A,M⟩ Ha (e.β k) (by simp [blk]) (e'▸m)
 ·injection hK with hK
  subst hK;simp only [lookup_cons,if_true] at hj;obtain rfl:=ZEI hj;exact ⟨Z,by rw [E];exact hr.up u⟩
 ·subst hK;exact .inl ⟨⟨cs,r⟩,m⟩
 ·exact ⟨h.fr.gl,h.fr.os,h.fr.tape,h.fr.output,by simpa using h.fr.size,λb m X=>(other b (λe'=>X (e'▸h.tp (.b k) _ ⟨cs,r⟩ rfl))).trans (h.fr.block b m X),h.fr.new⟩
end
section
variable {e:Env} {O:St} {w:World} {N:Nat->Prop} {w0:Bs} {a:Act} {P:Program}
def JQ (e:Env) (O:St) (τs:List Nat) (F:List Nat):Prop:=∀b∈F,¬Mut e O b\/∃j∈τs,(e.ρ j).ownBlock=some b
theorem JQ.append {τs j F F':List Nat} (h:JQ e O τs F) (k:JQ e O j F'):JQ e O (τs++j) (F++F'):=by
 intro b m;rcases He.1 m with m| m
 ·rcases h b m with l| ⟨p,l,o⟩
  ·exact .inl l
  ·exact .inr ⟨p,by simp [l],o⟩
 ·rcases k b m with l| ⟨p,l,o⟩
  ·exact .inl l
  ·exact .inr ⟨p,by simp [l],o⟩
theorem Zrr (h:ZJ N w0 e O a w) {c:CV} {v:Value} (I:c.rel e O w v) {x:L} {f:Bool} {τs:List Nat} {p:Prop} (j:ZsA O c=some (x,f,τs,p)) (hp:p):
  (∃F,Rp w x v F/\JQ e O τs F)/\(f=true->Ow N w x v (τs.flatMap e.φ))/\(∀τ∈τs,∃A,O.ar.lookup τ=some (some A)/\(f=true->A.fr=true)/\τ<1000000):=by
 unfold ZsA at j
 split at j
 ·simp only [ZEK,ZEL] at j;obtain ⟨rfl,rfl,rfl,rfl⟩:=j;obtain ⟨F,B,h2⟩:=I;refine ⟨⟨F,B,λb hb=>.inl (h2 b hb)⟩,λhf=> ?_,Ha⟩;exact (B.flat hf).2
 ·simp only [ZEK,ZEL] at j;obtain ⟨rfl,rfl,rfl,rfl⟩:=j;have J:=I;subst J;refine ⟨⟨[], ?_,by simp [JQ]⟩,λ_=> ?_,Ha⟩
  ·simp only [Rp];exact ⟨none,0,rfl,ZEN _,WF,.inl Ha⟩
  ·simp only [Ow];exact ⟨none,0,rfl,WF,.inl Ha⟩
 ·rename_i τ n
  split at j
  ·rename_i A m
   split at j
   rotate_left
   ·cases j
   rename_i r;simp only [ZEK,ZEL] at j;obtain ⟨rfl,rfl,rfl,rfl⟩:=j;obtain ⟨A',o,B,_⟩:=I;rw [m] at o;obtain rfl:=ZEI o;have J:=(B A rfl).2 hp;subst J;have G:=h.ar τ A m;refine ⟨?_,λhf=> ?_,λκ Q=> ?_⟩
   ·obtain ⟨Z,c,k,l,Y,E| ⟨b,vs,z,W,rfl,S,q3,T,U,X⟩⟩:=h.elems m r
    ·refine ⟨[], ?_,by simp [JQ]⟩;simp only [Rp];exact ⟨Z,c,k,l,Y,.inl (by simp [E])⟩
    ·refine ⟨b::z, ?_, ?_⟩
     ·simp only [Rp];exact ⟨_,c,k,l,Y,.inr ⟨b,0,vs,z,rfl,(h.Yp (κ:=.a τ) ⟨A,m⟩ b U).1,rfl,S,T⟩⟩
     ·intro x M;rcases Hc.1 M with rfl| M
      ·exact .inr ⟨τ,Ha,by rw [k];rfl⟩
      ·exact .inl (X x M)
   ·obtain ⟨Z,c,k,l,E| ⟨b,t,C,z,W,rfl,q1,S,q3,T,U,X,q7⟩⟩:=G
    ·obtain ⟨s,rfl,rfl,R⟩:=E;simp;exact ⟨_,_,k,l,.inl (by simp [s,R])⟩
    ·rcases q7 with ⟨s,k2,k3,R⟩| ⟨s,_⟩
     ·simp;exact ⟨_,c,k,l,.inr ⟨b,t,C,z,W,rfl,q1,S,q3,T,U,X,k2,R⟩⟩
     ·rw [hf] at s;cases s
   ·obtain rfl:=Hu.1 Q;exact ⟨A,m,λhf=>hf,r⟩
  ·cases j
 ·cases j
theorem Zjm (h:ZJ N w0 e O a w):∀{cs:List CV} {vs:List Value},Yn e O w cs vs->∀{xs:List L} {f:Bool} {τs:List Nat} {p:Prop},Zk1 O cs=some (xs,f,τs,p)->p->
  (∃F,RpL w xs vs F/\JQ e O τs F)/\(f=true->OwL N w xs vs (τs.flatMap e.φ))/\(∀τ∈τs,∃A,O.ar.lookup τ=some (some A)/\(f=true->A.fr=true)/\τ<1000000)/\xs.length=cs.length
 | [],vs,l,xs,f,τs,p,k,hp=>by
  simp only [Yn] at l;subst l;simp only [Zk1,ZEK,ZEL] at k;obtain ⟨rfl,rfl,rfl,rfl⟩:=k;exact ⟨⟨[],by simp [RpL],by simp [JQ]⟩,λ_=>by simp [OwL],Ha,rfl⟩
 | c::cs,vs,l,xs,f,τs,p,k,hp=>by
  simp only [Yn] at l;obtain ⟨v,m,rfl,J,M⟩:=l;simp only [Zk1] at k
  split at k
  ·rename_i x f1 W Y U f2 X Z t z;simp only [ZEK,ZEL] at k;obtain ⟨rfl,rfl,rfl,rfl⟩:=k;obtain ⟨⟨r,Q,R⟩,S,T⟩:=Zrr h J t hp.1;obtain ⟨⟨s,B,C⟩,E,G,I⟩:=Zjm h M z hp.2;refine ⟨⟨r++s, ?_,R.append C⟩,λhf=> ?_,λτ j=> ?_,by simp [I]⟩
   ·simp only [RpL];exact ⟨v,m,r,s,rfl,rfl,Q,B⟩
   ·simp only [ZEM] at hf;simp;exact ⟨v,m,_,_,rfl,rfl,S hf.1,E hf.2⟩
   ·rcases He.1 j with j| j
    ·obtain ⟨A,o,hf,hd⟩:=T τ j;exact ⟨A,o,λh=>hf (by simp only [ZEM] at h;exact h.1),hd⟩
    ·obtain ⟨A,o,hf,hd⟩:=G τ j;exact ⟨A,o,λh=>hf (by simp only [ZEM] at h;exact h.2),hd⟩
  ·cases k
def Zxn (e:Env) (O:St) (w:World):List (List CV)->List Value->Prop
 | [],j=>j=[]
 | c::cs,j=>∃k l,j=k++l/\Yn e O w c k/\Zxn e O w cs l
theorem Zrp (h:ZJ N w0 e O a w):∀{cs:List (List CV)} {vs:List Value},Zxn e O w cs vs->∀{xs:List (List L)} {f:Bool} {τs:List Nat} {p:Prop},Zm7 O cs=some (xs,f,τs,p)->p->
  (∃F,RpE w xs vs F/\JQ e O τs F)/\(f=true->OwE N w xs vs (τs.flatMap e.φ))/\(∀τ∈τs,∃A,O.ar.lookup τ=some (some A)/\(f=true->A.fr=true)/\τ<1000000)/\xs.map List.length=cs.map List.length
 | [],vs,l,xs,f,τs,p,k,hp=>by
  simp only [Zxn] at l;subst l;simp only [Zm7,ZEK,ZEL] at k;obtain ⟨rfl,rfl,rfl,rfl⟩:=k;exact ⟨⟨[],by simp [RpE],by simp [JQ]⟩,λ_=>by simp [OwE],Ha,rfl⟩
 | c::cs,vs,l,xs,f,τs,p,k,hp=>by
  simp only [Zxn] at l;obtain ⟨v,m,rfl,J,M⟩:=l;simp only [Zm7] at k
  split at k
  ·rename_i x f1 X Z W f2 Y p2 t z;simp only [ZEK,ZEL] at k;obtain ⟨rfl,rfl,rfl,rfl⟩:=k;obtain ⟨⟨r,Q,R⟩,S,T,U⟩:=Zjm h J t hp.1;obtain ⟨⟨s,B,C⟩,E,G,I⟩:=Zrp h M z hp.2;refine ⟨⟨r++s, ?_,R.append C⟩,λhf=> ?_,λτ j=> ?_,by simp [I,U]⟩
   ·simp only [RpE];exact ⟨v,m,r,s,rfl,rfl,Q,B⟩
   ·simp only [ZEM] at hf;simp;exact ⟨v,m,_,_,rfl,rfl,S hf.1,E hf.2⟩
   ·rcases He.1 j with j| j
    ·obtain ⟨A,o,hf,hd⟩:=T τ j;exact ⟨A,o,λh=>hf (by simp only [ZEM] at h;exact h.1),hd⟩
    ·obtain ⟨A,o,hf,hd⟩:=G τ j;exact ⟨A,o,λh=>hf (by simp only [ZEM] at h;exact h.2),hd⟩
  ·cases k
theorem Ji (h:ZJ N w0 e O a w):∀{τs:List Nat},(∀τ∈τs,∃A,O.ar.lookup τ=some (some A)/\A.fr=true)->τs.Nodup->(τs.flatMap e.φ).Nodup
 | [],_,_=>Ha
 | τ::τs,hl,J=>by
  obtain ⟨p,r⟩:=Gf.1 J;obtain ⟨A,z,hf⟩:=hl τ Ha;simp;refine HZ.2 ⟨?_,Ji h (λl j=>hl l (by simp [j])) r,λb G T m o=> ?_⟩
  ·obtain ⟨Z,c,M,U,I| ⟨b,t,C,S,W,rfl,q1,q2,q3,q4,q5,q6,R⟩⟩:=h.ar τ A z
   ·rw [I.2.2.2];exact List.nodup_nil
   ·rcases R with ⟨s,X,Q,Y⟩| ⟨s,_⟩
    ·exact Q
    ·rw [hf] at s;cases s
  ·subst o;obtain ⟨l,j,k⟩:=GH.1 m;obtain ⟨B,E,_⟩:=hl l (by simp [j]);exact h.sep (.a τ) (.a l) ⟨A,z⟩ ⟨B,E⟩ (by rintro ⟨⟩;exact p j) b G k
def ZfC (e:Env) (τ:Nat) (v:Value) (F:List Nat):Env:=⟨e.β,λj=>if j=τ then v else e.ρ j,λj=>if j=τ then F else e.φ j,e.bad⟩
def stA (O:St) (tm:List (Nat×V)) (τ:Nat) (A:Arr) (τs:List Nat):St:=⟨O.nt,tm,O.bx,(τ,some A)::(τs.map (λj=>(j,none))++O.ar)⟩
theorem Zpt (τs:List Nat) (l:List (Nat×Option Arr)) (κ:Nat):(τs.map (λκ=>(κ,(none:Option Arr)))++l).lookup κ=if κ∈τs then some none else l.lookup κ:=by
 induction τs with
 | nil=>simp
 | cons m τs k=>
  simp only [Hi,Hm,lookup_cons,k,Hc]
  by_cases j:κ=m
  ·simp [j]
  ·simp [j]
theorem VZ (tm:List (Nat×V)) (τ:Nat) (A:Arr) (τs:List Nat) (κ:Nat):(stA O tm τ A τs).ar.lookup κ=if κ=τ then some (some A) else if κ∈τs then some none else O.ar.lookup κ:=by
 simp only [stA,lookup_cons,Zpt]
theorem Zn1 {tm:List (Nat×V)} {τ:Nat} {A:Arr} {τs:List Nat} {v:Value} {F:List Nat} {b:Nat} (hm:Mut (ZfC e τ v F) (stA O tm τ A τs) b):
  v.ownBlock=some b\/(e.bad b\/(∃k cs,O.bx.lookup k=some cs/\e.β k=b)\/∃κ B,κ≠τ/\κ∉τs/\O.ar.lookup κ=some (some B)/\(e.ρ κ).ownBlock=some b):=by
 rcases hm with p| ⟨k,cs,j,l⟩| ⟨κ,B,j,l⟩
 ·exact .inr (.inl p)
 ·exact .inr (.inr (.inl ⟨k,cs,j,l⟩))
 ·rw [VZ] at j
  by_cases m:κ=τ
  ·subst m;simp only [ZfC,if_true] at l;exact .inl l
  ·rw [if_neg m] at j;simp only [ZfC,if_neg m] at l
   by_cases o:κ∈τs
   ·rw [if_pos o] at j;cases j
   ·rw [if_neg o] at j;exact .inr (.inr (.inr ⟨κ,B,m,o,j,l⟩))
theorem ZiR (h:ZJ N w0 e O a w) {tm:List (Nat×V)} {τ:Nat} {A:Arr} {τs D:List Nat} {v:Value} {F G:List Nat} (J:JQ e O τs G) (hl:∀κ∈τs,∃B,O.ar.lookup κ=some (some B)/\κ<1000000) (R:∀κ∈τs,κ∈D)
  (S:∀b∈G,b<w.heap.size) (W:∀b,v.ownBlock=some b->(∃κ A,κ∉τs/\O.ar.lookup κ=some (some A)/\(e.ρ κ).ownBlock=some b)\/w.heap.size<=b):∀b∈G,¬Mut (ZfC e τ v F) (stA O tm τ A D) b:=by
 intro b E U;have T:=S b E;rcases Zn1 U with j| j
 ·rcases W b j with ⟨p,B,s,l,I⟩| l
  ·rcases J b E with m| ⟨κ,m,r⟩
   ·exact m (.inr (.inr ⟨p,B,l,I⟩))
   ·obtain ⟨C,o,_⟩:=hl κ m;exact h.sep (.a p) (.a κ) ⟨B,l⟩ ⟨C,o⟩ (by rintro ⟨⟩;exact s m) b ((h.ar p B l).own I).1 ((h.ar κ C o).own r).1
  ·omega
 ·rcases J b E with m| ⟨κ,m,r⟩
  ·apply m;rcases j with z| ⟨k,cs,j,l⟩| ⟨κ,B,_,_,j,l⟩
   ·exact .inl z
   ·exact .inr (.inl ⟨k,cs,j,l⟩)
   ·exact .inr (.inr ⟨κ,B,j,l⟩)
  ·obtain ⟨C,o,Q⟩:=hl κ m;rcases j with z| ⟨k,cs,j,l⟩| ⟨t,B,X,M,j,l⟩
   ·have:1000000<=κ:=(h.bad.2 b z).2 (.a κ) ⟨C,o⟩ ((h.ar κ C o).own r).1;omega
   ·exact h.sep (.b k) (.a κ) ⟨cs,j⟩ ⟨C,o⟩ Ha b (by simp [blk,l]) ((h.ar κ C o).own r).1
   ·exact h.sep (.a t) (.a κ) ⟨B,j⟩ ⟨C,o⟩ (by rintro ⟨⟩;exact M (R _ m)) b ((h.ar t B j).own l).1 ((h.ar κ C o).own r).1
theorem Zkc (h:ZJ N w0 e O a w) {tm:List (Nat×V)} {τ:Nat} {A:Arr} {τs:List Nat} {v:Value} {F G:List Nat} (m:JQ e O τs G) (hl:∀κ∈τs,∃B,O.ar.lookup κ=some (some B)/\κ<1000000) (j:τ∉τs)
  (k:∀b∈G,b<w.heap.size) (o:∀b,v.ownBlock=some b->(∃A,O.ar.lookup τ=some (some A)/\(e.ρ τ).ownBlock=some b)\/w.heap.size<=b):∀b∈G,¬Mut (ZfC e τ v F) (stA O tm τ A τs) b:=
 ZiR h m hl (λ_ h=>h) k λb l=>(o b l).imp (λ⟨A,q⟩=>⟨τ,A,j,q⟩) id
theorem ZJ.Zo7 (h:ZJ N w0 e O a w) {w':World} {τ:Nat} {G:Arr} {τs:List Nat} {v':Value} {F':List Nat} {row:Option Nat} {tm:List (Nat×V)} {a':Act}
  (Y:τ<1000000) (hl:∀κ∈τs,∃B,O.ar.lookup κ=some (some B)/\κ<1000000) (b3:τ∉τs) (Q:w.grownBy w' row)
  (p:∀b,row=some b->∃κ A,(κ=τ\/κ∈τs)/\O.ar.lookup κ=some (some A)/\(e.ρ κ).ownBlock=some b)
  (S:∀A,O.ar.lookup τ=some A->∃B,A=some B/\B.es.length<=G.es.length/\(G.es.length=B.es.length->v'=e.ρ τ))
  (I:∀b,v'.ownBlock=some b->(∃κ A,O.ar.lookup κ=some (some A)/\(e.ρ κ).ownBlock=some b)\/w.heap.size<=b)
  (hF:∀b∈F',(∃A,O.ar.lookup τ=some (some A)/\b∈e.φ τ)\/(∃κ∈τs,b∈e.φ κ)\/w.heap.size<=b)
  (b1:Uf N (Mut (ZfC e τ v' F') (stA O tm τ G τs)) w' G v' F')
  (b0:a'.tmps.size=O.nt) (U:a'.defers=[])
  (b2:Up e O w (ZfC e τ v' F') (stA O tm τ G τs) w'->∀t x,tm.lookup t=some x->(O.tm.lookup t=some x/\a'.tmps.getD t undef=a.tmps.getD t undef)\/x.rel (ZfC e τ v' F') (stA O tm τ G τs) w' (a'.tmps.getD t undef)):
  ZJ N w0 (ZfC e τ v' F') (stA O tm τ G τs) a' w':=by
 have E:∀b,row=some b->Mut e O b:=λb m=>by obtain ⟨κ,A,_,j,l⟩:=p b m;exact .inr (.inr ⟨κ,A,j,l⟩)
 have low:∀κ,κ=τ\/κ∈τs->κ<1000000:=λκ s=>by
  rcases s with rfl| s
  ·exact Y
  ·obtain ⟨_,_,q⟩:=hl κ s;exact q
 have u:Up e O w (ZfC e τ v' F') (stA O tm τ G τs) w':=by
  refine ⟨Q.size,λb m X=>Q.block b m (λe=>X (E b e.symm)),λb m X=> ?_,λk cs R=>⟨⟨cs,R⟩,rfl⟩,λκ B o=> ?_,λκ s ⟨B,o⟩ _=> ?_⟩
  rotate_right
  ·have j:κ≠τ:=by omega
   refine ⟨by simp [ZfC,j],λb m=>Q.block b (h.Yp (κ:=.a κ) ⟨B,o⟩ b ((h.ar κ B o).own m).1).1 (λe'=> ?_)⟩;obtain ⟨r,A,z,J,T⟩:=p b e'.symm;have:=low r z;exact h.sep (.a κ) (.a r) ⟨B,o⟩ ⟨A,J⟩ (by rintro ⟨⟩;omega) b ((h.ar κ B o).own m).1 ((h.ar r A J).own T).1
  ·rcases Zn1 X with j| j
   ·rcases I b j with ⟨κ,B,l,J⟩| l
    ·exact .inr (.inr ⟨κ,B,l,J⟩)
    ·omega
   ·rcases j with h0| ⟨k,cs,j,l⟩| ⟨κ,B,_,_,j,l⟩
    ·exact .inl h0
    ·exact .inr (.inl ⟨k,cs,j,l⟩)
    ·exact .inr (.inr ⟨κ,B,j,l⟩)
  ·rw [VZ]
   by_cases j:κ=τ
   ·subst j;rw [if_pos rfl];obtain ⟨B',k1,z,k3⟩:=S B o;refine ⟨_,rfl,λC M=>⟨B',k1, ?_⟩⟩;obtain rfl:=ZEI M;exact ⟨z,λhn=>by simp only [ZfC,if_true];exact k3 hn⟩
   ·rw [if_neg j]
    by_cases l:κ∈τs
    ·rw [if_pos l];exact ⟨none,rfl,Ha⟩
    ·rw [if_neg l];exact ⟨B,o,λC M=>⟨C,M,ZEN _,λ_=>by simp [ZfC,j]⟩⟩
 refine h.Zqi u (λκ=>κ= .a τ) b0 U (b2 u) (λk cs R _=>⟨R, ?_⟩) (λκ B o hK=> ?_) (λk cs _ hK=>by cases hK) (λκ B o hK=> ?_) (λκ b5 hK b m=> ?_) (λκ b6 _ _ Z j l=>absurd (j.trans l.symm) Z)
  (h.fr.grown Q λb m=>by obtain ⟨κ,A,_,j,l⟩:=p b m;exact h.tp (.a κ) b ⟨A,j⟩ (.inl l)) (λ_ h=>h) (λ_ h=>.inl h) (λκ _ hK hd=>by subst hK;have:1000000<=τ:=hd;omega) (λk cs _ hK _=>by cases hK)
  (λκ b _ hK m=>by
   subst hK;rcases m with m| ⟨m,_⟩
   ·simp only [ZfC,if_true] at m;rcases I b m with ⟨κ,A,j,l⟩| j
    ·exact h.tp (.a κ) b ⟨A,j⟩ (.inl l)
    ·exact h.fr.new b (HA h.fr.size j)
   ·omega)
 ·refine Q.block _ (h.Yp (κ:=.b k) ⟨cs,R⟩ _ (by simp [blk])).1 (λe'=> ?_);obtain ⟨κ,A,_,j,l⟩:=p _ e'.symm;exact h.sep (.b k) (.a κ) ⟨cs,R⟩ ⟨A,j⟩ Ha (e.β k) (by simp [blk]) ((h.ar κ A j).own l).1
 ·have j:κ≠τ:=λe'=>hK (by rw [e']);rw [VZ,if_neg j] at o
  by_cases l:κ∈τs
  ·rw [if_pos l] at o;cases o
  ·rw [if_neg l] at o;refine ⟨o,by simp [ZfC,j],by simp [ZfC,j],λb m=>Q.block b (h.Yp (κ:=.a κ) ⟨B,o⟩ b m).1 (λe'=> ?_)⟩;obtain ⟨r,A,z,J,T⟩:=p b e'.symm;exact h.sep (.a κ) (.a r) ⟨B,o⟩ ⟨A,J⟩ (by rintro ⟨⟩;rcases z with z| z<;>first | exact j z| exact l z) b m ((h.ar r A J).own T).1
 ·injection hK with hK
  subst hK;rw [VZ,if_pos rfl] at o;obtain rfl:=ZEI (ZEI o);simp only [ZfC,if_true];exact b1
 ·subst hK;simp only [blk,ZfC,if_true] at m;rcases hF b m with ⟨A,j,l⟩| ⟨κ,j,l⟩| j
  ·exact .inl ⟨⟨A,j⟩,l⟩
  ·obtain ⟨B,o,b4⟩:=hl κ j;refine .inr (.inl ⟨.a κ,.inl ?_,⟨B,o⟩,l,λW=> ?_⟩)
   rotate_left
   ·have:1000000<=κ:=W;omega
   rintro ⟨C,M⟩;rw [VZ,if_neg (by rintro rfl;exact b3 j),if_pos j] at M;cases M
  ·exact .inr (.inr j)
theorem ZJ.Zqv (h:ZJ N w0 e O a w) {w':World} {τ:Nat} {j:Arr} {τs:List Nat} {v':Value} {F':List Nat} {row:Option Nat} {tm:List (Nat×V)} {a':Act}
  (r:τ<1000000) (hl:∀κ∈τs,∃B,O.ar.lookup κ=some (some B)/\κ<1000000) (E:τ∉τs) (I:w.grownBy w' row)
  (l:∀b,row=some b->∃A,O.ar.lookup τ=some (some A)/\(e.ρ τ).ownBlock=some b)
  (k:∀A,O.ar.lookup τ=some A->∃B,A=some B/\B.es.length<=j.es.length/\(j.es.length=B.es.length->v'=e.ρ τ))
  (m:∀b,v'.ownBlock=some b->(∃A,O.ar.lookup τ=some (some A)/\(e.ρ τ).ownBlock=some b)\/w.heap.size<=b)
  (G:∀b∈F',(∃A,O.ar.lookup τ=some (some A)/\b∈e.φ τ)\/(∃κ∈τs,b∈e.φ κ)\/w.heap.size<=b)
  (z:Uf N (Mut (ZfC e τ v' F') (stA O tm τ j τs)) w' j v' F')
  (s:a'.tmps.size=O.nt) (p:a'.defers=[])
  (C:Up e O w (ZfC e τ v' F') (stA O tm τ j τs) w'->∀t x,tm.lookup t=some x->(O.tm.lookup t=some x/\a'.tmps.getD t undef=a.tmps.getD t undef)\/x.rel (ZfC e τ v' F') (stA O tm τ j τs) w' (a'.tmps.getD t undef)):
  ZJ N w0 (ZfC e τ v' F') (stA O tm τ j τs) a' w':=
 h.Zo7 r hl E I (λb o=>(l b o).elim λA q=>⟨τ,A,.inl rfl,q⟩) k (λb o=>(m b o).imp (λ⟨A,q⟩=>⟨τ,A,q⟩) id) G z s p C
end
section
variable {e:Env} {O:St} {w:World} {N:Nat->Prop} {w0:Bs} {a:Act} {P:Program}
theorem ZJ.Zwv (h:ZJ N w0 e O a w) {d τ:Nat} (hd:d<O.nt) (J:τ<1000000) (X:O.ar.lookup τ=none) {es:List (List L)} {f:Bool} {τs:List Nat} {us:Array Value} {W:Nat} (t:Nat)
  (hr:∃F,RpE w es us.toList F/\JQ e O τs F) (ho:f=true->OwE N w es us.toList (τs.flatMap e.φ)) (hl:∀κ∈τs,∃A,O.ar.lookup κ=some (some A)/\(f=true->A.fr=true)/\κ<1000000) (R:f=true->τs.Nodup)
  (U:∀x∈es,x.length=W) (o:es.length<=9223372036854775807) (z:us.size=es.length*W):
  ZJ N w0 (ZfC e τ (.slice (some ⟨w.heap.size,0,none⟩) es.length es.length) (if f then w.heap.size::τs.flatMap e.φ else [w.heap.size])) (stA O ((d,.one (.own τ es.length))::O.tm) τ ⟨f,es⟩ τs)
   (a.put (some d) (.slice (some ⟨w.heap.size,0,none⟩) es.length es.length)) (w.alloc (.cells us t)):=by
 have G:τ∉τs:=λQ=>by obtain ⟨A,l,_⟩:=hl τ Q;rw [X] at l;cases l
 have s:∀κ∈τs,∃B,O.ar.lookup κ=some (some B)/\κ<1000000:=λκ C=>by obtain ⟨A,l,_,hd⟩:=hl κ C;exact ⟨A,l,hd⟩
 have j:∀b∈τs.flatMap e.φ,∃κ∈τs,b∈e.φ κ:=λb k=>by obtain ⟨κ,I,r⟩:=GH.1 k;exact ⟨κ,I,r⟩
 have m:us.toList.take (es.length*W)=us.toList:=Gl (by simp [z])
 have p:∀b,(Value.slice (some ⟨w.heap.size,0,none⟩) es.length es.length).ownBlock=some b->(∃A,O.ar.lookup τ=some (some A)/\(e.ρ τ).ownBlock=some b)\/w.heap.size<=b:=λb k=>by
  simp [Value.ownBlock] at k;exact .inr WF
 obtain ⟨F,T,r2⟩:=hr;have sm:∀F:List Nat,(∀b∈F,b<w.heap.size)->Sm w (w.alloc (.cells us t)) F:=λF Z=>⟨Ha,λb k=>Below.heap_alloc w _ b (Z b k)⟩
 refine h.Zqv (row:=none) J s G (World.grownBy_alloc w _ none) Ha (λA l=>by rw [X] at l;cases l) p (λb k=> ?_) ⟨_,_,rfl,o,.inr ⟨w.heap.size,t,us, ?_⟩⟩ (by rw [Z2];exact h.nt) (by rw [ZO];exact h.df)
  (λu=>ZaX (by rw [h.nt];exact hd) ⟨some ⟨f,es⟩,by rw [VZ,if_pos rfl],λB Y=> ?_,_,_,rfl,o⟩)
 ·cases f
  ·simp at k;exact .inr (.inr WF)
  ·simp only [if_true] at k;rcases Hc.1 k with rfl| k
   ·exact .inr (.inr (ZEN _))
   ·exact .inr (.inl (j b k))
 ·cases f
  ·refine ⟨F,W,rfl,h.tn _ (h.fr.new _ h.fr.size),heap_alloc_new w _,ZEN _,z,U,λM=>by (have r:es=[]:=M);simp [r],.inr ⟨rfl,rfl, ?_, ?_⟩⟩
   ·rw [m];exact T.keep (sm F T.lt)
   ·exact Zkc h r2 s G T.lt p
  ·have S:=ho rfl
   have E:∀b∈τs.flatMap e.φ,b<w.heap.size:=λb k=>by
    obtain ⟨κ,I,r⟩:=j b k;obtain ⟨A,l,_⟩:=s κ I;exact (h.Yp (κ:=.a κ) ⟨A,l⟩ b r).1
   refine ⟨τs.flatMap e.φ,W,rfl,h.tn _ (h.fr.new _ h.fr.size),heap_alloc_new w _,ZEN _,z,U,λM=>by (have r:es=[]:=M);simp [r],.inl ⟨rfl,rfl, ?_, ?_⟩⟩
   ·simp only [if_true];exact Gf.2 ⟨λQ=>by have:=E _ Q;omega,Ji h (λκ C=>by obtain ⟨A,l,hf,_⟩:=hl κ C;exact ⟨A,l,hf rfl⟩) (R rfl)⟩
   ·rw [m];exact S.keep (sm _ E)
 ·obtain rfl:=ZEI Y;exact ⟨ZEN _,λ_=>by simp [ZfC]⟩
theorem ZkP (base:Nat) (t tx ty e te:TypeId) (i:TypeInfo) (z:Value) (r bytes:Nat) (ht:P.underlying t=some (.slice e)) (hi:P.info? e=some i) (hz:i.zero=some z)
  (Q:i.size=r) (b0:i.bytes=bytes) (b3:z.cells.size=r)
  (v:Value) (n:Nat) (xs:List Value) (o:w.ownsRow base te r v n xs)
  (x:Value) (m:Nat) (l:List Value) (G:_root_.Go.Src P r tx x m l w)
  (b5:n+m<=140737488355328) (A:(n+m)*bytes<=140737488355328) (M:base<=w.heap.size):
  ∃v' w' b4,(Builtin.append_ #[t,tx] ty #[v,x]).run P w= .ok v' w'/\w'.ownsRow base b4 r v' (n+m) (xs++l)/\w.grownBy w' v.ownBlock/\
   (v'.ownBlock=v.ownBlock\/v'.ownBlock=some w.heap.size)/\(m=0->v'=v):=by
 subst Q;subst b0;have hl:=G.newsLen;have h1:=G.one;have X:n+m<=maxLen:=by simp only [maxLen];omega
 have B:(xs++l).length=(n+m)*i.size:=by rw [Hp,o.1,hl,HE]
 by_cases hm:m=0
 ·subst hm;have b2:l=[]:=HI (by simpa using hl);subst b2;refine ⟨v,w,te, ?_,by simpa using o,⟨rfl,rfl,rfl,ZEN _,λ_ _ _=>rfl⟩,.inl rfl,λ_=>rfl⟩;have U:=G.cells;rcases o.2 with ⟨rfl,rfl⟩| ⟨g,cap,cur,rfl,S,hg,Y,J,T,I⟩
  ·rcases G.kind with ⟨e',E⟩| E<;>simp [Builtin.append_,run_underlying ht,run_underlying E,sizeOf,typeInfo,hi,G.len,U]
  ·rcases G.kind with ⟨e',E⟩| E<;>simp [Builtin.append_,run_underlying ht,run_underlying E,sizeOf,typeInfo,hi,G.len,U,Y,storeCells]
 ·have grown:∀(p:Nat),p<n+m->∀(row:Option Nat),
    (w.drew.alloc (.cells ((xs++l).toArray++Builtin.zeroCells z.cells (grownCap w (n+m) p e-(n+m))) e)).ownsRow base e i.size
     (.slice (some ⟨w.heap.size,0,none⟩) (n+m) (grownCap w (n+m) p e)) (n+m) (xs++l)/\
    w.grownBy (w.drew.alloc (.cells ((xs++l).toArray++Builtin.zeroCells z.cells (grownCap w (n+m) p e-(n+m))) e)) row:=by
   intro p ho row;have b1:=grownCap_ge w (n+m) p e;have J:grownCap w (n+m) p e<=maxLen:=grownCap_le_maxLen w (n+m) p e X;refine ⟨⟨B,.inr ⟨w.heap.size,_,_,rfl,M,heap_alloc_new w.drew _,b1,J, ?_, ?_⟩⟩,⟨rfl,rfl,rfl,Ha,λk E _=>Below.heap_alloc w.drew _ k E⟩⟩
   ·simp only [Array.size_append,GI,size_zeroCells,b3,Hp,o.1,hl,<-HE]
    congr 1
    omega
   ·simp only [Array.toList_append];rw [<-B];exact Gu
  rcases o.2 with ⟨rfl,rfl⟩| ⟨g,cap,cur,rfl,S,hg,Y,J,T,I⟩
  ·have hx:xs=[]:=HI (by simpa using o.1);subst hx;have R:=run_append_grow_src (P:=P) w t tx ty e i z ht hi hz none 0 0 [] (by simp [Builtin.firstCells]) x m l G WF WF (growslice_fits WF A);have C:=grown 0 WF (Value.ownBlock (.slice none 0 0));simp only [HH,Hs] at R C ⊢;exact ⟨_,_,e,R,C.1,C.2,.inr rfl,λh=>absurd h hm⟩
  ·by_cases s:n+m<=cap
   ·have W:n*i.size+l.length<=cur.size:=by rw [hl,T,<-HE];exact Gn _ s
    have hf:=G.cells;have Z:=run_storeCells_at P g (n*i.size) te l 0 cur w hg (by simpa using W) h1;simp only [Gr] at Z
    have R:(Builtin.append_ #[t,tx] ty #[.slice (some ⟨g,0,none⟩) n cap,x]).run P w=
      .ok (.slice (some ⟨g,0,none⟩) (n+m) cap) (w.setRow g (cur.toList.take (n*i.size)++l++cur.toList.drop (n*i.size+l.length)).toArray):=by
     rcases G.kind with ⟨e',E⟩| E<;>simp [Builtin.append_,run_underlying ht,run_underlying E,sizeOf,typeInfo,hi,G.len,s,hf,Addr.add_lit,Z]
    refine ⟨_,_,te,R,⟨B,.inr ⟨g,cap,_,rfl,S,setRow_heap w g cur _ te _ hg,s,J, ?_, ?_⟩⟩,⟨rfl,rfl,rfl,Ha,λk _ E=>setRow_other w g k _ (λe=>E (by simp [Value.ownBlock,e]))⟩,.inl rfl,λh=>absurd h hm⟩
    ·simp only [GI,Hp,Hg,HR,HY];omega
    ·rw [I,<-B];exact Gu
   ·have holds:∀j u,xs[j]? =some u->w.cell? ((⟨g,0,none⟩:Addr).add j)=some u:=o.cells (g:=g) rfl;have R:=run_append_grow_src (P:=P) w t tx ty e i z ht hi hz (some ⟨g,0,none⟩) n cap xs (run_firstCells_some w.drew i.size n ⟨g,0,none⟩ n cap xs o.1 (by simpa using holds)) x m l G WF WF (growslice_fits WF A);have C:=grown cap WF (Value.ownBlock (.slice (some ⟨g,0,none⟩) n cap));exact ⟨_,_,e,R,C.1,C.2,.inr rfl,λh=>absurd h hm⟩
theorem Uf.row {M:Nat->Prop} {A:Arr} {v:Value} {F:List Nat} (h:Uf N M w A v F) {W:Nat} (U:∀x∈A.es,x.length=W):
  ∃te xs Fs,w.ownsRow 0 te W v A.es.length xs/\RpE w A.es xs Fs/\(A.fr=true->OwE N w A.es xs Fs/\Fs.Nodup/\(∀b∈Fs,b∈F)/\∀b,v.ownBlock=some b->b∉Fs)/\(A.fr=false->∀x∈Fs,¬M x)/\(A.es=[]->∀p n c,v= .slice p n c->c=0):=by
 obtain ⟨p,c,rfl,X,⟨l,rfl,rfl,rfl⟩| ⟨b,t,k,Fs,C,rfl,l,S,I,J,T,Q,s⟩⟩:=h
 ·refine ⟨0,[],[],⟨by simp [l],.inl (by simp [l])⟩,by simp [l,RpE],λ_=>⟨by simp [l,OwE],Ha,Ha,Ha⟩,Ha,λ_ p n c e=>by injection e with _ _ e;exact e.symm⟩
 ·have m:A.es≠[]->C=W:=λj=>by
   obtain ⟨x,z⟩:=List.exists_mem_of_ne_nil _ j;rw [<-T x z,U x z]
  have r:k.size=c*W:=by
   by_cases j:A.es=[]
   ·rw [J,Q j];simp
   ·rw [J,m j]
  have B:A.es.length*C=A.es.length*W:=by
   by_cases j:A.es=[]
   ·simp [j]
   ·rw [m j]
  rw [B] at s;refine ⟨t,k.toList.take (A.es.length*W),Fs,⟨?_,.inr ⟨b,c,k,rfl,Nat.zero_le _,S,I,X,r,rfl⟩⟩, ?_,λhf=> ?_,λhf=> ?_,λY p n c' e=> ?_⟩
  ·rw [Hg,HY,r];exact Hw (Gn _ I)
  ·rcases s with ⟨_,_,_,g⟩| ⟨_,_,g,_⟩
   ·exact g.rp
   ·exact g
  ·rcases s with ⟨_,E,G,R⟩| ⟨g,_⟩
   ·rw [E] at G;obtain ⟨Z,k2⟩:=Gf.1 G;refine ⟨R,k2,λx z=>by simp [E,z],λb' o=> ?_⟩;simp [Value.ownBlock] at o;subst o;exact Z
   ·rw [hf] at g;cases g
  ·rcases s with ⟨g,_⟩| ⟨_,_,_,g⟩
   ·rw [hf] at g;cases g
   ·exact g
  ·injection e with _ _ e
   rw [<-e];exact Q Y
theorem Uf.Zwt {M:Nat->Prop} {A:Arr} {v:Value} {te W:Nat} {xs:List Value} {Fs:List Nat} (h:w.ownsRow 0 te W v A.es.length xs) (C:∀b,v.ownBlock=some b->N b) (E:∀x∈A.es,x.length=W) (hc:A.es=[]->∀p n c,v= .slice p n c->c=0)
  (ho:A.fr=true->OwE N w A.es xs Fs/\Fs.Nodup/\∀b,v.ownBlock=some b->b∉Fs) (I:A.fr=false->RpE w A.es xs Fs/\∀x∈Fs,¬M x):
  Uf N M w A v (match v.ownBlock with | some b=>if A.fr then b::Fs else [b]| none=>[]):=by
 rcases h.2 with ⟨rfl,B⟩| ⟨g,k,l,rfl,R,G,s,m,o,j⟩
 ·have r:=HI B;refine ⟨none,0,by rw [B],WF,.inl ⟨r,rfl,rfl,rfl⟩⟩
 ·refine ⟨some ⟨g,0,none⟩,k,rfl,m,.inr ⟨g,te,l,Fs,W,rfl,C g rfl,G,s,o,E,λr=>hc r _ _ _ rfl, ?_⟩⟩;rw [j];cases hf:A.fr
  ·obtain ⟨t,z⟩:=I hf;exact .inr ⟨rfl,by simp [Value.ownBlock],t,z⟩
  ·obtain ⟨t,z,J⟩:=ho hf;have Q:=J g rfl;exact .inl ⟨rfl,by simp [Value.ownBlock],by simp [Value.ownBlock,Q,z],t⟩
end
section
variable {e:Env} {O:St} {w:World} {N:Nat->Prop} {w0:Bs} {a:Act} {P:Program}
structure Src (N:Nat->Prop) (e:Env) (O:St) (w:World) (v:Value) (ys:List (List L)) (W:Nat) (f:Bool) (τs:List Nat):Prop where
 ex:∃A c us Fx,v= .slice A ys.length c/\us.length=ys.length*W/\(A=none->ys.length=0)/\(∀ad,A=some ad->∀j u,us[j]? =some u->w.cell? (ad.add j)=some u)/\(∀u∈us,u.oneCell'=true)/\
  RpE w ys us Fx/\JQ e O τs Fx/\(f=true->∃G,OwE N w ys us G/\G.Nodup/\∀b∈G,∃κ∈τs,b∈e.φ κ)
 lv:∀κ∈τs,∃B,O.ar.lookup κ=some (some B)/\κ<1000000
structure ZwT (P:Program) (tx:Nat) (N:Nat->Prop) (e:Env) (O:St) (w:World) (v:Value) (ys:List (List L)) (W:Nat) (f:Bool) (τs:List Nat):Prop where
 ex:∃us Fx,_root_.Go.Src P W tx v ys.length us w/\RpE w ys us Fx/\JQ e O τs Fx/\(f=true->∃G,OwE N w ys us G/\G.Nodup/\∀b∈G,∃κ∈τs,b∈e.φ κ)
 lv:∀κ∈τs,∃B,O.ar.lookup κ=some (some B)/\κ<1000000
theorem Src.toA {v:Value} {ys:List (List L)} {W:Nat} {f:Bool} {τs:List Nat} (h:Src N e O w v ys W f τs) {tx e':Nat} (o:P.underlying tx=some (.slice e')):ZwT P tx N e O w v ys W f τs:=by
 obtain ⟨A,c,k,p,rfl,j,s,z,r,B,t,ho⟩:=h.ex;refine ⟨⟨k,p, ?_,B,t,ho⟩,h.lv⟩;cases A with
 | none=>
  have m:=s rfl;rw [m] at j;have:k=[]:=HI (by simpa using j);subst this;rw [m];exact _root_.Go.Src.ofNil w o c
 | some l=>exact _root_.Go.Src.ofSlice w o l _ c k j (z l rfl) r
def byE (s:Ma):List (List L):=s.data.toList.map λc=>[L.int .u8 c.toNat]
theorem Zyu (w:World) (l:List UInt8):RpE w (l.map λc=>[L.int .u8 c.toNat]) (l.map λb=>Value.int .u8 b.toNat) []:=by
 induction l with
 | nil=>simp [RpE]
 | cons c l j=>
  simp;refine ⟨[Value.int .u8 c.toNat],_,[],[],rfl,rfl,⟨_,[],[],[],rfl,rfl,⟨rfl,rfl, ?_⟩,rfl,rfl⟩,j⟩;have:=c.toNat_lt;unfold InK;exact IntWalk.u8_in _ ⟨WF,WF⟩
theorem Zv0 (l:List UInt8):Ue (l.map λc=>[L.int .u8 c.toNat])=true:=by
 refine Hj.2 λe j=> ?_;obtain ⟨x,_,rfl⟩:=Hd.1 j
 rfl
theorem ZwT.ofString {tx:Nat} (k:P.underlying tx=some .string) (s:Ma):ZwT P tx N e O w (.string s) (byE s) 1 true []:=by
 have j:=Zyu w s.data.toList;refine ⟨⟨_root_.Go.byteCells s,[], ?_,j,by simp [JQ],λ_=> ?_⟩,Ha⟩
 ·have:=_root_.Go.Src.ofString w k s;rw [show (byE s).length=s.size by unfold byE;simp];exact this
 ·obtain ⟨_,o⟩:=j.flat (Zv0 _);exact ⟨[],o,Ha,Ha⟩
theorem Rp.one {x:L} {v:Value} {F:List Nat} (h:Rp w x v F):v.oneCell'=true:=by
 cases x<;>simp only [Rp] at h
 ·rw [h.1];rfl
 ·rw [h.1];rfl
 ·rw [h.1];rfl
 ·obtain ⟨A,c,h,_⟩:=h;rw [h];rfl
 ·obtain ⟨⟨A,n,c,h⟩,_⟩:=h;rw [h];rfl
theorem RpL.one:∀{xs:List L} {vs:List Value} {F:List Nat},RpL w xs vs F->∀u∈vs,u.oneCell'=true
 | [],_,_,h=>by simp only [RpL] at h;simp [h.1]
 | _::_,_,_,h=>by
  simp only [RpL] at h;obtain ⟨v,m,o,p,rfl,rfl,k,l⟩:=h;intro u j;rcases Hc.1 j with rfl| j
  ·exact k.one
  ·exact RpL.one l u j
theorem RpE.one:∀{xs:List (List L)} {vs:List Value} {F:List Nat},RpE w xs vs F->∀u∈vs,u.oneCell'=true
 | [],_,_,h=>by simp only [RpE] at h;simp [h.1]
 | _::_,_,_,h=>by
  simp only [RpE] at h;obtain ⟨p,r,m,o,rfl,rfl,k,l⟩:=h;intro u j;rcases He.1 j with j| j
  ·exact k.one u j
  ·exact RpE.one l u j
theorem ZJ.Zp4 (h:ZJ N w0 e O a w) {d τ:Nat} (hd:d<O.nt) {A0:Arr} {v:Value} {own:Option Nat} {x:Value} {ys:List (List L)} {W:Nat} {f:Bool} {τs D:List Nat} {tx:Nat} (hs:ZwT P tx N e O w x ys W f τs) (e8:τ∉D) (e0:τ<1000000)
  (b5:∀A,O.ar.lookup τ=some A->A=some A0/\v=e.ρ τ)
  (r:∀κ,own=some κ->κ∉τs/\(κ=τ\/κ∈D)) (hD:∀κ∈τs,κ∈D) (c4:∀κ∈D,∃B,O.ar.lookup κ=some (some B)/\κ<1000000)
  (Q:∀b,v.ownBlock=some b->∃κ A,own=some κ/\O.ar.lookup κ=some (some A)/\(e.ρ κ).ownBlock=some b)
  (b7:∃te xs Fs,w.ownsRow 0 te W v A0.es.length xs/\RpE w A0.es xs Fs/\(A0.fr=true->OwE N w A0.es xs Fs/\Fs.Nodup/\(∀b∈Fs,∃κ A,own=some κ/\O.ar.lookup κ=some (some A)/\b∈e.φ κ)/\∀b,v.ownBlock=some b->b∉Fs)/\
   (∀x∈Fs,¬Mut e O x)/\(A0.es=[]->ys=[]->∀p n c,v= .slice p n c->c=0))
  {t ty et:Nat} {ei:TI} (ht:P.underlying t=some (.slice et)) (hi:ti P et=some ei) (e7:ei.size=W) (hz:ei.zero.length=W)
  (hW:∀z∈A0.es++ys,z.length=W) (c7:A0.es.length+ys.length<=140737488355328) (c8:(A0.es.length+ys.length)*ei.bytes<=140737488355328):
  ∃v' w' e',(Builtin.append_ #[t,tx] ty #[v,x]).run P w= .ok v' w'/\
   ZJ N w0 e' (stA O ((d,.one (.own τ (A0.es.length+ys.length)))::O.tm) τ ⟨A0.fr&&f,A0.es++ys⟩ D) (a.put (some d) v') w':=by
 obtain ⟨us,Fx,Z,b9,e4,e6⟩:=hs.ex;have g5:=Z.newsLen;have h1:=Z.one;have b4:=hs.lv;obtain ⟨j,dd,z,j1,j2,j3,j4,j5,j6,j7⟩:=VE hi;obtain ⟨te,xs,Fs,r1,r2,r3,c5,r5⟩:=b7;have c2:∀b,v.ownBlock=some b->Mut e O b:=λb l=>by obtain ⟨κ,A,_,g1,g2⟩:=Q b l;exact .inr (.inr ⟨κ,A,g1,g2⟩)
 obtain ⟨v',w',g0,b8,g1,g2,S,g4⟩:=ZkP (P:=P) (w:=w) 0 t tx ty et te j z W ei.bytes ht j1 j3 (by rw [j5,e7]) j6 (by rw [<-hz,<-j7];simp) v A0.es.length xs r1 x ys.length us Z c7 c8 (Nat.zero_le _);have m:∀b∈Fs,b<w.heap.size:=r2.lt;have U:∀b∈Fx,b<w.heap.size:=b9.lt
 have T:JQ e O τs (Fs++Fx):=by
  intro b l;rcases He.1 l with l| l
  ·exact .inl (c5 b l)
  ·exact e4 b l
 have apart:∀b κ B,v.ownBlock=some b->κ∈τs->O.ar.lookup κ=some (some B)->b∉e.φ κ:=λb κ B J k1 E l=>by
  obtain ⟨b1,A,R,C,M⟩:=Q b J;exact h.sep (.a b1) (.a κ) ⟨A,C⟩ ⟨B,E⟩ (by rintro ⟨⟩;exact (r _ R).1 k1) b ((h.ar b1 A C).own M).1 l
 have o:∀b∈Fs++Fx,v.ownBlock≠some b:=by
  intro b l J;rcases T b l with k| ⟨κ,k1,k2⟩
  ·exact k (c2 b J)
  ·obtain ⟨B,E,_⟩:=b4 κ k1;exact apart b κ B J k1 E ((h.ar κ B E).own k2).1
 have keep:∀b,b<w.heap.size->v.ownBlock≠some b->w'.heap[b]? =w.heap[b]? :=λb l J=>g2.block b l (Ne.symm J)
 have I:∀b,v'.ownBlock=some b->(∃κ A,own=some κ/\O.ar.lookup κ=some (some A)/\(e.ρ κ).ownBlock=some b)\/w.heap.size<=b:=by
  intro b l;rcases S with S| S
  ·exact .inl (Q b (S▸l))
  ·rw [l] at S;obtain rfl:=ZEI S;exact .inr (ZEN _)
 have b6:(A0.es++ys).length=A0.es.length+ys.length:=Hp
 obtain ⟨G,hG⟩:∃G:List Nat,f=true->OwE N w ys us G/\G.Nodup/\∀b∈G,∃κ∈τs,b∈e.φ κ:=by
  cases f
  ·exact ⟨[],Ha⟩
  ·obtain ⟨G,q⟩:=e6 rfl;exact ⟨G,λ_=>q⟩
 have b3:∃p n c,v'= .slice p n c/\n=A0.es.length+ys.length:=by
  rcases g1.2 with ⟨q,q'⟩| ⟨_,_,_,q,_⟩
  ·exact ⟨_,_,_,q,q'.symm⟩
  ·exact ⟨_,_,_,q,rfl⟩
 have e9:=Uf.Zwt (N:=N) (M:=Mut (ZfC e τ v' (match v'.ownBlock with | some b=>if A0.fr&&f then b::(if A0.fr&&f then Fs++G else Fs++Fx) else [b]| none=>[])) (stA O ((d,.one (.own τ (A0.es.length+ys.length)))::O.tm) τ ⟨A0.fr&&f,A0.es++ys⟩ D)) (A:=⟨A0.fr&&f,A0.es++ys⟩) (v:=v') (te:=g0) (W:=W) (xs:=xs++us) (Fs:=if A0.fr&&f then Fs++G else Fs++Fx)
  (by rw [show (Arr.mk (A0.fr&&f) (A0.es++ys)).es.length=A0.es.length+ys.length from b6];exact g1)
  (λb l=>by
   rcases I b l with ⟨κ,A,_,C,M⟩| q
   ·exact ((h.ar κ A C).own M).2.1
   ·exact h.tn b (h.fr.new b (HA h.fr.size q)))
  hW
  (λhe p n c J=>by
   have e3:A0.es++ys=[]:=he;obtain ⟨e1,e2⟩:=List.append_eq_nil_iff.1 e3;have:=g4 (by simp [e2]);exact r5 e1 e2 p n c (this▸J))
  (λhf=>by
   have s:(A0.fr&&f)=true:=hf;simp only [ZEM] at s;obtain ⟨k1,k2,k3,k4⟩:=r3 s.1;obtain ⟨C,M,q3⟩:=hG s.2;rw [if_pos (by simp [s.1,s.2])]
   have X:∀b∈G,∃κ∈τs,∃B,O.ar.lookup κ=some (some B)/\b∈e.φ κ:=λb l=>by
    obtain ⟨κ,m1,m2⟩:=q3 b l;obtain ⟨B,E,_⟩:=b4 κ m1;exact ⟨κ,m1,B,E,m2⟩
   have b2:∀b∈G,b<w.heap.size:=λb l=>by
    obtain ⟨κ,m1,B,E,m2⟩:=X b l;exact (h.Yp (κ:=.a κ) ⟨B,E⟩ b m2).1
   have Y:∀b∈G,v.ownBlock≠some b:=λb l J=>by
    obtain ⟨κ,m1,B,E,m2⟩:=X b l;exact apart b κ B J m1 E m2
   refine ⟨(k1.keep ⟨g2.size,λb l=>keep b (m b l) (o b (by simp [l]))⟩).append (C.keep ⟨g2.size,λb l=>keep b (b2 b l) (Y b l)⟩), ?_,λb l hm=> ?_⟩
   ·refine HZ.2 ⟨k2,M,λb l b' c6 c9=> ?_⟩;subst c9;obtain ⟨b1,A,R,p1,p2⟩:=k3 b l;obtain ⟨κ,m1,B,E,m2⟩:=X b c6;exact h.sep (.a b1) (.a κ) ⟨A,p1⟩ ⟨B,E⟩ (by rintro ⟨⟩;exact (r _ R).1 m1) b p2 m2
   ·rcases S with S| S
    ·rw [S] at l;rcases He.1 hm with hm| hm
     ·exact k4 b l hm
     ·exact Y b hm l
    ·rw [l] at S;obtain rfl:=ZEI S;rcases He.1 hm with hm| hm
     ·have:=m _ hm;omega
     ·have:=b2 _ hm;omega)
  (λhf=>by
   have s:(A0.fr&&f)=false:=hf;have e5:(if (A0.fr&&f)=true then Fs++G else Fs++Fx)=Fs++Fx:=by rw [if_neg (by simp [s])]
   rw [e5];refine ⟨(r2.keep ⟨g2.size,λb l=>keep b (m b l) (o b (by simp [l]))⟩).append (b9.keep ⟨g2.size,λb l=>keep b (U b l) (o b (by simp [l]))⟩), ?_⟩;exact ZiR h T b4 hD (λb l=>by rcases He.1 l with l| l<;>first | exact m b l| exact U b l) λb l=>(I b l).imp (λ⟨κ,A,R,q⟩=>⟨κ,A,(r κ R).1,q⟩) id)
 have b0:∀κ A b,own=some κ->O.ar.lookup κ=some (some A)->b∈e.φ κ->(∃A,O.ar.lookup τ=some (some A)/\b∈e.φ τ)\/(∃κ∈D,b∈e.φ κ)\/w.heap.size<=b:=λκ A b R C M=>by
  rcases (r κ R).2 with rfl| hm
  ·exact .inl ⟨A,C,M⟩
  ·exact .inr (.inl ⟨κ,hm,M⟩)
 refine ⟨v',w',_,b8,h.Zo7 (row:=v.ownBlock) e0 c4 e8 g2 (λb l=>(Q b l).elim λκ ⟨A,R,q⟩=>⟨κ,A,(r κ R).2,q⟩) (λA c3=> ?_) (λb l=>(I b l).imp (λ⟨κ,A,_,q⟩=>⟨κ,A,q⟩) id) (λb l=> ?_) e9 (by rw [Z2];exact h.nt) (by rw [ZO];exact h.df)
  (λu=>ZaX (by rw [h.nt];exact hd) ⟨some _,by rw [VZ,if_pos rfl],λB E=> ?_, ?_⟩)⟩
 ·obtain ⟨rfl,c0⟩:=b5 A c3;exact ⟨A0,rfl,Ha,λhn=>(g4 (by simpa using hn)).trans c0⟩
 ·cases J:v'.ownBlock with
  | none=>rw [J] at l;simp at l
  | some b'=>
   rw [J] at l
   have c1:b=b'->(∃A,O.ar.lookup τ=some (some A)/\b∈e.φ τ)\/(∃κ∈D,b∈e.φ κ)\/w.heap.size<=b:=by
    rintro rfl;rcases I b J with ⟨κ,A,R,C,M⟩| q
    ·exact b0 κ A b R C ((h.ar κ A C).own M).1
    ·exact .inr (.inr q)
   cases hf:A0.fr&&f
   ·simp only [hf,ZEO,if_false,Hu] at l;exact c1 l
   ·simp only [hf,if_true] at l;simp only [ZEM] at hf;rcases Hc.1 l with l| l
    ·exact c1 l
    ·rcases He.1 l with l| l
     ·obtain ⟨κ,A,R,C,M⟩:=(r3 hf.1).2.2.1 b l;exact b0 κ A b R C M
     ·obtain ⟨κ,m1,m2⟩:=(hG hf.2).2.2 b l;exact .inr (.inl ⟨κ,hD κ m1,m2⟩)
 ·obtain rfl:=ZEI E;exact ⟨Ha,λ_=>by simp [ZfC]⟩
 ·obtain ⟨p,n,c,C,M⟩:=b3;exact ⟨p,c,by rw [C,M],WF⟩
theorem ZJ.Zrm (h:ZJ N w0 e O a w) {d τ:Nat} (hd:d<O.nt) {A0:Arr} {v:Value}
  (k:(O.ar.lookup τ=some (some A0)/\v=e.ρ τ)\/(O.ar.lookup τ=none/\v= .slice none 0 0/\A0=⟨true,[]⟩)) {x:Value} {ys:List (List L)} {W:Nat} {f:Bool} {τs:List Nat} {tx:Nat} (G:ZwT P tx N e O w x ys W f τs) (r:τ∉τs) (m:τ<1000000)
  {t ty S:Nat} {E:TI} (T:P.underlying t=some (.slice S)) (hi:ti P S=some E) (C:E.size=W) (I:E.zero.length=W)
  (J:∀z∈A0.es++ys,z.length=W) (s:A0.es.length+ys.length<=140737488355328) (B:(A0.es.length+ys.length)*E.bytes<=140737488355328):
  ∃v' w' e',(Builtin.append_ #[t,tx] ty #[v,x]).run P w= .ok v' w'/\
   ZJ N w0 e' (stA O ((d,.one (.own τ (A0.es.length+ys.length)))::O.tm) τ ⟨A0.fr&&f,A0.es++ys⟩ τs) (a.put (some d) v') w':=by
 have M:∀z∈A0.es,z.length=W:=λz I=>J z (by simp [I]);rcases k with ⟨k,rfl⟩| ⟨k,rfl,rfl⟩
 ·obtain ⟨te,xs,Fs,r1,r2,Y,r4,r5⟩:=(h.ar τ A0 k).row M
  refine h.Zp4 hd G r m (λA j=>by rw [k] at j;exact ⟨(ZEI j).symm,rfl⟩) (λκ o=>by obtain rfl:=ZEI o;exact ⟨r,.inl rfl⟩) (λ_ h=>h) G.lv
   (λb l=>⟨τ,A0,rfl,k,l⟩) ⟨te,xs,Fs,r1,r2,λhf=> ?_,λb l=> ?_,λZ _=>r5 Z⟩ T hi C I J s B
  ·obtain ⟨U,X,Q,R⟩:=Y hf;exact ⟨U,X,λb l=>⟨τ,A0,rfl,k,Q b l⟩,R⟩
  ·cases hf:A0.fr
   ·exact r4 hf b l
   ·obtain ⟨U,X,Q,R⟩:=Y hf;exact h.inner k m (Q b l) (λe'=>R b e' l)
 ·exact h.Zp4 hd (own:=none) G r m (λA j=>by rw [k] at j;cases j) (λκ o=>by cases o) (λ_ h=>h) G.lv
   (λb l=>by simp [Value.ownBlock] at l) ⟨0,[],[],⟨Ha,.inl Ha⟩,by simp [RpE],λ_=>by simp [OwE],Ha,λ_ _ p n c e'=>by injection e' with _ _ e';exact e'.symm⟩ T hi C I J s B
theorem ZJ.Zsj (h:ZJ N w0 e O a w) {d τ l n m W2:Nat} (hd:d<O.nt) {A:Arr} {v:Value} (I:O.ar.lookup τ=some (some A)) (hv:(CV.vw τ n 0 m W2).rel e O w v) (hn:A.es.length=n) (h2:O.ar.lookup l=none) (E:τ<1000000)
  {x:Value} {ys:List (List L)} {W:Nat} {f:Bool} {τs:List Nat} {tx:Nat} (hs:ZwT P tx N e O w x ys W f τs) (c2:τ∉τs) (b8:l<1000000) (Z:0<ys.length)
  {t ty et:Nat} {ei:TI} (ht:P.underlying t=some (.slice et)) (hi:ti P et=some ei) (c0:ei.size=W) (hz:ei.zero.length=W)
  (J:∀z∈A.es,z.length=W) (b3:∀z∈ys,z.length=W) (b5:m+ys.length<=140737488355328) (b6:(m+ys.length)*ei.bytes<=140737488355328):
  ∃v' w' e',(Builtin.append_ #[t,tx] ty #[v,x]).run P w= .ok v' w'/\
   ZJ N w0 e' (stA O ((d,.one (.own l (m+ys.length)))::O.tm) l ⟨A.fr&&f,A.es.take m++ys⟩ (τ::τs)) (a.put (some d) v') w':=by
 obtain ⟨A',S,hr,_⟩:=hv;rw [I] at S;obtain rfl:=ZEI S;obtain ⟨_,hm,p,c,q,b0,hq,rfl⟩:=(hr A rfl).2 hn;have M:m<=A.es.length:=WF
 have hp:q=p:=by
  rw [hq (.inr rfl)];cases p with
  | none=>rfl
  | some ad=>simp [Addr.add]
 rw [hp,Nat.sub_zero,Nat.sub_zero];have r:(A.es.take m).length=m:=by rw [Hg,Hw M]
 obtain ⟨te,xs,Fs,r1,r2,r3,r4,r5⟩:=(h.ar τ A I).row J;have b9:l≠τ:=λG=>by rw [G,I] at h2;cases h2
 have b7:l∉τs:=λhm=>by obtain ⟨B,T,_⟩:=hs.lv _ hm;rw [h2] at T;cases T
 have b2:∀b∈Fs,¬Mut e O b:=λb j=>by
  cases hf:A.fr
  ·exact r4 hf b j
  ·obtain ⟨k1,k2,k3,k4⟩:=r3 hf;exact h.inner I E (k3 b j) (λe'=>k4 b e' j)
 have U:=(Hn m A.es).symm;rw [b0] at r1 r3 r5;have c1:=r1.1
 have b1:w.ownsRow 0 te W (.slice p m c) (A.es.take m).length (xs.take (m*W)):=by
  rw [r];refine ⟨by rw [Hg,c1];exact Hw (Gn _ M), ?_⟩;rcases r1.2 with ⟨s,R⟩| ⟨g,cap,cur,s,R,q3,q4,q5,q6,q7⟩
  ·injection s with s q8 q9
   have:m=0:=WF
   subst s q9;exact .inl ⟨by rw [this],this⟩
  ·injection s with s q8 q9
   subst s q9;refine .inr ⟨g,c,cur,rfl,R,q3,WF,q5,q6, ?_⟩;rw [<-q7,List.take_take,Hw (Gn _ M)]
 have C:∀{u1 u2:List Value},xs=u1++u2->u1.length=m*W->xs.take (m*W)=u1:=λG e2=>by rw [G,<-e2,Gu]
 have Y:width (A.es.take m)=m*W:=by rw [ZT λz hz=>J z (HP hz),r]
 have X:∃o,RpE w (A.es.take m) (xs.take (m*W)) o/\(∀b∈o,b∈Fs)/\(A.fr=true->OwE N w (A.es.take m) (xs.take (m*W)) o/\o.Nodup):=by
  cases hf:A.fr
  ·rw [U] at r2;obtain ⟨u1,u2,F1,F2,G,rfl,Q,g2⟩:=r2.split;rw [C G (by rw [Q.len,Y])];exact ⟨F1,Q,λb j=>by simp [j],Ha⟩
  ·obtain ⟨k1,k2,k3,k4⟩:=r3 hf;rw [U] at k1;obtain ⟨u1,u2,F1,F2,G,rfl,Q,g2⟩:=k1.split;rw [C G (by rw [Q.len,Y])];exact ⟨F1,Q.rp,λb j=>by simp [j],λ_=>⟨Q,(HZ.1 k2).1⟩⟩
 obtain ⟨o,s,R,q3⟩:=X
 have:=h.Zp4 (P:=P) hd (τ:=l) (A0:=⟨A.fr,A.es.take m⟩) (v:=.slice p m c) (own:=some τ) (D:=τ::τs) (ty:=ty) hs (by simp [b9,b7]) b8 (λB T=>by rw [h2] at T;cases T)
  (λκ k=>by obtain rfl:=ZEI k;exact ⟨c2,.inr Ha⟩) (λκ k=>by simp [k])
  (λκ k=>by rcases Hc.1 k with rfl| k;exact ⟨A,I,E⟩;exact hs.lv κ k)
  (λb j=>⟨τ,A,rfl,I,by rw [b0];cases p with | none=>simp [Value.ownBlock] at j| some ad=>exact j⟩)
  ⟨te,_,o,b1,s,λhf=>⟨(q3 hf).1,(q3 hf).2,λb j=>⟨τ,A,rfl,I,(r3 hf).2.2.1 b (R b j)⟩,λb j b4=>(r3 hf).2.2.2 b (by cases p with | none=>simp [Value.ownBlock] at j| some ad=>exact j) (R b b4)⟩,λb j=>b2 b (R b j),λ_ e2=>by rw [e2] at Z;simp at Z⟩
  ht hi c0 hz (λz hz=>by rcases He.1 hz with q| q;exact J z (HP q);exact b3 z q) (by simp only [r];exact b5) (by simp only [r];exact b6)
 simp only [r] at this;exact this
end
section
variable {e:Env} {O:St} {w:World} {N:Nat->Prop} {w0:Bs} {a:Act} {P:Program}
theorem ZoX {cur:List Value} {n k:Nat} {us:List Value} (h:k+us.length<=n) (l:n<=cur.length):(cur.take k++us++cur.drop (k+us.length)).take n=(cur.take n).take k++us++(cur.take n).drop (k+us.length):=by
 have j:(cur.take k++us).length=k+us.length:=by simp;omega
 rw [List.take_append,j,Gl (by rw [j];exact h),List.take_take,Hw WF,List.drop_take]
theorem ZJ.inPlace (h:ZJ N w0 e O a w) {τ:Nat} {A:Arr} (s:O.ar.lookup τ=some (some A)) {W:Nat} (hW:∀z∈A.es,z.length=W) {g:Nat} (p:(e.ρ τ).ownBlock=some g)
  {es':List (List L)} {f:Bool} {τs:List Nat} {k:Nat} {us:List Value} (hl:∀κ∈τs,∃B,O.ar.lookup κ=some (some B)/\κ<1000000) (C:τ∉τs) (Z:τ<1000000) (o:es'.length=A.es.length) (b6:∀z∈es',z.length=W) (hk:k+us.length<=A.es.length*W) (h1:∀u∈us,u.oneCell'=true)
  (hR:∀xs Fs,RpE w A.es xs Fs->(∀b∈Fs,¬Mut e O b)->xs.length=A.es.length*W->∃F,RpE w es' (xs.take k++us++xs.drop (k+us.length)) F/\JQ e O τs F)
  (hO:A.fr=true->f=true->∀xs Fs,OwE N w A.es xs Fs->Fs.Nodup->(∀b∈Fs,b∈e.φ τ)->xs.length=A.es.length*W->∃F,OwE N w es' (xs.take k++us++xs.drop (k+us.length)) F/\F.Nodup/\∀b∈F,b∈Fs\/∃κ∈τs,b∈e.φ κ)
  {tm:List (Nat×V)} {a':Act} (c2:a'.tmps.size=O.nt) (b9:a'.defers=[])
  (c5:∀t x,tm.lookup t=some x->(O.tm.lookup t=some x/\a'.tmps.getD t undef=a.tmps.getD t undef)\/∃k n,x= .one (.l (.int k n))/\InK k n/\a'.tmps.getD t undef= .int k n):
  ∃w' e',(storeCells ⟨g,k,none⟩ us).run P w= .ok () w'/\ZJ N w0 e' (stA O tm τ ⟨A.fr&&f,es'⟩ τs) a' w':=by
 have r:=h.ar τ A s;obtain ⟨te,xs,Fs,r1,r2,r3,r4,r5⟩:=r.row hW;have T:Mut e O g:=.inr (.inr ⟨τ,A,s,p⟩)
 have b5:∀b∈Fs,¬Mut e O b:=by
  intro b j;cases hf:A.fr
  ·exact r4 hf b j
  ·obtain ⟨k1,k2,k3,k4⟩:=r3 hf;exact h.inner s Z (k3 b j) (λe'=>k4 b e' j)
 have b3:xs.length=A.es.length*W:=r1.1;rcases r1.2 with ⟨S,_⟩| ⟨m,J,l,S,_,hh,b0,b8,Y,Q⟩
 ·rw [S] at p;simp [Value.ownBlock] at p
 ·rw [S] at p;simp [Value.ownBlock] at p;subst p;have M:A.es.length*W<=l.toList.length:=by rw [HY,Y];exact Gn _ b0
  have b2:=run_storeCells_at P m k te us 0 l w hh (by rw [HY] at M;omega) h1;rw [Gr] at b2;have other:∀b,b≠m->(w.setRow m (l.toList.take k++us++l.toList.drop (k+us.length)).toArray).heap[b]? =w.heap[b]? :=λb j=>setRow_other w _ b _ j;have c1:w.grownBy (w.setRow m (l.toList.take k++us++l.toList.drop (k+us.length)).toArray) (some m):=⟨rfl,rfl,rfl,Ha,λb _ j=>other b (λe'=>j (by rw [e']))⟩;have p:(e.ρ τ).ownBlock=some m:=by rw [S];rfl
  obtain ⟨F1,p1,p2⟩:=hR xs Fs r2 b5 b3
  have b4:∀b∈F1,b≠m:=by
   intro b j b7;subst b7;rcases p2 b j with q| ⟨κ,E,R⟩
   ·exact q T
   ·obtain ⟨B,hB,_⟩:=hl κ E;exact h.sep (.a τ) (.a κ) ⟨A,s⟩ ⟨B,hB⟩ (by rintro ⟨⟩;exact C E) b (r.own p).1 ((h.ar κ B hB).own R).1
  have b1:(l.toList.take k++us++l.toList.drop (k+us.length)).take (es'.length*W)=xs.take k++us++xs.drop (k+us.length):=by
   rw [o,ZoX hk M,Q]
  have I:∀b,(e.ρ τ).ownBlock=some b->(∃A,O.ar.lookup τ=some (some A)/\(e.ρ τ).ownBlock=some b)\/w.heap.size<=b:=λb j=>.inl ⟨A,s,j⟩
  have c3:(l.toList.take k++us++l.toList.drop (k+us.length)).toArray.size=J*W:=by
   rw [<-Y,GI,Hp,Hp,Hg,HR];rw [HY] at M ⊢;omega
  have c0:es'=[]->J=0:=λhe=>by
   have:A.es=[]:=HI (by rw [<-o,he];rfl);exact r5 this _ _ _ S
  obtain ⟨G,hG⟩:∃G:List Nat,(A.fr&&f)=true->OwE N w es' (xs.take k++us++xs.drop (k+us.length)) G/\G.Nodup/\∀b∈G,(b∈e.φ τ/\b≠m)\/∃κ∈τs,b∈e.φ κ:=by
   cases hf:A.fr&&f
   ·exact ⟨[],Ha⟩
   ·simp only [ZEM] at hf;obtain ⟨k1,k2,k3,k4⟩:=r3 hf.1;obtain ⟨G,E,R,q3⟩:=hO hf.1 hf.2 xs Fs k1 k2 k3 b3;refine ⟨G,λ_=>⟨E,R,λb j=> ?_⟩⟩;rcases q3 b j with q| q
    ·exact .inl ⟨k3 b q,λe'=>k4 m p (e'▸q)⟩
    ·exact .inr q
  have X:(A.fr&&f)=true->∀b∈G,b≠m:=by
   intro hf b j;rcases (hG hf).2.2 b j with ⟨_,q⟩| ⟨κ,E,R⟩
   ·exact q
   ·rintro rfl;obtain ⟨B,hB,_⟩:=hl κ E;exact h.sep (.a τ) (.a κ) ⟨A,s⟩ ⟨B,hB⟩ (by rintro ⟨⟩;exact C E) b (r.own p).1 R
  refine ⟨_,_,b2,h.Zqv (row:=some m) (v':=e.ρ τ) (F':=if A.fr&&f then m::G else [m]) Z hl C c1 (λb j=>⟨A,s,by rw [<-j];exact p⟩) (λA' U=> ?_) I (λb j=> ?_) ⟨some ⟨m,0,none⟩,J,by rw [S,o],b8,.inr ⟨m,te,_,if A.fr&&f then G else F1,W,rfl,(r.own p).2.1,setRow_heap w m l _ te _ hh,by rw [o];exact b0,c3,b6,c0, ?_⟩⟩ c2 b9 (λu t x ht=> ?_)⟩
  ·rw [s] at U;obtain rfl:=ZEI U;exact ⟨A,rfl,by rw [o];exact ZEN _,λ_=>rfl⟩
  ·cases hf:A.fr&&f
   ·simp only [hf,ZEO,if_false,Hu] at j;subst j;exact .inl ⟨A,s,(r.own p).1⟩
   ·simp only [hf,if_true] at j;rcases Hc.1 j with rfl| j
    ·exact .inl ⟨A,s,(r.own p).1⟩
    ·rcases (hG hf).2.2 b j with ⟨q,_⟩| q
     ·exact .inl ⟨A,s,q⟩
     ·exact .inr (.inl q)
  ·have c4:List.take ((Arr.mk (A.fr&&f) es').es.length*W) (l.toList.take k++us++l.toList.drop (k+us.length)).toArray.toList=xs.take k++us++xs.drop (k+us.length):=b1;rw [c4];cases hf:A.fr&&f
   ·refine .inr ⟨rfl,Ha, ?_, ?_⟩
    ·simp only [ZEO,if_false];exact p1.keep ⟨Ha,λb j=>other b (b4 b j)⟩
    ·simp only [ZEO,if_false];have:=Zkc h (tm:=tm) (A:=⟨false,es'⟩) (F:=[m]) p2 hl C p1.lt I;exact this
   ·refine .inl ⟨rfl,Ha, ?_, ?_⟩
    ·simp only [if_true];exact Gf.2 ⟨λhm=>X hf m hm rfl,(hG hf).2.1⟩
    ·simp only [if_true];exact (hG hf).1.keep ⟨Ha,λb j=>other b (X hf b j)⟩
  ·rcases c5 t x ht with q| ⟨k',n,rfl,E,R⟩
   ·exact .inl q
   ·rw [R];exact .inr (Vo E)
theorem OwL.split {N:Nat->Prop} {w:World}:∀{xs ys:List L} {vs:List Value} {F:List Nat},OwL N w (xs++ys) vs F->∃m o j k,vs=m++o/\F=j++k/\OwL N w xs m j/\OwL N w ys o k
 | [],_,vs,F,h=>⟨[],vs,[],F,rfl,rfl,⟨rfl,rfl⟩,h⟩
 | x::xs,ys,vs,F,h=>by
  simp only [Hm,OwL] at h;obtain ⟨v,C,j,k,rfl,rfl,s,t⟩:=h;obtain ⟨p,B,l,r,rfl,rfl,z,A⟩:=OwL.split t;refine ⟨v::p,B,j++l,r,rfl,by rw [Hx], ?_,A⟩;simp only [OwL];exact ⟨v,p,j,l,rfl,rfl,s,z⟩
def setAt (es:List (List L)) (j off:Nat) (k:List L):List (List L):=es.set j (((es[j]?).getD []).take off++k++((es[j]?).getD []).drop (off+k.length))
theorem Zq0 {es:List (List L)} {j:Nat} {el:List L} (h:es[j]? =some el):es=es.take j++el::es.drop (j+1):=by
 obtain ⟨k,rfl⟩:=Hh.1 h;rw [List.getElem_cons_drop,Hn]
theorem Zo6 {es:List (List L)} {j off:Nat} {l el:List L} (h:es[j]? =some el):setAt es j off l=es.take j++(el.take off++(l++el.drop (off+l.length)))::es.drop (j+1):=by
 obtain ⟨k,rfl⟩:=Hh.1 h;unfold setAt;rw [h,GY,if_pos k];simp
theorem Zq1 (el:List L) (off n:Nat):el=el.take off++((el.drop off).take n++el.drop (off+n)):=by
 rw [<-GB,Hn,Hn]
theorem ZJ.Zzk (h:ZJ N w0 e O a w) {τ:Nat} {A:Arr} (hA:O.ar.lookup τ=some (some A)) {j off:Nat} {el:List L} (Q:A.es[j]? =some el) {b:Nat} (hb:(e.ρ τ).ownBlock=some b)
  {cs:List CV} {us:List Value} (hr:Yn e O w cs us) {R:List L} {f:Bool} {τs:List Nat} {p:Prop} (ha:Zk1 O cs=some (R,f,τs,p)) (hp:p) (b4:τ∉τs) (b1:τ<1000000) (b8:f=true->τs.Nodup) (c5:off+R.length<=el.length):
  ∃w' e',(storeCells ⟨b,j*el.length+off,none⟩ us).run P w= .ok () w'/\ZJ N w0 e' (stA O O.tm τ ⟨A.fr&&f,setAt A.es j off R⟩ τs) a w':=by
 obtain ⟨⟨Fx,k1,k2⟩,k3,k4,k5⟩:=Zjm h hr ha hp;have U:=(Hh.1 Q).1;have Y:us.length=R.length:=by rw [hr.len,k5]
 obtain ⟨p',c,c6,_,_,hc| ⟨b',vs,Fs,W,q1,q2,q3,q4,q5,q6⟩⟩:=h.elems hA b1
 ·rw [hc] at U;simp at U
 ·have hW:=q3 el (Gg Q);have c4:j*W+W<=A.es.length*W:=by rw [<-Nat.succ_mul];exact Gn _ U
  have X:setAt A.es j off R=A.es.take j++(el.take off++(R++el.drop (off+R.length)))::A.es.drop (j+1):=Zo6 Q
  have C:∀{m l o G r:List Value},m.length=j*W->l.length=off->o.length=us.length->
    (m++((l++(o++G))++r)).take (j*el.length+off)++us++(m++((l++(o++G))++r)).drop (j*el.length+off+us.length)=m++((l++(us++G))++r):=by
   intro m l o G r e1 e2 e3;rw [hW];have t1:(m++((l++(o++G))++r))=(m++l)++(o++(G++r)):=Ha
   have t2:(m++((l++(o++G))++r))=((m++l)++o)++(G++r):=Ha
   have l1:(m++l).length=j*W+off:=by simp [e1,e2]
   have l2:((m++l)++o).length=j*W+off+us.length:=by simp [e1,e2,e3];omega
   rw [show (m++((l++(o++G))++r)).take (j*W+off)=m++l from by rw [t1,<-l1,Gu]];rw [show (m++((l++(o++G))++r)).drop (j*W+off+us.length)=G++r from by rw [t2,<-l2,GG]];simp
  refine h.inPlace hA q3 hb (λS b0=>by obtain ⟨B,hB,_,hd⟩:=k4 S b0;exact ⟨B,hB,hd⟩) b4 b1 (by unfold setAt;simp) ?_ (by rw [Y,hW];omega) hr.one ?_ ?_ h.nt h.df (λt x ht=>.inl ⟨ht,rfl⟩)
  ·intro z Z;rw [X] at Z;simp only [He,Hc] at Z;rcases Z with Z| rfl| Z
   ·exact q3 z (HP Z)
   ·simp only [Hp,Hg,HR];omega
   ·exact q3 z (GJ Z)
  ·intro xs b5 k s c0;rw [Zq0 Q] at k;obtain ⟨m,v2,I,F2,rfl,rfl,g1,g2⟩:=k.split;simp only [RpE] at g2;obtain ⟨v3,r,F3,E,rfl,rfl,g3,g4⟩:=g2;rw [Zq1 el off R.length] at g3;obtain ⟨l,c2,J,b6,rfl,rfl,m1,m2⟩:=g3.split;obtain ⟨o,G,G2,M,rfl,rfl,m3,m4⟩:=m2.split;have e1:m.length=j*W:=by rw [g1.len,ZT (λx k=>q3 x (HP k)),Hg,Hw WF]
   have e2:l.length=off:=by rw [m1.len,Hg];omega
   have e3:o.length=us.length:=by rw [m3.len,Hg,HR,Y];omega
   rw [C e1 e2 e3,X];refine ⟨I++((J++(Fx++M))++E),g1.append ?_, ?_⟩
   ·simp only [RpE];exact ⟨_,r,_,E,rfl,rfl,m1.append (k1.append m4),g4⟩
   ·intro x k;simp only [He] at k;rcases k with k| (k| k| k)| k
    ·exact .inl (s x (by simp [k]))
    ·exact .inl (s x (by simp [k]))
    ·exact k2 x k
    ·exact .inl (s x (by simp [k]))
    ·exact .inl (s x (by simp [k]))
  ·intro c3 T xs b5 k b2 b3 c0;rw [Zq0 Q] at k;obtain ⟨m,v2,I,F2,rfl,rfl,g1,g2⟩:=k.split;simp only [OwE] at g2;obtain ⟨v3,r,F3,E,rfl,rfl,g3,g4⟩:=g2;rw [Zq1 el off R.length] at g3;obtain ⟨l,c2,J,b6,rfl,rfl,m1,m2⟩:=g3.split;obtain ⟨o,G,G2,M,rfl,rfl,m3,m4⟩:=m2.split;have e1:m.length=j*W:=by rw [g1.len,ZT (λx k=>q3 x (HP k)),Hg,Hw WF]
   have e2:l.length=off:=by rw [m1.len,Hg];omega
   have e3:o.length=us.length:=by rw [m3.len,Hg,HR,Y];omega
   rw [C e1 e2 e3,X];have gn:=Ji h (λS b0=>by obtain ⟨B,hB,hf,_⟩:=k4 S b0;exact ⟨B,hB,hf T⟩) (b8 T);refine ⟨I++((J++(τs.flatMap e.φ++M))++E),g1.append ?_, ?_, ?_⟩
   ·simp only [OwE];exact ⟨_,r,_,E,rfl,rfl,m1.append ((k3 T).append m4),g4⟩
   ·have hs:List.Sublist (I++((J++M)++E)) (I++((J++(G2++M))++E)):=
     List.Sublist.append (List.Sublist.refl _) (List.Sublist.append (List.Sublist.append (List.Sublist.refl _) (List.sublist_append_right _ _)) (List.Sublist.refl _))
    have b7:=b2.sublist hs
    have b9:(I++((J++(τs.flatMap e.φ++M))++E)).Perm (τs.flatMap e.φ++(I++((J++M)++E))):=by
     have t1:(I++((J++(τs.flatMap e.φ++M))++E))=(I++J)++(τs.flatMap e.φ++(M++E)):=Ha
     have t2:(I++((J++M)++E))=(I++J)++(M++E):=Ha
     rw [t1,t2];exact List.perm_append_comm_assoc _ _ _
    rw [b9.nodup_iff];refine HZ.2 ⟨gn,b7,λx k y hy c1=> ?_⟩;subst c1;obtain ⟨S,n1,n2⟩:=GH.1 k;obtain ⟨B,hB,_⟩:=k4 S n1;exact h.sep (.a S) (.a τ) ⟨B,hB⟩ ⟨A,hA⟩ (by rintro ⟨⟩;exact b4 n1) x n2 (b3 x (hs.subset hy))
   ·intro x k;simp only [He] at k;rcases k with k| (k| k| k)| k
    ·exact .inl (by simp [k])
    ·exact .inl (by simp [k])
    ·obtain ⟨S,n1,n2⟩:=GH.1 k;exact .inr ⟨S,n1,n2⟩
    ·exact .inl (by simp [k])
    ·exact .inl (by simp [k])
theorem ZJ.Zo5 (h:ZJ N w0 e O a w) {τ:Nat} {A:Arr} (hA:O.ar.lookup τ=some (some A)) (hd:1000000<=τ) (b6:A.fr=true) {j off i:Nat} {el:List L} {ys:List (List L)} (Z:A.es[j]? =some el) (c4:el[off]? =some (.sl ys)) (h1:∀y∈ys,y.length=1) (hf:Ue ys=true) (hi:i<ys.length)
  {b M m c:Nat} {cur:Array Value} {t:TypeId} (ho:(e.ρ τ).ownBlock=some b) (hh:w.heap[b]? =some (.cells cur t (0,0))) (X:cur[j*el.length+off]? =some (.slice (some ⟨M,0,none⟩) m c)) {x:L} {v:Value} {F:List Nat} (hx:Rp w x v F) (c0:x.flat=true):
  ∃w',(storeCells ⟨M,i,none⟩ [v]).run P w= .ok () w'/\ZJ N w0 e ⟨O.nt,O.tm,O.bx,(τ,some ⟨true,A.es.set j (el.set off (.sl (ys.set i [x])))⟩)::O.ar⟩ a w':=by
 obtain ⟨b1,t1,W,c1,Fs,u,G,m1,m2,m3,m4,m5,m6,m7,m8,m9,c6,c7,c8,c9⟩:=h.nest hA b6 Z c4;have b4:(e.ρ τ).ownBlock=some b1:=by rw [m1];rfl
 rw [b4] at ho;obtain rfl:=ZEI ho;rw [m4] at hh;injection hh with hh
 injection hh with hh _ _
 subst hh;rw [c6] at X;obtain rfl:=ZEI X;obtain ⟨b2,c2,p,t2,S,rfl,k3,k4,k5,k6⟩:=c7.Zo5 h1 hf hi;injection S with S _ _
 injection S with S
 injection S with S _ _
 subst S;obtain ⟨rfl,c3⟩:=hx.flat (N:=N) c0;have Q:=run_storeCells_at P M i t2 [v] 0 p w k4 (by simp;omega) (λu hu=>by obtain rfl:=Hu.1 hu;exact hx.one);rw [Gr] at Q
 have Y:(p.toList.take i++[v]++p.toList.drop (i+1)).toArray=p.setIfInBounds i v:=by
  apply HJ.1;rw [Array.toList_setIfInBounds,GY,if_pos (by simpa using k5)];simp
 simp only [List.length_singleton] at Q;rw [Y] at Q;refine ⟨_,Q, ?_⟩;have R:M∈Fs:=c8 M Ha;have b0:=Gf.1 m9;have l:live O (.a τ):=⟨A,hA⟩;have I:M∈blk e (.a τ):=by simp [blk,m8,R]
 have hm:Mut e O M:=.inl (h.dk (.a τ) l hd M I);have other:∀z,z≠M->(w.setRow M (p.setIfInBounds i v)).heap[z]? =w.heap[z]? :=λz r=>setRow_other w _ z _ r
 have J:∀o B,((τ,some (⟨true,A.es.set j (el.set off (.sl (ys.set i [x])))⟩:Arr))::O.ar).lookup o=some (some B)->(o=τ/\B=⟨true,A.es.set j (el.set off (.sl (ys.set i [x])))⟩)\/(o≠τ/\O.ar.lookup o=some (some B)):=by
  intro o B E;simp only [lookup_cons] at E
  by_cases s:o=τ
  ·rw [if_pos s] at E;exact .inl ⟨s,(ZEI (ZEI E)).symm⟩
  ·rw [if_neg s] at E;exact .inr ⟨s,E⟩
 have b7:∀z,Mut e ⟨O.nt,O.tm,O.bx,(τ,some ⟨true,A.es.set j (el.set off (.sl (ys.set i [x])))⟩)::O.ar⟩ z->Mut e O z:=λz r=>by
  rcases r with h0| ⟨k,cs,q1,U⟩| ⟨o,B,q1,U⟩
  ·exact .inl h0
  ·exact .inr (.inl ⟨k,cs,q1,U⟩)
  ·rcases J o B q1 with ⟨rfl,_⟩| ⟨_,q3⟩
   ·exact .inr (.inr ⟨o,A,hA,U⟩)
   ·exact .inr (.inr ⟨o,B,q3,U⟩)
 have T:∀o B,O.ar.lookup o=some (some B)->∀z,(e.ρ o).ownBlock=some z->z≠M:=λo B E z r e'=>by
  by_cases s:o=τ
  ·subst s;rw [b4] at r;obtain rfl:=ZEI r;exact b0.1 (e'▸R)
  ·exact h.sep (.a o) (.a τ) ⟨B,E⟩ l (by simp [s]) z ((h.ar o B E).own r).1 (e'▸I)
 have u:Up e O w e ⟨O.nt,O.tm,O.bx,(τ,some ⟨true,A.es.set j (el.set off (.sl (ys.set i [x])))⟩)::O.ar⟩ (w.setRow M (p.setIfInBounds i v)):=by
  refine ⟨Ha,λz _ b9=>other z (λe'=>b9 (e'▸hm)),λz _ r=>b7 z r,λk cs s=>⟨⟨cs,s⟩,rfl⟩,λo B E=> ?_,λo _ ⟨B,E⟩ _=>⟨rfl,λz r=>other z (T o B E z r)⟩⟩;simp only [lookup_cons]
  by_cases s:o=τ
  ·subst s;rw [hA] at E;obtain rfl:=ZEI E;rw [if_pos rfl];exact ⟨_,rfl,λC hC=>⟨A,rfl,by obtain rfl:=ZEI hC;simp,λ_=>trivial⟩⟩
  ·rw [if_neg s];exact ⟨B,E,λC hC=>⟨C,hC,ZEN _,λ_=>trivial⟩⟩
 refine h.Zqi u (λo=>o= .a τ) h.nt h.df (λt v ht=>.inl ⟨ht,rfl⟩) (λk cs s _=>⟨s,other _ λe'=> ?_⟩) (λo B E hK=> ?_) (λk cs _ hK=>by cases hK) (λo B E hK=> ?_) (λo hl hK z r=> ?_) (λo e0 _ _ b8 q1 U=>absurd (q1.trans U.symm) b8) ?_ (λ_ h=>h) (λ_ h=>.inl h) (λo _ hK b5 z r=>by subst hK;exact h.dk (.a τ) l b5 z r) (λk cs _ hK _=>by cases hK) (λo b _ hK hb=>by subst hK;exact h.tp (.a τ) b l hb)
 ·exact h.sep (.b k) (.a τ) ⟨cs,s⟩ l Ha (e.β k) (by simp [blk]) (e'▸I)
 ·rcases J o B E with ⟨rfl,_⟩| ⟨s,q3⟩
  ·exact absurd rfl hK
  ·exact ⟨q3,rfl,rfl,λz r=>other z λe'=>h.sep (.a o) (.a τ) ⟨B,q3⟩ l (by simp [s]) z r (e'▸I)⟩
 ·injection hK with hK
  subst hK;rcases J o B E with ⟨_,rfl⟩| ⟨s,_⟩
  ·refine ⟨_,c1,by rw [m1,Gy],m2,.inr ⟨b1,t1,W,Fs,el.length,rfl,m3,(other b1 λe'=>b0.1 (e'▸R)).trans m4,by rw [Gy];exact m5,m6,λy hy=> ?_,λh0=> ?_,.inl ⟨rfl,m8,by rw [m8];exact m9, ?_⟩⟩⟩
   ·rcases List.mem_or_eq_of_mem_set hy with h9| rfl
    ·exact m7 y h9
    ·simp
   ·have:=congrArg List.length h0;have hj:=(Hh.1 Z).1;simp at this;simp [this] at hj
   ·rw [Gy];refine c9 _ _ Ha (λz r c5=>other z (by simpa using c5)) (k6 (Ow.keep c3 ⟨Ha,λz r=>by simp at r⟩) Ha (setRow_heap w _ p _ t2 _ k4))
  ·exact absurd rfl s
 ·subst hK;exact .inl ⟨l,r⟩
 ·exact ⟨h.fr.gl,h.fr.os,h.fr.tape,h.fr.output,by simp;exact h.fr.size,λz r b3=>(other z λe'=>b3 (e'▸h.tp (.a τ) M l (.inr ⟨hd,I⟩))).trans (h.fr.block z r b3),h.fr.new⟩
end
end Go.Proofs.YtmcfegjoccgpoaaGreatDoor.Am
