import Derived.Test.YtmcfegjoccgpoaaGreatDoorZMx
set_option linter.unusedSimpArgs false
set_option linter.unusedVariables false
namespace Go.Proofs.YtmcfegjoccgpoaaGreatDoor.Am
open Go.RowKit
def MOk (P:Program) (g:Nat) (ys:List (List L)):Prop:=∀(w:World) (v:Value) (F:List Nat) (k:Int),Rp w (.sl ys) v F->F.Nodup->(∀q∈F,XT w q)->0<=k->k+(qnE ys:Nat)<=1099511627776->
 Calls P g #[v,.int .i64 k] w λe j=>e= .returned (.int .i64 (k+(qnE ys:Nat)))/\Rp j (.sl (qmE ys k)) v F/\(∀q∈F,XT j q)/\Chg F w j
def MTx (P:Program) (f:Nat):Prop:=∀w (k:Int),0<=k->k<=1099511627776->Calls P f #[.int .i64 k] w λe j=>e= .returned (.string (ZjX k))/\Below w.heap.size w j
def Ze4 (X:Nat->List (List L)->Prop):MK->L->Prop
 | .int,.int .i64 _=>True
 | .bool,.bool _=>True
 | .str,.str _=>True
 | .call g n j,.sl k=>n=1/\j=false/\X g k
 | _,_=>False
def Zt7 (X:Nat->List (List L)->Prop) (C:Cf) (e:List L):Prop:=e.length=C.ks.length/\∀(i o:Nat) (k:MK),C.ks[i]? =some (o,k)->o=i/\∃x:L,e[i]? =some x/\Ze4 X k x
theorem Ze4.one {X:Nat->List (List L)->Prop} {k:MK} {x:L} (h:Ze4 X k x) (j:k.sc=true):qnC x=1:=by
 cases k<;>cases x<;>first | rfl| exact h.elim| cases j| (simp only [Ze4] at h;split at h<;>first | rfl| exact h.elim)| skip
theorem Ze4.marked {X:Nat->List (List L)->Prop} {kk:MK} {x:L} (j:Ze4 X kk x) (m:kk.sc=true) {R:Rn} {o:Nat} (l:0<=R.cnt o/\R.cnt o<=1099511627776) {w:World} {u:Value} {k:List Nat} (h:Rp w x u k):
  k=[]/\∀w',Rp w' (qmC x (R.cnt o)) (kk.mark R o) []:=by
 unfold Ze4 at j
 split at j
 ·simp only [Rp] at h;refine ⟨h.2.1,λw'=> ?_⟩;simp only [qmC,Rp,MK.mark,true_and];unfold InK;simp [IntKind.wrap,IntKind.bits,IntKind.signed];omega
 ·simp only [Rp] at h;refine ⟨h.2,λw'=> ?_⟩;simp only [qmC,Rp,MK.mark,true_and]
 ·simp only [Rp] at h;refine ⟨h.2.1,λw'=> ?_⟩;simp only [qmC,Rp,MK.mark,true_and];exact ZrO l.2
 ·cases m
 ·exact j.elim
theorem Zzy {es:List (List L)} {k:Int} {j i W:Nat} {e:List L} (h:∀x∈es,x.length=W) (r:e.length=W):∀x∈ZnW es k j e i,x.length=W:=by
 have p:∀(l:List (List L)) (m:Int),(∀x∈l,x.length=W)->∀x∈qmE l m,x.length=W:=by
  intro l
  induction l with
  | nil=>intro m _ x o;simp [qmE] at o
  | cons y l w=>
   intro m hl x o;simp only [qmE,Hc] at o;rcases o with rfl| o
   ·rw [ZaG];exact hl y Ha
   ·exact w _ (λz t=>hl z (by simp [t])) x o
 intro x o;unfold ZnW at o;rcases He.1 o with o| o
 ·exact p _ _ (λy s=>h y (HP s)) x o
 ·rcases Hc.1 o with rfl| o
  ·rw [Zti];exact r
  ·exact h x (GJ o)
theorem Zln {P:Program} {f:Nat} {fn:Func} {c:Code} {C:Cf} (hf:P.funcs[f]? =some fn) (hb:fn.body=some c) (hr:fn.results= #[.tmp 4]) (e7:fn.ntmps=C.nt) (h2:2<=C.nt) (hx:Zm9 P C c=true)
  (hh:C.held=false) (hW:C.W=C.ks.length) (hm:MTx P C.mt) {es:List (List L)} (Q:∀e∈es,Zt7 (MOk P) C e):MOk P f es:=by
 intro w v F k b2 hn hp h0 h1;have c4:=b2;simp only [Rp] at b2;obtain ⟨A,cp,rfl,e4,e5,hA⟩:=b2
 obtain ⟨b,off,xs,b4⟩:∃b off xs,es=[]\/(A=some ⟨b,off,none⟩/\At w b off xs/\b∈F/\xs.length=es.length*C.W):=by
  rcases hA with ⟨rfl,_⟩| ⟨b,off,xs,Fs,G,_,I,Y,q4⟩
  ·exact ⟨0,0,[],.inl rfl⟩
  ·exact ⟨b,off,xs,.inr ⟨G,Y,by simp [I],by rw [q4.len,ZT (W:=C.W) λe he=>by rw [hW];exact (Q e he).1]⟩⟩
 have c9:∀e∈es,e.length=C.W:=λe he=>by rw [hW];exact (Q e he).1
 let el:Nat->List L:=λj=>es.getD j []
 have B:∀j,j<es.length->es[j]? =some (el j)/\el j∈es:=λj hj=>by
  have:es[j]? =some (el j):=by simp [el,Gc,ZEP hj]
  exact ⟨this,Gg this⟩
 let R:Nat->Rn:=λj=>⟨A,es.length,cp,j,b,off+j*C.W,λi=>k+(qnE (es.take j):Nat)+(qnR ((el j).take i):Nat),λi=>xs.getD (j*C.W+i) undef⟩
 let E:Nat->Nat->List (List L):=λj i=>if j<es.length then ZnW es k j (el j) i else qmE es k
 let M:Nat->Nat->World->Prop:=λj i w'=>WR w (E j i) (.slice A es.length cp) F w'/\∀(z r g n:Nat) (T:Bool),C.ks[r]? =some (r,.call g n T)->z<es.length->w'.cell? ⟨b,off+(z*C.W+r),none⟩=some (xs.getD (z*C.W+r) undef)
 have b3:∀j i,qnE (es.take j)+qnR ((el j).take i)<=qnE es:=λj i=>by
  by_cases hj:j<es.length
  ·have U:=Zjb (B j hj).1;have W:=ZqE es (j+1);have e3:=Zwr (el j) i;omega
  ·have:el j=[]:=by simp [el,Gc,Gj (by omega:es.length<=j)]
   rw [this];have:=ZqE es j;simp [qnR];omega
 have O:∀j i,0<=(R j).cnt i/\(R j).cnt i<=1099511627776:=λj i=>by
  have:=b3 j i;show 0<=k+(qnE (es.take j):Nat)+(qnR ((el j).take i):Nat)/\k+(qnE (es.take j):Nat)+(qnR ((el j).take i):Nat)<=1099511627776;omega
 have b8:∀j m p w',M j m p->Below p.heap.size p w'->M j m w':=λj m p w' hM hB=>
  ⟨hM.1.below hB,λz r g n T G I=>by
   have:=hM.2 z r g n T G I;exact (World.cell?_of_block (w:=p) (w':=w') (a:=⟨b,off+(z*C.W+r),none⟩) (hB.block b (World.block_lt_of_cell? p _ this))).trans this⟩
 have b9:∀j,j<es.length->(R j).cnt C.ks.length=(R (j+1)).cnt 0:=λj hj=>by
  have U:=Zjb (B j hj).1;have W:(el j).take C.ks.length=el j:=by rw [<-(Q _ (B j hj).2).1,Gh]
  show k+(qnE (es.take j):Nat)+(qnR ((el j).take C.ks.length):Nat)=k+(qnE (es.take (j+1)):Nat)+(qnR ((el (j+1)).take 0):Nat);rw [U,W];simp [qnR];omega
 have c8:∀j w',j<es.length->M j C.ks.length w'->M (j+1) 0 w':=λj w' hj hM=>by
  refine ⟨?_,hM.2⟩;have h3:=hM.1;have W:(el j).length=C.ks.length:=(Q _ (B j hj).2).1
  have U:E j C.ks.length=ZkR es k (j+1):=by
   show (if j<es.length then ZnW es k j (el j) C.ks.length else qmE es k)=_;rw [if_pos hj,<-W,ZnV (B j hj).1]
  have e3:E (j+1) 0=ZkR es k (j+1):=by
   show (if j+1<es.length then ZnW es k (j+1) (el (j+1)) 0 else qmE es k)=_
   split
   ·rename_i h;exact (ZnT (B (j+1) h).1).symm
   ·rename_i h;have:j+1=es.length:=by omega
    rw [this,Ztg]
  rw [e3,<-U];exact h3
 have hw:M 0 0 w:=by
  refine ⟨⟨?_,hp,Chg.refl _ _⟩,λz r g n T G I=> ?_⟩
  ·have:E 0 0=es:=by
    show (if 0<es.length then ZnW es k 0 (el 0) 0 else qmE es k)=_
    split
    ·rename_i h;rw [<-ZnT (B 0 h).1];simp [ZkR,qmE]
    ·rename_i h;have:es=[]:=HI WF;rw [this];simp [qmE]
   rw [this];exact c4
  ·rcases b4 with b1| ⟨_,Y,_,q4⟩
   ·rw [b1] at I;simp at I
   ·have hi:r<C.W:=by rw [hW];exact (Hh.1 G).1
    have:z*C.W+r<xs.length:=by
     rw [q4]
     calc z*C.W+r<z*C.W+C.W:=by omega
      _=(z+1)*C.W:=by rw [HE];omega
      _<=es.length*C.W:=Gn _ I
    have q5:=Y (z*C.W+r) _ (ZEP this);rw [q5,Gc,ZEP this];rfl
 have H1:∀j,j<es.length->Hy P C (R j) (M j):=λj hj=>by
  obtain ⟨e9,c2⟩:=B j hj;obtain ⟨hl,hit⟩:=Q _ c2
  have c3:A=some ⟨b,off,none⟩/\b∈F:=by
   rcases b4 with b1| ⟨G,_,I,_⟩
   ·rw [b1] at hj;simp at hj
   ·exact ⟨G,I⟩
  have c1:∀{i o:Nat} {kk:MK},C.ks[i]? =some (o,kk)->i<C.W:=λh=>by rw [hW];exact (Hh.1 h).1
  have b5:∀m,E j m=ZnW es k j (el j) m:=λm=>by show (if j<es.length then _ else _)=_;rw [if_pos hj]
  have c0:∀{i o:Nat} {kk:MK} {x:L},C.ks[i]? =some (o,kk)->(el j)[i]? =some x->(R j).cnt (i+1)=(R j).cnt i+(qnC x:Nat):=λ{i o kk x} h l=>by
   show k+(qnE (es.take j):Nat)+(qnR ((el j).take (i+1)):Nat)=k+(qnE (es.take j):Nat)+(qnR ((el j).take i):Nat)+(qnC x:Nat);rw [ZqD l];omega
  have wr:∀{m:Nat} {p:World} {x:L},M j m p->(el j)[m]? =some x->∃u J,p.cell? ⟨b,off+(j*C.W+m),none⟩=some u/\p.frozen? ⟨b,off+(j*C.W+m),none⟩=false/\Rp p x u J/\J.Nodup/\b∉J/\(∀q∈J,XT p q)/\
    (∀(u':Value),J=[]->(∀w',Rp w' (qmC x ((R j).cnt m)) u' [])->WR w (E j (m+1)) (.slice A es.length cp) F (p.setCell ⟨b,off+(j*C.W+m),none⟩ u'))/\
    (∀(w':World),Rp w' (qmC x ((R j).cnt m)) u J->(∀q∈J,XT w' q)->Chg J p w'->WR w (E j (m+1)) (.slice A es.length cp) F w'):=λ{m p x} hM l=>by
   have h3:=hM.1;rw [b5] at h3;obtain ⟨b',e8,u,J,c7,g1,g2,g3,g4,g5,g6,g7,g8⟩:=h3.cell hn (W:=C.W) (Zzy c9 (by rw [hW];exact hl)) (Ztj es k (el j) m hj) (Zvd l);have Z:=c7.symm.trans c3.1;injection Z with Z
   injection Z with U W
   subst U W
   have X:E j (m+1)=(ZnW es k j (el j) m).set j ((Zfn (el j) (k+(qnE (es.take j):Nat)) m).set m (qmC x ((R j).cnt m))):=by
    rw [b5,show (R j).cnt m=k+(qnE (es.take j):Nat)+(qnR ((el j).take m):Nat) from rfl,ZrJ l,Zve es k (el j) m (m+1) hj]
   exact ⟨u,J,g1,g2,g3,g4,g5,g6,λu' h h'=>by rw [X];exact g7 _ u' h h',λw' G I Y=>by rw [X];exact g8 w' _ G I Y⟩
  refine { cb:=O j,c1:=λi o kk h hs=> ?_,ix:=λ_=>⟨off,c3.1,hj,HA e4 e5,rfl⟩,hc:=λm p i o f' n g hM S=> ?_,ld:=λh=>(by rw [hh] at h;cases h),st:=λ_ m p o kk hM S hs=> ?_,cl:=λm p o f' n g hM S=> ?_,hm:=λh=>(by rw [hh] at h;cases h),bl:=b8 j,mt:=hm}
  ·obtain ⟨rfl,x,l,s⟩:=hit i o kk h;rw [c0 h l,s.one hs];rfl
  ·obtain ⟨rfl,x,l,s⟩:=hit i o _ S;cases x<;>first | exact s.elim| skip
   obtain ⟨rfl,rfl,_⟩:=s;refine ⟨[xs.getD (j*C.W+o) undef],λt u hu=> ?_,rfl,λh=>(by cases h),λ_=>rfl⟩;cases t with
   | succ t=>simp at hu
   | zero=>
    obtain rfl:=ZEI hu;have:=hM.2 j o f' 1 false S hj;show p.cell? ⟨b,off+j*C.W+o+0,none⟩=_;rw [Gr,Gx];exact this
  ·obtain ⟨rfl,x,l,s⟩:=hit m o kk S;obtain ⟨u,J,g1,g2,g3,_,_,_,g7,_⟩:=wr hM l;have b6:(R j).base+o=off+(j*C.W+o):=by show off+j*C.W+o=_;omega
   show (∃u,p.cell? ⟨b,(R j).base+o,none⟩=some u)/\p.frozen? ⟨b,(R j).base+o,none⟩=false/\M j (o+1) (p.setCell ⟨b,(R j).base+o,none⟩ (kk.mark (R j) o));rw [b6];have b0:=O j o;have c6:=s.marked hs b0 g3;refine ⟨⟨u,g1⟩,g2,g7 _ c6.1 c6.2,λz r g n T G I=> ?_⟩;rw [World.cell?_setCell_other _ _ _ _ (λe=> ?_)]
   ·exact hM.2 z r g n T G I
   ·injection e with _ e
    have W:j*C.W+o=z*C.W+r:=WF
    have m1:(j*C.W+o)%C.W=o:=by rw [Nat.mul_comm,Nat.mul_add_mod];exact Nat.mod_eq_of_lt (c1 S)
    have m2:(z*C.W+r)%C.W=r:=by rw [Nat.mul_comm,Nat.mul_add_mod];exact Nat.mod_eq_of_lt (c1 G)
    have:o=r:=by rw [<-m1,<-m2,W]
    subst this;rw [S] at G;obtain ⟨_,rfl⟩:=Prod.mk.inj (ZEI G);cases hs
  ·obtain ⟨rfl,x,l,s⟩:=hit m o _ S;obtain ⟨u,J,g1,g2,g3,g4,g5,g6,_,g8⟩:=wr hM l;cases x<;>first | exact s.elim| skip
   rename_i ys;obtain ⟨rfl,rfl,e6⟩:=s;have c5:=hM.2 j o f' 1 false S hj;rw [g1] at c5;obtain rfl:=ZEI c5;have b0:=O j o;have b7:=O j (o+1);rw [c0 S l] at b7 ⊢;refine (e6 p _ J _ g3 g4 g6 b0.1 b7.2).mono λe w' hR=> ?_;obtain ⟨rfl,r1,r2,r3⟩:=hR;refine ⟨rfl,g8 w' r1 r2 r3,λz r g n T G I=> ?_⟩;have Y:=hM.2 z r g n T G I;exact (World.cell?_of_block (w:=p) (w':=w') (a:=⟨b,off+(z*C.W+r),none⟩) (r3.block b (World.block_lt_of_cell? p _ Y) g5)).trans Y
 refine (Zjn hf hb hr e7 h2 hx (A:=A) (n:=es.length) (cp:=cp) (k:=k) R M (λj=>⟨rfl,rfl,rfl,rfl⟩) b9 c8 (λj hj=>Hy.dead (O j) (b8 j) hm) H1 hw (by simp [R,qnE,qnR])).mono λe w' hR=> ?_;obtain ⟨rfl,hM,_⟩:=hR;have e0:el es.length=[]:=by simp [el]
 have U:E es.length 0=qmE es k:=by
  show (if es.length<es.length then _ else qmE es k)=_;rw [if_neg WF]
 rw [U] at hM;refine ⟨?_,hM.1,hM.2.1,hM.2.2⟩;show Ending.returned (.int .i64 (k+(qnE (es.take es.length):Nat)+(qnR ((el es.length).take 0):Nat)))=_;simp [qnR]
def HOk (P:Program) (g:Nat) (ys:List (List L)):Prop:=∀(w:World) (v:Value) (F:List Nat) (k:Int),Rp w (.sl (qmE ys k)) v F->0<=k->k+(qnE ys:Nat)<=1099511627776->
 Calls P g #[v,.int .i64 k] w λe j=>e= .returned (.int .i64 (k+(qnE ys:Nat)))/\Below w.heap.size w j
theorem ZzA {es:List (List L)} {k:Int} {j:Nat} {e:List L} (h:es[j]? =some e):(qmE es k)[j]? =some (qmR e (k+(qnE (es.take j):Nat))):=by
 have hj:=(Hh.1 h).1;have l:=Ztj es k e e.length hj;rw [ZnV h,ZnU] at l;unfold ZkR at l;rw [Gq (by rw [KJ,Hg];omega)] at l;have m:qmE es k=qmE (es.take (j+1)) k++qmE (es.drop (j+1)) (k+(qnE (es.take (j+1)):Nat)):=by rw [<-ZhI,Hn]
 rw [m,Gq (by rw [KJ,Hg];omega)];exact l
theorem Zzz {e:List L} {k:Int} {i:Nat} {x:L} (h:e[i]? =some x):(qmR e k)[i]? =some (qmC x (k+(qnR (e.take i):Nat))):=by
 obtain ⟨l,m⟩:=Hh.1 h;have j:qmR e k=qmR (e.take i) k++qmR (e.drop i) (k+(qnR (e.take i):Nat)):=by rw [<-ZhH,Hn]
 rw [j,Ge (by rw [ZaG,Hg];omega),ZaG,Hg,Hw WF,Gz,Ho l,m];simp [qmR]
theorem Ze4.held {X:Nat->List (List L)->Prop} {kk:MK} {x:L} (j:Ze4 X kk x) (l:kk.sc=true) {R:Rn} {o:Nat} {w:World} {u:Value} {k:List Nat} (h:Rp w (qmC x (R.cnt o)) u k):u=kk.mark R o:=by
 unfold Ze4 at j
 split at j
 ·simp only [qmC,Rp] at h;exact h.1
 ·simp only [qmC,Rp] at h;exact h.1
 ·simp only [qmC,Rp] at h;exact h.1
 ·cases l
 ·exact j.elim
theorem Zlu {P:Program} {f:Nat} {fn:Func} {c:Code} {C:Cf} (hf:P.funcs[f]? =some fn) (hb:fn.body=some c) (hr:fn.results= #[.tmp 4]) (c0:fn.ntmps=C.nt) (h2:2<=C.nt) (J:Zm9 P C c=true)
  (hh:C.held=true) (hW:C.W=C.ks.length) (hm:MTx P C.mt) {es:List (List L)} (Q:∀e∈es,Zt7 (HOk P) C e):HOk P f es:=by
 intro w v F k I h0 h1;have c3:=I.lt;have c4:=I;simp only [Rp] at I;obtain ⟨A,cp,rfl,Y,b6,hA⟩:=I;rw [KJ] at Y ⊢
 have b3:∀e∈qmE es k,e.length=C.W:=by
  have c2:∀(l:List (List L)) (m:Int),(∀x∈l,x.length=C.W)->∀x∈qmE l m,x.length=C.W:=by
   intro l
   induction l with
   | nil=>intro m _ x J;simp [qmE] at J
   | cons y l ih=>
    intro m hl x J;simp only [qmE,Hc] at J;rcases J with rfl| J
    ·rw [ZaG];exact hl y Ha
    ·exact ih _ (λz hz=>hl z (by simp [hz])) x J
  exact c2 es k λe he=>by rw [hW];exact (Q e he).1
 obtain ⟨b,off,xs,b2⟩:∃b off xs,es=[]\/(A=some ⟨b,off,none⟩/\At w b off xs/\∃Fs,RpE w (qmE es k) xs Fs):=by
  rcases hA with ⟨h,_⟩| ⟨b,off,xs,Fs,B,_,q2,q3,q4⟩
  ·exact ⟨0,0,[],.inl (HI (by rw [<-KJ es k,h];rfl))⟩
  ·exact ⟨b,off,xs,.inr ⟨B,q3,Fs,q4⟩⟩
 let el:Nat->List L:=λj=>es.getD j []
 have G:∀j,j<es.length->es[j]? =some (el j)/\el j∈es:=λj hj=>by
  have:es[j]? =some (el j):=by simp [el,Gc,ZEP hj]
  exact ⟨this,Gg this⟩
 let R:Nat->Rn:=λj=>⟨A,es.length,cp,j,b,off+j*C.W,λi=>k+(qnE (es.take j):Nat)+(qnR ((el j).take i):Nat),λi=>xs.getD (j*C.W+i) undef⟩
 let M:Nat->Nat->World->Prop:=λ_ _ w'=>Below w.heap.size w w'
 have U:∀j i,qnE (es.take j)+qnR ((el j).take i)<=qnE es:=λj i=>by
  by_cases hj:j<es.length
  ·have e1:=Zjb (G j hj).1;have e2:=ZqE es (j+1);have e3:=Zwr (el j) i;omega
  ·have:el j=[]:=by simp [el,Gc,Gj (by omega:es.length<=j)]
   rw [this];have:=ZqE es j;simp [qnR];omega
 have E:∀j i,0<=(R j).cnt i/\(R j).cnt i<=1099511627776:=λj i=>by
  have:=U j i;show 0<=k+(qnE (es.take j):Nat)+(qnR ((el j).take i):Nat)/\k+(qnE (es.take j):Nat)+(qnR ((el j).take i):Nat)<=1099511627776;omega
 have X:∀j m s w',M j m s->Below s.heap.size s w'->M j m w':=λj m s w' hM hB=>Below.trans hM (hB.mono hM.size)
 have Z:∀j,j<es.length->(R j).cnt C.ks.length=(R (j+1)).cnt 0:=λj hj=>by
  have e1:=Zjb (G j hj).1;have e2:(el j).take C.ks.length=el j:=by rw [<-(Q _ (G j hj).2).1,Gh]
  show k+(qnE (es.take j):Nat)+(qnR ((el j).take C.ks.length):Nat)=k+(qnE (es.take (j+1)):Nat)+(qnR ((el (j+1)).take 0):Nat);rw [e1,e2];simp [qnR];omega
 have H1:∀j,j<es.length->Hy P C (R j) (M j):=λj hj=>by
  obtain ⟨b7,b1⟩:=G j hj;obtain ⟨hl,hit⟩:=Q _ b1
  have S:A=some ⟨b,off,none⟩/\At w b off xs/\∃Fs,RpE w (qmE es k) xs Fs:=by
   rcases b2 with b9| q
   ·rw [b9] at hj;simp at hj
   ·exact q
  obtain ⟨S,b4,Fs,c1⟩:=S
  have b0:∀{i o:Nat} {kk:MK} {x:L},C.ks[i]? =some (o,kk)->(el j)[i]? =some x->(R j).cnt (i+1)=(R j).cnt i+(qnC x:Nat):=λ{i o kk x} h p=>by
   show k+(qnE (es.take j):Nat)+(qnR ((el j).take (i+1)):Nat)=k+(qnE (es.take j):Nat)+(qnR ((el j).take i):Nat)+(qnC x:Nat);rw [ZqD p];omega
  have rd:∀{i:Nat} {x:L},(el j)[i]? =some x->∃O,Rp w (qmC x ((R j).cnt i)) ((R j).us i) O/\∀w',Below w.heap.size w w'->w'.cell? ⟨b,off+(j*C.W+i),none⟩=some ((R j).us i):=λ{i x} p=>by
   obtain ⟨u,F1,O,F2,_,B,q2,_⟩:=c1.Zz4 b3 (ZzA b7) (Zzz p);have e:(R j).us i=u:=by show xs.getD (j*C.W+i) undef=u;rw [Gc,B];rfl
   rw [e];have q3:=b4 _ _ B;exact ⟨O,q2,λw' hB=>(World.cell?_of_block (w:=w) (w':=w') (a:=⟨b,off+(j*C.W+i),none⟩) (hB.block b (World.block_lt_of_cell? w _ q3))).trans q3⟩
  refine { cb:=E j,c1:=λi o kk h hs=> ?_,ix:=λ_=>⟨off,S,hj,HA Y b6,rfl⟩,hc:=λm s i o f' n g hM T=> ?_,ld:=λ_ m s i o kk hM T hs=> ?_,st:=λh=>(by rw [hh] at h;cases h),cl:=λm s o f' n g hM T=> ?_,hm:=λ_ _ _ _ h=>h,bl:=X j,mt:=hm}
  ·obtain ⟨rfl,x,p,r⟩:=hit i o kk h;rw [b0 h p,r.one hs];rfl
  ·obtain ⟨rfl,x,p,r⟩:=hit i o _ T;cases x<;>first | exact r.elim| skip
   obtain ⟨rfl,rfl,_⟩:=r;obtain ⟨O,_,q⟩:=rd p;refine ⟨[(R j).us o],λt u hu=> ?_,rfl,λh=>(by cases h),λ_=>rfl⟩;cases t with
   | succ t=>simp at hu
   | zero=>
    obtain rfl:=ZEI hu;show s.cell? ⟨b,off+j*C.W+o+0,none⟩=_;rw [Gr,Gx];exact q s hM
  ·obtain ⟨rfl,x,p,r⟩:=hit i o kk T;obtain ⟨O,B,q⟩:=rd p;rw [<-r.held hs B];show s.cell? ⟨b,off+j*C.W+o,none⟩=_;rw [Gx];exact q s hM
  ·obtain ⟨rfl,x,p,r⟩:=hit m o _ T;obtain ⟨O,B,_⟩:=rd p;cases x<;>first | exact r.elim| skip
   rename_i ys;obtain ⟨rfl,rfl,b8⟩:=r;have b5:=E j o;have W:=E j (o+1);rw [b0 T p] at W ⊢;simp only [qmC] at B;refine (b8 s _ O _ (B.keep ⟨Below.size hM,λq hq=>Below.block hM q (B.lt q hq)⟩) b5.1 W.2).mono λe w' hR=> ?_;obtain ⟨rfl,r1⟩:=hR;exact ⟨rfl,Below.trans hM (r1.mono (Below.size hM))⟩
 refine (Zjn hf hb hr c0 h2 J (A:=A) (n:=es.length) (cp:=cp) (k:=k) R M (λj=>⟨rfl,rfl,rfl,rfl⟩) Z (λ_ _ _ h=>h) (λj hj=>Hy.dead (E j) (X j) hm) H1 (Below.refl _ _) (by simp [R,qnE,qnR])).mono λe w' hR=> ?_;obtain ⟨rfl,hM⟩:=hR;refine ⟨?_,hM⟩;show Ending.returned (.int .i64 (k+(qnE (es.take es.length):Nat)+(qnR ((el es.length).take 0):Nat)))=_;simp [qnR]
def ZwV (P:Program) (g:Nat) (cs:List L):Prop:=∀(w:World) (j:List Value) (F:List Nat) (k:Int),RpL w (qvR cs k) j F->0<=k->k+(qwR cs:Nat)<=1099511627776->
 Calls P g #[.agg j.toArray,.int .i64 k] w λe l=>e= .returned (.int .i64 (k+(qwR cs:Nat)))/\Below w.heap.size w l
theorem ZjO:∀(xs:List L) (m:Int),(qvR xs m).length=xs.length
 | [],_=>by simp [qvR]
 | x::xs,m=>by simp [qvR,ZjO xs]
theorem ZhE:∀(xs ys:List L),qwR (xs++ys)=qwR xs+qwR ys
 | [],ys=>by simp [qwR]
 | x::xs,ys=>by simp only [Hm,qwR,ZhE xs];omega
theorem Zer:∀(xs ys:List L) (m:Int),qvR (xs++ys) m=qvR xs m++qvR ys (m+(qwR xs:Nat))
 | [],ys,m=>by simp [qvR,qwR]
 | x::xs,ys,m=>by
  simp only [Hm,qvR,qwR,Zer xs];rw [show m+((qwC x+qwR xs:Nat):Int)=m+(qwC x:Nat)+(qwR xs:Nat) from WF]
def stV (C:Cf) (cs:List L) (i:Nat):Nat:=match C.ks[i]? with
 | some p=>p.1
 | none=>cs.length
def cut (cs:List L) (o n:Nat):List L:=(cs.drop o).take n
theorem Zyj (cs:List L) {o n:Nat} (h:o+n<=cs.length):cs=cs.take o++(cut cs o n++cs.drop (o+n)):=by
 unfold cut;rw [<-GB,Hn,Hn]
theorem Zuk (cs:List L) {o n:Nat} (h:o+n<=cs.length):qwR (cs.take (o+n))=qwR (cs.take o)+qwR (cut cs o n):=by
 rw [<-ZhE,cut,List.take_add]
def vOk (X:Nat->List (List L)->Prop) (Y:Nat->List L->Prop) (C:Cf) (cs:List L):Prop:= qwR (cs.take (stV C cs 0))=0/\(∀(i o:Nat) (kk:MK),C.ks[i]? =some (o,kk)->kk.sc=false)/\ ∀(i o f n:Nat) (g:Bool),C.ks[i]? =some (o,.call f n g)->o+n<=cs.length/\qwR (cs.take (stV C cs (i+1)))=qwR (cs.take (o+n))/\(g=true->Y f (cut cs o n))/\(g=false->n=1/\∃j,cut cs o n=[.sl j]/\X f j)
def usV (C:Cf) (vs:List Value) (i:Nat):Value:=match C.ks[i]? with
 | some (o,.call _ n true)=>.agg ((vs.drop o).take n).toArray
 | some (o,_)=>vs.getD o undef
 | none=>undef
theorem Zwq (e:List L) (i:Nat):qwR (e.take i)<=qwR e:=by
 have:=ZhE (e.take i) (e.drop i);rw [Hn] at this;omega
theorem ZpK {P:Program} {f:Nat} {fn:Func} {c:Code} {C:Cf} (hf:P.funcs[f]? =some fn) (hb:fn.body=some c) (hr:fn.results= #[.tmp 4]) (Z:fn.ntmps=C.nt) (h2:5<=C.nt) (hx:Zk4 P C c=true)
  (hl:C.live=false) (hm:MTx P C.mt) {cs:List L} (W:vOk (HOk P) (ZwV P) C cs):ZwV P f cs:=by
 intro w vs F k E h0 h1;obtain ⟨z0,z1,z2⟩:=W;have b1:vs.length=cs.length:=by rw [E.len,ZjO]
 let R:Rn:=⟨none,0,0,0,w.heap.size,0,λi=>k+(qwR (cs.take (stV C cs i)):Nat),usV C vs⟩
 let M:Nat->World->Prop:=λ_ w'=>Below w.heap.size w w'/\At w' w.heap.size 0 vs
 have z:∀i,0<=R.cnt i/\R.cnt i<=1099511627776:=λi=>by
  have:=Zwq cs (stV C cs i);show 0<=k+(qwR (cs.take (stV C cs i)):Nat)/\k+(qwR (cs.take (stV C cs i)):Nat)<=1099511627776;omega
 have b0:∀{i o B n:Nat} {g:Bool},C.ks[i]? =some (o,.call B n g)->∃T,RpL w (qvR (cut cs o n) (R.cnt i)) ((vs.drop o).take n) T:=λ{i o B n g} p=>by
  obtain ⟨O,_,_⟩:=z2 i o B n g p;have G:stV C cs i=o:=by unfold stV;rw [p]
  have hc:=Zyj cs O;rw [hc,Zer,Zer] at E;obtain ⟨v1,v2,F1,F2,rfl,_,Q,I⟩:=E.split;obtain ⟨v3,v4,F3,F4,rfl,_,S,r4⟩:=I.split;have l1:v1.length=o:=by rw [Q.len,ZjO,Hg];omega
  have l3:v3.length=n:=by rw [S.len,ZjO,cut,Hg,HR];omega
  refine ⟨F3, ?_⟩;rw [<-l1,GG,<-l3,Gu];show RpL w (qvR (cut cs v1.length v3.length) (k+(qwR (cs.take (stV C cs i)):Nat))) v3 F3;rw [G,l1,l3];exact S
 have hH:Hy P C R M:=by
  refine { cb:=z,c1:=λi o kk h A=>(by rw [z1 i o kk h] at A;cases A),ix:=λh=>(by rw [hl] at h;cases h),hc:=λm l i o B n g hM p=> ?_,ld:=λ_ m l i o kk _ h A=>(by rw [z1 i o kk h] at A;cases A),st:=λ_ m l o kk _ h A=>(by rw [z1 m o kk h] at A;cases A),cl:=λm l o B n g hM p=> ?_,hm:=λ_ _ _ _ h=>h,bl:=λm l w' hM J=>⟨Below.trans hM.1 (J.mono (Below.size hM.1)),λj u s=> ?_⟩,mt:=hm}
  ·obtain ⟨O,_,_,q4⟩:=z2 i o B n g p;refine ⟨(vs.drop o).take n,λj u s=> ?_,by rw [Hg,HR];omega,λY=> ?_,λY=> ?_⟩
   ·have hj:j<n:=by have:=(Hh.1 s).1;rw [Hg] at this;omega
    rw [Gw,if_pos hj,GP] at s;have:=hM.2 (o+j) u s;show l.cell? ⟨w.heap.size,0+o+j,none⟩=some u;rw [Gx];exact this
   ·subst Y;show usV C vs i=_;unfold usV;rw [p]
   ·subst Y;obtain ⟨rfl,_⟩:=q4 rfl;have ho:o<vs.length:=by omega
    have:R.us i=vs.getD o undef:=by show usV C vs i=_;unfold usV;rw [p]
    rw [this,Ho ho,List.take_succ_cons,Gi,Gc,ZEP ho];rfl
  ·obtain ⟨O,q2,q3,q4⟩:=z2 m o B n g p;obtain ⟨T,Q⟩:=b0 p;have G:stV C cs m=o:=by unfold stV;rw [p]
   have U:R.cnt (m+1)=R.cnt m+(qwR (cut cs o n):Nat):=by
    show k+(qwR (cs.take (stV C cs (m+1))):Nat)=k+(qwR (cs.take (stV C cs m)):Nat)+(qwR (cut cs o n):Nat);rw [q2,Zuk cs O,G];omega
   have r:=z (m+1);rw [U] at r ⊢;have I:=Q.keep (w':=l) ⟨Below.size hM.1,λq hq=>Below.block hM.1 q (Q.lt q hq)⟩;have fin:∀w',Below l.heap.size l w'->M (m+1) w':=λw' J=>⟨Below.trans hM.1 (J.mono (Below.size hM.1)),λj u s=>(World.cell?_of_block (w:=l) (w':=w') (a:=⟨w.heap.size,0+j,none⟩) (J.block _ (World.block_lt_of_cell? l _ (hM.2 j u s)))).trans (hM.2 j u s)⟩;cases g with
   | true=>
    have:R.us m= .agg ((vs.drop o).take n).toArray:=by show usV C vs m=_;unfold usV;rw [p]
    rw [this];exact (q3 rfl l _ T _ I (z m).1 r.2).mono λe w' hR=>⟨hR.1,fin w' hR.2⟩
   | false=>
    obtain ⟨rfl,ys,e1,e2⟩:=q4 rfl;rw [e1] at I r ⊢;have ho:o<vs.length:=WF
    have s:R.us m=vs.getD o undef:=by show usV C vs m=_;unfold usV;rw [p]
    have hq:(vs.drop o).take 1=[R.us m]:=by rw [s,Ho ho,List.take_succ_cons,Gi,Gc,ZEP ho];rfl
    rw [hq] at I;simp only [qvR,qvC,RpL] at I;obtain ⟨v,b2,F1,F2,e3,_,S,_⟩:=I;obtain ⟨rfl,_⟩:=List.cons.inj e3;have X:qwR [L.sl ys]=qnE ys:=by simp [qwR,qwC]
    rw [X] at r ⊢;exact (e2 l _ F1 _ S (z m).1 r.2).mono λe w' hR=>⟨hR.1,fin w' hR.2⟩
  ·exact (World.cell?_of_block (w:=l) (w':=w') (a:=⟨w.heap.size,0+j,none⟩) (J.block _ (World.block_lt_of_cell? l _ (hM.2 j u s)))).trans (hM.2 j u s)
 refine (Zie (R:=R) (M:=M) hf hb hr Z h2 hx rfl rfl (by show k+(qwR (cs.take (stV C cs 0)):Nat)=k;rw [z0];simp) (λt=>⟨(Below.refl _ _).alloc (ZEN _) _,Zrj (heap_alloc_new w _)⟩) hH).mono λe w' hR=> ?_;obtain ⟨rfl,hM⟩:=hR;refine ⟨?_,hM.1⟩;show Ending.returned (.int .i64 (k+(qwR (cs.take (stV C cs C.ks.length)):Nat)))=_;have:stV C cs C.ks.length=cs.length:=by unfold stV;rw [Gj (ZEN _)]
 rw [this,Gh]
def ZwU (P:Program) (g:Nat) (cs:List L):Prop:=∀(w:World) (j:List Value) (F:List Nat) (k:Int),RpL w cs j F->F.Nodup->(∀q∈F,XT w q)->0<=k->k+(qwR cs:Nat)<=1099511627776->
 Calls P g #[.agg j.toArray,.int .i64 k] w λe l=>e= .returned (.int .i64 (k+(qwR cs:Nat)))/\RpL l (qvR cs k) j F/\(∀q∈F,XT l q)/\Chg F w l
def vmk (C:Cf) (cs:List L) (k:Int) (m:Nat):List L:=qvR (cs.take (stV C cs m)) k++cs.drop (stV C cs m)
theorem XT.sm {w w':World} {F:List Nat} (h:∀q∈F,XT w q) (s:Sm w w' F):∀q∈F,XT w' q:=λq hq=>by
 obtain ⟨j,t,e⟩:=h q hq;exact ⟨j,t,(s.2 q hq).trans e⟩
theorem Zps {P:Program} {f:Nat} {fn:Func} {c:Code} {C:Cf} (hf:P.funcs[f]? =some fn) (hb:fn.body=some c) (hr:fn.results= #[.tmp 4]) (c1:fn.ntmps=C.nt) (h2:5<=C.nt) (hx:Zk4 P C c=true)
  (hh:C.held=false) (hl:C.live=false) (hm:MTx P C.mt) {cs:List L} (b7:vOk (MOk P) (ZwU P) C cs) (b9:∀k,vmk C cs k 0=cs)
  (hg:∀k i o f n g,C.ks[i]? =some (o,MK.call f n g)->vmk C cs k (i+1)=qvR (cs.take (o+n)) k++cs.drop (o+n)):ZwU P f cs:=by
 intro w vs F k O hn hp h0 h1;obtain ⟨z0,z1,z2⟩:=b7;have c2:vs.length=cs.length:=O.len;have c0:=O.lt
 let R:Rn:=⟨none,0,0,0,w.heap.size,0,λi=>k+(qwR (cs.take (stV C cs i)):Nat),usV C vs⟩
 let Q:Nat->World->Prop:=λm w'=>RpL w' (vmk C cs k m) vs F/\(∀q∈F,XT w' q)/\Chg F w w'
 let M:Nat->World->Prop:=λm w'=>Q m w'/\At w' w.heap.size 0 vs
 have I:∀i,0<=R.cnt i/\R.cnt i<=1099511627776:=λi=>by
  have:=Zwq cs (stV C cs i);show 0<=k+(qwR (cs.take (stV C cs i)):Nat)/\k+(qwR (cs.take (stV C cs i)):Nat)<=1099511627776;omega
 have Z:∀m l w',Q m l->Below l.heap.size l w'->Q m w':=λm l w' hQ U=>by
  have r:Sm l w' F:=⟨Below.size U,λq hq=>Below.block U q (hQ.1.lt q hq)⟩;exact ⟨hQ.1.keep r,XT.sm hQ.2.1 r,Chg.trans hQ.2.2 (Chg.below U)⟩
 have W:∀(l w':World) (G:List Nat),At l w.heap.size 0 vs->(∀q∈G,q∈F)->Chg G l w'->At w' w.heap.size 0 vs:=λl w' G hA hG hC j u B=>
  (World.cell?_of_block (w:=l) (w':=w') (a:=⟨w.heap.size,0+j,none⟩) (hC.block _ (World.block_lt_of_cell? l _ (hA j u B)) (λh=>Nat.lt_irrefl _ (c0 _ (hG _ h))))).trans (hA j u B)
 have hH:Hy P C R M:=by
  refine { cb:=I,c1:=λi o kk h r=>(by rw [z1 i o kk h] at r;cases r),ix:=λh=>(by rw [hl] at h;cases h),hc:=λm l i o f' n g hM z=> ?_,ld:=λ_ m l i o kk _ h r=>(by rw [z1 i o kk h] at r;cases r),st:=λ_ m l o kk _ h r=>(by rw [z1 m o kk h] at r;cases r),cl:=λm l o f' n g hM z=> ?_,hm:=λh=>(by rw [hh] at h;cases h),bl:=λm l w' hM U=>⟨Z m l w' hM.1 U,W l w' [] hM.2 (λq hq=>(by cases hq)) (Chg.below U)⟩,mt:=hm}
  ·obtain ⟨q1,_,_,q4⟩:=z2 i o f' n g z;refine ⟨(vs.drop o).take n,λj u B=> ?_,by rw [Hg,HR];omega,λhg=> ?_,λhg=> ?_⟩
   ·have hj:j<n:=by have:=(Hh.1 B).1;rw [Hg] at this;omega
    rw [Gw,if_pos hj,GP] at B;have:=hM.2 (o+j) u B;show l.cell? ⟨w.heap.size,0+o+j,none⟩=some u;rw [Gx];exact this
   ·subst hg;show usV C vs i=_;unfold usV;rw [z]
   ·subst hg;obtain ⟨rfl,_⟩:=q4 rfl;have ho:o<vs.length:=by omega
    have:R.us i=vs.getD o undef:=by show usV C vs i=_;unfold usV;rw [z]
    rw [this,Ho ho,List.take_succ_cons,Gi,Gc,ZEP ho];rfl
  ·obtain ⟨q1,q2,q3,q4⟩:=z2 m o f' n g z;have b3:stV C cs m=o:=by unfold stV;rw [z]
   have b0:R.cnt m=k+(qwR (cs.take o):Nat):=by show k+(qwR (cs.take (stV C cs m)):Nat)=_;rw [b3]
   have b6:R.cnt (m+1)=R.cnt m+(qwR (cut cs o n):Nat):=by
    rw [b0];show k+(qwR (cs.take (stV C cs (m+1))):Nat)=_;rw [q2,Zuk cs q1];omega
   have Y:=I m;have p:=I (m+1);rw [b6] at p ⊢;obtain ⟨⟨hR,hP,hC⟩,hA⟩:=hM
   have hv:vmk C cs k m=qvR (cs.take o) k++(cut cs o n++cs.drop (o+n)):=by
    unfold vmk cut;rw [b3,<-GB,Hn]
   rw [hv] at hR;obtain ⟨v1,v2,F1,F2,e1,T,r1,r2⟩:=hR.split;obtain ⟨v3,v4,A,F4,e3,X,S,r4⟩:=r2.split;have l1:v1.length=o:=by rw [r1.len,ZjO,Hg];omega
   have l3:v3.length=n:=by rw [S.len,cut,Hg,HR];omega
   have b4:(vs.drop o).take n=v3:=by rw [e1,e3,<-l1,GG,<-l3,Gu]
   have s:∀q∈A,q∈F:=λq hq=>by rw [T,X];simp [hq]
   have J:=hn;rw [T,X] at J;rw [HZ] at J;obtain ⟨_,n2,n3⟩:=J;rw [HZ] at n2;obtain ⟨n4,_,n5⟩:=n2
   have fin:∀w',RpL w' (qvR (cut cs o n) (R.cnt m)) v3 A->(∀q∈A,XT w' q)->Chg A l w'->M (m+1) w':=λw' a1 a2 a3=>by
    have s1:Sm l w' F1:=a3.sm r1.lt λb h1 h3=>n3 b h1 b (by simp [h3]) rfl;have s4:Sm l w' F4:=a3.sm r4.lt λb h1 h3=>n5 b h3 b h1 rfl;refine ⟨⟨?_, ?_,Chg.trans hC (a3.sub s)⟩,W l w' A hA s a3⟩
    ·have:=(r1.keep s1).append (a1.append (r4.keep s4));rw [<-e3,<-X,<-e1,<-T] at this;rw [hg k m o f' n g z,show cs.take (o+n)=cs.take o++cut cs o n from List.take_add ..,Zer,Hx,<-b0];exact this
    ·have p1:=XT.sm (λq hq=>hP q (by rw [T];simp [hq])) s1;have p4:=XT.sm (λq hq=>hP q (by rw [T,X];simp [hq])) s4;intro q hq;rw [T,X] at hq;rcases He.1 hq with h| h
     ·exact p1 q h
     ·rcases He.1 h with h| h
      ·exact a2 q h
      ·exact p4 q h
   have b2:∀q∈A,XT l q:=λq hq=>hP q (s q hq);cases g with
   | true=>
    have:R.us m= .agg v3.toArray:=by show usV C vs m=_;unfold usV;rw [z];simp only;rw [b4]
    rw [this];exact (q3 rfl l _ A _ S n4 b2 Y.1 p.2).mono λe w' hR=>⟨hR.1,fin w' hR.2.1 hR.2.2.1 hR.2.2.2⟩
   | false=>
    obtain ⟨rfl,ys,g1,g2⟩:=q4 rfl;rw [g1] at S p fin ⊢;have ho:o<vs.length:=WF
    have B:R.us m=vs.getD o undef:=by show usV C vs m=_;unfold usV;rw [z]
    have hq:v3=[R.us m]:=by rw [<-b4,B,Ho ho,List.take_succ_cons,Gi,Gc,ZEP ho];rfl
    rw [hq] at S fin;have c3:=S;simp only [RpL] at S;obtain ⟨v,c4,G1,G2,x1,x2,x3,x4,x5⟩:=S;obtain ⟨rfl,rfl⟩:=List.cons.inj x1;subst x5;rw [HG] at x2;subst x2;have b8:qwR [L.sl ys]=qnE ys:=by simp [qwR,qwC]
    rw [b8] at p ⊢;exact (g2 l _ _ _ x3 n4 b2 Y.1 p.2).mono λe w' hR=>⟨hR.1,fin w' (by simp only [qvR,qvC,RpL];exact ⟨_,[],A,[],rfl,Ha,hR.2.1,rfl,rfl⟩) hR.2.2.1 hR.2.2.2⟩
 have b5:Q 0 w:=⟨by rw [b9];exact O,hp,Chg.refl _ _⟩;refine (Zie (R:=R) (M:=M) hf hb hr c1 h2 hx rfl rfl (by show k+(qwR (cs.take (stV C cs 0)):Nat)=k;rw [z0];simp) (λt=>⟨Z 0 w _ b5 ((Below.refl _ _).alloc (ZEN _) _),Zrj (heap_alloc_new w _)⟩) hH).mono λe w' hR=> ?_;obtain ⟨rfl,hM,_⟩:=hR;have b1:stV C cs C.ks.length=cs.length:=by unfold stV;rw [Gj (ZEN _)]
 have E:=hM.1;unfold vmk at E;rw [b1,Gh,List.drop_length,HG] at E;refine ⟨?_,E,hM.2⟩;show Ending.returned (.int .i64 (k+(qwR (cs.take (stV C cs C.ks.length)):Nat)))=_;rw [b1,Gh]
end Go.Proofs.YtmcfegjoccgpoaaGreatDoor.Am
