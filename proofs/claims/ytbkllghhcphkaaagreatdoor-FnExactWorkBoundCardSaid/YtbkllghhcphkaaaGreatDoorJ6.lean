import Derived.Test.YtbkllghhcphkaaaGreatDoorJ5
set_option linter.unusedSimpArgs false
set_option linter.unusedVariables false
namespace Go.Proofs.YtbkllghhcphkaaaGreatDoor
open Go.RowKit Am
def Zk.bk (x:Zk):Nat:=x.name.size+(x.code.size+(0))
theorem Zk.ZH (x:Zk):x.bk=x.name.size+(x.code.size+(0)):=rfl
theorem Zfc (x:Zk) (hf:Zcr x.c):∀left:Int,0<=left->left<=1048576->JR x left=some (szR (x.bk) left):=by
 have hf':=hf;rw [Zk.UF] at hf';simp only [Zcr] at hf';obtain ⟨f0,f1,f2,f3,f4,f5,_⟩:=hf';intro left l0 l1;rw [Zk.ZH];unfold JR;rcases Zjs (b:=x.name.size) l0 l1 (ZeW f3) with ⟨z0,e0,g0,q0,p0,r0⟩| ⟨g0,q0⟩
 rotate_left
 ·rw [if_pos g0];exact Xs (by omega)
 rw [e0,if_neg g0];rcases Zjs (b:=x.code.size) p0 r0 (ZeW f4) with ⟨z1,e1,g1,q1,p1,r1⟩| ⟨g1,q1⟩
 rotate_left
 ·rw [if_pos g1];exact Xs (by omega)
 rw [e1,if_neg g1];exact Jc p1 (by omega)
theorem Ze3 (x:Zk) (hb:x.bk<=1048576):JQ x=some x:=by
 unfold JQ
 all_goals (first | rfl| (cases x;rfl))
theorem Zjm (x:Zk) (hb:x.bk<=1073741824):Zah x x=some true:=by
 unfold Zah;simp []
theorem Zh5 (xs:List Zk) (hf:DOk (.sl (xs.map Zk.c))):Ev fun k=>∀left:Int,0<=left->left<=1048576->Zbf k xs left=some (szR (bkS Zk.bk xs) left):=by
 have hx:∀x∈xs,∀left:Int,0<=left->left<=1048576->JR x left=some (szR (Zk.bk x) left):=fun x hm=>Zfc x ((VK hf).2 x hm);refine (Ev.ge (xs.length+1)).mono fun k hk=> ?_;intro left l0 l1;unfold Zbf;refine JS Zk.bk xs (JR) (XM xs) k (fun x hm l p q=> ?_) (fun n l i=>by rw [XM]) (by omega) (VK hf).1 left l0 l1;rw [hx x hm l p q,Zyl];have:=Zbs (b:=Zk.bk x) (b2:=0) (F:=fun z=>some z) p fun z pz _=>Kf pz;exact this
theorem ZhZ (xs:List Zk) (hb:bkS Zk.bk xs<=1048576):Ev fun k=>Za7 k xs=some xs:=by
 have hx:∀x∈xs,JQ x=some x:=fun x hm=>Ze3 x (by have:=QA (f:=Zk.bk) hm;omega);refine (Ev.ge (xs.length+1)).mono fun k hk=> ?_;unfold Za7;exact Ua _ (by omega) _ xs (JQ) (XI xs) k (fun x hm=>hx x hm) (fun n out i=>by rw [XI]) (by omega) (by have:=Yj (f:=Zk.bk) (xs:=xs);omega)
theorem Zib (xs:List Zk) (hb:bkS Zk.bk xs<=1073741824):Ev fun k=>Zbq k xs xs=some true:=by
 have hx:∀x∈xs,Zah x x=some true:=fun x hm=>Zjm x (by have:=QA (f:=Zk.bk) hm;omega);refine (Ev.ge (xs.length+1)).mono fun k hk=> ?_;unfold Zbq;exact Ui xs (Zah) (XQ xs xs) k (fun x hm=>hx x hm) (fun n i=>by rw [XQ]) (by omega) (by have:=Yj (f:=Zk.bk) (xs:=xs);omega)
def Zd.bk (x:Zd):Nat:=bkS Zk.bk x.cells+(0)
theorem Zd.ZH (x:Zd):x.bk=bkS Zk.bk x.cells+(0):=rfl
theorem ZfE (x:Zd) (hf:Zcr x.c):Ev fun k=>∀left:Int,0<=left->left<=1048576->Uk k x left=some (szR (x.bk) left):=by
 have hf':=hf;rw [Zd.UF] at hf';simp only [Zcr] at hf';obtain ⟨f0,_⟩:=hf';refine (Zh5 x.cells f0).mono ?_;rintro k h0;intro left l0 l1;rw [Zd.ZH];unfold Uk;rw [h0 left l0 l1,Zyl];rcases XZ (b:=bkS Zk.bk x.cells) l1 with ⟨z0,e0,g0,q0,p0,r0⟩| ⟨e0,q0⟩
 rotate_left
 ·rw [e0,if_pos (by decide)];exact Xs (by omega)
 rw [e0,if_neg g0];exact Jc p0 (by omega)
theorem ZfD (x:Zd) (hb:x.bk<=1048576):Ev fun k=>Uj k x=some x:=by
 refine (ZhZ x.cells (by have:=Zd.ZH x;omega)).mono ?_;rintro k h0;unfold Uj;rw [h0,Zyl]
 all_goals (first | rfl| (cases x;rfl))
theorem ZfF (x:Zd) (hb:x.bk<=1073741824):Ev fun k=>Ul k x x=some true:=by
 refine (Zib x.cells (by have:=Zd.ZH x;omega)).mono ?_;rintro k h0;unfold Ul;simp [h0]
theorem Ze8 (xs:List Int) (hf:DOk (.sl (xs.map iC))):∀left:Int,0<=left->left<=1048576->Zb3 xs left=some (szR (bkS (fun _=>0) xs) left):=by
 intro left l0 l1;unfold Zb3;have:=ZnJ (b:=xs.length) (b2:=0) (F:=fun z=>some z) l0 l1 (VK hf).1 fun x p _=>Kf p;have e:bkS (fun _=>0) xs=xs.length+0:=Znh xs;rw [e];exact this
theorem Ze0 (xs:List Int) (hb:bkS (fun _=>0) xs<=1048576):Ev fun k=>ZbZ k xs=some xs:=by
 refine (Ev.ge (xs.length+1)).mono fun k hk=> ?_;unfold ZbZ;exact Ua _ (by omega) _ xs (fun x=>some x) (Wm xs) k (fun x hm=>rfl) (fun n out i=>by rw [Wm];rfl) (by omega) (by have:=Yj (f:=(fun _=>0)) (xs:=xs);omega)
theorem Zfe (xs:List Int) (hb:bkS (fun _=>0) xs<=1073741824):Ev fun k=>Zb6 k xs xs=some true:=by
 refine (Ev.ge (xs.length+1)).mono fun k hk=> ?_;unfold Zb6;exact Ui xs (fun x y=>some (decide (x=y))) (Wp xs xs) k (fun x hm=>by simp) (fun n i=>by rw [Wp];rfl) (by omega) (by have:=Yj (f:=(fun _=>0)) (xs:=xs);omega)
def ZS.bk (x:ZS):Nat:=x.name.size+(0)
theorem ZS.ZH (x:ZS):x.bk=x.name.size+(0):=rfl
theorem Zjh (x:ZS) (hf:Zcr x.c):∀left:Int,0<=left->left<=1048576->Zac x left=some (szR (x.bk) left):=by
 have hf':=hf;rw [ZS.UF] at hf';simp only [Zcr] at hf';obtain ⟨f0,f1,_⟩:=hf';intro left l0 l1;rw [ZS.ZH];unfold Zac;rcases Zjs (b:=x.name.size) l0 l1 (ZeW f0) with ⟨z0,e0,g0,q0,p0,r0⟩| ⟨g0,q0⟩
 rotate_left
 ·rw [if_pos g0];exact Xs (by omega)
 rw [e0,if_neg g0];exact Jc p0 (by omega)
theorem Zjc (x:ZS) (hb:x.bk<=1048576):Zab x=some x:=by
 unfold Zab
 all_goals (first | rfl| (cases x;rfl))
theorem Zjl (x:ZS) (hb:x.bk<=1073741824):Zaf x x=some true:=by
 unfold Zaf;simp []
theorem Zh3 (xs:List ZS) (hf:DOk (.sl (xs.map ZS.c))):Ev fun k=>∀left:Int,0<=left->left<=1048576->Zbd k xs left=some (szR (bkS ZS.bk xs) left):=by
 have hx:∀x∈xs,∀left:Int,0<=left->left<=1048576->Zac x left=some (szR (ZS.bk x) left):=fun x hm=>Zjh x ((VK hf).2 x hm);refine (Ev.ge (xs.length+1)).mono fun k hk=> ?_;intro left l0 l1;unfold Zbd;refine JS ZS.bk xs (Zac) (XL xs) k (fun x hm l p q=> ?_) (fun n l i=>by rw [XL]) (by omega) (VK hf).1 left l0 l1;rw [hx x hm l p q,Zyl];have:=Zbs (b:=ZS.bk x) (b2:=0) (F:=fun z=>some z) p fun z pz _=>Kf pz;exact this
theorem ZhX (xs:List ZS) (hb:bkS ZS.bk xs<=1048576):Ev fun k=>Za6 k xs=some xs:=by
 have hx:∀x∈xs,Zab x=some x:=fun x hm=>Zjc x (by have:=QA (f:=ZS.bk) hm;omega);refine (Ev.ge (xs.length+1)).mono fun k hk=> ?_;unfold Za6;exact Ua _ (by omega) _ xs (Zab) (XH xs) k (fun x hm=>hx x hm) (fun n out i=>by rw [XH]) (by omega) (by have:=Yj (f:=ZS.bk) (xs:=xs);omega)
theorem Zh9 (xs:List ZS) (hb:bkS ZS.bk xs<=1073741824):Ev fun k=>Zbo k xs xs=some true:=by
 have hx:∀x∈xs,Zaf x x=some true:=fun x hm=>Zjl x (by have:=QA (f:=ZS.bk) hm;omega);refine (Ev.ge (xs.length+1)).mono fun k hk=> ?_;unfold Zbo;exact Ui xs (Zaf) (XP xs xs) k (fun x hm=>hx x hm) (fun n i=>by rw [XP]) (by omega) (by have:=Yj (f:=ZS.bk) (xs:=xs);omega)
def Yo.bk (x:Yo):Nat:=bkS ZS.bk x.files+(0)
theorem Yo.ZH (x:Yo):x.bk=bkS ZS.bk x.files+(0):=rfl
theorem Zh0 (x:Yo) (hf:Zcr x.c):Ev fun k=>∀left:Int,0<=left->left<=1048576->Za8 k x left=some (szR (x.bk) left):=by
 have hf':=hf;rw [Yo.UF] at hf';simp only [Zcr] at hf';obtain ⟨f0,f1,f2,_⟩:=hf';refine (Zh3 x.files f2).mono ?_;rintro k h0;intro left l0 l1;rw [Yo.ZH];unfold Za8;rw [h0 left l0 l1,Zyl];rcases XZ (b:=bkS ZS.bk x.files) l1 with ⟨z0,e0,g0,q0,p0,r0⟩| ⟨e0,q0⟩
 rotate_left
 ·rw [e0,if_pos (by decide)];exact Xs (by omega)
 rw [e0,if_neg g0];exact Jc p0 (by omega)
theorem ZhU (x:Yo) (hb:x.bk<=1048576):Ev fun k=>Za1 k x=some x:=by
 refine (ZhX x.files (by have:=Yo.ZH x;omega)).mono ?_;rintro k h0;unfold Za1;rw [h0,Zyl]
 all_goals (first | rfl| (cases x;rfl))
theorem Zh6 (x:Yo) (hb:x.bk<=1073741824):Ev fun k=>Zbg k x x=some true:=by
 refine (Zh9 x.files (by have:=Yo.ZH x;omega)).mono ?_;rintro k h0;unfold Zbg;simp [h0]
theorem Zf5 (xs:List ByteArray) (hf:DOk (.sl (xs.map sC))):Ev fun k=>∀left:Int,0<=left->left<=1048576->U5 k xs left=some (szR (bkS ByteArray.size xs) left):=by
 refine (Ev.ge (xs.length+1)).mono fun k hk=> ?_;intro left l0 l1;unfold U5;refine JS ByteArray.size xs (fun x l=>some (IntKind.i64.wrap (l-(x.size:Int)))) (QD xs) k (fun x hm l p q=> ?_) (fun n l i=>by rw [QD];rfl) (by omega) (VK hf).1 left l0 l1;have:=ZnJ (b:=x.size) (b2:=0) (F:=fun z=>some z) p q (ZeW ((VK hf).2 x hm).1) fun z pz _=>Kf pz;exact this
theorem Zf2 (xs:List ByteArray) (hb:bkS ByteArray.size xs<=1048576):Ev fun k=>U3 k xs=some xs:=by
 refine (Ev.ge (xs.length+1)).mono fun k hk=> ?_;unfold U3;exact Ua _ (by omega) _ xs (fun x=>some x) (QB xs) k (fun x hm=>rfl) (fun n out i=>by rw [QB];rfl) (by omega) (by have:=Yj (f:=ByteArray.size) (xs:=xs);omega)
theorem Zf8 (xs:List ByteArray) (hb:bkS ByteArray.size xs<=1073741824):Ev fun k=>U8 k xs xs=some true:=by
 refine (Ev.ge (xs.length+1)).mono fun k hk=> ?_;unfold U8;exact Ui xs (fun x y=>some (decide (x=y))) (QE xs xs) k (fun x hm=>by simp) (fun n i=>by rw [QE];rfl) (by omega) (by have:=Yj (f:=ByteArray.size) (xs:=xs);omega)
theorem Zg6 (x:Zo):VL x=some x:=by
 unfold VL
 all_goals (first | rfl| (cases x;rfl))
theorem Zhe (x:Zo):VN x x=some true:=by
 unfold VN;simp []
theorem Zf7 (xs:List Zo) (hf:DOk (.sl (xs.map Zo.c))):∀left:Int,0<=left->left<=1048576->U6 xs left=some (szR (bkS (fun _=>0) xs) left):=by
 intro left l0 l1;unfold U6;have:=ZnJ (b:=xs.length) (b2:=0) (F:=fun z=>some z) l0 l1 (VK hf).1 fun x p _=>Kf p;have e:bkS (fun _=>0) xs=xs.length+0:=Znh xs;rw [e];exact this
theorem Zf4 (xs:List Zo) (hb:bkS (fun _=>0) xs<=1048576):Ev fun k=>U4 k xs=some xs:=by
 have hx:∀x∈xs,VL x=some x:=fun x hm=>Zg6 x;refine (Ev.ge (xs.length+1)).mono fun k hk=> ?_;unfold U4;exact Ua _ (by omega) _ xs (VL) (QC xs) k (fun x hm=>hx x hm) (fun n out i=>by rw [QC]) (by omega) (by have:=Yj (f:=(fun _=>0)) (xs:=xs);omega)
theorem Zf9 (xs:List Zo) (hb:bkS (fun _=>0) xs<=1073741824):Ev fun k=>U9 k xs xs=some true:=by
 have hx:∀x∈xs,VN x x=some true:=fun x hm=>Zhe x;refine (Ev.ge (xs.length+1)).mono fun k hk=> ?_;unfold U9;exact Ui xs (VN) (QF xs xs) k (fun x hm=>hx x hm) (fun n i=>by rw [QF]) (by omega) (by have:=Yj (f:=(fun _=>0)) (xs:=xs);omega)
def ZN.bk (x:ZN):Nat:=bkS (fun _=>0) x.cells+(bkS (fun _=>0) x.from_+(0))
theorem ZN.ZH (x:ZN):x.bk=bkS (fun _=>0) x.cells+(bkS (fun _=>0) x.from_+(0)):=rfl
theorem Zku (x:ZN) (hf:Zcr x.c):∀left:Int,0<=left->left<=1048576->ZcO x left=some (szR (x.bk) left):=by
 have hf':=hf;rw [ZN.UF] at hf';simp only [Zcr] at hf';obtain ⟨f0,f1,_⟩:=hf';have h0:=Ze8 x.cells f0;have h1:=Zf7 x.from_ f1;intro left l0 l1;rw [ZN.ZH];unfold ZcO;rw [h0 left l0 l1,Zyl];rcases XZ (b:=bkS (fun _=>0) x.cells) l1 with ⟨z0,e0,g0,q0,p0,r0⟩| ⟨e0,q0⟩
 rotate_left
 ·rw [e0,if_pos (by decide)];exact Xs (by omega)
 rw [e0,if_neg g0];rw [h1 z0 p0 r0,Zyl];rcases XZ (b:=bkS (fun _=>0) x.from_) r0 with ⟨z1,e1,g1,q1,p1,r1⟩| ⟨e1,q1⟩
 rotate_left
 ·rw [e1,if_pos (by decide)];exact Xs (by omega)
 rw [e1,if_neg g1];exact Jc p1 (by omega)
theorem Zkt (x:ZN) (hb:x.bk<=1048576):Ev fun k=>Zex k x=some x:=by
 refine ((Ze0 x.cells (by have:=ZN.ZH x;omega)).and (Zf4 x.from_ (by have:=ZN.ZH x;omega))).mono ?_;rintro k ⟨h0,h1⟩;unfold Zex;rw [h0,Zyl];rw [h1,Zyl]
 all_goals (first | rfl| (cases x;rfl))
theorem Zkv (x:ZN) (hb:x.bk<=1073741824):Ev fun k=>Zey k x x=some true:=by
 refine ((Zfe x.cells (by have:=ZN.ZH x;omega)).and (Zf9 x.from_ (by have:=ZN.ZH x;omega))).mono ?_;rintro k ⟨h0,h1⟩;unfold Zey;simp [h0,h1]
theorem Zjf (xs:List ZN) (hf:DOk (.sl (xs.map ZN.c))):Ev fun k=>∀left:Int,0<=left->left<=1048576->Zdt k xs left=some (szR (bkS ZN.bk xs) left):=by
 have hx:∀x∈xs,∀left:Int,0<=left->left<=1048576->ZcO x left=some (szR (ZN.bk x) left):=fun x hm=>Zku x ((VK hf).2 x hm);refine (Ev.ge (xs.length+1)).mono fun k hk=> ?_;intro left l0 l1;unfold Zdt;refine JS ZN.bk xs (ZcO) (Wn xs) k (fun x hm l p q=> ?_) (fun n l i=>by rw [Wn]) (by omega) (VK hf).1 left l0 l1;rw [hx x hm l p q,Zyl];have:=Zbs (b:=ZN.bk x) (b2:=0) (F:=fun z=>some z) p fun z pz _=>Kf pz;exact this
theorem Zja (xs:List ZN) (hb:bkS ZN.bk xs<=1048576):Ev fun k=>Zdk k xs=some xs:=by
 refine ((Ev.all xs fun x hm=>Zkt x (by have:=QA (f:=ZN.bk) hm;omega)).and (Ev.ge (xs.length+1))).mono ?_;rintro k ⟨hx,hk⟩;unfold Zdk;exact Ua _ (by omega) _ xs (Zex k) (Wl k xs) k (fun x hm=>hx x hm) (fun n out i=>by rw [Wl]) (by omega) (by have:=Yj (f:=ZN.bk) (xs:=xs);omega)
theorem Zjj (xs:List ZN) (hb:bkS ZN.bk xs<=1073741824):Ev fun k=>ZdB k xs xs=some true:=by
 refine ((Ev.all xs fun x hm=>Zkv x (by have:=QA (f:=ZN.bk) hm;omega)).and (Ev.ge (xs.length+1))).mono ?_;rintro k ⟨hx,hk⟩;unfold ZdB;exact Ui xs (Zey k) (Wo k xs xs) k (fun x hm=>hx x hm) (fun n i=>by rw [Wo]) (by omega) (by have:=Yj (f:=ZN.bk) (xs:=xs);omega)
mutual
def Za.bk:Za->Nat
 | ⟨kind,n,step,text,list,columns,rows⟩=>text.size+((list.length+Za.bks list)+(bkS ByteArray.size columns+(bkS ZN.bk rows+(0))))
def Za.bks:List Za->Nat
 | []=>0
 | x::xs=>Za.bk x+Za.bks xs
end
theorem Za.Zkg:∀xs:List Za,Za.bks xs=Qx Za.bk xs
 | []=>rfl
 | x::xs=>by rw [Za.bks,Za.Zkg xs];rfl
theorem Za.ZH (x:Za):x.bk=x.text.size+(bkS Za.bk x.list+(bkS ByteArray.size x.columns+(bkS ZN.bk x.rows+(0)))):=by
 cases x;simp only [Za.bk,Za.Zkg,bkS]
theorem Za.ind {p:Za->Prop} (h:∀x,(∀y∈x.list,p y)->p x):∀x,p x
 | ⟨kind,n,step,text,list,columns,rows⟩=>h _ fun y hy=>Za.ind h y
termination_by x=>SizeOf.sizeOf x
decreasing_by
 have:=List.sizeOf_lt_of_mem hy;simp at this ⊢;omega
theorem Zg9 (xs:List Za) (hf:DOk (.sl (xs.map Za.c))) (ih:∀x∈xs,Ev fun k=>∀left:Int,0<=left->left<=1048576->QU k x left=some (szR (Za.bk x) left)):Ev fun k=>∀left:Int,0<=left->left<=1048576->US k xs left=some (szR (bkS Za.bk xs) left):=by
 refine ((Ev.all xs ih).and (Ev.ge (xs.length+1))).pred ?_;rintro k ⟨hx,hk⟩;intro left l0 l1;rw [US];refine JS Za.bk xs (QU k) (Q7 (QU k) xs) k (fun x hm l p q=> ?_) (fun n l i=>by rw [Q7]) (by omega) (VK hf).1 left l0 l1;rw [hx x hm l p q,Zyl];have:=Zbs (b:=Za.bk x) (b2:=0) (F:=fun z=>some z) p fun z pz _=>Kf pz;exact this
theorem Zg4 (xs:List Za) (hb:bkS Za.bk xs<=1048576) (ih:∀x∈xs,Ev fun k=>QT k x=some x):Ev fun k=>UR k xs=some xs:=by
 refine ((Ev.all xs ih).and (Ev.ge (xs.length+1))).pred ?_;rintro k ⟨hx,hk⟩;rw [UR];exact Ua _ (by omega) _ xs (QT k) (Q5 (QT k) xs) k (fun x hm=>hx x hm) (fun n out i=>by rw [Q5]) (by omega) (by have:=Yj (f:=Za.bk) (xs:=xs);omega)
theorem Zhc (xs:List Za) (hb:bkS Za.bk xs<=1073741824) (ih:∀x∈xs,Ev fun k=>QV k x x=some true):Ev fun k=>UT k xs xs=some true:=by
 refine ((Ev.all xs ih).and (Ev.ge (xs.length+1))).pred ?_;rintro k ⟨hx,hk⟩;rw [UT];exact Ui xs (QV k) (Q9 (QV k) xs xs) k (fun x hm=>hx x hm) (fun n i=>by rw [Q9]) (by omega) (by have:=Yj (f:=Za.bk) (xs:=xs);omega)
theorem Zdq (x:Za) (hf:Zcr x.c):Ev fun k=>∀left:Int,0<=left->left<=1048576->QU k x left=some (szR (x.bk) left):=by
 revert hf;refine Za.ind (p:=fun x=>Zcr x.c->Ev fun k=>∀left:Int,0<=left->left<=1048576->QU k x left=some (szR (x.bk) left)) ?_ x;clear x;intro x ih hf;have hf':=hf;rw [Za.UF] at hf';simp only [Zcr] at hf';obtain ⟨f0,f1,f2,f3,f4,f5,f6,_⟩:=hf';refine ((Zg9 x.list f4 fun y hy=>ih y hy ((VK f4).2 y hy)).and ((Zf5 x.columns f5).and (Zjf x.rows f6))).pred ?_;rintro k ⟨h0,h1,h2⟩;intro left l0 l1;rw [Za.ZH];rw [QU];rcases Zjs (b:=x.text.size) l0 l1 (ZeW f3) with ⟨z0,e0,g0,q0,p0,r0⟩| ⟨g0,q0⟩
 rotate_left
 ·rw [if_pos g0];exact Xs (by omega)
 rw [e0,if_neg g0];rw [h0 z0 p0 r0,Zyl];rcases XZ (b:=bkS Za.bk x.list) r0 with ⟨z1,e1,g1,q1,p1,r1⟩| ⟨e1,q1⟩
 rotate_left
 ·rw [e1,if_pos (by decide)];exact Xs (by omega)
 rw [e1,if_neg g1];rw [h1 z1 p1 r1,Zyl];rcases XZ (b:=bkS ByteArray.size x.columns) r1 with ⟨z2,e2,g2,q2,p2,r2⟩| ⟨e2,q2⟩
 rotate_left
 ·rw [e2,if_pos (by decide)];exact Xs (by omega)
 rw [e2,if_neg g2];rw [h2 z2 p2 r2,Zyl];rcases XZ (b:=bkS ZN.bk x.rows) r2 with ⟨z3,e3,g3,q3,p3,r3⟩| ⟨e3,q3⟩
 rotate_left
 ·rw [e3,if_pos (by decide)];exact Xs (by omega)
 rw [e3,if_neg g3];exact Jc p3 (by omega)
theorem Zdh (x:Za) (hb:x.bk<=1048576):Ev fun k=>QT k x=some x:=by
 revert hb;refine Za.ind (p:=fun x=>x.bk<=1048576->Ev fun k=>QT k x=some x) ?_ x;clear x;intro x ih hb;refine ((Zg4 x.list (by have:=Za.ZH x;omega) fun y hy=>ih y hy (by have:=QA (f:=Za.bk) hy;have:=Za.ZH x;omega)).and ((Zf2 x.columns (by have:=Za.ZH x;omega)).and (Zja x.rows (by have:=Za.ZH x;omega)))).pred ?_;rintro k ⟨h0,h1,h2⟩;rw [QT];rw [h0,Zyl];rw [h1,Zyl];rw [h2,Zyl]
 all_goals (first | rfl| (cases x;rfl))
theorem Zdz (x:Za) (hb:x.bk<=1073741824):Ev fun k=>QV k x x=some true:=by
 revert hb;refine Za.ind (p:=fun x=>x.bk<=1073741824->Ev fun k=>QV k x x=some true) ?_ x;clear x;intro x ih hb;refine ((Zhc x.list (by have:=Za.ZH x;omega) fun y hy=>ih y hy (by have:=QA (f:=Za.bk) hy;have:=Za.ZH x;omega)).and ((Zf8 x.columns (by have:=Za.ZH x;omega)).and (Zjj x.rows (by have:=Za.ZH x;omega)))).pred ?_;rintro k ⟨h0,h1,h2⟩;rw [QV];simp [h0,h1,h2]
def ZR.bk (x:ZR):Nat:=x.text.size+(Za.bk x.result+(0))
theorem ZR.ZH (x:ZR):x.bk=x.text.size+(Za.bk x.result+(0)):=rfl
theorem Zjg (x:ZR) (hf:Zcr x.c):Ev fun k=>∀left:Int,0<=left->left<=1048576->Zb2 k x left=some (szR (x.bk) left):=by
 have hf':=hf;rw [ZR.UF] at hf';simp only [Zcr] at hf';obtain ⟨f0,f1,f2,f3,f4,f5,f6,f7,f8,f9,f10,_⟩:=hf';refine (Zdq x.result (by rw [Za.UF];exact ⟨f4,f5,f6,f7,f8,f9,f10,trivial⟩)).mono ?_;rintro k h0;intro left l0 l1;rw [ZR.ZH];unfold Zb2;rcases Zjs (b:=x.text.size) l0 l1 (ZeW f3) with ⟨z0,e0,g0,q0,p0,r0⟩| ⟨g0,q0⟩
 rotate_left
 ·rw [if_pos g0];exact Xs (by omega)
 rw [e0,if_neg g0];rw [h0 z0 p0 r0,Zyl];rcases XZ (b:=Za.bk x.result) r0 with ⟨z1,e1,g1,q1,p1,r1⟩| ⟨e1,q1⟩
 rotate_left
 ·rw [e1,if_pos (by decide)];exact Xs (by omega)
 rw [e1,if_neg g1];exact Jc p1 (by omega)
theorem Zjb (x:ZR) (hb:x.bk<=1048576):Ev fun k=>ZbY k x=some x:=by
 refine (Zdh x.result (by have:=ZR.ZH x;omega)).mono ?_;rintro k h0;unfold ZbY;rw [h0,Zyl]
 all_goals (first | rfl| (cases x;rfl))
theorem Zjk (x:ZR) (hb:x.bk<=1073741824):Ev fun k=>Zb5 k x x=some true:=by
 refine (Zdz x.result (by have:=ZR.ZH x;omega)).mono ?_;rintro k h0;unfold Zb5;simp [h0]
theorem Zh2 (xs:List ZR) (hf:DOk (.sl (xs.map ZR.c))):Ev fun k=>∀left:Int,0<=left->left<=1048576->Zbb k xs left=some (szR (bkS ZR.bk xs) left):=by
 refine ((Ev.all xs fun x hm=>Zjg x ((VK hf).2 x hm)).and (Ev.ge (xs.length+1))).mono ?_;rintro k ⟨hx,hk⟩;intro left l0 l1;unfold Zbb;refine JS ZR.bk xs (Zb2 k) (XK k xs) k (fun x hm l p q=> ?_) (fun n l i=>by rw [XK]) (by omega) (VK hf).1 left l0 l1;rw [hx x hm l p q,Zyl];have:=Zbs (b:=ZR.bk x) (b2:=0) (F:=fun z=>some z) p fun z pz _=>Kf pz;exact this
theorem ZhW (xs:List ZR) (hb:bkS ZR.bk xs<=1048576):Ev fun k=>Za4 k xs=some xs:=by
 refine ((Ev.all xs fun x hm=>Zjb x (by have:=QA (f:=ZR.bk) hm;omega)).and (Ev.ge (xs.length+1))).mono ?_;rintro k ⟨hx,hk⟩;unfold Za4;exact Ua _ (by omega) _ xs (ZbY k) (XG k xs) k (fun x hm=>hx x hm) (fun n out i=>by rw [XG]) (by omega) (by have:=Yj (f:=ZR.bk) (xs:=xs);omega)
theorem Zh8 (xs:List ZR) (hb:bkS ZR.bk xs<=1073741824):Ev fun k=>Zbl k xs xs=some true:=by
 refine ((Ev.all xs fun x hm=>Zjk x (by have:=QA (f:=ZR.bk) hm;omega)).and (Ev.ge (xs.length+1))).mono ?_;rintro k ⟨hx,hk⟩;unfold Zbl;exact Ui xs (Zb5 k) (XO k xs xs) k (fun x hm=>hx x hm) (fun n i=>by rw [XO]) (by omega) (by have:=Yj (f:=ZR.bk) (xs:=xs);omega)
def ZQ.bk (x:ZQ):Nat:=bkS ZR.bk x.reads+(0)
theorem ZQ.ZH (x:ZQ):x.bk=bkS ZR.bk x.reads+(0):=rfl
theorem Zje (x:ZQ) (hf:Zcr x.c):Ev fun k=>∀left:Int,0<=left->left<=1048576->Zb1 k x left=some (szR (x.bk) left):=by
 have hf':=hf;rw [ZQ.UF] at hf';simp only [Zcr] at hf';obtain ⟨f0,f1,f2,_⟩:=hf';refine (Zh2 x.reads f2).mono ?_;rintro k h0;intro left l0 l1;rw [ZQ.ZH];unfold Zb1;rw [h0 left l0 l1,Zyl];rcases XZ (b:=bkS ZR.bk x.reads) l1 with ⟨z0,e0,g0,q0,p0,r0⟩| ⟨e0,q0⟩
 rotate_left
 ·rw [e0,if_pos (by decide)];exact Xs (by omega)
 rw [e0,if_neg g0];exact Jc p0 (by omega)
theorem Zi9 (x:ZQ) (hb:x.bk<=1048576):Ev fun k=>ZbX k x=some x:=by
 refine (ZhW x.reads (by have:=ZQ.ZH x;omega)).mono ?_;rintro k h0;unfold ZbX;rw [h0,Zyl]
 all_goals (first | rfl| (cases x;rfl))
theorem Zji (x:ZQ) (hb:x.bk<=1073741824):Ev fun k=>Zb4 k x x=some true:=by
 refine (Zh8 x.reads (by have:=ZQ.ZH x;omega)).mono ?_;rintro k h0;unfold Zb4;simp [h0]
theorem Zh1 (xs:List ZQ) (hf:DOk (.sl (xs.map ZQ.c))):Ev fun k=>∀left:Int,0<=left->left<=1048576->Za9 k xs left=some (szR (bkS ZQ.bk xs) left):=by
 refine ((Ev.all xs fun x hm=>Zje x ((VK hf).2 x hm)).and (Ev.ge (xs.length+1))).mono ?_;rintro k ⟨hx,hk⟩;intro left l0 l1;unfold Za9;refine JS ZQ.bk xs (Zb1 k) (XJ k xs) k (fun x hm l p q=> ?_) (fun n l i=>by rw [XJ]) (by omega) (VK hf).1 left l0 l1;rw [hx x hm l p q,Zyl];have:=Zbs (b:=ZQ.bk x) (b2:=0) (F:=fun z=>some z) p fun z pz _=>Kf pz;exact this
theorem ZhV (xs:List ZQ) (hb:bkS ZQ.bk xs<=1048576):Ev fun k=>Za2 k xs=some xs:=by
 refine ((Ev.all xs fun x hm=>Zi9 x (by have:=QA (f:=ZQ.bk) hm;omega)).and (Ev.ge (xs.length+1))).mono ?_;rintro k ⟨hx,hk⟩;unfold Za2;exact Ua _ (by omega) _ xs (ZbX k) (XF k xs) k (fun x hm=>hx x hm) (fun n out i=>by rw [XF]) (by omega) (by have:=Yj (f:=ZQ.bk) (xs:=xs);omega)
theorem Zh7 (xs:List ZQ) (hb:bkS ZQ.bk xs<=1073741824):Ev fun k=>Zbi k xs xs=some true:=by
 refine ((Ev.all xs fun x hm=>Zji x (by have:=QA (f:=ZQ.bk) hm;omega)).and (Ev.ge (xs.length+1))).mono ?_;rintro k ⟨hx,hk⟩;unfold Zbi;exact Ui xs (Zb4 k) (XN k xs xs) k (fun x hm=>hx x hm) (fun n i=>by rw [XN]) (by omega) (by have:=Yj (f:=ZQ.bk) (xs:=xs);omega)
def Zw.bk (x:Zw):Nat:=bkS (fun _=>0) x.inputs+(Za.bk x.value+(0))
theorem Zw.ZH (x:Zw):x.bk=bkS (fun _=>0) x.inputs+(Za.bk x.value+(0)):=rfl
theorem Zh4 (x:Zw) (hf:Zcr x.c):Ev fun k=>∀left:Int,0<=left->left<=1048576->Ku k x left=some (szR (x.bk) left):=by
 have hf':=hf;rw [Zw.UF] at hf';simp only [Zcr] at hf';obtain ⟨f0,f1,f2,f3,f4,f5,f6,f7,f8,f9,f10,f11,_⟩:=hf';have h0:=Ze8 x.inputs f3;refine (Zdq x.value (by rw [Za.UF];exact ⟨f4,f5,f6,f7,f8,f9,f10,trivial⟩)).mono ?_;rintro k h1;intro left l0 l1;rw [Zw.ZH];unfold Ku;rw [h0 left l0 l1,Zyl];rcases XZ (b:=bkS (fun _=>0) x.inputs) l1 with ⟨z0,e0,g0,q0,p0,r0⟩| ⟨e0,q0⟩
 rotate_left
 ·rw [e0,if_pos (by decide)];exact Xs (by omega)
 rw [e0,if_neg g0];rw [h1 z0 p0 r0,Zyl];rcases XZ (b:=Za.bk x.value) r0 with ⟨z1,e1,g1,q1,p1,r1⟩| ⟨e1,q1⟩
 rotate_left
 ·rw [e1,if_pos (by decide)];exact Xs (by omega)
 rw [e1,if_neg g1];exact Jc p1 (by omega)
theorem ZhY (x:Zw) (hb:x.bk<=1048576):Ev fun k=>Ks k x=some x:=by
 refine ((Ze0 x.inputs (by have:=Zw.ZH x;omega)).and (Zdh x.value (by have:=Zw.ZH x;omega))).mono ?_;rintro k ⟨h0,h1⟩;unfold Ks;rw [h0,Zyl];rw [h1,Zyl]
 all_goals (first | rfl| (cases x;rfl))
theorem Zia (x:Zw) (hb:x.bk<=1073741824):Ev fun k=>Kx k x x=some true:=by
 refine ((Zfe x.inputs (by have:=Zw.ZH x;omega)).and (Zdz x.value (by have:=Zw.ZH x;omega))).mono ?_;rintro k ⟨h0,h1⟩;unfold Kx;simp [h0,h1]
theorem Zhb (xs:List Zw) (hf:DOk (.sl (xs.map Zw.c))):Ev fun k=>∀left:Int,0<=left->left<=1048576->Kt k xs left=some (szR (bkS Zw.bk xs) left):=by
 refine ((Ev.all xs fun x hm=>Zh4 x ((VK hf).2 x hm)).and (Ev.ge (xs.length+1))).mono ?_;rintro k ⟨hx,hk⟩;intro left l0 l1;unfold Kt;refine JS Zw.bk xs (Ku k) (Q8 k xs) k (fun x hm l p q=> ?_) (fun n l i=>by rw [Q8]) (by omega) (VK hf).1 left l0 l1;rw [hx x hm l p q,Zyl];have:=Zbs (b:=Zw.bk x) (b2:=0) (F:=fun z=>some z) p fun z pz _=>Kf pz;exact this
theorem Zg7 (xs:List Zw) (hb:bkS Zw.bk xs<=1048576):Ev fun k=>Kr k xs=some xs:=by
 refine ((Ev.all xs fun x hm=>ZhY x (by have:=QA (f:=Zw.bk) hm;omega)).and (Ev.ge (xs.length+1))).mono ?_;rintro k ⟨hx,hk⟩;unfold Kr;exact Ua _ (by omega) _ xs (Ks k) (Q6 k xs) k (fun x hm=>hx x hm) (fun n out i=>by rw [Q6]) (by omega) (by have:=Yj (f:=Zw.bk) (xs:=xs);omega)
theorem Zhf (xs:List Zw) (hb:bkS Zw.bk xs<=1073741824):Ev fun k=>Kw k xs xs=some true:=by
 refine ((Ev.all xs fun x hm=>Zia x (by have:=QA (f:=Zw.bk) hm;omega)).and (Ev.ge (xs.length+1))).mono ?_;rintro k ⟨hx,hk⟩;unfold Kw;exact Ui xs (Kx k) (Xa k xs xs) k (fun x hm=>hx x hm) (fun n i=>by rw [Xa]) (by omega) (by have:=Yj (f:=Zw.bk) (xs:=xs);omega)
def Zz.bk (x:Zz):Nat:=Zd.bk x.notebook+(Yo.bk x.world+(bkS ZQ.bk x.tapes+(bkS Zw.bk x.entries+(0))))
theorem Zz.ZH (x:Zz):x.bk=Zd.bk x.notebook+(Yo.bk x.world+(bkS ZQ.bk x.tapes+(bkS Zw.bk x.entries+(0)))):=rfl
theorem Ka (x:Zz) (hf:Zcr x.c):Ev fun k=>∀left:Int,0<=left->left<=1048576->Kv k x left=some (szR (x.bk) left):=by
 have hf':=hf;rw [Zz.UF] at hf';simp only [Zcr] at hf';obtain ⟨f0,f1,f2,f3,f4,f5,f6,f7,f8,_⟩:=hf';refine ((ZfE x.notebook (by rw [Zd.UF];exact ⟨f0,trivial⟩)).and ((Zh0 x.world (by rw [Yo.UF];exact ⟨f1,f2,f3,trivial⟩)).and ((Zh1 x.tapes f4).and (Zhb x.entries f5)))).mono ?_;rintro k ⟨h0,h1,h2,h3⟩;intro left l0 l1;rw [Zz.ZH];unfold Kv;rw [h0 left l0 l1,Zyl];rcases XZ (b:=Zd.bk x.notebook) l1 with ⟨z0,e0,g0,q0,p0,r0⟩| ⟨e0,q0⟩
 rotate_left
 ·rw [e0,if_pos (by decide)];exact Xs (by omega)
 rw [e0,if_neg g0];rw [h1 z0 p0 r0,Zyl];rcases XZ (b:=Yo.bk x.world) r0 with ⟨z1,e1,g1,q1,p1,r1⟩| ⟨e1,q1⟩
 rotate_left
 ·rw [e1,if_pos (by decide)];exact Xs (by omega)
 rw [e1,if_neg g1];rw [h2 z1 p1 r1,Zyl];rcases XZ (b:=bkS ZQ.bk x.tapes) r1 with ⟨z2,e2,g2,q2,p2,r2⟩| ⟨e2,q2⟩
 rotate_left
 ·rw [e2,if_pos (by decide)];exact Xs (by omega)
 rw [e2,if_neg g2];rw [h3 z2 p2 r2,Zyl];rcases XZ (b:=bkS Zw.bk x.entries) r2 with ⟨z3,e3,g3,q3,p3,r3⟩| ⟨e3,q3⟩
 rotate_left
 ·rw [e3,if_pos (by decide)];exact Xs (by omega)
 rw [e3,if_neg g3];exact Jc p3 (by omega)
theorem Zg8 (x:Zz) (hb:x.bk<=1048576):Ev fun k=>VM k x=some x:=by
 refine ((ZfD x.notebook (by have:=Zz.ZH x;omega)).and ((ZhU x.world (by have:=Zz.ZH x;omega)).and ((ZhV x.tapes (by have:=Zz.ZH x;omega)).and (Zg7 x.entries (by have:=Zz.ZH x;omega))))).mono ?_;rintro k ⟨h0,h1,h2,h3⟩;unfold VM;rw [h0,Zyl];rw [h1,Zyl];rw [h2,Zyl];rw [h3,Zyl]
 all_goals (first | rfl| (cases x;rfl))
theorem Zhg (x:Zz) (hb:x.bk<=1073741824):Ev fun k=>Ky k x x=some true:=by
 refine ((ZfF x.notebook (by have:=Zz.ZH x;omega)).and ((Zh6 x.world (by have:=Zz.ZH x;omega)).and ((Zh7 x.tapes (by have:=Zz.ZH x;omega)).and (Zhf x.entries (by have:=Zz.ZH x;omega))))).mono ?_;rintro k ⟨h0,h1,h2,h3⟩;unfold Ky;simp [h0,h1,h2,h3]
def YA.bk (x:YA):Nat:=Zk.bk x.cell+(0)
theorem YA.ZH (x:YA):x.bk=Zk.bk x.cell+(0):=rfl
theorem Zfb (x:YA) (hf:Zcr x.c):∀left:Int,0<=left->left<=1048576->Zdx x left=some (szR (x.bk) left):=by
 have hf':=hf;rw [YA.UF] at hf';simp only [Zcr] at hf';obtain ⟨f0,f1,f2,f3,f4,f5,f6,f7,_⟩:=hf';have h0:=Zfc x.cell (by rw [Zk.UF];exact ⟨f2,f3,f4,f5,f6,f7,trivial⟩);intro left l0 l1;rw [YA.ZH];unfold Zdx;rw [h0 left l0 l1,Zyl];rcases XZ (b:=Zk.bk x.cell) l1 with ⟨z0,e0,g0,q0,p0,r0⟩| ⟨e0,q0⟩
 rotate_left
 ·rw [e0,if_pos (by decide)];exact Xs (by omega)
 rw [e0,if_neg g0];exact Jc p0 (by omega)
theorem Zjd (x:YA) (hb:x.bk<=1048576):Zb0 x=some x:=by
 have h0:=Ze3 x.cell (by have:=YA.ZH x;omega);unfold Zb0;rw [h0,Zyl]
 all_goals (first | rfl| (cases x;rfl))
mutual
def Zb.bk:Zb->Nat
 | ⟨kind,n,text,args⟩=>text.size+((args.length+Zb.bks args)+(0))
def Zb.bks:List Zb->Nat
 | []=>0
 | x::xs=>Zb.bk x+Zb.bks xs
end
theorem Zb.Zkg:∀xs:List Zb,Zb.bks xs=Qx Zb.bk xs
 | []=>rfl
 | x::xs=>by rw [Zb.bks,Zb.Zkg xs];rfl
theorem Zb.ZH (x:Zb):x.bk=x.text.size+(bkS Zb.bk x.args+(0)):=by
 cases x;simp only [Zb.bk,Zb.Zkg,bkS]
theorem Zb.ind {p:Zb->Prop} (h:∀x,(∀y∈x.args,p y)->p x):∀x,p x
 | ⟨kind,n,text,args⟩=>h _ fun y hy=>Zb.ind h y
termination_by x=>SizeOf.sizeOf x
decreasing_by
 have:=List.sizeOf_lt_of_mem hy;simp at this ⊢;omega
def Zq.bk (x:Zq):Nat:=x.name.size+(Zb.bk x.expr+(Za.bk x.value+(0)))
theorem Zq.ZH (x:Zq):x.bk=x.name.size+(Zb.bk x.expr+(Za.bk x.value+(0))):=rfl
theorem Zcs: @Y1= @Yb:=by
 funext b0 n
 induction n with
 | zero=>funext y0;rfl
 | succ n ih=>
  funext y0
  simp only [Y1,Yb,ih]
  try rfl
theorem ZeN: @W1= @X4:=by
 funext b0 b1
 simp only [W1,X4,Zcs]
 try rfl
theorem Zem: @QP= @Yc:=by
 funext b0 b1 n
 induction n with
 | zero=>funext y0;rfl
 | succ n ih=>
  funext y0
  simp only [QP,Yc,ih]
  try rfl
theorem JF: @Y6= @Xw:=by
 funext b0 b1 b2
 simp only [Y6,Xw,Zem]
 try rfl
theorem Zeg: @YM= @Uo:=by
 funext b0
 simp only [YM,Uo]
 try rfl
theorem ZbR: @YC= @ZO:=by
 funext b0 b1 b2 n
 induction n with
 | zero=>funext y0 y1;rfl
 | succ n ih=>
  funext y0 y1
  simp only [YC,ZO,JF,ih]
  try rfl
theorem Zel: @QO= @Qb:=by
 funext b0 b1 b2
 simp only [QO,Qb,ZbR,JF]
 try rfl
end Go.Proofs.YtbkllghhcphkaaaGreatDoor
