import Derived.Test.YtmcfegjoccgpoaaGreatDoorZPkC
set_option linter.unusedSimpArgs false
set_option linter.unusedVariables false
namespace Go.Proofs.YtmcfegjoccgpoaaGreatDoor
open Go.RowKit Am
structure Zo where
 id:Int
 version:Int
 kind:Int
 name:Ma
 code:Ma
 n:Int
def Zo.c (x:Zo):List L:=[.int .i64 x.id,.int .i64 x.version,.int .i64 x.kind,.str x.name,.str x.code,.int .i64 x.n]
@[go_sem] theorem Zo.ZY (x:Zo):x.c=[.int .i64 x.id,.int .i64 x.version,.int .i64 x.kind,.str x.name,.str x.code,.int .i64 x.n]:=rfl
@[go_sem] theorem Zo.ZwI (xs:List Zo):xs.all (Zfw∘Zo.c)=true:=by simp [Zfw,L.flat,Zo.ZY]
structure Zg where
 cells:List Zo
def Zg.c (x:Zg):List L:=[.sl (x.cells.map Zo.c)]
@[go_sem] theorem Zg.ZY (x:Zg):x.c=[.sl (x.cells.map Zo.c)]:=rfl
structure Zq where
 name:Ma
 n:Int
def Zq.c (x:Zq):List L:=[.str x.name,.int .i64 x.n]
@[go_sem] theorem Zq.ZY (x:Zq):x.c=[.str x.name,.int .i64 x.n]:=rfl
@[go_sem] theorem Zq.ZwI (xs:List Zq):xs.all (Zfw∘Zq.c)=true:=by simp [Zfw,L.flat,Zq.ZY]
structure ZD where
 clock:Int
 seed:Int
 files:List Zq
def ZD.c (x:ZD):List L:=[.int .i64 x.clock,.int .i64 x.seed,.sl (x.files.map Zq.c)]
@[go_sem] theorem ZD.ZY (x:ZD):x.c=[.int .i64 x.clock,.int .i64 x.seed,.sl (x.files.map Zq.c)]:=rfl
structure Zk where
 cell:Int
 row:Int
def Zk.c (x:Zk):List L:=[.int .i64 x.cell,.int .i64 x.row]
@[go_sem] theorem Zk.ZY (x:Zk):x.c=[.int .i64 x.cell,.int .i64 x.row]:=rfl
@[go_sem] theorem Zk.ZwI (xs:List Zk):xs.all (Zfw∘Zk.c)=true:=by simp [Zfw,L.flat,Zk.ZY]
structure ZP where
 cells:List Int
 from_:List Zk
def ZP.c (x:ZP):List L:=[.sl (x.cells.map iC),.sl (x.from_.map Zk.c)]
@[go_sem] theorem ZP.ZY (x:ZP):x.c=[.sl (x.cells.map iC),.sl (x.from_.map Zk.c)]:=rfl
structure Zb where
 kind:Int
 n:Int
 step:Int
 text:Ma
 list:List Zb
 columns:List Ma
 rows:List ZP
mutual
def Zb.c:Zb->List L
 | ⟨k,n,step,p,l,j,m⟩=>[.int .i64 k,.int .i64 n,.int .i64 step,.str p,.sl (Zb.cs l),.sl (j.map sC),.sl (m.map ZP.c)]
def Zb.cs:List Zb->List (List L)
 | []=>[]
 | x::xs=>Zb.c x::Zb.cs xs
end
theorem Zb.Zoo:∀xs:List Zb,Zb.cs xs=xs.map Zb.c
 | []=>rfl
 | x::xs=>by rw [Zb.cs,Zb.Zoo xs];rfl
@[go_sem] theorem Zb.ZY (x:Zb):x.c=[.int .i64 x.kind,.int .i64 x.n,.int .i64 x.step,.str x.text,.sl (x.list.map Zb.c),.sl (x.columns.map sC),.sl (x.rows.map ZP.c)]:=by
 cases x;simp only [Zb.c,Zb.Zoo]
structure Zw where
 kind:Int
 n:Int
 time:Int
 text:Ma
 result:Zb
def Zw.c (x:Zw):List L:=[.int .i64 x.kind,.int .i64 x.n,.int .i64 x.time,.str x.text,.int .i64 x.result.kind,.int .i64 x.result.n,.int .i64 x.result.step,.str x.result.text,.sl (x.result.list.map Zb.c),.sl (x.result.columns.map sC),.sl (x.result.rows.map ZP.c)]
@[go_sem] theorem Zw.ZY (x:Zw):x.c=[.int .i64 x.kind,.int .i64 x.n,.int .i64 x.time,.str x.text,.int .i64 x.result.kind,.int .i64 x.result.n,.int .i64 x.result.step,.str x.result.text,.sl (x.result.list.map Zb.c),.sl (x.result.columns.map sC),.sl (x.result.rows.map ZP.c)]:=rfl
structure Zn where
 cell:Int
 version:Int
 reads:List Zw
def Zn.c (x:Zn):List L:=[.int .i64 x.cell,.int .i64 x.version,.sl (x.reads.map Zw.c)]
@[go_sem] theorem Zn.ZY (x:Zn):x.c=[.int .i64 x.cell,.int .i64 x.version,.sl (x.reads.map Zw.c)]:=rfl
structure Ze where
 cell:Int
 version:Int
 stamp:Int
 inputs:List Int
 value:Zb
 has:Bool
def Ze.c (x:Ze):List L:=[.int .i64 x.cell,.int .i64 x.version,.int .i64 x.stamp,.sl (x.inputs.map iC),.int .i64 x.value.kind,.int .i64 x.value.n,.int .i64 x.value.step,.str x.value.text,.sl (x.value.list.map Zb.c),.sl (x.value.columns.map sC),.sl (x.value.rows.map ZP.c),.bool x.has]
@[go_sem] theorem Ze.ZY (x:Ze):x.c=[.int .i64 x.cell,.int .i64 x.version,.int .i64 x.stamp,.sl (x.inputs.map iC),.int .i64 x.value.kind,.int .i64 x.value.n,.int .i64 x.value.step,.str x.value.text,.sl (x.value.list.map Zb.c),.sl (x.value.columns.map sC),.sl (x.value.rows.map ZP.c),.bool x.has]:=rfl
structure Za where
 notebook:Zg
 world:ZD
 tapes:List Zn
 entries:List Ze
 next:Int
 limit:Int
 work:Int
def Za.c (x:Za):List L:=[.sl (x.notebook.cells.map Zo.c),.int .i64 x.world.clock,.int .i64 x.world.seed,.sl (x.world.files.map Zq.c),.sl (x.tapes.map Zn.c),.sl (x.entries.map Ze.c),.int .i64 x.next,.int .i64 x.limit,.int .i64 x.work]
@[go_sem] theorem Za.ZY (x:Za):x.c=[.sl (x.notebook.cells.map Zo.c),.int .i64 x.world.clock,.int .i64 x.world.seed,.sl (x.world.files.map Zq.c),.sl (x.tapes.map Zn.c),.sl (x.entries.map Ze.c),.int .i64 x.next,.int .i64 x.limit,.int .i64 x.work]:=rfl
structure Zj where
 kind:Int
 n:Int
 at_:Int
 text:Ma
def Zj.c (x:Zj):List L:=[.int .i64 x.kind,.int .i64 x.n,.int .i64 x.at_,.str x.text]
@[go_sem] theorem Zj.ZY (x:Zj):x.c=[.int .i64 x.kind,.int .i64 x.n,.int .i64 x.at_,.str x.text]:=rfl
structure Zd where
 toks:List Zj
 i:Int
 end_:Int
 bad:Int
def Zd.c (x:Zd):List L:=[.sl (x.toks.map Zj.c),.int .i64 x.i,.int .i64 x.end_,.int .i64 x.bad]
@[go_sem] theorem Zd.ZY (x:Zd):x.c=[.sl (x.toks.map Zj.c),.int .i64 x.i,.int .i64 x.end_,.int .i64 x.bad]:=rfl
structure Zc where
 kind:Int
 n:Int
 text:Ma
 args:List Zc
mutual
def Zc.c:Zc->List L
 | ⟨j,n,k,args⟩=>[.int .i64 j,.int .i64 n,.str k,.sl (Zc.cs args)]
def Zc.cs:List Zc->List (List L)
 | []=>[]
 | x::xs=>Zc.c x::Zc.cs xs
end
theorem Zc.Zoo:∀xs:List Zc,Zc.cs xs=xs.map Zc.c
 | []=>rfl
 | x::xs=>by rw [Zc.cs,Zc.Zoo xs];rfl
@[go_sem] theorem Zc.ZY (x:Zc):x.c=[.int .i64 x.kind,.int .i64 x.n,.str x.text,.sl (x.args.map Zc.c)]:=by
 cases x;simp only [Zc.c,Zc.Zoo]
structure Zl where
 kind:Int
 name:Ma
 expr:Zc
 value:Zb
 at_:Int
def Zl.c (x:Zl):List L:=[.int .i64 x.kind,.str x.name,.int .i64 x.expr.kind,.int .i64 x.expr.n,.str x.expr.text,.sl (x.expr.args.map Zc.c),.int .i64 x.value.kind,.int .i64 x.value.n,.int .i64 x.value.step,.str x.value.text,.sl (x.value.list.map Zb.c),.sl (x.value.columns.map sC),.sl (x.value.rows.map ZP.c),.int .i64 x.at_]
@[go_sem] theorem Zl.ZY (x:Zl):x.c=[.int .i64 x.kind,.str x.name,.int .i64 x.expr.kind,.int .i64 x.expr.n,.str x.expr.text,.sl (x.expr.args.map Zc.c),.int .i64 x.value.kind,.int .i64 x.value.n,.int .i64 x.value.step,.str x.value.text,.sl (x.value.list.map Zb.c),.sl (x.value.columns.map sC),.sl (x.value.rows.map ZP.c),.int .i64 x.at_]:=rfl
structure Yb where
 parts:List Zl
 fixed:List Bool
 fresh:List Bool
 known:List Bool
 inputs:List (List Int)
def Yb.c (x:Yb):List L:=[.sl (x.parts.map Zl.c),.sl (x.fixed.map bC),.sl (x.fresh.map bC),.sl (x.known.map bC),.sl (x.inputs.map (lC iC))]
@[go_sem] theorem Yb.ZY (x:Yb):x.c=[.sl (x.parts.map Zl.c),.sl (x.fixed.map bC),.sl (x.fresh.map bC),.sl (x.known.map bC),.sl (x.inputs.map (lC iC))]:=rfl
structure Zf where
 list:List Zj
 at_:Int
 bad:Int
def Zf.c (x:Zf):List L:=[.sl (x.list.map Zj.c),.int .i64 x.at_,.int .i64 x.bad]
@[go_sem] theorem Zf.ZY (x:Zf):x.c=[.sl (x.list.map Zj.c),.int .i64 x.at_,.int .i64 x.bad]:=rfl
def ZbL (a0:Zo) (a1:Int):Option Int:= if (decide ((GZ (a1-(a0.name.size:Int)))<0)) then some (-1) else if (decide ((GZ ((GZ (a1-(a0.name.size:Int)))-(a0.code.size:Int)))<0)) then some (-1) else some (GZ ((GZ (a1-(a0.name.size:Int)))-(a0.code.size:Int)))
def VU (a0:List Zo):Nat->Int->Int->Option (Int ⊕ Int) | 0,_,_=>none | m+1,k,j=> if (decide (j<(a0.length:Int))) then (at? a0 j).bind λp=> (ZbL p k).bind λl=> if (decide (l<0)) then some (.inr (-1)) else VU a0 m l (GZ (j+1)) else some (.inl k)
def Zc4 (k:Nat) (a0:List Zo) (a1:Int):Option Int:= if (decide ((GZ (a1-(a0.length:Int)))<0)) then some (-1) else (VU a0 k (GZ (a1-(a0.length:Int))) 0:Option (Int ⊕ Int)).bind fun | .inl j=>( some j) | .inr l=>( some l)
def Jx (k:Nat) (a0:Zg) (a1:Int):Option Int:= (Zc4 k a0.cells a1).bind λj=> if (decide (j<0)) then some (-1) else some j
def ZbK (a0:Zq) (a1:Int):Option Int:= if (decide ((GZ (a1-(a0.name.size:Int)))<0)) then some (-1) else some (GZ (a1-(a0.name.size:Int)))
def VT (a0:List Zq):Nat->Int->Int->Option (Int ⊕ Int) | 0,_,_=>none | m+1,k,j=> if (decide (j<(a0.length:Int))) then (at? a0 j).bind λp=> (ZbK p k).bind λl=> if (decide (l<0)) then some (.inr (-1)) else VT a0 m l (GZ (j+1)) else some (.inl k)
def Zc3 (k:Nat) (a0:List Zq) (a1:Int):Option Int:= if (decide ((GZ (a1-(a0.length:Int)))<0)) then some (-1) else (VT a0 k (GZ (a1-(a0.length:Int))) 0:Option (Int ⊕ Int)).bind fun | .inl j=>( some j) | .inr l=>( some l)
def ZcY (k:Nat) (a0:ZD) (a1:Int):Option Int:= (Zc3 k a0.files a1).bind λj=> if (decide (j<0)) then some (-1) else some j
def We (a0:List Ma):Nat->Int->Int->Option (Int ⊕ Int) | 0,_,_=>none | m+1,j,k=> if (decide (k<(a0.length:Int))) then (at? a0 k).bind λl=> if (decide ((GZ (j-(l.size:Int)))<0)) then some (.inr (-1)) else We a0 m (GZ (j-(l.size:Int))) (GZ (k+1)) else some (.inl j)
def Ks (k:Nat) (a0:List Ma) (a1:Int):Option Int:= if (decide ((GZ (a1-(a0.length:Int)))<0)) then some (-1) else (We a0 k (GZ (a1-(a0.length:Int))) 0:Option (Int ⊕ Int)).bind fun | .inl j=>( some j) | .inr l=>( some l)
def Zeh (a0:List Int) (a1:Int):Option Int:= if (decide ((GZ (a1-(a0.length:Int)))<0)) then some (-1) else some (GZ (a1-(a0.length:Int)))
def Kt (a0:List Zk) (a1:Int):Option Int:= if (decide ((GZ (a1-(a0.length:Int)))<0)) then some (-1) else some (GZ (a1-(a0.length:Int)))
def Zfj (a0:ZP) (a1:Int):Option Int:= (Zeh a0.cells a1).bind λj=> if (decide (j<0)) then some (-1) else (Kt a0.from_ j).bind λk=> if (decide (k<0)) then some (-1) else some k
def UH (a0:List ZP):Nat->Int->Int->Option (Int ⊕ Int) | 0,_,_=>none | m+1,k,j=> if (decide (j<(a0.length:Int))) then (at? a0 j).bind λp=> (Zfj p k).bind λl=> if (decide (l<0)) then some (.inr (-1)) else UH a0 m l (GZ (j+1)) else some (.inl k)
def ZfT (k:Nat) (a0:List ZP) (a1:Int):Option Int:= if (decide ((GZ (a1-(a0.length:Int)))<0)) then some (-1) else (UH a0 k (GZ (a1-(a0.length:Int))) 0:Option (Int ⊕ Int)).bind fun | .inl j=>( some j) | .inr l=>( some l)
def WY (j:Zb->Int->Option Int) (a0:List Zb):Nat->Int->Int->Option (Int ⊕ Int) | 0,_,_=>none | p+1,l,k=> if (decide (k<(a0.length:Int))) then (at? a0 k).bind λr=> (j r l).bind λm=> if (decide (m<0)) then some (.inr (-1)) else WY j a0 p m (GZ (k+1)) else some (.inl l)
mutual
def Kc:Nat->(List Zb)->Int->Option Int | 0,_,_=>none | k+1,a0,a1=> if (decide ((GZ (a1-(a0.length:Int)))<0)) then some (-1) else (WY (Xu k) a0 k (GZ (a1-(a0.length:Int))) 0:Option (Int ⊕ Int)).bind fun | .inl j=>( some j) | .inr p=>( some p)
def Xu:Nat->Zb->Int->Option Int | 0,_,_=>none | k+1,a0,a1=> if (decide ((GZ (a1-(a0.text.size:Int)))<0)) then some (-1) else (Kc k a0.list (GZ (a1-(a0.text.size:Int)))).bind λj=> if (decide (j<0)) then some (-1) else (Ks k a0.columns j).bind λl=> if (decide (l<0)) then some (-1) else (ZfT k a0.rows l).bind λm=> if (decide (m<0)) then some (-1) else some m
end
def Zeg (k:Nat) (a0:Zw) (a1:Int):Option Int:= if (decide ((GZ (a1-(a0.text.size:Int)))<0)) then some (-1) else (Xu k a0.result (GZ (a1-(a0.text.size:Int)))).bind λj=> if (decide (j<0)) then some (-1) else some j
def VS (k:Nat) (a0:List Zw):Nat->Int->Int->Option (Int ⊕ Int) | 0,_,_=>none | p+1,l,j=> if (decide (j<(a0.length:Int))) then (at? a0 j).bind λr=> (Zeg k r l).bind λm=> if (decide (m<0)) then some (.inr (-1)) else VS k a0 p m (GZ (j+1)) else some (.inl l)
def Zc1 (k:Nat) (a0:List Zw) (a1:Int):Option Int:= if (decide ((GZ (a1-(a0.length:Int)))<0)) then some (-1) else (VS k a0 k (GZ (a1-(a0.length:Int))) 0:Option (Int ⊕ Int)).bind fun | .inl j=>( some j) | .inr l=>( some l)
def Zef (k:Nat) (a0:Zn) (a1:Int):Option Int:= (Zc1 k a0.reads a1).bind λj=> if (decide (j<0)) then some (-1) else some j
def VR (k:Nat) (a0:List Zn):Nat->Int->Int->Option (Int ⊕ Int) | 0,_,_=>none | p+1,l,j=> if (decide (j<(a0.length:Int))) then (at? a0 j).bind λr=> (Zef k r l).bind λm=> if (decide (m<0)) then some (.inr (-1)) else VR k a0 p m (GZ (j+1)) else some (.inl l)
def ZcZ (k:Nat) (a0:List Zn) (a1:Int):Option Int:= if (decide ((GZ (a1-(a0.length:Int)))<0)) then some (-1) else (VR k a0 k (GZ (a1-(a0.length:Int))) 0:Option (Int ⊕ Int)).bind fun | .inl j=>( some j) | .inr l=>( some l)
def ZaQ (k:Nat) (a0:Ze) (a1:Int):Option Int:= (Zeh a0.inputs a1).bind λj=> if (decide (j<0)) then some (-1) else (Xu k a0.value j).bind λl=> if (decide (l<0)) then some (-1) else some l
def WZ (k:Nat) (a0:List Ze):Nat->Int->Int->Option (Int ⊕ Int) | 0,_,_=>none | p+1,l,j=> if (decide (j<(a0.length:Int))) then (at? a0 j).bind λr=> (ZaQ k r l).bind λm=> if (decide (m<0)) then some (.inr (-1)) else WZ k a0 p m (GZ (j+1)) else some (.inl l)
def ZaP (k:Nat) (a0:List Ze) (a1:Int):Option Int:= if (decide ((GZ (a1-(a0.length:Int)))<0)) then some (-1) else (WZ k a0 k (GZ (a1-(a0.length:Int))) 0:Option (Int ⊕ Int)).bind fun | .inl j=>( some j) | .inr l=>( some l)
def W0 (k:Nat) (a0:Za) (a1:Int):Option Int:= (Jx k a0.notebook a1).bind λj=> if (decide (j<0)) then some (-1) else (ZcY k a0.world j).bind λl=> if (decide (l<0)) then some (-1) else (ZcZ k a0.tapes l).bind λm=> if (decide (m<0)) then some (-1) else (ZaP k a0.entries m).bind λp=> if (decide (p<0)) then some (-1) else some p
def ZbJ (a0:Zo):Option Zo:= some a0
def VQ (a0:List Zo):Nat->(List Zo)->Int->Option (List Zo) | 0,_,_=>none | l+1,k,j=> if (decide (j<(a0.length:Int))) then (at? a0 j).bind λm=> (ZbJ m).bind λp=> (at? k j).bind λr=> VQ a0 l (k.set j.toNat p) (GZ (j+1)) else some k
def ZcX (k:Nat) (a0:List Zo):Option (List Zo):= (mk? 64 (a0.length:Int)).bind λj=> (VQ a0 k (List.replicate j (Zo.mk 0 0 0 (⟨#[]⟩:Ma) (⟨#[]⟩:Ma) 0)) 0).bind λl=> some l
def Jw (k:Nat) (a0:Zg):Option Zg:= (ZcX k a0.cells).bind λj=> some (Zg.mk j)
def ZbI (a0:Zq):Option Zq:= some a0
def VP (a0:List Zq):Nat->(List Zq)->Int->Option (List Zq) | 0,_,_=>none | l+1,k,j=> if (decide (j<(a0.length:Int))) then (at? a0 j).bind λm=> (ZbI m).bind λp=> (at? k j).bind λr=> VP a0 l (k.set j.toNat p) (GZ (j+1)) else some k
def ZcW (k:Nat) (a0:List Zq):Option (List Zq):= (mk? 24 (a0.length:Int)).bind λj=> (VP a0 k (List.replicate j (Zq.mk (⟨#[]⟩:Ma) 0)) 0).bind λl=> some l
def ZcR (k:Nat) (a0:ZD):Option ZD:= (ZcW k a0.files).bind λj=> some (ZD.mk a0.clock a0.seed j)
def Wc (a0:List Ma):Nat->(List Ma)->Int->Option (List Ma) | 0,_,_=>none | l+1,k,j=> if (decide (j<(a0.length:Int))) then (at? a0 j).bind λm=> (at? k j).bind λp=> Wc a0 l (k.set j.toNat m) (GZ (j+1)) else some k
def Kq (k:Nat) (a0:List Ma):Option (List Ma):= (mk? 16 (a0.length:Int)).bind λj=> (Wc a0 k (List.replicate j (⟨#[]⟩:Ma)) 0).bind λl=> some l
def UG (a0:List Int):Nat->(List Int)->Int->Option (List Int) | 0,_,_=>none | l+1,k,j=> if (decide (j<(a0.length:Int))) then (at? a0 j).bind λm=> (at? k j).bind λp=> UG a0 l (k.set j.toNat m) (GZ (j+1)) else some k
def Zee (k:Nat) (a0:List Int):Option (List Int):= (mk? 8 (a0.length:Int)).bind λj=> (UG a0 k (List.replicate j 0) 0).bind λl=> some l
def UF (a0:Zk):Option Zk:= some a0
def Wd (a0:List Zk):Nat->(List Zk)->Int->Option (List Zk) | 0,_,_=>none | l+1,k,j=> if (decide (j<(a0.length:Int))) then (at? a0 j).bind λm=> (UF m).bind λp=> (at? k j).bind λr=> Wd a0 l (k.set j.toNat p) (GZ (j+1)) else some k
def Kr (k:Nat) (a0:List Zk):Option (List Zk):= (mk? 16 (a0.length:Int)).bind λj=> (Wd a0 k (List.replicate j (Zk.mk 0 0)) 0).bind λl=> some l
def Zhv (k:Nat) (a0:ZP):Option ZP:= (Zee k a0.cells).bind λj=> (Kr k a0.from_).bind λl=> some (ZP.mk j l)
def UE (k:Nat) (a0:List ZP):Nat->(List ZP)->Int->Option (List ZP) | 0,_,_=>none | m+1,l,j=> if (decide (j<(a0.length:Int))) then (at? a0 j).bind λp=> (Zhv k p).bind λr=> (at? l j).bind λs=> UE k a0 m (l.set j.toNat r) (GZ (j+1)) else some l
def ZfK (k:Nat) (a0:List ZP):Option (List ZP):= (mk? 48 (a0.length:Int)).bind λj=> (UE k a0 k (List.replicate j (ZP.mk [] [])) 0).bind λl=> some l
def WW (j:Zb->Option Zb) (a0:List Zb):Nat->(List Zb)->Int->Option (List Zb) | 0,_,_=>none | m+1,l,k=> if (decide (k<(a0.length:Int))) then (at? a0 k).bind λp=> (j p).bind λr=> (at? l k).bind λs=> WW j a0 m (l.set k.toNat r) (GZ (k+1)) else some l
mutual
def Kb:Nat->(List Zb)->Option (List Zb) | 0,_=>none | k+1,a0=> (mk? 112 (a0.length:Int)).bind λj=> (WW (Xt k) a0 k (List.replicate j (Zb.mk 0 0 0 (⟨#[]⟩:Ma) [] [] [])) 0).bind λl=> some l
def Xt:Nat->Zb->Option Zb | 0,_=>none | k+1,a0=> (Kb k a0.list).bind λj=> (Kq k a0.columns).bind λl=> (ZfK k a0.rows).bind λm=> some (Zb.mk a0.kind a0.n a0.step a0.text j l m)
end
def Zed (k:Nat) (a0:Zw):Option Zw:= (Xt k a0.result).bind λj=> some (Zw.mk a0.kind a0.n a0.time a0.text j)
def VO (k:Nat) (a0:List Zw):Nat->(List Zw)->Int->Option (List Zw) | 0,_,_=>none | m+1,l,j=> if (decide (j<(a0.length:Int))) then (at? a0 j).bind λp=> (Zed k p).bind λr=> (at? l j).bind λs=> VO k a0 m (l.set j.toNat r) (GZ (j+1)) else some l
def ZcU (k:Nat) (a0:List Zw):Option (List Zw):= (mk? 152 (a0.length:Int)).bind λj=> (VO k a0 k (List.replicate j (Zw.mk 0 0 0 (⟨#[]⟩:Ma) (Zb.mk 0 0 0 (⟨#[]⟩:Ma) [] [] []))) 0).bind λl=> some l
def Zec (k:Nat) (a0:Zn):Option Zn:= (ZcU k a0.reads).bind λj=> some (Zn.mk a0.cell a0.version j)
def VN (k:Nat) (a0:List Zn):Nat->(List Zn)->Int->Option (List Zn) | 0,_,_=>none | m+1,l,j=> if (decide (j<(a0.length:Int))) then (at? a0 j).bind λp=> (Zec k p).bind λr=> (at? l j).bind λs=> VN k a0 m (l.set j.toNat r) (GZ (j+1)) else some l
def ZcS (k:Nat) (a0:List Zn):Option (List Zn):= (mk? 40 (a0.length:Int)).bind λj=> (VN k a0 k (List.replicate j (Zn.mk 0 0 [])) 0).bind λl=> some l
def ZaO (k:Nat) (a0:Ze):Option Ze:= (Zee k a0.inputs).bind λj=> (Xt k a0.value).bind λl=> some (Ze.mk a0.cell a0.version a0.stamp j l a0.has)
def WX (k:Nat) (a0:List Ze):Nat->(List Ze)->Int->Option (List Ze) | 0,_,_=>none | m+1,l,j=> if (decide (j<(a0.length:Int))) then (at? a0 j).bind λp=> (ZaO k p).bind λr=> (at? l j).bind λs=> WX k a0 m (l.set j.toNat r) (GZ (j+1)) else some l
def ZaN (k:Nat) (a0:List Ze):Option (List Ze):= (mk? 168 (a0.length:Int)).bind λj=> (WX k a0 k (List.replicate j (Ze.mk 0 0 0 [] (Zb.mk 0 0 0 (⟨#[]⟩:Ma) [] [] []) false)) 0).bind λl=> some l
def Z0 (k:Nat) (a0:Za):Option Za:= (Jw k a0.notebook).bind λj=> (ZcR k a0.world).bind λl=> (ZcS k a0.tapes).bind λm=> (ZaN k a0.entries).bind λp=> some (Za.mk j l m p a0.next a0.limit a0.work)
def UK (a0:List Int) (a1:List Int):Nat->Int->Option (Unit ⊕ Bool) | 0,_=>none | k+1,j=> if (decide (j<(a0.length:Int))) then (at? a0 j).bind λl=> (at? a1 j).bind λm=> if (!decide (l=m)) then some (.inr false) else UK a0 a1 k (GZ (j+1)) else some (.inl ())
def Vv (k:Nat) (a0:List Int) (a1:List Int):Option Bool:= if (!decide ((a0.length:Int)=(a1.length:Int))) then some false else (UK a0 a1 k 0:Option (Unit ⊕ Bool)).bind fun | .inl _=>( some true) | .inr j=>( some j)
def ZbN (a0:Zo) (a1:Zo):Option Bool:= if (!decide (a0.id=a1.id)) then some false else if (!decide (a0.version=a1.version)) then some false else if (!decide (a0.kind=a1.kind)) then some false else if (!decide (a0.name=a1.name)) then some false else if (!decide (a0.code=a1.code)) then some false else if (!decide (a0.n=a1.n)) then some false else some true
def VY (a0:List Zo) (a1:List Zo):Nat->Int->Option (Unit ⊕ Bool) | 0,_=>none | k+1,j=> if (decide (j<(a0.length:Int))) then (at? a0 j).bind λl=> (at? a1 j).bind λm=> (ZbN l m).bind λp=> if (!p) then some (.inr false) else VY a0 a1 k (GZ (j+1)) else some (.inl ())
def Zdb (k:Nat) (a0:List Zo) (a1:List Zo):Option Bool:= if (!decide ((a0.length:Int)=(a1.length:Int))) then some false else (VY a0 a1 k 0:Option (Unit ⊕ Bool)).bind fun | .inl _=>( some true) | .inr j=>( some j)
def Jy (k:Nat) (a0:Zg) (a1:Zg):Option Bool:= (Zdb k a0.cells a1.cells).bind λj=> if (!j) then some false else some true
def ZbM (a0:Zq) (a1:Zq):Option Bool:= if (!decide (a0.name=a1.name)) then some false else if (!decide (a0.n=a1.n)) then some false else some true
def VX (a0:List Zq) (a1:List Zq):Nat->Int->Option (Unit ⊕ Bool) | 0,_=>none | k+1,j=> if (decide (j<(a0.length:Int))) then (at? a0 j).bind λl=> (at? a1 j).bind λm=> (ZbM l m).bind λp=> if (!p) then some (.inr false) else VX a0 a1 k (GZ (j+1)) else some (.inl ())
def Zda (k:Nat) (a0:List Zq) (a1:List Zq):Option Bool:= if (!decide ((a0.length:Int)=(a1.length:Int))) then some false else (VX a0 a1 k 0:Option (Unit ⊕ Bool)).bind fun | .inl _=>( some true) | .inr j=>( some j)
def Zc5 (k:Nat) (a0:ZD) (a1:ZD):Option Bool:= if (!decide (a0.clock=a1.clock)) then some false else if (!decide (a0.seed=a1.seed)) then some false else (Zda k a0.files a1.files).bind λj=> if (!j) then some false else some true
def Wf (a0:List Ma) (a1:List Ma):Nat->Int->Option (Unit ⊕ Bool) | 0,_=>none | k+1,j=> if (decide (j<(a0.length:Int))) then (at? a0 j).bind λl=> (at? a1 j).bind λm=> if (!decide (l=m)) then some (.inr false) else Wf a0 a1 k (GZ (j+1)) else some (.inl ())
def Ku (k:Nat) (a0:List Ma) (a1:List Ma):Option Bool:= if (!decide ((a0.length:Int)=(a1.length:Int))) then some false else (Wf a0 a1 k 0:Option (Unit ⊕ Bool)).bind fun | .inl _=>( some true) | .inr j=>( some j)
def UJ (a0:Zk) (a1:Zk):Option Bool:= if (!decide (a0.cell=a1.cell)) then some false else if (!decide (a0.row=a1.row)) then some false else some true
def Wg (a0:List Zk) (a1:List Zk):Nat->Int->Option (Unit ⊕ Bool) | 0,_=>none | k+1,j=> if (decide (j<(a0.length:Int))) then (at? a0 j).bind λl=> (at? a1 j).bind λm=> (UJ l m).bind λp=> if (!p) then some (.inr false) else Wg a0 a1 k (GZ (j+1)) else some (.inl ())
def Kv (k:Nat) (a0:List Zk) (a1:List Zk):Option Bool:= if (!decide ((a0.length:Int)=(a1.length:Int))) then some false else (Wg a0 a1 k 0:Option (Unit ⊕ Bool)).bind fun | .inl _=>( some true) | .inr j=>( some j)
def Zhw (k:Nat) (a0:ZP) (a1:ZP):Option Bool:= (Vv k a0.cells a1.cells).bind λj=> if (!j) then some false else (Kv k a0.from_ a1.from_).bind λl=> if (!l) then some false else some true
def UI (k:Nat) (a0:List ZP) (a1:List ZP):Nat->Int->Option (Unit ⊕ Bool) | 0,_=>none | l+1,j=> if (decide (j<(a0.length:Int))) then (at? a0 j).bind λm=> (at? a1 j).bind λp=> (Zhw k m p).bind λr=> if (!r) then some (.inr false) else UI k a0 a1 l (GZ (j+1)) else some (.inl ())
def Zf2 (k:Nat) (a0:List ZP) (a1:List ZP):Option Bool:= if (!decide ((a0.length:Int)=(a1.length:Int))) then some false else (UI k a0 a1 k 0:Option (Unit ⊕ Bool)).bind fun | .inl _=>( some true) | .inr j=>( some j)
def W1 (j:Zb->Zb->Option Bool) (a0:List Zb) (a1:List Zb):Nat->Int->Option (Unit ⊕ Bool) | 0,_=>none | l+1,k=> if (decide (k<(a0.length:Int))) then (at? a0 k).bind λm=> (at? a1 k).bind λp=> (j m p).bind λr=> if (!r) then some (.inr false) else W1 j a0 a1 l (GZ (k+1)) else some (.inl ())
mutual
def Kd:Nat->(List Zb)->(List Zb)->Option Bool | 0,_,_=>none | k+1,a0,a1=> if (!decide ((a0.length:Int)=(a1.length:Int))) then some false else (W1 (Xv k) a0 a1 k 0:Option (Unit ⊕ Bool)).bind fun | .inl _=>( some true) | .inr p=>( some p)
def Xv:Nat->Zb->Zb->Option Bool | 0,_,_=>none | k+1,a0,a1=> if (!decide (a0.kind=a1.kind)) then some false else if (!decide (a0.n=a1.n)) then some false else if (!decide (a0.step=a1.step)) then some false else if (!decide (a0.text=a1.text)) then some false else (Kd k a0.list a1.list).bind λj=> if (!j) then some false else (Ku k a0.columns a1.columns).bind λl=> if (!l) then some false else (Zf2 k a0.rows a1.rows).bind λm=> if (!m) then some false else some true
end
def Zej (k:Nat) (a0:Zw) (a1:Zw):Option Bool:= if (!decide (a0.kind=a1.kind)) then some false else if (!decide (a0.n=a1.n)) then some false else if (!decide (a0.time=a1.time)) then some false else if (!decide (a0.text=a1.text)) then some false else (Xv k a0.result a1.result).bind λj=> if (!j) then some false else some true
def VW (k:Nat) (a0:List Zw) (a1:List Zw):Nat->Int->Option (Unit ⊕ Bool) | 0,_=>none | l+1,j=> if (decide (j<(a0.length:Int))) then (at? a0 j).bind λm=> (at? a1 j).bind λp=> (Zej k m p).bind λr=> if (!r) then some (.inr false) else VW k a0 a1 l (GZ (j+1)) else some (.inl ())
def Zc8 (k:Nat) (a0:List Zw) (a1:List Zw):Option Bool:= if (!decide ((a0.length:Int)=(a1.length:Int))) then some false else (VW k a0 a1 k 0:Option (Unit ⊕ Bool)).bind fun | .inl _=>( some true) | .inr j=>( some j)
def Zei (k:Nat) (a0:Zn) (a1:Zn):Option Bool:= if (!decide (a0.cell=a1.cell)) then some false else if (!decide (a0.version=a1.version)) then some false else (Zc8 k a0.reads a1.reads).bind λj=> if (!j) then some false else some true
def VV (k:Nat) (a0:List Zn) (a1:List Zn):Nat->Int->Option (Unit ⊕ Bool) | 0,_=>none | l+1,j=> if (decide (j<(a0.length:Int))) then (at? a0 j).bind λm=> (at? a1 j).bind λp=> (Zei k m p).bind λr=> if (!r) then some (.inr false) else VV k a0 a1 l (GZ (j+1)) else some (.inl ())
def Zc6 (k:Nat) (a0:List Zn) (a1:List Zn):Option Bool:= if (!decide ((a0.length:Int)=(a1.length:Int))) then some false else (VV k a0 a1 k 0:Option (Unit ⊕ Bool)).bind fun | .inl _=>( some true) | .inr j=>( some j)
def ZaS (k:Nat) (a0:Ze) (a1:Ze):Option Bool:= if (!decide (a0.cell=a1.cell)) then some false else if (!decide (a0.version=a1.version)) then some false else if (!decide (a0.stamp=a1.stamp)) then some false else (Vv k a0.inputs a1.inputs).bind λj=> if (!j) then some false else (Xv k a0.value a1.value).bind λl=> if (!l) then some false else if (!(a0.has==a1.has)) then some false else some true
def W3 (k:Nat) (a0:List Ze) (a1:List Ze):Nat->Int->Option (Unit ⊕ Bool) | 0,_=>none | l+1,j=> if (decide (j<(a0.length:Int))) then (at? a0 j).bind λm=> (at? a1 j).bind λp=> (ZaS k m p).bind λr=> if (!r) then some (.inr false) else W3 k a0 a1 l (GZ (j+1)) else some (.inl ())
def ZaR (k:Nat) (a0:List Ze) (a1:List Ze):Option Bool:= if (!decide ((a0.length:Int)=(a1.length:Int))) then some false else (W3 k a0 a1 k 0:Option (Unit ⊕ Bool)).bind fun | .inl _=>( some true) | .inr j=>( some j)
def Yq (k:Nat) (a0:Za) (a1:Za):Option Bool:= (Jy k a0.notebook a1.notebook).bind λj=> if (!j) then some false else (Zc5 k a0.world a1.world).bind λl=> if (!l) then some false else (Zc6 k a0.tapes a1.tapes).bind λm=> if (!m) then some false else (ZaR k a0.entries a1.entries).bind λp=> if (!p) then some false else if (!decide (a0.next=a1.next)) then some false else if (!decide (a0.limit=a1.limit)) then some false else if (!decide (a0.work=a1.work)) then some false else some true
def Zo.bk (x:Zo):Nat:=x.name.size+(x.code.size+(0))
theorem Zo.Zz (x:Zo):x.bk=x.name.size+(x.code.size+(0)):=rfl
theorem Znk (x:Zo) (hf:ZcJ x.c):∀left:Int,0<=left->left<=1048576->ZbL x left=some (szR (x.bk) left):=by
 have j:=hf;rw [Zo.ZY] at j;simp only [ZcJ] at j;obtain ⟨f0,f1,f2,f3,f4,f5,_⟩:=j;intro left l0 l1;rw [Zo.Zz];unfold ZbL;rcases Znv (b:=x.name.size) l0 l1 (Zid f3) with ⟨C,m,k,t,r,z⟩| ⟨k,t⟩
 rotate_left
 ·rw [if_pos k];exact Xw WF
 rw [m,if_neg k];rcases Znv (b:=x.code.size) r z (Zid f4) with ⟨E,p,l,w,s,A⟩| ⟨l,w⟩
 rotate_left
 ·rw [if_pos l];exact Xw WF
 rw [p,if_neg l];exact Zay s WF
theorem Znf (x:Zo) (j:x.bk<=1048576):ZbJ x=some x:=by
 unfold ZbJ
 all_goals (first | rfl| (cases x;rfl))
theorem Znp (x:Zo) (j:x.bk<=1073741824):ZbN x x=some true:=by
 unfold ZbN;simp []
theorem ZlW (xs:List Zo) (hf:DOk (.sl (xs.map Zo.c))):Ev λk=>∀left:Int,0<=left->left<=1048576->Zc4 k xs left=some (szR (bkS Zo.bk xs) left):=by
 have m:∀x∈xs,∀left:Int,0<=left->left<=1048576->ZbL x left=some (szR (Zo.bk x) left):=λx j=>Znk x ((UD hf).2 x j);refine (Ev.ge (xs.length+1)).mono λk s=> ?_;intro left l0 l1;unfold Zc4;refine Zah Zo.bk xs (ZbL) (VU xs) k (λx j l p q=> ?_) (λn l i=>by rw [VU]) WF (UD hf).1 left l0 l1;rw [m x j l p q,ZEH];have:=Zdd (b:=Zo.bk x) (b2:=0) (F:=λz=>some z) p λz r _=>Zaz r;exact this
theorem ZlQ (xs:List Zo) (m:bkS Zo.bk xs<=1048576):Ev λk=>ZcX k xs=some xs:=by
 have l:∀x∈xs,ZbJ x=some x:=λx j=>Znf x (by have:=Z1 (f:=Zo.bk) j;omega);refine (Ev.ge (xs.length+1)).mono λk p=> ?_;unfold ZcX;exact Jm _ WF _ xs (ZbJ) (VQ xs) k (λx j=>l x j) (λn out i=>by rw [VQ]) WF (by have:=ZE (f:=Zo.bk) (xs:=xs);omega)
theorem Zl2 (xs:List Zo) (m:bkS Zo.bk xs<=1073741824):Ev λk=>Zdb k xs xs=some true:=by
 have l:∀x∈xs,ZbN x x=some true:=λx j=>Znp x (by have:=Z1 (f:=Zo.bk) j;omega);refine (Ev.ge (xs.length+1)).mono λk p=> ?_;unfold Zdb;exact Jt xs (ZbN) (VY xs xs) k (λx j=>l x j) (λn i=>by rw [VY]) WF (by have:=ZE (f:=Zo.bk) (xs:=xs);omega)
def Zg.bk (x:Zg):Nat:=bkS Zo.bk x.cells+(0)
theorem Zg.Zz (x:Zg):x.bk=bkS Zo.bk x.cells+(0):=rfl
theorem ZiY (x:Zg) (hf:ZcJ x.c):Ev λk=>∀left:Int,0<=left->left<=1048576->Jx k x left=some (szR (x.bk) left):=by
 have j:=hf;rw [Zg.ZY] at j;simp only [ZcJ] at j;obtain ⟨f0,_⟩:=j;refine (ZlW x.cells f0).mono ?_;rintro k p;intro left l0 l1;rw [Zg.Zz];unfold Jx;rw [p left l0 l1,ZEH];rcases Xd (b:=bkS Zo.bk x.cells) l1 with ⟨w,l,m,s,r,t⟩| ⟨l,s⟩
 rotate_left
 ·rw [l,if_pos (by decide)];exact Xw WF
 rw [l,if_neg m];exact Zay r WF
theorem ZiX (x:Zg) (l:x.bk<=1048576):Ev λk=>Jw k x=some x:=by
 refine (ZlQ x.cells (by have:=Zg.Zz x;omega)).mono ?_;rintro k j;unfold Jw;rw [j,ZEH]
 all_goals (first | rfl| (cases x;rfl))
theorem ZiZ (x:Zg) (l:x.bk<=1073741824):Ev λk=>Jy k x x=some true:=by
 refine (Zl2 x.cells (by have:=Zg.Zz x;omega)).mono ?_;rintro k j;unfold Jy;simp [j]
def Zq.bk (x:Zq):Nat:=x.name.size+(0)
theorem Zq.Zz (x:Zq):x.bk=x.name.size+(0):=rfl
theorem Znj (x:Zq) (hf:ZcJ x.c):∀left:Int,0<=left->left<=1048576->ZbK x left=some (szR (x.bk) left):=by
 have j:=hf;rw [Zq.ZY] at j;simp only [ZcJ] at j;obtain ⟨f0,f1,_⟩:=j;intro left l0 l1;rw [Zq.Zz];unfold ZbK;rcases Znv (b:=x.name.size) l0 l1 (Zid f0) with ⟨s,l,k,p,m,r⟩| ⟨k,p⟩
 rotate_left
 ·rw [if_pos k];exact Xw WF
 rw [l,if_neg k];exact Zay m WF
theorem Zne (x:Zq) (j:x.bk<=1048576):ZbI x=some x:=by
 unfold ZbI
 all_goals (first | rfl| (cases x;rfl))
theorem Zno (x:Zq) (j:x.bk<=1073741824):ZbM x x=some true:=by
 unfold ZbM;simp []
theorem ZlU (xs:List Zq) (hf:DOk (.sl (xs.map Zq.c))):Ev λk=>∀left:Int,0<=left->left<=1048576->Zc3 k xs left=some (szR (bkS Zq.bk xs) left):=by
 have m:∀x∈xs,∀left:Int,0<=left->left<=1048576->ZbK x left=some (szR (Zq.bk x) left):=λx j=>Znj x ((UD hf).2 x j);refine (Ev.ge (xs.length+1)).mono λk s=> ?_;intro left l0 l1;unfold Zc3;refine Zah Zq.bk xs (ZbK) (VT xs) k (λx j l p q=> ?_) (λn l i=>by rw [VT]) WF (UD hf).1 left l0 l1;rw [m x j l p q,ZEH];have:=Zdd (b:=Zq.bk x) (b2:=0) (F:=λz=>some z) p λz r _=>Zaz r;exact this
theorem ZlO (xs:List Zq) (m:bkS Zq.bk xs<=1048576):Ev λk=>ZcW k xs=some xs:=by
 have l:∀x∈xs,ZbI x=some x:=λx j=>Zne x (by have:=Z1 (f:=Zq.bk) j;omega);refine (Ev.ge (xs.length+1)).mono λk p=> ?_;unfold ZcW;exact Jm _ WF _ xs (ZbI) (VP xs) k (λx j=>l x j) (λn out i=>by rw [VP]) WF (by have:=ZE (f:=Zq.bk) (xs:=xs);omega)
theorem Zl0 (xs:List Zq) (m:bkS Zq.bk xs<=1073741824):Ev λk=>Zda k xs xs=some true:=by
 have l:∀x∈xs,ZbM x x=some true:=λx j=>Zno x (by have:=Z1 (f:=Zq.bk) j;omega);refine (Ev.ge (xs.length+1)).mono λk p=> ?_;unfold Zda;exact Jt xs (ZbM) (VX xs xs) k (λx j=>l x j) (λn i=>by rw [VX]) WF (by have:=ZE (f:=Zq.bk) (xs:=xs);omega)
def ZD.bk (x:ZD):Nat:=bkS Zq.bk x.files+(0)
theorem ZD.Zz (x:ZD):x.bk=bkS Zq.bk x.files+(0):=rfl
theorem ZlR (x:ZD) (hf:ZcJ x.c):Ev λk=>∀left:Int,0<=left->left<=1048576->ZcY k x left=some (szR (x.bk) left):=by
 have j:=hf;rw [ZD.ZY] at j;simp only [ZcJ] at j;obtain ⟨f0,f1,f2,_⟩:=j;refine (ZlU x.files f2).mono ?_;rintro k p;intro left l0 l1;rw [ZD.Zz];unfold ZcY;rw [p left l0 l1,ZEH];rcases Xd (b:=bkS Zq.bk x.files) l1 with ⟨w,l,m,s,r,t⟩| ⟨l,s⟩
 rotate_left
 ·rw [l,if_pos (by decide)];exact Xw WF
 rw [l,if_neg m];exact Zay r WF
theorem ZlL (x:ZD) (l:x.bk<=1048576):Ev λk=>ZcR k x=some x:=by
 refine (ZlO x.files (by have:=ZD.Zz x;omega)).mono ?_;rintro k j;unfold ZcR;rw [j,ZEH]
 all_goals (first | rfl| (cases x;rfl))
theorem ZlX (x:ZD) (l:x.bk<=1073741824):Ev λk=>Zc5 k x x=some true:=by
 refine (Zl0 x.files (by have:=ZD.Zz x;omega)).mono ?_;rintro k j;unfold Zc5;simp [j]
theorem Zjr (xs:List Ma) (hf:DOk (.sl (xs.map sC))):Ev λk=>∀left:Int,0<=left->left<=1048576->Ks k xs left=some (szR (bkS ByteArray.size xs) left):=by
 refine (Ev.ge (xs.length+1)).mono λk r=> ?_;intro left l0 l1;unfold Ks;refine Zah ByteArray.size xs (λx l=>some (GZ (l-(x.size:Int)))) (We xs) k (λx j l p q=> ?_) (λn l i=>by rw [We];rfl) WF (UD hf).1 left l0 l1;have:=ZsU (b:=x.size) (b2:=0) (F:=λz=>some z) p q (Zid ((UD hf).2 x j).1) λz m _=>Zaz m;exact this
theorem Zjo (xs:List Ma) (j:bkS ByteArray.size xs<=1048576):Ev λk=>Kq k xs=some xs:=by
 refine (Ev.ge (xs.length+1)).mono λk l=> ?_;unfold Kq;exact Jm _ WF _ xs (λx=>some x) (Wc xs) k (λx m=>rfl) (λn out i=>by rw [Wc];rfl) WF (by have:=ZE (f:=ByteArray.size) (xs:=xs);omega)
theorem Zju (xs:List Ma) (j:bkS ByteArray.size xs<=1073741824):Ev λk=>Ku k xs xs=some true:=by
 refine (Ev.ge (xs.length+1)).mono λk l=> ?_;unfold Ku;exact Jt xs (λx y=>some (decide (x=y))) (Wf xs xs) k (λx m=>Ha) (λn i=>by rw [Wf];rfl) WF (by have:=ZE (f:=ByteArray.size) (xs:=xs);omega)
theorem Ziq (xs:List Int) (hf:DOk (.sl (xs.map iC))):∀left:Int,0<=left->left<=1048576->Zeh xs left=some (szR (bkS (λ_=>0) xs) left):=by
 intro left l0 l1;unfold Zeh;have:=ZsU (b:=xs.length) (b2:=0) (F:=λz=>some z) l0 l1 (UD hf).1 λx p _=>Zaz p;have e:bkS (λ_=>0) xs=xs.length+0:=ZkZ xs;rw [e];exact this
theorem Zii (xs:List Int) (j:bkS (λ_=>0) xs<=1048576):Ev λk=>Zee k xs=some xs:=by
 refine (Ev.ge (xs.length+1)).mono λk l=> ?_;unfold Zee;exact Jm _ WF _ xs (λx=>some x) (UG xs) k (λx m=>rfl) (λn out i=>by rw [UG];rfl) WF (by have:=ZE (f:=(λ_=>0)) (xs:=xs);omega)
theorem Zag (xs:List Int) (j:bkS (λ_=>0) xs<=1073741824):Ev λk=>Vv k xs xs=some true:=by
 refine (Ev.ge (xs.length+1)).mono λk l=> ?_;unfold Vv;exact Jt xs (λx y=>some (decide (x=y))) (UK xs xs) k (λx m=>Ha) (λn i=>by rw [UK];rfl) WF (by have:=ZE (f:=(λ_=>0)) (xs:=xs);omega)
theorem ZkG (x:Zk):UF x=some x:=by
 unfold UF
 all_goals (first | rfl| (cases x;rfl))
theorem ZkN (x:Zk):UJ x x=some true:=by
 unfold UJ;simp []
theorem Zjt (xs:List Zk) (hf:DOk (.sl (xs.map Zk.c))):∀left:Int,0<=left->left<=1048576->Kt xs left=some (szR (bkS (λ_=>0) xs) left):=by
 intro left l0 l1;unfold Kt;have:=ZsU (b:=xs.length) (b2:=0) (F:=λz=>some z) l0 l1 (UD hf).1 λx p _=>Zaz p;have e:bkS (λ_=>0) xs=xs.length+0:=ZkZ xs;rw [e];exact this
theorem Zjq (xs:List Zk) (m:bkS (λ_=>0) xs<=1048576):Ev λk=>Kr k xs=some xs:=by
 have l:∀x∈xs,UF x=some x:=λx j=>ZkG x;refine (Ev.ge (xs.length+1)).mono λk p=> ?_;unfold Kr;exact Jm _ WF _ xs (UF) (Wd xs) k (λx j=>l x j) (λn out i=>by rw [Wd]) WF (by have:=ZE (f:=(λ_=>0)) (xs:=xs);omega)
theorem Zjw (xs:List Zk) (m:bkS (λ_=>0) xs<=1073741824):Ev λk=>Kv k xs xs=some true:=by
 have l:∀x∈xs,UJ x x=some true:=λx j=>ZkN x;refine (Ev.ge (xs.length+1)).mono λk p=> ?_;unfold Kv;exact Jt xs (UJ) (Wg xs xs) k (λx j=>l x j) (λn i=>by rw [Wg]) WF (by have:=ZE (f:=(λ_=>0)) (xs:=xs);omega)
def ZP.bk (x:ZP):Nat:=bkS (λ_=>0) x.cells+(bkS (λ_=>0) x.from_+(0))
theorem ZP.Zz (x:ZP):x.bk=bkS (λ_=>0) x.cells+(bkS (λ_=>0) x.from_+(0)):=rfl
theorem ZoQ (x:ZP) (hf:ZcJ x.c):∀left:Int,0<=left->left<=1048576->Zfj x left=some (szR (x.bk) left):=by
 have j:=hf;rw [ZP.ZY] at j;simp only [ZcJ] at j;obtain ⟨f0,f1,_⟩:=j;have s:=Ziq x.cells f0;have t:=Zjt x.from_ f1;intro left l0 l1;rw [ZP.Zz];unfold Zfj;rw [s left l0 l1,ZEH];rcases Xd (b:=bkS (λ_=>0) x.cells) l1 with ⟨E,k,p,A,w,m⟩| ⟨k,A⟩
 rotate_left
 ·rw [k,if_pos (by decide)];exact Xw WF
 rw [k,if_neg p];rw [t E w m,ZEH];rcases Xd (b:=bkS (λ_=>0) x.from_) m with ⟨I,l,r,C,z,G⟩| ⟨l,C⟩
 rotate_left
 ·rw [l,if_pos (by decide)];exact Xw WF
 rw [l,if_neg r];exact Zay z WF
theorem ZoP (x:ZP) (m:x.bk<=1048576):Ev λk=>Zhv k x=some x:=by
 refine ((Zii x.cells (by have:=ZP.Zz x;omega)).and (Zjq x.from_ (by have:=ZP.Zz x;omega))).mono ?_;rintro k ⟨j,l⟩;unfold Zhv;rw [j,ZEH];rw [l,ZEH]
 all_goals (first | rfl| (cases x;rfl))
theorem ZoR (x:ZP) (m:x.bk<=1073741824):Ev λk=>Zhw k x x=some true:=by
 refine ((Zag x.cells (by have:=ZP.Zz x;omega)).and (Zjw x.from_ (by have:=ZP.Zz x;omega))).mono ?_;rintro k ⟨j,l⟩;unfold Zhw;simp [j,l]
theorem Znh (xs:List ZP) (hf:DOk (.sl (xs.map ZP.c))):Ev λk=>∀left:Int,0<=left->left<=1048576->ZfT k xs left=some (szR (bkS ZP.bk xs) left):=by
 have m:∀x∈xs,∀left:Int,0<=left->left<=1048576->Zfj x left=some (szR (ZP.bk x) left):=λx j=>ZoQ x ((UD hf).2 x j);refine (Ev.ge (xs.length+1)).mono λk s=> ?_;intro left l0 l1;unfold ZfT;refine Zah ZP.bk xs (Zfj) (UH xs) k (λx j l p q=> ?_) (λn l i=>by rw [UH]) WF (UD hf).1 left l0 l1;rw [m x j l p q,ZEH];have:=Zdd (b:=ZP.bk x) (b2:=0) (F:=λz=>some z) p λz r _=>Zaz r;exact this
theorem Znc (xs:List ZP) (m:bkS ZP.bk xs<=1048576):Ev λk=>ZfK k xs=some xs:=by
 refine ((Ev.all xs λx j=>ZoP x (by have:=Z1 (f:=ZP.bk) j;omega)).and (Ev.ge (xs.length+1))).mono ?_;rintro k ⟨l,p⟩;unfold ZfK;exact Jm _ WF _ xs (Zhv k) (UE k xs) k (λx j=>l x j) (λn out i=>by rw [UE]) WF (by have:=ZE (f:=ZP.bk) (xs:=xs);omega)
theorem Znm (xs:List ZP) (m:bkS ZP.bk xs<=1073741824):Ev λk=>Zf2 k xs xs=some true:=by
 refine ((Ev.all xs λx j=>ZoR x (by have:=Z1 (f:=ZP.bk) j;omega)).and (Ev.ge (xs.length+1))).mono ?_;rintro k ⟨l,p⟩;unfold Zf2;exact Jt xs (Zhw k) (UI k xs xs) k (λx j=>l x j) (λn i=>by rw [UI]) WF (by have:=ZE (f:=ZP.bk) (xs:=xs);omega)
mutual
def Zb.bk:Zb->Nat
 | ⟨p,n,step,m,k,j,l⟩=>m.size+((k.length+Zb.bks k)+(bkS ByteArray.size j+(bkS ZP.bk l+(0))))
def Zb.bks:List Zb->Nat
 | []=>0
 | x::xs=>Zb.bk x+Zb.bks xs
end
theorem Zb.Zox:∀xs:List Zb,Zb.bks xs=ZU Zb.bk xs
 | []=>rfl
 | x::xs=>by rw [Zb.bks,Zb.Zox xs];rfl
theorem Zb.Zz (x:Zb):x.bk=x.text.size+(bkS Zb.bk x.list+(bkS ByteArray.size x.columns+(bkS ZP.bk x.rows+(0)))):=by
 cases x;simp only [Zb.bk,Zb.Zox,bkS]
theorem Zb.ind {p:Zb->Prop} (h:∀x,(∀y∈x.list,p y)->p x):∀x,p x
 | ⟨k,n,step,r,l,j,m⟩=>h _ λy s=>Zb.ind h y
termination_by x=>SizeOf.sizeOf x
decreasing_by
 have:=List.sizeOf_lt_of_mem s;simp at this ⊢;omega
theorem ZkI (xs:List Zb) (hf:DOk (.sl (xs.map Zb.c))) (r:∀x∈xs,Ev λk=>∀left:Int,0<=left->left<=1048576->Xu k x left=some (szR (Zb.bk x) left)):Ev λk=>∀left:Int,0<=left->left<=1048576->Kc k xs left=some (szR (bkS Zb.bk xs) left):=by
 refine ((Ev.all xs r).and (Ev.ge (xs.length+1))).pred ?_;rintro k ⟨m,t⟩;intro left l0 l1;rw [Kc];refine Zah Zb.bk xs (Xu k) (WY (Xu k) xs) k (λx j l p q=> ?_) (λn l i=>by rw [WY]) WF (UD hf).1 left l0 l1;rw [m x j l p q,ZEH];have:=Zdd (b:=Zb.bk x) (b2:=0) (F:=λz=>some z) p λz s _=>Zaz s;exact this
theorem ZkE (xs:List Zb) (p:bkS Zb.bk xs<=1048576) (m:∀x∈xs,Ev λk=>Xt k x=some x):Ev λk=>Kb k xs=some xs:=by
 refine ((Ev.all xs m).and (Ev.ge (xs.length+1))).pred ?_;rintro k ⟨l,r⟩;rw [Kb];exact Jm _ WF _ xs (Xt k) (WW (Xt k) xs) k (λx j=>l x j) (λn out i=>by rw [WW]) WF (by have:=ZE (f:=Zb.bk) (xs:=xs);omega)
theorem ZkL (xs:List Zb) (p:bkS Zb.bk xs<=1073741824) (m:∀x∈xs,Ev λk=>Xv k x x=some true):Ev λk=>Kd k xs xs=some true:=by
 refine ((Ev.all xs m).and (Ev.ge (xs.length+1))).pred ?_;rintro k ⟨l,r⟩;rw [Kd];exact Jt xs (Xv k) (W1 (Xv k) xs xs) k (λx j=>l x j) (λn i=>by rw [W1]) WF (by have:=ZE (f:=Zb.bk) (xs:=xs);omega)
theorem ZfQ (x:Zb) (hf:ZcJ x.c):Ev λk=>∀left:Int,0<=left->left<=1048576->Xu k x left=some (szR (x.bk) left):=by
 revert hf;refine Zb.ind (p:=λx=>ZcJ x.c->Ev λk=>∀left:Int,0<=left->left<=1048576->Xu k x left=some (szR (x.bk) left)) ?_ x;clear x;intro x Q hf;have j:=hf;rw [Zb.ZY] at j;simp only [ZcJ] at j;obtain ⟨f0,f1,f2,f3,f4,f5,f6,_⟩:=j;refine ((ZkI x.list f4 λy s=>Q y s ((UD f4).2 y s)).and ((Zjr x.columns f5).and (Znh x.rows f6))).pred ?_;rintro k ⟨I,J,M⟩;intro left l0 l1;rw [Zb.Zz];rw [Xu];rcases Znv (b:=x.text.size) l0 l1 (Zid f3) with ⟨z0,A,r,W,R,t⟩| ⟨r,W⟩
 rotate_left
 ·rw [if_pos r];exact Xw WF
 rw [A,if_neg r];rw [I z0 R t,ZEH];rcases Xd (b:=bkS Zb.bk x.list) t with ⟨z1,l,C,X,S,w⟩| ⟨l,X⟩
 rotate_left
 ·rw [l,if_pos (by decide)];exact Xw WF
 rw [l,if_neg C];rw [J z1 S w,ZEH];rcases Xd (b:=bkS ByteArray.size x.columns) w with ⟨z2,m,E,Y,T,z⟩| ⟨m,Y⟩
 rotate_left
 ·rw [m,if_pos (by decide)];exact Xw WF
 rw [m,if_neg E];rw [M z2 T z,ZEH];rcases Xd (b:=bkS ZP.bk x.rows) z with ⟨z3,p,G,Z,U,r3⟩| ⟨p,Z⟩
 rotate_left
 ·rw [p,if_pos (by decide)];exact Xw WF
 rw [p,if_neg G];exact Zay U WF
theorem ZfH (x:Zb) (j:x.bk<=1048576):Ev λk=>Xt k x=some x:=by
 revert j;refine Zb.ind (p:=λx=>x.bk<=1048576->Ev λk=>Xt k x=some x) ?_ x;clear x;intro x s j;refine ((ZkE x.list (by have:=Zb.Zz x;omega) λy l=>s y l (by have:=Z1 (f:=Zb.bk) l;have:=Zb.Zz x;omega)).and ((Zjo x.columns (by have:=Zb.Zz x;omega)).and (Znc x.rows (by have:=Zb.Zz x;omega)))).pred ?_;rintro k ⟨m,p,r⟩;rw [Xt];rw [m,ZEH];rw [p,ZEH];rw [r,ZEH]
 all_goals (first | rfl| (cases x;rfl))
theorem ZfZ (x:Zb) (j:x.bk<=1073741824):Ev λk=>Xv k x x=some true:=by
 revert j;refine Zb.ind (p:=λx=>x.bk<=1073741824->Ev λk=>Xv k x x=some true) ?_ x;clear x;intro x s j;refine ((ZkL x.list (by have:=Zb.Zz x;omega) λy l=>s y l (by have:=Z1 (f:=Zb.bk) l;have:=Zb.Zz x;omega)).and ((Zju x.columns (by have:=Zb.Zz x;omega)).and (Znm x.rows (by have:=Zb.Zz x;omega)))).pred ?_;rintro k ⟨m,p,r⟩;rw [Xv];simp [m,p,r]
def Zw.bk (x:Zw):Nat:=x.text.size+(Zb.bk x.result+(0))
theorem Zw.Zz (x:Zw):x.bk=x.text.size+(Zb.bk x.result+(0)):=rfl
theorem Zni (x:Zw) (hf:ZcJ x.c):Ev λk=>∀left:Int,0<=left->left<=1048576->Zeg k x left=some (szR (x.bk) left):=by
 have j:=hf;rw [Zw.ZY] at j;simp only [ZcJ] at j;obtain ⟨f0,f1,f2,f3,f4,f5,f6,f7,f8,f9,f10,_⟩:=j;refine (ZfQ x.result (by rw [Zb.ZY];exact ⟨f4,f5,f6,f7,f8,f9,f10,trivial⟩)).mono ?_;rintro k t;intro left l0 l1;rw [Zw.Zz];unfold Zeg;rcases Znv (b:=x.text.size) l0 l1 (Zid f3) with ⟨E,r,m,A,w,p⟩| ⟨m,A⟩
 rotate_left
 ·rw [if_pos m];exact Xw WF
 rw [r,if_neg m];rw [t E w p,ZEH];rcases Xd (b:=Zb.bk x.result) p with ⟨I,l,s,C,z,G⟩| ⟨l,C⟩
 rotate_left
 ·rw [l,if_pos (by decide)];exact Xw WF
 rw [l,if_neg s];exact Zay z WF
theorem Znd (x:Zw) (l:x.bk<=1048576):Ev λk=>Zed k x=some x:=by
 refine (ZfH x.result (by have:=Zw.Zz x;omega)).mono ?_;rintro k j;unfold Zed;rw [j,ZEH]
 all_goals (first | rfl| (cases x;rfl))
theorem Znn (x:Zw) (l:x.bk<=1073741824):Ev λk=>Zej k x x=some true:=by
 refine (ZfZ x.result (by have:=Zw.Zz x;omega)).mono ?_;rintro k j;unfold Zej;simp [j]
theorem ZlT (xs:List Zw) (hf:DOk (.sl (xs.map Zw.c))):Ev λk=>∀left:Int,0<=left->left<=1048576->Zc1 k xs left=some (szR (bkS Zw.bk xs) left):=by
 refine ((Ev.all xs λx j=>Zni x ((UD hf).2 x j)).and (Ev.ge (xs.length+1))).mono ?_;rintro k ⟨m,s⟩;intro left l0 l1;unfold Zc1;refine Zah Zw.bk xs (Zeg k) (VS k xs) k (λx j l p q=> ?_) (λn l i=>by rw [VS]) WF (UD hf).1 left l0 l1;rw [m x j l p q,ZEH];have:=Zdd (b:=Zw.bk x) (b2:=0) (F:=λz=>some z) p λz r _=>Zaz r;exact this
theorem ZlN (xs:List Zw) (m:bkS Zw.bk xs<=1048576):Ev λk=>ZcU k xs=some xs:=by
 refine ((Ev.all xs λx j=>Znd x (by have:=Z1 (f:=Zw.bk) j;omega)).and (Ev.ge (xs.length+1))).mono ?_;rintro k ⟨l,p⟩;unfold ZcU;exact Jm _ WF _ xs (Zed k) (VO k xs) k (λx j=>l x j) (λn out i=>by rw [VO]) WF (by have:=ZE (f:=Zw.bk) (xs:=xs);omega)
theorem ZlZ (xs:List Zw) (m:bkS Zw.bk xs<=1073741824):Ev λk=>Zc8 k xs xs=some true:=by
 refine ((Ev.all xs λx j=>Znn x (by have:=Z1 (f:=Zw.bk) j;omega)).and (Ev.ge (xs.length+1))).mono ?_;rintro k ⟨l,p⟩;unfold Zc8;exact Jt xs (Zej k) (VW k xs xs) k (λx j=>l x j) (λn i=>by rw [VW]) WF (by have:=ZE (f:=Zw.bk) (xs:=xs);omega)
def Zn.bk (x:Zn):Nat:=bkS Zw.bk x.reads+(0)
theorem Zn.Zz (x:Zn):x.bk=bkS Zw.bk x.reads+(0):=rfl
theorem Zng (x:Zn) (hf:ZcJ x.c):Ev λk=>∀left:Int,0<=left->left<=1048576->Zef k x left=some (szR (x.bk) left):=by
 have j:=hf;rw [Zn.ZY] at j;simp only [ZcJ] at j;obtain ⟨f0,f1,f2,_⟩:=j;refine (ZlT x.reads f2).mono ?_;rintro k p;intro left l0 l1;rw [Zn.Zz];unfold Zef;rw [p left l0 l1,ZEH];rcases Xd (b:=bkS Zw.bk x.reads) l1 with ⟨w,l,m,s,r,t⟩| ⟨l,s⟩
 rotate_left
 ·rw [l,if_pos (by decide)];exact Xw WF
 rw [l,if_neg m];exact Zay r WF
theorem Znb (x:Zn) (l:x.bk<=1048576):Ev λk=>Zec k x=some x:=by
 refine (ZlN x.reads (by have:=Zn.Zz x;omega)).mono ?_;rintro k j;unfold Zec;rw [j,ZEH]
 all_goals (first | rfl| (cases x;rfl))
theorem Znl (x:Zn) (l:x.bk<=1073741824):Ev λk=>Zei k x x=some true:=by
 refine (ZlZ x.reads (by have:=Zn.Zz x;omega)).mono ?_;rintro k j;unfold Zei;simp [j]
theorem ZlS (xs:List Zn) (hf:DOk (.sl (xs.map Zn.c))):Ev λk=>∀left:Int,0<=left->left<=1048576->ZcZ k xs left=some (szR (bkS Zn.bk xs) left):=by
 refine ((Ev.all xs λx j=>Zng x ((UD hf).2 x j)).and (Ev.ge (xs.length+1))).mono ?_;rintro k ⟨m,s⟩;intro left l0 l1;unfold ZcZ;refine Zah Zn.bk xs (Zef k) (VR k xs) k (λx j l p q=> ?_) (λn l i=>by rw [VR]) WF (UD hf).1 left l0 l1;rw [m x j l p q,ZEH];have:=Zdd (b:=Zn.bk x) (b2:=0) (F:=λz=>some z) p λz r _=>Zaz r;exact this
theorem ZlM (xs:List Zn) (m:bkS Zn.bk xs<=1048576):Ev λk=>ZcS k xs=some xs:=by
 refine ((Ev.all xs λx j=>Znb x (by have:=Z1 (f:=Zn.bk) j;omega)).and (Ev.ge (xs.length+1))).mono ?_;rintro k ⟨l,p⟩;unfold ZcS;exact Jm _ WF _ xs (Zec k) (VN k xs) k (λx j=>l x j) (λn out i=>by rw [VN]) WF (by have:=ZE (f:=Zn.bk) (xs:=xs);omega)
theorem ZlY (xs:List Zn) (m:bkS Zn.bk xs<=1073741824):Ev λk=>Zc6 k xs xs=some true:=by
 refine ((Ev.all xs λx j=>Znl x (by have:=Z1 (f:=Zn.bk) j;omega)).and (Ev.ge (xs.length+1))).mono ?_;rintro k ⟨l,p⟩;unfold Zc6;exact Jt xs (Zei k) (VV k xs xs) k (λx j=>l x j) (λn i=>by rw [VV]) WF (by have:=ZE (f:=Zn.bk) (xs:=xs);omega)
def Ze.bk (x:Ze):Nat:=bkS (λ_=>0) x.inputs+(Zb.bk x.value+(0))
theorem Ze.Zz (x:Ze):x.bk=bkS (λ_=>0) x.inputs+(Zb.bk x.value+(0)):=rfl
theorem ZlV (x:Ze) (hf:ZcJ x.c):Ev λk=>∀left:Int,0<=left->left<=1048576->ZaQ k x left=some (szR (x.bk) left):=by
 have j:=hf;rw [Ze.ZY] at j;simp only [ZcJ] at j;obtain ⟨f0,f1,f2,f3,f4,f5,f6,f7,f8,f9,f10,f11,_⟩:=j;have t:=Ziq x.inputs f3;refine (ZfQ x.value (by rw [Zb.ZY];exact ⟨f4,f5,f6,f7,f8,f9,f10,trivial⟩)).mono ?_;rintro k w;intro left l0 l1;rw [Ze.Zz];unfold ZaQ;rw [t left l0 l1,ZEH];rcases Xd (b:=bkS (λ_=>0) x.inputs) l1 with ⟨G,l,r,C,z,p⟩| ⟨l,C⟩
 rotate_left
 ·rw [l,if_pos (by decide)];exact Xw WF
 rw [l,if_neg r];rw [w G z p,ZEH];rcases Xd (b:=Zb.bk x.value) p with ⟨J,m,s,E,A,I⟩| ⟨m,E⟩
 rotate_left
 ·rw [m,if_pos (by decide)];exact Xw WF
 rw [m,if_neg s];exact Zay A WF
theorem ZlP (x:Ze) (m:x.bk<=1048576):Ev λk=>ZaO k x=some x:=by
 refine ((Zii x.inputs (by have:=Ze.Zz x;omega)).and (ZfH x.value (by have:=Ze.Zz x;omega))).mono ?_;rintro k ⟨j,l⟩;unfold ZaO;rw [j,ZEH];rw [l,ZEH]
 all_goals (first | rfl| (cases x;rfl))
theorem Zl1 (x:Ze) (m:x.bk<=1073741824):Ev λk=>ZaS k x x=some true:=by
 refine ((Zag x.inputs (by have:=Ze.Zz x;omega)).and (ZfZ x.value (by have:=Ze.Zz x;omega))).mono ?_;rintro k ⟨j,l⟩;unfold ZaS;simp [j,l]
theorem ZkK (xs:List Ze) (hf:DOk (.sl (xs.map Ze.c))):Ev λk=>∀left:Int,0<=left->left<=1048576->ZaP k xs left=some (szR (bkS Ze.bk xs) left):=by
 refine ((Ev.all xs λx j=>ZlV x ((UD hf).2 x j)).and (Ev.ge (xs.length+1))).mono ?_;rintro k ⟨m,s⟩;intro left l0 l1;unfold ZaP;refine Zah Ze.bk xs (ZaQ k) (WZ k xs) k (λx j l p q=> ?_) (λn l i=>by rw [WZ]) WF (UD hf).1 left l0 l1;rw [m x j l p q,ZEH];have:=Zdd (b:=Ze.bk x) (b2:=0) (F:=λz=>some z) p λz r _=>Zaz r;exact this
theorem ZkH (xs:List Ze) (m:bkS Ze.bk xs<=1048576):Ev λk=>ZaN k xs=some xs:=by
 refine ((Ev.all xs λx j=>ZlP x (by have:=Z1 (f:=Ze.bk) j;omega)).and (Ev.ge (xs.length+1))).mono ?_;rintro k ⟨l,p⟩;unfold ZaN;exact Jm _ WF _ xs (ZaO k) (WX k xs) k (λx j=>l x j) (λn out i=>by rw [WX]) WF (by have:=ZE (f:=Ze.bk) (xs:=xs);omega)
theorem ZkO (xs:List Ze) (m:bkS Ze.bk xs<=1073741824):Ev λk=>ZaR k xs xs=some true:=by
 refine ((Ev.all xs λx j=>Zl1 x (by have:=Z1 (f:=Ze.bk) j;omega)).and (Ev.ge (xs.length+1))).mono ?_;rintro k ⟨l,p⟩;unfold ZaR;exact Jt xs (ZaS k) (W3 k xs xs) k (λx j=>l x j) (λn i=>by rw [W3]) WF (by have:=ZE (f:=Ze.bk) (xs:=xs);omega)
def Za.bk (x:Za):Nat:=Zg.bk x.notebook+(ZD.bk x.world+(bkS Zn.bk x.tapes+(bkS Ze.bk x.entries+(0))))
theorem Za.Zz (x:Za):x.bk=Zg.bk x.notebook+(ZD.bk x.world+(bkS Zn.bk x.tapes+(bkS Ze.bk x.entries+(0)))):=rfl
theorem YL (x:Za) (hf:ZcJ x.c):Ev λk=>∀left:Int,0<=left->left<=1048576->W0 k x left=some (szR (x.bk) left):=by
 have j:=hf;rw [Za.ZY] at j;simp only [ZcJ] at j;obtain ⟨f0,f1,f2,f3,f4,f5,f6,f7,f8,_⟩:=j;refine ((ZiY x.notebook (by rw [Zg.ZY];exact ⟨f0,trivial⟩)).and ((ZlR x.world (by rw [ZD.ZY];exact ⟨f1,f2,f3,trivial⟩)).and ((ZlS x.tapes f4).and (ZkK x.entries f5)))).mono ?_;rintro k ⟨G,I,J,M⟩;intro left l0 l1;rw [Za.Zz];unfold W0;rw [G left l0 l1,ZEH];rcases Xd (b:=Zg.bk x.notebook) l1 with ⟨Z,l,z,U,Q,s⟩| ⟨l,U⟩
 rotate_left
 ·rw [l,if_pos (by decide)];exact Xw WF
 rw [l,if_neg z];rw [I Z Q s,ZEH];rcases Xd (b:=ZD.bk x.world) s with ⟨z1,m,A,W,R,t⟩| ⟨m,W⟩
 rotate_left
 ·rw [m,if_pos (by decide)];exact Xw WF
 rw [m,if_neg A];rw [J z1 R t,ZEH];rcases Xd (b:=bkS Zn.bk x.tapes) t with ⟨z2,p,C,X,S,w⟩| ⟨p,X⟩
 rotate_left
 ·rw [p,if_pos (by decide)];exact Xw WF
 rw [p,if_neg C];rw [M z2 S w,ZEH];rcases Xd (b:=bkS Ze.bk x.entries) w with ⟨z3,r,E,Y,T,r3⟩| ⟨r,Y⟩
 rotate_left
 ·rw [r,if_pos (by decide)];exact Xw WF
 rw [r,if_neg E];exact Zay T WF
theorem Vp (x:Za) (r:x.bk<=1048576):Ev λk=>Z0 k x=some x:=by
 refine ((ZiX x.notebook (by have:=Za.Zz x;omega)).and ((ZlL x.world (by have:=Za.Zz x;omega)).and ((ZlM x.tapes (by have:=Za.Zz x;omega)).and (ZkH x.entries (by have:=Za.Zz x;omega))))).mono ?_;rintro k ⟨j,l,m,p⟩;unfold Z0;rw [j,ZEH];rw [l,ZEH];rw [m,ZEH];rw [p,ZEH]
 all_goals (first | rfl| (cases x;rfl))
theorem Qr (x:Za) (r:x.bk<=1073741824):Ev λk=>Yq k x x=some true:=by
 refine ((ZiZ x.notebook (by have:=Za.Zz x;omega)).and ((ZlX x.world (by have:=Za.Zz x;omega)).and ((ZlY x.tapes (by have:=Za.Zz x;omega)).and (ZkO x.entries (by have:=Za.Zz x;omega))))).mono ?_;rintro k ⟨j,l,m,p⟩;unfold Yq;simp [j,l,m,p]
mutual
def Zc.bk:Zc->Nat
 | ⟨k,n,j,args⟩=>j.size+((args.length+Zc.bks args)+(0))
def Zc.bks:List Zc->Nat
 | []=>0
 | x::xs=>Zc.bk x+Zc.bks xs
end
theorem Zc.Zox:∀xs:List Zc,Zc.bks xs=ZU Zc.bk xs
 | []=>rfl
 | x::xs=>by rw [Zc.bks,Zc.Zox xs];rfl
theorem Zc.Zz (x:Zc):x.bk=x.text.size+(bkS Zc.bk x.args+(0)):=by
 cases x;simp only [Zc.bk,Zc.Zox,bkS]
theorem Zc.ind {p:Zc->Prop} (h:∀x,(∀y∈x.args,p y)->p x):∀x,p x
 | ⟨k,n,l,j⟩=>h _ λy m=>Zc.ind h y
termination_by x=>SizeOf.sizeOf x
decreasing_by
 have:=List.sizeOf_lt_of_mem m;simp at this ⊢;omega
def Zl.bk (x:Zl):Nat:=x.name.size+(Zc.bk x.expr+(Zb.bk x.value+(0)))
theorem Zl.Zz (x:Zl):x.bk=x.name.size+(Zc.bk x.expr+(Zb.bk x.value+(0))):=rfl
@[go_sem] theorem ti3:ti Tryz.prog 3=some ⟨(.int .i64),1,8,[.int .i64 0]⟩:=WP
@[go_sem] theorem ti4:ti Tryz.prog 4=some ⟨.bool,1,1,[.bool false]⟩:=WP
@[go_sem] theorem ti5:ti Tryz.prog 5=some ⟨(.int .u8),1,1,[.int .u8 0]⟩:=WP
@[go_sem] theorem ti9:ti Tryz.prog 9=some ⟨.str,1,16,[.string ⟨#[]⟩]⟩:=WP
@[go_sem] theorem ZEE:ti Tryz.prog 22=some ⟨(.slice 159),1,24,[.slice none 0 0]⟩:=WP
@[go_sem] theorem ZED:ti Tryz.prog 24=some ⟨(.struct [(0,22)]),1,24,[.slice none 0 0]⟩:=WP
@[go_sem] theorem ZEC:ti Tryz.prog 25=some ⟨(.slice 162),1,24,[.slice none 0 0]⟩:=WP
@[go_sem] theorem ZEB:ti Tryz.prog 27=some ⟨(.struct [(0,3),(1,3),(2,25)]),3,40,[.int .i64 0,.int .i64 0,.slice none 0 0]⟩:=WP
@[go_sem] theorem ZEA:ti Tryz.prog 28=some ⟨(.slice 107),1,24,[.slice none 0 0]⟩:=WP
@[go_sem] theorem ZEz:ti Tryz.prog 29=some ⟨(.slice 114),1,24,[.slice none 0 0]⟩:=WP
@[go_sem] theorem ZEy:ti Tryz.prog 31=some ⟨(.struct [(0,24),(1,27),(4,28),(5,29),(6,3),(7,3),(8,3)]),9,136,[.slice none 0 0,.int .i64 0,.int .i64 0,.slice none 0 0,.slice none 0 0,.slice none 0 0,.int .i64 0,.int .i64 0,.int .i64 0]⟩:=WP
@[go_sem] theorem ZEx:ti Tryz.prog 33=some ⟨(.slice 3),1,24,[.slice none 0 0]⟩:=WP
@[go_sem] theorem ZEw:ti Tryz.prog 36=some ⟨(.slice 89),1,24,[.slice none 0 0]⟩:=WP
@[go_sem] theorem ZEv:ti Tryz.prog 38=some ⟨(.struct [(0,36)]),1,24,[.slice none 0 0]⟩:=WP
@[go_sem] theorem ZEu:ti Tryz.prog 39=some ⟨(.slice 174),1,24,[.slice none 0 0]⟩:=WP
@[go_sem] theorem ZEt:ti Tryz.prog 41=some ⟨(.struct [(0,3),(1,3),(2,39)]),3,40,[.int .i64 0,.int .i64 0,.slice none 0 0]⟩:=WP
@[go_sem] theorem ZEs:ti Tryz.prog 42=some ⟨(.slice 127),1,24,[.slice none 0 0]⟩:=WP
@[go_sem] theorem ZEr:ti Tryz.prog 43=some ⟨(.slice 98),1,24,[.slice none 0 0]⟩:=WP
@[go_sem] theorem ZEq:ti Tryz.prog 45=some ⟨(.struct [(0,38),(1,41),(4,42),(5,43),(6,3),(7,3),(8,3)]),9,136,[.slice none 0 0,.int .i64 0,.int .i64 0,.slice none 0 0,.slice none 0 0,.slice none 0 0,.int .i64 0,.int .i64 0,.int .i64 0]⟩:=WP
@[go_sem] theorem ZEp:ti Tryz.prog 65=some ⟨(.slice 136),1,24,[.slice none 0 0]⟩:=WP
@[go_sem] theorem ZEo:ti Tryz.prog 66=some ⟨(.slice 4),1,24,[.slice none 0 0]⟩:=WP
@[go_sem] theorem ZEn:ti Tryz.prog 67=some ⟨(.slice 33),1,24,[.slice none 0 0]⟩:=WP
@[go_sem] theorem ZEm:ti Tryz.prog 69=some ⟨(.struct [(0,65),(1,66),(2,66),(3,66),(4,67)]),5,120,[.slice none 0 0,.slice none 0 0,.slice none 0 0,.slice none 0 0,.slice none 0 0]⟩:=WP
@[go_sem] theorem ZEl:ti Tryz.prog 76=some ⟨.ref,1,8,[.map none]⟩:=WP
@[go_sem] theorem ZEk:ti Tryz.prog 78=some ⟨(.struct [(0,45),(9,65),(10,76)]),11,168,[.slice none 0 0,.int .i64 0,.int .i64 0,.slice none 0 0,.slice none 0 0,.slice none 0 0,.int .i64 0,.int .i64 0,.int .i64 0,.slice none 0 0,.map none]⟩:=WP
@[go_sem] theorem ZEj:ti Tryz.prog 89=some ⟨(.struct [(0,3),(1,3),(2,3),(3,9),(4,9),(5,3)]),6,64,[.int .i64 0,.int .i64 0,.int .i64 0,.string ⟨#[]⟩,.string ⟨#[]⟩,.int .i64 0]⟩:=WP
@[go_sem] theorem ZEi:ti Tryz.prog 92=some ⟨(.slice 96),1,24,[.slice none 0 0]⟩:=WP
@[go_sem] theorem ZEh:ti Tryz.prog 93=some ⟨(.slice 9),1,24,[.slice none 0 0]⟩:=WP
@[go_sem] theorem ZEg:ti Tryz.prog 94=some ⟨(.slice 157),1,24,[.slice none 0 0]⟩:=WP
@[go_sem] theorem ZEf:ti Tryz.prog 96=some ⟨(.struct [(0,3),(1,3),(2,3),(3,9),(4,92),(5,93),(6,94)]),7,112,[.int .i64 0,.int .i64 0,.int .i64 0,.string ⟨#[]⟩,.slice none 0 0,.slice none 0 0,.slice none 0 0]⟩:=WP
@[go_sem] theorem ZEe:ti Tryz.prog 98=some ⟨(.struct [(0,3),(1,3),(2,3),(3,33),(4,96),(11,4)]),12,168,[.int .i64 0,.int .i64 0,.int .i64 0,.slice none 0 0,.int .i64 0,.int .i64 0,.int .i64 0,.string ⟨#[]⟩,.slice none 0 0,.slice none 0 0,.slice none 0 0,.bool false]⟩:=WP
@[go_sem] theorem ZD1:ti Tryz.prog 105=some ⟨(.slice 193),1,24,[.slice none 0 0]⟩:=WP
@[go_sem] theorem ZD0:ti Tryz.prog 107=some ⟨(.struct [(0,3),(1,3),(2,105)]),3,40,[.int .i64 0,.int .i64 0,.slice none 0 0]⟩:=WP
@[go_sem] theorem ZDZ:ti Tryz.prog 109=some ⟨(.slice 112),1,24,[.slice none 0 0]⟩:=WP
@[go_sem] theorem ZDY:ti Tryz.prog 110=some ⟨(.slice 223),1,24,[.slice none 0 0]⟩:=WP
@[go_sem] theorem ZDX:ti Tryz.prog 112=some ⟨(.struct [(0,3),(1,3),(2,3),(3,9),(4,109),(5,93),(6,110)]),7,112,[.int .i64 0,.int .i64 0,.int .i64 0,.string ⟨#[]⟩,.slice none 0 0,.slice none 0 0,.slice none 0 0]⟩:=WP
@[go_sem] theorem ZDW:ti Tryz.prog 114=some ⟨(.struct [(0,3),(1,3),(2,3),(3,33),(4,112),(11,4)]),12,168,[.int .i64 0,.int .i64 0,.int .i64 0,.slice none 0 0,.int .i64 0,.int .i64 0,.int .i64 0,.string ⟨#[]⟩,.slice none 0 0,.slice none 0 0,.slice none 0 0,.bool false]⟩:=WP
@[go_sem] theorem ZDV:ti Tryz.prog 125=some ⟨(.slice 185),1,24,[.slice none 0 0]⟩:=WP
@[go_sem] theorem ZDU:ti Tryz.prog 127=some ⟨(.struct [(0,3),(1,3),(2,125)]),3,40,[.int .i64 0,.int .i64 0,.slice none 0 0]⟩:=WP
@[go_sem] theorem ZDT:ti Tryz.prog 132=some ⟨(.slice 134),1,24,[.slice none 0 0]⟩:=WP
@[go_sem] theorem ZDS:ti Tryz.prog 134=some ⟨(.struct [(0,3),(1,3),(2,9),(3,132)]),4,56,[.int .i64 0,.int .i64 0,.string ⟨#[]⟩,.slice none 0 0]⟩:=WP
@[go_sem] theorem ZDR:ti Tryz.prog 136=some ⟨(.struct [(0,3),(1,9),(2,134),(6,96),(13,3)]),14,200,[.int .i64 0,.string ⟨#[]⟩,.int .i64 0,.int .i64 0,.string ⟨#[]⟩,.slice none 0 0,.int .i64 0,.int .i64 0,.int .i64 0,.string ⟨#[]⟩,.slice none 0 0,.slice none 0 0,.slice none 0 0,.int .i64 0]⟩:=WP
@[go_sem] theorem ZDQ:ti Tryz.prog 155=some ⟨(.slice 218),1,24,[.slice none 0 0]⟩:=WP
@[go_sem] theorem ZDP:ti Tryz.prog 157=some ⟨(.struct [(0,33),(1,155)]),2,48,[.slice none 0 0,.slice none 0 0]⟩:=WP
@[go_sem] theorem ZDO:ti Tryz.prog 159=some ⟨(.struct [(0,3),(1,3),(2,3),(3,9),(4,9),(5,3)]),6,64,[.int .i64 0,.int .i64 0,.int .i64 0,.string ⟨#[]⟩,.string ⟨#[]⟩,.int .i64 0]⟩:=WP
@[go_sem] theorem ZDN:ti Tryz.prog 162=some ⟨(.struct [(0,9),(1,3)]),2,24,[.string ⟨#[]⟩,.int .i64 0]⟩:=WP
@[go_sem] theorem ZDM:ti Tryz.prog 174=some ⟨(.struct [(0,9),(1,3)]),2,24,[.string ⟨#[]⟩,.int .i64 0]⟩:=WP
@[go_sem] theorem ZDL:ti Tryz.prog 185=some ⟨(.struct [(0,3),(1,3),(2,3),(3,9),(4,96)]),11,152,[.int .i64 0,.int .i64 0,.int .i64 0,.string ⟨#[]⟩,.int .i64 0,.int .i64 0,.int .i64 0,.string ⟨#[]⟩,.slice none 0 0,.slice none 0 0,.slice none 0 0]⟩:=WP
@[go_sem] theorem ZDK:ti Tryz.prog 186=some ⟨(.slice 5),1,24,[.slice none 0 0]⟩:=WP
@[go_sem] theorem ZDJ:ti Tryz.prog 193=some ⟨(.struct [(0,3),(1,3),(2,3),(3,9),(4,112)]),11,152,[.int .i64 0,.int .i64 0,.int .i64 0,.string ⟨#[]⟩,.int .i64 0,.int .i64 0,.int .i64 0,.string ⟨#[]⟩,.slice none 0 0,.slice none 0 0,.slice none 0 0]⟩:=WP
@[go_sem] theorem ZDI:ti Tryz.prog 208=some ⟨.fn,1,8,[.nilFunc]⟩:=WP
@[go_sem] theorem ZDH:ti Tryz.prog 209=some ⟨.fn,1,8,[.nilFunc]⟩:=WP
@[go_sem] theorem ZDG:ti Tryz.prog 211=some ⟨(.struct [(0,208),(1,209)]),2,16,[.nilFunc,.nilFunc]⟩:=WP
@[go_sem] theorem ZDF:ti Tryz.prog 218=some ⟨(.struct [(0,3),(1,3)]),2,16,[.int .i64 0,.int .i64 0]⟩:=WP
@[go_sem] theorem ZDj:ZAV Tryz.prog 218=some [(.int .i64),(.int .i64)]:=WP
@[go_sem] theorem ZDE:ti Tryz.prog 221=some ⟨(.slice 280),1,24,[.slice none 0 0]⟩:=WP
@[go_sem] theorem ZDD:ti Tryz.prog 223=some ⟨(.struct [(0,33),(1,221)]),2,48,[.slice none 0 0,.slice none 0 0]⟩:=WP
@[go_sem] theorem ZDC:ti Tryz.prog 225=some ⟨(.slice 246),1,24,[.slice none 0 0]⟩:=WP
@[go_sem] theorem ZDB:ti Tryz.prog 230=some ⟨(.struct [(0,225),(1,3),(2,3),(3,3)]),4,48,[.slice none 0 0,.int .i64 0,.int .i64 0,.int .i64 0]⟩:=WP
@[go_sem] theorem ZDA:ti Tryz.prog 243=some ⟨(.struct [(0,225),(1,3),(2,3)]),3,40,[.slice none 0 0,.int .i64 0,.int .i64 0]⟩:=WP
@[go_sem] theorem ZDz:ti Tryz.prog 246=some ⟨(.struct [(0,3),(1,3),(2,3),(3,9)]),4,40,[.int .i64 0,.int .i64 0,.int .i64 0,.string ⟨#[]⟩]⟩:=WP
@[go_sem] theorem ZDy:ti Tryz.prog 280=some ⟨(.struct [(0,3),(1,3)]),2,16,[.int .i64 0,.int .i64 0]⟩:=WP
@[go_sem] theorem ZD7:mti Tryz.prog 76=some (⟨(.int .i64),1,8,[.int .i64 0]⟩,.bool false):=WP
namespace Am
section
variable {P:Program} {ops:Array Oper} {O O' O0:St} {K:St->Prop} {o:Oper} {rest:List Oper} {g:Eff} {B As:List (List Nat)} {i:Nat} {es:List (Nat×Eff)} {f:Nat} {xs:List Operand}
theorem ZuB:Zp6 P ops o rest O K (some (f,xs))=ZmT P ops o rest O K f (Xs O xs) ((Xs O xs).bind (Vs O)):=rfl
theorem ZuC:Zp6 P ops o rest O K none=Zky P ops o rest O K (Zaa P O o):=rfl
theorem Zsl:Zky P ops o rest O K (some g)=(g.side/\Z9 P ops rest (O.app g) K):=rfl
theorem Zsm:Zky P ops o rest O K none=HBy P O o fun g=>Z9 P ops rest (O.app g) K:=rfl
theorem Zsn:ZmS P ops rest O K (some g)=(g.side/\Z9 P ops rest (O.app g) K):=rfl
theorem Zso:ZmS P ops rest O K none=False:=rfl
theorem Zun:ZuO P ops O0 K B As o rest i es O (some (f,xs))=Zsf P ops O0 K B As o rest i es O f (Xs O xs) ((Xs O xs).bind (Vs O)):=rfl
theorem Zuo:ZuO P ops O0 K B As o rest i es O none=Zos P ops O0 K B As o rest i es O (Zaa P O o):=rfl
theorem Zr9:Zos P ops O0 K B As o rest i es O (some g)=(g.side/\Zfi P ops O0 K B As rest (i+1) ((i,g)::es)):=rfl
theorem Zsa:Zos P ops O0 K B As o rest i es O none=HBy P O o fun g=>Zfi P ops O0 K B As rest (i+1) ((i,g)::es):=rfl
section
variable {b want:Bool}
@[congr] theorem ZwS {v v':Option Bool} (hs:O=O') (hv:v=v'):Vu P ops o rest O K want v=Vu P ops o rest O' K want v':=by rw [hs,hv]
theorem ZuD:Vu P ops o rest O K true (some true)=Zp6 P ops o rest O K (XJ o.op):=by simp [Vu]
theorem ZuG:Vu P ops o rest O K false (some false)=Zp6 P ops o rest O K (XJ o.op):=by simp [Vu]
theorem ZuE:Vu P ops o rest O K true (some false)=Z9 P ops rest (O.kill o.dst) K:=by simp [Vu]
theorem ZuF:Vu P ops o rest O K false (some true)=Z9 P ops rest (O.kill o.dst) K:=by simp [Vu]
end
theorem Zsb:ZpT P ops O0 K B As rest i es (some g)=(g.side/\Zfi P ops O0 K B As rest (i+1) ((i,g)::es)):=rfl
theorem Zsc:ZpT P ops O0 K B As rest i es none=False:=rfl
theorem ZpU {want b:Bool}:Zot P ops O0 K B As o rest i es O want (some b)=if b=want then ZuO P ops O0 K B As o rest i es O (XJ o.op) else Zfi P ops O0 K B As rest (i+1) ((i,⟨True,match o.dst with | some d=>[(d,.dead)]| none=>[],[],[]⟩)::es):=rfl
theorem ZpV {want:Bool}:Zot P ops O0 K B As o rest i es O want none=False:=rfl
theorem ZD5 {x:L}:U3 [.l x]=true:=rfl
theorem ZzK:U3 [.nil]=true:=rfl
theorem ZzI {τ n:Nat}:U3 [.own τ n]=true:=rfl
theorem ZzO {k o:Nat}:U3 [.box k o]=true:=rfl
theorem ZzQ {ls:List L}:U3 [.adr ls]=true:=rfl
theorem ZzM {τ n i W o:Nat}:U3 [.elt τ n i W o]=true:=rfl
theorem ZzJ {τ j W o m:Nat}:U3 [.nst τ j W o m]=true:=rfl
theorem ZzL {τ j W o m:Nat}:U3 [.nel τ j W o m]=true:=rfl
theorem ZBJ {τ n l h W:Nat}:U3 [.vw τ n l h W]=true:=rfl
theorem ZzP:U3 [.any]=true:=rfl
theorem ZxE {v:Value} {x:L}:U3 [.kept v x]=true:=rfl
theorem ZBK:U3 [.np]=true:=rfl
theorem ZzN {f:Nat} {ks:List Nat}:U3 [.clo f ks]=true:=rfl
theorem ZBL:U3 [.nf]=true:=rfl
theorem ZBM {k:Nat}:U3 [.mp k]=true:=rfl
theorem ZD4:U3 []=true:=rfl
theorem ZD6 {c d:CV} {cs:List CV}:U3 (c::d::cs)=true:=rfl
def bs3 (O:St) (d len:Nat) (vs:List (Nat×V)) (ei:TI):List (List CV)->Option (List (List L)×Bool×List Nat×Prop)->Option Eff
 | css,some (es,f,τs,q)=>if d<O.nt/\vs.map (·.1)=List.range len/\css.all (fun c=>c.length==ei.size)/\τs.Nodup/\len*ei.size<=16777216/\len<=16777216/\ei.zero.length=ei.size/\(O.ar.lookup (64*d)).isNone then
   some ⟨q/\64*d<1000000,[(d,.one (.own (64*d) es.length))],[],(64*d,some ⟨f,es⟩)::τs.map (fun κ=>(κ,none))⟩ else none
 | _,none=>none
def bs2 (O:St) (d len:Nat) (vs:List (Nat×V)):Option TI->Option (List (List CV))->Option Eff
 | some ei,some css=>bs3 O d len vs ei css (Zm7 O css)
 | _,_=>none
def bs1 (P:Program) (O:St) (d len:Nat):Option TI->Option (List (Nat×V))->Option Eff
 | some ⟨.slice et,_,_,_⟩,some vs=>bs2 O d len vs (ti P et) (Zhn vs)
 | _,_=>none
theorem Zv1 {d len:Nat} {vs:List (Nat×V)} {ei:TI} {css:List (List CV)} {es:List (List L)} {f:Bool} {τs:List Nat} {q:Prop}:bs3 O d len vs ei css (some (es,f,τs,q))=if d<O.nt/\vs.map (·.1)=List.range len/\css.all (fun c=>c.length==ei.size)/\τs.Nodup/\len*ei.size<=16777216/\len<=16777216/\ei.zero.length=ei.size/\(O.ar.lookup (64*d)).isNone then
   some ⟨q/\64*d<1000000,[(d,.one (.own (64*d) es.length))],[],(64*d,some ⟨f,es⟩)::τs.map (fun κ=>(κ,none))⟩ else none:=rfl
theorem Zv2 {d len:Nat} {vs:List (Nat×V)} {ei:TI} {css:List (List CV)}:bs2 O d len vs (some ei) (some css)=bs3 O d len vs ei css (Zm7 O css):=rfl
theorem Zv3 {d len et a b:Nat} {c:List Value} {vs:List (Nat×V)}:bs1 P O d len (some ⟨.slice et,a,b,c⟩) (some vs)=bs2 O d len vs (ti P et) (Zhn vs):=rfl
theorem ZqM {d t len:Nat} {ps:Array (Nat×Operand)}:Wu P O (some d) (.buildSlice t len ps)=bs1 P O d len (ti P t) (parts O ps.toList):=by
 simp only [Wu];cases ti P t with
 | none=>rfl
 | some i=>
  obtain ⟨td,a,b,c⟩:=i;cases parts O ps.toList with
  | none=>cases td<;>rfl
  | some vs=>
   cases td<;>try rfl
   rename_i et;simp only [bs1];cases ti P et with
   | none=>rfl
   | some ei=>
    cases Zhn vs with
    | none=>rfl
    | some css=>
     simp only [bs2];cases Zm7 O css with
     | none=>rfl
     | some r=>obtain ⟨es,f,τs,q⟩:=r;rfl
theorem ZyA {d t len:Nat} {ps:Array (Nat×Operand)} {ty:TypeId} {pos:String} {af:Array Edge} {gd:Option (Nat×Bool)}:Zp6 P ops { dst:=some d,op:=.buildSlice t len ps,type:=ty,pos:=pos,after:=af,guard:=gd} rest O K none=Zky P ops { dst:=some d,op:=.buildSlice t len ps,type:=ty,pos:=pos,after:=af,guard:=gd} rest O K (bs1 P O d len (ti P t) (parts O ps.toList)):=
 congrArg (Zky P ops { dst:=some d,op:=.buildSlice t len ps,type:=ty,pos:=pos,after:=af,guard:=gd} rest O K) ZqM
theorem Zyq {d t len:Nat} {ps:Array (Nat×Operand)} {ty:TypeId} {pos:String} {af:Array Edge} {gd:Option (Nat×Bool)}:ZuO P ops O0 K B As { dst:=some d,op:=.buildSlice t len ps,type:=ty,pos:=pos,after:=af,guard:=gd} rest i es O none=Zos P ops O0 K B As { dst:=some d,op:=.buildSlice t len ps,type:=ty,pos:=pos,after:=af,guard:=gd} rest i es O (bs1 P O d len (ti P t) (parts O ps.toList)):=
 congrArg (Zos P ops O0 K B As { dst:=some d,op:=.buildSlice t len ps,type:=ty,pos:=pos,after:=af,guard:=gd} rest i es O) ZqM
end
end Am
attribute [go_sem high] ZyA Zyq
attribute [go_sem] ZD5 ZzK ZzI ZzO ZzQ ZzM ZzJ ZzL ZBJ ZzP ZxE ZBK ZzN ZBL ZBM ZD4 ZD6 Zv3 Zv2 Zv1 Zvz ZB8 ZuQ Zpm ZtH Zrv ZeB Zau Zav ZuB ZuC Zsp Zsq Zsn Zso Zsl Zsm ZuD ZuG ZuE ZuF Zp7 XJ Zaa QG Wu opd Zq9 Zop ZiT Zcp yld St.kill St.app lookup_cons Zax inB ZAe Zph ZDc ZDd ZgE ZBD ZAf ZCg ZAR ZzD ZBG ZzC ZAQ ZAB Zx7 ZqB ZAP St.ren Zm2 UC Zhs frV frL frC Zk0 Zsz Zk1 ZsA Zm7 Vs Zm5 Zm6 ZpO Xs num bI bSh bS Zft inV QO Zb3 Zlr Zmx Zml ptD L.flat Zfw Ue Zrg ZlD ZlE Zun Zuo Zsd Zse Zsb Zsc Zr9 Zsa ZpU ZpV view Zd9 UB TD.agg Zhm Zhn parts ZpM eqC Zyd ZAT ZxB UA Zqo base setAt cle Zd7 Zxq vle ZyN ZyR ZyU iC sC bC lC Zke Zfh Zqp
theorem mixed:Tryz.prog.follows .mixedOrders=true:=by kernel_rfl
@[go_sem] theorem ZC3 {n:Int} (h: -9223372036854775808<=n/\n<=9223372036854775807):IntKind.i64.wrap n=n:=IntWalk.i64_in n h
@[go_sem] theorem ZA7 {n:Int} (h:0<=n/\n<=255):IntKind.u8.wrap n=n:=IntWalk.u8_in n h
@[go_sem] theorem ZAM {α:Type} {p:α->Prop} {xs:List α} {n:Nat} (h:∀z∈xs,p z):(∀z∈xs.take n,p z)↔True:=⟨fun _=>trivial,fun _ z hz=>h z (List.mem_of_mem_take hz)⟩
@[go_sem] theorem take_len {α β:Type} (f:α->β) (xs:List α):(xs.map f).take xs.length=xs.map f:=List.take_of_length_le (by simp)
@[go_sem] theorem ZA0 {α:Type} {p:α->Prop} {xs:List α} {n:Nat} (h:∀z∈xs,p z):(∀z∈xs.drop n,p z)↔True:=⟨fun _=>trivial,fun _ z hz=>h z (List.mem_of_mem_drop hz)⟩
@[go_sem] theorem ZvC (xs:List Int):Ue (xs.map iC)=true:=by
 refine List.all_eq_true.2 fun e he=> ?_;obtain ⟨x,_,rfl⟩:=List.mem_map.1 he
 rfl
end Go.Proofs.YtmcfegjoccgpoaaGreatDoor
