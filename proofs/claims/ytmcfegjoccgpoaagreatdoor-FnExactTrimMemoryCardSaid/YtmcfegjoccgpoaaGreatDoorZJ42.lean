import Derived.Test.YtmcfegjoccgpoaaGreatDoorZMt
import Derived.Test.YtmcfegjoccgpoaaGreatDoorZMz
import Derived.Test.YtmcfegjoccgpoaaGreatDoorZJ3
set_option linter.unusedSimpArgs false
set_option linter.unusedVariables false
namespace Go.Proofs.YtmcfegjoccgpoaaGreatDoor
open Go.RowKit Am
theorem Zpq (xs:List Int):MOk Tryz.prog 15 (xs.map iC):=Jo (C:=⟨19,1,89,false,true,[(0,.int)]⟩) WP ⟨rfl,rfl⟩ Z5 (λx=>by simp [elC,Ze4,iC]) xs
theorem Ztv {k z:Int} {xs:List Int} (h:hd? k (qnE (xs.map iC))=some z):ZyD Tryz.prog 15 (.one (.sl (xs.map iC))) k (.one (.sl (qsl iC xs k))) z:=ZzW WP (Zpq xs) h
theorem ZpJ (xs:List Int):HOk Tryz.prog 16 (xs.map iC):=Js (C:=⟨21,1,89,true,true,[(0,.int)]⟩) WP ⟨rfl,rfl⟩ Z5 (λx=>by simp [elC,Ze4,iC]) xs
theorem ZmE {k j z:Int} {xs:List Int} (e:j=k) (h:hd? j (qnE (xs.map iC))=some z):Ctr Tryz.prog 16 [.one (.sl (qsl iC xs k)),.one (.int .i64 j)] true [.one (.int .i64 z)]:=by subst e;exact Zz6 WP (ZpJ xs) h
theorem ZhO (xs:List Ma):MOk Tryz.prog 91 (xs.map sC):=Jo (C:=⟨20,1,89,false,true,[(0,.str)]⟩) WP ⟨rfl,rfl⟩ Z5 (λx=>by simp [elC,Ze4,sC]) xs
theorem Zh2 (xs:List Ma):HOk Tryz.prog 106 (xs.map sC):=Js (C:=⟨22,1,89,true,true,[(0,.str)]⟩) WP ⟨rfl,rfl⟩ Z5 (λx=>by simp [elC,Ze4,sC]) xs
theorem Zvq (xs:List Zo):MOk Tryz.prog 86 (xs.map Zo.c):=Jo (C:=⟨57,6,89,false,true,[(0,.int),(1,.int),(2,.int),(3,.str),(4,.str),(5,.int)]⟩) WP ⟨rfl,rfl⟩ Z5 (λx=>by simp [elC,Ze4,Zo.ZY]) xs
theorem ZvH (xs:List Zo):HOk Tryz.prog 102 (xs.map Zo.c):=Js (C:=⟨69,6,89,true,true,[(0,.int),(1,.int),(2,.int),(3,.str),(4,.str),(5,.int)]⟩) WP ⟨rfl,rfl⟩ Z5 (λx=>by simp [elC,Ze4,Zo.ZY]) xs
theorem Zpo (x:Zg):ZwU Tryz.prog 42 x.c:=by
 refine Ztz (C:=⟨10,0,89,false,false,[(0,.call 86 1 false)]⟩) WP ⟨rfl,rfl⟩ Z5 (by simp [stV,cut,vmk,qvR,qvC,qwR,qwC,Zg.ZY]) (by simp [stV,cut,vmk,qvR,qvC,qwR,qwC,Zg.ZY]) (by simp [vC,stV,cut,vmk,qvR,qvC,qwR,qwC,Zg.ZY,Zvq])
theorem ZpH (x:Zg):ZwV Tryz.prog 53 x.c:=by
 refine Zt0 (C:=⟨12,0,89,true,false,[(0,.call 102 1 false)]⟩) WP rfl Z5 (by simp [stV,cut,vmk,qvR,qvC,qwR,qwC,Zg.ZY]) (by simp [vC,stV,cut,vmk,qvR,qvC,qwR,qwC,Zg.ZY,ZvH])
theorem Zvp (xs:List Zq):MOk Tryz.prog 87 (xs.map Zq.c):=Jo (C:=⟨28,2,89,false,true,[(0,.str),(1,.int)]⟩) WP ⟨rfl,rfl⟩ Z5 (λx=>by simp [elC,Ze4,Zq.ZY]) xs
theorem ZvG (xs:List Zq):HOk Tryz.prog 103 (xs.map Zq.c):=Js (C:=⟨32,2,89,true,true,[(0,.str),(1,.int)]⟩) WP ⟨rfl,rfl⟩ Z5 (λx=>by simp [elC,Ze4,Zq.ZY]) xs
theorem Zvl (x:ZD):ZwU Tryz.prog 43 x.c:=by
 refine Ztz (C:=⟨10,0,89,false,false,[(2,.call 87 1 false)]⟩) WP ⟨rfl,rfl⟩ Z5 (by simp [stV,cut,vmk,qvR,qvC,qwR,qwC,ZD.ZY]) (by simp [stV,cut,vmk,qvR,qvC,qwR,qwC,ZD.ZY]) (by simp [vC,stV,cut,vmk,qvR,qvC,qwR,qwC,ZD.ZY,Zvp])
theorem ZvD (x:ZD):ZwV Tryz.prog 54 x.c:=by
 refine Zt0 (C:=⟨12,0,89,true,false,[(2,.call 103 1 false)]⟩) WP rfl Z5 (by simp [stV,cut,vmk,qvR,qvC,qwR,qwC,ZD.ZY]) (by simp [vC,stV,cut,vmk,qvR,qvC,qwR,qwC,ZD.ZY,ZvG])
theorem ZrN (xs:List Zk):MOk Tryz.prog 143 (xs.map Zk.c):=Jo (C:=⟨27,2,89,false,true,[(0,.int),(1,.int)]⟩) WP ⟨rfl,rfl⟩ Z5 (λx=>by simp [elC,Ze4,Zk.ZY]) xs
theorem ZrZ (xs:List Zk):HOk Tryz.prog 150 (xs.map Zk.c):=Js (C:=⟨31,2,89,true,true,[(0,.int),(1,.int)]⟩) WP ⟨rfl,rfl⟩ Z5 (λx=>by simp [elC,Ze4,Zk.ZY]) xs
theorem Zpp (xs:List ZP):MOk Tryz.prog 92 (xs.map ZP.c):=Jo (C:=⟨27,2,89,false,true,[(0,.call 15 1 false),(1,.call 143 1 false)]⟩) WP ⟨rfl,rfl⟩ Z5 (λx=>by simp [elC,Ze4,ZP.ZY,Zpq,ZrN]) xs
theorem ZpI (xs:List ZP):HOk Tryz.prog 107 (xs.map ZP.c):=Js (C:=⟨31,2,89,true,true,[(0,.call 16 1 false),(1,.call 150 1 false)]⟩) WP ⟨rfl,rfl⟩ Z5 (λx=>by simp [elC,Ze4,ZP.ZY,ZpJ,ZrZ]) xs
theorem Zn2 (xs:List Zb):MOk Tryz.prog 90 (xs.map Zb.c):=Zvr (sub:=λx=>x.list) (C:=⟨63,7,89,false,true,[(0,.int),(1,.int),(2,.int),(3,.str),(4,.call 90 1 false),(5,.call 91 1 false),(6,.call 92 1 false)]⟩) (λp=>Zb.ind (p:=p)) WP ⟨rfl,rfl⟩ Z5 (λx j=>by simp [elC,Ze4,Zb.ZY,ZhO,Zpp];exact j) xs
theorem Zod (xs:List Zb):HOk Tryz.prog 105 (xs.map Zb.c):=ZvI (sub:=λx=>x.list) (C:=⟨77,7,89,true,true,[(0,.int),(1,.int),(2,.int),(3,.str),(4,.call 105 1 false),(5,.call 106 1 false),(6,.call 107 1 false)]⟩) (λp=>Zb.ind (p:=p)) WP ⟨rfl,rfl⟩ Z5 (λx j=>by simp [elC,Ze4,Zb.ZY,Zh2,ZpI];exact j) xs
theorem Zvo (xs:List Zw):MOk Tryz.prog 88 (xs.map Zw.c):=Jo (C:=⟨99,11,89,false,true,[(0,.int),(1,.int),(2,.int),(3,.str),(4,.int),(5,.int),(6,.int),(7,.str),(8,.call 90 1 false),(9,.call 91 1 false),(10,.call 92 1 false)]⟩) WP ⟨rfl,rfl⟩ Z5 (λx=>by simp [elC,Ze4,Zw.ZY,Zb.ZY,Zn2,ZhO,Zpp]) xs
theorem ZvF (xs:List Zw):HOk Tryz.prog 104 (xs.map Zw.c):=Js (C:=⟨121,11,89,true,true,[(0,.int),(1,.int),(2,.int),(3,.str),(4,.int),(5,.int),(6,.int),(7,.str),(8,.call 105 1 false),(9,.call 106 1 false),(10,.call 107 1 false)]⟩) WP ⟨rfl,rfl⟩ Z5 (λx=>by simp [elC,Ze4,Zw.ZY,Zb.ZY,Zod,Zh2,ZpI]) xs
theorem Zvn (xs:List Zn):MOk Tryz.prog 44 (xs.map Zn.c):=Jo (C:=⟨34,3,89,false,true,[(0,.int),(1,.int),(2,.call 88 1 false)]⟩) WP ⟨rfl,rfl⟩ Z5 (λx=>by simp [elC,Ze4,Zn.ZY,Zvo]) xs
theorem ZvE (xs:List Zn):HOk Tryz.prog 55 (xs.map Zn.c):=Js (C:=⟨40,3,89,true,true,[(0,.int),(1,.int),(2,.call 104 1 false)]⟩) WP ⟨rfl,rfl⟩ Z5 (λx=>by simp [elC,Ze4,Zn.ZY,ZvF]) xs
theorem Ztx (xs:List Ze):MOk Tryz.prog 45 (xs.map Ze.c):=Jo (C:=⟨107,12,89,false,true,[(0,.int),(1,.int),(2,.int),(3,.call 15 1 false),(4,.int),(5,.int),(6,.int),(7,.str),(8,.call 90 1 false),(9,.call 91 1 false),(10,.call 92 1 false),(11,.bool)]⟩) WP ⟨rfl,rfl⟩ Z5 (λx=>by simp [elC,Ze4,Ze.ZY,Zb.ZY,Zpq,Zn2,ZhO,Zpp]) xs
theorem ZtY (xs:List Ze):HOk Tryz.prog 56 (xs.map Ze.c):=Js (C:=⟨131,12,89,true,true,[(0,.int),(1,.int),(2,.int),(3,.call 16 1 false),(4,.int),(5,.int),(6,.int),(7,.str),(8,.call 105 1 false),(9,.call 106 1 false),(10,.call 107 1 false),(11,.bool)]⟩) WP ⟨rfl,rfl⟩ Z5 (λx=>by simp [elC,Ze4,Ze.ZY,Zb.ZY,ZpJ,Zod,Zh2,ZpI]) xs
theorem Ztw (x:Za):ZwU Tryz.prog 14 x.c:=by
 have j:=Zpo x.notebook;simp only [Zg.ZY,Hm,Hs,HG] at j;have k:=Zvl x.world;simp only [ZD.ZY,Hm,Hs,HG] at k;refine Ztz (C:=⟨22,0,89,false,false,[(0,.call 42 1 true),(1,.call 43 3 true),(4,.call 44 1 false),(5,.call 45 1 false)]⟩) WP ⟨rfl,rfl⟩ Z5 (by simp [stV,cut,vmk,qvR,qvC,qwR,qwC,Za.ZY,Zg.ZY,ZD.ZY]) (by simp [stV,cut,vmk,qvR,qvC,qwR,qwC,Za.ZY,Zg.ZY,ZD.ZY]) (by simp [vC,stV,cut,vmk,qvR,qvC,qwR,qwC,Za.ZY,Zg.ZY,ZD.ZY,Zvn,Ztx,j,k])
theorem Za.ZnX (x:Za) (k:Int):(qs Za.c x k 0).length=x.notebook.cells.length/\(qs Za.c x k 3).length=x.world.files.length/\(qs Za.c x k 4).length=x.tapes.length/\(qs Za.c x k 5).length=x.entries.length:=by simp [qs,Za.ZY,Zg.ZY,ZD.ZY,qvR,qvC,KJ]
theorem Za.ZDb (x:Za) (k:Int):qvR x.c k=[.sl (qs Za.c x k 0),.int .i64 x.world.clock,.int .i64 x.world.seed,.sl (qs Za.c x k 3),.sl (qs Za.c x k 4),.sl (qs Za.c x k 5),.int .i64 x.next,.int .i64 x.limit,.int .i64 x.work]:=by simp [qs,Za.ZY,Zg.ZY,ZD.ZY,qvR,qvC]
theorem JI {k z:Int} {x:Za} (h:hd? k (qwR x.c)=some z):ZyD Tryz.prog 14 (.agg x.c) k (.agg [.sl (qs Za.c x k 0),.int .i64 x.world.clock,.int .i64 x.world.seed,.sl (qs Za.c x k 3),.sl (qs Za.c x k 4),.sl (qs Za.c x k 5),.int .i64 x.next,.int .i64 x.limit,.int .i64 x.work]) z:=Za.ZDb x k▸ZzV WP (Ztw x) h
theorem ZtX (x:Za):ZwV Tryz.prog 21 x.c:=by
 have j:=ZpH x.notebook;simp only [Zg.ZY,Hm,Hs,HG] at j;have k:=ZvD x.world;simp only [ZD.ZY,Hm,Hs,HG] at k;refine Zt0 (C:=⟨30,0,89,true,false,[(0,.call 53 1 true),(1,.call 54 3 true),(4,.call 55 1 false),(5,.call 56 1 false)]⟩) WP rfl Z5 (by simp [stV,cut,vmk,qvR,qvC,qwR,qwC,Za.ZY,Zg.ZY,ZD.ZY]) (by simp [vC,stV,cut,vmk,qvR,qvC,qwR,qwC,Za.ZY,Zg.ZY,ZD.ZY,ZvE,ZtY,j,k])
theorem ZbC {k j z:Int} {x:Za} (e:j=k) (h:hd? j (qwR x.c)=some z):Ctr Tryz.prog 21 [.agg [.sl (qs Za.c x k 0),.int .i64 x.world.clock,.int .i64 x.world.seed,.sl (qs Za.c x k 3),.sl (qs Za.c x k 4),.sl (qs Za.c x k 5),.int .i64 x.next,.int .i64 x.limit,.int .i64 x.work],.one (.int .i64 j)] true [.one (.int .i64 z)]:=by subst e;rw [<-Za.ZDb];exact Zz5 WP (ZtX x) h
theorem ZmX (xs:List Int):qnE (xs.map iC)<=16*bkS (λ_=>0) xs:=Zi1 λx _=>by simp [iC,qnR,qnC]<;>omega
theorem Zia (xs:List Ma):qnE (xs.map sC)<=16*bkS ByteArray.size xs:=Zi1 λx _=>by simp [sC,qnR,qnC]<;>omega
theorem Zo.Zfo (x:Zo):qnR x.c<=16*(1+x.bk):=by simp only [Zo.ZY,Hm,Hs,HG,qnR,qnC,Zo.Zz];omega
theorem Zwe (xs:List Zo):qnE (xs.map Zo.c)<=16*bkS Zo.bk xs:=Zi1 λx _=>x.Zfo
theorem Zq.Zfo (x:Zq):qnR x.c<=16*(1+x.bk):=by simp only [Zq.ZY,Hm,Hs,HG,qnR,qnC,Zq.Zz];omega
theorem Zwc (xs:List Zq):qnE (xs.map Zq.c)<=16*bkS Zq.bk xs:=Zi1 λx _=>x.Zfo
theorem Zk.Zfo (x:Zk):qnR x.c<=16*(1+0):=by simp only [Zk.ZY,Hm,Hs,HG,qnR,qnC];omega
theorem Zss (xs:List Zk):qnE (xs.map Zk.c)<=16*bkS (λ_=>0) xs:=Zi1 λx _=>x.Zfo
theorem ZP.Zfo (x:ZP):qnR x.c<=16*(1+x.bk):=by simp only [ZP.ZY,Hm,Hs,HG,qnR,qnC,ZP.Zz];have j:=ZmX x.cells;have k:=Zss x.from_;omega
theorem Zp9 (xs:List ZP):qnE (xs.map ZP.c)<=16*bkS ZP.bk xs:=Zi1 λx _=>x.Zfo
theorem Zb.Zfo (x:Zb):qnR x.c<=16*(1+x.bk):=by
 refine Zb.ind (p:=λx=>qnR x.c<=16*(1+x.bk)) (λx j=> ?_) x;simp only [Zb.ZY,Hm,Hs,HG,qnR,qnC,Zb.Zz];have k:=Zi1 (c:=Zb.c) (f:=Zb.bk) (C:=16) (xs:=x.list) j;have l:=Zia x.columns;have m:=Zp9 x.rows;omega
theorem ZoH (xs:List Zb):qnE (xs.map Zb.c)<=16*bkS Zb.bk xs:=Zi1 λx _=>x.Zfo
theorem Zw.Zfo (x:Zw):qnR x.c<=16*(1+x.bk):=by simp only [Zw.ZY,Zb.ZY,Hm,Hs,HG,qnR,qnC,Zw.Zz,Zb.Zz];have k:=ZoH x.result.list;have l:=Zia x.result.columns;have j:=Zp9 x.result.rows;omega
theorem Zwa (xs:List Zw):qnE (xs.map Zw.c)<=16*bkS Zw.bk xs:=Zi1 λx _=>x.Zfo
theorem Zn.Zfo (x:Zn):qnR x.c<=16*(1+x.bk):=by simp only [Zn.ZY,Hm,Hs,HG,qnR,qnC,Zn.Zz];have j:=Zwa x.reads;omega
theorem Zv8 (xs:List Zn):qnE (xs.map Zn.c)<=16*bkS Zn.bk xs:=Zi1 λx _=>x.Zfo
theorem Ze.Zfo (x:Ze):qnR x.c<=16*(1+x.bk):=by simp only [Ze.ZY,Zb.ZY,Hm,Hs,HG,qnR,qnC,Ze.Zz,Zb.Zz];have k:=ZmX x.inputs;have l:=ZoH x.value.list;have m:=Zia x.value.columns;have j:=Zp9 x.value.rows;omega
theorem ZuI (xs:List Ze):qnE (xs.map Ze.c)<=16*bkS Ze.bk xs:=Zi1 λx _=>x.Zfo
theorem Za.ZnS (x:Za):qwR x.c<=16*x.bk:=by simp only [Za.ZY,Zg.ZY,ZD.ZY,Hm,Hs,HG,qwR,qwC,Za.Zz,Zg.Zz,ZD.Zz];have j:=Zwe x.notebook.cells;have k:=Zwc x.world.files;have l:=Zv8 x.tapes;have m:=ZuI x.entries;omega
end Go.Proofs.YtmcfegjoccgpoaaGreatDoor
