import Derived.Test.YtbkllghhcphkaaaGreatDoorWorkBoundFa
import Derived.Test.YtbkllghhcphkaaaGreatDoorWorkBoundFb
import Derived.Test.YtbkllghhcphkaaaGreatDoorWorkBoundFc
import Derived.Test.YtbkllghhcphkaaaGreatDoorWorkBoundFd
import Derived.Test.YtbkllghhcphkaaaGreatDoorWorkBoundFe
import Derived.Test.YtbkllghhcphkaaaGreatDoorWorkBoundFf
import Derived.Test.YtbkllghhcphkaaaGreatDoorWorkBoundFg
import Derived.Test.YtbkllghhcphkaaaGreatDoorWorkBoundM
import Derived.Test.YtbkllghhcphkaaaGreatDoorTie
import Derived.LaidMore
import Derived.Stop.Joined
import Derived.SevenTiedAt
import Derived.ChangeSame
import Derived.ChangeVars
import Derived.OpenVars
import Derived.LaidLaws
import Derived.Lay
import Derived.LaidOnce
import Derived.Shelf.Vars
set_option linter.unusedSimpArgs false
set_option linter.unusedVariables false
namespace Go.Proofs.YtbkllghhcphkaaaGreatDoor.fnExactWorkBound
open Go.ChangeShapes Go.WideShapes Go.ChangeAt Go.RowKit Go.Deep Am
theorem own:ownKnob Tryz.prog.godebug=none:=by kernel_rfl
theorem laidOut:laidOutB Tryz.prog=true:=by kernel_rfl
theorem Zlu:[43,24,22,45,3,9,39,37,171,40,128,126,221,133,130,69,131,266,26,264,301,41,135,4,47].all (Zvw Tryz.prog [43,24,22,45,3,9,39,37,171,40,128,126,221,133,130,69,131,266,26,264,301,41,135,4,47])=true:=by kernel_rfl
theorem ZqJ {n:Nat} {d:D} (h:has Tryz.prog n 45 d):∃x:Zk,fl d=x.c:=by
 cases n with
 | zero=>exact h.elim
 | succ n=>
  simp only [has,Tryz.underlying45] at h;obtain ⟨ds,rfl,hl,hf⟩:=h
  match ds,hl with
  | [x0,x1,x2,x3,x4,x5],_=>
   obtain ⟨y0,e0⟩:=Qq Tryz.underlying3 (hf 0 _ x0 rfl rfl);obtain ⟨y1,e1⟩:=Qq Tryz.underlying3 (hf 1 _ x1 rfl rfl);obtain ⟨y2,e2⟩:=Qq Tryz.underlying3 (hf 2 _ x2 rfl rfl);obtain ⟨y3,e3⟩:=ZeP Tryz.underlying9 (hf 3 _ x3 rfl rfl);obtain ⟨y4,e4⟩:=ZeP Tryz.underlying9 (hf 4 _ x4 rfl rfl);obtain ⟨y5,e5⟩:=Qq Tryz.underlying3 (hf 5 _ x5 rfl rfl);exact ⟨⟨y0,y1,y2,y3,y4,y5⟩,by simp only [fl,flL,e0,e1,e2,e3,e4,e5,Zk.UF];try rfl⟩
theorem ZtT {n:Nat} {d:D} (h:has Tryz.prog n 22 d):∃x:List Zk,fl d=[.sl (x.map Zk.c)]:=
 W8 Tryz.underlying22 (fun m _ x h=>ZqJ h) h
theorem ZtS {n:Nat} {d:D} (h:has Tryz.prog n 24 d):∃x:Zd,fl d=x.c:=by
 cases n with
 | zero=>exact h.elim
 | succ n=>
  simp only [has,Tryz.underlying24] at h;obtain ⟨ds,rfl,hl,hf⟩:=h
  match ds,hl with
  | [x0],_=>
   obtain ⟨y0,e0⟩:=ZtT (hf 0 _ x0 rfl rfl);exact ⟨⟨y0⟩,by simp only [fl,flL,e0,Zd.UF];try rfl⟩
theorem ZrV {n:Nat} {d:D} (h:has Tryz.prog n 171 d):∃x:ZS,fl d=x.c:=by
 cases n with
 | zero=>exact h.elim
 | succ n=>
  simp only [has,Tryz.underlying171] at h;obtain ⟨ds,rfl,hl,hf⟩:=h
  match ds,hl with
  | [x0,x1],_=>
   obtain ⟨y0,e0⟩:=ZeP Tryz.underlying9 (hf 0 _ x0 rfl rfl);obtain ⟨y1,e1⟩:=Qq Tryz.underlying3 (hf 1 _ x1 rfl rfl);exact ⟨⟨y0,y1⟩,by simp only [fl,flL,e0,e1,ZS.UF];try rfl⟩
theorem ZtR {n:Nat} {d:D} (h:has Tryz.prog n 37 d):∃x:List ZS,fl d=[.sl (x.map ZS.c)]:=
 W8 Tryz.underlying37 (fun m _ x h=>ZrV h) h
theorem ZtQ {n:Nat} {d:D} (h:has Tryz.prog n 39 d):∃x:Yo,fl d=x.c:=by
 cases n with
 | zero=>exact h.elim
 | succ n=>
  simp only [has,Tryz.underlying39] at h;obtain ⟨ds,rfl,hl,hf⟩:=h
  match ds,hl with
  | [x0,x1,x2],_=>
   obtain ⟨y0,e0⟩:=Qq Tryz.underlying3 (hf 0 _ x0 rfl rfl);obtain ⟨y1,e1⟩:=Qq Tryz.underlying3 (hf 1 _ x1 rfl rfl);obtain ⟨y2,e2⟩:=ZtR (hf 2 _ x2 rfl rfl);exact ⟨⟨y0,y1,y2⟩,by simp only [fl,flL,e0,e1,e2,Yo.UF];try rfl⟩
theorem ZtL {n:Nat} {d:D} (h:has Tryz.prog n 69 d):∃x:List ByteArray,fl d=[.sl (x.map sC)]:=
 W8 Tryz.underlying69 (fun m _ x h=>ZeP Tryz.underlying9 h) h
theorem ZqK {n:Nat} {d:D} (h:has Tryz.prog n 26 d):∃x:List Int,fl d=[.sl (x.map iC)]:=
 W8 Tryz.underlying26 (fun m _ x h=>Qq Tryz.underlying3 h) h
theorem ZrR {n:Nat} {d:D} (h:has Tryz.prog n 301 d):∃x:Zo,fl d=x.c:=by
 cases n with
 | zero=>exact h.elim
 | succ n=>
  simp only [has,Tryz.underlying301] at h;obtain ⟨ds,rfl,hl,hf⟩:=h
  match ds,hl with
  | [x0,x1],_=>
   obtain ⟨y0,e0⟩:=Qq Tryz.underlying3 (hf 0 _ x0 rfl rfl);obtain ⟨y1,e1⟩:=Qq Tryz.underlying3 (hf 1 _ x1 rfl rfl);exact ⟨⟨y0,y1⟩,by simp only [fl,flL,e0,e1,Zo.UF];try rfl⟩
theorem ZrT {n:Nat} {d:D} (h:has Tryz.prog n 264 d):∃x:List Zo,fl d=[.sl (x.map Zo.c)]:=
 W8 Tryz.underlying264 (fun m _ x h=>ZrR h) h
theorem ZrS {n:Nat} {d:D} (h:has Tryz.prog n 266 d):∃x:ZN,fl d=x.c:=by
 cases n with
 | zero=>exact h.elim
 | succ n=>
  simp only [has,Tryz.underlying266] at h;obtain ⟨ds,rfl,hl,hf⟩:=h
  match ds,hl with
  | [x0,x1],_=>
   obtain ⟨y0,e0⟩:=ZqK (hf 0 _ x0 rfl rfl);obtain ⟨y1,e1⟩:=ZrT (hf 1 _ x1 rfl rfl);exact ⟨⟨y0,y1⟩,by simp only [fl,flL,e0,e1,ZN.UF];try rfl⟩
theorem ZrX {n:Nat} {d:D} (h:has Tryz.prog n 131 d):∃x:List ZN,fl d=[.sl (x.map ZN.c)]:=
 W8 Tryz.underlying131 (fun m _ x h=>ZrS h) h
theorem ZpY:∀(n:Nat) (d:D),has Tryz.prog n 133 d->∃x:Za,fl d=x.c:=by
 intro n
 induction n using Nat.strongRecOn with
 | _ n ih=>
 intro d h;cases n with
 | zero=>exact h.elim
 | succ n=>
  simp only [has,Tryz.underlying133] at h;obtain ⟨ds,rfl,hl,hf⟩:=h
  match ds,hl with
  | [x0,x1,x2,x3,x4,x5,x6],_=>
   obtain ⟨y0,e0⟩:=Qq Tryz.underlying3 (hf 0 _ x0 rfl rfl);obtain ⟨y1,e1⟩:=Qq Tryz.underlying3 (hf 1 _ x1 rfl rfl);obtain ⟨y2,e2⟩:=Qq Tryz.underlying3 (hf 2 _ x2 rfl rfl);obtain ⟨y3,e3⟩:=ZeP Tryz.underlying9 (hf 3 _ x3 rfl rfl);obtain ⟨y4,e4⟩:=W8 (c:=Za.c) Tryz.underlying130 (fun m hm x h=>ih m (by omega) x h) (hf 4 _ x4 rfl rfl);obtain ⟨y5,e5⟩:=ZtL (hf 5 _ x5 rfl rfl);obtain ⟨y6,e6⟩:=ZrX (hf 6 _ x6 rfl rfl);exact ⟨⟨y0,y1,y2,y3,y4,y5,y6⟩,by simp only [fl,flL,e0,e1,e2,e3,e4,e5,e6,Za.UF];try rfl⟩
theorem ZoG {n:Nat} {d:D} (h:has Tryz.prog n 133 d):∃x:Za,fl d=x.c:=ZpY n d h
theorem ZrU {n:Nat} {d:D} (h:has Tryz.prog n 221 d):∃x:ZR,fl d=x.c:=by
 cases n with
 | zero=>exact h.elim
 | succ n=>
  simp only [has,Tryz.underlying221] at h;obtain ⟨ds,rfl,hl,hf⟩:=h
  match ds,hl with
  | [x0,x1,x2,x3,x4],_=>
   obtain ⟨y0,e0⟩:=Qq Tryz.underlying3 (hf 0 _ x0 rfl rfl);obtain ⟨y1,e1⟩:=Qq Tryz.underlying3 (hf 1 _ x1 rfl rfl);obtain ⟨y2,e2⟩:=Qq Tryz.underlying3 (hf 2 _ x2 rfl rfl);obtain ⟨y3,e3⟩:=ZeP Tryz.underlying9 (hf 3 _ x3 rfl rfl);obtain ⟨y4,e4⟩:=ZoG (hf 4 _ x4 rfl rfl);exact ⟨⟨y0,y1,y2,y3,y4⟩,by simp only [fl,flL,e0,e1,e2,e3,e4,ZR.UF,Za.UF];try rfl⟩
theorem ZrZ {n:Nat} {d:D} (h:has Tryz.prog n 126 d):∃x:List ZR,fl d=[.sl (x.map ZR.c)]:=
 W8 Tryz.underlying126 (fun m _ x h=>ZrU h) h
theorem ZrY {n:Nat} {d:D} (h:has Tryz.prog n 128 d):∃x:ZQ,fl d=x.c:=by
 cases n with
 | zero=>exact h.elim
 | succ n=>
  simp only [has,Tryz.underlying128] at h;obtain ⟨ds,rfl,hl,hf⟩:=h
  match ds,hl with
  | [x0,x1,x2],_=>
   obtain ⟨y0,e0⟩:=Qq Tryz.underlying3 (hf 0 _ x0 rfl rfl);obtain ⟨y1,e1⟩:=Qq Tryz.underlying3 (hf 1 _ x1 rfl rfl);obtain ⟨y2,e2⟩:=ZrZ (hf 2 _ x2 rfl rfl);exact ⟨⟨y0,y1,y2⟩,by simp only [fl,flL,e0,e1,e2,ZQ.UF];try rfl⟩
theorem ZtP {n:Nat} {d:D} (h:has Tryz.prog n 40 d):∃x:List ZQ,fl d=[.sl (x.map ZQ.c)]:=
 W8 Tryz.underlying40 (fun m _ x h=>ZrY h) h
theorem ZrW {n:Nat} {d:D} (h:has Tryz.prog n 135 d):∃x:Zw,fl d=x.c:=by
 cases n with
 | zero=>exact h.elim
 | succ n=>
  simp only [has,Tryz.underlying135] at h;obtain ⟨ds,rfl,hl,hf⟩:=h
  match ds,hl with
  | [x0,x1,x2,x3,x4,x5],_=>
   obtain ⟨y0,e0⟩:=Qq Tryz.underlying3 (hf 0 _ x0 rfl rfl);obtain ⟨y1,e1⟩:=Qq Tryz.underlying3 (hf 1 _ x1 rfl rfl);obtain ⟨y2,e2⟩:=Qq Tryz.underlying3 (hf 2 _ x2 rfl rfl);obtain ⟨y3,e3⟩:=ZqK (hf 3 _ x3 rfl rfl);obtain ⟨y4,e4⟩:=ZoG (hf 4 _ x4 rfl rfl);obtain ⟨y5,e5⟩:=ZpX Tryz.underlying4 (hf 5 _ x5 rfl rfl);exact ⟨⟨y0,y1,y2,y3,y4,y5⟩,by simp only [fl,flL,e0,e1,e2,e3,e4,e5,Zw.UF,Za.UF];try rfl⟩
theorem ZtO {n:Nat} {d:D} (h:has Tryz.prog n 41 d):∃x:List Zw,fl d=[.sl (x.map Zw.c)]:=
 W8 Tryz.underlying41 (fun m _ x h=>ZrW h) h
theorem ZtN {n:Nat} {d:D} (h:has Tryz.prog n 43 d):∃x:Zz,fl d=x.c:=by
 cases n with
 | zero=>exact h.elim
 | succ n=>
  simp only [has,Tryz.underlying43] at h;obtain ⟨ds,rfl,hl,hf⟩:=h
  match ds,hl with
  | [x0,x1,x2,x3,x4,x5,x6],_=>
   obtain ⟨y0,e0⟩:=ZtS (hf 0 _ x0 rfl rfl);obtain ⟨y1,e1⟩:=ZtQ (hf 1 _ x1 rfl rfl);obtain ⟨y2,e2⟩:=ZtP (hf 2 _ x2 rfl rfl);obtain ⟨y3,e3⟩:=ZtO (hf 3 _ x3 rfl rfl);obtain ⟨y4,e4⟩:=Qq Tryz.underlying3 (hf 4 _ x4 rfl rfl);obtain ⟨y5,e5⟩:=Qq Tryz.underlying3 (hf 5 _ x5 rfl rfl);obtain ⟨y6,e6⟩:=Qq Tryz.underlying3 (hf 6 _ x6 rfl rfl);exact ⟨⟨y0,y1,y2,y3,y4,y5,y6⟩,by simp only [fl,flL,e0,e1,e2,e3,e4,e5,e6,Zz.UF,Zd.UF,Yo.UF];try rfl⟩
theorem ZtM {n:Nat} {d:D} (h:has Tryz.prog n 47 d):∃x:YA,fl d=x.c:=by
 cases n with
 | zero=>exact h.elim
 | succ n=>
  simp only [has,Tryz.underlying47] at h;obtain ⟨ds,rfl,hl,hf⟩:=h
  match ds,hl with
  | [x0,x1,x2],_=>
   obtain ⟨y0,e0⟩:=Qq Tryz.underlying3 (hf 0 _ x0 rfl rfl);obtain ⟨y1,e1⟩:=Qq Tryz.underlying3 (hf 1 _ x1 rfl rfl);obtain ⟨y2,e2⟩:=ZqJ (hf 2 _ x2 rfl rfl);exact ⟨⟨y0,y1,y2⟩,by simp only [fl,flL,e0,e1,e2,YA.UF,Zk.UF];try rfl⟩
theorem Zp6 (os:Os) (args:Array Value):laidMetH Tryz.prog Rows.fnExactWorkBoundRow.laid ((World.laidAll Tryz.prog os Rows.fnExactWorkBoundRow.laid).forCall (fun _ _=>0) ⟨#[],args,[]⟩).memory:=by
 rw [MakeChecks.laidMetH_plain _ _ _ (by kernel_rfl)];exact laidMet_laidAll _ (by kernel_rfl) (by kernel_rfl)
theorem ZtV {W:World} (hsh:W.ShapedOpen Tryz.prog) (h:laidMetH Tryz.prog Rows.fnExactWorkBoundRow.laid W):∃G,Glb W G:=by
 rw [MakeChecks.laidMetH_plain _ _ _ (by kernel_rfl)] at h;obtain ⟨ps,⟨g0,t0,cs0,f0,p0,q0,hg0,ht0,hv0,hd0,⟨g1,t1,cs1,f1,p1,q1,hg1,ht1,hv1,hd1,⟨g2,t2,cs2,f2,p2,q2,hg2,ht2,hv2,hd2,⟨g3,t3,cs3,f3,p3,q3,hg3,ht3,hv3,hd3,⟨g4,t4,cs4,f4,p4,q4,hg4,ht4,hv4,hd4,⟨g5,t5,cs5,f5,p5,q5,hg5,ht5,hv5,hd5,⟨g6,t6,cs6,f6,p6,q6,hg6,ht6,hv6,hd6,_,_⟩,_⟩,_⟩,_⟩,_⟩,_⟩,_⟩,_,_⟩:=h;have eg0:Tryz.prog.globalNamed "internal/strconv.uint64pow10"=some 5:=by kernel_rfl
 obtain rfl:=Zym (eg0.symm.trans hg2);have et0:(Tryz.prog.globals[5]?).map (·.type)=some 344:=by kernel_rfl
 obtain rfl:=Zym (et0.symm.trans ht2);have st0:Zpb W (5,Zu8):=ZmH Tryz.underlying344 Tryz.underlying262 (by kernel_rfl) (by kernel_rfl) eg0 hv2 hd2;have egs0:Tryz.prog.globalNamed "strconv.ErrRange"=some 4:=by kernel_rfl
 obtain rfl:=Zym (egs0.symm.trans hg4);have ets0:(Tryz.prog.globals[4]?).map (·.type)=some 280:=by kernel_rfl
 obtain rfl:=Zym (ets0.symm.trans ht4)
 have sv4:∃v,W.cell? ⟨4,0,none⟩=some v/\isF v:=by
  obtain ⟨_,u,v,ecs,_,_⟩:=iface_of_trod Tryz.underlying280 hd4;obtain ⟨ty,fz,hh⟩:=Zid egs0 hv4;have e:cs4= #[.iface u v]:=by rw [<-ecs]
  rw [e] at hh;exact ⟨.iface u v,by simp [World.cell?,hh],u,v,rfl⟩
 have egs1:Tryz.prog.globalNamed "strconv.ErrSyntax"=some 3:=by kernel_rfl
 obtain rfl:=Zym (egs1.symm.trans hg5);have ets1:(Tryz.prog.globals[3]?).map (·.type)=some 280:=by kernel_rfl
 obtain rfl:=Zym (ets1.symm.trans ht5)
 have sv3:∃v,W.cell? ⟨3,0,none⟩=some v/\isF v:=by
  obtain ⟨_,u,v,ecs,_,_⟩:=iface_of_trod Tryz.underlying280 hd5;obtain ⟨ty,fz,hh⟩:=Zid egs1 hv5;have e:cs5= #[.iface u v]:=by rw [<-ecs]
  rw [e] at hh;exact ⟨.iface u v,by simp [World.cell?,hh],u,v,rfl⟩
 have sv0:∃v,W.cell? ⟨0,0,none⟩=some v/\isI v:=by
  obtain ⟨m,hm⟩:=cell_of_shapedOpen_int (g:=0) (t:=3) (zero:= #[.int .i64 0]) (k:=.i64) hsh (of_decide_eq_true (by kernel_rfl)) (by kernel_rfl) rfl (by kernel_rfl) (by kernel_rfl) Tryz.underlying3;exact ⟨_,hm,m,rfl⟩
 refine Zr1 (fun p hp=> ?_) fun p hp=> ?_
 ·rw [show glb=[(5,Zu8)] from rfl] at hp;simp only [List.mem_cons,List.not_mem_nil,or_false] at hp;rcases hp with rfl
  ·exact st0
 ·simp only [Zr2,List.mem_cons,List.not_mem_nil,or_false] at hp;rcases hp with rfl| rfl| rfl
  ·exact sv4
  ·exact sv3
  ·exact sv0
set_option maxRecDepth 100000 in
theorem walked {H:Type} {enc:TypeId×Value->H} (W:World) (base:Nat) (args:Array Value) (ds gs:List (DataW H)) (before:List MemPlace)
  (hval0:∀(j:Nat) t v,Tryz.f4.params[j]? =some t->args[j]? =some v->Value.okWide Tryz.prog W .any base t v)
  (hW:DataW.Whole enc Tryz.prog Tryz.f4.params.toList Rows.fnExactWorkBoundSpec.vars false W args.toList ds gs before) (hsh:W.ShapedOpen Tryz.prog) (hL:laidMetH Tryz.prog Rows.fnExactWorkBoundRow.laid W):
  Calls Tryz.prog 4 args W fun e W'=>∃v,e= .returned v/\Rows.fnExactWorkBoundSpec.post enc Tryz.prog Tryz.f4 false true false false W args v W':=by
 have hglb:=ZtV hsh hL;have hW':=hW;obtain ⟨p,q,hA0,hV,rfl,hfz,hnd⟩:=hW;have hA:DataW.TrodAll enc Tryz.prog W 0 (fun _=>true) true Tryz.f4.params.toList args.toList ds p:=hA0;have hval:∀(j:Nat) t v,Tryz.f4.params[j]? =some t->args[j]? =some v->Value.okWide Tryz.prog W .any base t v:=hval0;rw [Tryz.params4] at hA hval;obtain ⟨v0,vs0,d0,ds0,p0,q0,hargs,rfl,rfl,h0,r0⟩:=trodAll_cons hA;obtain ⟨v1,vs1,d1,ds1,p1,q1,rfl,rfl,rfl,h1,r1⟩:=trodAll_cons r0;obtain ⟨rfl,rfl,rfl⟩:=trodAll_nil r1;obtain rfl:args= #[v0,v1]:=by cases args;simp_all
 obtain ⟨rfl,rfl⟩:=trodVars_none hV;have lt0:∀x∈p0,x.block<W.heap.size:=by obtain ⟨m,hm⟩:=h0;exact DataW.trod_lt m _ _ _ hm
 have lt1:∀x∈p1,x.block<W.heap.size:=by obtain ⟨m,hm⟩:=h1;exact DataW.trod_lt m _ _ _ hm
 obtain ⟨⟨cl0⟩,rfl,_⟩:=okWide_struct Tryz.underlying43 (hval 0 _ v0 rfl rfl)
 obtain ⟨x0,F0,w0⟩:∃(x:Zz) (F:List Nat),RpL W x.c cl0 F:=by
  obtain ⟨fuel,hf⟩:=h0;obtain ⟨d,F,k1,k2⟩:=Zch _ Zlu fuel _ _ _ (by simp) hf;obtain ⟨x,e⟩:=ZtN k2;exact ⟨x,F,by rw [<-e];exact Zhy.1 k1⟩
 obtain ⟨⟨cl1⟩,rfl,_⟩:=okWide_struct Tryz.underlying47 (hval 1 _ v1 rfl rfl)
 obtain ⟨x1,F1,w1⟩:∃(x:YA) (F:List Nat),RpL W x.c cl1 F:=by
  obtain ⟨fuel,hf⟩:=h1;obtain ⟨d,F,k1,k2⟩:=Zch _ Zlu fuel _ _ _ (by simp) hf;obtain ⟨x,e⟩:=ZtM k2;exact ⟨x,F,by rw [<-e];exact Zhy.1 k1⟩
 clear hA0 hval0;obtain ⟨k,hk⟩:=Zcv x0 (RpL.dok w0) x1 (RpL.dok w1);refine (ZpR (ZaV k x0 x1 true hk) hglb (Zme (Zfw w0) (Zme (Zfw w1) Zsa))).mono fun e W' ⟨he,bel⟩=> ?_;subst he;exact ⟨_,rfl,_,_,_,[],_,[],hW',trodAll_mk1 (shut_bool Tryz.underlying4 _),(trodAll_cons_mk (Below.trod laidOut (by kernel_rfl) (of_decide_eq_true (by kernel_rfl)) h0 bel lt0) (trodAll_cons_mk (Below.trod laidOut (by kernel_rfl) (of_decide_eq_true (by kernel_rfl)) h1 bel lt1) trodAll_mk0)),rfl,bel.frame _,fun h=>by cases h⟩
set_option maxRecDepth 100000 in
theorem lifted (os:Os) (started:os.Started) (H:Type) (enc:TypeId×Value->H):
  ReturnsInHanded {} Tryz.checked os 4 .any (fun w args=>(Rows.fnExactWorkBoundSpec.pre enc Tryz.prog Tryz.f4 Rows.fnExactWorkBoundRow.domain false w args/\laidMetH Tryz.prog Rows.fnExactWorkBoundRow.laid w)/\sizedMet enc Tryz.prog Tryz.f4 (OpenSpec.ofChange Rows.fnExactWorkBoundSpec) false w args) (Rows.fnExactWorkBoundSpec.post enc Tryz.prog Tryz.f4 false true false false):=by
 refine returnsInHanded_of_calls (C:=Tryz.checked) own started (by kernel_rfl)
  (ChangeSpec.witness_shaped (enc:=enc) (C:=Tryz.checked) (os:=os) (X:=fun w _=>laidMetH Tryz.prog Rows.fnExactWorkBoundRow.laid w) false (World.laidAll Tryz.prog os Rows.fnExactWorkBoundRow.laid) #[.agg #[.slice none 0 0,.int .i64 0,.int .i64 0,.slice none 0 0,.slice none 0 0,.slice none 0 0,.int .i64 0,.int .i64 0,.int .i64 0],.agg #[.int .i64 0,.int .i64 0,.int .i64 0,.int .i64 0,.int .i64 0,.string ⟨#[]⟩,.string ⟨#[]⟩,.int .i64 0]] 8 (World.laidAll_os _ _ _) (World.shaped_of_ZipB (by kernel_rfl) (by kernel_rfl)) (by kernel_rfl) (by kernel_rfl) (by kernel_rfl) (Zp6 os _)) ?_
 intro w tape i _ hsh _ hok hpre _;obtain ⟨_,_,_,fn',hfn',_,_,_,_,hval⟩:=hok;obtain rfl:fn'=Tryz.f4:=Zym (hfn'.symm.trans Tryz.func4);obtain ⟨⟨⟨ds,gs,before,hw,hc⟩,hx⟩,hz⟩:=hpre;refine (walked (w.forCall tape i) w.heap.size i.args ds gs before hval (DataW.Whole.of_heap (w':=w.forCall tape i) (by rfl) hw) hsh (hx.of_heap (by rfl))).mono fun e W' ⟨v,he,hp⟩=> ?_;subst he;exact ChangeSpec.post_blind hp
theorem closed:joinedFacts Tryz.prog 4 Tryz.f4 Rows.fnExactWorkBoundSpec Rows.fnExactWorkBoundRow=true:=by
 unfold joinedFacts;rw [Zuj,Zuf,ZoQ,Zkc,Znb,Zso,Zuk,Zsq,Zst,Zui,Zug]
 kernel_rfl
theorem goes:false=Rows.fnExactWorkBoundRow.goesBy Tryz.prog:=by
 unfold OpenClaim.goesBy Program.goesAt Program.goesFrom;rw [show Rows.fnExactWorkBoundRow.func="loop.example/g00510/laws.FnExactWorkBound" from rfl,show Rows.fnExactWorkBoundRow.start= .entering from rfl,Zww];simp only [Option.any_some,Program.goes,Zss,Zsr,Bool.and_false,Bool.or_false]
theorem wfT:Rows.fnExactWorkBoundRow.wfByText (OpenSpec.ofChange Rows.fnExactWorkBoundSpec)=true:=by kernel_rfl
theorem holds:Rows.FnExactWorkBoundSaid:=
 OpenClaim.holds_of_wide 4 Tryz.f4 rfl rfl rfl rfl rfl rfl rfl ⟨rfl,rfl,rfl,rfl,rfl⟩ rfl rfl rfl rfl rfl Zww Tryz.func4 closed
  (of_decide_eq_true (by kernel_rfl)) (by unfold Func.isWrapper;first | (rw [if_pos (by decide+kernel)];kernel_rfl)| (rw [if_neg (by decide+kernel)];exact ⟨rfl,rfl⟩))
  (fun os started H enc _=>lifted os started H enc)
theorem proved:Rows.FnExactWorkBoundCardSaid:=
 Claim7.holds_tied_plain_at .later [] [.data,.data,.data,.data,.sentinel,.sentinel,.pinned] true (true,"3b5b35188fb62e33bb25891fcf1f7dfb2ee7e326be01b17b8d4cd9f614d35da8") true
  holds (fun _ h=>by cases h) wfT (fun _ h=>by cases h) fnExactWorkBound_row_tie rfl ⟨rfl,rfl⟩ Zuh rfl
  (fun f fn hf hfn=>by
   obtain rfl:f=4:=Zym (Zww.symm.trans hf) |>.symm
   obtain rfl:fn=Tryz.f4:=(Zym (Tryz.func4.symm.trans hfn)).symm
   exact ⟨Zsp,fun j t ht=>by
    rw [Tryz.params4] at ht;have hm:t∈[43,47]:=by simpa using Array.mem_of_getElem? ht
    have hall:([43,47].all fun u=>!Tryz.prog.wantsStandIn u)=true:=Zsn;exact (show Tryz.prog.wantsStandIn t=false by simpa using List.all_eq_true.1 hall t hm)⟩)
  goes
end Go.Proofs.YtbkllghhcphkaaaGreatDoor.fnExactWorkBound
