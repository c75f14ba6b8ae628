import Derived.Test.YtpblakfidofgfaaGreatDoorFsA
import Derived.Test.YtpblakfidofgfaaGreatDoorFsB
import Derived.Test.YtpblakfidofgfaaGreatDoorFsC
import Derived.Test.YtpblakfidofgfaaGreatDoorFsD
import Derived.Test.YtpblakfidofgfaaGreatDoorFsE
import Derived.Test.YtpblakfidofgfaaGreatDoorFsF
import Derived.Test.YtpblakfidofgfaaGreatDoorIsSettledFa
import Derived.Test.YtpblakfidofgfaaGreatDoorIsSettledFb
import Derived.Test.YtpblakfidofgfaaGreatDoorZIsSettledM
import Derived.Test.YtpblakfidofgfaaGreatDoorCards
import Derived.Test.YtpblakfidofgfaaGreatDoorTie
import Derived.LaidMore
import Derived.Stop.Joined
import Derived.SevenTiedAt
import Derived.ChangeSame
import Derived.ChangeVars
import Derived.OpenVars
import Derived.JoinedOf
import Derived.LaidLaws
import Derived.Lay
import Derived.LaidOnce
import Derived.Shelf.Vars
set_option linter.unusedSimpArgs false
set_option linter.unusedVariables false
namespace Go.Proofs.YtpblakfidofgfaaGreatDoor.fnExactIsSettled
open Go.ChangeShapes Go.WideShapes Go.ChangeAt Go.RowKit Go.Deep Am
theorem own:ownKnob Tryz.prog.godebug=none:=by kernel_rfl
theorem laidOut:laidOutB Tryz.prog=true:=s_laid
theorem Zap:[31,24,22,160,3,9,27,25,163,28,108,106,194,113,110,96,111,224,50,222,281,29,115,4].all (Zuv Tryz.prog [31,24,22,160,3,9,27,25,163,28,108,106,194,113,110,96,111,224,50,222,281,29,115,4])=true:=by kernel_rfl
theorem ZdS {n:Nat} {d:D} (h:has Tryz.prog n 160 d):∃x:Zs,fl d=x.c:=by
 cases n with
 | zero=>exact h.elim
 | succ n=>
  simp only [has,Tryz.underlying160] at h;obtain ⟨ds,rfl,hl,hf⟩:=h
  match ds,hl with
  | [x0,x1,x2,x3,x4,x5],_=>
   obtain ⟨y0,e0⟩:=Zk Tryz.underlying3 (hf 0 _ x0 rfl rfl);obtain ⟨y1,e1⟩:=Zk Tryz.underlying3 (hf 1 _ x1 rfl rfl);obtain ⟨y2,e2⟩:=Zk Tryz.underlying3 (hf 2 _ x2 rfl rfl);obtain ⟨y3,e3⟩:=Y2 Tryz.underlying9 (hf 3 _ x3 rfl rfl);obtain ⟨y4,e4⟩:=Y2 Tryz.underlying9 (hf 4 _ x4 rfl rfl);obtain ⟨y5,e5⟩:=Zk Tryz.underlying3 (hf 5 _ x5 rfl rfl);exact ⟨⟨y0,y1,y2,y3,y4,y5⟩,by simp only [fl,flL,e0,e1,e2,e3,e4,e5,Zs.Qr];try rfl⟩
theorem Zie {n:Nat} {d:D} (h:has Tryz.prog n 22 d):∃x:List Zs,fl d=[.sl (x.map Zs.c)]:=
 Zr Tryz.underlying22 (fun m _ x h=>ZdS h) h
theorem Zid {n:Nat} {d:D} (h:has Tryz.prog n 24 d):∃x:Zh,fl d=x.c:=by
 cases n with
 | zero=>exact h.elim
 | succ n=>
  simp only [has,Tryz.underlying24] at h;obtain ⟨ds,rfl,hl,hf⟩:=h
  match ds,hl with
  | [x0],_=>
   obtain ⟨y0,e0⟩:=Zie (hf 0 _ x0 rfl rfl);exact ⟨⟨y0⟩,by simp only [fl,flL,e0,Zh.Qr];try rfl⟩
theorem ZdR {n:Nat} {d:D} (h:has Tryz.prog n 163 d):∃x:ZD,fl d=x.c:=by
 cases n with
 | zero=>exact h.elim
 | succ n=>
  simp only [has,Tryz.underlying163] at h;obtain ⟨ds,rfl,hl,hf⟩:=h
  match ds,hl with
  | [x0,x1],_=>
   obtain ⟨y0,e0⟩:=Y2 Tryz.underlying9 (hf 0 _ x0 rfl rfl);obtain ⟨y1,e1⟩:=Zk Tryz.underlying3 (hf 1 _ x1 rfl rfl);exact ⟨⟨y0,y1⟩,by simp only [fl,flL,e0,e1,ZD.Qr];try rfl⟩
theorem Zic {n:Nat} {d:D} (h:has Tryz.prog n 25 d):∃x:List ZD,fl d=[.sl (x.map ZD.c)]:=
 Zr Tryz.underlying25 (fun m _ x h=>ZdR h) h
theorem Zib {n:Nat} {d:D} (h:has Tryz.prog n 27 d):∃x:Z3,fl d=x.c:=by
 cases n with
 | zero=>exact h.elim
 | succ n=>
  simp only [has,Tryz.underlying27] at h;obtain ⟨ds,rfl,hl,hf⟩:=h
  match ds,hl with
  | [x0,x1,x2],_=>
   obtain ⟨y0,e0⟩:=Zk Tryz.underlying3 (hf 0 _ x0 rfl rfl);obtain ⟨y1,e1⟩:=Zk Tryz.underlying3 (hf 1 _ x1 rfl rfl);obtain ⟨y2,e2⟩:=Zic (hf 2 _ x2 rfl rfl);exact ⟨⟨y0,y1,y2⟩,by simp only [fl,flL,e0,e1,e2,Z3.Qr];try rfl⟩
theorem Zh7 {n:Nat} {d:D} (h:has Tryz.prog n 96 d):∃x:List ByteArray,fl d=[.sl (x.map sC)]:=
 Zr Tryz.underlying96 (fun m _ x h=>Y2 Tryz.underlying9 h) h
theorem Zcj {n:Nat} {d:D} (h:has Tryz.prog n 50 d):∃x:List Int,fl d=[.sl (x.map iC)]:=
 Zr Tryz.underlying50 (fun m _ x h=>Zk Tryz.underlying3 h) h
theorem ZdN {n:Nat} {d:D} (h:has Tryz.prog n 281 d):∃x:Zl,fl d=x.c:=by
 cases n with
 | zero=>exact h.elim
 | succ n=>
  simp only [has,Tryz.underlying281] at h;obtain ⟨ds,rfl,hl,hf⟩:=h
  match ds,hl with
  | [x0,x1],_=>
   obtain ⟨y0,e0⟩:=Zk Tryz.underlying3 (hf 0 _ x0 rfl rfl);obtain ⟨y1,e1⟩:=Zk Tryz.underlying3 (hf 1 _ x1 rfl rfl);exact ⟨⟨y0,y1⟩,by simp only [fl,flL,e0,e1,Zl.Qr];try rfl⟩
theorem ZdP {n:Nat} {d:D} (h:has Tryz.prog n 222 d):∃x:List Zl,fl d=[.sl (x.map Zl.c)]:=
 Zr Tryz.underlying222 (fun m _ x h=>ZdN h) h
theorem ZdO {n:Nat} {d:D} (h:has Tryz.prog n 224 d):∃x:ZM,fl d=x.c:=by
 cases n with
 | zero=>exact h.elim
 | succ n=>
  simp only [has,Tryz.underlying224] at h;obtain ⟨ds,rfl,hl,hf⟩:=h
  match ds,hl with
  | [x0,x1],_=>
   obtain ⟨y0,e0⟩:=Zcj (hf 0 _ x0 rfl rfl);obtain ⟨y1,e1⟩:=ZdP (hf 1 _ x1 rfl rfl);exact ⟨⟨y0,y1⟩,by simp only [fl,flL,e0,e1,ZM.Qr];try rfl⟩
theorem ZdU {n:Nat} {d:D} (h:has Tryz.prog n 111 d):∃x:List ZM,fl d=[.sl (x.map ZM.c)]:=
 Zr Tryz.underlying111 (fun m _ x h=>ZdO h) h
theorem ZaG:∀(n:Nat) (d:D),has Tryz.prog n 113 d->∃x:Za,fl d=x.c:=by
 intro n
 induction n using Nat.strongRecOn with
 | _ n ih=>
 intro d h;cases n with
 | zero=>exact h.elim
 | succ n=>
  simp only [has,Tryz.underlying113] at h;obtain ⟨ds,rfl,hl,hf⟩:=h
  match ds,hl with
  | [x0,x1,x2,x3,x4,x5,x6],_=>
   obtain ⟨y0,e0⟩:=Zk Tryz.underlying3 (hf 0 _ x0 rfl rfl);obtain ⟨y1,e1⟩:=Zk Tryz.underlying3 (hf 1 _ x1 rfl rfl);obtain ⟨y2,e2⟩:=Zk Tryz.underlying3 (hf 2 _ x2 rfl rfl);obtain ⟨y3,e3⟩:=Y2 Tryz.underlying9 (hf 3 _ x3 rfl rfl);obtain ⟨y4,e4⟩:=Zr (c:=Za.c) Tryz.underlying110 (fun m hm x h=>ih m (by omega) x h) (hf 4 _ x4 rfl rfl);obtain ⟨y5,e5⟩:=Zh7 (hf 5 _ x5 rfl rfl);obtain ⟨y6,e6⟩:=ZdU (hf 6 _ x6 rfl rfl);exact ⟨⟨y0,y1,y2,y3,y4,y5,y6⟩,by simp only [fl,flL,e0,e1,e2,e3,e4,e5,e6,Za.Qr];try rfl⟩
theorem JC {n:Nat} {d:D} (h:has Tryz.prog n 113 d):∃x:Za,fl d=x.c:=ZaG n d h
theorem ZdQ {n:Nat} {d:D} (h:has Tryz.prog n 194 d):∃x:ZQ,fl d=x.c:=by
 cases n with
 | zero=>exact h.elim
 | succ n=>
  simp only [has,Tryz.underlying194] at h;obtain ⟨ds,rfl,hl,hf⟩:=h
  match ds,hl with
  | [x0,x1,x2,x3,x4],_=>
   obtain ⟨y0,e0⟩:=Zk Tryz.underlying3 (hf 0 _ x0 rfl rfl);obtain ⟨y1,e1⟩:=Zk Tryz.underlying3 (hf 1 _ x1 rfl rfl);obtain ⟨y2,e2⟩:=Zk Tryz.underlying3 (hf 2 _ x2 rfl rfl);obtain ⟨y3,e3⟩:=Y2 Tryz.underlying9 (hf 3 _ x3 rfl rfl);obtain ⟨y4,e4⟩:=JC (hf 4 _ x4 rfl rfl);exact ⟨⟨y0,y1,y2,y3,y4⟩,by simp only [fl,flL,e0,e1,e2,e3,e4,ZQ.Qr,Za.Qr];try rfl⟩
theorem ZdW {n:Nat} {d:D} (h:has Tryz.prog n 106 d):∃x:List ZQ,fl d=[.sl (x.map ZQ.c)]:=
 Zr Tryz.underlying106 (fun m _ x h=>ZdQ h) h
theorem ZdV {n:Nat} {d:D} (h:has Tryz.prog n 108 d):∃x:ZC,fl d=x.c:=by
 cases n with
 | zero=>exact h.elim
 | succ n=>
  simp only [has,Tryz.underlying108] at h;obtain ⟨ds,rfl,hl,hf⟩:=h
  match ds,hl with
  | [x0,x1,x2],_=>
   obtain ⟨y0,e0⟩:=Zk Tryz.underlying3 (hf 0 _ x0 rfl rfl);obtain ⟨y1,e1⟩:=Zk Tryz.underlying3 (hf 1 _ x1 rfl rfl);obtain ⟨y2,e2⟩:=ZdW (hf 2 _ x2 rfl rfl);exact ⟨⟨y0,y1,y2⟩,by simp only [fl,flL,e0,e1,e2,ZC.Qr];try rfl⟩
theorem Zia {n:Nat} {d:D} (h:has Tryz.prog n 28 d):∃x:List ZC,fl d=[.sl (x.map ZC.c)]:=
 Zr Tryz.underlying28 (fun m _ x h=>ZdV h) h
theorem ZdT {n:Nat} {d:D} (h:has Tryz.prog n 115 d):∃x:Zm,fl d=x.c:=by
 cases n with
 | zero=>exact h.elim
 | succ n=>
  simp only [has,Tryz.underlying115] at h;obtain ⟨ds,rfl,hl,hf⟩:=h
  match ds,hl with
  | [x0,x1,x2,x3,x4,x5],_=>
   obtain ⟨y0,e0⟩:=Zk Tryz.underlying3 (hf 0 _ x0 rfl rfl);obtain ⟨y1,e1⟩:=Zk Tryz.underlying3 (hf 1 _ x1 rfl rfl);obtain ⟨y2,e2⟩:=Zk Tryz.underlying3 (hf 2 _ x2 rfl rfl);obtain ⟨y3,e3⟩:=Zcj (hf 3 _ x3 rfl rfl);obtain ⟨y4,e4⟩:=JC (hf 4 _ x4 rfl rfl);obtain ⟨y5,e5⟩:=Zhg Tryz.underlying4 (hf 5 _ x5 rfl rfl);exact ⟨⟨y0,y1,y2,y3,y4,y5⟩,by simp only [fl,flL,e0,e1,e2,e3,e4,e5,Zm.Qr,Za.Qr];try rfl⟩
theorem Zh9 {n:Nat} {d:D} (h:has Tryz.prog n 29 d):∃x:List Zm,fl d=[.sl (x.map Zm.c)]:=
 Zr Tryz.underlying29 (fun m _ x h=>ZdT h) h
theorem Zh8 {n:Nat} {d:D} (h:has Tryz.prog n 31 d):∃x:Ze,fl d=x.c:=by
 cases n with
 | zero=>exact h.elim
 | succ n=>
  simp only [has,Tryz.underlying31] at h;obtain ⟨ds,rfl,hl,hf⟩:=h
  match ds,hl with
  | [x0,x1,x2,x3,x4,x5,x6],_=>
   obtain ⟨y0,e0⟩:=Zid (hf 0 _ x0 rfl rfl);obtain ⟨y1,e1⟩:=Zib (hf 1 _ x1 rfl rfl);obtain ⟨y2,e2⟩:=Zia (hf 2 _ x2 rfl rfl);obtain ⟨y3,e3⟩:=Zh9 (hf 3 _ x3 rfl rfl);obtain ⟨y4,e4⟩:=Zk Tryz.underlying3 (hf 4 _ x4 rfl rfl);obtain ⟨y5,e5⟩:=Zk Tryz.underlying3 (hf 5 _ x5 rfl rfl);obtain ⟨y6,e6⟩:=Zk Tryz.underlying3 (hf 6 _ x6 rfl rfl);exact ⟨⟨y0,y1,y2,y3,y4,y5,y6⟩,by simp only [fl,flL,e0,e1,e2,e3,e4,e5,e6,Ze.Qr,Zh.Qr,Z3.Qr];try rfl⟩
theorem ZaI (os:Os) (args:Array Value):laidMetH Tryz.prog Rows.fnExactIsSettledRow.laid ((World.laidAll Tryz.prog os Rows.fnExactIsSettledRow.laid).forCall (fun _ _=>0) ⟨#[],args,[]⟩).memory:=by
 rw [MakeChecks.laidMetH_plain _ _ _ (by kernel_rfl)];exact laidMet_laidAll _ (by kernel_rfl) (by kernel_rfl)
theorem Zif {W:World} (hsh:W.ShapedOpen Tryz.prog) (h:laidMetH Tryz.prog Rows.fnExactIsSettledRow.laid W):∃G,Glb W G:=by
 rw [MakeChecks.laidMetH_plain _ _ _ (by kernel_rfl)] at h;obtain ⟨ps,⟨g0,t0,cs0,f0,p0,q0,hg0,ht0,hv0,hd0,⟨g1,t1,cs1,f1,p1,q1,hg1,ht1,hv1,hd1,⟨g2,t2,cs2,f2,p2,q2,hg2,ht2,hv2,hd2,⟨g3,t3,cs3,f3,p3,q3,hg3,ht3,hv3,hd3,⟨g4,t4,cs4,f4,p4,q4,hg4,ht4,hv4,hd4,⟨g5,t5,cs5,f5,p5,q5,hg5,ht5,hv5,hd5,⟨g6,t6,cs6,f6,p6,q6,hg6,ht6,hv6,hd6,_,_⟩,_⟩,_⟩,_⟩,_⟩,_⟩,_⟩,_,_⟩:=h;have eg0:Tryz.prog.globalNamed "internal/strconv.uint64pow10"=some 5:=by kernel_rfl
 obtain rfl:=Zz9 (eg0.symm.trans hg2);have et0:(Tryz.prog.globals[5]?).map (·.type)=some 359:=by kernel_rfl
 obtain rfl:=Zz9 (et0.symm.trans ht2);have st0:ZjA W (5,Zrk):=ZcC Tryz.underlying359 Tryz.underlying308 (by kernel_rfl) (by kernel_rfl) eg0 hv2 hd2;have egs0:Tryz.prog.globalNamed "strconv.ErrRange"=some 4:=by kernel_rfl
 obtain rfl:=Zz9 (egs0.symm.trans hg4);have ets0:(Tryz.prog.globals[4]?).map (·.type)=some 287:=by kernel_rfl
 obtain rfl:=Zz9 (ets0.symm.trans ht4)
 have sv4:∃v,W.cell? ⟨4,0,none⟩=some v/\isF v:=by
  obtain ⟨_,u,v,ecs,_,_⟩:=iface_of_trod Tryz.underlying287 hd4;obtain ⟨ty,fz,hh⟩:=UM egs0 hv4;have e:cs4= #[.iface u v]:=by rw [<-ecs]
  rw [e] at hh;exact ⟨.iface u v,by simp [World.cell?,hh],u,v,rfl⟩
 have egs1:Tryz.prog.globalNamed "strconv.ErrSyntax"=some 3:=by kernel_rfl
 obtain rfl:=Zz9 (egs1.symm.trans hg5);have ets1:(Tryz.prog.globals[3]?).map (·.type)=some 287:=by kernel_rfl
 obtain rfl:=Zz9 (ets1.symm.trans ht5)
 have sv3:∃v,W.cell? ⟨3,0,none⟩=some v/\isF v:=by
  obtain ⟨_,u,v,ecs,_,_⟩:=iface_of_trod Tryz.underlying287 hd5;obtain ⟨ty,fz,hh⟩:=UM egs1 hv5;have e:cs5= #[.iface u v]:=by rw [<-ecs]
  rw [e] at hh;exact ⟨.iface u v,by simp [World.cell?,hh],u,v,rfl⟩
 have sv0:∃v,W.cell? ⟨0,0,none⟩=some v/\isI v:=by
  obtain ⟨m,hm⟩:=cell_of_shapedOpen_int (g:=0) (t:=3) (zero:= #[.int .i64 0]) (k:=.i64) hsh (of_decide_eq_true (by kernel_rfl)) (by kernel_rfl) rfl (by kernel_rfl) (by kernel_rfl) Tryz.underlying3;exact ⟨_,hm,m,rfl⟩
 refine Zkt (fun p hp=> ?_) fun p hp=> ?_
 ·rw [show glb=[(5,Zrk)] from rfl] at hp;simp only [List.mem_cons,List.not_mem_nil,or_false] at hp;rcases hp with rfl
  ·exact st0
 ·simp only [Zq9,List.mem_cons,List.not_mem_nil,or_false] at hp;rcases hp with rfl| rfl| rfl
  ·exact sv4
  ·exact sv3
  ·exact sv0
set_option maxRecDepth 100000 in
theorem walked {H:Type} {enc:TypeId×Value->H} (W:World) (base:Nat) (args:Array Value) (ds gs:List (DataW H)) (before:List MemPlace)
  (hval0:∀(j:Nat) t v,Tryz.f6.params[j]? =some t->args[j]? =some v->Value.okWide Tryz.prog W .any base t v)
  (hW:DataW.Whole enc Tryz.prog Tryz.f6.params.toList Rows.fnExactIsSettledSpec.vars false W args.toList ds gs before) (hsh:W.ShapedOpen Tryz.prog) (hL:laidMetH Tryz.prog Rows.fnExactIsSettledRow.laid W):
  Calls Tryz.prog 6 args W fun e W'=>∃v,e= .returned v/\Rows.fnExactIsSettledSpec.post enc Tryz.prog Tryz.f6 false true false false W args v W':=by
 have hglb:=Zif hsh hL;have hW':=hW;obtain ⟨p,q,hA0,hV,rfl,hfz,hnd⟩:=hW;have hA:DataW.TrodAll enc Tryz.prog W 0 (fun _=>true) true Tryz.f6.params.toList args.toList ds p:=hA0;have hval:∀(j:Nat) t v,Tryz.f6.params[j]? =some t->args[j]? =some v->Value.okWide Tryz.prog W .any base t v:=hval0;rw [Tryz.params6] at hA hval;obtain ⟨v0,vs0,d0,ds0,p0,q0,hargs,rfl,rfl,h0,r0⟩:=trodAll_cons hA;obtain ⟨rfl,rfl,rfl⟩:=trodAll_nil r0;obtain rfl:args= #[v0]:=by cases args;simp_all
 obtain ⟨rfl,rfl⟩:=trodVars_none hV;have lt0:∀x∈p0,x.block<W.heap.size:=by obtain ⟨m,hm⟩:=h0;exact DataW.trod_lt m _ _ _ hm
 obtain ⟨⟨cl0⟩,rfl,_⟩:=okWide_struct Tryz.underlying31 (hval 0 _ v0 rfl rfl)
 obtain ⟨x0,F0,w0⟩:∃(x:Ze) (F:List Nat),RpL W x.c cl0 F:=by
  obtain ⟨fuel,hf⟩:=h0;obtain ⟨d,F,k1,k2⟩:=U4 _ Zap fuel _ _ _ (by simp) hf;obtain ⟨x,e⟩:=Zh8 k2;exact ⟨x,F,by rw [<-e];exact ZgI.1 k1⟩
 clear hA0 hval0;obtain ⟨k,hk⟩:=Zc2 x0 (RpL.dok w0);refine (Zhc (Za6 k x0 true hk) hglb (ZcQ (J1 w0) ZkA)).mono fun e W' ⟨he,bel⟩=> ?_;subst he;exact ⟨_,rfl,_,_,_,[],_,[],hW',trodAll_mk1 (shut_bool Tryz.underlying4 _),(trodAll_cons_mk (Below.trod laidOut (by kernel_rfl) (of_decide_eq_true (by kernel_rfl)) h0 bel lt0) trodAll_mk0),rfl,bel.frame _,fun h=>by cases h⟩
set_option maxRecDepth 100000 in
theorem lifted (os:Os) (started:os.Started) (H:Type) (enc:TypeId×Value->H):
  ReturnsInHanded {} Tryz.checked os 6 .any (fun w args=>(Rows.fnExactIsSettledSpec.pre enc Tryz.prog Tryz.f6 Rows.fnExactIsSettledRow.domain false w args/\laidMetH Tryz.prog Rows.fnExactIsSettledRow.laid w)/\sizedMet enc Tryz.prog Tryz.f6 (OpenSpec.ofChange Rows.fnExactIsSettledSpec) false w args) (Rows.fnExactIsSettledSpec.post enc Tryz.prog Tryz.f6 false true false false):=by
 refine returnsInHanded_of_calls (C:=Tryz.checked) own started (by kernel_rfl)
  (ChangeSpec.witness_shaped (enc:=enc) (C:=Tryz.checked) (os:=os) (X:=fun w _=>laidMetH Tryz.prog Rows.fnExactIsSettledRow.laid w) false (World.laidAll Tryz.prog os Rows.fnExactIsSettledRow.laid) #[.agg #[.slice none 0 0,.int .i64 0,.int .i64 0,.slice none 0 0,.slice none 0 0,.slice none 0 0,.int .i64 0,.int .i64 0,.int .i64 0]] 8 (World.laidAll_os _ _ _) (World.shaped_of_ZipB (by kernel_rfl) (by kernel_rfl)) (by kernel_rfl) (by kernel_rfl) (by kernel_rfl) (ZaI os _)) ?_
 intro w tape i _ hsh _ hok hpre _;obtain ⟨_,_,_,fn',hfn',_,_,_,_,hval⟩:=hok;obtain rfl:fn'=Tryz.f6:=Zz9 (hfn'.symm.trans Tryz.func6);obtain ⟨⟨⟨ds,gs,before,hw,hc⟩,hx⟩,hz⟩:=hpre;refine (walked (w.forCall tape i) w.heap.size i.args ds gs before hval (DataW.Whole.of_heap (w':=w.forCall tape i) (by rfl) hw) hsh (hx.of_heap (by rfl))).mono fun e W' ⟨v,he,hp⟩=> ?_;subst he;exact ChangeSpec.post_blind hp
theorem ZhW:(Rows.fnExactIsSettledRow.plainKeys==Tryz.prog.plainKeys)=true:=s_keys
theorem ZhV:(Rows.fnExactIsSettledRow.lifted==Tryz.prog.liftsFinal)=true:=s_lift
theorem ZhU:(Tryz.prog.make==some Rows.fnExactIsSettledRow.make)=true:=s_make
theorem closed:joinedFacts Tryz.prog 6 Tryz.f6 Rows.fnExactIsSettledSpec Rows.fnExactIsSettledRow=true:=by
 unfold joinedFacts;rw [s_laid,s_maps,c_inPlace,c_unfollowed,c_recurses,c_named,ZhW,s_heard,s_enter,ZhV,ZhU]
 kernel_rfl
theorem goes:false=Rows.fnExactIsSettledRow.goesBy Tryz.prog:=by
 unfold OpenClaim.goesBy Program.goesAt Program.goesFrom;rw [show Rows.fnExactIsSettledRow.func="loop.example/g00510/laws.FnExactIsSettled" from rfl,show Rows.fnExactIsSettledRow.start= .entering from rfl,c_fn];simp only [Option.any_some,Program.goes,c_goes1,s_goes,Bool.and_false,Bool.or_false]
theorem wfT:Rows.fnExactIsSettledRow.wfByText (OpenSpec.ofChange Rows.fnExactIsSettledSpec)=true:=by kernel_rfl
theorem holds:Rows.FnExactIsSettledSaid:=
 OpenClaim.holds_of_wide 6 Tryz.f6 rfl rfl rfl rfl rfl rfl rfl ⟨rfl,rfl,rfl,rfl,rfl⟩ rfl rfl rfl rfl rfl c_fn Tryz.func6 closed
  (of_decide_eq_true (by kernel_rfl)) (by unfold Func.isWrapper;first | (rw [if_pos (by decide+kernel)];kernel_rfl)| (rw [if_neg (by decide+kernel)];exact ⟨rfl,rfl⟩))
  (fun os started H enc _=>lifted os started H enc)
theorem proved:Rows.FnExactIsSettledCardSaid:=
 Claim7.holds_tied_plain_at .later [] [.data,.data,.data,.data,.sentinel,.sentinel,.pinned] true (true,"84d369c707cab10ae6eb2a2dfcf53b8e3531cb9c4afbe6b27bf140d4f57e77a7") true
  holds (fun _ h=>by cases h) wfT (fun _ h=>by cases h) fnExactIsSettled_row_tie rfl ⟨rfl,rfl⟩ s_main rfl
  (fun f fn hf hfn=>by
   obtain rfl:f=6:=Zz9 (c_fn.symm.trans hf) |>.symm
   obtain rfl:fn=Tryz.f6:=(Zz9 (Tryz.func6.symm.trans hfn)).symm
   exact ⟨s_looks,fun j t ht=>by
    rw [Tryz.params6] at ht;have hm:t∈[31]:=by simpa using Array.mem_of_getElem? ht
    have hall:([31].all fun u=>!Tryz.prog.wantsStandIn u)=true:=by simp [s_stand31]
    exact (show Tryz.prog.wantsStandIn t=false by simpa using List.all_eq_true.1 hall t hm)⟩)
  goes
end Go.Proofs.YtpblakfidofgfaaGreatDoor.fnExactIsSettled
