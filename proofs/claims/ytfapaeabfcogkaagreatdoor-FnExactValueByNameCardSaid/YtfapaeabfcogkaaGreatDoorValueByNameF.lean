import Derived.Test.YtfapaeabfcogkaaGreatDoorPkC
import Derived.Test.YtfapaeabfcogkaaGreatDoorLaFnExactValueByName
import Derived.Test.YtfapaeabfcogkaaGreatDoorValueByNameM
import Derived.Test.YtfapaeabfcogkaaGreatDoorCards
import Derived.Test.YtfapaeabfcogkaaGreatDoorTie
import Derived.Test.YtfapaeabfcogkaaGreatDoorJ7
import Derived.ProofKit
import Derived.LaidMore
import Derived.OpenShut
import Derived.Stop.Joined
import Derived.SevenTiedAt
import Derived.Lib.LaidTab
import Derived.ChangeSame
import Derived.ChangeVars
import Derived.OpenVars
import Derived.JoinedOf
import Derived.LaidLaws
import Derived.Lay
import Derived.LaidOnce
import Derived.Shelf.Vars
set_option linter.unusedSimpArgs false
set_option linter.unusedVariables false
namespace Go.Proofs.YtfapaeabfcogkaaGreatDoor.fnExactValueByName
open Go.ChangeShapes Go.WideShapes Go.ChangeAt Go.RowKit Go.Deep Am
theorem own:ownKnob Tryz.prog.godebug=none:=by kernel_rfl
theorem laidOut:laidOutB Tryz.prog=true:=by kernel_rfl
theorem ZjN:[24,22,64,3,9,28,25,150,32,148,248,52,246,316,26,154,152,251].all (ZsW Tryz.prog [24,22,64,3,9,28,25,150,32,148,248,52,246,316,26,154,152,251])=true:=by kernel_rfl
theorem Zrj {n:Nat} {d:D} (h:has Tryz.prog n 64 d):∃x:Zj,fl d=x.c:=by
 cases n with
 | zero=>exact h.elim
 | succ n=>
  simp only [has,Tryz.underlying64] at h
  obtain ⟨ds,rfl,hl,hf⟩:=h
  match ds,hl with
  | [x0,x1,x2,x3,x4,x5],_=>
   obtain ⟨y0,e0⟩:=WL Tryz.underlying3 (hf 0 _ x0 rfl rfl)
   obtain ⟨y1,e1⟩:=WL Tryz.underlying3 (hf 1 _ x1 rfl rfl)
   obtain ⟨y2,e2⟩:=WL Tryz.underlying3 (hf 2 _ x2 rfl rfl)
   obtain ⟨y3,e3⟩:=Zfj Tryz.underlying9 (hf 3 _ x3 rfl rfl)
   obtain ⟨y4,e4⟩:=Zfj Tryz.underlying9 (hf 4 _ x4 rfl rfl)
   obtain ⟨y5,e5⟩:=WL Tryz.underlying3 (hf 5 _ x5 rfl rfl)
   exact ⟨⟨y0,y1,y2,y3,y4,y5⟩,by simp only [fl,flL,e0,e1,e2,e3,e4,e5,Zj.XW];try rfl⟩
theorem Zrq {n:Nat} {d:D} (h:has Tryz.prog n 22 d):∃x:List Zj,fl d=[.sl (x.map Zj.c)]:=
 Vo Tryz.underlying22 (fun m _ x h=>Zrj h) h
theorem Zrp {n:Nat} {d:D} (h:has Tryz.prog n 24 d):∃x:Ze,fl d=x.c:=by
 cases n with
 | zero=>exact h.elim
 | succ n=>
  simp only [has,Tryz.underlying24] at h
  obtain ⟨ds,rfl,hl,hf⟩:=h
  match ds,hl with
  | [x0],_=>
   obtain ⟨y0,e0⟩:=Zrq (hf 0 _ x0 rfl rfl)
   exact ⟨⟨y0⟩,by simp only [fl,flL,e0,Ze.XW];try rfl⟩
theorem Zrl {n:Nat} {d:D} (h:has Tryz.prog n 32 d):∃x:List ByteArray,fl d=[.sl (x.map sC)]:=
 Vo Tryz.underlying32 (fun m _ x h=>Zfj Tryz.underlying9 h) h
theorem Zrk {n:Nat} {d:D} (h:has Tryz.prog n 52 d):∃x:List Int,fl d=[.sl (x.map iC)]:=
 Vo Tryz.underlying52 (fun m _ x h=>WL Tryz.underlying3 h) h
theorem ZpM {n:Nat} {d:D} (h:has Tryz.prog n 316 d):∃x:Zc,fl d=x.c:=by
 cases n with
 | zero=>exact h.elim
 | succ n=>
  simp only [has,Tryz.underlying316] at h
  obtain ⟨ds,rfl,hl,hf⟩:=h
  match ds,hl with
  | [x0,x1],_=>
   obtain ⟨y0,e0⟩:=WL Tryz.underlying3 (hf 0 _ x0 rfl rfl)
   obtain ⟨y1,e1⟩:=WL Tryz.underlying3 (hf 1 _ x1 rfl rfl)
   exact ⟨⟨y0,y1⟩,by simp only [fl,flL,e0,e1,Zc.XW];try rfl⟩
theorem ZpP {n:Nat} {d:D} (h:has Tryz.prog n 246 d):∃x:List Zc,fl d=[.sl (x.map Zc.c)]:=
 Vo Tryz.underlying246 (fun m _ x h=>ZpM h) h
theorem ZpO {n:Nat} {d:D} (h:has Tryz.prog n 248 d):∃x:Zq,fl d=x.c:=by
 cases n with
 | zero=>exact h.elim
 | succ n=>
  simp only [has,Tryz.underlying248] at h
  obtain ⟨ds,rfl,hl,hf⟩:=h
  match ds,hl with
  | [x0,x1],_=>
   obtain ⟨y0,e0⟩:=Zrk (hf 0 _ x0 rfl rfl)
   obtain ⟨y1,e1⟩:=ZpP (hf 1 _ x1 rfl rfl)
   exact ⟨⟨y0,y1⟩,by simp only [fl,flL,e0,e1,Zq.XW];try rfl⟩
theorem ZpS {n:Nat} {d:D} (h:has Tryz.prog n 148 d):∃x:List Zq,fl d=[.sl (x.map Zq.c)]:=
 Vo Tryz.underlying148 (fun m _ x h=>ZpO h) h
theorem ZnY:∀(n:Nat) (d:D),has Tryz.prog n 150 d→∃x:Za,fl d=x.c:=by
 intro n
 induction n using Nat.strongRecOn with
 | _ n ih=>
 intro d h
 cases n with
 | zero=>exact h.elim
 | succ n=>
  simp only [has,Tryz.underlying150] at h
  obtain ⟨ds,rfl,hl,hf⟩:=h
  match ds,hl with
  | [x0,x1,x2,x3,x4,x5,x6],_=>
   obtain ⟨y0,e0⟩:=WL Tryz.underlying3 (hf 0 _ x0 rfl rfl)
   obtain ⟨y1,e1⟩:=WL Tryz.underlying3 (hf 1 _ x1 rfl rfl)
   obtain ⟨y2,e2⟩:=WL Tryz.underlying3 (hf 2 _ x2 rfl rfl)
   obtain ⟨y3,e3⟩:=Zfj Tryz.underlying9 (hf 3 _ x3 rfl rfl)
   obtain ⟨y4,e4⟩:=Vo (c:=Za.c) Tryz.underlying25 (fun m hm x h=>ih m (by omega) x h) (hf 4 _ x4 rfl rfl)
   obtain ⟨y5,e5⟩:=Zrl (hf 5 _ x5 rfl rfl)
   obtain ⟨y6,e6⟩:=ZpS (hf 6 _ x6 rfl rfl)
   exact ⟨⟨y0,y1,y2,y3,y4,y5,y6⟩,by simp only [fl,flL,e0,e1,e2,e3,e4,e5,e6,Za.XW];try rfl⟩
theorem ZmK {n:Nat} {d:D} (h:has Tryz.prog n 150 d):∃x:Za,fl d=x.c:=ZnY n d h
theorem Zro {n:Nat} {d:D} (h:has Tryz.prog n 25 d):∃x:List Za,fl d=[.sl (x.map Za.c)]:=
 Vo Tryz.underlying25 (fun m _ x h=>ZmK h) h
theorem ZpN {n:Nat} {d:D} (h:has Tryz.prog n 251 d):∃x:Zo,fl d=x.c:=by
 cases n with
 | zero=>exact h.elim
 | succ n=>
  simp only [has,Tryz.underlying251] at h
  obtain ⟨ds,rfl,hl,hf⟩:=h
  match ds,hl with
  | [x0,x1,x2,x3,x4],_=>
   obtain ⟨y0,e0⟩:=WL Tryz.underlying3 (hf 0 _ x0 rfl rfl)
   obtain ⟨y1,e1⟩:=WL Tryz.underlying3 (hf 1 _ x1 rfl rfl)
   obtain ⟨y2,e2⟩:=WL Tryz.underlying3 (hf 2 _ x2 rfl rfl)
   obtain ⟨y3,e3⟩:=Zfj Tryz.underlying9 (hf 3 _ x3 rfl rfl)
   obtain ⟨y4,e4⟩:=ZmK (hf 4 _ x4 rfl rfl)
   exact ⟨⟨y0,y1,y2,y3,y4⟩,by simp only [fl,flL,e0,e1,e2,e3,e4,Zo.XW,Za.XW];try rfl⟩
theorem ZpR {n:Nat} {d:D} (h:has Tryz.prog n 152 d):∃x:List Zo,fl d=[.sl (x.map Zo.c)]:=
 Vo Tryz.underlying152 (fun m _ x h=>ZpN h) h
theorem ZpQ {n:Nat} {d:D} (h:has Tryz.prog n 154 d):∃x:Zn,fl d=x.c:=by
 cases n with
 | zero=>exact h.elim
 | succ n=>
  simp only [has,Tryz.underlying154] at h
  obtain ⟨ds,rfl,hl,hf⟩:=h
  match ds,hl with
  | [x0,x1,x2],_=>
   obtain ⟨y0,e0⟩:=WL Tryz.underlying3 (hf 0 _ x0 rfl rfl)
   obtain ⟨y1,e1⟩:=WL Tryz.underlying3 (hf 1 _ x1 rfl rfl)
   obtain ⟨y2,e2⟩:=ZpR (hf 2 _ x2 rfl rfl)
   exact ⟨⟨y0,y1,y2⟩,by simp only [fl,flL,e0,e1,e2,Zn.XW];try rfl⟩
theorem Zrn {n:Nat} {d:D} (h:has Tryz.prog n 26 d):∃x:List Zn,fl d=[.sl (x.map Zn.c)]:=
 Vo Tryz.underlying26 (fun m _ x h=>ZpQ h) h
theorem Zrm {n:Nat} {d:D} (h:has Tryz.prog n 28 d):∃x:Qf,fl d=x.c:=by
 cases n with
 | zero=>exact h.elim
 | succ n=>
  simp only [has,Tryz.underlying28] at h
  obtain ⟨ds,rfl,hl,hf⟩:=h
  match ds,hl with
  | [x0,x1,x2],_=>
   obtain ⟨y0,e0⟩:=Zro (hf 0 _ x0 rfl rfl)
   obtain ⟨y1,e1⟩:=Zrn (hf 1 _ x1 rfl rfl)
   obtain ⟨y2,e2⟩:=WL Tryz.underlying3 (hf 2 _ x2 rfl rfl)
   exact ⟨⟨y0,y1,y2⟩,by simp only [fl,flL,e0,e1,e2,Qf.XW];try rfl⟩
theorem Zn5 (os:Os) (args:Array Value):laidMetH Tryz.prog Rows.fnExactValueByNameRow.laid ((World.laidAll Tryz.prog os Rows.fnExactValueByNameRow.laid).forCall (fun _ _=>0) ⟨#[],args,[]⟩).memory:=by
 rw [MakeChecks.laidMetH_plain _ _ _ (by kernel_rfl)]
 exact laidMet_laidAll _ (by kernel_rfl) (by kernel_rfl)
theorem Zrs {W:World} (hsh:W.ShapedOpen Tryz.prog) (h:laidMetH Tryz.prog Rows.fnExactValueByNameRow.laid W):∃G,Glb W G:=by
 rw [MakeChecks.laidMetH_plain _ _ _ (by kernel_rfl)] at h
 obtain ⟨ps,⟨g0,t0,cs0,f0,p0,q0,hg0,ht0,hv0,hd0,⟨g1,t1,cs1,f1,p1,q1,hg1,ht1,hv1,hd1,⟨g2,t2,cs2,f2,p2,q2,hg2,ht2,hv2,hd2,⟨g3,t3,cs3,f3,p3,q3,hg3,ht3,hv3,hd3,⟨g4,t4,cs4,f4,p4,q4,hg4,ht4,hv4,hd4,⟨g5,t5,cs5,f5,p5,q5,hg5,ht5,hv5,hd5,⟨g6,t6,cs6,f6,p6,q6,hg6,ht6,hv6,hd6,_,_⟩,_⟩,_⟩,_⟩,_⟩,_⟩,_⟩,_,_⟩:=h
 have eg0:Tryz.prog.globalNamed "internal/strconv.uint64pow10"=some 5:=by kernel_rfl
 obtain rfl:=Option.some.inj (eg0.symm.trans hg2)
 have et0:(Tryz.prog.globals[5]?).map (·.type)=some 380:=by kernel_rfl
 obtain rfl:=Option.some.inj (et0.symm.trans ht2)
 have st0:Zna W (5,Zss):=ZkV Tryz.underlying380 Tryz.underlying308 (by kernel_rfl) (by kernel_rfl) eg0 hv2 hd2
 have egs0:Tryz.prog.globalNamed "strconv.ErrRange"=some 4:=by kernel_rfl
 obtain rfl:=Option.some.inj (egs0.symm.trans hg4)
 have ets0:(Tryz.prog.globals[4]?).map (·.type)=some 322:=by kernel_rfl
 obtain rfl:=Option.some.inj (ets0.symm.trans ht4)
 have sv4:∃v,W.cell? ⟨4,0,none⟩=some v∧isF v:=by
  obtain ⟨_,u,v,ecs,_,_⟩:=iface_of_trod Tryz.underlying322 hd4
  obtain ⟨ty,fz,hh⟩:=ZgF egs0 hv4
  have e:cs4= #[.iface u v]:=by rw [←ecs]
  rw [e] at hh
  exact ⟨.iface u v,by simp [World.cell?,hh],u,v,rfl⟩
 have egs1:Tryz.prog.globalNamed "strconv.ErrSyntax"=some 3:=by kernel_rfl
 obtain rfl:=Option.some.inj (egs1.symm.trans hg5)
 have ets1:(Tryz.prog.globals[3]?).map (·.type)=some 322:=by kernel_rfl
 obtain rfl:=Option.some.inj (ets1.symm.trans ht5)
 have sv3:∃v,W.cell? ⟨3,0,none⟩=some v∧isF v:=by
  obtain ⟨_,u,v,ecs,_,_⟩:=iface_of_trod Tryz.underlying322 hd5
  obtain ⟨ty,fz,hh⟩:=ZgF egs1 hv5
  have e:cs5= #[.iface u v]:=by rw [←ecs]
  rw [e] at hh
  exact ⟨.iface u v,by simp [World.cell?,hh],u,v,rfl⟩
 have sv0:∃v,W.cell? ⟨0,0,none⟩=some v∧isI v:=by
  obtain ⟨m,hm⟩:=cell_of_shapedOpen_int (g:=0) (t:=3) (zero:= #[.int .i64 0]) (k:=.i64) hsh (of_decide_eq_true (by kernel_rfl)) (by kernel_rfl) rfl (by kernel_rfl) (by kernel_rfl) Tryz.underlying3
  exact ⟨_,hm,m,rfl⟩
 refine ZpT (fun p hp=> ?_) fun p hp=> ?_
 ·rw [show glb=[(5,Zss)] from rfl] at hp
  simp only [List.mem_cons,List.not_mem_nil,or_false] at hp
  rcases hp with rfl
  ·exact st0
 ·simp only [ZpU,List.mem_cons,List.not_mem_nil,or_false] at hp
  rcases hp with rfl| rfl| rfl
  ·exact sv4
  ·exact sv3
  ·exact sv0
set_option maxRecDepth 100000 in
theorem walked {H:Type} {enc:TypeId×Value→H} (W:World) (base:Nat) (args:Array Value) (ds gs:List (DataW H)) (before:List MemPlace)
  (hval0:∀(j:Nat) t v,Tryz.f3.params[j]? =some t→args[j]? =some v→Value.okWide Tryz.prog W .any base t v)
  (hW:DataW.Whole enc Tryz.prog Tryz.f3.params.toList Rows.fnExactValueByNameSpec.vars false W args.toList ds gs before) (hsh:W.ShapedOpen Tryz.prog) (hL:laidMetH Tryz.prog Rows.fnExactValueByNameRow.laid W):
  Calls Tryz.prog 3 args W fun e W'=>∃v,e= .returned v∧Rows.fnExactValueByNameSpec.post enc Tryz.prog Tryz.f3 false true false false W args v W':=by
 have hglb:=Zrs hsh hL
 have hW':=hW
 obtain ⟨p,q,hA0,hV,rfl,hfz,hnd⟩:=hW
 have hA:DataW.TrodAll enc Tryz.prog W 0 (fun _=>true) true Tryz.f3.params.toList args.toList ds p:=hA0
 have hval:∀(j:Nat) t v,Tryz.f3.params[j]? =some t→args[j]? =some v→Value.okWide Tryz.prog W .any base t v:=hval0
 rw [Tryz.params3] at hA hval
 obtain ⟨v0,vs0,d0,ds0,p0,q0,hargs,rfl,rfl,h0,r0⟩:=trodAll_cons hA
 obtain ⟨v1,vs1,d1,ds1,p1,q1,rfl,rfl,rfl,h1,r1⟩:=trodAll_cons r0
 obtain ⟨v2,vs2,d2,ds2,p2,q2,rfl,rfl,rfl,h2,r2⟩:=trodAll_cons r1
 obtain ⟨rfl,rfl,rfl⟩:=trodAll_nil r2
 obtain rfl:args= #[v0,v1,v2]:=by cases args;simp_all
 obtain ⟨rfl,rfl⟩:=trodVars_none hV
 have lt0:∀x∈p0,x.block<W.heap.size:=by obtain ⟨m,hm⟩:=h0;exact DataW.trod_lt m _ _ _ hm
 have lt1:∀x∈p1,x.block<W.heap.size:=by obtain ⟨m,hm⟩:=h1;exact DataW.trod_lt m _ _ _ hm
 have lt2:∀x∈p2,x.block<W.heap.size:=by obtain ⟨m,hm⟩:=h2;exact DataW.trod_lt m _ _ _ hm
 obtain ⟨⟨cl0⟩,rfl,_⟩:=okWide_struct Tryz.underlying24 (hval 0 _ v0 rfl rfl)
 obtain ⟨x0,F0,w0⟩:∃(x:Ze) (F:List Nat),RpL W x.c cl0 F:=by
  obtain ⟨fuel,hf⟩:=h0
  obtain ⟨d,F,k1,k2⟩:=Za2 _ ZjN fuel _ _ _ (by simp) hf
  obtain ⟨x,e⟩:=Zrp k2
  exact ⟨x,F,by rw [←e];exact ZdV.1 k1⟩
 obtain ⟨⟨cl1⟩,rfl,_⟩:=okWide_struct Tryz.underlying28 (hval 1 _ v1 rfl rfl)
 obtain ⟨x1,F1,w1⟩:∃(x:Qf) (F:List Nat),RpL W x.c cl1 F:=by
  obtain ⟨fuel,hf⟩:=h1
  obtain ⟨d,F,k1,k2⟩:=Za2 _ ZjN fuel _ _ _ (by simp) hf
  obtain ⟨x,e⟩:=Zrm k2
  exact ⟨x,F,by rw [←e];exact ZdV.1 k1⟩
 obtain ⟨z2,rfl,_,_,wf2⟩:=Go.ChangeMaps.open_string Tryz.underlying9 (hval 2 _ v2 rfl rfl) h2
 obtain ⟨u2,k2⟩:=Zrz (w:=W) (s:=z2) wf2
 clear hA0 hval0
 obtain ⟨k,hk⟩:=KT x0 (RpL.dok w0) x1 (RpL.dok w1) z2 k2
 refine (ZnU (JN k x0 x1 z2 true hk) hglb (Zhj (Zd6 w0) (Zhj (Zd6 w1) (Zhj u2 Zp3)))).mono fun e W' ⟨he,bel⟩=> ?_
 subst he
 exact ⟨_,rfl,_,_,_,[],_,[],hW',trodAll_mk1 (shut_bool Tryz.underlying4 _),(trodAll_cons_mk (Below.trod laidOut (by kernel_rfl) (of_decide_eq_true (by kernel_rfl)) h0 bel lt0) (trodAll_cons_mk (Below.trod laidOut (by kernel_rfl) (of_decide_eq_true (by kernel_rfl)) h1 bel lt1) (trodAll_cons_mk (Below.trod laidOut (by kernel_rfl) (of_decide_eq_true (by kernel_rfl)) h2 bel lt2) trodAll_mk0))),rfl,bel.frame _,fun h=>by cases h⟩
set_option maxRecDepth 100000 in
theorem lifted (os:Os) (started:os.Started) (H:Type) (enc:TypeId×Value→H):
  ReturnsInHanded {} Tryz.checked os 3 .any (fun w args=>(Rows.fnExactValueByNameSpec.pre enc Tryz.prog Tryz.f3 Rows.fnExactValueByNameRow.domain false w args∧laidMetH Tryz.prog Rows.fnExactValueByNameRow.laid w)∧sizedMet enc Tryz.prog Tryz.f3 (OpenSpec.ofChange Rows.fnExactValueByNameSpec) false w args) (Rows.fnExactValueByNameSpec.post enc Tryz.prog Tryz.f3 false true false false):=by
 refine returnsInHanded_of_calls (C:=Tryz.checked) own started (by kernel_rfl)
  (ChangeSpec.witness_shaped (enc:=enc) (C:=Tryz.checked) (os:=os) (X:=fun w _=>laidMetH Tryz.prog Rows.fnExactValueByNameRow.laid w) false (World.laidAll Tryz.prog os Rows.fnExactValueByNameRow.laid) #[.agg #[.slice none 0 0],.agg #[.slice none 0 0,.slice none 0 0,.int .i64 0],.string ⟨#[]⟩] 8 (World.laidAll_os _ _ _) (World.shaped_of_ZipB (by kernel_rfl) (by kernel_rfl)) (by kernel_rfl) (by kernel_rfl) (by kernel_rfl) (Zn5 os _)) ?_
 intro w tape i _ hsh _ hok hpre _
 obtain ⟨_,_,_,fn',hfn',_,_,_,_,hval⟩:=hok
 obtain rfl:fn'=Tryz.f3:=Option.some.inj (hfn'.symm.trans Tryz.func3)
 obtain ⟨⟨⟨ds,gs,before,hw,hc⟩,hx⟩,hz⟩:=hpre
 refine (walked (w.forCall tape i) w.heap.size i.args ds gs before hval (DataW.Whole.of_heap (w':=w.forCall tape i) (by rfl) hw) hsh (hx.of_heap (by rfl))).mono fun e W' ⟨v,he,hp⟩=> ?_
 subst he
 exact ChangeSpec.post_blind hp
theorem ZmT:(Rows.fnExactValueByNameRow.inPlace==Tryz.prog.inPlace 3)=true:=by kernel_rfl
theorem ZiA:(Rows.fnExactValueByNameRow.unfollowed==Tryz.prog.unfollowed 3)=true:=by kernel_rfl
theorem Zlv:(Rows.fnExactValueByNameRow.recurses==Tryz.prog.recurses 3)=true:=by kernel_rfl
theorem Zqe:(Rows.fnExactValueByNameRow.named==Tryz.prog.varsNamed 3)=true:=by kernel_rfl
theorem closed:joinedFacts Tryz.prog 3 Tryz.f3 Rows.fnExactValueByNameSpec Rows.fnExactValueByNameRow=true:=by
 unfold joinedFacts
 rw [ZmT,ZiA,Zlv,Zqe]
 kernel_rfl
theorem goes:false=Rows.fnExactValueByNameRow.goesBy Tryz.prog:=by kernel_rfl
theorem wfT:Rows.fnExactValueByNameRow.wfByText (OpenSpec.ofChange Rows.fnExactValueByNameSpec)=true:=by kernel_rfl
theorem holds:Rows.FnExactValueByNameSaid:=
 OpenClaim.holds_of_wide 3 Tryz.f3 rfl rfl rfl rfl rfl rfl rfl ⟨rfl,rfl,rfl,rfl,rfl⟩ rfl rfl rfl rfl rfl (by kernel_rfl) Tryz.func3 closed
  (of_decide_eq_true (by kernel_rfl)) (by unfold Func.isWrapper;first | (rw [if_pos (by decide+kernel)];kernel_rfl)| (rw [if_neg (by decide+kernel)];exact ⟨rfl,rfl⟩))
  (fun os started H enc _=>lifted os started H enc)
theorem proved:Rows.FnExactValueByNameCardSaid:=
 Claim7.holds_tied_plain_at .later [] [.data,.data,.data,.data,.sentinel,.sentinel,.pinned] true (true,"f74b608e58607c83436dfc6dbb05836df8f4cf15568c79cff4e9109f951b1f81") true
  holds (fun _ h=>by cases h) wfT (fun _ h=>by cases h) fnExactValueByName_row_tie rfl ⟨rfl,rfl⟩ (by kernel_rfl) rfl
  (fun f fn hf hfn=>by
   obtain rfl:f=3:=Option.some.inj ((show Tryz.prog.funcNamed "loop.example/g00510/laws.FnExactValueByName"=some 3 by kernel_rfl).symm.trans hf) |>.symm
   obtain rfl:fn=Tryz.f3:=(Option.some.inj (Tryz.func3.symm.trans hfn)).symm
   exact ⟨by kernel_rfl,fun j t ht=>by
    rw [Tryz.params3] at ht
    have hm:t∈[24,28,9]:=by simpa using Array.mem_of_getElem? ht
    have hall:([24,28,9].all fun u=>!Tryz.prog.wantsStandIn u)=true:=by kernel_rfl
    exact (show Tryz.prog.wantsStandIn t=false by simpa using List.all_eq_true.1 hall t hm)⟩)
  goes
end Go.Proofs.YtfapaeabfcogkaaGreatDoor.fnExactValueByName
