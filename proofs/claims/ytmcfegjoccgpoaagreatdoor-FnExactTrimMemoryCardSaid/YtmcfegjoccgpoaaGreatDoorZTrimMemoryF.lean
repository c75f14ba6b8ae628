import Derived.Test.YtmcfegjoccgpoaaGreatDoorFsA
import Derived.Test.YtmcfegjoccgpoaaGreatDoorFsB
import Derived.Test.YtmcfegjoccgpoaaGreatDoorFsC
import Derived.Test.YtmcfegjoccgpoaaGreatDoorFsD
import Derived.Test.YtmcfegjoccgpoaaGreatDoorFsE
import Derived.Test.YtmcfegjoccgpoaaGreatDoorFsF
import Derived.Test.YtmcfegjoccgpoaaGreatDoorTrimMemoryFa
import Derived.Test.YtmcfegjoccgpoaaGreatDoorTrimMemoryFb
import Derived.Test.YtmcfegjoccgpoaaGreatDoorZTrimMemoryM
import Derived.Test.YtmcfegjoccgpoaaGreatDoorTie
import Derived.LaidMore
import Derived.OpenVars
import Derived.Lay
set_option linter.unusedSimpArgs false
set_option linter.unusedVariables false
set_option maxRecDepth 100000
namespace Go.Proofs.YtmcfegjoccgpoaaGreatDoor.fnExactTrimMemory
open Go.Proofs.Tryz
open Go.ChangeShapes Go.WideShapes Go.ChangeAt Go.RowKit Go.Deep Am
theorem own:ownKnob Tryz.prog.godebug=none:=WP
theorem laidOut:laidOutB Tryz.prog=true:=s_laid
theorem J1:[31,24,22,159,3,9,27,25,162,28,107,105,193,112,109,93,110,223,33,221,280,29,114,4].all (ZxA Tryz.prog [31,24,22,159,3,9,27,25,162,28,107,105,193,112,109,93,110,223,33,221,280,29,114,4])=true:=WP
theorem Zcf {n:Nat} {d:D} (h:has Tryz.prog n 159 d):∃x:Zo,fl d=x.c:=by
 cases n with
 | zero=>exact h.elim
 | succ n=>
  simp only [has,underlying159] at h;obtain ⟨j,rfl,hl,hf⟩:=h
  match j,hl with
  | [s,t,w,z,A,B],_=>
   obtain ⟨C,k⟩:=Zh underlying3 (hf 0 _ s rfl rfl);obtain ⟨E,l⟩:=Zh underlying3 (hf 1 _ t rfl rfl);obtain ⟨G,m⟩:=Zh underlying3 (hf 2 _ w rfl rfl);obtain ⟨I,o⟩:=YK underlying9 (hf 3 _ z rfl rfl);obtain ⟨J,p⟩:=YK underlying9 (hf 4 _ A rfl rfl);obtain ⟨M,r⟩:=Zh underlying3 (hf 5 _ B rfl rfl);exact ⟨⟨C,E,G,I,J,M⟩,by simp only [fl,flL,k,l,m,o,p,r,Zo.ZY];try rfl⟩
theorem Zhj {n:Nat} {d:D} (h:has Tryz.prog n 22 d):∃x:List Zo,fl d=[.sl (x.map Zo.c)]:=
 Zu underlying22 (λm _ x h=>Zcf h) h
theorem Zhi {n:Nat} {d:D} (h:has Tryz.prog n 24 d):∃x:Zg,fl d=x.c:=by
 cases n with
 | zero=>exact h.elim
 | succ n=>
  simp only [has,underlying24] at h;obtain ⟨j,rfl,hl,hf⟩:=h
  match j,hl with
  | [l],_=>
   obtain ⟨m,k⟩:=Zhj (hf 0 _ l rfl rfl);exact ⟨⟨m⟩,by simp only [fl,flL,k,Zg.ZY];try rfl⟩
theorem Zce {n:Nat} {d:D} (h:has Tryz.prog n 162 d):∃x:Zq,fl d=x.c:=by
 cases n with
 | zero=>exact h.elim
 | succ n=>
  simp only [has,underlying162] at h;obtain ⟨j,rfl,hl,hf⟩:=h
  match j,hl with
  | [m,o],_=>
   obtain ⟨p,k⟩:=YK underlying9 (hf 0 _ m rfl rfl);obtain ⟨r,l⟩:=Zh underlying3 (hf 1 _ o rfl rfl);exact ⟨⟨p,r⟩,by simp only [fl,flL,k,l,Zq.ZY];try rfl⟩
theorem Zhh {n:Nat} {d:D} (h:has Tryz.prog n 25 d):∃x:List Zq,fl d=[.sl (x.map Zq.c)]:=
 Zu underlying25 (λm _ x h=>Zce h) h
theorem Zhg {n:Nat} {d:D} (h:has Tryz.prog n 27 d):∃x:ZD,fl d=x.c:=by
 cases n with
 | zero=>exact h.elim
 | succ n=>
  simp only [has,underlying27] at h;obtain ⟨j,rfl,hl,hf⟩:=h
  match j,hl with
  | [o,p,r],_=>
   obtain ⟨s,k⟩:=Zh underlying3 (hf 0 _ o rfl rfl);obtain ⟨t,l⟩:=Zh underlying3 (hf 1 _ p rfl rfl);obtain ⟨w,m⟩:=Zhh (hf 2 _ r rfl rfl);exact ⟨⟨s,t,w⟩,by simp only [fl,flL,k,l,m,ZD.ZY];try rfl⟩
theorem Zhc {n:Nat} {d:D} (h:has Tryz.prog n 93 d):∃x:List Ma,fl d=[.sl (x.map sC)]:=
 Zu underlying93 (λm _ x h=>YK underlying9 h) h
theorem Zas {n:Nat} {d:D} (h:has Tryz.prog n 33 d):∃x:List Int,fl d=[.sl (x.map iC)]:=
 Zu underlying33 (λm _ x h=>Zh underlying3 h) h
theorem Zca {n:Nat} {d:D} (h:has Tryz.prog n 280 d):∃x:Zk,fl d=x.c:=by
 cases n with
 | zero=>exact h.elim
 | succ n=>
  simp only [has,underlying280] at h;obtain ⟨j,rfl,hl,hf⟩:=h
  match j,hl with
  | [m,o],_=>
   obtain ⟨p,k⟩:=Zh underlying3 (hf 0 _ m rfl rfl);obtain ⟨r,l⟩:=Zh underlying3 (hf 1 _ o rfl rfl);exact ⟨⟨p,r⟩,by simp only [fl,flL,k,l,Zk.ZY];try rfl⟩
theorem Zcc {n:Nat} {d:D} (h:has Tryz.prog n 221 d):∃x:List Zk,fl d=[.sl (x.map Zk.c)]:=
 Zu underlying221 (λm _ x h=>Zca h) h
theorem Zcb {n:Nat} {d:D} (h:has Tryz.prog n 223 d):∃x:ZP,fl d=x.c:=by
 cases n with
 | zero=>exact h.elim
 | succ n=>
  simp only [has,underlying223] at h;obtain ⟨j,rfl,hl,hf⟩:=h
  match j,hl with
  | [m,o],_=>
   obtain ⟨p,k⟩:=Zas (hf 0 _ m rfl rfl);obtain ⟨r,l⟩:=Zcc (hf 1 _ o rfl rfl);exact ⟨⟨p,r⟩,by simp only [fl,flL,k,l,ZP.ZY];try rfl⟩
theorem Zch {n:Nat} {d:D} (h:has Tryz.prog n 110 d):∃x:List ZP,fl d=[.sl (x.map ZP.c)]:=
 Zu underlying110 (λm _ x h=>Zcb h) h
theorem J8:∀(n:Nat) (d:D),has Tryz.prog n 112 d->∃x:Zb,fl d=x.c:=by
 intro n
 induction n using Nat.strongRecOn with
 | _ n w=>
 intro d h;cases n with
 | zero=>exact h.elim
 | succ n=>
  simp only [has,underlying112] at h;obtain ⟨j,rfl,hl,hf⟩:=h
  match j,hl with
  | [z,A,B,C,E,G,I],_=>
   obtain ⟨J,k⟩:=Zh underlying3 (hf 0 _ z rfl rfl);obtain ⟨M,l⟩:=Zh underlying3 (hf 1 _ A rfl rfl);obtain ⟨O,o⟩:=Zh underlying3 (hf 2 _ B rfl rfl);obtain ⟨P,p⟩:=YK underlying9 (hf 3 _ C rfl rfl);obtain ⟨Q,r⟩:=Zu (c:=Zb.c) underlying109 (λm T x h=>w m WF x h) (hf 4 _ E rfl rfl);obtain ⟨R,s⟩:=Zhc (hf 5 _ G rfl rfl);obtain ⟨S,t⟩:=Zch (hf 6 _ I rfl rfl);exact ⟨⟨J,M,O,P,Q,R,S⟩,by simp only [fl,flL,k,l,o,p,r,s,t,Zb.ZY];try rfl⟩
theorem Uz {n:Nat} {d:D} (h:has Tryz.prog n 112 d):∃x:Zb,fl d=x.c:=J8 n d h
theorem Zcd {n:Nat} {d:D} (h:has Tryz.prog n 193 d):∃x:Zw,fl d=x.c:=by
 cases n with
 | zero=>exact h.elim
 | succ n=>
  simp only [has,underlying193] at h;obtain ⟨j,rfl,hl,hf⟩:=h
  match j,hl with
  | [r,s,t,w,z],_=>
   obtain ⟨A,k⟩:=Zh underlying3 (hf 0 _ r rfl rfl);obtain ⟨B,l⟩:=Zh underlying3 (hf 1 _ s rfl rfl);obtain ⟨C,m⟩:=Zh underlying3 (hf 2 _ t rfl rfl);obtain ⟨E,o⟩:=YK underlying9 (hf 3 _ w rfl rfl);obtain ⟨G,p⟩:=Uz (hf 4 _ z rfl rfl);exact ⟨⟨A,B,C,E,G⟩,by simp only [fl,flL,k,l,m,o,p,Zw.ZY,Zb.ZY];try rfl⟩
theorem Zcj {n:Nat} {d:D} (h:has Tryz.prog n 105 d):∃x:List Zw,fl d=[.sl (x.map Zw.c)]:=
 Zu underlying105 (λm _ x h=>Zcd h) h
theorem Zci {n:Nat} {d:D} (h:has Tryz.prog n 107 d):∃x:Zn,fl d=x.c:=by
 cases n with
 | zero=>exact h.elim
 | succ n=>
  simp only [has,underlying107] at h;obtain ⟨j,rfl,hl,hf⟩:=h
  match j,hl with
  | [o,p,r],_=>
   obtain ⟨s,k⟩:=Zh underlying3 (hf 0 _ o rfl rfl);obtain ⟨t,l⟩:=Zh underlying3 (hf 1 _ p rfl rfl);obtain ⟨w,m⟩:=Zcj (hf 2 _ r rfl rfl);exact ⟨⟨s,t,w⟩,by simp only [fl,flL,k,l,m,Zn.ZY];try rfl⟩
theorem Zhf {n:Nat} {d:D} (h:has Tryz.prog n 28 d):∃x:List Zn,fl d=[.sl (x.map Zn.c)]:=
 Zu underlying28 (λm _ x h=>Zci h) h
theorem Zcg {n:Nat} {d:D} (h:has Tryz.prog n 114 d):∃x:Ze,fl d=x.c:=by
 cases n with
 | zero=>exact h.elim
 | succ n=>
  simp only [has,underlying114] at h;obtain ⟨j,rfl,hl,hf⟩:=h
  match j,hl with
  | [s,t,w,z,A,B],_=>
   obtain ⟨C,k⟩:=Zh underlying3 (hf 0 _ s rfl rfl);obtain ⟨E,l⟩:=Zh underlying3 (hf 1 _ t rfl rfl);obtain ⟨G,m⟩:=Zh underlying3 (hf 2 _ w rfl rfl);obtain ⟨I,o⟩:=Zas (hf 3 _ z rfl rfl);obtain ⟨J,p⟩:=Uz (hf 4 _ A rfl rfl);obtain ⟨M,r⟩:=Zhb underlying4 (hf 5 _ B rfl rfl);exact ⟨⟨C,E,G,I,J,M⟩,by simp only [fl,flL,k,l,m,o,p,r,Ze.ZY,Zb.ZY];try rfl⟩
theorem Zhe {n:Nat} {d:D} (h:has Tryz.prog n 29 d):∃x:List Ze,fl d=[.sl (x.map Ze.c)]:=
 Zu underlying29 (λm _ x h=>Zcg h) h
theorem Zhd {n:Nat} {d:D} (h:has Tryz.prog n 31 d):∃x:Za,fl d=x.c:=by
 cases n with
 | zero=>exact h.elim
 | succ n=>
  simp only [has,underlying31] at h;obtain ⟨j,rfl,hl,hf⟩:=h
  match j,hl with
  | [t,w,z,A,B,C,E],_=>
   obtain ⟨G,k⟩:=Zhi (hf 0 _ t rfl rfl);obtain ⟨I,l⟩:=Zhg (hf 1 _ w rfl rfl);obtain ⟨J,m⟩:=Zhf (hf 2 _ z rfl rfl);obtain ⟨M,o⟩:=Zhe (hf 3 _ A rfl rfl);obtain ⟨O,p⟩:=Zh underlying3 (hf 4 _ B rfl rfl);obtain ⟨P,r⟩:=Zh underlying3 (hf 5 _ C rfl rfl);obtain ⟨Q,s⟩:=Zh underlying3 (hf 6 _ E rfl rfl);exact ⟨⟨G,I,J,M,O,P,Q⟩,by simp only [fl,flL,k,l,m,o,p,r,s,Za.ZY,Zg.ZY,ZD.ZY];try rfl⟩
theorem J9 (os:Os) (args:Array Value):laidMetH Tryz.prog Rows.fnExactTrimMemoryRow.laid ((World.laidAll Tryz.prog os Rows.fnExactTrimMemoryRow.laid).forCall (λ_ _=>0) ⟨#[],args,[]⟩).memory:=by
 rw [MakeChecks.laidMetH_plain _ _ _ WP];exact laidMet_laidAll _ WP WP
theorem Zhk {W:World} (O:W.ShapedOpen Tryz.prog) (h:laidMetH Tryz.prog Rows.fnExactTrimMemoryRow.laid W):∃G,Glb W G:=by
 rw [MakeChecks.laidMetH_plain _ _ _ WP] at h;obtain ⟨ps,⟨g0,t0,b1,f0,p0,q0,c0,c4,c8,b6,⟨g1,t1,b2,f1,p1,q1,c1,c5,c9,b7,⟨g2,t2,b3,f2,p2,q2,I,P,S,B,⟨g3,t3,b4,f3,p3,q3,c2,c6,e0,b8,⟨g4,t4,w,f4,p4,q4,J,Q,T,C,⟨g5,t5,z,f5,p5,q5,M,R,U,E,⟨g6,t6,b5,f6,p6,q6,c3,c7,e1,b9,_,_⟩,_⟩,_⟩,_⟩,_⟩,_⟩,_⟩,_,_⟩:=h;have o:Tryz.prog.globalNamed "internal/strconv.uint64pow10"=some 5:=by kernel_rfl
 obtain rfl:=ZEI (o.symm.trans I);have A:(Tryz.prog.globals[5]?).map (·.type)=some 358:=WP
 obtain rfl:=ZEI (A.symm.trans P);have X:Zkz W (5,ZsT):=ZaZ underlying358 underlying307 WP WP o S B;have j:Tryz.prog.globalNamed "strconv.ErrRange"=some 4:=by kernel_rfl
 obtain rfl:=ZEI (j.symm.trans J);have r:(Tryz.prog.globals[4]?).map (·.type)=some 286:=WP
 obtain rfl:=ZEI (r.symm.trans Q)
 have b0:∃v,W.cell? ⟨4,0,none⟩=some v/\isF v:=by
  obtain ⟨_,u,v,l,_,_⟩:=iface_of_trod underlying286 C;obtain ⟨ty,fz,t⟩:=Ui j T;have e:w= #[.iface u v]:=by rw [<-l]
  rw [e] at t;exact ⟨.iface u v,by simp [World.cell?,t],u,v,rfl⟩
 have k:Tryz.prog.globalNamed "strconv.ErrSyntax"=some 3:=by kernel_rfl
 obtain rfl:=ZEI (k.symm.trans M);have s:(Tryz.prog.globals[3]?).map (·.type)=some 286:=WP
 obtain rfl:=ZEI (s.symm.trans R)
 have Z:∃v,W.cell? ⟨3,0,none⟩=some v/\isF v:=by
  obtain ⟨_,u,v,l,_,_⟩:=iface_of_trod underlying286 E;obtain ⟨ty,fz,t⟩:=Ui k U;have e:z= #[.iface u v]:=by rw [<-l]
  rw [e] at t;exact ⟨.iface u v,by simp [World.cell?,t],u,v,rfl⟩
 have Y:∃v,W.cell? ⟨0,0,none⟩=some v/\isI v:=by
  obtain ⟨m,hm⟩:=cell_of_shapedOpen_int (g:=0) (t:=3) (zero:= #[.int .i64 0]) (k:=.i64) O (of_decide_eq_true WP) WP rfl WP WP underlying3;exact ⟨_,hm,m,rfl⟩
 refine Zkb (λp hp=> ?_) λp hp=> ?_
 ·rw [show glb=[(5,ZsT)] from rfl] at hp;simp only [Hc,HS,or_false] at hp;rcases hp with rfl
  ·exact X
 ·simp only [Zt2,Hc,HS,or_false] at hp;rcases hp with rfl| rfl| rfl
  ·exact b0
  ·exact Z
  ·exact Y
theorem walked {H:Type} {enc:TypeId×Value->H} (W:World) (base:Nat) (args:Array Value) (M T:List (DataW H)) (before:List MemPlace)
  (l:∀(j:Nat) t v,Tryz.f7.params[j]? =some t->args[j]? =some v->Value.okWide Tryz.prog W .any base t v)
  (P:DataW.Whole enc Tryz.prog Tryz.f7.params.toList Rows.fnExactTrimMemorySpec.vars false W args.toList M T before) (G:W.ShapedOpen Tryz.prog) (hL:laidMetH Tryz.prog Rows.fnExactTrimMemoryRow.laid W):
  Calls Tryz.prog 7 args W λe J=>∃v,e= .returned v/\Rows.fnExactTrimMemorySpec.post enc Tryz.prog Tryz.f7 false true false false W args v J:=by
 have z:=Zhk G hL;have C:=P;obtain ⟨p,q,w,U,rfl,Y,b0⟩:=P;have O:DataW.TrodAll enc Tryz.prog W 0 (λ_=>true) true Tryz.f7.params.toList args.toList M p:=w;have o:∀(j:Nat) t v,Tryz.f7.params[j]? =some t->args[j]? =some v->Value.okWide Tryz.prog W .any base t v:=l;rw [Tryz.params7] at O o;obtain ⟨Q,b1,d0,S,p0,q0,E,rfl,rfl,B,r0⟩:=trodAll_cons O;obtain ⟨rfl,rfl,rfl⟩:=trodAll_nil r0;obtain rfl:args= #[Q]:=by cases args;simp_all
 obtain ⟨rfl,rfl⟩:=trodVars_none U;have I:∀x∈p0,x.block<W.heap.size:=by obtain ⟨m,hm⟩:=B;exact DataW.trod_lt m _ _ _ hm
 obtain ⟨⟨A⟩,rfl,_⟩:=okWide_struct underlying31 (o 0 _ Q rfl rfl)
 obtain ⟨R,F0,w0⟩:∃(x:Za) (F:List Nat),RpL W x.c A F:=by
  obtain ⟨s,hf⟩:=B;obtain ⟨d,F,k1,k2⟩:=U2 _ J1 s _ _ _ Ha hf;obtain ⟨x,e⟩:=Zhd k2;exact ⟨x,F,by rw [<-e];exact ZgF.1 k1⟩
 clear w l;obtain ⟨k,Z⟩:=Zea R (RpL.dok w0);refine (ZgO (ZbO k R true Z) z (Zcm (JN w0) Zkj)).mono λe J ⟨X,r⟩=> ?_;subst X;exact ⟨_,rfl,_,_,_,[],_,[],C,trodAll_mk1 (shut_bool underlying4 _),(trodAll_cons_mk (Below.trod laidOut WP (of_decide_eq_true WP) B r I) trodAll_mk0),rfl,r.frame _,λh=>by cases h⟩
theorem lifted (os:Os) (j:os.Started) (H:Type) (enc:TypeId×Value->H):
  ReturnsInHanded {} Tryz.checked os 7 .any (λw args=>(Rows.fnExactTrimMemorySpec.pre enc Tryz.prog Tryz.f7 Rows.fnExactTrimMemoryRow.domain false w args/\laidMetH Tryz.prog Rows.fnExactTrimMemoryRow.laid w)/\sizedMet enc Tryz.prog Tryz.f7 (OpenSpec.ofChange Rows.fnExactTrimMemorySpec) false w args) (Rows.fnExactTrimMemorySpec.post enc Tryz.prog Tryz.f7 false true false false):=by
 refine returnsInHanded_of_calls (C:=Tryz.checked) own j WP
  (ChangeSpec.witness_shaped (enc:=enc) (C:=Tryz.checked) (os:=os) (X:=λw _=>laidMetH Tryz.prog Rows.fnExactTrimMemoryRow.laid w) false (World.laidAll Tryz.prog os Rows.fnExactTrimMemoryRow.laid) #[.agg #[.slice none 0 0,.int .i64 0,.int .i64 0,.slice none 0 0,.slice none 0 0,.slice none 0 0,.int .i64 0,.int .i64 0,.int .i64 0]] 8 (World.laidAll_os _ _ _) (World.shaped_of_ZipB WP WP) WP WP WP (J9 os _)) ?_
 intro w k i _ s _ r m _;obtain ⟨_,_,_,p,l,_,_,_,_,o⟩:=r;obtain rfl:p=Tryz.f7:=ZEI (l.symm.trans func7);obtain ⟨⟨⟨t,z,before,B,G⟩,C⟩,I⟩:=m;refine (walked (w.forCall k i) w.heap.size i.args t z before o (DataW.Whole.of_heap (w':=w.forCall k i) Hb B) s (C.of_heap Hb)).mono λe E ⟨v,A,hp⟩=> ?_;subst A;exact ChangeSpec.post_blind hp
theorem ZgR:(Rows.fnExactTrimMemoryRow.plainKeys==Tryz.prog.plainKeys)=true:=s_keys
theorem ZgQ:(Rows.fnExactTrimMemoryRow.lifted==Tryz.prog.liftsFinal)=true:=s_lift
theorem ZgP:(Tryz.prog.make==some Rows.fnExactTrimMemoryRow.make)=true:=s_make
theorem closed:joinedFacts Tryz.prog 7 Tryz.f7 Rows.fnExactTrimMemorySpec Rows.fnExactTrimMemoryRow=true:=by
 unfold joinedFacts;rw [s_laid,s_maps,c_inPlace,c_unfollowed,c_recurses,c_named,ZgR,s_heard,s_enter,ZgQ,ZgP]
 kernel_rfl
theorem goes:false=Rows.fnExactTrimMemoryRow.goesBy Tryz.prog:=by
 unfold OpenClaim.goesBy Program.goesAt Program.goesFrom;rw [show Rows.fnExactTrimMemoryRow.func="loop.example/g00510/laws.FnExactTrimMemory" from rfl,show Rows.fnExactTrimMemoryRow.start= .entering from rfl,c_fn];simp only [Option.any_some,Program.goes,c_goes1,s_goes,Bool.and_false,Bool.or_false]
theorem wfT:Rows.fnExactTrimMemoryRow.wfByText (OpenSpec.ofChange Rows.fnExactTrimMemorySpec)=true:=WP
theorem holds:Rows.FnExactTrimMemorySaid:=
 OpenClaim.holds_of_wide 7 Tryz.f7 rfl rfl rfl rfl rfl rfl rfl ⟨rfl,rfl,rfl,rfl,rfl⟩ rfl rfl rfl rfl rfl c_fn func7 closed
  (of_decide_eq_true WP) (by unfold Func.isWrapper;first | (rw [if_pos (by decide+kernel)];kernel_rfl)| (rw [if_neg (by decide+kernel)];exact ⟨rfl,rfl⟩))
  (λk j H enc _=>lifted k j H enc)
theorem proved:Rows.FnExactTrimMemoryCardSaid:=
 Claim7.holds_tied_plain_at .later [] [.data,.data,.data,.data,.sentinel,.sentinel,.pinned] true (true,"5302960cd6026adfa3c3044981f7848c01e197fa70397cb2611dd108d1ab17eb") true
  holds (λ_ h=>by cases h) wfT (λ_ h=>by cases h) fnExactTrimMemory_row_tie rfl ⟨rfl,rfl⟩ s_main rfl
  (λf fn hf l=>by
   obtain rfl:f=7:=ZEI (c_fn.symm.trans hf) |>.symm
   obtain rfl:fn=Tryz.f7:=(ZEI (func7.symm.trans l)).symm
   exact ⟨s_looks,λj t m=>by
    rw [Tryz.params7] at m;have o:t∈[31]:=by simpa using Array.mem_of_getElem? m
    have k:([31].all λu=>!Tryz.prog.wantsStandIn u)=true:=by simp [s_stand31]
    exact (show Tryz.prog.wantsStandIn t=false by simpa using Hj.1 k t o)⟩)
  goes
end Go.Proofs.YtmcfegjoccgpoaaGreatDoor.fnExactTrimMemory
