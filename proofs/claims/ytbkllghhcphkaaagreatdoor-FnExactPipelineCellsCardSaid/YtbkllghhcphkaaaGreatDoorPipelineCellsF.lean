import Derived.Test.YtbkllghhcphkaaaGreatDoorPipelineCellsFa
import Derived.Test.YtbkllghhcphkaaaGreatDoorPipelineCellsFb
import Derived.Test.YtbkllghhcphkaaaGreatDoorPipelineCellsFc
import Derived.Test.YtbkllghhcphkaaaGreatDoorPipelineCellsFd
import Derived.Test.YtbkllghhcphkaaaGreatDoorPipelineCellsFe
import Derived.Test.YtbkllghhcphkaaaGreatDoorPipelineCellsFf
import Derived.Test.YtbkllghhcphkaaaGreatDoorPipelineCellsFg
import Derived.Test.YtbkllghhcphkaaaGreatDoorPipelineCellsM
import Derived.Test.YtbkllghhcphkaaaGreatDoorTie
import Derived.LaidMore
import Derived.Stop.Joined
import Derived.SevenTiedAt
import Derived.ChangeSame
import Derived.ChangeVars
import Derived.OpenVars
import Derived.LaidLaws
import Derived.Lay
import Derived.LaidOnce
import Derived.Shelf.Vars
set_option linter.unusedSimpArgs false
set_option linter.unusedVariables false
namespace Go.Proofs.YtbkllghhcphkaaaGreatDoor.fnExactPipelineCells
open Go.ChangeShapes Go.WideShapes Go.ChangeAt Go.RowKit Go.Deep Am
theorem own:ownKnob Tryz.prog.godebug=none:=by kernel_rfl
theorem laidOut:laidOutB Tryz.prog=true:=by kernel_rfl
theorem Znf:[24,22,45,3,9].all (ZtI Tryz.prog [24,22,45,3,9])=true:=by kernel_rfl
theorem Zr3 {n:Nat} {d:D} (h:has Tryz.prog n 45 d):∃x:Zk,fl d=x.c:=by
 cases n with
 | zero=>exact h.elim
 | succ n=>
  simp only [has,Tryz.underlying45] at h;obtain ⟨ds,rfl,hl,hf⟩:=h
  match ds,hl with
  | [x0,x1,x2,x3,x4,x5],_=>
   obtain ⟨y0,e0⟩:=Zgr Tryz.underlying3 (hf 0 _ x0 rfl rfl);obtain ⟨y1,e1⟩:=Zgr Tryz.underlying3 (hf 1 _ x1 rfl rfl);obtain ⟨y2,e2⟩:=Zgr Tryz.underlying3 (hf 2 _ x2 rfl rfl);obtain ⟨y3,e3⟩:=Zmq Tryz.underlying9 (hf 3 _ x3 rfl rfl);obtain ⟨y4,e4⟩:=Zmq Tryz.underlying9 (hf 4 _ x4 rfl rfl);obtain ⟨y5,e5⟩:=Zgr Tryz.underlying3 (hf 5 _ x5 rfl rfl);exact ⟨⟨y0,y1,y2,y3,y4,y5⟩,by simp only [fl,flL,e0,e1,e2,e3,e4,e5,Zk.ZeQ];try rfl⟩
theorem Zr5 {n:Nat} {d:D} (h:has Tryz.prog n 22 d):∃x:List Zk,fl d=[.sl (x.map Zk.c)]:=
 Zmr Tryz.underlying22 (fun m _ x h=>Zr3 h) h
theorem Zr4 {n:Nat} {d:D} (h:has Tryz.prog n 24 d):∃x:Ze,fl d=x.c:=by
 cases n with
 | zero=>exact h.elim
 | succ n=>
  simp only [has,Tryz.underlying24] at h;obtain ⟨ds,rfl,hl,hf⟩:=h
  match ds,hl with
  | [x0],_=>
   obtain ⟨y0,e0⟩:=Zr5 (hf 0 _ x0 rfl rfl);exact ⟨⟨y0⟩,by simp only [fl,flL,e0,Ze.ZeQ];try rfl⟩
theorem Zn2 (os:Os) (args:Array Value):laidMetH Tryz.prog Rows.fnExactPipelineCellsRow.laid ((World.laidAll Tryz.prog os Rows.fnExactPipelineCellsRow.laid).forCall (fun _ _=>0) ⟨#[],args,[]⟩).memory:=by
 rw [MakeChecks.laidMetH_plain _ _ _ (by kernel_rfl)];exact laidMet_laidAll _ (by kernel_rfl) (by kernel_rfl)
theorem Zr7 {W:World} (hsh:W.ShapedOpen Tryz.prog) (h:laidMetH Tryz.prog Rows.fnExactPipelineCellsRow.laid W):∃G,Glb W G:=by
 rw [MakeChecks.laidMetH_plain _ _ _ (by kernel_rfl)] at h;obtain ⟨ps,⟨g0,t0,cs0,f0,p0,q0,hg0,ht0,hv0,hd0,⟨g1,t1,cs1,f1,p1,q1,hg1,ht1,hv1,hd1,⟨g2,t2,cs2,f2,p2,q2,hg2,ht2,hv2,hd2,⟨g3,t3,cs3,f3,p3,q3,hg3,ht3,hv3,hd3,⟨g4,t4,cs4,f4,p4,q4,hg4,ht4,hv4,hd4,⟨g5,t5,cs5,f5,p5,q5,hg5,ht5,hv5,hd5,⟨g6,t6,cs6,f6,p6,q6,hg6,ht6,hv6,hd6,_,_⟩,_⟩,_⟩,_⟩,_⟩,_⟩,_⟩,_,_⟩:=h;have eg0:Tryz.prog.globalNamed "internal/strconv.uint64pow10"=some 5:=by kernel_rfl
 obtain rfl:=Zwf (eg0.symm.trans hg2);have et0:(Tryz.prog.globals[5]?).map (·.type)=some 344:=by kernel_rfl
 obtain rfl:=Zwf (et0.symm.trans ht2);have st0:ZmZ W (5,Ztj):=Zko Tryz.underlying344 Tryz.underlying262 (by kernel_rfl) (by kernel_rfl) eg0 hv2 hd2;have egs0:Tryz.prog.globalNamed "strconv.ErrRange"=some 4:=by kernel_rfl
 obtain rfl:=Zwf (egs0.symm.trans hg4);have ets0:(Tryz.prog.globals[4]?).map (·.type)=some 280:=by kernel_rfl
 obtain rfl:=Zwf (ets0.symm.trans ht4)
 have sv4:∃v,W.cell? ⟨4,0,none⟩=some v/\isF v:=by
  obtain ⟨_,u,v,ecs,_,_⟩:=iface_of_trod Tryz.underlying280 hd4;obtain ⟨ty,fz,hh⟩:=ZfM egs0 hv4;have e:cs4= #[.iface u v]:=by rw [<-ecs]
  rw [e] at hh;exact ⟨.iface u v,by simp [World.cell?,hh],u,v,rfl⟩
 have egs1:Tryz.prog.globalNamed "strconv.ErrSyntax"=some 3:=by kernel_rfl
 obtain rfl:=Zwf (egs1.symm.trans hg5);have ets1:(Tryz.prog.globals[3]?).map (·.type)=some 280:=by kernel_rfl
 obtain rfl:=Zwf (ets1.symm.trans ht5)
 have sv3:∃v,W.cell? ⟨3,0,none⟩=some v/\isF v:=by
  obtain ⟨_,u,v,ecs,_,_⟩:=iface_of_trod Tryz.underlying280 hd5;obtain ⟨ty,fz,hh⟩:=ZfM egs1 hv5;have e:cs5= #[.iface u v]:=by rw [<-ecs]
  rw [e] at hh;exact ⟨.iface u v,by simp [World.cell?,hh],u,v,rfl⟩
 have sv0:∃v,W.cell? ⟨0,0,none⟩=some v/\isI v:=by
  obtain ⟨m,hm⟩:=cell_of_shapedOpen_int (g:=0) (t:=3) (zero:= #[.int .i64 0]) (k:=.i64) hsh (of_decide_eq_true (by kernel_rfl)) (by kernel_rfl) rfl (by kernel_rfl) (by kernel_rfl) Tryz.underlying3;exact ⟨_,hm,m,rfl⟩
 refine Zqa (fun p hp=> ?_) fun p hp=> ?_
 ·rw [show glb=[(5,Ztj)] from rfl] at hp;simp only [List.mem_cons,List.not_mem_nil,or_false] at hp;rcases hp with rfl
  ·exact st0
 ·simp only [Zqb,List.mem_cons,List.not_mem_nil,or_false] at hp;rcases hp with rfl| rfl| rfl
  ·exact sv4
  ·exact sv3
  ·exact sv0
set_option maxRecDepth 100000 in
theorem walked {H:Type} {enc:TypeId×Value->H} (W:World) (base:Nat) (args:Array Value) (ds gs:List (DataW H)) (before:List MemPlace)
  (hval0:∀(j:Nat) t v,Tryz.f3.params[j]? =some t->args[j]? =some v->Value.okWide Tryz.prog W .any base t v)
  (hW:DataW.Whole enc Tryz.prog Tryz.f3.params.toList Rows.fnExactPipelineCellsSpec.vars false W args.toList ds gs before) (hsh:W.ShapedOpen Tryz.prog) (hL:laidMetH Tryz.prog Rows.fnExactPipelineCellsRow.laid W):
  Calls Tryz.prog 3 args W fun e W'=>∃v,e= .returned v/\Rows.fnExactPipelineCellsSpec.post enc Tryz.prog Tryz.f3 false true false false W args v W':=by
 have hglb:=Zr7 hsh hL;have hW':=hW;obtain ⟨p,q,hA0,hV,rfl,hfz,hnd⟩:=hW;have hA:DataW.TrodAll enc Tryz.prog W 0 (fun _=>true) true Tryz.f3.params.toList args.toList ds p:=hA0;have hval:∀(j:Nat) t v,Tryz.f3.params[j]? =some t->args[j]? =some v->Value.okWide Tryz.prog W .any base t v:=hval0;rw [Tryz.params3] at hA hval;obtain ⟨v0,vs0,d0,ds0,p0,q0,hargs,rfl,rfl,h0,r0⟩:=trodAll_cons hA;obtain ⟨rfl,rfl,rfl⟩:=trodAll_nil r0;obtain rfl:args= #[v0]:=by cases args;simp_all
 obtain ⟨rfl,rfl⟩:=trodVars_none hV;have lt0:∀x∈p0,x.block<W.heap.size:=by obtain ⟨m,hm⟩:=h0;exact DataW.trod_lt m _ _ _ hm
 obtain ⟨⟨cl0⟩,rfl,_⟩:=okWide_struct Tryz.underlying24 (hval 0 _ v0 rfl rfl)
 obtain ⟨x0,F0,w0⟩:∃(x:Ze) (F:List Nat),RpL W x.c cl0 F:=by
  obtain ⟨fuel,hf⟩:=h0;obtain ⟨d,F,k1,k2⟩:=ZcU _ Znf fuel _ _ _ (by simp) hf;obtain ⟨x,e⟩:=Zr4 k2;exact ⟨x,F,by rw [<-e];exact Zdm.1 k1⟩
 clear hA0 hval0;obtain ⟨k,hk⟩:=J2 x0 (RpL.dok w0);refine (ZnR (U3 k x0 true hk) hglb (Zn0 (Zhy w0) Zqk)).mono fun e W' ⟨he,bel⟩=> ?_;subst he;exact ⟨_,rfl,_,_,_,[],_,[],hW',trodAll_mk1 (shut_bool Tryz.underlying4 _),(trodAll_cons_mk (Below.trod laidOut (by kernel_rfl) (of_decide_eq_true (by kernel_rfl)) h0 bel lt0) trodAll_mk0),rfl,bel.frame _,fun h=>by cases h⟩
set_option maxRecDepth 100000 in
theorem lifted (os:Os) (started:os.Started) (H:Type) (enc:TypeId×Value->H):
  ReturnsInHanded {} Tryz.checked os 3 .any (fun w args=>(Rows.fnExactPipelineCellsSpec.pre enc Tryz.prog Tryz.f3 Rows.fnExactPipelineCellsRow.domain false w args/\laidMetH Tryz.prog Rows.fnExactPipelineCellsRow.laid w)/\sizedMet enc Tryz.prog Tryz.f3 (OpenSpec.ofChange Rows.fnExactPipelineCellsSpec) false w args) (Rows.fnExactPipelineCellsSpec.post enc Tryz.prog Tryz.f3 false true false false):=by
 refine returnsInHanded_of_calls (C:=Tryz.checked) own started (by kernel_rfl)
  (ChangeSpec.witness_shaped (enc:=enc) (C:=Tryz.checked) (os:=os) (X:=fun w _=>laidMetH Tryz.prog Rows.fnExactPipelineCellsRow.laid w) false (World.laidAll Tryz.prog os Rows.fnExactPipelineCellsRow.laid) #[.agg #[.slice none 0 0]] 8 (World.laidAll_os _ _ _) (World.shaped_of_ZipB (by kernel_rfl) (by kernel_rfl)) (by kernel_rfl) (by kernel_rfl) (by kernel_rfl) (Zn2 os _)) ?_
 intro w tape i _ hsh _ hok hpre _;obtain ⟨_,_,_,fn',hfn',_,_,_,_,hval⟩:=hok;obtain rfl:fn'=Tryz.f3:=Zwf (hfn'.symm.trans Tryz.func3);obtain ⟨⟨⟨ds,gs,before,hw,hc⟩,hx⟩,hz⟩:=hpre;refine (walked (w.forCall tape i) w.heap.size i.args ds gs before hval (DataW.Whole.of_heap (w':=w.forCall tape i) (by rfl) hw) hsh (hx.of_heap (by rfl))).mono fun e W' ⟨v,he,hp⟩=> ?_;subst he;exact ChangeSpec.post_blind hp
theorem closed:joinedFacts Tryz.prog 3 Tryz.f3 Rows.fnExactPipelineCellsSpec Rows.fnExactPipelineCellsRow=true:=by
 unfold joinedFacts;rw [Zsz,Zsv,ZmD,ZhG,ZkU,Zqy,ZsA,ZqA,ZqD,Zsy,Zsw]
 kernel_rfl
theorem goes:false=Rows.fnExactPipelineCellsRow.goesBy Tryz.prog:=by
 unfold OpenClaim.goesBy Program.goesAt Program.goesFrom;rw [show Rows.fnExactPipelineCellsRow.func="loop.example/g00510/laws.FnExactPipelineCells" from rfl,show Rows.fnExactPipelineCellsRow.start= .entering from rfl,ZuO];simp only [Option.any_some,Program.goes,ZqC,ZqB,Bool.and_false,Bool.or_false]
theorem wfT:Rows.fnExactPipelineCellsRow.wfByText (OpenSpec.ofChange Rows.fnExactPipelineCellsSpec)=true:=by kernel_rfl
theorem holds:Rows.FnExactPipelineCellsSaid:=
 OpenClaim.holds_of_wide 3 Tryz.f3 rfl rfl rfl rfl rfl rfl rfl ⟨rfl,rfl,rfl,rfl,rfl⟩ rfl rfl rfl rfl rfl ZuO Tryz.func3 closed
  (of_decide_eq_true (by kernel_rfl)) (by unfold Func.isWrapper;first | (rw [if_pos (by decide+kernel)];kernel_rfl)| (rw [if_neg (by decide+kernel)];exact ⟨rfl,rfl⟩))
  (fun os started H enc _=>lifted os started H enc)
theorem proved:Rows.FnExactPipelineCellsCardSaid:=
 Claim7.holds_tied_plain_at .later [] [.data,.data,.data,.data,.sentinel,.sentinel,.pinned] true (true,"3b5b35188fb62e33bb25891fcf1f7dfb2ee7e326be01b17b8d4cd9f614d35da8") true
  holds (fun _ h=>by cases h) wfT (fun _ h=>by cases h) fnExactPipelineCells_row_tie rfl ⟨rfl,rfl⟩ Zsx rfl
  (fun f fn hf hfn=>by
   obtain rfl:f=3:=Zwf (ZuO.symm.trans hf) |>.symm
   obtain rfl:fn=Tryz.f3:=(Zwf (Tryz.func3.symm.trans hfn)).symm
   exact ⟨Zqz,fun j t ht=>by
    rw [Tryz.params3] at ht;have hm:t∈[24]:=by simpa using Array.mem_of_getElem? ht
    have hall:([24].all fun u=>!Tryz.prog.wantsStandIn u)=true:=Zqx;exact (show Tryz.prog.wantsStandIn t=false by simpa using List.all_eq_true.1 hall t hm)⟩)
  goes
end Go.Proofs.YtbkllghhcphkaaaGreatDoor.fnExactPipelineCells
