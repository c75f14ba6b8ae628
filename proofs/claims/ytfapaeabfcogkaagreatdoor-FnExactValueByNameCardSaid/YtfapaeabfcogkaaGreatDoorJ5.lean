import Derived.Test.YtfapaeabfcogkaaGreatDoorJ4
import Derived.Test.YtfapaeabfcogkaaGreatDoorPkC
import Derived.Test.YtfapaeabfcogkaaGreatDoorPkD
set_option linter.unusedSimpArgs false
set_option linter.unusedVariables false
namespace Go.Proofs.YtfapaeabfcogkaaGreatDoor
open Go.RowKit
theorem Zj.wd_ (x:Zj):wd x.d=6:=by simp [Zj.d,wd,wdL]
theorem Zj.wds (xs:List Zj):∀d∈xs.map Zj.d,wd d=6:=by
 intro d hd
 obtain ⟨x,_,rfl⟩:=List.mem_map.1 hd
 exact x.wd_
theorem Zj.open_ {w:World} {x:Zj} {cs:List Value} {F:List Nat} (h:Rep w x.d cs F):
  cs=[.int .i64 x.id,.int .i64 x.version,.int .i64 x.kind,.string x.name,.string x.code,.int .i64 x.n]∧F=[]∧I64 x.id∧I64 x.version∧I64 x.kind∧Fits x.name∧Fits x.code∧I64 x.n:=by
 simp only [Zj.d,XQ,Ve,Um,UW,Jm,UU,ZdU,List.length_map] at h
 obtain ⟨_,_,_,_,rfl,rfl,⟨rfl,rfl,i0⟩,⟨_,_,_,_,rfl,rfl,⟨rfl,rfl,i1⟩,⟨_,_,_,_,rfl,rfl,⟨rfl,rfl,i2⟩,⟨_,_,_,_,rfl,rfl,⟨rfl,rfl,i3⟩,⟨_,_,_,_,rfl,rfl,⟨rfl,rfl,i4⟩,⟨_,_,_,_,rfl,rfl,⟨rfl,rfl,i5⟩,⟨rfl,rfl⟩⟩⟩⟩⟩⟩⟩:=h
 exact ⟨rfl,by simp,i0,i1,i2,i3,i4,i5⟩
set_option maxHeartbeats 4000000 in
set_option maxRecDepth 100000 in
theorem Zg2 (w:World) (v:Value) (xs:List Zj) (F:List Nat) (k:Int) (h:XP w v (xs.map Zj.d) F) (hn:F.Nodup) (hp:∀q∈F,Plain w q) (h0:0≤k) (h1:k+((Zj.cnL xs:Nat):Int)≤1099511627776):
  Calls Tryz.prog 50 #[v,.int .i64 k] w fun e w'=>e= .returned (.int .i64 (k+((Zj.cnL xs:Nat):Int)))∧XP w' v ((Zj.ZS xs k).map Zj.d) F∧(∀q∈F,Plain w' q)∧Off F w w':=by
 obtain ⟨A,c,rfl,hc,hcm⟩:=h.form
 rw [List.length_map] at h hc ⊢
 have hP:=Lib.hid hp
 have H1:=Lib.hid h1
 clear hp h1
 go_enter Tryz.func50,Tryz.ntmps50
 go_wp2_with fail
 go_loopw [1,5] (fun kk i wr=>∃j:Nat,j≤xs.length∧i= .int .i64 j∧kk= .int .i64 (k+((Zj.cnL (xs.take j):Nat):Int))∧XP wr (.slice A xs.length c) ((Zj.ZS (xs.take j) k).map Zj.d++(xs.drop j).map Zj.d) F∧(∀q∈F,Plain wr q)∧Off F w wr) (fun _ i _=>xs.length-(intOf i).toNat)
 case atStart=>exact ⟨0,Nat.zero_le _,rfl,int_eq (by rw [List.take_zero,Zj.ZJ];simp [cnS]),by rw [List.take_zero,List.drop_zero,Zj.Zz];exact h,hP.out,Off.refl _ _⟩
 case round=>
  obtain ⟨j,hj,rfl,rfl,hs,hpr,hoff⟩:=hrel
  by_cases hlt:j<xs.length
  ·have ed:xs.drop j=xs[j]::xs.drop (j+1):=List.drop_eq_getElem_cons hlt
   rw [ed,List.map_cons] at hs
   obtain ⟨b,off,ys,Fi,rfl,hbF,hbFi,hni,hsub,hr,hlen,hcell,hback⟩:=hs.Ji (W:=6) (by
    intro y hy
    rcases List.mem_append.1 hy with hy| hy
    ·exact Zj.wds _ y hy
    ·rw [←List.map_cons] at hy;exact Zj.wds _ y hy) (by omega) hn
   have el:((Zj.ZS (xs.take j) k).map Zj.d).length=j:=by rw [List.length_map,Zj.Zz,ZG,List.length_take];omega
   rw [el] at hcell hback
   have e1:Zj.cnL (xs.take (j+1))=Zj.cnL (xs.take j)+Zj.cn xs[j]:=by rw [Zj.ZJ,Zj.ZJ];exact Yj xs j hlt
   have e2:Zj.cnL (xs.take (j+1))≤Zj.cnL xs:=by rw [Zj.ZJ,Zj.ZJ];exact YT xs (j+1)
   have e3:Zj.cn xs[j]=6:=Zj.Ka _
   obtain ⟨kk,hkk⟩:∃kk:Int,kk=k+((Zj.cnL (xs.take j):Nat):Int):=⟨_,rfl⟩
   rw [←hkk]
   have k0:0≤kk:=by omega
   have k1:kk+6≤1099511627776:=by have:=H1.out;rw [e3] at e1;omega
   have HE1:=Lib.hid e1
   have HE3:=Lib.hid e3
   have HK:=Lib.hid hkk
   have HB:=Lib.hid hback
   have HS:=Lib.hid hsub
   clear e1 e2 e3 hkk hback hsub ed el hs h hlen
   obtain ⟨rfl,hF,_,_,_,_,_,_⟩:=Zj.open_ hr
   clear hr
   subst hF
   have T0:Trk wr wr b (off+j*6) (off+j*6+6) _:=Trk.start (hpr b hbF) (fun q hq=>hpr q (HS.out q hq))
   have C0:=Lib.hid hcell
   clear hcell hni
   have c0_0:wr.cell? ⟨b,off+j*6,none⟩=_:=C0.out 0 _ rfl
   have c0_1:=C0.out 1 _ rfl
   have c0_2:=C0.out 2 _ rfl
   have c0_3:=C0.out 3 _ rfl
   have c0_4:=C0.out 4 _ rfl
   have c0_5:=C0.out 5 _ rfl
   have z0:=T0.here.free
   go_wp2_with fail
   refine (Xv _ _ (by omega)).mono ?_
   rintro e w1 ⟨rfl,hb1⟩
   have T1:=Trk.next (Trk.set (Trk.set (Trk.set T0 0 (by omega) _) 1 (by omega) _) 2 (by omega) _) hb1
   have C1:=Lib.hid (ZA.next (ZA.setAt (ZA.setAt (ZA.setAt C0.out 0 (by simp) _) 1 (by simp) _) 2 (by simp) _) hb1)
   clear hb1 c0_0 c0_1 c0_2 c0_3 c0_4 c0_5 z0
   have c1_0:w1.cell? ⟨b,off+j*6,none⟩=_:=C1.out 0 _ rfl
   have c1_1:=C1.out 1 _ rfl
   have c1_2:=C1.out 2 _ rfl
   have c1_3:=C1.out 3 _ rfl
   have c1_4:=C1.out 4 _ rfl
   have c1_5:=C1.out 5 _ rfl
   have z1:=T1.here.free
   go_wp2_with fail
   refine (Xv _ _ (by omega)).mono ?_
   rintro e w2 ⟨rfl,hb2⟩
   have T2:=Trk.next (Trk.set T1 3 (by omega) _) hb2
   have C2:=Lib.hid (ZA.next (ZA.setAt C1.out 3 (by simp) _) hb2)
   clear hb2 c1_0 c1_1 c1_2 c1_3 c1_4 c1_5 z1
   have c2_0:w2.cell? ⟨b,off+j*6,none⟩=_:=C2.out 0 _ rfl
   have c2_1:=C2.out 1 _ rfl
   have c2_2:=C2.out 2 _ rfl
   have c2_3:=C2.out 3 _ rfl
   have c2_4:=C2.out 4 _ rfl
   have c2_5:=C2.out 5 _ rfl
   have z2:=T2.here.free
   go_wp2_with fail
   go_roundw
   case rel=>
    refine ⟨j+1,by omega,by go_num,int_eq (by have h1:=HE1.out;have h2:=HE3.out;have h3:=HK.out;rw [h2] at h1;omega), ?_,Trk.ZdW (Trk.set (Trk.set T2 4 (by omega) _) 5 (by omega) _) hpr,hoff.trans (Off.sub (Trk.off (Trk.set (Trk.set T2 4 (by omega) _) 5 (by omega) _)) (fun q hq=>by rcases List.mem_cons.1 hq with rfl| hq;exact hbF;exact HS.out q hq))⟩
    have hm:Zj.ZS (xs.take (j+1)) k=Zj.ZS (xs.take j) k++[Zj.mark xs[j] kk]:=by
     rw [Zj.Zz,Zj.Zz,QQ xs j k hlt,HK.out,Zj.ZJ]
    rw [hm,List.map_append,List.append_assoc]
    refine HB.out _ (Zj.d (Zj.mark xs[j] kk)) _ (by simp) ?_ (ZA.setAt (ZA.setAt C2.out 4 (by simp) _) 5 (by simp) _) (Trk.set (Trk.set T2 4 (by omega) _) 5 (by omega) _)
    simp only [Zj.Vh,Zj.d]
    rw [XQ]
    exact Ks (ZR (XR (XS (by omega) (by omega)) (by first | rfl| omega)) (ZR (XR (XS (by omega) (by omega)) (by first | rfl| omega)) (ZR (XR (XS (by omega) (by omega)) (by first | rfl| omega)) (ZR (Zdk (by omega) (by first | rfl| omega)) (ZR (Zdk (by omega) (by first | rfl| omega)) (ZR (XR (XS (by omega) (by omega)) (by first | rfl| omega)) Zbx)))))) rfl (by first | rfl| simp only [List.nil_append,List.append_nil,List.append_assoc])
   case measure=>simp [intOf];omega
  ·have hj':j=xs.length:=by omega
   subst hj'
   rw [List.take_of_length_le (Nat.le_refl _),List.drop_of_length_le (Nat.le_refl _)] at hs
   rw [List.take_of_length_le (Nat.le_refl _)]
   have HQ:=Lib.hid hs
   clear hs
   go_wp2_with fail
   go_ret
   exact ⟨rfl,by have:=HQ.out;simpa using this,hpr,hoff⟩
end Go.Proofs.YtfapaeabfcogkaaGreatDoor
set_option linter.unusedSimpArgs false
set_option linter.unusedVariables false
namespace Go.Proofs.YtfapaeabfcogkaaGreatDoor
open Go.RowKit
theorem Ze.open_ {w:World} {x:Ze} {cs:List Value} {F:List Nat} (h:Rep w x.d cs F):
  ∃(A0:Option Addr) (c0:Nat) (F0:List Nat),cs=[.slice A0 x.cells.length c0]∧F=F0∧XP w (.slice A0 x.cells.length c0) (x.cells.map Zj.d) F0:=by
 simp only [Ze.d,XQ,Ve,Um,UW,Jm,UU,ZdU,List.length_map] at h
 obtain ⟨_,_,F0,_,rfl,rfl,⟨A0,c0,rfl,q0⟩,⟨rfl,rfl⟩⟩:=h
 exact ⟨A0,c0,F0,rfl,by simp,q0⟩
set_option maxHeartbeats 4000000 in
set_option maxRecDepth 100000 in
theorem Zee (w:World) (x:Ze) (cs:List Value) (F:List Nat) (k:Int) (h:Rep w x.d cs F) (hn:F.Nodup) (hp:∀q∈F,Plain w q) (h0:0≤k) (h1:k+((x.cnV:Nat):Int)≤1099511627776):
  Calls Tryz.prog 16 #[.agg cs.toArray,.int .i64 k] w fun e w'=>e= .returned (.int .i64 (k+((x.cnV:Nat):Int)))∧Rep w' (x.XF k).d cs F∧(∀q∈F,Plain w' q)∧Off F w w':=by
 have hF:=h.lt
 obtain ⟨A0,c0,F0,rfl,hFe,q0⟩:=Ze.open_ h
 have hFe:=hFe.symm
 subst hFe
 have h1':k+((Zj.cnL x.cells:Nat):Int)≤1099511627776:=h1
 have hn':(F0).Nodup:=by simpa only [List.append_assoc,List.append_nil] using hn
 have dn0:=hn'
 obtain ⟨w0,hw0⟩:∃w0,w0=w.alloc (.cells #[.slice A0 x.cells.length c0] 39):=⟨_,rfl⟩
 have B0:Below w.heap.size w w0:=hw0▸ZrM (Below.refl _ _) _
 have kc0:w0.cell? ⟨w.heap.size,0,none⟩=some (.slice A0 x.cells.length c0):=hw0▸QB w _ _ 0 _ rfl
 have HW:=Lib.hid hw0
 clear hw0
 have ns0:w.heap.size∉F0:=fun hm=>by have:=hF _ (show w.heap.size∈_ by (try simp only [List.mem_append] at hm ⊢);first | (simp [hm];done)| (rcases hm with h'| h'<;>simp [h'];done)| (rcases hm with h'| h'| h'<;>simp [h'];done));omega
 have Q0:=Lib.hid (q0.below B0)
 have P0:Hid (∀q∈F0,Plain w0 q):=Lib.hid (fun q hq=>(hp q (by (try simp only [List.mem_append] at hq ⊢);first | (simp [hq];done)| (rcases hq with h'| h'<;>simp [h'];done)| (rcases hq with h'| h'| h'<;>simp [h'];done))).next B0)
 clear q0
 have HOLD:=Lib.hid (And.intro hp (And.intro hF h))
 clear hp hF h
 have O0:Off (F0) w w0:=Off.Zel B0
 go_enter Tryz.func16,Tryz.ntmps16
 go_wp2_with fail
 rw [←HW.out]
 refine (Zg2 _ _ x.cells F0 _ Q0.out dn0 P0.out (by omega) (by omega)).mono ?_
 rintro e w1 ⟨rfl,q0,p0,hb1⟩
 have O1:Off (F0) w w1:=O0.trans (hb1.sub (fun q hq=>by (try simp only [List.mem_append] at hq ⊢);first | (simp [hq];done)| (rcases hq with h'| h'<;>simp [h'];done)| (rcases hq with h'| h'| h'<;>simp [h'];done)))
 replace kc0:=hb1.cell ns0 kc0
 replace Q0:=Lib.hid q0
 replace P0:=Lib.hid p0
 clear q0 p0
 go_wp2_with fail
 go_ret
 have e1:((x.cnV:Nat):Int)=((Zj.cnL x.cells:Nat):Int):=by unfold Ze.cnV;omega
 refine ⟨ZgS (by omega), ?_, ?_,O1⟩
 ·refine XQ.2 (Ks (ZR (Zk8 Q0.out) (Zbx (w:=_))) ?_ ?_)
  ·first | rfl| simp only [List.cons_append,List.nil_append,List.append_nil]
  ·first | rfl| simp only [List.nil_append,List.append_nil,List.append_assoc]
 ·intro q hq
  first
  | exact P0.out q hq
  | (simp only [List.mem_append] at hq;revert hq;simp only [or_imp];simp only [or_imp,and_imp];first | exact fun h=>P0.out q h| skip)
end Go.Proofs.YtfapaeabfcogkaaGreatDoor
set_option linter.unusedSimpArgs false
set_option linter.unusedVariables false
namespace Go.Proofs.YtfapaeabfcogkaaGreatDoor
open Go.RowKit
set_option maxHeartbeats 4000000 in
set_option maxRecDepth 100000 in
theorem UY (w:World) (v:Value) (xs:List ByteArray) (F:List Nat) (k:Int) (h:XP w v (xs.map D.str) F) (hn:F.Nodup) (hp:∀q∈F,Plain w q) (h0:0≤k) (h1:k+((Z7 xs:Nat):Int)≤1099511627776):
  Calls Tryz.prog 53 #[v,.int .i64 k] w fun e w'=>e= .returned (.int .i64 (k+((Z7 xs:Nat):Int)))∧XP w' v ((QA xs k).map D.str) F∧(∀q∈F,Plain w' q)∧Off F w w':=by
 obtain ⟨A,c,rfl,hc,hcm⟩:=h.form
 rw [List.length_map] at h hc ⊢
 have hP:=Lib.hid hp
 have H1:=Lib.hid h1
 clear hp h1
 go_enter Tryz.func53,Tryz.ntmps53
 go_wp2_with fail
 go_loopw [1,5] (fun kk i wr=>∃j:Nat,j≤xs.length∧i= .int .i64 j∧kk= .int .i64 (k+((Z7 (xs.take j):Nat):Int))∧XP wr (.slice A xs.length c) ((QA (xs.take j) k).map D.str++(xs.drop j).map D.str) F∧(∀q∈F,Plain wr q)∧Off F w wr) (fun _ i _=>xs.length-(intOf i).toNat)
 case atStart=>exact ⟨0,Nat.zero_le _,rfl,int_eq (by rw [List.take_zero,XI];simp [cnS]),by rw [List.take_zero,List.drop_zero,QZ];exact h,hP.out,Off.refl _ _⟩
 case round=>
  obtain ⟨j,hj,rfl,rfl,hs,hpr,hoff⟩:=hrel
  by_cases hlt:j<xs.length
  ·have ed:xs.drop j=xs[j]::xs.drop (j+1):=List.drop_eq_getElem_cons hlt
   rw [ed,List.map_cons] at hs
   obtain ⟨b,off,ys,Fi,rfl,hbF,hbFi,hni,hsub,hr,hlen,hcell,hback⟩:=hs.Ji (W:=1) (by
    intro y hy
    rcases List.mem_append.1 hy with hy| hy
    ·exact Zl3 _ y hy
    ·rw [←List.map_cons] at hy;exact Zl3 _ y hy) (by omega) hn
   have el:((QA (xs.take j) k).map D.str).length=j:=by rw [List.length_map,QZ,ZG,List.length_take];omega
   rw [el,Nat.mul_one] at hcell hback
   have e1:Z7 (xs.take (j+1))=Z7 (xs.take j)+ZgM xs[j]:=by rw [XI,XI];exact Yj xs j hlt
   have e2:Z7 (xs.take (j+1))≤Z7 xs:=by rw [XI,XI];exact YT xs (j+1)
   have e3:ZgM xs[j]=1:=rfl
   obtain ⟨kk,hkk⟩:∃kk:Int,kk=k+((Z7 (xs.take j):Nat):Int):=⟨_,rfl⟩
   rw [←hkk]
   have k0:0≤kk:=by omega
   have k1:kk+1≤1099511627776:=by have:=H1.out;rw [e3] at e1;omega
   have HE1:=Lib.hid e1
   have HE3:=Lib.hid e3
   have HK:=Lib.hid hkk
   have HB:=Lib.hid hback
   have HS:=Lib.hid hsub
   clear e1 e2 e3 hkk hback hsub ed el hs h hlen
   obtain ⟨rfl,hF,_⟩:=UU.1 hr
   clear hr
   subst hF
   have T0:Trk wr wr b (off+j) (off+j+1) _:=Trk.start (hpr b hbF) (fun q hq=>hpr q (HS.out q hq))
   have C0:=Lib.hid hcell
   clear hcell hni
   have c0_0:wr.cell? ⟨b,off+j,none⟩=_:=C0.out 0 _ rfl
   have z0:=T0.here.free
   go_wp2_with fail
   refine (Xv _ _ (by omega)).mono ?_
   rintro e w1 ⟨rfl,hb1⟩
   have T1:=Trk.next T0 hb1
   have C1:=Lib.hid (ZA.next C0.out hb1)
   clear hb1 c0_0 z0
   have c1_0:w1.cell? ⟨b,off+j,none⟩=_:=C1.out 0 _ rfl
   have z1:=T1.here.free
   go_wp2_with fail
   go_roundw
   case rel=>
    refine ⟨j+1,by omega,by go_num,int_eq (by have h1:=HE1.out;have h2:=HE3.out;have h3:=HK.out;rw [h2] at h1;omega), ?_,Trk.ZdW (Trk.set T1 0 (by omega) _) hpr,hoff.trans (Off.sub (Trk.off (Trk.set T1 0 (by omega) _)) (fun q hq=>by rcases List.mem_cons.1 hq with rfl| hq;exact hbF;exact HS.out q hq))⟩
    have hm:QA (xs.take (j+1)) k=QA (xs.take j) k++[ZeL xs[j] kk]:=by
     rw [QZ,QZ,QQ xs j k hlt,HK.out,XI]
    rw [hm,List.map_append,List.append_assoc]
    exact HB.out _ (D.str (ZeL xs[j] kk)) _ (by simp) (Zdk (by omega) (by first | rfl| omega)) (ZA.setAt C1.out 0 (by simp) _) (Trk.set T1 0 (by omega) _)
   case measure=>simp [intOf];omega
  ·have hj':j=xs.length:=by omega
   subst hj'
   rw [List.take_of_length_le (Nat.le_refl _),List.drop_of_length_le (Nat.le_refl _)] at hs
   rw [List.take_of_length_le (Nat.le_refl _)]
   have HQ:=Lib.hid hs
   clear hs
   go_wp2_with fail
   go_ret
   exact ⟨rfl,by have:=HQ.out;simpa using this,hpr,hoff⟩
set_option maxHeartbeats 4000000 in
set_option maxRecDepth 100000 in
theorem ZaM (w:World) (v:Value) (xs:List ByteArray) (F:List Nat) (k:Int) (h:XP w v ((QA xs k).map D.str) F) (h0:0≤k) (h1:k+((Z7 xs:Nat):Int)≤1099511627776):
  Calls Tryz.prog 56 #[v,.int .i64 k] w fun e w'=>e= .returned (.int .i64 (k+((Z7 xs:Nat):Int)))∧Below w.heap.size w w':=by
 obtain ⟨A,c,rfl,hc,hcm⟩:=h.form
 have hl:((QA xs k).map D.str).length=xs.length:=by rw [List.length_map,QZ,ZG]
 rw [hl] at h hc ⊢
 have H1:=Lib.hid h1
 have HS:=Lib.hid h
 clear h1 hl h
 go_enter Tryz.func56,Tryz.ntmps56
 go_wp2_with fail
 go_loopw [1,5] (fun kk i wr=>∃j:Nat,j≤xs.length∧i= .int .i64 j∧kk= .int .i64 (k+((Z7 (xs.take j):Nat):Int))∧Below w.heap.size w wr) (fun _ i _=>xs.length-(intOf i).toNat)
 case atStart=>exact ⟨0,Nat.zero_le _,rfl,int_eq (by rw [List.take_zero,XI];simp [cnS]),Below.refl _ _⟩
 case round=>
  obtain ⟨j,hj,rfl,rfl,hb⟩:=hrel
  by_cases hlt:j<xs.length
  ·have hs:=HS.out.below hb
   obtain ⟨b,off,ys,Fi,rfl,hbl,_,hr,hlen,_,hcell⟩:=hs.at_ (W:=1) (i:=j) (by
    rw [QZ];exact Zl3 _) (by rw [List.length_map,QZ,ZG];exact hlt)
   have e0:((QA xs k).map D.str)[j]'(by rw [List.length_map,QZ,ZG];exact hlt)=D.str (ZeL xs[j] (k+((Z7 (xs.take j):Nat):Int))):=by
    rw [List.getElem_map]
    congr 1
    exact (List.getElem_of_eq (QZ xs k) _).trans ((Ze1 xs j k hlt).trans (by rw [XI]))
   rw [e0] at hr
   have e1:Z7 (xs.take (j+1))=Z7 (xs.take j)+ZgM xs[j]:=by rw [XI,XI];exact Yj xs j hlt
   have e2:Z7 (xs.take (j+1))≤Z7 xs:=by rw [XI,XI];exact YT xs (j+1)
   have e3:ZgM xs[j]=1:=rfl
   obtain ⟨kk,hkk⟩:∃kk:Int,kk=k+((Z7 (xs.take j):Nat):Int):=⟨_,rfl⟩
   rw [←hkk] at hr ⊢
   have k0:0≤kk:=by omega
   have k1:kk+1≤1099511627776:=by have:=H1.out;rw [e3] at e1;omega
   have HE1:=Lib.hid e1
   have HE3:=Lib.hid e3
   have HK:=Lib.hid hkk
   clear e0 e1 e2 e3 hkk hs hlen
   obtain ⟨rfl,_,_⟩:=UU.1 hr
   clear hr
   have c0:wr.cell? ⟨b,off+j,none⟩=some (.string (Jc (kk))):=(by have h0:=hcell 0 (.string (Jc (kk))) rfl;rwa [Nat.mul_one] at h0)
   clear hcell
   have D0:=Below.refl wr.heap.size wr
   go_wp2_with fail
   have hx_:=@Zko wr
   refine Zbh (by kernel_rfl) (by kernel_rfl) ?_
   repeat (go_big_quiet_step ((go_at_call 112;exact Zms (Xv _ _ (by omega)))))
   refine wpQuiet_nil ?_
   rintro w' ⟨x_,rfl⟩
   obtain ⟨w1,hw1⟩:=x_
   clear hx_
   dsimp only
   have D1:=Zbg D0 hw1
   replace hbl:b<w1.heap.size:=Nat.lt_of_lt_of_le hbl hw1.size
   go_wp2_with fail
   go_roundw
   case rel=>exact ⟨j+1,by omega,by go_num,int_eq (by have h1:=HE1.out;have h2:=HE3.out;have h3:=HK.out;rw [h2] at h1;omega),Zbg hb D1⟩
   case measure=>simp [intOf];omega
  ·have hj':j=xs.length:=by omega
   subst hj'
   rw [List.take_of_length_le (Nat.le_refl _)]
   go_wp2_with fail
   go_ret
   exact ⟨rfl,hb⟩
end Go.Proofs.YtfapaeabfcogkaaGreatDoor
set_option linter.unusedSimpArgs false
set_option linter.unusedVariables false
namespace Go.Proofs.YtfapaeabfcogkaaGreatDoor
open Go.RowKit
set_option maxHeartbeats 4000000 in
set_option maxRecDepth 100000 in
theorem Zid (w:World) (v:Value) (xs:List Int) (F:List Nat) (k:Int) (h:XP w v (xs.map D.int) F) (hn:F.Nodup) (hp:∀q∈F,Plain w q) (h0:0≤k) (h1:k+((Qq xs:Nat):Int)≤1099511627776):
  Calls Tryz.prog 23 #[v,.int .i64 k] w fun e w'=>e= .returned (.int .i64 (k+((Qq xs:Nat):Int)))∧XP w' v ((XU xs k).map D.int) F∧(∀q∈F,Plain w' q)∧Off F w w':=by
 obtain ⟨A,c,rfl,hc,hcm⟩:=h.form
 rw [List.length_map] at h hc ⊢
 have hP:=Lib.hid hp
 have H1:=Lib.hid h1
 clear hp h1
 go_enter Tryz.func23,Tryz.ntmps23
 go_wp2_with fail
 go_loopw [1,5] (fun kk i wr=>∃j:Nat,j≤xs.length∧i= .int .i64 j∧kk= .int .i64 (k+((Qq (xs.take j):Nat):Int))∧XP wr (.slice A xs.length c) ((XU (xs.take j) k).map D.int++(xs.drop j).map D.int) F∧(∀q∈F,Plain wr q)∧Off F w wr) (fun _ i _=>xs.length-(intOf i).toNat)
 case atStart=>exact ⟨0,Nat.zero_le _,rfl,int_eq (by rw [List.take_zero,XK];simp [cnS]),by rw [List.take_zero,List.drop_zero,XG];exact h,hP.out,Off.refl _ _⟩
 case round=>
  obtain ⟨j,hj,rfl,rfl,hs,hpr,hoff⟩:=hrel
  by_cases hlt:j<xs.length
  ·have ed:xs.drop j=xs[j]::xs.drop (j+1):=List.drop_eq_getElem_cons hlt
   rw [ed,List.map_cons] at hs
   obtain ⟨b,off,ys,Fi,rfl,hbF,hbFi,hni,hsub,hr,hlen,hcell,hback⟩:=hs.Ji (W:=1) (by
    intro y hy
    rcases List.mem_append.1 hy with hy| hy
    ·exact ZmE _ y hy
    ·rw [←List.map_cons] at hy;exact ZmE _ y hy) (by omega) hn
   have el:((XU (xs.take j) k).map D.int).length=j:=by rw [List.length_map,XG,ZG,List.length_take];omega
   rw [el,Nat.mul_one] at hcell hback
   have e1:Qq (xs.take (j+1))=Qq (xs.take j)+Zg6 xs[j]:=by rw [XK,XK];exact Yj xs j hlt
   have e2:Qq (xs.take (j+1))≤Qq xs:=by rw [XK,XK];exact YT xs (j+1)
   have e3:Zg6 xs[j]=1:=rfl
   obtain ⟨kk,hkk⟩:∃kk:Int,kk=k+((Qq (xs.take j):Nat):Int):=⟨_,rfl⟩
   rw [←hkk]
   have k0:0≤kk:=by omega
   have k1:kk+1≤1099511627776:=by have:=H1.out;rw [e3] at e1;omega
   have HE1:=Lib.hid e1
   have HE3:=Lib.hid e3
   have HK:=Lib.hid hkk
   have HB:=Lib.hid hback
   have HS:=Lib.hid hsub
   clear e1 e2 e3 hkk hback hsub ed el hs h hlen
   obtain ⟨rfl,hF,_⟩:=UW.1 hr
   clear hr
   subst hF
   have T0:Trk wr wr b (off+j) (off+j+1) _:=Trk.start (hpr b hbF) (fun q hq=>hpr q (HS.out q hq))
   have C0:=Lib.hid hcell
   clear hcell hni
   have c0_0:wr.cell? ⟨b,off+j,none⟩=_:=C0.out 0 _ rfl
   have z0:=T0.here.free
   go_wp2_with fail
   go_roundw
   case rel=>
    refine ⟨j+1,by omega,by go_num,int_eq (by have h1:=HE1.out;have h2:=HE3.out;have h3:=HK.out;rw [h2] at h1;omega), ?_,Trk.ZdW (Trk.set T0 0 (by omega) _) hpr,hoff.trans (Off.sub (Trk.off (Trk.set T0 0 (by omega) _)) (fun q hq=>by rcases List.mem_cons.1 hq with rfl| hq;exact hbF;exact HS.out q hq))⟩
    have hm:XU (xs.take (j+1)) k=XU (xs.take j) k++[Ze9 xs[j] kk]:=by
     rw [XG,XG,QQ xs j k hlt,HK.out,XK]
    rw [hm,List.map_append,List.append_assoc]
    exact HB.out _ (D.int (Ze9 xs[j] kk)) _ (by simp) (XR (XS (by omega) (by omega)) (by first | rfl| omega)) (ZA.setAt C0.out 0 (by simp) _) (Trk.set T0 0 (by omega) _)
   case measure=>simp [intOf];omega
  ·have hj':j=xs.length:=by omega
   subst hj'
   rw [List.take_of_length_le (Nat.le_refl _),List.drop_of_length_le (Nat.le_refl _)] at hs
   rw [List.take_of_length_le (Nat.le_refl _)]
   have HQ:=Lib.hid hs
   clear hs
   go_wp2_with fail
   go_ret
   exact ⟨rfl,by have:=HQ.out;simpa using this,hpr,hoff⟩
set_option maxHeartbeats 4000000 in
set_option maxRecDepth 100000 in
theorem Zil (w:World) (v:Value) (xs:List Int) (F:List Nat) (k:Int) (h:XP w v ((XU xs k).map D.int) F) (h0:0≤k) (h1:k+((Qq xs:Nat):Int)≤1099511627776):
  Calls Tryz.prog 24 #[v,.int .i64 k] w fun e w'=>e= .returned (.int .i64 (k+((Qq xs:Nat):Int)))∧Below w.heap.size w w':=by
 obtain ⟨A,c,rfl,hc,hcm⟩:=h.form
 have hl:((XU xs k).map D.int).length=xs.length:=by rw [List.length_map,XG,ZG]
 rw [hl] at h hc ⊢
 have H1:=Lib.hid h1
 have HS:=Lib.hid h
 clear h1 hl h
 go_enter Tryz.func24,Tryz.ntmps24
 go_wp2_with fail
 go_loopw [1,5] (fun kk i wr=>∃j:Nat,j≤xs.length∧i= .int .i64 j∧kk= .int .i64 (k+((Qq (xs.take j):Nat):Int))∧Below w.heap.size w wr) (fun _ i _=>xs.length-(intOf i).toNat)
 case atStart=>exact ⟨0,Nat.zero_le _,rfl,int_eq (by rw [List.take_zero,XK];simp [cnS]),Below.refl _ _⟩
 case round=>
  obtain ⟨j,hj,rfl,rfl,hb⟩:=hrel
  by_cases hlt:j<xs.length
  ·have hs:=HS.out.below hb
   obtain ⟨b,off,ys,Fi,rfl,hbl,_,hr,hlen,_,hcell⟩:=hs.at_ (W:=1) (i:=j) (by
    rw [XG];exact ZmE _) (by rw [List.length_map,XG,ZG];exact hlt)
   have e0:((XU xs k).map D.int)[j]'(by rw [List.length_map,XG,ZG];exact hlt)=D.int (Ze9 xs[j] (k+((Qq (xs.take j):Nat):Int))):=by
    rw [List.getElem_map]
    congr 1
    exact (List.getElem_of_eq (XG xs k) _).trans ((Ze1 xs j k hlt).trans (by rw [XK]))
   rw [e0] at hr
   have e1:Qq (xs.take (j+1))=Qq (xs.take j)+Zg6 xs[j]:=by rw [XK,XK];exact Yj xs j hlt
   have e2:Qq (xs.take (j+1))≤Qq xs:=by rw [XK,XK];exact YT xs (j+1)
   have e3:Zg6 xs[j]=1:=rfl
   obtain ⟨kk,hkk⟩:∃kk:Int,kk=k+((Qq (xs.take j):Nat):Int):=⟨_,rfl⟩
   rw [←hkk] at hr ⊢
   have k0:0≤kk:=by omega
   have k1:kk+1≤1099511627776:=by have:=H1.out;rw [e3] at e1;omega
   have HE1:=Lib.hid e1
   have HE3:=Lib.hid e3
   have HK:=Lib.hid hkk
   clear e0 e1 e2 e3 hkk hs hlen
   obtain ⟨rfl,_,_⟩:=UW.1 hr
   clear hr
   have c0:wr.cell? ⟨b,off+j,none⟩=some (.int .i64 (kk)):=(by have h0:=hcell 0 (.int .i64 (kk)) rfl;rwa [Nat.mul_one] at h0)
   clear hcell
   have D0:=Below.refl wr.heap.size wr
   go_wp2_with fail
   go_roundw
   case rel=>exact ⟨j+1,by omega,by go_num,int_eq (by have h1:=HE1.out;have h2:=HE3.out;have h3:=HK.out;rw [h2] at h1;omega),Zbg hb D0⟩
   case measure=>simp [intOf];omega
  ·have hj':j=xs.length:=by omega
   subst hj'
   rw [List.take_of_length_le (Nat.le_refl _)]
   go_wp2_with fail
   go_ret
   exact ⟨rfl,hb⟩
end Go.Proofs.YtfapaeabfcogkaaGreatDoor
set_option linter.unusedSimpArgs false
set_option linter.unusedVariables false
namespace Go.Proofs.YtfapaeabfcogkaaGreatDoor
open Go.RowKit
theorem Zc.wd_ (x:Zc):wd x.d=2:=by simp [Zc.d,wd,wdL]
theorem Zc.wds (xs:List Zc):∀d∈xs.map Zc.d,wd d=2:=by
 intro d hd
 obtain ⟨x,_,rfl⟩:=List.mem_map.1 hd
 exact x.wd_
theorem Zc.open_ {w:World} {x:Zc} {cs:List Value} {F:List Nat} (h:Rep w x.d cs F):
  cs=[.int .i64 x.cell,.int .i64 x.row]∧F=[]∧I64 x.cell∧I64 x.row:=by
 simp only [Zc.d,XQ,Ve,Um,UW,Jm,UU,ZdU,List.length_map] at h
 obtain ⟨_,_,_,_,rfl,rfl,⟨rfl,rfl,i0⟩,⟨_,_,_,_,rfl,rfl,⟨rfl,rfl,i1⟩,⟨rfl,rfl⟩⟩⟩:=h
 exact ⟨rfl,by simp,i0,i1⟩
set_option maxHeartbeats 4000000 in
set_option maxRecDepth 100000 in
theorem Ze3 (w:World) (v:Value) (xs:List Zc) (F:List Nat) (k:Int) (h:XP w v (xs.map Zc.d) F) (hn:F.Nodup) (hp:∀q∈F,Plain w q) (h0:0≤k) (h1:k+((Zc.cnL xs:Nat):Int)≤1099511627776):
  Calls Tryz.prog 114 #[v,.int .i64 k] w fun e w'=>e= .returned (.int .i64 (k+((Zc.cnL xs:Nat):Int)))∧XP w' v ((Zc.ZS xs k).map Zc.d) F∧(∀q∈F,Plain w' q)∧Off F w w':=by
 obtain ⟨A,c,rfl,hc,hcm⟩:=h.form
 rw [List.length_map] at h hc ⊢
 have hP:=Lib.hid hp
 have H1:=Lib.hid h1
 clear hp h1
 go_enter Tryz.func114,Tryz.ntmps114
 go_wp2_with fail
 go_loopw [1,5] (fun kk i wr=>∃j:Nat,j≤xs.length∧i= .int .i64 j∧kk= .int .i64 (k+((Zc.cnL (xs.take j):Nat):Int))∧XP wr (.slice A xs.length c) ((Zc.ZS (xs.take j) k).map Zc.d++(xs.drop j).map Zc.d) F∧(∀q∈F,Plain wr q)∧Off F w wr) (fun _ i _=>xs.length-(intOf i).toNat)
 case atStart=>exact ⟨0,Nat.zero_le _,rfl,int_eq (by rw [List.take_zero,Zc.ZJ];simp [cnS]),by rw [List.take_zero,List.drop_zero,Zc.Zz];exact h,hP.out,Off.refl _ _⟩
 case round=>
  obtain ⟨j,hj,rfl,rfl,hs,hpr,hoff⟩:=hrel
  by_cases hlt:j<xs.length
  ·have ed:xs.drop j=xs[j]::xs.drop (j+1):=List.drop_eq_getElem_cons hlt
   rw [ed,List.map_cons] at hs
   obtain ⟨b,off,ys,Fi,rfl,hbF,hbFi,hni,hsub,hr,hlen,hcell,hback⟩:=hs.Ji (W:=2) (by
    intro y hy
    rcases List.mem_append.1 hy with hy| hy
    ·exact Zc.wds _ y hy
    ·rw [←List.map_cons] at hy;exact Zc.wds _ y hy) (by omega) hn
   have el:((Zc.ZS (xs.take j) k).map Zc.d).length=j:=by rw [List.length_map,Zc.Zz,ZG,List.length_take];omega
   rw [el] at hcell hback
   have e1:Zc.cnL (xs.take (j+1))=Zc.cnL (xs.take j)+Zc.cn xs[j]:=by rw [Zc.ZJ,Zc.ZJ];exact Yj xs j hlt
   have e2:Zc.cnL (xs.take (j+1))≤Zc.cnL xs:=by rw [Zc.ZJ,Zc.ZJ];exact YT xs (j+1)
   have e3:Zc.cn xs[j]=2:=Zc.Ka _
   obtain ⟨kk,hkk⟩:∃kk:Int,kk=k+((Zc.cnL (xs.take j):Nat):Int):=⟨_,rfl⟩
   rw [←hkk]
   have k0:0≤kk:=by omega
   have k1:kk+2≤1099511627776:=by have:=H1.out;rw [e3] at e1;omega
   have HE1:=Lib.hid e1
   have HE3:=Lib.hid e3
   have HK:=Lib.hid hkk
   have HB:=Lib.hid hback
   have HS:=Lib.hid hsub
   clear e1 e2 e3 hkk hback hsub ed el hs h hlen
   obtain ⟨rfl,hF,_,_⟩:=Zc.open_ hr
   clear hr
   subst hF
   have T0:Trk wr wr b (off+j*2) (off+j*2+2) _:=Trk.start (hpr b hbF) (fun q hq=>hpr q (HS.out q hq))
   have C0:=Lib.hid hcell
   clear hcell hni
   have c0_0:wr.cell? ⟨b,off+j*2,none⟩=_:=C0.out 0 _ rfl
   have c0_1:=C0.out 1 _ rfl
   have z0:=T0.here.free
   go_wp2_with fail
   go_roundw
   case rel=>
    refine ⟨j+1,by omega,by go_num,int_eq (by have h1:=HE1.out;have h2:=HE3.out;have h3:=HK.out;rw [h2] at h1;omega), ?_,Trk.ZdW (Trk.set (Trk.set T0 0 (by omega) _) 1 (by omega) _) hpr,hoff.trans (Off.sub (Trk.off (Trk.set (Trk.set T0 0 (by omega) _) 1 (by omega) _)) (fun q hq=>by rcases List.mem_cons.1 hq with rfl| hq;exact hbF;exact HS.out q hq))⟩
    have hm:Zc.ZS (xs.take (j+1)) k=Zc.ZS (xs.take j) k++[Zc.mark xs[j] kk]:=by
     rw [Zc.Zz,Zc.Zz,QQ xs j k hlt,HK.out,Zc.ZJ]
    rw [hm,List.map_append,List.append_assoc]
    refine HB.out _ (Zc.d (Zc.mark xs[j] kk)) _ (by simp) ?_ (ZA.setAt (ZA.setAt C0.out 0 (by simp) _) 1 (by simp) _) (Trk.set (Trk.set T0 0 (by omega) _) 1 (by omega) _)
    simp only [Zc.Vh,Zc.d]
    rw [XQ]
    exact Ks (ZR (XR (XS (by omega) (by omega)) (by first | rfl| omega)) (ZR (XR (XS (by omega) (by omega)) (by first | rfl| omega)) Zbx)) rfl (by first | rfl| simp only [List.nil_append,List.append_nil,List.append_assoc])
   case measure=>simp [intOf];omega
  ·have hj':j=xs.length:=by omega
   subst hj'
   rw [List.take_of_length_le (Nat.le_refl _),List.drop_of_length_le (Nat.le_refl _)] at hs
   rw [List.take_of_length_le (Nat.le_refl _)]
   have HQ:=Lib.hid hs
   clear hs
   go_wp2_with fail
   go_ret
   exact ⟨rfl,by have:=HQ.out;simpa using this,hpr,hoff⟩
set_option maxHeartbeats 4000000 in
set_option maxRecDepth 100000 in
theorem Zfi (w:World) (v:Value) (xs:List Zc) (F:List Nat) (k:Int) (h:XP w v ((Zc.ZS xs k).map Zc.d) F) (h0:0≤k) (h1:k+((Zc.cnL xs:Nat):Int)≤1099511627776):
  Calls Tryz.prog 115 #[v,.int .i64 k] w fun e w'=>e= .returned (.int .i64 (k+((Zc.cnL xs:Nat):Int)))∧Below w.heap.size w w':=by
 obtain ⟨A,c,rfl,hc,hcm⟩:=h.form
 have hl:((Zc.ZS xs k).map Zc.d).length=xs.length:=by rw [List.length_map,Zc.Zz,ZG]
 rw [hl] at h hc ⊢
 have H1:=Lib.hid h1
 have HS:=Lib.hid h
 clear h1 hl h
 go_enter Tryz.func115,Tryz.ntmps115
 go_wp2_with fail
 go_loopw [1,5] (fun kk i wr=>∃j:Nat,j≤xs.length∧i= .int .i64 j∧kk= .int .i64 (k+((Zc.cnL (xs.take j):Nat):Int))∧Below w.heap.size w wr) (fun _ i _=>xs.length-(intOf i).toNat)
 case atStart=>exact ⟨0,Nat.zero_le _,rfl,int_eq (by rw [List.take_zero,Zc.ZJ];simp [cnS]),Below.refl _ _⟩
 case round=>
  obtain ⟨j,hj,rfl,rfl,hb⟩:=hrel
  by_cases hlt:j<xs.length
  ·have hs:=HS.out.below hb
   obtain ⟨b,off,ys,Fi,rfl,hbl,_,hr,hlen,_,hcell⟩:=hs.at_ (W:=2) (i:=j) (by
    rw [Zc.Zz];exact Zc.wds _) (by rw [List.length_map,Zc.Zz,ZG];exact hlt)
   have e0:((Zc.ZS xs k).map Zc.d)[j]'(by rw [List.length_map,Zc.Zz,ZG];exact hlt)=Zc.d (Zc.mark xs[j] (k+((Zc.cnL (xs.take j):Nat):Int))):=by
    rw [List.getElem_map]
    congr 1
    exact (List.getElem_of_eq (Zc.Zz xs k) _).trans ((Ze1 xs j k hlt).trans (by rw [Zc.ZJ]))
   rw [e0] at hr
   have e1:Zc.cnL (xs.take (j+1))=Zc.cnL (xs.take j)+Zc.cn xs[j]:=by rw [Zc.ZJ,Zc.ZJ];exact Yj xs j hlt
   have e2:Zc.cnL (xs.take (j+1))≤Zc.cnL xs:=by rw [Zc.ZJ,Zc.ZJ];exact YT xs (j+1)
   have e3:Zc.cn xs[j]=2:=Zc.Ka _
   obtain ⟨kk,hkk⟩:∃kk:Int,kk=k+((Zc.cnL (xs.take j):Nat):Int):=⟨_,rfl⟩
   rw [←hkk] at hr ⊢
   have k0:0≤kk:=by omega
   have k1:kk+2≤1099511627776:=by have:=H1.out;rw [e3] at e1;omega
   have HE1:=Lib.hid e1
   have HE3:=Lib.hid e3
   have HK:=Lib.hid hkk
   clear e0 e1 e2 e3 hkk hs hlen
   rw [Zc.Vh] at hr
   obtain ⟨rfl,_,_,_⟩:=Zc.open_ hr
   clear hr
   have c0:wr.cell? ⟨b,off+j*2,none⟩=some (.int .i64 (kk)):=hcell 0 _ rfl
   have c1:wr.cell? ⟨b,off+j*2+1,none⟩=some (.int .i64 (kk+1)):=hcell 1 _ rfl
   clear hcell
   have D0:=Below.refl wr.heap.size wr
   go_wp2_with fail
   go_roundw
   case rel=>exact ⟨j+1,by omega,by go_num,int_eq (by have h1:=HE1.out;have h2:=HE3.out;have h3:=HK.out;rw [h2] at h1;omega),Zbg hb D0⟩
   case measure=>simp [intOf];omega
  ·have hj':j=xs.length:=by omega
   subst hj'
   rw [List.take_of_length_le (Nat.le_refl _)]
   go_wp2_with fail
   go_ret
   exact ⟨rfl,hb⟩
end Go.Proofs.YtfapaeabfcogkaaGreatDoor
set_option linter.unusedSimpArgs false
set_option linter.unusedVariables false
namespace Go.Proofs.YtfapaeabfcogkaaGreatDoor
open Go.RowKit
theorem Zq.wd_ (x:Zq):wd x.d=2:=by simp [Zq.d,wd,wdL]
theorem Zq.wds (xs:List Zq):∀d∈xs.map Zq.d,wd d=2:=by
 intro d hd
 obtain ⟨x,_,rfl⟩:=List.mem_map.1 hd
 exact x.wd_
theorem Zq.open_ {w:World} {x:Zq} {cs:List Value} {F:List Nat} (h:Rep w x.d cs F):
  ∃(A0:Option Addr) (c0:Nat) (F0:List Nat) (A1:Option Addr) (c1:Nat) (F1:List Nat),cs=[.slice A0 x.cells.length c0,.slice A1 x.from_.length c1]∧F=F0++F1∧XP w (.slice A0 x.cells.length c0) (x.cells.map D.int) F0∧XP w (.slice A1 x.from_.length c1) (x.from_.map Zc.d) F1:=by
 simp only [Zq.d,XQ,Ve,Um,UW,Jm,UU,ZdU,List.length_map] at h
 obtain ⟨_,_,F0,_,rfl,rfl,⟨A0,c0,rfl,q0⟩,⟨_,_,F1,_,rfl,rfl,⟨A1,c1,rfl,q1⟩,⟨rfl,rfl⟩⟩⟩:=h
 exact ⟨A0,c0,F0,A1,c1,F1,rfl,by simp,q0,q1⟩
set_option maxHeartbeats 4000000 in
set_option maxRecDepth 100000 in
theorem ZaE (w:World) (v:Value) (xs:List Zq) (F:List Nat) (k:Int) (h:XP w v (xs.map Zq.d) F) (hn:F.Nodup) (hp:∀q∈F,Plain w q) (h0:0≤k) (h1:k+((Zq.cnL xs:Nat):Int)≤1099511627776):
  Calls Tryz.prog 54 #[v,.int .i64 k] w fun e w'=>e= .returned (.int .i64 (k+((Zq.cnL xs:Nat):Int)))∧XP w' v ((Zq.ZS xs k).map Zq.d) F∧(∀q∈F,Plain w' q)∧Off F w w':=by
 obtain ⟨A,c,rfl,hc,hcm⟩:=h.form
 rw [List.length_map] at h hc ⊢
 have hP:=Lib.hid hp
 have H1:=Lib.hid h1
 clear hp h1
 go_enter Tryz.func54,Tryz.ntmps54
 go_wp2_with fail
 go_loopw [1,5] (fun kk i wr=>∃j:Nat,j≤xs.length∧i= .int .i64 j∧kk= .int .i64 (k+((Zq.cnL (xs.take j):Nat):Int))∧XP wr (.slice A xs.length c) ((Zq.ZS (xs.take j) k).map Zq.d++(xs.drop j).map Zq.d) F∧(∀q∈F,Plain wr q)∧Off F w wr) (fun _ i _=>xs.length-(intOf i).toNat)
 case atStart=>exact ⟨0,Nat.zero_le _,rfl,int_eq (by rw [List.take_zero,Zq.ZJ];simp [cnS]),by rw [List.take_zero,List.drop_zero,Zq.Zz];exact h,hP.out,Off.refl _ _⟩
 case round=>
  obtain ⟨j,hj,rfl,rfl,hs,hpr,hoff⟩:=hrel
  by_cases hlt:j<xs.length
  ·have ed:xs.drop j=xs[j]::xs.drop (j+1):=List.drop_eq_getElem_cons hlt
   rw [ed,List.map_cons] at hs
   obtain ⟨b,off,ys,Fi,rfl,hbF,hbFi,hni,hsub,hr,hlen,hcell,hback⟩:=hs.Ji (W:=2) (by
    intro y hy
    rcases List.mem_append.1 hy with hy| hy
    ·exact Zq.wds _ y hy
    ·rw [←List.map_cons] at hy;exact Zq.wds _ y hy) (by omega) hn
   have el:((Zq.ZS (xs.take j) k).map Zq.d).length=j:=by rw [List.length_map,Zq.Zz,ZG,List.length_take];omega
   rw [el] at hcell hback
   have e1:Zq.cnL (xs.take (j+1))=Zq.cnL (xs.take j)+Zq.cn xs[j]:=by rw [Zq.ZJ,Zq.ZJ];exact Yj xs j hlt
   have e2:Zq.cnL (xs.take (j+1))≤Zq.cnL xs:=by rw [Zq.ZJ,Zq.ZJ];exact YT xs (j+1)
   have e3:Zq.cn xs[j]=Qq xs[j].cells+Zc.cnL xs[j].from_:=Zq.Ka _
   obtain ⟨kk,hkk⟩:∃kk:Int,kk=k+((Zq.cnL (xs.take j):Nat):Int):=⟨_,rfl⟩
   rw [←hkk]
   have k0:0≤kk:=by omega
   have k1:kk+((Qq xs[j].cells:Nat):Int)+((Zc.cnL xs[j].from_:Nat):Int)≤1099511627776:=by have:=H1.out;rw [e3] at e1;omega
   have HE1:=Lib.hid e1
   have HE3:=Lib.hid e3
   have HK:=Lib.hid hkk
   have HB:=Lib.hid hback
   have HS:=Lib.hid hsub
   clear e1 e2 e3 hkk hback hsub ed el hs h hlen
   obtain ⟨A0,c0,F0,A1,c1,F1,rfl,hF,q0,q1⟩:=Zq.open_ hr
   clear hr
   have hF:=hF.symm
   subst hF
   obtain ⟨da0,db0,dn0,dr0⟩:=V2 hni
   have dn1:=dr0
   have ns0:b∉F0:=fun hm=>hbFi (by simp [hm])
   have ns1:b∉F1:=fun hm=>hbFi (by simp [hm])
   have T0:Trk wr wr b (off+j*2) (off+j*2+2) _:=Trk.start (hpr b hbF) (fun q hq=>hpr q (HS.out q hq))
   have C0:=Lib.hid hcell
   clear hcell hni
   have Q0_0:=Lib.hid q0
   have P0_0:Hid (∀q∈F0,Plain wr q):=Lib.hid (fun q hq=>hpr q (HS.out q (by simp [hq])))
   clear q0
   have Q1_0:=Lib.hid q1
   have P1_0:Hid (∀q∈F1,Plain wr q):=Lib.hid (fun q hq=>hpr q (HS.out q (by simp [hq])))
   clear q1
   have c0_0:wr.cell? ⟨b,off+j*2,none⟩=_:=C0.out 0 _ rfl
   have c0_1:=C0.out 1 _ rfl
   have z0:=T0.here.free
   go_wp2_with fail
   refine (Zid _ _ xs[j].cells F0 _ Q0_0.out dn0 (fun q hq=>P0_0.out q hq) (by omega) (by omega)).mono ?_
   rintro e w1 ⟨rfl,q0,p0,hb1⟩
   have T1:=Trk.step T0 hb1 (fun q hq=>by simp [hq]) ns0 p0
   have C1:=Lib.hid (ZA.step C0.out hb1 ns0)
   have Q0_1:=Lib.hid q0
   have P0_1:=Lib.hid p0
   clear q0 p0
   have dq:∀x∈F1,x∉F0:=fun x hx hm=>db0 x (by simp [hx]) hm
   have Q1_1:=Lib.hid (Off.rep hb1 Q1_0.out dq)
   have P1_1:Hid (∀q∈F1,Plain w1 q):=Lib.hid (fun x hx=>Off.plain hb1 ((fun q hq=>P1_0.out q hq) x hx) (dq x hx))
   clear dq
   clear hb1 c0_0 c0_1 z0
   have c1_0:w1.cell? ⟨b,off+j*2,none⟩=_:=C1.out 0 _ rfl
   have c1_1:=C1.out 1 _ rfl
   have z1:=T1.here.free
   go_wp2_with fail
   refine (Ze3 _ _ xs[j].from_ F1 _ Q1_1.out dn1 (fun q hq=>P1_1.out q hq) (by omega) (by omega)).mono ?_
   rintro e w2 ⟨rfl,q1,p1,hb2⟩
   have T2:=Trk.step T1 hb2 (fun q hq=>by simp [hq]) ns1 p1
   have C2:=Lib.hid (ZA.step C1.out hb2 ns1)
   have dq:∀x∈F0,x∉F1:=fun x hx hm=>da0 x hx (by simp [hm])
   have Q0_2:=Lib.hid (Off.rep hb2 Q0_1.out dq)
   have P0_2:Hid (∀q∈F0,Plain w2 q):=Lib.hid (fun x hx=>Off.plain hb2 ((fun q hq=>P0_1.out q hq) x hx) (dq x hx))
   clear dq
   have Q1_2:=Lib.hid q1
   have P1_2:=Lib.hid p1
   clear q1 p1
   clear hb2 c1_0 c1_1 z1
   have c2_0:w2.cell? ⟨b,off+j*2,none⟩=_:=C2.out 0 _ rfl
   have c2_1:=C2.out 1 _ rfl
   have z2:=T2.here.free
   go_wp2_with fail
   go_roundw
   case rel=>
    refine ⟨j+1,by omega,by go_num,int_eq (by have h1:=HE1.out;have h2:=HE3.out;have h3:=HK.out;rw [h2] at h1;omega), ?_,Trk.ZdW T2 hpr,hoff.trans (Off.sub (Trk.off T2) (fun q hq=>by rcases List.mem_cons.1 hq with rfl| hq;exact hbF;exact HS.out q hq))⟩
    have hm:Zq.ZS (xs.take (j+1)) k=Zq.ZS (xs.take j) k++[Zq.mark xs[j] kk]:=by
     rw [Zq.Zz,Zq.Zz,QQ xs j k hlt,HK.out,Zq.ZJ]
    rw [hm,List.map_append,List.append_assoc]
    refine HB.out _ (Zq.d (Zq.mark xs[j] kk)) _ (by simp) ?_ C2.out T2
    simp only [Zq.Vh,Zq.d]
    rw [XQ]
    exact Ks (ZR (ZcM Q0_2.out rfl) (ZR (ZcM Q1_2.out rfl) Zbx)) rfl (by first | rfl| simp only [List.nil_append,List.append_nil,List.append_assoc])
   case measure=>simp [intOf];omega
  ·have hj':j=xs.length:=by omega
   subst hj'
   rw [List.take_of_length_le (Nat.le_refl _),List.drop_of_length_le (Nat.le_refl _)] at hs
   rw [List.take_of_length_le (Nat.le_refl _)]
   have HQ:=Lib.hid hs
   clear hs
   go_wp2_with fail
   go_ret
   exact ⟨rfl,by have:=HQ.out;simpa using this,hpr,hoff⟩
set_option maxHeartbeats 4000000 in
set_option maxRecDepth 100000 in
theorem Zd2 (w:World) (v:Value) (xs:List Zq) (F:List Nat) (k:Int) (h:XP w v ((Zq.ZS xs k).map Zq.d) F) (h0:0≤k) (h1:k+((Zq.cnL xs:Nat):Int)≤1099511627776):
  Calls Tryz.prog 57 #[v,.int .i64 k] w fun e w'=>e= .returned (.int .i64 (k+((Zq.cnL xs:Nat):Int)))∧Below w.heap.size w w':=by
 obtain ⟨A,c,rfl,hc,hcm⟩:=h.form
 have hl:((Zq.ZS xs k).map Zq.d).length=xs.length:=by rw [List.length_map,Zq.Zz,ZG]
 rw [hl] at h hc ⊢
 have H1:=Lib.hid h1
 have HS:=Lib.hid h
 clear h1 hl h
 go_enter Tryz.func57,Tryz.ntmps57
 go_wp2_with fail
 go_loopw [1,5] (fun kk i wr=>∃j:Nat,j≤xs.length∧i= .int .i64 j∧kk= .int .i64 (k+((Zq.cnL (xs.take j):Nat):Int))∧Below w.heap.size w wr) (fun _ i _=>xs.length-(intOf i).toNat)
 case atStart=>exact ⟨0,Nat.zero_le _,rfl,int_eq (by rw [List.take_zero,Zq.ZJ];simp [cnS]),Below.refl _ _⟩
 case round=>
  obtain ⟨j,hj,rfl,rfl,hb⟩:=hrel
  by_cases hlt:j<xs.length
  ·have hs:=HS.out.below hb
   obtain ⟨b,off,ys,Fi,rfl,hbl,_,hr,hlen,_,hcell⟩:=hs.at_ (W:=2) (i:=j) (by
    rw [Zq.Zz];exact Zq.wds _) (by rw [List.length_map,Zq.Zz,ZG];exact hlt)
   have e0:((Zq.ZS xs k).map Zq.d)[j]'(by rw [List.length_map,Zq.Zz,ZG];exact hlt)=Zq.d (Zq.mark xs[j] (k+((Zq.cnL (xs.take j):Nat):Int))):=by
    rw [List.getElem_map]
    congr 1
    exact (List.getElem_of_eq (Zq.Zz xs k) _).trans ((Ze1 xs j k hlt).trans (by rw [Zq.ZJ]))
   rw [e0] at hr
   have e1:Zq.cnL (xs.take (j+1))=Zq.cnL (xs.take j)+Zq.cn xs[j]:=by rw [Zq.ZJ,Zq.ZJ];exact Yj xs j hlt
   have e2:Zq.cnL (xs.take (j+1))≤Zq.cnL xs:=by rw [Zq.ZJ,Zq.ZJ];exact YT xs (j+1)
   have e3:Zq.cn xs[j]=Qq xs[j].cells+Zc.cnL xs[j].from_:=Zq.Ka _
   obtain ⟨kk,hkk⟩:∃kk:Int,kk=k+((Zq.cnL (xs.take j):Nat):Int):=⟨_,rfl⟩
   rw [←hkk] at hr ⊢
   have k0:0≤kk:=by omega
   have k1:kk+((Qq xs[j].cells:Nat):Int)+((Zc.cnL xs[j].from_:Nat):Int)≤1099511627776:=by have:=H1.out;rw [e3] at e1;omega
   have HE1:=Lib.hid e1
   have HE3:=Lib.hid e3
   have HK:=Lib.hid hkk
   clear e0 e1 e2 e3 hkk hs hlen
   rw [Zq.Vh] at hr
   obtain ⟨A0,c0,F0,A1,c1,F1,rfl,_,q0,q1⟩:=Zq.open_ hr
   clear hr
   have Q0:Hid (XP wr (.slice A0 (XU xs[j].cells (kk)).length c0) ((XU xs[j].cells (kk)).map D.int) F0):=Lib.hid q0
   clear q0
   have Q1:Hid (XP wr (.slice A1 (Zc.ZS xs[j].from_ (kk+((Qq xs[j].cells:Nat):Int))).length c1) ((Zc.ZS xs[j].from_ (kk+((Qq xs[j].cells:Nat):Int))).map Zc.d) F1):=Lib.hid q1
   clear q1
   have c0:wr.cell? ⟨b,off+j*2,none⟩=some (.slice A0 (XU xs[j].cells (kk)).length c0):=hcell 0 _ rfl
   have c1:wr.cell? ⟨b,off+j*2+1,none⟩=some (.slice A1 (Zc.ZS xs[j].from_ (kk+((Qq xs[j].cells:Nat):Int))).length c1):=hcell 1 _ rfl
   clear hcell
   have D0:=Below.refl wr.heap.size wr
   go_wp2_with fail
   refine (Zil _ _ xs[j].cells F0 _ (Q0.out.below D0) (by omega) (by omega)).mono ?_
   rintro e w1 ⟨rfl,hw1⟩
   have D1:=Zbg D0 hw1
   replace hbl:b<w1.heap.size:=Nat.lt_of_lt_of_le hbl hw1.size
   have hd1:decide (kk+((Qq xs[j].cells:Nat):Int)<0)=false:=by simp;omega
   replace c1:=ZP hw1 c1
   go_wp2_with fail
   refine (Zfi _ _ xs[j].from_ F1 _ (Q1.out.below D1) (by omega) (by omega)).mono ?_
   rintro e w2 ⟨rfl,hw2⟩
   have D2:=Zbg D1 hw2
   replace hbl:b<w2.heap.size:=Nat.lt_of_lt_of_le hbl hw2.size
   have hd2:decide (kk+((Qq xs[j].cells:Nat):Int)+((Zc.cnL xs[j].from_:Nat):Int)<0)=false:=by simp;omega
   go_wp2_with fail
   go_roundw
   case rel=>exact ⟨j+1,by omega,by go_num,int_eq (by have h1:=HE1.out;have h2:=HE3.out;have h3:=HK.out;rw [h2] at h1;omega),Zbg hb D2⟩
   case measure=>simp [intOf];omega
  ·have hj':j=xs.length:=by omega
   subst hj'
   rw [List.take_of_length_le (Nat.le_refl _)]
   go_wp2_with fail
   go_ret
   exact ⟨rfl,hb⟩
end Go.Proofs.YtfapaeabfcogkaaGreatDoor
set_option linter.unusedSimpArgs false
set_option linter.unusedVariables false
namespace Go.Proofs.YtfapaeabfcogkaaGreatDoor
open Go.RowKit
theorem Za.wd_ (x:Za):wd x.d=7:=by simp [Za.Zng,wd,wdL]
theorem Za.wds (xs:List Za):∀d∈xs.map Za.d,wd d=7:=by
 intro d hd
 obtain ⟨x,_,rfl⟩:=List.mem_map.1 hd
 exact x.wd_
theorem Za.open_ {w:World} {x:Za} {cs:List Value} {F:List Nat} (h:Rep w x.d cs F):
  ∃(A4:Option Addr) (c4:Nat) (F4:List Nat) (A5:Option Addr) (c5:Nat) (F5:List Nat) (A6:Option Addr) (c6:Nat) (F6:List Nat),cs=[.int .i64 x.kind,.int .i64 x.n,.int .i64 x.step,.string x.text,.slice A4 x.list.length c4,.slice A5 x.columns.length c5,.slice A6 x.rows.length c6]∧F=F4++(F5++F6)∧I64 x.kind∧I64 x.n∧I64 x.step∧Fits x.text∧XP w (.slice A4 x.list.length c4) (x.list.map Za.d) F4∧XP w (.slice A5 x.columns.length c5) (x.columns.map D.str) F5∧XP w (.slice A6 x.rows.length c6) (x.rows.map Zq.d) F6:=by
 simp only [Za.Zng,XQ,Ve,Um,UW,Jm,UU,ZdU,List.length_map] at h
 obtain ⟨_,_,_,_,rfl,rfl,⟨rfl,rfl,i0⟩,⟨_,_,_,_,rfl,rfl,⟨rfl,rfl,i1⟩,⟨_,_,_,_,rfl,rfl,⟨rfl,rfl,i2⟩,⟨_,_,_,_,rfl,rfl,⟨rfl,rfl,i3⟩,⟨_,_,F4,_,rfl,rfl,⟨A4,c4,rfl,q4⟩,⟨_,_,F5,_,rfl,rfl,⟨A5,c5,rfl,q5⟩,⟨_,_,F6,_,rfl,rfl,⟨A6,c6,rfl,q6⟩,⟨rfl,rfl⟩⟩⟩⟩⟩⟩⟩⟩:=h
 exact ⟨A4,c4,F4,A5,c5,F5,A6,c6,F6,rfl,by simp,i0,i1,i2,i3,q4,q5,q6⟩
set_option maxHeartbeats 4000000 in
set_option maxRecDepth 100000 in
theorem Ze2 (N0:Nat) (ihS:∀(w:World) (v:Value) (xs:List Za) (F:List Nat) (k:Int) (hN:nd (.sl (xs.map Za.d))<N0) (h:XP w v (xs.map Za.d) F) (hn:F.Nodup) (hp:∀q∈F,Plain w q) (h0:0≤k) (h1:k+((Za.cnL xs:Nat):Int)≤1099511627776),Calls Tryz.prog 51 #[v,.int .i64 k] w fun e w'=>e= .returned (.int .i64 (k+((Za.cnL xs:Nat):Int)))∧XP w' v ((Za.ZS xs k).map Za.d) F∧(∀q∈F,Plain w' q)∧Off F w w') (w:World) (v:Value) (xs:List Za) (F:List Nat) (k:Int) (hN:nd (.sl (xs.map Za.d))≤N0) (h:XP w v (xs.map Za.d) F) (hn:F.Nodup) (hp:∀q∈F,Plain w q) (h0:0≤k) (h1:k+((Za.cnL xs:Nat):Int)≤1099511627776):
  Calls Tryz.prog 51 #[v,.int .i64 k] w fun e w'=>e= .returned (.int .i64 (k+((Za.cnL xs:Nat):Int)))∧XP w' v ((Za.ZS xs k).map Za.d) F∧(∀q∈F,Plain w' q)∧Off F w w':=by
 have HI:=Lib.hid ihS
 clear ihS
 have HN:=Lib.hid hN
 clear hN
 obtain ⟨A,c,rfl,hc,hcm⟩:=h.form
 rw [List.length_map] at h hc ⊢
 have hP:=Lib.hid hp
 have H1:=Lib.hid h1
 clear hp h1
 go_enter Tryz.func51,Tryz.ntmps51
 go_wp2_with fail
 go_loopw [1,5] (fun kk i wr=>∃j:Nat,j≤xs.length∧i= .int .i64 j∧kk= .int .i64 (k+((Za.cnL (xs.take j):Nat):Int))∧XP wr (.slice A xs.length c) ((Za.ZS (xs.take j) k).map Za.d++(xs.drop j).map Za.d) F∧(∀q∈F,Plain wr q)∧Off F w wr) (fun _ i _=>xs.length-(intOf i).toNat)
 case atStart=>exact ⟨0,Nat.zero_le _,rfl,int_eq (by rw [List.take_zero,Za.ZJ];simp [cnS]),by rw [List.take_zero,List.drop_zero,Za.Zz];exact h,hP.out,Off.refl _ _⟩
 case round=>
  obtain ⟨j,hj,rfl,rfl,hs,hpr,hoff⟩:=hrel
  by_cases hlt:j<xs.length
  ·have ed:xs.drop j=xs[j]::xs.drop (j+1):=List.drop_eq_getElem_cons hlt
   rw [ed,List.map_cons] at hs
   obtain ⟨b,off,ys,Fi,rfl,hbF,hbFi,hni,hsub,hr,hlen,hcell,hback⟩:=hs.Ji (W:=7) (by
    intro y hy
    rcases List.mem_append.1 hy with hy| hy
    ·exact Za.wds _ y hy
    ·rw [←List.map_cons] at hy;exact Za.wds _ y hy) (by omega) hn
   have el:((Za.ZS (xs.take j) k).map Za.d).length=j:=by rw [List.length_map,Za.Zz,ZG,List.length_take];omega
   rw [el] at hcell hback
   have e1:Za.cnL (xs.take (j+1))=Za.cnL (xs.take j)+Za.cn xs[j]:=by rw [Za.ZJ,Za.ZJ];exact Yj xs j hlt
   have e2:Za.cnL (xs.take (j+1))≤Za.cnL xs:=by rw [Za.ZJ,Za.ZJ];exact YT xs (j+1)
   have e3:Za.cn xs[j]=4+Za.cnL xs[j].list+Z7 xs[j].columns+Zq.cnL xs[j].rows:=Za.Ka _
   obtain ⟨kk,hkk⟩:∃kk:Int,kk=k+((Za.cnL (xs.take j):Nat):Int):=⟨_,rfl⟩
   rw [←hkk]
   have k0:0≤kk:=by omega
   have k1:kk+4+((Za.cnL xs[j].list:Nat):Int)+((Z7 xs[j].columns:Nat):Int)+((Zq.cnL xs[j].rows:Nat):Int)≤1099511627776:=by have:=H1.out;rw [e3] at e1;omega
   have HE1:=Lib.hid e1
   have HE3:=Lib.hid e3
   have HK:=Lib.hid hkk
   have HB:=Lib.hid hback
   have HS:=Lib.hid hsub
   clear e1 e2 e3 hkk hback hsub ed el hs h hlen
   obtain ⟨A4,c4,F4,A5,c5,F5,A6,c6,F6,rfl,hF,_,_,_,_,q4,q5,q6⟩:=Za.open_ hr
   clear hr
   have hlt':nd (.sl (xs[j].list.map Za.d))<N0:=by
    have h1:=HN.out
    have h2:=Zjh (xs.map Za.d) j (by simpa using hlt)
    simp only [nd,List.getElem_map] at h1 h2
    rw [Za.Zng] at h2
    simp only [nd,ndL] at h2 ⊢
    omega
   have hF:=hF.symm
   subst hF
   obtain ⟨da4,db4,dn4,dr4⟩:=V2 hni
   obtain ⟨da5,db5,dn5,dr5⟩:=V2 dr4
   have dn6:=dr5
   have ns4:b∉F4:=fun hm=>hbFi (by simp [hm])
   have ns5:b∉F5:=fun hm=>hbFi (by simp [hm])
   have ns6:b∉F6:=fun hm=>hbFi (by simp [hm])
   have T0:Trk wr wr b (off+j*7) (off+j*7+7) _:=Trk.start (hpr b hbF) (fun q hq=>hpr q (HS.out q hq))
   have C0:=Lib.hid hcell
   clear hcell hni
   have Q4_0:=Lib.hid q4
   have P4_0:Hid (∀q∈F4,Plain wr q):=Lib.hid (fun q hq=>hpr q (HS.out q (by simp [hq])))
   clear q4
   have Q5_0:=Lib.hid q5
   have P5_0:Hid (∀q∈F5,Plain wr q):=Lib.hid (fun q hq=>hpr q (HS.out q (by simp [hq])))
   clear q5
   have Q6_0:=Lib.hid q6
   have P6_0:Hid (∀q∈F6,Plain wr q):=Lib.hid (fun q hq=>hpr q (HS.out q (by simp [hq])))
   clear q6
   have c0_0:wr.cell? ⟨b,off+j*7,none⟩=_:=C0.out 0 _ rfl
   have c0_1:=C0.out 1 _ rfl
   have c0_2:=C0.out 2 _ rfl
   have c0_3:=C0.out 3 _ rfl
   have c0_4:=C0.out 4 _ rfl
   have c0_5:=C0.out 5 _ rfl
   have c0_6:=C0.out 6 _ rfl
   have z0:=T0.here.free
   go_wp2_with fail
   refine (Xv _ _ (by omega)).mono ?_
   rintro e w1 ⟨rfl,hb1⟩
   have T1:=Trk.next (Trk.set (Trk.set (Trk.set T0 0 (by omega) _) 1 (by omega) _) 2 (by omega) _) hb1
   have C1:=Lib.hid (ZA.next (ZA.setAt (ZA.setAt (ZA.setAt C0.out 0 (by simp) _) 1 (by simp) _) 2 (by simp) _) hb1)
   have Q4_1:=Lib.hid (Rep.below (Rep.set (Rep.set (Rep.set Q4_0.out ns4 _) ns4 _) ns4 _) hb1)
   have P4_1:=Lib.hid (fun q hq=>Plain.next ((fun q hq=>Plain.set (Plain.set (Plain.set (P4_0.out q hq) _ _) _ _) _ _) q hq) hb1)
   have Q5_1:=Lib.hid (Rep.below (Rep.set (Rep.set (Rep.set Q5_0.out ns5 _) ns5 _) ns5 _) hb1)
   have P5_1:=Lib.hid (fun q hq=>Plain.next ((fun q hq=>Plain.set (Plain.set (Plain.set (P5_0.out q hq) _ _) _ _) _ _) q hq) hb1)
   have Q6_1:=Lib.hid (Rep.below (Rep.set (Rep.set (Rep.set Q6_0.out ns6 _) ns6 _) ns6 _) hb1)
   have P6_1:=Lib.hid (fun q hq=>Plain.next ((fun q hq=>Plain.set (Plain.set (Plain.set (P6_0.out q hq) _ _) _ _) _ _) q hq) hb1)
   clear hb1 c0_0 c0_1 c0_2 c0_3 c0_4 c0_5 c0_6 z0
   have c1_0:w1.cell? ⟨b,off+j*7,none⟩=_:=C1.out 0 _ rfl
   have c1_1:=C1.out 1 _ rfl
   have c1_2:=C1.out 2 _ rfl
   have c1_3:=C1.out 3 _ rfl
   have c1_4:=C1.out 4 _ rfl
   have c1_5:=C1.out 5 _ rfl
   have c1_6:=C1.out 6 _ rfl
   have z1:=T1.here.free
   go_wp2_with fail
   refine (HI.out _ _ xs[j].list F4 _ hlt' (Rep.set Q4_1.out ns4 _) dn4 (fun q hq=>Plain.set (P4_1.out q hq) _ _) (by omega) (by omega)).mono ?_
   rintro e w2 ⟨rfl,q4,p4,hb2⟩
   have T2:=Trk.step (Trk.set T1 3 (by omega) _) hb2 (fun q hq=>by simp [hq]) ns4 p4
   have C2:=Lib.hid (ZA.step (ZA.setAt C1.out 3 (by simp) _) hb2 ns4)
   have Q4_2:=Lib.hid q4
   have P4_2:=Lib.hid p4
   clear q4 p4
   have dq:∀x∈F5,x∉F4:=fun x hx hm=>db4 x (by simp [hx]) hm
   have Q5_2:=Lib.hid (Off.rep hb2 (Rep.set Q5_1.out ns5 _) dq)
   have P5_2:Hid (∀q∈F5,Plain w2 q):=Lib.hid (fun x hx=>Off.plain hb2 ((fun q hq=>Plain.set (P5_1.out q hq) _ _) x hx) (dq x hx))
   clear dq
   have dq:∀x∈F6,x∉F4:=fun x hx hm=>db4 x (by simp [hx]) hm
   have Q6_2:=Lib.hid (Off.rep hb2 (Rep.set Q6_1.out ns6 _) dq)
   have P6_2:Hid (∀q∈F6,Plain w2 q):=Lib.hid (fun x hx=>Off.plain hb2 ((fun q hq=>Plain.set (P6_1.out q hq) _ _) x hx) (dq x hx))
   clear dq
   clear hb2 c1_0 c1_1 c1_2 c1_3 c1_4 c1_5 c1_6 z1
   have c2_0:w2.cell? ⟨b,off+j*7,none⟩=_:=C2.out 0 _ rfl
   have c2_1:=C2.out 1 _ rfl
   have c2_2:=C2.out 2 _ rfl
   have c2_3:=C2.out 3 _ rfl
   have c2_4:=C2.out 4 _ rfl
   have c2_5:=C2.out 5 _ rfl
   have c2_6:=C2.out 6 _ rfl
   have z2:=T2.here.free
   go_wp2_with fail
   refine (UY _ _ xs[j].columns F5 _ Q5_2.out dn5 (fun q hq=>P5_2.out q hq) (by omega) (by omega)).mono ?_
   rintro e w3 ⟨rfl,q5,p5,hb3⟩
   have T3:=Trk.step T2 hb3 (fun q hq=>by simp [hq]) ns5 p5
   have C3:=Lib.hid (ZA.step C2.out hb3 ns5)
   have dq:∀x∈F4,x∉F5:=fun x hx hm=>da4 x hx (by simp [hm])
   have Q4_3:=Lib.hid (Off.rep hb3 Q4_2.out dq)
   have P4_3:Hid (∀q∈F4,Plain w3 q):=Lib.hid (fun x hx=>Off.plain hb3 ((fun q hq=>P4_2.out q hq) x hx) (dq x hx))
   clear dq
   have Q5_3:=Lib.hid q5
   have P5_3:=Lib.hid p5
   clear q5 p5
   have dq:∀x∈F6,x∉F5:=fun x hx hm=>db5 x (by simp [hx]) hm
   have Q6_3:=Lib.hid (Off.rep hb3 Q6_2.out dq)
   have P6_3:Hid (∀q∈F6,Plain w3 q):=Lib.hid (fun x hx=>Off.plain hb3 ((fun q hq=>P6_2.out q hq) x hx) (dq x hx))
   clear dq
   clear hb3 c2_0 c2_1 c2_2 c2_3 c2_4 c2_5 c2_6 z2
   have c3_0:w3.cell? ⟨b,off+j*7,none⟩=_:=C3.out 0 _ rfl
   have c3_1:=C3.out 1 _ rfl
   have c3_2:=C3.out 2 _ rfl
   have c3_3:=C3.out 3 _ rfl
   have c3_4:=C3.out 4 _ rfl
   have c3_5:=C3.out 5 _ rfl
   have c3_6:=C3.out 6 _ rfl
   have z3:=T3.here.free
   go_wp2_with fail
   refine (ZaE _ _ xs[j].rows F6 _ Q6_3.out dn6 (fun q hq=>P6_3.out q hq) (by omega) (by omega)).mono ?_
   rintro e w4 ⟨rfl,q6,p6,hb4⟩
   have T4:=Trk.step T3 hb4 (fun q hq=>by simp [hq]) ns6 p6
   have C4:=Lib.hid (ZA.step C3.out hb4 ns6)
   have dq:∀x∈F4,x∉F6:=fun x hx hm=>da4 x hx (by simp [hm])
   have Q4_4:=Lib.hid (Off.rep hb4 Q4_3.out dq)
   have P4_4:Hid (∀q∈F4,Plain w4 q):=Lib.hid (fun x hx=>Off.plain hb4 ((fun q hq=>P4_3.out q hq) x hx) (dq x hx))
   clear dq
   have dq:∀x∈F5,x∉F6:=fun x hx hm=>da5 x hx (by simp [hm])
   have Q5_4:=Lib.hid (Off.rep hb4 Q5_3.out dq)
   have P5_4:Hid (∀q∈F5,Plain w4 q):=Lib.hid (fun x hx=>Off.plain hb4 ((fun q hq=>P5_3.out q hq) x hx) (dq x hx))
   clear dq
   have Q6_4:=Lib.hid q6
   have P6_4:=Lib.hid p6
   clear q6 p6
   clear hb4 c3_0 c3_1 c3_2 c3_3 c3_4 c3_5 c3_6 z3
   have c4_0:w4.cell? ⟨b,off+j*7,none⟩=_:=C4.out 0 _ rfl
   have c4_1:=C4.out 1 _ rfl
   have c4_2:=C4.out 2 _ rfl
   have c4_3:=C4.out 3 _ rfl
   have c4_4:=C4.out 4 _ rfl
   have c4_5:=C4.out 5 _ rfl
   have c4_6:=C4.out 6 _ rfl
   have z4:=T4.here.free
   go_wp2_with fail
   go_roundw
   case rel=>
    refine ⟨j+1,by omega,by go_num,int_eq (by have h1:=HE1.out;have h2:=HE3.out;have h3:=HK.out;rw [h2] at h1;omega), ?_,Trk.ZdW T4 hpr,hoff.trans (Off.sub (Trk.off T4) (fun q hq=>by rcases List.mem_cons.1 hq with rfl| hq;exact hbF;exact HS.out q hq))⟩
    have hm:Za.ZS (xs.take (j+1)) k=Za.ZS (xs.take j) k++[Za.mark xs[j] kk]:=by
     rw [Za.Zz,Za.Zz,QQ xs j k hlt,HK.out,Za.ZJ]
    rw [hm,List.map_append,List.append_assoc]
    refine HB.out _ (Za.d (Za.mark xs[j] kk)) _ (by simp) ?_ C4.out T4
    simp only [Za.Vh,Za.Zng]
    rw [XQ]
    exact Ks (ZR (XR (XS (by omega) (by omega)) (by first | rfl| omega)) (ZR (XR (XS (by omega) (by omega)) (by first | rfl| omega)) (ZR (XR (XS (by omega) (by omega)) (by first | rfl| omega)) (ZR (Zdk (by omega) (by first | rfl| omega)) (ZR (ZcM Q4_4.out rfl) (ZR (ZcM Q5_4.out rfl) (ZR (ZcM Q6_4.out rfl) Zbx))))))) rfl (by first | rfl| simp only [List.nil_append,List.append_nil,List.append_assoc])
   case measure=>simp [intOf];omega
  ·have hj':j=xs.length:=by omega
   subst hj'
   rw [List.take_of_length_le (Nat.le_refl _),List.drop_of_length_le (Nat.le_refl _)] at hs
   rw [List.take_of_length_le (Nat.le_refl _)]
   have HQ:=Lib.hid hs
   clear hs
   go_wp2_with fail
   go_ret
   exact ⟨rfl,by have:=HQ.out;simpa using this,hpr,hoff⟩
theorem ZfL (N0:Nat):∀(w:World) (v:Value) (xs:List Za) (F:List Nat) (k:Int) (hN:nd (.sl (xs.map Za.d))≤N0) (h:XP w v (xs.map Za.d) F) (hn:F.Nodup) (hp:∀q∈F,Plain w q) (h0:0≤k) (h1:k+((Za.cnL xs:Nat):Int)≤1099511627776),Calls Tryz.prog 51 #[v,.int .i64 k] w fun e w'=>e= .returned (.int .i64 (k+((Za.cnL xs:Nat):Int)))∧XP w' v ((Za.ZS xs k).map Za.d) F∧(∀q∈F,Plain w' q)∧Off F w w':=by
 induction N0 using Nat.strongRecOn with
 | _ N0 ih=>exact Ze2 N0 (fun w v xs F k hN h hn hp h0 h1=>ih _ hN w v xs F k (Nat.le_refl _) h hn hp h0 h1)
theorem JE (w:World) (v:Value) (xs:List Za) (F:List Nat) (k:Int) (h:XP w v (xs.map Za.d) F) (hn:F.Nodup) (hp:∀q∈F,Plain w q) (h0:0≤k) (h1:k+((Za.cnL xs:Nat):Int)≤1099511627776):
  Calls Tryz.prog 51 #[v,.int .i64 k] w fun e w'=>e= .returned (.int .i64 (k+((Za.cnL xs:Nat):Int)))∧XP w' v ((Za.ZS xs k).map Za.d) F∧(∀q∈F,Plain w' q)∧Off F w w':=ZfL _ w v xs F k (Nat.le_refl _) h hn hp h0 h1
set_option maxHeartbeats 4000000 in
set_option maxRecDepth 100000 in
theorem Zfh (N0:Nat) (ihS:∀(w:World) (v:Value) (xs:List Za) (F:List Nat) (k:Int) (hN:nd (.sl (xs.map Za.d))<N0) (h:XP w v ((Za.ZS xs k).map Za.d) F) (h0:0≤k) (h1:k+((Za.cnL xs:Nat):Int)≤1099511627776),Calls Tryz.prog 55 #[v,.int .i64 k] w fun e w'=>e= .returned (.int .i64 (k+((Za.cnL xs:Nat):Int)))∧Below w.heap.size w w') (w:World) (v:Value) (xs:List Za) (F:List Nat) (k:Int) (hN:nd (.sl (xs.map Za.d))≤N0) (h:XP w v ((Za.ZS xs k).map Za.d) F) (h0:0≤k) (h1:k+((Za.cnL xs:Nat):Int)≤1099511627776):
  Calls Tryz.prog 55 #[v,.int .i64 k] w fun e w'=>e= .returned (.int .i64 (k+((Za.cnL xs:Nat):Int)))∧Below w.heap.size w w':=by
 have HI:=Lib.hid ihS
 clear ihS
 have HN:=Lib.hid hN
 clear hN
 obtain ⟨A,c,rfl,hc,hcm⟩:=h.form
 have hl:((Za.ZS xs k).map Za.d).length=xs.length:=by rw [List.length_map,Za.Zz,ZG]
 rw [hl] at h hc ⊢
 have H1:=Lib.hid h1
 have HS:=Lib.hid h
 clear h1 hl h
 go_enter Tryz.func55,Tryz.ntmps55
 go_wp2_with fail
 go_loopw [1,5] (fun kk i wr=>∃j:Nat,j≤xs.length∧i= .int .i64 j∧kk= .int .i64 (k+((Za.cnL (xs.take j):Nat):Int))∧Below w.heap.size w wr) (fun _ i _=>xs.length-(intOf i).toNat)
 case atStart=>exact ⟨0,Nat.zero_le _,rfl,int_eq (by rw [List.take_zero,Za.ZJ];simp [cnS]),Below.refl _ _⟩
 case round=>
  obtain ⟨j,hj,rfl,rfl,hb⟩:=hrel
  by_cases hlt:j<xs.length
  ·have hs:=HS.out.below hb
   obtain ⟨b,off,ys,Fi,rfl,hbl,_,hr,hlen,_,hcell⟩:=hs.at_ (W:=7) (i:=j) (by
    rw [Za.Zz];exact Za.wds _) (by rw [List.length_map,Za.Zz,ZG];exact hlt)
   have e0:((Za.ZS xs k).map Za.d)[j]'(by rw [List.length_map,Za.Zz,ZG];exact hlt)=Za.d (Za.mark xs[j] (k+((Za.cnL (xs.take j):Nat):Int))):=by
    rw [List.getElem_map]
    congr 1
    exact (List.getElem_of_eq (Za.Zz xs k) _).trans ((Ze1 xs j k hlt).trans (by rw [Za.ZJ]))
   rw [e0] at hr
   have e1:Za.cnL (xs.take (j+1))=Za.cnL (xs.take j)+Za.cn xs[j]:=by rw [Za.ZJ,Za.ZJ];exact Yj xs j hlt
   have e2:Za.cnL (xs.take (j+1))≤Za.cnL xs:=by rw [Za.ZJ,Za.ZJ];exact YT xs (j+1)
   have e3:Za.cn xs[j]=4+Za.cnL xs[j].list+Z7 xs[j].columns+Zq.cnL xs[j].rows:=Za.Ka _
   obtain ⟨kk,hkk⟩:∃kk:Int,kk=k+((Za.cnL (xs.take j):Nat):Int):=⟨_,rfl⟩
   rw [←hkk] at hr ⊢
   have k0:0≤kk:=by omega
   have k1:kk+4+((Za.cnL xs[j].list:Nat):Int)+((Z7 xs[j].columns:Nat):Int)+((Zq.cnL xs[j].rows:Nat):Int)≤1099511627776:=by have:=H1.out;rw [e3] at e1;omega
   have HE1:=Lib.hid e1
   have HE3:=Lib.hid e3
   have HK:=Lib.hid hkk
   clear e0 e1 e2 e3 hkk hs hlen
   rw [Za.Vh] at hr
   obtain ⟨A4,c4,F4,A5,c5,F5,A6,c6,F6,rfl,_,_,_,_,_,q4,q5,q6⟩:=Za.open_ hr
   clear hr
   have hlt':nd (.sl (xs[j].list.map Za.d))<N0:=by
    have h1:=HN.out
    have h2:=Zjh (xs.map Za.d) j (by simpa using hlt)
    simp only [nd,List.getElem_map] at h1 h2
    rw [Za.Zng] at h2
    simp only [nd,ndL] at h2 ⊢
    omega
   have Q4:Hid (XP wr (.slice A4 (Za.ZS xs[j].list (kk+1+1+1+1)).length c4) ((Za.ZS xs[j].list (kk+1+1+1+1)).map Za.d) F4):=Lib.hid q4
   clear q4
   have Q5:Hid (XP wr (.slice A5 (QA xs[j].columns (kk+1+1+1+1+((Za.cnL xs[j].list:Nat):Int))).length c5) ((QA xs[j].columns (kk+1+1+1+1+((Za.cnL xs[j].list:Nat):Int))).map D.str) F5):=Lib.hid q5
   clear q5
   have Q6:Hid (XP wr (.slice A6 (Zq.ZS xs[j].rows (kk+1+1+1+1+((Za.cnL xs[j].list:Nat):Int)+((Z7 xs[j].columns:Nat):Int))).length c6) ((Zq.ZS xs[j].rows (kk+1+1+1+1+((Za.cnL xs[j].list:Nat):Int)+((Z7 xs[j].columns:Nat):Int))).map Zq.d) F6):=Lib.hid q6
   clear q6
   have c0:wr.cell? ⟨b,off+j*7,none⟩=some (.int .i64 (kk)):=hcell 0 _ rfl
   have c1:wr.cell? ⟨b,off+j*7+1,none⟩=some (.int .i64 (kk+1)):=hcell 1 _ rfl
   have c2:wr.cell? ⟨b,off+j*7+2,none⟩=some (.int .i64 (kk+1+1)):=hcell 2 _ rfl
   have c3:wr.cell? ⟨b,off+j*7+3,none⟩=some (.string (Jc (kk+1+1+1))):=hcell 3 _ rfl
   have c4:wr.cell? ⟨b,off+j*7+4,none⟩=some (.slice A4 (Za.ZS xs[j].list (kk+1+1+1+1)).length c4):=hcell 4 _ rfl
   have c5:wr.cell? ⟨b,off+j*7+5,none⟩=some (.slice A5 (QA xs[j].columns (kk+1+1+1+1+((Za.cnL xs[j].list:Nat):Int))).length c5):=hcell 5 _ rfl
   have c6:wr.cell? ⟨b,off+j*7+6,none⟩=some (.slice A6 (Zq.ZS xs[j].rows (kk+1+1+1+1+((Za.cnL xs[j].list:Nat):Int)+((Z7 xs[j].columns:Nat):Int))).length c6):=hcell 6 _ rfl
   clear hcell
   have D0:=Below.refl wr.heap.size wr
   go_wp2_with fail
   have hx_:=@Zko wr
   refine Zbh (by kernel_rfl) (by kernel_rfl) ?_
   repeat (go_big_quiet_step ((go_at_call 112;exact Zms (Xv _ _ (by omega)))))
   refine wpQuiet_nil ?_
   rintro w' ⟨x_,rfl⟩
   obtain ⟨w1,hw1⟩:=x_
   clear hx_
   dsimp only
   have D1:=Zbg D0 hw1
   replace hbl:b<w1.heap.size:=Nat.lt_of_lt_of_le hbl hw1.size
   replace c4:=ZP hw1 c4
   replace c5:=ZP hw1 c5
   replace c6:=ZP hw1 c6
   skip
   go_wp2_with fail
   refine (HI.out _ _ xs[j].list F4 _ hlt' (Q4.out.below D1) (by omega) (by omega)).mono ?_
   rintro e w2 ⟨rfl,hw2⟩
   have D2:=Zbg D1 hw2
   replace hbl:b<w2.heap.size:=Nat.lt_of_lt_of_le hbl hw2.size
   have hd2:decide (kk+1+1+1+1+((Za.cnL xs[j].list:Nat):Int)<0)=false:=by simp;omega
   replace c5:=ZP hw2 c5
   replace c6:=ZP hw2 c6
   go_wp2_with fail
   refine (ZaM _ _ xs[j].columns F5 _ (Q5.out.below D2) (by omega) (by omega)).mono ?_
   rintro e w3 ⟨rfl,hw3⟩
   have D3:=Zbg D2 hw3
   replace hbl:b<w3.heap.size:=Nat.lt_of_lt_of_le hbl hw3.size
   have hd3:decide (kk+1+1+1+1+((Za.cnL xs[j].list:Nat):Int)+((Z7 xs[j].columns:Nat):Int)<0)=false:=by simp;omega
   replace c6:=ZP hw3 c6
   go_wp2_with fail
   refine (Zd2 _ _ xs[j].rows F6 _ (Q6.out.below D3) (by omega) (by omega)).mono ?_
   rintro e w4 ⟨rfl,hw4⟩
   have D4:=Zbg D3 hw4
   replace hbl:b<w4.heap.size:=Nat.lt_of_lt_of_le hbl hw4.size
   have hd4:decide (kk+1+1+1+1+((Za.cnL xs[j].list:Nat):Int)+((Z7 xs[j].columns:Nat):Int)+((Zq.cnL xs[j].rows:Nat):Int)<0)=false:=by simp;omega
   go_wp2_with fail
   go_roundw
   case rel=>exact ⟨j+1,by omega,by go_num,int_eq (by have h1:=HE1.out;have h2:=HE3.out;have h3:=HK.out;rw [h2] at h1;omega),Zbg hb D4⟩
   case measure=>simp [intOf];omega
  ·have hj':j=xs.length:=by omega
   subst hj'
   rw [List.take_of_length_le (Nat.le_refl _)]
   go_wp2_with fail
   go_ret
   exact ⟨rfl,hb⟩
theorem ZfQ (N0:Nat):∀(w:World) (v:Value) (xs:List Za) (F:List Nat) (k:Int) (hN:nd (.sl (xs.map Za.d))≤N0) (h:XP w v ((Za.ZS xs k).map Za.d) F) (h0:0≤k) (h1:k+((Za.cnL xs:Nat):Int)≤1099511627776),Calls Tryz.prog 55 #[v,.int .i64 k] w fun e w'=>e= .returned (.int .i64 (k+((Za.cnL xs:Nat):Int)))∧Below w.heap.size w w':=by
 induction N0 using Nat.strongRecOn with
 | _ N0 ih=>exact Zfh N0 (fun w v xs F k hN h h0 h1=>ih _ hN w v xs F k (Nat.le_refl _) h h0 h1)
theorem ZfP (w:World) (v:Value) (xs:List Za) (F:List Nat) (k:Int) (h:XP w v ((Za.ZS xs k).map Za.d) F) (h0:0≤k) (h1:k+((Za.cnL xs:Nat):Int)≤1099511627776):
  Calls Tryz.prog 55 #[v,.int .i64 k] w fun e w'=>e= .returned (.int .i64 (k+((Za.cnL xs:Nat):Int)))∧Below w.heap.size w w':=ZfQ _ w v xs F k (Nat.le_refl _) h h0 h1
set_option maxHeartbeats 4000000 in
set_option maxRecDepth 100000 in
theorem ZgZ (w:World) (x:Za) (cs:List Value) (F:List Nat) (k:Int) (h:Rep w x.d cs F) (hn:F.Nodup) (hp:∀q∈F,Plain w q) (h0:0≤k) (h1:k+((x.cnV:Nat):Int)≤1099511627776):
  Calls Tryz.prog 18 #[.agg cs.toArray,.int .i64 k] w fun e w'=>e= .returned (.int .i64 (k+((x.cnV:Nat):Int)))∧Rep w' (x.XF k).d cs F∧(∀q∈F,Plain w' q)∧Off F w w':=by
 have hF:=h.lt
 obtain ⟨A4,c4,F4,A5,c5,F5,A6,c6,F6,rfl,hFe,i0,i1,i2,i3,q4,q5,q6⟩:=Za.open_ h
 have hFe:=hFe.symm
 subst hFe
 have h1':k+((Za.cnL x.list+Z7 x.columns+Zq.cnL x.rows:Nat):Int)≤1099511627776:=h1
 have hn':(F4++(F5++F6)).Nodup:=by simpa only [List.append_assoc,List.append_nil] using hn
 obtain ⟨da4,db4,dn4,dr4⟩:=V2 hn'
 obtain ⟨da5,db5,dn5,dr5⟩:=V2 dr4
 have dn6:=dr5
 obtain ⟨w0,hw0⟩:∃w0,w0=w.alloc (.cells #[.int .i64 x.kind,.int .i64 x.n,.int .i64 x.step,.string x.text,.slice A4 x.list.length c4,.slice A5 x.columns.length c5,.slice A6 x.rows.length c6] 35):=⟨_,rfl⟩
 have B0:Below w.heap.size w w0:=hw0▸ZrM (Below.refl _ _) _
 have kc0:w0.cell? ⟨w.heap.size,0,none⟩=some (.int .i64 x.kind):=hw0▸QB w _ _ 0 _ rfl
 have kc1:w0.cell? ⟨w.heap.size,1,none⟩=some (.int .i64 x.n):=hw0▸QB w _ _ 1 _ rfl
 have kc2:w0.cell? ⟨w.heap.size,2,none⟩=some (.int .i64 x.step):=hw0▸QB w _ _ 2 _ rfl
 have kc3:w0.cell? ⟨w.heap.size,3,none⟩=some (.string x.text):=hw0▸QB w _ _ 3 _ rfl
 have kc4:w0.cell? ⟨w.heap.size,4,none⟩=some (.slice A4 x.list.length c4):=hw0▸QB w _ _ 4 _ rfl
 have kc5:w0.cell? ⟨w.heap.size,5,none⟩=some (.slice A5 x.columns.length c5):=hw0▸QB w _ _ 5 _ rfl
 have kc6:w0.cell? ⟨w.heap.size,6,none⟩=some (.slice A6 x.rows.length c6):=hw0▸QB w _ _ 6 _ rfl
 have HW:=Lib.hid hw0
 clear hw0
 have ns4:w.heap.size∉F4:=fun hm=>by have:=hF _ (show w.heap.size∈_ by (try simp only [List.mem_append] at hm ⊢);first | (simp [hm];done)| (rcases hm with h'| h'<;>simp [h'];done)| (rcases hm with h'| h'| h'<;>simp [h'];done));omega
 have Q4:=Lib.hid (q4.below B0)
 have P4:Hid (∀q∈F4,Plain w0 q):=Lib.hid (fun q hq=>(hp q (by (try simp only [List.mem_append] at hq ⊢);first | (simp [hq];done)| (rcases hq with h'| h'<;>simp [h'];done)| (rcases hq with h'| h'| h'<;>simp [h'];done))).next B0)
 have ns5:w.heap.size∉F5:=fun hm=>by have:=hF _ (show w.heap.size∈_ by (try simp only [List.mem_append] at hm ⊢);first | (simp [hm];done)| (rcases hm with h'| h'<;>simp [h'];done)| (rcases hm with h'| h'| h'<;>simp [h'];done));omega
 have Q5:=Lib.hid (q5.below B0)
 have P5:Hid (∀q∈F5,Plain w0 q):=Lib.hid (fun q hq=>(hp q (by (try simp only [List.mem_append] at hq ⊢);first | (simp [hq];done)| (rcases hq with h'| h'<;>simp [h'];done)| (rcases hq with h'| h'| h'<;>simp [h'];done))).next B0)
 have ns6:w.heap.size∉F6:=fun hm=>by have:=hF _ (show w.heap.size∈_ by (try simp only [List.mem_append] at hm ⊢);first | (simp [hm];done)| (rcases hm with h'| h'<;>simp [h'];done)| (rcases hm with h'| h'| h'<;>simp [h'];done));omega
 have Q6:=Lib.hid (q6.below B0)
 have P6:Hid (∀q∈F6,Plain w0 q):=Lib.hid (fun q hq=>(hp q (by (try simp only [List.mem_append] at hq ⊢);first | (simp [hq];done)| (rcases hq with h'| h'<;>simp [h'];done)| (rcases hq with h'| h'| h'<;>simp [h'];done))).next B0)
 clear q4 q5 q6
 have HOLD:=Lib.hid (And.intro hp (And.intro hF h))
 clear hp hF h
 have O0:Off (F4++(F5++F6)) w w0:=Off.Zel B0
 go_enter Tryz.func18,Tryz.ntmps18
 go_wp2_with fail
 rw [←HW.out]
 refine (JE _ _ x.list F4 _ Q4.out dn4 P4.out (by omega) (by omega)).mono ?_
 rintro e w1 ⟨rfl,q4,p4,hb1⟩
 have O1:Off (F4++(F5++F6)) w w1:=O0.trans (hb1.sub (fun q hq=>by (try simp only [List.mem_append] at hq ⊢);first | (simp [hq];done)| (rcases hq with h'| h'<;>simp [h'];done)| (rcases hq with h'| h'| h'<;>simp [h'];done)))
 replace kc0:=hb1.cell ns4 kc0
 replace kc1:=hb1.cell ns4 kc1
 replace kc2:=hb1.cell ns4 kc2
 replace kc3:=hb1.cell ns4 kc3
 replace kc4:=hb1.cell ns4 kc4
 replace kc5:=hb1.cell ns4 kc5
 replace kc6:=hb1.cell ns4 kc6
 replace Q4:=Lib.hid q4
 replace P4:=Lib.hid p4
 clear q4 p4
 have dq:∀x∈F5,x∉F4:=fun x hx hm=>db4 x (by (try simp only [List.mem_append] at hx ⊢);first | (simp [hx];done)| (rcases hx with h'| h'<;>simp [h'];done)| (rcases hx with h'| h'| h'<;>simp [h'];done)) hm
 replace Q5:=Lib.hid (Off.rep hb1 Q5.out dq)
 replace P5:Hid (∀q∈F5,Plain w1 q):=Lib.hid (fun x hx=>Off.plain hb1 (P5.out x hx) (dq x hx))
 clear dq
 have dq:∀x∈F6,x∉F4:=fun x hx hm=>db4 x (by (try simp only [List.mem_append] at hx ⊢);first | (simp [hx];done)| (rcases hx with h'| h'<;>simp [h'];done)| (rcases hx with h'| h'| h'<;>simp [h'];done)) hm
 replace Q6:=Lib.hid (Off.rep hb1 Q6.out dq)
 replace P6:Hid (∀q∈F6,Plain w1 q):=Lib.hid (fun x hx=>Off.plain hb1 (P6.out x hx) (dq x hx))
 clear dq
 go_wp2_with fail
 refine (UY _ _ x.columns F5 _ Q5.out dn5 P5.out (by omega) (by omega)).mono ?_
 rintro e w2 ⟨rfl,q5,p5,hb2⟩
 have O2:Off (F4++(F5++F6)) w w2:=O1.trans (hb2.sub (fun q hq=>by (try simp only [List.mem_append] at hq ⊢);first | (simp [hq];done)| (rcases hq with h'| h'<;>simp [h'];done)| (rcases hq with h'| h'| h'<;>simp [h'];done)))
 replace kc0:=hb2.cell ns5 kc0
 replace kc1:=hb2.cell ns5 kc1
 replace kc2:=hb2.cell ns5 kc2
 replace kc3:=hb2.cell ns5 kc3
 replace kc4:=hb2.cell ns5 kc4
 replace kc5:=hb2.cell ns5 kc5
 replace kc6:=hb2.cell ns5 kc6
 have dq:∀x∈F4,x∉F5:=fun x hx hm=>da4 x hx (by (try simp only [List.mem_append] at hm ⊢);first | (simp [hm];done)| (rcases hm with h'| h'<;>simp [h'];done)| (rcases hm with h'| h'| h'<;>simp [h'];done))
 replace Q4:=Lib.hid (Off.rep hb2 Q4.out dq)
 replace P4:Hid (∀q∈F4,Plain w2 q):=Lib.hid (fun x hx=>Off.plain hb2 (P4.out x hx) (dq x hx))
 clear dq
 replace Q5:=Lib.hid q5
 replace P5:=Lib.hid p5
 clear q5 p5
 have dq:∀x∈F6,x∉F5:=fun x hx hm=>db5 x (by (try simp only [List.mem_append] at hx ⊢);first | (simp [hx];done)| (rcases hx with h'| h'<;>simp [h'];done)| (rcases hx with h'| h'| h'<;>simp [h'];done)) hm
 replace Q6:=Lib.hid (Off.rep hb2 Q6.out dq)
 replace P6:Hid (∀q∈F6,Plain w2 q):=Lib.hid (fun x hx=>Off.plain hb2 (P6.out x hx) (dq x hx))
 clear dq
 go_wp2_with fail
 refine (ZaE _ _ x.rows F6 _ Q6.out dn6 P6.out (by omega) (by omega)).mono ?_
 rintro e w3 ⟨rfl,q6,p6,hb3⟩
 have O3:Off (F4++(F5++F6)) w w3:=O2.trans (hb3.sub (fun q hq=>by (try simp only [List.mem_append] at hq ⊢);first | (simp [hq];done)| (rcases hq with h'| h'<;>simp [h'];done)| (rcases hq with h'| h'| h'<;>simp [h'];done)))
 replace kc0:=hb3.cell ns6 kc0
 replace kc1:=hb3.cell ns6 kc1
 replace kc2:=hb3.cell ns6 kc2
 replace kc3:=hb3.cell ns6 kc3
 replace kc4:=hb3.cell ns6 kc4
 replace kc5:=hb3.cell ns6 kc5
 replace kc6:=hb3.cell ns6 kc6
 have dq:∀x∈F4,x∉F6:=fun x hx hm=>da4 x hx (by (try simp only [List.mem_append] at hm ⊢);first | (simp [hm];done)| (rcases hm with h'| h'<;>simp [h'];done)| (rcases hm with h'| h'| h'<;>simp [h'];done))
 replace Q4:=Lib.hid (Off.rep hb3 Q4.out dq)
 replace P4:Hid (∀q∈F4,Plain w3 q):=Lib.hid (fun x hx=>Off.plain hb3 (P4.out x hx) (dq x hx))
 clear dq
 have dq:∀x∈F5,x∉F6:=fun x hx hm=>da5 x hx (by (try simp only [List.mem_append] at hm ⊢);first | (simp [hm];done)| (rcases hm with h'| h'<;>simp [h'];done)| (rcases hm with h'| h'| h'<;>simp [h'];done))
 replace Q5:=Lib.hid (Off.rep hb3 Q5.out dq)
 replace P5:Hid (∀q∈F5,Plain w3 q):=Lib.hid (fun x hx=>Off.plain hb3 (P5.out x hx) (dq x hx))
 clear dq
 replace Q6:=Lib.hid q6
 replace P6:=Lib.hid p6
 clear q6 p6
 go_wp2_with fail
 go_ret
 have e1:((x.cnV:Nat):Int)=((Za.cnL x.list:Nat):Int)+((Z7 x.columns:Nat):Int)+((Zq.cnL x.rows:Nat):Int):=by unfold Za.cnV;omega
 refine ⟨ZgS (by omega), ?_, ?_,O3⟩
 ·rw [Za.Zng];refine XQ.2 (Ks (ZR (Zic i0) (ZR (Zic i1) (ZR (Zic i2) (ZR (ZoD i3) (ZR (Zk8 Q4.out) (ZR (Zk8 Q5.out) (ZR (Zk8 Q6.out) (Zbx (w:=_))))))))) ?_ ?_)
  ·first | rfl| simp only [List.cons_append,List.nil_append,List.append_nil]
  ·first | rfl| simp only [List.nil_append,List.append_nil,List.append_assoc]
 ·intro q hq
  have hq':q∈F4∨q∈F5∨q∈F6:=by simp only [List.mem_append] at hq ⊢;(first | exact hq| (simp only [or_assoc];exact hq)| (simp only [or_assoc] at hq ⊢;exact hq))
  rcases hq' with h| h| h
  ·exact P4.out q h
  ·exact P5.out q h
  ·exact P6.out q h
set_option maxHeartbeats 4000000 in
set_option maxRecDepth 100000 in
theorem Zhd (w:World) (x:Za) (cs:List Value) (F:List Nat) (k:Int) (h:Rep w (x.XF k).d cs F) (h0:0≤k) (h1:k+((x.cnV:Nat):Int)≤1099511627776):
  Calls Tryz.prog 19 #[.agg cs.toArray,.int .i64 k] w fun e w'=>e= .returned (.int .i64 (k+((x.cnV:Nat):Int)))∧Below w.heap.size w w':=by
 obtain ⟨A4,c4,F4,A5,c5,F5,A6,c6,F6,rfl,_,i0,i1,i2,i3,q4,q5,q6⟩:=Za.open_ h
 clear h
 have h1':k+((Za.cnL x.list+Z7 x.columns+Zq.cnL x.rows:Nat):Int)≤1099511627776:=h1
 obtain ⟨w0,hw0⟩:∃w0,w0=w.alloc (.cells #[.int .i64 (x.XF k).kind,.int .i64 (x.XF k).n,.int .i64 (x.XF k).step,.string (x.XF k).text,.slice A4 (x.XF k).list.length c4,.slice A5 (x.XF k).columns.length c5,.slice A6 (x.XF k).rows.length c6] 35):=⟨_,rfl⟩
 have B0:Below w.heap.size w w0:=hw0▸ZrM (Below.refl _ _) _
 have kc0:w0.cell? ⟨w.heap.size,0,none⟩=some (.int .i64 (x.XF k).kind):=hw0▸QB w _ _ 0 _ rfl
 have kc1:w0.cell? ⟨w.heap.size,1,none⟩=some (.int .i64 (x.XF k).n):=hw0▸QB w _ _ 1 _ rfl
 have kc2:w0.cell? ⟨w.heap.size,2,none⟩=some (.int .i64 (x.XF k).step):=hw0▸QB w _ _ 2 _ rfl
 have kc3:w0.cell? ⟨w.heap.size,3,none⟩=some (.string (x.XF k).text):=hw0▸QB w _ _ 3 _ rfl
 have kc4:w0.cell? ⟨w.heap.size,4,none⟩=some (.slice A4 (x.XF k).list.length c4):=hw0▸QB w _ _ 4 _ rfl
 have kc5:w0.cell? ⟨w.heap.size,5,none⟩=some (.slice A5 (x.XF k).columns.length c5):=hw0▸QB w _ _ 5 _ rfl
 have kc6:w0.cell? ⟨w.heap.size,6,none⟩=some (.slice A6 (x.XF k).rows.length c6):=hw0▸QB w _ _ 6 _ rfl
 have HW:=Lib.hid hw0
 clear hw0
 have Q4:Hid (XP w0 _ ((Za.ZS x.list (k)).map Za.d) F4):=Lib.hid (q4.below B0)
 have Q5:Hid (XP w0 _ ((QA x.columns (k+((Za.cnL x.list:Nat):Int))).map D.str) F5):=Lib.hid (q5.below B0)
 have Q6:Hid (XP w0 _ ((Zq.ZS x.rows (k+((Za.cnL x.list:Nat):Int)+((Z7 x.columns:Nat):Int))).map Zq.d) F6):=Lib.hid (q6.below B0)
 clear q4 q5 q6
 have D0:=Below.refl w0.heap.size w0
 go_enter Tryz.func19,Tryz.ntmps19
 go_wp2_with fail
 rw [←HW.out]
 refine (ZfP _ _ x.list F4 _ (Q4.out.below D0) (by omega) (by omega)).mono ?_
 rintro e w1 ⟨rfl,hw1⟩
 have D1:=Zbg D0 hw1
 have hd1:decide (k+((Za.cnL x.list:Nat):Int)<0)=false:=by simp;omega
 replace kc0:=ZP hw1 kc0
 replace kc1:=ZP hw1 kc1
 replace kc2:=ZP hw1 kc2
 replace kc3:=ZP hw1 kc3
 replace kc4:=ZP hw1 kc4
 replace kc5:=ZP hw1 kc5
 replace kc6:=ZP hw1 kc6
 go_wp2_with fail
 refine (ZaM _ _ x.columns F5 _ (Q5.out.below D1) (by omega) (by omega)).mono ?_
 rintro e w2 ⟨rfl,hw2⟩
 have D2:=Zbg D1 hw2
 have hd2:decide (k+((Za.cnL x.list:Nat):Int)+((Z7 x.columns:Nat):Int)<0)=false:=by simp;omega
 replace kc0:=ZP hw2 kc0
 replace kc1:=ZP hw2 kc1
 replace kc2:=ZP hw2 kc2
 replace kc3:=ZP hw2 kc3
 replace kc4:=ZP hw2 kc4
 replace kc5:=ZP hw2 kc5
 replace kc6:=ZP hw2 kc6
 go_wp2_with fail
 refine (Zd2 _ _ x.rows F6 _ (Q6.out.below D2) (by omega) (by omega)).mono ?_
 rintro e w3 ⟨rfl,hw3⟩
 have D3:=Zbg D2 hw3
 have hd3:decide (k+((Za.cnL x.list:Nat):Int)+((Z7 x.columns:Nat):Int)+((Zq.cnL x.rows:Nat):Int)<0)=false:=by simp;omega
 replace kc0:=ZP hw3 kc0
 replace kc1:=ZP hw3 kc1
 replace kc2:=ZP hw3 kc2
 replace kc3:=ZP hw3 kc3
 replace kc4:=ZP hw3 kc4
 replace kc5:=ZP hw3 kc5
 replace kc6:=ZP hw3 kc6
 go_wp2_with fail
 go_ret
 have e1:((x.cnV:Nat):Int)=((Za.cnL x.list:Nat):Int)+((Z7 x.columns:Nat):Int)+((Zq.cnL x.rows:Nat):Int):=by unfold Za.cnV;omega
 exact ⟨ZgS (by omega),Zbg B0 D3⟩
end Go.Proofs.YtfapaeabfcogkaaGreatDoor
set_option linter.unusedSimpArgs false
set_option linter.unusedVariables false
namespace Go.Proofs.YtfapaeabfcogkaaGreatDoor
open Go.RowKit
theorem Zo.wd_ (x:Zo):wd x.d=11:=by simp [Zo.d,Za.Zng,wd,wdL]
theorem Zo.wds (xs:List Zo):∀d∈xs.map Zo.d,wd d=11:=by
 intro d hd
 obtain ⟨x,_,rfl⟩:=List.mem_map.1 hd
 exact x.wd_
theorem Zo.open_ {w:World} {x:Zo} {cs:List Value} {F:List Nat} (h:Rep w x.d cs F):
  ∃(A8:Option Addr) (c8:Nat) (F8:List Nat) (A9:Option Addr) (c9:Nat) (F9:List Nat) (A10:Option Addr) (c10:Nat) (F10:List Nat),cs=[.int .i64 x.kind,.int .i64 x.n,.int .i64 x.time,.string x.text,.int .i64 x.result.kind,.int .i64 x.result.n,.int .i64 x.result.step,.string x.result.text,.slice A8 x.result.list.length c8,.slice A9 x.result.columns.length c9,.slice A10 x.result.rows.length c10]∧F=F8++(F9++F10)∧I64 x.kind∧I64 x.n∧I64 x.time∧Fits x.text∧I64 x.result.kind∧I64 x.result.n∧I64 x.result.step∧Fits x.result.text∧XP w (.slice A8 x.result.list.length c8) (x.result.list.map Za.d) F8∧XP w (.slice A9 x.result.columns.length c9) (x.result.columns.map D.str) F9∧XP w (.slice A10 x.result.rows.length c10) (x.result.rows.map Zq.d) F10:=by
 simp only [Zo.d,Za.Zng,XQ,Ve,Um,UW,Jm,UU,ZdU,List.length_map] at h
 obtain ⟨_,_,_,_,rfl,rfl,⟨rfl,rfl,i0⟩,⟨_,_,_,_,rfl,rfl,⟨rfl,rfl,i1⟩,⟨_,_,_,_,rfl,rfl,⟨rfl,rfl,i2⟩,⟨_,_,_,_,rfl,rfl,⟨rfl,rfl,i3⟩,⟨_,_,_,_,rfl,rfl,⟨_,_,_,_,rfl,rfl,⟨rfl,rfl,i4⟩,⟨_,_,_,_,rfl,rfl,⟨rfl,rfl,i5⟩,⟨_,_,_,_,rfl,rfl,⟨rfl,rfl,i6⟩,⟨_,_,_,_,rfl,rfl,⟨rfl,rfl,i7⟩,⟨_,_,F8,_,rfl,rfl,⟨A8,c8,rfl,q8⟩,⟨_,_,F9,_,rfl,rfl,⟨A9,c9,rfl,q9⟩,⟨_,_,F10,_,rfl,rfl,⟨A10,c10,rfl,q10⟩,⟨rfl,rfl⟩⟩⟩⟩⟩⟩⟩⟩,⟨rfl,rfl⟩⟩⟩⟩⟩⟩:=h
 exact ⟨A8,c8,F8,A9,c9,F9,A10,c10,F10,rfl,by simp,i0,i1,i2,i3,i4,i5,i6,i7,q8,q9,q10⟩
set_option maxHeartbeats 4000000 in
set_option maxRecDepth 100000 in
theorem Zg1 (w:World) (v:Value) (xs:List Zo) (F:List Nat) (k:Int) (h:XP w v (xs.map Zo.d) F) (hn:F.Nodup) (hp:∀q∈F,Plain w q) (h0:0≤k) (h1:k+((Zo.cnL xs:Nat):Int)≤1099511627776):
  Calls Tryz.prog 113 #[v,.int .i64 k] w fun e w'=>e= .returned (.int .i64 (k+((Zo.cnL xs:Nat):Int)))∧XP w' v ((Zo.ZS xs k).map Zo.d) F∧(∀q∈F,Plain w' q)∧Off F w w':=by
 obtain ⟨A,c,rfl,hc,hcm⟩:=h.form
 rw [List.length_map] at h hc ⊢
 have hP:=Lib.hid hp
 have H1:=Lib.hid h1
 clear hp h1
 go_enter Tryz.func113,Tryz.ntmps113
 go_wp2_with fail
 go_loopw [1,5] (fun kk i wr=>∃j:Nat,j≤xs.length∧i= .int .i64 j∧kk= .int .i64 (k+((Zo.cnL (xs.take j):Nat):Int))∧XP wr (.slice A xs.length c) ((Zo.ZS (xs.take j) k).map Zo.d++(xs.drop j).map Zo.d) F∧(∀q∈F,Plain wr q)∧Off F w wr) (fun _ i _=>xs.length-(intOf i).toNat)
 case atStart=>exact ⟨0,Nat.zero_le _,rfl,int_eq (by rw [List.take_zero,Zo.ZJ];simp [cnS]),by rw [List.take_zero,List.drop_zero,Zo.Zz];exact h,hP.out,Off.refl _ _⟩
 case round=>
  obtain ⟨j,hj,rfl,rfl,hs,hpr,hoff⟩:=hrel
  by_cases hlt:j<xs.length
  ·have ed:xs.drop j=xs[j]::xs.drop (j+1):=List.drop_eq_getElem_cons hlt
   rw [ed,List.map_cons] at hs
   obtain ⟨b,off,ys,Fi,rfl,hbF,hbFi,hni,hsub,hr,hlen,hcell,hback⟩:=hs.Ji (W:=11) (by
    intro y hy
    rcases List.mem_append.1 hy with hy| hy
    ·exact Zo.wds _ y hy
    ·rw [←List.map_cons] at hy;exact Zo.wds _ y hy) (by omega) hn
   have el:((Zo.ZS (xs.take j) k).map Zo.d).length=j:=by rw [List.length_map,Zo.Zz,ZG,List.length_take];omega
   rw [el] at hcell hback
   have e1:Zo.cnL (xs.take (j+1))=Zo.cnL (xs.take j)+Zo.cn xs[j]:=by rw [Zo.ZJ,Zo.ZJ];exact Yj xs j hlt
   have e2:Zo.cnL (xs.take (j+1))≤Zo.cnL xs:=by rw [Zo.ZJ,Zo.ZJ];exact YT xs (j+1)
   have e3:Zo.cn xs[j]=8+Za.cnL xs[j].result.list+Z7 xs[j].result.columns+Zq.cnL xs[j].result.rows:=Zo.Ka _
   obtain ⟨kk,hkk⟩:∃kk:Int,kk=k+((Zo.cnL (xs.take j):Nat):Int):=⟨_,rfl⟩
   rw [←hkk]
   have k0:0≤kk:=by omega
   have k1:kk+8+((Za.cnL xs[j].result.list:Nat):Int)+((Z7 xs[j].result.columns:Nat):Int)+((Zq.cnL xs[j].result.rows:Nat):Int)≤1099511627776:=by have:=H1.out;rw [e3] at e1;omega
   have HE1:=Lib.hid e1
   have HE3:=Lib.hid e3
   have HK:=Lib.hid hkk
   have HB:=Lib.hid hback
   have HS:=Lib.hid hsub
   clear e1 e2 e3 hkk hback hsub ed el hs h hlen
   obtain ⟨A8,c8,F8,A9,c9,F9,A10,c10,F10,rfl,hF,_,_,_,_,_,_,_,_,q8,q9,q10⟩:=Zo.open_ hr
   clear hr
   have hF:=hF.symm
   subst hF
   obtain ⟨da8,db8,dn8,dr8⟩:=V2 hni
   obtain ⟨da9,db9,dn9,dr9⟩:=V2 dr8
   have dn10:=dr9
   have ns8:b∉F8:=fun hm=>hbFi (by simp [hm])
   have ns9:b∉F9:=fun hm=>hbFi (by simp [hm])
   have ns10:b∉F10:=fun hm=>hbFi (by simp [hm])
   have T0:Trk wr wr b (off+j*11) (off+j*11+11) _:=Trk.start (hpr b hbF) (fun q hq=>hpr q (HS.out q hq))
   have C0:=Lib.hid hcell
   clear hcell hni
   have Q8_0:=Lib.hid q8
   have P8_0:Hid (∀q∈F8,Plain wr q):=Lib.hid (fun q hq=>hpr q (HS.out q (by simp [hq])))
   clear q8
   have Q9_0:=Lib.hid q9
   have P9_0:Hid (∀q∈F9,Plain wr q):=Lib.hid (fun q hq=>hpr q (HS.out q (by simp [hq])))
   clear q9
   have Q10_0:=Lib.hid q10
   have P10_0:Hid (∀q∈F10,Plain wr q):=Lib.hid (fun q hq=>hpr q (HS.out q (by simp [hq])))
   clear q10
   have c0_0:wr.cell? ⟨b,off+j*11,none⟩=_:=C0.out 0 _ rfl
   have c0_1:=C0.out 1 _ rfl
   have c0_2:=C0.out 2 _ rfl
   have c0_3:=C0.out 3 _ rfl
   have c0_4:=C0.out 4 _ rfl
   have c0_5:=C0.out 5 _ rfl
   have c0_6:=C0.out 6 _ rfl
   have c0_7:=C0.out 7 _ rfl
   have c0_8:=C0.out 8 _ rfl
   have c0_9:=C0.out 9 _ rfl
   have c0_10:=C0.out 10 _ rfl
   have z0:=T0.here.free
   go_wp2_with fail
   refine (Xv _ _ (by omega)).mono ?_
   rintro e w1 ⟨rfl,hb1⟩
   have T1:=Trk.next (Trk.set (Trk.set (Trk.set T0 0 (by omega) _) 1 (by omega) _) 2 (by omega) _) hb1
   have C1:=Lib.hid (ZA.next (ZA.setAt (ZA.setAt (ZA.setAt C0.out 0 (by simp) _) 1 (by simp) _) 2 (by simp) _) hb1)
   have Q8_1:=Lib.hid (Rep.below (Rep.set (Rep.set (Rep.set Q8_0.out ns8 _) ns8 _) ns8 _) hb1)
   have P8_1:=Lib.hid (fun q hq=>Plain.next ((fun q hq=>Plain.set (Plain.set (Plain.set (P8_0.out q hq) _ _) _ _) _ _) q hq) hb1)
   have Q9_1:=Lib.hid (Rep.below (Rep.set (Rep.set (Rep.set Q9_0.out ns9 _) ns9 _) ns9 _) hb1)
   have P9_1:=Lib.hid (fun q hq=>Plain.next ((fun q hq=>Plain.set (Plain.set (Plain.set (P9_0.out q hq) _ _) _ _) _ _) q hq) hb1)
   have Q10_1:=Lib.hid (Rep.below (Rep.set (Rep.set (Rep.set Q10_0.out ns10 _) ns10 _) ns10 _) hb1)
   have P10_1:=Lib.hid (fun q hq=>Plain.next ((fun q hq=>Plain.set (Plain.set (Plain.set (P10_0.out q hq) _ _) _ _) _ _) q hq) hb1)
   clear hb1 c0_0 c0_1 c0_2 c0_3 c0_4 c0_5 c0_6 c0_7 c0_8 c0_9 c0_10 z0
   have c1_0:w1.cell? ⟨b,off+j*11,none⟩=_:=C1.out 0 _ rfl
   have c1_1:=C1.out 1 _ rfl
   have c1_2:=C1.out 2 _ rfl
   have c1_3:=C1.out 3 _ rfl
   have c1_4:=C1.out 4 _ rfl
   have c1_5:=C1.out 5 _ rfl
   have c1_6:=C1.out 6 _ rfl
   have c1_7:=C1.out 7 _ rfl
   have c1_8:=C1.out 8 _ rfl
   have c1_9:=C1.out 9 _ rfl
   have c1_10:=C1.out 10 _ rfl
   have z1:=T1.here.free
   go_wp2_with fail
   refine (Xv _ _ (by omega)).mono ?_
   rintro e w2 ⟨rfl,hb2⟩
   have T2:=Trk.next (Trk.set (Trk.set (Trk.set (Trk.set T1 3 (by omega) _) 4 (by omega) _) 5 (by omega) _) 6 (by omega) _) hb2
   have C2:=Lib.hid (ZA.next (ZA.setAt (ZA.setAt (ZA.setAt (ZA.setAt C1.out 3 (by simp) _) 4 (by simp) _) 5 (by simp) _) 6 (by simp) _) hb2)
   have Q8_2:=Lib.hid (Rep.below (Rep.set (Rep.set (Rep.set (Rep.set Q8_1.out ns8 _) ns8 _) ns8 _) ns8 _) hb2)
   have P8_2:=Lib.hid (fun q hq=>Plain.next ((fun q hq=>Plain.set (Plain.set (Plain.set (Plain.set (P8_1.out q hq) _ _) _ _) _ _) _ _) q hq) hb2)
   have Q9_2:=Lib.hid (Rep.below (Rep.set (Rep.set (Rep.set (Rep.set Q9_1.out ns9 _) ns9 _) ns9 _) ns9 _) hb2)
   have P9_2:=Lib.hid (fun q hq=>Plain.next ((fun q hq=>Plain.set (Plain.set (Plain.set (Plain.set (P9_1.out q hq) _ _) _ _) _ _) _ _) q hq) hb2)
   have Q10_2:=Lib.hid (Rep.below (Rep.set (Rep.set (Rep.set (Rep.set Q10_1.out ns10 _) ns10 _) ns10 _) ns10 _) hb2)
   have P10_2:=Lib.hid (fun q hq=>Plain.next ((fun q hq=>Plain.set (Plain.set (Plain.set (Plain.set (P10_1.out q hq) _ _) _ _) _ _) _ _) q hq) hb2)
   clear hb2 c1_0 c1_1 c1_2 c1_3 c1_4 c1_5 c1_6 c1_7 c1_8 c1_9 c1_10 z1
   have c2_0:w2.cell? ⟨b,off+j*11,none⟩=_:=C2.out 0 _ rfl
   have c2_1:=C2.out 1 _ rfl
   have c2_2:=C2.out 2 _ rfl
   have c2_3:=C2.out 3 _ rfl
   have c2_4:=C2.out 4 _ rfl
   have c2_5:=C2.out 5 _ rfl
   have c2_6:=C2.out 6 _ rfl
   have c2_7:=C2.out 7 _ rfl
   have c2_8:=C2.out 8 _ rfl
   have c2_9:=C2.out 9 _ rfl
   have c2_10:=C2.out 10 _ rfl
   have z2:=T2.here.free
   go_wp2_with fail
   refine (JE _ _ xs[j].result.list F8 _ (Rep.set Q8_2.out ns8 _) dn8 (fun q hq=>Plain.set (P8_2.out q hq) _ _) (by omega) (by omega)).mono ?_
   rintro e w3 ⟨rfl,q8,p8,hb3⟩
   have T3:=Trk.step (Trk.set T2 7 (by omega) _) hb3 (fun q hq=>by simp [hq]) ns8 p8
   have C3:=Lib.hid (ZA.step (ZA.setAt C2.out 7 (by simp) _) hb3 ns8)
   have Q8_3:=Lib.hid q8
   have P8_3:=Lib.hid p8
   clear q8 p8
   have dq:∀x∈F9,x∉F8:=fun x hx hm=>db8 x (by simp [hx]) hm
   have Q9_3:=Lib.hid (Off.rep hb3 (Rep.set Q9_2.out ns9 _) dq)
   have P9_3:Hid (∀q∈F9,Plain w3 q):=Lib.hid (fun x hx=>Off.plain hb3 ((fun q hq=>Plain.set (P9_2.out q hq) _ _) x hx) (dq x hx))
   clear dq
   have dq:∀x∈F10,x∉F8:=fun x hx hm=>db8 x (by simp [hx]) hm
   have Q10_3:=Lib.hid (Off.rep hb3 (Rep.set Q10_2.out ns10 _) dq)
   have P10_3:Hid (∀q∈F10,Plain w3 q):=Lib.hid (fun x hx=>Off.plain hb3 ((fun q hq=>Plain.set (P10_2.out q hq) _ _) x hx) (dq x hx))
   clear dq
   clear hb3 c2_0 c2_1 c2_2 c2_3 c2_4 c2_5 c2_6 c2_7 c2_8 c2_9 c2_10 z2
   have c3_0:w3.cell? ⟨b,off+j*11,none⟩=_:=C3.out 0 _ rfl
   have c3_1:=C3.out 1 _ rfl
   have c3_2:=C3.out 2 _ rfl
   have c3_3:=C3.out 3 _ rfl
   have c3_4:=C3.out 4 _ rfl
   have c3_5:=C3.out 5 _ rfl
   have c3_6:=C3.out 6 _ rfl
   have c3_7:=C3.out 7 _ rfl
   have c3_8:=C3.out 8 _ rfl
   have c3_9:=C3.out 9 _ rfl
   have c3_10:=C3.out 10 _ rfl
   have z3:=T3.here.free
   go_wp2_with fail
   refine (UY _ _ xs[j].result.columns F9 _ Q9_3.out dn9 (fun q hq=>P9_3.out q hq) (by omega) (by omega)).mono ?_
   rintro e w4 ⟨rfl,q9,p9,hb4⟩
   have T4:=Trk.step T3 hb4 (fun q hq=>by simp [hq]) ns9 p9
   have C4:=Lib.hid (ZA.step C3.out hb4 ns9)
   have dq:∀x∈F8,x∉F9:=fun x hx hm=>da8 x hx (by simp [hm])
   have Q8_4:=Lib.hid (Off.rep hb4 Q8_3.out dq)
   have P8_4:Hid (∀q∈F8,Plain w4 q):=Lib.hid (fun x hx=>Off.plain hb4 ((fun q hq=>P8_3.out q hq) x hx) (dq x hx))
   clear dq
   have Q9_4:=Lib.hid q9
   have P9_4:=Lib.hid p9
   clear q9 p9
   have dq:∀x∈F10,x∉F9:=fun x hx hm=>db9 x (by simp [hx]) hm
   have Q10_4:=Lib.hid (Off.rep hb4 Q10_3.out dq)
   have P10_4:Hid (∀q∈F10,Plain w4 q):=Lib.hid (fun x hx=>Off.plain hb4 ((fun q hq=>P10_3.out q hq) x hx) (dq x hx))
   clear dq
   clear hb4 c3_0 c3_1 c3_2 c3_3 c3_4 c3_5 c3_6 c3_7 c3_8 c3_9 c3_10 z3
   have c4_0:w4.cell? ⟨b,off+j*11,none⟩=_:=C4.out 0 _ rfl
   have c4_1:=C4.out 1 _ rfl
   have c4_2:=C4.out 2 _ rfl
   have c4_3:=C4.out 3 _ rfl
   have c4_4:=C4.out 4 _ rfl
   have c4_5:=C4.out 5 _ rfl
   have c4_6:=C4.out 6 _ rfl
   have c4_7:=C4.out 7 _ rfl
   have c4_8:=C4.out 8 _ rfl
   have c4_9:=C4.out 9 _ rfl
   have c4_10:=C4.out 10 _ rfl
   have z4:=T4.here.free
   go_wp2_with fail
   refine (ZaE _ _ xs[j].result.rows F10 _ Q10_4.out dn10 (fun q hq=>P10_4.out q hq) (by omega) (by omega)).mono ?_
   rintro e w5 ⟨rfl,q10,p10,hb5⟩
   have T5:=Trk.step T4 hb5 (fun q hq=>by simp [hq]) ns10 p10
   have C5:=Lib.hid (ZA.step C4.out hb5 ns10)
   have dq:∀x∈F8,x∉F10:=fun x hx hm=>da8 x hx (by simp [hm])
   have Q8_5:=Lib.hid (Off.rep hb5 Q8_4.out dq)
   have P8_5:Hid (∀q∈F8,Plain w5 q):=Lib.hid (fun x hx=>Off.plain hb5 ((fun q hq=>P8_4.out q hq) x hx) (dq x hx))
   clear dq
   have dq:∀x∈F9,x∉F10:=fun x hx hm=>da9 x hx (by simp [hm])
   have Q9_5:=Lib.hid (Off.rep hb5 Q9_4.out dq)
   have P9_5:Hid (∀q∈F9,Plain w5 q):=Lib.hid (fun x hx=>Off.plain hb5 ((fun q hq=>P9_4.out q hq) x hx) (dq x hx))
   clear dq
   have Q10_5:=Lib.hid q10
   have P10_5:=Lib.hid p10
   clear q10 p10
   clear hb5 c4_0 c4_1 c4_2 c4_3 c4_4 c4_5 c4_6 c4_7 c4_8 c4_9 c4_10 z4
   have c5_0:w5.cell? ⟨b,off+j*11,none⟩=_:=C5.out 0 _ rfl
   have c5_1:=C5.out 1 _ rfl
   have c5_2:=C5.out 2 _ rfl
   have c5_3:=C5.out 3 _ rfl
   have c5_4:=C5.out 4 _ rfl
   have c5_5:=C5.out 5 _ rfl
   have c5_6:=C5.out 6 _ rfl
   have c5_7:=C5.out 7 _ rfl
   have c5_8:=C5.out 8 _ rfl
   have c5_9:=C5.out 9 _ rfl
   have c5_10:=C5.out 10 _ rfl
   have z5:=T5.here.free
   go_wp2_with fail
   go_roundw
   case rel=>
    refine ⟨j+1,by omega,by go_num,int_eq (by have h1:=HE1.out;have h2:=HE3.out;have h3:=HK.out;rw [h2] at h1;omega), ?_,Trk.ZdW T5 hpr,hoff.trans (Off.sub (Trk.off T5) (fun q hq=>by rcases List.mem_cons.1 hq with rfl| hq;exact hbF;exact HS.out q hq))⟩
    have hm:Zo.ZS (xs.take (j+1)) k=Zo.ZS (xs.take j) k++[Zo.mark xs[j] kk]:=by
     rw [Zo.Zz,Zo.Zz,QQ xs j k hlt,HK.out,Zo.ZJ]
    rw [hm,List.map_append,List.append_assoc]
    refine HB.out _ (Zo.d (Zo.mark xs[j] kk)) _ (by simp) ?_ C5.out T5
    simp only [Zo.Vh,Zo.d,Za.Zng]
    rw [XQ]
    exact Ks (ZR (XR (XS (by omega) (by omega)) (by first | rfl| omega)) (ZR (XR (XS (by omega) (by omega)) (by first | rfl| omega)) (ZR (XR (XS (by omega) (by omega)) (by first | rfl| omega)) (ZR (Zdk (by omega) (by first | rfl| omega)) (ZR (XQ.2 (ZR (XR (XS (by omega) (by omega)) (by first | rfl| omega)) (ZR (XR (XS (by omega) (by omega)) (by first | rfl| omega)) (ZR (XR (XS (by omega) (by omega)) (by first | rfl| omega)) (ZR (Zdk (by omega) (by first | rfl| omega)) (ZR (ZcM Q8_5.out rfl) (ZR (ZcM Q9_5.out rfl) (ZR (ZcM Q10_5.out rfl) Zbx)))))))) Zbx))))) rfl (by first | rfl| simp only [List.nil_append,List.append_nil,List.append_assoc])
   case measure=>simp [intOf];omega
  ·have hj':j=xs.length:=by omega
   subst hj'
   rw [List.take_of_length_le (Nat.le_refl _),List.drop_of_length_le (Nat.le_refl _)] at hs
   rw [List.take_of_length_le (Nat.le_refl _)]
   have HQ:=Lib.hid hs
   clear hs
   go_wp2_with fail
   go_ret
   exact ⟨rfl,by have:=HQ.out;simpa using this,hpr,hoff⟩
end Go.Proofs.YtfapaeabfcogkaaGreatDoor
namespace Go.Proofs.YtfapaeabfcogkaaGreatDoor
open Go.RowKit
theorem Zn.wd_ (x:Zn):wd x.d=3:=by simp [Zn.d,wd,wdL]
theorem Zn.wds (xs:List Zn):∀d∈xs.map Zn.d,wd d=3:=by
 intro d hd
 obtain ⟨x,_,rfl⟩:=List.mem_map.1 hd
 exact x.wd_
theorem Zn.open_ {w:World} {x:Zn} {cs:List Value} {F:List Nat} (h:Rep w x.d cs F):
  ∃(A2:Option Addr) (c2:Nat) (F2:List Nat),cs=[.int .i64 x.cell,.int .i64 x.version,.slice A2 x.reads.length c2]∧F=F2∧I64 x.cell∧I64 x.version∧XP w (.slice A2 x.reads.length c2) (x.reads.map Zo.d) F2:=by
 simp only [Zn.d,XQ,Ve,Um,UW,Jm,UU,ZdU,List.length_map] at h
 obtain ⟨_,_,_,_,rfl,rfl,⟨rfl,rfl,i0⟩,⟨_,_,_,_,rfl,rfl,⟨rfl,rfl,i1⟩,⟨_,_,F2,_,rfl,rfl,⟨A2,c2,rfl,q2⟩,⟨rfl,rfl⟩⟩⟩⟩:=h
 exact ⟨A2,c2,F2,rfl,by simp,i0,i1,q2⟩
set_option maxHeartbeats 4000000 in
set_option maxRecDepth 100000 in
theorem Zg0 (w:World) (v:Value) (xs:List Zn) (F:List Nat) (k:Int) (h:XP w v (xs.map Zn.d) F) (hn:F.Nodup) (hp:∀q∈F,Plain w q) (h0:0≤k) (h1:k+((Zn.cnL xs:Nat):Int)≤1099511627776):
  Calls Tryz.prog 52 #[v,.int .i64 k] w fun e w'=>e= .returned (.int .i64 (k+((Zn.cnL xs:Nat):Int)))∧XP w' v ((Zn.ZS xs k).map Zn.d) F∧(∀q∈F,Plain w' q)∧Off F w w':=by
 obtain ⟨A,c,rfl,hc,hcm⟩:=h.form
 rw [List.length_map] at h hc ⊢
 have hP:=Lib.hid hp
 have H1:=Lib.hid h1
 clear hp h1
 go_enter Tryz.func52,Tryz.ntmps52
 go_wp2_with fail
 go_loopw [1,5] (fun kk i wr=>∃j:Nat,j≤xs.length∧i= .int .i64 j∧kk= .int .i64 (k+((Zn.cnL (xs.take j):Nat):Int))∧XP wr (.slice A xs.length c) ((Zn.ZS (xs.take j) k).map Zn.d++(xs.drop j).map Zn.d) F∧(∀q∈F,Plain wr q)∧Off F w wr) (fun _ i _=>xs.length-(intOf i).toNat)
 case atStart=>exact ⟨0,Nat.zero_le _,rfl,int_eq (by rw [List.take_zero,Zn.ZJ];simp [cnS]),by rw [List.take_zero,List.drop_zero,Zn.Zz];exact h,hP.out,Off.refl _ _⟩
 case round=>
  obtain ⟨j,hj,rfl,rfl,hs,hpr,hoff⟩:=hrel
  by_cases hlt:j<xs.length
  ·have ed:xs.drop j=xs[j]::xs.drop (j+1):=List.drop_eq_getElem_cons hlt
   rw [ed,List.map_cons] at hs
   obtain ⟨b,off,ys,Fi,rfl,hbF,hbFi,hni,hsub,hr,hlen,hcell,hback⟩:=hs.Ji (W:=3) (by
    intro y hy
    rcases List.mem_append.1 hy with hy| hy
    ·exact Zn.wds _ y hy
    ·rw [←List.map_cons] at hy;exact Zn.wds _ y hy) (by omega) hn
   have el:((Zn.ZS (xs.take j) k).map Zn.d).length=j:=by rw [List.length_map,Zn.Zz,ZG,List.length_take];omega
   rw [el] at hcell hback
   have e1:Zn.cnL (xs.take (j+1))=Zn.cnL (xs.take j)+Zn.cn xs[j]:=by rw [Zn.ZJ,Zn.ZJ];exact Yj xs j hlt
   have e2:Zn.cnL (xs.take (j+1))≤Zn.cnL xs:=by rw [Zn.ZJ,Zn.ZJ];exact YT xs (j+1)
   have e3:Zn.cn xs[j]=2+Zo.cnL xs[j].reads:=Zn.Ka _
   obtain ⟨kk,hkk⟩:∃kk:Int,kk=k+((Zn.cnL (xs.take j):Nat):Int):=⟨_,rfl⟩
   rw [←hkk]
   have k0:0≤kk:=by omega
   have k1:kk+2+((Zo.cnL xs[j].reads:Nat):Int)≤1099511627776:=by have:=H1.out;rw [e3] at e1;omega
   have HE1:=Lib.hid e1
   have HE3:=Lib.hid e3
   have HK:=Lib.hid hkk
   have HB:=Lib.hid hback
   have HS:=Lib.hid hsub
   clear e1 e2 e3 hkk hback hsub ed el hs h hlen
   obtain ⟨A2,c2,F2,rfl,hF,_,_,q2⟩:=Zn.open_ hr
   clear hr
   have hF:=hF.symm
   subst hF
   have dn2:=hni
   have ns2:b∉F2:=fun hm=>hbFi (by simp [hm])
   have T0:Trk wr wr b (off+j*3) (off+j*3+3) _:=Trk.start (hpr b hbF) (fun q hq=>hpr q (HS.out q hq))
   have C0:=Lib.hid hcell
   clear hcell hni
   have Q2_0:=Lib.hid q2
   have P2_0:Hid (∀q∈F2,Plain wr q):=Lib.hid (fun q hq=>hpr q (HS.out q (by simp [hq])))
   clear q2
   have c0_0:wr.cell? ⟨b,off+j*3,none⟩=_:=C0.out 0 _ rfl
   have c0_1:=C0.out 1 _ rfl
   have c0_2:=C0.out 2 _ rfl
   have z0:=T0.here.free
   go_wp2_with fail
   refine (Zg1 _ _ xs[j].reads F2 _ (Rep.set (Rep.set Q2_0.out ns2 _) ns2 _) dn2 (fun q hq=>Plain.set (Plain.set (P2_0.out q hq) _ _) _ _) (by omega) (by omega)).mono ?_
   rintro e w1 ⟨rfl,q2,p2,hb1⟩
   have T1:=Trk.step (Trk.set (Trk.set T0 0 (by omega) _) 1 (by omega) _) hb1 (fun q hq=>by simp [hq]) ns2 p2
   have C1:=Lib.hid (ZA.step (ZA.setAt (ZA.setAt C0.out 0 (by simp) _) 1 (by simp) _) hb1 ns2)
   have Q2_1:=Lib.hid q2
   have P2_1:=Lib.hid p2
   clear q2 p2
   clear hb1 c0_0 c0_1 c0_2 z0
   have c1_0:w1.cell? ⟨b,off+j*3,none⟩=_:=C1.out 0 _ rfl
   have c1_1:=C1.out 1 _ rfl
   have c1_2:=C1.out 2 _ rfl
   have z1:=T1.here.free
   go_wp2_with fail
   go_roundw
   case rel=>
    refine ⟨j+1,by omega,by go_num,int_eq (by have h1:=HE1.out;have h2:=HE3.out;have h3:=HK.out;rw [h2] at h1;omega), ?_,Trk.ZdW T1 hpr,hoff.trans (Off.sub (Trk.off T1) (fun q hq=>by rcases List.mem_cons.1 hq with rfl| hq;exact hbF;exact HS.out q hq))⟩
    have hm:Zn.ZS (xs.take (j+1)) k=Zn.ZS (xs.take j) k++[Zn.mark xs[j] kk]:=by
     rw [Zn.Zz,Zn.Zz,QQ xs j k hlt,HK.out,Zn.ZJ]
    rw [hm,List.map_append,List.append_assoc]
    refine HB.out _ (Zn.d (Zn.mark xs[j] kk)) _ (by simp) ?_ C1.out T1
    simp only [Zn.Vh,Zn.d]
    rw [XQ]
    exact Ks (ZR (XR (XS (by omega) (by omega)) (by first | rfl| omega)) (ZR (XR (XS (by omega) (by omega)) (by first | rfl| omega)) (ZR (ZcM Q2_1.out rfl) Zbx))) rfl (by first | rfl| simp only [List.nil_append,List.append_nil,List.append_assoc])
   case measure=>simp [intOf];omega
  ·have hj':j=xs.length:=by omega
   subst hj'
   rw [List.take_of_length_le (Nat.le_refl _),List.drop_of_length_le (Nat.le_refl _)] at hs
   rw [List.take_of_length_le (Nat.le_refl _)]
   have HQ:=Lib.hid hs
   clear hs
   go_wp2_with fail
   go_ret
   exact ⟨rfl,by have:=HQ.out;simpa using this,hpr,hoff⟩
end Go.Proofs.YtfapaeabfcogkaaGreatDoor
set_option linter.unusedSimpArgs false
set_option linter.unusedVariables false
namespace Go.Proofs.YtfapaeabfcogkaaGreatDoor
open Go.RowKit
theorem Qf.open_ {w:World} {x:Qf} {cs:List Value} {F:List Nat} (h:Rep w x.d cs F):
  ∃(A0:Option Addr) (c0:Nat) (F0:List Nat) (A1:Option Addr) (c1:Nat) (F1:List Nat),cs=[.slice A0 x.values.length c0,.slice A1 x.tapes.length c1,.int .i64 x.steps]∧F=F0++F1∧XP w (.slice A0 x.values.length c0) (x.values.map Za.d) F0∧XP w (.slice A1 x.tapes.length c1) (x.tapes.map Zn.d) F1∧I64 x.steps:=by
 simp only [Qf.d,XQ,Ve,Um,UW,Jm,UU,ZdU,List.length_map] at h
 obtain ⟨_,_,F0,_,rfl,rfl,⟨A0,c0,rfl,q0⟩,⟨_,_,F1,_,rfl,rfl,⟨A1,c1,rfl,q1⟩,⟨_,_,_,_,rfl,rfl,⟨rfl,rfl,i2⟩,⟨rfl,rfl⟩⟩⟩⟩:=h
 exact ⟨A0,c0,F0,A1,c1,F1,rfl,by simp,q0,q1,i2⟩
set_option maxHeartbeats 4000000 in
set_option maxRecDepth 100000 in
theorem Zjk (w:World) (x:Qf) (cs:List Value) (F:List Nat) (k:Int) (h:Rep w x.d cs F) (hn:F.Nodup) (hp:∀q∈F,Plain w q) (h0:0≤k) (h1:k+((x.cnV:Nat):Int)≤1099511627776):
  Calls Tryz.prog 17 #[.agg cs.toArray,.int .i64 k] w fun e w'=>e= .returned (.int .i64 (k+((x.cnV:Nat):Int)))∧Rep w' (x.XF k).d cs F∧(∀q∈F,Plain w' q)∧Off F w w':=by
 have hF:=h.lt
 obtain ⟨A0,c0,F0,A1,c1,F1,rfl,hFe,q0,q1,i2⟩:=Qf.open_ h
 have hFe:=hFe.symm
 subst hFe
 have h1':k+((Za.cnL x.values+Zn.cnL x.tapes:Nat):Int)≤1099511627776:=h1
 have hn':(F0++F1).Nodup:=by simpa only [List.append_assoc,List.append_nil] using hn
 obtain ⟨da0,db0,dn0,dr0⟩:=V2 hn'
 have dn1:=dr0
 obtain ⟨w0,hw0⟩:∃w0,w0=w.alloc (.cells #[.slice A0 x.values.length c0,.slice A1 x.tapes.length c1,.int .i64 x.steps] 43):=⟨_,rfl⟩
 have B0:Below w.heap.size w w0:=hw0▸ZrM (Below.refl _ _) _
 have kc0:w0.cell? ⟨w.heap.size,0,none⟩=some (.slice A0 x.values.length c0):=hw0▸QB w _ _ 0 _ rfl
 have kc1:w0.cell? ⟨w.heap.size,1,none⟩=some (.slice A1 x.tapes.length c1):=hw0▸QB w _ _ 1 _ rfl
 have kc2:w0.cell? ⟨w.heap.size,2,none⟩=some (.int .i64 x.steps):=hw0▸QB w _ _ 2 _ rfl
 have HW:=Lib.hid hw0
 clear hw0
 have ns0:w.heap.size∉F0:=fun hm=>by have:=hF _ (show w.heap.size∈_ by (try simp only [List.mem_append] at hm ⊢);first | (simp [hm];done)| (rcases hm with h'| h'<;>simp [h'];done)| (rcases hm with h'| h'| h'<;>simp [h'];done));omega
 have Q0:=Lib.hid (q0.below B0)
 have P0:Hid (∀q∈F0,Plain w0 q):=Lib.hid (fun q hq=>(hp q (by (try simp only [List.mem_append] at hq ⊢);first | (simp [hq];done)| (rcases hq with h'| h'<;>simp [h'];done)| (rcases hq with h'| h'| h'<;>simp [h'];done))).next B0)
 have ns1:w.heap.size∉F1:=fun hm=>by have:=hF _ (show w.heap.size∈_ by (try simp only [List.mem_append] at hm ⊢);first | (simp [hm];done)| (rcases hm with h'| h'<;>simp [h'];done)| (rcases hm with h'| h'| h'<;>simp [h'];done));omega
 have Q1:=Lib.hid (q1.below B0)
 have P1:Hid (∀q∈F1,Plain w0 q):=Lib.hid (fun q hq=>(hp q (by (try simp only [List.mem_append] at hq ⊢);first | (simp [hq];done)| (rcases hq with h'| h'<;>simp [h'];done)| (rcases hq with h'| h'| h'<;>simp [h'];done))).next B0)
 clear q0 q1
 have HOLD:=Lib.hid (And.intro hp (And.intro hF h))
 clear hp hF h
 have O0:Off (F0++F1) w w0:=Off.Zel B0
 go_enter Tryz.func17,Tryz.ntmps17
 go_wp2_with fail
 rw [←HW.out]
 refine (JE _ _ x.values F0 _ Q0.out dn0 P0.out (by omega) (by omega)).mono ?_
 rintro e w1 ⟨rfl,q0,p0,hb1⟩
 have O1:Off (F0++F1) w w1:=O0.trans (hb1.sub (fun q hq=>by (try simp only [List.mem_append] at hq ⊢);first | (simp [hq];done)| (rcases hq with h'| h'<;>simp [h'];done)| (rcases hq with h'| h'| h'<;>simp [h'];done)))
 replace kc0:=hb1.cell ns0 kc0
 replace kc1:=hb1.cell ns0 kc1
 replace kc2:=hb1.cell ns0 kc2
 replace Q0:=Lib.hid q0
 replace P0:=Lib.hid p0
 clear q0 p0
 have dq:∀x∈F1,x∉F0:=fun x hx hm=>db0 x (by (try simp only [List.mem_append] at hx ⊢);first | (simp [hx];done)| (rcases hx with h'| h'<;>simp [h'];done)| (rcases hx with h'| h'| h'<;>simp [h'];done)) hm
 replace Q1:=Lib.hid (Off.rep hb1 Q1.out dq)
 replace P1:Hid (∀q∈F1,Plain w1 q):=Lib.hid (fun x hx=>Off.plain hb1 (P1.out x hx) (dq x hx))
 clear dq
 go_wp2_with fail
 refine (Zg0 _ _ x.tapes F1 _ Q1.out dn1 P1.out (by omega) (by omega)).mono ?_
 rintro e w2 ⟨rfl,q1,p1,hb2⟩
 have O2:Off (F0++F1) w w2:=O1.trans (hb2.sub (fun q hq=>by (try simp only [List.mem_append] at hq ⊢);first | (simp [hq];done)| (rcases hq with h'| h'<;>simp [h'];done)| (rcases hq with h'| h'| h'<;>simp [h'];done)))
 replace kc0:=hb2.cell ns1 kc0
 replace kc1:=hb2.cell ns1 kc1
 replace kc2:=hb2.cell ns1 kc2
 have dq:∀x∈F0,x∉F1:=fun x hx hm=>da0 x hx (by (try simp only [List.mem_append] at hm ⊢);first | (simp [hm];done)| (rcases hm with h'| h'<;>simp [h'];done)| (rcases hm with h'| h'| h'<;>simp [h'];done))
 replace Q0:=Lib.hid (Off.rep hb2 Q0.out dq)
 replace P0:Hid (∀q∈F0,Plain w2 q):=Lib.hid (fun x hx=>Off.plain hb2 (P0.out x hx) (dq x hx))
 clear dq
 replace Q1:=Lib.hid q1
 replace P1:=Lib.hid p1
 clear q1 p1
 go_wp2_with fail
 go_ret
 have e1:((x.cnV:Nat):Int)=((Za.cnL x.values:Nat):Int)+((Zn.cnL x.tapes:Nat):Int):=by unfold Qf.cnV;omega
 refine ⟨ZgS (by omega), ?_, ?_,O2⟩
 ·refine XQ.2 (Ks (ZR (Zk8 Q0.out) (ZR (Zk8 Q1.out) (ZR (Zic i2) (Zbx (w:=_))))) ?_ ?_)
  ·first | rfl| simp only [List.cons_append,List.nil_append,List.append_nil]
  ·first | rfl| simp only [List.nil_append,List.append_nil,List.append_assoc]
 ·intro q hq
  have hq':q∈F0∨q∈F1:=by simp only [List.mem_append] at hq ⊢;(first | exact hq| (simp only [or_assoc];exact hq)| (simp only [or_assoc] at hq ⊢;exact hq))
  rcases hq' with h| h
  ·exact P0.out q h
  ·exact P1.out q h
end Go.Proofs.YtfapaeabfcogkaaGreatDoor
set_option linter.unusedSimpArgs false
set_option linter.unusedVariables false
namespace Go.Proofs.YtfapaeabfcogkaaGreatDoor
open Go.RowKit
end Go.Proofs.YtfapaeabfcogkaaGreatDoor
set_option linter.unusedSimpArgs false
set_option linter.unusedVariables false
namespace Go.Proofs.YtfapaeabfcogkaaGreatDoor
open Go.RowKit
end Go.Proofs.YtfapaeabfcogkaaGreatDoor
set_option linter.unusedSimpArgs false
set_option linter.unusedVariables false
namespace Go.Proofs.YtfapaeabfcogkaaGreatDoor
open Go.RowKit
end Go.Proofs.YtfapaeabfcogkaaGreatDoor
set_option linter.unusedSimpArgs false
set_option linter.unusedVariables false
namespace Go.Proofs.YtfapaeabfcogkaaGreatDoor
open Go.RowKit
end Go.Proofs.YtfapaeabfcogkaaGreatDoor
namespace Go.Proofs.YtfapaeabfcogkaaGreatDoor
open Go.RowKit Am
theorem ZoM {w:World} {d:D} {v:Value} {F:List Nat} (h:Uf w (.agg (fl d)) v F):∃cs,v= .agg cs.toArray∧Rep w d cs F:=by
 obtain ⟨vs,h1,h2⟩:=h
 exact ⟨vs,h1,ZdV.2 h2⟩
theorem Zp2 {w:World} {a b:DV} {vs:List Value} {F:List Nat} (h:Yl w [a,b] vs F):∃u v F1 F2,vs=[u,v]∧Uf w a u F1∧Uf w b v F2:=by
 simp only [Yl] at h
 obtain ⟨u,_,F1,_,rfl,rfl,h1,v,_,F2,_,rfl,rfl,h2,rfl,rfl⟩:=h
 exact ⟨u,v,F1,F2,rfl,h1,h2⟩
theorem Zp5 {w:World} {n:Int} {v:Value} {F:List Nat} (h:Uf w (.one (.int .i64 n)) v F):v= .int .i64 n:=by
 simp only [Uf,Rp] at h;exact h.1
theorem ZnA {N:Nat→Prop} {w:World} {FA:List Nat} {n:Int} (h:I64 n):Kq true N w FA [.one (.int .i64 n)] [.int .i64 n]:=by
 simp only [Kq,if_true,ZaN,Zkr,Ow]
 exact ⟨[],⟨_,[],[],[],rfl,rfl,⟨rfl,rfl,Zg7.2 h⟩,rfl,rfl⟩,List.nodup_nil⟩
theorem ZnX {f:Nat} {d:D} {k k':Int} (hk:I64 k') (hok:W5 Tryz.prog f=true)
  (h:∀w cs F,Rep w d cs F→Calls Tryz.prog f #[.agg cs.toArray,.int .i64 k] w fun e w'=>e= .returned (.int .i64 k')∧Below w.heap.size w w'):
  Ctr Tryz.prog f [.agg (fl d),.one (.int .i64 k)] true [.one (.int .i64 k')]:=by
 refine ⟨hok,fun w vs FA _ hv=> ?_⟩
 obtain ⟨u,v,F1,F2,rfl,h2,h3⟩:=Zp2 hv
 obtain ⟨cs,rfl,h4⟩:=ZoM h2
 obtain rfl:=Zp5 h3
 refine (h w cs F1 h4).mono ?_
 rintro e w' ⟨rfl,hb⟩
 exact ⟨[_],rfl,ZnA hk,hb⟩
theorem Off.chg {F:List Nat} {w w':World} (h:Off F w w'):Chg F w w':=⟨h.os,h.tape,h.output,h.size,h.block⟩
theorem ZgY {f:Nat} {d d':D} {k k':Int} (hk:I64 k') (hok:W5 Tryz.prog f=true)
  (h:∀w cs F,Rep w d cs F→F.Nodup→(∀q∈F,Plain w q)→Calls Tryz.prog f #[.agg cs.toArray,.int .i64 k] w fun e w'=>e= .returned (.int .i64 k')∧Rep w' d' cs F∧(∀q∈F,Plain w' q)∧Off F w w'):
  Zqp Tryz.prog f (.agg (fl d)) k (.agg (fl d')) k':=by
 refine ⟨hok,fun w v F hv hn hp=> ?_⟩
 obtain ⟨cs,rfl,h4⟩:=ZoM hv
 refine (h w cs F h4 hn hp).mono ?_
 rintro e w' ⟨rfl,h5,_,h6⟩
 exact ⟨rfl,Zg7.2 hk,⟨cs,rfl,ZdV.1 h5⟩,h6.chg⟩
end Go.Proofs.YtfapaeabfcogkaaGreatDoor
namespace Go.Proofs.YtfapaeabfcogkaaGreatDoor
open Go.RowKit Am
theorem Zru (xs:List Int):flE (xs.map D.int)=xs.map iC:=by rw [JI];rfl
theorem ZmM (xs:List ByteArray):flE (xs.map D.str)=xs.map sC:=by rw [JI];rfl
theorem Zj.ZfS (x:Zj):fl x.d=x.c:=by
 simp only [Zj.d,fl,flL,Zj.XW,List.cons_append,List.nil_append,List.append_nil]
theorem Zj.Zfo (xs:List Zj):flE (xs.map Zj.d)=xs.map Zj.c:=by rw [JI];exact List.map_congr_left fun x _=>x.ZfS
theorem Ze.ZfS (x:Ze):fl x.d=x.c:=by
 simp only [Ze.d,fl,flL,Ze.XW,Zj.Zfo,List.cons_append,List.nil_append,List.append_nil]
theorem Zji {k:Int} {x:Ze} {y:Ze×Int} (h:wr? Ze.XF Ze.cnV k x=some y):Zqp Tryz.prog 16 (.agg x.c) k (.agg y.1.c) y.2:=by
 obtain ⟨h1,h2,h3,h4⟩:=Ke h
 rw [h1,h2,←Ze.ZfS,←Ze.ZfS]
 exact ZgY (by unfold I64;omega) (by kernel_rfl) fun w v F a b e=>Zee w x v F k a b e h3 h4
theorem Zc.ZfS (x:Zc):fl x.d=x.c:=by
 simp only [Zc.d,fl,flL,Zc.XW,List.cons_append,List.nil_append,List.append_nil]
theorem Zc.Zfo (xs:List Zc):flE (xs.map Zc.d)=xs.map Zc.c:=by rw [JI];exact List.map_congr_left fun x _=>x.ZfS
theorem Zq.ZfS (x:Zq):fl x.d=x.c:=by
 simp only [Zq.d,fl,flL,Zq.XW,Zru,Zc.Zfo,List.cons_append,List.nil_append,List.append_nil]
theorem Zq.Zfo (xs:List Zq):flE (xs.map Zq.d)=xs.map Zq.c:=by rw [JI];exact List.map_congr_left fun x _=>x.ZfS
theorem Za.Zt1 {p:Za→Prop} (h:∀x,(∀y∈x.list,p y)→p x):∀x,p x
 | ⟨kind,n,step,text,list,columns,rows⟩=>h _ fun y hy=>Za.Zt1 h y
termination_by x=>SizeOf.sizeOf x
decreasing_by
 have:=List.sizeOf_lt_of_mem hy
 simp at this ⊢;omega
theorem Za.ZfS (x:Za):fl x.d=x.c:=by
 refine Za.Zt1 (p:=fun x=>fl x.d=x.c) (fun x ih=> ?_) x
 have e:flE (x.list.map Za.d)=x.list.map Za.c:=by rw [JI];exact List.map_congr_left ih
 simp only [Za.Zng,fl,flL,Za.XW,e,ZmM,Zq.Zfo,List.cons_append,List.nil_append,List.append_nil]
theorem Za.Zfo (xs:List Za):flE (xs.map Za.d)=xs.map Za.c:=by rw [JI];exact List.map_congr_left fun x _=>x.ZfS
theorem ZnM {k:Int} {x:Za} {y:Za×Int} (h:wr? Za.XF Za.cnV k x=some y):Zqp Tryz.prog 18 (.agg x.c) k (.agg y.1.c) y.2:=by
 obtain ⟨h1,h2,h3,h4⟩:=Ke h
 rw [h1,h2,←Za.ZfS,←Za.ZfS]
 exact ZgY (by unfold I64;omega) (by kernel_rfl) fun w v F a b e=>ZgZ w x v F k a b e h3 h4
theorem Zki {k z:Int} {x y:Za} (h:hd? k x.cnV=some z) (hy:y=x.XF k):Ctr Tryz.prog 19 [.agg y.c,.one (.int .i64 k)] true [.one (.int .i64 z)]:=by
 obtain ⟨h1,h2,h3⟩:=ZpL h
 rw [h1,hy,←Za.ZfS]
 exact ZnX (by unfold I64;omega) (by kernel_rfl) fun w v F a=>Zhd w x v F k a h2 h3
theorem Zo.ZfS (x:Zo):fl x.d=x.c:=by
 simp only [Zo.d,fl,flL,Zo.XW,Za.ZfS,Za.XW,List.cons_append,List.nil_append,List.append_nil]
theorem Zo.Zfo (xs:List Zo):flE (xs.map Zo.d)=xs.map Zo.c:=by rw [JI];exact List.map_congr_left fun x _=>x.ZfS
theorem Zn.ZfS (x:Zn):fl x.d=x.c:=by
 simp only [Zn.d,fl,flL,Zn.XW,Zo.Zfo,List.cons_append,List.nil_append,List.append_nil]
theorem Zn.Zfo (xs:List Zn):flE (xs.map Zn.d)=xs.map Zn.c:=by rw [JI];exact List.map_congr_left fun x _=>x.ZfS
theorem Qf.ZfS (x:Qf):fl x.d=x.c:=by
 simp only [Qf.d,fl,flL,Qf.XW,Za.Zfo,Zn.Zfo,List.cons_append,List.nil_append,List.append_nil]
theorem Zra {k:Int} {x:Qf} {y:Qf×Int} (h:wr? Qf.XF Qf.cnV k x=some y):Zqp Tryz.prog 17 (.agg x.c) k (.agg y.1.c) y.2:=by
 obtain ⟨h1,h2,h3,h4⟩:=Ke h
 rw [h1,h2,←Qf.ZfS,←Qf.ZfS]
 exact ZgY (by unfold I64;omega) (by kernel_rfl) fun w v F a b e=>Zjk w x v F k a b e h3 h4
end Go.Proofs.YtfapaeabfcogkaaGreatDoor
