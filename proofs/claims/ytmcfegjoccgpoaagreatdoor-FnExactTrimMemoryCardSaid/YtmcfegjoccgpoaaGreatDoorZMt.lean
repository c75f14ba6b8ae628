import Derived.Test.YtmcfegjoccgpoaaGreatDoorZMy
set_option linter.unusedSimpArgs false
set_option linter.unusedVariables false
set_option maxHeartbeats 1000000
set_option maxRecDepth 100000
namespace Go.Proofs.YtmcfegjoccgpoaaGreatDoor.Am
open Go.RowKit
theorem ZzS {B:Nat} {a w:World} (h:Below B a w) (j:B<=w.heap.size) (o:Obj):Below B a (w.alloc o):=h.alloc j o
theorem Zxy (w:World) (m:Int):(convert 186 9 (.slice (some ⟨w.heap.size,0,none⟩) 1 1)).run Tryz.prog (w.alloc (.cells #[.int .u8 m] 5))= .ok (.string (strOfNums [m])) (w.alloc (.cells #[.int .u8 m] 5)):=
 run_convert_bytes_arg _ 186 5 Tryz.underlying186 Tryz.underlying5 _ 0 1 1 [m] rfl (λi hi=>by
  obtain rfl:i=0:=WF
  simp) 9 Tryz.underlying9
theorem Zpj (r:Nat) (j:List UInt8):strOfNums [48+(r:Int)%10]++⟨j.toArray⟩=⟨(UInt8.ofNat (48+r%10)::j).toArray⟩:=by
 have e:(48+(r:Int)%10).toNat=48+r%10:=WF
 apply ByteArray.ext;rw [ByteArray.data_append];simp [strOfNums,e]
theorem Zvs (j:List UInt8):(⟨#[109]⟩:Ma)++⟨j.toArray⟩=⟨(109::j).toArray⟩:=by
 apply ByteArray.ext;rw [ByteArray.data_append];simp
theorem Z5:MTx Tryz.prog 89:=by
 intro w k _ h1
 by_cases h0:k<=0
 ·go_enter Tryz.func89,Tryz.ntmps89
  go_wp2_with fail
  go_ret
  exact ⟨by unfold ZjX;rw [if_pos h0];rfl,Below.refl _ _⟩
 ·have hfin:ZjX k=⟨(109::ZvS k.toNat k.toNat []).toArray⟩:=by unfold ZjX;rw [if_neg h0]
  have HF:=Lib.hid hfin;clear hfin;obtain ⟨n,rfl⟩:=Int.eq_ofNat_of_zero_le (show 0<=k from WF);rw [Gb] at HF;have hd:decide ((n:Int)<=0)=false:=by simp;omega
  go_enter Tryz.func89,Tryz.ntmps89
  go_wp2_with fail
  go_loopw [0,3] (λkk out wr=>∃(r f:Nat) (acc:List UInt8),kk= .int .i64 r/\r<=f/\r<=n/\out= .string ⟨acc.toArray⟩/\ZvS f r acc=ZvS n n []/\acc.length+r<=n/\Below w.heap.size w wr) (λkk _ _=>(intOf kk).toNat)
  case atStart=>exact ⟨n,n,[],rfl,ZEN _,ZEN _,rfl,rfl,Ha,Below.refl _ _⟩
  case round=>
   obtain ⟨r,f,acc,rfl,hrf,hrn,rfl,hdig,hlen,hb⟩:=hrel;have HD:=Lib.hid hdig;clear hdig
   by_cases hr:r=0
   ·subst hr
    go_wp2_with fail
    go_ret
    refine ⟨?_,hb⟩;show Ending.returned (.string _)=_;rw [HF.out,Zvs,<-HD.out];cases f<;>rfl
   ·have hr0:0<r:=by omega
    have kc:=Zxy;have hz:(strOfNums [48+(r:Int)%10]).size=1:=by rw [strOfNums_size];rfl
    have hac:(⟨acc.toArray⟩:Ma).size=acc.length:=by show acc.toArray.size=_;simp
    go_wp2_with fail
    go_roundw
    case rel=>
     obtain ⟨g,rfl⟩:∃g,f=g+1:=⟨f-1,WF⟩;refine ⟨r/10,g,UInt8.ofNat (48+r%10)::acc,by go_num,WF,WF,by rw [Zpj], ?_,by simp only [HL];omega,ZzS hb hb.size _⟩;rw [<-HD.out]
     conv=>rhs;unfold ZvS
     rw [if_neg hr]
    case measure=>simp [intOf];omega
end Go.Proofs.YtmcfegjoccgpoaaGreatDoor.Am
