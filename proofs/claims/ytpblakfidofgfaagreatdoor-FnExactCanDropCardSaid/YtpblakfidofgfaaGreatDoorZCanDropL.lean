import Derived.Test.YtpblakfidofgfaaGreatDoorZJ13
import Derived.Test.YtpblakfidofgfaaGreatDoorZMd12
set_option linter.unusedSimpArgs false
set_option linter.unusedVariables false
namespace Go.Proofs.YtpblakfidofgfaaGreatDoor
open Go.RowKit Am
def Zv0 (e:Ze) (ps:List Zi) (fx fr:Nat->Bool) (id:Int):Bool:=
 decide (0<=cix e.notebook id)&&decide (cix e.notebook id<ps.length)&&decide (0<=eix e id)&&(match e.entries[(eix e id).toNat]? with | some x=>x.has| none=>false)&&fr (cix e.notebook id).toNat&&!fx (cix e.notebook id).toNat
theorem Zya {e:Ze} {ps:List Zi} {fx fr kn:Nat->Bool} {inp:Nat->List Int} (K:Kn e ps fx fr kn inp) {k:Nat} (e5:∀id,Z7 k e id=some (eix e id)/\Yz k e id=some (eix e id)) (e6:∀id,YR k e.notebook id=some (cix e.notebook id)/\Qn k e.notebook id=some (cix e.notebook id)) (id:Int):
  ZeJ k e (ZT.mk ps (tb ps.length fx) (tb ps.length fr) (tb ps.length kn) (tb ps.length inp)) id=some (Zv0 e ps fx fr id,ZT.mk ps (tb ps.length fx) (tb ps.length fr) (tb ps.length kn) (tb ps.length inp)):=by
 have hl:=K.nl;have hw:IntKind.i64.wrap ((ps.length:Int)-1)=(ps.length:Int)-1:=w64 (by omega) (by omega);have hb:=ZqC (e:=e) id;unfold ZeJ Zv0;rw [(e6 id).1,(e5 id).1];simp only [Zz8,V8,hw]
 by_cases h1:0<=cix e.notebook id
 case neg=>rw [decide_eq_false h1];simp
 by_cases h2:cix e.notebook id<ps.length
 case neg=>rw [decide_eq_false h2,decide_eq_false (show ¬cix e.notebook id<=(ps.length:Int)-1 by omega)];simp
 rw [decide_eq_true h1,decide_eq_true h2,decide_eq_true (show cix e.notebook id<=(ps.length:Int)-1 by omega)]
 by_cases h3:0<=eix e id
 case neg=>rw [decide_eq_false h3];simp
 have hel:(eix e id).toNat<e.entries.length:=by omega
 have ha:=ZJ hel;rw [show (((eix e id).toNat:Nat):Int)=eix e id by omega] at ha;have hq:(cix e.notebook id).toNat<ps.length:=by omega
 have hz:(((cix e.notebook id).toNat:Nat):Int)=cix e.notebook id:=by omega
 have t1:=ZgZ (f:=fr) hq;have t2:=ZgZ (f:=fx) hq;rw [hz] at t1 t2;rw [decide_eq_true h3,ha,ZAg hel];simp only [Bool.and_self,if_true,Zz8,Bool.true_and,t1,t2];cases e.entries[(eix e id).toNat].has<;>cases fr (cix e.notebook id).toNat<;>simp
theorem Zyb {e:Ze} {ps:List Zi} {fx fr kn:Nat->Bool} {inp:Nat->List Int} (K:Kn e ps fx fr kn inp) {k:Nat} (e3:∀i,i<ps.length->IsF e ps fr k i/\IsS e ps fr kn inp k i) (e4:∀i,i<ps.length->∃v,ZI k ps (i:Int)=some (v,fx i)) (e5:∀id,Z7 k e id=some (eix e id)/\Yz k e id=some (eix e id)) (e6:∀id,YR k e.notebook id=some (cix e.notebook id)/\Qn k e.notebook id=some (cix e.notebook id)) (id:Int) (M:List (Int×Bool)) (hM:Con ps.length fr M):
  ∃M',Con ps.length fr M'/\XB k id e ps M=some (Zv0 e ps fx fr id,M'):=by
 have hl:=K.nl;have hb:=ZqC (e:=e) id;unfold XB Zv0;rw [(e6 id).2,(e5 id).2];simp only [Zz8]
 by_cases h3:0<=eix e id
 case neg=>exact ⟨M,hM,by rw [decide_eq_true (show eix e id<0 by omega),decide_eq_false h3];simp⟩
 have hel:(eix e id).toNat<e.entries.length:=by omega
 have ha:=ZJ hel;rw [show (((eix e id).toNat:Nat):Int)=eix e id by omega] at ha;rw [decide_eq_false (show ¬eix e id<0 by omega),decide_eq_true h3,ha,ZAg hel];simp only [ZAf,if_false,Zz8];cases hh:e.entries[(eix e id).toNat].has
 ·exact ⟨M,hM,by simp⟩
 by_cases h1:0<=cix e.notebook id
 case neg=>exact ⟨M,hM,by rw [decide_eq_true (show cix e.notebook id<0 by omega),decide_eq_false h1];simp⟩
 by_cases h2:cix e.notebook id<ps.length
 case neg=>exact ⟨M,hM,by rw [decide_eq_false (show ¬cix e.notebook id<0 by omega),decide_eq_false h2,decide_eq_true (show (ps.length:Int)<=cix e.notebook id by omega)];simp⟩
 have hq:(cix e.notebook id).toNat<ps.length:=by omega
 have hz:(((cix e.notebook id).toNat:Nat):Int)=cix e.notebook id:=by omega
 obtain ⟨M',c,q⟩:=(e3 _ hq).1 M hM;obtain ⟨v,hv⟩:=e4 _ hq;rw [hz] at q hv;refine ⟨M',c, ?_⟩;rw [decide_eq_true h1,decide_eq_true h2,decide_eq_false (show ¬cix e.notebook id<0 by omega),decide_eq_false (show ¬(ps.length:Int)<=cix e.notebook id by omega)];simp only [Bool.not_true,ZAf,if_false,q,Zz8,hv];cases fr (cix e.notebook id).toNat<;>simp
theorem ZkQ (e:Ze) (_h:Zbb e.c) (b:e.bk<=1048576) (id:Int) (_hi:DOk (.int .i64 id)):∃v,Ev fun k=>ZbY k e id=some v/\Zch k e id=some v:=by
 obtain ⟨ps,fx,fr,kn,inp,K⟩:=Zhd e b;refine ⟨Zv0 e ps fx fr id,K.ev.mono fun k ⟨e1,e2,e3,e4,e5,e6,hk⟩=> ?_⟩;obtain ⟨M',_,q⟩:=Zyb K e3 e4 e5 e6 id [] Con.nil;unfold ZbY Zch;rw [e1,e2];simp only [Zz8,Zya K e5 e6 id,q,and_self]
end Go.Proofs.YtpblakfidofgfaaGreatDoor
