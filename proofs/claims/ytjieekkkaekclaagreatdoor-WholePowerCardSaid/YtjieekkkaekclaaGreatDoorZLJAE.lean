/- Lemmas for the claim beside this text. -/
import Derived.Test.YtjieekkkaekclaaGreatDoorZBAD
import Derived.Test.YtjieekkkaekclaaGreatDoorZBAK
import Derived.Test.YtjieekkkaekclaaGreatDoorZBAN
import Derived.Test.YtjieekkkaekclaaGreatDoorZBAO
import Derived.Test.YtjieekkkaekclaaGreatDoorZBAP
import Derived.Test.YtjieekkkaekclaaGreatDoorZBAQ
import Derived.Test.YtjieekkkaekclaaGreatDoorZBAS
import Derived.Test.YtjieekkkaekclaaGreatDoorZBAT
import Derived.Test.YtjieekkkaekclaaGreatDoorZBAU
import Derived.Test.YtjieekkkaekclaaGreatDoorZBAX
import Derived.Test.YtjieekkkaekclaaGreatDoorZBAY
import Derived.Test.YtjieekkkaekclaaGreatDoorZLJAB
import Derived.Test.YtjieekkkaekclaaGreatDoorZLJAD
import Derived.Below
import Derived.ChangeOld
import Derived.OpenShut
import Derived.ProofKit
import Derived.ShutString
import Derived.SizedLaws
import Derived.WalkKit
set_option linter.all false
set_option linter.unusedVariables false
set_option linter.unusedSimpArgs false
set_option maxHeartbeats 32000000
set_option maxRecDepth 100000
namespace Go.Proofs.YtjieekkkaekclaaGreatDoor
open Go Go.RowKit Go.Pw.PrintWords Go.Proofs.YtjieekkkaekclaaGreatDoor.PR
theorem vZ:(⟨#[49]⟩:ByteArray)=Mw.T 1:=by rw[Mw.T,Mw.eY (by omega),Mw.jY (by decide)];rfl
theorem zM (n:Int):(Mw.T n).toList=Mw.jF n:=by rw[Mw.T,xN]
theorem fC (n:Int):(Mw.T n).toList=([48]:List UInt8)<->n=0:=by rw[zM,Mw.jN]
theorem zI (n:Int):Mw.B (Mw.gU n.natAbs)=Mw.T (n.natAbs:Int):=by rw[Mw.T,Mw.eY (by omega),Int.natAbs_natCast]
theorem qO {L:Nat} (h:1<=L):Mw.Sz L 1:=by have:10^1<=10^L:=Nat.pow_le_pow_right (by omega) h;show(1:Int).natAbs<10^L;rw[show(1:Int).natAbs=1 from rfl];omega
theorem sD (n m:Int) (hm0:m≠0) {L:Nat} (hn:Mw.Sz L n) (hm:Mw.Sz L m) (h1:1<=L) (hL:L<=40000):EvP (fun k=>dN.f k (Mw.T n) (Mw.T m)) (Mw.T (n.fdiv m),Mw.T (n.fmod m)):=by
 have hq:Mw.Sz L (n.tdiv m):=hn.of_le (by rw[Int.natAbs_tdiv];exact Nat.div_le_self _ _);have hr:Mw.Sz L (n.tmod m):=hn.of_le (by rw[Int.natAbs_tmod];exact Nat.mod_le _ _);have hv:=xI (n:=n) hm0;unfold dN.f;refine EvP.bind (uD n m hm0 hn hm h1 hL) ?_;dsimp only;by_cases h0:n.tmod m=0;·refine EvP.fM ((fC _).mpr h0) ?_;obtain⟨e1,e2⟩:=hv.1 (.inl h0);rw[e1,e2];exact EvP.step (f:=fun _=>some (Mw.T (n.tdiv m),Mw.T (n.tmod m))) (fun k=>by simp only[dN.j0];rw[if_neg (by simp)]) (EvP.now _)
 ·refine EvP.jC (fun h=>h0 ((fC _).mp h)) ?_;rw[kN,kN];refine EvP.bind (EvP.now _) (EvP.bind (EvP.now _) ?_);by_cases hs:decide (n.tmod m<0)=decide (m<0);(·(have hsg:sgn (n.tmod m)=sgn m:=by have:=decide_eq_decide.mp hs;unfold sgn;by_cases c:n.tmod m<0;(·rw[if_pos c,if_pos (this.mp c)]);·rw[if_neg c,if_neg (fun h=>c (this.mpr h)),if_neg h0,if_neg hm0]);obtain⟨e1,e2⟩:=hv.1 (.inr hsg);rw[e1,e2,hs];exact EvP.step (f:=fun _=>some (Mw.T (n.tdiv m),Mw.T (n.tmod m))) (fun k=>by simp only[dN.j0];rw[if_neg (by simp)]) (EvP.now _));·(have hsg:sgn (n.tmod m)≠sgn m:=by intro h;apply hs;unfold sgn at h;by_cases c:n.tmod m<0<;>by_cases c':m<0<;>simp only[c,c',h0,hm0,if_true,if_false,decide_true,decide_false]at h⊢<;>omega);obtain⟨e1,e2⟩:=hv.2 h0 hsg;rw[e1,e2];refine EvP.step (f:=fun k=>(iA.f k (Mw.T (n.tdiv m)) (⟨#[49]⟩:ByteArray)).bind fun t=>(fG.f k (Mw.T (n.tmod m)) (Mw.T m)).bind fun u=>some (t,u)) (fun k=>?_) ?_;(·simp only[dN.j0];rw[if_pos (by simpa using hs)]);·rw[vZ];exact EvP.bind (uE _ _ hq (qO h1) h1 hL) (EvP.bind (rH _ _ hr hm h1 hL) (EvP.now _))
theorem oW {n:Int} (h:Mw.Sz 400 n):Mw.gZ n=0:=by unfold Mw.gZ;rw[if_neg (by have:=h.len (by omega);omega)]
end Go.Proofs.YtjieekkkaekclaaGreatDoor
namespace Go.Proofs.YtjieekkkaekclaaGreatDoor.PR
open Go.RowKit Go.Pw.PrintWords Go.Pw.PrintLast Go.Pw.PrintMore
attribute [local go_sem] eG dZ fE fD dM dL eF dY
def eO.f:Nat->Int->Option (ByteArray)
 | 0,_=>none
 | k+1,a0=>if a0<0 then((eO.f k (wrap64 (-a0))).bind fun t412=>(if 1+t412.size<=9223372036854775807 then(some ((⟨#[45]⟩:ByteArray)++t412))else(none)))else(if a0<10 then((kV.f a0).bind fun t413=>(some t413))else((eO.f k (wrap64 (Int.tdiv a0 10))).bind fun t414=>((kV.f (Int.tmod a0 10)).bind fun t415=>(if t414.size+t415.size<=9223372036854775807 then(some (t414++t415))else(none)))))
theorem eO.calls (k:Nat):∀(a0:Int) (r:ByteArray) (w:World) (h:eO.f k a0=some r),
 Calls Tryz.prog 23 #[.int .i64 a0] w fun e w'=>e = .returned (.string r)/\Below w.heap.size w w':=by
 induction k using Nat.strongRecOn with
 | _ k ih=>
  intro a0 r w h;cases k with
  | zero=>exact absurd h (by simp[eO.f])
  | succ k=>
   simp only[eO.f]at h;have HB:=aA.mk (Below.refl w.heap.size w);have H:(if a0<0 then((eO.f k (wrap64 (-a0))).bind fun t412=>(if 1+t412.size<=9223372036854775807 then(some ((⟨#[45]⟩:ByteArray)++t412))else(none)))else(if a0<10 then((kV.f a0).bind fun t413=>(some t413))else((eO.f k (wrap64 (Int.tdiv a0 10))).bind fun t414=>((kV.f (Int.tmod a0 10)).bind fun t415=>(if t414.size+t415.size<=9223372036854775807 then(some (t414++t415))else(none))))))=some r:=h;clear h;by_cases c2:a0<0
   ·rw[if_pos c2]at H;have c2b0:decide (a0<0)=true:=decide_eq_true c2;clear c2;obtain⟨t412,A3,H⟩:=Zq.mq H;(try dsimp only at H);by_cases c4:1+t412.size<=9223372036854775807
    ·rw[if_pos c4]at H;have c4b0:=eq_true c4;have c4b1:decide (1+t412.size<=9223372036854775807)=true:=decide_eq_true c4;(try have c4b2:(9223372036854775807<1+t412.size)=False:=eq_false (Nat.not_lt.2 c4));obtain rfl:=Option.some.inj H;(go_enter Tryz.func23,Tryz.ntmps23);go_wp2_with (first|((with_reducible refine Zq.c 23 rfl ?_);refine Zq.g (some 7) Tryz.func23 #[.int .i64 (wrap64 (-a0))] ?_;(with_reducible refine(ih k (by omega) (wrap64 (-a0)) t412 _ A3.out).mono ?_);rintro e w5 ⟨rfl,hb⟩;refine⟨_,rfl,?_⟩;replace HB:=aA.mk (aC Zq.bo hb);(try clear hb);(try clear hb2);(try clear hk);(try clear hi)))
     go_ret
     exact⟨Zq.ew,Zq.bo⟩
    ·rw[if_neg c4]at H;exact absurd H (by simp)
   ·rw[if_neg c2]at H;have c2b0:decide (a0<0)=false:=decide_eq_false c2;clear c2;by_cases c6:a0<10
    ·rw[if_pos c6]at H;have c6b0:decide (a0<10)=true:=decide_eq_true c6;clear c6;obtain⟨t413,A7,H⟩:=Zq.mq H;(try dsimp only at H);obtain rfl:=Option.some.inj H;(go_enter Tryz.func23,Tryz.ntmps23);go_wp2_with (first|((with_reducible refine Zq.c 65 rfl ?_);refine Zq.g (some 12) Tryz.func65 #[.int .i64 a0] ?_;(with_reducible refine(kV.calls a0 t413 _ A7.out).mono ?_);rintro e w8 ⟨rfl,hb⟩;refine⟨_,rfl,?_⟩;replace HB:=aA.mk (aC Zq.bo hb);(try clear hb);(try clear hb2);(try clear hk);(try clear hi)))
     go_ret
     exact⟨Zq.ew,Zq.bo⟩
    ·rw[if_neg c6]at H;have c6b0:decide (a0<10)=false:=decide_eq_false c6;clear c6;obtain⟨t414,A9,H⟩:=Zq.mq H;(try dsimp only at H);obtain⟨t415,A10,H⟩:=Zq.mq H;(try dsimp only at H);by_cases c11:t414.size+t415.size<=9223372036854775807
     ·rw[if_pos c11]at H;have c11b0:=eq_true c11;have c11b1:decide (t414.size+t415.size<=9223372036854775807)=true:=decide_eq_true c11;(try have c11b2:(9223372036854775807<t414.size+t415.size)=False:=eq_false (Nat.not_lt.2 c11));obtain rfl:=Option.some.inj H;(go_enter Tryz.func23,Tryz.ntmps23);go_wp2_with (first|((with_reducible refine Zq.c 23 rfl ?_);refine Zq.g (some 15) Tryz.func23 #[.int .i64 (wrap64 (Int.tdiv a0 10))] ?_;(with_reducible refine(ih k (by omega) (wrap64 (Int.tdiv a0 10)) t414 _ A9.out).mono ?_);rintro e w12 ⟨rfl,hb⟩;refine⟨_,rfl,?_⟩;replace HB:=aA.mk (aC Zq.bo hb);(try clear hb);(try clear hb2);(try clear hk);(try clear hi))|((with_reducible refine Zq.c 65 rfl ?_);refine Zq.g (some 18) Tryz.func65 #[.int .i64 (Int.tmod a0 10)] ?_;(with_reducible refine(kV.calls (Int.tmod a0 10) t415 _ A10.out).mono ?_);rintro e w13 ⟨rfl,hb⟩;refine⟨_,rfl,?_⟩;replace HB:=aA.mk (aC Zq.bo hb);(try clear hb);(try clear hb2);(try clear hk);(try clear hi)))
      go_ret
      exact⟨Zq.ew,Zq.bo⟩
     ·rw[if_neg c11]at H;exact absurd H (by simp)
end Go.Proofs.YtjieekkkaekclaaGreatDoor.PR
namespace Go.Proofs.YtjieekkkaekclaaGreatDoor
open Go Go.RowKit Go.Pw.PrintWords Go.Proofs.YtjieekkkaekclaaGreatDoor.PR
theorem oQ {n:Int} (h:Mw.Sz 400 n):Mw.iP (Mw.jF n)=0:=by unfold Mw.iP;rw[if_pos (Mw.xU n),Mw.nR,if_neg (by have:=h.len (by omega);omega)]
theorem oO (n:Int):(Mw.T n).data.toList=Mw.jF n:=by rw[Mw.T,nQ]
theorem mZ {n:Int} (h:Mw.Sz 400 n):(Mw.T n).size<=100000:=by have:=nP h (by omega);omega
end Go.Proofs.YtjieekkkaekclaaGreatDoor
namespace Go.Proofs.YtjieekkkaekclaaGreatDoor.PR
open Go.RowKit Go.Pw.PrintWords Go.Pw.PrintLast Go.Pw.PrintMore
attribute [local go_sem] eG dZ fE fD dM dL eF dY
def fI.l0:Nat->List ByteArray->List ByteArray->Int->Option (Bool)
 | 0,_,_,_=>none
 | k+1,x0,x1,x5=>if x5<(x0.length:Int)then(if 0<=x5 then(if x5<(x1.length:Int)then(if(aU ByteArray.empty x0 x5).toList=(aU ByteArray.empty x1 x5).toList then(fI.l0 k x0 x1 (wrap64 (x5+1)))else(some false))else(none))else(none))else(some true)
def fI.f (k:Nat) (l0:List ByteArray) (l1:List ByteArray):Option (Bool):=if(l0.length:Int)=(l1.length:Int)then(fI.l0 k l0 l1 0)else(some false)
theorem fI.calls (k:Nat) (A0:Option Addr) (c0:Nat) (l0:List ByteArray) (A1:Option Addr) (c1:Nat) (l1:List ByteArray) (r:Bool) (w:World) (hr0:Kd.C Kd.string w A0 l0.length l0) (hc0:l0.length<=c0) (hr1:Kd.C Kd.string w A1 l1.length l1) (hc1:l1.length<=c1) (h:fI.f k l0 l1=some r):
 Calls Tryz.prog 28 #[.slice A0 l0.length c0,.slice A1 l1.length c1] w fun e w'=>e = .returned (.bool r)/\jD w w':=by
 have HR0:=aA.mk hr0;have HC0:=aA.mk hc0;clear hr0 hc0;have HR1:=aA.mk hr1;have HC1:=aA.mk hc1;clear hr1 hc1;have H:(if(l0.length:Int)=(l1.length:Int)then(fI.l0 k l0 l1 0)else(some false))=some r:=h;clear h;by_cases c3:(l0.length:Int)=(l1.length:Int)
 ·rw[if_pos c3]at H;have c3b0:((l0.length:Int) == (l1.length:Int))=true:=beq_iff_eq.mpr c3;have c3b1:((l0.length:Int) != (l1.length:Int))=false:=bne_eq_false_iff_eq.mpr c3;(have c3b2:(l0.length == l1.length)=true:=by first|simpa using c3|(simp at c3⊢;omega));clear c3;have H':=aA.mk H;clear H;(go_enter Tryz.func28,Tryz.ntmps28);(go_wp2);repeat(go_quiet (fail);try go_wp2)
  go_loopg [5] k (fun kq v5 w'=>∃(x5_1:Int),v5 = .int .i64 x5_1/\aA (fI.l0 kq l0 l1 x5_1=some r)/\aA (kq<=k)/\jD w w')
  case atStart=>exact⟨(0),Zq.sd,H',⟨Nat.le_refl _⟩,Zq.dr⟩
  case round=>
   clear H';(try clear c1);(try clear c2);(try clear p2);(try clear c3);(try clear c3b0);(try clear c3b1);(try clear c3b2);obtain⟨x5_1,rfl,HA,HK1,⟨m1,rfl⟩⟩:=hrel;cases gk with
   | zero=>exact absurd HA.out (by simp[fI.l0])
   | succ k1=>
    have H:=HA.out;clear HA;simp only[fI.l0]at H;by_cases c4:x5_1<(l0.length:Int)
    ·rw[if_pos c4]at H;have c4b0:decide (x5_1<(l0.length:Int))=true:=decide_eq_true c4;clear c4;by_cases c5:0<=x5_1
     ·rw[if_pos c5]at H;have c5b0:decide (0<=x5_1)=true:=decide_eq_true c5;clear c5;by_cases c6:x5_1<(l1.length:Int)
      ·rw[if_pos c6]at H;have c6b0:decide (x5_1<(l1.length:Int))=true:=decide_eq_true c6;clear c6;by_cases c7:(aU ByteArray.empty l0 x5_1).toList=(aU ByteArray.empty l1 x5_1).toList
       ·rw[if_pos c7]at H;have c7b0:((aU ByteArray.empty l0 x5_1).toList == (aU ByteArray.empty l1 x5_1).toList)=true:=beq_iff_eq.mpr c7;have c7b1:((aU ByteArray.empty l0 x5_1).toList != (aU ByteArray.empty l1 x5_1).toList)=false:=bne_eq_false_iff_eq.mpr c7;clear c7;have H':=aA.mk H;clear H;have p424:0<=(x5_1:Int):=of_decide_eq_true Zq.am;have q424:x5_1<(l0.length:Int):=of_decide_eq_true Zq.am;obtain⟨ad424,e424,hx424_0⟩:=Kd.aQ HR0.out x5_1 p424 q424;cases e424;replace p424:=eq_true p424;replace q424:=eq_true q424;have p425:0<=(x5_1:Int):=of_decide_eq_true Zq.am;have q425:x5_1<(l1.length:Int):=of_decide_eq_true Zq.am;obtain⟨ad425,e425,hx425_0⟩:=Kd.aQ HR1.out x5_1 p425 q425;cases e425;replace p425:=eq_true p425;replace q425:=eq_true q425;(go_wp2);repeat(go_quiet (fail);try go_wp2)
        go_roundg k1
        (case measure=>have:=HK1.out;omega);case rel=>exact⟨(wrap64 (x5_1+1)),Zq.sd,H',⟨by have:=HK1.out;omega⟩,Zq.dr⟩
       ·rw[if_neg c7]at H;have c7b0:((aU ByteArray.empty l0 x5_1).toList == (aU ByteArray.empty l1 x5_1).toList)=false:=beq_eq_false_iff_ne.mpr c7;have c7b1:((aU ByteArray.empty l0 x5_1).toList != (aU ByteArray.empty l1 x5_1).toList)=true:=bne_iff_ne.mpr c7;obtain rfl:=Option.some.inj H;have p424:0<=(x5_1:Int):=of_decide_eq_true Zq.am;have q424:x5_1<(l0.length:Int):=of_decide_eq_true Zq.am;obtain⟨ad424,e424,hx424_0⟩:=Kd.aQ HR0.out x5_1 p424 q424;cases e424;replace p424:=eq_true p424;replace q424:=eq_true q424;have p425:0<=(x5_1:Int):=of_decide_eq_true Zq.am;have q425:x5_1<(l1.length:Int):=of_decide_eq_true Zq.am;obtain⟨ad425,e425,hx425_0⟩:=Kd.aQ HR1.out x5_1 p425 q425;cases e425;replace p425:=eq_true p425;replace q425:=eq_true q425;(go_wp2);repeat(go_quiet (fail);try go_wp2)
        go_ret
        exact⟨by first|rfl|(simp;done)|(simp[*];done),Zq.dr⟩
      ·rw[if_neg c6]at H;exact absurd H (by simp)
     ·rw[if_neg c5]at H;exact absurd H (by simp)
    ·rw[if_neg c4]at H;have c4b0:decide (x5_1<(l0.length:Int))=false:=decide_eq_false c4;clear c4;obtain rfl:=Option.some.inj H;(go_wp2);repeat(go_quiet (fail);try go_wp2)
     go_ret
     exact⟨by first|rfl|(simp;done)|(simp[*];done),Zq.dr⟩
 ·rw[if_neg c3]at H;have c3b0:((l0.length:Int) == (l1.length:Int))=false:=beq_eq_false_iff_ne.mpr c3;have c3b1:((l0.length:Int) != (l1.length:Int))=true:=bne_iff_ne.mpr c3;(have c3b2:(l0.length == l1.length)=false:=by first|simpa using c3|(simp at c3⊢;omega));obtain rfl:=Option.some.inj H;(go_enter Tryz.func28,Tryz.ntmps28);(go_wp2);repeat(go_quiet (fail);try go_wp2)
  go_ret
  exact⟨by first|rfl|(simp;done)|(simp[*];done),Zq.dr⟩
end Go.Proofs.YtjieekkkaekclaaGreatDoor.PR
namespace Go.Proofs.YtjieekkkaekclaaGreatDoor
open Go Go.RowKit Go.Pw.PrintWords Go.Proofs.YtjieekkkaekclaaGreatDoor.PR
theorem zV (n:Nat):n<1000000000000->EvP (fun k=>eO.f k (n:Int)) (Mw.B (Mw.gU n))/\(Mw.gU n).length<=12:=by
 induction n using Nat.strongRecOn with
 | _ n ih=>
  intro hn;have hlen:(Mw.gU n).length<=12:=(Mw.iZ n 12 (by omega)).mpr (by omega);refine⟨?_,hlen⟩;by_cases h:n<10;·refine EvP.step (f:=fun _=>some (Mw.B (Mw.gU n))) (fun k=>?_) (EvP.now _);simp only[eO.f];rw[if_neg (by omega),if_pos (by omega),yB _ (by omega) (by omega),Mw.jY h,Int.toNat_natCast];rfl
  ·obtain⟨he,hl⟩:=ih (n/10) (by omega) (by omega);refine EvP.step (f:=fun k=>(eO.f k ((n/10:Nat):Int)).bind fun t=>if t.size+(Mw.B [Mw.dgt (n%10)]).size<=9223372036854775807 then some (t++Mw.B [Mw.dgt (n%10)])else none) (fun k=>?_) ?_
   ·simp only[eO.f]
    rw[if_neg (by omega),if_neg (by omega),show wrap64 (Int.tdiv (n:Int) 10)=((n/10:Nat):Int) by rw[show Int.tdiv (n:Int) 10=((n/10:Nat):Int)from rfl];exact eT (by omega) (by omega),
     show Int.tmod (n:Int) 10=((n%10:Nat):Int)from rfl,yB _ (by omega) (by omega),Int.toNat_natCast]
    rfl
   ·refine EvP.bind he (EvP.fM (by rw[eH,eH];simp only[List.length_cons,List.length_nil];omega) ?_);rw[lM,<-Mw.rW (by omega)];exact EvP.now _
theorem aDz (n:Int) (h:n.natAbs<1000000000000):EvP (fun k=>eO.f k n) (Mw.T n):=by
 by_cases h0:n<0;·obtain⟨he,hl⟩:=zV n.natAbs h;refine EvP.step (f:=fun k=>(eO.f k ((n.natAbs:Nat):Int)).bind fun t=>if 1+t.size<=9223372036854775807 then some ((⟨#[45]⟩:ByteArray)++t)else none) (fun k=>?_) ?_;(·simp only[eO.f];rw[if_pos h0,show wrap64 (-n)=(n.natAbs:Int) by rw[eT (by omega) (by omega)];omega]);·refine EvP.bind he ?_;refine EvP.fM (by rw[eH];omega) ?_;rw[show(⟨#[45]⟩:ByteArray)=Mw.B [45]from rfl,lM,Mw.T,Mw.kF h0];exact EvP.now _
 ·obtain⟨he,_⟩:=zV n.natAbs h;rw[Mw.T,Mw.eY (by omega)];(have e:((n.natAbs:Nat):Int)=n:=by omega);rw[e]at he;exact he
theorem jS:bY.f=some true:=rfl
end Go.Proofs.YtjieekkkaekclaaGreatDoor
namespace Go.Proofs.YtjieekkkaekclaaGreatDoor.PR
open Go.RowKit Go.Pw.PrintWords Go.Pw.PrintLast Go.Pw.PrintMore
attribute [local go_sem] eG dZ fE fD dM dL eF dY
def dJ.f (k:Nat) (a0:ByteArray):Option (Bool):=(cO.f k a0).bind fun t456=>(some (t456 == 0))
theorem dJ.calls (k:Nat) (a0:ByteArray) (r:Bool) (w:World) (h:dJ.f k a0=some r):
 Calls Tryz.prog 30 #[.string a0] w fun e w'=>e = .returned (.bool r)/\jD w w':=by
 have H:((cO.f k a0).bind fun t456=>(some (t456 == 0)))=some r:=h;clear h;obtain⟨t456,A2,H⟩:=Zq.mq H;try dsimp only at H
 obtain rfl:=Option.some.inj H;go_enter Tryz.func30,Tryz.ntmps30
 go_wp2_with (first|((with_reducible refine Zq.c 57 rfl ?_);refine Zq.g (some 4) Tryz.func57 #[.string a0] ?_;(with_reducible refine(cO.calls k a0 t456 _ A2.out).mono ?_);rintro e w' ⟨rfl,nd,rfl⟩;refine⟨_,rfl,?_⟩))
 go_ret
 exact⟨by first|rfl|(simp;done)|(simp[*];done),Zq.dr⟩
end Go.Proofs.YtjieekkkaekclaaGreatDoor.PR
namespace Go.Proofs.YtjieekkkaekclaaGreatDoor
open Go Go.RowKit Go.Pw.PrintWords Go.Proofs.YtjieekkkaekclaaGreatDoor.PR
theorem rT {n:Int} (h:Mw.Sz 400 n):EvP (fun k=>dJ.f k (Mw.T n)) true:=by unfold dJ.f;have hc:=lG (Mw.jF n) (by have:=nC n;have:=h.len (by omega);omega);rw[oQ h]at hc;exact EvP.bind hc (EvP.now _)
theorem aAq {L:Nat} {n:Int} (h:Mw.Sz L n):Mw.Sz L (n.natAbs:Int):=h.of_le (by rw[Int.natAbs_natCast];exact Nat.le_refl _)
end Go.Proofs.YtjieekkkaekclaaGreatDoor
namespace Go.Proofs.YtjieekkkaekclaaGreatDoor.PR
open Go.RowKit Go.Pw.PrintWords Go.Pw.PrintLast Go.Pw.PrintMore
attribute [local go_sem] eG dZ fE fD dM dL eF dY
def fV.j0:Nat->ByteArray->Int->ByteArray->Bool->List Int->Int->Int->Option (Bool)
 | 0,_,_,_,_,_,_,_=>none
 | k+1,x4,x5,x7,x72,x851000,x851001,x851002=>if x72=true then(some false)else((aV.f k x851000 x851001 x851002 8).bind fun bt869=>((aZ.f bt869.1).bind fun t872=>((fG.f k t872 (⟨#[49]⟩:ByteArray)).bind fun t873=>((eO.f k x5).bind fun t874=>((iT.f x4 t874 t873).bind fun bt875=>((dN.f k x7 t873).bind fun bt877=>(if bt875.2=0 then(if bt875.1.toList=bt877.2.toList then((bY.f).bind fun t879=>(some t879))else(some false))else(some false))))))))
def fV.f (k:Nat) (l0:List Int):Option (Bool):=(fT.f l0).bind fun bt847=>((aV.f k bt847.1 bt847.2.1 bt847.2.2 6).bind fun bt851=>((iX.f bt847.1 bt851.2.1 bt851.2.2 25).bind fun bt854=>((iX.f bt847.1 bt854.2.1 bt854.2.2 25).bind fun bt857=>((jW.f bt851.1 bt854.1).bind fun bt860=>((jW.f bt851.1 bt857.1).bind fun bt862=>((jW.f bt851.1 (wrap64 (bt854.1+bt857.1))).bind fun bt864=>(if bt860.2=0 then(if bt862.2=0 then(if bt864.2=0 then((dJ.f k bt860.1).bind fun t866=>(if t866=true then((dJ.f k bt862.1).bind fun t867=>(if t867=true then((cZ.f k bt860.1 bt862.1).bind fun t868=>(fV.j0 k bt851.1 bt854.1 bt860.1 (t868.toList != bt864.1.toList) bt847.1 bt857.2.1 bt857.2.2))else(fV.j0 k bt851.1 bt854.1 bt860.1 true bt847.1 bt857.2.1 bt857.2.2)))else(fV.j0 k bt851.1 bt854.1 bt860.1 true bt847.1 bt857.2.1 bt857.2.2)))else(fV.j0 k bt851.1 bt854.1 bt860.1 true bt847.1 bt857.2.1 bt857.2.2))else(fV.j0 k bt851.1 bt854.1 bt860.1 true bt847.1 bt857.2.1 bt857.2.2))else(fV.j0 k bt851.1 bt854.1 bt860.1 true bt847.1 bt857.2.1 bt857.2.2))))))))
theorem fV.calls (k:Nat) (A0:Option Addr) (c0:Nat) (l0:List Int) (r:Bool) (w:World) (hr0:Kd.C (Kd.int .i64) w A0 l0.length l0) (hc0:l0.length<=c0) (hG:Gw w) (h:fV.f k l0=some r):
 Calls Tryz.prog 12 #[.slice A0 l0.length c0] w fun e w'=>e = .returned (.bool r)/\Below w.heap.size w w':=by
 have HG:=aA.mk hG;clear hG;have HR0:=aA.mk hr0;have HC0:=aA.mk hc0;clear hr0 hc0;have HB:=aA.mk (Below.refl w.heap.size w);have H:((fT.f l0).bind fun bt847=>((aV.f k bt847.1 bt847.2.1 bt847.2.2 6).bind fun bt851=>((iX.f bt847.1 bt851.2.1 bt851.2.2 25).bind fun bt854=>((iX.f bt847.1 bt854.2.1 bt854.2.2 25).bind fun bt857=>((jW.f bt851.1 bt854.1).bind fun bt860=>((jW.f bt851.1 bt857.1).bind fun bt862=>((jW.f bt851.1 (wrap64 (bt854.1+bt857.1))).bind fun bt864=>(if bt860.2=0 then(if bt862.2=0 then(if bt864.2=0 then((dJ.f k bt860.1).bind fun t866=>(if t866=true then((dJ.f k bt862.1).bind fun t867=>(if t867=true then((cZ.f k bt860.1 bt862.1).bind fun t868=>(fV.j0 k bt851.1 bt854.1 bt860.1 (t868.toList != bt864.1.toList) bt847.1 bt857.2.1 bt857.2.2))else(fV.j0 k bt851.1 bt854.1 bt860.1 true bt847.1 bt857.2.1 bt857.2.2)))else(fV.j0 k bt851.1 bt854.1 bt860.1 true bt847.1 bt857.2.1 bt857.2.2)))else(fV.j0 k bt851.1 bt854.1 bt860.1 true bt847.1 bt857.2.1 bt857.2.2))else(fV.j0 k bt851.1 bt854.1 bt860.1 true bt847.1 bt857.2.1 bt857.2.2))else(fV.j0 k bt851.1 bt854.1 bt860.1 true bt847.1 bt857.2.1 bt857.2.2)))))))))=some r:=h;clear h;replace H:=Zq.mp H;obtain⟨⟨t847,t848,t849⟩,A20,H⟩:=H;try dsimp only at H
 have A2:=aA.mk A20;clear A20;replace H:=Zq.mp H;obtain⟨⟨t851,t852,t853⟩,A30,H⟩:=H;try dsimp only at H
 have A3:=aA.mk A30;clear A30;replace H:=Zq.mp H;obtain⟨⟨t854,t855,t856⟩,A40,H⟩:=H;try dsimp only at H
 have A4:=aA.mk A40;clear A40;replace H:=Zq.mp H;obtain⟨⟨t857,t858,t859⟩,A50,H⟩:=H;try dsimp only at H
 have A5:=aA.mk A50;clear A50;replace H:=Zq.mp H;obtain⟨⟨t860,t861⟩,A60,H⟩:=H;try dsimp only at H
 have A6:=aA.mk A60;clear A60;replace H:=Zq.mp H;obtain⟨⟨t862,t863⟩,A70,H⟩:=H;try dsimp only at H
 have A7:=aA.mk A70;clear A70;replace H:=Zq.mp H;obtain⟨⟨t864,t865⟩,A80,H⟩:=H;try dsimp only at H
 have A8:=aA.mk A80;clear A80;have HC9:=aA.mk H;clear H;go_enter Tryz.func12,Tryz.ntmps12
 go_upto_region 6 with(first|((with_reducible refine Zq.c 19 rfl ?_);refine Zq.g (some 19) Tryz.func19 #[.slice A0 l0.length c0] ?_;(with_reducible refine(fT.calls _ _ l0 t847 t848 t849 w _ ?side1 ?side2 ?side3 A2.out).mono ?_);(case side1=>repeat(first|(with_reducible first|exact HB.out|apply bA|apply bI|apply aT)|exact HB.out));(case side2=>exact HR0.out);(case side3=>exact HC0.out);rintro e w10 ⟨g850,rfl,hi,hb,hb2⟩;refine⟨_,rfl,?_⟩;replace HB:=aA.mk (hb);have HI850:=aA.mk (hi);(try clear hb);(try clear hb2);(try clear hk);(try clear hi))|((with_reducible refine Zq.c 20 rfl ?_);refine Zq.g (some 21) Tryz.func20 #[.pointer (some ⟨g850,0,none⟩),.int .i64 6] ?_;(with_reducible refine(aV.calls k g850 t847 t848 t849 6 t851 t852 t853 w _ ?side1 ?side2 A3.out).mono ?_);(case side1=>exact Zq.is HI850.out);(case side2=>exact Zq.bi HI850.out);rintro e w11 ⟨rfl,hi,hb,hk⟩;refine⟨_,rfl,?_⟩;replace HB:=aA.mk (hb);replace HI850:=aA.mk (hi);(try clear hb);(try clear hb2);(try clear hk);(try clear hi))|((with_reducible refine Zq.c 46 rfl ?_);refine Zq.g (some 23) Tryz.func46 #[.pointer (some ⟨g850,0,none⟩),.int .i64 25] ?_;(with_reducible refine(iX.calls g850 t847 t852 t853 25 t854 t855 t856 w _ ?side1 ?side2 A4.out).mono ?_);(case side1=>exact Zq.is HI850.out);(case side2=>exact Zq.bi HI850.out);rintro e w12 ⟨rfl,hi,hb,hk⟩;refine⟨_,rfl,?_⟩;replace HB:=aA.mk (hb);replace HI850:=aA.mk (hi);(try clear hb);(try clear hb2);(try clear hk);(try clear hi))|((with_reducible refine Zq.c 46 rfl ?_);refine Zq.g (some 25) Tryz.func46 #[.pointer (some ⟨g850,0,none⟩),.int .i64 25] ?_;(with_reducible refine(iX.calls g850 t847 t855 t856 25 t857 t858 t859 w _ ?side1 ?side2 A5.out).mono ?_);(case side1=>exact Zq.is HI850.out);(case side2=>exact Zq.bi HI850.out);rintro e w13 ⟨rfl,hi,hb,hk⟩;refine⟨_,rfl,?_⟩;replace HB:=aA.mk (hb);replace HI850:=aA.mk (hi);(try clear hb);(try clear hb2);(try clear hk);(try clear hi))|((with_reducible refine Zq.c 47 rfl ?_);refine Zq.g (some 29) Tryz.func47 #[.string t851,.int .i64 t854] ?_;(with_reducible refine(jW.calls t851 t854 t860 t861 _ ?gw A6.out).mono ?_);(case gw=>exact HG.out.below (Zq.bi HI850.out));rintro e w14 ⟨rfl,hb⟩;refine⟨_,rfl,?_⟩;have n0_:=aA.mk (bQ.below (Zq.is HI850.out) hb);have n1_:=aA.mk (aC (Zq.bi HI850.out) hb);clear HI850;clear HB;have HI850:=n0_;have HB:=n1_;clear n0_ n1_;(try clear hb);(try clear hb2);(try clear hk);(try clear hi))|((with_reducible refine Zq.c 47 rfl ?_);refine Zq.g (some 35) Tryz.func47 #[.string t851,.int .i64 t857] ?_;(with_reducible refine(jW.calls t851 t857 t862 t863 _ ?gw A7.out).mono ?_);(case gw=>exact HG.out.below (Zq.bi HI850.out));rintro e w15 ⟨rfl,hb⟩;refine⟨_,rfl,?_⟩;have n0_:=aA.mk (bQ.below (Zq.is HI850.out) hb);have n1_:=aA.mk (aC (Zq.bi HI850.out) hb);clear HI850;clear HB;have HI850:=n0_;have HB:=n1_;clear n0_ n1_;(try clear hb);(try clear hb2);(try clear hk);(try clear hi))|((with_reducible refine Zq.c 47 rfl ?_);refine Zq.g (some 43) Tryz.func47 #[.string t851,.int .i64 (wrap64 (t854+t857))] ?_;(with_reducible refine(jW.calls t851 (wrap64 (t854+t857)) t864 t865 _ ?gw A8.out).mono ?_);(case gw=>exact HG.out.below (Zq.bi HI850.out));rintro e w16 ⟨rfl,hb⟩;refine⟨_,rfl,?_⟩;have n0_:=aA.mk (bQ.below (Zq.is HI850.out) hb);have n1_:=aA.mk (aC (Zq.bi HI850.out) hb);clear HI850;clear HB;have HI850:=n0_;have HB:=n1_;clear n0_ n1_;(try clear hb);(try clear hb2);(try clear hk);(try clear hi)))
 (try simp only[Act.put,Zq.a1,Zq.a2,Zq.a3])
 go_cut [72] (fun v72 wc=>∃(kq:Nat) (x72_8:Bool),v72 = .bool x72_8/\aA (fV.j0 kq t851 t854 t860 x72_8 t847 t858 t859=some r)/\aA (kq<=k)/\aA (bQ w wc g850 t847 t858 t859)/\aA (Below w.heap.size w wc))
 case first=>
  have H:=HC9.out;clear HC9;by_cases c17:t861=0
  ·rw[if_pos c17]at H;have c17b0:(t861 == 0)=true:=beq_iff_eq.mpr c17;have c17b1:(t861 != 0)=false:=bne_eq_false_iff_eq.mpr c17;clear c17;(first|rw[c17b0]|(simp only[bG,bK];rw[c17b0])|skip);by_cases c18:t863=0
   ·rw[if_pos c18]at H;have c18b0:(t863 == 0)=true:=beq_iff_eq.mpr c18;have c18b1:(t863 != 0)=false:=bne_eq_false_iff_eq.mpr c18;clear c18;by_cases c19:t865=0
    ·rw[if_pos c19]at H;have c19b0:(t865 == 0)=true:=beq_iff_eq.mpr c19;have c19b1:(t865 != 0)=false:=bne_eq_false_iff_eq.mpr c19;clear c19;obtain⟨t866,A20,H⟩:=Zq.mq H;(try dsimp only at H);by_cases c21:t866=true
     ·subst c21;(have H1:((dJ.f k t862).bind fun t867=>(if t867=true then((cZ.f k t860 t862).bind fun t868=>(fV.j0 k t851 t854 t860 (t868.toList != t864.toList) t847 t858 t859))else(fV.j0 k t851 t854 t860 true t847 t858 t859)))=some r:=by rw[if_pos rfl]at H;exact H);clear H;have H:=H1;clear H1;obtain⟨t867,A22,H⟩:=Zq.mq H;(try dsimp only at H);by_cases c23:t867=true
      ·subst c23;(have H1:((cZ.f k t860 t862).bind fun t868=>(fV.j0 k t851 t854 t860 (t868.toList != t864.toList) t847 t858 t859))=some r:=by rw[if_pos rfl]at H;exact H);clear H;have H:=H1;clear H1;obtain⟨t868,A24,H⟩:=Zq.mq H;(try dsimp only at H);have H':=aA.mk H;clear H;go_wp2_with (first|(go_at_call 30;(with_reducible refine(dJ.calls k t860 true _ A20.out).mono ?_);rintro e w' ⟨rfl,nd,rfl⟩)|(go_at_call 30;(with_reducible refine(dJ.calls k t862 true _ A22.out).mono ?_);rintro e w' ⟨rfl,nd,rfl⟩)|(go_at_call 29;(with_reducible refine(cZ.calls k t860 t862 t868 _ A24.out).mono ?_);rintro e w25 ⟨rfl,hb⟩;have n0_:=aA.mk (bQ.below (Zq.is HI850.out) hb);have n1_:=aA.mk (aC (Zq.bi HI850.out) hb);clear HI850;clear HB;have HI850:=n0_;have HB:=n1_;clear n0_ n1_;(try clear hb);(try clear hb2);(try clear hk);(try clear hi)))
       go_meet
       case rel=>exact⟨_,((t868.toList != t864.toList)),Zq.sd,H',⟨by first|omega|exact Nat.le_refl _⟩,⟨Zq.is HI850.out⟩,⟨Zq.bi HI850.out⟩⟩
      ·replace c23:=Bool.eq_false_iff.mpr c23;subst c23;(have H1:(fV.j0 k t851 t854 t860 true t847 t858 t859)=some r:=by rw[if_neg (show ¬(false=true) by decide)]at H;exact H);clear H;have H:=H1;clear H1;have H':=aA.mk H;clear H;go_wp2_with (first|(go_at_call 30;(with_reducible refine(dJ.calls k t860 true _ A20.out).mono ?_);rintro e w' ⟨rfl,nd,rfl⟩)|(go_at_call 30;(with_reducible refine(dJ.calls k t862 false _ A22.out).mono ?_);rintro e w' ⟨rfl,nd,rfl⟩))
       go_meet
       case rel=>exact⟨_,(true),Zq.sd,H',⟨by first|omega|exact Nat.le_refl _⟩,⟨Zq.is HI850.out⟩,⟨Zq.bi HI850.out⟩⟩
     ·replace c21:=Bool.eq_false_iff.mpr c21;subst c21;(have H1:(fV.j0 k t851 t854 t860 true t847 t858 t859)=some r:=by rw[if_neg (show ¬(false=true) by decide)]at H;exact H);clear H;have H:=H1;clear H1;have H':=aA.mk H;clear H;go_wp2_with (first|(go_at_call 30;(with_reducible refine(dJ.calls k t860 false _ A20.out).mono ?_);rintro e w' ⟨rfl,nd,rfl⟩))
      go_meet
      case rel=>exact⟨_,(true),Zq.sd,H',⟨by first|omega|exact Nat.le_refl _⟩,⟨Zq.is HI850.out⟩,⟨Zq.bi HI850.out⟩⟩
    ·rw[if_neg c19]at H;have c19b0:(t865 == 0)=false:=beq_eq_false_iff_ne.mpr c19;have c19b1:(t865 != 0)=true:=bne_iff_ne.mpr c19;have H':=aA.mk H;clear H;go_wp2
     go_meet
     case rel=>exact⟨_,(true),Zq.sd,H',⟨by first|omega|exact Nat.le_refl _⟩,⟨Zq.is HI850.out⟩,⟨Zq.bi HI850.out⟩⟩
   ·rw[if_neg c18]at H;have c18b0:(t863 == 0)=false:=beq_eq_false_iff_ne.mpr c18;have c18b1:(t863 != 0)=true:=bne_iff_ne.mpr c18;have H':=aA.mk H;clear H;go_wp2
    go_meet
    case rel=>exact⟨_,(true),Zq.sd,H',⟨by first|omega|exact Nat.le_refl _⟩,⟨Zq.is HI850.out⟩,⟨Zq.bi HI850.out⟩⟩
  ·rw[if_neg c17]at H;have c17b0:(t861 == 0)=false:=beq_eq_false_iff_ne.mpr c17;have c17b1:(t861 != 0)=true:=bne_iff_ne.mpr c17;(first|rw[c17b0]|(simp only[bG,bK];rw[c17b0])|skip);have H':=aA.mk H;clear H;go_wp2
   go_meet
   case rel=>exact⟨_,(true),Zq.sd,H',⟨by first|omega|exact Nat.le_refl _⟩,⟨Zq.is HI850.out⟩,⟨Zq.bi HI850.out⟩⟩
 case rest=>
  clear HC9;(try clear c1);(try clear c2);(try clear p2);(try clear c4);(try clear p6);(try clear c12);(try clear c17);(try clear c17b0);(try clear c17b1);(try clear c18);(try clear c18b0);(try clear c18b1);(try clear c19);(try clear c19b0);(try clear c19b1);(try clear c20);(try clear c21);(try clear c23);obtain⟨kq,x72_8,rfl,HA,HJ8,HI850,HB⟩:=hcut;cases kq with
  | zero=>exact absurd HA.out (by simp[fV.j0])
  | succ kj8=>
   have H:=HA.out;clear HA;simp only[fV.j0]at H;by_cases c26:x72_8=true
   ·subst c26;(have H1:(some false)=some r:=by rw[if_pos rfl]at H;exact H);clear H;have H:=H1;clear H1;obtain rfl:=Option.some.inj H;go_wp2
    go_ret
    exact⟨Zq.ew,Zq.bi HI850.out⟩
   ·replace c26:=Bool.eq_false_iff.mpr c26;subst c26;(have H1:((aV.f kj8 t847 t858 t859 8).bind fun bt869=>((aZ.f bt869.1).bind fun t872=>((fG.f kj8 t872 (⟨#[49]⟩:ByteArray)).bind fun t873=>((eO.f kj8 t854).bind fun t874=>((iT.f t851 t874 t873).bind fun bt875=>((dN.f kj8 t860 t873).bind fun bt877=>(if bt875.2=0 then(if bt875.1.toList=bt877.2.toList then((bY.f).bind fun t879=>(some t879))else(some false))else(some false))))))))=some r:=by rw[if_neg (show ¬(false=true) by decide)]at H;exact H);clear H;have H:=H1;clear H1;replace H:=Zq.mp H;obtain⟨⟨t869,t870,t871⟩,A270,H⟩:=H;(try dsimp only at H);have A27:=aA.mk A270;clear A270;obtain⟨t872,A28,H⟩:=Zq.mq H;(try dsimp only at H);obtain⟨t873,A29,H⟩:=Zq.mq H;(try dsimp only at H);obtain⟨t874,A30,H⟩:=Zq.mq H;(try dsimp only at H);replace H:=Zq.mp H;obtain⟨⟨t875,t876⟩,A310,H⟩:=H;(try dsimp only at H);have A31:=aA.mk A310;clear A310;replace H:=Zq.mp H;obtain⟨⟨t877,t878⟩,A320,H⟩:=H;(try dsimp only at H);have A32:=aA.mk A320;clear A320;by_cases c33:t876=0
    ·rw[if_pos c33]at H;have c33b0:(t876 == 0)=true:=beq_iff_eq.mpr c33;have c33b1:(t876 != 0)=false:=bne_eq_false_iff_eq.mpr c33;clear c33;by_cases c34:t875.toList=t878.toList
     ·rw[if_pos c34]at H;have c34b0:(t875.toList == t878.toList)=true:=beq_iff_eq.mpr c34;have c34b1:(t875.toList != t878.toList)=false:=bne_eq_false_iff_eq.mpr c34;clear c34;obtain⟨t879,A35,H⟩:=Zq.mq H;(try dsimp only at H);obtain rfl:=Option.some.inj H
      go_wp2_with (first|((with_reducible refine Zq.c 20 rfl ?_);refine Zq.g (some 74) Tryz.func20 #[.pointer (some ⟨g850,0,none⟩),.int .i64 8] ?_;(with_reducible refine(aV.calls kj8 g850 t847 t858 t859 8 t869 t870 t871 w _ ?side1 ?side2 A27.out).mono ?_);(case side1=>exact Zq.is HI850.out);(case side2=>exact Zq.bi HI850.out);rintro e w36 ⟨rfl,hi,hb,hk⟩;refine⟨_,rfl,?_⟩;replace HB:=aA.mk (hb);replace HI850:=aA.mk (hi);(try clear hb);(try clear hb2);(try clear hk);(try clear hi))|((with_reducible refine Zq.c 35 rfl ?_);refine Zq.g (some 75) Tryz.func35 #[.string t869] ?_;(with_reducible refine(aZ.calls t869 t872 _ A28.out).mono ?_);rintro e w' ⟨rfl,nd,rfl⟩;refine⟨_,rfl,?_⟩)|((with_reducible refine Zq.c 32 rfl ?_);refine Zq.g (some 76) Tryz.func32 #[.string t872,.string (⟨#[49]⟩:ByteArray)] ?_;(with_reducible refine(fG.calls kj8 t872 (⟨#[49]⟩:ByteArray) t873 _ A29.out).mono ?_);rintro e w37 ⟨rfl,hb⟩;refine⟨_,rfl,?_⟩;have n0_:=aA.mk (bQ.below (Zq.is HI850.out) hb);have n1_:=aA.mk (aC (Zq.bi HI850.out) hb);clear HI850;clear HB;have HI850:=n0_;have HB:=n1_;clear n0_ n1_;(try clear hb);(try clear hb2);(try clear hk);(try clear hi))|((with_reducible refine Zq.c 23 rfl ?_);refine Zq.g (some 80) Tryz.func23 #[.int .i64 t854] ?_;(with_reducible refine(eO.calls kj8 t854 t874 _ A30.out).mono ?_);rintro e w38 ⟨rfl,hb⟩;refine⟨_,rfl,?_⟩;have n0_:=aA.mk (bQ.below (Zq.is HI850.out) hb);have n1_:=aA.mk (aC (Zq.bi HI850.out) hb);clear HI850;clear HB;have HI850:=n0_;have HB:=n1_;clear n0_ n1_;(try clear hb);(try clear hb2);(try clear hk);(try clear hi))|((with_reducible refine Zq.c 49 rfl ?_);refine Zq.g (some 82) Tryz.func49 #[.string t851,.string t874,.string t873] ?_;(with_reducible refine(iT.calls t851 t874 t873 t875 t876 _ ?gw A31.out).mono ?_);(case gw=>exact HG.out.below (Zq.bi HI850.out));rintro e w39 ⟨rfl,hb⟩;refine⟨_,rfl,?_⟩;have n0_:=aA.mk (bQ.below (Zq.is HI850.out) hb);have n1_:=aA.mk (aC (Zq.bi HI850.out) hb);clear HI850;clear HB;have HI850:=n0_;have HB:=n1_;clear n0_ n1_;(try clear hb);(try clear hb2);(try clear hk);(try clear hi))|((with_reducible refine Zq.c 52 rfl ?_);refine Zq.g (some 88) Tryz.func52 #[.string t860,.string t873] ?_;(with_reducible refine(dN.calls kj8 t860 t873 t877 t878 _ A32.out).mono ?_);rintro e w40 ⟨rfl,hb⟩;refine⟨_,rfl,?_⟩;have n0_:=aA.mk (bQ.below (Zq.is HI850.out) hb);have n1_:=aA.mk (aC (Zq.bi HI850.out) hb);clear HI850;clear HB;have HI850:=n0_;have HB:=n1_;clear n0_ n1_;(try clear hb);(try clear hb2);(try clear hk);(try clear hi))|(go_at_call 18;(with_reducible refine(bY.calls t879 _ ?gw A35.out).mono ?_);(case gw=>exact HG.out.below (Zq.bi HI850.out));rintro e w41 ⟨rfl,hb⟩;have n0_:=aA.mk (bQ.below (Zq.is HI850.out) hb);have n1_:=aA.mk (aC (Zq.bi HI850.out) hb);clear HI850;clear HB;have HI850:=n0_;have HB:=n1_;clear n0_ n1_;(try clear hb);(try clear hb2);(try clear hk);(try clear hi)))
      go_ret
      exact⟨Zq.ew,Zq.bi HI850.out⟩
     ·rw[if_neg c34]at H;have c34b0:(t875.toList == t878.toList)=false:=beq_eq_false_iff_ne.mpr c34;have c34b1:(t875.toList != t878.toList)=true:=bne_iff_ne.mpr c34;obtain rfl:=Option.some.inj H
      go_wp2_with (first|((with_reducible refine Zq.c 20 rfl ?_);refine Zq.g (some 74) Tryz.func20 #[.pointer (some ⟨g850,0,none⟩),.int .i64 8] ?_;(with_reducible refine(aV.calls kj8 g850 t847 t858 t859 8 t869 t870 t871 w _ ?side1 ?side2 A27.out).mono ?_);(case side1=>exact Zq.is HI850.out);(case side2=>exact Zq.bi HI850.out);rintro e w42 ⟨rfl,hi,hb,hk⟩;refine⟨_,rfl,?_⟩;replace HB:=aA.mk (hb);replace HI850:=aA.mk (hi);(try clear hb);(try clear hb2);(try clear hk);(try clear hi))|((with_reducible refine Zq.c 35 rfl ?_);refine Zq.g (some 75) Tryz.func35 #[.string t869] ?_;(with_reducible refine(aZ.calls t869 t872 _ A28.out).mono ?_);rintro e w' ⟨rfl,nd,rfl⟩;refine⟨_,rfl,?_⟩)|((with_reducible refine Zq.c 32 rfl ?_);refine Zq.g (some 76) Tryz.func32 #[.string t872,.string (⟨#[49]⟩:ByteArray)] ?_;(with_reducible refine(fG.calls kj8 t872 (⟨#[49]⟩:ByteArray) t873 _ A29.out).mono ?_);rintro e w43 ⟨rfl,hb⟩;refine⟨_,rfl,?_⟩;have n0_:=aA.mk (bQ.below (Zq.is HI850.out) hb);have n1_:=aA.mk (aC (Zq.bi HI850.out) hb);clear HI850;clear HB;have HI850:=n0_;have HB:=n1_;clear n0_ n1_;(try clear hb);(try clear hb2);(try clear hk);(try clear hi))|((with_reducible refine Zq.c 23 rfl ?_);refine Zq.g (some 80) Tryz.func23 #[.int .i64 t854] ?_;(with_reducible refine(eO.calls kj8 t854 t874 _ A30.out).mono ?_);rintro e w44 ⟨rfl,hb⟩;refine⟨_,rfl,?_⟩;have n0_:=aA.mk (bQ.below (Zq.is HI850.out) hb);have n1_:=aA.mk (aC (Zq.bi HI850.out) hb);clear HI850;clear HB;have HI850:=n0_;have HB:=n1_;clear n0_ n1_;(try clear hb);(try clear hb2);(try clear hk);(try clear hi))|((with_reducible refine Zq.c 49 rfl ?_);refine Zq.g (some 82) Tryz.func49 #[.string t851,.string t874,.string t873] ?_;(with_reducible refine(iT.calls t851 t874 t873 t875 t876 _ ?gw A31.out).mono ?_);(case gw=>exact HG.out.below (Zq.bi HI850.out));rintro e w45 ⟨rfl,hb⟩;refine⟨_,rfl,?_⟩;have n0_:=aA.mk (bQ.below (Zq.is HI850.out) hb);have n1_:=aA.mk (aC (Zq.bi HI850.out) hb);clear HI850;clear HB;have HI850:=n0_;have HB:=n1_;clear n0_ n1_;(try clear hb);(try clear hb2);(try clear hk);(try clear hi))|((with_reducible refine Zq.c 52 rfl ?_);refine Zq.g (some 88) Tryz.func52 #[.string t860,.string t873] ?_;(with_reducible refine(dN.calls kj8 t860 t873 t877 t878 _ A32.out).mono ?_);rintro e w46 ⟨rfl,hb⟩;refine⟨_,rfl,?_⟩;have n0_:=aA.mk (bQ.below (Zq.is HI850.out) hb);have n1_:=aA.mk (aC (Zq.bi HI850.out) hb);clear HI850;clear HB;have HI850:=n0_;have HB:=n1_;clear n0_ n1_;(try clear hb);(try clear hb2);(try clear hk);(try clear hi)))
      go_ret
      exact⟨Zq.ew,Zq.bi HI850.out⟩
    ·rw[if_neg c33]at H;have c33b0:(t876 == 0)=false:=beq_eq_false_iff_ne.mpr c33;have c33b1:(t876 != 0)=true:=bne_iff_ne.mpr c33;obtain rfl:=Option.some.inj H
     go_wp2_with (first|((with_reducible refine Zq.c 20 rfl ?_);refine Zq.g (some 74) Tryz.func20 #[.pointer (some ⟨g850,0,none⟩),.int .i64 8] ?_;(with_reducible refine(aV.calls kj8 g850 t847 t858 t859 8 t869 t870 t871 w _ ?side1 ?side2 A27.out).mono ?_);(case side1=>exact Zq.is HI850.out);(case side2=>exact Zq.bi HI850.out);rintro e w47 ⟨rfl,hi,hb,hk⟩;refine⟨_,rfl,?_⟩;replace HB:=aA.mk (hb);replace HI850:=aA.mk (hi);(try clear hb);(try clear hb2);(try clear hk);(try clear hi))|((with_reducible refine Zq.c 35 rfl ?_);refine Zq.g (some 75) Tryz.func35 #[.string t869] ?_;(with_reducible refine(aZ.calls t869 t872 _ A28.out).mono ?_);rintro e w' ⟨rfl,nd,rfl⟩;refine⟨_,rfl,?_⟩)|((with_reducible refine Zq.c 32 rfl ?_);refine Zq.g (some 76) Tryz.func32 #[.string t872,.string (⟨#[49]⟩:ByteArray)] ?_;(with_reducible refine(fG.calls kj8 t872 (⟨#[49]⟩:ByteArray) t873 _ A29.out).mono ?_);rintro e w48 ⟨rfl,hb⟩;refine⟨_,rfl,?_⟩;have n0_:=aA.mk (bQ.below (Zq.is HI850.out) hb);have n1_:=aA.mk (aC (Zq.bi HI850.out) hb);clear HI850;clear HB;have HI850:=n0_;have HB:=n1_;clear n0_ n1_;(try clear hb);(try clear hb2);(try clear hk);(try clear hi))|((with_reducible refine Zq.c 23 rfl ?_);refine Zq.g (some 80) Tryz.func23 #[.int .i64 t854] ?_;(with_reducible refine(eO.calls kj8 t854 t874 _ A30.out).mono ?_);rintro e w49 ⟨rfl,hb⟩;refine⟨_,rfl,?_⟩;have n0_:=aA.mk (bQ.below (Zq.is HI850.out) hb);have n1_:=aA.mk (aC (Zq.bi HI850.out) hb);clear HI850;clear HB;have HI850:=n0_;have HB:=n1_;clear n0_ n1_;(try clear hb);(try clear hb2);(try clear hk);(try clear hi))|((with_reducible refine Zq.c 49 rfl ?_);refine Zq.g (some 82) Tryz.func49 #[.string t851,.string t874,.string t873] ?_;(with_reducible refine(iT.calls t851 t874 t873 t875 t876 _ ?gw A31.out).mono ?_);(case gw=>exact HG.out.below (Zq.bi HI850.out));rintro e w50 ⟨rfl,hb⟩;refine⟨_,rfl,?_⟩;have n0_:=aA.mk (bQ.below (Zq.is HI850.out) hb);have n1_:=aA.mk (aC (Zq.bi HI850.out) hb);clear HI850;clear HB;have HI850:=n0_;have HB:=n1_;clear n0_ n1_;(try clear hb);(try clear hb2);(try clear hk);(try clear hi))|((with_reducible refine Zq.c 52 rfl ?_);refine Zq.g (some 88) Tryz.func52 #[.string t860,.string t873] ?_;(with_reducible refine(dN.calls kj8 t860 t873 t877 t878 _ A32.out).mono ?_);rintro e w51 ⟨rfl,hb⟩;refine⟨_,rfl,?_⟩;have n0_:=aA.mk (bQ.below (Zq.is HI850.out) hb);have n1_:=aA.mk (aC (Zq.bi HI850.out) hb);clear HI850;clear HB;have HI850:=n0_;have HB:=n1_;clear n0_ n1_;(try clear hb);(try clear hb2);(try clear hk);(try clear hi)))
     go_ret
     exact⟨Zq.ew,Zq.bi HI850.out⟩
def fV.Pure:Prop:=∀(l0:List Int),l0.length<=maxLen->l0.length*8<=140737488351232->(∀x ∈ l0,(Lit.int .i64 x).wf=true)->∃k,fV.f k l0=some true
theorem fV.walk (P:fV.Pure) (a0:Option Addr) (len0 cap0:Nat) (z0:List Int) (w:World) (hG:Gw w) (w0:(a0=none/\len0=0/\cap0=0/\z0=[])\/∃x,a0=some x/\len0<=cap0/\cap0<=maxLen/\z0.length=cap0/\(∀i,i<z0.length->w.cell? (x.add i)=some (.int .i64 (z0.getD i 0)))/\∀n ∈ z0,(Lit.int .i64 n).wf=true) (y0:len0*8<=140737488351232):
 Calls Tryz.prog 12 #[.slice a0 len0 cap0] w fun e w'=>e = .returned (.bool true)/\Below w.heap.size w w':=by
 obtain⟨l0,rfl,hr0,hm0,hw0,hc0⟩:=kX.yI w0;obtain⟨k,h⟩:=P l0 hm0 y0 hw0;refine(fV.calls k _ _ l0 true w (Kd.lS (d:=(0:Int)) (h1:=fun _=>rfl) hr0) hc0 hG h).mono ?_;rintro e w' ⟨rfl,hd⟩;exact⟨rfl,hd⟩
end Go.Proofs.YtjieekkkaekclaaGreatDoor.PR
namespace Go.Proofs.YtjieekkkaekclaaGreatDoor
open Go Go.RowKit Go.Pw.PrintWords Go.Proofs.YtjieekkkaekclaaGreatDoor.PR
theorem aFm {L:Nat} {x:Int} (h:Mw.Sz L x) (i:Nat):Mw.Sz (L*i+1) (x^i):=by show(x^i).natAbs<_;rw[Int.natAbs_pow,Nat.pow_succ,Nat.pow_mul];have h1:x.natAbs^i<=(10^L)^i:=Nat.pow_le_pow_left (Nat.le_of_lt h) i;have h2:0<(10^L)^i:=Nat.pow_pos (Nat.pow_pos (by omega));omega
theorem aGB {a:Int} {N:Nat} (h:Mw.Sz 6 a) (hN:N<=50):jW.f (Mw.T a) (N:Int)=some (Mw.T (a^N),0):=by have z:Mw.Sz 400 (a^N):=(aFm h N).mono (by omega);have h4:=h.mono (show 6<=400 by omega);unfold jW.f;rw[if_pos (mZ h4),oO,Mw.zK,if_pos (oQ h4),if_neg (by omega),if_neg (by omega),Mw.gX,Int.toNat_natCast,if_pos (oW z)];rfl
theorem aMZ {a e m:Int} (h:Mw.Sz 400 a) (he:Mw.Sz 400 e) (hm:Mw.Sz 400 m) (e0:0<=e) (m0:0<m):iT.f (Mw.T a) (Mw.T e) (Mw.T m)=some (Mw.T ((a^e.toNat).fmod m),0):=by unfold iT.f;rw[if_pos ⟨mZ h,mZ he,mZ hm⟩,oO,oO,oO,Mw.wpm,if_pos (oQ h),if_pos (oQ he),if_pos (oQ hm),Mw.gX,Mw.gX,Mw.gX,if_neg (by omega),if_neg (by omega)];rfl
theorem aGL:fV.Pure:=by
 intro l _ _ _;refine EvP.rounds (g:=fun k=>fV.f k l) ?_;unfold fV.f;have nx:∀{b a:Int},At b a->At (b+1) (a+1):=fun h=>⟨by have:=h.1;omega,by have:=h.2;omega⟩
 obtain⟨a,p1,s1,e1,z1,A1⟩:=kL l 0 7640891576956012809 6 (b:=0) ⟨by omega,by omega⟩ (by omega) (by omega);obtain⟨n0,t1,q1,n1,_,n2⟩:=aBq l p1 s1 25 A1 (by omega) (by omega);obtain⟨m0,t2,q2,m1,_,m2⟩:=aBq l (p1+1) t1 25 (nx A1) (by omega) (by omega);have n2:=n2 (by omega);have m2:=m2 (by omega);obtain⟨c,p2,s2,e2,z2,A2⟩:=kL l (p1+1+1) t2 8 (nx (nx A1)) (by omega) (by omega);obtain⟨N,rfl⟩:∃N:Nat,n0=N:=⟨n0.toNat,by omega⟩;obtain⟨M,rfl⟩:∃M:Nat,m0=M:=⟨m0.toNat,by omega⟩;have za:Mw.Sz 6 a:=z1;have w1:wrap64 ((N:Int)+(M:Int))=((N+M:Nat):Int):=by rw[Int.natCast_add];exact eT (by omega) (by omega)
 have f1:=aGB (N:=N) za (by clear w1;omega);have f2:=aGB (N:=M) za (by clear w1;omega);have f3:=aGB (N:=N+M) za (by clear w1;omega);rw[Int.pow_add]at f3;have y1:Mw.Sz 151 (a^N):=(aFm za N).mono (by clear w1;omega);have y2:Mw.Sz 151 (a^M):=(aFm za M).mono (by clear w1;omega);have zm:Mw.Sz 9 ((c.natAbs:Int)+1):=(aAq (show Mw.Sz 8 c from z2)).add (qO (by omega));have pm:=aMZ (e:=(N:Int)) (za.mono (show 6<=400 by omega)) ((show Mw.Sz 2 (N:Int)from Nat.lt_of_le_of_lt (show((N:Int)).natAbs<=25 by clear w1;omega) (by decide)).mono (by omega)) (zm.mono (show 9<=400 by omega)) (by omega) (by omega);rw[Int.toNat_natCast]at pm;rw[show fT.f l=some (l,0,7640891576956012809)from rfl];refine EvP.bind (EvP.now _) (EvP.bind e1 ?_);dsimp only;rw[q1];refine EvP.bind (EvP.now _) ?_;dsimp only;rw[q2];refine EvP.bind (EvP.now _) ?_;dsimp only;rw[f1,f2,w1,f3];clear w1;refine EvP.bind (EvP.now _) (EvP.bind (EvP.now _) (EvP.bind (EvP.now _) (EvP.fM rfl (EvP.fM rfl (EvP.fM rfl (EvP.bind (rT (y1.mono (by omega))) (EvP.fM rfl (EvP.bind (rT (y2.mono (by omega))) (EvP.fM rfl (EvP.bind (kW _ _ y1 y2 (by omega) (by omega)) ?_))))))))));dsimp only;rw[bne_self_eq_false]
 refine EvP.step (f:=fun k=>(aV.f k l (p1+1+1) t2 8).bind fun bt869=>((aZ.f bt869.1).bind fun t872=>((fG.f k t872 (Mw.T 1)).bind fun t873=>((eO.f k (N:Int)).bind fun t874=>((iT.f (Mw.T a) t874 t873).bind fun bt875=>((dN.f k (Mw.T (a^N)) t873).bind fun bt877=>(if bt875.2=0 then(if bt875.1.toList=bt877.2.toList then(some true)else(some false))else(some false)))))))) (fun k=>?_) ?_;·simp only[fV.j0];rw[if_neg (by simp),vZ,jS];rfl
 ·refine EvP.bind e2 ?_;dsimp only;rw[lL,zI];refine EvP.bind (EvP.now _) (EvP.bind (rH _ 1 (L:=8) (aAq (show Mw.Sz 8 c from z2)) (qO (by omega)) (by omega) (by omega)) (EvP.bind (aDz (N:Int) (by omega)) ?_));rw[pm];exact EvP.bind (EvP.now _) (EvP.bind (sD (a^N) _ (by omega) y1 (zm.mono (by omega)) (by omega) (by omega)) (EvP.fM rfl (EvP.fM rfl (EvP.now _))))
end Go.Proofs.YtjieekkkaekclaaGreatDoor
namespace Go.Proofs.YtjieekkkaekclaaGreatDoor.sI
open Go Go.ChangeShapes Go.WideShapes Go.ChangeAt Go.RowKit
open Go.ChangeMaps (open_string shut_string)
theorem laidOut:laidOutB Tryz.prog=true:=by kernel_rfl
def uF (k:IntKind) (w:World) (a:Option Addr) (len cap:Nat) (zs:List Int):Prop:=
 (a=none/\len=0/\cap=0/\zs=[])\/
 ∃x,a=some x/\len<=cap/\cap<=maxLen/\zs.length=cap/\(∀i,i<zs.length->w.cell? (x.add i)=some (.int k (zs.getD i 0)))/\∀n ∈ zs,(Lit.int k n).wf=true
theorem mP (os:Os) (args:Array Value):laidMetH Tryz.prog Rows.wholePowerRow.laid ((World.doorLaid Tryz.prog 69 os).forCall (fun _ _=>0) ⟨#[],args,[]⟩).memory:=
 laidMetH_of_parts3 (fuel:=8) (laidMet_of_run' 8 (by kernel_rfl) (by kernel_rfl)) (by kernel_rfl) (by kernel_rfl)
theorem lifted (os:Os) (started:os.Started) (H:Type) (enc:TypeId×Value->H):
 ReturnsInHanded {} Tryz.checked os 12 .any (fun w args=>(Rows.wholePowerSpec.pre enc Tryz.prog Tryz.f12 [] false w args/\laidMetH Tryz.prog Rows.wholePowerRow.laid w)/\sizedMet enc Tryz.prog Tryz.f12 (OpenSpec.ofChange Rows.wholePowerSpec) false w args) (Rows.wholePowerSpec.post enc Tryz.prog Tryz.f12 false true false false):=by
 refine returnsInHanded_of_change_and (C:=Tryz.checked) (X:=fun w _=>laidMetH Tryz.prog Rows.wholePowerRow.laid w) (fun _ _ _ hh h=>h.of_heap hh) sU started (by kernel_rfl) Tryz.func12 ?witness ?_;case witness=>exact ChangeSpec.witness_shaped (enc:=enc) (C:=Tryz.checked) (os:=os) (X:=fun w _=>laidMetH Tryz.prog Rows.wholePowerRow.laid w) false (World.doorLaid Tryz.prog 69 os) #[.slice none 0 0] 8 rfl (World.shaped_of_RefB (by kernel_rfl) (by kernel_rfl)) (by kernel_rfl) (by kernel_rfl) (by kernel_rfl) (mP os _)
 intro W base args ds gs before hval0 hW hcnd hsz0 hL _;have hsz:(DataW.weightsEach Tryz.prog (Tryz.f12.params.toList++Rows.wholePowerSpec.plain.varTypes Tryz.prog) (ds++gs)).all (·<=reachBytes)=true:=hsz0;have hval:∀(j:Nat) t v,Tryz.f12.params[j]?=some t->args[j]?=some v->Value.okWide Tryz.prog W .any base t v:=hval0;have hW':=hW;obtain⟨p,q,hA0,hV,rfl,hfz,hnd⟩:=hW;have hA:DataW.TrodAll enc Tryz.prog W 0 (fun _=>true) true Tryz.f12.params.toList args.toList ds p:=hA0;rw[Tryz.params12]at hA hval hsz;obtain⟨v0,vs0,d0,ds0,p0,q0,hargs,rfl,rfl,h0,r0⟩:=trodAll_cons hA;obtain⟨rfl,rfl,rfl⟩:=trodAll_nil r0;obtain rfl:args=#[v0]:=by cases args;simp_all
 obtain⟨rfl,rfl⟩:=trodVars_none hV;obtain⟨a0,len0,cap0,rfl⟩:=okWide_slice Tryz.underlying22 (hval 0 22 v0 rfl rfl);have k0:=h0;have lt0:∀x ∈ p0,x.block<W.heap.size:=by obtain⟨m,hm⟩:=k0;exact DataW.trod_lt m _ _ _ hm
 obtain⟨z0,w0⟩:∃zs,uF .i64 W a0 len0 cap0 zs:=by obtain⟨fuel,hf⟩:=h0;rcases open_ints Tryz.underlying22 Tryz.underlying3 (by kernel_rfl) hf with⟨hcs,_⟩|⟨x,l,c,zs,hcs,_,hl,hm,hz,_,hcell,hwz⟩;(·simp[Value.cells]at hcs;obtain⟨rfl,rfl,rfl⟩:=hcs;exact⟨[],.inl ⟨rfl,rfl,rfl,rfl⟩⟩);·simp[Value.cells]at hcs;obtain⟨rfl,rfl,rfl⟩:=hcs;exact⟨zs,.inr ⟨_,rfl,hl,hm,by simpa using hz,hcell,hwz⟩⟩
 have y0:len0*8<=140737488351232:=Go.Pw.PrintWords.pW hsz (j:=0) (t:=22) rfl rfl Tryz.underlying22 Tryz.underlying3 (by kernel_rfl) (by kernel_rfl) h0;clear hA0 hval0 hsz0 hsz;refine(PR.fV.walk aGL a0 len0 cap0 z0 W ⟨oJ hL,oI hL⟩ w0 y0).mono fun e W' ⟨he,bel⟩=>?_
 subst he;exact⟨_,rfl,_,_,_,[],_,[],hW',trodAll_mk1 (shut_bool Tryz.underlying4 _),(trodAll_cons_mk (Below.trod laidOut (by kernel_rfl) (of_decide_eq_true (by kernel_rfl)) k0 bel lt0) trodAll_mk0),rfl,bel.frame _,fun h=>by cases h⟩
theorem leaving (os:Os) (started:os.Started) (H:Type) (enc:TypeId×Value->H):
 ReturnsInLeavingWide {} Tryz.checked os 12 .any (fun w args=>(Rows.wholePowerSpec.pre enc Tryz.prog Tryz.f12 [] false w args/\laidMetH Tryz.prog Rows.wholePowerRow.laid w)/\sizedMet enc Tryz.prog Tryz.f12 (OpenSpec.ofChange Rows.wholePowerSpec) false w args) (Rows.wholePowerSpec.post enc Tryz.prog Tryz.f12 false true false false):=fun enter=>
 ReturnsInOpen.mono (fun _ _ _ h=>⟨h.2.1,mU h.1,h.2.2⟩) (fun _ x=>x) (lifted os started H enc enter)
theorem closed:joinedFacts Tryz.pinned.checked.prog 12 Tryz.f12 Rows.wholePowerSpec Rows.wholePowerRow=true:=by
 unfold joinedFacts;simp only[Bool.and_eq_true]
 repeat' apply And.intro
 all_goals (as_aux_lemma=>kernel_rfl)
theorem named:Tryz.pinned.checked.prog.funcNamed Rows.wholePowerRow.func=some 12:=by kernel_rfl
theorem inst:Tryz.f12.isInstance Tryz.pinned.checked.prog Rows.wholePowerRow.origin Rows.wholePowerRow.targs:=of_decide_eq_true (by kernel_rfl)
theorem wrap:Tryz.f12.isWrapper Tryz.pinned.checked.prog Rows.wholePowerRow.wrapper Rows.wholePowerRow.mainSum:=by unfold Func.isWrapper;first|(rw[if_pos (by decide +kernel)];kernel_rfl)|(rw[if_neg (by decide +kernel)];exact⟨rfl,rfl⟩)
theorem proved:Rows.WholePowerSaid:=
 OpenClaim.holds_of_wide_leaving 12 Tryz.f12 rfl rfl rfl rfl rfl rfl rfl ⟨rfl,rfl,rfl,rfl,rfl⟩ rfl rfl rfl rfl rfl named Tryz.func12 closed inst wrap
  (fun os started H enc _=>leaving os started H enc)
end Go.Proofs.YtjieekkkaekclaaGreatDoor.sI
