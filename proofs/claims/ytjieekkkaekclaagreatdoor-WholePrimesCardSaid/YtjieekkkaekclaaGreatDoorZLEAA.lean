/- Proved: WholePrimes. Conditions: none beyond the statement's own. -/
import Derived.Test.YtjieekkkaekclaaGreatDoorCards
import Derived.Test.YtjieekkkaekclaaGreatDoorTie
import Derived.Test.YtjieekkkaekclaaGreatDoorZBAD
import Derived.Test.YtjieekkkaekclaaGreatDoorZBAK
import Derived.Test.YtjieekkkaekclaaGreatDoorZBAM
import Derived.Test.YtjieekkkaekclaaGreatDoorZBAN
import Derived.Test.YtjieekkkaekclaaGreatDoorZBAO
import Derived.Test.YtjieekkkaekclaaGreatDoorZBAP
import Derived.Test.YtjieekkkaekclaaGreatDoorZBAQ
import Derived.Test.YtjieekkkaekclaaGreatDoorZBAR
import Derived.Test.YtjieekkkaekclaaGreatDoorZBAS
import Derived.Test.YtjieekkkaekclaaGreatDoorZBAT
import Derived.Test.YtjieekkkaekclaaGreatDoorZBAU
import Derived.Test.YtjieekkkaekclaaGreatDoorZBAV
import Derived.Test.YtjieekkkaekclaaGreatDoorZBAW
import Derived.Test.YtjieekkkaekclaaGreatDoorZBAX
import Derived.Test.YtjieekkkaekclaaGreatDoorZBAY
import Derived.Below
import Derived.ChangeOld
import Derived.OpenShut
import Derived.ProofKit
import Derived.ShutString
import Derived.SizedLaws
import Derived.WalkKit
set_option linter.all false
set_option linter.unusedVariables false
set_option linter.unusedSimpArgs false
set_option maxHeartbeats 32000000
set_option maxRecDepth 100000
namespace Go.Proofs.YtjieekkkaekclaaGreatDoor
open Go Go.RowKit Go.Pw.PrintWords
def qC.f (a0:ByteArray):Option (List ByteArray×Int):=if a0.size<=100000 then some (bts (Mw.factor a0.data.toList).1,(Mw.factor a0.data.toList).2)else none
theorem qC.calls (a0:ByteArray) (r1:List ByteArray) (r2:Int) (w:World) (hG:Gw w) (h:qC.f a0=some (r1,r2)):Calls Tryz.prog 26 #[.string a0] w fun e w'=>∃v0_:Value,e = .returned (.tuple #[v0_,.int .i64 r2])/\Kd.R Kd.string 9 w' w.heap.size (fun _=>True) v0_ r1/\Below w.heap.size w w':=by
 unfold qC.f at h;split at h;·rename_i hc;(obtain⟨rfl,rfl⟩:_/\_:=by simpa only[Option.some.injEq,Prod.mk.injEq]using h);exact aDt a0 w hc hG.1 hG.2
 ·cases h
end Go.Proofs.YtjieekkkaekclaaGreatDoor
namespace Go.Proofs.YtjieekkkaekclaaGreatDoor
open Go Go.RowKit Go.Pw.PrintWords Go.Proofs.YtjieekkkaekclaaGreatDoor.PR
theorem nS {α:Type} (d:α) (xs:List α) (i:Nat):aU d xs (i:Int)=xs.getD i d:=by rw[aU,Int.toNat_natCast]
end Go.Proofs.YtjieekkkaekclaaGreatDoor
namespace Go.Proofs.YtjieekkkaekclaaGreatDoor.PR
open Go.RowKit Go.Pw.PrintWords Go.Pw.PrintLast Go.Pw.PrintMore
attribute [local go_sem] eG dZ fE fD dM dL eF dY
def eO.f:Nat->Int->Option (ByteArray)
 | 0,_=>none
 | k+1,a0=>if a0<0 then((eO.f k (wrap64 (-a0))).bind fun t412=>(if 1+t412.size<=9223372036854775807 then(some ((⟨#[45]⟩:ByteArray)++t412))else(none)))else(if a0<10 then((kV.f a0).bind fun t413=>(some t413))else((eO.f k (wrap64 (Int.tdiv a0 10))).bind fun t414=>((kV.f (Int.tmod a0 10)).bind fun t415=>(if t414.size+t415.size<=9223372036854775807 then(some (t414++t415))else(none)))))
theorem eO.calls (k:Nat):∀(a0:Int) (r:ByteArray) (w:World) (h:eO.f k a0=some r),
 Calls Tryz.prog 23 #[.int .i64 a0] w fun e w'=>e = .returned (.string r)/\Below w.heap.size w w':=by
 induction k using Nat.strongRecOn with
 | _ k ih=>
  intro a0 r w h;cases k with
  | zero=>exact absurd h (by simp[eO.f])
  | succ k=>
   simp only[eO.f]at h;have HB:=aA.mk (Below.refl w.heap.size w);have H:(if a0<0 then((eO.f k (wrap64 (-a0))).bind fun t412=>(if 1+t412.size<=9223372036854775807 then(some ((⟨#[45]⟩:ByteArray)++t412))else(none)))else(if a0<10 then((kV.f a0).bind fun t413=>(some t413))else((eO.f k (wrap64 (Int.tdiv a0 10))).bind fun t414=>((kV.f (Int.tmod a0 10)).bind fun t415=>(if t414.size+t415.size<=9223372036854775807 then(some (t414++t415))else(none))))))=some r:=h;clear h;by_cases c2:a0<0
   ·rw[if_pos c2]at H;have c2b0:decide (a0<0)=true:=decide_eq_true c2;clear c2;obtain⟨t412,A3,H⟩:=Zq.mq H;(try dsimp only at H);by_cases c4:1+t412.size<=9223372036854775807
    ·rw[if_pos c4]at H;have c4b0:=eq_true c4;have c4b1:decide (1+t412.size<=9223372036854775807)=true:=decide_eq_true c4;(try have c4b2:(9223372036854775807<1+t412.size)=False:=eq_false (Nat.not_lt.2 c4));obtain rfl:=Option.some.inj H;(go_enter Tryz.func23,Tryz.ntmps23);go_wp2_with (first|((with_reducible refine Zq.c 23 rfl ?_);refine Zq.g (some 7) Tryz.func23 #[.int .i64 (wrap64 (-a0))] ?_;(with_reducible refine(ih k (by omega) (wrap64 (-a0)) t412 _ A3.out).mono ?_);rintro e w5 ⟨rfl,hb⟩;refine⟨_,rfl,?_⟩;replace HB:=aA.mk (aC Zq.bo hb);(try clear hb);(try clear hb2);(try clear hk);(try clear hi)))
     go_ret
     exact⟨Zq.ew,Zq.bo⟩
    ·rw[if_neg c4]at H;exact absurd H (by simp)
   ·rw[if_neg c2]at H;have c2b0:decide (a0<0)=false:=decide_eq_false c2;clear c2;by_cases c6:a0<10
    ·rw[if_pos c6]at H;have c6b0:decide (a0<10)=true:=decide_eq_true c6;clear c6;obtain⟨t413,A7,H⟩:=Zq.mq H;(try dsimp only at H);obtain rfl:=Option.some.inj H;(go_enter Tryz.func23,Tryz.ntmps23);go_wp2_with (first|((with_reducible refine Zq.c 65 rfl ?_);refine Zq.g (some 12) Tryz.func65 #[.int .i64 a0] ?_;(with_reducible refine(kV.calls a0 t413 _ A7.out).mono ?_);rintro e w8 ⟨rfl,hb⟩;refine⟨_,rfl,?_⟩;replace HB:=aA.mk (aC Zq.bo hb);(try clear hb);(try clear hb2);(try clear hk);(try clear hi)))
     go_ret
     exact⟨Zq.ew,Zq.bo⟩
    ·rw[if_neg c6]at H;have c6b0:decide (a0<10)=false:=decide_eq_false c6;clear c6;obtain⟨t414,A9,H⟩:=Zq.mq H;(try dsimp only at H);obtain⟨t415,A10,H⟩:=Zq.mq H;(try dsimp only at H);by_cases c11:t414.size+t415.size<=9223372036854775807
     ·rw[if_pos c11]at H;have c11b0:=eq_true c11;have c11b1:decide (t414.size+t415.size<=9223372036854775807)=true:=decide_eq_true c11;(try have c11b2:(9223372036854775807<t414.size+t415.size)=False:=eq_false (Nat.not_lt.2 c11));obtain rfl:=Option.some.inj H;(go_enter Tryz.func23,Tryz.ntmps23);go_wp2_with (first|((with_reducible refine Zq.c 23 rfl ?_);refine Zq.g (some 15) Tryz.func23 #[.int .i64 (wrap64 (Int.tdiv a0 10))] ?_;(with_reducible refine(ih k (by omega) (wrap64 (Int.tdiv a0 10)) t414 _ A9.out).mono ?_);rintro e w12 ⟨rfl,hb⟩;refine⟨_,rfl,?_⟩;replace HB:=aA.mk (aC Zq.bo hb);(try clear hb);(try clear hb2);(try clear hk);(try clear hi))|((with_reducible refine Zq.c 65 rfl ?_);refine Zq.g (some 18) Tryz.func65 #[.int .i64 (Int.tmod a0 10)] ?_;(with_reducible refine(kV.calls (Int.tmod a0 10) t415 _ A10.out).mono ?_);rintro e w13 ⟨rfl,hb⟩;refine⟨_,rfl,?_⟩;replace HB:=aA.mk (aC Zq.bo hb);(try clear hb);(try clear hb2);(try clear hk);(try clear hi)))
      go_ret
      exact⟨Zq.ew,Zq.bo⟩
     ·rw[if_neg c11]at H;exact absurd H (by simp)
end Go.Proofs.YtjieekkkaekclaaGreatDoor.PR
namespace Go.Proofs.YtjieekkkaekclaaGreatDoor
open Go Go.RowKit Go.Pw.PrintWords Go.Proofs.YtjieekkkaekclaaGreatDoor.PR
theorem oQ {n:Int} (h:Mw.Sz 400 n):Mw.iP (Mw.jF n)=0:=by unfold Mw.iP;rw[if_pos (Mw.xU n),Mw.nR,if_neg (by have:=h.len (by omega);omega)]
end Go.Proofs.YtjieekkkaekclaaGreatDoor
namespace Go.Proofs.YtjieekkkaekclaaGreatDoor.PR
open Go.RowKit Go.Pw.PrintWords Go.Pw.PrintLast Go.Pw.PrintMore
attribute [local go_sem] eG dZ fE fD dM dL eF dY
def fI.l0:Nat->List ByteArray->List ByteArray->Int->Option (Bool)
 | 0,_,_,_=>none
 | k+1,x0,x1,x5=>if x5<(x0.length:Int)then(if 0<=x5 then(if x5<(x1.length:Int)then(if(aU ByteArray.empty x0 x5).toList=(aU ByteArray.empty x1 x5).toList then(fI.l0 k x0 x1 (wrap64 (x5+1)))else(some false))else(none))else(none))else(some true)
def fI.f (k:Nat) (l0:List ByteArray) (l1:List ByteArray):Option (Bool):=if(l0.length:Int)=(l1.length:Int)then(fI.l0 k l0 l1 0)else(some false)
theorem fI.calls (k:Nat) (A0:Option Addr) (c0:Nat) (l0:List ByteArray) (A1:Option Addr) (c1:Nat) (l1:List ByteArray) (r:Bool) (w:World) (hr0:Kd.C Kd.string w A0 l0.length l0) (hc0:l0.length<=c0) (hr1:Kd.C Kd.string w A1 l1.length l1) (hc1:l1.length<=c1) (h:fI.f k l0 l1=some r):
 Calls Tryz.prog 28 #[.slice A0 l0.length c0,.slice A1 l1.length c1] w fun e w'=>e = .returned (.bool r)/\jD w w':=by
 have HR0:=aA.mk hr0;have HC0:=aA.mk hc0;clear hr0 hc0;have HR1:=aA.mk hr1;have HC1:=aA.mk hc1;clear hr1 hc1;have H:(if(l0.length:Int)=(l1.length:Int)then(fI.l0 k l0 l1 0)else(some false))=some r:=h;clear h;by_cases c3:(l0.length:Int)=(l1.length:Int)
 ·rw[if_pos c3]at H;have c3b0:((l0.length:Int) == (l1.length:Int))=true:=beq_iff_eq.mpr c3;have c3b1:((l0.length:Int) != (l1.length:Int))=false:=bne_eq_false_iff_eq.mpr c3;(have c3b2:(l0.length == l1.length)=true:=by first|simpa using c3|(simp at c3⊢;omega));clear c3;have H':=aA.mk H;clear H;(go_enter Tryz.func28,Tryz.ntmps28);(go_wp2);repeat(go_quiet (fail);try go_wp2)
  go_loopg [5] k (fun kq v5 w'=>∃(x5_1:Int),v5 = .int .i64 x5_1/\aA (fI.l0 kq l0 l1 x5_1=some r)/\aA (kq<=k)/\jD w w')
  case atStart=>exact⟨(0),Zq.sd,H',⟨Nat.le_refl _⟩,Zq.dr⟩
  case round=>
   clear H';(try clear c1);(try clear c2);(try clear p2);(try clear c3);(try clear c3b0);(try clear c3b1);(try clear c3b2);obtain⟨x5_1,rfl,HA,HK1,⟨m1,rfl⟩⟩:=hrel;cases gk with
   | zero=>exact absurd HA.out (by simp[fI.l0])
   | succ k1=>
    have H:=HA.out;clear HA;simp only[fI.l0]at H;by_cases c4:x5_1<(l0.length:Int)
    ·rw[if_pos c4]at H;have c4b0:decide (x5_1<(l0.length:Int))=true:=decide_eq_true c4;clear c4;by_cases c5:0<=x5_1
     ·rw[if_pos c5]at H;have c5b0:decide (0<=x5_1)=true:=decide_eq_true c5;clear c5;by_cases c6:x5_1<(l1.length:Int)
      ·rw[if_pos c6]at H;have c6b0:decide (x5_1<(l1.length:Int))=true:=decide_eq_true c6;clear c6;by_cases c7:(aU ByteArray.empty l0 x5_1).toList=(aU ByteArray.empty l1 x5_1).toList
       ·rw[if_pos c7]at H;have c7b0:((aU ByteArray.empty l0 x5_1).toList == (aU ByteArray.empty l1 x5_1).toList)=true:=beq_iff_eq.mpr c7;have c7b1:((aU ByteArray.empty l0 x5_1).toList != (aU ByteArray.empty l1 x5_1).toList)=false:=bne_eq_false_iff_eq.mpr c7;clear c7;have H':=aA.mk H;clear H;have p424:0<=(x5_1:Int):=of_decide_eq_true Zq.am;have q424:x5_1<(l0.length:Int):=of_decide_eq_true Zq.am;obtain⟨ad424,e424,hx424_0⟩:=Kd.aQ HR0.out x5_1 p424 q424;cases e424;replace p424:=eq_true p424;replace q424:=eq_true q424;have p425:0<=(x5_1:Int):=of_decide_eq_true Zq.am;have q425:x5_1<(l1.length:Int):=of_decide_eq_true Zq.am;obtain⟨ad425,e425,hx425_0⟩:=Kd.aQ HR1.out x5_1 p425 q425;cases e425;replace p425:=eq_true p425;replace q425:=eq_true q425;(go_wp2);repeat(go_quiet (fail);try go_wp2)
        go_roundg k1
        (case measure=>have:=HK1.out;omega);case rel=>exact⟨(wrap64 (x5_1+1)),Zq.sd,H',⟨by have:=HK1.out;omega⟩,Zq.dr⟩
       ·rw[if_neg c7]at H;have c7b0:((aU ByteArray.empty l0 x5_1).toList == (aU ByteArray.empty l1 x5_1).toList)=false:=beq_eq_false_iff_ne.mpr c7;have c7b1:((aU ByteArray.empty l0 x5_1).toList != (aU ByteArray.empty l1 x5_1).toList)=true:=bne_iff_ne.mpr c7;obtain rfl:=Option.some.inj H;have p424:0<=(x5_1:Int):=of_decide_eq_true Zq.am;have q424:x5_1<(l0.length:Int):=of_decide_eq_true Zq.am;obtain⟨ad424,e424,hx424_0⟩:=Kd.aQ HR0.out x5_1 p424 q424;cases e424;replace p424:=eq_true p424;replace q424:=eq_true q424;have p425:0<=(x5_1:Int):=of_decide_eq_true Zq.am;have q425:x5_1<(l1.length:Int):=of_decide_eq_true Zq.am;obtain⟨ad425,e425,hx425_0⟩:=Kd.aQ HR1.out x5_1 p425 q425;cases e425;replace p425:=eq_true p425;replace q425:=eq_true q425;(go_wp2);repeat(go_quiet (fail);try go_wp2)
        go_ret
        exact⟨by first|rfl|(simp;done)|(simp[*];done),Zq.dr⟩
      ·rw[if_neg c6]at H;exact absurd H (by simp)
     ·rw[if_neg c5]at H;exact absurd H (by simp)
    ·rw[if_neg c4]at H;have c4b0:decide (x5_1<(l0.length:Int))=false:=decide_eq_false c4;clear c4;obtain rfl:=Option.some.inj H;(go_wp2);repeat(go_quiet (fail);try go_wp2)
     go_ret
     exact⟨by first|rfl|(simp;done)|(simp[*];done),Zq.dr⟩
 ·rw[if_neg c3]at H;have c3b0:((l0.length:Int) == (l1.length:Int))=false:=beq_eq_false_iff_ne.mpr c3;have c3b1:((l0.length:Int) != (l1.length:Int))=true:=bne_iff_ne.mpr c3;(have c3b2:(l0.length == l1.length)=false:=by first|simpa using c3|(simp at c3⊢;omega));obtain rfl:=Option.some.inj H;(go_enter Tryz.func28,Tryz.ntmps28);(go_wp2);repeat(go_quiet (fail);try go_wp2)
  go_ret
  exact⟨by first|rfl|(simp;done)|(simp[*];done),Zq.dr⟩
end Go.Proofs.YtjieekkkaekclaaGreatDoor.PR
namespace Go.Proofs.YtjieekkkaekclaaGreatDoor
open Go Go.RowKit Go.Pw.PrintWords Go.Proofs.YtjieekkkaekclaaGreatDoor.PR
theorem zV (n:Nat):n<1000000000000->EvP (fun k=>eO.f k (n:Int)) (Mw.B (Mw.gU n))/\(Mw.gU n).length<=12:=by
 induction n using Nat.strongRecOn with
 | _ n ih=>
  intro hn;have hlen:(Mw.gU n).length<=12:=(Mw.iZ n 12 (by omega)).mpr (by omega);refine⟨?_,hlen⟩;by_cases h:n<10;·refine EvP.step (f:=fun _=>some (Mw.B (Mw.gU n))) (fun k=>?_) (EvP.now _);simp only[eO.f];rw[if_neg (by omega),if_pos (by omega),yB _ (by omega) (by omega),Mw.jY h,Int.toNat_natCast];rfl
  ·obtain⟨he,hl⟩:=ih (n/10) (by omega) (by omega);refine EvP.step (f:=fun k=>(eO.f k ((n/10:Nat):Int)).bind fun t=>if t.size+(Mw.B [Mw.dgt (n%10)]).size<=9223372036854775807 then some (t++Mw.B [Mw.dgt (n%10)])else none) (fun k=>?_) ?_
   ·simp only[eO.f]
    rw[if_neg (by omega),if_neg (by omega),show wrap64 (Int.tdiv (n:Int) 10)=((n/10:Nat):Int) by rw[show Int.tdiv (n:Int) 10=((n/10:Nat):Int)from rfl];exact eT (by omega) (by omega),
     show Int.tmod (n:Int) 10=((n%10:Nat):Int)from rfl,yB _ (by omega) (by omega),Int.toNat_natCast]
    rfl
   ·refine EvP.bind he (EvP.fM (by rw[eH,eH];simp only[List.length_cons,List.length_nil];omega) ?_);rw[lM,<-Mw.rW (by omega)];exact EvP.now _
theorem aDz (n:Int) (h:n.natAbs<1000000000000):EvP (fun k=>eO.f k n) (Mw.T n):=by
 by_cases h0:n<0;·obtain⟨he,hl⟩:=zV n.natAbs h;refine EvP.step (f:=fun k=>(eO.f k ((n.natAbs:Nat):Int)).bind fun t=>if 1+t.size<=9223372036854775807 then some ((⟨#[45]⟩:ByteArray)++t)else none) (fun k=>?_) ?_;(·simp only[eO.f];rw[if_pos h0,show wrap64 (-n)=(n.natAbs:Int) by rw[eT (by omega) (by omega)];omega]);·refine EvP.bind he ?_;refine EvP.fM (by rw[eH];omega) ?_;rw[show(⟨#[45]⟩:ByteArray)=Mw.B [45]from rfl,lM,Mw.T,Mw.kF h0];exact EvP.now _
 ·obtain⟨he,_⟩:=zV n.natAbs h;rw[Mw.T,Mw.eY (by omega)];(have e:((n.natAbs:Nat):Int)=n:=by omega);rw[e]at he;exact he
theorem aHH:bts ((([]:List Nat)).map Mw.gU)=[]:=rfl
theorem aKp (p:Nat) (l:List Nat):bts ((p::l).map Mw.gU)=Mw.T (p:Int)::bts (l.map Mw.gU):=by rw[Mw.T,Mw.eY (by omega),Int.natAbs_natCast];rfl
def aED (d n:Nat):Prop:=∀e,2<=e->e<d->n%e≠0
theorem aED.le {d n:Nat} (h:aED d n) (h1:1<n):d<=n:=by
 rcases Nat.lt_or_ge n d with h2|h2;·exact absurd (Nat.mod_self n) (h n (by omega) h2)
 ·exact h2
theorem aED.next {d n:Nat} (h:aED d n) (h1:n%d≠0):aED (d+1) n:=fun e h2 h3=>by
 rcases Nat.lt_or_ge e d with h4|h4;·exact h e h2 h4
 ·rw[show e=d by omega];exact h1
theorem aHR {l:List UInt8} (h:l.length<=1000):qC.f (Mw.B l)=some (bts (Mw.factor l).1,(Mw.factor l).2):=by unfold qC.f;rw[if_pos (by rw[eH];omega),nQ]
theorem jS:bY.f=some true:=rfl
end Go.Proofs.YtjieekkkaekclaaGreatDoor
namespace Go.Proofs.YtjieekkkaekclaaGreatDoor.PR
open Go.RowKit Go.Pw.PrintWords Go.Pw.PrintLast Go.Pw.PrintMore
attribute [local go_sem] eG dZ fE fD dM dL eF dY
mutual
def aNC.l0:Nat->Int->List ByteArray->Int->Int->Int->Int->Option (Bool)
 | 0,_,_,_,_,_,_=>none
 | k+1,x4,x5,x6,x7,x8,x9=>if x9<(x5.length:Int)then(if 0<=x9 then((iD.f k (aU ByteArray.empty x5 x9)).bind fun bt570=>(if bt570.2=true then(if bt570.1<x8 then(aNC.j1 k x4 x5 x6 x7 x9 bt570.1 true)else(aNC.j1 k x4 x5 x6 x7 x9 bt570.1 (decide (bt570.1>x4))))else(aNC.j1 k x4 x5 x6 x7 x9 bt570.1 true)))else(none))else(if x6=0 then(if x7=x4 then((bY.f).bind fun t568=>(some t568))else(some false))else(some false))
def aNC.j1:Nat->Int->List ByteArray->Int->Int->Int->Int->Bool->Option (Bool)
 | 0,_,_,_,_,_,_,_=>none
 | k+1,x4,x5,x6,x7,x9,x10,x48=>if x48=true then(some false)else(aNC.l1 k x4 x5 x6 x7 x9 x10 2)
def aNC.l1:Nat->Int->List ByteArray->Int->Int->Int->Int->Int->Option (Bool)
 | 0,_,_,_,_,_,_,_=>none
 | k+1,x4,x5,x6,x7,x9,x10,x12=>if x12<x10 then(if x12=0 then(none)else(if(Int.tmod x10 x12)=0 then(some false)else(aNC.l1 k x4 x5 x6 x7 x9 x10 (wrap64 (x12+1)))))else(if(wrap64 (x7*x10))>x4 then(some false)else(aNC.l0 k x4 x5 x6 (wrap64 (x7*x10)) x10 (wrap64 (x9+1))))
end
def aNC.f (k:Nat) (l0:List Int):Option (Bool):=(fT.f l0).bind fun bt556=>((fO.f bt556.1 bt556.2.1 bt556.2.2 1 3000).bind fun bt560=>((eO.f k bt560.1).bind fun t563=>((qC.f t563).bind fun bt564=>(aNC.l0 k bt560.1 bt564.1 bt564.2 1 2 0))))
theorem aNC.calls (k:Nat) (A0:Option Addr) (c0:Nat) (l0:List Int) (r:Bool) (w:World) (hr0:Kd.C (Kd.int .i64) w A0 l0.length l0) (hc0:l0.length<=c0) (hG:Gw w) (h:aNC.f k l0=some r):
 Calls Tryz.prog 7 #[.slice A0 l0.length c0] w fun e w'=>e = .returned (.bool r)/\Below w.heap.size w w':=by
 have HG:=aA.mk hG;clear hG;have HR0:=aA.mk hr0;have HC0:=aA.mk hc0;clear hr0 hc0;have HB:=aA.mk (Below.refl w.heap.size w);have H:((fT.f l0).bind fun bt556=>((fO.f bt556.1 bt556.2.1 bt556.2.2 1 3000).bind fun bt560=>((eO.f k bt560.1).bind fun t563=>((qC.f t563).bind fun bt564=>(aNC.l0 k bt560.1 bt564.1 bt564.2 1 2 0)))))=some r:=h;clear h;replace H:=Zq.mp H;obtain⟨⟨t556,t557,t558⟩,A20,H⟩:=H;try dsimp only at H
 have A2:=aA.mk A20;clear A20;replace H:=Zq.mp H;obtain⟨⟨t560,t561,t562⟩,A30,H⟩:=H;try dsimp only at H
 have A3:=aA.mk A30;clear A30;obtain⟨t563,A4,H⟩:=Zq.mq H;try dsimp only at H
 replace H:=Zq.mp H;obtain⟨⟨t564,t565⟩,A50,H⟩:=H;try dsimp only at H
 have A5:=aA.mk A50;clear A50;have H':=aA.mk H;clear H;go_enter Tryz.func7,Tryz.ntmps7
 go_wp2_with (first|((with_reducible refine Zq.c 19 rfl ?_);refine Zq.g (some 14) Tryz.func19 #[.slice A0 l0.length c0] ?_;(with_reducible refine(fT.calls _ _ l0 t556 t557 t558 w _ ?side1 ?side2 ?side3 A2.out).mono ?_);(case side1=>repeat(first|(with_reducible first|exact HB.out|apply bA|apply bI|apply aT)|exact HB.out));(case side2=>exact HR0.out);(case side3=>exact HC0.out);rintro e w6 ⟨g559,rfl,hi,hb,hb2⟩;refine⟨_,rfl,?_⟩;replace HB:=aA.mk (hb);have HI559:=aA.mk (hi);(try clear hb);(try clear hb2);(try clear hk);(try clear hi))|((with_reducible refine Zq.c 24 rfl ?_);refine Zq.g (some 16) Tryz.func24 #[.pointer (some ⟨g559,0,none⟩),.int .i64 1,.int .i64 3000] ?_;(with_reducible refine(fO.calls g559 t556 t557 t558 1 3000 t560 t561 t562 w _ ?side1 ?side2 A3.out).mono ?_);(case side1=>exact Zq.is HI559.out);(case side2=>exact Zq.bi HI559.out);rintro e w7 ⟨rfl,hi,hb,hk⟩;refine⟨_,rfl,?_⟩;replace HB:=aA.mk (hb);replace HI559:=aA.mk (hi);(try clear hb);(try clear hb2);(try clear hk);(try clear hi))|((with_reducible refine Zq.c 23 rfl ?_);refine Zq.g (some 19) Tryz.func23 #[.int .i64 t560] ?_;(with_reducible refine(eO.calls k t560 t563 _ A4.out).mono ?_);rintro e w8 ⟨rfl,hb⟩;refine⟨_,rfl,?_⟩;have n0_:=aA.mk (bQ.below (Zq.is HI559.out) hb);have n1_:=aA.mk (aC (Zq.bi HI559.out) hb);clear HI559;clear HB;have HI559:=n0_;have HB:=n1_;clear n0_ n1_;(try clear hb);(try clear hb2);(try clear hk);(try clear hi))|((with_reducible refine Zq.c 26 rfl ?_);refine Zq.g (some 20) Tryz.func26 #[.string t563] ?_;(with_reducible refine(qC.calls t563 t564 t565 _ ?gw A5.out).mono ?_);(case gw=>exact HG.out.below (Zq.bi HI559.out));rintro e w9 ⟨v566,rfl,ho0,hb⟩;refine⟨_,rfl,?_⟩;have n0_:=aA.mk (Kd.eU ho0 (aD (Zq.bi HI559.out)));have n1_:=aA.mk (bQ.below (Zq.is HI559.out) hb);have n2_:=aA.mk (aC (Zq.bi HI559.out) hb);clear HI559;clear HB;have HO567:=n0_;have HI559:=n1_;have HB:=n2_;clear n0_ n1_ n2_;(try clear hb);(try clear hb2);(try clear hk);(try clear hi);(try clear ho0)))
 go_loopg [7,8,9] k (fun kq v7 v8 v9 w'=>∃(x7_1:Int) (x8_1:Int) (x9_1:Int),v7 = .int .i64 x7_1/\v8 = .int .i64 x8_1/\v9 = .int .i64 x9_1/\aA (aNC.l0 kq t560 t564 t565 x7_1 x8_1 x9_1=some r)/\aA (kq<=k)/\aA (Kd.R Kd.string 9 w' w.heap.size (fun _=>True) v566 t564)/\aA (Below w.heap.size w w'))
 case atStart=>exact⟨(1),(2),(0),Zq.sd,Zq.sd,Zq.sd,H',⟨Nat.le_refl _⟩,⟨by(with_reducible repeat(first|apply Kd.bR|apply Kd.bP|apply Kd.aK));exact HO567.out⟩,⟨Zq.bi HI559.out⟩⟩
 case round=>
  clear H';(try clear c1);(try clear c2);(try clear p2);(try clear c7);obtain⟨x7_1,x8_1,x9_1,rfl,rfl,rfl,HA,HK1,HO_5,HB⟩:=hrel;cases gk with
  | zero=>exact absurd HA.out (by simp[aNC.l0])
  | succ k1=>
   have H:=HA.out;clear HA;simp only[aNC.l0]at H;by_cases c10:x9_1<(t564.length:Int)
   ·rw[if_pos c10]at H;have c10b0:decide (x9_1<(t564.length:Int))=true:=decide_eq_true c10;clear c10;by_cases c11:0<=x9_1
    ·rw[if_pos c11]at H;have c11b0:decide (0<=x9_1)=true:=decide_eq_true c11;clear c11;replace H:=Zq.mp H;obtain⟨⟨t570,t571⟩,A120,H⟩:=H;(try dsimp only at H);have A12:=aA.mk A120;clear A120;have HC13:=aA.mk H;clear H;obtain⟨Ao14,co14,eo14⟩:=Kd.bX HO_5.out;subst eo14;have p569:0<=(x9_1:Int):=of_decide_eq_true Zq.am;have q569:x9_1<(t564.length:Int):=of_decide_eq_true Zq.am;obtain⟨ad569,e569,hx569_0⟩:=Kd.aQ (Kd.aJ HO_5.out).2.2 x9_1 p569 q569;cases e569;replace p569:=eq_true p569;replace q569:=eq_true q569;(go_upto_region 9 with(first|((with_reducible refine Zq.c 37 rfl ?_);refine Zq.g (some 34) Tryz.func37 #[.string (aU ByteArray.empty t564 x9_1)] ?_;(with_reducible refine(iD.calls k1 (aU ByteArray.empty t564 x9_1) t570 t571 _ A12.out).mono ?_);rintro e w' ⟨rfl,nd,rfl⟩;refine⟨_,rfl,?_⟩)));(try simp only[Act.put,Zq.a1,Zq.a2,Zq.a3])
     go_cut [48] (fun v48 wc=>∃(kq:Nat) (x48_12:Bool),v48 = .bool x48_12/\aA (aNC.j1 kq t560 t564 t565 x7_1 x9_1 t570 x48_12=some r)/\aA (kq<=k1)/\aA (Kd.R Kd.string 9 wc w.heap.size (fun _=>True) (.slice (some ad569) t564.length co14) t564)/\aA (Below w.heap.size w wc))
     case first=>
      have H:=HC13.out;clear HC13;by_cases c15:t571=true
      ·subst c15;(have H1:(if t570<x8_1 then(aNC.j1 k1 t560 t564 t565 x7_1 x9_1 t570 true)else(aNC.j1 k1 t560 t564 t565 x7_1 x9_1 t570 (decide (t570>t560))))=some r:=by rw[if_pos rfl]at H;exact H);clear H;have H:=H1;clear H1;by_cases c16:t570<x8_1
       ·rw[if_pos c16]at H;have c16b0:decide (t570<x8_1)=true:=decide_eq_true c16;clear c16;(first|rw[c16b0]|(simp only[bG,bK];rw[c16b0])|skip);have H':=aA.mk H;clear H;go_wp2
        go_meet
        case rel=>exact⟨_,(true),Zq.sd,H',⟨by have:=HK1.out;first|omega|exact Nat.le_refl _⟩,⟨by(with_reducible repeat(first|apply Kd.bR|apply Kd.bP|apply Kd.aK));exact HO_5.out⟩,⟨Zq.bo⟩⟩
       ·rw[if_neg c16]at H;have c16b0:decide (t570<x8_1)=false:=decide_eq_false c16;clear c16;(first|rw[c16b0]|(simp only[bG,bK];rw[c16b0])|skip);have H':=aA.mk H;clear H;go_wp2
        go_meet
        case rel=>exact⟨_,(decide (t570>t560)),Zq.sd,H',⟨by have:=HK1.out;first|omega|exact Nat.le_refl _⟩,⟨by(with_reducible repeat(first|apply Kd.bR|apply Kd.bP|apply Kd.aK));exact HO_5.out⟩,⟨Zq.bo⟩⟩
      ·replace c15:=Bool.eq_false_iff.mpr c15;subst c15;(have H1:(aNC.j1 k1 t560 t564 t565 x7_1 x9_1 t570 true)=some r:=by rw[if_neg (show ¬(false=true) by decide)]at H;exact H);clear H;have H:=H1;clear H1;have H':=aA.mk H;clear H;go_wp2
       go_meet
       case rel=>exact⟨_,(true),Zq.sd,H',⟨by have:=HK1.out;first|omega|exact Nat.le_refl _⟩,⟨by(with_reducible repeat(first|apply Kd.bR|apply Kd.bP|apply Kd.aK));exact HO_5.out⟩,⟨Zq.bo⟩⟩
     case rest=>
      clear HC13;(try clear c1);(try clear c2);(try clear p2);(try clear c3);(try clear p5);(try clear q5);(try clear hx5);(try clear c7);(try clear c10);(try clear c10b0);(try clear c11);(try clear c11b0);(try clear c15);(try clear c16);(try clear c16b0);(try clear hx569_0);(try clear p2);(try clear p569);(try clear q569);obtain⟨kq,x48_12,rfl,HA,HJ12,HO_5,HB⟩:=hcut;cases kq with
      | zero=>exact absurd HA.out (by simp[aNC.j1])
      | succ kj12=>
       have H:=HA.out;clear HA;simp only[aNC.j1]at H;by_cases c17:x48_12=true
       ·subst c17;(have H1:(some false)=some r:=by rw[if_pos rfl]at H;exact H);clear H;have H:=H1;clear H1;obtain rfl:=Option.some.inj H;go_wp2
        go_ret
        exact⟨Zq.ew,Zq.bo⟩
       ·replace c17:=Bool.eq_false_iff.mpr c17;subst c17;(have H1:(aNC.l1 kj12 t560 t564 t565 x7_1 x9_1 t570 2)=some r:=by rw[if_neg (show ¬(false=true) by decide)]at H;exact H);clear H;have H:=H1;clear H1;have H':=aA.mk H;clear H;go_wp2
        go_loopg [12] kj12 (fun kq v12 w'=>∃(x12_3:Int),v12 = .int .i64 x12_3/\aA (aNC.l1 kq t560 t564 t565 x7_1 x9_1 t570 x12_3=some r)/\aA (kq<=kj12)/\aA (Kd.R Kd.string 9 w' w.heap.size (fun _=>True) (.slice (some ad569) t564.length co14) t564)/\aA (Below w.heap.size w w'))
        case atStart=>exact⟨(2),Zq.sd,H',⟨Nat.le_refl _⟩,⟨by(with_reducible repeat(first|apply Kd.bR|apply Kd.bP|apply Kd.aK));exact HO_5.out⟩,⟨Zq.bo⟩⟩
        case round=>
         clear H';(try clear c1);(try clear c2);(try clear p2);(try clear c3);(try clear p5);(try clear q5);(try clear hx5);(try clear c7);(try clear c10);(try clear c10b0);(try clear c11);(try clear c11b0);(try clear c15);(try clear c16);(try clear c16b0);(try clear c17);(try clear hx569_0);(try clear p2);(try clear p5);(try clear p569);(try clear q5);(try clear q569);obtain⟨x12_3,rfl,HA,HK3,HO_5,HB⟩:=hrel;cases gk with
         | zero=>exact absurd HA.out (by simp[aNC.l1])
         | succ k3=>
          have H:=HA.out;clear HA;simp only[aNC.l1]at H;by_cases c18:x12_3<t570
          ·rw[if_pos c18]at H;have c18b0:decide (x12_3<t570)=true:=decide_eq_true c18;clear c18;by_cases c19:x12_3=0;·rw[if_pos c19]at H;exact absurd H (by simp)
           ·rw[if_neg c19]at H;have c19b0:(x12_3 == 0)=false:=beq_eq_false_iff_ne.mpr c19;have c19b1:(x12_3 != 0)=true:=bne_iff_ne.mpr c19;by_cases c20:(Int.tmod t570 x12_3)=0
            ·rw[if_pos c20]at H;have c20b0:((Int.tmod t570 x12_3) == 0)=true:=beq_iff_eq.mpr c20;have c20b1:((Int.tmod t570 x12_3) != 0)=false:=bne_eq_false_iff_eq.mpr c20;clear c20;obtain rfl:=Option.some.inj H;go_wp2
             go_ret
             exact⟨Zq.ew,Zq.bo⟩
            ·rw[if_neg c20]at H;have c20b0:((Int.tmod t570 x12_3) == 0)=false:=beq_eq_false_iff_ne.mpr c20;have c20b1:((Int.tmod t570 x12_3) != 0)=true:=bne_iff_ne.mpr c20;have H':=aA.mk H;clear H;go_wp2
             go_roundg k3
             (case measure=>have:=HK1.out;have:=HJ12.out;have:=HK3.out;omega);case rel=>exact⟨(wrap64 (x12_3+1)),Zq.sd,H',⟨by have:=HK1.out;have:=HJ12.out;have:=HK3.out;omega⟩,⟨by(with_reducible repeat(first|apply Kd.bR|apply Kd.bP|apply Kd.aK));exact HO_5.out⟩,⟨Zq.bo⟩⟩
          ·rw[if_neg c18]at H;have c18b0:decide (x12_3<t570)=false:=decide_eq_false c18;clear c18;by_cases c21:(wrap64 (x7_1*t570))>t560
           ·rw[if_pos c21]at H;have c21b0:decide (t560<(wrap64 (x7_1*t570)))=true:=decide_eq_true c21;clear c21;obtain rfl:=Option.some.inj H;go_wp2
            go_ret
            exact⟨Zq.ew,Zq.bo⟩
           ·rw[if_neg c21]at H;have c21b0:decide (t560<(wrap64 (x7_1*t570)))=false:=decide_eq_false c21;clear c21;have H':=aA.mk H;clear H;go_wp2
            go_roundg k3
            (case measure=>have:=HK1.out;have:=HJ12.out;have:=HK3.out;omega);case rel=>exact⟨(wrap64 (x7_1*t570)),(t570),(wrap64 (x9_1+1)),Zq.sd,Zq.sd,Zq.sd,H',⟨by have:=HK1.out;have:=HJ12.out;have:=HK3.out;omega⟩,⟨by(with_reducible repeat(first|apply Kd.bR|apply Kd.bP|apply Kd.aK));exact HO_5.out⟩,⟨Zq.bo⟩⟩
    ·rw[if_neg c11]at H;exact absurd H (by simp)
   ·rw[if_neg c10]at H;have c10b0:decide (x9_1<(t564.length:Int))=false:=decide_eq_false c10;clear c10;by_cases c22:t565=0
    ·rw[if_pos c22]at H;have c22b0:(t565 == 0)=true:=beq_iff_eq.mpr c22;have c22b1:(t565 != 0)=false:=bne_eq_false_iff_eq.mpr c22;clear c22;by_cases c23:x7_1=t560
     ·rw[if_pos c23]at H;have c23b0:(x7_1 == t560)=true:=beq_iff_eq.mpr c23;have c23b1:(x7_1 != t560)=false:=bne_eq_false_iff_eq.mpr c23;clear c23;obtain⟨t568,A24,H⟩:=Zq.mq H;(try dsimp only at H);obtain rfl:=Option.some.inj H;obtain⟨Ao25,co25,eo25⟩:=Kd.bX HO_5.out;subst eo25;go_wp2_with (first|(go_at_call 18;(with_reducible refine(bY.calls t568 _ ?gw A24.out).mono ?_);(case gw=>exact HG.out.below Zq.bo);rintro e w26 ⟨rfl,hb⟩;replace HO_5:=aA.mk (Kd.aG (Zq.ra HO_5.out) hb);replace HB:=aA.mk (aC Zq.bo hb);(try clear hb);(try clear hb2);(try clear hk);(try clear hi)))
      go_ret
      exact⟨Zq.ew,Zq.bo⟩
     ·rw[if_neg c23]at H;have c23b0:(x7_1 == t560)=false:=beq_eq_false_iff_ne.mpr c23;have c23b1:(x7_1 != t560)=true:=bne_iff_ne.mpr c23;obtain rfl:=Option.some.inj H;obtain⟨Ao27,co27,eo27⟩:=Kd.bX HO_5.out;subst eo27;go_wp2
      go_ret
      exact⟨Zq.ew,Zq.bo⟩
    ·rw[if_neg c22]at H;have c22b0:(t565 == 0)=false:=beq_eq_false_iff_ne.mpr c22;have c22b1:(t565 != 0)=true:=bne_iff_ne.mpr c22;obtain rfl:=Option.some.inj H;obtain⟨Ao28,co28,eo28⟩:=Kd.bX HO_5.out;subst eo28;go_wp2
     go_ret
     exact⟨Zq.ew,Zq.bo⟩
def aNC.Pure:Prop:=∀(l0:List Int),l0.length<=maxLen->l0.length*8<=140737488351232->(∀x ∈ l0,(Lit.int .i64 x).wf=true)->∃k,aNC.f k l0=some true
theorem aNC.walk (P:aNC.Pure) (a0:Option Addr) (len0 cap0:Nat) (z0:List Int) (w:World) (hG:Gw w) (w0:(a0=none/\len0=0/\cap0=0/\z0=[])\/∃x,a0=some x/\len0<=cap0/\cap0<=maxLen/\z0.length=cap0/\(∀i,i<z0.length->w.cell? (x.add i)=some (.int .i64 (z0.getD i 0)))/\∀n ∈ z0,(Lit.int .i64 n).wf=true) (y0:len0*8<=140737488351232):
 Calls Tryz.prog 7 #[.slice a0 len0 cap0] w fun e w'=>e = .returned (.bool true)/\Below w.heap.size w w':=by
 obtain⟨l0,rfl,hr0,hm0,hw0,hc0⟩:=kX.yI w0;obtain⟨k,h⟩:=P l0 hm0 y0 hw0;refine(aNC.calls k _ _ l0 true w (Kd.lS (d:=(0:Int)) (h1:=fun _=>rfl) hr0) hc0 hG h).mono ?_;rintro e w' ⟨rfl,hd⟩;exact⟨rfl,hd⟩
end Go.Proofs.YtjieekkkaekclaaGreatDoor.PR
namespace Go.Proofs.YtjieekkkaekclaaGreatDoor
open Go Go.RowKit Go.Pw.PrintWords Go.Proofs.YtjieekkkaekclaaGreatDoor.PR
theorem aNU:∀(q d m:Nat),m+1-d<=q->1<=m->2<=d->aED d m->(m=1/\Mw.fs d m=[])\/∃p,Mw.fs d m=p::Mw.fs p (m/p)/\d<=p/\p<=m/\m%p=0/\aED p p/\aED p (m/p):=by
 intro q;induction q with
 | zero=>intro d m h h1 h2 hno;rcases Nat.lt_or_ge 1 m with h3|h3;(·have:=hno.le h3;omega);·exact .inl ⟨by omega,Mw.aBh (by omega)⟩
 | succ q ih=>intro d m h h1 h2 hno;rcases Nat.lt_or_ge 1 m with h3|h3;(·have hle:=hno.le h3;by_cases hd:m%d=0;(·refine .inr ⟨d,Mw.aEZ h2 (by omega) hd,Nat.le_refl _,hle,hd,fun e h4 h5 h6=>?_,Mw.aEn hno hd⟩;exact hno e h4 h5 (Nat.mod_eq_zero_of_dvd (Nat.dvd_trans (Nat.dvd_of_mod_eq_zero h6) (Nat.dvd_of_mod_eq_zero hd))));·rcases ih (d+1) m (by omega) h1 (by omega) (hno.next hd)with h4|⟨p,e1,e2,e3⟩;(·exact absurd h4.1 (by omega));·exact .inr ⟨p,by rw[Mw.aCz h2 hd,e1],by omega,e3⟩);·exact .inl ⟨by omega,Mw.aBh (by omega)⟩
theorem aNQ {n P p i:Nat} {xs:List ByteArray} (h2:2<=p) (hp:p<=3000) (hn:n<=3000) (hP:P*p<=n) (hi:i<100000) (hno:aED p p) (r:EvP (fun k=>aNC.l0 k (n:Int) xs 0 ((P*p:Nat):Int) (p:Int) ((i+1:Nat):Int)) true):
 ∀(q e:Nat),e+q=p->2<=e->EvP (fun k=>aNC.l1 k (n:Int) xs 0 (P:Int) (i:Int) (p:Int) (e:Int)) true:=by
 intro q;induction q with
 | zero=>intro e h h3;refine EvP.step (fun k=>?_) r;simp only[aNC.l1];(have e1:wrap64 ((P:Int)*(p:Int))=((P*p:Nat):Int):=by rw[<-Int.natCast_mul];exact eT (by omega) (by omega));rw[if_neg (by omega),e1,if_neg (by omega),show wrap64 ((i:Int)+1)=((i+1:Nat):Int) by rw[eT (by omega) (by omega)];rfl]
 | succ q ih=>intro e h h3;refine EvP.step (fun k=>?_) (ih (e+1) (by omega) (by omega));(have hne:¬Int.tmod (p:Int) (e:Int)=0:=by rw[show Int.tmod (p:Int) (e:Int)=((p%e:Nat):Int)from rfl];have:=hno e h3 (by omega);omega);simp only[aNC.l1];rw[if_pos (by omega),if_neg (by omega),if_neg hne,show wrap64 ((e:Int)+1)=((e+1:Nat):Int) by rw[eT (by omega) (by omega)];rfl]
theorem aNR {n:Nat} (hn:n<=3000) (hn1:1<=n):∀(q m d P:Nat) (pre:List ByteArray),m<=q->1<=m->2<=d->aED d m->P*m=n->pre.length+m<=3001->
 EvP (fun k=>aNC.l0 k (n:Int) (pre++bts ((Mw.fs d m).map Mw.gU)) 0 (P:Int) (d:Int) (pre.length:Int)) true:=by
 intro q;induction q with
 | zero=>intro m d P pre h h1;omega
 | succ q ih=>
  intro m d P pre h h1 h2 hno hP hlen;rcases aNU _ d m (Nat.le_refl _) h1 h2 hno with⟨e1,e2⟩|⟨p,e1,e2,e3,e4,e5,e6⟩;·subst e1;rw[e2,aHH,List.append_nil];refine EvP.step (f:=fun _=>(bY.f).bind fun t=>some t) (fun k=>?_) (by rw[jS];exact EvP.now _);simp only[aNC.l0];rw[if_neg (by omega),if_pos trivial,if_pos (by omega)]
  ·have hlt:m/p<m:=Nat.div_lt_self (by omega) (by omega);have hdm:=Nat.div_add_mod m p;rw[e4,Nat.add_zero]at hdm;(have h1':1<=m/p:=by rcases Nat.eq_zero_or_pos (m/p)with h0|h0;(·rw[h0]at hdm;omega);·exact h0);(have hP':P*p*(m/p)=n:=by rw[Nat.mul_assoc,hdm,hP]);(have hPp:P*p<=n:=by rw[<-hP'];exact Nat.le_mul_of_pos_right _ h1');(have hmn:m<=n:=by rw[<-hP];refine Nat.le_mul_of_pos_left _ ?_;rcases Nat.eq_zero_or_pos P with h0|h0;(·rw[h0,Nat.zero_mul]at hP;omega);·exact h0);have r:=ih (m/p) p (P*p) (pre++[Mw.T (p:Int)]) (Nat.le_of_lt_succ (Nat.lt_of_lt_of_le hlt h)) h1' (by omega) e6 hP' (by clear hdm;simp only[List.length_append,List.length_cons,List.length_nil];omega);rw[List.append_assoc,List.singleton_append,<-aKp,<-e1,List.length_append,List.length_singleton]at r;have l:=aNQ (by omega) (by omega) hn hPp (i:=pre.length) (by omega) e5 r (p-2) 2 (by omega) (by omega);(have hrd:aU ByteArray.empty (pre++bts ((Mw.fs d m).map Mw.gU)) (pre.length:Int)=Mw.T (p:Int):=by rw[nS,e1,aKp,List.getD_eq_getElem?_getD,List.getElem?_append_right (Nat.le_refl _),Nat.sub_self];rfl);have hl:(pre.length:Int)<((pre++bts ((Mw.fs d m).map Mw.gU)).length:Int):=by rw[e1,aKp,List.length_append,List.length_cons];omega
   refine EvP.step (f:=fun k=>(iD.f k (Mw.T (p:Int))).bind fun bt570=>(if bt570.2=true then(if bt570.1<(d:Int)then(aNC.j1 k (n:Int) (pre++bts ((Mw.fs d m).map Mw.gU)) 0 (P:Int) (pre.length:Int) bt570.1 true)else(aNC.j1 k (n:Int) (pre++bts ((Mw.fs d m).map Mw.gU)) 0 (P:Int) (pre.length:Int) bt570.1 (decide (bt570.1>(n:Int)))))else(aNC.j1 k (n:Int) (pre++bts ((Mw.fs d m).map Mw.gU)) 0 (P:Int) (pre.length:Int) bt570.1 true))) (fun k=>?_) ?_;(·simp only[aNC.l0];rw[if_pos hl,if_pos (by omega),hrd]);·refine EvP.bind (aEG (p:Int) (Nat.lt_of_le_of_lt (show(p:Int).natAbs<=3000 by omega) (by decide))) (EvP.fM rfl (EvP.jC (by dsimp only;omega) ?_));dsimp only;rw[show decide ((p:Int)>(n:Int))=false from decide_eq_false (by omega)];refine EvP.step (fun k=>?_) l;simp only[aNC.j1];rw[if_neg (by simp)];rfl
theorem aNM:aNC.Pure:=by
 intro l _ _ _;refine EvP.rounds (g:=fun k=>aNC.f k l) ?_;unfold aNC.f;obtain⟨n,t2,p2,q2,q3,_⟩:=zU l 0 7640891576956012809 1 3000 (b:=0) ⟨by omega,by omega⟩ (by omega) (by omega) (by omega) (by omega) (by omega);have q3:=q3 (by omega);rw[show fT.f l=some (l,0,7640891576956012809)from rfl];refine EvP.bind (EvP.now _) ?_;dsimp only;rw[p2];refine EvP.bind (EvP.now _) ?_;dsimp only;refine EvP.bind (aDz n (by omega)) ?_;obtain⟨m,hm⟩:∃m:Nat,n=m:=⟨n.toNat,by omega⟩;subst hm;have z0:Mw.Sz 4 (m:Int):=Nat.lt_of_le_of_lt (show(m:Int).natAbs<=3000 by omega) (by decide);have z:Mw.Sz 400 (m:Int):=z0.mono (by omega);have hf:qC.f (Mw.T (m:Int))=some (bts ((Mw.fs 2 m).map Mw.gU),0):=by rw[Mw.T,aHR (by have:=nC (m:Int);have:=z.len (by omega);omega),Mw.factor,if_pos (oQ z),Mw.gX,if_neg (by omega),if_neg (by omega),Int.toNat_natCast]
 rw[hf];refine EvP.bind (EvP.now _) ?_;dsimp only;have r:=aNR (n:=m) (by omega) (by omega) m m 2 1 [] (Nat.le_refl _) (by omega) (by omega) (fun e h2 h3=>by omega) (by omega) (by simp;omega);exact r
end Go.Proofs.YtjieekkkaekclaaGreatDoor
namespace Go.Proofs.YtjieekkkaekclaaGreatDoor.aNE
open Go Go.ChangeShapes Go.WideShapes Go.ChangeAt Go.RowKit
open Go.ChangeMaps (open_string shut_string)
theorem laidOut:laidOutB Tryz.prog=true:=by kernel_rfl
def uF (k:IntKind) (w:World) (a:Option Addr) (len cap:Nat) (zs:List Int):Prop:=
 (a=none/\len=0/\cap=0/\zs=[])\/
 ∃x,a=some x/\len<=cap/\cap<=maxLen/\zs.length=cap/\(∀i,i<zs.length->w.cell? (x.add i)=some (.int k (zs.getD i 0)))/\∀n ∈ zs,(Lit.int k n).wf=true
theorem mP (os:Os) (args:Array Value):laidMetH Tryz.prog Rows.wholePrimesRow.laid ((World.doorLaid Tryz.prog 69 os).forCall (fun _ _=>0) ⟨#[],args,[]⟩).memory:=
 laidMetH_of_parts3 (fuel:=8) (laidMet_of_run' 8 (by kernel_rfl) (by kernel_rfl)) (by kernel_rfl) (by kernel_rfl)
theorem lifted (os:Os) (started:os.Started) (H:Type) (enc:TypeId×Value->H):
 ReturnsInHanded {} Tryz.checked os 7 .any (fun w args=>(Rows.wholePrimesSpec.pre enc Tryz.prog Tryz.f7 [] false w args/\laidMetH Tryz.prog Rows.wholePrimesRow.laid w)/\sizedMet enc Tryz.prog Tryz.f7 (OpenSpec.ofChange Rows.wholePrimesSpec) false w args) (Rows.wholePrimesSpec.post enc Tryz.prog Tryz.f7 false true false false):=by
 refine returnsInHanded_of_change_and (C:=Tryz.checked) (X:=fun w _=>laidMetH Tryz.prog Rows.wholePrimesRow.laid w) (fun _ _ _ hh h=>h.of_heap hh) sU started (by kernel_rfl) Tryz.func7 ?witness ?_;case witness=>exact ChangeSpec.witness_shaped (enc:=enc) (C:=Tryz.checked) (os:=os) (X:=fun w _=>laidMetH Tryz.prog Rows.wholePrimesRow.laid w) false (World.doorLaid Tryz.prog 69 os) #[.slice none 0 0] 8 rfl (World.shaped_of_RefB (by kernel_rfl) (by kernel_rfl)) (by kernel_rfl) (by kernel_rfl) (by kernel_rfl) (mP os _)
 intro W base args ds gs before hval0 hW hcnd hsz0 hL _;have hsz:(DataW.weightsEach Tryz.prog (Tryz.f7.params.toList++Rows.wholePrimesSpec.plain.varTypes Tryz.prog) (ds++gs)).all (·<=reachBytes)=true:=hsz0;have hval:∀(j:Nat) t v,Tryz.f7.params[j]?=some t->args[j]?=some v->Value.okWide Tryz.prog W .any base t v:=hval0;have hW':=hW;obtain⟨p,q,hA0,hV,rfl,hfz,hnd⟩:=hW;have hA:DataW.TrodAll enc Tryz.prog W 0 (fun _=>true) true Tryz.f7.params.toList args.toList ds p:=hA0;rw[Tryz.params7]at hA hval hsz;obtain⟨v0,vs0,d0,ds0,p0,q0,hargs,rfl,rfl,h0,r0⟩:=trodAll_cons hA;obtain⟨rfl,rfl,rfl⟩:=trodAll_nil r0;obtain rfl:args=#[v0]:=by cases args;simp_all
 obtain⟨rfl,rfl⟩:=trodVars_none hV;obtain⟨a0,len0,cap0,rfl⟩:=okWide_slice Tryz.underlying22 (hval 0 22 v0 rfl rfl);have k0:=h0;have lt0:∀x ∈ p0,x.block<W.heap.size:=by obtain⟨m,hm⟩:=k0;exact DataW.trod_lt m _ _ _ hm
 obtain⟨z0,w0⟩:∃zs,uF .i64 W a0 len0 cap0 zs:=by obtain⟨fuel,hf⟩:=h0;rcases open_ints Tryz.underlying22 Tryz.underlying3 (by kernel_rfl) hf with⟨hcs,_⟩|⟨x,l,c,zs,hcs,_,hl,hm,hz,_,hcell,hwz⟩;(·simp[Value.cells]at hcs;obtain⟨rfl,rfl,rfl⟩:=hcs;exact⟨[],.inl ⟨rfl,rfl,rfl,rfl⟩⟩);·simp[Value.cells]at hcs;obtain⟨rfl,rfl,rfl⟩:=hcs;exact⟨zs,.inr ⟨_,rfl,hl,hm,by simpa using hz,hcell,hwz⟩⟩
 have y0:len0*8<=140737488351232:=Go.Pw.PrintWords.pW hsz (j:=0) (t:=22) rfl rfl Tryz.underlying22 Tryz.underlying3 (by kernel_rfl) (by kernel_rfl) h0;clear hA0 hval0 hsz0 hsz;refine(PR.aNC.walk aNM a0 len0 cap0 z0 W ⟨oJ hL,oI hL⟩ w0 y0).mono fun e W' ⟨he,bel⟩=>?_
 subst he;exact⟨_,rfl,_,_,_,[],_,[],hW',trodAll_mk1 (shut_bool Tryz.underlying4 _),(trodAll_cons_mk (Below.trod laidOut (by kernel_rfl) (of_decide_eq_true (by kernel_rfl)) k0 bel lt0) trodAll_mk0),rfl,bel.frame _,fun h=>by cases h⟩
theorem leaving (os:Os) (started:os.Started) (H:Type) (enc:TypeId×Value->H):
 ReturnsInLeavingWide {} Tryz.checked os 7 .any (fun w args=>(Rows.wholePrimesSpec.pre enc Tryz.prog Tryz.f7 [] false w args/\laidMetH Tryz.prog Rows.wholePrimesRow.laid w)/\sizedMet enc Tryz.prog Tryz.f7 (OpenSpec.ofChange Rows.wholePrimesSpec) false w args) (Rows.wholePrimesSpec.post enc Tryz.prog Tryz.f7 false true false false):=fun enter=>
 ReturnsInOpen.mono (fun _ _ _ h=>⟨h.2.1,mU h.1,h.2.2⟩) (fun _ x=>x) (lifted os started H enc enter)
theorem closed:joinedFacts Tryz.pinned.checked.prog 7 Tryz.f7 Rows.wholePrimesSpec Rows.wholePrimesRow=true:=by
 unfold joinedFacts;simp only[Bool.and_eq_true]
 repeat' apply And.intro
 all_goals (as_aux_lemma=>kernel_rfl)
theorem named:Tryz.pinned.checked.prog.funcNamed Rows.wholePrimesRow.func=some 7:=by kernel_rfl
theorem inst:Tryz.f7.isInstance Tryz.pinned.checked.prog Rows.wholePrimesRow.origin Rows.wholePrimesRow.targs:=of_decide_eq_true (by kernel_rfl)
theorem wrap:Tryz.f7.isWrapper Tryz.pinned.checked.prog Rows.wholePrimesRow.wrapper Rows.wholePrimesRow.mainSum:=by unfold Func.isWrapper;first|(rw[if_pos (by decide +kernel)];kernel_rfl)|(rw[if_neg (by decide +kernel)];exact⟨rfl,rfl⟩)
theorem proved:Rows.WholePrimesSaid:=
 OpenClaim.holds_of_wide_leaving 7 Tryz.f7 rfl rfl rfl rfl rfl rfl rfl ⟨rfl,rfl,rfl,rfl,rfl⟩ rfl rfl rfl rfl rfl named Tryz.func7 closed inst wrap
  (fun os started H enc _=>leaving os started H enc)
end Go.Proofs.YtjieekkkaekclaaGreatDoor.aNE
namespace Go.Proofs.YtjieekkkaekclaaGreatDoor
open Go
theorem aNE.goes:true=Rows.wholePrimesRow.goesBy Tryz.pinned.checked.prog:=by kernel_rfl
theorem aNE.wf:Rows.wholePrimesRow.wfByText (OpenSpec.ofChange Rows.wholePrimesSpec)=true:=by kernel_rfl
theorem aNE.stand:∀t ∈ Tryz.f7.params,Tryz.pinned.checked.prog.wantsStandIn t=false:=by
 have h:(Tryz.f7.params.toList.all fun t=>!Tryz.pinned.checked.prog.wantsStandIn t)=true:=by kernel_rfl
 intro t ht;have:=List.all_eq_true.mp h t (Array.mem_toList_iff.mpr ht);simpa using this
theorem wholePrimes_card_holds:Rows.WholePrimesCardSaid:=
 Claim7.lF .later [.data,.data,.data,.handle,.sentinel,.sentinel] true (true,"94bbee997c0a39bb4bce0e5287243f0f552a32c829e9b04cf75d7dfa1f5bfa40") true true
  aNE.proved aNE.wf wholePrimes_row_tie rfl ⟨rfl,rfl⟩ qR rfl
  (fun f fn hf hfn=>by obtain rfl:f=7:=Option.some.inj (hf.symm.trans aNE.named);obtain rfl:fn=Tryz.f7:=(Option.some.inj (Tryz.func7.symm.trans hfn)).symm;exact⟨pY,fun j t ht=>aNE.stand t (Array.mem_of_getElem? ht)⟩)
  aNE.goes
end Go.Proofs.YtjieekkkaekclaaGreatDoor
