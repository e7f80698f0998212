/- Lemmas for the claim beside this text. -/
import Derived.Test.YtjieekkkaekclaaGreatDoorProg
import Derived.Test.YtjieekkkaekclaaGreatDoorZBAA
import Derived.Test.YtjieekkkaekclaaGreatDoorZBAD
import Derived.Test.YtjieekkkaekclaaGreatDoorZBAE
import Derived.Test.YtjieekkkaekclaaGreatDoorZBAK
import Derived.Test.YtjieekkkaekclaaGreatDoorZBAM
import Derived.Test.YtjieekkkaekclaaGreatDoorZBAN
import Derived.Test.YtjieekkkaekclaaGreatDoorZBAO
import Derived.Test.YtjieekkkaekclaaGreatDoorZBAP
import Derived.Test.YtjieekkkaekclaaGreatDoorZBAQ
import Derived.Test.YtjieekkkaekclaaGreatDoorZBAR
import Derived.Test.YtjieekkkaekclaaGreatDoorZBAS
import Derived.Test.YtjieekkkaekclaaGreatDoorZBAT
import Derived.Test.YtjieekkkaekclaaGreatDoorZBAU
import Derived.Test.YtjieekkkaekclaaGreatDoorZBAV
import Derived.Test.YtjieekkkaekclaaGreatDoorZBAW
import Derived.Test.YtjieekkkaekclaaGreatDoorZBAX
import Derived.Test.YtjieekkkaekclaaGreatDoorZBAY
import Derived.Test.YtjieekkkaekclaaGreatDoorZLBAA
import Derived.ArgAppend
import Derived.Below
import Derived.BigQuiet
import Derived.Deep.AppendLies
import Derived.Deep.CutBlock
import Derived.Deep.DeepCutAuto
import Derived.Deep.Draws
import Derived.Deep.LoopGhost
import Derived.Deep.OwnRows
import Derived.Deep.QuietTactic
import Derived.Deep.RegionHeld3
import Derived.KernelRfl
import Derived.Laws.BitsLemmas
import Derived.Laws.BytesArg
import Derived.Laws.IdiomCopy
import Derived.Laws.MakeOwn
import Derived.Laws.OwnMore
import Derived.Laws.Rows
import Derived.Laws.Slices
import Derived.Laws.StructEq
import Derived.Lib.AppendStr
import Derived.Lib.ConvBytes
import Derived.Maps.AppendAt
import Derived.OrdersHeld
import Derived.OwnWalk
import Derived.RowKit
import Derived.RowKit3
import Derived.Tactics
import Derived.WalkKit
import Derived.WideLaws
set_option linter.all false
set_option linter.unusedVariables false
set_option linter.unusedSimpArgs false
set_option maxHeartbeats 8000000
set_option maxRecDepth 100000
namespace Mw
theorem nI {a b:Int} (h:jF a=jF b):a=b:=by rw[<-gX a,h,gX b]
theorem jN (n:Int):jF n=[48]<->n=0:=
 ⟨fun h=>nI (h.trans jX.symm),fun h=>h▸jX⟩
end Mw
namespace Go.Proofs.YtjieekkkaekclaaGreatDoor
open Go Go.RowKit Go.Pw.PrintWords
def qC.f (a0:ByteArray):Option (List ByteArray×Int):=if a0.size<=100000 then some (bts (Mw.factor a0.data.toList).1,(Mw.factor a0.data.toList).2)else none
theorem qC.calls (a0:ByteArray) (r1:List ByteArray) (r2:Int) (w:World) (hG:Gw w) (h:qC.f a0=some (r1,r2)):Calls Tryz.prog 26 #[.string a0] w fun e w'=>∃v0_:Value,e = .returned (.tuple #[v0_,.int .i64 r2])/\Kd.R Kd.string 9 w' w.heap.size (fun _=>True) v0_ r1/\Below w.heap.size w w':=by
 unfold qC.f at h;split at h;·rename_i hc;(obtain⟨rfl,rfl⟩:_/\_:=by simpa only[Option.some.injEq,Prod.mk.injEq]using h);exact aDt a0 w hc hG.1 hG.2
 ·cases h
end Go.Proofs.YtjieekkkaekclaaGreatDoor
namespace Go.Proofs.YtjieekkkaekclaaGreatDoor.PR
open Go.RowKit Go.Pw.PrintWords Go.Pw.PrintLast Go.Pw.PrintMore
attribute [local go_sem] eG dZ fE fD dM dL eF dY
theorem aNc:(Tryz.prog.info? 9).map (fun i=>(i.zero,i.size,i.bytes))=some (some (.string ⟨#[]⟩),1,16):=by kernel_rfl
def cO.f (k:Nat) (a0:ByteArray):Option (Int):=(iC.f k a0).bind fun t345=>(if t345=true then((aZ.f a0).bind fun t346=>(if(t346.size:Int)>400 then(some 13)else(some 0)))else(some 1))
theorem cO.calls (k:Nat) (a0:ByteArray) (r:Int) (w:World) (h:cO.f k a0=some r):
 Calls Tryz.prog 57 #[.string a0] w fun e w'=>e = .returned (.int .i64 r)/\jD w w':=by
 have H:((iC.f k a0).bind fun t345=>(if t345=true then((aZ.f a0).bind fun t346=>(if(t346.size:Int)>400 then(some 13)else(some 0)))else(some 1)))=some r:=h;clear h;obtain⟨t345,A2,H⟩:=Zq.mq H;try dsimp only at H
 by_cases c3:t345=true
 ·subst c3;(have H1:((aZ.f a0).bind fun t346=>(if(t346.size:Int)>400 then(some 13)else(some 0)))=some r:=by rw[if_pos rfl]at H;exact H);clear H;have H:=H1;clear H1;obtain⟨t346,A4,H⟩:=Zq.mq H;(try dsimp only at H);by_cases c5:(t346.size:Int)>400
  ·rw[if_pos c5]at H;have c5b0:decide (400<(t346.size:Int))=true:=decide_eq_true c5;have c5b1:decide (400<t346.size)=true:=decide_eq_true (by omega);clear c5;obtain rfl:=Option.some.inj H;(go_enter Tryz.func57,Tryz.ntmps57);go_wp2_with (first|((with_reducible refine Zq.c 103 rfl ?_);refine Zq.g (some 4) Tryz.func103 #[.string a0] ?_;(with_reducible refine(iC.calls k a0 true _ A2.out).mono ?_);rintro e w' ⟨rfl,nd,rfl⟩;refine⟨_,rfl,?_⟩)|((with_reducible refine Zq.c 35 rfl ?_);refine Zq.g (some 7) Tryz.func35 #[.string a0] ?_;(with_reducible refine(aZ.calls a0 t346 _ A4.out).mono ?_);rintro e w' ⟨rfl,nd,rfl⟩;refine⟨_,rfl,?_⟩))
   go_ret
   exact⟨by first|rfl|(simp;done)|(simp[*];done),Zq.dr⟩
  ·rw[if_neg c5]at H;have c5b0:decide (400<(t346.size:Int))=false:=decide_eq_false c5;have c5b1:decide (400<t346.size)=false:=decide_eq_false (by omega);clear c5;obtain rfl:=Option.some.inj H;(go_enter Tryz.func57,Tryz.ntmps57);go_wp2_with (first|((with_reducible refine Zq.c 103 rfl ?_);refine Zq.g (some 4) Tryz.func103 #[.string a0] ?_;(with_reducible refine(iC.calls k a0 true _ A2.out).mono ?_);rintro e w' ⟨rfl,nd,rfl⟩;refine⟨_,rfl,?_⟩)|((with_reducible refine Zq.c 35 rfl ?_);refine Zq.g (some 7) Tryz.func35 #[.string a0] ?_;(with_reducible refine(aZ.calls a0 t346 _ A4.out).mono ?_);rintro e w' ⟨rfl,nd,rfl⟩;refine⟨_,rfl,?_⟩))
   go_ret
   exact⟨by first|rfl|(simp;done)|(simp[*];done),Zq.dr⟩
 ·replace c3:=Bool.eq_false_iff.mpr c3;subst c3;(have H1:(some 1)=some r:=by rw[if_neg (show ¬(false=true) by decide)]at H;exact H);clear H;have H:=H1;clear H1;obtain rfl:=Option.some.inj H;(go_enter Tryz.func57,Tryz.ntmps57);go_wp2_with (first|((with_reducible refine Zq.c 103 rfl ?_);refine Zq.g (some 4) Tryz.func103 #[.string a0] ?_;(with_reducible refine(iC.calls k a0 false _ A2.out).mono ?_);rintro e w' ⟨rfl,nd,rfl⟩;refine⟨_,rfl,?_⟩))
  go_ret
  exact⟨by first|rfl|(simp;done)|(simp[*];done),Zq.dr⟩
end Go.Proofs.YtjieekkkaekclaaGreatDoor.PR
namespace Go.Proofs.YtjieekkkaekclaaGreatDoor
open Go Go.RowKit Go.Pw.PrintWords Go.Proofs.YtjieekkkaekclaaGreatDoor.PR
theorem lG (l:List UInt8) (hl:l.length<=1000000):EvP (fun k=>cO.f k (Mw.B l)) (Mw.iP l):=by
 unfold cO.f;refine EvP.bind (wG l hl) ?_;unfold Mw.iP;cases Mw.okf l with
 | false=>exact EvP.now _
 | true=>refine EvP.congr (f:=fun _=>some (if 400<(Mw.unm l).length then 13 else 0)) (fun k=>?_) (by simp only[if_true];exact EvP.now _);rw[if_pos rfl,zH];simp only[Option.bind_some];rw[eH];by_cases h:400<(Mw.unm l).length;(·rw[if_pos (by omega),if_pos h]);·rw[if_neg (by omega),if_neg h]
theorem Mw.Sz.uY {L:Nat} {n:Int} (h:(Mw.gU n.natAbs).length<=L) (hL:1<=L):Mw.Sz L n:=(Mw.iZ _ _ hL).mp h
theorem zM (n:Int):(Mw.T n).toList=Mw.jF n:=by rw[Mw.T,xN]
theorem nS {α:Type} (d:α) (xs:List α) (i:Nat):aU d xs (i:Int)=xs.getD i d:=by rw[aU,Int.toNat_natCast]
theorem fC (n:Int):(Mw.T n).toList=([48]:List UInt8)<->n=0:=by rw[zM,Mw.jN]
theorem lX {l:List UInt8} (h:Mw.iP l=0):∃n,Mw.B l=Mw.T n/\Mw.lI l=n/\l=Mw.jF n/\Mw.Sz 400 n:=by
 unfold Mw.iP at h;by_cases ho:Mw.okf l=true;·rw[if_pos ho]at h;by_cases hl:400<(Mw.unm l).length;(·rw[if_pos hl]at h;cases h);·have e:=Mw.xH l ho;refine⟨Mw.lI l,by rw[Mw.T,e],rfl,e.symm,Mw.Sz.uY ?_ (by omega)⟩;rw[<-Mw.nR,e];omega
 ·rw[if_neg ho]at h;cases h
end Go.Proofs.YtjieekkkaekclaaGreatDoor
namespace Go.Proofs.YtjieekkkaekclaaGreatDoor.PR
open Go.RowKit Go.Pw.PrintWords Go.Pw.PrintLast Go.Pw.PrintMore
attribute [local go_sem] eG dZ fE fD dM dL eF dY
def eO.f:Nat->Int->Option (ByteArray)
 | 0,_=>none
 | k+1,a0=>if a0<0 then((eO.f k (wrap64 (-a0))).bind fun t412=>(if 1+t412.size<=9223372036854775807 then(some ((⟨#[45]⟩:ByteArray)++t412))else(none)))else(if a0<10 then((kV.f a0).bind fun t413=>(some t413))else((eO.f k (wrap64 (Int.tdiv a0 10))).bind fun t414=>((kV.f (Int.tmod a0 10)).bind fun t415=>(if t414.size+t415.size<=9223372036854775807 then(some (t414++t415))else(none)))))
theorem eO.calls (k:Nat):∀(a0:Int) (r:ByteArray) (w:World) (h:eO.f k a0=some r),
 Calls Tryz.prog 23 #[.int .i64 a0] w fun e w'=>e = .returned (.string r)/\Below w.heap.size w w':=by
 induction k using Nat.strongRecOn with
 | _ k ih=>
  intro a0 r w h;cases k with
  | zero=>exact absurd h (by simp[eO.f])
  | succ k=>
   simp only[eO.f]at h;have HB:=aA.mk (Below.refl w.heap.size w);have H:(if a0<0 then((eO.f k (wrap64 (-a0))).bind fun t412=>(if 1+t412.size<=9223372036854775807 then(some ((⟨#[45]⟩:ByteArray)++t412))else(none)))else(if a0<10 then((kV.f a0).bind fun t413=>(some t413))else((eO.f k (wrap64 (Int.tdiv a0 10))).bind fun t414=>((kV.f (Int.tmod a0 10)).bind fun t415=>(if t414.size+t415.size<=9223372036854775807 then(some (t414++t415))else(none))))))=some r:=h;clear h;by_cases c2:a0<0
   ·rw[if_pos c2]at H;have c2b0:decide (a0<0)=true:=decide_eq_true c2;clear c2;obtain⟨t412,A3,H⟩:=Zq.mq H;(try dsimp only at H);by_cases c4:1+t412.size<=9223372036854775807
    ·rw[if_pos c4]at H;have c4b0:=eq_true c4;have c4b1:decide (1+t412.size<=9223372036854775807)=true:=decide_eq_true c4;(try have c4b2:(9223372036854775807<1+t412.size)=False:=eq_false (Nat.not_lt.2 c4));obtain rfl:=Option.some.inj H;(go_enter Tryz.func23,Tryz.ntmps23);go_wp2_with (first|((with_reducible refine Zq.c 23 rfl ?_);refine Zq.g (some 7) Tryz.func23 #[.int .i64 (wrap64 (-a0))] ?_;(with_reducible refine(ih k (by omega) (wrap64 (-a0)) t412 _ A3.out).mono ?_);rintro e w5 ⟨rfl,hb⟩;refine⟨_,rfl,?_⟩;replace HB:=aA.mk (aC Zq.bo hb);(try clear hb);(try clear hb2);(try clear hk);(try clear hi)))
     go_ret
     exact⟨Zq.ew,Zq.bo⟩
    ·rw[if_neg c4]at H;exact absurd H (by simp)
   ·rw[if_neg c2]at H;have c2b0:decide (a0<0)=false:=decide_eq_false c2;clear c2;by_cases c6:a0<10
    ·rw[if_pos c6]at H;have c6b0:decide (a0<10)=true:=decide_eq_true c6;clear c6;obtain⟨t413,A7,H⟩:=Zq.mq H;(try dsimp only at H);obtain rfl:=Option.some.inj H;(go_enter Tryz.func23,Tryz.ntmps23);go_wp2_with (first|((with_reducible refine Zq.c 65 rfl ?_);refine Zq.g (some 12) Tryz.func65 #[.int .i64 a0] ?_;(with_reducible refine(kV.calls a0 t413 _ A7.out).mono ?_);rintro e w8 ⟨rfl,hb⟩;refine⟨_,rfl,?_⟩;replace HB:=aA.mk (aC Zq.bo hb);(try clear hb);(try clear hb2);(try clear hk);(try clear hi)))
     go_ret
     exact⟨Zq.ew,Zq.bo⟩
    ·rw[if_neg c6]at H;have c6b0:decide (a0<10)=false:=decide_eq_false c6;clear c6;obtain⟨t414,A9,H⟩:=Zq.mq H;(try dsimp only at H);obtain⟨t415,A10,H⟩:=Zq.mq H;(try dsimp only at H);by_cases c11:t414.size+t415.size<=9223372036854775807
     ·rw[if_pos c11]at H;have c11b0:=eq_true c11;have c11b1:decide (t414.size+t415.size<=9223372036854775807)=true:=decide_eq_true c11;(try have c11b2:(9223372036854775807<t414.size+t415.size)=False:=eq_false (Nat.not_lt.2 c11));obtain rfl:=Option.some.inj H;(go_enter Tryz.func23,Tryz.ntmps23);go_wp2_with (first|((with_reducible refine Zq.c 23 rfl ?_);refine Zq.g (some 15) Tryz.func23 #[.int .i64 (wrap64 (Int.tdiv a0 10))] ?_;(with_reducible refine(ih k (by omega) (wrap64 (Int.tdiv a0 10)) t414 _ A9.out).mono ?_);rintro e w12 ⟨rfl,hb⟩;refine⟨_,rfl,?_⟩;replace HB:=aA.mk (aC Zq.bo hb);(try clear hb);(try clear hb2);(try clear hk);(try clear hi))|((with_reducible refine Zq.c 65 rfl ?_);refine Zq.g (some 18) Tryz.func65 #[.int .i64 (Int.tmod a0 10)] ?_;(with_reducible refine(kV.calls (Int.tmod a0 10) t415 _ A10.out).mono ?_);rintro e w13 ⟨rfl,hb⟩;refine⟨_,rfl,?_⟩;replace HB:=aA.mk (aC Zq.bo hb);(try clear hb);(try clear hb2);(try clear hk);(try clear hi)))
      go_ret
      exact⟨Zq.ew,Zq.bo⟩
     ·rw[if_neg c11]at H;exact absurd H (by simp)
def fI.l0:Nat->List ByteArray->List ByteArray->Int->Option (Bool)
 | 0,_,_,_=>none
 | k+1,x0,x1,x5=>if x5<(x0.length:Int)then(if 0<=x5 then(if x5<(x1.length:Int)then(if(aU ByteArray.empty x0 x5).toList=(aU ByteArray.empty x1 x5).toList then(fI.l0 k x0 x1 (wrap64 (x5+1)))else(some false))else(none))else(none))else(some true)
def fI.f (k:Nat) (l0:List ByteArray) (l1:List ByteArray):Option (Bool):=if(l0.length:Int)=(l1.length:Int)then(fI.l0 k l0 l1 0)else(some false)
theorem fI.calls (k:Nat) (A0:Option Addr) (c0:Nat) (l0:List ByteArray) (A1:Option Addr) (c1:Nat) (l1:List ByteArray) (r:Bool) (w:World) (hr0:Kd.C Kd.string w A0 l0.length l0) (hc0:l0.length<=c0) (hr1:Kd.C Kd.string w A1 l1.length l1) (hc1:l1.length<=c1) (h:fI.f k l0 l1=some r):
 Calls Tryz.prog 28 #[.slice A0 l0.length c0,.slice A1 l1.length c1] w fun e w'=>e = .returned (.bool r)/\jD w w':=by
 have HR0:=aA.mk hr0;have HC0:=aA.mk hc0;clear hr0 hc0;have HR1:=aA.mk hr1;have HC1:=aA.mk hc1;clear hr1 hc1;have H:(if(l0.length:Int)=(l1.length:Int)then(fI.l0 k l0 l1 0)else(some false))=some r:=h;clear h;by_cases c3:(l0.length:Int)=(l1.length:Int)
 ·rw[if_pos c3]at H;have c3b0:((l0.length:Int) == (l1.length:Int))=true:=beq_iff_eq.mpr c3;have c3b1:((l0.length:Int) != (l1.length:Int))=false:=bne_eq_false_iff_eq.mpr c3;(have c3b2:(l0.length == l1.length)=true:=by first|simpa using c3|(simp at c3⊢;omega));clear c3;have H':=aA.mk H;clear H;(go_enter Tryz.func28,Tryz.ntmps28);(go_wp2);repeat(go_quiet (fail);try go_wp2)
  go_loopg [5] k (fun kq v5 w'=>∃(x5_1:Int),v5 = .int .i64 x5_1/\aA (fI.l0 kq l0 l1 x5_1=some r)/\aA (kq<=k)/\jD w w')
  case atStart=>exact⟨(0),Zq.sd,H',⟨Nat.le_refl _⟩,Zq.dr⟩
  case round=>
   clear H';(try clear c1);(try clear c2);(try clear p2);(try clear c3);(try clear c3b0);(try clear c3b1);(try clear c3b2);obtain⟨x5_1,rfl,HA,HK1,⟨m1,rfl⟩⟩:=hrel;cases gk with
   | zero=>exact absurd HA.out (by simp[fI.l0])
   | succ k1=>
    have H:=HA.out;clear HA;simp only[fI.l0]at H;by_cases c4:x5_1<(l0.length:Int)
    ·rw[if_pos c4]at H;have c4b0:decide (x5_1<(l0.length:Int))=true:=decide_eq_true c4;clear c4;by_cases c5:0<=x5_1
     ·rw[if_pos c5]at H;have c5b0:decide (0<=x5_1)=true:=decide_eq_true c5;clear c5;by_cases c6:x5_1<(l1.length:Int)
      ·rw[if_pos c6]at H;have c6b0:decide (x5_1<(l1.length:Int))=true:=decide_eq_true c6;clear c6;by_cases c7:(aU ByteArray.empty l0 x5_1).toList=(aU ByteArray.empty l1 x5_1).toList
       ·rw[if_pos c7]at H;have c7b0:((aU ByteArray.empty l0 x5_1).toList == (aU ByteArray.empty l1 x5_1).toList)=true:=beq_iff_eq.mpr c7;have c7b1:((aU ByteArray.empty l0 x5_1).toList != (aU ByteArray.empty l1 x5_1).toList)=false:=bne_eq_false_iff_eq.mpr c7;clear c7;have H':=aA.mk H;clear H;have p424:0<=(x5_1:Int):=of_decide_eq_true Zq.am;have q424:x5_1<(l0.length:Int):=of_decide_eq_true Zq.am;obtain⟨ad424,e424,hx424_0⟩:=Kd.aQ HR0.out x5_1 p424 q424;cases e424;replace p424:=eq_true p424;replace q424:=eq_true q424;have p425:0<=(x5_1:Int):=of_decide_eq_true Zq.am;have q425:x5_1<(l1.length:Int):=of_decide_eq_true Zq.am;obtain⟨ad425,e425,hx425_0⟩:=Kd.aQ HR1.out x5_1 p425 q425;cases e425;replace p425:=eq_true p425;replace q425:=eq_true q425;(go_wp2);repeat(go_quiet (fail);try go_wp2)
        go_roundg k1
        (case measure=>have:=HK1.out;omega);case rel=>exact⟨(wrap64 (x5_1+1)),Zq.sd,H',⟨by have:=HK1.out;omega⟩,Zq.dr⟩
       ·rw[if_neg c7]at H;have c7b0:((aU ByteArray.empty l0 x5_1).toList == (aU ByteArray.empty l1 x5_1).toList)=false:=beq_eq_false_iff_ne.mpr c7;have c7b1:((aU ByteArray.empty l0 x5_1).toList != (aU ByteArray.empty l1 x5_1).toList)=true:=bne_iff_ne.mpr c7;obtain rfl:=Option.some.inj H;have p424:0<=(x5_1:Int):=of_decide_eq_true Zq.am;have q424:x5_1<(l0.length:Int):=of_decide_eq_true Zq.am;obtain⟨ad424,e424,hx424_0⟩:=Kd.aQ HR0.out x5_1 p424 q424;cases e424;replace p424:=eq_true p424;replace q424:=eq_true q424;have p425:0<=(x5_1:Int):=of_decide_eq_true Zq.am;have q425:x5_1<(l1.length:Int):=of_decide_eq_true Zq.am;obtain⟨ad425,e425,hx425_0⟩:=Kd.aQ HR1.out x5_1 p425 q425;cases e425;replace p425:=eq_true p425;replace q425:=eq_true q425;(go_wp2);repeat(go_quiet (fail);try go_wp2)
        go_ret
        exact⟨by first|rfl|(simp;done)|(simp[*];done),Zq.dr⟩
      ·rw[if_neg c6]at H;exact absurd H (by simp)
     ·rw[if_neg c5]at H;exact absurd H (by simp)
    ·rw[if_neg c4]at H;have c4b0:decide (x5_1<(l0.length:Int))=false:=decide_eq_false c4;clear c4;obtain rfl:=Option.some.inj H;(go_wp2);repeat(go_quiet (fail);try go_wp2)
     go_ret
     exact⟨by first|rfl|(simp;done)|(simp[*];done),Zq.dr⟩
 ·rw[if_neg c3]at H;have c3b0:((l0.length:Int) == (l1.length:Int))=false:=beq_eq_false_iff_ne.mpr c3;have c3b1:((l0.length:Int) != (l1.length:Int))=true:=bne_iff_ne.mpr c3;(have c3b2:(l0.length == l1.length)=false:=by first|simpa using c3|(simp at c3⊢;omega));obtain rfl:=Option.some.inj H;(go_enter Tryz.func28,Tryz.ntmps28);(go_wp2);repeat(go_quiet (fail);try go_wp2)
  go_ret
  exact⟨by first|rfl|(simp;done)|(simp[*];done),Zq.dr⟩
mutual
def dV.j0:Nat->ByteArray->Bool->Option (List ByteArray×Int)
 | 0,_,_=>none
 | k+1,x0,x19=>if x19=true then(some (([]:List ByteArray),2))else((iD.f k x0).bind fun bt418=>(if bt418.2=true then(dV.j1 k bt418.1 (decide (bt418.1>1000000)))else(dV.j1 k bt418.1 true)))
def dV.j1:Nat->Int->Bool->Option (List ByteArray×Int)
 | 0,_,_=>none
 | k+1,x5,x30=>if x30=true then(some (([]:List ByteArray),13))else(dV.l0 k x5 ([]:List ByteArray) 2)
def dV.l0:Nat->Int->List ByteArray->Int->Option (List ByteArray×Int)
 | 0,_,_,_=>none
 | k+1,x5,x7,x8=>if x5>1 then(dV.l1 k x5 x7 x8)else(some (x7,0))
def dV.l1:Nat->Int->List ByteArray->Int->Option (List ByteArray×Int)
 | 0,_,_,_=>none
 | k+1,x5,x7,x8=>if x8=0 then(none)else(if(Int.tmod x5 x8)=0 then((bM.f k x8).bind fun t420=>(if x7.length<8796093022208 then(dV.l1 k (wrap64 (Int.tdiv x5 x8)) (x7++[t420]) x8)else(none)))else(dV.l0 k x5 x7 (wrap64 (x8+1))))
end
def dV.f (k:Nat) (a0:ByteArray):Option (List ByteArray×Int):=(cO.f k a0).bind fun t416=>(if t416=0 then((aN.f a0).bind fun t417=>(if t417=true then(dV.j0 k a0 true)else(dV.j0 k a0 (a0.toList == ([48]:List UInt8)))))else(some (([]:List ByteArray),t416)))
def dV.T14:Bool×List (List Nat×List Nat):=(true,[([],[]),([],[]),([1],[1]),([2],[2]),([0,3,2],[0,3]),([],[]),([],[]),([5,6],[5,6]),([4,4,0,1,2,3,4],[0,4]),([7,8,0,1,2,3,4,5,6,7,8],[5,7])])
def dV.B14:List Nat:=[0,0,2,6,15,0,0,96,31,511]
theorem dV.xR:nM .any (opsOf Tryz.f27 14)=dV.T14:=by kernel_rfl
theorem dV.uB:jG dV.T14.2 dV.B14=true:=by kernel_rfl
theorem dV.calls (k:Nat) (a0:ByteArray) (r1:List ByteArray) (r2:Int) (w:World) (h:dV.f k a0=some (r1,r2)):
 Calls Tryz.prog 27 #[.string a0] w fun e w'=>∃v0_:Value,e = .returned (.tuple #[v0_,.int .i64 r2])/\Kd.R Kd.string 9 w' w.heap.size (fun _=>True) v0_ r1/\Below w.heap.size w w':=by
 have HB:=aA.mk (Below.refl w.heap.size w);have H:((cO.f k a0).bind fun t416=>(if t416=0 then((aN.f a0).bind fun t417=>(if t417=true then(dV.j0 k a0 true)else(dV.j0 k a0 (a0.toList == ([48]:List UInt8)))))else(some (([]:List ByteArray),t416))))=some (r1,r2):=h;clear h;obtain⟨t416,A2,H⟩:=Zq.mq H;try dsimp only at H
 by_cases c3:t416=0
 ·rw[if_pos c3]at H;have c3b0:(t416 == 0)=true:=beq_iff_eq.mpr c3;have c3b1:(t416 != 0)=false:=bne_eq_false_iff_eq.mpr c3;clear c3;have HC4:=aA.mk H;clear H;(go_enter Tryz.func27,Tryz.ntmps27);(go_upto_region 4 with(first|((with_reducible refine Zq.c 57 rfl ?_);refine Zq.g (some 10) Tryz.func57 #[.string a0] ?_;(with_reducible refine(cO.calls k a0 t416 _ A2.out).mono ?_);rintro e w' ⟨rfl,nd,rfl⟩;refine⟨_,rfl,?_⟩)));(try simp only[Act.put,Zq.a1,Zq.a2,Zq.a3])
  go_cut [19] (fun v19 wc=>∃(kq:Nat) (x19_3:Bool),v19 = .bool x19_3/\aA (dV.j0 kq a0 x19_3=some (r1,r2))/\aA (kq<=k)/\aA (Below w.heap.size w wc))
  case first=>
   have H:=HC4.out;clear HC4;obtain⟨t417,A5,H⟩:=Zq.mq H;(try dsimp only at H);by_cases c6:t417=true
   ·subst c6;(have H1:(dV.j0 k a0 true)=some (r1,r2):=by rw[if_pos rfl]at H;exact H);clear H;have H:=H1;clear H1;have H':=aA.mk H;clear H;go_wp2_with (first|((with_reducible refine Zq.c 31 rfl ?_);refine Zq.g (some 15) Tryz.func31 #[.string a0] ?_;(with_reducible refine(aN.calls a0 true _ A5.out).mono ?_);rintro e w' ⟨rfl,nd,rfl⟩;refine⟨_,rfl,?_⟩))
    go_meet
    case rel=>exact⟨_,(true),Zq.sd,H',⟨by first|omega|exact Nat.le_refl _⟩,⟨Zq.bo⟩⟩
   ·replace c6:=Bool.eq_false_iff.mpr c6;subst c6;(have H1:(dV.j0 k a0 (a0.toList == ([48]:List UInt8)))=some (r1,r2):=by rw[if_neg (show ¬(false=true) by decide)]at H;exact H);clear H;have H:=H1;clear H1;have H':=aA.mk H;clear H;go_wp2_with (first|((with_reducible refine Zq.c 31 rfl ?_);refine Zq.g (some 15) Tryz.func31 #[.string a0] ?_;(with_reducible refine(aN.calls a0 false _ A5.out).mono ?_);rintro e w' ⟨rfl,nd,rfl⟩;refine⟨_,rfl,?_⟩))
    go_meet
    case rel=>exact⟨_,((a0.toList == ([48]:List UInt8))),Zq.sd,H',⟨by first|omega|exact Nat.le_refl _⟩,⟨Zq.bo⟩⟩
  case rest=>
   clear HC4;(try clear c2);(try clear p2);(try clear c3);(try clear c3b0);(try clear c3b1);(try clear c5);(try clear c6);obtain⟨kq,x19_3,rfl,HA,HJ3,HB⟩:=hcut;cases kq with
   | zero=>exact absurd HA.out (by simp[dV.j0])
   | succ kj3=>
    have H:=HA.out;clear HA;simp only[dV.j0]at H;by_cases c7:x19_3=true
    ·subst c7;(have H1:(some (([]:List ByteArray),2))=some (r1,r2):=by rw[if_pos rfl]at H;exact H);clear H;have H:=H1;clear H1;simp only[Option.some.injEq,Prod.mk.injEq]at H;obtain⟨rfl,rfl⟩:=H;go_wp2
     go_ret2
     exact⟨_,by first|rfl|(simp[bE,bD]<;>rfl)|(simp[*,bE,bD]<;>rfl),by first|exact Kd.tT _ _ _ _ _|exact Kd.wN _ _ _ _ _|exact Kd.sZ _ _ _ _ _|exact Kd.wM _ _ _ _ _|exact Kd.wL _ _ _ _ _,Zq.bo⟩
    ·replace c7:=Bool.eq_false_iff.mpr c7;subst c7;(have H1:((iD.f kj3 a0).bind fun bt418=>(if bt418.2=true then(dV.j1 kj3 bt418.1 (decide (bt418.1>1000000)))else(dV.j1 kj3 bt418.1 true)))=some (r1,r2):=by rw[if_neg (show ¬(false=true) by decide)]at H;exact H);clear H;have H:=H1;clear H1;replace H:=Zq.mp H;obtain⟨⟨t418,t419⟩,A80,H⟩:=H;(try dsimp only at H);have A8:=aA.mk A80;clear A80;have HC9:=aA.mk H;clear H;(go_upto_region 7 with(first|((with_reducible refine Zq.c 37 rfl ?_);refine Zq.g (some 22) Tryz.func37 #[.string a0] ?_;(with_reducible refine(iD.calls kj3 a0 t418 t419 _ A8.out).mono ?_);rintro e w' ⟨rfl,nd,rfl⟩;refine⟨_,rfl,?_⟩)));(try simp only[Act.put,Zq.a1,Zq.a2,Zq.a3])
     go_cut [30] (fun v30 wc=>∃(kq:Nat) (x30_8:Bool),v30 = .bool x30_8/\aA (dV.j1 kq t418 x30_8=some (r1,r2))/\aA (kq<=kj3)/\aA (Below w.heap.size w wc))
     case first=>
      have H:=HC9.out;clear HC9;by_cases c10:t419=true
      ·subst c10;(have H1:(dV.j1 kj3 t418 (decide (t418>1000000)))=some (r1,r2):=by rw[if_pos rfl]at H;exact H);clear H;have H:=H1;clear H1;have H':=aA.mk H;clear H;go_wp2
       go_meet
       case rel=>exact⟨_,(decide (t418>1000000)),Zq.sd,H',⟨by have:=HJ3.out;first|omega|exact Nat.le_refl _⟩,⟨Zq.bo⟩⟩
      ·replace c10:=Bool.eq_false_iff.mpr c10;subst c10;(have H1:(dV.j1 kj3 t418 true)=some (r1,r2):=by rw[if_neg (show ¬(false=true) by decide)]at H;exact H);clear H;have H:=H1;clear H1;have H':=aA.mk H;clear H;go_wp2
       go_meet
       case rel=>exact⟨_,(true),Zq.sd,H',⟨by have:=HJ3.out;first|omega|exact Nat.le_refl _⟩,⟨Zq.bo⟩⟩
     case rest=>
      clear HC9;(try clear c1);(try clear c2);(try clear p2);(try clear c3);(try clear c3b0);(try clear c3b1);(try clear c5);(try clear c6);(try clear c7);(try clear c10);(try clear p2);obtain⟨kq,x30_8,rfl,HA,HJ8,HB⟩:=hcut;cases kq with
      | zero=>exact absurd HA.out (by simp[dV.j1])
      | succ kj8=>
       have H:=HA.out;clear HA;simp only[dV.j1]at H;by_cases c11:x30_8=true
       ·subst c11;(have H1:(some (([]:List ByteArray),13))=some (r1,r2):=by rw[if_pos rfl]at H;exact H);clear H;have H:=H1;clear H1;simp only[Option.some.injEq,Prod.mk.injEq]at H;obtain⟨rfl,rfl⟩:=H;go_wp2
        go_ret2
        exact⟨_,by first|rfl|(simp[bE,bD]<;>rfl)|(simp[*,bE,bD]<;>rfl),by first|exact Kd.tT _ _ _ _ _|exact Kd.wN _ _ _ _ _|exact Kd.sZ _ _ _ _ _|exact Kd.wM _ _ _ _ _|exact Kd.wL _ _ _ _ _,Zq.bo⟩
       ·replace c11:=Bool.eq_false_iff.mpr c11;subst c11;(have H1:(dV.l0 kj8 t418 ([]:List ByteArray) 2)=some (r1,r2):=by rw[if_neg (show ¬(false=true) by decide)]at H;exact H);clear H;have H:=H1;clear H1;have H':=aA.mk H;clear H;go_wp2
        go_loopg [5,7,8] kj8 (fun kq v5 v7 v8 w'=>∃(x5_3:Int) (x7_3:List ByteArray) (x8_3:Int),v5 = .int .i64 x5_3/\v8 = .int .i64 x8_3/\aA (dV.l0 kq x5_3 x7_3 x8_3=some (r1,r2))/\aA (kq<=kj8)/\aA (Kd.R Kd.string 9 w' w.heap.size (fun _=>True) v7 x7_3)/\aA (Below w.heap.size w w'))
        case atStart=>exact⟨(t418),(([]:List ByteArray)),(2),Zq.sd,Zq.sd,H',⟨Nat.le_refl _⟩,⟨by first|exact Kd.tT _ _ _ _ _|exact Kd.wN _ _ _ _ _|exact Kd.sZ _ _ _ _ _|exact Kd.wM _ _ _ _ _|exact Kd.wL _ _ _ _ _⟩,⟨Zq.bo⟩⟩
        case round=>
         clear H';(try clear c1);(try clear c2);(try clear p2);(try clear c3);(try clear c3b0);(try clear c3b1);(try clear c5);(try clear c6);(try clear c7);(try clear c10);(try clear c11);(try clear p2);obtain⟨x5_3,x7_3,x8_3,rfl,rfl,HA,HK3,HO_7,HB⟩:=hrel;cases gk with
         | zero=>exact absurd HA.out (by simp[dV.l0])
         | succ k3=>
          have H:=HA.out;clear HA;simp only[dV.l0]at H;by_cases c12:x5_3>1
          ·rw[if_pos c12]at H;have c12b0:decide (1<x5_3)=true:=decide_eq_true c12;clear c12;have H':=aA.mk H;clear H;go_wp2
           go_loopg [5,7] k3 (fun kq v5 v7 w'=>∃(x5_4:Int) (x7_4:List ByteArray),v5 = .int .i64 x5_4/\aA (dV.l1 kq x5_4 x7_4 x8_3=some (r1,r2))/\aA (kq<=k3)/\aA (Kd.R Kd.string 9 w' w.heap.size (fun _=>True) v7 x7_4)/\aA (Below w.heap.size w w'))
           case atStart=>exact⟨(x5_3),(x7_3),Zq.sd,H',⟨Nat.le_refl _⟩,⟨by(with_reducible repeat(first|apply Kd.bR|apply Kd.bP|apply Kd.aK));exact HO_7.out⟩,⟨Zq.bo⟩⟩
           case round=>
            clear H';(try clear c1);(try clear c2);(try clear p2);(try clear c3);(try clear c3b0);(try clear c3b1);(try clear c5);(try clear c6);(try clear c7);(try clear c10);(try clear c11);(try clear c12);(try clear c12b0);(try clear p2);obtain⟨x5_4,x7_4,rfl,HA,HK4,HO_7,HB⟩:=hrel;cases gk with
            | zero=>exact absurd HA.out (by simp[dV.l1])
            | succ k4=>
             have H:=HA.out;clear HA;simp only[dV.l1]at H;by_cases c13:x8_3=0;·rw[if_pos c13]at H;exact absurd H (by simp)
             ·rw[if_neg c13]at H;have c13b0:(x8_3 == 0)=false:=beq_eq_false_iff_ne.mpr c13;have c13b1:(x8_3 != 0)=true:=bne_iff_ne.mpr c13;by_cases c14:(Int.tmod x5_4 x8_3)=0
              ·rw[if_pos c14]at H;have c14b0:((Int.tmod x5_4 x8_3) == 0)=true:=beq_iff_eq.mpr c14;have c14b1:((Int.tmod x5_4 x8_3) != 0)=false:=bne_eq_false_iff_eq.mpr c14;clear c14;obtain⟨t420,A15,H⟩:=Zq.mq H;(try dsimp only at H);by_cases c16:x7_4.length<8796093022208
               ·rw[if_pos c16]at H;have LMc16:=aA.mk c16;clear c16;obtain⟨y421,hy421⟩:∃y_:List ByteArray,y_=(x7_4++[t420]):=⟨_,rfl⟩;(replace H:(dV.l1 k4 (wrap64 (Int.tdiv x5_4 x8_3)) y421 x8_3)=some (r1,r2):=by first|(rw[hy421];with_reducible exact H)|(have H2_:=(Option.bind_some _ _).symm.trans H;rw[hy421];with_reducible exact H2_)|(have H2_:=(Option.bind_some _ _).symm.trans H;with_reducible exact H2_)|with_reducible exact H|(rw[hy421];exact H)|exact H);have Ny421:=aA.mk hy421;clear hy421;have H':=aA.mk H;clear H;(try go_wp2);replace HO_7:=aA.mk (Kd.aK HO_7.out);replace HB:=aA.mk (aT HB.out);refine dG (n:=10) (S:=fun w'=>True) (ds:=[]) #[false,false,false,false,false,false,false,false,false,false] (by kernel_rfl) rfl rfl trivial (fun hHeld=>?_);refine bF dV.xR dV.uB (fun HT_ HW_=>?_);generalize wr.drew=w17 at HO_7 HB hHeld⊢;refine Zq.pu 0 (some 39) (Zq.bs 10 1) ?_;refine Zq.pu 1 (some 40) (Zq.bs 10 3) ?_;refine Zq.pu 5 (some 44) (Zq.bs 10 35) ?_;refine Zq.pu 6 (some 45) (Zq.bs 10 99) ?_;refine Zq.pu 7 (some 46) (Zq.bs 10 227) ?_;refine gF (i:=2) (N:=some 41) #[true,true,true,false,false,true,true,true,false,false] rfl rfl (bZ HT_.out (by kernel_rfl)) (by decide) (fun K hK=>?_);refine eQ Tryz.func88 (by kernel_rfl) rfl #[.int .i64 x8_3] (by rfl) rfl rfl (by(try simp only[List.map_toArray,List.map_cons,List.map_nil]);first|done|rfl|(simp only[List.length_drop,List.length_take];rfl)) ?_;(with_reducible refine(bM.calls k4 x8_3 t420 _ A15.out).mono ?_);rintro e w18 ⟨rfl,hb⟩;refine⟨_,rfl,?_⟩
                replace HO_7:=aA.mk (Kd.aG (Zq.ra HO_7.out) hb);replace HB:=aA.mk (aC Zq.bo hb);(try clear hb);(try clear hb2);(try clear hk);(try clear hi);refine hK.out _ _ trivial (fun hHeld=>?_);clear hK K;refine dO (a':=?_) ?_ ?_;rotate_left;(·show Act.put _ (some 41) _=_;simp only[Act.put,Zq.a1,Zq.a2,Zq.a3,bG,bK];rfl);refine gF (i:=3) (N:=some 42) #[true,true,true,true,false,true,true,true,false,false] rfl rfl (bZ HT_.out (by kernel_rfl)) (by decide) (fun K hK=>?_);refine aAc (w1:=?_) (v:=?_) (by rfl) rfl ?_ ?_;rotate_left 2;(·go_simp;constructor;(·rfl);·rfl);refine hK.out _ _ trivial (fun hHeld=>?_);clear hK K;refine dO (a':=?_) ?_ ?_;rotate_left;(·show Act.put _ (some 42) _=_;simp only[Act.put,Zq.a1,Zq.a2,Zq.a3,bG,bK];rfl);refine gF (i:=4) (N:=some 43) #[true,true,true,true,true,true,true,true,false,false] rfl rfl (bZ HT_.out (by kernel_rfl)) (by decide) (fun K hK=>?_);refine Kd.aA3 Kd.string (w0:=w) w.heap.size (by rfl) (.tmp 39) (.tmp 42) 27 9 (.string ⟨#[]⟩) 16 rfl Tryz.underlying27 aNc rfl (by decide) (by omega) u7 x7_4 t420 [.string t420] (fun _=>True) (fun _=>False) rfl rfl ?aP (fun _ hk=>hk.elim) ?aF ?aO ?aB ?aS ?aL ?_;(case aP=>exact rfl);(case aB=>exact Zq.bo);(case aF=>exact(fun _ _=>trivial));(case aO=>exact(Zq.ra HO_7.out));(case aS=>exact(aD Zq.bo));(case aL=>have:=LMc16.out;omega);intro v422 w19 ho hb hg hat;rw[<-Ny421.out]at ho;have n0_:=aA.mk (hb);have n1_:=aA.mk (ho);clear HB;clear HO_7;have HB:=n0_;have HO423:=n1_;clear n0_ n1_;clear ho hb hg hat
                refine hK.out _ _ trivial (fun hHeld=>?_);clear hK K;refine dO (a':=?_) ?_ ?_;rotate_left;(·show Act.put _ (some 43) _=_;simp only[Act.put,Zq.a1,Zq.a2,Zq.a3,bG,bK];rfl);refine Zq.pu 8 (some 7) (Zq.bs 10 511) ?_;refine Zq.pu 9 (some 5) (Zq.bs 10 1023) ?_;refine eZ (bV HT_.out (by kernel_rfl)) ?_;try go_wp2
                go_roundg k4
                (case measure=>have:=HJ3.out;have:=HJ8.out;have:=HK3.out;have:=HK4.out;omega);case rel=>exact⟨(wrap64 (Int.tdiv x5_4 x8_3)),(y421),Zq.sd,H',⟨by have:=HJ3.out;have:=HJ8.out;have:=HK3.out;have:=HK4.out;omega⟩,⟨by(with_reducible repeat(first|apply Kd.bR|apply Kd.bP|apply Kd.aK));exact HO423.out⟩,⟨Zq.bo⟩⟩
               ·rw[if_neg c16]at H;exact absurd H (by simp)
              ·rw[if_neg c14]at H;have c14b0:((Int.tmod x5_4 x8_3) == 0)=false:=beq_eq_false_iff_ne.mpr c14;have c14b1:((Int.tmod x5_4 x8_3) != 0)=true:=bne_iff_ne.mpr c14;have H':=aA.mk H;clear H;go_wp2
               go_roundg k4
               (case measure=>have:=HJ3.out;have:=HJ8.out;have:=HK3.out;have:=HK4.out;omega);case rel=>exact⟨(x5_4),(x7_4),(wrap64 (x8_3+1)),Zq.sd,Zq.sd,H',⟨by have:=HJ3.out;have:=HJ8.out;have:=HK3.out;have:=HK4.out;omega⟩,⟨by(with_reducible repeat(first|apply Kd.bR|apply Kd.bP|apply Kd.aK));exact HO_7.out⟩,⟨Zq.bo⟩⟩
          ·rw[if_neg c12]at H;have c12b0:decide (1<x5_3)=false:=decide_eq_false c12;clear c12;simp only[Option.some.injEq,Prod.mk.injEq]at H;obtain⟨rfl,rfl⟩:=H;go_wp2
           go_ret2
           exact⟨_,by first|rfl|(simp[bE,bD]<;>rfl)|(simp[*,bE,bD]<;>rfl),by(with_reducible repeat(first|apply Kd.bR|apply Kd.bP|apply Kd.aK));exact HO_7.out,Zq.bo⟩
 ·rw[if_neg c3]at H;have c3b0:(t416 == 0)=false:=beq_eq_false_iff_ne.mpr c3;have c3b1:(t416 != 0)=true:=bne_iff_ne.mpr c3;simp only[Option.some.injEq,Prod.mk.injEq]at H;obtain⟨rfl,rfl⟩:=H;(go_enter Tryz.func27,Tryz.ntmps27);go_wp2_with (first|((with_reducible refine Zq.c 57 rfl ?_);refine Zq.g (some 10) Tryz.func57 #[.string a0] ?_;(with_reducible refine(cO.calls k a0 t416 _ A2.out).mono ?_);rintro e w' ⟨rfl,nd,rfl⟩;refine⟨_,rfl,?_⟩))
  go_ret2
  exact⟨_,by first|rfl|(simp[bE,bD]<;>rfl)|(simp[*,bE,bD]<;>rfl),by first|exact Kd.tT _ _ _ _ _|exact Kd.wN _ _ _ _ _|exact Kd.sZ _ _ _ _ _|exact Kd.wM _ _ _ _ _|exact Kd.wL _ _ _ _ _,Zq.bo⟩
end Go.Proofs.YtjieekkkaekclaaGreatDoor.PR
namespace Go.Proofs.YtjieekkkaekclaaGreatDoor
open Go Go.RowKit Go.Pw.PrintWords Go.Proofs.YtjieekkkaekclaaGreatDoor.PR
theorem zV (n:Nat):n<1000000000000->EvP (fun k=>eO.f k (n:Int)) (Mw.B (Mw.gU n))/\(Mw.gU n).length<=12:=by
 induction n using Nat.strongRecOn with
 | _ n ih=>
  intro hn;have hlen:(Mw.gU n).length<=12:=(Mw.iZ n 12 (by omega)).mpr (by omega);refine⟨?_,hlen⟩;by_cases h:n<10;·refine EvP.step (f:=fun _=>some (Mw.B (Mw.gU n))) (fun k=>?_) (EvP.now _);simp only[eO.f];rw[if_neg (by omega),if_pos (by omega),yB _ (by omega) (by omega),Mw.jY h,Int.toNat_natCast];rfl
  ·obtain⟨he,hl⟩:=ih (n/10) (by omega) (by omega);refine EvP.step (f:=fun k=>(eO.f k ((n/10:Nat):Int)).bind fun t=>if t.size+(Mw.B [Mw.dgt (n%10)]).size<=9223372036854775807 then some (t++Mw.B [Mw.dgt (n%10)])else none) (fun k=>?_) ?_
   ·simp only[eO.f]
    rw[if_neg (by omega),if_neg (by omega),show wrap64 (Int.tdiv (n:Int) 10)=((n/10:Nat):Int) by rw[show Int.tdiv (n:Int) 10=((n/10:Nat):Int)from rfl];exact eT (by omega) (by omega),
     show Int.tmod (n:Int) 10=((n%10:Nat):Int)from rfl,yB _ (by omega) (by omega),Int.toNat_natCast]
    rfl
   ·refine EvP.bind he (EvP.fM (by rw[eH,eH];simp only[List.length_cons,List.length_nil];omega) ?_);rw[lM,<-Mw.rW (by omega)];exact EvP.now _
theorem aDz (n:Int) (h:n.natAbs<1000000000000):EvP (fun k=>eO.f k n) (Mw.T n):=by
 by_cases h0:n<0;·obtain⟨he,hl⟩:=zV n.natAbs h;refine EvP.step (f:=fun k=>(eO.f k ((n.natAbs:Nat):Int)).bind fun t=>if 1+t.size<=9223372036854775807 then some ((⟨#[45]⟩:ByteArray)++t)else none) (fun k=>?_) ?_;(·simp only[eO.f];rw[if_pos h0,show wrap64 (-n)=(n.natAbs:Int) by rw[eT (by omega) (by omega)];omega]);·refine EvP.bind he ?_;refine EvP.fM (by rw[eH];omega) ?_;rw[show(⟨#[45]⟩:ByteArray)=Mw.B [45]from rfl,lM,Mw.T,Mw.kF h0];exact EvP.now _
 ·obtain⟨he,_⟩:=zV n.natAbs h;rw[Mw.T,Mw.eY (by omega)];(have e:((n.natAbs:Nat):Int)=n:=by omega);rw[e]at he;exact he
theorem aHH:bts ((([]:List Nat)).map Mw.gU)=[]:=rfl
theorem aKp (p:Nat) (l:List Nat):bts ((p::l).map Mw.gU)=Mw.T (p:Int)::bts (l.map Mw.gU):=by rw[Mw.T,Mw.eY (by omega),Int.natAbs_natCast];rfl
theorem aMG:∀(m d n:Nat),n+(n+1-d)<=m->(Mw.fs d n).length<=n:=by
 intro m;induction m with
 | zero=>intro d n h;rw[Mw.aBh (by omega)];simp
 | succ m ih=>intro d n h;by_cases h2:d<2\/n<d;(·rw[Mw.fs,dif_pos h2];simp);·by_cases hd:n%d=0;(·rw[Mw.aEZ (by omega) (by omega) hd];have h1:n/d<n:=Nat.div_lt_self (by omega) (by omega);have:=ih d (n/d) (by omega);simp only[List.length_cons];omega);·rw[Mw.aCz (by omega) hd];exact ih (d+1) n (by omega)
theorem aHh (d n:Nat):(bts ((Mw.fs d n).map Mw.gU)).length<=n:=by have:=aMG _ d n (Nat.le_refl _);simpa [bts]using this
def aED (d n:Nat):Prop:=∀e,2<=e->e<d->n%e≠0
theorem aED.le {d n:Nat} (h:aED d n) (h1:1<n):d<=n:=by
 rcases Nat.lt_or_ge n d with h2|h2;·exact absurd (Nat.mod_self n) (h n (by omega) h2)
 ·exact h2
theorem aED.next {d n:Nat} (h:aED d n) (h1:n%d≠0):aED (d+1) n:=fun e h2 h3=>by
 rcases Nat.lt_or_ge e d with h4|h4;·exact h e h2 h4
 ·rw[show e=d by omega];exact h1
theorem aIY:∀(q m d:Nat) (acc:List ByteArray),m+(m+1-d)<=q->1<=m->2<=d->d<=1000002->aED d m->acc.length+m<=1000001->EvP (fun k=>dV.l1 k (m:Int) acc (d:Int)) (acc++bts ((Mw.fs d m).map Mw.gU),0):=by
 intro q;induction q with
 | zero=>intro m d acc h h1;omega
 | succ q ih=>
  intro m d acc h h1 h2 hd hno hacc;by_cases hm:m%d=0
  ·have hlt:m/d<m:=Nat.div_lt_self (by omega) (by omega);(have h1':1<=m/d:=by rcases Nat.eq_zero_or_pos (m/d)with h0|h0;(·have:=Nat.div_add_mod m d;rw[h0,hm]at this;omega);·exact h0);have r:=ih (m/d) d (acc++[Mw.T (d:Int)]) (by omega) h1' h2 hd (Mw.aEn hno hm) (by simp only[List.length_append,List.length_cons,List.length_nil];omega);rw[List.append_assoc,List.singleton_append,<-aKp,<-Mw.aEZ h2 (by omega) hm]at r;refine EvP.step (f:=fun k=>(bM.f k (d:Int)).bind fun t=>if acc.length<8796093022208 then dV.l1 k ((m/d:Nat):Int) (acc++[t]) (d:Int)else none) (fun k=>?_) ?_
   ·simp only[dV.l1]
    rw[if_neg (by omega),if_pos (by rw[show Int.tmod (m:Int) (d:Int)=((m%d:Nat):Int)from rfl,hm];rfl),
     show wrap64 (Int.tdiv (m:Int) (d:Int))=((m/d:Nat):Int) by rw[show Int.tdiv (m:Int) (d:Int)=((m/d:Nat):Int)from rfl];exact eT (by omega) (by omega)]
   ·exact EvP.bind (kU _ (by omega)) (EvP.fM (by omega) r)
  ·(have hne:¬Int.tmod (m:Int) (d:Int)=0:=by rw[show Int.tmod (m:Int) (d:Int)=((m%d:Nat):Int)from rfl];omega);refine EvP.step (f:=fun k=>dV.l0 k (m:Int) acc ((d+1:Nat):Int)) (fun k=>?_) ?_;(·simp only[dV.l1];rw[if_neg (by omega),if_neg hne,show wrap64 ((d:Int)+1)=((d+1:Nat):Int) by rw[eT (by omega) (by omega)];rfl]);·rw[Mw.aCz h2 hm];have hno':=hno.next hm;by_cases hm1:1<m;(·have hle:=hno'.le hm1;refine EvP.step (f:=fun k=>dV.l1 k (m:Int) acc ((d+1:Nat):Int)) (fun k=>?_) (ih m (d+1) acc (by omega) h1 (by omega) (by omega) hno' hacc);simp only[dV.l0];rw[if_pos (by omega)]);·rw[Mw.aBh (by omega),aHH,List.append_nil];refine EvP.step (f:=fun _=>some (acc,0)) (fun k=>?_) (EvP.now _);simp only[dV.l0];rw[if_neg (by omega)]
theorem aIZ (l:List UInt8) (hl:l.length<=1000):EvP (fun k=>dV.f k (Mw.B l)) (bts (Mw.factor l).1,(Mw.factor l).2):=by
 unfold dV.f;refine EvP.bind (lG l (by omega)) ?_;unfold Mw.factor;by_cases ht:Mw.iP l=0
 ·rw[if_pos ht];refine EvP.fM ht ?_;obtain⟨n,e1,e2,e3,e4⟩:=lX ht;rw[e1,e2];(have t0:∀b,EvP (fun k=>dV.j0 k (Mw.T n) true) b=EvP (fun k=>dV.j0 k (Mw.T n) true) b:=fun _=>rfl);have two:EvP (fun k=>dV.j0 k (Mw.T n) true) (([]:List ByteArray),(2:Int)):=EvP.step (f:=fun _=>some ([],2)) (fun k=>by simp only[dV.j0,if_pos]) (EvP.now _);rw[kN];refine EvP.bind (EvP.now _) ?_;by_cases hn:n<0;·rw[if_pos (show n<1 by omega)];refine EvP.fM (decide_eq_true hn) two
  ·refine EvP.jC (by rw[decide_eq_true_iff];exact hn) ?_;by_cases h0:n=0;·rw[if_pos (show n<1 by omega),show((Mw.T n).toList == ([48]:List UInt8))=true from beq_iff_eq.mpr ((fC n).mpr h0)];exact two
   ·rw[if_neg (show ¬n<1 by omega),show((Mw.T n).toList == ([48]:List UInt8))=false from beq_eq_false_iff_ne.mpr fun h=>h0 ((fC n).mp h)];have tt:=aFx (Mw.jF n) (by rw[<-e3];omega);rw[Mw.gX,Mw.nR]at tt;(have big:∀x,EvP (fun k=>dV.j1 k x true) (([]:List ByteArray),(13:Int)):=fun x=>EvP.step (f:=fun _=>some ([],13)) (fun k=>by simp only[dV.j1,if_pos]) (EvP.now _));refine EvP.step (f:=fun k=>(iD.f k (Mw.T n)).bind fun bt418=>(if bt418.2=true then(dV.j1 k bt418.1 (decide (bt418.1>1000000)))else(dV.j1 k bt418.1 true))) (fun k=>by simp only[dV.j0];rw[if_neg (by simp)]) ?_;refine EvP.bind tt ?_;by_cases h15:(Mw.gU n.natAbs).length<=15;·rw[if_pos ⟨Mw.xU n,h15⟩];refine EvP.fM rfl ?_;by_cases hb:1000000<n;(·rw[if_pos hb,show decide (n>1000000)=true from decide_eq_true hb];exact big _);·rw[if_neg hb,show decide (n>1000000)=false from decide_eq_false hb];refine EvP.step (f:=fun k=>dV.l0 k n [] 2) (fun k=>by simp only[dV.j1];rw[if_neg (by simp)]) ?_;obtain⟨m,hm⟩:∃m:Nat,n=m:=⟨n.toNat,by omega⟩;subst hm;rw[Int.toNat_natCast];by_cases h1:1<m;(·have r:=aIY _ m 2 [] (Nat.le_refl _) (by omega) (by omega) (by omega) (fun e h2 h3=>by omega) (by simp;omega);rw[List.nil_append]at r;refine EvP.step (f:=fun k=>dV.l1 k (m:Int) [] ((2:Nat):Int)) (fun k=>?_) r;simp only[dV.l0];rw[if_pos (by omega)];rfl);·rw[Mw.aBh (by omega),aHH];refine EvP.step (f:=fun _=>some ([],0)) (fun k=>?_) (EvP.now _);simp only[dV.l0];rw[if_neg (by omega)]
    ·rw[if_neg (fun h=>h15 h.2)];refine EvP.jC (by simp) ?_;(have hbig:1000000<n:=by(have:=fun h=>h15 ((Mw.iZ n.natAbs 15 (by omega)).mpr h));have:¬n.natAbs<1000000000000000:=this;omega);rw[if_pos hbig];exact big _
 ·rw[if_neg ht];exact EvP.jC ht (EvP.now _)
theorem aHp (l:List ByteArray) (hl:l.length<=1000000000000):∀(q i:Nat),i+q=l.length->EvP (fun k=>fI.l0 k l l (i:Int)) true:=by
 intro q;induction q with
 | zero=>intro i h;refine EvP.step (f:=fun _=>some true) (fun k=>?_) (EvP.now _);simp only[fI.l0];rw[if_neg (by omega)]
 | succ q ih=>intro i h;refine EvP.step (f:=fun k=>fI.l0 k l l ((i+1:Nat):Int)) (fun k=>?_) (ih (i+1) (by omega));simp only[fI.l0];rw[if_pos (by omega),if_pos (by omega),if_pos (by omega),if_pos trivial,show wrap64 ((i:Int)+1)=((i+1:Nat):Int) by rw[eT (by omega) (by omega)];rfl]
theorem aHq (l:List ByteArray) (hl:l.length<=1000000000000):EvP (fun k=>fI.f k l l) true:=by unfold fI.f;exact EvP.fM rfl (aHp l hl l.length 0 (by omega))
theorem aHR {l:List UInt8} (h:l.length<=1000):qC.f (Mw.B l)=some (bts (Mw.factor l).1,(Mw.factor l).2):=by unfold qC.f;rw[if_pos (by rw[eH];omega),nQ]
theorem aH5 (l:List UInt8):(bts (Mw.factor l).1).length<=1000000:=by
 unfold Mw.factor;split;·split;(·simp[bts]);·split;(·simp[bts]);·have:=aHh 2 (Mw.lI l).toNat;simp only;omega
 ·simp[bts]
theorem jS:bY.f=some true:=rfl
end Go.Proofs.YtjieekkkaekclaaGreatDoor
