/- Lemmas for the claim beside this text. -/
import Derived.Test.YtjieekkkaekclaaGreatDoorZBAD
import Derived.Test.YtjieekkkaekclaaGreatDoorZBAP
import Derived.Test.YtjieekkkaekclaaGreatDoorZBAQ
import Derived.Test.YtjieekkkaekclaaGreatDoorZBAT
import Derived.Test.YtjieekkkaekclaaGreatDoorZBAY
import Derived.Test.YtjieekkkaekclaaGreatDoorZLIAB
import Derived.Test.YtjieekkkaekclaaGreatDoorZLIAD
import Derived.Test.YtjieekkkaekclaaGreatDoorZLIAE
set_option linter.all false
set_option linter.unusedVariables false
set_option linter.unusedSimpArgs false
set_option maxHeartbeats 8000000
set_option maxRecDepth 100000
namespace Go.Proofs.YtjieekkkaekclaaGreatDoor.PR
open Go.RowKit Go.Pw.PrintWords Go.Pw.PrintLast Go.Pw.PrintMore
attribute [local go_sem] eG dZ fE fD dM dL eF dY
mutual
def gN.l0:Nat->ByteArray->Int->ByteArray->Int->Option (ByteArray×Bool)
 | 0,_,_,_,_=>none
 | k+1,x0,x1,x6,x7=>if x7<x1 then((cZ.f k x6 x0).bind fun t741=>((aZ.f t741).bind fun t742=>(if(t742.size:Int)>400 then(some ((⟨#[]⟩:ByteArray),false))else(if x7>1 then(if x0.toList=([48]:List UInt8)then(gN.j1 k x0 x1 t741 x7 true)else(gN.j1 k x0 x1 t741 x7 (x0.toList == ([49]:List UInt8))))else(gN.j1 k x0 x1 t741 x7 false)))))else(some (x6,true))
def gN.j1:Nat->ByteArray->Int->ByteArray->Int->Bool->Option (ByteArray×Bool)
 | 0,_,_,_,_,_=>none
 | k+1,x0,x1,x6,x7,x29=>if x29=true then(some (x0,true))else(if x7>1 then(gN.j2 k x0 x1 x6 x7 (x0.toList == ([45,49]:List UInt8)))else(gN.j2 k x0 x1 x6 x7 false))
def gN.j2:Nat->ByteArray->Int->ByteArray->Int->Bool->Option (ByteArray×Bool)
 | 0,_,_,_,_,_=>none
 | k+1,x0,x1,x6,x7,x36=>if x36=true then(if(Int.tmod x1 2)=0 then(some ((⟨#[49]⟩:ByteArray),true))else(some (x0,true)))else(gN.l0 k x0 x1 x6 (wrap64 (x7+1)))
end
def gN.f (k:Nat) (a0:ByteArray) (a1:Int):Option (ByteArray×Bool):=gN.l0 k a0 a1 (⟨#[49]⟩:ByteArray) 0
theorem gN.calls (k:Nat) (a0:ByteArray) (a1:Int) (r1:ByteArray) (r2:Bool) (w:World) (h:gN.f k a0 a1=some (r1,r2)):
 Calls Tryz.prog 110 #[.string a0,.int .i64 a1] w fun e w'=>e = .returned (.tuple #[.string r1,.bool r2])/\Below w.heap.size w w':=by
 have HB:=aA.mk (Below.refl w.heap.size w);have H:(gN.l0 k a0 a1 (⟨#[49]⟩:ByteArray) 0)=some (r1,r2):=h;clear h;have H':=aA.mk H;clear H;go_enter Tryz.func110,Tryz.ntmps110
 go_wp2
 go_loopg [6,7] k (fun kq v6 v7 w'=>∃(x6_1:ByteArray) (x7_1:Int),v6 = .string x6_1/\v7 = .int .i64 x7_1/\aA (gN.l0 kq a0 a1 x6_1 x7_1=some (r1,r2))/\aA (kq<=k)/\aA (Below w.heap.size w w'))
 case atStart=>exact⟨((⟨#[49]⟩:ByteArray)),(0),Zq.sd,Zq.sd,H',⟨Nat.le_refl _⟩,⟨Zq.bo⟩⟩
 case round=>
  clear H';(try clear c1);(try clear p2);obtain⟨x6_1,x7_1,rfl,rfl,HA,HK1,HB⟩:=hrel;cases gk with
  | zero=>exact absurd HA.out (by simp[gN.l0])
  | succ k1=>
   have H:=HA.out;clear HA;simp only[gN.l0]at H;by_cases c3:x7_1<a1
   ·rw[if_pos c3]at H;have c3b0:decide (x7_1<a1)=true:=decide_eq_true c3;clear c3;obtain⟨t741,A4,H⟩:=Zq.mq H;(try dsimp only at H);obtain⟨t742,A5,H⟩:=Zq.mq H;(try dsimp only at H);by_cases c6:(t742.size:Int)>400
    ·rw[if_pos c6]at H;have c6b0:decide (400<(t742.size:Int))=true:=decide_eq_true c6;have c6b1:decide (400<t742.size)=true:=decide_eq_true (by omega);clear c6;simp only[Option.some.injEq,Prod.mk.injEq]at H;obtain⟨rfl,rfl⟩:=H;go_wp2_with (first|((with_reducible refine Zq.c 29 rfl ?_);refine Zq.g (some 15) Tryz.func29 #[.string x6_1,.string a0] ?_;(with_reducible refine(cZ.calls k1 x6_1 a0 t741 _ A4.out).mono ?_);rintro e w7 ⟨rfl,hb⟩;refine⟨_,rfl,?_⟩;replace HB:=aA.mk (aC Zq.bo hb);(try clear hb);(try clear hb2);(try clear hk);(try clear hi))|((with_reducible refine Zq.c 35 rfl ?_);refine Zq.g (some 17) Tryz.func35 #[.string t741] ?_;(with_reducible refine(aZ.calls t741 t742 _ A5.out).mono ?_);rintro e w' ⟨rfl,nd,rfl⟩;refine⟨_,rfl,?_⟩))
     go_ret2
     exact⟨Zq.ew,Zq.bo⟩
    ·rw[if_neg c6]at H;have c6b0:decide (400<(t742.size:Int))=false:=decide_eq_false c6;have c6b1:decide (400<t742.size)=false:=decide_eq_false (by omega);clear c6;have HC8:=aA.mk H;clear H;(go_upto_region 8 with(first|((with_reducible refine Zq.c 29 rfl ?_);refine Zq.g (some 15) Tryz.func29 #[.string x6_1,.string a0] ?_;(with_reducible refine(cZ.calls k1 x6_1 a0 t741 _ A4.out).mono ?_);rintro e w9 ⟨rfl,hb⟩;refine⟨_,rfl,?_⟩;replace HB:=aA.mk (aC Zq.bo hb);(try clear hb);(try clear hb2);(try clear hk);(try clear hi))|((with_reducible refine Zq.c 35 rfl ?_);refine Zq.g (some 17) Tryz.func35 #[.string t741] ?_;(with_reducible refine(aZ.calls t741 t742 _ A5.out).mono ?_);rintro e w' ⟨rfl,nd,rfl⟩;refine⟨_,rfl,?_⟩)));(try simp only[Act.put,Zq.a1,Zq.a2,Zq.a3])
     go_cut [29] (fun v29 wc=>∃(kq:Nat) (x29_7:Bool),v29 = .bool x29_7/\aA (gN.j1 kq a0 a1 t741 x7_1 x29_7=some (r1,r2))/\aA (kq<=k1)/\aA (Below w.heap.size w wc))
     case first=>
      have H:=HC8.out;clear HC8;by_cases c10:x7_1>1
      ·rw[if_pos c10]at H;have c10b0:decide (1<x7_1)=true:=decide_eq_true c10;clear c10;(first|rw[c10b0]|(simp only[bG,bK];rw[c10b0])|skip);by_cases c11:a0.toList=([48]:List UInt8)
       ·rw[if_pos c11]at H;have c11b0:(a0.toList == ([48]:List UInt8))=true:=beq_iff_eq.mpr c11;have c11b1:(a0.toList != ([48]:List UInt8))=false:=bne_eq_false_iff_eq.mpr c11;clear c11;have H':=aA.mk H;clear H;go_wp2
        go_meet
        case rel=>exact⟨_,(true),Zq.sd,H',⟨by have:=HK1.out;first|omega|exact Nat.le_refl _⟩,⟨Zq.bo⟩⟩
       ·rw[if_neg c11]at H;have c11b0:(a0.toList == ([48]:List UInt8))=false:=beq_eq_false_iff_ne.mpr c11;have c11b1:(a0.toList != ([48]:List UInt8))=true:=bne_iff_ne.mpr c11;have H':=aA.mk H;clear H;go_wp2
        go_meet
        case rel=>exact⟨_,((a0.toList == ([49]:List UInt8))),Zq.sd,H',⟨by have:=HK1.out;first|omega|exact Nat.le_refl _⟩,⟨Zq.bo⟩⟩
      ·rw[if_neg c10]at H;have c10b0:decide (1<x7_1)=false:=decide_eq_false c10;clear c10;(first|rw[c10b0]|(simp only[bG,bK];rw[c10b0])|skip);have H':=aA.mk H;clear H;go_wp2
       go_meet
       case rel=>exact⟨_,(false),Zq.sd,H',⟨by have:=HK1.out;first|omega|exact Nat.le_refl _⟩,⟨Zq.bo⟩⟩
     case rest=>
      clear HC8;(try clear c1);(try clear c2);(try clear p2);(try clear c3);(try clear c3b0);(try clear c6);(try clear c6b0);(try clear c6b1);(try clear c10);(try clear c10b0);(try clear c11);(try clear c11b0);(try clear c11b1);(try clear p2);obtain⟨kq,x29_7,rfl,HA,HJ7,HB⟩:=hcut;cases kq with
      | zero=>exact absurd HA.out (by simp[gN.j1])
      | succ kj7=>
       have H:=HA.out;clear HA;simp only[gN.j1]at H;by_cases c12:x29_7=true
       ·subst c12;(have H1:(some (a0,true))=some (r1,r2):=by rw[if_pos rfl]at H;exact H);clear H;have H:=H1;clear H1;simp only[Option.some.injEq,Prod.mk.injEq]at H;obtain⟨rfl,rfl⟩:=H;go_wp2
        go_ret2
        exact⟨Zq.ew,Zq.bo⟩
       ·replace c12:=Bool.eq_false_iff.mpr c12;subst c12;(have H1:(if x7_1>1 then(gN.j2 kj7 a0 a1 t741 x7_1 (a0.toList == ([45,49]:List UInt8)))else(gN.j2 kj7 a0 a1 t741 x7_1 false))=some (r1,r2):=by rw[if_neg (show ¬(false=true) by decide)]at H;exact H);clear H;have H:=H1;clear H1;have HC13:=aA.mk H;clear H;go_upto_region 10 with(fail)
        go_cut [36] (fun v36 wc=>∃(kq:Nat) (x36_12:Bool),v36 = .bool x36_12/\aA (gN.j2 kq a0 a1 t741 x7_1 x36_12=some (r1,r2))/\aA (kq<=kj7)/\aA (Below w.heap.size w wc))
        case first=>
         have H:=HC13.out;clear HC13;by_cases c14:x7_1>1
         ·rw[if_pos c14]at H;have c14b0:decide (1<x7_1)=true:=decide_eq_true c14;clear c14;(first|rw[c14b0]|(simp only[bG,bK];rw[c14b0])|skip);have H':=aA.mk H;clear H;go_wp2
          go_meet
          case rel=>exact⟨_,((a0.toList == ([45,49]:List UInt8))),Zq.sd,H',⟨by have:=HK1.out;have:=HJ7.out;first|omega|exact Nat.le_refl _⟩,⟨Zq.bo⟩⟩
         ·rw[if_neg c14]at H;have c14b0:decide (1<x7_1)=false:=decide_eq_false c14;clear c14;(first|rw[c14b0]|(simp only[bG,bK];rw[c14b0])|skip);have H':=aA.mk H;clear H;go_wp2
          go_meet
          case rel=>exact⟨_,(false),Zq.sd,H',⟨by have:=HK1.out;have:=HJ7.out;first|omega|exact Nat.le_refl _⟩,⟨Zq.bo⟩⟩
        case rest=>
         clear HC13;(try clear c1);(try clear c2);(try clear p2);(try clear c3);(try clear c3b0);(try clear c6);(try clear c6b0);(try clear c6b1);(try clear c10);(try clear c10b0);(try clear c11);(try clear c11b0);(try clear c11b1);(try clear c12);(try clear c14);(try clear c14b0);(try clear p2);obtain⟨kq,x36_12,rfl,HA,HJ12,HB⟩:=hcut;cases kq with
         | zero=>exact absurd HA.out (by simp[gN.j2])
         | succ kj12=>
          have H:=HA.out;clear HA;simp only[gN.j2]at H;by_cases c15:x36_12=true
          ·subst c15;(have H1:(if(Int.tmod a1 2)=0 then(some ((⟨#[49]⟩:ByteArray),true))else(some (a0,true)))=some (r1,r2):=by rw[if_pos rfl]at H;exact H);clear H;have H:=H1;clear H1;by_cases c16:(Int.tmod a1 2)=0
           ·rw[if_pos c16]at H;have c16b0:((Int.tmod a1 2) == 0)=true:=beq_iff_eq.mpr c16;have c16b1:((Int.tmod a1 2) != 0)=false:=bne_eq_false_iff_eq.mpr c16;clear c16;simp only[Option.some.injEq,Prod.mk.injEq]at H;obtain⟨rfl,rfl⟩:=H;go_wp2
            go_ret2
            exact⟨Zq.ew,Zq.bo⟩
           ·rw[if_neg c16]at H;have c16b0:((Int.tmod a1 2) == 0)=false:=beq_eq_false_iff_ne.mpr c16;have c16b1:((Int.tmod a1 2) != 0)=true:=bne_iff_ne.mpr c16;simp only[Option.some.injEq,Prod.mk.injEq]at H;obtain⟨rfl,rfl⟩:=H;go_wp2
            go_ret2
            exact⟨Zq.ew,Zq.bo⟩
          ·replace c15:=Bool.eq_false_iff.mpr c15;subst c15;(have H1:(gN.l0 kj12 a0 a1 t741 (wrap64 (x7_1+1)))=some (r1,r2):=by rw[if_neg (show ¬(false=true) by decide)]at H;exact H);clear H;have H:=H1;clear H1;have H':=aA.mk H;clear H;go_wp2
           go_roundg kj12
           (case measure=>have:=HK1.out;have:=HJ7.out;have:=HJ12.out;omega);case rel=>exact⟨(t741),(wrap64 (x7_1+1)),Zq.sd,Zq.sd,H',⟨by have:=HK1.out;have:=HJ7.out;have:=HJ12.out;omega⟩,⟨Zq.bo⟩⟩
   ·rw[if_neg c3]at H;have c3b0:decide (x7_1<a1)=false:=decide_eq_false c3;clear c3;simp only[Option.some.injEq,Prod.mk.injEq]at H;obtain⟨rfl,rfl⟩:=H;go_wp2
    go_ret2
    exact⟨Zq.ew,Zq.bo⟩
def qH.j0:Nat->ByteArray->Int->Bool->Option (ByteArray×Int)
 | 0,_,_,_=>none
 | k+1,x0,x1,x19=>if x19=true then(some ((⟨#[]⟩:ByteArray),2))else((gN.f k x0 x1).bind fun bt744=>(if bt744.2=true then(some (bt744.1,0))else(some ((⟨#[]⟩:ByteArray),13))))
def qH.f (k:Nat) (a0:ByteArray) (a1:Int):Option (ByteArray×Int):=(cO.f k a0).bind fun t743=>(if t743=0 then(if a1<0 then(qH.j0 k a0 a1 true)else(qH.j0 k a0 a1 (decide (a1>1000))))else(some ((⟨#[]⟩:ByteArray),t743)))
theorem qH.calls (k:Nat) (a0:ByteArray) (a1:Int) (r1:ByteArray) (r2:Int) (w:World) (h:qH.f k a0 a1=some (r1,r2)):
 Calls Tryz.prog 48 #[.string a0,.int .i64 a1] w fun e w'=>e = .returned (.tuple #[.string r1,.int .i64 r2])/\Below w.heap.size w w':=by
 have HB:=aA.mk (Below.refl w.heap.size w);have H:((cO.f k a0).bind fun t743=>(if t743=0 then(if a1<0 then(qH.j0 k a0 a1 true)else(qH.j0 k a0 a1 (decide (a1>1000))))else(some ((⟨#[]⟩:ByteArray),t743))))=some (r1,r2):=h;clear h;obtain⟨t743,A3,H⟩:=Zq.mq H;try dsimp only at H
 by_cases c4:t743=0
 ·rw[if_pos c4]at H;have c4b0:(t743 == 0)=true:=beq_iff_eq.mpr c4;have c4b1:(t743 != 0)=false:=bne_eq_false_iff_eq.mpr c4;clear c4;have HC5:=aA.mk H;clear H;(go_enter Tryz.func48,Tryz.ntmps48);(go_upto_region 4 with(first|((with_reducible refine Zq.c 57 rfl ?_);refine Zq.g (some 10) Tryz.func57 #[.string a0] ?_;(with_reducible refine(cO.calls k a0 t743 _ A3.out).mono ?_);rintro e w' ⟨rfl,nd,rfl⟩;refine⟨_,rfl,?_⟩)));(try simp only[Act.put,Zq.a1,Zq.a2,Zq.a3])
  go_cut [19] (fun v19 wc=>∃(kq:Nat) (x19_4:Bool),v19 = .bool x19_4/\aA (qH.j0 kq a0 a1 x19_4=some (r1,r2))/\aA (kq<=k)/\aA (Below w.heap.size w wc))
  case first=>
   have H:=HC5.out;clear HC5;by_cases c6:a1<0
   ·rw[if_pos c6]at H;have c6b0:decide (a1<0)=true:=decide_eq_true c6;clear c6;(first|rw[c6b0]|(simp only[bG,bK];rw[c6b0])|skip);have H':=aA.mk H;clear H;go_wp2
    go_meet
    case rel=>exact⟨_,(true),Zq.sd,H',⟨by first|omega|exact Nat.le_refl _⟩,⟨Zq.bo⟩⟩
   ·rw[if_neg c6]at H;have c6b0:decide (a1<0)=false:=decide_eq_false c6;clear c6;(first|rw[c6b0]|(simp only[bG,bK];rw[c6b0])|skip);have H':=aA.mk H;clear H;go_wp2
    go_meet
    case rel=>exact⟨_,(decide (a1>1000)),Zq.sd,H',⟨by first|omega|exact Nat.le_refl _⟩,⟨Zq.bo⟩⟩
  case rest=>
   clear HC5;(try clear p2);(try clear c4);(try clear c4b0);(try clear c4b1);(try clear c5);(try clear c6);(try clear c6b0);obtain⟨kq,x19_4,rfl,HA,HJ4,HB⟩:=hcut;cases kq with
   | zero=>exact absurd HA.out (by simp[qH.j0])
   | succ kj4=>
    have H:=HA.out;clear HA;simp only[qH.j0]at H;by_cases c7:x19_4=true
    ·subst c7;(have H1:(some ((⟨#[]⟩:ByteArray),2))=some (r1,r2):=by rw[if_pos rfl]at H;exact H);clear H;have H:=H1;clear H1;simp only[Option.some.injEq,Prod.mk.injEq]at H;obtain⟨rfl,rfl⟩:=H;go_wp2
     go_ret2
     exact⟨Zq.ew,Zq.bo⟩
    ·replace c7:=Bool.eq_false_iff.mpr c7;subst c7;(have H1:((gN.f kj4 a0 a1).bind fun bt744=>(if bt744.2=true then(some (bt744.1,0))else(some ((⟨#[]⟩:ByteArray),13))))=some (r1,r2):=by rw[if_neg (show ¬(false=true) by decide)]at H;exact H);clear H;have H:=H1;clear H1;replace H:=Zq.mp H;obtain⟨⟨t744,t745⟩,A80,H⟩:=H;(try dsimp only at H);have A8:=aA.mk A80;clear A80;by_cases c9:t745=true
     ·subst c9;(have H1:(some (t744,0))=some (r1,r2):=by rw[if_pos rfl]at H;exact H);clear H;have H:=H1;clear H1;simp only[Option.some.injEq,Prod.mk.injEq]at H;obtain⟨rfl,rfl⟩:=H;go_wp2_with (first|((with_reducible refine Zq.c 110 rfl ?_);refine Zq.g (some 23) Tryz.func110 #[.string a0,.int .i64 a1] ?_;(with_reducible refine(gN.calls kj4 a0 a1 t744 true _ A8.out).mono ?_);rintro e w10 ⟨rfl,hb⟩;refine⟨_,rfl,?_⟩;replace HB:=aA.mk (aC Zq.bo hb);(try clear hb);(try clear hb2);(try clear hk);(try clear hi)))
      go_ret2
      exact⟨Zq.ew,Zq.bo⟩
     ·replace c9:=Bool.eq_false_iff.mpr c9;subst c9;(have H1:(some ((⟨#[]⟩:ByteArray),13))=some (r1,r2):=by rw[if_neg (show ¬(false=true) by decide)]at H;exact H);clear H;have H:=H1;clear H1;simp only[Option.some.injEq,Prod.mk.injEq]at H;obtain⟨rfl,rfl⟩:=H;go_wp2_with (first|((with_reducible refine Zq.c 110 rfl ?_);refine Zq.g (some 23) Tryz.func110 #[.string a0,.int .i64 a1] ?_;(with_reducible refine(gN.calls kj4 a0 a1 t744 false _ A8.out).mono ?_);rintro e w11 ⟨rfl,hb⟩;refine⟨_,rfl,?_⟩;replace HB:=aA.mk (aC Zq.bo hb);(try clear hb);(try clear hb2);(try clear hk);(try clear hi)))
      go_ret2
      exact⟨Zq.ew,Zq.bo⟩
 ·rw[if_neg c4]at H;have c4b0:(t743 == 0)=false:=beq_eq_false_iff_ne.mpr c4;have c4b1:(t743 != 0)=true:=bne_iff_ne.mpr c4;simp only[Option.some.injEq,Prod.mk.injEq]at H;obtain⟨rfl,rfl⟩:=H;(go_enter Tryz.func48,Tryz.ntmps48);go_wp2_with (first|((with_reducible refine Zq.c 57 rfl ?_);refine Zq.g (some 10) Tryz.func57 #[.string a0] ?_;(with_reducible refine(cO.calls k a0 t743 _ A3.out).mono ?_);rintro e w' ⟨rfl,nd,rfl⟩;refine⟨_,rfl,?_⟩))
  go_ret2
  exact⟨Zq.ew,Zq.bo⟩
mutual
def gP.j0:Nat->ByteArray->ByteArray->ByteArray->Bool->Option (ByteArray×Int)
 | 0,_,_,_,_=>none
 | k+1,x0,x1,x2,x36=>if x36=true then(some ((⟨#[]⟩:ByteArray),2))else((dN.f k (⟨#[49]⟩:ByteArray) x2).bind fun bt750=>((dN.f k x0 x2).bind fun bt752=>(gP.l0 k x1 x2 bt750.2 bt752.2)))
def gP.l0:Nat->ByteArray->ByteArray->ByteArray->ByteArray->Option (ByteArray×Int)
 | 0,_,_,_,_=>none
 | k+1,x1,x2,x11,x13=>if x1.toList=([48]:List UInt8)then(some (x11,0))else((dW.f k x1 (⟨#[50]⟩:ByteArray)).bind fun bt754=>(if bt754.2.toList=([49]:List UInt8)then((cZ.f k x11 x13).bind fun t756=>((dN.f k t756 x2).bind fun bt757=>((cZ.f k x13 x13).bind fun t759=>((dN.f k t759 x2).bind fun bt760=>(gP.l0 k bt754.1 x2 bt757.2 bt760.2)))))else((cZ.f k x13 x13).bind fun t762=>((dN.f k t762 x2).bind fun bt763=>(gP.l0 k bt754.1 x2 x11 bt763.2)))))
end
def gP.f (k:Nat) (a0:ByteArray) (a1:ByteArray) (a2:ByteArray):Option (ByteArray×Int):=(jK.f k a0 a1).bind fun t746=>(if t746=0 then((cO.f k a2).bind fun t747=>(if t747=0 then((aN.f a1).bind fun t748=>(if t748=true then(gP.j0 k a0 a1 a2 true)else((aN.f a2).bind fun t749=>(if t749=true then(gP.j0 k a0 a1 a2 true)else(gP.j0 k a0 a1 a2 (a2.toList == ([48]:List UInt8)))))))else(some ((⟨#[]⟩:ByteArray),t747))))else(some ((⟨#[]⟩:ByteArray),t746)))
theorem gP.calls (k:Nat) (a0:ByteArray) (a1:ByteArray) (a2:ByteArray) (r1:ByteArray) (r2:Int) (w:World) (h:gP.f k a0 a1 a2=some (r1,r2)):
 Calls Tryz.prog 50 #[.string a0,.string a1,.string a2] w fun e w'=>e = .returned (.tuple #[.string r1,.int .i64 r2])/\Below w.heap.size w w':=by
 have HB:=aA.mk (Below.refl w.heap.size w);have H:((jK.f k a0 a1).bind fun t746=>(if t746=0 then((cO.f k a2).bind fun t747=>(if t747=0 then((aN.f a1).bind fun t748=>(if t748=true then(gP.j0 k a0 a1 a2 true)else((aN.f a2).bind fun t749=>(if t749=true then(gP.j0 k a0 a1 a2 true)else(gP.j0 k a0 a1 a2 (a2.toList == ([48]:List UInt8)))))))else(some ((⟨#[]⟩:ByteArray),t747))))else(some ((⟨#[]⟩:ByteArray),t746))))=some (r1,r2):=h;clear h;obtain⟨t746,A4,H⟩:=Zq.mq H;try dsimp only at H
 by_cases c5:t746=0
 ·rw[if_pos c5]at H;have c5b0:(t746 == 0)=true:=beq_iff_eq.mpr c5;have c5b1:(t746 != 0)=false:=bne_eq_false_iff_eq.mpr c5;clear c5;obtain⟨t747,A6,H⟩:=Zq.mq H;(try dsimp only at H);by_cases c7:t747=0
  ·rw[if_pos c7]at H;have c7b0:(t747 == 0)=true:=beq_iff_eq.mpr c7;have c7b1:(t747 != 0)=false:=bne_eq_false_iff_eq.mpr c7;clear c7;have HC8:=aA.mk H;clear H;(go_enter Tryz.func50,Tryz.ntmps50);(go_upto_region 7 with(first|((with_reducible refine Zq.c 81 rfl ?_);refine Zq.g (some 18) Tryz.func81 #[.string a0,.string a1] ?_;(with_reducible refine(jK.calls k a0 a1 t746 _ A4.out).mono ?_);rintro e w' ⟨rfl,nd,rfl⟩;refine⟨_,rfl,?_⟩)|((with_reducible refine Zq.c 57 rfl ?_);refine Zq.g (some 23) Tryz.func57 #[.string a2] ?_;(with_reducible refine(cO.calls k a2 t747 _ A6.out).mono ?_);rintro e w' ⟨rfl,nd,rfl⟩;refine⟨_,rfl,?_⟩)));(try simp only[Act.put,Zq.a1,Zq.a2,Zq.a3])
   go_cut [36] (fun v36 wc=>∃(kq:Nat) (x36_7:Bool),v36 = .bool x36_7/\aA (gP.j0 kq a0 a1 a2 x36_7=some (r1,r2))/\aA (kq<=k)/\aA (Below w.heap.size w wc))
   case first=>
    have H:=HC8.out;clear HC8;obtain⟨t748,A9,H⟩:=Zq.mq H;(try dsimp only at H);by_cases c10:t748=true
    ·subst c10;(have H1:(gP.j0 k a0 a1 a2 true)=some (r1,r2):=by rw[if_pos rfl]at H;exact H);clear H;have H:=H1;clear H1;have H':=aA.mk H;clear H;go_wp2_with (first|((with_reducible refine Zq.c 31 rfl ?_);refine Zq.g (some 28) Tryz.func31 #[.string a1] ?_;(with_reducible refine(aN.calls a1 true _ A9.out).mono ?_);rintro e w' ⟨rfl,nd,rfl⟩;refine⟨_,rfl,?_⟩))
     go_meet
     case rel=>exact⟨_,(true),Zq.sd,H',⟨by first|omega|exact Nat.le_refl _⟩,⟨Zq.bo⟩⟩
    ·replace c10:=Bool.eq_false_iff.mpr c10;subst c10;(have H1:((aN.f a2).bind fun t749=>(if t749=true then(gP.j0 k a0 a1 a2 true)else(gP.j0 k a0 a1 a2 (a2.toList == ([48]:List UInt8)))))=some (r1,r2):=by rw[if_neg (show ¬(false=true) by decide)]at H;exact H);clear H;have H:=H1;clear H1;obtain⟨t749,A11,H⟩:=Zq.mq H;(try dsimp only at H);by_cases c12:t749=true
     ·subst c12;(have H1:(gP.j0 k a0 a1 a2 true)=some (r1,r2):=by rw[if_pos rfl]at H;exact H);clear H;have H:=H1;clear H1;have H':=aA.mk H;clear H;go_wp2_with (first|((with_reducible refine Zq.c 31 rfl ?_);refine Zq.g (some 28) Tryz.func31 #[.string a1] ?_;(with_reducible refine(aN.calls a1 false _ A9.out).mono ?_);rintro e w' ⟨rfl,nd,rfl⟩;refine⟨_,rfl,?_⟩)|(go_at_call 31;(with_reducible refine(aN.calls a2 true _ A11.out).mono ?_);rintro e w' ⟨rfl,nd,rfl⟩))
      go_meet
      case rel=>exact⟨_,(true),Zq.sd,H',⟨by first|omega|exact Nat.le_refl _⟩,⟨Zq.bo⟩⟩
     ·replace c12:=Bool.eq_false_iff.mpr c12;subst c12;(have H1:(gP.j0 k a0 a1 a2 (a2.toList == ([48]:List UInt8)))=some (r1,r2):=by rw[if_neg (show ¬(false=true) by decide)]at H;exact H);clear H;have H:=H1;clear H1;have H':=aA.mk H;clear H;go_wp2_with (first|((with_reducible refine Zq.c 31 rfl ?_);refine Zq.g (some 28) Tryz.func31 #[.string a1] ?_;(with_reducible refine(aN.calls a1 false _ A9.out).mono ?_);rintro e w' ⟨rfl,nd,rfl⟩;refine⟨_,rfl,?_⟩)|(go_at_call 31;(with_reducible refine(aN.calls a2 false _ A11.out).mono ?_);rintro e w' ⟨rfl,nd,rfl⟩))
      go_meet
      case rel=>exact⟨_,((a2.toList == ([48]:List UInt8))),Zq.sd,H',⟨by first|omega|exact Nat.le_refl _⟩,⟨Zq.bo⟩⟩
   case rest=>
    clear HC8;(try clear c1);(try clear p2);(try clear c3);(try clear c5);(try clear c5b0);(try clear c5b1);(try clear c7);(try clear c7b0);(try clear c7b1);(try clear c8);(try clear c10);(try clear c12);obtain⟨kq,x36_7,rfl,HA,HJ7,HB⟩:=hcut;cases kq with
    | zero=>exact absurd HA.out (by simp[gP.j0])
    | succ kj7=>
     have H:=HA.out;clear HA;simp only[gP.j0]at H;by_cases c13:x36_7=true
     ·subst c13;(have H1:(some ((⟨#[]⟩:ByteArray),2))=some (r1,r2):=by rw[if_pos rfl]at H;exact H);clear H;have H:=H1;clear H1;simp only[Option.some.injEq,Prod.mk.injEq]at H;obtain⟨rfl,rfl⟩:=H;go_wp2
      go_ret2
      exact⟨Zq.ew,Zq.bo⟩
     ·replace c13:=Bool.eq_false_iff.mpr c13;subst c13;(have H1:((dN.f kj7 (⟨#[49]⟩:ByteArray) a2).bind fun bt750=>((dN.f kj7 a0 a2).bind fun bt752=>(gP.l0 kj7 a1 a2 bt750.2 bt752.2)))=some (r1,r2):=by rw[if_neg (show ¬(false=true) by decide)]at H;exact H);clear H;have H:=H1;clear H1;replace H:=Zq.mp H;obtain⟨⟨t750,t751⟩,A140,H⟩:=H;(try dsimp only at H);have A14:=aA.mk A140;clear A140;replace H:=Zq.mp H;obtain⟨⟨t752,t753⟩,A150,H⟩:=H;(try dsimp only at H);have A15:=aA.mk A150;clear A150;have H':=aA.mk H;clear H;go_wp2_with (first|((with_reducible refine Zq.c 52 rfl ?_);refine Zq.g (some 39) Tryz.func52 #[.string (⟨#[49]⟩:ByteArray),.string a2] ?_;(with_reducible refine(dN.calls kj7 (⟨#[49]⟩:ByteArray) a2 t750 t751 _ A14.out).mono ?_);rintro e w16 ⟨rfl,hb⟩;refine⟨_,rfl,?_⟩;replace HB:=aA.mk (aC Zq.bo hb);(try clear hb);(try clear hb2);(try clear hk);(try clear hi))|((with_reducible refine Zq.c 52 rfl ?_);refine Zq.g (some 45) Tryz.func52 #[.string a0,.string a2] ?_;(with_reducible refine(dN.calls kj7 a0 a2 t752 t753 _ A15.out).mono ?_);rintro e w17 ⟨rfl,hb⟩;refine⟨_,rfl,?_⟩;replace HB:=aA.mk (aC Zq.bo hb);(try clear hb);(try clear hb2);(try clear hk);(try clear hi)))
      go_loopg [1,11,13] kj7 (fun kq v1 v11 v13 w'=>∃(x1_2:ByteArray) (x11_2:ByteArray) (x13_2:ByteArray),v1 = .string x1_2/\v11 = .string x11_2/\v13 = .string x13_2/\aA (gP.l0 kq x1_2 a2 x11_2 x13_2=some (r1,r2))/\aA (kq<=kj7)/\aA (Below w.heap.size w w'))
      case atStart=>exact⟨(a1),(t751),(t753),Zq.sd,Zq.sd,Zq.sd,H',⟨Nat.le_refl _⟩,⟨Zq.bo⟩⟩
      case round=>
       clear H';(try clear c1);(try clear p2);(try clear c3);(try clear c5);(try clear c5b0);(try clear c5b1);(try clear c7);(try clear c7b0);(try clear c7b1);(try clear c8);(try clear c10);(try clear c12);(try clear c13);(try clear p2);obtain⟨x1_2,x11_2,x13_2,rfl,rfl,rfl,HA,HK2,HB⟩:=hrel;cases gk with
       | zero=>exact absurd HA.out (by simp[gP.l0])
       | succ k2=>
        have H:=HA.out;clear HA;simp only[gP.l0]at H;by_cases c18:x1_2.toList=([48]:List UInt8)
        ·rw[if_pos c18]at H;have c18b0:(x1_2.toList == ([48]:List UInt8))=true:=beq_iff_eq.mpr c18;have c18b1:(x1_2.toList != ([48]:List UInt8))=false:=bne_eq_false_iff_eq.mpr c18;clear c18;simp only[Option.some.injEq,Prod.mk.injEq]at H;obtain⟨rfl,rfl⟩:=H;go_wp2
         go_ret2
         exact⟨Zq.ew,Zq.bo⟩
        ·rw[if_neg c18]at H;have c18b0:(x1_2.toList == ([48]:List UInt8))=false:=beq_eq_false_iff_ne.mpr c18;have c18b1:(x1_2.toList != ([48]:List UInt8))=true:=bne_iff_ne.mpr c18;replace H:=Zq.mp H;obtain⟨⟨t754,t755⟩,A190,H⟩:=H;(try dsimp only at H);have A19:=aA.mk A190;clear A190;by_cases c20:t755.toList=([49]:List UInt8)
         ·rw[if_pos c20]at H;have c20b0:(t755.toList == ([49]:List UInt8))=true:=beq_iff_eq.mpr c20;have c20b1:(t755.toList != ([49]:List UInt8))=false:=bne_eq_false_iff_eq.mpr c20;clear c20;obtain⟨t756,A21,H⟩:=Zq.mq H;(try dsimp only at H);replace H:=Zq.mp H;obtain⟨⟨t757,t758⟩,A220,H⟩:=H;(try dsimp only at H);have A22:=aA.mk A220;clear A220;obtain⟨t759,A23,H⟩:=Zq.mq H;(try dsimp only at H);replace H:=Zq.mp H;obtain⟨⟨t760,t761⟩,A240,H⟩:=H;(try dsimp only at H);have A24:=aA.mk A240;clear A240;have H':=aA.mk H;clear H
          go_wp2_with (first|((with_reducible refine Zq.c 33 rfl ?_);refine Zq.g (some 52) Tryz.func33 #[.string x1_2,.string (⟨#[50]⟩:ByteArray)] ?_;(with_reducible refine(dW.calls k2 x1_2 (⟨#[50]⟩:ByteArray) t754 t755 _ A19.out).mono ?_);rintro e w25 ⟨rfl,hb⟩;refine⟨_,rfl,?_⟩;replace HB:=aA.mk (aC Zq.bo hb);(try clear hb);(try clear hb2);(try clear hk);(try clear hi))|((with_reducible refine Zq.c 29 rfl ?_);refine Zq.g (some 60) Tryz.func29 #[.string x11_2,.string x13_2] ?_;(with_reducible refine(cZ.calls k2 x11_2 x13_2 t756 _ A21.out).mono ?_);rintro e w26 ⟨rfl,hb⟩;refine⟨_,rfl,?_⟩;replace HB:=aA.mk (aC Zq.bo hb);(try clear hb);(try clear hb2);(try clear hk);(try clear hi))|((with_reducible refine Zq.c 52 rfl ?_);refine Zq.g (some 62) Tryz.func52 #[.string t756,.string a2] ?_;(with_reducible refine(dN.calls k2 t756 a2 t757 t758 _ A22.out).mono ?_);rintro e w27 ⟨rfl,hb⟩;refine⟨_,rfl,?_⟩;replace HB:=aA.mk (aC Zq.bo hb);(try clear hb);(try clear hb2);(try clear hk);(try clear hi))|((with_reducible refine Zq.c 29 rfl ?_);refine Zq.g (some 68) Tryz.func29 #[.string x13_2,.string x13_2] ?_;(with_reducible refine(cZ.calls k2 x13_2 x13_2 t759 _ A23.out).mono ?_);rintro e w28 ⟨rfl,hb⟩;refine⟨_,rfl,?_⟩;replace HB:=aA.mk (aC Zq.bo hb);(try clear hb);(try clear hb2);(try clear hk);(try clear hi))|((with_reducible refine Zq.c 52 rfl ?_);refine Zq.g (some 70) Tryz.func52 #[.string t759,.string a2] ?_;(with_reducible refine(dN.calls k2 t759 a2 t760 t761 _ A24.out).mono ?_);rintro e w29 ⟨rfl,hb⟩;refine⟨_,rfl,?_⟩;replace HB:=aA.mk (aC Zq.bo hb);(try clear hb);(try clear hb2);(try clear hk);(try clear hi)))
          go_roundg k2
          (case measure=>have:=HJ7.out;have:=HK2.out;omega);case rel=>exact⟨(t754),(t758),(t761),Zq.sd,Zq.sd,Zq.sd,H',⟨by have:=HJ7.out;have:=HK2.out;omega⟩,⟨Zq.bo⟩⟩
         ·rw[if_neg c20]at H;have c20b0:(t755.toList == ([49]:List UInt8))=false:=beq_eq_false_iff_ne.mpr c20;have c20b1:(t755.toList != ([49]:List UInt8))=true:=bne_iff_ne.mpr c20;obtain⟨t762,A30,H⟩:=Zq.mq H;(try dsimp only at H);replace H:=Zq.mp H;obtain⟨⟨t763,t764⟩,A310,H⟩:=H;(try dsimp only at H);have A31:=aA.mk A310;clear A310;have H':=aA.mk H;clear H;go_wp2_with (first|((with_reducible refine Zq.c 33 rfl ?_);refine Zq.g (some 52) Tryz.func33 #[.string x1_2,.string (⟨#[50]⟩:ByteArray)] ?_;(with_reducible refine(dW.calls k2 x1_2 (⟨#[50]⟩:ByteArray) t754 t755 _ A19.out).mono ?_);rintro e w32 ⟨rfl,hb⟩;refine⟨_,rfl,?_⟩;replace HB:=aA.mk (aC Zq.bo hb);(try clear hb);(try clear hb2);(try clear hk);(try clear hi))|((with_reducible refine Zq.c 29 rfl ?_);refine Zq.g (some 68) Tryz.func29 #[.string x13_2,.string x13_2] ?_;(with_reducible refine(cZ.calls k2 x13_2 x13_2 t762 _ A30.out).mono ?_);rintro e w33 ⟨rfl,hb⟩;refine⟨_,rfl,?_⟩;replace HB:=aA.mk (aC Zq.bo hb);(try clear hb);(try clear hb2);(try clear hk);(try clear hi))|((with_reducible refine Zq.c 52 rfl ?_);refine Zq.g (some 70) Tryz.func52 #[.string t762,.string a2] ?_;(with_reducible refine(dN.calls k2 t762 a2 t763 t764 _ A31.out).mono ?_);rintro e w34 ⟨rfl,hb⟩;refine⟨_,rfl,?_⟩;replace HB:=aA.mk (aC Zq.bo hb);(try clear hb);(try clear hb2);(try clear hk);(try clear hi)))
          go_roundg k2
          (case measure=>have:=HJ7.out;have:=HK2.out;omega);case rel=>exact⟨(t754),(x11_2),(t764),Zq.sd,Zq.sd,Zq.sd,H',⟨by have:=HJ7.out;have:=HK2.out;omega⟩,⟨Zq.bo⟩⟩
  ·rw[if_neg c7]at H;have c7b0:(t747 == 0)=false:=beq_eq_false_iff_ne.mpr c7;have c7b1:(t747 != 0)=true:=bne_iff_ne.mpr c7;simp only[Option.some.injEq,Prod.mk.injEq]at H;obtain⟨rfl,rfl⟩:=H;(go_enter Tryz.func50,Tryz.ntmps50);go_wp2_with (first|((with_reducible refine Zq.c 81 rfl ?_);refine Zq.g (some 18) Tryz.func81 #[.string a0,.string a1] ?_;(with_reducible refine(jK.calls k a0 a1 t746 _ A4.out).mono ?_);rintro e w' ⟨rfl,nd,rfl⟩;refine⟨_,rfl,?_⟩)|((with_reducible refine Zq.c 57 rfl ?_);refine Zq.g (some 23) Tryz.func57 #[.string a2] ?_;(with_reducible refine(cO.calls k a2 t747 _ A6.out).mono ?_);rintro e w' ⟨rfl,nd,rfl⟩;refine⟨_,rfl,?_⟩))
   go_ret2
   exact⟨Zq.ew,Zq.bo⟩
 ·rw[if_neg c5]at H;have c5b0:(t746 == 0)=false:=beq_eq_false_iff_ne.mpr c5;have c5b1:(t746 != 0)=true:=bne_iff_ne.mpr c5;simp only[Option.some.injEq,Prod.mk.injEq]at H;obtain⟨rfl,rfl⟩:=H;(go_enter Tryz.func50,Tryz.ntmps50);go_wp2_with (first|((with_reducible refine Zq.c 81 rfl ?_);refine Zq.g (some 18) Tryz.func81 #[.string a0,.string a1] ?_;(with_reducible refine(jK.calls k a0 a1 t746 _ A4.out).mono ?_);rintro e w' ⟨rfl,nd,rfl⟩;refine⟨_,rfl,?_⟩))
  go_ret2
  exact⟨Zq.ew,Zq.bo⟩
end Go.Proofs.YtjieekkkaekclaaGreatDoor.PR
namespace Go.Proofs.YtjieekkkaekclaaGreatDoor
open Go Go.RowKit Go.Pw.PrintWords Go.Proofs.YtjieekkkaekclaaGreatDoor.PR
theorem aNf {n m:Int}:(Mw.T n).toList=(Mw.T m).toList<->n=m:=by rw[zM,zM];exact⟨Mw.nI,fun h=>by rw[h]⟩
theorem aAZ (n:Int):(Mw.T n).toList=([49]:List UInt8)<->n=1:=by rw[<-aNf,show(Mw.T 1).toList=([49]:List UInt8) by rw[<-vZ];exact xN [49]]
theorem aDK (n:Int):(Mw.T n).toList=([45,49]:List UInt8)<->n = -1:=by rw[<-aNf,show(Mw.T (-1)).toList=([45,49]:List UInt8) by rw[<-aGU];exact xN [45,49]]
theorem aN0:(⟨#[50]⟩:ByteArray)=Mw.T 2:=by rw[Mw.T,Mw.eY (by omega),Mw.jY (by decide)];rfl
theorem aGb (n:Int):((Mw.B (Mw.gU n.natAbs)).size:Int)>400<->Mw.gZ n≠0:=by rw[eH];unfold Mw.gZ;split<;>omega
theorem aFo {n:Int} (h:Mw.gZ n=0):Mw.Sz 400 n:=by refine Mw.Sz.uY ?_ (by omega);unfold Mw.gZ at h;split at h<;>omega
theorem aLz {x y:Int} (h:x.natAbs<=y.natAbs) (hx:Mw.gZ x≠0):Mw.gZ y=13:=by
 rcases aAE y with h1|h1;·exact absurd (oW ((aFo h1).of_le h)) hx
 ·exact h1
def aBe (a:Int) (N:Nat):ByteArray×Bool:=if Mw.gZ (a^N)=0 then(Mw.T (a^N),true)else(Mw.B [],false)
theorem xZ {n:Int} (h:n.natAbs<=1):Mw.gZ n=0:=oW ((qO (L:=400) (by omega)).of_le h)
theorem aFV (N:Nat):(-1:Int)^N=if N%2=0 then 1 else -1:=by
 induction N with
 | zero=>rfl
 | succ n ih=>rw[Int.pow_succ,ih];split<;>split<;>omega
theorem aJB (a:Int) (N:Nat) (za:Mw.Sz 400 a) (hN:N<=1000):∀(d i:Nat),i+d=N->Mw.gZ (a^i)=0->
 EvP (fun k=>gN.l0 k (Mw.T a) (N:Int) (Mw.T (a^i)) (i:Int)) (aBe a N):=by
 intro d;induction d with
 | zero=>intro i h hg;(have e:i=N:=by omega);subst e;refine EvP.step (f:=fun _=>some (aBe a i)) (fun k=>?_) (EvP.now _);simp only[gN.l0];rw[if_neg (by omega),aBe,if_pos hg]
 | succ d ih=>
  intro i h hg;have wi:wrap64 ((i:Int)+1)=((i+1:Nat):Int):=eT (by omega) (by omega);(have i1:(i:Int)<(N:Int):=by clear wi;omega);by_cases hb:Mw.gZ (a^(i+1))=0
  ·have nx:=ih (i+1) (by clear wi;omega) hb;have j2f:EvP (fun k=>gN.j2 k (Mw.T a) (N:Int) (Mw.T (a^(i+1))) (i:Int) false) (aBe a N):=by refine EvP.step (fun k=>?_) nx;simp only[gN.j2];rw[if_neg (by simp),wi]
   have body:EvP (fun k=>if(i:Int)>1 then(if(Mw.T a).toList=([48]:List UInt8)then(gN.j1 k (Mw.T a) (N:Int) (Mw.T (a^(i+1))) (i:Int) true)else(gN.j1 k (Mw.T a) (N:Int) (Mw.T (a^(i+1))) (i:Int) ((Mw.T a).toList == ([49]:List UInt8))))else(gN.j1 k (Mw.T a) (N:Int) (Mw.T (a^(i+1))) (i:Int) false)) (aBe a N):=by
    clear wi;(have stop:a=0\/a=1->EvP (fun k=>gN.j1 k (Mw.T a) (N:Int) (Mw.T (a^(i+1))) (i:Int) true) (aBe a N):=fun ha=>by(have e:aBe a N=(Mw.T a,true):=by(have h1:a^N=a:=by rcases ha with ha|ha;(·rw[ha];exact Int.zero_pow (by omega));·rw[ha];exact Int.one_pow);rw[aBe,h1,if_pos (xZ (by omega))]);rw[e];refine EvP.step (f:=fun _=>some (Mw.T a,true)) (fun k=>?_) (EvP.now _);simp only[gN.j1];rw[if_pos trivial]);by_cases h1:(i:Int)>1
    (·refine EvP.fM h1 ?_;by_cases h0:a=0;(·exact EvP.fM ((fC a).mpr h0) (stop (.inl h0)));·refine EvP.jC (fun h=>h0 ((fC a).mp h)) ?_;by_cases h01:a=1;(·rw[show((Mw.T a).toList == ([49]:List UInt8))=true from beq_iff_eq.mpr ((aAZ a).mpr h01)];exact stop (.inr h01));·rw[show((Mw.T a).toList == ([49]:List UInt8))=false from beq_eq_false_iff_ne.mpr fun h=>h01 ((aAZ a).mp h)];by_cases hm:a = -1;(·(have e:aBe a N=if N%2=0 then(Mw.T 1,true)else(Mw.T a,true):=by rw[aBe,hm,aFV];split;(·rw[if_pos (xZ (by decide))]);·rw[if_pos (xZ (by decide))]);refine EvP.step (f:=fun k=>gN.j2 k (Mw.T a) (N:Int) (Mw.T (a^(i+1))) (i:Int) true) (fun k=>?_) ?_;(·simp only[gN.j1];rw[if_neg (by simp),if_pos h1,show((Mw.T a).toList == ([45,49]:List UInt8))=true from beq_iff_eq.mpr ((aDK a).mpr hm)]);·refine EvP.step (f:=fun _=>some (aBe a N)) (fun k=>?_) (EvP.now _);simp only[gN.j2];rw[if_pos trivial,e,show Int.tmod (N:Int) 2=((N%2:Nat):Int)from rfl,vZ];by_cases hp:N%2=0;(·rw[if_pos hp,if_pos (by omega)]);·rw[if_neg hp,if_neg (by omega)]);·refine EvP.step (fun k=>?_) j2f;simp only[gN.j1];rw[if_neg (by simp),if_pos h1,show((Mw.T a).toList == ([45,49]:List UInt8))=false from beq_eq_false_iff_ne.mpr fun h=>hm ((aDK a).mp h)]);·refine EvP.jC h1 (EvP.step (fun k=>?_) j2f);simp only[gN.j1];rw[if_neg (by simp),if_neg h1]
   refine EvP.step (f:=fun k=>(cZ.f k (Mw.T (a^i)) (Mw.T a)).bind fun t741=>((aZ.f t741).bind fun t742=>(if(t742.size:Int)>400 then(some ((⟨#[]⟩:ByteArray),false))else(if(i:Int)>1 then(if(Mw.T a).toList=([48]:List UInt8)then(gN.j1 k (Mw.T a) (N:Int) t741 (i:Int) true)else(gN.j1 k (Mw.T a) (N:Int) t741 (i:Int) ((Mw.T a).toList == ([49]:List UInt8))))else(gN.j1 k (Mw.T a) (N:Int) t741 (i:Int) false))))) (fun k=>?_) ?_;(·simp only[gN.l0];rw[if_pos i1]);·refine EvP.bind (kW _ _ (aFo hg) za (by omega) (by omega)) ?_;rw[<-Int.pow_succ,lL];exact EvP.bind (EvP.now _) (EvP.jC (fun h=>(aGb _).mp h hb) body)
  ·(have hN':aBe a N=(Mw.B [],false):=by(have h0:a≠0:=fun h0=>hb (by rw[h0,Int.zero_pow (by omega)];exact xZ (by decide)));(have h1:(a^(i+1)).natAbs<=(a^N).natAbs:=by rw[Int.natAbs_pow,Int.natAbs_pow];exact Nat.pow_le_pow_right (by omega) (by clear wi;omega));rw[aBe,if_neg (by rw[aLz h1 hb];decide)]);rw[hN'];refine EvP.step (f:=fun k=>(cZ.f k (Mw.T (a^i)) (Mw.T a)).bind fun t741=>((aZ.f t741).bind fun t742=>(if(t742.size:Int)>400 then(some ((⟨#[]⟩:ByteArray),false))else(if(i:Int)>1 then(if(Mw.T a).toList=([48]:List UInt8)then(gN.j1 k (Mw.T a) (N:Int) t741 (i:Int) true)else(gN.j1 k (Mw.T a) (N:Int) t741 (i:Int) ((Mw.T a).toList == ([49]:List UInt8))))else(gN.j1 k (Mw.T a) (N:Int) t741 (i:Int) false))))) (fun k=>?_) ?_;(·simp only[gN.l0];rw[if_pos i1]);·refine EvP.bind (kW _ _ (aFo hg) za (by omega) (by omega)) ?_;rw[<-Int.pow_succ,lL];exact EvP.bind (EvP.now _) (EvP.fM ((aGb _).mpr hb) (EvP.now _))
theorem aMv (a:List UInt8) (ha:a.length<=1000000) (n:Int):EvP (fun k=>qH.f k (Mw.B a) n) (Mw.B (Mw.zK a n).1,(Mw.zK a n).2):=by
 unfold qH.f;refine EvP.bind (lG a ha) ?_;unfold Mw.zK;by_cases ht:Mw.iP a=0;·obtain⟨x,e1,e2,e3,z⟩:=lX ht;(have bad:∀s,EvP (fun k=>qH.j0 k s n true) (Mw.B [],(2:Int)):=fun s=>EvP.step (f:=fun _=>some (Mw.B [],2)) (fun k=>by simp only[qH.j0];rw[if_pos trivial];rfl) (EvP.now _));rw[if_pos ht,e2,e1];refine EvP.fM ht ?_;by_cases h0:n<0;(·rw[if_pos h0];exact EvP.fM h0 (bad _));·rw[if_neg h0];refine EvP.jC h0 ?_;by_cases h1:1000<n;(·rw[if_pos h1,decide_eq_true (show n>1000 from h1)];exact bad _);·rw[if_neg h1,decide_eq_false (show ¬n>1000 from h1)];obtain⟨N,hN⟩:∃N:Nat,n=N:=⟨n.toNat,by omega⟩;subst hN;rw[Int.toNat_natCast];have key:=aJB x N z (by omega) N 0 (by omega) (by rw[Int.pow_zero];exact xZ (by decide));rw[Int.pow_zero,<-vZ]at key;refine EvP.step (f:=fun k=>(gN.f k (Mw.T x) (N:Int)).bind fun bt744=>(if bt744.2=true then(some (bt744.1,0))else(some ((⟨#[]⟩:ByteArray),13)))) (fun k=>?_) ?_;(·simp only[qH.j0];rw[if_neg (by simp)]);·refine EvP.bind (a:=aBe x N) (by unfold gN.f;exact key) ?_;unfold aBe;by_cases hg:Mw.gZ (x^N)=0;(·rw[if_pos hg,if_pos hg];exact EvP.fM rfl (EvP.now _));·rw[if_neg hg,if_neg hg];exact EvP.jC (by simp) (EvP.now _)
 ·rw[if_neg ht];exact EvP.jC ht (EvP.now _)
theorem aI4 (m:Int) (hm:0<m) (zm:Mw.Sz 400 m):∀(e:Nat) (out x:Int),Mw.Sz 400 (e:Int)->Mw.Sz 400 out->Mw.Sz 400 x->EvP (fun k=>gP.l0 k (Mw.T (e:Int)) (Mw.T m) (Mw.T out) (Mw.T x)) (Mw.T (Mw.pm m out x (Mw.hlv e)),0):=by
 intro e;induction e using Nat.strongRecOn with
 | _ e ih=>
  intro out x ze zo zx;by_cases h0:e=0;·subst h0;rw[Mw.aDp,Mw.pm];refine EvP.step (f:=fun _=>some (Mw.T out,0)) (fun k=>?_) (EvP.now _);simp only[gP.l0];rw[if_pos ((fC ((0:Nat):Int)).mpr rfl)]
  ·(have hm0:m≠0:=by omega);have ze2:Mw.Sz 400 ((e/2:Nat):Int):=ze.of_le (by rw[Int.natAbs_natCast,Int.natAbs_natCast];exact Nat.div_le_self _ _);have zxx:Mw.Sz 400 ((x*x).fmod m):=tO hm0 zm;have q:=uD (e:Int) 2 (by omega) (L:=400) ze ((qO (L:=1) (by omega)).add (qO (L:=1) (by omega)) |>.mono (by omega)) (by omega) (by omega);rw[show Int.tdiv (e:Int) 2=((e/2:Nat):Int)from rfl,show Int.tmod (e:Int) 2=((e%2:Nat):Int)from rfl]at q;rw[Mw.aEV h0,Mw.pm];refine EvP.step (f:=fun k=>(dW.f k (Mw.T (e:Int)) (Mw.T 2)).bind fun bt754=>(if bt754.2.toList=([49]:List UInt8)then((cZ.f k (Mw.T out) (Mw.T x)).bind fun t756=>((dN.f k t756 (Mw.T m)).bind fun bt757=>((cZ.f k (Mw.T x) (Mw.T x)).bind fun t759=>((dN.f k t759 (Mw.T m)).bind fun bt760=>(gP.l0 k bt754.1 (Mw.T m) bt757.2 bt760.2)))))else((cZ.f k (Mw.T x) (Mw.T x)).bind fun t762=>((dN.f k t762 (Mw.T m)).bind fun bt763=>(gP.l0 k bt754.1 (Mw.T m) (Mw.T out) bt763.2))))) (fun k=>?_) ?_;·simp only[gP.l0];rw[if_neg (fun h=>h0 (by have:=(fC _).mp h;omega)),aN0]
   ·refine EvP.bind q ?_;have sq:=EvP.bind (r:=(Mw.T ((x*x).fdiv m),Mw.T ((x*x).fmod m))) (f:=fun k t=>dN.f k t (Mw.T m)) (kW x x zx zx (by omega) (by omega)) (sD (x*x) m hm0 (zx.mul zx) (zm.mono (by omega)) (by omega) (by omega));by_cases hodd:e%2=1;(·rw[show(e%2 == 1)=true by simpa using hodd,if_pos rfl];refine EvP.fM ((aAZ _).mpr (by omega)) ?_;refine EvP.bind (kW out x zo zx (by omega) (by omega)) (EvP.bind (sD (out*x) m hm0 (zo.mul zx) (zm.mono (by omega)) (by omega) (by omega)) ?_);refine EvP.bind (kW x x zx zx (by omega) (by omega)) (EvP.bind (sD (x*x) m hm0 (zx.mul zx) (zm.mono (by omega)) (by omega) (by omega)) ?_);exact ih (e/2) (by omega) _ _ ze2 (tO hm0 zm) zxx);·rw[show(e%2 == 1)=false by simpa using hodd,if_neg (by simp)];refine EvP.jC (fun h=>hodd (by have:=(aAZ _).mp h;omega)) ?_;refine EvP.bind (kW x x zx zx (by omega) (by omega)) (EvP.bind (sD (x*x) m hm0 (zx.mul zx) (zm.mono (by omega)) (by omega) (by omega)) ?_);exact ih (e/2) (by omega) _ _ ze2 zo zxx
theorem aI5 (a n m:List UInt8) (ha:a.length<=1000000) (hn:n.length<=1000000) (hm:m.length<=1000000):EvP (fun k=>gP.f k (Mw.B a) (Mw.B n) (Mw.B m)) (Mw.B (Mw.wpm a n m).1,(Mw.wpm a n m).2):=by
 unfold gP.f;refine EvP.bind (aAx a n ha hn) ?_;unfold Mw.wpm;by_cases ta:Mw.iP a=0
 ·by_cases tn:Mw.iP n=0
  ·refine EvP.fM (by rw[Mw.kQ,if_pos ta];exact tn) (EvP.bind (lG m hm) ?_);rw[if_pos ta,if_pos tn];by_cases tm:Mw.iP m=0
   ·obtain⟨x,a1,a2,a3,zx⟩:=lX ta;obtain⟨e,n1,n2,n3,ze⟩:=lX tn;obtain⟨M,m1,m2,m3,zm⟩:=lX tm;have bad:EvP (fun k=>gP.j0 k (Mw.T x) (Mw.T e) (Mw.T M) true) (Mw.B [],(2:Int)):=EvP.step (f:=fun _=>some (Mw.B [],2)) (fun k=>by simp only[gP.j0];rw[if_pos trivial];rfl) (EvP.now _);rw[if_pos tm,n2,m2,a2,a1,n1,m1];refine EvP.fM tm ?_;rw[kN];refine EvP.bind (EvP.now _) ?_;by_cases he:e<0;·rw[if_pos he];exact EvP.fM (decide_eq_true he) bad
    ·rw[if_neg he];refine EvP.jC (by simpa using he) ?_;rw[kN];refine EvP.bind (EvP.now _) ?_;by_cases hM:M<0;(·rw[if_pos (by omega)];exact EvP.fM (decide_eq_true hM) bad);·refine EvP.jC (by simpa using hM) ?_;by_cases hM0:M=0;(·rw[if_pos (by omega),show((Mw.T M).toList == ([48]:List UInt8))=true from beq_iff_eq.mpr ((fC M).mpr hM0)];exact bad);·rw[if_neg (by omega),show((Mw.T M).toList == ([48]:List UInt8))=false from beq_eq_false_iff_ne.mpr fun h=>hM0 ((fC M).mp h)];obtain⟨E,rfl⟩:∃E:Nat,e=E:=⟨e.toNat,by omega⟩;rw[Int.toNat_natCast];have key:=aI4 M (by omega) zm E ((1:Int).fmod M) (x.fmod M) ze (tO hM0 zm) (tO hM0 zm);rw[Mw.aM9 M (by omega) E _ _ (Int.fmod_fmod ..),Mw.aAi _ _ _ (by omega),Mw.aAj _ _ _ (by omega),Int.one_mul]at key;refine EvP.step (f:=fun k=>(dN.f k (Mw.T 1) (Mw.T M)).bind fun bt750=>((dN.f k (Mw.T x) (Mw.T M)).bind fun bt752=>(gP.l0 k (Mw.T (E:Int)) (Mw.T M) bt750.2 bt752.2))) (fun k=>?_) ?_;(·simp only[gP.j0];rw[if_neg (by simp),vZ]);·exact EvP.bind (sD 1 M hM0 (qO (by omega)) zm (by omega) (by omega)) (EvP.bind (sD x M hM0 zx zm (by omega) (by omega)) key)
   ·rw[if_neg tm];exact EvP.jC tm (EvP.now _)
  ·(have t2:Mw.kQ a n=Mw.iP n:=by rw[Mw.kQ,if_pos ta]);rw[if_pos ta,if_neg tn,t2];exact EvP.jC tn (EvP.now _)
 ·(have t2:Mw.kQ a n=Mw.iP a:=by rw[Mw.kQ,if_neg ta]);rw[if_neg ta,t2];exact EvP.jC ta (EvP.now _)
end Go.Proofs.YtjieekkkaekclaaGreatDoor
namespace Go.Proofs.YtjieekkkaekclaaGreatDoor.PR
open Go.RowKit Go.Pw.PrintWords Go.Pw.PrintLast Go.Pw.PrintMore
attribute [local go_sem] eG dZ fE fD dM dL eF dY
def mX.l0:Nat->ByteArray->Int->ByteArray->Int->Option (ByteArray)
 | 0,_,_,_,_=>none
 | k+1,x0,x1,x5,x6=>if x6<x1 then((cZ.f k x5 x0).bind fun t765=>(mX.l0 k x0 x1 t765 (wrap64 (x6+1))))else(some x5)
def mX.f (k:Nat) (a0:ByteArray) (a1:Int):Option (ByteArray):=mX.l0 k a0 a1 a0 1
theorem mX.calls (k:Nat) (a0:ByteArray) (a1:Int) (r:ByteArray) (w:World) (h:mX.f k a0 a1=some r):
 Calls Tryz.prog 113 #[.string a0,.int .i64 a1] w fun e w'=>e = .returned (.string r)/\Below w.heap.size w w':=by
 have HB:=aA.mk (Below.refl w.heap.size w);have H:(mX.l0 k a0 a1 a0 1)=some r:=h;clear h;have H':=aA.mk H;clear H;go_enter Tryz.func113,Tryz.ntmps113
 go_wp2
 go_loopg [5,6] k (fun kq v5 v6 w'=>∃(x5_1:ByteArray) (x6_1:Int),v5 = .string x5_1/\v6 = .int .i64 x6_1/\aA (mX.l0 kq a0 a1 x5_1 x6_1=some r)/\aA (kq<=k)/\aA (Below w.heap.size w w'))
 case atStart=>exact⟨(a0),(1),Zq.sd,Zq.sd,H',⟨Nat.le_refl _⟩,⟨Zq.bo⟩⟩
 case round=>
  clear H';(try clear c1);(try clear p2);obtain⟨x5_1,x6_1,rfl,rfl,HA,HK1,HB⟩:=hrel;cases gk with
  | zero=>exact absurd HA.out (by simp[mX.l0])
  | succ k1=>
   have H:=HA.out;clear HA;simp only[mX.l0]at H;by_cases c3:x6_1<a1
   ·rw[if_pos c3]at H;have c3b0:decide (x6_1<a1)=true:=decide_eq_true c3;clear c3;obtain⟨t765,A4,H⟩:=Zq.mq H;(try dsimp only at H);have H':=aA.mk H;clear H;go_wp2_with (first|((with_reducible refine Zq.c 29 rfl ?_);refine Zq.g (some 15) Tryz.func29 #[.string x5_1,.string a0] ?_;(with_reducible refine(cZ.calls k1 x5_1 a0 t765 _ A4.out).mono ?_);rintro e w5 ⟨rfl,hb⟩;refine⟨_,rfl,?_⟩;replace HB:=aA.mk (aC Zq.bo hb);(try clear hb);(try clear hb2);(try clear hk);(try clear hi)))
    go_roundg k1
    (case measure=>have:=HK1.out;omega);case rel=>exact⟨(t765),(wrap64 (x6_1+1)),Zq.sd,Zq.sd,H',⟨by have:=HK1.out;omega⟩,⟨Zq.bo⟩⟩
   ·rw[if_neg c3]at H;have c3b0:decide (x6_1<a1)=false:=decide_eq_false c3;clear c3;obtain rfl:=Option.some.inj H;go_wp2
    go_ret
    exact⟨Zq.ew,Zq.bo⟩
end Go.Proofs.YtjieekkkaekclaaGreatDoor.PR
