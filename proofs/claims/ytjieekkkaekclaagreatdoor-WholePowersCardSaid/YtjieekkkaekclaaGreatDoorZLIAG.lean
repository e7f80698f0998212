/- Lemmas for the claim beside this text. -/
import Derived.Test.YtjieekkkaekclaaGreatDoorZBAD
import Derived.Test.YtjieekkkaekclaaGreatDoorZBAR
import Derived.Test.YtjieekkkaekclaaGreatDoorZBAT
import Derived.Test.YtjieekkkaekclaaGreatDoorZBAU
import Derived.Test.YtjieekkkaekclaaGreatDoorZLIAB
import Derived.Test.YtjieekkkaekclaaGreatDoorZLIAD
import Derived.Test.YtjieekkkaekclaaGreatDoorZLIAE
import Derived.Test.YtjieekkkaekclaaGreatDoorZLIAF
set_option linter.all false
set_option linter.unusedVariables false
set_option linter.unusedSimpArgs false
set_option maxHeartbeats 8000000
set_option maxRecDepth 100000
namespace Go.Proofs.YtjieekkkaekclaaGreatDoor.PR
open Go.RowKit Go.Pw.PrintWords Go.Pw.PrintLast Go.Pw.PrintMore
attribute [local go_sem] eG dZ fE fD dM dL eF dY
mutual
def gW.j0:Nat->ByteArray->Int->Bool->Option (ByteArray×Int)
 | 0,_,_,_=>none
 | k+1,x0,x1,x28=>if x28=true then(some ((⟨#[]⟩:ByteArray),2))else(if x1=0 then(none)else(gW.l0 k x0 x1 (⟨#[]⟩:ByteArray) (wrap64 (Int.tdiv (wrap64 ((wrap64 ((x0.size:Int)+x1))-1)) x1))))
def gW.l0:Nat->ByteArray->Int->ByteArray->Int->Option (ByteArray×Int)
 | 0,_,_,_,_=>none
 | k+1,x0,x1,x7,x8=>if x8>0 then(gW.l1 k x0 x1 x7 x8 (⟨#[]⟩:ByteArray) 1)else(if x7.toList=([]:List UInt8)then(some ((⟨#[48]⟩:ByteArray),0))else(some (x7,0)))
def gW.l1:Nat->ByteArray->Int->ByteArray->Int->ByteArray->Int->Option (ByteArray×Int)
 | 0,_,_,_,_,_,_=>none
 | k+1,x0,x1,x7,x8,x9,x10=>if x10<x8 then(if x9.size+1<=9223372036854775807 then(gW.l1 k x0 x1 x7 x8 (x9++(⟨#[48]⟩:ByteArray)) (wrap64 (x10+1)))else(none))else(gW.l2 k x0 x1 x7 x8 x9 (⟨#[48]⟩:ByteArray) 1)
def gW.l2:Nat->ByteArray->Int->ByteArray->Int->ByteArray->ByteArray->Int->Option (ByteArray×Int)
 | 0,_,_,_,_,_,_,_=>none
 | k+1,x0,x1,x7,x8,x9,x11,x12=>if x12<10 then((bM.f k x12).bind fun t768=>(if x7.size+t768.size<=9223372036854775807 then(if(x7++t768).size+x9.size<=9223372036854775807 then((mX.f k ((x7++t768)++x9) x1).bind fun t769=>((jO.f k t769 x0).bind fun t770=>(if t770<=0 then((bM.f k x12).bind fun t771=>(gW.l2 k x0 x1 x7 x8 x9 t771 (wrap64 (x12+1))))else(gW.l2 k x0 x1 x7 x8 x9 x11 (wrap64 (x12+1))))))else(none))else(none)))else(if x7.toList=([]:List UInt8)then(if x11.toList=([48]:List UInt8)then(gW.l0 k x0 x1 x7 (wrap64 (x8-1)))else(if x7.size+x11.size<=9223372036854775807 then(gW.l0 k x0 x1 (x7++x11) (wrap64 (x8-1)))else(none)))else(if x7.size+x11.size<=9223372036854775807 then(gW.l0 k x0 x1 (x7++x11) (wrap64 (x8-1)))else(none)))
end
def gW.f (k:Nat) (a0:ByteArray) (a1:Int):Option (ByteArray×Int):=(cO.f k a0).bind fun t766=>(if t766=0 then(if a1<1 then(gW.j0 k a0 a1 true)else(if a1>20 then(gW.j0 k a0 a1 true)else((aN.f a0).bind fun t767=>(gW.j0 k a0 a1 t767))))else(some ((⟨#[]⟩:ByteArray),t766)))
theorem gW.calls (k:Nat) (a0:ByteArray) (a1:Int) (r1:ByteArray) (r2:Int) (w:World) (h:gW.f k a0 a1=some (r1,r2)):
 Calls Tryz.prog 51 #[.string a0,.int .i64 a1] w fun e w'=>e = .returned (.tuple #[.string r1,.int .i64 r2])/\Below w.heap.size w w':=by
 have HB:=aA.mk (Below.refl w.heap.size w);have H:((cO.f k a0).bind fun t766=>(if t766=0 then(if a1<1 then(gW.j0 k a0 a1 true)else(if a1>20 then(gW.j0 k a0 a1 true)else((aN.f a0).bind fun t767=>(gW.j0 k a0 a1 t767))))else(some ((⟨#[]⟩:ByteArray),t766))))=some (r1,r2):=h;clear h;obtain⟨t766,A3,H⟩:=Zq.mq H;try dsimp only at H
 by_cases c4:t766=0
 ·rw[if_pos c4]at H;have c4b0:(t766 == 0)=true:=beq_iff_eq.mpr c4;have c4b1:(t766 != 0)=false:=bne_eq_false_iff_eq.mpr c4;clear c4;have HC5:=aA.mk H;clear H;(go_enter Tryz.func51,Tryz.ntmps51);(go_upto_region 4 with(first|((with_reducible refine Zq.c 57 rfl ?_);refine Zq.g (some 15) Tryz.func57 #[.string a0] ?_;(with_reducible refine(cO.calls k a0 t766 _ A3.out).mono ?_);rintro e w' ⟨rfl,nd,rfl⟩;refine⟨_,rfl,?_⟩)));(try simp only[Act.put,Zq.a1,Zq.a2,Zq.a3])
  go_cut [28] (fun v28 wc=>∃(kq:Nat) (x28_4:Bool),v28 = .bool x28_4/\aA (gW.j0 kq a0 a1 x28_4=some (r1,r2))/\aA (kq<=k)/\aA (Below w.heap.size w wc))
  case first=>
   have H:=HC5.out;clear HC5;by_cases c6:a1<1
   ·rw[if_pos c6]at H;have c6b0:decide (a1<1)=true:=decide_eq_true c6;clear c6;(first|rw[c6b0]|(simp only[bG,bK];rw[c6b0])|skip);have H':=aA.mk H;clear H;go_wp2
    go_meet
    case rel=>exact⟨_,(true),Zq.sd,H',⟨by first|omega|exact Nat.le_refl _⟩,⟨Zq.bo⟩⟩
   ·rw[if_neg c6]at H;have c6b0:decide (a1<1)=false:=decide_eq_false c6;clear c6;(first|rw[c6b0]|(simp only[bG,bK];rw[c6b0])|skip);by_cases c7:a1>20
    ·rw[if_pos c7]at H;have c7b0:decide (20<a1)=true:=decide_eq_true c7;clear c7;have H':=aA.mk H;clear H;go_wp2
     go_meet
     case rel=>exact⟨_,(true),Zq.sd,H',⟨by first|omega|exact Nat.le_refl _⟩,⟨Zq.bo⟩⟩
    ·rw[if_neg c7]at H;have c7b0:decide (20<a1)=false:=decide_eq_false c7;clear c7;obtain⟨t767,A8,H⟩:=Zq.mq H;(try dsimp only at H);have H':=aA.mk H;clear H;go_wp2_with (first|(go_at_call 31;(with_reducible refine(aN.calls a0 t767 _ A8.out).mono ?_);rintro e w' ⟨rfl,nd,rfl⟩))
     go_meet
     case rel=>exact⟨_,(t767),Zq.sd,H',⟨by first|omega|exact Nat.le_refl _⟩,⟨Zq.bo⟩⟩
  case rest=>
   clear HC5;(try clear p2);(try clear c4);(try clear c4b0);(try clear c4b1);(try clear c5);(try clear c6);(try clear c6b0);(try clear c7);(try clear c7b0);obtain⟨kq,x28_4,rfl,HA,HJ4,HB⟩:=hcut;cases kq with
   | zero=>exact absurd HA.out (by simp[gW.j0])
   | succ kj4=>
    have H:=HA.out;clear HA;simp only[gW.j0]at H;by_cases c9:x28_4=true
    ·subst c9;(have H1:(some ((⟨#[]⟩:ByteArray),2))=some (r1,r2):=by rw[if_pos rfl]at H;exact H);clear H;have H:=H1;clear H1;simp only[Option.some.injEq,Prod.mk.injEq]at H;obtain⟨rfl,rfl⟩:=H;go_wp2
     go_ret2
     exact⟨Zq.ew,Zq.bo⟩
    ·replace c9:=Bool.eq_false_iff.mpr c9;subst c9;(have H1:(if a1=0 then(none)else(gW.l0 kj4 a0 a1 (⟨#[]⟩:ByteArray) (wrap64 (Int.tdiv (wrap64 ((wrap64 ((a0.size:Int)+a1))-1)) a1))))=some (r1,r2):=by rw[if_neg (show ¬(false=true) by decide)]at H;exact H);clear H;have H:=H1;clear H1;by_cases c10:a1=0;·rw[if_pos c10]at H;exact absurd H (by simp)
     ·rw[if_neg c10]at H;have c10b0:(a1 == 0)=false:=beq_eq_false_iff_ne.mpr c10;have c10b1:(a1 != 0)=true:=bne_iff_ne.mpr c10;have H':=aA.mk H;clear H;go_wp2
      go_loopg [7,8] kj4 (fun kq v7 v8 w'=>∃(x7_2:ByteArray) (x8_2:Int),v7 = .string x7_2/\v8 = .int .i64 x8_2/\aA (gW.l0 kq a0 a1 x7_2 x8_2=some (r1,r2))/\aA (kq<=kj4)/\aA (Below w.heap.size w w'))
      case atStart=>exact⟨((⟨#[]⟩:ByteArray)),(wrap64 (Int.tdiv (wrap64 ((wrap64 ((a0.size:Int)+a1))-1)) a1)),Zq.sd,Zq.sd,H',⟨Nat.le_refl _⟩,⟨Zq.bo⟩⟩
      case round=>
       clear H';(try clear c1);(try clear p2);(try clear c4);(try clear c4b0);(try clear c4b1);(try clear c5);(try clear c6);(try clear c6b0);(try clear p6);(try clear c7);(try clear c7b0);(try clear c9);(try clear c10);(try clear c10b0);(try clear c10b1);(try clear p2);obtain⟨x7_2,x8_2,rfl,rfl,HA,HK2,HB⟩:=hrel;cases gk with
       | zero=>exact absurd HA.out (by simp[gW.l0])
       | succ k2=>
        have H:=HA.out;clear HA;simp only[gW.l0]at H;by_cases c11:x8_2>0
        ·rw[if_pos c11]at H;have c11b0:decide (0<x8_2)=true:=decide_eq_true c11;clear c11;have H':=aA.mk H;clear H;go_wp2
         go_loopg [9,10] k2 (fun kq v9 v10 w'=>∃(x9_3:ByteArray) (x10_3:Int),v9 = .string x9_3/\v10 = .int .i64 x10_3/\aA (gW.l1 kq a0 a1 x7_2 x8_2 x9_3 x10_3=some (r1,r2))/\aA (kq<=k2)/\aA (Below w.heap.size w w'))
         case atStart=>exact⟨((⟨#[]⟩:ByteArray)),(1),Zq.sd,Zq.sd,H',⟨Nat.le_refl _⟩,⟨Zq.bo⟩⟩
         case round=>
          clear H';(try clear c1);(try clear p2);(try clear c4);(try clear c4b0);(try clear c4b1);(try clear c5);(try clear c6);(try clear c6b0);(try clear p6);(try clear c7);(try clear c7b0);(try clear c9);(try clear c10);(try clear c10b0);(try clear c10b1);(try clear c11);(try clear c11b0);(try clear p2);(try clear p6);obtain⟨x9_3,x10_3,rfl,rfl,HA,HK3,HB⟩:=hrel;cases gk with
          | zero=>exact absurd HA.out (by simp[gW.l1])
          | succ k3=>
           have H:=HA.out;clear HA;simp only[gW.l1]at H;by_cases c12:x10_3<x8_2
           ·rw[if_pos c12]at H;have c12b0:decide (x10_3<x8_2)=true:=decide_eq_true c12;clear c12;by_cases c13:x9_3.size+1<=9223372036854775807
            ·rw[if_pos c13]at H;have c13b0:=eq_true c13;have c13b1:decide (x9_3.size+1<=9223372036854775807)=true:=decide_eq_true c13;(try have c13b2:(9223372036854775807<x9_3.size+1)=False:=eq_false (Nat.not_lt.2 c13));have H':=aA.mk H;clear H;go_wp2
             go_roundg k3
             (case measure=>have:=HJ4.out;have:=HK2.out;have:=HK3.out;omega);case rel=>exact⟨(x9_3++(⟨#[48]⟩:ByteArray)),(wrap64 (x10_3+1)),Zq.sd,Zq.sd,H',⟨by have:=HJ4.out;have:=HK2.out;have:=HK3.out;omega⟩,⟨Zq.bo⟩⟩
            ·rw[if_neg c13]at H;exact absurd H (by simp)
           ·rw[if_neg c12]at H;have c12b0:decide (x10_3<x8_2)=false:=decide_eq_false c12;clear c12;have H':=aA.mk H;clear H;go_wp2
            go_loopg [11,12] k3 (fun kq v11 v12 w'=>∃(x11_4:ByteArray) (x12_4:Int),v11 = .string x11_4/\v12 = .int .i64 x12_4/\aA (gW.l2 kq a0 a1 x7_2 x8_2 x9_3 x11_4 x12_4=some (r1,r2))/\aA (kq<=k3)/\aA (Below w.heap.size w w'))
            case atStart=>exact⟨((⟨#[48]⟩:ByteArray)),(1),Zq.sd,Zq.sd,H',⟨Nat.le_refl _⟩,⟨Zq.bo⟩⟩
            case round=>
             clear H';(try clear c1);(try clear p2);(try clear c4);(try clear c4b0);(try clear c4b1);(try clear c5);(try clear c6);(try clear c6b0);(try clear p6);(try clear c7);(try clear c7b0);(try clear c9);(try clear c10);(try clear c10b0);(try clear c10b1);(try clear c11);(try clear c11b0);(try clear c12);(try clear c12b0);(try clear c13);(try clear c13b0);(try clear c13b1);(try clear c13b2);(try clear p2);(try clear p6);obtain⟨x11_4,x12_4,rfl,rfl,HA,HK4,HB⟩:=hrel;cases gk with
             | zero=>exact absurd HA.out (by simp[gW.l2])
             | succ k4=>
              have H:=HA.out;clear HA;simp only[gW.l2]at H;by_cases c14:x12_4<10
              ·rw[if_pos c14]at H;have c14b0:decide (x12_4<10)=true:=decide_eq_true c14;clear c14;obtain⟨t768,A15,H⟩:=Zq.mq H;(try dsimp only at H);by_cases c16:x7_2.size+t768.size<=9223372036854775807
               ·rw[if_pos c16]at H;have c16b0:=eq_true c16;have c16b1:decide (x7_2.size+t768.size<=9223372036854775807)=true:=decide_eq_true c16;(try have c16b2:(9223372036854775807<x7_2.size+t768.size)=False:=eq_false (Nat.not_lt.2 c16));by_cases c17:(x7_2++t768).size+x9_3.size<=9223372036854775807
                ·rw[if_pos c17]at H;have c17b0:=eq_true c17;have c17b1:decide ((x7_2++t768).size+x9_3.size<=9223372036854775807)=true:=decide_eq_true c17;(try have c17b2:(9223372036854775807<(x7_2++t768).size+x9_3.size)=False:=eq_false (Nat.not_lt.2 c17));obtain⟨t769,A18,H⟩:=Zq.mq H;(try dsimp only at H);obtain⟨t770,A19,H⟩:=Zq.mq H;(try dsimp only at H);by_cases c20:t770<=0
                 ·rw[if_pos c20]at H;have c20b0:decide (t770<=0)=true:=decide_eq_true c20;clear c20;obtain⟨t771,A21,H⟩:=Zq.mq H;(try dsimp only at H);have H':=aA.mk H;clear H;go_wp2_with (first|((with_reducible refine Zq.c 88 rfl ?_);refine Zq.g (some 53) Tryz.func88 #[.int .i64 x12_4] ?_;(with_reducible refine(bM.calls k4 x12_4 t768 _ A15.out).mono ?_);rintro e w22 ⟨rfl,hb⟩;refine⟨_,rfl,?_⟩;replace HB:=aA.mk (aC Zq.bo hb);(try clear hb);(try clear hb2);(try clear hk);(try clear hi))|((with_reducible refine Zq.c 113 rfl ?_);refine Zq.g (some 59) Tryz.func113 #[.string ((x7_2++t768)++x9_3),.int .i64 a1] ?_;(with_reducible refine(mX.calls k4 ((x7_2++t768)++x9_3) a1 t769 _ A18.out).mono ?_);rintro e w23 ⟨rfl,hb⟩;refine⟨_,rfl,?_⟩;replace HB:=aA.mk (aC Zq.bo hb);(try clear hb);(try clear hb2);(try clear hk);(try clear hi))|((with_reducible refine Zq.c 34 rfl ?_);refine Zq.g (some 61) Tryz.func34 #[.string t769,.string a0] ?_;(with_reducible refine(jO.calls k4 t769 a0 t770 _ A19.out).mono ?_);rintro e w24 ⟨rfl,hb⟩;refine⟨_,rfl,?_⟩;replace HB:=aA.mk (aC Zq.bo hb);(try clear hb);(try clear hb2);(try clear hk);(try clear hi))|((with_reducible refine Zq.c 88 rfl ?_);refine Zq.g (some 64) Tryz.func88 #[.int .i64 x12_4] ?_;(with_reducible refine(bM.calls k4 x12_4 t771 _ A21.out).mono ?_);rintro e w25 ⟨rfl,hb⟩;refine⟨_,rfl,?_⟩;replace HB:=aA.mk (aC Zq.bo hb);(try clear hb);(try clear hb2);(try clear hk);(try clear hi)))
                  go_roundg k4
                  (case measure=>have:=HJ4.out;have:=HK2.out;have:=HK3.out;have:=HK4.out;omega);case rel=>exact⟨(t771),(wrap64 (x12_4+1)),Zq.sd,Zq.sd,H',⟨by have:=HJ4.out;have:=HK2.out;have:=HK3.out;have:=HK4.out;omega⟩,⟨Zq.bo⟩⟩
                 ·rw[if_neg c20]at H;have c20b0:decide (t770<=0)=false:=decide_eq_false c20;clear c20;have H':=aA.mk H;clear H;go_wp2_with (first|((with_reducible refine Zq.c 88 rfl ?_);refine Zq.g (some 53) Tryz.func88 #[.int .i64 x12_4] ?_;(with_reducible refine(bM.calls k4 x12_4 t768 _ A15.out).mono ?_);rintro e w26 ⟨rfl,hb⟩;refine⟨_,rfl,?_⟩;replace HB:=aA.mk (aC Zq.bo hb);(try clear hb);(try clear hb2);(try clear hk);(try clear hi))|((with_reducible refine Zq.c 113 rfl ?_);refine Zq.g (some 59) Tryz.func113 #[.string ((x7_2++t768)++x9_3),.int .i64 a1] ?_;(with_reducible refine(mX.calls k4 ((x7_2++t768)++x9_3) a1 t769 _ A18.out).mono ?_);rintro e w27 ⟨rfl,hb⟩;refine⟨_,rfl,?_⟩;replace HB:=aA.mk (aC Zq.bo hb);(try clear hb);(try clear hb2);(try clear hk);(try clear hi))|((with_reducible refine Zq.c 34 rfl ?_);refine Zq.g (some 61) Tryz.func34 #[.string t769,.string a0] ?_;(with_reducible refine(jO.calls k4 t769 a0 t770 _ A19.out).mono ?_);rintro e w28 ⟨rfl,hb⟩;refine⟨_,rfl,?_⟩;replace HB:=aA.mk (aC Zq.bo hb);(try clear hb);(try clear hb2);(try clear hk);(try clear hi)))
                  go_roundg k4
                  (case measure=>have:=HJ4.out;have:=HK2.out;have:=HK3.out;have:=HK4.out;omega);case rel=>exact⟨(x11_4),(wrap64 (x12_4+1)),Zq.sd,Zq.sd,H',⟨by have:=HJ4.out;have:=HK2.out;have:=HK3.out;have:=HK4.out;omega⟩,⟨Zq.bo⟩⟩
                ·rw[if_neg c17]at H;exact absurd H (by simp)
               ·rw[if_neg c16]at H;exact absurd H (by simp)
              ·rw[if_neg c14]at H;have c14b0:decide (x12_4<10)=false:=decide_eq_false c14;clear c14;by_cases c29:x7_2.toList=([]:List UInt8)
               ·rw[if_pos c29]at H;have c29b0:(x7_2.toList == ([]:List UInt8))=true:=beq_iff_eq.mpr c29;have c29b1:(x7_2.toList != ([]:List UInt8))=false:=bne_eq_false_iff_eq.mpr c29;clear c29;by_cases c30:x11_4.toList=([48]:List UInt8)
                ·rw[if_pos c30]at H;have c30b0:(x11_4.toList == ([48]:List UInt8))=true:=beq_iff_eq.mpr c30;have c30b1:(x11_4.toList != ([48]:List UInt8))=false:=bne_eq_false_iff_eq.mpr c30;clear c30;have H':=aA.mk H;clear H;go_wp2
                 go_roundg k4
                 (case measure=>have:=HJ4.out;have:=HK2.out;have:=HK3.out;have:=HK4.out;omega);case rel=>exact⟨(x7_2),(wrap64 (x8_2-1)),Zq.sd,Zq.sd,H',⟨by have:=HJ4.out;have:=HK2.out;have:=HK3.out;have:=HK4.out;omega⟩,⟨Zq.bo⟩⟩
                ·rw[if_neg c30]at H;have c30b0:(x11_4.toList == ([48]:List UInt8))=false:=beq_eq_false_iff_ne.mpr c30;have c30b1:(x11_4.toList != ([48]:List UInt8))=true:=bne_iff_ne.mpr c30;by_cases c31:x7_2.size+x11_4.size<=9223372036854775807
                 ·rw[if_pos c31]at H;have c31b0:=eq_true c31;have c31b1:decide (x7_2.size+x11_4.size<=9223372036854775807)=true:=decide_eq_true c31;(try have c31b2:(9223372036854775807<x7_2.size+x11_4.size)=False:=eq_false (Nat.not_lt.2 c31));have H':=aA.mk H;clear H;go_wp2
                  go_roundg k4
                  (case measure=>have:=HJ4.out;have:=HK2.out;have:=HK3.out;have:=HK4.out;omega);case rel=>exact⟨(x7_2++x11_4),(wrap64 (x8_2-1)),Zq.sd,Zq.sd,H',⟨by have:=HJ4.out;have:=HK2.out;have:=HK3.out;have:=HK4.out;omega⟩,⟨Zq.bo⟩⟩
                 ·rw[if_neg c31]at H;exact absurd H (by simp)
               ·rw[if_neg c29]at H;have c29b0:(x7_2.toList == ([]:List UInt8))=false:=beq_eq_false_iff_ne.mpr c29;have c29b1:(x7_2.toList != ([]:List UInt8))=true:=bne_iff_ne.mpr c29;by_cases c32:x7_2.size+x11_4.size<=9223372036854775807
                ·rw[if_pos c32]at H;have c32b0:=eq_true c32;have c32b1:decide (x7_2.size+x11_4.size<=9223372036854775807)=true:=decide_eq_true c32;(try have c32b2:(9223372036854775807<x7_2.size+x11_4.size)=False:=eq_false (Nat.not_lt.2 c32));have H':=aA.mk H;clear H;go_wp2
                 go_roundg k4
                 (case measure=>have:=HJ4.out;have:=HK2.out;have:=HK3.out;have:=HK4.out;omega);case rel=>exact⟨(x7_2++x11_4),(wrap64 (x8_2-1)),Zq.sd,Zq.sd,H',⟨by have:=HJ4.out;have:=HK2.out;have:=HK3.out;have:=HK4.out;omega⟩,⟨Zq.bo⟩⟩
                ·rw[if_neg c32]at H;exact absurd H (by simp)
        ·rw[if_neg c11]at H;have c11b0:decide (0<x8_2)=false:=decide_eq_false c11;clear c11;by_cases c33:x7_2.toList=([]:List UInt8)
         ·rw[if_pos c33]at H;have c33b0:(x7_2.toList == ([]:List UInt8))=true:=beq_iff_eq.mpr c33;have c33b1:(x7_2.toList != ([]:List UInt8))=false:=bne_eq_false_iff_eq.mpr c33;clear c33;simp only[Option.some.injEq,Prod.mk.injEq]at H;obtain⟨rfl,rfl⟩:=H;go_wp2
          go_ret2
          exact⟨Zq.ew,Zq.bo⟩
         ·rw[if_neg c33]at H;have c33b0:(x7_2.toList == ([]:List UInt8))=false:=beq_eq_false_iff_ne.mpr c33;have c33b1:(x7_2.toList != ([]:List UInt8))=true:=bne_iff_ne.mpr c33;simp only[Option.some.injEq,Prod.mk.injEq]at H;obtain⟨rfl,rfl⟩:=H;go_wp2
          go_ret2
          exact⟨Zq.ew,Zq.bo⟩
 ·rw[if_neg c4]at H;have c4b0:(t766 == 0)=false:=beq_eq_false_iff_ne.mpr c4;have c4b1:(t766 != 0)=true:=bne_iff_ne.mpr c4;simp only[Option.some.injEq,Prod.mk.injEq]at H;obtain⟨rfl,rfl⟩:=H;(go_enter Tryz.func51,Tryz.ntmps51);go_wp2_with (first|((with_reducible refine Zq.c 57 rfl ?_);refine Zq.g (some 15) Tryz.func57 #[.string a0] ?_;(with_reducible refine(cO.calls k a0 t766 _ A3.out).mono ?_);rintro e w' ⟨rfl,nd,rfl⟩;refine⟨_,rfl,?_⟩))
  go_ret2
  exact⟨Zq.ew,Zq.bo⟩
end Go.Proofs.YtjieekkkaekclaaGreatDoor.PR
namespace Go.Proofs.YtjieekkkaekclaaGreatDoor
open Go Go.RowKit Go.Pw.PrintWords Go.Proofs.YtjieekkkaekclaaGreatDoor.PR
theorem aHL {L:Nat} {x:Int} (h:Mw.Sz L x) (i:Nat):Mw.Sz (L*i+1) (x^i):=by show(x^i).natAbs<_;rw[Int.natAbs_pow,Nat.pow_succ,Nat.pow_mul];have h1:x.natAbs^i<=(10^L)^i:=Nat.pow_le_pow_left (Nat.le_of_lt h) i;have h2:0<(10^L)^i:=Nat.pow_pos (Nat.pow_pos (by omega));omega
theorem aI2 (y:Int) (N:Nat) {L:Nat} (h1:1<=N) (hN:N<=20) (h:Mw.Sz L y) (hL:L<=1500) (hL1:1<=L):EvP (fun k=>mX.f k (Mw.T y) (N:Int)) (Mw.T (y^N)):=by
 have loop:∀(d i:Nat),i+d=N->EvP (fun k=>mX.l0 k (Mw.T y) (N:Int) (Mw.T (y^i)) (i:Int)) (Mw.T (y^N)):=by
  intro d;induction d with
  | zero=>intro i hi;(have e:i=N:=by omega);subst e;refine EvP.step (f:=fun _=>some (Mw.T (y^i))) (fun k=>?_) (EvP.now _);simp only[mX.l0];rw[if_neg (by omega)]
  | succ d ih=>intro i hi;have z1:Mw.Sz 31001 (y^i):=(aHL h i).mono (by have:=Nat.mul_le_mul hL (show i<=20 by omega);omega);refine EvP.step (f:=fun k=>(cZ.f k (Mw.T (y^i)) (Mw.T y)).bind fun t=>mX.l0 k (Mw.T y) (N:Int) t ((i+1:Nat):Int)) (fun k=>?_) ?_;(·simp only[mX.l0];rw[if_pos (by omega),show wrap64 ((i:Int)+1)=((i+1:Nat):Int)from eT (by omega) (by omega)]);·refine EvP.bind (kW _ _ z1 (h.mono (by omega)) (by omega) (by omega)) ?_;rw[<-Int.pow_succ];exact ih (i+1) (by omega)
 have key:=loop (N-1) 1 (by omega);have e:(y:Int)^1=y:=by rw[Int.pow_succ,Int.pow_zero,Int.one_mul]
 rw[e]at key;unfold mX.f;exact key
def outT (v:Nat):ByteArray:=if v=0 then Mw.B []else Mw.T (v:Int)
theorem aAJ (v:Nat):Mw.T (v:Int)=Mw.B (Mw.gU v):=by rw[Mw.T,Mw.eY (by omega),Int.natAbs_natCast]
theorem aDd (v d:Nat) (hd:d<10) (h0:v≠0\/d≠0):outT v++Mw.T (d:Int)=Mw.T ((10*v+d:Nat):Int):=by
 unfold outT;by_cases h:v=0;·subst h;rw[if_pos rfl,aAJ,aAJ,lM];rw[List.nil_append,show 10*0+d=d by omega]
 ·rw[if_neg h,aAJ,aAJ,aAJ,lM,Mw.jY hd,Mw.rW (n:=10*v+d) (by omega),show(10*v+d)/10=v by omega,show(10*v+d)%10=d by omega]
theorem aH8 (y p:Nat) (hy:y≠0):Mw.gU (y*10^p)=Mw.gU y++List.replicate p 48:=by
 induction p with
 | zero=>rw[Nat.pow_zero,Nat.mul_one,List.replicate_zero,List.append_nil]
 | succ p ih=>have hpos:0<y*10^p:=Nat.mul_pos (by omega) (Nat.pow_pos (by omega));rw[Nat.pow_succ,<-Nat.mul_assoc,Mw.rW (by omega),Nat.mul_div_cancel _ (by omega),Nat.mul_mod_left,ih,List.append_assoc,List.replicate_succ',show Mw.dgt 0=48 from rfl]
theorem aJ3 (a:ByteArray) (n:Int) (o:ByteArray) (p:Nat) (hp:p<=100000) (R:ByteArray×Int) (r:EvP (fun k=>gW.l2 k a n o ((p+1:Nat):Int) (Mw.B (List.replicate p 48)) (⟨#[48]⟩:ByteArray) 1) R):∀(d i:Nat),i+d=p->
 EvP (fun k=>gW.l1 k a n o ((p+1:Nat):Int) (Mw.B (List.replicate i 48)) ((i+1:Nat):Int)) R:=by
 intro d;induction d with
 | zero=>intro i hi;(have e:i=p:=by omega);subst e;refine EvP.step (fun k=>?_) r;simp only[gW.l1];rw[if_neg (by omega)]
 | succ d ih=>intro i hi;refine EvP.step (fun k=>?_) (ih (i+1) (by omega));simp only[gW.l1];rw[if_pos (by omega),if_pos (by rw[eH,List.length_replicate];omega),show(⟨#[48]⟩:ByteArray)=Mw.B [48]from rfl,lM,<-List.replicate_succ',show wrap64 (((i+1:Nat):Int)+1)=((i+1+1:Nat):Int)from eT (by omega) (by omega)]
set_option exponentiation.threshold 2000 in
theorem aKj (x N:Nat) (hN1:1<=N) (hN:N<=20) (zx:Mw.Sz 1000 (x:Int)) (v p D:Nat) (hp:p<=1000) (hv:v<10^400) (hD:D<=9) (hr:Mw.rt N x/10^p=10*v+D) (R:ByteArray×Int)
 (r:EvP (fun k=>gW.l2 k (Mw.T (x:Int)) (N:Int) (outT v) ((p+1:Nat):Int) (Mw.B (List.replicate p 48)) (Mw.T (D:Int)) 10) R):
 ∀(q d:Nat),d+q=10->1<=d->EvP (fun k=>gW.l2 k (Mw.T (x:Int)) (N:Int) (outT v) ((p+1:Nat):Int) (Mw.B (List.replicate p 48)) (Mw.T ((min (d-1) D:Nat):Int)) (d:Int)) R:=by
 intro q;induction q with
 | zero=>intro d hd h1;(have e:d=10:=by omega);subst e;rw[show min (10-1) D=D by omega];exact r
 | succ q ih=>
  intro d hd h1;have nx:=ih (d+1) (by omega) (by omega);(have hne:10*v+d≠0:=by omega);have hcat:outT v++Mw.T (d:Int)=Mw.T ((10*v+d:Nat):Int):=aDd v d (by omega) (.inr (by omega));(have hcat2:Mw.T ((10*v+d:Nat):Int)++Mw.B (List.replicate p 48)=Mw.T (((10*v+d)*10^p:Nat):Int):=by rw[aAJ,aAJ,lM,aH8 _ _ hne]);(have zy0:Mw.Sz 401 ((10*v+d:Nat):Int):=by show(((10*v+d:Nat):Int)).natAbs<10^401;rw[Int.natAbs_natCast,Nat.pow_succ];omega);(have zy:Mw.Sz (401+p) (((10*v+d)*10^p:Nat):Int):=by show((((10*v+d)*10^p:Nat):Int)).natAbs<_;rw[Int.natAbs_natCast,Nat.pow_add];exact Nat.mul_lt_mul_of_pos_right (by have:((10*v+d:Nat):Int).natAbs<10^401:=zy0;rwa[Int.natAbs_natCast]at this) (Nat.pow_pos (by omega)));(have so:(outT v).size<=1000:=by unfold outT;split;(·rw[eH];simp);·(have hz:Mw.Sz 400 (v:Int):=by show((v:Nat):Int).natAbs<_;rw[Int.natAbs_natCast];exact hv);have:=nP hz (by omega);omega);have sd:(Mw.T (d:Int)).size<=2:=nP (L:=1) (Nat.lt_of_le_of_lt (show((d:Int)).natAbs<=9 by omega) (by decide)) (by omega);have sy:=nP zy0 (by omega);have zp:Mw.Sz 31001 ((((10*v+d)*10^p:Nat):Int)^N):=(aHL zy N).mono (by have:=Nat.mul_le_mul (show 401+p<=1401 by omega) hN;omega);have rse:=aI2 ((((10*v+d)*10^p:Nat):Int)) N hN1 hN zy (by omega) (by omega);have cm:=zJ _ _ zp (zx.mono (show 1000<=31001 by omega)) (by omega) (by omega)
  (have test:gV ((((10*v+d)*10^p:Nat):Int)^N) (x:Int)<=0<->d<=D:=by have h2:=Mw.aMr (n:=N) (x:=x) (P:=10^p) (v:=10*v+d) (by omega) (Nat.pow_pos (by omega));rw[hr]at h2;(have h3:((((10*v+d)*10^p:Nat):Int)^N<=(x:Int))<->((10*v+d)*10^p)^N<=x:=by rw[<-Int.natCast_pow];omega);(have h4:gV ((((10*v+d)*10^p:Nat):Int)^N) (x:Int)<=0<->((((10*v+d)*10^p:Nat):Int)^N<=(x:Int)):=by generalize(((10*v+d)*10^p:Nat):Int)^N=Y;unfold gV;split;(·omega);·split<;>omega);rw[h4,h3,h2];omega);generalize(((10*v+d)*10^p:Nat):Int)=Y at *;refine EvP.step (f:=fun k=>(bM.f k (d:Int)).bind fun t768=>(if(outT v).size+t768.size<=9223372036854775807 then(if((outT v)++t768).size+(Mw.B (List.replicate p 48)).size<=9223372036854775807 then((mX.f k (((outT v)++t768)++(Mw.B (List.replicate p 48))) (N:Int)).bind fun t769=>((jO.f k t769 (Mw.T (x:Int))).bind fun t770=>(if t770<=0 then((bM.f k (d:Int)).bind fun t771=>(gW.l2 k (Mw.T (x:Int)) (N:Int) (outT v) ((p+1:Nat):Int) (Mw.B (List.replicate p 48)) t771 ((d+1:Nat):Int)))else(gW.l2 k (Mw.T (x:Int)) (N:Int) (outT v) ((p+1:Nat):Int) (Mw.B (List.replicate p 48)) (Mw.T ((min (d-1) D:Nat):Int)) ((d+1:Nat):Int)))))else(none))else(none))) (fun k=>?_) ?_;·simp only[gW.l2];rw[if_pos (by omega),show wrap64 ((d:Int)+1)=((d+1:Nat):Int)from eT (by omega) (by omega)]
  ·refine EvP.bind (kU (d:Int) (by omega)) (EvP.fM (by omega) (EvP.fM (by rw[hcat,eH,List.length_replicate];omega) ?_));rw[hcat,hcat2];refine EvP.bind rse (EvP.bind cm ?_);by_cases hd2:d<=D;(·refine EvP.fM (test.mpr hd2) (EvP.bind (kU (d:Int) (by omega)) ?_);rw[show min (d+1-1) D=d by omega]at nx;exact nx);·refine EvP.jC (fun h=>hd2 (test.mp h)) ?_;rw[show min (d+1-1) D=min (d-1) D by omega]at nx;exact nx
set_option exponentiation.threshold 2000 in
theorem aGH (x N:Nat) (hN1:1<=N) (hN:N<=20) (zx:Mw.Sz 400 (x:Int)):∀(p:Nat),p<=1000->
 EvP (fun k=>gW.l0 k (Mw.T (x:Int)) (N:Int) (outT (Mw.rt N x/10^p)) (p:Int)) (Mw.T (Mw.rt N x:Int),0):=by
 have hrx:Mw.rt N x<=x:=Nat.le_trans (Mw.zO (by omega)) (Mw.aAe (by omega));have hx:x<10^400:=by have:((x:Int)).natAbs<10^400:=zx;rwa[Int.natAbs_natCast]at this
 intro p;induction p with
 | zero=>intro _;rw[Nat.pow_zero,Nat.div_one];refine EvP.step (f:=fun _=>some (Mw.T (Mw.rt N x:Int),0)) (fun k=>?_) (EvP.now _);simp only[gW.l0];rw[if_neg (by omega)];unfold outT;by_cases h:Mw.rt N x=0;(·rw[if_pos h,if_pos (xN []),h,aBY];rfl);·rw[if_neg h,if_neg (by rw[zM];exact fun e=>by have:=congrArg List.length e;rw[Mw.xW]at this;have:=Mw.aBL ((Mw.rt N x:Int)).natAbs;split at *<;>simp_all)]
 | succ p ih=>
  intro hp;have ih:=ih (by omega);have nxt:=Mw.aL8 (Mw.rt N x) p;(have hv:Mw.rt N x/10^(p+1)<10^400:=by have:=Nat.div_le_self (Mw.rt N x) (10^(p+1));omega);(have hD:Mw.rt N x/10^p%10<=9:=by omega);generalize Mw.rt N x/10^(p+1)=v at *;obtain⟨D,eD⟩:∃D,Mw.rt N x/10^p%10=D:=⟨_,rfl⟩;rw[eD]at nxt hD;(have so:(outT v).size<=1000:=by unfold outT;split;(·rw[eH];simp);·(have hz:Mw.Sz 400 (v:Int):=by show((v:Nat):Int).natAbs<_;rw[Int.natAbs_natCast];exact hv);have:=nP hz (by omega);omega);have sd:(Mw.T (D:Int)).size<=2:=nP (L:=1) (Nat.lt_of_le_of_lt (show((D:Int)).natAbs<=9 by omega) (by decide)) (by omega)
  (have fin:EvP (fun k=>gW.l2 k (Mw.T (x:Int)) (N:Int) (outT v) ((p+1:Nat):Int) (Mw.B (List.replicate p 48)) (Mw.T (D:Int)) 10) (Mw.T (Mw.rt N x:Int),0):=by refine EvP.step (fun k=>?_) ih;simp only[gW.l2];rw[if_neg (by omega),show wrap64 (((p+1:Nat):Int)-1)=(p:Int) by rw[eT (by omega) (by omega)];omega,nxt];by_cases h0:v=0;(·by_cases hd0:D=0;(·rw[if_pos (by rw[outT,if_pos h0];exact xN []),if_pos ((fC _).mpr (by omega)),h0,hd0]);·rw[if_pos (by rw[outT,if_pos h0];exact xN []),if_neg (fun h=>hd0 (by have:=(fC _).mp h;omega)),if_pos (by omega),aDd v D (by omega) (.inr hd0),outT,if_neg (show ¬10*v+D=0 by omega)]);·(have hne:¬(outT v).toList=([]:List UInt8):=by rw[outT,if_neg h0,zM];intro e;have h1:=congrArg List.length e;(have h2:0<(Mw.jF (v:Int)).length:=by have:=vJ (v:Int);have h3:=List.length_pos_iff.mpr (Mw.aBL ((v:Int)).natAbs);omega);rw[List.length_nil]at h1;omega);rw[if_neg hne,if_pos (by omega),aDd v D (by omega) (.inl h0),outT,if_neg (show ¬10*v+D=0 by omega)]);have dg:=aKj x N hN1 hN (zx.mono (by omega)) v p D (by omega) hv hD nxt _ fin 9 1 (by omega) (by omega);rw[show min (1-1) D=0 by omega,show Mw.T ((0:Nat):Int)=(⟨#[48]⟩:ByteArray)from aBY.symm]at dg;have zr:=aJ3 (Mw.T (x:Int)) (N:Int) (outT v) p (by omega) _ dg p 0 (by omega);refine EvP.step (fun k=>?_) zr;simp only[gW.l0];rw[if_pos (by omega)];rfl
theorem aLa (a:List UInt8) (ha:a.length<=1000) (n:Int):EvP (fun k=>gW.f k (Mw.B a) n) (Mw.B (Mw.xP a n).1,(Mw.xP a n).2):=by
 unfold gW.f;refine EvP.bind (lG a (by omega)) ?_;unfold Mw.xP;by_cases ht:Mw.iP a=0
 ·obtain⟨x,e1,e2,e3,z⟩:=lX ht;have bad:EvP (fun k=>gW.j0 k (Mw.T x) n true) (Mw.B [],(2:Int)):=EvP.step (f:=fun _=>some (Mw.B [],2)) (fun k=>by simp only[gW.j0];rw[if_pos trivial];rfl) (EvP.now _);rw[if_pos ht,e2,e1];refine EvP.fM ht ?_;by_cases h1:n<1;·rw[if_pos h1];exact EvP.fM h1 bad
  ·rw[if_neg h1];refine EvP.jC h1 ?_;by_cases h2:20<n;·rw[if_pos h2];exact EvP.fM h2 bad
   ·rw[if_neg h2];refine EvP.jC h2 ?_;rw[kN];refine EvP.bind (EvP.now _) ?_;by_cases h3:x<0;(·rw[if_pos h3,decide_eq_true h3];exact bad);·rw[if_neg h3,decide_eq_false h3];obtain⟨X,rfl⟩:∃X:Nat,x=X:=⟨x.toNat,by omega⟩;obtain⟨N,rfl⟩:∃N:Nat,n=N:=⟨n.toNat,by omega⟩;rw[Int.toNat_natCast,Int.toNat_natCast];(have hsz:(Mw.T (X:Int)).size=(Mw.gU X).length:=by rw[aAJ,eH]);(have hlen:(Mw.gU X).length<=400:=by have:=Mw.Sz.len z (by omega);rwa[Int.natAbs_natCast]at this);have hpos:0<(Mw.gU X).length:=List.length_pos_iff.mpr (Mw.aBL X);obtain⟨P,hP⟩:∃P,P=((Mw.gU X).length+N-1)/N:=⟨_,rfl⟩;(have hPle:P<=1000:=by rw[hP];exact Nat.le_trans (Nat.div_le_self _ _) (by omega));(have top:Mw.rt N X/10^P=0:=by rw[hP];exact Mw.aMp (by omega) ((Mw.iZ X _ hpos).mp (Nat.le_refl _)));have key:=aGH X N (by omega) (by omega) z P hPle;rw[top,show outT 0=(⟨#[]⟩:ByteArray)from rfl]at key;refine EvP.step (fun k=>?_) key;simp only[gW.j0];(have hw:wrap64 (Int.tdiv (wrap64 ((wrap64 (((Mw.T (X:Int)).size:Int)+(N:Int)))-1)) (N:Int))=(P:Int):=by rw[hsz,eT (n:=((Mw.gU X).length:Int)+(N:Int)) (by omega) (by omega),eT (n:=((Mw.gU X).length:Int)+(N:Int)-1) (by omega) (by omega)];(have e:((Mw.gU X).length:Int)+(N:Int)-1=(((Mw.gU X).length+N-1:Nat):Int):=by omega);rw[e,show Int.tdiv (((Mw.gU X).length+N-1:Nat):Int) (N:Int)=((((Mw.gU X).length+N-1)/N:Nat):Int)from rfl,<-hP];exact eT (by omega) (by omega));rw[if_neg (by simp),if_neg (by omega),hw]
 ·rw[if_neg ht];exact EvP.jC ht (EvP.now _)
end Go.Proofs.YtjieekkkaekclaaGreatDoor
