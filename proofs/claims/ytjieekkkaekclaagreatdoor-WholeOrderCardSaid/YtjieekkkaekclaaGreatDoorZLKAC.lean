/- Proved: WholeOrder. Conditions: none beyond the statement's own. -/
import Derived.Test.YtjieekkkaekclaaGreatDoorCards
import Derived.Test.YtjieekkkaekclaaGreatDoorTie
import Derived.Test.YtjieekkkaekclaaGreatDoorZBAD
import Derived.Test.YtjieekkkaekclaaGreatDoorZBAT
import Derived.Test.YtjieekkkaekclaaGreatDoorZBAX
import Derived.Test.YtjieekkkaekclaaGreatDoorZBAY
import Derived.Test.YtjieekkkaekclaaGreatDoorZLKAB
import Derived.Below
import Derived.ChangeOld
import Derived.OpenShut
import Derived.ProofKit
import Derived.ShutString
import Derived.SizedLaws
import Derived.WalkKit
set_option linter.all false
set_option linter.unusedVariables false
set_option linter.unusedSimpArgs false
set_option maxHeartbeats 32000000
set_option maxRecDepth 100000
namespace Go.Proofs.YtjieekkkaekclaaGreatDoor.PR
open Go.RowKit Go.Pw.PrintWords Go.Pw.PrintLast Go.Pw.PrintMore
attribute [local go_sem] eG dZ fE fD dM dL eF dY
mutual
def cK.j0:Nat->ByteArray->ByteArray->ByteArray->Int->Bool->Option (Bool)
 | 0,_,_,_,_,_=>none
 | k+1,x3,x4,x5,x6,x98=>if x98=true then(some false)else((kK.f x3 x5).bind fun bt891=>((kK.f x4 x5).bind fun bt893=>((fJ.f bt891.1 bt893.1).bind fun bt895=>(if bt891.2=0 then(if bt893.2=0 then(if bt895.2=0 then(cK.j1 k x3 x4 x5 x6 (bt895.1 != x6))else(cK.j1 k x3 x4 x5 x6 true))else(cK.j1 k x3 x4 x5 x6 true))else(cK.j1 k x3 x4 x5 x6 true)))))
def cK.j1:Nat->ByteArray->ByteArray->ByteArray->Int->Bool->Option (Bool)
 | 0,_,_,_,_,_=>none
 | k+1,x3,x4,x5,x6,x131=>if x131=true then(some false)else((aZ.f x5).bind fun t897=>((fG.f k t897 (⟨#[49]⟩:ByteArray)).bind fun t898=>((iV.f x3 t898).bind fun bt899=>((aZ.f x5).bind fun t901=>((fG.f k t901 (⟨#[49]⟩:ByteArray)).bind fun t902=>((iV.f x4 t902).bind fun bt903=>((fJ.f bt899.1 bt903.1).bind fun bt905=>(if bt899.2=0 then(if bt903.2=0 then(if bt905.2=0 then(if bt905.1=x6 then((bY.f).bind fun t907=>(some t907))else(some false))else(some false))else(some false))else(some false)))))))))
end
def cK.f (k:Nat) (l0:List Int):Option (Bool):=(nZ.f k l0).bind fun bt880=>((fJ.f bt880.1 bt880.2.1).bind fun bt883=>((fJ.f bt880.2.1 bt880.1).bind fun bt885=>((fJ.f bt880.2.1 bt880.2.2).bind fun bt887=>((fJ.f bt880.1 bt880.2.2).bind fun bt889=>(if bt883.2=0 then(if bt885.2=0 then(if bt887.2=0 then(if bt889.2=0 then(if bt883.1=(wrap64 (-bt885.1))then(if((bt883.1 == 0) != (bt880.1.toList == bt880.2.1.toList))=true then(cK.j0 k bt880.1 bt880.2.1 bt880.2.2 bt883.1 true)else(if bt883.1<=0 then(if bt887.1<=0 then(if bt889.1>0 then(cK.j0 k bt880.1 bt880.2.1 bt880.2.2 bt883.1 true)else(if bt883.1>=0 then(if bt887.1>=0 then(cK.j0 k bt880.1 bt880.2.1 bt880.2.2 bt883.1 (decide (bt889.1<0)))else(cK.j0 k bt880.1 bt880.2.1 bt880.2.2 bt883.1 false))else(cK.j0 k bt880.1 bt880.2.1 bt880.2.2 bt883.1 false)))else(if bt883.1>=0 then(if bt887.1>=0 then(cK.j0 k bt880.1 bt880.2.1 bt880.2.2 bt883.1 (decide (bt889.1<0)))else(cK.j0 k bt880.1 bt880.2.1 bt880.2.2 bt883.1 false))else(cK.j0 k bt880.1 bt880.2.1 bt880.2.2 bt883.1 false)))else(if bt883.1>=0 then(if bt887.1>=0 then(cK.j0 k bt880.1 bt880.2.1 bt880.2.2 bt883.1 (decide (bt889.1<0)))else(cK.j0 k bt880.1 bt880.2.1 bt880.2.2 bt883.1 false))else(cK.j0 k bt880.1 bt880.2.1 bt880.2.2 bt883.1 false))))else(cK.j0 k bt880.1 bt880.2.1 bt880.2.2 bt883.1 true))else(cK.j0 k bt880.1 bt880.2.1 bt880.2.2 bt883.1 true))else(cK.j0 k bt880.1 bt880.2.1 bt880.2.2 bt883.1 true))else(cK.j0 k bt880.1 bt880.2.1 bt880.2.2 bt883.1 true))else(cK.j0 k bt880.1 bt880.2.1 bt880.2.2 bt883.1 true))))))
theorem cK.calls (k:Nat) (A0:Option Addr) (c0:Nat) (l0:List Int) (r:Bool) (w:World) (hr0:Kd.C (Kd.int .i64) w A0 l0.length l0) (hc0:l0.length<=c0) (hG:Gw w) (h:cK.f k l0=some r):
 Calls Tryz.prog 13 #[.slice A0 l0.length c0] w fun e w'=>e = .returned (.bool r)/\Below w.heap.size w w':=by
 have HG:=aA.mk hG;clear hG;have HR0:=aA.mk hr0;have HC0:=aA.mk hc0;clear hr0 hc0;have HB:=aA.mk (Below.refl w.heap.size w)
 have H:((nZ.f k l0).bind fun bt880=>((fJ.f bt880.1 bt880.2.1).bind fun bt883=>((fJ.f bt880.2.1 bt880.1).bind fun bt885=>((fJ.f bt880.2.1 bt880.2.2).bind fun bt887=>((fJ.f bt880.1 bt880.2.2).bind fun bt889=>(if bt883.2=0 then(if bt885.2=0 then(if bt887.2=0 then(if bt889.2=0 then(if bt883.1=(wrap64 (-bt885.1))then(if((bt883.1 == 0) != (bt880.1.toList == bt880.2.1.toList))=true then(cK.j0 k bt880.1 bt880.2.1 bt880.2.2 bt883.1 true)else(if bt883.1<=0 then(if bt887.1<=0 then(if bt889.1>0 then(cK.j0 k bt880.1 bt880.2.1 bt880.2.2 bt883.1 true)else(if bt883.1>=0 then(if bt887.1>=0 then(cK.j0 k bt880.1 bt880.2.1 bt880.2.2 bt883.1 (decide (bt889.1<0)))else(cK.j0 k bt880.1 bt880.2.1 bt880.2.2 bt883.1 false))else(cK.j0 k bt880.1 bt880.2.1 bt880.2.2 bt883.1 false)))else(if bt883.1>=0 then(if bt887.1>=0 then(cK.j0 k bt880.1 bt880.2.1 bt880.2.2 bt883.1 (decide (bt889.1<0)))else(cK.j0 k bt880.1 bt880.2.1 bt880.2.2 bt883.1 false))else(cK.j0 k bt880.1 bt880.2.1 bt880.2.2 bt883.1 false)))else(if bt883.1>=0 then(if bt887.1>=0 then(cK.j0 k bt880.1 bt880.2.1 bt880.2.2 bt883.1 (decide (bt889.1<0)))else(cK.j0 k bt880.1 bt880.2.1 bt880.2.2 bt883.1 false))else(cK.j0 k bt880.1 bt880.2.1 bt880.2.2 bt883.1 false))))else(cK.j0 k bt880.1 bt880.2.1 bt880.2.2 bt883.1 true))else(cK.j0 k bt880.1 bt880.2.1 bt880.2.2 bt883.1 true))else(cK.j0 k bt880.1 bt880.2.1 bt880.2.2 bt883.1 true))else(cK.j0 k bt880.1 bt880.2.1 bt880.2.2 bt883.1 true))else(cK.j0 k bt880.1 bt880.2.1 bt880.2.2 bt883.1 true)))))))=some r:=h
 clear h;replace H:=Zq.mp H;obtain⟨⟨t880,t881,t882⟩,A20,H⟩:=H;try dsimp only at H
 have A2:=aA.mk A20;clear A20;replace H:=Zq.mp H;obtain⟨⟨t883,t884⟩,A30,H⟩:=H;try dsimp only at H
 have A3:=aA.mk A30;clear A30;replace H:=Zq.mp H;obtain⟨⟨t885,t886⟩,A40,H⟩:=H;try dsimp only at H
 have A4:=aA.mk A40;clear A40;replace H:=Zq.mp H;obtain⟨⟨t887,t888⟩,A50,H⟩:=H;try dsimp only at H
 have A5:=aA.mk A50;clear A50;replace H:=Zq.mp H;obtain⟨⟨t889,t890⟩,A60,H⟩:=H;try dsimp only at H
 have A6:=aA.mk A60;clear A60;have HC7:=aA.mk H;clear H;go_enter Tryz.func13,Tryz.ntmps13
 go_upto_region 6 with(first|((with_reducible refine Zq.c 42 rfl ?_);refine Zq.g (some 19) Tryz.func42 #[.slice A0 l0.length c0] ?_;(with_reducible refine(nZ.calls k _ _ l0 t880 t881 t882 _ ?side1 ?side2 A2.out).mono ?_);(case side1=>exact Zq.ca HR0.out);(case side2=>exact HC0.out);rintro e w8 ⟨rfl,hb⟩;refine⟨_,rfl,?_⟩;replace HB:=aA.mk (aC Zq.bo hb);(try clear hb);(try clear hb2);(try clear hk);(try clear hi))|((with_reducible refine Zq.c 53 rfl ?_);refine Zq.g (some 26) Tryz.func53 #[.string t880,.string t881] ?_;(with_reducible refine(fJ.calls t880 t881 t883 t884 _ ?gw A3.out).mono ?_);(case gw=>exact HG.out.below Zq.bo);rintro e w9 ⟨rfl,hb⟩;refine⟨_,rfl,?_⟩;replace HB:=aA.mk (aC Zq.bo hb);(try clear hb);(try clear hb2);(try clear hk);(try clear hi))|((with_reducible refine Zq.c 53 rfl ?_);refine Zq.g (some 32) Tryz.func53 #[.string t881,.string t880] ?_;(with_reducible refine(fJ.calls t881 t880 t885 t886 _ ?gw A4.out).mono ?_);(case gw=>exact HG.out.below Zq.bo);rintro e w10 ⟨rfl,hb⟩;refine⟨_,rfl,?_⟩;replace HB:=aA.mk (aC Zq.bo hb);(try clear hb);(try clear hb2);(try clear hk);(try clear hi))|((with_reducible refine Zq.c 53 rfl ?_);refine Zq.g (some 38) Tryz.func53 #[.string t881,.string t882] ?_;(with_reducible refine(fJ.calls t881 t882 t887 t888 _ ?gw A5.out).mono ?_);(case gw=>exact HG.out.below Zq.bo);rintro e w11 ⟨rfl,hb⟩;refine⟨_,rfl,?_⟩;replace HB:=aA.mk (aC Zq.bo hb);(try clear hb);(try clear hb2);(try clear hk);(try clear hi))|((with_reducible refine Zq.c 53 rfl ?_);refine Zq.g (some 44) Tryz.func53 #[.string t880,.string t882] ?_;(with_reducible refine(fJ.calls t880 t882 t889 t890 _ ?gw A6.out).mono ?_);(case gw=>exact HG.out.below Zq.bo);rintro e w12 ⟨rfl,hb⟩;refine⟨_,rfl,?_⟩;replace HB:=aA.mk (aC Zq.bo hb);(try clear hb);(try clear hb2);(try clear hk);(try clear hi)))
 (try simp only[Act.put,Zq.a1,Zq.a2,Zq.a3])
 go_cut [98] (fun v98 wc=>∃(kq:Nat) (x98_6:Bool),v98 = .bool x98_6/\aA (cK.j0 kq t880 t881 t882 t883 x98_6=some r)/\aA (kq<=k)/\aA (Below w.heap.size w wc))
 case first=>
  have H:=HC7.out;clear HC7;by_cases c13:t884=0
  ·rw[if_pos c13]at H;have c13b0:(t884 == 0)=true:=beq_iff_eq.mpr c13;have c13b1:(t884 != 0)=false:=bne_eq_false_iff_eq.mpr c13;clear c13;(first|rw[c13b0]|(simp only[bG,bK];rw[c13b0])|skip);by_cases c14:t886=0
   ·rw[if_pos c14]at H;have c14b0:(t886 == 0)=true:=beq_iff_eq.mpr c14;have c14b1:(t886 != 0)=false:=bne_eq_false_iff_eq.mpr c14;clear c14;by_cases c15:t888=0
    ·rw[if_pos c15]at H;have c15b0:(t888 == 0)=true:=beq_iff_eq.mpr c15;have c15b1:(t888 != 0)=false:=bne_eq_false_iff_eq.mpr c15;clear c15;by_cases c16:t890=0
     ·rw[if_pos c16]at H;have c16b0:(t890 == 0)=true:=beq_iff_eq.mpr c16;have c16b1:(t890 != 0)=false:=bne_eq_false_iff_eq.mpr c16;clear c16;by_cases c17:t883=(wrap64 (-t885))
      ·rw[if_pos c17]at H;have c17b0:(t883 == (wrap64 (-t885)))=true:=beq_iff_eq.mpr c17;have c17b1:(t883 != (wrap64 (-t885)))=false:=bne_eq_false_iff_eq.mpr c17;clear c17;by_cases c18:((t883 == 0) != (t880.toList == t881.toList))=true
       ·rw[if_pos c18]at H;have c18b0:((t883 == 0) != (t880.toList == t881.toList))=true:=c18;(try(have c18b1:decide ((t883 == 0)=(t880.toList == t881.toList))=false:=by simpa using c18));(try(have c18b2:((t883 == 0) == (t880.toList == t881.toList))=false:=by simpa using c18));(try(have c18b3:¬((t883 == 0)=(t880.toList == t881.toList)):=by simpa using c18));clear c18;have H':=aA.mk H;clear H;go_wp2
        go_meet
        case rel=>exact⟨_,(true),Zq.sd,H',⟨by first|omega|exact Nat.le_refl _⟩,⟨Zq.bo⟩⟩
       ·rw[if_neg c18]at H;(have c18b0:((t883 == 0) != (t880.toList == t881.toList))=false:=by simpa using c18);(try(have c18b1:decide ((t883 == 0)=(t880.toList == t881.toList))=true:=by simpa using c18));(try(have c18b2:((t883 == 0) == (t880.toList == t881.toList))=true:=by simpa using c18));clear c18;by_cases c19:t883<=0
        ·rw[if_pos c19]at H;have c19b0:decide (t883<=0)=true:=decide_eq_true c19;clear c19;by_cases c20:t887<=0
         ·rw[if_pos c20]at H;have c20b0:decide (t887<=0)=true:=decide_eq_true c20;clear c20;by_cases c21:t889>0
          ·rw[if_pos c21]at H;have c21b0:decide (0<t889)=true:=decide_eq_true c21;clear c21;have H':=aA.mk H;clear H;go_wp2
           go_meet
           case rel=>exact⟨_,(true),Zq.sd,H',⟨by first|omega|exact Nat.le_refl _⟩,⟨Zq.bo⟩⟩
          ·rw[if_neg c21]at H;have c21b0:decide (0<t889)=false:=decide_eq_false c21;clear c21;by_cases c22:t883>=0
           ·rw[if_pos c22]at H;have c22b0:decide (0<=t883)=true:=decide_eq_true c22;clear c22;by_cases c23:t887>=0
            ·rw[if_pos c23]at H;have c23b0:decide (0<=t887)=true:=decide_eq_true c23;clear c23;have H':=aA.mk H;clear H;go_wp2
             go_meet
             case rel=>exact⟨_,(decide (t889<0)),Zq.sd,H',⟨by first|omega|exact Nat.le_refl _⟩,⟨Zq.bo⟩⟩
            ·rw[if_neg c23]at H;have c23b0:decide (0<=t887)=false:=decide_eq_false c23;clear c23;have H':=aA.mk H;clear H;go_wp2
             go_meet
             case rel=>exact⟨_,(false),Zq.sd,H',⟨by first|omega|exact Nat.le_refl _⟩,⟨Zq.bo⟩⟩
           ·rw[if_neg c22]at H;have c22b0:decide (0<=t883)=false:=decide_eq_false c22;clear c22;have H':=aA.mk H;clear H;go_wp2
            go_meet
            case rel=>exact⟨_,(false),Zq.sd,H',⟨by first|omega|exact Nat.le_refl _⟩,⟨Zq.bo⟩⟩
         ·rw[if_neg c20]at H;have c20b0:decide (t887<=0)=false:=decide_eq_false c20;clear c20;by_cases c24:t883>=0
          ·rw[if_pos c24]at H;have c24b0:decide (0<=t883)=true:=decide_eq_true c24;clear c24;by_cases c25:t887>=0
           ·rw[if_pos c25]at H;have c25b0:decide (0<=t887)=true:=decide_eq_true c25;clear c25;have H':=aA.mk H;clear H;go_wp2
            go_meet
            case rel=>exact⟨_,(decide (t889<0)),Zq.sd,H',⟨by first|omega|exact Nat.le_refl _⟩,⟨Zq.bo⟩⟩
           ·rw[if_neg c25]at H;have c25b0:decide (0<=t887)=false:=decide_eq_false c25;clear c25;have H':=aA.mk H;clear H;go_wp2
            go_meet
            case rel=>exact⟨_,(false),Zq.sd,H',⟨by first|omega|exact Nat.le_refl _⟩,⟨Zq.bo⟩⟩
          ·rw[if_neg c24]at H;have c24b0:decide (0<=t883)=false:=decide_eq_false c24;clear c24;have H':=aA.mk H;clear H;go_wp2
           go_meet
           case rel=>exact⟨_,(false),Zq.sd,H',⟨by first|omega|exact Nat.le_refl _⟩,⟨Zq.bo⟩⟩
        ·rw[if_neg c19]at H;have c19b0:decide (t883<=0)=false:=decide_eq_false c19;clear c19;by_cases c26:t883>=0
         ·rw[if_pos c26]at H;have c26b0:decide (0<=t883)=true:=decide_eq_true c26;clear c26;by_cases c27:t887>=0
          ·rw[if_pos c27]at H;have c27b0:decide (0<=t887)=true:=decide_eq_true c27;clear c27;have H':=aA.mk H;clear H;go_wp2
           go_meet
           case rel=>exact⟨_,(decide (t889<0)),Zq.sd,H',⟨by first|omega|exact Nat.le_refl _⟩,⟨Zq.bo⟩⟩
          ·rw[if_neg c27]at H;have c27b0:decide (0<=t887)=false:=decide_eq_false c27;clear c27;have H':=aA.mk H;clear H;go_wp2
           go_meet
           case rel=>exact⟨_,(false),Zq.sd,H',⟨by first|omega|exact Nat.le_refl _⟩,⟨Zq.bo⟩⟩
         ·rw[if_neg c26]at H;have c26b0:decide (0<=t883)=false:=decide_eq_false c26;clear c26;have H':=aA.mk H;clear H;go_wp2
          go_meet
          case rel=>exact⟨_,(false),Zq.sd,H',⟨by first|omega|exact Nat.le_refl _⟩,⟨Zq.bo⟩⟩
      ·rw[if_neg c17]at H;have c17b0:(t883 == (wrap64 (-t885)))=false:=beq_eq_false_iff_ne.mpr c17;have c17b1:(t883 != (wrap64 (-t885)))=true:=bne_iff_ne.mpr c17;have H':=aA.mk H;clear H;go_wp2
       go_meet
       case rel=>exact⟨_,(true),Zq.sd,H',⟨by first|omega|exact Nat.le_refl _⟩,⟨Zq.bo⟩⟩
     ·rw[if_neg c16]at H;have c16b0:(t890 == 0)=false:=beq_eq_false_iff_ne.mpr c16;have c16b1:(t890 != 0)=true:=bne_iff_ne.mpr c16;have H':=aA.mk H;clear H;go_wp2
      go_meet
      case rel=>exact⟨_,(true),Zq.sd,H',⟨by first|omega|exact Nat.le_refl _⟩,⟨Zq.bo⟩⟩
    ·rw[if_neg c15]at H;have c15b0:(t888 == 0)=false:=beq_eq_false_iff_ne.mpr c15;have c15b1:(t888 != 0)=true:=bne_iff_ne.mpr c15;have H':=aA.mk H;clear H;go_wp2
     go_meet
     case rel=>exact⟨_,(true),Zq.sd,H',⟨by first|omega|exact Nat.le_refl _⟩,⟨Zq.bo⟩⟩
   ·rw[if_neg c14]at H;have c14b0:(t886 == 0)=false:=beq_eq_false_iff_ne.mpr c14;have c14b1:(t886 != 0)=true:=bne_iff_ne.mpr c14;have H':=aA.mk H;clear H;go_wp2
    go_meet
    case rel=>exact⟨_,(true),Zq.sd,H',⟨by first|omega|exact Nat.le_refl _⟩,⟨Zq.bo⟩⟩
  ·rw[if_neg c13]at H;have c13b0:(t884 == 0)=false:=beq_eq_false_iff_ne.mpr c13;have c13b1:(t884 != 0)=true:=bne_iff_ne.mpr c13;(first|rw[c13b0]|(simp only[bG,bK];rw[c13b0])|skip);have H':=aA.mk H;clear H;go_wp2
   go_meet
   case rel=>exact⟨_,(true),Zq.sd,H',⟨by first|omega|exact Nat.le_refl _⟩,⟨Zq.bo⟩⟩
 case rest=>
  clear HC7;(try clear c1);(try clear c2);(try clear p2);(try clear c4);(try clear c5);(try clear p6);(try clear c13);(try clear c13b0);(try clear c13b1);(try clear c14);(try clear c14b0);(try clear c14b1);(try clear c15);(try clear c15b0);(try clear c15b1);(try clear c16);(try clear c16b0);(try clear c16b1);(try clear c17);(try clear c17b0);(try clear c17b1);(try clear c18);(try clear c18b0);(try clear c18b1);(try clear c18b2);(try clear c19);(try clear c19b0);(try clear c20);(try clear c20b0);(try clear c21);(try clear c21b0);(try clear c22);(try clear c22b0);(try clear c23);(try clear c23b0);(try clear c24);(try clear c24b0);(try clear c25);(try clear c25b0);(try clear c26);(try clear c26b0);(try clear c27);(try clear c27b0);obtain⟨kq,x98_6,rfl,HA,HJ6,HB⟩:=hcut;cases kq with
  | zero=>exact absurd HA.out (by simp[cK.j0])
  | succ kj6=>
   have H:=HA.out;clear HA;simp only[cK.j0]at H;by_cases c28:x98_6=true
   ·subst c28;(have H1:(some false)=some r:=by rw[if_pos rfl]at H;exact H);clear H;have H:=H1;clear H1;obtain rfl:=Option.some.inj H;go_wp2
    go_ret
    exact⟨Zq.ew,Zq.bo⟩
   ·replace c28:=Bool.eq_false_iff.mpr c28;subst c28;(have H1:((kK.f t880 t882).bind fun bt891=>((kK.f t881 t882).bind fun bt893=>((fJ.f bt891.1 bt893.1).bind fun bt895=>(if bt891.2=0 then(if bt893.2=0 then(if bt895.2=0 then(cK.j1 kj6 t880 t881 t882 t883 (bt895.1 != t883))else(cK.j1 kj6 t880 t881 t882 t883 true))else(cK.j1 kj6 t880 t881 t882 t883 true))else(cK.j1 kj6 t880 t881 t882 t883 true)))))=some r:=by rw[if_neg (show ¬(false=true) by decide)]at H;exact H);clear H;have H:=H1;clear H1;replace H:=Zq.mp H;obtain⟨⟨t891,t892⟩,A290,H⟩:=H;(try dsimp only at H);have A29:=aA.mk A290;clear A290;replace H:=Zq.mp H;obtain⟨⟨t893,t894⟩,A300,H⟩:=H;(try dsimp only at H);have A30:=aA.mk A300;clear A300;replace H:=Zq.mp H;obtain⟨⟨t895,t896⟩,A310,H⟩:=H;(try dsimp only at H);have A31:=aA.mk A310;clear A310;have HC32:=aA.mk H;clear H
    (go_upto_region 11 with(first|((with_reducible refine Zq.c 43 rfl ?_);refine Zq.g (some 102) Tryz.func43 #[.string t880,.string t882] ?_;(with_reducible refine(kK.calls t880 t882 t891 t892 _ ?gw A29.out).mono ?_);(case gw=>exact HG.out.below Zq.bo);rintro e w33 ⟨rfl,hb⟩;refine⟨_,rfl,?_⟩;replace HB:=aA.mk (aC Zq.bo hb);(try clear hb);(try clear hb2);(try clear hk);(try clear hi))|((with_reducible refine Zq.c 43 rfl ?_);refine Zq.g (some 108) Tryz.func43 #[.string t881,.string t882] ?_;(with_reducible refine(kK.calls t881 t882 t893 t894 _ ?gw A30.out).mono ?_);(case gw=>exact HG.out.below Zq.bo);rintro e w34 ⟨rfl,hb⟩;refine⟨_,rfl,?_⟩;replace HB:=aA.mk (aC Zq.bo hb);(try clear hb);(try clear hb2);(try clear hk);(try clear hi))|((with_reducible refine Zq.c 53 rfl ?_);refine Zq.g (some 114) Tryz.func53 #[.string t891,.string t893] ?_;(with_reducible refine(fJ.calls t891 t893 t895 t896 _ ?gw A31.out).mono ?_);(case gw=>exact HG.out.below Zq.bo);rintro e w35 ⟨rfl,hb⟩;refine⟨_,rfl,?_⟩;replace HB:=aA.mk (aC Zq.bo hb);(try clear hb);(try clear hb2);(try clear hk);(try clear hi))));(try simp only[Act.put,Zq.a1,Zq.a2,Zq.a3])
    go_cut [131] (fun v131 wc=>∃(kq:Nat) (x131_31:Bool),v131 = .bool x131_31/\aA (cK.j1 kq t880 t881 t882 t883 x131_31=some r)/\aA (kq<=kj6)/\aA (Below w.heap.size w wc))
    case first=>
     have H:=HC32.out;clear HC32;by_cases c36:t892=0
     ·rw[if_pos c36]at H;have c36b0:(t892 == 0)=true:=beq_iff_eq.mpr c36;have c36b1:(t892 != 0)=false:=bne_eq_false_iff_eq.mpr c36;clear c36;(first|rw[c36b0]|(simp only[bG,bK];rw[c36b0])|skip);by_cases c37:t894=0
      ·rw[if_pos c37]at H;have c37b0:(t894 == 0)=true:=beq_iff_eq.mpr c37;have c37b1:(t894 != 0)=false:=bne_eq_false_iff_eq.mpr c37;clear c37;by_cases c38:t896=0
       ·rw[if_pos c38]at H;have c38b0:(t896 == 0)=true:=beq_iff_eq.mpr c38;have c38b1:(t896 != 0)=false:=bne_eq_false_iff_eq.mpr c38;clear c38;have H':=aA.mk H;clear H;go_wp2
        go_meet
        case rel=>exact⟨_,((t895 != t883)),Zq.sd,H',⟨by have:=HJ6.out;first|omega|exact Nat.le_refl _⟩,⟨Zq.bo⟩⟩
       ·rw[if_neg c38]at H;have c38b0:(t896 == 0)=false:=beq_eq_false_iff_ne.mpr c38;have c38b1:(t896 != 0)=true:=bne_iff_ne.mpr c38;have H':=aA.mk H;clear H;go_wp2
        go_meet
        case rel=>exact⟨_,(true),Zq.sd,H',⟨by have:=HJ6.out;first|omega|exact Nat.le_refl _⟩,⟨Zq.bo⟩⟩
      ·rw[if_neg c37]at H;have c37b0:(t894 == 0)=false:=beq_eq_false_iff_ne.mpr c37;have c37b1:(t894 != 0)=true:=bne_iff_ne.mpr c37;have H':=aA.mk H;clear H;go_wp2
       go_meet
       case rel=>exact⟨_,(true),Zq.sd,H',⟨by have:=HJ6.out;first|omega|exact Nat.le_refl _⟩,⟨Zq.bo⟩⟩
     ·rw[if_neg c36]at H;have c36b0:(t892 == 0)=false:=beq_eq_false_iff_ne.mpr c36;have c36b1:(t892 != 0)=true:=bne_iff_ne.mpr c36;(first|rw[c36b0]|(simp only[bG,bK];rw[c36b0])|skip);have H':=aA.mk H;clear H;go_wp2
      go_meet
      case rel=>exact⟨_,(true),Zq.sd,H',⟨by have:=HJ6.out;first|omega|exact Nat.le_refl _⟩,⟨Zq.bo⟩⟩
    case rest=>
     clear HC32;(try clear c1);(try clear c2);(try clear p2);(try clear c3);(try clear c4);(try clear c5);(try clear p6);(try clear c13);(try clear c13b0);(try clear c13b1);(try clear c14);(try clear c14b0);(try clear c14b1);(try clear c15);(try clear c15b0);(try clear c15b1);(try clear c16);(try clear c16b0);(try clear c16b1);(try clear c17);(try clear c17b0);(try clear c17b1);(try clear c18);(try clear c18b0);(try clear c18b1);(try clear c18b2);(try clear c19);(try clear c19b0);(try clear c20);(try clear c20b0);(try clear c21);(try clear c21b0);(try clear c22);(try clear c22b0);(try clear c23);(try clear c23b0);(try clear c24);(try clear c24b0);(try clear c25);(try clear c25b0);(try clear c26);(try clear c26b0);(try clear c27);(try clear c27b0);(try clear c28);(try clear c36);(try clear c36b0);(try clear c36b1);(try clear c37);(try clear c37b0);(try clear c37b1);(try clear c38);(try clear c38b0);(try clear c38b1);(try clear p2);(try clear p6);obtain⟨kq,x131_31,rfl,HA,HJ31,HB⟩:=hcut;cases kq with
     | zero=>exact absurd HA.out (by simp[cK.j1])
     | succ kj31=>
      have H:=HA.out;clear HA;simp only[cK.j1]at H;by_cases c39:x131_31=true
      ·subst c39;(have H1:(some false)=some r:=by rw[if_pos rfl]at H;exact H);clear H;have H:=H1;clear H1;obtain rfl:=Option.some.inj H;go_wp2
       go_ret
       exact⟨Zq.ew,Zq.bo⟩
      ·replace c39:=Bool.eq_false_iff.mpr c39;subst c39;(have H1:((aZ.f t882).bind fun t897=>((fG.f kj31 t897 (⟨#[49]⟩:ByteArray)).bind fun t898=>((iV.f t880 t898).bind fun bt899=>((aZ.f t882).bind fun t901=>((fG.f kj31 t901 (⟨#[49]⟩:ByteArray)).bind fun t902=>((iV.f t881 t902).bind fun bt903=>((fJ.f bt899.1 bt903.1).bind fun bt905=>(if bt899.2=0 then(if bt903.2=0 then(if bt905.2=0 then(if bt905.1=t883 then((bY.f).bind fun t907=>(some t907))else(some false))else(some false))else(some false))else(some false)))))))))=some r:=by rw[if_neg (show ¬(false=true) by decide)]at H;exact H);clear H;have H:=H1;clear H1;obtain⟨t897,A40,H⟩:=Zq.mq H;(try dsimp only at H);obtain⟨t898,A41,H⟩:=Zq.mq H;(try dsimp only at H);replace H:=Zq.mp H;obtain⟨⟨t899,t900⟩,A420,H⟩:=H;(try dsimp only at H);have A42:=aA.mk A420;clear A420;obtain⟨t901,A43,H⟩:=Zq.mq H;(try dsimp only at H);obtain⟨t902,A44,H⟩:=Zq.mq H;(try dsimp only at H);replace H:=Zq.mp H;obtain⟨⟨t903,t904⟩,A450,H⟩:=H;(try dsimp only at H);have A45:=aA.mk A450;clear A450;replace H:=Zq.mp H;obtain⟨⟨t905,t906⟩,A460,H⟩:=H;(try dsimp only at H);have A46:=aA.mk A460;clear A460;by_cases c47:t900=0
       ·rw[if_pos c47]at H;have c47b0:(t900 == 0)=true:=beq_iff_eq.mpr c47;have c47b1:(t900 != 0)=false:=bne_eq_false_iff_eq.mpr c47;clear c47;by_cases c48:t904=0
        ·rw[if_pos c48]at H;have c48b0:(t904 == 0)=true:=beq_iff_eq.mpr c48;have c48b1:(t904 != 0)=false:=bne_eq_false_iff_eq.mpr c48;clear c48;by_cases c49:t906=0
         ·rw[if_pos c49]at H;have c49b0:(t906 == 0)=true:=beq_iff_eq.mpr c49;have c49b1:(t906 != 0)=false:=bne_eq_false_iff_eq.mpr c49;clear c49;by_cases c50:t905=t883
          ·rw[if_pos c50]at H;have c50b0:(t905 == t883)=true:=beq_iff_eq.mpr c50;have c50b1:(t905 != t883)=false:=bne_eq_false_iff_eq.mpr c50;clear c50;obtain⟨t907,A51,H⟩:=Zq.mq H;(try dsimp only at H);obtain rfl:=Option.some.inj H
           go_wp2_with (first|((with_reducible refine Zq.c 35 rfl ?_);refine Zq.g (some 135) Tryz.func35 #[.string t882] ?_;(with_reducible refine(aZ.calls t882 t897 _ A40.out).mono ?_);rintro e w' ⟨rfl,nd,rfl⟩;refine⟨_,rfl,?_⟩)|((with_reducible refine Zq.c 32 rfl ?_);refine Zq.g (some 136) Tryz.func32 #[.string t897,.string (⟨#[49]⟩:ByteArray)] ?_;(with_reducible refine(fG.calls kj31 t897 (⟨#[49]⟩:ByteArray) t898 _ A41.out).mono ?_);rintro e w52 ⟨rfl,hb⟩;refine⟨_,rfl,?_⟩;replace HB:=aA.mk (aC Zq.bo hb);(try clear hb);(try clear hb2);(try clear hk);(try clear hi))|((with_reducible refine Zq.c 45 rfl ?_);refine Zq.g (some 137) Tryz.func45 #[.string t880,.string t898] ?_;(with_reducible refine(iV.calls t880 t898 t899 t900 _ ?gw A42.out).mono ?_);(case gw=>exact HG.out.below Zq.bo);rintro e w53 ⟨rfl,hb⟩;refine⟨_,rfl,?_⟩;replace HB:=aA.mk (aC Zq.bo hb);(try clear hb);(try clear hb2);(try clear hk);(try clear hi))|((with_reducible refine Zq.c 35 rfl ?_);refine Zq.g (some 143) Tryz.func35 #[.string t882] ?_;(with_reducible refine(aZ.calls t882 t901 _ A43.out).mono ?_);rintro e w' ⟨rfl,nd,rfl⟩;refine⟨_,rfl,?_⟩)|((with_reducible refine Zq.c 32 rfl ?_);refine Zq.g (some 144) Tryz.func32 #[.string t901,.string (⟨#[49]⟩:ByteArray)] ?_;(with_reducible refine(fG.calls kj31 t901 (⟨#[49]⟩:ByteArray) t902 _ A44.out).mono ?_);rintro e w54 ⟨rfl,hb⟩;refine⟨_,rfl,?_⟩;replace HB:=aA.mk (aC Zq.bo hb);(try clear hb);(try clear hb2);(try clear hk);(try clear hi))|((with_reducible refine Zq.c 45 rfl ?_);refine Zq.g (some 145) Tryz.func45 #[.string t881,.string t902] ?_;(with_reducible refine(iV.calls t881 t902 t903 t904 _ ?gw A45.out).mono ?_);(case gw=>exact HG.out.below Zq.bo);rintro e w55 ⟨rfl,hb⟩;refine⟨_,rfl,?_⟩;replace HB:=aA.mk (aC Zq.bo hb);(try clear hb);(try clear hb2);(try clear hk);(try clear hi))|((with_reducible refine Zq.c 53 rfl ?_);refine Zq.g (some 151) Tryz.func53 #[.string t899,.string t903] ?_;(with_reducible refine(fJ.calls t899 t903 t905 t906 _ ?gw A46.out).mono ?_);(case gw=>exact HG.out.below Zq.bo);rintro e w56 ⟨rfl,hb⟩;refine⟨_,rfl,?_⟩;replace HB:=aA.mk (aC Zq.bo hb);(try clear hb);(try clear hb2);(try clear hk);(try clear hi))|(go_at_call 18;(with_reducible refine(bY.calls t907 _ ?gw A51.out).mono ?_);(case gw=>exact HG.out.below Zq.bo);rintro e w57 ⟨rfl,hb⟩;replace HB:=aA.mk (aC Zq.bo hb);(try clear hb);(try clear hb2);(try clear hk);(try clear hi)))
           go_ret
           exact⟨Zq.ew,Zq.bo⟩
          ·rw[if_neg c50]at H;have c50b0:(t905 == t883)=false:=beq_eq_false_iff_ne.mpr c50;have c50b1:(t905 != t883)=true:=bne_iff_ne.mpr c50;obtain rfl:=Option.some.inj H
           go_wp2_with (first|((with_reducible refine Zq.c 35 rfl ?_);refine Zq.g (some 135) Tryz.func35 #[.string t882] ?_;(with_reducible refine(aZ.calls t882 t897 _ A40.out).mono ?_);rintro e w' ⟨rfl,nd,rfl⟩;refine⟨_,rfl,?_⟩)|((with_reducible refine Zq.c 32 rfl ?_);refine Zq.g (some 136) Tryz.func32 #[.string t897,.string (⟨#[49]⟩:ByteArray)] ?_;(with_reducible refine(fG.calls kj31 t897 (⟨#[49]⟩:ByteArray) t898 _ A41.out).mono ?_);rintro e w58 ⟨rfl,hb⟩;refine⟨_,rfl,?_⟩;replace HB:=aA.mk (aC Zq.bo hb);(try clear hb);(try clear hb2);(try clear hk);(try clear hi))|((with_reducible refine Zq.c 45 rfl ?_);refine Zq.g (some 137) Tryz.func45 #[.string t880,.string t898] ?_;(with_reducible refine(iV.calls t880 t898 t899 t900 _ ?gw A42.out).mono ?_);(case gw=>exact HG.out.below Zq.bo);rintro e w59 ⟨rfl,hb⟩;refine⟨_,rfl,?_⟩;replace HB:=aA.mk (aC Zq.bo hb);(try clear hb);(try clear hb2);(try clear hk);(try clear hi))|((with_reducible refine Zq.c 35 rfl ?_);refine Zq.g (some 143) Tryz.func35 #[.string t882] ?_;(with_reducible refine(aZ.calls t882 t901 _ A43.out).mono ?_);rintro e w' ⟨rfl,nd,rfl⟩;refine⟨_,rfl,?_⟩)|((with_reducible refine Zq.c 32 rfl ?_);refine Zq.g (some 144) Tryz.func32 #[.string t901,.string (⟨#[49]⟩:ByteArray)] ?_;(with_reducible refine(fG.calls kj31 t901 (⟨#[49]⟩:ByteArray) t902 _ A44.out).mono ?_);rintro e w60 ⟨rfl,hb⟩;refine⟨_,rfl,?_⟩;replace HB:=aA.mk (aC Zq.bo hb);(try clear hb);(try clear hb2);(try clear hk);(try clear hi))|((with_reducible refine Zq.c 45 rfl ?_);refine Zq.g (some 145) Tryz.func45 #[.string t881,.string t902] ?_;(with_reducible refine(iV.calls t881 t902 t903 t904 _ ?gw A45.out).mono ?_);(case gw=>exact HG.out.below Zq.bo);rintro e w61 ⟨rfl,hb⟩;refine⟨_,rfl,?_⟩;replace HB:=aA.mk (aC Zq.bo hb);(try clear hb);(try clear hb2);(try clear hk);(try clear hi))|((with_reducible refine Zq.c 53 rfl ?_);refine Zq.g (some 151) Tryz.func53 #[.string t899,.string t903] ?_;(with_reducible refine(fJ.calls t899 t903 t905 t906 _ ?gw A46.out).mono ?_);(case gw=>exact HG.out.below Zq.bo);rintro e w62 ⟨rfl,hb⟩;refine⟨_,rfl,?_⟩;replace HB:=aA.mk (aC Zq.bo hb);(try clear hb);(try clear hb2);(try clear hk);(try clear hi)))
           go_ret
           exact⟨Zq.ew,Zq.bo⟩
         ·rw[if_neg c49]at H;have c49b0:(t906 == 0)=false:=beq_eq_false_iff_ne.mpr c49;have c49b1:(t906 != 0)=true:=bne_iff_ne.mpr c49;obtain rfl:=Option.some.inj H
          go_wp2_with (first|((with_reducible refine Zq.c 35 rfl ?_);refine Zq.g (some 135) Tryz.func35 #[.string t882] ?_;(with_reducible refine(aZ.calls t882 t897 _ A40.out).mono ?_);rintro e w' ⟨rfl,nd,rfl⟩;refine⟨_,rfl,?_⟩)|((with_reducible refine Zq.c 32 rfl ?_);refine Zq.g (some 136) Tryz.func32 #[.string t897,.string (⟨#[49]⟩:ByteArray)] ?_;(with_reducible refine(fG.calls kj31 t897 (⟨#[49]⟩:ByteArray) t898 _ A41.out).mono ?_);rintro e w63 ⟨rfl,hb⟩;refine⟨_,rfl,?_⟩;replace HB:=aA.mk (aC Zq.bo hb);(try clear hb);(try clear hb2);(try clear hk);(try clear hi))|((with_reducible refine Zq.c 45 rfl ?_);refine Zq.g (some 137) Tryz.func45 #[.string t880,.string t898] ?_;(with_reducible refine(iV.calls t880 t898 t899 t900 _ ?gw A42.out).mono ?_);(case gw=>exact HG.out.below Zq.bo);rintro e w64 ⟨rfl,hb⟩;refine⟨_,rfl,?_⟩;replace HB:=aA.mk (aC Zq.bo hb);(try clear hb);(try clear hb2);(try clear hk);(try clear hi))|((with_reducible refine Zq.c 35 rfl ?_);refine Zq.g (some 143) Tryz.func35 #[.string t882] ?_;(with_reducible refine(aZ.calls t882 t901 _ A43.out).mono ?_);rintro e w' ⟨rfl,nd,rfl⟩;refine⟨_,rfl,?_⟩)|((with_reducible refine Zq.c 32 rfl ?_);refine Zq.g (some 144) Tryz.func32 #[.string t901,.string (⟨#[49]⟩:ByteArray)] ?_;(with_reducible refine(fG.calls kj31 t901 (⟨#[49]⟩:ByteArray) t902 _ A44.out).mono ?_);rintro e w65 ⟨rfl,hb⟩;refine⟨_,rfl,?_⟩;replace HB:=aA.mk (aC Zq.bo hb);(try clear hb);(try clear hb2);(try clear hk);(try clear hi))|((with_reducible refine Zq.c 45 rfl ?_);refine Zq.g (some 145) Tryz.func45 #[.string t881,.string t902] ?_;(with_reducible refine(iV.calls t881 t902 t903 t904 _ ?gw A45.out).mono ?_);(case gw=>exact HG.out.below Zq.bo);rintro e w66 ⟨rfl,hb⟩;refine⟨_,rfl,?_⟩;replace HB:=aA.mk (aC Zq.bo hb);(try clear hb);(try clear hb2);(try clear hk);(try clear hi))|((with_reducible refine Zq.c 53 rfl ?_);refine Zq.g (some 151) Tryz.func53 #[.string t899,.string t903] ?_;(with_reducible refine(fJ.calls t899 t903 t905 t906 _ ?gw A46.out).mono ?_);(case gw=>exact HG.out.below Zq.bo);rintro e w67 ⟨rfl,hb⟩;refine⟨_,rfl,?_⟩;replace HB:=aA.mk (aC Zq.bo hb);(try clear hb);(try clear hb2);(try clear hk);(try clear hi)))
          go_ret
          exact⟨Zq.ew,Zq.bo⟩
        ·rw[if_neg c48]at H;have c48b0:(t904 == 0)=false:=beq_eq_false_iff_ne.mpr c48;have c48b1:(t904 != 0)=true:=bne_iff_ne.mpr c48;obtain rfl:=Option.some.inj H
         go_wp2_with (first|((with_reducible refine Zq.c 35 rfl ?_);refine Zq.g (some 135) Tryz.func35 #[.string t882] ?_;(with_reducible refine(aZ.calls t882 t897 _ A40.out).mono ?_);rintro e w' ⟨rfl,nd,rfl⟩;refine⟨_,rfl,?_⟩)|((with_reducible refine Zq.c 32 rfl ?_);refine Zq.g (some 136) Tryz.func32 #[.string t897,.string (⟨#[49]⟩:ByteArray)] ?_;(with_reducible refine(fG.calls kj31 t897 (⟨#[49]⟩:ByteArray) t898 _ A41.out).mono ?_);rintro e w68 ⟨rfl,hb⟩;refine⟨_,rfl,?_⟩;replace HB:=aA.mk (aC Zq.bo hb);(try clear hb);(try clear hb2);(try clear hk);(try clear hi))|((with_reducible refine Zq.c 45 rfl ?_);refine Zq.g (some 137) Tryz.func45 #[.string t880,.string t898] ?_;(with_reducible refine(iV.calls t880 t898 t899 t900 _ ?gw A42.out).mono ?_);(case gw=>exact HG.out.below Zq.bo);rintro e w69 ⟨rfl,hb⟩;refine⟨_,rfl,?_⟩;replace HB:=aA.mk (aC Zq.bo hb);(try clear hb);(try clear hb2);(try clear hk);(try clear hi))|((with_reducible refine Zq.c 35 rfl ?_);refine Zq.g (some 143) Tryz.func35 #[.string t882] ?_;(with_reducible refine(aZ.calls t882 t901 _ A43.out).mono ?_);rintro e w' ⟨rfl,nd,rfl⟩;refine⟨_,rfl,?_⟩)|((with_reducible refine Zq.c 32 rfl ?_);refine Zq.g (some 144) Tryz.func32 #[.string t901,.string (⟨#[49]⟩:ByteArray)] ?_;(with_reducible refine(fG.calls kj31 t901 (⟨#[49]⟩:ByteArray) t902 _ A44.out).mono ?_);rintro e w70 ⟨rfl,hb⟩;refine⟨_,rfl,?_⟩;replace HB:=aA.mk (aC Zq.bo hb);(try clear hb);(try clear hb2);(try clear hk);(try clear hi))|((with_reducible refine Zq.c 45 rfl ?_);refine Zq.g (some 145) Tryz.func45 #[.string t881,.string t902] ?_;(with_reducible refine(iV.calls t881 t902 t903 t904 _ ?gw A45.out).mono ?_);(case gw=>exact HG.out.below Zq.bo);rintro e w71 ⟨rfl,hb⟩;refine⟨_,rfl,?_⟩;replace HB:=aA.mk (aC Zq.bo hb);(try clear hb);(try clear hb2);(try clear hk);(try clear hi))|((with_reducible refine Zq.c 53 rfl ?_);refine Zq.g (some 151) Tryz.func53 #[.string t899,.string t903] ?_;(with_reducible refine(fJ.calls t899 t903 t905 t906 _ ?gw A46.out).mono ?_);(case gw=>exact HG.out.below Zq.bo);rintro e w72 ⟨rfl,hb⟩;refine⟨_,rfl,?_⟩;replace HB:=aA.mk (aC Zq.bo hb);(try clear hb);(try clear hb2);(try clear hk);(try clear hi)))
         go_ret
         exact⟨Zq.ew,Zq.bo⟩
       ·rw[if_neg c47]at H;have c47b0:(t900 == 0)=false:=beq_eq_false_iff_ne.mpr c47;have c47b1:(t900 != 0)=true:=bne_iff_ne.mpr c47;obtain rfl:=Option.some.inj H
        go_wp2_with (first|((with_reducible refine Zq.c 35 rfl ?_);refine Zq.g (some 135) Tryz.func35 #[.string t882] ?_;(with_reducible refine(aZ.calls t882 t897 _ A40.out).mono ?_);rintro e w' ⟨rfl,nd,rfl⟩;refine⟨_,rfl,?_⟩)|((with_reducible refine Zq.c 32 rfl ?_);refine Zq.g (some 136) Tryz.func32 #[.string t897,.string (⟨#[49]⟩:ByteArray)] ?_;(with_reducible refine(fG.calls kj31 t897 (⟨#[49]⟩:ByteArray) t898 _ A41.out).mono ?_);rintro e w73 ⟨rfl,hb⟩;refine⟨_,rfl,?_⟩;replace HB:=aA.mk (aC Zq.bo hb);(try clear hb);(try clear hb2);(try clear hk);(try clear hi))|((with_reducible refine Zq.c 45 rfl ?_);refine Zq.g (some 137) Tryz.func45 #[.string t880,.string t898] ?_;(with_reducible refine(iV.calls t880 t898 t899 t900 _ ?gw A42.out).mono ?_);(case gw=>exact HG.out.below Zq.bo);rintro e w74 ⟨rfl,hb⟩;refine⟨_,rfl,?_⟩;replace HB:=aA.mk (aC Zq.bo hb);(try clear hb);(try clear hb2);(try clear hk);(try clear hi))|((with_reducible refine Zq.c 35 rfl ?_);refine Zq.g (some 143) Tryz.func35 #[.string t882] ?_;(with_reducible refine(aZ.calls t882 t901 _ A43.out).mono ?_);rintro e w' ⟨rfl,nd,rfl⟩;refine⟨_,rfl,?_⟩)|((with_reducible refine Zq.c 32 rfl ?_);refine Zq.g (some 144) Tryz.func32 #[.string t901,.string (⟨#[49]⟩:ByteArray)] ?_;(with_reducible refine(fG.calls kj31 t901 (⟨#[49]⟩:ByteArray) t902 _ A44.out).mono ?_);rintro e w75 ⟨rfl,hb⟩;refine⟨_,rfl,?_⟩;replace HB:=aA.mk (aC Zq.bo hb);(try clear hb);(try clear hb2);(try clear hk);(try clear hi))|((with_reducible refine Zq.c 45 rfl ?_);refine Zq.g (some 145) Tryz.func45 #[.string t881,.string t902] ?_;(with_reducible refine(iV.calls t881 t902 t903 t904 _ ?gw A45.out).mono ?_);(case gw=>exact HG.out.below Zq.bo);rintro e w76 ⟨rfl,hb⟩;refine⟨_,rfl,?_⟩;replace HB:=aA.mk (aC Zq.bo hb);(try clear hb);(try clear hb2);(try clear hk);(try clear hi))|((with_reducible refine Zq.c 53 rfl ?_);refine Zq.g (some 151) Tryz.func53 #[.string t899,.string t903] ?_;(with_reducible refine(fJ.calls t899 t903 t905 t906 _ ?gw A46.out).mono ?_);(case gw=>exact HG.out.below Zq.bo);rintro e w77 ⟨rfl,hb⟩;refine⟨_,rfl,?_⟩;replace HB:=aA.mk (aC Zq.bo hb);(try clear hb);(try clear hb2);(try clear hk);(try clear hi)))
        go_ret
        exact⟨Zq.ew,Zq.bo⟩
def cK.Pure:Prop:=∀(l0:List Int),l0.length<=maxLen->l0.length*8<=140737488351232->(∀x ∈ l0,(Lit.int .i64 x).wf=true)->∃k,cK.f k l0=some true
theorem cK.walk (P:cK.Pure) (a0:Option Addr) (len0 cap0:Nat) (z0:List Int) (w:World) (hG:Gw w) (w0:(a0=none/\len0=0/\cap0=0/\z0=[])\/∃x,a0=some x/\len0<=cap0/\cap0<=maxLen/\z0.length=cap0/\(∀i,i<z0.length->w.cell? (x.add i)=some (.int .i64 (z0.getD i 0)))/\∀n ∈ z0,(Lit.int .i64 n).wf=true) (y0:len0*8<=140737488351232):
 Calls Tryz.prog 13 #[.slice a0 len0 cap0] w fun e w'=>e = .returned (.bool true)/\Below w.heap.size w w':=by
 obtain⟨l0,rfl,hr0,hm0,hw0,hc0⟩:=kX.yI w0;obtain⟨k,h⟩:=P l0 hm0 y0 hw0;refine(cK.calls k _ _ l0 true w (Kd.lS (d:=(0:Int)) (h1:=fun _=>rfl) hr0) hc0 hG h).mono ?_;rintro e w' ⟨rfl,hd⟩;exact⟨rfl,hd⟩
end Go.Proofs.YtjieekkkaekclaaGreatDoor.PR
namespace Go.Proofs.YtjieekkkaekclaaGreatDoor
open Go Go.RowKit Go.Pw.PrintWords Go.Proofs.YtjieekkkaekclaaGreatDoor.PR
theorem oD (a b:Int):(gV a b = -1/\a<b)\/(gV a b=0/\a=b)\/(gV a b=1/\b<a):=by
 unfold gV;by_cases h1:a<b;·rw[if_pos h1];omega
 ·rw[if_neg h1];by_cases h2:b<a;(·rw[if_pos h2];omega);·rw[if_neg h2];omega
theorem aIB (a b:Int):gV b a = -gV a b:=by rcases oD a b with⟨h,h'⟩|⟨h,h'⟩|⟨h,h'⟩<;>rcases oD b a with⟨g,g'⟩|⟨g,g'⟩|⟨g,g'⟩<;>omega
theorem aKn (a b c:Int):gV (a+c) (b+c)=gV a b:=by rcases oD a b with⟨h,h'⟩|⟨h,h'⟩|⟨h,h'⟩<;>rcases oD (a+c) (b+c)with⟨g,g'⟩|⟨g,g'⟩|⟨g,g'⟩<;>omega
theorem aKm (a b p:Int) (hp:0<p):gV (a*p) (b*p)=gV a b:=by
 rcases oD a b with⟨h,h'⟩|⟨h,h'⟩|⟨h,h'⟩;·have:=Int.mul_lt_mul_of_pos_right h' hp;rcases oD (a*p) (b*p)with⟨g,g'⟩|⟨g,g'⟩|⟨g,g'⟩<;>omega
 ·subst h';rcases oD (a*p) (a*p)with⟨g,g'⟩|⟨g,g'⟩|⟨g,g'⟩<;>omega
 ·have:=Int.mul_lt_mul_of_pos_right h' hp;rcases oD (a*p) (b*p)with⟨g,g'⟩|⟨g,g'⟩|⟨g,g'⟩<;>omega
theorem aGQ:cK.Pure:=by
 intro l _ _ _;refine EvP.rounds (g:=fun k=>cK.f k l) ?_;obtain⟨a,b,c,he,za,zb,zc⟩:=aCV l;have up:∀{n:Int} {L M:Nat},Mw.Sz L n->L<=M->Mw.Sz M n:=fun h hl=>h.mono hl
 have zp:Mw.Sz 31 ((c.natAbs:Int)+1):=(zc.of_le (by rw[Int.natAbs_natCast];exact Nat.le_refl _)).add (qO (by omega));have hp:(0:Int)<(c.natAbs:Int)+1:=by omega
 have e1:=wU (up za (show 30<=400 by omega)) (up zb (show 30<=400 by omega));have e2:=wU (up zb (show 30<=400 by omega)) (up za (show 30<=400 by omega));have e3:=wU (up zb (show 30<=400 by omega)) (up zc (show 30<=400 by omega));have e4:=wU (up za (show 30<=400 by omega)) (up zc (show 30<=400 by omega));rw[aIB]at e2;have f1:=aJ9 (up za (show 30<=390 by omega)) (up zc (show 30<=390 by omega));have f2:=aJ9 (up zb (show 30<=390 by omega)) (up zc (show 30<=390 by omega));have f3:=wU (up (za.add zc) (show 31<=400 by omega)) (up (zb.add zc) (show 31<=400 by omega));rw[aKn]at f3;have g1:=aJ5 (up za (show 30<=200 by omega)) (up zp (show 31<=200 by omega));have g2:=aJ5 (up zb (show 30<=200 by omega)) (up zp (show 31<=200 by omega));have g3:=wU (up (za.mul zp) (show 61<=400 by omega)) (up (zb.mul zp) (show 61<=400 by omega));rw[aKm _ _ _ hp]at g3;have hplus:=rH (c.natAbs:Int) 1 (L:=30) (zc.of_le (by rw[Int.natAbs_natCast];exact Nat.le_refl _)) (qO (by omega)) (by omega) (by omega)
 have h1:EvP (fun k=>cK.j1 k (Mw.T a) (Mw.T b) (Mw.T c) (gV a b) false) true:=by refine EvP.step (f:=fun k=>(fG.f k (Mw.T (c.natAbs:Int)) (Mw.T 1)).bind fun t898=>(iV.f (Mw.T a) t898).bind fun bt899=>(fG.f k (Mw.T (c.natAbs:Int)) (Mw.T 1)).bind fun t902=>(iV.f (Mw.T b) t902).bind fun bt903=>(fJ.f bt899.1 bt903.1).bind fun bt905=>if bt899.2=0 then(if bt903.2=0 then(if bt905.2=0 then(if bt905.1=gV a b then some true else some false)else some false)else some false)else some false) (fun k=>?_) ?_;(·simp only[cK.j1,lL,zI,vZ,jS,Option.bind_some,Bool.false_eq_true,if_false]);·refine EvP.bind hplus ?_;rw[g1];refine EvP.bind (EvP.now _) (EvP.bind hplus ?_);rw[g2];refine EvP.bind (EvP.now _) ?_;dsimp only;rw[g3];exact EvP.bind (EvP.now _) (EvP.fM rfl (EvP.fM rfl (EvP.fM rfl (EvP.fM rfl (EvP.now _)))))
 have h0:EvP (fun k=>cK.j0 k (Mw.T a) (Mw.T b) (Mw.T c) (gV a b) false) true:=by refine EvP.step (fun k=>?_) h1;simp only[cK.j0,f1,f2,f3,Option.bind_some,if_true,bne_self_eq_false,Bool.false_eq_true,if_false]
 unfold cK.f;refine EvP.bind he ?_;dsimp only;refine EvP.congr (f:=fun k=>cK.j0 k (Mw.T a) (Mw.T b) (Mw.T c) (gV a b) false) (fun k=>?_) h0;have hw:wrap64 (- -gV a b)=gV a b:=by rw[eT (by rcases oD a b with h|h|h<;>omega) (by rcases oD a b with h|h|h<;>omega)];omega
 have heq:((gV a b == 0) != ((Mw.T a).toList == (Mw.T b).toList))=false:=by rw[zM,zM];rcases oD a b with⟨h,h'⟩|⟨h,h'⟩|⟨h,h'⟩;(·(have:(Mw.jF a == Mw.jF b)=false:=by rw[beq_eq_false_iff_ne];intro e;have:=Mw.nI e;omega);rw[h,this];rfl);(·subst h';rw[h];simp);·(have:(Mw.jF a == Mw.jF b)=false:=by rw[beq_eq_false_iff_ne];intro e;have:=Mw.nI e;omega);rw[h,this];rfl
 simp only[e1,e2,e3,e4,Option.bind_some,if_true,hw,heq,Bool.false_eq_true,if_false];rcases oD a b with⟨h,h'⟩|⟨h,h'⟩|⟨h,h'⟩<;>rcases oD b c with⟨g,g'⟩|⟨g,g'⟩|⟨g,g'⟩<;>rcases oD a c with⟨q,q'⟩|⟨q,q'⟩|⟨q,q'⟩<;>first|(exfalso;omega)|(rw[h,g,q];rfl)
end Go.Proofs.YtjieekkkaekclaaGreatDoor
namespace Go.Proofs.YtjieekkkaekclaaGreatDoor.sJ
open Go Go.ChangeShapes Go.WideShapes Go.ChangeAt Go.RowKit
open Go.ChangeMaps (open_string shut_string)
theorem laidOut:laidOutB Tryz.prog=true:=by kernel_rfl
def uF (k:IntKind) (w:World) (a:Option Addr) (len cap:Nat) (zs:List Int):Prop:=
 (a=none/\len=0/\cap=0/\zs=[])\/
 ∃x,a=some x/\len<=cap/\cap<=maxLen/\zs.length=cap/\(∀i,i<zs.length->w.cell? (x.add i)=some (.int k (zs.getD i 0)))/\∀n ∈ zs,(Lit.int k n).wf=true
theorem mP (os:Os) (args:Array Value):laidMetH Tryz.prog Rows.wholeOrderRow.laid ((World.doorLaid Tryz.prog 69 os).forCall (fun _ _=>0) ⟨#[],args,[]⟩).memory:=
 laidMetH_of_parts3 (fuel:=8) (laidMet_of_run' 8 (by kernel_rfl) (by kernel_rfl)) (by kernel_rfl) (by kernel_rfl)
theorem lifted (os:Os) (started:os.Started) (H:Type) (enc:TypeId×Value->H):
 ReturnsInHanded {} Tryz.checked os 13 .any (fun w args=>(Rows.wholeOrderSpec.pre enc Tryz.prog Tryz.f13 [] false w args/\laidMetH Tryz.prog Rows.wholeOrderRow.laid w)/\sizedMet enc Tryz.prog Tryz.f13 (OpenSpec.ofChange Rows.wholeOrderSpec) false w args) (Rows.wholeOrderSpec.post enc Tryz.prog Tryz.f13 false true false false):=by
 refine returnsInHanded_of_change_and (C:=Tryz.checked) (X:=fun w _=>laidMetH Tryz.prog Rows.wholeOrderRow.laid w) (fun _ _ _ hh h=>h.of_heap hh) sU started (by kernel_rfl) Tryz.func13 ?witness ?_;case witness=>exact ChangeSpec.witness_shaped (enc:=enc) (C:=Tryz.checked) (os:=os) (X:=fun w _=>laidMetH Tryz.prog Rows.wholeOrderRow.laid w) false (World.doorLaid Tryz.prog 69 os) #[.slice none 0 0] 8 rfl (World.shaped_of_RefB (by kernel_rfl) (by kernel_rfl)) (by kernel_rfl) (by kernel_rfl) (by kernel_rfl) (mP os _)
 intro W base args ds gs before hval0 hW hcnd hsz0 hL _;have hsz:(DataW.weightsEach Tryz.prog (Tryz.f13.params.toList++Rows.wholeOrderSpec.plain.varTypes Tryz.prog) (ds++gs)).all (·<=reachBytes)=true:=hsz0;have hval:∀(j:Nat) t v,Tryz.f13.params[j]?=some t->args[j]?=some v->Value.okWide Tryz.prog W .any base t v:=hval0;have hW':=hW;obtain⟨p,q,hA0,hV,rfl,hfz,hnd⟩:=hW;have hA:DataW.TrodAll enc Tryz.prog W 0 (fun _=>true) true Tryz.f13.params.toList args.toList ds p:=hA0;rw[Tryz.params13]at hA hval hsz;obtain⟨v0,vs0,d0,ds0,p0,q0,hargs,rfl,rfl,h0,r0⟩:=trodAll_cons hA;obtain⟨rfl,rfl,rfl⟩:=trodAll_nil r0;obtain rfl:args=#[v0]:=by cases args;simp_all
 obtain⟨rfl,rfl⟩:=trodVars_none hV;obtain⟨a0,len0,cap0,rfl⟩:=okWide_slice Tryz.underlying22 (hval 0 22 v0 rfl rfl);have k0:=h0;have lt0:∀x ∈ p0,x.block<W.heap.size:=by obtain⟨m,hm⟩:=k0;exact DataW.trod_lt m _ _ _ hm
 obtain⟨z0,w0⟩:∃zs,uF .i64 W a0 len0 cap0 zs:=by obtain⟨fuel,hf⟩:=h0;rcases open_ints Tryz.underlying22 Tryz.underlying3 (by kernel_rfl) hf with⟨hcs,_⟩|⟨x,l,c,zs,hcs,_,hl,hm,hz,_,hcell,hwz⟩;(·simp[Value.cells]at hcs;obtain⟨rfl,rfl,rfl⟩:=hcs;exact⟨[],.inl ⟨rfl,rfl,rfl,rfl⟩⟩);·simp[Value.cells]at hcs;obtain⟨rfl,rfl,rfl⟩:=hcs;exact⟨zs,.inr ⟨_,rfl,hl,hm,by simpa using hz,hcell,hwz⟩⟩
 have y0:len0*8<=140737488351232:=Go.Pw.PrintWords.pW hsz (j:=0) (t:=22) rfl rfl Tryz.underlying22 Tryz.underlying3 (by kernel_rfl) (by kernel_rfl) h0;clear hA0 hval0 hsz0 hsz;refine(PR.cK.walk aGQ a0 len0 cap0 z0 W ⟨oJ hL,oI hL⟩ w0 y0).mono fun e W' ⟨he,bel⟩=>?_
 subst he;exact⟨_,rfl,_,_,_,[],_,[],hW',trodAll_mk1 (shut_bool Tryz.underlying4 _),(trodAll_cons_mk (Below.trod laidOut (by kernel_rfl) (of_decide_eq_true (by kernel_rfl)) k0 bel lt0) trodAll_mk0),rfl,bel.frame _,fun h=>by cases h⟩
theorem leaving (os:Os) (started:os.Started) (H:Type) (enc:TypeId×Value->H):
 ReturnsInLeavingWide {} Tryz.checked os 13 .any (fun w args=>(Rows.wholeOrderSpec.pre enc Tryz.prog Tryz.f13 [] false w args/\laidMetH Tryz.prog Rows.wholeOrderRow.laid w)/\sizedMet enc Tryz.prog Tryz.f13 (OpenSpec.ofChange Rows.wholeOrderSpec) false w args) (Rows.wholeOrderSpec.post enc Tryz.prog Tryz.f13 false true false false):=fun enter=>
 ReturnsInOpen.mono (fun _ _ _ h=>⟨h.2.1,mU h.1,h.2.2⟩) (fun _ x=>x) (lifted os started H enc enter)
theorem closed:joinedFacts Tryz.pinned.checked.prog 13 Tryz.f13 Rows.wholeOrderSpec Rows.wholeOrderRow=true:=by
 unfold joinedFacts;simp only[Bool.and_eq_true]
 repeat' apply And.intro
 all_goals (as_aux_lemma=>kernel_rfl)
theorem named:Tryz.pinned.checked.prog.funcNamed Rows.wholeOrderRow.func=some 13:=by kernel_rfl
theorem inst:Tryz.f13.isInstance Tryz.pinned.checked.prog Rows.wholeOrderRow.origin Rows.wholeOrderRow.targs:=of_decide_eq_true (by kernel_rfl)
theorem wrap:Tryz.f13.isWrapper Tryz.pinned.checked.prog Rows.wholeOrderRow.wrapper Rows.wholeOrderRow.mainSum:=by unfold Func.isWrapper;first|(rw[if_pos (by decide +kernel)];kernel_rfl)|(rw[if_neg (by decide +kernel)];exact⟨rfl,rfl⟩)
theorem proved:Rows.WholeOrderSaid:=
 OpenClaim.holds_of_wide_leaving 13 Tryz.f13 rfl rfl rfl rfl rfl rfl rfl ⟨rfl,rfl,rfl,rfl,rfl⟩ rfl rfl rfl rfl rfl named Tryz.func13 closed inst wrap
  (fun os started H enc _=>leaving os started H enc)
end Go.Proofs.YtjieekkkaekclaaGreatDoor.sJ
namespace Go.Proofs.YtjieekkkaekclaaGreatDoor
open Go
theorem sJ.goes:true=Rows.wholeOrderRow.goesBy Tryz.pinned.checked.prog:=by kernel_rfl
theorem sJ.wf:Rows.wholeOrderRow.wfByText (OpenSpec.ofChange Rows.wholeOrderSpec)=true:=by kernel_rfl
theorem sJ.stand:∀t ∈ Tryz.f13.params,Tryz.pinned.checked.prog.wantsStandIn t=false:=by
 have h:(Tryz.f13.params.toList.all fun t=>!Tryz.pinned.checked.prog.wantsStandIn t)=true:=by kernel_rfl
 intro t ht;have:=List.all_eq_true.mp h t (Array.mem_toList_iff.mpr ht);simpa using this
theorem wholeOrder_card_holds:Rows.WholeOrderCardSaid:=
 Claim7.lF .later [.data,.data,.data,.handle,.sentinel,.sentinel] true (true,"94bbee997c0a39bb4bce0e5287243f0f552a32c829e9b04cf75d7dfa1f5bfa40") true true
  sJ.proved sJ.wf wholeOrder_row_tie rfl ⟨rfl,rfl⟩ qR rfl
  (fun f fn hf hfn=>by obtain rfl:f=13:=Option.some.inj (hf.symm.trans sJ.named);obtain rfl:fn=Tryz.f13:=(Option.some.inj (Tryz.func13.symm.trans hfn)).symm;exact⟨pY,fun j t ht=>sJ.stand t (Array.mem_of_getElem? ht)⟩)
  sJ.goes
end Go.Proofs.YtjieekkkaekclaaGreatDoor
