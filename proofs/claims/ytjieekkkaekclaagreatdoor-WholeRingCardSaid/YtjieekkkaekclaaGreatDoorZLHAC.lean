/- Proved: WholeRing. Conditions: none beyond the statement's own. -/
import Derived.Test.YtjieekkkaekclaaGreatDoorCards
import Derived.Test.YtjieekkkaekclaaGreatDoorTie
import Derived.Test.YtjieekkkaekclaaGreatDoorZBAD
import Derived.Test.YtjieekkkaekclaaGreatDoorZBAT
import Derived.Test.YtjieekkkaekclaaGreatDoorZBAY
import Derived.Test.YtjieekkkaekclaaGreatDoorZLHAB
import Derived.Below
import Derived.ChangeOld
import Derived.OpenShut
import Derived.ProofKit
import Derived.ShutString
import Derived.SizedLaws
import Derived.WalkKit
set_option linter.all false
set_option linter.unusedVariables false
set_option linter.unusedSimpArgs false
set_option maxHeartbeats 32000000
set_option maxRecDepth 100000
namespace Go.Proofs.YtjieekkkaekclaaGreatDoor.PR
open Go.RowKit Go.Pw.PrintWords Go.Pw.PrintLast Go.Pw.PrintMore
attribute [local go_sem] eG dZ fE fD dM dL eF dY
mutual
def aND.j0:Nat->ByteArray->ByteArray->ByteArray->ByteArray->Bool->Option (Bool)
 | 0,_,_,_,_,_=>none
 | k+1,x3,x4,x5,x10,x102=>if x102=true then(some false)else((iV.f x3 x4).bind fun bt724=>((iV.f x4 x3).bind fun bt726=>((iV.f x4 x5).bind fun bt728=>((iV.f bt724.1 x5).bind fun bt730=>((iV.f x3 bt728.1).bind fun bt732=>(if bt724.2=0 then(if bt726.2=0 then(if bt728.2=0 then(if bt730.2=0 then(if bt732.2=0 then(if bt724.1.toList=bt726.1.toList then(aND.j1 k x3 x5 x10 bt724.1 (bt730.1.toList != bt732.1.toList))else(aND.j1 k x3 x5 x10 bt724.1 true))else(aND.j1 k x3 x5 x10 bt724.1 true))else(aND.j1 k x3 x5 x10 bt724.1 true))else(aND.j1 k x3 x5 x10 bt724.1 true))else(aND.j1 k x3 x5 x10 bt724.1 true))else(aND.j1 k x3 x5 x10 bt724.1 true)))))))
def aND.j1:Nat->ByteArray->ByteArray->ByteArray->ByteArray->Bool->Option (Bool)
 | 0,_,_,_,_,_=>none
 | k+1,x3,x5,x10,x18,x160=>if x160=true then(some false)else((iV.f x3 x5).bind fun bt734=>((iV.f x3 x10).bind fun bt736=>((kK.f x18 bt734.1).bind fun bt738=>(if bt734.2=0 then(if bt736.2=0 then(if bt738.2=0 then(if bt736.1.toList=bt738.1.toList then((bY.f).bind fun t740=>(some t740))else(some false))else(some false))else(some false))else(some false)))))
end
def aND.f (k:Nat) (l0:List Int):Option (Bool):=(nZ.f k l0).bind fun bt709=>((kK.f bt709.1 bt709.2.1).bind fun bt712=>((kK.f bt709.2.1 bt709.1).bind fun bt714=>((kK.f bt709.2.1 bt709.2.2).bind fun bt716=>((kK.f bt712.1 bt709.2.2).bind fun bt718=>((kK.f bt709.1 bt716.1).bind fun bt720=>((pO.f bt712.1 bt709.2.1).bind fun bt722=>(if bt712.2=0 then(if bt714.2=0 then(if bt716.2=0 then(if bt718.2=0 then(if bt720.2=0 then(if bt722.2=0 then(if bt712.1.toList=bt714.1.toList then(if bt718.1.toList=bt720.1.toList then(aND.j0 k bt709.1 bt709.2.1 bt709.2.2 bt716.1 (bt722.1.toList != bt709.1.toList))else(aND.j0 k bt709.1 bt709.2.1 bt709.2.2 bt716.1 true))else(aND.j0 k bt709.1 bt709.2.1 bt709.2.2 bt716.1 true))else(aND.j0 k bt709.1 bt709.2.1 bt709.2.2 bt716.1 true))else(aND.j0 k bt709.1 bt709.2.1 bt709.2.2 bt716.1 true))else(aND.j0 k bt709.1 bt709.2.1 bt709.2.2 bt716.1 true))else(aND.j0 k bt709.1 bt709.2.1 bt709.2.2 bt716.1 true))else(aND.j0 k bt709.1 bt709.2.1 bt709.2.2 bt716.1 true))else(aND.j0 k bt709.1 bt709.2.1 bt709.2.2 bt716.1 true))))))))
theorem aND.calls (k:Nat) (A0:Option Addr) (c0:Nat) (l0:List Int) (r:Bool) (w:World) (hr0:Kd.C (Kd.int .i64) w A0 l0.length l0) (hc0:l0.length<=c0) (hG:Gw w) (h:aND.f k l0=some r):
 Calls Tryz.prog 10 #[.slice A0 l0.length c0] w fun e w'=>e = .returned (.bool r)/\Below w.heap.size w w':=by
 have HG:=aA.mk hG;clear hG;have HR0:=aA.mk hr0;have HC0:=aA.mk hc0;clear hr0 hc0;have HB:=aA.mk (Below.refl w.heap.size w);have H:((nZ.f k l0).bind fun bt709=>((kK.f bt709.1 bt709.2.1).bind fun bt712=>((kK.f bt709.2.1 bt709.1).bind fun bt714=>((kK.f bt709.2.1 bt709.2.2).bind fun bt716=>((kK.f bt712.1 bt709.2.2).bind fun bt718=>((kK.f bt709.1 bt716.1).bind fun bt720=>((pO.f bt712.1 bt709.2.1).bind fun bt722=>(if bt712.2=0 then(if bt714.2=0 then(if bt716.2=0 then(if bt718.2=0 then(if bt720.2=0 then(if bt722.2=0 then(if bt712.1.toList=bt714.1.toList then(if bt718.1.toList=bt720.1.toList then(aND.j0 k bt709.1 bt709.2.1 bt709.2.2 bt716.1 (bt722.1.toList != bt709.1.toList))else(aND.j0 k bt709.1 bt709.2.1 bt709.2.2 bt716.1 true))else(aND.j0 k bt709.1 bt709.2.1 bt709.2.2 bt716.1 true))else(aND.j0 k bt709.1 bt709.2.1 bt709.2.2 bt716.1 true))else(aND.j0 k bt709.1 bt709.2.1 bt709.2.2 bt716.1 true))else(aND.j0 k bt709.1 bt709.2.1 bt709.2.2 bt716.1 true))else(aND.j0 k bt709.1 bt709.2.1 bt709.2.2 bt716.1 true))else(aND.j0 k bt709.1 bt709.2.1 bt709.2.2 bt716.1 true))else(aND.j0 k bt709.1 bt709.2.1 bt709.2.2 bt716.1 true)))))))))=some r:=h;clear h;replace H:=Zq.mp H;obtain⟨⟨t709,t710,t711⟩,A20,H⟩:=H;try dsimp only at H
 have A2:=aA.mk A20;clear A20;replace H:=Zq.mp H;obtain⟨⟨t712,t713⟩,A30,H⟩:=H;try dsimp only at H
 have A3:=aA.mk A30;clear A30;replace H:=Zq.mp H;obtain⟨⟨t714,t715⟩,A40,H⟩:=H;try dsimp only at H
 have A4:=aA.mk A40;clear A40;replace H:=Zq.mp H;obtain⟨⟨t716,t717⟩,A50,H⟩:=H;try dsimp only at H
 have A5:=aA.mk A50;clear A50;replace H:=Zq.mp H;obtain⟨⟨t718,t719⟩,A60,H⟩:=H;try dsimp only at H
 have A6:=aA.mk A60;clear A60;replace H:=Zq.mp H;obtain⟨⟨t720,t721⟩,A70,H⟩:=H;try dsimp only at H
 have A7:=aA.mk A70;clear A70;replace H:=Zq.mp H;obtain⟨⟨t722,t723⟩,A80,H⟩:=H;try dsimp only at H
 have A8:=aA.mk A80;clear A80;have HC9:=aA.mk H;clear H;go_enter Tryz.func10,Tryz.ntmps10
 go_upto_region 8 with(first|((with_reducible refine Zq.c 42 rfl ?_);refine Zq.g (some 26) Tryz.func42 #[.slice A0 l0.length c0] ?_;(with_reducible refine(nZ.calls k _ _ l0 t709 t710 t711 _ ?side1 ?side2 A2.out).mono ?_);(case side1=>exact Zq.ca HR0.out);(case side2=>exact HC0.out);rintro e w10 ⟨rfl,hb⟩;refine⟨_,rfl,?_⟩;replace HB:=aA.mk (aC Zq.bo hb);(try clear hb);(try clear hb2);(try clear hk);(try clear hi))|((with_reducible refine Zq.c 43 rfl ?_);refine Zq.g (some 33) Tryz.func43 #[.string t709,.string t710] ?_;(with_reducible refine(kK.calls t709 t710 t712 t713 _ ?gw A3.out).mono ?_);(case gw=>exact HG.out.below Zq.bo);rintro e w11 ⟨rfl,hb⟩;refine⟨_,rfl,?_⟩;replace HB:=aA.mk (aC Zq.bo hb);(try clear hb);(try clear hb2);(try clear hk);(try clear hi))|((with_reducible refine Zq.c 43 rfl ?_);refine Zq.g (some 39) Tryz.func43 #[.string t710,.string t709] ?_;(with_reducible refine(kK.calls t710 t709 t714 t715 _ ?gw A4.out).mono ?_);(case gw=>exact HG.out.below Zq.bo);rintro e w12 ⟨rfl,hb⟩;refine⟨_,rfl,?_⟩;replace HB:=aA.mk (aC Zq.bo hb);(try clear hb);(try clear hb2);(try clear hk);(try clear hi))|((with_reducible refine Zq.c 43 rfl ?_);refine Zq.g (some 45) Tryz.func43 #[.string t710,.string t711] ?_;(with_reducible refine(kK.calls t710 t711 t716 t717 _ ?gw A5.out).mono ?_);(case gw=>exact HG.out.below Zq.bo);rintro e w13 ⟨rfl,hb⟩;refine⟨_,rfl,?_⟩;replace HB:=aA.mk (aC Zq.bo hb);(try clear hb);(try clear hb2);(try clear hk);(try clear hi))|((with_reducible refine Zq.c 43 rfl ?_);refine Zq.g (some 51) Tryz.func43 #[.string t712,.string t711] ?_;(with_reducible refine(kK.calls t712 t711 t718 t719 _ ?gw A6.out).mono ?_);(case gw=>exact HG.out.below Zq.bo);rintro e w14 ⟨rfl,hb⟩;refine⟨_,rfl,?_⟩;replace HB:=aA.mk (aC Zq.bo hb);(try clear hb);(try clear hb2);(try clear hk);(try clear hi))|((with_reducible refine Zq.c 43 rfl ?_);refine Zq.g (some 57) Tryz.func43 #[.string t709,.string t716] ?_;(with_reducible refine(kK.calls t709 t716 t720 t721 _ ?gw A7.out).mono ?_);(case gw=>exact HG.out.below Zq.bo);rintro e w15 ⟨rfl,hb⟩;refine⟨_,rfl,?_⟩;replace HB:=aA.mk (aC Zq.bo hb);(try clear hb);(try clear hb2);(try clear hk);(try clear hi))|((with_reducible refine Zq.c 44 rfl ?_);refine Zq.g (some 63) Tryz.func44 #[.string t712,.string t710] ?_;(with_reducible refine(pO.calls t712 t710 t722 t723 _ ?gw A8.out).mono ?_);(case gw=>exact HG.out.below Zq.bo);rintro e w16 ⟨rfl,hb⟩;refine⟨_,rfl,?_⟩;replace HB:=aA.mk (aC Zq.bo hb);(try clear hb);(try clear hb2);(try clear hk);(try clear hi)))
 (try simp only[Act.put,Zq.a1,Zq.a2,Zq.a3])
 go_cut [102] (fun v102 wc=>∃(kq:Nat) (x102_8:Bool),v102 = .bool x102_8/\aA (aND.j0 kq t709 t710 t711 t716 x102_8=some r)/\aA (kq<=k)/\aA (Below w.heap.size w wc))
 case first=>
  have H:=HC9.out;clear HC9;by_cases c17:t713=0
  ·rw[if_pos c17]at H;have c17b0:(t713 == 0)=true:=beq_iff_eq.mpr c17;have c17b1:(t713 != 0)=false:=bne_eq_false_iff_eq.mpr c17;clear c17;(first|rw[c17b0]|(simp only[bG,bK];rw[c17b0])|skip);by_cases c18:t715=0
   ·rw[if_pos c18]at H;have c18b0:(t715 == 0)=true:=beq_iff_eq.mpr c18;have c18b1:(t715 != 0)=false:=bne_eq_false_iff_eq.mpr c18;clear c18;by_cases c19:t717=0
    ·rw[if_pos c19]at H;have c19b0:(t717 == 0)=true:=beq_iff_eq.mpr c19;have c19b1:(t717 != 0)=false:=bne_eq_false_iff_eq.mpr c19;clear c19;by_cases c20:t719=0
     ·rw[if_pos c20]at H;have c20b0:(t719 == 0)=true:=beq_iff_eq.mpr c20;have c20b1:(t719 != 0)=false:=bne_eq_false_iff_eq.mpr c20;clear c20;by_cases c21:t721=0
      ·rw[if_pos c21]at H;have c21b0:(t721 == 0)=true:=beq_iff_eq.mpr c21;have c21b1:(t721 != 0)=false:=bne_eq_false_iff_eq.mpr c21;clear c21;by_cases c22:t723=0
       ·rw[if_pos c22]at H;have c22b0:(t723 == 0)=true:=beq_iff_eq.mpr c22;have c22b1:(t723 != 0)=false:=bne_eq_false_iff_eq.mpr c22;clear c22;by_cases c23:t712.toList=t714.toList
        ·rw[if_pos c23]at H;have c23b0:(t712.toList == t714.toList)=true:=beq_iff_eq.mpr c23;have c23b1:(t712.toList != t714.toList)=false:=bne_eq_false_iff_eq.mpr c23;clear c23;by_cases c24:t718.toList=t720.toList
         ·rw[if_pos c24]at H;have c24b0:(t718.toList == t720.toList)=true:=beq_iff_eq.mpr c24;have c24b1:(t718.toList != t720.toList)=false:=bne_eq_false_iff_eq.mpr c24;clear c24;have H':=aA.mk H;clear H;go_wp2
          go_meet
          case rel=>exact⟨_,((t722.toList != t709.toList)),Zq.sd,H',⟨by first|omega|exact Nat.le_refl _⟩,⟨Zq.bo⟩⟩
         ·rw[if_neg c24]at H;have c24b0:(t718.toList == t720.toList)=false:=beq_eq_false_iff_ne.mpr c24;have c24b1:(t718.toList != t720.toList)=true:=bne_iff_ne.mpr c24;have H':=aA.mk H;clear H;go_wp2
          go_meet
          case rel=>exact⟨_,(true),Zq.sd,H',⟨by first|omega|exact Nat.le_refl _⟩,⟨Zq.bo⟩⟩
        ·rw[if_neg c23]at H;have c23b0:(t712.toList == t714.toList)=false:=beq_eq_false_iff_ne.mpr c23;have c23b1:(t712.toList != t714.toList)=true:=bne_iff_ne.mpr c23;have H':=aA.mk H;clear H;go_wp2
         go_meet
         case rel=>exact⟨_,(true),Zq.sd,H',⟨by first|omega|exact Nat.le_refl _⟩,⟨Zq.bo⟩⟩
       ·rw[if_neg c22]at H;have c22b0:(t723 == 0)=false:=beq_eq_false_iff_ne.mpr c22;have c22b1:(t723 != 0)=true:=bne_iff_ne.mpr c22;have H':=aA.mk H;clear H;go_wp2
        go_meet
        case rel=>exact⟨_,(true),Zq.sd,H',⟨by first|omega|exact Nat.le_refl _⟩,⟨Zq.bo⟩⟩
      ·rw[if_neg c21]at H;have c21b0:(t721 == 0)=false:=beq_eq_false_iff_ne.mpr c21;have c21b1:(t721 != 0)=true:=bne_iff_ne.mpr c21;have H':=aA.mk H;clear H;go_wp2
       go_meet
       case rel=>exact⟨_,(true),Zq.sd,H',⟨by first|omega|exact Nat.le_refl _⟩,⟨Zq.bo⟩⟩
     ·rw[if_neg c20]at H;have c20b0:(t719 == 0)=false:=beq_eq_false_iff_ne.mpr c20;have c20b1:(t719 != 0)=true:=bne_iff_ne.mpr c20;have H':=aA.mk H;clear H;go_wp2
      go_meet
      case rel=>exact⟨_,(true),Zq.sd,H',⟨by first|omega|exact Nat.le_refl _⟩,⟨Zq.bo⟩⟩
    ·rw[if_neg c19]at H;have c19b0:(t717 == 0)=false:=beq_eq_false_iff_ne.mpr c19;have c19b1:(t717 != 0)=true:=bne_iff_ne.mpr c19;have H':=aA.mk H;clear H;go_wp2
     go_meet
     case rel=>exact⟨_,(true),Zq.sd,H',⟨by first|omega|exact Nat.le_refl _⟩,⟨Zq.bo⟩⟩
   ·rw[if_neg c18]at H;have c18b0:(t715 == 0)=false:=beq_eq_false_iff_ne.mpr c18;have c18b1:(t715 != 0)=true:=bne_iff_ne.mpr c18;have H':=aA.mk H;clear H;go_wp2
    go_meet
    case rel=>exact⟨_,(true),Zq.sd,H',⟨by first|omega|exact Nat.le_refl _⟩,⟨Zq.bo⟩⟩
  ·rw[if_neg c17]at H;have c17b0:(t713 == 0)=false:=beq_eq_false_iff_ne.mpr c17;have c17b1:(t713 != 0)=true:=bne_iff_ne.mpr c17;(first|rw[c17b0]|(simp only[bG,bK];rw[c17b0])|skip);have H':=aA.mk H;clear H;go_wp2
   go_meet
   case rel=>exact⟨_,(true),Zq.sd,H',⟨by first|omega|exact Nat.le_refl _⟩,⟨Zq.bo⟩⟩
 case rest=>
  clear HC9;(try clear c1);(try clear c2);(try clear p2);(try clear c4);(try clear c10);(try clear c17);(try clear c17b0);(try clear c17b1);(try clear c18);(try clear c18b0);(try clear c18b1);(try clear c19);(try clear c19b0);(try clear c19b1);(try clear c20);(try clear c20b0);(try clear c20b1);(try clear c21);(try clear c21b0);(try clear c21b1);(try clear c22);(try clear c22b0);(try clear c22b1);(try clear c23);(try clear c23b0);(try clear c23b1);(try clear c24);(try clear c24b0);(try clear c24b1);obtain⟨kq,x102_8,rfl,HA,HJ8,HB⟩:=hcut;cases kq with
  | zero=>exact absurd HA.out (by simp[aND.j0])
  | succ kj8=>
   have H:=HA.out;clear HA;simp only[aND.j0]at H;by_cases c25:x102_8=true
   ·subst c25;(have H1:(some false)=some r:=by rw[if_pos rfl]at H;exact H);clear H;have H:=H1;clear H1;obtain rfl:=Option.some.inj H;go_wp2
    go_ret
    exact⟨Zq.ew,Zq.bo⟩
   ·replace c25:=Bool.eq_false_iff.mpr c25;subst c25;(have H1:((iV.f t709 t710).bind fun bt724=>((iV.f t710 t709).bind fun bt726=>((iV.f t710 t711).bind fun bt728=>((iV.f bt724.1 t711).bind fun bt730=>((iV.f t709 bt728.1).bind fun bt732=>(if bt724.2=0 then(if bt726.2=0 then(if bt728.2=0 then(if bt730.2=0 then(if bt732.2=0 then(if bt724.1.toList=bt726.1.toList then(aND.j1 kj8 t709 t711 t716 bt724.1 (bt730.1.toList != bt732.1.toList))else(aND.j1 kj8 t709 t711 t716 bt724.1 true))else(aND.j1 kj8 t709 t711 t716 bt724.1 true))else(aND.j1 kj8 t709 t711 t716 bt724.1 true))else(aND.j1 kj8 t709 t711 t716 bt724.1 true))else(aND.j1 kj8 t709 t711 t716 bt724.1 true))else(aND.j1 kj8 t709 t711 t716 bt724.1 true)))))))=some r:=by rw[if_neg (show ¬(false=true) by decide)]at H;exact H);clear H;have H:=H1;clear H1;replace H:=Zq.mp H;obtain⟨⟨t724,t725⟩,A260,H⟩:=H;(try dsimp only at H);have A26:=aA.mk A260;clear A260;replace H:=Zq.mp H;obtain⟨⟨t726,t727⟩,A270,H⟩:=H;(try dsimp only at H);have A27:=aA.mk A270;clear A270;replace H:=Zq.mp H;obtain⟨⟨t728,t729⟩,A280,H⟩:=H;(try dsimp only at H);have A28:=aA.mk A280;clear A280;replace H:=Zq.mp H;obtain⟨⟨t730,t731⟩,A290,H⟩:=H;(try dsimp only at H);have A29:=aA.mk A290;clear A290;replace H:=Zq.mp H;obtain⟨⟨t732,t733⟩,A300,H⟩:=H;(try dsimp only at H);have A30:=aA.mk A300;clear A300;have HC31:=aA.mk H;clear H
    go_upto_region 15 with(first|((with_reducible refine Zq.c 45 rfl ?_);refine Zq.g (some 106) Tryz.func45 #[.string t709,.string t710] ?_;(with_reducible refine(iV.calls t709 t710 t724 t725 _ ?gw A26.out).mono ?_);(case gw=>exact HG.out.below Zq.bo);rintro e w32 ⟨rfl,hb⟩;refine⟨_,rfl,?_⟩;replace HB:=aA.mk (aC Zq.bo hb);(try clear hb);(try clear hb2);(try clear hk);(try clear hi))|((with_reducible refine Zq.c 45 rfl ?_);refine Zq.g (some 112) Tryz.func45 #[.string t710,.string t709] ?_;(with_reducible refine(iV.calls t710 t709 t726 t727 _ ?gw A27.out).mono ?_);(case gw=>exact HG.out.below Zq.bo);rintro e w33 ⟨rfl,hb⟩;refine⟨_,rfl,?_⟩;replace HB:=aA.mk (aC Zq.bo hb);(try clear hb);(try clear hb2);(try clear hk);(try clear hi))|((with_reducible refine Zq.c 45 rfl ?_);refine Zq.g (some 118) Tryz.func45 #[.string t710,.string t711] ?_;(with_reducible refine(iV.calls t710 t711 t728 t729 _ ?gw A28.out).mono ?_);(case gw=>exact HG.out.below Zq.bo);rintro e w34 ⟨rfl,hb⟩;refine⟨_,rfl,?_⟩;replace HB:=aA.mk (aC Zq.bo hb);(try clear hb);(try clear hb2);(try clear hk);(try clear hi))|((with_reducible refine Zq.c 45 rfl ?_);refine Zq.g (some 124) Tryz.func45 #[.string t724,.string t711] ?_;(with_reducible refine(iV.calls t724 t711 t730 t731 _ ?gw A29.out).mono ?_);(case gw=>exact HG.out.below Zq.bo);rintro e w35 ⟨rfl,hb⟩;refine⟨_,rfl,?_⟩;replace HB:=aA.mk (aC Zq.bo hb);(try clear hb);(try clear hb2);(try clear hk);(try clear hi))|((with_reducible refine Zq.c 45 rfl ?_);refine Zq.g (some 130) Tryz.func45 #[.string t709,.string t728] ?_;(with_reducible refine(iV.calls t709 t728 t732 t733 _ ?gw A30.out).mono ?_);(case gw=>exact HG.out.below Zq.bo);rintro e w36 ⟨rfl,hb⟩;refine⟨_,rfl,?_⟩;replace HB:=aA.mk (aC Zq.bo hb);(try clear hb);(try clear hb2);(try clear hk);(try clear hi)))
    (try simp only[Act.put,Zq.a1,Zq.a2,Zq.a3])
    go_cut [160] (fun v160 wc=>∃(kq:Nat) (x160_30:Bool),v160 = .bool x160_30/\aA (aND.j1 kq t709 t711 t716 t724 x160_30=some r)/\aA (kq<=kj8)/\aA (Below w.heap.size w wc))
    case first=>
     have H:=HC31.out;clear HC31;by_cases c37:t725=0
     ·rw[if_pos c37]at H;have c37b0:(t725 == 0)=true:=beq_iff_eq.mpr c37;have c37b1:(t725 != 0)=false:=bne_eq_false_iff_eq.mpr c37;clear c37;(first|rw[c37b0]|(simp only[bG,bK];rw[c37b0])|skip);by_cases c38:t727=0
      ·rw[if_pos c38]at H;have c38b0:(t727 == 0)=true:=beq_iff_eq.mpr c38;have c38b1:(t727 != 0)=false:=bne_eq_false_iff_eq.mpr c38;clear c38;by_cases c39:t729=0
       ·rw[if_pos c39]at H;have c39b0:(t729 == 0)=true:=beq_iff_eq.mpr c39;have c39b1:(t729 != 0)=false:=bne_eq_false_iff_eq.mpr c39;clear c39;by_cases c40:t731=0
        ·rw[if_pos c40]at H;have c40b0:(t731 == 0)=true:=beq_iff_eq.mpr c40;have c40b1:(t731 != 0)=false:=bne_eq_false_iff_eq.mpr c40;clear c40;by_cases c41:t733=0
         ·rw[if_pos c41]at H;have c41b0:(t733 == 0)=true:=beq_iff_eq.mpr c41;have c41b1:(t733 != 0)=false:=bne_eq_false_iff_eq.mpr c41;clear c41;by_cases c42:t724.toList=t726.toList
          ·rw[if_pos c42]at H;have c42b0:(t724.toList == t726.toList)=true:=beq_iff_eq.mpr c42;have c42b1:(t724.toList != t726.toList)=false:=bne_eq_false_iff_eq.mpr c42;clear c42;have H':=aA.mk H;clear H;go_wp2
           go_meet
           case rel=>exact⟨_,((t730.toList != t732.toList)),Zq.sd,H',⟨by have:=HJ8.out;first|omega|exact Nat.le_refl _⟩,⟨Zq.bo⟩⟩
          ·rw[if_neg c42]at H;have c42b0:(t724.toList == t726.toList)=false:=beq_eq_false_iff_ne.mpr c42;have c42b1:(t724.toList != t726.toList)=true:=bne_iff_ne.mpr c42;have H':=aA.mk H;clear H;go_wp2
           go_meet
           case rel=>exact⟨_,(true),Zq.sd,H',⟨by have:=HJ8.out;first|omega|exact Nat.le_refl _⟩,⟨Zq.bo⟩⟩
         ·rw[if_neg c41]at H;have c41b0:(t733 == 0)=false:=beq_eq_false_iff_ne.mpr c41;have c41b1:(t733 != 0)=true:=bne_iff_ne.mpr c41;have H':=aA.mk H;clear H;go_wp2
          go_meet
          case rel=>exact⟨_,(true),Zq.sd,H',⟨by have:=HJ8.out;first|omega|exact Nat.le_refl _⟩,⟨Zq.bo⟩⟩
        ·rw[if_neg c40]at H;have c40b0:(t731 == 0)=false:=beq_eq_false_iff_ne.mpr c40;have c40b1:(t731 != 0)=true:=bne_iff_ne.mpr c40;have H':=aA.mk H;clear H;go_wp2
         go_meet
         case rel=>exact⟨_,(true),Zq.sd,H',⟨by have:=HJ8.out;first|omega|exact Nat.le_refl _⟩,⟨Zq.bo⟩⟩
       ·rw[if_neg c39]at H;have c39b0:(t729 == 0)=false:=beq_eq_false_iff_ne.mpr c39;have c39b1:(t729 != 0)=true:=bne_iff_ne.mpr c39;have H':=aA.mk H;clear H;go_wp2
        go_meet
        case rel=>exact⟨_,(true),Zq.sd,H',⟨by have:=HJ8.out;first|omega|exact Nat.le_refl _⟩,⟨Zq.bo⟩⟩
      ·rw[if_neg c38]at H;have c38b0:(t727 == 0)=false:=beq_eq_false_iff_ne.mpr c38;have c38b1:(t727 != 0)=true:=bne_iff_ne.mpr c38;have H':=aA.mk H;clear H;go_wp2
       go_meet
       case rel=>exact⟨_,(true),Zq.sd,H',⟨by have:=HJ8.out;first|omega|exact Nat.le_refl _⟩,⟨Zq.bo⟩⟩
     ·rw[if_neg c37]at H;have c37b0:(t725 == 0)=false:=beq_eq_false_iff_ne.mpr c37;have c37b1:(t725 != 0)=true:=bne_iff_ne.mpr c37;(first|rw[c37b0]|(simp only[bG,bK];rw[c37b0])|skip);have H':=aA.mk H;clear H;go_wp2
      go_meet
      case rel=>exact⟨_,(true),Zq.sd,H',⟨by have:=HJ8.out;first|omega|exact Nat.le_refl _⟩,⟨Zq.bo⟩⟩
    case rest=>
     clear HC31;(try clear c1);(try clear c2);(try clear p2);(try clear c3);(try clear c4);(try clear c10);(try clear c17);(try clear c17b0);(try clear c17b1);(try clear c18);(try clear c18b0);(try clear c18b1);(try clear c19);(try clear c19b0);(try clear c19b1);(try clear c20);(try clear c20b0);(try clear c20b1);(try clear c21);(try clear c21b0);(try clear c21b1);(try clear c22);(try clear c22b0);(try clear c22b1);(try clear c23);(try clear c23b0);(try clear c23b1);(try clear c24);(try clear c24b0);(try clear c24b1);(try clear c25);(try clear c37);(try clear c37b0);(try clear c37b1);(try clear c38);(try clear c38b0);(try clear c38b1);(try clear c39);(try clear c39b0);(try clear c39b1);(try clear c40);(try clear c40b0);(try clear c40b1);(try clear c41);(try clear c41b0);(try clear c41b1);(try clear c42);(try clear c42b0);(try clear c42b1);(try clear p2);obtain⟨kq,x160_30,rfl,HA,HJ30,HB⟩:=hcut;cases kq with
     | zero=>exact absurd HA.out (by simp[aND.j1])
     | succ kj30=>
      have H:=HA.out;clear HA;simp only[aND.j1]at H;by_cases c43:x160_30=true
      ·subst c43;(have H1:(some false)=some r:=by rw[if_pos rfl]at H;exact H);clear H;have H:=H1;clear H1;obtain rfl:=Option.some.inj H;go_wp2
       go_ret
       exact⟨Zq.ew,Zq.bo⟩
      ·replace c43:=Bool.eq_false_iff.mpr c43;subst c43;(have H1:((iV.f t709 t711).bind fun bt734=>((iV.f t709 t716).bind fun bt736=>((kK.f t724 bt734.1).bind fun bt738=>(if bt734.2=0 then(if bt736.2=0 then(if bt738.2=0 then(if bt736.1.toList=bt738.1.toList then((bY.f).bind fun t740=>(some t740))else(some false))else(some false))else(some false))else(some false)))))=some r:=by rw[if_neg (show ¬(false=true) by decide)]at H;exact H);clear H;have H:=H1;clear H1;replace H:=Zq.mp H;obtain⟨⟨t734,t735⟩,A440,H⟩:=H;(try dsimp only at H);have A44:=aA.mk A440;clear A440;replace H:=Zq.mp H;obtain⟨⟨t736,t737⟩,A450,H⟩:=H;(try dsimp only at H);have A45:=aA.mk A450;clear A450;replace H:=Zq.mp H;obtain⟨⟨t738,t739⟩,A460,H⟩:=H;(try dsimp only at H);have A46:=aA.mk A460;clear A460;by_cases c47:t735=0
       ·rw[if_pos c47]at H;have c47b0:(t735 == 0)=true:=beq_iff_eq.mpr c47;have c47b1:(t735 != 0)=false:=bne_eq_false_iff_eq.mpr c47;clear c47;by_cases c48:t737=0
        ·rw[if_pos c48]at H;have c48b0:(t737 == 0)=true:=beq_iff_eq.mpr c48;have c48b1:(t737 != 0)=false:=bne_eq_false_iff_eq.mpr c48;clear c48;by_cases c49:t739=0
         ·rw[if_pos c49]at H;have c49b0:(t739 == 0)=true:=beq_iff_eq.mpr c49;have c49b1:(t739 != 0)=false:=bne_eq_false_iff_eq.mpr c49;clear c49;by_cases c50:t736.toList=t738.toList
          ·rw[if_pos c50]at H;have c50b0:(t736.toList == t738.toList)=true:=beq_iff_eq.mpr c50;have c50b1:(t736.toList != t738.toList)=false:=bne_eq_false_iff_eq.mpr c50;clear c50;obtain⟨t740,A51,H⟩:=Zq.mq H;(try dsimp only at H);obtain rfl:=Option.some.inj H
           go_wp2_with (first|((with_reducible refine Zq.c 45 rfl ?_);refine Zq.g (some 164) Tryz.func45 #[.string t709,.string t711] ?_;(with_reducible refine(iV.calls t709 t711 t734 t735 _ ?gw A44.out).mono ?_);(case gw=>exact HG.out.below Zq.bo);rintro e w52 ⟨rfl,hb⟩;refine⟨_,rfl,?_⟩;replace HB:=aA.mk (aC Zq.bo hb);(try clear hb);(try clear hb2);(try clear hk);(try clear hi))|((with_reducible refine Zq.c 45 rfl ?_);refine Zq.g (some 170) Tryz.func45 #[.string t709,.string t716] ?_;(with_reducible refine(iV.calls t709 t716 t736 t737 _ ?gw A45.out).mono ?_);(case gw=>exact HG.out.below Zq.bo);rintro e w53 ⟨rfl,hb⟩;refine⟨_,rfl,?_⟩;replace HB:=aA.mk (aC Zq.bo hb);(try clear hb);(try clear hb2);(try clear hk);(try clear hi))|((with_reducible refine Zq.c 43 rfl ?_);refine Zq.g (some 176) Tryz.func43 #[.string t724,.string t734] ?_;(with_reducible refine(kK.calls t724 t734 t738 t739 _ ?gw A46.out).mono ?_);(case gw=>exact HG.out.below Zq.bo);rintro e w54 ⟨rfl,hb⟩;refine⟨_,rfl,?_⟩;replace HB:=aA.mk (aC Zq.bo hb);(try clear hb);(try clear hb2);(try clear hk);(try clear hi))|(go_at_call 18;(with_reducible refine(bY.calls t740 _ ?gw A51.out).mono ?_);(case gw=>exact HG.out.below Zq.bo);rintro e w55 ⟨rfl,hb⟩;replace HB:=aA.mk (aC Zq.bo hb);(try clear hb);(try clear hb2);(try clear hk);(try clear hi)))
           go_ret
           exact⟨Zq.ew,Zq.bo⟩
          ·rw[if_neg c50]at H;have c50b0:(t736.toList == t738.toList)=false:=beq_eq_false_iff_ne.mpr c50;have c50b1:(t736.toList != t738.toList)=true:=bne_iff_ne.mpr c50;obtain rfl:=Option.some.inj H;go_wp2_with (first|((with_reducible refine Zq.c 45 rfl ?_);refine Zq.g (some 164) Tryz.func45 #[.string t709,.string t711] ?_;(with_reducible refine(iV.calls t709 t711 t734 t735 _ ?gw A44.out).mono ?_);(case gw=>exact HG.out.below Zq.bo);rintro e w56 ⟨rfl,hb⟩;refine⟨_,rfl,?_⟩;replace HB:=aA.mk (aC Zq.bo hb);(try clear hb);(try clear hb2);(try clear hk);(try clear hi))|((with_reducible refine Zq.c 45 rfl ?_);refine Zq.g (some 170) Tryz.func45 #[.string t709,.string t716] ?_;(with_reducible refine(iV.calls t709 t716 t736 t737 _ ?gw A45.out).mono ?_);(case gw=>exact HG.out.below Zq.bo);rintro e w57 ⟨rfl,hb⟩;refine⟨_,rfl,?_⟩;replace HB:=aA.mk (aC Zq.bo hb);(try clear hb);(try clear hb2);(try clear hk);(try clear hi))|((with_reducible refine Zq.c 43 rfl ?_);refine Zq.g (some 176) Tryz.func43 #[.string t724,.string t734] ?_;(with_reducible refine(kK.calls t724 t734 t738 t739 _ ?gw A46.out).mono ?_);(case gw=>exact HG.out.below Zq.bo);rintro e w58 ⟨rfl,hb⟩;refine⟨_,rfl,?_⟩;replace HB:=aA.mk (aC Zq.bo hb);(try clear hb);(try clear hb2);(try clear hk);(try clear hi)))
           go_ret
           exact⟨Zq.ew,Zq.bo⟩
         ·rw[if_neg c49]at H;have c49b0:(t739 == 0)=false:=beq_eq_false_iff_ne.mpr c49;have c49b1:(t739 != 0)=true:=bne_iff_ne.mpr c49;obtain rfl:=Option.some.inj H;go_wp2_with (first|((with_reducible refine Zq.c 45 rfl ?_);refine Zq.g (some 164) Tryz.func45 #[.string t709,.string t711] ?_;(with_reducible refine(iV.calls t709 t711 t734 t735 _ ?gw A44.out).mono ?_);(case gw=>exact HG.out.below Zq.bo);rintro e w59 ⟨rfl,hb⟩;refine⟨_,rfl,?_⟩;replace HB:=aA.mk (aC Zq.bo hb);(try clear hb);(try clear hb2);(try clear hk);(try clear hi))|((with_reducible refine Zq.c 45 rfl ?_);refine Zq.g (some 170) Tryz.func45 #[.string t709,.string t716] ?_;(with_reducible refine(iV.calls t709 t716 t736 t737 _ ?gw A45.out).mono ?_);(case gw=>exact HG.out.below Zq.bo);rintro e w60 ⟨rfl,hb⟩;refine⟨_,rfl,?_⟩;replace HB:=aA.mk (aC Zq.bo hb);(try clear hb);(try clear hb2);(try clear hk);(try clear hi))|((with_reducible refine Zq.c 43 rfl ?_);refine Zq.g (some 176) Tryz.func43 #[.string t724,.string t734] ?_;(with_reducible refine(kK.calls t724 t734 t738 t739 _ ?gw A46.out).mono ?_);(case gw=>exact HG.out.below Zq.bo);rintro e w61 ⟨rfl,hb⟩;refine⟨_,rfl,?_⟩;replace HB:=aA.mk (aC Zq.bo hb);(try clear hb);(try clear hb2);(try clear hk);(try clear hi)))
          go_ret
          exact⟨Zq.ew,Zq.bo⟩
        ·rw[if_neg c48]at H;have c48b0:(t737 == 0)=false:=beq_eq_false_iff_ne.mpr c48;have c48b1:(t737 != 0)=true:=bne_iff_ne.mpr c48;obtain rfl:=Option.some.inj H;go_wp2_with (first|((with_reducible refine Zq.c 45 rfl ?_);refine Zq.g (some 164) Tryz.func45 #[.string t709,.string t711] ?_;(with_reducible refine(iV.calls t709 t711 t734 t735 _ ?gw A44.out).mono ?_);(case gw=>exact HG.out.below Zq.bo);rintro e w62 ⟨rfl,hb⟩;refine⟨_,rfl,?_⟩;replace HB:=aA.mk (aC Zq.bo hb);(try clear hb);(try clear hb2);(try clear hk);(try clear hi))|((with_reducible refine Zq.c 45 rfl ?_);refine Zq.g (some 170) Tryz.func45 #[.string t709,.string t716] ?_;(with_reducible refine(iV.calls t709 t716 t736 t737 _ ?gw A45.out).mono ?_);(case gw=>exact HG.out.below Zq.bo);rintro e w63 ⟨rfl,hb⟩;refine⟨_,rfl,?_⟩;replace HB:=aA.mk (aC Zq.bo hb);(try clear hb);(try clear hb2);(try clear hk);(try clear hi))|((with_reducible refine Zq.c 43 rfl ?_);refine Zq.g (some 176) Tryz.func43 #[.string t724,.string t734] ?_;(with_reducible refine(kK.calls t724 t734 t738 t739 _ ?gw A46.out).mono ?_);(case gw=>exact HG.out.below Zq.bo);rintro e w64 ⟨rfl,hb⟩;refine⟨_,rfl,?_⟩;replace HB:=aA.mk (aC Zq.bo hb);(try clear hb);(try clear hb2);(try clear hk);(try clear hi)))
         go_ret
         exact⟨Zq.ew,Zq.bo⟩
       ·rw[if_neg c47]at H;have c47b0:(t735 == 0)=false:=beq_eq_false_iff_ne.mpr c47;have c47b1:(t735 != 0)=true:=bne_iff_ne.mpr c47;obtain rfl:=Option.some.inj H;go_wp2_with (first|((with_reducible refine Zq.c 45 rfl ?_);refine Zq.g (some 164) Tryz.func45 #[.string t709,.string t711] ?_;(with_reducible refine(iV.calls t709 t711 t734 t735 _ ?gw A44.out).mono ?_);(case gw=>exact HG.out.below Zq.bo);rintro e w65 ⟨rfl,hb⟩;refine⟨_,rfl,?_⟩;replace HB:=aA.mk (aC Zq.bo hb);(try clear hb);(try clear hb2);(try clear hk);(try clear hi))|((with_reducible refine Zq.c 45 rfl ?_);refine Zq.g (some 170) Tryz.func45 #[.string t709,.string t716] ?_;(with_reducible refine(iV.calls t709 t716 t736 t737 _ ?gw A45.out).mono ?_);(case gw=>exact HG.out.below Zq.bo);rintro e w66 ⟨rfl,hb⟩;refine⟨_,rfl,?_⟩;replace HB:=aA.mk (aC Zq.bo hb);(try clear hb);(try clear hb2);(try clear hk);(try clear hi))|((with_reducible refine Zq.c 43 rfl ?_);refine Zq.g (some 176) Tryz.func43 #[.string t724,.string t734] ?_;(with_reducible refine(kK.calls t724 t734 t738 t739 _ ?gw A46.out).mono ?_);(case gw=>exact HG.out.below Zq.bo);rintro e w67 ⟨rfl,hb⟩;refine⟨_,rfl,?_⟩;replace HB:=aA.mk (aC Zq.bo hb);(try clear hb);(try clear hb2);(try clear hk);(try clear hi)))
        go_ret
        exact⟨Zq.ew,Zq.bo⟩
def aND.Pure:Prop:=∀(l0:List Int),l0.length<=maxLen->l0.length*8<=140737488351232->(∀x ∈ l0,(Lit.int .i64 x).wf=true)->∃k,aND.f k l0=some true
theorem aND.walk (P:aND.Pure) (a0:Option Addr) (len0 cap0:Nat) (z0:List Int) (w:World) (hG:Gw w) (w0:(a0=none/\len0=0/\cap0=0/\z0=[])\/∃x,a0=some x/\len0<=cap0/\cap0<=maxLen/\z0.length=cap0/\(∀i,i<z0.length->w.cell? (x.add i)=some (.int .i64 (z0.getD i 0)))/\∀n ∈ z0,(Lit.int .i64 n).wf=true) (y0:len0*8<=140737488351232):
 Calls Tryz.prog 10 #[.slice a0 len0 cap0] w fun e w'=>e = .returned (.bool true)/\Below w.heap.size w w':=by
 obtain⟨l0,rfl,hr0,hm0,hw0,hc0⟩:=kX.yI w0;obtain⟨k,h⟩:=P l0 hm0 y0 hw0;refine(aND.calls k _ _ l0 true w (Kd.lS (d:=(0:Int)) (h1:=fun _=>rfl) hr0) hc0 hG h).mono ?_;rintro e w' ⟨rfl,hd⟩;exact⟨rfl,hd⟩
end Go.Proofs.YtjieekkkaekclaaGreatDoor.PR
namespace Go.Proofs.YtjieekkkaekclaaGreatDoor
open Go Go.RowKit Go.Pw.PrintWords Go.Proofs.YtjieekkkaekclaaGreatDoor.PR
theorem aCV (l:List Int):∃a b c:Int,EvP (fun k=>nZ.f k l) (Mw.T a,Mw.T b,Mw.T c)/\Mw.Sz 30 a/\Mw.Sz 30 b/\Mw.Sz 30 c:=by
 have st:At 0 0:=⟨by omega,by omega⟩;have two:∀r:Int,r ∈ ([3,30]:List Int)->r<=30/\3<=r:=fun r h=>by simp at h;omega
 have nx:∀{b a:Int},At b a->At (b+1) (a+1):=fun h=>⟨by have:=h.1;omega,by have:=h.2;omega⟩
 obtain⟨d1,t1,p1,q1⟩:=vU l 0 7640891576956012809 [3,30] st (by omega) (by simp) (by simp);obtain⟨n1,a1,s1,e1,z1,A1⟩:=kL l _ t1 d1 (nx st) (by omega) (by have:=two d1 q1;omega);obtain⟨d2,t2,p2,q2⟩:=vU l a1 s1 [3,30] A1 (by omega) (by simp) (by simp);obtain⟨n2,a2,s2,e2,z2,A2⟩:=kL l _ t2 d2 (nx A1) (by omega) (by have:=two d2 q2;omega);obtain⟨d3,t3,p3,q3⟩:=vU l a2 s2 [3,30] A2 (by omega) (by simp) (by simp);obtain⟨n3,a3,s3,e3,z3,A3⟩:=kL l _ t3 d3 (nx A2) (by omega) (by have:=two d3 q3;omega);refine⟨n1,n2,n3,?_,z1.mono (by have:=two d1 q1;omega),z2.mono (by have:=two d2 q2;omega),z3.mono (by have:=two d3 q3;omega)⟩;unfold nZ.f;rw[show fT.f l=some (l,0,7640891576956012809)from rfl];refine EvP.bind (EvP.now _) ?_;dsimp only;rw[p1];refine EvP.bind (EvP.now _) (EvP.bind e1 ?_);dsimp only;rw[p2];refine EvP.bind (EvP.now _) (EvP.bind e2 ?_);dsimp only;rw[p3];exact EvP.bind (EvP.now _) (EvP.bind e3 (EvP.now _))
theorem jS:bY.f=some true:=rfl
theorem aNP:aND.Pure:=by
 intro l _ _ _;refine EvP.rounds (g:=fun k=>aND.f k l) ?_;obtain⟨a,b,c,he,za,zb,zc⟩:=aCV l;have up:∀{n:Int} {L M:Nat},Mw.Sz L n->L<=M->Mw.Sz M n:=fun h hl=>h.mono hl
 have zab:=za.add zb;have zbc:=zb.add zc;have mab:=za.mul zb;have mbc:=zb.mul zc;have mac:=za.mul zc;have e1:=aJ9 (up za (show 30<=390 by omega)) (up zb (show 30<=390 by omega));have e2:=aJ9 (up zb (show 30<=390 by omega)) (up za (show 30<=390 by omega));have e3:=aJ9 (up zb (show 30<=390 by omega)) (up zc (show 30<=390 by omega));have e4:=aJ9 (up zab (show 31<=390 by omega)) (up zc (show 30<=390 by omega));have e5:=aJ9 (up za (show 30<=390 by omega)) (up zbc (show 31<=390 by omega));have e6:=aNW (up zab (show 31<=390 by omega)) (up zb (show 30<=390 by omega));have f1:=aJ5 (up za (show 30<=200 by omega)) (up zb (show 30<=200 by omega));have f2:=aJ5 (up zb (show 30<=200 by omega)) (up za (show 30<=200 by omega));have f3:=aJ5 (up zb (show 30<=200 by omega)) (up zc (show 30<=200 by omega));have f4:=aJ5 (up mab (show 60<=200 by omega)) (up zc (show 30<=200 by omega));have f5:=aJ5 (up za (show 30<=200 by omega)) (up mbc (show 60<=200 by omega));have g1:=aJ5 (up za (show 30<=200 by omega)) (up zc (show 30<=200 by omega));have g2:=aJ5 (up za (show 30<=200 by omega)) (up zbc (show 31<=200 by omega));have g3:=aJ9 (up mab (show 60<=390 by omega)) (up mac (show 60<=390 by omega));rw[Int.add_comm b a]at e2;rw[Int.add_assoc a b c]at e4;rw[Int.add_sub_cancel]at e6;rw[Int.mul_comm b a]at f2;rw[Int.mul_assoc a b c]at f4;rw[Int.mul_add]at g2;unfold aND.f;refine EvP.bind he ?_;dsimp only;refine EvP.congr (f:=fun k=>aND.j0 k (Mw.T a) (Mw.T b) (Mw.T c) (Mw.T (b+c)) false) (fun k=>?_) ?_
 ·simp only[e1,e2,e3,e4,e5,e6,Option.bind_some,if_true,bne_self_eq_false]
 refine EvP.step (f:=fun k=>aND.j1 k (Mw.T a) (Mw.T c) (Mw.T (b+c)) (Mw.T (a*b)) false) (fun k=>?_) ?_;·simp only[aND.j0,f1,f2,f3,f4,f5,Option.bind_some,if_true,bne_self_eq_false,Bool.false_eq_true,if_false]
 refine EvP.step (f:=fun _=>some true) (fun k=>?_) (EvP.now _);simp only[aND.j1,g1,g2,g3,jS,Option.bind_some,if_true,Bool.false_eq_true,if_false]
end Go.Proofs.YtjieekkkaekclaaGreatDoor
namespace Go.Proofs.YtjieekkkaekclaaGreatDoor.aNF
open Go Go.ChangeShapes Go.WideShapes Go.ChangeAt Go.RowKit
open Go.ChangeMaps (open_string shut_string)
theorem laidOut:laidOutB Tryz.prog=true:=by kernel_rfl
def uF (k:IntKind) (w:World) (a:Option Addr) (len cap:Nat) (zs:List Int):Prop:=
 (a=none/\len=0/\cap=0/\zs=[])\/
 ∃x,a=some x/\len<=cap/\cap<=maxLen/\zs.length=cap/\(∀i,i<zs.length->w.cell? (x.add i)=some (.int k (zs.getD i 0)))/\∀n ∈ zs,(Lit.int k n).wf=true
theorem mP (os:Os) (args:Array Value):laidMetH Tryz.prog Rows.wholeRingRow.laid ((World.doorLaid Tryz.prog 69 os).forCall (fun _ _=>0) ⟨#[],args,[]⟩).memory:=
 laidMetH_of_parts3 (fuel:=8) (laidMet_of_run' 8 (by kernel_rfl) (by kernel_rfl)) (by kernel_rfl) (by kernel_rfl)
theorem lifted (os:Os) (started:os.Started) (H:Type) (enc:TypeId×Value->H):
 ReturnsInHanded {} Tryz.checked os 10 .any (fun w args=>(Rows.wholeRingSpec.pre enc Tryz.prog Tryz.f10 [] false w args/\laidMetH Tryz.prog Rows.wholeRingRow.laid w)/\sizedMet enc Tryz.prog Tryz.f10 (OpenSpec.ofChange Rows.wholeRingSpec) false w args) (Rows.wholeRingSpec.post enc Tryz.prog Tryz.f10 false true false false):=by
 refine returnsInHanded_of_change_and (C:=Tryz.checked) (X:=fun w _=>laidMetH Tryz.prog Rows.wholeRingRow.laid w) (fun _ _ _ hh h=>h.of_heap hh) sU started (by kernel_rfl) Tryz.func10 ?witness ?_;case witness=>exact ChangeSpec.witness_shaped (enc:=enc) (C:=Tryz.checked) (os:=os) (X:=fun w _=>laidMetH Tryz.prog Rows.wholeRingRow.laid w) false (World.doorLaid Tryz.prog 69 os) #[.slice none 0 0] 8 rfl (World.shaped_of_RefB (by kernel_rfl) (by kernel_rfl)) (by kernel_rfl) (by kernel_rfl) (by kernel_rfl) (mP os _)
 intro W base args ds gs before hval0 hW hcnd hsz0 hL _;have hsz:(DataW.weightsEach Tryz.prog (Tryz.f10.params.toList++Rows.wholeRingSpec.plain.varTypes Tryz.prog) (ds++gs)).all (·<=reachBytes)=true:=hsz0;have hval:∀(j:Nat) t v,Tryz.f10.params[j]?=some t->args[j]?=some v->Value.okWide Tryz.prog W .any base t v:=hval0;have hW':=hW;obtain⟨p,q,hA0,hV,rfl,hfz,hnd⟩:=hW;have hA:DataW.TrodAll enc Tryz.prog W 0 (fun _=>true) true Tryz.f10.params.toList args.toList ds p:=hA0;rw[Tryz.params10]at hA hval hsz;obtain⟨v0,vs0,d0,ds0,p0,q0,hargs,rfl,rfl,h0,r0⟩:=trodAll_cons hA;obtain⟨rfl,rfl,rfl⟩:=trodAll_nil r0;obtain rfl:args=#[v0]:=by cases args;simp_all
 obtain⟨rfl,rfl⟩:=trodVars_none hV;obtain⟨a0,len0,cap0,rfl⟩:=okWide_slice Tryz.underlying22 (hval 0 22 v0 rfl rfl);have k0:=h0;have lt0:∀x ∈ p0,x.block<W.heap.size:=by obtain⟨m,hm⟩:=k0;exact DataW.trod_lt m _ _ _ hm
 obtain⟨z0,w0⟩:∃zs,uF .i64 W a0 len0 cap0 zs:=by obtain⟨fuel,hf⟩:=h0;rcases open_ints Tryz.underlying22 Tryz.underlying3 (by kernel_rfl) hf with⟨hcs,_⟩|⟨x,l,c,zs,hcs,_,hl,hm,hz,_,hcell,hwz⟩;(·simp[Value.cells]at hcs;obtain⟨rfl,rfl,rfl⟩:=hcs;exact⟨[],.inl ⟨rfl,rfl,rfl,rfl⟩⟩);·simp[Value.cells]at hcs;obtain⟨rfl,rfl,rfl⟩:=hcs;exact⟨zs,.inr ⟨_,rfl,hl,hm,by simpa using hz,hcell,hwz⟩⟩
 have y0:len0*8<=140737488351232:=Go.Pw.PrintWords.pW hsz (j:=0) (t:=22) rfl rfl Tryz.underlying22 Tryz.underlying3 (by kernel_rfl) (by kernel_rfl) h0;clear hA0 hval0 hsz0 hsz;refine(PR.aND.walk aNP a0 len0 cap0 z0 W ⟨oJ hL,oI hL⟩ w0 y0).mono fun e W' ⟨he,bel⟩=>?_
 subst he;exact⟨_,rfl,_,_,_,[],_,[],hW',trodAll_mk1 (shut_bool Tryz.underlying4 _),(trodAll_cons_mk (Below.trod laidOut (by kernel_rfl) (of_decide_eq_true (by kernel_rfl)) k0 bel lt0) trodAll_mk0),rfl,bel.frame _,fun h=>by cases h⟩
theorem leaving (os:Os) (started:os.Started) (H:Type) (enc:TypeId×Value->H):
 ReturnsInLeavingWide {} Tryz.checked os 10 .any (fun w args=>(Rows.wholeRingSpec.pre enc Tryz.prog Tryz.f10 [] false w args/\laidMetH Tryz.prog Rows.wholeRingRow.laid w)/\sizedMet enc Tryz.prog Tryz.f10 (OpenSpec.ofChange Rows.wholeRingSpec) false w args) (Rows.wholeRingSpec.post enc Tryz.prog Tryz.f10 false true false false):=fun enter=>
 ReturnsInOpen.mono (fun _ _ _ h=>⟨h.2.1,mU h.1,h.2.2⟩) (fun _ x=>x) (lifted os started H enc enter)
theorem closed:joinedFacts Tryz.pinned.checked.prog 10 Tryz.f10 Rows.wholeRingSpec Rows.wholeRingRow=true:=by
 unfold joinedFacts;simp only[Bool.and_eq_true]
 repeat' apply And.intro
 all_goals (as_aux_lemma=>kernel_rfl)
theorem named:Tryz.pinned.checked.prog.funcNamed Rows.wholeRingRow.func=some 10:=by kernel_rfl
theorem inst:Tryz.f10.isInstance Tryz.pinned.checked.prog Rows.wholeRingRow.origin Rows.wholeRingRow.targs:=of_decide_eq_true (by kernel_rfl)
theorem wrap:Tryz.f10.isWrapper Tryz.pinned.checked.prog Rows.wholeRingRow.wrapper Rows.wholeRingRow.mainSum:=by unfold Func.isWrapper;first|(rw[if_pos (by decide +kernel)];kernel_rfl)|(rw[if_neg (by decide +kernel)];exact⟨rfl,rfl⟩)
theorem proved:Rows.WholeRingSaid:=
 OpenClaim.holds_of_wide_leaving 10 Tryz.f10 rfl rfl rfl rfl rfl rfl rfl ⟨rfl,rfl,rfl,rfl,rfl⟩ rfl rfl rfl rfl rfl named Tryz.func10 closed inst wrap
  (fun os started H enc _=>leaving os started H enc)
end Go.Proofs.YtjieekkkaekclaaGreatDoor.aNF
namespace Go.Proofs.YtjieekkkaekclaaGreatDoor
open Go
theorem aNF.goes:true=Rows.wholeRingRow.goesBy Tryz.pinned.checked.prog:=by kernel_rfl
theorem aNF.wf:Rows.wholeRingRow.wfByText (OpenSpec.ofChange Rows.wholeRingSpec)=true:=by kernel_rfl
theorem aNF.stand:∀t ∈ Tryz.f10.params,Tryz.pinned.checked.prog.wantsStandIn t=false:=by
 have h:(Tryz.f10.params.toList.all fun t=>!Tryz.pinned.checked.prog.wantsStandIn t)=true:=by kernel_rfl
 intro t ht;have:=List.all_eq_true.mp h t (Array.mem_toList_iff.mpr ht);simpa using this
theorem wholeRing_card_holds:Rows.WholeRingCardSaid:=
 Claim7.lF .later [.data,.data,.data,.handle,.sentinel,.sentinel] true (true,"94bbee997c0a39bb4bce0e5287243f0f552a32c829e9b04cf75d7dfa1f5bfa40") true true
  aNF.proved aNF.wf wholeRing_row_tie rfl ⟨rfl,rfl⟩ qR rfl
  (fun f fn hf hfn=>by obtain rfl:f=10:=Option.some.inj (hf.symm.trans aNF.named);obtain rfl:fn=Tryz.f10:=(Option.some.inj (Tryz.func10.symm.trans hfn)).symm;exact⟨pY,fun j t ht=>aNF.stand t (Array.mem_of_getElem? ht)⟩)
  aNF.goes
end Go.Proofs.YtjieekkkaekclaaGreatDoor
