/- Lemmas for the claim beside this text. -/
import Derived.Test.YtjieekkkaekclaaGreatDoorZBAD
import Derived.Test.YtjieekkkaekclaaGreatDoorZBAS
import Derived.Test.YtjieekkkaekclaaGreatDoorZBAT
import Derived.Test.YtjieekkkaekclaaGreatDoorZBAU
import Derived.Test.YtjieekkkaekclaaGreatDoorZBAX
import Derived.Test.YtjieekkkaekclaaGreatDoorZBAY
import Derived.Test.YtjieekkkaekclaaGreatDoorZLMAC
import Derived.Test.YtjieekkkaekclaaGreatDoorZLMAD
import Derived.Test.YtjieekkkaekclaaGreatDoorZLMAF
set_option linter.all false
set_option linter.unusedVariables false
set_option linter.unusedSimpArgs false
set_option maxHeartbeats 8000000
set_option maxRecDepth 100000
namespace Go.Proofs.YtjieekkkaekclaaGreatDoor.PR
open Go.RowKit Go.Pw.PrintWords Go.Pw.PrintLast Go.Pw.PrintMore
attribute [local go_sem] eG dZ fE fD dM dL eF dY
mutual
def dA.j0:Nat->ByteArray->Int->Bool->Option (ByteArray×Int)
 | 0,_,_,_=>none
 | k+1,x0,x1,x15=>if x15=true then(some ((⟨#[]⟩:ByteArray),2))else((aZ.f x0).bind fun t994=>(if(t994.size:Int)=0 then(dA.j1 k x0 x1 t994 true)else(if(t994.size:Int)>1 then(if 0<(t994.size:Int)then(if(bt t994 0)=48 then(dA.j1 k x0 x1 t994 true)else(dA.j1 k x0 x1 t994 (x0.toList == ([45,48]:List UInt8))))else(none))else(dA.j1 k x0 x1 t994 (x0.toList == ([45,48]:List UInt8))))))
def dA.j1:Nat->ByteArray->Int->ByteArray->Bool->Option (ByteArray×Int)
 | 0,_,_,_,_=>none
 | k+1,x0,x1,x6,x34=>if x34=true then(some ((⟨#[]⟩:ByteArray),1))else(dA.l0 k x0 x1 x6 0)
def dA.l0:Nat->ByteArray->Int->ByteArray->Int->Option (ByteArray×Int)
 | 0,_,_,_,_=>none
 | k+1,x0,x1,x6,x7=>if x7<(x6.size:Int)then(if 0<=x7 then((mJ.f k (bt x6 x7)).bind fun t995=>(if t995>=x1 then(some ((⟨#[]⟩:ByteArray),1))else(dA.l0 k x0 x1 x6 (wrap64 (x7+1)))))else(none))else(dA.l1 k x0 x1 x6 (⟨#[48]⟩:ByteArray) 0)
def dA.l1:Nat->ByteArray->Int->ByteArray->ByteArray->Int->Option (ByteArray×Int)
 | 0,_,_,_,_,_=>none
 | k+1,x0,x1,x6,x8,x9=>if x9<(x6.size:Int)then((bM.f k x1).bind fun t996=>((cZ.f k x8 t996).bind fun t997=>(if 0<=x9 then((mJ.f k (bt x6 x9)).bind fun t998=>((bM.f k t998).bind fun t999=>((fG.f k t997 t999).bind fun t1000=>(if(t1000.size:Int)>400 then(some ((⟨#[]⟩:ByteArray),13))else(dA.l1 k x0 x1 x6 t1000 (wrap64 (x9+1)))))))else(none))))else((aN.f x0).bind fun t1001=>(if t1001=true then((fF.f x8).bind fun t1002=>(some (t1002,0)))else(some (x8,0))))
end
def dA.f (k:Nat) (a0:ByteArray) (a1:Int):Option (ByteArray×Int):=if a1<2 then(dA.j0 k a0 a1 true)else(dA.j0 k a0 a1 (decide (a1>36)))
def dA.T15:Bool×List (List Nat×List Nat):=(true,[([],[]),([],[]),([1],[1]),([0,2,2],[0,2]),([],[]),([],[]),([4,5],[4,5]),([6,3],[6]),([7,7],[7]),([3,8,8],[3,8]),([9,9,0,1,2,3,4,5,6,7,8,9],[0,9])])
def dA.B15:List Nat:=[0,0,2,7,0,0,48,127,255,511,1023]
theorem dA.aB1:nM .any (opsOf Tryz.f64 15)=dA.T15:=by kernel_rfl
theorem dA.aA0:jG dA.T15.2 dA.B15=true:=by kernel_rfl
theorem dA.calls (k:Nat) (a0:ByteArray) (a1:Int) (r1:ByteArray) (r2:Int) (w:World) (h:dA.f k a0 a1=some (r1,r2)):
 Calls Tryz.prog 64 #[.string a0,.int .i64 a1] w fun e w'=>e = .returned (.tuple #[.string r1,.int .i64 r2])/\Below w.heap.size w w':=by
 have HB:=aA.mk (Below.refl w.heap.size w);have H:(if a1<2 then(dA.j0 k a0 a1 true)else(dA.j0 k a0 a1 (decide (a1>36))))=some (r1,r2):=h;clear h;have HC3:=aA.mk H;clear H;go_enter Tryz.func64,Tryz.ntmps64
 go_upto_region 1 with(fail)
 go_cut [15] (fun v15 wc=>∃(kq:Nat) (x15_2:Bool),v15 = .bool x15_2/\aA (dA.j0 kq a0 a1 x15_2=some (r1,r2))/\aA (kq<=k)/\aA (Below w.heap.size w wc))
 case first=>
  have H:=HC3.out;clear HC3;by_cases c4:a1<2
  ·rw[if_pos c4]at H;have c4b0:decide (a1<2)=true:=decide_eq_true c4;clear c4;(first|rw[c4b0]|(simp only[bG,bK];rw[c4b0])|skip);have H':=aA.mk H;clear H;go_wp2
   go_meet
   case rel=>exact⟨_,(true),Zq.sd,H',⟨by first|omega|exact Nat.le_refl _⟩,⟨Zq.bo⟩⟩
  ·rw[if_neg c4]at H;have c4b0:decide (a1<2)=false:=decide_eq_false c4;clear c4;(first|rw[c4b0]|(simp only[bG,bK];rw[c4b0])|skip);have H':=aA.mk H;clear H;go_wp2
   go_meet
   case rel=>exact⟨_,(decide (a1>36)),Zq.sd,H',⟨by first|omega|exact Nat.le_refl _⟩,⟨Zq.bo⟩⟩
 case rest=>
  clear HC3;(try clear p2);(try clear c4);(try clear c4b0);obtain⟨kq,x15_2,rfl,HA,HJ2,HB⟩:=hcut;cases kq with
  | zero=>exact absurd HA.out (by simp[dA.j0])
  | succ kj2=>
   have H:=HA.out;clear HA;simp only[dA.j0]at H;by_cases c5:x15_2=true
   ·subst c5;(have H1:(some ((⟨#[]⟩:ByteArray),2))=some (r1,r2):=by rw[if_pos rfl]at H;exact H);clear H;have H:=H1;clear H1;simp only[Option.some.injEq,Prod.mk.injEq]at H;obtain⟨rfl,rfl⟩:=H;go_wp2
    go_ret2
    exact⟨Zq.ew,Zq.bo⟩
   ·replace c5:=Bool.eq_false_iff.mpr c5;subst c5;(have H1:((aZ.f a0).bind fun t994=>(if(t994.size:Int)=0 then(dA.j1 kj2 a0 a1 t994 true)else(if(t994.size:Int)>1 then(if 0<(t994.size:Int)then(if(bt t994 0)=48 then(dA.j1 kj2 a0 a1 t994 true)else(dA.j1 kj2 a0 a1 t994 (a0.toList == ([45,48]:List UInt8))))else(none))else(dA.j1 kj2 a0 a1 t994 (a0.toList == ([45,48]:List UInt8))))))=some (r1,r2):=by rw[if_neg (show ¬(false=true) by decide)]at H;exact H);clear H;have H:=H1;clear H1;obtain⟨t994,A6,H⟩:=Zq.mq H;(try dsimp only at H);have HC7:=aA.mk H;clear H;(go_upto_region 4 with(first|((with_reducible refine Zq.c 35 rfl ?_);refine Zq.g (some 17) Tryz.func35 #[.string a0] ?_;(with_reducible refine(aZ.calls a0 t994 _ A6.out).mono ?_);rintro e w' ⟨rfl,nd,rfl⟩;refine⟨_,rfl,?_⟩)));(try simp only[Act.put,Zq.a1,Zq.a2,Zq.a3])
    go_cut [34] (fun v34 wc=>∃(kq:Nat) (x34_6:Bool),v34 = .bool x34_6/\aA (dA.j1 kq a0 a1 t994 x34_6=some (r1,r2))/\aA (kq<=kj2)/\aA (Below w.heap.size w wc))
    case first=>
     have H:=HC7.out;clear HC7;by_cases c8:(t994.size:Int)=0
     ·rw[if_pos c8]at H;have c8b0:((t994.size:Int) == 0)=true:=beq_iff_eq.mpr c8;have c8b1:((t994.size:Int) != 0)=false:=bne_eq_false_iff_eq.mpr c8;clear c8;(first|rw[c8b0]|(simp only[bG,bK];rw[c8b0])|skip);have H':=aA.mk H;clear H;go_wp2
      go_meet
      case rel=>exact⟨_,(true),Zq.sd,H',⟨by have:=HJ2.out;first|omega|exact Nat.le_refl _⟩,⟨Zq.bo⟩⟩
     ·rw[if_neg c8]at H;have c8b0:((t994.size:Int) == 0)=false:=beq_eq_false_iff_ne.mpr c8;have c8b1:((t994.size:Int) != 0)=true:=bne_iff_ne.mpr c8;(first|rw[c8b0]|(simp only[bG,bK];rw[c8b0])|skip);by_cases c9:(t994.size:Int)>1
      ·rw[if_pos c9]at H;have c9b0:decide (1<(t994.size:Int))=true:=decide_eq_true c9;have c9b1:decide (1<t994.size)=true:=decide_eq_true (by omega);clear c9;by_cases c10:0<(t994.size:Int)
       ·rw[if_pos c10]at H;have c10b0:decide (0<(t994.size:Int))=true:=decide_eq_true c10;have c10b1:decide (0<t994.size)=true:=decide_eq_true (by omega);clear c10;by_cases c12:(bt t994 0)=48
        ·rw[if_pos c12]at H;have c12b0:((bt t994 0) == 48)=true:=beq_iff_eq.mpr c12;have c12b1:((bt t994 0) != 48)=false:=bne_eq_false_iff_eq.mpr c12;clear c12;have H':=aA.mk H;clear H;have p11:0<=(0:Int):=(by omega);have q11:0<t994.size:=(by have:(0:Int)<(t994.size:Int):=of_decide_eq_true Zq.am;omega);have hx11:∀h:0<t994.size,((t994[0]'h).toNat:Int)=bt t994 0:=wJ t994 0;clear p11;have qi11:(0<(t994.size:Int))=True:=eq_true (of_decide_eq_true Zq.am);replace q11:=eq_true q11;go_wp2
         go_meet
         case rel=>exact⟨_,(true),Zq.sd,H',⟨by have:=HJ2.out;first|omega|exact Nat.le_refl _⟩,⟨Zq.bo⟩⟩
        ·rw[if_neg c12]at H;have c12b0:((bt t994 0) == 48)=false:=beq_eq_false_iff_ne.mpr c12;have c12b1:((bt t994 0) != 48)=true:=bne_iff_ne.mpr c12;have H':=aA.mk H;clear H;have p11:0<=(0:Int):=(by omega);have q11:0<t994.size:=(by have:(0:Int)<(t994.size:Int):=of_decide_eq_true Zq.am;omega);have hx11:∀h:0<t994.size,((t994[0]'h).toNat:Int)=bt t994 0:=wJ t994 0;clear p11;have qi11:(0<(t994.size:Int))=True:=eq_true (of_decide_eq_true Zq.am);replace q11:=eq_true q11;go_wp2
         go_meet
         case rel=>exact⟨_,((a0.toList == ([45,48]:List UInt8))),Zq.sd,H',⟨by have:=HJ2.out;first|omega|exact Nat.le_refl _⟩,⟨Zq.bo⟩⟩
       ·rw[if_neg c10]at H;exact absurd H (by simp)
      ·rw[if_neg c9]at H;have c9b0:decide (1<(t994.size:Int))=false:=decide_eq_false c9;have c9b1:decide (1<t994.size)=false:=decide_eq_false (by omega);clear c9;have H':=aA.mk H;clear H;go_wp2
       go_meet
       case rel=>exact⟨_,((a0.toList == ([45,48]:List UInt8))),Zq.sd,H',⟨by have:=HJ2.out;first|omega|exact Nat.le_refl _⟩,⟨Zq.bo⟩⟩
    case rest=>
     clear HC7;(try clear c1);(try clear p1);(try clear q1);(try clear hx1);(try clear qi1);(try clear p2);(try clear c3);(try clear c4);(try clear c4b0);(try clear c5);(try clear c6);(try clear c8);(try clear c8b0);(try clear c8b1);(try clear c9);(try clear c9b0);(try clear c9b1);(try clear c10);(try clear c10b0);(try clear c10b1);(try clear p11);(try clear q11);(try clear hx11);(try clear qi11);(try clear c12);(try clear c12b0);(try clear c12b1);(try clear p11);(try clear p2);(try clear q11);obtain⟨kq,x34_6,rfl,HA,HJ6,HB⟩:=hcut;cases kq with
     | zero=>exact absurd HA.out (by simp[dA.j1])
     | succ kj6=>
      have H:=HA.out;clear HA;simp only[dA.j1]at H;by_cases c13:x34_6=true
      ·subst c13;(have H1:(some ((⟨#[]⟩:ByteArray),1))=some (r1,r2):=by rw[if_pos rfl]at H;exact H);clear H;have H:=H1;clear H1;simp only[Option.some.injEq,Prod.mk.injEq]at H;obtain⟨rfl,rfl⟩:=H;go_wp2
       go_ret2
       exact⟨Zq.ew,Zq.bo⟩
      ·replace c13:=Bool.eq_false_iff.mpr c13;subst c13;(have H1:(dA.l0 kj6 a0 a1 t994 0)=some (r1,r2):=by rw[if_neg (show ¬(false=true) by decide)]at H;exact H);clear H;have H:=H1;clear H1;have H':=aA.mk H;clear H;go_wp2
       go_loopg [7] kj6 (fun kq v7 w'=>∃(x7_3:Int),v7 = .int .i64 x7_3/\aA (dA.l0 kq a0 a1 t994 x7_3=some (r1,r2))/\aA (kq<=kj6)/\aA (Below w.heap.size w w'))
       case atStart=>exact⟨(0),Zq.sd,H',⟨Nat.le_refl _⟩,⟨Zq.bo⟩⟩
       case round=>
        clear H';(try clear c1);(try clear p1);(try clear q1);(try clear hx1);(try clear qi1);(try clear p2);(try clear c3);(try clear c4);(try clear c4b0);(try clear c5);(try clear c6);(try clear c8);(try clear c8b0);(try clear c8b1);(try clear c9);(try clear c9b0);(try clear c9b1);(try clear c10);(try clear c10b0);(try clear c10b1);(try clear p11);(try clear q11);(try clear hx11);(try clear qi11);(try clear c12);(try clear c12b0);(try clear c12b1);(try clear c13);(try clear p1);(try clear p11);(try clear p2);(try clear q1);(try clear q11);obtain⟨x7_3,rfl,HA,HK3,HB⟩:=hrel;cases gk with
        | zero=>exact absurd HA.out (by simp[dA.l0])
        | succ k3=>
         have H:=HA.out;clear HA;simp only[dA.l0]at H;by_cases c14:x7_3<(t994.size:Int)
         ·rw[if_pos c14]at H;have c14b0:decide (x7_3<(t994.size:Int))=true:=decide_eq_true c14;clear c14;by_cases c15:0<=x7_3
          ·rw[if_pos c15]at H;have c15b0:decide (0<=x7_3)=true:=decide_eq_true c15;clear c15;obtain⟨t995,A17,H⟩:=Zq.mq H;(try dsimp only at H);by_cases c18:t995>=a1
           ·rw[if_pos c18]at H;have c18b0:decide (a1<=t995)=true:=decide_eq_true c18;clear c18;simp only[Option.some.injEq,Prod.mk.injEq]at H;obtain⟨rfl,rfl⟩:=H;have p16:0<=(x7_3:Int):=of_decide_eq_true Zq.am;have q16:x7_3<(t994.size:Int):=of_decide_eq_true Zq.am;have hx16:=wJ t994 x7_3;replace p16:=eq_true p16;replace q16:=eq_true q16;go_wp2_with (first|((with_reducible refine Zq.c 123 rfl ?_);refine Zq.g (some 44) Tryz.func123 #[.int .u8 (bt t994 x7_3)] ?_;(with_reducible refine(mJ.calls k3 (bt t994 x7_3) t995 _ A17.out).mono ?_);rintro e w' ⟨rfl,nd,rfl⟩;refine⟨_,rfl,?_⟩))
            go_ret2
            exact⟨Zq.ew,Zq.bo⟩
           ·rw[if_neg c18]at H;have c18b0:decide (a1<=t995)=false:=decide_eq_false c18;clear c18;have H':=aA.mk H;clear H;have p16:0<=(x7_3:Int):=of_decide_eq_true Zq.am;have q16:x7_3<(t994.size:Int):=of_decide_eq_true Zq.am;have hx16:=wJ t994 x7_3;replace p16:=eq_true p16;replace q16:=eq_true q16;go_wp2_with (first|((with_reducible refine Zq.c 123 rfl ?_);refine Zq.g (some 44) Tryz.func123 #[.int .u8 (bt t994 x7_3)] ?_;(with_reducible refine(mJ.calls k3 (bt t994 x7_3) t995 _ A17.out).mono ?_);rintro e w' ⟨rfl,nd,rfl⟩;refine⟨_,rfl,?_⟩))
            go_roundg k3
            (case measure=>have:=HJ2.out;have:=HJ6.out;have:=HK3.out;omega);case rel=>exact⟨(wrap64 (x7_3+1)),Zq.sd,H',⟨by have:=HJ2.out;have:=HJ6.out;have:=HK3.out;omega⟩,⟨Zq.bo⟩⟩
          ·rw[if_neg c15]at H;exact absurd H (by simp)
         ·rw[if_neg c14]at H;have c14b0:decide (x7_3<(t994.size:Int))=false:=decide_eq_false c14;clear c14;have H':=aA.mk H;clear H;go_wp2
          go_loopg [8,9] k3 (fun kq v8 v9 w'=>∃(x8_4:ByteArray) (x9_4:Int),v8 = .string x8_4/\v9 = .int .i64 x9_4/\aA (dA.l1 kq a0 a1 t994 x8_4 x9_4=some (r1,r2))/\aA (kq<=k3)/\aA (Below w.heap.size w w'))
          case atStart=>exact⟨((⟨#[48]⟩:ByteArray)),(0),Zq.sd,Zq.sd,H',⟨Nat.le_refl _⟩,⟨Zq.bo⟩⟩
          case round=>
           clear H';(try clear c1);(try clear p1);(try clear q1);(try clear hx1);(try clear qi1);(try clear p2);(try clear c3);(try clear c4);(try clear c4b0);(try clear c5);(try clear c6);(try clear p6);(try clear c8);(try clear c8b0);(try clear c8b1);(try clear c9);(try clear c9b0);(try clear c9b1);(try clear c10);(try clear c10b0);(try clear c10b1);(try clear p11);(try clear q11);(try clear hx11);(try clear qi11);(try clear c12);(try clear c12b0);(try clear c12b1);(try clear c13);(try clear c14);(try clear c14b0);(try clear c15);(try clear c15b0);(try clear p16);(try clear q16);(try clear hx16);(try clear c18);(try clear c18b0);(try clear p1);(try clear p11);(try clear p16);(try clear p2);(try clear q1);(try clear q11);(try clear q16);obtain⟨x8_4,x9_4,rfl,rfl,HA,HK4,HB⟩:=hrel;cases gk with
           | zero=>exact absurd HA.out (by simp[dA.l1])
           | succ k4=>
            have H:=HA.out;clear HA;simp only[dA.l1]at H;by_cases c19:x9_4<(t994.size:Int)
            ·rw[if_pos c19]at H;have c19b0:decide (x9_4<(t994.size:Int))=true:=decide_eq_true c19;clear c19;obtain⟨t996,A20,H⟩:=Zq.mq H;(try dsimp only at H);obtain⟨t997,A21,H⟩:=Zq.mq H;(try dsimp only at H);by_cases c22:0<=x9_4
             ·rw[if_pos c22]at H;have c22b0:decide (0<=x9_4)=true:=decide_eq_true c22;clear c22;obtain⟨t998,A24,H⟩:=Zq.mq H;(try dsimp only at H);obtain⟨t999,A25,H⟩:=Zq.mq H;(try dsimp only at H);obtain⟨t1000,A26,H⟩:=Zq.mq H;(try dsimp only at H);by_cases c27:(t1000.size:Int)>400
              ·rw[if_pos c27]at H;have c27b0:decide (400<(t1000.size:Int))=true:=decide_eq_true c27;have c27b1:decide (400<t1000.size)=true:=decide_eq_true (by omega);clear c27;simp only[Option.some.injEq,Prod.mk.injEq]at H;obtain⟨rfl,rfl⟩:=H;(try go_wp2);replace HB:=aA.mk (aT HB.out);have p23:0<=(x9_4:Int):=of_decide_eq_true Zq.am;have q23:x9_4<(t994.size:Int):=of_decide_eq_true Zq.am;have hx23:=wJ t994 x9_4;replace p23:=eq_true p23;replace q23:=eq_true q23;refine dG (n:=11) (S:=fun w'=>True) (ds:=[]) #[false,false,false,false,false,false,false,false,false,false,false] (by kernel_rfl) rfl rfl trivial (fun hHeld=>?_);refine bF dA.aB1 dA.aA0 (fun HT_ HW_=>?_);generalize wr.drew=w28 at HB hHeld⊢;refine Zq.pu 0 (some 53) (Zq.bs 11 1) ?_;refine Zq.pu 1 (some 54) (Zq.bs 11 3) ?_;refine Zq.pu 4 (some 57) (Zq.bs 11 19) ?_;refine Zq.pu 5 (some 58) (Zq.bs 11 51) ?_;refine mV (i:=6) (N:=some 59) (v:=?_) (a':=?_) #[true,true,false,false,true,true,true,false,false,false,false] rfl rfl (iJ HT_.out HW_.out (by kernel_rfl)) (fun _ _ _ h=>h) (Or.inl ⟨by rfl,?_⟩) hHeld ?_ ?_;rotate_left;(·intro w' _;go_simp;with_reducible rfl);rotate_left;(·simp only[Act.put,Zq.a1,Zq.a2,Zq.a3,bG,bK];rfl);refine gF (i:=2) (N:=some 55) #[true,true,true,false,true,true,true,false,false,false,false] rfl rfl (bZ HT_.out (by kernel_rfl)) (by decide) (fun K hK=>?_)
               refine eQ Tryz.func88 (by kernel_rfl) rfl #[.int .i64 a1] (by rfl) rfl rfl (by(try simp only[List.map_toArray,List.map_cons,List.map_nil]);first|done|rfl|(simp only[List.length_drop,List.length_take];rfl)) ?_;(with_reducible refine(bM.calls k4 a1 t996 _ A20.out).mono ?_);rintro e w29 ⟨rfl,hb⟩;refine⟨_,rfl,?_⟩;replace HB:=aA.mk (aC Zq.bo hb);(try clear hb);(try clear hb2);(try clear hk);(try clear hi);refine hK.out _ _ trivial (fun hHeld=>?_);clear hK K;refine dO (a':=?_) ?_ ?_;rotate_left;(·show Act.put _ (some 55) _=_;simp only[Act.put,Zq.a1,Zq.a2,Zq.a3,bG,bK];rfl);refine gF (i:=3) (N:=some 56) #[true,true,true,true,true,true,true,false,false,false,false] rfl rfl (bZ HT_.out (by kernel_rfl)) (by decide) (fun K hK=>?_);refine eQ Tryz.func29 (by kernel_rfl) rfl #[.string x8_4,.string t996] (by rfl) rfl rfl (by(try simp only[List.map_toArray,List.map_cons,List.map_nil]);first|done|rfl|(simp only[List.length_drop,List.length_take];rfl)) ?_;(with_reducible refine(cZ.calls k4 x8_4 t996 t997 _ A21.out).mono ?_);rintro e w30 ⟨rfl,hb⟩;refine⟨_,rfl,?_⟩;replace HB:=aA.mk (aC Zq.bo hb);(try clear hb);(try clear hb2);(try clear hk);(try clear hi);refine hK.out _ _ trivial (fun hHeld=>?_);clear hK K;refine dO (a':=?_) ?_ ?_;rotate_left;(·show Act.put _ (some 56) _=_;simp only[Act.put,Zq.a1,Zq.a2,Zq.a3,bG,bK];rfl);refine gF (i:=7) (N:=some 60) #[true,true,true,true,true,true,true,true,false,false,false] rfl rfl (bZ HT_.out (by kernel_rfl)) (by decide) (fun K hK=>?_)
               refine eQ Tryz.func123 (by kernel_rfl) rfl #[.int .u8 (bt t994 x9_4)] (by rfl) rfl rfl (by(try simp only[List.map_toArray,List.map_cons,List.map_nil]);first|done|rfl|(simp only[List.length_drop,List.length_take];rfl)) ?_;(with_reducible refine(mJ.calls k4 (bt t994 x9_4) t998 _ A24.out).mono ?_);rintro e w' ⟨rfl,nd,rfl⟩;refine⟨_,rfl,?_⟩;refine hK.out _ _ trivial (fun hHeld=>?_);clear hK K;refine dO (a':=?_) ?_ ?_;rotate_left;(·show Act.put _ (some 60) _=_;simp only[Act.put,Zq.a1,Zq.a2,Zq.a3,bG,bK];rfl);refine gF (i:=8) (N:=some 61) #[true,true,true,true,true,true,true,true,true,false,false] rfl rfl (bZ HT_.out (by kernel_rfl)) (by decide) (fun K hK=>?_);refine eQ Tryz.func88 (by kernel_rfl) rfl #[.int .i64 t998] (by rfl) rfl rfl (by(try simp only[List.map_toArray,List.map_cons,List.map_nil]);first|done|rfl|(simp only[List.length_drop,List.length_take];rfl)) ?_;(with_reducible refine(bM.calls k4 t998 t999 _ A25.out).mono ?_);rintro e w31 ⟨rfl,hb⟩;refine⟨_,rfl,?_⟩;replace HB:=aA.mk (aC Zq.bo hb);(try clear hb);(try clear hb2);(try clear hk);(try clear hi);refine hK.out _ _ trivial (fun hHeld=>?_);clear hK K;refine dO (a':=?_) ?_ ?_;rotate_left;(·show Act.put _ (some 61) _=_;simp only[Act.put,Zq.a1,Zq.a2,Zq.a3,bG,bK];rfl);refine gF (i:=9) (N:=some 62) #[true,true,true,true,true,true,true,true,true,true,false] rfl rfl (bZ HT_.out (by kernel_rfl)) (by decide) (fun K hK=>?_)
               refine eQ Tryz.func32 (by kernel_rfl) rfl #[.string t997,.string t999] (by rfl) rfl rfl (by(try simp only[List.map_toArray,List.map_cons,List.map_nil]);first|done|rfl|(simp only[List.length_drop,List.length_take];rfl)) ?_;(with_reducible refine(fG.calls k4 t997 t999 t1000 _ A26.out).mono ?_);rintro e w32 ⟨rfl,hb⟩;refine⟨_,rfl,?_⟩;replace HB:=aA.mk (aC Zq.bo hb);(try clear hb);(try clear hb2);(try clear hk);(try clear hi);refine hK.out _ _ trivial (fun hHeld=>?_);clear hK K;refine dO (a':=?_) ?_ ?_;rotate_left;(·show Act.put _ (some 62) _=_;simp only[Act.put,Zq.a1,Zq.a2,Zq.a3,bG,bK];rfl);refine Zq.pu 10 (some 8) (Zq.bs 11 2047) ?_;refine eZ (bV HT_.out (by kernel_rfl)) ?_;try go_wp2
               go_ret2
               exact⟨Zq.ew,Zq.bo⟩
              ·rw[if_neg c27]at H;have c27b0:decide (400<(t1000.size:Int))=false:=decide_eq_false c27;have c27b1:decide (400<t1000.size)=false:=decide_eq_false (by omega);clear c27;have H':=aA.mk H;clear H;(try go_wp2);replace HB:=aA.mk (aT HB.out);have p23:0<=(x9_4:Int):=of_decide_eq_true Zq.am;have q23:x9_4<(t994.size:Int):=of_decide_eq_true Zq.am;have hx23:=wJ t994 x9_4;replace p23:=eq_true p23;replace q23:=eq_true q23;refine dG (n:=11) (S:=fun w'=>True) (ds:=[]) #[false,false,false,false,false,false,false,false,false,false,false] (by kernel_rfl) rfl rfl trivial (fun hHeld=>?_);refine bF dA.aB1 dA.aA0 (fun HT_ HW_=>?_);generalize wr.drew=w33 at HB hHeld⊢;refine Zq.pu 0 (some 53) (Zq.bs 11 1) ?_;refine Zq.pu 1 (some 54) (Zq.bs 11 3) ?_;refine Zq.pu 4 (some 57) (Zq.bs 11 19) ?_;refine Zq.pu 5 (some 58) (Zq.bs 11 51) ?_;refine mV (i:=6) (N:=some 59) (v:=?_) (a':=?_) #[true,true,false,false,true,true,true,false,false,false,false] rfl rfl (iJ HT_.out HW_.out (by kernel_rfl)) (fun _ _ _ h=>h) (Or.inl ⟨by rfl,?_⟩) hHeld ?_ ?_;rotate_left;(·intro w' _;go_simp;with_reducible rfl);rotate_left;(·simp only[Act.put,Zq.a1,Zq.a2,Zq.a3,bG,bK];rfl);refine gF (i:=2) (N:=some 55) #[true,true,true,false,true,true,true,false,false,false,false] rfl rfl (bZ HT_.out (by kernel_rfl)) (by decide) (fun K hK=>?_)
               refine eQ Tryz.func88 (by kernel_rfl) rfl #[.int .i64 a1] (by rfl) rfl rfl (by(try simp only[List.map_toArray,List.map_cons,List.map_nil]);first|done|rfl|(simp only[List.length_drop,List.length_take];rfl)) ?_;(with_reducible refine(bM.calls k4 a1 t996 _ A20.out).mono ?_);rintro e w34 ⟨rfl,hb⟩;refine⟨_,rfl,?_⟩;replace HB:=aA.mk (aC Zq.bo hb);(try clear hb);(try clear hb2);(try clear hk);(try clear hi);refine hK.out _ _ trivial (fun hHeld=>?_);clear hK K;refine dO (a':=?_) ?_ ?_;rotate_left;(·show Act.put _ (some 55) _=_;simp only[Act.put,Zq.a1,Zq.a2,Zq.a3,bG,bK];rfl);refine gF (i:=3) (N:=some 56) #[true,true,true,true,true,true,true,false,false,false,false] rfl rfl (bZ HT_.out (by kernel_rfl)) (by decide) (fun K hK=>?_);refine eQ Tryz.func29 (by kernel_rfl) rfl #[.string x8_4,.string t996] (by rfl) rfl rfl (by(try simp only[List.map_toArray,List.map_cons,List.map_nil]);first|done|rfl|(simp only[List.length_drop,List.length_take];rfl)) ?_;(with_reducible refine(cZ.calls k4 x8_4 t996 t997 _ A21.out).mono ?_);rintro e w35 ⟨rfl,hb⟩;refine⟨_,rfl,?_⟩;replace HB:=aA.mk (aC Zq.bo hb);(try clear hb);(try clear hb2);(try clear hk);(try clear hi);refine hK.out _ _ trivial (fun hHeld=>?_);clear hK K;refine dO (a':=?_) ?_ ?_;rotate_left;(·show Act.put _ (some 56) _=_;simp only[Act.put,Zq.a1,Zq.a2,Zq.a3,bG,bK];rfl);refine gF (i:=7) (N:=some 60) #[true,true,true,true,true,true,true,true,false,false,false] rfl rfl (bZ HT_.out (by kernel_rfl)) (by decide) (fun K hK=>?_)
               refine eQ Tryz.func123 (by kernel_rfl) rfl #[.int .u8 (bt t994 x9_4)] (by rfl) rfl rfl (by(try simp only[List.map_toArray,List.map_cons,List.map_nil]);first|done|rfl|(simp only[List.length_drop,List.length_take];rfl)) ?_;(with_reducible refine(mJ.calls k4 (bt t994 x9_4) t998 _ A24.out).mono ?_);rintro e w' ⟨rfl,nd,rfl⟩;refine⟨_,rfl,?_⟩;refine hK.out _ _ trivial (fun hHeld=>?_);clear hK K;refine dO (a':=?_) ?_ ?_;rotate_left;(·show Act.put _ (some 60) _=_;simp only[Act.put,Zq.a1,Zq.a2,Zq.a3,bG,bK];rfl);refine gF (i:=8) (N:=some 61) #[true,true,true,true,true,true,true,true,true,false,false] rfl rfl (bZ HT_.out (by kernel_rfl)) (by decide) (fun K hK=>?_);refine eQ Tryz.func88 (by kernel_rfl) rfl #[.int .i64 t998] (by rfl) rfl rfl (by(try simp only[List.map_toArray,List.map_cons,List.map_nil]);first|done|rfl|(simp only[List.length_drop,List.length_take];rfl)) ?_;(with_reducible refine(bM.calls k4 t998 t999 _ A25.out).mono ?_);rintro e w36 ⟨rfl,hb⟩;refine⟨_,rfl,?_⟩;replace HB:=aA.mk (aC Zq.bo hb);(try clear hb);(try clear hb2);(try clear hk);(try clear hi);refine hK.out _ _ trivial (fun hHeld=>?_);clear hK K;refine dO (a':=?_) ?_ ?_;rotate_left;(·show Act.put _ (some 61) _=_;simp only[Act.put,Zq.a1,Zq.a2,Zq.a3,bG,bK];rfl);refine gF (i:=9) (N:=some 62) #[true,true,true,true,true,true,true,true,true,true,false] rfl rfl (bZ HT_.out (by kernel_rfl)) (by decide) (fun K hK=>?_)
               refine eQ Tryz.func32 (by kernel_rfl) rfl #[.string t997,.string t999] (by rfl) rfl rfl (by(try simp only[List.map_toArray,List.map_cons,List.map_nil]);first|done|rfl|(simp only[List.length_drop,List.length_take];rfl)) ?_;(with_reducible refine(fG.calls k4 t997 t999 t1000 _ A26.out).mono ?_);rintro e w37 ⟨rfl,hb⟩;refine⟨_,rfl,?_⟩;replace HB:=aA.mk (aC Zq.bo hb);(try clear hb);(try clear hb2);(try clear hk);(try clear hi);refine hK.out _ _ trivial (fun hHeld=>?_);clear hK K;refine dO (a':=?_) ?_ ?_;rotate_left;(·show Act.put _ (some 62) _=_;simp only[Act.put,Zq.a1,Zq.a2,Zq.a3,bG,bK];rfl);refine Zq.pu 10 (some 8) (Zq.bs 11 2047) ?_;refine eZ (bV HT_.out (by kernel_rfl)) ?_;try go_wp2
               go_roundg k4
               (case measure=>have:=HJ2.out;have:=HJ6.out;have:=HK3.out;have:=HK4.out;omega);case rel=>exact⟨(t1000),(wrap64 (x9_4+1)),Zq.sd,Zq.sd,H',⟨by have:=HJ2.out;have:=HJ6.out;have:=HK3.out;have:=HK4.out;omega⟩,⟨Zq.bo⟩⟩
             ·rw[if_neg c22]at H;exact absurd H (by simp)
            ·rw[if_neg c19]at H;have c19b0:decide (x9_4<(t994.size:Int))=false:=decide_eq_false c19;clear c19;obtain⟨t1001,A38,H⟩:=Zq.mq H;(try dsimp only at H);by_cases c39:t1001=true
             ·subst c39;(have H1:((fF.f x8_4).bind fun t1002=>(some (t1002,0)))=some (r1,r2):=by rw[if_pos rfl]at H;exact H);clear H;have H:=H1;clear H1;obtain⟨t1002,A40,H⟩:=Zq.mq H;(try dsimp only at H);simp only[Option.some.injEq,Prod.mk.injEq]at H;obtain⟨rfl,rfl⟩:=H;go_wp2_with (first|((with_reducible refine Zq.c 31 rfl ?_);refine Zq.g (some 67) Tryz.func31 #[.string a0] ?_;(with_reducible refine(aN.calls a0 true _ A38.out).mono ?_);rintro e w' ⟨rfl,nd,rfl⟩;refine⟨_,rfl,?_⟩)|((with_reducible refine Zq.c 84 rfl ?_);refine Zq.g (some 69) Tryz.func84 #[.string x8_4] ?_;(with_reducible refine(fF.calls x8_4 t1002 _ A40.out).mono ?_);rintro e w' ⟨rfl,nd,rfl⟩;refine⟨_,rfl,?_⟩))
              go_ret2
              exact⟨Zq.ew,Zq.bo⟩
             ·replace c39:=Bool.eq_false_iff.mpr c39;subst c39;(have H1:(some (x8_4,0))=some (r1,r2):=by rw[if_neg (show ¬(false=true) by decide)]at H;exact H);clear H;have H:=H1;clear H1;simp only[Option.some.injEq,Prod.mk.injEq]at H;obtain⟨rfl,rfl⟩:=H;go_wp2_with (first|((with_reducible refine Zq.c 31 rfl ?_);refine Zq.g (some 67) Tryz.func31 #[.string a0] ?_;(with_reducible refine(aN.calls a0 false _ A38.out).mono ?_);rintro e w' ⟨rfl,nd,rfl⟩;refine⟨_,rfl,?_⟩))
              go_ret2
              exact⟨Zq.ew,Zq.bo⟩
end Go.Proofs.YtjieekkkaekclaaGreatDoor.PR
namespace Go.Proofs.YtjieekkkaekclaaGreatDoor
open Go Go.RowKit Go.Pw.PrintWords Go.Proofs.YtjieekkkaekclaaGreatDoor.PR
def L36:List UInt8:=[48,49,50,51,52,53,54,55,56,57,97,98,99,100,101,102,103,104,105,106,107,108,109,110,111,112,113,114,115,116,117,118,119,120,121,122]
theorem aKK:(⟨#[48,49,50,51,52,53,54,55,56,57,97,98,99,100,101,102,103,104,105,106,107,108,109,110,111,112,113,114,115,116,117,118,119,120,121,122]⟩:ByteArray)=Mw.B L36:=rfl
theorem aKJ:∀i,i<36->L36.getD i 0=Mw.bch i:=by decide +kernel
theorem aKt (c:UInt8):Mw.lH c<36\/Mw.lH c=99:=by
 unfold Mw.lH;split;·left;omega
 ·split;(·left;omega);·exact .inr rfl
theorem aFw (c:UInt8):EvP (fun k=>mJ.f k (c.toNat:Int)) (Mw.lH c:Int):=by
 have loop:∀(d i:Nat),i+d=36->i<=Mw.lH c->EvP (fun k=>mJ.l0 k (c.toNat:Int) (i:Int)) (Mw.lH c:Int):=by
  intro d;induction d with
  | zero=>intro i hi hc;(have h99:Mw.lH c=99:=by rcases aKt c with h|h<;>omega);refine EvP.step (f:=fun _=>some (Mw.lH c:Int)) (fun k=>?_) (EvP.now _);simp only[mJ.l0];rw[if_neg (by omega),h99];rfl
  | succ d ih=>intro i hi hc;(have hb:bt (Mw.B L36) (i:Int)=((Mw.bch i).toNat:Int):=by rw[aDQ,Int.toNat_natCast,aKJ i (by omega)]);by_cases h:Mw.lH c=i;(·(have e:Mw.bch i=c:=by rw[<-h];exact Mw.aKu (by omega));refine EvP.step (f:=fun _=>some (Mw.lH c:Int)) (fun k=>?_) (EvP.now _);simp only[mJ.l0];rw[if_pos (by omega),if_pos (by omega),aKK,hb,e,if_pos rfl,h]);·(have ne:¬((Mw.bch i).toNat:Int)=(c.toNat:Int):=fun e=>h (by have e2:Mw.bch i=c:=UInt8.toNat_inj.mp (by omega);rw[<-e2];exact Mw.aBR (by omega)));refine EvP.step (fun k=>?_) (ih (i+1) (by omega) (by omega));simp only[mJ.l0];rw[if_pos (by omega),if_pos (by omega),aKK,hb,if_neg ne,show wrap64 ((i:Int)+1)=((i+1:Nat):Int)from eT (by omega) (by omega)]
 unfold mJ.f;exact loop 36 0 (by omega) (by omega)
theorem aM2 {r:Nat} (h:r<36):(Mw.B L36).extract r (r+1)=Mw.B [Mw.bch r]:=by rw[tL];have h2:L36.length=36:=rfl;rw[show r+1-r=1 by omega,List.drop_eq_getElem_cons (by omega),List.take_succ_cons,List.take_zero,<-getD_lt (by omega) 0,aKJ r h]
theorem aHn {L n:Nat} (h:n<10^L):Mw.Sz L (n:Int):=by show((n:Int)).natAbs<_;rw[Int.natAbs_natCast];exact h
theorem aLU (x:Int) (b:Nat) (hb:2<=b) (hb2:b<=36):∀(n:Nat) (o:List UInt8),Mw.Sz 400 (n:Int)->o.length+(Mw.sF b n).length<=1000000->
 EvP (fun k=>mE.l0 k (Mw.T x) (b:Int) (Mw.B o) (Mw.T (n:Int))) ((if Mw.sF b n++o=[]then Mw.B [48]else if x<0 then Mw.B (45::(Mw.sF b n++o))else Mw.B (Mw.sF b n++o)),0):=by
 intro n;induction n using Nat.strongRecOn with
 | _ n ih=>
  intro o hz hl;by_cases h0:n=0;·subst h0;rw[Mw.vP,List.nil_append];rw[Mw.vP]at hl;refine EvP.step (f:=fun _=>some ((if o=[]then Mw.B [48]else if x<0 then Mw.B (45::o)else Mw.B o),0)) (fun k=>?_) (EvP.now _);simp only[mE.l0];rw[if_pos ((fC ((0:Nat):Int)).mpr rfl),xN];by_cases ho:o=[];(·rw[if_pos ho,if_pos ho];rfl);·rw[if_neg ho,if_neg ho,kN];simp only[Option.bind_some];by_cases hx:x<0;(·rw[if_pos (decide_eq_true hx),if_pos hx,if_pos (by rw[eH];simp only[List.length_nil]at hl;omega),show(⟨#[45]⟩:ByteArray)=Mw.B [45]from rfl,lM];rfl);·rw[if_neg (by simpa using hx),if_neg hx]
  ·have hr:n%b<b:=Nat.mod_lt _ (by omega);have hq:n/b<n:=Nat.div_lt_self (by omega) (by omega);rw[Mw.yC hb h0,List.append_assoc];rw[Mw.yC hb h0,List.length_append]at hl;have zq:Mw.Sz 400 ((n/b:Nat):Int):=hz.of_le (by rw[Int.natAbs_natCast,Int.natAbs_natCast];omega);have nx:=ih (n/b) hq ([Mw.bch (n%b)]++o) zq (by simp only[List.length_append,List.length_cons,List.length_nil]at hl⊢;omega);have zb:Mw.Sz 400 (b:Int):=(aHn (L:=2) (by omega)).mono (by omega);have q:=uD (n:Int) (b:Int) (by omega) hz zb (by omega) (by omega);rw[show Int.tdiv (n:Int) (b:Int)=((n/b:Nat):Int)from rfl,show Int.tmod (n:Int) (b:Int)=((n%b:Nat):Int)from rfl]at q;have w1:wrap64 (((n%b:Nat):Int)+1)=((n%b+1:Nat):Int):=eT (by omega) (by omega);refine EvP.step (f:=fun k=>(bM.f k (b:Int)).bind fun t988=>((dW.f k (Mw.T (n:Int)) t988).bind fun bt989=>((iD.f k bt989.2).bind fun bt991=>(if 0<=bt991.1 then(if bt991.1<=(wrap64 (bt991.1+1))then(if(wrap64 (bt991.1+1))<=36 then(if((Mw.B L36).extract (bt991.1:Int).toNat ((wrap64 (bt991.1+1)):Int).toNat).size+(Mw.B o).size<=9223372036854775807 then(mE.l0 k (Mw.T x) (b:Int) (((Mw.B L36).extract (bt991.1:Int).toNat ((wrap64 (bt991.1+1)):Int).toNat)++(Mw.B o)) bt989.1)else(none))else(none))else(none))else(none))))) (fun k=>?_) ?_;·simp only[mE.l0];rw[if_neg (fun h=>h0 (by have:=(fC _).mp h;omega)),aKK]
   ·refine EvP.bind (kU (b:Int) (by omega)) (EvP.bind q (EvP.bind (aEG ((n%b:Nat):Int) (Nat.lt_of_le_of_lt (show(((n%b:Nat):Int)).natAbs<=36 by omega) (by decide))) ?_));dsimp only;rw[w1,Int.toNat_natCast,Int.toNat_natCast,aM2 (by omega)];clear w1;refine EvP.fM (by omega) (EvP.fM (by omega) (EvP.fM (by omega) (EvP.fM (by rw[eH,eH];simp only[List.length_cons,List.length_nil];omega) ?_)));rw[lM];exact nx
theorem aBO {b n:Nat} (hb:2<=b):Mw.sF b n=[]<->n=0:=by
 constructor;·intro h;by_cases h0:n=0;(·exact h0);·rw[Mw.yC hb h0]at h;simp at h
 ·intro h;rw[h,Mw.vP]
set_option exponentiation.threshold 2000 in
theorem aIJ {b n:Nat} (hb:2<=b) (hz:Mw.Sz 400 (n:Int)):(Mw.sF b n).length<=1600:=by rw[Mw.sF,List.length_reverse];refine Mw.aBP hb 1600 n ?_;have h:((n:Int)).natAbs<10^400:=hz;rw[Int.natAbs_natCast]at h;refine Nat.lt_of_lt_of_le h ?_;rw[show(1600:Nat)=4*400 from rfl,Nat.pow_mul];exact Nat.pow_le_pow_left (by omega) _
theorem aLV (a:List UInt8) (ha:a.length<=1000000) (b:Int):EvP (fun k=>mE.f k (Mw.B a) b) (Mw.B (Mw.vQ a b).1,(Mw.vQ a b).2):=by
 unfold mE.f;refine EvP.bind (lG a ha) ?_;unfold Mw.vQ;by_cases ht:Mw.iP a=0;·obtain⟨x,e1,e2,e3,z⟩:=lX ht;have bad:EvP (fun k=>mE.j0 k (Mw.T x) b true) (Mw.B [],(2:Int)):=EvP.step (f:=fun _=>some (Mw.B [],2)) (fun k=>by simp only[mE.j0];rw[if_pos trivial];rfl) (EvP.now _);rw[if_pos ht,e2,e1];refine EvP.fM ht ?_;by_cases h1:b<2;(·rw[if_pos h1];exact EvP.fM h1 bad);·rw[if_neg h1];refine EvP.jC h1 ?_;by_cases h2:36<b;(·rw[if_pos h2,decide_eq_true (show b>36 from h2)];exact bad);·rw[if_neg h2,decide_eq_false (show ¬b>36 from h2)];obtain⟨B,rfl⟩:∃B:Nat,b=B:=⟨b.toNat,by omega⟩;rw[Int.toNat_natCast];have zn:Mw.Sz 400 ((x.natAbs:Nat):Int):=z.of_le (by rw[Int.natAbs_natCast];exact Nat.le_refl _);have key:=aLU x B (by omega) (by omega) x.natAbs [] zn (by have:=aIJ (b:=B) (by omega) zn;rw[List.length_nil];omega);rw[List.append_nil]at key;(have fin:((if Mw.sF B x.natAbs=[]then Mw.B [48]else if x<0 then Mw.B (45::Mw.sF B x.natAbs)else Mw.B (Mw.sF B x.natAbs)),(0:Int))=(Mw.B (Mw.zD B x),0):=by unfold Mw.zD;by_cases h0:x=0;(·rw[if_pos h0,if_pos ((aBO (by omega)).mpr (by omega))]);·rw[if_neg h0,if_neg (fun h=>h0 (by have:=(aBO (by omega)).mp h;omega))];split<;>rfl);rw[fin]at key;refine EvP.step (fun k=>?_) key;simp only[mE.j0];rw[if_neg (by simp),lL,zI];rfl
 ·rw[if_neg ht];exact EvP.jC ht (EvP.now _)
theorem aLP (b:Nat) (hb:1<=b) (l r:List UInt8):Mw.nX b l<=Mw.nX b (l++r):=by
 suffices H:∀(k:Nat) (r:List UInt8),r.length=k->Mw.nX b l<=Mw.nX b (l++r)from H _ r rfl
 intro k;induction k with
 | zero=>intro r h;rw[List.length_eq_zero_iff.mp h,List.append_nil];exact Nat.le_refl _
 | succ k ih=>intro r h;(have hne:r≠[]:=fun e=>by rw[e]at h;simp at h);obtain⟨q,c,rfl⟩:∃q c,r=q++[c]:=⟨r.dropLast,r.getLast hne,(List.dropLast_concat_getLast hne).symm⟩;rw[<-List.append_assoc,Mw.tK];have h1:=ih q (by simp at h;omega);have h2:=Nat.le_mul_of_pos_right (Mw.nX b (l++q)) hb;omega
theorem aG9 {x y:Nat} (h:x<=y) (hx:Mw.gZ (x:Int)≠0):Mw.gZ (y:Int)≠0:=fun hy=>hx (by
 unfold Mw.gZ at hy⊢;rw[Int.natAbs_natCast]at hy⊢;have hle:(Mw.gU y).length<=400:=by split at hy<;>omega
 have h1:=(Mw.iZ y 400 (by omega)).mp hle;have h2:=(Mw.iZ x 400 (by omega)).mpr (by omega);rw[if_neg (by omega)])
theorem aEt (b:Nat) (s t:List UInt8):Mw.gZ (Mw.wR b s t)=Mw.gZ (Mw.nX b t:Int):=by
 unfold Mw.wR;split;·unfold Mw.gZ;rw[Int.natAbs_neg]
 ·rfl
def aB7 (s:List UInt8) (b:Nat):ByteArray×Int:=if Mw.gZ (Mw.wR b s (Mw.unm s))=0 then(Mw.T (Mw.wR b s (Mw.unm s)),0)else(Mw.B [],13)
theorem aEr (s:List UInt8):Mw.isM s=decide ((Mw.unm s).length<s.length):=by
 cases h:Mw.isM s with
 | false=>rw[Mw.yG h];simp
 | true=>
  obtain⟨l,rfl⟩:∃l,s=45::l:=by
   cases s with
   | nil=>simp[Mw.isM]at h
   | cons c l=>refine⟨l,?_⟩;simp[Mw.isM]at h;rw[h]
  rw[Mw.xQ];simp
theorem aLD (s t:List UInt8) (b:Nat) (ht:Mw.unm s=t) (hb:2<=b) (hb2:b<=36) (hl:t.length<=1000000) (hg:∀i,i<t.length->Mw.lH (t.getD i 0)<b):∀(d i:Nat),i+d=t.length->Mw.gZ ((Mw.nX b (t.take i):Nat):Int)=0->
 EvP (fun k=>dA.l1 k (Mw.B s) (b:Int) (Mw.B t) (Mw.T ((Mw.nX b (t.take i):Nat):Int)) (i:Int)) (aB7 s b):=by
 have zb:Mw.Sz 400 (b:Int):=(aHn (L:=2) (by omega)).mono (by omega);intro d;induction d with
 | zero=>intro i hi h0;rw[List.take_of_length_le (by omega)]at h0⊢;refine EvP.step (f:=fun _=>some (aB7 s b)) (fun k=>?_) (EvP.now _);simp only[dA.l1];rw[if_neg (by rw[eH];omega),aB6,aEr,ht];simp only[Option.bind_some];(have hg2:Mw.gZ (Mw.wR b s t)=0:=by rw[aEt];exact h0);unfold aB7;rw[ht,if_pos hg2];unfold Mw.wR;by_cases hm:t.length<s.length;(·rw[if_pos (decide_eq_true hm),if_pos hm,qP _ (by(have:(Mw.gU ((Mw.nX b t:Nat):Int).natAbs).length<=400:=by unfold Mw.gZ at h0;split at h0<;>omega);omega)];rfl);·rw[if_neg (by simpa using hm),if_neg hm]
 | succ d ih=>
  intro i hi h0;(have hlt:i<t.length:=by omega);have hdig:=hg i hlt;(have etake:t.take (i+1)=t.take i++[t.getD i 0]:=by rw[List.take_succ_eq_append_getElem hlt,getD_lt hlt]);(have eval:Mw.nX b (t.take (i+1))=Mw.nX b (t.take i)*b+Mw.lH (t.getD i 0):=by rw[etake,Mw.tK]);have zv:Mw.Sz 400 ((Mw.nX b (t.take i):Nat):Int):=by refine Mw.Sz.uY ?_ (by omega);unfold Mw.gZ at h0;split at h0<;>omega
  have step:∀R,(EvP (fun k=>if((Mw.T ((Mw.nX b (t.take (i+1)):Nat):Int)).size:Int)>400 then(some ((⟨#[]⟩:ByteArray),(13:Int)))else(dA.l1 k (Mw.B s) (b:Int) (Mw.B t) (Mw.T ((Mw.nX b (t.take (i+1)):Nat):Int)) ((i+1:Nat):Int))) R)->
   EvP (fun k=>dA.l1 k (Mw.B s) (b:Int) (Mw.B t) (Mw.T ((Mw.nX b (t.take i):Nat):Int)) (i:Int)) R:=fun R hR=>by
   refine EvP.step (f:=fun k=>(bM.f k (b:Int)).bind fun t996=>((cZ.f k (Mw.T ((Mw.nX b (t.take i):Nat):Int)) t996).bind fun t997=>(if 0<=(i:Int)then((mJ.f k ((t.getD i 0).toNat:Int)).bind fun t998=>((bM.f k t998).bind fun t999=>((fG.f k t997 t999).bind fun t1000=>(if(t1000.size:Int)>400 then(some ((⟨#[]⟩:ByteArray),(13:Int)))else(dA.l1 k (Mw.B s) (b:Int) (Mw.B t) t1000 ((i+1:Nat):Int))))))else none))) (fun k=>?_) ?_;(·simp only[dA.l1];rw[if_pos (by rw[eH];omega),aDQ,Int.toNat_natCast,show wrap64 ((i:Int)+1)=((i+1:Nat):Int)from eT (by omega) (by omega)]);·refine EvP.bind (kU (b:Int) (by omega)) (EvP.bind (kW _ _ zv zb (by omega) (by omega)) (EvP.fM (by omega) (EvP.bind (aFw _) (EvP.bind (kU ((Mw.lH (t.getD i 0):Nat):Int) (by have:=aKt (t.getD i 0);omega)) ?_))));have zd:Mw.Sz 800 ((Mw.lH (t.getD i 0):Nat):Int):=(aHn (L:=2) (by omega)).mono (by omega);have pl:=rH _ _ (zv.mul zb) zd (by omega) (by omega);(have e:((Mw.nX b (t.take i):Nat):Int)*(b:Int)+((Mw.lH (t.getD i 0):Nat):Int)=((Mw.nX b (t.take (i+1)):Nat):Int):=by rw[eval,Int.natCast_add,Int.natCast_mul]);rw[e]at pl;exact EvP.bind pl hR
  (have sz:((Mw.T ((Mw.nX b (t.take (i+1)):Nat):Int)).size:Int)>400<->Mw.gZ ((Mw.nX b (t.take (i+1)):Nat):Int)≠0:=by rw[Mw.T,Mw.eY (by omega),eH];unfold Mw.gZ;split<;>omega);by_cases hb3:Mw.gZ ((Mw.nX b (t.take (i+1)):Nat):Int)=0;(·exact step _ (EvP.jC (fun h=>sz.mp h hb3) (ih (i+1) (by omega) hb3)));·(have big:Mw.gZ (Mw.wR b s t)≠0:=by rw[aEt];refine aG9 ?_ hb3;have:=aLP b (by omega) (t.take (i+1)) (t.drop (i+1));rwa[List.take_append_drop]at this);(have e:aB7 s b=(Mw.B [],13):=by unfold aB7;rw[ht,if_neg big]);rw[e];exact step _ (EvP.fM (sz.mpr hb3) (EvP.now _))
theorem aLE (s t:List UInt8) (b:Nat) (hb2:b<=36) (hl:t.length<=1000000) (R:ByteArray×Int) (r:(∀i,i<t.length->Mw.lH (t.getD i 0)<b)->EvP (fun k=>dA.l1 k (Mw.B s) (b:Int) (Mw.B t) (⟨#[48]⟩:ByteArray) 0) R):∀(d i:Nat),i+d=t.length->(∀j,j<i->Mw.lH (t.getD j 0)<b)->
 EvP (fun k=>dA.l0 k (Mw.B s) (b:Int) (Mw.B t) (i:Int)) (if Mw.sH b t=true then R else(Mw.B [],1)):=by
 intro d;induction d with
 | zero=>intro i hi hj;(have all:∀i,i<t.length->Mw.lH (t.getD i 0)<b:=fun j h=>hj j (by omega));rw[if_pos (rV.mpr all)];refine EvP.step (fun k=>?_) (r all);simp only[dA.l0];rw[if_neg (by rw[eH];omega)]
 | succ d ih=>intro i hi hj;refine EvP.step (f:=fun k=>(mJ.f k ((t.getD i 0).toNat:Int)).bind fun t995=>(if t995>=(b:Int)then(some ((⟨#[]⟩:ByteArray),(1:Int)))else(dA.l0 k (Mw.B s) (b:Int) (Mw.B t) ((i+1:Nat):Int)))) (fun k=>?_) ?_;(·simp only[dA.l0];rw[if_pos (by rw[eH];omega),if_pos (by omega),aDQ,Int.toNat_natCast,show wrap64 ((i:Int)+1)=((i+1:Nat):Int)from eT (by omega) (by omega)]);·refine EvP.bind (aFw _) ?_;by_cases h:Mw.lH (t.getD i 0)<b;(·refine EvP.jC (by omega) (ih (i+1) (by omega) (fun j h2=>?_));rcases Nat.lt_or_ge j i with h3|h3;(·exact hj j h3);·rw[show j=i by omega];exact h);·rw[if_neg (fun hf=>h (rV.mp hf i (by omega)))];exact EvP.fM (by omega) (EvP.now _)
theorem aLF (s:List UInt8) (hs:s.length<=1600) (n:Int):EvP (fun k=>dA.f k (Mw.B s) n) (Mw.B (Mw.vH s n).1,(Mw.vH s n).2):=by
 have bad:EvP (fun k=>dA.j0 k (Mw.B s) n true) (Mw.B [],(2:Int)):=EvP.step (f:=fun _=>some (Mw.B [],2)) (fun k=>by simp only[dA.j0];rw[if_pos trivial];rfl) (EvP.now _);unfold dA.f Mw.vH;by_cases h1:n<2;·rw[if_pos h1];exact EvP.fM h1 bad
 ·rw[if_neg h1];refine EvP.jC h1 ?_;by_cases h2:36<n;·rw[if_pos h2,decide_eq_true (show n>36 from h2)];exact bad
  ·rw[if_neg h2,decide_eq_false (show ¬n>36 from h2)];obtain⟨b,rfl⟩:∃b:Nat,n=b:=⟨n.toNat,by omega⟩;rw[Int.toNat_natCast];obtain⟨t,ht⟩:∃t,Mw.unm s=t:=⟨_,rfl⟩;rw[ht];have hM:=aEr s
   have hlen:t.length<=s.length:=by
    rw[<-ht];cases h:Mw.isM s with
    | false=>rw[Mw.yG h];exact Nat.le_refl _
    | true=>rw[h]at hM;have:=of_decide_eq_true hM.symm;omega
   have jt:EvP (fun k=>dA.j1 k (Mw.B s) (b:Int) (Mw.B t) true) (Mw.B [],(1:Int)):=EvP.step (f:=fun _=>some (Mw.B [],1)) (fun k=>by simp only[dA.j1];rw[if_pos trivial];rfl) (EvP.now _);have jf:EvP (fun k=>dA.j1 k (Mw.B s) (b:Int) (Mw.B t) false) (if Mw.sH b t=true then aB7 s b else(Mw.B [],1)):=by have key:=aLE s t b (by omega) (by omega) (aB7 s b) (fun all=>by have:=aLD s t b ht (by omega) (by omega) (by omega) all t.length 0 (by omega) (by rw[List.take_zero,Mw.aAG];exact Mw.aKa);rw[List.take_zero,Mw.aAG,show Mw.T ((0:Nat):Int)=(⟨#[48]⟩:ByteArray)from aBY.symm]at this;exact this) t.length 0 (by omega) (fun j h=>by omega);refine EvP.step (fun k=>?_) key;simp only[dA.j1];rw[if_neg (by simp)];rfl
   have head:EvP (fun k=>dA.j0 k (Mw.B s) (b:Int) false) (if Mw.uA s t=true then(Mw.B [],1)else if Mw.sH b t=true then aB7 s b else(Mw.B [],1)):=by
    refine EvP.step (f:=fun k=>(if((Mw.B t).size:Int)=0 then(dA.j1 k (Mw.B s) (b:Int) (Mw.B t) true)else(if((Mw.B t).size:Int)>1 then(if 0<((Mw.B t).size:Int)then(if(bt (Mw.B t) 0)=48 then(dA.j1 k (Mw.B s) (b:Int) (Mw.B t) true)else(dA.j1 k (Mw.B s) (b:Int) (Mw.B t) ((Mw.B s).toList == ([45,48]:List UInt8))))else(none))else(dA.j1 k (Mw.B s) (b:Int) (Mw.B t) ((Mw.B s).toList == ([45,48]:List UInt8)))))) (fun k=>?_) ?_;·simp only[dA.j0];rw[if_neg (by simp),zH,ht];rfl
    ·rw[eH,xN];(have no:(1<t.length)->(s == ([45,48]:List UInt8))=false:=fun h=>beq_eq_false_iff_ne.mpr fun e=>by rw[e]at ht;rw[<-ht]at h;exact absurd h (by decide));cases t with
     | nil=>rw[if_pos (show Mw.uA s []=true from rfl)];exact EvP.fM (by simp) jt
     | cons c r=>
      refine EvP.jC (by simp only[List.length_cons];omega) ?_;(have hb0:bt (Mw.B (c::r)) 0=(c.toNat:Int):=by rw[aDQ];rfl);have hc:(c.toNat:Int)=48<->c=48:=⟨fun h=>UInt8.toNat_inj.mp (by have h48:(48:UInt8).toNat=48:=rfl;omega),fun h=>by rw[h];rfl⟩;(have fh:Mw.uA s (c::r)=((c == 48) && (decide (1<(c::r).length) || decide (1<s.length))):=by unfold Mw.uA;simp only[List.isEmpty_cons,List.head?_cons,Bool.false_or];rw[show(some c == some (48:UInt8))=(c == 48)from rfl]);by_cases h3:1<(c::r).length;·refine EvP.fM (by omega) (EvP.fM (by omega) ?_);rw[hb0,fh,decide_eq_true h3,Bool.true_or,Bool.and_true];by_cases h4:c=48;(·rw[if_pos (beq_iff_eq.mpr h4)];exact EvP.fM (hc.mpr h4) jt);·rw[if_neg (by simpa using h4),no h3];exact EvP.jC (fun h=>h4 (hc.mp h)) jf
      ·refine EvP.jC (by omega) ?_;have hr:r=[]:=List.length_eq_zero_iff.mp (by simp only[List.length_cons]at h3;omega);subst hr
       have eqv:(s == ([45,48]:List UInt8))=((c == 48) && (decide (1<[c].length) || decide (1<s.length))):=by
        rw[decide_eq_false h3,Bool.false_or];cases h:Mw.isM s with
        | false=>have e:=Mw.yG h;rw[ht]at e;rw[<-e,decide_eq_false (by simp),Bool.and_false];exact beq_eq_false_iff_ne.mpr (by simp)
        | true=>
         obtain⟨l,rfl⟩:∃l,s=45::l:=by
          cases s with
          | nil=>simp[Mw.isM]at h
          | cons d l=>refine⟨l,?_⟩;simp[Mw.isM]at h;rw[h]
         rw[Mw.xQ]at ht;subst ht;rw[decide_eq_true (by simp),Bool.and_true];by_cases h4:c=48;(·rw[h4];rfl);·rw[beq_eq_false_iff_ne.mpr h4];exact beq_eq_false_iff_ne.mpr (by simpa using h4)
       rw[fh,eqv];cases hh:((c == 48) && (decide (1<[c].length) || decide (1<s.length)))with
       | true=>rw[if_pos rfl];exact jt
       | false=>rw[if_neg (by simp)];exact jf
   (have fin:(if Mw.uA s t=true then(Mw.B [],(1:Int))else if Mw.sH b t=true then aB7 s b else(Mw.B [],1))=(Mw.B (if Mw.uA s t=true then(([]:List UInt8),(1:Int))else if Mw.sH b t=false then([],1)else if 1600<t.length then([],13)else if Mw.gZ (Mw.wR b s t)=0 then(Mw.jF (Mw.wR b s t),0)else([],13)).1,(if Mw.uA s t=true then(([]:List UInt8),(1:Int))else if Mw.sH b t=false then([],1)else if 1600<t.length then([],13)else if Mw.gZ (Mw.wR b s t)=0 then(Mw.jF (Mw.wR b s t),0)else([],13)).2):=by by_cases c1:Mw.uA s t=true;(·rw[if_pos c1,if_pos c1]);·rw[if_neg c1,if_neg c1];by_cases c2:Mw.sH b t=true;(·rw[if_pos c2,if_neg (by rw[c2];simp),if_neg (by omega)];unfold aB7;rw[ht];by_cases c3:Mw.gZ (Mw.wR b s t)=0;(·rw[if_pos c3,if_pos c3];rfl);·rw[if_neg c3,if_neg c3]);·rw[if_neg c2,if_pos (by simpa using c2)]);rw[fin]at head;exact head
end Go.Proofs.YtjieekkkaekclaaGreatDoor
