/- Lemmas for the claim beside this text. -/
import Derived.Test.YtjieekkkaekclaaGreatDoorZBAD
import Derived.Test.YtjieekkkaekclaaGreatDoorZBAK
import Derived.Test.YtjieekkkaekclaaGreatDoorZBAM
import Derived.Test.YtjieekkkaekclaaGreatDoorZBAT
set_option linter.all false
set_option linter.unusedVariables false
set_option linter.unusedSimpArgs false
set_option maxHeartbeats 8000000
set_option maxRecDepth 100000
namespace Go.Proofs.YtjieekkkaekclaaGreatDoor.PR
open Go.RowKit Go.Pw.PrintWords Go.Pw.PrintLast Go.Pw.PrintMore
attribute [local go_sem] eG dZ fE fD dM dL eF dY
mutual
def iD.j0:Nat->ByteArray->ByteArray->Bool->Option (Int×Bool)
 | 0,_,_,_=>none
 | k+1,x0,x4,x16=>if x16=true then(some (0,false))else(iD.l0 k x0 x4 0 0)
def iD.l0:Nat->ByteArray->ByteArray->Int->Int->Option (Int×Bool)
 | 0,_,_,_,_=>none
 | k+1,x0,x4,x5,x6=>if x6<(x4.size:Int)then(if 0<=x6 then(iD.l0 k x0 x4 (wrap64 ((wrap64 (10*x5))+(((bt x4 x6)-48)%256))) (wrap64 (x6+1)))else(none))else((aN.f x0).bind fun t151=>(if t151=true then(some (wrap64 (-x5),true))else(some (x5,true))))
end
def iD.f (k:Nat) (a0:ByteArray):Option (Int×Bool):=(aZ.f a0).bind fun t149=>((iC.f k a0).bind fun t150=>(if t150=true then(iD.j0 k a0 t149 (decide ((t149.size:Int)>15)))else(iD.j0 k a0 t149 true)))
theorem iD.calls (k:Nat) (a0:ByteArray) (r1:Int) (r2:Bool) (w:World) (h:iD.f k a0=some (r1,r2)):
 Calls Tryz.prog 37 #[.string a0] w fun e w'=>e = .returned (.tuple #[.int .i64 r1,.bool r2])/\jD w w':=by
 have H:((aZ.f a0).bind fun t149=>((iC.f k a0).bind fun t150=>(if t150=true then(iD.j0 k a0 t149 (decide ((t149.size:Int)>15)))else(iD.j0 k a0 t149 true))))=some (r1,r2):=h;clear h;obtain⟨t149,A2,H⟩:=Zq.mq H;try dsimp only at H
 have HC3:=aA.mk H;clear H;go_enter Tryz.func37,Tryz.ntmps37
 go_upto_region 2 with(first|((with_reducible refine Zq.c 35 rfl ?_);refine Zq.g (some 8) Tryz.func35 #[.string a0] ?_;(with_reducible refine(aZ.calls a0 t149 _ A2.out).mono ?_);rintro e w' ⟨rfl,nd,rfl⟩;refine⟨_,rfl,?_⟩))
 (try simp only[Act.put,Zq.a1,Zq.a2,Zq.a3])
 go_cut [16] (fun v16 wc=>∃(kq:Nat) (x16_2:Bool),v16 = .bool x16_2/\aA (iD.j0 kq a0 t149 x16_2=some (r1,r2))/\aA (kq<=k)/\jD w wc)
 case first=>
  have H:=HC3.out;clear HC3;obtain⟨t150,A4,H⟩:=Zq.mq H;(try dsimp only at H);by_cases c5:t150=true
  ·subst c5;(have H1:(iD.j0 k a0 t149 (decide ((t149.size:Int)>15)))=some (r1,r2):=by rw[if_pos rfl]at H;exact H);clear H;have H:=H1;clear H1;have H':=aA.mk H;clear H;go_wp2_with (first|((with_reducible refine Zq.c 103 rfl ?_);refine Zq.g (some 10) Tryz.func103 #[.string a0] ?_;(with_reducible refine(iC.calls k a0 true _ A4.out).mono ?_);rintro e w' ⟨rfl,nd,rfl⟩;refine⟨_,rfl,?_⟩))
   go_meet
   case rel=>exact⟨_,(decide ((t149.size:Int)>15)),Zq.sd,H',⟨by first|omega|exact Nat.le_refl _⟩,Zq.dr⟩
  ·replace c5:=Bool.eq_false_iff.mpr c5;subst c5;(have H1:(iD.j0 k a0 t149 true)=some (r1,r2):=by rw[if_neg (show ¬(false=true) by decide)]at H;exact H);clear H;have H:=H1;clear H1;have H':=aA.mk H;clear H;go_wp2_with (first|((with_reducible refine Zq.c 103 rfl ?_);refine Zq.g (some 10) Tryz.func103 #[.string a0] ?_;(with_reducible refine(iC.calls k a0 false _ A4.out).mono ?_);rintro e w' ⟨rfl,nd,rfl⟩;refine⟨_,rfl,?_⟩))
   go_meet
   case rel=>exact⟨_,(true),Zq.sd,H',⟨by first|omega|exact Nat.le_refl _⟩,Zq.dr⟩
 case rest=>
  clear HC3;(try clear c1);(try clear p2);(try clear c3);(try clear c5);obtain⟨kq,x16_2,rfl,HA,HJ2,⟨mc2,rfl⟩⟩:=hcut;cases kq with
  | zero=>exact absurd HA.out (by simp[iD.j0])
  | succ kj2=>
   have H:=HA.out;clear HA;simp only[iD.j0]at H;by_cases c6:x16_2=true
   ·subst c6;(have H1:(some (0,false))=some (r1,r2):=by rw[if_pos rfl]at H;exact H);clear H;have H:=H1;clear H1;simp only[Option.some.injEq,Prod.mk.injEq]at H;obtain⟨rfl,rfl⟩:=H;go_wp2
    go_ret2
    exact⟨by first|rfl|(simp;done)|(simp[*];done),Zq.dr⟩
   ·replace c6:=Bool.eq_false_iff.mpr c6;subst c6;(have H1:(iD.l0 kj2 a0 t149 0 0)=some (r1,r2):=by rw[if_neg (show ¬(false=true) by decide)]at H;exact H);clear H;have H:=H1;clear H1;have H':=aA.mk H;clear H;go_wp2
    go_loopg [5,6] kj2 (fun kq v5 v6 w'=>∃(x5_2:Int) (x6_2:Int),v5 = .int .i64 x5_2/\v6 = .int .i64 x6_2/\aA (iD.l0 kq a0 t149 x5_2 x6_2=some (r1,r2))/\aA (kq<=kj2)/\jD w w')
    case atStart=>exact⟨(0),(0),Zq.sd,Zq.sd,H',⟨Nat.le_refl _⟩,Zq.dr⟩
    case round=>
     clear H';(try clear c1);(try clear c2);(try clear p2);(try clear c3);(try clear c5);(try clear c6);(try clear p2);obtain⟨x5_2,x6_2,rfl,rfl,HA,HK2,⟨m2,rfl⟩⟩:=hrel;cases gk with
     | zero=>exact absurd HA.out (by simp[iD.l0])
     | succ k2=>
      have H:=HA.out;clear HA;simp only[iD.l0]at H;by_cases c7:x6_2<(t149.size:Int)
      ·rw[if_pos c7]at H;have c7b0:decide (x6_2<(t149.size:Int))=true:=decide_eq_true c7;clear c7;by_cases c8:0<=x6_2
       ·rw[if_pos c8]at H;have c8b0:decide (0<=x6_2)=true:=decide_eq_true c8;clear c8;have H':=aA.mk H;clear H;have p9:0<=(x6_2:Int):=of_decide_eq_true Zq.am;have q9:x6_2<(t149.size:Int):=of_decide_eq_true Zq.am;have hx9:=wJ t149 x6_2;replace p9:=eq_true p9;replace q9:=eq_true q9;go_wp2
        go_roundg k2
        (case measure=>have:=HJ2.out;have:=HK2.out;omega);case rel=>exact⟨(wrap64 ((wrap64 (10*x5_2))+(((bt t149 x6_2)-48)%256))),(wrap64 (x6_2+1)),Zq.sd,Zq.sd,H',⟨by have:=HJ2.out;have:=HK2.out;omega⟩,Zq.dr⟩
       ·rw[if_neg c8]at H;exact absurd H (by simp)
      ·rw[if_neg c7]at H;have c7b0:decide (x6_2<(t149.size:Int))=false:=decide_eq_false c7;clear c7;obtain⟨t151,A10,H⟩:=Zq.mq H;(try dsimp only at H);by_cases c11:t151=true
       ·subst c11;(have H1:(some (wrap64 (-x5_2),true))=some (r1,r2):=by rw[if_pos rfl]at H;exact H);clear H;have H:=H1;clear H1;simp only[Option.some.injEq,Prod.mk.injEq]at H;obtain⟨rfl,rfl⟩:=H;go_wp2_with (first|((with_reducible refine Zq.c 31 rfl ?_);refine Zq.g (some 32) Tryz.func31 #[.string a0] ?_;(with_reducible refine(aN.calls a0 true _ A10.out).mono ?_);rintro e w' ⟨rfl,nd,rfl⟩;refine⟨_,rfl,?_⟩))
        go_ret2
        exact⟨by first|rfl|(simp;done)|(simp[*];done),Zq.dr⟩
       ·replace c11:=Bool.eq_false_iff.mpr c11;subst c11;(have H1:(some (x5_2,true))=some (r1,r2):=by rw[if_neg (show ¬(false=true) by decide)]at H;exact H);clear H;have H:=H1;clear H1;simp only[Option.some.injEq,Prod.mk.injEq]at H;obtain⟨rfl,rfl⟩:=H;go_wp2_with (first|((with_reducible refine Zq.c 31 rfl ?_);refine Zq.g (some 32) Tryz.func31 #[.string a0] ?_;(with_reducible refine(aN.calls a0 false _ A10.out).mono ?_);rintro e w' ⟨rfl,nd,rfl⟩;refine⟨_,rfl,?_⟩))
        go_ret2
        exact⟨by first|rfl|(simp;done)|(simp[*];done),Zq.dr⟩
def bT.j0:Nat->ByteArray->ByteArray->Bool->Option (Int×Int×Bool)
 | 0,_,_,_=>none
 | k+1,x0,x1,x30=>if x30=true then(some (0,0,false))else((iD.f k x0).bind fun bt154=>((iD.f k x1).bind fun bt156=>(some (bt154.1,bt156.1,true))))
def bT.f (k:Nat) (a0:ByteArray) (a1:ByteArray):Option (Int×Int×Bool):=if(a0.size:Int)>10 then(bT.j0 k a0 a1 true)else(if(a1.size:Int)>10 then(bT.j0 k a0 a1 true)else((aZ.f a0).bind fun t152=>(if(t152.size:Int)>9 then(bT.j0 k a0 a1 true)else((aZ.f a1).bind fun t153=>(bT.j0 k a0 a1 (decide ((t153.size:Int)>9)))))))
theorem bT.calls (k:Nat) (a0:ByteArray) (a1:ByteArray) (r1:Int) (r2:Int) (r3:Bool) (w:World) (h:bT.f k a0 a1=some (r1,r2,r3)):
 Calls Tryz.prog 89 #[.string a0,.string a1] w fun e w'=>e = .returned (.tuple #[.int .i64 r1,.int .i64 r2,.bool r3])/\jD w w':=by
 have H:(if(a0.size:Int)>10 then(bT.j0 k a0 a1 true)else(if(a1.size:Int)>10 then(bT.j0 k a0 a1 true)else((aZ.f a0).bind fun t152=>(if(t152.size:Int)>9 then(bT.j0 k a0 a1 true)else((aZ.f a1).bind fun t153=>(bT.j0 k a0 a1 (decide ((t153.size:Int)>9))))))))=some (r1,r2,r3):=h;clear h;have HC3:=aA.mk H;clear H;go_enter Tryz.func89,Tryz.ntmps89
 go_upto_region 1 with(fail)
 go_cut [30] (fun v30 wc=>∃(kq:Nat) (x30_2:Bool),v30 = .bool x30_2/\aA (bT.j0 kq a0 a1 x30_2=some (r1,r2,r3))/\aA (kq<=k)/\jD w wc)
 case first=>
  have H:=HC3.out;clear HC3;by_cases c4:(a0.size:Int)>10
  ·rw[if_pos c4]at H;have c4b0:decide (10<(a0.size:Int))=true:=decide_eq_true c4;have c4b1:decide (10<a0.size)=true:=decide_eq_true (by omega);clear c4;(first|rw[c4b0]|(simp only[bG,bK];rw[c4b0])|skip);have H':=aA.mk H;clear H;go_wp2
   go_meet
   case rel=>exact⟨_,(true),Zq.sd,H',⟨by first|omega|exact Nat.le_refl _⟩,Zq.dr⟩
  ·rw[if_neg c4]at H;have c4b0:decide (10<(a0.size:Int))=false:=decide_eq_false c4;have c4b1:decide (10<a0.size)=false:=decide_eq_false (by omega);clear c4;(first|rw[c4b0]|(simp only[bG,bK];rw[c4b0])|skip);by_cases c5:(a1.size:Int)>10
   ·rw[if_pos c5]at H;have c5b0:decide (10<(a1.size:Int))=true:=decide_eq_true c5;have c5b1:decide (10<a1.size)=true:=decide_eq_true (by omega);clear c5;have H':=aA.mk H;clear H;go_wp2
    go_meet
    case rel=>exact⟨_,(true),Zq.sd,H',⟨by first|omega|exact Nat.le_refl _⟩,Zq.dr⟩
   ·rw[if_neg c5]at H;have c5b0:decide (10<(a1.size:Int))=false:=decide_eq_false c5;have c5b1:decide (10<a1.size)=false:=decide_eq_false (by omega);clear c5;obtain⟨t152,A6,H⟩:=Zq.mq H;(try dsimp only at H);by_cases c7:(t152.size:Int)>9
    ·rw[if_pos c7]at H;have c7b0:decide (9<(t152.size:Int))=true:=decide_eq_true c7;have c7b1:decide (9<t152.size)=true:=decide_eq_true (by omega);clear c7;have H':=aA.mk H;clear H;go_wp2_with (first|(go_at_call 35;(with_reducible refine(aZ.calls a0 t152 _ A6.out).mono ?_);rintro e w' ⟨rfl,nd,rfl⟩))
     go_meet
     case rel=>exact⟨_,(true),Zq.sd,H',⟨by first|omega|exact Nat.le_refl _⟩,Zq.dr⟩
    ·rw[if_neg c7]at H;have c7b0:decide (9<(t152.size:Int))=false:=decide_eq_false c7;have c7b1:decide (9<t152.size)=false:=decide_eq_false (by omega);clear c7;obtain⟨t153,A8,H⟩:=Zq.mq H;(try dsimp only at H);have H':=aA.mk H;clear H;go_wp2_with (first|(go_at_call 35;(with_reducible refine(aZ.calls a0 t152 _ A6.out).mono ?_);rintro e w' ⟨rfl,nd,rfl⟩)|(go_at_call 35;(with_reducible refine(aZ.calls a1 t153 _ A8.out).mono ?_);rintro e w' ⟨rfl,nd,rfl⟩))
     go_meet
     case rel=>exact⟨_,(decide ((t153.size:Int)>9)),Zq.sd,H',⟨by first|omega|exact Nat.le_refl _⟩,Zq.dr⟩
 case rest=>
  clear HC3;(try clear p2);(try clear c4);(try clear c4b0);(try clear c4b1);(try clear c5);(try clear c5b0);(try clear c5b1);(try clear c7);(try clear c7b0);(try clear c7b1);(try clear c8);obtain⟨kq,x30_2,rfl,HA,HJ2,⟨mc2,rfl⟩⟩:=hcut;cases kq with
  | zero=>exact absurd HA.out (by simp[bT.j0])
  | succ kj2=>
   have H:=HA.out;clear HA;simp only[bT.j0]at H;by_cases c9:x30_2=true
   ·subst c9;(have H1:(some (0,0,false))=some (r1,r2,r3):=by rw[if_pos rfl]at H;exact H);clear H;have H:=H1;clear H1;simp only[Option.some.injEq,Prod.mk.injEq]at H;obtain⟨rfl,rfl,rfl⟩:=H;go_wp2
    go_ret3
    exact⟨by first|rfl|(simp;done)|(simp[*];done),Zq.dr⟩
   ·replace c9:=Bool.eq_false_iff.mpr c9;subst c9;(have H1:((iD.f kj2 a0).bind fun bt154=>((iD.f kj2 a1).bind fun bt156=>(some (bt154.1,bt156.1,true))))=some (r1,r2,r3):=by rw[if_neg (show ¬(false=true) by decide)]at H;exact H);clear H;have H:=H1;clear H1;replace H:=Zq.mp H;obtain⟨⟨t154,t155⟩,A100,H⟩:=H;(try dsimp only at H);have A10:=aA.mk A100;clear A100;replace H:=Zq.mp H;obtain⟨⟨t156,t157⟩,A110,H⟩:=H;(try dsimp only at H);have A11:=aA.mk A110;clear A110;simp only[Option.some.injEq,Prod.mk.injEq]at H;obtain⟨rfl,rfl,rfl⟩:=H;go_wp2_with (first|((with_reducible refine Zq.c 37 rfl ?_);refine Zq.g (some 33) Tryz.func37 #[.string a0] ?_;(with_reducible refine(iD.calls kj2 a0 t154 t155 _ A10.out).mono ?_);rintro e w' ⟨rfl,nd,rfl⟩;refine⟨_,rfl,?_⟩)|((with_reducible refine Zq.c 37 rfl ?_);refine Zq.g (some 38) Tryz.func37 #[.string a1] ?_;(with_reducible refine(iD.calls kj2 a1 t156 t157 _ A11.out).mono ?_);rintro e w' ⟨rfl,nd,rfl⟩;refine⟨_,rfl,?_⟩))
    go_ret3
    exact⟨by first|rfl|(simp;done)|(simp[*];done),Zq.dr⟩
def bM.f:Nat->Int->Option (ByteArray)
 | 0,_=>none
 | k+1,a0=>if a0<0 then((bM.f k (wrap64 (-a0))).bind fun t139=>(if 1+t139.size<=9223372036854775807 then(some ((⟨#[45]⟩:ByteArray)++t139))else(none)))else(if a0<10 then(some (strOfNums (([(wrap64 (48+a0))%256]:List Int))))else((bM.f k (wrap64 (Int.tdiv a0 10))).bind fun t143=>((some (([(wrap64 (48+(Int.tmod a0 10)))%256]:List Int):List Int)).bind fun y144=>(if t143.size+(strOfNums y144).size<=9223372036854775807 then(some (t143++(strOfNums y144)))else(none)))))
theorem bM.aJQ:∀k,(∀y0,LeO (bM.f k y0) (bM.f (k+1) y0))
 | 0=>fun _ r h=>by simp[bM.f]at h
 | k+1=>by
  have ih0:=bM.aJQ k
  ·intro y0;unfold bM.f
   repeat' first
   | (with_reducible first|exact ih0 _|exact LeO.refl _|exact LeO.none _|refine LeO.ite ?_ ?_|refine LeO.bind ?_ (fun _=>?_))
   | exact ih0 _
   | exact LeO.none _
   | refine LeO.ite ?_ ?_
   | refine LeO.bind ?_ (fun _=>?_)
theorem bM.mono:∀a0 k,LeO (bM.f k a0) (bM.f (k+1) a0):=by intro a0 k;have ih0:=bM.aJQ k;exact ih0 a0
def bM.T5:Bool×List (List Nat×List Nat):=(true,[([],[]),([0],[0]),([1],[1]),([],[]),([3],[3]),([4],[4]),([5],[5]),([6],[6]),([7],[7]),([2,8],[2,8]),([9,2,0,1,2,3,4,5,6,7,8,9],[9])])
def bM.B5:List Nat:=[0,1,3,0,8,24,56,120,248,511,1023]
theorem bM.aNn:nM .any (opsOf Tryz.f88 5)=bM.T5:=by kernel_rfl
theorem bM.aNd:jG bM.T5.2 bM.B5=true:=by kernel_rfl
theorem bM.calls (k:Nat):∀(a0:Int) (r:ByteArray) (w:World) (h:bM.f k a0=some r),
 Calls Tryz.prog 88 #[.int .i64 a0] w fun e w'=>e = .returned (.string r)/\Below w.heap.size w w':=by
 induction k using Nat.strongRecOn with
 | _ k ih=>
  intro a0 r w h;cases k with
  | zero=>exact absurd h (by simp[bM.f])
  | succ k=>
   simp only[bM.f]at h;have HB:=aA.mk (Below.refl w.heap.size w);have H:(if a0<0 then((bM.f k (wrap64 (-a0))).bind fun t139=>(if 1+t139.size<=9223372036854775807 then(some ((⟨#[45]⟩:ByteArray)++t139))else(none)))else(if a0<10 then(some (strOfNums (([(wrap64 (48+a0))%256]:List Int))))else((bM.f k (wrap64 (Int.tdiv a0 10))).bind fun t143=>((some (([(wrap64 (48+(Int.tmod a0 10)))%256]:List Int):List Int)).bind fun y144=>(if t143.size+(strOfNums y144).size<=9223372036854775807 then(some (t143++(strOfNums y144)))else(none))))))=some r:=h;clear h;by_cases c2:a0<0
   ·rw[if_pos c2]at H;have c2b0:decide (a0<0)=true:=decide_eq_true c2;clear c2;obtain⟨t139,A3,H⟩:=Zq.mq H;(try dsimp only at H);by_cases c4:1+t139.size<=9223372036854775807
    ·rw[if_pos c4]at H;have c4b0:=eq_true c4;have c4b1:decide (1+t139.size<=9223372036854775807)=true:=decide_eq_true c4;(try have c4b2:(9223372036854775807<1+t139.size)=False:=eq_false (Nat.not_lt.2 c4));obtain rfl:=Option.some.inj H;(go_enter Tryz.func88,Tryz.ntmps88);go_wp2_with (first|((with_reducible refine Zq.c 88 rfl ?_);refine Zq.g (some 7) Tryz.func88 #[.int .i64 (wrap64 (-a0))] ?_;(with_reducible refine(ih k (by omega) (wrap64 (-a0)) t139 _ A3.out).mono ?_);rintro e w5 ⟨rfl,hb⟩;refine⟨_,rfl,?_⟩;replace HB:=aA.mk (aC Zq.bo hb);(try clear hb);(try clear hb2);(try clear hk);(try clear hi)))
     go_ret
     exact⟨Zq.ew,Zq.bo⟩
    ·rw[if_neg c4]at H;exact absurd H (by simp)
   ·rw[if_neg c2]at H;have c2b0:decide (a0<0)=false:=decide_eq_false c2;clear c2;by_cases c6:a0<10
    ·rw[if_pos c6]at H;have c6b0:decide (a0<10)=true:=decide_eq_true c6;clear c6;obtain⟨y140,hy140⟩:∃y_:List Int,y_=(([(wrap64 (48+a0))%256]:List Int)):=⟨_,rfl⟩;(replace H:(some (strOfNums y140))=some r:=by first|(rw[hy140];with_reducible exact H)|(have H2_:=(Option.bind_some _ _).symm.trans H;rw[hy140];with_reducible exact H2_)|(have H2_:=(Option.bind_some _ _).symm.trans H;with_reducible exact H2_)|with_reducible exact H|(rw[hy140];exact H)|exact H);have Ny140:=aA.mk hy140;clear hy140;obtain rfl:=Option.some.inj H;(go_enter Tryz.func88,Tryz.ntmps88);go_wp2_with (first|((with_reducible refine fZ (N:=14) rfl ?_);refine Kd.nK (Kd.int .u8) _ 5 ?hg (N:=14) ?hd (xs:=([(wrap64 (48+a0))%256]:List Int)) (inner:=[.int .u8 ((wrap64 (48+a0))%256)]) (ok:=fun _=>True) (okp:=fun _=>True) ?hr ?hp (fun _ hk=>hk) trivial (Below.refl _ _) (Nat.le_refl _) (by simp) ?_;(case hd=>rfl);(case hg=>rfl);(case hr=>first|(go_simp;done)|(go_simp;rfl));(case hp=>exact(fA.one (show Kd.M (Kd.int .u8) _ _ _ ((wrap64 (48+a0))%256) [.int .u8 ((wrap64 (48+a0))%256)]from rfl) (fA.none _ _)));intro v141 w7 ho8 hb hg_ hnew_;clear hg_ hnew_;(first|rw[<-Ny140.out]at ho8|(simp only[Int.reduceToNat]at ho8;rw[<-Ny140.out]at ho8));have HO142:=aA.mk (Kd.eU ho8 (aD Zq.bo));replace HB:=aA.mk (aC Zq.bo hb);clear hb ho8;have hcv9:=pX (P:=Tryz.prog) Tryz.underlying104 Tryz.underlying5 Tryz.underlying9 (Kd.qZ HO142.out)))
     go_ret
     exact⟨Zq.ew,Zq.bo⟩
    ·rw[if_neg c6]at H;have c6b0:decide (a0<10)=false:=decide_eq_false c6;clear c6;obtain⟨t143,A10,H⟩:=Zq.mq H;(try dsimp only at H);obtain⟨y144,hy144⟩:∃y_:List Int,y_=(([(wrap64 (48+(Int.tmod a0 10)))%256]:List Int)):=⟨_,rfl⟩;(replace H:(if t143.size+(strOfNums y144).size<=9223372036854775807 then(some (t143++(strOfNums y144)))else(none))=some r:=by first|(rw[hy144];with_reducible exact H)|(have H2_:=(Option.bind_some _ _).symm.trans H;rw[hy144];with_reducible exact H2_)|(have H2_:=(Option.bind_some _ _).symm.trans H;with_reducible exact H2_)|with_reducible exact H|(rw[hy144];exact H)|exact H);have Ny144:=aA.mk hy144;clear hy144;by_cases c11:t143.size+(strOfNums y144).size<=9223372036854775807
     ·rw[if_pos c11]at H;have c11b0:=eq_true c11;have c11b1:decide (t143.size+(strOfNums y144).size<=9223372036854775807)=true:=decide_eq_true c11;(try have c11b2:(9223372036854775807<t143.size+(strOfNums y144).size)=False:=eq_false (Nat.not_lt.2 c11));obtain rfl:=Option.some.inj H;(go_enter Tryz.func88,Tryz.ntmps88);(try go_wp2);replace HB:=aA.mk (aT HB.out);refine dG (n:=11) (S:=fun w'=>True) (ds:=[]) #[false,false,false,false,false,false,false,false,false,false,false] (by kernel_rfl) rfl rfl trivial (fun hHeld=>?_);refine bF bM.aNn bM.aNd (fun HT_ HW_=>?_);generalize w.drew=w12 at HB hHeld⊢;refine Zq.pu 0 (some 16) (Zq.bs 11 1) ?_;refine Zq.pu 1 (some 17) (Zq.bs 11 3) ?_;refine Zq.pu 3 (some 19) (Zq.bs 11 11) ?_;refine Zq.pu 4 (some 20) (Zq.bs 11 27) ?_;refine Zq.pu 5 (some 21) (Zq.bs 11 59) ?_;refine Zq.pu 6 (some 22) (Zq.bs 11 123) ?_;refine aNb (σ:=Value) 2 #[true,true,true,true,true,true,true,true,true,false,false] (fun s_=>[(18,.string t143),(23,s_),(24,.string (strOfNums y144))]) (fun s_ w'=>(Kd.R (Kd.int .u8) 5 w' w.heap.size (fun _=>True) s_ y144)/\(Below w.heap.size w w')) ?_ ?_;rotate_left
      ·intro hCont;refine aN1 (i:=2) (j:=7) (Ni:=some 18) (Nj:=some 23) #[true,true,true,true,true,true,true,false,false,false,false] #[true,true,false,true,true,true,true,true,false,false,false] rfl rfl rfl rfl (aJf HT_.out (by kernel_rfl)) (by decide) (by decide) (fun K hK=>?_) (fun K hK=>?_)
       ·skip
        refine eQ Tryz.func88 (by kernel_rfl) rfl #[.int .i64 (wrap64 (Int.tdiv a0 10))] (by rfl) rfl rfl (by(try simp only[List.map_toArray,List.map_cons,List.map_nil]);first|done|rfl|(simp only[List.length_drop,List.length_take];rfl)) ?_;(with_reducible refine(ih k (by omega) (wrap64 (Int.tdiv a0 10)) t143 _ A10.out).mono ?_);rintro e w13 ⟨rfl,hb⟩;refine⟨_,rfl,?_⟩;replace HB:=aA.mk (aC Zq.bo hb);(try clear hb);(try clear hb2);(try clear hk);(try clear hi);refine hK.out _ _ trivial (fun hHeld=>?_);clear hK K;refine dO (a':=?_) ?_ ?_;rotate_left;(·show Act.put _ (some 18) _=_;simp only[Act.put,Zq.a1,Zq.a2,Zq.a3,bG,bK];rfl);refine gF (i:=7) (N:=some 23) #[true,true,true,true,true,true,true,true,false,false,false] rfl rfl (bZ HT_.out (by kernel_rfl)) (by decide) (fun K hK=>?_);refine Kd.vG (Kd.int .u8) _ 5 ?hg (N:=23) ?hd (xs:=([(wrap64 (48+(Int.tmod a0 10)))%256]:List Int)) (inner:=[.int .u8 ((wrap64 (48+(Int.tmod a0 10)))%256)]) (ok:=fun _=>True) (okp:=fun _=>True) ?hr ?hp (fun _ hk=>hk) trivial (Below.refl _ _) (Nat.le_refl _) (by simp) ?_;(case hd=>rfl);(case hg=>rfl);(case hr=>first|(go_simp;done)|(go_simp;rfl));(case hp=>exact(fA.one (show Kd.M (Kd.int .u8) _ _ _ ((wrap64 (48+(Int.tmod a0 10)))%256) [.int .u8 ((wrap64 (48+(Int.tmod a0 10)))%256)]from rfl) (fA.none _ _)));intro v145 w14 ho15 hb hg_ hnew_;clear hg_ hnew_;(first|rw[<-Ny144.out]at ho15|(simp only[Int.reduceToNat]at ho15;rw[<-Ny144.out]at ho15));have HO146:=aA.mk (Kd.eU ho15 (aD Zq.bo));replace HB:=aA.mk (aC Zq.bo hb)
        clear hb ho15;refine hK.out _ _ trivial (fun hHeld=>?_);clear hK K;refine dO (a':=?_) ?_ ?_;rotate_left;(·show Act.put _ (some 23) _=_;simp only[Act.put,Zq.a1,Zq.a2,Zq.a3,bG,bK];rfl);refine gF (i:=8) (N:=some 24) #[true,true,true,true,true,true,true,true,true,false,false] rfl rfl (bZ HT_.out (by kernel_rfl)) (by decide) (fun K hK=>?_);have hcv16:=pX (P:=Tryz.prog) Tryz.underlying104 Tryz.underlying5 Tryz.underlying9 (Kd.qZ HO146.out);refine aAc (w1:=?_) (v:=?_) (by rfl) rfl ?_ ?_;rotate_left 2;(·go_simp;constructor;(·rfl);·rfl);clear hcv16;refine hK.out _ _ trivial (fun hHeld=>?_);clear hK K;refine dO (a':=?_) ?_ ?_;rotate_left;(·show Act.put _ (some 24) _=_;simp only[Act.put,Zq.a1,Zq.a2,Zq.a3,bG,bK];rfl);exact dO (by simp only[Go.Pw.PrintLast.qM,Act.put,Zq.a1,Zq.a2,Zq.a3]) (hCont (v145) _ ⟨(Zq.ra HO146.out),Zq.bo⟩)
       ·skip
        refine Kd.vG (Kd.int .u8) _ 5 ?hg (N:=23) ?hd (xs:=([(wrap64 (48+(Int.tmod a0 10)))%256]:List Int)) (inner:=[.int .u8 ((wrap64 (48+(Int.tmod a0 10)))%256)]) (ok:=fun _=>True) (okp:=fun _=>True) ?hr ?hp (fun _ hk=>hk) trivial (Below.refl _ _) (Nat.le_refl _) (by simp) ?_;(case hd=>rfl);(case hg=>rfl);(case hr=>first|(go_simp;done)|(go_simp;rfl));(case hp=>exact(fA.one (show Kd.M (Kd.int .u8) _ _ _ ((wrap64 (48+(Int.tmod a0 10)))%256) [.int .u8 ((wrap64 (48+(Int.tmod a0 10)))%256)]from rfl) (fA.none _ _)));intro v145 w13 ho14 hb hg_ hnew_;clear hg_ hnew_;(first|rw[<-Ny144.out]at ho14|(simp only[Int.reduceToNat]at ho14;rw[<-Ny144.out]at ho14));have HO146:=aA.mk (Kd.eU ho14 (aD Zq.bo));replace HB:=aA.mk (aC Zq.bo hb);clear hb ho14;refine hK.out _ _ trivial (fun hHeld=>?_);clear hK K;refine dO (a':=?_) ?_ ?_;rotate_left;(·show Act.put _ (some 23) _=_;simp only[Act.put,Zq.a1,Zq.a2,Zq.a3,bG,bK];rfl);refine aN1 (i:=2) (j:=8) (Ni:=some 18) (Nj:=some 24) #[true,true,true,true,true,true,true,true,false,false,false] #[true,true,false,true,true,true,true,true,true,false,false] rfl rfl rfl rfl (aJf HT_.out (by kernel_rfl)) (by decide) (by decide) (fun K hK=>?_) (fun K hK=>?_)
        ·skip
         refine eQ Tryz.func88 (by kernel_rfl) rfl #[.int .i64 (wrap64 (Int.tdiv a0 10))] (by rfl) rfl rfl (by(try simp only[List.map_toArray,List.map_cons,List.map_nil]);first|done|rfl|(simp only[List.length_drop,List.length_take];rfl)) ?_;(with_reducible refine(ih k (by omega) (wrap64 (Int.tdiv a0 10)) t143 _ A10.out).mono ?_);rintro e w15 ⟨rfl,hb⟩;refine⟨_,rfl,?_⟩;replace HO146:=aA.mk (Kd.aG (Zq.ra HO146.out) hb);replace HB:=aA.mk (aC Zq.bo hb);(try clear hb);(try clear hb2);(try clear hk);(try clear hi);refine hK.out _ _ trivial (fun hHeld=>?_);clear hK K;refine dO (a':=?_) ?_ ?_;rotate_left;(·show Act.put _ (some 18) _=_;simp only[Act.put,Zq.a1,Zq.a2,Zq.a3,bG,bK];rfl);refine gF (i:=8) (N:=some 24) #[true,true,true,true,true,true,true,true,true,false,false] rfl rfl (bZ HT_.out (by kernel_rfl)) (by decide) (fun K hK=>?_);have hcv16:=pX (P:=Tryz.prog) Tryz.underlying104 Tryz.underlying5 Tryz.underlying9 (Kd.qZ HO146.out);refine aAc (w1:=?_) (v:=?_) (by rfl) rfl ?_ ?_;rotate_left 2;(·go_simp;constructor;(·rfl);·rfl);clear hcv16;refine hK.out _ _ trivial (fun hHeld=>?_);clear hK K;refine dO (a':=?_) ?_ ?_;rotate_left;(·show Act.put _ (some 24) _=_;simp only[Act.put,Zq.a1,Zq.a2,Zq.a3,bG,bK];rfl);exact dO (by simp only[Go.Pw.PrintLast.qM,Act.put,Zq.a1,Zq.a2,Zq.a3]) (hCont (v145) _ ⟨(Zq.ra HO146.out),Zq.bo⟩)
        ·skip
         have hcv15:=pX (P:=Tryz.prog) Tryz.underlying104 Tryz.underlying5 Tryz.underlying9 (Kd.qZ HO146.out);refine aAc (w1:=?_) (v:=?_) (by rfl) rfl ?_ ?_;rotate_left 2;(·go_simp;constructor;(·rfl);·rfl);clear hcv15;refine hK.out _ _ trivial (fun hHeld=>?_);clear hK K;refine dO (a':=?_) ?_ ?_;rotate_left;(·show Act.put _ (some 24) _=_;simp only[Act.put,Zq.a1,Zq.a2,Zq.a3,bG,bK];rfl);refine gF (i:=2) (N:=some 18) #[true,true,true,true,true,true,true,true,true,false,false] rfl rfl (bZ HT_.out (by kernel_rfl)) (by decide) (fun K hK=>?_);refine eQ Tryz.func88 (by kernel_rfl) rfl #[.int .i64 (wrap64 (Int.tdiv a0 10))] (by rfl) rfl rfl (by(try simp only[List.map_toArray,List.map_cons,List.map_nil]);first|done|rfl|(simp only[List.length_drop,List.length_take];rfl)) ?_;(with_reducible refine(ih k (by omega) (wrap64 (Int.tdiv a0 10)) t143 _ A10.out).mono ?_);rintro e w16 ⟨rfl,hb⟩;refine⟨_,rfl,?_⟩;replace HO146:=aA.mk (Kd.aG (Zq.ra HO146.out) hb);replace HB:=aA.mk (aC Zq.bo hb);(try clear hb);(try clear hb2);(try clear hk);(try clear hi);refine hK.out _ _ trivial (fun hHeld=>?_);clear hK K;refine dO (a':=?_) ?_ ?_;rotate_left;(·show Act.put _ (some 18) _=_;simp only[Act.put,Zq.a1,Zq.a2,Zq.a3,bG,bK];rfl);exact dO (by simp only[Go.Pw.PrintLast.qM,Act.put,Zq.a1,Zq.a2,Zq.a3]) (hCont (v145) _ ⟨(Zq.ra HO146.out),Zq.bo⟩)
      rintro v145 w17 ⟨h0_,h1_⟩;have n0_:aA (Kd.R (Kd.int .u8) 5 w17 w.heap.size (fun _=>True) v145 y144):=⟨h0_⟩;have n1_:aA (Below w.heap.size w w17):=⟨h1_⟩;clear HB;clear h0_ h1_;have HO146:=n0_;have HB:=n1_;clear n0_ n1_;have hHeld:=trivial;refine dO (a':=?_) ?_ ?_;rotate_left;(·simp only[Go.Pw.PrintLast.qM,Act.put,Zq.a1,Zq.a2,Zq.a3];rfl);refine Zq.pu 9 (some 25) (Zq.bs 11 1023) ?_;refine Zq.pu 10 (some 2) (Zq.bs 11 2047) ?_;refine eZ (bV HT_.out (by kernel_rfl)) ?_;try go_wp2
      go_ret
      exact⟨Zq.ew,Zq.bo⟩
     ·rw[if_neg c11]at H;exact absurd H (by simp)
end Go.Proofs.YtjieekkkaekclaaGreatDoor.PR
namespace Go.Proofs.YtjieekkkaekclaaGreatDoor
open Go Go.RowKit Go.Pw.PrintWords Go.Proofs.YtjieekkkaekclaaGreatDoor.PR
def EvP {α:Type} (g:Nat->Option α) (r:α):Prop:=Go.Pw.PrintWords.Ev g r
theorem EvP.now {α:Type} (r:α):EvP (fun _=>some r) r:=Go.Pw.PrintWords.Ev.now r
theorem EvP.rounds {α:Type} {g:Nat->Option α} {r:α} (h:EvP g r):∃k,g k=some r:=Go.Pw.PrintWords.Ev.rounds h
theorem EvP.bind {α β:Type} {g:Nat->Option α} {f:Nat->α->Option β} {a:α} {r:β} (h:EvP g a) (k:EvP (fun n=>f n a) r):EvP (fun n=>(g n).bind (f n)) r:=Go.Pw.PrintWords.Ev.bind h k
theorem EvP.step {α:Type} {g f:Nat->Option α} {r:α} (h:∀k,g (k+1)=f k) (k:EvP f r):EvP g r:=Go.Pw.PrintWords.Ev.step h k
theorem EvP.congr {α:Type} {g f:Nat->Option α} {r:α} (h:∀k,g k=f k) (k:EvP f r):EvP g r:=Go.Pw.PrintWords.Ev.congr h k
theorem EvP.fM {α:Type} {c:Prop} [Decidable c] {f g:Nat->Option α} {r:α} (h:c) (e:EvP f r):EvP (fun k=>if c then f k else g k) r:=EvP.congr (fun _=>if_pos h) e
theorem EvP.jC {α:Type} {c:Prop} [Decidable c] {f g:Nat->Option α} {r:α} (h:¬c) (e:EvP g r):EvP (fun k=>if c then f k else g k) r:=EvP.congr (fun _=>if_neg h) e
theorem getD_lt {α:Type} {l:List α} {i:Nat} (h:i<l.length) (d:α):l.getD i d=l[i]:=by simp[List.getD_eq_getElem?_getD,h]
theorem tN {α:Type} {l:List α} {i:Nat} (h:l.length<=i) (d:α):l.getD i d=d:=by simp[List.getD_eq_getElem?_getD,h]
def Mw.B (l:List UInt8):ByteArray:=⟨l.toArray⟩
def Mw.T (n:Int):ByteArray:=Mw.B (Mw.jF n)
theorem nQ (l:List UInt8):(Mw.B l).data.toList=l:=by simp[Mw.B]
theorem xN (l:List UInt8):(Mw.B l).toList=l:=by rw[ByteArray.toList_eq,nQ]
theorem eH (l:List UInt8):(Mw.B l).size=l.length:=by simp[Mw.B,ByteArray.size]
theorem lM (a b:List UInt8):Mw.B a++Mw.B b=Mw.B (a++b):=by apply ByteArray.ext;rw[ByteArray.data_append];simp[Mw.B]
theorem tL (l:List UInt8) (a b:Nat):(Mw.B l).extract a b=Mw.B ((l.drop a).take (b-a)):=by apply ByteArray.ext;rw[ByteArray.data_extract];apply Array.toList_inj.mp;simp[Mw.B,Array.toList_extract,List.extract_eq_drop_take]
theorem aDQ (l:List UInt8) (i:Int):bt (Mw.B l) i=((l.getD i.toNat 0).toNat:Int):=by
 unfold bt;split;·rename_i h;rw[eH]at h;(have:(Mw.B l)[i.toNat]'(by rw[eH];exact h)=l[i.toNat]:=by show(Mw.B l).data[i.toNat]'_=_;simp[Mw.B]);rw[this,getD_lt h]
 ·rename_i h;rw[eH]at h;rw[tN (by omega)];rfl
theorem wY (xs:List Int):strOfNums xs=Mw.B (xs.map fun n=>UInt8.ofNat n.toNat):=rfl
theorem eT {n:Int} (h0 : -9223372036854775808<=n) (h1:n<9223372036854775808):wrap64 n=n:=by unfold wrap64;omega
theorem aB6 (l:List UInt8):aN.f (Mw.B l)=some (Mw.isM l):=by
 unfold aN.f;rw[eH,aDQ];cases l with
 | nil=>rfl
 | cons c r=>rw[if_pos (by simp only[List.length_cons];omega),if_pos (by simp only[List.length_cons];omega)];(congr 1);simp only[Mw.isM,List.head?_cons];show(((c.toNat:Nat):Int) == 45)=(some c == some 45);rw[Bool.eq_iff_iff,beq_iff_eq,beq_iff_eq];constructor;(·intro h;congr 1;apply UInt8.toNat_inj.mp;show c.toNat=45;omega);·intro h;have h:=Option.some.inj h;subst h;rfl
theorem zH (l:List UInt8):aZ.f (Mw.B l)=some (Mw.B (Mw.unm l)):=by
 unfold aZ.f;rw[aB6];simp only[Option.bind_some];cases hm:Mw.isM l with
 | false=>rw[if_neg (by simp),Mw.yG hm]
 | true=>
  cases l with
  | nil=>cases hm
  | cons c r=>(have:c=45:=by simpa [Mw.isM]using hm);subst this;rw[if_pos rfl,if_pos (by rw[eH];simp only[List.length_cons];omega),tL,Mw.xQ,eH];simp
theorem aKB (l:List UInt8) (i:Nat) (h:i<l.length):(l.drop i).all Mw.dig=(Mw.dig (l.getD i 0) && (l.drop (i+1)).all Mw.dig):=by rw[List.drop_eq_getElem_cons h,List.all_cons,getD_lt h]
theorem aIy (l:List UInt8) (hl:l.length<=1000000):∀(d i:Nat),i+d=l.length->EvP (fun k=>iW.l0 k (Mw.B l) i) ((l.drop i).all Mw.dig):=by
 intro d;induction d with
 | zero=>intro i hi;refine EvP.step (f:=fun _=>some ((l.drop i).all Mw.dig)) (fun k=>?_) (EvP.now _);simp only[iW.l0];rw[eH,if_neg (by omega),List.drop_of_length_le (by omega)];rfl
 | succ d ih=>
  intro i hi;(have hlt:i<l.length:=by omega);have hall:=aKB l i hlt;cases hd:Mw.dig (l.getD i 0)with
  | false=>rw[hd,Bool.false_and]at hall;refine EvP.step (f:=fun _=>some false) (fun k=>?_) (by rw[hall];exact EvP.now _);simp only[iW.l0];rw[eH,if_pos (by omega),if_pos (by omega),aDQ,Int.toNat_natCast];(have hn:¬(48<=(l.getD i 0).toNat/\(l.getD i 0).toNat<=57):=by intro h;rw[(aAk _).mpr h]at hd;cases hd);by_cases h1:(l.getD i 0).toNat<48;(·rw[if_pos (by omega)]);·rw[if_neg (by omega),if_pos (by omega)]
  | true=>rw[hd,Bool.true_and]at hall;rw[hall];have hy:=(aAk _).mp hd;refine EvP.step (f:=fun k=>iW.l0 k (Mw.B l) ((i+1:Nat):Int)) (fun k=>?_) (ih (i+1) (by omega));simp only[iW.l0];rw[eH,if_pos (by omega),if_pos (by omega),aDQ,Int.toNat_natCast,if_neg (by omega),if_neg (by omega),eT (by omega) (by omega)];rfl
theorem aIz (l:List UInt8) (hl:l.length<=1000000):EvP (fun k=>iW.f k (Mw.B l)) (Mw.uM l):=by
 unfold iW.f;rw[eH,aDQ];cases l with
 | nil=>refine EvP.fM rfl ?_;exact EvP.step (f:=fun _=>some false) (fun k=>by simp only[iW.j0,if_pos]) (EvP.now _)
 | cons c r=>
  refine EvP.jC (by simp only[List.length_cons];omega) ?_;have key:Mw.uM (c::r)=((c::r).all Mw.dig && (decide ((c::r).length<=1) || !(c == 48))):=by simp[Mw.uM]
  have hj:∀b:Bool,(b = !(decide ((c::r).length<=1) || !(c == 48)))->EvP (fun k=>iW.j0 k (Mw.B (c::r)) b) (Mw.uM (c::r)):=by
   intro b hb;rw[key];cases b with
   | true=>(have:(decide ((c::r).length<=1) || !(c == 48))=false:=by cases hX:(decide ((c::r).length<=1) || !(c == 48))with|false=>rfl|true=>rw[hX]at hb;cases hb);rw[this,Bool.and_false];exact EvP.step (f:=fun _=>some false) (fun k=>by simp only[iW.j0,if_pos]) (EvP.now _)
   | false=>(have:(decide ((c::r).length<=1) || !(c == 48))=true:=by cases hX:(decide ((c::r).length<=1) || !(c == 48))with|true=>rfl|false=>rw[hX]at hb;cases hb);rw[this,Bool.and_true];refine EvP.step (f:=fun k=>iW.l0 k (Mw.B (c::r)) ((0:Nat):Int)) (fun k=>?_) (aIy (c::r) hl (c::r).length 0 (by omega));simp only[iW.j0];rw[if_neg (by simp)];rfl
  by_cases h1:((c::r).length:Int)>1;(·refine EvP.fM h1 (EvP.fM (by omega) ?_);apply hj;(have:decide ((c::r).length<=1)=false:=by rw[decide_eq_false_iff_not];omega);rw[this,Bool.false_or,Bool.not_not];show(((c.toNat:Nat):Int) == 48)=(c == 48);rw[Bool.eq_iff_iff,beq_iff_eq,beq_iff_eq];constructor;(·intro h;apply UInt8.toNat_inj.mp;show c.toNat=48;omega);·intro h;subst h;rfl);·refine EvP.jC h1 ?_;apply hj;(have:decide ((c::r).length<=1)=true:=by rw[decide_eq_true_iff];omega);rw[this];rfl
theorem wG (l:List UInt8) (hl:l.length<=1000000):EvP (fun k=>iC.f k (Mw.B l)) (Mw.okf l):=by
 have hu:(Mw.unm l).length<=1000000:=by(have:(Mw.unm l).length<=l.length:=by unfold Mw.unm;split<;>simp);omega
 refine EvP.congr (f:=fun k=>(iW.f k (Mw.B (Mw.unm l))).bind fun t=>if t=true then some (l != [45,48])else some false) (fun k=>?_) ?_;·unfold iC.f;rw[zH];simp only[Option.bind_some];rw[xN]
 ·refine EvP.bind (aIz _ hu) ?_;unfold Mw.okf;cases Mw.uM (Mw.unm l)with
  | false=>exact EvP.now _
  | true=>rw[Bool.true_and];exact EvP.now _
end Go.Proofs.YtjieekkkaekclaaGreatDoor
namespace Go.Proofs.YtjieekkkaekclaaGreatDoor.PR
open Go.RowKit Go.Pw.PrintWords Go.Pw.PrintLast Go.Pw.PrintMore
attribute [local go_sem] eG dZ fE fD dM dL eF dY
def dU.l0:Nat->List Int->Option (List Int)
 | 0,_=>none
 | k+1,x0=>if(x0.length:Int)>0 then(if 0<=(wrap64 ((x0.length:Int)-1))then(if(wrap64 ((x0.length:Int)-1))<(x0.length:Int)then(if(rd x0 (wrap64 ((x0.length:Int)-1)))=0 then(if(wrap64 ((x0.length:Int)-1))<=(x0.length:Int)then(dU.l0 k (x0.take ((wrap64 ((x0.length:Int)-1)):Int).toNat))else(none))else(some x0))else(none))else(none))else(some x0)
def dU.f (k:Nat) (l0:List Int):Option (List Int):=dU.l0 k l0
theorem dU.calls (k:Nat) (P0_:Nat->Prop) (A0:Option Addr) (c0:Nat) (l0:List Int) (r:List Int) (w:World) (hs0:Kd.V (Kd.int .i64) 3 w w.heap.size (fun k_=>P0_ k_) (.slice A0 l0.length c0) l0) (h:dU.f k l0=some r):
 Calls Tryz.prog 135 #[.slice A0 l0.length c0] w fun e w'=>∃v0_:Value,e = .returned (v0_)/\Kd.V (Kd.int .i64) 3 w' w.heap.size (fun k_=>(P0_ k_\/w.heap.size<=k_)) v0_ r/\Below w.heap.size w w':=by
 have HO0:=aA.mk (show Kd.V (Kd.int .i64) 3 w w.heap.size (fun k_=>(P0_ k_\/w.heap.size<=k_)) (.slice A0 l0.length c0) l0 from Kd.dB hs0 (fun k_ hk=>.inl hk));have HB:=aA.mk (Below.refl w.heap.size w);have H:(dU.l0 k l0)=some r:=h;clear h;have H':=aA.mk H;clear H;go_enter Tryz.func135,Tryz.ntmps135
 go_wp2
 go_loopg [0] k (fun kq v0 w'=>∃(x0_1:List Int),aA (dU.l0 kq x0_1=some r)/\aA (kq<=k)/\aA (Kd.V (Kd.int .i64) 3 w' w.heap.size (fun k_=>(P0_ k_\/w.heap.size<=k_)) v0 x0_1)/\aA (Below w.heap.size w w'))
 case atStart=>exact⟨(l0),H',⟨Nat.le_refl _⟩,⟨by(with_reducible repeat(first|apply Kd.gH|apply Kd.gG|apply Kd.iI));exact HO0.out⟩,⟨Zq.bo⟩⟩
 case round=>
  clear H';(try clear c1);obtain⟨x0_1,HA,HK1,HO_0,HB⟩:=hrel;cases gk with
  | zero=>exact absurd HA.out (by simp[dU.l0])
  | succ k1=>
   have H:=HA.out;clear HA;simp only[dU.l0]at H;by_cases c2:(x0_1.length:Int)>0
   ·rw[if_pos c2]at H;have c2b0:decide (0<(x0_1.length:Int))=true:=decide_eq_true c2;have c2b1:decide (0<x0_1.length)=true:=decide_eq_true (by omega);clear c2;obtain⟨ji3,hji3⟩:∃j_:Int,(wrap64 ((x0_1.length:Int)-1))=j_:=⟨_,rfl⟩;(replace H:(if 0<=(ji3)then(if(ji3)<(x0_1.length:Int)then(if(rd x0_1 (ji3))=0 then(if(ji3)<=(x0_1.length:Int)then(dU.l0 k1 (x0_1.take ((ji3):Int).toNat))else(none))else(some x0_1))else(none))else(none))=some r:=by first|(rw[hji3]at H;exact H)|(simp only[hji3]at H⊢;exact H));have hji3w:(IntKind.i64.wrap ((x0_1.length:Int)-1))=ji3:=(bG _).trans hji3;by_cases c4:0<=(ji3)
    ·rw[if_pos c4]at H;have c4b0:decide (0<=(ji3))=true:=decide_eq_true c4;clear c4;by_cases c5:(ji3)<(x0_1.length:Int)
     ·rw[if_pos c5]at H;have c5b0:decide ((ji3)<(x0_1.length:Int))=true:=decide_eq_true c5;clear c5;by_cases c6:(rd x0_1 (ji3))=0
      ·rw[if_pos c6]at H;have c6b0:((rd x0_1 (ji3)) == 0)=true:=beq_iff_eq.mpr c6;have c6b1:((rd x0_1 (ji3)) != 0)=false:=bne_eq_false_iff_eq.mpr c6;clear c6;have c7b0:=eq_true (of_decide_eq_true Zq.am:0<=(ji3));by_cases c8:(ji3)<=(x0_1.length:Int)
       ·rw[if_pos c8]at H;have c8b0:=eq_true c8;have c8b1:decide ((ji3)<=(x0_1.length:Int))=true:=decide_eq_true c8;clear c8;obtain⟨y165,hy165⟩:∃y_:List Int,y_=(x0_1.take ((ji3):Int).toNat):=⟨_,rfl⟩;(replace H:(dU.l0 k1 y165)=some r:=by first|(rw[hy165];with_reducible exact H)|(have H2_:=(Option.bind_some _ _).symm.trans H;rw[hy165];with_reducible exact H2_)|(have H2_:=(Option.bind_some _ _).symm.trans H;with_reducible exact H2_)|with_reducible exact H|(rw[hy165];exact H)|exact H);have Ny165:=aA.mk hy165;clear hy165;have H':=aA.mk H;clear H;obtain⟨Ao9,co9,eo9⟩:=Kd.dP HO_0.out;subst eo9;have p164:0<=((ji3):Int):=of_decide_eq_true Zq.am;have q164:(ji3)<(x0_1.length:Int):=of_decide_eq_true Zq.am;obtain⟨ad164,e164,hx164_0⟩:=Kd.dF (Kd.aY HO_0.out).2.2 (ji3) p164 q164;cases e164;replace p164:=eq_true p164;replace q164:=eq_true q164;have q10:((ji3):Int)<=((x0_1.length:Int):Int):=of_decide_eq_true Zq.am;obtain⟨i010,hi010,_,hsz10,_⟩:=info_parts info3;have hroom10:x0_1.length<=co9:=(Kd.aY HO_0.out).2.1;have hC10:Kd.F (Kd.int .i64) _ _ (some ad164) x0_1.length x0_1:=(Kd.aLY (base:=w.heap.size) HO_0.out).2.2;have hcut10:=aMK (P:=Tryz.prog) 22 3 .i64 Tryz.underlying22 hi010 (some ad164) x0_1.length co9 (ji3) (of_decide_eq_true Zq.am) q10 hroom10;have hr10:=Kd.aMT (m:=((ji3):Int).toNat) hC10 (by omega);have hy10:y165.length=((ji3):Int).toNat:=(by rw[Ny165.out,List.length_take];omega);rw[<-Ny165.out]at hr10;rw[<-hy10]at hcut10
        have HO169:=aA.mk (show Kd.V (Kd.int .i64) 3 _ w.heap.size _ (.slice (some ad164) y165.length co9) y165 from Kd.aNr (by omega) hr10);have HC169:=aA.mk (show y165.length<=co9 from by omega);clear hr10 hC10 hroom10 hi010 hsz10;have KY10:=aA.mk hy10;clear hy10;replace q10:=eq_true q10;go_wp2
        go_roundg k1
        (case measure=>have:=HK1.out;omega);case rel=>exact⟨(y165),H',⟨by have:=HK1.out;omega⟩,⟨by(with_reducible repeat(first|apply Kd.gH|apply Kd.gG|apply Kd.iI));exact HO169.out⟩,⟨Zq.bo⟩⟩
       ·rw[if_neg c8]at H;exact absurd H (by simp)
      ·rw[if_neg c6]at H;have c6b0:((rd x0_1 (ji3)) == 0)=false:=beq_eq_false_iff_ne.mpr c6;have c6b1:((rd x0_1 (ji3)) != 0)=true:=bne_iff_ne.mpr c6;obtain rfl:=Option.some.inj H;obtain⟨Ao11,co11,eo11⟩:=Kd.dP HO_0.out;subst eo11;have p164:0<=((ji3):Int):=of_decide_eq_true Zq.am;have q164:(ji3)<(x0_1.length:Int):=of_decide_eq_true Zq.am;obtain⟨ad164,e164,hx164_0⟩:=Kd.dF (Kd.aY HO_0.out).2.2 (ji3) p164 q164;cases e164;replace p164:=eq_true p164;replace q164:=eq_true q164;go_wp2
       go_ret
       exact⟨_,by first|rfl|(simp[bE,bD]<;>rfl)|(simp only[<-hji3];first|rfl|(simp[bE,bD]<;>rfl))|(simp[*,bE,bD]<;>rfl),by(with_reducible repeat(first|apply Kd.gH|apply Kd.gG|apply Kd.iI));exact HO_0.out,Zq.bo⟩
     ·rw[if_neg c5]at H;exact absurd H (by simp)
    ·rw[if_neg c4]at H;exact absurd H (by simp)
   ·rw[if_neg c2]at H;have c2b0:decide (0<(x0_1.length:Int))=false:=decide_eq_false c2;have c2b1:decide (0<x0_1.length)=false:=decide_eq_false (by omega);clear c2;obtain rfl:=Option.some.inj H;obtain⟨Ao12,co12,eo12⟩:=Kd.dP HO_0.out;subst eo12;go_wp2
    go_ret
    exact⟨_,by first|rfl|(simp[bE,bD]<;>rfl)|(simp[*,bE,bD]<;>rfl),by(with_reducible repeat(first|apply Kd.gH|apply Kd.gG|apply Kd.iI));exact HO_0.out,Zq.bo⟩
def fH.l0:Nat->List Int->List Int->Int->Option (Int)
 | 0,_,_,_=>none
 | k+1,x0,x1,x5=>if x5>=0 then(if 0<=x5 then(if x5<(x0.length:Int)then(if x5<(x1.length:Int)then(if(rd x0 x5)<(rd x1 x5)then(some (-1))else(if(rd x0 x5)>(rd x1 x5)then(some 1)else(fH.l0 k x0 x1 (wrap64 (x5-1)))))else(none))else(none))else(none))else(some 0)
def fH.f (k:Nat) (l0:List Int) (l1:List Int):Option (Int):=if(l0.length:Int)=(l1.length:Int)then(fH.l0 k l0 l1 (wrap64 ((l0.length:Int)-1)))else(if(l0.length:Int)<(l1.length:Int)then(some (-1))else(some 1))
theorem fH.calls (k:Nat) (A0:Option Addr) (c0:Nat) (l0:List Int) (A1:Option Addr) (c1:Nat) (l1:List Int) (r:Int) (w:World) (hr0:Kd.C (Kd.int .i64) w A0 l0.length l0) (hc0:l0.length<=c0) (hr1:Kd.C (Kd.int .i64) w A1 l1.length l1) (hc1:l1.length<=c1) (h:fH.f k l0 l1=some r):
 Calls Tryz.prog 94 #[.slice A0 l0.length c0,.slice A1 l1.length c1] w fun e w'=>e = .returned (.int .i64 r)/\jD w w':=by
 have HR0:=aA.mk hr0;have HC0:=aA.mk hc0;clear hr0 hc0;have HR1:=aA.mk hr1;have HC1:=aA.mk hc1;clear hr1 hc1;have H:(if(l0.length:Int)=(l1.length:Int)then(fH.l0 k l0 l1 (wrap64 ((l0.length:Int)-1)))else(if(l0.length:Int)<(l1.length:Int)then(some (-1))else(some 1)))=some r:=h;clear h;by_cases c3:(l0.length:Int)=(l1.length:Int)
 ·rw[if_pos c3]at H;have c3b0:((l0.length:Int) == (l1.length:Int))=true:=beq_iff_eq.mpr c3;have c3b1:((l0.length:Int) != (l1.length:Int))=false:=bne_eq_false_iff_eq.mpr c3;(have c3b2:(l0.length == l1.length)=true:=by first|simpa using c3|(simp at c3⊢;omega));clear c3;have H':=aA.mk H;clear H;(go_enter Tryz.func94,Tryz.ntmps94);(go_wp2);repeat(go_quiet (fail);try go_wp2)
  go_loopg [5] k (fun kq v5 w'=>∃(x5_1:Int),v5 = .int .i64 x5_1/\aA (fH.l0 kq l0 l1 x5_1=some r)/\aA (kq<=k)/\jD w w')
  case atStart=>exact⟨(wrap64 ((l0.length:Int)-1)),Zq.sd,H',⟨Nat.le_refl _⟩,Zq.dr⟩
  case round=>
   clear H';(try clear c1);(try clear p2);(try clear c3);(try clear c3b0);(try clear c3b1);(try clear c3b2);obtain⟨x5_1,rfl,HA,HK1,⟨m1,rfl⟩⟩:=hrel;cases gk with
   | zero=>exact absurd HA.out (by simp[fH.l0])
   | succ k1=>
    have H:=HA.out;clear HA;simp only[fH.l0]at H;by_cases c4:x5_1>=0
    ·rw[if_pos c4]at H;have c4b0:decide (0<=x5_1)=true:=decide_eq_true c4;clear c4;by_cases c5:0<=x5_1
     ·rw[if_pos c5]at H;have c5b0:decide (0<=x5_1)=true:=decide_eq_true c5;clear c5;by_cases c6:x5_1<(l0.length:Int)
      ·rw[if_pos c6]at H;have c6b0:decide (x5_1<(l0.length:Int))=true:=decide_eq_true c6;clear c6;by_cases c7:x5_1<(l1.length:Int)
       ·rw[if_pos c7]at H;have c7b0:decide (x5_1<(l1.length:Int))=true:=decide_eq_true c7;clear c7;by_cases c8:(rd l0 x5_1)<(rd l1 x5_1)
        ·rw[if_pos c8]at H;have c8b0:decide ((rd l0 x5_1)<(rd l1 x5_1))=true:=decide_eq_true c8;clear c8;obtain rfl:=Option.some.inj H;have p206:0<=(x5_1:Int):=of_decide_eq_true Zq.am;have q206:x5_1<(l0.length:Int):=of_decide_eq_true Zq.am;obtain⟨ad206,e206,hx206_0⟩:=Kd.dF HR0.out x5_1 p206 q206;cases e206;replace p206:=eq_true p206;replace q206:=eq_true q206;have p207:0<=(x5_1:Int):=of_decide_eq_true Zq.am;have q207:x5_1<(l1.length:Int):=of_decide_eq_true Zq.am;obtain⟨ad207,e207,hx207_0⟩:=Kd.dF HR1.out x5_1 p207 q207;cases e207;replace p207:=eq_true p207;replace q207:=eq_true q207;(go_wp2);repeat(go_quiet (fail);try go_wp2)
         go_ret
         exact⟨by first|rfl|(simp;done)|(simp[*];done),Zq.dr⟩
        ·rw[if_neg c8]at H;have c8b0:decide ((rd l0 x5_1)<(rd l1 x5_1))=false:=decide_eq_false c8;clear c8;by_cases c9:(rd l0 x5_1)>(rd l1 x5_1)
         ·rw[if_pos c9]at H;have c9b0:decide ((rd l1 x5_1)<(rd l0 x5_1))=true:=decide_eq_true c9;clear c9;obtain rfl:=Option.some.inj H;have p206:0<=(x5_1:Int):=of_decide_eq_true Zq.am;have q206:x5_1<(l0.length:Int):=of_decide_eq_true Zq.am;obtain⟨ad206,e206,hx206_0⟩:=Kd.dF HR0.out x5_1 p206 q206;cases e206;replace p206:=eq_true p206;replace q206:=eq_true q206;have p207:0<=(x5_1:Int):=of_decide_eq_true Zq.am;have q207:x5_1<(l1.length:Int):=of_decide_eq_true Zq.am;obtain⟨ad207,e207,hx207_0⟩:=Kd.dF HR1.out x5_1 p207 q207;cases e207;replace p207:=eq_true p207;replace q207:=eq_true q207;have p208:0<=(x5_1:Int):=of_decide_eq_true Zq.am;have q208:x5_1<(l0.length:Int):=of_decide_eq_true Zq.am;obtain⟨ad208,e208,hx208_0⟩:=Kd.dF HR0.out x5_1 p208 q208;obtain rfl:ad206=ad208:=(by injection e208);replace p208:=eq_true p208;replace q208:=eq_true q208;have p209:0<=(x5_1:Int):=of_decide_eq_true Zq.am;have q209:x5_1<(l1.length:Int):=of_decide_eq_true Zq.am;obtain⟨ad209,e209,hx209_0⟩:=Kd.dF HR1.out x5_1 p209 q209;obtain rfl:ad207=ad209:=(by injection e209);replace p209:=eq_true p209;replace q209:=eq_true q209;(go_wp2);repeat(go_quiet (fail);try go_wp2)
          go_ret
          exact⟨by first|rfl|(simp;done)|(simp[*];done),Zq.dr⟩
         ·rw[if_neg c9]at H;have c9b0:decide ((rd l1 x5_1)<(rd l0 x5_1))=false:=decide_eq_false c9;clear c9;have H':=aA.mk H;clear H;have p206:0<=(x5_1:Int):=of_decide_eq_true Zq.am;have q206:x5_1<(l0.length:Int):=of_decide_eq_true Zq.am;obtain⟨ad206,e206,hx206_0⟩:=Kd.dF HR0.out x5_1 p206 q206;cases e206;replace p206:=eq_true p206;replace q206:=eq_true q206;have p207:0<=(x5_1:Int):=of_decide_eq_true Zq.am;have q207:x5_1<(l1.length:Int):=of_decide_eq_true Zq.am;obtain⟨ad207,e207,hx207_0⟩:=Kd.dF HR1.out x5_1 p207 q207;cases e207;replace p207:=eq_true p207;replace q207:=eq_true q207;have p208:0<=(x5_1:Int):=of_decide_eq_true Zq.am;have q208:x5_1<(l0.length:Int):=of_decide_eq_true Zq.am;obtain⟨ad208,e208,hx208_0⟩:=Kd.dF HR0.out x5_1 p208 q208;obtain rfl:ad206=ad208:=(by injection e208);replace p208:=eq_true p208;replace q208:=eq_true q208;have p209:0<=(x5_1:Int):=of_decide_eq_true Zq.am;have q209:x5_1<(l1.length:Int):=of_decide_eq_true Zq.am;obtain⟨ad209,e209,hx209_0⟩:=Kd.dF HR1.out x5_1 p209 q209;obtain rfl:ad207=ad209:=(by injection e209);replace p209:=eq_true p209;replace q209:=eq_true q209;(go_wp2);repeat(go_quiet (fail);try go_wp2)
          go_roundg k1
          (case measure=>have:=HK1.out;omega);case rel=>exact⟨(wrap64 (x5_1-1)),Zq.sd,H',⟨by have:=HK1.out;omega⟩,Zq.dr⟩
       ·rw[if_neg c7]at H;exact absurd H (by simp)
      ·rw[if_neg c6]at H;exact absurd H (by simp)
     ·rw[if_neg c5]at H;exact absurd H (by simp)
    ·rw[if_neg c4]at H;have c4b0:decide (0<=x5_1)=false:=decide_eq_false c4;clear c4;obtain rfl:=Option.some.inj H;(go_wp2);repeat(go_quiet (fail);try go_wp2)
     go_ret
     exact⟨by first|rfl|(simp;done)|(simp[*];done),Zq.dr⟩
 ·rw[if_neg c3]at H;have c3b0:((l0.length:Int) == (l1.length:Int))=false:=beq_eq_false_iff_ne.mpr c3;have c3b1:((l0.length:Int) != (l1.length:Int))=true:=bne_iff_ne.mpr c3;(have c3b2:(l0.length == l1.length)=false:=by first|simpa using c3|(simp at c3⊢;omega));by_cases c10:(l0.length:Int)<(l1.length:Int)
  ·rw[if_pos c10]at H;have c10b0:decide ((l0.length:Int)<(l1.length:Int))=true:=decide_eq_true c10;have c10b1:decide (l0.length<l1.length)=true:=decide_eq_true (Int.ofNat_lt.mp c10);clear c10;obtain rfl:=Option.some.inj H;(go_enter Tryz.func94,Tryz.ntmps94);(go_wp2);repeat(go_quiet (fail);try go_wp2)
   go_ret
   exact⟨by first|rfl|(simp;done)|(simp[*];done),Zq.dr⟩
  ·rw[if_neg c10]at H;have c10b0:decide ((l0.length:Int)<(l1.length:Int))=false:=decide_eq_false c10;have c10b1:decide (l0.length<l1.length)=false:=decide_eq_false (fun h=>c10 (Int.ofNat_lt.mpr h));clear c10;obtain rfl:=Option.some.inj H;(go_enter Tryz.func94,Tryz.ntmps94);(go_wp2);repeat(go_quiet (fail);try go_wp2)
   go_ret
   exact⟨by first|rfl|(simp;done)|(simp[*];done),Zq.dr⟩
end Go.Proofs.YtjieekkkaekclaaGreatDoor.PR
