/- Lemmas for the claim beside this text. -/
import Derived.Test.YtjieekkkaekclaaGreatDoorZBAD
import Derived.Test.YtjieekkkaekclaaGreatDoorZBAK
import Derived.Test.YtjieekkkaekclaaGreatDoorZBAN
import Derived.Test.YtjieekkkaekclaaGreatDoorZBAO
import Derived.Test.YtjieekkkaekclaaGreatDoorZBAQ
import Derived.Test.YtjieekkkaekclaaGreatDoorZBAS
import Derived.Test.YtjieekkkaekclaaGreatDoorZBAT
import Derived.Test.YtjieekkkaekclaaGreatDoorZBAU
import Derived.Test.YtjieekkkaekclaaGreatDoorZBAW
import Derived.Test.YtjieekkkaekclaaGreatDoorZBAX
import Derived.Test.YtjieekkkaekclaaGreatDoorZBAY
import Derived.Test.YtjieekkkaekclaaGreatDoorZLIAB
import Derived.Test.YtjieekkkaekclaaGreatDoorZLIAC
import Derived.Test.YtjieekkkaekclaaGreatDoorZLIAD
set_option linter.all false
set_option linter.unusedVariables false
set_option linter.unusedSimpArgs false
set_option maxHeartbeats 8000000
set_option maxRecDepth 100000
namespace Go.Proofs.YtjieekkkaekclaaGreatDoor.PR
open Go.RowKit Go.Pw.PrintWords Go.Pw.PrintLast Go.Pw.PrintMore
attribute [local go_sem] eG dZ fE fD dM dL eF dY
def dW.f (k:Nat) (a0:ByteArray) (a1:ByteArray):Option (ByteArray×ByteArray):=(bT.f k a0 a1).bind fun bt267=>(if bt267.2.2=true then(if bt267.2.1=0 then(none)else((bM.f k (wrap64 (Int.tdiv bt267.1 bt267.2.1))).bind fun t270=>((bM.f k (Int.tmod bt267.1 bt267.2.1)).bind fun t271=>(some (t270,t271)))))else((aZ.f a0).bind fun t272=>((aX.f k t272).bind fun t273=>((aZ.f a1).bind fun t276=>((aX.f k t276).bind fun t277=>((bB.f k t273 t277).bind fun bt280=>((aN.f a0).bind fun t286=>((aN.f a1).bind fun t287=>((bU.f k (t286 != t287) bt280.1).bind fun t288=>((aN.f a0).bind fun t289=>((bU.f k t289 bt280.2).bind fun t290=>(some (t288,t290)))))))))))))
def dW.T3:Bool×List (List Nat×List Nat):=(true,[([],[]),([],[]),([0,1],[0,1]),([2],[2]),([],[]),([],[]),([4,5],[4,5]),([6,3],[6]),([3,7,0,1,2,3],[3]),([7,8,0,1,2,3,4,5,6,7,8],[7])])
def dW.B3:List Nat:=[0,0,3,7,0,0,48,127,255,511]
theorem dW.aCW:nM .any (opsOf Tryz.f33 3)=dW.T3:=by kernel_rfl
theorem dW.aAI:jG dW.T3.2 dW.B3=true:=by kernel_rfl
theorem dW.calls (k:Nat) (a0:ByteArray) (a1:ByteArray) (r1:ByteArray) (r2:ByteArray) (w:World) (h:dW.f k a0 a1=some (r1,r2)):
 Calls Tryz.prog 33 #[.string a0,.string a1] w fun e w'=>e = .returned (.tuple #[.string r1,.string r2])/\Below w.heap.size w w':=by
 have HB:=aA.mk (Below.refl w.heap.size w);have H:((bT.f k a0 a1).bind fun bt267=>(if bt267.2.2=true then(if bt267.2.1=0 then(none)else((bM.f k (wrap64 (Int.tdiv bt267.1 bt267.2.1))).bind fun t270=>((bM.f k (Int.tmod bt267.1 bt267.2.1)).bind fun t271=>(some (t270,t271)))))else((aZ.f a0).bind fun t272=>((aX.f k t272).bind fun t273=>((aZ.f a1).bind fun t276=>((aX.f k t276).bind fun t277=>((bB.f k t273 t277).bind fun bt280=>((aN.f a0).bind fun t286=>((aN.f a1).bind fun t287=>((bU.f k (t286 != t287) bt280.1).bind fun t288=>((aN.f a0).bind fun t289=>((bU.f k t289 bt280.2).bind fun t290=>(some (t288,t290))))))))))))))=some (r1,r2):=h;clear h;replace H:=Zq.mp H;obtain⟨⟨t267,t268,t269⟩,A30,H⟩:=H;try dsimp only at H
 have A3:=aA.mk A30;clear A30;by_cases c4:t269=true
 ·subst c4;(have H1:(if t268=0 then(none)else((bM.f k (wrap64 (Int.tdiv t267 t268))).bind fun t270=>((bM.f k (Int.tmod t267 t268)).bind fun t271=>(some (t270,t271)))))=some (r1,r2):=by rw[if_pos rfl]at H;exact H);clear H;have H:=H1;clear H1;by_cases c5:t268=0;·rw[if_pos c5]at H;exact absurd H (by simp)
  ·rw[if_neg c5]at H;have c5b0:(t268 == 0)=false:=beq_eq_false_iff_ne.mpr c5;have c5b1:(t268 != 0)=true:=bne_iff_ne.mpr c5;obtain⟨t270,A6,H⟩:=Zq.mq H;(try dsimp only at H);obtain⟨t271,A7,H⟩:=Zq.mq H;(try dsimp only at H);simp only[Option.some.injEq,Prod.mk.injEq]at H;obtain⟨rfl,rfl⟩:=H;(go_enter Tryz.func33,Tryz.ntmps33);(try go_wp2_with (first|((with_reducible refine Zq.c 89 rfl ?_);refine Zq.g (some 14) Tryz.func89 #[.string a0,.string a1] ?_;(with_reducible refine(bT.calls k a0 a1 t267 t268 true _ A3.out).mono ?_);rintro e w' ⟨rfl,nd,rfl⟩;refine⟨_,rfl,?_⟩)));replace HB:=aA.mk (aT (bI HB.out nd));refine dG (n:=10) (S:=fun w'=>True) (ds:=[]) #[false,false,false,false,false,false,false,false,false,false] (by kernel_rfl) rfl rfl trivial (fun hHeld=>?_);refine bF dW.aCW dW.aAI (fun HT_ HW_=>?_);generalize(w.drewN nd).drew=w8 at HB hHeld⊢;refine Zq.pu 0 (some 19) (Zq.bs 10 1) ?_;refine Zq.pu 1 (some 20) (Zq.bs 10 3) ?_;refine Zq.pu 2 (some 21) (Zq.bs 10 7) ?_;refine Zq.pu 4 (some 23) (Zq.bs 10 23) ?_;refine Zq.pu 5 (some 24) (Zq.bs 10 55) ?_;refine Zq.pu 6 (some 25) (Zq.bs 10 119) ?_;refine gF (i:=3) (N:=some 22) #[true,true,true,true,true,true,true,false,false,false] rfl rfl (bZ HT_.out (by kernel_rfl)) (by decide) (fun K hK=>?_);refine eQ Tryz.func88 (by kernel_rfl) rfl #[.int .i64 (wrap64 (Int.tdiv t267 t268))] (by rfl) rfl rfl (by(try simp only[List.map_toArray,List.map_cons,List.map_nil]);first|done|rfl|(simp only[List.length_drop,List.length_take];rfl)) ?_
   (with_reducible refine(bM.calls k (wrap64 (Int.tdiv t267 t268)) t270 _ A6.out).mono ?_);rintro e w9 ⟨rfl,hb⟩;refine⟨_,rfl,?_⟩;replace HB:=aA.mk (aC Zq.bo hb);(try clear hb);(try clear hb2);(try clear hk);(try clear hi);refine hK.out _ _ trivial (fun hHeld=>?_);clear hK K;refine dO (a':=?_) ?_ ?_;rotate_left;(·show Act.put _ (some 22) _=_;simp only[Act.put,Zq.a1,Zq.a2,Zq.a3,bG,bK];rfl);refine gF (i:=7) (N:=some 26) #[true,true,true,true,true,true,true,true,false,false] rfl rfl (bZ HT_.out (by kernel_rfl)) (by decide) (fun K hK=>?_);refine eQ Tryz.func88 (by kernel_rfl) rfl #[.int .i64 (Int.tmod t267 t268)] (by rfl) rfl rfl (by(try simp only[List.map_toArray,List.map_cons,List.map_nil]);first|done|rfl|(simp only[List.length_drop,List.length_take];rfl)) ?_;(with_reducible refine(bM.calls k (Int.tmod t267 t268) t271 _ A7.out).mono ?_);rintro e w10 ⟨rfl,hb⟩;refine⟨_,rfl,?_⟩;replace HB:=aA.mk (aC Zq.bo hb);(try clear hb);(try clear hb2);(try clear hk);(try clear hi);refine hK.out _ _ trivial (fun hHeld=>?_);clear hK K;refine dO (a':=?_) ?_ ?_;rotate_left;(·show Act.put _ (some 26) _=_;simp only[Act.put,Zq.a1,Zq.a2,Zq.a3,bG,bK];rfl);refine Zq.pu 8 (some 4) (Zq.bs 10 511) ?_;refine Zq.pu 9 (some 5) (Zq.bs 10 1023) ?_;refine eZ (bV HT_.out (by kernel_rfl)) ?_;try go_wp2
   go_ret2
   exact⟨Zq.ew,Zq.bo⟩
 ·replace c4:=Bool.eq_false_iff.mpr c4;subst c4;(have H1:((aZ.f a0).bind fun t272=>((aX.f k t272).bind fun t273=>((aZ.f a1).bind fun t276=>((aX.f k t276).bind fun t277=>((bB.f k t273 t277).bind fun bt280=>((aN.f a0).bind fun t286=>((aN.f a1).bind fun t287=>((bU.f k (t286 != t287) bt280.1).bind fun t288=>((aN.f a0).bind fun t289=>((bU.f k t289 bt280.2).bind fun t290=>(some (t288,t290))))))))))))=some (r1,r2):=by rw[if_neg (show ¬(false=true) by decide)]at H;exact H);clear H;have H:=H1;clear H1;obtain⟨t272,A11,H⟩:=Zq.mq H;(try dsimp only at H);obtain⟨t273,A12,H⟩:=Zq.mq H;(try dsimp only at H);obtain⟨t276,A13,H⟩:=Zq.mq H;(try dsimp only at H);obtain⟨t277,A14,H⟩:=Zq.mq H;(try dsimp only at H);replace H:=Zq.mp H;obtain⟨⟨t280,t283⟩,A150,H⟩:=H;(try dsimp only at H);have A15:=aA.mk A150;clear A150;obtain⟨t286,A16,H⟩:=Zq.mq H;(try dsimp only at H);obtain⟨t287,A17,H⟩:=Zq.mq H;(try dsimp only at H);obtain⟨t288,A18,H⟩:=Zq.mq H;(try dsimp only at H);replace H:=Zq.mp H;obtain⟨t289,A190,H⟩:=H;(try dsimp only at H);have A19:=aA.mk A190;have EA19:t286=t289:=Option.some.inj (A16.out.symm.trans A19.out);subst EA19;clear A190;obtain⟨t290,A20,H⟩:=Zq.mq H;(try dsimp only at H);simp only[Option.some.injEq,Prod.mk.injEq]at H;obtain⟨rfl,rfl⟩:=H;go_enter Tryz.func33,Tryz.ntmps33
  go_wp2_with (first|((with_reducible refine Zq.c 89 rfl ?_);refine Zq.g (some 14) Tryz.func89 #[.string a0,.string a1] ?_;(with_reducible refine(bT.calls k a0 a1 t267 t268 false _ A3.out).mono ?_);rintro e w' ⟨rfl,nd,rfl⟩;refine⟨_,rfl,?_⟩)|((with_reducible refine Zq.c 35 rfl ?_);refine Zq.g (some 29) Tryz.func35 #[.string a0] ?_;(with_reducible refine(aZ.calls a0 t272 _ A11.out).mono ?_);rintro e w' ⟨rfl,nd,rfl⟩;refine⟨_,rfl,?_⟩)|((with_reducible refine Zq.c 92 rfl ?_);refine Zq.g (some 30) Tryz.func92 #[.string t272] ?_;(with_reducible refine(aX.calls k t272 t273 _ A12.out).mono ?_);rintro e w21 ⟨v274,rfl,ho0,hb⟩;refine⟨_,rfl,?_⟩;have HO275:=aA.mk (Kd.dH (Kd.dB (ok':=fun k_=>True) ho0 (fun k_ hk_=>trivial)) (aD Zq.bo));replace HB:=aA.mk (aC Zq.bo hb);(try clear hb);(try clear hb2);(try clear hk);(try clear hi);(try clear ho0))|((with_reducible refine Zq.c 35 rfl ?_);refine Zq.g (some 32) Tryz.func35 #[.string a1] ?_;(with_reducible refine(aZ.calls a1 t276 _ A13.out).mono ?_);rintro e w' ⟨rfl,nd,rfl⟩;refine⟨_,rfl,?_⟩)|((with_reducible refine Zq.c 92 rfl ?_);refine Zq.g (some 33) Tryz.func92 #[.string t276] ?_;(with_reducible refine(aX.calls k t276 t277 _ A14.out).mono ?_);rintro e w22 ⟨v278,rfl,ho0,hb⟩;refine⟨_,rfl,?_⟩;replace HO275:=aA.mk (Kd.bH (Zq.va HO275.out) hb);have HO279:=aA.mk (Kd.dH (Kd.dB (ok':=fun k_=>True) ho0 (fun k_ hk_=>trivial)) (aD Zq.bo));replace HB:=aA.mk (aC Zq.bo hb);(try clear hb);(try clear hb2);(try clear hk);(try clear hi);(try clear ho0);obtain⟨Ao23,co23,eo23⟩:=Kd.dP HO275.out;subst eo23;obtain⟨Ao24,co24,eo24⟩:=Kd.dP HO279.out;subst eo24)|((with_reducible refine Zq.c 96 rfl ?_);refine Zq.g (some 34) Tryz.func96 #[.slice Ao23 t273.length co23,.slice Ao24 t277.length co24] ?_;(with_reducible refine(bB.calls k _ _ t273 _ _ t277 t280 t283 _ ?side1 ?side2 ?side3 ?side4 A15.out).mono ?_);(case side1=>exact Zq.ca (Kd.aY HO275.out).2.2);(case side2=>exact(Kd.aY HO275.out).2.1);(case side3=>exact Zq.ca (Kd.aY HO279.out).2.2);(case side4=>exact(Kd.aY HO279.out).2.1);rintro e w25 ⟨v281,v284,rfl,ho0,ho1,hb⟩;refine⟨_,rfl,?_⟩;replace HO275:=aA.mk (Kd.bH (Zq.va HO275.out) hb);replace HO279:=aA.mk (Kd.bH (Zq.va HO279.out) hb);have HO282:=aA.mk (Kd.dH (Kd.dB (ok':=fun k_=>True) ho0 (fun k_ hk_=>trivial)) (aD Zq.bo));have HO285:=aA.mk (Kd.dH (Kd.dB (ok':=fun k_=>True) ho1 (fun k_ hk_=>trivial)) (aD Zq.bo));replace HB:=aA.mk (aC Zq.bo hb);(try clear hb);(try clear hb2);(try clear hk);(try clear hi);(try clear ho0);(try clear ho1))|((with_reducible refine Zq.c 31 rfl ?_);refine Zq.g (some 38) Tryz.func31 #[.string a0] ?_;(with_reducible refine(aN.calls a0 t286 _ A16.out).mono ?_);rintro e w' ⟨rfl,nd,rfl⟩;refine⟨_,rfl,?_⟩)|((with_reducible refine Zq.c 31 rfl ?_);refine Zq.g (some 40) Tryz.func31 #[.string a1] ?_;(with_reducible refine(aN.calls a1 t287 _ A17.out).mono ?_);rintro e w' ⟨rfl,nd,rfl⟩;refine⟨_,rfl,?_⟩;obtain⟨Ao26,co26,eo26⟩:=Kd.dP HO282.out;subst eo26)|((with_reducible refine Zq.c 90 rfl ?_);refine Zq.g (some 43) Tryz.func90 #[.bool (t286 != t287),.slice Ao26 t280.length co26] ?_;(with_reducible refine(bU.calls k (t286 != t287) _ _ t280 t288 _ ?side1 ?side2 A18.out).mono ?_);(case side1=>exact Zq.ca (Kd.aY HO282.out).2.2);(case side2=>exact(Kd.aY HO282.out).2.1);rintro e w27 ⟨rfl,hb⟩;refine⟨_,rfl,?_⟩;replace HO275:=aA.mk (Kd.bH (Zq.va HO275.out) hb);replace HO279:=aA.mk (Kd.bH (Zq.va HO279.out) hb);replace HO282:=aA.mk (Kd.bH (Zq.va HO282.out) hb);replace HO285:=aA.mk (Kd.bH (Zq.va HO285.out) hb);replace HB:=aA.mk (aC Zq.bo hb);(try clear hb);(try clear hb2);(try clear hk);(try clear hi))|((with_reducible refine Zq.c 31 rfl ?_);refine Zq.g (some 45) Tryz.func31 #[.string a0] ?_;(with_reducible refine(aN.calls a0 t286 _ A19.out).mono ?_);rintro e w' ⟨rfl,nd,rfl⟩;refine⟨_,rfl,?_⟩;obtain⟨Ao28,co28,eo28⟩:=Kd.dP HO285.out;subst eo28)|((with_reducible refine Zq.c 90 rfl ?_);refine Zq.g (some 47) Tryz.func90 #[.bool t286,.slice Ao28 t283.length co28] ?_;(with_reducible refine(bU.calls k t286 _ _ t283 t290 _ ?side1 ?side2 A20.out).mono ?_);(case side1=>exact Zq.ca (Kd.aY HO285.out).2.2);(case side2=>exact(Kd.aY HO285.out).2.1);rintro e w29 ⟨rfl,hb⟩;refine⟨_,rfl,?_⟩;replace HO275:=aA.mk (Kd.bH (Zq.va HO275.out) hb);replace HO279:=aA.mk (Kd.bH (Zq.va HO279.out) hb);replace HO282:=aA.mk (Kd.bH (Zq.va HO282.out) hb);replace HO285:=aA.mk (Kd.bH (Zq.va HO285.out) hb);replace HB:=aA.mk (aC Zq.bo hb);(try clear hb);(try clear hb2);(try clear hk);(try clear hi)))
  go_ret2
  exact⟨Zq.ew,Zq.bo⟩
def dN.j0:Nat->ByteArray->ByteArray->ByteArray->Bool->Option (ByteArray×ByteArray)
 | 0,_,_,_,_=>none
 | k+1,x1,x6,x7,x22=>if x22=true then((iA.f k x6 (⟨#[49]⟩:ByteArray)).bind fun t343=>((fG.f k x7 x1).bind fun t344=>(some (t343,t344))))else(some (x6,x7))
def dN.f (k:Nat) (a0:ByteArray) (a1:ByteArray):Option (ByteArray×ByteArray):=(dW.f k a0 a1).bind fun bt339=>(if bt339.2.toList=([48]:List UInt8)then(dN.j0 k a1 bt339.1 bt339.2 false)else((aN.f bt339.2).bind fun t341=>((aN.f a1).bind fun t342=>(dN.j0 k a1 bt339.1 bt339.2 (t341 != t342)))))
theorem dN.calls (k:Nat) (a0:ByteArray) (a1:ByteArray) (r1:ByteArray) (r2:ByteArray) (w:World) (h:dN.f k a0 a1=some (r1,r2)):
 Calls Tryz.prog 52 #[.string a0,.string a1] w fun e w'=>e = .returned (.tuple #[.string r1,.string r2])/\Below w.heap.size w w':=by
 have HB:=aA.mk (Below.refl w.heap.size w);have H:((dW.f k a0 a1).bind fun bt339=>(if bt339.2.toList=([48]:List UInt8)then(dN.j0 k a1 bt339.1 bt339.2 false)else((aN.f bt339.2).bind fun t341=>((aN.f a1).bind fun t342=>(dN.j0 k a1 bt339.1 bt339.2 (t341 != t342))))))=some (r1,r2):=h;clear h;replace H:=Zq.mp H;obtain⟨⟨t339,t340⟩,A30,H⟩:=H;try dsimp only at H
 have A3:=aA.mk A30;clear A30;have HC4:=aA.mk H;clear H;go_enter Tryz.func52,Tryz.ntmps52
 go_upto_region 2 with(first|((with_reducible refine Zq.c 33 rfl ?_);refine Zq.g (some 11) Tryz.func33 #[.string a0,.string a1] ?_;(with_reducible refine(dW.calls k a0 a1 t339 t340 _ A3.out).mono ?_);rintro e w5 ⟨rfl,hb⟩;refine⟨_,rfl,?_⟩;replace HB:=aA.mk (aC Zq.bo hb);(try clear hb);(try clear hb2);(try clear hk);(try clear hi)))
 (try simp only[Act.put,Zq.a1,Zq.a2,Zq.a3])
 go_cut [22] (fun v22 wc=>∃(kq:Nat) (x22_3:Bool),v22 = .bool x22_3/\aA (dN.j0 kq a1 t339 t340 x22_3=some (r1,r2))/\aA (kq<=k)/\aA (Below w.heap.size w wc))
 case first=>
  have H:=HC4.out;clear HC4;by_cases c6:t340.toList=([48]:List UInt8)
  ·rw[if_pos c6]at H;have c6b0:(t340.toList == ([48]:List UInt8))=true:=beq_iff_eq.mpr c6;have c6b1:(t340.toList != ([48]:List UInt8))=false:=bne_eq_false_iff_eq.mpr c6;clear c6;(first|rw[c6b0]|(simp only[bG,bK];rw[c6b0])|skip);have H':=aA.mk H;clear H;go_wp2
   go_meet
   case rel=>exact⟨_,(false),Zq.sd,H',⟨by first|omega|exact Nat.le_refl _⟩,⟨Zq.bo⟩⟩
  ·rw[if_neg c6]at H;have c6b0:(t340.toList == ([48]:List UInt8))=false:=beq_eq_false_iff_ne.mpr c6;have c6b1:(t340.toList != ([48]:List UInt8))=true:=bne_iff_ne.mpr c6;(first|rw[c6b0]|(simp only[bG,bK];rw[c6b0])|skip);obtain⟨t341,A7,H⟩:=Zq.mq H;(try dsimp only at H);obtain⟨t342,A8,H⟩:=Zq.mq H;(try dsimp only at H);have H':=aA.mk H;clear H;go_wp2_with (first|(go_at_call 31;(with_reducible refine(aN.calls t340 t341 _ A7.out).mono ?_);rintro e w' ⟨rfl,nd,rfl⟩)|(go_at_call 31;(with_reducible refine(aN.calls a1 t342 _ A8.out).mono ?_);rintro e w' ⟨rfl,nd,rfl⟩))
   go_meet
   case rel=>exact⟨_,((t341 != t342)),Zq.sd,H',⟨by first|omega|exact Nat.le_refl _⟩,⟨Zq.bo⟩⟩
 case rest=>
  clear HC4;(try clear p2);(try clear c3);(try clear c5);(try clear c6);(try clear c6b0);(try clear c6b1);obtain⟨kq,x22_3,rfl,HA,HJ3,HB⟩:=hcut;cases kq with
  | zero=>exact absurd HA.out (by simp[dN.j0])
  | succ kj3=>
   have H:=HA.out;clear HA;simp only[dN.j0]at H;by_cases c9:x22_3=true
   ·subst c9;(have H1:((iA.f kj3 t339 (⟨#[49]⟩:ByteArray)).bind fun t343=>((fG.f kj3 t340 a1).bind fun t344=>(some (t343,t344))))=some (r1,r2):=by rw[if_pos rfl]at H;exact H);clear H;have H:=H1;clear H1;obtain⟨t343,A10,H⟩:=Zq.mq H;(try dsimp only at H);obtain⟨t344,A11,H⟩:=Zq.mq H;(try dsimp only at H);simp only[Option.some.injEq,Prod.mk.injEq]at H;obtain⟨rfl,rfl⟩:=H;go_wp2_with (first|((with_reducible refine Zq.c 83 rfl ?_);refine Zq.g (some 24) Tryz.func83 #[.string t339,.string (⟨#[49]⟩:ByteArray)] ?_;(with_reducible refine(iA.calls kj3 t339 (⟨#[49]⟩:ByteArray) t343 _ A10.out).mono ?_);rintro e w12 ⟨rfl,hb⟩;refine⟨_,rfl,?_⟩;replace HB:=aA.mk (aC Zq.bo hb);(try clear hb);(try clear hb2);(try clear hk);(try clear hi))|((with_reducible refine Zq.c 32 rfl ?_);refine Zq.g (some 27) Tryz.func32 #[.string t340,.string a1] ?_;(with_reducible refine(fG.calls kj3 t340 a1 t344 _ A11.out).mono ?_);rintro e w13 ⟨rfl,hb⟩;refine⟨_,rfl,?_⟩;replace HB:=aA.mk (aC Zq.bo hb);(try clear hb);(try clear hb2);(try clear hk);(try clear hi)))
    go_ret2
    exact⟨Zq.ew,Zq.bo⟩
   ·replace c9:=Bool.eq_false_iff.mpr c9;subst c9;(have H1:(some (t339,t340))=some (r1,r2):=by rw[if_neg (show ¬(false=true) by decide)]at H;exact H);clear H;have H:=H1;clear H1;simp only[Option.some.injEq,Prod.mk.injEq]at H;obtain⟨rfl,rfl⟩:=H;go_wp2
    go_ret2
    exact⟨Zq.ew,Zq.bo⟩
end Go.Proofs.YtjieekkkaekclaaGreatDoor.PR
namespace Go.Proofs.YtjieekkkaekclaaGreatDoor
open Go Go.RowKit Go.Pw.PrintWords Go.Proofs.YtjieekkkaekclaaGreatDoor.PR
theorem Mw.Sz.uY {L:Nat} {n:Int} (h:(Mw.gU n.natAbs).length<=L) (hL:1<=L):Mw.Sz L n:=(Mw.iZ _ _ hL).mp h
theorem dD {n:Int} (h:n<0):((n.natAbs:Nat):Int) = -n:=by omega
theorem dC {n:Int} (h:¬n<0):((n.natAbs:Nat):Int)=n:=by omega
theorem zJ (n m:Int) {L:Nat} (hn:Mw.Sz L n) (hm:Mw.Sz L m) (h1:1<=L) (hL:L<=40000):EvP (fun k=>jO.f k (Mw.T n) (Mw.T m)) (gV n m):=by
 obtain⟨x,y,b,he,hb,hs⟩:=nG n m (by have:=hn.len h1;omega) (by have:=hm.len h1;omega);have ln:=jU n hn h1 hL;have lm:=jU m hm h1 hL;unfold jO.f;refine EvP.bind he ?_;cases b with
 | true=>obtain⟨rfl,rfl⟩:=hs rfl;have hsm:=uQ hb.symm;refine EvP.fM rfl ?_;by_cases hlt:x<y;(·refine EvP.fM hlt ?_;unfold gV;rw[if_pos hlt];exact EvP.now _);·refine EvP.jC hlt ?_;dsimp only;rw[eT (by omega) (by omega)];(have:mn 1 (x-y)=gV x y:=by unfold gV mn;rw[if_neg hlt];by_cases h2:y<x;(·rw[if_pos h2];split<;>omega);·rw[if_neg h2];split<;>omega);simp only[this];exact EvP.now _
 | false=>refine EvP.jC (by simp) ?_;rw[kN,kN];refine EvP.bind (EvP.now _) (EvP.bind (EvP.now _) ?_);by_cases c1:n<0;(·by_cases c2:m<0;(·refine EvP.jC (by simp[c1,c2]) (EvP.bind (EvP.now _) (EvP.fM (by simp[c1]) ?_));rw[lL,lL];refine EvP.bind (EvP.now _) (EvP.bind lm (EvP.bind (EvP.now _) (EvP.bind ln (EvP.bind (qL _ _ (by have:=hm.lm;omega) (by have:=hn.lm;omega)) ?_))));rw[dD c1,dD c2];(have:gV (-m) (-n)=gV n m:=by unfold gV;by_cases h:n<m<;>by_cases h':m<n<;>simp[h,h']<;>omega);rw[this];exact EvP.now _);·refine EvP.fM (by simp[c1,c2]) (EvP.bind (EvP.now _) (EvP.fM (by simp[c1]) ?_));unfold gV;rw[if_pos (by omega)];exact EvP.now _);·by_cases c2:m<0;(·refine EvP.fM (by simp[c1,c2]) (EvP.bind (EvP.now _) (EvP.jC (by simp;omega) ?_));unfold gV;rw[if_neg (by omega),if_pos (by omega)];exact EvP.now _);·refine EvP.jC (by simp[c1,c2]) (EvP.bind (EvP.now _) (EvP.jC (by simp;omega) ?_));rw[Mw.T,Mw.T,Mw.eY (show 0<=n by omega),Mw.eY (show 0<=m by omega)];refine EvP.bind ln (EvP.bind lm (EvP.bind (qL _ _ (by have:=hn.lm;omega) (by have:=hm.lm;omega)) ?_));rw[dC c1,dC c2];exact EvP.now _
theorem uE (n m:Int) {L:Nat} (hn:Mw.Sz L n) (hm:Mw.Sz L m) (h1:1<=L) (hL:L<=40000):EvP (fun k=>iA.f k (Mw.T n) (Mw.T m)) (Mw.T (n-m)):=by unfold iA.f;rw[qP m (by have:=hm.len h1;omega),Int.sub_eq_add_neg];exact EvP.bind (EvP.now _) (EvP.bind (rH n (-m) hn hm.neg h1 hL) (EvP.now _))
theorem kW (n m:Int) {L:Nat} (hn:Mw.Sz L n) (hm:Mw.Sz L m) (h1:1<=L) (hL:L<=40000):EvP (fun k=>cZ.f k (Mw.T n) (Mw.T m)) (Mw.T (n*m)):=by
 obtain⟨x,y,b,he,hb,hs⟩:=nG n m (by have:=hn.len h1;omega) (by have:=hm.len h1;omega);have ln:=jU n hn h1 hL;have lm:=jU m hm h1 hL;have len:=hn.lm;have lem:=hm.lm;have hprod:=hn.mul hm;unfold cZ.f;refine EvP.bind he ?_;cases b with
 | true=>obtain⟨rfl,rfl⟩:=hs rfl;have hsm:=uQ hb.symm;(have hp:(x*y).natAbs<1000000000*1000000000:=by rw[Int.natAbs_mul];exact Nat.mul_lt_mul'' hsm.1 hsm.2);refine EvP.fM rfl ?_;dsimp only;rw[eT (by omega) (by omega)];exact EvP.bind (kU _ (by omega)) (EvP.now _)
 | false=>refine EvP.jC (by simp) ?_;rw[kN,kN,lL,lL];refine EvP.bind (EvP.now _) (EvP.bind (EvP.now _) (EvP.bind (EvP.now _) (EvP.bind ln (EvP.bind (EvP.now _) (EvP.bind lm (EvP.bind (kT _ _ (by omega) (by omega)) (EvP.bind (mI _ _ (L:=L+L) ?_ (by omega) (by omega) ?_) (EvP.now _))))))));(·refine hprod.of_le ?_;rw[Int.natAbs_natCast,Int.natAbs_mul];exact Nat.le_refl _);·rw[Int.natCast_mul];by_cases c1:n<0<;>by_cases c2:m<0<;>simp only[c1,c2,decide_true,decide_false,bne_self_eq_false,Bool.true_bne,Bool.false_bne,Bool.not_false,Bool.not_true,if_true,Bool.false_eq_true,if_false];(·rw[dD c1,dD c2];grind);(·rw[dD c1,dC c2];grind);(·rw[dC c1,dD c2];grind);·rw[dC c1,dC c2]
theorem tdiv_sign (n m:Int):n.tdiv m=if(decide (n<0) != decide (m<0))=true then -((n.natAbs/m.natAbs:Nat):Int)else((n.natAbs/m.natAbs:Nat):Int):=by
 have p:∀a:Nat,decide (Int.ofNat a<0)=false:=fun a=>decide_eq_false (by simp)
 have q:∀a:Nat,decide (Int.negSucc a<0)=true:=fun a=>decide_eq_true (Int.negSucc_lt_zero a)
 cases n with
 | ofNat a=>
  cases m with
  | ofNat b=>rw[p,p];rfl
  | negSucc b=>rw[p,q];rfl
 | negSucc a=>
  cases m with
  | ofNat b=>rw[p,q];rfl
  | negSucc b=>rw[q,q];rfl
theorem mW (n m:Int):n.tmod m=if n<0 then -((n.natAbs%m.natAbs:Nat):Int)else((n.natAbs%m.natAbs:Nat):Int):=by
 cases n with
 | ofNat a=>cases m<;>rw[if_neg (by simp)]<;>rfl
 | negSucc a=>cases m<;>rw[if_pos (by simp)]<;>rfl
theorem uD (n m:Int) (hm0:m≠0) {L:Nat} (hn:Mw.Sz L n) (hm:Mw.Sz L m) (h1:1<=L) (hL:L<=40000):EvP (fun k=>dW.f k (Mw.T n) (Mw.T m)) (Mw.T (n.tdiv m),Mw.T (n.tmod m)):=by
 obtain⟨x,y,b,he,hb,hs⟩:=nG n m (by have:=hn.len h1;omega) (by have:=hm.len h1;omega);have ln:=jU n hn h1 hL;have lm:=jU m hm h1 hL;have len:=hn.lm;have lem:=hm.lm;have hq:(n.tdiv m).natAbs<=n.natAbs:=by rw[tdiv_sign];have h:=Nat.div_le_self n.natAbs m.natAbs;generalize n.natAbs/m.natAbs=q at *;split<;>omega
 have hr:(n.tmod m).natAbs<=n.natAbs:=by rw[mW];have h:=Nat.mod_le n.natAbs m.natAbs;generalize n.natAbs%m.natAbs=q at *;split<;>omega
 unfold dW.f;refine EvP.bind he ?_;cases b with
 | true=>obtain⟨rfl,rfl⟩:=hs rfl;have hsm:=uQ hb.symm;refine EvP.fM rfl (EvP.jC hm0 ?_);dsimp only;rw[eT (by omega) (by omega)];exact EvP.bind (kU _ (by omega)) (EvP.bind (kU _ (by omega)) (EvP.now _))
 | false=>refine EvP.jC (by simp) ?_;rw[kN,kN,lL,lL];have eq:=tdiv_sign n m;have er:=mW n m;refine EvP.bind (EvP.now _) (EvP.bind ln (EvP.bind (EvP.now _) (EvP.bind lm (EvP.bind (vX _ _ (by omega) (by omega) (by omega)) (EvP.bind (EvP.now _) (EvP.bind (EvP.now _) (EvP.bind (mI _ _ (L:=L) ?_ (by omega) (by omega) ?_) (EvP.bind (EvP.now _) (EvP.bind (mI _ _ (L:=L) ?_ (by omega) (by omega) ?_) (EvP.now _))))))))));(·refine hn.of_le ?_;rw[Int.natAbs_natCast];exact Nat.div_le_self _ _);(·rw[eq]);(·refine hn.of_le ?_;rw[Int.natAbs_natCast];exact Nat.mod_le _ _);·rw[er];by_cases c1:n<0<;>simp[c1]
theorem vZ:(⟨#[49]⟩:ByteArray)=Mw.T 1:=by rw[Mw.T,Mw.eY (by omega),Mw.jY (by decide)];rfl
theorem aGU:(⟨#[45,49]⟩:ByteArray)=Mw.T (-1):=by rw[Mw.T,Mw.kF (by omega),Mw.jY (by decide)];rfl
theorem zM (n:Int):(Mw.T n).toList=Mw.jF n:=by rw[Mw.T,xN]
theorem nS {α:Type} (d:α) (xs:List α) (i:Nat):aU d xs (i:Int)=xs.getD i d:=by rw[aU,Int.toNat_natCast]
theorem fC (n:Int):(Mw.T n).toList=([48]:List UInt8)<->n=0:=by rw[zM,Mw.jN]
theorem qO {L:Nat} (h:1<=L):Mw.Sz L 1:=by have:10^1<=10^L:=Nat.pow_le_pow_right (by omega) h;show(1:Int).natAbs<10^L;rw[show(1:Int).natAbs=1 from rfl];omega
theorem sD (n m:Int) (hm0:m≠0) {L:Nat} (hn:Mw.Sz L n) (hm:Mw.Sz L m) (h1:1<=L) (hL:L<=40000):EvP (fun k=>dN.f k (Mw.T n) (Mw.T m)) (Mw.T (n.fdiv m),Mw.T (n.fmod m)):=by
 have hq:Mw.Sz L (n.tdiv m):=hn.of_le (by rw[Int.natAbs_tdiv];exact Nat.div_le_self _ _);have hr:Mw.Sz L (n.tmod m):=hn.of_le (by rw[Int.natAbs_tmod];exact Nat.mod_le _ _);have hv:=xI (n:=n) hm0;unfold dN.f;refine EvP.bind (uD n m hm0 hn hm h1 hL) ?_;dsimp only;by_cases h0:n.tmod m=0;·refine EvP.fM ((fC _).mpr h0) ?_;obtain⟨e1,e2⟩:=hv.1 (.inl h0);rw[e1,e2];exact EvP.step (f:=fun _=>some (Mw.T (n.tdiv m),Mw.T (n.tmod m))) (fun k=>by simp only[dN.j0];rw[if_neg (by simp)]) (EvP.now _)
 ·refine EvP.jC (fun h=>h0 ((fC _).mp h)) ?_;rw[kN,kN];refine EvP.bind (EvP.now _) (EvP.bind (EvP.now _) ?_);by_cases hs:decide (n.tmod m<0)=decide (m<0);(·(have hsg:sgn (n.tmod m)=sgn m:=by have:=decide_eq_decide.mp hs;unfold sgn;by_cases c:n.tmod m<0;(·rw[if_pos c,if_pos (this.mp c)]);·rw[if_neg c,if_neg (fun h=>c (this.mpr h)),if_neg h0,if_neg hm0]);obtain⟨e1,e2⟩:=hv.1 (.inr hsg);rw[e1,e2,hs];exact EvP.step (f:=fun _=>some (Mw.T (n.tdiv m),Mw.T (n.tmod m))) (fun k=>by simp only[dN.j0];rw[if_neg (by simp)]) (EvP.now _));·(have hsg:sgn (n.tmod m)≠sgn m:=by intro h;apply hs;unfold sgn at h;by_cases c:n.tmod m<0<;>by_cases c':m<0<;>simp only[c,c',h0,hm0,if_true,if_false,decide_true,decide_false]at h⊢<;>omega);obtain⟨e1,e2⟩:=hv.2 h0 hsg;rw[e1,e2];refine EvP.step (f:=fun k=>(iA.f k (Mw.T (n.tdiv m)) (⟨#[49]⟩:ByteArray)).bind fun t=>(fG.f k (Mw.T (n.tmod m)) (Mw.T m)).bind fun u=>some (t,u)) (fun k=>?_) ?_;(·simp only[dN.j0];rw[if_pos (by simpa using hs)]);·rw[vZ];exact EvP.bind (uE _ _ hq (qO h1) h1 hL) (EvP.bind (rH _ _ hr hm h1 hL) (EvP.now _))
theorem tO {n m:Int} (hm0:m≠0) {L:Nat} (hm:Mw.Sz L m):Mw.Sz L (n.fmod m):=hm.of_le (Nat.le_of_lt (nA hm0).2.1)
theorem lX {l:List UInt8} (h:Mw.iP l=0):∃n,Mw.B l=Mw.T n/\Mw.lI l=n/\l=Mw.jF n/\Mw.Sz 400 n:=by
 unfold Mw.iP at h;by_cases ho:Mw.okf l=true;·rw[if_pos ho]at h;by_cases hl:400<(Mw.unm l).length;(·rw[if_pos hl]at h;cases h);·have e:=Mw.xH l ho;refine⟨Mw.lI l,by rw[Mw.T,e],rfl,e.symm,Mw.Sz.uY ?_ (by omega)⟩;rw[<-Mw.nR,e];omega
 ·rw[if_neg ho]at h;cases h
theorem oW {n:Int} (h:Mw.Sz 400 n):Mw.gZ n=0:=by unfold Mw.gZ;rw[if_neg (by have:=h.len (by omega);omega)]
end Go.Proofs.YtjieekkkaekclaaGreatDoor
namespace Go.Proofs.YtjieekkkaekclaaGreatDoor.PR
open Go.RowKit Go.Pw.PrintWords Go.Pw.PrintLast Go.Pw.PrintMore
attribute [local go_sem] eG dZ fE fD dM dL eF dY
def eO.f:Nat->Int->Option (ByteArray)
 | 0,_=>none
 | k+1,a0=>if a0<0 then((eO.f k (wrap64 (-a0))).bind fun t412=>(if 1+t412.size<=9223372036854775807 then(some ((⟨#[45]⟩:ByteArray)++t412))else(none)))else(if a0<10 then((kV.f a0).bind fun t413=>(some t413))else((eO.f k (wrap64 (Int.tdiv a0 10))).bind fun t414=>((kV.f (Int.tmod a0 10)).bind fun t415=>(if t414.size+t415.size<=9223372036854775807 then(some (t414++t415))else(none)))))
theorem eO.calls (k:Nat):∀(a0:Int) (r:ByteArray) (w:World) (h:eO.f k a0=some r),
 Calls Tryz.prog 23 #[.int .i64 a0] w fun e w'=>e = .returned (.string r)/\Below w.heap.size w w':=by
 induction k using Nat.strongRecOn with
 | _ k ih=>
  intro a0 r w h;cases k with
  | zero=>exact absurd h (by simp[eO.f])
  | succ k=>
   simp only[eO.f]at h;have HB:=aA.mk (Below.refl w.heap.size w);have H:(if a0<0 then((eO.f k (wrap64 (-a0))).bind fun t412=>(if 1+t412.size<=9223372036854775807 then(some ((⟨#[45]⟩:ByteArray)++t412))else(none)))else(if a0<10 then((kV.f a0).bind fun t413=>(some t413))else((eO.f k (wrap64 (Int.tdiv a0 10))).bind fun t414=>((kV.f (Int.tmod a0 10)).bind fun t415=>(if t414.size+t415.size<=9223372036854775807 then(some (t414++t415))else(none))))))=some r:=h;clear h;by_cases c2:a0<0
   ·rw[if_pos c2]at H;have c2b0:decide (a0<0)=true:=decide_eq_true c2;clear c2;obtain⟨t412,A3,H⟩:=Zq.mq H;(try dsimp only at H);by_cases c4:1+t412.size<=9223372036854775807
    ·rw[if_pos c4]at H;have c4b0:=eq_true c4;have c4b1:decide (1+t412.size<=9223372036854775807)=true:=decide_eq_true c4;(try have c4b2:(9223372036854775807<1+t412.size)=False:=eq_false (Nat.not_lt.2 c4));obtain rfl:=Option.some.inj H;(go_enter Tryz.func23,Tryz.ntmps23);go_wp2_with (first|((with_reducible refine Zq.c 23 rfl ?_);refine Zq.g (some 7) Tryz.func23 #[.int .i64 (wrap64 (-a0))] ?_;(with_reducible refine(ih k (by omega) (wrap64 (-a0)) t412 _ A3.out).mono ?_);rintro e w5 ⟨rfl,hb⟩;refine⟨_,rfl,?_⟩;replace HB:=aA.mk (aC Zq.bo hb);(try clear hb);(try clear hb2);(try clear hk);(try clear hi)))
     go_ret
     exact⟨Zq.ew,Zq.bo⟩
    ·rw[if_neg c4]at H;exact absurd H (by simp)
   ·rw[if_neg c2]at H;have c2b0:decide (a0<0)=false:=decide_eq_false c2;clear c2;by_cases c6:a0<10
    ·rw[if_pos c6]at H;have c6b0:decide (a0<10)=true:=decide_eq_true c6;clear c6;obtain⟨t413,A7,H⟩:=Zq.mq H;(try dsimp only at H);obtain rfl:=Option.some.inj H;(go_enter Tryz.func23,Tryz.ntmps23);go_wp2_with (first|((with_reducible refine Zq.c 65 rfl ?_);refine Zq.g (some 12) Tryz.func65 #[.int .i64 a0] ?_;(with_reducible refine(kV.calls a0 t413 _ A7.out).mono ?_);rintro e w8 ⟨rfl,hb⟩;refine⟨_,rfl,?_⟩;replace HB:=aA.mk (aC Zq.bo hb);(try clear hb);(try clear hb2);(try clear hk);(try clear hi)))
     go_ret
     exact⟨Zq.ew,Zq.bo⟩
    ·rw[if_neg c6]at H;have c6b0:decide (a0<10)=false:=decide_eq_false c6;clear c6;obtain⟨t414,A9,H⟩:=Zq.mq H;(try dsimp only at H);obtain⟨t415,A10,H⟩:=Zq.mq H;(try dsimp only at H);by_cases c11:t414.size+t415.size<=9223372036854775807
     ·rw[if_pos c11]at H;have c11b0:=eq_true c11;have c11b1:decide (t414.size+t415.size<=9223372036854775807)=true:=decide_eq_true c11;(try have c11b2:(9223372036854775807<t414.size+t415.size)=False:=eq_false (Nat.not_lt.2 c11));obtain rfl:=Option.some.inj H;(go_enter Tryz.func23,Tryz.ntmps23);go_wp2_with (first|((with_reducible refine Zq.c 23 rfl ?_);refine Zq.g (some 15) Tryz.func23 #[.int .i64 (wrap64 (Int.tdiv a0 10))] ?_;(with_reducible refine(ih k (by omega) (wrap64 (Int.tdiv a0 10)) t414 _ A9.out).mono ?_);rintro e w12 ⟨rfl,hb⟩;refine⟨_,rfl,?_⟩;replace HB:=aA.mk (aC Zq.bo hb);(try clear hb);(try clear hb2);(try clear hk);(try clear hi))|((with_reducible refine Zq.c 65 rfl ?_);refine Zq.g (some 18) Tryz.func65 #[.int .i64 (Int.tmod a0 10)] ?_;(with_reducible refine(kV.calls (Int.tmod a0 10) t415 _ A10.out).mono ?_);rintro e w13 ⟨rfl,hb⟩;refine⟨_,rfl,?_⟩;replace HB:=aA.mk (aC Zq.bo hb);(try clear hb);(try clear hb2);(try clear hk);(try clear hi)))
      go_ret
      exact⟨Zq.ew,Zq.bo⟩
     ·rw[if_neg c11]at H;exact absurd H (by simp)
def fI.l0:Nat->List ByteArray->List ByteArray->Int->Option (Bool)
 | 0,_,_,_=>none
 | k+1,x0,x1,x5=>if x5<(x0.length:Int)then(if 0<=x5 then(if x5<(x1.length:Int)then(if(aU ByteArray.empty x0 x5).toList=(aU ByteArray.empty x1 x5).toList then(fI.l0 k x0 x1 (wrap64 (x5+1)))else(some false))else(none))else(none))else(some true)
def fI.f (k:Nat) (l0:List ByteArray) (l1:List ByteArray):Option (Bool):=if(l0.length:Int)=(l1.length:Int)then(fI.l0 k l0 l1 0)else(some false)
theorem fI.calls (k:Nat) (A0:Option Addr) (c0:Nat) (l0:List ByteArray) (A1:Option Addr) (c1:Nat) (l1:List ByteArray) (r:Bool) (w:World) (hr0:Kd.C Kd.string w A0 l0.length l0) (hc0:l0.length<=c0) (hr1:Kd.C Kd.string w A1 l1.length l1) (hc1:l1.length<=c1) (h:fI.f k l0 l1=some r):
 Calls Tryz.prog 28 #[.slice A0 l0.length c0,.slice A1 l1.length c1] w fun e w'=>e = .returned (.bool r)/\jD w w':=by
 have HR0:=aA.mk hr0;have HC0:=aA.mk hc0;clear hr0 hc0;have HR1:=aA.mk hr1;have HC1:=aA.mk hc1;clear hr1 hc1;have H:(if(l0.length:Int)=(l1.length:Int)then(fI.l0 k l0 l1 0)else(some false))=some r:=h;clear h;by_cases c3:(l0.length:Int)=(l1.length:Int)
 ·rw[if_pos c3]at H;have c3b0:((l0.length:Int) == (l1.length:Int))=true:=beq_iff_eq.mpr c3;have c3b1:((l0.length:Int) != (l1.length:Int))=false:=bne_eq_false_iff_eq.mpr c3;(have c3b2:(l0.length == l1.length)=true:=by first|simpa using c3|(simp at c3⊢;omega));clear c3;have H':=aA.mk H;clear H;(go_enter Tryz.func28,Tryz.ntmps28);(go_wp2);repeat(go_quiet (fail);try go_wp2)
  go_loopg [5] k (fun kq v5 w'=>∃(x5_1:Int),v5 = .int .i64 x5_1/\aA (fI.l0 kq l0 l1 x5_1=some r)/\aA (kq<=k)/\jD w w')
  case atStart=>exact⟨(0),Zq.sd,H',⟨Nat.le_refl _⟩,Zq.dr⟩
  case round=>
   clear H';(try clear c1);(try clear c2);(try clear p2);(try clear c3);(try clear c3b0);(try clear c3b1);(try clear c3b2);obtain⟨x5_1,rfl,HA,HK1,⟨m1,rfl⟩⟩:=hrel;cases gk with
   | zero=>exact absurd HA.out (by simp[fI.l0])
   | succ k1=>
    have H:=HA.out;clear HA;simp only[fI.l0]at H;by_cases c4:x5_1<(l0.length:Int)
    ·rw[if_pos c4]at H;have c4b0:decide (x5_1<(l0.length:Int))=true:=decide_eq_true c4;clear c4;by_cases c5:0<=x5_1
     ·rw[if_pos c5]at H;have c5b0:decide (0<=x5_1)=true:=decide_eq_true c5;clear c5;by_cases c6:x5_1<(l1.length:Int)
      ·rw[if_pos c6]at H;have c6b0:decide (x5_1<(l1.length:Int))=true:=decide_eq_true c6;clear c6;by_cases c7:(aU ByteArray.empty l0 x5_1).toList=(aU ByteArray.empty l1 x5_1).toList
       ·rw[if_pos c7]at H;have c7b0:((aU ByteArray.empty l0 x5_1).toList == (aU ByteArray.empty l1 x5_1).toList)=true:=beq_iff_eq.mpr c7;have c7b1:((aU ByteArray.empty l0 x5_1).toList != (aU ByteArray.empty l1 x5_1).toList)=false:=bne_eq_false_iff_eq.mpr c7;clear c7;have H':=aA.mk H;clear H;have p424:0<=(x5_1:Int):=of_decide_eq_true Zq.am;have q424:x5_1<(l0.length:Int):=of_decide_eq_true Zq.am;obtain⟨ad424,e424,hx424_0⟩:=Kd.aQ HR0.out x5_1 p424 q424;cases e424;replace p424:=eq_true p424;replace q424:=eq_true q424;have p425:0<=(x5_1:Int):=of_decide_eq_true Zq.am;have q425:x5_1<(l1.length:Int):=of_decide_eq_true Zq.am;obtain⟨ad425,e425,hx425_0⟩:=Kd.aQ HR1.out x5_1 p425 q425;cases e425;replace p425:=eq_true p425;replace q425:=eq_true q425;(go_wp2);repeat(go_quiet (fail);try go_wp2)
        go_roundg k1
        (case measure=>have:=HK1.out;omega);case rel=>exact⟨(wrap64 (x5_1+1)),Zq.sd,H',⟨by have:=HK1.out;omega⟩,Zq.dr⟩
       ·rw[if_neg c7]at H;have c7b0:((aU ByteArray.empty l0 x5_1).toList == (aU ByteArray.empty l1 x5_1).toList)=false:=beq_eq_false_iff_ne.mpr c7;have c7b1:((aU ByteArray.empty l0 x5_1).toList != (aU ByteArray.empty l1 x5_1).toList)=true:=bne_iff_ne.mpr c7;obtain rfl:=Option.some.inj H;have p424:0<=(x5_1:Int):=of_decide_eq_true Zq.am;have q424:x5_1<(l0.length:Int):=of_decide_eq_true Zq.am;obtain⟨ad424,e424,hx424_0⟩:=Kd.aQ HR0.out x5_1 p424 q424;cases e424;replace p424:=eq_true p424;replace q424:=eq_true q424;have p425:0<=(x5_1:Int):=of_decide_eq_true Zq.am;have q425:x5_1<(l1.length:Int):=of_decide_eq_true Zq.am;obtain⟨ad425,e425,hx425_0⟩:=Kd.aQ HR1.out x5_1 p425 q425;cases e425;replace p425:=eq_true p425;replace q425:=eq_true q425;(go_wp2);repeat(go_quiet (fail);try go_wp2)
        go_ret
        exact⟨by first|rfl|(simp;done)|(simp[*];done),Zq.dr⟩
      ·rw[if_neg c6]at H;exact absurd H (by simp)
     ·rw[if_neg c5]at H;exact absurd H (by simp)
    ·rw[if_neg c4]at H;have c4b0:decide (x5_1<(l0.length:Int))=false:=decide_eq_false c4;clear c4;obtain rfl:=Option.some.inj H;(go_wp2);repeat(go_quiet (fail);try go_wp2)
     go_ret
     exact⟨by first|rfl|(simp;done)|(simp[*];done),Zq.dr⟩
 ·rw[if_neg c3]at H;have c3b0:((l0.length:Int) == (l1.length:Int))=false:=beq_eq_false_iff_ne.mpr c3;have c3b1:((l0.length:Int) != (l1.length:Int))=true:=bne_iff_ne.mpr c3;(have c3b2:(l0.length == l1.length)=false:=by first|simpa using c3|(simp at c3⊢;omega));obtain rfl:=Option.some.inj H;(go_enter Tryz.func28,Tryz.ntmps28);(go_wp2);repeat(go_quiet (fail);try go_wp2)
  go_ret
  exact⟨by first|rfl|(simp;done)|(simp[*];done),Zq.dr⟩
end Go.Proofs.YtjieekkkaekclaaGreatDoor.PR
namespace Go.Proofs.YtjieekkkaekclaaGreatDoor
open Go Go.RowKit Go.Pw.PrintWords Go.Proofs.YtjieekkkaekclaaGreatDoor.PR
theorem zV (n:Nat):n<1000000000000->EvP (fun k=>eO.f k (n:Int)) (Mw.B (Mw.gU n))/\(Mw.gU n).length<=12:=by
 induction n using Nat.strongRecOn with
 | _ n ih=>
  intro hn;have hlen:(Mw.gU n).length<=12:=(Mw.iZ n 12 (by omega)).mpr (by omega);refine⟨?_,hlen⟩;by_cases h:n<10;·refine EvP.step (f:=fun _=>some (Mw.B (Mw.gU n))) (fun k=>?_) (EvP.now _);simp only[eO.f];rw[if_neg (by omega),if_pos (by omega),yB _ (by omega) (by omega),Mw.jY h,Int.toNat_natCast];rfl
  ·obtain⟨he,hl⟩:=ih (n/10) (by omega) (by omega);refine EvP.step (f:=fun k=>(eO.f k ((n/10:Nat):Int)).bind fun t=>if t.size+(Mw.B [Mw.dgt (n%10)]).size<=9223372036854775807 then some (t++Mw.B [Mw.dgt (n%10)])else none) (fun k=>?_) ?_
   ·simp only[eO.f]
    rw[if_neg (by omega),if_neg (by omega),show wrap64 (Int.tdiv (n:Int) 10)=((n/10:Nat):Int) by rw[show Int.tdiv (n:Int) 10=((n/10:Nat):Int)from rfl];exact eT (by omega) (by omega),
     show Int.tmod (n:Int) 10=((n%10:Nat):Int)from rfl,yB _ (by omega) (by omega),Int.toNat_natCast]
    rfl
   ·refine EvP.bind he (EvP.fM (by rw[eH,eH];simp only[List.length_cons,List.length_nil];omega) ?_);rw[lM,<-Mw.rW (by omega)];exact EvP.now _
theorem aDz (n:Int) (h:n.natAbs<1000000000000):EvP (fun k=>eO.f k n) (Mw.T n):=by
 by_cases h0:n<0;·obtain⟨he,hl⟩:=zV n.natAbs h;refine EvP.step (f:=fun k=>(eO.f k ((n.natAbs:Nat):Int)).bind fun t=>if 1+t.size<=9223372036854775807 then some ((⟨#[45]⟩:ByteArray)++t)else none) (fun k=>?_) ?_;(·simp only[eO.f];rw[if_pos h0,show wrap64 (-n)=(n.natAbs:Int) by rw[eT (by omega) (by omega)];omega]);·refine EvP.bind he ?_;refine EvP.fM (by rw[eH];omega) ?_;rw[show(⟨#[45]⟩:ByteArray)=Mw.B [45]from rfl,lM,Mw.T,Mw.kF h0];exact EvP.now _
 ·obtain⟨he,_⟩:=zV n.natAbs h;rw[Mw.T,Mw.eY (by omega)];(have e:((n.natAbs:Nat):Int)=n:=by omega);rw[e]at he;exact he
theorem jS:bY.f=some true:=rfl
end Go.Proofs.YtjieekkkaekclaaGreatDoor
namespace Mw
theorem aMr {n x P v:Nat} (hn:n≠0) (hP:0<P):(v*P)^n<=x<->v<=rt n x/P:=by rw[Nat.le_div_iff_mul_le hP];refine⟨fun h=>aD2 hn h,fun h=>?_⟩;exact Nat.le_trans (Nat.pow_le_pow_left h n) (aAe hn)
theorem aMp {n x len:Nat} (hn:n≠0) (hx:x<10^len):rt n x/10^((len+n-1)/n)=0:=by
 rw[Nat.div_eq_zero_iff];right;have h1:len<=((len+n-1)/n)*n:=by have h2:=Nat.div_add_mod (len+n-1) n;have h3:=Nat.mod_lt (len+n-1) (show 0<n by omega);rw[Nat.mul_comm];omega
 have h2:x<(10^((len+n-1)/n))^n:=by rw[<-Nat.pow_mul];exact Nat.lt_of_lt_of_le hx (Nat.pow_le_pow_right (by omega) h1)
 rcases Nat.lt_or_ge (rt n x) (10^((len+n-1)/n))with h|h;·exact h
 ·have h3:=Nat.pow_le_pow_left h n;have h4:=aAe (n:=n) (x:=x) hn;omega
theorem aL8 (r p:Nat):r/10^p=10*(r/10^(p+1))+r/10^p%10:=by rw[Nat.pow_succ,<-Nat.div_div_eq_div_mul];omega
end Mw
namespace Go.Proofs.YtjieekkkaekclaaGreatDoor
open Go Go.RowKit Go.Pw.PrintWords Go.Proofs.YtjieekkkaekclaaGreatDoor.PR
theorem aAE (n:Int):Mw.gZ n=0\/Mw.gZ n=13:=by
 unfold Mw.gZ;split;·exact .inr rfl
 ·exact .inl rfl
end Go.Proofs.YtjieekkkaekclaaGreatDoor
