/- Lemmas for the claim beside this text. -/
import Derived.Test.YtjieekkkaekclaaGreatDoorZBAA
import Derived.Test.YtjieekkkaekclaaGreatDoorZBAD
import Derived.Test.YtjieekkkaekclaaGreatDoorZBAE
import Derived.Test.YtjieekkkaekclaaGreatDoorZBAK
import Derived.Test.YtjieekkkaekclaaGreatDoorZBAM
import Derived.Test.YtjieekkkaekclaaGreatDoorZBAN
import Derived.Test.YtjieekkkaekclaaGreatDoorZBAO
import Derived.Test.YtjieekkkaekclaaGreatDoorZBAP
import Derived.Test.YtjieekkkaekclaaGreatDoorZBAQ
import Derived.Test.YtjieekkkaekclaaGreatDoorZBAR
import Derived.Test.YtjieekkkaekclaaGreatDoorZBAS
import Derived.Test.YtjieekkkaekclaaGreatDoorZBAT
import Derived.Test.YtjieekkkaekclaaGreatDoorZBAU
import Derived.Test.YtjieekkkaekclaaGreatDoorZBAV
import Derived.Test.YtjieekkkaekclaaGreatDoorZLIAA
set_option linter.all false
set_option linter.unusedVariables false
set_option linter.unusedSimpArgs false
set_option maxHeartbeats 8000000
set_option maxRecDepth 100000
namespace Go.Pw.PrintWords
open Go.RowKit
namespace Kd
section
variable {α β:Type} {d:Kd α} {e base n n' cc g N:Nat} {ok ok' okp S:Nat->Prop} {w w0 w1 W W1:World} {A A':Option Addr} {u v v1:Value} {xs:List α} {xs':List β} {d':Kd β} {x:α} {c:List Value}
theorem wO (h:F d W ok A n xs):F d W (fun k=>ok k/\k<W.heap.size) A n xs:=uW.bound h
theorem wP (h:F d W (fun k=>ok k/\some k≠v.ownBlock) A n xs) (hg:W.grownBy W1 v.ownBlock) (hat:v1.ownBlock=v.ownBlock\/∃b,v1.ownBlock=some b/\W.heap.size<=b):F d W1 (fun k=>ok k/\some k≠v1.ownBlock) A n xs:=by
 refine aAL (uW.step (wO h) (fun k hk hlt=>hg.block k hlt hk.1.2)) (fun k hk=>⟨hk.1.1,?_⟩);rcases hat with hat|⟨b,hb,hle⟩;·rw[hat];exact hk.1.2
 ·rw[hb];intro he;injection he with he;have:=hk.2;omega
end
end Kd
end Go.Pw.PrintWords
namespace Go.Pw.PrintWords
open Go.RowKit
section
variable {w w' u:World} {m B g:Nat} {o:Obj} {row:Option Nat} {S:Nat->Prop} {a:Addr} {v:Value}
theorem jR (hq:w.drewN m=w') (h:Below B u w):Below B u w':=by subst hq;exact bI h m
end
namespace Kd
section
variable {α:Type} {d:Kd α} {e base n m:Nat} {ok:Nat->Prop} {w w':World} {v:Value} {A:Option Addr} {xs:List α}
theorem uC (hq:w.drewN m=w') (h:d.R e w base ok v xs):d.R e w' base ok v xs:=by subst hq;exact bP h m
end
end Kd
end Go.Pw.PrintWords
namespace Go.Pw.PrintWords
open Go.RowKit
def mn (a b:Int):Int:=if b<a then b else a
theorem gL (w:World) (n:Nat):w.drewN n=w.drewN n:=rfl
end Go.Pw.PrintWords
namespace Go.Pw.PrintWords
open Go.RowKit
namespace Kd
section
variable {α β:Type} {d:Kd α} {e base base' n m c g N' lo hi:Nat} {ok ok' S:Nat->Prop} {w W w1:World} {A:Option Addr} {ad:Addr} {u v v1:Value} {xs:List α}
theorem wK (h:V d e W base (fun k=>ok k/\some k≠u.ownBlock) v xs) (hg:W.grownBy w1 u.ownBlock) (hat:v1.ownBlock=u.ownBlock\/∃b,v1.ownBlock=some b/\W.heap.size<=b):V d e w1 base (fun k=>ok k/\some k≠v1.ownBlock) v xs:=aAt h (fun _ hf=>wP hf hg hat)
theorem mQ (h:V d e W base (fun k=>ok k/\some k≠v.ownBlock) u xs) (hg:W.grownBy w1 v.ownBlock) (hat:v1.ownBlock=v.ownBlock\/∃b,v1.ownBlock=some b/\W.heap.size<=b):V d e w1 base (fun k=>ok k/\some k≠v1.ownBlock) u xs:=wK h hg hat
theorem kJ {M:Nat->Prop} (h:d.R e w1 W.heap.size ok v xs) (hle:w.heap.size<=W.heap.size) (hM:∀k,w.heap.size<=k->M k):d.R e w1 W.heap.size (fun k=>M k/\ok k) v xs:=dE (jZ h) (fun k hk=>⟨hM k (Nat.le_trans hle hk.2.1),hk.1⟩)
end
end Kd
end Go.Pw.PrintWords
namespace Mw
theorem nI {a b:Int} (h:jF a=jF b):a=b:=by rw[<-gX a,h,gX b]
theorem jN (n:Int):jF n=[48]<->n=0:=
 ⟨fun h=>nI (h.trans jX.symm),fun h=>h▸jX⟩
end Mw
namespace Go.Proofs.YtjieekkkaekclaaGreatDoor
open Go Go.RowKit Go.Pw.PrintWords
theorem qK:uG 108:=⟨_,_,Tryz.func108,rfl,rfl,rfl,by decide⟩
def Mw.zK (a:List UInt8) (n:Int):List UInt8×Int:=
 if Mw.iP a=0 then(if n<0 then([],2)else if 1000<n then([],2)else if Mw.gZ (Mw.lI a^n.toNat)=0 then(Mw.jF (Mw.lI a^n.toNat),0)else([],13))else([],Mw.iP a)
theorem uJ {x:Int} (h:¬Mw.gZ x=0):Mw.gZ x=13:=by
 rw[Mw.gZ]at h⊢;split at h;·rw[if_pos ‹_›]
 ·exact absurd rfl h
theorem aEN:aFp 109 (fun x=>Mw.gZ x=0):=fun W s A k c x H hx hk ht=>by
 have hb0:=nT 71 [⟨s,A,k,c⟩] W (Nat.le_refl _) (Below.refl _ _);simp only[bxs]at hb0;have H1:=H.below hb0;have ht1:=(Lib.tabBelow_of_tabIs ht) _ hb0;have HB:=Lib.hid hb0;have HX:Hid (Mw.gZ x=0):=Lib.hid hx;clear hb0 hx;go_enter Tryz.func109,Tryz.ntmps109
 go_wp2_with (go_at_call 71;with_reducible refine(lU _ H1 (by omega) ht1 HX.out).mono ?_;rintro e w1 ⟨rfl,hb1⟩)
 go_end0
 exact⟨rfl,HB.out.trans (hb1.mono HB.out.size)⟩
theorem aDa:aFq 109 (fun x=>Mw.gZ x=0) 13:=fun W s A k c x H hx hk ht=>by
 have hb0:=nT 71 [⟨s,A,k,c⟩] W (Nat.le_refl _) (Below.refl _ _);simp only[bxs]at hb0;have H1:=H.below hb0;have ht1:=(Lib.tabBelow_of_tabIs ht) _ hb0;have HB:=Lib.hid hb0;have hx':¬Mw.gZ x=0:=hx;have h13:=uJ hx';have HX:=Lib.hid hx';have hgb:=oG _ H1 (by omega) ht1 hx';rw[h13]at hgb;have HGB:=Lib.hid hgb;clear hb0 hx hx' h13 hgb;go_enter Tryz.func109,Tryz.ntmps109
 go_wp2_with (go_at_call 71;with_reducible refine(HGB.out).mono ?_;rintro e w1 ⟨rfl,hb1⟩)
 exact⟨rfl,rfl,HB.out.trans (hb1.mono HB.out.size)⟩
set_option exponentiation.threshold 500 in
theorem aCI (s:ByteArray) (n:Int) (w:World) (hs:s.size<=100000) (hg:Ety w) (htab:Tab w):
 Calls Tryz.prog 47 #[.string s,.int .i64 n] w fun e w'=>e = .returned (.tuple #[.string ⟨(Mw.zK s.data.toList n).1.toArray⟩,.int .i64 (Mw.zK s.data.toList n).2])/\Below w.heap.size w w':=by
 have hmf:∀(fn:Fn) (first cap:Array Value) (w:World),(Instr.makeFunc fn first cap).run Tryz.prog w = .ok (.func fn first cap) w:=fun _ _ _ _=>rfl
 have HG:=Lib.hid hg;have HT:=Lib.hid (Lib.tabBelow_of_tabIs htab);clear hg htab;obtain⟨⟨rs,er⟩,hr⟩:∃x,Mw.zK s.data.toList n=x:=⟨_,rfl⟩;rw[hr];dsimp only;by_cases hok:Mw.iP s.data.toList=0
 ·rw[Mw.zK,if_pos hok]at hr;obtain⟨x,hx⟩:∃x,Mw.lI s.data.toList=x:=⟨_,rfl⟩;(have hgx:Mw.gZ x=0:=by rw[<-hx];exact(wV hok).1);rw[hx]at hr;have HX:=Lib.hid hx;clear hx;by_cases hn0:n<0
  ·rw[if_pos hn0]at hr;cases hr;(go_enter_defers Tryz.func47,Tryz.ntmps47);(go_wp2_with (first|(go_at_call 69;with_reducible refine(jE s _ hs hok).mono ?_;rintro e w1 ⟨s1,A1,k1,c1,rfl,hN1,hb1⟩)|(go_at_call 86;with_reducible refine(mD _ _ _ (by first|rfl|exact decide_eq_true hn0)).mono ?_;rintro e w6 ⟨rfl,hw6⟩)));have HO3:=(Own.of hb1).next (bA (Below.refl _ _) (.cells #[.int .i64 s1,.slice A1 k1 c1] 71))
   exact dK qK _ (.int .i64 0) (.tuple #[.string ⟨#[]⟩,.int .i64 2]) _ _ (HG.out.below HO3.below) HO3.lt HO3.cell HO3.frz (fun W' h=>by simp[results,Tryz.results47,go_sem,h])
    (fun W' h=>⟨rfl,HO3.below.trans h⟩)
  ·rw[if_neg hn0]at hr;by_cases hn1:1000<n
   ·rw[if_pos hn1]at hr;cases hr;(go_enter_defers Tryz.func47,Tryz.ntmps47);(go_wp2_with (first|(go_at_call 69;with_reducible refine(jE s _ hs hok).mono ?_;rintro e w1 ⟨s1,A1,k1,c1,rfl,hN1,hb1⟩)|(go_at_call 86;with_reducible refine(mD _ _ _ (by first|rfl|exact decide_eq_true hn1)).mono ?_;rintro e w6 ⟨rfl,hw6⟩)));have HO3:=(Own.of hb1).next (bA (Below.refl _ _) (.cells #[.int .i64 s1,.slice A1 k1 c1] 71))
    exact dK qK _ (.int .i64 0) (.tuple #[.string ⟨#[]⟩,.int .i64 2]) _ _ (HG.out.below HO3.below) HO3.lt HO3.cell HO3.frz (fun W' h=>by simp[results,Tryz.results47,go_sem,h])
     (fun W' h=>⟨rfl,HO3.below.trans h⟩)
   ·rw[if_neg hn1]at hr;obtain⟨N,rfl⟩:∃N:Nat,n=(N:Int):=⟨n.toNat,by omega⟩;rw[Int.toNat_natCast]at hr;have HR:=Lib.hid hr;have HGX:=Lib.hid hgx;(have hdd:(decide ((N:Int)<0) || decide ((1000:Int)<(N:Int)))=false:=by simp;omega);clear hr hgx;(go_enter_defers Tryz.func47,Tryz.ntmps47);(go_wp2_with (first|(go_at_call 69;with_reducible refine(jE s _ hs hok).mono ?_;rintro e w1 ⟨s1,A1,k1,c1,rfl,hN1,hb1⟩;rw[HX.out]at hN1)|(go_at_call 86;with_reducible refine(lV _ _ _ (by first|rfl|exact decide_eq_false (by omega))).mono ?_;rintro e w6 ⟨rfl,rfl⟩)));have HO2:=Lib.hid ((Own.of hb1).next (bA (Below.refl _ _) (.cells #[.int .i64 s1,.slice A1 k1 c1] 71)));have hT2:=HT.out _ HO2.out.below;have hp:=aC8 109 (fun x=>Mw.gZ x=0) 13 (enters Tryz.func109 rfl (by decide)) (aAa.mpr (by decide)) (fun x y h hy=>aAR h hy) (fun x h=>(zB h).up (by omega)) aEN (w1.alloc (.cells #[.int .i64 s1,.slice A1 k1 c1] 71)) N (by omega) (hN1.below (bA (Below.refl _ _) _)) HGX.out (.inr aDa) hT2;have HP:=Lib.hid hp;clear hp hb1 hN1 hT2;(go_wp2_with (first|(go_at_call 86;with_reducible refine(lV _ _ _ hdd).mono ?_;rintro e w6 ⟨rfl,rfl⟩)));refine HP.out.mono ?_;rintro e w7 ⟨hb7,⟨hgp,s7,A7,k7,c7,rfl,hN7⟩|⟨hgp,rfl⟩⟩
    ·have hr:=HR.out;have hgp':Mw.gZ (x^N)=0:=hgp;rw[if_pos hgp']at hr;have HRR:=Lib.hid hr;have HO7:=Lib.hid (HO2.out.next hb7);have hT7:=HT.out _ HO7.out.below;have hk7:k7<=45:=(zB hgp').kle hN7;have HGP:=Lib.hid hgp';clear hr hb7 hgp hgp';(go_wp2_with (first|(go_at_call 71;with_reducible refine(lU _ hN7 (by omega) hT7 HGP.out).mono ?_;rintro e w8 ⟨rfl,hb8⟩;refine Hid.out ?_)));have HO8:=Lib.hid (HO7.out.next hb8);have q0:=HO8.out.cell;have f0:=HO8.out.frz;clear hb8 hT7 hN7;refine Lib.hid ?_;(go_wp2);have hr:=HRR.out;cases hr
     exact kR qK _ (.int .i64 0) (.tuple #[.string _,.int .i64 0]) _ (World.cell?_setCell_same _ _ _ q0) (by simp[f0]) (fun W' h=>by simp[results,Tryz.results47,go_sem,h])
      (fun W' h=>⟨rfl,(HO8.out.below.setCell (Nat.le_refl _) _).trans h⟩)
    ·have hr:=HR.out;have hgp':¬Mw.gZ (x^N)=0:=hgp;rw[if_neg hgp']at hr;cases hr;have HO7:=HO2.out.next hb7
     exact dK qK _ (.int .i64 0) (.tuple #[.string ⟨#[]⟩,.int .i64 13]) _ _ (HG.out.below HO7.below) HO7.lt HO7.cell HO7.frz (fun W' h=>by simp[results,Tryz.results47,go_sem,h])
      (fun W' h=>⟨rfl,HO7.below.trans h⟩)
 ·rw[Mw.zK,if_neg hok]at hr;cases hr;(go_enter_defers Tryz.func47,Tryz.ntmps47);go_wp2_with (first|(go_at_call 69;with_reducible refine(pQ s _ hok).mono ?_;rintro e w1 ⟨rfl,hb1⟩;obtain⟨q0,f0,z0,hB⟩:=sV hb1))
  exact dK qK _ (.int .i64 0) (.tuple #[.string ⟨#[]⟩,.int .i64 (Mw.iP s.data.toList)]) _ _ (HG.out.below hB) z0 q0 f0 (fun W' h=>by simp[results,Tryz.results47,go_sem,h])
   (fun W' h=>⟨rfl,hB.trans h⟩)
def jW.f (a0:ByteArray) (a1:Int):Option (ByteArray×Int):=if a0.size<=100000 then some ((⟨(Mw.zK a0.data.toList a1).1.toArray⟩:ByteArray),(Mw.zK a0.data.toList a1).2)else none
theorem jW.calls (a0:ByteArray) (a1:Int) (r1:ByteArray) (r2:Int) (w:World) (hG:Gw w) (h:jW.f a0 a1=some (r1,r2)):Calls Tryz.prog 47 #[.string a0,.int .i64 a1] w fun e w'=>e = .returned (.tuple #[.string r1,.int .i64 r2])/\Below w.heap.size w w':=by
 unfold jW.f at h;split at h;·rename_i hc;(obtain⟨rfl,rfl⟩:_/\_:=by simpa only[Option.some.injEq,Prod.mk.injEq]using h);exact aCI a0 a1 w hc hG.1 hG.2
 ·cases h
def iT.f (a0:ByteArray) (a1:ByteArray) (a2:ByteArray):Option (ByteArray×Int):=if a0.size<=100000/\a1.size<=100000/\a2.size<=100000 then some ((⟨(Mw.wpm a0.data.toList a1.data.toList a2.data.toList).1.toArray⟩:ByteArray),(Mw.wpm a0.data.toList a1.data.toList a2.data.toList).2)else none
theorem iT.calls (a0:ByteArray) (a1:ByteArray) (a2:ByteArray) (r1:ByteArray) (r2:Int) (w:World) (hG:Gw w) (h:iT.f a0 a1 a2=some (r1,r2)):Calls Tryz.prog 49 #[.string a0,.string a1,.string a2] w fun e w'=>e = .returned (.tuple #[.string r1,.int .i64 r2])/\Below w.heap.size w w':=by
 unfold iT.f at h;split at h;·rename_i hc;(obtain⟨rfl,rfl⟩:_/\_:=by simpa only[Option.some.injEq,Prod.mk.injEq]using h);exact aBd a0 a1 a2 w hc.1 hc.2.1 hc.2.2 hG.1 hG.2
 ·cases h
def kE.f (a0:ByteArray) (a1:Int):Option (ByteArray×Int):=if a0.size<=100000 then some ((⟨(Mw.xP a0.data.toList a1).1.toArray⟩:ByteArray),(Mw.xP a0.data.toList a1).2)else none
theorem kE.calls (a0:ByteArray) (a1:Int) (r1:ByteArray) (r2:Int) (w:World) (hG:Gw w) (h:kE.f a0 a1=some (r1,r2)):Calls Tryz.prog 36 #[.string a0,.int .i64 a1] w fun e w'=>e = .returned (.tuple #[.string r1,.int .i64 r2])/\Below w.heap.size w w':=by
 unfold kE.f at h;split at h;·rename_i hc;(obtain⟨rfl,rfl⟩:_/\_:=by simpa only[Option.some.injEq,Prod.mk.injEq]using h);exact aD4 a0 a1 w hc hG.1 hG.2
 ·cases h
end Go.Proofs.YtjieekkkaekclaaGreatDoor
namespace Go.Proofs.YtjieekkkaekclaaGreatDoor.PR
open Go.RowKit Go.Pw.PrintWords Go.Pw.PrintLast Go.Pw.PrintMore
attribute [local go_sem] eG dZ fE fD dM dL eF dY
def cO.f (k:Nat) (a0:ByteArray):Option (Int):=(iC.f k a0).bind fun t345=>(if t345=true then((aZ.f a0).bind fun t346=>(if(t346.size:Int)>400 then(some 13)else(some 0)))else(some 1))
theorem cO.calls (k:Nat) (a0:ByteArray) (r:Int) (w:World) (h:cO.f k a0=some r):
 Calls Tryz.prog 57 #[.string a0] w fun e w'=>e = .returned (.int .i64 r)/\jD w w':=by
 have H:((iC.f k a0).bind fun t345=>(if t345=true then((aZ.f a0).bind fun t346=>(if(t346.size:Int)>400 then(some 13)else(some 0)))else(some 1)))=some r:=h;clear h;obtain⟨t345,A2,H⟩:=Zq.mq H;try dsimp only at H
 by_cases c3:t345=true
 ·subst c3;(have H1:((aZ.f a0).bind fun t346=>(if(t346.size:Int)>400 then(some 13)else(some 0)))=some r:=by rw[if_pos rfl]at H;exact H);clear H;have H:=H1;clear H1;obtain⟨t346,A4,H⟩:=Zq.mq H;(try dsimp only at H);by_cases c5:(t346.size:Int)>400
  ·rw[if_pos c5]at H;have c5b0:decide (400<(t346.size:Int))=true:=decide_eq_true c5;have c5b1:decide (400<t346.size)=true:=decide_eq_true (by omega);clear c5;obtain rfl:=Option.some.inj H;(go_enter Tryz.func57,Tryz.ntmps57);go_wp2_with (first|((with_reducible refine Zq.c 103 rfl ?_);refine Zq.g (some 4) Tryz.func103 #[.string a0] ?_;(with_reducible refine(iC.calls k a0 true _ A2.out).mono ?_);rintro e w' ⟨rfl,nd,rfl⟩;refine⟨_,rfl,?_⟩)|((with_reducible refine Zq.c 35 rfl ?_);refine Zq.g (some 7) Tryz.func35 #[.string a0] ?_;(with_reducible refine(aZ.calls a0 t346 _ A4.out).mono ?_);rintro e w' ⟨rfl,nd,rfl⟩;refine⟨_,rfl,?_⟩))
   go_ret
   exact⟨by first|rfl|(simp;done)|(simp[*];done),Zq.dr⟩
  ·rw[if_neg c5]at H;have c5b0:decide (400<(t346.size:Int))=false:=decide_eq_false c5;have c5b1:decide (400<t346.size)=false:=decide_eq_false (by omega);clear c5;obtain rfl:=Option.some.inj H;(go_enter Tryz.func57,Tryz.ntmps57);go_wp2_with (first|((with_reducible refine Zq.c 103 rfl ?_);refine Zq.g (some 4) Tryz.func103 #[.string a0] ?_;(with_reducible refine(iC.calls k a0 true _ A2.out).mono ?_);rintro e w' ⟨rfl,nd,rfl⟩;refine⟨_,rfl,?_⟩)|((with_reducible refine Zq.c 35 rfl ?_);refine Zq.g (some 7) Tryz.func35 #[.string a0] ?_;(with_reducible refine(aZ.calls a0 t346 _ A4.out).mono ?_);rintro e w' ⟨rfl,nd,rfl⟩;refine⟨_,rfl,?_⟩))
   go_ret
   exact⟨by first|rfl|(simp;done)|(simp[*];done),Zq.dr⟩
 ·replace c3:=Bool.eq_false_iff.mpr c3;subst c3;(have H1:(some 1)=some r:=by rw[if_neg (show ¬(false=true) by decide)]at H;exact H);clear H;have H:=H1;clear H1;obtain rfl:=Option.some.inj H;(go_enter Tryz.func57,Tryz.ntmps57);go_wp2_with (first|((with_reducible refine Zq.c 103 rfl ?_);refine Zq.g (some 4) Tryz.func103 #[.string a0] ?_;(with_reducible refine(iC.calls k a0 false _ A2.out).mono ?_);rintro e w' ⟨rfl,nd,rfl⟩;refine⟨_,rfl,?_⟩))
  go_ret
  exact⟨by first|rfl|(simp;done)|(simp[*];done),Zq.dr⟩
def jK.f (k:Nat) (a0:ByteArray) (a1:ByteArray):Option (Int):=(cO.f k a0).bind fun t347=>(if t347=0 then((cO.f k a1).bind fun t348=>(some t348))else(some t347))
theorem jK.calls (k:Nat) (a0:ByteArray) (a1:ByteArray) (r:Int) (w:World) (h:jK.f k a0 a1=some r):
 Calls Tryz.prog 81 #[.string a0,.string a1] w fun e w'=>e = .returned (.int .i64 r)/\jD w w':=by
 have H:((cO.f k a0).bind fun t347=>(if t347=0 then((cO.f k a1).bind fun t348=>(some t348))else(some t347)))=some r:=h;clear h;obtain⟨t347,A3,H⟩:=Zq.mq H;try dsimp only at H
 by_cases c4:t347=0
 ·rw[if_pos c4]at H;have c4b0:(t347 == 0)=true:=beq_iff_eq.mpr c4;have c4b1:(t347 != 0)=false:=bne_eq_false_iff_eq.mpr c4;clear c4;obtain⟨t348,A5,H⟩:=Zq.mq H;(try dsimp only at H);obtain rfl:=Option.some.inj H;(go_enter Tryz.func81,Tryz.ntmps81);go_wp2_with (first|((with_reducible refine Zq.c 57 rfl ?_);refine Zq.g (some 7) Tryz.func57 #[.string a0] ?_;(with_reducible refine(cO.calls k a0 t347 _ A3.out).mono ?_);rintro e w' ⟨rfl,nd,rfl⟩;refine⟨_,rfl,?_⟩)|((with_reducible refine Zq.c 57 rfl ?_);refine Zq.g (some 12) Tryz.func57 #[.string a1] ?_;(with_reducible refine(cO.calls k a1 t348 _ A5.out).mono ?_);rintro e w' ⟨rfl,nd,rfl⟩;refine⟨_,rfl,?_⟩))
  go_ret
  exact⟨by first|rfl|(simp;done)|(simp[*];done),Zq.dr⟩
 ·rw[if_neg c4]at H;have c4b0:(t347 == 0)=false:=beq_eq_false_iff_ne.mpr c4;have c4b1:(t347 != 0)=true:=bne_iff_ne.mpr c4;obtain rfl:=Option.some.inj H;(go_enter Tryz.func81,Tryz.ntmps81);go_wp2_with (first|((with_reducible refine Zq.c 57 rfl ?_);refine Zq.g (some 7) Tryz.func57 #[.string a0] ?_;(with_reducible refine(cO.calls k a0 t347 _ A3.out).mono ?_);rintro e w' ⟨rfl,nd,rfl⟩;refine⟨_,rfl,?_⟩))
  go_ret
  exact⟨by first|rfl|(simp;done)|(simp[*];done),Zq.dr⟩
def fF.f (a0:ByteArray):Option (ByteArray):=if a0.toList=([48]:List UInt8)then(some a0)else((aN.f a0).bind fun t336=>(if t336=true then(if 1<=(a0.size:Int)then(some (a0.extract 1 a0.size))else(none))else(if 1+a0.size<=9223372036854775807 then(some ((⟨#[45]⟩:ByteArray)++a0))else(none))))
theorem fF.calls (a0:ByteArray) (r:ByteArray) (w:World) (h:fF.f a0=some r):
 Calls Tryz.prog 84 #[.string a0] w fun e w'=>e = .returned (.string r)/\jD w w':=by
 have H:(if a0.toList=([48]:List UInt8)then(some a0)else((aN.f a0).bind fun t336=>(if t336=true then(if 1<=(a0.size:Int)then(some (a0.extract 1 a0.size))else(none))else(if 1+a0.size<=9223372036854775807 then(some ((⟨#[45]⟩:ByteArray)++a0))else(none)))))=some r:=h;clear h;by_cases c2:a0.toList=([48]:List UInt8)
 ·rw[if_pos c2]at H;have c2b0:(a0.toList == ([48]:List UInt8))=true:=beq_iff_eq.mpr c2;have c2b1:(a0.toList != ([48]:List UInt8))=false:=bne_eq_false_iff_eq.mpr c2;clear c2;obtain rfl:=Option.some.inj H;(go_enter Tryz.func84,Tryz.ntmps84);go_wp2
  go_ret
  exact⟨by first|rfl|(simp;done)|(simp[*];done),Zq.dr⟩
 ·rw[if_neg c2]at H;have c2b0:(a0.toList == ([48]:List UInt8))=false:=beq_eq_false_iff_ne.mpr c2;have c2b1:(a0.toList != ([48]:List UInt8))=true:=bne_iff_ne.mpr c2;obtain⟨t336,A3,H⟩:=Zq.mq H;(try dsimp only at H);by_cases c4:t336=true
  ·subst c4;(have H1:(if 1<=(a0.size:Int)then(some (a0.extract 1 a0.size))else(none))=some r:=by rw[if_pos rfl]at H;exact H);clear H;have H:=H1;clear H1;by_cases c5:1<=(a0.size:Int)
   ·rw[if_pos c5]at H;have c5b0:=eq_true c5;have c5b1:decide (1<=(a0.size:Int))=true:=decide_eq_true c5;clear c5;obtain rfl:=Option.some.inj H;(go_enter Tryz.func84,Tryz.ntmps84);go_wp2_with (first|((with_reducible refine Zq.c 31 rfl ?_);refine Zq.g (some 7) Tryz.func31 #[.string a0] ?_;(with_reducible refine(aN.calls a0 true _ A3.out).mono ?_);rintro e w' ⟨rfl,nd,rfl⟩;refine⟨_,rfl,?_⟩))
    go_ret
    exact⟨by first|rfl|(simp;done)|(simp[*];done),Zq.dr⟩
   ·rw[if_neg c5]at H;exact absurd H (by simp)
  ·replace c4:=Bool.eq_false_iff.mpr c4;subst c4;(have H1:(if 1+a0.size<=9223372036854775807 then(some ((⟨#[45]⟩:ByteArray)++a0))else(none))=some r:=by rw[if_neg (show ¬(false=true) by decide)]at H;exact H);clear H;have H:=H1;clear H1;by_cases c6:1+a0.size<=9223372036854775807
   ·rw[if_pos c6]at H;have c6b0:=eq_true c6;have c6b1:decide (1+a0.size<=9223372036854775807)=true:=decide_eq_true c6;(try have c6b2:(9223372036854775807<1+a0.size)=False:=eq_false (Nat.not_lt.2 c6));obtain rfl:=Option.some.inj H;(go_enter Tryz.func84,Tryz.ntmps84);go_wp2_with (first|((with_reducible refine Zq.c 31 rfl ?_);refine Zq.g (some 7) Tryz.func31 #[.string a0] ?_;(with_reducible refine(aN.calls a0 false _ A3.out).mono ?_);rintro e w' ⟨rfl,nd,rfl⟩;refine⟨_,rfl,?_⟩))
    go_ret
    exact⟨by first|rfl|(simp;done)|(simp[*];done),Zq.dr⟩
   ·rw[if_neg c6]at H;exact absurd H (by simp)
end Go.Proofs.YtjieekkkaekclaaGreatDoor.PR
namespace Go.Proofs.YtjieekkkaekclaaGreatDoor
open Go Go.RowKit Go.Pw.PrintWords Go.Proofs.YtjieekkkaekclaaGreatDoor.PR
theorem aAM (s:ByteArray):Mw.B s.data.toList=s:=rfl
theorem lG (l:List UInt8) (hl:l.length<=1000000):EvP (fun k=>cO.f k (Mw.B l)) (Mw.iP l):=by
 unfold cO.f;refine EvP.bind (wG l hl) ?_;unfold Mw.iP;cases Mw.okf l with
 | false=>exact EvP.now _
 | true=>refine EvP.congr (f:=fun _=>some (if 400<(Mw.unm l).length then 13 else 0)) (fun k=>?_) (by simp only[if_true];exact EvP.now _);rw[if_pos rfl,zH];simp only[Option.bind_some];rw[eH];by_cases h:400<(Mw.unm l).length;(·rw[if_pos (by omega),if_pos h]);·rw[if_neg (by omega),if_neg h]
theorem aAx (a b:List UInt8) (ha:a.length<=1000000) (hb:b.length<=1000000):EvP (fun k=>jK.f k (Mw.B a) (Mw.B b)) (Mw.kQ a b):=by
 unfold jK.f;refine EvP.bind (lG a ha) ?_;unfold Mw.kQ;by_cases h:Mw.iP a=0;·simp only[if_pos h];exact EvP.bind (lG b hb) (EvP.now _)
 ·simp only[if_neg h];exact EvP.now _
end Go.Proofs.YtjieekkkaekclaaGreatDoor
namespace Go.Proofs.YtjieekkkaekclaaGreatDoor.PR
open Go.RowKit Go.Pw.PrintWords Go.Pw.PrintLast Go.Pw.PrintMore
attribute [local go_sem] eG dZ fE fD dM dL eF dY
mutual
def aH.l0:Nat->List Int->List Int->List Int->Int->Option (List Int)
 | 0,_,_,_,_=>none
 | k+1,x0,x1,x5,x6=>if x6<(x0.length:Int)then(aH.l1 k x0 x1 x5 x6 0 0)else((dU.f k x5).bind fun t173=>(some t173))
def aH.l1:Nat->List Int->List Int->List Int->Int->Int->Int->Option (List Int)
 | 0,_,_,_,_,_,_=>none
 | k+1,x0,x1,x5,x6,x7,x8=>if x8<(x1.length:Int)then(if 0<=(wrap64 (x6+x8))then(if(wrap64 (x6+x8))<(x5.length:Int)then(if 0<=x6 then(if x6<(x0.length:Int)then(if 0<=x8 then(aH.l1 k x0 x1 (x5.set ((wrap64 (x6+x8)):Int).toNat (Int.tmod (wrap64 ((wrap64 ((rd x5 (wrap64 (x6+x8)))+(wrap64 ((rd x0 x6)*(rd x1 x8)))))+x7)) 10000)) x6 (wrap64 (Int.tdiv (wrap64 ((wrap64 ((rd x5 (wrap64 (x6+x8)))+(wrap64 ((rd x0 x6)*(rd x1 x8)))))+x7)) 10000)) (wrap64 (x8+1)))else(none))else(none))else(none))else(none))else(none))else(if 0<=(wrap64 (x6+(x1.length:Int)))then(if(wrap64 (x6+(x1.length:Int)))<(x5.length:Int)then(aH.l0 k x0 x1 (x5.set ((wrap64 (x6+(x1.length:Int))):Int).toNat (wrap64 ((rd x5 (wrap64 (x6+(x1.length:Int))))+x7))) (wrap64 (x6+1)))else(none))else(none))
end
def aH.f (k:Nat) (l0:List Int) (l1:List Int):Option (List Int):=if 0<=(wrap64 ((l0.length:Int)+(l1.length:Int)))then(if(wrap64 ((l0.length:Int)+(l1.length:Int)):Int).toNat<=35184372088832 then(aH.l0 k l0 l1 (List.replicate (wrap64 ((l0.length:Int)+(l1.length:Int)):Int).toNat 0) 0)else(none))else(none)
theorem aH.calls (k:Nat) (A0:Option Addr) (c0:Nat) (l0:List Int) (A1:Option Addr) (c1:Nat) (l1:List Int) (r:List Int) (w:World) (hr0:Kd.C (Kd.int .i64) w A0 l0.length l0) (hc0:l0.length<=c0) (hr1:Kd.C (Kd.int .i64) w A1 l1.length l1) (hc1:l1.length<=c1) (h:aH.f k l0 l1=some r):
 Calls Tryz.prog 91 #[.slice A0 l0.length c0,.slice A1 l1.length c1] w fun e w'=>∃v0_:Value,e = .returned (v0_)/\Kd.V (Kd.int .i64) 3 w' w.heap.size (fun k_=>(w.heap.size<=k_)) v0_ r/\Below w.heap.size w w':=by
 have HR0:=aA.mk hr0;have HC0:=aA.mk hc0;clear hr0 hc0;have HR1:=aA.mk hr1;have HC1:=aA.mk hc1;clear hr1 hc1;have HB:=aA.mk (Below.refl w.heap.size w);have H:(if 0<=(wrap64 ((l0.length:Int)+(l1.length:Int)))then(if(wrap64 ((l0.length:Int)+(l1.length:Int)):Int).toNat<=35184372088832 then(aH.l0 k l0 l1 (List.replicate (wrap64 ((l0.length:Int)+(l1.length:Int)):Int).toNat 0) 0)else(none))else(none))=some r:=h;clear h;obtain⟨ji3,hji3⟩:∃j_:Int,(wrap64 ((l0.length:Int)+(l1.length:Int)))=j_:=⟨_,rfl⟩;replace H:(if 0<=(ji3)then(if(ji3:Int).toNat<=35184372088832 then(aH.l0 k l0 l1 (List.replicate (ji3:Int).toNat 0) 0)else(none))else(none))=some r:=by first|(rw[hji3]at H;exact H)|(simp only[hji3]at H⊢;exact H)
 have hji3w:(IntKind.i64.wrap ((l0.length:Int)+(l1.length:Int)))=ji3:=(bG _).trans hji3;by_cases c4:0<=(ji3)
 ·rw[if_pos c4]at H;have c4b0:=eq_true c4;have c4b1:decide (0<=(ji3))=true:=decide_eq_true c4;clear c4;by_cases c5:(ji3:Int).toNat<=35184372088832
  ·rw[if_pos c5]at H;have c5b0:=eq_true c5;have c5b1:decide ((ji3:Int).toNat<=35184372088832)=true:=decide_eq_true c5;clear c5;obtain⟨y170,hy170⟩:∃y_:List Int,y_=(List.replicate (ji3:Int).toNat 0):=⟨_,rfl⟩;(replace H:(aH.l0 k l0 l1 y170 0)=some r:=by first|(rw[hy170];with_reducible exact H)|(have H2_:=(Option.bind_some _ _).symm.trans H;rw[hy170];with_reducible exact H2_)|(have H2_:=(Option.bind_some _ _).symm.trans H;with_reducible exact H2_)|with_reducible exact H|(rw[hy170];exact H)|exact H);have Ny170:=aA.mk hy170;clear hy170;have H':=aA.mk H;clear H;(go_enter Tryz.func91,Tryz.ntmps91);(go_wp2_with (first|((with_reducible refine fZ (N:=15) rfl ?_);refine Kd.rZ (Kd.int .i64) _ 3 rfl (N:=15) rfl 22 _ _ rfl ji3 rfl rfl Tryz.underlying22 (.int .i64 0) 8 info3 rfl (by decide) (by omega) 0 (ok:=fun _=>True) (okp:=fun _=>True) rfl (fun _ hk=>hk) trivial (of_decide_eq_true Zq.am) (Nat.le_trans (Nat.mul_le_mul_right _ (of_decide_eq_true Zq.am:ji3.toNat<=35184372088832)) (by omega)) (Below.refl _ _) (Nat.le_refl _) ?_;intro v171 w6 ho7 hb hg_ hnew_;clear hg_ hnew_;(first|rw[<-Ny170.out]at ho7|(simp only[Int.reduceToNat]at ho7;rw[<-Ny170.out]at ho7));have HO172:=aA.mk (Kd.eU (Kd.kJ (M:=fun k_=>(w.heap.size<=k_)) ho7 (aD Zq.bo) (fun k_ h_=>h_)) (aD Zq.bo));replace HB:=aA.mk (aC Zq.bo hb);clear hb ho7)));repeat(go_quiet (fail);try go_wp2_with (fail))
   go_loopg [6] k (fun kq v6 w'=>∃(x5_1:List Int) (x6_1:Int),v6 = .int .i64 x6_1/\aA (aH.l0 kq l0 l1 x5_1 x6_1=some r)/\aA (kq<=k)/\aA (Kd.R (Kd.int .i64) 3 w' w.heap.size (fun k_=>(w.heap.size<=k_)) v171 x5_1)/\aA (Below w.heap.size w w'))
   case atStart=>exact⟨(y170),(0),Zq.sd,H',⟨Nat.le_refl _⟩,⟨by(with_reducible repeat(first|apply Kd.bR|apply Kd.bP|apply Kd.aK));exact Kd.dE HO172.out (fun _ hk=>hk.1)⟩,⟨Zq.bo⟩⟩
   case round=>
    clear H';(try clear c1);(try clear p2);(try clear c4);(try clear c4b0);(try clear c4b1);(try clear c5);(try clear c5b0);(try clear c5b1);(try clear p6);obtain⟨x5_1,x6_1,rfl,HA,HK1,HO_5,HB⟩:=hrel;cases gk with
    | zero=>exact absurd HA.out (by simp[aH.l0])
    | succ k1=>
     have H:=HA.out;clear HA;simp only[aH.l0]at H;by_cases c8:x6_1<(l0.length:Int)
     ·rw[if_pos c8]at H;have c8b0:decide (x6_1<(l0.length:Int))=true:=decide_eq_true c8;clear c8;have H':=aA.mk H;clear H;(go_wp2);repeat(go_quiet (fail);try go_wp2)
      go_loopg [7,8] k1 (fun kq v7 v8 w'=>∃(x5_2:List Int) (x7_2:Int) (x8_2:Int),v7 = .int .i64 x7_2/\v8 = .int .i64 x8_2/\aA (aH.l1 kq l0 l1 x5_2 x6_1 x7_2 x8_2=some r)/\aA (kq<=k1)/\aA (Kd.R (Kd.int .i64) 3 w' w.heap.size (fun k_=>(w.heap.size<=k_)) v171 x5_2)/\aA (Below w.heap.size w w'))
      case atStart=>exact⟨(x5_1),(0),(0),Zq.sd,Zq.sd,H',⟨Nat.le_refl _⟩,⟨by(with_reducible repeat(first|apply Kd.bR|apply Kd.bP|apply Kd.aK));exact HO_5.out⟩,⟨Zq.bo⟩⟩
      case round=>
       clear H';(try clear c1);(try clear p2);(try clear c4);(try clear c4b0);(try clear c4b1);(try clear c5);(try clear c5b0);(try clear c5b1);(try clear p6);(try clear c8);(try clear c8b0);(try clear p2);(try clear p6);obtain⟨x5_2,x7_2,x8_2,rfl,rfl,HA,HK2,HO_5,HB⟩:=hrel;cases gk with
       | zero=>exact absurd HA.out (by simp[aH.l1])
       | succ k2=>
        have H:=HA.out;clear HA;simp only[aH.l1]at H;by_cases c9:x8_2<(l1.length:Int)
        ·rw[if_pos c9]at H;have c9b0:decide (x8_2<(l1.length:Int))=true:=decide_eq_true c9;clear c9;obtain⟨ji10,hji10⟩:∃j_:Int,(wrap64 (x6_1+x8_2))=j_:=⟨_,rfl⟩;(replace H:(if 0<=(ji10)then(if(ji10)<(x5_2.length:Int)then(if 0<=x6_1 then(if x6_1<(l0.length:Int)then(if 0<=x8_2 then(aH.l1 k2 l0 l1 (x5_2.set ((ji10):Int).toNat (Int.tmod (wrap64 ((wrap64 ((rd x5_2 (ji10))+(wrap64 ((rd l0 x6_1)*(rd l1 x8_2)))))+x7_2)) 10000)) x6_1 (wrap64 (Int.tdiv (wrap64 ((wrap64 ((rd x5_2 (ji10))+(wrap64 ((rd l0 x6_1)*(rd l1 x8_2)))))+x7_2)) 10000)) (wrap64 (x8_2+1)))else(none))else(none))else(none))else(none))else(none))=some r:=by first|(rw[hji10]at H;exact H)|(simp only[hji10]at H⊢;exact H));have hji10w:(IntKind.i64.wrap (x6_1+x8_2))=ji10:=(bG _).trans hji10;by_cases c11:0<=(ji10)
         ·rw[if_pos c11]at H;have c11b0:decide (0<=(ji10))=true:=decide_eq_true c11;clear c11;by_cases c12:(ji10)<(x5_2.length:Int)
          ·rw[if_pos c12]at H;have c12b0:decide ((ji10)<(x5_2.length:Int))=true:=decide_eq_true c12;clear c12;by_cases c13:0<=x6_1
           ·rw[if_pos c13]at H;have c13b0:decide (0<=x6_1)=true:=decide_eq_true c13;clear c13;by_cases c14:x6_1<(l0.length:Int)
            ·rw[if_pos c14]at H;have c14b0:decide (x6_1<(l0.length:Int))=true:=decide_eq_true c14;clear c14;by_cases c15:0<=x8_2
             ·rw[if_pos c15]at H;have c15b0:decide (0<=x8_2)=true:=decide_eq_true c15;clear c15;obtain⟨y179,hy179⟩:∃y_:List Int,y_=(x5_2.set ((ji10):Int).toNat (Int.tmod (wrap64 ((wrap64 ((rd x5_2 (ji10))+(wrap64 ((rd l0 x6_1)*(rd l1 x8_2)))))+x7_2)) 10000)):=⟨_,rfl⟩;(replace H:(aH.l1 k2 l0 l1 y179 x6_1 (wrap64 (Int.tdiv (wrap64 ((wrap64 ((rd x5_2 (ji10))+(wrap64 ((rd l0 x6_1)*(rd l1 x8_2)))))+x7_2)) 10000)) (wrap64 (x8_2+1)))=some r:=by first|(rw[hy179];with_reducible exact H)|(have H2_:=(Option.bind_some _ _).symm.trans H;rw[hy179];with_reducible exact H2_)|(have H2_:=(Option.bind_some _ _).symm.trans H;with_reducible exact H2_)|with_reducible exact H|(rw[hy179];exact H)|exact H);have Ny179:=aA.mk hy179;clear hy179;have H':=aA.mk H;clear H;obtain⟨Ao17,co17,eo17⟩:=Kd.bX HO_5.out;subst eo17;have p176:0<=((ji10):Int):=of_decide_eq_true Zq.am;have q176:(ji10)<(x5_2.length:Int):=of_decide_eq_true Zq.am;obtain⟨ad176,e176,hx176_0⟩:=Kd.dF (Kd.aJ HO_5.out).2.2 (ji10) p176 q176;cases e176;replace p176:=eq_true p176;replace q176:=eq_true q176;have p177:0<=(x6_1:Int):=of_decide_eq_true Zq.am;have q177:x6_1<(l0.length:Int):=of_decide_eq_true Zq.am;obtain⟨ad177,e177,hx177_0⟩:=Kd.dF HR0.out x6_1 p177 q177;cases e177;replace hx177_0:=(HB.out.cell (World.block_lt_of_cell? w _ hx177_0)).trans hx177_0;replace p177:=eq_true p177;replace q177:=eq_true q177;have p178:0<=(x8_2:Int):=of_decide_eq_true Zq.am;have q178:x8_2<(l1.length:Int):=of_decide_eq_true Zq.am
              obtain⟨ad178,e178,hx178_0⟩:=Kd.dF HR1.out x8_2 p178 q178;cases e178;replace hx178_0:=(HB.out.cell (World.block_lt_of_cell? w _ hx178_0)).trans hx178_0;replace p178:=eq_true p178;replace q178:=eq_true q178;have p16:0<=((ji10):Int):=of_decide_eq_true Zq.am;have q16:((ji10):Int)<((x5_2.length:Int):Int):=of_decide_eq_true Zq.am;obtain⟨go16,co16,eo16,gb16,gl16,cl16,HG16⟩:=Kd.mR HO_5.out (by omega);(first|cases eo16|(injection eo16 with ea_ en_ ec_;(first|subst ea_|(injection ea_ with ea_;subst ea_));subst ec_;clear en_));have GB16:=aA.mk gb16;have GG16:=aA.mk HG16;clear gb16 gl16 HG16;(first|simp only[add_plain]at hx176_0|skip);obtain⟨hx16_0,hf16_0⟩:=Kd.jJ 0 HO_5.out ((ji10):Int) p16 q16;replace p16:=eq_true p16;replace q16:=eq_true q16;have HP18:=Kd.jH HO_5.out ((ji10):Int) (Int.tmod (wrap64 ((wrap64 ((rd x5_2 (ji10))+(wrap64 ((rd l0 x6_1)*(rd l1 x8_2)))))+x7_2)) 10000)
              go_wp2_with (first|((with_reducible refine gQ (t:=3) (p:=54) rfl ?_);(try(rw[gL wr];generalize hq_:World.drewN wr _=wr;have n0_:=aA.mk (Kd.uC hq_ HO_5.out);have n1_:=aA.mk (jR hq_ HB.out);clear hq_ HO_5 HB;have HO_5:=n0_;have HB:=n1_;clear n0_ n1_;(try(have HP18:=Kd.jH HO_5.out ((ji10):Int) (Int.tmod (wrap64 ((wrap64 ((rd x5_2 (ji10))+(wrap64 ((rd l0 x6_1)*(rd l1 x8_2)))))+x7_2)) 10000)))));refine gD (t:=3) (p:=54) (v:=?vo_w19) (w1:=(wr.setCell ⟨go16,((ji10):Int).toNat,none⟩ (.int .i64 (Int.tmod (wrap64 ((wrap64 ((rd x5_2 (ji10))+(wrap64 ((rd l0 x6_1)*(rd l1 x8_2)))))+x7_2)) 10000)))) ?hg ?ho ?hn ?hr ?_;(case ho=>rfl);(case hg=>rfl);(case hn=>rfl);(case hr=>first|(go_simp;done)|(go_simp;rfl));intro w19 hw;have hg:wr.grownBy w19 (some go16):=(by rw[hw];exact HP18.2);have hp_:Kd.R (Kd.int .i64) 3 w19 w.heap.size (fun k_=>(w.heap.size<=k_)) (.slice (some ⟨go16,0,none⟩) x5_2.length co17) y179:=(by rw[hw,Ny179.out];exact HP18.1);clear HP18;have n0_:=aA.mk (hp_);have n1_:=aA.mk ((by rw[hw];exact fB (HB.out) GB16.out:Below w.heap.size w w19));clear HO_5;clear HB;have HO_5:=n0_;have HB:=n1_;clear n0_ n1_;clear hg hw hp_))
              repeat(go_quiet (fail);try go_wp2_with (first|((with_reducible refine gQ (t:=3) (p:=54) rfl ?_);(try(rw[gL wr];generalize hq_:World.drewN wr _=wr;have n0_:=aA.mk (Kd.uC hq_ HO_5.out);have n1_:=aA.mk (jR hq_ HB.out);clear hq_ HO_5 HB;have HO_5:=n0_;have HB:=n1_;clear n0_ n1_;(try(have HP18:=Kd.jH HO_5.out ((ji10):Int) (Int.tmod (wrap64 ((wrap64 ((rd x5_2 (ji10))+(wrap64 ((rd l0 x6_1)*(rd l1 x8_2)))))+x7_2)) 10000)))));refine gD (t:=3) (p:=54) (v:=?vo_w19) (w1:=(wr.setCell ⟨go16,((ji10):Int).toNat,none⟩ (.int .i64 (Int.tmod (wrap64 ((wrap64 ((rd x5_2 (ji10))+(wrap64 ((rd l0 x6_1)*(rd l1 x8_2)))))+x7_2)) 10000)))) ?hg ?ho ?hn ?hr ?_;(case ho=>rfl);(case hg=>rfl);(case hn=>rfl);(case hr=>first|(go_simp;done)|(go_simp;rfl));intro w19 hw;have hg:wr.grownBy w19 (some go16):=(by rw[hw];exact HP18.2);have hp_:Kd.R (Kd.int .i64) 3 w19 w.heap.size (fun k_=>(w.heap.size<=k_)) (.slice (some ⟨go16,0,none⟩) x5_2.length co17) y179:=(by rw[hw,Ny179.out];exact HP18.1);clear HP18;have n0_:=aA.mk (hp_);have n1_:=aA.mk ((by rw[hw];exact fB (HB.out) GB16.out:Below w.heap.size w w19));clear HO_5;clear HB;have HO_5:=n0_;have HB:=n1_;clear n0_ n1_;clear hg hw hp_)))
              go_roundg k2
              (case measure=>have:=HK1.out;have:=HK2.out;omega);case rel=>exact⟨(y179),(wrap64 (Int.tdiv (wrap64 ((wrap64 ((rd x5_2 (ji10))+(wrap64 ((rd l0 x6_1)*(rd l1 x8_2)))))+x7_2)) 10000)),(wrap64 (x8_2+1)),(by first|rfl|(simp;done)|(simp only[<-hji10]<;>(first|rfl|simp))|(simp[*];done)),Zq.sd,H',⟨by have:=HK1.out;have:=HK2.out;omega⟩,⟨by first|((with_reducible repeat(first|apply Kd.bR|apply Kd.bP|apply Kd.aK));exact HO_5.out)|(rw[Ny179.out];exact HP18.1)⟩,⟨by first|exact fB (bI HB.out _) GB16.out|repeat(first|(with_reducible first|exact HB.out|apply bA|apply bI|apply aT)|exact HB.out)⟩⟩
             ·rw[if_neg c15]at H;exact absurd H (by simp)
            ·rw[if_neg c14]at H;exact absurd H (by simp)
           ·rw[if_neg c13]at H;exact absurd H (by simp)
          ·rw[if_neg c12]at H;exact absurd H (by simp)
         ·rw[if_neg c11]at H;exact absurd H (by simp)
        ·rw[if_neg c9]at H;have c9b0:decide (x8_2<(l1.length:Int))=false:=decide_eq_false c9;clear c9;obtain⟨ji20,hji20⟩:∃j_:Int,(wrap64 (x6_1+(l1.length:Int)))=j_:=⟨_,rfl⟩;(replace H:(if 0<=(ji20)then(if(ji20)<(x5_2.length:Int)then(aH.l0 k2 l0 l1 (x5_2.set ((ji20):Int).toNat (wrap64 ((rd x5_2 (ji20))+x7_2))) (wrap64 (x6_1+1)))else(none))else(none))=some r:=by first|(rw[hji20]at H;exact H)|(simp only[hji20]at H⊢;exact H));have hji20w:(IntKind.i64.wrap (x6_1+(l1.length:Int)))=ji20:=(bG _).trans hji20;by_cases c21:0<=(ji20)
         ·rw[if_pos c21]at H;have c21b0:decide (0<=(ji20))=true:=decide_eq_true c21;clear c21;by_cases c22:(ji20)<(x5_2.length:Int)
          ·rw[if_pos c22]at H;have c22b0:decide ((ji20)<(x5_2.length:Int))=true:=decide_eq_true c22;clear c22;obtain⟨y181,hy181⟩:∃y_:List Int,y_=(x5_2.set ((ji20):Int).toNat (wrap64 ((rd x5_2 (ji20))+x7_2))):=⟨_,rfl⟩;(replace H:(aH.l0 k2 l0 l1 y181 (wrap64 (x6_1+1)))=some r:=by first|(rw[hy181];with_reducible exact H)|(have H2_:=(Option.bind_some _ _).symm.trans H;rw[hy181];with_reducible exact H2_)|(have H2_:=(Option.bind_some _ _).symm.trans H;with_reducible exact H2_)|with_reducible exact H|(rw[hy181];exact H)|exact H);have Ny181:=aA.mk hy181;clear hy181;have H':=aA.mk H;clear H;obtain⟨Ao24,co24,eo24⟩:=Kd.bX HO_5.out;subst eo24;have p180:0<=((ji20):Int):=of_decide_eq_true Zq.am;have q180:(ji20)<(x5_2.length:Int):=of_decide_eq_true Zq.am;obtain⟨ad180,e180,hx180_0⟩:=Kd.dF (Kd.aJ HO_5.out).2.2 (ji20) p180 q180;cases e180;replace p180:=eq_true p180;replace q180:=eq_true q180;have p23:0<=((ji20):Int):=of_decide_eq_true Zq.am;have q23:((ji20):Int)<((x5_2.length:Int):Int):=of_decide_eq_true Zq.am;obtain⟨go23,co23,eo23,gb23,gl23,cl23,HG23⟩:=Kd.mR HO_5.out (by omega);(first|cases eo23|(injection eo23 with ea_ en_ ec_;(first|subst ea_|(injection ea_ with ea_;subst ea_));subst ec_;clear en_));have GB23:=aA.mk gb23;have GG23:=aA.mk HG23;clear gb23 gl23 HG23;(first|simp only[add_plain]at hx180_0|skip);obtain⟨hx23_0,hf23_0⟩:=Kd.jJ 0 HO_5.out ((ji20):Int) p23 q23;replace p23:=eq_true p23;replace q23:=eq_true q23;have HP25:=Kd.jH HO_5.out ((ji20):Int) (wrap64 ((rd x5_2 (ji20))+x7_2))
           (go_wp2_with (first|((with_reducible refine gQ (t:=3) (p:=69) rfl ?_);(try(rw[gL wr];generalize hq_:World.drewN wr _=wr;have n0_:=aA.mk (Kd.uC hq_ HO_5.out);have n1_:=aA.mk (jR hq_ HB.out);clear hq_ HO_5 HB;have HO_5:=n0_;have HB:=n1_;clear n0_ n1_;(try(have HP25:=Kd.jH HO_5.out ((ji20):Int) (wrap64 ((rd x5_2 (ji20))+x7_2))))));refine gD (t:=3) (p:=69) (v:=?vo_w26) (w1:=(wr.setCell ⟨go23,((ji20):Int).toNat,none⟩ (.int .i64 (wrap64 ((rd x5_2 (ji20))+x7_2))))) ?hg ?ho ?hn ?hr ?_;(case ho=>rfl);(case hg=>rfl);(case hn=>rfl);(case hr=>first|(go_simp;done)|(go_simp;rfl));intro w26 hw;have hg:wr.grownBy w26 (some go23):=(by rw[hw];exact HP25.2);have hp_:Kd.R (Kd.int .i64) 3 w26 w.heap.size (fun k_=>(w.heap.size<=k_)) (.slice (some ⟨go23,0,none⟩) x5_2.length co24) y181:=(by rw[hw,Ny181.out];exact HP25.1);clear HP25;have n0_:=aA.mk (hp_);have n1_:=aA.mk ((by rw[hw];exact fB (HB.out) GB23.out:Below w.heap.size w w26));clear HO_5;clear HB;have HO_5:=n0_;have HB:=n1_;clear n0_ n1_;clear hg hw hp_)));repeat(go_quiet (fail);try go_wp2_with (fail))
           go_roundg k2
           (case measure=>have:=HK1.out;have:=HK2.out;omega);case rel=>exact⟨(y181),(wrap64 (x6_1+1)),Zq.sd,H',⟨by have:=HK1.out;have:=HK2.out;omega⟩,⟨by first|((with_reducible repeat(first|apply Kd.bR|apply Kd.bP|apply Kd.aK));exact HO_5.out)|(rw[Ny181.out];exact HP25.1)⟩,⟨by first|exact fB (bI HB.out _) GB23.out|repeat(first|(with_reducible first|exact HB.out|apply bA|apply bI|apply aT)|exact HB.out)⟩⟩
          ·rw[if_neg c22]at H;exact absurd H (by simp)
         ·rw[if_neg c21]at H;exact absurd H (by simp)
     ·rw[if_neg c8]at H;have c8b0:decide (x6_1<(l0.length:Int))=false:=decide_eq_false c8;clear c8;obtain⟨t173,A27,H⟩:=Zq.mq H;(try dsimp only at H);obtain rfl:=Option.some.inj H;obtain⟨Ao28,co28,eo28⟩:=Kd.bX HO_5.out;subst eo28;(go_wp2_with (first|(go_at_call 135;(with_reducible refine(dU.calls k1 (fun k_=>some k_=(.slice Ao28 x5_1.length co28:Value).ownBlock) _ _ x5_1 t173 _ ?side1 A27.out).mono ?_);(case side1=>exact Kd.R_V (Kd.nW rfl (HO_5.out)));rintro e w29 ⟨v174,rfl,ho0,hb⟩;have n0_:=aA.mk (Kd.aG (Zq.ra HO_5.out) hb);have n1_:=aA.mk (Kd.dH (Kd.dB (ok':=fun k_=>(w.heap.size<=k_)) ho0 (fun k_ hk_=>Or.elim hk_ (fun hs_=>((HO_5.out).1 k_ hs_.symm)) (fun hn_=>(Nat.le_trans (aD Zq.bo) hn_)))) (aD Zq.bo));have n2_:=aA.mk (aC Zq.bo hb);clear HO_5;clear HB;have HO_5:=n0_;have HO175:=n1_;have HB:=n2_;clear n0_ n1_ n2_;(try clear hb);(try clear hb2);(try clear hk);(try clear hi);(try clear ho0))));repeat(go_quiet (fail);try go_wp2_with (fail))
      go_ret
      exact⟨_,by first|rfl|(simp[bE,bD]<;>rfl)|(simp only[<-hji3];first|rfl|(simp[bE,bD]<;>rfl))|(simp[*,bE,bD]<;>rfl),by(with_reducible repeat(first|apply Kd.gH|apply Kd.gG|apply Kd.iI));exact HO175.out,Zq.bo⟩
  ·rw[if_neg c5]at H;exact absurd H (by simp)
 ·rw[if_neg c4]at H;exact absurd H (by simp)
end Go.Proofs.YtjieekkkaekclaaGreatDoor.PR
namespace Go.Proofs.YtjieekkkaekclaaGreatDoor
open Go Go.RowKit Go.Pw.PrintWords Go.Proofs.YtjieekkkaekclaaGreatDoor.PR
theorem oZ (a b o:List Int) (ha:Mw.inB 10000 a) (hb:Mw.inB 10000 b) (ho:Mw.inB 10000 o) (i j:Nat) (c:Int) (c0:0<=c) (c1:c<10000) (hi:i<a.length) (hj:j<b.length) (hl:o.length=a.length+b.length) (hn:a.length<=100000) (hm:b.length<=100000) (k:Nat):
 aH.l1 (k+1) a b o i c j=aH.l1 k a b (o.set (i+j) ((o.getD (i+j) 0+a.getD i 0*b.getD j 0+c)%10000)) i ((o.getD (i+j) 0+a.getD i 0*b.getD j 0+c)/10000) ((j+1:Nat):Int):=by
 have g1:(j:Int)<(b.length:Int):=by omega
 have g2:(0:Int)<=((i+j:Nat):Int):=by omega
 have g3:((i+j:Nat):Int)<(o.length:Int):=by omega
 have g4:(0:Int)<=(i:Int):=by omega
 have g5:(i:Int)<(a.length:Int):=by omega
 have g6:(0:Int)<=(j:Int):=by omega
 have pa:=Mw.bW (B:=10000) (by omega) ha i;have pb:=Mw.bW (B:=10000) (by omega) hb j;have po:=Mw.bW (B:=10000) (by omega) ho (i+j);have m0:0<=a.getD i 0*b.getD j 0:=Int.mul_nonneg pa.1 pb.1;have m1:a.getD i 0*b.getD j 0<=9999*9999:=Int.mul_le_mul (by omega) (by omega) pb.1 (by omega);generalize hA:a.getD i 0=A at *;generalize hBv:b.getD j 0=Bv at *;generalize hO:o.getD (i+j) 0=O at *;generalize hM:A*Bv=M at *;have ws:wrap64 ((i:Int)+(j:Int))=((i+j:Nat):Int):=eT (by omega) (by omega);have wj:wrap64 ((j:Int)+1)=((j+1:Nat):Int):=eT (by omega) (by omega);have w1:wrap64 M=M:=eT (by omega) (by omega);have w2:wrap64 (O+M)=O+M:=eT (by omega) (by omega);have w3:wrap64 (O+M+c)=O+M+c:=eT (by omega) (by omega);have t1:Int.tmod (O+M+c) 10000=(O+M+c)%10000:=Int.tmod_eq_emod_of_nonneg (by omega);have t2:Int.tdiv (O+M+c) 10000=(O+M+c)/10000:=Int.tdiv_eq_ediv_of_nonneg (by omega);have w4:wrap64 ((O+M+c)/10000)=(O+M+c)/10000:=eT (by omega) (by omega);simp only[aH.l1];rw[if_pos g1,ws,if_pos g2,if_pos g3,if_pos g4,if_pos g5,if_pos g6,iU,iU,iU,hA,hBv,hO,hM,w1,w2,w3,t1,t2,w4,wj,Int.toNat_natCast]
theorem pE (a b o:List Int) (ho:Mw.inB 10000 o) (i:Nat) (c:Int) (c0:0<=c) (c1:c<10000) (hi:i<a.length) (hl:o.length=a.length+b.length) (hn:a.length<=100000) (hm:b.length<=100000) (hz:o.getD (i+b.length) 0=0) (k:Nat):
 aH.l1 (k+1) a b o i c ((b.length:Nat):Int)=aH.l0 k a b (o.set (i+b.length) c) ((i+1:Nat):Int):=by
 have g1:¬(b.length:Int)<(b.length:Int):=by omega
 have g2:(0:Int)<=((i+b.length:Nat):Int):=by omega
 have g3:((i+b.length:Nat):Int)<(o.length:Int):=by omega
 have ws:wrap64 ((i:Int)+(b.length:Int))=((i+b.length:Nat):Int):=eT (by omega) (by omega);have wi:wrap64 ((i:Int)+1)=((i+1:Nat):Int):=eT (by omega) (by omega);have w1:wrap64 (0+c)=c:=by rw[Int.zero_add];exact eT (by omega) (by omega)
 simp only[aH.l1];rw[if_neg g1,ws,if_pos g2,if_pos g3,iU,hz,w1,wi,Int.toNat_natCast]
def iL (a b:List Int) (y:Int) (i:Nat) (o:List Int):Prop:=
 o.length=a.length+b.length/\Mw.inB 10000 o/\Mw.lv 10000 o=Mw.lv 10000 (a.take i)*y/\∀j,i+b.length<=j->o.getD j 0=0
def iM (a b:List Int) (y:Int) (i j:Nat) (o:List Int) (c:Int):Prop:=
 o.length=a.length+b.length/\Mw.inB 10000 o/\(0<=c/\c<10000)/\Mw.lv 10000 o+10000^(i+j)*c=Mw.lv 10000 (a.take i)*y+10000^i*(a.getD i 0*Mw.lv 10000 (b.take j))/\∀j,i+b.length<=j->o.getD j 0=0
theorem iN (l:List Int) (i:Nat) (h:i<l.length):Mw.lv 10000 (l.take (i+1))=Mw.lv 10000 (l.take i)+10000^i*l.getD i 0:=by rw[Mw.iB l i h,Mw.lC,List.length_take,Nat.min_eq_left (by omega)]
theorem kC {a b:List Int} {y:Int} {i:Nat} {o:List Int} (h:iL a b y i o):iM a b y i 0 o 0:=
 ⟨h.1,h.2.1,⟨by omega,by omega⟩,by rw[h.2.2.1];simp[Mw.oK],h.2.2.2⟩
theorem kP {a b:List Int} (ha:Mw.inB 10000 a) (hb:Mw.inB 10000 b) {y:Int} {i j:Nat} {o:List Int} {c:Int} (hi:i<a.length) (hj:j<b.length) (h:iM a b y i j o c):
 iM a b y i (j+1) (o.set (i+j) ((o.getD (i+j) 0+a.getD i 0*b.getD j 0+c)%10000)) ((o.getD (i+j) 0+a.getD i 0*b.getD j 0+c)/10000):=by
 obtain⟨h1,h2,h3,h4,h5⟩:=h;have pa:=Mw.bW (B:=10000) (by omega) ha i;have pb:=Mw.bW (B:=10000) (by omega) hb j;have po:=Mw.bW (B:=10000) (by omega) h2 (i+j);have m0:0<=a.getD i 0*b.getD j 0:=Int.mul_nonneg pa.1 pb.1;have m1:a.getD i 0*b.getD j 0<=9999*9999:=Int.mul_le_mul (by omega) (by omega) pb.1 (by omega);refine⟨by simp[h1],Mw.kS h2 _ (by omega) (by omega),⟨by omega,by omega⟩,?_,fun q hq=>by rw[getD_set_ne _ _ _ _ (by omega)];exact h5 q hq⟩;rw[Mw.qN 10000 o (i+j) (by omega),iN b j hj];generalize hN:o.getD (i+j) 0+a.getD i 0*b.getD j 0+c=n;have e:n%10000=n-10000*(n/10000):=by omega
 rw[e,show i+(j+1)=(i+j)+1 from rfl,Int.pow_succ];have e2:a.getD i 0*b.getD j 0=n-c-o.getD (i+j) 0:=by omega
 have e3:a.getD i 0*(Mw.lv 10000 (b.take j)+10000^j*b.getD j 0)=a.getD i 0*Mw.lv 10000 (b.take j)+10000^j*(n-c-o.getD (i+j) 0):=by rw[<-e2];grind
 rw[e3];generalize Mw.lv 10000 o=V at *;generalize Mw.lv 10000 (a.take i)*y=W at *;generalize a.getD i 0*Mw.lv 10000 (b.take j)=Z at *;generalize o.getD (i+j) 0=O at *;generalize n/10000=q at *;rw[Int.pow_add]at h4⊢;generalize(10000:Int)^i=P at *;generalize(10000:Int)^j=Q at *;grind
theorem lJ {a b:List Int} {y:Int} (hy:Mw.lv 10000 b=y) {i:Nat} {o:List Int} {c:Int} (hi:i<a.length) (h:iM a b y i b.length o c):iL a b y (i+1) (o.set (i+b.length) c):=by obtain⟨h1,h2,h3,h4,h5⟩:=h;refine⟨by simp[h1],Mw.kS h2 _ h3.1 h3.2,?_,fun j hj=>by rw[getD_set_ne _ _ _ _ (by omega)];exact h5 j (by omega)⟩;rw[Mw.qN 10000 o (i+b.length) (by omega),h5 _ (Nat.le_refl _),iN a i hi,Int.sub_zero,h4,List.take_of_length_le (Nat.le_refl _),hy];grind
theorem pF (a b:List Int) (ha:Mw.inB 10000 a) (hb:Mw.inB 10000 b) (hn:a.length<=100000) (hm:b.length<=100000) (y:Int) (hy:Mw.lv 10000 b=y) (i:Nat) (hi:i<a.length) (R:List Int)
 (next:∀o,iL a b y (i+1) o->EvP (fun k=>aH.l0 k a b o ((i+1:Nat):Int)) R):
 ∀(d j:Nat) (o:List Int) (c:Int),j+d=b.length->iM a b y i j o c->EvP (fun k=>aH.l1 k a b o i c j) R:=by
 intro d;induction d with
 | zero=>intro j o c hj hI;(obtain rfl:j=b.length:=by omega);exact EvP.step (fun k=>pE a b o hI.2.1 i c hI.2.2.1.1 hI.2.2.1.2 hi hI.1 hn hm (hI.2.2.2.2 _ (Nat.le_refl _)) k) (next _ (lJ hy hi hI))
 | succ d ih=>intro j o c hj hI;exact EvP.step (fun k=>oZ a b o ha hb hI.2.1 i j c hI.2.2.1.1 hI.2.2.1.2 hi (by omega) hI.1 hn hm k) (ih (j+1) _ _ (by omega) (kP ha hb hi (by omega) hI))
theorem pG (a b:List Int) (ha:Mw.inB 10000 a) (hb:Mw.inB 10000 b) (hn:a.length<=100000) (hm:b.length<=100000) (y:Int) (hy:Mw.lv 10000 b=y):
 ∀(d i:Nat) (o:List Int),i+d=a.length->iL a b y i o->EvP (fun k=>aH.l0 k a b o i) (Mw.lm (Mw.lv 10000 a*y).toNat):=by
 intro d;induction d with
 | zero=>intro i o hi hI;(have hl:o.length<=17592186044416:=by have:=hI.1;omega);refine EvP.step (f:=fun k=>(dU.f k o).bind fun t=>some t) (fun k=>?_) (EvP.bind (nY o hI.2.1 hl) ?_);(·simp only[aH.l0];rw[if_neg (show ¬(i:Int)<(a.length:Int) by omega)]);·rw[hI.2.2.1,List.take_of_length_le (by omega)];exact EvP.now _
 | succ d ih=>intro i o hi hI;refine EvP.step (f:=fun k=>aH.l1 k a b o i 0 ((0:Nat):Int)) (fun k=>?_) (pF a b ha hb hn hm y hy i (by omega) _ (fun o' ho'=>ih (i+1) o' (by omega) ho') b.length 0 o 0 (by omega) (kC hI));simp only[aH.l0];rw[if_pos (show(i:Int)<(a.length:Int) by omega)];rfl
theorem kT (x y:Nat) (hx:(Mw.lm x).length<=100000) (hy:(Mw.lm y).length<=100000):EvP (fun k=>aH.f k (Mw.lm x) (Mw.lm y)) (Mw.lm (x*y)):=by
 have ws:wrap64 (((Mw.lm x).length:Int)+((Mw.lm y).length:Int))=(((Mw.lm x).length+(Mw.lm y).length:Nat):Int):=eT (by omega) (by omega)
 have h:=pG (Mw.lm x) (Mw.lm y) (iH x) (iH y) hx hy (y:Int) (kZ y) (Mw.lm x).length 0 (List.replicate ((Mw.lm x).length+(Mw.lm y).length) 0) (by omega)
  ⟨by simp,Mw.jQ (by omega) _,by rw[Mw.oU];simp[Mw.oK],fun j _=>by simp[List.getD_eq_getElem?_getD,List.getElem?_replicate];intros;split<;>rfl⟩
 rw[kZ,show((x:Int)*(y:Int)).toNat=x*y by rw[<-Int.natCast_mul,Int.toNat_natCast]]at h;refine EvP.congr (fun k=>?_) h;unfold aH.f;rw[ws,if_pos (by omega),if_pos (by omega),Int.toNat_natCast];rfl
end Go.Proofs.YtjieekkkaekclaaGreatDoor
