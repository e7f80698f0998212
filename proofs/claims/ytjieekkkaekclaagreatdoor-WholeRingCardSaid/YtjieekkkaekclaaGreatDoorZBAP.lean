/- Lemmas for the claim beside this text. -/
import Derived.Test.YtjieekkkaekclaaGreatDoorZBAK
import Derived.Test.YtjieekkkaekclaaGreatDoorZBAL
import Derived.Test.YtjieekkkaekclaaGreatDoorZBAM
import Derived.Test.YtjieekkkaekclaaGreatDoorZBAN
import Derived.Laws.BitsLemmas
set_option linter.all false
set_option linter.unusedVariables false
set_option linter.unusedSimpArgs false
set_option maxHeartbeats 3200000
set_option maxRecDepth 100000
namespace Mw
theorem aGM (x b:Int) (m:Nat) (hm:1<=m):(x*b).natAbs<=(x*b^m).natAbs:=by
 rw[Int.natAbs_mul,Int.natAbs_mul,Int.natAbs_pow];refine Nat.mul_le_mul_left _ ?_;rcases Nat.eq_zero_or_pos b.natAbs with h|h;·rw[h];exact Nat.zero_le _
 ·have:=Nat.pow_le_pow_right h hm;rwa[Nat.pow_one]at this
theorem aI7 (x b:Int) (m:Nat) (hm:2<=m) (h0:x≠0\/b=0):(b*b).natAbs<=(x*b^m).natAbs:=by
 rcases h0 with h0|h0;·rw[Int.natAbs_mul,Int.natAbs_mul,Int.natAbs_pow];(have h1:b.natAbs*b.natAbs<=b.natAbs^m:=by rcases Nat.eq_zero_or_pos b.natAbs with h|h;(·rw[h];simp);·have:=Nat.pow_le_pow_right h hm;rwa[Nat.pow_two]at this);have h2:1*b.natAbs^m<=x.natAbs*b.natAbs^m:=Nat.mul_le_mul_right _ (by omega);omega
 ·subst h0;simp
theorem pow_odd (x b:Int) (m:Nat) (hm:m%2=1):x*b^m=(x*b)*(b*b)^(m/2):=by
 have e:m=2*(m/2)+1:=by omega
 have h1:b^m=b^(2*(m/2))*b:=by rw[<-Int.pow_succ];show b^m=b^(2*(m/2)+1);rw[<-e]
 rw[h1,Int.pow_mul,show b^2=b*b by rw[Int.pow_succ,Int.pow_succ,Int.pow_zero,Int.one_mul]];generalize(b*b)^(m/2)=P;grind
theorem pow_even (x b:Int) (m:Nat) (hm:m%2=0):x*b^m=x*(b*b)^(m/2):=by
 have e:m=2*(m/2):=by omega
 have h1:b^m=b^(2*(m/2)):=by rw[<-e]
 rw[h1,Int.pow_mul,show b^2=b*b by rw[Int.pow_succ,Int.pow_succ,Int.pow_zero,Int.one_mul]]
theorem aMu {x b:Int} (h:x≠0\/b=0):x*b≠0\/b=0:=by
 rcases h with h|h;·by_cases hb:b=0;(·exact .inr hb);·exact .inl (Int.mul_ne_zero h hb)
 ·exact .inr h
def hlv (k:Nat):List Bool:=if _h:k=0 then[]else(k%2 == 1)::hlv (k/2)
termination_by k
decreasing_by omega
theorem aDp:hlv 0=[]:=by rw[hlv];simp
theorem aEV {k:Nat} (h:k≠0):hlv k=(k%2 == 1)::hlv (k/2):=by rw[hlv,dif_neg h]
def pm (m:Int):Int->Int->List Bool->Int
 | out,_,[]=>out
 | out,x,b::l=>pm m (if b then(out*x).fmod m else out) ((x*x).fmod m) l
theorem aAj (x y m:Int) (hm:0<m):(x.fmod m*y).fmod m=(x*y).fmod m:=by rw[Int.fmod_eq_emod_of_nonneg _ (by omega),Int.fmod_eq_emod_of_nonneg _ (by omega),Int.fmod_eq_emod_of_nonneg _ (by omega),Int.mul_emod,Int.emod_emod_of_dvd _ (Int.dvd_refl m),<-Int.mul_emod]
theorem aAi (x m:Int) (n:Nat) (hm:0<m) (y:Int):(y*(x.fmod m)^n).fmod m=(y*x^n).fmod m:=by
 induction n generalizing y with
 | zero=>rw[Int.pow_zero,Int.pow_zero]
 | succ n ih=>rw[Int.pow_succ,Int.pow_succ,<-Int.mul_assoc,Int.mul_right_comm,ih,Int.mul_assoc,Int.mul_comm (x.fmod m),<-Int.mul_assoc,Int.mul_comm (y*x^n),aAj _ _ _ hm,Int.mul_comm x,Int.mul_assoc]
theorem aM9 (m:Int) (hm:0<m) (k:Nat):∀out x,out.fmod m=out->pm m out x (hlv k)=(out*x^k).fmod m:=by
 induction k using Nat.strongRecOn with
 | _ k ih=>intro out x ho;by_cases h:k=0;(·subst h;rw[aDp,pm,Int.pow_zero,Int.mul_one,ho]);·rw[aEV h,pm];by_cases hk:k%2=1;(·rw[show(k%2 == 1)=true by simpa using hk,if_pos rfl,ih _ (by omega) _ _ (Int.fmod_fmod ..),aAi _ _ _ hm,aAj _ _ _ hm,<-pow_odd _ _ _ hk]);·rw[show(k%2 == 1)=false by simpa using hk,if_neg (by simp),ih _ (by omega) _ _ ho,aAi _ _ _ hm,<-pow_even _ _ _ (by omega)]
end Mw
namespace Go.Proofs.YtjieekkkaekclaaGreatDoor
open Go Go.RowKit Go.Pw.PrintWords
def aFp (K:FuncId) (P:Int->Prop):Prop:=∀(W:World) {s:Int} {A:Option Addr} {k c:Nat} {x:Int},dS W s A k c x->P x->k<=120->Tab W->
 Calls Tryz.prog K #[.agg #[.int .i64 s,.slice A k c]] W fun e w'=>e = .returned (.tuple #[])/\Below W.heap.size W w'
def aFq (K:FuncId) (P:Int->Prop) (c0:Int):Prop:=∀(W:World) {s:Int} {A:Option Addr} {k c:Nat} {x:Int},dS W s A k c x->¬P x->k<=120->Tab W->
 Calls Tryz.prog K #[.agg #[.int .i64 s,.slice A k c]] W fun e w'=>e = .panicked (thrown c0)/\Below W.heap.size W w'
def aM1 (P:Int->Prop) (c0 x:Int) (w:World) (e:Ending) (w':World):Prop:=
 Below w.heap.size w w'/\((P x/\∃s2 A2 k2 c2,e = .returned (.agg #[.int .i64 s2,.slice A2 k2 c2])/\dS w' s2 A2 k2 c2 x)\/(¬P x/\e = .panicked (thrown c0)))
theorem two32:(2:Int)^32=4294967296:=by decide
theorem and_one (m:Nat) (hm:m<=1000000):bits .and .i64 (m:Int) 1=((m%2:Nat):Int):=by
 have h:=bits_mask .i64 32 (by decide) (fun n h0 h1=>IntWalk.i64_in _ (by rw[two32]at h1;omega)) 1 (by decide) (m:Int) (by omega) (by rw[two32];omega);have e:(2:Int)^1=2:=by decide
 rw[e]at h;have e2:(2:Int)-1=1:=by decide
 rw[e2]at h;rw[h];omega
theorem aLX {m:Nat} (hm:m<=1000000) (h:m%2=1):(bits .and .i64 (m:Int) 1 == 1)=true:=by rw[and_one m hm,h];rfl
theorem and_even {m:Nat} (hm:m<=1000000) (h:¬m%2=1):(bits .and .i64 (m:Int) 1 == 1)=false:=by rw[and_one m hm,show m%2=0 by omega];rfl
theorem aC8 (K:FuncId) (P:Int->Prop) (c0:Int) (hent:∀(args:Array Value) (w:World),(callFunc K args).run Tryz.prog w = .ok (.enter K args) w) (hP1:P 1) (hmono:∀x y:Int,x.natAbs<=y.natAbs->P y->P x) (hlen:∀x,P x->Lt9 60 x) (hok:aFp K P)
 {s:Int} {A:Option Addr} {k c:Nat} {a:Int} (w:World) (n:Nat) (hn:n<=1000000) (H:dS w s A k c a) (hPa:P a) (hbad:P (a^n)\/aFq K P c0) (htab:Tab w):
 Calls Tryz.prog 99 #[.agg #[.int .i64 s,.slice A k c],.int .i64 (n:Int),.func (.func K) #[] #[]] w (aM1 P c0 (a^n) w):=by
 have HT:=Lib.hid (Lib.tabBelow_of_tabIs htab);have HOK:=Lib.hid hok;have HBAD:=Lib.hid hbad;have HMONO:=Lib.hid hmono;have HLEN:=Lib.hid hlen;have HPA:=Lib.hid hPa;have HP1:=Lib.hid hP1;clear htab hok hbad hmono hlen hPa hP1;have hbx:=nT 71 [⟨s,A,k,c⟩,⟨0,none,0,0⟩] w (Nat.le_refl _) (Below.refl _ _);simp only[bxs]at hbx;have HA:=Lib.hid ((Nb.new H 71).alloc (.cells #[.int .i64 0,.slice none 0 0] 71)).bn;have HZ:Hid (Bx1 ((w.alloc (.cells #[.int .i64 s,.slice A k c] 71)).alloc (.cells #[.int .i64 0,.slice none 0 0] 71)) (w.heap.size+1)):=by have h:=Bx1.new (w.alloc (.cells #[.int .i64 s,.slice A k c] 71)) 71;rw[World.size_alloc]at h;exact Lib.hid h
 have HB:=Lib.hid hbx;clear hbx H;go_enter Tryz.func99,Tryz.ntmps99
 go_wp2_with (go_at_call 73;(with_reducible refine(oM 1 _ (by omega) (by omega)).mono ?_);rintro e w1 ⟨s1,A1,k1,c1,rfl,hN1,hb1⟩;refine Hid.out ?_)
 have HA1:=Lib.hid ((HA.out.call hb1).call (below_alloc1 w1 (.cells #[.int .i64 s1,.slice A1 k1 c1] 71)));have HZ1:=Lib.hid ((HZ.out.call hb1).call (below_alloc1 w1 (.cells #[.int .i64 s1,.slice A1 k1 c1] 71)));have hb01:Below w.heap.size w w1:=HB.out.trans (hb1.mono HB.out.size);have HB1:=Lib.hid (hb01.trans ((below_alloc1 w1 (.cells #[.int .i64 s1,.slice A1 k1 c1] 71)).mono hb01.size));have HO1:=Lib.hid (Nb.new hN1 71).bn;have hlo:w.heap.size+1<w1.heap.size:=by have:=hb1.size;simp at this;omega
 clear hb1 hb01 hN1 HA HZ HB;obtain⟨bo,hbo⟩:∃b,w1.heap.size=b:=⟨_,rfl⟩;rw[hbo]at HO1 hlo;refine Lib.hid ?_;go_wp2_with fail
 clear hbo;generalize w1.alloc (.cells #[.int .i64 s1,.slice A1 k1 c1] 71)=W1 at *
 go_loopw [1] (fun v1 wr=>∃(m:Nat) (x b:Int),v1 = .int .i64 (m:Int)/\Hid (m<=1000000)/\Hid (Bn wr w.heap.size b)/\Hid (Bn wr bo x)/\Hid (Bx1 wr (w.heap.size+1))/\Hid (Below w.heap.size w wr)/\Hid (x*b^m=a^n)/\Hid (P x)/\Hid (P b)/\Hid (x≠0\/b=0)) (fun v1 _=>(intOf v1).toNat)
 case atStart=>exact⟨n,1,a,rfl,Lib.hid hn,HA1,HO1,HZ1,HB1,Lib.hid (Int.one_mul _),HP1,HPA,Lib.hid (.inl (by decide))⟩
 case round=>
  obtain⟨m,x,b,rfl,HM,HA2,HO2,HZ2,HB2,HE,HPX,HPB,HNE⟩:=hrel;clear HA1 HO1 HZ1 HB1;obtain⟨sb,Ab,kb,cb,hb⟩:=HA2.out;obtain⟨sx,Ax,kx,cx,hx⟩:=HO2.out;have hkb:kb<=60:=(HLEN.out b HPB.out).kle hb.num;have hkx:kx<=60:=(HLEN.out x HPX.out).kle hx.num;have b0:=hb.c0;have b1:=hb.c1;have x0:=hx.c0;have x1:=hx.c1;have hm6:m<=1000000:=HM.out;by_cases h0:m=0
  ·subst h0;have he:=HE.out;rw[Int.pow_zero,Int.mul_one]at he;obtain⟨sz,Az,kz,cz,nz,hz⟩:=HZ2.out;have z0:=hz.c0;have z1:=hz.c1;have z2:=hz.f0;have z3:=hz.f1;have HXZ:=Lib.hid (Nb.qG hx.num hz);have HEE:=Lib.hid he;clear he;go_wp2
   exact bodyPost_ret (v:=.agg #[.int .i64 sx,.slice Ax kx cx]) (by simp[results,Tryz.results99,go_sem,HXZ.out.c0,HXZ.out.c1]) rfl
    ⟨(HB2.out.setCell (by simp) _).setCell (by simp) _,.inl ⟨by rw[<-HEE.out];exact HPX.out,sx,Ax,kx,cx,rfl,by rw[<-HEE.out];exact HXZ.out.num⟩⟩
  ·(have hm0:1<=m:=by omega);(have hlo2:w.heap.size≠bo:=by omega);(have hlo3:w.heap.size+1≠bo:=by omega);have HLO2:=Lib.hid hlo2;have HLO3:=Lib.hid hlo3;clear hlo2 hlo3 h0
   go_upto_if 15 with(fail)
   go_cut [] (fun wc=>∃x':Int,Hid (Bn wc w.heap.size b)/\Hid (Bn wc bo x')/\Hid (Bx1 wc (w.heap.size+1))/\Hid (Below w.heap.size w wc)/\Hid (P x')/\Hid (x'≠0\/b=0)/\Hid (x'*(b*b)^(m/2)=a^n))
   case first=>
    by_cases hodd:m%2=1
    ·have ha1:=aLX hm6 hodd;have HEO:Hid (x*b*(b*b)^(m/2)=a^n):=Lib.hid (by rw[<-Mw.pow_odd x b m hodd];exact HE.out);have HPL:Hid ((x*b).natAbs<=(a^n).natAbs):=Lib.hid (by rw[<-HE.out];exact Mw.aGM x b m hm0);clear hodd;(go_wp2_with (first|(go_at_call 130;(with_reducible refine(zN _ hx.num hb.num (by omega) (by omega)).mono ?_);rintro e w5 ⟨s5,A5,k5,c5,rfl,hN5,hb5⟩;refine Hid.out ?_)));have hx5:=hx.call hb5;have hbx5:Bx1 w5 bo:=hx5.bx;have hN6:=Nb.qB hN5 hbx5;have HA6:=Lib.hid ((HA2.out.call hb5).kY hbx5 HLO2.out s5 A5 k5 c5);have HZ6:=Lib.hid ((HZ2.out.call hb5).put hbx5 hN5);have HB5:=HB2.out.trans (hb5.mono HB2.out.size);have HB6:=Lib.hid ((HB5.setCell (p:=⟨bo,0,none⟩) (Nat.le_trans (Nat.le_succ _) (Nat.le_of_lt hlo)) (.int .i64 s5)).setCell (p:=⟨bo,1,none⟩) (Nat.le_trans (Nat.le_succ _) (Nat.le_of_lt hlo)) (.slice A5 k5 c5));have hk5:k5<=120:=((HLEN.out x HPX.out).mul (HLEN.out b HPB.out)).kle hN5;have hT6:=HT.out _ HB6.out;have z0:=hx5.c0;have z1:=hx5.c1;have z2:=hx5.f0;have z3:=hx5.f1;have q0:=hN6.c0;have q1:=hN6.c1;clear b0 b1 x0 x1 hb5 HB5 hbx5 hx5 hx hb hN5;by_cases hP:P (x*b)
     ·have HC:=Lib.hid (HOK.out _ hN6.num hP hk5 hT6);have HPP:=Lib.hid hP;clear hT6 hP;refine Lib.hid ?_;go_wp2_with (first|(with_reducible refine HC.out.mono ?_;rintro e w7 ⟨rfl,hb7⟩))
      go_meet
      case rel=>exact⟨x*b,Lib.hid (HA6.out.call hb7),Lib.hid (hN6.bn.call hb7),Lib.hid (HZ6.out.call hb7),Lib.hid (HB6.out.trans (hb7.mono HB6.out.size)),HPP,Lib.hid (Mw.aMu HNE.out),HEO⟩
     ·rcases HBAD.out with h|h;(·exact absurd (HMONO.out _ _ HPL.out h) hP);·have HC:=Lib.hid (h _ hN6.num hP hk5 hT6);have HPN:Hid (¬P (a^n)):=Lib.hid (fun h=>hP (HMONO.out _ _ HPL.out h));clear hT6 hP h;refine Lib.hid ?_;(go_wp2_with (first|(with_reducible refine HC.out.mono ?_;rintro e w7 ⟨rfl,hb7⟩)));exact⟨rfl,HB6.out.trans (hb7.mono HB6.out.size),.inr ⟨HPN.out,rfl⟩⟩
    ·have ha1:=and_even hm6 hodd;have HEO:Hid (x*(b*b)^(m/2)=a^n):=Lib.hid (by rw[<-Mw.pow_even x b m (by omega)];exact HE.out);clear hodd;go_wp2_with fail
     go_meet
     case rel=>exact⟨x,HA2,HO2,HZ2,HB2,HPX,HNE,HEO⟩
   case rest=>
    obtain⟨x',HA3,HO3,HZ3,HB3,HPX3,HNE3,HE3⟩:=hcut;clear b0 b1 x0 x1 hb hx;obtain⟨sb,Ab,kb,cb,hb⟩:=HA3.out;have hkb:kb<=60:=(HLEN.out b HPB.out).kle hb.num;have b0:=hb.c0;have b1:=hb.c1;by_cases h1:1<m
    ·(have h1':(1:Int)<(m:Int):=by omega);have HPS:Hid ((b*b).natAbs<=(a^n).natAbs):=Lib.hid (by rw[<-HE.out];exact Mw.aI7 x b m (by omega) HNE.out);(go_wp2_with (first|(go_at_call 130;(with_reducible refine(zN _ hb.num hb.num (by omega) (by omega)).mono ?_);rintro e w5 ⟨s5,A5,k5,c5,rfl,hN5,hb5⟩;refine Hid.out ?_)));have hx5:=hb.call hb5;have hbx5:Bx1 w5 w.heap.size:=hx5.bx;have hN6:=Nb.qB hN5 hbx5;have HO6:=Lib.hid ((HO3.out.call hb5).kY hbx5 (Ne.symm HLO2.out) s5 A5 k5 c5);have HZ6:=Lib.hid ((HZ3.out.call hb5).put hbx5 hN5);have HB5:=HB3.out.trans (hb5.mono HB3.out.size);have HB6:=Lib.hid ((HB5.setCell (p:=⟨w.heap.size,0,none⟩) (Nat.le_refl _) (.int .i64 s5)).setCell (p:=⟨w.heap.size,1,none⟩) (Nat.le_refl _) (.slice A5 k5 c5));have hk5:k5<=120:=((HLEN.out b HPB.out).mul (HLEN.out b HPB.out)).kle hN5;have hT6:=HT.out _ HB6.out;have z0:=hx5.c0;have z1:=hx5.c1;have z2:=hx5.f0;have z3:=hx5.f1;have q0:=hN6.c0;have q1:=hN6.c1;clear b0 b1 hb5 HB5 hbx5 hx5 hb hN5;by_cases hP:P (b*b);·have HC:=Lib.hid (HOK.out _ hN6.num hP hk5 hT6);have HPP:=Lib.hid hP;clear hT6 hP;refine Lib.hid ?_;(go_wp2_with (first|(with_reducible refine HC.out.mono ?_;rintro e w7 ⟨rfl,hb7⟩)));refine⟨⟨m/2,x',b*b,by simp,Lib.hid (by omega),Lib.hid (hN6.bn.call hb7),Lib.hid (HO6.out.call hb7),Lib.hid (HZ6.out.call hb7),Lib.hid (HB6.out.trans (hb7.mono HB6.out.size)),HE3,HPX3,HPP,Lib.hid ?_⟩,?_⟩;(·exact HNE3.out.imp (fun h=>h) (fun h=>by rw[h];rfl));·simp only[intOf];omega
     ·rcases HBAD.out with h|h;(·exact absurd (HMONO.out _ _ HPS.out h) hP);·have HC:=Lib.hid (h _ hN6.num hP hk5 hT6);have HPN:Hid (¬P (a^n)):=Lib.hid (fun h=>hP (HMONO.out _ _ HPS.out h));clear hT6 hP h;refine Lib.hid ?_;(go_wp2_with (first|(with_reducible refine HC.out.mono ?_;rintro e w7 ⟨rfl,hb7⟩)));exact⟨rfl,HB6.out.trans (hb7.mono HB6.out.size),.inr ⟨HPN.out,rfl⟩⟩
    ·(have h1':¬(1:Int)<(m:Int):=by omega);have HE4:Hid (x'*b^(m/2)=a^n):=Lib.hid (by have h:=HE3.out;rw[show m/2=0 by omega,Int.pow_zero]at h⊢;exact h);(go_wp2_with fail);refine⟨⟨m/2,x',b,by simp,Lib.hid (by omega),HA3,HO3,HZ3,HB3,HE4,HPX3,HPB,HNE3⟩,?_⟩;simp only[intOf];omega
theorem aAa {x:Int}:Mw.gZ x=0<->x.natAbs<10^400:=by rw[Mw.gZ,<-Mw.iZ x.natAbs 400 (by omega)];split<;>omega
theorem aAR {x y:Int} (h:x.natAbs<=y.natAbs) (hy:Mw.gZ y=0):Mw.gZ x=0:=aAa.mpr (Nat.lt_of_le_of_lt h (aAa.mp hy))
theorem zB {x:Int} (h:Mw.gZ x=0):Lt9 45 x:=(mO _ _).mp (aGa h)
end Go.Proofs.YtjieekkkaekclaaGreatDoor
namespace Go.Proofs.YtjieekkkaekclaaGreatDoor
open Go Go.RowKit Go.Shelf Go.Pw.PrintWords
variable {F:Fence} {n:Nat} {P:Program}
def KN (W W':World):Prop:=∀(s:Int) (A:Option Addr) (k c:Nat) (m:Int),dS W s A k c m->dS W' s A k c m
theorem dS.cells {W W':World} {s:Int} {A:Option Addr} {k c:Nat} {m:Int} (h:dS W s A k c m) (hc:∀p v,W.cell? p=some v->W'.cell? p=some v):dS W' s A k c m:=by
 refine⟨h.sign,h.len,h.cap,Kd.lS (d:=0) ⟨h.reads.1,h.reads.2.1,fun h0=>?_⟩⟩;obtain⟨ad,e,_⟩:=Kd.dF h.reads 0 (by omega) (by omega);refine⟨ad,e,fun j hj=>?_⟩;obtain⟨ad',e',hcj⟩:=Kd.dF h.reads j (by omega) (by omega);obtain rfl:ad=ad':=by rw[e]at e';simpa using e'
 simp only[Int.toNat_natCast,rd]at hcj;exact hc _ _ hcj
theorem KN.below {W W':World} (hb:Below W.heap.size W W'):KN W W':=fun _ _ _ _ _ h=>h.below hb
theorem KN.trans {A B C:World} (h:KN A B) (h':KN B C):KN A C:=fun _ _ _ _ _ x=>h' _ _ _ _ _ (h _ _ _ _ _ x)
theorem KN.put {W:World} {b:Nat} (hb:Bx1 W b) (s2:Int) (A2:Option Addr) (k2 c2:Nat):KN W (lT W b s2 A2 k2 c2):=fun _ _ _ _ _ h=>Nb.zS h hb _ _ _ _
theorem KN.grown {W W':World} {row:Option Nat} (hg:W.grownBy W' row) (hrow:∀r,row=some r->∃o:Obj,W.heap[r]?=some o/\o.isCells=false):KN W W':=fun _ _ _ _ _ h=>h.cells (fun _ _ hc=>cell_kept hc hg hrow)
theorem Nb.grown {W W':World} {row:Option Nat} {b:Nat} {s:Int} {A:Option Addr} {k c:Nat} {m:Int} (h:Nb W b s A k c m) (hg:W.grownBy W' row) (hrow:∀r,row=some r->∃o:Obj,W.heap[r]?=some o/\o.isCells=false):Nb W' b s A k c m:=
 ⟨cell_kept h.c0 hg hrow,cell_kept h.c1 hg hrow,(frozen_kept h.c0 hg hrow).trans h.f0,(frozen_kept h.c1 hg hrow).trans h.f1,Nat.lt_of_lt_of_le h.lt hg.size,KN.grown hg hrow _ _ _ _ _ h.num⟩
theorem Bn.grown {W W':World} {row:Option Nat} {b:Nat} {m:Int} (h:Bn W b m) (hg:W.grownBy W' row) (hrow:∀r,row=some r->∃o:Obj,W.heap[r]?=some o/\o.isCells=false):Bn W' b m:=by obtain⟨s,A,k,c,h⟩:=h;exact⟨s,A,k,c,h.grown hg hrow⟩
theorem Own.grown {w W W':World} {row:Option Nat} {v:Value} (h:Own w v W) (hg:W.grownBy W' row) (hrow:∀r,row=some r->∃o:Obj,W.heap[r]?=some o/\o.isCells=false) (hlo:∀r,row=some r->w.heap.size<=r):Own w v W':=
 ⟨cell_kept h.cell hg hrow,(frozen_kept h.cell hg hrow).trans h.frz,Nat.lt_of_lt_of_le h.lt hg.size,h.below.grown hg h.below.size hlo⟩
def KB (B0 Bs:Nat) (W W':World):Prop:=∀(b:Nat) (s:Int) (A:Option Addr) (k c:Nat) (m:Int),(b=Bs\/B0<=b)->Nb W b s A k c m->Nb W' b s A k c m
theorem KB.trans {B0 Bs:Nat} {A B C:World} (h:KB B0 Bs A B) (h':KB B0 Bs B C):KB B0 Bs A C:=fun b s A k c m hb x=>h' b s A k c m hb (h b s A k c m hb x)
theorem KB.grown {B0 Bs:Nat} {W W':World} {row:Option Nat} (hg:W.grownBy W' row) (hrow:∀r,row=some r->∃o:Obj,W.heap[r]?=some o/\o.isCells=false):KB B0 Bs W W':=fun _ _ _ _ _ _ _ h=>h.grown hg hrow
theorem KB.below {B0 Bs:Nat} {W W':World} (hb:Below W.heap.size W W'):KB B0 Bs W W':=fun _ _ _ _ _ _ _ h=>h.call hb
theorem KB.put {B0 Bs:Nat} {W:World} {b:Nat} (hb:Bx1 W b) (hs:b≠Bs) (hl:b<B0) (s2:Int) (A2:Option Addr) (k2 c2:Nat):KB B0 Bs W (lT W b s2 A2 k2 c2):=fun b' _ _ _ _ _ h' h=>h.kY hb (by omega) _ _ _ _
def aJo {α:Type} (B0 Bs:Nat) (I:List α->World->Prop) (xs:List α) (W:World):Exit->Act->World->Prop
 | .normal,_,W'=>KeepsOthers W W'/\KB B0 Bs W W'/\I xs W'
 | _,_,_=>False
def aKF {α:Type} (F:Fence) (n:Nat) (P:Program) (gf:Nat) (lb:Array Value) (encs:α->Array Value) (xs:List α) (B0 Bs:Nat) (S0:World->Prop):Prop:=
 ∀(l:Nat) (J:List α->World->Prop) (W:World),(∀pre W s A k c,J pre W->Bx1 W Bs->J pre (lT W Bs s A k c))->(∀pre W W',J pre W->Below W.heap.size W W'->J pre W')->
  (∀pre x W1,(pre++[x]) <+: xs->J pre W1->YieldAt F (n-1) P l (encs x) W1 fun e W'=>e = .returned (.bool true)/\J (pre++[x]) W'/\W1.heap.size<=W'.heap.size/\KB B0 Bs W1 W')->(∀pre W,J pre W->B0<=W.heap.size)->
  J [] W->S0 W->
  CallsIn F n P gf (#[.func (.yield l) #[] #[]]++lb) W fun e W'=>(∃v,e = .returned v)/\J xs W'
theorem aB9 {α:Type} {g:Operand} {ps:Array Tmp} {assign body:Code} {Q:Exit->Act->World->Prop} {a:Act} {w:World}
 (hro:F.round=none) (h1:1<=n) {gf:Nat} {lb:Array Value} (hg:a.eval g = .func (.func gf) #[] lb) (hFg:F.fn gf) (eg:∀args w,(callFunc gf args).run P w = .ok (.enter gf args) w)
 {encs:α->Array Value} {xs:List α} {Bs:Nat} {S0:World->Prop} (hseq:aKF F (n-1) P gf lb encs xs w.heap.size Bs S0) (hps:∀x,(encs x).size=ps.size)
 (hBs:Bs<w.heap.size) (hS0:S0 w) (hS0b:∀W',Below w.heap.size w W'->S0 W')
 (I:List α->World->Prop) (hI:OwnFrom w.heap.size I) (hIs:∀pre W s A k c,I pre W->Bx1 W Bs->I pre (lT W Bs s A k c)) (hIb:∀pre W W',I pre W->Below W.heap.size W W'->I pre W') (h0:I [] w) (a₁:α->Act)
 (hassign:∀(l:Nat) (x:α) (W:World) (K:Act->World->Prop),K (a₁ x) W->
  assign.wpIn (F.inRound l) (n-1-1) P (Exit.then K (fun _ _ _=>False)) {tmps:=(ps.zip (encs x)).foldl (fun t (p,v)=>t.setIfInBounds p v) a.tmps,defers:=[]} W)
 (hbody:∀(l:Nat) (pre:List α) (x:α) (W:World),(pre++[x]) <+: xs->I pre W->Bs<W.heap.size->body.wpIn (F.inRound l) (n-1-1) P (aJo w.heap.size Bs I (pre++[x]) W) (a₁ x) W)
 (hdone:∀(D:Nat) (W:World),w.heap.size<=D->I xs W->W.heap[D]?=some (.deferred (some []))->Q .normal {a with defers:={target:=.collected D,args:=#[]}::a.defers} W):
 (Code.rangeFunc g ps assign body).wpIn F n P Q a w:=by
 refine wpIn_rangeFunc ?_;intro fn hfn;rw[hro];obtain⟨rec,hrec⟩:∃rec:LoopState->Option Code->Loop,rec=fun st pe=>{state:=st,pending:=pe,fn,tmps:=a.tmps,params:=ps,assign,body,defers:=w.heap.size}:=⟨_,rfl⟩
 obtain⟨W1,hW1⟩:∃W1,(w.alloc (.deferred (some []))).alloc (.loop (rec .ready none))=W1:=⟨_,rfl⟩;have hL1:W1.heap[w.heap.size+1]?=some (.loop (rec .ready none)):=by rw[<-hW1];have:=World.alloc_heap_new (w.alloc (.deferred (some []))) (.loop (rec .ready none));rwa[World.size_alloc]at this
 have hK1:W1.heap[w.heap.size]?=some (.deferred (some [])):=by rw[<-hW1];exact(Below.heap_alloc _ _ _ (by simp)).trans (World.alloc_heap_new w _)
 have hI1:I [] W1:=by rw[<-hW1];exact hI.alloc _ (hI.alloc _ h0)
 have hb1:Below w.heap.size w W1:=by rw[<-hW1];exact((Below.refl _ w).alloc (Nat.le_refl _) _).alloc (by simp) _
 refine⟨w.heap.size+1,[{target:=.collected w.heap.size,args:=#[]}],W1,{target:=.fn (.func gf) lb,args:=#[.func (.yield (w.heap.size+1)) #[] #[]]},W1,gf,
  #[.func (.yield (w.heap.size+1)) #[] #[]]++lb,W1,?_,?_,?_,?_,fun _=>h1,?_⟩
 ·rw[<-hW1,hrec];exact run_enterLoop_outer _ _ _ _ _
 ·simp only[resolve,hg];simp[go_sem]
 ·intro f' hf';simp[Target.leads]at hf';subst hf';exact hFg
 ·simp[invoke,go_sem,eg]
 ·refine(hseq (w.heap.size+1)
   (fun pre W=>I pre W/\W.heap[w.heap.size+1]?=some (.loop (rec .ready none))/\W.heap[w.heap.size]?=some (.deferred (some []))/\Bs<W.heap.size)
   W1
   (fun pre W s A k c hs hx=>⟨hIs pre W s A k c hs.1 hx,(Below.heap_setCell _ _ _ _ (by simp;omega)).trans ((Below.heap_setCell _ _ _ _ (by simp;omega)).trans hs.2.1),(Below.heap_setCell _ _ _ _ (by simp;omega)).trans ((Below.heap_setCell _ _ _ _ (by simp;omega)).trans hs.2.2.1),by simpa using hs.2.2.2⟩)
   (fun pre W W' hs hb=>⟨hIb pre W W' hs.1 hb,(hb.block _ (Array.getElem?_eq_some_iff.1 hs.2.1).1).trans hs.2.1,(hb.block _ (Array.getElem?_eq_some_iff.1 hs.2.2.1).1).trans hs.2.2.1,Nat.lt_of_lt_of_le hs.2.2.2 hb.size⟩)
   ?_ (fun pre W hs=>Nat.le_of_lt (Nat.lt_of_succ_lt (Array.getElem?_eq_some_iff.1 hs.2.1).1)) ⟨hI1,hL1,hK1,Nat.lt_of_lt_of_le hBs hb1.size⟩ (hS0b _ hb1)).mono ?_
  ·rintro pre x W hgx ⟨hi,hl,hk,hbs⟩;have hlt:w.heap.size+1<W.heap.size:=(Array.getElem?_eq_some_iff.1 hl).1;have hy:=run_yield (P:=P) (args:=encs x) hl (by rw[hrec];exact hps x);rw[hrec]at hy;refine⟨fn,_,assign,body,hy,roundIn_of_wpIn hfn (hassign _ x W _ ⟨_,run_beginRound hl (by rw[hrec]),?_⟩)⟩;have hl2:(W.putObj (w.heap.size+1) (.loop {rec .ready none with state:=.busy})).heap[w.heap.size+1]?=some (.loop {rec .ready none with state:=.busy}):=World.putObj_heap_same hlt;have hk2:(W.putObj (w.heap.size+1) (.loop {rec .ready none with state:=.busy})).heap[w.heap.size]?=some (.deferred (some [])):=(World.putObj_heap_other (by omega)).trans hk;have hn2:KB w.heap.size Bs W (W.putObj (w.heap.size+1) (.loop {rec .ready none with state:=.busy})):=KB.grown (grownBy_putObj' W _ _) (fun r e=>by cases e;exact⟨_,hl,rfl⟩);refine wpIn_mono (hbody _ pre x _ hgx (hI.putObj _ hi (by omega) hl rfl) (by simpa using hbs)) ?_;rintro e a3 W3 hp;cases e with
   | normal=>obtain⟨hk3,hn3,hi3⟩:=hp;have hl3:=hk3.same _ _ hl2 rfl;have hr:=run_endRound (P:=P) none hl3;rw[hrec]at hr;have hn4:KB w.heap.size Bs W3 (W3.putObj (w.heap.size+1) (.loop (rec .ready none))):=KB.grown (grownBy_putObj' W3 _ _) (fun r e=>by cases e;exact⟨_,hl3,rfl⟩);rw[hrec]at hn4;(have hsz:W.heap.size<=W3.heap.size:=by have:=hk3.size;simpa using this);refine⟨_,_,hr,rfl,⟨hI.putObj _ hi3 (by omega) hl3 rfl,?_,?_,?_⟩,?_,?_⟩;(·rw[hrec];exact World.putObj_heap_same (Array.getElem?_eq_some_iff.1 hl3).1);(·exact(World.putObj_heap_other (by omega)).trans (hk3.same _ _ hk2 rfl));(·simp;omega);(·simp;omega);·exact(hn2.trans hn3).trans hn4
   | ret=>exact hp.elim
   | exit id=>exact hp.elim
   | goto t=>exact hp.elim
   | panic ch=>exact hp.elim
   | outgrown=>exact hp.elim
  ·rintro e W2 ⟨⟨v,rfl⟩,hi,hl,hk,_⟩;exact⟨none,_,by have:=run_endLoop (P:=P) hl (by rw[hrec];simp);rw[hrec]at this;exact this,hdone _ _ (Nat.le_refl _) (hI.putObj _ hi (by omega) hl rfl) ((World.putObj_heap_other (by omega)).trans hk)⟩
end Go.Proofs.YtjieekkkaekclaaGreatDoor
namespace Go.Proofs.YtjieekkkaekclaaGreatDoor
open Go Go.RowKit Go.Shelf Go.Pw.PrintWords
attribute [local go_sem] Oper.semAt_some
theorem dS.inj {W:World} {s:Int} {A:Option Addr} {k c:Nat} {n m:Int} (h:dS W s A k c n) (h':dS W s A k c m):n=m:=by
 have e:lbs n.natAbs=lbs m.natAbs:=by apply List.ext_getElem (by rw[<-h.len,<-h'.len]);intro i h1 h2;obtain⟨ad,ea,hc⟩:=h.cell (i:=i) (by rw[h.len];exact h1);obtain⟨ad',ea',hc'⟩:=h'.cell (i:=i) (by rw[h'.len];exact h2);(obtain rfl:ad=ad':=by rw[ea]at ea';simpa using ea');rw[hc]at hc';(have e3:(lbs n.natAbs).getD i 0=(lbs m.natAbs).getD i 0:=by simpa using hc');rw[List.getD_eq_getElem?_getD,List.getD_eq_getElem?_getD,List.getElem?_eq_getElem h1,List.getElem?_eq_getElem h2]at e3;simpa using e3
 have e2:(n.natAbs:Int)=m.natAbs:=by rw[<-wD n.natAbs,<-wD m.natAbs,e]
 have h1:=aBy n;have h2:=aBy m;rw[<-h.sign]at h1;rw[<-h'.sign]at h2;rw[<-h1,<-h2,e2]
theorem Bn.inj {W:World} {b:Nat} {n m:Int} (h:Bn W b n) (h':Bn W b m):n=m:=by
 obtain⟨s,A,k,c,h⟩:=h;obtain⟨s',A',k',c',h'⟩:=h';have e0:s=s':=by have:=h.c0.symm.trans h'.c0;simpa using this
 have e1:=h.c1.symm.trans h'.c1;simp only[Option.some.injEq,Value.slice.injEq]at e1;obtain⟨rfl,rfl,rfl⟩:=e1;subst e0;exact h.num.inj h'.num
open Classical in
noncomputable def aBC (W:World) (b:Nat):Nat:=if h:∃t:Nat,Bn W b (t:Int)then Classical.choose h else 0
theorem aA8 {W:World} {b t:Nat} (h:Bn W b (t:Int)):aBC W b=t:=by have hx:∃t:Nat,Bn W b (t:Int):=⟨t,h⟩;unfold aBC;rw[dif_pos hx];have:=(Classical.choose_spec hx).inj h;omega
theorem aEW {s:Int} {A:Option Addr} {k c:Nat} (w:World):Calls Tryz.prog 112 #[.agg #[.int .i64 s,.slice A k c]] w fun e w'=>e = .returned (.func (.func 143) #[] #[.pointer (some ⟨w.heap.size,0,none⟩)])/\w'=w.alloc (.cells #[.int .i64 s,.slice A k c] 71):=by
 have hmf:∀(fn:Fn) (first cap:Array Value) (w:World),(Instr.makeFunc fn first cap).run Tryz.prog w = .ok (.func fn first cap) w:=fun _ _ _ _=>rfl
 go_enter Tryz.func112,Tryz.ntmps112
 go_wp2
 go_ret
 exact⟨rfl,rfl⟩
theorem aFC {s:Int} {A:Option Addr} {k c:Nat} {t:Nat} (w:World) (r:Int) (H:dS w s A k c (t:Int)) (hn:t≠0) (hk:k<=900000) (hr:((t%2:Nat):Int)=r):
 Calls Tryz.prog 119 #[.agg #[.int .i64 s,.slice A k c],.int .i64 2] w fun e w'=>
  ∃s2 A2 k2 c2,e = .returned (.tuple #[.agg #[.int .i64 s2,.slice A2 k2 c2],.int .i64 r])/\dS w' s2 A2 k2 c2 ((t/2:Nat):Int)/\Below w.heap.size w w':=by
 have h:=aCk w 2 H (by omega) hk (by omega) (by omega);rw[Int.natAbs_natCast,show((t:Int)%2)=r by rw[<-hr];rfl,show((t:Int)/2)=((t/2:Nat):Int)from rfl]at h;exact h
theorem aH3 (n:Nat) (hn:1<=n) (B0 Bs m:Nat) (hm:Lt9 45 (m:Int)):
 aKF Fence.wide n Tryz.prog 143 #[.pointer (some ⟨Bs,0,none⟩)] (fun b:Bool=>#[.bool b]) (Mw.hlv m) B0 Bs (fun W=>Bn W Bs (m:Int)):=fun l J W hJp hJb hY hJs h0 hS=>by
 refine callsIn_of_wp Tryz.func143 rfl trivial ?_ rfl;simp only[Tryz.ntmps143,List.size_toArray,List.length_cons,List.length_nil,Nat.reduceAdd,Nat.reduceSub,Array.replicate_succ,Array.replicate_zero,List.push_toArray,List.append_toArray,List.nil_append,List.cons_append]
 gi_wp2
 gi_loopw [] (fun wr=>∃(pre:List Bool) (t:Nat),Hid (Mw.hlv m=pre++Mw.hlv t)/\Hid (Lt9 45 (t:Int))/\Hid (Bn wr Bs (t:Int))/\Hid (J pre wr)) (fun wr=>aBC wr Bs)
 case atStart=>exact⟨[],m,Lib.hid rfl,Lib.hid hm,Lib.hid hS,Lib.hid h0⟩
 case round=>
  obtain⟨pre,t,HX,HL,HB,HJ⟩:=hrel;obtain⟨s1,A1,k1,c1,hb⟩:=HB.out;have hse:=aAC hb.num.sign;have b0:=hb.c0;have b1:=hb.c1;by_cases ht:t=0
  ·subst ht;have hs1:s1=0:=hse.mpr rfl;subst hs1;clear hse
   gi_wp2_with (first|(refine⟨trivial,?_⟩;gi_at_call 70;refine(callsIn_wide.2 (pR 0 _)).mono ?_;rintro e w2 ⟨rfl,rfl⟩))
   go_end0
   have hx:=HX.out;rw[Mw.aDp,List.append_nil]at hx;exact⟨⟨_,rfl⟩,by rw[hx];exact HJ.out⟩
  ·(have hs1:(s1 == 0)=false:=by rw[beq_eq_false_iff_ne];exact fun h=>ht (by have:=hse.mp h;omega));have hk1:k1<=45:=HL.out.kle hb.num;obtain⟨r,hr⟩:∃r:Int,((t%2:Nat):Int)=r:=⟨_,rfl⟩;have HR:=Lib.hid hr;obtain⟨bd,hbd⟩:∃b:Bool,(t%2 == 1)=b:=⟨_,rfl⟩;(have hrb:(r == 1)=bd:=by rw[<-hbd,<-hr,Bool.eq_iff_iff];simp;omega);have HBD:=Lib.hid hbd;clear hbd;have HTN:=Lib.hid ht;clear hse hr ht
   gi_wp2_with (first|(refine⟨trivial,?_⟩;gi_at_call 70;refine(callsIn_wide.2 (pR s1 _)).mono ?_;rintro e w2 ⟨rfl,rfl⟩)|(refine⟨trivial,?_⟩;gi_at_call 119;refine(callsIn_wide.2 (aFC _ r hb.num HTN.out (by omega) HR.out)).mono ?_;rintro e w3 ⟨s4,A4,k4,c4,rfl,hN4,hb3⟩;refine Hid.out ?_))
   have hb5:Below w2.heap.size w2 (w3.alloc (.cells #[.int .i64 s4,.slice A4 k4 c4] 71)):=hb3.alloc hb3.size _;have hJ5:=hJb _ _ _ HJ.out hb5;(have hst:Mw.hlv t=bd::Mw.hlv (t/2):=by rw[Mw.aEV HTN.out,HBD.out]);have hpre:(pre++[bd]) <+: Mw.hlv m:=⟨Mw.hlv (t/2),by rw[HX.out,hst];simp⟩;have hHB:=Nb.new hN4 71;have hBB:=HB.out.call hb5;have hlo:=hJs _ _ HJ.out;have hlo2:B0<=w3.heap.size:=Nat.le_trans hlo hb3.size;(have hne:w3.heap.size≠Bs:=by have:=HB.out.lt;have:=hb3.size;omega);obtain⟨fn,tmps,assign,body,hy,hR⟩:=hY pre bd _ hpre hJ5;have HST:=Lib.hid hst;have HLO:=Lib.hid hlo2;have HNE:=Lib.hid hne;have HPR:=Lib.hid hpre;clear b0 b1 hb hb3 hN4 hst hlo hlo2 hne hpre;obtain⟨bh,hbh⟩:∃b,w3.heap.size=b:=⟨_,rfl⟩;rw[hbh]at hHB HLO HNE;refine Lib.hid ?_
   gi_wp2_with fail
   refine hR.mono ?_;rintro e W6 ⟨rfl,hJ6,hsz,hkb⟩;have hH6:=hkb _ _ _ _ _ _ (.inr HLO.out) hHB;obtain⟨s9,A9,k9,c9,hB6'⟩:=hBB;have hB6:=hkb _ _ _ _ _ _ (.inl rfl) hB6';have x0:=hH6.c0;have x1:=hH6.c1;have y0:=hB6.c0;have y1:=hB6.c1;have y2:=hB6.f0;have y3:=hB6.f1;have HN7:=Lib.hid (Nb.qG hH6.num hB6).bn;have HJ7:=Lib.hid (hJp _ _ s4 A4 k4 c4 hJ6 hB6.bx);have HB6:=Lib.hid hB6.bn;clear hH6 hB6 hB6' hHB hJ6 hkb hsz
   gi_wp2_with fail
   go_roundw
   (case rel=>exact⟨pre++[bd],t/2,Lib.hid (by rw[HX.out,HST.out];simp),Lib.hid (HL.out.mono (by simp only[Int.natAbs_natCast];exact Nat.div_le_self _ _)),HN7,HJ7⟩);case measure=>rw[aA8 HN7.out,aA8 HB.out];exact Nat.div_lt_self (by have:=HTN.out;omega) (by omega)
end Go.Proofs.YtjieekkkaekclaaGreatDoor
namespace Go.Proofs.YtjieekkkaekclaaGreatDoor
open Go Go.RowKit Go.Pw.PrintWords
section
variable {P:Program} {Q:Exit->Act->World->Prop} {ops:Array Oper} {md:Region.Mode} {l n:Nat}
theorem aEP {o:Oper} {a:Act} {w:World} {K:Act->World->Prop} (h:∀c,o.op≠.defer c) (hh:o.wp P a w K Q):o.wpIn (Fence.wide.inRound l) n P a w K Q:=by
 unfold Oper.wpIn;unfold Oper.wp at hh;refine⟨fun _ _=>trivial,?_⟩;rw[Oper.semAt_plain _ _ _ h];generalize(execOp a.eval o).run P w=r at *;cases r with
 | ok x w'=>
  cases x with
  | enter f args=>exact⟨(fun h=>by cases h),CallsIn.inRound l (callsIn_wide.2 hh)⟩
  | row row args=>exact⟨(fun h=>by cases h),fun c cs _=>let⟨v,w',r,s⟩:=hh c cs;⟨v,w',r,stepsIn_wide.2 s⟩⟩
  | value v=>exact hh
  | skip=>exact hh
  | defer d=>exact hh
  | _=>exact hh.elim
 | halt x w'=>cases x<;>first|exact hh|exact hh.elim
theorem aGR {i:Nat} {a:Act} {w:World} {K:Act->World->Prop} (h:∀(i:Nat) (o:Oper) c,ops[i]?=some o->o.op≠.defer c) (hQ:¬LetsOut Q) (hh:wpOp P ops Q i K a w):wpOpIn (Fence.wide.inRound l) n P ops Q i K a w:=by
 unfold wpOpIn;unfold wpOp at hh;cases ho:ops[i]? with
 | none=>rw[ho]at hh;exact hh
 | some o=>rw[ho]at hh;dsimp only at hh⊢;split at hh;(·rw[if_pos ‹_›];rcases hh with h1|h1;(·exact aEP (fun c=>h i o c ho) h1);·exact absurd h1.2 hQ);·rw[if_neg ‹_›];exact⟨fun _ _=>trivial,hh⟩
theorem aGy (h:∀(i:Nat) (o:Oper) c,ops[i]?=some o->o.op≠.defer c) (hQ:¬LetsOut Q):∀(f:Nat) (listed:Array Bool) (a:Act) (w:World),wpAny P md ops Q f listed a w->wpAnyIn (Fence.wide.inRound l) n P md ops Q f listed a w
 | 0,_,_,_,hh=>hh
 | f+1,_,_,_,hh=>⟨hh.1,fun i hi=>aGR h hQ (wpOp_mono (fun a w hw=>aGy h hQ f _ a w hw) (hh.2 i hi))⟩
def aHD (ops:Array Oper):Bool:=ops.toList.all fun o=>match o.op with | .defer _=>false|_=>true
theorem aEQ (h:aHD ops=true):∀(i:Nat) (o:Oper) c,ops[i]?=some o->o.op≠.defer c:=by intro i o c ho e;have:=List.all_eq_true.mp h o (by rw[Array.mem_toList_iff];exact Array.mem_of_getElem? ho);rw[e]at this;cases this
theorem yE {id:Nat} {a:Act} {w:World} {ls:List Oper} (S:World->Prop) (k:Nat) (hm:P.follows .mixedOrders=true) (hnd:aHD ls.toArray=true) (hQ:¬LetsOut Q) (hB:(decide (k<ls.length))=true) (hS:S w.drew)
 (h:S w.drew->GoT P .any ls.toArray Q S k (ls.drop k) k (Array.replicate ls.length false) a w.drew):(Code.region id ls.toArray true).wpIn (Fence.wide.inRound l) n P Q a w:=by
 simp only[decide_eq_true_eq]at hB;refine wpIn_region_any hm (aGy (aEQ hnd) hQ _ _ _ _ ?_)
 have inv0:HeadInv .any ls.toArray k (Array.replicate ls.length false):=
  ⟨by simp,fun j oj _ hl=>(by rw[getD_replicate_false]at hl;cases hl),fun t _ ht=>getD_in (by simpa using ht) (getD_replicate_false _ _)⟩
 have H:=aDJ (g:=(ls.drop k).length) (fun listed a' w' hL=>wpAny_of_seq (md:=.any) (ls.drop k) k listed a' w' (fun j=>by simp[List.getElem?_drop]) hL.1 hL.2) _ _ _ _ (h hS inv0);rw[show k+(ls.drop k).length=ls.toArray.size by simp;omega]at H;have e:Array.replicate ls.toArray.size false=Array.replicate ls.length false:=by simp
 rw[e];exact H
end
section
variable {P:Program}
def aAr (P:Program) (fn:Func) (tmps:Array Value) (R:Ending->World->Prop):List Deferred->FrameMode->World->Prop
 | [],u,w=>Leaves P fn tmps R [] u w
 | d::ds,u,w=>u≠.run/\((∃r w',d.target = .collected r/\(Instr.takeDeferred r).run P w = .ok [] w'/\aAr P fn tmps R ds u w')\/
  (∃fv cap f args,d.target = .fn fv cap/\(invoke d.target d.args).run P w = .ok (.enter f args) w/\
   CallsD P f args u w fun
    | .returned _,u',w'=>aAr P fn tmps R ds (settle u') w'
    | .panicked chain,u',w'=>aAr P fn tmps R ds (raised u' chain) w'
    | .outgrown,_,w'=>R .outgrown w'))
theorem aBg {fn:Func} {tmps:Array Value} {R:Ending->World->Prop}:∀(ds:List Deferred) (u:FrameMode) (w:World),Leaves P fn tmps R ds u w->aAr P fn tmps R ds u w
 | [],_,_,h=>h
 | d::ds,u,w,h=>by
  obtain⟨h1,fv,cap,f,args,h2,h3,h4⟩:=h;refine⟨h1,.inr ⟨fv,cap,f,args,h2,h3,h4.mono ?_⟩⟩;intro e u' w' hh;cases e with
  | returned y=>exact aBg ds _ _ hh
  | panicked c=>exact aBg ds _ _ hh
  | outgrown=>exact hh
theorem zX {fn:Func} {tmps:Array Value} {R:Ending->World->Prop}:∀(ds:List Deferred) (u:FrameMode) (w:World) (fr:Frame)
 (cs:List Frame),fr.mode=u->fr.defers=ds->fr.tmps=tmps->P.funcs[fr.fn]?=some fn->fr.kind = .normal->aAr P fn tmps R ds u w->
 ∃e w' fr',R e w'/\Comes P (lone fr cs w) (lone fr' cs w') e/\fr'.fn=fr.fn/\fr'.leaving P w' e:=by
 intro ds;induction ds with
 | nil=>exact fun u w fr cs hu hd ht hf hk h=>leaves_steps [] u w fr cs hu hd ht hf hk h
 | cons d ds ih=>
  intro u w fr cs hu hd ht hf hk h;obtain⟨hrun,h⟩:=h;rcases h with⟨r,w',htar,htake,hrest⟩|⟨fv,cap,f,args,htar,hinv,hcall⟩;·have h1:=step_collected (cs:=cs) (hu▸hrun) hd htar htake;obtain⟨e',w'',fr',hR',hs',hfn',hl'⟩:=ih u w' {fr with defers:=[]++ds} cs hu rfl ht hf hk hrest;exact⟨e',w'',fr',hR',Comes.of_steps (.one h1) hs',hfn',hl'⟩
  ·have h1:=step_defer (cs:=cs) (hu▸hrun) hd htar hinv;obtain⟨e,u',w',frX,hR,hsteps,hkX,hgo⟩:=hcall {fr with defers:=ds} cs hu;cases e with
   | returned v=>have h2:=step_going_returned (c:={{fr with defers:=ds}with mode:=u'}) (cs:=cs) hkX hgo;obtain⟨e',w'',fr',hR',hs',hfn',hl'⟩:=ih (settle u') w' {{{fr with defers:=ds}with mode:=u'}with mode:=settle u'} cs rfl rfl ht hf hk hR;exact⟨e',w'',fr',hR',Comes.of_steps (.head h1 (Steps.trans hsteps (.one h2))) hs',hfn',hl'⟩
   | panicked chain=>have h2:=step_going_panicked (c:={{fr with defers:=ds}with mode:=u'}) (cs:=cs) hgo;obtain⟨e',w'',fr',hR',hs',hfn',hl'⟩:=ih (raised u' chain) w' {{{fr with defers:=ds}with mode:=u'}with mode:=raised u' chain} cs rfl rfl ht hf hk hR;exact⟨e',w'',fr',hR',Comes.of_steps (.head h1 (Steps.trans hsteps (.one h2))) hs',hfn',hl'⟩
   | outgrown=>exact⟨.outgrown,w',fr,hR,Outgrown.of_steps (.one h1) hsteps,rfl,trivial⟩
def bodyPostC (P:Program) (fn:Func) (R:Ending->World->Prop):Exit->Act->World->Prop
 | .normal,a,w | .ret,a,w=>aAr P fn a.tmps R a.defers .returning w
 | .panic chain,a,w=>aAr P fn a.tmps R a.defers (.panicking chain) w
 | .outgrown,_,w=>R .outgrown w
 | _,_,_=>False
theorem aE1 {f:FuncId} {fn:Func} {c:Code} {args:Array Value} {w:World} {R:Ending->World->Prop}
 (hf:P.funcs[f]?=some fn) (hb:fn.body=some c)
 (h:c.wp P (bodyPostC P fn R) {tmps:=args++Array.replicate (fn.ntmps-args.size) undef,defers:=[]} w):Calls P f args w R:=by
 intro cs
 let b:Frame:={(default:Frame)with fn:=f,kind:=.normal}
 have henter:Frame.enter P f args .normal =
  b.at {tmps:=args++Array.replicate (fn.ntmps-args.size) undef,defers:=[]} [.code c]:=by
  simp[Frame.enter,Frame.at,hf,hb,b]
 obtain⟨e,a',w',hq,harr⟩:=h b [] cs;rw[<-henter]at harr;cases e with
 | normal=>obtain⟨e',w'',fr',hR,hs,hfn,hl⟩:=zX a'.defers .returning w' {b.at a' []with mode:=.returning} cs rfl rfl rfl hf rfl hq;exact⟨e',w'',fr',hR,Comes.of_steps (Steps.trans harr (.one step_end)) hs,hfn,hl⟩
 | ret=>obtain⟨todo,hs₀⟩:=harr;obtain⟨e',w'',fr',hR,hs,hfn,hl⟩:=zX a'.defers .returning w' {b.at a' todo with mode:=.returning} cs rfl rfl rfl hf rfl hq;exact⟨e',w'',fr',hR,Comes.of_steps hs₀ hs,hfn,hl⟩
 | panic chain=>obtain⟨todo,hs₀⟩:=harr;obtain⟨e',w'',fr',hR,hs,hfn,hl⟩:=zX a'.defers (.panicking chain) w' {b.at a' todo with mode:=.panicking chain} cs rfl rfl rfl hf rfl hq;exact⟨e',w'',fr',hR,Comes.of_steps hs₀ hs,hfn,hl⟩
 | exit id=>exact hq.elim
 | goto l=>exact hq.elim
 | outgrown=>exact⟨.outgrown,w',b,hq,harr.resolve_left (by simp[b]),rfl,trivial⟩
end
end Go.Proofs.YtjieekkkaekclaaGreatDoor
