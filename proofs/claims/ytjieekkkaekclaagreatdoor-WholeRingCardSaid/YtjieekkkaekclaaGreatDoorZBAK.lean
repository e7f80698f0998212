/- Lemmas for the claim beside this text. -/
import Derived.Test.YtjieekkkaekclaaGreatDoorZBAD
import Derived.Test.YtjieekkkaekclaaGreatDoorZBAJ
import Derived.Lib.Atoi
import Derived.LoopIn
import Derived.LoopNIn
import Derived.OwnWalkIn
import Derived.RangeFuncCalls
import Derived.RangeFuncNested
import Derived.Shelf.Abstract
import Derived.Shelf.RegionOpen
import Derived.TacticsInMore
import Derived.WalkKit
set_option linter.all false
set_option linter.unusedVariables false
set_option linter.unusedSimpArgs false
set_option maxHeartbeats 2000000
set_option maxRecDepth 100000
namespace Go.Proofs.YtjieekkkaekclaaGreatDoor
open Go.RowKit Go.Pw.PrintWords
theorem xI {n m:Int} (hm:m≠0):(n.tmod m=0\/sgn (n.tmod m)=sgn m->n.fdiv m=n.tdiv m/\n.fmod m=n.tmod m)/\(n.tmod m≠0->sgn (n.tmod m)≠sgn m->n.fdiv m=n.tdiv m-1/\n.fmod m=n.tmod m+m):=by
 have e:=Int.tmod_add_mul_tdiv n m;have hlt:(n.tmod m).natAbs<m.natAbs:=by rw[Int.natAbs_tmod];exact Nat.mod_lt _ (by omega)
 generalize n.tmod m=r at *;generalize n.tdiv m=q at *;rcases Int.lt_or_gt_of_ne hm with h|h
 ·constructor;·intro hc;refine(Int.fdiv_fmod_unique' h).2 ⟨e,by omega,?_⟩;rcases hc with hc|hc;(·omega);·rcases fP r with⟨e1,h1⟩|⟨e1,h1⟩|⟨e1,h1⟩<;>rcases fP m with⟨e2,h2⟩|⟨e2,h2⟩|⟨e2,h2⟩<;>omega
  ·intro h0 hc
   refine(Int.fdiv_fmod_unique' h).2 ⟨by rw[Int.mul_sub,Int.mul_one];omega,?_,?_⟩<;>
    rcases fP r with⟨e1,h1⟩|⟨e1,h1⟩|⟨e1,h1⟩<;>rcases fP m with⟨e2,h2⟩|⟨e2,h2⟩|⟨e2,h2⟩<;>omega
 ·constructor;·intro hc;refine(Int.fdiv_fmod_unique h).2 ⟨e,?_,by omega⟩;rcases hc with hc|hc;(·omega);·rcases fP r with⟨e1,h1⟩|⟨e1,h1⟩|⟨e1,h1⟩<;>rcases fP m with⟨e2,h2⟩|⟨e2,h2⟩|⟨e2,h2⟩<;>omega
  ·intro h0 hc
   refine(Int.fdiv_fmod_unique h).2 ⟨by rw[Int.mul_sub,Int.mul_one];omega,?_,?_⟩<;>
    rcases fP r with⟨e1,h1⟩|⟨e1,h1⟩|⟨e1,h1⟩<;>rcases fP m with⟨e2,h2⟩|⟨e2,h2⟩|⟨e2,h2⟩<;>omega
theorem dS.aDk {w:World} {s:Int} {A:Option Addr} {k c:Nat} {n:Int} (h:dS w s A k c n) {N:Nat} {K:Nat} (hN:N<1000000000^K) (hn:n.natAbs<=N):k<=K:=by rw[h.len,mO];omega
theorem dS.aA9 {w w':World} {s s':Int} {A A':Option Addr} {k c k' c':Nat} {n m:Int} (h:dS w s A k c n) (h':dS w' s' A' k' c' m) (hn:n.natAbs<=m.natAbs):k<=k':=by rw[h.len,h'.len];exact yO hn
theorem vL {s s':Int} {A A':Option Addr} {k c k' c':Nat} {n m:Int} (w:World) (H:dS w s A k c n) (H':dS w s' A' k' c' m) (hm:m≠0) (hk:k<=800000) (hk':k'<=800000):
 Calls Tryz.prog 75 #[.agg #[.int .i64 s,.slice A k c],.agg #[.int .i64 s',.slice A' k' c']] w fun e w'=>
  ∃s2 A2 k2 c2 s3 A3 k3 c3,e = .returned (.tuple #[.agg #[.int .i64 s2,.slice A2 k2 c2],.agg #[.int .i64 s3,.slice A3 k3 c3]])/\dS w' s2 A2 k2 c2 (n.fdiv m)/\dS w' s3 A3 k3 c3 (n.fmod m)/\Below w.heap.size w w':=by
 have F0:=yJ 71 [⟨s,A,k,c⟩,⟨s',A',k',c'⟩,⟨0,none,0,0⟩,⟨0,none,0,0⟩] w;have hb0:=nT 71 [⟨s,A,k,c⟩,⟨s',A',k',c'⟩,⟨0,none,0,0⟩,⟨0,none,0,0⟩] w (Nat.le_refl _) (Below.refl _ _);simp only[bxs]at F0 hb0;have H1:=H.below hb0;have H1':=H'.below hb0;have HB:=Lib.hid hb0;have HF:=Lib.hid F0;have HM:=Lib.hid H1;have HM':=Lib.hid H1';have HV:=Lib.hid (xI (n:=n) hm);have HS:=Lib.hid H.sign;have HS':=Lib.hid H'.sign;clear F0 hb0;go_enter Tryz.func75,Tryz.ntmps75
 go_upto_region 2 with(first|(go_at_call 80;(with_reducible refine(aAg _ H1 H1' hm hk hk').mono ?_);rintro e w1 ⟨s2,A2,k2,c2,s3,A3,k3,c3,rfl,hN2,hN3,hb1⟩))
 have HB1:=Lib.hid hb1;have HN2:=Lib.hid hN2;have HN3:=Lib.hid hN3;have hw1:w.heap.size+4<=w1.heap.size:=by have:=hb1.size;simp at this;omega
 refine nE (fun W=>Hid (Fr W w.heap.size [⟨s,A,k,c⟩,⟨s',A',k',c'⟩,⟨0,none,0,0⟩,⟨0,none,0,0⟩])/\Hid (Fr W w1.heap.size [⟨s2,A2,k2,c2⟩,⟨s3,A3,k3,c3⟩])/\Hid (Below w1.heap.size w1 W)) ⟨Lib.hid ?_,Lib.hid (yJ _ [⟨s2,A2,k2,c2⟩,⟨s3,A3,k3,c3⟩] w1),Lib.hid (nT _ [⟨s2,A2,k2,c2⟩,⟨s3,A3,k3,c3⟩] w1 (Nat.le_refl _) (Below.refl _ _))⟩ ?_;·exact((HF.out.call (by simp;omega) hb1).call (by omega) (nT _ [⟨s2,A2,k2,c2⟩,⟨s3,A3,k3,c3⟩] w1 (Nat.le_refl _) (Below.refl _ _)))
 clear hN2 hN3 hb1;rintro W2 ⟨FA,FB,HB2⟩;have hs2:w1.heap.size<=W2.heap.size:=HB2.out.size;have HBW:Hid (Below w.heap.size w W2):=Lib.hid ((HB.out.trans (HB1.out.mono HB.out.size)).trans (HB2.out.mono (by omega)));have K2:=Lib.hid (HN2.out.below HB2.out);have K3:=Lib.hid (HN3.out.below HB2.out);have KM:=Lib.hid ((HM'.out.below HB1.out).below HB2.out);obtain⟨⟨a0,a1,-,-⟩,⟨b0,b1,-,-⟩,⟨r0,r1,f0,f1⟩,⟨t0,t1,g0,g1⟩⟩:=FA.out.c4;obtain⟨⟨x0,x1,x2,x3⟩,⟨y0,y1,y2,y3⟩⟩:=FB.out.c2;by_cases e0:s3=0
 ·subst e0;have HVV:=Lib.hid (HV.out.1 (.inl (by rcases fP (n.tmod m)with⟨e1,h1⟩|⟨e1,h1⟩|⟨e1,h1⟩<;>have:=HN3.out.sign<;>omega)));(go_wp2_with fail);obtain⟨HX,HY,HZ,hz_⟩:=uZ (g:=w.heap.size+1+1) K2.out K3.out ⟨r0,r1⟩ ⟨t0,t1⟩ w HBW.out (by omega);have HZZ:=Lib.hid hz_;clear hz_;obtain⟨-,-,⟨r0,r1,f0,f1⟩,⟨t0,t1,g0,g1⟩⟩:=(FA.out.drew (by omega)).c4;obtain⟨⟨x0,x1,-,-⟩,⟨y0,y1,-,-⟩⟩:=(FB.out.drew (by omega)).c2;(go_region);(go_wp2);obtain⟨z0,z1,z2,z3⟩:=HZZ.out
  exact bodyPost_ret (v:=.tuple #[.agg #[.int .i64 s2,.slice A2 k2 c2],.agg #[.int .i64 0,.slice A3 k3 c3]]) (by simp[results,Tryz.results75,go_sem,z0,z1,z2,z3]) rfl
   ⟨_,_,_,_,_,_,_,_,rfl,by rw[HVV.out.1];exact HX.out.drew,by rw[HVV.out.2];exact HY.out.drew,bN HZ.out⟩
 ·(have e0':(s3 != 0)=true:=by simpa using e0);by_cases e1:s3=s'
  ·subst e1;have HVV:=Lib.hid (HV.out.1 (.inr (HN3.out.sign.symm.trans HS'.out)));(go_wp2_with fail);obtain⟨HX,HY,HZ,hz_⟩:=uZ (g:=w.heap.size+1+1) K2.out K3.out ⟨r0,r1⟩ ⟨t0,t1⟩ w HBW.out (by omega);have HZZ:=Lib.hid hz_;clear hz_;obtain⟨-,-,⟨r0,r1,f0,f1⟩,⟨t0,t1,g0,g1⟩⟩:=(FA.out.drew (by omega)).c4;obtain⟨⟨x0,x1,-,-⟩,⟨y0,y1,-,-⟩⟩:=(FB.out.drew (by omega)).c2;(go_region);(go_wp2);obtain⟨z0,z1,z2,z3⟩:=HZZ.out
   exact bodyPost_ret (v:=.tuple #[.agg #[.int .i64 s2,.slice A2 k2 c2],.agg #[.int .i64 s3,.slice A3 k3 c3]]) (by simp[results,Tryz.results75,go_sem,z0,z1,z2,z3]) rfl
    ⟨_,_,_,_,_,_,_,_,rfl,by rw[HVV.out.1];exact HX.out.drew,by rw[HVV.out.2];exact HY.out.drew,bN HZ.out⟩
  ·(have e1':(s3 != s')=true:=by simpa using e1);have HVV:=Lib.hid (HV.out.2 (fun h0=>e0 (by rw[HN3.out.sign,h0];rfl)) (fun h=>e1 (by rw[HN3.out.sign,h,HS'.out])));have l2:k2<=k:=HN2.out.aA9 H (by rw[Int.natAbs_tdiv];exact Nat.div_le_self _ _);have l3:k3<=k:=HN3.out.aA9 H (by rw[Int.natAbs_tmod];exact Nat.mod_le _ _);(go_wp2_with fail);obtain⟨⟨x0,x1,x2,x3⟩,⟨y0,y1,y2,y3⟩⟩:=(FB.out.drew (by omega)).c2;obtain⟨⟨a0,a1,-,-⟩,⟨b0,b1,-,-⟩,⟨r0,r1,f0,f1⟩,⟨t0,t1,g0,g1⟩⟩:=(FA.out.drew (by omega)).c4;have hS0:W2.drew.cell? ⟨w1.heap.size,0,none⟩=some (.int .i64 s2)/\W2.drew.cell? ⟨w1.heap.size,1,none⟩=some (.slice A2 k2 c2)/\W2.drew.cell? ⟨w1.heap.size+1,0,none⟩=some (.int .i64 s3)/\W2.drew.cell? ⟨w1.heap.size+1,1,none⟩=some (.slice A3 k3 c3)/\W2.drew.cell? ⟨w.heap.size+1,0,none⟩=some (.int .i64 s')/\W2.drew.cell? ⟨w.heap.size+1,1,none⟩=some (.slice A' k' c'):=⟨x0,x1,y0,y1,b0,b1⟩;refine jT (fun w'=>w'.cell? ⟨w1.heap.size,0,none⟩=some (.int .i64 s2)/\w'.cell? ⟨w1.heap.size,1,none⟩=some (.slice A2 k2 c2)/\w'.cell? ⟨w1.heap.size+1,0,none⟩=some (.int .i64 s3)/\w'.cell? ⟨w1.heap.size+1,1,none⟩=some (.slice A3 k3 c3)/\w'.cell? ⟨w.heap.size+1,0,none⟩=some (.int .i64 s')/\w'.cell? ⟨w.heap.size+1,1,none⟩=some (.slice A' k' c')) 10 (by kernel_rfl) (by kernel_rfl) hS0 (fun hHeld=>?_);refine Zq.tq 0 rfl ?_;refine Zq.tq 1 rfl ?_;refine Zq.tq 2 rfl ?_;refine Zq.tq 5 rfl ?_;refine Zq.tq 6 rfl ?_;refine Zq.tq 7 rfl ?_;refine Zq.tq 8 rfl ?_;refine eX 3 rfl (by decide +kernel) (fun K_ hK=>?_);go_simp
   refine(oM 1 _ (by omega) (by omega)).mono ?_;rintro e w4 ⟨s4,A4,k4,c4,rfl,hN4,hb4⟩;have HB4:Hid (Below W2.heap.size W2 w4):=Lib.hid (fK hb4);have l4:k4<=1:=hN4.aDk (N:=1) (K:=1) (by decide) (by decide);have KA:=K2.out.below HB4.out;clear hb4 x0 x1 x2 x3 y0 y1 y2 y3 a0 a1 b0 b1 r0 r1 f0 f1 t0 t1 g0 g1;obtain⟨⟨x0,x1,-,-⟩,⟨y0,y1,-,-⟩⟩:=(FB.out.call (by omega) HB4.out).c2;obtain⟨-,⟨b0,b1,-,-⟩,-,-⟩:=(FA.out.call (by omega) HB4.out).c4;(go_wp2_with fail);refine hK.out _ _ ⟨x0,x1,y0,y1,b0,b1⟩ (fun hHeld=>?_);clear hK;(try simp only[Act.put,Zq.a1,Zq.a2,Zq.a3]);refine eX 4 rfl (by decide +kernel) (fun K_ hK=>?_);go_simp;refine(aFu _ KA hN4 (by omega) (by omega)).mono ?_;rintro e w5 ⟨s5,A5,k5,c5,rfl,hN5,hb5⟩;have HB5:=Lib.hid (HB4.out.trans (hb5.mono HB4.out.size));have KD:=K3.out.below HB5.out;have KE:=KM.out.below HB5.out;have HN5:=Lib.hid hN5;clear hN5 hb5 KA hN4 x0 x1 y0 y1 b0 b1;obtain⟨⟨x0,x1,-,-⟩,⟨y0,y1,-,-⟩⟩:=(FB.out.call (by omega) HB5.out).c2;obtain⟨-,⟨b0,b1,-,-⟩,-,-⟩:=(FA.out.call (by omega) HB5.out).c4;(go_wp2_with fail);refine hK.out _ _ ⟨x0,x1,y0,y1,b0,b1⟩ (fun hHeld=>?_);clear hK;(try simp only[Act.put,Zq.a1,Zq.a2,Zq.a3]);refine eX 9 rfl (by decide +kernel) (fun K_ hK=>?_);go_simp;refine(aFv _ KD KE (by omega) (by omega)).mono ?_;rintro e w6 ⟨s6,A6,k6,c6,rfl,hN6,hb6⟩;have HB6:=Lib.hid (HB5.out.trans (hb6.mono HB5.out.size));have HN6:=Lib.hid hN6;have HN5':=Lib.hid (HN5.out.below hb6);clear hN6 hb6 KD KE x0 x1 y0 y1 b0 b1;have FB6:=Lib.hid (FB.out.call (by omega) HB6.out)
   have FA6:=Lib.hid (FA.out.call (by omega) HB6.out);obtain⟨⟨x0,x1,x2,x3⟩,⟨y0,y1,y2,y3⟩⟩:=FB6.out.c2;obtain⟨-,⟨b0,b1,-,-⟩,-,-⟩:=FA6.out.c4;(go_wp2_with fail);refine hK.out _ _ ⟨x0,x1,y0,y1,b0,b1⟩ (fun hHeld=>?_);clear hK;(try simp only[Act.put,Zq.a1,Zq.a2,Zq.a3]);refine mF (by decide +kernel) ?_;(go_wp2_with fail);have F1:=Fr.put s5 A5 k5 c5 0 FB6.out;have F2:=Lib.hid (Fr.put s6 A6 k6 c6 1 F1);have N5:=Lib.hid ((HN5'.out.put FB6.out 0 (by simp) s5 A5 k5 c5).put F1 1 (by simp) s6 A6 k6 c6);have N6:=Lib.hid ((HN6.out.put FB6.out 0 (by simp) s5 A5 k5 c5).put F1 1 (by simp) s6 A6 k6 c6);have B6:Hid (Below w.heap.size w w6):=Lib.hid (HBW.out.trans (HB6.out.mono HBW.out.size));have hle:w.heap.size+4<=w1.heap.size:=hw1
   refine nE (fun W=>Hid (Fr W w.heap.size [⟨s,A,k,c⟩,⟨s',A',k',c'⟩,⟨0,none,0,0⟩,⟨0,none,0,0⟩])/\Hid (Fr W w1.heap.size [⟨s5,A5,k5,c5⟩,⟨s6,A6,k6,c6⟩])/\Hid (dS W s5 A5 k5 c5 (n.tdiv m-1))/\Hid (dS W s6 A6 k6 c6 (n.tmod m+m))/\Hid (Below w.heap.size w W))
    ⟨Lib.hid (zC (zC (zC (zC FA6.out (.inr (by simp;omega))) (.inr (by simp;omega))) (.inr (by simp;omega))) (.inr (by simp;omega))),F2,N5,N6,Lib.hid (aAY (B:=w1.heap.size) (i:=1) (aAY (B:=w1.heap.size) (i:=0) B6.out (by omega) s5 A5 k5 c5) (by omega) s6 A6 k6 c6)⟩ ?_
   clear F1 F2 N5 N6 x0 x1 x2 x3 y0 y1 y2 y3 b0 b1 hHeld;rintro W7 ⟨GA,GB,M5,M6,GW⟩;have hs7:w.heap.size<=W7.heap.size:=GW.out.size;obtain⟨⟨a0,a1,-,-⟩,⟨b0,b1,-,-⟩,⟨r0,r1,f0,f1⟩,⟨t0,t1,g0,g1⟩⟩:=GA.out.c4;obtain⟨⟨x0,x1,x2,x3⟩,⟨y0,y1,y2,y3⟩⟩:=GB.out.c2;(have hs8:w1.heap.size<=W7.heap.size:=by have:=GB.out.1.2.2.2.2;omega);obtain⟨HX,HY,HZ,hz_⟩:=uZ (g:=w.heap.size+1+1) M5.out M6.out ⟨r0,r1⟩ ⟨t0,t1⟩ w GW.out (by omega);have HZZ:=Lib.hid hz_;clear hz_;obtain⟨-,-,⟨r0,r1,f0,f1⟩,⟨t0,t1,g0,g1⟩⟩:=(GA.out.drew (by omega)).c4;obtain⟨⟨x0,x1,-,-⟩,⟨y0,y1,-,-⟩⟩:=(GB.out.drew (by omega)).c2;(go_region);(go_wp2);obtain⟨z0,z1,z2,z3⟩:=HZZ.out
   exact bodyPost_ret (v:=.tuple #[.agg #[.int .i64 s5,.slice A5 k5 c5],.agg #[.int .i64 s6,.slice A6 k6 c6]]) (by simp[results,Tryz.results75,go_sem,z0,z1,z2,z3]) rfl
    ⟨_,_,_,_,_,_,_,_,rfl,by rw[HVV.out.1];exact HX.out.drew,by rw[HVV.out.2];exact HY.out.drew,bN HZ.out⟩
theorem below_alloc1 (W:World) (o:Obj):Below W.heap.size W (W.alloc o):=bA (Below.refl _ _) o
theorem zR {s s':Int} {A A':Option Addr} {k c k' c':Nat} {n m:Int} (g cp:Nat) (w:World) (H:dS w s A k c n) (H':dS w s' A' k' c' m) (hk:k<=400000) (hk':k'<=400000) (h64:k<64\/k'<64)
 (q0:w.cell? ⟨g,0,none⟩=some (.int .i64 s)) (q1:w.cell? ⟨g,1,none⟩=some (.slice A k c)) (q2:w.cell? ⟨g,2,none⟩=some (.int .i64 s')) (q3:w.cell? ⟨g,3,none⟩=some (.slice A' k' c')):
 Calls Tryz.prog 101 #[.slice (some ⟨g,0,none⟩) 2 cp] w fun e w'=>
  ∃s2 A2 k2 c2,e = .returned (.agg #[.int .i64 s2,.slice A2 k2 c2])/\dS w' s2 A2 k2 c2 (n*m)/\Below w.heap.size w w':=by
 have F0:=Lib.hid (yJ 71 [⟨0,none,0,0⟩] w);have hb0:=Lib.hid (nT 71 [⟨0,none,0,0⟩] w (Nat.le_refl _) (Below.refl _ _));have HN:=Lib.hid H;have HM:=Lib.hid H';have Q0:=Lib.hid q0;have Q1:=Lib.hid q1;have Q2:=Lib.hid q2;have Q3:=Lib.hid q3;clear H H' q0 q1 q2 q3;go_enter Tryz.func101,Tryz.ntmps101
 go_wp2_with (go_at_call 73;(with_reducible refine(oM 1 _ (by omega) (by omega)).mono ?_);rintro e w1 ⟨s1,A1,k1,c1,rfl,hN1,hb1⟩;refine Hid.out ?_)
 have hb1':Below w.heap.size w w1:=hb0.out.trans (hb1.mono hb0.out.size);have hw1:w.heap.size+1<=w1.heap.size:=by have:=hb1.size;simp at this;omega
 have l1:k1<=1:=hN1.aDk (N:=1) (K:=1) (by decide) (by decide);have FR:=Lib.hid ((F0.out.call (by simp[bxs]) hb1).alloc (by omega) (.cells #[.int .i64 s1,.slice A1 k1 c1] 71));have FO:=Lib.hid (yJ 71 [⟨s1,A1,k1,c1⟩] w1);have N1:=Lib.hid (hN1.below (below_alloc1 w1 (.cells #[.int .i64 s1,.slice A1 k1 c1] 71)));have BW:=Lib.hid (hb1'.trans ((below_alloc1 w1 (.cells #[.int .i64 s1,.slice A1 k1 c1] 71)).mono hb1'.size));clear hN1 hb1 hb1';refine Lib.hid ?_;go_wp2_with fail
 go_loopw [9] (fun v9 wr=>∃(j:Nat) (s3:Int) (A3:Option Addr) (k3 c3:Nat),j<=2/\v9 = .int .i64 j/\Hid (Fr wr w.heap.size [⟨0,none,0,0⟩])/\Hid (Fr wr w1.heap.size [⟨s3,A3,k3,c3⟩])/\Hid (dS wr s3 A3 k3 c3 (if j=0 then 1 else if j=1 then n else n*m))/\Hid (Below w.heap.size w wr)) (fun v9 _=>2-(intOf v9).toNat)
 case atStart=>exact⟨0,s1,A1,k1,c1,by omega,rfl,FR,FO,N1,BW⟩
 case round=>
  obtain⟨j,s3,A3,k3,c3,hj,rfl,FR,FO,N3,BW⟩:=hrel;clear N1;have hsr:w.heap.size<=wr.heap.size:=BW.out.size;have hso:w1.heap.size<wr.heap.size:=FO.out.1.2.2.2.2;(have hj3:j=0\/j=1\/j=2:=by omega);obtain⟨o0,o1,o2,o3⟩:=FO.out.c1;have FO':=Lib.hid (FO.out.alloc (by omega) (.cells #[.int .i64 s,.slice A k c] 71));have FO2':=Lib.hid (FO.out.alloc (by omega) (.cells #[.int .i64 s',.slice A' k' c'] 71));rcases hj3 with rfl|rfl|rfl
  ·have p0:=nH BW.out Q0.out;have p1:=nH BW.out Q1.out;rw[if_pos rfl]at N3;have hl:k3<=1:=N3.out.aDk (N:=1) (K:=1) (by decide) (by decide);have NA:=N3.out.below (below_alloc1 wr (.cells #[.int .i64 s,.slice A k c] 71));have NB:=(HN.out.below BW.out).below (below_alloc1 wr (.cells #[.int .i64 s,.slice A k c] 71));(go_wp2_with (go_at_call 130;(with_reducible refine(zN _ NA NB (by omega) (by omega)).mono ?_);rintro e w5 ⟨s5,A5,k5,c5,rfl,hN5,hb5⟩;refine Hid.out ?_));(have hw5:wr.heap.size+1<=w5.heap.size:=by have:=hb5.size;simp at this;omega);have F5:=(FO.out.alloc (by omega) (.cells #[.int .i64 s,.slice A k c] 71)).call (by simp;omega) hb5;have G5:=(FR.out.alloc (by omega) (.cells #[.int .i64 s,.slice A k c] 71)).call (by simp;omega) hb5;have B5:=BW.out.trans (((below_alloc1 wr (.cells #[.int .i64 s,.slice A k c] 71)).trans (hb5.mono (by simp))).mono hsr);have FP:=Lib.hid (Fr.put s5 A5 k5 c5 0 F5);have GP:=Lib.hid (zC (o:=1) (v:=.slice A5 k5 c5) (zC (g:=w1.heap.size) (o:=0) (v:=.int .i64 s5) G5 (.inr (by simp;omega))) (.inr (by simp;omega)));have NP:=Lib.hid (hN5.put F5 0 (by simp) s5 A5 k5 c5);have BP:=Lib.hid (aAY (B:=w1.heap.size) (i:=0) B5 (by omega) s5 A5 k5 c5);obtain⟨o0,o1,o2,o3⟩:=F5.c1;clear hN5 hb5 G5 B5 F5 NA NB;refine Lib.hid ?_;(go_wp2_with fail);refine⟨⟨1,s5,A5,k5,c5,by omega,by go_num,GP,FP,?_,BP⟩,?_⟩;(·rw[if_neg (by omega),if_pos rfl];have h:=NP.out;rw[Int.one_mul]at h;exact Lib.hid h);·simp[intOf]
  ·have p0:=nH BW.out Q2.out;have p1:=nH BW.out Q3.out;rw[if_neg (by omega),if_pos rfl]at N3;have hl:k3<=k:=Nat.le_of_eq (N3.out.len.trans HN.out.len.symm);have NA:=N3.out.below (below_alloc1 wr (.cells #[.int .i64 s',.slice A' k' c'] 71));have NB:=(HM.out.below BW.out).below (below_alloc1 wr (.cells #[.int .i64 s',.slice A' k' c'] 71));(go_wp2_with (go_at_call 130;(with_reducible refine(zN _ NA NB (by omega) (by omega)).mono ?_);rintro e w5 ⟨s5,A5,k5,c5,rfl,hN5,hb5⟩;refine Hid.out ?_));(have hw5:wr.heap.size+1<=w5.heap.size:=by have:=hb5.size;simp at this;omega);have F5:=(FO.out.alloc (by omega) (.cells #[.int .i64 s',.slice A' k' c'] 71)).call (by simp;omega) hb5;have G5:=(FR.out.alloc (by omega) (.cells #[.int .i64 s',.slice A' k' c'] 71)).call (by simp;omega) hb5;have B5:=BW.out.trans (((below_alloc1 wr (.cells #[.int .i64 s',.slice A' k' c'] 71)).trans (hb5.mono (by simp))).mono hsr);have FP:=Lib.hid (Fr.put s5 A5 k5 c5 0 F5);have GP:=Lib.hid (zC (o:=1) (v:=.slice A5 k5 c5) (zC (g:=w1.heap.size) (o:=0) (v:=.int .i64 s5) G5 (.inr (by simp;omega))) (.inr (by simp;omega)));have NP:=Lib.hid (hN5.put F5 0 (by simp) s5 A5 k5 c5);have BP:=Lib.hid (aAY (B:=w1.heap.size) (i:=0) B5 (by omega) s5 A5 k5 c5);obtain⟨o0,o1,o2,o3⟩:=F5.c1;clear hN5 hb5 G5 B5 F5 NA NB;refine Lib.hid ?_;(go_wp2_with fail);refine⟨⟨2,s5,A5,k5,c5,by omega,by go_num,GP,FP,?_,BP⟩,?_⟩;(·rw[if_neg (by omega),if_neg (by omega)];exact NP);·simp[intOf]
  ·rw[if_neg (by omega),if_neg (by omega)]at N3;obtain⟨z0,z1,z2,z3⟩:=FR.out.c1;obtain⟨HN1,hA,hBc⟩:=lY N3.out z0 z1;(go_wp2);exact bodyPost_ret (v:=.agg #[.int .i64 s3,.slice A3 k3 c3]) (by simp[results,Tryz.results101,go_sem,hA,hBc]) rfl ⟨s3,A3,k3,c3,rfl,HN1.out,(BW.out.setCell (by simp) _).setCell (by simp) _⟩
end Go.Proofs.YtjieekkkaekclaaGreatDoor
namespace Go.Proofs.YtjieekkkaekclaaGreatDoor
open Go Go.RowKit Go.Shelf
variable {F:Fence} {n:Nat} {P:Program}
def aL9 {α:Type} (Bs:Nat) (I:List α->World->Prop) (xs:List α) (W:World):Exit->Act->World->Prop
 | .normal,_,W'=>KeepsOthers W W'/\(W'.cell? ⟨Bs,0,none⟩=W.cell? ⟨Bs,0,none⟩/\W'.frozen? ⟨Bs,0,none⟩=W.frozen? ⟨Bs,0,none⟩)/\I xs W'
 | _,_,_=>False
theorem vO {W:World} {l b o:Nat} {x:Obj} (h:b≠l):(W.putObj l x).cell? ⟨b,o,none⟩=W.cell? ⟨b,o,none⟩/\(W.putObj l x).frozen? ⟨b,o,none⟩=W.frozen? ⟨b,o,none⟩:=
 ⟨World.cell?_of_block (World.putObj_heap_other h),World.frozen?_of_block (World.putObj_heap_other h)⟩
def aHM {α:Type} (F:Fence) (n:Nat) (P:Program) (gf:Nat) (lb:Array Value) (encs:α->Array Value) (xs:List α) (Bs:Nat) (v0:Value):Prop:=
 ∀(l:Nat) (J:List α->World->Prop) (W:World),(∀pre W v,J pre W->J pre (W.setCell ⟨Bs,0,none⟩ v))->(∀pre W,J pre W->J pre W.drew)->(∀pre W o,J pre W->J pre (W.alloc o))->
  (∀pre x W1,(pre++[x]) <+: xs->J pre W1->YieldAt F (n-1) P l (encs x) W1 fun e W'=>e = .returned (.bool true)/\J (pre++[x]) W'/\W1.heap.size<=W'.heap.size/\W'.cell? ⟨Bs,0,none⟩=W1.cell? ⟨Bs,0,none⟩/\W'.frozen? ⟨Bs,0,none⟩=W1.frozen? ⟨Bs,0,none⟩)->
  J [] W->W.cell? ⟨Bs,0,none⟩=some v0->W.frozen? ⟨Bs,0,none⟩=false->
  CallsIn F n P gf (#[.func (.yield l) #[] #[]]++lb) W fun e W'=>(∃v,e = .returned v)/\J xs W'
theorem yK {α:Type} {g:Operand} {ps:Array Tmp} {assign body:Code} {Q:Exit->Act->World->Prop} {a:Act} {w:World}
 (hro:F.round=none) (h1:1<=n) {gf:Nat} {lb:Array Value} (hg:a.eval g = .func (.func gf) #[] lb) (hFg:F.fn gf) (eg:∀args w,(callFunc gf args).run P w = .ok (.enter gf args) w)
 {encs:α->Array Value} {xs:List α} {Bs:Nat} {v0:Value} (hseq:aHM F (n-1) P gf lb encs xs Bs v0) (hps:∀x,(encs x).size=ps.size)
 (hBs:Bs<w.heap.size) (hv0:w.cell? ⟨Bs,0,none⟩=some v0) (hf0:w.frozen? ⟨Bs,0,none⟩=false)
 (I:List α->World->Prop) (hI:OwnFrom w.heap.size I) (hIs:∀pre W v,I pre W->I pre (W.setCell ⟨Bs,0,none⟩ v)) (hId:∀pre W,I pre W->I pre W.drew) (h0:I [] w) (a₁:α->Act)
 (hassign:∀(l:Nat) (x:α) (W:World) (K:Act->World->Prop),K (a₁ x) W->
  assign.wpIn (F.inRound l) (n-1-1) P (Exit.then K (fun _ _ _=>False)) {tmps:=(ps.zip (encs x)).foldl (fun t (p,v)=>t.setIfInBounds p v) a.tmps,defers:=[]} W)
 (hbody:∀(l:Nat) (pre:List α) (x:α) (W:World),(pre++[x]) <+: xs->I pre W->Bs<W.heap.size->body.wpIn (F.inRound l) (n-1-1) P (aL9 Bs I (pre++[x]) W) (a₁ x) W)
 (hdone:∀(D:Nat) (W:World),w.heap.size<=D->I xs W->W.heap[D]?=some (.deferred (some []))->Q .normal {a with defers:={target:=.collected D,args:=#[]}::a.defers} W):
 (Code.rangeFunc g ps assign body).wpIn F n P Q a w:=by
 refine wpIn_rangeFunc ?_;intro fn hfn;rw[hro];obtain⟨rec,hrec⟩:∃rec:LoopState->Option Code->Loop,rec=fun st pe=>{state:=st,pending:=pe,fn,tmps:=a.tmps,params:=ps,assign,body,defers:=w.heap.size}:=⟨_,rfl⟩
 obtain⟨W1,hW1⟩:∃W1,(w.alloc (.deferred (some []))).alloc (.loop (rec .ready none))=W1:=⟨_,rfl⟩;have hL1:W1.heap[w.heap.size+1]?=some (.loop (rec .ready none)):=by rw[<-hW1];have:=World.alloc_heap_new (w.alloc (.deferred (some []))) (.loop (rec .ready none));rwa[World.size_alloc]at this
 have hK1:W1.heap[w.heap.size]?=some (.deferred (some [])):=by rw[<-hW1];exact(Below.heap_alloc _ _ _ (by simp)).trans (World.alloc_heap_new w _)
 have hI1:I [] W1:=by rw[<-hW1];exact hI.alloc _ (hI.alloc _ h0)
 have hb1:Below w.heap.size w W1:=by rw[<-hW1];exact((Below.refl _ w).alloc (Nat.le_refl _) _).alloc (by simp) _
 have hv1:W1.cell? ⟨Bs,0,none⟩=some v0:=(hb1.cell (p:=⟨Bs,0,none⟩) hBs).trans hv0;have hf1:W1.frozen? ⟨Bs,0,none⟩=false:=(hb1.frozen (p:=⟨Bs,0,none⟩) hBs).trans hf0
 refine⟨w.heap.size+1,[{target:=.collected w.heap.size,args:=#[]}],W1,{target:=.fn (.func gf) lb,args:=#[.func (.yield (w.heap.size+1)) #[] #[]]},W1,gf,
  #[.func (.yield (w.heap.size+1)) #[] #[]]++lb,W1,?_,?_,?_,?_,fun _=>h1,?_⟩
 ·rw[<-hW1,hrec];exact run_enterLoop_outer _ _ _ _ _
 ·simp only[resolve,hg];simp[go_sem]
 ·intro f' hf';simp[Target.leads]at hf';subst hf';exact hFg
 ·simp[invoke,go_sem,eg]
 ·refine(hseq (w.heap.size+1)
   (fun pre W=>I pre W/\W.heap[w.heap.size+1]?=some (.loop (rec .ready none))/\W.heap[w.heap.size]?=some (.deferred (some []))/\Bs<W.heap.size)
   W1
   (fun pre W v hs=>⟨hIs pre W v hs.1,(Below.heap_setCell W _ v _ (by simp;omega)).trans hs.2.1,(Below.heap_setCell W _ v _ (by simp;omega)).trans hs.2.2.1,by simpa using hs.2.2.2⟩)
   (fun pre W hs=>⟨hId pre W hs.1,hs.2⟩)
   (fun pre W o hs=>⟨hI.alloc o hs.1,(Below.heap_alloc W o _ (Array.getElem?_eq_some_iff.1 hs.2.1).1).trans hs.2.1,(Below.heap_alloc W o _ (Array.getElem?_eq_some_iff.1 hs.2.2.1).1).trans hs.2.2.1,by simp;have:=hs.2.2.2;omega⟩)
   ?_ ⟨hI1,hL1,hK1,Nat.lt_of_lt_of_le hBs hb1.size⟩ hv1 hf1).mono ?_
  ·rintro pre x W hgx ⟨hi,hl,hk,hbs⟩;have hlt:w.heap.size+1<W.heap.size:=(Array.getElem?_eq_some_iff.1 hl).1;have hy:=run_yield (P:=P) (args:=encs x) hl (by rw[hrec];exact hps x);rw[hrec]at hy;refine⟨fn,_,assign,body,hy,roundIn_of_wpIn hfn (hassign _ x W _ ⟨_,run_beginRound hl (by rw[hrec]),?_⟩)⟩;have hl2:(W.putObj (w.heap.size+1) (.loop {rec .ready none with state:=.busy})).heap[w.heap.size+1]?=some (.loop {rec .ready none with state:=.busy}):=World.putObj_heap_same hlt;have hk2:(W.putObj (w.heap.size+1) (.loop {rec .ready none with state:=.busy})).heap[w.heap.size]?=some (.deferred (some [])):=(World.putObj_heap_other (by omega)).trans hk;have hc2:=vO (W:=W) (l:=w.heap.size+1) (b:=Bs) (o:=0) (x:=.loop {rec .ready none with state:=.busy}) (by omega);refine wpIn_mono (hbody _ pre x _ hgx (hI.putObj _ hi (by omega) hl rfl) (by simpa using hbs)) ?_;rintro e a3 W3 hp;cases e with
   | normal=>obtain⟨hk3,hc3,hi3⟩:=hp;have hl3:=hk3.same _ _ hl2 rfl;have hr:=run_endRound (P:=P) none hl3;rw[hrec]at hr;have hc4:=vO (W:=W3) (l:=w.heap.size+1) (b:=Bs) (o:=0) (x:=.loop (rec .ready none)) (by omega);rw[hrec]at hc4;(have hsz:W.heap.size<=W3.heap.size:=by have:=hk3.size;simpa using this);refine⟨_,_,hr,rfl,⟨hI.putObj _ hi3 (by omega) hl3 rfl,?_,?_,?_⟩,?_,?_,?_⟩;(·rw[hrec];exact World.putObj_heap_same (Array.getElem?_eq_some_iff.1 hl3).1);(·exact(World.putObj_heap_other (by omega)).trans (hk3.same _ _ hk2 rfl));(·simp;omega);(·simp;omega);(·exact hc4.1.trans (hc3.1.trans hc2.1));·exact hc4.2.trans (hc3.2.trans hc2.2)
   | ret=>exact hp.elim
   | exit id=>exact hp.elim
   | goto t=>exact hp.elim
   | panic ch=>exact hp.elim
   | outgrown=>exact hp.elim
  ·rintro e W2 ⟨⟨v,rfl⟩,hi,hl,hk,_⟩;exact⟨none,_,by have:=run_endLoop (P:=P) hl (by rw[hrec];simp);rw[hrec]at this;exact this,hdone _ _ (Nat.le_refl _) (hI.putObj _ hi (by omega) hl rfl) ((World.putObj_heap_other (by omega)).trans hk)⟩
end Go.Proofs.YtjieekkkaekclaaGreatDoor
namespace Go.Proofs.YtjieekkkaekclaaGreatDoor
open Go Go.RowKit Go.Shelf
attribute [local go_sem] Oper.semAt_some
def kH (s:ByteArray):List ByteArray:=
 if _h:s.size=0 then[]else s.extract (s.size-9) s.size::kH (s.extract 0 (s.size-9))
termination_by s.size
decreasing_by simp only[ByteArray.size_extract];omega
def aGE:Option Value->Nat
 | some (.string t)=>t.size
 | _=>0
theorem aDB (F:Fence) (n:Nat) (hF:F.fn 169) (hro:F.round=none) (hn:1<=n) (Bs:Nat) (s:ByteArray) (hs:s.size<=1000000000):
 aHM F n Tryz.prog 169 #[.pointer (some ⟨Bs,0,none⟩)] (fun x:ByteArray=>#[.string x]) (kH s) Bs (.string s):=fun l J W hJs hJd hJa hY h0 hv hf=>by
 refine callsIn_of_wp Tryz.func169 rfl hF ?_ hro;simp only[Tryz.ntmps169,List.size_toArray,List.length_cons,List.length_nil,Nat.reduceAdd,Nat.reduceSub,Array.replicate_succ,Array.replicate_zero,List.push_toArray,List.append_toArray,List.nil_append,List.cons_append]
 gi_wp2
 gi_loopw [] (fun wr=>∃(pre:List ByteArray) (t:ByteArray),kH s=pre++kH t/\t.size<=1000000000/\wr.cell? ⟨Bs,0,none⟩=some (.string t)/\wr.frozen? ⟨Bs,0,none⟩=false/\J pre wr) (fun wr=>aGE (wr.cell? ⟨Bs,0,none⟩))
 case atStart=>exact⟨[],s,rfl,hs,hv,hf,h0⟩
 case round=>
  obtain⟨pre,t,hx,ht,hc,hfz,hJ⟩:=hrel;have HX:=Lib.hid hx;clear hx;by_cases h0:t.size=0
  ·gi_wp2
   go_end0
   have hx:=HX.out;(have hnil:kH t=[]:=by rw[kH,dif_pos h0]);rw[hnil,List.append_nil]at hx;exact⟨⟨_,rfl⟩,by rw[hx];exact hJ⟩
  ·(have hstep:kH t=t.extract (t.size-9) t.size::kH (t.extract 0 (t.size-9)):=by rw[kH,dif_neg h0]);have HS:=Lib.hid hstep;(have hp:(0:Int)<t.size:=by omega);clear hstep;by_cases h9:(9:Int)<t.size
   ·(have e9:((t.size:Int)-9).toNat=t.size-9:=by omega);obtain⟨fn,tmps,assign,body,hy,hR⟩:=hY pre (t.extract (t.size-9) t.size) wr ⟨kH (t.extract 0 (t.size-9)),by rw[HX.out,HS.out];simp⟩ hJ
    gi_wp2
    refine hR.mono ?_;rintro e W3 ⟨rfl,hJ3,hsz,hc3,hf3⟩;rw[hc]at hc3;rw[hfz]at hf3
    gi_wp2
    go_roundw
    (case rel=>exact⟨pre++[t.extract (t.size-9) t.size],t.extract 0 (t.size-9),by rw[HX.out,HS.out];simp,by simp only[ByteArray.size_extract];omega,World.cell?_setCell_same _ _ _ hc3,by rw[World.frozen?_setCell];exact hf3,hJs _ _ _ hJ3⟩);case measure=>rw[World.cell?_setCell_same _ _ _ hc3,hc];simp only[aGE,ByteArray.size_extract];omega
   ·(have e9:t.size-9=0:=by omega);rw[e9]at HS;obtain⟨fn,tmps,assign,body,hy,hR⟩:=hY pre t wr ⟨kH (t.extract 0 0),by rw[HX.out,HS.out,ByteArray.extract_zero_size];simp⟩ hJ
    gi_wp2
    refine hR.mono ?_;rintro e W3 ⟨rfl,hJ3,hsz,hc3,hf3⟩;rw[hc]at hc3;rw[hfz]at hf3
    gi_wp2
    go_roundw
    (case rel=>exact⟨pre++[t],ByteArray.empty,by rw[HX.out,HS.out,ByteArray.extract_zero_size];simp,by simp,World.cell?_setCell_same _ _ _ hc3,by rw[World.frozen?_setCell];exact hf3,hJs _ _ _ hJ3⟩);case measure=>rw[World.cell?_setCell_same _ _ _ hc3,hc];simp only[aGE,ByteArray.size_empty];omega
end Go.Proofs.YtjieekkkaekclaaGreatDoor
namespace Mw
def dig (c:UInt8):Bool:=decide (48<=c.toNat) && decide (c.toNat<=57)
def dgt (n:Nat):UInt8:=UInt8.ofNat (48+n)
theorem xK {n:Nat} (h:n<10):(dgt n).toNat=48+n:=by unfold dgt;simp[UInt8.toNat_ofNat'];omega
theorem aAT {n:Nat} (h:n<10):dig (dgt n)=true:=by unfold dig;rw[xK h];simp;omega
theorem aDy {c:UInt8} (h:dig c=true):c.toNat-48<10/\dgt (c.toNat-48)=c:=by unfold dig at h;simp at h;refine⟨by omega,?_⟩;apply UInt8.toNat_inj.mp;rw[xK (by omega)];omega
def gU (n:Nat):List UInt8:=if _h:n<10 then[dgt n]else gU (n/10)++[dgt (n%10)]
termination_by n
decreasing_by omega
theorem jY {n:Nat} (h:n<10):gU n=[dgt n]:=by rw[gU];simp[h]
theorem rW {n:Nat} (h:10<=n):gU n=gU (n/10)++[dgt (n%10)]:=by rw[gU];simp[show ¬n<10 by omega]
def kM (l:List UInt8):Nat:=l.foldl (fun a c=>10*a+(c.toNat-48)) 0
theorem aDs (l:List UInt8) (a:Nat):l.foldl (fun a c=>10*a+(c.toNat-48)) a=a*10^l.length+kM l:=by
 unfold kM;induction l generalizing a with
 | nil=>simp
 | cons c l ih=>simp only[List.foldl_cons,List.length_cons];rw[ih,ih (10*0+(c.toNat-48))];rw[Nat.pow_succ,Nat.add_mul];(have:10*a*10^l.length=a*(10^l.length*10):=by rw[Nat.mul_comm 10 a,Nat.mul_assoc,Nat.mul_comm 10]);rw[show 10*0+(c.toNat-48)=c.toNat-48 by omega];omega
theorem wH:kM []=0:=rfl
theorem yA (a b:List UInt8):kM (a++b)=kM a*10^b.length+kM b:=by show(a++b).foldl _ 0=_;rw[List.foldl_append,aDs b];rfl
theorem vN (c:UInt8) (l:List UInt8):kM (c::l)=(c.toNat-48)*10^l.length+kM l:=by show(c::l).foldl _ 0=_;rw[List.foldl_cons,aDs l];simp
theorem aAS (l:List UInt8) (c:UInt8):kM (l++[c])=10*kM l+(c.toNat-48):=by rw[yA];simp[vN,wH];omega
theorem vM (n:Nat):kM (gU n)=n:=by
 induction n using Nat.strongRecOn with
 | _ n ih=>by_cases h:n<10;(·rw[jY h,vN,xK h];simp[wH]);·rw[rW (by omega),aAS,ih (n/10) (by omega),xK (by omega)];omega
theorem yV (n:Nat):∀c ∈ gU n,dig c=true:=by
 induction n using Nat.strongRecOn with
 | _ n ih=>by_cases h:n<10;(·rw[jY h];simp[aAT h]);·rw[rW (by omega)];intro c hc;rcases List.mem_append.mp hc with h1|h1;(·exact ih (n/10) (by omega) c h1);·simp at h1;subst h1;exact aAT (by omega)
theorem aBL (n:Nat):gU n≠[]:=by
 by_cases h:n<10;·rw[jY h];simp
 ·rw[rW (by omega)];simp
theorem aF2 (n:Nat):0<(gU n).length:=List.length_pos_iff.mpr (aBL n)
theorem aCf (n:Nat) (h0:0<n):∃c l,gU n=c::l/\dig c=true/\c≠48:=by
 induction n using Nat.strongRecOn with
 | _ n ih=>by_cases h:n<10;(·refine⟨dgt n,[],jY h,aAT h,fun e=>?_⟩;have:=congrArg UInt8.toNat e;rw[xK h]at this;have e48:(48:UInt8).toNat=48:=rfl;omega);·obtain⟨c,l,e,h1,h2⟩:=ih (n/10) (by omega) (by omega);exact⟨c,l++[dgt (n%10)],by rw[rW (by omega),e];rfl,h1,h2⟩
theorem xJ:gU 0=[48]:=jY (by omega)
def uM (l:List UInt8):Bool:=!l.isEmpty && l.all dig && (decide (l.length<=1) || !(l.head? == some 48))
theorem yQ (l:List UInt8) (h:∀c ∈ l,dig c=true):kM l<10^l.length:=by
 induction l with
 | nil=>simp[wH]
 | cons c l ih=>have h1:=ih (fun c hc=>h c (by simp[hc]));have h2:=(aDy (h c (by simp))).1;rw[vN,List.length_cons,Nat.pow_succ];have:(c.toNat-48)*10^l.length<=9*10^l.length:=Nat.mul_le_mul_right _ (by omega);omega
theorem aHG (c:UInt8) (l:List UInt8) (hc:dig c=true) (h:c≠48):10^l.length<=kM (c::l):=by
 rw[vN];have:1<=c.toNat-48:=by unfold dig at hc;simp at hc;(have:c.toNat≠48:=fun e=>h (UInt8.toNat_inj.mp e));omega
 have:1*10^l.length<=(c.toNat-48)*10^l.length:=Nat.mul_le_mul_right _ this;omega
theorem aGF {l:List UInt8} (h:l≠[]):∃a c,l=a++[c]:=⟨l.dropLast,l.getLast h,(List.dropLast_concat_getLast h).symm⟩
theorem yU (l:List UInt8) (h:uM l=true):gU (kM l)=l:=by
 generalize hn:l.length=n;induction n using Nat.strongRecOn generalizing l with
 | _ n ih=>
  unfold uM at h;simp only[Bool.and_eq_true,Bool.or_eq_true,Bool.not_eq_true',List.all_eq_true,decide_eq_true_eq]at h;obtain⟨⟨h1,h2⟩,h3⟩:=h;(have hne:l≠[]:=by intro e;subst e;simp at h1);obtain⟨a,c,rfl⟩:=aGF hne;have hc:=aDy (h2 c (by simp));rw[aAS];by_cases ha:a=[];·subst ha;simp only[wH,List.nil_append];rw[jY (by omega),show 10*0+(c.toNat-48)=c.toNat-48 by omega,hc.2]
  ·cases a with
   | nil=>exact absurd rfl ha
   | cons d a=>(have hd:d≠48:=by rcases h3 with h3|h3;(·simp at h3);·intro e;subst e;simp at h3);have hdd:dig d=true:=h2 d (by simp);have hge:=aHG d a hdd hd;have hpos:1<=kM (d::a):=Nat.le_trans (Nat.pow_pos (by omega)) hge;rw[rW (by omega)];(have e1:(10*kM (d::a)+(c.toNat-48))/10=kM (d::a):=by omega);(have e2:(10*kM (d::a)+(c.toNat-48))%10=c.toNat-48:=by omega);rw[e1,e2,hc.2];rw[ih (d::a).length (by subst hn;simp) (d::a) ?_ rfl];unfold uM;simp only[Bool.and_eq_true,Bool.or_eq_true,Bool.not_eq_true',List.all_eq_true,decide_eq_true_eq];refine⟨⟨rfl,fun x hx=>h2 x (by simp at hx⊢;rcases hx with h|h<;>simp[h])⟩,.inr ?_⟩;simp[hd]
theorem aIH (n:Nat):uM (gU n)=true:=by
 unfold uM;simp only[Bool.and_eq_true,Bool.or_eq_true,Bool.not_eq_true',List.all_eq_true,decide_eq_true_eq];refine⟨⟨?_,yV n⟩,?_⟩;·have:=aBL n;cases h:gU n<;>simp_all
 ·by_cases h:n=0;(·subst h;rw[xJ];simp);·obtain⟨c,l,e,_,h2⟩:=aCf n (by omega);rw[e];right;simp[h2]
theorem aKh {a b:Nat} (h:gU a=gU b):a=b:=by rw[<-vM a,h,vM b]
theorem iZ (n k:Nat) (hk:1<=k):(gU n).length<=k<->n<10^k:=by
 constructor;·intro h;have:=yQ (gU n) (yV n);rw[vM]at this;exact Nat.lt_of_lt_of_le this (Nat.pow_le_pow_right (by omega) h)
 ·intro h;by_cases h0:n=0;(·subst h0;rw[xJ];simpa using hk);·obtain⟨c,l,e,h1,h2⟩:=aCf n (by omega);have h3:=aHG c l h1 h2;rw[<-e,vM]at h3;rw[e,List.length_cons];by_cases h4:l.length+1<=k;(·exact h4);·exfalso;have:=Nat.pow_le_pow_right (n:=10) (by omega) (show k<=l.length by omega);omega
theorem aGj (n:Nat):∀c ∈ gU n,c≠45:=by intro c hc e;have:=yV n c hc;subst e;revert this;decide
def jF (n:Int):List UInt8:=if n<0 then 45::gU n.natAbs else gU n.natAbs
def unm (l:List UInt8):List UInt8:=match l with|45::l=>l|l=>l
def isM (l:List UInt8):Bool:=l.head? == some 45
theorem xQ (l:List UInt8):unm (45::l)=l:=rfl
theorem yG {l:List UInt8} (h:isM l=false):unm l=l:=by
 unfold unm;split;·simp[isM]at h
 ·rfl
theorem aG5 (n:Nat):isM (gU n)=false:=by
 unfold isM;cases h:gU n with
 | nil=>rfl
 | cons c l=>have:=aGj n c (by rw[h];simp);simp[this]
theorem kF {n:Int} (h:n<0):jF n=45::gU n.natAbs:=by simp[jF,h]
theorem eY {n:Int} (h:0<=n):jF n=gU n.natAbs:=by simp[jF,show ¬n<0 by omega]
theorem wE (n:Int):isM (jF n)=decide (n<0):=by
 by_cases h:n<0;·rw[kF h];simp[isM,h]
 ·rw[eY (by omega),aG5];simp[h]
theorem nR (n:Int):unm (jF n)=gU n.natAbs:=by
 by_cases h:n<0;·rw[kF h];rfl
 ·rw[eY (by omega),yG (aG5 _)]
def okf (l:List UInt8):Bool:=uM (unm l) && !(l == [45,48])
def lI (l:List UInt8):Int:=if isM l then-(kM (unm l):Int)else kM (unm l)
theorem gX (n:Int):lI (jF n)=n:=by unfold lI;rw[wE,nR,vM];by_cases h:n<0<;>simp[h]<;>omega
theorem xU (n:Int):okf (jF n)=true:=by
 unfold okf;rw[nR,aIH];simp only[Bool.true_and,Bool.not_eq_true',beq_eq_false_iff_ne];intro h;by_cases hn:n<0;·rw[kF hn]at h;(have h1:gU n.natAbs=[48]:=by simpa using h);rw[<-xJ]at h1;have:=aKh h1;omega
 ·have:=wE n;rw[h]at this;simp[isM,hn]at this
theorem xH (l:List UInt8) (h:okf l=true):jF (lI l)=l:=by
 unfold okf at h;simp only[Bool.and_eq_true,Bool.not_eq_true',beq_eq_false_iff_ne]at h;obtain⟨h1,h2⟩:=h;have h3:=yU _ h1;unfold lI;cases hm:isM l with
 | true=>
  simp only[if_true]
  have hl:l=45::unm l:=by
   cases l with
   | nil=>simp[isM]at hm
   | cons c l=>simp[isM]at hm;subst hm;rfl
  (have hv:0<kM (unm l):=by rcases Nat.eq_zero_or_pos (kM (unm l))with h0|h0;(·rw[h0,xJ]at h3;exact absurd (by rw[hl,<-h3]) h2);·exact h0);rw[kF (by omega),show(-(kM (unm l):Int)).natAbs=kM (unm l) by omega,h3,<-hl]
 | false=>simp only[Bool.false_eq_true,if_false];rw[eY (by omega),Int.natAbs_natCast,h3,yG hm]
theorem jX:jF 0=[48]:=by rw[eY (by omega)];exact xJ
theorem xW (n:Int):(jF n).length=(gU n.natAbs).length+if n<0 then 1 else 0:=by unfold jF;split<;>simp
end Mw
namespace Go.Proofs.YtjieekkkaekclaaGreatDoor
open Go
theorem aF7 (l:List UInt8) (h:∀c ∈ l,Mw.dig c=true):∀acc,Lib.decFrom acc l=some (acc*10^l.length+Mw.kM l):=by
 induction l with
 | nil=>intro acc;simp[Lib.decFrom,Mw.kM]
 | cons b r ih=>intro acc;have hb:=h b (by simp);simp only[Mw.dig,Bool.and_eq_true,decide_eq_true_eq]at hb;simp only[Lib.decFrom,Lib.digitVal,if_pos hb];rw[ih (fun c hc=>h c (by simp[hc])),Mw.vN,List.length_cons,Nat.pow_succ,Nat.add_mul,Nat.mul_assoc,Nat.mul_comm 10];congr 1;omega
theorem aEB (l:List UInt8) (h:∀c ∈ l,Mw.dig c=true) (hn:l≠[]):Lib.atoi l=some (Mw.kM l:Int):=by
 cases l with
 | nil=>exact absurd rfl hn
 | cons b r=>have hb:=h b (by simp);simp only[Mw.dig,Bool.and_eq_true,decide_eq_true_eq]at hb;(have h1:(b == 45)=false:=by apply beq_false_of_ne;intro e;subst e;exact absurd hb.1 (by decide));(have h2:(b == 43)=false:=by apply beq_false_of_ne;intro e;subst e;exact absurd hb.1 (by decide));have hd:=aF7 (b::r) h 0;rw[Nat.zero_mul,Nat.zero_add]at hd;simp only[Lib.atoi,h1,h2,Bool.false_eq_true,if_false,Lib.decNat,List.isEmpty_cons,hd,Option.map_some]
theorem ext_list (s:ByteArray) (i j:Nat):(s.extract i j).data.toList=(s.data.toList.take j).drop i:=by rw[ByteArray.data_extract];rw[Array.toList_extract,List.extract_eq_take_drop,List.drop_take]
theorem oL (s:ByteArray):s.data.toList.length=s.size:=Array.length_toList
def Piece (x:ByteArray):Prop:=x.size<=9/\x.data.toList≠[]/\∀c ∈ x.data.toList,Mw.dig c=true
def oV (l:List ByteArray):List Int:=l.map fun x=>(Mw.kM x.data.toList:Int)
theorem aDD (k:Nat):∀(s:ByteArray),s.size=k->(∀c ∈ s.data.toList,Mw.dig c=true)->
 (∀x ∈ kH s,Piece x)/\Mw.inB 1000000000 (oV (kH s))/\Mw.lv 1000000000 (oV (kH s))=(Mw.kM s.data.toList:Int)/\(s.size≠0->0<(kH s).length)/\(kH s).length<=s.size:=by
 induction k using Nat.strongRecOn with
 | _ k ih=>
  intro s hk hd;by_cases h0:s.size=0;·(have hnil:kH s=[]:=by rw[kH,dif_pos h0]);have hl:s.data.toList=[]:=List.length_eq_zero_iff.mp (by rw[oL];exact h0);rw[hnil];refine⟨by simp,by simp[oV,Mw.uX],by simp[oV,Mw.lv,hl,Mw.kM],fun h=>absurd h0 h,by simp⟩
  ·(have hst:kH s=s.extract (s.size-9) s.size::kH (s.extract 0 (s.size-9)):=by rw[kH,dif_neg h0]);(have hz:(s.extract 0 (s.size-9)).size=s.size-9:=by simp only[ByteArray.size_extract];omega);(have e1:(s.extract 0 (s.size-9)).data.toList=s.data.toList.take (s.size-9):=by rw[ext_list,List.drop_zero]);(have e2:(s.extract (s.size-9) s.size).data.toList=s.data.toList.drop (s.size-9):=by rw[ext_list,List.take_of_length_le (by rw[oL];omega)]);obtain⟨i1,i2,i3,i4,i5⟩:=ih (s.size-9) (by omega) (s.extract 0 (s.size-9)) hz (by rw[e1];exact fun c hc=>hd c (List.mem_of_mem_take hc));(have hdd:∀c ∈ (s.extract (s.size-9) s.size).data.toList,Mw.dig c=true:=by rw[e2];exact fun c hc=>hd c (List.mem_of_mem_drop hc));(have hlen:(s.extract (s.size-9) s.size).data.toList.length=s.size-(s.size-9):=by rw[e2,List.length_drop,oL]);have hlt:=Mw.yQ _ hdd
   have hpw:10^(s.extract (s.size-9) s.size).data.toList.length<=1000000000:=by
    rw[hlen]
    calc 10^(s.size-(s.size-9))<=10^9:=Nat.pow_le_pow_right (by omega) (by omega)
     _=1000000000:=by decide
   (have hp:Piece (s.extract (s.size-9) s.size):=by refine⟨by rw[<-oL,hlen];omega,fun h=>?_,hdd⟩;rw[h]at hlen;simp at hlen;omega);(have hsum:Mw.kM s.data.toList=Mw.kM (s.data.toList.take (s.size-9))*10^(s.data.toList.drop (s.size-9)).length+Mw.kM (s.data.toList.drop (s.size-9)):=by rw[<-Mw.yA,List.take_append_drop]);rw[hst];refine⟨?_,?_,?_,fun _=>by simp,?_⟩;(·intro x hx;rcases List.mem_cons.mp hx with rfl|hx;(·exact hp);·exact i1 x hx);(·simp only[oV,List.map_cons];exact Mw.nJ.mpr ⟨⟨by omega,by omega⟩,i2⟩);(·simp only[oV,List.map_cons,Mw.mH];simp only[oV]at i3;rw[i3,e1,e2,hsum];by_cases h9:9<=s.size;(·(have:(s.data.toList.drop (s.size-9)).length=9:=by rw[List.length_drop,oL];omega);rw[this];(have h10:(10:Nat)^9=1000000000:=by decide);rw[h10];omega);·(have:s.size-9=0:=by omega);rw[this,List.take_zero,List.drop_zero,Mw.wH];omega);·rw[List.length_cons];rw[hz]at i5;omega
end Go.Proofs.YtjieekkkaekclaaGreatDoor
