/- Lemmas for the claim beside this text. -/
import Derived.Test.YtjieekkkaekclaaGreatDoorZBAD
import Derived.Test.YtjieekkkaekclaaGreatDoorZBAH
import Derived.Test.YtjieekkkaekclaaGreatDoorZBAI
import Derived.LaidEql
import Derived.Laws.Pointers
import Derived.Recover
import Derived.RowKitTokens
import Derived.Stop.Asserts
import Derived.WalkKit
set_option linter.all false
set_option linter.unusedVariables false
set_option linter.unusedSimpArgs false
set_option maxHeartbeats 4000000
set_option maxRecDepth 100000
namespace Go.Proofs.YtjieekkkaekclaaGreatDoor
open Go.RowKit Go.Pw.PrintWords
abbrev aLQ (w:World) (t:TypeId) (a b a' b':Value):World:=
 (((w.alloc (.cells #[a,b] t)).alloc (.cells #[a',b'] t)).alloc (.cells #[.int .i64 0,.slice none 0 0] t)).alloc (.cells #[.int .i64 0,.slice none 0 0] t)
theorem aBk (w:World) (t:TypeId) (a b a' b':Value):Below w.heap.size w (aLQ w t a b a' b'):=
 ((((Below.refl _ _).alloc (Nat.le_refl _) _).alloc (by simp) _).alloc (by simp;omega) _).alloc (by simp;omega) _
def aNt (w w1:World) (a b a' b':Value):Prop:=
 (w1.cell? ⟨w.heap.size,0,none⟩=some a/\w1.cell? ⟨w.heap.size,1,none⟩=some b/\w1.cell? ⟨w.heap.size+1,0,none⟩=some a'/\w1.cell? ⟨w.heap.size+1,1,none⟩=some b')/\
  (w1.cell? ⟨w.heap.size+1+1,0,none⟩=some (.int .i64 0)/\w1.cell? ⟨w.heap.size+1+1,1,none⟩=some (.slice none 0 0))/\
  (w1.cell? ⟨w.heap.size+1+1+1,0,none⟩=some (.int .i64 0)/\w1.cell? ⟨w.heap.size+1+1+1,1,none⟩=some (.slice none 0 0))/\
  (w1.frozen? ⟨w.heap.size+1+1,0,none⟩=false/\w1.frozen? ⟨w.heap.size+1+1,1,none⟩=false)/\
  (w1.frozen? ⟨w.heap.size+1+1+1,0,none⟩=false/\w1.frozen? ⟨w.heap.size+1+1+1,1,none⟩=false)
theorem nU {w w1:World} {t:TypeId} {a b a' b':Value} (hb:Below (aLQ w t a b a' b').heap.size (aLQ w t a b a' b') w1):aNt w w1 a b a' b':=by unfold aLQ at hb;have h0:=hb.cell (p:=⟨w.heap.size,0,none⟩) (by simp<;>omega);have h1:=hb.cell (p:=⟨w.heap.size,1,none⟩) (by simp<;>omega);have h2:=hb.cell (p:=⟨w.heap.size+1,0,none⟩) (by simp<;>omega);have h3:=hb.cell (p:=⟨w.heap.size+1,1,none⟩) (by simp<;>omega);have h4:=hb.cell (p:=⟨w.heap.size+1+1,0,none⟩) (by simp<;>omega);have h5:=hb.cell (p:=⟨w.heap.size+1+1,1,none⟩) (by simp<;>omega);have h6:=hb.cell (p:=⟨w.heap.size+1+1+1,0,none⟩) (by simp);have h7:=hb.cell (p:=⟨w.heap.size+1+1+1,1,none⟩) (by simp);have g4:=hb.frozen (p:=⟨w.heap.size+1+1,0,none⟩) (by simp<;>omega);have g5:=hb.frozen (p:=⟨w.heap.size+1+1,1,none⟩) (by simp<;>omega);have g6:=hb.frozen (p:=⟨w.heap.size+1+1+1,0,none⟩) (by simp);have g7:=hb.frozen (p:=⟨w.heap.size+1+1+1,1,none⟩) (by simp);simp[go_sem]at h0 h1 h2 h3 h4 h5 h6 h7 g4 g5 g6 g7;exact⟨⟨h0,h1,h2,h3⟩,⟨h4,h5⟩,⟨h6,h7⟩,⟨g4,g5⟩,⟨g6,g7⟩⟩
theorem uZ {W:World} {g:Nat} {s s':Int} {A A':Option Addr} {k c k' c':Nat} {n m:Int} (hN:dS W s A k c n) (hM:dS W s' A' k' c' m)
 (q0:W.cell? ⟨g,0,none⟩=some (.int .i64 0)/\W.cell? ⟨g,1,none⟩=some (.slice none 0 0)) (q1:W.cell? ⟨g+1,0,none⟩=some (.int .i64 0)/\W.cell? ⟨g+1,1,none⟩=some (.slice none 0 0)) (w:World) (hB:Below w.heap.size w W) (hg:w.heap.size<=g):
 Hid (dS ((((W.setCell ⟨g,0,none⟩ (.int .i64 s)).setCell ⟨g,1,none⟩ (.slice A k c)).setCell ⟨g+1,0,none⟩ (.int .i64 s')).setCell ⟨g+1,1,none⟩ (.slice A' k' c')) s A k c n)/\
 Hid (dS ((((W.setCell ⟨g,0,none⟩ (.int .i64 s)).setCell ⟨g,1,none⟩ (.slice A k c)).setCell ⟨g+1,0,none⟩ (.int .i64 s')).setCell ⟨g+1,1,none⟩ (.slice A' k' c')) s' A' k' c' m)/\
 Hid (Below w.heap.size w ((((W.setCell ⟨g,0,none⟩ (.int .i64 s)).setCell ⟨g,1,none⟩ (.slice A k c)).setCell ⟨g+1,0,none⟩ (.int .i64 s')).setCell ⟨g+1,1,none⟩ (.slice A' k' c')))/\
 ((((W.setCell ⟨g,0,none⟩ (.int .i64 s)).setCell ⟨g,1,none⟩ (.slice A k c)).setCell ⟨g+1,0,none⟩ (.int .i64 s')).setCell ⟨g+1,1,none⟩ (.slice A' k' c')).cell? ⟨g,0,none⟩=some (.int .i64 s)/\
 ((((W.setCell ⟨g,0,none⟩ (.int .i64 s)).setCell ⟨g,1,none⟩ (.slice A k c)).setCell ⟨g+1,0,none⟩ (.int .i64 s')).setCell ⟨g+1,1,none⟩ (.slice A' k' c')).cell? ⟨g,1,none⟩=some (.slice A k c)/\
 ((((W.setCell ⟨g,0,none⟩ (.int .i64 s)).setCell ⟨g,1,none⟩ (.slice A k c)).setCell ⟨g+1,0,none⟩ (.int .i64 s')).setCell ⟨g+1,1,none⟩ (.slice A' k' c')).cell? ⟨g+1,0,none⟩=some (.int .i64 s')/\
 ((((W.setCell ⟨g,0,none⟩ (.int .i64 s)).setCell ⟨g,1,none⟩ (.slice A k c)).setCell ⟨g+1,0,none⟩ (.int .i64 s')).setCell ⟨g+1,1,none⟩ (.slice A' k' c')).cell? ⟨g+1,1,none⟩=some (.slice A' k' c'):=by
 obtain⟨H1,a1,a2⟩:=lY hN q0.1 q0.2;obtain⟨H1',_,_⟩:=lY hM q0.1 q0.2;have a0:((W.setCell ⟨g,0,none⟩ (.int .i64 s)).setCell ⟨g,1,none⟩ (.slice A k c)).cell? ⟨g,0,none⟩=some (.int .i64 s):=(World.cell?_setCell_other _ _ _ _ (by simp)).trans a1;have b0:=lK (v:=.int .i64 s) (u:=.slice A k c) q1.1 (show g≠g+1 by omega);have b1:=lK (v:=.int .i64 s) (u:=.slice A k c) q1.2 (show g≠g+1 by omega);have H1m:dS ((W.setCell ⟨g,0,none⟩ (.int .i64 s)).setCell ⟨g,1,none⟩ (.slice A k c)) s' A' k' c' m:=(hM.set (.int .i64 s) q0.1 (by simp)).set (.slice A k c) ((World.cell?_setCell_other _ _ _ _ (by simp)).trans q0.2) (by simp);obtain⟨H2,c1,c2⟩:=lY H1m b0 b1;have H3:=(H1.out.set (.int .i64 s') b0 (by simp)).set (.slice A' k' c') ((World.cell?_setCell_other _ _ _ _ (by simp)).trans b1) (by simp);exact⟨Lib.hid H3,H2,Lib.hid ((((hB.setCell hg _).setCell hg _).setCell (by simp;omega) _).setCell (by simp;omega) _),lK a0 (by omega),lK a2 (by omega),(World.cell?_setCell_other _ _ _ _ (by simp)).trans c1,c2⟩
theorem aCY {n:Int} (h:n≠0):sgn n=1\/sgn n = -1:=by rcases fP n with⟨e1,h1⟩|⟨e1,h1⟩|⟨e1,h1⟩<;>omega
theorem aL3 (p:Nat):sgn (p:Int)=if p=0 then 0 else 1:=by
 unfold sgn;rw[if_neg (by omega)];by_cases h:p=0;·rw[if_pos (by omega),if_pos h]
 ·rw[if_neg (by omega),if_neg h]
theorem aGG (p:Nat):sgn (-(p:Int))=if p=0 then 0 else -1:=by
 unfold sgn;by_cases h:p=0;·rw[if_neg (by omega),if_pos (by omega),if_pos h]
 ·rw[if_pos (by omega),if_neg h]
theorem aEJ (n m:Int):n.tdiv m=sgn n*sgn m*((n.natAbs/m.natAbs:Nat):Int)/\n.tmod m=sgn n*((n.natAbs%m.natAbs:Nat):Int):=by
 obtain⟨p,rfl|rfl⟩:=Int.eq_nat_or_neg n<;>obtain⟨q,rfl|rfl⟩:=Int.eq_nat_or_neg m<;>
  simp only[Int.natAbs_neg,Int.natAbs_natCast,Int.neg_tdiv,Int.tdiv_neg,Int.neg_tmod,Int.tmod_neg,aL3,aGG,<-Int.ofNat_tdiv,<-Int.ofNat_tmod]<;>by_cases hp:p=0<;>by_cases hq:q=0<;>simp[hp,hq]
theorem aJw {n m:Int} (h:n.natAbs<m.natAbs):n.tdiv m=0/\n.tmod m=n:=by obtain⟨h1,h2⟩:=aEJ n m;rw[Nat.div_eq_of_lt h]at h1;rw[Nat.mod_eq_of_lt h]at h2;refine⟨by rw[h1];simp,?_⟩;rw[h2];rcases fP n with⟨e1,h1⟩|⟨e1,h1⟩|⟨e1,h1⟩<;>rw[e1]<;>omega
theorem aES {n:Nat} {k:Nat} (h:(lbs n).length=k+1):1<=(lbs n).getD k 0:=by
 have ht:=aBE n;have hb:=aG1 n k;unfold Mw.aAy at ht;rw[List.getLast?_eq_getElem?,h]at ht;simp only[Nat.add_sub_cancel]at ht;rw[List.getD_eq_getElem?_getD]at hb⊢;rw[List.getElem?_eq_getElem (by omega)]at ht hb⊢;simp only[Option.getD_some]at hb⊢;have:(lbs n)[k]≠0:=fun h0=>ht (by rw[h0])
 omega
theorem aNq (ad:Addr):ad.add 0=ad:=by simp[Addr.add]
theorem aJt (w:World) (t:TypeId) (a:Int):Kd.C (Kd.int .u32) (w.alloc (.cells #[.int .u32 a] t)) (some ⟨w.heap.size,0,none⟩) [a].length [a]:=by
 refine Kd.lS (d:=0) ⟨rfl,by simp,fun _=>⟨_,rfl,fun j hj=>?_⟩⟩;have h3:j=0:=by simp at hj;omega
 subst h3;simp[go_sem,add_plain]
theorem aFW (s:Int) (A:Option Addr) (r:Int) (n:Nat) (w:World) (hC:Kd.C (Kd.int .u32) w A [r].length [r]) (hr:0<=r/\r<1000000000) (hn:r=n) (hs:s=1\/s = -1\/n=0):
 Calls Tryz.prog 129 #[.int .i64 s,.slice A 1 1] w fun e w'=>∃s' A' k' c',e = .returned (.agg #[.int .i64 s',.slice A' k' c'])/\dS w' s' A' k' c' (s*n)/\Below w.heap.size w w':=
 rC s A [r] 1 n w hC (by simp) (by simp) (by simp) (Mw.nJ.mpr ⟨hr,Mw.uX _⟩) (by simp[Mw.lv];exact hn) hs
theorem aMs {s s':Int} {A A':Option Addr} {k c k' c':Nat} {n m:Int} (w:World) (H:dS w s A k c n) (H':dS w s' A' k' c' m) (hlt:n.natAbs<m.natAbs):
 Calls Tryz.prog 80 #[.agg #[.int .i64 s,.slice A k c],.agg #[.int .i64 s',.slice A' k' c']] w fun e w'=>
  ∃s2 A2 k2 c2 s3 A3 k3 c3,e = .returned (.tuple #[.agg #[.int .i64 s2,.slice A2 k2 c2],.agg #[.int .i64 s3,.slice A3 k3 c3]])/\dS w' s2 A2 k2 c2 (n.tdiv m)/\dS w' s3 A3 k3 c3 (n.tmod m)/\Below w.heap.size w w':=by
 have hb0:=aBk w 71 (.int .i64 s) (.slice A k c) (.int .i64 s') (.slice A' k' c');have H1:=H.below hb0;have H1':=H'.below hb0;have HB:=Lib.hid hb0;have HN:=Lib.hid H1;have HQ:=Lib.hid (aJw hlt);have hc:gV n.natAbs m.natAbs<0:=by have:=vF n.natAbs m.natAbs;omega
 clear hb0 hlt;go_enter Tryz.func80,Tryz.ntmps80
 go_wp2_with (go_at_call 102;(with_reducible refine(xS _ H1 H1').mono ?_);rintro e w1 ⟨rfl,hb1⟩;obtain⟨⟨d0,d1,d2,d3⟩,⟨r0,r1⟩,⟨t0,t1⟩,⟨f0,f1⟩,⟨g0,g1⟩⟩:=nU hb1;have HB1:=Lib.hid hb1)
 obtain⟨HX,HY,HZ,y0,y1,y2,y3⟩:=uZ (dS.zero _) (HN.out.below hb1) ⟨r0,r1⟩ ⟨t0,t1⟩ w (HB.out.trans (hb1.mono HB.out.size)) (by omega);obtain⟨⟨d0,d1,d2,d3⟩,⟨r0,r1⟩,⟨t0,t1⟩,⟨f0,f1⟩,⟨g0,g1⟩⟩:=nU (bN hb1);go_region
 go_wp2
 exact bodyPost_ret (v:=.tuple #[.agg #[.int .i64 0,.slice none 0 0],.agg #[.int .i64 s,.slice A k c]]) (by simp[results,Tryz.results80,go_sem,y0,y1,y2,y3]) rfl
  ⟨_,_,_,_,_,_,_,_,rfl,by rw[HQ.out.1];exact HX.out.drew,by rw[HQ.out.2];exact HY.out.drew,bN HZ.out⟩
theorem aEg {n m:Int} (hm:m≠0) (hle:m.natAbs<=n.natAbs):(sgn n*sgn m=1\/sgn n*sgn m = -1)/\(sgn n=1\/sgn n = -1):=by
 have hn:n≠0:=by omega
 rcases aCY hn with h|h<;>rcases aCY hm with h'|h'<;>rw[h,h']<;>simp
theorem aLb {s s':Int} {A A':Option Addr} {k c k' c':Nat} {n m:Int} (w:World) (H:dS w s A k c n) (H':dS w s' A' k' c' m) (hm:m≠0) (hge:m.natAbs<=n.natAbs) (hk:k<=800000) (hk':k'=1):
 Calls Tryz.prog 80 #[.agg #[.int .i64 s,.slice A k c],.agg #[.int .i64 s',.slice A' k' c']] w fun e w'=>
  ∃s2 A2 k2 c2 s3 A3 k3 c3,e = .returned (.tuple #[.agg #[.int .i64 s2,.slice A2 k2 c2],.agg #[.int .i64 s3,.slice A3 k3 c3]])/\dS w' s2 A2 k2 c2 (n.tdiv m)/\dS w' s3 A3 k3 c3 (n.tmod m)/\Below w.heap.size w w':=by
 have hb0:=aBk w 71 (.int .i64 s) (.slice A k c) (.int .i64 s') (.slice A' k' c');have H1:=H.below hb0;have H1':=H'.below hb0;have HB:=Lib.hid hb0;have HH:=Lib.hid H1;have HH':=Lib.hid H1';have HQ:=Lib.hid (aEJ n m);have HSG:=Lib.hid (aEg hm hge);have hs:=H.bd;have hs':=H'.bd;have HS:=Lib.hid H.sign;have HS':=Lib.hid H'.sign;have HGE:=Lib.hid hge;have hc:¬gV n.natAbs m.natAbs<0:=by have:=vF n.natAbs m.natAbs;omega
 clear hb0 hge;subst hk';go_enter Tryz.func80,Tryz.ntmps80
 go_wp2_with (first|(go_at_call 102;(with_reducible refine(xS _ H1 H1').mono ?_);rintro e w1 ⟨rfl,hb1⟩;obtain⟨⟨d0,d1,d2,d3⟩,⟨r0,r1⟩,⟨t0,t1⟩,⟨f0,f1⟩,⟨g0,g1⟩⟩:=nU hb1;have HB1:=Lib.hid hb1)|(go_at_call 128;refine(yX s s' _ hs hs').mono ?_;rintro e w2 ⟨rfl,rfl⟩))
 obtain⟨l,rfl,el,hc',hC,hi,hv⟩:=(HH.out.below hb1).named;obtain⟨y,hy⟩:∃y,(lbs m.natAbs).getD 0 0=y:=⟨_,rfl⟩;obtain⟨ad,rfl,hcy⟩:=(HH'.out.below hb1).cell (i:=0) (by omega);rw[hy,aNq]at hcy;have hyb:=aG1 m.natAbs 0;have hlen:=HH'.out.len;have hy1:1<=y:=by rw[<-hy];exact aES (n:=m.natAbs) (k:=0) hlen.symm
 have hym:(y:Int)=m.natAbs:=by have h:=wD m.natAbs;obtain⟨z,hz⟩:=List.length_eq_one_iff.mp hlen.symm;rw[hz]at h hy;simp[Mw.lv]at h hy;omega
 rw[hy]at hyb;have HYM:=Lib.hid hym;have HEL:=Lib.hid el;have HC:=Lib.hid hC;have HI:=Lib.hid hi;have HV:=Lib.hid hv;clear hC hi hv el hlen hy hym;obtain⟨⟨d0,d1,d2,d3⟩,⟨r0,r1⟩,⟨t0,t1⟩,⟨f0,f1⟩,⟨g0,g1⟩⟩:=nU (bN hb1);have hcy0:w1.drew.cell? ad=some (.int .u32 y):=hcy;have hdd:w1.drew.cell? ⟨w.heap.size,0,none⟩=some (.int .i64 s)/\w1.drew.cell? ⟨w.heap.size,1,none⟩=some (.slice A l.length c)/\w1.drew.cell? ⟨w.heap.size+1,0,none⟩=some (.int .i64 s')/\w1.drew.cell? ⟨w.heap.size+1,1,none⟩=some (.slice (some ad) 1 c')/\w1.drew.cell? ad=some (.int .u32 y):=⟨d0,d1,d2,d3,hcy⟩
 go_region_held3 (fun w'=>w'.cell? ⟨w.heap.size,0,none⟩=some (.int .i64 s)/\w'.cell? ⟨w.heap.size,1,none⟩=some (.slice A l.length c)/\w'.cell? ⟨w.heap.size+1,0,none⟩=some (.int .i64 s')/\w'.cell? ⟨w.heap.size+1,1,none⟩=some (.slice (some ad) 1 c')/\w'.cell? ad=some (.int .u32 y)) (first|exact hdd|exact ddd|go_keep) (first|(go_at_call 131;(with_reducible refine(aBx l.length A l c y _ rfl (Kd.iF HC.out (bN (Below.refl _ _))) hc' HI.out (by omega) hy1 (by omega)).mono ?_);rintro e w2 ⟨A1,q,c1,r,rfl,hc1,hC1,hi1,hl1,hv1,hr0,hr1,hb2⟩;have HB2:=Lib.hid (hb1.trans ((fK hb2).mono hb1.size));have HC1:=Lib.hid hC1;have HI1:=Lib.hid hi1;have HL1:=Lib.hid hl1;have HV1:=Lib.hid hv1;clear hC1 hi1 hl1 hv1;obtain⟨e0,e1,e2,e3⟩:=(nU HB2.out).1;have ddd:w2.cell? ⟨w.heap.size,0,none⟩=some (.int .i64 s)/\w2.cell? ⟨w.heap.size,1,none⟩=some (.slice A l.length c)/\w2.cell? ⟨w.heap.size+1,0,none⟩=some (.int .i64 s')/\w2.cell? ⟨w.heap.size+1,1,none⟩=some (.slice (some ad) 1 c')/\w2.cell? ad=some (.int .u32 y):=⟨e0,e1,e2,e3,nH hb2 hcy0⟩))
 have hdiv:=aEd (HV.out.symm.trans HV1.out) hr0 hr1;rw[HYM.out]at hdiv;have hq:Mw.lv 1000000000 q=((n.natAbs/m.natAbs:Nat):Int):=by rw[hdiv.1];rfl
 have hr:r=((n.natAbs%m.natAbs:Nat):Int):=by rw[hdiv.2];rfl
 have HQV:=Lib.hid hq;have HRV:=Lib.hid hr;have HPOS:Hid (0<q.length):=Lib.hid (by rw[HL1.out,HEL.out,sG];have:=HGE.out;omega);clear hdiv hq hr d0 d1 d2 d3 r0 r1 t0 t1 f0 f1 g0 g1 hdd hcy0 e0 e1 e2 e3 ddd hcy;obtain⟨⟨d0,d1,d2,d3⟩,⟨r0,r1⟩,⟨t0,t1⟩,⟨f0,f1⟩,⟨g0,g1⟩⟩:=nU (bN HB2.out);go_wp2_with fail
 refine jT (fun w'=>w'.cell? ⟨w.heap.size,0,none⟩=some (.int .i64 s)) 8 (by kernel_rfl) (by kernel_rfl) d0 (fun hHeld=>?_);refine Zq.tq 0 rfl ?_;refine Zq.tq 1 rfl ?_;refine Zq.tq 3 rfl ?_;refine Zq.tq 4 rfl ?_;refine Zq.tq 5 rfl ?_;have HM1:Hid (s*s'=1\/s*s' = -1\/n.natAbs/m.natAbs=0):=Lib.hid (by rw[HS.out,HS'.out];rcases HSG.out.1 with h|h<;>simp[h]);have HM2:Hid (s=1\/s = -1\/n.natAbs%m.natAbs=0):=Lib.hid (by rw[HS.out];rcases HSG.out.2 with h|h<;>simp[h]);have hyl:y<1000000000:=hyb.2;refine aEX 2 6 rfl rfl (by decide +kernel) (fun K_ hK=>?_) (fun K_ hK=>?_)
 ·go_simp;refine(rC (s*s') A1 q c1 (n.natAbs/m.natAbs) _ (Kd.iF HC1.out (bN (Below.refl _ _))) HPOS.out hc1 (by rw[HL1.out];omega) HI1.out HQV.out HM1.out).mono ?_;rintro e w3 ⟨s3,A3,k3,c3,rfl,hN3,hb3⟩;have HB3:=Lib.hid (HB2.out.trans ((fK hb3).mono HB2.out.size));have c0_:=(nU HB3.out).1.1;(go_wp2_with fail);refine hK.out _ _ c0_ (fun hHeld=>?_);clear hK;(try simp only[Act.put,Zq.a1,Zq.a2,Zq.a3]);refine eX 6 rfl (by decide +kernel) (fun K_ hK=>?_);go_simp;refine hK.out _ _ (nO _ c0_) (fun hHeld=>?_);clear hK;(try simp only[Act.put,Zq.a1,Zq.a2,Zq.a3]);refine eX 7 rfl (by decide +kernel) (fun K_ hK=>?_);go_simp;refine(aFW s _ r (n.natAbs%m.natAbs) _ (aJt w3 121 r) ⟨hr0,by omega⟩ HRV.out HM2.out).mono ?_;rintro e w4 ⟨s4,A4,k4,c4,rfl,hN4,hb4⟩;have HB4:=Lib.hid (HB3.out.trans (((bA (Below.refl _ _) _).trans (hb4.mono (by simp))).mono HB3.out.size));have hN3':=hN3.below ((bA (Below.refl _ _) _).trans (hb4.mono (by simp)));have c1_:=(nU HB4.out).1.1;(go_wp2_with fail);refine hK.out _ _ c1_ (fun hHeld=>?_);clear hK;(try simp only[Act.put,Zq.a1,Zq.a2,Zq.a3]);obtain⟨_,⟨r0,r1⟩,⟨t0,t1⟩,⟨f0,f1⟩,⟨g0,g1⟩⟩:=nU HB4.out;refine mF (by decide +kernel) ?_;obtain⟨HX,HY,HZ,y0,y1,y2,y3⟩:=uZ hN3' hN4 ⟨r0,r1⟩ ⟨t0,t1⟩ w (HB.out.trans (HB4.out.mono HB.out.size)) (by omega);go_wp2
  exact bodyPost_ret (v:=.tuple #[.agg #[.int .i64 s3,.slice A3 k3 c3],.agg #[.int .i64 s4,.slice A4 k4 c4]]) (by simp[results,Tryz.results80,go_sem,y0,y1,y2,y3]) rfl
   ⟨_,_,_,_,_,_,_,_,rfl,by rw[HQ.out.1,<-HS.out,<-HS'.out];exact HX.out,by rw[HQ.out.2,<-HS.out];exact HY.out,HZ.out⟩
 ·go_simp;refine hK.out _ _ (nO _ d0) (fun hHeld=>?_);clear hK;(try simp only[Act.put,Zq.a1,Zq.a2,Zq.a3]);refine eX 2 rfl (by decide +kernel) (fun K_ hK=>?_);go_simp;refine(rC (s*s') A1 q c1 (n.natAbs/m.natAbs) _ (Kd.iF HC1.out ((bN (Below.refl _ _)).alloc (by simp) _)) HPOS.out hc1 (by rw[HL1.out];omega) HI1.out HQV.out HM1.out).mono ?_;rintro e w3 ⟨s3,A3,k3,c3,rfl,hN3,hb3⟩;have hB23:Below w2.heap.size w2 w3:=((bN (Below.refl _ _)).alloc (by simp) _).trans (hb3.mono (by simp));have HB3:=Lib.hid (HB2.out.trans (hB23.mono HB2.out.size));have c0_:=(nU HB3.out).1.1;have hrd:=Kd.iF (aJt w2.drew 121 r) hb3;(go_wp2_with fail);refine hK.out _ _ c0_ (fun hHeld=>?_);clear hK;(try simp only[Act.put,Zq.a1,Zq.a2,Zq.a3]);refine eX 7 rfl (by decide +kernel) (fun K_ hK=>?_);go_simp;refine(aFW s _ r (n.natAbs%m.natAbs) _ hrd ⟨hr0,by omega⟩ HRV.out HM2.out).mono ?_;rintro e w4 ⟨s4,A4,k4,c4,rfl,hN4,hb4⟩;have HB4:=Lib.hid (HB3.out.trans (hb4.mono HB3.out.size));have hN3':=hN3.below hb4;have c1_:=(nU HB4.out).1.1;(go_wp2_with fail);refine hK.out _ _ c1_ (fun hHeld=>?_);clear hK;(try simp only[Act.put,Zq.a1,Zq.a2,Zq.a3]);obtain⟨_,⟨r0,r1⟩,⟨t0,t1⟩,⟨f0,f1⟩,⟨g0,g1⟩⟩:=nU HB4.out;refine mF (by decide +kernel) ?_;obtain⟨HX,HY,HZ,y0,y1,y2,y3⟩:=uZ hN3' hN4 ⟨r0,r1⟩ ⟨t0,t1⟩ w (HB.out.trans (HB4.out.mono HB.out.size)) (by omega);go_wp2
  exact bodyPost_ret (v:=.tuple #[.agg #[.int .i64 s3,.slice A3 k3 c3],.agg #[.int .i64 s4,.slice A4 k4 c4]]) (by simp[results,Tryz.results80,go_sem,y0,y1,y2,y3]) rfl
   ⟨_,_,_,_,_,_,_,_,rfl,by rw[HQ.out.1,<-HS.out,<-HS'.out];exact HX.out,by rw[HQ.out.2,<-HS.out];exact HY.out,HZ.out⟩
theorem aIh (na nb:Nat) (A0:Option Addr) (a:List Int) (c0:Nat) (A1:Option Addr) (b:List Int) (c1:Nat) (k:Nat) (w:World) (ea:na=a.length) (eb:nb=b.length) (h0:Kd.C (Kd.int .u32) w A0 na a) (hc0:na<=c0) (h1:Kd.C (Kd.int .u32) w A1 nb b) (hc1:nb<=c1)
 (ia:Mw.inB 1000000000 a) (ib:Mw.inB 1000000000 b) (hm:na<=800000) (hb:nb=k+1) (hk:1<=k) (hl:k+1<=na) (ht:1<=b.getD k 0):
 Calls Tryz.prog 132 #[.slice A0 na c0,.slice A1 nb c1] w fun e w'=>∃(Aq:Option Addr) (q:List Int) (cq:Nat) (Ar:Option Addr) (r:List Int) (cr:Nat),e = .returned (.tuple #[.slice Aq q.length cq,.slice Ar r.length cr])/\
  q.length<=cq/\Kd.C (Kd.int .u32) w' Aq q.length q/\Mw.inB 1000000000 q/\q.length=na-k/\Mw.lv 1000000000 q=Mw.lv 1000000000 a/Mw.lv 1000000000 b/\
  r.length<=cr/\Kd.C (Kd.int .u32) w' Ar r.length r/\Mw.inB 1000000000 r/\r.length=k+1/\Mw.lv 1000000000 r=Mw.lv 1000000000 a%Mw.lv 1000000000 b/\Below w.heap.size w w':=by
 subst ea;subst eb;exact aJJ A0 a c0 A1 b c1 k w h0 hc0 h1 hc1 ia ib hm hb hk hl ht
theorem aJv {s s':Int} {A A':Option Addr} {k c k' c':Nat} {n m:Int} (w:World) (H:dS w s A k c n) (H':dS w s' A' k' c' m) (hm:m≠0) (hge:m.natAbs<=n.natAbs) (hk:k<=800000) (hk':k'<=800000) (hk1:2<=k'):
 Calls Tryz.prog 80 #[.agg #[.int .i64 s,.slice A k c],.agg #[.int .i64 s',.slice A' k' c']] w fun e w'=>
  ∃s2 A2 k2 c2 s3 A3 k3 c3,e = .returned (.tuple #[.agg #[.int .i64 s2,.slice A2 k2 c2],.agg #[.int .i64 s3,.slice A3 k3 c3]])/\dS w' s2 A2 k2 c2 (n.tdiv m)/\dS w' s3 A3 k3 c3 (n.tmod m)/\Below w.heap.size w w':=by
 have hb0:=aBk w 71 (.int .i64 s) (.slice A k c) (.int .i64 s') (.slice A' k' c');have H1:=H.below hb0;have H1':=H'.below hb0;have HB:=Lib.hid hb0;have HH:=Lib.hid H1;have HH':=Lib.hid H1';have HQ:=Lib.hid (aEJ n m);have HSG:=Lib.hid (aEg hm hge);have hs:=H.bd;have hs':=H'.bd;have HS:=Lib.hid H.sign;have HS':=Lib.hid H'.sign;have HGE:=Lib.hid hge;have hc:¬gV n.natAbs m.natAbs<0:=by have:=vF n.natAbs m.natAbs;omega
 clear hb0 hge;obtain⟨l,rfl,el,hcl,hC0,hi,hv⟩:=H1.named;obtain⟨l',rfl,el',hcl',hC0',hi',hv'⟩:=H1'.named;obtain⟨p,hp⟩:∃p,l'.length-1=p:=⟨_,rfl⟩;have hp1:1<=p:=by omega
 have htop:1<=l'.getD p 0:=by rw[el'];exact aES (by rw[<-el'];omega)
 have hlen:l'.length<=l.length:=by rw[el,el'];exact yO HGE.out
 have HTOP:=Lib.hid htop;have HP:Hid (l'.length=p+1):=Lib.hid (by omega);have HEL:=Lib.hid el;have HEL':=Lib.hid el';have HV:=Lib.hid hv;have HV':=Lib.hid hv';have HI:=Lib.hid hi;have HI':=Lib.hid hi';have HC:=Lib.hid hC0;have HC':=Lib.hid hC0';have hn1:¬(l'.length:Int)=1:=by omega
 clear el el' hv hv' hi hi' htop hC0 hC0' hp;go_enter Tryz.func80,Tryz.ntmps80
 go_wp2_with (first|(go_at_call 102;(with_reducible refine(xS _ H1 H1').mono ?_);rintro e w1 ⟨rfl,hb1⟩;obtain⟨⟨d0,d1,d2,d3⟩,⟨r0,r1⟩,⟨t0,t1⟩,⟨f0,f1⟩,⟨g0,g1⟩⟩:=nU hb1;have HB1:=Lib.hid hb1)|(go_at_call 128;refine(yX s s' _ hs hs').mono ?_;rintro e w2 ⟨rfl,rfl⟩)|(go_at_call 132;(with_reducible refine(aIh l.length l'.length A l c A' l' c' p _ rfl rfl (Kd.iF HC.out hb1) hcl (Kd.iF HC'.out hb1) hcl' HI.out HI'.out (by omega) HP.out hp1 (by have:=HP.out;omega) HTOP.out).mono ?_);rintro e w3 ⟨A1,q,c1,A2,r,c2,rfl,hc1,hC1,hi1,hl1,hv1,hc2,hC2,hi2,hl2,hv2,hb3⟩;have HL1:=Lib.hid hl1;have HL2:=Lib.hid hl2;have HVA:=Lib.hid hv1;have HVB:=Lib.hid hv2;clear hl1 hl2 hv1 hv2;refine Hid.out ?_))
 have HB3:=Lib.hid (HB1.out.trans (hb3.mono HB1.out.size));have hl1:=HL1.out;have hl2:=HL2.out;have hv1:=HVA.out;have hv2:=HVB.out;rw[HV.out,HV'.out]at hv1 hv2;have HQV:Hid (Mw.lv 1000000000 q=((n.natAbs/m.natAbs:Nat):Int)):=Lib.hid (by rw[hv1];rfl);have HRV:Hid (Mw.lv 1000000000 r=((n.natAbs%m.natAbs:Nat):Int)):=Lib.hid (by rw[hv2];rfl);have hq0:0<q.length:=by have:=HP.out;omega
 have hr0:0<r.length:=by omega
 have HC1:=Lib.hid hC1;have HC2:=Lib.hid hC2;have HI1:=Lib.hid hi1;have HI2:=Lib.hid hi2;have hlq:q.length<=1000000:=by omega
 have hlr:r.length<=1000000:=by have:=HP.out;omega
 clear hC1 hC2 hi1 hi2 hl1 hl2 hv1 hv2 d0 d1 d2 d3 r0 r1 t0 t1 f0 f1 g0 g1;obtain⟨⟨d0,d1,d2,d3⟩,⟨r0,r1⟩,⟨t0,t1⟩,⟨f0,f1⟩,⟨g0,g1⟩⟩:=nU (bN HB3.out);refine Lib.hid ?_;go_wp2_with fail
 have HM1:Hid (s*s'=1\/s*s' = -1\/n.natAbs/m.natAbs=0):=Lib.hid (by rw[HS.out,HS'.out];rcases HSG.out.1 with h|h<;>simp[h]);have HM2:Hid (s=1\/s = -1\/n.natAbs%m.natAbs=0):=Lib.hid (by rw[HS.out];rcases HSG.out.2 with h|h<;>simp[h]);refine jT (fun w'=>w'.cell? ⟨w.heap.size,0,none⟩=some (.int .i64 s)) 7 (by kernel_rfl) (by kernel_rfl) d0 (fun hHeld=>?_);refine Zq.tq 0 rfl ?_;refine Zq.tq 1 rfl ?_;refine Zq.tq 3 rfl ?_;refine Zq.tq 4 rfl ?_;refine Zq.tq 5 rfl ?_;refine eX 2 rfl (by decide +kernel) (fun K_ hK=>?_);go_simp;refine(rC (s*s') A1 q c1 (n.natAbs/m.natAbs) _ (Kd.iF HC1.out (bN (Below.refl _ _))) hq0 hc1 hlq HI1.out HQV.out HM1.out).mono ?_;rintro e w4 ⟨s3,A3,k3,c3,rfl,hN3,hb4⟩;have HB4:=Lib.hid (HB3.out.trans ((fK hb4).mono HB3.out.size));have c0_:=(nU HB4.out).1.1;go_wp2_with fail
 refine hK.out _ _ c0_ (fun hHeld=>?_);clear hK;try simp only[Act.put,Zq.a1,Zq.a2,Zq.a3]
 refine eX 6 rfl (by decide +kernel) (fun K_ hK=>?_);go_simp;refine(rC s A2 r c2 (n.natAbs%m.natAbs) _ (Kd.iF (Kd.iF HC2.out (bN (Below.refl _ _))) hb4) hr0 hc2 hlr HI2.out HRV.out HM2.out).mono ?_;rintro e w5 ⟨s4,A4,k4,c4,rfl,hN4,hb5⟩;have HB5:=Lib.hid (HB4.out.trans (hb5.mono HB4.out.size));have c1_:=(nU HB5.out).1.1;go_wp2_with fail
 refine hK.out _ _ c1_ (fun hHeld=>?_);clear hK;try simp only[Act.put,Zq.a1,Zq.a2,Zq.a3]
 refine mF (by decide +kernel) ?_;obtain⟨_,⟨r0,r1⟩,⟨t0,t1⟩,⟨f0,f1⟩,⟨g0,g1⟩⟩:=nU HB5.out;obtain⟨HX,HY,HZ,y0,y1,y2,y3⟩:=uZ (hN3.below hb5) hN4 ⟨r0,r1⟩ ⟨t0,t1⟩ w (HB.out.trans (HB5.out.mono HB.out.size)) (by omega);go_wp2
 exact bodyPost_ret (v:=.tuple #[.agg #[.int .i64 s3,.slice A3 k3 c3],.agg #[.int .i64 s4,.slice A4 k4 c4]]) (by simp[results,Tryz.results80,go_sem,y0,y1,y2,y3]) rfl
  ⟨_,_,_,_,_,_,_,_,rfl,by rw[HQ.out.1,<-HS.out,<-HS'.out];exact HX.out,by rw[HQ.out.2,<-HS.out];exact HY.out,HZ.out⟩
theorem aAg {s s':Int} {A A':Option Addr} {k c k' c':Nat} {n m:Int} (w:World) (H:dS w s A k c n) (H':dS w s' A' k' c' m) (hm:m≠0) (hk:k<=800000) (hk':k'<=800000):
 Calls Tryz.prog 80 #[.agg #[.int .i64 s,.slice A k c],.agg #[.int .i64 s',.slice A' k' c']] w fun e w'=>
  ∃s2 A2 k2 c2 s3 A3 k3 c3,e = .returned (.tuple #[.agg #[.int .i64 s2,.slice A2 k2 c2],.agg #[.int .i64 s3,.slice A3 k3 c3]])/\dS w' s2 A2 k2 c2 (n.tdiv m)/\dS w' s3 A3 k3 c3 (n.tmod m)/\Below w.heap.size w w':=by
 by_cases hlt:n.natAbs<m.natAbs;·exact aMs w H H' hlt
 ·(have hp:0<k':=by rw[H'.len,sG];omega);by_cases h1:k'=1;(·exact aLb w H H' hm (by omega) hk h1);·exact aJv w H H' hm (by omega) hk hk' (by omega)
structure Bx where
 s:Int
 A:Option Addr
 k:Nat
 c:Nat
def Fr (W:World):Nat->List Bx->Prop
 | _,[]=>True
 | B,x::r=>(W.cell? ⟨B,0,none⟩=some (.int .i64 x.s)/\W.cell? ⟨B,1,none⟩=some (.slice x.A x.k x.c)/\W.frozen? ⟨B,0,none⟩=false/\W.frozen? ⟨B,1,none⟩=false/\B<W.heap.size)/\Fr W (B+1) r
theorem Fr.below {W W1:World} {X:Nat} (hb:Below X W W1):∀{l:List Bx} {B:Nat},Fr W B l->B+l.length<=X->Fr W1 B l
 | [],_,_,_=>trivial
 | x::r,B,h,hx=>by simp only[List.length_cons]at hx;refine⟨⟨?_,?_,?_,?_,Nat.lt_of_lt_of_le h.1.2.2.2.2 hb.size⟩,Fr.below hb h.2 (by omega)⟩;(·rw[hb.cell (p:=⟨B,0,none⟩) (by simp;omega)];exact h.1.1);(·rw[hb.cell (p:=⟨B,1,none⟩) (by simp;omega)];exact h.1.2.1);(·rw[hb.frozen (p:=⟨B,0,none⟩) (by simp;omega)];exact h.1.2.2.1);·rw[hb.frozen (p:=⟨B,1,none⟩) (by simp;omega)];exact h.1.2.2.2.1
theorem Fr.size {W:World}:∀{l:List Bx} {B:Nat},Fr W B l->B<=W.heap.size->B+l.length<=W.heap.size
 | [],_,_,hB=>by simpa using hB
 | x::r,B,h,_=>by have h1:=Fr.size h.2 h.1.2.2.2.2;simp only[List.length_cons];omega
theorem Fr.call {W W1:World} {l:List Bx} {B:Nat} (h:Fr W B l) (hB:B<=W.heap.size) (hb:Below W.heap.size W W1):Fr W1 B l:=Fr.below hb h (h.size hB)
theorem Fr.drew {W:World} {l:List Bx} {B:Nat} (h:Fr W B l) (hB:B<=W.heap.size):Fr W.drew B l:=h.call hB (bN (Below.refl _ _))
theorem Fr.alloc {W:World} {l:List Bx} {B:Nat} (h:Fr W B l) (hB:B<=W.heap.size) (o:Obj):Fr (W.alloc o) B l:=h.call hB (bA (Below.refl _ _) o)
theorem zC {W:World} {g o:Nat} {v:Value}:∀{l:List Bx} {B:Nat},Fr W B l->(g<B\/B+l.length<=g)->Fr (W.setCell ⟨g,o,none⟩ v) B l
 | [],_,_,_=>trivial
 | x::r,B,h,hx=>by simp only[List.length_cons]at hx;(have hne:g≠B:=by omega);refine⟨⟨?_,?_,?_,?_,by simpa using h.1.2.2.2.2⟩,zC h.2 (by omega)⟩;(·rw[World.cell?_setCell_far _ _ _ _ hne];exact h.1.1);(·rw[World.cell?_setCell_far _ _ _ _ hne];exact h.1.2.1);(·rw[World.frozen?_setCell];exact h.1.2.2.1);·rw[World.frozen?_setCell];exact h.1.2.2.2.1
theorem Fr.put {W:World} (s:Int) (A:Option Addr) (k c:Nat):∀{l:List Bx} {B:Nat} (i:Nat),Fr W B l->Fr ((W.setCell ⟨B+i,0,none⟩ (.int .i64 s)).setCell ⟨B+i,1,none⟩ (.slice A k c)) B (l.set i ⟨s,A,k,c⟩)
 | [],_,_,_=>by simp[Fr]
 | x::r,B,0,h=>by refine⟨⟨?_,?_,?_,?_,by simpa using h.1.2.2.2.2⟩,zC (zC h.2 (.inl (by omega))) (.inl (by omega))⟩;(·rw[World.cell?_setCell_other _ _ _ _ (by simp)];exact World.cell?_setCell_same _ _ _ h.1.1);(·exact World.cell?_setCell_same _ _ _ ((World.cell?_setCell_other _ _ _ _ (by simp)).trans h.1.2.1));(·rw[World.frozen?_setCell,World.frozen?_setCell];exact h.1.2.2.1);·rw[World.frozen?_setCell,World.frozen?_setCell];exact h.1.2.2.2.1
 | x::r,B,i+1,h=>by have h2:=Fr.put s A k c i h.2;rw[show B+1+i=B+(i+1) by omega]at h2;refine⟨⟨?_,?_,?_,?_,by simpa using h.1.2.2.2.2⟩,h2⟩;(·exact lK h.1.1 (by omega));(·exact lK h.1.2.1 (by omega));(·rw[World.frozen?_setCell,World.frozen?_setCell];exact h.1.2.2.1);·rw[World.frozen?_setCell,World.frozen?_setCell];exact h.1.2.2.2.1
theorem Fr.at {W:World}:∀{l:List Bx} {B:Nat} (i:Nat),Fr W B l->i<l.length->∃x:Bx,W.cell? ⟨B+i,0,none⟩=some (.int .i64 x.s)/\W.cell? ⟨B+i,1,none⟩=some (.slice x.A x.k x.c)
 | [],_,_,_,hi=>by simp at hi
 | x::r,B,0,h,_=>⟨x,h.1.1,h.1.2.1⟩
 | x::r,B,i+1,h,hi=>by obtain⟨y,h1,h2⟩:=Fr.at i h.2 (by simpa using hi);rw[show B+1+i=B+(i+1) by omega]at h1 h2;exact⟨y,h1,h2⟩
theorem dS.put {W:World} {s:Int} {A:Option Addr} {k c:Nat} {n:Int} (h:dS W s A k c n) {l:List Bx} {B:Nat} (F:Fr W B l) (i:Nat) (hi:i<l.length) (s':Int) (A':Option Addr) (k' c':Nat):
 dS ((W.setCell ⟨B+i,0,none⟩ (.int .i64 s')).setCell ⟨B+i,1,none⟩ (.slice A' k' c')) s A k c n:=by
 obtain⟨x,h1,h2⟩:=F.at i hi;exact(h.set (.int .i64 s') h1 (by simp)).set (.slice A' k' c') ((World.cell?_setCell_other _ _ _ _ (by simp)).trans h2) (by simp)
theorem aAY {w W:World} {B i:Nat} (hb:Below w.heap.size w W) (hB:w.heap.size<=B) (s':Int) (A':Option Addr) (k' c':Nat):
 Below w.heap.size w ((W.setCell ⟨B+i,0,none⟩ (.int .i64 s')).setCell ⟨B+i,1,none⟩ (.slice A' k' c')):=(hb.setCell (by simp;omega) _).setCell (by simp;omega) _
theorem Fr.snoc {W:World} {B:Nat}:∀{l:List Bx},Fr W B l->B+l.length=W.heap.size->∀(x:Bx) (t:TypeId),Fr (W.alloc (.cells #[.int .i64 x.s,.slice x.A x.k x.c] t)) B (l++[x]):=by
 intro l;induction l generalizing B with
 | nil=>intro _ hB x t;simp only[List.length_nil,Nat.add_zero]at hB;subst hB;refine⟨⟨?_,?_,?_,?_,by simp⟩,trivial⟩<;>simp[go_sem]
 | cons y r ih=>intro h hB x t;simp only[List.length_cons]at hB;have h1:=ih h.2 (by omega) x t;refine⟨?_,h1⟩;have h2:=(Fr.alloc (W:=W) (l:=[y]) (B:=B) ⟨h.1,trivial⟩ (Nat.le_of_lt h.1.2.2.2.2) (.cells #[.int .i64 x.s,.slice x.A x.k x.c] t)).1;exact h2
def bxs (w:World) (t:TypeId):List Bx->World
 | []=>w
 | x::r=>bxs (w.alloc (.cells #[.int .i64 x.s,.slice x.A x.k x.c] t)) t r
theorem nT (t:TypeId):∀(l:List Bx) (w:World) {B:Nat} {w0:World},B<=w.heap.size->Below B w0 w->Below B w0 (bxs w t l)
 | [],_,_,_,_,h=>h
 | x::r,w,B,w0,hB,h=>nT t r _ (by simp;omega) (h.alloc hB _)
theorem yJ (t:TypeId):∀(l:List Bx) (w:World),Fr (bxs w t l) w.heap.size l
 | [],_=>trivial
 | x::r,w=>by have h:=yJ t r (w.alloc (.cells #[.int .i64 x.s,.slice x.A x.k x.c] t));rw[show(w.alloc (.cells #[.int .i64 x.s,.slice x.A x.k x.c] t)).heap.size=w.heap.size+1 by simp]at h;have h0:=Fr.snoc (W:=w) (B:=w.heap.size) (l:=[]) trivial rfl x t;exact⟨(h0.below (nT t r _ (Nat.le_refl _) (Below.refl _ _)) (by simp)).1,h⟩
theorem Fr.c1 {W:World} {B:Nat} {s0:Int} {A0:Option Addr} {k0 c0:Nat} (h:Fr W B [⟨s0,A0,k0,c0⟩]):(W.cell? ⟨B,0,none⟩=some (.int .i64 s0)/\W.cell? ⟨B,1,none⟩=some (.slice A0 k0 c0)/\W.frozen? ⟨B,0,none⟩=false/\W.frozen? ⟨B,1,none⟩=false):=⟨h.1.1,h.1.2.1,h.1.2.2.1,h.1.2.2.2.1⟩
theorem Fr.c2 {W:World} {B:Nat} {s0 s1:Int} {A0 A1:Option Addr} {k0 c0 k1 c1:Nat} (h:Fr W B [⟨s0,A0,k0,c0⟩,⟨s1,A1,k1,c1⟩]):(W.cell? ⟨B,0,none⟩=some (.int .i64 s0)/\W.cell? ⟨B,1,none⟩=some (.slice A0 k0 c0)/\W.frozen? ⟨B,0,none⟩=false/\W.frozen? ⟨B,1,none⟩=false)/\(W.cell? ⟨B+1,0,none⟩=some (.int .i64 s1)/\W.cell? ⟨B+1,1,none⟩=some (.slice A1 k1 c1)/\W.frozen? ⟨B+1,0,none⟩=false/\W.frozen? ⟨B+1,1,none⟩=false):=⟨⟨h.1.1,h.1.2.1,h.1.2.2.1,h.1.2.2.2.1⟩,⟨h.2.1.1,h.2.1.2.1,h.2.1.2.2.1,h.2.1.2.2.2.1⟩⟩
theorem Fr.c3 {W:World} {B:Nat} {s0 s1 s2:Int} {A0 A1 A2:Option Addr} {k0 c0 k1 c1 k2 c2:Nat} (h:Fr W B [⟨s0,A0,k0,c0⟩,⟨s1,A1,k1,c1⟩,⟨s2,A2,k2,c2⟩]):(W.cell? ⟨B,0,none⟩=some (.int .i64 s0)/\W.cell? ⟨B,1,none⟩=some (.slice A0 k0 c0)/\W.frozen? ⟨B,0,none⟩=false/\W.frozen? ⟨B,1,none⟩=false)/\(W.cell? ⟨B+1,0,none⟩=some (.int .i64 s1)/\W.cell? ⟨B+1,1,none⟩=some (.slice A1 k1 c1)/\W.frozen? ⟨B+1,0,none⟩=false/\W.frozen? ⟨B+1,1,none⟩=false)/\(W.cell? ⟨B+1+1,0,none⟩=some (.int .i64 s2)/\W.cell? ⟨B+1+1,1,none⟩=some (.slice A2 k2 c2)/\W.frozen? ⟨B+1+1,0,none⟩=false/\W.frozen? ⟨B+1+1,1,none⟩=false):=⟨⟨h.1.1,h.1.2.1,h.1.2.2.1,h.1.2.2.2.1⟩,⟨h.2.1.1,h.2.1.2.1,h.2.1.2.2.1,h.2.1.2.2.2.1⟩,⟨h.2.2.1.1,h.2.2.1.2.1,h.2.2.1.2.2.1,h.2.2.1.2.2.2.1⟩⟩
theorem Fr.c4 {W:World} {B:Nat} {s0 s1 s2 s3:Int} {A0 A1 A2 A3:Option Addr} {k0 c0 k1 c1 k2 c2 k3 c3:Nat} (h:Fr W B [⟨s0,A0,k0,c0⟩,⟨s1,A1,k1,c1⟩,⟨s2,A2,k2,c2⟩,⟨s3,A3,k3,c3⟩]):(W.cell? ⟨B,0,none⟩=some (.int .i64 s0)/\W.cell? ⟨B,1,none⟩=some (.slice A0 k0 c0)/\W.frozen? ⟨B,0,none⟩=false/\W.frozen? ⟨B,1,none⟩=false)/\(W.cell? ⟨B+1,0,none⟩=some (.int .i64 s1)/\W.cell? ⟨B+1,1,none⟩=some (.slice A1 k1 c1)/\W.frozen? ⟨B+1,0,none⟩=false/\W.frozen? ⟨B+1,1,none⟩=false)/\(W.cell? ⟨B+1+1,0,none⟩=some (.int .i64 s2)/\W.cell? ⟨B+1+1,1,none⟩=some (.slice A2 k2 c2)/\W.frozen? ⟨B+1+1,0,none⟩=false/\W.frozen? ⟨B+1+1,1,none⟩=false)/\(W.cell? ⟨B+1+1+1,0,none⟩=some (.int .i64 s3)/\W.cell? ⟨B+1+1+1,1,none⟩=some (.slice A3 k3 c3)/\W.frozen? ⟨B+1+1+1,0,none⟩=false/\W.frozen? ⟨B+1+1+1,1,none⟩=false):=⟨⟨h.1.1,h.1.2.1,h.1.2.2.1,h.1.2.2.2.1⟩,⟨h.2.1.1,h.2.1.2.1,h.2.1.2.2.1,h.2.1.2.2.2.1⟩,⟨h.2.2.1.1,h.2.2.1.2.1,h.2.2.1.2.2.1,h.2.2.1.2.2.2.1⟩,⟨h.2.2.2.1.1,h.2.2.2.1.2.1,h.2.2.2.1.2.2.1,h.2.2.2.1.2.2.2.1⟩⟩
theorem nE {P:Program} {c:Code} {Q:Exit->Act->World->Prop} {a:Act} (R:World->Prop) {W:World} (hR:R W) (h:∀W',R W'->Code.wp P c Q a W'):Code.wp P c Q a W:=h W hR
end Go.Proofs.YtjieekkkaekclaaGreatDoor
namespace Go.Proofs.YtjieekkkaekclaaGreatDoor
open Go Go.RowKit Go.Extern.Stop Go.Stop Go.Extern
theorem aKO (t:Addr) (w:World):(ReflectliteValue.unpack (.iface 117 (.pointer (some t)))).run Tryz.prog w
 = .ok (.agg #[.pointer (some ⟨7,117,none⟩),.pointer (some ⟨w.heap.size,0,none⟩),.int .u64 150]) (w.alloc (.cells #[.pointer (some t)] 117)):=by kernel_rfl
theorem aMM (a:Addr) (w:World):(ReflectliteValue.methodAny (ReflectliteValue.valueError "reflectlite.Value.Type" 0) (fun t _ _ _=>ReflectliteType.toType t) #[.agg #[.pointer (some ⟨7,117,none⟩),.pointer (some a),.int .u64 150]]).run Tryz.prog w
 = .ok (.iface 175 (.agg #[.pointer (some ⟨7,117,none⟩)])) w:=by kernel_rfl
theorem aKy (h:Value) (w:World):(Go.method 383 175 (.agg #[h]) "Kind").run Tryz.prog w = .ok (218,h) w:=by kernel_rfl
theorem aMN (w:World):((ReflectliteType.abiMethod fun t=>(fun a:Nat=>Value.int IntKind.u8 (a:Int)) <$> Rtype.kind t) #[.pointer (some ⟨7,117,none⟩)]).run Tryz.prog w = .ok (.int .u8 22) w:=by kernel_rfl
theorem aMO (w:World):((ReflectliteType.abiMethod fun t=>(fun a:Nat=>Value.int IntKind.u8 (a:Int)) <$> Rtype.kind t) #[.pointer (some ⟨7,115,none⟩)]).run Tryz.prog w = .ok (.int .u8 25) w:=by kernel_rfl
theorem rlm (z:Sem Value) (f:TypeId->Addr->Nat->Nat->Sem Value) (v:Value):
 ReflectliteValue.method z f #[v]=(do match <-ReflectliteValue.parts v with|none=>z|some (t,a,fl)=>f t a fl (fl%32)):=rfl
theorem aCu (a:Addr) (w:World):(ReflectliteValue.parts (.agg #[.pointer (some ⟨7,117,none⟩),.pointer (some a),.int .u64 150])).run Tryz.prog w = .ok (some (117,a,150)) w:=by kernel_rfl
theorem aMe (a p:Addr) (W:World) (ha:W.cell? a=some (.pointer (some p))):
 (ReflectliteValue.method (ReflectliteValue.valueError "reflectlite.Value.IsNil" 0) ReflectliteValue.isNil #[.agg #[.pointer (some ⟨7,117,none⟩),.pointer (some a),.int .u64 150]]).run Tryz.prog W = .ok (.bool false) W:=by
 rw[rlm];simp only[Sem.run_bind,aCu,Result.andThen];simp[ReflectliteValue.isNil,loadVar,isAgg,underlying,Tryz.underlying117,ha,Result.andThen]
theorem aKz (h:Value) (w:World):(Go.method 383 175 (.agg #[h]) "Elem").run Tryz.prog w = .ok (266,.agg #[h]) w:=by kernel_rfl
theorem aGw (h:Value) (w:World):(Go.method 383 175 (.agg #[h]) "Implements").run Tryz.prog w = .ok (267,.agg #[h]) w:=by kernel_rfl
theorem aFi (h:Value) (w:World):(Go.method 383 175 (.agg #[h]) "AssignableTo").run Tryz.prog w = .ok (264,.agg #[h]) w:=by kernel_rfl
theorem aMP (w:World):(ReflectliteType.method ReflectliteType.elem #[.agg #[.pointer (some ⟨7,117,none⟩)]]).run Tryz.prog w = .ok (.iface 175 (.agg #[.pointer (some ⟨7,115,none⟩)])) w:=by kernel_rfl
theorem aIV (w:World):(ReflectliteType.relation "Implements" ReflectliteType.implements_ #[.agg #[.pointer (some ⟨7,115,none⟩)],.iface 175 (.agg #[.pointer (some ⟨7,112,none⟩)])]).run Tryz.prog w = .ok (.bool true) w:=by kernel_rfl
theorem aLW (v:Value) (w:World):(ReflectliteType.typeOf #[.iface 115 v]).run Tryz.prog w = .ok (.iface 175 (.agg #[.pointer (some ⟨7,115,none⟩)])) w:=by kernel_rfl
theorem aIW (w:World):(ReflectliteType.relation "AssignableTo" ReflectliteType.assignableTo #[.agg #[.pointer (some ⟨7,115,none⟩)],.iface 175 (.agg #[.pointer (some ⟨7,115,none⟩)])]).run Tryz.prog w = .ok (.bool true) w:=by kernel_rfl
theorem aKP (e:Int) (w:World):(ReflectliteValue.unpack (.iface 115 (.agg #[.int .i64 e]))).run Tryz.prog w
 = .ok (.agg #[.pointer (some ⟨7,115,none⟩),.pointer (some ⟨w.heap.size,0,none⟩),.int .u64 153]) (w.alloc (.cells #[.int .i64 e] 115)):=by kernel_rfl
theorem aFj (w:World):(Rtype.elem? 117).run Tryz.prog w = .ok (some 115) w:=by kernel_rfl
theorem aKx (p:Addr) (w:World):(ReflectliteValue.mk 115 p ReflectliteValue.flagAddr).run Tryz.prog w = .ok (.agg #[.pointer (some ⟨7,115,none⟩),.pointer (some p),.int .u64 409]) w:=by kernel_rfl
theorem aMf (a p:Addr) (W:World) (ha:W.cell? a=some (.pointer (some p))):
 (ReflectliteValue.method (ReflectliteValue.valueError "reflectlite.Value.Elem" 0) ReflectliteValue.elem #[.agg #[.pointer (some ⟨7,117,none⟩),.pointer (some a),.int .u64 150]]).run Tryz.prog W
  = .ok (.agg #[.pointer (some ⟨7,115,none⟩),.pointer (some p),.int .u64 409]) W:=by
 rw[rlm];simp only[Sem.run_bind,aCu,Result.andThen];simp[ReflectliteValue.elem,loadVar,isAgg,underlying,Tryz.underlying117,ha,Result.andThen,aFj,aKx]
theorem rls (v x:Value):ReflectliteValue.set #[v,x]=(do
 let(some (dst,a,fl),some (src,b,_)):=(<-ReflectliteValue.parts v,<-ReflectliteValue.parts x)
  | unsupported (.noEntry "extern/(internal/reflectlite.Value).Set.zeroValue")
 if fl/ReflectliteValue.flagAddr%2 == 0 then unsupported (.noEntry "extern/(internal/reflectlite.Value).Set.unaddressable")
 let val <-loadVar src b
 if <-Rtype.directlyAssignable dst src then storeVar dst a val
 else if <-Rtype.implements dst src then
  if(<-Rtype.kind src) == 20 then
   match val with
   | .nilIface=>unsupported (.noEntry "extern/reflectlite: a nil value of one interface type handed on as a value of another")
   | _=>storeVar dst a val
  else storeVar dst a (.iface src val)
 else panicString ("reflectlite.Set: value of type " ++ (<-Rtype.spelt src) ++ " is not assignable to type " ++ (<-Rtype.spelt dst))
 pure (.tuple #[])):=rfl
theorem aFh (a:Addr) (w:World):(ReflectliteValue.parts (.agg #[.pointer (some ⟨7,115,none⟩),.pointer (some a),.int .u64 409])).run Tryz.prog w = .ok (some (115,a,409)) w:=by kernel_rfl
theorem aGv (a:Addr) (w:World):(ReflectliteValue.parts (.agg #[.pointer (some ⟨7,115,none⟩),.pointer (some a),.int .u64 153])).run Tryz.prog w = .ok (some (115,a,153)) w:=by kernel_rfl
theorem aFk (w:World):(Rtype.directlyAssignable 115 115).run Tryz.prog w = .ok true w:=by kernel_rfl
theorem aDI (w:World):(sizeOf 115).run Tryz.prog w = .ok 1 w:=by kernel_rfl
theorem aMY (e:Int) (ta b:Addr) (old:Value) (W:World) (hb:W.cell? b=some (.int .i64 e)) (ht:W.cell? ta=some old) (hf:W.frozen? ta=false):
 (ReflectliteValue.set #[.agg #[.pointer (some ⟨7,115,none⟩),.pointer (some ta),.int .u64 409],.agg #[.pointer (some ⟨7,115,none⟩),.pointer (some b),.int .u64 153]]).run Tryz.prog W
  = .ok (.tuple #[]) (W.setCell ta (.int .i64 e)):=by
 rw[rls];have hl:(loadCells b 1).run Tryz.prog W = .ok #[.int .i64 e] W:=by have hz:W.cell? (b.add 0)=some (.int .i64 e):=hb;have h:=run_loadCells (P:=Tryz.prog) W b 1 (fun _=>.int .i64 e) (fun j hj=>by(obtain rfl:j=0:=by omega);exact hz);exact h
 have hlv:(loadVar 115 b).run Tryz.prog W = .ok (.agg #[.int .i64 e]) W:=by simp[loadVar,isAgg,underlying,Tryz.underlying115,aDI,hl,Result.andThen]
 have hst:=run_store Tryz.prog W ta (.int .i64 e) .plain (by rfl);rw[ht]at hst;simp only[hf]at hst;have hsv:(storeVar 115 ta (.agg #[.int .i64 e])).run Tryz.prog W = .ok () (W.setCell ta (.int .i64 e)):=by simp[storeVar,aDI,Value.cells,storeCells,Addr.add,Result.andThen];simpa using hst
 simp only[Sem.run_bind,aFh,aGv,Result.andThen];simp[ReflectliteValue.flagAddr,Result.andThen,hlv,aFk,hsv]
theorem aNB (e:Int) (t:Addr) (old:Value) (w:World) (hg:w.cell? ⟨0,0,none⟩=some (.iface 175 (.agg #[.pointer (some ⟨7,112,none⟩)]))) (ht0:w.cell? t=some old) (hf0:w.frozen? t=false):
 Calls Tryz.prog 124 #[.iface 115 (.agg #[.int .i64 e]),.iface 117 (.pointer (some t))] w fun ev w'=>ev = .returned (.bool true)/\w'=((((w.alloc (.cells #[.pointer (some t)] 117)).alloc (.cells #[.pointer (some ⟨7,117,none⟩),.pointer (some ⟨w.heap.size,0,none⟩),.int .u64 150] 148)).alloc (.cells #[.pointer (some ⟨7,117,none⟩),.pointer (some ⟨w.heap.size,0,none⟩),.int .u64 150] 148)).alloc (.cells #[.int .i64 e] 115)).setCell t (.int .i64 e):=by
 have h6:=@run_callFunc_extern Tryz.prog 147 _ (fun args=>ReflectliteValue.unpack (args.getD 0 (.tuple #[]))) Tryz.func147 (by kernel_rfl) (by kernel_rfl) (by kernel_rfl) (by kernel_rfl);have h7:=@run_callFunc_extern Tryz.prog 148 _ (ReflectliteValue.methodAny (ReflectliteValue.valueError "reflectlite.Value.Type" 0) (fun t _ _ _=>ReflectliteType.toType t)) Tryz.func148 (by kernel_rfl) (by kernel_rfl) (by kernel_rfl) (by kernel_rfl);have h8:=@run_callFunc_extern Tryz.prog 149 _ (ReflectliteValue.method (ReflectliteValue.valueError "reflectlite.Value.IsNil" 0) ReflectliteValue.isNil) Tryz.func149 (by kernel_rfl) (by kernel_rfl) (by kernel_rfl) (by kernel_rfl);have h27:=@run_callFunc_extern Tryz.prog 218 _ (ReflectliteType.abiMethod fun t=>do pure (.int .u8 (<-Rtype.kind t))) Tryz.func218 (by kernel_rfl) (by kernel_rfl) (by kernel_rfl) (by kernel_rfl);have h37:=@run_callFunc_extern Tryz.prog 266 _ (ReflectliteType.method ReflectliteType.elem) Tryz.func266 (by kernel_rfl) (by kernel_rfl) (by kernel_rfl) (by kernel_rfl);have h38:=@run_callFunc_extern Tryz.prog 267 _ (ReflectliteType.relation "Implements" ReflectliteType.implements_) Tryz.func267 (by kernel_rfl) (by kernel_rfl) (by kernel_rfl) (by kernel_rfl);have h10:=@run_callFunc_extern Tryz.prog 166 _ ReflectliteType.typeOf Tryz.func166 (by kernel_rfl) (by kernel_rfl) (by kernel_rfl) (by kernel_rfl)
 have h35:=@run_callFunc_extern Tryz.prog 264 _ (ReflectliteType.relation "AssignableTo" ReflectliteType.assignableTo) Tryz.func264 (by kernel_rfl) (by kernel_rfl) (by kernel_rfl) (by kernel_rfl);have h11:=@run_callFunc_extern Tryz.prog 167 _ (ReflectliteValue.method (ReflectliteValue.valueError "reflectlite.Value.Elem" 0) ReflectliteValue.elem) Tryz.func167 (by kernel_rfl) (by kernel_rfl) (by kernel_rfl) (by kernel_rfl);have h12:=@run_callFunc_extern Tryz.prog 168 _ ReflectliteValue.set Tryz.func168 (by kernel_rfl) (by kernel_rfl) (by kernel_rfl) (by kernel_rfl);have tO:=aLW;have mA:=aFi;have a25:=aIW;have v25:=aKP;have f6:=aKO;have f7:=aMM;have mK:=aKy;have mE:=aKz;have mI:=aGw;have k27:=aMN;have k25:=aMO;have e27:=aMP;have i25:=aIV;have n8:=aMe ⟨w.heap.size,0,none⟩ t ((w.alloc (.cells #[.pointer (some t)] 117)).alloc (.cells #[.pointer (some ⟨7,117,none⟩),.pointer (some ⟨w.heap.size,0,none⟩),.int .u64 150] 148)) (by simp);have hlt:0<w.heap.size:=by rcases Nat.eq_zero_or_pos w.heap.size with h0|h;(·simp[World.cell?,h0]at hg);·exact h
 have hg2:((w.alloc (.cells #[.pointer (some t)] 117)).alloc (.cells #[.pointer (some ⟨7,117,none⟩),.pointer (some ⟨w.heap.size,0,none⟩),.int .u64 150] 148)).cell? ⟨0,0,none⟩=some (.iface 175 (.agg #[.pointer (some ⟨7,112,none⟩)])):=by rw[World.cell?_alloc_lt _ _ ⟨0,0,none⟩ (by simp),World.cell?_alloc_lt _ _ ⟨0,0,none⟩ hlt];exact hg
 have htl:t.block<w.heap.size:=by rcases Nat.lt_or_ge t.block w.heap.size with h|h;(·exact h);·simp[World.cell?,Array.getElem?_eq_none h]at ht0
 have el:=aMf ⟨w.heap.size,0,none⟩ t (((w.alloc (.cells #[.pointer (some t)] 117)).alloc (.cells #[.pointer (some ⟨7,117,none⟩),.pointer (some ⟨w.heap.size,0,none⟩),.int .u64 150] 148)).alloc (.cells #[.pointer (some ⟨7,117,none⟩),.pointer (some ⟨w.heap.size,0,none⟩),.int .u64 150] 148)) (by rw[World.cell?_alloc_lt _ _ ⟨w.heap.size,0,none⟩ (by simp;omega)];simp)
 have st:=aMY e t ⟨w.heap.size+1+1+1,0,none⟩ old ((((w.alloc (.cells #[.pointer (some t)] 117)).alloc (.cells #[.pointer (some ⟨7,117,none⟩),.pointer (some ⟨w.heap.size,0,none⟩),.int .u64 150] 148)).alloc (.cells #[.pointer (some ⟨7,117,none⟩),.pointer (some ⟨w.heap.size,0,none⟩),.int .u64 150] 148)).alloc (.cells #[.int .i64 e] 115))
  (by rw[World.cell?_alloc_at _ _ _ _ (by simp)];rfl)
  (by rw[World.cell?_alloc_lt _ _ t (by simp;omega),World.cell?_alloc_lt _ _ t (by simp;omega),World.cell?_alloc_lt _ _ t (by simp;omega),World.cell?_alloc_lt _ _ t htl];exact ht0)
  (by rw[World.frozen?_alloc_old _ _ t (by simp;omega),World.frozen?_alloc_old _ _ t (by simp;omega),World.frozen?_alloc_old _ _ t (by simp;omega),World.frozen?_alloc_old _ _ t (Nat.ne_of_lt htl)];exact hf0)
 go_enter Tryz.func124,Tryz.ntmps124
 go_wp2
 refine wp_loop_rounds 1 ?_;rw[rounds_succ];go_wp2
 go_ret
 exact⟨rfl,rfl⟩
end Go.Proofs.YtjieekkkaekclaaGreatDoor
namespace Go.Proofs.YtjieekkkaekclaaGreatDoor
open Go Go.RowKit Go.Pw.PrintWords
abbrev Ety (w:World):Prop:=w.cell? ⟨0,0,none⟩=some (.iface 175 (.agg #[.pointer (some ⟨7,112,none⟩)]))
abbrev wrg (c:Int):Value:=.iface 115 (.agg #[.int .i64 c])
abbrev thrown (c:Int):List PanicEntry:=[{v:=wrg c,recovered:=false}]
theorem aCB (c:Int) (w:World):Calls Tryz.prog 86 #[.bool false,.int .i64 c] w fun e w'=>e = .returned (.tuple #[])/\w'=w:=by
 go_enter Tryz.func86,Tryz.ntmps86
 go_wp2
 go_end0
 exact⟨rfl,rfl⟩
theorem aBI (c:Int) (w:World):Calls Tryz.prog 86 #[.bool true,.int .i64 c] w fun e w'=>e = .panicked (thrown c)/\w'=w:=by
 go_enter Tryz.func86,Tryz.ntmps86
 go_wp2
 exact⟨rfl,rfl,rfl⟩
theorem aMm (w:World):(Instr.typeAssert .nilIface 20 112 true).run Tryz.prog w = .ok (.tuple #[.nilIface,.bool false]) w:=by kernel_rfl
theorem aMl (v:Value) (xT:TypeId) (w:World):(Instr.typeAssert (.iface 115 v) xT 112 true).run Tryz.prog w = .ok (.tuple #[.iface 115 v,.bool true]) w:=
 run_typeAssert_hasB Tryz.underlying112 (by kernel_rfl) v xT w
theorem aHg (w:World):Calls Tryz.prog 68 #[.nilIface] w fun e w'=>e = .returned (.int .i64 0)/\w'=w:=by
 have h1:=aMm;go_enter Tryz.func68,Tryz.ntmps68
 go_wp2
 go_ret
 exact⟨rfl,rfl⟩
theorem aHf (c:Int) (w:World) (hg:Ety w):Calls Tryz.prog 68 #[wrg c] w fun e w'=>e = .returned (.int .i64 c)/\Below w.heap.size w w':=by
 have h1:=aMl;dsimp only[wrg];have hlt:0<w.heap.size:=by rcases Nat.eq_zero_or_pos w.heap.size with h0|h;(·have hg':w.cell? ⟨0,0,none⟩=some _:=hg;simp[World.cell?,h0]at hg');·exact h
 have hg2:=Lib.hid (show Ety (w.alloc (.cells #[.int .i64 0] 115)) by rw[Ety,World.cell?_alloc_lt _ _ ⟨0,0,none⟩ hlt];exact hg);clear hg;go_enter Tryz.func68,Tryz.ntmps68
 go_wp2_with (first|(go_at_call 124;refine(aNB c ⟨w.heap.size,0,none⟩ (.int .i64 0) _ hg2.out (by simp) (by simp)).mono ?_;rintro e w1 ⟨rfl,rfl⟩))
 go_ret
 refine⟨rfl,?_⟩;exact(((((Below.refl _ w).alloc (Nat.le_refl _) _).alloc (by simp only[World.size_alloc];omega) _).alloc (by simp only[World.size_alloc];omega) _).alloc (by simp only[World.size_alloc];omega) _).alloc (by simp only[World.size_alloc];omega) _
abbrev aDx (s1:String):Code:=Code.region 0
 #[{dst:=some 1,op:=Op.call {callee:=Callee.builtin Builtin.recover,args:=#[],argTypes:=#[]},type:=20,pos:=s1,after:=#[],guard:=none},
  {dst:=some 2,op:=Op.call {callee:=Callee.value (Operand.func 68),args:=#[Operand.tmp 1],argTypes:=#[20]},type:=28,pos:=s1,
   after:=#[{on:=0,ground:=Ground.data},{on:=0,ground:=Ground.chain}],guard:=none},
  {dst:=none,op:=Op.store 28 (Operand.tmp 0) (Operand.tmp 2),type:=0,pos:=s1,
   after:=#[{on:=1,ground:=Ground.data},{on:=1,ground:=Ground.chain},{on:=0,ground:=Ground.phase},{on:=1,ground:=Ground.phase}],guard:=none}] false
theorem aEw {K:FuncId} {fn:Func} {s1:String} (hf:Tryz.prog.funcs[K]?=some fn) (hb:fn.body=some (aDx s1)) (hn:fn.ntmps=3) (hr:fn.results=#[]) (p:Addr) (x:Value) (w:World) (hc:w.cell? p=some x) (hz:w.frozen? p=false):
 CallsD Tryz.prog K #[.pointer (some p)] .returning w fun e u' w'=>e = .returned (.tuple #[])/\u' = .returning/\w'=w.setCell p (.int .i64 0):=by
 refine callsD_of_wpS hf hb fun c₀ cs hu=>?_
 apply wpS_region;simp[wpOpsS,go_sem,recoverD,hu,hn,Exit.thenS];refine(aHg w).mono ?_;rintro e w' ⟨rfl,rfl⟩;simp[wpOpsS,go_sem,hc,hz,bodyPostS,results,hr];cases c₀;simp_all
theorem aDw {K:FuncId} {fn:Func} {s1:String} (hf:Tryz.prog.funcs[K]?=some fn) (hb:fn.body=some (aDx s1)) (hn:fn.ntmps=3) (hr:fn.results=#[]) (p:Addr) (x:Value) (c:Int) (w:World) (hg:Ety w) (hp:p.block<w.heap.size) (hc:w.cell? p=some x) (hz:w.frozen? p=false):
 CallsD Tryz.prog K #[.pointer (some p)] (.panicking (thrown c)) w fun e u' w'=>e = .returned (.tuple #[])/\u' = .panicking [{v:=wrg c,recovered:=true}]/\∃w1,Below w.heap.size w w1/\w'=w1.setCell p (.int .i64 c):=by
 refine callsD_of_wpS hf hb fun c₀ cs hu=>?_
 apply wpS_region;simp[wpOpsS,go_sem,recoverD,hu,hn,Exit.thenS];refine(aHf c w hg).mono ?_;rintro e w' ⟨rfl,hbw⟩;have hc':w'.cell? p=some x:=by rw[<-hc];exact hbw.cell hp
 have hz':w'.frozen? p=false:=by rw[<-hz];exact hbw.frozen hp
 simp[wpOpsS,go_sem,hc',hz',bodyPostS,results,hr];exact⟨w',hbw,rfl⟩
end Go.Proofs.YtjieekkkaekclaaGreatDoor
