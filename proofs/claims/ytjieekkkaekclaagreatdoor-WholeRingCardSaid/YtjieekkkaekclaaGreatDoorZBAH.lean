/- Lemmas for the claim beside this text. -/
import Derived.Test.YtjieekkkaekclaaGreatDoorZBAB
import Derived.Test.YtjieekkkaekclaaGreatDoorZBAE
import Derived.Test.YtjieekkkaekclaaGreatDoorZBAG
set_option linter.all false
set_option linter.unusedVariables false
set_option linter.unusedSimpArgs false
set_option maxHeartbeats 1000000
set_option maxRecDepth 100000
namespace Go.Proofs.YtjieekkkaekclaaGreatDoor
open Go.RowKit Go.Pw.PrintWords
abbrev aLR (w:World) (t':TypeId) (a b a' b':Value):World:=
 ((w.alloc (.cells #[a,b] t')).alloc (.cells #[a',b'] t')).alloc (.cells #[.int .i64 0,.slice none 0 0] t')
theorem aBm (w:World) (t':TypeId) (a b a' b':Value):Below w.heap.size w (aLR w t' a b a' b'):=
 (((Below.refl _ _).alloc (Nat.le_refl _) _).alloc (by simp) _).alloc (by simp;omega) _
theorem oN {w w1:World} {t':TypeId} {a b a' b':Value} (hb:Below (aLR w t' a b a' b').heap.size (aLR w t' a b a' b') w1):
 (w1.cell? ⟨w.heap.size,0,none⟩=some a/\w1.cell? ⟨w.heap.size,1,none⟩=some b/\w1.cell? ⟨w.heap.size+1,0,none⟩=some a'/\w1.cell? ⟨w.heap.size+1,1,none⟩=some b')/\
 w1.cell? ⟨w.heap.size+1+1,0,none⟩=some (.int .i64 0)/\w1.cell? ⟨w.heap.size+1+1,1,none⟩=some (.slice none 0 0)/\
 w1.frozen? ⟨w.heap.size+1+1,0,none⟩=false/\w1.frozen? ⟨w.heap.size+1+1,1,none⟩=false/\w.heap.size+1+1<w1.heap.size:=by
 unfold aLR at hb;have h0:=hb.cell (p:=⟨w.heap.size,0,none⟩) (by simp<;>omega);have h1:=hb.cell (p:=⟨w.heap.size,1,none⟩) (by simp<;>omega);have h2:=hb.cell (p:=⟨w.heap.size+1,0,none⟩) (by simp<;>omega);have h3:=hb.cell (p:=⟨w.heap.size+1,1,none⟩) (by simp<;>omega);have h4:=hb.cell (p:=⟨w.heap.size+1+1,0,none⟩) (by simp);have h5:=hb.cell (p:=⟨w.heap.size+1+1,1,none⟩) (by simp);have h6:=hb.frozen (p:=⟨w.heap.size+1+1,0,none⟩) (by simp);have h7:=hb.frozen (p:=⟨w.heap.size+1+1,1,none⟩) (by simp);have h8:=hb.size;simp[go_sem]at h0 h1 h2 h3 h4 h5 h6 h7 h8;exact⟨⟨h0,h1,h2,h3⟩,h4,h5,h6,h7,by omega⟩
theorem yS {s:Int} {A:Option Addr} {k c:Nat} {n:Int} (w:World) (x:Int) (b:Bool) (H:dS w s A k c n) (hx:x=if n.natAbs<1000000000 then n else 0) (hb:b=decide (n.natAbs<1000000000)):
 Calls Tryz.prog 87 #[.agg #[.int .i64 s,.slice A k c]] w fun e w'=>e = .returned (.tuple #[.int .i64 x,.bool b])/\Below w.heap.size w w':=by
 by_cases h:n.natAbs<1000000000;·rw[if_pos h]at hx;subst hx;rw[hb,decide_eq_true h];exact aC2 w H h
 ·rw[if_neg h]at hx;subst hx;rw[hb,decide_eq_false h];exact aFB w H (by omega)
theorem aIU (W:World):(Instr.typeAssert (.iface 125 (.agg #[])) 168 125 true).run Tryz.prog W = .ok (.tuple #[.agg #[],.bool true]) W:=by kernel_rfl
theorem aIR (W:World):(Instr.typeAssert (.iface 124 (.agg #[])) 168 125 true).run Tryz.prog W = .ok (.tuple #[.agg #[],.bool false]) W:=by kernel_rfl
theorem aIQ (W:World):(Instr.typeAssert (.iface 124 (.agg #[])) 168 124 true).run Tryz.prog W = .ok (.tuple #[.agg #[],.bool true]) W:=by kernel_rfl
theorem aIT (W:World):(Instr.typeAssert (.iface 126 (.agg #[])) 168 125 true).run Tryz.prog W = .ok (.tuple #[.agg #[],.bool false]) W:=by kernel_rfl
theorem aIS (W:World):(Instr.typeAssert (.iface 126 (.agg #[])) 168 124 true).run Tryz.prog W = .ok (.tuple #[.agg #[],.bool false]) W:=by kernel_rfl
theorem aJU (W:World):(method 383 125 (.agg #[]) "metewand/limbs.do").run Tryz.prog W = .ok (224,.agg #[]) W:=by kernel_rfl
theorem aJS (W:World):(method 383 124 (.agg #[]) "metewand/limbs.do").run Tryz.prog W = .ok (223,.agg #[]) W:=by kernel_rfl
theorem aJT (W:World):(method 383 126 (.agg #[]) "metewand/limbs.do").run Tryz.prog W = .ok (227,.agg #[]) W:=by kernel_rfl
theorem aEb {x y:Int} (hx:x.natAbs<1000000000) (hy:y.natAbs<1000000000):-1000000000000000000<=x*y/\x*y<=1000000000000000000:=by have h1:x.natAbs*y.natAbs<=1000000000*1000000000:=Nat.mul_le_mul (by omega) (by omega);rw[<-Int.natAbs_mul]at h1;omega
theorem wrap_mul {x y:Int} (hx:x.natAbs<1000000000) (hy:y.natAbs<1000000000):wrap64 (x*y)=x*y:=by have:=aEb hx hy;generalize x*y=z at *;unfold wrap64;omega
theorem aFv {s s':Int} {A A':Option Addr} {k c k' c':Nat} {n m:Int} (w:World) (H:dS w s A k c n) (H':dS w s' A' k' c' m) (hk:k<=900000) (hk':k'<=900000):
 Calls Tryz.prog 130 #[.iface 125 (.agg #[]),.agg #[.int .i64 s,.slice A k c],.agg #[.int .i64 s',.slice A' k' c']] w fun e w'=>
  ∃s2 A2 k2 c2,e = .returned (.agg #[.int .i64 s2,.slice A2 k2 c2])/\dS w' s2 A2 k2 c2 (n+m)/\Below w.heap.size w w':=by
 have hb0:=aBm w 71 (.int .i64 s) (.slice A k c) (.int .i64 s') (.slice A' k' c');have H1:=H.below hb0;have H1':=H'.below hb0;have HB:=Lib.hid hb0;clear hb0;obtain⟨x,hx⟩:∃x,x=if n.natAbs<1000000000 then n else 0:=⟨_,rfl⟩
 obtain⟨y,hy⟩:∃x,x=if m.natAbs<1000000000 then m else 0:=⟨_,rfl⟩
 obtain⟨b1,hb1⟩:∃b,b=decide (n.natAbs<1000000000):=⟨_,rfl⟩;obtain⟨b2,hb2⟩:∃b,b=decide (m.natAbs<1000000000):=⟨_,rfl⟩;have HX:=Lib.hid hx;have HY:=Lib.hid hy;have HB1:=Lib.hid hb1;have HB2:=Lib.hid hb2;clear hx hy hb1 hb2;go_enter Tryz.func130,Tryz.ntmps130
 go_upto_region 2 with(first|(go_at_call 87;(with_reducible refine(yS _ x b1 H1 HX.out HB1.out).mono ?_);rintro e w1 ⟨rfl,hb1⟩;obtain⟨⟨d0,d1,d2,d3⟩,r0,r1,f0,f1,z0⟩:=oN hb1))
 have H2:=H1.below hb1;have H2':=H1'.below hb1;go_upto_region 3 with(first|(go_at_call 87;(with_reducible refine(yS _ y b2 H2' HY.out HB2.out).mono ?_);rintro e w2 ⟨rfl,hb2⟩;obtain⟨⟨e0,e1,e2,e3⟩,q0,q1,g0,g1,z1⟩:=oN (hb1.trans (hb2.mono hb1.size))))
 have H3:=H2.below hb2;have H3':=H2'.below hb2;have HBB:=Lib.hid (HB.out.trans ((hb1.trans (hb2.mono hb1.size)).mono HB.out.size));clear d0 d1 d2 d3 r0 r1 f0 f1 z0 H1 H1' H2 H2';have mth:=aJU;cases b1 with
 | false=>(go_wp2_with (first|(go_at_call 224;(with_reducible refine(aCh _ H3 H3' hk hk').mono ?_);rintro e w3 ⟨s2,A2,k2,c2,rfl,hN,hb3⟩;obtain⟨⟨d0,d1,d2,d3⟩,r0,r1,f0,f1,z0⟩:=oN ((hb1.trans (hb2.mono hb1.size)).trans (hb3.mono (Nat.le_trans hb1.size hb2.size))))));obtain⟨HN1,hA,hBc⟩:=lY hN r0 r1;have HB3:=Lib.hid (HBB.out.trans (hb3.mono HBB.out.size));(go_wp2);exact bodyPost_ret (v:=.agg #[.int .i64 s2,.slice A2 k2 c2]) (by simp[results,Tryz.results130,go_sem,hA,hBc]) rfl ⟨s2,A2,k2,c2,rfl,HN1.out,(HB3.out.setCell (by simp<;>omega) _).setCell (by simp<;>omega) _⟩
 | true=>
  cases b2 with
  | false=>(go_wp2_with (first|(go_at_call 224;(with_reducible refine(aCh _ H3 H3' hk hk').mono ?_);rintro e w3 ⟨s2,A2,k2,c2,rfl,hN,hb3⟩;obtain⟨⟨d0,d1,d2,d3⟩,r0,r1,f0,f1,z0⟩:=oN ((hb1.trans (hb2.mono hb1.size)).trans (hb3.mono (Nat.le_trans hb1.size hb2.size))))));obtain⟨HN1,hA,hBc⟩:=lY hN r0 r1;have HB3:=Lib.hid (HBB.out.trans (hb3.mono HBB.out.size));(go_wp2);exact bodyPost_ret (v:=.agg #[.int .i64 s2,.slice A2 k2 c2]) (by simp[results,Tryz.results130,go_sem,hA,hBc]) rfl ⟨s2,A2,k2,c2,rfl,HN1.out,(HB3.out.setCell (by simp<;>omega) _).setCell (by simp<;>omega) _⟩
  | true=>(have hn:n.natAbs<1000000000:=by have:=HB1.out;simpa using this);(have hm:m.natAbs<1000000000:=by have:=HB2.out;simpa using this);(have ex:x=n:=by have:=HX.out;rwa[if_pos hn]at this);(have ey:y=m:=by have:=HY.out;rwa[if_pos hm]at this);subst ex ey;(have HXB : -1000000000<x/\x<1000000000:=by omega);(have HYB : -1000000000<y/\y<1000000000:=by omega);have ta:=aIU;(go_wp2_with (first|(go_at_call 73;(with_reducible refine(oM _ _ (by omega) (by omega)).mono ?_);rintro e w3 ⟨s2,A2,k2,c2,rfl,hN,hb3⟩;obtain⟨⟨d0,d1,d2,d3⟩,r0,r1,f0,f1,z0⟩:=oN ((hb1.trans (hb2.mono hb1.size)).trans (hb3.mono (Nat.le_trans hb1.size hb2.size))))));obtain⟨HN1,hA,hBc⟩:=lY hN r0 r1;have HB3:=Lib.hid (HBB.out.trans (hb3.mono HBB.out.size));(go_wp2);exact bodyPost_ret (v:=.agg #[.int .i64 s2,.slice A2 k2 c2]) (by simp[results,Tryz.results130,go_sem,hA,hBc]) rfl ⟨s2,A2,k2,c2,rfl,HN1.out,(HB3.out.setCell (by simp<;>omega) _).setCell (by simp<;>omega) _⟩
theorem aFu {s s':Int} {A A':Option Addr} {k c k' c':Nat} {n m:Int} (w:World) (H:dS w s A k c n) (H':dS w s' A' k' c' m) (hk:k<=900000) (hk':k'<=900000):
 Calls Tryz.prog 130 #[.iface 124 (.agg #[]),.agg #[.int .i64 s,.slice A k c],.agg #[.int .i64 s',.slice A' k' c']] w fun e w'=>
  ∃s2 A2 k2 c2,e = .returned (.agg #[.int .i64 s2,.slice A2 k2 c2])/\dS w' s2 A2 k2 c2 (n-m)/\Below w.heap.size w w':=by
 have hb0:=aBm w 71 (.int .i64 s) (.slice A k c) (.int .i64 s') (.slice A' k' c');have H1:=H.below hb0;have H1':=H'.below hb0;have HB:=Lib.hid hb0;clear hb0;obtain⟨x,hx⟩:∃x,x=if n.natAbs<1000000000 then n else 0:=⟨_,rfl⟩
 obtain⟨y,hy⟩:∃x,x=if m.natAbs<1000000000 then m else 0:=⟨_,rfl⟩
 obtain⟨b1,hb1⟩:∃b,b=decide (n.natAbs<1000000000):=⟨_,rfl⟩;obtain⟨b2,hb2⟩:∃b,b=decide (m.natAbs<1000000000):=⟨_,rfl⟩;have HX:=Lib.hid hx;have HY:=Lib.hid hy;have HB1:=Lib.hid hb1;have HB2:=Lib.hid hb2;clear hx hy hb1 hb2;go_enter Tryz.func130,Tryz.ntmps130
 go_upto_region 2 with(first|(go_at_call 87;(with_reducible refine(yS _ x b1 H1 HX.out HB1.out).mono ?_);rintro e w1 ⟨rfl,hb1⟩;obtain⟨⟨d0,d1,d2,d3⟩,r0,r1,f0,f1,z0⟩:=oN hb1))
 have H2:=H1.below hb1;have H2':=H1'.below hb1;go_upto_region 3 with(first|(go_at_call 87;(with_reducible refine(yS _ y b2 H2' HY.out HB2.out).mono ?_);rintro e w2 ⟨rfl,hb2⟩;obtain⟨⟨e0,e1,e2,e3⟩,q0,q1,g0,g1,z1⟩:=oN (hb1.trans (hb2.mono hb1.size))))
 have H3:=H2.below hb2;have H3':=H2'.below hb2;have HBB:=Lib.hid (HB.out.trans ((hb1.trans (hb2.mono hb1.size)).mono HB.out.size));clear d0 d1 d2 d3 r0 r1 f0 f1 z0 H1 H1' H2 H2';have mth:=aJS;cases b1 with
 | false=>(go_wp2_with (first|(go_at_call 223;(with_reducible refine(aE7 _ H3 H3' hk hk').mono ?_);rintro e w3 ⟨s2,A2,k2,c2,rfl,hN,hb3⟩;obtain⟨⟨d0,d1,d2,d3⟩,r0,r1,f0,f1,z0⟩:=oN ((hb1.trans (hb2.mono hb1.size)).trans (hb3.mono (Nat.le_trans hb1.size hb2.size))))));obtain⟨HN1,hA,hBc⟩:=lY hN r0 r1;have HB3:=Lib.hid (HBB.out.trans (hb3.mono HBB.out.size));(go_wp2);exact bodyPost_ret (v:=.agg #[.int .i64 s2,.slice A2 k2 c2]) (by simp[results,Tryz.results130,go_sem,hA,hBc]) rfl ⟨s2,A2,k2,c2,rfl,HN1.out,(HB3.out.setCell (by simp<;>omega) _).setCell (by simp<;>omega) _⟩
 | true=>
  cases b2 with
  | false=>(go_wp2_with (first|(go_at_call 223;(with_reducible refine(aE7 _ H3 H3' hk hk').mono ?_);rintro e w3 ⟨s2,A2,k2,c2,rfl,hN,hb3⟩;obtain⟨⟨d0,d1,d2,d3⟩,r0,r1,f0,f1,z0⟩:=oN ((hb1.trans (hb2.mono hb1.size)).trans (hb3.mono (Nat.le_trans hb1.size hb2.size))))));obtain⟨HN1,hA,hBc⟩:=lY hN r0 r1;have HB3:=Lib.hid (HBB.out.trans (hb3.mono HBB.out.size));(go_wp2);exact bodyPost_ret (v:=.agg #[.int .i64 s2,.slice A2 k2 c2]) (by simp[results,Tryz.results130,go_sem,hA,hBc]) rfl ⟨s2,A2,k2,c2,rfl,HN1.out,(HB3.out.setCell (by simp<;>omega) _).setCell (by simp<;>omega) _⟩
  | true=>(have hn:n.natAbs<1000000000:=by have:=HB1.out;simpa using this);(have hm:m.natAbs<1000000000:=by have:=HB2.out;simpa using this);(have ex:x=n:=by have:=HX.out;rwa[if_pos hn]at this);(have ey:y=m:=by have:=HY.out;rwa[if_pos hm]at this);subst ex ey;(have HXB : -1000000000<x/\x<1000000000:=by omega);(have HYB : -1000000000<y/\y<1000000000:=by omega);have ta:=aIR;have tt:=aIQ;(go_wp2_with (first|(go_at_call 73;(with_reducible refine(oM _ _ (by omega) (by omega)).mono ?_);rintro e w3 ⟨s2,A2,k2,c2,rfl,hN,hb3⟩;obtain⟨⟨d0,d1,d2,d3⟩,r0,r1,f0,f1,z0⟩:=oN ((hb1.trans (hb2.mono hb1.size)).trans (hb3.mono (Nat.le_trans hb1.size hb2.size))))));obtain⟨HN1,hA,hBc⟩:=lY hN r0 r1;have HB3:=Lib.hid (HBB.out.trans (hb3.mono HBB.out.size));(go_wp2);exact bodyPost_ret (v:=.agg #[.int .i64 s2,.slice A2 k2 c2]) (by simp[results,Tryz.results130,go_sem,hA,hBc]) rfl ⟨s2,A2,k2,c2,rfl,HN1.out,(HB3.out.setCell (by simp<;>omega) _).setCell (by simp<;>omega) _⟩
theorem zN {s s':Int} {A A':Option Addr} {k c k' c':Nat} {n m:Int} (w:World) (H:dS w s A k c n) (H':dS w s' A' k' c' m) (hk:k+k'<=900000) (hk':k<64\/k'<64):
 Calls Tryz.prog 130 #[.iface 126 (.agg #[]),.agg #[.int .i64 s,.slice A k c],.agg #[.int .i64 s',.slice A' k' c']] w fun e w'=>
  ∃s2 A2 k2 c2,e = .returned (.agg #[.int .i64 s2,.slice A2 k2 c2])/\dS w' s2 A2 k2 c2 (n*m)/\Below w.heap.size w w':=by
 have hb0:=aBm w 71 (.int .i64 s) (.slice A k c) (.int .i64 s') (.slice A' k' c');have H1:=H.below hb0;have H1':=H'.below hb0;have HB:=Lib.hid hb0;clear hb0;obtain⟨x,hx⟩:∃x,x=if n.natAbs<1000000000 then n else 0:=⟨_,rfl⟩
 obtain⟨y,hy⟩:∃x,x=if m.natAbs<1000000000 then m else 0:=⟨_,rfl⟩
 obtain⟨b1,hb1⟩:∃b,b=decide (n.natAbs<1000000000):=⟨_,rfl⟩;obtain⟨b2,hb2⟩:∃b,b=decide (m.natAbs<1000000000):=⟨_,rfl⟩;have HX:=Lib.hid hx;have HY:=Lib.hid hy;have HB1:=Lib.hid hb1;have HB2:=Lib.hid hb2;clear hx hy hb1 hb2;go_enter Tryz.func130,Tryz.ntmps130
 go_upto_region 2 with(first|(go_at_call 87;(with_reducible refine(yS _ x b1 H1 HX.out HB1.out).mono ?_);rintro e w1 ⟨rfl,hb1⟩;obtain⟨⟨d0,d1,d2,d3⟩,r0,r1,f0,f1,z0⟩:=oN hb1))
 have H2:=H1.below hb1;have H2':=H1'.below hb1;go_upto_region 3 with(first|(go_at_call 87;(with_reducible refine(yS _ y b2 H2' HY.out HB2.out).mono ?_);rintro e w2 ⟨rfl,hb2⟩;obtain⟨⟨e0,e1,e2,e3⟩,q0,q1,g0,g1,z1⟩:=oN (hb1.trans (hb2.mono hb1.size))))
 have H3:=H2.below hb2;have H3':=H2'.below hb2;have HBB:=Lib.hid (HB.out.trans ((hb1.trans (hb2.mono hb1.size)).mono HB.out.size));clear d0 d1 d2 d3 r0 r1 f0 f1 z0 H1 H1' H2 H2';have mth:=aJT;cases b1 with
 | false=>(go_wp2_with (first|(go_at_call 227;(with_reducible refine(aE5 _ H3 H3' hk hk').mono ?_);rintro e w3 ⟨s2,A2,k2,c2,rfl,hN,hb3⟩;obtain⟨⟨d0,d1,d2,d3⟩,r0,r1,f0,f1,z0⟩:=oN ((hb1.trans (hb2.mono hb1.size)).trans (hb3.mono (Nat.le_trans hb1.size hb2.size))))));obtain⟨HN1,hA,hBc⟩:=lY hN r0 r1;have HB3:=Lib.hid (HBB.out.trans (hb3.mono HBB.out.size));(go_wp2);exact bodyPost_ret (v:=.agg #[.int .i64 s2,.slice A2 k2 c2]) (by simp[results,Tryz.results130,go_sem,hA,hBc]) rfl ⟨s2,A2,k2,c2,rfl,HN1.out,(HB3.out.setCell (by simp<;>omega) _).setCell (by simp<;>omega) _⟩
 | true=>
  cases b2 with
  | false=>(go_wp2_with (first|(go_at_call 227;(with_reducible refine(aE5 _ H3 H3' hk hk').mono ?_);rintro e w3 ⟨s2,A2,k2,c2,rfl,hN,hb3⟩;obtain⟨⟨d0,d1,d2,d3⟩,r0,r1,f0,f1,z0⟩:=oN ((hb1.trans (hb2.mono hb1.size)).trans (hb3.mono (Nat.le_trans hb1.size hb2.size))))));obtain⟨HN1,hA,hBc⟩:=lY hN r0 r1;have HB3:=Lib.hid (HBB.out.trans (hb3.mono HBB.out.size));(go_wp2);exact bodyPost_ret (v:=.agg #[.int .i64 s2,.slice A2 k2 c2]) (by simp[results,Tryz.results130,go_sem,hA,hBc]) rfl ⟨s2,A2,k2,c2,rfl,HN1.out,(HB3.out.setCell (by simp<;>omega) _).setCell (by simp<;>omega) _⟩
  | true=>(have hn:n.natAbs<1000000000:=by have:=HB1.out;simpa using this);(have hm:m.natAbs<1000000000:=by have:=HB2.out;simpa using this);(have ex:x=n:=by have:=HX.out;rwa[if_pos hn]at this);(have ey:y=m:=by have:=HY.out;rwa[if_pos hm]at this);subst ex ey;have HZ:=aEb hn hm;have hw:=wrap_mul hn hm;have ta:=aIT;have tt:=aIS;(go_wp2_with (first|(go_at_call 73;(with_reducible refine(oM _ _ HZ.1 HZ.2).mono ?_);rintro e w3 ⟨s2,A2,k2,c2,rfl,hN,hb3⟩;obtain⟨⟨d0,d1,d2,d3⟩,r0,r1,f0,f1,z0⟩:=oN ((hb1.trans (hb2.mono hb1.size)).trans (hb3.mono (Nat.le_trans hb1.size hb2.size))))));clear hw HZ;obtain⟨HN1,hA,hBc⟩:=lY hN r0 r1;have HB3:=Lib.hid (HBB.out.trans (hb3.mono HBB.out.size));(go_wp2);exact bodyPost_ret (v:=.agg #[.int .i64 s2,.slice A2 k2 c2]) (by simp[results,Tryz.results130,go_sem,hA,hBc]) rfl ⟨s2,A2,k2,c2,rfl,HN1.out,(HB3.out.setCell (by simp<;>omega) _).setCell (by simp<;>omega) _⟩
theorem aNx {s s':Int} {A A':Option Addr} {k c k' c':Nat} {n m:Int} (w:World) (H:dS w s A k c n) (H':dS w s' A' k' c' m) (hk:k<=900000) (hk':k'<=900000):
 Calls Tryz.prog 100 #[.agg #[.int .i64 s,.slice A k c],.agg #[.int .i64 s',.slice A' k' c']] w fun e w'=>
  ∃s2 A2 k2 c2,e = .returned (.agg #[.int .i64 s2,.slice A2 k2 c2])/\dS w' s2 A2 k2 c2 (n+m)/\Below w.heap.size w w':=by
 have hb0:=aBm w 71 (.int .i64 s) (.slice A k c) (.int .i64 s') (.slice A' k' c');have H1:=H.below hb0;have H1':=H'.below hb0;have HB:=Lib.hid hb0;clear hb0;go_enter Tryz.func100,Tryz.ntmps100
 go_wp2_with (first|(go_at_call 130;(with_reducible refine(aFv _ H1 H1' hk hk').mono ?_);rintro e w3 ⟨s2,A2,k2,c2,rfl,hN,hb3⟩;obtain⟨⟨d0,d1,d2,d3⟩,r0,r1,f0,f1,z0⟩:=oN hb3))
 obtain⟨HN1,hA,hBc⟩:=lY hN r0 r1;have HB3:=Lib.hid (HB.out.trans (hb3.mono HB.out.size));go_wp2
 exact bodyPost_ret (v:=.agg #[.int .i64 s2,.slice A2 k2 c2]) (by simp[results,Tryz.results100,go_sem,hA,hBc]) rfl ⟨s2,A2,k2,c2,rfl,HN1.out,(HB3.out.setCell (by simp<;>omega) _).setCell (by simp<;>omega) _⟩
theorem aNz {s s':Int} {A A':Option Addr} {k c k' c':Nat} {n m:Int} (w:World) (H:dS w s A k c n) (H':dS w s' A' k' c' m) (hk:k<=900000) (hk':k'<=900000):
 Calls Tryz.prog 76 #[.agg #[.int .i64 s,.slice A k c],.agg #[.int .i64 s',.slice A' k' c']] w fun e w'=>
  ∃s2 A2 k2 c2,e = .returned (.agg #[.int .i64 s2,.slice A2 k2 c2])/\dS w' s2 A2 k2 c2 (n-m)/\Below w.heap.size w w':=by
 have hb0:=aBm w 71 (.int .i64 s) (.slice A k c) (.int .i64 s') (.slice A' k' c');have H1:=H.below hb0;have H1':=H'.below hb0;have HB:=Lib.hid hb0;clear hb0;go_enter Tryz.func76,Tryz.ntmps76
 go_wp2_with (first|(go_at_call 130;(with_reducible refine(aFu _ H1 H1' hk hk').mono ?_);rintro e w3 ⟨s2,A2,k2,c2,rfl,hN,hb3⟩;obtain⟨⟨d0,d1,d2,d3⟩,r0,r1,f0,f1,z0⟩:=oN hb3))
 obtain⟨HN1,hA,hBc⟩:=lY hN r0 r1;have HB3:=Lib.hid (HB.out.trans (hb3.mono HB.out.size));go_wp2
 exact bodyPost_ret (v:=.agg #[.int .i64 s2,.slice A2 k2 c2]) (by simp[results,Tryz.results76,go_sem,hA,hBc]) rfl ⟨s2,A2,k2,c2,rfl,HN1.out,(HB3.out.setCell (by simp<;>omega) _).setCell (by simp<;>omega) _⟩
theorem aNw {s s':Int} {A A':Option Addr} {k c k' c':Nat} {n m:Int} (w:World) (H:dS w s A k c n) (H':dS w s' A' k' c' m) (hk:k+k'<=900000) (hk':k<64\/k'<64):
 Calls Tryz.prog 77 #[.agg #[.int .i64 s,.slice A k c],.agg #[.int .i64 s',.slice A' k' c']] w fun e w'=>
  ∃s2 A2 k2 c2,e = .returned (.agg #[.int .i64 s2,.slice A2 k2 c2])/\dS w' s2 A2 k2 c2 (n*m)/\Below w.heap.size w w':=by
 have hb0:=aBm w 71 (.int .i64 s) (.slice A k c) (.int .i64 s') (.slice A' k' c');have H1:=H.below hb0;have H1':=H'.below hb0;have HB:=Lib.hid hb0;clear hb0;go_enter Tryz.func77,Tryz.ntmps77
 go_wp2_with (first|(go_at_call 130;(with_reducible refine(zN _ H1 H1' hk hk').mono ?_);rintro e w3 ⟨s2,A2,k2,c2,rfl,hN,hb3⟩;obtain⟨⟨d0,d1,d2,d3⟩,r0,r1,f0,f1,z0⟩:=oN hb3))
 obtain⟨HN1,hA,hBc⟩:=lY hN r0 r1;have HB3:=Lib.hid (HB.out.trans (hb3.mono HB.out.size));go_wp2
 exact bodyPost_ret (v:=.agg #[.int .i64 s2,.slice A2 k2 c2]) (by simp[results,Tryz.results77,go_sem,hA,hBc]) rfl ⟨s2,A2,k2,c2,rfl,HN1.out,(HB3.out.setCell (by simp<;>omega) _).setCell (by simp<;>omega) _⟩
theorem aEA {w w1:World} {t t':TypeId} {a b:Value} (hb:Below ((w.alloc (.cells #[a,b] t)).alloc (.cells #[.int .i64 0,.slice none 0 0] t')).heap.size ((w.alloc (.cells #[a,b] t)).alloc (.cells #[.int .i64 0,.slice none 0 0] t')) w1):
 (w1.cell? ⟨w.heap.size,0,none⟩=some a/\w1.cell? ⟨w.heap.size,1,none⟩=some b)/\w1.cell? ⟨w.heap.size+1,0,none⟩=some (.int .i64 0)/\w1.cell? ⟨w.heap.size+1,1,none⟩=some (.slice none 0 0)/\
 w1.frozen? ⟨w.heap.size+1,0,none⟩=false/\w1.frozen? ⟨w.heap.size+1,1,none⟩=false/\w.heap.size+1<w1.heap.size:=by
 have h0:=hb.cell (p:=⟨w.heap.size,0,none⟩) (by simp<;>omega);have h1:=hb.cell (p:=⟨w.heap.size,1,none⟩) (by simp<;>omega);have h2:=hb.cell (p:=⟨w.heap.size+1,0,none⟩) (by simp);have h3:=hb.cell (p:=⟨w.heap.size+1,1,none⟩) (by simp);have h6:=hb.frozen (p:=⟨w.heap.size+1,0,none⟩) (by simp);have h7:=hb.frozen (p:=⟨w.heap.size+1,1,none⟩) (by simp);have h8:=hb.size;simp[go_sem]at h0 h1 h2 h3 h6 h7 h8;exact⟨⟨h0,h1⟩,h2,h3,h6,h7,by omega⟩
theorem aEd {a q by_ r:Int} (h:a=q*by_+r) (h0:0<=r) (h1:r<by_):q=a/by_/\r=a%by_:=by
 have hb:by_≠0:=by omega
 constructor;·rw[h,Int.add_comm,Int.add_mul_ediv_right _ _ hb,Int.ediv_eq_zero_of_lt h0 h1,Int.zero_add]
 ·rw[h,Int.add_comm,Int.add_mul_emod_self_right,Int.emod_eq_of_lt h0 h1]
theorem aCk {s:Int} {A:Option Addr} {k c:Nat} {n:Int} (w:World) (by_:Int) (H:dS w s A k c n) (hn:n≠0) (hk:k<=900000) (hb0:1<=by_) (hb1:by_<1000000):
 Calls Tryz.prog 119 #[.agg #[.int .i64 s,.slice A k c],.int .i64 by_] w fun e w'=>
  ∃s2 A2 k2 c2,e = .returned (.tuple #[.agg #[.int .i64 s2,.slice A2 k2 c2],.int .i64 ((n.natAbs:Int)%by_)])/\dS w' s2 A2 k2 c2 ((n.natAbs:Int)/by_)/\Below w.heap.size w w':=by
 have hb0':Below w.heap.size w ((w.alloc (.cells #[.int .i64 s,.slice A k c] 71)).alloc (.cells #[.int .i64 0,.slice none 0 0] 71)):=((Below.refl _ _).alloc (Nat.le_refl _) _).alloc (by simp) _;have H1:=H.below hb0';have HB:=Lib.hid hb0';obtain⟨l,rfl,el,hc,hC,hi,hv⟩:=H1.named;have HP:Hid (0<l.length):=Lib.hid (by rw[el,sG];omega);have HV:=Lib.hid hv;have HC:=Lib.hid hC;have HI:=Lib.hid hi;clear hb0' el hv hC hi;go_enter Tryz.func119,Tryz.ntmps119
 go_wp2_with (first|(go_at_call 131;(with_reducible refine(aCj A l c by_ _ HC.out hc HI.out (by omega) hb0 (by omega)).mono ?_);rintro e w1 ⟨A1,l1,c1,r,rfl,hc1,hC1,hi1,hl1,hv1,hr0,hr1,hb1⟩;obtain⟨⟨d0,d1⟩,r0,r1,f0,f1,z0⟩:=aEA hb1;have HV1:=Lib.hid hv1;have HC1:=Lib.hid hC1;have HI1:=Lib.hid hi1;have HL1:=Lib.hid hl1;clear hv1 hC1 hi1 hl1))
 have HD:=Lib.hid (aEd (HV.out.symm.trans HV1.out) hr0 hr1);have HQ:Hid (0<=(n.natAbs:Int)/by_):=Lib.hid (Int.ediv_nonneg (by omega) (by omega));refine(rC 1 A1 l1 c1 ((n.natAbs:Int)/by_).toNat _ HC1.out (by rw[HL1.out];exact HP.out) hc1 (by rw[HL1.out];omega) HI1.out (by rw[HD.out.1,Int.toNat_of_nonneg HQ.out]) (.inl rfl)).mono ?_;rintro e w2 ⟨s2,A2,k2,c2,rfl,hN,hb2⟩;obtain⟨⟨e0,e1⟩,q0,q1,g0,g1,z1⟩:=aEA (hb1.trans (hb2.mono hb1.size));rw[Int.toNat_of_nonneg HQ.out,Int.one_mul]at hN;obtain⟨HN1,hA,hBc⟩:=lY hN q0 q1;have HB3:=Lib.hid (HB.out.trans ((hb1.trans (hb2.mono hb1.size)).mono HB.out.size));go_wp2
 rw[<-HD.out.2];exact bodyPost_ret (v:=.tuple #[.agg #[.int .i64 s2,.slice A2 k2 c2],.int .i64 r]) (by simp[results,Tryz.results119,go_sem,hA,hBc]) rfl ⟨s2,A2,k2,c2,rfl,HN1.out,(HB3.out.setCell (by simp<;>omega) _).setCell (by simp<;>omega) _⟩
theorem aD0 {x by_ c:Int} (hx:0<=x/\x<1000000000) (hb0:1<=by_) (hb1:by_<=1000000000) (hc:0<=c/\c<by_):
 0<=c+x*by_/\c+x*by_<1000000000000000000/\(c+x*by_)/1000000000<by_:=by
 have h1:x*by_<=999999999*by_:=Int.mul_le_mul_of_nonneg_right (by omega) (by omega);have h2:0<=x*by_:=Int.mul_nonneg hx.1 (by omega);generalize x*by_=z at *;refine⟨by omega,by omega,?_⟩;omega
theorem aFD {x by_ c:Int} (hx:0<=x/\x<1000000000) (hb0:1<=by_) (hb1:by_<=1000000000) (hc:0<=c/\c<by_):
 IntKind.u64.wrap ((IntKind.u64.wrap (c+IntKind.u64.wrap (x*by_))).tdiv 1000000000)=(c+x*by_)/1000000000/\(IntKind.u64.wrap (c+IntKind.u64.wrap (x*by_))).tmod 1000000000%4294967296=(c+x*by_)%1000000000:=by
 obtain⟨h1,h2,h3⟩:=aD0 hx hb0 hb1 hc;have h4:0<=x*by_:=Int.mul_nonneg hx.1 (by omega);rw[zL h4 (by omega),zL h1 (by omega),Int.tdiv_eq_ediv_of_nonneg h1,Int.tmod_eq_emod_of_nonneg h1];generalize c+x*by_=z at *;rw[zL (by omega) (by omega)];exact⟨rfl,by omega⟩
theorem aFE {out a:List Int} {j:Nat} {c x by_:Int} (hj:j<a.length) (ho:j<out.length) (hx:a.getD j 0=x)
 (h:Mw.lv 1000000000 (out.take j)+1000000000^j*c=Mw.lv 1000000000 (a.take j)*by_):
 Mw.lv 1000000000 ((out.set j ((c+x*by_)%1000000000)).take (j+1))+1000000000^(j+1)*((c+x*by_)/1000000000)=Mw.lv 1000000000 (a.take (j+1))*by_:=by
 rw[zW _ _ _ ho,Mw.iB a j hj,Mw.lC,Mw.lC,hx,List.length_take,List.length_take,Nat.min_eq_left (by omega),Nat.min_eq_left (by omega),Int.pow_succ,Int.add_mul,<-h];have e:=Int.emod_add_mul_ediv (c+x*by_) 1000000000;generalize(c+x*by_)%1000000000=r at *;generalize(c+x*by_)/1000000000=q at *;have e2:(1000000000:Int)^j*(r+1000000000*q)=1000000000^j*(c+x*by_):=by rw[e]
 generalize(1000000000:Int)^j=P at *;rw[Int.mul_add,Int.mul_add,<-Int.mul_assoc,<-Int.mul_assoc]at e2;rw[Int.mul_assoc P 1000000000 q]at *;rw[Int.mul_assoc P x by_]at *;omega
theorem aD1 (A0:Option Addr) (a:List Int) (c0:Nat) (by_:Int) (w:World) (h0:Kd.C (Kd.int .u32) w A0 a.length a) (hc0:a.length<=c0)
 (ia:Mw.inB 1000000000 a) (hm:a.length<=900000) (hb0:1<=by_) (hb1:by_<=1000000000):
 Calls Tryz.prog 159 #[.slice A0 a.length c0,.int .u32 by_] w fun e w'=>∃(g cap:Nat) (l:List Int),e = .returned (.slice (some ⟨g,0,none⟩) (a.length+1) cap)/\l.length=a.length+1/\
  Kd.R (Kd.int .u32) 121 w' w.heap.size (fun _=>True) (.slice (some ⟨g,0,none⟩) l.length cap) l/\Mw.inB 1000000000 l/\Mw.lv 1000000000 l=Mw.lv 1000000000 a*by_/\Below w.heap.size w w':=by
 have H0:=Lib.hid h0;have IA:=Lib.hid ia;clear h0 ia;go_enter Tryz.func159,Tryz.ntmps159
 go_wp2_with (at_make;refine Kd.rZ (Kd.int .u32) (w0:=w) w.heap.size 121 rfl (N:=12) rfl 69 _ _ rfl ((a.length:Int)+1) rfl rfl Tryz.underlying69 (.int .u32 0) 4 xX rfl (by decide) (by omega) 0 (ok:=fun _=>True) (okp:=fun _=>True) rfl (fun _ hk=>hk) trivial (by omega) (by omega) (Below.refl _ _) (Nat.le_refl _) ?_;intro v1 w1 hR hb hg_ hnew_;obtain⟨g,cap,rfl,hgb,hgl,cells,hcells⟩:=Kd.mR hR (by simp))
 obtain⟨xs,hxs⟩:∃xs:List Int,List.replicate ((a.length:Int)+1).toNat (0:Int)=xs:=⟨_,rfl⟩;have hl0:xs.length=a.length+1:=by rw[<-hxs];simp
 rw[hxs]at hR;have I0:Hid (Mw.inB 1000000000 xs):=Lib.hid (by rw[<-hxs];intro y hy;rw[List.mem_replicate]at hy;omega);have HR0:=Lib.hid hR;have HB0:=Lib.hid hb;clear hR hb hg_ hnew_ hcells hxs
 go_loopw [6,15] (fun v6 v15 wr=>∃(j:Nat) (out:List Int) (c:Int),j<=a.length/\v15 = .int .i64 j/\v6 = .int .u64 c/\0<=c/\c<by_/\out.length=a.length+1/\Hid (Kd.R (Kd.int .u32) 121 wr w.heap.size (fun _=>True) (.slice (some ⟨g,0,none⟩) out.length cap) out)/\Hid (Mw.inB 1000000000 out)/\Hid (Mw.lv 1000000000 (out.take j)+1000000000^j*c=Mw.lv 1000000000 (a.take j)*by_)/\Hid (Below w.heap.size w wr)) (fun _ v15 _=>a.length-(intOf v15).toNat)
 case atStart=>exact⟨0,xs,0,by omega,rfl,rfl,by omega,by omega,hl0,HR0,I0,Lib.hid (by simp[Mw.lv]),HB0⟩
 case round=>
  obtain⟨j,out,c,hj,rfl,rfl,hc0',hc1,hlo,HO,JO,HE,HB⟩:=hrel;by_cases hlt:j<a.length;·obtain⟨adp,eA,hcp⟩:=Kd.dF (Kd.iF H0.out HB.out) j (by omega) (by omega);obtain⟨x,hx⟩:∃x,a.getD j 0=x:=⟨_,rfl⟩;have hxb:=Mw.bW (by omega) IA.out j;rw[hx]at hxb;simp only[Int.toNat_natCast,rd]at hcp;rw[hx]at hcp;(have hlt':(j:Int)<a.length:=by omega);have hnum:=aD0 hxb hb0 hb1 ⟨hc0',hc1⟩;have HS:=Lib.hid (aFE hlt (by omega) hx HE.out);obtain⟨hcl,hfr⟩:=Kd.aA2 (enc:=.int .u32) 0 HO.out (j:Int) (by omega) (by omega);simp only[Int.toNat_natCast]at hcl hfr;clear hx;subst eA;obtain⟨w1_,w2_⟩:=aFD hxb hb0 hb1 ⟨hc0',hc1⟩;have hbel:=HB.out.setCell (p:=⟨g,j,none⟩) hgb (.int .u32 ((c+x*by_)%1000000000));have hput:=(Kd.aDM (h:=HO.out) (j:Int) ((c+x*by_)%1000000000)).1;simp only[Int.toNat_natCast]at hput;rw[show out.length=(out.set j ((c+x*by_)%1000000000)).length by simp]at hput;have HPUT:=Lib.hid hput;have HBEL:=Lib.hid hbel;have W1:=Lib.hid w1_;have W2:=Lib.hid w2_;have hq0:0<=(c+x*by_)/1000000000:=Int.ediv_nonneg hnum.1 (by omega);have hq1:=hnum.2.2;have I1:Hid (Mw.inB 1000000000 (out.set j ((c+x*by_)%1000000000))):=Lib.hid (Mw.kS JO.out j (by omega) (by omega));clear hput hbel w1_ w2_ hnum;(go_wp2_with fail);rw[W1.out,W2.out];refine⟨⟨j+1,out.set j ((c+x*by_)%1000000000),_,hlt,by go_num,rfl,hq0,hq1,by simp[hlo],HPUT,I1,HS,HBEL⟩,?_⟩;simp[intOf];omega
  ·(obtain rfl:j=a.length:=by omega);obtain⟨hcl,hfr⟩:=Kd.aA2 (enc:=.int .u32) 0 HO.out (a.length:Int) (by omega) (by omega);simp only[Int.toNat_natCast]at hcl hfr;(have hcw:c%4294967296=c:=by omega);have hbel:=HB.out.setCell (p:=⟨g,a.length,none⟩) hgb (.int .u32 c);have hput:=(Kd.aDM (h:=HO.out) (a.length:Int) c).1;simp only[Int.toNat_natCast]at hput;have I1:Mw.inB 1000000000 (out.set a.length c):=Mw.kS JO.out a.length (by omega) (by omega);(have hlv:Mw.lv 1000000000 (out.set a.length c)=Mw.lv 1000000000 a*by_:=by have e1:=zW out a.length c (by omega);rw[List.take_of_length_le (by rw[List.length_set];omega)]at e1;have e2:=HE.out;rw[List.take_length]at e2;rw[e1,Mw.lC,List.length_take,Nat.min_eq_left (by omega),e2]);rw[show out.length=(out.set a.length c).length by simp]at hput;have HPUT:=Lib.hid hput;have HBEL:=Lib.hid hbel;have I2:=Lib.hid I1;have HLV:=Lib.hid hlv;clear hput hbel I1 hlv;go_wp2_with fail
   go_ret
   exact⟨g,cap,out.set a.length c,rfl,by simp[hlo],HPUT.out,I2.out,HLV.out,HBEL.out⟩
end Go.Proofs.YtjieekkkaekclaaGreatDoor
namespace Go.Proofs.YtjieekkkaekclaaGreatDoor
theorem aD9 {y t c b h:Int} (hy:0<=y/\y<1000000000) (ht:0<=t/\t<=1000000000) (hc:0<=c/\c<=t) (_hb:0<=b/\b<=1) (_hh:0<=h/\h<1000000000):
 0<=y*t/\0<=c+y*t/\c+y*t<=1000000000000000000/\0<=(c+y*t)%1000000000/\(c+y*t)%1000000000<1000000000/\0<=(c+y*t)/1000000000/\(c+y*t)/1000000000<=t:=by
 have h1:y*t<=999999999*t:=Int.mul_le_mul_of_nonneg_right (by omega) ht.1;have h2:0<=y*t:=Int.mul_nonneg hy.1 ht.1;generalize y*t=z at *;refine⟨h2,by omega,by omega,by omega,by omega,by omega,by omega⟩
theorem aEk {a0 a b:List Int} {at_ j:Nat} {y t c bo h v bo':Int} (hj:at_+j<a.length) (hy:y=if j<b.length then b.getD j 0 else 0) (hh:a.getD (at_+j) 0=h)
 (hv:v=h-((c+y*t)%1000000000+bo)+1000000000*bo')
 (H:Mw.lv 1000000000 a=Mw.lv 1000000000 a0-1000000000^at_*(Mw.lv 1000000000 (b.take j)*t)+1000000000^(at_+j)*(c+bo)):
 Mw.lv 1000000000 (a.set (at_+j) v)=Mw.lv 1000000000 a0-1000000000^at_*(Mw.lv 1000000000 (b.take (j+1))*t)+1000000000^(at_+(j+1))*((c+y*t)/1000000000+bo'):=by
 have hb:Mw.lv 1000000000 (b.take (j+1))=Mw.lv 1000000000 (b.take j)+1000000000^j*y:=by by_cases h1:j<b.length;(·rw[if_pos h1]at hy;rw[Mw.iB b j h1,Mw.lC,hy,List.length_take,Nat.min_eq_left (by omega)]);·rw[if_neg h1]at hy;rw[List.take_of_length_le (by omega),List.take_of_length_le (by omega),hy];simp
 rw[Mw.qN _ _ _ hj,hh,hb,H,hv];have e:=Int.emod_add_mul_ediv (c+y*t) 1000000000;rw[show at_+(j+1)=at_+j+1 by omega,Int.pow_succ,Int.pow_add];generalize(c+y*t)%1000000000=r at *;generalize(c+y*t)/1000000000=q at *;generalize(1000000000:Int)^at_=P at *;generalize(1000000000:Int)^j=J at *;generalize Mw.lv 1000000000 (b.take j)=L at *;have e2:P*J*(r+1000000000*q)=P*J*(c+y*t):=by rw[e]
 have d1:P*((L+J*y)*t)=P*(L*t)+P*J*(y*t):=by rw[Int.add_mul,Int.mul_add,Int.mul_assoc J y t,Int.mul_assoc P J]
 rw[d1];generalize P*J=Q at *;generalize y*t=z at *;generalize P*(L*t)=W at *;rw[Int.mul_add,Int.mul_add]at e2;have d2:Q*(1000000000*q)=Q*1000000000*q:=(Int.mul_assoc ..).symm;rw[show h-(r+bo)+1000000000*bo'-h=(1000000000*bo')-(r+bo) by omega,Int.mul_sub,Int.mul_add,Int.mul_add,Int.mul_add];have d3:Q*(1000000000*bo')=Q*1000000000*bo':=(Int.mul_assoc ..).symm;rw[d2]at e2;rw[d3];omega
end Go.Proofs.YtjieekkkaekclaaGreatDoor
namespace Go.Proofs.YtjieekkkaekclaaGreatDoor
open Go.RowKit Go.Pw.PrintWords
theorem aEj {y t c b h:Int} (hy:0<=y/\y<1000000000) (ht:0<=t/\t<1000000000) (hc:0<=c/\c<=t) (hb:0<=b/\b<=1) (hh:0<=h/\h<1000000000):
 IntKind.u64.wrap ((IntKind.u64.wrap (c+IntKind.u64.wrap (y*t))).tdiv 1000000000)=(c+y*t)/1000000000/\
 IntKind.u64.wrap ((IntKind.u64.wrap (c+IntKind.u64.wrap (y*t))).tmod 1000000000+b)=(c+y*t)%1000000000+b/\
 IntKind.u64.wrap h=h/\
 (((c+y*t)%1000000000+b<=h)->IntKind.u64.wrap (h-((c+y*t)%1000000000+b))%4294967296=h-((c+y*t)%1000000000+b))/\
 ((h<(c+y*t)%1000000000+b)->IntKind.u64.wrap (IntKind.u64.wrap (h+1000000000)-((c+y*t)%1000000000+b))%4294967296=h+1000000000-((c+y*t)%1000000000+b)):=by
 obtain⟨h1,h2,h3,h4,h5,h6,h7⟩:=aD9 hy ⟨ht.1,by omega⟩ hc hb hh;rw[zL h1 (by omega),zL h2 (by omega),Int.tdiv_eq_ediv_of_nonneg h2,Int.tmod_eq_emod_of_nonneg h2];generalize(c+y*t)/1000000000=q at *;generalize(c+y*t)%1000000000=r at *;refine⟨zL h6 (by omega),zL (by omega) (by omega),zL hh.1 (by omega),fun hx=>?_,fun hx=>?_⟩;·rw[zL (by omega) (by omega)];omega
 ·rw[zL (v:=h+1000000000) (by omega) (by omega),zL (by omega) (by omega)];omega
theorem zY (l:List Int) (k:Nat) (v:Int):(l.set k v).drop (k+1)=l.drop (k+1):=by rw[List.drop_set,if_pos (by omega)]
theorem aJA (g cap:Nat) (l0:List Int) (A1:Option Addr) (c1:Nat) (b:List Int) (at_:Nat) (t:Int) (P:Nat->Prop) (w0 w:World) (hB:Below w0.heap.size w0 w) (hg:w0.heap.size<=g) (hP:P g)
 (ho:Kd.R (Kd.int .u32) 121 w w0.heap.size P (.slice (some ⟨g,0,none⟩) l0.length cap) l0) (hr:∀W,Kept w W P->Kd.C (Kd.int .u32) W A1 b.length b) (hc1:b.length<=c1)
 (i0:Mw.inB 1000000000 l0) (ib:Mw.inB 1000000000 b) (hm:l0.length<=900000) (hl:at_+b.length<l0.length) (ht:0<=t/\t<1000000000):
 Calls Tryz.prog 160 #[.slice (some ⟨g,0,none⟩) l0.length cap,.slice A1 b.length c1,.int .i64 at_,.int .u64 t] w fun e w'=>∃(l:List Int) (bo:Int),e = .returned (.bool (bo != 0))/\l.length=l0.length/\(bo=0\/bo=1)/\
  Kd.R (Kd.int .u32) 121 w' w0.heap.size P (.slice (some ⟨g,0,none⟩) l.length cap) l/\Mw.inB 1000000000 l/\
  Mw.lv 1000000000 l=Mw.lv 1000000000 l0-1000000000^at_*(Mw.lv 1000000000 b*t)+1000000000^(at_+(b.length+1))*bo/\l.drop (at_+(b.length+1))=l0.drop (at_+(b.length+1))/\Below w0.heap.size w0 w'/\Kept w w' P:=by
 have HO0:=Lib.hid ho;have HR:=Lib.hid hr;have I0:=Lib.hid i0;have IB:=Lib.hid ib;have HB0:=Lib.hid hB;clear ho hr i0 ib hB;go_enter Tryz.func160,Tryz.ntmps160
 go_wp2_with fail
 go_loopw [9,10,18] (fun v9 v10 v18 wr=>∃(j:Nat) (out:List Int) (c bo:Int),j<=b.length+1/\v18 = .int .i64 j/\v9 = .int .u64 c/\v10 = .int .u64 bo/\0<=c/\c<=t/\0<=bo/\bo<=1/\out.length=l0.length/\Hid (Kd.R (Kd.int .u32) 121 wr w0.heap.size P (.slice (some ⟨g,0,none⟩) out.length cap) out)/\Hid (Mw.inB 1000000000 out)/\Hid (Mw.lv 1000000000 out=Mw.lv 1000000000 l0-1000000000^at_*(Mw.lv 1000000000 (b.take j)*t)+1000000000^(at_+j)*(c+bo))/\Hid (out.drop (at_+j)=l0.drop (at_+j))/\Hid (j=b.length+1->c=0)/\Hid (Below w0.heap.size w0 wr)/\Hid (Kept w wr P)) (fun _ _ v18 _=>b.length+1-(intOf v18).toNat)
 case atStart=>exact⟨0,l0,0,0,by omega,rfl,rfl,rfl,by omega,by omega,by omega,by omega,rfl,HO0,I0,Lib.hid (by simp[Mw.lv]),Lib.hid rfl,Lib.hid (by omega),HB0,Lib.hid (Kept.refl w P)⟩
 case round=>
  obtain⟨j,out,c,bo,hj,rfl,rfl,rfl,hc0,hc1,hbo0,hbo1,hlo,HO,JO,HE,HD,HZ,HB,HK⟩:=hrel;by_cases hlt:j<b.length+1
  ·(have hlt':(j:Int)<(b.length:Int)+1:=by omega);obtain⟨hcl,hfr⟩:=Kd.aA2 (enc:=.int .u32) 0 HO.out ((at_+j:Nat):Int) (by omega) (by omega);simp only[Int.toNat_natCast]at hcl hfr;by_cases hq:j<b.length
   ·obtain⟨adq,eB,hcq⟩:=Kd.dF (HR.out wr HK.out) j (by omega) (by omega);obtain⟨y,hy⟩:∃x,b.getD j 0=x:=⟨_,rfl⟩;have hyb:=Mw.bW (by omega) IB.out j;rw[hy]at hyb;simp only[Int.toNat_natCast,rd]at hcq;rw[hy]at hcq;(have hq':(j:Int)<b.length:=by omega);obtain⟨h,hh⟩:∃h,aU 0 out ((at_:Int)+j)=h:=⟨_,rfl⟩;(have hh':out.getD (at_+j) 0=h:=by rw[<-hh];unfold aU;congr 1);have hhb:=Mw.bW (by omega) JO.out (at_+j);rw[hh']at hhb;(have hcl':wr.cell? ⟨g,at_+j,none⟩=some (.int .u32 h):=by rw[hcl,<-hh,Int.natCast_add]);subst eB;clear hcl;obtain⟨W1,W2,W3,W4,W5⟩:=aEj hyb ht ⟨hc0,hc1⟩ ⟨hbo0,hbo1⟩ hhb;have hnum:=aD9 hyb ⟨ht.1,by omega⟩ ⟨hc0,hc1⟩ ⟨hbo0,hbo1⟩ hhb;have W1:=Lib.hid W1;have W2:=Lib.hid W2;have W3:=Lib.hid W3;have W4:=Lib.hid W4;have W5:=Lib.hid W5;have NUM:=Lib.hid hnum;clear hnum
    have hclose:∀bo' v:Int,(bo'=0\/bo'=1)->v=h-((c+y*t)%1000000000+bo)+1000000000*bo'->0<=v->v<1000000000->
     (Kd.R (Kd.int .u32) 121 (wr.setCell ⟨g,at_+j,none⟩ (.int .u32 v)) w0.heap.size P (.slice (some ⟨g,0,none⟩) (out.set (at_+j) v).length cap) (out.set (at_+j) v))/\Mw.inB 1000000000 (out.set (at_+j) v)/\
     (Mw.lv 1000000000 (out.set (at_+j) v)=Mw.lv 1000000000 l0-1000000000^at_*(Mw.lv 1000000000 (b.take (j+1))*t)+1000000000^(at_+(j+1))*((c+y*t)/1000000000+bo'))/\
     ((out.set (at_+j) v).drop (at_+(j+1))=l0.drop (at_+(j+1)))/\Below w0.heap.size w0 (wr.setCell ⟨g,at_+j,none⟩ (.int .u32 v))/\Kept w (wr.setCell ⟨g,at_+j,none⟩ (.int .u32 v)) P:=by
     intro bo' v hbo' hv hv0 hv1;have hput:=(Kd.aDM (h:=HO.out) ((at_+j:Nat):Int) v).1;simp only[Int.toNat_natCast]at hput;refine⟨by rw[List.length_set];exact hput,Mw.kS JO.out _ hv0 hv1,aEk (by omega) (by rw[if_pos hq];exact hy.symm) hh' hv HE.out,?_,HB.out.setCell hg _,HK.out.setCell (.inl hP) _⟩;rw[show at_+(j+1)=at_+j+1 by omega,zY,<-List.drop_drop,HD.out,List.drop_drop]
    have HCL:=Lib.hid hclose;clear hclose;go_wp2_with fail
    case' roundEnd=>rename_i hcmp;obtain⟨n1,n2,n3,n4,n5,n6,n7⟩:=NUM.out;obtain⟨a1,a2,a3,a4,a5,a6⟩:=HCL.out 1 (h+1000000000-((c+y*t)%1000000000+bo)) (.inr rfl) (by omega) (by omega) (by omega);refine⟨⟨j+1,_,_,1,by omega,by go_num,rfl,rfl,n6,n7,by omega,by omega,by rw[List.length_set];exact hlo,Lib.hid a1,Lib.hid a2,Lib.hid a3,Lib.hid a4,Lib.hid (by omega),Lib.hid a5,Lib.hid a6⟩,?_⟩;simp[intOf];omega
    case' roundEnd=>rename_i hcmp;obtain⟨n1,n2,n3,n4,n5,n6,n7⟩:=NUM.out;obtain⟨a1,a2,a3,a4,a5,a6⟩:=HCL.out 0 (h-((c+y*t)%1000000000+bo)) (.inl rfl) (by omega) (by omega) (by omega);refine⟨⟨j+1,_,_,0,by omega,by go_num,rfl,rfl,n6,n7,by omega,by omega,by rw[List.length_set];exact hlo,Lib.hid a1,Lib.hid a2,Lib.hid a3,Lib.hid a4,Lib.hid (by omega),Lib.hid a5,Lib.hid a6⟩,?_⟩;simp[intOf];omega
   ·(have hq':¬(j:Int)<b.length:=by omega);obtain⟨h,hh⟩:∃h,aU 0 out ((at_:Int)+j)=h:=⟨_,rfl⟩;(have hh':out.getD (at_+j) 0=h:=by rw[<-hh];unfold aU;congr 1);have hhb:=Mw.bW (by omega) JO.out (at_+j);rw[hh']at hhb;(have hcl':wr.cell? ⟨g,at_+j,none⟩=some (.int .u32 h):=by rw[hcl,<-hh,Int.natCast_add]);clear hcl;obtain⟨W1,W2,W3,W4,W5⟩:=aEj (y:=0) ⟨by omega,by omega⟩ ht ⟨hc0,hc1⟩ ⟨hbo0,hbo1⟩ hhb;have hnum:=aD9 (y:=0) ⟨by omega,by omega⟩ ⟨ht.1,by omega⟩ ⟨hc0,hc1⟩ ⟨hbo0,hbo1⟩ hhb;have W1:=Lib.hid W1;have W2:=Lib.hid W2;have W3:=Lib.hid W3;have W4:=Lib.hid W4;have W5:=Lib.hid W5;have NUM:=Lib.hid hnum;clear hnum
    have hclose:∀bo' v:Int,(bo'=0\/bo'=1)->v=h-((c+0*t)%1000000000+bo)+1000000000*bo'->0<=v->v<1000000000->
     (Kd.R (Kd.int .u32) 121 (wr.setCell ⟨g,at_+j,none⟩ (.int .u32 v)) w0.heap.size P (.slice (some ⟨g,0,none⟩) (out.set (at_+j) v).length cap) (out.set (at_+j) v))/\Mw.inB 1000000000 (out.set (at_+j) v)/\
     (Mw.lv 1000000000 (out.set (at_+j) v)=Mw.lv 1000000000 l0-1000000000^at_*(Mw.lv 1000000000 (b.take (j+1))*t)+1000000000^(at_+(j+1))*((c+0*t)/1000000000+bo'))/\
     ((out.set (at_+j) v).drop (at_+(j+1))=l0.drop (at_+(j+1)))/\Below w0.heap.size w0 (wr.setCell ⟨g,at_+j,none⟩ (.int .u32 v))/\Kept w (wr.setCell ⟨g,at_+j,none⟩ (.int .u32 v)) P:=by
     intro bo' v hbo' hv hv0 hv1;have hput:=(Kd.aDM (h:=HO.out) ((at_+j:Nat):Int) v).1;simp only[Int.toNat_natCast]at hput;refine⟨by rw[List.length_set];exact hput,Mw.kS JO.out _ hv0 hv1,aEk (by omega) (by rw[if_neg hq]) hh' hv HE.out,?_,HB.out.setCell hg _,HK.out.setCell (.inl hP) _⟩;rw[show at_+(j+1)=at_+j+1 by omega,zY,<-List.drop_drop,HD.out,List.drop_drop]
    simp only[Int.zero_mul,Int.add_zero]at hclose;have HCL2:=Lib.hid hclose;clear hclose;go_wp2_with fail
    case' roundEnd=>rename_i hcmp;have nn:=NUM.out;simp only[Int.zero_mul,Int.add_zero]at nn;obtain⟨n1,n2,n3,n4,n5,n6,n7⟩:=nn;have aa:=HCL2.out 1 (h+1000000000-((c)%1000000000+bo)) (.inr rfl) (by omega) (by omega) (by omega);obtain⟨a1,a2,a3,a4,a5,a6⟩:=aa;refine⟨⟨j+1,_,_,1,by omega,by go_num,rfl,rfl,n6,n7,by omega,by omega,by rw[List.length_set];exact hlo,Lib.hid a1,Lib.hid a2,Lib.hid a3,Lib.hid a4,Lib.hid (fun _=>by omega),Lib.hid a5,Lib.hid a6⟩,?_⟩;simp[intOf];omega
    case' roundEnd=>rename_i hcmp;have nn:=NUM.out;simp only[Int.zero_mul,Int.add_zero]at nn;obtain⟨n1,n2,n3,n4,n5,n6,n7⟩:=nn;have aa:=HCL2.out 0 (h-((c)%1000000000+bo)) (.inl rfl) (by omega) (by omega) (by omega);obtain⟨a1,a2,a3,a4,a5,a6⟩:=aa;refine⟨⟨j+1,_,_,0,by omega,by go_num,rfl,rfl,n6,n7,by omega,by omega,by rw[List.length_set];exact hlo,Lib.hid a1,Lib.hid a2,Lib.hid a3,Lib.hid a4,Lib.hid (fun _=>by omega),Lib.hid a5,Lib.hid a6⟩,?_⟩;simp[intOf];omega
  ·(obtain rfl:j=b.length+1:=by omega);(have hlt':¬((b.length+1:Nat):Int)<(b.length:Int)+1:=by omega);obtain rfl:=HZ.out rfl;go_wp2_with fail
   go_ret
   have h1:=HE.out;rw[List.take_of_length_le (by omega),Int.zero_add]at h1;refine⟨out,bo,rfl,hlo,by omega,HO.out,JO.out,h1,HD.out,HB.out,HK.out⟩
theorem aI3 {a0 a b:List Int} {at_ j:Nat} {y c h z:Int} (hj:at_+j<a.length) (hy:y=if j<b.length then b.getD j 0 else 0) (hh:a.getD (at_+j) 0=h) (hz:z=h+c+y)
 (H:Mw.lv 1000000000 a=Mw.lv 1000000000 a0+1000000000^at_*Mw.lv 1000000000 (b.take j)-1000000000^(at_+j)*c):
 Mw.lv 1000000000 (a.set (at_+j) (z%1000000000))=Mw.lv 1000000000 a0+1000000000^at_*Mw.lv 1000000000 (b.take (j+1))-1000000000^(at_+(j+1))*(z/1000000000):=by
 have hb:Mw.lv 1000000000 (b.take (j+1))=Mw.lv 1000000000 (b.take j)+1000000000^j*y:=by by_cases h1:j<b.length;(·rw[if_pos h1]at hy;rw[Mw.iB b j h1,Mw.lC,hy,List.length_take,Nat.min_eq_left (by omega)]);·rw[if_neg h1]at hy;rw[List.take_of_length_le (by omega),List.take_of_length_le (by omega),hy];simp
 rw[Mw.qN _ _ _ hj,hh,hb,H];have e:=Int.emod_add_mul_ediv z 1000000000;rw[show at_+(j+1)=at_+j+1 by omega,Int.pow_succ,Int.pow_add];generalize z%1000000000=r at *;generalize z/1000000000=q at *;generalize(1000000000:Int)^at_=P at *;generalize(1000000000:Int)^j=J at *;generalize Mw.lv 1000000000 (b.take j)=L at *;have e2:P*J*(r+1000000000*q)=P*J*(h+c+y):=by rw[e,hz]
 have d1:P*(L+J*y)=P*L+P*J*y:=by rw[Int.mul_add,Int.mul_assoc]
 rw[d1];generalize P*J=Q at *;generalize P*L=W at *;rw[Int.mul_add,Int.mul_add,Int.mul_add]at e2;have d2:Q*(1000000000*q)=Q*1000000000*q:=(Int.mul_assoc ..).symm;rw[Int.mul_sub];rw[d2]at e2;omega
theorem aJz (g cap:Nat) (l0:List Int) (A1:Option Addr) (c1:Nat) (b:List Int) (at_:Nat) (P:Nat->Prop) (w0 w:World) (hB:Below w0.heap.size w0 w) (hg:w0.heap.size<=g) (hP:P g)
 (ho:Kd.R (Kd.int .u32) 121 w w0.heap.size P (.slice (some ⟨g,0,none⟩) l0.length cap) l0) (hr:∀W,Kept w W P->Kd.C (Kd.int .u32) W A1 b.length b) (hc1:b.length<=c1)
 (i0:Mw.inB 1000000000 l0) (ib:Mw.inB 1000000000 b) (hm:l0.length<=900000) (hl:at_+b.length<l0.length):
 Calls Tryz.prog 161 #[.slice (some ⟨g,0,none⟩) l0.length cap,.slice A1 b.length c1,.int .i64 at_] w fun e w'=>e = .returned (.tuple #[])/\∃(l:List Int) (co:Int),l.length=l0.length/\0<=co/\co<=1/\
  Kd.R (Kd.int .u32) 121 w' w0.heap.size P (.slice (some ⟨g,0,none⟩) l.length cap) l/\Mw.inB 1000000000 l/\
  Mw.lv 1000000000 l=Mw.lv 1000000000 l0+1000000000^at_*Mw.lv 1000000000 b-1000000000^(at_+(b.length+1))*co/\l.drop (at_+(b.length+1))=l0.drop (at_+(b.length+1))/\Below w0.heap.size w0 w'/\Kept w w' P:=by
 have HO0:=Lib.hid ho;have HR:=Lib.hid hr;have I0:=Lib.hid i0;have IB:=Lib.hid ib;have HB0:=Lib.hid hB;clear ho hr i0 ib hB;go_enter Tryz.func161,Tryz.ntmps161
 go_wp2_with fail
 go_loopw [6,12] (fun v6 v12 wr=>∃(j:Nat) (out:List Int) (c:Int),j<=b.length+1/\v12 = .int .i64 j/\v6 = .int .u32 c/\0<=c/\c<=1/\out.length=l0.length/\Hid (Kd.R (Kd.int .u32) 121 wr w0.heap.size P (.slice (some ⟨g,0,none⟩) out.length cap) out)/\Hid (Mw.inB 1000000000 out)/\Hid (Mw.lv 1000000000 out=Mw.lv 1000000000 l0+1000000000^at_*Mw.lv 1000000000 (b.take j)-1000000000^(at_+j)*c)/\Hid (out.drop (at_+j)=l0.drop (at_+j))/\Hid (Below w0.heap.size w0 wr)/\Hid (Kept w wr P)) (fun _ v12 _=>b.length+1-(intOf v12).toNat)
 case atStart=>exact⟨0,l0,0,by omega,rfl,rfl,by omega,by omega,rfl,HO0,I0,Lib.hid (by simp[Mw.lv]),Lib.hid rfl,HB0,Lib.hid (Kept.refl w P)⟩
 case round=>
  obtain⟨j,out,c,hj,rfl,rfl,hc0,hc1,hlo,HO,JO,HE,HD,HB,HK⟩:=hrel;by_cases hlt:j<b.length+1
  ·(have hlt':(j:Int)<(b.length:Int)+1:=by omega);obtain⟨hcl,hfr⟩:=Kd.aA2 (enc:=.int .u32) 0 HO.out ((at_+j:Nat):Int) (by omega) (by omega);simp only[Int.toNat_natCast]at hcl hfr;obtain⟨h,hh⟩:∃h,aU 0 out ((at_:Int)+j)=h:=⟨_,rfl⟩;(have hh':out.getD (at_+j) 0=h:=by rw[<-hh];unfold aU;congr 1);have hhb:=Mw.bW (by omega) JO.out (at_+j);rw[hh']at hhb;(have hcl':wr.cell? ⟨g,at_+j,none⟩=some (.int .u32 h):=by rw[hcl,<-hh,Int.natCast_add]);clear hcl
   have HCL:Hid (∀y z:Int,(y=if j<b.length then b.getD j 0 else 0)->z=h+c+y->
    (Kd.R (Kd.int .u32) 121 (wr.setCell ⟨g,at_+j,none⟩ (.int .u32 (z%1000000000))) w0.heap.size P (.slice (some ⟨g,0,none⟩) (out.set (at_+j) (z%1000000000)).length cap) (out.set (at_+j) (z%1000000000)))/\Mw.inB 1000000000 (out.set (at_+j) (z%1000000000))/\
    (Mw.lv 1000000000 (out.set (at_+j) (z%1000000000))=Mw.lv 1000000000 l0+1000000000^at_*Mw.lv 1000000000 (b.take (j+1))-1000000000^(at_+(j+1))*(z/1000000000))/\
    ((out.set (at_+j) (z%1000000000)).drop (at_+(j+1))=l0.drop (at_+(j+1)))/\Below w0.heap.size w0 (wr.setCell ⟨g,at_+j,none⟩ (.int .u32 (z%1000000000)))/\Kept w (wr.setCell ⟨g,at_+j,none⟩ (.int .u32 (z%1000000000))) P):=Lib.hid (by
    intro y z hy hz;have hput:=(Kd.aDM (h:=HO.out) ((at_+j:Nat):Int) (z%1000000000)).1;simp only[Int.toNat_natCast]at hput;refine⟨by rw[List.length_set];exact hput,Mw.kS JO.out _ (by omega) (by omega),aI3 (by omega) hy hh' hz HE.out,?_,HB.out.setCell hg _,HK.out.setCell (.inl hP) _⟩;rw[show at_+(j+1)=at_+j+1 by omega,zY,<-List.drop_drop,HD.out,List.drop_drop])
   by_cases hq:j<b.length
   ·obtain⟨adq,eB,hcq⟩:=Kd.dF (HR.out wr HK.out) j (by omega) (by omega);obtain⟨y,hy⟩:∃x,b.getD j 0=x:=⟨_,rfl⟩;have hyb:=Mw.bW (by omega) IB.out j;rw[hy]at hyb;simp only[Int.toNat_natCast,rd]at hcq;rw[hy]at hcq;(have hq':(j:Int)<b.length:=by omega);obtain⟨a1,a2,a3,a4,a5,a6⟩:=HCL.out y _ (by rw[if_pos hq];exact hy.symm) rfl;subst eB;go_wp2_with fail
    case' roundEnd=>refine⟨⟨j+1,_,_,by omega,by go_num,rfl,by omega,by omega,by rw[List.length_set];exact hlo,Lib.hid a1,Lib.hid a2,Lib.hid a3,Lib.hid a4,Lib.hid a5,Lib.hid a6⟩,?_⟩;simp[intOf];omega
   ·(have hq':¬(j:Int)<b.length:=by omega);obtain⟨a1,a2,a3,a4,a5,a6⟩:=HCL.out 0 (h+c) (by rw[if_neg hq]) (by omega);go_wp2_with fail
    case' roundEnd=>refine⟨⟨j+1,_,_,by omega,by go_num,rfl,by omega,by omega,by rw[List.length_set];exact hlo,Lib.hid a1,Lib.hid a2,Lib.hid a3,Lib.hid a4,Lib.hid a5,Lib.hid a6⟩,?_⟩;simp[intOf];omega
  ·(obtain rfl:j=b.length+1:=by omega);(have hlt':¬((b.length+1:Nat):Int)<(b.length:Int)+1:=by omega);(go_wp2_with fail);have h1:=HE.out;rw[List.take_of_length_le (by omega)]at h1;exact bodyPost_end (v:=.tuple #[]) (by simp[results,Tryz.results161,go_sem]) rfl ⟨rfl,out,hlo,c,hc0,hc1,HO.out,JO.out,h1,HD.out,HB.out,HK.out⟩
end Go.Proofs.YtjieekkkaekclaaGreatDoor
namespace Mw
theorem nD {a b c:Int} (h:a<=b) (hc:0<=c):a*c<=b*c:=Int.mul_le_mul_of_nonneg_right h hc
theorem aLv {B K U V v1 v2 top u3 g r:Int} (hK:0<K) (hg:0<=g)
 (hV:(v1*B+v2)*K<=V) (hU:U<(top*B+u3+1)*K)
 (hr:top=g*v1+r) (ht:r*B+u3<g*v2):U<g*V:=by
 have h1:g*((v1*B+v2)*K)<=g*V:=Int.mul_le_mul_of_nonneg_left hV hg;have h2:top*B+u3+1<=g*(v1*B+v2):=by rw[hr,Int.add_mul,Int.mul_add,<-Int.mul_assoc];omega
 have h3:=nD h2 (Int.le_of_lt hK);rw[<-Int.mul_assoc]at h1;omega
theorem aNa {B K U V v1 v2 top u3 g r:Int} (hK:0<K) (hB:0<B) (hg:0<=g) (hgB:g<B) (hv1:1<=v1) (hv2:0<=v2)
 (hV:V<(v1*B+v2+1)*K) (hV':(v1*B+v2)*K<=V) (hU:(top*B+u3)*K<=U)
 (hr:top=g*v1+r) (ht:g*v2<=r*B+u3):(g-1)*V<=U:=by
 by_cases h0:g=0;·subst h0;(have:0<=V:=by(have h4:0<=(v1*B+v2):=by have:=Int.mul_nonneg (show 0<=v1 by omega) (Int.le_of_lt hB);omega);have:=Int.mul_nonneg h4 (Int.le_of_lt hK);omega);(have h5:0<=U:=by(have h6:0<=top*B+u3:=by(have e:top=r:=by omega);rw[e];omega);have:=Int.mul_nonneg h6 (Int.le_of_lt hK);omega);(have:(0-1)*V = -V:=by omega);omega
 ·have h1:g*V<=g*((v1*B+v2+1)*K):=Int.mul_le_mul_of_nonneg_left (Int.le_of_lt hV) hg;(have h2:g*(v1*B+v2)<=top*B+u3:=by rw[hr,Int.add_mul,Int.mul_add,<-Int.mul_assoc];omega);have h3:=nD h2 (Int.le_of_lt hK);(have e1:g*((v1*B+v2+1)*K)=g*(v1*B+v2)*K+g*K:=by rw[<-Int.mul_assoc,Int.mul_add g _ 1,Int.add_mul,Int.mul_one]);have h4:g*K<=B*K:=nD (by omega) (Int.le_of_lt hK);(have h5:B*K<=V:=by(have h6:B<=v1*B+v2:=by have:1*B<=v1*B:=nD hv1 (Int.le_of_lt hB);omega);have:=nD h6 (Int.le_of_lt hK);omega);(have e2:(g-1)*V=g*V-V:=by rw[Int.sub_mul,Int.one_mul]);omega
end Mw
