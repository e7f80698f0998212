/- Lemmas for the claim beside this text. -/
import Derived.Test.YtjieekkkaekclaaGreatDoorZBAD
import Derived.Test.YtjieekkkaekclaaGreatDoorZBAM
import Derived.Test.YtjieekkkaekclaaGreatDoorZBAN
import Derived.Test.YtjieekkkaekclaaGreatDoorZBAP
import Derived.Test.YtjieekkkaekclaaGreatDoorZBAS
import Derived.BigQuiet
import Derived.Deep.CutBlock
import Derived.Deep.DeepCutAuto
import Derived.Deep.LoopGhost
import Derived.Deep.QuietTactic
import Derived.Laws.StructEq
set_option linter.all false
set_option linter.unusedVariables false
set_option linter.unusedSimpArgs false
set_option maxHeartbeats 3200000
set_option maxRecDepth 100000
namespace Go.Proofs.YtjieekkkaekclaaGreatDoor
open Go.RowKit Go.Pw.PrintWords
theorem vD (x:Int) (w:World):Calls Tryz.prog 164 #[.int .i64 x] w fun e w'=>e = .returned (.bool false)/\w'=w:=by
 go_enter Tryz.func164,Tryz.ntmps164
 go_wp2
 go_ret
 exact⟨by simp,rfl⟩
theorem aAm (x y:Int) (w:World):Calls Tryz.prog 144 #[.int .i64 x,.int .i64 y] w fun e w'=>e = .returned (.int .i64 (gV x y))/\w'=w:=by
 unfold gV;by_cases h1:x<y
 ·rw[if_pos h1];(go_enter Tryz.func144,Tryz.ntmps144);go_wp2_with (go_at_call 164;refine(vD _ _).mono ?_;rintro e w' ⟨rfl,rfl⟩)
  go_ret
  exact⟨rfl,rfl⟩
 ·rw[if_neg h1];by_cases h2:y<x
  ·rw[if_pos h2];(go_enter Tryz.func144,Tryz.ntmps144);go_wp2_with (go_at_call 164;refine(vD _ _).mono ?_;rintro e w' ⟨rfl,rfl⟩)
   go_ret
   exact⟨rfl,rfl⟩
  ·rw[if_neg h2];(go_enter Tryz.func144,Tryz.ntmps144);go_wp2_with (go_at_call 164;refine(vD _ _).mono ?_;rintro e w' ⟨rfl,rfl⟩)
   go_ret
   exact⟨rfl,rfl⟩
theorem aCb {s s' n m:Int} (hs:s=sgn n) (hs':s'=sgn m) (h:s=s'):s*gV n.natAbs m.natAbs=gV n m:=by have e:=hs.symm.trans (h.trans hs');subst hs;rcases fP n with⟨e1,h1⟩|⟨e1,h1⟩|⟨e1,h1⟩<;>rcases fP m with⟨e2,h2⟩|⟨e2,h2⟩|⟨e2,h2⟩<;>rw[e1,e2]at e<;>(try omega)<;>rw[e1]<;>unfold gV<;>(repeat' split)<;>omega
theorem aCc {n m:Int} (h:sgn n≠sgn m):gV (sgn n) (sgn m)=gV n m:=by rcases fP n with⟨e1,h1⟩|⟨e1,h1⟩|⟨e1,h1⟩<;>rcases fP m with⟨e2,h2⟩|⟨e2,h2⟩|⟨e2,h2⟩<;>rw[e1,e2]at h⊢<;>(try omega)<;>unfold gV<;>(repeat' split)<;>omega
theorem aFa (a b:Int):-1<=gV a b/\gV a b<=1:=by rcases vF a b with h|h|h<;>omega
theorem aIi {s s':Int} {A A':Option Addr} {k c k' c':Nat} {n m:Int} (w:World) (H:dS w s A k c n) (H':dS w s' A' k' c' m):
 Calls Tryz.prog 115 #[.agg #[.int .i64 s,.slice A k c],.agg #[.int .i64 s',.slice A' k' c']] w fun e w'=>e = .returned (.int .i64 (gV n m))/\Below w.heap.size w w':=by
 have hb0:Below w.heap.size w ((w.alloc (.cells #[.int .i64 s,.slice A k c] 71)).alloc (.cells #[.int .i64 s',.slice A' k' c'] 71)):=((Below.refl _ _).alloc (Nat.le_refl _) _).alloc (by simp) _;have H1:=H.below hb0;have H1':=H'.below hb0;have HB:=Lib.hid hb0;clear hb0;by_cases h:s=s'
 ·have HV:=Lib.hid (aCb H.sign H'.sign h);obtain⟨r,hr⟩:∃r,gV n.natAbs m.natAbs=r:=⟨_,rfl⟩;have hr1:=aFa n.natAbs m.natAbs;rw[hr]at hr1;have HR:=Lib.hid hr;clear hr;(have hne:(s != s')=false:=by simp[h]);have hsb:=H.bd;have HW:Hid (IntKind.i64.wrap (s*r)=s*r):=Lib.hid (IntWalk.i64_in _ (by have:=aCU s r hsb hr1;omega));clear h;have H2:=H1.drew;have H2':=H1'.drew;(go_enter Tryz.func115,Tryz.ntmps115);(go_wp2_with fail);(go_region_held3 (fun w'=>w'.cell? ⟨w.heap.size,0,none⟩=some (.int .i64 s)/\w'.cell? ⟨w.heap.size,1,none⟩=some (.slice A k c)/\w'.cell? ⟨w.heap.size+1,0,none⟩=some (.int .i64 s')/\w'.cell? ⟨w.heap.size+1,1,none⟩=some (.slice A' k' c')) (first|go_keep|exact⟨d0,d1,d2,d3⟩) (first|(go_at_call 102;(with_reducible refine(xS _ H2 H2').mono ?_);rw[HR.out];rintro e w1 ⟨rfl,hb1⟩;obtain⟨d0,d1,d2,d3,d4,d5⟩:=aFe (fK hb1))));go_wp2
  go_ret
  exact⟨by rw[HW.out,<-HV.out,HR.out];rfl,HB.out.trans ((fK hb1).mono (by simp;omega))⟩
 ·have HV:=Lib.hid (aCc (n:=n) (m:=m) (by rw[<-H.sign,<-H'.sign];exact h));(have hne:(s != s')=true:=by simp[h]);clear h;(go_enter Tryz.func115,Tryz.ntmps115);go_wp2_with (go_at_call 144;refine(aAm _ _ _).mono ?_;rintro e w' ⟨rfl,rfl⟩)
  go_ret
  exact⟨by rw[<-HV.out,<-H.sign,<-H'.sign];rfl,HB.out⟩
end Go.Proofs.YtjieekkkaekclaaGreatDoor
namespace Go.Proofs.YtjieekkkaekclaaGreatDoor
open Go Go.RowKit Go.Pw.PrintWords
theorem aLw:uG 116:=⟨_,_,Tryz.func116,rfl,rfl,rfl,by decide⟩
theorem aDo:uG 114:=⟨_,_,Tryz.func114,rfl,rfl,rfl,by decide⟩
theorem qK:uG 108:=⟨_,_,Tryz.func108,rfl,rfl,rfl,by decide⟩
theorem dX:uG 120:=⟨_,_,Tryz.func120,rfl,rfl,rfl,by decide⟩
theorem aNA (s:ByteArray) (w:World) (hs:s.size<=100000) (hg:Ety w):
 Calls Tryz.prog 56 #[.string s] w fun e w'=>e = .returned (.int .i64 (Mw.iP s.data.toList))/\Below w.heap.size w w':=by
 have hmf:∀(fn:Fn) (first cap:Array Value) (w:World),(Instr.makeFunc fn first cap).run Tryz.prog w = .ok (.func fn first cap) w:=fun _ _ _ _=>rfl
 have HG:=Lib.hid hg;clear hg;by_cases hok:Mw.iP s.data.toList=0
 ·have HOK:=Lib.hid hok;(go_enter_defers Tryz.func56,Tryz.ntmps56);go_wp2_with (first|(go_at_call 69;with_reducible refine(jE s _ hs hok).mono ?_;rintro e w1 ⟨s2,A2,k2,c2,rfl,-,hb1⟩;obtain⟨q0,f0,z0,hB⟩:=sV hb1))
  exact kR aLw _ (.int .i64 0) (.int .i64 0) _ (World.cell?_setCell_same _ _ _ q0) (by simp[f0]) (fun W' h=>by simp[results,Tryz.results56,go_sem,h])
   (fun W' h=>⟨by rw[HOK.out],(hB.setCell (Nat.le_refl _) _).trans h⟩)
 ·(go_enter_defers Tryz.func56,Tryz.ntmps56);go_wp2_with (first|(go_at_call 69;with_reducible refine(pQ s _ hok).mono ?_;rintro e w1 ⟨rfl,hb1⟩;obtain⟨q0,f0,z0,hB⟩:=sV hb1))
  exact dK aLw _ (.int .i64 0) (.int .i64 (Mw.iP s.data.toList)) _ _ (HG.out.below hB) z0 q0 f0 (fun W' h=>by simp[results,Tryz.results56,go_sem,h])
   (fun W' h=>⟨rfl,hB.trans h⟩)
theorem aNy (s t:ByteArray) (w:World) (hs:s.size<=100000) (ht:t.size<=100000) (hg:Ety w):
 Calls Tryz.prog 53 #[.string s,.string t] w fun e w'=>e = .returned (.tuple #[.int .i64 (if Mw.kQ s.data.toList t.data.toList=0 then gV (Mw.lI s.data.toList) (Mw.lI t.data.toList)else 0),.int .i64 (Mw.kQ s.data.toList t.data.toList)])/\Below w.heap.size w w':=by
 have hmf:∀(fn:Fn) (first cap:Array Value) (w:World),(Instr.makeFunc fn first cap).run Tryz.prog w = .ok (.func fn first cap) w:=fun _ _ _ _=>rfl
 have HG:=Lib.hid hg;clear hg;obtain⟨er,her⟩:∃x,Mw.kQ s.data.toList t.data.toList=x:=⟨_,rfl⟩;obtain⟨rs,hrs⟩:∃x,(if Mw.kQ s.data.toList t.data.toList=0 then gV (Mw.lI s.data.toList) (Mw.lI t.data.toList)else 0)=x:=⟨_,rfl⟩;rw[hrs,her];rw[her]at hrs;by_cases hok:Mw.iP s.data.toList=0
 ·rw[Mw.kQ,if_pos hok]at her;have HER:=Lib.hid her;have HRS:=Lib.hid hrs;clear her hrs;(go_enter_defers Tryz.func53,Tryz.ntmps53);(go_wp2_with (first|(go_at_call 69;with_reducible refine(jE s _ hs hok).mono ?_;rintro e w1 ⟨s1,A1,k1,c1,rfl,hN1,hb1⟩;have HB1:=Lib.hid hb1)));refine nE (fun W=>Hid (Fr W w1.heap.size [⟨s1,A1,k1,c1⟩])/\Hid (Below w1.heap.size w1 W)) ⟨Lib.hid (yJ _ [⟨s1,A1,k1,c1⟩] w1),Lib.hid (nT _ [⟨s1,A1,k1,c1⟩] w1 (Nat.le_refl _) (Below.refl _ _))⟩ ?_;rintro W2 ⟨FA,HB2⟩;have HN1:=Lib.hid (hN1.below HB2.out);have HO:=Lib.hid (((Own.of HB1.out).next HB2.out).next (bN (Below.refl _ _):Below W2.heap.size W2 W2.drew));have hz1:=HB2.out.size;clear hN1 hb1;obtain⟨x0,x1,-,-⟩:=(FA.out.drew hz1).c1;refine jT (fun w'=>w'.cell? ⟨w1.heap.size,0,none⟩=some (.int .i64 s1)/\w'.cell? ⟨w1.heap.size,1,none⟩=some (.slice A1 k1 c1)) 4 (by kernel_rfl) (by kernel_rfl) ⟨x0,x1⟩ (fun hHeld=>?_);refine Zq.tq 0 rfl ?_;refine Zq.tq 1 rfl ?_;refine eX 2 rfl (by decide +kernel) (fun K_ hK=>?_);go_simp;by_cases hok2:Mw.iP t.data.toList=0
  ·refine(jE t _ ht hok2).mono ?_;rintro e w3 ⟨s3,A3,k3,c3,rfl,hN3,hb3⟩;rw[hok2]at HER;rw[if_pos HER.out.symm]at HRS;have HB3:Hid (Below W2.heap.size W2 w3):=Lib.hid (fK hb3);have KA:=HN1.out.below HB3.out;have HO3:=Lib.hid (HO.out.next hb3);clear hb3 x0 x1;obtain⟨x0,x1,-,-⟩:=(FA.out.call hz1 HB3.out).c1;(go_wp2_with fail);refine hK.out _ _ ⟨x0,x1⟩ (fun hHeld=>?_);clear hK;(try simp only[Act.put,Zq.a1,Zq.a2,Zq.a3]);refine eX 3 rfl (by decide +kernel) (fun K_ hK=>?_);go_simp;refine(aIi _ KA hN3).mono ?_;rintro e w4 ⟨rfl,hb4⟩;have HB4:=Lib.hid (HB3.out.trans (hb4.mono HB3.out.size));have HO4:=Lib.hid (HO3.out.next hb4);clear hb4 KA hN3 x0 x1;obtain⟨x0,x1,-,-⟩:=(FA.out.call hz1 HB4.out).c1;(go_wp2_with fail);refine hK.out _ _ ⟨x0,x1⟩ (fun hHeld=>?_);clear hK;(try simp only[Act.put,Zq.a1,Zq.a2,Zq.a3]);refine mF (by decide +kernel) ?_;have q0:=HO4.out.cell;have f0:=HO4.out.frz;(go_wp2);rw[<-HRS.out,<-HER.out]
   exact kR aDo _ (.int .i64 0) (.tuple #[.int .i64 (gV (Mw.lI s.data.toList) (Mw.lI t.data.toList)),.int .i64 0]) _ (World.cell?_setCell_same _ _ _ q0) (by simp[f0]) (fun W' h=>by simp[results,Tryz.results53,go_sem,h])
    (fun W' h=>⟨rfl,(HO4.out.below.setCell (Nat.le_refl _) _).trans h⟩)
  ·refine(pQ t _ hok2).mono ?_;rintro e w3 ⟨rfl,hb3⟩;have HO3:=HO.out.next hb3;rw[if_neg (by rw[<-HER.out];exact hok2)]at HRS
   exact dK aDo _ (.int .i64 0) (.tuple #[.int .i64 0,.int .i64 (Mw.iP t.data.toList)]) _ _ (HG.out.below HO3.below) HO3.lt HO3.cell HO3.frz (fun W' h=>by simp[results,Tryz.results53,go_sem,h])
    (fun W' h=>⟨by rw[<-HRS.out,<-HER.out],HO3.below.trans h⟩)
 ·rw[Mw.kQ,if_neg hok]at her;rw[if_neg (by rw[<-her];exact hok)]at hrs;subst her;subst hrs;(go_enter_defers Tryz.func53,Tryz.ntmps53);go_wp2_with (first|(go_at_call 69;with_reducible refine(pQ s _ hok).mono ?_;rintro e w1 ⟨rfl,hb1⟩;obtain⟨q0,f0,z0,hB⟩:=sV hb1))
  exact dK aDo _ (.int .i64 0) (.tuple #[.int .i64 0,.int .i64 (Mw.iP s.data.toList)]) _ _ (HG.out.below hB) z0 q0 f0 (fun W' h=>by simp[results,Tryz.results53,go_sem,h])
   (fun W' h=>⟨rfl,hB.trans h⟩)
theorem aER {n m:Int} {K:Nat} (hn:n.natAbs<1000000000^K) (hm:m.natAbs<1000000000^K):(lbs (n+m).natAbs).length<=K+1:=by rw[mO,Nat.pow_succ];generalize 1000000000^K=X at *;omega
theorem aLm {n m:Int} {K:Nat} (hn:n.natAbs<1000000000^K) (hm:m.natAbs<1000000000^K):(lbs (n-m).natAbs).length<=K+1:=by rw[mO,Nat.pow_succ];generalize 1000000000^K=X at *;omega
theorem aBj:aDO 100 (fun a b=>a+b):=fun W {s A k c n s' A' k' c' m} H H' hk hk'=>by refine(aNx W H H' (by omega) (by omega)).mono ?_;rintro e w' ⟨s2,A2,k2,c2,rfl,hN,hb⟩;exact⟨s2,A2,k2,c2,rfl,hN,hb,by have:=aER (H.lt hk) (H'.lt hk');rw[hN.len];omega⟩
theorem aH9:aDO 76 (fun a b=>a-b):=fun W {s A k c n s' A' k' c' m} H H' hk hk'=>by refine(aNz W H H' (by omega) (by omega)).mono ?_;rintro e w' ⟨s2,A2,k2,c2,rfl,hN,hb⟩;exact⟨s2,A2,k2,c2,rfl,hN,hb,by have:=aLm (H.lt hk) (H'.lt hk');rw[hN.len];omega⟩
theorem aCP (s t:ByteArray) (w:World) (hs:s.size<=100000) (ht:t.size<=100000) (hg:Ety w) (htab:Tab w):
 Calls Tryz.prog 43 #[.string s,.string t] w fun e w'=>e = .returned (.tuple #[.string ⟨(Mw.both (fun a b=>a+b) s.data.toList t.data.toList).1.toArray⟩,.int .i64 (Mw.both (fun a b=>a+b) s.data.toList t.data.toList).2])/\Below w.heap.size w w':=by
 have h1:=aBQ 100 (fun a b=>a+b) aBj (enters Tryz.func100 rfl (by decide)) s t w hs ht hg htab;generalize Mw.both (fun a b=>a+b) s.data.toList t.data.toList=r at *;clear hg htab hs ht;go_enter Tryz.func43,Tryz.ntmps43
 go_wp2_with (first|(go_at_call 106;with_reducible refine h1.mono ?_;rintro e w1 ⟨rfl,hb1⟩))
 exact bodyPost_ret (v:=.tuple #[.string ⟨r.1.toArray⟩,.int .i64 r.2]) (by simp[results,Tryz.results43,go_sem]) rfl ⟨rfl,hb1⟩
theorem aJ4 (s t:ByteArray) (w:World) (hs:s.size<=100000) (ht:t.size<=100000) (hg:Ety w) (htab:Tab w):
 Calls Tryz.prog 44 #[.string s,.string t] w fun e w'=>e = .returned (.tuple #[.string ⟨(Mw.both (fun a b=>a-b) s.data.toList t.data.toList).1.toArray⟩,.int .i64 (Mw.both (fun a b=>a-b) s.data.toList t.data.toList).2])/\Below w.heap.size w w':=by
 have h1:=aBQ 76 (fun a b=>a-b) aH9 (enters Tryz.func76 rfl (by decide)) s t w hs ht hg htab;generalize Mw.both (fun a b=>a-b) s.data.toList t.data.toList=r at *;clear hg htab hs ht;go_enter Tryz.func44,Tryz.ntmps44
 go_wp2_with (first|(go_at_call 106;with_reducible refine h1.mono ?_;rintro e w1 ⟨rfl,hb1⟩))
 exact bodyPost_ret (v:=.tuple #[.string ⟨r.1.toArray⟩,.int .i64 r.2]) (by simp[results,Tryz.results44,go_sem]) rfl ⟨rfl,hb1⟩
theorem aAF:aCG 80 Int.tdiv Int.tmod:=fun W {s A k c n s' A' k' c' m} H H' hm hk hk'=>by refine(aAg W H H' hm (by omega) (by omega)).mono ?_;rintro e w' ⟨s2,A2,k2,c2,s3,A3,k3,c3,rfl,hN,hM,hb⟩;have l2:k2<=k:=hN.aA9 H (by rw[Int.natAbs_tdiv];exact Nat.div_le_self _ _);have l3:k3<=k:=hM.aA9 H (by rw[Int.natAbs_tmod];exact Nat.mod_le _ _);exact⟨s2,A2,k2,c2,s3,A3,k3,c3,rfl,hN,hM,hb,by omega,by omega⟩
theorem aCH (s t:ByteArray) (w:World) (hs:s.size<=100000) (ht:t.size<=100000) (hg:Ety w) (htab:Tab w):
 Calls Tryz.prog 40 #[.string s,.string t] w fun e w'=>e = .returned (.tuple #[.string ⟨(Mw.parted Int.tdiv Int.tmod s.data.toList t.data.toList).1.toArray⟩,.string ⟨(Mw.parted Int.tdiv Int.tmod s.data.toList t.data.toList).2.1.toArray⟩,.int .i64 (Mw.parted Int.tdiv Int.tmod s.data.toList t.data.toList).2.2])/\Below w.heap.size w w':=by
 have h1:=aBf 80 Int.tdiv Int.tmod aAF (enters Tryz.func80 rfl (by decide)) s t w hs ht hg htab;generalize Mw.parted Int.tdiv Int.tmod s.data.toList t.data.toList=r at *;clear hg htab hs ht;go_enter Tryz.func40,Tryz.ntmps40
 go_wp2_with (first|(go_at_call 104;with_reducible refine h1.mono ?_;rintro e w1 ⟨rfl,hb1⟩))
 exact bodyPost_ret (v:=.tuple #[.string ⟨r.1.toArray⟩,.string ⟨r.2.1.toArray⟩,.int .i64 r.2.2]) (by simp[results,Tryz.results40,go_sem]) rfl ⟨rfl,hb1⟩
def Mw.zK (a:List UInt8) (n:Int):List UInt8×Int:=
 if Mw.iP a=0 then(if n<0 then([],2)else if 1000<n then([],2)else if Mw.gZ (Mw.lI a^n.toNat)=0 then(Mw.jF (Mw.lI a^n.toNat),0)else([],13))else([],Mw.iP a)
theorem uJ {x:Int} (h:¬Mw.gZ x=0):Mw.gZ x=13:=by
 rw[Mw.gZ]at h⊢;split at h;·rw[if_pos ‹_›]
 ·exact absurd rfl h
theorem aEN:aFp 109 (fun x=>Mw.gZ x=0):=fun W s A k c x H hx hk ht=>by
 have hb0:=nT 71 [⟨s,A,k,c⟩] W (Nat.le_refl _) (Below.refl _ _);simp only[bxs]at hb0;have H1:=H.below hb0;have ht1:=(Lib.tabBelow_of_tabIs ht) _ hb0;have HB:=Lib.hid hb0;have HX:Hid (Mw.gZ x=0):=Lib.hid hx;clear hb0 hx;go_enter Tryz.func109,Tryz.ntmps109
 go_wp2_with (go_at_call 71;with_reducible refine(lU _ H1 (by omega) ht1 HX.out).mono ?_;rintro e w1 ⟨rfl,hb1⟩)
 go_end0
 exact⟨rfl,HB.out.trans (hb1.mono HB.out.size)⟩
theorem aDa:aFq 109 (fun x=>Mw.gZ x=0) 13:=fun W s A k c x H hx hk ht=>by
 have hb0:=nT 71 [⟨s,A,k,c⟩] W (Nat.le_refl _) (Below.refl _ _);simp only[bxs]at hb0;have H1:=H.below hb0;have ht1:=(Lib.tabBelow_of_tabIs ht) _ hb0;have HB:=Lib.hid hb0;have hx':¬Mw.gZ x=0:=hx;have h13:=uJ hx';have HX:=Lib.hid hx';have hgb:=oG _ H1 (by omega) ht1 hx';rw[h13]at hgb;have HGB:=Lib.hid hgb;clear hb0 hx hx' h13 hgb;go_enter Tryz.func109,Tryz.ntmps109
 go_wp2_with (go_at_call 71;with_reducible refine(HGB.out).mono ?_;rintro e w1 ⟨rfl,hb1⟩)
 exact⟨rfl,rfl,HB.out.trans (hb1.mono HB.out.size)⟩
set_option exponentiation.threshold 500 in
theorem aCI (s:ByteArray) (n:Int) (w:World) (hs:s.size<=100000) (hg:Ety w) (htab:Tab w):
 Calls Tryz.prog 47 #[.string s,.int .i64 n] w fun e w'=>e = .returned (.tuple #[.string ⟨(Mw.zK s.data.toList n).1.toArray⟩,.int .i64 (Mw.zK s.data.toList n).2])/\Below w.heap.size w w':=by
 have hmf:∀(fn:Fn) (first cap:Array Value) (w:World),(Instr.makeFunc fn first cap).run Tryz.prog w = .ok (.func fn first cap) w:=fun _ _ _ _=>rfl
 have HG:=Lib.hid hg;have HT:=Lib.hid (Lib.tabBelow_of_tabIs htab);clear hg htab;obtain⟨⟨rs,er⟩,hr⟩:∃x,Mw.zK s.data.toList n=x:=⟨_,rfl⟩;rw[hr];dsimp only;by_cases hok:Mw.iP s.data.toList=0
 ·rw[Mw.zK,if_pos hok]at hr;obtain⟨x,hx⟩:∃x,Mw.lI s.data.toList=x:=⟨_,rfl⟩;(have hgx:Mw.gZ x=0:=by rw[<-hx];exact(wV hok).1);rw[hx]at hr;have HX:=Lib.hid hx;clear hx;by_cases hn0:n<0
  ·rw[if_pos hn0]at hr;cases hr;(go_enter_defers Tryz.func47,Tryz.ntmps47);(go_wp2_with (first|(go_at_call 69;with_reducible refine(jE s _ hs hok).mono ?_;rintro e w1 ⟨s1,A1,k1,c1,rfl,hN1,hb1⟩)|(go_at_call 86;with_reducible refine(mD _ _ _ (by first|rfl|exact decide_eq_true hn0)).mono ?_;rintro e w6 ⟨rfl,hw6⟩)));have HO3:=(Own.of hb1).next (bA (Below.refl _ _) (.cells #[.int .i64 s1,.slice A1 k1 c1] 71))
   exact dK qK _ (.int .i64 0) (.tuple #[.string ⟨#[]⟩,.int .i64 2]) _ _ (HG.out.below HO3.below) HO3.lt HO3.cell HO3.frz (fun W' h=>by simp[results,Tryz.results47,go_sem,h])
    (fun W' h=>⟨rfl,HO3.below.trans h⟩)
  ·rw[if_neg hn0]at hr;by_cases hn1:1000<n
   ·rw[if_pos hn1]at hr;cases hr;(go_enter_defers Tryz.func47,Tryz.ntmps47);(go_wp2_with (first|(go_at_call 69;with_reducible refine(jE s _ hs hok).mono ?_;rintro e w1 ⟨s1,A1,k1,c1,rfl,hN1,hb1⟩)|(go_at_call 86;with_reducible refine(mD _ _ _ (by first|rfl|exact decide_eq_true hn1)).mono ?_;rintro e w6 ⟨rfl,hw6⟩)));have HO3:=(Own.of hb1).next (bA (Below.refl _ _) (.cells #[.int .i64 s1,.slice A1 k1 c1] 71))
    exact dK qK _ (.int .i64 0) (.tuple #[.string ⟨#[]⟩,.int .i64 2]) _ _ (HG.out.below HO3.below) HO3.lt HO3.cell HO3.frz (fun W' h=>by simp[results,Tryz.results47,go_sem,h])
     (fun W' h=>⟨rfl,HO3.below.trans h⟩)
   ·rw[if_neg hn1]at hr;obtain⟨N,rfl⟩:∃N:Nat,n=(N:Int):=⟨n.toNat,by omega⟩;rw[Int.toNat_natCast]at hr;have HR:=Lib.hid hr;have HGX:=Lib.hid hgx;(have hdd:(decide ((N:Int)<0) || decide ((1000:Int)<(N:Int)))=false:=by simp;omega);clear hr hgx;(go_enter_defers Tryz.func47,Tryz.ntmps47);(go_wp2_with (first|(go_at_call 69;with_reducible refine(jE s _ hs hok).mono ?_;rintro e w1 ⟨s1,A1,k1,c1,rfl,hN1,hb1⟩;rw[HX.out]at hN1)|(go_at_call 86;with_reducible refine(lV _ _ _ (by first|rfl|exact decide_eq_false (by omega))).mono ?_;rintro e w6 ⟨rfl,rfl⟩)));have HO2:=Lib.hid ((Own.of hb1).next (bA (Below.refl _ _) (.cells #[.int .i64 s1,.slice A1 k1 c1] 71)));have hT2:=HT.out _ HO2.out.below;have hp:=aC8 109 (fun x=>Mw.gZ x=0) 13 (enters Tryz.func109 rfl (by decide)) (aAa.mpr (by decide)) (fun x y h hy=>aAR h hy) (fun x h=>(zB h).up (by omega)) aEN (w1.alloc (.cells #[.int .i64 s1,.slice A1 k1 c1] 71)) N (by omega) (hN1.below (bA (Below.refl _ _) _)) HGX.out (.inr aDa) hT2;have HP:=Lib.hid hp;clear hp hb1 hN1 hT2;(go_wp2_with (first|(go_at_call 86;with_reducible refine(lV _ _ _ hdd).mono ?_;rintro e w6 ⟨rfl,rfl⟩)));refine HP.out.mono ?_;rintro e w7 ⟨hb7,⟨hgp,s7,A7,k7,c7,rfl,hN7⟩|⟨hgp,rfl⟩⟩
    ·have hr:=HR.out;have hgp':Mw.gZ (x^N)=0:=hgp;rw[if_pos hgp']at hr;have HRR:=Lib.hid hr;have HO7:=Lib.hid (HO2.out.next hb7);have hT7:=HT.out _ HO7.out.below;have hk7:k7<=45:=(zB hgp').kle hN7;have HGP:=Lib.hid hgp';clear hr hb7 hgp hgp';(go_wp2_with (first|(go_at_call 71;with_reducible refine(lU _ hN7 (by omega) hT7 HGP.out).mono ?_;rintro e w8 ⟨rfl,hb8⟩;refine Hid.out ?_)));have HO8:=Lib.hid (HO7.out.next hb8);have q0:=HO8.out.cell;have f0:=HO8.out.frz;clear hb8 hT7 hN7;refine Lib.hid ?_;(go_wp2);have hr:=HRR.out;cases hr
     exact kR qK _ (.int .i64 0) (.tuple #[.string _,.int .i64 0]) _ (World.cell?_setCell_same _ _ _ q0) (by simp[f0]) (fun W' h=>by simp[results,Tryz.results47,go_sem,h])
      (fun W' h=>⟨rfl,(HO8.out.below.setCell (Nat.le_refl _) _).trans h⟩)
    ·have hr:=HR.out;have hgp':¬Mw.gZ (x^N)=0:=hgp;rw[if_neg hgp']at hr;cases hr;have HO7:=HO2.out.next hb7
     exact dK qK _ (.int .i64 0) (.tuple #[.string ⟨#[]⟩,.int .i64 13]) _ _ (HG.out.below HO7.below) HO7.lt HO7.cell HO7.frz (fun W' h=>by simp[results,Tryz.results47,go_sem,h])
      (fun W' h=>⟨rfl,HO7.below.trans h⟩)
 ·rw[Mw.zK,if_neg hok]at hr;cases hr;(go_enter_defers Tryz.func47,Tryz.ntmps47);go_wp2_with (first|(go_at_call 69;with_reducible refine(pQ s _ hok).mono ?_;rintro e w1 ⟨rfl,hb1⟩;obtain⟨q0,f0,z0,hB⟩:=sV hb1))
  exact dK qK _ (.int .i64 0) (.tuple #[.string ⟨#[]⟩,.int .i64 (Mw.iP s.data.toList)]) _ _ (HG.out.below hB) z0 q0 f0 (fun W' h=>by simp[results,Tryz.results47,go_sem,h])
   (fun W' h=>⟨rfl,hB.trans h⟩)
end Go.Proofs.YtjieekkkaekclaaGreatDoor
namespace Mw
def lH (c:UInt8):Nat:=if 48<=c.toNat/\c.toNat<=57 then c.toNat-48 else if 97<=c.toNat/\c.toNat<=122 then c.toNat-87 else 99
def nX (b:Nat) (l:List UInt8):Nat:=l.foldl (fun a c=>a*b+lH c) 0
theorem tK (b:Nat) (l:List UInt8) (c:UInt8):nX b (l++[c])=nX b l*b+lH c:=by rw[nX,List.foldl_append];rfl
theorem aAG (b:Nat):nX b []=0:=rfl
theorem aFd {b:Nat} (l:List UInt8) (h:∀c ∈ l,lH c<b):nX b l<b^l.length:=by
 suffices H:∀(k:Nat) (l:List UInt8),l.length=k->(∀c ∈ l,lH c<b)->nX b l<b^l.length from H _ l rfl h
 intro k;induction k with
 | zero=>intro l hl _;have:l=[]:=List.length_eq_zero_iff.mp hl;subst this;simp[aAG]
 | succ k ih=>intro l hl h;obtain⟨a,c,rfl⟩:∃a c,l=a++[c]:=⟨l.dropLast,l.getLast (by intro e;subst e;simp at hl),(List.dropLast_concat_getLast _).symm⟩;have h1:=ih a (by simpa using hl) (fun c hc=>h c (by simp[hc]));have h2:=h c (by simp);rw[tK,List.length_append,List.length_singleton,Nat.pow_succ];have h3:(nX b a+1)*b<=b^a.length*b:=Nat.mul_le_mul_right _ h1;rw[Nat.add_mul]at h3;omega
end Mw
namespace Go.Proofs.YtjieekkkaekclaaGreatDoor
open Go Go.RowKit Go.Pw.PrintWords
attribute [local go_sem] Oper.semAt_some
def Mw.dgv (c:Int):Int:=if 48<=c/\c<=57 then c-48 else if 97<=c/\c<=122 then c-87 else -1
def Mw.knd (c:Int):Int:=if 48<=c/\c<=57 then 1 else if 97<=c/\c<=122 then 2 else 0
theorem aDm (c:Int) (w:World):Calls Tryz.prog 146 #[.int .i32 c] w fun e w'=>e = .returned (.int .i64 (Mw.knd c))/\w'=w:=by
 obtain⟨k,hk⟩:∃k,Mw.knd c=k:=⟨_,rfl⟩;rw[hk];unfold Mw.knd at hk;by_cases h1:48<=c
 ·by_cases h2:c<=57
  ·rw[if_pos ⟨h1,h2⟩]at hk;subst hk;(go_enter Tryz.func146,Tryz.ntmps146);go_wp2
   go_ret
   exact⟨rfl,rfl⟩
  ·rw[if_neg (by omega)]at hk;by_cases h3:97<=c
   ·by_cases h4:c<=122
    ·rw[if_pos ⟨h3,h4⟩]at hk;subst hk;(go_enter Tryz.func146,Tryz.ntmps146);go_wp2
     go_ret
     exact⟨rfl,rfl⟩
    ·rw[if_neg (by omega)]at hk;subst hk;(go_enter Tryz.func146,Tryz.ntmps146);go_wp2
     go_ret
     exact⟨rfl,rfl⟩
   ·rw[if_neg (by omega)]at hk;subst hk;(go_enter Tryz.func146,Tryz.ntmps146);go_wp2
    go_ret
    exact⟨rfl,rfl⟩
 ·rw[if_neg (by omega),if_neg (by omega)]at hk;subst hk;(go_enter Tryz.func146,Tryz.ntmps146);go_wp2
  go_ret
  exact⟨rfl,rfl⟩
theorem uK (c:Int) (w:World):Calls Tryz.prog 122 #[.int .i32 c] w fun e w'=>e = .returned (.int .i64 (Mw.dgv c))/\w'=w:=by
 obtain⟨k,hk⟩:∃k,Mw.dgv c=k:=⟨_,rfl⟩;obtain⟨m,hm⟩:∃m,Mw.knd c=m:=⟨_,rfl⟩;have hK:=aDm c w;rw[hm]at hK;rw[hk];unfold Mw.dgv at hk;unfold Mw.knd at hm;by_cases h1:48<=c/\c<=57
 ·rw[if_pos h1]at hk hm;subst hm;have hw1:IntKind.i64.wrap c=c:=wrap_small _ (by omega) (by omega);have hw2:IntKind.i64.wrap k=k:=wrap_small _ (by omega) (by omega);clear h1;(go_enter Tryz.func122,Tryz.ntmps122);go_wp2_with (go_at_call 146;with_reducible refine hK.mono ?_;rintro e w1 ⟨rfl,rfl⟩)
  go_ret
  exact⟨rfl,rfl⟩
 ·rw[if_neg h1]at hk hm;by_cases h2:97<=c/\c<=122
  ·rw[if_pos h2]at hk hm;subst hm;have hw1:IntKind.i64.wrap c=c:=wrap_small _ (by omega) (by omega);obtain⟨q,hq⟩:∃q,c-39=q:=⟨_,rfl⟩;(have hq2:q-48=k:=by omega);have hw2:IntKind.i64.wrap q=q:=wrap_small _ (by omega) (by omega);have hw3:IntKind.i64.wrap k=k:=wrap_small _ (by omega) (by omega);clear h1 h2 hk;(go_enter Tryz.func122,Tryz.ntmps122);go_wp2_with (go_at_call 146;with_reducible refine hK.mono ?_;rintro e w1 ⟨rfl,rfl⟩)
   go_ret
   exact⟨rfl,rfl⟩
  ·rw[if_neg h2]at hk hm;subst hm;subst hk;clear h1 h2;(go_enter Tryz.func122,Tryz.ntmps122);go_wp2_with (go_at_call 146;with_reducible refine hK.mono ?_;rintro e w1 ⟨rfl,rfl⟩)
   go_ret
   exact⟨rfl,rfl⟩
theorem aAl {c0:UInt8} {r n:Nat} (h:((r,n)=(c0.toNat,1)/\c0.toNat<128)\/(128<=r/\128<=c0.toNat)) {b:Nat} (hb:b<=36):
 (Mw.lH c0<b/\Mw.dgv (r:Int)=(Mw.lH c0:Int)/\n=1)\/(¬Mw.lH c0<b/\(Mw.dgv (r:Int)<0\/(b:Int)<=Mw.dgv (r:Int))):=by
 rcases h with⟨h,hl⟩|⟨h1,h2⟩;·cases h;by_cases h1:48<=c0.toNat/\c0.toNat<=57;(·(have e1:Mw.lH c0=c0.toNat-48:=by unfold Mw.lH;rw[if_pos h1]);(have e2:Mw.dgv (c0.toNat:Int)=(c0.toNat:Int)-48:=by unfold Mw.dgv;rw[if_pos (by omega)]);rw[e1,e2];by_cases h2:c0.toNat-48<b;(·exact .inl ⟨h2,by omega,rfl⟩);·exact .inr ⟨h2,by omega⟩);·by_cases h3:97<=c0.toNat/\c0.toNat<=122;(·(have e1:Mw.lH c0=c0.toNat-87:=by unfold Mw.lH;rw[if_neg h1,if_pos h3]);(have e2:Mw.dgv (c0.toNat:Int)=(c0.toNat:Int)-87:=by unfold Mw.dgv;rw[if_neg (by omega),if_pos (by omega)]);rw[e1,e2];by_cases h2:c0.toNat-87<b;(·exact .inl ⟨h2,by omega,rfl⟩);·exact .inr ⟨h2,by omega⟩);·(have e1:Mw.lH c0=99:=by unfold Mw.lH;rw[if_neg h1,if_neg h3]);(have e2:Mw.dgv (c0.toNat:Int) = -1:=by unfold Mw.dgv;rw[if_neg (by omega),if_neg (by omega)]);rw[e1,e2];exact .inr ⟨by omega,.inl (by omega)⟩
 ·(have e1:Mw.lH c0=99:=by unfold Mw.lH;rw[if_neg (by omega),if_neg (by omega)]);(have e2:Mw.dgv (r:Int) = -1:=by unfold Mw.dgv;rw[if_neg (by omega),if_neg (by omega)]);rw[e1,e2];exact .inr ⟨by omega,.inl (by omega)⟩
end Go.Proofs.YtjieekkkaekclaaGreatDoor
