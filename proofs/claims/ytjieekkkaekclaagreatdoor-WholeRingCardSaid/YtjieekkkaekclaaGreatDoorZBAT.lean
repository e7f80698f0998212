/- Lemmas for the claim beside this text. -/
import Derived.Test.YtjieekkkaekclaaGreatDoorProg
import Derived.Test.YtjieekkkaekclaaGreatDoorRows
import Derived.Test.YtjieekkkaekclaaGreatDoorZBAA
import Derived.Test.YtjieekkkaekclaaGreatDoorZBAC
import Derived.Test.YtjieekkkaekclaaGreatDoorZBAD
import Derived.Test.YtjieekkkaekclaaGreatDoorZBAE
import Derived.Test.YtjieekkkaekclaaGreatDoorZBAM
import Derived.Test.YtjieekkkaekclaaGreatDoorZBAN
import Derived.Test.YtjieekkkaekclaaGreatDoorZBAO
import Derived.Test.YtjieekkkaekclaaGreatDoorZBAP
import Derived.Test.YtjieekkkaekclaaGreatDoorZBAQ
import Derived.Test.YtjieekkkaekclaaGreatDoorZBAR
import Derived.Test.YtjieekkkaekclaaGreatDoorZBAS
import Derived.ArgAppend
import Derived.Below
import Derived.BigQuiet
import Derived.ChangeSame
import Derived.ChangeVars
import Derived.Conc.Holds
import Derived.Deep.AppendLies
import Derived.Deep.CutBlock
import Derived.Deep.DeepCutAuto
import Derived.Deep.Draws
import Derived.Deep.LoopGhost
import Derived.Deep.OwnRows
import Derived.Deep.QuietTactic
import Derived.Deep.RegionHeld3
import Derived.JoinedOf
import Derived.KernelRfl
import Derived.LaidHandle
import Derived.LaidLaws
import Derived.LaidMore
import Derived.Laws.BitsLemmas
import Derived.Laws.BytesArg
import Derived.Laws.IdiomCopy
import Derived.Laws.MakeOwn
import Derived.Laws.OwnMore
import Derived.Laws.Rows
import Derived.Laws.Slices
import Derived.Laws.StructEq
import Derived.Lib.AppendStr
import Derived.Lib.ConvBytes
import Derived.Maps.AppendAt
import Derived.OrdersHeld
import Derived.OwnWalk
import Derived.ProofKit
import Derived.RowKit
import Derived.RowKit3
import Derived.RowKitTokens
import Derived.SevenTiedAt
import Derived.Stop.Joined
import Derived.Tactics
import Derived.WalkKit
import Derived.WideLaws
set_option linter.all false
set_option linter.unusedVariables false
set_option linter.unusedSimpArgs false
set_option maxHeartbeats 8000000
set_option maxRecDepth 100000
namespace Go.Proofs.YtjieekkkaekclaaGreatDoor
open Go Go.RowKit Go.Pw.PrintWords
def Mw.factor (a:List UInt8):List (List UInt8)×Int:=
 if Mw.iP a=0 then(if Mw.lI a<1 then([],2)else if 1000000<Mw.lI a then([],13)else((Mw.fs 2 (Mw.lI a).toNat).map Mw.gU,0))else([],Mw.iP a)
def bts (l:List (List UInt8)):List ByteArray:=l.map fun x=>⟨x.toArray⟩
theorem aG6:(Tryz.prog.info? 9).map (fun i=>(i.zero,i.size,i.bytes))=some (some (.string ⟨#[]⟩),1,16):=by kernel_rfl
theorem aGu (l:List Nat) (d:Nat):bts ((l++[d]).map Mw.gU)=bts (l.map Mw.gU)++[⟨(Mw.gU d).toArray⟩]:=by simp[bts]
theorem aHI (l:List Nat):(bts (l.map Mw.gU)).length=l.length:=by simp[bts]
theorem aKb {d:Nat} (h:d<10^9):Mw.gZ (d:Int)=0:=by rw[Mw.gZ,if_neg];have:=(Mw.iZ d 9 (by omega)).mpr (by omega);simp only[Int.natAbs_natCast];omega
theorem aK5 (d:Nat):Mw.jF (d:Int)=Mw.gU d:=by rw[Mw.eY (by omega),Int.natAbs_natCast]
theorem aEs {s:Int} {A:Option Addr} {k c m:Nat} (w:World) (H:dS w s A k c (m:Int)) (hm:m<=1000000) (ht:Tab w):
 Calls Tryz.prog 71 #[.agg #[.int .i64 s,.slice A k c]] w fun e w'=>e = .returned (.string ⟨(Mw.gU m).toArray⟩)/\Below w.heap.size w w':=by
 rw[<-aK5];exact lU w H (by have:=H.aDk (N:=1000000) (K:=1) (by decide) (by rw[Int.natAbs_natCast];exact hm);omega) ht (aKb (by omega))
theorem aKH {α:Type} {d:Kd α} {e:Nat} {w:World} {base:Nat} {ok:Nat->Prop} {v:Value} {xs:List α} (h:d.R e w base ok v xs):d.R e w base (fun _=>True) v xs:=by obtain⟨h0,inner,ho,hr⟩:=h;exact⟨fun _ _=>trivial,inner,ho,hr.uU (fun _ _ hp=>d.M_mono (fun k hk=>⟨trivial,hk.2⟩) hp)⟩
theorem aA2 {α:Type} {d:Kd α} {e:Nat} {w:World} {B:Nat} {v:Value} {xs:List α} (h:d.R e w (B+1) (fun k=>B+1<=k) v xs) (x:Value):d.R e (w.setCell ⟨B,0,none⟩ x) (B+1) (fun k=>B+1<=k) v xs:=
 Kd.sQ h (fun k hk=>Below.heap_setCell _ _ _ _ (by simp;omega))
theorem aDt (s:ByteArray) (w:World) (hs:s.size<=100000) (hg:Ety w) (htab:Tab w):
 Calls Tryz.prog 26 #[.string s] w fun e w'=>∃v:Value,e = .returned (.tuple #[v,.int .i64 (Mw.factor s.data.toList).2])/\Kd.R Kd.string 9 w' w.heap.size (fun _=>True) v (bts (Mw.factor s.data.toList).1)/\Below w.heap.size w w':=by
 have hmf:∀(fn:Fn) (first cap:Array Value) (w:World),(Instr.makeFunc fn first cap).run Tryz.prog w = .ok (.func fn first cap) w:=fun _ _ _ _=>rfl
 have HG:=Lib.hid hg;have HT:=Lib.hid (Lib.tabBelow_of_tabIs htab);clear hg htab;obtain⟨⟨rs,er⟩,hr⟩:∃x,Mw.factor s.data.toList=x:=⟨_,rfl⟩;rw[hr];dsimp only;have hnil:∀W,Kd.R Kd.string 9 W w.heap.size (fun _=>True) (.slice none 0 0) (bts []):=fun W=>Kd.tT _ _ _ _ _
 by_cases hok:Mw.iP s.data.toList=0
 ·rw[Mw.factor,if_pos hok]at hr;obtain⟨n,hn⟩:∃n,Mw.lI s.data.toList=n:=⟨_,rfl⟩;rw[hn]at hr;by_cases h1:n<1
  ·rw[if_pos h1]at hr;cases hr;have HN:=Lib.hid hn;clear hn;(go_enter_defers Tryz.func26,Tryz.ntmps26);(go_wp2_with (first|(go_at_call 69;with_reducible refine(jE s _ hs hok).mono ?_;rintro e w1 ⟨s1,A1,k1,c1,rfl,hN1,hb1⟩;rw[HN.out]at hN1;have hs1 : -1<=s1/\s1<1:=by(rw[hN1.sign];rcases fP n with⟨e1,h1⟩|⟨e1,h1⟩|⟨e1,h1⟩<;>omega))|(go_at_call 74;with_reducible refine(wZ s1 _ (by omega)).mono ?_;rintro e w5 ⟨rfl,hw5⟩)|(go_at_call 86;with_reducible refine(mD _ _ _ (by first|rfl|exact decide_eq_true hs1.2)).mono ?_;rintro e w6 ⟨rfl,hw6⟩)));have HO3:=(Own.of hb1).next (bA (Below.refl _ _) (.cells #[.int .i64 s1,.slice A1 k1 c1] 71))
   exact dK tJ _ (.int .i64 0) (.tuple #[.slice none 0 0,.int .i64 2]) _ _ (HG.out.below HO3.below) HO3.lt HO3.cell HO3.frz (fun W' h=>by simp[results,Tryz.results26,go_sem,h])
    (fun W' h=>⟨_,rfl,hnil W',HO3.below.trans h⟩)
  ·rw[if_neg h1]at hr;have HN:=Lib.hid hn;have H1:=Lib.hid h1;clear hn;by_cases hbig:1000000<n
   ·rw[if_pos hbig]at hr;cases hr;by_cases h9:n<1000000000
    ·have hbig':decide ((1000000:Int)<n)=true:=decide_eq_true hbig;(go_enter_defers Tryz.func26,Tryz.ntmps26);(go_wp2_with (first|(go_at_call 69;with_reducible refine(jE s _ hs hok).mono ?_;rintro e w1 ⟨s1,A1,k1,c1,rfl,hN1,hb1⟩;rw[HN.out]at hN1;have hs1 : -1<=s1/\s1<=1/\¬s1<1:=by(rw[hN1.sign];rcases fP n with⟨e1,h1⟩|⟨e1,h1⟩|⟨e1,h1⟩<;>omega))|(go_at_call 74;with_reducible refine(wZ s1 _ (by omega)).mono ?_;rintro e w5 ⟨rfl,rfl⟩)|(go_at_call 86;with_reducible refine(lV _ _ _ (by first|rfl|exact decide_eq_false (by omega))).mono ?_;rintro e w6 ⟨rfl,rfl⟩)|(go_at_call 87;with_reducible refine(aC2 _ (hN1.below (bA (Below.refl _ _) _)) (by omega)).mono ?_;rintro e w7 ⟨rfl,hb7⟩)|(go_at_call 86;with_reducible refine(mD _ _ _ (by first|rfl|exact hbig')).mono ?_;rintro e w8 ⟨rfl,rfl⟩)));have HO3:=((Own.of hb1).next (bA (Below.refl _ _) (.cells #[.int .i64 s1,.slice A1 k1 c1] 71))).next hb7
     exact dK tJ _ (.int .i64 0) (.tuple #[.slice none 0 0,.int .i64 13]) _ _ (HG.out.below HO3.below) HO3.lt HO3.cell HO3.frz (fun W' h=>by simp[results,Tryz.results26,go_sem,h])
      (fun W' h=>⟨_,rfl,hnil W',HO3.below.trans h⟩)
    ·(go_enter_defers Tryz.func26,Tryz.ntmps26);(go_wp2_with (first|(go_at_call 69;with_reducible refine(jE s _ hs hok).mono ?_;rintro e w1 ⟨s1,A1,k1,c1,rfl,hN1,hb1⟩;rw[HN.out]at hN1;have hs1 : -1<=s1/\s1<=1/\¬s1<1:=by(rw[hN1.sign];rcases fP n with⟨e1,h1⟩|⟨e1,h1⟩|⟨e1,h1⟩<;>omega))|(go_at_call 74;with_reducible refine(wZ s1 _ (by omega)).mono ?_;rintro e w5 ⟨rfl,rfl⟩)|(go_at_call 86;with_reducible refine(lV _ _ _ (by first|rfl|exact decide_eq_false (by omega))).mono ?_;rintro e w6 ⟨rfl,rfl⟩)|(go_at_call 87;with_reducible refine(aFB _ (hN1.below (bA (Below.refl _ _) _)) (by omega)).mono ?_;rintro e w7 ⟨rfl,hb7⟩)|(go_at_call 86;with_reducible refine(mD _ _ _ (by first|rfl|exact hbig')).mono ?_;rintro e w8 ⟨rfl,rfl⟩)));have HO3:=((Own.of hb1).next (bA (Below.refl _ _) (.cells #[.int .i64 s1,.slice A1 k1 c1] 71))).next hb7
     exact dK tJ _ (.int .i64 0) (.tuple #[.slice none 0 0,.int .i64 13]) _ _ (HG.out.below HO3.below) HO3.lt HO3.cell HO3.frz (fun W' h=>by simp[results,Tryz.results26,go_sem,h])
      (fun W' h=>⟨_,rfl,hnil W',HO3.below.trans h⟩)
   ·rw[if_neg hbig]at hr;obtain⟨N,hN⟩:∃N:Nat,n=(N:Int):=⟨n.toNat,by omega⟩;have hbig':decide ((1000000:Int)<n)=false:=decide_eq_false hbig;(have hsm:n.natAbs<1000000000:=by omega);have HNN:=Lib.hid hN;clear hN hbig h1;(go_enter_defers Tryz.func26,Tryz.ntmps26);(go_wp2_with (first|(go_at_call 69;with_reducible refine(jE s _ hs hok).mono ?_;rintro e w1 ⟨s1,A1,k1,c1,rfl,hN1,hb1⟩;rw[HN.out]at hN1;have hs1 : -1<=s1/\s1<=1/\¬s1<1:=by(have:=H1.out;rw[hN1.sign];rcases fP n with⟨e1,h1⟩|⟨e1,h1⟩|⟨e1,h1⟩<;>omega))|(go_at_call 74;with_reducible refine(wZ s1 _ (by omega)).mono ?_;rintro e w5 ⟨rfl,rfl⟩)|(go_at_call 86;with_reducible refine(lV _ _ _ (by first|rfl|exact decide_eq_false (by omega))).mono ?_;rintro e w6 ⟨rfl,rfl⟩)|(go_at_call 87;with_reducible refine(aC2 _ (hN1.below (bA (Below.refl _ _) _)) hsm).mono ?_;rintro e w7 ⟨rfl,hb7⟩)|(go_at_call 86;with_reducible refine(lV _ _ _ (by first|rfl|exact hbig')).mono ?_;rintro e w8 ⟨rfl,rfl⟩)));have HO:=Lib.hid (((Own.of hb1).next (bA (Below.refl _ _) (.cells #[.int .i64 s1,.slice A1 k1 c1] 71))).next hb7);have HR:=Lib.hid hr;have HNB:Hid (1<=N/\N<=1000000):=Lib.hid (by have:=H1.out;have:=HNN.out;have:=of_decide_eq_false hbig';omega);have hNn:=HNN.out;subst hNn;clear hN1 hb1 hb7 hbig' hsm hs1 hr HNN H1
    go_loopw [2,5,7] (fun v2 v5 v7 wr=>∃(l:List Nat) (m p:Nat),v5 = .int .i64 m/\v7 = .int .i64 p/\Hid (Kd.R Kd.string 9 wr (w.heap.size+1) (fun k=>w.heap.size+1<=k) v2 (bts (l.map Mw.gU)))/\Hid (l++Mw.fs p m=Mw.fs 2 N)/\Hid (2<=p/\1<=m/\l.length+m<=1000000/\p<=1001)/\Hid (∀d,2<=d->d<p->m%d≠0)/\Hid (Own w (.int .i64 0) wr)) (fun _ _ v7 _=>1001-(intOf v7).toNat)
    case atStart=>exact⟨[],N,2,rfl,rfl,Lib.hid (Kd.tT _ _ _ _ _),Lib.hid rfl,Lib.hid (by have:=HNB.out;simp;omega),Lib.hid (by intro d h2 h3;omega),HO⟩
    case round=>
     obtain⟨l,m,p,rfl,rfl,HRW,HFS,HBD,HND,HO2⟩:=hrel;have hbd:=HBD.out;have hp1:2<=p:=hbd.1;have hp2:p<=1001:=hbd.2.2.2;(have hm1:m<=1000000:=by omega);obtain⟨q,hq⟩:∃q:Nat,p*p=q:=⟨_,rfl⟩;(have hq2:q<=1002001:=by rw[<-hq];exact Nat.mul_le_mul hp2 hp2);(have hqi:(p:Int)*(p:Int)=(q:Int):=by rw[<-hq];simp);have HQ:=Lib.hid hq;clear hbd hq;by_cases hle:q<=m
     ·(have hle':(q:Int)<=(m:Int):=by omega);(have hp3:p<=1000:=by rcases Nat.lt_or_ge p 1001 with h|h;(·omega);·have h9:=Nat.mul_le_mul h h;rw[HQ.out]at h9;omega);go_wp2_with fail
      go_loopw [2,5] (fun v2 v5 wr=>∃(l:List Nat) (m:Nat),v5 = .int .i64 m/\Hid (Kd.R Kd.string 9 wr (w.heap.size+1) (fun k=>w.heap.size+1<=k) v2 (bts (l.map Mw.gU)))/\Hid (l++Mw.fs p m=Mw.fs 2 N)/\Hid (1<=m/\l.length+m<=1000000)/\Hid (∀d,2<=d->d<p->m%d≠0)/\Hid (Own w (.int .i64 0) wr)) (fun _ v5 _=>(intOf v5).toNat)
      case atStart=>exact⟨l,m,rfl,HRW,HFS,Lib.hid (by have:=HBD.out;omega),HND,HO2⟩
      case round=>
       obtain⟨l2,m2,rfl,HRW3,HFS3,HBD3,HND3,HO3⟩:=hrel;clear HRW HFS HBD HND HO2 hle hle' hm1;have hbd:=HBD3.out;(have hm1:m2<=1000000:=by omega);have hm0:1<=m2:=hbd.1;obtain⟨rm,hrm⟩:∃x,m2%p=x:=⟨_,rfl⟩;obtain⟨qt,hqt⟩:∃x,m2/p=x:=⟨_,rfl⟩;(have hrl:rm<p:=by rw[<-hrm];exact Nat.mod_lt _ (by omega));(have hql:qt<=1000000:=by rw[<-hqt];exact Nat.le_trans (Nat.div_le_self _ _) hm1);(have hri:(m2:Int).tmod (p:Int)=(rm:Int):=by rw[<-hrm];rfl);(have hqi2:(m2:Int).tdiv (p:Int)=(qt:Int):=by rw[<-hqt];rfl);(have hpz:¬((p:Int)=0):=by omega);have HRM:=Lib.hid hrm;have HQT:=Lib.hid hqt;clear hrm hqt hbd;by_cases hz:rm=0
       ·subst hz;(have hpz2:¬p=0:=by omega);have hwq:IntKind.i64.wrap (qt:Int)=(qt:Int):=wrap_small _ (by omega) (by omega);(go_wp2_with fail);refine jT (fun _=>True) 10 (by kernel_rfl) (by kernel_rfl) trivial (fun hHeld=>?_);refine Zq.tq 0 rfl ?_;refine Zq.tq 1 rfl ?_;refine Zq.tq 6 rfl ?_;refine Zq.tq 7 rfl ?_;refine Zq.tq 8 rfl ?_;refine eX 2 rfl (by decide +kernel) (fun K_ hK=>?_);go_simp;refine(oM p _ (by omega) (by omega)).mono ?_;rintro e w8 ⟨s4,A4,k4,c4,rfl,hN4,hb8⟩;clear hwq hpz2;have HO8:=Lib.hid ((HO3.out.next (bN (Below.refl _ _):Below wr.heap.size wr wr.drew)).next hb8);have HB8:Hid (Below wr.heap.size wr w8):=Lib.hid (fK hb8);have hT8:=HT.out _ HO8.out.below;clear hb8;(go_wp2_with fail);refine hK.out _ _ trivial (fun hHeld=>?_);clear hK;(try simp only[Act.put,Zq.a1,Zq.a2,Zq.a3]);refine eX 3 rfl (by decide +kernel) (fun K_ hK=>?_);go_simp;refine(aEs _ hN4 (by omega) hT8).mono ?_;rintro e w9 ⟨rfl,hb9⟩;have HO9:=Lib.hid (HO8.out.next hb9);have HB9:=Lib.hid (HB8.out.trans (hb9.mono HB8.out.size));clear hb9 hN4 hT8;(go_wp2_with fail);refine hK.out _ _ trivial (fun hHeld=>?_);clear hK;(try simp only[Act.put,Zq.a1,Zq.a2,Zq.a3]);refine eX 4 rfl (by decide +kernel) (fun K_ hK=>?_);go_simp;refine hK.out _ _ trivial (fun hHeld=>?_);clear hK;(try simp only[Act.put,Zq.a1,Zq.a2,Zq.a3]);refine eX 5 rfl (by decide +kernel) (fun K_ hK=>?_)
        refine Kd.aA3 Kd.string (w0:=w9) (w.heap.size+1) (by rfl) (.tmp 39) (.tmp 43) 27 9 (.string ⟨#[]⟩) 16 rfl Tryz.underlying27 aG6 rfl (by decide) (by omega) u2 (bts (l2.map Mw.gU)) ⟨(Mw.gU p).toArray⟩ [.string ⟨(Mw.gU p).toArray⟩] (fun k=>w.heap.size+1<=k) (fun _=>False) rfl rfl ?aP (fun _ hk=>hk.elim) ?aF ?aO ?aB ?aS ?aL ?_;(case aP=>exact rfl);(case aF=>exact fun k hk=>Nat.le_trans HO9.out.lt hk);(case aO=>exact Kd.aG HRW3.out HB9.out);(case aB=>exact Below.refl _ _);(case aS=>exact HO9.out.lt);(case aL=>have:=HBD3.out;rw[aHI];omega);intro v1 w10 hR1 hB1 hg1 hat1;rw[<-aGu]at hR1;have HR1:=Lib.hid hR1;have HO10:=Lib.hid (HO9.out.vI (Nat.lt_succ_self _) hB1);clear hR1 hB1 hg1 hat1;refine hK.out _ _ trivial (fun hHeld=>?_);clear hK;(try simp only[Act.put,Zq.a1,Zq.a2,Zq.a3]);refine eX 9 rfl (by decide +kernel) (fun K_ hK=>?_);go_simp;refine hK.out _ _ trivial (fun hHeld=>?_);clear hK;(try simp only[Act.put,Zq.a1,Zq.a2,Zq.a3]);refine mF (by decide +kernel) ?_;(go_wp2);(have hlt:qt<m2:=by rw[<-HQT.out];exact Nat.div_lt_self hm0 hp1);(have hmp:p*qt=m2:=by have:=Nat.div_add_mod m2 p;rw[HRM.out,HQT.out]at this;omega);have hq1:1<=qt:=Nat.pos_of_ne_zero (fun h0=>by rw[h0]at hmp;omega);refine⟨⟨l2++[p],qt,rfl,HR1,Lib.hid ?_,Lib.hid ?_,Lib.hid ?_,HO10⟩,?_⟩;(·have h:=HFS3.out;rw[Mw.aEZ hp1 hm0 HRM.out,HQT.out]at h;rw[List.append_assoc];exact h);(·have:=HBD3.out;rw[List.length_append,List.length_singleton];omega);(·rw[<-HQT.out];exact Mw.aEn HND3.out HRM.out);·simp only[intOf];omega
       ·(have hz':¬((rm:Int)=0):=by omega);(go_wp2_with fail);refine⟨⟨l2,m2,p+1,rfl,by simp,HRW3,?_,?_,?_,HO3⟩,?_⟩;(·exact Lib.hid (by rw[<-Mw.aCz hp1 (by rw[HRM.out];exact hz)];exact HFS3.out));(·exact Lib.hid (by have:=HBD3.out;omega));(·exact Lib.hid (fun d h2 h3=>by rcases Nat.lt_or_ge d p with h4|h4;(·exact HND3.out d h2 h4);·(obtain rfl:d=p:=by omega);rw[HRM.out];exact hz));·simp only[intOf];omega
     ·(have hle':¬(q:Int)<=(m:Int):=by omega);have q0:=HO2.out.cell;have f0:=HO2.out.frz;have hend:=Mw.aMH (n:=m) (p:=p) (by have:=HBD.out;omega) hp1 (by rw[HQ.out];omega) HND.out;by_cases hm2:1<m
      ·(have hm2':(1:Int)<(m:Int):=by omega);rw[if_pos hm2]at hend;have HE:=Lib.hid hend;clear hend;(go_wp2_with (first|(go_at_call 73;with_reducible refine(oM m _ (by omega) (by omega)).mono ?_;rintro e w8 ⟨s4,A4,k4,c4,rfl,hN4,hb8⟩;refine Hid.out ?_)));have HO8:=Lib.hid (HO2.out.next hb8);have hT8:=HT.out _ HO8.out.below;have HB8:=Lib.hid hb8;clear hb8;refine Lib.hid ?_;(go_wp2_with (first|(go_at_call 71;with_reducible refine(aEs _ hN4 hm1 hT8).mono ?_;rintro e w9 ⟨rfl,hb9⟩;refine Hid.out ?_)));have HO9:=Lib.hid (HO8.out.next hb9);have HB9:=Lib.hid (HB8.out.trans (hb9.mono HB8.out.size));clear hb9 hN4 hT8;refine Lib.hid ?_;(go_wp2_with (first|((with_reducible refine lD (b:=.append) (xs:=#[.tmp 50,.tmp 54]) rfl ?_);at_builtin;refine Kd.tC Kd.string (w0:=w9) (w.heap.size+1) rfl (.tmp 50) (.tmp 54) 27 9 (.string ⟨#[]⟩) 16 rfl Tryz.underlying27 aG6 rfl (by decide) (by omega) u2 (bts (l.map Mw.gU)) ⟨(Mw.gU m).toArray⟩ [.string ⟨(Mw.gU m).toArray⟩] (fun k=>w.heap.size+1<=k) (fun _=>False) rfl rfl rfl (fun _ hk=>hk.elim) (fun k hk=>Nat.le_trans HO9.out.lt hk) (Kd.aG HRW.out HB9.out) (Below.refl _ _) HO9.out.lt (by have:=HBD.out;rw[aHI];omega) ?_;intro v1 w10 hR1 hB1 hg1 hat1;have HO10:=Lib.hid (HO9.out.vI (Nat.lt_succ_self _) hB1);have q0:=HO10.out.cell;have f0:=HO10.out.frz)));rw[<-aGu]at hR1;have hr:=HR.out;have hfs:=HFS.out;rw[HE.out]at hfs;rw[Int.toNat_natCast,<-hfs]at hr;cases hr
       exact aB8 tJ _ (.int .i64 0) (.tuple #[_,.int .i64 0]) _ (World.cell?_setCell_same _ _ _ q0) (by simp[f0]) (fun W' h=>by simp[results,Tryz.results26,go_sem,h])
        ⟨_,rfl,Kd.eU (aKH (aA2 (aA2 hR1 _) _)) (by omega),(HO10.out.below.setCell (Nat.le_refl _) _).setCell (Nat.le_refl _) _⟩
      ·(have hm2':¬(1:Int)<(m:Int):=by omega);rw[if_neg hm2]at hend;have HE:=Lib.hid hend;clear hend;(go_wp2_with fail);have hr:=HR.out;have hfs:=HFS.out;rw[HE.out,List.append_nil]at hfs;rw[Int.toNat_natCast,<-hfs]at hr;cases hr
       exact aB8 tJ _ (.int .i64 0) (.tuple #[_,.int .i64 0]) _ (World.cell?_setCell_same _ _ _ q0) (by simp[f0]) (fun W' h=>by simp[results,Tryz.results26,go_sem,h])
        ⟨_,rfl,Kd.eU (aKH (aA2 (aA2 HRW.out _) _)) (by omega),(HO2.out.below.setCell (Nat.le_refl _) _).setCell (Nat.le_refl _) _⟩
 ·rw[Mw.factor,if_neg hok]at hr;cases hr;(go_enter_defers Tryz.func26,Tryz.ntmps26);go_wp2_with (first|(go_at_call 69;with_reducible refine(pQ s _ hok).mono ?_;rintro e w1 ⟨rfl,hb1⟩;obtain⟨q0,f0,z0,hB⟩:=sV hb1))
  exact dK tJ _ (.int .i64 0) (.tuple #[.slice none 0 0,.int .i64 (Mw.iP s.data.toList)]) _ _ (HG.out.below hB) z0 q0 f0 (fun W' h=>by simp[results,Tryz.results26,go_sem,h])
   (fun W' h=>⟨_,rfl,hnil W',hB.trans h⟩)
end Go.Proofs.YtjieekkkaekclaaGreatDoor
namespace Go.Proofs.YtjieekkkaekclaaGreatDoor.PW
open Go.RowKit Go.Pw.PrintWords Go.Pw.PrintLast Go.Pw.PrintMore
attribute [local go_sem] eG dZ fE fD dM dL eF dY
def aGi:Option Int->Value
 | none=>.nilIface
 | some c=>.iface 0 (.int .i64 c)
theorem bE:aGi none = .nilIface:=rfl
theorem bD (c:Int):aGi (some c) = .iface 0 (.int .i64 c):=rfl
def fI.l0:Nat->List ByteArray->List ByteArray->Int->Option (Bool)
 | 0,_,_,_=>none
 | k+1,x0,x1,x5=>if x5<(x0.length:Int)then(if 0<=x5 then(if x5<(x1.length:Int)then(if(aU ByteArray.empty x0 x5).toList=(aU ByteArray.empty x1 x5).toList then(fI.l0 k x0 x1 (wrap64 (x5+1)))else(some false))else(none))else(none))else(some true)
def fI.f (k:Nat) (l0:List ByteArray) (l1:List ByteArray):Option (Bool):=if(l0.length:Int)=(l1.length:Int)then(fI.l0 k l0 l1 0)else(some false)
theorem fI.calls (k:Nat) (A0:Option Addr) (c0:Nat) (l0:List ByteArray) (A1:Option Addr) (c1:Nat) (l1:List ByteArray) (r:Bool) (w:World) (hr0:Kd.C Kd.string w A0 l0.length l0) (hc0:l0.length<=c0) (hr1:Kd.C Kd.string w A1 l1.length l1) (hc1:l1.length<=c1) (h:fI.f k l0 l1=some r):
 Calls Tryz.prog 28 #[.slice A0 l0.length c0,.slice A1 l1.length c1] w fun e w'=>e = .returned (.bool r)/\jD w w':=by
 have HR0:=aA.mk hr0;have HC0:=aA.mk hc0;clear hr0 hc0;have HR1:=aA.mk hr1;have HC1:=aA.mk hc1;clear hr1 hc1;have H:(if(l0.length:Int)=(l1.length:Int)then(fI.l0 k l0 l1 0)else(some false))=some r:=h;clear h;by_cases c3:(l0.length:Int)=(l1.length:Int)
 ·rw[if_pos c3]at H;have c3b0:((l0.length:Int) == (l1.length:Int))=true:=beq_iff_eq.mpr c3;have c3b1:((l0.length:Int) != (l1.length:Int))=false:=bne_eq_false_iff_eq.mpr c3;(have c3b2:(l0.length == l1.length)=true:=by first|simpa using c3|(simp at c3⊢;omega));clear c3;have H':=aA.mk H;clear H;(go_enter Tryz.func28,Tryz.ntmps28);(go_wp2);repeat(go_quiet (fail);try go_wp2)
  go_loopg [5] k (fun kq v5 w'=>∃(x5_1:Int),v5 = .int .i64 x5_1/\aA (fI.l0 kq l0 l1 x5_1=some r)/\aA (kq<=k)/\jD w w')
  case atStart=>exact⟨(0),Zq.sd,H',⟨Nat.le_refl _⟩,Zq.dr⟩
  case round=>
   clear H';(try clear c1);(try clear c2);(try clear p2);(try clear c3);(try clear c3b0);(try clear c3b1);(try clear c3b2);obtain⟨x5_1,rfl,HA,HK1,⟨m1,rfl⟩⟩:=hrel;cases gk with
   | zero=>exact absurd HA.out (by simp[fI.l0])
   | succ k1=>
    have H:=HA.out;clear HA;simp only[fI.l0]at H;by_cases c4:x5_1<(l0.length:Int)
    ·rw[if_pos c4]at H;have c4b0:decide (x5_1<(l0.length:Int))=true:=decide_eq_true c4;clear c4;by_cases c5:0<=x5_1
     ·rw[if_pos c5]at H;have c5b0:decide (0<=x5_1)=true:=decide_eq_true c5;clear c5;by_cases c6:x5_1<(l1.length:Int)
      ·rw[if_pos c6]at H;have c6b0:decide (x5_1<(l1.length:Int))=true:=decide_eq_true c6;clear c6;by_cases c7:(aU ByteArray.empty l0 x5_1).toList=(aU ByteArray.empty l1 x5_1).toList
       ·rw[if_pos c7]at H;have c7b0:((aU ByteArray.empty l0 x5_1).toList == (aU ByteArray.empty l1 x5_1).toList)=true:=beq_iff_eq.mpr c7;have c7b1:((aU ByteArray.empty l0 x5_1).toList != (aU ByteArray.empty l1 x5_1).toList)=false:=bne_eq_false_iff_eq.mpr c7;clear c7;have H':=aA.mk H;clear H;have p101:0<=(x5_1:Int):=of_decide_eq_true Zq.am;have q101:x5_1<(l0.length:Int):=of_decide_eq_true Zq.am;obtain⟨ad101,e101,hx101_0⟩:=Kd.aQ HR0.out x5_1 p101 q101;cases e101;replace p101:=eq_true p101;replace q101:=eq_true q101;have p102:0<=(x5_1:Int):=of_decide_eq_true Zq.am;have q102:x5_1<(l1.length:Int):=of_decide_eq_true Zq.am;obtain⟨ad102,e102,hx102_0⟩:=Kd.aQ HR1.out x5_1 p102 q102;cases e102;replace p102:=eq_true p102;replace q102:=eq_true q102;(go_wp2);repeat(go_quiet (fail);try go_wp2)
        go_roundg k1
        (case measure=>have:=HK1.out;omega);case rel=>exact⟨(wrap64 (x5_1+1)),Zq.sd,H',⟨by have:=HK1.out;omega⟩,Zq.dr⟩
       ·rw[if_neg c7]at H;have c7b0:((aU ByteArray.empty l0 x5_1).toList == (aU ByteArray.empty l1 x5_1).toList)=false:=beq_eq_false_iff_ne.mpr c7;have c7b1:((aU ByteArray.empty l0 x5_1).toList != (aU ByteArray.empty l1 x5_1).toList)=true:=bne_iff_ne.mpr c7;obtain rfl:=Option.some.inj H;have p101:0<=(x5_1:Int):=of_decide_eq_true Zq.am;have q101:x5_1<(l0.length:Int):=of_decide_eq_true Zq.am;obtain⟨ad101,e101,hx101_0⟩:=Kd.aQ HR0.out x5_1 p101 q101;cases e101;replace p101:=eq_true p101;replace q101:=eq_true q101;have p102:0<=(x5_1:Int):=of_decide_eq_true Zq.am;have q102:x5_1<(l1.length:Int):=of_decide_eq_true Zq.am;obtain⟨ad102,e102,hx102_0⟩:=Kd.aQ HR1.out x5_1 p102 q102;cases e102;replace p102:=eq_true p102;replace q102:=eq_true q102;(go_wp2);repeat(go_quiet (fail);try go_wp2)
        go_ret
        exact⟨by first|rfl|(simp;done)|(simp[*];done),Zq.dr⟩
      ·rw[if_neg c6]at H;exact absurd H (by simp)
     ·rw[if_neg c5]at H;exact absurd H (by simp)
    ·rw[if_neg c4]at H;have c4b0:decide (x5_1<(l0.length:Int))=false:=decide_eq_false c4;clear c4;obtain rfl:=Option.some.inj H;(go_wp2);repeat(go_quiet (fail);try go_wp2)
     go_ret
     exact⟨by first|rfl|(simp;done)|(simp[*];done),Zq.dr⟩
 ·rw[if_neg c3]at H;have c3b0:((l0.length:Int) == (l1.length:Int))=false:=beq_eq_false_iff_ne.mpr c3;have c3b1:((l0.length:Int) != (l1.length:Int))=true:=bne_iff_ne.mpr c3;(have c3b2:(l0.length == l1.length)=false:=by first|simpa using c3|(simp at c3⊢;omega));obtain rfl:=Option.some.inj H;(go_enter Tryz.func28,Tryz.ntmps28);(go_wp2);repeat(go_quiet (fail);try go_wp2)
  go_ret
  exact⟨by first|rfl|(simp;done)|(simp[*];done),Zq.dr⟩
end Go.Proofs.YtjieekkkaekclaaGreatDoor.PW
namespace Go.Proofs.YtjieekkkaekclaaGreatDoor
open Go Go.RowKit Go.Pw.PrintWords
theorem aF3 {w w':World} (h:jD w w'):Below w.heap.size w w':=by obtain⟨d,rfl⟩:=h;exact⟨rfl,rfl,rfl,Nat.le_refl _,fun _ _=>rfl⟩
theorem aK3 (W:World) (hg:Ety W) (ht:Tab W):Calls Tryz.prog 45 #[.string ⟨#[45,49,50,51,52,53]⟩,.string ⟨#[54,55,56,57]⟩] W fun e w'=>e = .returned (.tuple #[.string ⟨#[45,56,51,56,49,48,50,48,53]⟩,.int .i64 (0)])/\Below W.heap.size W w':=by have h:=aCO (⟨#[45,49,50,51,52,53]⟩:ByteArray) (⟨#[54,55,56,57]⟩:ByteArray) W (by decide) (by decide) hg ht;rw[show Mw.both (fun a b=>a*b) (⟨#[45,49,50,51,52,53]⟩:ByteArray).data.toList (⟨#[54,55,56,57]⟩:ByteArray).data.toList=([45,56,51,56,49,48,50,48,53],0)from by decide +kernel]at h;exact h
theorem aGY (W:World) (hg:Ety W) (ht:Tab W):Calls Tryz.prog 38 #[.string ⟨#[45,55]⟩,.string ⟨#[50]⟩] W fun e w'=>e = .returned (.tuple #[.string ⟨#[45,52]⟩,.string ⟨#[49]⟩,.int .i64 (0)])/\Below W.heap.size W w':=by have h:=aBa (⟨#[45,55]⟩:ByteArray) (⟨#[50]⟩:ByteArray) W (by decide) (by decide) hg ht;rw[show Mw.parted Int.fdiv Int.fmod (⟨#[45,55]⟩:ByteArray).data.toList (⟨#[50]⟩:ByteArray).data.toList=([45,52],[49],0)from by decide +kernel]at h;exact h
theorem aK4 (W:World) (hg:Ety W) (ht:Tab W):Calls Tryz.prog 21 #[.string ⟨#[49,50]⟩,.string ⟨#[49,56]⟩] W fun e w'=>e = .returned (.tuple #[.string ⟨#[54]⟩,.string ⟨#[50]⟩,.string ⟨#[45,49]⟩,.int .i64 (0)])/\Below W.heap.size W w':=by have h:=aEY (⟨#[49,50]⟩:ByteArray) (⟨#[49,56]⟩:ByteArray) W (by decide) (by decide) hg ht;rw[show Mw.gcd (⟨#[49,50]⟩:ByteArray).data.toList (⟨#[49,56]⟩:ByteArray).data.toList=([54],[50],[45,49],0)from by decide +kernel]at h;exact h
theorem aG4 (W:World) (hg:Ety W) (ht:Tab W):Calls Tryz.prog 49 #[.string ⟨#[51]⟩,.string ⟨#[49,48,48]⟩,.string ⟨#[55]⟩] W fun e w'=>e = .returned (.tuple #[.string ⟨#[52]⟩,.int .i64 (0)])/\Below W.heap.size W w':=by have h:=aBd (⟨#[51]⟩:ByteArray) (⟨#[49,48,48]⟩:ByteArray) (⟨#[55]⟩:ByteArray) W (by decide) (by decide) (by decide) hg ht;rw[show Mw.wpm (⟨#[51]⟩:ByteArray).data.toList (⟨#[49,48,48]⟩:ByteArray).data.toList (⟨#[55]⟩:ByteArray).data.toList=([52],0)from by decide +kernel]at h;exact h
theorem aIs (W:World) (hg:Ety W) (ht:Tab W):Calls Tryz.prog 61 #[.string ⟨#[45,50,53,53]⟩,.int .i64 (16)] W fun e w'=>e = .returned (.tuple #[.string ⟨#[45,102,102]⟩,.int .i64 (0)])/\Below W.heap.size W w':=by have h:=aDH (⟨#[45,50,53,53]⟩:ByteArray) (16) W (by decide) hg ht;rw[show Mw.vQ (⟨#[45,50,53,53]⟩:ByteArray).data.toList (16)=([45,102,102],0)from by decide +kernel]at h;exact h
theorem aIq (W:World) (hg:Ety W) (ht:Tab W):Calls Tryz.prog 36 #[.string ⟨#[57,57]⟩,.int .i64 (2)] W fun e w'=>e = .returned (.tuple #[.string ⟨#[57]⟩,.int .i64 (0)])/\Below W.heap.size W w':=by have h:=aD4 (⟨#[57,57]⟩:ByteArray) (2) W (by decide) hg ht;rw[show Mw.xP (⟨#[57,57]⟩:ByteArray).data.toList (2)=([57],0)from by decide +kernel]at h;exact h
theorem aIr (W:World) (hg:Ety W) (ht:Tab W):Calls Tryz.prog 26 #[.string ⟨#[51,54,48]⟩] W fun e w'=>∃v:Value,e = .returned (.tuple #[v,.int .i64 0])/\Kd.R Kd.string 9 w' W.heap.size (fun _=>True) v (bts [[50],[50],[50],[51],[51],[53]])/\Below W.heap.size W w':=by have h:=aDt (⟨#[51,54,48]⟩:ByteArray) W (by decide) hg ht;rw[show Mw.factor (⟨#[51,54,48]⟩:ByteArray).data.toList=([[50],[50],[50],[51],[51],[53]],0)from by decide +kernel]at h;exact h
theorem aGm (w:World) (hg:Ety w) (htab:Tab w):Calls Tryz.prog 18 #[] w fun e w'=>e = .returned (.bool true)/\Below w.heap.size w w':=by
 have HG:=Lib.hid hg;have HTW:=Lib.hid htab;have HT:=Lib.hid (Lib.tabBelow_of_tabIs htab);clear hg htab;go_enter Tryz.func18,Tryz.ntmps18
 go_wp2_with (first|(go_at_call 45;have hE:=HG.out;have hT:=HTW.out;with_reducible refine(aK3 _ hE hT).mono ?_;rintro e w1 ⟨rfl,hb1⟩;have HB1:=Lib.hid hb1;clear hb1 hE hT)|(go_at_call 38;have hE:=HG.out.below HB1.out;have hT:=HT.out _ HB1.out;with_reducible refine(aGY _ hE hT).mono ?_;rintro e w2 ⟨rfl,hb2⟩;have HB2:=Lib.hid (HB1.out.trans (hb2.mono HB1.out.size));clear hb2 hE hT)|(go_at_call 21;have hE:=HG.out.below HB2.out;have hT:=HT.out _ HB2.out;with_reducible refine(aK4 _ hE hT).mono ?_;rintro e w3 ⟨rfl,hb3⟩;have HB3:=Lib.hid (HB2.out.trans (hb3.mono HB2.out.size));clear hb3 hE hT)|(go_at_call 49;have hE:=HG.out.below HB3.out;have hT:=HT.out _ HB3.out;with_reducible refine(aG4 _ hE hT).mono ?_;rintro e w4 ⟨rfl,hb4⟩;have HB4:=Lib.hid (HB3.out.trans (hb4.mono HB3.out.size));clear hb4 hE hT)|(go_at_call 61;have hE:=HG.out.below HB4.out;have hT:=HT.out _ HB4.out;with_reducible refine(aIs _ hE hT).mono ?_;rintro e w5 ⟨rfl,hb5⟩;have HB5:=Lib.hid (HB4.out.trans (hb5.mono HB4.out.size));clear hb5 hE hT)|(go_at_call 26;have hE:=HG.out.below HB5.out;have hT:=HT.out _ HB5.out;with_reducible refine(aIr _ hE hT).mono ?_;rintro e w6 ⟨v6,rfl,hR6,hb6⟩;have HB6:=Lib.hid (HB5.out.trans (hb6.mono HB5.out.size));have HR6:=Lib.hid hR6;clear hR6;clear hb6 hE hT)|(go_at_call 36;have hE:=HG.out.below HB6.out;have hT:=HT.out _ HB6.out;with_reducible refine(aIq _ hE hT).mono ?_;rintro e w7 ⟨rfl,hb7⟩;have HB7:=Lib.hid (HB6.out.trans (hb7.mono HB6.out.size));have HR7:=Lib.hid (Kd.aG HR6.out hb7);clear hb7 hE hT))
 obtain⟨A6,c6,rfl,hl6,hC6⟩:=Kd.yR HR7.out
 have hC7:Kd.C Kd.string (w7.alloc (.cells #[.string ⟨#[50]⟩,.string ⟨#[50]⟩,.string ⟨#[50]⟩,.string ⟨#[51]⟩,.string ⟨#[51]⟩,.string ⟨#[53]⟩] 9)) (some ⟨w7.heap.size,0,none⟩) 6 (bts [[50],[50],[50],[51],[51],[53]]):=by
  refine Kd.lS (enc:=Value.string) (d:=ByteArray.empty) (h1:=fun _=>rfl) ⟨rfl,by decide,fun _=>⟨_,rfl,fun j hj=>?_⟩⟩
  match j,hj with
  | 0,_=>simp[Addr.add,bts]
  | 1,_=>simp[Addr.add,bts]
  | 2,_=>simp[Addr.add,bts]
  | 3,_=>simp[Addr.add,bts]
  | 4,_=>simp[Addr.add,bts]
  | 5,_=>simp[Addr.add,bts]
 refine(PW.fI.calls 100 A6 c6 (bts [[50],[50],[50],[51],[51],[53]]) (some ⟨w7.heap.size,0,none⟩) 6 (bts [[50],[50],[50],[51],[51],[53]]) true _ (Kd.iF hC6 (bA (Below.refl _ _) _)) hl6 hC7 (Nat.le_refl _) (by decide +kernel)).mono ?_;rintro e w8 ⟨rfl,hd8⟩;have HB8:Hid (Below w.heap.size w w8):=Lib.hid ((HB7.out.alloc HB7.out.size _).trans ((aF3 hd8).mono (by have:=HB7.out.size;simp;omega)));clear hd8 hC6 hC7;go_wp2_with fail
 go_ret
 exact⟨rfl,HB8.out⟩
def Gw (w:World):Prop:=Ety w/\Tab w
theorem Gw.below {w W:World} (h:Gw w) (hb:Below w.heap.size w W):Gw W:=⟨h.1.below hb,Lib.tabBelow_of_tabIs h.2 W hb⟩
def bY.f:Option Bool:=some true
theorem bY.calls (r:Bool) (w:World) (hG:Gw w) (h:bY.f=some r):Calls Tryz.prog 18 #[] w fun e w'=>e = .returned (.bool r)/\Below w.heap.size w w':=by obtain rfl:=Option.some.inj h;exact aGm w hG.1 hG.2
end Go.Proofs.YtjieekkkaekclaaGreatDoor
namespace Go.Proofs.YtjieekkkaekclaaGreatDoor
open Go Go.RowKit
theorem aLM:Tryz.prog.globalNamed "errors.errorType" = some 0:=by kernel_rfl
theorem aJD:Tryz.prog.globalNamed "internal/strconv.uint64pow10" = some 3:=by kernel_rfl
theorem aDl {W:World} (h:laidMetH Tryz.prog Rows.wholeKnownRow.laid W):
 laidMet Tryz.prog [("math/bits.deBruijn32tab",Rows.laid_math_bits_deBruijn32tab),("math/bits.deBruijn64tab",Rows.laid_math_bits_deBruijn64tab),("internal/strconv.uint64pow10",Rows.laid_internal_strconv_uint64pow10),("strconv.ErrRange",Rows.laid_strconv_ErrRange),("strconv.ErrSyntax",Rows.laid_strconv_ErrSyntax)] W/\
 handlesMet Tryz.prog [("errors.errorType",Rows.laid_errors_errorType)] W:=h
theorem aL7:(Tryz.prog.cutTypes.find? (·.1 == "internal/reflectlite.rtype")).map (·.2)=some 175:=by kernel_rfl
theorem aIj:((List.range Tryz.prog.types.size).filter fun t=>Tryz.prog.rowNamed t [101,114,114,111,114])=[112]:=by kernel_rfl
theorem oJ {W:World} (h:laidMetH Tryz.prog Rows.wholeKnownRow.laid W):Ety W:=by
 obtain⟨name,u,ty,e1,e2,e3,e4,e5⟩:=(aDl h).2 _ (List.mem_singleton.2 rfl);have en:name=[101,114,114,111,114]:=(Option.some.inj e1).symm;subst en;obtain rfl:=Option.some.inj (aL7.symm.trans e2);have hm:ty ∈ (List.range Tryz.prog.types.size).filter fun t=>Tryz.prog.rowNamed t [101,114,114,111,114]:=List.mem_filter.2 ⟨List.mem_range.2 e3,e4⟩
 rw[aIj]at hm;obtain rfl:=List.mem_singleton.1 hm;have hh:typeHandle Tryz.prog 112 = .pointer (some ⟨7,112,none⟩):=by kernel_rfl
 rw[hh]at e5;simpa using World.var?_cell aLM e5 0
theorem aJC:(Tryz.prog.globals[3]?).map (·.type)=some 221:=by kernel_rfl
theorem oI {W:World} (h:laidMetH Tryz.prog Rows.wholeKnownRow.laid W):Tab W:=by obtain⟨ps,⟨_,_,_,_,_,_,_,_,_,_,⟨_,_,_,_,_,_,_,_,_,_,⟨g',t',cs,fuel,p,q,hg',ht',hvar,hd,_⟩,_⟩,_⟩,_⟩:=(aDl h).1;obtain rfl:=Option.some.inj (aJD.symm.trans hg');obtain rfl:=Option.some.inj (aJC.symm.trans ht');show Lib.TabIs _ _ _ _ _;unfold Lib.TabIs;rw[hvar,<-Lib.cells_of_tab (e:=63) (n:=20) (by kernel_rfl) (by kernel_rfl) (by kernel_rfl) (by kernel_rfl) hd]
end Go.Proofs.YtjieekkkaekclaaGreatDoor
namespace Go.Proofs.YtjieekkkaekclaaGreatDoor
open Go Go.ChangeShapes Go.WideShapes Go.RowKit
theorem sU:ownKnob Tryz.prog.godebug=none:=by kernel_rfl
theorem mU {P:Program} {m:Machine} (h:m.quiet):m.OnlyLeaving P:=by refine⟨fun g hg=>⟨0,?_⟩,h.2⟩;have h1:=List.all_eq_true.mp h.1 g hg;show g.status = .finished;simpa using h1
theorem qR:Tryz.pinned.checked.prog.mainIs=some (true,"94bbee997c0a39bb4bce0e5287243f0f552a32c829e9b04cf75d7dfa1f5bfa40".toList):=by kernel_rfl
theorem pY:true=Tryz.pinned.checked.prog.looks []:=by kernel_rfl
end Go.Proofs.YtjieekkkaekclaaGreatDoor
namespace Go.Proofs.YtjieekkkaekclaaGreatDoor.PR
open Go.RowKit Go.Pw.PrintWords Go.Pw.PrintLast Go.Pw.PrintMore
attribute [local go_sem] eG dZ fE fD dM dL eF dY
def aGi:Option Int->Value
 | none=>.nilIface
 | some c=>.iface 0 (.int .i64 c)
theorem bE:aGi none = .nilIface:=rfl
theorem bD (c:Int):aGi (some c) = .iface 0 (.int .i64 c):=rfl
theorem info3:(Tryz.prog.info? 3).map (fun i=>(i.zero,i.size,i.bytes))=some (some (.int .i64 0),1,8):=by kernel_rfl
def aN.f (a0:ByteArray):Option (Bool):=if(a0.size:Int)>0 then(if 0<(a0.size:Int)then(some ((bt a0 0) == 45))else(none))else(some false)
theorem aN.calls (a0:ByteArray) (r:Bool) (w:World) (h:aN.f a0=some r):
 Calls Tryz.prog 31 #[.string a0] w fun e w'=>e = .returned (.bool r)/\jD w w':=by
 have H:(if(a0.size:Int)>0 then(if 0<(a0.size:Int)then(some ((bt a0 0) == 45))else(none))else(some false))=some r:=h;clear h;by_cases c2:(a0.size:Int)>0
 ·rw[if_pos c2]at H;have c2b0:decide (0<(a0.size:Int))=true:=decide_eq_true c2;have c2b1:decide (0<a0.size)=true:=decide_eq_true (by omega);clear c2;by_cases c3:0<(a0.size:Int)
  ·rw[if_pos c3]at H;have c3b0:decide (0<(a0.size:Int))=true:=decide_eq_true c3;have c3b1:decide (0<a0.size)=true:=decide_eq_true (by omega);clear c3;obtain rfl:=Option.some.inj H;have p4:0<=(0:Int):=(by omega);have q4:0<a0.size:=(by have:(0:Int)<(a0.size:Int):=of_decide_eq_true Zq.am;omega);have hx4:∀h:0<a0.size,((a0[0]'h).toNat:Int)=bt a0 0:=wJ a0 0;clear p4;have qi4:(0<(a0.size:Int))=True:=eq_true (of_decide_eq_true Zq.am);replace q4:=eq_true q4;(go_enter Tryz.func31,Tryz.ntmps31);go_wp2
   go_ret
   exact⟨by first|rfl|(simp;done)|(simp[*];done),Zq.dr⟩
  ·rw[if_neg c3]at H;exact absurd H (by simp)
 ·rw[if_neg c2]at H;have c2b0:decide (0<(a0.size:Int))=false:=decide_eq_false c2;have c2b1:decide (0<a0.size)=false:=decide_eq_false (by omega);clear c2;obtain rfl:=Option.some.inj H;(go_enter Tryz.func31,Tryz.ntmps31);go_wp2
  go_ret
  exact⟨by first|rfl|(simp;done)|(simp[*];done),Zq.dr⟩
def aZ.f (a0:ByteArray):Option (ByteArray):=(aN.f a0).bind fun t138=>(if t138=true then(if 1<=(a0.size:Int)then(some (a0.extract 1 a0.size))else(none))else(some a0))
theorem aZ.calls (a0:ByteArray) (r:ByteArray) (w:World) (h:aZ.f a0=some r):
 Calls Tryz.prog 35 #[.string a0] w fun e w'=>e = .returned (.string r)/\jD w w':=by
 have H:((aN.f a0).bind fun t138=>(if t138=true then(if 1<=(a0.size:Int)then(some (a0.extract 1 a0.size))else(none))else(some a0)))=some r:=h;clear h;obtain⟨t138,A2,H⟩:=Zq.mq H;try dsimp only at H
 by_cases c3:t138=true
 ·subst c3;(have H1:(if 1<=(a0.size:Int)then(some (a0.extract 1 a0.size))else(none))=some r:=by rw[if_pos rfl]at H;exact H);clear H;have H:=H1;clear H1;by_cases c4:1<=(a0.size:Int)
  ·rw[if_pos c4]at H;have c4b0:=eq_true c4;have c4b1:decide (1<=(a0.size:Int))=true:=decide_eq_true c4;clear c4;obtain rfl:=Option.some.inj H;(go_enter Tryz.func35,Tryz.ntmps35);go_wp2_with (first|((with_reducible refine Zq.c 31 rfl ?_);refine Zq.g (some 4) Tryz.func31 #[.string a0] ?_;(with_reducible refine(aN.calls a0 true _ A2.out).mono ?_);rintro e w' ⟨rfl,nd,rfl⟩;refine⟨_,rfl,?_⟩))
   go_ret
   exact⟨by first|rfl|(simp;done)|(simp[*];done),Zq.dr⟩
  ·rw[if_neg c4]at H;exact absurd H (by simp)
 ·replace c3:=Bool.eq_false_iff.mpr c3;subst c3;(have H1:(some a0)=some r:=by rw[if_neg (show ¬(false=true) by decide)]at H;exact H);clear H;have H:=H1;clear H1;obtain rfl:=Option.some.inj H;(go_enter Tryz.func35,Tryz.ntmps35);go_wp2_with (first|((with_reducible refine Zq.c 31 rfl ?_);refine Zq.g (some 4) Tryz.func31 #[.string a0] ?_;(with_reducible refine(aN.calls a0 false _ A2.out).mono ?_);rintro e w' ⟨rfl,nd,rfl⟩;refine⟨_,rfl,?_⟩))
  go_ret
  exact⟨by first|rfl|(simp;done)|(simp[*];done),Zq.dr⟩
mutual
def iW.j0:Nat->ByteArray->Bool->Option (Bool)
 | 0,_,_=>none
 | k+1,x0,x16=>if x16=true then(some false)else(iW.l0 k x0 0)
def iW.l0:Nat->ByteArray->Int->Option (Bool)
 | 0,_,_=>none
 | k+1,x0,x3=>if x3<(x0.size:Int)then(if 0<=x3 then(if(bt x0 x3)<48 then(some false)else(if(bt x0 x3)>57 then(some false)else(iW.l0 k x0 (wrap64 (x3+1)))))else(none))else(some true)
end
def iW.f (k:Nat) (a0:ByteArray):Option (Bool):=if(a0.size:Int)=0 then(iW.j0 k a0 true)else(if(a0.size:Int)>1 then(if 0<(a0.size:Int)then(iW.j0 k a0 ((bt a0 0) == 48))else(none))else(iW.j0 k a0 false))
theorem iW.calls (k:Nat) (a0:ByteArray) (r:Bool) (w:World) (h:iW.f k a0=some r):
 Calls Tryz.prog 140 #[.string a0] w fun e w'=>e = .returned (.bool r)/\jD w w':=by
 have H:(if(a0.size:Int)=0 then(iW.j0 k a0 true)else(if(a0.size:Int)>1 then(if 0<(a0.size:Int)then(iW.j0 k a0 ((bt a0 0) == 48))else(none))else(iW.j0 k a0 false)))=some r:=h;clear h;have HC2:=aA.mk H;clear H;go_enter Tryz.func140,Tryz.ntmps140
 go_upto_region 1 with(fail)
 go_cut [16] (fun v16 wc=>∃(kq:Nat) (x16_1:Bool),v16 = .bool x16_1/\aA (iW.j0 kq a0 x16_1=some r)/\aA (kq<=k)/\jD w wc)
 case first=>
  have H:=HC2.out;clear HC2;by_cases c3:(a0.size:Int)=0
  ·rw[if_pos c3]at H;have c3b0:((a0.size:Int) == 0)=true:=beq_iff_eq.mpr c3;have c3b1:((a0.size:Int) != 0)=false:=bne_eq_false_iff_eq.mpr c3;clear c3;(first|rw[c3b0]|(simp only[bG,bK];rw[c3b0])|skip);have H':=aA.mk H;clear H;go_wp2
   go_meet
   case rel=>exact⟨_,(true),Zq.sd,H',⟨by first|omega|exact Nat.le_refl _⟩,Zq.dr⟩
  ·rw[if_neg c3]at H;have c3b0:((a0.size:Int) == 0)=false:=beq_eq_false_iff_ne.mpr c3;have c3b1:((a0.size:Int) != 0)=true:=bne_iff_ne.mpr c3;(first|rw[c3b0]|(simp only[bG,bK];rw[c3b0])|skip);by_cases c4:(a0.size:Int)>1
   ·rw[if_pos c4]at H;have c4b0:decide (1<(a0.size:Int))=true:=decide_eq_true c4;have c4b1:decide (1<a0.size)=true:=decide_eq_true (by omega);clear c4;by_cases c5:0<(a0.size:Int)
    ·rw[if_pos c5]at H;have c5b0:decide (0<(a0.size:Int))=true:=decide_eq_true c5;have c5b1:decide (0<a0.size)=true:=decide_eq_true (by omega);clear c5;have H':=aA.mk H;clear H;have p6:0<=(0:Int):=(by omega);have q6:0<a0.size:=(by have:(0:Int)<(a0.size:Int):=of_decide_eq_true Zq.am;omega);have hx6:∀h:0<a0.size,((a0[0]'h).toNat:Int)=bt a0 0:=wJ a0 0;clear p6;have qi6:(0<(a0.size:Int))=True:=eq_true (of_decide_eq_true Zq.am);replace q6:=eq_true q6;go_wp2
     go_meet
     case rel=>exact⟨_,(((bt a0 0) == 48)),Zq.sd,H',⟨by first|omega|exact Nat.le_refl _⟩,Zq.dr⟩
    ·rw[if_neg c5]at H;exact absurd H (by simp)
   ·rw[if_neg c4]at H;have c4b0:decide (1<(a0.size:Int))=false:=decide_eq_false c4;have c4b1:decide (1<a0.size)=false:=decide_eq_false (by omega);clear c4;have H':=aA.mk H;clear H;go_wp2
    go_meet
    case rel=>exact⟨_,(false),Zq.sd,H',⟨by first|omega|exact Nat.le_refl _⟩,Zq.dr⟩
 case rest=>
  clear HC2;(try clear c1);(try clear p2);(try clear c3);(try clear c3b0);(try clear c3b1);(try clear c4);(try clear c4b0);(try clear c4b1);(try clear c5);(try clear c5b0);(try clear c5b1);(try clear p6);(try clear q6);(try clear hx6);(try clear qi6);(try clear p6);(try clear q6);obtain⟨kq,x16_1,rfl,HA,HJ1,⟨mc1,rfl⟩⟩:=hcut;cases kq with
  | zero=>exact absurd HA.out (by simp[iW.j0])
  | succ kj1=>
   have H:=HA.out;clear HA;simp only[iW.j0]at H;by_cases c7:x16_1=true
   ·subst c7;(have H1:(some false)=some r:=by rw[if_pos rfl]at H;exact H);clear H;have H:=H1;clear H1;obtain rfl:=Option.some.inj H;go_wp2
    go_ret
    exact⟨by first|rfl|(simp;done)|(simp[*];done),Zq.dr⟩
   ·replace c7:=Bool.eq_false_iff.mpr c7;subst c7;(have H1:(iW.l0 kj1 a0 0)=some r:=by rw[if_neg (show ¬(false=true) by decide)]at H;exact H);clear H;have H:=H1;clear H1;have H':=aA.mk H;clear H;go_wp2
    go_loopg [3] kj1 (fun kq v3 w'=>∃(x3_2:Int),v3 = .int .i64 x3_2/\aA (iW.l0 kq a0 x3_2=some r)/\aA (kq<=kj1)/\jD w w')
    case atStart=>exact⟨(0),Zq.sd,H',⟨Nat.le_refl _⟩,Zq.dr⟩
    case round=>
     clear H';(try clear c1);(try clear p2);(try clear c3);(try clear c3b0);(try clear c3b1);(try clear c4);(try clear c4b0);(try clear c4b1);(try clear c5);(try clear c5b0);(try clear c5b1);(try clear p6);(try clear q6);(try clear hx6);(try clear qi6);(try clear c7);(try clear p2);(try clear p6);(try clear q6);obtain⟨x3_2,rfl,HA,HK2,⟨m2,rfl⟩⟩:=hrel;cases gk with
     | zero=>exact absurd HA.out (by simp[iW.l0])
     | succ k2=>
      have H:=HA.out;clear HA;simp only[iW.l0]at H;by_cases c8:x3_2<(a0.size:Int)
      ·rw[if_pos c8]at H;have c8b0:decide (x3_2<(a0.size:Int))=true:=decide_eq_true c8;clear c8;by_cases c9:0<=x3_2
       ·rw[if_pos c9]at H;have c9b0:decide (0<=x3_2)=true:=decide_eq_true c9;clear c9;by_cases c11:(bt a0 x3_2)<48
        ·rw[if_pos c11]at H;have c11b0:decide ((bt a0 x3_2)<48)=true:=decide_eq_true c11;clear c11;obtain rfl:=Option.some.inj H;have p10:0<=(x3_2:Int):=of_decide_eq_true Zq.am;have q10:x3_2<(a0.size:Int):=of_decide_eq_true Zq.am;have hx10:=wJ a0 x3_2;replace p10:=eq_true p10;replace q10:=eq_true q10;go_wp2
         go_ret
         exact⟨by first|rfl|(simp;done)|(simp[*];done),Zq.dr⟩
        ·rw[if_neg c11]at H;have c11b0:decide ((bt a0 x3_2)<48)=false:=decide_eq_false c11;clear c11;by_cases c13:(bt a0 x3_2)>57
         ·rw[if_pos c13]at H;have c13b0:decide (57<(bt a0 x3_2))=true:=decide_eq_true c13;clear c13;obtain rfl:=Option.some.inj H;have p10:0<=(x3_2:Int):=of_decide_eq_true Zq.am;have q10:x3_2<(a0.size:Int):=of_decide_eq_true Zq.am;have hx10:=wJ a0 x3_2;replace p10:=eq_true p10;replace q10:=eq_true q10;have p12:0<=(x3_2:Int):=of_decide_eq_true Zq.am;have q12:x3_2<(a0.size:Int):=of_decide_eq_true Zq.am;have hx12:=wJ a0 x3_2;replace p12:=eq_true p12;replace q12:=eq_true q12;go_wp2
          go_ret
          exact⟨by first|rfl|(simp;done)|(simp[*];done),Zq.dr⟩
         ·rw[if_neg c13]at H;have c13b0:decide (57<(bt a0 x3_2))=false:=decide_eq_false c13;clear c13;have H':=aA.mk H;clear H;have p10:0<=(x3_2:Int):=of_decide_eq_true Zq.am;have q10:x3_2<(a0.size:Int):=of_decide_eq_true Zq.am;have hx10:=wJ a0 x3_2;replace p10:=eq_true p10;replace q10:=eq_true q10;have p12:0<=(x3_2:Int):=of_decide_eq_true Zq.am;have q12:x3_2<(a0.size:Int):=of_decide_eq_true Zq.am;have hx12:=wJ a0 x3_2;replace p12:=eq_true p12;replace q12:=eq_true q12;go_wp2
          go_roundg k2
          (case measure=>have:=HJ1.out;have:=HK2.out;omega);case rel=>exact⟨(wrap64 (x3_2+1)),Zq.sd,H',⟨by have:=HJ1.out;have:=HK2.out;omega⟩,Zq.dr⟩
       ·rw[if_neg c9]at H;exact absurd H (by simp)
      ·rw[if_neg c8]at H;have c8b0:decide (x3_2<(a0.size:Int))=false:=decide_eq_false c8;clear c8;obtain rfl:=Option.some.inj H;go_wp2
       go_ret
       exact⟨by first|rfl|(simp;done)|(simp[*];done),Zq.dr⟩
def iC.f (k:Nat) (a0:ByteArray):Option (Bool):=(aZ.f a0).bind fun t147=>((iW.f k t147).bind fun t148=>(if t148=true then(some (a0.toList != ([45,48]:List UInt8)))else(some false)))
theorem iC.calls (k:Nat) (a0:ByteArray) (r:Bool) (w:World) (h:iC.f k a0=some r):
 Calls Tryz.prog 103 #[.string a0] w fun e w'=>e = .returned (.bool r)/\jD w w':=by
 have H:((aZ.f a0).bind fun t147=>((iW.f k t147).bind fun t148=>(if t148=true then(some (a0.toList != ([45,48]:List UInt8)))else(some false))))=some r:=h;clear h;obtain⟨t147,A2,H⟩:=Zq.mq H;try dsimp only at H
 obtain⟨t148,A3,H⟩:=Zq.mq H;try dsimp only at H
 by_cases c4:t148=true
 ·subst c4;(have H1:(some (a0.toList != ([45,48]:List UInt8)))=some r:=by rw[if_pos rfl]at H;exact H);clear H;have H:=H1;clear H1;obtain rfl:=Option.some.inj H;(go_enter Tryz.func103,Tryz.ntmps103);go_wp2_with (first|((with_reducible refine Zq.c 35 rfl ?_);refine Zq.g (some 4) Tryz.func35 #[.string a0] ?_;(with_reducible refine(aZ.calls a0 t147 _ A2.out).mono ?_);rintro e w' ⟨rfl,nd,rfl⟩;refine⟨_,rfl,?_⟩)|((with_reducible refine Zq.c 140 rfl ?_);refine Zq.g (some 5) Tryz.func140 #[.string t147] ?_;(with_reducible refine(iW.calls k t147 true _ A3.out).mono ?_);rintro e w' ⟨rfl,nd,rfl⟩;refine⟨_,rfl,?_⟩))
  go_ret
  exact⟨by first|rfl|(simp;done)|(simp[*];done),Zq.dr⟩
 ·replace c4:=Bool.eq_false_iff.mpr c4;subst c4;(have H1:(some false)=some r:=by rw[if_neg (show ¬(false=true) by decide)]at H;exact H);clear H;have H:=H1;clear H1;obtain rfl:=Option.some.inj H;(go_enter Tryz.func103,Tryz.ntmps103);go_wp2_with (first|((with_reducible refine Zq.c 35 rfl ?_);refine Zq.g (some 4) Tryz.func35 #[.string a0] ?_;(with_reducible refine(aZ.calls a0 t147 _ A2.out).mono ?_);rintro e w' ⟨rfl,nd,rfl⟩;refine⟨_,rfl,?_⟩)|((with_reducible refine Zq.c 140 rfl ?_);refine Zq.g (some 5) Tryz.func140 #[.string t147] ?_;(with_reducible refine(iW.calls k t147 false _ A3.out).mono ?_);rintro e w' ⟨rfl,nd,rfl⟩;refine⟨_,rfl,?_⟩))
  go_ret
  exact⟨by first|rfl|(simp;done)|(simp[*];done),Zq.dr⟩
end Go.Proofs.YtjieekkkaekclaaGreatDoor.PR
