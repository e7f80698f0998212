/- Lemmas for the claim beside this text. -/
import Derived.Test.YtjieekkkaekclaaGreatDoorZBAD
import Derived.Test.YtjieekkkaekclaaGreatDoorZBAK
import Derived.Test.YtjieekkkaekclaaGreatDoorZBAM
set_option linter.all false
set_option linter.unusedVariables false
set_option linter.unusedSimpArgs false
set_option maxHeartbeats 3200000
set_option maxRecDepth 100000
namespace Go.Proofs.YtjieekkkaekclaaGreatDoor
open Go Go.RowKit Go.Pw.PrintWords
def Mw.part (q r:Int->Int->Int) (x y:Int):List UInt8×List UInt8×Int:=
 if y=0 then([],[],12)else if Mw.gZ (q x y)=0 then(if Mw.gZ (r x y)=0 then(Mw.jF (q x y),Mw.jF (r x y),0)else([],[],Mw.gZ (r x y)))else([],[],Mw.gZ (q x y))
def Mw.parted (q r:Int->Int->Int) (a b:List UInt8):List UInt8×List UInt8×Int:=if Mw.kQ a b=0 then Mw.part q r (Mw.lI a) (Mw.lI b)else([],[],Mw.kQ a b)
def aCG (K:FuncId) (q r:Int->Int->Int):Prop:=∀(W:World) {s:Int} {A:Option Addr} {k c:Nat} {n:Int} {s':Int} {A':Option Addr} {k' c':Nat} {m:Int},dS W s A k c n->dS W s' A' k' c' m->m≠0->k<=45->k'<=45->
 Calls Tryz.prog K #[.agg #[.int .i64 s,.slice A k c],.agg #[.int .i64 s',.slice A' k' c']] W fun e w'=>∃s2 A2 k2 c2 s3 A3 k3 c3,e = .returned (.tuple #[.agg #[.int .i64 s2,.slice A2 k2 c2],.agg #[.int .i64 s3,.slice A3 k3 c3]])/\dS w' s2 A2 k2 c2 (q n m)/\dS w' s3 A3 k3 c3 (r n m)/\Below W.heap.size W w'/\k2<=100000/\k3<=100000
theorem aAC {n s:Int} (h:s=sgn n):s=0<->n=0:=by rcases fP n with⟨e1,h1⟩|⟨e1,h1⟩|⟨e1,h1⟩<;>omega
theorem aBf (K:FuncId) (q r:Int->Int->Int) (hdo:aCG K q r) (hent:∀(args:Array Value) (w:World),(callFunc K args).run Tryz.prog w = .ok (.enter K args) w) (s t:ByteArray) (w:World) (hs:s.size<=100000) (ht:t.size<=100000) (hg:Ety w) (htab:Tab w):
 Calls Tryz.prog 104 #[.func (.func K) #[] #[],.string s,.string t] w fun e w'=>e = .returned (.tuple #[.string ⟨(Mw.parted q r s.data.toList t.data.toList).1.toArray⟩,.string ⟨(Mw.parted q r s.data.toList t.data.toList).2.1.toArray⟩,.int .i64 (Mw.parted q r s.data.toList t.data.toList).2.2])/\Below w.heap.size w w':=by
 have hmf:∀(fn:Fn) (first cap:Array Value) (w:World),(Instr.makeFunc fn first cap).run Tryz.prog w = .ok (.func fn first cap) w:=fun _ _ _ _=>rfl
 have HG:=Lib.hid hg;have HT:=Lib.hid (Lib.tabBelow_of_tabIs htab);have HDO:=Lib.hid hdo;clear hg hdo htab;obtain⟨⟨rq,rr,er⟩,hr⟩:∃x,Mw.parted q r s.data.toList t.data.toList=x:=⟨_,rfl⟩;rw[hr];dsimp only;by_cases hok:Mw.iP s.data.toList=0
 ·by_cases hok2:Mw.iP t.data.toList=0
  ·rw[Mw.parted,Mw.kQ,if_pos hok,if_pos hok2]at hr;have HR:=Lib.hid hr;clear hr;(go_enter_defers Tryz.func104,Tryz.ntmps104);(go_wp2_with (first|(go_at_call 69;with_reducible refine(jE s _ hs hok).mono ?_;rintro e w1 ⟨s1,A1,k1,c1,rfl,hN1,hb1⟩)|(go_at_call 69;with_reducible refine(jE t _ ht hok2).mono ?_;rintro e w3 ⟨s3,A3,k3,c3,rfl,hN3,hb3⟩)|(go_at_call 70;with_reducible refine(pR s3 _).mono ?_;rintro e w5 ⟨rfl,hw5⟩;refine Hid.out ?_)));clear hw5;have FA:=yJ 71 [⟨s1,A1,k1,c1⟩] w1;have FB:=yJ 71 [⟨s3,A3,k3,c3⟩] w3;simp only[bxs]at FA FB;(have hz1:w1.heap.size+1<=w3.heap.size:=by have:=hb3.size;simp at this;omega);have FA:=Lib.hid ((FA.call (by simp) hb3).alloc (by omega) (.cells #[.int .i64 s3,.slice A3 k3 c3] 71));have FB:=Lib.hid FB;have hk1:=hN1.k45 hok;have hk3:=hN3.k45 hok2;have HN1:=Lib.hid (((hN1.below (bA (Below.refl _ _) _)).below hb3).below (bA (Below.refl _ _) (.cells #[.int .i64 s3,.slice A3 k3 c3] 71)));have HN3:=Lib.hid (hN3.below (bA (Below.refl _ _) (.cells #[.int .i64 s3,.slice A3 k3 c3] 71)));have HO:=Lib.hid ((((Own.of hb1).next (bA (Below.refl _ _) _)).next hb3).next (bA (Below.refl _ _) (.cells #[.int .i64 s3,.slice A3 k3 c3] 71)));clear hN1 hN3 hb1 hb3;(have hz3:w3.heap.size+1<=(w3.alloc (.cells #[.int .i64 s3,.slice A3 k3 c3] 71)).heap.size:=by simp);generalize w3.alloc (.cells #[.int .i64 s3,.slice A3 k3 c3] 71)=W4 at *;have hse:=aAC HN3.out.sign;have hr:=HR.out;rw[Mw.part]at hr;by_cases hz:Mw.lI t.data.toList=0
   ·rw[if_pos hz]at hr;cases hr;have hs3:=hse.mpr hz;subst hs3;clear hse hz;refine Lib.hid ?_;(go_wp2_with (first|(go_at_call 86;with_reducible refine(aBI _ _).mono ?_;rintro e w6 ⟨rfl,rfl⟩)));have HO3:=HO.out
    exact dK tF _ (.int .i64 0) (.tuple #[.string ⟨#[]⟩,.string ⟨#[]⟩,.int .i64 12]) _ _ (HG.out.below HO3.below) HO3.lt HO3.cell HO3.frz (fun W' h=>by simp[results,Tryz.results104,go_sem,h])
     (fun W' h=>⟨rfl,HO3.below.trans h⟩)
   ·rw[if_neg hz]at hr;have HRR:=Lib.hid hr;(have hs3:(s3 == 0)=false:=by rw[beq_eq_false_iff_ne];exact fun h=>hz (hse.mp h));have HZ:=Lib.hid hz;clear hse hz hr HR;obtain⟨x0,x1,-,-⟩:=FA.out.c1;obtain⟨y0,y1,-,-⟩:=FB.out.c1;have hC:=HDO.out _ HN1.out HN3.out HZ.out hk1 hk3;refine Lib.hid ?_;(go_wp2_with (first|(go_at_call 86;with_reducible refine(aCB _ _).mono ?_;rintro e w6 ⟨rfl,rfl⟩)|(with_reducible refine hC.mono ?_;rintro e w6 ⟨s4,A4,k4,c4,s5,A5,k5,c5,rfl,hN4,hN5,hb6,hk4,hk5⟩)));refine nE (fun W=>Hid (Fr W w6.heap.size [⟨s4,A4,k4,c4⟩,⟨s5,A5,k5,c5⟩])/\Hid (Below w6.heap.size w6 W)) ⟨Lib.hid (yJ _ [⟨s4,A4,k4,c4⟩,⟨s5,A5,k5,c5⟩] w6),Lib.hid (nT _ [⟨s4,A4,k4,c4⟩,⟨s5,A5,k5,c5⟩] w6 (Nat.le_refl _) (Below.refl _ _))⟩ ?_;rintro W7 ⟨FM,HB7⟩;have HN4:=Lib.hid (hN4.below HB7.out);have HN5:=Lib.hid (hN5.below HB7.out);have HO7:=Lib.hid (((HO.out.next hb6).next HB7.out).next (bN (Below.refl _ _):Below W7.heap.size W7 W7.drew));have hz7:=HB7.out.size;clear hN4 hN5 hb6 x0 x1 y0 y1;obtain⟨⟨x0,x1,-,-⟩,⟨y0,y1,-,-⟩⟩:=(FM.out.drew hz7).c2;have hT7:=HT.out _ HO7.out.below;refine jT (fun w'=>w'.cell? ⟨w6.heap.size,0,none⟩=some (.int .i64 s4)/\w'.cell? ⟨w6.heap.size,1,none⟩=some (.slice A4 k4 c4)/\w'.cell? ⟨w6.heap.size+1,0,none⟩=some (.int .i64 s5)/\w'.cell? ⟨w6.heap.size+1,1,none⟩=some (.slice A5 k5 c5)) 4 (by kernel_rfl) (by kernel_rfl) ⟨x0,x1,y0,y1⟩ (fun hHeld=>?_);refine Zq.tq 0 rfl ?_;refine Zq.tq 2 rfl ?_;refine eX 1 rfl (by decide +kernel) (fun K_ hK=>?_);go_simp;have hr:=HRR.out
    by_cases hg1:Mw.gZ (q (Mw.lI s.data.toList) (Mw.lI t.data.toList))=0
    ·rw[if_pos hg1]at hr;refine(lU _ (HN4.out.below (bN (Below.refl _ _))) hk4 hT7 hg1).mono ?_;rintro e w8 ⟨rfl,hb8⟩;have HO8:=Lib.hid (HO7.out.next hb8);have HB8:Hid (Below W7.heap.size W7 w8):=Lib.hid (fK hb8);have hT8:=HT.out _ HO8.out.below;have HRR:=Lib.hid hr;clear hb8 hr hT7 x0 x1 y0 y1;obtain⟨⟨x0,x1,-,-⟩,⟨y0,y1,-,-⟩⟩:=(FM.out.call (by omega) HB8.out).c2;(go_wp2_with fail);refine hK.out _ _ ⟨x0,x1,y0,y1⟩ (fun hHeld=>?_);clear hK;(try simp only[Act.put,Zq.a1,Zq.a2,Zq.a3]);refine eX 3 rfl (by decide +kernel) (fun K_ hK=>?_);go_simp;have hr:=HRR.out;by_cases hg2:Mw.gZ (r (Mw.lI s.data.toList) (Mw.lI t.data.toList))=0
     ·rw[if_pos hg2]at hr;refine(lU _ (HN5.out.below HB8.out) hk5 hT8 hg2).mono ?_;rintro e w9 ⟨rfl,hb9⟩;have HO9:=Lib.hid (HO8.out.next hb9);have HB9:=Lib.hid (HB8.out.trans (hb9.mono HB8.out.size));have HR3:=Lib.hid hr;clear hb9 hr hT8 x0 x1 y0 y1;obtain⟨⟨x0,x1,-,-⟩,⟨y0,y1,-,-⟩⟩:=(FM.out.call (by omega) HB9.out).c2;(go_wp2_with fail);refine hK.out _ _ ⟨x0,x1,y0,y1⟩ (fun hHeld=>?_);clear hK;(try simp only[Act.put,Zq.a1,Zq.a2,Zq.a3]);refine mF (by decide +kernel) ?_;have q0:=HO9.out.cell;have f0:=HO9.out.frz;(go_wp2);have hr:=HR3.out;cases hr
      exact kR tF _ (.int .i64 0) (.tuple #[.string _,.string _,.int .i64 0]) _ (World.cell?_setCell_same _ _ _ q0) (by simp[f0]) (fun W' h=>by simp[results,Tryz.results104,go_sem,h])
       (fun W' h=>⟨rfl,(HO9.out.below.setCell (Nat.le_refl _) _).trans h⟩)
     ·rw[if_neg hg2]at hr;refine(oG _ (HN5.out.below HB8.out) hk5 hT8 hg2).mono ?_;rintro e w9 ⟨rfl,hb9⟩;have HO9:=HO8.out.next hb9;cases hr
      exact dK tF _ (.int .i64 0) (.tuple #[.string ⟨#[]⟩,.string ⟨#[]⟩,.int .i64 _]) _ _ (HG.out.below HO9.below) HO9.lt HO9.cell HO9.frz (fun W' h=>by simp[results,Tryz.results104,go_sem,h])
       (fun W' h=>⟨rfl,HO9.below.trans h⟩)
    ·rw[if_neg hg1]at hr;refine(oG _ (HN4.out.below (bN (Below.refl _ _))) hk4 hT7 hg1).mono ?_;rintro e w8 ⟨rfl,hb8⟩;have HO8:=HO7.out.next hb8;cases hr
     exact dK tF _ (.int .i64 0) (.tuple #[.string ⟨#[]⟩,.string ⟨#[]⟩,.int .i64 _]) _ _ (HG.out.below HO8.below) HO8.lt HO8.cell HO8.frz (fun W' h=>by simp[results,Tryz.results104,go_sem,h])
      (fun W' h=>⟨rfl,HO8.below.trans h⟩)
  ·rw[Mw.parted,Mw.kQ,if_pos hok,if_neg hok2]at hr;cases hr;(go_enter_defers Tryz.func104,Tryz.ntmps104);(go_wp2_with (first|(go_at_call 69;with_reducible refine(jE s _ hs hok).mono ?_;rintro e w1 ⟨s1,A1,k1,c1,rfl,hN1,hb1⟩)|(go_at_call 69;with_reducible refine(pQ t _ hok2).mono ?_;rintro e w3 ⟨rfl,hb3⟩)));have HO3:=((Own.of hb1).next (bA (Below.refl _ _) _)).next hb3
   exact dK tF _ (.int .i64 0) (.tuple #[.string ⟨#[]⟩,.string ⟨#[]⟩,.int .i64 (Mw.iP t.data.toList)]) _ _ (HG.out.below HO3.below) HO3.lt HO3.cell HO3.frz (fun W' h=>by simp[results,Tryz.results104,go_sem,h])
    (fun W' h=>⟨rfl,HO3.below.trans h⟩)
 ·rw[Mw.parted,Mw.kQ,if_neg hok,if_neg hok]at hr;cases hr;(go_enter_defers Tryz.func104,Tryz.ntmps104);go_wp2_with (first|(go_at_call 69;with_reducible refine(pQ s _ hok).mono ?_;rintro e w1 ⟨rfl,hb1⟩;obtain⟨q0,f0,z0,hB⟩:=sV hb1))
  exact dK tF _ (.int .i64 0) (.tuple #[.string ⟨#[]⟩,.string ⟨#[]⟩,.int .i64 (Mw.iP s.data.toList)]) _ _ (HG.out.below hB) z0 q0 f0 (fun W' h=>by simp[results,Tryz.results104,go_sem,h])
   (fun W' h=>⟨rfl,hB.trans h⟩)
theorem aBH (n m:Int) (hm:m≠0):(n.fdiv m).natAbs<=n.natAbs+1/\(n.fmod m).natAbs<=n.natAbs+m.natAbs:=by
 have h1:(n.tdiv m).natAbs<=n.natAbs:=by rw[Int.natAbs_tdiv];exact Nat.div_le_self _ _
 have h2:(n.tmod m).natAbs<=n.natAbs:=by rw[Int.natAbs_tmod];exact Nat.mod_le _ _
 have hv:=xI (n:=n) hm;by_cases h:n.tmod m=0\/sgn (n.tmod m)=sgn m;·rw[(hv.1 h).1,(hv.1 h).2];omega
 ·rw[not_or]at h;rw[(hv.2 h.1 h.2).1,(hv.2 h.1 h.2).2];omega
theorem aDY:aCG 75 Int.fdiv Int.fmod:=fun W {s A k c n s' A' k' c' m} H H' hm hk hk'=>by
 refine(vL W H H' hm (by omega) (by omega)).mono ?_;rintro e w' ⟨s2,A2,k2,c2,s3,A3,k3,c3,rfl,hN,hM,hb⟩;have ha:=aBH n m hm;have h1:=H.lt hk;have h2:=H'.lt hk';have l2:k2<=46:=by rw[hN.len,mO,Nat.pow_succ];have:0<1000000000^45:=Nat.pow_pos (by omega);generalize 1000000000^45=X at *;omega
 have l3:k3<=46:=by rw[hM.len,mO,Nat.pow_succ];generalize 1000000000^45=X at *;omega
 exact⟨s2,A2,k2,c2,s3,A3,k3,c3,rfl,hN,hM,hb,by omega,by omega⟩
theorem aBa (s t:ByteArray) (w:World) (hs:s.size<=100000) (ht:t.size<=100000) (hg:Ety w) (htab:Tab w):
 Calls Tryz.prog 38 #[.string s,.string t] w fun e w'=>e = .returned (.tuple #[.string ⟨(Mw.parted Int.fdiv Int.fmod s.data.toList t.data.toList).1.toArray⟩,.string ⟨(Mw.parted Int.fdiv Int.fmod s.data.toList t.data.toList).2.1.toArray⟩,.int .i64 (Mw.parted Int.fdiv Int.fmod s.data.toList t.data.toList).2.2])/\Below w.heap.size w w':=by
 have h1:=aBf 75 Int.fdiv Int.fmod aDY (enters Tryz.func75 rfl (by decide)) s t w hs ht hg htab;generalize Mw.parted Int.fdiv Int.fmod s.data.toList t.data.toList=r at *;clear hg htab hs ht;go_enter Tryz.func38,Tryz.ntmps38
 go_wp2_with (first|(go_at_call 104;with_reducible refine h1.mono ?_;rintro e w1 ⟨rfl,hb1⟩))
 exact bodyPost_ret (v:=.tuple #[.string ⟨r.1.toArray⟩,.string ⟨r.2.1.toArray⟩,.int .i64 r.2.2]) (by simp[results,Tryz.results38,go_sem]) rfl ⟨rfl,hb1⟩
end Go.Proofs.YtjieekkkaekclaaGreatDoor
namespace Go.Proofs.YtjieekkkaekclaaGreatDoor
open Go Go.RowKit
section
variable {P:Program} {ops:Array Oper} {md:Region.Mode} {Q:Exit->Act->World->Prop}
def qI (ops:Array Oper) (i:Nat):Option Tmp:=(ops[i]?).bind (·.dst)
def xA (a0:Act) (d:Nat->Option Tmp) (vs:Nat->Value) (listed:Array Bool):Nat->Act
 | 0=>a0
 | m+1=>if listed.getD m false=true then(xA a0 d vs listed m).put (d m) (vs m)else xA a0 d vs listed m
def qM (a0:Act) (d:Nat->Option Tmp) (vs:Nat->Value):Nat->Act
 | 0=>a0
 | m+1=>(qM a0 d vs m).put (d m) (vs m)
def aAv (listed:Array Bool):Nat->Nat
 | 0=>0
 | m+1=>aAv listed m+if listed.getD m false=true then 0 else 1
theorem put_comm {a:Act} {d e:Option Tmp} (h:d≠e) (x y:Value):(a.put d x).put e y=(a.put e y).put d x:=by
 cases d with
 | none=>rfl
 | some d=>
  cases e with
  | none=>rfl
  | some e=>(have:d≠e:=fun he=>h (by rw[he]));simp only[Act.put];rw[Array.setIfInBounds_comm _ _ this]
theorem aD8 {a0:Act} {d:Nat->Option Tmp} {vs vs':Nat->Value} {l l':Array Bool}:∀m,(∀i,i<m->l.getD i false=l'.getD i false/\(l.getD i false=true->vs i=vs' i))->xA a0 d vs l m=xA a0 d vs' l' m
 | 0,_=>rfl
 | m+1,h=>by have h0:=h m (Nat.lt_succ_self _);rw[xA,xA,aD8 m (fun i hi=>h i (by omega)),<-h0.1];split;(·rw[h0.2 ‹_›]);·rfl
theorem aFK {a0:Act} {d:Nat->Option Tmp} {vs:Nat->Value} {l:Array Bool} {i:Nat} (v:Value) (hl:l.getD i false=false) (hs:i<l.size):∀m,i<m->(∀j,j<m->j≠i->d j≠d i\/d i=none)->
 xA a0 d (fun j=>if j=i then v else vs j) (l.setIfInBounds i true) m=(xA a0 d vs l m).put (d i) v
 | 0,h,_=>by omega
 | m+1,h,hd=>by by_cases hm:m=i;(·subst hm;(have e1:(l.setIfInBounds m true).getD m false=true:=by simp[hs]);(have r:xA a0 d vs l (m+1)=xA a0 d vs l m:=by rw[xA,if_neg (by rw[hl];simp)]);(have r2:xA a0 d (fun j=>if j=m then v else vs j) (l.setIfInBounds m true) m=xA a0 d vs l m:=by refine aD8 m (fun j hj=>?_);(have hne:m≠j:=by omega);exact⟨getD_set_ne false hne,fun _=>if_neg (Ne.symm hne)⟩);rw[r,xA,if_pos e1,r2];simp only[if_true]);·have ih:=aFK (a0:=a0) (d:=d) (vs:=vs) v hl hs m (by omega) (fun j hj hne=>hd j (by omega) hne);have e1:(l.setIfInBounds i true).getD m false=l.getD m false:=getD_set_ne false (Ne.symm hm);rw[xA,xA,e1,ih];split;(·rcases hd m (Nat.lt_succ_self _) hm with h0|h0;(·exact put_comm (Ne.symm h0) _ _);·rw[h0];rfl);·rfl
theorem aFL {a0:Act} {d:Nat->Option Tmp} {vs:Nat->Value} {l:Array Bool}:∀m,(∀i,i<m->l.getD i false=true)->xA a0 d vs l m=qM a0 d vs m
 | 0,_=>rfl
 | m+1,h=>by rw[xA,if_pos (h m (Nat.lt_succ_self _)),aFL m (fun i hi=>h i (by omega)),qM]
theorem aEi {a0:Act} {d:Nat->Option Tmp} {vs:Nat->Value} {l:Array Bool}:∀m,(∀i,i<m->l.getD i false=false)->xA a0 d vs l m=a0
 | 0,_=>rfl
 | m+1,h=>by rw[xA,if_neg (by rw[h m (Nat.lt_succ_self _)];simp),aEi m (fun i hi=>h i (by omega))]
theorem aCm {a:Act} {d:Option Tmp} {v:Value} {t:Tmp} (h:d≠some t):(a.put d v).eval (.tmp t)=a.eval (.tmp t):=by
 cases d with
 | none=>rfl
 | some d=>(have:d≠t:=fun he=>h (by rw[he]));simp only[Act.put,Act.eval,Array.getD_eq_getD_getElem?,Array.getElem?_setIfInBounds_ne this]
theorem aDV {a:Act} {v:Value} {t:Tmp} (h:t<a.tmps.size):(a.put (some t) v).eval (.tmp t)=v:=by simp only[Act.put,Act.eval,Array.getD_eq_getD_getElem?,Array.getElem?_setIfInBounds_self_of_lt h];rfl
theorem aJy {a:Act} {d:Option Tmp} {v:Value}:(a.put d v).tmps.size=a.tmps.size:=by cases d<;>simp[Act.put]
theorem aEh {a0:Act} {d:Nat->Option Tmp} {vs:Nat->Value} {l:Array Bool}:∀m,(xA a0 d vs l m).tmps.size=a0.tmps.size
 | 0=>rfl
 | m+1=>by rw[xA];split<;>simp only[aJy,aEh m]
theorem aBc {a0:Act} {d:Nat->Option Tmp} {vs:Nat->Value} {l:Array Bool} {t:Tmp}:∀m,(∀j,j<m->d j≠some t)->(xA a0 d vs l m).eval (.tmp t)=a0.eval (.tmp t)
 | 0,_=>rfl
 | m+1,h=>by rw[xA];split;(·rw[aCm (h m (Nat.lt_succ_self _)),aBc m (fun j hj=>h j (by omega))]);·exact aBc m (fun j hj=>h j (by omega))
theorem aHA {a0:Act} {d:Nat->Option Tmp} {vs:Nat->Value} {l:Array Bool} {t:Tmp} {i:Nat} (hi:l.getD i false=true) (hd:d i=some t) (ht:t<a0.tmps.size):∀m,i<m->(∀j,j<m->j≠i->d j≠d i)->(xA a0 d vs l m).eval (.tmp t)=vs i
 | 0,h,_=>by omega
 | m+1,h,hn=>by rw[xA];by_cases hm:m=i;(·subst hm;rw[if_pos hi,hd,aDV (by rw[aEh];exact ht)]);·have ih:=aHA (a0:=a0) (vs:=vs) hi hd ht m (by omega) (fun j hj hne=>hn j (by omega) hne);split;(·rw[aCm (by rw[<-hd];exact hn m (Nat.lt_succ_self _) hm),ih]);·exact ih
theorem aGp {l:Array Bool} {i:Nat} (hl:l.getD i false=false) (hs:i<l.size):∀m,i<m->aAv (l.setIfInBounds i true) m+1=aAv l m
 | 0,h=>by omega
 | m+1,h=>by
  rw[aAv,aAv];by_cases hm:m=i
  ·subst hm;(have e1:(l.setIfInBounds m true).getD m false=true:=by simp[hs]);rw[if_pos e1,if_neg (by rw[hl];simp)]
   have:∀k,k<=m->aAv (l.setIfInBounds m true) k=aAv l k:=by
    intro k;induction k with
    | zero=>intro _;rfl
    | succ k ih=>intro hk;rw[aAv,aAv,ih (by omega),getD_set_ne false (by omega:m≠k)]
   rw[this m (Nat.le_refl _)]
  ·have ih:=aGp hl hs m (by omega);rw[getD_set_ne false (Ne.symm hm)];omega
theorem aCg {l:Array Bool}:∀m,aAv l m=0->∀i,i<m->l.getD i false=true
 | 0,_,i,hi=>by omega
 | m+1,h,i,hi=>by rw[aAv]at h;by_cases hm:l.getD m false=true;(·rcases Nat.lt_or_ge i m with h1|h1;(·exact aCg m (by omega) i h1);·(obtain rfl:i=m:=by omega);exact hm);·rw[if_neg hm]at h;omega
theorem aGq {l:Array Bool}:∀m,aAv l m≠0->∃i,i<m/\l.getD i false=false/\∀j,j<i->l.getD j false=true
 | 0,h=>absurd rfl h
 | m+1,h=>by
  by_cases hm:aAv l m=0
  ·rw[aAv,hm]at h
   have:l.getD m false=false:=by
    cases hc:l.getD m false with
    | false=>rfl
    | true=>rw[hc]at h;simp at h
   exact⟨m,Nat.lt_succ_self _,this,aCg m hm⟩
  ·obtain⟨i,h1,h2,h3⟩:=aGq m hm;exact⟨i,by omega,h2,h3⟩
def evB (md:Region.Mode) (ops:Array Oper) (n sz:Nat):Bool:=
 decide (n<ops.size) && Region.sinkB md ops n && Region.chainB md ops n && ops.toList.all (fun o=>o.guard.isNone) &&
 (List.range n).all (fun i=>decide ((qI ops i).getD 0<sz)) &&
 (List.range n).all (fun i=>(List.range n).all (fun j=>decide (i=j) || qI ops i != qI ops j || (qI ops i).isNone)) &&
 (List.range n).all (fun i=>match ops[i]? with|some o=>o.after.all (fun e=>!Region.binds md e || decide (e.on<i))|none=>false) &&
 Region.seqB md ops (ops.size-n) n ((List.range ops.size).map (fun i=>decide (i<n))).toArray
abbrev upd (vs:Nat->Value) (i:Nat) (v:Value):Nat->Value:=fun j=>if j=i then v else vs j
theorem aMI {a0:Act} {n sz:Nat} (hsz:a0.tmps.size=sz) (B:World->Prop) (R:Nat->World->World->Prop) (F:Nat->(Nat->Value)->World->Prop) (al:Nat->Bool) (hchk:evB md ops n sz=true)
 (hB:∀i,i<n->∀w w',B w->R i w w'->B w') (hF:∀i j,i<n->j<n->i≠j->∀vs w w',B w->F j vs w->R i w w'->F j vs w')
 (hcg:∀i j,i<n->j<n->i≠j->Region.waitsFor md ops j i=false->∀vs v w,F j vs w->F j (upd vs i v) w)
 (hev:∀i,i<n->∀o,ops[i]?=some o->∀(a:Act) (w:World) (vs:Nat->Value),B w->
  (∀t,(List.range n).all (fun j=>qI ops j != some t)=true->a.tmps[t]?.getD undef=a0.tmps[t]?.getD undef)->
  (∀j,Region.waitsFor md ops i j=true->F j vs w/\∀t,qI ops j=some t->a.tmps[t]?.getD undef=vs j)->
  ∀K':Act->World->Prop,Shut (∀v w',R i w w'->F i (upd vs i v) w'->(al i=true->∀j,j<n->al j=true->F j vs w->v≠vs j)->K' (a.put o.dst v) w')->Oper.wp P o a w K' Q)
 (htail:∀(vs:Nat->Value) (w:World),B w->(∀i,i<n->F i vs w)->(∀i j,i<n->j<n->i≠j->al i=true->al j=true->vs i≠vs j)->wpList P ops Q (ops.toList.drop n) (qM a0 (qI ops) vs n) w):
 ∀(f:Nat) (listed:Array Bool) (vs:Nat->Value) (a:Act) (w:World),aAv listed n=f->HeadInv md ops n listed->B w->a=xA a0 (qI ops) vs listed n->
  (∀i,i<n->listed.getD i false=true->F i vs w)->
  (∀i j,i<n->j<n->i≠j->al i=true->al j=true->listed.getD i false=true->listed.getD j false=true->vs i≠vs j)->wpAny P md ops Q (f+(ops.size-n)) listed a w:=by
 simp only[evB,Bool.and_eq_true,decide_eq_true_eq]at hchk;subst hsz;obtain⟨⟨⟨⟨⟨⟨⟨h1,h2⟩,h3⟩,h4⟩,h5⟩,h6⟩,h7⟩,h8⟩:=hchk;have hds:∀i t,i<n->qI ops i=some t->t<a0.tmps.size:=fun i t hi ht=>by have:=List.all_eq_true.mp h5 i (List.mem_range.mpr hi);simp only[decide_eq_true_eq]at this;rw[ht]at this;exact this
 have hne:∀i j,i<n->j<n->i≠j->qI ops i≠qI ops j\/qI ops i=none:=fun i j hi hj hij=>by have h:=List.all_eq_true.mp (List.all_eq_true.mp h6 i (List.mem_range.mpr hi)) j (List.mem_range.mpr hj);simp only[Bool.or_eq_true,decide_eq_true_eq,bne_iff_ne,Option.isNone_iff_eq_none]at h;rcases h with(h|h)|h;(·exact absurd h hij);(·exact .inl h);·exact .inr h
 have heq:∀(a:Act) (t:Tmp),a.eval (.tmp t)=a.tmps[t]?.getD undef:=fun a t=>by simp only[Act.eval,Array.getD_eq_getD_getElem?]
 intro f;induction f with
 | zero=>intro listed vs a w hc inv hb ha hf hal;have hall:=aCg n hc;(have hl:listed=((List.range ops.size).map (fun i=>decide (i<n))).toArray:=by apply Array.ext;(·rw[inv.size];simp);·intro i hi1 hi2;(have hsz:i<ops.size:=by rw[<-inv.size];exact hi1);(have e1:listed.getD i false=listed[i]:=by simp[hi1]);(have e2:listed.getD i true=listed[i]:=by simp[hi1]);by_cases hin:i<n;(·have:=hall i hin;rw[e1]at this;simp[this,hin]);·have:=inv.tail i (by omega) hsz;rw[e2]at this;simp[this,hin]);(have hlen:(ops.toList.drop n).length=ops.size-n:=by simp);rw[Nat.zero_add,<-hlen];refine wpAny_of_seq (ops.toList.drop n) n listed a w (fun j=>by simp[List.getElem?_drop]) ?_ ?_;(·rw[hlen,hl];exact h8);·rw[ha,aFL n hall];exact htail vs w hb (fun i hi=>hf i hi (hall i hi)) (fun i j hi hj hij h1 h2=>hal i j hi hj hij h1 h2 (hall i hi) (hall j hj))
 | succ f ih=>
  intro listed vs a w hc inv hb ha hf hal;obtain⟨m,hm1,hm2,hm3⟩:=aGq n (by rw[hc];omega);rw[show f+1+(ops.size-n)=(f+(ops.size-n))+1 by omega];(have hmr:m ∈ Region.ready md ops listed:=by have h:=List.all_eq_true.mp h7 m (List.mem_range.mpr hm1);(have hms:m<ops.size:=by omega);rw[mem_ready];refine⟨getD_in (by rw[inv.size];exact hms) hm2,ops[m],Array.getElem?_eq_getElem hms,fun e he hbd=>?_⟩;rw[Array.getElem?_eq_getElem hms]at h;have h9:=Array.all_eq_true'.mp h e he;rw[hbd]at h9;simp only[Bool.not_true,Bool.false_or,decide_eq_true_eq]at h9;exact hm3 _ h9);refine⟨fun h0=>(by rw[h0]at hmr;cases hmr),fun i hi=>?_⟩;(have hin:i<n:=by rcases Nat.lt_or_ge i n with h|h;(·exact h);·exact absurd hi (tail_waits h2 h3 h1 inv _ m rfl hm1 (getD_in (by rw[inv.size];omega) hm2) i h));obtain⟨hun,o,ho,hpre⟩:=mem_ready.1 hi;have hun':=getD_both hun;(have his:i<listed.size:=by rw[inv.size];omega);(have hg:o.guard=none:=by have:=List.all_eq_true.mp h4 o (by rw[Array.mem_toList_iff];exact Array.mem_of_getElem? ho);simpa using this);have hdi:o.dst=qI ops i:=by simp only[qI,ho,Option.bind_some]
  have hjl:∀j,Region.waitsFor md ops i j=true->listed.getD j false=true/\j<n:=fun j hj=>by obtain⟨oj,hoj,e,he,hbd,rfl⟩:=Region.waitsFor_spec hj;obtain rfl:o=oj:=Option.some.inj (ho.symm.trans hoj);have hjl:=hpre e he hbd;refine⟨hjl,?_⟩;rcases Nat.lt_or_ge e.on n with h|h;(·exact h);·(have hs:e.on<listed.size:=by rcases Nat.lt_or_ge e.on listed.size with h'|h';(·exact h');·simp[h']at hjl);have:=inv.tail e.on h (by rw[<-inv.size];exact hs);(have e1:listed.getD e.on false=listed[e.on]:=by simp[hs]);(have e2:listed.getD e.on true=listed[e.on]:=by simp[hs]);rw[e1]at hjl;rw[e2,hjl]at this;cases this
  have H:=hev i hin o ho a w vs hb (fun t ht=>by
   rw[<-heq,<-heq,ha];refine aBc n (fun j hj=>?_);have:=List.all_eq_true.mp ht j (List.mem_range.mpr hj)
   simpa using this) (fun j hj=>by obtain⟨hl,hjn⟩:=hjl j hj;refine⟨hf j hjn hl,fun t ht=>?_⟩;rw[<-heq,ha];exact aHA hl ht (hds j t hjn ht) n hjn (fun k hk hke=>by rcases hne k j hk hjn hke with h|h;(·exact h);·rw[h,ht];simp))
  unfold wpOp;rw[ho];(have hw:Region.wanted o (yielded ops a.tmps)=true:=by simp[Region.wanted,hg]);simp only[hw,if_true];refine .inl (H _ (show _ from ?_));intro v w' hbl hfv hav;refine ih (listed.setIfInBounds i true) (upd vs i v) _ w' ?_ (inv.set hi hin) (hB i hin w w' hb hbl) ?_ ?_ ?_;(·have:=aGp hun' his n hin;omega);·rw[ha,hdi];exact(aFK v hun' his n hin (fun j hj hne'=>by rcases hne i j hin hj (Ne.symm hne')with h|h;(·exact .inl (Ne.symm h));·exact .inr h)).symm
  ·intro j hj hl;by_cases hji:j=i;·subst hji;exact hfv
   ·rw[getD_set_ne false (Ne.symm hji)]at hl
    have hwf:Region.waitsFor md ops j i=false:=by
     cases hwc:Region.waitsFor md ops j i with
     | false=>rfl
     | true=>obtain⟨oj,hoj,e,he,hbd,rfl⟩:=Region.waitsFor_spec hwc;have:=inv.closed j oj hoj hl e he hbd;rw[hun']at this;cases this
    exact hcg i j hin hj (Ne.symm hji) hwf vs v w' (hF i j hin hj (Ne.symm hji) vs w w' hb (hf j hj hl) hbl)
  ·intro j k hj hk hjk h1 h2 hl hl';by_cases hji:j=i;(·subst hji;have hkj:k≠j:=Ne.symm hjk;rw[getD_set_ne false hjk]at hl';simp only[upd,if_true,if_neg hkj];exact hav h1 k hk h2 (hf k hk hl'));·rw[getD_set_ne false (Ne.symm hji)]at hl;by_cases hki:k=i;(·subst hki;simp only[upd,if_true,if_neg hji];exact Ne.symm (hav h2 j hj h1 (hf j hj hl)));·rw[getD_set_ne false (Ne.symm hki)]at hl';simp only[upd,if_neg hji,if_neg hki];exact hal j k hj hk hjk h1 h2 hl hl'
theorem wT {id:Nat} {l:List Oper} {a0:Act} {w0:World} (n sz:Nat) (hsz:a0.tmps.size=sz) (B:World->Prop) (R:Nat->World->World->Prop) (F:Nat->(Nat->Value)->World->Prop) (al:Nat->Bool)
 (hm:P.follows .mixedOrders=true) (hchk:evB .any l.toArray n sz=true) (hB0:B w0.drew)
 (hB:∀i,i<n->∀w w',B w->R i w w'->B w') (hF:∀i j,i<n->j<n->i≠j->∀vs w w',B w->F j vs w->R i w w'->F j vs w')
 (hcg:∀i j,i<n->j<n->i≠j->Region.waitsFor .any l.toArray j i=false->∀vs v w,F j vs w->F j (upd vs i v) w)
 (hev:∀i,i<n->∀o,l.toArray[i]?=some o->∀(a:Act) (w:World) (vs:Nat->Value),B w->
  (∀t,(List.range n).all (fun j=>qI l.toArray j != some t)=true->a.tmps[t]?.getD undef=a0.tmps[t]?.getD undef)->
  (∀j,Region.waitsFor .any l.toArray i j=true->F j vs w/\∀t,qI l.toArray j=some t->a.tmps[t]?.getD undef=vs j)->
  ∀K':Act->World->Prop,Shut (∀v w',R i w w'->F i (upd vs i v) w'->(al i=true->∀j,j<n->al j=true->F j vs w->v≠vs j)->K' (a.put o.dst v) w')->Oper.wp P o a w K' Q)
 (htail:∀(vs:Nat->Value) (w:World),B w->(∀i,i<n->F i vs w)->(∀i j,i<n->j<n->i≠j->al i=true->al j=true->vs i≠vs j)->wpList P l.toArray Q (l.drop n) (qM a0 (qI l.toArray) vs n) w):
 (Code.region id l.toArray true).wp P Q a0 w0:=by
 refine wp_region_any hm ?_;have hlt:n<l.length:=by have:=hchk;simp only[evB,Bool.and_eq_true,decide_eq_true_eq]at this;simpa using this.1.1.1.1.1.1.1
 have hc:aAv (Array.replicate l.toArray.size false) n=n:=by
  have:∀k,aAv (Array.replicate l.toArray.size false) k=k:=by
   intro k;induction k with
   | zero=>rfl
   | succ k ih=>rw[aAv,ih,if_neg (by rw[getD_replicate_false];simp)]
  exact this n
 have inv0:HeadInv .any l.toArray n (Array.replicate l.toArray.size false):=
  ⟨by simp,fun j oj _ hl=>(by rw[getD_replicate_false]at hl;cases hl),fun t _ ht=>getD_in (by simpa using ht) (getD_replicate_false _ _)⟩
 have H:=aMI (P:=P) (Q:=Q) (md:=.any) (ops:=l.toArray) hsz B R F al hchk hB hF hcg hev htail n (Array.replicate l.toArray.size false) (fun _=>undef) a0 w0.drew hc inv0 hB0
  (aEi n (fun i _=>getD_replicate_false _ _)).symm (fun i _ hl=>(by rw[getD_replicate_false]at hl;cases hl)) (fun i j _ _ _ _ _ hl _=>(by rw[getD_replicate_false]at hl;cases hl))
 rw[show n+(l.toArray.size-n)=l.toArray.size by simp;omega]at H;exact H
end
end Go.Proofs.YtjieekkkaekclaaGreatDoor
namespace Go.Proofs.YtjieekkkaekclaaGreatDoor
open Go Go.RowKit Go.Pw.PrintWords
abbrev lT (W:World) (b:Nat) (s:Int) (A:Option Addr) (k c:Nat):World:=(W.setCell ⟨b,0,none⟩ (.int .i64 s)).setCell ⟨b,1,none⟩ (.slice A k c)
structure Nb (W:World) (b:Nat) (s:Int) (A:Option Addr) (k c:Nat) (n:Int):Prop where
 c0:W.cell? ⟨b,0,none⟩=some (.int .i64 s)
 c1:W.cell? ⟨b,1,none⟩=some (.slice A k c)
 f0:W.frozen? ⟨b,0,none⟩=false
 f1:W.frozen? ⟨b,1,none⟩=false
 lt:b<W.heap.size
 num:dS W s A k c n
section
variable {W W' w:World} {b b':Nat} {s s':Int} {A A':Option Addr} {k c k' c':Nat} {n n':Int} {v:Value}
theorem Nb.call (h:Nb W b s A k c n) (hb:Below W.heap.size W W'):Nb W' b s A k c n:=
 ⟨by rw[hb.cell (p:=⟨b,0,none⟩) h.lt];exact h.c0,by rw[hb.cell (p:=⟨b,1,none⟩) h.lt];exact h.c1,by rw[hb.frozen (p:=⟨b,0,none⟩) h.lt];exact h.f0,by rw[hb.frozen (p:=⟨b,1,none⟩) h.lt];exact h.f1,Nat.lt_of_lt_of_le h.lt hb.size,h.num.below hb⟩
theorem Nb.drew (h:Nb W b s A k c n):Nb W.drew b s A k c n:=h.call (bN (Below.refl _ _))
theorem Nb.alloc (h:Nb W b s A k c n) (o:Obj):Nb (W.alloc o) b s A k c n:=h.call (bA (Below.refl _ _) o)
theorem Nb.new (h:dS W s A k c n) (t:TypeId):Nb (W.alloc (.cells #[.int .i64 s,.slice A k c] t)) W.heap.size s A k c n:=by have F:=yJ t [⟨s,A,k,c⟩] W;simp only[bxs]at F;obtain⟨x0,x1,g0,g1⟩:=F.c1;exact⟨x0,x1,g0,g1,by simp,h.below (bA (Below.refl _ _) _)⟩
theorem Nb.aGS (h:dS W s A k c n) (hb:Nb W b' s' A' k' c' n') (s2:Int) (A2:Option Addr) (k2 c2:Nat):dS (lT W b' s2 A2 k2 c2) s A k c n:=
 (h.set (.int .i64 s2) hb.c0 (by simp)).set (.slice A2 k2 c2) ((World.cell?_setCell_other _ _ _ _ (by simp)).trans hb.c1) (by simp)
theorem Nb.qG (h:dS W s A k c n) (hb:Nb W b s' A' k' c' n'):Nb (lT W b s A k c) b s A k c n:=
 ⟨by rw[World.cell?_setCell_other _ _ _ _ (by simp)];exact World.cell?_setCell_same _ _ _ hb.c0,World.cell?_setCell_same _ _ _ ((World.cell?_setCell_other _ _ _ _ (by simp)).trans hb.c1),
  by rw[World.frozen?_setCell,World.frozen?_setCell];exact hb.f0,by rw[World.frozen?_setCell,World.frozen?_setCell];exact hb.f1,by simpa using hb.lt,Nb.aGS h hb s A k c⟩
theorem Nb.vT (h:Nb W b s A k c n) (hb:Nb W b' s' A' k' c' n') (hne:b≠b') (s2:Int) (A2:Option Addr) (k2 c2:Nat):Nb (lT W b' s2 A2 k2 c2) b s A k c n:=
 ⟨by rw[World.cell?_setCell_far _ _ _ _ (Ne.symm hne),World.cell?_setCell_far _ _ _ _ (Ne.symm hne)];exact h.c0,by rw[World.cell?_setCell_far _ _ _ _ (Ne.symm hne),World.cell?_setCell_far _ _ _ _ (Ne.symm hne)];exact h.c1,
  by rw[World.frozen?_setCell,World.frozen?_setCell];exact h.f0,by rw[World.frozen?_setCell,World.frozen?_setCell];exact h.f1,by simpa using h.lt,Nb.aGS h.num hb s2 A2 k2 c2⟩
def Bx1 (W:World) (b:Nat):Prop:=∃s A k c n,Nb W b s A k c n
theorem Bx1.call (h:Bx1 W b) (hb:Below W.heap.size W W'):Bx1 W' b:=by obtain⟨s,A,k,c,n,h⟩:=h;exact⟨s,A,k,c,n,h.call hb⟩
theorem Bx1.put (h:Bx1 W b) (hb:Bx1 W b') (hN:dS W s A k c n):Bx1 (lT W b' s A k c) b:=by
 obtain⟨s1,A1,k1,c1,n1,h⟩:=h;obtain⟨s2,A2,k2,c2,n2,hb⟩:=hb;by_cases he:b=b';·subst he;exact⟨s,A,k,c,n,Nb.qG hN hb⟩
 ·exact⟨s1,A1,k1,c1,n1,h.vT hb he s A k c⟩
theorem Bx1.new (W:World) (t:TypeId):Bx1 (W.alloc (.cells #[.int .i64 0,.slice none 0 0] t)) W.heap.size:=⟨0,none,0,0,0,Nb.new (dS.zero W) t⟩
theorem Nb.kY (h:Nb W b s A k c n) (hb:Bx1 W b') (hne:b≠b') (s2:Int) (A2:Option Addr) (k2 c2:Nat):Nb (lT W b' s2 A2 k2 c2) b s A k c n:=by obtain⟨s1,A1,k1,c1,n1,hb⟩:=hb;exact h.vT hb hne s2 A2 k2 c2
theorem Nb.qB (h:dS W s A k c n) (hb:Bx1 W b):Nb (lT W b s A k c) b s A k c n:=by obtain⟨s1,A1,k1,c1,n1,hb⟩:=hb;exact Nb.qG h hb
theorem Nb.zS (h:dS W s A k c n) (hb:Bx1 W b') (s2:Int) (A2:Option Addr) (k2 c2:Nat):dS (lT W b' s2 A2 k2 c2) s A k c n:=by obtain⟨s1,A1,k1,c1,n1,hb⟩:=hb;exact Nb.aGS h hb s2 A2 k2 c2
theorem Bx1.lt (h:Bx1 W b):b<W.heap.size:=by obtain⟨s,A,k,c,n,h⟩:=h;exact h.lt
theorem Nb.bx (h:Nb W b s A k c n):Bx1 W b:=⟨s,A,k,c,n,h⟩
def Bn (W:World) (b:Nat) (n:Int):Prop:=∃s A k c,Nb W b s A k c n
theorem Bn.call (h:Bn W b n) (hb:Below W.heap.size W W'):Bn W' b n:=by obtain⟨s,A,k,c,h⟩:=h;exact⟨s,A,k,c,h.call hb⟩
theorem Bn.kY (h:Bn W b n) (hb:Bx1 W b') (hne:b≠b') (s2:Int) (A2:Option Addr) (k2 c2:Nat):Bn (lT W b' s2 A2 k2 c2) b n:=by obtain⟨s,A,k,c,h⟩:=h;exact⟨s,A,k,c,h.kY hb hne _ _ _ _⟩
theorem Bn.bx (h:Bn W b n):Bx1 W b:=by obtain⟨s,A,k,c,h⟩:=h;exact h.bx
theorem Nb.bn (h:Nb W b s A k c n):Bn W b n:=⟨s,A,k,c,h⟩
theorem Bn.lt (h:Bn W b n):b<W.heap.size:=h.bx.lt
theorem Own.lT (h:Own w v W) (hb:w.heap.size<b) (s2:Int) (A2:Option Addr) (k2 c2:Nat):Own w v (lT W b s2 A2 k2 c2):=
 have hne:b≠w.heap.size:=by omega
 ⟨by rw[World.cell?_setCell_far _ _ _ _ hne,World.cell?_setCell_far _ _ _ _ hne];exact h.cell,by rw[World.frozen?_setCell,World.frozen?_setCell];exact h.frz,by simpa using h.lt,(h.below.setCell (by simp;omega) _).setCell (by simp;omega) _⟩
end
end Go.Proofs.YtjieekkkaekclaaGreatDoor
namespace Go.Proofs.YtjieekkkaekclaaGreatDoor
open Go
def Mw.eu (r s u v:Int):Int×Int:=if _h:s=0 then(r,u)else Mw.eu s (r.fmod s) v (u-r.fdiv s*v)
termination_by s.natAbs
decreasing_by
 rcases Int.lt_or_gt_of_ne _h with h1|h1;·have h2:=(Int.fdiv_fmod_unique' (a:=r) (b:=s) h1 (r:=r.fmod s) (q:=r.fdiv s)).1 ⟨rfl,rfl⟩;omega
 ·have h2:=(Int.fdiv_fmod_unique (a:=r) (b:=s) h1 (r:=r.fmod s) (q:=r.fdiv s)).1 ⟨rfl,rfl⟩;omega
theorem Mw.aBJ (r u v:Int):Mw.eu r 0 u v=(r,u):=by rw[Mw.eu,dif_pos rfl]
theorem Mw.aBK {r s u v:Int} (h:s≠0):Mw.eu r s u v=Mw.eu s (r.fmod s) v (u-r.fdiv s*v):=by rw[Mw.eu,dif_neg h]
theorem nA {r s:Int} (h:s≠0):s*r.fdiv s+r.fmod s=r/\(r.fmod s).natAbs<s.natAbs/\0<=s*r.fmod s:=by
 rcases Int.lt_or_gt_of_ne h with h1|h1;·have h2:=(Int.fdiv_fmod_unique' (a:=r) (b:=s) h1 (r:=r.fmod s) (q:=r.fdiv s)).1 ⟨rfl,rfl⟩;refine⟨by omega,by omega,?_⟩;exact Int.mul_nonneg_of_nonpos_of_nonpos (by omega) (by omega)
 ·have h2:=(Int.fdiv_fmod_unique (a:=r) (b:=s) h1 (r:=r.fmod s) (q:=r.fdiv s)).1 ⟨rfl,rfl⟩;refine⟨by omega,by omega,?_⟩;exact Int.mul_nonneg (by omega) (by omega)
def Mw.euB (M r s u v:Int):Prop:=(u=1/\v=0/\s=M/\M≠0)\/(0<=r*s/\r.natAbs*v.natAbs+s.natAbs*u.natAbs<=M.natAbs/\r≠0/\u.natAbs<=M.natAbs/\r.natAbs<=M.natAbs/\s.natAbs<=M.natAbs)
theorem aLL {M R S T Q U V V':Nat} (hR:R=Q*S+T) (hV:V'<=U+Q*V) (h:R*V+S*U<=M):S*V'+T*V<=M:=by
 have h1:S*V'<=S*U+S*(Q*V):=by rw[<-Nat.mul_add];exact Nat.mul_le_mul_left _ hV
 have h2:R*V=S*(Q*V)+T*V:=by rw[hR,Nat.add_mul,Nat.mul_comm Q S,Nat.mul_assoc]
 omega
theorem aKE {r s:Int} (h:s≠0) (hrs:0<=r*s):r.natAbs=(r.fdiv s).natAbs*s.natAbs+(r.fmod s).natAbs:=by
 obtain⟨h1,h2,h3⟩:=nA (r:=r) h;generalize r.fdiv s=q at *;generalize r.fmod s=t at *;have hm:=Int.natAbs_mul q s;have hc:q*s=s*q:=Int.mul_comm q s;rw[<-hm,hc];rcases Int.lt_or_gt_of_ne h with hs|hs;·(have ht:t<=0:=by rcases Int.lt_or_le 0 t with h4|h4;(·have:=Int.mul_neg_of_neg_of_pos hs h4;omega);·exact h4);(have hr:r<=0:=by rcases Int.lt_or_le 0 r with h4|h4;(·have:=Int.mul_neg_of_pos_of_neg h4 hs;omega);·exact h4);(have hq:0<=q:=by rcases Int.lt_or_le q 0 with h4|h4;(·have h5 : -s*1<=-s * -q:=Int.mul_le_mul_of_nonneg_left (by omega) (by omega);rw[Int.neg_mul_neg]at h5;omega);·exact h4);have hsq:s*q<=0:=Int.mul_nonpos_of_nonpos_of_nonneg (by omega) hq;omega
 ·(have ht:0<=t:=by rcases Int.lt_or_le t 0 with h4|h4;(·have:=Int.mul_neg_of_pos_of_neg hs h4;omega);·exact h4);(have hr:0<=r:=by rcases Int.lt_or_le r 0 with h4|h4;(·have:=Int.mul_neg_of_neg_of_pos h4 hs;omega);·exact h4);(have hq:0<=q:=by rcases Int.lt_or_le q 0 with h4|h4;(·have h5:s*q<=s*(-1):=Int.mul_le_mul_of_nonneg_left (by omega) (by omega);omega);·exact h4);have hsq:0<=s*q:=Int.mul_nonneg (by omega) hq;omega
theorem aGh {M r s u v:Int} (h:Mw.euB M r s u v) (hs:s≠0):Mw.euB M s (r.fmod s) v (u-r.fdiv s*v):=by
 obtain⟨h1,h2,h3⟩:=nA (r:=r) hs;right;rcases h with⟨rfl,rfl,rfl,hM⟩|⟨h4,h5,h6,h7,h8,h9⟩;·refine⟨h3,?_,hs,by simp,Nat.le_refl _,by omega⟩;simp
 ·have hq:=aKE hs h4;(have hV:(u-r.fdiv s*v).natAbs<=u.natAbs+(r.fdiv s).natAbs*v.natAbs:=by have:=Int.natAbs_mul (r.fdiv s) v;generalize r.fdiv s*v=x at *;omega);refine⟨h3,aLL hq hV h5,hs,?_,h9,by omega⟩;have:1*v.natAbs<=r.natAbs*v.natAbs:=Nat.mul_le_mul_right _ (by omega);omega
theorem aEv {n M:Int} (hM:M≠0):Mw.euB M n M 1 0:=.inl ⟨rfl,rfl,rfl,hM⟩
theorem aBi {M r s u v:Int} (h:Mw.euB M r s u v):u.natAbs<=M.natAbs+1/\(s≠0->v.natAbs<=M.natAbs)/\s.natAbs<=M.natAbs/\(s=0->r≠0/\r.natAbs<=M.natAbs):=by
 rcases h with⟨rfl,rfl,rfl,hM⟩|⟨h4,h5,h6,h7,h8,h9⟩;·exact⟨by omega,fun _=>by simp,Nat.le_refl _,fun h=>absurd h hM⟩
 ·refine⟨by omega,fun _=>?_,h9,fun _=>⟨h6,h8⟩⟩;have:1*v.natAbs<=r.natAbs*v.natAbs:=Nat.mul_le_mul_right _ (by omega);omega
end Go.Proofs.YtjieekkkaekclaaGreatDoor
namespace Go.Proofs.YtjieekkkaekclaaGreatDoor
open Go Go.RowKit Go.Pw.PrintWords
def Sz2 (W:World) (b:Nat):Prop:=W.cell? ⟨b,2,none⟩=none
theorem Sz2.call {W W':World} {b:Nat} (h:Sz2 W b) (hl:b<W.heap.size) (hb:Below W.heap.size W W'):Sz2 W' b:=(hb.cell (p:=⟨b,2,none⟩) hl).trans h
theorem Sz2.put {W:World} {b b':Nat} {s:Int} {A:Option Addr} {k c:Nat} (h:Sz2 W b):Sz2 (lT W b' s A k c) b:=by refine(World.cell?_setCell_other _ _ _ _ ?_).trans ((World.cell?_setCell_other _ _ _ _ ?_).trans h)<;>simp
theorem Sz2.new (W:World) (x y:Value) (t:TypeId):Sz2 (W.alloc (.cells #[x,y] t)) W.heap.size:=by unfold Sz2;simp
structure Ev where
 R:Value->World->Prop
 call:∀{v:Value} {W W':World},R v W->Below W.heap.size W W'->R v W'
 put:∀{v:Value} {W:World} {b:Nat} {s:Int} {A:Option Addr} {k c:Nat} {n:Int},R v W->Bx1 W b->Sz2 W b->dS W s A k c n->R v (lT W b s A k c)
def Nv (n:Int) (v:Value) (W:World):Prop:=∃s A k c,v = .agg #[.int .i64 s,.slice A k c]/\dS W s A k c n
def Nt (n m:Int) (v:Value) (W:World):Prop:=∃s A k c s' A' k' c',v = .tuple #[.agg #[.int .i64 s,.slice A k c],.agg #[.int .i64 s',.slice A' k' c']]/\dS W s A k c n/\dS W s' A' k' c' m
def Pn (lo:Nat) (v:Value) (W:World):Prop:=∃b,v = .pointer (some ⟨b,0,none⟩)/\lo<=b/\Bx1 W b/\Sz2 W b
structure Two (n m:Int) (g:Nat) (s:Int) (A:Option Addr) (k c:Nat) (s':Int) (A':Option Addr) (k' c':Nat) (W:World):Prop where
 c0:W.cell? ⟨g,0,none⟩=some (.int .i64 s)
 c1:W.cell? ⟨g,1,none⟩=some (.slice A k c)
 c2:W.cell? ⟨g,2,none⟩=some (.int .i64 s')
 c3:W.cell? ⟨g,3,none⟩=some (.slice A' k' c')
 lt:g<W.heap.size
 num:dS W s A k c n
 num':dS W s' A' k' c' m
theorem Two.call {n m:Int} {g:Nat} {s:Int} {A:Option Addr} {k c:Nat} {s':Int} {A':Option Addr} {k' c':Nat} {W W':World} (h:Two n m g s A k c s' A' k' c' W) (hb:Below W.heap.size W W'):Two n m g s A k c s' A' k' c' W':=
 ⟨(hb.cell (p:=⟨g,0,none⟩) h.lt).trans h.c0,(hb.cell (p:=⟨g,1,none⟩) h.lt).trans h.c1,(hb.cell (p:=⟨g,2,none⟩) h.lt).trans h.c2,(hb.cell (p:=⟨g,3,none⟩) h.lt).trans h.c3,Nat.lt_of_lt_of_le h.lt hb.size,h.num.below hb,h.num'.below hb⟩
theorem Two.put {n m:Int} {g:Nat} {s:Int} {A:Option Addr} {k c:Nat} {s':Int} {A':Option Addr} {k' c':Nat} {W:World} (h:Two n m g s A k c s' A' k' c' W) {b:Nat} (hx:Bx1 W b) (hs:Sz2 W b) (s2:Int) (A2:Option Addr) (k2 c2:Nat):Two n m g s A k c s' A' k' c' (lT W b s2 A2 k2 c2):=by
 have hne:b≠g:=fun e=>by subst e;have:=h.c2;rw[show W.cell? ⟨b,2,none⟩=none from hs]at this;cases this
 have hf:∀o,(lT W b s2 A2 k2 c2).cell? ⟨g,o,none⟩=W.cell? ⟨g,o,none⟩:=fun o=>by rw[World.cell?_setCell_far _ _ _ _ hne,World.cell?_setCell_far _ _ _ _ hne]
 exact⟨(hf 0).trans h.c0,(hf 1).trans h.c1,(hf 2).trans h.c2,(hf 3).trans h.c3,by simpa using h.lt,Nb.zS h.num hx _ _ _ _,Nb.zS h.num' hx _ _ _ _⟩
theorem Two.new {n m:Int} {s:Int} {A:Option Addr} {k c:Nat} {s':Int} {A':Option Addr} {k' c':Nat} {W:World} (h:dS W s A k c n) (h':dS W s' A' k' c' m) (t:TypeId):Two n m W.heap.size s A k c s' A' k' c' (W.alloc (.cells #[.int .i64 s,.slice A k c,.int .i64 s',.slice A' k' c'] t)):=
 ⟨by simp,by simp,by simp,by simp,by simp,h.below (bA (Below.refl _ _) _),h'.below (bA (Below.refl _ _) _)⟩
def Nw (n m:Int) (v:Value) (W:World):Prop:=∃g s A k c s' A' k' c',v = .slice (some ⟨g,0,none⟩) 2 2/\Two n m g s A k c s' A' k' c' W
def Ev.eq (x:Value):Ev:=⟨fun v _=>v=x,fun h _=>h,fun h _ _ _=>h⟩
def Ev.nw (n m:Int):Ev:=⟨Nw n m,fun⟨g,s,A,k,c,s',A',k',c',e,h⟩ hb=>⟨g,s,A,k,c,s',A',k',c',e,h.call hb⟩,fun⟨g,s,A,k,c,s',A',k',c',e,h⟩ hx hs _=>⟨g,s,A,k,c,s',A',k',c',e,h.put hx hs _ _ _ _⟩⟩
def Ev.nv (n:Int):Ev:=⟨Nv n,fun⟨s,A,k,c,e,h⟩ hb=>⟨s,A,k,c,e,h.below hb⟩,fun⟨s,A,k,c,e,h⟩ hx _ _=>⟨s,A,k,c,e,Nb.zS h hx _ _ _ _⟩⟩
def Ev.nt (n m:Int):Ev:=⟨Nt n m,fun⟨s,A,k,c,s',A',k',c',e,h,h'⟩ hb=>⟨s,A,k,c,s',A',k',c',e,h.below hb,h'.below hb⟩,
 fun⟨s,A,k,c,s',A',k',c',e,h,h'⟩ hx _ _=>⟨s,A,k,c,s',A',k',c',e,Nb.zS h hx _ _ _ _,Nb.zS h' hx _ _ _ _⟩⟩
def Ev.pn (lo:Nat):Ev:=⟨Pn lo,fun⟨b,e,h,hx,hs⟩ hb=>⟨b,e,h,hx.call hb,hs.call hx.lt hb⟩,fun⟨b,e,h,hx,hs⟩ hy _ hN=>⟨b,e,h,hx.put hy hN,hs.put⟩⟩
def Ev.no:Ev:=⟨fun _ _=>True,fun h _=>h,fun h _ _ _=>h⟩
def aKM (v:Value) (W:World):Prop:=∃b,v = .pointer (some ⟨b,0,none⟩)/\W.heap.size<=b
theorem aGe {lo:Nat} {v x:Value} {W:World} (h:aKM v W) (hp:Pn lo x W):v≠x:=by obtain⟨b,rfl,hb⟩:=h;obtain⟨b',rfl,_,hx,_⟩:=hp;intro e;have:=hx.lt;simp only[Value.pointer.injEq,Option.some.injEq,Addr.mk.injEq]at e;omega
section
variable {P:Program} {Q:Exit->Act->World->Prop}
theorem aEE {id:Nat} {l:List Oper} {a0:Act} {w0:World} (evs:List Ev) (al:Nat->Bool) (lo n sz:Nat) (hn:evs.length=n) (hsz:a0.tmps.size=sz) (B:World->Prop)
 (hal:∀i,i<n->al i=true->evs.getD i Ev.no=Ev.pn lo)
 (hm:P.follows .mixedOrders=true) (hchk:evB .any l.toArray n sz=true) (hB0:B w0.drew)
 (hB:∀W W',B W->Below W.heap.size W W'->B W')
 (hev:∀i,i<n->∀o,l.toArray[i]?=some o->∀(a:Act) (W:World) (vs:Nat->Value),B W->
  (∀t,(List.range n).all (fun j=>qI l.toArray j != some t)=true->a.tmps[t]?.getD undef=a0.tmps[t]?.getD undef)->
  (∀j,Region.waitsFor .any l.toArray i j=true->(evs.getD j Ev.no).R (vs j) W/\∀t,qI l.toArray j=some t->a.tmps[t]?.getD undef=vs j)->
  ∀K':Act->World->Prop,Shut (∀v W',Below W.heap.size W W'->(evs.getD i Ev.no).R v W'->(al i=true->aKM v W)->K' (a.put o.dst v) W')->Oper.wp P o a W K' Q)
 (htail:∀(vs:Nat->Value) (W:World),B W->(∀i,i<n->(evs.getD i Ev.no).R (vs i) W)->(∀i j,i<n->j<n->i≠j->al i=true->al j=true->vs i≠vs j)->wpList P l.toArray Q (l.drop n) (qM a0 (qI l.toArray) vs n) W):
 (Code.region id l.toArray true).wp P Q a0 w0:=by
 refine wT n sz hsz B (fun _ W W'=>Below W.heap.size W W') (fun i vs W=>(evs.getD i Ev.no).R (vs i) W) al hm hchk hB0 (fun _ _ W W' h hb=>hB W W' h hb) (fun i j _ _ _ vs W W' _ h hb=>(evs.getD j Ev.no).call h hb) ?_ ?_ htail;·intro i j hi hj hij _ vs v W h;simpa only[upd,if_neg (Ne.symm hij)]using h
 ·intro i hi o ho a W vs hBW hsl hpre K' hK;refine hev i hi o ho a W vs hBW hsl hpre K' (show Shut _ from fun v W' hb hg hf=>hK.out v W' hb (by simpa only[upd,if_true]using hg) (fun ha j hj haj hF=>?_));rw[hal j hj haj]at hF;exact aGe (hf ha) hF
theorem uN {id:Nat} {l:List Oper} {a0:Act} {w0:World} (evs:List Ev) (al:Nat->Bool) (lo n p sz:Nat) (q:Int) (hn:evs.length=n) (hsz:a0.tmps.size=sz) (B:World->Prop)
 (hal:∀i,i<n->al i=true->evs.getD i Ev.no=Ev.pn lo) (hal1:al n=false) (hp:p<n) (hwp:Region.waitsFor .any l.toArray n p=true)
 (hm:P.follows .mixedOrders=true) (hchk:evB .any l.toArray (n+1) sz=true) (hB0:B w0.drew)
 (hB:∀W W',B W->Below W.heap.size W W'->B W') (hBp:∀W b s A k c,B W->lo<=b->Bx1 W b->dS W s A k c q->B (lT W b s A k c))
 (hev:∀i,i<n->∀o,l.toArray[i]?=some o->∀(a:Act) (W:World) (vs:Nat->Value),B W->
  (∀t,(List.range (n+1)).all (fun j=>qI l.toArray j != some t)=true->a.tmps[t]?.getD undef=a0.tmps[t]?.getD undef)->
  (∀j,j<n->Region.waitsFor .any l.toArray i j=true->(evs.getD j Ev.no).R (vs j) W/\∀t,qI l.toArray j=some t->a.tmps[t]?.getD undef=vs j)->
  ∀K':Act->World->Prop,Shut (∀v W',Below W.heap.size W W'->(evs.getD i Ev.no).R v W'->(al i=true->aKM v W)->K' (a.put o.dst v) W')->Oper.wp P o a W K' Q)
 (hst:∀o,l.toArray[n]?=some o->∀(a:Act) (W:World) (vs:Nat->Value),B W->
  (∀j,j<n->Region.waitsFor .any l.toArray n j=true->(evs.getD j Ev.no).R (vs j) W/\∀t,qI l.toArray j=some t->a.tmps[t]?.getD undef=vs j)->
  ∀K':Act->World->Prop,Shut (∀v b s A k c,vs p = .pointer (some ⟨b,0,none⟩)->lo<=b->Bx1 W b->Sz2 W b->dS W s A k c q->K' (a.put o.dst v) (lT W b s A k c))->Oper.wp P o a W K' Q)
 (htail:∀(vs:Nat->Value) (W:World),B W->(∀i,i<n->(evs.getD i Ev.no).R (vs i) W)->(∃b,vs p = .pointer (some ⟨b,0,none⟩)/\Bn W b q)->(∀i j,i<n->j<n->i≠j->al i=true->al j=true->vs i≠vs j)->wpList P l.toArray Q (l.drop (n+1)) (qM a0 (qI l.toArray) vs (n+1)) W):
 (Code.region id l.toArray true).wp P Q a0 w0:=by
 refine wT (n+1) sz hsz B (fun i W W'=>if i=n then ∃b s A k c,lo<=b/\Bx1 W b/\Sz2 W b/\dS W s A k c q/\W'=lT W b s A k c else Below W.heap.size W W')
  (fun i vs W=>if i=n then ∃b,vs p = .pointer (some ⟨b,0,none⟩)/\Bn W b q else(evs.getD i Ev.no).R (vs i) W) al hm hchk hB0 ?_ ?_ ?_ ?_ ?_
 ·intro i hi W W' h hb;by_cases h4:i=n;(·rw[if_pos h4]at hb;obtain⟨b,s,A,k,c,hlo,hbx,hsz,hN,rfl⟩:=hb;exact hBp _ _ _ _ _ _ h hlo hbx hN);·rw[if_neg h4]at hb;exact hB _ _ h hb
 ·intro i j hi hj hij vs W W' _ hf hb;by_cases h4:i=n;(·rw[if_pos h4]at hb;obtain⟨b,s,A,k,c,hlo,hbx,hsz,hN,rfl⟩:=hb;rw[if_neg (by omega)]at hf⊢;exact(evs.getD j Ev.no).put hf hbx hsz hN);·rw[if_neg h4]at hb;by_cases h5:j=n;(·rw[if_pos h5]at hf⊢;obtain⟨b,e,hbn⟩:=hf;exact⟨b,e,hbn.call hb⟩);·rw[if_neg h5]at hf⊢;exact(evs.getD j Ev.no).call hf hb
 ·intro i j hi hj hij hw vs v W hf;by_cases h5:j=n;(·rw[if_pos h5]at hf⊢;(have hpi:p≠i:=fun h=>by subst h;rw[h5,hwp]at hw;cases hw);simpa only[upd,if_neg hpi]using hf);·rw[if_neg h5]at hf⊢;simpa only[upd,if_neg (Ne.symm hij)]using hf
 ·intro i hi o ho a W vs hBW hsl hpre K' hK;(have hpre':∀j,j<n->Region.waitsFor .any l.toArray i j=true->(evs.getD j Ev.no).R (vs j) W/\∀t,qI l.toArray j=some t->a.tmps[t]?.getD undef=vs j:=fun j hj hw=>by have h:=hpre j hw;rw[if_neg (by omega)]at h;exact h);by_cases h4:i=n;(·subst h4;refine hst o ho a W vs hBW hpre' K' (show Shut _ from fun v b s A k c e hlo hbx hsz hN=>hK.out v _ ?_ ?_ (fun h=>by rw[hal1]at h;cases h));(·rw[if_pos rfl];exact⟨b,s,A,k,c,hlo,hbx,hsz,hN,rfl⟩);·rw[if_pos rfl];(have hpi:p≠i:=by omega);refine⟨b,by simpa only[upd,if_neg hpi]using e,?_⟩;exact(Nb.qB hN hbx).bn);·refine hev i (by omega) o ho a W vs hBW hsl hpre' K' (show Shut _ from fun v W' hb hg hf=>hK.out v W' ?_ ?_ (fun ha j hj haj hF=>?_));(·rw[if_neg h4];exact hb);(·rw[if_neg h4];simpa only[upd,if_true]using hg);·(have hjn:j≠n:=fun h=>by subst h;rw[hal1]at haj;cases haj);rw[if_neg hjn,hal j (by omega) haj]at hF;exact aGe (hf ha) hF
 ·intro vs W hBW hf hne;have hl:=hf n (by omega);rw[if_pos rfl]at hl;exact htail vs W hBW (fun i hi=>by have h:=hf i (by omega);rw[if_neg (by omega)]at h;exact h) hl (fun i j hi hj=>hne i j (by omega) (by omega))
end
def Lt9 (K:Nat) (x:Int):Prop:=x.natAbs<1000000000^K
section
variable {W:World} {s:Int} {A:Option Addr} {k c K L:Nat} {n x y:Int}
theorem Lt9.kle (h:Lt9 K n) (H:dS W s A k c n):k<=K:=by rw[H.len];exact(mO _ _).mpr h
theorem Lt9.mono (h:Lt9 K x) (hl:y.natAbs<=x.natAbs):Lt9 K y:=Nat.lt_of_le_of_lt hl h
theorem Lt9.up (h:Lt9 K x) (hl:K<=L):Lt9 L x:=Nat.lt_of_lt_of_le h (Nat.pow_le_pow_right (by omega) hl)
theorem Lt9.mul (h:Lt9 K x) (h':Lt9 L y):Lt9 (K+L) (x*y):=by unfold Lt9 at *;rw[Int.natAbs_mul,Nat.pow_add];exact Nat.mul_lt_mul'' h h'
theorem aJE (K:Nat):0<1000000000^K:=Nat.pow_pos (by omega)
theorem Lt9.add (h:Lt9 K x) (h':Lt9 K y):Lt9 (K+1) (x+y):=by unfold Lt9 at *;rw[Nat.pow_succ];have:=Int.natAbs_add_le x y;generalize 1000000000^K=X at *;omega
theorem Lt9.neg (h:Lt9 K x):Lt9 K (-x):=by unfold Lt9 at *;rwa[Int.natAbs_neg]
theorem Lt9.sub (h:Lt9 K x) (h':Lt9 K y):Lt9 (K+1) (x-y):=by rw[Int.sub_eq_add_neg];exact h.add h'.neg
theorem Lt9.succ (h:Lt9 K x) (hl:y.natAbs<=x.natAbs+1):Lt9 (K+1) y:=by unfold Lt9 at *;rw[Nat.pow_succ];have:=aJE K;generalize 1000000000^K=X at *;omega
theorem Lt9.tdiv (h:Lt9 K x):Lt9 K (x.tdiv y):=h.mono (by rw[Int.natAbs_tdiv];exact Nat.div_le_self _ _)
theorem Lt9.fdiv (h:Lt9 K x) (hy:y≠0):Lt9 (K+1) (x.fdiv y):=h.succ (aBH x y hy).1
theorem Lt9.fmod (h:Lt9 K y) (hy:y≠0):Lt9 K (x.fmod y):=h.mono (Nat.le_of_lt (nA hy).2.1)
theorem Lt9.small (h:x.natAbs<1000000000):Lt9 1 x:=by unfold Lt9;simpa using h
end
theorem aKZ {m r:Int} (hr:r≠0) (h:r.natAbs<=m.natAbs):m.tdiv r≠0:=by intro e;have h1:=congrArg Int.natAbs e;rw[Int.natAbs_tdiv]at h1;have h2:1<=m.natAbs/r.natAbs:=(Nat.le_div_iff_mul_le (by omega)).mpr (by omega);have h3:m.natAbs/r.natAbs=0:=h1;rw[h3]at h2;exact absurd h2 (by decide)
end Go.Proofs.YtjieekkkaekclaaGreatDoor
