/- Lemmas for the claim beside this text. -/
import Derived.Test.YtjieekkkaekclaaGreatDoorProg
import Derived.Test.YtjieekkkaekclaaGreatDoorZBAA
import Derived.Test.YtjieekkkaekclaaGreatDoorZBAB
import Derived.Test.YtjieekkkaekclaaGreatDoorZBAC
import Derived.Below
import Derived.BigQuiet
import Derived.Deep.CutBlock
import Derived.Deep.DeepCutAuto
import Derived.Deep.LoopGhost
import Derived.Deep.QuietTactic
import Derived.Deep.RegionHeld3
import Derived.Deep.RegionLaw
import Derived.KernelRfl
import Derived.Laws.CopyOwn
import Derived.Laws.StructEq
import Derived.Lib.Hide
import Derived.StillTailTactics
import Derived.WalkLawsBesides
set_option linter.all false
set_option linter.unusedVariables false
set_option linter.unusedSimpArgs false
set_option maxHeartbeats 2000000
set_option maxRecDepth 100000
namespace Go.Proofs.YtjieekkkaekclaaGreatDoor
open Go.RowKit Go.Pw.PrintWords
def lbs (n:Nat):List Int:=if _h:n=0 then[]else((n%1000000000:Nat):Int)::lbs (n/1000000000)
termination_by n
decreasing_by omega
theorem uT:lbs 0=[]:=by rw[lbs];simp
theorem aAh {n:Nat} (h:n≠0):lbs n=((n%1000000000:Nat):Int)::lbs (n/1000000000):=by rw[lbs];simp[h]
theorem yP (n:Nat):Mw.inB 1000000000 (lbs n):=by
 induction n using Nat.strongRecOn with
 | _ n ih=>by_cases h:n=0;(·subst h;rw[uT];exact Mw.uX _);·rw[aAh h];exact Mw.nJ.mpr ⟨⟨by omega,by omega⟩,ih _ (by omega)⟩
theorem wD (n:Nat):Mw.lv 1000000000 (lbs n)=n:=by
 induction n using Nat.strongRecOn with
 | _ n ih=>by_cases h:n=0;(·subst h;rw[uT];rfl);·rw[aAh h,Mw.mH,ih _ (by omega)];omega
theorem aE4 {x:Int} {l:List Int} (hl:Mw.aAy l) (h:l=[]->x≠0):Mw.aAy (x::l):=by
 unfold Mw.aAy at hl⊢;cases l with
 | nil=>simpa using h rfl
 | cons y l=>simpa [List.getLast?_cons_cons]using hl
theorem aBE (n:Nat):Mw.aAy (lbs n):=by
 induction n using Nat.strongRecOn with
 | _ n ih=>by_cases h:n=0;(·subst h;rw[uT];exact Mw.aBu);·rw[aAh h];refine aE4 (ih _ (by omega)) (fun he=>?_);have h1:=wD (n/1000000000);rw[he]at h1;have h2:Mw.lv 1000000000 []=0:=rfl;omega
theorem aMB {l:List Int} (hi:Mw.inB 1000000000 l) (ht:Mw.aAy l) {n:Nat} (h:Mw.lv 1000000000 l=n):l=lbs n:=
 Mw.aDi (by omega) hi (yP n) ht (aBE n) (h.trans (wD n).symm)
theorem aGW (n:Nat):lbs n=[]<->n=0:=
 ⟨fun h=>by have:=wD n;rw[h]at this;have h2:Mw.lv 1000000000 []=0:=rfl;omega,fun h=>by rw[h,uT]⟩
theorem sG (n:Nat):0<(lbs n).length<->n≠0:=by rw[List.length_pos_iff,ne_eq,aGW]
theorem mO (n k:Nat):(lbs n).length<=k<->n<1000000000^k:=by
 induction k generalizing n with
 | zero=>have:=sG n;simp only[Nat.pow_zero];omega
 | succ k ih=>by_cases h:n=0;(·subst h;rw[uT];simp;exact Nat.pow_pos (by omega));·rw[aAh h,List.length_cons,Nat.add_le_add_iff_right,ih,Nat.pow_succ];exact Nat.div_lt_iff_lt_mul (by omega)
theorem aG1 (n i:Nat):0<=(lbs n).getD i 0/\(lbs n).getD i 0<1000000000:=Mw.bW (by omega) (yP n) i
theorem aIp {n:Nat} (h:n<1000000000):lbs n=if n=0 then[]else[(n:Int)]:=by
 by_cases h0:n=0;·rw[if_pos h0,h0,uT]
 ·rw[if_neg h0,aAh h0,Nat.div_eq_of_lt h,uT,Nat.mod_eq_of_lt h]
def yM (l:List Int):Nat->Nat
 | 0=>0
 | n+1=>if l.getD n 0=0 then yM l n else n+1
theorem aHv (l:List Int) (n:Nat):yM l n<=n:=by
 induction n with
 | zero=>simp[yM]
 | succ n ih=>simp only[yM];split<;>omega
theorem aL0 (B:Int) (l:List Int) (n:Nat) (h:n<=l.length):Mw.lv B (l.take (yM l n))=Mw.lv B (l.take n):=by
 induction n with
 | zero=>simp[yM]
 | succ n ih=>simp only[yM];split;(·rename_i h0;rw[ih (by omega),Mw.iB l n (by omega),h0,Mw.lC];simp);·rfl
theorem aHV (l:List Int) (n:Nat) (h:n<=l.length):Mw.aAy (l.take (yM l n)):=by
 induction n with
 | zero=>simp[yM];exact Mw.aBu
 | succ n ih=>simp only[yM];split;(·exact ih (by omega));·rename_i h0;rw[Mw.iB l n (by omega)];exact Mw.rP.mpr h0
theorem aE8 {l:List Int} (hi:Mw.inB 1000000000 l) {n:Nat} (h:Mw.lv 1000000000 l=n):l.take (yM l l.length)=lbs n:=
 aMB (Mw.kG hi _) (aHV l _ (Nat.le_refl _)) (by rw[aL0 _ _ _ (Nat.le_refl _),List.take_length];exact h)
theorem aJj {l:List Int} (hi:Mw.inB 1000000000 l) {n:Nat} (h:Mw.lv 1000000000 l=n):yM l l.length=(lbs n).length:=by rw[<-aE8 hi h,List.length_take,Nat.min_eq_left (aHv l _)]
def sgn (n:Int):Int:=if n<0 then -1 else if n=0 then 0 else 1
theorem fP (n:Int):sgn n = -1/\n<0\/sgn n=0/\n=0\/sgn n=1/\0<n:=by
 unfold sgn;split;·exact .inl ⟨rfl,‹_›⟩
 ·split;(·exact .inr (.inl ⟨rfl,‹_›⟩));·exact .inr (.inr ⟨rfl,by omega⟩)
theorem aMo (n:Int):-1<=sgn n/\sgn n<=1:=by rcases fP n with h|h|h<;>omega
theorem aBy (n:Int):sgn n*n.natAbs=n:=by rcases fP n with⟨h,h1⟩|⟨h,h1⟩|⟨h,h1⟩<;>rw[h]<;>omega
structure dS (w:World) (s:Int) (A:Option Addr) (k c:Nat) (n:Int):Prop where
 sign:s=sgn n
 len:k=(lbs n.natAbs).length
 cap:k<=c
 reads:Kd.C (Kd.int .u32) w A k (lbs n.natAbs)
theorem dS.below {w w1:World} {s:Int} {A:Option Addr} {k c:Nat} {n:Int} (h:dS w s A k c n) (hb:Below w.heap.size w w1):dS w1 s A k c n:=
 ⟨h.sign,h.len,h.cap,Kd.iF h.reads hb⟩
theorem dS.bd {w:World} {s:Int} {A:Option Addr} {k c:Nat} {n:Int} (h:dS w s A k c n):-1<=s/\s<=1:=h.sign▸aMo n
theorem dS.zero (w:World):dS w 0 none 0 0 0:=⟨rfl,by simp[uT],Nat.le_refl _,by simpa [uT]using Kd.aMg (Kd.int .u32) w⟩
theorem dS.reads' {w:World} {s:Int} {A:Option Addr} {k c:Nat} {n:Int} (h:dS w s A k c n):Kd.C (Kd.int .u32) w A (lbs n.natAbs).length (lbs n.natAbs):=h.len▸h.reads
theorem dS.cell {w:World} {s:Int} {A:Option Addr} {k c:Nat} {n:Int} (h:dS w s A k c n) {i:Nat} (hi:i<k):
 ∃ad,A=some ad/\w.cell? (ad.add i)=some (.int .u32 ((lbs n.natAbs).getD i 0)):=by
 obtain⟨ad,e,hc⟩:=Kd.dF h.reads i (by omega) (by omega);exact⟨ad,e,by simpa [rd]using hc⟩
theorem aCi {w:World} {A:Option Addr} {l:List Int} (h:Kd.C (Kd.int .u32) w A l.length l) {n:Nat} (hn:n<=l.length):Kd.C (Kd.int .u32) w A n (l.take n):=by
 refine⟨by simp;omega,by have:=h.2.1;omega,fun hp=>?_⟩;obtain⟨ad,e,hc⟩:=h.2.2 (by omega);refine⟨ad,e,fun j p hj=>hc j p ?_⟩;by_cases hjn:j<n;·rwa[List.getElem?_take_of_lt hjn]at hj
 ·rw[List.getElem?_eq_none (by simp;omega)]at hj;cases hj
theorem aCD {w w1:World} {a b:Value} {t:TypeId} (hb:Below (w.alloc (.cells #[a,b] t)).heap.size (w.alloc (.cells #[a,b] t)) w1):
 w1.cell? ⟨w.heap.size,0,none⟩=some a/\w1.cell? ⟨w.heap.size,1,none⟩=some b/\w.heap.size<w1.heap.size:=by
 have h0:=hb.cell (p:=⟨w.heap.size,0,none⟩) (by simp);have h1:=hb.cell (p:=⟨w.heap.size,1,none⟩) (by simp);have h2:=hb.size;simp[go_sem]at h0 h1 h2;exact⟨h0,h1,h2⟩
theorem nO {W:World} {a:Addr} {v:Value} (o:Obj) (h:W.cell? a=some v):(W.alloc o).cell? a=some v:=nH (bA (Below.refl _ _) o) h
theorem kc {W w1:World} {a:Addr} {v:Value} (hb:Below W.heap.size W w1) (h:W.cell? a=some v):w1.cell? a=some v:=nH hb h
theorem kca {W w1:World} {o:Obj} {a:Addr} {v:Value} (hb:Below (W.alloc o).heap.size (W.alloc o) w1) (h:W.cell? a=some v):w1.cell? a=some v:=kc hb (nO o h)
theorem aFe {w w1:World} {a b a' b':Value} {t t':TypeId} (hb:Below ((w.alloc (.cells #[a,b] t)).alloc (.cells #[a',b'] t')).heap.size ((w.alloc (.cells #[a,b] t)).alloc (.cells #[a',b'] t')) w1):
 w1.cell? ⟨w.heap.size,0,none⟩=some a/\w1.cell? ⟨w.heap.size,1,none⟩=some b/\w1.cell? ⟨w.heap.size+1,0,none⟩=some a'/\w1.cell? ⟨w.heap.size+1,1,none⟩=some b'/\w.heap.size<w1.heap.size/\w.heap.size+1<w1.heap.size:=by
 have h0:=hb.cell (p:=⟨w.heap.size,0,none⟩) (by simp;omega);have h1:=hb.cell (p:=⟨w.heap.size,1,none⟩) (by simp;omega);have h2:=hb.cell (p:=⟨w.heap.size+1,0,none⟩) (by simp);have h3:=hb.cell (p:=⟨w.heap.size+1,1,none⟩) (by simp);have h4:=hb.size;simp[go_sem]at h0 h1 h2 h3 h4;exact⟨h0,h1,h2,h3,by omega,by omega⟩
theorem aHQ {k j i:Nat} (h:k-1-j=i) (hj:j<k) (hk:k<=9223372036854775807):wrap64 (wrap64 ((k:Int)-1)-j)=i:=by unfold wrap64;omega
theorem aKR {k j:Nat} (hj:j<k) (hk:k<=9223372036854775807):wrap64 ((j:Int)+1)=(j:Int)+1:=by unfold wrap64;omega
theorem fK {B:Nat} {W w1:World} (h:Below B W.drew w1):Below B W w1:=⟨h.os,h.tape,h.output,h.size,h.block⟩
theorem dS.drew {w:World} {s:Int} {A:Option Addr} {k c:Nat} {n:Int} (h:dS w s A k c n):dS w.drew s A k c n:=h.below (bN (Below.refl _ _))
end Go.Proofs.YtjieekkkaekclaaGreatDoor
namespace Go.Proofs.YtjieekkkaekclaaGreatDoor
open Go
section
variable {P:Program} {ops:Array Oper} {md:Region.Mode} {Q:Exit->Act->World->Prop} {S:World->Prop} {n:Nat} {L:Array Bool->Act->World->Prop}
def aGx (P:Program) (md:Region.Mode) (ops:Array Oper) (Q:Exit->Act->World->Prop) (S:World->Prop) (n:Nat) (L:Array Bool->Act->World->Prop):Nat->Array Bool->Act->World->Prop
 | 0,listed,a,w=>L listed a w
 | f+1,listed,a,w=>Region.ready md ops listed≠[]/\∀i ∈ Region.ready md ops listed,i<n/\wpOp P ops Q i (fun a' w'=>S w'/\aGx P md ops Q S n L f (listed.setIfInBounds i true) a' w') a w
theorem aDJ {g:Nat} (hL:∀listed a w,L listed a w->wpAny P md ops Q g listed a w):∀(f:Nat) (listed:Array Bool) (a:Act) (w:World),aGx P md ops Q S n L f listed a w->wpAny P md ops Q (f+g) listed a w
 | 0,listed,a,w,h=>by rw[Nat.zero_add];exact hL _ _ _ h
 | f+1,listed,a,w,h=>by rw[show f+1+g=(f+g)+1 by omega];exact⟨fun h0=>absurd h0 h.1,fun i hi=>wpOp_mono (fun a' w' h'=>aDJ hL f _ a' w' h'.2) (h.2 i hi).2⟩
theorem aHl {i:Nat} {oi:Oper} {v:Value} (hi:ops[i]?=some oi) (hsel:∀(j:Nat) (o:Oper) cs b,ops[j]?=some o->o.op≠.select cs b) (hQ:∀c a w,Q (.panic c) (a.put oi.dst v) w->Q (.panic c) a w)
 (hs:Region.sinkB md ops n=true) (hc:Region.chainB md ops n=true) (hn:n<ops.size) (hin:i<n) (hdone:∀listed a w,L listed a w->∀j ∈ Region.ready md ops listed,n<=j):
 ∀(f:Nat) (listed:Array Bool) (a:Act) (w:World),HeadInv md ops n listed->
  (∀j oj,ops[j]?=some oj->j≠i->listed.getD j true=false->(∀e ∈ oj.after,Region.binds md e=true->e.on≠i)->oi.apart ops oj=true)->
  i ∈ Region.ready md ops listed->YieldsIf P ops S oi v a->S w->
  aGx P md ops Q S n L f (listed.setIfInBounds i true) (a.put oi.dst v) w->aGx P md ops Q S n L (f+1) listed a w:=by
 intro f;induction f with
 | zero=>intro listed a w inv _ hr hy hS H;refine⟨fun h=>(by rw[h]at hr;cases hr),fun j hj=>?_⟩;(have hjn:j<n:=by rcases Nat.lt_or_ge j n with h|h;(·exact h);·exact absurd hj (tail_waits hs hc hn inv _ i rfl hin (mem_ready.1 hr).1 j h));refine⟨hjn,?_⟩;by_cases hji:j=i;(·subst hji;exact hy.wpOp hi hS ⟨hS,H⟩);·have:=hdone _ _ _ H j (ready_mono hj hji);omega
 | succ f ih=>intro listed a w inv hfree hr hy hS H;have hun:=(mem_ready.1 hr).1;refine⟨fun h=>(by rw[h]at hr;cases hr),fun j hj=>?_⟩;(have hjn:j<n:=by rcases Nat.lt_or_ge j n with h|h;(·exact h);·exact absurd hj (tail_waits hs hc hn inv _ i rfl hin hun j h));refine⟨hjn,?_⟩;by_cases hji:j=i;(·subst hji;exact hy.wpOp hi hS ⟨hS,H⟩);·have h1:=(H.2 j (ready_mono hj hji)).2;obtain⟨hjun,oj,hoj,hall⟩:=mem_ready.1 hj;(have hnot:∀e ∈ oj.after,Region.binds md e=true->e.on≠i:=fun e he hb heq=>by have h1:=hall e he hb;rw[heq,getD_both hun]at h1;cases h1);have h2:=wpOp_putIf hoj (hfree j oj hoj hji hjun hnot) (fun cs b=>hsel i oi cs b hi) (fun cs b=>hsel j oj cs b hoj) hQ hy h1;refine wpOp_mono (fun a' w' h3=>⟨h3.2.1,ih (listed.setIfInBounds j true) a' w' (inv.set hj hjn) (fun k ok hk hki hun' hno=>?_) (ready_mono hr (Ne.symm hji)) h3.1 h3.2.1 ?_⟩) h2;(·refine hfree k ok hk hki ?_ hno;by_cases hjk:j=k;(·subst hjk;exact hjun);·rw[getD_set_ne true hjk]at hun';exact hun');·rw[Array.setIfInBounds_comm _ _ hji];exact h3.2.2
def GoT (P:Program) (md:Region.Mode) (ops:Array Oper) (Q:Exit->Act->World->Prop) (S:World->Prop) (n:Nat) (tail:List Oper) (f:Nat) (listed:Array Bool) (a:Act) (w:World):Prop:=
 HeadInv md ops n listed->aGx P md ops Q S n (fun l a' w'=>Region.seqB md ops tail.length n l=true/\wpList P ops Q tail a' w') f listed a w
theorem aK7 {tail:List Oper} (i:Nat) {oi:Oper} {v:Value} {f:Nat} {listed:Array Bool} {a:Act} {w:World} (hi:ops[i]?=some oi)
 (hB:(Region.noSelect ops && Region.sinkB md ops n && Region.chainB md ops n && decide (n<ops.size) && decide (i<n) && Region.free md ops listed i && (Region.ready md ops listed).contains i)=true)
 (hQ:∀c a w,Q (.panic c) (a.put oi.dst v) w->Q (.panic c) a w) (hy:YieldsIf P ops S oi v a) (hS:S w)
 (h:GoT P md ops Q S n tail f (listed.setIfInBounds i true) (a.put oi.dst v) w):GoT P md ops Q S n tail (f+1) listed a w:=by
 simp only[Bool.and_eq_true,decide_eq_true_eq]at hB;obtain⟨⟨⟨⟨⟨⟨h1,h2⟩,h3⟩,h4⟩,h5⟩,h6⟩,h7⟩:=hB;have hr:i ∈ Region.ready md ops listed:=by simpa using h7
 exact fun inv=>aHl hi (Region.noSelect_spec h1) hQ h2 h3 h4 h5 (fun l _ _ hl=>seqB_ready hl.1) f listed a w inv (Region.free_spec hi h6) hr hy hS (h (inv.set hr h5))
theorem eX {tail:List Oper} (i:Nat) {o:Oper} {f:Nat} {listed:Array Bool} {a:Act} {w:World} (ho:ops[i]?=some o) (hB:(decide (Region.ready md ops listed=[i]) && decide (i<n))=true)
 (h:∀K':Act->World->Prop,Shut (∀a w,S w->(S w->GoT P md ops Q S n tail f (listed.setIfInBounds i true) a w)->K' a w)->if Region.wanted o (yielded ops a.tmps)=true then Oper.wp P o a w K' Q else K' (a.put o.dst undef) w):
 GoT P md ops Q S n tail (f+1) listed a w:=by
 simp only[Bool.and_eq_true,decide_eq_true_eq]at hB;intro inv;have hr:i ∈ Region.ready md ops listed:=by rw[hB.1];simp
 refine⟨by rw[hB.1];simp,fun j hj=>?_⟩;rw[hB.1]at hj;obtain rfl:j=i:=by simpa using hj
 exact⟨hB.2,wpOp_step ho (fun K' hK=>h K' (fun a w hS hW=>hK a w ⟨hS,hW hS (inv.set hr hB.2)⟩))⟩
theorem aEX {tail:List Oper} (i j:Nat) {oi oj:Oper} {f:Nat} {listed:Array Bool} {a:Act} {w:World} (hoi:ops[i]?=some oi) (hoj:ops[j]?=some oj) (hB:(decide (Region.ready md ops listed=[i,j]) && decide (i<n) && decide (j<n))=true)
 (hi:∀K':Act->World->Prop,Shut (∀a w,S w->(S w->GoT P md ops Q S n tail f (listed.setIfInBounds i true) a w)->K' a w)->if Region.wanted oi (yielded ops a.tmps)=true then Oper.wp P oi a w K' Q else K' (a.put oi.dst undef) w)
 (hj:∀K':Act->World->Prop,Shut (∀a w,S w->(S w->GoT P md ops Q S n tail f (listed.setIfInBounds j true) a w)->K' a w)->if Region.wanted oj (yielded ops a.tmps)=true then Oper.wp P oj a w K' Q else K' (a.put oj.dst undef) w):
 GoT P md ops Q S n tail (f+1) listed a w:=by
 simp only[Bool.and_eq_true,decide_eq_true_eq]at hB;obtain⟨⟨hB1,hB2⟩,hB3⟩:=hB;intro inv;have hri:i ∈ Region.ready md ops listed:=by rw[hB1];simp
 have hrj:j ∈ Region.ready md ops listed:=by rw[hB1];simp
 refine⟨by rw[hB1];simp,fun k hk=>?_⟩;rw[hB1]at hk;have hk2:k=i\/k=j:=by simpa using hk
 rcases hk2 with rfl|rfl;·exact⟨hB2,wpOp_step hoi (fun K' hK=>hi K' (fun a w hS hW=>hK a w ⟨hS,hW hS (inv.set hri hB2)⟩))⟩
 ·exact⟨hB3,wpOp_step hoj (fun K' hK=>hj K' (fun a w hS hW=>hK a w ⟨hS,hW hS (inv.set hrj hB3)⟩))⟩
theorem mF {tail:List Oper} {listed:Array Bool} {a:Act} {w:World} (hB:Region.seqB md ops tail.length n listed=true) (h:wpList P ops Q tail a w):GoT P md ops Q S n tail 0 listed a w:=fun _=>⟨hB,h⟩
theorem jT {id:Nat} {a:Act} {w:World} {l:List Oper} (S:World->Prop) (n:Nat) (hm:P.follows .mixedOrders=true) (hB:(decide (n<l.length))=true) (hS:S w.drew)
 (h:S w.drew->GoT P .any l.toArray Q S n (l.drop n) n (Array.replicate l.length false) a w.drew):(Code.region id l.toArray true).wp P Q a w:=by
 simp only[decide_eq_true_eq]at hB;refine wp_region_any hm ?_
 have inv0:HeadInv .any l.toArray n (Array.replicate l.length false):=
  ⟨by simp,fun j oj _ hl=>(by rw[getD_replicate_false]at hl;cases hl),fun t _ ht=>getD_in (by simpa using ht) (getD_replicate_false _ _)⟩
 have H:=aDJ (g:=(l.drop n).length) (fun listed a' w' hL=>wpAny_of_seq (md:=.any) (l.drop n) n listed a' w' (fun j=>by simp[List.getElem?_drop]) hL.1 hL.2) _ _ _ _ (h hS inv0);rw[show n+(l.drop n).length=l.toArray.size by simp;omega]at H;have e:Array.replicate l.toArray.size false=Array.replicate l.length false:=by simp
 rw[e];exact H
end
end Go.Proofs.YtjieekkkaekclaaGreatDoor
namespace Zq
open Go Go.RowKit Go.Proofs.YtjieekkkaekclaaGreatDoor Go.Pw.PrintLast
theorem bo {b:Nat} {w W:World} (h:Below b w W:=by repeat(first|(with_reducible first|exact HB.out|apply bA|apply bI|apply aT)|exact HB.out)):Below b w W:=h
theorem am {p:Prop} (h:p:=by first|(with_reducible assumption)|assumption):p:=h
theorem mp {α β:Type _} {o:Option α} {f:α->Option β} {b:β} (h:o.bind f=some b):∃a,o=some a/\f a=some b:=Option.bind_eq_some_iff.mp h
theorem mq {α β:Type _} {o:Option α} {f:α->Option β} {b:β} (h:o.bind f=some b):∃a,Go.Pw.PrintWords.aA (o=some a)/\f a=some b:=by obtain⟨a,h1,h2⟩:=Option.bind_eq_some_iff.mp h;exact⟨a,⟨h1⟩,h2⟩
theorem is {p q:Prop} (h:p) (hq:p->q:=by intro h_;repeat(first|(with_reducible first|exact h_|apply bQ.alloc|apply bQ.drewN|apply bQ.drew|apply bQ.aN4|apply bQ.aN3)|exact h_)):q:=hq h
theorem bi {p q:Prop} (h:p) (hq:p->q:=by intro h_;repeat(first|(with_reducible first|exact HB.out|apply bA|apply bI|apply aT|refine fB ?_ (bQ.ge h_))|exact HB.out)):q:=hq h
theorem ra {p q:Prop} (h:p) (hq:p->q:=by intro h_;(with_reducible repeat(first|apply Kd.bR|apply Kd.bP|apply Kd.aK));exact h_):q:=hq h
theorem va {p q:Prop} (h:p) (hq:p->q:=by intro h_;(with_reducible repeat(first|apply Kd.gH|apply Kd.gG|apply Kd.iI));exact h_):q:=hq h
theorem ca {p q:Prop} (h:p) (hq:p->q:=by intro h_;repeat(first|exact h_|(with_reducible refine Kd.aHP ?_ _)|(with_reducible refine Kd.aM6 ?_ _)|(with_reducible refine Kd.aMW ?_))):q:=hq h
theorem kb {p:Prop} (h:p:=by repeat(first|(with_reducible first|exact HK.out|apply gT.aL4|apply aH0|apply aEq|apply aH1)|exact HK.out)):p:=h
theorem dr {p:Prop} (h:p:=by repeat(first|exact jD.refl _|apply jD.step)):p:=h
theorem ft {o:Option Func} {f g:Func} (h:o=some f) (e:f=g:=by kernel_rfl):o=some g:=h.trans (congrArg some e)
theorem ew {p:Prop} (h:p:=by first|rfl|(simp[bE,bD]<;>rfl)|(simp[*,bE,bD]<;>rfl)):p:=h
theorem sd {p:Prop} (h:p:=by first|rfl|(simp;done)|(simp[*];done)):p:=h
variable {P:Program} {ops:Array Oper} {Q:Exit->Act->World->Prop}
theorem c (f:FuncId) {rest:List Oper} {o:Oper} {a:Act} {W:World} {as_:Array Operand} {ts:Array TypeId} (_ho:o.op = .call {callee:=.value (.func f),args:=as_,argTypes:=ts}) (h:wpList P ops Q (o::rest) a W):wpList P ops Q (o::rest) a W:=h
theorem g {rest:List Oper} {oi:Oper} {a:Act} {w:World} (N:Option Tmp) {f:FuncId} {fn:Func} {xs:Array Operand} {ts:Array TypeId} (hf:P.funcs[f]?=some fn) (args:Array Value)
 (h:Calls P f args w fun e w'=>∃v,e = .returned v/\wpList P ops Q rest (a.put N v) w')
 (hd:oi.dst=N:=by rfl) (hg:oi.guard=none:=by rfl) (hname:(fn.name == "runtime.NumGoroutine")=false:=by kernel_rfl) (hb:fn.body.isSome=true:=by rfl)
 (hop:oi.op = .call {callee:=.value (.func f),args:=xs,argTypes:=ts}:=by rfl) (hargs:xs.map a.eval=args:=by(try simp only[List.map_toArray,List.map_cons,List.map_nil]);first|done|rfl|(simp only[List.length_drop,List.length_take];rfl)):wpList P ops Q (oi::rest) a w:=
 aMD N hd hg hf hname hb args hop hargs h
theorem a1 {α:Type _} {l:List α} {i:Nat} {x:α}:l.toArray.setIfInBounds i x=(l.set i x).toArray:=List.setIfInBounds_toArray ..
theorem a2 {α:Type _} {x y:α} {l:List α}:(x::l).set 0 y=y::l:=rfl
theorem a3 {α:Type _} {x y:α} {l:List α} {i:Nat}:(x::l).set (i+1) y=x::l.set i y:=rfl
variable {md:Region.Mode} {S:World->Prop} {ds:List Nat}
def bs (n m:Nat):Array Bool:=((List.range n).map fun i=>m.testBit i).toArray
theorem pu (i:Nat) (N:Option Tmp) {oi:Oper} {v:Value} {fuel:Nat} {l:Array Bool} {a:Act} {w:World} (l':Array Bool) {a':Act} (h:iG P md ops Q S ds fuel l' a' w) (hc:aKA md ops l l' i=true:=by exact aA1 HT_.out (by kernel_rfl))
 (hi:ops[i]?=some oi:=by rfl) (hN:oi.dst=N:=by rfl) (hQ:∀c a w,Q (.panic c) (a.put oi.dst v) w->Q (.panic c) a w:=by exact fun _ _ _ h=>h)
 (hw:Region.wanted oi (yielded ops a.tmps)=true:=by rfl) (hr:∀w,(execOp a.eval oi).run P w = .ok (.value v) w:=by intro w';go_simp;with_reducible rfl)
 (ha:a.put N v=a':=by simp only[Act.put,List.setIfInBounds_toArray,List.set_cons_zero,List.set_cons_succ,bG,bK];rfl):iG P md ops Q S ds (fuel+1) l a w:=
 aB3 l' hi hN hc hQ (Or.inl ⟨hw,hr⟩) ha h
theorem ta (i:Nat) (N:Option Tmp) {oi:Oper} {v:Value} {fuel:Nat} {l:Array Bool} {a:Act} {w:World} (l':Array Bool) (hS:S w) {a':Act} (h:iG P md ops Q S ds fuel l' a' w) (hc:takeB md ops ds l l' i=true:=by exact iJ HT_.out HW_.out (by kernel_rfl))
 (hi:ops[i]?=some oi:=by rfl) (hN:oi.dst=N:=by rfl) (hQ:∀c a w,Q (.panic c) (a.put oi.dst v) w->Q (.panic c) a w:=by exact fun _ _ _ h=>h)
 (hw:Region.wanted oi (yielded ops a.tmps)=true:=by rfl) (hr:∀w,S w->(execOp a.eval oi).run P w = .ok (.value v) w:=by rintro w' ⟨s0,s1⟩;go_simp;with_reducible rfl)
 (ha:a.put N v=a':=by simp only[Act.put,List.setIfInBounds_toArray,List.set_cons_zero,List.set_cons_succ,bG,bK];rfl):iG P md ops Q S ds (fuel+1) l a w:=
 mV l' hi hN hc hQ (Or.inl ⟨hw,hr⟩) hS ha h
theorem tq {n:Nat} {tail:List Oper} (i:Nat) {oi:Oper} {v:Value} {f:Nat} {listed:Array Bool} {a:Act} {w:World} (hi:ops[i]?=some oi) {a':Act}
 (h:GoT P md ops Q S n tail f (listed.setIfInBounds i true) a' w) (hQ:∀c a w,Q (.panic c) (a.put oi.dst v) w->Q (.panic c) a w:=by first|exact fun _ _ _ h=>h|exact fun _ _ _ h=>aE3 (by decide +kernel) h)
 (hB:(Region.noSelect ops && Region.sinkB md ops n && Region.chainB md ops n && decide (n<ops.size) && decide (i<n) && Region.free md ops listed i && (Region.ready md ops listed).contains i)=true:=by decide +kernel)
 (hw:Region.wanted oi (yielded ops a.tmps)=true:=by rfl) (hr:∀w,S w->(execOp a.eval oi).run P w = .ok (.value v) w:=by intro w_ hSw;(try dsimp only at hSw);go_simp;(try with_reducible rfl)) (hS:S w:=by assumption)
 (ha:a.put oi.dst v=a':=by(try simp only[Act.put,List.setIfInBounds_toArray,List.set_cons_zero,List.set_cons_succ]);rfl):GoT P md ops Q S n tail (f+1) listed a w:=
 aK7 i hi hB hQ (Or.inl ⟨hw,hr⟩) hS (ha▸h)
end Zq
namespace Go.Proofs.YtjieekkkaekclaaGreatDoor
open Go.RowKit Go.Pw.PrintWords
def aJO (s:Int) (A:Option Addr) (n:Nat):Value:=if n=0 then .agg #[.int .i64 0,.slice none 0 0]else .agg #[.int .i64 s,.slice A n n]
theorem aJV (s:Int) (ad:Addr) (l:List Int) (c:Nat) (w:World) (hC:Kd.C (Kd.int .u32) w (some ad) l.length l) (hc:l.length<=c) (hl:l.length<=1000000):
 Calls Tryz.prog 129 #[.int .i64 s,.slice (some ad) l.length c] w fun e w'=>e = .returned (aJO s (some ad) (yM l l.length))/\Below w.heap.size w w':=by
 have HC:=Lib.hid hC;clear hC;go_enter Tryz.func129,Tryz.ntmps129
 go_wp2
 go_loop [5] (fun v=>∃n:Nat,n<=l.length/\v = .int .i64 n/\yM l n=yM l l.length) (fun v=>(intOf v).toNat)
 case atStart=>exact⟨l.length,Nat.le_refl _,rfl,rfl⟩
 case round=>
  obtain⟨n,hn,rfl,ht⟩:=hrel;have HT:=Lib.hid ht;clear ht;cases n with
  | zero=>(go_wp2);(have e0:aJO s (some ad) (yM l l.length) = .agg #[.int .i64 0,.slice none 0 0]:=by rw[<-HT.out];rfl);exact bodyPost_ret (v:=.agg #[.int .i64 0,.slice none 0 0]) (by simp[results,Tryz.results129,go_sem]) rfl ⟨by rw[e0],(Below.refl _ _).alloc (Nat.le_refl _) _⟩
  | succ n=>
   obtain⟨ad',e,hcell⟩:=Kd.dF (Kd.aHP HC.out (.cells #[.int .i64 0,.slice none 0 0] 71)) n (by omega) (by omega);(obtain rfl:ad=ad':=by simpa using e);simp only[Int.toNat_natCast]at hcell;by_cases hz:rd l n=0
   ·rw[hz]at hcell;have HZ:=Lib.hid hz;clear hz;go_wp2
    go_round
    (case rel=>exact⟨n,by omega,by go_num,by rw[<-HT.out];have h1:l.getD n 0=0:=HZ.out;simp only[yM];rw[if_pos h1]⟩);case measure=>simp[intOf]
   ·(go_wp2);(have e0:aJO s (some ad) (yM l l.length) = .agg #[.int .i64 s,.slice (some ad) (n+1) (n+1)]:=by rw[<-HT.out];have h1:¬l.getD n 0=0:=hz;(have h2:yM l (n+1)=n+1:=by simp only[yM];rw[if_neg h1]);rw[h2];simp[aJO]);exact bodyPost_ret (v:=.agg #[.int .i64 s,.slice (some ad) (n+1) (n+1)]) (by simp[results,Tryz.results129,go_sem]) rfl ⟨by rw[e0],(Below.refl _ _).alloc (Nat.le_refl _) _⟩
theorem rC (s:Int) (A:Option Addr) (l:List Int) (c:Nat) (n:Nat) (w:World) (hC:Kd.C (Kd.int .u32) w A l.length l) (hp:0<l.length) (hc:l.length<=c) (hl:l.length<=1000000)
 (hi:Mw.inB 1000000000 l) (hv:Mw.lv 1000000000 l=n) (hs:s=1\/s = -1\/n=0):
 Calls Tryz.prog 129 #[.int .i64 s,.slice A l.length c] w fun e w'=>∃s' A' k' c',e = .returned (.agg #[.int .i64 s',.slice A' k' c'])/\dS w' s' A' k' c' (s*n)/\Below w.heap.size w w':=by
 obtain⟨ad,rfl,_⟩:=Kd.dF hC 0 (by omega) (by omega);refine(aJV s ad l c w hC hc hl).mono ?_;rintro e w' ⟨rfl,hb⟩;have h1:=aJj hi hv;by_cases h0:n=0;·subst h0;(have h2:yM l l.length=0:=by rw[h1,uT];rfl);refine⟨0,none,0,0,by rw[h2];rfl,?_,hb⟩;have:=dS.zero w';simpa using this
 ·(have h2:yM l l.length≠0:=by rw[h1];have:=(sG n).mpr h0;omega);(have h3:(s*(n:Int)).natAbs=n:=by rcases hs with h|h|h<;>first|(subst h;omega)|omega);refine⟨s,some ad,yM l l.length,yM l l.length,by simp only[aJO];rw[if_neg h2],⟨?_,by rw[h3];exact h1,Nat.le_refl _,?_⟩,hb⟩;(·rcases hs with h|h|h;(·subst h;simp[sgn];omega);(·subst h;simp[sgn];omega);·omega);·rw[h3,<-aE8 hi hv];exact aCi (Kd.iF hC hb) (aHv _ _)
theorem uP (s:Int) (w:World):Calls Tryz.prog 78 #[.int .i64 s] w fun e w'=>e = .returned (.bool (s == -1))/\w'=w:=by
 go_enter Tryz.func78,Tryz.ntmps78
 go_wp2
 go_ret
 exact⟨rfl,rfl⟩
theorem pR (s:Int) (w:World):Calls Tryz.prog 70 #[.int .i64 s] w fun e w'=>e = .returned (.bool (s == 0))/\w'=w:=by
 go_enter Tryz.func70,Tryz.ntmps70
 go_wp2
 go_ret
 exact⟨rfl,rfl⟩
theorem wZ (s:Int) (w:World) (h : -1<=s/\s<=1):Calls Tryz.prog 74 #[.int .i64 s] w fun e w'=>e = .returned (.int .i64 s)/\w'=w:=by
 obtain⟨h0,h1⟩:=h;go_enter Tryz.func74,Tryz.ntmps74
 go_wp2
 go_ret
 exact⟨rfl,rfl⟩
theorem aCU (s t:Int) (hs : -1<=s/\s<=1) (ht : -1<=t/\t<=1):-1<=s*t/\s*t<=1:=by
 have h1:s = -1\/s=0\/s=1:=by omega
 rcases h1 with h|h|h<;>subst h<;>omega
theorem yX (s t:Int) (w:World) (hs : -1<=s/\s<=1) (ht : -1<=t/\t<=1):Calls Tryz.prog 128 #[.int .i64 s,.int .i64 t] w fun e w'=>e = .returned (.int .i64 (s*t))/\w=w':=by
 obtain⟨h0,h1⟩:=aCU s t hs ht;have hw:IntKind.i64.wrap (s*t)=s*t:=IntWalk.i64_in _ (by omega);go_enter Tryz.func128,Tryz.ntmps128
 go_wp2
 go_ret
 exact⟨by first|rfl|rw[hw],rfl⟩
theorem dS.neg {w:World} {s:Int} {A:Option Addr} {k c:Nat} {n:Int} (h:dS w s A k c n):dS w (-s) A k c (-n):=
 ⟨by rw[h.sign];unfold sgn;split<;>split<;>(try split)<;>(try split)<;>omega,by rw[Int.natAbs_neg];exact h.len,h.cap,by rw[Int.natAbs_neg];exact h.reads⟩
theorem dS.abs {w:World} {s:Int} {A:Option Addr} {k c:Nat} {n:Int} (h:dS w s A k c n):dS w (s*s) A k c (n.natAbs:Int):=
 ⟨by rw[h.sign];rcases fP n with⟨e,h1⟩|⟨e,h1⟩|⟨e,h1⟩<;>rw[e]<;>unfold sgn<;>split<;>(try split)<;>omega,by rw[Int.natAbs_natCast];exact h.len,h.cap,by rw[Int.natAbs_natCast];exact h.reads⟩
theorem sM {s:Int} {A:Option Addr} {k c:Nat} {n:Int} (w:World) (H:dS w s A k c n):
 Calls Tryz.prog 79 #[.agg #[.int .i64 s,.slice A k c]] w fun e w'=>e = .returned (.agg #[.int .i64 (-s),.slice A k c])/\dS w' (-s) A k c (-n)/\Below w.heap.size w w':=by
 obtain⟨h0,h1⟩:=H.bd;go_enter Tryz.func79,Tryz.ntmps79
 go_wp2_with fail
 go_region_held3 (fun w'=>w'.cell? ⟨w.heap.size,0,none⟩=some (.int .i64 s)/\w'.cell? ⟨w.heap.size,1,none⟩=some (.slice A k c)) (go_keep) (first|(go_at_call 128;refine(yX _ _ _ (by omega) (by omega)).mono ?_;rintro e w' ⟨rfl,rfl⟩))
 go_wp2
 have hb:Below w.heap.size w (((w.alloc (.cells #[.int .i64 s,.slice A k c] 71)).alloc (.cells #[.int .i64 (-s),.slice A k c] 71)).drew):=bN (((Below.refl _ _).alloc (Nat.le_refl _) _).alloc (by simp) _);exact bodyPost_ret (v:=.agg #[.int .i64 (-s),.slice A k c]) (by simp[results,Tryz.results79,go_sem]) rfl ⟨rfl,(H.below hb).neg,hb⟩
theorem aFl {s:Int} {A:Option Addr} {k c:Nat} {n:Int} (w:World) (H:dS w s A k c n):
 Calls Tryz.prog 72 #[.agg #[.int .i64 s,.slice A k c]] w fun e w'=>e = .returned (.agg #[.int .i64 (s*s),.slice A k c])/\dS w' (s*s) A k c (n.natAbs:Int)/\Below w.heap.size w w':=by
 obtain⟨h0,h1⟩:=H.bd;go_enter Tryz.func72,Tryz.ntmps72
 go_wp2_with fail
 go_region_held3 (fun w'=>w'.cell? ⟨w.heap.size,0,none⟩=some (.int .i64 s)/\w'.cell? ⟨w.heap.size,1,none⟩=some (.slice A k c)) (go_keep) (first|(go_at_call 128;refine(yX _ _ _ ⟨by omega,by omega⟩ ⟨by omega,by omega⟩).mono ?_;rintro e w' ⟨rfl,rfl⟩))
 go_wp2
 have hb:Below w.heap.size w (((w.alloc (.cells #[.int .i64 s,.slice A k c] 71)).alloc (.cells #[.int .i64 (s*s),.slice A k c] 71)).drew):=bN (((Below.refl _ _).alloc (Nat.le_refl _) _).alloc (by simp) _);exact bodyPost_ret (v:=.agg #[.int .i64 (s*s),.slice A k c]) (by simp[results,Tryz.results72,go_sem]) rfl ⟨rfl,(H.below hb).abs,hb⟩
theorem aIx (l:List Int):splice [.int .u32 0,.int .u32 0] 0 ((l.take 2).map (Value.int .u32))=[.int .u32 (l.getD 0 0),.int .u32 (l.getD 1 0)]:=by
 match l with
 | []=>rfl
 | [x]=>rfl
 | x::y::l=>simp[splice]
theorem aLG {w:World} {s:Int} {A:Option Addr} {k c:Nat} {n:Int} (H:dS w s A k c n) (hp:0<(((lbs n.natAbs).take 2).map (Value.int .u32)).length):
 ∃ad,A=some ad/\∀j v,(((lbs n.natAbs).take 2).map (Value.int .u32))[j]?=some v->w.cell? (ad.add j)=some v:=by
 have hl:=H.len;have h0:0<k:=by simp at hp;omega
 obtain⟨ad,e,_⟩:=H.cell h0;refine⟨ad,e,fun j v hj=>?_⟩;have hj2:j<(lbs n.natAbs).length/\j<2:=by have:=(List.getElem?_eq_some_iff.mp hj).1;simp at this;omega
 obtain⟨ad',e',hc⟩:=H.cell (i:=j) (by omega);obtain rfl:ad=ad':=by rw[e]at e';simpa using e'
 rw[hc];rw[List.getElem?_map,List.getElem?_take_of_lt hj2.2,List.getElem?_eq_getElem hj2.1]at hj;rw[List.getD_eq_getElem?_getD,List.getElem?_eq_getElem hj2.1];simpa using hj
theorem aLI {w:World} {s:Int} {A:Option Addr} {k c:Nat} {n:Int} (H:dS w s A k c n):(((lbs n.natAbs).take 2).map (Value.int .u32)).length=Nat.min k 2:=by rw[H.len,List.length_map,List.length_take];exact Nat.min_comm _ _
theorem aLH (n:Nat):∀v ∈ ((lbs n).take 2).map (Value.int .u32),v.oneCell'=true:=by intro v hv;obtain⟨x,_,rfl⟩:=List.mem_map.mp hv;rfl
theorem aH2 {W:World} {g:Nat} {a b:Value} {t:TypeId} (h:Hid (W.heap[g]?=some (.cells #[a,b] t (0,0)))):
 W.cell? ⟨g,0,none⟩=some a/\W.cell? ⟨g,1,none⟩=some b:=by
 have:=h.out;constructor<;>simp[World.cell?,this]
theorem aLJ {s:Int} {A:Option Addr} {k c:Nat} {n:Int} (w:World) (H:dS w s A k c n):
 Calls Tryz.prog 133 #[.agg #[.int .i64 s,.slice A k c]] w fun e w'=>e = .returned (.tuple #[.agg #[.int .u32 ((lbs n.natAbs).getD 0 0),.int .u32 ((lbs n.natAbs).getD 1 0)],.bool (decide ((k:Int)<=2))])/\Below w.heap.size w w':=by
 have hb0:Below w.heap.size w ((((w.alloc (.cells #[.int .i64 s,.slice A k c] 71)).alloc (.cells #[.int .u32 0,.int .u32 0] 132)).alloc (.cells #[.int .u32 0,.int .u32 0] 132)).drew):=bN ((((Below.refl _ _).alloc (Nat.le_refl _) _).alloc (by simp) _).alloc (by simp;omega) _);have H1:=H.below hb0;have hn:=Lib.hid (aLI H);have hg0:((((w.alloc (.cells #[.int .i64 s,.slice A k c] 71)).alloc (.cells #[.int .u32 0,.int .u32 0] 132)).alloc (.cells #[.int .u32 0,.int .u32 0] 132)).drew).heap[w.heap.size+1+1]?=some (.cells #[.int .u32 0,.int .u32 0] 132):=by show(((w.alloc _).alloc _).alloc _).heap[w.heap.size+1+1]?=_;rw[show w.heap.size+1+1=((w.alloc (.cells #[.int .i64 s,.slice A k c] 71)).alloc (.cells #[.int .u32 0,.int .u32 0] 132)).heap.size from by simp];exact heap_alloc_new _ _
 obtain⟨x0,hx0⟩:∃x,(lbs n.natAbs).getD 0 0=x:=⟨_,rfl⟩;obtain⟨x1,hx1⟩:∃x,(lbs n.natAbs).getD 1 0=x:=⟨_,rfl⟩;rw[hx0,hx1];have HX0:=Lib.hid hx0;have HX1:=Lib.hid hx1;clear hx0 hx1;have hb1:=Lib.hid hb0;clear hb0;have HG:=Lib.hid hg0;clear hg0;go_enter Tryz.func133,Tryz.ntmps133
 go_wp2_with fail
 go_region_law (refine step_copy_splice rfl (.tmp 5) (.tmp 7) 69 69 rfl 121 Tryz.underlying69 (by kernel_rfl) (some ⟨w.heap.size+1+1,0,none⟩) A 2 2 k c rfl rfl (w.heap.size+1+1) 0 [.int .u32 0,.int .u32 0] 132 HG.out (((lbs n.natAbs).take 2).map (Value.int .u32)) hn.out (fun hp=>⟨rfl,aLG H1 hp⟩) (by simp;omega) (aLH _) (w.heap.size+1+1) _ (Below.refl _ _) (by omega) ?_;intro w4 hg4 hb4)
 rw[aIx,HX0.out,HX1.out]at hg4;obtain⟨c0,c1⟩:=aH2 hg4;have d1:=hb4.cell (p:=⟨w.heap.size,1,none⟩) (by simp;omega);have f1:=hb4.frozen (p:=⟨w.heap.size+1,0,none⟩) (by simp);have f2:=hb4.frozen (p:=⟨w.heap.size+1,1,none⟩) (by simp);have e1:=hb4.cell (p:=⟨w.heap.size+1,0,none⟩) (by simp);have e2:=hb4.cell (p:=⟨w.heap.size+1,1,none⟩) (by simp);simp[go_sem]at d1 f1 f2 e1 e2;go_wp2_with fail
 go_region_held3 (fun w'=>w'.cell? ⟨w.heap.size,1,none⟩=some (.slice A k c)/\w'.cell? ⟨w.heap.size+1+1,0,none⟩=some (.int .u32 x0)/\w'.cell? ⟨w.heap.size+1+1,1,none⟩=some (.int .u32 x1)) (go_keep) (first|fail)
 go_wp2
 have hA:(w4.setCell ⟨w.heap.size+1,0,none⟩ (.int .u32 x0)).cell? ⟨w.heap.size+1,0,none⟩=some (.int .u32 x0):=World.cell?_setCell_same _ _ _ e1
 have hB:((w4.setCell ⟨w.heap.size+1,0,none⟩ (.int .u32 x0)).setCell ⟨w.heap.size+1,1,none⟩ (.int .u32 x1)).cell? ⟨w.heap.size+1,1,none⟩=some (.int .u32 x1):=
  World.cell?_setCell_same _ _ _ ((World.cell?_setCell_other _ _ _ _ (by simp)).trans e2)
 exact bodyPost_ret (v:=.tuple #[.agg #[.int .u32 x0,.int .u32 x1],.bool (decide ((k:Int)<=2))]) (by simp[results,Tryz.results133,go_sem,hA,hB]) rfl
  ⟨rfl,bN (((hb1.out.trans (hb4.mono (by omega))).setCell (by simp) _).setCell (by simp) _)⟩
theorem aGg {s:Int} {A:Option Addr} {k c:Nat} {n:Int} (w:World) (x0 x1:Int) (b:Bool) (H:dS w s A k c n) (h0:(lbs n.natAbs).getD 0 0=x0) (h1:(lbs n.natAbs).getD 1 0=x1) (hb:decide ((k:Int)<=2)=b):
 Calls Tryz.prog 133 #[.agg #[.int .i64 s,.slice A k c]] w fun e w'=>e = .returned (.tuple #[.agg #[.int .u32 x0,.int .u32 x1],.bool b])/\Below w.heap.size w w':=by
 rw[<-h0,<-h1,<-hb];exact aLJ w H
theorem aC2 {s:Int} {A:Option Addr} {k c:Nat} {n:Int} (w:World) (H:dS w s A k c n) (hn:n.natAbs<1000000000):
 Calls Tryz.prog 87 #[.agg #[.int .i64 s,.slice A k c]] w fun e w'=>e = .returned (.tuple #[.int .i64 n,.bool true])/\Below w.heap.size w w':=by
 have hl:=aIp hn;have g0:(lbs n.natAbs).getD 0 0=(n.natAbs:Int):=by rw[hl];split<;>simp_all
 have g1:(lbs n.natAbs).getD 1 0=0:=by rw[hl];split<;>simp
 have hk:decide ((k:Int)<=2)=true:=by have:=H.len;rw[hl]at this;(have:k<=1:=by rw[this];split<;>simp);simp;omega
 have hs:s*(n.natAbs:Int)=n:=by rw[H.sign];exact aBy n
 obtain⟨m,hm⟩:∃m:Int,(n.natAbs:Int)=m:=⟨_,rfl⟩;rw[hm]at g0 hs;have hm0:0<=m:=by omega
 have hm1:m<1000000000:=by omega
 have hb0:Below w.heap.size w (w.alloc (.cells #[.int .i64 s,.slice A k c] 71)):=(Below.refl _ _).alloc (Nat.le_refl _) _;have H1:=H.below hb0;have G0:=Lib.hid g0;have G1:=Lib.hid g1;have HK:=Lib.hid hk;have HS:=Lib.hid hs;have HW:Hid (wrap64 (s*m)=n):=Lib.hid (by rw[hs];unfold wrap64;omega);have HB:=Lib.hid hb0;clear hl g0 g1 hk hs hm hb0;go_enter Tryz.func87,Tryz.ntmps87
 go_wp2_with (go_at_call 133;refine(aGg _ m 0 true H1 G0.out G1.out HK.out).mono ?_;rintro e w1 ⟨rfl,hb1⟩;obtain⟨d0,d1,d2⟩:=aCD hb1)
 go_wp2
 go_ret2
 exact⟨by simp only[Array.getD];rw[<-HW.out];rfl,(HB.out.trans (hb1.mono (by simp))).alloc (by omega) _⟩
theorem aK1 {n:Nat} (h:1000000000<=n) (hk:(lbs n).length<=2):(lbs n).getD 1 0≠0:=by
 have h2:(lbs n).length=2:=by rcases Nat.lt_or_ge (lbs n).length 2 with h3|h3;(·have:=(mO n 1).mp (by omega);simp at this;omega);·omega
 rw[aAh (by omega),aAh (by omega)]at h2⊢;simp only[List.getD_cons_succ,List.getD_cons_zero];have h3:=(mO n 2).mp hk;omega
theorem aFB {s:Int} {A:Option Addr} {k c:Nat} {n:Int} (w:World) (H:dS w s A k c n) (hn:1000000000<=n.natAbs):
 Calls Tryz.prog 87 #[.agg #[.int .i64 s,.slice A k c]] w fun e w'=>e = .returned (.tuple #[.int .i64 0,.bool false])/\Below w.heap.size w w':=by
 obtain⟨x0,g0⟩:∃x,(lbs n.natAbs).getD 0 0=x:=⟨_,rfl⟩;obtain⟨x1,g1⟩:∃x,(lbs n.natAbs).getD 1 0=x:=⟨_,rfl⟩;obtain⟨b,hk⟩:∃b,decide ((k:Int)<=2)=b:=⟨_,rfl⟩;have hx:b=true->(x1 == 0)=false/\(x1 != 0)=true:=by intro hb;subst hb;have:=aK1 hn (by rw[<-H.len];simp at hk;omega);rw[g1]at this;simp[this]
 have hb0:Below w.heap.size w (w.alloc (.cells #[.int .i64 s,.slice A k c] 71)):=(Below.refl _ _).alloc (Nat.le_refl _) _;have H1:=H.below hb0;have G0:=Lib.hid g0;have G1:=Lib.hid g1;have HK:=Lib.hid hk;have HB:=Lib.hid hb0;clear g0 g1 hk hb0;cases b with
 | true=>
  obtain⟨hx1,hx2⟩:=hx rfl;clear hx;(go_enter Tryz.func87,Tryz.ntmps87);(go_wp2_with (go_at_call 133;refine(aGg _ x0 x1 true H1 G0.out G1.out HK.out).mono ?_;rintro e w1 ⟨rfl,hb1⟩;obtain⟨d0,d1,d2⟩:=aCD hb1));go_wp2
  go_ret2
  exact⟨rfl,(HB.out.trans (hb1.mono (by simp))).alloc (by omega) _⟩
 | false=>
  clear hx;(go_enter Tryz.func87,Tryz.ntmps87);(go_wp2_with (go_at_call 133;refine(aGg _ x0 x1 false H1 G0.out G1.out HK.out).mono ?_;rintro e w1 ⟨rfl,hb1⟩;obtain⟨d0,d1,d2⟩:=aCD hb1));go_wp2
  go_ret2
  exact⟨rfl,(HB.out.trans (hb1.mono (by simp))).alloc (by omega) _⟩
def gV (a b:Int):Int:=if a<b then -1 else if b<a then 1 else 0
theorem aCe (x:Int) (w:World):Calls Tryz.prog 162 #[.int .i64 x] w fun e w'=>e = .returned (.bool false)/\w'=w:=by
 go_enter Tryz.func162,Tryz.ntmps162
 go_wp2
 go_ret
 exact⟨by simp,rfl⟩
theorem aCd (x:Int) (w:World):Calls Tryz.prog 163 #[.int .u32 x] w fun e w'=>e = .returned (.bool false)/\w'=w:=by
 go_enter Tryz.func163,Tryz.ntmps163
 go_wp2
 go_ret
 exact⟨by simp,rfl⟩
theorem aGo (x y:Int) (w:World):Calls Tryz.prog 138 #[.int .i64 x,.int .i64 y] w fun e w'=>e = .returned (.int .i64 (gV x y))/\w'=w:=by
 unfold gV;by_cases h1:x<y
 ·rw[if_pos h1];(go_enter Tryz.func138,Tryz.ntmps138);go_wp2_with (go_at_call 162;refine(aCe _ _).mono ?_;rintro e w' ⟨rfl,rfl⟩)
  go_ret
  exact⟨rfl,rfl⟩
 ·rw[if_neg h1];by_cases h2:y<x
  ·rw[if_pos h2];(go_enter Tryz.func138,Tryz.ntmps138);go_wp2_with (go_at_call 162;refine(aCe _ _).mono ?_;rintro e w' ⟨rfl,rfl⟩)
   go_ret
   exact⟨rfl,rfl⟩
  ·rw[if_neg h2];(go_enter Tryz.func138,Tryz.ntmps138);go_wp2_with (go_at_call 162;refine(aCe _ _).mono ?_;rintro e w' ⟨rfl,rfl⟩)
   go_ret
   exact⟨rfl,rfl⟩
theorem aGn (x y:Int) (w:World):Calls Tryz.prog 139 #[.int .u32 x,.int .u32 y] w fun e w'=>e = .returned (.int .i64 (gV x y))/\w'=w:=by
 unfold gV;by_cases h1:x<y
 ·rw[if_pos h1];(go_enter Tryz.func139,Tryz.ntmps139);go_wp2_with (go_at_call 163;refine(aCd _ _).mono ?_;rintro e w' ⟨rfl,rfl⟩)
  go_ret
  exact⟨rfl,rfl⟩
 ·rw[if_neg h1];by_cases h2:y<x
  ·rw[if_pos h2];(go_enter Tryz.func139,Tryz.ntmps139);go_wp2_with (go_at_call 163;refine(aCd _ _).mono ?_;rintro e w' ⟨rfl,rfl⟩)
   go_ret
   exact⟨rfl,rfl⟩
  ·rw[if_neg h2];(go_enter Tryz.func139,Tryz.ntmps139);go_wp2_with (go_at_call 163;refine(aCd _ _).mono ?_;rintro e w' ⟨rfl,rfl⟩)
   go_ret
   exact⟨rfl,rfl⟩
theorem aE0 (x y c:Int) (h:gV x y=c) (w:World):Calls Tryz.prog 139 #[.int .u32 x,.int .u32 y] w fun e w'=>e = .returned (.int .i64 c)/\w'=w:=by rw[<-h];exact aGn x y w
theorem aJn {a b:Nat} (ha:(lbs a).length<=2) (hb:(lbs b).length<=2) (h0:(lbs a).getD 0 0=(lbs b).getD 0 0) (h1:(lbs a).getD 1 0=(lbs b).getD 1 0):a=b:=by
 have e:∀n:Nat,(lbs n).length<=2->(n:Int)=(lbs n).getD 0 0+1000000000*(lbs n).getD 1 0:=by
  intro n hn;have h3:=wD n
  match h:lbs n,hn with
  | [],_=>rw[h]at h3;simp[Mw.lv]at h3⊢;omega
  | [x],_=>rw[h]at h3;simp[Mw.lv]at h3⊢;omega
  | [x,y],_=>rw[h]at h3;simp[Mw.lv]at h3⊢;omega
 have h2:=e a ha;have h3:=e b hb;rw[h0,h1]at h2;omega
theorem aMJ (d:Nat) (x0 x1 y0 y1:Int) (W:World):(Op.equalIn (d+1+1) 132 (.agg #[.int .u32 x0,.int .u32 x1]) (.agg #[.int .u32 y0,.int .u32 y1])).run Tryz.prog W = .ok (x0 == y0 && x1 == y1) W:=by
 have h:=Tryz.underlying132;have h1:∀(a b:Int) (W:World),(Op.equalIn (d+1) 121 (.int .u32 a) (.int .u32 b)).run Tryz.prog W = .ok (a == b) W:=fun a b W=>run_equalIn_int W d 121 _ _ a b Tryz.underlying121
 have hs:∀W,(sizeOf 121).run Tryz.prog W = .ok 1 W:=fun W=>by kernel_rfl
 have hp0:∀(a b:Int) W,(Go.part 121 #[.int .u32 a,.int .u32 b] 0).run Tryz.prog W = .ok (.int .u32 a) W:=fun a b W=>by kernel_rfl
 have hp1:∀(a b:Int) W,(Go.part 121 #[.int .u32 a,.int .u32 b] 1).run Tryz.prog W = .ok (.int .u32 b) W:=fun a b W=>by kernel_rfl
 conv=>lhs;unfold Op.equalIn
 simp[run_underlying h,Sem.run_bind,Result.andThen,hs,hp0,hp1,h1];rw[show List.range' 0 2=[0,1]from rfl];by_cases e0:x0=y0<;>by_cases e1:x1=y1<;>simp[List.forIn_cons,Sem.run_bind,Result.andThen,hp0,hp1,h1,e0,e1]
theorem aEy (a:Int):gV a a=0:=by unfold gV;simp
theorem aF8 {a b:Int} (h:a<b):gV a b = -1:=by unfold gV;rw[if_pos h]
theorem aF9 {a b:Int} (h:b<a):gV a b=1:=by unfold gV;rw[if_neg (by omega),if_pos h]
theorem vF (a b:Int):gV a b = -1/\a<b\/gV a b=0/\a=b\/gV a b=1/\b<a:=by
 unfold gV;by_cases h1:a<b;·rw[if_pos h1];exact .inl ⟨rfl,h1⟩
 ·rw[if_neg h1];by_cases h2:b<a;(·rw[if_pos h2];exact .inr (.inr ⟨rfl,h2⟩));·rw[if_neg h2];exact .inr (.inl ⟨rfl,by omega⟩)
theorem aIC {a b:List Int} (ha:Mw.inB 1000000000 a) (hb:Mw.inB 1000000000 b) {n:Nat} (hna:n<a.length) (hnb:n<b.length):
 gV (Mw.lv 1000000000 (a.take (n+1))) (Mw.lv 1000000000 (b.take (n+1)))=if gV (a.getD n 0) (b.getD n 0)=0 then gV (Mw.lv 1000000000 (a.take n)) (Mw.lv 1000000000 (b.take n))else gV (a.getD n 0) (b.getD n 0):=by
 rw[Mw.iB a n hna,Mw.iB b n hnb];have hla:(a.take n).length=n:=by simp;omega
 have hlb:(b.take n).length=n:=by simp;omega
 rcases vF (a.getD n 0) (b.getD n 0)with⟨e,h⟩|⟨e,h⟩|⟨e,h⟩;·rw[e,if_neg (by omega)];exact aF8 (Mw.yN (c:=[]) (by omega) (Mw.kG ha n) (Mw.kG hb n) (by omega) h)
 ·rw[e,if_pos rfl,h,Mw.lC,Mw.lC,hla,hlb];unfold gV;simp only[Int.add_lt_add_iff_right]
 ·rw[e,if_neg (by omega)];exact aF9 (Mw.yN (c:=[]) (by omega) (Mw.kG hb n) (Mw.kG ha n) (by omega) h)
theorem aLO {n m:Nat} (h:(lbs n).length≠(lbs m).length):gV (lbs n).length (lbs m).length=gV n m:=by
 rcases Nat.lt_or_ge (lbs n).length (lbs m).length with h1|h1;·have:=Mw.yT (by omega) (yP n) (yP m) (aBE m) h1;rw[wD,wD]at this;rw[aF8 (by omega),aF8 this]
 ·have:=Mw.yT (by omega) (yP m) (yP n) (aBE n) (by omega);rw[wD,wD]at this;rw[aF9 (by omega),aF9 this]
theorem xS {s s':Int} {A A':Option Addr} {k c k' c':Nat} {n m:Int} (w:World) (H:dS w s A k c n) (H':dS w s' A' k' c' m):
 Calls Tryz.prog 102 #[.agg #[.int .i64 s,.slice A k c],.agg #[.int .i64 s',.slice A' k' c']] w fun e w'=>e = .returned (.int .i64 (gV n.natAbs m.natAbs))/\Below w.heap.size w w':=by
 obtain⟨x0,g0⟩:∃x,(lbs n.natAbs).getD 0 0=x:=⟨_,rfl⟩;obtain⟨x1,g1⟩:∃x,(lbs n.natAbs).getD 1 0=x:=⟨_,rfl⟩;obtain⟨y0,g2⟩:∃x,(lbs m.natAbs).getD 0 0=x:=⟨_,rfl⟩;obtain⟨y1,g3⟩:∃x,(lbs m.natAbs).getD 1 0=x:=⟨_,rfl⟩;obtain⟨ba,hka⟩:∃b,decide ((k:Int)<=2)=b:=⟨_,rfl⟩;obtain⟨bb,hkb⟩:∃b,decide ((k':Int)<=2)=b:=⟨_,rfl⟩;obtain⟨be,hbe⟩:∃b,(x0 == y0 && x1 == y1)=b:=⟨_,rfl⟩;obtain⟨r,hr⟩:∃r,gV n.natAbs m.natAbs=r:=⟨_,rfl⟩;have heq:(ba && bb && be)=true->r=0:=by intro h;simp at h;obtain⟨⟨rfl,rfl⟩,rfl⟩:=h;simp at hbe;obtain⟨rfl,rfl⟩:=hbe;have:=aJn (a:=n.natAbs) (b:=m.natAbs) (by rw[<-H.len];simp at hka;omega) (by rw[<-H'.len];simp at hkb;omega) (g0.trans g2.symm) (g1.trans g3.symm);rw[<-hr,this];exact aEy _
 rw[hr];have HE:∀W,(Op.equalIn 10000 132 (.agg #[.int .u32 x0,.int .u32 x1]) (.agg #[.int .u32 y0,.int .u32 y1])).run Tryz.prog W = .ok be W:=fun W=>by rw[<-hbe];exact aMJ 9998 x0 x1 y0 y1 W
 have hb0:Below w.heap.size w ((w.alloc (.cells #[.int .i64 s,.slice A k c] 71)).alloc (.cells #[.int .i64 s',.slice A' k' c'] 71)):=((Below.refl _ _).alloc (Nat.le_refl _) _).alloc (by simp) _;have H1:=H.below hb0;have H1':=H'.below hb0;have G0:=Lib.hid g0;have G1:=Lib.hid g1;have G2:=Lib.hid g2;have G3:=Lib.hid g3;have HKA:=Lib.hid hka;have HKB:=Lib.hid hkb;have HB:=Lib.hid hb0;have HR:=Lib.hid hr;have HQ:=Lib.hid heq;clear g0 g1 g2 g3 hka hkb hb0 hbe hr heq;go_enter Tryz.func102,Tryz.ntmps102
 go_upto_if 17 with(first|(go_at_call 133;(with_reducible refine(aGg _ x0 x1 ba H1 G0.out G1.out HKA.out).mono ?_);rintro e w1 ⟨rfl,hb1⟩;obtain⟨d0,d1,d2,d3,d4,d5⟩:=aFe hb1))
 go_cut [] (fun wc=>Hid (Below w.heap.size w wc)/\wc.cell? ⟨w.heap.size,0,none⟩=some (.int .i64 s)/\wc.cell? ⟨w.heap.size,1,none⟩=some (.slice A k c)/\wc.cell? ⟨w.heap.size+1,0,none⟩=some (.int .i64 s')/\wc.cell? ⟨w.heap.size+1,1,none⟩=some (.slice A' k' c'))
 case first=>as_aux_lemma=>
  cases ba with
  | false=>
   clear HE;go_wp2_with fail
   go_meet
   case rel=>exact⟨Lib.hid ((HB.out.trans (hb1.mono (by simp;omega))).alloc (by omega) _),nO _ d0,nO _ d1,nO _ d2,nO _ d3⟩
  | true=>
   have H2':=(H1'.below hb1).below ((Below.refl _ _).alloc (Nat.le_refl _) (.cells #[.int .u32 x0,.int .u32 x1] 132));(go_wp2_with fail);refine(aGg _ y0 y1 bb H2' G2.out G3.out HKB.out).mono ?_;rintro e w2 ⟨rfl,hb2⟩;have f0:=kca hb2 d0;have f1:=kca hb2 d1;have f2:=kca hb2 d2;have f3:=kca hb2 d3;obtain⟨k0,k1,k2⟩:=aCD hb2;have HBW:=Lib.hid (((HB.out.trans (hb1.mono (by simp;omega))).alloc (by omega) (.cells #[.int .u32 x0,.int .u32 x1] 132) |>.trans (hb2.mono (by simp;omega))).alloc (by omega) (.cells #[.int .u32 y0,.int .u32 y1] 132));cases bb with
   | false=>
    clear HE;go_wp2_with fail
    go_meet
    case rel=>exact⟨HBW,nO _ f0,nO _ f1,nO _ f2,nO _ f3⟩
   | true=>
    cases be with
    | false=>
     go_wp2_with fail
     go_meet
     case rel=>exact⟨HBW,nO _ f0,nO _ f1,nO _ f2,nO _ f3⟩
    | true=>
     have HZ:=Lib.hid (HQ.out rfl);go_wp2_with fail
     go_ret
     exact⟨by rw[HZ.out];rfl,HBW.out⟩
 case rest=>
  obtain⟨HBW,f0,f1,f2,f3⟩:=hcut;clear HE H1 H1' HQ;have H3:=H.below HBW.out;have H3':=H'.below HBW.out;by_cases hl:k=k'
  ·subst hl;have HST:Hid (gV (Mw.lv 1000000000 ((lbs n.natAbs).take (k-0))) (Mw.lv 1000000000 ((lbs m.natAbs).take (k-0)))=r):=Lib.hid (by rw[Nat.sub_zero,List.take_of_length_le (by rw[H.len];exact Nat.le_refl _),List.take_of_length_le (by rw[H'.len];exact Nat.le_refl _),wD,wD];exact HR.out);go_wp2_with fail
   go_loopw [46] (fun v wr=>∃j:Nat,j<=k/\v = .int .i64 j/\Hid (Below w.heap.size w wr)/\wr.cell? ⟨w.heap.size,0,none⟩=some (.int .i64 s)/\wr.cell? ⟨w.heap.size,1,none⟩=some (.slice A k c)/\wr.cell? ⟨w.heap.size+1,0,none⟩=some (.int .i64 s')/\wr.cell? ⟨w.heap.size+1,1,none⟩=some (.slice A' k c')/\Hid (gV (Mw.lv 1000000000 ((lbs n.natAbs).take (k-j))) (Mw.lv 1000000000 ((lbs m.natAbs).take (k-j)))=r)) (fun v _=>k-(intOf v).toNat)
   case atStart=>exact⟨0,by omega,rfl,HBW,f0,f1,f2,f3,HST⟩
   case round=>as_aux_lemma=>
    clear f0 f1 f2 f3 H3 H3' HBW;obtain⟨j,hj,rfl,HBW,f0,f1,f2,f3,HC⟩:=hrel;have H3:=H.below HBW.out;have H3':=H'.below HBW.out;by_cases hlt:j<k
    ·as_aux_lemma=>
      obtain⟨ad,hA,hc1⟩:=H3.cell (i:=k-1-j) (by omega);obtain⟨ad',hA',hc2⟩:=H3'.cell (i:=k-1-j) (by omega);have hst:=aIC (yP n.natAbs) (yP m.natAbs) (n:=k-1-j) (by have:=H.len;omega) (by have:=H'.len;omega);obtain⟨xi,hxi⟩:∃x,(lbs n.natAbs).getD (k-1-j) 0=x:=⟨_,rfl⟩;obtain⟨yi,hyi⟩:∃x,(lbs m.natAbs).getD (k-1-j) 0=x:=⟨_,rfl⟩;obtain⟨ci,hci⟩:∃x,gV xi yi=x:=⟨_,rfl⟩;rw[hxi,hyi,hci,show k-1-j+1=k-j by omega,HC.out]at hst;obtain⟨i,hi⟩:∃i,k-1-j=i:=⟨_,rfl⟩;rw[hxi,hi]at hc1;rw[hyi,hi]at hc2;(have hik:(i:Int)<k:=by omega);have hj1:j+1<=k:=hlt;have hkj:=Lib.hid (show k-(j+1)=k-1-j by omega);(have hme:k-(j+1)<k-j:=by omega);(have hlt':(j:Int)<k:=by omega);have hmx:=H.reads.2.1;have hw1:wrap64 (wrap64 ((k:Int)-1)-j)=i:=aHQ hi hlt hmx;have hw2:wrap64 ((j:Int)+1)=(j:Int)+1:=aKR hlt hmx;subst hA hA';have HS:=Lib.hid hst;have HCI:=Lib.hid hci;have HI:=Lib.hid hi;clear hst hxi hyi hci hi hmx;(go_wp2_with fail);rw[hw1];(go_quiet ((go_at_call 139;exact Calls.quiet_of_same (aE0 _ _ _ HCI.out _))));have hbq:=Lib.hid (bI HBW.out nq);by_cases hz:ci=0
      ·as_aux_lemma=>
        (have hz2:(ci != 0)=false:=by simp[hz]);have HZ:=Lib.hid hz;clear hz;go_wp2
        go_roundw
        (case rel=>exact⟨j+1,hj1,by rw[hw2];rfl,hbq,f0,f1,f2,f3,Lib.hid (by have h:=HS.out;rw[if_pos HZ.out]at h;rw[hkj.out];exact h.symm)⟩);case measure=>rw[hw2];exact hme
      ·as_aux_lemma=>
        (have hz2:(ci != 0)=true:=by simp[hz]);have HZ:=Lib.hid hz;clear hz;go_wp2
        go_ret
        exact⟨by have h:=HS.out;rw[if_neg HZ.out]at h;rw[h];rfl,hbq.out⟩
    ·as_aux_lemma=>
      (obtain rfl:j=k:=by omega);have HZ:Hid (r=0):=Lib.hid (by have h:=HC.out;rw[Nat.sub_self]at h;rw[<-h];exact aEy _);clear HC;go_wp2
      go_ret
      exact⟨by rw[HZ.out];rfl,HBW.out⟩
  ·as_aux_lemma=>
    have HRL:Hid (gV (k:Int) (k':Int)=r):=Lib.hid (by rw[H.len,H'.len,aLO (by rw[<-H.len,<-H'.len];exact hl)];exact HR.out);(have hne:((k:Int) != (k':Int))=true:=by rw[bne_iff_ne];omega);go_wp2_with (go_at_call 138;refine(aGo _ _ _).mono ?_;rintro e w' ⟨rfl,rfl⟩)
    go_ret
    exact⟨by rw[HRL.out];rfl,HBW.out⟩
end Go.Proofs.YtjieekkkaekclaaGreatDoor
