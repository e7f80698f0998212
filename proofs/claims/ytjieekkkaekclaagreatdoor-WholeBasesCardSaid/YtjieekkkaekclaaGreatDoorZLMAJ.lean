/- Proved: WholeBases. Conditions: none beyond the statement's own. -/
import Derived.Test.YtjieekkkaekclaaGreatDoorCards
import Derived.Test.YtjieekkkaekclaaGreatDoorTie
import Derived.Test.YtjieekkkaekclaaGreatDoorZBAT
import Derived.Test.YtjieekkkaekclaaGreatDoorZBAY
import Derived.Test.YtjieekkkaekclaaGreatDoorZLMAF
import Derived.Test.YtjieekkkaekclaaGreatDoorZLMAG
import Derived.Test.YtjieekkkaekclaaGreatDoorZLMAH
import Derived.Test.YtjieekkkaekclaaGreatDoorZLMAI
import Derived.Below
import Derived.ChangeOld
import Derived.OpenShut
import Derived.ProofKit
import Derived.ShutString
import Derived.SizedLaws
import Derived.WalkKit
set_option linter.all false
set_option linter.unusedVariables false
set_option linter.unusedSimpArgs false
set_option maxHeartbeats 32000000
set_option maxRecDepth 100000
namespace Go.Proofs.YtjieekkkaekclaaGreatDoor
open Go Go.RowKit Go.Pw.PrintWords Go.Proofs.YtjieekkkaekclaaGreatDoor.PR
set_option exponentiation.threshold 2000 in
theorem aHS (a:List UInt8) (b:Int) (ha:a.length<=160):(Mw.vQ a b).1.length<=700:=by
 unfold Mw.vQ;by_cases ht:Mw.iP a=0;·obtain⟨x,e1,e2,e3,z⟩:=lX ht;rw[if_pos ht,e2];split;(·simp);·split;(·simp);·have hx:x.natAbs<10^160:=(Mw.iZ _ _ (by omega)).mp (by have:=vJ x;rw[e3]at ha;omega);(have hk:x.natAbs<2^640:=by refine Nat.lt_of_lt_of_le hx ?_;rw[show(640:Nat)=4*160 from rfl,Nat.pow_mul];exact Nat.pow_le_pow_left (by omega) _);(have hl:(Mw.sF b.toNat x.natAbs).length<=640:=by rw[Mw.sF,List.length_reverse];exact Mw.aBP (by omega) 640 _ hk);unfold Mw.zD;split;(·simp);·split;(·simp only[List.length_cons];omega);·dsimp only;omega
 ·rw[if_neg ht];simp
theorem aKv (b1 b2 b3:Int) (xs:List ByteArray) (ns:List Int) (i:Nat) (g3:i<ns.length) (hi:ns.length<=1000) (ts:List ByteArray) (hl:ts.length<=1000) (hg:∀j,j<ts.length->(ts.getD j ByteArray.empty).size<=1500)
 (r:EvP (fun k=>bC.l0 k b1 b2 b3 xs ns ((i+1:Nat):Int)) true):
 ∀(d j:Nat),j+d=ts.length->EvP (fun k=>bC.l1 k b1 b2 b3 xs ns (i:Int) ts (j:Int)) true:=by
 intro d;induction d with
 | zero=>intro j hj;refine EvP.step (fun k=>?_) r;simp only[bC.l1];rw[if_neg (by omega),show wrap64 ((i:Int)+1)=((i+1:Nat):Int)from eT (by omega) (by omega)]
 | succ d ih=>intro j hj;have wi:wrap64 ((j:Int)+1)=((j+1:Nat):Int):=eT (by omega) (by omega);(have k1:(j:Int)<(ts.length:Int):=by clear wi;omega);(have k2:(0:Int)<=(j:Int):=by clear wi;omega);(have k3:(i:Int)<(ns.length:Int):=by clear wi;omega);(have k4:(0:Int)<=(i:Int):=by clear wi;omega);have q1:=hg j (by clear wi;omega);obtain⟨a,ea⟩:∃a,ts.getD j ByteArray.empty=Mw.B a:=⟨_,(aAM _).symm⟩;obtain⟨n,en⟩:∃n,rd ns (i:Int)=n:=⟨_,rfl⟩;rw[ea,eH]at q1;(have sa:(Mw.B a).size<=100000:=by rw[eH];clear wi;omega);have f1:=aLF a (by clear wi;omega) n;(have w1:gY.f (Mw.B a) n=some (Mw.B (Mw.vH a n).1,(Mw.vH a n).2):=by unfold gY.f;rw[if_pos sa,nQ];rfl);generalize Mw.vH a n=p1 at *;refine EvP.step (f:=fun k=>(dA.f k (Mw.B a) n).bind fun u=>(if(Mw.B p1.1).toList=u.1.toList then(if p1.2=u.2 then(bC.l1 k b1 b2 b3 xs ns (i:Int) ts ((j+1:Nat):Int))else(some false))else(some false))) (fun k=>?_) ?_;(·simp only[bC.l1];rw[if_pos k1,if_pos k2,if_pos k4,if_pos k3,nS,ea,en,w1,wi];rfl);·clear wi;exact EvP.bind f1 (EvP.fM rfl (EvP.fM rfl (ih (j+1) (by omega))))
theorem aKw (b1 b2 b3:Int) (xs:List ByteArray) (ns:List Int) (h1:xs.length=ns.length) (hn:xs.length<=1000) (hg:∀i,i<xs.length->(xs.getD i ByteArray.empty).size<=160):
 ∀(d i:Nat),i+d=xs.length->EvP (fun k=>bC.l0 k b1 b2 b3 xs ns i) true:=by
 intro d;induction d with
 | zero=>intro i hi;refine EvP.step (f:=fun _=>some true) (fun k=>?_) (EvP.now _);simp only[bC.l0];rw[if_neg (by omega),jS];rfl
 | succ d ih=>
  intro i hi;(have g1:(i:Int)<(xs.length:Int):=by omega);(have g2:(0:Int)<=(i:Int):=by omega);(have g3:(i:Int)<(ns.length:Int):=by omega);have q1:=hg i (by omega);obtain⟨a,ea⟩:∃a,xs.getD i ByteArray.empty=Mw.B a:=⟨_,(aAM _).symm⟩;obtain⟨n,en⟩:∃n,rd ns (i:Int)=n:=⟨_,rfl⟩;rw[ea,eH]at q1;(have sa:(Mw.B a).size<=100000:=by rw[eH];omega);have f1:=aLV a (by omega) n;(have w1:gI.f (Mw.B a) n=some (Mw.B (Mw.vQ a n).1,(Mw.vQ a n).2):=by unfold gI.f;rw[if_pos sa,nQ];rfl);have hl:=aHS a n q1;generalize Mw.vQ a n=p1 at *;obtain⟨x,ex,hx⟩:=aC1 (Mw.B p1.1) b1 b2 b3 (by rw[eH];omega);rw[eH]at hx;have inner:=aKv b1 b2 b3 xs ns i (by omega) (by omega) [Mw.B a,Mw.B p1.1,x] (by simp only[List.length_cons,List.length_nil];omega) (fun j hj=>by simp only[List.length_cons,List.length_nil]at hj;rcases(show j=0\/j=1\/j=2 by omega)with rfl|rfl|rfl;(·show(Mw.B a).size<=1500;rw[eH];omega);(·show(Mw.B p1.1).size<=1500;rw[eH];omega);·show x.size<=1500;omega) (ih (i+1) (by omega)) 3 0 rfl;(have j1:EvP (fun k=>bC.j1 k b1 b2 b3 xs ns (i:Int) (Mw.B p1.1) false) true:=by refine EvP.step (f:=fun k=>(bS.f k (Mw.B p1.1) b1 b2 b3).bind fun t=>bC.l1 k b1 b2 b3 xs ns (i:Int) [Mw.B a,Mw.B p1.1,t] ((0:Nat):Int)) (fun k=>?_) (EvP.bind ex inner);simp only[bC.j1];rw[if_neg (by simp),if_pos g2,if_pos g1,nS,ea];rfl);refine EvP.step (f:=fun k=>(mE.f k (Mw.B a) n).bind fun u=>(if(Mw.B p1.1).toList=u.1.toList then(bC.j1 k b1 b2 b3 xs ns (i:Int) u.1 (p1.2 != u.2))else(bC.j1 k b1 b2 b3 xs ns (i:Int) u.1 true))) (fun k=>?_) ?_
  (·simp only[bC.l0];rw[if_pos g1,if_pos g2,if_pos g3,nS,ea,en,w1];rfl);·refine EvP.bind f1 (EvP.fM rfl ?_);dsimp only;rw[bne_self_eq_false];exact j1
theorem aHj (a0:ByteArray) (n b1 b2 b3:Int) (l:List Int):∃k,bC.f k a0 n b1 b2 b3 l=some true:=by
 refine EvP.rounds (g:=fun k=>bC.f k a0 n b1 b2 b3 l) ?_;unfold bC.f;by_cases h0:(a0.size:Int)>150;·refine EvP.fM h0 ?_;rw[jS];exact EvP.now _
 ·refine EvP.jC h0 ?_;(have nx:∀{b a:Int},At b a->At (b+1) (a+1):=fun h=>⟨by have:=h.1;omega,by have:=h.2;omega⟩);obtain⟨n1,p1,s1,e1,z1,A1⟩:=kL l 0 7640891576956012809 30 (b:=0) ⟨by omega,by omega⟩ (by omega) (by omega);obtain⟨m1,t1,q1,_,_,_⟩:=zU l p1 s1 2 36 A1 (by omega) (by omega) (by omega) (by omega) (by omega);obtain⟨m2,t2,q2,_,_,_⟩:=zU l (p1+1) t1 2 36 (nx A1) (by omega) (by omega) (by omega) (by omega) (by omega);have c1:=nP (z1.mono (show _<=40 from by decide)) (by omega);rw[show fT.f l=some (l,0,7640891576956012809)from rfl];refine EvP.bind (EvP.now _) (EvP.bind e1 ?_);dsimp only;rw[q1];refine EvP.bind (EvP.now _) ?_;dsimp only;rw[q2];refine EvP.bind (EvP.now _) (aKw b1 b2 b3 [a0,Mw.T n1,a0] [n,m1,m2] rfl (by simp only[List.length_cons,List.length_nil];omega) (fun i hi=>?_) 3 0 rfl);simp only[List.length_cons,List.length_nil]at hi;rcases(show i=0\/i=1\/i=2 by omega)with rfl|rfl|rfl;(·show a0.size<=160;omega);(·show(Mw.T n1).size<=160;omega);·show a0.size<=160;omega
theorem aHk:bC.Pure:=fun a0 n b1 b2 b3 l _ _ _ _ _ _ _ _=>aHj a0 n b1 b2 b3 l
end Go.Proofs.YtjieekkkaekclaaGreatDoor
namespace Go.Proofs.YtjieekkkaekclaaGreatDoor.sK
open Go Go.ChangeShapes Go.WideShapes Go.ChangeAt Go.RowKit
open Go.ChangeMaps (open_string shut_string)
theorem laidOut:laidOutB Tryz.prog=true:=by kernel_rfl
def uF (k:IntKind) (w:World) (a:Option Addr) (len cap:Nat) (zs:List Int):Prop:=
 (a=none/\len=0/\cap=0/\zs=[])\/
 ∃x,a=some x/\len<=cap/\cap<=maxLen/\zs.length=cap/\(∀i,i<zs.length->w.cell? (x.add i)=some (.int k (zs.getD i 0)))/\∀n ∈ zs,(Lit.int k n).wf=true
theorem mP (os:Os) (args:Array Value):laidMetH Tryz.prog Rows.wholeBasesRow.laid ((World.doorLaid Tryz.prog 69 os).forCall (fun _ _=>0) ⟨#[],args,[]⟩).memory:=
 laidMetH_of_parts3 (fuel:=8) (laidMet_of_run' 8 (by kernel_rfl) (by kernel_rfl)) (by kernel_rfl) (by kernel_rfl)
theorem lifted (os:Os) (started:os.Started) (H:Type) (enc:TypeId×Value->H):
 ReturnsInHanded {} Tryz.checked os 15 .any (fun w args=>(Rows.wholeBasesSpec.pre enc Tryz.prog Tryz.f15 [] false w args/\laidMetH Tryz.prog Rows.wholeBasesRow.laid w)/\sizedMet enc Tryz.prog Tryz.f15 (OpenSpec.ofChange Rows.wholeBasesSpec) false w args) (Rows.wholeBasesSpec.post enc Tryz.prog Tryz.f15 false true false false):=by
 refine returnsInHanded_of_change_and (C:=Tryz.checked) (X:=fun w _=>laidMetH Tryz.prog Rows.wholeBasesRow.laid w) (fun _ _ _ hh h=>h.of_heap hh) sU started (by kernel_rfl) Tryz.func15 ?witness ?_;case witness=>exact ChangeSpec.witness_shaped (enc:=enc) (C:=Tryz.checked) (os:=os) (X:=fun w _=>laidMetH Tryz.prog Rows.wholeBasesRow.laid w) false (World.doorLaid Tryz.prog 69 os) #[.string ByteArray.empty,.int .i64 0,.int .i64 0,.int .i64 0,.int .u8 0,.slice none 0 0] 8 rfl (World.shaped_of_RefB (by kernel_rfl) (by kernel_rfl)) (by kernel_rfl) (by kernel_rfl) (by kernel_rfl) (mP os _)
 intro W base args ds gs before hval0 hW hcnd hsz0 hL _;have hsz:(DataW.weightsEach Tryz.prog (Tryz.f15.params.toList++Rows.wholeBasesSpec.plain.varTypes Tryz.prog) (ds++gs)).all (·<=reachBytes)=true:=hsz0;have hval:∀(j:Nat) t v,Tryz.f15.params[j]?=some t->args[j]?=some v->Value.okWide Tryz.prog W .any base t v:=hval0;have hW':=hW;obtain⟨p,q,hA0,hV,rfl,hfz,hnd⟩:=hW;have hA:DataW.TrodAll enc Tryz.prog W 0 (fun _=>true) true Tryz.f15.params.toList args.toList ds p:=hA0;rw[Tryz.params15]at hA hval hsz;obtain⟨v0,vs0,d0,ds0,p0,q0,hargs,rfl,rfl,h0,r0⟩:=trodAll_cons hA;obtain⟨v1,vs1,d1,ds1,p1,q1,rfl,rfl,rfl,h1,r1⟩:=trodAll_cons r0;obtain⟨v2,vs2,d2,ds2,p2,q2,rfl,rfl,rfl,h2,r2⟩:=trodAll_cons r1;obtain⟨v3,vs3,d3,ds3,p3,q3,rfl,rfl,rfl,h3,r3⟩:=trodAll_cons r2;obtain⟨v4,vs4,d4,ds4,p4,q4,rfl,rfl,rfl,h4,r4⟩:=trodAll_cons r3;obtain⟨v5,vs5,d5,ds5,p5,q5,rfl,rfl,rfl,h5,r5⟩:=trodAll_cons r4;obtain⟨rfl,rfl,rfl⟩:=trodAll_nil r5;obtain rfl:args=#[v0,v1,v2,v3,v4,v5]:=by cases args;simp_all
 obtain⟨rfl,rfl⟩:=trodVars_none hV;obtain⟨a0,rfl,rfl,rfl,y0⟩:=open_string Tryz.underlying9 (hval 0 9 v0 rfl rfl) h0;have w0:a0.size<=140737488351232:=by have z:=sized_string hsz (j:=0) (t:=9) rfl rfl;rw[Array.length_toList]at z;exact z
 obtain⟨a1,rfl,rfl,rfl,w1⟩:=open_int Tryz.underlying3 (hval 1 3 v1 rfl rfl) h1;obtain⟨a2,rfl,rfl,rfl,w2⟩:=open_int Tryz.underlying3 (hval 2 3 v2 rfl rfl) h2;obtain⟨a3,rfl,rfl,rfl,w3⟩:=open_int Tryz.underlying3 (hval 3 3 v3 rfl rfl) h3;obtain⟨a4,rfl,rfl,rfl,w4⟩:=open_int Tryz.underlying5 (hval 4 5 v4 rfl rfl) h4;obtain⟨a5,len5,cap5,rfl⟩:=okWide_slice Tryz.underlying22 (hval 5 22 v5 rfl rfl);have k5:=h5;have lt5:∀x ∈ p5,x.block<W.heap.size:=by obtain⟨m,hm⟩:=k5;exact DataW.trod_lt m _ _ _ hm
 obtain⟨z5,w5⟩:∃zs,uF .i64 W a5 len5 cap5 zs:=by obtain⟨fuel,hf⟩:=h5;rcases open_ints Tryz.underlying22 Tryz.underlying3 (by kernel_rfl) hf with⟨hcs,_⟩|⟨x,l,c,zs,hcs,_,hl,hm,hz,_,hcell,hwz⟩;(·simp[Value.cells]at hcs;obtain⟨rfl,rfl,rfl⟩:=hcs;exact⟨[],.inl ⟨rfl,rfl,rfl,rfl⟩⟩);·simp[Value.cells]at hcs;obtain⟨rfl,rfl,rfl⟩:=hcs;exact⟨zs,.inr ⟨_,rfl,hl,hm,by simpa using hz,hcell,hwz⟩⟩
 have y5:len5*8<=140737488351232:=Go.Pw.PrintWords.pW hsz (j:=5) (t:=22) rfl rfl Tryz.underlying22 Tryz.underlying3 (by kernel_rfl) (by kernel_rfl) h5;clear hA0 hval0 hsz0 hsz;refine(PR.bC.walk aHk a0 a1 a2 a3 a4 a5 len5 cap5 z5 W ⟨oJ hL,oI hL⟩ w0 w1 w2 w3 w4 w5 y5).mono fun e W' ⟨he,bel⟩=>?_
 subst he;exact⟨_,rfl,_,_,_,[],_,[],hW',trodAll_mk1 (shut_bool Tryz.underlying4 _),(trodAll_cons_mk (shut_string Tryz.underlying9 y0) (trodAll_cons_mk (shut_int Tryz.underlying3 w1) (trodAll_cons_mk (shut_int Tryz.underlying3 w2) (trodAll_cons_mk (shut_int Tryz.underlying3 w3) (trodAll_cons_mk (shut_int Tryz.underlying5 w4) (trodAll_cons_mk (Below.trod laidOut (by kernel_rfl) (of_decide_eq_true (by kernel_rfl)) k5 bel lt5) trodAll_mk0)))))),rfl,bel.frame _,fun h=>by cases h⟩
theorem leaving (os:Os) (started:os.Started) (H:Type) (enc:TypeId×Value->H):
 ReturnsInLeavingWide {} Tryz.checked os 15 .any (fun w args=>(Rows.wholeBasesSpec.pre enc Tryz.prog Tryz.f15 [] false w args/\laidMetH Tryz.prog Rows.wholeBasesRow.laid w)/\sizedMet enc Tryz.prog Tryz.f15 (OpenSpec.ofChange Rows.wholeBasesSpec) false w args) (Rows.wholeBasesSpec.post enc Tryz.prog Tryz.f15 false true false false):=fun enter=>
 ReturnsInOpen.mono (fun _ _ _ h=>⟨h.2.1,mU h.1,h.2.2⟩) (fun _ x=>x) (lifted os started H enc enter)
theorem closed:joinedFacts Tryz.pinned.checked.prog 15 Tryz.f15 Rows.wholeBasesSpec Rows.wholeBasesRow=true:=by
 unfold joinedFacts;simp only[Bool.and_eq_true]
 repeat' apply And.intro
 all_goals (as_aux_lemma=>kernel_rfl)
theorem named:Tryz.pinned.checked.prog.funcNamed Rows.wholeBasesRow.func=some 15:=by kernel_rfl
theorem inst:Tryz.f15.isInstance Tryz.pinned.checked.prog Rows.wholeBasesRow.origin Rows.wholeBasesRow.targs:=of_decide_eq_true (by kernel_rfl)
theorem wrap:Tryz.f15.isWrapper Tryz.pinned.checked.prog Rows.wholeBasesRow.wrapper Rows.wholeBasesRow.mainSum:=by unfold Func.isWrapper;first|(rw[if_pos (by decide +kernel)];kernel_rfl)|(rw[if_neg (by decide +kernel)];exact⟨rfl,rfl⟩)
theorem proved:Rows.WholeBasesSaid:=
 OpenClaim.holds_of_wide_leaving 15 Tryz.f15 rfl rfl rfl rfl rfl rfl rfl ⟨rfl,rfl,rfl,rfl,rfl⟩ rfl rfl rfl rfl rfl named Tryz.func15 closed inst wrap
  (fun os started H enc _=>leaving os started H enc)
end Go.Proofs.YtjieekkkaekclaaGreatDoor.sK
namespace Go.Proofs.YtjieekkkaekclaaGreatDoor
open Go
theorem sK.goes:true=Rows.wholeBasesRow.goesBy Tryz.pinned.checked.prog:=by kernel_rfl
theorem sK.wf:Rows.wholeBasesRow.wfByText (OpenSpec.ofChange Rows.wholeBasesSpec)=true:=by kernel_rfl
theorem sK.stand:∀t ∈ Tryz.f15.params,Tryz.pinned.checked.prog.wantsStandIn t=false:=by
 have h:(Tryz.f15.params.toList.all fun t=>!Tryz.pinned.checked.prog.wantsStandIn t)=true:=by kernel_rfl
 intro t ht;have:=List.all_eq_true.mp h t (Array.mem_toList_iff.mpr ht);simpa using this
theorem wholeBases_card_holds:Rows.WholeBasesCardSaid:=
 Claim7.lF .later [.data,.data,.data,.handle,.sentinel,.sentinel] true (true,"94bbee997c0a39bb4bce0e5287243f0f552a32c829e9b04cf75d7dfa1f5bfa40") true true
  sK.proved sK.wf wholeBases_row_tie rfl ⟨rfl,rfl⟩ qR rfl
  (fun f fn hf hfn=>by obtain rfl:f=15:=Option.some.inj (hf.symm.trans sK.named);obtain rfl:fn=Tryz.f15:=(Option.some.inj (Tryz.func15.symm.trans hfn)).symm;exact⟨pY,fun j t ht=>sK.stand t (Array.mem_of_getElem? ht)⟩)
  sK.goes
end Go.Proofs.YtjieekkkaekclaaGreatDoor
