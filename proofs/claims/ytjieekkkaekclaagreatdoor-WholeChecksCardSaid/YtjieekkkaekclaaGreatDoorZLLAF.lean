/- Proved: WholeChecks. Conditions: none beyond the statement's own. -/
import Derived.Test.YtjieekkkaekclaaGreatDoorCards
import Derived.Test.YtjieekkkaekclaaGreatDoorTie
import Derived.Test.YtjieekkkaekclaaGreatDoorZBAT
import Derived.Test.YtjieekkkaekclaaGreatDoorZBAY
import Derived.Test.YtjieekkkaekclaaGreatDoorZLLAC
import Derived.Test.YtjieekkkaekclaaGreatDoorZLLAD
import Derived.Test.YtjieekkkaekclaaGreatDoorZLLAE
import Derived.Below
import Derived.ChangeOld
import Derived.OpenShut
import Derived.ProofKit
import Derived.ShutString
import Derived.SizedLaws
import Derived.WalkKit
set_option linter.all false
set_option linter.unusedVariables false
set_option linter.unusedSimpArgs false
set_option maxHeartbeats 32000000
set_option maxRecDepth 100000
namespace Go.Proofs.YtjieekkkaekclaaGreatDoor
open Go Go.RowKit Go.Pw.PrintWords Go.Proofs.YtjieekkkaekclaaGreatDoor.PR
theorem aMQ (a b:List UInt8) (ha:a.length<=1000000) (hb:b.length<=1000000):EvP (fun k=>xG.f k (Mw.B a) (Mw.B b)) (Mw.B (Mw.both (fun a b=>a+b) a b).1,(Mw.both (fun a b=>a+b) a b).2):=
 aFf fG.f _ (fun n m h h'=>rH n m h h' (by omega) (by omega)) a b ha hb
theorem aMn (a b:List UInt8) (ha:a.length<=1000000) (hb:b.length<=1000000):EvP (fun k=>xD.f k (Mw.B a) (Mw.B b)) (Mw.B (Mw.both (fun a b=>a-b) a b).1,(Mw.both (fun a b=>a-b) a b).2):=
 aFf iA.f _ (fun n m h h'=>uE n m h h' (by omega) (by omega)) a b ha hb
theorem aMA (a b:List UInt8) (ha:a.length<=1000000) (hb:b.length<=1000000):EvP (fun k=>xE.f k (Mw.B a) (Mw.B b)) (Mw.B (Mw.both (fun a b=>a*b) a b).1,(Mw.both (fun a b=>a*b) a b).2):=
 aFf cZ.f _ (fun n m h h'=>kW n m h h' (by omega) (by omega)) a b ha hb
theorem aHe (a b:List UInt8) (ha:a.length<=1000000) (hb:b.length<=1000000):EvP (fun k=>vB.f k (Mw.B a) (Mw.B b)) ((if Mw.kQ a b=0 then gV (Mw.lI a) (Mw.lI b)else 0),Mw.kQ a b):=by
 unfold vB.f;refine EvP.bind (aAx a b ha hb) ?_;by_cases h0:Mw.kQ a b=0;·obtain⟨h1,h2⟩:=wW h0;obtain⟨n,e1,e2,e3,z1⟩:=lX h1;obtain⟨m,f1,f2,f3,z2⟩:=lX h2;rw[if_pos h0,h0,e2,f2,e1,f1];exact EvP.fM rfl (EvP.bind (zJ n m z1 z2 (by omega) (by omega)) (EvP.now _))
 ·rw[if_neg h0];exact EvP.jC h0 (EvP.now _)
theorem aIF (xs ys:List ByteArray) (hl:xs.length=ys.length) (hn:xs.length<=1000) (hg:∀i,i<xs.length->(xs.getD i ByteArray.empty).size<=1000/\(ys.getD i ByteArray.empty).size<=1000):
 ∀(d i:Nat),i+d=xs.length->EvP (fun k=>aI.l0 k xs ys i) true:=by
 intro d;induction d with
 | zero=>intro i hi;refine EvP.step (f:=fun _=>some true) (fun k=>?_) (EvP.now _);simp only[aI.l0];rw[if_neg (by omega),jS];rfl
 | succ d ih=>
  intro i hi;have wi:wrap64 ((i:Int)+1)=((i+1:Nat):Int):=eT (by omega) (by omega);(have g1:(i:Int)<(xs.length:Int):=by clear wi;omega);(have g2:(0:Int)<=(i:Int):=by clear wi;omega);(have g3:(i:Int)<(ys.length:Int):=by clear wi;omega);obtain⟨h1,h2⟩:=hg i (by clear wi;omega);obtain⟨a,ea⟩:∃a,xs.getD i ByteArray.empty=Mw.B a:=⟨_,(aAM _).symm⟩;obtain⟨b,eb⟩:∃b,ys.getD i ByteArray.empty=Mw.B b:=⟨_,(aAM _).symm⟩;rw[ea,eH]at h1;rw[eb,eH]at h2;(have la:a.length<=1000000:=by clear wi;omega);(have lb:b.length<=1000000:=by clear wi;omega);(have sa:(Mw.B a).size<=100000:=by rw[eH];clear wi;omega);(have sb:(Mw.B b).size<=100000:=by rw[eH];clear wi;omega);have f1:=aMQ a b la lb;have f2:=aMn a b la lb;have f3:=aMA a b la lb;have f4:=aHe a b la lb;have f5:=lG a la;(have w1:kK.f (Mw.B a) (Mw.B b)=some (Mw.B (Mw.both (fun a b=>a+b) a b).1,(Mw.both (fun a b=>a+b) a b).2):=by unfold kK.f;rw[if_pos ⟨sa,sb⟩,nQ,nQ];rfl);(have w2:pO.f (Mw.B a) (Mw.B b)=some (Mw.B (Mw.both (fun a b=>a-b) a b).1,(Mw.both (fun a b=>a-b) a b).2):=by unfold pO.f;rw[if_pos ⟨sa,sb⟩,nQ,nQ];rfl);(have w3:iV.f (Mw.B a) (Mw.B b)=some (Mw.B (Mw.both (fun a b=>a*b) a b).1,(Mw.both (fun a b=>a*b) a b).2):=by unfold iV.f;rw[if_pos ⟨sa,sb⟩,nQ,nQ];rfl);(have w4:fJ.f (Mw.B a) (Mw.B b)=some ((if Mw.kQ a b=0 then gV (Mw.lI a) (Mw.lI b)else 0),Mw.kQ a b):=by unfold fJ.f;rw[if_pos ⟨sa,sb⟩,nQ,nQ]);(have w5:qU.f (Mw.B a)=some (Mw.iP a):=by unfold qU.f;rw[if_pos sa,nQ]);generalize Mw.both (fun a b=>a+b) a b=p1 at *
  generalize Mw.both (fun a b=>a-b) a b=p2 at *;generalize Mw.both (fun a b=>a*b) a b=p3 at *;generalize(if Mw.kQ a b=0 then gV (Mw.lI a) (Mw.lI b)else 0)=c at *;generalize Mw.kQ a b=t at *;(have r:EvP (fun k=>aI.j2 k xs ys (i:Int) false) true:=by refine EvP.step (f:=fun k=>(xG.f k (Mw.B a) (Mw.B b)).bind fun u=>(xD.f k (Mw.B a) (Mw.B b)).bind fun v=>(xE.f k (Mw.B a) (Mw.B b)).bind fun x=>(if(Mw.B p1.1).toList=u.1.toList then(if p1.2=u.2 then(if(Mw.B p2.1).toList=v.1.toList then(if p2.2=v.2 then(if(Mw.B p3.1).toList=x.1.toList then(if p3.2=x.2 then(aI.l0 k xs ys ((i+1:Nat):Int))else(some false))else(some false))else(some false))else(some false))else(some false))else(some false))) (fun k=>?_) ?_;(·simp only[aI.j2];rw[if_neg (by simp),if_pos g2,if_pos g1,if_pos g3,nS,nS,ea,eb,w1,w2,w3,wi];rfl);·clear wi;exact EvP.bind f1 (EvP.bind f2 (EvP.bind f3 (EvP.fM rfl (EvP.fM rfl (EvP.fM rfl (EvP.fM rfl (EvP.fM rfl (EvP.fM rfl (ih (i+1) (by omega)))))))))));refine EvP.step (f:=fun k=>(vB.f k (Mw.B a) (Mw.B b)).bind fun u=>(cO.f k (Mw.B a)).bind fun v=>(if Mw.iP a=v then(if c=u.1 then(aI.j2 k xs ys (i:Int) (t != u.2))else(aI.j2 k xs ys (i:Int) true))else(aI.j2 k xs ys (i:Int) true))) (fun k=>?_) ?_;(·simp only[aI.l0];rw[if_pos g1,if_pos g2,if_pos g3,nS,nS,ea,eb,w4,w5];rfl);·refine EvP.bind f4 (EvP.bind f5 (EvP.fM rfl (EvP.fM rfl ?_)));dsimp only;rw[bne_self_eq_false];exact r
theorem aGr (a0 a1:ByteArray) (b1 b2 b3:Int) (l:List Int):∃k,aI.f k a0 a1 b1 b2 b3 l=some true:=by
 refine EvP.rounds (g:=fun k=>aI.f k a0 a1 b1 b2 b3 l) ?_;have yes:EvP (fun k=>aI.j0 k a0 a1 b1 b2 b3 l true) true:=EvP.step (f:=fun _=>some true) (fun k=>by simp only[aI.j0];rw[if_pos trivial,jS];rfl) (EvP.now _);unfold aI.f;by_cases h0:(a0.size:Int)>500;·exact EvP.fM h0 yes
 ·refine EvP.jC h0 ?_;by_cases h1:(a1.size:Int)>500;(·rw[decide_eq_true h1];exact yes);·rw[decide_eq_false h1];have st:At 0 0:=⟨by omega,by omega⟩;obtain⟨n1,p1,s1,e1,z1,A1⟩:=kL l 0 7640891576956012809 30 st (by omega) (by omega);obtain⟨n2,p2,s2,e2,z2,A2⟩:=kL l p1 s1 30 A1 (by omega) (by omega);have t1:=nP (z1.mono (show _<=30 from by decide)) (by omega);have t2:=nP (z2.mono (show _<=30 from by decide)) (by omega);obtain⟨x,e3,h3⟩:=aC1 (Mw.T n1) b1 b2 b3 (by omega);refine EvP.step (f:=fun k=>(aV.f k l 0 7640891576956012809 30).bind fun bt406=>(aV.f k l bt406.2.1 bt406.2.2 30).bind fun bt409=>(bS.f k bt406.1 b1 b2 b3).bind fun t=>aI.l0 k [a0,bt406.1,a0,t] [a1,bt409.1,bt409.1,bt409.1] ((0:Nat):Int)) (fun k=>?_) ?_;(·simp only[aI.j0];rw[if_neg (by simp)];rfl);·refine EvP.bind e1 (EvP.bind e2 (EvP.bind e3 (aIF [a0,Mw.T n1,a0,x] [a1,Mw.T n2,Mw.T n2,Mw.T n2] rfl (by simp only[List.length_cons,List.length_nil];omega) (fun i hi=>?_) 4 0 rfl)));simp only[List.length_cons,List.length_nil]at hi;rcases(show i=0\/i=1\/i=2\/i=3 by omega)with rfl|rfl|rfl|rfl;(·exact⟨show a0.size<=1000 by omega,show a1.size<=1000 by omega⟩);(·exact⟨show(Mw.T n1).size<=1000 by omega,show(Mw.T n2).size<=1000 by omega⟩);(·exact⟨show a0.size<=1000 by omega,show(Mw.T n2).size<=1000 by omega⟩);·exact⟨show x.size<=1000 by omega,show(Mw.T n2).size<=1000 by omega⟩
theorem aGs:aI.Pure:=fun a0 a1 b1 b2 b3 l _ _ _ _ _ _ _ _=>aGr a0 a1 b1 b2 b3 l
end Go.Proofs.YtjieekkkaekclaaGreatDoor
namespace Go.Proofs.YtjieekkkaekclaaGreatDoor.qY
open Go Go.ChangeShapes Go.WideShapes Go.ChangeAt Go.RowKit
open Go.ChangeMaps (open_string shut_string)
theorem laidOut:laidOutB Tryz.prog=true:=by kernel_rfl
def uF (k:IntKind) (w:World) (a:Option Addr) (len cap:Nat) (zs:List Int):Prop:=
 (a=none/\len=0/\cap=0/\zs=[])\/
 ∃x,a=some x/\len<=cap/\cap<=maxLen/\zs.length=cap/\(∀i,i<zs.length->w.cell? (x.add i)=some (.int k (zs.getD i 0)))/\∀n ∈ zs,(Lit.int k n).wf=true
theorem mP (os:Os) (args:Array Value):laidMetH Tryz.prog Rows.wholeChecksRow.laid ((World.doorLaid Tryz.prog 69 os).forCall (fun _ _=>0) ⟨#[],args,[]⟩).memory:=
 laidMetH_of_parts3 (fuel:=8) (laidMet_of_run' 8 (by kernel_rfl) (by kernel_rfl)) (by kernel_rfl) (by kernel_rfl)
theorem lifted (os:Os) (started:os.Started) (H:Type) (enc:TypeId×Value->H):
 ReturnsInHanded {} Tryz.checked os 14 .any (fun w args=>(Rows.wholeChecksSpec.pre enc Tryz.prog Tryz.f14 [] false w args/\laidMetH Tryz.prog Rows.wholeChecksRow.laid w)/\sizedMet enc Tryz.prog Tryz.f14 (OpenSpec.ofChange Rows.wholeChecksSpec) false w args) (Rows.wholeChecksSpec.post enc Tryz.prog Tryz.f14 false true false false):=by
 refine returnsInHanded_of_change_and (C:=Tryz.checked) (X:=fun w _=>laidMetH Tryz.prog Rows.wholeChecksRow.laid w) (fun _ _ _ hh h=>h.of_heap hh) sU started (by kernel_rfl) Tryz.func14 ?witness ?_;case witness=>exact ChangeSpec.witness_shaped (enc:=enc) (C:=Tryz.checked) (os:=os) (X:=fun w _=>laidMetH Tryz.prog Rows.wholeChecksRow.laid w) false (World.doorLaid Tryz.prog 69 os) #[.string ByteArray.empty,.string ByteArray.empty,.int .i64 0,.int .i64 0,.int .u8 0,.slice none 0 0] 8 rfl (World.shaped_of_RefB (by kernel_rfl) (by kernel_rfl)) (by kernel_rfl) (by kernel_rfl) (by kernel_rfl) (mP os _)
 intro W base args ds gs before hval0 hW hcnd hsz0 hL _;have hsz:(DataW.weightsEach Tryz.prog (Tryz.f14.params.toList++Rows.wholeChecksSpec.plain.varTypes Tryz.prog) (ds++gs)).all (·<=reachBytes)=true:=hsz0;have hval:∀(j:Nat) t v,Tryz.f14.params[j]?=some t->args[j]?=some v->Value.okWide Tryz.prog W .any base t v:=hval0;have hW':=hW;obtain⟨p,q,hA0,hV,rfl,hfz,hnd⟩:=hW;have hA:DataW.TrodAll enc Tryz.prog W 0 (fun _=>true) true Tryz.f14.params.toList args.toList ds p:=hA0;rw[Tryz.params14]at hA hval hsz;obtain⟨v0,vs0,d0,ds0,p0,q0,hargs,rfl,rfl,h0,r0⟩:=trodAll_cons hA;obtain⟨v1,vs1,d1,ds1,p1,q1,rfl,rfl,rfl,h1,r1⟩:=trodAll_cons r0;obtain⟨v2,vs2,d2,ds2,p2,q2,rfl,rfl,rfl,h2,r2⟩:=trodAll_cons r1;obtain⟨v3,vs3,d3,ds3,p3,q3,rfl,rfl,rfl,h3,r3⟩:=trodAll_cons r2;obtain⟨v4,vs4,d4,ds4,p4,q4,rfl,rfl,rfl,h4,r4⟩:=trodAll_cons r3;obtain⟨v5,vs5,d5,ds5,p5,q5,rfl,rfl,rfl,h5,r5⟩:=trodAll_cons r4;obtain⟨rfl,rfl,rfl⟩:=trodAll_nil r5;obtain rfl:args=#[v0,v1,v2,v3,v4,v5]:=by cases args;simp_all
 obtain⟨rfl,rfl⟩:=trodVars_none hV;obtain⟨a0,rfl,rfl,rfl,y0⟩:=open_string Tryz.underlying9 (hval 0 9 v0 rfl rfl) h0;have w0:a0.size<=140737488351232:=by have z:=sized_string hsz (j:=0) (t:=9) rfl rfl;rw[Array.length_toList]at z;exact z
 obtain⟨a1,rfl,rfl,rfl,y1⟩:=open_string Tryz.underlying9 (hval 1 9 v1 rfl rfl) h1;have w1:a1.size<=140737488351232:=by have z:=sized_string hsz (j:=1) (t:=9) rfl rfl;rw[Array.length_toList]at z;exact z
 obtain⟨a2,rfl,rfl,rfl,w2⟩:=open_int Tryz.underlying3 (hval 2 3 v2 rfl rfl) h2;obtain⟨a3,rfl,rfl,rfl,w3⟩:=open_int Tryz.underlying3 (hval 3 3 v3 rfl rfl) h3;obtain⟨a4,rfl,rfl,rfl,w4⟩:=open_int Tryz.underlying5 (hval 4 5 v4 rfl rfl) h4;obtain⟨a5,len5,cap5,rfl⟩:=okWide_slice Tryz.underlying22 (hval 5 22 v5 rfl rfl);have k5:=h5;have lt5:∀x ∈ p5,x.block<W.heap.size:=by obtain⟨m,hm⟩:=k5;exact DataW.trod_lt m _ _ _ hm
 obtain⟨z5,w5⟩:∃zs,uF .i64 W a5 len5 cap5 zs:=by obtain⟨fuel,hf⟩:=h5;rcases open_ints Tryz.underlying22 Tryz.underlying3 (by kernel_rfl) hf with⟨hcs,_⟩|⟨x,l,c,zs,hcs,_,hl,hm,hz,_,hcell,hwz⟩;(·simp[Value.cells]at hcs;obtain⟨rfl,rfl,rfl⟩:=hcs;exact⟨[],.inl ⟨rfl,rfl,rfl,rfl⟩⟩);·simp[Value.cells]at hcs;obtain⟨rfl,rfl,rfl⟩:=hcs;exact⟨zs,.inr ⟨_,rfl,hl,hm,by simpa using hz,hcell,hwz⟩⟩
 have y5:len5*8<=140737488351232:=Go.Pw.PrintWords.pW hsz (j:=5) (t:=22) rfl rfl Tryz.underlying22 Tryz.underlying3 (by kernel_rfl) (by kernel_rfl) h5;clear hA0 hval0 hsz0 hsz;refine(PR.aI.walk aGs a0 a1 a2 a3 a4 a5 len5 cap5 z5 W ⟨oJ hL,oI hL⟩ w0 w1 w2 w3 w4 w5 y5).mono fun e W' ⟨he,bel⟩=>?_
 subst he;exact⟨_,rfl,_,_,_,[],_,[],hW',trodAll_mk1 (shut_bool Tryz.underlying4 _),(trodAll_cons_mk (shut_string Tryz.underlying9 y0) (trodAll_cons_mk (shut_string Tryz.underlying9 y1) (trodAll_cons_mk (shut_int Tryz.underlying3 w2) (trodAll_cons_mk (shut_int Tryz.underlying3 w3) (trodAll_cons_mk (shut_int Tryz.underlying5 w4) (trodAll_cons_mk (Below.trod laidOut (by kernel_rfl) (of_decide_eq_true (by kernel_rfl)) k5 bel lt5) trodAll_mk0)))))),rfl,bel.frame _,fun h=>by cases h⟩
theorem leaving (os:Os) (started:os.Started) (H:Type) (enc:TypeId×Value->H):
 ReturnsInLeavingWide {} Tryz.checked os 14 .any (fun w args=>(Rows.wholeChecksSpec.pre enc Tryz.prog Tryz.f14 [] false w args/\laidMetH Tryz.prog Rows.wholeChecksRow.laid w)/\sizedMet enc Tryz.prog Tryz.f14 (OpenSpec.ofChange Rows.wholeChecksSpec) false w args) (Rows.wholeChecksSpec.post enc Tryz.prog Tryz.f14 false true false false):=fun enter=>
 ReturnsInOpen.mono (fun _ _ _ h=>⟨h.2.1,mU h.1,h.2.2⟩) (fun _ x=>x) (lifted os started H enc enter)
theorem closed:joinedFacts Tryz.pinned.checked.prog 14 Tryz.f14 Rows.wholeChecksSpec Rows.wholeChecksRow=true:=by
 unfold joinedFacts;simp only[Bool.and_eq_true]
 repeat' apply And.intro
 all_goals (as_aux_lemma=>kernel_rfl)
theorem named:Tryz.pinned.checked.prog.funcNamed Rows.wholeChecksRow.func=some 14:=by kernel_rfl
theorem inst:Tryz.f14.isInstance Tryz.pinned.checked.prog Rows.wholeChecksRow.origin Rows.wholeChecksRow.targs:=of_decide_eq_true (by kernel_rfl)
theorem wrap:Tryz.f14.isWrapper Tryz.pinned.checked.prog Rows.wholeChecksRow.wrapper Rows.wholeChecksRow.mainSum:=by unfold Func.isWrapper;first|(rw[if_pos (by decide +kernel)];kernel_rfl)|(rw[if_neg (by decide +kernel)];exact⟨rfl,rfl⟩)
theorem proved:Rows.WholeChecksSaid:=
 OpenClaim.holds_of_wide_leaving 14 Tryz.f14 rfl rfl rfl rfl rfl rfl rfl ⟨rfl,rfl,rfl,rfl,rfl⟩ rfl rfl rfl rfl rfl named Tryz.func14 closed inst wrap
  (fun os started H enc _=>leaving os started H enc)
end Go.Proofs.YtjieekkkaekclaaGreatDoor.qY
namespace Go.Proofs.YtjieekkkaekclaaGreatDoor
open Go
theorem qY.goes:true=Rows.wholeChecksRow.goesBy Tryz.pinned.checked.prog:=by kernel_rfl
theorem qY.wf:Rows.wholeChecksRow.wfByText (OpenSpec.ofChange Rows.wholeChecksSpec)=true:=by kernel_rfl
theorem qY.stand:∀t ∈ Tryz.f14.params,Tryz.pinned.checked.prog.wantsStandIn t=false:=by
 have h:(Tryz.f14.params.toList.all fun t=>!Tryz.pinned.checked.prog.wantsStandIn t)=true:=by kernel_rfl
 intro t ht;have:=List.all_eq_true.mp h t (Array.mem_toList_iff.mpr ht);simpa using this
theorem wholeChecks_card_holds:Rows.WholeChecksCardSaid:=
 Claim7.lF .later [.data,.data,.data,.handle,.sentinel,.sentinel] true (true,"94bbee997c0a39bb4bce0e5287243f0f552a32c829e9b04cf75d7dfa1f5bfa40") true true
  qY.proved qY.wf wholeChecks_row_tie rfl ⟨rfl,rfl⟩ qR rfl
  (fun f fn hf hfn=>by obtain rfl:f=14:=Option.some.inj (hf.symm.trans qY.named);obtain rfl:fn=Tryz.f14:=(Option.some.inj (Tryz.func14.symm.trans hfn)).symm;exact⟨pY,fun j t ht=>qY.stand t (Array.mem_of_getElem? ht)⟩)
  qY.goes
end Go.Proofs.YtjieekkkaekclaaGreatDoor
