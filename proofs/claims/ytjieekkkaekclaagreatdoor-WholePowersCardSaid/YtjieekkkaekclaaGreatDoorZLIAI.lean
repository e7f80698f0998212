/- Proved: WholePowers. Conditions: none beyond the statement's own. -/
import Derived.Test.YtjieekkkaekclaaGreatDoorCards
import Derived.Test.YtjieekkkaekclaaGreatDoorTie
import Derived.Test.YtjieekkkaekclaaGreatDoorZBAT
import Derived.Test.YtjieekkkaekclaaGreatDoorZBAY
import Derived.Test.YtjieekkkaekclaaGreatDoorZLIAE
import Derived.Test.YtjieekkkaekclaaGreatDoorZLIAF
import Derived.Test.YtjieekkkaekclaaGreatDoorZLIAG
import Derived.Test.YtjieekkkaekclaaGreatDoorZLIAH
import Derived.Below
import Derived.ChangeOld
import Derived.OpenShut
import Derived.ProofKit
import Derived.ShutString
import Derived.SizedLaws
import Derived.WalkKit
set_option linter.all false
set_option linter.unusedVariables false
set_option linter.unusedSimpArgs false
set_option maxHeartbeats 32000000
set_option maxRecDepth 100000
namespace Go.Proofs.YtjieekkkaekclaaGreatDoor
open Go Go.RowKit Go.Pw.PrintWords Go.Proofs.YtjieekkkaekclaaGreatDoor.PR
theorem aI6 (xs:List ByteArray) (ns:List Int) (ys zs:List ByteArray) (h1:xs.length=ns.length) (h2:xs.length=ys.length) (h3:xs.length=zs.length) (hn:xs.length<=1000)
 (hg:∀i,i<xs.length->(xs.getD i ByteArray.empty).size<=1000/\(ys.getD i ByteArray.empty).size<=1000/\(zs.getD i ByteArray.empty).size<=1000):
 ∀(d i:Nat),i+d=xs.length->EvP (fun k=>aM.l0 k xs ns ys zs i) true:=by
 intro d;induction d with
 | zero=>intro i hi;refine EvP.step (f:=fun _=>some true) (fun k=>?_) (EvP.now _);simp only[aM.l0];rw[if_neg (by omega),jS];rfl
 | succ d ih=>
  intro i hi;have wi:wrap64 ((i:Int)+1)=((i+1:Nat):Int):=eT (by omega) (by omega);(have g1:(i:Int)<(xs.length:Int):=by clear wi;omega);(have g2:(0:Int)<=(i:Int):=by clear wi;omega);(have g3:(i:Int)<(ns.length:Int):=by clear wi;omega);(have g4:(i:Int)<(ys.length:Int):=by clear wi;omega);(have g5:(i:Int)<(zs.length:Int):=by clear wi;omega);obtain⟨q1,q2,q3⟩:=hg i (by clear wi;omega);obtain⟨a,ea⟩:∃a,xs.getD i ByteArray.empty=Mw.B a:=⟨_,(aAM _).symm⟩;obtain⟨b,eb⟩:∃b,ys.getD i ByteArray.empty=Mw.B b:=⟨_,(aAM _).symm⟩;obtain⟨c,ec⟩:∃c,zs.getD i ByteArray.empty=Mw.B c:=⟨_,(aAM _).symm⟩;obtain⟨n,en⟩:∃n,rd ns (i:Int)=n:=⟨_,rfl⟩;rw[ea,eH]at q1;rw[eb,eH]at q2;rw[ec,eH]at q3;(have sa:(Mw.B a).size<=100000:=by rw[eH];clear wi;omega);(have sb:(Mw.B b).size<=100000:=by rw[eH];clear wi;omega);(have sc:(Mw.B c).size<=100000:=by rw[eH];clear wi;omega);have f1:=aMv a (by clear wi;omega) n;have f2:=aI5 a b c (by clear wi;omega) (by clear wi;omega) (by clear wi;omega);have f3:=aLa a q1 n;(have w1:jW.f (Mw.B a) n=some (Mw.B (Mw.zK a n).1,(Mw.zK a n).2):=by unfold jW.f;rw[if_pos sa,nQ];rfl);(have w2:iT.f (Mw.B a) (Mw.B b) (Mw.B c)=some (Mw.B (Mw.wpm a b c).1,(Mw.wpm a b c).2):=by unfold iT.f;rw[if_pos ⟨sa,sb,sc⟩,nQ,nQ,nQ];rfl);(have w3:kE.f (Mw.B a) n=some (Mw.B (Mw.xP a n).1,(Mw.xP a n).2):=by unfold kE.f;rw[if_pos sa,nQ];rfl);generalize Mw.zK a n=p1 at *;generalize Mw.wpm a b c=p2 at *;generalize Mw.xP a n=p3 at *
  refine EvP.step (f:=fun k=>(qH.f k (Mw.B a) n).bind fun u=>if(i:Int)<(ys.length:Int)then(if(i:Int)<(zs.length:Int)then((gP.f k (Mw.B a) (Mw.B b) (Mw.B c)).bind fun v=>(gW.f k (Mw.B a) n).bind fun x=>(if(Mw.B p1.1).toList=u.1.toList then(if p1.2=u.2 then(if(Mw.B p2.1).toList=v.1.toList then(if p2.2=v.2 then(if(Mw.B p3.1).toList=x.1.toList then(if p3.2=x.2 then(aM.l0 k xs ns ys zs ((i+1:Nat):Int))else(some false))else(some false))else(some false))else(some false))else(some false))else(some false)))else none)else none) (fun k=>?_) ?_;(·simp only[aM.l0];rw[if_pos g1,if_pos g2,if_pos g3,nS,nS,nS,ea,eb,ec,en,w1,w2,w3,wi];rfl);·clear wi;exact EvP.bind f1 (EvP.fM g4 (EvP.fM g5 (EvP.bind f2 (EvP.bind f3 (EvP.fM rfl (EvP.fM rfl (EvP.fM rfl (EvP.fM rfl (EvP.fM rfl (EvP.fM rfl (ih (i+1) (by omega))))))))))))
theorem aFM (a0 a1 a2:ByteArray) (n:Int) (l:List Int):∃k,aM.f k a0 a1 a2 n l=some true:=by
 refine EvP.rounds (g:=fun k=>aM.f k a0 a1 a2 n l) ?_;have yes:EvP (fun k=>aM.j0 k a0 a1 a2 n l true) true:=EvP.step (f:=fun _=>some true) (fun k=>by simp only[aM.j0];rw[if_pos trivial,jS];rfl) (EvP.now _);unfold aM.f;by_cases h0:(a0.size:Int)>60;·exact EvP.fM h0 yes
 ·refine EvP.jC h0 ?_;by_cases h1:(a1.size:Int)>60;·exact EvP.fM h1 yes
  ·refine EvP.jC h1 ?_;by_cases h2:(a2.size:Int)>60;·rw[decide_eq_true h2];exact yes
   ·rw[decide_eq_false h2];(have nx:∀{b a:Int},At b a->At (b+1) (a+1):=fun h=>⟨by have:=h.1;omega,by have:=h.2;omega⟩);obtain⟨n1,p1,s1,e1,z1,A1⟩:=kL l 0 7640891576956012809 4 (b:=0) ⟨by omega,by omega⟩ (by omega) (by omega);obtain⟨n2,p2,s2,e2,z2,A2⟩:=kL l p1 s1 12 A1 (by omega) (by omega);obtain⟨m1,t1,q1,_,_,_⟩:=aBq l p2 s2 40 A2 (by omega) (by omega);obtain⟨m2,t2,q2,_,_,_⟩:=zU l (p2+1) t1 1 5 (nx A2) (by omega) (by omega) (by omega) (by omega) (by omega);obtain⟨m3,t3,q3,_,_,_⟩:=zU l (p2+1+1) t2 1 3 (nx (nx A2)) (by omega) (by omega) (by omega) (by omega) (by omega);obtain⟨m4,t4,q4,x1,_,x2⟩:=aBq l (p2+1+1+1) t3 300 (nx (nx (nx A2))) (by omega) (by omega);have x2:=x2 (by omega);obtain⟨n3,p3,s3,e3,z3,A3⟩:=kL l (p2+1+1+1+1) t4 2 (nx (nx (nx (nx A2)))) (by omega) (by omega);obtain⟨n4,p4,s4,e4,z4,A4⟩:=kL l p3 s3 5 A3 (by omega) (by omega);obtain⟨n5,p5,s5,e5,z5,A5⟩:=kL l p4 s4 6 A4 (by omega) (by omega);obtain⟨n6,p6,s6,e6,z6,A6⟩:=kL l p5 s5 12 A5 (by omega) (by omega);have c1:=nP (z1.mono (show _<=40 from by decide)) (by omega);have c2:=nP (z2.mono (show _<=40 from by decide)) (by omega);have c3:=nP (z3.mono (show _<=40 from by decide)) (by omega);have c4:=nP (z4.mono (show _<=40 from by decide)) (by omega);have c5:=nP (z5.mono (show _<=40 from by decide)) (by omega);have c6:=nP (z6.mono (show _<=40 from by decide)) (by omega);have zm:Mw.Sz 10 m4:=Nat.lt_of_le_of_lt (show m4.natAbs<=300 by omega) (by decide);have c7:=nP zm (by omega)
    refine EvP.step (f:=fun k=>(aV.f k l 0 7640891576956012809 4).bind fun b1=>(aV.f k l b1.2.1 b1.2.2 12).bind fun b2=>(iX.f l b2.2.1 b2.2.2 40).bind fun b3=>(fO.f l b3.2.1 b3.2.2 1 5).bind fun b4=>(fO.f l b4.2.1 b4.2.2 1 3).bind fun b5=>(iX.f l b5.2.1 b5.2.2 300).bind fun b6=>(eO.f k b6.1).bind fun t=>(aV.f k l b6.2.1 b6.2.2 2).bind fun b7=>(aV.f k l b7.2.1 b7.2.2 5).bind fun b8=>(aV.f k l b8.2.1 b8.2.2 6).bind fun b9=>(aV.f k l b9.2.1 b9.2.2 12).bind fun b10=>aM.l0 k [a0,b1.1,b2.1,a0] [n,b3.1,b4.1,b5.1] [a1,t,b7.1,b8.1] [a2,b9.1,b10.1,a2] ((0:Nat):Int)) (fun k=>?_) ?_;·simp only[aM.j0];rw[if_neg (by simp)];rfl
    ·refine EvP.bind e1 (EvP.bind e2 ?_);dsimp only;rw[q1];refine EvP.bind (EvP.now _) ?_;dsimp only;rw[q2];refine EvP.bind (EvP.now _) ?_;dsimp only;rw[q3];refine EvP.bind (EvP.now _) ?_;dsimp only;rw[q4];refine EvP.bind (EvP.now _) (EvP.bind (aDz m4 (by omega)) (EvP.bind e3 (EvP.bind e4 (EvP.bind e5 (EvP.bind e6 (aI6 [a0,Mw.T n1,Mw.T n2,a0] [n,m1,m2,m3] [a1,Mw.T m4,Mw.T n3,Mw.T n4] [a2,Mw.T n5,Mw.T n6,a2] rfl rfl rfl (by simp only[List.length_cons,List.length_nil];omega) (fun i hi=>?_) 4 0 rfl))))));simp only[List.length_cons,List.length_nil]at hi;rcases(show i=0\/i=1\/i=2\/i=3 by omega)with rfl|rfl|rfl|rfl;(·exact⟨show a0.size<=1000 by omega,show a1.size<=1000 by omega,show a2.size<=1000 by omega⟩);(·exact⟨show(Mw.T n1).size<=1000 by omega,show(Mw.T m4).size<=1000 by omega,show(Mw.T n5).size<=1000 by omega⟩);(·exact⟨show(Mw.T n2).size<=1000 by omega,show(Mw.T n3).size<=1000 by omega,show(Mw.T n6).size<=1000 by omega⟩);·exact⟨show a0.size<=1000 by omega,show(Mw.T n4).size<=1000 by omega,show a2.size<=1000 by omega⟩
theorem aFN:aM.Pure:=fun a0 a1 a2 n l _ _ _ _ _ _ _=>aFM a0 a1 a2 n l
end Go.Proofs.YtjieekkkaekclaaGreatDoor
namespace Go.Proofs.YtjieekkkaekclaaGreatDoor.qW
open Go Go.ChangeShapes Go.WideShapes Go.ChangeAt Go.RowKit
open Go.ChangeMaps (open_string shut_string)
theorem laidOut:laidOutB Tryz.prog=true:=by kernel_rfl
def uF (k:IntKind) (w:World) (a:Option Addr) (len cap:Nat) (zs:List Int):Prop:=
 (a=none/\len=0/\cap=0/\zs=[])\/
 ∃x,a=some x/\len<=cap/\cap<=maxLen/\zs.length=cap/\(∀i,i<zs.length->w.cell? (x.add i)=some (.int k (zs.getD i 0)))/\∀n ∈ zs,(Lit.int k n).wf=true
theorem mP (os:Os) (args:Array Value):laidMetH Tryz.prog Rows.wholePowersRow.laid ((World.doorLaid Tryz.prog 69 os).forCall (fun _ _=>0) ⟨#[],args,[]⟩).memory:=
 laidMetH_of_parts3 (fuel:=8) (laidMet_of_run' 8 (by kernel_rfl) (by kernel_rfl)) (by kernel_rfl) (by kernel_rfl)
theorem lifted (os:Os) (started:os.Started) (H:Type) (enc:TypeId×Value->H):
 ReturnsInHanded {} Tryz.checked os 11 .any (fun w args=>(Rows.wholePowersSpec.pre enc Tryz.prog Tryz.f11 [] false w args/\laidMetH Tryz.prog Rows.wholePowersRow.laid w)/\sizedMet enc Tryz.prog Tryz.f11 (OpenSpec.ofChange Rows.wholePowersSpec) false w args) (Rows.wholePowersSpec.post enc Tryz.prog Tryz.f11 false true false false):=by
 refine returnsInHanded_of_change_and (C:=Tryz.checked) (X:=fun w _=>laidMetH Tryz.prog Rows.wholePowersRow.laid w) (fun _ _ _ hh h=>h.of_heap hh) sU started (by kernel_rfl) Tryz.func11 ?witness ?_;case witness=>exact ChangeSpec.witness_shaped (enc:=enc) (C:=Tryz.checked) (os:=os) (X:=fun w _=>laidMetH Tryz.prog Rows.wholePowersRow.laid w) false (World.doorLaid Tryz.prog 69 os) #[.string ByteArray.empty,.string ByteArray.empty,.string ByteArray.empty,.int .i64 0,.slice none 0 0] 8 rfl (World.shaped_of_RefB (by kernel_rfl) (by kernel_rfl)) (by kernel_rfl) (by kernel_rfl) (by kernel_rfl) (mP os _)
 intro W base args ds gs before hval0 hW hcnd hsz0 hL _;have hsz:(DataW.weightsEach Tryz.prog (Tryz.f11.params.toList++Rows.wholePowersSpec.plain.varTypes Tryz.prog) (ds++gs)).all (·<=reachBytes)=true:=hsz0;have hval:∀(j:Nat) t v,Tryz.f11.params[j]?=some t->args[j]?=some v->Value.okWide Tryz.prog W .any base t v:=hval0;have hW':=hW;obtain⟨p,q,hA0,hV,rfl,hfz,hnd⟩:=hW;have hA:DataW.TrodAll enc Tryz.prog W 0 (fun _=>true) true Tryz.f11.params.toList args.toList ds p:=hA0;rw[Tryz.params11]at hA hval hsz;obtain⟨v0,vs0,d0,ds0,p0,q0,hargs,rfl,rfl,h0,r0⟩:=trodAll_cons hA;obtain⟨v1,vs1,d1,ds1,p1,q1,rfl,rfl,rfl,h1,r1⟩:=trodAll_cons r0;obtain⟨v2,vs2,d2,ds2,p2,q2,rfl,rfl,rfl,h2,r2⟩:=trodAll_cons r1;obtain⟨v3,vs3,d3,ds3,p3,q3,rfl,rfl,rfl,h3,r3⟩:=trodAll_cons r2;obtain⟨v4,vs4,d4,ds4,p4,q4,rfl,rfl,rfl,h4,r4⟩:=trodAll_cons r3;obtain⟨rfl,rfl,rfl⟩:=trodAll_nil r4;obtain rfl:args=#[v0,v1,v2,v3,v4]:=by cases args;simp_all
 obtain⟨rfl,rfl⟩:=trodVars_none hV;obtain⟨a0,rfl,rfl,rfl,y0⟩:=open_string Tryz.underlying9 (hval 0 9 v0 rfl rfl) h0;have w0:a0.size<=140737488351232:=by have z:=sized_string hsz (j:=0) (t:=9) rfl rfl;rw[Array.length_toList]at z;exact z
 obtain⟨a1,rfl,rfl,rfl,y1⟩:=open_string Tryz.underlying9 (hval 1 9 v1 rfl rfl) h1;have w1:a1.size<=140737488351232:=by have z:=sized_string hsz (j:=1) (t:=9) rfl rfl;rw[Array.length_toList]at z;exact z
 obtain⟨a2,rfl,rfl,rfl,y2⟩:=open_string Tryz.underlying9 (hval 2 9 v2 rfl rfl) h2;have w2:a2.size<=140737488351232:=by have z:=sized_string hsz (j:=2) (t:=9) rfl rfl;rw[Array.length_toList]at z;exact z
 obtain⟨a3,rfl,rfl,rfl,w3⟩:=open_int Tryz.underlying3 (hval 3 3 v3 rfl rfl) h3;obtain⟨a4,len4,cap4,rfl⟩:=okWide_slice Tryz.underlying22 (hval 4 22 v4 rfl rfl);have k4:=h4;have lt4:∀x ∈ p4,x.block<W.heap.size:=by obtain⟨m,hm⟩:=k4;exact DataW.trod_lt m _ _ _ hm
 obtain⟨z4,w4⟩:∃zs,uF .i64 W a4 len4 cap4 zs:=by obtain⟨fuel,hf⟩:=h4;rcases open_ints Tryz.underlying22 Tryz.underlying3 (by kernel_rfl) hf with⟨hcs,_⟩|⟨x,l,c,zs,hcs,_,hl,hm,hz,_,hcell,hwz⟩;(·simp[Value.cells]at hcs;obtain⟨rfl,rfl,rfl⟩:=hcs;exact⟨[],.inl ⟨rfl,rfl,rfl,rfl⟩⟩);·simp[Value.cells]at hcs;obtain⟨rfl,rfl,rfl⟩:=hcs;exact⟨zs,.inr ⟨_,rfl,hl,hm,by simpa using hz,hcell,hwz⟩⟩
 have y4:len4*8<=140737488351232:=Go.Pw.PrintWords.pW hsz (j:=4) (t:=22) rfl rfl Tryz.underlying22 Tryz.underlying3 (by kernel_rfl) (by kernel_rfl) h4;clear hA0 hval0 hsz0 hsz;refine(PR.aM.walk aFN a0 a1 a2 a3 a4 len4 cap4 z4 W ⟨oJ hL,oI hL⟩ w0 w1 w2 w3 w4 y4).mono fun e W' ⟨he,bel⟩=>?_
 subst he;exact⟨_,rfl,_,_,_,[],_,[],hW',trodAll_mk1 (shut_bool Tryz.underlying4 _),(trodAll_cons_mk (shut_string Tryz.underlying9 y0) (trodAll_cons_mk (shut_string Tryz.underlying9 y1) (trodAll_cons_mk (shut_string Tryz.underlying9 y2) (trodAll_cons_mk (shut_int Tryz.underlying3 w3) (trodAll_cons_mk (Below.trod laidOut (by kernel_rfl) (of_decide_eq_true (by kernel_rfl)) k4 bel lt4) trodAll_mk0))))),rfl,bel.frame _,fun h=>by cases h⟩
theorem leaving (os:Os) (started:os.Started) (H:Type) (enc:TypeId×Value->H):
 ReturnsInLeavingWide {} Tryz.checked os 11 .any (fun w args=>(Rows.wholePowersSpec.pre enc Tryz.prog Tryz.f11 [] false w args/\laidMetH Tryz.prog Rows.wholePowersRow.laid w)/\sizedMet enc Tryz.prog Tryz.f11 (OpenSpec.ofChange Rows.wholePowersSpec) false w args) (Rows.wholePowersSpec.post enc Tryz.prog Tryz.f11 false true false false):=fun enter=>
 ReturnsInOpen.mono (fun _ _ _ h=>⟨h.2.1,mU h.1,h.2.2⟩) (fun _ x=>x) (lifted os started H enc enter)
theorem closed:joinedFacts Tryz.pinned.checked.prog 11 Tryz.f11 Rows.wholePowersSpec Rows.wholePowersRow=true:=by
 unfold joinedFacts;simp only[Bool.and_eq_true]
 repeat' apply And.intro
 all_goals (as_aux_lemma=>kernel_rfl)
theorem named:Tryz.pinned.checked.prog.funcNamed Rows.wholePowersRow.func=some 11:=by kernel_rfl
theorem inst:Tryz.f11.isInstance Tryz.pinned.checked.prog Rows.wholePowersRow.origin Rows.wholePowersRow.targs:=of_decide_eq_true (by kernel_rfl)
theorem wrap:Tryz.f11.isWrapper Tryz.pinned.checked.prog Rows.wholePowersRow.wrapper Rows.wholePowersRow.mainSum:=by unfold Func.isWrapper;first|(rw[if_pos (by decide +kernel)];kernel_rfl)|(rw[if_neg (by decide +kernel)];exact⟨rfl,rfl⟩)
theorem proved:Rows.WholePowersSaid:=
 OpenClaim.holds_of_wide_leaving 11 Tryz.f11 rfl rfl rfl rfl rfl rfl rfl ⟨rfl,rfl,rfl,rfl,rfl⟩ rfl rfl rfl rfl rfl named Tryz.func11 closed inst wrap
  (fun os started H enc _=>leaving os started H enc)
end Go.Proofs.YtjieekkkaekclaaGreatDoor.qW
namespace Go.Proofs.YtjieekkkaekclaaGreatDoor
open Go
theorem qW.goes:true=Rows.wholePowersRow.goesBy Tryz.pinned.checked.prog:=by kernel_rfl
theorem qW.wf:Rows.wholePowersRow.wfByText (OpenSpec.ofChange Rows.wholePowersSpec)=true:=by kernel_rfl
theorem qW.stand:∀t ∈ Tryz.f11.params,Tryz.pinned.checked.prog.wantsStandIn t=false:=by
 have h:(Tryz.f11.params.toList.all fun t=>!Tryz.pinned.checked.prog.wantsStandIn t)=true:=by kernel_rfl
 intro t ht;have:=List.all_eq_true.mp h t (Array.mem_toList_iff.mpr ht);simpa using this
theorem wholePowers_card_holds:Rows.WholePowersCardSaid:=
 Claim7.lF .later [.data,.data,.data,.handle,.sentinel,.sentinel] true (true,"94bbee997c0a39bb4bce0e5287243f0f552a32c829e9b04cf75d7dfa1f5bfa40") true true
  qW.proved qW.wf wholePowers_row_tie rfl ⟨rfl,rfl⟩ qR rfl
  (fun f fn hf hfn=>by obtain rfl:f=11:=Option.some.inj (hf.symm.trans qW.named);obtain rfl:fn=Tryz.f11:=(Option.some.inj (Tryz.func11.symm.trans hfn)).symm;exact⟨pY,fun j t ht=>qW.stand t (Array.mem_of_getElem? ht)⟩)
  qW.goes
end Go.Proofs.YtjieekkkaekclaaGreatDoor
