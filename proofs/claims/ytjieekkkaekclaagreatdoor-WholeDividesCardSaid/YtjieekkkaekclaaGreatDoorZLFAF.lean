/- Proved: WholeDivides. Conditions: none beyond the statement's own. -/
import Derived.Test.YtjieekkkaekclaaGreatDoorCards
import Derived.Test.YtjieekkkaekclaaGreatDoorTie
import Derived.Test.YtjieekkkaekclaaGreatDoorZBAT
import Derived.Test.YtjieekkkaekclaaGreatDoorZBAY
import Derived.Test.YtjieekkkaekclaaGreatDoorZLFAD
import Derived.Test.YtjieekkkaekclaaGreatDoorZLFAE
import Derived.Below
import Derived.ChangeOld
import Derived.OpenShut
import Derived.ProofKit
import Derived.ShutString
import Derived.SizedLaws
import Derived.WalkKit
set_option linter.all false
set_option linter.unusedVariables false
set_option linter.unusedSimpArgs false
set_option maxHeartbeats 32000000
set_option maxRecDepth 100000
namespace Go.Proofs.YtjieekkkaekclaaGreatDoor
open Go Go.RowKit Go.Pw.PrintWords Go.Proofs.YtjieekkkaekclaaGreatDoor.PR
theorem aHd (xs ys:List ByteArray) (hl:xs.length=ys.length) (hn:xs.length<=1000) (hg:∀i,i<xs.length->(xs.getD i ByteArray.empty).size<=1000/\(ys.getD i ByteArray.empty).size<=1000):
 ∀(d i:Nat),i+d=xs.length->EvP (fun k=>aW.l0 k xs ys i) true:=by
 intro d;induction d with
 | zero=>intro i hi;refine EvP.step (f:=fun _=>some true) (fun k=>?_) (EvP.now _);simp only[aW.l0];rw[if_neg (by omega),jS];rfl
 | succ d ih=>
  intro i hi;have wi:wrap64 ((i:Int)+1)=((i+1:Nat):Int):=eT (by omega) (by omega);(have g1:(i:Int)<(xs.length:Int):=by clear wi;omega);(have g2:(0:Int)<=(i:Int):=by clear wi;omega);(have g3:(i:Int)<(ys.length:Int):=by clear wi;omega);obtain⟨h1,h2⟩:=hg i (by clear wi;omega);obtain⟨a,ea⟩:∃a,xs.getD i ByteArray.empty=Mw.B a:=⟨_,(aAM _).symm⟩;obtain⟨b,eb⟩:∃b,ys.getD i ByteArray.empty=Mw.B b:=⟨_,(aAM _).symm⟩;rw[ea,eH]at h1;rw[eb,eH]at h2;have f1:=aEx a b (by clear wi;omega) (by clear wi;omega) true;have f2:=aEx a b (by clear wi;omega) (by clear wi;omega) false;rw[if_pos rfl]at f1;rw[if_neg (by simp)]at f2;(have w1:iR.f (Mw.B a) (Mw.B b)=some (Mw.B (Mw.parted Int.fdiv Int.fmod a b).1,Mw.B (Mw.parted Int.fdiv Int.fmod a b).2.1,(Mw.parted Int.fdiv Int.fmod a b).2.2):=by unfold iR.f;rw[if_pos ⟨by rw[eH];clear wi;omega,by rw[eH];clear wi;omega⟩,nQ,nQ];rfl);(have w2:jV.f (Mw.B a) (Mw.B b)=some (Mw.B (Mw.parted Int.tdiv Int.tmod a b).1,Mw.B (Mw.parted Int.tdiv Int.tmod a b).2.1,(Mw.parted Int.tdiv Int.tmod a b).2.2):=by unfold jV.f;rw[if_pos ⟨by rw[eH];clear wi;omega,by rw[eH];clear wi;omega⟩,nQ,nQ];rfl);dsimp only at f1 f2;generalize Mw.parted Int.fdiv Int.fmod a b=p at *;generalize Mw.parted Int.tdiv Int.tmod a b=q at *
  refine EvP.step (f:=fun k=>(pU.f k (Mw.B a) (Mw.B b) true).bind fun u=>(pU.f k (Mw.B a) (Mw.B b) false).bind fun v=>(if(Mw.B p.1).toList=u.1.toList then(if(Mw.B p.2.1).toList=u.2.1.toList then(if p.2.2=u.2.2 then(if(Mw.B q.1).toList=v.1.toList then(if(Mw.B q.2.1).toList=v.2.1.toList then(if q.2.2=v.2.2 then(aW.l0 k xs ys ((i+1:Nat):Int))else(some false))else(some false))else(some false))else(some false))else(some false))else(some false))) (fun k=>?_) ?_;(·simp only[aW.l0];rw[if_pos g1,if_pos g2,if_pos g3,nS,nS,ea,eb,w1,w2,wi,pJ.f,rR.f];cases pU.f k (Mw.B a) (Mw.B b) true<;>cases pU.f k (Mw.B a) (Mw.B b) false<;>rfl);·clear wi;exact EvP.bind f1 (EvP.bind f2 (EvP.fM rfl (EvP.fM rfl (EvP.fM rfl (EvP.fM rfl (EvP.fM rfl (EvP.fM rfl (ih (i+1) (by omega)))))))))
theorem aF5 (a0 a1:ByteArray) (l:List Int):∃k,aW.f k a0 a1 l=some true:=by
 refine EvP.rounds (g:=fun k=>aW.f k a0 a1 l) ?_;have yes:EvP (fun k=>aW.j0 k a0 a1 l true) true:=EvP.step (f:=fun _=>some true) (fun k=>by simp only[aW.j0];rw[if_pos trivial,jS];rfl) (EvP.now _);unfold aW.f;by_cases h0:(a0.size:Int)>420;·exact EvP.fM h0 yes
 ·refine EvP.jC h0 ?_;by_cases h1:(a1.size:Int)>420;·rw[decide_eq_true h1];exact yes
  ·rw[decide_eq_false h1];have st:At 0 0:=⟨by omega,by omega⟩;obtain⟨n1,p1,s1,e1,z1,A1⟩:=kL l 0 7640891576956012809 40 st (by omega) (by omega);obtain⟨n2,p2,s2,e2,z2,A2⟩:=kL l p1 s1 12 A1 (by omega) (by omega);obtain⟨n3,p3,s3,e3,z3,A3⟩:=kL l p2 s2 20 A2 (by omega) (by omega);obtain⟨n4,p4,s4,e4,z4,A4⟩:=kL l p3 s3 3 A3 (by omega) (by omega);have t1:=nP (z1.mono (show _<=40 from by decide)) (by omega);have t2:=nP (z2.mono (show _<=40 from by decide)) (by omega);have t3:=nP (z3.mono (show _<=40 from by decide)) (by omega);have t4:=nP (z4.mono (show _<=40 from by decide)) (by omega);refine EvP.step (f:=fun k=>(aV.f k l 0 7640891576956012809 40).bind fun bt406=>(aV.f k l bt406.2.1 bt406.2.2 12).bind fun bt409=>(aV.f k l bt409.2.1 bt409.2.2 20).bind fun bt415=>(aV.f k l bt415.2.1 bt415.2.2 3).bind fun bt418=>aW.l0 k [a0,bt406.1,bt409.1] [a1,bt415.1,bt418.1] ((0:Nat):Int)) (fun k=>?_) ?_;(·simp only[aW.j0];rw[if_neg (by simp)];rfl);·refine EvP.bind e1 (EvP.bind e2 (EvP.bind e3 (EvP.bind e4 (aHd [a0,Mw.T n1,Mw.T n2] [a1,Mw.T n3,Mw.T n4] rfl (by simp only[List.length_cons,List.length_nil];omega) (fun i hi=>?_) 3 0 rfl))));simp only[List.length_cons,List.length_nil]at hi;rcases(show i=0\/i=1\/i=2 by omega)with rfl|rfl|rfl;(·exact⟨show a0.size<=1000 by omega,show a1.size<=1000 by omega⟩);(·exact⟨show(Mw.T n1).size<=1000 by omega,show(Mw.T n3).size<=1000 by omega⟩);·exact⟨show(Mw.T n2).size<=1000 by omega,show(Mw.T n4).size<=1000 by omega⟩
theorem aF6:aW.Pure:=fun a0 a1 l _ _ _ _ _=>aF5 a0 a1 l
end Go.Proofs.YtjieekkkaekclaaGreatDoor
namespace Go.Proofs.YtjieekkkaekclaaGreatDoor.qF
open Go Go.ChangeShapes Go.WideShapes Go.ChangeAt Go.RowKit
open Go.ChangeMaps (open_string shut_string)
theorem laidOut:laidOutB Tryz.prog=true:=by kernel_rfl
def uF (k:IntKind) (w:World) (a:Option Addr) (len cap:Nat) (zs:List Int):Prop:=
 (a=none/\len=0/\cap=0/\zs=[])\/
 ∃x,a=some x/\len<=cap/\cap<=maxLen/\zs.length=cap/\(∀i,i<zs.length->w.cell? (x.add i)=some (.int k (zs.getD i 0)))/\∀n ∈ zs,(Lit.int k n).wf=true
theorem mP (os:Os) (args:Array Value):laidMetH Tryz.prog Rows.wholeDividesRow.laid ((World.doorLaid Tryz.prog 69 os).forCall (fun _ _=>0) ⟨#[],args,[]⟩).memory:=
 laidMetH_of_parts3 (fuel:=8) (laidMet_of_run' 8 (by kernel_rfl) (by kernel_rfl)) (by kernel_rfl) (by kernel_rfl)
theorem lifted (os:Os) (started:os.Started) (H:Type) (enc:TypeId×Value->H):
 ReturnsInHanded {} Tryz.checked os 8 .any (fun w args=>(Rows.wholeDividesSpec.pre enc Tryz.prog Tryz.f8 [] false w args/\laidMetH Tryz.prog Rows.wholeDividesRow.laid w)/\sizedMet enc Tryz.prog Tryz.f8 (OpenSpec.ofChange Rows.wholeDividesSpec) false w args) (Rows.wholeDividesSpec.post enc Tryz.prog Tryz.f8 false true false false):=by
 refine returnsInHanded_of_change_and (C:=Tryz.checked) (X:=fun w _=>laidMetH Tryz.prog Rows.wholeDividesRow.laid w) (fun _ _ _ hh h=>h.of_heap hh) sU started (by kernel_rfl) Tryz.func8 ?witness ?_;case witness=>exact ChangeSpec.witness_shaped (enc:=enc) (C:=Tryz.checked) (os:=os) (X:=fun w _=>laidMetH Tryz.prog Rows.wholeDividesRow.laid w) false (World.doorLaid Tryz.prog 69 os) #[.string ByteArray.empty,.string ByteArray.empty,.slice none 0 0] 8 rfl (World.shaped_of_RefB (by kernel_rfl) (by kernel_rfl)) (by kernel_rfl) (by kernel_rfl) (by kernel_rfl) (mP os _)
 intro W base args ds gs before hval0 hW hcnd hsz0 hL _;have hsz:(DataW.weightsEach Tryz.prog (Tryz.f8.params.toList++Rows.wholeDividesSpec.plain.varTypes Tryz.prog) (ds++gs)).all (·<=reachBytes)=true:=hsz0;have hval:∀(j:Nat) t v,Tryz.f8.params[j]?=some t->args[j]?=some v->Value.okWide Tryz.prog W .any base t v:=hval0;have hW':=hW;obtain⟨p,q,hA0,hV,rfl,hfz,hnd⟩:=hW;have hA:DataW.TrodAll enc Tryz.prog W 0 (fun _=>true) true Tryz.f8.params.toList args.toList ds p:=hA0;rw[Tryz.params8]at hA hval hsz;obtain⟨v0,vs0,d0,ds0,p0,q0,hargs,rfl,rfl,h0,r0⟩:=trodAll_cons hA;obtain⟨v1,vs1,d1,ds1,p1,q1,rfl,rfl,rfl,h1,r1⟩:=trodAll_cons r0;obtain⟨v2,vs2,d2,ds2,p2,q2,rfl,rfl,rfl,h2,r2⟩:=trodAll_cons r1;obtain⟨rfl,rfl,rfl⟩:=trodAll_nil r2;obtain rfl:args=#[v0,v1,v2]:=by cases args;simp_all
 obtain⟨rfl,rfl⟩:=trodVars_none hV;obtain⟨a0,rfl,rfl,rfl,y0⟩:=open_string Tryz.underlying9 (hval 0 9 v0 rfl rfl) h0;have w0:a0.size<=140737488351232:=by have z:=sized_string hsz (j:=0) (t:=9) rfl rfl;rw[Array.length_toList]at z;exact z
 obtain⟨a1,rfl,rfl,rfl,y1⟩:=open_string Tryz.underlying9 (hval 1 9 v1 rfl rfl) h1;have w1:a1.size<=140737488351232:=by have z:=sized_string hsz (j:=1) (t:=9) rfl rfl;rw[Array.length_toList]at z;exact z
 obtain⟨a2,len2,cap2,rfl⟩:=okWide_slice Tryz.underlying22 (hval 2 22 v2 rfl rfl);have k2:=h2;have lt2:∀x ∈ p2,x.block<W.heap.size:=by obtain⟨m,hm⟩:=k2;exact DataW.trod_lt m _ _ _ hm
 obtain⟨z2,w2⟩:∃zs,uF .i64 W a2 len2 cap2 zs:=by obtain⟨fuel,hf⟩:=h2;rcases open_ints Tryz.underlying22 Tryz.underlying3 (by kernel_rfl) hf with⟨hcs,_⟩|⟨x,l,c,zs,hcs,_,hl,hm,hz,_,hcell,hwz⟩;(·simp[Value.cells]at hcs;obtain⟨rfl,rfl,rfl⟩:=hcs;exact⟨[],.inl ⟨rfl,rfl,rfl,rfl⟩⟩);·simp[Value.cells]at hcs;obtain⟨rfl,rfl,rfl⟩:=hcs;exact⟨zs,.inr ⟨_,rfl,hl,hm,by simpa using hz,hcell,hwz⟩⟩
 have y2:len2*8<=140737488351232:=Go.Pw.PrintWords.pW hsz (j:=2) (t:=22) rfl rfl Tryz.underlying22 Tryz.underlying3 (by kernel_rfl) (by kernel_rfl) h2;clear hA0 hval0 hsz0 hsz;refine(PR.aW.walk aF6 a0 a1 a2 len2 cap2 z2 W ⟨oJ hL,oI hL⟩ w0 w1 w2 y2).mono fun e W' ⟨he,bel⟩=>?_
 subst he;exact⟨_,rfl,_,_,_,[],_,[],hW',trodAll_mk1 (shut_bool Tryz.underlying4 _),(trodAll_cons_mk (shut_string Tryz.underlying9 y0) (trodAll_cons_mk (shut_string Tryz.underlying9 y1) (trodAll_cons_mk (Below.trod laidOut (by kernel_rfl) (of_decide_eq_true (by kernel_rfl)) k2 bel lt2) trodAll_mk0))),rfl,bel.frame _,fun h=>by cases h⟩
theorem leaving (os:Os) (started:os.Started) (H:Type) (enc:TypeId×Value->H):
 ReturnsInLeavingWide {} Tryz.checked os 8 .any (fun w args=>(Rows.wholeDividesSpec.pre enc Tryz.prog Tryz.f8 [] false w args/\laidMetH Tryz.prog Rows.wholeDividesRow.laid w)/\sizedMet enc Tryz.prog Tryz.f8 (OpenSpec.ofChange Rows.wholeDividesSpec) false w args) (Rows.wholeDividesSpec.post enc Tryz.prog Tryz.f8 false true false false):=fun enter=>
 ReturnsInOpen.mono (fun _ _ _ h=>⟨h.2.1,mU h.1,h.2.2⟩) (fun _ x=>x) (lifted os started H enc enter)
theorem closed:joinedFacts Tryz.pinned.checked.prog 8 Tryz.f8 Rows.wholeDividesSpec Rows.wholeDividesRow=true:=by
 unfold joinedFacts;simp only[Bool.and_eq_true]
 repeat' apply And.intro
 all_goals (as_aux_lemma=>kernel_rfl)
theorem named:Tryz.pinned.checked.prog.funcNamed Rows.wholeDividesRow.func=some 8:=by kernel_rfl
theorem inst:Tryz.f8.isInstance Tryz.pinned.checked.prog Rows.wholeDividesRow.origin Rows.wholeDividesRow.targs:=of_decide_eq_true (by kernel_rfl)
theorem wrap:Tryz.f8.isWrapper Tryz.pinned.checked.prog Rows.wholeDividesRow.wrapper Rows.wholeDividesRow.mainSum:=by unfold Func.isWrapper;first|(rw[if_pos (by decide +kernel)];kernel_rfl)|(rw[if_neg (by decide +kernel)];exact⟨rfl,rfl⟩)
theorem proved:Rows.WholeDividesSaid:=
 OpenClaim.holds_of_wide_leaving 8 Tryz.f8 rfl rfl rfl rfl rfl rfl rfl ⟨rfl,rfl,rfl,rfl,rfl⟩ rfl rfl rfl rfl rfl named Tryz.func8 closed inst wrap
  (fun os started H enc _=>leaving os started H enc)
end Go.Proofs.YtjieekkkaekclaaGreatDoor.qF
namespace Go.Proofs.YtjieekkkaekclaaGreatDoor
open Go
theorem qF.goes:true=Rows.wholeDividesRow.goesBy Tryz.pinned.checked.prog:=by kernel_rfl
theorem qF.wf:Rows.wholeDividesRow.wfByText (OpenSpec.ofChange Rows.wholeDividesSpec)=true:=by kernel_rfl
theorem qF.stand:∀t ∈ Tryz.f8.params,Tryz.pinned.checked.prog.wantsStandIn t=false:=by
 have h:(Tryz.f8.params.toList.all fun t=>!Tryz.pinned.checked.prog.wantsStandIn t)=true:=by kernel_rfl
 intro t ht;have:=List.all_eq_true.mp h t (Array.mem_toList_iff.mpr ht);simpa using this
theorem wholeDivides_card_holds:Rows.WholeDividesCardSaid:=
 Claim7.lF .later [.data,.data,.data,.handle,.sentinel,.sentinel] true (true,"94bbee997c0a39bb4bce0e5287243f0f552a32c829e9b04cf75d7dfa1f5bfa40") true true
  qF.proved qF.wf wholeDivides_row_tie rfl ⟨rfl,rfl⟩ qR rfl
  (fun f fn hf hfn=>by obtain rfl:f=8:=Option.some.inj (hf.symm.trans qF.named);obtain rfl:fn=Tryz.f8:=(Option.some.inj (Tryz.func8.symm.trans hfn)).symm;exact⟨pY,fun j t ht=>qF.stand t (Array.mem_of_getElem? ht)⟩)
  qF.goes
end Go.Proofs.YtjieekkkaekclaaGreatDoor
