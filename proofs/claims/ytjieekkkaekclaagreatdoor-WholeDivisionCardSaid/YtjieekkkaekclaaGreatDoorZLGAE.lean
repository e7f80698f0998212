/- Proved: WholeDivision. Conditions: none beyond the statement's own. -/
import Derived.Test.YtjieekkkaekclaaGreatDoorCards
import Derived.Test.YtjieekkkaekclaaGreatDoorTie
import Derived.Test.YtjieekkkaekclaaGreatDoorZBAT
import Derived.Test.YtjieekkkaekclaaGreatDoorZBAY
import Derived.Test.YtjieekkkaekclaaGreatDoorZLGAC
import Derived.Test.YtjieekkkaekclaaGreatDoorZLGAD
import Derived.Below
import Derived.ChangeOld
import Derived.OpenShut
import Derived.ProofKit
import Derived.ShutString
import Derived.SizedLaws
import Derived.WalkKit
set_option linter.all false
set_option linter.unusedVariables false
set_option linter.unusedSimpArgs false
set_option maxHeartbeats 32000000
set_option maxRecDepth 100000
namespace Go.Proofs.YtjieekkkaekclaaGreatDoor
open Go Go.RowKit Go.Pw.PrintWords Go.Proofs.YtjieekkkaekclaaGreatDoor.PR
theorem aDZ:bJ.Pure:=by
 intro l _ _ _;refine EvP.rounds (g:=fun k=>bJ.f k l) ?_;obtain⟨a,b,c,he,za,zb,zc⟩:=aCV l;have up:∀{n:Int} {L M:Nat},Mw.Sz L n->L<=M->Mw.Sz M n:=fun h hl=>h.mono hl
 unfold bJ.f;refine EvP.bind he ?_;dsimp only;by_cases hb:b=0;·subst hb;have e1:=aJ8 (up za (show 30<=400 by omega));have e2:=aMi (up za (show 30<=400 by omega));(have s0:(Mw.B []).size+(Mw.B []).size<=9223372036854775807:=by rw[eH];simp);have tl:(Mw.B []).toList=[]:=xN [];have ap:Mw.B []++Mw.B []=Mw.B []:=lM [] [];refine EvP.congr (f:=fun _=>some true) (fun k=>?_) (EvP.now _);have t0:=(fC 0).mpr rfl;simp only[e1,e2,Option.bind_some,if_true,t0,ap,s0,tl,jS]
 ·have e1:=aJ7 hb (up za (show 30<=390 by omega)) (up zb (show 30<=390 by omega));have e2:=aMh hb (up za (show 30<=390 by omega)) (up zb (show 30<=390 by omega));(have t0:¬(Mw.T b).toList=([48]:List UInt8):=fun h=>hb ((fC b).mp h));obtain⟨q,hq⟩:∃q,q=a.fdiv b:=⟨_,rfl⟩;obtain⟨r,hr⟩:∃r,r=a.fmod b:=⟨_,rfl⟩;obtain⟨p,hp⟩:∃p,p=a.tdiv b:=⟨_,rfl⟩;obtain⟨s,hs⟩:∃s,s=a.tmod b:=⟨_,rfl⟩;(have zq:Mw.Sz 31 q:=by rw[hq];exact aCA hb za);(have zr:Mw.Sz 30 r:=by rw[hr];exact tO hb zb);(have zp:Mw.Sz 30 p:=by rw[hp];exact za.of_le (by rw[Int.natAbs_tdiv];exact Nat.div_le_self _ _));(have zs:Mw.Sz 30 s:=by rw[hs];exact za.of_le (by rw[Int.natAbs_tmod];exact Nat.mod_le _ _));obtain⟨k1,k2,k3⟩:=nA (r:=a) hb;(have v1:q*b+r=a:=by rw[hq,hr,Int.mul_comm];exact k1);(have v2:p*b+s=a:=by rw[hp,hs,Int.mul_comm];have:=Int.tmod_add_mul_tdiv a b;omega);(have lt1:r.natAbs<b.natAbs:=by rw[hr];exact k2);(have lt2:s.natAbs<b.natAbs:=by rw[hs,Int.natAbs_tmod];exact Nat.mod_lt _ (by omega));have sg1:r=0\/(decide (r<0) == decide (b<0))=true:=by rw[<-hr]at k3;by_cases h0:r=0;(·exact .inl h0);·refine .inr ?_;(have:(r<0<->b<0):=by constructor;(·intro h1;by_cases h2:b<0;(·exact h2);·have:=Int.mul_neg_of_pos_of_neg (show 0<b by omega) h1;omega);·intro h1;by_cases h2:r<0;(·exact h2);·have:=Int.mul_neg_of_neg_of_pos h1 (show 0<r by omega);omega);rw[beq_iff_eq];exact decide_eq_decide.mpr this
  (have sg2:s=0\/(decide (s<0) == decide (a<0))=true:=by have:=mW a b;rw[<-hs]at this;by_cases h0:s=0;(·exact .inl h0);·refine .inr ?_;(have hx:(s<0<->a<0):=by generalize a.natAbs%b.natAbs=x at this;by_cases h1:a<0;(·rw[if_pos h1]at this;omega);·rw[if_neg h1]at this;omega);rw[beq_iff_eq];exact decide_eq_decide.mpr hx);(have qp:(decide (a<0) != decide (b<0))=true\/q=p:=by by_cases h1:(decide (a<0) != decide (b<0))=true;(·exact .inl h1);·refine .inr ?_;(have h2:decide (a<0)=decide (b<0):=by simpa using h1);have h3:=decide_eq_decide.mp h2;have hv:=xI (n:=a) hb;rw[hq,hp];refine(hv.1 ?_).1;rcases sg2 with h4|h4;(·left;rw[<-hs];exact h4);·by_cases h5:s=0;(·left;rw[<-hs];exact h5);·right;rw[<-hs];have h6:(s<0<->a<0):=decide_eq_decide.mp (beq_iff_eq.mp h4);unfold sgn;by_cases h7:s<0;(·rw[if_pos h7,if_pos (h3.mp (h6.mp h7))]);·rw[if_neg h7,if_neg (fun h=>h7 (h6.mpr (h3.mpr h))),if_neg h5,if_neg hb]);rw[<-hq,<-hr]at e1;rw[<-hp,<-hs]at e2
  (have j2:EvP (fun k=>bJ.j2 k (Mw.T a) (Mw.T b) (Mw.T q) (Mw.T r) (Mw.T p) (Mw.T s) false) true:=by refine EvP.step (f:=fun _=>some true) (fun k=>?_) (EvP.now _);simp only[bJ.j2,kN,fC,jS,Option.bind_some,Bool.false_eq_true,if_false];(have fin:(if(decide (a<0) != decide (b<0))=true then some true else if(Mw.T q).toList=(Mw.T p).toList then some true else some false)=some true:=by rcases qp with h|h;(·rw[if_pos h]);·rw[h];split<;>simp);by_cases h1:r=0;(·rw[if_pos h1];by_cases h2:s=0;(·rw[if_pos h2];exact fin);·rw[if_neg h2,if_pos (sg2.resolve_left h2)];exact fin);·rw[if_neg h1,if_pos (sg1.resolve_left h1)];by_cases h2:s=0;(·rw[if_pos h2];exact fin);·rw[if_neg h2,if_pos (sg2.resolve_left h2)];exact fin);have ge:∀x:Int,x.natAbs<b.natAbs->¬gV (x.natAbs:Int) (b.natAbs:Int)>=0:=fun x h=>by unfold gV;rw[if_pos (by omega)];omega
  have j1:EvP (fun k=>bJ.j1 k (Mw.T a) (Mw.T b) (Mw.T q) (Mw.T r) (Mw.T p) (Mw.T s) false) true:=by refine EvP.step (f:=fun k=>(jO.f k (Mw.T (r.natAbs:Int)) (Mw.T (b.natAbs:Int))).bind fun t683=>if t683>=0 then bJ.j2 k (Mw.T a) (Mw.T b) (Mw.T q) (Mw.T r) (Mw.T p) (Mw.T s) true else(jO.f k (Mw.T (s.natAbs:Int)) (Mw.T (b.natAbs:Int))).bind fun t686=>bJ.j2 k (Mw.T a) (Mw.T b) (Mw.T q) (Mw.T r) (Mw.T p) (Mw.T s) (decide (t686>=0))) (fun k=>?_) ?_;(·simp only[bJ.j1,lL,zI,Option.bind_some,Bool.false_eq_true,if_false]);·refine EvP.bind (zJ _ _ (L:=30) (aAq zr) (aAq zb) (by omega) (by omega)) (EvP.jC (ge r lt1) (EvP.bind (zJ _ _ (L:=30) (aAq zs) (aAq zb) (by omega) (by omega)) ?_));rw[decide_eq_false (ge s lt2)];exact j2
  (have j0:EvP (fun k=>bJ.j0 k (Mw.T a) (Mw.T b) (Mw.T q) (Mw.T r) (Mw.T p) (Mw.T s) false) true:=by refine EvP.step (f:=fun k=>(cZ.f k (Mw.T q) (Mw.T b)).bind fun t677=>(fG.f k t677 (Mw.T r)).bind fun t678=>if t678.toList=(Mw.T a).toList then(cZ.f k (Mw.T p) (Mw.T b)).bind fun t679=>(fG.f k t679 (Mw.T s)).bind fun t680=>bJ.j1 k (Mw.T a) (Mw.T b) (Mw.T q) (Mw.T r) (Mw.T p) (Mw.T s) (t680.toList != (Mw.T a).toList)else bJ.j1 k (Mw.T a) (Mw.T b) (Mw.T q) (Mw.T r) (Mw.T p) (Mw.T s) true) (fun k=>?_) ?_;(·simp only[bJ.j0,Bool.false_eq_true,if_false]);·refine EvP.bind (kW q b (L:=31) zq (zb.mono (by omega)) (by omega) (by omega)) (EvP.bind (rH _ r (L:=61) (zq.mul zb) (zr.mono (by omega)) (by omega) (by omega)) (EvP.fM (by rw[v1]) ?_));refine EvP.bind (kW p b (L:=30) zp zb (by omega) (by omega)) (EvP.bind (rH _ s (L:=60) (zp.mul zb) (zs.mono (by omega)) (by omega) (by omega)) ?_);rw[v2,bne_self_eq_false];exact j1);have up4:∀{n:Int} {L:Nat},Mw.Sz L n->L<=400->Mw.Sz 400 n:=fun h hl=>h.mono hl
  refine EvP.congr (f:=fun k=>(dJ.f k (Mw.T q)).bind fun t673=>if t673=true then(dJ.f k (Mw.T r)).bind fun t674=>if t674=true then(dJ.f k (Mw.T p)).bind fun t675=>if t675=true then(dJ.f k (Mw.T s)).bind fun t676=>bJ.j0 k (Mw.T a) (Mw.T b) (Mw.T q) (Mw.T r) (Mw.T p) (Mw.T s) (!t676)else bJ.j0 k (Mw.T a) (Mw.T b) (Mw.T q) (Mw.T r) (Mw.T p) (Mw.T s) true else bJ.j0 k (Mw.T a) (Mw.T b) (Mw.T q) (Mw.T r) (Mw.T p) (Mw.T s) true else bJ.j0 k (Mw.T a) (Mw.T b) (Mw.T q) (Mw.T r) (Mw.T p) (Mw.T s) true) (fun k=>?_) ?_;(·simp only[e1,e2,Option.bind_some,if_true,t0,if_false]);·exact EvP.bind (rT (up4 zq (by omega))) (EvP.fM rfl (EvP.bind (rT (up4 zr (by omega))) (EvP.fM rfl (EvP.bind (rT (up4 zp (by omega))) (EvP.fM rfl (EvP.bind (rT (up4 zs (by omega))) j0))))))
end Go.Proofs.YtjieekkkaekclaaGreatDoor
namespace Go.Proofs.YtjieekkkaekclaaGreatDoor.oP
open Go Go.ChangeShapes Go.WideShapes Go.ChangeAt Go.RowKit
open Go.ChangeMaps (open_string shut_string)
theorem laidOut:laidOutB Tryz.prog=true:=by kernel_rfl
def uF (k:IntKind) (w:World) (a:Option Addr) (len cap:Nat) (zs:List Int):Prop:=
 (a=none/\len=0/\cap=0/\zs=[])\/
 ∃x,a=some x/\len<=cap/\cap<=maxLen/\zs.length=cap/\(∀i,i<zs.length->w.cell? (x.add i)=some (.int k (zs.getD i 0)))/\∀n ∈ zs,(Lit.int k n).wf=true
theorem mP (os:Os) (args:Array Value):laidMetH Tryz.prog Rows.wholeDivisionRow.laid ((World.doorLaid Tryz.prog 69 os).forCall (fun _ _=>0) ⟨#[],args,[]⟩).memory:=
 laidMetH_of_parts3 (fuel:=8) (laidMet_of_run' 8 (by kernel_rfl) (by kernel_rfl)) (by kernel_rfl) (by kernel_rfl)
theorem lifted (os:Os) (started:os.Started) (H:Type) (enc:TypeId×Value->H):
 ReturnsInHanded {} Tryz.checked os 9 .any (fun w args=>(Rows.wholeDivisionSpec.pre enc Tryz.prog Tryz.f9 [] false w args/\laidMetH Tryz.prog Rows.wholeDivisionRow.laid w)/\sizedMet enc Tryz.prog Tryz.f9 (OpenSpec.ofChange Rows.wholeDivisionSpec) false w args) (Rows.wholeDivisionSpec.post enc Tryz.prog Tryz.f9 false true false false):=by
 refine returnsInHanded_of_change_and (C:=Tryz.checked) (X:=fun w _=>laidMetH Tryz.prog Rows.wholeDivisionRow.laid w) (fun _ _ _ hh h=>h.of_heap hh) sU started (by kernel_rfl) Tryz.func9 ?witness ?_;case witness=>exact ChangeSpec.witness_shaped (enc:=enc) (C:=Tryz.checked) (os:=os) (X:=fun w _=>laidMetH Tryz.prog Rows.wholeDivisionRow.laid w) false (World.doorLaid Tryz.prog 69 os) #[.slice none 0 0] 8 rfl (World.shaped_of_RefB (by kernel_rfl) (by kernel_rfl)) (by kernel_rfl) (by kernel_rfl) (by kernel_rfl) (mP os _)
 intro W base args ds gs before hval0 hW hcnd hsz0 hL _;have hsz:(DataW.weightsEach Tryz.prog (Tryz.f9.params.toList++Rows.wholeDivisionSpec.plain.varTypes Tryz.prog) (ds++gs)).all (·<=reachBytes)=true:=hsz0;have hval:∀(j:Nat) t v,Tryz.f9.params[j]?=some t->args[j]?=some v->Value.okWide Tryz.prog W .any base t v:=hval0;have hW':=hW;obtain⟨p,q,hA0,hV,rfl,hfz,hnd⟩:=hW;have hA:DataW.TrodAll enc Tryz.prog W 0 (fun _=>true) true Tryz.f9.params.toList args.toList ds p:=hA0;rw[Tryz.params9]at hA hval hsz;obtain⟨v0,vs0,d0,ds0,p0,q0,hargs,rfl,rfl,h0,r0⟩:=trodAll_cons hA;obtain⟨rfl,rfl,rfl⟩:=trodAll_nil r0;obtain rfl:args=#[v0]:=by cases args;simp_all
 obtain⟨rfl,rfl⟩:=trodVars_none hV;obtain⟨a0,len0,cap0,rfl⟩:=okWide_slice Tryz.underlying22 (hval 0 22 v0 rfl rfl);have k0:=h0;have lt0:∀x ∈ p0,x.block<W.heap.size:=by obtain⟨m,hm⟩:=k0;exact DataW.trod_lt m _ _ _ hm
 obtain⟨z0,w0⟩:∃zs,uF .i64 W a0 len0 cap0 zs:=by obtain⟨fuel,hf⟩:=h0;rcases open_ints Tryz.underlying22 Tryz.underlying3 (by kernel_rfl) hf with⟨hcs,_⟩|⟨x,l,c,zs,hcs,_,hl,hm,hz,_,hcell,hwz⟩;(·simp[Value.cells]at hcs;obtain⟨rfl,rfl,rfl⟩:=hcs;exact⟨[],.inl ⟨rfl,rfl,rfl,rfl⟩⟩);·simp[Value.cells]at hcs;obtain⟨rfl,rfl,rfl⟩:=hcs;exact⟨zs,.inr ⟨_,rfl,hl,hm,by simpa using hz,hcell,hwz⟩⟩
 have y0:len0*8<=140737488351232:=Go.Pw.PrintWords.pW hsz (j:=0) (t:=22) rfl rfl Tryz.underlying22 Tryz.underlying3 (by kernel_rfl) (by kernel_rfl) h0;clear hA0 hval0 hsz0 hsz;refine(PR.bJ.walk aDZ a0 len0 cap0 z0 W ⟨oJ hL,oI hL⟩ w0 y0).mono fun e W' ⟨he,bel⟩=>?_
 subst he;exact⟨_,rfl,_,_,_,[],_,[],hW',trodAll_mk1 (shut_bool Tryz.underlying4 _),(trodAll_cons_mk (Below.trod laidOut (by kernel_rfl) (of_decide_eq_true (by kernel_rfl)) k0 bel lt0) trodAll_mk0),rfl,bel.frame _,fun h=>by cases h⟩
theorem leaving (os:Os) (started:os.Started) (H:Type) (enc:TypeId×Value->H):
 ReturnsInLeavingWide {} Tryz.checked os 9 .any (fun w args=>(Rows.wholeDivisionSpec.pre enc Tryz.prog Tryz.f9 [] false w args/\laidMetH Tryz.prog Rows.wholeDivisionRow.laid w)/\sizedMet enc Tryz.prog Tryz.f9 (OpenSpec.ofChange Rows.wholeDivisionSpec) false w args) (Rows.wholeDivisionSpec.post enc Tryz.prog Tryz.f9 false true false false):=fun enter=>
 ReturnsInOpen.mono (fun _ _ _ h=>⟨h.2.1,mU h.1,h.2.2⟩) (fun _ x=>x) (lifted os started H enc enter)
theorem closed:joinedFacts Tryz.pinned.checked.prog 9 Tryz.f9 Rows.wholeDivisionSpec Rows.wholeDivisionRow=true:=by
 unfold joinedFacts;simp only[Bool.and_eq_true]
 repeat' apply And.intro
 all_goals (as_aux_lemma=>kernel_rfl)
theorem named:Tryz.pinned.checked.prog.funcNamed Rows.wholeDivisionRow.func=some 9:=by kernel_rfl
theorem inst:Tryz.f9.isInstance Tryz.pinned.checked.prog Rows.wholeDivisionRow.origin Rows.wholeDivisionRow.targs:=of_decide_eq_true (by kernel_rfl)
theorem wrap:Tryz.f9.isWrapper Tryz.pinned.checked.prog Rows.wholeDivisionRow.wrapper Rows.wholeDivisionRow.mainSum:=by unfold Func.isWrapper;first|(rw[if_pos (by decide +kernel)];kernel_rfl)|(rw[if_neg (by decide +kernel)];exact⟨rfl,rfl⟩)
theorem proved:Rows.WholeDivisionSaid:=
 OpenClaim.holds_of_wide_leaving 9 Tryz.f9 rfl rfl rfl rfl rfl rfl rfl ⟨rfl,rfl,rfl,rfl,rfl⟩ rfl rfl rfl rfl rfl named Tryz.func9 closed inst wrap
  (fun os started H enc _=>leaving os started H enc)
end Go.Proofs.YtjieekkkaekclaaGreatDoor.oP
namespace Go.Proofs.YtjieekkkaekclaaGreatDoor
open Go
theorem oP.goes:true=Rows.wholeDivisionRow.goesBy Tryz.pinned.checked.prog:=by kernel_rfl
theorem oP.wf:Rows.wholeDivisionRow.wfByText (OpenSpec.ofChange Rows.wholeDivisionSpec)=true:=by kernel_rfl
theorem oP.stand:∀t ∈ Tryz.f9.params,Tryz.pinned.checked.prog.wantsStandIn t=false:=by
 have h:(Tryz.f9.params.toList.all fun t=>!Tryz.pinned.checked.prog.wantsStandIn t)=true:=by kernel_rfl
 intro t ht;have:=List.all_eq_true.mp h t (Array.mem_toList_iff.mpr ht);simpa using this
theorem wholeDivision_card_holds:Rows.WholeDivisionCardSaid:=
 Claim7.lF .later [.data,.data,.data,.handle,.sentinel,.sentinel] true (true,"94bbee997c0a39bb4bce0e5287243f0f552a32c829e9b04cf75d7dfa1f5bfa40") true true
  oP.proved oP.wf wholeDivision_row_tie rfl ⟨rfl,rfl⟩ qR rfl
  (fun f fn hf hfn=>by obtain rfl:f=9:=Option.some.inj (hf.symm.trans oP.named);obtain rfl:fn=Tryz.f9:=(Option.some.inj (Tryz.func9.symm.trans hfn)).symm;exact⟨pY,fun j t ht=>oP.stand t (Array.mem_of_getElem? ht)⟩)
  oP.goes
end Go.Proofs.YtjieekkkaekclaaGreatDoor
