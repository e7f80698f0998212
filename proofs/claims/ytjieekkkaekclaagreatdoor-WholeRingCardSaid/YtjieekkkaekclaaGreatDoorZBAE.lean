/- Lemmas for the claim beside this text. -/
import Derived.Test.YtjieekkkaekclaaGreatDoorProg
import Derived.Test.YtjieekkkaekclaaGreatDoorZBAA
import Derived.Test.YtjieekkkaekclaaGreatDoorZBAC
import Derived.Test.YtjieekkkaekclaaGreatDoorZBAD
import Derived.ArgAppend
import Derived.Below
import Derived.BigQuiet
import Derived.Deep.AppendLies
import Derived.Deep.CutBlock
import Derived.Deep.DeepCutAuto
import Derived.Deep.Draws
import Derived.Deep.LoopGhost
import Derived.Deep.OwnRows
import Derived.Deep.QuietTactic
import Derived.Deep.RegionHeld3
import Derived.KernelRfl
import Derived.Laws.BitsLemmas
import Derived.Laws.BytesArg
import Derived.Laws.IdiomCopy
import Derived.Laws.MakeOwn
import Derived.Laws.OwnMore
import Derived.Laws.Rows
import Derived.Laws.Slices
import Derived.Laws.StructEq
import Derived.Lib.AppendStr
import Derived.Lib.ConvBytes
import Derived.Maps.AppendAt
import Derived.OrdersHeld
import Derived.OwnWalk
import Derived.RowKit
import Derived.RowKit3
import Derived.Tactics
import Derived.WalkKit
import Derived.WideLaws
set_option linter.all false
set_option linter.unusedVariables false
set_option linter.unusedSimpArgs false
set_option maxHeartbeats 1000000
set_option maxRecDepth 100000
namespace Go.Proofs.YtjieekkkaekclaaGreatDoor
open Go.RowKit Go.Pw.PrintWords
theorem xX:(Tryz.prog.info? 121).map (fun i=>(i.zero,i.size,i.bytes))=some (some (.int .u32 0),1,4):=by kernel_rfl
theorem aId {w:World} {base:Nat} {v:Value} {l:List Int} {ok:Nat->Prop} (h:Kd.R (Kd.int .u32) 121 w base ok v l):
 ∃A c,v = .slice A l.length c/\l.length<=c/\Kd.C (Kd.int .u32) w A l.length l:=Kd.yR h
theorem aE9 {p q out:List Int} {c:Int} {j:Nat} (hj:j<p.length) (ho:out.length=j) (x y:Int) (hx:p.getD j 0=x)
 (hy:y=if j<q.length then q.getD j 0 else 0) (h:Mw.lv 1000000000 out+1000000000^j*c=Mw.lv 1000000000 (p.take j)+Mw.lv 1000000000 (q.take j)):
 Mw.lv 1000000000 (out++[(x+c+y)%1000000000])+1000000000^(j+1)*((x+c+y)/1000000000)=Mw.lv 1000000000 (p.take (j+1))+Mw.lv 1000000000 (q.take (j+1)):=by
 have hq:Mw.lv 1000000000 (q.take (j+1))=Mw.lv 1000000000 (q.take j)+1000000000^j*y:=by by_cases h1:j<q.length;(·rw[if_pos h1]at hy;rw[Mw.iB q j h1,Mw.lC,hy,List.length_take,Nat.min_eq_left (by omega)]);·rw[if_neg h1]at hy;rw[List.take_of_length_le (by omega),List.take_of_length_le (by omega),hy];simp
 rw[Mw.iB p j hj,Mw.lC,Mw.lC,hx,hq,ho,List.length_take,Nat.min_eq_left (by omega),Int.pow_succ];generalize hP:(1000000000:Int)^j=P at *;have e:=Int.emod_add_mul_ediv (x+c+y) 1000000000;have e1:P*((x+c+y)%1000000000)+P*1000000000*((x+c+y)/1000000000)=P*(x+c+y):=by rw[Int.mul_assoc,<-Int.mul_add,e]
 have e2:P*(x+c+y)=P*x+P*c+P*y:=by rw[Int.mul_add,Int.mul_add]
 omega
theorem aJl (A0 A1:Option Addr) (l0 l1:List Int) (c0 c1:Nat) (w:World) (h0:Kd.C (Kd.int .u32) w A0 l0.length l0) (hc0:l0.length<=c0) (h1:Kd.C (Kd.int .u32) w A1 l1.length l1) (hc1:l1.length<=c1)
 (i0:Mw.inB 1000000000 l0) (i1:Mw.inB 1000000000 l1) (hm0:l0.length<=1000000) (hm1:l1.length<=1000000):
 Calls Tryz.prog 225 #[.slice A0 l0.length c0,.slice A1 l1.length c1] w fun e w'=>∃A l c,e = .returned (.slice A (List.length l) c)/\l.length<=c/\Kd.C (Kd.int .u32) w' A l.length l/\Mw.inB 1000000000 l/\Mw.lv 1000000000 l=Mw.lv 1000000000 l0+Mw.lv 1000000000 l1/\0<l.length/\l.length<=max l0.length l1.length+1/\Below w.heap.size w w':=by
 go_enter Tryz.func225,Tryz.ntmps225
 go_upto_if 13 with(fail)
 go_cut [0,1] (fun v0 v1 wc=>∃(A B:Option Addr) (p q:List Int) (cp cq:Nat),v0 = .slice A p.length cp/\v1 = .slice B q.length cq/\Hid (Kd.C (Kd.int .u32) wc A p.length p)/\Hid (Kd.C (Kd.int .u32) wc B q.length q)/\Hid (Mw.inB 1000000000 p)/\Hid (Mw.inB 1000000000 q)/\q.length<=p.length/\p.length<=1000000/\Hid (p.length=max l0.length l1.length)/\Hid (Mw.lv 1000000000 p+Mw.lv 1000000000 q=Mw.lv 1000000000 l0+Mw.lv 1000000000 l1)/\Hid (wc=w))
 case first=>
  have H0:=Lib.hid h0;have H1:=Lib.hid h1;have I0:=Lib.hid i0;have I1:=Lib.hid i1;clear h0 h1 i0 i1;by_cases hlt:l0.length<l1.length
  ·go_wp2
   go_meet
   case rel=>exact⟨A1,A0,l1,l0,c1,c0,rfl,rfl,H1,H0,I1,I0,by omega,by omega,Lib.hid (by omega),Lib.hid (Int.add_comm _ _),Lib.hid rfl⟩
  ·go_wp2
   go_meet
   case rel=>exact⟨A0,A1,l0,l1,c0,c1,rfl,rfl,H0,H1,I0,I1,by omega,by omega,Lib.hid (by omega),Lib.hid rfl,Lib.hid rfl⟩
 case rest=>
  obtain⟨A,B,p,q,cp,cq,rfl,rfl,HP,HQ,IP,IQ,hqp,hpm,HMX,HV,HW⟩:=hcut;obtain rfl:=HW.out;clear h0 h1 i0 i1 hm0 hm1 hc0 hc1 HW;obtain⟨u0,hi,hz0,hz1,hz2⟩:=info_parts xX;(go_wp2_with (at_make;refine wpList_make_own _ rfl (.const (.int .i64 0)) (.tmp 18) 69 rfl wc.heap.size 121 u0 (.int .u32 0) 1 Tryz.underlying69 hi hz0 hz1 .i64 .i64 _ (p.length+1) rfl rfl ?m1 ?m2 ?m3 ?m4 ?_;(case m1=>simp);(case m2=>rw[hz2];omega);(case m3=>unfold maxLen;omega);(case m4=>exact Nat.le_refl _);intro w5 ho5 hg5));have HR0:Kd.R (Kd.int .u32) 121 w5 wc.heap.size (fun _=>True) (.slice (some ⟨wc.heap.size,0,none⟩) 0 (p.length+1)) []:=Kd.aBT (xs:=[]) ho5 (fun _ _=>trivial);have HB5:Below wc.heap.size wc w5:=aD7 (Below.refl _ _) none (Nat.le_refl _) hg5 (fun _ h=>by cases h)
  go_loopw [5,6,22] (fun v5 v6 v22 wr=>∃(j:Nat) (out:List Int) (c:Int),j<=p.length/\v22 = .int .i64 j/\v6 = .int .u32 c/\0<=c/\c<=1/\Hid (out.length=j)/\Hid (Kd.R (Kd.int .u32) 121 wr wc.heap.size (fun _=>True) v5 out)/\Hid (Mw.inB 1000000000 out)/\Hid (Mw.lv 1000000000 out+1000000000^j*c=Mw.lv 1000000000 (p.take j)+Mw.lv 1000000000 (q.take j))/\Hid (Below wc.heap.size wc wr)) (fun _ _ v22 _=>p.length-(intOf v22).toNat)
  case atStart=>exact⟨0,[],0,by omega,rfl,rfl,by omega,by omega,Lib.hid rfl,Lib.hid HR0,Lib.hid (Mw.uX _),Lib.hid (by simp[Mw.lv]),Lib.hid HB5⟩
  case round=>
   clear ho5 hg5 HR0 HB5;obtain⟨j,out,c,hj,rfl,rfl,hc0,hc1,HL,HO,JO,HE,HB⟩:=hrel;by_cases hlt:j<p.length
   ·obtain⟨adp,eA,hcp⟩:=Kd.dF (Kd.iF HP.out HB.out) j (by omega) (by omega);obtain⟨x,hx⟩:∃x,p.getD j 0=x:=⟨_,rfl⟩;have hxb:=Mw.bW (by omega) IP.out j;rw[hx]at hxb;obtain⟨hx0,hx1⟩:=hxb;simp only[Int.toNat_natCast,rd]at hcp;rw[hx]at hcp;(have hlt':(j:Int)<p.length:=by omega);have HX:=Lib.hid hx;clear hx;subst eA;by_cases hq:j<q.length
    ·obtain⟨adq,eB,hcq⟩:=Kd.dF (Kd.iF HQ.out HB.out) j (by omega) (by omega);obtain⟨y,hy⟩:∃x,q.getD j 0=x:=⟨_,rfl⟩;have hyb:=Mw.bW (by omega) IQ.out j;rw[hy]at hyb;obtain⟨hy0,hy1⟩:=hyb;simp only[Int.toNat_natCast,rd]at hcq;rw[hy]at hcq;(have hqt':(j:Int)<q.length:=by omega);have HY:Hid (y=if j<q.length then q.getD j 0 else 0):=Lib.hid (by rw[if_pos hq];exact hy.symm);clear hy;subst eB;have HS:=Lib.hid (aE9 hlt HL.out x y HX.out HY.out HE.out);go_wp2_with (at_builtin;refine Kd.tC (Kd.int .u32) (w0:=wc) wc.heap.size rfl (.tmp 42) (.tmp 45) 69 121 (.int .u32 0) 4 rfl Tryz.underlying69 xX rfl (by decide) (by omega) u5 out ((x+c+y)%1000000000) [.int .u32 ((x+c+y)%1000000000)] (fun _=>True) (fun _=>False) rfl rfl ?aP (fun _ hk=>hk.elim) ?aF ?aO ?aB ?aS ?aL ?_;(case aP=>exact rfl);(case aB=>exact HB.out);(case aF=>exact(fun _ _=>trivial));(case aO=>exact HO.out);(case aS=>exact HB.out.size);(case aL=>have:=HL.out;omega);intro v1 w1 ho hb hg hat)
     go_roundw
     (case rel=>exact⟨j+1,_,_,hlt,by go_num,rfl,by omega,by omega,Lib.hid (by rw[List.length_append,HL.out];rfl),Lib.hid ho,Lib.hid (Mw.sN.mpr ⟨JO.out,Mw.nJ.mpr ⟨⟨by omega,by omega⟩,Mw.uX _⟩⟩),HS,Lib.hid hb⟩);case measure=>simp[intOf];omega
    ·have hqt':¬(j:Int)<q.length:=by omega
     have HS:Hid (Mw.lv 1000000000 (out++[(x+c)%1000000000])+1000000000^(j+1)*((x+c)/1000000000)=Mw.lv 1000000000 (p.take (j+1))+Mw.lv 1000000000 (q.take (j+1))):=
      Lib.hid (by have h:=aE9 hlt HL.out x 0 HX.out (by rw[if_neg hq]) HE.out;rwa[Int.add_zero]at h)
     go_wp2_with (at_builtin;refine Kd.tC (Kd.int .u32) (w0:=wc) wc.heap.size rfl (.tmp 42) (.tmp 45) 69 121 (.int .u32 0) 4 rfl Tryz.underlying69 xX rfl (by decide) (by omega) u5 out ((x+c)%1000000000) [.int .u32 ((x+c)%1000000000)] (fun _=>True) (fun _=>False) rfl rfl ?aP (fun _ hk=>hk.elim) ?aF ?aO ?aB ?aS ?aL ?_;(case aP=>exact rfl);(case aB=>exact HB.out);(case aF=>exact(fun _ _=>trivial));(case aO=>exact HO.out);(case aS=>exact HB.out.size);(case aL=>have:=HL.out;omega);intro v1 w1 ho hb hg hat)
     go_roundw
     (case rel=>exact⟨j+1,_,_,hlt,by go_num,rfl,by omega,by omega,Lib.hid (by rw[List.length_append,HL.out];rfl),Lib.hid ho,Lib.hid (Mw.sN.mpr ⟨JO.out,Mw.nJ.mpr ⟨⟨by omega,by omega⟩,Mw.uX _⟩⟩),HS,Lib.hid hb⟩);case measure=>simp[intOf];omega
   ·(obtain rfl:j=p.length:=by omega);go_wp2_with (at_builtin;refine Kd.tC (Kd.int .u32) (w0:=wc) wc.heap.size rfl (.tmp 48) (.tmp 50) 69 121 (.int .u32 0) 4 rfl Tryz.underlying69 xX rfl (by decide) (by omega) u5 out (c) [.int .u32 (c)] (fun _=>True) (fun _=>False) rfl rfl ?aP (fun _ hk=>hk.elim) ?aF ?aO ?aB ?aS ?aL ?_;(case aP=>exact rfl);(case aB=>exact HB.out);(case aF=>exact(fun _ _=>trivial));(case aO=>exact HO.out);(case aS=>exact HB.out.size);(case aL=>have:=HL.out;omega);intro v1 w1 ho hb hg hat)
    go_ret
    obtain⟨A',cap,rfl,hcap,hC⟩:=aId ho;refine⟨A',_,cap,rfl,hcap,hC,Mw.sN.mpr ⟨JO.out,Mw.nJ.mpr ⟨⟨by omega,by omega⟩,Mw.uX _⟩⟩,?_,by simp,?_,hb⟩;(·have h:=HE.out;rw[List.take_length,List.take_of_length_le hqp,HV.out]at h;rw[Mw.lC,HL.out,h]);·rw[List.length_append,HL.out,HMX.out];exact Nat.le_refl _
end Go.Proofs.YtjieekkkaekclaaGreatDoor
namespace Go.Pw.PrintLast
open Go.Pw.PrintWords (aA)
def aAQ (md:Region.Mode) (o:Oper):List Nat:=(o.after.toList.filter (fun e=>Region.binds md e)).map (fun e=>e.on)
def aFc (md:Region.Mode) (ops:Array Oper) (i:Nat) (oi:Oper):List Nat:=(List.range ops.size).filter fun j=>!(j == i) && match ops[j]? with
 | some oj=>!(oj.after.any (fun e=>Region.binds md e && e.on == i) || oi.apart ops oj)
 | none=>false
def nM (md:Region.Mode) (ops:Array Oper):Bool×List (List Nat×List Nat):=(Region.noSelect ops,(List.range ops.size).map fun i=>match ops[i]? with
 | some o=>(aAQ md o,aFc md ops i o)
 | none=>([],[]))
def zQ (T:List (List Nat×List Nat)) (l:List Bool) (i:Nat):Bool:=!l.getD i true && match T[i]? with
 | some r=>r.1.all (fun j=>l.getD j false)
 | none=>false
def aC3 (T:List (List Nat×List Nat)) (l:List Bool):List Nat:=(List.range T.length).filter (zQ T l)
def aGf (T:List (List Nat×List Nat)) (l:List Bool) (i:Nat):Bool:=match T[i]? with
 | some r=>r.2.all (fun j=>l.getD j true)
 | none=>false
def aCC (T:List (List Nat×List Nat)) (l:List Bool):Bool:=(List.range T.length).all fun j=>!l.getD j false || match T[j]? with
 | some r=>r.1.all (fun k=>l.getD k false)
 | none=>true
def aC5 (T:List (List Nat×List Nat)) (i:Nat):Nat->Nat->Bool
 | 0,_=>false
 | fuel+1,d=>match T[d]? with
  | some r=>r.1.any fun j=>j == i || aC5 T i fuel j
  | none=>false
def lastT (T:List (List Nat×List Nat)) (l:List Bool) (ds:List Nat) (i:Nat):Bool:=ds.all fun d=>l.getD d true || aC5 T i T.length d
section
variable {md:Region.Mode} {ops:Array Oper} {T:Bool×List (List Nat×List Nat)} {l l' li lj lk:Array Bool} {ds:List Nat} {i j k:Nat}
theorem gd (l:Array Bool) (j:Nat) (b:Bool):l.getD j b=l.toList.getD j b:=by simp[Array.getD_eq_getD_getElem?,List.getD_eq_getElem?_getD]
theorem aEo (o:Oper) (p:Nat->Bool):o.after.all (fun e=>!Region.binds md e || p e.on)=(aAQ md o).all p:=by
 unfold aAQ;rw[<-Array.all_toList];induction o.after.toList with
 | nil=>rfl
 | cons e r ih=>rw[List.all_cons,ih,List.filter_cons];cases h:Region.binds md e<;>simp
theorem aIn (o:Oper) (p:Nat->Bool):o.after.any (fun e=>Region.binds md e && p e.on)=(aAQ md o).any p:=by
 unfold aAQ;rw[<-Array.any_toList];induction o.after.toList with
 | nil=>rfl
 | cons e r ih=>rw[List.any_cons,ih,List.filter_cons];cases h:Region.binds md e<;>simp
theorem zP:(nM md ops).2.length=ops.size:=by simp[nM]
theorem aAO {o:Oper} (h:ops[i]?=some o):(nM md ops).2[i]?=some (aAQ md o,aFc md ops i o):=by have hi:=(Array.getElem?_eq_some_iff.1 h).1;unfold nM;rw[List.getElem?_map,List.getElem?_range hi,Option.map_some,h]
theorem aAP (h:ops[i]?=none):(nM md ops).2[i]?=none:=by have hi:ops.size<=i:=Array.getElem?_eq_none_iff.1 h;exact List.getElem?_eq_none (by rw[zP];exact hi)
theorem aGI:zQ (nM md ops).2 l.toList i=(!l.getD i true && ((ops[i]?).map (·.after.all fun e=>!Region.binds md e || l.getD e.on false)).getD false):=by
 unfold zQ;rw[gd];cases h:ops[i]? with
 | none=>rw[aAP h];rfl
 | some o=>rw[aAO h];simp only[Option.map_some,Option.getD_some];rw[<-aEo];simp only[gd]
theorem ready_eq:Region.ready md ops l=aC3 (nM md ops).2 l.toList:=by unfold Region.ready aC3;rw[zP];refine List.filter_congr (fun i _=>?_);rw[aGI]
theorem free_eq:Region.free md ops l i=aGf (nM md ops).2 l.toList i:=by
 unfold Region.free aGf;cases h:ops[i]? with
 | none=>rw[aAP h]
 | some oi=>
  rw[aAO h];simp only[aFc];rw[List.all_filter];(congr 1);(funext j);rw[gd];cases hj:ops[j]? with
  | none=>cases(j == i)<;>cases(l.toList.getD j true)<;>simp
  | some oj=>cases(j == i)<;>cases(l.toList.getD j true)<;>cases(oj.after.any (fun e=>Region.binds md e && e.on == i) || oi.apart ops oj)<;>simp_all
theorem aID:Region.aBM md ops l=aCC (nM md ops).2 l.toList:=by
 unfold Region.aBM aCC;rw[zP];congr 1
 funext j
 rw[gd];cases h:ops[j]? with
 | none=>rw[aAP h]
 | some o=>rw[aAO h];simp only;rw[<-aEo];simp only[gd]
theorem aFJ:∀(fuel d:Nat),Region.yH md ops i fuel d=aC5 (nM md ops).2 i fuel d
 | 0,_=>rfl
 | fuel+1,d=>by
  unfold Region.yH aC5;cases h:ops[d]? with
  | none=>rw[aAP h]
  | some o=>rw[aAO h];simp only;rw[<-aIn];(congr 1);(funext e);rw[aFJ fuel]
theorem aLu:Region.lastB md ops l ds i=lastT (nM md ops).2 l.toList ds i:=by
 unfold Region.lastB lastT;rw[zP];congr 1
 funext d
 rw[gd,aFJ]
theorem aCl (h:zQ T.2 l.toList i=true) (hT:nM md ops=T):(Region.ready md ops l).contains i=true:=by
 subst hT;rw[ready_eq];unfold aC3;rw[List.contains_iff_mem,List.mem_filter,List.mem_range];refine⟨?_,h⟩;unfold zQ at h;rw[Bool.and_eq_true]at h;cases hq:(nM md ops).2[i]? with
 | none=>rw[hq]at h;simp at h
 | some r=>exact(List.getElem?_eq_some_iff.1 hq).1
theorem aCZ (h:(l.toList.set i true == l'.toList)=true):(l.setIfInBounds i true == l')=true:=by rw[beq_iff_eq]at h⊢;apply Array.ext';rw[Array.toList_setIfInBounds];exact h
def aGx (T:Bool×List (List Nat×List Nat)) (l l':List Bool) (i:Nat):Bool:=T.1 && aGf T.2 l i && zQ T.2 l i && (l.set i true == l')
theorem aA1 (hT:nM md ops=T) (h:aGx T l.toList l'.toList i=true):aKA md ops l l' i=true:=by simp only[aGx,Bool.and_eq_true]at h;obtain⟨⟨⟨h1,h2⟩,h3⟩,h4⟩:=h;have h5:=aCl h3 hT;have h6:=aCZ h4;subst hT;simp only[aKA,Bool.and_eq_true];exact⟨⟨⟨h1,by rw[free_eq];exact h2⟩,h5⟩,h6⟩
def aJk (T:Bool×List (List Nat×List Nat)) (ds:List Nat) (l l':List Bool) (i:Nat):Bool:=T.1 && aGf T.2 l i && zQ T.2 l i && aCC T.2 l && lastT T.2 l ds i && (l.set i true == l')
theorem aL1 (hT:nM md ops=T) (h:aJk T ds l.toList l'.toList i=true):takeB md ops ds l l' i=true:=by simp only[aJk,Bool.and_eq_true]at h;obtain⟨⟨⟨⟨⟨h1,h2⟩,h3⟩,h4⟩,h5⟩,h6⟩:=h;have h7:=aCl h3 hT;have h8:=aCZ h6;subst hT;simp only[takeB,Bool.and_eq_true];exact⟨⟨⟨⟨⟨h1,by rw[free_eq];exact h2⟩,h7⟩,by rw[aID];exact h4⟩,by rw[aLu];exact h5⟩,h8⟩
theorem bZ (hT:nM md ops=T) (h:(aC3 T.2 l.toList == [i] && l.toList.set i true == l'.toList)=true):aC4 md ops l l' i=true:=by simp only[Bool.and_eq_true]at h;obtain⟨h1,h2⟩:=h;subst hT;simp only[aC4,Bool.and_eq_true];exact⟨by rw[ready_eq];exact h1,aCZ h2⟩
theorem aJf (hT:nM md ops=T) (h:(aC3 T.2 l.toList == [i,j] && l.toList.set i true == li.toList && l.toList.set j true == lj.toList)=true):(Region.ready md ops l == [i,j] && l.setIfInBounds i true == li && l.setIfInBounds j true == lj)=true:=by simp only[Bool.and_eq_true]at h⊢;obtain⟨⟨h1,h2⟩,h3⟩:=h;subst hT;exact⟨⟨by rw[ready_eq];exact h1,aCZ h2⟩,aCZ h3⟩
theorem bV (hT:nM md ops=T) (h:(aC3 T.2 l.toList == [])=true):(Region.ready md ops l == [])=true:=by subst hT;rw[ready_eq];exact h
def upM (B:List Nat) (d:Nat):List Nat->Nat
 | []=>0
 | n::r=>(2^n ||| (if n<d then B.getD n 0 else 0)) ||| upM B d r
def jG (T:List (List Nat×List Nat)) (B:List Nat):Bool:=(List.range T.length).all fun d=>match T[d]? with
 | some r=>(B.getD d 0 ||| upM B d r.1) == upM B d r.1
 | none=>false
theorem aHt {B:List Nat} {d i:Nat}:∀{ns:List Nat},(upM B d ns).testBit i=true->∃n ∈ ns,n=i\/(n<d/\(B.getD n 0).testBit i=true)
 | [],h=>by simp[upM]at h
 | n::r,h=>by unfold upM at h;rw[Nat.testBit_or,Nat.testBit_or,Bool.or_eq_true,Bool.or_eq_true]at h;rcases h with(h|h)|h;(·rw[Nat.testBit_two_pow]at h;exact⟨n,List.mem_cons_self,.inl (by simpa using h)⟩);(·by_cases hn:n<d;(·rw[if_pos hn]at h;exact⟨n,List.mem_cons_self,.inr ⟨hn,h⟩⟩);·rw[if_neg hn]at h;simp at h);·obtain⟨m,hm,h2⟩:=aHt h;exact⟨m,List.mem_cons_of_mem _ hm,h2⟩
theorem aEf {T:List (List Nat×List Nat)} {B:List Nat} (hB:jG T B=true):∀(fuel d:Nat),d<fuel->d<T.length->(B.getD d 0).testBit i=true->aC5 T i fuel d=true
 | 0,d,h,_,_=>by omega
 | fuel+1,d,h,hd,hb=>by
  have h1:=List.all_eq_true.1 hB d (List.mem_range.2 hd);cases hr:T[d]? with
  | none=>rw[hr]at h1;simp at h1
  | some r=>rw[hr]at h1;simp only[beq_iff_eq]at h1;(have h2:(upM B d r.1).testBit i=true:=by rw[<-h1,Nat.testBit_or,hb,Bool.true_or]);obtain⟨n,hn,h3⟩:=aHt h2;unfold aC5;rw[hr];simp only;rw[List.any_eq_true];refine⟨n,hn,?_⟩;rcases h3 with rfl|⟨h4,h5⟩;(·simp);·rw[aEf hB fuel n (by omega) (by omega) h5,Bool.or_true]
def aMd (T:List (List Nat×List Nat)) (B:List Nat) (l:List Bool) (ds:List Nat) (i:Nat):Bool:=ds.all fun d=>l.getD d true || (decide (d<T.length) && (B.getD d 0).testBit i)
def aM7 (T:Bool×List (List Nat×List Nat)) (B:List Nat) (ds:List Nat) (l l':List Bool) (i:Nat):Bool:=T.1 && aGf T.2 l i && zQ T.2 l i && aCC T.2 l && aMd T.2 B l ds i && (l.set i true == l')
theorem iJ {B:List Nat} (hT:nM md ops=T) (hB:jG T.2 B=true) (h:aM7 T B ds l.toList l'.toList i=true):takeB md ops ds l l' i=true:=by
 refine aL1 hT ?_;simp only[aM7,aJk,Bool.and_eq_true]at h⊢;obtain⟨⟨⟨⟨⟨h1,h2⟩,h3⟩,h4⟩,h5⟩,h6⟩:=h;refine⟨⟨⟨⟨⟨h1,h2⟩,h3⟩,h4⟩,?_⟩,h6⟩;unfold aMd at h5;unfold lastT;rw[List.all_eq_true]at h5⊢;intro d hd;have h7:=h5 d hd;rw[Bool.or_eq_true,Bool.and_eq_true,decide_eq_true_eq]at h7;rcases h7 with h7|⟨h8,h9⟩;·rw[h7,Bool.true_or]
 ·rw[aEf hB _ d h8 h8 h9,Bool.or_true]
theorem bF {P:Program} {Q:Exit->Act->World->Prop} {S:World->Prop} {n:Nat} {a:Act} {w:World} {B:List Nat} (hT:nM md ops=T) (hB:jG T.2 B=true) (h:aA (nM md ops=T)->aA (jG T.2 B=true)->iG P md ops Q S ds n l a w):iG P md ops Q S ds n l a w:=h ⟨hT⟩ ⟨hB⟩
end
def aB4:Code->Nat->Option (Array Oper)
 | .region id ops _,k=>if id == k then some ops else none
 | .seq a b,k=>match aB4 a k with
  | some o=>some o
  | none=>aB4 b k
 | .cond _ a b,k=>match aB4 a k with
  | some o=>some o
  | none=>aB4 b k
 | .block _ c,k=>aB4 c k
 | .loop c,k=>aB4 c k
 | .scope c,k=>aB4 c k
 | .rangeFunc _ _ a b,k=>match aB4 a k with
  | some o=>some o
  | none=>aB4 b k
 | _,_=>none
def opsOf (f:Func) (k:Nat):Array Oper:=((f.body.bind fun c=>aB4 c k)).getD #[]
end Go.Pw.PrintLast
namespace Go.Pw.PrintWords
open Go.RowKit
namespace Kd
def tag {α:Type} (f:Nat->Nat) (d:Kd α):Kd (α×Nat) where
 sz:=d.sz
 E:=d.E
 K:=fun w x cs=>d.K w x.1 cs
 M:=fun w base ok x cs=>d.M w base (fun k=>ok k/\f k=x.2) x.1 cs
 K_len:=fun h=>d.K_len h
 K_one:=fun h=>d.K_one h
 K_below:=fun hb h=>d.K_below hb h
 K_of_M:=fun h=>d.K_of_M h
 M_mono:=fun hok h=>d.M_mono (fun k hk=>⟨hok k hk.1,hk.2⟩) h
 M_bound:=fun h=>d.M_mono (fun _ hk=>⟨⟨hk.1.1,hk.2⟩,hk.1.2⟩) (d.M_bound h)
 M_move:=fun hm h=>d.M_move (fun k hk=>hm k hk.1) h
 M_lower:=fun hb h=>d.M_lower hb h
def raw (sz:Nat):Kd (List Value) where
 sz:=sz
 E:=[]
 K:=fun _ x cs=>cs=x/\cs.length=sz/\∀u ∈ cs,u.oneCell'=true
 M:=fun _ _ _ x cs=>cs=x/\cs.length=sz/\∀u ∈ cs,u.oneCell'=true
 K_len:=fun h=>h.2.1
 K_one:=fun h=>h.2.2
 K_below:=fun _ h=>h
 K_of_M:=fun h=>h
 M_mono:=fun _ h=>h
 M_bound:=fun h=>h
 M_move:=fun _ h=>h
 M_lower:=fun _ h=>h
def S {α:Type} (d:Kd α) (e:Nat) (w:World) (base:Nat) (ok:Nat->Prop) (v:Value) (xs:List α):Prop:=∃f,(tag f d).R e w base ok v xs.zipIdx
section
variable {α β:Type} {d:Kd α} {d':Kd β} {e e':Nat} {w w1 W:World} {base b:Nat} {ok ok' okv oku:Nat->Prop} {u v:Value} {xs:List α} {ys:List β}
theorem aNm {xs:List α} {j:Nat} {p:α} (h:xs[j]?=some p):xs.zipIdx[j]?=some (p,j):=by rw[List.getElem?_zipIdx,h,Nat.zero_add];rfl
theorem nW (hE:d.E=[]) (h:d.R e w base ok v xs):d.R e w base (fun k=>some k=v.ownBlock) v xs:=by obtain⟨h0,inner,ho,hr⟩:=h;refine⟨fun k hk=>hk.symm,inner,ho,hr.uU (fun p c hp=>d.M_mono (fun k hk=>?_) (d.M_bound hp))⟩;obtain⟨_,_,_,q,hq,_⟩:=hk;rw[hE]at hq;cases hq
theorem wL (d:Kd α) (e:Nat) (w:World) (base:Nat) (ok:Nat->Prop):S d e w base ok (.slice none 0 0) []:=⟨fun _=>0,tT _ _ _ _ _⟩
theorem aNu {f f':Nat->Nat} {zs:List (α×Nat)} (h:(tag f d).R e w base ok v zs) (hf:∀k,ok k->k<w.heap.size->f' k=f k):(tag f' d).R e w base ok v zs:=by obtain⟨h0,inner,ho,hr⟩:=jZ h;exact⟨fun k hk=>(h0 k hk).1,inner,ho,hr.1,fun j p hj=>d.M_mono (fun k hk=>⟨⟨hk.1.1.1,hk.1.2⟩,(hf k hk.1.1.1 hk.1.1.2.2.1).trans hk.2⟩) (hr.2 j p hj)⟩
end
def gap {α:Type} (f:Nat->Nat) (d:Kd α) (i:Nat) (c:List Value):Kd (α×Nat) where
 sz:=d.sz
 E:=d.E
 K:=fun w x cs=>(x.2=i->cs=c/\cs.length=d.sz/\∀u ∈ cs,u.oneCell'=true)/\(x.2≠i->d.K w x.1 cs)
 M:=fun w base ok x cs=>(x.2=i->cs=c/\cs.length=d.sz/\∀u ∈ cs,u.oneCell'=true)/\(x.2≠i->d.M w base (fun k=>ok k/\f k=x.2) x.1 cs)
 K_len:=fun {w x cs} h=>by
  by_cases hx:x.2=i
  ·exact(h.1 hx).2.1
  ·exact d.K_len (h.2 hx)
 K_one:=fun {w x cs} h=>by
  by_cases hx:x.2=i
  ·exact(h.1 hx).2.2
  ·exact d.K_one (h.2 hx)
 K_below:=fun hb h=>⟨h.1,fun hx=>d.K_below hb (h.2 hx)⟩
 K_of_M:=fun h=>⟨h.1,fun hx=>d.K_of_M (h.2 hx)⟩
 M_mono:=fun hok h=>⟨h.1,fun hx=>d.M_mono (fun k hk=>⟨hok k hk.1,hk.2⟩) (h.2 hx)⟩
 M_bound:=fun h=>⟨h.1,fun hx=>d.M_mono (fun _ hk=>⟨⟨hk.1.1,hk.2⟩,hk.1.2⟩) (d.M_bound (h.2 hx))⟩
 M_move:=fun hm h=>⟨h.1,fun hx=>d.M_move (fun k hk=>hm k hk.1) (h.2 hx)⟩
 M_lower:=fun hb h=>⟨h.1,fun hx=>d.M_lower hb (h.2 hx)⟩
def H {α:Type} (d:Kd α) (e:Nat) (w:World) (base:Nat) (ok:Nat->Prop) (v:Value) (xs:List α) (i:Int) (oki:Nat->Prop) (c:List Value):Prop:=
 (∀k,oki k->ok k)/\∃f,(gap f d i.toNat c).R e w base (fun k=>ok k/\¬oki k) v xs.zipIdx
end Kd
end Go.Pw.PrintWords
namespace Go.Pw.PrintWords
open Go.RowKit
namespace Kd
structure Heap {α:Type} (d:Kd α):Prop where
 K:∀{w w1:World} {x:α} {cs:List Value},(∀k,k<w.heap.size->w1.heap[k]?=w.heap[k]?)->d.K w x cs->d.K w1 x cs
theorem aIG {w w1:World} (hb:∀k,k<w.heap.size->w1.heap[k]?=w.heap[k]?) {a:Addr} {v:Value} (h:w.cell? a=some v):w1.cell? a=some v:=by have:=hb a.block (World.block_lt_of_cell? w a h);simpa [World.cell?,this]using h
theorem Heap.C {α:Type} {d:Kd α} (hd:Heap d) {w w1:World} {A:Option Addr} {n:Nat} {xs:List α} (hb:∀k,k<w.heap.size->w1.heap[k]?=w.heap[k]?) (h:d.C w A n xs):d.C w1 A n xs:=
 ⟨h.1,h.2.1,fun hn=>by obtain⟨ad,e,hc⟩:=h.2.2 hn;refine⟨ad,e,fun j p hj=>?_⟩;obtain⟨c,hs,hr,hcell⟩:=hc j p hj;exact⟨c,hs,hd.K hb hr,fun i u hu=>aIG hb (hcell i u hu)⟩⟩
end Kd
end Go.Pw.PrintWords
namespace Go.Pw.PrintWords
open Go.RowKit
def Kept (w W:World) (S:Nat->Prop):Prop:=w.heap.size<=W.heap.size/\∀i,i<w.heap.size->¬S i->W.heap[i]?=w.heap[i]?
section
variable {w W W2:World} {S S2 S':Nat->Prop}
theorem Kept.refl (w:World) (S:Nat->Prop):Kept w w S:=⟨Nat.le_refl _,fun _ _ _=>rfl⟩
theorem Kept.of_below (h:Below w.heap.size w W) (S:Nat->Prop):Kept w W S:=⟨h.size,fun i hi _=>h.block i hi⟩
theorem Kept.mono (h:Kept w W S) (hs:∀k,S k->S' k):Kept w W S':=⟨h.1,fun i hi hn=>h.2 i hi (fun hk=>hn (hs i hk))⟩
theorem Kept.aE6 (h:Kept w W S) (k:Kept W W2 S2) (hs:∀k,S2 k->S k\/w.heap.size<=k):Kept w W2 S:=
 ⟨Nat.le_trans h.1 k.1,fun i hi hn=>(k.2 i (Nat.lt_of_lt_of_le hi h.1) (fun h2=>(hs i h2).elim hn (fun h3=>by omega))).trans (h.2 i hi hn)⟩
theorem Kept.aFT {row:Option Nat} (hg:W.grownBy W2 row) (h:Kept w W S) (hr:∀k,row=some k->S k\/w.heap.size<=k):Kept w W2 S:=
 h.aE6 (S2:=fun k=>row=some k) ⟨hg.size,fun i hi hn=>hg.block i hi (fun he=>hn he.symm)⟩ hr
theorem Kept.below (h:Kept w W S) (hb:Below W.heap.size W W2):Kept w W2 S:=h.aE6 (Kept.of_below hb (fun _=>False)) (fun _ hk=>hk.elim)
theorem Kept.alloc (h:Kept w W S) (o:Obj):Kept w (W.alloc o) S:=h.below (bA (Below.refl _ _) o)
theorem Kept.drew (h:Kept w W S):Kept w W.drew S:=h
theorem Kept.drewN (h:Kept w W S) (m:Nat):Kept w (W.drewN m) S:=h
theorem Kept.setCell (h:Kept w W S) {p:Addr} (hp:S p.block\/w.heap.size<=p.block) (u:Value):Kept w (W.setCell p u) S:=
 h.aE6 (S2:=fun k=>k=p.block) ⟨by simp[World.setCell],fun i _ hn=>Below.heap_setCell W p u i hn⟩ (fun k hk=>by rw[hk];exact hp)
theorem aKq {g:Nat} {o:Obj} (hb:W.heap[g]?=some o) (hk:Kept W W2 S) (hne:¬S g):W2.heap[g]?=some o:=(hk.2 g (aDF hb) hne).trans hb
theorem cell_kept {a:Addr} {v:Value} (hc:W.cell? a=some v) (hk:Kept W W2 S) (hne:¬S a.block):W2.cell? a=some v:=by have:=hk.2 a.block (World.block_lt_of_cell? W a hc) hne;simpa [World.cell?,this]using hc
end
namespace Kd
section
variable {α:Type} {d:Kd α} {e base n c:Nat} {ok oki S S2:Nat->Prop} {w w0 W W1 W2:World} {v:Value} {A:Option Addr} {xs:List α} {i:Int} {cs:List Value}
theorem xM (h:d.R e W base ok v xs) (hk:Kept W W2 S) (hne:∀k,ok k->¬S k):d.R e W2 base ok v xs:=aAK h (fun k ho hlt=>hk.2 k hlt (hne k ho))
theorem aHr (h:d.R e W base ok (.slice A n c) xs) (hok:∀k,ok k->¬S k):∀W',Kept W W' S->d.C W' A n xs:=fun W' hk=>by have h2:=aJ (xM h hk hok);rw[h2.1];exact h2.2.2
end
end Kd
end Go.Pw.PrintWords
namespace Go.Pw.PrintWords
open Go.RowKit
def uW (P:World->Prop) (W:World) (ok:Nat->Prop):Prop:=∀W':World,(∀k,ok k->k<W.heap.size->W'.heap[k]?=W.heap[k]?)->P W'
theorem aLy {W W1:World} {k:Nat} (h:W1.heap[k]?=W.heap[k]?) (hlt:k<W.heap.size):k<W1.heap.size:=by rw[Array.getElem?_eq_getElem hlt]at h;exact(Array.getElem?_eq_some_iff.1 h).1
namespace uW
variable {P Q:World->Prop} {W W1:World} {ok ok':Nat->Prop}
theorem now (h:uW P W ok):P W:=h W (fun _ _ _=>rfl)
theorem mono (h:uW P W ok) (hok:∀k,ok k->ok' k):uW P W ok':=fun W' hW=>h W' (fun k hk hlt=>hW k (hok k hk) hlt)
theorem bound (h:uW P W ok):uW P W (fun k=>ok k/\k<W.heap.size):=fun W' hW=>h W' (fun k hk hlt=>hW k ⟨hk,hlt⟩ hlt)
theorem step (h:uW P W ok) (hm:∀k,ok k->k<W.heap.size->W1.heap[k]?=W.heap[k]?):uW P W1 ok:=fun W' hW=>h W' (fun k hk hlt=>(hW k hk (aLy (hm k hk hlt) hlt)).trans (hm k hk hlt))
theorem imp (h:uW P W ok) (hi:∀W',P W'->Q W'):uW Q W ok:=fun W' hW=>hi W' (h W' hW)
theorem old (h:uW P W ok) (hb:Below W.heap.size W W1):uW P W1 (fun k=>ok k/\k<W.heap.size):=(h.bound).step (fun k _ hlt=>hb.block k hlt)
end uW
namespace Kd
def F {α:Type} (d:Kd α) (W:World) (ok:Nat->Prop) (A:Option Addr) (n:Nat) (xs:List α):Prop:=uW (fun W=>d.C W A n xs) W ok
def FK {α:Type} (d:Kd α) (W:World) (ok:Nat->Prop) (x:α) (c:List Value):Prop:=uW (fun W=>d.K W x c) W ok
section
variable {α β:Type} {d:Kd α} {e base n n' cc g N:Nat} {ok ok' okp S:Nat->Prop} {w w0 w1 W W1:World} {A A':Option Addr} {u v v1:Value} {xs:List α} {xs':List β} {d':Kd β} {x:α} {c:List Value}
theorem aNj (h:F d W ok A n xs):d.C W A n xs:=uW.now h
theorem aAL (h:F d W ok A n xs) (hok:∀k,ok k->ok' k):F d W ok' A n xs:=uW.mono h hok
theorem aMU (h:F d W ok A n xs) (hm:∀k,ok k->k<W.heap.size->W1.heap[k]?=W.heap[k]?):F d W1 ok A n xs:=uW.step h hm
theorem aNl (h:F d W ok A n xs) (hi:∀W',d.C W' A n xs->d'.C W' A' n' xs'):F d' W ok A' n' xs':=uW.imp h hi
theorem aCF (h:F d W ok A n xs) (hb:Below W.heap.size W W1):F d W1 ok A n xs:=aMU h (fun k _ hlt=>hb.block k hlt)
theorem aM4 (h:F d W ok A n xs) (o:Obj):F d (W.alloc o) ok A n xs:=aCF h (bA (Below.refl _ _) o)
theorem aMV (h:F d W ok A n xs):F d W.drew ok A n xs:=aCF h (bN (Below.refl _ _))
theorem aM3 (h:F d W ok A n xs) (m:Nat):F d (W.drewN m) ok A n xs:=aCF h (bI (Below.refl _ _) m)
theorem aNk (d:Kd α) (W:World) (ok:Nat->Prop):F d W ok none ([]:List α).length []:=fun W' _=>aMg d W'
theorem aKN (h:F d W ok A n xs) (hbase:∀k,v.ownBlock=some k->W.heap.size<=k) (hb:Below W.heap.size W W1):F d W1 (fun k=>ok k/\some k≠v.ownBlock) A n xs:=
 aAL (uW.old h hb) (fun k hk=>⟨hk.1,fun he=>by have:=hbase k he.symm;have:=hk.2;omega⟩)
theorem R_F (h:d.R e W base ok (.slice A n cc) xs):F d W ok A n xs:=fun W' hW=>by have h2:=aJ (aAK h hW);rw[h2.1];exact h2.2.2
theorem aM5 (h:d.M W base ok x c):FK d W ok x c:=fun _ hW=>d.K_of_M (aKI h hW)
end
end Kd
end Go.Pw.PrintWords
namespace Go.Pw.PrintWords
open Go.RowKit
namespace Kd
def chunks (sz:Nat) (n:Nat) (inner:List Value):List (List Value):=(List.range n).map fun j=>(inner.drop (j*sz)).take sz
theorem uV (sz n:Nat) (inner:List Value):(chunks sz n inner).length=n:=by simp[chunks]
theorem aIE {sz n:Nat} {inner:List Value} {j:Nat} (hj:j<n):(chunks sz n inner)[j]?=some ((inner.drop (j*sz)).take sz):=by simp[chunks,hj]
theorem aDC {sz n:Nat} {inner:List Value} {j:Nat} {c:List Value} (h:(chunks sz n inner)[j]?=some c):c=(inner.drop (j*sz)).take sz:=by
 have hj:j<n:=by have:=(List.getElem?_eq_some_iff.1 h).1;rwa[uV]at this
 rw[aIE hj]at h;injection h with h;exact h.symm
theorem aJr {α:Type} {Rr:α->List Value->Prop} {sz:Nat} {xs:List α} {inner:List Value} (h:fA Rr sz xs inner) (hR:∀x c,Rr x c->c.length=sz/\∀u ∈ c,u.oneCell'=true):fA (fun x cs=>cs=x/\cs.length=sz/\∀u ∈ cs,u.oneCell'=true) sz (chunks sz xs.length inner) inner:=by
 refine⟨by rw[uV];exact h.1,fun j p hj=>?_⟩;have hjl:j<xs.length:=by have:=(List.getElem?_eq_some_iff.1 hj).1;rwa[uV]at this
 have hp:=aDC hj;exact⟨hp.symm,hR _ _ (h.2 j _ (List.getElem?_eq_getElem hjl))⟩
section
variable {α:Type} {d:Kd α} {e base n cc g:Nat} {ok ok' okp S:Nat->Prop} {w w1 W W1:World} {A:Option Addr} {u v v1:Value} {xs:List α} {x:α} {c:List Value}
def N {α:Type} (d:Kd α) (e:Nat) (w:World) (base:Nat) (ok:Nat->Prop) (v:Value) (xs:List α):Prop:=
 (∀k,v.ownBlock=some k->ok k)/\∃rows:List (List Value),rows.length=xs.length/\(raw d.sz).R e w base (fun k=>some k=v.ownBlock) v rows/\∀(j:Nat) (x:α) (c:List Value),xs[j]?=some x->rows[j]?=some c->FK d w (fun k=>ok k/\some k≠v.ownBlock) x c
theorem R_N (h:d.R e w base ok v xs):N d e w base ok v xs:=by obtain⟨h0,inner,ho,hr⟩:=h;refine⟨h0,chunks d.sz xs.length inner,uV _ _ _,⟨fun k hk=>hk.symm,inner,by rw[uV];exact ho,aJr hr (fun x c hp=>⟨d.K_len (d.K_of_M hp),d.K_one (d.K_of_M hp)⟩)⟩,fun j x c hx hc=>?_⟩;rw[aDC hc];exact aM5 (hr.2 j x hx)
theorem wN (d:Kd α) (e:Nat) (w:World) (base:Nat) (ok:Nat->Prop):N d e w base ok (.slice none 0 0) []:=R_N (tT _ _ _ _ _)
end
end Kd
end Go.Pw.PrintWords
namespace Go.Pw.PrintWords
theorem fA.one {α:Type} {R:α->List Value->Prop} {ps:List α} {cs:List Value} {p:α} {v:Value} (hp:R p [v]) (h:fA R 1 ps cs):fA R 1 (p::ps) (v::cs):=by
 refine⟨by simp[h.1],fun j q hq=>?_⟩;cases j with
 | zero=>simp only[List.getElem?_cons_zero,Option.some.injEq]at hq;subst hq;simpa using hp
 | succ j=>simp only[List.getElem?_cons_succ]at hq;have h1:=h.2 j q hq;simpa [Nat.mul_one]using h1
theorem fA.front {α:Type} {R:α->List Value->Prop} {size:Nat} {ps:List α} {cs c all:List Value} {p:α} (hp:R p c) (hc:c.length=size) (h:fA R size ps cs) (ha:c++cs=all):fA R size (p::ps) all:=by
 subst ha;refine⟨by rw[List.length_append,hc,h.1,List.length_cons,Nat.succ_mul,Nat.add_comm],fun j q hq=>?_⟩;cases j with
 | zero=>simp only[List.getElem?_cons_zero,Option.some.injEq]at hq;subst hq;rw[Nat.zero_mul,List.drop_zero,List.take_append_of_le_length (by omega),List.take_of_length_le (by omega)];exact hp
 | succ j=>simp only[List.getElem?_cons_succ]at hq;have h1:=h.2 j q hq;rw[Nat.succ_mul,List.drop_append,List.drop_of_length_le (by rw[hc];exact Nat.le_add_left _ _),List.nil_append,hc,Nat.add_sub_cancel];exact h1
theorem fA.c2 {α:Type} {R:α->List Value->Prop} {ps:List α} {cs:List Value} {p:α} {va vb:Value} (hp:R p [va,vb]) (h:fA R 2 ps cs):fA R 2 (p::ps) (va::vb::cs):=fA.front hp rfl h rfl
theorem fA.c3 {α:Type} {R:α->List Value->Prop} {ps:List α} {cs:List Value} {p:α} {va vb vc:Value} (hp:R p [va,vb,vc]) (h:fA R 3 ps cs):fA R 3 (p::ps) (va::vb::vc::cs):=fA.front hp rfl h rfl
theorem fA.c4 {α:Type} {R:α->List Value->Prop} {ps:List α} {cs:List Value} {p:α} {va vb vc vd:Value} (hp:R p [va,vb,vc,vd]) (h:fA R 4 ps cs):fA R 4 (p::ps) (va::vb::vc::vd::cs):=fA.front hp rfl h rfl
end Go.Pw.PrintWords
namespace Go.Pw.PrintLast
def up (b:Nat->Bool) (i:Nat):Nat->Bool:=fun j=>if j=i then true else b j
section
variable {P:Program} {ops:Array Oper} {Q:Exit->Act->World->Prop} {md:Region.Mode} {T:Bool×List (List Nat×List Nat)} {B:List Nat} {O:List Nat} {b:Nat->Bool} {i j n:Nat}
theorem put_comm {a:Act} {s t:Tmp} {u v:Value} (h:s≠t):(a.put (some s) u).put (some t) v=(a.put (some t) v).put (some s) u:=by simp only[Act.put];rw[Array.setIfInBounds_comm _ _ h]
end
end Go.Pw.PrintLast
namespace Go.Pw.PrintWords
open Go.RowKit
section
variable {P:Program} {ops:Array Oper} {rest:List Oper} {o:Oper} {a:Act} {Q:Exit->Act->World->Prop} {W:World}
theorem nN (hw:Region.wanted o (yielded ops a.tmps)=true) (h:wpList P ops Q ({o with guard:=none}::rest) a W):wpList P ops Q (o::rest) a W:=by have h1:Region.wanted {o with guard:=none} (yielded ops a.tmps)=true:=rfl;unfold wpList at h⊢;rw[if_pos h1]at h;rw[if_pos hw];exact h
end
end Go.Pw.PrintWords
namespace Go.Pw.PrintMore
open Go.RowKit Go.Pw.PrintWords
theorem eG (k k':IntKind) (x y:Int):Builtin.max2 (.int k x) (.int k' y)=pure (.int k (if x<y then y else x)):=by simp only[Builtin.max2,gt_iff_lt]
theorem dZ (k k':IntKind) (x y:Int):Builtin.min2 (.int k x) (.int k' y)=pure (.int k (if y<x then y else x)):=by simp only[Builtin.min2]
theorem fE (ats:Array TypeId) (ty:TypeId) (a b:Value):Builtin.max_ ats ty #[a,b]=(Builtin.max2 a b >>=fun s=>pure s):=by simp only[Builtin.max_,List.foldlM_cons,List.foldlM_nil]
theorem fD (ats:Array TypeId) (ty:TypeId) (a b:Value):Builtin.min_ ats ty #[a,b]=(Builtin.min2 a b >>=fun s=>pure s):=by simp only[Builtin.min_,List.foldlM_cons,List.foldlM_nil]
theorem dM (ats:Array TypeId) (ty:TypeId) (a b c:Value):Builtin.max_ ats ty #[a,b,c]=(Builtin.max2 a b >>=fun s=>Builtin.max2 s c >>=fun s=>pure s):=by simp only[Builtin.max_,List.foldlM_cons,List.foldlM_nil]
theorem dL (ats:Array TypeId) (ty:TypeId) (a b c:Value):Builtin.min_ ats ty #[a,b,c]=(Builtin.min2 a b >>=fun s=>Builtin.min2 s c >>=fun s=>pure s):=by simp only[Builtin.min_,List.foldlM_cons,List.foldlM_nil]
theorem eF (ats:Array TypeId) (ty:TypeId) (a b c d:Value):Builtin.max_ ats ty #[a,b,c,d]=(Builtin.max2 a b >>=fun s=>Builtin.max2 s c >>=fun s=>Builtin.max2 s d >>=fun s=>pure s):=by simp only[Builtin.max_,List.foldlM_cons,List.foldlM_nil]
theorem dY (ats:Array TypeId) (ty:TypeId) (a b c d:Value):Builtin.min_ ats ty #[a,b,c,d]=(Builtin.min2 a b >>=fun s=>Builtin.min2 s c >>=fun s=>Builtin.min2 s d >>=fun s=>pure s):=by simp only[Builtin.min_,List.foldlM_cons,List.foldlM_nil]
end Go.Pw.PrintMore
namespace Go.Pw.PrintWords
open Go.RowKit
section
variable {P:Program} {ops:Array Oper} {rest:List Oper} {o:Oper} {a:Act} {Q:Exit->Act->World->Prop} {W:World}
theorem lD {b:Builtin} {xs:Array Operand} {ts:Array TypeId} (_ho:o.op = .call {callee:=.builtin b,args:=xs,argTypes:=ts}) (h:wpList P ops Q (o::rest) a W):wpList P ops Q (o::rest) a W:=h
end
def mx (a b:Int):Int:=if a<b then b else a
namespace Kd
section
variable {α:Type} {d:Kd α} {e base b b' g N:Nat} {ok ok1:Nat->Prop} {W W2 w1:World} {u v:Value} {xs ys:List α} {S:Nat->Prop}
theorem aHo (hE:d.E=[]) (h:d.R e W base ok1 v xs) (hok:∀k,v.ownBlock=some k->ok k):d.R e W base ok v xs:=dE (nW hE h) (fun k hk=>hok k hk.symm)
end
end Kd
end Go.Pw.PrintWords
namespace Go.Pw.PrintWords
open Go.RowKit
namespace Kd
def V {α:Type} (d:Kd α) (_e:Nat) (W:World) (_base:Nat) (ok:Nat->Prop) (v:Value) (xs:List α):Prop:=∃A c,v = .slice A xs.length c/\xs.length<=c/\F d W ok A xs.length xs
section
variable {α β:Type} {d:Kd α} {e base base' n m c g N' lo hi:Nat} {ok ok' S:Nat->Prop} {w W w1:World} {A:Option Addr} {ad:Addr} {u v v1:Value} {xs:List α}
theorem aAt (h:V d e W base ok v xs) (hF:∀A,F d W ok A xs.length xs->F d w1 ok' A xs.length xs):V d e w1 base' ok' v xs:=by obtain⟨A,c,hv,hl,hf⟩:=h;exact⟨A,c,hv,hl,hF A hf⟩
theorem aNr (hl:xs.length<=c) (hf:F d W ok A xs.length xs):V d e W base ok (.slice A xs.length c) xs:=⟨A,c,rfl,hl,hf⟩
theorem dP (h:V d e W base ok v xs):∃A c,v = .slice A xs.length c:=by obtain⟨A,c,hv,_⟩:=h;exact⟨A,c,hv⟩
theorem aLY (h:V d e W base ok (.slice A n c) xs):n=xs.length/\n<=c/\F d W ok A xs.length xs:=by obtain⟨A',c',hv,hl,hf⟩:=h;injection hv with ha hn hc;subst ha;subst hc;exact⟨hn,by rw[hn];exact hl,hf⟩
theorem aY (h:V d e W base ok (.slice A n c) xs):n=xs.length/\n<=c/\d.C W A xs.length xs:=⟨(aLY h).1,(aLY h).2.1,aNj (aLY h).2.2⟩
theorem sZ (d:Kd α) (e:Nat) (W:World) (base:Nat) (ok:Nat->Prop):V d e W base ok (.slice none 0 0) []:=⟨none,0,rfl,Nat.le_refl _,aNk d W ok⟩
theorem R_V (h:d.R e W base ok v xs):V d e W base' ok v xs:=by obtain⟨A,c,rfl⟩:=bX h;exact⟨A,c,rfl,(aJ h).2.1,R_F h⟩
theorem dB (h:V d e W base ok v xs) (hok:∀k,ok k->ok' k):V d e W base ok' v xs:=aAt h (fun _ hf=>aAL hf hok)
theorem dH (h:V d e W base ok v xs) (_:base'<=base):V d e W base' ok v xs:=h
theorem bH (h:V d e W base ok v xs) (hb:Below W.heap.size W w1):V d e w1 base ok v xs:=aAt h (fun _ hf=>aCF hf hb)
theorem gH (h:V d e W base ok v xs) (o:Obj):V d e (W.alloc o) base ok v xs:=aAt h (fun _ hf=>aM4 hf o)
theorem iI (h:V d e W base ok v xs):V d e W.drew base ok v xs:=aAt h (fun _ hf=>aMV hf)
theorem gG (h:V d e W base ok v xs) (m:Nat):V d e (W.drewN m) base ok v xs:=aAt h (fun _ hf=>aM3 hf m)
theorem kD (h:V d e W base ok v xs) (hbase:∀k,u.ownBlock=some k->W.heap.size<=k) (hb:Below W.heap.size W w1):V d e w1 base (fun k=>ok k/\some k≠u.ownBlock) v xs:=aAt h (fun _ hf=>aKN hf hbase hb)
theorem aMT (h:F d W ok A xs.length xs) (hm:m<=xs.length):F d W ok A (xs.take m).length (xs.take m):=aNl h (fun _ hC=>aCi hC hm)
end
end Kd
end Go.Pw.PrintWords
namespace Go.Proofs.YtjieekkkaekclaaGreatDoor.PL
open Go.RowKit Go.Pw.PrintWords Go.Pw.PrintLast Go.Pw.PrintMore
attribute [local go_sem] eG dZ fE fD dM dL eF dY
def aGi:Option Int->Value
 | none=>.nilIface
 | some c=>.iface 0 (.int .i64 c)
theorem bE:aGi none = .nilIface:=rfl
theorem bD (c:Int):aGi (some c) = .iface 0 (.int .i64 c):=rfl
theorem aEU:(Tryz.prog.info? 121).map (fun i=>(i.zero,i.size,i.bytes))=some (some (.int .u32 0),1,4):=by kernel_rfl
end Go.Proofs.YtjieekkkaekclaaGreatDoor.PL
