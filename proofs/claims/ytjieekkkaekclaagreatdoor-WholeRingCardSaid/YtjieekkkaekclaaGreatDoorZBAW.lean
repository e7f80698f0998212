/- Lemmas for the claim beside this text. -/
import Derived.Test.YtjieekkkaekclaaGreatDoorZBAD
import Derived.Test.YtjieekkkaekclaaGreatDoorZBAT
import Derived.Test.YtjieekkkaekclaaGreatDoorZBAU
import Derived.Test.YtjieekkkaekclaaGreatDoorZBAV
set_option linter.all false
set_option linter.unusedVariables false
set_option linter.unusedSimpArgs false
set_option maxHeartbeats 8000000
set_option maxRecDepth 100000
namespace Go.Proofs.YtjieekkkaekclaaGreatDoor
open Go Go.RowKit Go.Pw.PrintWords Go.Proofs.YtjieekkkaekclaaGreatDoor.PR
theorem aBN {n:Int} (h0:0<=n) (h1:n<10):UInt8.ofNat ((wrap64 (48+n))%256).toNat=Mw.dgt n.toNat:=by
 rw[eT (by omega) (by omega)];unfold Mw.dgt;congr 1
 omega
theorem aEm (n:Nat):n<9223372036854775808->EvP (fun k=>bM.f k (n:Int)) (Mw.B (Mw.gU n))/\(Mw.gU n).length<=19:=by
 induction n using Nat.strongRecOn with
 | _ n ih=>
  intro hn;have hlen:(Mw.gU n).length<=19:=(Mw.iZ n 19 (by omega)).mpr (by omega);refine⟨?_,hlen⟩;by_cases h:n<10;·refine EvP.step (f:=fun _=>some (Mw.B (Mw.gU n))) (fun k=>?_) (EvP.now _);simp only[bM.f];rw[if_neg (by omega),if_pos (by omega),wY,Mw.jY h];simp only[List.map_cons,List.map_nil];rw[aBN (by omega) (by omega),Int.toNat_natCast]
  ·obtain⟨he,hl⟩:=ih (n/10) (by omega) (by omega);refine EvP.step (f:=fun k=>(bM.f k ((n/10:Nat):Int)).bind fun t=>some (t++Mw.B [Mw.dgt (n%10)])) (fun k=>?_) ?_
   ·simp only[bM.f];rw[if_neg (by omega),if_neg (by omega),show wrap64 (Int.tdiv (n:Int) 10)=((n/10:Nat):Int) by rw[show Int.tdiv (n:Int) 10=((n/10:Nat):Int)from rfl];exact eT (by omega) (by omega)];cases hq:bM.f k ((n/10:Nat):Int)with
    | none=>rfl
    | some t=>simp only[Option.bind_some];rw[wY];simp only[List.map_cons,List.map_nil];rw[show Int.tmod (n:Int) 10=((n%10:Nat):Int)from rfl,aBN (by omega) (by omega),Int.toNat_natCast];by_cases hs:t.size+(Mw.B [Mw.dgt (n%10)]).size<=9223372036854775807;(·rw[if_pos hs]);·exfalso;exact hs (by obtain⟨K,hK⟩:=he;have h1:=aEC (fun k=>bM.mono _ k) (Nat.le_max_left k K) hq;have h2:=hK _ (Nat.le_max_right k K);simp only at h1 h2;rw[h2]at h1;rw[<-Option.some.inj h1,eH,eH];simp only[List.length_cons,List.length_nil];omega)
   ·refine EvP.bind he ?_;rw[lM,<-Mw.rW (by omega)];exact EvP.now _
theorem kU (n:Int) (h:n.natAbs<9223372036854775808):EvP (fun k=>bM.f k n) (Mw.T n):=by
 by_cases h0:n<0;·obtain⟨he,hl⟩:=aEm n.natAbs h;refine EvP.step (f:=fun k=>(bM.f k ((n.natAbs:Nat):Int)).bind fun t=>if 1+t.size<=9223372036854775807 then some ((⟨#[45]⟩:ByteArray)++t)else none) (fun k=>?_) ?_;(·simp only[bM.f];rw[if_pos h0,show wrap64 (-n)=(n.natAbs:Int) by rw[eT (by omega) (by omega)];omega]);·refine EvP.bind he ?_;refine EvP.fM (by rw[eH];omega) ?_;rw[show(⟨#[45]⟩:ByteArray)=Mw.B [45]from rfl,lM,Mw.T,Mw.kF h0];exact EvP.now _
 ·obtain⟨he,_⟩:=aEm n.natAbs h;rw[Mw.T,Mw.eY (by omega)];(have e:((n.natAbs:Nat):Int)=n:=by omega);rw[e]at he;exact he
theorem aLN {c:UInt8} (h:Mw.dig c=true):((((c.toNat:Nat):Int)-48)%256)=((c.toNat-48:Nat):Int):=by have:=(aAk c).mp h;omega
theorem aJh (a l:List UInt8) (hl:l.length<=15) (hd:∀c ∈ l,Mw.dig c=true):∀(d i:Nat),i+d=l.length->EvP (fun k=>iD.l0 k (Mw.B a) (Mw.B l) ((Mw.kM (l.take i):Nat):Int) i) (if Mw.isM a=true then -((Mw.kM l:Nat):Int)else((Mw.kM l:Nat):Int),true):=by
 intro d;induction d with
 | zero=>
  intro i hi;have hv:Mw.kM l<10^15:=Nat.lt_of_lt_of_le (Mw.yQ l hd) (Nat.pow_le_pow_right (by omega) hl);refine EvP.step (f:=fun _=>some (if Mw.isM a=true then -((Mw.kM l:Nat):Int)else((Mw.kM l:Nat):Int),true)) (fun k=>?_) (EvP.now _);simp only[iD.l0];rw[eH,if_neg (by omega),aB6,List.take_of_length_le (by omega)];simp only[Option.bind_some];cases Mw.isM a with
  | true=>rw[if_pos rfl,if_pos rfl,eT (by omega) (by omega)]
  | false=>rw[if_neg (by simp),if_neg (by simp)]
 | succ d ih=>intro i hi;(have hlt:i<l.length:=by omega);(have e1:l.take (i+1)=l.take i++[l[i]]:=by rw[List.take_succ_eq_append_getElem hlt]);have hc:=hd _ (List.getElem_mem hlt);have hv:Mw.kM (l.take i)<10^15:=Nat.lt_of_lt_of_le (Mw.yQ _ (fun c hc=>hd c (List.mem_of_mem_take hc))) (Nat.pow_le_pow_right (by omega) (by rw[List.length_take];omega));have hy:=(aAk _).mp hc;refine EvP.step (f:=fun k=>iD.l0 k (Mw.B a) (Mw.B l) ((Mw.kM (l.take (i+1)):Nat):Int) ((i+1:Nat):Int)) (fun k=>?_) (ih (i+1) (by omega));simp only[iD.l0];rw[eH,if_pos (by omega),if_pos (by omega),aDQ,Int.toNat_natCast,getD_lt hlt,aLN hc,eT (n:=10*_) (by omega) (by omega),eT (n:=10*_+_) (by omega) (by omega),eT (n:=(i:Int)+1) (by omega) (by omega),e1,Mw.aAS];congr 1
theorem aJM {l:List UInt8} (h:Mw.okf l=true):Mw.uM (Mw.unm l)=true:=by unfold Mw.okf at h;simp only[Bool.and_eq_true]at h;exact h.1
theorem aFx (l:List UInt8) (hl:l.length<=1000000):EvP (fun k=>iD.f k (Mw.B l)) (if Mw.okf l=true/\(Mw.unm l).length<=15 then(Mw.lI l,true)else(0,false)):=by
 refine EvP.congr (f:=fun k=>(iC.f k (Mw.B l)).bind fun t=>if t=true then iD.j0 k (Mw.B l) (Mw.B (Mw.unm l)) (decide (((Mw.unm l).length:Int)>15))else iD.j0 k (Mw.B l) (Mw.B (Mw.unm l)) true) (fun k=>?_) ?_;·unfold iD.f;rw[zH];simp only[Option.bind_some];rw[eH]
 ·refine EvP.bind (wG l hl) ?_;cases ho:Mw.okf l with
  | false=>refine EvP.jC (by simp) ?_;rw[if_neg (by simp)];exact EvP.step (f:=fun _=>some (0,false)) (fun k=>by simp only[iD.j0,if_pos]) (EvP.now _)
  | true=>refine EvP.fM rfl ?_;by_cases h15:(Mw.unm l).length<=15;(·rw[if_pos ⟨rfl,h15⟩,decide_eq_false (by omega)];refine EvP.step (f:=fun k=>iD.l0 k (Mw.B l) (Mw.B (Mw.unm l)) ((Mw.kM ((Mw.unm l).take 0):Nat):Int) ((0:Nat):Int)) (fun k=>?_) ?_;(·simp only[iD.j0];rw[if_neg (by simp)];rfl);·exact aJh l (Mw.unm l) h15 (aAX (aJM ho)).2 (Mw.unm l).length 0 (by omega));·rw[if_neg (fun h=>h15 h.2),decide_eq_true (by omega)];exact EvP.step (f:=fun _=>some (0,false)) (fun k=>by simp only[iD.j0,if_pos]) (EvP.now _)
theorem nC (n:Int):(Mw.jF n).length<=(Mw.gU n.natAbs).length+1:=by rw[Mw.xW];split<;>omega
theorem aEG (n:Int) (hn:n.natAbs<10^15):EvP (fun k=>iD.f k (Mw.T n)) (n,true):=by have h15:=(Mw.iZ n.natAbs 15 (by omega)).mpr hn;have h:=aFx (Mw.jF n) (by have:=nC n;omega);rw[if_pos ⟨Mw.xU n,by rw[Mw.nR];exact h15⟩,Mw.gX]at h;exact h
def Mw.sm (n m:Int):Bool:=decide (n.natAbs<10^9) && decide (m.natAbs<10^9)
theorem nG (n m:Int) (hn:(Mw.gU n.natAbs).length<=100000) (hm:(Mw.gU m.natAbs).length<=100000):
 ∃x y b,EvP (fun k=>bT.f k (Mw.T n) (Mw.T m)) (x,y,b)/\b=Mw.sm n m/\(b=true->x=n/\y=m):=by
 have ln:=Mw.iZ n.natAbs 9 (by omega);have lm:=Mw.iZ m.natAbs 9 (by omega)
 have no:∀{f:Nat->Option (Int×Int×Bool)},Mw.sm n m=false->(∀k,f k=bT.j0 k (Mw.T n) (Mw.T m) true)->∃x y b,EvP f (x,y,b)/\b=Mw.sm n m/\(b=true->x=n/\y=m):=fun hs hf=>
  ⟨0,0,false,EvP.congr hf (EvP.step (f:=fun _=>some (0,0,false)) (fun k=>by simp only[bT.j0,if_pos]) (EvP.now _)),hs.symm,fun h=>by cases h⟩
 have hsn:¬(Mw.gU n.natAbs).length<=9->Mw.sm n m=false:=fun h=>by unfold Mw.sm;rw[decide_eq_false (fun h1=>h (ln.mpr h1)),Bool.false_and]
 have hsm:¬(Mw.gU m.natAbs).length<=9->Mw.sm n m=false:=fun h=>by unfold Mw.sm;rw[decide_eq_false (p:=m.natAbs<10^9) (fun h1=>h (lm.mpr h1)),Bool.and_false]
 unfold bT.f;have a1:=nC n;have a2:=nC m;by_cases h1:((Mw.T n).size:Int)>10;·refine no (hsn ?_) (fun k=>if_pos h1);rw[Mw.T,eH]at h1;omega
 by_cases h2:((Mw.T m).size:Int)>10;·refine no (hsm ?_) (fun k=>by rw[if_neg h1,if_pos h2]);rw[Mw.T,eH]at h2;omega
 have ea:∀x:Int,aZ.f (Mw.T x)=some (Mw.B (Mw.gU x.natAbs)):=fun x=>by rw[Mw.T,zH,Mw.nR]
 by_cases h3:((Mw.B (Mw.gU n.natAbs)).size:Int)>9;·refine no (hsn ?_) (fun k=>by rw[if_neg h1,if_neg h2,ea];simp only[Option.bind_some];rw[if_pos h3]);rw[eH]at h3;omega
 by_cases h4:(Mw.gU m.natAbs).length<=9;·have hn9:=ln.mp (by rw[eH]at h3;omega);have hm9:=lm.mp h4;(have hs:Mw.sm n m=true:=by unfold Mw.sm;rw[decide_eq_true hn9,decide_eq_true hm9];rfl);refine⟨n,m,true,?_,hs.symm,fun _=>⟨rfl,rfl⟩⟩;refine EvP.congr (f:=fun k=>bT.j0 k (Mw.T n) (Mw.T m) false) (fun k=>?_) ?_;(·rw[if_neg h1,if_neg h2,ea];simp only[Option.bind_some];rw[if_neg h3,ea];simp only[Option.bind_some];rw[eH,decide_eq_false (by omega)]);·refine EvP.step (f:=fun k=>(iD.f k (Mw.T n)).bind fun x=>(iD.f k (Mw.T m)).bind fun y=>some (x.1,y.1,true)) (fun k=>?_) ?_;(·simp only[bT.j0];rw[if_neg (by simp)]);·exact EvP.bind (aEG n (by omega)) (EvP.bind (aEG m (by omega)) (EvP.now _))
 ·refine no (hsm h4) (fun k=>?_);rw[if_neg h1,if_neg h2,ea];simp only[Option.bind_some];rw[if_neg h3,ea];simp only[Option.bind_some];rw[eH,decide_eq_true (by omega)]
theorem kN (n:Int):aN.f (Mw.T n)=some (decide (n<0)):=by rw[Mw.T,aB6,Mw.wE]
theorem lL (n:Int):aZ.f (Mw.T n)=some (Mw.B (Mw.gU n.natAbs)):=by rw[Mw.T,zH,Mw.nR]
end Go.Proofs.YtjieekkkaekclaaGreatDoor
namespace Go.Proofs.YtjieekkkaekclaaGreatDoor.PR
open Go.RowKit Go.Pw.PrintWords Go.Pw.PrintLast Go.Pw.PrintMore
attribute [local go_sem] eG dZ fE fD dM dL eF dY
mutual
def aX.l0:Nat->ByteArray->List Int->Option (List Int)
 | 0,_,_=>none
 | k+1,x0,x3=>if(x0.size:Int)>0 then(aX.l1 k x0 x3 (mx 0 (wrap64 ((x0.size:Int)-4))) 0 (mx 0 (wrap64 ((x0.size:Int)-4))))else((dU.f k x3).bind fun t182=>(some t182))
def aX.l1:Nat->ByteArray->List Int->Int->Int->Int->Option (List Int)
 | 0,_,_,_,_,_=>none
 | k+1,x0,x3,x4,x5,x6=>if x6<(x0.size:Int)then(if 0<=x6 then(aX.l1 k x0 x3 x4 (wrap64 ((wrap64 (10*x5))+(((bt x0 x6)-48)%256))) (wrap64 (x6+1)))else(none))else(if x3.length<17592186044416 then(if 0<=x4 then(if x4<=(x0.size:Int)then(aX.l0 k (x0.extract 0 (x4:Int).toNat) (x3++[x5]))else(none))else(none))else(none))
end
def aX.f (k:Nat) (a0:ByteArray):Option (List Int):=aX.l0 k a0 ([]:List Int)
def aX.T9:Bool×List (List Nat×List Nat):=(true,[([],[]),([],[]),([1],[1]),([0,2],[0,2]),([],[]),([],[]),([4,5],[4,5]),([3,3,0,1,2,3],[0,3]),([6,7,0,1,2,3,4,5,6,7],[4,6])])
def aX.B9:List Nat:=[0,0,2,7,0,0,48,15,255]
theorem aX.wX:nM .any (opsOf Tryz.f92 9)=aX.T9:=by kernel_rfl
theorem aX.rY:jG aX.T9.2 aX.B9=true:=by kernel_rfl
theorem aX.calls (k:Nat) (a0:ByteArray) (r:List Int) (w:World) (h:aX.f k a0=some r):
 Calls Tryz.prog 92 #[.string a0] w fun e w'=>∃v0_:Value,e = .returned (v0_)/\Kd.V (Kd.int .i64) 3 w' w.heap.size (fun k_=>(w.heap.size<=k_)) v0_ r/\Below w.heap.size w w':=by
 have HB:=aA.mk (Below.refl w.heap.size w);have H:(aX.l0 k a0 ([]:List Int))=some r:=h;clear h;have H':=aA.mk H;clear H;go_enter Tryz.func92,Tryz.ntmps92
 go_wp2
 go_loopg [0,3] k (fun kq v0 v3 w'=>∃(x0_1:ByteArray) (x3_1:List Int),v0 = .string x0_1/\aA (aX.l0 kq x0_1 x3_1=some r)/\aA (kq<=k)/\aA (Kd.R (Kd.int .i64) 3 w' w.heap.size (fun k_=>(w.heap.size<=k_)) v3 x3_1)/\aA (Below w.heap.size w w'))
 case atStart=>exact⟨(a0),(([]:List Int)),Zq.sd,H',⟨Nat.le_refl _⟩,⟨by first|exact Kd.tT _ _ _ _ _|exact Kd.wN _ _ _ _ _|exact Kd.sZ _ _ _ _ _|exact Kd.wM _ _ _ _ _|exact Kd.wL _ _ _ _ _⟩,⟨Zq.bo⟩⟩
 case round=>
  clear H';obtain⟨x0_1,x3_1,rfl,HA,HK1,HO_3,HB⟩:=hrel;cases gk with
  | zero=>exact absurd HA.out (by simp[aX.l0])
  | succ k1=>
   have H:=HA.out;clear HA;simp only[aX.l0]at H;by_cases c2:(x0_1.size:Int)>0
   ·rw[if_pos c2]at H;have c2b0:decide (0<(x0_1.size:Int))=true:=decide_eq_true c2;have c2b1:decide (0<x0_1.size)=true:=decide_eq_true (by omega);clear c2;obtain⟨ji3,hji3⟩:∃j_:Int,(mx 0 (wrap64 ((x0_1.size:Int)-4)))=j_:=⟨_,rfl⟩;(replace H:(aX.l1 k1 x0_1 x3_1 ji3 0 ji3)=some r:=by first|(rw[hji3]at H;exact H)|(simp only[hji3]at H⊢;exact H));have hji3_:(if 0<(wrap64 ((x0_1.size:Int)-4))then(wrap64 ((x0_1.size:Int)-4))else 0)=ji3:=hji3;have H':=aA.mk H;clear H;go_wp2
    go_loopg [5,6] k1 (fun kq v5 v6 w'=>∃(x5_2:Int) (x6_2:Int),v5 = .int .i64 x5_2/\v6 = .int .i64 x6_2/\aA (aX.l1 kq x0_1 x3_1 ji3 x5_2 x6_2=some r)/\aA (kq<=k1)/\aA (Kd.R (Kd.int .i64) 3 w' w.heap.size (fun k_=>(w.heap.size<=k_)) u3 x3_1)/\aA (Below w.heap.size w w'))
    case atStart=>exact⟨(0),(ji3),Zq.sd,(by first|rfl|(simp;done)|(simp only[<-hji3]<;>(first|rfl|simp))|(simp[*];done)),H',⟨Nat.le_refl _⟩,⟨by(with_reducible repeat(first|apply Kd.bR|apply Kd.bP|apply Kd.aK));exact HO_3.out⟩,⟨Zq.bo⟩⟩
    case round=>
     clear H';(try clear c2);(try clear c2b0);(try clear c2b1);(try clear p2);obtain⟨x5_2,x6_2,rfl,rfl,HA,HK2,HO_3,HB⟩:=hrel;cases gk with
     | zero=>exact absurd HA.out (by simp[aX.l1])
     | succ k2=>
      have H:=HA.out;clear HA;simp only[aX.l1]at H;by_cases c4:x6_2<(x0_1.size:Int)
      ·rw[if_pos c4]at H;have c4b0:decide (x6_2<(x0_1.size:Int))=true:=decide_eq_true c4;clear c4;by_cases c5:0<=x6_2
       ·rw[if_pos c5]at H;have c5b0:decide (0<=x6_2)=true:=decide_eq_true c5;clear c5;have H':=aA.mk H;clear H;have p6:0<=(x6_2:Int):=of_decide_eq_true Zq.am;have q6:x6_2<(x0_1.size:Int):=of_decide_eq_true Zq.am;have hx6:=wJ x0_1 x6_2;replace p6:=eq_true p6;replace q6:=eq_true q6;go_wp2
        go_roundg k2
        (case measure=>have:=HK1.out;have:=HK2.out;omega);case rel=>exact⟨(wrap64 ((wrap64 (10*x5_2))+(((bt x0_1 x6_2)-48)%256))),(wrap64 (x6_2+1)),Zq.sd,Zq.sd,H',⟨by have:=HK1.out;have:=HK2.out;omega⟩,⟨by(with_reducible repeat(first|apply Kd.bR|apply Kd.bP|apply Kd.aK));exact HO_3.out⟩,⟨Zq.bo⟩⟩
       ·rw[if_neg c5]at H;exact absurd H (by simp)
      ·rw[if_neg c4]at H;have c4b0:decide (x6_2<(x0_1.size:Int))=false:=decide_eq_false c4;clear c4;by_cases c7:x3_1.length<17592186044416
       ·rw[if_pos c7]at H;have LMc7:=aA.mk c7;clear c7;obtain⟨y185,hy185⟩:∃y_:List Int,y_=(x3_1++[x5_2]):=⟨_,rfl⟩;(replace H:(if 0<=ji3 then(if ji3<=(x0_1.size:Int)then(aX.l0 k2 (x0_1.extract 0 (ji3:Int).toNat) y185)else(none))else(none))=some r:=by first|(rw[hy185];with_reducible exact H)|(have H2_:=(Option.bind_some _ _).symm.trans H;rw[hy185];with_reducible exact H2_)|(have H2_:=(Option.bind_some _ _).symm.trans H;with_reducible exact H2_)|with_reducible exact H|(rw[hy185];exact H)|exact H);have Ny185:=aA.mk hy185;clear hy185;by_cases c8:0<=ji3
        ·rw[if_pos c8]at H;have c8b0:=eq_true c8;have c8b1:decide (0<=ji3)=true:=decide_eq_true c8;clear c8;by_cases c9:ji3<=(x0_1.size:Int)
         ·rw[if_pos c9]at H;have c9b0:=eq_true c9;have c9b1:decide (ji3<=(x0_1.size:Int))=true:=decide_eq_true c9;clear c9;have H':=aA.mk H;clear H;(try go_wp2);replace HO_3:=aA.mk (Kd.aK HO_3.out);replace HB:=aA.mk (aT HB.out);refine dG (n:=9) (S:=fun w'=>True) (ds:=[]) #[false,false,false,false,false,false,false,false,false] (by kernel_rfl) rfl rfl trivial (fun hHeld=>?_);refine bF aX.wX aX.rY (fun HT_ HW_=>?_);generalize wr.drew=w10 at HO_3 HB hHeld⊢;refine Zq.pu 0 (some 29) (Zq.bs 9 1) ?_;refine Zq.pu 1 (some 30) (Zq.bs 9 3) ?_;refine Zq.pu 4 (some 33) (Zq.bs 9 19) ?_;refine Zq.pu 5 (some 34) (Zq.bs 9 51) ?_;refine Zq.pu 6 (some 35) (Zq.bs 9 115) ?_;refine gF (i:=2) (N:=some 31) #[true,true,true,false,true,true,true,false,false] rfl rfl (bZ HT_.out (by kernel_rfl)) (by decide) (fun K hK=>?_);refine aAc (w1:=?_) (v:=?_) (by rfl) rfl ?_ ?_;rotate_left 2;(·go_simp;constructor;(·rfl);·rfl);refine hK.out _ _ trivial (fun hHeld=>?_);clear hK K;refine dO (a':=?_) ?_ ?_;rotate_left;(·show Act.put _ (some 31) _=_;simp only[Act.put,Zq.a1,Zq.a2,Zq.a3,bG,bK];rfl);refine gF (i:=3) (N:=some 32) #[true,true,true,true,true,true,true,false,false] rfl rfl (bZ HT_.out (by kernel_rfl)) (by decide) (fun K hK=>?_);refine Kd.aA3 (Kd.int .i64) (w0:=w) w.heap.size (by rfl) (.tmp 29) (.tmp 31) 22 3 (.int .i64 0) 8 rfl Tryz.underlying22 info3 rfl (by decide) (by omega) u3 x3_1 x5_2 [.int .i64 x5_2] (fun k_=>(w.heap.size<=k_)) (fun _=>False) rfl rfl ?aP (fun _ hk=>hk.elim) ?aF ?aO ?aB ?aS ?aL ?_
          (case aP=>exact rfl);(case aB=>exact Zq.bo);(case aF=>exact(fun k_ hk=>(Nat.le_trans (aD Zq.bo) hk)));(case aO=>exact(Zq.ra HO_3.out));(case aS=>exact(aD Zq.bo));(case aL=>have:=LMc7.out;omega);intro v186 w11 ho hb hg hat;rw[<-Ny185.out]at ho;have n0_:=aA.mk (hb);have n1_:=aA.mk (ho);clear HB;clear HO_3;have HB:=n0_;have HO187:=n1_;clear n0_ n1_;clear ho hb hg hat;refine hK.out _ _ trivial (fun hHeld=>?_);clear hK K;refine dO (a':=?_) ?_ ?_;rotate_left;(·show Act.put _ (some 32) _=_;simp only[Act.put,Zq.a1,Zq.a2,Zq.a3,bG,bK];rfl);refine Zq.pu 7 (some 3) (Zq.bs 9 255) ?_;refine Zq.pu 8 (some 0) (Zq.bs 9 511) ?_;refine eZ (bV HT_.out (by kernel_rfl)) ?_;try go_wp2
          go_roundg k2
          (case measure=>have:=HK1.out;have:=HK2.out;omega);case rel=>exact⟨(x0_1.extract 0 (ji3:Int).toNat),(y185),(by first|rfl|(simp;done)|(simp only[<-hji3]<;>(first|rfl|simp))|(simp[*];done)),H',⟨by have:=HK1.out;have:=HK2.out;omega⟩,⟨by(with_reducible repeat(first|apply Kd.bR|apply Kd.bP|apply Kd.aK));exact HO187.out⟩,⟨Zq.bo⟩⟩
         ·rw[if_neg c9]at H;exact absurd H (by simp)
        ·rw[if_neg c8]at H;exact absurd H (by simp)
       ·rw[if_neg c7]at H;exact absurd H (by simp)
   ·rw[if_neg c2]at H;have c2b0:decide (0<(x0_1.size:Int))=false:=decide_eq_false c2;have c2b1:decide (0<x0_1.size)=false:=decide_eq_false (by omega);clear c2;obtain⟨t182,A12,H⟩:=Zq.mq H;(try dsimp only at H);obtain rfl:=Option.some.inj H;obtain⟨Ao13,co13,eo13⟩:=Kd.bX HO_3.out;subst eo13;go_wp2_with (first|((with_reducible refine Zq.c 135 rfl ?_);refine Zq.g (some 37) Tryz.func135 #[.slice Ao13 x3_1.length co13] ?_;(with_reducible refine(dU.calls k1 (fun k_=>some k_=(.slice Ao13 x3_1.length co13:Value).ownBlock) _ _ x3_1 t182 _ ?side1 A12.out).mono ?_);(case side1=>exact Kd.R_V (Kd.nW rfl (HO_3.out)));rintro e w14 ⟨v183,rfl,ho0,hb⟩;refine⟨_,rfl,?_⟩;have n0_:=aA.mk (Kd.aG (Zq.ra HO_3.out) hb);have n1_:=aA.mk (Kd.dH (Kd.dB (ok':=fun k_=>(w.heap.size<=k_)) ho0 (fun k_ hk_=>Or.elim hk_ (fun hs_=>((HO_3.out).1 k_ hs_.symm)) (fun hn_=>(Nat.le_trans (aD Zq.bo) hn_)))) (aD Zq.bo));have n2_:=aA.mk (aC Zq.bo hb);clear HO_3;clear HB;have HO_3:=n0_;have HO184:=n1_;have HB:=n2_;clear n0_ n1_ n2_;(try clear hb);(try clear hb2);(try clear hk);(try clear hi);(try clear ho0)))
    go_ret
    exact⟨_,by first|rfl|(simp[bE,bD]<;>rfl)|(simp[*,bE,bD]<;>rfl),by(with_reducible repeat(first|apply Kd.gH|apply Kd.gG|apply Kd.iI));exact HO184.out,Zq.bo⟩
mutual
def jI.l0:Nat->List Int->ByteArray->Int->Option (ByteArray)
 | 0,_,_,_=>none
 | k+1,x0,x3,x4=>if x4<(x0.length:Int)then(if 0<=x4 then(jI.l1 k x0 x3 x4 (rd x0 x4) 0)else(none))else(jI.l2 k x3)
def jI.l1:Nat->List Int->ByteArray->Int->Int->Int->Option (ByteArray)
 | 0,_,_,_,_,_=>none
 | k+1,x0,x3,x4,x5,x6=>if x6<4 then((some (([(wrap64 (48+(Int.tmod x5 10)))%256]:List Int):List Int)).bind fun y159=>(if(strOfNums y159).size+x3.size<=9223372036854775807 then(jI.l1 k x0 ((strOfNums y159)++x3) x4 (wrap64 (Int.tdiv x5 10)) (wrap64 (x6+1)))else(none)))else(jI.l0 k x0 x3 (wrap64 (x4+1)))
def jI.l2:Nat->ByteArray->Option (ByteArray)
 | 0,_=>none
 | k+1,x3=>if(x3.size:Int)>1 then(if 0<(x3.size:Int)then(if(bt x3 0)=48 then(if 1<=(x3.size:Int)then(jI.l2 k (x3.extract 1 x3.size))else(none))else(some x3))else(none))else(some x3)
end
def jI.f (k:Nat) (l0:List Int):Option (ByteArray):=if(l0.length:Int)=0 then(some (⟨#[48]⟩:ByteArray))else(jI.l0 k l0 (⟨#[]⟩:ByteArray) 0)
theorem jI.calls (k:Nat) (A0:Option Addr) (c0:Nat) (l0:List Int) (r:ByteArray) (w:World) (hr0:Kd.C (Kd.int .i64) w A0 l0.length l0) (hc0:l0.length<=c0) (h:jI.f k l0=some r):
 Calls Tryz.prog 134 #[.slice A0 l0.length c0] w fun e w'=>e = .returned (.string r)/\Below w.heap.size w w':=by
 have HR0:=aA.mk hr0;have HC0:=aA.mk hc0;clear hr0 hc0;have HB:=aA.mk (Below.refl w.heap.size w);have H:(if(l0.length:Int)=0 then(some (⟨#[48]⟩:ByteArray))else(jI.l0 k l0 (⟨#[]⟩:ByteArray) 0))=some r:=h;clear h;by_cases c2:(l0.length:Int)=0
 ·rw[if_pos c2]at H;have c2b0:((l0.length:Int) == 0)=true:=beq_iff_eq.mpr c2;have c2b1:((l0.length:Int) != 0)=false:=bne_eq_false_iff_eq.mpr c2;clear c2;obtain rfl:=Option.some.inj H;(go_enter Tryz.func134,Tryz.ntmps134);go_wp2
  go_ret
  exact⟨Zq.ew,Zq.bo⟩
 ·rw[if_neg c2]at H;have c2b0:((l0.length:Int) == 0)=false:=beq_eq_false_iff_ne.mpr c2;have c2b1:((l0.length:Int) != 0)=true:=bne_iff_ne.mpr c2;(have c2b2:¬(l0=[]):=fun h_=>c2 (by rw[h_];rfl));have H':=aA.mk H;clear H;(go_enter Tryz.func134,Tryz.ntmps134);go_wp2
  go_loopg [3,4] k (fun kq v3 v4 w'=>∃(x3_1:ByteArray) (x4_1:Int),v3 = .string x3_1/\v4 = .int .i64 x4_1/\aA (jI.l0 kq l0 x3_1 x4_1=some r)/\aA (kq<=k)/\aA (Below w.heap.size w w'))
  case atStart=>exact⟨((⟨#[]⟩:ByteArray)),(0),Zq.sd,Zq.sd,H',⟨Nat.le_refl _⟩,⟨Zq.bo⟩⟩
  case round=>
   clear H';(try clear c1);(try clear c2);(try clear c2b0);(try clear c2b1);(try clear c2b2);(try clear p2);obtain⟨x3_1,x4_1,rfl,rfl,HA,HK1,HB⟩:=hrel;cases gk with
   | zero=>exact absurd HA.out (by simp[jI.l0])
   | succ k1=>
    have H:=HA.out;clear HA;simp only[jI.l0]at H;by_cases c3:x4_1<(l0.length:Int)
    ·rw[if_pos c3]at H;have c3b0:decide (x4_1<(l0.length:Int))=true:=decide_eq_true c3;clear c3;by_cases c4:0<=x4_1
     ·rw[if_pos c4]at H;have c4b0:decide (0<=x4_1)=true:=decide_eq_true c4;clear c4;have H':=aA.mk H;clear H;have p158:0<=(x4_1:Int):=of_decide_eq_true Zq.am;have q158:x4_1<(l0.length:Int):=of_decide_eq_true Zq.am;obtain⟨ad158,e158,hx158_0⟩:=Kd.dF HR0.out x4_1 p158 q158;cases e158;replace hx158_0:=(HB.out.cell (World.block_lt_of_cell? w _ hx158_0)).trans hx158_0;replace p158:=eq_true p158;replace q158:=eq_true q158;go_wp2
      go_loopg [3,5,6] k1 (fun kq v3 v5 v6 w'=>∃(x3_2:ByteArray) (x5_2:Int) (x6_2:Int),v3 = .string x3_2/\v5 = .int .i64 x5_2/\v6 = .int .i64 x6_2/\aA (jI.l1 kq l0 x3_2 x4_1 x5_2 x6_2=some r)/\aA (kq<=k1)/\aA (Below w.heap.size w w'))
      case atStart=>exact⟨(x3_1),(rd l0 x4_1),(0),Zq.sd,Zq.sd,Zq.sd,H',⟨Nat.le_refl _⟩,⟨Zq.bo⟩⟩
      case round=>
       clear H';(try clear c1);(try clear p1);(try clear q1);(try clear hx1);(try clear c2);(try clear c2b0);(try clear c2b1);(try clear c2b2);(try clear p2);(try clear c3);(try clear c3b0);(try clear c4);(try clear c4b0);(try clear hx158_0);(try clear p158);(try clear p2);(try clear q158);obtain⟨x3_2,x5_2,x6_2,rfl,rfl,rfl,HA,HK2,HB⟩:=hrel;cases gk with
       | zero=>exact absurd HA.out (by simp[jI.l1])
       | succ k2=>
        have H:=HA.out;clear HA;simp only[jI.l1]at H;by_cases c5:x6_2<4
        ·rw[if_pos c5]at H;have c5b0:decide (x6_2<4)=true:=decide_eq_true c5;clear c5;obtain⟨y159,hy159⟩:∃y_:List Int,y_=(([(wrap64 (48+(Int.tmod x5_2 10)))%256]:List Int)):=⟨_,rfl⟩;(replace H:(if(strOfNums y159).size+x3_2.size<=9223372036854775807 then(jI.l1 k2 l0 ((strOfNums y159)++x3_2) x4_1 (wrap64 (Int.tdiv x5_2 10)) (wrap64 (x6_2+1)))else(none))=some r:=by first|(rw[hy159];with_reducible exact H)|(have H2_:=(Option.bind_some _ _).symm.trans H;rw[hy159];with_reducible exact H2_)|(have H2_:=(Option.bind_some _ _).symm.trans H;with_reducible exact H2_)|with_reducible exact H|(rw[hy159];exact H)|exact H);have Ny159:=aA.mk hy159;clear hy159;by_cases c6:(strOfNums y159).size+x3_2.size<=9223372036854775807
         ·rw[if_pos c6]at H;have c6b0:=eq_true c6;have c6b1:decide ((strOfNums y159).size+x3_2.size<=9223372036854775807)=true:=decide_eq_true c6;(try have c6b2:(9223372036854775807<(strOfNums y159).size+x3_2.size)=False:=eq_false (Nat.not_lt.2 c6));have H':=aA.mk H;clear H;go_wp2_with (first|((with_reducible refine fZ (N:=28) rfl ?_);refine Kd.nK (Kd.int .u8) _ 5 ?hg (N:=28) ?hd (xs:=([(wrap64 (48+(Int.tmod x5_2 10)))%256]:List Int)) (inner:=[.int .u8 ((wrap64 (48+(Int.tmod x5_2 10)))%256)]) (ok:=fun _=>True) (okp:=fun _=>True) ?hr ?hp (fun _ hk=>hk) trivial (Below.refl _ _) (Nat.le_refl _) (by simp) ?_;(case hd=>rfl);(case hg=>rfl);(case hr=>first|(go_simp;done)|(go_simp;rfl));(case hp=>exact(fA.one (show Kd.M (Kd.int .u8) _ _ _ ((wrap64 (48+(Int.tmod x5_2 10)))%256) [.int .u8 ((wrap64 (48+(Int.tmod x5_2 10)))%256)]from rfl) (fA.none _ _)));intro v160 w7 ho8 hb hg_ hnew_;clear hg_ hnew_;(first|rw[<-Ny159.out]at ho8|(simp only[Int.reduceToNat]at ho8;rw[<-Ny159.out]at ho8));have HO161:=aA.mk (Kd.eU ho8 (aD Zq.bo));replace HB:=aA.mk (aC Zq.bo hb);clear hb ho8;have hcv9:=pX (P:=Tryz.prog) Tryz.underlying104 Tryz.underlying5 Tryz.underlying9 (Kd.qZ HO161.out)))
          go_roundg k2
          (case measure=>have:=HK1.out;have:=HK2.out;omega);case rel=>exact⟨((strOfNums y159)++x3_2),(wrap64 (Int.tdiv x5_2 10)),(wrap64 (x6_2+1)),Zq.sd,Zq.sd,Zq.sd,H',⟨by have:=HK1.out;have:=HK2.out;omega⟩,⟨Zq.bo⟩⟩
         ·rw[if_neg c6]at H;exact absurd H (by simp)
        ·rw[if_neg c5]at H;have c5b0:decide (x6_2<4)=false:=decide_eq_false c5;clear c5;have H':=aA.mk H;clear H;go_wp2
         go_roundg k2
         (case measure=>have:=HK1.out;have:=HK2.out;omega);case rel=>exact⟨(x3_2),(wrap64 (x4_1+1)),Zq.sd,Zq.sd,H',⟨by have:=HK1.out;have:=HK2.out;omega⟩,⟨Zq.bo⟩⟩
     ·rw[if_neg c4]at H;exact absurd H (by simp)
    ·rw[if_neg c3]at H;have c3b0:decide (x4_1<(l0.length:Int))=false:=decide_eq_false c3;clear c3;have H':=aA.mk H;clear H;go_wp2
     go_loopg [3] k1 (fun kq v3 w'=>∃(x3_2:ByteArray),v3 = .string x3_2/\aA (jI.l2 kq x3_2=some r)/\aA (kq<=k1)/\aA (Below w.heap.size w w'))
     case atStart=>exact⟨(x3_1),Zq.sd,H',⟨Nat.le_refl _⟩,⟨Zq.bo⟩⟩
     case round=>
      clear H';(try clear c1);(try clear p1);(try clear q1);(try clear hx1);(try clear c2);(try clear c2b0);(try clear c2b1);(try clear c2b2);(try clear p2);(try clear c3);(try clear c3b0);(try clear c4);(try clear c4b0);(try clear c5);(try clear c5b0);(try clear c6);(try clear c6b0);(try clear c6b1);(try clear c6b2);(try clear p6);(try clear hcv9);(try clear hx158_0);(try clear p1);(try clear p158);(try clear p2);(try clear q1);(try clear q158);obtain⟨x3_2,rfl,HA,HK2,HB⟩:=hrel;cases gk with
      | zero=>exact absurd HA.out (by simp[jI.l2])
      | succ k2=>
       have H:=HA.out;clear HA;simp only[jI.l2]at H;by_cases c10:(x3_2.size:Int)>1
       ·rw[if_pos c10]at H;have c10b0:decide (1<(x3_2.size:Int))=true:=decide_eq_true c10;have c10b1:decide (1<x3_2.size)=true:=decide_eq_true (by omega);clear c10;by_cases c11:0<(x3_2.size:Int)
        ·rw[if_pos c11]at H;have c11b0:decide (0<(x3_2.size:Int))=true:=decide_eq_true c11;have c11b1:decide (0<x3_2.size)=true:=decide_eq_true (by omega);clear c11;by_cases c13:(bt x3_2 0)=48
         ·rw[if_pos c13]at H;have c13b0:((bt x3_2 0) == 48)=true:=beq_iff_eq.mpr c13;have c13b1:((bt x3_2 0) != 48)=false:=bne_eq_false_iff_eq.mpr c13;clear c13;by_cases c14:1<=(x3_2.size:Int)
          ·rw[if_pos c14]at H;have c14b0:=eq_true c14;have c14b1:decide (1<=(x3_2.size:Int))=true:=decide_eq_true c14;clear c14;have H':=aA.mk H;clear H;have p12:0<=(0:Int):=(by omega);have q12:0<x3_2.size:=(by have:(0:Int)<(x3_2.size:Int):=of_decide_eq_true Zq.am;omega);have hx12:∀h:0<x3_2.size,((x3_2[0]'h).toNat:Int)=bt x3_2 0:=wJ x3_2 0;clear p12;have qi12:(0<(x3_2.size:Int))=True:=eq_true (of_decide_eq_true Zq.am);replace q12:=eq_true q12;go_wp2
           go_roundg k2
           (case measure=>have:=HK1.out;have:=HK2.out;omega);case rel=>exact⟨(x3_2.extract 1 x3_2.size),Zq.sd,H',⟨by have:=HK1.out;have:=HK2.out;omega⟩,⟨Zq.bo⟩⟩
          ·rw[if_neg c14]at H;exact absurd H (by simp)
         ·rw[if_neg c13]at H;have c13b0:((bt x3_2 0) == 48)=false:=beq_eq_false_iff_ne.mpr c13;have c13b1:((bt x3_2 0) != 48)=true:=bne_iff_ne.mpr c13;obtain rfl:=Option.some.inj H;have p12:0<=(0:Int):=(by omega);have q12:0<x3_2.size:=(by have:(0:Int)<(x3_2.size:Int):=of_decide_eq_true Zq.am;omega);have hx12:∀h:0<x3_2.size,((x3_2[0]'h).toNat:Int)=bt x3_2 0:=wJ x3_2 0;clear p12;have qi12:(0<(x3_2.size:Int))=True:=eq_true (of_decide_eq_true Zq.am);replace q12:=eq_true q12;go_wp2
          go_ret
          exact⟨Zq.ew,Zq.bo⟩
        ·rw[if_neg c11]at H;exact absurd H (by simp)
       ·rw[if_neg c10]at H;have c10b0:decide (1<(x3_2.size:Int))=false:=decide_eq_false c10;have c10b1:decide (1<x3_2.size)=false:=decide_eq_false (by omega);clear c10;obtain rfl:=Option.some.inj H;go_wp2
        go_ret
        exact⟨Zq.ew,Zq.bo⟩
def bU.j0:Nat->List Int->Bool->Option (ByteArray)
 | 0,_,_=>none
 | k+1,x1,x10=>if x10=true then((jI.f k x1).bind fun t162=>(if 1+t162.size<=9223372036854775807 then(some ((⟨#[45]⟩:ByteArray)++t162))else(none)))else((jI.f k x1).bind fun t163=>(some t163))
def bU.f (k:Nat) (a0:Bool) (l1:List Int):Option (ByteArray):=if a0=true then(bU.j0 k l1 (decide ((l1.length:Int)>0)))else(bU.j0 k l1 false)
theorem bU.calls (k:Nat) (a0:Bool) (A1:Option Addr) (c1:Nat) (l1:List Int) (r:ByteArray) (w:World) (hr1:Kd.C (Kd.int .i64) w A1 l1.length l1) (hc1:l1.length<=c1) (h:bU.f k a0 l1=some r):
 Calls Tryz.prog 90 #[.bool a0,.slice A1 l1.length c1] w fun e w'=>e = .returned (.string r)/\Below w.heap.size w w':=by
 have HR1:=aA.mk hr1;have HC1:=aA.mk hc1;clear hr1 hc1;have HB:=aA.mk (Below.refl w.heap.size w);have H:(if a0=true then(bU.j0 k l1 (decide ((l1.length:Int)>0)))else(bU.j0 k l1 false))=some r:=h;clear h;have HC3:=aA.mk H;clear H;go_enter Tryz.func90,Tryz.ntmps90
 go_upto_region 1 with(fail)
 go_cut [10] (fun v10 wc=>∃(kq:Nat) (x10_2:Bool),v10 = .bool x10_2/\aA (bU.j0 kq l1 x10_2=some r)/\aA (kq<=k)/\aA (Below w.heap.size w wc))
 case first=>
  have H:=HC3.out;clear HC3;by_cases c4:a0=true
  ·subst c4;(have H1:(bU.j0 k l1 (decide ((l1.length:Int)>0)))=some r:=by rw[if_pos rfl]at H;exact H);clear H;have H:=H1;clear H1;have H':=aA.mk H;clear H;go_wp2
   go_meet
   case rel=>exact⟨_,(decide ((l1.length:Int)>0)),Zq.sd,H',⟨by first|omega|exact Nat.le_refl _⟩,⟨Zq.bo⟩⟩
  ·replace c4:=Bool.eq_false_iff.mpr c4;subst c4;(have H1:(bU.j0 k l1 false)=some r:=by rw[if_neg (show ¬(false=true) by decide)]at H;exact H);clear H;have H:=H1;clear H1;have H':=aA.mk H;clear H;go_wp2
   go_meet
   case rel=>exact⟨_,(false),Zq.sd,H',⟨by first|omega|exact Nat.le_refl _⟩,⟨Zq.bo⟩⟩
 case rest=>
  clear HC3;(try clear c1);(try clear p2);(try clear c4);obtain⟨kq,x10_2,rfl,HA,HJ2,HB⟩:=hcut;cases kq with
  | zero=>exact absurd HA.out (by simp[bU.j0])
  | succ kj2=>
   have H:=HA.out;clear HA;simp only[bU.j0]at H;by_cases c5:x10_2=true
   ·subst c5;(have H1:((jI.f kj2 l1).bind fun t162=>(if 1+t162.size<=9223372036854775807 then(some ((⟨#[45]⟩:ByteArray)++t162))else(none)))=some r:=by rw[if_pos rfl]at H;exact H);clear H;have H:=H1;clear H1;obtain⟨t162,A6,H⟩:=Zq.mq H;(try dsimp only at H);by_cases c7:1+t162.size<=9223372036854775807
    ·rw[if_pos c7]at H;have c7b0:=eq_true c7;have c7b1:decide (1+t162.size<=9223372036854775807)=true:=decide_eq_true c7;(try have c7b2:(9223372036854775807<1+t162.size)=False:=eq_false (Nat.not_lt.2 c7));obtain rfl:=Option.some.inj H;go_wp2_with (first|((with_reducible refine Zq.c 134 rfl ?_);refine Zq.g (some 12) Tryz.func134 #[.slice A1 l1.length c1] ?_;(with_reducible refine(jI.calls kj2 _ _ l1 t162 _ ?side1 ?side2 A6.out).mono ?_);(case side1=>exact Zq.ca (Kd.iF HR1.out HB.out));(case side2=>exact HC1.out);rintro e w8 ⟨rfl,hb⟩;refine⟨_,rfl,?_⟩;replace HB:=aA.mk (aC Zq.bo hb);(try clear hb);(try clear hb2);(try clear hk);(try clear hi)))
     go_ret
     exact⟨Zq.ew,Zq.bo⟩
    ·rw[if_neg c7]at H;exact absurd H (by simp)
   ·replace c5:=Bool.eq_false_iff.mpr c5;subst c5;(have H1:((jI.f kj2 l1).bind fun t163=>(some t163))=some r:=by rw[if_neg (show ¬(false=true) by decide)]at H;exact H);clear H;have H:=H1;clear H1;obtain⟨t163,A9,H⟩:=Zq.mq H;(try dsimp only at H);obtain rfl:=Option.some.inj H;go_wp2_with (first|((with_reducible refine Zq.c 134 rfl ?_);refine Zq.g (some 15) Tryz.func134 #[.slice A1 l1.length c1] ?_;(with_reducible refine(jI.calls kj2 _ _ l1 t163 _ ?side1 ?side2 A9.out).mono ?_);(case side1=>exact Zq.ca (Kd.iF HR1.out HB.out));(case side2=>exact HC1.out);rintro e w10 ⟨rfl,hb⟩;refine⟨_,rfl,?_⟩;replace HB:=aA.mk (aC Zq.bo hb);(try clear hb);(try clear hb2);(try clear hk);(try clear hi)))
    go_ret
    exact⟨Zq.ew,Zq.bo⟩
end Go.Proofs.YtjieekkkaekclaaGreatDoor.PR
namespace Go.Proofs.YtjieekkkaekclaaGreatDoor
open Go Go.RowKit Go.Pw.PrintWords Go.Proofs.YtjieekkkaekclaaGreatDoor.PR
theorem aKk {c:UInt8} (h:Mw.dig c=true):((((c.toNat:Nat):Int)-48)%256)=((c.toNat-48:Nat):Int)/\c.toNat-48<10:=by have:=(aAk c).mp h;omega
theorem aLl (s:List UInt8) (o:List Int) (f n i:Nat) (hi:i<s.length) (hl:s.length<=1000000) (hd:Mw.dig (s.getD i 0)=true) (hn:n<10000) (k:Nat):
 aX.l1 (k+1) (Mw.B s) o f (n:Int) i=aX.l1 k (Mw.B s) o f ((10*n+((s.getD i 0).toNat-48):Nat):Int) ((i+1:Nat):Int):=by
 have g1:(i:Int)<(s.length:Int):=by omega
 have g2:(0:Int)<=(i:Int):=by omega
 have e:=aKk hd;have w1:wrap64 (10*(n:Int))=10*(n:Int):=eT (by omega) (by omega);have w2:wrap64 (10*(n:Int)+(((s.getD i 0).toNat-48:Nat):Int))=((10*n+((s.getD i 0).toNat-48):Nat):Int):=by rw[eT (by omega) (by omega)];omega
 have wi:wrap64 ((i:Int)+1)=((i+1:Nat):Int):=eT (by omega) (by omega);simp only[aX.l1];rw[eH,if_pos g1,if_pos g2,aDQ,Int.toNat_natCast,e.1,w1,w2,wi]
theorem aDv (s:List UInt8) (f i:Nat) (hf:f<=i) (hi:i<s.length):Mw.kM ((s.take (i+1)).drop f)=10*Mw.kM ((s.take i).drop f)+((s.getD i 0).toNat-48):=by rw[List.take_succ_eq_append_getElem hi,List.drop_append_of_le_length (by rw[List.length_take];omega),Mw.aAS,getD_lt hi]
theorem aJY (s:List UInt8) (hl:s.length<=1000000) (hd:∀c ∈ s,Mw.dig c=true) (o:List Int) (ho:o.length<=1000000) (f:Nat) (hf:f<=s.length) (h4:s.length<=f+4) (R:List Int)
 (next:EvP (fun k=>aX.l0 k (Mw.B (s.take f)) (o++[((Mw.kM (s.drop f):Nat):Int)])) R):
 ∀(d i:Nat),i+d=s.length->f<=i->EvP (fun k=>aX.l1 k (Mw.B s) o f ((Mw.kM ((s.take i).drop f):Nat):Int) i) R:=by
 intro d;induction d with
 | zero=>intro i hi hfi;rw[show s.take i=s from List.take_of_length_le (by omega)];refine EvP.step (fun k=>?_) next;simp only[aX.l1];rw[eH,if_neg (by omega),if_pos (by omega),if_pos (by omega),if_pos (by omega),tL,Int.toNat_natCast,List.drop_zero,Nat.sub_zero]
 | succ d ih=>intro i hi hfi;(have hlt:i<s.length:=by omega);(have hb:Mw.kM ((s.take i).drop f)<10000:=by refine Nat.lt_of_lt_of_le (Mw.yQ _ (fun c hc=>hd c (List.mem_of_mem_take (List.mem_of_mem_drop hc)))) ?_;exact Nat.le_trans (Nat.pow_le_pow_right (n:=10) (by omega) (show _<=4 by rw[List.length_drop,List.length_take];omega)) (by decide));(have hc:Mw.dig (s.getD i 0)=true:=by rw[getD_lt hlt];exact hd _ (List.getElem_mem hlt));refine EvP.step (fun k=>aLl s o f _ i hlt hl hc hb k) ?_;rw[<-aDv s f i hfi hlt];exact ih (i+1) (by omega) (by omega)
theorem aJZ (n:Nat):∀(s:List UInt8),s.length=n->s.length<=1000000->(∀c ∈ s,Mw.dig c=true)->∀(o:List Int),Mw.inB 10000 o->o.length+s.length<=1000000->
 EvP (fun k=>aX.l0 k (Mw.B s) o) (Mw.lm (Mw.lv 10000 o+10000^o.length*(Mw.kM s:Int)).toNat):=by
 induction n using Nat.strongRecOn with
 | _ n ih=>
  intro s hn hl hd o ho hol;by_cases h0:s=[];·subst h0;refine EvP.step (f:=fun k=>(dU.f k o).bind fun t=>some t) (fun k=>?_) (EvP.bind (nY o ho (by omega)) ?_);(·simp only[aX.l0];rw[eH,if_neg (by simp)]);·rw[Mw.wH];simp only[Int.ofNat_zero,Int.mul_zero,Int.add_zero];exact EvP.now _
  ·have hp:0<s.length:=List.length_pos_iff.mpr h0;have hb:Mw.kM (s.drop (s.length-4))<10000:=by refine Nat.lt_of_lt_of_le (Mw.yQ _ (fun c hc=>hd c (List.mem_of_mem_drop hc))) ?_;exact Nat.le_trans (Nat.pow_le_pow_right (n:=10) (by omega) (show _<=4 by rw[List.length_drop];omega)) (by decide)
   have nx:=ih (s.length-4) (by omega) (s.take (s.length-4)) (by rw[List.length_take];omega) (by rw[List.length_take];omega) (fun c hc=>hd c (List.mem_of_mem_take hc)) (o++[((Mw.kM (s.drop (s.length-4)):Nat):Int)])
    (Mw.sN.mpr ⟨ho,fun x hx=>by simp at hx;omega⟩) (by simp only[List.length_append,List.length_cons,List.length_nil,List.length_take];omega)
   (have hv:(Mw.kM s:Int)=(Mw.kM (s.drop (s.length-4)):Int)+10000*(Mw.kM (s.take (s.length-4)):Int):=by(have e:Mw.kM s=Mw.kM (s.take (s.length-4)++s.drop (s.length-4)):=by rw[List.take_append_drop]);rw[Mw.yA]at e;by_cases h4:4<=s.length;(·rw[show(s.drop (s.length-4)).length=4 by rw[List.length_drop];omega]at e;omega);·rw[show s.length-4=0 by omega]at e⊢;simp only[List.take_zero,List.drop_zero,Mw.wH]at e⊢;omega);(have hT:Mw.lv 10000 (o++[((Mw.kM (s.drop (s.length-4)):Nat):Int)])+10000^(o++[((Mw.kM (s.drop (s.length-4)):Nat):Int)]).length*((Mw.kM (s.take (s.length-4)):Nat):Int)=Mw.lv 10000 o+10000^o.length*(Mw.kM s:Int):=by rw[Mw.lC,hv,List.length_append,show[((Mw.kM (s.drop (s.length-4)):Nat):Int)].length=1 from rfl,Int.pow_succ,Int.mul_add,Int.mul_assoc,Int.add_assoc]);rw[hT]at nx;have mxe:mx 0 (wrap64 ((s.length:Int)-4))=((s.length-4:Nat):Int):=by rw[eT (by omega) (by omega)];unfold mx;omega
   refine EvP.step (f:=fun k=>aX.l1 k (Mw.B s) o ((s.length-4:Nat):Int) ((Mw.kM ((s.take (s.length-4)).drop (s.length-4)):Nat):Int) ((s.length-4:Nat):Int)) (fun k=>?_)
    (aJY s hl hd o (by omega) (s.length-4) (by omega) (by omega) _ nx (s.length-(s.length-4)) (s.length-4) (by omega) (Nat.le_refl _))
   simp only[aX.l0];rw[eH,if_pos (by omega),mxe,List.drop_of_length_le (by rw[List.length_take];omega),Mw.wH];rfl
theorem aK0 (s:List UInt8) (hl:s.length<=100000) (hd:∀c ∈ s,Mw.dig c=true):EvP (fun k=>aX.f k (Mw.B s)) (Mw.lm (Mw.kM s)):=by unfold aX.f;have:=aJZ s.length s rfl (by omega) hd [] (Mw.uX _) (by simp only[List.length_nil];omega);rw[show(Mw.lv 10000 []+10000^([]:List Int).length*(Mw.kM s:Int)).toNat=Mw.kM s by rw[Mw.oK];simp]at this;exact this
theorem aKW (n:Nat):∀(o:List UInt8),o.length=n->o≠[]->(∀c ∈ o,Mw.dig c=true)->EvP (fun k=>jI.l2 k (Mw.B o)) (Mw.B (Mw.gU (Mw.kM o))):=by
 induction n with
 | zero=>intro o hn h0;exact absurd (List.length_eq_zero_iff.mp hn) h0
 | succ n ih=>
  intro o hn h0 hd;cases o with
  | nil=>exact absurd rfl h0
  | cons c r=>(have e0:bt (Mw.B (c::r)) 0=(c.toNat:Int):=by rw[aDQ];rfl);(have stop:Mw.uM (c::r)=true->EvP (fun _=>some (Mw.B (c::r))) (Mw.B (Mw.gU (Mw.kM (c::r)))):=fun h=>by rw[Mw.yU _ h];exact EvP.now _);(have hcand:(r=[]\/c≠48)->Mw.uM (c::r)=true:=fun h=>by have ha:(c::r).all Mw.dig=true:=List.all_eq_true.mpr hd;rcases h with h|h;(·subst h;simp[Mw.uM,ha]);·(have:(c == 48)=false:=by rw[beq_eq_false_iff_ne];exact h);simp only[Mw.uM,List.isEmpty_cons,Bool.not_false,Bool.true_and,ha,List.head?_cons];rw[show(some c == some (48:UInt8))=(c == 48)from rfl,this];simp);by_cases h1:((c::r).length:Int)>1;(·by_cases h48:c=48;(·subst h48;(have hr:r≠[]:=by rintro rfl;simp at h1);(have hv:Mw.kM (48::r)=Mw.kM r:=by rw[Mw.vN];simp);rw[hv];refine EvP.step (fun k=>?_) (ih r (by simpa using hn) hr (fun c hc=>hd c (List.mem_cons_of_mem _ hc)));simp only[jI.l2];rw[eH,if_pos h1,if_pos (by omega),e0,if_pos (by decide),if_pos (by omega),tL];simp);·refine EvP.step (f:=fun _=>some (Mw.B (c::r))) (fun k=>?_) (stop (hcand (.inr h48)));simp only[jI.l2];rw[eH,if_pos h1,if_pos (by omega),e0,if_neg (fun h=>h48 (UInt8.toNat_inj.mp (show c.toNat=48 by omega)))]);·refine EvP.step (f:=fun _=>some (Mw.B (c::r))) (fun k=>?_) (stop (hcand (.inl (by cases r with|nil=>rfl|cons=>simp at h1;omega))));simp only[jI.l2];rw[eH,if_neg h1]
theorem aMk (l:List Int) (o:List UInt8) (i x j:Nat) (hj:j<4) (hx:x<10000) (ho:o.length<=10000000) (k:Nat):
 jI.l1 (k+1) l (Mw.B o) i (x:Int) j=jI.l1 k l (Mw.B (Mw.dgt (x%10)::o)) i ((x/10:Nat):Int) ((j+1:Nat):Int):=by
 have g1:(j:Int)<4:=by omega
 have wj:wrap64 ((j:Int)+1)=((j+1:Nat):Int):=eT (by omega) (by omega);have wx:wrap64 ((x/10:Nat):Int)=((x/10:Nat):Int):=eT (by omega) (by omega);have e1:Int.tmod (x:Int) 10=((x%10:Nat):Int):=rfl;have e2:Int.tdiv (x:Int) 10=((x/10:Nat):Int):=rfl;have e3:=aBN (n:=((x%10:Nat):Int)) (by omega) (by omega);simp only[jI.l1];rw[if_pos g1,e1,e2,wx,wj];simp only[Option.bind_some];rw[wY];simp only[List.map_cons,List.map_nil];rw[e3,Int.toNat_natCast,lM,if_pos (by rw[eH,eH];simp only[List.length_cons,List.length_nil];omega)];rfl
theorem aKX (l:List Int) (i:Nat) (R:ByteArray) (T:Nat) (hi:i<=1000000)
 (next:∀o:List UInt8,o.length=4*(i+1)->(∀c ∈ o,Mw.dig c=true)->Mw.kM o=T->EvP (fun k=>jI.l0 k l (Mw.B o) ((i+1:Nat):Int)) R):
 ∀(d j:Nat) (o:List UInt8) (x:Nat),j+d=4->o.length=4*i+j->(∀c ∈ o,Mw.dig c=true)->x<10^d->Mw.kM o+10^(4*i+j)*x=T->EvP (fun k=>jI.l1 k l (Mw.B o) i (x:Int) j) R:=by
 intro d;induction d with
 | zero=>intro j o x hj ho hd hx hT;have wi:wrap64 ((i:Int)+1)=((i+1:Nat):Int):=eT (by omega) (by omega);(obtain rfl:x=0:=by simpa using hx);refine EvP.step (fun k=>?_) (next o (by omega) hd (by simpa using hT));simp only[jI.l1];rw[if_neg (by omega),wi]
 | succ d ih=>intro j o x hj ho hd hx hT;have hx4:x<10000:=Nat.lt_of_lt_of_le hx (Nat.le_trans (Nat.pow_le_pow_right (n:=10) (by omega) (show d+1<=4 by omega)) (by decide));refine EvP.step (fun k=>aMk l o i x j (by omega) hx4 (by omega) k) (ih (j+1) _ (x/10) (by omega) (by simp only[List.length_cons];omega) (fun c hc=>?_) ?_ ?_);(·rcases List.mem_cons.mp hc with h|h;(·rw[h];exact Mw.aAT (by omega));·exact hd c h);(·rw[Nat.pow_succ]at hx;omega);·rw[Mw.vN,Mw.xK (by omega),<-hT,ho,show 4*i+(j+1)=(4*i+j)+1 from rfl,Nat.pow_succ];generalize 10^(4*i+j)=P;(have e:x=10*(x/10)+x%10:=by omega);generalize x/10=q at *;generalize x%10=r at *;subst e;rw[show 48+r-48=r by omega];grind
theorem aNo (i:Nat):(10000:Int)^i=((10^(4*i):Nat):Int):=by rw[Nat.pow_mul];simp
theorem aKY (l:List Int) (hl:l.length<=100000) (hi:Mw.inB 10000 l) (hne:l≠[]):∀(d i:Nat) (o:List UInt8),i+d=l.length->o.length=4*i->(∀c ∈ o,Mw.dig c=true)->((Mw.kM o:Nat):Int)=Mw.lv 10000 (l.take i)->
 EvP (fun k=>jI.l0 k l (Mw.B o) i) (Mw.B (Mw.gU (Mw.lv 10000 l).toNat)):=by
 intro d;induction d with
 | zero=>intro i o hd0 ho hd hv;have hlen:=List.length_pos_iff.mpr hne;have:=aKW o.length o rfl (by rintro rfl;simp at ho;omega) hd;rw[List.take_of_length_le (by omega)]at hv;rw[show(Mw.lv 10000 l).toNat=Mw.kM o by omega];refine EvP.step (fun k=>?_) this;simp only[jI.l0];rw[if_neg (by omega)]
 | succ d ih=>
  intro i o hd0 ho hd hv;(have hlt:i<l.length:=by omega);have px:=Mw.bW (B:=10000) (by omega) hi i;have ex:l.getD i 0=(((l.getD i 0).toNat:Nat):Int):=by omega
  refine EvP.step (f:=fun k=>jI.l1 k l (Mw.B o) i (((l.getD i 0).toNat:Nat):Int) ((0:Nat):Int)) (fun k=>?_)
   (aKX l i _ (Mw.kM o+10^(4*i)*(l.getD i 0).toNat) (by omega) (fun o' ho' hd' hv'=>ih (i+1) o' (by omega) ho' hd' ?_) 4 0 o (l.getD i 0).toNat rfl (by omega) hd (by omega) rfl)
  (·simp only[jI.l0];rw[if_pos (by omega),if_pos (by omega),iU,<-ex];rfl);·rw[Mw.iB l i hlt,Mw.lC,List.length_take,Nat.min_eq_left (by omega),<-hv,hv',aNo];generalize 10^(4*i)=P at *;rw[ex];generalize(l.getD i 0).toNat=x at *;simp
theorem aHu (n:Nat) (hl:(Mw.lm n).length<=100000):EvP (fun k=>jI.f k (Mw.lm n)) (Mw.B (Mw.gU n)):=by
 unfold jI.f;by_cases h:n=0;·subst h;refine EvP.fM (by rw[lQ];rfl) ?_;rw[Mw.xJ];exact EvP.now _
 ·(have hne:Mw.lm n≠[]:=fun e=>h ((wB n).mp e));refine EvP.jC (by have:=List.length_pos_iff.mpr hne;omega) ?_;have:=aKY (Mw.lm n) hl (iH n) hne (Mw.lm n).length 0 [] (by omega) rfl (by simp) (by rw[Mw.wH];rfl);rw[kZ,Int.toNat_natCast]at this;exact this
theorem aHW (b:Bool) (n:Nat) (hl:(Mw.lm n).length<=100000) (hd:(Mw.gU n).length<=1000000):EvP (fun k=>bU.f k b (Mw.lm n)) (Mw.T (if b=true then -(n:Int)else n)):=by
 have hp:EvP (fun k=>bU.j0 k (Mw.lm n) false) (Mw.B (Mw.gU n)):=
  EvP.step (f:=fun k=>(jI.f k (Mw.lm n)).bind fun t=>some t) (fun k=>by simp only[bU.j0];rw[if_neg (by simp)]) (EvP.bind (aHu n hl) (EvP.now _))
 have hT:Mw.B (Mw.gU n)=Mw.T (n:Int):=by rw[Mw.T,Mw.eY (by omega),Int.natAbs_natCast]
 unfold bU.f;cases b with
 | false=>refine EvP.jC (by simp) ?_;rw[if_neg (by simp),<-hT];exact hp
 | true=>refine EvP.fM rfl ?_;rw[if_pos rfl];by_cases h:n=0;(·subst h;rw[lQ]at hp⊢;rw[show decide ((([]:List Int).length:Int)>0)=false from rfl,show -((0:Nat):Int)=((0:Nat):Int)from rfl,<-hT];exact hp);·have hne:0<(Mw.lm n).length:=List.length_pos_iff.mpr (fun e=>h ((wB n).mp e));rw[decide_eq_true (by omega)];refine EvP.step (f:=fun k=>(jI.f k (Mw.lm n)).bind fun t=>if 1+t.size<=9223372036854775807 then some ((⟨#[45]⟩:ByteArray)++t)else none) (fun k=>by simp only[bU.j0];rw[if_pos trivial]) (EvP.bind (aHu n hl) ?_);refine EvP.fM (by rw[eH];omega) ?_;rw[show(⟨#[45]⟩:ByteArray)=Mw.B [45]from rfl,lM,Mw.T,Mw.kF (by omega),Int.natAbs_neg,Int.natAbs_natCast];exact EvP.now _
end Go.Proofs.YtjieekkkaekclaaGreatDoor
