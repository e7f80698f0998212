/- Lemmas for the claim beside this text. -/
import Derived.Test.YtjieekkkaekclaaGreatDoorZBAD
import Derived.Test.YtjieekkkaekclaaGreatDoorZBAK
import Derived.Test.YtjieekkkaekclaaGreatDoorZBAN
import Derived.Test.YtjieekkkaekclaaGreatDoorZBAO
import Derived.Test.YtjieekkkaekclaaGreatDoorZBAT
import Derived.Test.YtjieekkkaekclaaGreatDoorZBAU
import Derived.Test.YtjieekkkaekclaaGreatDoorZBAW
import Derived.Test.YtjieekkkaekclaaGreatDoorZBAX
import Derived.Test.YtjieekkkaekclaaGreatDoorZBAY
import Derived.Test.YtjieekkkaekclaaGreatDoorZLFAB
import Derived.Test.YtjieekkkaekclaaGreatDoorZLFAC
set_option linter.all false
set_option linter.unusedVariables false
set_option linter.unusedSimpArgs false
set_option maxHeartbeats 8000000
set_option maxRecDepth 100000
namespace Go.Proofs.YtjieekkkaekclaaGreatDoor
open Go Go.RowKit Go.Pw.PrintWords Go.Proofs.YtjieekkkaekclaaGreatDoor.PR
theorem mM (q:Nat) (h:q<10000):dR.f (q:Int)=some (Mw.lm q):=by
 unfold dR.f;by_cases h0:q=0;·subst h0;rw[lQ];rfl
 ·rw[if_neg (by omega),vC h0,show q/10000=0 by omega,lQ,show q%10000=q by omega]
def dI (a:List Int) (i:Int):Int:=if 0<=i then a.getD i.toNat 0 else 0
theorem wI {a:List Int} (h:Mw.inB 10000 a) (i:Int):0<=dI a i/\dI a i<10000:=by
 unfold dI;split;·exact Mw.bW (by omega) h _
 ·omega
theorem oC (a b:List Int) (ha:Mw.inB 10000 a) (n:Nat) (i top:Int) (hn:n<=1000000) (h1:(n:Int)-2<=i) (h2:i<=n) (t0:0<=top) (t1:top<100000000) (k:Nat):
 bO.l0 (k+1) a b n top i=bO.l0 k a b n (top*10000+dI a i) (i-1):=by
 have hd:=wI ha i;have w0:wrap64 ((n:Int)-2)=(n:Int)-2:=eT (by omega) (by omega);have w1:wrap64 (top*10000)=top*10000:=eT (by omega) (by omega);have w2:wrap64 (top*10000+dI a i)=top*10000+dI a i:=eT (by omega) (by omega);have wi:wrap64 (i-1)=i-1:=eT (by omega) (by omega);simp only[bO.l0];rw[w0,if_pos h1,w1,wi];by_cases c1:0<=i;·(have e:dI a i=rd a i:=by unfold dI;rw[if_pos c1];rfl);rw[if_pos c1];by_cases c2:i<(a.length:Int);(·rw[if_pos c2,if_pos c1,<-e,w2]);·(have e0:dI a i=0:=by rw[e,rd];clear w0 w1 w2 wi;exact tN (by omega) 0);rw[if_neg c2];rw[e0]at w2⊢;rw[w2]
 ·(have e0:dI a i=0:=by unfold dI;rw[if_neg c1]);rw[if_neg c1];rw[e0]at w2⊢;rw[w2]
def byI (b:List Int) (n:Nat):Int:=b.getD (n-1) 0*10000+if 1<n then b.getD (n-2) 0 else 0
theorem rU (a b:List Int) (hb:Mw.inB 10000 b) (n:Nat) (top:Int) (hn:n<=1000000) (h1:1<=n) (hl:n=b.length) (ht:b.getD (n-1) 0≠0) (t0:0<=top) (t1:top<1000000000000) (k:Nat):
 bO.l0 (k+1) a b n top ((n:Int)-3)=some (mn 9999 (top/byI b n)):=by
 have p1:=Mw.bW (B:=10000) (by omega) hb (n-1);have p2:=Mw.bW (B:=10000) (by omega) hb (n-2);have g0:¬(n:Int)-3>=(n:Int)-2:=by omega
 have g1:(0:Int)<=(n:Int)-1:=by omega
 have g2:(n:Int)-1<(b.length:Int):=by omega
 have e1:((n:Int)-1).toNat=n-1:=by omega
 have e2:((n:Int)-2).toNat=n-2:=by omega
 have r1:rd b ((n:Int)-1)=b.getD (n-1) 0:=by rw[rd,e1]
 have r2:rd b ((n:Int)-2)=b.getD (n-2) 0:=by rw[rd,e2]
 have hby:0<byI b n:=by unfold byI;split<;>omega
 have q0:0<=top/byI b n:=Int.ediv_nonneg t0 (by omega);have q1:top/byI b n<=top:=Int.ediv_le_self _ t0;have w4:wrap64 (top/byI b n)=top/byI b n:=eT (by omega) (by omega);have td:Int.tdiv top (byI b n)=top/byI b n:=Int.tdiv_eq_ediv_of_nonneg t0;have c0:¬byI b n=0:=by omega
 have w0:wrap64 ((n:Int)-2)=(n:Int)-2:=eT (by omega) (by omega);have w1:wrap64 ((n:Int)-1)=(n:Int)-1:=eT (by omega) (by omega);have w2:wrap64 (b.getD (n-1) 0*10000)=b.getD (n-1) 0*10000:=eT (by omega) (by omega);have w3:wrap64 (b.getD (n-1) 0*10000+b.getD (n-2) 0)=b.getD (n-1) 0*10000+b.getD (n-2) 0:=eT (by omega) (by omega);simp only[bO.l0];rw[w0,if_neg g0,w1,if_pos g1,if_pos g2,r1,w2];by_cases c1:1<n;·(have g3:(n:Int)>1:=by clear w0 w1 w2 w3 w4;omega);(have g4:(0:Int)<=(n:Int)-2:=by clear w0 w1 w2 w3 w4;omega);(have g5:(n:Int)-2<(b.length:Int):=by clear w0 w1 w2 w3 w4;omega);(have e:byI b n=b.getD (n-1) 0*10000+b.getD (n-2) 0:=by unfold byI;rw[if_pos c1]);rw[if_pos g3,if_pos g4,if_pos g5,r2,w3,<-e,if_neg c0,td,w4]
 ·(have g3:¬(n:Int)>1:=by clear w0 w1 w2 w3 w4;omega);(have e:byI b n=b.getD (n-1) 0*10000:=by unfold byI;rw[if_neg c1,Int.add_zero]);rw[if_neg g3,<-e,if_neg c0,td,w4]
theorem tY (x y:Nat) (hy:0<y) (hxy:x<10000*y):
 ((x/y:Nat):Int)*byI (Mw.lm y) (Mw.lm y).length<=(dI (Mw.lm x) (Mw.lm y).length*10000+dI (Mw.lm x) ((Mw.lm y).length-1))*10000+dI (Mw.lm x) ((Mw.lm y).length-1-1):=by
 have hne:Mw.lm y≠[]:=fun e=>by have:=(wB y).mp e;omega
 have hn:=List.length_pos_iff.mpr hne
 have hq:((x/y:Nat):Int)*(y:Int)<=x:=by
  have:=Nat.div_mul_le_self x y
  exact_mod_cast this
 have hla:(Mw.lm x).length<=(Mw.lm y).length+1:=by by_cases hx:Mw.lm x=[];(·rw[hx];simp);·have h1:=rO hx;have h2:=sW y;by_cases hc:(Mw.lm x).length-1<=(Mw.lm y).length;(·omega);·have h3:=mG (show(Mw.lm y).length+1<=(Mw.lm x).length-1 by omega);rw[Int.pow_succ]at h3;omega
 have vx:=kZ x;have vy:=kZ y;obtain⟨n,hN⟩:∃n,n=(Mw.lm y).length:=⟨_,rfl⟩;rw[<-hN]at hn hla⊢;have Lx:∀i,(Mw.lm x).getD i 0=(Mw.lm x).getD i 0:=fun _=>rfl
 by_cases h1:1<n
 ·obtain⟨m,rfl⟩:∃m,n=m+2:=⟨n-2,by omega⟩;have ix:=Mw.kG (iH x) m;have lx:=Mw.uL (B:=10000) (by omega) ix;(have sx:Mw.lv 10000 (Mw.lm x)=Mw.lv 10000 ((Mw.lm x).take m)+10000^((Mw.lm x).take m).length*Mw.lv 10000 ((Mw.lm x).drop m):=by rw[<-Mw.oF,List.take_append_drop]);(have sy:Mw.lv 10000 (Mw.lm y)=Mw.lv 10000 ((Mw.lm y).take m)+10000^((Mw.lm y).take m).length*Mw.lv 10000 ((Mw.lm y).drop m):=by rw[<-Mw.oF,List.take_append_drop]);have ny:=Mw.iQ (B:=10000) (by omega) (Mw.kG (iH y) m);(have ly:((Mw.lm y).take m).length=m:=by rw[List.length_take];omega);(have dx:Mw.lv 10000 ((Mw.lm x).drop m)=(dI (Mw.lm x) ((m+2:Nat):Int)*10000+dI (Mw.lm x) (((m+2:Nat):Int)-1))*10000+dI (Mw.lm x) (((m+2:Nat):Int)-1-1):=by rw[gM _ m,gM _ (m+1),gM _ (m+2),gB _ (m+2+1) (by omega)];unfold dI;rw[if_pos (by omega),if_pos (by omega),if_pos (by omega),show(((m+2:Nat):Int)).toNat=m+2 by omega,show(((m+2:Nat):Int)-1).toNat=m+1 by omega,show(((m+2:Nat):Int)-1-1).toNat=m by omega];omega);(have dy:Mw.lv 10000 ((Mw.lm y).drop m)=byI (Mw.lm y) (m+2):=by rw[gM _ m,gM _ (m+1),gB _ (m+1+1) (by omega)];unfold byI;rw[if_pos (by omega),show m+2-1=m+1 from rfl,show m+2-2=m from rfl];omega);rw[vx,dx]at sx;rw[vy,dy,ly]at sy;by_cases hm:m<=(Mw.lm x).length
  (·rw[show((Mw.lm x).take m).length=m by rw[List.length_take];omega]at sx lx;generalize(dI (Mw.lm x) ((m+2:Nat):Int)*10000+dI (Mw.lm x) (((m+2:Nat):Int)-1))*10000+dI (Mw.lm x) (((m+2:Nat):Int)-1-1)=top at *;generalize byI (Mw.lm y) (m+2)=by_ at *;have hq0:(0:Int)<=((x/y:Nat):Int):=Int.natCast_nonneg _;generalize((x/y:Nat):Int)=q at *;have hp:=uR m;generalize(10000:Int)^m=P at *;generalize Mw.lv 10000 ((Mw.lm x).take m)=A0 at *;generalize Mw.lv 10000 ((Mw.lm y).take m)=Y0 at *;by_cases hc:q*by_<=top;(·exact hc);·exfalso;have k1:P*(top+1)<=P*(q*by_):=Int.mul_le_mul_of_nonneg_left (by omega) (by omega);have k2:0<=q*Y0:=Int.mul_nonneg hq0 ny;rw[Int.mul_add,Int.mul_one]at k1;(have k3:q*(y:Int)=q*Y0+P*(q*by_):=by rw[sy];grind);omega);·(have hx0:x/y=0:=by refine Nat.div_eq_of_lt ?_;have k1:=sW x;have k2:=rO hne;have k3:=mG (show(Mw.lm x).length<=(Mw.lm y).length-1 by omega);omega);rw[hx0,<-dx,List.drop_of_length_le (by omega)];show((0:Nat):Int)*_<=0;omega
 ·(obtain rfl:n=1:=by omega);(have ey:(y:Int)=(Mw.lm y).getD 0 0:=by have h2:=gM (Mw.lm y) 0;rw[List.drop_zero,vy,gB _ (0+1) (by omega)]at h2;omega);(have ex:(x:Int)=(Mw.lm x).getD 0 0+10000*(Mw.lm x).getD 1 0:=by have h2:=gM (Mw.lm x) 0;rw[List.drop_zero,vx,gM _ (0+1),gB _ (0+1+1) (by omega)]at h2;rw[Nat.zero_add]at h2;omega);have d1:dI (Mw.lm x) ((1:Nat):Int)=(Mw.lm x).getD 1 0:=rfl;have d0:dI (Mw.lm x) (((1:Nat):Int)-1)=(Mw.lm x).getD 0 0:=rfl;have dm:dI (Mw.lm x) (((1:Nat):Int)-1-1)=0:=rfl;(have hb:byI (Mw.lm y) 1=(Mw.lm y).getD 0 0*10000:=by unfold byI;rw[if_neg (by omega),Int.add_zero]);rw[d1,d0,dm,hb,<-ey];(have k1:((x/y:Nat):Int)*((y:Int)*10000)=10000*(((x/y:Nat):Int)*(y:Int)):=by grind);rw[k1];omega
theorem tZ (x y:Nat) (hy:0<y) (hxy:x<10000*y) (hl:(Mw.lm y).length<=100000):∃q:Nat,x/y<=q/\q<=9999/\EvP (fun k=>bO.f k (Mw.lm x) (Mw.lm y)) (q:Int):=by
 have hne:Mw.lm y≠[]:=fun e=>by have:=(wB y).mp e;omega
 have hn:=List.length_pos_iff.mpr hne;have ia:=iH x;have ib:=iH y;have ht:(Mw.lm y).getD ((Mw.lm y).length-1) 0≠0:=by have h:=xO y;obtain⟨a,c,e⟩:=Mw.aB2 hne;rw[e]at h⊢;have:=Mw.rP.mp h;simpa [List.getD_eq_getElem?_getD]using this
 have b1:=wI ia ((Mw.lm y).length:Int);have b2:=wI ia (((Mw.lm y).length:Int)-1);have b3:=wI ia (((Mw.lm y).length:Int)-1-1);have le:=tY x y hy hxy;obtain⟨top,htop⟩:∃top,top=(dI (Mw.lm x) (Mw.lm y).length*10000+dI (Mw.lm x) ((Mw.lm y).length-1))*10000+dI (Mw.lm x) ((Mw.lm y).length-1-1):=⟨_,rfl⟩;have p1:=Mw.bW (B:=10000) (by omega) ib ((Mw.lm y).length-1);have p2:=Mw.bW (B:=10000) (by omega) ib ((Mw.lm y).length-2);have hby:0<byI (Mw.lm y) (Mw.lm y).length:=by unfold byI;split<;>omega
 have t0:0<=top:=by omega
 have t1:top<1000000000000:=by omega
 rw[<-htop]at le;have hq:((x/y:Nat):Int)<=top/byI (Mw.lm y) (Mw.lm y).length:=Int.le_ediv_of_mul_le hby le;have hQ:x/y<=9999:=by have:x/y<10000:=Nat.div_lt_of_lt_mul (by rw[Nat.mul_comm];exact hxy);omega
 have q0:0<=top/byI (Mw.lm y) (Mw.lm y).length:=Int.ediv_nonneg t0 (by omega);have hmn:∃q:Nat,mn 9999 (top/byI (Mw.lm y) (Mw.lm y).length)=(q:Int)/\x/y<=q/\q<=9999:=by generalize top/byI (Mw.lm y) (Mw.lm y).length=g at *;refine⟨(mn 9999 g).toNat,?_,?_,?_⟩<;>unfold mn<;>split<;>omega
 obtain⟨q,e,h1,h2⟩:=hmn;refine⟨q,h1,h2,?_⟩;unfold bO.f;refine EvP.step (fun k=>oC _ _ ia (Mw.lm y).length _ 0 (by omega) (by omega) (by omega) (by omega) (by omega) k) ?_;refine EvP.step (fun k=>oC _ _ ia (Mw.lm y).length _ _ (by omega) (by omega) (by omega) (by omega) (by omega) k) ?_;refine EvP.step (fun k=>oC _ _ ia (Mw.lm y).length _ _ (by omega) (by omega) (by omega) (by omega) (by omega) k) ?_;have e0:((0*10000+dI (Mw.lm x) (Mw.lm y).length)*10000+dI (Mw.lm x) ((Mw.lm y).length-1))*10000+dI (Mw.lm x) ((Mw.lm y).length-1-1)=top:=by omega
 rw[e0,show((Mw.lm y).length:Int)-1-1-1=((Mw.lm y).length:Int)-3 by omega];exact EvP.step (f:=fun _=>some (q:Int)) (fun k=>by rw[rU _ _ ib _ top (by omega) (by omega) rfl ht t0 t1 k,e]) (EvP.now _)
theorem qJ (x y L:Nat) (h:x<=y) (hl:(Mw.lm y).length<=L):(Mw.lm x).length<=L:=Nat.le_trans (jP h) hl
theorem pM {a b:Nat}:gV (a:Int) (b:Int)>0<->b<a:=by
 unfold gV;by_cases h1:(a:Int)<b;·rw[if_pos h1];omega
 ·rw[if_neg h1];by_cases h2:(b:Int)<a;(·rw[if_pos h2];omega);·rw[if_neg h2];omega
theorem vV (la lb:List Int) (y:Nat) (hb:lb=Mw.lm y) (hy:0<y) (hlb:(Mw.lm y).length<=50000) (quo:List Int) (r i:Nat) (hi:i<quo.length) (hq:quo.length<=100000) (R:List Int×List Int)
 (next:EvP (fun k=>bB.l0 k la lb (quo.set i ((r/y:Nat):Int)) (Mw.lm (r%y)) ((i:Int)-1)) R):
 ∀(d q:Nat),q=r/y+d->q<=9999->EvP (fun k=>bB.l1 k la lb quo (Mw.lm r) i (q:Int)) R:=by
 subst hb;have ll:∀q,q<=9999->(Mw.lm q).length<=100000:=fun q hq=>by have:=qJ q 9999 1 hq (by rw[vC (by omega),show 9999/10000=0 from rfl,lQ];simp);omega
 have hr:y*(r/y)<=r:=Nat.mul_div_le r y;have hrl:(Mw.lm (y*9999)).length<=100000:=by by_cases h:Mw.lm (y*9999)=[];(·rw[h];simp);·have h1:=rO h;have h2:=sW y;by_cases hc:(Mw.lm (y*9999)).length<=(Mw.lm y).length+1;(·omega);·have h3:=mG (show(Mw.lm y).length+1<=(Mw.lm (y*9999)).length-1 by omega);rw[Int.pow_succ]at h3;simp only[Int.natCast_mul]at h1;omega
 intro d;induction d with
 | zero=>
  intro q hq0 hq9;obtain rfl:q=r/y:=hq0;have hm:=kT y (r/y) (by omega) (ll _ hq9);have hs:=Nat.div_add_mod r y;by_cases hrL:(Mw.lm r).length<=100000
  ·refine EvP.step (f:=fun k=>(some (Mw.lm (r/y))).bind fun t250=>(aH.f k (Mw.lm y) t250).bind fun t253=>(fH.f k t253 (Mw.lm r)).bind fun t256=>if t256>0 then bB.l1 k la (Mw.lm y) quo (Mw.lm r) i (wrap64 (((r/y:Nat):Int)-1))else
    if 0<=(i:Int)then(if(i:Int)<(quo.length:Int)then((some (Mw.lm (r/y))).bind fun t258=>(aH.f k (Mw.lm y) t258).bind fun t261=>(fQ.f k (Mw.lm r) t261).bind fun t264=>bB.l0 k la (Mw.lm y) (quo.set (i:Int).toNat ((r/y:Nat):Int)) t264 (wrap64 ((i:Int)-1)))else none)else none) (fun k=>by simp only[bB.l1];rw[mM _ (by omega)]) ?_
   refine EvP.bind (EvP.now _) (EvP.bind hm (EvP.bind (qL _ _ (by have:=jP hr;omega) (by omega)) ?_));refine EvP.jC (by rw[pM];omega) (EvP.fM (by omega) (EvP.fM (by omega) ?_));refine EvP.bind (EvP.now _) (EvP.bind hm (EvP.bind (xV _ _ hr hrL) ?_));rw[show r-y*(r/y)=r%y by omega,Int.toNat_natCast,eT (by omega) (by omega)];exact next
  ·exfalso;(have:r<y*9999+y:=by have:=Nat.mod_lt r hy;have h2:y*(r/y)<=y*9999:=Nat.mul_le_mul_left y hq9;omega);by_cases h:Mw.lm r=[];(·rw[h]at hrL;simp at hrL);·have h1:=rO h;have h2:=sW y;have h3:=mG (show(Mw.lm y).length+1<=(Mw.lm r).length-1 by omega);rw[Int.pow_succ]at h3;omega
 | succ d ih=>
  intro q hq0 hq9;have nx:=ih (q-1) (by generalize r/y=Q at *;omega) (by omega);have hm:=kT y q (by omega) (ll _ hq9);(have hlt:r<y*q:=by(have h1:r<y*(r/y)+y:=by have:=Nat.div_add_mod r y;have:=Nat.mod_lt r hy;omega);(have h2:y*(r/y)+y=y*(r/y+1):=by rw[Nat.mul_add,Nat.mul_one]);have h3:y*(r/y+1)<=y*q:=Nat.mul_le_mul_left y (by omega);omega);have hyq:y*q<=y*9999:=Nat.mul_le_mul_left y hq9
  refine EvP.step (f:=fun k=>(some (Mw.lm q)).bind fun t250=>(aH.f k (Mw.lm y) t250).bind fun t253=>(fH.f k t253 (Mw.lm r)).bind fun t256=>if t256>0 then bB.l1 k la (Mw.lm y) quo (Mw.lm r) i (wrap64 ((q:Int)-1))else
   if 0<=(i:Int)then(if(i:Int)<(quo.length:Int)then((some (Mw.lm q)).bind fun t258=>(aH.f k (Mw.lm y) t258).bind fun t261=>(fQ.f k (Mw.lm r) t261).bind fun t264=>bB.l0 k la (Mw.lm y) (quo.set (i:Int).toNat (q:Int)) t264 (wrap64 ((i:Int)-1)))else none)else none) (fun k=>by simp only[bB.l1];rw[mM _ (by omega)]) ?_
  refine EvP.bind (EvP.now _) (EvP.bind hm (EvP.bind (qL _ _ (by have:=jP hyq;omega) (by have:=jP (show r<=y*9999 by omega);omega)) ?_));refine EvP.fM (by rw[pM];exact hlt) ?_;rw[eT (by omega) (by omega),show((q:Int)-1)=((q-1:Nat):Int) by rw[Int.natCast_sub (by generalize r/y=Q at *;omega)];rfl];exact nx
theorem wC (c r:Nat) (hc:c<10000) (hl:(Mw.lm r).length<=1000000):EvP (fun k=>dU.f k ((c:Int)::Mw.lm r)) (Mw.lm (c+10000*r)):=by have:=nY ((c:Int)::Mw.lm r) (Mw.nJ.mpr ⟨⟨by omega,by omega⟩,iH r⟩) (by simp only[List.length_cons];omega);rw[Mw.mH,kZ,show((c:Int)+10000*(r:Int)).toNat=c+10000*r by omega]at this;exact this
def vY (x y:Nat) (i:Nat) (quo:List Int) (r:Nat):Prop:=
 quo.length=(Mw.lm x).length/\Mw.inB 10000 quo/\r<y/\Mw.lv 10000 ((Mw.lm x).drop i)=Mw.lv 10000 (quo.drop i)*y+r/\∀j,j<i->quo.getD j 0=0
theorem pK (l:List Int) (i j:Nat) (v:Int) (h:i<j):(l.set i v).drop j=l.drop j:=by rw[List.drop_set];rw[if_pos h]
theorem vW (x y:Nat) (hy:0<y) (hx:(Mw.lm x).length<=50000) (hyl:(Mw.lm y).length<=50000):∀(i:Nat) (quo:List Int) (r:Nat),i<=(Mw.lm x).length->vY x y i quo r->
 EvP (fun k=>bB.l0 k (Mw.lm x) (Mw.lm y) quo (Mw.lm r) ((i:Int)-1)) (Mw.lm (x/y),Mw.lm (x%y)):=by
 intro i;induction i with
 | zero=>intro quo r hi hI;obtain⟨h1,h2,h3,h4,h5⟩:=hI;rw[List.drop_zero,List.drop_zero,kZ]at h4;have h0:=Mw.iQ (B:=10000) (by omega) h2;(have hx':x=(Mw.lv 10000 quo).toNat*y+r:=by(have:(Mw.lv 10000 quo)=(((Mw.lv 10000 quo).toNat:Nat):Int):=by omega);rw[this,<-Int.natCast_mul,<-Int.natCast_add]at h4;exact Int.ofNat_inj.mp h4);(have e1:x/y=(Mw.lv 10000 quo).toNat:=by rw[hx',Nat.mul_comm,Nat.mul_add_div hy,Nat.div_eq_of_lt h3,Nat.add_zero]);(have e2:x%y=r:=by rw[hx',Nat.mul_comm,Nat.mul_add_mod,Nat.mod_eq_of_lt h3]);rw[e1,e2];refine EvP.step (f:=fun k=>(dU.f k quo).bind fun t=>some (t,Mw.lm r)) (fun k=>?_) (EvP.bind (nY quo h2 (by omega)) (EvP.now _));simp only[bB.l0];rw[if_neg (by omega)]
 | succ i ih=>
  intro quo r hi hI;obtain⟨h1,h2,h3,h4,h5⟩:=hI;have pc:=Mw.bW (B:=10000) (by omega) (iH x) i;obtain⟨c,hc⟩:∃c:Nat,(Mw.lm x).getD i 0=(c:Int):=⟨((Mw.lm x).getD i 0).toNat,by omega⟩;(have hc':c<10000:=by omega);(have hrl:(Mw.lm r).length<=50000:=by have:=jP (show r<=y by omega);omega);(have hlt:c+10000*r<10000*y:=by omega);obtain⟨q,g1,g2,g3⟩:=tZ (c+10000*r) y hy hlt (by omega);have hq9:(c+10000*r)/y<10000:=Nat.div_lt_of_lt_mul (by omega);have hs:=Nat.div_add_mod (c+10000*r) y;have nx:=ih (quo.set i (((c+10000*r)/y:Nat):Int)) ((c+10000*r)%y) (by omega) ⟨by simp[h1],Mw.kS h2 _ (Int.natCast_nonneg _) (Int.ofNat_lt.mpr hq9),Nat.mod_lt _ hy,?_,fun j hj=>by rw[getD_set_ne _ _ _ _ (by omega)];exact h5 j (by omega)⟩;·have:=vV (Mw.lm x) (Mw.lm y) y rfl hy hyl quo (c+10000*r) i (by omega) (by omega) _ nx (q-(c+10000*r)/y) q (by omega) g2;refine EvP.step (f:=fun k=>(some ([(c:Int)]:List Int)).bind fun y240=>if y240.length+(Mw.lm r).length<17592186044416 then(dU.f k (y240++Mw.lm r)).bind fun t246=>(bO.f k t246 (Mw.lm y)).bind fun t249=>bB.l1 k (Mw.lm x) (Mw.lm y) quo t246 i t249 else none) (fun k=>?_) ?_;(·simp only[bB.l0];rw[show(((i+1:Nat):Int)-1)=(i:Int) by omega,if_pos (by omega),if_pos (by omega),if_pos (by omega),iU,hc]);·refine EvP.bind (EvP.now _) (EvP.fM (by simp only[List.length_cons,List.length_nil];omega) ?_);exact EvP.bind (wC c r hc' (by omega)) (EvP.bind g3 this)
  ·rw[gM (Mw.lm x) i,hc,h4];rw[gM (quo.set i _) i,pK _ _ _ _ (by omega)];rw[show(quo.set i (((c+10000*r)/y:Nat):Int)).getD i 0=(((c+10000*r)/y:Nat):Int) by rw[List.getD_eq_getElem?_getD,List.getElem?_set_self (by omega)];rfl];(have hs':(y:Int)*(((c+10000*r)/y:Nat):Int)+(((c+10000*r)%y:Nat):Int)=(c:Int)+10000*(r:Int):=by rw[<-Int.natCast_mul,<-Int.natCast_add,hs,Int.natCast_add,Int.natCast_mul];rfl);generalize(((c+10000*r)/y:Nat):Int)=Q at *;generalize(((c+10000*r)%y:Nat):Int)=M at *;generalize Mw.lv 10000 (quo.drop (i+1))=V at *;grind
theorem vX (x y:Nat) (hy:0<y) (hx:(Mw.lm x).length<=50000) (hyl:(Mw.lm y).length<=50000):EvP (fun k=>bB.f k (Mw.lm x) (Mw.lm y)) (Mw.lm (x/y),Mw.lm (x%y)):=by have h:=vW x y hy hx hyl (Mw.lm x).length (List.replicate (Mw.lm x).length 0) 0 (Nat.le_refl _) ⟨by simp,Mw.jQ (by omega) _,hy,by rw[gB _ _ (Nat.le_refl _),gB _ _ (by simp)];simp,fun j _=>by simp[List.getD_eq_getElem?_getD,List.getElem?_replicate];intros;split<;>rfl⟩;rw[lQ]at h;refine EvP.congr (fun k=>?_) h;unfold bB.f;rw[if_pos (by omega),if_pos (by omega),aCQ (by omega),Int.toNat_natCast]
theorem qP (n:Int) (hn:(Mw.gU n.natAbs).length<=100000):fF.f (Mw.T n)=some (Mw.T (-n)):=by
 unfold fF.f;rw[Mw.T,xN,aB6,Mw.wE];simp only[Option.bind_some];have hl:=nC n;by_cases h0:n=0;·subst h0;rw[if_pos Mw.jX];rfl
 ·rw[if_neg (fun h=>h0 ((Mw.jN n).mp h))];by_cases h:n<0;(·rw[if_pos (decide_eq_true h),if_pos (by rw[eH,Mw.kF h];simp only[List.length_cons];omega),tL,eH,Mw.kF h,Mw.T,Mw.eY (by omega),Int.natAbs_neg];simp);·rw[if_neg (by simp;omega),if_pos (by rw[eH];omega),show(⟨#[45]⟩:ByteArray)=Mw.B [45]from rfl,lM,Mw.T,Mw.eY (n:=n) (by omega),Mw.kF (n:=-n) (by omega),Int.natAbs_neg];rfl
end Go.Proofs.YtjieekkkaekclaaGreatDoor
namespace Go.Proofs.YtjieekkkaekclaaGreatDoor.PR
open Go.RowKit Go.Pw.PrintWords Go.Pw.PrintLast Go.Pw.PrintMore
attribute [local go_sem] eG dZ fE fD dM dL eF dY
def iA.f (k:Nat) (a0:ByteArray) (a1:ByteArray):Option (ByteArray):=(fF.f a1).bind fun t337=>((fG.f k a0 t337).bind fun t338=>(some t338))
theorem iA.calls (k:Nat) (a0:ByteArray) (a1:ByteArray) (r:ByteArray) (w:World) (h:iA.f k a0 a1=some r):
 Calls Tryz.prog 83 #[.string a0,.string a1] w fun e w'=>e = .returned (.string r)/\Below w.heap.size w w':=by
 have HB:=aA.mk (Below.refl w.heap.size w);have H:((fF.f a1).bind fun t337=>((fG.f k a0 t337).bind fun t338=>(some t338)))=some r:=h;clear h;obtain⟨t337,A3,H⟩:=Zq.mq H;try dsimp only at H
 obtain⟨t338,A4,H⟩:=Zq.mq H;try dsimp only at H
 obtain rfl:=Option.some.inj H;go_enter Tryz.func83,Tryz.ntmps83
 go_wp2_with (first|((with_reducible refine Zq.c 84 rfl ?_);refine Zq.g (some 7) Tryz.func84 #[.string a1] ?_;(with_reducible refine(fF.calls a1 t337 _ A3.out).mono ?_);rintro e w' ⟨rfl,nd,rfl⟩;refine⟨_,rfl,?_⟩)|((with_reducible refine Zq.c 32 rfl ?_);refine Zq.g (some 8) Tryz.func32 #[.string a0,.string t337] ?_;(with_reducible refine(fG.calls k a0 t337 t338 _ A4.out).mono ?_);rintro e w5 ⟨rfl,hb⟩;refine⟨_,rfl,?_⟩;replace HB:=aA.mk (aC Zq.bo hb);(try clear hb);(try clear hb2);(try clear hk);(try clear hi)))
 go_ret
 exact⟨Zq.ew,Zq.bo⟩
def dW.f (k:Nat) (a0:ByteArray) (a1:ByteArray):Option (ByteArray×ByteArray):=(bT.f k a0 a1).bind fun bt267=>(if bt267.2.2=true then(if bt267.2.1=0 then(none)else((bM.f k (wrap64 (Int.tdiv bt267.1 bt267.2.1))).bind fun t270=>((bM.f k (Int.tmod bt267.1 bt267.2.1)).bind fun t271=>(some (t270,t271)))))else((aZ.f a0).bind fun t272=>((aX.f k t272).bind fun t273=>((aZ.f a1).bind fun t276=>((aX.f k t276).bind fun t277=>((bB.f k t273 t277).bind fun bt280=>((aN.f a0).bind fun t286=>((aN.f a1).bind fun t287=>((bU.f k (t286 != t287) bt280.1).bind fun t288=>((aN.f a0).bind fun t289=>((bU.f k t289 bt280.2).bind fun t290=>(some (t288,t290)))))))))))))
def dW.T3:Bool×List (List Nat×List Nat):=(true,[([],[]),([],[]),([0,1],[0,1]),([2],[2]),([],[]),([],[]),([4,5],[4,5]),([6,3],[6]),([3,7,0,1,2,3],[3]),([7,8,0,1,2,3,4,5,6,7,8],[7])])
def dW.B3:List Nat:=[0,0,3,7,0,0,48,127,255,511]
theorem dW.aCW:nM .any (opsOf Tryz.f33 3)=dW.T3:=by kernel_rfl
theorem dW.aAI:jG dW.T3.2 dW.B3=true:=by kernel_rfl
theorem dW.calls (k:Nat) (a0:ByteArray) (a1:ByteArray) (r1:ByteArray) (r2:ByteArray) (w:World) (h:dW.f k a0 a1=some (r1,r2)):
 Calls Tryz.prog 33 #[.string a0,.string a1] w fun e w'=>e = .returned (.tuple #[.string r1,.string r2])/\Below w.heap.size w w':=by
 have HB:=aA.mk (Below.refl w.heap.size w);have H:((bT.f k a0 a1).bind fun bt267=>(if bt267.2.2=true then(if bt267.2.1=0 then(none)else((bM.f k (wrap64 (Int.tdiv bt267.1 bt267.2.1))).bind fun t270=>((bM.f k (Int.tmod bt267.1 bt267.2.1)).bind fun t271=>(some (t270,t271)))))else((aZ.f a0).bind fun t272=>((aX.f k t272).bind fun t273=>((aZ.f a1).bind fun t276=>((aX.f k t276).bind fun t277=>((bB.f k t273 t277).bind fun bt280=>((aN.f a0).bind fun t286=>((aN.f a1).bind fun t287=>((bU.f k (t286 != t287) bt280.1).bind fun t288=>((aN.f a0).bind fun t289=>((bU.f k t289 bt280.2).bind fun t290=>(some (t288,t290))))))))))))))=some (r1,r2):=h;clear h;replace H:=Zq.mp H;obtain⟨⟨t267,t268,t269⟩,A30,H⟩:=H;try dsimp only at H
 have A3:=aA.mk A30;clear A30;by_cases c4:t269=true
 ·subst c4;(have H1:(if t268=0 then(none)else((bM.f k (wrap64 (Int.tdiv t267 t268))).bind fun t270=>((bM.f k (Int.tmod t267 t268)).bind fun t271=>(some (t270,t271)))))=some (r1,r2):=by rw[if_pos rfl]at H;exact H);clear H;have H:=H1;clear H1;by_cases c5:t268=0;·rw[if_pos c5]at H;exact absurd H (by simp)
  ·rw[if_neg c5]at H;have c5b0:(t268 == 0)=false:=beq_eq_false_iff_ne.mpr c5;have c5b1:(t268 != 0)=true:=bne_iff_ne.mpr c5;obtain⟨t270,A6,H⟩:=Zq.mq H;(try dsimp only at H);obtain⟨t271,A7,H⟩:=Zq.mq H;(try dsimp only at H);simp only[Option.some.injEq,Prod.mk.injEq]at H;obtain⟨rfl,rfl⟩:=H;(go_enter Tryz.func33,Tryz.ntmps33);(try go_wp2_with (first|((with_reducible refine Zq.c 89 rfl ?_);refine Zq.g (some 14) Tryz.func89 #[.string a0,.string a1] ?_;(with_reducible refine(bT.calls k a0 a1 t267 t268 true _ A3.out).mono ?_);rintro e w' ⟨rfl,nd,rfl⟩;refine⟨_,rfl,?_⟩)));replace HB:=aA.mk (aT (bI HB.out nd));refine dG (n:=10) (S:=fun w'=>True) (ds:=[]) #[false,false,false,false,false,false,false,false,false,false] (by kernel_rfl) rfl rfl trivial (fun hHeld=>?_);refine bF dW.aCW dW.aAI (fun HT_ HW_=>?_);generalize(w.drewN nd).drew=w8 at HB hHeld⊢;refine Zq.pu 0 (some 19) (Zq.bs 10 1) ?_;refine Zq.pu 1 (some 20) (Zq.bs 10 3) ?_;refine Zq.pu 2 (some 21) (Zq.bs 10 7) ?_;refine Zq.pu 4 (some 23) (Zq.bs 10 23) ?_;refine Zq.pu 5 (some 24) (Zq.bs 10 55) ?_;refine Zq.pu 6 (some 25) (Zq.bs 10 119) ?_;refine gF (i:=3) (N:=some 22) #[true,true,true,true,true,true,true,false,false,false] rfl rfl (bZ HT_.out (by kernel_rfl)) (by decide) (fun K hK=>?_);refine eQ Tryz.func88 (by kernel_rfl) rfl #[.int .i64 (wrap64 (Int.tdiv t267 t268))] (by rfl) rfl rfl (by(try simp only[List.map_toArray,List.map_cons,List.map_nil]);first|done|rfl|(simp only[List.length_drop,List.length_take];rfl)) ?_
   (with_reducible refine(bM.calls k (wrap64 (Int.tdiv t267 t268)) t270 _ A6.out).mono ?_);rintro e w9 ⟨rfl,hb⟩;refine⟨_,rfl,?_⟩;replace HB:=aA.mk (aC Zq.bo hb);(try clear hb);(try clear hb2);(try clear hk);(try clear hi);refine hK.out _ _ trivial (fun hHeld=>?_);clear hK K;refine dO (a':=?_) ?_ ?_;rotate_left;(·show Act.put _ (some 22) _=_;simp only[Act.put,Zq.a1,Zq.a2,Zq.a3,bG,bK];rfl);refine gF (i:=7) (N:=some 26) #[true,true,true,true,true,true,true,true,false,false] rfl rfl (bZ HT_.out (by kernel_rfl)) (by decide) (fun K hK=>?_);refine eQ Tryz.func88 (by kernel_rfl) rfl #[.int .i64 (Int.tmod t267 t268)] (by rfl) rfl rfl (by(try simp only[List.map_toArray,List.map_cons,List.map_nil]);first|done|rfl|(simp only[List.length_drop,List.length_take];rfl)) ?_;(with_reducible refine(bM.calls k (Int.tmod t267 t268) t271 _ A7.out).mono ?_);rintro e w10 ⟨rfl,hb⟩;refine⟨_,rfl,?_⟩;replace HB:=aA.mk (aC Zq.bo hb);(try clear hb);(try clear hb2);(try clear hk);(try clear hi);refine hK.out _ _ trivial (fun hHeld=>?_);clear hK K;refine dO (a':=?_) ?_ ?_;rotate_left;(·show Act.put _ (some 26) _=_;simp only[Act.put,Zq.a1,Zq.a2,Zq.a3,bG,bK];rfl);refine Zq.pu 8 (some 4) (Zq.bs 10 511) ?_;refine Zq.pu 9 (some 5) (Zq.bs 10 1023) ?_;refine eZ (bV HT_.out (by kernel_rfl)) ?_;try go_wp2
   go_ret2
   exact⟨Zq.ew,Zq.bo⟩
 ·replace c4:=Bool.eq_false_iff.mpr c4;subst c4;(have H1:((aZ.f a0).bind fun t272=>((aX.f k t272).bind fun t273=>((aZ.f a1).bind fun t276=>((aX.f k t276).bind fun t277=>((bB.f k t273 t277).bind fun bt280=>((aN.f a0).bind fun t286=>((aN.f a1).bind fun t287=>((bU.f k (t286 != t287) bt280.1).bind fun t288=>((aN.f a0).bind fun t289=>((bU.f k t289 bt280.2).bind fun t290=>(some (t288,t290))))))))))))=some (r1,r2):=by rw[if_neg (show ¬(false=true) by decide)]at H;exact H);clear H;have H:=H1;clear H1;obtain⟨t272,A11,H⟩:=Zq.mq H;(try dsimp only at H);obtain⟨t273,A12,H⟩:=Zq.mq H;(try dsimp only at H);obtain⟨t276,A13,H⟩:=Zq.mq H;(try dsimp only at H);obtain⟨t277,A14,H⟩:=Zq.mq H;(try dsimp only at H);replace H:=Zq.mp H;obtain⟨⟨t280,t283⟩,A150,H⟩:=H;(try dsimp only at H);have A15:=aA.mk A150;clear A150;obtain⟨t286,A16,H⟩:=Zq.mq H;(try dsimp only at H);obtain⟨t287,A17,H⟩:=Zq.mq H;(try dsimp only at H);obtain⟨t288,A18,H⟩:=Zq.mq H;(try dsimp only at H);replace H:=Zq.mp H;obtain⟨t289,A190,H⟩:=H;(try dsimp only at H);have A19:=aA.mk A190;have EA19:t286=t289:=Option.some.inj (A16.out.symm.trans A19.out);subst EA19;clear A190;obtain⟨t290,A20,H⟩:=Zq.mq H;(try dsimp only at H);simp only[Option.some.injEq,Prod.mk.injEq]at H;obtain⟨rfl,rfl⟩:=H;go_enter Tryz.func33,Tryz.ntmps33
  go_wp2_with (first|((with_reducible refine Zq.c 89 rfl ?_);refine Zq.g (some 14) Tryz.func89 #[.string a0,.string a1] ?_;(with_reducible refine(bT.calls k a0 a1 t267 t268 false _ A3.out).mono ?_);rintro e w' ⟨rfl,nd,rfl⟩;refine⟨_,rfl,?_⟩)|((with_reducible refine Zq.c 35 rfl ?_);refine Zq.g (some 29) Tryz.func35 #[.string a0] ?_;(with_reducible refine(aZ.calls a0 t272 _ A11.out).mono ?_);rintro e w' ⟨rfl,nd,rfl⟩;refine⟨_,rfl,?_⟩)|((with_reducible refine Zq.c 92 rfl ?_);refine Zq.g (some 30) Tryz.func92 #[.string t272] ?_;(with_reducible refine(aX.calls k t272 t273 _ A12.out).mono ?_);rintro e w21 ⟨v274,rfl,ho0,hb⟩;refine⟨_,rfl,?_⟩;have HO275:=aA.mk (Kd.dH (Kd.dB (ok':=fun k_=>True) ho0 (fun k_ hk_=>trivial)) (aD Zq.bo));replace HB:=aA.mk (aC Zq.bo hb);(try clear hb);(try clear hb2);(try clear hk);(try clear hi);(try clear ho0))|((with_reducible refine Zq.c 35 rfl ?_);refine Zq.g (some 32) Tryz.func35 #[.string a1] ?_;(with_reducible refine(aZ.calls a1 t276 _ A13.out).mono ?_);rintro e w' ⟨rfl,nd,rfl⟩;refine⟨_,rfl,?_⟩)|((with_reducible refine Zq.c 92 rfl ?_);refine Zq.g (some 33) Tryz.func92 #[.string t276] ?_;(with_reducible refine(aX.calls k t276 t277 _ A14.out).mono ?_);rintro e w22 ⟨v278,rfl,ho0,hb⟩;refine⟨_,rfl,?_⟩;replace HO275:=aA.mk (Kd.bH (Zq.va HO275.out) hb);have HO279:=aA.mk (Kd.dH (Kd.dB (ok':=fun k_=>True) ho0 (fun k_ hk_=>trivial)) (aD Zq.bo));replace HB:=aA.mk (aC Zq.bo hb);(try clear hb);(try clear hb2);(try clear hk);(try clear hi);(try clear ho0);obtain⟨Ao23,co23,eo23⟩:=Kd.dP HO275.out;subst eo23;obtain⟨Ao24,co24,eo24⟩:=Kd.dP HO279.out;subst eo24)|((with_reducible refine Zq.c 96 rfl ?_);refine Zq.g (some 34) Tryz.func96 #[.slice Ao23 t273.length co23,.slice Ao24 t277.length co24] ?_;(with_reducible refine(bB.calls k _ _ t273 _ _ t277 t280 t283 _ ?side1 ?side2 ?side3 ?side4 A15.out).mono ?_);(case side1=>exact Zq.ca (Kd.aY HO275.out).2.2);(case side2=>exact(Kd.aY HO275.out).2.1);(case side3=>exact Zq.ca (Kd.aY HO279.out).2.2);(case side4=>exact(Kd.aY HO279.out).2.1);rintro e w25 ⟨v281,v284,rfl,ho0,ho1,hb⟩;refine⟨_,rfl,?_⟩;replace HO275:=aA.mk (Kd.bH (Zq.va HO275.out) hb);replace HO279:=aA.mk (Kd.bH (Zq.va HO279.out) hb);have HO282:=aA.mk (Kd.dH (Kd.dB (ok':=fun k_=>True) ho0 (fun k_ hk_=>trivial)) (aD Zq.bo));have HO285:=aA.mk (Kd.dH (Kd.dB (ok':=fun k_=>True) ho1 (fun k_ hk_=>trivial)) (aD Zq.bo));replace HB:=aA.mk (aC Zq.bo hb);(try clear hb);(try clear hb2);(try clear hk);(try clear hi);(try clear ho0);(try clear ho1))|((with_reducible refine Zq.c 31 rfl ?_);refine Zq.g (some 38) Tryz.func31 #[.string a0] ?_;(with_reducible refine(aN.calls a0 t286 _ A16.out).mono ?_);rintro e w' ⟨rfl,nd,rfl⟩;refine⟨_,rfl,?_⟩)|((with_reducible refine Zq.c 31 rfl ?_);refine Zq.g (some 40) Tryz.func31 #[.string a1] ?_;(with_reducible refine(aN.calls a1 t287 _ A17.out).mono ?_);rintro e w' ⟨rfl,nd,rfl⟩;refine⟨_,rfl,?_⟩;obtain⟨Ao26,co26,eo26⟩:=Kd.dP HO282.out;subst eo26)|((with_reducible refine Zq.c 90 rfl ?_);refine Zq.g (some 43) Tryz.func90 #[.bool (t286 != t287),.slice Ao26 t280.length co26] ?_;(with_reducible refine(bU.calls k (t286 != t287) _ _ t280 t288 _ ?side1 ?side2 A18.out).mono ?_);(case side1=>exact Zq.ca (Kd.aY HO282.out).2.2);(case side2=>exact(Kd.aY HO282.out).2.1);rintro e w27 ⟨rfl,hb⟩;refine⟨_,rfl,?_⟩;replace HO275:=aA.mk (Kd.bH (Zq.va HO275.out) hb);replace HO279:=aA.mk (Kd.bH (Zq.va HO279.out) hb);replace HO282:=aA.mk (Kd.bH (Zq.va HO282.out) hb);replace HO285:=aA.mk (Kd.bH (Zq.va HO285.out) hb);replace HB:=aA.mk (aC Zq.bo hb);(try clear hb);(try clear hb2);(try clear hk);(try clear hi))|((with_reducible refine Zq.c 31 rfl ?_);refine Zq.g (some 45) Tryz.func31 #[.string a0] ?_;(with_reducible refine(aN.calls a0 t286 _ A19.out).mono ?_);rintro e w' ⟨rfl,nd,rfl⟩;refine⟨_,rfl,?_⟩;obtain⟨Ao28,co28,eo28⟩:=Kd.dP HO285.out;subst eo28)|((with_reducible refine Zq.c 90 rfl ?_);refine Zq.g (some 47) Tryz.func90 #[.bool t286,.slice Ao28 t283.length co28] ?_;(with_reducible refine(bU.calls k t286 _ _ t283 t290 _ ?side1 ?side2 A20.out).mono ?_);(case side1=>exact Zq.ca (Kd.aY HO285.out).2.2);(case side2=>exact(Kd.aY HO285.out).2.1);rintro e w29 ⟨rfl,hb⟩;refine⟨_,rfl,?_⟩;replace HO275:=aA.mk (Kd.bH (Zq.va HO275.out) hb);replace HO279:=aA.mk (Kd.bH (Zq.va HO279.out) hb);replace HO282:=aA.mk (Kd.bH (Zq.va HO282.out) hb);replace HO285:=aA.mk (Kd.bH (Zq.va HO285.out) hb);replace HB:=aA.mk (aC Zq.bo hb);(try clear hb);(try clear hb2);(try clear hk);(try clear hi)))
  go_ret2
  exact⟨Zq.ew,Zq.bo⟩
def dN.j0:Nat->ByteArray->ByteArray->ByteArray->Bool->Option (ByteArray×ByteArray)
 | 0,_,_,_,_=>none
 | k+1,x1,x6,x7,x22=>if x22=true then((iA.f k x6 (⟨#[49]⟩:ByteArray)).bind fun t343=>((fG.f k x7 x1).bind fun t344=>(some (t343,t344))))else(some (x6,x7))
def dN.f (k:Nat) (a0:ByteArray) (a1:ByteArray):Option (ByteArray×ByteArray):=(dW.f k a0 a1).bind fun bt339=>(if bt339.2.toList=([48]:List UInt8)then(dN.j0 k a1 bt339.1 bt339.2 false)else((aN.f bt339.2).bind fun t341=>((aN.f a1).bind fun t342=>(dN.j0 k a1 bt339.1 bt339.2 (t341 != t342)))))
theorem dN.calls (k:Nat) (a0:ByteArray) (a1:ByteArray) (r1:ByteArray) (r2:ByteArray) (w:World) (h:dN.f k a0 a1=some (r1,r2)):
 Calls Tryz.prog 52 #[.string a0,.string a1] w fun e w'=>e = .returned (.tuple #[.string r1,.string r2])/\Below w.heap.size w w':=by
 have HB:=aA.mk (Below.refl w.heap.size w);have H:((dW.f k a0 a1).bind fun bt339=>(if bt339.2.toList=([48]:List UInt8)then(dN.j0 k a1 bt339.1 bt339.2 false)else((aN.f bt339.2).bind fun t341=>((aN.f a1).bind fun t342=>(dN.j0 k a1 bt339.1 bt339.2 (t341 != t342))))))=some (r1,r2):=h;clear h;replace H:=Zq.mp H;obtain⟨⟨t339,t340⟩,A30,H⟩:=H;try dsimp only at H
 have A3:=aA.mk A30;clear A30;have HC4:=aA.mk H;clear H;go_enter Tryz.func52,Tryz.ntmps52
 go_upto_region 2 with(first|((with_reducible refine Zq.c 33 rfl ?_);refine Zq.g (some 11) Tryz.func33 #[.string a0,.string a1] ?_;(with_reducible refine(dW.calls k a0 a1 t339 t340 _ A3.out).mono ?_);rintro e w5 ⟨rfl,hb⟩;refine⟨_,rfl,?_⟩;replace HB:=aA.mk (aC Zq.bo hb);(try clear hb);(try clear hb2);(try clear hk);(try clear hi)))
 (try simp only[Act.put,Zq.a1,Zq.a2,Zq.a3])
 go_cut [22] (fun v22 wc=>∃(kq:Nat) (x22_3:Bool),v22 = .bool x22_3/\aA (dN.j0 kq a1 t339 t340 x22_3=some (r1,r2))/\aA (kq<=k)/\aA (Below w.heap.size w wc))
 case first=>
  have H:=HC4.out;clear HC4;by_cases c6:t340.toList=([48]:List UInt8)
  ·rw[if_pos c6]at H;have c6b0:(t340.toList == ([48]:List UInt8))=true:=beq_iff_eq.mpr c6;have c6b1:(t340.toList != ([48]:List UInt8))=false:=bne_eq_false_iff_eq.mpr c6;clear c6;(first|rw[c6b0]|(simp only[bG,bK];rw[c6b0])|skip);have H':=aA.mk H;clear H;go_wp2
   go_meet
   case rel=>exact⟨_,(false),Zq.sd,H',⟨by first|omega|exact Nat.le_refl _⟩,⟨Zq.bo⟩⟩
  ·rw[if_neg c6]at H;have c6b0:(t340.toList == ([48]:List UInt8))=false:=beq_eq_false_iff_ne.mpr c6;have c6b1:(t340.toList != ([48]:List UInt8))=true:=bne_iff_ne.mpr c6;(first|rw[c6b0]|(simp only[bG,bK];rw[c6b0])|skip);obtain⟨t341,A7,H⟩:=Zq.mq H;(try dsimp only at H);obtain⟨t342,A8,H⟩:=Zq.mq H;(try dsimp only at H);have H':=aA.mk H;clear H;go_wp2_with (first|(go_at_call 31;(with_reducible refine(aN.calls t340 t341 _ A7.out).mono ?_);rintro e w' ⟨rfl,nd,rfl⟩)|(go_at_call 31;(with_reducible refine(aN.calls a1 t342 _ A8.out).mono ?_);rintro e w' ⟨rfl,nd,rfl⟩))
   go_meet
   case rel=>exact⟨_,((t341 != t342)),Zq.sd,H',⟨by first|omega|exact Nat.le_refl _⟩,⟨Zq.bo⟩⟩
 case rest=>
  clear HC4;(try clear p2);(try clear c3);(try clear c5);(try clear c6);(try clear c6b0);(try clear c6b1);obtain⟨kq,x22_3,rfl,HA,HJ3,HB⟩:=hcut;cases kq with
  | zero=>exact absurd HA.out (by simp[dN.j0])
  | succ kj3=>
   have H:=HA.out;clear HA;simp only[dN.j0]at H;by_cases c9:x22_3=true
   ·subst c9;(have H1:((iA.f kj3 t339 (⟨#[49]⟩:ByteArray)).bind fun t343=>((fG.f kj3 t340 a1).bind fun t344=>(some (t343,t344))))=some (r1,r2):=by rw[if_pos rfl]at H;exact H);clear H;have H:=H1;clear H1;obtain⟨t343,A10,H⟩:=Zq.mq H;(try dsimp only at H);obtain⟨t344,A11,H⟩:=Zq.mq H;(try dsimp only at H);simp only[Option.some.injEq,Prod.mk.injEq]at H;obtain⟨rfl,rfl⟩:=H;go_wp2_with (first|((with_reducible refine Zq.c 83 rfl ?_);refine Zq.g (some 24) Tryz.func83 #[.string t339,.string (⟨#[49]⟩:ByteArray)] ?_;(with_reducible refine(iA.calls kj3 t339 (⟨#[49]⟩:ByteArray) t343 _ A10.out).mono ?_);rintro e w12 ⟨rfl,hb⟩;refine⟨_,rfl,?_⟩;replace HB:=aA.mk (aC Zq.bo hb);(try clear hb);(try clear hb2);(try clear hk);(try clear hi))|((with_reducible refine Zq.c 32 rfl ?_);refine Zq.g (some 27) Tryz.func32 #[.string t340,.string a1] ?_;(with_reducible refine(fG.calls kj3 t340 a1 t344 _ A11.out).mono ?_);rintro e w13 ⟨rfl,hb⟩;refine⟨_,rfl,?_⟩;replace HB:=aA.mk (aC Zq.bo hb);(try clear hb);(try clear hb2);(try clear hk);(try clear hi)))
    go_ret2
    exact⟨Zq.ew,Zq.bo⟩
   ·replace c9:=Bool.eq_false_iff.mpr c9;subst c9;(have H1:(some (t339,t340))=some (r1,r2):=by rw[if_neg (show ¬(false=true) by decide)]at H;exact H);clear H;have H:=H1;clear H1;simp only[Option.some.injEq,Prod.mk.injEq]at H;obtain⟨rfl,rfl⟩:=H;go_wp2
    go_ret2
    exact⟨Zq.ew,Zq.bo⟩
end Go.Proofs.YtjieekkkaekclaaGreatDoor.PR
namespace Go.Proofs.YtjieekkkaekclaaGreatDoor
open Go Go.RowKit Go.Pw.PrintWords Go.Proofs.YtjieekkkaekclaaGreatDoor.PR
theorem Mw.Sz.uY {L:Nat} {n:Int} (h:(Mw.gU n.natAbs).length<=L) (hL:1<=L):Mw.Sz L n:=(Mw.iZ _ _ hL).mp h
theorem uE (n m:Int) {L:Nat} (hn:Mw.Sz L n) (hm:Mw.Sz L m) (h1:1<=L) (hL:L<=40000):EvP (fun k=>iA.f k (Mw.T n) (Mw.T m)) (Mw.T (n-m)):=by unfold iA.f;rw[qP m (by have:=hm.len h1;omega),Int.sub_eq_add_neg];exact EvP.bind (EvP.now _) (EvP.bind (rH n (-m) hn hm.neg h1 hL) (EvP.now _))
theorem tdiv_sign (n m:Int):n.tdiv m=if(decide (n<0) != decide (m<0))=true then -((n.natAbs/m.natAbs:Nat):Int)else((n.natAbs/m.natAbs:Nat):Int):=by
 have p:∀a:Nat,decide (Int.ofNat a<0)=false:=fun a=>decide_eq_false (by simp)
 have q:∀a:Nat,decide (Int.negSucc a<0)=true:=fun a=>decide_eq_true (Int.negSucc_lt_zero a)
 cases n with
 | ofNat a=>
  cases m with
  | ofNat b=>rw[p,p];rfl
  | negSucc b=>rw[p,q];rfl
 | negSucc a=>
  cases m with
  | ofNat b=>rw[p,q];rfl
  | negSucc b=>rw[q,q];rfl
theorem mW (n m:Int):n.tmod m=if n<0 then -((n.natAbs%m.natAbs:Nat):Int)else((n.natAbs%m.natAbs:Nat):Int):=by
 cases n with
 | ofNat a=>cases m<;>rw[if_neg (by simp)]<;>rfl
 | negSucc a=>cases m<;>rw[if_pos (by simp)]<;>rfl
theorem uD (n m:Int) (hm0:m≠0) {L:Nat} (hn:Mw.Sz L n) (hm:Mw.Sz L m) (h1:1<=L) (hL:L<=40000):EvP (fun k=>dW.f k (Mw.T n) (Mw.T m)) (Mw.T (n.tdiv m),Mw.T (n.tmod m)):=by
 obtain⟨x,y,b,he,hb,hs⟩:=nG n m (by have:=hn.len h1;omega) (by have:=hm.len h1;omega);have ln:=jU n hn h1 hL;have lm:=jU m hm h1 hL;have len:=hn.lm;have lem:=hm.lm;have hq:(n.tdiv m).natAbs<=n.natAbs:=by rw[tdiv_sign];have h:=Nat.div_le_self n.natAbs m.natAbs;generalize n.natAbs/m.natAbs=q at *;split<;>omega
 have hr:(n.tmod m).natAbs<=n.natAbs:=by rw[mW];have h:=Nat.mod_le n.natAbs m.natAbs;generalize n.natAbs%m.natAbs=q at *;split<;>omega
 unfold dW.f;refine EvP.bind he ?_;cases b with
 | true=>obtain⟨rfl,rfl⟩:=hs rfl;have hsm:=uQ hb.symm;refine EvP.fM rfl (EvP.jC hm0 ?_);dsimp only;rw[eT (by omega) (by omega)];exact EvP.bind (kU _ (by omega)) (EvP.bind (kU _ (by omega)) (EvP.now _))
 | false=>refine EvP.jC (by simp) ?_;rw[kN,kN,lL,lL];have eq:=tdiv_sign n m;have er:=mW n m;refine EvP.bind (EvP.now _) (EvP.bind ln (EvP.bind (EvP.now _) (EvP.bind lm (EvP.bind (vX _ _ (by omega) (by omega) (by omega)) (EvP.bind (EvP.now _) (EvP.bind (EvP.now _) (EvP.bind (mI _ _ (L:=L) ?_ (by omega) (by omega) ?_) (EvP.bind (EvP.now _) (EvP.bind (mI _ _ (L:=L) ?_ (by omega) (by omega) ?_) (EvP.now _))))))))));(·refine hn.of_le ?_;rw[Int.natAbs_natCast];exact Nat.div_le_self _ _);(·rw[eq]);(·refine hn.of_le ?_;rw[Int.natAbs_natCast];exact Nat.mod_le _ _);·rw[er];by_cases c1:n<0<;>simp[c1]
theorem vZ:(⟨#[49]⟩:ByteArray)=Mw.T 1:=by rw[Mw.T,Mw.eY (by omega),Mw.jY (by decide)];rfl
theorem zM (n:Int):(Mw.T n).toList=Mw.jF n:=by rw[Mw.T,xN]
theorem nS {α:Type} (d:α) (xs:List α) (i:Nat):aU d xs (i:Int)=xs.getD i d:=by rw[aU,Int.toNat_natCast]
theorem fC (n:Int):(Mw.T n).toList=([48]:List UInt8)<->n=0:=by rw[zM,Mw.jN]
theorem qO {L:Nat} (h:1<=L):Mw.Sz L 1:=by have:10^1<=10^L:=Nat.pow_le_pow_right (by omega) h;show(1:Int).natAbs<10^L;rw[show(1:Int).natAbs=1 from rfl];omega
theorem sD (n m:Int) (hm0:m≠0) {L:Nat} (hn:Mw.Sz L n) (hm:Mw.Sz L m) (h1:1<=L) (hL:L<=40000):EvP (fun k=>dN.f k (Mw.T n) (Mw.T m)) (Mw.T (n.fdiv m),Mw.T (n.fmod m)):=by
 have hq:Mw.Sz L (n.tdiv m):=hn.of_le (by rw[Int.natAbs_tdiv];exact Nat.div_le_self _ _);have hr:Mw.Sz L (n.tmod m):=hn.of_le (by rw[Int.natAbs_tmod];exact Nat.mod_le _ _);have hv:=xI (n:=n) hm0;unfold dN.f;refine EvP.bind (uD n m hm0 hn hm h1 hL) ?_;dsimp only;by_cases h0:n.tmod m=0;·refine EvP.fM ((fC _).mpr h0) ?_;obtain⟨e1,e2⟩:=hv.1 (.inl h0);rw[e1,e2];exact EvP.step (f:=fun _=>some (Mw.T (n.tdiv m),Mw.T (n.tmod m))) (fun k=>by simp only[dN.j0];rw[if_neg (by simp)]) (EvP.now _)
 ·refine EvP.jC (fun h=>h0 ((fC _).mp h)) ?_;rw[kN,kN];refine EvP.bind (EvP.now _) (EvP.bind (EvP.now _) ?_);by_cases hs:decide (n.tmod m<0)=decide (m<0);(·(have hsg:sgn (n.tmod m)=sgn m:=by have:=decide_eq_decide.mp hs;unfold sgn;by_cases c:n.tmod m<0;(·rw[if_pos c,if_pos (this.mp c)]);·rw[if_neg c,if_neg (fun h=>c (this.mpr h)),if_neg h0,if_neg hm0]);obtain⟨e1,e2⟩:=hv.1 (.inr hsg);rw[e1,e2,hs];exact EvP.step (f:=fun _=>some (Mw.T (n.tdiv m),Mw.T (n.tmod m))) (fun k=>by simp only[dN.j0];rw[if_neg (by simp)]) (EvP.now _));·(have hsg:sgn (n.tmod m)≠sgn m:=by intro h;apply hs;unfold sgn at h;by_cases c:n.tmod m<0<;>by_cases c':m<0<;>simp only[c,c',h0,hm0,if_true,if_false,decide_true,decide_false]at h⊢<;>omega);obtain⟨e1,e2⟩:=hv.2 h0 hsg;rw[e1,e2];refine EvP.step (f:=fun k=>(iA.f k (Mw.T (n.tdiv m)) (⟨#[49]⟩:ByteArray)).bind fun t=>(fG.f k (Mw.T (n.tmod m)) (Mw.T m)).bind fun u=>some (t,u)) (fun k=>?_) ?_;(·simp only[dN.j0];rw[if_pos (by simpa using hs)]);·rw[vZ];exact EvP.bind (uE _ _ hq (qO h1) h1 hL) (EvP.bind (rH _ _ hr hm h1 hL) (EvP.now _))
theorem tO {n m:Int} (hm0:m≠0) {L:Nat} (hm:Mw.Sz L m):Mw.Sz L (n.fmod m):=hm.of_le (Nat.le_of_lt (nA hm0).2.1)
theorem lX {l:List UInt8} (h:Mw.iP l=0):∃n,Mw.B l=Mw.T n/\Mw.lI l=n/\l=Mw.jF n/\Mw.Sz 400 n:=by
 unfold Mw.iP at h;by_cases ho:Mw.okf l=true;·rw[if_pos ho]at h;by_cases hl:400<(Mw.unm l).length;(·rw[if_pos hl]at h;cases h);·have e:=Mw.xH l ho;refine⟨Mw.lI l,by rw[Mw.T,e],rfl,e.symm,Mw.Sz.uY ?_ (by omega)⟩;rw[<-Mw.nR,e];omega
 ·rw[if_neg ho]at h;cases h
theorem wW {a b:List UInt8} (h:Mw.kQ a b=0):Mw.iP a=0/\Mw.iP b=0:=by
 unfold Mw.kQ at h;by_cases ha:Mw.iP a=0;·rw[if_pos ha]at h;exact⟨ha,h⟩
 ·rw[if_neg ha]at h;exact absurd h ha
theorem oW {n:Int} (h:Mw.Sz 400 n):Mw.gZ n=0:=by unfold Mw.gZ;rw[if_neg (by have:=h.len (by omega);omega)]
theorem jS:bY.f=some true:=rfl
end Go.Proofs.YtjieekkkaekclaaGreatDoor
