/- Lemmas for the claim beside this text. -/
import Derived.Test.YtjieekkkaekclaaGreatDoorZBAA
import Derived.Test.YtjieekkkaekclaaGreatDoorZBAE
import Derived.Test.YtjieekkkaekclaaGreatDoorZBAK
import Derived.Test.YtjieekkkaekclaaGreatDoorZBAM
import Derived.Test.YtjieekkkaekclaaGreatDoorZBAP
import Derived.Test.YtjieekkkaekclaaGreatDoorZBAS
import Derived.Test.YtjieekkkaekclaaGreatDoorZLMAA
set_option linter.all false
set_option linter.unusedVariables false
set_option linter.unusedSimpArgs false
namespace Go.Pw.PrintWords
open Go.RowKit
namespace Kd
section
variable {α β:Type} {d:Kd α} {e base n n' cc g N:Nat} {ok ok' okp S:Nat->Prop} {w w0 w1 W W1:World} {A A':Option Addr} {u v v1:Value} {xs:List α} {xs':List β} {d':Kd β} {x:α} {c:List Value}
theorem wO (h:F d W ok A n xs):F d W (fun k=>ok k/\k<W.heap.size) A n xs:=uW.bound h
theorem wP (h:F d W (fun k=>ok k/\some k≠v.ownBlock) A n xs) (hg:W.grownBy W1 v.ownBlock) (hat:v1.ownBlock=v.ownBlock\/∃b,v1.ownBlock=some b/\W.heap.size<=b):F d W1 (fun k=>ok k/\some k≠v1.ownBlock) A n xs:=by
 refine aAL (uW.step (wO h) (fun k hk hlt=>hg.block k hlt hk.1.2)) (fun k hk=>⟨hk.1.1,?_⟩);rcases hat with hat|⟨b,hb,hle⟩;·rw[hat];exact hk.1.2
 ·rw[hb];intro he;injection he with he;have:=hk.2;omega
end
end Kd
end Go.Pw.PrintWords
namespace Go.Pw.PrintWords
open Go.RowKit
section
variable {w w' u:World} {m B g:Nat} {o:Obj} {row:Option Nat} {S:Nat->Prop} {a:Addr} {v:Value}
theorem jR (hq:w.drewN m=w') (h:Below B u w):Below B u w':=by subst hq;exact bI h m
end
namespace Kd
section
variable {α:Type} {d:Kd α} {e base n m:Nat} {ok:Nat->Prop} {w w':World} {v:Value} {A:Option Addr} {xs:List α}
theorem uC (hq:w.drewN m=w') (h:d.R e w base ok v xs):d.R e w' base ok v xs:=by subst hq;exact bP h m
end
end Kd
end Go.Pw.PrintWords
namespace Go.Pw.PrintWords
open Go.RowKit
def mn (a b:Int):Int:=if b<a then b else a
theorem gL (w:World) (n:Nat):w.drewN n=w.drewN n:=rfl
end Go.Pw.PrintWords
namespace Go.Pw.PrintWords
open Go.RowKit
namespace Kd
section
variable {α β:Type} {d:Kd α} {e base base' n m c g N' lo hi:Nat} {ok ok' S:Nat->Prop} {w W w1:World} {A:Option Addr} {ad:Addr} {u v v1:Value} {xs:List α}
theorem wK (h:V d e W base (fun k=>ok k/\some k≠u.ownBlock) v xs) (hg:W.grownBy w1 u.ownBlock) (hat:v1.ownBlock=u.ownBlock\/∃b,v1.ownBlock=some b/\W.heap.size<=b):V d e w1 base (fun k=>ok k/\some k≠v1.ownBlock) v xs:=aAt h (fun _ hf=>wP hf hg hat)
theorem mQ (h:V d e W base (fun k=>ok k/\some k≠v.ownBlock) u xs) (hg:W.grownBy w1 v.ownBlock) (hat:v1.ownBlock=v.ownBlock\/∃b,v1.ownBlock=some b/\W.heap.size<=b):V d e w1 base (fun k=>ok k/\some k≠v1.ownBlock) u xs:=wK h hg hat
theorem kJ {M:Nat->Prop} (h:d.R e w1 W.heap.size ok v xs) (hle:w.heap.size<=W.heap.size) (hM:∀k,w.heap.size<=k->M k):d.R e w1 W.heap.size (fun k=>M k/\ok k) v xs:=dE (jZ h) (fun k hk=>⟨hM k (Nat.le_trans hle hk.2.1),hk.1⟩)
end
end Kd
end Go.Pw.PrintWords
namespace Mw
theorem nI {a b:Int} (h:jF a=jF b):a=b:=by rw[<-gX a,h,gX b]
theorem jN (n:Int):jF n=[48]<->n=0:=
 ⟨fun h=>nI (h.trans jX.symm),fun h=>h▸jX⟩
end Mw
namespace Go.Proofs.YtjieekkkaekclaaGreatDoor
open Go Go.RowKit Go.Pw.PrintWords
theorem dX:uG 120:=⟨_,_,Tryz.func120,rfl,rfl,rfl,by decide⟩
theorem uJ {x:Int} (h:¬Mw.gZ x=0):Mw.gZ x=13:=by
 rw[Mw.gZ]at h⊢;split at h;·rw[if_pos ‹_›]
 ·exact absurd rfl h
end Go.Proofs.YtjieekkkaekclaaGreatDoor
namespace Mw
def lH (c:UInt8):Nat:=if 48<=c.toNat/\c.toNat<=57 then c.toNat-48 else if 97<=c.toNat/\c.toNat<=122 then c.toNat-87 else 99
theorem aBR {d:Nat} (h:d<36):lH (bch d)=d:=by
 unfold lH bch;by_cases h1:d<10;·rw[if_pos h1];(have e:(UInt8.ofNat (48+d)).toNat=48+d:=by simp[UInt8.toNat_ofNat'];omega);rw[e,if_pos (by omega)];omega
 ·rw[if_neg h1];(have e:(UInt8.ofNat (87+d)).toNat=87+d:=by simp[UInt8.toNat_ofNat'];omega);rw[e,if_neg (by omega),if_pos (by omega)];omega
theorem aKu {c:UInt8} (h:lH c<36):bch (lH c)=c:=by
 apply UInt8.toNat_inj.mp;by_cases h1:48<=c.toNat/\c.toNat<=57;·(have e:lH c=c.toNat-48:=by unfold lH;rw[if_pos h1]);rw[e,bch,if_pos (by omega)];simp[UInt8.toNat_ofNat'];omega
 ·by_cases h2:97<=c.toNat/\c.toNat<=122;(·(have e:lH c=c.toNat-87:=by unfold lH;rw[if_neg h1,if_pos h2]);rw[e,bch,if_neg (by omega)];simp[UInt8.toNat_ofNat'];omega);·(have e:lH c=99:=by unfold lH;rw[if_neg h1,if_neg h2]);omega
theorem vP (b:Nat):sF b 0=[]:=by rw[sF,aAb];rfl
theorem yC {b n:Nat} (hb:2<=b) (hn:n≠0):sF b n=sF b (n/b)++[bch (n%b)]:=by rw[sF,aAH hb hn,List.reverse_cons];rfl
def nX (b:Nat) (l:List UInt8):Nat:=l.foldl (fun a c=>a*b+lH c) 0
theorem tK (b:Nat) (l:List UInt8) (c:UInt8):nX b (l++[c])=nX b l*b+lH c:=by rw[nX,List.foldl_append];rfl
theorem aAG (b:Nat):nX b []=0:=rfl
theorem aFd {b:Nat} (l:List UInt8) (h:∀c ∈ l,lH c<b):nX b l<b^l.length:=by
 suffices H:∀(k:Nat) (l:List UInt8),l.length=k->(∀c ∈ l,lH c<b)->nX b l<b^l.length from H _ l rfl h
 intro k;induction k with
 | zero=>intro l hl _;have:l=[]:=List.length_eq_zero_iff.mp hl;subst this;simp[aAG]
 | succ k ih=>intro l hl h;obtain⟨a,c,rfl⟩:∃a c,l=a++[c]:=⟨l.dropLast,l.getLast (by intro e;subst e;simp at hl),(List.dropLast_concat_getLast _).symm⟩;have h1:=ih a (by simpa using hl) (fun c hc=>h c (by simp[hc]));have h2:=h c (by simp);rw[tK,List.length_append,List.length_singleton,Nat.pow_succ];have h3:(nX b a+1)*b<=b^a.length*b:=Nat.mul_le_mul_right _ h1;rw[Nat.add_mul]at h3;omega
end Mw
namespace Go.Proofs.YtjieekkkaekclaaGreatDoor
open Go Go.RowKit Go.Pw.PrintWords
attribute [local go_sem] Oper.semAt_some
def Mw.dgv (c:Int):Int:=if 48<=c/\c<=57 then c-48 else if 97<=c/\c<=122 then c-87 else -1
def Mw.knd (c:Int):Int:=if 48<=c/\c<=57 then 1 else if 97<=c/\c<=122 then 2 else 0
theorem aDm (c:Int) (w:World):Calls Tryz.prog 146 #[.int .i32 c] w fun e w'=>e = .returned (.int .i64 (Mw.knd c))/\w'=w:=by
 obtain⟨k,hk⟩:∃k,Mw.knd c=k:=⟨_,rfl⟩;rw[hk];unfold Mw.knd at hk;by_cases h1:48<=c
 ·by_cases h2:c<=57
  ·rw[if_pos ⟨h1,h2⟩]at hk;subst hk;(go_enter Tryz.func146,Tryz.ntmps146);go_wp2
   go_ret
   exact⟨rfl,rfl⟩
  ·rw[if_neg (by omega)]at hk;by_cases h3:97<=c
   ·by_cases h4:c<=122
    ·rw[if_pos ⟨h3,h4⟩]at hk;subst hk;(go_enter Tryz.func146,Tryz.ntmps146);go_wp2
     go_ret
     exact⟨rfl,rfl⟩
    ·rw[if_neg (by omega)]at hk;subst hk;(go_enter Tryz.func146,Tryz.ntmps146);go_wp2
     go_ret
     exact⟨rfl,rfl⟩
   ·rw[if_neg (by omega)]at hk;subst hk;(go_enter Tryz.func146,Tryz.ntmps146);go_wp2
    go_ret
    exact⟨rfl,rfl⟩
 ·rw[if_neg (by omega),if_neg (by omega)]at hk;subst hk;(go_enter Tryz.func146,Tryz.ntmps146);go_wp2
  go_ret
  exact⟨rfl,rfl⟩
theorem uK (c:Int) (w:World):Calls Tryz.prog 122 #[.int .i32 c] w fun e w'=>e = .returned (.int .i64 (Mw.dgv c))/\w'=w:=by
 obtain⟨k,hk⟩:∃k,Mw.dgv c=k:=⟨_,rfl⟩;obtain⟨m,hm⟩:∃m,Mw.knd c=m:=⟨_,rfl⟩;have hK:=aDm c w;rw[hm]at hK;rw[hk];unfold Mw.dgv at hk;unfold Mw.knd at hm;by_cases h1:48<=c/\c<=57
 ·rw[if_pos h1]at hk hm;subst hm;have hw1:IntKind.i64.wrap c=c:=wrap_small _ (by omega) (by omega);have hw2:IntKind.i64.wrap k=k:=wrap_small _ (by omega) (by omega);clear h1;(go_enter Tryz.func122,Tryz.ntmps122);go_wp2_with (go_at_call 146;with_reducible refine hK.mono ?_;rintro e w1 ⟨rfl,rfl⟩)
  go_ret
  exact⟨rfl,rfl⟩
 ·rw[if_neg h1]at hk hm;by_cases h2:97<=c/\c<=122
  ·rw[if_pos h2]at hk hm;subst hm;have hw1:IntKind.i64.wrap c=c:=wrap_small _ (by omega) (by omega);obtain⟨q,hq⟩:∃q,c-39=q:=⟨_,rfl⟩;(have hq2:q-48=k:=by omega);have hw2:IntKind.i64.wrap q=q:=wrap_small _ (by omega) (by omega);have hw3:IntKind.i64.wrap k=k:=wrap_small _ (by omega) (by omega);clear h1 h2 hk;(go_enter Tryz.func122,Tryz.ntmps122);go_wp2_with (go_at_call 146;with_reducible refine hK.mono ?_;rintro e w1 ⟨rfl,rfl⟩)
   go_ret
   exact⟨rfl,rfl⟩
  ·rw[if_neg h2]at hk hm;subst hm;subst hk;clear h1 h2;(go_enter Tryz.func122,Tryz.ntmps122);go_wp2_with (go_at_call 146;with_reducible refine hK.mono ?_;rintro e w1 ⟨rfl,rfl⟩)
   go_ret
   exact⟨rfl,rfl⟩
theorem aAl {c0:UInt8} {r n:Nat} (h:((r,n)=(c0.toNat,1)/\c0.toNat<128)\/(128<=r/\128<=c0.toNat)) {b:Nat} (hb:b<=36):
 (Mw.lH c0<b/\Mw.dgv (r:Int)=(Mw.lH c0:Int)/\n=1)\/(¬Mw.lH c0<b/\(Mw.dgv (r:Int)<0\/(b:Int)<=Mw.dgv (r:Int))):=by
 rcases h with⟨h,hl⟩|⟨h1,h2⟩;·cases h;by_cases h1:48<=c0.toNat/\c0.toNat<=57;(·(have e1:Mw.lH c0=c0.toNat-48:=by unfold Mw.lH;rw[if_pos h1]);(have e2:Mw.dgv (c0.toNat:Int)=(c0.toNat:Int)-48:=by unfold Mw.dgv;rw[if_pos (by omega)]);rw[e1,e2];by_cases h2:c0.toNat-48<b;(·exact .inl ⟨h2,by omega,rfl⟩);·exact .inr ⟨h2,by omega⟩);·by_cases h3:97<=c0.toNat/\c0.toNat<=122;(·(have e1:Mw.lH c0=c0.toNat-87:=by unfold Mw.lH;rw[if_neg h1,if_pos h3]);(have e2:Mw.dgv (c0.toNat:Int)=(c0.toNat:Int)-87:=by unfold Mw.dgv;rw[if_neg (by omega),if_pos (by omega)]);rw[e1,e2];by_cases h2:c0.toNat-87<b;(·exact .inl ⟨h2,by omega,rfl⟩);·exact .inr ⟨h2,by omega⟩);·(have e1:Mw.lH c0=99:=by unfold Mw.lH;rw[if_neg h1,if_neg h3]);(have e2:Mw.dgv (c0.toNat:Int) = -1:=by unfold Mw.dgv;rw[if_neg (by omega),if_neg (by omega)]);rw[e1,e2];exact .inr ⟨by omega,.inl (by omega)⟩
 ·(have e1:Mw.lH c0=99:=by unfold Mw.lH;rw[if_neg (by omega),if_neg (by omega)]);(have e2:Mw.dgv (r:Int) = -1:=by unfold Mw.dgv;rw[if_neg (by omega),if_neg (by omega)]);rw[e1,e2];exact .inr ⟨by omega,.inl (by omega)⟩
end Go.Proofs.YtjieekkkaekclaaGreatDoor
