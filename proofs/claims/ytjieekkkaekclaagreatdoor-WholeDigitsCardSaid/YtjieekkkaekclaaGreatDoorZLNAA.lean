/- Lemmas for the claim beside this text. -/
import Derived.Test.YtjieekkkaekclaaGreatDoorZBAM
import Derived.Test.YtjieekkkaekclaaGreatDoorZBAP
import Derived.Test.YtjieekkkaekclaaGreatDoorZBAS
set_option linter.all false
set_option linter.unusedVariables false
set_option linter.unusedSimpArgs false
namespace Go.Proofs.YtjieekkkaekclaaGreatDoor
open Go Go.RowKit Go.Pw.PrintWords
theorem dX:uG 120:=⟨_,_,Tryz.func120,rfl,rfl,rfl,by decide⟩
theorem uJ {x:Int} (h:¬Mw.gZ x=0):Mw.gZ x=13:=by
 rw[Mw.gZ]at h⊢;split at h;·rw[if_pos ‹_›]
 ·exact absurd rfl h
end Go.Proofs.YtjieekkkaekclaaGreatDoor
namespace Mw
def lH (c:UInt8):Nat:=if 48<=c.toNat/\c.toNat<=57 then c.toNat-48 else if 97<=c.toNat/\c.toNat<=122 then c.toNat-87 else 99
theorem aBR {d:Nat} (h:d<36):lH (bch d)=d:=by
 unfold lH bch;by_cases h1:d<10;·rw[if_pos h1];(have e:(UInt8.ofNat (48+d)).toNat=48+d:=by simp[UInt8.toNat_ofNat'];omega);rw[e,if_pos (by omega)];omega
 ·rw[if_neg h1];(have e:(UInt8.ofNat (87+d)).toNat=87+d:=by simp[UInt8.toNat_ofNat'];omega);rw[e,if_neg (by omega),if_pos (by omega)];omega
theorem vP (b:Nat):sF b 0=[]:=by rw[sF,aAb];rfl
theorem yC {b n:Nat} (hb:2<=b) (hn:n≠0):sF b n=sF b (n/b)++[bch (n%b)]:=by rw[sF,aAH hb hn,List.reverse_cons];rfl
def nX (b:Nat) (l:List UInt8):Nat:=l.foldl (fun a c=>a*b+lH c) 0
theorem tK (b:Nat) (l:List UInt8) (c:UInt8):nX b (l++[c])=nX b l*b+lH c:=by rw[nX,List.foldl_append];rfl
theorem aAG (b:Nat):nX b []=0:=rfl
theorem aFd {b:Nat} (l:List UInt8) (h:∀c ∈ l,lH c<b):nX b l<b^l.length:=by
 suffices H:∀(k:Nat) (l:List UInt8),l.length=k->(∀c ∈ l,lH c<b)->nX b l<b^l.length from H _ l rfl h
 intro k;induction k with
 | zero=>intro l hl _;have:l=[]:=List.length_eq_zero_iff.mp hl;subst this;simp[aAG]
 | succ k ih=>intro l hl h;obtain⟨a,c,rfl⟩:∃a c,l=a++[c]:=⟨l.dropLast,l.getLast (by intro e;subst e;simp at hl),(List.dropLast_concat_getLast _).symm⟩;have h1:=ih a (by simpa using hl) (fun c hc=>h c (by simp[hc]));have h2:=h c (by simp);rw[tK,List.length_append,List.length_singleton,Nat.pow_succ];have h3:(nX b a+1)*b<=b^a.length*b:=Nat.mul_le_mul_right _ h1;rw[Nat.add_mul]at h3;omega
theorem aII {b:Nat} (hb:2<=b) (hb2:b<=36) (n:Nat):nX b (sF b n)=n:=by
 induction n using Nat.strongRecOn with
 | _ n ih=>by_cases h:n=0;(·subst h;rw[vP];rfl);·rw[yC hb h,tK,ih _ (Nat.div_lt_self (by omega) (by omega)),aBR (Nat.lt_of_lt_of_le (Nat.mod_lt _ (by omega)) hb2)];rw[Nat.mul_comm];exact Nat.div_add_mod n b
end Mw
namespace Go.Proofs.YtjieekkkaekclaaGreatDoor
open Go Go.RowKit Go.Pw.PrintWords
attribute [local go_sem] Oper.semAt_some
def Mw.dgv (c:Int):Int:=if 48<=c/\c<=57 then c-48 else if 97<=c/\c<=122 then c-87 else -1
def Mw.knd (c:Int):Int:=if 48<=c/\c<=57 then 1 else if 97<=c/\c<=122 then 2 else 0
theorem aDm (c:Int) (w:World):Calls Tryz.prog 146 #[.int .i32 c] w fun e w'=>e = .returned (.int .i64 (Mw.knd c))/\w'=w:=by
 obtain⟨k,hk⟩:∃k,Mw.knd c=k:=⟨_,rfl⟩;rw[hk];unfold Mw.knd at hk;by_cases h1:48<=c
 ·by_cases h2:c<=57
  ·rw[if_pos ⟨h1,h2⟩]at hk;subst hk;(go_enter Tryz.func146,Tryz.ntmps146);go_wp2
   go_ret
   exact⟨rfl,rfl⟩
  ·rw[if_neg (by omega)]at hk;by_cases h3:97<=c
   ·by_cases h4:c<=122
    ·rw[if_pos ⟨h3,h4⟩]at hk;subst hk;(go_enter Tryz.func146,Tryz.ntmps146);go_wp2
     go_ret
     exact⟨rfl,rfl⟩
    ·rw[if_neg (by omega)]at hk;subst hk;(go_enter Tryz.func146,Tryz.ntmps146);go_wp2
     go_ret
     exact⟨rfl,rfl⟩
   ·rw[if_neg (by omega)]at hk;subst hk;(go_enter Tryz.func146,Tryz.ntmps146);go_wp2
    go_ret
    exact⟨rfl,rfl⟩
 ·rw[if_neg (by omega),if_neg (by omega)]at hk;subst hk;(go_enter Tryz.func146,Tryz.ntmps146);go_wp2
  go_ret
  exact⟨rfl,rfl⟩
theorem uK (c:Int) (w:World):Calls Tryz.prog 122 #[.int .i32 c] w fun e w'=>e = .returned (.int .i64 (Mw.dgv c))/\w'=w:=by
 obtain⟨k,hk⟩:∃k,Mw.dgv c=k:=⟨_,rfl⟩;obtain⟨m,hm⟩:∃m,Mw.knd c=m:=⟨_,rfl⟩;have hK:=aDm c w;rw[hm]at hK;rw[hk];unfold Mw.dgv at hk;unfold Mw.knd at hm;by_cases h1:48<=c/\c<=57
 ·rw[if_pos h1]at hk hm;subst hm;have hw1:IntKind.i64.wrap c=c:=wrap_small _ (by omega) (by omega);have hw2:IntKind.i64.wrap k=k:=wrap_small _ (by omega) (by omega);clear h1;(go_enter Tryz.func122,Tryz.ntmps122);go_wp2_with (go_at_call 146;with_reducible refine hK.mono ?_;rintro e w1 ⟨rfl,rfl⟩)
  go_ret
  exact⟨rfl,rfl⟩
 ·rw[if_neg h1]at hk hm;by_cases h2:97<=c/\c<=122
  ·rw[if_pos h2]at hk hm;subst hm;have hw1:IntKind.i64.wrap c=c:=wrap_small _ (by omega) (by omega);obtain⟨q,hq⟩:∃q,c-39=q:=⟨_,rfl⟩;(have hq2:q-48=k:=by omega);have hw2:IntKind.i64.wrap q=q:=wrap_small _ (by omega) (by omega);have hw3:IntKind.i64.wrap k=k:=wrap_small _ (by omega) (by omega);clear h1 h2 hk;(go_enter Tryz.func122,Tryz.ntmps122);go_wp2_with (go_at_call 146;with_reducible refine hK.mono ?_;rintro e w1 ⟨rfl,rfl⟩)
   go_ret
   exact⟨rfl,rfl⟩
  ·rw[if_neg h2]at hk hm;subst hm;subst hk;clear h1 h2;(go_enter Tryz.func122,Tryz.ntmps122);go_wp2_with (go_at_call 146;with_reducible refine hK.mono ?_;rintro e w1 ⟨rfl,rfl⟩)
   go_ret
   exact⟨rfl,rfl⟩
theorem aAl {c0:UInt8} {r n:Nat} (h:((r,n)=(c0.toNat,1)/\c0.toNat<128)\/(128<=r/\128<=c0.toNat)) {b:Nat} (hb:b<=36):
 (Mw.lH c0<b/\Mw.dgv (r:Int)=(Mw.lH c0:Int)/\n=1)\/(¬Mw.lH c0<b/\(Mw.dgv (r:Int)<0\/(b:Int)<=Mw.dgv (r:Int))):=by
 rcases h with⟨h,hl⟩|⟨h1,h2⟩;·cases h;by_cases h1:48<=c0.toNat/\c0.toNat<=57;(·(have e1:Mw.lH c0=c0.toNat-48:=by unfold Mw.lH;rw[if_pos h1]);(have e2:Mw.dgv (c0.toNat:Int)=(c0.toNat:Int)-48:=by unfold Mw.dgv;rw[if_pos (by omega)]);rw[e1,e2];by_cases h2:c0.toNat-48<b;(·exact .inl ⟨h2,by omega,rfl⟩);·exact .inr ⟨h2,by omega⟩);·by_cases h3:97<=c0.toNat/\c0.toNat<=122;(·(have e1:Mw.lH c0=c0.toNat-87:=by unfold Mw.lH;rw[if_neg h1,if_pos h3]);(have e2:Mw.dgv (c0.toNat:Int)=(c0.toNat:Int)-87:=by unfold Mw.dgv;rw[if_neg (by omega),if_pos (by omega)]);rw[e1,e2];by_cases h2:c0.toNat-87<b;(·exact .inl ⟨h2,by omega,rfl⟩);·exact .inr ⟨h2,by omega⟩);·(have e1:Mw.lH c0=99:=by unfold Mw.lH;rw[if_neg h1,if_neg h3]);(have e2:Mw.dgv (c0.toNat:Int) = -1:=by unfold Mw.dgv;rw[if_neg (by omega),if_neg (by omega)]);rw[e1,e2];exact .inr ⟨by omega,.inl (by omega)⟩
 ·(have e1:Mw.lH c0=99:=by unfold Mw.lH;rw[if_neg (by omega),if_neg (by omega)]);(have e2:Mw.dgv (r:Int) = -1:=by unfold Mw.dgv;rw[if_neg (by omega),if_neg (by omega)]);rw[e1,e2];exact .inr ⟨by omega,.inl (by omega)⟩
end Go.Proofs.YtjieekkkaekclaaGreatDoor
