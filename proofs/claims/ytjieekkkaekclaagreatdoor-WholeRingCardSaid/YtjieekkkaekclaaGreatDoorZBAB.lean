/- Lemmas for the claim beside this text. -/
set_option linter.all false
set_option linter.unusedVariables false
set_option linter.unusedSimpArgs false
namespace Mw
def lv (B:Int):List Int->Int
 | []=>0
 | x::l=>x+B*lv B l
def inB (B:Int) (l:List Int):Prop:=∀x ∈ l,0<=x/\x<B
theorem uX (B:Int):inB B []:=fun _ h=>by simp at h
theorem nJ {B x:Int} {l:List Int}:inB B (x::l)<->(0<=x/\x<B)/\inB B l:=by unfold inB;simp
theorem sN {B:Int} {a b:List Int}:inB B (a++b)<->inB B a/\inB B b:=by unfold inB;simp only[List.mem_append];exact⟨fun h=>⟨fun x hx=>h x (.inl hx),fun x hx=>h x (.inr hx)⟩,fun h x hx=>hx.elim (h.1 x) (h.2 x)⟩
theorem kG {B:Int} {l:List Int} (h:inB B l) (n:Nat):inB B (l.take n):=fun x hx=>h x (List.mem_of_mem_take hx)
theorem xY {B:Int} {l:List Int} (h:inB B l) (n:Nat):inB B (l.drop n):=fun x hx=>h x (List.mem_of_mem_drop hx)
theorem kS {B:Int} {l:List Int} (h:inB B l) (n:Nat) {v:Int} (h0:0<=v) (h1:v<B):inB B (l.set n v):=by
 intro x hx;rcases List.mem_or_eq_of_mem_set hx with h2|h2;·exact h x h2
 ·subst h2;exact⟨h0,h1⟩
theorem jQ {B:Int} (hB:0<B) (n:Nat):inB B (List.replicate n 0):=by intro x hx;have:=(List.mem_replicate.mp hx).2;subst this;omega
theorem oK (B:Int):lv B []=0:=rfl
theorem mH (B x:Int) (l:List Int):lv B (x::l)=x+B*lv B l:=rfl
theorem oF (B:Int) (a b:List Int):lv B (a++b)=lv B a+B^a.length*lv B b:=by
 induction a with
 | nil=>simp[lv]
 | cons x a ih=>simp only[List.cons_append,lv,ih,List.length_cons,Int.pow_succ,Int.mul_add];rw[Int.mul_comm (B^a.length) B,Int.mul_assoc];omega
theorem lC (B:Int) (a:List Int) (x:Int):lv B (a++[x])=lv B a+B^a.length*x:=by rw[oF];simp[lv]
theorem oU (B:Int) (n:Nat):lv B (List.replicate n 0)=0:=by
 induction n with
 | zero=>rfl
 | succ n ih=>rw[List.replicate_succ,lv,ih];simp
theorem mY (B:Int) (l:List Int) (n:Nat) (h:n<=l.length):lv B l=lv B (l.take n)+B^n*lv B (l.drop n):=by have:=oF B (l.take n) (l.drop n);rw[List.take_append_drop,List.length_take,Nat.min_eq_left h]at this;exact this
theorem pow_pos {B:Int} (hB:0<B) (n:Nat):0<B^n:=Int.pow_pos hB
theorem iQ {B:Int} (hB:0<B) {l:List Int} (h:inB B l):0<=lv B l:=by
 induction l with
 | nil=>simp[lv]
 | cons x l ih=>have:=nJ.mp h;have h1:=Int.mul_nonneg (Int.le_of_lt hB) (ih this.2);simp only[lv];omega
theorem uL {B:Int} (hB:0<B) {l:List Int} (h:inB B l):lv B l<B^l.length:=by
 induction l with
 | nil=>simp[lv]
 | cons x l ih=>have h0:=nJ.mp h;have h1:B*lv B l<=B*(B^l.length-1):=Int.mul_le_mul_of_nonneg_left (by have:=ih h0.2;omega) (Int.le_of_lt hB);rw[Int.mul_sub]at h1;simp only[lv,List.length_cons,Int.pow_succ];rw[Int.mul_comm (B^l.length) B];omega
def aAy (l:List Int):Prop:=l.getLast?≠some 0
theorem aBu:aAy []:=by simp[aAy]
theorem rP {l:List Int} {x:Int}:aAy (l++[x])<->x≠0:=by simp[aAy]
theorem aMb {B:Int} (hB:0<B) {l:List Int} {x:Int} (h:inB B (l++[x])) (hx:x≠0):B^l.length<=lv B (l++[x]):=by have h0:=sN.mp h;have h1:=(nJ.mp h0.2).1;have h2:=iQ hB h0.1;have h3:B^l.length*1<=B^l.length*x:=Int.mul_le_mul_of_nonneg_left (by omega) (Int.le_of_lt (pow_pos hB _));rw[lC];omega
theorem aB2 {l:List Int} (h:l≠[]):∃a c,l=a++[c]:=⟨l.dropLast,l.getLast h,(List.dropLast_concat_getLast h).symm⟩
theorem yT {B:Int} (hB:1<B) {a b:List Int} (ha:inB B a) (hb:inB B b) (ht:aAy b) (h:a.length<b.length):lv B a<lv B b:=by
 have h1:=uL (by omega) ha;obtain⟨c,x,rfl⟩:=aB2 (l:=b) (by intro e;subst e;simp at h);have h2:=aMb (by omega) hb (rP.mp ht);simp at h;have h3:B^a.length<=B^c.length:=by obtain⟨k,hk⟩:∃k,c.length=a.length+k:=⟨c.length-a.length,by omega⟩;rw[hk,Int.pow_add];have h4:=pow_pos (show 0<B by omega) a.length;have h5:=pow_pos (show 0<B by omega) k;have:B^a.length*1<=B^a.length*B^k:=Int.mul_le_mul_of_nonneg_left (by omega) (by omega);omega
 omega
theorem yN {B:Int} (hB:0<B) {a b c:List Int} {x y:Int} (ha:inB B a) (hb:inB B b) (hl:a.length=b.length) (hxy:x<y):lv B (a++x::c)<lv B (b++y::c):=by
 rw[oF,oF,mH,mH,hl];have h1:=uL hB ha;have h2:=iQ hB hb;have h3:B^b.length*(x+B*lv B c)+B^b.length<=B^b.length*(y+B*lv B c):=by have:B^b.length*(x+B*lv B c+1)<=B^b.length*(y+B*lv B c):=Int.mul_le_mul_of_nonneg_left (by omega) (Int.le_of_lt (pow_pos hB _));rw[Int.mul_add (B^b.length) _ 1]at this;omega
 rw[hl]at h1;omega
theorem aJW {B:Int} (hB:1<B):∀{a b:List Int},inB B a->inB B b->a.length=b.length->lv B a=lv B b->a=b
 | [],[],_,_,_,_=>rfl
 | [],_::_,_,_,h,_=>by simp at h
 | _::_,[],_,_,h,_=>by simp at h
 | x::a,y::b,ha,hb,h,e=>by have h1:=(nJ.mp ha);have h2:=(nJ.mp hb);simp only[lv]at e;(have hxy:x=y:=by(have e1:(x+B*lv B a)%B=x:=by rw[Int.add_mul_emod_self_left];exact Int.emod_eq_of_lt h1.1.1 h1.1.2);(have e2:(y+B*lv B b)%B=y:=by rw[Int.add_mul_emod_self_left];exact Int.emod_eq_of_lt h2.1.1 h2.1.2);rw[<-e1,<-e2,e]);subst hxy;have:lv B a=lv B b:=Int.eq_of_mul_eq_mul_left (show B≠0 by omega) (by omega);rw[aJW hB h1.2 h2.2 (by simpa using h) this]
theorem aDi {B:Int} (hB:1<B) {a b:List Int} (ha:inB B a) (hb:inB B b) (ta:aAy a) (tb:aAy b) (e:lv B a=lv B b):a=b:=by
 rcases Nat.lt_trichotomy a.length b.length with h|h|h;·have:=yT hB ha hb tb h;omega
 ·exact aJW hB ha hb h e
 ·have:=yT hB hb ha ta h;omega
theorem qN (B:Int) (l:List Int) (i:Nat) (h:i<l.length) (v:Int):lv B (l.set i v)=lv B l+B^i*(v-l.getD i 0):=by
 induction l generalizing i with
 | nil=>simp at h
 | cons x l ih=>
  cases i with
  | zero=>simp[lv];omega
  | succ i=>simp only[List.set_cons_succ,lv,List.getD_cons_succ];rw[ih i (by simpa using h),Int.mul_add,Int.pow_succ,Int.mul_comm (B^i) B,Int.mul_assoc];omega
theorem aG8 {l:List Int} {i:Nat} (h:i<l.length):l.getD i 0 ∈ l:=by rw[List.getD_eq_getElem?_getD,List.getElem?_eq_getElem h];simp
theorem bW {B:Int} (hB:0<B) {l:List Int} (h:inB B l) (i:Nat):0<=l.getD i 0/\l.getD i 0<B:=by
 by_cases hi:i<l.length;·exact h _ (aG8 hi)
 ·rw[List.getD_eq_getElem?_getD,List.getElem?_eq_none (by omega)];simp;omega
theorem iB (l:List Int) (i:Nat) (h:i<l.length):l.take (i+1)=l.take i++[l.getD i 0]:=by rw[List.take_succ_eq_append_getElem h,List.getD_eq_getElem?_getD,List.getElem?_eq_getElem h];rfl
theorem rE (l:List Int) (i:Nat) (h:i<l.length):l.drop i=l.getD i 0::l.drop (i+1):=by rw[List.drop_eq_getElem_cons h,List.getD_eq_getElem?_getD,List.getElem?_eq_getElem h];rfl
end Mw
