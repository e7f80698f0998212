/- Lemmas for the claim beside this text. -/
import Derived.Test.YtjieekkkaekclaaGreatDoorZBAD
import Derived.Test.YtjieekkkaekclaaGreatDoorZBAJ
import Derived.Test.YtjieekkkaekclaaGreatDoorZBAL
import Derived.Lib.AppendIntMem
import Derived.Lib.OthersKept
set_option linter.all false
set_option linter.unusedVariables false
set_option linter.unusedSimpArgs false
set_option maxHeartbeats 2000000
set_option maxRecDepth 100000
namespace Go.Proofs.YtjieekkkaekclaaGreatDoor
open Go Go.RowKit Go.Pw.PrintWords
theorem zZ {T e:TypeId} {B b:Nat} {bs:List Value} {W W':World} (h:Lib.IsBuilderF T e B b bs W) (hb:Below W.heap.size W W'):Lib.IsBuilderF T e B b bs W':=by
 have one:∀p,Lib.BuilderAtF T e B b p bs W->Lib.BuilderAtF T e B b p bs W':=fun p h=>by have hlt:=h.lt;obtain⟨hB,v,hv,hown,hne⟩:=h;exact⟨hB,v,(hb.block b hlt).trans hv,hown.kept (row:=none) ⟨hb.os,hb.tape,hb.output,hb.size,fun k hk _=>hb.block k hk⟩ (Classical.em _),hne⟩
 exact h.elim (fun x=>.inl (one _ x)) (fun x=>.inr (one _ x))
abbrev Tab (W:World):Prop:=Lib.TabIs Tryz.prog W "internal/strconv.uint64pow10" .u64 Lib.pow10Tab
theorem aDn (n:Int) (h0:0<=n) (h1:n<1000000000) (W:World) (ht:Tab W):
 Calls Tryz.prog 156 #[.int .i64 n] W fun e w'=>e = .returned (.string ⟨(Mw.gU n.toNat).toArray⟩)/\Below W.heap.size W w':=by
 refine(Tryz.strconv_Itoa n (by omega) (by omega) W ht).mono ?_;rintro e w' ⟨rfl,k,os,rfl⟩;exact⟨by rw[aIu n h0],Lib.below_grow _ W (Nat.le_refl _) k os⟩
theorem aEI (c:Nat) (W:World) (hc:c<=1000):
 Calls Tryz.prog 157 #[.string ⟨#[48]⟩,.int .i64 c] W fun e w'=>e = .returned (.string ⟨(List.replicate c 48).toArray⟩)/\Below W.heap.size W w':=by
 refine(Tryz.strings_Repeat ⟨#[48]⟩ c W (by omega) (by simp[ByteArray.size];omega)).mono ?_;rintro e w' ⟨rfl,hb⟩;exact⟨by rw[show({data:=#[48]}:ByteArray).data.toList=[48]from rfl,aDU],hb⟩
theorem aAw (B:Nat) (t x:List UInt8) (W:World) (h:Lib.IsBuilderF 165 5 B B (Lib.byteCells t) W) (hl:t.length+x.length<=10000000) (hB:B<=W.heap.size):
 Calls Tryz.prog 155 #[.pointer (some ⟨B,0,none⟩),.string ⟨x.toArray⟩] W fun e w'=>(∃v,e = .returned v)/\Lib.IsBuilderF 165 5 B B (Lib.byteCells (t++x)) w'/\Below B W w':=by
 refine(Tryz.Builder_WriteString_k B B (Lib.byteCells t) ⟨x.toArray⟩ W h (by rw[Lib.byteCells_length];simp only[ByteArray.size,List.size_toArray];omega) hB).mono ?_;rintro e w' ⟨rfl,hb,hw,-⟩;refine⟨⟨_,rfl⟩,.inr ?_,hw⟩;rw[Lib.byteCells_append];have:Lib.strCells ⟨x.toArray⟩=Lib.byteCells x:=by simp[Lib.strCells,Lib.byteCells]
 rw[this]at hb;exact hb
theorem aFz {s:Int} {A:Option Addr} {k c:Nat} {n:Int} (w:World) (H:dS w s A k c n) (hk:k<=100000) (ht:Tab w):
 Calls Tryz.prog 127 #[.agg #[.int .i64 s,.slice A k c]] w fun e w'=>e = .returned (.string ⟨(Mw.jF n).toArray⟩)/\Below w.heap.size w w':=by
 have F0:=yJ 71 [⟨s,A,k,c⟩] w;have hb0:=nT 71 [⟨s,A,k,c⟩] w (Nat.le_refl _) (Below.refl _ _);simp only[bxs]at F0 hb0;have HT:=Lib.hid (Lib.tabBelow_of_tabIs ht);by_cases hs:s=0
 ·(have hn:n=0:=by have:=H.sign;rcases fP n with⟨e1,h1⟩|⟨e1,h1⟩|⟨e1,h1⟩<;>omega);subst hs;subst hn;have HB:=Lib.hid hb0;clear F0 hb0 H ht;(go_enter Tryz.func127,Tryz.ntmps127);go_wp2
  go_ret
  exact⟨by rw[Mw.jX];rfl,HB.out⟩
 ·(have hn:n≠0:=by have:=H.sign;rcases fP n with⟨e1,h1⟩|⟨e1,h1⟩|⟨e1,h1⟩<;>omega);obtain⟨l,rfl,el,hc,hC,hi,hv⟩:=H.named;(have hp:0<l.length:=by rw[el,sG];omega);have HF:=Lib.hid F0;have HB:=Lib.hid hb0;have hbl:=Lib.fresh_isBuilder 165 5 (w.alloc (.cells #[.int .i64 s,.slice A l.length c] 71));rw[World.size_alloc]at hbl;have HBL:=Lib.hid (Lib.IsBuilderF.of hbl);have HC:=Lib.hid hC;have HI:=Lib.hid hi;have HV:=Lib.hid hv;have HEL:=Lib.hid el;have hsb:=H.bd;have HS:=Lib.hid H.sign;(have hs':(s == 0)=false:=by simpa using hs);clear F0 hb0 hbl hC hi hv el H ht hs;(go_enter Tryz.func127,Tryz.ntmps127);obtain⟨W0,hW0⟩:∃W,w.alloc (.cells #[.int .i64 s,.slice A l.length c] 71)=W:=⟨_,rfl⟩;(have hsz0:W0.heap.size=w.heap.size+1:=by rw[<-hW0];simp);rw[hW0]at HBL HF HB;obtain⟨sg,hsg⟩:∃x:List UInt8,(if n<0 then[45]else[])=x:=⟨_,rfl⟩;have HSG:=Lib.hid hsg;obtain⟨a0,a1,-,-⟩:=HF.out.c1
  go_upto_if 12 with(first|go_in)
  go_cut [] (fun wc=>Hid (Lib.IsBuilderF 165 5 (w.heap.size+1) (w.heap.size+1) (Lib.byteCells sg) wc)/\Hid (Below (w.heap.size+1) W0 wc))
  case first=>
   by_cases hneg:s = -1
   ·subst hneg;(have hn0:n<0:=by have:=HS.out;rcases fP n with⟨e1,h1⟩|⟨e1,h1⟩|⟨e1,h1⟩<;>omega);rw[if_pos hn0]at hsg;subst hsg;go_wp2_with (first|(go_at_call 154;refine(Tryz.Builder_WriteByte_k (w.heap.size+1) (w.heap.size+1) [] 45 _ HBL.out (by simp) (by simp;omega)).mono ?_;rintro e w1 ⟨rfl,hb1,hw1,-⟩)|go_in)
    go_meet
    case rel=>exact⟨Lib.hid (.inr (by simpa [Lib.byteCells]using hb1)),Lib.hid (((Below.refl _ W0).alloc (by omega) _).trans hw1)⟩
   ·(have hn0:¬n<0:=by have:=HS.out;rcases fP n with⟨e1,h1⟩|⟨e1,h1⟩|⟨e1,h1⟩<;>omega);rw[if_neg hn0]at hsg;subst hsg;(have hneg':(s == -1)=false:=by simpa using hneg);go_wp2_with (first|go_in)
    go_meet
    case rel=>exact⟨HBL,Lib.hid ((Below.refl _ W0).alloc (by omega) _)⟩
  case rest=>
   obtain⟨HBC,HBE⟩:=hcut;(have keep:∀W:World,Below (w.heap.size+1) W0 W->W.cell? ⟨w.heap.size,0,none⟩=some (.int .i64 s)/\W.cell? ⟨w.heap.size,1,none⟩=some (.slice A l.length c)/\Kd.C (Kd.int .u32) W A l.length l/\Tab W/\w.heap.size+1<=W.heap.size/\Below w.heap.size w W:=by intro W hb;(have hb':Below W0.heap.size W0 W:=by rw[hsz0];exact hb);obtain⟨k0,k1,-,-⟩:=(HF.out.call (by omega) hb').c1;have hw':Below w.heap.size w W:=HB.out.trans (hb'.mono (by omega));exact⟨k0,k1,Kd.iF HC.out hw',HT.out W hw',by have:=hb'.size;omega,hw'⟩);obtain⟨last,hlast⟩:∃x,l.length-1=x:=⟨_,rfl⟩;(have hl1:(l.length:Int)-1=(last:Int):=by omega);(have hlt:last<l.length:=by omega);have HK:=Lib.hid keep;clear keep a0 a1 hW0;obtain⟨a0,a1,hC1,hT1,hz1,-⟩:=HK.out _ HBE.out;obtain⟨ad,eA,hcd⟩:=Kd.dF hC1 last (by omega) (by omega);simp only[Int.toNat_natCast,rd]at hcd;obtain⟨d,hd⟩:∃d,l.getD last 0=d:=⟨_,rfl⟩;have hdb:=Mw.bW (by omega) HI.out last;rw[hd]at hcd hdb;have HT1:=Lib.hid hT1;(have hd1:0<d:=by have h:=aES (n:=n.natAbs) (k:=last) (by rw[<-HEL.out];omega);rw[<-HEL.out,hd]at h;omega);clear hT1 hC1;subst eA;(have hsgl:sg.length<=1:=by rw[<-HSG.out];split<;>simp);have hdl:=(Mw.iZ d.toNat 9 (by omega)).mpr (by omega);(have hlx:sg.length+(Mw.gU d.toNat).length<=10000000:=by omega);(have hln:(sg++Mw.gU d.toNat).length<=10+9*0:=by rw[List.length_append];omega);have HLN:=Lib.hid hln;clear hsgl hln
   (go_wp2_with (first|(go_at_call 156;refine(aDn d hdb.1 hdb.2 _ HT1.out).mono ?_;rintro e w1 ⟨rfl,hb1⟩;have HB1:=Lib.hid hb1;have hz2:w.heap.size+1<=w1.heap.size:=Nat.le_trans hz1 hb1.size;have HBD:=Lib.hid (zZ HBC.out hb1))|(go_at_call 155;refine(aAw (w.heap.size+1) sg (Mw.gU d.toNat) _ HBD.out hlx hz2).mono ?_;rintro e w2 ⟨⟨vw,rfl⟩,hb2,hw2⟩;refine Hid.out ?_)));have HBW2:=Lib.hid (HBE.out.trans ((HB1.out.mono hz1).trans hw2));have HBD2:=Lib.hid hb2;clear hb2 hw2 hcd a0 a1;refine Lib.hid ?_;(go_wp2_with fail);(have hxt:sg++Mw.gU d.toNat=sg++Mw.gU (Mw.lv 1000000000 (l.drop (last-0))).toNat:=by rw[Nat.sub_zero,aFy HI.out (by omega),hd]);have HXT:=Lib.hid hxt;have HP0:Hid (0<Mw.lv 1000000000 (l.drop (last-0))):=Lib.hid (by rw[Nat.sub_zero,aFy HI.out (by omega),hd];exact hd1);clear hxt
   go_loopw [27] (fun v27 wr=>∃(j:Nat) (t:List UInt8),j<=last/\v27 = .int .i64 j/\Hid (t=sg++Mw.gU (Mw.lv 1000000000 (l.drop (last-j))).toNat)/\Hid (t.length<=10+9*j)/\Hid (0<Mw.lv 1000000000 (l.drop (last-j)))/\Hid (Lib.IsBuilderF 165 5 (w.heap.size+1) (w.heap.size+1) (Lib.byteCells t) wr)/\Hid (Below (w.heap.size+1) W0 wr)) (fun v27 _=>last-(intOf v27).toNat)
   case atStart=>exact⟨0,sg++Mw.gU d.toNat,by omega,rfl,HXT,HLN,HP0,HBD2,HBW2⟩
   case round=>
    obtain⟨j,t,hj,rfl,HT2,HLE,HP,HBT,HBW3⟩:=hrel;clear HBD HBD2 HBW2 HB1 HXT HP0;obtain⟨a0,a1,hC3,hT3,hz3,hBw3⟩:=HK.out _ HBW3.out;have HT3:=Lib.hid hT3;have HB3:=Lib.hid hBw3;clear hT3 hBw3;by_cases hlj:j<last
    ·obtain⟨i,hi⟩:∃i,last-1-j=i:=⟨_,rfl⟩;(have hi1:(last:Int)-1-(j:Int)=(i:Int):=by omega);(have hlj':(j:Int)<(last:Int):=by omega);obtain⟨ad',eA,hcd⟩:=Kd.dF hC3 i (by omega) (by omega);(obtain rfl:ad=ad':=by simpa using eA);simp only[Int.toNat_natCast,rd]at hcd;obtain⟨y,hy⟩:∃y,l.getD i 0=y:=⟨_,rfl⟩;have hyb:=Mw.bW (by omega) HI.out i;rw[hy]at hcd hyb;have hstep:=aHU HI.out (j:=i) (by omega) (by have h:=HP.out;rw[show last-j=i+1 by omega]at h;exact h);rw[hy,show i+1=last-j by omega]at hstep;have HST:=Lib.hid hstep;have hyl:=(Mw.iZ y.toNat 9 (by omega)).mpr (by omega);obtain⟨z,hz⟩:∃z,9-(Mw.gU y.toNat).length=z:=⟨_,rfl⟩;(have e9:(9:Int)-((Mw.gU y.toNat).length:Int)=(z:Int):=by omega);(have hz9:z<=9:=by omega);have hrl:(List.replicate z (48:UInt8)).length=z:=List.length_replicate;(have htl:t.length<=1000000:=by have:=HLE.out;omega);(have hl5:t.length+(List.replicate z (48:UInt8)).length<=10000000:=by omega);(have hl6:(t++List.replicate z (48:UInt8)).length+(Mw.gU y.toNat).length<=10000000:=by rw[List.length_append];omega);(have hl7:(t++List.replicate z (48:UInt8)++Mw.gU y.toNat).length=t.length+9:=by rw[List.length_append,List.length_append];omega);have HL7:=Lib.hid hl7;have HZ:=Lib.hid hz;clear hC3 hstep hrl htl hz hyl hl7;(go_wp2_with (first|(go_at_call 156;refine(aDn y hyb.1 hyb.2 _ HT3.out).mono ?_;rintro e w4 ⟨rfl,hb4⟩;refine Hid.out ?_)));have HBT4:=Lib.hid (zZ HBT.out hb4);have hz4:w.heap.size+1<=w4.heap.size:=Nat.le_trans hz3 hb4.size
     have HB4:=Lib.hid (HBW3.out.trans (hb4.mono hz3));clear hb4 hcd a0 a1;refine Lib.hid ?_;(go_wp2_with (first|(go_at_call 157;refine(aEI z _ (by omega)).mono ?_;rintro e w5 ⟨rfl,hb5⟩;have HB5:=Lib.hid hb5;have hz5:w.heap.size+1<=w5.heap.size:=Nat.le_trans hz4 hb5.size;have HBT5:=Lib.hid (zZ HBT4.out hb5))|(go_at_call 155;refine(aAw (w.heap.size+1) t (List.replicate z 48) _ HBT5.out hl5 hz5).mono ?_;rintro e w6 ⟨⟨vw6,rfl⟩,hb6,hw6⟩;refine Hid.out ?_)));have HBT6:=Lib.hid hb6;have hz6:w.heap.size+1<=w6.heap.size:=Nat.le_trans hz5 hw6.size;have HB6:=Lib.hid (HB4.out.trans ((HB5.out.mono hz4).trans hw6));clear hb6 hw6;refine Lib.hid ?_;(go_wp2_with (first|(go_at_call 155;refine(aAw (w.heap.size+1) (t++List.replicate z 48) (Mw.gU y.toNat) _ HBT6.out hl6 hz6).mono ?_;rintro e w7 ⟨⟨vw7,rfl⟩,hb7,hw7⟩;refine Hid.out ?_)));have HBT7:=Lib.hid hb7;have HB7:=Lib.hid (HB6.out.trans hw7);clear hb7 hw7;refine Lib.hid ?_;(go_wp2_with fail);(have hj1:last-(j+1)=i:=by omega);refine⟨⟨j+1,_,by omega,by simp,Lib.hid ?_,Lib.hid ?_,Lib.hid ?_,HBT7,HB7⟩,?_⟩;(·rw[hj1,HST.out.1,HT2.out,aDb,HZ.out];simp only[List.append_assoc]);(·have h1:=HL7.out;have h2:=HLE.out;omega);(·rw[hj1];exact HST.out.2);·simp only[intOf];omega
    ·(obtain rfl:j=last:=by omega);(have hlj':¬(j:Int)<(j:Int):=by omega);clear hC3;(go_wp2_with (first|(go_at_call 158;refine(Tryz.Builder_String_any_k (w.heap.size+1) (w.heap.size+1) t _ HBT.out (by omega)).mono ?_;rintro e w8 ⟨rfl,hb8,hw8,-⟩;have HB8:=Lib.hid (HBW3.out.trans hw8))));(have hit:t=Mw.jF n:=by rw[HT2.out,Nat.sub_self,List.drop_zero,HV.out,<-HSG.out,Mw.jF];split<;>simp);have hfin:=(HK.out _ HB8.out).2.2.2.2.2;rw[hit]
     go_ret
     exact⟨rfl,hfin⟩
theorem aAd (l:List UInt8):Lib.trimPrefix l [45]=Mw.unm l:=by
 unfold Lib.trimPrefix
 match l with
 | []=>rfl
 | c::l=>by_cases h:c=45;(·subst h;simp[Lib.hasPrefix,Mw.unm]);·rw[Mw.yG (by simpa [Mw.isM]using h)];simp[Lib.hasPrefix,Ne.symm h]
theorem decode_high (s:ByteArray) (pos:Nat) (h:pos<s.size) (ha:128<=(s[pos]'h).toNat):128<=(Utf8.decode s pos).1:=by
 have e:s.get! (pos+0)=s[pos]'h:=by show s.get! pos=_;simp[ByteArray.get!,getElem!_pos,h];rfl
 simp only[Utf8.decode,e,Utf8.runeError];rw[if_neg (by omega)]
 repeat' split
 all_goals (first|decide|(rename_i hc;(try simp only[Bool.and_eq_true,decide_eq_true_eq]at hc);dsimp only;omega))
theorem rF (s:ByteArray) (pos:Nat) (h:pos<s.size):((Utf8.decode s pos)=((s[pos]'h).toNat,1)/\(s[pos]'h).toNat<128)\/(128<=(Utf8.decode s pos).1/\128<=(s[pos]'h).toNat):=by
 rcases Nat.lt_or_ge (s[pos]'h).toNat 128 with hl|hl;·exact .inl ⟨decode_ascii s pos h hl,hl⟩
 ·exact .inr ⟨decode_high s pos h hl,hl⟩
theorem aBS {l:List UInt8} {ds:ByteArray} (h:({data:=l.toArray}:ByteArray)=ds):ds.size=l.length/\∀i (h:i<ds.size),(ds[i]'h)=l.getD i 0:=by
 subst h;refine⟨rfl,fun i h=>?_⟩;have h2:i<l.length:=h;have e:l.getD i 0=l[i]:=by simp[List.getD,List.getElem?_eq_getElem h2]
 rw[e];rfl
theorem aAk (c:UInt8):Mw.dig c=true<->48<=c.toNat/\c.toNat<=57:=by simp only[Mw.dig,Bool.and_eq_true,decide_eq_true_eq]
theorem aKl {c:UInt8} (h:¬(48<=c.toNat/\c.toNat<=57)):Mw.dig c=false:=by rw[Bool.eq_false_iff,ne_eq,aAk];exact h
theorem aGz {l:List UInt8}:l.all Mw.dig=true<->∀i,i<l.length->Mw.dig (l.getD i 0)=true:=by
 rw[List.all_eq_true];constructor;·intro h i hi;rw[show l.getD i 0=l[i] by simp[List.getD,List.getElem?_eq_getElem hi]];exact h _ (List.getElem_mem hi)
 ·intro h c hc;obtain⟨i,hi,rfl⟩:=List.getElem_of_mem hc;have:=h i hi;rwa[show l.getD i 0=l[i] by simp[List.getD,List.getElem?_eq_getElem hi]]at this
theorem aIk {s L:List UInt8} (h:Mw.unm s=L) (hn:∃i,Mw.dig (L.getD i 0)=false/\i<L.length):Mw.okf s=false:=by
 obtain⟨i,h1,h2⟩:=hn;have:L.all Mw.dig=false:=by rw[Bool.eq_false_iff,ne_eq,aGz];intro hh;rw[hh i h2]at h1;cases h1
 simp[Mw.okf,Mw.uM,h,this]
theorem aJK {s r:List UInt8} {d:UInt8} (h:Mw.unm s=d::r) (h1:d.toNat=48) (h2:1<r.length+1\/1<s.length):Mw.okf s=false:=by
 have hd:d=48:=UInt8.toNat_inj.mp h1;subst hd;by_cases hr:r=[]
 ·subst hr;have hs:1<s.length:=by simpa using h2
  have:s=[45,48]:=by
   match s,h,hs with
   | [c],_,hs=>simp at hs
   | c::c2::t,h,_=>by_cases hc:c=45;(·subst hc;rw[Mw.xQ]at h;rw[h]);·rw[Mw.yG (by simpa [Mw.isM]using hc)]at h;simp at h
  subst this;rfl
 ·have:0<r.length:=List.length_pos_iff.mpr hr;(have hl:¬(r.length+1<=1):=by omega);(have hc:Mw.uM (48::r)=false:=by simp only[Mw.uM,List.length_cons,hl,decide_false,Bool.false_or,List.head?_cons,beq_self_eq_true,Bool.not_true,Bool.and_false]);rw[Mw.okf,h,hc];rfl
theorem aJL {s r L:List UInt8} {d:UInt8} (h:Mw.unm s=L) (hL:d::r=L) (hall:∀i,i<L.length->Mw.dig (L.getD i 0)=true) (hz:¬d.toNat=48\/(r.length+1<=1/\s.length<=1)):Mw.okf s=true:=by
 subst hL;have ha:=aGz.mpr hall;have hne:(s == [45,48])=false:=by rw[Bool.eq_false_iff];intro he;(have he:s=[45,48]:=by simpa using he);subst he;rw[Mw.xQ]at h;rcases hz with hz|hz;(·cases h;exact hz rfl);·simp at hz
 have hc:Mw.uM (d::r)=true:=by simp only[Mw.uM,ha,List.isEmpty_cons,Bool.not_false,Bool.true_and,Bool.or_eq_true,decide_eq_true_eq];rcases hz with hz|hz;(·right;simp only[List.head?_cons,Bool.not_eq_true'];rw[Bool.eq_false_iff];intro he;exact hz (by rw[show d=48 by simpa using he];rfl));·left;simpa using hz.1
 rw[Mw.okf,h,hc,hne];rfl
theorem aKe (s:ByteArray) (w:World):
 Calls Tryz.prog 125 #[.string s] w fun e w'=>e = .returned (.bool (Mw.okf s.data.toList))/\Below w.heap.size w w':=by
 obtain⟨D,hD⟩:∃D,Mw.unm s.data.toList=D:=⟨_,rfl⟩;have htr:∀W,Calls Tryz.prog 121 #[.string s,.string ⟨#[45]⟩] W fun e w'=>e = .returned (.string ⟨D.toArray⟩)/\w'=W:=fun W=>by refine(Tryz.strings_TrimPrefix s ⟨#[45]⟩ W).mono ?_;rintro e w' ⟨rfl,rfl⟩;exact⟨by rw[show({data:=#[45]}:ByteArray).data.toList=[45]from rfl,aAd,hD],rfl⟩
 match D,hD with
 | [],hD=>
  (go_enter Tryz.func125,Tryz.ntmps125);go_wp2_with (first|(go_at_call 121;refine(htr _).mono ?_;rintro e w1 ⟨rfl,rfl⟩))
  go_ret
  exact⟨by simp[Mw.okf,hD,Mw.uM],Below.refl _ _⟩
 | d::r,hD=>
  (have h0:∀h,(({data:=(d::r).toArray}:ByteArray)[0]'h).toNat=d.toNat:=fun _=>rfl);by_cases hbad:d.toNat=48/\(1<r.length+1\/1<s.size)
  ·have hsl:s.data.toList.length=s.size:=rfl;(have hbz:1<r.length+1\/1<s.data.toList.length:=by rw[hsl];exact hbad.2);have hres:Mw.okf s.data.toList=false:=aJK hD hbad.1 hbz;clear hsl hbz;(have h1:(d.toNat:Int)=48:=by omega);(have h2:(1:Int)<r.length+1\/(1:Int)<s.size:=by omega);clear hbad;by_cases h3:(1:Int)<r.length+1
   ·(go_enter Tryz.func125,Tryz.ntmps125);go_wp2_with (first|(go_at_call 121;refine(htr _).mono ?_;rintro e w1 ⟨rfl,rfl⟩))
    go_ret
    exact⟨by first|rfl|(rw[hres];rfl)|simp[hres],Below.refl _ _⟩
   ·(have h4:(1:Int)<s.size:=by omega);(go_enter Tryz.func125,Tryz.ntmps125);go_wp2_with (first|(go_at_call 121;refine(htr _).mono ?_;rintro e w1 ⟨rfl,rfl⟩))
    go_ret
    exact⟨by first|rfl|(rw[hres];rfl)|simp[hres],Below.refl _ _⟩
  ·rcases(show ¬((d.toNat:Int)=48)\/((d.toNat:Int)=48/\¬(1:Int)<r.length+1/\¬(1:Int)<s.size) by omega)with h1|⟨h1,h2,h3⟩;(all_goals go_enter Tryz.func125,Tryz.ntmps125);all_goals go_wp2_with (first|(go_at_call 121;refine(htr _).mono ?_;rintro e w1 ⟨rfl,rfl⟩))
   all_goals
    obtain⟨ds,hds⟩:∃ds:ByteArray,({data:=(d::r).toArray}:ByteArray)=ds:=⟨_,rfl⟩;obtain⟨hsz,hat⟩:=aBS hds;have hk0:=World.iter_heap w1 ds 0;have hb0:Below w1.heap.size w1 (w1.iter ds 0):=(Below.refl _ _).alloc (Nat.le_refl _) _;rw[hds];clear h0 htr;obtain⟨L,hL⟩:∃L,d::r=L:=⟨_,rfl⟩;rw[hL]at hsz hat hD;have HSZ:=Lib.hid hsz;have HAT:=Lib.hid hat;have HL:=Lib.hid hL;have HD:=Lib.hid hD;have hsl:s.data.toList.length=s.size:=rfl;(have h1':¬d.toNat=48\/(r.length+1<=1/\s.data.toList.length<=1):=by omega);have H1:=Lib.hid h1';clear h1' hsl;clear hsz hat hL hD h1 hds
    go_loopw [5] (fun _ wr=>∃pos:Nat,Hid (pos<=L.length)/\wr.heap[w1.heap.size]?=some (.stringIter ds pos)/\Hid (∀i,i<pos->Mw.dig (L.getD i 0)=true)/\Below w1.heap.size w1 wr) (fun _ wr=>ds.size-wr.iterPos w1.heap.size)
    case atStart=>exact⟨0,Lib.hid (Nat.zero_le _),hk0,Lib.hid (fun i hi=>absurd hi (Nat.not_lt_zero i)),hb0⟩
    case round=>
     obtain⟨pos,HP,hk,HDG,hnx⟩:=hrel;clear hk0 hb0;by_cases hp:pos<ds.size
     ·(have hnext:∀ty,(Instr.next (.pointer (some ⟨w1.heap.size,0,none⟩)) true ty).run Tryz.prog wr=_:=fun ty=>Lib.run_next_any_at wr w1.heap.size ds pos ty hk hp);have hk1:=Lib.iterAt_heap wr w1.heap.size ds pos (pos+(Utf8.decode ds pos).2) hk;have hnx1:Below w1.heap.size w1 (wr.iterAt w1.heap.size ds (pos+(Utf8.decode ds pos).2)):=Lib.below_iterAt hnx (by omega) ds (pos+(Utf8.decode ds pos).2);(have hmu:wr.iterPos w1.heap.size=pos:=by simp[World.iterPos,hk]);have hby:=rF ds pos hp;rw[HAT.out pos hp]at hby;obtain⟨b,hb⟩:∃b,(Utf8.decode ds pos).1=b:=⟨_,rfl⟩;rw[hb]at hnext;(have hcase:(48<=b/\b<=57/\Mw.dig (L.getD pos 0)=true/\(Utf8.decode ds pos).2=1)\/((b<48\/57<b)/\Mw.dig (L.getD pos 0)=false):=by rcases hby with⟨he,hl⟩|⟨hh,hl⟩;(·rw[he]at hb⊢;simp only at hb⊢;by_cases h5:48<=b/\b<=57;(·left;exact⟨h5.1,h5.2,(aAk _).mpr (by rw[hb];exact h5),trivial⟩);·right;exact⟨by omega,aKl (by rw[hb];exact h5)⟩);·right;exact⟨.inr (by omega),aKl (by omega)⟩);rcases hcase with⟨h2,h3,h4,h5⟩|⟨h2,h4⟩
      ·rw[h5]at hnext hk1 hnx1;generalize wr.iterAt w1.heap.size ds (pos+1)=W1 at hnext hk1 hnx1;(have h6:¬(b:Int)<48:=by omega);(have h7:¬(57:Int)<b:=by omega);have HSP:=Lib.hid hp;clear hby hb h5 h2 h3 hp;go_wp2
       go_roundw
       (case rel=>refine⟨pos+1,Lib.hid (by have:=HSP.out;have:=HSZ.out;omega),hk1,Lib.hid (fun i hi=>?_),hnx1⟩;rcases Nat.lt_or_ge i pos with hlt|hge;(·exact HDG.out i hlt);·(obtain rfl:i=pos:=by omega);exact h4);case measure=>(have hmu2:W1.iterPos w1.heap.size=pos+1:=by simp[World.iterPos,hk1]);rw[hmu,hmu2];have:=HSP.out;omega
      ·(have hres:Mw.okf s.data.toList=false:=by exact aIk HD.out ⟨pos,h4,by have:=HSZ.out;omega⟩);generalize wr.iterAt w1.heap.size ds (pos+(Utf8.decode ds pos).2)=W1 at hnext hk1 hnx1;rcases h2 with h2|h2
       ·(have h6:(b:Int)<48:=by omega);clear hby hb h2 hp;go_wp2
        go_ret
        exact⟨by first|rfl|(rw[hres];rfl)|simp[hres],hnx1⟩
       ·(have h6:¬(b:Int)<48:=by omega);(have h7:(57:Int)<b:=by omega);clear hby hb h2 hp;go_wp2
        go_ret
        exact⟨by first|rfl|(rw[hres];rfl)|simp[hres],hnx1⟩
     ·(have hnext:∀ty,(Instr.next (.pointer (some ⟨w1.heap.size,0,none⟩)) true ty).run Tryz.prog wr=_:=fun ty=>Lib.run_next_end_at wr w1.heap.size ds pos ty hk hp);have hres:Mw.okf s.data.toList=true:=aJL HD.out HL.out (fun i hi=>HDG.out i (by have:=HSZ.out;omega)) H1.out;clear hp;go_wp2
      go_ret
      exact⟨by first|rfl|(rw[hres];rfl)|simp[hres],hnx⟩
def Mw.iP (l:List UInt8):Int:=if Mw.okf l=true then(if 400<(Mw.unm l).length then 13 else 0)else 1
def Mw.gZ (n:Int):Int:=if 400<(Mw.gU n.natAbs).length then 13 else 0
theorem aBb (l:List UInt8) (s:ByteArray) (h:s.data.toList=l) (W:World):Calls Tryz.prog 121 #[.string s,.string ⟨#[45]⟩] W fun e w'=>e = .returned (.string ⟨(Mw.unm l).toArray⟩)/\w'=W:=by refine(Tryz.strings_TrimPrefix s ⟨#[45]⟩ W).mono ?_;rintro e w' ⟨rfl,rfl⟩;exact⟨by rw[show({data:=#[45]}:ByteArray).data.toList=[45]from rfl,aAd,h],rfl⟩
theorem aF0 (s:ByteArray) (w:World) (b:Bool) (h:Mw.okf s.data.toList=b):Calls Tryz.prog 125 #[.string s] w fun e w'=>e = .returned (.bool b)/\Below w.heap.size w w':=by rw[<-h];exact aKe s w
theorem lV (b:Bool) (c:Int) (w:World) (h:b=false):Calls Tryz.prog 86 #[.bool b,.int .i64 c] w fun e w'=>e = .returned (.tuple #[])/\w'=w:=by subst h;exact aCB c w
theorem mD (b:Bool) (c:Int) (w:World) (h:b=true):Calls Tryz.prog 86 #[.bool b,.int .i64 c] w fun e w'=>e = .panicked (thrown c)/\w'=w:=by subst h;exact aBI c w
theorem jE (s:ByteArray) (w:World) (hs:s.size<=100000) (hok:Mw.iP s.data.toList=0):
 Calls Tryz.prog 69 #[.string s] w fun e w'=>∃s2 A2 k2 c2,e = .returned (.agg #[.int .i64 s2,.slice A2 k2 c2])/\dS w' s2 A2 k2 c2 (Mw.lI s.data.toList)/\Below w.heap.size w w':=by
 have ho:Mw.okf s.data.toList=true:=by rw[Mw.iP]at hok;split at hok;(·assumption);·omega
 have hl:¬(400:Int)<((Mw.unm s.data.toList).length:Int):=by rw[Mw.iP,if_pos ho]at hok;split at hok<;>omega
 go_enter Tryz.func69,Tryz.ntmps69
 go_wp2_with (first|(go_at_call 125;with_reducible refine(aF0 s _ true ho).mono ?_;rintro e w1 ⟨rfl,hb1⟩)|(go_at_call 121;with_reducible refine(aBb _ s rfl _).mono ?_;rintro e w2 ⟨rfl,rfl⟩)|(go_at_call 86;with_reducible refine(lV _ _ _ (by first|rfl|exact decide_eq_false (by omega))).mono ?_;rintro e w3 ⟨rfl,rfl⟩)|(go_at_call 126;with_reducible refine(aJu s _ hs ho).mono ?_;rintro e w4 ⟨s2,A2,k2,c2,rfl,hN,hb4⟩;refine Hid.out ?_))
 have F0:=yJ 71 [⟨0,none,0,0⟩] w;simp only[bxs]at F0;have hb:=hb1.trans (hb4.mono hb1.size);obtain⟨q0,q1,f0,f1⟩:=(F0.call (by simp) hb).c1;have hB:=(bA (Below.refl _ _) _).trans (hb.mono (by simp));obtain⟨HN1,hA,hBc⟩:=lY hN q0 q1;have HB:=Lib.hid hB;clear hB hb hb1 hb4 hN F0;refine Lib.hid ?_;go_wp2
 exact bodyPost_ret (v:=.agg #[.int .i64 s2,.slice A2 k2 c2]) (by simp[results,Tryz.results69,go_sem,hA,hBc]) rfl ⟨s2,A2,k2,c2,rfl,HN1.out,(HB.out.setCell (by simp) _).setCell (by simp) _⟩
theorem pQ (s:ByteArray) (w:World) (hbad:¬Mw.iP s.data.toList=0):
 Calls Tryz.prog 69 #[.string s] w fun e w'=>e = .panicked (thrown (Mw.iP s.data.toList))/\Below w.heap.size w w':=by
 by_cases ho:Mw.okf s.data.toList=true;·by_cases hl:(400:Int)<((Mw.unm s.data.toList).length:Int);(·(have he:Mw.iP s.data.toList=13:=by rw[Mw.iP,if_pos ho,if_pos (by omega)]);rw[he];(go_enter Tryz.func69,Tryz.ntmps69);(go_wp2_with (first|(go_at_call 125;with_reducible refine(aF0 s _ true ho).mono ?_;rintro e w1 ⟨rfl,hb1⟩)|(go_at_call 121;with_reducible refine(aBb _ s rfl _).mono ?_;rintro e w2 ⟨rfl,rfl⟩)|(go_at_call 86;with_reducible refine(aCB _ _).mono ?_;rintro e w3 ⟨rfl,rfl⟩)|(go_at_call 86;with_reducible refine(aBI _ _).mono ?_;rintro e w4 ⟨rfl,rfl⟩)));exact⟨rfl,rfl,(bA (Below.refl _ _) _).trans (hb1.mono (by simp))⟩);·exact absurd (by rw[Mw.iP,if_pos ho,if_neg (by omega)]) hbad
 ·(have ho':Mw.okf s.data.toList=false:=by simpa using ho);(have he:Mw.iP s.data.toList=1:=by rw[Mw.iP,if_neg ho]);rw[he];(go_enter Tryz.func69,Tryz.ntmps69);(go_wp2_with (first|(go_at_call 125;with_reducible refine(aF0 s _ false ho').mono ?_;rintro e w1 ⟨rfl,hb1⟩)|(go_at_call 86;with_reducible refine(mD _ _ _ rfl).mono ?_;rintro e w3 ⟨rfl,rfl⟩)));exact⟨rfl,rfl,(bA (Below.refl _ _) _).trans (hb1.mono (by simp))⟩
theorem aJb (n:Int) (s:ByteArray) (h:s.data.toList=Mw.jF n) (W:World):Calls Tryz.prog 121 #[.string s,.string ⟨#[45]⟩] W fun e w'=>e = .returned (.string ⟨(Mw.gU n.natAbs).toArray⟩)/\w'=W:=by rw[<-Mw.nR];exact aBb _ s h W
theorem lU {s:Int} {A:Option Addr} {k c:Nat} {n:Int} (w:World) (H:dS w s A k c n) (hk:k<=100000) (ht:Tab w) (hok:Mw.gZ n=0):
 Calls Tryz.prog 71 #[.agg #[.int .i64 s,.slice A k c]] w fun e w'=>e = .returned (.string ⟨(Mw.jF n).toArray⟩)/\Below w.heap.size w w':=by
 have hb0:=nT 71 [⟨s,A,k,c⟩] w (Nat.le_refl _) (Below.refl _ _);simp only[bxs]at hb0;have H1:=H.below hb0;have ht1:=(Lib.tabBelow_of_tabIs ht) _ hb0;have hl:¬(400:Int)<((Mw.gU n.natAbs).length:Int):=by rw[Mw.gZ]at hok;split at hok<;>omega
 have hd:decide ((400:Int)<((Mw.gU n.natAbs).length:Int))=false:=decide_eq_false hl;have HB:=Lib.hid hb0;clear hb0;go_enter Tryz.func71,Tryz.ntmps71
 go_wp2_with (first|(go_at_call 127;with_reducible refine(aFz _ H1 hk ht1).mono ?_;rintro e w1 ⟨rfl,hb1⟩)|(go_at_call 121;with_reducible refine(aJb n _ rfl _).mono ?_;rintro e w2 ⟨rfl,rfl⟩)|(go_at_call 86;with_reducible refine(aCB _ _).mono ?_;rintro e w4 ⟨rfl,rfl⟩)|(go_at_call 86;with_reducible refine(lV _ _ _ hd).mono ?_;rintro e w4 ⟨rfl,rfl⟩))
 go_ret
 exact⟨rfl,HB.out.trans (hb1.mono HB.out.size)⟩
theorem oG {s:Int} {A:Option Addr} {k c:Nat} {n:Int} (w:World) (H:dS w s A k c n) (hk:k<=100000) (ht:Tab w) (hbad:¬Mw.gZ n=0):
 Calls Tryz.prog 71 #[.agg #[.int .i64 s,.slice A k c]] w fun e w'=>e = .panicked (thrown (Mw.gZ n))/\Below w.heap.size w w':=by
 have hb0:=nT 71 [⟨s,A,k,c⟩] w (Nat.le_refl _) (Below.refl _ _);simp only[bxs]at hb0;have H1:=H.below hb0;have ht1:=(Lib.tabBelow_of_tabIs ht) _ hb0;have hl:(400:Int)<((Mw.gU n.natAbs).length:Int):=by rw[Mw.gZ]at hbad;split at hbad<;>omega
 have he:Mw.gZ n=13:=by rw[Mw.gZ,if_pos (by omega)]
 rw[he];have HB:=Lib.hid hb0;clear hb0;go_enter Tryz.func71,Tryz.ntmps71
 go_wp2_with (first|(go_at_call 127;with_reducible refine(aFz _ H1 hk ht1).mono ?_;rintro e w1 ⟨rfl,hb1⟩)|(go_at_call 121;with_reducible refine(aJb n _ rfl _).mono ?_;rintro e w2 ⟨rfl,rfl⟩)|(go_at_call 86;with_reducible refine(aBI _ _).mono ?_;rintro e w4 ⟨rfl,rfl⟩))
 exact⟨rfl,rfl,HB.out.trans (hb1.mono HB.out.size)⟩
set_option exponentiation.threshold 500 in
theorem aDX {n:Nat} (h:(Mw.gU n).length<=400):(lbs n).length<=45:=by rw[mO];have h1:=(Mw.iZ n 400 (by omega)).mp h;refine Nat.lt_of_lt_of_le h1 ?_;rw[show(1000000000:Nat)=10^9 from rfl,<-Nat.pow_mul];exact Nat.pow_le_pow_right (by omega) (by omega)
theorem aGa {n:Int} (h:Mw.gZ n=0):(lbs n.natAbs).length<=45:=by refine aDX ?_;rw[Mw.gZ]at h;split at h<;>omega
theorem wV {l:List UInt8} (h:Mw.iP l=0):Mw.gZ (Mw.lI l)=0/\Mw.jF (Mw.lI l)=l:=by
 rw[Mw.iP]at h;split at h;·rename_i ho;have he:=Mw.xH l ho;refine⟨?_,he⟩;have hu:=Mw.nR (Mw.lI l);rw[he]at hu;rw[Mw.gZ,<-hu];exact h
 ·omega
theorem aJi {l:List UInt8} (h:Mw.iP l=0):(lbs (Mw.lI l).natAbs).length<=45:=aGa (wV h).1
def uG (K:FuncId):Prop:=∃(fk:Func) (s1:String),Tryz.prog.funcs[K]?=some fk/\fk.body=some (aDx s1)/\fk.ntmps=3/\fk.results=#[]/\¬fk.name = "runtime.NumGoroutine"
theorem kR {K:FuncId} (hK:uG K) {fn:Func} {tmps:Array Value} {R:Ending->World->Prop} (p:Addr) (x v:Value) (W:World)
 (hc:W.cell? p=some x) (hz:W.frozen? p=false) (hv:∀W',W'.cell? p=some (.int .i64 0)->(results fn tmps).run Tryz.prog W' = .ok v W') (hR:∀W',Below p.block W W'->R (.returned v) W'):
 Leaves Tryz.prog fn tmps R [{target:=.fn (.func K) #[.pointer (some p)],args:=#[]}] .returning W:=by
 obtain⟨fk,s1,hf,hb,hn,hr,hnm⟩:=hK;refine leaves_cons (f:=K) (args:=#[.pointer (some p)]) (by simp) (by simp[go_sem,callFunc,hf,hb,hnm]) ?_;refine(aEw hf hb hn hr p x W hc hz).mono ?_;rintro e u' w'' ⟨rfl,rfl,rfl⟩;exact⟨v,hv _ (World.cell?_setCell_same _ _ _ hc),hR _ ((Below.refl _ _).setCell (Nat.le_refl _) _)⟩
theorem aB8 {K:FuncId} (hK:uG K) {fn:Func} {tmps:Array Value} {R:Ending->World->Prop} (p:Addr) (x v:Value) (W:World)
 (hc:W.cell? p=some x) (hz:W.frozen? p=false) (hv:∀W',W'.cell? p=some (.int .i64 0)->(results fn tmps).run Tryz.prog W' = .ok v W') (hR:R (.returned v) (W.setCell p (.int .i64 0))):
 Leaves Tryz.prog fn tmps R [{target:=.fn (.func K) #[.pointer (some p)],args:=#[]}] .returning W:=by
 obtain⟨fk,s1,hf,hb,hn,hr,hnm⟩:=hK;refine leaves_cons (f:=K) (args:=#[.pointer (some p)]) (by simp) (by simp[go_sem,callFunc,hf,hb,hnm]) ?_;refine(aEw hf hb hn hr p x W hc hz).mono ?_;rintro e u' w'' ⟨rfl,rfl,rfl⟩;exact⟨v,hv _ (World.cell?_setCell_same _ _ _ hc),hR⟩
theorem dK {K:FuncId} (hK:uG K) {fn:Func} {tmps:Array Value} {R:Ending->World->Prop} (p:Addr) (x v:Value) (c:Int) (W:World)
 (hg:Ety W) (hp:p.block<W.heap.size) (hc:W.cell? p=some x) (hz:W.frozen? p=false)
 (hv:∀W',W'.cell? p=some (.int .i64 c)->(results fn tmps).run Tryz.prog W' = .ok v W') (hR:∀W',Below p.block W W'->R (.returned v) W'):
 Leaves Tryz.prog fn tmps R [{target:=.fn (.func K) #[.pointer (some p)],args:=#[]}] (.panicking (thrown c)) W:=by
 obtain⟨fk,s1,hf,hb,hn,hr,hnm⟩:=hK;refine leaves_cons (f:=K) (args:=#[.pointer (some p)]) (by simp) (by simp[go_sem,callFunc,hf,hb,hnm]) ?_;refine(aDw hf hb hn hr p x c W hg hp hc hz).mono ?_;rintro e u' w'' ⟨rfl,rfl,w1,hb1,rfl⟩;simp only[settle,List.dropWhile];have hc1:w1.cell? p=some x:=by rw[hb1.cell hp];exact hc
 exact⟨v,hv _ (World.cell?_setCell_same _ _ _ hc1),hR _ ((hb1.mono (by omega)).trans ((Below.refl _ _).setCell (Nat.le_refl _) _))⟩
def aJm (fn:Func) (d:Tmp):Bool:=fn.results.toList.all fun r=>match r with | .tmp t=>t != d | .cell a _=>a != d
theorem aDh {α β:Type} (f g:α->Sem β):∀l:List α,(∀r ∈ l,f r=g r)->l.mapM f=l.mapM g:=by
 intro l;induction l with
 | nil=>intro _;rfl
 | cons r l ih=>intro h;rw[List.mapM_cons,List.mapM_cons,ih (fun x hx=>h x (List.mem_cons_of_mem _ hx)),h r List.mem_cons_self]
theorem aFH {fn:Func} {d:Tmp} (h:aJm fn d=true) (tmps:Array Value) (v:Value):results fn (tmps.setIfInBounds d v)=results fn tmps:=by
 have hg:∀i,i≠d->(tmps.setIfInBounds d v).getD i undef=tmps.getD i undef:=fun i hi=>by simp only[Array.getD_eq_getD_getElem?,Array.getElem?_setIfInBounds_ne (Ne.symm hi)]
 unfold results;simp only[Array.mapM_eq_mapM_toList];refine congrArg (fun m:Sem (List Value)=>do let vs <-List.toArray <$> m;pure (if h:vs.size=1 then vs[0]else Value.tuple vs)) (aDh _ _ _ fun r hr=>?_);have hs:=List.all_eq_true.mp h r hr;cases r with
 | tmp t=>dsimp only at hs⊢;rw[hg t (by simpa using hs)]
 | cell a t=>dsimp only at hs⊢;rw[hg a (by simpa using hs)]
theorem aGV {fn:Func} {d:Tmp} (h:aJm fn d=true) {tmps:Array Value} {v:Value} {R:Ending->World->Prop}:∀(ds:List Deferred) (u:FrameMode) (w:World),Leaves Tryz.prog fn (tmps.setIfInBounds d v) R ds u w->Leaves Tryz.prog fn tmps R ds u w:=by
 intro ds;induction ds with
 | nil=>
  intro u w hl;cases u with
  | run=>exact hl
  | returning=>obtain⟨x,h1,h2⟩:=hl;exact⟨x,by rw[<-aFH h tmps v];exact h1,h2⟩
  | panicking c=>exact hl
 | cons x ds ih=>
  intro u w hl;obtain⟨h1,fv,cap,f,args,h2,h3,h4⟩:=hl;refine⟨h1,fv,cap,f,args,h2,h3,h4.mono ?_⟩;intro e u' w' hh;cases e with
  | returned y=>exact ih _ _ hh
  | panicked c=>exact ih _ _ hh
  | outgrown=>exact hh
theorem aE3 {fn:Func} {d:Tmp} (h:aJm fn d=true) {R:Ending->World->Prop} {c:List PanicEntry} {a:Act} {v:Value} {w:World} (hh:bodyPostD Tryz.prog fn R (.panic c) (a.put (some d) v) w):bodyPostD Tryz.prog fn R (.panic c) a w:=
 aGV h _ _ _ hh
theorem zT:uG 142:=⟨_,_,Tryz.func142,rfl,rfl,rfl,by decide⟩
theorem tF:uG 141:=⟨_,_,Tryz.func141,rfl,rfl,rfl,by decide⟩
theorem vE:uG 67:=⟨_,_,Tryz.func67,rfl,rfl,rfl,by decide⟩
theorem tH:uG 111:=⟨_,_,Tryz.func111,rfl,rfl,rfl,by decide⟩
theorem tX:uG 97:=⟨_,_,Tryz.func97,rfl,rfl,rfl,by decide⟩
theorem vK:uG 118:=⟨_,_,Tryz.func118,rfl,rfl,rfl,by decide⟩
theorem tJ:uG 85:=⟨_,_,Tryz.func85,rfl,rfl,rfl,by decide⟩
theorem sV {w W:World} {t:TypeId} {v:Value} (hb:Below (w.alloc (.cells #[v] t)).heap.size (w.alloc (.cells #[v] t)) W):W.cell? ⟨w.heap.size,0,none⟩=some v/\W.frozen? ⟨w.heap.size,0,none⟩=false/\w.heap.size<W.heap.size/\Below w.heap.size w W:=by
 refine⟨?_,?_,?_,(bA (Below.refl _ _) _).trans (hb.mono (by simp))⟩;·rw[hb.cell (by simp)];simp
 ·rw[hb.frozen (by simp)];simp
 ·have:=hb.size;simp at this;omega
structure Own (w:World) (v:Value) (W:World):Prop where
 cell:W.cell? ⟨w.heap.size,0,none⟩=some v
 frz:W.frozen? ⟨w.heap.size,0,none⟩=false
 lt:w.heap.size<W.heap.size
 below:Below w.heap.size w W
theorem Own.of {w W:World} {t:TypeId} {v:Value} (hb:Below (w.alloc (.cells #[v] t)).heap.size (w.alloc (.cells #[v] t)) W):Own w v W:=
 ⟨(sV hb).1,(sV hb).2.1,(sV hb).2.2.1,(sV hb).2.2.2⟩
theorem Own.next {w W W':World} {v:Value} (h:Own w v W) (hb:Below W.heap.size W W'):Own w v W':=
 ⟨by rw[hb.cell h.lt];exact h.cell,by rw[hb.frozen h.lt];exact h.frz,Nat.lt_of_lt_of_le h.lt hb.size,h.below.trans (hb.mono (Nat.le_of_lt h.lt))⟩
theorem Own.vI {w W W':World} {v:Value} {B:Nat} (h:Own w v W) (hB:w.heap.size<B) (hb:Below B W W'):Own w v W':=
 ⟨by rw[hb.cell hB];exact h.cell,by rw[hb.frozen hB];exact h.frz,Nat.lt_of_lt_of_le h.lt hb.size,h.below.trans (hb.mono (Nat.le_of_lt hB))⟩
theorem Ety.below {w W:World} (h:Ety w) (hb:Below w.heap.size w W):Ety W:=by
 have hlt:0<w.heap.size:=by rcases Nat.eq_zero_or_pos w.heap.size with h0|h0;(·have hg':w.cell? ⟨0,0,none⟩=some _:=h;simp[World.cell?,h0]at hg');·exact h0
 have h1:w.cell? ⟨0,0,none⟩=some _:=h;show W.cell? ⟨0,0,none⟩=some _;rw[hb.cell (p:=⟨0,0,none⟩) hlt];exact h1
def Mw.kQ (a b:List UInt8):Int:=if Mw.iP a=0 then Mw.iP b else Mw.iP a
def Mw.give (n:Int):List UInt8×Int:=if Mw.gZ n=0 then(Mw.jF n,0)else([],Mw.gZ n)
def Mw.both (op:Int->Int->Int) (a b:List UInt8):List UInt8×Int:=if Mw.kQ a b=0 then Mw.give (op (Mw.lI a) (Mw.lI b))else([],Mw.kQ a b)
def aDO (K:FuncId) (op:Int->Int->Int):Prop:=∀(W:World) {s:Int} {A:Option Addr} {k c:Nat} {n:Int} {s':Int} {A':Option Addr} {k' c':Nat} {m:Int},dS W s A k c n->dS W s' A' k' c' m->k<=45->k'<=45->
 Calls Tryz.prog K #[.agg #[.int .i64 s,.slice A k c],.agg #[.int .i64 s',.slice A' k' c']] W fun e w'=>∃s2 A2 k2 c2,e = .returned (.agg #[.int .i64 s2,.slice A2 k2 c2])/\dS w' s2 A2 k2 c2 (op n m)/\Below W.heap.size W w'/\k2<=100000
theorem dS.k45 {W:World} {s:Int} {A:Option Addr} {k c:Nat} {l:List UInt8} (h:dS W s A k c (Mw.lI l)) (he:Mw.iP l=0):k<=45:=by rw[h.len];exact aJi he
theorem aBQ (K:FuncId) (op:Int->Int->Int) (hdo:aDO K op) (hent:∀(args:Array Value) (w:World),(callFunc K args).run Tryz.prog w = .ok (.enter K args) w) (s t:ByteArray) (w:World) (hs:s.size<=100000) (ht:t.size<=100000) (hg:Ety w) (htab:Tab w):
 Calls Tryz.prog 106 #[.func (.func K) #[] #[],.string s,.string t] w fun e w'=>e = .returned (.tuple #[.string ⟨(Mw.both op s.data.toList t.data.toList).1.toArray⟩,.int .i64 (Mw.both op s.data.toList t.data.toList).2])/\Below w.heap.size w w':=by
 have hmf:∀(fn:Fn) (first cap:Array Value) (w:World),(Instr.makeFunc fn first cap).run Tryz.prog w = .ok (.func fn first cap) w:=fun _ _ _ _=>rfl
 have HG:=Lib.hid hg;have HT:=Lib.hid (Lib.tabBelow_of_tabIs htab);have HDO:=Lib.hid hdo;clear hg hdo htab;obtain⟨⟨rs,er⟩,hr⟩:∃x,Mw.both op s.data.toList t.data.toList=x:=⟨_,rfl⟩;rw[hr];dsimp only;by_cases hok:Mw.iP s.data.toList=0
 ·have HR:=Lib.hid hr;clear hr;(go_enter_defers Tryz.func106,Tryz.ntmps106);(go_wp2_with (first|(go_at_call 69;with_reducible refine(jE s _ hs hok).mono ?_;rintro e w1 ⟨s1,A1,k1,c1,rfl,hN1,hb1⟩;have HB1:=Lib.hid hb1)));refine nE (fun W=>Hid (Fr W w1.heap.size [⟨s1,A1,k1,c1⟩])/\Hid (Below w1.heap.size w1 W)) ⟨Lib.hid (yJ _ [⟨s1,A1,k1,c1⟩] w1),Lib.hid (nT _ [⟨s1,A1,k1,c1⟩] w1 (Nat.le_refl _) (Below.refl _ _))⟩ ?_;rintro W2 ⟨FA,HB2⟩;have HN1:=Lib.hid (hN1.below HB2.out);have hk1:=hN1.k45 hok;have HO:=Lib.hid (((Own.of HB1.out).next HB2.out).next (bN (Below.refl _ _):Below W2.heap.size W2 W2.drew));have hz1:=HB2.out.size;clear hN1 hb1;obtain⟨x0,x1,-,-⟩:=(FA.out.drew hz1).c1;refine jT (fun w'=>w'.cell? ⟨w1.heap.size,0,none⟩=some (.int .i64 s1)/\w'.cell? ⟨w1.heap.size,1,none⟩=some (.slice A1 k1 c1)) 6 (by kernel_rfl) (by kernel_rfl) ⟨x0,x1⟩ (fun hHeld=>?_);refine Zq.tq 0 rfl ?_;refine Zq.tq 1 rfl ?_;refine Zq.tq 2 rfl ?_;refine eX 3 rfl (by decide +kernel) (fun K_ hK=>?_);go_simp;by_cases hok2:Mw.iP t.data.toList=0
  ·refine(jE t _ ht hok2).mono ?_;rintro e w3 ⟨s3,A3,k3,c3,rfl,hN3,hb3⟩;have hk3:=hN3.k45 hok2;have HB3:Hid (Below W2.heap.size W2 w3):=Lib.hid (fK hb3);have KA:=HN1.out.below HB3.out;have HO3:=Lib.hid (HO.out.next hb3);clear hb3 x0 x1;obtain⟨x0,x1,-,-⟩:=(FA.out.call hz1 HB3.out).c1;(go_wp2_with fail);refine hK.out _ _ ⟨x0,x1⟩ (fun hHeld=>?_);clear hK;(try simp only[Act.put,Zq.a1,Zq.a2,Zq.a3]);refine eX 4 rfl (by decide +kernel) (fun K_ hK=>?_);go_simp;refine(HDO.out _ KA hN3 hk1 hk3).mono ?_;rintro e w4 ⟨s4,A4,k4,c4,rfl,hN4,hb4,hk4⟩;have HB4:=Lib.hid (HB3.out.trans (hb4.mono HB3.out.size));have HO4:=Lib.hid (HO3.out.next hb4);clear hb4 KA hN3 x0 x1;obtain⟨x0,x1,-,-⟩:=(FA.out.call hz1 HB4.out).c1;have hT4:=HT.out _ HO4.out.below;(go_wp2_with fail);refine hK.out _ _ ⟨x0,x1⟩ (fun hHeld=>?_);clear hK;(try simp only[Act.put,Zq.a1,Zq.a2,Zq.a3]);refine eX 5 rfl (by decide +kernel) (fun K_ hK=>?_);go_simp;have hr:=HR.out;rw[Mw.both,Mw.kQ,if_pos hok,if_pos hok2,Mw.give]at hr;by_cases hge:Mw.gZ (op (Mw.lI s.data.toList) (Mw.lI t.data.toList))=0
   ·rw[if_pos hge]at hr;refine(lU _ hN4 hk4 hT4 hge).mono ?_;rintro e w5 ⟨rfl,hb5⟩;have HO5:=Lib.hid (HO4.out.next hb5);have HB5:=Lib.hid (HB4.out.trans (hb5.mono HB4.out.size));have HRR:=Lib.hid hr;clear hb5 hN4 hT4 hr x0 x1;obtain⟨x0,x1,-,-⟩:=(FA.out.call hz1 HB5.out).c1;(go_wp2_with fail);refine hK.out _ _ ⟨x0,x1⟩ (fun hHeld=>?_);clear hK;(try simp only[Act.put,Zq.a1,Zq.a2,Zq.a3]);refine mF (by decide +kernel) ?_;have q0:=HO5.out.cell;have f0:=HO5.out.frz;(go_wp2);obtain⟨rfl,rfl⟩:=Prod.mk.inj HRR.out
    exact kR zT _ (.int .i64 0) (.tuple #[.string _,.int .i64 0]) _ (World.cell?_setCell_same _ _ _ q0) (by simp[f0]) (fun W' h=>by simp[results,Tryz.results106,go_sem,h])
     (fun W' h=>⟨rfl,(HO5.out.below.setCell (Nat.le_refl _) _).trans h⟩)
   ·rw[if_neg hge]at hr;refine(oG _ hN4 hk4 hT4 hge).mono ?_;rintro e w5 ⟨rfl,hb5⟩;have HO5:=HO4.out.next hb5;obtain⟨rfl,rfl⟩:=Prod.mk.inj hr
    exact dK zT _ (.int .i64 0) (.tuple #[.string ⟨#[]⟩,.int .i64 _]) _ _ (HG.out.below HO5.below) HO5.lt HO5.cell HO5.frz (fun W' h=>by simp[results,Tryz.results106,go_sem,h])
     (fun W' h=>⟨rfl,HO5.below.trans h⟩)
  ·refine(pQ t _ hok2).mono ?_;rintro e w3 ⟨rfl,hb3⟩;have HO3:=HO.out.next hb3;have hr:=HR.out;rw[Mw.both,Mw.kQ,if_pos hok,if_neg hok2]at hr;obtain⟨rfl,rfl⟩:=Prod.mk.inj hr
   exact dK zT _ (.int .i64 0) (.tuple #[.string ⟨#[]⟩,.int .i64 (Mw.iP t.data.toList)]) _ _ (HG.out.below HO3.below) HO3.lt HO3.cell HO3.frz (fun W' h=>by simp[results,Tryz.results106,go_sem,h])
    (fun W' h=>⟨rfl,HO3.below.trans h⟩)
 ·rw[Mw.both,Mw.kQ,if_neg hok,if_neg hok]at hr;obtain⟨rfl,rfl⟩:=Prod.mk.inj hr;(go_enter_defers Tryz.func106,Tryz.ntmps106);go_wp2_with (first|(go_at_call 69;with_reducible refine(pQ s _ hok).mono ?_;rintro e w1 ⟨rfl,hb1⟩;obtain⟨q0,f0,z0,hB⟩:=sV hb1))
  exact dK zT _ (.int .i64 0) (.tuple #[.string ⟨#[]⟩,.int .i64 (Mw.iP s.data.toList)]) _ _ (HG.out.below hB) z0 q0 f0 (fun W' h=>by simp[results,Tryz.results106,go_sem,h])
   (fun W' h=>⟨rfl,hB.trans h⟩)
theorem dS.lt {W:World} {s:Int} {A:Option Addr} {k c:Nat} {n:Int} (h:dS W s A k c n) {K:Nat} (hk:k<=K):n.natAbs<1000000000^K:=by rw[h.len]at hk;exact(mO _ _).mp hk
theorem aLn {n m:Int} {K L:Nat} (hn:n.natAbs<1000000000^K) (hm:m.natAbs<1000000000^L):(lbs (n*m).natAbs).length<=K+L:=by rw[mO,Nat.pow_add,Int.natAbs_mul];exact Nat.mul_lt_mul'' hn hm
theorem aHa:aDO 77 (fun a b=>a*b):=fun W {s A k c n s' A' k' c' m} H H' hk hk'=>by refine(aNw W H H' (by omega) (by omega)).mono ?_;rintro e w' ⟨s2,A2,k2,c2,rfl,hN,hb⟩;exact⟨s2,A2,k2,c2,rfl,hN,hb,by have:=aLn (H.lt hk) (H'.lt hk');rw[hN.len];omega⟩
theorem enters {K:FuncId} {fn:Func} {c:Code} (hf:Tryz.prog.funcs[K]?=some fn) (hb:fn.body=some c) (hnm:¬fn.name = "runtime.NumGoroutine") (args:Array Value) (w:World):(callFunc K args).run Tryz.prog w = .ok (.enter K args) w:=by simp[callFunc,hf,hb,hnm,go_sem]
theorem aCO (s t:ByteArray) (w:World) (hs:s.size<=100000) (ht:t.size<=100000) (hg:Ety w) (htab:Tab w):
 Calls Tryz.prog 45 #[.string s,.string t] w fun e w'=>e = .returned (.tuple #[.string ⟨(Mw.both (fun a b=>a*b) s.data.toList t.data.toList).1.toArray⟩,.int .i64 (Mw.both (fun a b=>a*b) s.data.toList t.data.toList).2])/\Below w.heap.size w w':=by
 have h1:=aBQ 77 (fun a b=>a*b) aHa (enters Tryz.func77 rfl (by decide)) s t w hs ht hg htab;generalize Mw.both (fun a b=>a*b) s.data.toList t.data.toList=r at *;clear hg htab hs ht;go_enter Tryz.func45,Tryz.ntmps45
 go_wp2_with (first|(go_at_call 106;with_reducible refine h1.mono ?_;rintro e w1 ⟨rfl,hb1⟩))
 exact bodyPost_ret (v:=.tuple #[.string ⟨r.1.toArray⟩,.int .i64 r.2]) (by simp[results,Tryz.results45,go_sem]) rfl ⟨rfl,hb1⟩
end Go.Proofs.YtjieekkkaekclaaGreatDoor
