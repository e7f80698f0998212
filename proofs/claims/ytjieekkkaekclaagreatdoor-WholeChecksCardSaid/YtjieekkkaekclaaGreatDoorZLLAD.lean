/- Lemmas for the claim beside this text. -/
import Derived.Test.YtjieekkkaekclaaGreatDoorZBAD
import Derived.Test.YtjieekkkaekclaaGreatDoorZBAT
import Derived.Test.YtjieekkkaekclaaGreatDoorZBAX
import Derived.Test.YtjieekkkaekclaaGreatDoorZBAY
import Derived.Test.YtjieekkkaekclaaGreatDoorZLLAB
import Derived.Test.YtjieekkkaekclaaGreatDoorZLLAC
set_option linter.all false
set_option linter.unusedVariables false
set_option linter.unusedSimpArgs false
set_option maxHeartbeats 8000000
set_option maxRecDepth 100000
namespace Go.Proofs.YtjieekkkaekclaaGreatDoor.PR
open Go.RowKit Go.Pw.PrintWords Go.Pw.PrintLast Go.Pw.PrintMore
attribute [local go_sem] eG dZ fE fD dM dL eF dY
mutual
def bS.j0:Nat->ByteArray->Int->Int->Int->Option (ByteArray)
 | 0,_,_,_,_=>none
 | k+1,x0,x1,x2,x3=>if x2<0 then(bS.j1 k x0 x1 (wrap64 (x2+3)) x3)else(bS.j1 k x0 x1 x2 x3)
def bS.j1:Nat->ByteArray->Int->Int->Int->Option (ByteArray)
 | 0,_,_,_,_=>none
 | k+1,x0,x1,x2,x3=>if x2=0 then(if 0<=x1 then(if x1<=(x0.size:Int)then((some (([x3]:List Int):List Int)).bind fun y911=>(if(x0.extract 0 (x1:Int).toNat).size+(strOfNums y911).size<=9223372036854775807 then(if 0<=(wrap64 (x1+1))then(if(wrap64 (x1+1))<=(x0.size:Int)then(if((x0.extract 0 (x1:Int).toNat)++(strOfNums y911)).size+(x0.extract ((wrap64 (x1+1)):Int).toNat x0.size).size<=9223372036854775807 then(some (((x0.extract 0 (x1:Int).toNat)++(strOfNums y911))++(x0.extract ((wrap64 (x1+1)):Int).toNat x0.size)))else(none))else(none))else(none))else(none)))else(none))else(none))else(if x2=1 then(if 0<=x1 then(if x1<=(x0.size:Int)then(if 0<=(wrap64 (x1+1))then(if(wrap64 (x1+1))<=(x0.size:Int)then(if(x0.extract 0 (x1:Int).toNat).size+(x0.extract ((wrap64 (x1+1)):Int).toNat x0.size).size<=9223372036854775807 then(some ((x0.extract 0 (x1:Int).toNat)++(x0.extract ((wrap64 (x1+1)):Int).toNat x0.size)))else(none))else(none))else(none))else(none))else(none))else(if 0<=x1 then(if x1<=(x0.size:Int)then((some (([x3]:List Int):List Int)).bind fun y914=>(if(x0.extract 0 (x1:Int).toNat).size+(strOfNums y914).size<=9223372036854775807 then(if((x0.extract 0 (x1:Int).toNat)++(strOfNums y914)).size+(x0.extract (x1:Int).toNat x0.size).size<=9223372036854775807 then(some (((x0.extract 0 (x1:Int).toNat)++(strOfNums y914))++(x0.extract (x1:Int).toNat x0.size)))else(none))else(none)))else(none))else(none)))
end
def bS.f (k:Nat) (a0:ByteArray) (a1:Int) (a2:Int) (a3:Int):Option (ByteArray):=if(a0.size:Int)=0 then(some (strOfNums (([a3]:List Int))))else(if(Int.tmod a1 (a0.size:Int))<0 then(bS.j0 k a0 (wrap64 ((Int.tmod a1 (a0.size:Int))+(a0.size:Int))) (Int.tmod a2 3) a3)else(bS.j0 k a0 (Int.tmod a1 (a0.size:Int)) (Int.tmod a2 3) a3))
def bS.T10:Bool×List (List Nat×List Nat):=(true,[([],[]),([],[]),([0,1],[0,1]),([],[]),([3],[3]),([4],[4]),([2,5],[2,5]),([],[]),([],[]),([8],[8]),([7,9],[7,9]),([6,10],[6,10]),([11,0,1,2,3,4,5,6,7,8,9,10,11],[11])])
def bS.B10:List Nat:=[0,0,3,0,8,24,63,0,0,256,896,2047,4095]
theorem bS.uO:nM .any (opsOf Tryz.f54 10)=bS.T10:=by kernel_rfl
theorem bS.rM:jG bS.T10.2 bS.B10=true:=by kernel_rfl
def bS.T12:Bool×List (List Nat×List Nat):=(true,[([],[]),([],[]),([0,1],[0,1]),([],[]),([],[]),([4],[4]),([3,5],[3,5]),([2,6],[2,6]),([7,0,1,2,3,4,5,6,7],[7])])
def bS.B12:List Nat:=[0,0,3,0,0,16,56,127,255]
theorem bS.aA5:nM .any (opsOf Tryz.f54 12)=bS.T12:=by kernel_rfl
theorem bS.xL:jG bS.T12.2 bS.B12=true:=by kernel_rfl
def bS.T13:Bool×List (List Nat×List Nat):=(true,[([],[]),([],[]),([0,1],[0,1]),([],[]),([3],[3]),([4],[4]),([2,5],[2,5]),([],[]),([],[]),([7,8],[7,8]),([6,9],[6,9]),([10,0,1,2,3,4,5,6,7,8,9,10],[10])])
def bS.B13:List Nat:=[0,0,3,0,8,24,63,0,0,384,1023,2047]
theorem bS.vR:nM .any (opsOf Tryz.f54 13)=bS.T13:=by kernel_rfl
theorem bS.sO:jG bS.T13.2 bS.B13=true:=by kernel_rfl
theorem bS.calls (k:Nat) (a0:ByteArray) (a1:Int) (a2:Int) (a3:Int) (r:ByteArray) (w:World) (h:bS.f k a0 a1 a2 a3=some r):
 Calls Tryz.prog 54 #[.string a0,.int .i64 a1,.int .i64 a2,.int .u8 a3] w fun e w'=>e = .returned (.string r)/\Below w.heap.size w w':=by
 have HB:=aA.mk (Below.refl w.heap.size w);have H:(if(a0.size:Int)=0 then(some (strOfNums (([a3]:List Int))))else(if(Int.tmod a1 (a0.size:Int))<0 then(bS.j0 k a0 (wrap64 ((Int.tmod a1 (a0.size:Int))+(a0.size:Int))) (Int.tmod a2 3) a3)else(bS.j0 k a0 (Int.tmod a1 (a0.size:Int)) (Int.tmod a2 3) a3)))=some r:=h;clear h;by_cases c5:(a0.size:Int)=0
 ·rw[if_pos c5]at H;have c5b0:((a0.size:Int) == 0)=true:=beq_iff_eq.mpr c5;have c5b1:((a0.size:Int) != 0)=false:=bne_eq_false_iff_eq.mpr c5;clear c5;obtain⟨y908,hy908⟩:∃y_:List Int,y_=(([a3]:List Int)):=⟨_,rfl⟩;(replace H:(some (strOfNums y908))=some r:=by first|(rw[hy908];with_reducible exact H)|(have H2_:=(Option.bind_some _ _).symm.trans H;rw[hy908];with_reducible exact H2_)|(have H2_:=(Option.bind_some _ _).symm.trans H;with_reducible exact H2_)|with_reducible exact H|(rw[hy908];exact H)|exact H);have Ny908:=aA.mk hy908;clear hy908;obtain rfl:=Option.some.inj H;(go_enter Tryz.func54,Tryz.ntmps54);go_wp2_with (first|((with_reducible refine fZ (N:=13) rfl ?_);refine Kd.nK (Kd.int .u8) _ 5 ?hg (N:=13) ?hd (xs:=([a3]:List Int)) (inner:=[.int .u8 a3]) (ok:=fun _=>True) (okp:=fun _=>True) ?hr ?hp (fun _ hk=>hk) trivial (Below.refl _ _) (Nat.le_refl _) (by simp) ?_;(case hd=>rfl);(case hg=>rfl);(case hr=>first|(go_simp;done)|(go_simp;rfl));(case hp=>exact(fA.one (show Kd.M (Kd.int .u8) _ _ _ a3 [.int .u8 a3]from rfl) (fA.none _ _)));intro v909 w6 ho7 hb hg_ hnew_;clear hg_ hnew_;(first|rw[<-Ny908.out]at ho7|(simp only[Int.reduceToNat]at ho7;rw[<-Ny908.out]at ho7));have HO910:=aA.mk (Kd.eU ho7 (aD Zq.bo));replace HB:=aA.mk (aC Zq.bo hb);clear hb ho7;have hcv8:=pX (P:=Tryz.prog) Tryz.underlying104 Tryz.underlying5 Tryz.underlying9 (Kd.qZ HO910.out)))
  go_ret
  exact⟨Zq.ew,Zq.bo⟩
 ·rw[if_neg c5]at H;have c5b0:((a0.size:Int) == 0)=false:=beq_eq_false_iff_ne.mpr c5;have c5b1:((a0.size:Int) != 0)=true:=bne_iff_ne.mpr c5;have HC9:=aA.mk H;clear H;go_enter Tryz.func54,Tryz.ntmps54
  go_upto_if 22 with(fail)
  go_cut [1] (fun v1 wc=>∃(kq:Nat) (x1_8:Int),v1 = .int .i64 x1_8/\aA (bS.j0 kq a0 x1_8 (Int.tmod a2 3) a3=some r)/\aA (kq<=k)/\aA (Below w.heap.size w wc))
  case first=>
   have H:=HC9.out;clear HC9;by_cases c10:(Int.tmod a1 (a0.size:Int))<0
   ·rw[if_pos c10]at H;have c10b0:decide ((Int.tmod a1 (a0.size:Int))<0)=true:=decide_eq_true c10;clear c10;(first|rw[c10b0]|(simp only[bG,bK];rw[c10b0])|skip);have H':=aA.mk H;clear H;go_wp2
    go_meet
    case rel=>exact⟨_,(wrap64 ((Int.tmod a1 (a0.size:Int))+(a0.size:Int))),Zq.sd,H',⟨by first|omega|exact Nat.le_refl _⟩,⟨Zq.bo⟩⟩
   ·rw[if_neg c10]at H;have c10b0:decide ((Int.tmod a1 (a0.size:Int))<0)=false:=decide_eq_false c10;clear c10;(first|rw[c10b0]|(simp only[bG,bK];rw[c10b0])|skip);have H':=aA.mk H;clear H;go_wp2
    go_meet
    case rel=>exact⟨_,(Int.tmod a1 (a0.size:Int)),Zq.sd,H',⟨by first|omega|exact Nat.le_refl _⟩,⟨Zq.bo⟩⟩
  case rest=>
   clear HC9;(try clear c1);(try clear p2);(try clear c5);(try clear c5b0);(try clear c5b1);(try clear p6);(try clear hcv8);(try clear c10);(try clear c10b0);obtain⟨kq,x1_8,rfl,HA,HJ8,HB⟩:=hcut;cases kq with
   | zero=>exact absurd HA.out (by simp[bS.j0])
   | succ kj8=>
    have H:=HA.out;clear HA;simp only[bS.j0]at H;have HC11:=aA.mk H;clear H
    go_upto_if 28 with(fail)
    go_cut [2] (fun v2 wc=>∃(kq:Nat) (x2_10:Int),v2 = .int .i64 x2_10/\aA (bS.j1 kq a0 x1_8 x2_10 a3=some r)/\aA (kq<=kj8)/\aA (Below w.heap.size w wc))
    case first=>
     have H:=HC11.out;clear HC11;by_cases c12:(Int.tmod a2 3)<0
     ·rw[if_pos c12]at H;have c12b0:decide ((Int.tmod a2 3)<0)=true:=decide_eq_true c12;clear c12;(first|rw[c12b0]|(simp only[bG,bK];rw[c12b0])|skip);have H':=aA.mk H;clear H;go_wp2
      go_meet
      case rel=>exact⟨_,(wrap64 ((Int.tmod a2 3)+3)),Zq.sd,H',⟨by have:=HJ8.out;first|omega|exact Nat.le_refl _⟩,⟨Zq.bo⟩⟩
     ·rw[if_neg c12]at H;have c12b0:decide ((Int.tmod a2 3)<0)=false:=decide_eq_false c12;clear c12;(first|rw[c12b0]|(simp only[bG,bK];rw[c12b0])|skip);have H':=aA.mk H;clear H;go_wp2
      go_meet
      case rel=>exact⟨_,((Int.tmod a2 3)),Zq.sd,H',⟨by have:=HJ8.out;first|omega|exact Nat.le_refl _⟩,⟨Zq.bo⟩⟩
    case rest=>
     clear HC11;(try clear c1);(try clear p2);(try clear c5);(try clear c5b0);(try clear c5b1);(try clear p6);(try clear hcv8);(try clear c10);(try clear c10b0);(try clear c12);(try clear c12b0);(try clear p2);(try clear p6);obtain⟨kq,x2_10,rfl,HA,HJ10,HB⟩:=hcut;cases kq with
     | zero=>exact absurd HA.out (by simp[bS.j1])
     | succ kj10=>
      have H:=HA.out;clear HA;simp only[bS.j1]at H;by_cases c13:x2_10=0
      ·rw[if_pos c13]at H;have c13b0:(x2_10 == 0)=true:=beq_iff_eq.mpr c13;have c13b1:(x2_10 != 0)=false:=bne_eq_false_iff_eq.mpr c13;clear c13;by_cases c14:0<=x1_8
       ·rw[if_pos c14]at H;have c14b0:=eq_true c14;have c14b1:decide (0<=x1_8)=true:=decide_eq_true c14;clear c14;by_cases c15:x1_8<=(a0.size:Int)
        ·rw[if_pos c15]at H;have c15b0:=eq_true c15;have c15b1:decide (x1_8<=(a0.size:Int))=true:=decide_eq_true c15;clear c15;obtain⟨y911,hy911⟩:∃y_:List Int,y_=(([a3]:List Int)):=⟨_,rfl⟩;(replace H:(if(a0.extract 0 (x1_8:Int).toNat).size+(strOfNums y911).size<=9223372036854775807 then(if 0<=(wrap64 (x1_8+1))then(if(wrap64 (x1_8+1))<=(a0.size:Int)then(if((a0.extract 0 (x1_8:Int).toNat)++(strOfNums y911)).size+(a0.extract ((wrap64 (x1_8+1)):Int).toNat a0.size).size<=9223372036854775807 then(some (((a0.extract 0 (x1_8:Int).toNat)++(strOfNums y911))++(a0.extract ((wrap64 (x1_8+1)):Int).toNat a0.size)))else(none))else(none))else(none))else(none))=some r:=by first|(rw[hy911];with_reducible exact H)|(have H2_:=(Option.bind_some _ _).symm.trans H;rw[hy911];with_reducible exact H2_)|(have H2_:=(Option.bind_some _ _).symm.trans H;with_reducible exact H2_)|with_reducible exact H|(rw[hy911];exact H)|exact H);have Ny911:=aA.mk hy911;clear hy911;by_cases c16:(a0.extract 0 (x1_8:Int).toNat).size+(strOfNums y911).size<=9223372036854775807
         ·rw[if_pos c16]at H;have c16b0:=eq_true c16;have c16b1:decide ((a0.extract 0 (x1_8:Int).toNat).size+(strOfNums y911).size<=9223372036854775807)=true:=decide_eq_true c16;(try have c16b2:(9223372036854775807<(a0.extract 0 (x1_8:Int).toNat).size+(strOfNums y911).size)=False:=eq_false (Nat.not_lt.2 c16));have c16_9_:(9223372036854775807<(x1_8:Int).toNat+(strOfNums y911).size)=False:=eq_false (by have h_:=of_eq_false c16b2;simp only[ByteArray.size_append,ByteArray.size_extract]at h_;have h2_:=of_eq_true c15b0;omega);obtain⟨ji17,hji17⟩:∃j_:Int,(wrap64 (x1_8+1))=j_:=⟨_,rfl⟩;(replace H:(if 0<=(ji17)then(if(ji17)<=(a0.size:Int)then(if((a0.extract 0 (x1_8:Int).toNat)++(strOfNums y911)).size+(a0.extract ((ji17):Int).toNat a0.size).size<=9223372036854775807 then(some (((a0.extract 0 (x1_8:Int).toNat)++(strOfNums y911))++(a0.extract ((ji17):Int).toNat a0.size)))else(none))else(none))else(none))=some r:=by first|(rw[hji17]at H;exact H)|(simp only[hji17]at H⊢;exact H));have hji17w:(IntKind.i64.wrap (x1_8+1))=ji17:=(bG _).trans hji17;by_cases c18:0<=(ji17)
          ·rw[if_pos c18]at H;have c18b0:=eq_true c18;have c18b1:decide (0<=(ji17))=true:=decide_eq_true c18;clear c18;by_cases c19:(ji17)<=(a0.size:Int)
           ·rw[if_pos c19]at H;have c19b0:=eq_true c19;have c19b1:decide ((ji17)<=(a0.size:Int))=true:=decide_eq_true c19;clear c19;by_cases c20:((a0.extract 0 (x1_8:Int).toNat)++(strOfNums y911)).size+(a0.extract ((ji17):Int).toNat a0.size).size<=9223372036854775807
            ·rw[if_pos c20]at H;have c20b0:=eq_true c20;have c20b1:decide (((a0.extract 0 (x1_8:Int).toNat)++(strOfNums y911)).size+(a0.extract ((ji17):Int).toNat a0.size).size<=9223372036854775807)=true:=decide_eq_true c20;(try have c20b2:(9223372036854775807<((a0.extract 0 (x1_8:Int).toNat)++(strOfNums y911)).size+(a0.extract ((ji17):Int).toNat a0.size).size)=False:=eq_false (Nat.not_lt.2 c20));have c20_9_:(9223372036854775807<((x1_8:Int).toNat+(strOfNums y911).size)+(a0.size-((ji17):Int).toNat))=False:=eq_false (by have h_:=of_eq_false c20b2;simp only[ByteArray.size_append,ByteArray.size_extract]at h_;have h2_:=of_eq_true c15b0;omega);obtain rfl:=Option.some.inj H;(try go_wp2);replace HB:=aA.mk (aT HB.out);refine dG (n:=13) (S:=fun w'=>True) (ds:=[]) #[false,false,false,false,false,false,false,false,false,false,false,false,false] (by kernel_rfl) rfl rfl trivial (fun hHeld=>?_);refine bF bS.uO bS.rM (fun HT_ HW_=>?_);generalize wc.drew=w21 at HB hHeld⊢;refine Zq.pu 0 (some 34) (Zq.bs 13 1) ?_;refine Zq.pu 1 (some 35) (Zq.bs 13 3) ?_;refine Zq.pu 2 (some 36) (Zq.bs 13 7) ?_;refine Zq.pu 3 (some 37) (Zq.bs 13 15) ?_;refine Zq.pu 7 (some 41) (Zq.bs 13 143) ?_;refine Zq.pu 8 (some 42) (Zq.bs 13 399) ?_;refine Zq.pu 9 (some 43) (Zq.bs 13 911) ?_;refine Zq.pu 10 (some 44) (Zq.bs 13 1935) ?_;refine gF (i:=4) (N:=some 38) #[true,true,true,true,true,false,false,true,true,true,true,false,false] rfl rfl (bZ HT_.out (by kernel_rfl)) (by decide) (fun K hK=>?_)
             refine Kd.vG (Kd.int .u8) _ 5 ?hg (N:=38) ?hd (xs:=([a3]:List Int)) (inner:=[.int .u8 a3]) (ok:=fun _=>True) (okp:=fun _=>True) ?hr ?hp (fun _ hk=>hk) trivial (Below.refl _ _) (Nat.le_refl _) (by simp) ?_;(case hd=>rfl);(case hg=>rfl);(case hr=>first|(go_simp;done)|(go_simp;rfl));(case hp=>exact(fA.one (show Kd.M (Kd.int .u8) _ _ _ a3 [.int .u8 a3]from rfl) (fA.none _ _)));intro v912 w22 ho23 hb hg_ hnew_;clear hg_ hnew_;(first|rw[<-Ny911.out]at ho23|(simp only[Int.reduceToNat]at ho23;rw[<-Ny911.out]at ho23));have HO913:=aA.mk (Kd.eU ho23 (aD Zq.bo));replace HB:=aA.mk (aC Zq.bo hb);clear hb ho23;refine hK.out _ _ trivial (fun hHeld=>?_);clear hK K;refine dO (a':=?_) ?_ ?_;rotate_left;(·show Act.put _ (some 38) _=_;simp only[Act.put,Zq.a1,Zq.a2,Zq.a3,bG,bK];rfl);refine gF (i:=5) (N:=some 39) #[true,true,true,true,true,true,false,true,true,true,true,false,false] rfl rfl (bZ HT_.out (by kernel_rfl)) (by decide) (fun K hK=>?_);have hcv24:=pX (P:=Tryz.prog) Tryz.underlying104 Tryz.underlying5 Tryz.underlying9 (Kd.qZ HO913.out);refine aAc (w1:=?_) (v:=?_) (by rfl) rfl ?_ ?_;rotate_left 2;(·go_simp;constructor;(·rfl);·rfl);clear hcv24;refine hK.out _ _ trivial (fun hHeld=>?_);clear hK K;refine dO (a':=?_) ?_ ?_;rotate_left;(·show Act.put _ (some 39) _=_;simp only[Act.put,Zq.a1,Zq.a2,Zq.a3,bG,bK];rfl);refine Zq.pu 6 (some 40) (Zq.bs 13 2047) ?_;refine Zq.pu 11 (some 45) (Zq.bs 13 4095) ?_;refine Zq.pu 12 (some 8) (Zq.bs 13 8191) ?_;refine eZ (bV HT_.out (by kernel_rfl)) ?_;try go_wp2
             go_ret
             exact⟨by first|rfl|(simp[bE,bD]<;>rfl)|(simp only[<-hji17];first|rfl|(simp[bE,bD]<;>rfl))|(simp[*,bE,bD]<;>rfl),Zq.bo⟩
            ·rw[if_neg c20]at H;exact absurd H (by simp)
           ·rw[if_neg c19]at H;exact absurd H (by simp)
          ·rw[if_neg c18]at H;exact absurd H (by simp)
         ·rw[if_neg c16]at H;exact absurd H (by simp)
        ·rw[if_neg c15]at H;exact absurd H (by simp)
       ·rw[if_neg c14]at H;exact absurd H (by simp)
      ·rw[if_neg c13]at H;have c13b0:(x2_10 == 0)=false:=beq_eq_false_iff_ne.mpr c13;have c13b1:(x2_10 != 0)=true:=bne_iff_ne.mpr c13;by_cases c25:x2_10=1
       ·rw[if_pos c25]at H;have c25b0:(x2_10 == 1)=true:=beq_iff_eq.mpr c25;have c25b1:(x2_10 != 1)=false:=bne_eq_false_iff_eq.mpr c25;clear c25;by_cases c26:0<=x1_8
        ·rw[if_pos c26]at H;have c26b0:=eq_true c26;have c26b1:decide (0<=x1_8)=true:=decide_eq_true c26;clear c26;by_cases c27:x1_8<=(a0.size:Int)
         ·rw[if_pos c27]at H;have c27b0:=eq_true c27;have c27b1:decide (x1_8<=(a0.size:Int))=true:=decide_eq_true c27;clear c27;obtain⟨ji28,hji28⟩:∃j_:Int,(wrap64 (x1_8+1))=j_:=⟨_,rfl⟩;(replace H:(if 0<=(ji28)then(if(ji28)<=(a0.size:Int)then(if(a0.extract 0 (x1_8:Int).toNat).size+(a0.extract ((ji28):Int).toNat a0.size).size<=9223372036854775807 then(some ((a0.extract 0 (x1_8:Int).toNat)++(a0.extract ((ji28):Int).toNat a0.size)))else(none))else(none))else(none))=some r:=by first|(rw[hji28]at H;exact H)|(simp only[hji28]at H⊢;exact H));have hji28w:(IntKind.i64.wrap (x1_8+1))=ji28:=(bG _).trans hji28;by_cases c29:0<=(ji28)
          ·rw[if_pos c29]at H;have c29b0:=eq_true c29;have c29b1:decide (0<=(ji28))=true:=decide_eq_true c29;clear c29;by_cases c30:(ji28)<=(a0.size:Int)
           ·rw[if_pos c30]at H;have c30b0:=eq_true c30;have c30b1:decide ((ji28)<=(a0.size:Int))=true:=decide_eq_true c30;clear c30;by_cases c31:(a0.extract 0 (x1_8:Int).toNat).size+(a0.extract ((ji28):Int).toNat a0.size).size<=9223372036854775807
            ·rw[if_pos c31]at H;have c31b0:=eq_true c31;have c31b1:decide ((a0.extract 0 (x1_8:Int).toNat).size+(a0.extract ((ji28):Int).toNat a0.size).size<=9223372036854775807)=true:=decide_eq_true c31;(try have c31b2:(9223372036854775807<(a0.extract 0 (x1_8:Int).toNat).size+(a0.extract ((ji28):Int).toNat a0.size).size)=False:=eq_false (Nat.not_lt.2 c31));have c31_9_:(9223372036854775807<(x1_8:Int).toNat+(a0.size-((ji28):Int).toNat))=False:=eq_false (by have h_:=of_eq_false c31b2;simp only[ByteArray.size_append,ByteArray.size_extract]at h_;have h2_:=of_eq_true c27b0;omega);obtain rfl:=Option.some.inj H;(try go_wp2);replace HB:=aA.mk (aT HB.out);refine dG (n:=9) (S:=fun w'=>True) (ds:=[]) #[false,false,false,false,false,false,false,false,false] (by kernel_rfl) rfl rfl trivial (fun hHeld=>?_);refine bF bS.aA5 bS.xL (fun HT_ HW_=>?_);generalize wc.drew=w32 at HB hHeld⊢;refine Zq.pu 0 (some 48) (Zq.bs 9 1) ?_;refine Zq.pu 1 (some 49) (Zq.bs 9 3) ?_;refine Zq.pu 2 (some 50) (Zq.bs 9 7) ?_;refine Zq.pu 3 (some 51) (Zq.bs 9 15) ?_;refine Zq.pu 4 (some 52) (Zq.bs 9 31) ?_;refine Zq.pu 5 (some 53) (Zq.bs 9 63) ?_;refine Zq.pu 6 (some 54) (Zq.bs 9 127) ?_;refine Zq.pu 7 (some 55) (Zq.bs 9 255) ?_;refine Zq.pu 8 (some 8) (Zq.bs 9 511) ?_;refine eZ (bV HT_.out (by kernel_rfl)) ?_;try go_wp2
             go_ret
             exact⟨by first|rfl|(simp[bE,bD]<;>rfl)|(simp only[<-hji28];first|rfl|(simp[bE,bD]<;>rfl))|(simp[*,bE,bD]<;>rfl),Zq.bo⟩
            ·rw[if_neg c31]at H;exact absurd H (by simp)
           ·rw[if_neg c30]at H;exact absurd H (by simp)
          ·rw[if_neg c29]at H;exact absurd H (by simp)
         ·rw[if_neg c27]at H;exact absurd H (by simp)
        ·rw[if_neg c26]at H;exact absurd H (by simp)
       ·rw[if_neg c25]at H;have c25b0:(x2_10 == 1)=false:=beq_eq_false_iff_ne.mpr c25;have c25b1:(x2_10 != 1)=true:=bne_iff_ne.mpr c25;by_cases c33:0<=x1_8
        ·rw[if_pos c33]at H;have c33b0:=eq_true c33;have c33b1:decide (0<=x1_8)=true:=decide_eq_true c33;clear c33;by_cases c34:x1_8<=(a0.size:Int)
         ·rw[if_pos c34]at H;have c34b0:=eq_true c34;have c34b1:decide (x1_8<=(a0.size:Int))=true:=decide_eq_true c34;clear c34;obtain⟨y914,hy914⟩:∃y_:List Int,y_=(([a3]:List Int)):=⟨_,rfl⟩;(replace H:(if(a0.extract 0 (x1_8:Int).toNat).size+(strOfNums y914).size<=9223372036854775807 then(if((a0.extract 0 (x1_8:Int).toNat)++(strOfNums y914)).size+(a0.extract (x1_8:Int).toNat a0.size).size<=9223372036854775807 then(some (((a0.extract 0 (x1_8:Int).toNat)++(strOfNums y914))++(a0.extract (x1_8:Int).toNat a0.size)))else(none))else(none))=some r:=by first|(rw[hy914];with_reducible exact H)|(have H2_:=(Option.bind_some _ _).symm.trans H;rw[hy914];with_reducible exact H2_)|(have H2_:=(Option.bind_some _ _).symm.trans H;with_reducible exact H2_)|with_reducible exact H|(rw[hy914];exact H)|exact H);have Ny914:=aA.mk hy914;clear hy914;by_cases c35:(a0.extract 0 (x1_8:Int).toNat).size+(strOfNums y914).size<=9223372036854775807
          ·rw[if_pos c35]at H;have c35b0:=eq_true c35;have c35b1:decide ((a0.extract 0 (x1_8:Int).toNat).size+(strOfNums y914).size<=9223372036854775807)=true:=decide_eq_true c35;(try have c35b2:(9223372036854775807<(a0.extract 0 (x1_8:Int).toNat).size+(strOfNums y914).size)=False:=eq_false (Nat.not_lt.2 c35));have c35_9_:(9223372036854775807<(x1_8:Int).toNat+(strOfNums y914).size)=False:=eq_false (by have h_:=of_eq_false c35b2;simp only[ByteArray.size_append,ByteArray.size_extract]at h_;have h2_:=of_eq_true c34b0;omega);have c36b0:=eq_true (of_decide_eq_true Zq.am:0<=x1_8);have c37b0:=eq_true (of_decide_eq_true Zq.am:x1_8<=(a0.size:Int));by_cases c38:((a0.extract 0 (x1_8:Int).toNat)++(strOfNums y914)).size+(a0.extract (x1_8:Int).toNat a0.size).size<=9223372036854775807
           ·rw[if_pos c38]at H;have c38b0:=eq_true c38;have c38b1:decide (((a0.extract 0 (x1_8:Int).toNat)++(strOfNums y914)).size+(a0.extract (x1_8:Int).toNat a0.size).size<=9223372036854775807)=true:=decide_eq_true c38;(try have c38b2:(9223372036854775807<((a0.extract 0 (x1_8:Int).toNat)++(strOfNums y914)).size+(a0.extract (x1_8:Int).toNat a0.size).size)=False:=eq_false (Nat.not_lt.2 c38));have c38_9_:(9223372036854775807<((x1_8:Int).toNat+(strOfNums y914).size)+(a0.size-(x1_8:Int).toNat))=False:=eq_false (by have h_:=of_eq_false c38b2;simp only[ByteArray.size_append,ByteArray.size_extract]at h_;have h2_:=of_eq_true c34b0;omega);obtain rfl:=Option.some.inj H;(try go_wp2);replace HB:=aA.mk (aT HB.out);refine dG (n:=12) (S:=fun w'=>True) (ds:=[]) #[false,false,false,false,false,false,false,false,false,false,false,false] (by kernel_rfl) rfl rfl trivial (fun hHeld=>?_);refine bF bS.vR bS.sO (fun HT_ HW_=>?_);generalize wc.drew=w39 at HB hHeld⊢;refine Zq.pu 0 (some 56) (Zq.bs 12 1) ?_;refine Zq.pu 1 (some 57) (Zq.bs 12 3) ?_;refine Zq.pu 2 (some 58) (Zq.bs 12 7) ?_;refine Zq.pu 3 (some 59) (Zq.bs 12 15) ?_;refine Zq.pu 7 (some 63) (Zq.bs 12 143) ?_;refine Zq.pu 8 (some 64) (Zq.bs 12 399) ?_;refine Zq.pu 9 (some 65) (Zq.bs 12 911) ?_;refine gF (i:=4) (N:=some 60) #[true,true,true,true,true,false,false,true,true,true,false,false] rfl rfl (bZ HT_.out (by kernel_rfl)) (by decide) (fun K hK=>?_)
            refine Kd.vG (Kd.int .u8) _ 5 ?hg (N:=60) ?hd (xs:=([a3]:List Int)) (inner:=[.int .u8 a3]) (ok:=fun _=>True) (okp:=fun _=>True) ?hr ?hp (fun _ hk=>hk) trivial (Below.refl _ _) (Nat.le_refl _) (by simp) ?_;(case hd=>rfl);(case hg=>rfl);(case hr=>first|(go_simp;done)|(go_simp;rfl));(case hp=>exact(fA.one (show Kd.M (Kd.int .u8) _ _ _ a3 [.int .u8 a3]from rfl) (fA.none _ _)));intro v915 w40 ho41 hb hg_ hnew_;clear hg_ hnew_;(first|rw[<-Ny914.out]at ho41|(simp only[Int.reduceToNat]at ho41;rw[<-Ny914.out]at ho41));have HO916:=aA.mk (Kd.eU ho41 (aD Zq.bo));replace HB:=aA.mk (aC Zq.bo hb);clear hb ho41;refine hK.out _ _ trivial (fun hHeld=>?_);clear hK K;refine dO (a':=?_) ?_ ?_;rotate_left;(·show Act.put _ (some 60) _=_;simp only[Act.put,Zq.a1,Zq.a2,Zq.a3,bG,bK];rfl);refine gF (i:=5) (N:=some 61) #[true,true,true,true,true,true,false,true,true,true,false,false] rfl rfl (bZ HT_.out (by kernel_rfl)) (by decide) (fun K hK=>?_);have hcv42:=pX (P:=Tryz.prog) Tryz.underlying104 Tryz.underlying5 Tryz.underlying9 (Kd.qZ HO916.out);refine aAc (w1:=?_) (v:=?_) (by rfl) rfl ?_ ?_;rotate_left 2;(·go_simp;constructor;(·rfl);·rfl);clear hcv42;refine hK.out _ _ trivial (fun hHeld=>?_);clear hK K;refine dO (a':=?_) ?_ ?_;rotate_left;(·show Act.put _ (some 61) _=_;simp only[Act.put,Zq.a1,Zq.a2,Zq.a3,bG,bK];rfl);refine Zq.pu 6 (some 62) (Zq.bs 12 1023) ?_;refine Zq.pu 10 (some 66) (Zq.bs 12 2047) ?_;refine Zq.pu 11 (some 8) (Zq.bs 12 4095) ?_;refine eZ (bV HT_.out (by kernel_rfl)) ?_;try go_wp2
            go_ret
            exact⟨Zq.ew,Zq.bo⟩
           ·rw[if_neg c38]at H;exact absurd H (by simp)
          ·rw[if_neg c35]at H;exact absurd H (by simp)
         ·rw[if_neg c34]at H;exact absurd H (by simp)
        ·rw[if_neg c33]at H;exact absurd H (by simp)
end Go.Proofs.YtjieekkkaekclaaGreatDoor.PR
namespace Go.Proofs.YtjieekkkaekclaaGreatDoor
open Go Go.RowKit Go.Pw.PrintWords Go.Proofs.YtjieekkkaekclaaGreatDoor.PR
theorem one_num (b:Int):(strOfNums [b]).size=1:=by rw[wY,eH];rfl
theorem aA6 (s:ByteArray) (q h b:Int) (h0:0<=q) (h1:q<s.size) (hs:s.size<=1000000):∃r,EvP (fun k=>bS.j1 k s q h b) r/\r.size<=s.size+1:=by
 have w1:wrap64 (q+1)=q+1:=eT (by omega) (by omega);have n1:=one_num b;have x1:(s.extract 0 q.toNat).size<=s.size:=by rw[ByteArray.size_extract];omega
 have x2:(s.extract 0 q.toNat).size=q.toNat:=by rw[ByteArray.size_extract];omega
 have x3:(s.extract (q+1).toNat s.size).size=s.size-(q+1).toNat:=by rw[ByteArray.size_extract];omega
 have x4:(s.extract q.toNat s.size).size=s.size-q.toNat:=by rw[ByteArray.size_extract];omega
 have y1:q<=(s.size:Int):=by omega
 have y2:0<=q+1:=by omega
 have y3:q+1<=(s.size:Int):=by omega
 by_cases c0:h=0;·refine⟨((s.extract 0 q.toNat)++(strOfNums [b]))++(s.extract (q+1).toNat s.size),EvP.step (f:=fun _=>some _) (fun k=>?_) (EvP.now _),?_⟩;(·simp only[bS.j1,w1,Option.bind_some];clear w1;rw[if_pos c0,if_pos h0,if_pos y1,if_pos (by rw[n1,x2];omega),if_pos y2,if_pos y3,if_pos (by rw[ByteArray.size_append,n1,x2,x3];omega)]);·clear w1;rw[ByteArray.size_append,ByteArray.size_append,n1,x2,x3];omega
 ·by_cases c1:h=1;(·refine⟨(s.extract 0 q.toNat)++(s.extract (q+1).toNat s.size),EvP.step (f:=fun _=>some _) (fun k=>?_) (EvP.now _),?_⟩;(·simp only[bS.j1,w1,Option.bind_some];clear w1;rw[if_neg c0,if_pos c1,if_pos h0,if_pos y1,if_pos y2,if_pos y3,if_pos (by rw[x2,x3];omega)]);·clear w1;rw[ByteArray.size_append,x2,x3];omega);·refine⟨((s.extract 0 q.toNat)++(strOfNums [b]))++(s.extract q.toNat s.size),EvP.step (f:=fun _=>some _) (fun k=>?_) (EvP.now _),?_⟩;(·simp only[bS.j1,w1,Option.bind_some];clear w1;rw[if_neg c0,if_neg c1,if_pos h0,if_pos y1,if_pos (by rw[n1,x2];omega),if_pos (by rw[ByteArray.size_append,n1,x2,x4];omega)]);·clear w1;rw[ByteArray.size_append,ByteArray.size_append,n1,x2,x4];omega
theorem aA7 (s:ByteArray) (q h b:Int) (h0:0<=q) (h1:q<s.size) (hs:s.size<=1000000):∃r,EvP (fun k=>bS.j0 k s q h b) r/\r.size<=s.size+1:=by
 by_cases c:h<0;·obtain⟨r,e,hr⟩:=aA6 s q (wrap64 (h+3)) b h0 h1 hs;refine⟨r,EvP.step (fun k=>?_) e,hr⟩;simp only[bS.j0];rw[if_pos c]
 ·obtain⟨r,e,hr⟩:=aA6 s q h b h0 h1 hs;refine⟨r,EvP.step (fun k=>?_) e,hr⟩;simp only[bS.j0];rw[if_neg c]
theorem aC1 (s:ByteArray) (at_ how b:Int) (hs:s.size<=1000000):∃r,EvP (fun k=>bS.f k s at_ how b) r/\r.size<=s.size+1:=by
 unfold bS.f;by_cases h0:(s.size:Int)=0;·exact⟨_,EvP.fM h0 (EvP.now _),by rw[one_num];omega⟩
 ·(have hpos:0<(s.size:Int):=by omega);have b1:=Int.tmod_lt_of_pos at_ hpos;(have b2 : -(s.size:Int)<Int.tmod at_ s.size:=by have h1:=Int.natAbs_tmod at_ (s.size:Int);have h2:=Nat.mod_lt at_.natAbs (show(s.size:Int).natAbs>0 by omega);omega);by_cases c:Int.tmod at_ (s.size:Int)<0;(·have w1:wrap64 (Int.tmod at_ (s.size:Int)+(s.size:Int))=Int.tmod at_ (s.size:Int)+(s.size:Int):=eT (by omega) (by omega);obtain⟨r,e,hr⟩:=aA7 s (Int.tmod at_ (s.size:Int)+(s.size:Int)) (Int.tmod how 3) b (by clear w1;omega) (by clear w1;omega) hs;rw[<-w1]at e;exact⟨r,EvP.jC h0 (EvP.fM c e),hr⟩);·obtain⟨r,e,hr⟩:=aA7 s (Int.tmod at_ (s.size:Int)) (Int.tmod how 3) b (by omega) b1 hs;exact⟨r,EvP.jC h0 (EvP.jC c e),hr⟩
end Go.Proofs.YtjieekkkaekclaaGreatDoor
namespace Go.Proofs.YtjieekkkaekclaaGreatDoor.PR
open Go.RowKit Go.Pw.PrintWords Go.Pw.PrintLast Go.Pw.PrintMore
attribute [local go_sem] eG dZ fE fD dM dL eF dY
def vB.f (k:Nat) (a0:ByteArray) (a1:ByteArray):Option (Int×Int):=(jK.f k a0 a1).bind fun t917=>(if t917=0 then((jO.f k a0 a1).bind fun t918=>(some (t918,0)))else(some (0,t917)))
theorem vB.calls (k:Nat) (a0:ByteArray) (a1:ByteArray) (r1:Int) (r2:Int) (w:World) (h:vB.f k a0 a1=some (r1,r2)):
 Calls Tryz.prog 55 #[.string a0,.string a1] w fun e w'=>e = .returned (.tuple #[.int .i64 r1,.int .i64 r2])/\Below w.heap.size w w':=by
 have HB:=aA.mk (Below.refl w.heap.size w);have H:((jK.f k a0 a1).bind fun t917=>(if t917=0 then((jO.f k a0 a1).bind fun t918=>(some (t918,0)))else(some (0,t917))))=some (r1,r2):=h;clear h;obtain⟨t917,A3,H⟩:=Zq.mq H;try dsimp only at H
 by_cases c4:t917=0
 ·rw[if_pos c4]at H;have c4b0:(t917 == 0)=true:=beq_iff_eq.mpr c4;have c4b1:(t917 != 0)=false:=bne_eq_false_iff_eq.mpr c4;clear c4;obtain⟨t918,A5,H⟩:=Zq.mq H;(try dsimp only at H);simp only[Option.some.injEq,Prod.mk.injEq]at H;obtain⟨rfl,rfl⟩:=H;(go_enter Tryz.func55,Tryz.ntmps55);go_wp2_with (first|((with_reducible refine Zq.c 81 rfl ?_);refine Zq.g (some 9) Tryz.func81 #[.string a0,.string a1] ?_;(with_reducible refine(jK.calls k a0 a1 t917 _ A3.out).mono ?_);rintro e w' ⟨rfl,nd,rfl⟩;refine⟨_,rfl,?_⟩)|((with_reducible refine Zq.c 34 rfl ?_);refine Zq.g (some 15) Tryz.func34 #[.string a0,.string a1] ?_;(with_reducible refine(jO.calls k a0 a1 t918 _ A5.out).mono ?_);rintro e w6 ⟨rfl,hb⟩;refine⟨_,rfl,?_⟩;replace HB:=aA.mk (aC Zq.bo hb);(try clear hb);(try clear hb2);(try clear hk);(try clear hi)))
  go_ret2
  exact⟨Zq.ew,Zq.bo⟩
 ·rw[if_neg c4]at H;have c4b0:(t917 == 0)=false:=beq_eq_false_iff_ne.mpr c4;have c4b1:(t917 != 0)=true:=bne_iff_ne.mpr c4;simp only[Option.some.injEq,Prod.mk.injEq]at H;obtain⟨rfl,rfl⟩:=H;(go_enter Tryz.func55,Tryz.ntmps55);go_wp2_with (first|((with_reducible refine Zq.c 81 rfl ?_);refine Zq.g (some 9) Tryz.func81 #[.string a0,.string a1] ?_;(with_reducible refine(jK.calls k a0 a1 t917 _ A3.out).mono ?_);rintro e w' ⟨rfl,nd,rfl⟩;refine⟨_,rfl,?_⟩))
  go_ret2
  exact⟨Zq.ew,Zq.bo⟩
def xG.f (k:Nat) (a0:ByteArray) (a1:ByteArray):Option (ByteArray×Int):=(jK.f k a0 a1).bind fun t919=>(if t919=0 then((fG.f k a0 a1).bind fun t920=>((lW.f t920).bind fun bt921=>(some (bt921.1,bt921.2))))else(some ((⟨#[]⟩:ByteArray),t919)))
theorem xG.calls (k:Nat) (a0:ByteArray) (a1:ByteArray) (r1:ByteArray) (r2:Int) (w:World) (h:xG.f k a0 a1=some (r1,r2)):
 Calls Tryz.prog 58 #[.string a0,.string a1] w fun e w'=>e = .returned (.tuple #[.string r1,.int .i64 r2])/\Below w.heap.size w w':=by
 have HB:=aA.mk (Below.refl w.heap.size w);have H:((jK.f k a0 a1).bind fun t919=>(if t919=0 then((fG.f k a0 a1).bind fun t920=>((lW.f t920).bind fun bt921=>(some (bt921.1,bt921.2))))else(some ((⟨#[]⟩:ByteArray),t919))))=some (r1,r2):=h;clear h;obtain⟨t919,A3,H⟩:=Zq.mq H;try dsimp only at H
 by_cases c4:t919=0
 ·rw[if_pos c4]at H;have c4b0:(t919 == 0)=true:=beq_iff_eq.mpr c4;have c4b1:(t919 != 0)=false:=bne_eq_false_iff_eq.mpr c4;clear c4;obtain⟨t920,A5,H⟩:=Zq.mq H;(try dsimp only at H);replace H:=Zq.mp H;obtain⟨⟨t921,t922⟩,A60,H⟩:=H;(try dsimp only at H);have A6:=aA.mk A60;clear A60;simp only[Option.some.injEq,Prod.mk.injEq]at H;obtain⟨rfl,rfl⟩:=H;(go_enter Tryz.func58,Tryz.ntmps58);go_wp2_with (first|((with_reducible refine Zq.c 81 rfl ?_);refine Zq.g (some 9) Tryz.func81 #[.string a0,.string a1] ?_;(with_reducible refine(jK.calls k a0 a1 t919 _ A3.out).mono ?_);rintro e w' ⟨rfl,nd,rfl⟩;refine⟨_,rfl,?_⟩)|((with_reducible refine Zq.c 32 rfl ?_);refine Zq.g (some 15) Tryz.func32 #[.string a0,.string a1] ?_;(with_reducible refine(fG.calls k a0 a1 t920 _ A5.out).mono ?_);rintro e w7 ⟨rfl,hb⟩;refine⟨_,rfl,?_⟩;replace HB:=aA.mk (aC Zq.bo hb);(try clear hb);(try clear hb2);(try clear hk);(try clear hi))|((with_reducible refine Zq.c 117 rfl ?_);refine Zq.g (some 16) Tryz.func117 #[.string t920] ?_;(with_reducible refine(lW.calls t920 t921 t922 _ A6.out).mono ?_);rintro e w' ⟨rfl,nd,rfl⟩;refine⟨_,rfl,?_⟩))
  go_ret2
  exact⟨Zq.ew,Zq.bo⟩
 ·rw[if_neg c4]at H;have c4b0:(t919 == 0)=false:=beq_eq_false_iff_ne.mpr c4;have c4b1:(t919 != 0)=true:=bne_iff_ne.mpr c4;simp only[Option.some.injEq,Prod.mk.injEq]at H;obtain⟨rfl,rfl⟩:=H;(go_enter Tryz.func58,Tryz.ntmps58);go_wp2_with (first|((with_reducible refine Zq.c 81 rfl ?_);refine Zq.g (some 9) Tryz.func81 #[.string a0,.string a1] ?_;(with_reducible refine(jK.calls k a0 a1 t919 _ A3.out).mono ?_);rintro e w' ⟨rfl,nd,rfl⟩;refine⟨_,rfl,?_⟩))
  go_ret2
  exact⟨Zq.ew,Zq.bo⟩
def xD.f (k:Nat) (a0:ByteArray) (a1:ByteArray):Option (ByteArray×Int):=(jK.f k a0 a1).bind fun t923=>(if t923=0 then((iA.f k a0 a1).bind fun t924=>((lW.f t924).bind fun bt925=>(some (bt925.1,bt925.2))))else(some ((⟨#[]⟩:ByteArray),t923)))
theorem xD.calls (k:Nat) (a0:ByteArray) (a1:ByteArray) (r1:ByteArray) (r2:Int) (w:World) (h:xD.f k a0 a1=some (r1,r2)):
 Calls Tryz.prog 59 #[.string a0,.string a1] w fun e w'=>e = .returned (.tuple #[.string r1,.int .i64 r2])/\Below w.heap.size w w':=by
 have HB:=aA.mk (Below.refl w.heap.size w);have H:((jK.f k a0 a1).bind fun t923=>(if t923=0 then((iA.f k a0 a1).bind fun t924=>((lW.f t924).bind fun bt925=>(some (bt925.1,bt925.2))))else(some ((⟨#[]⟩:ByteArray),t923))))=some (r1,r2):=h;clear h;obtain⟨t923,A3,H⟩:=Zq.mq H;try dsimp only at H
 by_cases c4:t923=0
 ·rw[if_pos c4]at H;have c4b0:(t923 == 0)=true:=beq_iff_eq.mpr c4;have c4b1:(t923 != 0)=false:=bne_eq_false_iff_eq.mpr c4;clear c4;obtain⟨t924,A5,H⟩:=Zq.mq H;(try dsimp only at H);replace H:=Zq.mp H;obtain⟨⟨t925,t926⟩,A60,H⟩:=H;(try dsimp only at H);have A6:=aA.mk A60;clear A60;simp only[Option.some.injEq,Prod.mk.injEq]at H;obtain⟨rfl,rfl⟩:=H;(go_enter Tryz.func59,Tryz.ntmps59);go_wp2_with (first|((with_reducible refine Zq.c 81 rfl ?_);refine Zq.g (some 9) Tryz.func81 #[.string a0,.string a1] ?_;(with_reducible refine(jK.calls k a0 a1 t923 _ A3.out).mono ?_);rintro e w' ⟨rfl,nd,rfl⟩;refine⟨_,rfl,?_⟩)|((with_reducible refine Zq.c 83 rfl ?_);refine Zq.g (some 15) Tryz.func83 #[.string a0,.string a1] ?_;(with_reducible refine(iA.calls k a0 a1 t924 _ A5.out).mono ?_);rintro e w7 ⟨rfl,hb⟩;refine⟨_,rfl,?_⟩;replace HB:=aA.mk (aC Zq.bo hb);(try clear hb);(try clear hb2);(try clear hk);(try clear hi))|((with_reducible refine Zq.c 117 rfl ?_);refine Zq.g (some 16) Tryz.func117 #[.string t924] ?_;(with_reducible refine(lW.calls t924 t925 t926 _ A6.out).mono ?_);rintro e w' ⟨rfl,nd,rfl⟩;refine⟨_,rfl,?_⟩))
  go_ret2
  exact⟨Zq.ew,Zq.bo⟩
 ·rw[if_neg c4]at H;have c4b0:(t923 == 0)=false:=beq_eq_false_iff_ne.mpr c4;have c4b1:(t923 != 0)=true:=bne_iff_ne.mpr c4;simp only[Option.some.injEq,Prod.mk.injEq]at H;obtain⟨rfl,rfl⟩:=H;(go_enter Tryz.func59,Tryz.ntmps59);go_wp2_with (first|((with_reducible refine Zq.c 81 rfl ?_);refine Zq.g (some 9) Tryz.func81 #[.string a0,.string a1] ?_;(with_reducible refine(jK.calls k a0 a1 t923 _ A3.out).mono ?_);rintro e w' ⟨rfl,nd,rfl⟩;refine⟨_,rfl,?_⟩))
  go_ret2
  exact⟨Zq.ew,Zq.bo⟩
def xE.f (k:Nat) (a0:ByteArray) (a1:ByteArray):Option (ByteArray×Int):=(jK.f k a0 a1).bind fun t927=>(if t927=0 then((cZ.f k a0 a1).bind fun t928=>((lW.f t928).bind fun bt929=>(some (bt929.1,bt929.2))))else(some ((⟨#[]⟩:ByteArray),t927)))
theorem xE.calls (k:Nat) (a0:ByteArray) (a1:ByteArray) (r1:ByteArray) (r2:Int) (w:World) (h:xE.f k a0 a1=some (r1,r2)):
 Calls Tryz.prog 60 #[.string a0,.string a1] w fun e w'=>e = .returned (.tuple #[.string r1,.int .i64 r2])/\Below w.heap.size w w':=by
 have HB:=aA.mk (Below.refl w.heap.size w);have H:((jK.f k a0 a1).bind fun t927=>(if t927=0 then((cZ.f k a0 a1).bind fun t928=>((lW.f t928).bind fun bt929=>(some (bt929.1,bt929.2))))else(some ((⟨#[]⟩:ByteArray),t927))))=some (r1,r2):=h;clear h;obtain⟨t927,A3,H⟩:=Zq.mq H;try dsimp only at H
 by_cases c4:t927=0
 ·rw[if_pos c4]at H;have c4b0:(t927 == 0)=true:=beq_iff_eq.mpr c4;have c4b1:(t927 != 0)=false:=bne_eq_false_iff_eq.mpr c4;clear c4;obtain⟨t928,A5,H⟩:=Zq.mq H;(try dsimp only at H);replace H:=Zq.mp H;obtain⟨⟨t929,t930⟩,A60,H⟩:=H;(try dsimp only at H);have A6:=aA.mk A60;clear A60;simp only[Option.some.injEq,Prod.mk.injEq]at H;obtain⟨rfl,rfl⟩:=H;(go_enter Tryz.func60,Tryz.ntmps60);go_wp2_with (first|((with_reducible refine Zq.c 81 rfl ?_);refine Zq.g (some 9) Tryz.func81 #[.string a0,.string a1] ?_;(with_reducible refine(jK.calls k a0 a1 t927 _ A3.out).mono ?_);rintro e w' ⟨rfl,nd,rfl⟩;refine⟨_,rfl,?_⟩)|((with_reducible refine Zq.c 29 rfl ?_);refine Zq.g (some 15) Tryz.func29 #[.string a0,.string a1] ?_;(with_reducible refine(cZ.calls k a0 a1 t928 _ A5.out).mono ?_);rintro e w7 ⟨rfl,hb⟩;refine⟨_,rfl,?_⟩;replace HB:=aA.mk (aC Zq.bo hb);(try clear hb);(try clear hb2);(try clear hk);(try clear hi))|((with_reducible refine Zq.c 117 rfl ?_);refine Zq.g (some 16) Tryz.func117 #[.string t928] ?_;(with_reducible refine(lW.calls t928 t929 t930 _ A6.out).mono ?_);rintro e w' ⟨rfl,nd,rfl⟩;refine⟨_,rfl,?_⟩))
  go_ret2
  exact⟨Zq.ew,Zq.bo⟩
 ·rw[if_neg c4]at H;have c4b0:(t927 == 0)=false:=beq_eq_false_iff_ne.mpr c4;have c4b1:(t927 != 0)=true:=bne_iff_ne.mpr c4;simp only[Option.some.injEq,Prod.mk.injEq]at H;obtain⟨rfl,rfl⟩:=H;(go_enter Tryz.func60,Tryz.ntmps60);go_wp2_with (first|((with_reducible refine Zq.c 81 rfl ?_);refine Zq.g (some 9) Tryz.func81 #[.string a0,.string a1] ?_;(with_reducible refine(jK.calls k a0 a1 t927 _ A3.out).mono ?_);rintro e w' ⟨rfl,nd,rfl⟩;refine⟨_,rfl,?_⟩))
  go_ret2
  exact⟨Zq.ew,Zq.bo⟩
end Go.Proofs.YtjieekkkaekclaaGreatDoor.PR
