/- Lemmas for the claim beside this text. -/
import Derived.Test.YtjieekkkaekclaaGreatDoorZRBC
import Derived.Test.YtjieekkkaekclaaGreatDoorZRBD
import Derived.Test.YtjieekkkaekclaaGreatDoorZRBF
set_option linter.all false
set_option linter.unusedVariables false
set_option linter.unusedSimpArgs false
namespace Go.Proofs.YtjieekkkaekclaaGreatDoor.PR
open Go.RowKit Go.Proofs.YtjieekkkaekclaaGreatDoorW.PrintWords Go.Proofs.YtjieekkkaekclaaGreatDoorW.PrintLast Go.Proofs.YtjieekkkaekclaaGreatDoorW.PrintMore
attribute [local go_sem] max2_int min2_int max_two min_two max_three min_three max_four min_four
set_option linter.unusedVariables false
set_option linter.unusedSimpArgs false
mutual
def metewandlaw01_WholeRing.j0 : Nat → ByteArray → ByteArray → ByteArray → ByteArray → Bool → Option (Bool)
  | 0, _, _, _, _, _ => none
  | k + 1, x3, x4, x5, x10, x102 => if x102 = true then (some false) else ((whole_Mul.f x3 x4).bind fun bt724 => ((whole_Mul.f x4 x3).bind fun bt726 => ((whole_Mul.f x4 x5).bind fun bt728 => ((whole_Mul.f bt724.1 x5).bind fun bt730 => ((whole_Mul.f x3 bt728.1).bind fun bt732 => (if bt724.2 = 0 then (if bt726.2 = 0 then (if bt728.2 = 0 then (if bt730.2 = 0 then (if bt732.2 = 0 then (if bt724.1.toList = bt726.1.toList then (metewandlaw01_WholeRing.j1 k x3 x5 x10 bt724.1 (bt730.1.toList != bt732.1.toList)) else (metewandlaw01_WholeRing.j1 k x3 x5 x10 bt724.1 true)) else (metewandlaw01_WholeRing.j1 k x3 x5 x10 bt724.1 true)) else (metewandlaw01_WholeRing.j1 k x3 x5 x10 bt724.1 true)) else (metewandlaw01_WholeRing.j1 k x3 x5 x10 bt724.1 true)) else (metewandlaw01_WholeRing.j1 k x3 x5 x10 bt724.1 true)) else (metewandlaw01_WholeRing.j1 k x3 x5 x10 bt724.1 true)))))))
def metewandlaw01_WholeRing.j1 : Nat → ByteArray → ByteArray → ByteArray → ByteArray → Bool → Option (Bool)
  | 0, _, _, _, _, _ => none
  | k + 1, x3, x5, x10, x18, x160 => if x160 = true then (some false) else ((whole_Mul.f x3 x5).bind fun bt734 => ((whole_Mul.f x3 x10).bind fun bt736 => ((whole_Add.f x18 bt734.1).bind fun bt738 => (if bt734.2 = 0 then (if bt736.2 = 0 then (if bt738.2 = 0 then (if bt736.1.toList = bt738.1.toList then ((metewandlaw01_counted.f).bind fun t740 => (some t740)) else (some false)) else (some false)) else (some false)) else (some false)))))
end
def metewandlaw01_WholeRing.f (k : Nat) (l0 : List Int) : Option (Bool) := (metewandlaw01_three.f k l0).bind fun bt709 => ((whole_Add.f bt709.1 bt709.2.1).bind fun bt712 => ((whole_Add.f bt709.2.1 bt709.1).bind fun bt714 => ((whole_Add.f bt709.2.1 bt709.2.2).bind fun bt716 => ((whole_Add.f bt712.1 bt709.2.2).bind fun bt718 => ((whole_Add.f bt709.1 bt716.1).bind fun bt720 => ((whole_Sub.f bt712.1 bt709.2.1).bind fun bt722 => (if bt712.2 = 0 then (if bt714.2 = 0 then (if bt716.2 = 0 then (if bt718.2 = 0 then (if bt720.2 = 0 then (if bt722.2 = 0 then (if bt712.1.toList = bt714.1.toList then (if bt718.1.toList = bt720.1.toList then (metewandlaw01_WholeRing.j0 k bt709.1 bt709.2.1 bt709.2.2 bt716.1 (bt722.1.toList != bt709.1.toList)) else (metewandlaw01_WholeRing.j0 k bt709.1 bt709.2.1 bt709.2.2 bt716.1 true)) else (metewandlaw01_WholeRing.j0 k bt709.1 bt709.2.1 bt709.2.2 bt716.1 true)) else (metewandlaw01_WholeRing.j0 k bt709.1 bt709.2.1 bt709.2.2 bt716.1 true)) else (metewandlaw01_WholeRing.j0 k bt709.1 bt709.2.1 bt709.2.2 bt716.1 true)) else (metewandlaw01_WholeRing.j0 k bt709.1 bt709.2.1 bt709.2.2 bt716.1 true)) else (metewandlaw01_WholeRing.j0 k bt709.1 bt709.2.1 bt709.2.2 bt716.1 true)) else (metewandlaw01_WholeRing.j0 k bt709.1 bt709.2.1 bt709.2.2 bt716.1 true)) else (metewandlaw01_WholeRing.j0 k bt709.1 bt709.2.1 bt709.2.2 bt716.1 true))))))))
set_option maxHeartbeats 8000000 in
set_option maxRecDepth 100000 in
theorem metewandlaw01_WholeRing.calls (k : Nat) (A0 : Option Addr) (c0 : Nat) (l0 : List Int) (r : Bool) (w : World) (hr0 : Kd.C (Kd.int .i64) w A0 l0.length l0) (hc0 : l0.length ≤ c0) (hG : Gw w) (h : metewandlaw01_WholeRing.f k l0 = some r) :
    Calls Tryz.prog 10 #[.slice A0 l0.length c0] w fun e w' => e = .returned (.bool r) ∧ Below w.heap.size w w' := by
  have HG := Aside0.mk hG
  clear hG
  have HR0 := Aside0.mk hr0
  have HC0 := Aside0.mk hc0
  clear hr0 hc0
  have HB := Aside0.mk (Below.refl w.heap.size w)
  have H : ((metewandlaw01_three.f k l0).bind fun bt709 => ((whole_Add.f bt709.1 bt709.2.1).bind fun bt712 => ((whole_Add.f bt709.2.1 bt709.1).bind fun bt714 => ((whole_Add.f bt709.2.1 bt709.2.2).bind fun bt716 => ((whole_Add.f bt712.1 bt709.2.2).bind fun bt718 => ((whole_Add.f bt709.1 bt716.1).bind fun bt720 => ((whole_Sub.f bt712.1 bt709.2.1).bind fun bt722 => (if bt712.2 = 0 then (if bt714.2 = 0 then (if bt716.2 = 0 then (if bt718.2 = 0 then (if bt720.2 = 0 then (if bt722.2 = 0 then (if bt712.1.toList = bt714.1.toList then (if bt718.1.toList = bt720.1.toList then (metewandlaw01_WholeRing.j0 k bt709.1 bt709.2.1 bt709.2.2 bt716.1 (bt722.1.toList != bt709.1.toList)) else (metewandlaw01_WholeRing.j0 k bt709.1 bt709.2.1 bt709.2.2 bt716.1 true)) else (metewandlaw01_WholeRing.j0 k bt709.1 bt709.2.1 bt709.2.2 bt716.1 true)) else (metewandlaw01_WholeRing.j0 k bt709.1 bt709.2.1 bt709.2.2 bt716.1 true)) else (metewandlaw01_WholeRing.j0 k bt709.1 bt709.2.1 bt709.2.2 bt716.1 true)) else (metewandlaw01_WholeRing.j0 k bt709.1 bt709.2.1 bt709.2.2 bt716.1 true)) else (metewandlaw01_WholeRing.j0 k bt709.1 bt709.2.1 bt709.2.2 bt716.1 true)) else (metewandlaw01_WholeRing.j0 k bt709.1 bt709.2.1 bt709.2.2 bt716.1 true)) else (metewandlaw01_WholeRing.j0 k bt709.1 bt709.2.1 bt709.2.2 bt716.1 true))))))))) = some r := h
  clear h
  replace H := Option.bind_eq_some_iff.mp H
  obtain ⟨⟨t709, t710, t711⟩, A20, H⟩ := H
  replace H : ((whole_Add.f t709 t710).bind fun bt712 => ((whole_Add.f t710 t709).bind fun bt714 => ((whole_Add.f t710 t711).bind fun bt716 => ((whole_Add.f bt712.1 t711).bind fun bt718 => ((whole_Add.f t709 bt716.1).bind fun bt720 => ((whole_Sub.f bt712.1 t710).bind fun bt722 => (if bt712.2 = 0 then (if bt714.2 = 0 then (if bt716.2 = 0 then (if bt718.2 = 0 then (if bt720.2 = 0 then (if bt722.2 = 0 then (if bt712.1.toList = bt714.1.toList then (if bt718.1.toList = bt720.1.toList then (metewandlaw01_WholeRing.j0 k t709 t710 t711 bt716.1 (bt722.1.toList != t709.toList)) else (metewandlaw01_WholeRing.j0 k t709 t710 t711 bt716.1 true)) else (metewandlaw01_WholeRing.j0 k t709 t710 t711 bt716.1 true)) else (metewandlaw01_WholeRing.j0 k t709 t710 t711 bt716.1 true)) else (metewandlaw01_WholeRing.j0 k t709 t710 t711 bt716.1 true)) else (metewandlaw01_WholeRing.j0 k t709 t710 t711 bt716.1 true)) else (metewandlaw01_WholeRing.j0 k t709 t710 t711 bt716.1 true)) else (metewandlaw01_WholeRing.j0 k t709 t710 t711 bt716.1 true)) else (metewandlaw01_WholeRing.j0 k t709 t710 t711 bt716.1 true)))))))) = some r := H
  have A2 := Aside0.mk A20
  clear A20
  replace H := Option.bind_eq_some_iff.mp H
  obtain ⟨⟨t712, t713⟩, A30, H⟩ := H
  replace H : ((whole_Add.f t710 t709).bind fun bt714 => ((whole_Add.f t710 t711).bind fun bt716 => ((whole_Add.f t712 t711).bind fun bt718 => ((whole_Add.f t709 bt716.1).bind fun bt720 => ((whole_Sub.f t712 t710).bind fun bt722 => (if t713 = 0 then (if bt714.2 = 0 then (if bt716.2 = 0 then (if bt718.2 = 0 then (if bt720.2 = 0 then (if bt722.2 = 0 then (if t712.toList = bt714.1.toList then (if bt718.1.toList = bt720.1.toList then (metewandlaw01_WholeRing.j0 k t709 t710 t711 bt716.1 (bt722.1.toList != t709.toList)) else (metewandlaw01_WholeRing.j0 k t709 t710 t711 bt716.1 true)) else (metewandlaw01_WholeRing.j0 k t709 t710 t711 bt716.1 true)) else (metewandlaw01_WholeRing.j0 k t709 t710 t711 bt716.1 true)) else (metewandlaw01_WholeRing.j0 k t709 t710 t711 bt716.1 true)) else (metewandlaw01_WholeRing.j0 k t709 t710 t711 bt716.1 true)) else (metewandlaw01_WholeRing.j0 k t709 t710 t711 bt716.1 true)) else (metewandlaw01_WholeRing.j0 k t709 t710 t711 bt716.1 true)) else (metewandlaw01_WholeRing.j0 k t709 t710 t711 bt716.1 true))))))) = some r := H
  have A3 := Aside0.mk A30
  clear A30
  replace H := Option.bind_eq_some_iff.mp H
  obtain ⟨⟨t714, t715⟩, A40, H⟩ := H
  replace H : ((whole_Add.f t710 t711).bind fun bt716 => ((whole_Add.f t712 t711).bind fun bt718 => ((whole_Add.f t709 bt716.1).bind fun bt720 => ((whole_Sub.f t712 t710).bind fun bt722 => (if t713 = 0 then (if t715 = 0 then (if bt716.2 = 0 then (if bt718.2 = 0 then (if bt720.2 = 0 then (if bt722.2 = 0 then (if t712.toList = t714.toList then (if bt718.1.toList = bt720.1.toList then (metewandlaw01_WholeRing.j0 k t709 t710 t711 bt716.1 (bt722.1.toList != t709.toList)) else (metewandlaw01_WholeRing.j0 k t709 t710 t711 bt716.1 true)) else (metewandlaw01_WholeRing.j0 k t709 t710 t711 bt716.1 true)) else (metewandlaw01_WholeRing.j0 k t709 t710 t711 bt716.1 true)) else (metewandlaw01_WholeRing.j0 k t709 t710 t711 bt716.1 true)) else (metewandlaw01_WholeRing.j0 k t709 t710 t711 bt716.1 true)) else (metewandlaw01_WholeRing.j0 k t709 t710 t711 bt716.1 true)) else (metewandlaw01_WholeRing.j0 k t709 t710 t711 bt716.1 true)) else (metewandlaw01_WholeRing.j0 k t709 t710 t711 bt716.1 true)))))) = some r := H
  have A4 := Aside0.mk A40
  clear A40
  replace H := Option.bind_eq_some_iff.mp H
  obtain ⟨⟨t716, t717⟩, A50, H⟩ := H
  replace H : ((whole_Add.f t712 t711).bind fun bt718 => ((whole_Add.f t709 t716).bind fun bt720 => ((whole_Sub.f t712 t710).bind fun bt722 => (if t713 = 0 then (if t715 = 0 then (if t717 = 0 then (if bt718.2 = 0 then (if bt720.2 = 0 then (if bt722.2 = 0 then (if t712.toList = t714.toList then (if bt718.1.toList = bt720.1.toList then (metewandlaw01_WholeRing.j0 k t709 t710 t711 t716 (bt722.1.toList != t709.toList)) else (metewandlaw01_WholeRing.j0 k t709 t710 t711 t716 true)) else (metewandlaw01_WholeRing.j0 k t709 t710 t711 t716 true)) else (metewandlaw01_WholeRing.j0 k t709 t710 t711 t716 true)) else (metewandlaw01_WholeRing.j0 k t709 t710 t711 t716 true)) else (metewandlaw01_WholeRing.j0 k t709 t710 t711 t716 true)) else (metewandlaw01_WholeRing.j0 k t709 t710 t711 t716 true)) else (metewandlaw01_WholeRing.j0 k t709 t710 t711 t716 true)) else (metewandlaw01_WholeRing.j0 k t709 t710 t711 t716 true))))) = some r := H
  have A5 := Aside0.mk A50
  clear A50
  replace H := Option.bind_eq_some_iff.mp H
  obtain ⟨⟨t718, t719⟩, A60, H⟩ := H
  replace H : ((whole_Add.f t709 t716).bind fun bt720 => ((whole_Sub.f t712 t710).bind fun bt722 => (if t713 = 0 then (if t715 = 0 then (if t717 = 0 then (if t719 = 0 then (if bt720.2 = 0 then (if bt722.2 = 0 then (if t712.toList = t714.toList then (if t718.toList = bt720.1.toList then (metewandlaw01_WholeRing.j0 k t709 t710 t711 t716 (bt722.1.toList != t709.toList)) else (metewandlaw01_WholeRing.j0 k t709 t710 t711 t716 true)) else (metewandlaw01_WholeRing.j0 k t709 t710 t711 t716 true)) else (metewandlaw01_WholeRing.j0 k t709 t710 t711 t716 true)) else (metewandlaw01_WholeRing.j0 k t709 t710 t711 t716 true)) else (metewandlaw01_WholeRing.j0 k t709 t710 t711 t716 true)) else (metewandlaw01_WholeRing.j0 k t709 t710 t711 t716 true)) else (metewandlaw01_WholeRing.j0 k t709 t710 t711 t716 true)) else (metewandlaw01_WholeRing.j0 k t709 t710 t711 t716 true)))) = some r := H
  have A6 := Aside0.mk A60
  clear A60
  replace H := Option.bind_eq_some_iff.mp H
  obtain ⟨⟨t720, t721⟩, A70, H⟩ := H
  replace H : ((whole_Sub.f t712 t710).bind fun bt722 => (if t713 = 0 then (if t715 = 0 then (if t717 = 0 then (if t719 = 0 then (if t721 = 0 then (if bt722.2 = 0 then (if t712.toList = t714.toList then (if t718.toList = t720.toList then (metewandlaw01_WholeRing.j0 k t709 t710 t711 t716 (bt722.1.toList != t709.toList)) else (metewandlaw01_WholeRing.j0 k t709 t710 t711 t716 true)) else (metewandlaw01_WholeRing.j0 k t709 t710 t711 t716 true)) else (metewandlaw01_WholeRing.j0 k t709 t710 t711 t716 true)) else (metewandlaw01_WholeRing.j0 k t709 t710 t711 t716 true)) else (metewandlaw01_WholeRing.j0 k t709 t710 t711 t716 true)) else (metewandlaw01_WholeRing.j0 k t709 t710 t711 t716 true)) else (metewandlaw01_WholeRing.j0 k t709 t710 t711 t716 true)) else (metewandlaw01_WholeRing.j0 k t709 t710 t711 t716 true))) = some r := H
  have A7 := Aside0.mk A70
  clear A70
  replace H := Option.bind_eq_some_iff.mp H
  obtain ⟨⟨t722, t723⟩, A80, H⟩ := H
  replace H : (if t713 = 0 then (if t715 = 0 then (if t717 = 0 then (if t719 = 0 then (if t721 = 0 then (if t723 = 0 then (if t712.toList = t714.toList then (if t718.toList = t720.toList then (metewandlaw01_WholeRing.j0 k t709 t710 t711 t716 (t722.toList != t709.toList)) else (metewandlaw01_WholeRing.j0 k t709 t710 t711 t716 true)) else (metewandlaw01_WholeRing.j0 k t709 t710 t711 t716 true)) else (metewandlaw01_WholeRing.j0 k t709 t710 t711 t716 true)) else (metewandlaw01_WholeRing.j0 k t709 t710 t711 t716 true)) else (metewandlaw01_WholeRing.j0 k t709 t710 t711 t716 true)) else (metewandlaw01_WholeRing.j0 k t709 t710 t711 t716 true)) else (metewandlaw01_WholeRing.j0 k t709 t710 t711 t716 true)) else (metewandlaw01_WholeRing.j0 k t709 t710 t711 t716 true)) = some r := H
  have A8 := Aside0.mk A80
  clear A80
  have HC9 := Aside0.mk H
  clear H
  go_enter Tryz.func10, Tryz.ntmps10
  go_upto_region 8 with (first | ((with_reducible refine gate_callee (f := 42) rfl ?_); refine goesL_ (some 26) rfl rfl Tryz.func42 (by kernel_rfl) rfl #[.slice A0 l0.length c0] rfl (by (try simp only [List.map_toArray, List.map_cons, List.map_nil]); first | done | rfl | (simp only [List.length_drop, List.length_take]; rfl)) ?_; (with_reducible refine (metewandlaw01_three.calls k _ _ l0 t709 t710 t711 _ ?side1 ?side2 A2.out).mono ?_); (case side1 => repeat (first | exact HR0.out | (with_reducible refine Kd.C_alloc ?_ _) | (with_reducible refine Kd.C_drewN ?_ _) | (with_reducible refine Kd.C_drew ?_))); (case side2 => exact HC0.out); rintro e w10 ⟨rfl, hb⟩; refine ⟨_, rfl, ?_⟩; have n0_ := Aside0.mk (below_step (by repeat (first | (with_reducible first | exact HB.out | apply below_alloc | apply pw_below_drewN | apply below_drew1) | exact HB.out)) hb); clear HB; have HB := n0_; clear n0_; (try clear hb); (try clear hb2); (try clear hk); (try clear hi)) | ((with_reducible refine gate_callee (f := 43) rfl ?_); refine goesL_ (some 33) rfl rfl Tryz.func43 (by kernel_rfl) rfl #[.string t709, .string t710] rfl (by (try simp only [List.map_toArray, List.map_cons, List.map_nil]); first | done | rfl | (simp only [List.length_drop, List.length_take]; rfl)) ?_; (with_reducible refine (whole_Add.calls t709 t710 t712 t713 _ ?gw A3.out).mono ?_); (case gw => exact HG.out.below (by repeat (first | (with_reducible first | exact HB.out | apply below_alloc | apply pw_below_drewN | apply below_drew1) | exact HB.out))); rintro e w11 ⟨rfl, hb⟩; refine ⟨_, rfl, ?_⟩; have n0_ := Aside0.mk (below_step (by repeat (first | (with_reducible first | exact HB.out | apply below_alloc | apply pw_below_drewN | apply below_drew1) | exact HB.out)) hb); clear HB; have HB := n0_; clear n0_; (try clear hb); (try clear hb2); (try clear hk); (try clear hi)) | ((with_reducible refine gate_callee (f := 43) rfl ?_); refine goesL_ (some 39) rfl rfl Tryz.func43 (by kernel_rfl) rfl #[.string t710, .string t709] rfl (by (try simp only [List.map_toArray, List.map_cons, List.map_nil]); first | done | rfl | (simp only [List.length_drop, List.length_take]; rfl)) ?_; (with_reducible refine (whole_Add.calls t710 t709 t714 t715 _ ?gw A4.out).mono ?_); (case gw => exact HG.out.below (by repeat (first | (with_reducible first | exact HB.out | apply below_alloc | apply pw_below_drewN | apply below_drew1) | exact HB.out))); rintro e w12 ⟨rfl, hb⟩; refine ⟨_, rfl, ?_⟩; have n0_ := Aside0.mk (below_step (by repeat (first | (with_reducible first | exact HB.out | apply below_alloc | apply pw_below_drewN | apply below_drew1) | exact HB.out)) hb); clear HB; have HB := n0_; clear n0_; (try clear hb); (try clear hb2); (try clear hk); (try clear hi)) | ((with_reducible refine gate_callee (f := 43) rfl ?_); refine goesL_ (some 45) rfl rfl Tryz.func43 (by kernel_rfl) rfl #[.string t710, .string t711] rfl (by (try simp only [List.map_toArray, List.map_cons, List.map_nil]); first | done | rfl | (simp only [List.length_drop, List.length_take]; rfl)) ?_; (with_reducible refine (whole_Add.calls t710 t711 t716 t717 _ ?gw A5.out).mono ?_); (case gw => exact HG.out.below (by repeat (first | (with_reducible first | exact HB.out | apply below_alloc | apply pw_below_drewN | apply below_drew1) | exact HB.out))); rintro e w13 ⟨rfl, hb⟩; refine ⟨_, rfl, ?_⟩; have n0_ := Aside0.mk (below_step (by repeat (first | (with_reducible first | exact HB.out | apply below_alloc | apply pw_below_drewN | apply below_drew1) | exact HB.out)) hb); clear HB; have HB := n0_; clear n0_; (try clear hb); (try clear hb2); (try clear hk); (try clear hi)) | ((with_reducible refine gate_callee (f := 43) rfl ?_); refine goesL_ (some 51) rfl rfl Tryz.func43 (by kernel_rfl) rfl #[.string t712, .string t711] rfl (by (try simp only [List.map_toArray, List.map_cons, List.map_nil]); first | done | rfl | (simp only [List.length_drop, List.length_take]; rfl)) ?_; (with_reducible refine (whole_Add.calls t712 t711 t718 t719 _ ?gw A6.out).mono ?_); (case gw => exact HG.out.below (by repeat (first | (with_reducible first | exact HB.out | apply below_alloc | apply pw_below_drewN | apply below_drew1) | exact HB.out))); rintro e w14 ⟨rfl, hb⟩; refine ⟨_, rfl, ?_⟩; have n0_ := Aside0.mk (below_step (by repeat (first | (with_reducible first | exact HB.out | apply below_alloc | apply pw_below_drewN | apply below_drew1) | exact HB.out)) hb); clear HB; have HB := n0_; clear n0_; (try clear hb); (try clear hb2); (try clear hk); (try clear hi)) | ((with_reducible refine gate_callee (f := 43) rfl ?_); refine goesL_ (some 57) rfl rfl Tryz.func43 (by kernel_rfl) rfl #[.string t709, .string t716] rfl (by (try simp only [List.map_toArray, List.map_cons, List.map_nil]); first | done | rfl | (simp only [List.length_drop, List.length_take]; rfl)) ?_; (with_reducible refine (whole_Add.calls t709 t716 t720 t721 _ ?gw A7.out).mono ?_); (case gw => exact HG.out.below (by repeat (first | (with_reducible first | exact HB.out | apply below_alloc | apply pw_below_drewN | apply below_drew1) | exact HB.out))); rintro e w15 ⟨rfl, hb⟩; refine ⟨_, rfl, ?_⟩; have n0_ := Aside0.mk (below_step (by repeat (first | (with_reducible first | exact HB.out | apply below_alloc | apply pw_below_drewN | apply below_drew1) | exact HB.out)) hb); clear HB; have HB := n0_; clear n0_; (try clear hb); (try clear hb2); (try clear hk); (try clear hi)) | ((with_reducible refine gate_callee (f := 44) rfl ?_); refine goesL_ (some 63) rfl rfl Tryz.func44 (by kernel_rfl) rfl #[.string t712, .string t710] rfl (by (try simp only [List.map_toArray, List.map_cons, List.map_nil]); first | done | rfl | (simp only [List.length_drop, List.length_take]; rfl)) ?_; (with_reducible refine (whole_Sub.calls t712 t710 t722 t723 _ ?gw A8.out).mono ?_); (case gw => exact HG.out.below (by repeat (first | (with_reducible first | exact HB.out | apply below_alloc | apply pw_below_drewN | apply below_drew1) | exact HB.out))); rintro e w16 ⟨rfl, hb⟩; refine ⟨_, rfl, ?_⟩; have n0_ := Aside0.mk (below_step (by repeat (first | (with_reducible first | exact HB.out | apply below_alloc | apply pw_below_drewN | apply below_drew1) | exact HB.out)) hb); clear HB; have HB := n0_; clear n0_; (try clear hb); (try clear hb2); (try clear hk); (try clear hi)))
  (try simp only [Act.put, List.setIfInBounds_toArray, List.set_cons_zero, List.set_cons_succ])
  go_cut [102] (fun v102 wc => ∃ (kq : Nat) (x102_8 : Bool), v102 = .bool x102_8 ∧ Aside0 (metewandlaw01_WholeRing.j0 kq t709 t710 t711 t716 x102_8 = some r) ∧ Aside0 (kq ≤ k) ∧ Aside0 (Below w.heap.size w wc))
  case first =>
    have H := HC9.out
    clear HC9
    by_cases c17 : t713 = 0
    · rw [if_pos c17] at H
      have c17b0 : (t713 == 0) = true := beq_iff_eq.mpr c17
      have c17b1 : (t713 != 0) = false := bne_eq_false_iff_eq.mpr c17
      clear c17
      (first | rw [c17b0] | (simp only [i64_w, i32_w]; rw [c17b0]) | skip)
      by_cases c18 : t715 = 0
      · rw [if_pos c18] at H
        have c18b0 : (t715 == 0) = true := beq_iff_eq.mpr c18
        have c18b1 : (t715 != 0) = false := bne_eq_false_iff_eq.mpr c18
        clear c18
        by_cases c19 : t717 = 0
        · rw [if_pos c19] at H
          have c19b0 : (t717 == 0) = true := beq_iff_eq.mpr c19
          have c19b1 : (t717 != 0) = false := bne_eq_false_iff_eq.mpr c19
          clear c19
          by_cases c20 : t719 = 0
          · rw [if_pos c20] at H
            have c20b0 : (t719 == 0) = true := beq_iff_eq.mpr c20
            have c20b1 : (t719 != 0) = false := bne_eq_false_iff_eq.mpr c20
            clear c20
            by_cases c21 : t721 = 0
            · rw [if_pos c21] at H
              have c21b0 : (t721 == 0) = true := beq_iff_eq.mpr c21
              have c21b1 : (t721 != 0) = false := bne_eq_false_iff_eq.mpr c21
              clear c21
              by_cases c22 : t723 = 0
              · rw [if_pos c22] at H
                have c22b0 : (t723 == 0) = true := beq_iff_eq.mpr c22
                have c22b1 : (t723 != 0) = false := bne_eq_false_iff_eq.mpr c22
                clear c22
                by_cases c23 : t712.toList = t714.toList
                · rw [if_pos c23] at H
                  have c23b0 : (t712.toList == t714.toList) = true := beq_iff_eq.mpr c23
                  have c23b1 : (t712.toList != t714.toList) = false := bne_eq_false_iff_eq.mpr c23
                  clear c23
                  by_cases c24 : t718.toList = t720.toList
                  · rw [if_pos c24] at H
                    have c24b0 : (t718.toList == t720.toList) = true := beq_iff_eq.mpr c24
                    have c24b1 : (t718.toList != t720.toList) = false := bne_eq_false_iff_eq.mpr c24
                    clear c24
                    have H' := Aside0.mk H
                    clear H
                    go_wp2
                    go_meet
                    case rel => exact ⟨_, ((t722.toList != t709.toList)), (by first | rfl | (simp; done) | (simp [*]; done)), H', ⟨by first | omega | exact Nat.le_refl _⟩, ⟨by repeat (first | (with_reducible first | exact HB.out | apply below_alloc | apply pw_below_drewN | apply below_drew1) | exact HB.out)⟩⟩
                  · rw [if_neg c24] at H
                    have c24b0 : (t718.toList == t720.toList) = false := beq_eq_false_iff_ne.mpr c24
                    have c24b1 : (t718.toList != t720.toList) = true := bne_iff_ne.mpr c24
                    have H' := Aside0.mk H
                    clear H
                    go_wp2
                    go_meet
                    case rel => exact ⟨_, (true), (by first | rfl | (simp; done) | (simp [*]; done)), H', ⟨by first | omega | exact Nat.le_refl _⟩, ⟨by repeat (first | (with_reducible first | exact HB.out | apply below_alloc | apply pw_below_drewN | apply below_drew1) | exact HB.out)⟩⟩
                · rw [if_neg c23] at H
                  have c23b0 : (t712.toList == t714.toList) = false := beq_eq_false_iff_ne.mpr c23
                  have c23b1 : (t712.toList != t714.toList) = true := bne_iff_ne.mpr c23
                  have H' := Aside0.mk H
                  clear H
                  go_wp2
                  go_meet
                  case rel => exact ⟨_, (true), (by first | rfl | (simp; done) | (simp [*]; done)), H', ⟨by first | omega | exact Nat.le_refl _⟩, ⟨by repeat (first | (with_reducible first | exact HB.out | apply below_alloc | apply pw_below_drewN | apply below_drew1) | exact HB.out)⟩⟩
              · rw [if_neg c22] at H
                have c22b0 : (t723 == 0) = false := beq_eq_false_iff_ne.mpr c22
                have c22b1 : (t723 != 0) = true := bne_iff_ne.mpr c22
                have H' := Aside0.mk H
                clear H
                go_wp2
                go_meet
                case rel => exact ⟨_, (true), (by first | rfl | (simp; done) | (simp [*]; done)), H', ⟨by first | omega | exact Nat.le_refl _⟩, ⟨by repeat (first | (with_reducible first | exact HB.out | apply below_alloc | apply pw_below_drewN | apply below_drew1) | exact HB.out)⟩⟩
            · rw [if_neg c21] at H
              have c21b0 : (t721 == 0) = false := beq_eq_false_iff_ne.mpr c21
              have c21b1 : (t721 != 0) = true := bne_iff_ne.mpr c21
              have H' := Aside0.mk H
              clear H
              go_wp2
              go_meet
              case rel => exact ⟨_, (true), (by first | rfl | (simp; done) | (simp [*]; done)), H', ⟨by first | omega | exact Nat.le_refl _⟩, ⟨by repeat (first | (with_reducible first | exact HB.out | apply below_alloc | apply pw_below_drewN | apply below_drew1) | exact HB.out)⟩⟩
          · rw [if_neg c20] at H
            have c20b0 : (t719 == 0) = false := beq_eq_false_iff_ne.mpr c20
            have c20b1 : (t719 != 0) = true := bne_iff_ne.mpr c20
            have H' := Aside0.mk H
            clear H
            go_wp2
            go_meet
            case rel => exact ⟨_, (true), (by first | rfl | (simp; done) | (simp [*]; done)), H', ⟨by first | omega | exact Nat.le_refl _⟩, ⟨by repeat (first | (with_reducible first | exact HB.out | apply below_alloc | apply pw_below_drewN | apply below_drew1) | exact HB.out)⟩⟩
        · rw [if_neg c19] at H
          have c19b0 : (t717 == 0) = false := beq_eq_false_iff_ne.mpr c19
          have c19b1 : (t717 != 0) = true := bne_iff_ne.mpr c19
          have H' := Aside0.mk H
          clear H
          go_wp2
          go_meet
          case rel => exact ⟨_, (true), (by first | rfl | (simp; done) | (simp [*]; done)), H', ⟨by first | omega | exact Nat.le_refl _⟩, ⟨by repeat (first | (with_reducible first | exact HB.out | apply below_alloc | apply pw_below_drewN | apply below_drew1) | exact HB.out)⟩⟩
      · rw [if_neg c18] at H
        have c18b0 : (t715 == 0) = false := beq_eq_false_iff_ne.mpr c18
        have c18b1 : (t715 != 0) = true := bne_iff_ne.mpr c18
        have H' := Aside0.mk H
        clear H
        go_wp2
        go_meet
        case rel => exact ⟨_, (true), (by first | rfl | (simp; done) | (simp [*]; done)), H', ⟨by first | omega | exact Nat.le_refl _⟩, ⟨by repeat (first | (with_reducible first | exact HB.out | apply below_alloc | apply pw_below_drewN | apply below_drew1) | exact HB.out)⟩⟩
    · rw [if_neg c17] at H
      have c17b0 : (t713 == 0) = false := beq_eq_false_iff_ne.mpr c17
      have c17b1 : (t713 != 0) = true := bne_iff_ne.mpr c17
      (first | rw [c17b0] | (simp only [i64_w, i32_w]; rw [c17b0]) | skip)
      have H' := Aside0.mk H
      clear H
      go_wp2
      go_meet
      case rel => exact ⟨_, (true), (by first | rfl | (simp; done) | (simp [*]; done)), H', ⟨by first | omega | exact Nat.le_refl _⟩, ⟨by repeat (first | (with_reducible first | exact HB.out | apply below_alloc | apply pw_below_drewN | apply below_drew1) | exact HB.out)⟩⟩
  case rest =>
    clear HC9
    try clear c1
    try clear c2
    try clear p2
    try clear c4
    try clear c10
    try clear c17
    try clear c17b0
    try clear c17b1
    try clear c18
    try clear c18b0
    try clear c18b1
    try clear c19
    try clear c19b0
    try clear c19b1
    try clear c20
    try clear c20b0
    try clear c20b1
    try clear c21
    try clear c21b0
    try clear c21b1
    try clear c22
    try clear c22b0
    try clear c22b1
    try clear c23
    try clear c23b0
    try clear c23b1
    try clear c24
    try clear c24b0
    try clear c24b1
    obtain ⟨kq, x102_8, rfl, HA, HJ8, HB⟩ := hcut
    cases kq with
    | zero => exact absurd HA.out (by simp [metewandlaw01_WholeRing.j0])
    | succ kj8 =>
      have H := HA.out
      clear HA
      simp only [metewandlaw01_WholeRing.j0] at H
      by_cases c25 : x102_8 = true
      · subst c25
        have H1 : (some false) = some r := by rw [if_pos rfl] at H; exact H
        clear H
        have H := H1
        clear H1
        obtain rfl := Option.some.inj H
        go_wp2
        go_ret
        exact ⟨by first | rfl | (simp [errW_none, errW_some] <;> rfl) | (simp [*, errW_none, errW_some] <;> rfl), by repeat (first | (with_reducible first | exact HB.out | apply below_alloc | apply pw_below_drewN | apply below_drew1) | exact HB.out)⟩
      · replace c25 := Bool.eq_false_iff.mpr c25
        subst c25
        have H1 : ((whole_Mul.f t709 t710).bind fun bt724 => ((whole_Mul.f t710 t709).bind fun bt726 => ((whole_Mul.f t710 t711).bind fun bt728 => ((whole_Mul.f bt724.1 t711).bind fun bt730 => ((whole_Mul.f t709 bt728.1).bind fun bt732 => (if bt724.2 = 0 then (if bt726.2 = 0 then (if bt728.2 = 0 then (if bt730.2 = 0 then (if bt732.2 = 0 then (if bt724.1.toList = bt726.1.toList then (metewandlaw01_WholeRing.j1 kj8 t709 t711 t716 bt724.1 (bt730.1.toList != bt732.1.toList)) else (metewandlaw01_WholeRing.j1 kj8 t709 t711 t716 bt724.1 true)) else (metewandlaw01_WholeRing.j1 kj8 t709 t711 t716 bt724.1 true)) else (metewandlaw01_WholeRing.j1 kj8 t709 t711 t716 bt724.1 true)) else (metewandlaw01_WholeRing.j1 kj8 t709 t711 t716 bt724.1 true)) else (metewandlaw01_WholeRing.j1 kj8 t709 t711 t716 bt724.1 true)) else (metewandlaw01_WholeRing.j1 kj8 t709 t711 t716 bt724.1 true))))))) = some r := by rw [if_neg (show ¬ (false = true) by decide)] at H; exact H
        clear H
        have H := H1
        clear H1
        replace H := Option.bind_eq_some_iff.mp H
        obtain ⟨⟨t724, t725⟩, A260, H⟩ := H
        replace H : ((whole_Mul.f t710 t709).bind fun bt726 => ((whole_Mul.f t710 t711).bind fun bt728 => ((whole_Mul.f t724 t711).bind fun bt730 => ((whole_Mul.f t709 bt728.1).bind fun bt732 => (if t725 = 0 then (if bt726.2 = 0 then (if bt728.2 = 0 then (if bt730.2 = 0 then (if bt732.2 = 0 then (if t724.toList = bt726.1.toList then (metewandlaw01_WholeRing.j1 kj8 t709 t711 t716 t724 (bt730.1.toList != bt732.1.toList)) else (metewandlaw01_WholeRing.j1 kj8 t709 t711 t716 t724 true)) else (metewandlaw01_WholeRing.j1 kj8 t709 t711 t716 t724 true)) else (metewandlaw01_WholeRing.j1 kj8 t709 t711 t716 t724 true)) else (metewandlaw01_WholeRing.j1 kj8 t709 t711 t716 t724 true)) else (metewandlaw01_WholeRing.j1 kj8 t709 t711 t716 t724 true)) else (metewandlaw01_WholeRing.j1 kj8 t709 t711 t716 t724 true)))))) = some r := H
        have A26 := Aside0.mk A260
        clear A260
        replace H := Option.bind_eq_some_iff.mp H
        obtain ⟨⟨t726, t727⟩, A270, H⟩ := H
        replace H : ((whole_Mul.f t710 t711).bind fun bt728 => ((whole_Mul.f t724 t711).bind fun bt730 => ((whole_Mul.f t709 bt728.1).bind fun bt732 => (if t725 = 0 then (if t727 = 0 then (if bt728.2 = 0 then (if bt730.2 = 0 then (if bt732.2 = 0 then (if t724.toList = t726.toList then (metewandlaw01_WholeRing.j1 kj8 t709 t711 t716 t724 (bt730.1.toList != bt732.1.toList)) else (metewandlaw01_WholeRing.j1 kj8 t709 t711 t716 t724 true)) else (metewandlaw01_WholeRing.j1 kj8 t709 t711 t716 t724 true)) else (metewandlaw01_WholeRing.j1 kj8 t709 t711 t716 t724 true)) else (metewandlaw01_WholeRing.j1 kj8 t709 t711 t716 t724 true)) else (metewandlaw01_WholeRing.j1 kj8 t709 t711 t716 t724 true)) else (metewandlaw01_WholeRing.j1 kj8 t709 t711 t716 t724 true))))) = some r := H
        have A27 := Aside0.mk A270
        clear A270
        replace H := Option.bind_eq_some_iff.mp H
        obtain ⟨⟨t728, t729⟩, A280, H⟩ := H
        replace H : ((whole_Mul.f t724 t711).bind fun bt730 => ((whole_Mul.f t709 t728).bind fun bt732 => (if t725 = 0 then (if t727 = 0 then (if t729 = 0 then (if bt730.2 = 0 then (if bt732.2 = 0 then (if t724.toList = t726.toList then (metewandlaw01_WholeRing.j1 kj8 t709 t711 t716 t724 (bt730.1.toList != bt732.1.toList)) else (metewandlaw01_WholeRing.j1 kj8 t709 t711 t716 t724 true)) else (metewandlaw01_WholeRing.j1 kj8 t709 t711 t716 t724 true)) else (metewandlaw01_WholeRing.j1 kj8 t709 t711 t716 t724 true)) else (metewandlaw01_WholeRing.j1 kj8 t709 t711 t716 t724 true)) else (metewandlaw01_WholeRing.j1 kj8 t709 t711 t716 t724 true)) else (metewandlaw01_WholeRing.j1 kj8 t709 t711 t716 t724 true)))) = some r := H
        have A28 := Aside0.mk A280
        clear A280
        replace H := Option.bind_eq_some_iff.mp H
        obtain ⟨⟨t730, t731⟩, A290, H⟩ := H
        replace H : ((whole_Mul.f t709 t728).bind fun bt732 => (if t725 = 0 then (if t727 = 0 then (if t729 = 0 then (if t731 = 0 then (if bt732.2 = 0 then (if t724.toList = t726.toList then (metewandlaw01_WholeRing.j1 kj8 t709 t711 t716 t724 (t730.toList != bt732.1.toList)) else (metewandlaw01_WholeRing.j1 kj8 t709 t711 t716 t724 true)) else (metewandlaw01_WholeRing.j1 kj8 t709 t711 t716 t724 true)) else (metewandlaw01_WholeRing.j1 kj8 t709 t711 t716 t724 true)) else (metewandlaw01_WholeRing.j1 kj8 t709 t711 t716 t724 true)) else (metewandlaw01_WholeRing.j1 kj8 t709 t711 t716 t724 true)) else (metewandlaw01_WholeRing.j1 kj8 t709 t711 t716 t724 true))) = some r := H
        have A29 := Aside0.mk A290
        clear A290
        replace H := Option.bind_eq_some_iff.mp H
        obtain ⟨⟨t732, t733⟩, A300, H⟩ := H
        replace H : (if t725 = 0 then (if t727 = 0 then (if t729 = 0 then (if t731 = 0 then (if t733 = 0 then (if t724.toList = t726.toList then (metewandlaw01_WholeRing.j1 kj8 t709 t711 t716 t724 (t730.toList != t732.toList)) else (metewandlaw01_WholeRing.j1 kj8 t709 t711 t716 t724 true)) else (metewandlaw01_WholeRing.j1 kj8 t709 t711 t716 t724 true)) else (metewandlaw01_WholeRing.j1 kj8 t709 t711 t716 t724 true)) else (metewandlaw01_WholeRing.j1 kj8 t709 t711 t716 t724 true)) else (metewandlaw01_WholeRing.j1 kj8 t709 t711 t716 t724 true)) else (metewandlaw01_WholeRing.j1 kj8 t709 t711 t716 t724 true)) = some r := H
        have A30 := Aside0.mk A300
        clear A300
        have HC31 := Aside0.mk H
        clear H
        go_upto_region 15 with (first | ((with_reducible refine gate_callee (f := 45) rfl ?_); refine goesL_ (some 106) rfl rfl Tryz.func45 (by kernel_rfl) rfl #[.string t709, .string t710] rfl (by (try simp only [List.map_toArray, List.map_cons, List.map_nil]); first | done | rfl | (simp only [List.length_drop, List.length_take]; rfl)) ?_; (with_reducible refine (whole_Mul.calls t709 t710 t724 t725 _ ?gw A26.out).mono ?_); (case gw => exact HG.out.below (by repeat (first | (with_reducible first | exact HB.out | apply below_alloc | apply pw_below_drewN | apply below_drew1) | exact HB.out))); rintro e w32 ⟨rfl, hb⟩; refine ⟨_, rfl, ?_⟩; have n0_ := Aside0.mk (below_step (by repeat (first | (with_reducible first | exact HB.out | apply below_alloc | apply pw_below_drewN | apply below_drew1) | exact HB.out)) hb); clear HB; have HB := n0_; clear n0_; (try clear hb); (try clear hb2); (try clear hk); (try clear hi)) | ((with_reducible refine gate_callee (f := 45) rfl ?_); refine goesL_ (some 112) rfl rfl Tryz.func45 (by kernel_rfl) rfl #[.string t710, .string t709] rfl (by (try simp only [List.map_toArray, List.map_cons, List.map_nil]); first | done | rfl | (simp only [List.length_drop, List.length_take]; rfl)) ?_; (with_reducible refine (whole_Mul.calls t710 t709 t726 t727 _ ?gw A27.out).mono ?_); (case gw => exact HG.out.below (by repeat (first | (with_reducible first | exact HB.out | apply below_alloc | apply pw_below_drewN | apply below_drew1) | exact HB.out))); rintro e w33 ⟨rfl, hb⟩; refine ⟨_, rfl, ?_⟩; have n0_ := Aside0.mk (below_step (by repeat (first | (with_reducible first | exact HB.out | apply below_alloc | apply pw_below_drewN | apply below_drew1) | exact HB.out)) hb); clear HB; have HB := n0_; clear n0_; (try clear hb); (try clear hb2); (try clear hk); (try clear hi)) | ((with_reducible refine gate_callee (f := 45) rfl ?_); refine goesL_ (some 118) rfl rfl Tryz.func45 (by kernel_rfl) rfl #[.string t710, .string t711] rfl (by (try simp only [List.map_toArray, List.map_cons, List.map_nil]); first | done | rfl | (simp only [List.length_drop, List.length_take]; rfl)) ?_; (with_reducible refine (whole_Mul.calls t710 t711 t728 t729 _ ?gw A28.out).mono ?_); (case gw => exact HG.out.below (by repeat (first | (with_reducible first | exact HB.out | apply below_alloc | apply pw_below_drewN | apply below_drew1) | exact HB.out))); rintro e w34 ⟨rfl, hb⟩; refine ⟨_, rfl, ?_⟩; have n0_ := Aside0.mk (below_step (by repeat (first | (with_reducible first | exact HB.out | apply below_alloc | apply pw_below_drewN | apply below_drew1) | exact HB.out)) hb); clear HB; have HB := n0_; clear n0_; (try clear hb); (try clear hb2); (try clear hk); (try clear hi)) | ((with_reducible refine gate_callee (f := 45) rfl ?_); refine goesL_ (some 124) rfl rfl Tryz.func45 (by kernel_rfl) rfl #[.string t724, .string t711] rfl (by (try simp only [List.map_toArray, List.map_cons, List.map_nil]); first | done | rfl | (simp only [List.length_drop, List.length_take]; rfl)) ?_; (with_reducible refine (whole_Mul.calls t724 t711 t730 t731 _ ?gw A29.out).mono ?_); (case gw => exact HG.out.below (by repeat (first | (with_reducible first | exact HB.out | apply below_alloc | apply pw_below_drewN | apply below_drew1) | exact HB.out))); rintro e w35 ⟨rfl, hb⟩; refine ⟨_, rfl, ?_⟩; have n0_ := Aside0.mk (below_step (by repeat (first | (with_reducible first | exact HB.out | apply below_alloc | apply pw_below_drewN | apply below_drew1) | exact HB.out)) hb); clear HB; have HB := n0_; clear n0_; (try clear hb); (try clear hb2); (try clear hk); (try clear hi)) | ((with_reducible refine gate_callee (f := 45) rfl ?_); refine goesL_ (some 130) rfl rfl Tryz.func45 (by kernel_rfl) rfl #[.string t709, .string t728] rfl (by (try simp only [List.map_toArray, List.map_cons, List.map_nil]); first | done | rfl | (simp only [List.length_drop, List.length_take]; rfl)) ?_; (with_reducible refine (whole_Mul.calls t709 t728 t732 t733 _ ?gw A30.out).mono ?_); (case gw => exact HG.out.below (by repeat (first | (with_reducible first | exact HB.out | apply below_alloc | apply pw_below_drewN | apply below_drew1) | exact HB.out))); rintro e w36 ⟨rfl, hb⟩; refine ⟨_, rfl, ?_⟩; have n0_ := Aside0.mk (below_step (by repeat (first | (with_reducible first | exact HB.out | apply below_alloc | apply pw_below_drewN | apply below_drew1) | exact HB.out)) hb); clear HB; have HB := n0_; clear n0_; (try clear hb); (try clear hb2); (try clear hk); (try clear hi)))
        (try simp only [Act.put, List.setIfInBounds_toArray, List.set_cons_zero, List.set_cons_succ])
        go_cut [160] (fun v160 wc => ∃ (kq : Nat) (x160_30 : Bool), v160 = .bool x160_30 ∧ Aside0 (metewandlaw01_WholeRing.j1 kq t709 t711 t716 t724 x160_30 = some r) ∧ Aside0 (kq ≤ kj8) ∧ Aside0 (Below w.heap.size w wc))
        case first =>
          have H := HC31.out
          clear HC31
          by_cases c37 : t725 = 0
          · rw [if_pos c37] at H
            have c37b0 : (t725 == 0) = true := beq_iff_eq.mpr c37
            have c37b1 : (t725 != 0) = false := bne_eq_false_iff_eq.mpr c37
            clear c37
            (first | rw [c37b0] | (simp only [i64_w, i32_w]; rw [c37b0]) | skip)
            by_cases c38 : t727 = 0
            · rw [if_pos c38] at H
              have c38b0 : (t727 == 0) = true := beq_iff_eq.mpr c38
              have c38b1 : (t727 != 0) = false := bne_eq_false_iff_eq.mpr c38
              clear c38
              by_cases c39 : t729 = 0
              · rw [if_pos c39] at H
                have c39b0 : (t729 == 0) = true := beq_iff_eq.mpr c39
                have c39b1 : (t729 != 0) = false := bne_eq_false_iff_eq.mpr c39
                clear c39
                by_cases c40 : t731 = 0
                · rw [if_pos c40] at H
                  have c40b0 : (t731 == 0) = true := beq_iff_eq.mpr c40
                  have c40b1 : (t731 != 0) = false := bne_eq_false_iff_eq.mpr c40
                  clear c40
                  by_cases c41 : t733 = 0
                  · rw [if_pos c41] at H
                    have c41b0 : (t733 == 0) = true := beq_iff_eq.mpr c41
                    have c41b1 : (t733 != 0) = false := bne_eq_false_iff_eq.mpr c41
                    clear c41
                    by_cases c42 : t724.toList = t726.toList
                    · rw [if_pos c42] at H
                      have c42b0 : (t724.toList == t726.toList) = true := beq_iff_eq.mpr c42
                      have c42b1 : (t724.toList != t726.toList) = false := bne_eq_false_iff_eq.mpr c42
                      clear c42
                      have H' := Aside0.mk H
                      clear H
                      go_wp2
                      go_meet
                      case rel => exact ⟨_, ((t730.toList != t732.toList)), (by first | rfl | (simp; done) | (simp [*]; done)), H', ⟨by have := HJ8.out; first | omega | exact Nat.le_refl _⟩, ⟨by repeat (first | (with_reducible first | exact HB.out | apply below_alloc | apply pw_below_drewN | apply below_drew1) | exact HB.out)⟩⟩
                    · rw [if_neg c42] at H
                      have c42b0 : (t724.toList == t726.toList) = false := beq_eq_false_iff_ne.mpr c42
                      have c42b1 : (t724.toList != t726.toList) = true := bne_iff_ne.mpr c42
                      have H' := Aside0.mk H
                      clear H
                      go_wp2
                      go_meet
                      case rel => exact ⟨_, (true), (by first | rfl | (simp; done) | (simp [*]; done)), H', ⟨by have := HJ8.out; first | omega | exact Nat.le_refl _⟩, ⟨by repeat (first | (with_reducible first | exact HB.out | apply below_alloc | apply pw_below_drewN | apply below_drew1) | exact HB.out)⟩⟩
                  · rw [if_neg c41] at H
                    have c41b0 : (t733 == 0) = false := beq_eq_false_iff_ne.mpr c41
                    have c41b1 : (t733 != 0) = true := bne_iff_ne.mpr c41
                    have H' := Aside0.mk H
                    clear H
                    go_wp2
                    go_meet
                    case rel => exact ⟨_, (true), (by first | rfl | (simp; done) | (simp [*]; done)), H', ⟨by have := HJ8.out; first | omega | exact Nat.le_refl _⟩, ⟨by repeat (first | (with_reducible first | exact HB.out | apply below_alloc | apply pw_below_drewN | apply below_drew1) | exact HB.out)⟩⟩
                · rw [if_neg c40] at H
                  have c40b0 : (t731 == 0) = false := beq_eq_false_iff_ne.mpr c40
                  have c40b1 : (t731 != 0) = true := bne_iff_ne.mpr c40
                  have H' := Aside0.mk H
                  clear H
                  go_wp2
                  go_meet
                  case rel => exact ⟨_, (true), (by first | rfl | (simp; done) | (simp [*]; done)), H', ⟨by have := HJ8.out; first | omega | exact Nat.le_refl _⟩, ⟨by repeat (first | (with_reducible first | exact HB.out | apply below_alloc | apply pw_below_drewN | apply below_drew1) | exact HB.out)⟩⟩
              · rw [if_neg c39] at H
                have c39b0 : (t729 == 0) = false := beq_eq_false_iff_ne.mpr c39
                have c39b1 : (t729 != 0) = true := bne_iff_ne.mpr c39
                have H' := Aside0.mk H
                clear H
                go_wp2
                go_meet
                case rel => exact ⟨_, (true), (by first | rfl | (simp; done) | (simp [*]; done)), H', ⟨by have := HJ8.out; first | omega | exact Nat.le_refl _⟩, ⟨by repeat (first | (with_reducible first | exact HB.out | apply below_alloc | apply pw_below_drewN | apply below_drew1) | exact HB.out)⟩⟩
            · rw [if_neg c38] at H
              have c38b0 : (t727 == 0) = false := beq_eq_false_iff_ne.mpr c38
              have c38b1 : (t727 != 0) = true := bne_iff_ne.mpr c38
              have H' := Aside0.mk H
              clear H
              go_wp2
              go_meet
              case rel => exact ⟨_, (true), (by first | rfl | (simp; done) | (simp [*]; done)), H', ⟨by have := HJ8.out; first | omega | exact Nat.le_refl _⟩, ⟨by repeat (first | (with_reducible first | exact HB.out | apply below_alloc | apply pw_below_drewN | apply below_drew1) | exact HB.out)⟩⟩
          · rw [if_neg c37] at H
            have c37b0 : (t725 == 0) = false := beq_eq_false_iff_ne.mpr c37
            have c37b1 : (t725 != 0) = true := bne_iff_ne.mpr c37
            (first | rw [c37b0] | (simp only [i64_w, i32_w]; rw [c37b0]) | skip)
            have H' := Aside0.mk H
            clear H
            go_wp2
            go_meet
            case rel => exact ⟨_, (true), (by first | rfl | (simp; done) | (simp [*]; done)), H', ⟨by have := HJ8.out; first | omega | exact Nat.le_refl _⟩, ⟨by repeat (first | (with_reducible first | exact HB.out | apply below_alloc | apply pw_below_drewN | apply below_drew1) | exact HB.out)⟩⟩
        case rest =>
          clear HC31
          try clear c1
          try clear c2
          try clear p2
          try clear c3
          try clear c4
          try clear c10
          try clear c17
          try clear c17b0
          try clear c17b1
          try clear c18
          try clear c18b0
          try clear c18b1
          try clear c19
          try clear c19b0
          try clear c19b1
          try clear c20
          try clear c20b0
          try clear c20b1
          try clear c21
          try clear c21b0
          try clear c21b1
          try clear c22
          try clear c22b0
          try clear c22b1
          try clear c23
          try clear c23b0
          try clear c23b1
          try clear c24
          try clear c24b0
          try clear c24b1
          try clear c25
          try clear c37
          try clear c37b0
          try clear c37b1
          try clear c38
          try clear c38b0
          try clear c38b1
          try clear c39
          try clear c39b0
          try clear c39b1
          try clear c40
          try clear c40b0
          try clear c40b1
          try clear c41
          try clear c41b0
          try clear c41b1
          try clear c42
          try clear c42b0
          try clear c42b1
          try clear p2
          obtain ⟨kq, x160_30, rfl, HA, HJ30, HB⟩ := hcut
          cases kq with
          | zero => exact absurd HA.out (by simp [metewandlaw01_WholeRing.j1])
          | succ kj30 =>
            have H := HA.out
            clear HA
            simp only [metewandlaw01_WholeRing.j1] at H
            by_cases c43 : x160_30 = true
            · subst c43
              have H1 : (some false) = some r := by rw [if_pos rfl] at H; exact H
              clear H
              have H := H1
              clear H1
              obtain rfl := Option.some.inj H
              go_wp2
              go_ret
              exact ⟨by first | rfl | (simp [errW_none, errW_some] <;> rfl) | (simp [*, errW_none, errW_some] <;> rfl), by repeat (first | (with_reducible first | exact HB.out | apply below_alloc | apply pw_below_drewN | apply below_drew1) | exact HB.out)⟩
            · replace c43 := Bool.eq_false_iff.mpr c43
              subst c43
              have H1 : ((whole_Mul.f t709 t711).bind fun bt734 => ((whole_Mul.f t709 t716).bind fun bt736 => ((whole_Add.f t724 bt734.1).bind fun bt738 => (if bt734.2 = 0 then (if bt736.2 = 0 then (if bt738.2 = 0 then (if bt736.1.toList = bt738.1.toList then ((metewandlaw01_counted.f).bind fun t740 => (some t740)) else (some false)) else (some false)) else (some false)) else (some false))))) = some r := by rw [if_neg (show ¬ (false = true) by decide)] at H; exact H
              clear H
              have H := H1
              clear H1
              replace H := Option.bind_eq_some_iff.mp H
              obtain ⟨⟨t734, t735⟩, A440, H⟩ := H
              replace H : ((whole_Mul.f t709 t716).bind fun bt736 => ((whole_Add.f t724 t734).bind fun bt738 => (if t735 = 0 then (if bt736.2 = 0 then (if bt738.2 = 0 then (if bt736.1.toList = bt738.1.toList then ((metewandlaw01_counted.f).bind fun t740 => (some t740)) else (some false)) else (some false)) else (some false)) else (some false)))) = some r := H
              have A44 := Aside0.mk A440
              clear A440
              replace H := Option.bind_eq_some_iff.mp H
              obtain ⟨⟨t736, t737⟩, A450, H⟩ := H
              replace H : ((whole_Add.f t724 t734).bind fun bt738 => (if t735 = 0 then (if t737 = 0 then (if bt738.2 = 0 then (if t736.toList = bt738.1.toList then ((metewandlaw01_counted.f).bind fun t740 => (some t740)) else (some false)) else (some false)) else (some false)) else (some false))) = some r := H
              have A45 := Aside0.mk A450
              clear A450
              replace H := Option.bind_eq_some_iff.mp H
              obtain ⟨⟨t738, t739⟩, A460, H⟩ := H
              replace H : (if t735 = 0 then (if t737 = 0 then (if t739 = 0 then (if t736.toList = t738.toList then ((metewandlaw01_counted.f).bind fun t740 => (some t740)) else (some false)) else (some false)) else (some false)) else (some false)) = some r := H
              have A46 := Aside0.mk A460
              clear A460
              by_cases c47 : t735 = 0
              · rw [if_pos c47] at H
                have c47b0 : (t735 == 0) = true := beq_iff_eq.mpr c47
                have c47b1 : (t735 != 0) = false := bne_eq_false_iff_eq.mpr c47
                clear c47
                by_cases c48 : t737 = 0
                · rw [if_pos c48] at H
                  have c48b0 : (t737 == 0) = true := beq_iff_eq.mpr c48
                  have c48b1 : (t737 != 0) = false := bne_eq_false_iff_eq.mpr c48
                  clear c48
                  by_cases c49 : t739 = 0
                  · rw [if_pos c49] at H
                    have c49b0 : (t739 == 0) = true := beq_iff_eq.mpr c49
                    have c49b1 : (t739 != 0) = false := bne_eq_false_iff_eq.mpr c49
                    clear c49
                    by_cases c50 : t736.toList = t738.toList
                    · rw [if_pos c50] at H
                      have c50b0 : (t736.toList == t738.toList) = true := beq_iff_eq.mpr c50
                      have c50b1 : (t736.toList != t738.toList) = false := bne_eq_false_iff_eq.mpr c50
                      clear c50
                      replace H := Option.bind_eq_some_iff.mp H
                      obtain ⟨t740, A510, H⟩ := H
                      replace H : (some t740) = some r := H
                      have A51 := Aside0.mk A510
                      clear A510
                      obtain rfl := Option.some.inj H
                      go_wp2_with (first | ((with_reducible refine gate_callee (f := 45) rfl ?_); refine goesL_ (some 164) rfl rfl Tryz.func45 (by kernel_rfl) rfl #[.string t709, .string t711] rfl (by (try simp only [List.map_toArray, List.map_cons, List.map_nil]); first | done | rfl | (simp only [List.length_drop, List.length_take]; rfl)) ?_; (with_reducible refine (whole_Mul.calls t709 t711 t734 t735 _ ?gw A44.out).mono ?_); (case gw => exact HG.out.below (by repeat (first | (with_reducible first | exact HB.out | apply below_alloc | apply pw_below_drewN | apply below_drew1) | exact HB.out))); rintro e w52 ⟨rfl, hb⟩; refine ⟨_, rfl, ?_⟩; have n0_ := Aside0.mk (below_step (by repeat (first | (with_reducible first | exact HB.out | apply below_alloc | apply pw_below_drewN | apply below_drew1) | exact HB.out)) hb); clear HB; have HB := n0_; clear n0_; (try clear hb); (try clear hb2); (try clear hk); (try clear hi)) | ((with_reducible refine gate_callee (f := 45) rfl ?_); refine goesL_ (some 170) rfl rfl Tryz.func45 (by kernel_rfl) rfl #[.string t709, .string t716] rfl (by (try simp only [List.map_toArray, List.map_cons, List.map_nil]); first | done | rfl | (simp only [List.length_drop, List.length_take]; rfl)) ?_; (with_reducible refine (whole_Mul.calls t709 t716 t736 t737 _ ?gw A45.out).mono ?_); (case gw => exact HG.out.below (by repeat (first | (with_reducible first | exact HB.out | apply below_alloc | apply pw_below_drewN | apply below_drew1) | exact HB.out))); rintro e w53 ⟨rfl, hb⟩; refine ⟨_, rfl, ?_⟩; have n0_ := Aside0.mk (below_step (by repeat (first | (with_reducible first | exact HB.out | apply below_alloc | apply pw_below_drewN | apply below_drew1) | exact HB.out)) hb); clear HB; have HB := n0_; clear n0_; (try clear hb); (try clear hb2); (try clear hk); (try clear hi)) | ((with_reducible refine gate_callee (f := 43) rfl ?_); refine goesL_ (some 176) rfl rfl Tryz.func43 (by kernel_rfl) rfl #[.string t724, .string t734] rfl (by (try simp only [List.map_toArray, List.map_cons, List.map_nil]); first | done | rfl | (simp only [List.length_drop, List.length_take]; rfl)) ?_; (with_reducible refine (whole_Add.calls t724 t734 t738 t739 _ ?gw A46.out).mono ?_); (case gw => exact HG.out.below (by repeat (first | (with_reducible first | exact HB.out | apply below_alloc | apply pw_below_drewN | apply below_drew1) | exact HB.out))); rintro e w54 ⟨rfl, hb⟩; refine ⟨_, rfl, ?_⟩; have n0_ := Aside0.mk (below_step (by repeat (first | (with_reducible first | exact HB.out | apply below_alloc | apply pw_below_drewN | apply below_drew1) | exact HB.out)) hb); clear HB; have HB := n0_; clear n0_; (try clear hb); (try clear hb2); (try clear hk); (try clear hi)) | (go_at_call 18; (with_reducible refine (metewandlaw01_counted.calls  t740 _ ?gw A51.out).mono ?_); (case gw => exact HG.out.below (by repeat (first | (with_reducible first | exact HB.out | apply below_alloc | apply pw_below_drewN | apply below_drew1) | exact HB.out))); rintro e w55 ⟨rfl, hb⟩; have n0_ := Aside0.mk (below_step (by repeat (first | (with_reducible first | exact HB.out | apply below_alloc | apply pw_below_drewN | apply below_drew1) | exact HB.out)) hb); clear HB; have HB := n0_; clear n0_; (try clear hb); (try clear hb2); (try clear hk); (try clear hi)))
                      go_ret
                      exact ⟨by first | rfl | (simp [errW_none, errW_some] <;> rfl) | (simp [*, errW_none, errW_some] <;> rfl), by repeat (first | (with_reducible first | exact HB.out | apply below_alloc | apply pw_below_drewN | apply below_drew1) | exact HB.out)⟩
                    · rw [if_neg c50] at H
                      have c50b0 : (t736.toList == t738.toList) = false := beq_eq_false_iff_ne.mpr c50
                      have c50b1 : (t736.toList != t738.toList) = true := bne_iff_ne.mpr c50
                      obtain rfl := Option.some.inj H
                      go_wp2_with (first | ((with_reducible refine gate_callee (f := 45) rfl ?_); refine goesL_ (some 164) rfl rfl Tryz.func45 (by kernel_rfl) rfl #[.string t709, .string t711] rfl (by (try simp only [List.map_toArray, List.map_cons, List.map_nil]); first | done | rfl | (simp only [List.length_drop, List.length_take]; rfl)) ?_; (with_reducible refine (whole_Mul.calls t709 t711 t734 t735 _ ?gw A44.out).mono ?_); (case gw => exact HG.out.below (by repeat (first | (with_reducible first | exact HB.out | apply below_alloc | apply pw_below_drewN | apply below_drew1) | exact HB.out))); rintro e w56 ⟨rfl, hb⟩; refine ⟨_, rfl, ?_⟩; have n0_ := Aside0.mk (below_step (by repeat (first | (with_reducible first | exact HB.out | apply below_alloc | apply pw_below_drewN | apply below_drew1) | exact HB.out)) hb); clear HB; have HB := n0_; clear n0_; (try clear hb); (try clear hb2); (try clear hk); (try clear hi)) | ((with_reducible refine gate_callee (f := 45) rfl ?_); refine goesL_ (some 170) rfl rfl Tryz.func45 (by kernel_rfl) rfl #[.string t709, .string t716] rfl (by (try simp only [List.map_toArray, List.map_cons, List.map_nil]); first | done | rfl | (simp only [List.length_drop, List.length_take]; rfl)) ?_; (with_reducible refine (whole_Mul.calls t709 t716 t736 t737 _ ?gw A45.out).mono ?_); (case gw => exact HG.out.below (by repeat (first | (with_reducible first | exact HB.out | apply below_alloc | apply pw_below_drewN | apply below_drew1) | exact HB.out))); rintro e w57 ⟨rfl, hb⟩; refine ⟨_, rfl, ?_⟩; have n0_ := Aside0.mk (below_step (by repeat (first | (with_reducible first | exact HB.out | apply below_alloc | apply pw_below_drewN | apply below_drew1) | exact HB.out)) hb); clear HB; have HB := n0_; clear n0_; (try clear hb); (try clear hb2); (try clear hk); (try clear hi)) | ((with_reducible refine gate_callee (f := 43) rfl ?_); refine goesL_ (some 176) rfl rfl Tryz.func43 (by kernel_rfl) rfl #[.string t724, .string t734] rfl (by (try simp only [List.map_toArray, List.map_cons, List.map_nil]); first | done | rfl | (simp only [List.length_drop, List.length_take]; rfl)) ?_; (with_reducible refine (whole_Add.calls t724 t734 t738 t739 _ ?gw A46.out).mono ?_); (case gw => exact HG.out.below (by repeat (first | (with_reducible first | exact HB.out | apply below_alloc | apply pw_below_drewN | apply below_drew1) | exact HB.out))); rintro e w58 ⟨rfl, hb⟩; refine ⟨_, rfl, ?_⟩; have n0_ := Aside0.mk (below_step (by repeat (first | (with_reducible first | exact HB.out | apply below_alloc | apply pw_below_drewN | apply below_drew1) | exact HB.out)) hb); clear HB; have HB := n0_; clear n0_; (try clear hb); (try clear hb2); (try clear hk); (try clear hi)))
                      go_ret
                      exact ⟨by first | rfl | (simp [errW_none, errW_some] <;> rfl) | (simp [*, errW_none, errW_some] <;> rfl), by repeat (first | (with_reducible first | exact HB.out | apply below_alloc | apply pw_below_drewN | apply below_drew1) | exact HB.out)⟩
                  · rw [if_neg c49] at H
                    have c49b0 : (t739 == 0) = false := beq_eq_false_iff_ne.mpr c49
                    have c49b1 : (t739 != 0) = true := bne_iff_ne.mpr c49
                    obtain rfl := Option.some.inj H
                    go_wp2_with (first | ((with_reducible refine gate_callee (f := 45) rfl ?_); refine goesL_ (some 164) rfl rfl Tryz.func45 (by kernel_rfl) rfl #[.string t709, .string t711] rfl (by (try simp only [List.map_toArray, List.map_cons, List.map_nil]); first | done | rfl | (simp only [List.length_drop, List.length_take]; rfl)) ?_; (with_reducible refine (whole_Mul.calls t709 t711 t734 t735 _ ?gw A44.out).mono ?_); (case gw => exact HG.out.below (by repeat (first | (with_reducible first | exact HB.out | apply below_alloc | apply pw_below_drewN | apply below_drew1) | exact HB.out))); rintro e w59 ⟨rfl, hb⟩; refine ⟨_, rfl, ?_⟩; have n0_ := Aside0.mk (below_step (by repeat (first | (with_reducible first | exact HB.out | apply below_alloc | apply pw_below_drewN | apply below_drew1) | exact HB.out)) hb); clear HB; have HB := n0_; clear n0_; (try clear hb); (try clear hb2); (try clear hk); (try clear hi)) | ((with_reducible refine gate_callee (f := 45) rfl ?_); refine goesL_ (some 170) rfl rfl Tryz.func45 (by kernel_rfl) rfl #[.string t709, .string t716] rfl (by (try simp only [List.map_toArray, List.map_cons, List.map_nil]); first | done | rfl | (simp only [List.length_drop, List.length_take]; rfl)) ?_; (with_reducible refine (whole_Mul.calls t709 t716 t736 t737 _ ?gw A45.out).mono ?_); (case gw => exact HG.out.below (by repeat (first | (with_reducible first | exact HB.out | apply below_alloc | apply pw_below_drewN | apply below_drew1) | exact HB.out))); rintro e w60 ⟨rfl, hb⟩; refine ⟨_, rfl, ?_⟩; have n0_ := Aside0.mk (below_step (by repeat (first | (with_reducible first | exact HB.out | apply below_alloc | apply pw_below_drewN | apply below_drew1) | exact HB.out)) hb); clear HB; have HB := n0_; clear n0_; (try clear hb); (try clear hb2); (try clear hk); (try clear hi)) | ((with_reducible refine gate_callee (f := 43) rfl ?_); refine goesL_ (some 176) rfl rfl Tryz.func43 (by kernel_rfl) rfl #[.string t724, .string t734] rfl (by (try simp only [List.map_toArray, List.map_cons, List.map_nil]); first | done | rfl | (simp only [List.length_drop, List.length_take]; rfl)) ?_; (with_reducible refine (whole_Add.calls t724 t734 t738 t739 _ ?gw A46.out).mono ?_); (case gw => exact HG.out.below (by repeat (first | (with_reducible first | exact HB.out | apply below_alloc | apply pw_below_drewN | apply below_drew1) | exact HB.out))); rintro e w61 ⟨rfl, hb⟩; refine ⟨_, rfl, ?_⟩; have n0_ := Aside0.mk (below_step (by repeat (first | (with_reducible first | exact HB.out | apply below_alloc | apply pw_below_drewN | apply below_drew1) | exact HB.out)) hb); clear HB; have HB := n0_; clear n0_; (try clear hb); (try clear hb2); (try clear hk); (try clear hi)))
                    go_ret
                    exact ⟨by first | rfl | (simp [errW_none, errW_some] <;> rfl) | (simp [*, errW_none, errW_some] <;> rfl), by repeat (first | (with_reducible first | exact HB.out | apply below_alloc | apply pw_below_drewN | apply below_drew1) | exact HB.out)⟩
                · rw [if_neg c48] at H
                  have c48b0 : (t737 == 0) = false := beq_eq_false_iff_ne.mpr c48
                  have c48b1 : (t737 != 0) = true := bne_iff_ne.mpr c48
                  obtain rfl := Option.some.inj H
                  go_wp2_with (first | ((with_reducible refine gate_callee (f := 45) rfl ?_); refine goesL_ (some 164) rfl rfl Tryz.func45 (by kernel_rfl) rfl #[.string t709, .string t711] rfl (by (try simp only [List.map_toArray, List.map_cons, List.map_nil]); first | done | rfl | (simp only [List.length_drop, List.length_take]; rfl)) ?_; (with_reducible refine (whole_Mul.calls t709 t711 t734 t735 _ ?gw A44.out).mono ?_); (case gw => exact HG.out.below (by repeat (first | (with_reducible first | exact HB.out | apply below_alloc | apply pw_below_drewN | apply below_drew1) | exact HB.out))); rintro e w62 ⟨rfl, hb⟩; refine ⟨_, rfl, ?_⟩; have n0_ := Aside0.mk (below_step (by repeat (first | (with_reducible first | exact HB.out | apply below_alloc | apply pw_below_drewN | apply below_drew1) | exact HB.out)) hb); clear HB; have HB := n0_; clear n0_; (try clear hb); (try clear hb2); (try clear hk); (try clear hi)) | ((with_reducible refine gate_callee (f := 45) rfl ?_); refine goesL_ (some 170) rfl rfl Tryz.func45 (by kernel_rfl) rfl #[.string t709, .string t716] rfl (by (try simp only [List.map_toArray, List.map_cons, List.map_nil]); first | done | rfl | (simp only [List.length_drop, List.length_take]; rfl)) ?_; (with_reducible refine (whole_Mul.calls t709 t716 t736 t737 _ ?gw A45.out).mono ?_); (case gw => exact HG.out.below (by repeat (first | (with_reducible first | exact HB.out | apply below_alloc | apply pw_below_drewN | apply below_drew1) | exact HB.out))); rintro e w63 ⟨rfl, hb⟩; refine ⟨_, rfl, ?_⟩; have n0_ := Aside0.mk (below_step (by repeat (first | (with_reducible first | exact HB.out | apply below_alloc | apply pw_below_drewN | apply below_drew1) | exact HB.out)) hb); clear HB; have HB := n0_; clear n0_; (try clear hb); (try clear hb2); (try clear hk); (try clear hi)) | ((with_reducible refine gate_callee (f := 43) rfl ?_); refine goesL_ (some 176) rfl rfl Tryz.func43 (by kernel_rfl) rfl #[.string t724, .string t734] rfl (by (try simp only [List.map_toArray, List.map_cons, List.map_nil]); first | done | rfl | (simp only [List.length_drop, List.length_take]; rfl)) ?_; (with_reducible refine (whole_Add.calls t724 t734 t738 t739 _ ?gw A46.out).mono ?_); (case gw => exact HG.out.below (by repeat (first | (with_reducible first | exact HB.out | apply below_alloc | apply pw_below_drewN | apply below_drew1) | exact HB.out))); rintro e w64 ⟨rfl, hb⟩; refine ⟨_, rfl, ?_⟩; have n0_ := Aside0.mk (below_step (by repeat (first | (with_reducible first | exact HB.out | apply below_alloc | apply pw_below_drewN | apply below_drew1) | exact HB.out)) hb); clear HB; have HB := n0_; clear n0_; (try clear hb); (try clear hb2); (try clear hk); (try clear hi)))
                  go_ret
                  exact ⟨by first | rfl | (simp [errW_none, errW_some] <;> rfl) | (simp [*, errW_none, errW_some] <;> rfl), by repeat (first | (with_reducible first | exact HB.out | apply below_alloc | apply pw_below_drewN | apply below_drew1) | exact HB.out)⟩
              · rw [if_neg c47] at H
                have c47b0 : (t735 == 0) = false := beq_eq_false_iff_ne.mpr c47
                have c47b1 : (t735 != 0) = true := bne_iff_ne.mpr c47
                obtain rfl := Option.some.inj H
                go_wp2_with (first | ((with_reducible refine gate_callee (f := 45) rfl ?_); refine goesL_ (some 164) rfl rfl Tryz.func45 (by kernel_rfl) rfl #[.string t709, .string t711] rfl (by (try simp only [List.map_toArray, List.map_cons, List.map_nil]); first | done | rfl | (simp only [List.length_drop, List.length_take]; rfl)) ?_; (with_reducible refine (whole_Mul.calls t709 t711 t734 t735 _ ?gw A44.out).mono ?_); (case gw => exact HG.out.below (by repeat (first | (with_reducible first | exact HB.out | apply below_alloc | apply pw_below_drewN | apply below_drew1) | exact HB.out))); rintro e w65 ⟨rfl, hb⟩; refine ⟨_, rfl, ?_⟩; have n0_ := Aside0.mk (below_step (by repeat (first | (with_reducible first | exact HB.out | apply below_alloc | apply pw_below_drewN | apply below_drew1) | exact HB.out)) hb); clear HB; have HB := n0_; clear n0_; (try clear hb); (try clear hb2); (try clear hk); (try clear hi)) | ((with_reducible refine gate_callee (f := 45) rfl ?_); refine goesL_ (some 170) rfl rfl Tryz.func45 (by kernel_rfl) rfl #[.string t709, .string t716] rfl (by (try simp only [List.map_toArray, List.map_cons, List.map_nil]); first | done | rfl | (simp only [List.length_drop, List.length_take]; rfl)) ?_; (with_reducible refine (whole_Mul.calls t709 t716 t736 t737 _ ?gw A45.out).mono ?_); (case gw => exact HG.out.below (by repeat (first | (with_reducible first | exact HB.out | apply below_alloc | apply pw_below_drewN | apply below_drew1) | exact HB.out))); rintro e w66 ⟨rfl, hb⟩; refine ⟨_, rfl, ?_⟩; have n0_ := Aside0.mk (below_step (by repeat (first | (with_reducible first | exact HB.out | apply below_alloc | apply pw_below_drewN | apply below_drew1) | exact HB.out)) hb); clear HB; have HB := n0_; clear n0_; (try clear hb); (try clear hb2); (try clear hk); (try clear hi)) | ((with_reducible refine gate_callee (f := 43) rfl ?_); refine goesL_ (some 176) rfl rfl Tryz.func43 (by kernel_rfl) rfl #[.string t724, .string t734] rfl (by (try simp only [List.map_toArray, List.map_cons, List.map_nil]); first | done | rfl | (simp only [List.length_drop, List.length_take]; rfl)) ?_; (with_reducible refine (whole_Add.calls t724 t734 t738 t739 _ ?gw A46.out).mono ?_); (case gw => exact HG.out.below (by repeat (first | (with_reducible first | exact HB.out | apply below_alloc | apply pw_below_drewN | apply below_drew1) | exact HB.out))); rintro e w67 ⟨rfl, hb⟩; refine ⟨_, rfl, ?_⟩; have n0_ := Aside0.mk (below_step (by repeat (first | (with_reducible first | exact HB.out | apply below_alloc | apply pw_below_drewN | apply below_drew1) | exact HB.out)) hb); clear HB; have HB := n0_; clear n0_; (try clear hb); (try clear hb2); (try clear hk); (try clear hi)))
                go_ret
                exact ⟨by first | rfl | (simp [errW_none, errW_some] <;> rfl) | (simp [*, errW_none, errW_some] <;> rfl), by repeat (first | (with_reducible first | exact HB.out | apply below_alloc | apply pw_below_drewN | apply below_drew1) | exact HB.out)⟩
def metewandlaw01_WholeRing.Pure : Prop := ∀ (l0 : List Int), l0.length ≤ maxLen → l0.length * 8 ≤ 140737488351232 → (∀ x ∈ l0, (Lit.int .i64 x).wf = true) → ∃ k, metewandlaw01_WholeRing.f k l0 = some true
theorem metewandlaw01_WholeRing.walk (P : metewandlaw01_WholeRing.Pure) (a0 : Option Addr) (len0 cap0 : Nat) (z0 : List Int) (w : World) (hG : Gw w) (w0 : (a0 = none ∧ len0 = 0 ∧ cap0 = 0 ∧ z0 = []) ∨ ∃ x, a0 = some x ∧ len0 ≤ cap0 ∧ cap0 ≤ maxLen ∧ z0.length = cap0 ∧ (∀ i, i < z0.length → w.cell? (x.add i) = some (.int .i64 (z0.getD i 0))) ∧ ∀ n ∈ z0, (Lit.int .i64 n).wf = true) (y0 : len0 * 8 ≤ 140737488351232) :
    Calls Tryz.prog 10 #[.slice a0 len0 cap0] w fun e w' => e = .returned (.bool true) ∧ Below w.heap.size w w' := by
  obtain ⟨l0, rfl, hr0, hm0, hw0, hc0⟩ := ReadsInt.ofRowC w0
  obtain ⟨k, h⟩ := P l0 hm0 y0 hw0
  refine (metewandlaw01_WholeRing.calls k _ _ l0 true w (Kd.C_of_reads (d := (0 : Int)) (h1 := fun _ => rfl) hr0) hc0 hG h).mono ?_
  rintro e w' ⟨rfl, hd⟩
  exact ⟨rfl, hd⟩
end Go.Proofs.YtjieekkkaekclaaGreatDoor.PR
