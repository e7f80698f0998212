/- Lemmas for the claim beside this text. -/
import Derived.Test.YtjieekkkaekclaaGreatDoorZPBC
import Derived.Test.YtjieekkkaekclaaGreatDoorZPBD
import Derived.Test.YtjieekkkaekclaaGreatDoorZPBE
import Derived.Test.YtjieekkkaekclaaGreatDoorZPBF
import Derived.Below
import Derived.ChangeOld
import Derived.ChangeSlices
import Derived.OpenShut
import Derived.ProofKit
import Derived.SevenTiedAt
import Derived.ShutString
import Derived.SizedLaws
import Derived.WalkKit
set_option linter.all false
set_option linter.unusedVariables false
set_option linter.unusedSimpArgs false
namespace Go.Proofs.YtjieekkkaekclaaGreatDoor.PR
open Go.RowKit Go.Proofs.YtjieekkkaekclaaGreatDoorW.PrintWords Go.Proofs.YtjieekkkaekclaaGreatDoorW.PrintLast Go.Proofs.YtjieekkkaekclaaGreatDoorW.PrintMore
attribute [local go_sem] max2_int min2_int max_two min_two max_three min_three max_four min_four
set_option linter.unusedVariables false
set_option linter.unusedSimpArgs false
mutual
def metewandlaw01_WholePrimes.l0 : Nat → Int → List ByteArray → Int → Int → Int → Int → Option (Bool)
  | 0, _, _, _, _, _, _ => none
  | k + 1, x4, x5, x6, x7, x8, x9 => if x9 < (x5.length : Int) then (if 0 ≤ x9 then ((metewandref01_ToInt.f k (rdOf ByteArray.empty x5 x9)).bind fun bt570 => (if bt570.2 = true then (if bt570.1 < x8 then (metewandlaw01_WholePrimes.j1 k x4 x5 x6 x7 x9 bt570.1 true) else (metewandlaw01_WholePrimes.j1 k x4 x5 x6 x7 x9 bt570.1 (decide (bt570.1 > x4)))) else (metewandlaw01_WholePrimes.j1 k x4 x5 x6 x7 x9 bt570.1 true))) else (none)) else (if x6 = 0 then (if x7 = x4 then ((metewandlaw01_counted.f).bind fun t568 => (some t568)) else (some false)) else (some false))
def metewandlaw01_WholePrimes.j1 : Nat → Int → List ByteArray → Int → Int → Int → Int → Bool → Option (Bool)
  | 0, _, _, _, _, _, _, _ => none
  | k + 1, x4, x5, x6, x7, x9, x10, x48 => if x48 = true then (some false) else (metewandlaw01_WholePrimes.l1 k x4 x5 x6 x7 x9 x10 2)
def metewandlaw01_WholePrimes.l1 : Nat → Int → List ByteArray → Int → Int → Int → Int → Int → Option (Bool)
  | 0, _, _, _, _, _, _, _ => none
  | k + 1, x4, x5, x6, x7, x9, x10, x12 => if x12 < x10 then (if x12 = 0 then (none) else (if (Int.tmod x10 x12) = 0 then (some false) else (metewandlaw01_WholePrimes.l1 k x4 x5 x6 x7 x9 x10 (wrap64 (x12 + 1))))) else (if (wrap64 (x7 * x10)) > x4 then (some false) else (metewandlaw01_WholePrimes.l0 k x4 x5 x6 (wrap64 (x7 * x10)) x10 (wrap64 (x9 + 1))))
end
def metewandlaw01_WholePrimes.f (k : Nat) (l0 : List Int) : Option (Bool) := (metewandkit_NewRod.f l0).bind fun bt556 => ((metewandkit_Rod_From.f bt556.1 bt556.2.1 bt556.2.2 1 3000).bind fun bt560 => ((metewandkit_Decimal.f k bt560.1).bind fun t563 => ((whole_Factor.f t563).bind fun bt564 => (metewandlaw01_WholePrimes.l0 k bt560.1 bt564.1 bt564.2 1 2 0))))
set_option maxHeartbeats 8000000 in
set_option maxRecDepth 100000 in
theorem metewandlaw01_WholePrimes.calls (k : Nat) (A0 : Option Addr) (c0 : Nat) (l0 : List Int) (r : Bool) (w : World) (hr0 : Kd.C (Kd.int .i64) w A0 l0.length l0) (hc0 : l0.length ≤ c0) (hG : Gw w) (h : metewandlaw01_WholePrimes.f k l0 = some r) :
    Calls Tryz.prog 7 #[.slice A0 l0.length c0] w fun e w' => e = .returned (.bool r) ∧ Below w.heap.size w w' := by
  have HG := Aside0.mk hG
  clear hG
  have HR0 := Aside0.mk hr0
  have HC0 := Aside0.mk hc0
  clear hr0 hc0
  have HB := Aside0.mk (Below.refl w.heap.size w)
  have H : ((metewandkit_NewRod.f l0).bind fun bt556 => ((metewandkit_Rod_From.f bt556.1 bt556.2.1 bt556.2.2 1 3000).bind fun bt560 => ((metewandkit_Decimal.f k bt560.1).bind fun t563 => ((whole_Factor.f t563).bind fun bt564 => (metewandlaw01_WholePrimes.l0 k bt560.1 bt564.1 bt564.2 1 2 0))))) = some r := h
  clear h
  replace H := Option.bind_eq_some_iff.mp H
  obtain ⟨⟨t556, t557, t558⟩, A20, H⟩ := H
  replace H : ((metewandkit_Rod_From.f t556 t557 t558 1 3000).bind fun bt560 => ((metewandkit_Decimal.f k bt560.1).bind fun t563 => ((whole_Factor.f t563).bind fun bt564 => (metewandlaw01_WholePrimes.l0 k bt560.1 bt564.1 bt564.2 1 2 0)))) = some r := H
  have A2 := Aside0.mk A20
  clear A20
  replace H := Option.bind_eq_some_iff.mp H
  obtain ⟨⟨t560, t561, t562⟩, A30, H⟩ := H
  replace H : ((metewandkit_Decimal.f k t560).bind fun t563 => ((whole_Factor.f t563).bind fun bt564 => (metewandlaw01_WholePrimes.l0 k t560 bt564.1 bt564.2 1 2 0))) = some r := H
  have A3 := Aside0.mk A30
  clear A30
  replace H := Option.bind_eq_some_iff.mp H
  obtain ⟨t563, A40, H⟩ := H
  replace H : ((whole_Factor.f t563).bind fun bt564 => (metewandlaw01_WholePrimes.l0 k t560 bt564.1 bt564.2 1 2 0)) = some r := H
  have A4 := Aside0.mk A40
  clear A40
  replace H := Option.bind_eq_some_iff.mp H
  obtain ⟨⟨t564, t565⟩, A50, H⟩ := H
  replace H : (metewandlaw01_WholePrimes.l0 k t560 t564 t565 1 2 0) = some r := H
  have A5 := Aside0.mk A50
  clear A50
  have H' := Aside0.mk H
  clear H
  go_enter Tryz.func7, Tryz.ntmps7
  go_wp2_with (first | ((with_reducible refine gate_callee (f := 19) rfl ?_); refine goesL_ (some 14) rfl rfl Tryz.func19 (by kernel_rfl) rfl #[.slice A0 l0.length c0] rfl (by (try simp only [List.map_toArray, List.map_cons, List.map_nil]); first | done | rfl | (simp only [List.length_drop, List.length_take]; rfl)) ?_; (with_reducible refine (metewandkit_NewRod.calls _ _ l0 t556 t557 t558 w _ ?side1 ?side2 ?side3 A2.out).mono ?_); (case side1 => repeat (first | (with_reducible first | exact HB.out | apply below_alloc | apply pw_below_drewN | apply below_drew1) | exact HB.out)); (case side2 => exact HR0.out); (case side3 => exact HC0.out); rintro e w6 ⟨g559, rfl, hi, hb, hb2⟩; refine ⟨_, rfl, ?_⟩; have n0_ := Aside0.mk (hb); have n1_ := Aside0.mk (hi); clear HB; have HB := n0_; have HI559 := n1_; clear n0_ n1_; (try clear hb); (try clear hb2); (try clear hk); (try clear hi)) | ((with_reducible refine gate_callee (f := 24) rfl ?_); refine goesL_ (some 16) rfl rfl Tryz.func24 (by kernel_rfl) rfl #[.pointer (some ⟨g559, 0, none⟩), .int .i64 1, .int .i64 3000] rfl (by (try simp only [List.map_toArray, List.map_cons, List.map_nil]); first | done | rfl | (simp only [List.length_drop, List.length_take]; rfl)) ?_; (with_reducible refine (metewandkit_Rod_From.calls g559 t556 t557 t558 1 3000 t560 t561 t562 w _ ?side1 ?side2 A3.out).mono ?_); (case side1 => repeat (first | (with_reducible first | exact HI559.out | apply IsS65.alloc | apply IsS65.drewN | apply IsS65.drew | apply IsS65.set_1 | apply IsS65.set_2) | exact HI559.out)); (case side2 => repeat (first | (with_reducible first | exact HB.out | apply below_alloc | apply pw_below_drewN | apply below_drew1 | refine below_set ?_ (IsS65.ge HI559.out)) | exact HB.out)); rintro e w7 ⟨rfl, hi, hb, hk⟩; refine ⟨_, rfl, ?_⟩; have n0_ := Aside0.mk (hb); have n1_ := Aside0.mk (hi); clear HB; clear HI559; have HB := n0_; have HI559 := n1_; clear n0_ n1_; (try clear hb); (try clear hb2); (try clear hk); (try clear hi)) | ((with_reducible refine gate_callee (f := 23) rfl ?_); refine goesL_ (some 19) rfl rfl Tryz.func23 (by kernel_rfl) rfl #[.int .i64 t560] rfl (by (try simp only [List.map_toArray, List.map_cons, List.map_nil]); first | done | rfl | (simp only [List.length_drop, List.length_take]; rfl)) ?_; (with_reducible refine (metewandkit_Decimal.calls k t560 t563 _ A4.out).mono ?_); rintro e w8 ⟨rfl, hb⟩; refine ⟨_, rfl, ?_⟩; have n0_ := Aside0.mk (IsS65.below (by repeat (first | (with_reducible first | exact HI559.out | apply IsS65.alloc | apply IsS65.drewN | apply IsS65.drew | apply IsS65.set_1 | apply IsS65.set_2) | exact HI559.out)) hb); have n1_ := Aside0.mk (below_step (by repeat (first | (with_reducible first | exact HB.out | apply below_alloc | apply pw_below_drewN | apply below_drew1 | refine below_set ?_ (IsS65.ge HI559.out)) | exact HB.out)) hb); clear HI559; clear HB; have HI559 := n0_; have HB := n1_; clear n0_ n1_; (try clear hb); (try clear hb2); (try clear hk); (try clear hi)) | ((with_reducible refine gate_callee (f := 26) rfl ?_); refine goesL_ (some 20) rfl rfl Tryz.func26 (by kernel_rfl) rfl #[.string t563] rfl (by (try simp only [List.map_toArray, List.map_cons, List.map_nil]); first | done | rfl | (simp only [List.length_drop, List.length_take]; rfl)) ?_; (with_reducible refine (whole_Factor.calls t563 t564 t565 _ ?gw A5.out).mono ?_); (case gw => exact HG.out.below (by repeat (first | (with_reducible first | exact HB.out | apply below_alloc | apply pw_below_drewN | apply below_drew1 | refine below_set ?_ (IsS65.ge HI559.out)) | exact HB.out))); rintro e w9 ⟨v566, rfl, ho0, hb⟩; refine ⟨_, rfl, ?_⟩; have n0_ := Aside0.mk (Kd.R_lower ho0 (below_size (by repeat (first | (with_reducible first | exact HB.out | apply below_alloc | apply pw_below_drewN | apply below_drew1 | refine below_set ?_ (IsS65.ge HI559.out)) | exact HB.out)))); have n1_ := Aside0.mk (IsS65.below (by repeat (first | (with_reducible first | exact HI559.out | apply IsS65.alloc | apply IsS65.drewN | apply IsS65.drew | apply IsS65.set_1 | apply IsS65.set_2) | exact HI559.out)) hb); have n2_ := Aside0.mk (below_step (by repeat (first | (with_reducible first | exact HB.out | apply below_alloc | apply pw_below_drewN | apply below_drew1 | refine below_set ?_ (IsS65.ge HI559.out)) | exact HB.out)) hb); clear HI559; clear HB; have HO567 := n0_; have HI559 := n1_; have HB := n2_; clear n0_ n1_ n2_; (try clear hb); (try clear hb2); (try clear hk); (try clear hi); (try clear ho0)))
  go_loopg [7, 8, 9] k (fun kq v7 v8 v9 w' => ∃ (x7_1 : Int) (x8_1 : Int) (x9_1 : Int), v7 = .int .i64 x7_1 ∧ v8 = .int .i64 x8_1 ∧ v9 = .int .i64 x9_1 ∧ Aside0 (metewandlaw01_WholePrimes.l0 kq t560 t564 t565 x7_1 x8_1 x9_1 = some r) ∧ Aside0 (kq ≤ k) ∧ Aside0 (Kd.R Kd.string 9 w' w.heap.size (fun _ => True) v566 t564) ∧ Aside0 (Below w.heap.size w w'))
  case atStart => exact ⟨(1), (2), (0), (by first | rfl | (simp; done) | (simp [*]; done)), (by first | rfl | (simp; done) | (simp [*]; done)), (by first | rfl | (simp; done) | (simp [*]; done)), H', ⟨Nat.le_refl _⟩, ⟨by (with_reducible repeat (first | apply Kd.R_alloc | apply Kd.R_drewN | apply Kd.R_drew)); exact HO567.out⟩, ⟨by repeat (first | (with_reducible first | exact HB.out | apply below_alloc | apply pw_below_drewN | apply below_drew1 | refine below_set ?_ (IsS65.ge HI559.out)) | exact HB.out)⟩⟩
  case round =>
    clear H'
    try clear c1
    try clear c2
    try clear p2
    try clear c7
    obtain ⟨x7_1, x8_1, x9_1, rfl, rfl, rfl, HA, HK1, HO_5, HB⟩ := hrel
    cases gk with
    | zero => exact absurd HA.out (by simp [metewandlaw01_WholePrimes.l0])
    | succ k1 =>
      have H := HA.out
      clear HA
      simp only [metewandlaw01_WholePrimes.l0] at H
      by_cases c10 : x9_1 < (t564.length : Int)
      · rw [if_pos c10] at H
        have c10b0 : decide (x9_1 < (t564.length : Int)) = true := decide_eq_true c10
        clear c10
        by_cases c11 : 0 ≤ x9_1
        · rw [if_pos c11] at H
          have c11b0 : decide (0 ≤ x9_1) = true := decide_eq_true c11
          clear c11
          replace H := Option.bind_eq_some_iff.mp H
          obtain ⟨⟨t570, t571⟩, A120, H⟩ := H
          replace H : (if t571 = true then (if t570 < x8_1 then (metewandlaw01_WholePrimes.j1 k1 t560 t564 t565 x7_1 x9_1 t570 true) else (metewandlaw01_WholePrimes.j1 k1 t560 t564 t565 x7_1 x9_1 t570 (decide (t570 > t560)))) else (metewandlaw01_WholePrimes.j1 k1 t560 t564 t565 x7_1 x9_1 t570 true)) = some r := H
          have A12 := Aside0.mk A120
          clear A120
          have HC13 := Aside0.mk H
          clear H
          obtain ⟨Ao14, co14, eo14⟩ := Kd.R_slice HO_5.out
          subst eo14
          have p569 : 0 ≤ (x9_1 : Int) := of_decide_eq_true (by first | (with_reducible assumption) | assumption)
          have q569 : x9_1 < (t564.length : Int) := of_decide_eq_true (by first | (with_reducible assumption) | assumption)
          obtain ⟨ad569, e569, hx569_0⟩ := Kd.at_string (Kd.R_reads' HO_5.out).2.2 x9_1 p569 q569
          cases e569
          replace p569 := eq_true p569
          replace q569 := eq_true q569
          go_upto_region 9 with (first | ((with_reducible refine gate_callee (f := 37) rfl ?_); refine goesL_ (some 34) rfl rfl Tryz.func37 (by kernel_rfl) rfl #[.string (rdOf ByteArray.empty t564 x9_1)] rfl (by (try simp only [List.map_toArray, List.map_cons, List.map_nil]); first | done | rfl | (simp only [List.length_drop, List.length_take]; rfl)) ?_; (with_reducible refine (metewandref01_ToInt.calls k1 (rdOf ByteArray.empty t564 x9_1) t570 t571 _ A12.out).mono ?_); rintro e w' ⟨rfl, ⟨nd, rfl⟩⟩; refine ⟨_, rfl, ?_⟩))
          (try simp only [Act.put, List.setIfInBounds_toArray, List.set_cons_zero, List.set_cons_succ])
          go_cut [48] (fun v48 wc => ∃ (kq : Nat) (x48_12 : Bool), v48 = .bool x48_12 ∧ Aside0 (metewandlaw01_WholePrimes.j1 kq t560 t564 t565 x7_1 x9_1 t570 x48_12 = some r) ∧ Aside0 (kq ≤ k1) ∧ Aside0 (Kd.R Kd.string 9 wc w.heap.size (fun _ => True) (.slice (some ad569) t564.length co14) t564) ∧ Aside0 (Below w.heap.size w wc))
          case first =>
            have H := HC13.out
            clear HC13
            by_cases c15 : t571 = true
            · subst c15
              have H1 : (if t570 < x8_1 then (metewandlaw01_WholePrimes.j1 k1 t560 t564 t565 x7_1 x9_1 t570 true) else (metewandlaw01_WholePrimes.j1 k1 t560 t564 t565 x7_1 x9_1 t570 (decide (t570 > t560)))) = some r := by rw [if_pos rfl] at H; exact H
              clear H
              have H := H1
              clear H1
              by_cases c16 : t570 < x8_1
              · rw [if_pos c16] at H
                have c16b0 : decide (t570 < x8_1) = true := decide_eq_true c16
                clear c16
                (first | rw [c16b0] | (simp only [i64_w, i32_w]; rw [c16b0]) | skip)
                have H' := Aside0.mk H
                clear H
                go_wp2
                go_meet
                case rel => exact ⟨_, (true), (by first | rfl | (simp; done) | (simp [*]; done)), H', ⟨by have := HK1.out; first | omega | exact Nat.le_refl _⟩, ⟨by (with_reducible repeat (first | apply Kd.R_alloc | apply Kd.R_drewN | apply Kd.R_drew)); exact HO_5.out⟩, ⟨by repeat (first | (with_reducible first | exact HB.out | apply below_alloc | apply pw_below_drewN | apply below_drew1) | exact HB.out)⟩⟩
              · rw [if_neg c16] at H
                have c16b0 : decide (t570 < x8_1) = false := decide_eq_false c16
                clear c16
                (first | rw [c16b0] | (simp only [i64_w, i32_w]; rw [c16b0]) | skip)
                have H' := Aside0.mk H
                clear H
                go_wp2
                go_meet
                case rel => exact ⟨_, (decide (t570 > t560)), (by first | rfl | (simp; done) | (simp [*]; done)), H', ⟨by have := HK1.out; first | omega | exact Nat.le_refl _⟩, ⟨by (with_reducible repeat (first | apply Kd.R_alloc | apply Kd.R_drewN | apply Kd.R_drew)); exact HO_5.out⟩, ⟨by repeat (first | (with_reducible first | exact HB.out | apply below_alloc | apply pw_below_drewN | apply below_drew1) | exact HB.out)⟩⟩
            · replace c15 := Bool.eq_false_iff.mpr c15
              subst c15
              have H1 : (metewandlaw01_WholePrimes.j1 k1 t560 t564 t565 x7_1 x9_1 t570 true) = some r := by rw [if_neg (show ¬ (false = true) by decide)] at H; exact H
              clear H
              have H := H1
              clear H1
              have H' := Aside0.mk H
              clear H
              go_wp2
              go_meet
              case rel => exact ⟨_, (true), (by first | rfl | (simp; done) | (simp [*]; done)), H', ⟨by have := HK1.out; first | omega | exact Nat.le_refl _⟩, ⟨by (with_reducible repeat (first | apply Kd.R_alloc | apply Kd.R_drewN | apply Kd.R_drew)); exact HO_5.out⟩, ⟨by repeat (first | (with_reducible first | exact HB.out | apply below_alloc | apply pw_below_drewN | apply below_drew1) | exact HB.out)⟩⟩
          case rest =>
            clear HC13
            try clear c1
            try clear c2
            try clear p2
            try clear c3
            try clear p5
            try clear q5
            try clear hx5
            try clear c7
            try clear c10
            try clear c10b0
            try clear c11
            try clear c11b0
            try clear c15
            try clear c16
            try clear c16b0
            try clear hx569_0
            try clear p2
            try clear p569
            try clear q569
            obtain ⟨kq, x48_12, rfl, HA, HJ12, HO_5, HB⟩ := hcut
            cases kq with
            | zero => exact absurd HA.out (by simp [metewandlaw01_WholePrimes.j1])
            | succ kj12 =>
              have H := HA.out
              clear HA
              simp only [metewandlaw01_WholePrimes.j1] at H
              by_cases c17 : x48_12 = true
              · subst c17
                have H1 : (some false) = some r := by rw [if_pos rfl] at H; exact H
                clear H
                have H := H1
                clear H1
                obtain rfl := Option.some.inj H
                go_wp2
                go_ret
                exact ⟨by first | rfl | (simp [errW_none, errW_some] <;> rfl) | (simp [*, errW_none, errW_some] <;> rfl), by repeat (first | (with_reducible first | exact HB.out | apply below_alloc | apply pw_below_drewN | apply below_drew1) | exact HB.out)⟩
              · replace c17 := Bool.eq_false_iff.mpr c17
                subst c17
                have H1 : (metewandlaw01_WholePrimes.l1 kj12 t560 t564 t565 x7_1 x9_1 t570 2) = some r := by rw [if_neg (show ¬ (false = true) by decide)] at H; exact H
                clear H
                have H := H1
                clear H1
                have H' := Aside0.mk H
                clear H
                go_wp2
                go_loopg [12] kj12 (fun kq v12 w' => ∃ (x12_3 : Int), v12 = .int .i64 x12_3 ∧ Aside0 (metewandlaw01_WholePrimes.l1 kq t560 t564 t565 x7_1 x9_1 t570 x12_3 = some r) ∧ Aside0 (kq ≤ kj12) ∧ Aside0 (Kd.R Kd.string 9 w' w.heap.size (fun _ => True) (.slice (some ad569) t564.length co14) t564) ∧ Aside0 (Below w.heap.size w w'))
                case atStart => exact ⟨(2), (by first | rfl | (simp; done) | (simp [*]; done)), H', ⟨Nat.le_refl _⟩, ⟨by (with_reducible repeat (first | apply Kd.R_alloc | apply Kd.R_drewN | apply Kd.R_drew)); exact HO_5.out⟩, ⟨by repeat (first | (with_reducible first | exact HB.out | apply below_alloc | apply pw_below_drewN | apply below_drew1) | exact HB.out)⟩⟩
                case round =>
                  clear H'
                  try clear c1
                  try clear c2
                  try clear p2
                  try clear c3
                  try clear p5
                  try clear q5
                  try clear hx5
                  try clear c7
                  try clear c10
                  try clear c10b0
                  try clear c11
                  try clear c11b0
                  try clear c15
                  try clear c16
                  try clear c16b0
                  try clear c17
                  try clear hx569_0
                  try clear p2
                  try clear p5
                  try clear p569
                  try clear q5
                  try clear q569
                  obtain ⟨x12_3, rfl, HA, HK3, HO_5, HB⟩ := hrel
                  cases gk with
                  | zero => exact absurd HA.out (by simp [metewandlaw01_WholePrimes.l1])
                  | succ k3 =>
                    have H := HA.out
                    clear HA
                    simp only [metewandlaw01_WholePrimes.l1] at H
                    by_cases c18 : x12_3 < t570
                    · rw [if_pos c18] at H
                      have c18b0 : decide (x12_3 < t570) = true := decide_eq_true c18
                      clear c18
                      by_cases c19 : x12_3 = 0
                      · rw [if_pos c19] at H
                        exact absurd H (by simp)
                      · rw [if_neg c19] at H
                        have c19b0 : (x12_3 == 0) = false := beq_eq_false_iff_ne.mpr c19
                        have c19b1 : (x12_3 != 0) = true := bne_iff_ne.mpr c19
                        by_cases c20 : (Int.tmod t570 x12_3) = 0
                        · rw [if_pos c20] at H
                          have c20b0 : ((Int.tmod t570 x12_3) == 0) = true := beq_iff_eq.mpr c20
                          have c20b1 : ((Int.tmod t570 x12_3) != 0) = false := bne_eq_false_iff_eq.mpr c20
                          clear c20
                          obtain rfl := Option.some.inj H
                          go_wp2
                          go_ret
                          exact ⟨by first | rfl | (simp [errW_none, errW_some] <;> rfl) | (simp [*, errW_none, errW_some] <;> rfl), by repeat (first | (with_reducible first | exact HB.out | apply below_alloc | apply pw_below_drewN | apply below_drew1) | exact HB.out)⟩
                        · rw [if_neg c20] at H
                          have c20b0 : ((Int.tmod t570 x12_3) == 0) = false := beq_eq_false_iff_ne.mpr c20
                          have c20b1 : ((Int.tmod t570 x12_3) != 0) = true := bne_iff_ne.mpr c20
                          have H' := Aside0.mk H
                          clear H
                          go_wp2
                          go_roundg k3
                          case measure => have := HK1.out; have := HJ12.out; have := HK3.out; omega
                          case rel => exact ⟨(wrap64 (x12_3 + 1)), (by first | rfl | (simp; done) | (simp [*]; done)), H', ⟨by have := HK1.out; have := HJ12.out; have := HK3.out; omega⟩, ⟨by (with_reducible repeat (first | apply Kd.R_alloc | apply Kd.R_drewN | apply Kd.R_drew)); exact HO_5.out⟩, ⟨by repeat (first | (with_reducible first | exact HB.out | apply below_alloc | apply pw_below_drewN | apply below_drew1) | exact HB.out)⟩⟩
                    · rw [if_neg c18] at H
                      have c18b0 : decide (x12_3 < t570) = false := decide_eq_false c18
                      clear c18
                      by_cases c21 : (wrap64 (x7_1 * t570)) > t560
                      · rw [if_pos c21] at H
                        have c21b0 : decide (t560 < (wrap64 (x7_1 * t570))) = true := decide_eq_true c21
                        clear c21
                        obtain rfl := Option.some.inj H
                        go_wp2
                        go_ret
                        exact ⟨by first | rfl | (simp [errW_none, errW_some] <;> rfl) | (simp [*, errW_none, errW_some] <;> rfl), by repeat (first | (with_reducible first | exact HB.out | apply below_alloc | apply pw_below_drewN | apply below_drew1) | exact HB.out)⟩
                      · rw [if_neg c21] at H
                        have c21b0 : decide (t560 < (wrap64 (x7_1 * t570))) = false := decide_eq_false c21
                        clear c21
                        have H' := Aside0.mk H
                        clear H
                        go_wp2
                        go_roundg k3
                        case measure => have := HK1.out; have := HJ12.out; have := HK3.out; omega
                        case rel => exact ⟨(wrap64 (x7_1 * t570)), (t570), (wrap64 (x9_1 + 1)), (by first | rfl | (simp; done) | (simp [*]; done)), (by first | rfl | (simp; done) | (simp [*]; done)), (by first | rfl | (simp; done) | (simp [*]; done)), H', ⟨by have := HK1.out; have := HJ12.out; have := HK3.out; omega⟩, ⟨by (with_reducible repeat (first | apply Kd.R_alloc | apply Kd.R_drewN | apply Kd.R_drew)); exact HO_5.out⟩, ⟨by repeat (first | (with_reducible first | exact HB.out | apply below_alloc | apply pw_below_drewN | apply below_drew1) | exact HB.out)⟩⟩
        · rw [if_neg c11] at H
          exact absurd H (by simp)
      · rw [if_neg c10] at H
        have c10b0 : decide (x9_1 < (t564.length : Int)) = false := decide_eq_false c10
        clear c10
        by_cases c22 : t565 = 0
        · rw [if_pos c22] at H
          have c22b0 : (t565 == 0) = true := beq_iff_eq.mpr c22
          have c22b1 : (t565 != 0) = false := bne_eq_false_iff_eq.mpr c22
          clear c22
          by_cases c23 : x7_1 = t560
          · rw [if_pos c23] at H
            have c23b0 : (x7_1 == t560) = true := beq_iff_eq.mpr c23
            have c23b1 : (x7_1 != t560) = false := bne_eq_false_iff_eq.mpr c23
            clear c23
            replace H := Option.bind_eq_some_iff.mp H
            obtain ⟨t568, A240, H⟩ := H
            replace H : (some t568) = some r := H
            have A24 := Aside0.mk A240
            clear A240
            obtain rfl := Option.some.inj H
            obtain ⟨Ao25, co25, eo25⟩ := Kd.R_slice HO_5.out
            subst eo25
            go_wp2_with (first | (go_at_call 18; (with_reducible refine (metewandlaw01_counted.calls  t568 _ ?gw A24.out).mono ?_); (case gw => exact HG.out.below (by repeat (first | (with_reducible first | exact HB.out | apply below_alloc | apply pw_below_drewN | apply below_drew1) | exact HB.out))); rintro e w26 ⟨rfl, hb⟩; have n0_ := Aside0.mk (Kd.R_below (by (with_reducible repeat (first | apply Kd.R_alloc | apply Kd.R_drewN | apply Kd.R_drew)); exact HO_5.out) hb); have n1_ := Aside0.mk (below_step (by repeat (first | (with_reducible first | exact HB.out | apply below_alloc | apply pw_below_drewN | apply below_drew1) | exact HB.out)) hb); clear HO_5; clear HB; have HO_5 := n0_; have HB := n1_; clear n0_ n1_; (try clear hb); (try clear hb2); (try clear hk); (try clear hi)))
            go_ret
            exact ⟨by first | rfl | (simp [errW_none, errW_some] <;> rfl) | (simp [*, errW_none, errW_some] <;> rfl), by repeat (first | (with_reducible first | exact HB.out | apply below_alloc | apply pw_below_drewN | apply below_drew1) | exact HB.out)⟩
          · rw [if_neg c23] at H
            have c23b0 : (x7_1 == t560) = false := beq_eq_false_iff_ne.mpr c23
            have c23b1 : (x7_1 != t560) = true := bne_iff_ne.mpr c23
            obtain rfl := Option.some.inj H
            obtain ⟨Ao27, co27, eo27⟩ := Kd.R_slice HO_5.out
            subst eo27
            go_wp2
            go_ret
            exact ⟨by first | rfl | (simp [errW_none, errW_some] <;> rfl) | (simp [*, errW_none, errW_some] <;> rfl), by repeat (first | (with_reducible first | exact HB.out | apply below_alloc | apply pw_below_drewN | apply below_drew1) | exact HB.out)⟩
        · rw [if_neg c22] at H
          have c22b0 : (t565 == 0) = false := beq_eq_false_iff_ne.mpr c22
          have c22b1 : (t565 != 0) = true := bne_iff_ne.mpr c22
          obtain rfl := Option.some.inj H
          obtain ⟨Ao28, co28, eo28⟩ := Kd.R_slice HO_5.out
          subst eo28
          go_wp2
          go_ret
          exact ⟨by first | rfl | (simp [errW_none, errW_some] <;> rfl) | (simp [*, errW_none, errW_some] <;> rfl), by repeat (first | (with_reducible first | exact HB.out | apply below_alloc | apply pw_below_drewN | apply below_drew1) | exact HB.out)⟩
def metewandlaw01_WholePrimes.Pure : Prop := ∀ (l0 : List Int), l0.length ≤ maxLen → l0.length * 8 ≤ 140737488351232 → (∀ x ∈ l0, (Lit.int .i64 x).wf = true) → ∃ k, metewandlaw01_WholePrimes.f k l0 = some true
theorem metewandlaw01_WholePrimes.walk (P : metewandlaw01_WholePrimes.Pure) (a0 : Option Addr) (len0 cap0 : Nat) (z0 : List Int) (w : World) (hG : Gw w) (w0 : (a0 = none ∧ len0 = 0 ∧ cap0 = 0 ∧ z0 = []) ∨ ∃ x, a0 = some x ∧ len0 ≤ cap0 ∧ cap0 ≤ maxLen ∧ z0.length = cap0 ∧ (∀ i, i < z0.length → w.cell? (x.add i) = some (.int .i64 (z0.getD i 0))) ∧ ∀ n ∈ z0, (Lit.int .i64 n).wf = true) (y0 : len0 * 8 ≤ 140737488351232) :
    Calls Tryz.prog 7 #[.slice a0 len0 cap0] w fun e w' => e = .returned (.bool true) ∧ Below w.heap.size w w' := by
  obtain ⟨l0, rfl, hr0, hm0, hw0, hc0⟩ := ReadsInt.ofRowC w0
  obtain ⟨k, h⟩ := P l0 hm0 y0 hw0
  refine (metewandlaw01_WholePrimes.calls k _ _ l0 true w (Kd.C_of_reads (d := (0 : Int)) (h1 := fun _ => rfl) hr0) hc0 hG h).mono ?_
  rintro e w' ⟨rfl, hd⟩
  exact ⟨rfl, hd⟩
end Go.Proofs.YtjieekkkaekclaaGreatDoor.PR
namespace Go.Proofs.YtjieekkkaekclaaGreatDoor
open Go Go.RowKit Go.Proofs.YtjieekkkaekclaaGreatDoorW.PrintWords Go.Proofs.YtjieekkkaekclaaGreatDoor.PR
theorem fs_head : ∀ (q d m : Nat), m + 1 - d ≤ q → 1 ≤ m → 2 ≤ d → NoDiv d m → (m = 1 ∧ Mw.fs d m = []) ∨ ∃ p, Mw.fs d m = p :: Mw.fs p (m / p) ∧ d ≤ p ∧ p ≤ m ∧ m % p = 0 ∧ NoDiv p p ∧ NoDiv p (m / p) := by
  intro q
  induction q with
  | zero =>
    intro d m h h1 h2 hno
    rcases Nat.lt_or_ge 1 m with h3 | h3
    · have := hno.le h3; omega
    · exact .inl ⟨by omega, Mw.fs_nil (by omega)⟩
  | succ q ih =>
    intro d m h h1 h2 hno
    rcases Nat.lt_or_ge 1 m with h3 | h3
    · have hle := hno.le h3
      by_cases hd : m % d = 0
      · refine .inr ⟨d, Mw.fs_div h2 (by omega) hd, Nat.le_refl _, hle, hd, fun e h4 h5 h6 => ?_, Mw.nodiv_div hno hd⟩
        exact hno e h4 h5 (Nat.mod_eq_zero_of_dvd (Nat.dvd_trans (Nat.dvd_of_mod_eq_zero h6) (Nat.dvd_of_mod_eq_zero hd)))
      · rcases ih (d + 1) m (by omega) h1 (by omega) (hno.next hd) with h4 | ⟨p, e1, e2, e3⟩
        · exact absurd h4.1 (by omega)
        · exact .inr ⟨p, by rw [Mw.fs_next h2 hd, e1], by omega, e3⟩
    · exact .inl ⟨by omega, Mw.fs_nil (by omega)⟩
theorem primes_l1 {n P p i : Nat} {xs : List ByteArray} (h2 : 2 ≤ p) (hp : p ≤ 3000) (hn : n ≤ 3000) (hP : P * p ≤ n) (hi : i < 100000) (hno : NoDiv p p) (r : EvP (fun k => metewandlaw01_WholePrimes.l0 k (n : Int) xs 0 ((P * p : Nat) : Int) (p : Int) ((i + 1 : Nat) : Int)) true) :
    ∀ (q e : Nat), e + q = p → 2 ≤ e → EvP (fun k => metewandlaw01_WholePrimes.l1 k (n : Int) xs 0 (P : Int) (i : Int) (p : Int) (e : Int)) true := by
  intro q
  induction q with
  | zero =>
    intro e h h3
    refine EvP.step (fun k => ?_) r
    simp only [metewandlaw01_WholePrimes.l1]
    have e1 : wrap64 ((P : Int) * (p : Int)) = ((P * p : Nat) : Int) := by rw [← Int.natCast_mul]; exact w_id (by omega) (by omega)
    rw [if_neg (by omega), e1, if_neg (by omega), show wrap64 ((i : Int) + 1) = ((i + 1 : Nat) : Int) by rw [w_id (by omega) (by omega)]; rfl]
  | succ q ih =>
    intro e h h3
    refine EvP.step (fun k => ?_) (ih (e + 1) (by omega) (by omega))
    have hne : ¬ Int.tmod (p : Int) (e : Int) = 0 := by
      rw [show Int.tmod (p : Int) (e : Int) = ((p % e : Nat) : Int) from rfl]
      have := hno e h3 (by omega)
      omega
    simp only [metewandlaw01_WholePrimes.l1]
    rw [if_pos (by omega), if_neg (by omega), if_neg hne, show wrap64 ((e : Int) + 1) = ((e + 1 : Nat) : Int) by rw [w_id (by omega) (by omega)]; rfl]
theorem primes_l0 {n : Nat} (hn : n ≤ 3000) (hn1 : 1 ≤ n) : ∀ (q m d P : Nat) (pre : List ByteArray), m ≤ q → 1 ≤ m → 2 ≤ d → NoDiv d m → P * m = n → pre.length + m ≤ 3001 →
    EvP (fun k => metewandlaw01_WholePrimes.l0 k (n : Int) (pre ++ bts ((Mw.fs d m).map Mw.dtxt)) 0 (P : Int) (d : Int) (pre.length : Int)) true := by
  intro q
  induction q with
  | zero => intro m d P pre h h1; omega
  | succ q ih =>
    intro m d P pre h h1 h2 hno hP hlen
    rcases fs_head _ d m (Nat.le_refl _) h1 h2 hno with ⟨e1, e2⟩ | ⟨p, e1, e2, e3, e4, e5, e6⟩
    · subst e1
      rw [e2, bts_nil, List.append_nil]
      refine EvP.step (f := fun _ => (metewandlaw01_counted.f).bind fun t => some t) (fun k => ?_) (by rw [counted_f]; exact EvP.now _)
      simp only [metewandlaw01_WholePrimes.l0]
      rw [if_neg (by omega), if_pos trivial, if_pos (by omega)]
    · have hlt : m / p < m := Nat.div_lt_self (by omega) (by omega)
      have hdm := Nat.div_add_mod m p
      rw [e4, Nat.add_zero] at hdm
      have h1' : 1 ≤ m / p := by
        rcases Nat.eq_zero_or_pos (m / p) with h0 | h0
        · rw [h0] at hdm; omega
        · exact h0
      have hP' : P * p * (m / p) = n := by rw [Nat.mul_assoc, hdm, hP]
      have hPp : P * p ≤ n := by rw [← hP']; exact Nat.le_mul_of_pos_right _ h1'
      have hmn : m ≤ n := by
        rw [← hP]
        refine Nat.le_mul_of_pos_left _ ?_
        rcases Nat.eq_zero_or_pos P with h0 | h0
        · rw [h0, Nat.zero_mul] at hP; omega
        · exact h0
      have r := ih (m / p) p (P * p) (pre ++ [Mw.T (p : Int)]) (Nat.le_of_lt_succ (Nat.lt_of_lt_of_le hlt h)) h1' (by omega) e6 hP' (by clear hdm; simp only [List.length_append, List.length_cons, List.length_nil]; omega)
      rw [List.append_assoc, List.singleton_append, ← bts_cons, ← e1, List.length_append, List.length_singleton] at r
      have l := primes_l1 (by omega) (by omega) hn hPp (i := pre.length) (by omega) e5 r (p - 2) 2 (by omega) (by omega)
      have hrd : rdOf ByteArray.empty (pre ++ bts ((Mw.fs d m).map Mw.dtxt)) (pre.length : Int) = Mw.T (p : Int) := by
        rw [rdOf_nat, e1, bts_cons, List.getD_eq_getElem?_getD, List.getElem?_append_right (Nat.le_refl _), Nat.sub_self]; rfl
      have hl : (pre.length : Int) < ((pre ++ bts ((Mw.fs d m).map Mw.dtxt)).length : Int) := by
        rw [e1, bts_cons, List.length_append, List.length_cons]; omega
      refine EvP.step (f := fun k => (metewandref01_ToInt.f k (Mw.T (p : Int))).bind fun bt570 => (if bt570.2 = true then (if bt570.1 < (d : Int) then (metewandlaw01_WholePrimes.j1 k (n : Int) (pre ++ bts ((Mw.fs d m).map Mw.dtxt)) 0 (P : Int) (pre.length : Int) bt570.1 true) else (metewandlaw01_WholePrimes.j1 k (n : Int) (pre ++ bts ((Mw.fs d m).map Mw.dtxt)) 0 (P : Int) (pre.length : Int) bt570.1 (decide (bt570.1 > (n : Int))))) else (metewandlaw01_WholePrimes.j1 k (n : Int) (pre ++ bts ((Mw.fs d m).map Mw.dtxt)) 0 (P : Int) (pre.length : Int) bt570.1 true))) (fun k => ?_) ?_
      · simp only [metewandlaw01_WholePrimes.l0]
        rw [if_pos hl, if_pos (by omega), hrd]
      · refine EvP.bind (toInt_T (p : Int) (Nat.lt_of_le_of_lt (show (p : Int).natAbs ≤ 3000 by omega) (by decide))) (EvP.ipos rfl (EvP.ineg (by dsimp only; omega) ?_))
        dsimp only
        rw [show decide ((p : Int) > (n : Int)) = false from decide_eq_false (by omega)]
        refine EvP.step (fun k => ?_) l
        simp only [metewandlaw01_WholePrimes.j1]
        rw [if_neg (by simp)]; rfl
theorem primes_Pure : metewandlaw01_WholePrimes.Pure := by
  intro l _ _ _
  refine EvP.rounds (g := fun k => metewandlaw01_WholePrimes.f k l) ?_
  unfold metewandlaw01_WholePrimes.f
  obtain ⟨n, t2, p2, q2, q3, _⟩ := from_ok l 0 7640891576956012809 1 3000 (b := 0) ⟨by omega, by omega⟩ (by omega) (by omega) (by omega) (by omega) (by omega)
  have q3 := q3 (by omega)
  rw [show metewandkit_NewRod.f l = some (l, 0, 7640891576956012809) from rfl]
  refine EvP.bind (EvP.now _) ?_
  dsimp only
  rw [p2]
  refine EvP.bind (EvP.now _) ?_
  dsimp only
  refine EvP.bind (dec_ev n (by omega)) ?_
  obtain ⟨m, hm⟩ : ∃ m : Nat, n = m := ⟨n.toNat, by omega⟩
  subst hm
  have z0 : Mw.Sz 4 (m : Int) := Nat.lt_of_le_of_lt (show (m : Int).natAbs ≤ 3000 by omega) (by decide)
  have z : Mw.Sz 400 (m : Int) := z0.mono (by omega)
  have hf : whole_Factor.f (Mw.T (m : Int)) = some (bts ((Mw.fs 2 m).map Mw.dtxt), 0) := by
    rw [Mw.T, wfactor_B (by have := itxt_len_le (m : Int); have := z.len (by omega); omega), Mw.factor, if_pos (terr_Sz z), Mw.ival_itxt, if_neg (by omega), if_neg (by omega), Int.toNat_natCast]
  rw [hf]
  refine EvP.bind (EvP.now _) ?_
  dsimp only
  have r := primes_l0 (n := m) (by omega) (by omega) m m 2 1 [] (Nat.le_refl _) (by omega) (by omega) (fun e h2 h3 => by omega) (by omega) (by simp; omega)
  exact r
end Go.Proofs.YtjieekkkaekclaaGreatDoor
namespace Go.Proofs.YtjieekkkaekclaaGreatDoorW.PrintWords
open Go.ChangeShapes Go.WideShapes
theorem sized_ints {H : Type} {enc : TypeId × Value → H} {P : Program} {W : World} {base : Nat} {spare : Nat → Bool} {held : Bool} {t e : TypeId} {k : IntKind} {a : Option Addr} {len cap : Nat} {d : DataW H} {ps : List MemPlace} {ts : List TypeId} {ds : List (DataW H)} {j : Nat}
    (hsz : (DataW.weightsEach P ts ds).all (· ≤ reachBytes) = true) (ht : ts[j]? = some t) (hd : ds[j]? = some d) (hu : P.underlying t = some (.slice e)) (he : P.underlying e = some (.int k)) (hc : P.cellsOf e = 1) {B : Nat} (hB : P.bytesOf e = B)
    (h : DataW.Trod enc P W base spare held t (.slice a len cap) d ps) : len * B ≤ 140737488351232 := by
  obtain ⟨fuel, hf⟩ := h
  rcases open_ints hu he hc hf with ⟨hcs, _⟩ | ⟨x, l, c, zs, hcs, _, hl, _, hz, hx, _, _⟩
  · simp [Value.cells] at hcs
    obtain ⟨rfl, rfl, rfl⟩ := hcs
    simp
  · simp [Value.cells] at hcs
    obtain ⟨rfl, rfl, rfl⟩ := hcs
    obtain ⟨hx, _⟩ := Prod.mk.inj hx
    subst hx
    have z := sized_slice hsz ht hd hu
    rw [hB] at z
    have hl2 : len ≤ zs.length := by
      rw [hz]
      split
      · exact hl
      · exact Nat.le_refl _
    have h1 : (lits (H := H) k (zs.take len)).length + (lits (H := H) k (zs.drop len)).length = zs.length := by
      simp [lits]
      omega
    rw [h1] at z
    exact Nat.le_trans (Nat.mul_le_mul_right _ hl2) z
end Go.Proofs.YtjieekkkaekclaaGreatDoorW.PrintWords
namespace Go.Proofs.YtjieekkkaekclaaGreatDoor.wholePrimes
open Go Go.ChangeShapes Go.WideShapes Go.ChangeAt Go.RowKit
open Go.ChangeMaps (open_string shut_string)
set_option linter.unusedVariables false
theorem laidOut : laidOutB Tryz.prog = true := by kernel_rfl
def IsRow (k : IntKind) (w : World) (a : Option Addr) (len cap : Nat) (zs : List Int) : Prop :=
  (a = none ∧ len = 0 ∧ cap = 0 ∧ zs = []) ∨
  ∃ x, a = some x ∧ len ≤ cap ∧ cap ≤ maxLen ∧ zs.length = cap ∧ (∀ i, i < zs.length → w.cell? (x.add i) = some (.int k (zs.getD i 0))) ∧ ∀ n ∈ zs, (Lit.int k n).wf = true
theorem door_met (os : Os) (args : Array Value) : laidMetH Tryz.prog Rows.wholePrimesRow.laid ((World.doorLaid Tryz.prog 69 os).forCall (fun _ _ => 0) ⟨#[], args, []⟩).memory :=
  laidMetH_of_parts3 (fuel := 8) (laidMet_of_run' 8 (by kernel_rfl) (by kernel_rfl)) (by kernel_rfl) (by kernel_rfl)
set_option maxRecDepth 100000 in
theorem lifted (os : Os) (started : os.Started) (H : Type) (enc : TypeId × Value → H) :
    ReturnsInHanded {} Tryz.checked os 7 .any (fun w args => (Rows.wholePrimesSpec.pre enc Tryz.prog Tryz.f7 [] false w args ∧ laidMetH Tryz.prog Rows.wholePrimesRow.laid w) ∧ sizedMet enc Tryz.prog Tryz.f7 (OpenSpec.ofChange Rows.wholePrimesSpec) false w args) (Rows.wholePrimesSpec.post enc Tryz.prog Tryz.f7 false true false false) := by
  refine returnsInHanded_of_change_and (C := Tryz.checked) (X := fun w _ => laidMetH Tryz.prog Rows.wholePrimesRow.laid w) (fun _ _ _ hh h => h.of_heap hh) own_knob started (by kernel_rfl) Tryz.func7 ?witness ?_
  case witness =>
    exact ChangeSpec.witness_shaped (enc := enc) (C := Tryz.checked) (os := os) (X := fun w _ => laidMetH Tryz.prog Rows.wholePrimesRow.laid w) false (World.doorLaid Tryz.prog 69 os) #[.slice none 0 0] 8 rfl (World.shaped_of_RefB (by kernel_rfl) (by kernel_rfl)) (by kernel_rfl) (by kernel_rfl) (by kernel_rfl) (door_met os _)
  intro W base args ds gs before hval0 hW hcnd hsz0 hL _
  have hsz : (DataW.weightsEach Tryz.prog (Tryz.f7.params.toList ++ Rows.wholePrimesSpec.plain.varTypes Tryz.prog) (ds ++ gs)).all (· ≤ reachBytes) = true := hsz0
  have hval : ∀ (j : Nat) t v, Tryz.f7.params[j]? = some t → args[j]? = some v → Value.okWide Tryz.prog W .any base t v := hval0
  have hW' := hW
  obtain ⟨p, q, hA0, hV, rfl, hfz, hnd⟩ := hW
  have hA : DataW.TrodAll enc Tryz.prog W 0 (fun _ => true) true Tryz.f7.params.toList args.toList ds p := hA0
  rw [Tryz.params7] at hA hval hsz
  obtain ⟨v0, vs0, d0, ds0, p0, q0, hargs, rfl, rfl, h0, r0⟩ := trodAll_cons hA
  obtain ⟨rfl, rfl, rfl⟩ := trodAll_nil r0
  obtain rfl : args = #[v0] := by cases args; simp_all
  obtain ⟨rfl, rfl⟩ := trodVars_none hV
  obtain ⟨a0, len0, cap0, rfl⟩ := okWide_slice Tryz.underlying22 (hval 0 22 v0 rfl rfl)
  have k0 := h0
  have lt0 : ∀ x ∈ p0, x.block < W.heap.size := by obtain ⟨m, hm⟩ := k0; exact DataW.trod_lt m _ _ _ hm
  obtain ⟨z0, w0⟩ : ∃ zs, IsRow .i64 W a0 len0 cap0 zs := by
    obtain ⟨fuel, hf⟩ := h0
    rcases open_ints Tryz.underlying22 Tryz.underlying3 (by kernel_rfl) hf with ⟨hcs, _⟩ | ⟨x, l, c, zs, hcs, _, hl, hm, hz, _, hcell, hwz⟩
    · simp [Value.cells] at hcs
      obtain ⟨rfl, rfl, rfl⟩ := hcs
      exact ⟨[], .inl ⟨rfl, rfl, rfl, rfl⟩⟩
    · simp [Value.cells] at hcs
      obtain ⟨rfl, rfl, rfl⟩ := hcs
      exact ⟨zs, .inr ⟨_, rfl, hl, hm, by simpa using hz, hcell, hwz⟩⟩
  have y0 : len0 * 8 ≤ 140737488351232 := Go.Proofs.YtjieekkkaekclaaGreatDoorW.PrintWords.sized_ints hsz (j := 0) (t := 22) rfl rfl Tryz.underlying22 Tryz.underlying3 (by kernel_rfl) (by kernel_rfl) h0
  clear hA0 hval0 hsz0 hsz
  refine (PR.metewandlaw01_WholePrimes.walk primes_Pure a0 len0 cap0 z0 W ⟨ety_of_laid hL, tab_of_laid hL⟩ w0 y0).mono fun e W' ⟨he, bel⟩ => ?_
  subst he
  exact ⟨_, rfl, _, _, _, [], _, [], hW', trodAll_mk1 (shut_bool Tryz.underlying4 _), (trodAll_cons_mk (Below.trod laidOut (by kernel_rfl) (of_decide_eq_true (by kernel_rfl)) k0 bel lt0) trodAll_mk0), rfl, bel.frame _, fun h => by cases h⟩
theorem leaving (os : Os) (started : os.Started) (H : Type) (enc : TypeId × Value → H) :
    ReturnsInLeavingWide {} Tryz.checked os 7 .any (fun w args => (Rows.wholePrimesSpec.pre enc Tryz.prog Tryz.f7 [] false w args ∧ laidMetH Tryz.prog Rows.wholePrimesRow.laid w) ∧ sizedMet enc Tryz.prog Tryz.f7 (OpenSpec.ofChange Rows.wholePrimesSpec) false w args) (Rows.wholePrimesSpec.post enc Tryz.prog Tryz.f7 false true false false) := fun enter =>
  ReturnsInOpen.mono (fun _ _ _ h => ⟨h.2.1, only_of_quiet h.1, h.2.2⟩) (fun _ x => x) (lifted os started H enc enter)
set_option maxHeartbeats 32000000 in
theorem closed : joinedFacts Tryz.pinned.checked.prog 7 Tryz.f7 Rows.wholePrimesSpec Rows.wholePrimesRow = true := by
  unfold joinedFacts
  simp only [Bool.and_eq_true]
  repeat' apply And.intro
  all_goals (as_aux_lemma => kernel_rfl)
theorem named : Tryz.pinned.checked.prog.funcNamed Rows.wholePrimesRow.func = some 7 := by kernel_rfl
theorem inst : Tryz.f7.isInstance Tryz.pinned.checked.prog Rows.wholePrimesRow.origin Rows.wholePrimesRow.targs := of_decide_eq_true (by kernel_rfl)
theorem wrap : Tryz.f7.isWrapper Tryz.pinned.checked.prog Rows.wholePrimesRow.wrapper Rows.wholePrimesRow.mainSum := by
  unfold Func.isWrapper; first | (rw [if_pos (by decide +kernel)]; kernel_rfl) | (rw [if_neg (by decide +kernel)]; exact ⟨rfl, rfl⟩)
theorem proved : Rows.WholePrimesSaid :=
  OpenClaim.holds_of_wide_leaving 7 Tryz.f7 rfl rfl rfl rfl rfl rfl rfl ⟨rfl, rfl, rfl, rfl, rfl⟩ rfl rfl rfl rfl rfl named Tryz.func7 closed inst wrap
    (fun os started H enc _ => leaving os started H enc)
end Go.Proofs.YtjieekkkaekclaaGreatDoor.wholePrimes
namespace Go
theorem Claim7.holds_tied_goes (Lk : Looks) {p : Pinned} {s : OpenSpec} {c : OpenClaim} (kinds : List LaidKind) (tests : Bool) (har : Bool × String) (lk g : Bool)
    (hc : c.holds p s) (hw : c.wfByText s = true) (htie : c.laidByTextAt Lk p kinds tests)
    (hst : c.start = .entering) (hnb : c.noBlocks = false ∧ c.again = false) (hm : p.checked.prog.mainIs = some (har.1, har.2.toList)) (hn : (!har.1 && har.2.isEmpty && !lk) = false)
    (hl : ∀ f fn, p.checked.prog.funcNamed c.func = some f → p.checked.prog.funcs[f]? = some fn → lk = p.checked.prog.looks [] ∧ ∀ (j : Nat) t, fn.params[j]? = some t → p.checked.prog.wantsStandIn t = false)
    (hg : g = c.goesBy p.checked.prog) :
    Claim7.holds p (.plain s) { stood := { row := c, standIns := [], harness := har, looks := lk }, kinds := [], alts := [], goes := g, laidByText := true, laidKinds := kinds, laidTests := tests, laidLooks := Lk } := by
  have h6 : ∀ r : OpenClaim, Claim7.isSixth { stood := { row := r, standIns := [], harness := har, looks := lk }, kinds := [] } = false := fun r => by simpa [Claim7.isSixth] using hn
  refine ⟨?_, (fun D hD => by cases hD), htie, (fun h => by cases h), hg⟩
  exact Claim7.tied_new_at Lk kinds tests (Claim7.new_of_sixth hc har lk hst hnb hm (h6 c) hl) hw
end Go
