/- Lemmas for the claim beside this text. -/
import Derived.Test.YtjieekkkaekclaaGreatDoorZPBC
import Derived.Test.YtjieekkkaekclaaGreatDoorZPBD
import Derived.Test.YtjieekkkaekclaaGreatDoorZPBE
import Derived.Laws.Bits64
set_option linter.all false
set_option linter.unusedVariables false
set_option linter.unusedSimpArgs false
namespace Go.Proofs.YtjieekkkaekclaaGreatDoor.PR
open Go.RowKit Go.Proofs.YtjieekkkaekclaaGreatDoorW.PrintWords Go.Proofs.YtjieekkkaekclaaGreatDoorW.PrintLast Go.Proofs.YtjieekkkaekclaaGreatDoorW.PrintMore
attribute [local go_sem] max2_int min2_int max_two min_two max_three min_three max_four min_four
set_option linter.unusedVariables false
set_option linter.unusedSimpArgs false
def metewandkit_Decimal.f : Nat → Int → Option (ByteArray)
  | 0, _ => none
  | k + 1, a0 => if a0 < 0 then ((metewandkit_Decimal.f k (wrap64 (-a0))).bind fun t412 => (if 1 + t412.size ≤ 9223372036854775807 then (some ((⟨#[45]⟩ : ByteArray) ++ t412)) else (none))) else (if a0 < 10 then ((metewandkit_Digit.f a0).bind fun t413 => (some t413)) else ((metewandkit_Decimal.f k (wrap64 (Int.tdiv a0 10))).bind fun t414 => ((metewandkit_Digit.f (Int.tmod a0 10)).bind fun t415 => (if t414.size + t415.size ≤ 9223372036854775807 then (some (t414 ++ t415)) else (none)))))
set_option maxHeartbeats 8000000 in
set_option maxRecDepth 100000 in
theorem metewandkit_Decimal.calls (k : Nat) : ∀ (a0 : Int) (r : ByteArray) (w : World) (h : metewandkit_Decimal.f k a0 = some r),
    Calls Tryz.prog 23 #[.int .i64 a0] w fun e w' => e = .returned (.string r) ∧ Below w.heap.size w w' := by
  induction k using Nat.strongRecOn with
  | _ k ih =>
  intro a0 r w h
  cases k with
  | zero => exact absurd h (by simp [metewandkit_Decimal.f])
  | succ k =>
  simp only [metewandkit_Decimal.f] at h
  have HB := Aside0.mk (Below.refl w.heap.size w)
  have H : (if a0 < 0 then ((metewandkit_Decimal.f k (wrap64 (-a0))).bind fun t412 => (if 1 + t412.size ≤ 9223372036854775807 then (some ((⟨#[45]⟩ : ByteArray) ++ t412)) else (none))) else (if a0 < 10 then ((metewandkit_Digit.f a0).bind fun t413 => (some t413)) else ((metewandkit_Decimal.f k (wrap64 (Int.tdiv a0 10))).bind fun t414 => ((metewandkit_Digit.f (Int.tmod a0 10)).bind fun t415 => (if t414.size + t415.size ≤ 9223372036854775807 then (some (t414 ++ t415)) else (none)))))) = some r := h
  clear h
  by_cases c2 : a0 < 0
  · rw [if_pos c2] at H
    have c2b0 : decide (a0 < 0) = true := decide_eq_true c2
    clear c2
    replace H := Option.bind_eq_some_iff.mp H
    obtain ⟨t412, A30, H⟩ := H
    replace H : (if 1 + t412.size ≤ 9223372036854775807 then (some ((⟨#[45]⟩ : ByteArray) ++ t412)) else (none)) = some r := H
    have A3 := Aside0.mk A30
    clear A30
    by_cases c4 : 1 + t412.size ≤ 9223372036854775807
    · rw [if_pos c4] at H
      have c4b0 := eq_true c4
      have c4b1 : decide (1 + t412.size ≤ 9223372036854775807) = true := decide_eq_true c4
      try have c4b2 : (9223372036854775807 < 1 + t412.size) = False := eq_false (Nat.not_lt.2 c4)
      obtain rfl := Option.some.inj H
      go_enter Tryz.func23, Tryz.ntmps23
      go_wp2_with (first | ((with_reducible refine gate_callee (f := 23) rfl ?_); refine goesL_ (some 7) rfl rfl Tryz.func23 (by kernel_rfl) rfl #[.int .i64 (wrap64 (-a0))] rfl (by (try simp only [List.map_toArray, List.map_cons, List.map_nil]); first | done | rfl | (simp only [List.length_drop, List.length_take]; rfl)) ?_; (with_reducible refine (ih k (by omega) (wrap64 (-a0)) t412 _ A3.out).mono ?_); rintro e w5 ⟨rfl, hb⟩; refine ⟨_, rfl, ?_⟩; have n0_ := Aside0.mk (below_step (by repeat (first | (with_reducible first | exact HB.out | apply below_alloc | apply pw_below_drewN | apply below_drew1) | exact HB.out)) hb); clear HB; have HB := n0_; clear n0_; (try clear hb); (try clear hb2); (try clear hk); (try clear hi)))
      go_ret
      exact ⟨by first | rfl | (simp [errW_none, errW_some] <;> rfl) | (simp [*, errW_none, errW_some] <;> rfl), by repeat (first | (with_reducible first | exact HB.out | apply below_alloc | apply pw_below_drewN | apply below_drew1) | exact HB.out)⟩
    · rw [if_neg c4] at H
      exact absurd H (by simp)
  · rw [if_neg c2] at H
    have c2b0 : decide (a0 < 0) = false := decide_eq_false c2
    clear c2
    by_cases c6 : a0 < 10
    · rw [if_pos c6] at H
      have c6b0 : decide (a0 < 10) = true := decide_eq_true c6
      clear c6
      replace H := Option.bind_eq_some_iff.mp H
      obtain ⟨t413, A70, H⟩ := H
      replace H : (some t413) = some r := H
      have A7 := Aside0.mk A70
      clear A70
      obtain rfl := Option.some.inj H
      go_enter Tryz.func23, Tryz.ntmps23
      go_wp2_with (first | ((with_reducible refine gate_callee (f := 65) rfl ?_); refine goesL_ (some 12) rfl rfl Tryz.func65 (by kernel_rfl) rfl #[.int .i64 a0] rfl (by (try simp only [List.map_toArray, List.map_cons, List.map_nil]); first | done | rfl | (simp only [List.length_drop, List.length_take]; rfl)) ?_; (with_reducible refine (metewandkit_Digit.calls a0 t413 _ A7.out).mono ?_); rintro e w8 ⟨rfl, hb⟩; refine ⟨_, rfl, ?_⟩; have n0_ := Aside0.mk (below_step (by repeat (first | (with_reducible first | exact HB.out | apply below_alloc | apply pw_below_drewN | apply below_drew1) | exact HB.out)) hb); clear HB; have HB := n0_; clear n0_; (try clear hb); (try clear hb2); (try clear hk); (try clear hi)))
      go_ret
      exact ⟨by first | rfl | (simp [errW_none, errW_some] <;> rfl) | (simp [*, errW_none, errW_some] <;> rfl), by repeat (first | (with_reducible first | exact HB.out | apply below_alloc | apply pw_below_drewN | apply below_drew1) | exact HB.out)⟩
    · rw [if_neg c6] at H
      have c6b0 : decide (a0 < 10) = false := decide_eq_false c6
      clear c6
      replace H := Option.bind_eq_some_iff.mp H
      obtain ⟨t414, A90, H⟩ := H
      replace H : ((metewandkit_Digit.f (Int.tmod a0 10)).bind fun t415 => (if t414.size + t415.size ≤ 9223372036854775807 then (some (t414 ++ t415)) else (none))) = some r := H
      have A9 := Aside0.mk A90
      clear A90
      replace H := Option.bind_eq_some_iff.mp H
      obtain ⟨t415, A100, H⟩ := H
      replace H : (if t414.size + t415.size ≤ 9223372036854775807 then (some (t414 ++ t415)) else (none)) = some r := H
      have A10 := Aside0.mk A100
      clear A100
      by_cases c11 : t414.size + t415.size ≤ 9223372036854775807
      · rw [if_pos c11] at H
        have c11b0 := eq_true c11
        have c11b1 : decide (t414.size + t415.size ≤ 9223372036854775807) = true := decide_eq_true c11
        try have c11b2 : (9223372036854775807 < t414.size + t415.size) = False := eq_false (Nat.not_lt.2 c11)
        obtain rfl := Option.some.inj H
        go_enter Tryz.func23, Tryz.ntmps23
        go_wp2_with (first | ((with_reducible refine gate_callee (f := 23) rfl ?_); refine goesL_ (some 15) rfl rfl Tryz.func23 (by kernel_rfl) rfl #[.int .i64 (wrap64 (Int.tdiv a0 10))] rfl (by (try simp only [List.map_toArray, List.map_cons, List.map_nil]); first | done | rfl | (simp only [List.length_drop, List.length_take]; rfl)) ?_; (with_reducible refine (ih k (by omega) (wrap64 (Int.tdiv a0 10)) t414 _ A9.out).mono ?_); rintro e w12 ⟨rfl, hb⟩; refine ⟨_, rfl, ?_⟩; have n0_ := Aside0.mk (below_step (by repeat (first | (with_reducible first | exact HB.out | apply below_alloc | apply pw_below_drewN | apply below_drew1) | exact HB.out)) hb); clear HB; have HB := n0_; clear n0_; (try clear hb); (try clear hb2); (try clear hk); (try clear hi)) | ((with_reducible refine gate_callee (f := 65) rfl ?_); refine goesL_ (some 18) rfl rfl Tryz.func65 (by kernel_rfl) rfl #[.int .i64 (Int.tmod a0 10)] rfl (by (try simp only [List.map_toArray, List.map_cons, List.map_nil]); first | done | rfl | (simp only [List.length_drop, List.length_take]; rfl)) ?_; (with_reducible refine (metewandkit_Digit.calls (Int.tmod a0 10) t415 _ A10.out).mono ?_); rintro e w13 ⟨rfl, hb⟩; refine ⟨_, rfl, ?_⟩; have n0_ := Aside0.mk (below_step (by repeat (first | (with_reducible first | exact HB.out | apply below_alloc | apply pw_below_drewN | apply below_drew1) | exact HB.out)) hb); clear HB; have HB := n0_; clear n0_; (try clear hb); (try clear hb2); (try clear hk); (try clear hi)))
        go_ret
        exact ⟨by first | rfl | (simp [errW_none, errW_some] <;> rfl) | (simp [*, errW_none, errW_some] <;> rfl), by repeat (first | (with_reducible first | exact HB.out | apply below_alloc | apply pw_below_drewN | apply below_drew1) | exact HB.out)⟩
      · rw [if_neg c11] at H
        exact absurd H (by simp)
end Go.Proofs.YtjieekkkaekclaaGreatDoor.PR
namespace Go.Proofs.YtjieekkkaekclaaGreatDoor
open Go Go.RowKit Go.Proofs.YtjieekkkaekclaaGreatDoorW.PrintWords Go.Proofs.YtjieekkkaekclaaGreatDoor.PR
theorem u64_wrap (n : Int) : 0 ≤ IntKind.u64.wrap n ∧ IntKind.u64.wrap n < 18446744073709551616 := by
  simp only [IntKind.wrap, IntKind.signed, IntKind.bits]
  simp
  omega
theorem u64_id {n : Int} (h0 : 0 ≤ n) (h1 : n < 18446744073709551616) : IntKind.u64.wrap n = n := by
  simp only [IntKind.wrap, IntKind.signed, IntKind.bits]
  simp
  omega
theorem turnFin_nonneg (m : Int) : 0 ≤ turnFin (turnOut m) := by
  unfold turnFin
  have h := u64_wrap (turnSt m * 5840696475078001361)
  have e : turnOut m = (((turnOut m).toNat : Nat) : Int) := by unfold turnOut; omega
  have hb : (turnOut m).toNat < 18446744073709551616 := by unfold turnOut; omega
  rw [e, show (536870912 : Int) = ((536870912 : Nat) : Int) from rfl, xorShift_u64 _ _ hb]
  exact Int.ediv_nonneg (Int.natCast_nonneg _) (by omega)
def At (b a : Int) : Prop := 0 ≤ a ∧ a ≤ b
theorem At.mono {b c a : Int} (h : At b a) (hc : b ≤ c) : At c a := ⟨h.1, Int.le_trans h.2 hc⟩
theorem turn_ok (l : List Int) (a st : Int) {b : Int} (h : At b a) (hb : b < 1000000) : ∃ r st', metewandkit_Rod_turn.f l a st = some (r, a + 1, st') ∧ 0 ≤ r := by
  unfold metewandkit_Rod_turn.f
  obtain ⟨h0, h1⟩ := h
  refine ⟨_, _, by rw [if_pos h0, w_id (by omega) (by omega)], turnFin_nonneg _⟩
theorem up_ok (l : List Int) (a st n : Int) {b : Int} (h : At b a) (hb : b < 1000000) (hn : n < 1000000000) : ∃ r st', metewandkit_Rod_Up.f l a st n = some (r, a + 1, st') ∧ 0 ≤ r ∧ (n < 1 → r = 0) ∧ (1 ≤ n → r ≤ n) := by
  obtain ⟨r, st', e, h0⟩ := turn_ok l a st h hb
  unfold metewandkit_Rod_Up.f
  rw [e]
  simp only [Option.bind_some]
  by_cases c : n < 1
  · exact ⟨0, st', by rw [if_pos c], by omega, fun _ => rfl, fun h => by omega⟩
  · have w1 : IntKind.u64.wrap n = n := u64_id (by omega) (by omega)
    have w2 : IntKind.u64.wrap (n + 1) = n + 1 := u64_id (by omega) (by omega)
    have m0 := Int.tmod_nonneg (n + 1) h0
    have m1 := Int.tmod_lt_of_pos r (show 0 < n + 1 by omega)
    refine ⟨Int.tmod r (n + 1), st', ?_, m0, fun h => absurd h c, fun _ => by omega⟩
    have w3 : wrap64 (Int.tmod r (n + 1)) = Int.tmod r (n + 1) := w_id (by omega) (by omega)
    rw [if_neg c, w1, w2, if_neg (by clear w1 w2 w3; omega), w3]
theorem from_ok (l : List Int) (a st lo hi : Int) {b : Int} (h : At b a) (hb : b < 1000000) (h1 : -1000000 ≤ lo) (h2 : lo ≤ 1000000) (h3 : hi ≤ 1000000) (h4 : -1000000 ≤ hi) : ∃ r st', metewandkit_Rod_From.f l a st lo hi = some (r, a + 1, st') ∧ lo ≤ r ∧ (lo ≤ hi → r ≤ hi) ∧ (hi < lo → r = lo) := by
  have w1 : wrap64 (hi - lo) = hi - lo := w_id (by omega) (by omega)
  obtain ⟨r, st', e, p1, p2, p3⟩ := up_ok l a st (hi - lo) h hb (by clear w1; omega)
  unfold metewandkit_Rod_From.f
  rw [w1, e]
  simp only [Option.bind_some]
  clear w1 e
  have hr : r ≤ 2000000 := by
    by_cases c : hi - lo < 1
    · rw [p2 c]; omega
    · have := p3 (by omega); omega
  refine ⟨lo + r, st', by rw [w_id (by omega) (by omega)], by omega, fun hc => ?_, fun hc => ?_⟩
  · by_cases c : hi - lo < 1
    · rw [p2 c]; omega
    · have := p3 (by omega); omega
  · rw [p2 (by omega)]; omega
theorem digit_ok (n : Int) (h0 : 0 ≤ n) (h1 : n < 10) : metewandkit_Digit.f n = some (Mw.B [Mw.dgt n.toNat]) := by
  unfold metewandkit_Digit.f
  have e : Int.tmod n 10 = n := Int.tmod_eq_of_lt h0 h1
  rw [e, strOf_nums]
  simp only [List.map_cons, List.map_nil]
  rw [byte_dgt h0 h1]
end Go.Proofs.YtjieekkkaekclaaGreatDoor
namespace Go.Proofs.YtjieekkkaekclaaGreatDoor
open Go Go.RowKit Go.Proofs.YtjieekkkaekclaaGreatDoorW.PrintWords Go.Proofs.YtjieekkkaekclaaGreatDoor.PR
theorem terr_Sz {n : Int} (h : Mw.Sz 400 n) : Mw.terr (Mw.itxt n) = 0 := by
  unfold Mw.terr
  rw [if_pos (Mw.okf_itxt n), Mw.unm_itxt, if_neg (by have := h.len (by omega); omega)]
end Go.Proofs.YtjieekkkaekclaaGreatDoor
namespace Go.Proofs.YtjieekkkaekclaaGreatDoor.PR
open Go.RowKit Go.Proofs.YtjieekkkaekclaaGreatDoorW.PrintWords Go.Proofs.YtjieekkkaekclaaGreatDoorW.PrintLast Go.Proofs.YtjieekkkaekclaaGreatDoorW.PrintMore
attribute [local go_sem] max2_int min2_int max_two min_two max_three min_three max_four min_four
set_option linter.unusedVariables false
set_option linter.unusedSimpArgs false
def metewandkit_EqTexts.l0 : Nat → List ByteArray → List ByteArray → Int → Option (Bool)
  | 0, _, _, _ => none
  | k + 1, x0, x1, x5 => if x5 < (x0.length : Int) then (if 0 ≤ x5 then (if x5 < (x1.length : Int) then (if (rdOf ByteArray.empty x0 x5).toList = (rdOf ByteArray.empty x1 x5).toList then (metewandkit_EqTexts.l0 k x0 x1 (wrap64 (x5 + 1))) else (some false)) else (none)) else (none)) else (some true)
def metewandkit_EqTexts.f (k : Nat) (l0 : List ByteArray) (l1 : List ByteArray) : Option (Bool) := if (l0.length : Int) = (l1.length : Int) then (metewandkit_EqTexts.l0 k l0 l1 0) else (some false)
set_option maxHeartbeats 8000000 in
set_option maxRecDepth 100000 in
theorem metewandkit_EqTexts.calls (k : Nat) (A0 : Option Addr) (c0 : Nat) (l0 : List ByteArray) (A1 : Option Addr) (c1 : Nat) (l1 : List ByteArray) (r : Bool) (w : World) (hr0 : Kd.C Kd.string w A0 l0.length l0) (hc0 : l0.length ≤ c0) (hr1 : Kd.C Kd.string w A1 l1.length l1) (hc1 : l1.length ≤ c1) (h : metewandkit_EqTexts.f k l0 l1 = some r) :
    Calls Tryz.prog 28 #[.slice A0 l0.length c0, .slice A1 l1.length c1] w fun e w' => e = .returned (.bool r) ∧ Drawn0 w w' := by
  have HR0 := Aside0.mk hr0
  have HC0 := Aside0.mk hc0
  clear hr0 hc0
  have HR1 := Aside0.mk hr1
  have HC1 := Aside0.mk hc1
  clear hr1 hc1
  have H : (if (l0.length : Int) = (l1.length : Int) then (metewandkit_EqTexts.l0 k l0 l1 0) else (some false)) = some r := h
  clear h
  by_cases c3 : (l0.length : Int) = (l1.length : Int)
  · rw [if_pos c3] at H
    have c3b0 : ((l0.length : Int) == (l1.length : Int)) = true := beq_iff_eq.mpr c3
    have c3b1 : ((l0.length : Int) != (l1.length : Int)) = false := bne_eq_false_iff_eq.mpr c3
    have c3b2 : (l0.length == l1.length) = true := by first | simpa using c3 | (simp at c3 ⊢; omega)
    clear c3
    have H' := Aside0.mk H
    clear H
    go_enter Tryz.func28, Tryz.ntmps28
    go_wp2
    repeat (go_quiet (fail); try go_wp2)
    go_loopg [5] k (fun kq v5 w' => ∃ (x5_1 : Int), v5 = .int .i64 x5_1 ∧ Aside0 (metewandkit_EqTexts.l0 kq l0 l1 x5_1 = some r) ∧ Aside0 (kq ≤ k) ∧ Drawn0 w w')
    case atStart => exact ⟨(0), (by first | rfl | (simp; done) | (simp [*]; done)), H', ⟨Nat.le_refl _⟩, by repeat (first | exact Drawn0.refl _ | apply Drawn0.step)⟩
    case round =>
      clear H'
      try clear c1
      try clear c2
      try clear p2
      try clear c3
      try clear c3b0
      try clear c3b1
      try clear c3b2
      obtain ⟨x5_1, rfl, HA, HK1, ⟨m1, rfl⟩⟩ := hrel
      cases gk with
      | zero => exact absurd HA.out (by simp [metewandkit_EqTexts.l0])
      | succ k1 =>
        have H := HA.out
        clear HA
        simp only [metewandkit_EqTexts.l0] at H
        by_cases c4 : x5_1 < (l0.length : Int)
        · rw [if_pos c4] at H
          have c4b0 : decide (x5_1 < (l0.length : Int)) = true := decide_eq_true c4
          clear c4
          by_cases c5 : 0 ≤ x5_1
          · rw [if_pos c5] at H
            have c5b0 : decide (0 ≤ x5_1) = true := decide_eq_true c5
            clear c5
            by_cases c6 : x5_1 < (l1.length : Int)
            · rw [if_pos c6] at H
              have c6b0 : decide (x5_1 < (l1.length : Int)) = true := decide_eq_true c6
              clear c6
              by_cases c7 : (rdOf ByteArray.empty l0 x5_1).toList = (rdOf ByteArray.empty l1 x5_1).toList
              · rw [if_pos c7] at H
                have c7b0 : ((rdOf ByteArray.empty l0 x5_1).toList == (rdOf ByteArray.empty l1 x5_1).toList) = true := beq_iff_eq.mpr c7
                have c7b1 : ((rdOf ByteArray.empty l0 x5_1).toList != (rdOf ByteArray.empty l1 x5_1).toList) = false := bne_eq_false_iff_eq.mpr c7
                clear c7
                have H' := Aside0.mk H
                clear H
                have p424 : 0 ≤ (x5_1 : Int) := of_decide_eq_true (by first | (with_reducible assumption) | assumption)
                have q424 : x5_1 < (l0.length : Int) := of_decide_eq_true (by first | (with_reducible assumption) | assumption)
                obtain ⟨ad424, e424, hx424_0⟩ := Kd.at_string HR0.out x5_1 p424 q424
                cases e424
                replace p424 := eq_true p424
                replace q424 := eq_true q424
                have p425 : 0 ≤ (x5_1 : Int) := of_decide_eq_true (by first | (with_reducible assumption) | assumption)
                have q425 : x5_1 < (l1.length : Int) := of_decide_eq_true (by first | (with_reducible assumption) | assumption)
                obtain ⟨ad425, e425, hx425_0⟩ := Kd.at_string HR1.out x5_1 p425 q425
                cases e425
                replace p425 := eq_true p425
                replace q425 := eq_true q425
                go_wp2
                repeat (go_quiet (fail); try go_wp2)
                go_roundg k1
                case measure => have := HK1.out; omega
                case rel => exact ⟨(wrap64 (x5_1 + 1)), (by first | rfl | (simp; done) | (simp [*]; done)), H', ⟨by have := HK1.out; omega⟩, by repeat (first | exact Drawn0.refl _ | apply Drawn0.step)⟩
              · rw [if_neg c7] at H
                have c7b0 : ((rdOf ByteArray.empty l0 x5_1).toList == (rdOf ByteArray.empty l1 x5_1).toList) = false := beq_eq_false_iff_ne.mpr c7
                have c7b1 : ((rdOf ByteArray.empty l0 x5_1).toList != (rdOf ByteArray.empty l1 x5_1).toList) = true := bne_iff_ne.mpr c7
                obtain rfl := Option.some.inj H
                have p424 : 0 ≤ (x5_1 : Int) := of_decide_eq_true (by first | (with_reducible assumption) | assumption)
                have q424 : x5_1 < (l0.length : Int) := of_decide_eq_true (by first | (with_reducible assumption) | assumption)
                obtain ⟨ad424, e424, hx424_0⟩ := Kd.at_string HR0.out x5_1 p424 q424
                cases e424
                replace p424 := eq_true p424
                replace q424 := eq_true q424
                have p425 : 0 ≤ (x5_1 : Int) := of_decide_eq_true (by first | (with_reducible assumption) | assumption)
                have q425 : x5_1 < (l1.length : Int) := of_decide_eq_true (by first | (with_reducible assumption) | assumption)
                obtain ⟨ad425, e425, hx425_0⟩ := Kd.at_string HR1.out x5_1 p425 q425
                cases e425
                replace p425 := eq_true p425
                replace q425 := eq_true q425
                go_wp2
                repeat (go_quiet (fail); try go_wp2)
                go_ret
                exact ⟨by first | rfl | (simp; done) | (simp [*]; done), by repeat (first | exact Drawn0.refl _ | apply Drawn0.step)⟩
            · rw [if_neg c6] at H
              exact absurd H (by simp)
          · rw [if_neg c5] at H
            exact absurd H (by simp)
        · rw [if_neg c4] at H
          have c4b0 : decide (x5_1 < (l0.length : Int)) = false := decide_eq_false c4
          clear c4
          obtain rfl := Option.some.inj H
          go_wp2
          repeat (go_quiet (fail); try go_wp2)
          go_ret
          exact ⟨by first | rfl | (simp; done) | (simp [*]; done), by repeat (first | exact Drawn0.refl _ | apply Drawn0.step)⟩
  · rw [if_neg c3] at H
    have c3b0 : ((l0.length : Int) == (l1.length : Int)) = false := beq_eq_false_iff_ne.mpr c3
    have c3b1 : ((l0.length : Int) != (l1.length : Int)) = true := bne_iff_ne.mpr c3
    have c3b2 : (l0.length == l1.length) = false := by first | simpa using c3 | (simp at c3 ⊢; omega)
    obtain rfl := Option.some.inj H
    go_enter Tryz.func28, Tryz.ntmps28
    go_wp2
    repeat (go_quiet (fail); try go_wp2)
    go_ret
    exact ⟨by first | rfl | (simp; done) | (simp [*]; done), by repeat (first | exact Drawn0.refl _ | apply Drawn0.step)⟩
end Go.Proofs.YtjieekkkaekclaaGreatDoor.PR
namespace Go.Proofs.YtjieekkkaekclaaGreatDoor
open Go Go.RowKit Go.Proofs.YtjieekkkaekclaaGreatDoorW.PrintWords Go.Proofs.YtjieekkkaekclaaGreatDoor.PR
theorem dec_nat (n : Nat) : n < 1000000000000 → EvP (fun k => metewandkit_Decimal.f k (n : Int)) (Mw.B (Mw.dtxt n)) ∧ (Mw.dtxt n).length ≤ 12 := by
  induction n using Nat.strongRecOn with
  | _ n ih =>
    intro hn
    have hlen : (Mw.dtxt n).length ≤ 12 := (Mw.dtxt_len_le n 12 (by omega)).mpr (by omega)
    refine ⟨?_, hlen⟩
    by_cases h : n < 10
    · refine EvP.step (f := fun _ => some (Mw.B (Mw.dtxt n))) (fun k => ?_) (EvP.now _)
      simp only [metewandkit_Decimal.f]
      rw [if_neg (by omega), if_pos (by omega), digit_ok _ (by omega) (by omega), Mw.dtxt_small h, Int.toNat_natCast]; rfl
    · obtain ⟨he, hl⟩ := ih (n / 10) (by omega) (by omega)
      refine EvP.step (f := fun k => (metewandkit_Decimal.f k ((n / 10 : Nat) : Int)).bind fun t => if t.size + (Mw.B [Mw.dgt (n % 10)]).size ≤ 9223372036854775807 then some (t ++ Mw.B [Mw.dgt (n % 10)]) else none) (fun k => ?_) ?_
      · simp only [metewandkit_Decimal.f]
        rw [if_neg (by omega), if_neg (by omega), show wrap64 (Int.tdiv (n : Int) 10) = ((n / 10 : Nat) : Int) by rw [show Int.tdiv (n : Int) 10 = ((n / 10 : Nat) : Int) from rfl]; exact w_id (by omega) (by omega),
          show Int.tmod (n : Int) 10 = ((n % 10 : Nat) : Int) from rfl, digit_ok _ (by omega) (by omega), Int.toNat_natCast]
        rfl
      · refine EvP.bind he (EvP.ipos (by rw [B_size, B_size]; simp only [List.length_cons, List.length_nil]; omega) ?_)
        rw [B_append, ← Mw.dtxt_big (by omega)]
        exact EvP.now _
theorem dec_ev (n : Int) (h : n.natAbs < 1000000000000) : EvP (fun k => metewandkit_Decimal.f k n) (Mw.T n) := by
  by_cases h0 : n < 0
  · obtain ⟨he, hl⟩ := dec_nat n.natAbs h
    refine EvP.step (f := fun k => (metewandkit_Decimal.f k ((n.natAbs : Nat) : Int)).bind fun t => if 1 + t.size ≤ 9223372036854775807 then some ((⟨#[45]⟩ : ByteArray) ++ t) else none) (fun k => ?_) ?_
    · simp only [metewandkit_Decimal.f]
      rw [if_pos h0, show wrap64 (-n) = (n.natAbs : Int) by rw [w_id (by omega) (by omega)]; omega]
    · refine EvP.bind he ?_
      refine EvP.ipos (by rw [B_size]; omega) ?_
      rw [show (⟨#[45]⟩ : ByteArray) = Mw.B [45] from rfl, B_append, Mw.T, Mw.itxt_neg h0]
      exact EvP.now _
  · obtain ⟨he, _⟩ := dec_nat n.natAbs h
    rw [Mw.T, Mw.itxt_nonneg (by omega)]
    have e : ((n.natAbs : Nat) : Int) = n := by omega
    rw [e] at he; exact he
theorem bts_nil : bts ((([] : List Nat)).map Mw.dtxt) = [] := rfl
theorem bts_cons (p : Nat) (l : List Nat) : bts ((p :: l).map Mw.dtxt) = Mw.T (p : Int) :: bts (l.map Mw.dtxt) := by
  rw [Mw.T, Mw.itxt_nonneg (by omega), Int.natAbs_natCast]; rfl
def NoDiv (d n : Nat) : Prop := ∀ e, 2 ≤ e → e < d → n % e ≠ 0
theorem NoDiv.le {d n : Nat} (h : NoDiv d n) (h1 : 1 < n) : d ≤ n := by
  rcases Nat.lt_or_ge n d with h2 | h2
  · exact absurd (Nat.mod_self n) (h n (by omega) h2)
  · exact h2
theorem NoDiv.next {d n : Nat} (h : NoDiv d n) (h1 : n % d ≠ 0) : NoDiv (d + 1) n := fun e h2 h3 => by
  rcases Nat.lt_or_ge e d with h4 | h4
  · exact h e h2 h4
  · rw [show e = d by omega]; exact h1
theorem wfactor_B {l : List UInt8} (h : l.length ≤ 1000) : whole_Factor.f (Mw.B l) = some (bts (Mw.factor l).1, (Mw.factor l).2) := by
  unfold whole_Factor.f
  rw [if_pos (by rw [B_size]; omega), B_list]
end Go.Proofs.YtjieekkkaekclaaGreatDoor
namespace Go.Proofs.YtjieekkkaekclaaGreatDoor
open Go Go.RowKit Go.Proofs.YtjieekkkaekclaaGreatDoorW.PrintWords Go.Proofs.YtjieekkkaekclaaGreatDoor.PR
theorem counted_f : metewandlaw01_counted.f = some true := rfl
end Go.Proofs.YtjieekkkaekclaaGreatDoor
