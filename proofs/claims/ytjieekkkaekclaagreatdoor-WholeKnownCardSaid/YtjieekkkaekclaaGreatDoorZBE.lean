/- Lemmas for the claim beside this text. -/
import Derived.Test.YtjieekkkaekclaaGreatDoorProg
import Derived.Test.YtjieekkkaekclaaGreatDoorZAB
import Derived.Test.YtjieekkkaekclaaGreatDoorZAE
import Derived.Test.YtjieekkkaekclaaGreatDoorZAF
import Derived.Test.YtjieekkkaekclaaGreatDoorZAS
import Derived.Test.YtjieekkkaekclaaGreatDoorZAT
import Derived.Test.YtjieekkkaekclaaGreatDoorZAU
import Derived.Test.YtjieekkkaekclaaGreatDoorZAV
import Derived.Test.YtjieekkkaekclaaGreatDoorZAX
import Derived.Test.YtjieekkkaekclaaGreatDoorZBD
import Derived.ArgAppend
import Derived.Below
import Derived.BigQuiet
import Derived.Deep.AppendLies
import Derived.Deep.CutBlock
import Derived.Deep.DeepCutAuto
import Derived.Deep.Draws
import Derived.Deep.LoopGhost
import Derived.Deep.OwnRows
import Derived.Deep.QuietTactic
import Derived.Deep.RegionHeld3
import Derived.KernelRfl
import Derived.Laws.BitsLemmas
import Derived.Laws.BytesArg
import Derived.Laws.IdiomCopy
import Derived.Laws.MakeOwn
import Derived.Laws.OwnMore
import Derived.Laws.Rows
import Derived.Laws.Slices
import Derived.Laws.StructEq
import Derived.Lib.AppendStr
import Derived.Lib.ConvBytes
import Derived.Maps.AppendAt
import Derived.OrdersHeld
import Derived.OwnWalk
import Derived.RowKit
import Derived.RowKit3
import Derived.Tactics
import Derived.WalkKit
import Derived.WideLaws
set_option linter.all false
set_option linter.unusedVariables false
set_option linter.unusedSimpArgs false
namespace Go.Proofs.YtjieekkkaekclaaGreatDoor.PW
open Go.RowKit Go.Proofs.YtjieekkkaekclaaGreatDoorW.PrintWords Go.Proofs.YtjieekkkaekclaaGreatDoorW.PrintLast Go.Proofs.YtjieekkkaekclaaGreatDoorW.PrintMore
attribute [local go_sem] max2_int min2_int max_two min_two max_three min_three max_four min_four
set_option linter.unusedVariables false
set_option linter.unusedSimpArgs false
def errW : Option Int → Value
  | none => .nilIface
  | some c => .iface 0 (.int .i64 c)
theorem errW_none : errW none = .nilIface := rfl
theorem errW_some (c : Int) : errW (some c) = .iface 0 (.int .i64 c) := rfl
end Go.Proofs.YtjieekkkaekclaaGreatDoor.PW
namespace Go.Proofs.YtjieekkkaekclaaGreatDoor.PW
open Go.RowKit Go.Proofs.YtjieekkkaekclaaGreatDoorW.PrintWords Go.Proofs.YtjieekkkaekclaaGreatDoorW.PrintLast Go.Proofs.YtjieekkkaekclaaGreatDoorW.PrintMore
attribute [local go_sem] max2_int min2_int max_two min_two max_three min_three max_four min_four
set_option linter.unusedVariables false
set_option linter.unusedSimpArgs false
def metewandkit_EqTexts.l0 : Nat → List ByteArray → List ByteArray → Int → Option (Bool)
  | 0, _, _, _ => none
  | k + 1, x0, x1, x5 => if x5 < (x0.length : Int) then (if 0 ≤ x5 then (if x5 < (x1.length : Int) then (if (rdOf ByteArray.empty x0 x5).toList = (rdOf ByteArray.empty x1 x5).toList then (metewandkit_EqTexts.l0 k x0 x1 (wrap64 (x5 + 1))) else (some false)) else (none)) else (none)) else (some true)
def metewandkit_EqTexts.f (k : Nat) (l0 : List ByteArray) (l1 : List ByteArray) : Option (Bool) := if (l0.length : Int) = (l1.length : Int) then (metewandkit_EqTexts.l0 k l0 l1 0) else (some false)
theorem metewandkit_EqTexts.mono_l : ∀ k, (∀ y0 y1 y2, LeO (metewandkit_EqTexts.l0 k y0 y1 y2) (metewandkit_EqTexts.l0 (k + 1) y0 y1 y2))
  | 0 => fun _ _ _ r h => by simp [metewandkit_EqTexts.l0] at h
  | k + 1 => by
    have ih0 := metewandkit_EqTexts.mono_l k
    · intro y0 y1 y2
      unfold metewandkit_EqTexts.l0
      repeat' first
      | (with_reducible exact ih0 _ _ _)
      | (with_reducible exact LeO.refl _)
      | (with_reducible exact LeO.none _)
      | (with_reducible refine LeO.ite ?_ ?_)
      | (with_reducible refine LeO.bind ?_ (fun _ => ?_))
      | exact ih0 _ _ _
      | exact LeO.none _
      | refine LeO.ite ?_ ?_
      | refine LeO.bind ?_ (fun _ => ?_)
theorem metewandkit_EqTexts.mono : ∀ a0 a1 k, LeO (metewandkit_EqTexts.f k a0 a1) (metewandkit_EqTexts.f (k + 1) a0 a1) := by
  intro a0 a1 k
  have ih0 := metewandkit_EqTexts.mono_l k
  unfold metewandkit_EqTexts.f
  repeat' first
      | (with_reducible exact ih0 _ _ _)
      | (with_reducible exact LeO.refl _)
      | (with_reducible exact LeO.none _)
      | (with_reducible refine LeO.ite ?_ ?_)
      | (with_reducible refine LeO.bind ?_ (fun _ => ?_))
      | exact ih0 _ _ _
      | exact LeO.none _
      | refine LeO.ite ?_ ?_
      | refine LeO.bind ?_ (fun _ => ?_)
set_option maxHeartbeats 8000000 in
set_option maxRecDepth 100000 in
theorem metewandkit_EqTexts.calls (k : Nat) (A0 : Option Addr) (c0 : Nat) (l0 : List ByteArray) (A1 : Option Addr) (c1 : Nat) (l1 : List ByteArray) (r : Bool) (w : World) (hr0 : Kd.C Kd.string w A0 l0.length l0) (hc0 : l0.length ≤ c0) (hr1 : Kd.C Kd.string w A1 l1.length l1) (hc1 : l1.length ≤ c1) (h : metewandkit_EqTexts.f k l0 l1 = some r) :
    Calls Tryz.prog 28 #[.slice A0 l0.length c0, .slice A1 l1.length c1] w fun e w' => e = .returned (.bool r) ∧ Drawn0 w w' := by
  have HR0 := Aside0.mk hr0
  have HC0 := Aside0.mk hc0
  clear hr0 hc0
  have HR1 := Aside0.mk hr1
  have HC1 := Aside0.mk hc1
  clear hr1 hc1
  have H : (if (l0.length : Int) = (l1.length : Int) then (metewandkit_EqTexts.l0 k l0 l1 0) else (some false)) = some r := h
  clear h
  by_cases c3 : (l0.length : Int) = (l1.length : Int)
  · rw [if_pos c3] at H
    have c3b0 : ((l0.length : Int) == (l1.length : Int)) = true := beq_iff_eq.mpr c3
    have c3b1 : ((l0.length : Int) != (l1.length : Int)) = false := bne_eq_false_iff_eq.mpr c3
    have c3b2 : (l0.length == l1.length) = true := by first | simpa using c3 | (simp at c3 ⊢; omega)
    clear c3
    have H' := Aside0.mk H
    clear H
    go_enter Tryz.func28, Tryz.ntmps28
    go_wp2
    repeat (go_quiet (fail); try go_wp2)
    go_loopg [5] k (fun kq v5 w' => ∃ (x5_1 : Int), v5 = .int .i64 x5_1 ∧ Aside0 (metewandkit_EqTexts.l0 kq l0 l1 x5_1 = some r) ∧ Aside0 (kq ≤ k) ∧ Drawn0 w w')
    case atStart => exact ⟨(0), (by first | rfl | (simp; done) | (simp [*]; done)), H', ⟨Nat.le_refl _⟩, by repeat (first | exact Drawn0.refl _ | apply Drawn0.step)⟩
    case round =>
      clear H'
      try clear c1
      try clear c2
      try clear p2
      try clear c3
      try clear c3b0
      try clear c3b1
      try clear c3b2
      obtain ⟨x5_1, rfl, HA, HK1, ⟨m1, rfl⟩⟩ := hrel
      cases gk with
      | zero => exact absurd HA.out (by simp [metewandkit_EqTexts.l0])
      | succ k1 =>
        have H := HA.out
        clear HA
        simp only [metewandkit_EqTexts.l0] at H
        by_cases c4 : x5_1 < (l0.length : Int)
        · rw [if_pos c4] at H
          have c4b0 : decide (x5_1 < (l0.length : Int)) = true := decide_eq_true c4
          clear c4
          by_cases c5 : 0 ≤ x5_1
          · rw [if_pos c5] at H
            have c5b0 : decide (0 ≤ x5_1) = true := decide_eq_true c5
            clear c5
            by_cases c6 : x5_1 < (l1.length : Int)
            · rw [if_pos c6] at H
              have c6b0 : decide (x5_1 < (l1.length : Int)) = true := decide_eq_true c6
              clear c6
              by_cases c7 : (rdOf ByteArray.empty l0 x5_1).toList = (rdOf ByteArray.empty l1 x5_1).toList
              · rw [if_pos c7] at H
                have c7b0 : ((rdOf ByteArray.empty l0 x5_1).toList == (rdOf ByteArray.empty l1 x5_1).toList) = true := beq_iff_eq.mpr c7
                have c7b1 : ((rdOf ByteArray.empty l0 x5_1).toList != (rdOf ByteArray.empty l1 x5_1).toList) = false := bne_eq_false_iff_eq.mpr c7
                clear c7
                have H' := Aside0.mk H
                clear H
                have p101 : 0 ≤ (x5_1 : Int) := of_decide_eq_true (by first | (with_reducible assumption) | assumption)
                have q101 : x5_1 < (l0.length : Int) := of_decide_eq_true (by first | (with_reducible assumption) | assumption)
                obtain ⟨ad101, e101, hx101_0⟩ := Kd.at_string HR0.out x5_1 p101 q101
                cases e101
                replace p101 := eq_true p101
                replace q101 := eq_true q101
                have p102 : 0 ≤ (x5_1 : Int) := of_decide_eq_true (by first | (with_reducible assumption) | assumption)
                have q102 : x5_1 < (l1.length : Int) := of_decide_eq_true (by first | (with_reducible assumption) | assumption)
                obtain ⟨ad102, e102, hx102_0⟩ := Kd.at_string HR1.out x5_1 p102 q102
                cases e102
                replace p102 := eq_true p102
                replace q102 := eq_true q102
                go_wp2
                repeat (go_quiet (fail); try go_wp2)
                go_roundg k1
                case measure => have := HK1.out; omega
                case rel => exact ⟨(wrap64 (x5_1 + 1)), (by first | rfl | (simp; done) | (simp [*]; done)), H', ⟨by have := HK1.out; omega⟩, by repeat (first | exact Drawn0.refl _ | apply Drawn0.step)⟩
              · rw [if_neg c7] at H
                have c7b0 : ((rdOf ByteArray.empty l0 x5_1).toList == (rdOf ByteArray.empty l1 x5_1).toList) = false := beq_eq_false_iff_ne.mpr c7
                have c7b1 : ((rdOf ByteArray.empty l0 x5_1).toList != (rdOf ByteArray.empty l1 x5_1).toList) = true := bne_iff_ne.mpr c7
                obtain rfl := Option.some.inj H
                have p101 : 0 ≤ (x5_1 : Int) := of_decide_eq_true (by first | (with_reducible assumption) | assumption)
                have q101 : x5_1 < (l0.length : Int) := of_decide_eq_true (by first | (with_reducible assumption) | assumption)
                obtain ⟨ad101, e101, hx101_0⟩ := Kd.at_string HR0.out x5_1 p101 q101
                cases e101
                replace p101 := eq_true p101
                replace q101 := eq_true q101
                have p102 : 0 ≤ (x5_1 : Int) := of_decide_eq_true (by first | (with_reducible assumption) | assumption)
                have q102 : x5_1 < (l1.length : Int) := of_decide_eq_true (by first | (with_reducible assumption) | assumption)
                obtain ⟨ad102, e102, hx102_0⟩ := Kd.at_string HR1.out x5_1 p102 q102
                cases e102
                replace p102 := eq_true p102
                replace q102 := eq_true q102
                go_wp2
                repeat (go_quiet (fail); try go_wp2)
                go_ret
                exact ⟨by first | rfl | (simp; done) | (simp [*]; done), by repeat (first | exact Drawn0.refl _ | apply Drawn0.step)⟩
            · rw [if_neg c6] at H
              exact absurd H (by simp)
          · rw [if_neg c5] at H
            exact absurd H (by simp)
        · rw [if_neg c4] at H
          have c4b0 : decide (x5_1 < (l0.length : Int)) = false := decide_eq_false c4
          clear c4
          obtain rfl := Option.some.inj H
          go_wp2
          repeat (go_quiet (fail); try go_wp2)
          go_ret
          exact ⟨by first | rfl | (simp; done) | (simp [*]; done), by repeat (first | exact Drawn0.refl _ | apply Drawn0.step)⟩
  · rw [if_neg c3] at H
    have c3b0 : ((l0.length : Int) == (l1.length : Int)) = false := beq_eq_false_iff_ne.mpr c3
    have c3b1 : ((l0.length : Int) != (l1.length : Int)) = true := bne_iff_ne.mpr c3
    have c3b2 : (l0.length == l1.length) = false := by first | simpa using c3 | (simp at c3 ⊢; omega)
    obtain rfl := Option.some.inj H
    go_enter Tryz.func28, Tryz.ntmps28
    go_wp2
    repeat (go_quiet (fail); try go_wp2)
    go_ret
    exact ⟨by first | rfl | (simp; done) | (simp [*]; done), by repeat (first | exact Drawn0.refl _ | apply Drawn0.step)⟩
end Go.Proofs.YtjieekkkaekclaaGreatDoor.PW
namespace Go.Proofs.YtjieekkkaekclaaGreatDoor
open Go Go.RowKit Go.Proofs.YtjieekkkaekclaaGreatDoorW.PrintWords
theorem drawn0_below {w w' : World} (h : Drawn0 w w') : Below w.heap.size w w' := by obtain ⟨d, rfl⟩ := h; exact ⟨rfl, rfl, rfl, Nat.le_refl _, fun _ _ => rfl⟩
theorem kn_Mul_0 (W : World) (hg : Ety W) (ht : Tab W) : Calls Tryz.prog 45 #[.string ⟨#[45, 49, 50, 51, 52, 53]⟩, .string ⟨#[54, 55, 56, 57]⟩] W fun e w' => e = .returned (.tuple #[.string ⟨#[45, 56, 51, 56, 49, 48, 50, 48, 53]⟩, .int .i64 (0)]) ∧ Below W.heap.size W w' := by
  have h := wmul_any (⟨#[45, 49, 50, 51, 52, 53]⟩ : ByteArray) (⟨#[54, 55, 56, 57]⟩ : ByteArray) W (by decide) (by decide) hg ht
  rw [show Mw.both (fun a b => a * b) (⟨#[45, 49, 50, 51, 52, 53]⟩ : ByteArray).data.toList (⟨#[54, 55, 56, 57]⟩ : ByteArray).data.toList = ([45, 56, 51, 56, 49, 48, 50, 48, 53], 0) from by decide +kernel] at h
  exact h
theorem kn_Floor_1 (W : World) (hg : Ety W) (ht : Tab W) : Calls Tryz.prog 38 #[.string ⟨#[45, 55]⟩, .string ⟨#[50]⟩] W fun e w' => e = .returned (.tuple #[.string ⟨#[45, 52]⟩, .string ⟨#[49]⟩, .int .i64 (0)]) ∧ Below W.heap.size W w' := by
  have h := wfloor_any (⟨#[45, 55]⟩ : ByteArray) (⟨#[50]⟩ : ByteArray) W (by decide) (by decide) hg ht
  rw [show Mw.parted Int.fdiv Int.fmod (⟨#[45, 55]⟩ : ByteArray).data.toList (⟨#[50]⟩ : ByteArray).data.toList = ([45, 52], [49], 0) from by decide +kernel] at h
  exact h
theorem kn_Gcd_2 (W : World) (hg : Ety W) (ht : Tab W) : Calls Tryz.prog 21 #[.string ⟨#[49, 50]⟩, .string ⟨#[49, 56]⟩] W fun e w' => e = .returned (.tuple #[.string ⟨#[54]⟩, .string ⟨#[50]⟩, .string ⟨#[45, 49]⟩, .int .i64 (0)]) ∧ Below W.heap.size W w' := by
  have h := gcd_any (⟨#[49, 50]⟩ : ByteArray) (⟨#[49, 56]⟩ : ByteArray) W (by decide) (by decide) hg ht
  rw [show Mw.gcd (⟨#[49, 50]⟩ : ByteArray).data.toList (⟨#[49, 56]⟩ : ByteArray).data.toList = ([54], [50], [45, 49], 0) from by decide +kernel] at h
  exact h
theorem kn_PowMod_3 (W : World) (hg : Ety W) (ht : Tab W) : Calls Tryz.prog 49 #[.string ⟨#[51]⟩, .string ⟨#[49, 48, 48]⟩, .string ⟨#[55]⟩] W fun e w' => e = .returned (.tuple #[.string ⟨#[52]⟩, .int .i64 (0)]) ∧ Below W.heap.size W w' := by
  have h := powmod_any (⟨#[51]⟩ : ByteArray) (⟨#[49, 48, 48]⟩ : ByteArray) (⟨#[55]⟩ : ByteArray) W (by decide) (by decide) (by decide) hg ht
  rw [show Mw.wpm (⟨#[51]⟩ : ByteArray).data.toList (⟨#[49, 48, 48]⟩ : ByteArray).data.toList (⟨#[55]⟩ : ByteArray).data.toList = ([52], 0) from by decide +kernel] at h
  exact h
theorem kn_Base_4 (W : World) (hg : Ety W) (ht : Tab W) : Calls Tryz.prog 61 #[.string ⟨#[45, 50, 53, 53]⟩, .int .i64 (16)] W fun e w' => e = .returned (.tuple #[.string ⟨#[45, 102, 102]⟩, .int .i64 (0)]) ∧ Below W.heap.size W w' := by
  have h := base_any (⟨#[45, 50, 53, 53]⟩ : ByteArray) (16) W (by decide) hg ht
  rw [show Mw.wbase (⟨#[45, 50, 53, 53]⟩ : ByteArray).data.toList (16) = ([45, 102, 102], 0) from by decide +kernel] at h
  exact h
theorem kn_Root_5 (W : World) (hg : Ety W) (ht : Tab W) : Calls Tryz.prog 36 #[.string ⟨#[57, 57]⟩, .int .i64 (2)] W fun e w' => e = .returned (.tuple #[.string ⟨#[57]⟩, .int .i64 (0)]) ∧ Below W.heap.size W w' := by
  have h := root_any (⟨#[57, 57]⟩ : ByteArray) (2) W (by decide) hg ht
  rw [show Mw.wroot (⟨#[57, 57]⟩ : ByteArray).data.toList (2) = ([57], 0) from by decide +kernel] at h
  exact h
theorem kn_Factor (W : World) (hg : Ety W) (ht : Tab W) : Calls Tryz.prog 26 #[.string ⟨#[51, 54, 48]⟩] W fun e w' => ∃ v : Value, e = .returned (.tuple #[v, .int .i64 0]) ∧ Kd.R Kd.string 9 w' W.heap.size (fun _ => True) v (bts [[50], [50], [50], [51], [51], [53]]) ∧ Below W.heap.size W w' := by
  have h := factor_any (⟨#[51, 54, 48]⟩ : ByteArray) W (by decide) hg ht
  rw [show Mw.factor (⟨#[51, 54, 48]⟩ : ByteArray).data.toList = ([[50], [50], [50], [51], [51], [53]], 0) from by decide +kernel] at h
  exact h
set_option maxRecDepth 100000 in
set_option maxHeartbeats 3200000 in
theorem counted_any (w : World) (hg : Ety w) (htab : Tab w) : Calls Tryz.prog 18 #[] w fun e w' => e = .returned (.bool true) ∧ Below w.heap.size w w' := by
  have HG := Lib.hid hg
  have HTW := Lib.hid htab
  have HT := Lib.hid (Lib.tabBelow_of_tabIs htab)
  clear hg htab
  go_enter Tryz.func18, Tryz.ntmps18
  go_wp2_with (first | (go_at_call 45; have hE := HG.out; have hT := HTW.out; with_reducible refine (kn_Mul_0 _ hE hT).mono ?_; rintro e w1 ⟨rfl, hb1⟩; have HB1 := Lib.hid hb1; clear hb1 hE hT) | (go_at_call 38; have hE := HG.out.below HB1.out; have hT := HT.out _ HB1.out; with_reducible refine (kn_Floor_1 _ hE hT).mono ?_; rintro e w2 ⟨rfl, hb2⟩; have HB2 := Lib.hid (HB1.out.trans (hb2.mono HB1.out.size)); clear hb2 hE hT) | (go_at_call 21; have hE := HG.out.below HB2.out; have hT := HT.out _ HB2.out; with_reducible refine (kn_Gcd_2 _ hE hT).mono ?_; rintro e w3 ⟨rfl, hb3⟩; have HB3 := Lib.hid (HB2.out.trans (hb3.mono HB2.out.size)); clear hb3 hE hT) | (go_at_call 49; have hE := HG.out.below HB3.out; have hT := HT.out _ HB3.out; with_reducible refine (kn_PowMod_3 _ hE hT).mono ?_; rintro e w4 ⟨rfl, hb4⟩; have HB4 := Lib.hid (HB3.out.trans (hb4.mono HB3.out.size)); clear hb4 hE hT) | (go_at_call 61; have hE := HG.out.below HB4.out; have hT := HT.out _ HB4.out; with_reducible refine (kn_Base_4 _ hE hT).mono ?_; rintro e w5 ⟨rfl, hb5⟩; have HB5 := Lib.hid (HB4.out.trans (hb5.mono HB4.out.size)); clear hb5 hE hT) | (go_at_call 26; have hE := HG.out.below HB5.out; have hT := HT.out _ HB5.out; with_reducible refine (kn_Factor _ hE hT).mono ?_; rintro e w6 ⟨v6, rfl, hR6, hb6⟩; have HB6 := Lib.hid (HB5.out.trans (hb6.mono HB5.out.size)); have HR6 := Lib.hid hR6; clear hR6; clear hb6 hE hT) | (go_at_call 36; have hE := HG.out.below HB6.out; have hT := HT.out _ HB6.out; with_reducible refine (kn_Root_5 _ hE hT).mono ?_; rintro e w7 ⟨rfl, hb7⟩; have HB7 := Lib.hid (HB6.out.trans (hb7.mono HB6.out.size)); have HR7 := Lib.hid (Kd.R_below HR6.out hb7); clear hb7 hE hT))
  obtain ⟨A6, c6, rfl, hl6, hC6⟩ := Kd.R_reads HR7.out
  have hC7 : Kd.C Kd.string (w7.alloc (.cells #[.string ⟨#[50]⟩, .string ⟨#[50]⟩, .string ⟨#[50]⟩, .string ⟨#[51]⟩, .string ⟨#[51]⟩, .string ⟨#[53]⟩] 9)) (some ⟨w7.heap.size, 0, none⟩) 6 (bts [[50], [50], [50], [51], [51], [53]]) := by
    refine Kd.C_of_reads (enc := Value.string) (d := ByteArray.empty) (h1 := fun _ => rfl) ⟨rfl, by decide, fun _ => ⟨_, rfl, fun j hj => ?_⟩⟩
    match j, hj with
    | 0, _ => simp [Addr.add, bts]
    | 1, _ => simp [Addr.add, bts]
    | 2, _ => simp [Addr.add, bts]
    | 3, _ => simp [Addr.add, bts]
    | 4, _ => simp [Addr.add, bts]
    | 5, _ => simp [Addr.add, bts]
  refine (PW.metewandkit_EqTexts.calls 100 A6 c6 (bts [[50], [50], [50], [51], [51], [53]]) (some ⟨w7.heap.size, 0, none⟩) 6 (bts [[50], [50], [50], [51], [51], [53]]) true _ (Kd.C_below hC6 (below_alloc (Below.refl _ _) _)) hl6 hC7 (Nat.le_refl _) (by decide +kernel)).mono ?_
  rintro e w8 ⟨rfl, hd8⟩
  have HB8 : Hid (Below w.heap.size w w8) := Lib.hid ((HB7.out.alloc HB7.out.size _).trans ((drawn0_below hd8).mono (by have := HB7.out.size; simp; omega)))
  clear hd8 hC6 hC7
  go_wp2_with fail
  go_ret
  exact ⟨rfl, HB8.out⟩
end Go.Proofs.YtjieekkkaekclaaGreatDoor
