/- Proved: WholeKnown, the chapter's examples have the results given there: the call returns true on every schedule. Conditions: the package-level variables that its row lists hold what the program's text lays, which the card ties. -/
import Derived.Test.YtjieekkkaekclaaGreatDoorCards
import Derived.Test.YtjieekkkaekclaaGreatDoorRows
import Derived.Test.YtjieekkkaekclaaGreatDoorTie
import Derived.Test.YtjieekkkaekclaaGreatDoorZBE
import Derived.ChangeSame
import Derived.ChangeVars
import Derived.Conc.Holds
import Derived.JoinedOf
import Derived.LaidHandle
import Derived.LaidLaws
import Derived.LaidMore
import Derived.ProofKit
import Derived.RowKit
import Derived.RowKitTokens
import Derived.SevenTiedAt
import Derived.Stop.Joined
set_option linter.all false
set_option linter.unusedVariables false
set_option linter.unusedSimpArgs false
namespace Go.Proofs.YtjieekkkaekclaaGreatDoor
open Go Go.RowKit Go.Proofs.YtjieekkkaekclaaGreatDoorW.PrintWords
theorem bts_nil_len : (bts []).length = 0 := rfl
theorem kn2_0 (W : World) (hg : Ety W) (ht : Tab W) : Calls Tryz.prog 43 #[.string ⟨#[57, 57, 57, 57, 57, 57, 57, 57]⟩, .string ⟨#[49]⟩] W fun e w' => e = .returned (.tuple #[.string ⟨#[49, 48, 48, 48, 48, 48, 48, 48, 48]⟩, .int .i64 (0)]) ∧ Below W.heap.size W w' := by
  have h := wadd_any (⟨#[57, 57, 57, 57, 57, 57, 57, 57]⟩ : ByteArray) (⟨#[49]⟩ : ByteArray) W (by decide) (by decide) hg ht
  rw [show Mw.both (fun a b => a + b) (⟨#[57, 57, 57, 57, 57, 57, 57, 57]⟩ : ByteArray).data.toList (⟨#[49]⟩ : ByteArray).data.toList = ([49, 48, 48, 48, 48, 48, 48, 48, 48], 0) from by decide +kernel] at h
  exact h
theorem kn2_1 (W : World) (hg : Ety W) (ht : Tab W) : Calls Tryz.prog 43 #[.string ⟨#[45, 53]⟩, .string ⟨#[53]⟩] W fun e w' => e = .returned (.tuple #[.string ⟨#[48]⟩, .int .i64 (0)]) ∧ Below W.heap.size W w' := by
  have h := wadd_any (⟨#[45, 53]⟩ : ByteArray) (⟨#[53]⟩ : ByteArray) W (by decide) (by decide) hg ht
  rw [show Mw.both (fun a b => a + b) (⟨#[45, 53]⟩ : ByteArray).data.toList (⟨#[53]⟩ : ByteArray).data.toList = ([48], 0) from by decide +kernel] at h
  exact h
theorem kn2_2 (W : World) (hg : Ety W) (ht : Tab W) : Calls Tryz.prog 44 #[.string ⟨#[49]⟩, .string ⟨#[49, 48, 48]⟩] W fun e w' => e = .returned (.tuple #[.string ⟨#[45, 57, 57]⟩, .int .i64 (0)]) ∧ Below W.heap.size W w' := by
  have h := wsub_any (⟨#[49]⟩ : ByteArray) (⟨#[49, 48, 48]⟩ : ByteArray) W (by decide) (by decide) hg ht
  rw [show Mw.both (fun a b => a - b) (⟨#[49]⟩ : ByteArray).data.toList (⟨#[49, 48, 48]⟩ : ByteArray).data.toList = ([45, 57, 57], 0) from by decide +kernel] at h
  exact h
theorem kn2_3 (W : World) (hg : Ety W) (ht : Tab W) : Calls Tryz.prog 38 #[.string ⟨#[55]⟩, .string ⟨#[50]⟩] W fun e w' => e = .returned (.tuple #[.string ⟨#[51]⟩, .string ⟨#[49]⟩, .int .i64 (0)]) ∧ Below W.heap.size W w' := by
  have h := wfloor_any (⟨#[55]⟩ : ByteArray) (⟨#[50]⟩ : ByteArray) W (by decide) (by decide) hg ht
  rw [show Mw.parted Int.fdiv Int.fmod (⟨#[55]⟩ : ByteArray).data.toList (⟨#[50]⟩ : ByteArray).data.toList = ([51], [49], 0) from by decide +kernel] at h
  exact h
theorem kn2_4 (W : World) (hg : Ety W) (ht : Tab W) : Calls Tryz.prog 38 #[.string ⟨#[55]⟩, .string ⟨#[45, 50]⟩] W fun e w' => e = .returned (.tuple #[.string ⟨#[45, 52]⟩, .string ⟨#[45, 49]⟩, .int .i64 (0)]) ∧ Below W.heap.size W w' := by
  have h := wfloor_any (⟨#[55]⟩ : ByteArray) (⟨#[45, 50]⟩ : ByteArray) W (by decide) (by decide) hg ht
  rw [show Mw.parted Int.fdiv Int.fmod (⟨#[55]⟩ : ByteArray).data.toList (⟨#[45, 50]⟩ : ByteArray).data.toList = ([45, 52], [45, 49], 0) from by decide +kernel] at h
  exact h
theorem kn2_5 (W : World) (hg : Ety W) (ht : Tab W) : Calls Tryz.prog 38 #[.string ⟨#[49]⟩, .string ⟨#[48]⟩] W fun e w' => e = .returned (.tuple #[.string ⟨#[]⟩, .string ⟨#[]⟩, .int .i64 (12)]) ∧ Below W.heap.size W w' := by
  have h := wfloor_any (⟨#[49]⟩ : ByteArray) (⟨#[48]⟩ : ByteArray) W (by decide) (by decide) hg ht
  rw [show Mw.parted Int.fdiv Int.fmod (⟨#[49]⟩ : ByteArray).data.toList (⟨#[48]⟩ : ByteArray).data.toList = ([], [], 12) from by decide +kernel] at h
  exact h
theorem kn2_6 (W : World) (hg : Ety W) (ht : Tab W) : Calls Tryz.prog 40 #[.string ⟨#[45, 55]⟩, .string ⟨#[50]⟩] W fun e w' => e = .returned (.tuple #[.string ⟨#[45, 51]⟩, .string ⟨#[45, 49]⟩, .int .i64 (0)]) ∧ Below W.heap.size W w' := by
  have h := wquo_any (⟨#[45, 55]⟩ : ByteArray) (⟨#[50]⟩ : ByteArray) W (by decide) (by decide) hg ht
  rw [show Mw.parted Int.tdiv Int.tmod (⟨#[45, 55]⟩ : ByteArray).data.toList (⟨#[50]⟩ : ByteArray).data.toList = ([45, 51], [45, 49], 0) from by decide +kernel] at h
  exact h
theorem kn2_7 (W : World) (hg : Ety W) (ht : Tab W) : Calls Tryz.prog 40 #[.string ⟨#[55]⟩, .string ⟨#[45, 50]⟩] W fun e w' => e = .returned (.tuple #[.string ⟨#[45, 51]⟩, .string ⟨#[49]⟩, .int .i64 (0)]) ∧ Below W.heap.size W w' := by
  have h := wquo_any (⟨#[55]⟩ : ByteArray) (⟨#[45, 50]⟩ : ByteArray) W (by decide) (by decide) hg ht
  rw [show Mw.parted Int.tdiv Int.tmod (⟨#[55]⟩ : ByteArray).data.toList (⟨#[45, 50]⟩ : ByteArray).data.toList = ([45, 51], [49], 0) from by decide +kernel] at h
  exact h
theorem kn2_8 (W : World) (hg : Ety W) (ht : Tab W) : Calls Tryz.prog 21 #[.string ⟨#[48]⟩, .string ⟨#[48]⟩] W fun e w' => e = .returned (.tuple #[.string ⟨#[48]⟩, .string ⟨#[48]⟩, .string ⟨#[48]⟩, .int .i64 (0)]) ∧ Below W.heap.size W w' := by
  have h := gcd_any (⟨#[48]⟩ : ByteArray) (⟨#[48]⟩ : ByteArray) W (by decide) (by decide) hg ht
  rw [show Mw.gcd (⟨#[48]⟩ : ByteArray).data.toList (⟨#[48]⟩ : ByteArray).data.toList = ([48], [48], [48], 0) from by decide +kernel] at h
  exact h
theorem kn2_9 (W : World) (hg : Ety W) (ht : Tab W) : Calls Tryz.prog 21 #[.string ⟨#[45, 52]⟩, .string ⟨#[48]⟩] W fun e w' => e = .returned (.tuple #[.string ⟨#[52]⟩, .string ⟨#[45, 49]⟩, .string ⟨#[48]⟩, .int .i64 (0)]) ∧ Below W.heap.size W w' := by
  have h := gcd_any (⟨#[45, 52]⟩ : ByteArray) (⟨#[48]⟩ : ByteArray) W (by decide) (by decide) hg ht
  rw [show Mw.gcd (⟨#[45, 52]⟩ : ByteArray).data.toList (⟨#[48]⟩ : ByteArray).data.toList = ([52], [45, 49], [48], 0) from by decide +kernel] at h
  exact h
theorem kn2_10 (W : World) (hg : Ety W) (ht : Tab W) : Calls Tryz.prog 21 #[.string ⟨#[55]⟩, .string ⟨#[45, 51]⟩] W fun e w' => e = .returned (.tuple #[.string ⟨#[49]⟩, .string ⟨#[49]⟩, .string ⟨#[50]⟩, .int .i64 (0)]) ∧ Below W.heap.size W w' := by
  have h := gcd_any (⟨#[55]⟩ : ByteArray) (⟨#[45, 51]⟩ : ByteArray) W (by decide) (by decide) hg ht
  rw [show Mw.gcd (⟨#[55]⟩ : ByteArray).data.toList (⟨#[45, 51]⟩ : ByteArray).data.toList = ([49], [49], [50], 0) from by decide +kernel] at h
  exact h
theorem kn2_11 (W : World) (hg : Ety W) (ht : Tab W) : Calls Tryz.prog 47 #[.string ⟨#[45, 50]⟩, .int .i64 (10)] W fun e w' => e = .returned (.tuple #[.string ⟨#[49, 48, 50, 52]⟩, .int .i64 (0)]) ∧ Below W.heap.size W w' := by
  have h := wpow_any (⟨#[45, 50]⟩ : ByteArray) (10) W (by decide) hg ht
  rw [show Mw.wpow (⟨#[45, 50]⟩ : ByteArray).data.toList (10) = ([49, 48, 50, 52], 0) from by decide +kernel] at h
  exact h
theorem kn2_12 (W : World) (hg : Ety W) (ht : Tab W) : Calls Tryz.prog 47 #[.string ⟨#[50]⟩, .int .i64 (1001)] W fun e w' => e = .returned (.tuple #[.string ⟨#[]⟩, .int .i64 (2)]) ∧ Below W.heap.size W w' := by
  have h := wpow_any (⟨#[50]⟩ : ByteArray) (1001) W (by decide) hg ht
  rw [show Mw.wpow (⟨#[50]⟩ : ByteArray).data.toList (1001) = ([], 2) from by decide +kernel] at h
  exact h
theorem kn2_13 (W : World) (hg : Ety W) (ht : Tab W) : Calls Tryz.prog 49 #[.string ⟨#[53]⟩, .string ⟨#[45, 49]⟩, .string ⟨#[51]⟩] W fun e w' => e = .returned (.tuple #[.string ⟨#[]⟩, .int .i64 (2)]) ∧ Below W.heap.size W w' := by
  have h := powmod_any (⟨#[53]⟩ : ByteArray) (⟨#[45, 49]⟩ : ByteArray) (⟨#[51]⟩ : ByteArray) W (by decide) (by decide) (by decide) hg ht
  rw [show Mw.wpm (⟨#[53]⟩ : ByteArray).data.toList (⟨#[45, 49]⟩ : ByteArray).data.toList (⟨#[51]⟩ : ByteArray).data.toList = ([], 2) from by decide +kernel] at h
  exact h
theorem kn2_14 (W : World) (hg : Ety W) (ht : Tab W) : Calls Tryz.prog 36 #[.string ⟨#[49, 48, 48, 48]⟩, .int .i64 (3)] W fun e w' => e = .returned (.tuple #[.string ⟨#[49, 48]⟩, .int .i64 (0)]) ∧ Below W.heap.size W w' := by
  have h := root_any (⟨#[49, 48, 48, 48]⟩ : ByteArray) (3) W (by decide) hg ht
  rw [show Mw.wroot (⟨#[49, 48, 48, 48]⟩ : ByteArray).data.toList (3) = ([49, 48], 0) from by decide +kernel] at h
  exact h
theorem kn2_15 (W : World) (hg : Ety W) (ht : Tab W) : Calls Tryz.prog 36 #[.string ⟨#[45, 49]⟩, .int .i64 (2)] W fun e w' => e = .returned (.tuple #[.string ⟨#[]⟩, .int .i64 (2)]) ∧ Below W.heap.size W w' := by
  have h := root_any (⟨#[45, 49]⟩ : ByteArray) (2) W (by decide) hg ht
  rw [show Mw.wroot (⟨#[45, 49]⟩ : ByteArray).data.toList (2) = ([], 2) from by decide +kernel] at h
  exact h
theorem kn2_16 (W : World) (hg : Ety W) (ht : Tab W) : Calls Tryz.prog 61 #[.string ⟨#[56]⟩, .int .i64 (2)] W fun e w' => e = .returned (.tuple #[.string ⟨#[49, 48, 48, 48]⟩, .int .i64 (0)]) ∧ Below W.heap.size W w' := by
  have h := base_any (⟨#[56]⟩ : ByteArray) (2) W (by decide) hg ht
  rw [show Mw.wbase (⟨#[56]⟩ : ByteArray).data.toList (2) = ([49, 48, 48, 48], 0) from by decide +kernel] at h
  exact h
theorem kn2_17 (W : World) (hg : Ety W) (ht : Tab W) : Calls Tryz.prog 63 #[.string ⟨#[122, 122]⟩, .int .i64 (36)] W fun e w' => e = .returned (.tuple #[.string ⟨#[49, 50, 57, 53]⟩, .int .i64 (0)]) ∧ Below W.heap.size W w' := by
  have h := from_any (⟨#[122, 122]⟩ : ByteArray) (36) W (by decide) hg ht
  rw [show Mw.wfrom (⟨#[122, 122]⟩ : ByteArray).data.toList (36) = ([49, 50, 57, 53], 0) from by decide +kernel] at h
  exact h
theorem kn2_18 (W : World) (hg : Ety W) (ht : Tab W) : Calls Tryz.prog 63 #[.string ⟨#[48, 49, 50]⟩, .int .i64 (8)] W fun e w' => e = .returned (.tuple #[.string ⟨#[]⟩, .int .i64 (1)]) ∧ Below W.heap.size W w' := by
  have h := from_any (⟨#[48, 49, 50]⟩ : ByteArray) (8) W (by decide) hg ht
  rw [show Mw.wfrom (⟨#[48, 49, 50]⟩ : ByteArray).data.toList (8) = ([], 1) from by decide +kernel] at h
  exact h
theorem kn2_19 (W : World) (hg : Ety W) (ht : Tab W) : Calls Tryz.prog 63 #[.string ⟨#[49, 57]⟩, .int .i64 (8)] W fun e w' => e = .returned (.tuple #[.string ⟨#[]⟩, .int .i64 (1)]) ∧ Below W.heap.size W w' := by
  have h := from_any (⟨#[49, 57]⟩ : ByteArray) (8) W (by decide) hg ht
  rw [show Mw.wfrom (⟨#[49, 57]⟩ : ByteArray).data.toList (8) = ([], 1) from by decide +kernel] at h
  exact h
theorem knc_0 (W : World) (hg : Ety W) : Calls Tryz.prog 53 #[.string ⟨#[45, 49, 50]⟩, .string ⟨#[45, 51]⟩] W fun e w' => e = .returned (.tuple #[.int .i64 (-1), .int .i64 0]) ∧ Below W.heap.size W w' := by
  have h := compare_any (⟨#[45, 49, 50]⟩ : ByteArray) (⟨#[45, 51]⟩ : ByteArray) W (by decide) (by decide) hg
  rw [show Mw.terr2 (⟨#[45, 49, 50]⟩ : ByteArray).data.toList (⟨#[45, 51]⟩ : ByteArray).data.toList = 0 from by decide +kernel, if_pos rfl, show cmpI (Mw.ival (⟨#[45, 49, 50]⟩ : ByteArray).data.toList) (Mw.ival (⟨#[45, 51]⟩ : ByteArray).data.toList) = -1 from by decide +kernel] at h
  exact h
theorem knc_1 (W : World) (hg : Ety W) : Calls Tryz.prog 53 #[.string ⟨#[49, 48]⟩, .string ⟨#[57]⟩] W fun e w' => e = .returned (.tuple #[.int .i64 (1), .int .i64 0]) ∧ Below W.heap.size W w' := by
  have h := compare_any (⟨#[49, 48]⟩ : ByteArray) (⟨#[57]⟩ : ByteArray) W (by decide) (by decide) hg
  rw [show Mw.terr2 (⟨#[49, 48]⟩ : ByteArray).data.toList (⟨#[57]⟩ : ByteArray).data.toList = 0 from by decide +kernel, if_pos rfl, show cmpI (Mw.ival (⟨#[49, 48]⟩ : ByteArray).data.toList) (Mw.ival (⟨#[57]⟩ : ByteArray).data.toList) = 1 from by decide +kernel] at h
  exact h
theorem knc_2 (W : World) (hg : Ety W) : Calls Tryz.prog 53 #[.string ⟨#[53]⟩, .string ⟨#[53]⟩] W fun e w' => e = .returned (.tuple #[.int .i64 (0), .int .i64 0]) ∧ Below W.heap.size W w' := by
  have h := compare_any (⟨#[53]⟩ : ByteArray) (⟨#[53]⟩ : ByteArray) W (by decide) (by decide) hg
  rw [show Mw.terr2 (⟨#[53]⟩ : ByteArray).data.toList (⟨#[53]⟩ : ByteArray).data.toList = 0 from by decide +kernel, if_pos rfl, show cmpI (Mw.ival (⟨#[53]⟩ : ByteArray).data.toList) (Mw.ival (⟨#[53]⟩ : ByteArray).data.toList) = 0 from by decide +kernel] at h
  exact h
theorem knk_0 (W : World) (hg : Ety W) : Calls Tryz.prog 56 #[.string ⟨#[48, 48, 55]⟩] W fun e w' => e = .returned (.int .i64 1) ∧ Below W.heap.size W w' := by
  have h := check_any (⟨#[48, 48, 55]⟩ : ByteArray) W (by decide) hg
  rw [show Mw.terr (⟨#[48, 48, 55]⟩ : ByteArray).data.toList = 1 from by decide +kernel] at h
  exact h
theorem knk_1 (W : World) (hg : Ety W) : Calls Tryz.prog 56 #[.string ⟨#[45, 48]⟩] W fun e w' => e = .returned (.int .i64 1) ∧ Below W.heap.size W w' := by
  have h := check_any (⟨#[45, 48]⟩ : ByteArray) W (by decide) hg
  rw [show Mw.terr (⟨#[45, 48]⟩ : ByteArray).data.toList = 1 from by decide +kernel] at h
  exact h
theorem knk_2 (W : World) (hg : Ety W) : Calls Tryz.prog 56 #[.string ⟨#[]⟩] W fun e w' => e = .returned (.int .i64 1) ∧ Below W.heap.size W w' := by
  have h := check_any (⟨#[]⟩ : ByteArray) W (by decide) hg
  rw [show Mw.terr (⟨#[]⟩ : ByteArray).data.toList = 1 from by decide +kernel] at h
  exact h
theorem knk_3 (W : World) (hg : Ety W) : Calls Tryz.prog 56 #[.string ⟨#[49, 46, 53]⟩] W fun e w' => e = .returned (.int .i64 1) ∧ Below W.heap.size W w' := by
  have h := check_any (⟨#[49, 46, 53]⟩ : ByteArray) W (by decide) hg
  rw [show Mw.terr (⟨#[49, 46, 53]⟩ : ByteArray).data.toList = 1 from by decide +kernel] at h
  exact h
theorem knk_4 (W : World) (hg : Ety W) : Calls Tryz.prog 56 #[.string ⟨#[45, 49, 50]⟩] W fun e w' => e = .returned (.int .i64 0) ∧ Below W.heap.size W w' := by
  have h := check_any (⟨#[45, 49, 50]⟩ : ByteArray) W (by decide) hg
  rw [show Mw.terr (⟨#[45, 49, 50]⟩ : ByteArray).data.toList = 0 from by decide +kernel] at h
  exact h
theorem knf_a (W : World) (hg : Ety W) (ht : Tab W) : Calls Tryz.prog 26 #[.string ⟨#[49]⟩] W fun e w' => ∃ v : Value, e = .returned (.tuple #[v, .int .i64 0]) ∧ Kd.R Kd.string 9 w' W.heap.size (fun _ => True) v (bts []) ∧ Below W.heap.size W w' := by
  have h := factor_any (⟨#[49]⟩ : ByteArray) W (by decide) hg ht
  rw [show Mw.factor (⟨#[49]⟩ : ByteArray).data.toList = ([], 0) from by decide +kernel] at h
  exact h
theorem knf_b (W : World) (hg : Ety W) (ht : Tab W) : Calls Tryz.prog 26 #[.string ⟨#[48]⟩] W fun e w' => ∃ v : Value, e = .returned (.tuple #[v, .int .i64 2]) ∧ Kd.R Kd.string 9 w' W.heap.size (fun _ => True) v (bts []) ∧ Below W.heap.size W w' := by
  have h := factor_any (⟨#[48]⟩ : ByteArray) W (by decide) hg ht
  rw [show Mw.factor (⟨#[48]⟩ : ByteArray).data.toList = ([], 2) from by decide +kernel] at h
  exact h
theorem knf_c (W : World) (hg : Ety W) (ht : Tab W) : Calls Tryz.prog 26 #[.string ⟨#[49, 48, 48, 48, 48, 48, 49]⟩] W fun e w' => ∃ v : Value, e = .returned (.tuple #[v, .int .i64 13]) ∧ Kd.R Kd.string 9 w' W.heap.size (fun _ => True) v (bts []) ∧ Below W.heap.size W w' := by
  have h := factor_any (⟨#[49, 48, 48, 48, 48, 48, 49]⟩ : ByteArray) W (by decide) hg ht
  rw [show Mw.factor (⟨#[49, 48, 48, 48, 48, 48, 49]⟩ : ByteArray).data.toList = ([], 13) from by decide +kernel] at h
  exact h
set_option maxRecDepth 100000 in
set_option maxHeartbeats 3200000 in
theorem known_any (w : World) (hg : Ety w) (htab : Tab w) : Calls Tryz.prog 17 #[] w fun e w' => e = .returned (.bool true) ∧ Below w.heap.size w w' := by
  have HG := Lib.hid hg
  have HT := Lib.hid (Lib.tabBelow_of_tabIs htab)
  clear hg htab
  go_enter Tryz.func17, Tryz.ntmps17
  go_wp2_with fail
  have HB0 : Hid (Below w.heap.size w (w.alloc (.cells #[.string ⟨#[48, 48, 55]⟩, .string ⟨#[45, 48]⟩, .string ⟨#[]⟩, .string ⟨#[49, 46, 53]⟩] 9))) := Lib.hid ((Below.refl _ _).alloc (Nat.le_refl _) _)
  have HC0 : Hid ((w.alloc (.cells #[.string ⟨#[48, 48, 55]⟩, .string ⟨#[45, 48]⟩, .string ⟨#[]⟩, .string ⟨#[49, 46, 53]⟩] 9)).cell? ⟨w.heap.size, 0, none⟩ = some (.string ⟨#[48, 48, 55]⟩) ∧ (w.alloc (.cells #[.string ⟨#[48, 48, 55]⟩, .string ⟨#[45, 48]⟩, .string ⟨#[]⟩, .string ⟨#[49, 46, 53]⟩] 9)).cell? ⟨w.heap.size, 1, none⟩ = some (.string ⟨#[45, 48]⟩) ∧ (w.alloc (.cells #[.string ⟨#[48, 48, 55]⟩, .string ⟨#[45, 48]⟩, .string ⟨#[]⟩, .string ⟨#[49, 46, 53]⟩] 9)).cell? ⟨w.heap.size, 2, none⟩ = some (.string ⟨#[]⟩) ∧ (w.alloc (.cells #[.string ⟨#[48, 48, 55]⟩, .string ⟨#[45, 48]⟩, .string ⟨#[]⟩, .string ⟨#[49, 46, 53]⟩] 9)).cell? ⟨w.heap.size, 3, none⟩ = some (.string ⟨#[49, 46, 53]⟩)) := Lib.hid (by simp)
  go_loopw [2] (fun v2 wr => ∃ i : Nat, v2 = .int .i64 (i : Int) ∧ Hid (i ≤ 4) ∧ Hid (wr.cell? ⟨w.heap.size, 0, none⟩ = some (.string ⟨#[48, 48, 55]⟩) ∧ wr.cell? ⟨w.heap.size, 1, none⟩ = some (.string ⟨#[45, 48]⟩) ∧ wr.cell? ⟨w.heap.size, 2, none⟩ = some (.string ⟨#[]⟩) ∧ wr.cell? ⟨w.heap.size, 3, none⟩ = some (.string ⟨#[49, 46, 53]⟩)) ∧ Hid (w.heap.size < wr.heap.size) ∧ Hid (Below w.heap.size w wr)) (fun v2 _ => 4 - (intOf v2).toNat)
  case atStart => exact ⟨0, rfl, Lib.hid (by omega), HC0, Lib.hid (by simp), HB0⟩
  case round =>
    obtain ⟨i, rfl, HI, HC, HL, HB⟩ := hrel
    clear HC0 HB0
    have hi4 := HI.out
    match i, hi4 with
    | 0, _ =>
      have hc := HC.out.1
      go_wp2_with (go_at_call 56; have hE := HG.out.below HB.out; with_reducible refine (knk_0 _ hE).mono ?_; clear hE; rintro e wk ⟨rfl, hb⟩; have HN := Lib.hid (HB.out.trans (hb.mono HB.out.size)); have HK := Lib.hid hb; clear hb hc)
      go_roundw
      case rel => exact ⟨1, rfl, Lib.hid (by omega), Lib.hid ⟨(HK.out.cell (p := ⟨w.heap.size, 0, none⟩) HL.out).trans HC.out.1, (HK.out.cell (p := ⟨w.heap.size, 1, none⟩) HL.out).trans HC.out.2.1, (HK.out.cell (p := ⟨w.heap.size, 2, none⟩) HL.out).trans HC.out.2.2.1, (HK.out.cell (p := ⟨w.heap.size, 3, none⟩) HL.out).trans HC.out.2.2.2⟩, Lib.hid (Nat.lt_of_lt_of_le HL.out HK.out.size), HN⟩
      case measure => simp only [intOf]; omega
    | 1, _ =>
      have hc := HC.out.2.1
      go_wp2_with (go_at_call 56; have hE := HG.out.below HB.out; with_reducible refine (knk_1 _ hE).mono ?_; clear hE; rintro e wk ⟨rfl, hb⟩; have HN := Lib.hid (HB.out.trans (hb.mono HB.out.size)); have HK := Lib.hid hb; clear hb hc)
      go_roundw
      case rel => exact ⟨2, rfl, Lib.hid (by omega), Lib.hid ⟨(HK.out.cell (p := ⟨w.heap.size, 0, none⟩) HL.out).trans HC.out.1, (HK.out.cell (p := ⟨w.heap.size, 1, none⟩) HL.out).trans HC.out.2.1, (HK.out.cell (p := ⟨w.heap.size, 2, none⟩) HL.out).trans HC.out.2.2.1, (HK.out.cell (p := ⟨w.heap.size, 3, none⟩) HL.out).trans HC.out.2.2.2⟩, Lib.hid (Nat.lt_of_lt_of_le HL.out HK.out.size), HN⟩
      case measure => simp only [intOf]; omega
    | 2, _ =>
      have hc := HC.out.2.2.1
      go_wp2_with (go_at_call 56; have hE := HG.out.below HB.out; with_reducible refine (knk_2 _ hE).mono ?_; clear hE; rintro e wk ⟨rfl, hb⟩; have HN := Lib.hid (HB.out.trans (hb.mono HB.out.size)); have HK := Lib.hid hb; clear hb hc)
      go_roundw
      case rel => exact ⟨3, rfl, Lib.hid (by omega), Lib.hid ⟨(HK.out.cell (p := ⟨w.heap.size, 0, none⟩) HL.out).trans HC.out.1, (HK.out.cell (p := ⟨w.heap.size, 1, none⟩) HL.out).trans HC.out.2.1, (HK.out.cell (p := ⟨w.heap.size, 2, none⟩) HL.out).trans HC.out.2.2.1, (HK.out.cell (p := ⟨w.heap.size, 3, none⟩) HL.out).trans HC.out.2.2.2⟩, Lib.hid (Nat.lt_of_lt_of_le HL.out HK.out.size), HN⟩
      case measure => simp only [intOf]; omega
    | 3, _ =>
      have hc := HC.out.2.2.2
      go_wp2_with (go_at_call 56; have hE := HG.out.below HB.out; with_reducible refine (knk_3 _ hE).mono ?_; clear hE; rintro e wk ⟨rfl, hb⟩; have HN := Lib.hid (HB.out.trans (hb.mono HB.out.size)); have HK := Lib.hid hb; clear hb hc)
      go_roundw
      case rel => exact ⟨4, rfl, Lib.hid (by omega), Lib.hid ⟨(HK.out.cell (p := ⟨w.heap.size, 0, none⟩) HL.out).trans HC.out.1, (HK.out.cell (p := ⟨w.heap.size, 1, none⟩) HL.out).trans HC.out.2.1, (HK.out.cell (p := ⟨w.heap.size, 2, none⟩) HL.out).trans HC.out.2.2.1, (HK.out.cell (p := ⟨w.heap.size, 3, none⟩) HL.out).trans HC.out.2.2.2⟩, Lib.hid (Nat.lt_of_lt_of_le HL.out HK.out.size), HN⟩
      case measure => simp only [intOf]; omega
    | 4, _ =>
      clear HC HL
      go_wp2_with (first | (go_at_call 53; have hE := HG.out.below HB.out; with_reducible refine (knc_0 _ hE).mono ?_; clear hE; rintro e wk ⟨rfl, hb⟩; have HN := Lib.hid (HB.out.trans (hb.mono HB.out.size)); clear HB hb; have HB := HN; clear HN) | (go_at_call 53; have hE := HG.out.below HB.out; with_reducible refine (knc_1 _ hE).mono ?_; clear hE; rintro e wk ⟨rfl, hb⟩; have HN := Lib.hid (HB.out.trans (hb.mono HB.out.size)); clear HB hb; have HB := HN; clear HN) | (go_at_call 53; have hE := HG.out.below HB.out; with_reducible refine (knc_2 _ hE).mono ?_; clear hE; rintro e wk ⟨rfl, hb⟩; have HN := Lib.hid (HB.out.trans (hb.mono HB.out.size)); clear HB hb; have HB := HN; clear HN) | (go_at_call 56; have hE := HG.out.below HB.out; with_reducible refine (knk_4 _ hE).mono ?_; clear hE; rintro e wk ⟨rfl, hb⟩; have HN := Lib.hid (HB.out.trans (hb.mono HB.out.size)); clear HB hb; have HB := HN; clear HN) | (go_at_call 18; have hE := HG.out.below HB.out; have hT := HT.out _ HB.out; with_reducible refine (counted_any _ hE hT).mono ?_; clear hE hT; rintro e wk ⟨rfl, hb⟩; have HN := Lib.hid (HB.out.trans (hb.mono HB.out.size)); clear HB hb; have HB := HN; clear HN) | (go_at_call 43; have hE := HG.out.below HB.out; have hT := HT.out _ HB.out; with_reducible refine (kn2_0 _ hE hT).mono ?_; clear hE hT; rintro e wk ⟨rfl, hb⟩; have HN := Lib.hid (HB.out.trans (hb.mono HB.out.size)); clear HB hb; have HB := HN; clear HN) | (go_at_call 43; have hE := HG.out.below HB.out; have hT := HT.out _ HB.out; with_reducible refine (kn2_1 _ hE hT).mono ?_; clear hE hT; rintro e wk ⟨rfl, hb⟩; have HN := Lib.hid (HB.out.trans (hb.mono HB.out.size)); clear HB hb; have HB := HN; clear HN) | (go_at_call 44; have hE := HG.out.below HB.out; have hT := HT.out _ HB.out; with_reducible refine (kn2_2 _ hE hT).mono ?_; clear hE hT; rintro e wk ⟨rfl, hb⟩; have HN := Lib.hid (HB.out.trans (hb.mono HB.out.size)); clear HB hb; have HB := HN; clear HN) | (go_at_call 38; have hE := HG.out.below HB.out; have hT := HT.out _ HB.out; with_reducible refine (kn2_3 _ hE hT).mono ?_; clear hE hT; rintro e wk ⟨rfl, hb⟩; have HN := Lib.hid (HB.out.trans (hb.mono HB.out.size)); clear HB hb; have HB := HN; clear HN) | (go_at_call 38; have hE := HG.out.below HB.out; have hT := HT.out _ HB.out; with_reducible refine (kn2_4 _ hE hT).mono ?_; clear hE hT; rintro e wk ⟨rfl, hb⟩; have HN := Lib.hid (HB.out.trans (hb.mono HB.out.size)); clear HB hb; have HB := HN; clear HN) | (go_at_call 38; have hE := HG.out.below HB.out; have hT := HT.out _ HB.out; with_reducible refine (kn2_5 _ hE hT).mono ?_; clear hE hT; rintro e wk ⟨rfl, hb⟩; have HN := Lib.hid (HB.out.trans (hb.mono HB.out.size)); clear HB hb; have HB := HN; clear HN) | (go_at_call 40; have hE := HG.out.below HB.out; have hT := HT.out _ HB.out; with_reducible refine (kn2_6 _ hE hT).mono ?_; clear hE hT; rintro e wk ⟨rfl, hb⟩; have HN := Lib.hid (HB.out.trans (hb.mono HB.out.size)); clear HB hb; have HB := HN; clear HN) | (go_at_call 40; have hE := HG.out.below HB.out; have hT := HT.out _ HB.out; with_reducible refine (kn2_7 _ hE hT).mono ?_; clear hE hT; rintro e wk ⟨rfl, hb⟩; have HN := Lib.hid (HB.out.trans (hb.mono HB.out.size)); clear HB hb; have HB := HN; clear HN) | (go_at_call 21; have hE := HG.out.below HB.out; have hT := HT.out _ HB.out; with_reducible refine (kn2_8 _ hE hT).mono ?_; clear hE hT; rintro e wk ⟨rfl, hb⟩; have HN := Lib.hid (HB.out.trans (hb.mono HB.out.size)); clear HB hb; have HB := HN; clear HN) | (go_at_call 21; have hE := HG.out.below HB.out; have hT := HT.out _ HB.out; with_reducible refine (kn2_9 _ hE hT).mono ?_; clear hE hT; rintro e wk ⟨rfl, hb⟩; have HN := Lib.hid (HB.out.trans (hb.mono HB.out.size)); clear HB hb; have HB := HN; clear HN) | (go_at_call 21; have hE := HG.out.below HB.out; have hT := HT.out _ HB.out; with_reducible refine (kn2_10 _ hE hT).mono ?_; clear hE hT; rintro e wk ⟨rfl, hb⟩; have HN := Lib.hid (HB.out.trans (hb.mono HB.out.size)); clear HB hb; have HB := HN; clear HN) | (go_at_call 47; have hE := HG.out.below HB.out; have hT := HT.out _ HB.out; with_reducible refine (kn2_11 _ hE hT).mono ?_; clear hE hT; rintro e wk ⟨rfl, hb⟩; have HN := Lib.hid (HB.out.trans (hb.mono HB.out.size)); clear HB hb; have HB := HN; clear HN) | (go_at_call 47; have hE := HG.out.below HB.out; have hT := HT.out _ HB.out; with_reducible refine (kn2_12 _ hE hT).mono ?_; clear hE hT; rintro e wk ⟨rfl, hb⟩; have HN := Lib.hid (HB.out.trans (hb.mono HB.out.size)); clear HB hb; have HB := HN; clear HN) | (go_at_call 49; have hE := HG.out.below HB.out; have hT := HT.out _ HB.out; with_reducible refine (kn2_13 _ hE hT).mono ?_; clear hE hT; rintro e wk ⟨rfl, hb⟩; have HN := Lib.hid (HB.out.trans (hb.mono HB.out.size)); clear HB hb; have HB := HN; clear HN) | (go_at_call 36; have hE := HG.out.below HB.out; have hT := HT.out _ HB.out; with_reducible refine (kn2_14 _ hE hT).mono ?_; clear hE hT; rintro e wk ⟨rfl, hb⟩; have HN := Lib.hid (HB.out.trans (hb.mono HB.out.size)); clear HB hb; have HB := HN; clear HN) | (go_at_call 36; have hE := HG.out.below HB.out; have hT := HT.out _ HB.out; with_reducible refine (kn2_15 _ hE hT).mono ?_; clear hE hT; rintro e wk ⟨rfl, hb⟩; have HN := Lib.hid (HB.out.trans (hb.mono HB.out.size)); clear HB hb; have HB := HN; clear HN) | (go_at_call 61; have hE := HG.out.below HB.out; have hT := HT.out _ HB.out; with_reducible refine (kn2_16 _ hE hT).mono ?_; clear hE hT; rintro e wk ⟨rfl, hb⟩; have HN := Lib.hid (HB.out.trans (hb.mono HB.out.size)); clear HB hb; have HB := HN; clear HN) | (go_at_call 63; have hE := HG.out.below HB.out; have hT := HT.out _ HB.out; with_reducible refine (kn2_17 _ hE hT).mono ?_; clear hE hT; rintro e wk ⟨rfl, hb⟩; have HN := Lib.hid (HB.out.trans (hb.mono HB.out.size)); clear HB hb; have HB := HN; clear HN) | (go_at_call 63; have hE := HG.out.below HB.out; have hT := HT.out _ HB.out; with_reducible refine (kn2_18 _ hE hT).mono ?_; clear hE hT; rintro e wk ⟨rfl, hb⟩; have HN := Lib.hid (HB.out.trans (hb.mono HB.out.size)); clear HB hb; have HB := HN; clear HN) | (go_at_call 63; have hE := HG.out.below HB.out; have hT := HT.out _ HB.out; with_reducible refine (kn2_19 _ hE hT).mono ?_; clear hE hT; rintro e wk ⟨rfl, hb⟩; have HN := Lib.hid (HB.out.trans (hb.mono HB.out.size)); clear HB hb; have HB := HN; clear HN) | (go_at_call 26; have hE := HG.out.below HB.out; have hT := HT.out _ HB.out; with_reducible refine (knf_a _ hE hT).mono ?_; clear hE hT; rintro e wk ⟨va, rfl, hRa, hb⟩; go_loud (obtain ⟨Aa, ca, hv, -, -⟩ := Kd.R_reads hRa; rw [bts_nil_len] at hv; clear hRa; subst hv); have HN := Lib.hid (HB.out.trans (hb.mono HB.out.size)); clear HB hb; have HB := HN; clear HN) | (go_at_call 26; have hE := HG.out.below HB.out; have hT := HT.out _ HB.out; with_reducible refine (knf_b _ hE hT).mono ?_; clear hE hT; rintro e wk ⟨vb, rfl, hRb, hb⟩; go_loud (obtain ⟨Ab, cb, hv, -, -⟩ := Kd.R_reads hRb; rw [bts_nil_len] at hv; clear hRb; subst hv); have HN := Lib.hid (HB.out.trans (hb.mono HB.out.size)); clear HB hb; have HB := HN; clear HN) | (go_at_call 26; have hE := HG.out.below HB.out; have hT := HT.out _ HB.out; with_reducible refine (knf_c _ hE hT).mono ?_; clear hE hT; rintro e wk ⟨vc, rfl, hRc, hb⟩; go_loud (obtain ⟨Ac, cc, hv, -, -⟩ := Kd.R_reads hRc; rw [bts_nil_len] at hv; clear hRc; subst hv); have HN := Lib.hid (HB.out.trans (hb.mono HB.out.size)); clear HB hb; have HB := HN; clear HN))
      go_ret
      exact ⟨rfl, HB.out⟩
end Go.Proofs.YtjieekkkaekclaaGreatDoor
namespace Go.Proofs.YtjieekkkaekclaaGreatDoor
open Go Go.RowKit
theorem et_name : Tryz.prog.globalNamed "errors.errorType" = some 0 := by kernel_rfl
theorem pow_name : Tryz.prog.globalNamed "internal/strconv.uint64pow10" = some 3 := by kernel_rfl
theorem laid_split {W : World} (h : laidMetH Tryz.prog Rows.wholeKnownRow.laid W) :
    laidMet Tryz.prog [("math/bits.deBruijn32tab", Rows.laid_math_bits_deBruijn32tab), ("math/bits.deBruijn64tab", Rows.laid_math_bits_deBruijn64tab), ("internal/strconv.uint64pow10", Rows.laid_internal_strconv_uint64pow10), ("strconv.ErrRange", Rows.laid_strconv_ErrRange), ("strconv.ErrSyntax", Rows.laid_strconv_ErrSyntax)] W ∧
    handlesMet Tryz.prog [("errors.errorType", Rows.laid_errors_errorType)] W := h
theorem rt_type : (Tryz.prog.cutTypes.find? (·.1 == "internal/reflectlite.rtype")).map (·.2) = some 175 := by kernel_rfl
theorem one_error : ((List.range Tryz.prog.types.size).filter fun t => Tryz.prog.rowNamed t [101, 114, 114, 111, 114]) = [112] := by kernel_rfl
theorem ety_of_laid {W : World} (h : laidMetH Tryz.prog Rows.wholeKnownRow.laid W) : Ety W := by
  obtain ⟨name, u, ty, e1, e2, e3, e4, e5⟩ := (laid_split h).2 _ (List.mem_singleton.2 rfl)
  have en : name = [101, 114, 114, 111, 114] := (Option.some.inj e1).symm
  subst en
  obtain rfl := Option.some.inj (rt_type.symm.trans e2)
  have hm : ty ∈ (List.range Tryz.prog.types.size).filter fun t => Tryz.prog.rowNamed t [101, 114, 114, 111, 114] := List.mem_filter.2 ⟨List.mem_range.2 e3, e4⟩
  rw [one_error] at hm
  obtain rfl := List.mem_singleton.1 hm
  have hh : typeHandle Tryz.prog 112 = .pointer (some ⟨7, 112, none⟩) := by kernel_rfl
  rw [hh] at e5
  simpa using World.var?_cell et_name e5 0
theorem pow_type : (Tryz.prog.globals[3]?).map (·.type) = some 221 := by kernel_rfl
theorem tab_of_laid {W : World} (h : laidMetH Tryz.prog Rows.wholeKnownRow.laid W) : Tab W := by
  obtain ⟨ps, ⟨_, _, _, _, _, _, _, _, _, _, ⟨_, _, _, _, _, _, _, _, _, _, ⟨g', t', cs, fuel, p, q, hg', ht', hvar, hd, _⟩, _⟩, _⟩, _⟩ := (laid_split h).1
  obtain rfl := Option.some.inj (pow_name.symm.trans hg')
  obtain rfl := Option.some.inj (pow_type.symm.trans ht')
  show Lib.TabIs _ _ _ _ _
  unfold Lib.TabIs
  rw [hvar, ← Lib.cells_of_tab (e := 63) (n := 20) (by kernel_rfl) (by kernel_rfl) (by kernel_rfl) (by kernel_rfl) hd]
end Go.Proofs.YtjieekkkaekclaaGreatDoor
namespace Go.Proofs.YtjieekkkaekclaaGreatDoor
open Go Go.ChangeShapes Go.WideShapes Go.RowKit
theorem own_knob : ownKnob Tryz.prog.godebug = none := by kernel_rfl
theorem only_of_quiet {P : Program} {m : Machine} (h : m.quiet) : m.OnlyLeaving P := by
  refine ⟨fun g hg => ⟨0, ?_⟩, h.2⟩
  have h1 := List.all_eq_true.mp h.1 g hg
  show g.status = .finished
  simpa using h1
theorem door_met (os : Os) (args : Array Value) : laidMetH Tryz.prog Rows.wholeKnownRow.laid ((World.doorLaid Tryz.prog 69 os).forCall (fun _ _ => 0) ⟨#[], args, []⟩).memory :=
  laidMetH_of_parts3 (fuel := 8) (laidMet_of_run' 8 (by kernel_rfl) (by kernel_rfl)) (by kernel_rfl) (by kernel_rfl)
set_option maxRecDepth 100000 in
theorem known_lifted (os : Os) (started : os.Started) (H : Type) (enc : TypeId × Value → H) :
    ReturnsInHanded {} Tryz.checked os 17 .any (fun w args => (Rows.wholeKnownSpec.pre enc Tryz.prog Tryz.f17 [] false w args ∧ laidMetH Tryz.prog Rows.wholeKnownRow.laid w) ∧ sizedMet enc Tryz.prog Tryz.f17 (OpenSpec.ofChange Rows.wholeKnownSpec) false w args)
      (Rows.wholeKnownSpec.post enc Tryz.prog Tryz.f17 false true false false) := by
  refine returnsInHanded_of_change_and (C := Tryz.checked) (X := fun w _ => laidMetH Tryz.prog Rows.wholeKnownRow.laid w) (fun _ _ _ hh h => h.of_heap hh) own_knob started (by kernel_rfl) Tryz.func17 ?witness ?_
  case witness =>
    exact ChangeSpec.witness_shaped (enc := enc) (C := Tryz.checked) (os := os) (X := fun w _ => laidMetH Tryz.prog Rows.wholeKnownRow.laid w) false (World.doorLaid Tryz.prog 69 os) #[] 8 rfl (World.shaped_of_RefB (by kernel_rfl) (by kernel_rfl)) (by kernel_rfl) (by kernel_rfl) (by kernel_rfl) (door_met os _)
  intro W base args ds gs before hval0 hW _ _ hL _
  have hW' := hW
  obtain ⟨p, q, hA0, hV, rfl, hfz, hnd⟩ := hW
  have hA : DataW.TrodAll enc Tryz.prog W 0 (fun _ => true) true [] args.toList ds p := hA0
  obtain ⟨rfl, rfl, rfl⟩ := trodAll_none hA
  obtain ⟨rfl, rfl⟩ := trodVars_none hV
  refine (known_any W (ety_of_laid hL) (tab_of_laid hL)).mono fun e W' ⟨he, hb⟩ => ?_
  subst he
  refine ⟨_, rfl, _, _, _, [], [], [], hW', ?_, ?_, ?_, hb.frame _, fun h => by cases h⟩
  · exact trodAll_mk1 (shut_bool Tryz.underlying4 true)
  · exact (show DataW.TrodAll enc Tryz.prog W' 0 (fun b => decide (b < W.heap.size)) true [] [] [] [] from rfl)
  · exact (show DataW.TrodVars enc Tryz.prog W' (fun b => decide (b < W.heap.size)) [] [] [] from rfl)
theorem known_leaving (os : Os) (started : os.Started) (H : Type) (enc : TypeId × Value → H) :
    ReturnsInLeavingWide {} Tryz.checked os 17 .any (fun w args => (Rows.wholeKnownSpec.pre enc Tryz.prog Tryz.f17 [] false w args ∧ laidMetH Tryz.prog Rows.wholeKnownRow.laid w) ∧ sizedMet enc Tryz.prog Tryz.f17 (OpenSpec.ofChange Rows.wholeKnownSpec) false w args)
      (Rows.wholeKnownSpec.post enc Tryz.prog Tryz.f17 false true false false) := fun enter =>
  ReturnsInOpen.mono (fun _ _ _ h => ⟨h.2.1, only_of_quiet h.1, h.2.2⟩) (fun _ x => x) (known_lifted os started H enc enter)
set_option maxHeartbeats 32000000 in
theorem known_closed : joinedFacts Tryz.pinned.checked.prog 17 Tryz.f17 Rows.wholeKnownSpec Rows.wholeKnownRow = true := by
  unfold joinedFacts
  simp only [Bool.and_eq_true]
  repeat' apply And.intro
  all_goals (as_aux_lemma => kernel_rfl)
theorem known_named : Tryz.pinned.checked.prog.funcNamed Rows.wholeKnownRow.func = some 17 := by kernel_rfl
theorem known_inst : Tryz.f17.isInstance Tryz.pinned.checked.prog Rows.wholeKnownRow.origin Rows.wholeKnownRow.targs := of_decide_eq_true (by kernel_rfl)
theorem known_wrap : Tryz.f17.isWrapper Tryz.pinned.checked.prog Rows.wholeKnownRow.wrapper Rows.wholeKnownRow.mainSum := by
  unfold Func.isWrapper; first | (rw [if_pos (by decide +kernel)]; kernel_rfl) | (rw [if_neg (by decide +kernel)]; exact ⟨rfl, rfl⟩)
theorem wholeKnown_holds : Rows.WholeKnownSaid :=
  OpenClaim.holds_of_wide_leaving 17 Tryz.f17 rfl rfl rfl rfl rfl rfl rfl ⟨rfl, rfl, rfl, rfl, rfl⟩ rfl rfl rfl rfl rfl known_named Tryz.func17 known_closed known_inst known_wrap
    (fun os started H enc _ => known_leaving os started H enc)
end Go.Proofs.YtjieekkkaekclaaGreatDoor
namespace Go
theorem Claim7.holds_tied_goes (Lk : Looks) {p : Pinned} {s : OpenSpec} {c : OpenClaim} (kinds : List LaidKind) (tests : Bool) (har : Bool × String) (lk g : Bool)
    (hc : c.holds p s) (hw : c.wfByText s = true) (htie : c.laidByTextAt Lk p kinds tests)
    (hst : c.start = .entering) (hnb : c.noBlocks = false ∧ c.again = false) (hm : p.checked.prog.mainIs = some (har.1, har.2.toList)) (hn : (!har.1 && har.2.isEmpty && !lk) = false)
    (hl : ∀ f fn, p.checked.prog.funcNamed c.func = some f → p.checked.prog.funcs[f]? = some fn → lk = p.checked.prog.looks [] ∧ ∀ (j : Nat) t, fn.params[j]? = some t → p.checked.prog.wantsStandIn t = false)
    (hg : g = c.goesBy p.checked.prog) :
    Claim7.holds p (.plain s) { stood := { row := c, standIns := [], harness := har, looks := lk }, kinds := [], alts := [], goes := g, laidByText := true, laidKinds := kinds, laidTests := tests, laidLooks := Lk } := by
  have h6 : ∀ r : OpenClaim, Claim7.isSixth { stood := { row := r, standIns := [], harness := har, looks := lk }, kinds := [] } = false := fun r => by simpa [Claim7.isSixth] using hn
  refine ⟨?_, (fun D hD => by cases hD), htie, (fun h => by cases h), hg⟩
  exact Claim7.tied_new_at Lk kinds tests (Claim7.new_of_sixth hc har lk hst hnb hm (h6 c) hl) hw
end Go
namespace Go.Proofs.YtjieekkkaekclaaGreatDoor
open Go
theorem card_main : Tryz.pinned.checked.prog.mainIs = some (true, "94bbee997c0a39bb4bce0e5287243f0f552a32c829e9b04cf75d7dfa1f5bfa40".toList) := by kernel_rfl
theorem card_looks : true = Tryz.pinned.checked.prog.looks [] := by kernel_rfl
theorem card_goes : true = Rows.wholeKnownRow.goesBy Tryz.pinned.checked.prog := by kernel_rfl
theorem card_wf : Rows.wholeKnownRow.wfByText (OpenSpec.ofChange Rows.wholeKnownSpec) = true := by kernel_rfl
theorem wholeKnown_card_holds : Rows.WholeKnownCardSaid :=
  Claim7.holds_tied_goes .later [.data, .data, .data, .handle, .sentinel, .sentinel] true (true, "94bbee997c0a39bb4bce0e5287243f0f552a32c829e9b04cf75d7dfa1f5bfa40") true true
    wholeKnown_holds card_wf wholeKnown_row_tie rfl ⟨rfl, rfl⟩ card_main rfl
    (fun f fn hf hfn => by
      obtain rfl : f = 17 := Option.some.inj (hf.symm.trans known_named)
      obtain rfl : fn = Tryz.f17 := (Option.some.inj (Tryz.func17.symm.trans hfn)).symm
      exact ⟨card_looks, fun j t ht => by
        rw [Tryz.params17] at ht
        exact absurd (Array.mem_of_getElem? ht) (by simp)⟩)
    card_goes
end Go.Proofs.YtjieekkkaekclaaGreatDoor
