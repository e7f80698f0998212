/- Proved: WholePrimes. Conditions: none beyond the statement's own. -/
import Derived.Test.YtjieekkkaekclaaGreatDoorCards
import Derived.Test.YtjieekkkaekclaaGreatDoorTie
import Derived.Test.YtjieekkkaekclaaGreatDoorZPBG
set_option linter.all false
set_option linter.unusedVariables false
set_option linter.unusedSimpArgs false
namespace Go.Proofs.YtjieekkkaekclaaGreatDoor
open Go
theorem wholePrimes.goes : true = Rows.wholePrimesRow.goesBy Tryz.pinned.checked.prog := by kernel_rfl
theorem wholePrimes.wf : Rows.wholePrimesRow.wfByText (OpenSpec.ofChange Rows.wholePrimesSpec) = true := by kernel_rfl
theorem wholePrimes.stand : ∀ t ∈ Tryz.f7.params, Tryz.pinned.checked.prog.wantsStandIn t = false := by
  have h : (Tryz.f7.params.toList.all fun t => !Tryz.pinned.checked.prog.wantsStandIn t) = true := by kernel_rfl
  intro t ht
  have := List.all_eq_true.mp h t (Array.mem_toList_iff.mpr ht)
  simpa using this
theorem wholePrimes_card_holds : Rows.WholePrimesCardSaid :=
  Claim7.holds_tied_goes .later [.data, .data, .data, .handle, .sentinel, .sentinel] true (true, "94bbee997c0a39bb4bce0e5287243f0f552a32c829e9b04cf75d7dfa1f5bfa40") true true
    wholePrimes.proved wholePrimes.wf wholePrimes_row_tie rfl ⟨rfl, rfl⟩ card_main rfl
    (fun f fn hf hfn => by
      obtain rfl : f = 7 := Option.some.inj (hf.symm.trans wholePrimes.named)
      obtain rfl : fn = Tryz.f7 := (Option.some.inj (Tryz.func7.symm.trans hfn)).symm
      exact ⟨card_looks, fun j t ht => wholePrimes.stand t (Array.mem_of_getElem? ht)⟩)
    wholePrimes.goes
end Go.Proofs.YtjieekkkaekclaaGreatDoor
