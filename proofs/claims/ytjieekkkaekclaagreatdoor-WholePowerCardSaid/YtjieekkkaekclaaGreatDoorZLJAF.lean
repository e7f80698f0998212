/- Proved: WholePower. Conditions: none beyond the statement's own. -/
import Derived.Test.YtjieekkkaekclaaGreatDoorCards
import Derived.Test.YtjieekkkaekclaaGreatDoorTie
import Derived.Test.YtjieekkkaekclaaGreatDoorZBAY
import Derived.Test.YtjieekkkaekclaaGreatDoorZLJAE
set_option linter.all false
set_option linter.unusedVariables false
set_option linter.unusedSimpArgs false
namespace Go.Proofs.YtjieekkkaekclaaGreatDoor
open Go
theorem sI.goes:true=Rows.wholePowerRow.goesBy Tryz.pinned.checked.prog:=by kernel_rfl
theorem sI.wf:Rows.wholePowerRow.wfByText (OpenSpec.ofChange Rows.wholePowerSpec)=true:=by kernel_rfl
theorem sI.stand:∀t ∈ Tryz.f12.params,Tryz.pinned.checked.prog.wantsStandIn t=false:=by
 have h:(Tryz.f12.params.toList.all fun t=>!Tryz.pinned.checked.prog.wantsStandIn t)=true:=by kernel_rfl
 intro t ht;have:=List.all_eq_true.mp h t (Array.mem_toList_iff.mpr ht);simpa using this
theorem wholePower_card_holds:Rows.WholePowerCardSaid:=
 Claim7.lF .later [.data,.data,.data,.handle,.sentinel,.sentinel] true (true,"94bbee997c0a39bb4bce0e5287243f0f552a32c829e9b04cf75d7dfa1f5bfa40") true true
  sI.proved sI.wf wholePower_row_tie rfl ⟨rfl,rfl⟩ qR rfl
  (fun f fn hf hfn=>by obtain rfl:f=12:=Option.some.inj (hf.symm.trans sI.named);obtain rfl:fn=Tryz.f12:=(Option.some.inj (Tryz.func12.symm.trans hfn)).symm;exact⟨pY,fun j t ht=>sI.stand t (Array.mem_of_getElem? ht)⟩)
  sI.goes
end Go.Proofs.YtjieekkkaekclaaGreatDoor
