/- Proved: WholeRing. Conditions: none beyond the statement's own. -/
import Derived.Test.YtjieekkkaekclaaGreatDoorCards
import Derived.Test.YtjieekkkaekclaaGreatDoorTie
import Derived.Test.YtjieekkkaekclaaGreatDoorZRBD
import Derived.Test.YtjieekkkaekclaaGreatDoorZRBF
import Derived.Test.YtjieekkkaekclaaGreatDoorZRBG
import Derived.Below
import Derived.ChangeOld
import Derived.ChangeSlices
import Derived.OpenShut
import Derived.ProofKit
import Derived.SevenTiedAt
import Derived.ShutString
import Derived.SizedLaws
import Derived.WalkKit
set_option linter.all false
set_option linter.unusedVariables false
set_option linter.unusedSimpArgs false
namespace Go.Proofs.YtjieekkkaekclaaGreatDoor
open Go Go.RowKit Go.Proofs.YtjieekkkaekclaaGreatDoorW.PrintWords Go.Proofs.YtjieekkkaekclaaGreatDoor.PR
theorem three_ok (l : List Int) : ∃ a b c : Int, EvP (fun k => metewandlaw01_three.f k l) (Mw.T a, Mw.T b, Mw.T c) ∧ Mw.Sz 30 a ∧ Mw.Sz 30 b ∧ Mw.Sz 30 c := by
  have st : At 0 0 := ⟨by omega, by omega⟩
  have two : ∀ r : Int, r ∈ ([3, 30] : List Int) → r ≤ 30 ∧ 3 ≤ r := fun r h => by simp at h; omega
  have nx : ∀ {b a : Int}, At b a → At (b + 1) (a + 1) := fun h => ⟨by have := h.1; omega, by have := h.2; omega⟩
  obtain ⟨d1, t1, p1, q1⟩ := pick_ok l 0 7640891576956012809 [3, 30] st (by omega) (by simp) (by simp)
  obtain ⟨n1, a1, s1, e1, z1, A1⟩ := whole_ok l _ t1 d1 (nx st) (by omega) (by have := two d1 q1; omega)
  obtain ⟨d2, t2, p2, q2⟩ := pick_ok l a1 s1 [3, 30] A1 (by omega) (by simp) (by simp)
  obtain ⟨n2, a2, s2, e2, z2, A2⟩ := whole_ok l _ t2 d2 (nx A1) (by omega) (by have := two d2 q2; omega)
  obtain ⟨d3, t3, p3, q3⟩ := pick_ok l a2 s2 [3, 30] A2 (by omega) (by simp) (by simp)
  obtain ⟨n3, a3, s3, e3, z3, A3⟩ := whole_ok l _ t3 d3 (nx A2) (by omega) (by have := two d3 q3; omega)
  refine ⟨n1, n2, n3, ?_, z1.mono (by have := two d1 q1; omega), z2.mono (by have := two d2 q2; omega), z3.mono (by have := two d3 q3; omega)⟩
  unfold metewandlaw01_three.f
  rw [show metewandkit_NewRod.f l = some (l, 0, 7640891576956012809) from rfl]
  refine EvP.bind (EvP.now _) ?_
  dsimp only
  rw [p1]
  refine EvP.bind (EvP.now _) (EvP.bind e1 ?_)
  dsimp only
  rw [p2]
  refine EvP.bind (EvP.now _) (EvP.bind e2 ?_)
  dsimp only
  rw [p3]
  exact EvP.bind (EvP.now _) (EvP.bind e3 (EvP.now _))
theorem counted_f : metewandlaw01_counted.f = some true := rfl
theorem ring_Pure : metewandlaw01_WholeRing.Pure := by
  intro l _ _ _
  refine EvP.rounds (g := fun k => metewandlaw01_WholeRing.f k l) ?_
  obtain ⟨a, b, c, he, za, zb, zc⟩ := three_ok l
  have up : ∀ {n : Int} {L M : Nat}, Mw.Sz L n → L ≤ M → Mw.Sz M n := fun h hl => h.mono hl
  have zab := za.add zb
  have zbc := zb.add zc
  have mab := za.mul zb
  have mbc := zb.mul zc
  have mac := za.mul zc
  have e1 := wadd_T (up za (show 30 ≤ 390 by omega)) (up zb (show 30 ≤ 390 by omega))
  have e2 := wadd_T (up zb (show 30 ≤ 390 by omega)) (up za (show 30 ≤ 390 by omega))
  have e3 := wadd_T (up zb (show 30 ≤ 390 by omega)) (up zc (show 30 ≤ 390 by omega))
  have e4 := wadd_T (up zab (show 31 ≤ 390 by omega)) (up zc (show 30 ≤ 390 by omega))
  have e5 := wadd_T (up za (show 30 ≤ 390 by omega)) (up zbc (show 31 ≤ 390 by omega))
  have e6 := wsub_T (up zab (show 31 ≤ 390 by omega)) (up zb (show 30 ≤ 390 by omega))
  have f1 := wmul_T (up za (show 30 ≤ 200 by omega)) (up zb (show 30 ≤ 200 by omega))
  have f2 := wmul_T (up zb (show 30 ≤ 200 by omega)) (up za (show 30 ≤ 200 by omega))
  have f3 := wmul_T (up zb (show 30 ≤ 200 by omega)) (up zc (show 30 ≤ 200 by omega))
  have f4 := wmul_T (up mab (show 60 ≤ 200 by omega)) (up zc (show 30 ≤ 200 by omega))
  have f5 := wmul_T (up za (show 30 ≤ 200 by omega)) (up mbc (show 60 ≤ 200 by omega))
  have g1 := wmul_T (up za (show 30 ≤ 200 by omega)) (up zc (show 30 ≤ 200 by omega))
  have g2 := wmul_T (up za (show 30 ≤ 200 by omega)) (up zbc (show 31 ≤ 200 by omega))
  have g3 := wadd_T (up mab (show 60 ≤ 390 by omega)) (up mac (show 60 ≤ 390 by omega))
  rw [Int.add_comm b a] at e2
  rw [Int.add_assoc a b c] at e4
  rw [Int.add_sub_cancel] at e6
  rw [Int.mul_comm b a] at f2
  rw [Int.mul_assoc a b c] at f4
  rw [Int.mul_add] at g2
  unfold metewandlaw01_WholeRing.f
  refine EvP.bind he ?_
  dsimp only
  refine EvP.congr (f := fun k => metewandlaw01_WholeRing.j0 k (Mw.T a) (Mw.T b) (Mw.T c) (Mw.T (b + c)) false) (fun k => ?_) ?_
  · simp only [e1, e2, e3, e4, e5, e6, Option.bind_some, if_true, bne_self_eq_false]
  refine EvP.step (f := fun k => metewandlaw01_WholeRing.j1 k (Mw.T a) (Mw.T c) (Mw.T (b + c)) (Mw.T (a * b)) false) (fun k => ?_) ?_
  · simp only [metewandlaw01_WholeRing.j0, f1, f2, f3, f4, f5, Option.bind_some, if_true, bne_self_eq_false, Bool.false_eq_true, if_false]
  refine EvP.step (f := fun _ => some true) (fun k => ?_) (EvP.now _)
  simp only [metewandlaw01_WholeRing.j1, g1, g2, g3, counted_f, Option.bind_some, if_true, Bool.false_eq_true, if_false]
end Go.Proofs.YtjieekkkaekclaaGreatDoor
namespace Go.Proofs.YtjieekkkaekclaaGreatDoorW.PrintWords
open Go.ChangeShapes Go.WideShapes
theorem sized_ints {H : Type} {enc : TypeId × Value → H} {P : Program} {W : World} {base : Nat} {spare : Nat → Bool} {held : Bool} {t e : TypeId} {k : IntKind} {a : Option Addr} {len cap : Nat} {d : DataW H} {ps : List MemPlace} {ts : List TypeId} {ds : List (DataW H)} {j : Nat}
    (hsz : (DataW.weightsEach P ts ds).all (· ≤ reachBytes) = true) (ht : ts[j]? = some t) (hd : ds[j]? = some d) (hu : P.underlying t = some (.slice e)) (he : P.underlying e = some (.int k)) (hc : P.cellsOf e = 1) {B : Nat} (hB : P.bytesOf e = B)
    (h : DataW.Trod enc P W base spare held t (.slice a len cap) d ps) : len * B ≤ 140737488351232 := by
  obtain ⟨fuel, hf⟩ := h
  rcases open_ints hu he hc hf with ⟨hcs, _⟩ | ⟨x, l, c, zs, hcs, _, hl, _, hz, hx, _, _⟩
  · simp [Value.cells] at hcs
    obtain ⟨rfl, rfl, rfl⟩ := hcs
    simp
  · simp [Value.cells] at hcs
    obtain ⟨rfl, rfl, rfl⟩ := hcs
    obtain ⟨hx, _⟩ := Prod.mk.inj hx
    subst hx
    have z := sized_slice hsz ht hd hu
    rw [hB] at z
    have hl2 : len ≤ zs.length := by
      rw [hz]
      split
      · exact hl
      · exact Nat.le_refl _
    have h1 : (lits (H := H) k (zs.take len)).length + (lits (H := H) k (zs.drop len)).length = zs.length := by
      simp [lits]
      omega
    rw [h1] at z
    exact Nat.le_trans (Nat.mul_le_mul_right _ hl2) z
end Go.Proofs.YtjieekkkaekclaaGreatDoorW.PrintWords
namespace Go.Proofs.YtjieekkkaekclaaGreatDoor.wholeRing
open Go Go.ChangeShapes Go.WideShapes Go.ChangeAt Go.RowKit
open Go.ChangeMaps (open_string shut_string)
set_option linter.unusedVariables false
theorem laidOut : laidOutB Tryz.prog = true := by kernel_rfl
def IsRow (k : IntKind) (w : World) (a : Option Addr) (len cap : Nat) (zs : List Int) : Prop :=
  (a = none ∧ len = 0 ∧ cap = 0 ∧ zs = []) ∨
  ∃ x, a = some x ∧ len ≤ cap ∧ cap ≤ maxLen ∧ zs.length = cap ∧ (∀ i, i < zs.length → w.cell? (x.add i) = some (.int k (zs.getD i 0))) ∧ ∀ n ∈ zs, (Lit.int k n).wf = true
theorem door_met (os : Os) (args : Array Value) : laidMetH Tryz.prog Rows.wholeRingRow.laid ((World.doorLaid Tryz.prog 69 os).forCall (fun _ _ => 0) ⟨#[], args, []⟩).memory :=
  laidMetH_of_parts3 (fuel := 8) (laidMet_of_run' 8 (by kernel_rfl) (by kernel_rfl)) (by kernel_rfl) (by kernel_rfl)
set_option maxRecDepth 100000 in
theorem lifted (os : Os) (started : os.Started) (H : Type) (enc : TypeId × Value → H) :
    ReturnsInHanded {} Tryz.checked os 10 .any (fun w args => (Rows.wholeRingSpec.pre enc Tryz.prog Tryz.f10 [] false w args ∧ laidMetH Tryz.prog Rows.wholeRingRow.laid w) ∧ sizedMet enc Tryz.prog Tryz.f10 (OpenSpec.ofChange Rows.wholeRingSpec) false w args) (Rows.wholeRingSpec.post enc Tryz.prog Tryz.f10 false true false false) := by
  refine returnsInHanded_of_change_and (C := Tryz.checked) (X := fun w _ => laidMetH Tryz.prog Rows.wholeRingRow.laid w) (fun _ _ _ hh h => h.of_heap hh) own_knob started (by kernel_rfl) Tryz.func10 ?witness ?_
  case witness =>
    exact ChangeSpec.witness_shaped (enc := enc) (C := Tryz.checked) (os := os) (X := fun w _ => laidMetH Tryz.prog Rows.wholeRingRow.laid w) false (World.doorLaid Tryz.prog 69 os) #[.slice none 0 0] 8 rfl (World.shaped_of_RefB (by kernel_rfl) (by kernel_rfl)) (by kernel_rfl) (by kernel_rfl) (by kernel_rfl) (door_met os _)
  intro W base args ds gs before hval0 hW hcnd hsz0 hL _
  have hsz : (DataW.weightsEach Tryz.prog (Tryz.f10.params.toList ++ Rows.wholeRingSpec.plain.varTypes Tryz.prog) (ds ++ gs)).all (· ≤ reachBytes) = true := hsz0
  have hval : ∀ (j : Nat) t v, Tryz.f10.params[j]? = some t → args[j]? = some v → Value.okWide Tryz.prog W .any base t v := hval0
  have hW' := hW
  obtain ⟨p, q, hA0, hV, rfl, hfz, hnd⟩ := hW
  have hA : DataW.TrodAll enc Tryz.prog W 0 (fun _ => true) true Tryz.f10.params.toList args.toList ds p := hA0
  rw [Tryz.params10] at hA hval hsz
  obtain ⟨v0, vs0, d0, ds0, p0, q0, hargs, rfl, rfl, h0, r0⟩ := trodAll_cons hA
  obtain ⟨rfl, rfl, rfl⟩ := trodAll_nil r0
  obtain rfl : args = #[v0] := by cases args; simp_all
  obtain ⟨rfl, rfl⟩ := trodVars_none hV
  obtain ⟨a0, len0, cap0, rfl⟩ := okWide_slice Tryz.underlying22 (hval 0 22 v0 rfl rfl)
  have k0 := h0
  have lt0 : ∀ x ∈ p0, x.block < W.heap.size := by obtain ⟨m, hm⟩ := k0; exact DataW.trod_lt m _ _ _ hm
  obtain ⟨z0, w0⟩ : ∃ zs, IsRow .i64 W a0 len0 cap0 zs := by
    obtain ⟨fuel, hf⟩ := h0
    rcases open_ints Tryz.underlying22 Tryz.underlying3 (by kernel_rfl) hf with ⟨hcs, _⟩ | ⟨x, l, c, zs, hcs, _, hl, hm, hz, _, hcell, hwz⟩
    · simp [Value.cells] at hcs
      obtain ⟨rfl, rfl, rfl⟩ := hcs
      exact ⟨[], .inl ⟨rfl, rfl, rfl, rfl⟩⟩
    · simp [Value.cells] at hcs
      obtain ⟨rfl, rfl, rfl⟩ := hcs
      exact ⟨zs, .inr ⟨_, rfl, hl, hm, by simpa using hz, hcell, hwz⟩⟩
  have y0 : len0 * 8 ≤ 140737488351232 := Go.Proofs.YtjieekkkaekclaaGreatDoorW.PrintWords.sized_ints hsz (j := 0) (t := 22) rfl rfl Tryz.underlying22 Tryz.underlying3 (by kernel_rfl) (by kernel_rfl) h0
  clear hA0 hval0 hsz0 hsz
  refine (PR.metewandlaw01_WholeRing.walk ring_Pure a0 len0 cap0 z0 W ⟨ety_of_laid hL, tab_of_laid hL⟩ w0 y0).mono fun e W' ⟨he, bel⟩ => ?_
  subst he
  exact ⟨_, rfl, _, _, _, [], _, [], hW', trodAll_mk1 (shut_bool Tryz.underlying4 _), (trodAll_cons_mk (Below.trod laidOut (by kernel_rfl) (of_decide_eq_true (by kernel_rfl)) k0 bel lt0) trodAll_mk0), rfl, bel.frame _, fun h => by cases h⟩
theorem leaving (os : Os) (started : os.Started) (H : Type) (enc : TypeId × Value → H) :
    ReturnsInLeavingWide {} Tryz.checked os 10 .any (fun w args => (Rows.wholeRingSpec.pre enc Tryz.prog Tryz.f10 [] false w args ∧ laidMetH Tryz.prog Rows.wholeRingRow.laid w) ∧ sizedMet enc Tryz.prog Tryz.f10 (OpenSpec.ofChange Rows.wholeRingSpec) false w args) (Rows.wholeRingSpec.post enc Tryz.prog Tryz.f10 false true false false) := fun enter =>
  ReturnsInOpen.mono (fun _ _ _ h => ⟨h.2.1, only_of_quiet h.1, h.2.2⟩) (fun _ x => x) (lifted os started H enc enter)
set_option maxHeartbeats 32000000 in
theorem closed : joinedFacts Tryz.pinned.checked.prog 10 Tryz.f10 Rows.wholeRingSpec Rows.wholeRingRow = true := by
  unfold joinedFacts
  simp only [Bool.and_eq_true]
  repeat' apply And.intro
  all_goals (as_aux_lemma => kernel_rfl)
theorem named : Tryz.pinned.checked.prog.funcNamed Rows.wholeRingRow.func = some 10 := by kernel_rfl
theorem inst : Tryz.f10.isInstance Tryz.pinned.checked.prog Rows.wholeRingRow.origin Rows.wholeRingRow.targs := of_decide_eq_true (by kernel_rfl)
theorem wrap : Tryz.f10.isWrapper Tryz.pinned.checked.prog Rows.wholeRingRow.wrapper Rows.wholeRingRow.mainSum := by
  unfold Func.isWrapper; first | (rw [if_pos (by decide +kernel)]; kernel_rfl) | (rw [if_neg (by decide +kernel)]; exact ⟨rfl, rfl⟩)
theorem proved : Rows.WholeRingSaid :=
  OpenClaim.holds_of_wide_leaving 10 Tryz.f10 rfl rfl rfl rfl rfl rfl rfl ⟨rfl, rfl, rfl, rfl, rfl⟩ rfl rfl rfl rfl rfl named Tryz.func10 closed inst wrap
    (fun os started H enc _ => leaving os started H enc)
end Go.Proofs.YtjieekkkaekclaaGreatDoor.wholeRing
namespace Go
theorem Claim7.holds_tied_goes (Lk : Looks) {p : Pinned} {s : OpenSpec} {c : OpenClaim} (kinds : List LaidKind) (tests : Bool) (har : Bool × String) (lk g : Bool)
    (hc : c.holds p s) (hw : c.wfByText s = true) (htie : c.laidByTextAt Lk p kinds tests)
    (hst : c.start = .entering) (hnb : c.noBlocks = false ∧ c.again = false) (hm : p.checked.prog.mainIs = some (har.1, har.2.toList)) (hn : (!har.1 && har.2.isEmpty && !lk) = false)
    (hl : ∀ f fn, p.checked.prog.funcNamed c.func = some f → p.checked.prog.funcs[f]? = some fn → lk = p.checked.prog.looks [] ∧ ∀ (j : Nat) t, fn.params[j]? = some t → p.checked.prog.wantsStandIn t = false)
    (hg : g = c.goesBy p.checked.prog) :
    Claim7.holds p (.plain s) { stood := { row := c, standIns := [], harness := har, looks := lk }, kinds := [], alts := [], goes := g, laidByText := true, laidKinds := kinds, laidTests := tests, laidLooks := Lk } := by
  have h6 : ∀ r : OpenClaim, Claim7.isSixth { stood := { row := r, standIns := [], harness := har, looks := lk }, kinds := [] } = false := fun r => by simpa [Claim7.isSixth] using hn
  refine ⟨?_, (fun D hD => by cases hD), htie, (fun h => by cases h), hg⟩
  exact Claim7.tied_new_at Lk kinds tests (Claim7.new_of_sixth hc har lk hst hnb hm (h6 c) hl) hw
end Go
namespace Go.Proofs.YtjieekkkaekclaaGreatDoor
open Go
theorem wholeRing.goes : true = Rows.wholeRingRow.goesBy Tryz.pinned.checked.prog := by kernel_rfl
theorem wholeRing.wf : Rows.wholeRingRow.wfByText (OpenSpec.ofChange Rows.wholeRingSpec) = true := by kernel_rfl
theorem wholeRing.stand : ∀ t ∈ Tryz.f10.params, Tryz.pinned.checked.prog.wantsStandIn t = false := by
  have h : (Tryz.f10.params.toList.all fun t => !Tryz.pinned.checked.prog.wantsStandIn t) = true := by kernel_rfl
  intro t ht
  have := List.all_eq_true.mp h t (Array.mem_toList_iff.mpr ht)
  simpa using this
theorem wholeRing_card_holds : Rows.WholeRingCardSaid :=
  Claim7.holds_tied_goes .later [.data, .data, .data, .handle, .sentinel, .sentinel] true (true, "94bbee997c0a39bb4bce0e5287243f0f552a32c829e9b04cf75d7dfa1f5bfa40") true true
    wholeRing.proved wholeRing.wf wholeRing_row_tie rfl ⟨rfl, rfl⟩ card_main rfl
    (fun f fn hf hfn => by
      obtain rfl : f = 10 := Option.some.inj (hf.symm.trans wholeRing.named)
      obtain rfl : fn = Tryz.f10 := (Option.some.inj (Tryz.func10.symm.trans hfn)).symm
      exact ⟨card_looks, fun j t ht => wholeRing.stand t (Array.mem_of_getElem? ht)⟩)
    wholeRing.goes
end Go.Proofs.YtjieekkkaekclaaGreatDoor
