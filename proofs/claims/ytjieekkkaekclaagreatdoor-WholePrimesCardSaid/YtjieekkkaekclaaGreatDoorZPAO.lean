/- Lemmas for the claim beside this text. -/
import Derived.Test.YtjieekkkaekclaaGreatDoorZPAC
import Derived.Test.YtjieekkkaekclaaGreatDoorZPAK
import Derived.Test.YtjieekkkaekclaaGreatDoorZPAN
import Derived.Deep.RegionHeld3
import Derived.StillTailTactics
set_option linter.all false
set_option linter.unusedVariables false
set_option linter.unusedSimpArgs false
namespace Go.Proofs.YtjieekkkaekclaaGreatDoor
open Go
section
variable {P : Program} {ops : Array Oper} {md : Region.Mode} {Q : Exit → Act → World → Prop} {S : World → Prop} {n : Nat} {L : Array Bool → Act → World → Prop}
def anyT (P : Program) (md : Region.Mode) (ops : Array Oper) (Q : Exit → Act → World → Prop) (S : World → Prop) (n : Nat) (L : Array Bool → Act → World → Prop) : Nat → Array Bool → Act → World → Prop
  | 0, listed, a, w => L listed a w
  | f + 1, listed, a, w => Region.ready md ops listed ≠ [] ∧ ∀ i ∈ Region.ready md ops listed, i < n ∧ wpOp P ops Q i (fun a' w' => S w' ∧ anyT P md ops Q S n L f (listed.setIfInBounds i true) a' w') a w
theorem any_of_T {g : Nat} (hL : ∀ listed a w, L listed a w → wpAny P md ops Q g listed a w) : ∀ (f : Nat) (listed : Array Bool) (a : Act) (w : World), anyT P md ops Q S n L f listed a w → wpAny P md ops Q (f + g) listed a w
  | 0, listed, a, w, h => by rw [Nat.zero_add]; exact hL _ _ _ h
  | f + 1, listed, a, w, h => by
    rw [show f + 1 + g = (f + g) + 1 by omega]
    exact ⟨fun h0 => absurd h0 h.1, fun i hi => wpOp_mono (fun a' w' h' => any_of_T hL f _ a' w' h'.2) (h.2 i hi).2⟩
theorem anyT_first {i : Nat} {oi : Oper} {v : Value} (hi : ops[i]? = some oi) (hsel : ∀ (j : Nat) (o : Oper) cs b, ops[j]? = some o → o.op ≠ .select cs b) (hQ : ∀ c a w, Q (.panic c) (a.put oi.dst v) w → Q (.panic c) a w)
    (hs : Region.sinkB md ops n = true) (hc : Region.chainB md ops n = true) (hn : n < ops.size) (hin : i < n) (hdone : ∀ listed a w, L listed a w → ∀ j ∈ Region.ready md ops listed, n ≤ j) :
    ∀ (f : Nat) (listed : Array Bool) (a : Act) (w : World), HeadInv md ops n listed →
      (∀ j oj, ops[j]? = some oj → j ≠ i → listed.getD j true = false → (∀ e ∈ oj.after, Region.binds md e = true → e.on ≠ i) → oi.apart ops oj = true) →
      i ∈ Region.ready md ops listed → YieldsIf P ops S oi v a → S w →
      anyT P md ops Q S n L f (listed.setIfInBounds i true) (a.put oi.dst v) w → anyT P md ops Q S n L (f + 1) listed a w := by
  intro f
  induction f with
  | zero =>
    intro listed a w inv _ hr hy hS H
    refine ⟨fun h => (by rw [h] at hr; cases hr), fun j hj => ?_⟩
    have hjn : j < n := by
      rcases Nat.lt_or_ge j n with h | h
      · exact h
      · exact absurd hj (tail_waits hs hc hn inv _ i rfl hin (mem_ready.1 hr).1 j h)
    refine ⟨hjn, ?_⟩
    by_cases hji : j = i
    · subst hji; exact hy.wpOp hi hS ⟨hS, H⟩
    · have := hdone _ _ _ H j (ready_mono hj hji)
      omega
  | succ f ih =>
    intro listed a w inv hfree hr hy hS H
    have hun := (mem_ready.1 hr).1
    refine ⟨fun h => (by rw [h] at hr; cases hr), fun j hj => ?_⟩
    have hjn : j < n := by
      rcases Nat.lt_or_ge j n with h | h
      · exact h
      · exact absurd hj (tail_waits hs hc hn inv _ i rfl hin hun j h)
    refine ⟨hjn, ?_⟩
    by_cases hji : j = i
    · subst hji; exact hy.wpOp hi hS ⟨hS, H⟩
    · have h1 := (H.2 j (ready_mono hj hji)).2
      obtain ⟨hjun, oj, hoj, hall⟩ := mem_ready.1 hj
      have hnot : ∀ e ∈ oj.after, Region.binds md e = true → e.on ≠ i := fun e he hb heq => by
        have h1 := hall e he hb
        rw [heq, getD_both hun] at h1
        cases h1
      have h2 := wpOp_putIf hoj (hfree j oj hoj hji hjun hnot) (fun cs b => hsel i oi cs b hi) (fun cs b => hsel j oj cs b hoj) hQ hy h1
      refine wpOp_mono (fun a' w' h3 => ⟨h3.2.1, ih (listed.setIfInBounds j true) a' w' (inv.set hj hjn) (fun k ok hk hki hun' hno => ?_) (ready_mono hr (Ne.symm hji)) h3.1 h3.2.1 ?_⟩) h2
      · refine hfree k ok hk hki ?_ hno
        by_cases hjk : j = k
        · subst hjk; exact hjun
        · rw [getD_set_ne true hjk] at hun'; exact hun'
      · rw [Array.setIfInBounds_comm _ _ hji]
        exact h3.2.2
def GoT (P : Program) (md : Region.Mode) (ops : Array Oper) (Q : Exit → Act → World → Prop) (S : World → Prop) (n : Nat) (tail : List Oper) (f : Nat) (listed : Array Bool) (a : Act) (w : World) : Prop :=
  HeadInv md ops n listed → anyT P md ops Q S n (fun l a' w' => Region.seqB md ops tail.length n l = true ∧ wpList P ops Q tail a' w') f listed a w
theorem goT_take {tail : List Oper} (i : Nat) {oi : Oper} {v : Value} {f : Nat} {listed : Array Bool} {a : Act} {w : World} (hi : ops[i]? = some oi)
    (hB : (Region.noSelect ops && Region.sinkB md ops n && Region.chainB md ops n && decide (n < ops.size) && decide (i < n) && Region.free md ops listed i && (Region.ready md ops listed).contains i) = true)
    (hQ : ∀ c a w, Q (.panic c) (a.put oi.dst v) w → Q (.panic c) a w) (hy : YieldsIf P ops S oi v a) (hS : S w)
    (h : GoT P md ops Q S n tail f (listed.setIfInBounds i true) (a.put oi.dst v) w) : GoT P md ops Q S n tail (f + 1) listed a w := by
  simp only [Bool.and_eq_true, decide_eq_true_eq] at hB
  obtain ⟨⟨⟨⟨⟨⟨h1, h2⟩, h3⟩, h4⟩, h5⟩, h6⟩, h7⟩ := hB
  have hr : i ∈ Region.ready md ops listed := by simpa using h7
  exact fun inv => anyT_first hi (Region.noSelect_spec h1) hQ h2 h3 h4 h5 (fun l _ _ hl => seqB_ready hl.1) f listed a w inv (Region.free_spec hi h6) hr hy hS (h (inv.set hr h5))
theorem goT_step {tail : List Oper} (i : Nat) {o : Oper} {f : Nat} {listed : Array Bool} {a : Act} {w : World} (ho : ops[i]? = some o) (hB : (decide (Region.ready md ops listed = [i]) && decide (i < n)) = true)
    (h : ∀ K' : Act → World → Prop, Shut (∀ a w, S w → (S w → GoT P md ops Q S n tail f (listed.setIfInBounds i true) a w) → K' a w) → if Region.wanted o (yielded ops a.tmps) = true then Oper.wp P o a w K' Q else K' (a.put o.dst undef) w) :
    GoT P md ops Q S n tail (f + 1) listed a w := by
  simp only [Bool.and_eq_true, decide_eq_true_eq] at hB
  intro inv
  have hr : i ∈ Region.ready md ops listed := by rw [hB.1]; simp
  refine ⟨by rw [hB.1]; simp, fun j hj => ?_⟩
  rw [hB.1] at hj
  obtain rfl : j = i := by simpa using hj
  exact ⟨hB.2, wpOp_step ho (fun K' hK => h K' (fun a w hS hW => hK a w ⟨hS, hW hS (inv.set hr hB.2)⟩))⟩
theorem goT_two {tail : List Oper} (i j : Nat) {oi oj : Oper} {f : Nat} {listed : Array Bool} {a : Act} {w : World} (hoi : ops[i]? = some oi) (hoj : ops[j]? = some oj) (hB : (decide (Region.ready md ops listed = [i, j]) && decide (i < n) && decide (j < n)) = true)
    (hi : ∀ K' : Act → World → Prop, Shut (∀ a w, S w → (S w → GoT P md ops Q S n tail f (listed.setIfInBounds i true) a w) → K' a w) → if Region.wanted oi (yielded ops a.tmps) = true then Oper.wp P oi a w K' Q else K' (a.put oi.dst undef) w)
    (hj : ∀ K' : Act → World → Prop, Shut (∀ a w, S w → (S w → GoT P md ops Q S n tail f (listed.setIfInBounds j true) a w) → K' a w) → if Region.wanted oj (yielded ops a.tmps) = true then Oper.wp P oj a w K' Q else K' (a.put oj.dst undef) w) :
    GoT P md ops Q S n tail (f + 1) listed a w := by
  simp only [Bool.and_eq_true, decide_eq_true_eq] at hB
  obtain ⟨⟨hB1, hB2⟩, hB3⟩ := hB
  intro inv
  have hri : i ∈ Region.ready md ops listed := by rw [hB1]; simp
  have hrj : j ∈ Region.ready md ops listed := by rw [hB1]; simp
  refine ⟨by rw [hB1]; simp, fun k hk => ?_⟩
  rw [hB1] at hk
  have hk2 : k = i ∨ k = j := by simpa using hk
  rcases hk2 with rfl | rfl
  · exact ⟨hB2, wpOp_step hoi (fun K' hK => hi K' (fun a w hS hW => hK a w ⟨hS, hW hS (inv.set hri hB2)⟩))⟩
  · exact ⟨hB3, wpOp_step hoj (fun K' hK => hj K' (fun a w hS hW => hK a w ⟨hS, hW hS (inv.set hrj hB3)⟩))⟩
theorem goT_done {tail : List Oper} {listed : Array Bool} {a : Act} {w : World} (hB : Region.seqB md ops tail.length n listed = true) (h : wpList P ops Q tail a w) : GoT P md ops Q S n tail 0 listed a w := fun _ => ⟨hB, h⟩
theorem wp_region_goT {id : Nat} {a : Act} {w : World} {l : List Oper} (S : World → Prop) (n : Nat) (hm : P.follows .mixedOrders = true) (hB : (decide (n < l.length)) = true) (hS : S w.drew)
    (h : S w.drew → GoT P .any l.toArray Q S n (l.drop n) n (Array.replicate l.length false) a w.drew) : (Code.region id l.toArray true).wp P Q a w := by
  simp only [decide_eq_true_eq] at hB
  refine wp_region_any hm ?_
  have inv0 : HeadInv .any l.toArray n (Array.replicate l.length false) :=
    ⟨by simp, fun j oj _ hl => (by rw [getD_replicate_false] at hl; cases hl), fun t _ ht => getD_in (by simpa using ht) (getD_replicate_false _ _)⟩
  have H := any_of_T (g := (l.drop n).length) (fun listed a' w' hL => wpAny_of_seq (md := .any) (l.drop n) n listed a' w' (fun j => by simp [List.getElem?_drop]) hL.1 hL.2) _ _ _ _ (h hS inv0)
  rw [show n + (l.drop n).length = l.toArray.size by simp; omega] at H
  have e : Array.replicate l.toArray.size false = Array.replicate l.length false := by simp
  rw [e]
  exact H
end
end Go.Proofs.YtjieekkkaekclaaGreatDoor
namespace Go.Proofs.YtjieekkkaekclaaGreatDoor
open Go.RowKit Go.Proofs.YtjieekkkaekclaaGreatDoorW.PrintWords
abbrev box4 (w : World) (t : TypeId) (a b a' b' : Value) : World :=
  (((w.alloc (.cells #[a, b] t)).alloc (.cells #[a', b'] t)).alloc (.cells #[.int .i64 0, .slice none 0 0] t)).alloc (.cells #[.int .i64 0, .slice none 0 0] t)
theorem box4_below (w : World) (t : TypeId) (a b a' b' : Value) : Below w.heap.size w (box4 w t a b a' b') :=
  ((((Below.refl _ _).alloc (Nat.le_refl _) _).alloc (by simp) _).alloc (by simp; omega) _).alloc (by simp; omega) _
def Box4 (w w1 : World) (a b a' b' : Value) : Prop :=
  (w1.cell? ⟨w.heap.size, 0, none⟩ = some a ∧ w1.cell? ⟨w.heap.size, 1, none⟩ = some b ∧ w1.cell? ⟨w.heap.size + 1, 0, none⟩ = some a' ∧ w1.cell? ⟨w.heap.size + 1, 1, none⟩ = some b') ∧
    (w1.cell? ⟨w.heap.size + 1 + 1, 0, none⟩ = some (.int .i64 0) ∧ w1.cell? ⟨w.heap.size + 1 + 1, 1, none⟩ = some (.slice none 0 0)) ∧
    (w1.cell? ⟨w.heap.size + 1 + 1 + 1, 0, none⟩ = some (.int .i64 0) ∧ w1.cell? ⟨w.heap.size + 1 + 1 + 1, 1, none⟩ = some (.slice none 0 0)) ∧
    (w1.frozen? ⟨w.heap.size + 1 + 1, 0, none⟩ = false ∧ w1.frozen? ⟨w.heap.size + 1 + 1, 1, none⟩ = false) ∧
    (w1.frozen? ⟨w.heap.size + 1 + 1 + 1, 0, none⟩ = false ∧ w1.frozen? ⟨w.heap.size + 1 + 1 + 1, 1, none⟩ = false)
theorem box4_keep {w w1 : World} {t : TypeId} {a b a' b' : Value} (hb : Below (box4 w t a b a' b').heap.size (box4 w t a b a' b') w1) : Box4 w w1 a b a' b' := by
  unfold box4 at hb
  have h0 := hb.cell (p := ⟨w.heap.size, 0, none⟩) (by simp <;> omega)
  have h1 := hb.cell (p := ⟨w.heap.size, 1, none⟩) (by simp <;> omega)
  have h2 := hb.cell (p := ⟨w.heap.size + 1, 0, none⟩) (by simp <;> omega)
  have h3 := hb.cell (p := ⟨w.heap.size + 1, 1, none⟩) (by simp <;> omega)
  have h4 := hb.cell (p := ⟨w.heap.size + 1 + 1, 0, none⟩) (by simp <;> omega)
  have h5 := hb.cell (p := ⟨w.heap.size + 1 + 1, 1, none⟩) (by simp <;> omega)
  have h6 := hb.cell (p := ⟨w.heap.size + 1 + 1 + 1, 0, none⟩) (by simp)
  have h7 := hb.cell (p := ⟨w.heap.size + 1 + 1 + 1, 1, none⟩) (by simp)
  have g4 := hb.frozen (p := ⟨w.heap.size + 1 + 1, 0, none⟩) (by simp <;> omega)
  have g5 := hb.frozen (p := ⟨w.heap.size + 1 + 1, 1, none⟩) (by simp <;> omega)
  have g6 := hb.frozen (p := ⟨w.heap.size + 1 + 1 + 1, 0, none⟩) (by simp)
  have g7 := hb.frozen (p := ⟨w.heap.size + 1 + 1 + 1, 1, none⟩) (by simp)
  simp [go_sem] at h0 h1 h2 h3 h4 h5 h6 h7 g4 g5 g6 g7
  exact ⟨⟨h0, h1, h2, h3⟩, ⟨h4, h5⟩, ⟨h6, h7⟩, ⟨g4, g5⟩, ⟨g6, g7⟩⟩
theorem num_store2 {W : World} {g : Nat} {s s' : Int} {A A' : Option Addr} {k c k' c' : Nat} {n m : Int} (hN : NumAt W s A k c n) (hM : NumAt W s' A' k' c' m)
    (q0 : W.cell? ⟨g, 0, none⟩ = some (.int .i64 0) ∧ W.cell? ⟨g, 1, none⟩ = some (.slice none 0 0)) (q1 : W.cell? ⟨g + 1, 0, none⟩ = some (.int .i64 0) ∧ W.cell? ⟨g + 1, 1, none⟩ = some (.slice none 0 0)) (w : World) (hB : Below w.heap.size w W) (hg : w.heap.size ≤ g) :
    Hid (NumAt ((((W.setCell ⟨g, 0, none⟩ (.int .i64 s)).setCell ⟨g, 1, none⟩ (.slice A k c)).setCell ⟨g + 1, 0, none⟩ (.int .i64 s')).setCell ⟨g + 1, 1, none⟩ (.slice A' k' c')) s A k c n) ∧
    Hid (NumAt ((((W.setCell ⟨g, 0, none⟩ (.int .i64 s)).setCell ⟨g, 1, none⟩ (.slice A k c)).setCell ⟨g + 1, 0, none⟩ (.int .i64 s')).setCell ⟨g + 1, 1, none⟩ (.slice A' k' c')) s' A' k' c' m) ∧
    Hid (Below w.heap.size w ((((W.setCell ⟨g, 0, none⟩ (.int .i64 s)).setCell ⟨g, 1, none⟩ (.slice A k c)).setCell ⟨g + 1, 0, none⟩ (.int .i64 s')).setCell ⟨g + 1, 1, none⟩ (.slice A' k' c'))) ∧
    ((((W.setCell ⟨g, 0, none⟩ (.int .i64 s)).setCell ⟨g, 1, none⟩ (.slice A k c)).setCell ⟨g + 1, 0, none⟩ (.int .i64 s')).setCell ⟨g + 1, 1, none⟩ (.slice A' k' c')).cell? ⟨g, 0, none⟩ = some (.int .i64 s) ∧
    ((((W.setCell ⟨g, 0, none⟩ (.int .i64 s)).setCell ⟨g, 1, none⟩ (.slice A k c)).setCell ⟨g + 1, 0, none⟩ (.int .i64 s')).setCell ⟨g + 1, 1, none⟩ (.slice A' k' c')).cell? ⟨g, 1, none⟩ = some (.slice A k c) ∧
    ((((W.setCell ⟨g, 0, none⟩ (.int .i64 s)).setCell ⟨g, 1, none⟩ (.slice A k c)).setCell ⟨g + 1, 0, none⟩ (.int .i64 s')).setCell ⟨g + 1, 1, none⟩ (.slice A' k' c')).cell? ⟨g + 1, 0, none⟩ = some (.int .i64 s') ∧
    ((((W.setCell ⟨g, 0, none⟩ (.int .i64 s)).setCell ⟨g, 1, none⟩ (.slice A k c)).setCell ⟨g + 1, 0, none⟩ (.int .i64 s')).setCell ⟨g + 1, 1, none⟩ (.slice A' k' c')).cell? ⟨g + 1, 1, none⟩ = some (.slice A' k' c') := by
  obtain ⟨H1, a1, a2⟩ := num_store hN q0.1 q0.2
  obtain ⟨H1', _, _⟩ := num_store hM q0.1 q0.2
  have a0 : ((W.setCell ⟨g, 0, none⟩ (.int .i64 s)).setCell ⟨g, 1, none⟩ (.slice A k c)).cell? ⟨g, 0, none⟩ = some (.int .i64 s) := (World.cell?_setCell_other _ _ _ _ (by simp)).trans a1
  have b0 := set_keep (v := .int .i64 s) (u := .slice A k c) q1.1 (show g ≠ g + 1 by omega)
  have b1 := set_keep (v := .int .i64 s) (u := .slice A k c) q1.2 (show g ≠ g + 1 by omega)
  have H1m : NumAt ((W.setCell ⟨g, 0, none⟩ (.int .i64 s)).setCell ⟨g, 1, none⟩ (.slice A k c)) s' A' k' c' m := (hM.set (.int .i64 s) q0.1 (by simp)).set (.slice A k c) ((World.cell?_setCell_other _ _ _ _ (by simp)).trans q0.2) (by simp)
  obtain ⟨H2, c1, c2⟩ := num_store H1m b0 b1
  have H3 := (H1.out.set (.int .i64 s') b0 (by simp)).set (.slice A' k' c') ((World.cell?_setCell_other _ _ _ _ (by simp)).trans b1) (by simp)
  exact ⟨Lib.hid H3, H2, Lib.hid ((((hB.setCell hg _).setCell hg _).setCell (by simp; omega) _).setCell (by simp; omega) _), set_keep a0 (by omega), set_keep a2 (by omega), (World.cell?_setCell_other _ _ _ _ (by simp)).trans c1, c2⟩
theorem sgn_mul_pm {n : Int} (h : n ≠ 0) : sgn n = 1 ∨ sgn n = -1 := by
  rcases sgn_cases n with ⟨e1, h1⟩ | ⟨e1, h1⟩ | ⟨e1, h1⟩ <;> omega
theorem sgn_nat (p : Nat) : sgn (p : Int) = if p = 0 then 0 else 1 := by
  unfold sgn; rw [if_neg (by omega)]
  by_cases h : p = 0
  · rw [if_pos (by omega), if_pos h]
  · rw [if_neg (by omega), if_neg h]
theorem sgn_negnat (p : Nat) : sgn (-(p : Int)) = if p = 0 then 0 else -1 := by
  unfold sgn
  by_cases h : p = 0
  · rw [if_neg (by omega), if_pos (by omega), if_pos h]
  · rw [if_pos (by omega), if_neg h]
theorem quo_val (n m : Int) : n.tdiv m = sgn n * sgn m * ((n.natAbs / m.natAbs : Nat) : Int) ∧ n.tmod m = sgn n * ((n.natAbs % m.natAbs : Nat) : Int) := by
  obtain ⟨p, rfl | rfl⟩ := Int.eq_nat_or_neg n <;> obtain ⟨q, rfl | rfl⟩ := Int.eq_nat_or_neg m <;>
    simp only [Int.natAbs_neg, Int.natAbs_natCast, Int.neg_tdiv, Int.tdiv_neg, Int.neg_tmod, Int.tmod_neg, sgn_nat, sgn_negnat, ← Int.ofNat_tdiv, ← Int.ofNat_tmod] <;>
    by_cases hp : p = 0 <;> by_cases hq : q = 0 <;> simp [hp, hq]
theorem quo_less {n m : Int} (h : n.natAbs < m.natAbs) : n.tdiv m = 0 ∧ n.tmod m = n := by
  obtain ⟨h1, h2⟩ := quo_val n m
  rw [Nat.div_eq_of_lt h] at h1
  rw [Nat.mod_eq_of_lt h] at h2
  refine ⟨by rw [h1]; simp, ?_⟩
  rw [h2]
  rcases sgn_cases n with ⟨e1, h1⟩ | ⟨e1, h1⟩ | ⟨e1, h1⟩ <;> rw [e1] <;> omega
theorem lbs_top {n : Nat} {k : Nat} (h : (lbs n).length = k + 1) : 1 ≤ (lbs n).getD k 0 := by
  have ht := lbs_topd n
  have hb := lbs_getD n k
  unfold Mw.topd at ht
  rw [List.getLast?_eq_getElem?, h] at ht
  simp only [Nat.add_sub_cancel] at ht
  rw [List.getD_eq_getElem?_getD] at hb ⊢
  rw [List.getElem?_eq_getElem (by omega)] at ht hb ⊢
  simp only [Option.getD_some] at hb ⊢
  have : (lbs n)[k] ≠ 0 := fun h0 => ht (by rw [h0])
  omega
theorem addz (ad : Addr) : ad.add 0 = ad := by simp [Addr.add]
theorem reads1 (w : World) (t : TypeId) (a : Int) : Kd.C (Kd.int .u32) (w.alloc (.cells #[.int .u32 a] t)) (some ⟨w.heap.size, 0, none⟩) [a].length [a] := by
  refine Kd.C_of_reads (d := 0) ⟨rfl, by simp, fun _ => ⟨_, rfl, fun j hj => ?_⟩⟩
  have h3 : j = 0 := by simp at hj; omega
  subst h3
  simp [go_sem, add_plain]
theorem made_one (s : Int) (A : Option Addr) (r : Int) (n : Nat) (w : World) (hC : Kd.C (Kd.int .u32) w A [r].length [r]) (hr : 0 ≤ r ∧ r < 1000000000) (hn : r = n) (hs : s = 1 ∨ s = -1 ∨ n = 0) :
    Calls Tryz.prog 129 #[.int .i64 s, .slice A 1 1] w fun e w' => ∃ s' A' k' c', e = .returned (.agg #[.int .i64 s', .slice A' k' c']) ∧ NumAt w' s' A' k' c' (s * n) ∧ Below w.heap.size w w' :=
  made_num s A [r] 1 n w hC (by simp) (by simp) (by simp) (Mw.inB_cons.mpr ⟨hr, Mw.inB_nil _⟩) (by simp [Mw.lv]; exact hn) hs
set_option maxRecDepth 100000 in
set_option maxHeartbeats 2000000 in
theorem quo_lt {s s' : Int} {A A' : Option Addr} {k c k' c' : Nat} {n m : Int} (w : World) (H : NumAt w s A k c n) (H' : NumAt w s' A' k' c' m) (hlt : n.natAbs < m.natAbs) :
    Calls Tryz.prog 80 #[.agg #[.int .i64 s, .slice A k c], .agg #[.int .i64 s', .slice A' k' c']] w fun e w' =>
      ∃ s2 A2 k2 c2 s3 A3 k3 c3, e = .returned (.tuple #[.agg #[.int .i64 s2, .slice A2 k2 c2], .agg #[.int .i64 s3, .slice A3 k3 c3]]) ∧ NumAt w' s2 A2 k2 c2 (n.tdiv m) ∧ NumAt w' s3 A3 k3 c3 (n.tmod m) ∧ Below w.heap.size w w' := by
  have hb0 := box4_below w 71 (.int .i64 s) (.slice A k c) (.int .i64 s') (.slice A' k' c')
  have H1 := H.below hb0
  have H1' := H'.below hb0
  have HB := Lib.hid hb0
  have HN := Lib.hid H1
  have HQ := Lib.hid (quo_less hlt)
  have hc : cmpI n.natAbs m.natAbs < 0 := by have := cmpI_cases n.natAbs m.natAbs; omega
  clear hb0 hlt
  go_enter Tryz.func80, Tryz.ntmps80
  go_wp2_with (go_at_call 102; (with_reducible refine (size_any _ H1 H1').mono ?_); rintro e w1 ⟨rfl, hb1⟩; obtain ⟨⟨d0, d1, d2, d3⟩, ⟨r0, r1⟩, ⟨t0, t1⟩, ⟨f0, f1⟩, ⟨g0, g1⟩⟩ := box4_keep hb1; have HB1 := Lib.hid hb1)
  obtain ⟨HX, HY, HZ, y0, y1, y2, y3⟩ := num_store2 (NumAt.zero _) (HN.out.below hb1) ⟨r0, r1⟩ ⟨t0, t1⟩ w (HB.out.trans (hb1.mono HB.out.size)) (by omega)
  obtain ⟨⟨d0, d1, d2, d3⟩, ⟨r0, r1⟩, ⟨t0, t1⟩, ⟨f0, f1⟩, ⟨g0, g1⟩⟩ := box4_keep (below_drew hb1)
  go_region
  go_wp2
  exact bodyPost_ret (v := .tuple #[.agg #[.int .i64 0, .slice none 0 0], .agg #[.int .i64 s, .slice A k c]]) (by simp [results, Tryz.results80, go_sem, y0, y1, y2, y3]) rfl
    ⟨_, _, _, _, _, _, _, _, rfl, by rw [HQ.out.1]; exact HX.out.drew, by rw [HQ.out.2]; exact HY.out.drew, below_drew HZ.out⟩
theorem quo_signs {n m : Int} (hm : m ≠ 0) (hle : m.natAbs ≤ n.natAbs) : (sgn n * sgn m = 1 ∨ sgn n * sgn m = -1) ∧ (sgn n = 1 ∨ sgn n = -1) := by
  have hn : n ≠ 0 := by omega
  rcases sgn_mul_pm hn with h | h <;> rcases sgn_mul_pm hm with h' | h' <;> rw [h, h'] <;> simp
set_option maxRecDepth 100000 in
set_option maxHeartbeats 2000000 in
theorem quo_one {s s' : Int} {A A' : Option Addr} {k c k' c' : Nat} {n m : Int} (w : World) (H : NumAt w s A k c n) (H' : NumAt w s' A' k' c' m) (hm : m ≠ 0) (hge : m.natAbs ≤ n.natAbs) (hk : k ≤ 800000) (hk' : k' = 1) :
    Calls Tryz.prog 80 #[.agg #[.int .i64 s, .slice A k c], .agg #[.int .i64 s', .slice A' k' c']] w fun e w' =>
      ∃ s2 A2 k2 c2 s3 A3 k3 c3, e = .returned (.tuple #[.agg #[.int .i64 s2, .slice A2 k2 c2], .agg #[.int .i64 s3, .slice A3 k3 c3]]) ∧ NumAt w' s2 A2 k2 c2 (n.tdiv m) ∧ NumAt w' s3 A3 k3 c3 (n.tmod m) ∧ Below w.heap.size w w' := by
  have hb0 := box4_below w 71 (.int .i64 s) (.slice A k c) (.int .i64 s') (.slice A' k' c')
  have H1 := H.below hb0
  have H1' := H'.below hb0
  have HB := Lib.hid hb0
  have HH := Lib.hid H1
  have HH' := Lib.hid H1'
  have HQ := Lib.hid (quo_val n m)
  have HSG := Lib.hid (quo_signs hm hge)
  have hs := H.bd
  have hs' := H'.bd
  have HS := Lib.hid H.sign
  have HS' := Lib.hid H'.sign
  have HGE := Lib.hid hge
  have hc : ¬ cmpI n.natAbs m.natAbs < 0 := by have := cmpI_cases n.natAbs m.natAbs; omega
  clear hb0 hge
  subst hk'
  go_enter Tryz.func80, Tryz.ntmps80
  go_wp2_with (first | (go_at_call 102; (with_reducible refine (size_any _ H1 H1').mono ?_); rintro e w1 ⟨rfl, hb1⟩; obtain ⟨⟨d0, d1, d2, d3⟩, ⟨r0, r1⟩, ⟨t0, t1⟩, ⟨f0, f1⟩, ⟨g0, g1⟩⟩ := box4_keep hb1; have HB1 := Lib.hid hb1) | (go_at_call 128; refine (stimes_any s s' _ hs hs').mono ?_; rintro e w2 ⟨rfl, rfl⟩))
  obtain ⟨l, rfl, el, hc', hC, hi, hv⟩ := (HH.out.below hb1).named
  obtain ⟨y, hy⟩ : ∃ y, (lbs m.natAbs).getD 0 0 = y := ⟨_, rfl⟩
  obtain ⟨ad, rfl, hcy⟩ := (HH'.out.below hb1).cell (i := 0) (by omega)
  rw [hy, addz] at hcy
  have hyb := lbs_getD m.natAbs 0
  have hlen := HH'.out.len
  have hy1 : 1 ≤ y := by rw [← hy]; exact lbs_top (n := m.natAbs) (k := 0) hlen.symm
  have hym : (y : Int) = m.natAbs := by
    have h := lbs_lv m.natAbs
    obtain ⟨z, hz⟩ := List.length_eq_one_iff.mp hlen.symm
    rw [hz] at h hy
    simp [Mw.lv] at h hy
    omega
  rw [hy] at hyb
  have HYM := Lib.hid hym
  have HEL := Lib.hid el
  have HC := Lib.hid hC
  have HI := Lib.hid hi
  have HV := Lib.hid hv
  clear hC hi hv el hlen hy hym
  obtain ⟨⟨d0, d1, d2, d3⟩, ⟨r0, r1⟩, ⟨t0, t1⟩, ⟨f0, f1⟩, ⟨g0, g1⟩⟩ := box4_keep (below_drew hb1)
  have hcy0 : w1.drew.cell? ad = some (.int .u32 y) := hcy
  have hdd : w1.drew.cell? ⟨w.heap.size, 0, none⟩ = some (.int .i64 s) ∧ w1.drew.cell? ⟨w.heap.size, 1, none⟩ = some (.slice A l.length c) ∧ w1.drew.cell? ⟨w.heap.size + 1, 0, none⟩ = some (.int .i64 s') ∧ w1.drew.cell? ⟨w.heap.size + 1, 1, none⟩ = some (.slice (some ad) 1 c') ∧ w1.drew.cell? ad = some (.int .u32 y) := ⟨d0, d1, d2, d3, hcy⟩
  go_region_held3 (fun w' => w'.cell? ⟨w.heap.size, 0, none⟩ = some (.int .i64 s) ∧ w'.cell? ⟨w.heap.size, 1, none⟩ = some (.slice A l.length c) ∧ w'.cell? ⟨w.heap.size + 1, 0, none⟩ = some (.int .i64 s') ∧ w'.cell? ⟨w.heap.size + 1, 1, none⟩ = some (.slice (some ad) 1 c') ∧ w'.cell? ad = some (.int .u32 y)) (first | exact hdd | exact ddd | go_keep) (first | (go_at_call 131; (with_reducible refine (shortly_call l.length A l c y _ rfl (Kd.C_below HC.out (below_drew (Below.refl _ _))) hc' HI.out (by omega) hy1 (by omega)).mono ?_); rintro e w2 ⟨A1, q, c1, r, rfl, hc1, hC1, hi1, hl1, hv1, hr0, hr1, hb2⟩; have HB2 := Lib.hid (hb1.trans ((below_of_drew hb2).mono hb1.size)); have HC1 := Lib.hid hC1; have HI1 := Lib.hid hi1; have HL1 := Lib.hid hl1; have HV1 := Lib.hid hv1; clear hC1 hi1 hl1 hv1; obtain ⟨e0, e1, e2, e3⟩ := (box4_keep HB2.out).1; have ddd : w2.cell? ⟨w.heap.size, 0, none⟩ = some (.int .i64 s) ∧ w2.cell? ⟨w.heap.size, 1, none⟩ = some (.slice A l.length c) ∧ w2.cell? ⟨w.heap.size + 1, 0, none⟩ = some (.int .i64 s') ∧ w2.cell? ⟨w.heap.size + 1, 1, none⟩ = some (.slice (some ad) 1 c') ∧ w2.cell? ad = some (.int .u32 y) := ⟨e0, e1, e2, e3, pw_cell_below hb2 hcy0⟩))
  have hdiv := short_div (HV.out.symm.trans HV1.out) hr0 hr1
  rw [HYM.out] at hdiv
  have hq : Mw.lv 1000000000 q = ((n.natAbs / m.natAbs : Nat) : Int) := by rw [hdiv.1]; rfl
  have hr : r = ((n.natAbs % m.natAbs : Nat) : Int) := by rw [hdiv.2]; rfl
  have HQV := Lib.hid hq
  have HRV := Lib.hid hr
  have HPOS : Hid (0 < q.length) := Lib.hid (by rw [HL1.out, HEL.out, lbs_len_pos]; have := HGE.out; omega)
  clear hdiv hq hr d0 d1 d2 d3 r0 r1 t0 t1 f0 f1 g0 g1 hdd hcy0 e0 e1 e2 e3 ddd hcy
  obtain ⟨⟨d0, d1, d2, d3⟩, ⟨r0, r1⟩, ⟨t0, t1⟩, ⟨f0, f1⟩, ⟨g0, g1⟩⟩ := box4_keep (below_drew HB2.out)
  go_wp2_with fail
  refine wp_region_goT (fun w' => w'.cell? ⟨w.heap.size, 0, none⟩ = some (.int .i64 s)) 8 (by kernel_rfl) (by kernel_rfl) d0 (fun hHeld => ?_)
  refine goT_take 0 (v := ?_) rfl (by decide +kernel) (fun _ _ _ h => h) (Or.inl ⟨by rfl, ?_⟩) (by assumption) ?_
  rotate_left
  · (intro w_ hSw; (try dsimp only at hSw); go_simp; (try with_reducible rfl))
  try simp only [Act.put, List.setIfInBounds_toArray, List.set_cons_zero, List.set_cons_succ]
  refine goT_take 1 (v := ?_) rfl (by decide +kernel) (fun _ _ _ h => h) (Or.inl ⟨by rfl, ?_⟩) (by assumption) ?_
  rotate_left
  · (intro w_ hSw; (try dsimp only at hSw); go_simp; (try with_reducible rfl))
  try simp only [Act.put, List.setIfInBounds_toArray, List.set_cons_zero, List.set_cons_succ]
  refine goT_take 3 (v := ?_) rfl (by decide +kernel) (fun _ _ _ h => h) (Or.inl ⟨by rfl, ?_⟩) (by assumption) ?_
  rotate_left
  · (intro w_ hSw; (try dsimp only at hSw); go_simp; (try with_reducible rfl))
  try simp only [Act.put, List.setIfInBounds_toArray, List.set_cons_zero, List.set_cons_succ]
  refine goT_take 4 (v := ?_) rfl (by decide +kernel) (fun _ _ _ h => h) (Or.inl ⟨by rfl, ?_⟩) (by assumption) ?_
  rotate_left
  · (intro w_ hSw; (try dsimp only at hSw); go_simp; (try with_reducible rfl))
  try simp only [Act.put, List.setIfInBounds_toArray, List.set_cons_zero, List.set_cons_succ]
  refine goT_take 5 (v := ?_) rfl (by decide +kernel) (fun _ _ _ h => h) (Or.inl ⟨by rfl, ?_⟩) (by assumption) ?_
  rotate_left
  · (intro w_ hSw; (try dsimp only at hSw); go_simp; (try with_reducible rfl))
  try simp only [Act.put, List.setIfInBounds_toArray, List.set_cons_zero, List.set_cons_succ]
  have HM1 : Hid (s * s' = 1 ∨ s * s' = -1 ∨ n.natAbs / m.natAbs = 0) := Lib.hid (by rw [HS.out, HS'.out]; rcases HSG.out.1 with h | h <;> simp [h])
  have HM2 : Hid (s = 1 ∨ s = -1 ∨ n.natAbs % m.natAbs = 0) := Lib.hid (by rw [HS.out]; rcases HSG.out.2 with h | h <;> simp [h])
  have hyl : y < 1000000000 := hyb.2
  refine goT_two 2 6 rfl rfl (by decide +kernel) (fun K_ hK => ?_) (fun K_ hK => ?_)
  · go_simp
    refine (made_num (s * s') A1 q c1 (n.natAbs / m.natAbs) _ (Kd.C_below HC1.out (below_drew (Below.refl _ _))) HPOS.out hc1 (by rw [HL1.out]; omega) HI1.out HQV.out HM1.out).mono ?_
    rintro e w3 ⟨s3, A3, k3, c3, rfl, hN3, hb3⟩
    have HB3 := Lib.hid (HB2.out.trans ((below_of_drew hb3).mono HB2.out.size))
    have c0_ := (box4_keep HB3.out).1.1
    go_wp2_with fail
    refine hK.out _ _ c0_ (fun hHeld => ?_)
    clear hK
    try simp only [Act.put, List.setIfInBounds_toArray, List.set_cons_zero, List.set_cons_succ]
    refine goT_step 6 rfl (by decide +kernel) (fun K_ hK => ?_)
    go_simp
    refine hK.out _ _ (cell_alloc _ c0_) (fun hHeld => ?_)
    clear hK
    try simp only [Act.put, List.setIfInBounds_toArray, List.set_cons_zero, List.set_cons_succ]
    refine goT_step 7 rfl (by decide +kernel) (fun K_ hK => ?_)
    go_simp
    refine (made_one s _ r (n.natAbs % m.natAbs) _ (reads1 w3 121 r) ⟨hr0, by omega⟩ HRV.out HM2.out).mono ?_
    rintro e w4 ⟨s4, A4, k4, c4, rfl, hN4, hb4⟩
    have HB4 := Lib.hid (HB3.out.trans (((below_alloc (Below.refl _ _) _).trans (hb4.mono (by simp))).mono HB3.out.size))
    have hN3' := hN3.below ((below_alloc (Below.refl _ _) _).trans (hb4.mono (by simp)))
    have c1_ := (box4_keep HB4.out).1.1
    go_wp2_with fail
    refine hK.out _ _ c1_ (fun hHeld => ?_)
    clear hK
    try simp only [Act.put, List.setIfInBounds_toArray, List.set_cons_zero, List.set_cons_succ]
    obtain ⟨_, ⟨r0, r1⟩, ⟨t0, t1⟩, ⟨f0, f1⟩, ⟨g0, g1⟩⟩ := box4_keep HB4.out
    refine goT_done (by decide +kernel) ?_
    obtain ⟨HX, HY, HZ, y0, y1, y2, y3⟩ := num_store2 hN3' hN4 ⟨r0, r1⟩ ⟨t0, t1⟩ w (HB.out.trans (HB4.out.mono HB.out.size)) (by omega)
    go_wp2
    exact bodyPost_ret (v := .tuple #[.agg #[.int .i64 s3, .slice A3 k3 c3], .agg #[.int .i64 s4, .slice A4 k4 c4]]) (by simp [results, Tryz.results80, go_sem, y0, y1, y2, y3]) rfl
      ⟨_, _, _, _, _, _, _, _, rfl, by rw [HQ.out.1, ← HS.out, ← HS'.out]; exact HX.out, by rw [HQ.out.2, ← HS.out]; exact HY.out, HZ.out⟩
  · go_simp
    refine hK.out _ _ (cell_alloc _ d0) (fun hHeld => ?_)
    clear hK
    try simp only [Act.put, List.setIfInBounds_toArray, List.set_cons_zero, List.set_cons_succ]
    refine goT_step 2 rfl (by decide +kernel) (fun K_ hK => ?_)
    go_simp
    refine (made_num (s * s') A1 q c1 (n.natAbs / m.natAbs) _ (Kd.C_below HC1.out ((below_drew (Below.refl _ _)).alloc (by simp) _)) HPOS.out hc1 (by rw [HL1.out]; omega) HI1.out HQV.out HM1.out).mono ?_
    rintro e w3 ⟨s3, A3, k3, c3, rfl, hN3, hb3⟩
    have hB23 : Below w2.heap.size w2 w3 := ((below_drew (Below.refl _ _)).alloc (by simp) _).trans (hb3.mono (by simp))
    have HB3 := Lib.hid (HB2.out.trans (hB23.mono HB2.out.size))
    have c0_ := (box4_keep HB3.out).1.1
    have hrd := Kd.C_below (reads1 w2.drew 121 r) hb3
    go_wp2_with fail
    refine hK.out _ _ c0_ (fun hHeld => ?_)
    clear hK
    try simp only [Act.put, List.setIfInBounds_toArray, List.set_cons_zero, List.set_cons_succ]
    refine goT_step 7 rfl (by decide +kernel) (fun K_ hK => ?_)
    go_simp
    refine (made_one s _ r (n.natAbs % m.natAbs) _ hrd ⟨hr0, by omega⟩ HRV.out HM2.out).mono ?_
    rintro e w4 ⟨s4, A4, k4, c4, rfl, hN4, hb4⟩
    have HB4 := Lib.hid (HB3.out.trans (hb4.mono HB3.out.size))
    have hN3' := hN3.below hb4
    have c1_ := (box4_keep HB4.out).1.1
    go_wp2_with fail
    refine hK.out _ _ c1_ (fun hHeld => ?_)
    clear hK
    try simp only [Act.put, List.setIfInBounds_toArray, List.set_cons_zero, List.set_cons_succ]
    obtain ⟨_, ⟨r0, r1⟩, ⟨t0, t1⟩, ⟨f0, f1⟩, ⟨g0, g1⟩⟩ := box4_keep HB4.out
    refine goT_done (by decide +kernel) ?_
    obtain ⟨HX, HY, HZ, y0, y1, y2, y3⟩ := num_store2 hN3' hN4 ⟨r0, r1⟩ ⟨t0, t1⟩ w (HB.out.trans (HB4.out.mono HB.out.size)) (by omega)
    go_wp2
    exact bodyPost_ret (v := .tuple #[.agg #[.int .i64 s3, .slice A3 k3 c3], .agg #[.int .i64 s4, .slice A4 k4 c4]]) (by simp [results, Tryz.results80, go_sem, y0, y1, y2, y3]) rfl
      ⟨_, _, _, _, _, _, _, _, rfl, by rw [HQ.out.1, ← HS.out, ← HS'.out]; exact HX.out, by rw [HQ.out.2, ← HS.out]; exact HY.out, HZ.out⟩
end Go.Proofs.YtjieekkkaekclaaGreatDoor
namespace Go.Proofs.YtjieekkkaekclaaGreatDoor
open Go.RowKit Go.Proofs.YtjieekkkaekclaaGreatDoorW.PrintWords
theorem over_call (na nb : Nat) (A0 : Option Addr) (a : List Int) (c0 : Nat) (A1 : Option Addr) (b : List Int) (c1 : Nat) (k : Nat) (w : World) (ea : na = a.length) (eb : nb = b.length) (h0 : Kd.C (Kd.int .u32) w A0 na a) (hc0 : na ≤ c0) (h1 : Kd.C (Kd.int .u32) w A1 nb b) (hc1 : nb ≤ c1)
    (ia : Mw.inB 1000000000 a) (ib : Mw.inB 1000000000 b) (hm : na ≤ 800000) (hb : nb = k + 1) (hk : 1 ≤ k) (hl : k + 1 ≤ na) (ht : 1 ≤ b.getD k 0) :
    Calls Tryz.prog 132 #[.slice A0 na c0, .slice A1 nb c1] w fun e w' => ∃ (Aq : Option Addr) (q : List Int) (cq : Nat) (Ar : Option Addr) (r : List Int) (cr : Nat), e = .returned (.tuple #[.slice Aq q.length cq, .slice Ar r.length cr]) ∧
      q.length ≤ cq ∧ Kd.C (Kd.int .u32) w' Aq q.length q ∧ Mw.inB 1000000000 q ∧ q.length = na - k ∧ Mw.lv 1000000000 q = Mw.lv 1000000000 a / Mw.lv 1000000000 b ∧
      r.length ≤ cr ∧ Kd.C (Kd.int .u32) w' Ar r.length r ∧ Mw.inB 1000000000 r ∧ r.length = k + 1 ∧ Mw.lv 1000000000 r = Mw.lv 1000000000 a % Mw.lv 1000000000 b ∧ Below w.heap.size w w' := by
  subst ea; subst eb
  exact over_any A0 a c0 A1 b c1 k w h0 hc0 h1 hc1 ia ib hm hb hk hl ht
set_option maxRecDepth 100000 in
set_option maxHeartbeats 2000000 in
theorem quo_long {s s' : Int} {A A' : Option Addr} {k c k' c' : Nat} {n m : Int} (w : World) (H : NumAt w s A k c n) (H' : NumAt w s' A' k' c' m) (hm : m ≠ 0) (hge : m.natAbs ≤ n.natAbs) (hk : k ≤ 800000) (hk' : k' ≤ 800000) (hk1 : 2 ≤ k') :
    Calls Tryz.prog 80 #[.agg #[.int .i64 s, .slice A k c], .agg #[.int .i64 s', .slice A' k' c']] w fun e w' =>
      ∃ s2 A2 k2 c2 s3 A3 k3 c3, e = .returned (.tuple #[.agg #[.int .i64 s2, .slice A2 k2 c2], .agg #[.int .i64 s3, .slice A3 k3 c3]]) ∧ NumAt w' s2 A2 k2 c2 (n.tdiv m) ∧ NumAt w' s3 A3 k3 c3 (n.tmod m) ∧ Below w.heap.size w w' := by
  have hb0 := box4_below w 71 (.int .i64 s) (.slice A k c) (.int .i64 s') (.slice A' k' c')
  have H1 := H.below hb0
  have H1' := H'.below hb0
  have HB := Lib.hid hb0
  have HH := Lib.hid H1
  have HH' := Lib.hid H1'
  have HQ := Lib.hid (quo_val n m)
  have HSG := Lib.hid (quo_signs hm hge)
  have hs := H.bd
  have hs' := H'.bd
  have HS := Lib.hid H.sign
  have HS' := Lib.hid H'.sign
  have HGE := Lib.hid hge
  have hc : ¬ cmpI n.natAbs m.natAbs < 0 := by have := cmpI_cases n.natAbs m.natAbs; omega
  clear hb0 hge
  obtain ⟨l, rfl, el, hcl, hC0, hi, hv⟩ := H1.named
  obtain ⟨l', rfl, el', hcl', hC0', hi', hv'⟩ := H1'.named
  obtain ⟨p, hp⟩ : ∃ p, l'.length - 1 = p := ⟨_, rfl⟩
  have hp1 : 1 ≤ p := by omega
  have htop : 1 ≤ l'.getD p 0 := by rw [el']; exact lbs_top (by rw [← el']; omega)
  have hlen : l'.length ≤ l.length := by rw [el, el']; exact lbs_len_mono HGE.out
  have HTOP := Lib.hid htop
  have HP : Hid (l'.length = p + 1) := Lib.hid (by omega)
  have HEL := Lib.hid el
  have HEL' := Lib.hid el'
  have HV := Lib.hid hv
  have HV' := Lib.hid hv'
  have HI := Lib.hid hi
  have HI' := Lib.hid hi'
  have HC := Lib.hid hC0
  have HC' := Lib.hid hC0'
  have hn1 : ¬ (l'.length : Int) = 1 := by omega
  clear el el' hv hv' hi hi' htop hC0 hC0' hp
  go_enter Tryz.func80, Tryz.ntmps80
  go_wp2_with (first | (go_at_call 102; (with_reducible refine (size_any _ H1 H1').mono ?_); rintro e w1 ⟨rfl, hb1⟩; obtain ⟨⟨d0, d1, d2, d3⟩, ⟨r0, r1⟩, ⟨t0, t1⟩, ⟨f0, f1⟩, ⟨g0, g1⟩⟩ := box4_keep hb1; have HB1 := Lib.hid hb1) | (go_at_call 128; refine (stimes_any s s' _ hs hs').mono ?_; rintro e w2 ⟨rfl, rfl⟩) | (go_at_call 132; (with_reducible refine (over_call l.length l'.length A l c A' l' c' p _ rfl rfl (Kd.C_below HC.out hb1) hcl (Kd.C_below HC'.out hb1) hcl' HI.out HI'.out (by omega) HP.out hp1 (by have := HP.out; omega) HTOP.out).mono ?_); rintro e w3 ⟨A1, q, c1, A2, r, c2, rfl, hc1, hC1, hi1, hl1, hv1, hc2, hC2, hi2, hl2, hv2, hb3⟩; have HL1 := Lib.hid hl1; have HL2 := Lib.hid hl2; have HVA := Lib.hid hv1; have HVB := Lib.hid hv2; clear hl1 hl2 hv1 hv2; refine Hid.out ?_))
  have HB3 := Lib.hid (HB1.out.trans (hb3.mono HB1.out.size))
  have hl1 := HL1.out
  have hl2 := HL2.out
  have hv1 := HVA.out
  have hv2 := HVB.out
  rw [HV.out, HV'.out] at hv1 hv2
  have HQV : Hid (Mw.lv 1000000000 q = ((n.natAbs / m.natAbs : Nat) : Int)) := Lib.hid (by rw [hv1]; rfl)
  have HRV : Hid (Mw.lv 1000000000 r = ((n.natAbs % m.natAbs : Nat) : Int)) := Lib.hid (by rw [hv2]; rfl)
  have hq0 : 0 < q.length := by have := HP.out; omega
  have hr0 : 0 < r.length := by omega
  have HC1 := Lib.hid hC1
  have HC2 := Lib.hid hC2
  have HI1 := Lib.hid hi1
  have HI2 := Lib.hid hi2
  have hlq : q.length ≤ 1000000 := by omega
  have hlr : r.length ≤ 1000000 := by have := HP.out; omega
  clear hC1 hC2 hi1 hi2 hl1 hl2 hv1 hv2 d0 d1 d2 d3 r0 r1 t0 t1 f0 f1 g0 g1
  obtain ⟨⟨d0, d1, d2, d3⟩, ⟨r0, r1⟩, ⟨t0, t1⟩, ⟨f0, f1⟩, ⟨g0, g1⟩⟩ := box4_keep (below_drew HB3.out)
  refine Lib.hid ?_
  go_wp2_with fail
  have HM1 : Hid (s * s' = 1 ∨ s * s' = -1 ∨ n.natAbs / m.natAbs = 0) := Lib.hid (by rw [HS.out, HS'.out]; rcases HSG.out.1 with h | h <;> simp [h])
  have HM2 : Hid (s = 1 ∨ s = -1 ∨ n.natAbs % m.natAbs = 0) := Lib.hid (by rw [HS.out]; rcases HSG.out.2 with h | h <;> simp [h])
  refine wp_region_goT (fun w' => w'.cell? ⟨w.heap.size, 0, none⟩ = some (.int .i64 s)) 7 (by kernel_rfl) (by kernel_rfl) d0 (fun hHeld => ?_)
  refine goT_take 0 (v := ?_) rfl (by decide +kernel) (fun _ _ _ h => h) (Or.inl ⟨by rfl, ?_⟩) (by assumption) ?_
  rotate_left
  · (intro w_ hSw; (try dsimp only at hSw); go_simp; (try with_reducible rfl))
  try simp only [Act.put, List.setIfInBounds_toArray, List.set_cons_zero, List.set_cons_succ]
  refine goT_take 1 (v := ?_) rfl (by decide +kernel) (fun _ _ _ h => h) (Or.inl ⟨by rfl, ?_⟩) (by assumption) ?_
  rotate_left
  · (intro w_ hSw; (try dsimp only at hSw); go_simp; (try with_reducible rfl))
  try simp only [Act.put, List.setIfInBounds_toArray, List.set_cons_zero, List.set_cons_succ]
  refine goT_take 3 (v := ?_) rfl (by decide +kernel) (fun _ _ _ h => h) (Or.inl ⟨by rfl, ?_⟩) (by assumption) ?_
  rotate_left
  · (intro w_ hSw; (try dsimp only at hSw); go_simp; (try with_reducible rfl))
  try simp only [Act.put, List.setIfInBounds_toArray, List.set_cons_zero, List.set_cons_succ]
  refine goT_take 4 (v := ?_) rfl (by decide +kernel) (fun _ _ _ h => h) (Or.inl ⟨by rfl, ?_⟩) (by assumption) ?_
  rotate_left
  · (intro w_ hSw; (try dsimp only at hSw); go_simp; (try with_reducible rfl))
  try simp only [Act.put, List.setIfInBounds_toArray, List.set_cons_zero, List.set_cons_succ]
  refine goT_take 5 (v := ?_) rfl (by decide +kernel) (fun _ _ _ h => h) (Or.inl ⟨by rfl, ?_⟩) (by assumption) ?_
  rotate_left
  · (intro w_ hSw; (try dsimp only at hSw); go_simp; (try with_reducible rfl))
  try simp only [Act.put, List.setIfInBounds_toArray, List.set_cons_zero, List.set_cons_succ]
  refine goT_step 2 rfl (by decide +kernel) (fun K_ hK => ?_)
  go_simp
  refine (made_num (s * s') A1 q c1 (n.natAbs / m.natAbs) _ (Kd.C_below HC1.out (below_drew (Below.refl _ _))) hq0 hc1 hlq HI1.out HQV.out HM1.out).mono ?_
  rintro e w4 ⟨s3, A3, k3, c3, rfl, hN3, hb4⟩
  have HB4 := Lib.hid (HB3.out.trans ((below_of_drew hb4).mono HB3.out.size))
  have c0_ := (box4_keep HB4.out).1.1
  go_wp2_with fail
  refine hK.out _ _ c0_ (fun hHeld => ?_)
  clear hK
  try simp only [Act.put, List.setIfInBounds_toArray, List.set_cons_zero, List.set_cons_succ]
  refine goT_step 6 rfl (by decide +kernel) (fun K_ hK => ?_)
  go_simp
  refine (made_num s A2 r c2 (n.natAbs % m.natAbs) _ (Kd.C_below (Kd.C_below HC2.out (below_drew (Below.refl _ _))) hb4) hr0 hc2 hlr HI2.out HRV.out HM2.out).mono ?_
  rintro e w5 ⟨s4, A4, k4, c4, rfl, hN4, hb5⟩
  have HB5 := Lib.hid (HB4.out.trans (hb5.mono HB4.out.size))
  have c1_ := (box4_keep HB5.out).1.1
  go_wp2_with fail
  refine hK.out _ _ c1_ (fun hHeld => ?_)
  clear hK
  try simp only [Act.put, List.setIfInBounds_toArray, List.set_cons_zero, List.set_cons_succ]
  refine goT_done (by decide +kernel) ?_
  obtain ⟨_, ⟨r0, r1⟩, ⟨t0, t1⟩, ⟨f0, f1⟩, ⟨g0, g1⟩⟩ := box4_keep HB5.out
  obtain ⟨HX, HY, HZ, y0, y1, y2, y3⟩ := num_store2 (hN3.below hb5) hN4 ⟨r0, r1⟩ ⟨t0, t1⟩ w (HB.out.trans (HB5.out.mono HB.out.size)) (by omega)
  go_wp2
  exact bodyPost_ret (v := .tuple #[.agg #[.int .i64 s3, .slice A3 k3 c3], .agg #[.int .i64 s4, .slice A4 k4 c4]]) (by simp [results, Tryz.results80, go_sem, y0, y1, y2, y3]) rfl
    ⟨_, _, _, _, _, _, _, _, rfl, by rw [HQ.out.1, ← HS.out, ← HS'.out]; exact HX.out, by rw [HQ.out.2, ← HS.out]; exact HY.out, HZ.out⟩
theorem quo_any {s s' : Int} {A A' : Option Addr} {k c k' c' : Nat} {n m : Int} (w : World) (H : NumAt w s A k c n) (H' : NumAt w s' A' k' c' m) (hm : m ≠ 0) (hk : k ≤ 800000) (hk' : k' ≤ 800000) :
    Calls Tryz.prog 80 #[.agg #[.int .i64 s, .slice A k c], .agg #[.int .i64 s', .slice A' k' c']] w fun e w' =>
      ∃ s2 A2 k2 c2 s3 A3 k3 c3, e = .returned (.tuple #[.agg #[.int .i64 s2, .slice A2 k2 c2], .agg #[.int .i64 s3, .slice A3 k3 c3]]) ∧ NumAt w' s2 A2 k2 c2 (n.tdiv m) ∧ NumAt w' s3 A3 k3 c3 (n.tmod m) ∧ Below w.heap.size w w' := by
  by_cases hlt : n.natAbs < m.natAbs
  · exact quo_lt w H H' hlt
  · have hp : 0 < k' := by rw [H'.len, lbs_len_pos]; omega
    by_cases h1 : k' = 1
    · exact quo_one w H H' hm (by omega) hk h1
    · exact quo_long w H H' hm (by omega) hk hk' (by omega)
end Go.Proofs.YtjieekkkaekclaaGreatDoor
