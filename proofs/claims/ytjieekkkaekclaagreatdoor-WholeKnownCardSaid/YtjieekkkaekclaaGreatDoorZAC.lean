/- Lemmas for the claim beside this text. -/
import Derived.Test.YtjieekkkaekclaaGreatDoorProg
import Derived.Test.YtjieekkkaekclaaGreatDoorZAA
import Derived.Test.YtjieekkkaekclaaGreatDoorZAB
import Derived.Deep.RegionHeld3
import Derived.Lib.Hide
import Derived.StillTailTactics
import Derived.WalkLawsBesides
set_option linter.all false
set_option linter.unusedVariables false
set_option linter.unusedSimpArgs false
namespace Go.Proofs.YtjieekkkaekclaaGreatDoor
open Go.RowKit Go.Proofs.YtjieekkkaekclaaGreatDoorW.PrintWords
def lbs (n : Nat) : List Int := if _h : n = 0 then [] else ((n % 1000000000 : Nat) : Int) :: lbs (n / 1000000000)
termination_by n
decreasing_by omega
theorem lbs_zero : lbs 0 = [] := by rw [lbs]; simp
theorem lbs_pos {n : Nat} (h : n ≠ 0) : lbs n = ((n % 1000000000 : Nat) : Int) :: lbs (n / 1000000000) := by
  rw [lbs]; simp [h]
theorem lbs_inB (n : Nat) : Mw.inB 1000000000 (lbs n) := by
  induction n using Nat.strongRecOn with
  | _ n ih =>
    by_cases h : n = 0
    · subst h; rw [lbs_zero]; exact Mw.inB_nil _
    · rw [lbs_pos h]
      exact Mw.inB_cons.mpr ⟨⟨by omega, by omega⟩, ih _ (by omega)⟩
theorem lbs_lv (n : Nat) : Mw.lv 1000000000 (lbs n) = n := by
  induction n using Nat.strongRecOn with
  | _ n ih =>
    by_cases h : n = 0
    · subst h; rw [lbs_zero]; rfl
    · rw [lbs_pos h, Mw.lv_cons, ih _ (by omega)]; omega
theorem topd_cons {x : Int} {l : List Int} (hl : Mw.topd l) (h : l = [] → x ≠ 0) : Mw.topd (x :: l) := by
  unfold Mw.topd at hl ⊢
  cases l with
  | nil => simpa using h rfl
  | cons y l => simpa [List.getLast?_cons_cons] using hl
theorem lbs_topd (n : Nat) : Mw.topd (lbs n) := by
  induction n using Nat.strongRecOn with
  | _ n ih =>
    by_cases h : n = 0
    · subst h; rw [lbs_zero]; exact Mw.topd_nil
    · rw [lbs_pos h]
      refine topd_cons (ih _ (by omega)) (fun he => ?_)
      have h1 := lbs_lv (n / 1000000000)
      rw [he] at h1
      have h2 : Mw.lv 1000000000 [] = 0 := rfl
      omega
theorem lbs_of {l : List Int} (hi : Mw.inB 1000000000 l) (ht : Mw.topd l) {n : Nat} (h : Mw.lv 1000000000 l = n) : l = lbs n :=
  Mw.lv_inj_top (by omega) hi (lbs_inB n) ht (lbs_topd n) (h.trans (lbs_lv n).symm)
theorem lbs_eq_nil (n : Nat) : lbs n = [] ↔ n = 0 :=
  ⟨fun h => by have := lbs_lv n; rw [h] at this; have h2 : Mw.lv 1000000000 [] = 0 := rfl; omega, fun h => by rw [h, lbs_zero]⟩
theorem lbs_len_pos (n : Nat) : 0 < (lbs n).length ↔ n ≠ 0 := by
  rw [List.length_pos_iff, ne_eq, lbs_eq_nil]
theorem lbs_len_le (n k : Nat) : (lbs n).length ≤ k ↔ n < 1000000000 ^ k := by
  induction k generalizing n with
  | zero =>
    have := lbs_len_pos n
    simp only [Nat.pow_zero]; omega
  | succ k ih =>
    by_cases h : n = 0
    · subst h; rw [lbs_zero]; simp; exact Nat.pow_pos (by omega)
    · rw [lbs_pos h, List.length_cons, Nat.add_le_add_iff_right, ih, Nat.pow_succ]
      exact Nat.div_lt_iff_lt_mul (by omega)
theorem lbs_getD (n i : Nat) : 0 ≤ (lbs n).getD i 0 ∧ (lbs n).getD i 0 < 1000000000 := Mw.inB_getD (by omega) (lbs_inB n) i
theorem lbs_small {n : Nat} (h : n < 1000000000) : lbs n = if n = 0 then [] else [(n : Int)] := by
  by_cases h0 : n = 0
  · rw [if_pos h0, h0, lbs_zero]
  · rw [if_neg h0, lbs_pos h0, Nat.div_eq_of_lt h, lbs_zero, Nat.mod_eq_of_lt h]
def tcut (l : List Int) : Nat → Nat
  | 0 => 0
  | n + 1 => if l.getD n 0 = 0 then tcut l n else n + 1
theorem tcut_le (l : List Int) (n : Nat) : tcut l n ≤ n := by
  induction n with
  | zero => simp [tcut]
  | succ n ih => simp only [tcut]; split <;> omega
theorem tcut_lv (B : Int) (l : List Int) (n : Nat) (h : n ≤ l.length) : Mw.lv B (l.take (tcut l n)) = Mw.lv B (l.take n) := by
  induction n with
  | zero => simp [tcut]
  | succ n ih =>
    simp only [tcut]
    split
    · rename_i h0
      rw [ih (by omega), Mw.take_succ_getD l n (by omega), h0, Mw.lv_snoc]; simp
    · rfl
theorem tcut_topd (l : List Int) (n : Nat) (h : n ≤ l.length) : Mw.topd (l.take (tcut l n)) := by
  induction n with
  | zero => simp [tcut]; exact Mw.topd_nil
  | succ n ih =>
    simp only [tcut]
    split
    · exact ih (by omega)
    · rename_i h0
      rw [Mw.take_succ_getD l n (by omega)]
      exact Mw.topd_snoc.mpr h0
theorem take_tcut {l : List Int} (hi : Mw.inB 1000000000 l) {n : Nat} (h : Mw.lv 1000000000 l = n) : l.take (tcut l l.length) = lbs n :=
  lbs_of (Mw.inB_take hi _) (tcut_topd l _ (Nat.le_refl _)) (by rw [tcut_lv _ _ _ (Nat.le_refl _), List.take_length]; exact h)
theorem tcut_len {l : List Int} (hi : Mw.inB 1000000000 l) {n : Nat} (h : Mw.lv 1000000000 l = n) : tcut l l.length = (lbs n).length := by
  rw [← take_tcut hi h, List.length_take, Nat.min_eq_left (tcut_le l _)]
def sgn (n : Int) : Int := if n < 0 then -1 else if n = 0 then 0 else 1
theorem sgn_cases (n : Int) : sgn n = -1 ∧ n < 0 ∨ sgn n = 0 ∧ n = 0 ∨ sgn n = 1 ∧ 0 < n := by
  unfold sgn; split
  · exact .inl ⟨rfl, ‹_›⟩
  · split
    · exact .inr (.inl ⟨rfl, ‹_›⟩)
    · exact .inr (.inr ⟨rfl, by omega⟩)
theorem sgn_bd (n : Int) : -1 ≤ sgn n ∧ sgn n ≤ 1 := by rcases sgn_cases n with h | h | h <;> omega
theorem sgn_abs (n : Int) : sgn n * n.natAbs = n := by
  rcases sgn_cases n with ⟨h, h1⟩ | ⟨h, h1⟩ | ⟨h, h1⟩ <;> rw [h] <;> omega
structure NumAt (w : World) (s : Int) (A : Option Addr) (k c : Nat) (n : Int) : Prop where
  sign : s = sgn n
  len : k = (lbs n.natAbs).length
  cap : k ≤ c
  reads : Kd.C (Kd.int .u32) w A k (lbs n.natAbs)
theorem NumAt.below {w w1 : World} {s : Int} {A : Option Addr} {k c : Nat} {n : Int} (h : NumAt w s A k c n) (hb : Below w.heap.size w w1) : NumAt w1 s A k c n :=
  ⟨h.sign, h.len, h.cap, Kd.C_below h.reads hb⟩
theorem NumAt.bd {w : World} {s : Int} {A : Option Addr} {k c : Nat} {n : Int} (h : NumAt w s A k c n) : -1 ≤ s ∧ s ≤ 1 := h.sign ▸ sgn_bd n
theorem NumAt.zero (w : World) : NumAt w 0 none 0 0 0 := ⟨rfl, by simp [lbs_zero], Nat.le_refl _, by simpa [lbs_zero] using Kd.C_nil (Kd.int .u32) w⟩
theorem NumAt.reads' {w : World} {s : Int} {A : Option Addr} {k c : Nat} {n : Int} (h : NumAt w s A k c n) : Kd.C (Kd.int .u32) w A (lbs n.natAbs).length (lbs n.natAbs) := h.len ▸ h.reads
theorem NumAt.cell {w : World} {s : Int} {A : Option Addr} {k c : Nat} {n : Int} (h : NumAt w s A k c n) {i : Nat} (hi : i < k) :
    ∃ ad, A = some ad ∧ w.cell? (ad.add i) = some (.int .u32 ((lbs n.natAbs).getD i 0)) := by
  obtain ⟨ad, e, hc⟩ := Kd.at_int h.reads i (by omega) (by omega)
  exact ⟨ad, e, by simpa [rd] using hc⟩
theorem C_take {w : World} {A : Option Addr} {l : List Int} (h : Kd.C (Kd.int .u32) w A l.length l) {n : Nat} (hn : n ≤ l.length) : Kd.C (Kd.int .u32) w A n (l.take n) := by
  refine ⟨by simp; omega, by have := h.2.1; omega, fun hp => ?_⟩
  obtain ⟨ad, e, hc⟩ := h.2.2 (by omega)
  refine ⟨ad, e, fun j p hj => hc j p ?_⟩
  by_cases hjn : j < n
  · rwa [List.getElem?_take_of_lt hjn] at hj
  · rw [List.getElem?_eq_none (by simp; omega)] at hj; cases hj
theorem box_num {w w1 : World} {a b : Value} {t : TypeId} (hb : Below (w.alloc (.cells #[a, b] t)).heap.size (w.alloc (.cells #[a, b] t)) w1) :
    w1.cell? ⟨w.heap.size, 0, none⟩ = some a ∧ w1.cell? ⟨w.heap.size, 1, none⟩ = some b ∧ w.heap.size < w1.heap.size := by
  have h0 := hb.cell (p := ⟨w.heap.size, 0, none⟩) (by simp)
  have h1 := hb.cell (p := ⟨w.heap.size, 1, none⟩) (by simp)
  have h2 := hb.size
  simp [go_sem] at h0 h1 h2
  exact ⟨h0, h1, h2⟩
theorem cell_alloc {W : World} {a : Addr} {v : Value} (o : Obj) (h : W.cell? a = some v) : (W.alloc o).cell? a = some v := pw_cell_below (below_alloc (Below.refl _ _) o) h
theorem kc {W w1 : World} {a : Addr} {v : Value} (hb : Below W.heap.size W w1) (h : W.cell? a = some v) : w1.cell? a = some v := pw_cell_below hb h
theorem kca {W w1 : World} {o : Obj} {a : Addr} {v : Value} (hb : Below (W.alloc o).heap.size (W.alloc o) w1) (h : W.cell? a = some v) : w1.cell? a = some v := kc hb (cell_alloc o h)
theorem box_two {w w1 : World} {a b a' b' : Value} {t t' : TypeId} (hb : Below ((w.alloc (.cells #[a, b] t)).alloc (.cells #[a', b'] t')).heap.size ((w.alloc (.cells #[a, b] t)).alloc (.cells #[a', b'] t')) w1) :
    w1.cell? ⟨w.heap.size, 0, none⟩ = some a ∧ w1.cell? ⟨w.heap.size, 1, none⟩ = some b ∧ w1.cell? ⟨w.heap.size + 1, 0, none⟩ = some a' ∧ w1.cell? ⟨w.heap.size + 1, 1, none⟩ = some b' ∧ w.heap.size < w1.heap.size ∧ w.heap.size + 1 < w1.heap.size := by
  have h0 := hb.cell (p := ⟨w.heap.size, 0, none⟩) (by simp; omega)
  have h1 := hb.cell (p := ⟨w.heap.size, 1, none⟩) (by simp; omega)
  have h2 := hb.cell (p := ⟨w.heap.size + 1, 0, none⟩) (by simp)
  have h3 := hb.cell (p := ⟨w.heap.size + 1, 1, none⟩) (by simp)
  have h4 := hb.size
  simp [go_sem] at h0 h1 h2 h3 h4
  exact ⟨h0, h1, h2, h3, by omega, by omega⟩
theorem wrap_back {k j i : Nat} (h : k - 1 - j = i) (hj : j < k) (hk : k ≤ 9223372036854775807) : wrap64 (wrap64 ((k : Int) - 1) - j) = i := by unfold wrap64; omega
theorem wrap_up {k j : Nat} (hj : j < k) (hk : k ≤ 9223372036854775807) : wrap64 ((j : Int) + 1) = (j : Int) + 1 := by unfold wrap64; omega
theorem below_of_drew {B : Nat} {W w1 : World} (h : Below B W.drew w1) : Below B W w1 := ⟨h.os, h.tape, h.output, h.size, h.block⟩
theorem NumAt.drew {w : World} {s : Int} {A : Option Addr} {k c : Nat} {n : Int} (h : NumAt w s A k c n) : NumAt w.drew s A k c n := h.below (below_drew (Below.refl _ _))
end Go.Proofs.YtjieekkkaekclaaGreatDoor
namespace Go.Proofs.YtjieekkkaekclaaGreatDoor
open Go
section
variable {P : Program} {ops : Array Oper} {md : Region.Mode} {Q : Exit → Act → World → Prop} {S : World → Prop} {n : Nat} {L : Array Bool → Act → World → Prop}
def anyT (P : Program) (md : Region.Mode) (ops : Array Oper) (Q : Exit → Act → World → Prop) (S : World → Prop) (n : Nat) (L : Array Bool → Act → World → Prop) : Nat → Array Bool → Act → World → Prop
  | 0, listed, a, w => L listed a w
  | f + 1, listed, a, w => Region.ready md ops listed ≠ [] ∧ ∀ i ∈ Region.ready md ops listed, i < n ∧ wpOp P ops Q i (fun a' w' => S w' ∧ anyT P md ops Q S n L f (listed.setIfInBounds i true) a' w') a w
theorem any_of_T {g : Nat} (hL : ∀ listed a w, L listed a w → wpAny P md ops Q g listed a w) : ∀ (f : Nat) (listed : Array Bool) (a : Act) (w : World), anyT P md ops Q S n L f listed a w → wpAny P md ops Q (f + g) listed a w
  | 0, listed, a, w, h => by rw [Nat.zero_add]; exact hL _ _ _ h
  | f + 1, listed, a, w, h => by
    rw [show f + 1 + g = (f + g) + 1 by omega]
    exact ⟨fun h0 => absurd h0 h.1, fun i hi => wpOp_mono (fun a' w' h' => any_of_T hL f _ a' w' h'.2) (h.2 i hi).2⟩
theorem anyT_first {i : Nat} {oi : Oper} {v : Value} (hi : ops[i]? = some oi) (hsel : ∀ (j : Nat) (o : Oper) cs b, ops[j]? = some o → o.op ≠ .select cs b) (hQ : ∀ c a w, Q (.panic c) (a.put oi.dst v) w → Q (.panic c) a w)
    (hs : Region.sinkB md ops n = true) (hc : Region.chainB md ops n = true) (hn : n < ops.size) (hin : i < n) (hdone : ∀ listed a w, L listed a w → ∀ j ∈ Region.ready md ops listed, n ≤ j) :
    ∀ (f : Nat) (listed : Array Bool) (a : Act) (w : World), HeadInv md ops n listed →
      (∀ j oj, ops[j]? = some oj → j ≠ i → listed.getD j true = false → (∀ e ∈ oj.after, Region.binds md e = true → e.on ≠ i) → oi.apart ops oj = true) →
      i ∈ Region.ready md ops listed → YieldsIf P ops S oi v a → S w →
      anyT P md ops Q S n L f (listed.setIfInBounds i true) (a.put oi.dst v) w → anyT P md ops Q S n L (f + 1) listed a w := by
  intro f
  induction f with
  | zero =>
    intro listed a w inv _ hr hy hS H
    refine ⟨fun h => (by rw [h] at hr; cases hr), fun j hj => ?_⟩
    have hjn : j < n := by
      rcases Nat.lt_or_ge j n with h | h
      · exact h
      · exact absurd hj (tail_waits hs hc hn inv _ i rfl hin (mem_ready.1 hr).1 j h)
    refine ⟨hjn, ?_⟩
    by_cases hji : j = i
    · subst hji; exact hy.wpOp hi hS ⟨hS, H⟩
    · have := hdone _ _ _ H j (ready_mono hj hji)
      omega
  | succ f ih =>
    intro listed a w inv hfree hr hy hS H
    have hun := (mem_ready.1 hr).1
    refine ⟨fun h => (by rw [h] at hr; cases hr), fun j hj => ?_⟩
    have hjn : j < n := by
      rcases Nat.lt_or_ge j n with h | h
      · exact h
      · exact absurd hj (tail_waits hs hc hn inv _ i rfl hin hun j h)
    refine ⟨hjn, ?_⟩
    by_cases hji : j = i
    · subst hji; exact hy.wpOp hi hS ⟨hS, H⟩
    · have h1 := (H.2 j (ready_mono hj hji)).2
      obtain ⟨hjun, oj, hoj, hall⟩ := mem_ready.1 hj
      have hnot : ∀ e ∈ oj.after, Region.binds md e = true → e.on ≠ i := fun e he hb heq => by
        have h1 := hall e he hb
        rw [heq, getD_both hun] at h1
        cases h1
      have h2 := wpOp_putIf hoj (hfree j oj hoj hji hjun hnot) (fun cs b => hsel i oi cs b hi) (fun cs b => hsel j oj cs b hoj) hQ hy h1
      refine wpOp_mono (fun a' w' h3 => ⟨h3.2.1, ih (listed.setIfInBounds j true) a' w' (inv.set hj hjn) (fun k ok hk hki hun' hno => ?_) (ready_mono hr (Ne.symm hji)) h3.1 h3.2.1 ?_⟩) h2
      · refine hfree k ok hk hki ?_ hno
        by_cases hjk : j = k
        · subst hjk; exact hjun
        · rw [getD_set_ne true hjk] at hun'; exact hun'
      · rw [Array.setIfInBounds_comm _ _ hji]
        exact h3.2.2
def GoT (P : Program) (md : Region.Mode) (ops : Array Oper) (Q : Exit → Act → World → Prop) (S : World → Prop) (n : Nat) (tail : List Oper) (f : Nat) (listed : Array Bool) (a : Act) (w : World) : Prop :=
  HeadInv md ops n listed → anyT P md ops Q S n (fun l a' w' => Region.seqB md ops tail.length n l = true ∧ wpList P ops Q tail a' w') f listed a w
theorem goT_take {tail : List Oper} (i : Nat) {oi : Oper} {v : Value} {f : Nat} {listed : Array Bool} {a : Act} {w : World} (hi : ops[i]? = some oi)
    (hB : (Region.noSelect ops && Region.sinkB md ops n && Region.chainB md ops n && decide (n < ops.size) && decide (i < n) && Region.free md ops listed i && (Region.ready md ops listed).contains i) = true)
    (hQ : ∀ c a w, Q (.panic c) (a.put oi.dst v) w → Q (.panic c) a w) (hy : YieldsIf P ops S oi v a) (hS : S w)
    (h : GoT P md ops Q S n tail f (listed.setIfInBounds i true) (a.put oi.dst v) w) : GoT P md ops Q S n tail (f + 1) listed a w := by
  simp only [Bool.and_eq_true, decide_eq_true_eq] at hB
  obtain ⟨⟨⟨⟨⟨⟨h1, h2⟩, h3⟩, h4⟩, h5⟩, h6⟩, h7⟩ := hB
  have hr : i ∈ Region.ready md ops listed := by simpa using h7
  exact fun inv => anyT_first hi (Region.noSelect_spec h1) hQ h2 h3 h4 h5 (fun l _ _ hl => seqB_ready hl.1) f listed a w inv (Region.free_spec hi h6) hr hy hS (h (inv.set hr h5))
theorem goT_step {tail : List Oper} (i : Nat) {o : Oper} {f : Nat} {listed : Array Bool} {a : Act} {w : World} (ho : ops[i]? = some o) (hB : (decide (Region.ready md ops listed = [i]) && decide (i < n)) = true)
    (h : ∀ K' : Act → World → Prop, Shut (∀ a w, S w → (S w → GoT P md ops Q S n tail f (listed.setIfInBounds i true) a w) → K' a w) → if Region.wanted o (yielded ops a.tmps) = true then Oper.wp P o a w K' Q else K' (a.put o.dst undef) w) :
    GoT P md ops Q S n tail (f + 1) listed a w := by
  simp only [Bool.and_eq_true, decide_eq_true_eq] at hB
  intro inv
  have hr : i ∈ Region.ready md ops listed := by rw [hB.1]; simp
  refine ⟨by rw [hB.1]; simp, fun j hj => ?_⟩
  rw [hB.1] at hj
  obtain rfl : j = i := by simpa using hj
  exact ⟨hB.2, wpOp_step ho (fun K' hK => h K' (fun a w hS hW => hK a w ⟨hS, hW hS (inv.set hr hB.2)⟩))⟩
theorem goT_two {tail : List Oper} (i j : Nat) {oi oj : Oper} {f : Nat} {listed : Array Bool} {a : Act} {w : World} (hoi : ops[i]? = some oi) (hoj : ops[j]? = some oj) (hB : (decide (Region.ready md ops listed = [i, j]) && decide (i < n) && decide (j < n)) = true)
    (hi : ∀ K' : Act → World → Prop, Shut (∀ a w, S w → (S w → GoT P md ops Q S n tail f (listed.setIfInBounds i true) a w) → K' a w) → if Region.wanted oi (yielded ops a.tmps) = true then Oper.wp P oi a w K' Q else K' (a.put oi.dst undef) w)
    (hj : ∀ K' : Act → World → Prop, Shut (∀ a w, S w → (S w → GoT P md ops Q S n tail f (listed.setIfInBounds j true) a w) → K' a w) → if Region.wanted oj (yielded ops a.tmps) = true then Oper.wp P oj a w K' Q else K' (a.put oj.dst undef) w) :
    GoT P md ops Q S n tail (f + 1) listed a w := by
  simp only [Bool.and_eq_true, decide_eq_true_eq] at hB
  obtain ⟨⟨hB1, hB2⟩, hB3⟩ := hB
  intro inv
  have hri : i ∈ Region.ready md ops listed := by rw [hB1]; simp
  have hrj : j ∈ Region.ready md ops listed := by rw [hB1]; simp
  refine ⟨by rw [hB1]; simp, fun k hk => ?_⟩
  rw [hB1] at hk
  have hk2 : k = i ∨ k = j := by simpa using hk
  rcases hk2 with rfl | rfl
  · exact ⟨hB2, wpOp_step hoi (fun K' hK => hi K' (fun a w hS hW => hK a w ⟨hS, hW hS (inv.set hri hB2)⟩))⟩
  · exact ⟨hB3, wpOp_step hoj (fun K' hK => hj K' (fun a w hS hW => hK a w ⟨hS, hW hS (inv.set hrj hB3)⟩))⟩
theorem goT_done {tail : List Oper} {listed : Array Bool} {a : Act} {w : World} (hB : Region.seqB md ops tail.length n listed = true) (h : wpList P ops Q tail a w) : GoT P md ops Q S n tail 0 listed a w := fun _ => ⟨hB, h⟩
theorem wp_region_goT {id : Nat} {a : Act} {w : World} {l : List Oper} (S : World → Prop) (n : Nat) (hm : P.follows .mixedOrders = true) (hB : (decide (n < l.length)) = true) (hS : S w.drew)
    (h : S w.drew → GoT P .any l.toArray Q S n (l.drop n) n (Array.replicate l.length false) a w.drew) : (Code.region id l.toArray true).wp P Q a w := by
  simp only [decide_eq_true_eq] at hB
  refine wp_region_any hm ?_
  have inv0 : HeadInv .any l.toArray n (Array.replicate l.length false) :=
    ⟨by simp, fun j oj _ hl => (by rw [getD_replicate_false] at hl; cases hl), fun t _ ht => getD_in (by simpa using ht) (getD_replicate_false _ _)⟩
  have H := any_of_T (g := (l.drop n).length) (fun listed a' w' hL => wpAny_of_seq (md := .any) (l.drop n) n listed a' w' (fun j => by simp [List.getElem?_drop]) hL.1 hL.2) _ _ _ _ (h hS inv0)
  rw [show n + (l.drop n).length = l.toArray.size by simp; omega] at H
  have e : Array.replicate l.toArray.size false = Array.replicate l.length false := by simp
  rw [e]
  exact H
end
end Go.Proofs.YtjieekkkaekclaaGreatDoor
namespace Go.Proofs.YtjieekkkaekclaaGreatDoor
open Go Go.RowKit
section
variable {P : Program} {ops : Array Oper} {md : Region.Mode} {Q : Exit → Act → World → Prop}
def dstAt (ops : Array Oper) (i : Nat) : Option Tmp := (ops[i]?).bind (·.dst)
def putL (a0 : Act) (d : Nat → Option Tmp) (vs : Nat → Value) (listed : Array Bool) : Nat → Act
  | 0 => a0
  | m + 1 => if listed.getD m false = true then (putL a0 d vs listed m).put (d m) (vs m) else putL a0 d vs listed m
def putAll (a0 : Act) (d : Nat → Option Tmp) (vs : Nat → Value) : Nat → Act
  | 0 => a0
  | m + 1 => (putAll a0 d vs m).put (d m) (vs m)
def cntU (listed : Array Bool) : Nat → Nat
  | 0 => 0
  | m + 1 => cntU listed m + if listed.getD m false = true then 0 else 1
theorem put_comm {a : Act} {d e : Option Tmp} (h : d ≠ e) (x y : Value) : (a.put d x).put e y = (a.put e y).put d x := by
  cases d with
  | none => rfl
  | some d =>
    cases e with
    | none => rfl
    | some e =>
      have : d ≠ e := fun he => h (by rw [he])
      simp only [Act.put]
      rw [Array.setIfInBounds_comm _ _ this]
theorem putL_congr {a0 : Act} {d : Nat → Option Tmp} {vs vs' : Nat → Value} {l l' : Array Bool} : ∀ m, (∀ i, i < m → l.getD i false = l'.getD i false ∧ (l.getD i false = true → vs i = vs' i)) → putL a0 d vs l m = putL a0 d vs' l' m
  | 0, _ => rfl
  | m + 1, h => by
    have h0 := h m (Nat.lt_succ_self _)
    rw [putL, putL, putL_congr m (fun i hi => h i (by omega)), ← h0.1]
    split
    · rw [h0.2 ‹_›]
    · rfl
theorem putL_set {a0 : Act} {d : Nat → Option Tmp} {vs : Nat → Value} {l : Array Bool} {i : Nat} (v : Value) (hl : l.getD i false = false) (hs : i < l.size) : ∀ m, i < m → (∀ j, j < m → j ≠ i → d j ≠ d i ∨ d i = none) →
    putL a0 d (fun j => if j = i then v else vs j) (l.setIfInBounds i true) m = (putL a0 d vs l m).put (d i) v
  | 0, h, _ => by omega
  | m + 1, h, hd => by
    by_cases hm : m = i
    · subst hm
      have e1 : (l.setIfInBounds m true).getD m false = true := by simp [hs]
      have r : putL a0 d vs l (m + 1) = putL a0 d vs l m := by rw [putL, if_neg (by rw [hl]; simp)]
      have r2 : putL a0 d (fun j => if j = m then v else vs j) (l.setIfInBounds m true) m = putL a0 d vs l m := by
        refine putL_congr m (fun j hj => ?_)
        have hne : m ≠ j := by omega
        exact ⟨getD_set_ne false hne, fun _ => if_neg (Ne.symm hne)⟩
      rw [r, putL, if_pos e1, r2]
      simp only [if_true]
    · have ih := putL_set (a0 := a0) (d := d) (vs := vs) v hl hs m (by omega) (fun j hj hne => hd j (by omega) hne)
      have e1 : (l.setIfInBounds i true).getD m false = l.getD m false := getD_set_ne false (Ne.symm hm)
      rw [putL, putL, e1, ih]
      split
      · rcases hd m (Nat.lt_succ_self _) hm with h0 | h0
        · exact put_comm (Ne.symm h0) _ _
        · rw [h0]; rfl
      · rfl
theorem putL_all {a0 : Act} {d : Nat → Option Tmp} {vs : Nat → Value} {l : Array Bool} : ∀ m, (∀ i, i < m → l.getD i false = true) → putL a0 d vs l m = putAll a0 d vs m
  | 0, _ => rfl
  | m + 1, h => by rw [putL, if_pos (h m (Nat.lt_succ_self _)), putL_all m (fun i hi => h i (by omega)), putAll]
theorem putL_none {a0 : Act} {d : Nat → Option Tmp} {vs : Nat → Value} {l : Array Bool} : ∀ m, (∀ i, i < m → l.getD i false = false) → putL a0 d vs l m = a0
  | 0, _ => rfl
  | m + 1, h => by rw [putL, if_neg (by rw [h m (Nat.lt_succ_self _)]; simp), putL_none m (fun i hi => h i (by omega))]
theorem put_eval_ne {a : Act} {d : Option Tmp} {v : Value} {t : Tmp} (h : d ≠ some t) : (a.put d v).eval (.tmp t) = a.eval (.tmp t) := by
  cases d with
  | none => rfl
  | some d =>
    have : d ≠ t := fun he => h (by rw [he])
    simp only [Act.put, Act.eval, Array.getD_eq_getD_getElem?, Array.getElem?_setIfInBounds_ne this]
theorem put_eval_same {a : Act} {v : Value} {t : Tmp} (h : t < a.tmps.size) : (a.put (some t) v).eval (.tmp t) = v := by
  simp only [Act.put, Act.eval, Array.getD_eq_getD_getElem?, Array.getElem?_setIfInBounds_self_of_lt h]; rfl
theorem put_size {a : Act} {d : Option Tmp} {v : Value} : (a.put d v).tmps.size = a.tmps.size := by
  cases d <;> simp [Act.put]
theorem putL_size {a0 : Act} {d : Nat → Option Tmp} {vs : Nat → Value} {l : Array Bool} : ∀ m, (putL a0 d vs l m).tmps.size = a0.tmps.size
  | 0 => rfl
  | m + 1 => by rw [putL]; split <;> simp only [put_size, putL_size m]
theorem putL_other {a0 : Act} {d : Nat → Option Tmp} {vs : Nat → Value} {l : Array Bool} {t : Tmp} : ∀ m, (∀ j, j < m → d j ≠ some t) → (putL a0 d vs l m).eval (.tmp t) = a0.eval (.tmp t)
  | 0, _ => rfl
  | m + 1, h => by
    rw [putL]; split
    · rw [put_eval_ne (h m (Nat.lt_succ_self _)), putL_other m (fun j hj => h j (by omega))]
    · exact putL_other m (fun j hj => h j (by omega))
theorem putL_at {a0 : Act} {d : Nat → Option Tmp} {vs : Nat → Value} {l : Array Bool} {t : Tmp} {i : Nat} (hi : l.getD i false = true) (hd : d i = some t) (ht : t < a0.tmps.size) : ∀ m, i < m → (∀ j, j < m → j ≠ i → d j ≠ d i) → (putL a0 d vs l m).eval (.tmp t) = vs i
  | 0, h, _ => by omega
  | m + 1, h, hn => by
    rw [putL]
    by_cases hm : m = i
    · subst hm
      rw [if_pos hi, hd, put_eval_same (by rw [putL_size]; exact ht)]
    · have ih := putL_at (a0 := a0) (vs := vs) hi hd ht m (by omega) (fun j hj hne => hn j (by omega) hne)
      split
      · rw [put_eval_ne (by rw [← hd]; exact hn m (Nat.lt_succ_self _) hm), ih]
      · exact ih
theorem cntU_set {l : Array Bool} {i : Nat} (hl : l.getD i false = false) (hs : i < l.size) : ∀ m, i < m → cntU (l.setIfInBounds i true) m + 1 = cntU l m
  | 0, h => by omega
  | m + 1, h => by
    rw [cntU, cntU]
    by_cases hm : m = i
    · subst hm
      have e1 : (l.setIfInBounds m true).getD m false = true := by simp [hs]
      rw [if_pos e1, if_neg (by rw [hl]; simp)]
      have : ∀ k, k ≤ m → cntU (l.setIfInBounds m true) k = cntU l k := by
        intro k
        induction k with
        | zero => intro _; rfl
        | succ k ih => intro hk; rw [cntU, cntU, ih (by omega), getD_set_ne false (by omega : m ≠ k)]
      rw [this m (Nat.le_refl _)]
    · have ih := cntU_set hl hs m (by omega)
      rw [getD_set_ne false (Ne.symm hm)]
      omega
theorem cntU_zero {l : Array Bool} : ∀ m, cntU l m = 0 → ∀ i, i < m → l.getD i false = true
  | 0, _, i, hi => by omega
  | m + 1, h, i, hi => by
    rw [cntU] at h
    by_cases hm : l.getD m false = true
    · rcases Nat.lt_or_ge i m with h1 | h1
      · exact cntU_zero m (by omega) i h1
      · obtain rfl : i = m := by omega
        exact hm
    · rw [if_neg hm] at h; omega
theorem cntU_pos {l : Array Bool} : ∀ m, cntU l m ≠ 0 → ∃ i, i < m ∧ l.getD i false = false ∧ ∀ j, j < i → l.getD j false = true
  | 0, h => absurd rfl h
  | m + 1, h => by
    by_cases hm : cntU l m = 0
    · rw [cntU, hm] at h
      have : l.getD m false = false := by
        cases hc : l.getD m false with
        | false => rfl
        | true => rw [hc] at h; simp at h
      exact ⟨m, Nat.lt_succ_self _, this, cntU_zero m hm⟩
    · obtain ⟨i, h1, h2, h3⟩ := cntU_pos m hm
      exact ⟨i, by omega, h2, h3⟩
def evB (md : Region.Mode) (ops : Array Oper) (n sz : Nat) : Bool :=
  decide (n < ops.size) && Region.sinkB md ops n && Region.chainB md ops n && ops.toList.all (fun o => o.guard.isNone) &&
  (List.range n).all (fun i => decide ((dstAt ops i).getD 0 < sz)) &&
  (List.range n).all (fun i => (List.range n).all (fun j => decide (i = j) || dstAt ops i != dstAt ops j || (dstAt ops i).isNone)) &&
  (List.range n).all (fun i => match ops[i]? with | some o => o.after.all (fun e => !Region.binds md e || decide (e.on < i)) | none => false) &&
  Region.seqB md ops (ops.size - n) n ((List.range ops.size).map (fun i => decide (i < n))).toArray
abbrev upd (vs : Nat → Value) (i : Nat) (v : Value) : Nat → Value := fun j => if j = i then v else vs j
theorem ev_run {a0 : Act} {n sz : Nat} (hsz : a0.tmps.size = sz) (B : World → Prop) (R : Nat → World → World → Prop) (F : Nat → (Nat → Value) → World → Prop) (al : Nat → Bool) (hchk : evB md ops n sz = true)
    (hB : ∀ i, i < n → ∀ w w', B w → R i w w' → B w') (hF : ∀ i j, i < n → j < n → i ≠ j → ∀ vs w w', B w → F j vs w → R i w w' → F j vs w')
    (hcg : ∀ i j, i < n → j < n → i ≠ j → Region.waitsFor md ops j i = false → ∀ vs v w, F j vs w → F j (upd vs i v) w)
    (hev : ∀ i, i < n → ∀ o, ops[i]? = some o → ∀ (a : Act) (w : World) (vs : Nat → Value), B w →
      (∀ t, (List.range n).all (fun j => dstAt ops j != some t) = true → a.tmps[t]?.getD undef = a0.tmps[t]?.getD undef) →
      (∀ j, Region.waitsFor md ops i j = true → F j vs w ∧ ∀ t, dstAt ops j = some t → a.tmps[t]?.getD undef = vs j) →
      ∀ K' : Act → World → Prop, Shut (∀ v w', R i w w' → F i (upd vs i v) w' → (al i = true → ∀ j, j < n → al j = true → F j vs w → v ≠ vs j) → K' (a.put o.dst v) w') → Oper.wp P o a w K' Q)
    (htail : ∀ (vs : Nat → Value) (w : World), B w → (∀ i, i < n → F i vs w) → (∀ i j, i < n → j < n → i ≠ j → al i = true → al j = true → vs i ≠ vs j) → wpList P ops Q (ops.toList.drop n) (putAll a0 (dstAt ops) vs n) w) :
    ∀ (f : Nat) (listed : Array Bool) (vs : Nat → Value) (a : Act) (w : World), cntU listed n = f → HeadInv md ops n listed → B w → a = putL a0 (dstAt ops) vs listed n →
      (∀ i, i < n → listed.getD i false = true → F i vs w) →
      (∀ i j, i < n → j < n → i ≠ j → al i = true → al j = true → listed.getD i false = true → listed.getD j false = true → vs i ≠ vs j) → wpAny P md ops Q (f + (ops.size - n)) listed a w := by
  simp only [evB, Bool.and_eq_true, decide_eq_true_eq] at hchk
  subst hsz
  obtain ⟨⟨⟨⟨⟨⟨⟨h1, h2⟩, h3⟩, h4⟩, h5⟩, h6⟩, h7⟩, h8⟩ := hchk
  have hds : ∀ i t, i < n → dstAt ops i = some t → t < a0.tmps.size := fun i t hi ht => by
    have := List.all_eq_true.mp h5 i (List.mem_range.mpr hi)
    simp only [decide_eq_true_eq] at this
    rw [ht] at this; exact this
  have hne : ∀ i j, i < n → j < n → i ≠ j → dstAt ops i ≠ dstAt ops j ∨ dstAt ops i = none := fun i j hi hj hij => by
    have h := List.all_eq_true.mp (List.all_eq_true.mp h6 i (List.mem_range.mpr hi)) j (List.mem_range.mpr hj)
    simp only [Bool.or_eq_true, decide_eq_true_eq, bne_iff_ne, Option.isNone_iff_eq_none] at h
    rcases h with (h | h) | h
    · exact absurd h hij
    · exact .inl h
    · exact .inr h
  have heq : ∀ (a : Act) (t : Tmp), a.eval (.tmp t) = a.tmps[t]?.getD undef := fun a t => by simp only [Act.eval, Array.getD_eq_getD_getElem?]
  intro f
  induction f with
  | zero =>
    intro listed vs a w hc inv hb ha hf hal
    have hall := cntU_zero n hc
    have hl : listed = ((List.range ops.size).map (fun i => decide (i < n))).toArray := by
      apply Array.ext
      · rw [inv.size]; simp
      · intro i hi1 hi2
        have hsz : i < ops.size := by rw [← inv.size]; exact hi1
        have e1 : listed.getD i false = listed[i] := by simp [hi1]
        have e2 : listed.getD i true = listed[i] := by simp [hi1]
        by_cases hin : i < n
        · have := hall i hin
          rw [e1] at this
          simp [this, hin]
        · have := inv.tail i (by omega) hsz
          rw [e2] at this
          simp [this, hin]
    have hlen : (ops.toList.drop n).length = ops.size - n := by simp
    rw [Nat.zero_add, ← hlen]
    refine wpAny_of_seq (ops.toList.drop n) n listed a w (fun j => by simp [List.getElem?_drop]) ?_ ?_
    · rw [hlen, hl]; exact h8
    · rw [ha, putL_all n hall]
      exact htail vs w hb (fun i hi => hf i hi (hall i hi)) (fun i j hi hj hij h1 h2 => hal i j hi hj hij h1 h2 (hall i hi) (hall j hj))
  | succ f ih =>
    intro listed vs a w hc inv hb ha hf hal
    obtain ⟨m, hm1, hm2, hm3⟩ := cntU_pos n (by rw [hc]; omega)
    rw [show f + 1 + (ops.size - n) = (f + (ops.size - n)) + 1 by omega]
    have hmr : m ∈ Region.ready md ops listed := by
      have h := List.all_eq_true.mp h7 m (List.mem_range.mpr hm1)
      have hms : m < ops.size := by omega
      rw [mem_ready]
      refine ⟨getD_in (by rw [inv.size]; exact hms) hm2, ops[m], Array.getElem?_eq_getElem hms, fun e he hbd => ?_⟩
      rw [Array.getElem?_eq_getElem hms] at h
      have h9 := Array.all_eq_true'.mp h e he
      rw [hbd] at h9
      simp only [Bool.not_true, Bool.false_or, decide_eq_true_eq] at h9
      exact hm3 _ h9
    refine ⟨fun h0 => (by rw [h0] at hmr; cases hmr), fun i hi => ?_⟩
    have hin : i < n := by
      rcases Nat.lt_or_ge i n with h | h
      · exact h
      · exact absurd hi (tail_waits h2 h3 h1 inv _ m rfl hm1 (getD_in (by rw [inv.size]; omega) hm2) i h)
    obtain ⟨hun, o, ho, hpre⟩ := mem_ready.1 hi
    have hun' := getD_both hun
    have his : i < listed.size := by rw [inv.size]; omega
    have hg : o.guard = none := by
      have := List.all_eq_true.mp h4 o (by rw [Array.mem_toList_iff]; exact Array.mem_of_getElem? ho)
      simpa using this
    have hdi : o.dst = dstAt ops i := by simp only [dstAt, ho, Option.bind_some]
    have hjl : ∀ j, Region.waitsFor md ops i j = true → listed.getD j false = true ∧ j < n := fun j hj => by
      obtain ⟨oj, hoj, e, he, hbd, rfl⟩ := Region.waitsFor_spec hj
      obtain rfl : o = oj := Option.some.inj (ho.symm.trans hoj)
      have hjl := hpre e he hbd
      refine ⟨hjl, ?_⟩
      rcases Nat.lt_or_ge e.on n with h | h
      · exact h
      · have hs : e.on < listed.size := by
          rcases Nat.lt_or_ge e.on listed.size with h' | h'
          · exact h'
          · simp [h'] at hjl
        have := inv.tail e.on h (by rw [← inv.size]; exact hs)
        have e1 : listed.getD e.on false = listed[e.on] := by simp [hs]
        have e2 : listed.getD e.on true = listed[e.on] := by simp [hs]
        rw [e1] at hjl; rw [e2, hjl] at this; cases this
    have H := hev i hin o ho a w vs hb (fun t ht => by
        rw [← heq, ← heq, ha]
        refine putL_other n (fun j hj => ?_)
        have := List.all_eq_true.mp ht j (List.mem_range.mpr hj)
        simpa using this) (fun j hj => by
        obtain ⟨hl, hjn⟩ := hjl j hj
        refine ⟨hf j hjn hl, fun t ht => ?_⟩
        rw [← heq, ha]
        exact putL_at hl ht (hds j t hjn ht) n hjn (fun k hk hke => by
          rcases hne k j hk hjn hke with h | h
          · exact h
          · rw [h, ht]; simp))
    unfold wpOp
    rw [ho]
    have hw : Region.wanted o (yielded ops a.tmps) = true := by simp [Region.wanted, hg]
    simp only [hw, if_true]
    refine .inl (H _ (show _ from ?_))
    intro v w' hbl hfv hav
    refine ih (listed.setIfInBounds i true) (upd vs i v) _ w' ?_ (inv.set hi hin) (hB i hin w w' hb hbl) ?_ ?_ ?_
    · have := cntU_set hun' his n hin; omega
    · rw [ha, hdi]
      exact (putL_set v hun' his n hin (fun j hj hne' => by
        rcases hne i j hin hj (Ne.symm hne') with h | h
        · exact .inl (Ne.symm h)
        · exact .inr h)).symm
    · intro j hj hl
      by_cases hji : j = i
      · subst hji; exact hfv
      · rw [getD_set_ne false (Ne.symm hji)] at hl
        have hwf : Region.waitsFor md ops j i = false := by
          cases hwc : Region.waitsFor md ops j i with
          | false => rfl
          | true =>
            obtain ⟨oj, hoj, e, he, hbd, rfl⟩ := Region.waitsFor_spec hwc
            have := inv.closed j oj hoj hl e he hbd
            rw [hun'] at this; cases this
        exact hcg i j hin hj (Ne.symm hji) hwf vs v w' (hF i j hin hj (Ne.symm hji) vs w w' hb (hf j hj hl) hbl)
    · intro j k hj hk hjk h1 h2 hl hl'
      by_cases hji : j = i
      · subst hji
        have hkj : k ≠ j := Ne.symm hjk
        rw [getD_set_ne false hjk] at hl'
        simp only [upd, if_true, if_neg hkj]
        exact hav h1 k hk h2 (hf k hk hl')
      · rw [getD_set_ne false (Ne.symm hji)] at hl
        by_cases hki : k = i
        · subst hki
          simp only [upd, if_true, if_neg hji]
          exact Ne.symm (hav h2 j hj h1 (hf j hj hl))
        · rw [getD_set_ne false (Ne.symm hki)] at hl'
          simp only [upd, if_neg hji, if_neg hki]
          exact hal j k hj hk hjk h1 h2 hl hl'
theorem wp_region_events {id : Nat} {l : List Oper} {a0 : Act} {w0 : World} (n sz : Nat) (hsz : a0.tmps.size = sz) (B : World → Prop) (R : Nat → World → World → Prop) (F : Nat → (Nat → Value) → World → Prop) (al : Nat → Bool)
    (hm : P.follows .mixedOrders = true) (hchk : evB .any l.toArray n sz = true) (hB0 : B w0.drew)
    (hB : ∀ i, i < n → ∀ w w', B w → R i w w' → B w') (hF : ∀ i j, i < n → j < n → i ≠ j → ∀ vs w w', B w → F j vs w → R i w w' → F j vs w')
    (hcg : ∀ i j, i < n → j < n → i ≠ j → Region.waitsFor .any l.toArray j i = false → ∀ vs v w, F j vs w → F j (upd vs i v) w)
    (hev : ∀ i, i < n → ∀ o, l.toArray[i]? = some o → ∀ (a : Act) (w : World) (vs : Nat → Value), B w →
      (∀ t, (List.range n).all (fun j => dstAt l.toArray j != some t) = true → a.tmps[t]?.getD undef = a0.tmps[t]?.getD undef) →
      (∀ j, Region.waitsFor .any l.toArray i j = true → F j vs w ∧ ∀ t, dstAt l.toArray j = some t → a.tmps[t]?.getD undef = vs j) →
      ∀ K' : Act → World → Prop, Shut (∀ v w', R i w w' → F i (upd vs i v) w' → (al i = true → ∀ j, j < n → al j = true → F j vs w → v ≠ vs j) → K' (a.put o.dst v) w') → Oper.wp P o a w K' Q)
    (htail : ∀ (vs : Nat → Value) (w : World), B w → (∀ i, i < n → F i vs w) → (∀ i j, i < n → j < n → i ≠ j → al i = true → al j = true → vs i ≠ vs j) → wpList P l.toArray Q (l.drop n) (putAll a0 (dstAt l.toArray) vs n) w) :
    (Code.region id l.toArray true).wp P Q a0 w0 := by
  refine wp_region_any hm ?_
  have hlt : n < l.length := by
    have := hchk
    simp only [evB, Bool.and_eq_true, decide_eq_true_eq] at this
    simpa using this.1.1.1.1.1.1.1
  have hc : cntU (Array.replicate l.toArray.size false) n = n := by
    have : ∀ k, cntU (Array.replicate l.toArray.size false) k = k := by
      intro k
      induction k with
      | zero => rfl
      | succ k ih => rw [cntU, ih, if_neg (by rw [getD_replicate_false]; simp)]
    exact this n
  have inv0 : HeadInv .any l.toArray n (Array.replicate l.toArray.size false) :=
    ⟨by simp, fun j oj _ hl => (by rw [getD_replicate_false] at hl; cases hl), fun t _ ht => getD_in (by simpa using ht) (getD_replicate_false _ _)⟩
  have H := ev_run (P := P) (Q := Q) (md := .any) (ops := l.toArray) hsz B R F al hchk hB hF hcg hev htail n (Array.replicate l.toArray.size false) (fun _ => undef) a0 w0.drew hc inv0 hB0
    (putL_none n (fun i _ => getD_replicate_false _ _)).symm (fun i _ hl => (by rw [getD_replicate_false] at hl; cases hl)) (fun i j _ _ _ _ _ hl _ => (by rw [getD_replicate_false] at hl; cases hl))
  rw [show n + (l.toArray.size - n) = l.toArray.size by simp; omega] at H
  exact H
end
end Go.Proofs.YtjieekkkaekclaaGreatDoor
