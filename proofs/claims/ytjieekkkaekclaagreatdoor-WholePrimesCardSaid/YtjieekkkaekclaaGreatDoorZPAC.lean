/- Lemmas for the claim beside this text. -/
import Derived.Test.YtjieekkkaekclaaGreatDoorProg
import Derived.Test.YtjieekkkaekclaaGreatDoorZPAA
import Derived.Test.YtjieekkkaekclaaGreatDoorZPAB
import Derived.BigQuiet
import Derived.Deep.CutBlock
import Derived.Deep.DeepCutAuto
import Derived.Deep.LoopGhost
import Derived.Deep.QuietTactic
import Derived.Deep.RegionHeld3
import Derived.Deep.RegionLaw
import Derived.Laws.CopyOwn
import Derived.Laws.StructEq
import Derived.Lib.Hide
import Derived.WalkLawsBesides
set_option linter.all false
set_option linter.unusedVariables false
set_option linter.unusedSimpArgs false
namespace Go.Proofs.YtjieekkkaekclaaGreatDoor
open Go.RowKit Go.Proofs.YtjieekkkaekclaaGreatDoorW.PrintWords
def lbs (n : Nat) : List Int := if _h : n = 0 then [] else ((n % 1000000000 : Nat) : Int) :: lbs (n / 1000000000)
termination_by n
decreasing_by omega
theorem lbs_zero : lbs 0 = [] := by rw [lbs]; simp
theorem lbs_pos {n : Nat} (h : n ≠ 0) : lbs n = ((n % 1000000000 : Nat) : Int) :: lbs (n / 1000000000) := by
  rw [lbs]; simp [h]
theorem lbs_inB (n : Nat) : Mw.inB 1000000000 (lbs n) := by
  induction n using Nat.strongRecOn with
  | _ n ih =>
    by_cases h : n = 0
    · subst h; rw [lbs_zero]; exact Mw.inB_nil _
    · rw [lbs_pos h]
      exact Mw.inB_cons.mpr ⟨⟨by omega, by omega⟩, ih _ (by omega)⟩
theorem lbs_lv (n : Nat) : Mw.lv 1000000000 (lbs n) = n := by
  induction n using Nat.strongRecOn with
  | _ n ih =>
    by_cases h : n = 0
    · subst h; rw [lbs_zero]; rfl
    · rw [lbs_pos h, Mw.lv_cons, ih _ (by omega)]; omega
theorem topd_cons {x : Int} {l : List Int} (hl : Mw.topd l) (h : l = [] → x ≠ 0) : Mw.topd (x :: l) := by
  unfold Mw.topd at hl ⊢
  cases l with
  | nil => simpa using h rfl
  | cons y l => simpa [List.getLast?_cons_cons] using hl
theorem lbs_topd (n : Nat) : Mw.topd (lbs n) := by
  induction n using Nat.strongRecOn with
  | _ n ih =>
    by_cases h : n = 0
    · subst h; rw [lbs_zero]; exact Mw.topd_nil
    · rw [lbs_pos h]
      refine topd_cons (ih _ (by omega)) (fun he => ?_)
      have h1 := lbs_lv (n / 1000000000)
      rw [he] at h1
      have h2 : Mw.lv 1000000000 [] = 0 := rfl
      omega
theorem lbs_of {l : List Int} (hi : Mw.inB 1000000000 l) (ht : Mw.topd l) {n : Nat} (h : Mw.lv 1000000000 l = n) : l = lbs n :=
  Mw.lv_inj_top (by omega) hi (lbs_inB n) ht (lbs_topd n) (h.trans (lbs_lv n).symm)
theorem lbs_eq_nil (n : Nat) : lbs n = [] ↔ n = 0 :=
  ⟨fun h => by have := lbs_lv n; rw [h] at this; have h2 : Mw.lv 1000000000 [] = 0 := rfl; omega, fun h => by rw [h, lbs_zero]⟩
theorem lbs_len_pos (n : Nat) : 0 < (lbs n).length ↔ n ≠ 0 := by
  rw [List.length_pos_iff, ne_eq, lbs_eq_nil]
theorem lbs_len_le (n k : Nat) : (lbs n).length ≤ k ↔ n < 1000000000 ^ k := by
  induction k generalizing n with
  | zero =>
    have := lbs_len_pos n
    simp only [Nat.pow_zero]; omega
  | succ k ih =>
    by_cases h : n = 0
    · subst h; rw [lbs_zero]; simp; exact Nat.pow_pos (by omega)
    · rw [lbs_pos h, List.length_cons, Nat.add_le_add_iff_right, ih, Nat.pow_succ]
      exact Nat.div_lt_iff_lt_mul (by omega)
theorem lbs_getD (n i : Nat) : 0 ≤ (lbs n).getD i 0 ∧ (lbs n).getD i 0 < 1000000000 := Mw.inB_getD (by omega) (lbs_inB n) i
theorem lbs_small {n : Nat} (h : n < 1000000000) : lbs n = if n = 0 then [] else [(n : Int)] := by
  by_cases h0 : n = 0
  · rw [if_pos h0, h0, lbs_zero]
  · rw [if_neg h0, lbs_pos h0, Nat.div_eq_of_lt h, lbs_zero, Nat.mod_eq_of_lt h]
def tcut (l : List Int) : Nat → Nat
  | 0 => 0
  | n + 1 => if l.getD n 0 = 0 then tcut l n else n + 1
theorem tcut_le (l : List Int) (n : Nat) : tcut l n ≤ n := by
  induction n with
  | zero => simp [tcut]
  | succ n ih => simp only [tcut]; split <;> omega
theorem tcut_lv (B : Int) (l : List Int) (n : Nat) (h : n ≤ l.length) : Mw.lv B (l.take (tcut l n)) = Mw.lv B (l.take n) := by
  induction n with
  | zero => simp [tcut]
  | succ n ih =>
    simp only [tcut]
    split
    · rename_i h0
      rw [ih (by omega), Mw.take_succ_getD l n (by omega), h0, Mw.lv_snoc]; simp
    · rfl
theorem tcut_topd (l : List Int) (n : Nat) (h : n ≤ l.length) : Mw.topd (l.take (tcut l n)) := by
  induction n with
  | zero => simp [tcut]; exact Mw.topd_nil
  | succ n ih =>
    simp only [tcut]
    split
    · exact ih (by omega)
    · rename_i h0
      rw [Mw.take_succ_getD l n (by omega)]
      exact Mw.topd_snoc.mpr h0
theorem take_tcut {l : List Int} (hi : Mw.inB 1000000000 l) {n : Nat} (h : Mw.lv 1000000000 l = n) : l.take (tcut l l.length) = lbs n :=
  lbs_of (Mw.inB_take hi _) (tcut_topd l _ (Nat.le_refl _)) (by rw [tcut_lv _ _ _ (Nat.le_refl _), List.take_length]; exact h)
theorem tcut_len {l : List Int} (hi : Mw.inB 1000000000 l) {n : Nat} (h : Mw.lv 1000000000 l = n) : tcut l l.length = (lbs n).length := by
  rw [← take_tcut hi h, List.length_take, Nat.min_eq_left (tcut_le l _)]
def sgn (n : Int) : Int := if n < 0 then -1 else if n = 0 then 0 else 1
theorem sgn_cases (n : Int) : sgn n = -1 ∧ n < 0 ∨ sgn n = 0 ∧ n = 0 ∨ sgn n = 1 ∧ 0 < n := by
  unfold sgn; split
  · exact .inl ⟨rfl, ‹_›⟩
  · split
    · exact .inr (.inl ⟨rfl, ‹_›⟩)
    · exact .inr (.inr ⟨rfl, by omega⟩)
theorem sgn_bd (n : Int) : -1 ≤ sgn n ∧ sgn n ≤ 1 := by rcases sgn_cases n with h | h | h <;> omega
theorem sgn_abs (n : Int) : sgn n * n.natAbs = n := by
  rcases sgn_cases n with ⟨h, h1⟩ | ⟨h, h1⟩ | ⟨h, h1⟩ <;> rw [h] <;> omega
structure NumAt (w : World) (s : Int) (A : Option Addr) (k c : Nat) (n : Int) : Prop where
  sign : s = sgn n
  len : k = (lbs n.natAbs).length
  cap : k ≤ c
  reads : Kd.C (Kd.int .u32) w A k (lbs n.natAbs)
theorem NumAt.below {w w1 : World} {s : Int} {A : Option Addr} {k c : Nat} {n : Int} (h : NumAt w s A k c n) (hb : Below w.heap.size w w1) : NumAt w1 s A k c n :=
  ⟨h.sign, h.len, h.cap, Kd.C_below h.reads hb⟩
theorem NumAt.bd {w : World} {s : Int} {A : Option Addr} {k c : Nat} {n : Int} (h : NumAt w s A k c n) : -1 ≤ s ∧ s ≤ 1 := h.sign ▸ sgn_bd n
theorem NumAt.zero (w : World) : NumAt w 0 none 0 0 0 := ⟨rfl, by simp [lbs_zero], Nat.le_refl _, by simpa [lbs_zero] using Kd.C_nil (Kd.int .u32) w⟩
theorem NumAt.reads' {w : World} {s : Int} {A : Option Addr} {k c : Nat} {n : Int} (h : NumAt w s A k c n) : Kd.C (Kd.int .u32) w A (lbs n.natAbs).length (lbs n.natAbs) := h.len ▸ h.reads
theorem NumAt.cell {w : World} {s : Int} {A : Option Addr} {k c : Nat} {n : Int} (h : NumAt w s A k c n) {i : Nat} (hi : i < k) :
    ∃ ad, A = some ad ∧ w.cell? (ad.add i) = some (.int .u32 ((lbs n.natAbs).getD i 0)) := by
  obtain ⟨ad, e, hc⟩ := Kd.at_int h.reads i (by omega) (by omega)
  exact ⟨ad, e, by simpa [rd] using hc⟩
theorem C_take {w : World} {A : Option Addr} {l : List Int} (h : Kd.C (Kd.int .u32) w A l.length l) {n : Nat} (hn : n ≤ l.length) : Kd.C (Kd.int .u32) w A n (l.take n) := by
  refine ⟨by simp; omega, by have := h.2.1; omega, fun hp => ?_⟩
  obtain ⟨ad, e, hc⟩ := h.2.2 (by omega)
  refine ⟨ad, e, fun j p hj => hc j p ?_⟩
  by_cases hjn : j < n
  · rwa [List.getElem?_take_of_lt hjn] at hj
  · rw [List.getElem?_eq_none (by simp; omega)] at hj; cases hj
theorem box_num {w w1 : World} {a b : Value} {t : TypeId} (hb : Below (w.alloc (.cells #[a, b] t)).heap.size (w.alloc (.cells #[a, b] t)) w1) :
    w1.cell? ⟨w.heap.size, 0, none⟩ = some a ∧ w1.cell? ⟨w.heap.size, 1, none⟩ = some b ∧ w.heap.size < w1.heap.size := by
  have h0 := hb.cell (p := ⟨w.heap.size, 0, none⟩) (by simp)
  have h1 := hb.cell (p := ⟨w.heap.size, 1, none⟩) (by simp)
  have h2 := hb.size
  simp [go_sem] at h0 h1 h2
  exact ⟨h0, h1, h2⟩
theorem cell_alloc {W : World} {a : Addr} {v : Value} (o : Obj) (h : W.cell? a = some v) : (W.alloc o).cell? a = some v := pw_cell_below (below_alloc (Below.refl _ _) o) h
theorem kc {W w1 : World} {a : Addr} {v : Value} (hb : Below W.heap.size W w1) (h : W.cell? a = some v) : w1.cell? a = some v := pw_cell_below hb h
theorem kca {W w1 : World} {o : Obj} {a : Addr} {v : Value} (hb : Below (W.alloc o).heap.size (W.alloc o) w1) (h : W.cell? a = some v) : w1.cell? a = some v := kc hb (cell_alloc o h)
theorem box_two {w w1 : World} {a b a' b' : Value} {t t' : TypeId} (hb : Below ((w.alloc (.cells #[a, b] t)).alloc (.cells #[a', b'] t')).heap.size ((w.alloc (.cells #[a, b] t)).alloc (.cells #[a', b'] t')) w1) :
    w1.cell? ⟨w.heap.size, 0, none⟩ = some a ∧ w1.cell? ⟨w.heap.size, 1, none⟩ = some b ∧ w1.cell? ⟨w.heap.size + 1, 0, none⟩ = some a' ∧ w1.cell? ⟨w.heap.size + 1, 1, none⟩ = some b' ∧ w.heap.size < w1.heap.size ∧ w.heap.size + 1 < w1.heap.size := by
  have h0 := hb.cell (p := ⟨w.heap.size, 0, none⟩) (by simp; omega)
  have h1 := hb.cell (p := ⟨w.heap.size, 1, none⟩) (by simp; omega)
  have h2 := hb.cell (p := ⟨w.heap.size + 1, 0, none⟩) (by simp)
  have h3 := hb.cell (p := ⟨w.heap.size + 1, 1, none⟩) (by simp)
  have h4 := hb.size
  simp [go_sem] at h0 h1 h2 h3 h4
  exact ⟨h0, h1, h2, h3, by omega, by omega⟩
theorem wrap_back {k j i : Nat} (h : k - 1 - j = i) (hj : j < k) (hk : k ≤ 9223372036854775807) : wrap64 (wrap64 ((k : Int) - 1) - j) = i := by unfold wrap64; omega
theorem wrap_up {k j : Nat} (hj : j < k) (hk : k ≤ 9223372036854775807) : wrap64 ((j : Int) + 1) = (j : Int) + 1 := by unfold wrap64; omega
theorem below_of_drew {B : Nat} {W w1 : World} (h : Below B W.drew w1) : Below B W w1 := ⟨h.os, h.tape, h.output, h.size, h.block⟩
theorem NumAt.drew {w : World} {s : Int} {A : Option Addr} {k c : Nat} {n : Int} (h : NumAt w s A k c n) : NumAt w.drew s A k c n := h.below (below_drew (Below.refl _ _))
end Go.Proofs.YtjieekkkaekclaaGreatDoor
namespace Go.Proofs.YtjieekkkaekclaaGreatDoor
open Go.RowKit Go.Proofs.YtjieekkkaekclaaGreatDoorW.PrintWords
def numV (s : Int) (A : Option Addr) (n : Nat) : Value := if n = 0 then .agg #[.int .i64 0, .slice none 0 0] else .agg #[.int .i64 s, .slice A n n]
set_option maxHeartbeats 400000 in
theorem made_any (s : Int) (ad : Addr) (l : List Int) (c : Nat) (w : World) (hC : Kd.C (Kd.int .u32) w (some ad) l.length l) (hc : l.length ≤ c) (hl : l.length ≤ 1000000) :
    Calls Tryz.prog 129 #[.int .i64 s, .slice (some ad) l.length c] w fun e w' => e = .returned (numV s (some ad) (tcut l l.length)) ∧ Below w.heap.size w w' := by
  have HC := Lib.hid hC
  clear hC
  go_enter Tryz.func129, Tryz.ntmps129
  go_wp2
  go_loop [5] (fun v => ∃ n : Nat, n ≤ l.length ∧ v = .int .i64 n ∧ tcut l n = tcut l l.length) (fun v => (intOf v).toNat)
  case atStart => exact ⟨l.length, Nat.le_refl _, rfl, rfl⟩
  case round =>
    obtain ⟨n, hn, rfl, ht⟩ := hrel
    have HT := Lib.hid ht
    clear ht
    cases n with
    | zero =>
      go_wp2
      have e0 : numV s (some ad) (tcut l l.length) = .agg #[.int .i64 0, .slice none 0 0] := by rw [← HT.out]; rfl
      exact bodyPost_ret (v := .agg #[.int .i64 0, .slice none 0 0]) (by simp [results, Tryz.results129, go_sem]) rfl ⟨by rw [e0], (Below.refl _ _).alloc (Nat.le_refl _) _⟩
    | succ n =>
      obtain ⟨ad', e, hcell⟩ := Kd.at_int (Kd.C_alloc HC.out (.cells #[.int .i64 0, .slice none 0 0] 71)) n (by omega) (by omega)
      obtain rfl : ad = ad' := by simpa using e
      simp only [Int.toNat_natCast] at hcell
      by_cases hz : rd l n = 0
      · rw [hz] at hcell
        have HZ := Lib.hid hz
        clear hz
        go_wp2
        go_round
        case rel => exact ⟨n, by omega, by go_num, by rw [← HT.out]; have h1 : l.getD n 0 = 0 := HZ.out; simp only [tcut]; rw [if_pos h1]⟩
        case measure => simp [intOf]
      · go_wp2
        have e0 : numV s (some ad) (tcut l l.length) = .agg #[.int .i64 s, .slice (some ad) (n + 1) (n + 1)] := by
          rw [← HT.out]
          have h1 : ¬ l.getD n 0 = 0 := hz
          have h2 : tcut l (n + 1) = n + 1 := by simp only [tcut]; rw [if_neg h1]
          rw [h2]; simp [numV]
        exact bodyPost_ret (v := .agg #[.int .i64 s, .slice (some ad) (n + 1) (n + 1)]) (by simp [results, Tryz.results129, go_sem]) rfl ⟨by rw [e0], (Below.refl _ _).alloc (Nat.le_refl _) _⟩
theorem made_num (s : Int) (A : Option Addr) (l : List Int) (c : Nat) (n : Nat) (w : World) (hC : Kd.C (Kd.int .u32) w A l.length l) (hp : 0 < l.length) (hc : l.length ≤ c) (hl : l.length ≤ 1000000)
    (hi : Mw.inB 1000000000 l) (hv : Mw.lv 1000000000 l = n) (hs : s = 1 ∨ s = -1 ∨ n = 0) :
    Calls Tryz.prog 129 #[.int .i64 s, .slice A l.length c] w fun e w' => ∃ s' A' k' c', e = .returned (.agg #[.int .i64 s', .slice A' k' c']) ∧ NumAt w' s' A' k' c' (s * n) ∧ Below w.heap.size w w' := by
  obtain ⟨ad, rfl, _⟩ := Kd.at_int hC 0 (by omega) (by omega)
  refine (made_any s ad l c w hC hc hl).mono ?_
  rintro e w' ⟨rfl, hb⟩
  have h1 := tcut_len hi hv
  by_cases h0 : n = 0
  · subst h0
    have h2 : tcut l l.length = 0 := by rw [h1, lbs_zero]; rfl
    refine ⟨0, none, 0, 0, by rw [h2]; rfl, ?_, hb⟩
    have := NumAt.zero w'
    simpa using this
  · have h2 : tcut l l.length ≠ 0 := by rw [h1]; have := (lbs_len_pos n).mpr h0; omega
    have h3 : (s * (n : Int)).natAbs = n := by rcases hs with h | h | h <;> first | (subst h; omega) | omega
    refine ⟨s, some ad, tcut l l.length, tcut l l.length, by simp only [numV]; rw [if_neg h2], ⟨?_, by rw [h3]; exact h1, Nat.le_refl _, ?_⟩, hb⟩
    · rcases hs with h | h | h
      · subst h; simp [sgn]; omega
      · subst h; simp [sgn]; omega
      · omega
    · rw [h3, ← take_tcut hi hv]
      exact C_take (Kd.C_below hC hb) (tcut_le _ _)
theorem sneg_any (s : Int) (w : World) : Calls Tryz.prog 78 #[.int .i64 s] w fun e w' => e = .returned (.bool (s == -1)) ∧ w' = w := by
  go_enter Tryz.func78, Tryz.ntmps78
  go_wp2
  go_ret
  exact ⟨rfl, rfl⟩
theorem szero_any (s : Int) (w : World) : Calls Tryz.prog 70 #[.int .i64 s] w fun e w' => e = .returned (.bool (s == 0)) ∧ w' = w := by
  go_enter Tryz.func70, Tryz.ntmps70
  go_wp2
  go_ret
  exact ⟨rfl, rfl⟩
theorem ssign_any (s : Int) (w : World) (h : -1 ≤ s ∧ s ≤ 1) : Calls Tryz.prog 74 #[.int .i64 s] w fun e w' => e = .returned (.int .i64 s) ∧ w' = w := by
  obtain ⟨h0, h1⟩ := h
  go_enter Tryz.func74, Tryz.ntmps74
  go_wp2
  go_ret
  exact ⟨rfl, rfl⟩
theorem times_bd (s t : Int) (hs : -1 ≤ s ∧ s ≤ 1) (ht : -1 ≤ t ∧ t ≤ 1) : -1 ≤ s * t ∧ s * t ≤ 1 := by
  have h1 : s = -1 ∨ s = 0 ∨ s = 1 := by omega
  rcases h1 with h | h | h <;> subst h <;> omega
theorem stimes_any (s t : Int) (w : World) (hs : -1 ≤ s ∧ s ≤ 1) (ht : -1 ≤ t ∧ t ≤ 1) : Calls Tryz.prog 128 #[.int .i64 s, .int .i64 t] w fun e w' => e = .returned (.int .i64 (s * t)) ∧ w = w' := by
  obtain ⟨h0, h1⟩ := times_bd s t hs ht
  have hw : IntKind.i64.wrap (s * t) = s * t := IntWalk.i64_in _ (by omega)
  go_enter Tryz.func128, Tryz.ntmps128
  go_wp2
  go_ret
  exact ⟨by first | rfl | rw [hw], rfl⟩
theorem NumAt.neg {w : World} {s : Int} {A : Option Addr} {k c : Nat} {n : Int} (h : NumAt w s A k c n) : NumAt w (-s) A k c (-n) :=
  ⟨by rw [h.sign]; unfold sgn; split <;> split <;> (try split) <;> (try split) <;> omega, by rw [Int.natAbs_neg]; exact h.len, h.cap, by rw [Int.natAbs_neg]; exact h.reads⟩
theorem NumAt.abs {w : World} {s : Int} {A : Option Addr} {k c : Nat} {n : Int} (h : NumAt w s A k c n) : NumAt w (s * s) A k c (n.natAbs : Int) :=
  ⟨by rw [h.sign]; rcases sgn_cases n with ⟨e, h1⟩ | ⟨e, h1⟩ | ⟨e, h1⟩ <;> rw [e] <;> unfold sgn <;> split <;> (try split) <;> omega, by rw [Int.natAbs_natCast]; exact h.len, h.cap, by rw [Int.natAbs_natCast]; exact h.reads⟩
set_option maxHeartbeats 400000 in
theorem opposite_any {s : Int} {A : Option Addr} {k c : Nat} {n : Int} (w : World) (H : NumAt w s A k c n) :
    Calls Tryz.prog 79 #[.agg #[.int .i64 s, .slice A k c]] w fun e w' => e = .returned (.agg #[.int .i64 (-s), .slice A k c]) ∧ NumAt w' (-s) A k c (-n) ∧ Below w.heap.size w w' := by
  obtain ⟨h0, h1⟩ := H.bd
  go_enter Tryz.func79, Tryz.ntmps79
  go_wp2_with fail
  go_region_held3 (fun w' => w'.cell? ⟨w.heap.size, 0, none⟩ = some (.int .i64 s) ∧ w'.cell? ⟨w.heap.size, 1, none⟩ = some (.slice A k c)) (go_keep) (first | (go_at_call 128; refine (stimes_any _ _ _ (by omega) (by omega)).mono ?_; rintro e w' ⟨rfl, rfl⟩))
  go_wp2
  have hb : Below w.heap.size w (((w.alloc (.cells #[.int .i64 s, .slice A k c] 71)).alloc (.cells #[.int .i64 (-s), .slice A k c] 71)).drew) := below_drew (((Below.refl _ _).alloc (Nat.le_refl _) _).alloc (by simp) _)
  exact bodyPost_ret (v := .agg #[.int .i64 (-s), .slice A k c]) (by simp [results, Tryz.results79, go_sem]) rfl ⟨rfl, (H.below hb).neg, hb⟩
set_option maxHeartbeats 400000 in
theorem abs_any {s : Int} {A : Option Addr} {k c : Nat} {n : Int} (w : World) (H : NumAt w s A k c n) :
    Calls Tryz.prog 72 #[.agg #[.int .i64 s, .slice A k c]] w fun e w' => e = .returned (.agg #[.int .i64 (s * s), .slice A k c]) ∧ NumAt w' (s * s) A k c (n.natAbs : Int) ∧ Below w.heap.size w w' := by
  obtain ⟨h0, h1⟩ := H.bd
  go_enter Tryz.func72, Tryz.ntmps72
  go_wp2_with fail
  go_region_held3 (fun w' => w'.cell? ⟨w.heap.size, 0, none⟩ = some (.int .i64 s) ∧ w'.cell? ⟨w.heap.size, 1, none⟩ = some (.slice A k c)) (go_keep) (first | (go_at_call 128; refine (stimes_any _ _ _ ⟨by omega, by omega⟩ ⟨by omega, by omega⟩).mono ?_; rintro e w' ⟨rfl, rfl⟩))
  go_wp2
  have hb : Below w.heap.size w (((w.alloc (.cells #[.int .i64 s, .slice A k c] 71)).alloc (.cells #[.int .i64 (s * s), .slice A k c] 71)).drew) := below_drew (((Below.refl _ _).alloc (Nat.le_refl _) _).alloc (by simp) _)
  exact bodyPost_ret (v := .agg #[.int .i64 (s * s), .slice A k c]) (by simp [results, Tryz.results72, go_sem]) rfl ⟨rfl, (H.below hb).abs, hb⟩
end Go.Proofs.YtjieekkkaekclaaGreatDoor
namespace Go.Proofs.YtjieekkkaekclaaGreatDoor
open Go.RowKit Go.Proofs.YtjieekkkaekclaaGreatDoorW.PrintWords
theorem few_cells (l : List Int) : splice [.int .u32 0, .int .u32 0] 0 ((l.take 2).map (Value.int .u32)) = [.int .u32 (l.getD 0 0), .int .u32 (l.getD 1 0)] := by
  match l with
  | [] => rfl
  | [x] => rfl
  | x :: y :: l => simp [splice]
theorem few_src {w : World} {s : Int} {A : Option Addr} {k c : Nat} {n : Int} (H : NumAt w s A k c n) (hp : 0 < (((lbs n.natAbs).take 2).map (Value.int .u32)).length) :
    ∃ ad, A = some ad ∧ ∀ j v, (((lbs n.natAbs).take 2).map (Value.int .u32))[j]? = some v → w.cell? (ad.add j) = some v := by
  have hl := H.len
  have h0 : 0 < k := by simp at hp; omega
  obtain ⟨ad, e, _⟩ := H.cell h0
  refine ⟨ad, e, fun j v hj => ?_⟩
  have hj2 : j < (lbs n.natAbs).length ∧ j < 2 := by
    have := (List.getElem?_eq_some_iff.mp hj).1
    simp at this; omega
  obtain ⟨ad', e', hc⟩ := H.cell (i := j) (by omega)
  obtain rfl : ad = ad' := by rw [e] at e'; simpa using e'
  rw [hc]
  rw [List.getElem?_map, List.getElem?_take_of_lt hj2.2, List.getElem?_eq_getElem hj2.1] at hj
  rw [List.getD_eq_getElem?_getD, List.getElem?_eq_getElem hj2.1]
  simpa using hj
theorem few_len {w : World} {s : Int} {A : Option Addr} {k c : Nat} {n : Int} (H : NumAt w s A k c n) : (((lbs n.natAbs).take 2).map (Value.int .u32)).length = Nat.min k 2 := by
  rw [H.len, List.length_map, List.length_take]; exact Nat.min_comm _ _
theorem few_one (n : Nat) : ∀ v ∈ ((lbs n).take 2).map (Value.int .u32), v.oneCell' = true := by
  intro v hv
  obtain ⟨x, _, rfl⟩ := List.mem_map.mp hv
  rfl
theorem heap_cells {W : World} {g : Nat} {a b : Value} {t : TypeId} (h : Hid (W.heap[g]? = some (.cells #[a, b] t (0, 0)))) :
    W.cell? ⟨g, 0, none⟩ = some a ∧ W.cell? ⟨g, 1, none⟩ = some b := by
  have := h.out
  constructor <;> simp [World.cell?, this]
set_option maxHeartbeats 400000 in
theorem few_any {s : Int} {A : Option Addr} {k c : Nat} {n : Int} (w : World) (H : NumAt w s A k c n) :
    Calls Tryz.prog 133 #[.agg #[.int .i64 s, .slice A k c]] w fun e w' => e = .returned (.tuple #[.agg #[.int .u32 ((lbs n.natAbs).getD 0 0), .int .u32 ((lbs n.natAbs).getD 1 0)], .bool (decide ((k : Int) ≤ 2))]) ∧ Below w.heap.size w w' := by
  have hb0 : Below w.heap.size w ((((w.alloc (.cells #[.int .i64 s, .slice A k c] 71)).alloc (.cells #[.int .u32 0, .int .u32 0] 132)).alloc (.cells #[.int .u32 0, .int .u32 0] 132)).drew) := below_drew ((((Below.refl _ _).alloc (Nat.le_refl _) _).alloc (by simp) _).alloc (by simp; omega) _)
  have H1 := H.below hb0
  have hn := Lib.hid (few_len H)
  have hg0 : ((((w.alloc (.cells #[.int .i64 s, .slice A k c] 71)).alloc (.cells #[.int .u32 0, .int .u32 0] 132)).alloc (.cells #[.int .u32 0, .int .u32 0] 132)).drew).heap[w.heap.size + 1 + 1]? = some (.cells #[.int .u32 0, .int .u32 0] 132) := by
    show (((w.alloc _).alloc _).alloc _).heap[w.heap.size + 1 + 1]? = _
    rw [show w.heap.size + 1 + 1 = ((w.alloc (.cells #[.int .i64 s, .slice A k c] 71)).alloc (.cells #[.int .u32 0, .int .u32 0] 132)).heap.size from by simp]
    exact heap_alloc_new _ _
  obtain ⟨x0, hx0⟩ : ∃ x, (lbs n.natAbs).getD 0 0 = x := ⟨_, rfl⟩
  obtain ⟨x1, hx1⟩ : ∃ x, (lbs n.natAbs).getD 1 0 = x := ⟨_, rfl⟩
  rw [hx0, hx1]
  have HX0 := Lib.hid hx0
  have HX1 := Lib.hid hx1
  clear hx0 hx1
  have hb1 := Lib.hid hb0
  clear hb0
  have HG := Lib.hid hg0
  clear hg0
  go_enter Tryz.func133, Tryz.ntmps133
  go_wp2_with fail
  go_region_law (refine step_copy_splice rfl (.tmp 5) (.tmp 7) 69 69 rfl 121 Tryz.underlying69 (by kernel_rfl) (some ⟨w.heap.size + 1 + 1, 0, none⟩) A 2 2 k c rfl rfl (w.heap.size + 1 + 1) 0 [.int .u32 0, .int .u32 0] 132 HG.out (((lbs n.natAbs).take 2).map (Value.int .u32)) hn.out (fun hp => ⟨rfl, few_src H1 hp⟩) (by simp; omega) (few_one _) (w.heap.size + 1 + 1) _ (Below.refl _ _) (by omega) ?_; intro w4 hg4 hb4)
  rw [few_cells, HX0.out, HX1.out] at hg4
  obtain ⟨c0, c1⟩ := heap_cells hg4
  have d1 := hb4.cell (p := ⟨w.heap.size, 1, none⟩) (by simp; omega)
  have f1 := hb4.frozen (p := ⟨w.heap.size + 1, 0, none⟩) (by simp)
  have f2 := hb4.frozen (p := ⟨w.heap.size + 1, 1, none⟩) (by simp)
  have e1 := hb4.cell (p := ⟨w.heap.size + 1, 0, none⟩) (by simp)
  have e2 := hb4.cell (p := ⟨w.heap.size + 1, 1, none⟩) (by simp)
  simp [go_sem] at d1 f1 f2 e1 e2
  go_wp2_with fail
  go_region_held3 (fun w' => w'.cell? ⟨w.heap.size, 1, none⟩ = some (.slice A k c) ∧ w'.cell? ⟨w.heap.size + 1 + 1, 0, none⟩ = some (.int .u32 x0) ∧ w'.cell? ⟨w.heap.size + 1 + 1, 1, none⟩ = some (.int .u32 x1)) (go_keep) (first | fail)
  go_wp2
  have hA : (w4.setCell ⟨w.heap.size + 1, 0, none⟩ (.int .u32 x0)).cell? ⟨w.heap.size + 1, 0, none⟩ = some (.int .u32 x0) := World.cell?_setCell_same _ _ _ e1
  have hB : ((w4.setCell ⟨w.heap.size + 1, 0, none⟩ (.int .u32 x0)).setCell ⟨w.heap.size + 1, 1, none⟩ (.int .u32 x1)).cell? ⟨w.heap.size + 1, 1, none⟩ = some (.int .u32 x1) :=
    World.cell?_setCell_same _ _ _ ((World.cell?_setCell_other _ _ _ _ (by simp)).trans e2)
  exact bodyPost_ret (v := .tuple #[.agg #[.int .u32 x0, .int .u32 x1], .bool (decide ((k : Int) ≤ 2))]) (by simp [results, Tryz.results133, go_sem, hA, hB]) rfl
    ⟨rfl, below_drew (((hb1.out.trans (hb4.mono (by omega))).setCell (by simp) _).setCell (by simp) _)⟩
theorem few_x {s : Int} {A : Option Addr} {k c : Nat} {n : Int} (w : World) (x0 x1 : Int) (b : Bool) (H : NumAt w s A k c n) (h0 : (lbs n.natAbs).getD 0 0 = x0) (h1 : (lbs n.natAbs).getD 1 0 = x1) (hb : decide ((k : Int) ≤ 2) = b) :
    Calls Tryz.prog 133 #[.agg #[.int .i64 s, .slice A k c]] w fun e w' => e = .returned (.tuple #[.agg #[.int .u32 x0, .int .u32 x1], .bool b]) ∧ Below w.heap.size w w' := by
  rw [← h0, ← h1, ← hb]; exact few_any w H
set_option maxHeartbeats 400000 in
theorem small_yes {s : Int} {A : Option Addr} {k c : Nat} {n : Int} (w : World) (H : NumAt w s A k c n) (hn : n.natAbs < 1000000000) :
    Calls Tryz.prog 87 #[.agg #[.int .i64 s, .slice A k c]] w fun e w' => e = .returned (.tuple #[.int .i64 n, .bool true]) ∧ Below w.heap.size w w' := by
  have hl := lbs_small hn
  have g0 : (lbs n.natAbs).getD 0 0 = (n.natAbs : Int) := by rw [hl]; split <;> simp_all
  have g1 : (lbs n.natAbs).getD 1 0 = 0 := by rw [hl]; split <;> simp
  have hk : decide ((k : Int) ≤ 2) = true := by
    have := H.len; rw [hl] at this
    have : k ≤ 1 := by rw [this]; split <;> simp
    simp; omega
  have hs : s * (n.natAbs : Int) = n := by rw [H.sign]; exact sgn_abs n
  obtain ⟨m, hm⟩ : ∃ m : Int, (n.natAbs : Int) = m := ⟨_, rfl⟩
  rw [hm] at g0 hs
  have hm0 : 0 ≤ m := by omega
  have hm1 : m < 1000000000 := by omega
  have hb0 : Below w.heap.size w (w.alloc (.cells #[.int .i64 s, .slice A k c] 71)) := (Below.refl _ _).alloc (Nat.le_refl _) _
  have H1 := H.below hb0
  have G0 := Lib.hid g0
  have G1 := Lib.hid g1
  have HK := Lib.hid hk
  have HS := Lib.hid hs
  have HW : Hid (wrap64 (s * m) = n) := Lib.hid (by rw [hs]; unfold wrap64; omega)
  have HB := Lib.hid hb0
  clear hl g0 g1 hk hs hm hb0
  go_enter Tryz.func87, Tryz.ntmps87
  go_wp2_with (go_at_call 133; refine (few_x _ m 0 true H1 G0.out G1.out HK.out).mono ?_; rintro e w1 ⟨rfl, hb1⟩; obtain ⟨d0, d1, d2⟩ := box_num hb1)
  go_wp2
  go_ret2
  exact ⟨by simp only [Array.getD]; rw [← HW.out]; rfl, (HB.out.trans (hb1.mono (by simp))).alloc (by omega) _⟩
theorem lbs_big1 {n : Nat} (h : 1000000000 ≤ n) (hk : (lbs n).length ≤ 2) : (lbs n).getD 1 0 ≠ 0 := by
  have h2 : (lbs n).length = 2 := by
    rcases Nat.lt_or_ge (lbs n).length 2 with h3 | h3
    · have := (lbs_len_le n 1).mp (by omega)
      simp at this; omega
    · omega
  rw [lbs_pos (by omega), lbs_pos (by omega)] at h2 ⊢
  simp only [List.getD_cons_succ, List.getD_cons_zero]
  have h3 := (lbs_len_le n 2).mp hk
  omega
set_option maxHeartbeats 400000 in
theorem small_no {s : Int} {A : Option Addr} {k c : Nat} {n : Int} (w : World) (H : NumAt w s A k c n) (hn : 1000000000 ≤ n.natAbs) :
    Calls Tryz.prog 87 #[.agg #[.int .i64 s, .slice A k c]] w fun e w' => e = .returned (.tuple #[.int .i64 0, .bool false]) ∧ Below w.heap.size w w' := by
  obtain ⟨x0, g0⟩ : ∃ x, (lbs n.natAbs).getD 0 0 = x := ⟨_, rfl⟩
  obtain ⟨x1, g1⟩ : ∃ x, (lbs n.natAbs).getD 1 0 = x := ⟨_, rfl⟩
  obtain ⟨b, hk⟩ : ∃ b, decide ((k : Int) ≤ 2) = b := ⟨_, rfl⟩
  have hx : b = true → (x1 == 0) = false ∧ (x1 != 0) = true := by
    intro hb
    subst hb
    have := lbs_big1 hn (by rw [← H.len]; simp at hk; omega)
    rw [g1] at this
    simp [this]
  have hb0 : Below w.heap.size w (w.alloc (.cells #[.int .i64 s, .slice A k c] 71)) := (Below.refl _ _).alloc (Nat.le_refl _) _
  have H1 := H.below hb0
  have G0 := Lib.hid g0
  have G1 := Lib.hid g1
  have HK := Lib.hid hk
  have HB := Lib.hid hb0
  clear g0 g1 hk hb0
  cases b with
  | true =>
    obtain ⟨hx1, hx2⟩ := hx rfl
    clear hx
    go_enter Tryz.func87, Tryz.ntmps87
    go_wp2_with (go_at_call 133; refine (few_x _ x0 x1 true H1 G0.out G1.out HK.out).mono ?_; rintro e w1 ⟨rfl, hb1⟩; obtain ⟨d0, d1, d2⟩ := box_num hb1)
    go_wp2
    go_ret2
    exact ⟨rfl, (HB.out.trans (hb1.mono (by simp))).alloc (by omega) _⟩
  | false =>
    clear hx
    go_enter Tryz.func87, Tryz.ntmps87
    go_wp2_with (go_at_call 133; refine (few_x _ x0 x1 false H1 G0.out G1.out HK.out).mono ?_; rintro e w1 ⟨rfl, hb1⟩; obtain ⟨d0, d1, d2⟩ := box_num hb1)
    go_wp2
    go_ret2
    exact ⟨rfl, (HB.out.trans (hb1.mono (by simp))).alloc (by omega) _⟩
end Go.Proofs.YtjieekkkaekclaaGreatDoor
namespace Go.Proofs.YtjieekkkaekclaaGreatDoor
open Go.RowKit Go.Proofs.YtjieekkkaekclaaGreatDoorW.PrintWords
def cmpI (a b : Int) : Int := if a < b then -1 else if b < a then 1 else 0
theorem isnan_int (x : Int) (w : World) : Calls Tryz.prog 162 #[.int .i64 x] w fun e w' => e = .returned (.bool false) ∧ w' = w := by
  go_enter Tryz.func162, Tryz.ntmps162
  go_wp2
  go_ret
  exact ⟨by simp, rfl⟩
theorem isnan_u32 (x : Int) (w : World) : Calls Tryz.prog 163 #[.int .u32 x] w fun e w' => e = .returned (.bool false) ∧ w' = w := by
  go_enter Tryz.func163, Tryz.ntmps163
  go_wp2
  go_ret
  exact ⟨by simp, rfl⟩
theorem compare_int (x y : Int) (w : World) : Calls Tryz.prog 138 #[.int .i64 x, .int .i64 y] w fun e w' => e = .returned (.int .i64 (cmpI x y)) ∧ w' = w := by
  unfold cmpI
  by_cases h1 : x < y
  · rw [if_pos h1]
    go_enter Tryz.func138, Tryz.ntmps138
    go_wp2_with (go_at_call 162; refine (isnan_int _ _).mono ?_; rintro e w' ⟨rfl, rfl⟩)
    go_ret
    exact ⟨rfl, rfl⟩
  · rw [if_neg h1]
    by_cases h2 : y < x
    · rw [if_pos h2]
      go_enter Tryz.func138, Tryz.ntmps138
      go_wp2_with (go_at_call 162; refine (isnan_int _ _).mono ?_; rintro e w' ⟨rfl, rfl⟩)
      go_ret
      exact ⟨rfl, rfl⟩
    · rw [if_neg h2]
      go_enter Tryz.func138, Tryz.ntmps138
      go_wp2_with (go_at_call 162; refine (isnan_int _ _).mono ?_; rintro e w' ⟨rfl, rfl⟩)
      go_ret
      exact ⟨rfl, rfl⟩
theorem compare_u32 (x y : Int) (w : World) : Calls Tryz.prog 139 #[.int .u32 x, .int .u32 y] w fun e w' => e = .returned (.int .i64 (cmpI x y)) ∧ w' = w := by
  unfold cmpI
  by_cases h1 : x < y
  · rw [if_pos h1]
    go_enter Tryz.func139, Tryz.ntmps139
    go_wp2_with (go_at_call 163; refine (isnan_u32 _ _).mono ?_; rintro e w' ⟨rfl, rfl⟩)
    go_ret
    exact ⟨rfl, rfl⟩
  · rw [if_neg h1]
    by_cases h2 : y < x
    · rw [if_pos h2]
      go_enter Tryz.func139, Tryz.ntmps139
      go_wp2_with (go_at_call 163; refine (isnan_u32 _ _).mono ?_; rintro e w' ⟨rfl, rfl⟩)
      go_ret
      exact ⟨rfl, rfl⟩
    · rw [if_neg h2]
      go_enter Tryz.func139, Tryz.ntmps139
      go_wp2_with (go_at_call 163; refine (isnan_u32 _ _).mono ?_; rintro e w' ⟨rfl, rfl⟩)
      go_ret
      exact ⟨rfl, rfl⟩
theorem compare_u32_c (x y c : Int) (h : cmpI x y = c) (w : World) : Calls Tryz.prog 139 #[.int .u32 x, .int .u32 y] w fun e w' => e = .returned (.int .i64 c) ∧ w' = w := by
  rw [← h]; exact compare_u32 x y w
theorem size_eq2 {a b : Nat} (ha : (lbs a).length ≤ 2) (hb : (lbs b).length ≤ 2) (h0 : (lbs a).getD 0 0 = (lbs b).getD 0 0) (h1 : (lbs a).getD 1 0 = (lbs b).getD 1 0) : a = b := by
  have e : ∀ n : Nat, (lbs n).length ≤ 2 → (n : Int) = (lbs n).getD 0 0 + 1000000000 * (lbs n).getD 1 0 := by
    intro n hn
    have h3 := lbs_lv n
    match h : lbs n, hn with
    | [], _ => rw [h] at h3; simp [Mw.lv] at h3 ⊢; omega
    | [x], _ => rw [h] at h3; simp [Mw.lv] at h3 ⊢; omega
    | [x, y], _ => rw [h] at h3; simp [Mw.lv] at h3 ⊢; omega
  have h2 := e a ha
  have h3 := e b hb
  rw [h0, h1] at h2
  omega
theorem eq_few (d : Nat) (x0 x1 y0 y1 : Int) (W : World) : (Op.equalIn (d + 1 + 1) 132 (.agg #[.int .u32 x0, .int .u32 x1]) (.agg #[.int .u32 y0, .int .u32 y1])).run Tryz.prog W = .ok (x0 == y0 && x1 == y1) W := by
  have h := Tryz.underlying132
  have h1 : ∀ (a b : Int) (W : World), (Op.equalIn (d + 1) 121 (.int .u32 a) (.int .u32 b)).run Tryz.prog W = .ok (a == b) W := fun a b W => run_equalIn_int W d 121 _ _ a b Tryz.underlying121
  have hs : ∀ W, (sizeOf 121).run Tryz.prog W = .ok 1 W := fun W => by kernel_rfl
  have hp0 : ∀ (a b : Int) W, (Go.part 121 #[.int .u32 a, .int .u32 b] 0).run Tryz.prog W = .ok (.int .u32 a) W := fun a b W => by kernel_rfl
  have hp1 : ∀ (a b : Int) W, (Go.part 121 #[.int .u32 a, .int .u32 b] 1).run Tryz.prog W = .ok (.int .u32 b) W := fun a b W => by kernel_rfl
  conv => lhs; unfold Op.equalIn
  simp [run_underlying h, Sem.run_bind, Result.andThen, hs, hp0, hp1, h1]
  rw [show List.range' 0 2 = [0, 1] from rfl]
  by_cases e0 : x0 = y0 <;> by_cases e1 : x1 = y1 <;> simp [List.forIn_cons, Sem.run_bind, Result.andThen, hp0, hp1, h1, e0, e1]
theorem cmpI_same (a : Int) : cmpI a a = 0 := by unfold cmpI; simp
theorem cmpI_lt {a b : Int} (h : a < b) : cmpI a b = -1 := by unfold cmpI; rw [if_pos h]
theorem cmpI_gt {a b : Int} (h : b < a) : cmpI a b = 1 := by unfold cmpI; rw [if_neg (by omega), if_pos h]
theorem cmpI_cases (a b : Int) : cmpI a b = -1 ∧ a < b ∨ cmpI a b = 0 ∧ a = b ∨ cmpI a b = 1 ∧ b < a := by
  unfold cmpI
  by_cases h1 : a < b
  · rw [if_pos h1]; exact .inl ⟨rfl, h1⟩
  · rw [if_neg h1]
    by_cases h2 : b < a
    · rw [if_pos h2]; exact .inr (.inr ⟨rfl, h2⟩)
    · rw [if_neg h2]; exact .inr (.inl ⟨rfl, by omega⟩)
theorem cmpI_step {a b : List Int} (ha : Mw.inB 1000000000 a) (hb : Mw.inB 1000000000 b) {n : Nat} (hna : n < a.length) (hnb : n < b.length) :
    cmpI (Mw.lv 1000000000 (a.take (n + 1))) (Mw.lv 1000000000 (b.take (n + 1))) = if cmpI (a.getD n 0) (b.getD n 0) = 0 then cmpI (Mw.lv 1000000000 (a.take n)) (Mw.lv 1000000000 (b.take n)) else cmpI (a.getD n 0) (b.getD n 0) := by
  rw [Mw.take_succ_getD a n hna, Mw.take_succ_getD b n hnb]
  have hla : (a.take n).length = n := by simp; omega
  have hlb : (b.take n).length = n := by simp; omega
  rcases cmpI_cases (a.getD n 0) (b.getD n 0) with ⟨e, h⟩ | ⟨e, h⟩ | ⟨e, h⟩
  · rw [e, if_neg (by omega)]
    exact cmpI_lt (Mw.lv_lt_of_top (c := []) (by omega) (Mw.inB_take ha n) (Mw.inB_take hb n) (by omega) h)
  · rw [e, if_pos rfl, h, Mw.lv_snoc, Mw.lv_snoc, hla, hlb]
    unfold cmpI
    simp only [Int.add_lt_add_iff_right]
  · rw [e, if_neg (by omega)]
    exact cmpI_gt (Mw.lv_lt_of_top (c := []) (by omega) (Mw.inB_take hb n) (Mw.inB_take ha n) (by omega) h)
theorem cmp_len {n m : Nat} (h : (lbs n).length ≠ (lbs m).length) : cmpI (lbs n).length (lbs m).length = cmpI n m := by
  rcases Nat.lt_or_ge (lbs n).length (lbs m).length with h1 | h1
  · have := Mw.lv_len_lt (by omega) (lbs_inB n) (lbs_inB m) (lbs_topd m) h1
    rw [lbs_lv, lbs_lv] at this
    rw [cmpI_lt (by omega), cmpI_lt this]
  · have := Mw.lv_len_lt (by omega) (lbs_inB m) (lbs_inB n) (lbs_topd n) (by omega)
    rw [lbs_lv, lbs_lv] at this
    rw [cmpI_gt (by omega), cmpI_gt this]
set_option maxRecDepth 100000 in
set_option maxHeartbeats 2000000 in
theorem size_any {s s' : Int} {A A' : Option Addr} {k c k' c' : Nat} {n m : Int} (w : World) (H : NumAt w s A k c n) (H' : NumAt w s' A' k' c' m) :
    Calls Tryz.prog 102 #[.agg #[.int .i64 s, .slice A k c], .agg #[.int .i64 s', .slice A' k' c']] w fun e w' => e = .returned (.int .i64 (cmpI n.natAbs m.natAbs)) ∧ Below w.heap.size w w' := by
  obtain ⟨x0, g0⟩ : ∃ x, (lbs n.natAbs).getD 0 0 = x := ⟨_, rfl⟩
  obtain ⟨x1, g1⟩ : ∃ x, (lbs n.natAbs).getD 1 0 = x := ⟨_, rfl⟩
  obtain ⟨y0, g2⟩ : ∃ x, (lbs m.natAbs).getD 0 0 = x := ⟨_, rfl⟩
  obtain ⟨y1, g3⟩ : ∃ x, (lbs m.natAbs).getD 1 0 = x := ⟨_, rfl⟩
  obtain ⟨ba, hka⟩ : ∃ b, decide ((k : Int) ≤ 2) = b := ⟨_, rfl⟩
  obtain ⟨bb, hkb⟩ : ∃ b, decide ((k' : Int) ≤ 2) = b := ⟨_, rfl⟩
  obtain ⟨be, hbe⟩ : ∃ b, (x0 == y0 && x1 == y1) = b := ⟨_, rfl⟩
  obtain ⟨r, hr⟩ : ∃ r, cmpI n.natAbs m.natAbs = r := ⟨_, rfl⟩
  have heq : (ba && bb && be) = true → r = 0 := by
    intro h
    simp at h
    obtain ⟨⟨rfl, rfl⟩, rfl⟩ := h
    simp at hbe
    obtain ⟨rfl, rfl⟩ := hbe
    have := size_eq2 (a := n.natAbs) (b := m.natAbs) (by rw [← H.len]; simp at hka; omega) (by rw [← H'.len]; simp at hkb; omega) (g0.trans g2.symm) (g1.trans g3.symm)
    rw [← hr, this]; exact cmpI_same _
  rw [hr]
  have HE : ∀ W, (Op.equalIn 10000 132 (.agg #[.int .u32 x0, .int .u32 x1]) (.agg #[.int .u32 y0, .int .u32 y1])).run Tryz.prog W = .ok be W := fun W => by
    rw [← hbe]; exact eq_few 9998 x0 x1 y0 y1 W
  have hb0 : Below w.heap.size w ((w.alloc (.cells #[.int .i64 s, .slice A k c] 71)).alloc (.cells #[.int .i64 s', .slice A' k' c'] 71)) := ((Below.refl _ _).alloc (Nat.le_refl _) _).alloc (by simp) _
  have H1 := H.below hb0
  have H1' := H'.below hb0
  have G0 := Lib.hid g0
  have G1 := Lib.hid g1
  have G2 := Lib.hid g2
  have G3 := Lib.hid g3
  have HKA := Lib.hid hka
  have HKB := Lib.hid hkb
  have HB := Lib.hid hb0
  have HR := Lib.hid hr
  have HQ := Lib.hid heq
  clear g0 g1 g2 g3 hka hkb hb0 hbe hr heq
  go_enter Tryz.func102, Tryz.ntmps102
  go_upto_if 17 with (first | (go_at_call 133; (with_reducible refine (few_x _ x0 x1 ba H1 G0.out G1.out HKA.out).mono ?_); rintro e w1 ⟨rfl, hb1⟩; obtain ⟨d0, d1, d2, d3, d4, d5⟩ := box_two hb1))
  go_cut [] (fun wc => Hid (Below w.heap.size w wc) ∧ wc.cell? ⟨w.heap.size, 0, none⟩ = some (.int .i64 s) ∧ wc.cell? ⟨w.heap.size, 1, none⟩ = some (.slice A k c) ∧ wc.cell? ⟨w.heap.size + 1, 0, none⟩ = some (.int .i64 s') ∧ wc.cell? ⟨w.heap.size + 1, 1, none⟩ = some (.slice A' k' c'))
  case first => as_aux_lemma =>
    cases ba with
    | false =>
      clear HE
      go_wp2_with fail
      go_meet
      case rel => exact ⟨Lib.hid ((HB.out.trans (hb1.mono (by simp; omega))).alloc (by omega) _), cell_alloc _ d0, cell_alloc _ d1, cell_alloc _ d2, cell_alloc _ d3⟩
    | true =>
      have H2' := (H1'.below hb1).below ((Below.refl _ _).alloc (Nat.le_refl _) (.cells #[.int .u32 x0, .int .u32 x1] 132))
      go_wp2_with fail
      refine (few_x _ y0 y1 bb H2' G2.out G3.out HKB.out).mono ?_
      rintro e w2 ⟨rfl, hb2⟩
      have f0 := kca hb2 d0
      have f1 := kca hb2 d1
      have f2 := kca hb2 d2
      have f3 := kca hb2 d3
      obtain ⟨k0, k1, k2⟩ := box_num hb2
      have HBW := Lib.hid (((HB.out.trans (hb1.mono (by simp; omega))).alloc (by omega) (.cells #[.int .u32 x0, .int .u32 x1] 132) |>.trans (hb2.mono (by simp; omega))).alloc (by omega) (.cells #[.int .u32 y0, .int .u32 y1] 132))
      cases bb with
      | false =>
        clear HE
        go_wp2_with fail
        go_meet
        case rel => exact ⟨HBW, cell_alloc _ f0, cell_alloc _ f1, cell_alloc _ f2, cell_alloc _ f3⟩
      | true =>
        cases be with
        | false =>
          go_wp2_with fail
          go_meet
          case rel => exact ⟨HBW, cell_alloc _ f0, cell_alloc _ f1, cell_alloc _ f2, cell_alloc _ f3⟩
        | true =>
          have HZ := Lib.hid (HQ.out rfl)
          go_wp2_with fail
          go_ret
          exact ⟨by rw [HZ.out]; rfl, HBW.out⟩
  case rest =>
    obtain ⟨HBW, f0, f1, f2, f3⟩ := hcut
    clear HE H1 H1' HQ
    have H3 := H.below HBW.out
    have H3' := H'.below HBW.out
    by_cases hl : k = k'
    · subst hl
      have HST : Hid (cmpI (Mw.lv 1000000000 ((lbs n.natAbs).take (k - 0))) (Mw.lv 1000000000 ((lbs m.natAbs).take (k - 0))) = r) := Lib.hid (by
        rw [Nat.sub_zero, List.take_of_length_le (by rw [H.len]; exact Nat.le_refl _), List.take_of_length_le (by rw [H'.len]; exact Nat.le_refl _), lbs_lv, lbs_lv]; exact HR.out)
      go_wp2_with fail
      go_loopw [46] (fun v wr => ∃ j : Nat, j ≤ k ∧ v = .int .i64 j ∧ Hid (Below w.heap.size w wr) ∧ wr.cell? ⟨w.heap.size, 0, none⟩ = some (.int .i64 s) ∧ wr.cell? ⟨w.heap.size, 1, none⟩ = some (.slice A k c) ∧ wr.cell? ⟨w.heap.size + 1, 0, none⟩ = some (.int .i64 s') ∧ wr.cell? ⟨w.heap.size + 1, 1, none⟩ = some (.slice A' k c') ∧ Hid (cmpI (Mw.lv 1000000000 ((lbs n.natAbs).take (k - j))) (Mw.lv 1000000000 ((lbs m.natAbs).take (k - j))) = r)) (fun v _ => k - (intOf v).toNat)
      case atStart => exact ⟨0, by omega, rfl, HBW, f0, f1, f2, f3, HST⟩
      case round => as_aux_lemma =>
        clear f0 f1 f2 f3 H3 H3' HBW
        obtain ⟨j, hj, rfl, HBW, f0, f1, f2, f3, HC⟩ := hrel
        have H3 := H.below HBW.out
        have H3' := H'.below HBW.out
        by_cases hlt : j < k
        · as_aux_lemma =>
          obtain ⟨ad, hA, hc1⟩ := H3.cell (i := k - 1 - j) (by omega)
          obtain ⟨ad', hA', hc2⟩ := H3'.cell (i := k - 1 - j) (by omega)
          have hst := cmpI_step (lbs_inB n.natAbs) (lbs_inB m.natAbs) (n := k - 1 - j) (by have := H.len; omega) (by have := H'.len; omega)
          obtain ⟨xi, hxi⟩ : ∃ x, (lbs n.natAbs).getD (k - 1 - j) 0 = x := ⟨_, rfl⟩
          obtain ⟨yi, hyi⟩ : ∃ x, (lbs m.natAbs).getD (k - 1 - j) 0 = x := ⟨_, rfl⟩
          obtain ⟨ci, hci⟩ : ∃ x, cmpI xi yi = x := ⟨_, rfl⟩
          rw [hxi, hyi, hci, show k - 1 - j + 1 = k - j by omega, HC.out] at hst
          obtain ⟨i, hi⟩ : ∃ i, k - 1 - j = i := ⟨_, rfl⟩
          rw [hxi, hi] at hc1
          rw [hyi, hi] at hc2
          have hik : (i : Int) < k := by omega
          have hj1 : j + 1 ≤ k := hlt
          have hkj := Lib.hid (show k - (j + 1) = k - 1 - j by omega)
          have hme : k - (j + 1) < k - j := by omega
          have hlt' : (j : Int) < k := by omega
          have hmx := H.reads.2.1
          have hw1 : wrap64 (wrap64 ((k : Int) - 1) - j) = i := wrap_back hi hlt hmx
          have hw2 : wrap64 ((j : Int) + 1) = (j : Int) + 1 := wrap_up hlt hmx
          subst hA hA'
          have HS := Lib.hid hst
          have HCI := Lib.hid hci
          have HI := Lib.hid hi
          clear hst hxi hyi hci hi hmx
          go_wp2_with fail
          rw [hw1]
          go_quiet ((go_at_call 139; exact Calls.quiet_of_same (compare_u32_c _ _ _ HCI.out _)))
          have hbq := Lib.hid (pw_below_drewN HBW.out nq)
          by_cases hz : ci = 0
          · as_aux_lemma =>
            have hz2 : (ci != 0) = false := by simp [hz]
            have HZ := Lib.hid hz
            clear hz
            go_wp2
            go_roundw
            case rel => exact ⟨j + 1, hj1, by rw [hw2]; rfl, hbq, f0, f1, f2, f3, Lib.hid (by have h := HS.out; rw [if_pos HZ.out] at h; rw [hkj.out]; exact h.symm)⟩
            case measure =>
              rw [hw2]
              exact hme
          · as_aux_lemma =>
            have hz2 : (ci != 0) = true := by simp [hz]
            have HZ := Lib.hid hz
            clear hz
            go_wp2
            go_ret
            exact ⟨by have h := HS.out; rw [if_neg HZ.out] at h; rw [h]; rfl, hbq.out⟩
        · as_aux_lemma =>
          obtain rfl : j = k := by omega
          have HZ : Hid (r = 0) := Lib.hid (by have h := HC.out; rw [Nat.sub_self] at h; rw [← h]; exact cmpI_same _)
          clear HC
          go_wp2
          go_ret
          exact ⟨by rw [HZ.out]; rfl, HBW.out⟩
    · as_aux_lemma =>
      have HRL : Hid (cmpI (k : Int) (k' : Int) = r) := Lib.hid (by rw [H.len, H'.len, cmp_len (by rw [← H.len, ← H'.len]; exact hl)]; exact HR.out)
      have hne : ((k : Int) != (k' : Int)) = true := by rw [bne_iff_ne]; omega
      go_wp2_with (go_at_call 138; refine (compare_int _ _ _).mono ?_; rintro e w' ⟨rfl, rfl⟩)
      go_ret
      exact ⟨by rw [HRL.out]; rfl, HBW.out⟩
end Go.Proofs.YtjieekkkaekclaaGreatDoor
