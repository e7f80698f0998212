/- Lemmas for the claim beside this text. -/
import Derived.Test.YtjieekkkaekclaaGreatDoorZAC
import Derived.BigQuiet
import Derived.Deep.CutBlock
import Derived.Deep.DeepCutAuto
import Derived.Deep.LoopGhost
import Derived.Deep.QuietTactic
import Derived.Deep.RegionHeld3
import Derived.Deep.RegionLaw
import Derived.Laws.CopyOwn
import Derived.Laws.StructEq
set_option linter.all false
set_option linter.unusedVariables false
set_option linter.unusedSimpArgs false
namespace Go.Proofs.YtjieekkkaekclaaGreatDoor
open Go.RowKit Go.Proofs.YtjieekkkaekclaaGreatDoorW.PrintWords
def numV (s : Int) (A : Option Addr) (n : Nat) : Value := if n = 0 then .agg #[.int .i64 0, .slice none 0 0] else .agg #[.int .i64 s, .slice A n n]
set_option maxHeartbeats 400000 in
theorem made_any (s : Int) (ad : Addr) (l : List Int) (c : Nat) (w : World) (hC : Kd.C (Kd.int .u32) w (some ad) l.length l) (hc : l.length ≤ c) (hl : l.length ≤ 1000000) :
    Calls Tryz.prog 129 #[.int .i64 s, .slice (some ad) l.length c] w fun e w' => e = .returned (numV s (some ad) (tcut l l.length)) ∧ Below w.heap.size w w' := by
  have HC := Lib.hid hC
  clear hC
  go_enter Tryz.func129, Tryz.ntmps129
  go_wp2
  go_loop [5] (fun v => ∃ n : Nat, n ≤ l.length ∧ v = .int .i64 n ∧ tcut l n = tcut l l.length) (fun v => (intOf v).toNat)
  case atStart => exact ⟨l.length, Nat.le_refl _, rfl, rfl⟩
  case round =>
    obtain ⟨n, hn, rfl, ht⟩ := hrel
    have HT := Lib.hid ht
    clear ht
    cases n with
    | zero =>
      go_wp2
      have e0 : numV s (some ad) (tcut l l.length) = .agg #[.int .i64 0, .slice none 0 0] := by rw [← HT.out]; rfl
      exact bodyPost_ret (v := .agg #[.int .i64 0, .slice none 0 0]) (by simp [results, Tryz.results129, go_sem]) rfl ⟨by rw [e0], (Below.refl _ _).alloc (Nat.le_refl _) _⟩
    | succ n =>
      obtain ⟨ad', e, hcell⟩ := Kd.at_int (Kd.C_alloc HC.out (.cells #[.int .i64 0, .slice none 0 0] 71)) n (by omega) (by omega)
      obtain rfl : ad = ad' := by simpa using e
      simp only [Int.toNat_natCast] at hcell
      by_cases hz : rd l n = 0
      · rw [hz] at hcell
        have HZ := Lib.hid hz
        clear hz
        go_wp2
        go_round
        case rel => exact ⟨n, by omega, by go_num, by rw [← HT.out]; have h1 : l.getD n 0 = 0 := HZ.out; simp only [tcut]; rw [if_pos h1]⟩
        case measure => simp [intOf]
      · go_wp2
        have e0 : numV s (some ad) (tcut l l.length) = .agg #[.int .i64 s, .slice (some ad) (n + 1) (n + 1)] := by
          rw [← HT.out]
          have h1 : ¬ l.getD n 0 = 0 := hz
          have h2 : tcut l (n + 1) = n + 1 := by simp only [tcut]; rw [if_neg h1]
          rw [h2]; simp [numV]
        exact bodyPost_ret (v := .agg #[.int .i64 s, .slice (some ad) (n + 1) (n + 1)]) (by simp [results, Tryz.results129, go_sem]) rfl ⟨by rw [e0], (Below.refl _ _).alloc (Nat.le_refl _) _⟩
theorem made_num (s : Int) (A : Option Addr) (l : List Int) (c : Nat) (n : Nat) (w : World) (hC : Kd.C (Kd.int .u32) w A l.length l) (hp : 0 < l.length) (hc : l.length ≤ c) (hl : l.length ≤ 1000000)
    (hi : Mw.inB 1000000000 l) (hv : Mw.lv 1000000000 l = n) (hs : s = 1 ∨ s = -1 ∨ n = 0) :
    Calls Tryz.prog 129 #[.int .i64 s, .slice A l.length c] w fun e w' => ∃ s' A' k' c', e = .returned (.agg #[.int .i64 s', .slice A' k' c']) ∧ NumAt w' s' A' k' c' (s * n) ∧ Below w.heap.size w w' := by
  obtain ⟨ad, rfl, _⟩ := Kd.at_int hC 0 (by omega) (by omega)
  refine (made_any s ad l c w hC hc hl).mono ?_
  rintro e w' ⟨rfl, hb⟩
  have h1 := tcut_len hi hv
  by_cases h0 : n = 0
  · subst h0
    have h2 : tcut l l.length = 0 := by rw [h1, lbs_zero]; rfl
    refine ⟨0, none, 0, 0, by rw [h2]; rfl, ?_, hb⟩
    have := NumAt.zero w'
    simpa using this
  · have h2 : tcut l l.length ≠ 0 := by rw [h1]; have := (lbs_len_pos n).mpr h0; omega
    have h3 : (s * (n : Int)).natAbs = n := by rcases hs with h | h | h <;> first | (subst h; omega) | omega
    refine ⟨s, some ad, tcut l l.length, tcut l l.length, by simp only [numV]; rw [if_neg h2], ⟨?_, by rw [h3]; exact h1, Nat.le_refl _, ?_⟩, hb⟩
    · rcases hs with h | h | h
      · subst h; simp [sgn]; omega
      · subst h; simp [sgn]; omega
      · omega
    · rw [h3, ← take_tcut hi hv]
      exact C_take (Kd.C_below hC hb) (tcut_le _ _)
theorem sneg_any (s : Int) (w : World) : Calls Tryz.prog 78 #[.int .i64 s] w fun e w' => e = .returned (.bool (s == -1)) ∧ w' = w := by
  go_enter Tryz.func78, Tryz.ntmps78
  go_wp2
  go_ret
  exact ⟨rfl, rfl⟩
theorem szero_any (s : Int) (w : World) : Calls Tryz.prog 70 #[.int .i64 s] w fun e w' => e = .returned (.bool (s == 0)) ∧ w' = w := by
  go_enter Tryz.func70, Tryz.ntmps70
  go_wp2
  go_ret
  exact ⟨rfl, rfl⟩
theorem ssign_any (s : Int) (w : World) (h : -1 ≤ s ∧ s ≤ 1) : Calls Tryz.prog 74 #[.int .i64 s] w fun e w' => e = .returned (.int .i64 s) ∧ w' = w := by
  obtain ⟨h0, h1⟩ := h
  go_enter Tryz.func74, Tryz.ntmps74
  go_wp2
  go_ret
  exact ⟨rfl, rfl⟩
theorem times_bd (s t : Int) (hs : -1 ≤ s ∧ s ≤ 1) (ht : -1 ≤ t ∧ t ≤ 1) : -1 ≤ s * t ∧ s * t ≤ 1 := by
  have h1 : s = -1 ∨ s = 0 ∨ s = 1 := by omega
  rcases h1 with h | h | h <;> subst h <;> omega
theorem stimes_any (s t : Int) (w : World) (hs : -1 ≤ s ∧ s ≤ 1) (ht : -1 ≤ t ∧ t ≤ 1) : Calls Tryz.prog 128 #[.int .i64 s, .int .i64 t] w fun e w' => e = .returned (.int .i64 (s * t)) ∧ w = w' := by
  obtain ⟨h0, h1⟩ := times_bd s t hs ht
  have hw : IntKind.i64.wrap (s * t) = s * t := IntWalk.i64_in _ (by omega)
  go_enter Tryz.func128, Tryz.ntmps128
  go_wp2
  go_ret
  exact ⟨by first | rfl | rw [hw], rfl⟩
theorem NumAt.neg {w : World} {s : Int} {A : Option Addr} {k c : Nat} {n : Int} (h : NumAt w s A k c n) : NumAt w (-s) A k c (-n) :=
  ⟨by rw [h.sign]; unfold sgn; split <;> split <;> (try split) <;> (try split) <;> omega, by rw [Int.natAbs_neg]; exact h.len, h.cap, by rw [Int.natAbs_neg]; exact h.reads⟩
theorem NumAt.abs {w : World} {s : Int} {A : Option Addr} {k c : Nat} {n : Int} (h : NumAt w s A k c n) : NumAt w (s * s) A k c (n.natAbs : Int) :=
  ⟨by rw [h.sign]; rcases sgn_cases n with ⟨e, h1⟩ | ⟨e, h1⟩ | ⟨e, h1⟩ <;> rw [e] <;> unfold sgn <;> split <;> (try split) <;> omega, by rw [Int.natAbs_natCast]; exact h.len, h.cap, by rw [Int.natAbs_natCast]; exact h.reads⟩
set_option maxHeartbeats 400000 in
theorem opposite_any {s : Int} {A : Option Addr} {k c : Nat} {n : Int} (w : World) (H : NumAt w s A k c n) :
    Calls Tryz.prog 79 #[.agg #[.int .i64 s, .slice A k c]] w fun e w' => e = .returned (.agg #[.int .i64 (-s), .slice A k c]) ∧ NumAt w' (-s) A k c (-n) ∧ Below w.heap.size w w' := by
  obtain ⟨h0, h1⟩ := H.bd
  go_enter Tryz.func79, Tryz.ntmps79
  go_wp2_with fail
  go_region_held3 (fun w' => w'.cell? ⟨w.heap.size, 0, none⟩ = some (.int .i64 s) ∧ w'.cell? ⟨w.heap.size, 1, none⟩ = some (.slice A k c)) (go_keep) (first | (go_at_call 128; refine (stimes_any _ _ _ (by omega) (by omega)).mono ?_; rintro e w' ⟨rfl, rfl⟩))
  go_wp2
  have hb : Below w.heap.size w (((w.alloc (.cells #[.int .i64 s, .slice A k c] 71)).alloc (.cells #[.int .i64 (-s), .slice A k c] 71)).drew) := below_drew (((Below.refl _ _).alloc (Nat.le_refl _) _).alloc (by simp) _)
  exact bodyPost_ret (v := .agg #[.int .i64 (-s), .slice A k c]) (by simp [results, Tryz.results79, go_sem]) rfl ⟨rfl, (H.below hb).neg, hb⟩
set_option maxHeartbeats 400000 in
theorem abs_any {s : Int} {A : Option Addr} {k c : Nat} {n : Int} (w : World) (H : NumAt w s A k c n) :
    Calls Tryz.prog 72 #[.agg #[.int .i64 s, .slice A k c]] w fun e w' => e = .returned (.agg #[.int .i64 (s * s), .slice A k c]) ∧ NumAt w' (s * s) A k c (n.natAbs : Int) ∧ Below w.heap.size w w' := by
  obtain ⟨h0, h1⟩ := H.bd
  go_enter Tryz.func72, Tryz.ntmps72
  go_wp2_with fail
  go_region_held3 (fun w' => w'.cell? ⟨w.heap.size, 0, none⟩ = some (.int .i64 s) ∧ w'.cell? ⟨w.heap.size, 1, none⟩ = some (.slice A k c)) (go_keep) (first | (go_at_call 128; refine (stimes_any _ _ _ ⟨by omega, by omega⟩ ⟨by omega, by omega⟩).mono ?_; rintro e w' ⟨rfl, rfl⟩))
  go_wp2
  have hb : Below w.heap.size w (((w.alloc (.cells #[.int .i64 s, .slice A k c] 71)).alloc (.cells #[.int .i64 (s * s), .slice A k c] 71)).drew) := below_drew (((Below.refl _ _).alloc (Nat.le_refl _) _).alloc (by simp) _)
  exact bodyPost_ret (v := .agg #[.int .i64 (s * s), .slice A k c]) (by simp [results, Tryz.results72, go_sem]) rfl ⟨rfl, (H.below hb).abs, hb⟩
end Go.Proofs.YtjieekkkaekclaaGreatDoor
namespace Go.Proofs.YtjieekkkaekclaaGreatDoor
open Go.RowKit Go.Proofs.YtjieekkkaekclaaGreatDoorW.PrintWords
theorem few_cells (l : List Int) : splice [.int .u32 0, .int .u32 0] 0 ((l.take 2).map (Value.int .u32)) = [.int .u32 (l.getD 0 0), .int .u32 (l.getD 1 0)] := by
  match l with
  | [] => rfl
  | [x] => rfl
  | x :: y :: l => simp [splice]
theorem few_src {w : World} {s : Int} {A : Option Addr} {k c : Nat} {n : Int} (H : NumAt w s A k c n) (hp : 0 < (((lbs n.natAbs).take 2).map (Value.int .u32)).length) :
    ∃ ad, A = some ad ∧ ∀ j v, (((lbs n.natAbs).take 2).map (Value.int .u32))[j]? = some v → w.cell? (ad.add j) = some v := by
  have hl := H.len
  have h0 : 0 < k := by simp at hp; omega
  obtain ⟨ad, e, _⟩ := H.cell h0
  refine ⟨ad, e, fun j v hj => ?_⟩
  have hj2 : j < (lbs n.natAbs).length ∧ j < 2 := by
    have := (List.getElem?_eq_some_iff.mp hj).1
    simp at this; omega
  obtain ⟨ad', e', hc⟩ := H.cell (i := j) (by omega)
  obtain rfl : ad = ad' := by rw [e] at e'; simpa using e'
  rw [hc]
  rw [List.getElem?_map, List.getElem?_take_of_lt hj2.2, List.getElem?_eq_getElem hj2.1] at hj
  rw [List.getD_eq_getElem?_getD, List.getElem?_eq_getElem hj2.1]
  simpa using hj
theorem few_len {w : World} {s : Int} {A : Option Addr} {k c : Nat} {n : Int} (H : NumAt w s A k c n) : (((lbs n.natAbs).take 2).map (Value.int .u32)).length = Nat.min k 2 := by
  rw [H.len, List.length_map, List.length_take]; exact Nat.min_comm _ _
theorem few_one (n : Nat) : ∀ v ∈ ((lbs n).take 2).map (Value.int .u32), v.oneCell' = true := by
  intro v hv
  obtain ⟨x, _, rfl⟩ := List.mem_map.mp hv
  rfl
theorem heap_cells {W : World} {g : Nat} {a b : Value} {t : TypeId} (h : Hid (W.heap[g]? = some (.cells #[a, b] t (0, 0)))) :
    W.cell? ⟨g, 0, none⟩ = some a ∧ W.cell? ⟨g, 1, none⟩ = some b := by
  have := h.out
  constructor <;> simp [World.cell?, this]
set_option maxHeartbeats 400000 in
theorem few_any {s : Int} {A : Option Addr} {k c : Nat} {n : Int} (w : World) (H : NumAt w s A k c n) :
    Calls Tryz.prog 133 #[.agg #[.int .i64 s, .slice A k c]] w fun e w' => e = .returned (.tuple #[.agg #[.int .u32 ((lbs n.natAbs).getD 0 0), .int .u32 ((lbs n.natAbs).getD 1 0)], .bool (decide ((k : Int) ≤ 2))]) ∧ Below w.heap.size w w' := by
  have hb0 : Below w.heap.size w ((((w.alloc (.cells #[.int .i64 s, .slice A k c] 71)).alloc (.cells #[.int .u32 0, .int .u32 0] 132)).alloc (.cells #[.int .u32 0, .int .u32 0] 132)).drew) := below_drew ((((Below.refl _ _).alloc (Nat.le_refl _) _).alloc (by simp) _).alloc (by simp; omega) _)
  have H1 := H.below hb0
  have hn := Lib.hid (few_len H)
  have hg0 : ((((w.alloc (.cells #[.int .i64 s, .slice A k c] 71)).alloc (.cells #[.int .u32 0, .int .u32 0] 132)).alloc (.cells #[.int .u32 0, .int .u32 0] 132)).drew).heap[w.heap.size + 1 + 1]? = some (.cells #[.int .u32 0, .int .u32 0] 132) := by
    show (((w.alloc _).alloc _).alloc _).heap[w.heap.size + 1 + 1]? = _
    rw [show w.heap.size + 1 + 1 = ((w.alloc (.cells #[.int .i64 s, .slice A k c] 71)).alloc (.cells #[.int .u32 0, .int .u32 0] 132)).heap.size from by simp]
    exact heap_alloc_new _ _
  obtain ⟨x0, hx0⟩ : ∃ x, (lbs n.natAbs).getD 0 0 = x := ⟨_, rfl⟩
  obtain ⟨x1, hx1⟩ : ∃ x, (lbs n.natAbs).getD 1 0 = x := ⟨_, rfl⟩
  rw [hx0, hx1]
  have HX0 := Lib.hid hx0
  have HX1 := Lib.hid hx1
  clear hx0 hx1
  have hb1 := Lib.hid hb0
  clear hb0
  have HG := Lib.hid hg0
  clear hg0
  go_enter Tryz.func133, Tryz.ntmps133
  go_wp2_with fail
  go_region_law (refine step_copy_splice rfl (.tmp 5) (.tmp 7) 69 69 rfl 121 Tryz.underlying69 (by kernel_rfl) (some ⟨w.heap.size + 1 + 1, 0, none⟩) A 2 2 k c rfl rfl (w.heap.size + 1 + 1) 0 [.int .u32 0, .int .u32 0] 132 HG.out (((lbs n.natAbs).take 2).map (Value.int .u32)) hn.out (fun hp => ⟨rfl, few_src H1 hp⟩) (by simp; omega) (few_one _) (w.heap.size + 1 + 1) _ (Below.refl _ _) (by omega) ?_; intro w4 hg4 hb4)
  rw [few_cells, HX0.out, HX1.out] at hg4
  obtain ⟨c0, c1⟩ := heap_cells hg4
  have d1 := hb4.cell (p := ⟨w.heap.size, 1, none⟩) (by simp; omega)
  have f1 := hb4.frozen (p := ⟨w.heap.size + 1, 0, none⟩) (by simp)
  have f2 := hb4.frozen (p := ⟨w.heap.size + 1, 1, none⟩) (by simp)
  have e1 := hb4.cell (p := ⟨w.heap.size + 1, 0, none⟩) (by simp)
  have e2 := hb4.cell (p := ⟨w.heap.size + 1, 1, none⟩) (by simp)
  simp [go_sem] at d1 f1 f2 e1 e2
  go_wp2_with fail
  go_region_held3 (fun w' => w'.cell? ⟨w.heap.size, 1, none⟩ = some (.slice A k c) ∧ w'.cell? ⟨w.heap.size + 1 + 1, 0, none⟩ = some (.int .u32 x0) ∧ w'.cell? ⟨w.heap.size + 1 + 1, 1, none⟩ = some (.int .u32 x1)) (go_keep) (first | fail)
  go_wp2
  have hA : (w4.setCell ⟨w.heap.size + 1, 0, none⟩ (.int .u32 x0)).cell? ⟨w.heap.size + 1, 0, none⟩ = some (.int .u32 x0) := World.cell?_setCell_same _ _ _ e1
  have hB : ((w4.setCell ⟨w.heap.size + 1, 0, none⟩ (.int .u32 x0)).setCell ⟨w.heap.size + 1, 1, none⟩ (.int .u32 x1)).cell? ⟨w.heap.size + 1, 1, none⟩ = some (.int .u32 x1) :=
    World.cell?_setCell_same _ _ _ ((World.cell?_setCell_other _ _ _ _ (by simp)).trans e2)
  exact bodyPost_ret (v := .tuple #[.agg #[.int .u32 x0, .int .u32 x1], .bool (decide ((k : Int) ≤ 2))]) (by simp [results, Tryz.results133, go_sem, hA, hB]) rfl
    ⟨rfl, below_drew (((hb1.out.trans (hb4.mono (by omega))).setCell (by simp) _).setCell (by simp) _)⟩
theorem few_x {s : Int} {A : Option Addr} {k c : Nat} {n : Int} (w : World) (x0 x1 : Int) (b : Bool) (H : NumAt w s A k c n) (h0 : (lbs n.natAbs).getD 0 0 = x0) (h1 : (lbs n.natAbs).getD 1 0 = x1) (hb : decide ((k : Int) ≤ 2) = b) :
    Calls Tryz.prog 133 #[.agg #[.int .i64 s, .slice A k c]] w fun e w' => e = .returned (.tuple #[.agg #[.int .u32 x0, .int .u32 x1], .bool b]) ∧ Below w.heap.size w w' := by
  rw [← h0, ← h1, ← hb]; exact few_any w H
set_option maxHeartbeats 400000 in
theorem small_yes {s : Int} {A : Option Addr} {k c : Nat} {n : Int} (w : World) (H : NumAt w s A k c n) (hn : n.natAbs < 1000000000) :
    Calls Tryz.prog 87 #[.agg #[.int .i64 s, .slice A k c]] w fun e w' => e = .returned (.tuple #[.int .i64 n, .bool true]) ∧ Below w.heap.size w w' := by
  have hl := lbs_small hn
  have g0 : (lbs n.natAbs).getD 0 0 = (n.natAbs : Int) := by rw [hl]; split <;> simp_all
  have g1 : (lbs n.natAbs).getD 1 0 = 0 := by rw [hl]; split <;> simp
  have hk : decide ((k : Int) ≤ 2) = true := by
    have := H.len; rw [hl] at this
    have : k ≤ 1 := by rw [this]; split <;> simp
    simp; omega
  have hs : s * (n.natAbs : Int) = n := by rw [H.sign]; exact sgn_abs n
  obtain ⟨m, hm⟩ : ∃ m : Int, (n.natAbs : Int) = m := ⟨_, rfl⟩
  rw [hm] at g0 hs
  have hm0 : 0 ≤ m := by omega
  have hm1 : m < 1000000000 := by omega
  have hb0 : Below w.heap.size w (w.alloc (.cells #[.int .i64 s, .slice A k c] 71)) := (Below.refl _ _).alloc (Nat.le_refl _) _
  have H1 := H.below hb0
  have G0 := Lib.hid g0
  have G1 := Lib.hid g1
  have HK := Lib.hid hk
  have HS := Lib.hid hs
  have HW : Hid (wrap64 (s * m) = n) := Lib.hid (by rw [hs]; unfold wrap64; omega)
  have HB := Lib.hid hb0
  clear hl g0 g1 hk hs hm hb0
  go_enter Tryz.func87, Tryz.ntmps87
  go_wp2_with (go_at_call 133; refine (few_x _ m 0 true H1 G0.out G1.out HK.out).mono ?_; rintro e w1 ⟨rfl, hb1⟩; obtain ⟨d0, d1, d2⟩ := box_num hb1)
  go_wp2
  go_ret2
  exact ⟨by simp only [Array.getD]; rw [← HW.out]; rfl, (HB.out.trans (hb1.mono (by simp))).alloc (by omega) _⟩
theorem lbs_big1 {n : Nat} (h : 1000000000 ≤ n) (hk : (lbs n).length ≤ 2) : (lbs n).getD 1 0 ≠ 0 := by
  have h2 : (lbs n).length = 2 := by
    rcases Nat.lt_or_ge (lbs n).length 2 with h3 | h3
    · have := (lbs_len_le n 1).mp (by omega)
      simp at this; omega
    · omega
  rw [lbs_pos (by omega), lbs_pos (by omega)] at h2 ⊢
  simp only [List.getD_cons_succ, List.getD_cons_zero]
  have h3 := (lbs_len_le n 2).mp hk
  omega
set_option maxHeartbeats 400000 in
theorem small_no {s : Int} {A : Option Addr} {k c : Nat} {n : Int} (w : World) (H : NumAt w s A k c n) (hn : 1000000000 ≤ n.natAbs) :
    Calls Tryz.prog 87 #[.agg #[.int .i64 s, .slice A k c]] w fun e w' => e = .returned (.tuple #[.int .i64 0, .bool false]) ∧ Below w.heap.size w w' := by
  obtain ⟨x0, g0⟩ : ∃ x, (lbs n.natAbs).getD 0 0 = x := ⟨_, rfl⟩
  obtain ⟨x1, g1⟩ : ∃ x, (lbs n.natAbs).getD 1 0 = x := ⟨_, rfl⟩
  obtain ⟨b, hk⟩ : ∃ b, decide ((k : Int) ≤ 2) = b := ⟨_, rfl⟩
  have hx : b = true → (x1 == 0) = false ∧ (x1 != 0) = true := by
    intro hb
    subst hb
    have := lbs_big1 hn (by rw [← H.len]; simp at hk; omega)
    rw [g1] at this
    simp [this]
  have hb0 : Below w.heap.size w (w.alloc (.cells #[.int .i64 s, .slice A k c] 71)) := (Below.refl _ _).alloc (Nat.le_refl _) _
  have H1 := H.below hb0
  have G0 := Lib.hid g0
  have G1 := Lib.hid g1
  have HK := Lib.hid hk
  have HB := Lib.hid hb0
  clear g0 g1 hk hb0
  cases b with
  | true =>
    obtain ⟨hx1, hx2⟩ := hx rfl
    clear hx
    go_enter Tryz.func87, Tryz.ntmps87
    go_wp2_with (go_at_call 133; refine (few_x _ x0 x1 true H1 G0.out G1.out HK.out).mono ?_; rintro e w1 ⟨rfl, hb1⟩; obtain ⟨d0, d1, d2⟩ := box_num hb1)
    go_wp2
    go_ret2
    exact ⟨rfl, (HB.out.trans (hb1.mono (by simp))).alloc (by omega) _⟩
  | false =>
    clear hx
    go_enter Tryz.func87, Tryz.ntmps87
    go_wp2_with (go_at_call 133; refine (few_x _ x0 x1 false H1 G0.out G1.out HK.out).mono ?_; rintro e w1 ⟨rfl, hb1⟩; obtain ⟨d0, d1, d2⟩ := box_num hb1)
    go_wp2
    go_ret2
    exact ⟨rfl, (HB.out.trans (hb1.mono (by simp))).alloc (by omega) _⟩
end Go.Proofs.YtjieekkkaekclaaGreatDoor
namespace Go.Proofs.YtjieekkkaekclaaGreatDoor
open Go.RowKit Go.Proofs.YtjieekkkaekclaaGreatDoorW.PrintWords
def cmpI (a b : Int) : Int := if a < b then -1 else if b < a then 1 else 0
theorem isnan_int (x : Int) (w : World) : Calls Tryz.prog 162 #[.int .i64 x] w fun e w' => e = .returned (.bool false) ∧ w' = w := by
  go_enter Tryz.func162, Tryz.ntmps162
  go_wp2
  go_ret
  exact ⟨by simp, rfl⟩
theorem isnan_u32 (x : Int) (w : World) : Calls Tryz.prog 163 #[.int .u32 x] w fun e w' => e = .returned (.bool false) ∧ w' = w := by
  go_enter Tryz.func163, Tryz.ntmps163
  go_wp2
  go_ret
  exact ⟨by simp, rfl⟩
theorem isnan_sign (x : Int) (w : World) : Calls Tryz.prog 164 #[.int .i64 x] w fun e w' => e = .returned (.bool false) ∧ w' = w := by
  go_enter Tryz.func164, Tryz.ntmps164
  go_wp2
  go_ret
  exact ⟨by simp, rfl⟩
theorem compare_int (x y : Int) (w : World) : Calls Tryz.prog 138 #[.int .i64 x, .int .i64 y] w fun e w' => e = .returned (.int .i64 (cmpI x y)) ∧ w' = w := by
  unfold cmpI
  by_cases h1 : x < y
  · rw [if_pos h1]
    go_enter Tryz.func138, Tryz.ntmps138
    go_wp2_with (go_at_call 162; refine (isnan_int _ _).mono ?_; rintro e w' ⟨rfl, rfl⟩)
    go_ret
    exact ⟨rfl, rfl⟩
  · rw [if_neg h1]
    by_cases h2 : y < x
    · rw [if_pos h2]
      go_enter Tryz.func138, Tryz.ntmps138
      go_wp2_with (go_at_call 162; refine (isnan_int _ _).mono ?_; rintro e w' ⟨rfl, rfl⟩)
      go_ret
      exact ⟨rfl, rfl⟩
    · rw [if_neg h2]
      go_enter Tryz.func138, Tryz.ntmps138
      go_wp2_with (go_at_call 162; refine (isnan_int _ _).mono ?_; rintro e w' ⟨rfl, rfl⟩)
      go_ret
      exact ⟨rfl, rfl⟩
theorem compare_u32 (x y : Int) (w : World) : Calls Tryz.prog 139 #[.int .u32 x, .int .u32 y] w fun e w' => e = .returned (.int .i64 (cmpI x y)) ∧ w' = w := by
  unfold cmpI
  by_cases h1 : x < y
  · rw [if_pos h1]
    go_enter Tryz.func139, Tryz.ntmps139
    go_wp2_with (go_at_call 163; refine (isnan_u32 _ _).mono ?_; rintro e w' ⟨rfl, rfl⟩)
    go_ret
    exact ⟨rfl, rfl⟩
  · rw [if_neg h1]
    by_cases h2 : y < x
    · rw [if_pos h2]
      go_enter Tryz.func139, Tryz.ntmps139
      go_wp2_with (go_at_call 163; refine (isnan_u32 _ _).mono ?_; rintro e w' ⟨rfl, rfl⟩)
      go_ret
      exact ⟨rfl, rfl⟩
    · rw [if_neg h2]
      go_enter Tryz.func139, Tryz.ntmps139
      go_wp2_with (go_at_call 163; refine (isnan_u32 _ _).mono ?_; rintro e w' ⟨rfl, rfl⟩)
      go_ret
      exact ⟨rfl, rfl⟩
theorem compare_u32_c (x y c : Int) (h : cmpI x y = c) (w : World) : Calls Tryz.prog 139 #[.int .u32 x, .int .u32 y] w fun e w' => e = .returned (.int .i64 c) ∧ w' = w := by
  rw [← h]; exact compare_u32 x y w
theorem compare_sign (x y : Int) (w : World) : Calls Tryz.prog 144 #[.int .i64 x, .int .i64 y] w fun e w' => e = .returned (.int .i64 (cmpI x y)) ∧ w' = w := by
  unfold cmpI
  by_cases h1 : x < y
  · rw [if_pos h1]
    go_enter Tryz.func144, Tryz.ntmps144
    go_wp2_with (go_at_call 164; refine (isnan_sign _ _).mono ?_; rintro e w' ⟨rfl, rfl⟩)
    go_ret
    exact ⟨rfl, rfl⟩
  · rw [if_neg h1]
    by_cases h2 : y < x
    · rw [if_pos h2]
      go_enter Tryz.func144, Tryz.ntmps144
      go_wp2_with (go_at_call 164; refine (isnan_sign _ _).mono ?_; rintro e w' ⟨rfl, rfl⟩)
      go_ret
      exact ⟨rfl, rfl⟩
    · rw [if_neg h2]
      go_enter Tryz.func144, Tryz.ntmps144
      go_wp2_with (go_at_call 164; refine (isnan_sign _ _).mono ?_; rintro e w' ⟨rfl, rfl⟩)
      go_ret
      exact ⟨rfl, rfl⟩
theorem size_eq2 {a b : Nat} (ha : (lbs a).length ≤ 2) (hb : (lbs b).length ≤ 2) (h0 : (lbs a).getD 0 0 = (lbs b).getD 0 0) (h1 : (lbs a).getD 1 0 = (lbs b).getD 1 0) : a = b := by
  have e : ∀ n : Nat, (lbs n).length ≤ 2 → (n : Int) = (lbs n).getD 0 0 + 1000000000 * (lbs n).getD 1 0 := by
    intro n hn
    have h3 := lbs_lv n
    match h : lbs n, hn with
    | [], _ => rw [h] at h3; simp [Mw.lv] at h3 ⊢; omega
    | [x], _ => rw [h] at h3; simp [Mw.lv] at h3 ⊢; omega
    | [x, y], _ => rw [h] at h3; simp [Mw.lv] at h3 ⊢; omega
  have h2 := e a ha
  have h3 := e b hb
  rw [h0, h1] at h2
  omega
theorem eq_few (d : Nat) (x0 x1 y0 y1 : Int) (W : World) : (Op.equalIn (d + 1 + 1) 132 (.agg #[.int .u32 x0, .int .u32 x1]) (.agg #[.int .u32 y0, .int .u32 y1])).run Tryz.prog W = .ok (x0 == y0 && x1 == y1) W := by
  have h := Tryz.underlying132
  have h1 : ∀ (a b : Int) (W : World), (Op.equalIn (d + 1) 121 (.int .u32 a) (.int .u32 b)).run Tryz.prog W = .ok (a == b) W := fun a b W => run_equalIn_int W d 121 _ _ a b Tryz.underlying121
  have hs : ∀ W, (sizeOf 121).run Tryz.prog W = .ok 1 W := fun W => by kernel_rfl
  have hp0 : ∀ (a b : Int) W, (Go.part 121 #[.int .u32 a, .int .u32 b] 0).run Tryz.prog W = .ok (.int .u32 a) W := fun a b W => by kernel_rfl
  have hp1 : ∀ (a b : Int) W, (Go.part 121 #[.int .u32 a, .int .u32 b] 1).run Tryz.prog W = .ok (.int .u32 b) W := fun a b W => by kernel_rfl
  conv => lhs; unfold Op.equalIn
  simp [run_underlying h, Sem.run_bind, Result.andThen, hs, hp0, hp1, h1]
  rw [show List.range' 0 2 = [0, 1] from rfl]
  by_cases e0 : x0 = y0 <;> by_cases e1 : x1 = y1 <;> simp [List.forIn_cons, Sem.run_bind, Result.andThen, hp0, hp1, h1, e0, e1]
theorem cmpI_same (a : Int) : cmpI a a = 0 := by unfold cmpI; simp
theorem cmpI_lt {a b : Int} (h : a < b) : cmpI a b = -1 := by unfold cmpI; rw [if_pos h]
theorem cmpI_gt {a b : Int} (h : b < a) : cmpI a b = 1 := by unfold cmpI; rw [if_neg (by omega), if_pos h]
theorem cmpI_cases (a b : Int) : cmpI a b = -1 ∧ a < b ∨ cmpI a b = 0 ∧ a = b ∨ cmpI a b = 1 ∧ b < a := by
  unfold cmpI
  by_cases h1 : a < b
  · rw [if_pos h1]; exact .inl ⟨rfl, h1⟩
  · rw [if_neg h1]
    by_cases h2 : b < a
    · rw [if_pos h2]; exact .inr (.inr ⟨rfl, h2⟩)
    · rw [if_neg h2]; exact .inr (.inl ⟨rfl, by omega⟩)
theorem cmpI_step {a b : List Int} (ha : Mw.inB 1000000000 a) (hb : Mw.inB 1000000000 b) {n : Nat} (hna : n < a.length) (hnb : n < b.length) :
    cmpI (Mw.lv 1000000000 (a.take (n + 1))) (Mw.lv 1000000000 (b.take (n + 1))) = if cmpI (a.getD n 0) (b.getD n 0) = 0 then cmpI (Mw.lv 1000000000 (a.take n)) (Mw.lv 1000000000 (b.take n)) else cmpI (a.getD n 0) (b.getD n 0) := by
  rw [Mw.take_succ_getD a n hna, Mw.take_succ_getD b n hnb]
  have hla : (a.take n).length = n := by simp; omega
  have hlb : (b.take n).length = n := by simp; omega
  rcases cmpI_cases (a.getD n 0) (b.getD n 0) with ⟨e, h⟩ | ⟨e, h⟩ | ⟨e, h⟩
  · rw [e, if_neg (by omega)]
    exact cmpI_lt (Mw.lv_lt_of_top (c := []) (by omega) (Mw.inB_take ha n) (Mw.inB_take hb n) (by omega) h)
  · rw [e, if_pos rfl, h, Mw.lv_snoc, Mw.lv_snoc, hla, hlb]
    unfold cmpI
    simp only [Int.add_lt_add_iff_right]
  · rw [e, if_neg (by omega)]
    exact cmpI_gt (Mw.lv_lt_of_top (c := []) (by omega) (Mw.inB_take hb n) (Mw.inB_take ha n) (by omega) h)
theorem cmp_len {n m : Nat} (h : (lbs n).length ≠ (lbs m).length) : cmpI (lbs n).length (lbs m).length = cmpI n m := by
  rcases Nat.lt_or_ge (lbs n).length (lbs m).length with h1 | h1
  · have := Mw.lv_len_lt (by omega) (lbs_inB n) (lbs_inB m) (lbs_topd m) h1
    rw [lbs_lv, lbs_lv] at this
    rw [cmpI_lt (by omega), cmpI_lt this]
  · have := Mw.lv_len_lt (by omega) (lbs_inB m) (lbs_inB n) (lbs_topd n) (by omega)
    rw [lbs_lv, lbs_lv] at this
    rw [cmpI_gt (by omega), cmpI_gt this]
set_option maxRecDepth 100000 in
set_option maxHeartbeats 2000000 in
theorem size_any {s s' : Int} {A A' : Option Addr} {k c k' c' : Nat} {n m : Int} (w : World) (H : NumAt w s A k c n) (H' : NumAt w s' A' k' c' m) :
    Calls Tryz.prog 102 #[.agg #[.int .i64 s, .slice A k c], .agg #[.int .i64 s', .slice A' k' c']] w fun e w' => e = .returned (.int .i64 (cmpI n.natAbs m.natAbs)) ∧ Below w.heap.size w w' := by
  obtain ⟨x0, g0⟩ : ∃ x, (lbs n.natAbs).getD 0 0 = x := ⟨_, rfl⟩
  obtain ⟨x1, g1⟩ : ∃ x, (lbs n.natAbs).getD 1 0 = x := ⟨_, rfl⟩
  obtain ⟨y0, g2⟩ : ∃ x, (lbs m.natAbs).getD 0 0 = x := ⟨_, rfl⟩
  obtain ⟨y1, g3⟩ : ∃ x, (lbs m.natAbs).getD 1 0 = x := ⟨_, rfl⟩
  obtain ⟨ba, hka⟩ : ∃ b, decide ((k : Int) ≤ 2) = b := ⟨_, rfl⟩
  obtain ⟨bb, hkb⟩ : ∃ b, decide ((k' : Int) ≤ 2) = b := ⟨_, rfl⟩
  obtain ⟨be, hbe⟩ : ∃ b, (x0 == y0 && x1 == y1) = b := ⟨_, rfl⟩
  obtain ⟨r, hr⟩ : ∃ r, cmpI n.natAbs m.natAbs = r := ⟨_, rfl⟩
  have heq : (ba && bb && be) = true → r = 0 := by
    intro h
    simp at h
    obtain ⟨⟨rfl, rfl⟩, rfl⟩ := h
    simp at hbe
    obtain ⟨rfl, rfl⟩ := hbe
    have := size_eq2 (a := n.natAbs) (b := m.natAbs) (by rw [← H.len]; simp at hka; omega) (by rw [← H'.len]; simp at hkb; omega) (g0.trans g2.symm) (g1.trans g3.symm)
    rw [← hr, this]; exact cmpI_same _
  rw [hr]
  have HE : ∀ W, (Op.equalIn 10000 132 (.agg #[.int .u32 x0, .int .u32 x1]) (.agg #[.int .u32 y0, .int .u32 y1])).run Tryz.prog W = .ok be W := fun W => by
    rw [← hbe]; exact eq_few 9998 x0 x1 y0 y1 W
  have hb0 : Below w.heap.size w ((w.alloc (.cells #[.int .i64 s, .slice A k c] 71)).alloc (.cells #[.int .i64 s', .slice A' k' c'] 71)) := ((Below.refl _ _).alloc (Nat.le_refl _) _).alloc (by simp) _
  have H1 := H.below hb0
  have H1' := H'.below hb0
  have G0 := Lib.hid g0
  have G1 := Lib.hid g1
  have G2 := Lib.hid g2
  have G3 := Lib.hid g3
  have HKA := Lib.hid hka
  have HKB := Lib.hid hkb
  have HB := Lib.hid hb0
  have HR := Lib.hid hr
  have HQ := Lib.hid heq
  clear g0 g1 g2 g3 hka hkb hb0 hbe hr heq
  go_enter Tryz.func102, Tryz.ntmps102
  go_upto_if 17 with (first | (go_at_call 133; (with_reducible refine (few_x _ x0 x1 ba H1 G0.out G1.out HKA.out).mono ?_); rintro e w1 ⟨rfl, hb1⟩; obtain ⟨d0, d1, d2, d3, d4, d5⟩ := box_two hb1))
  go_cut [] (fun wc => Hid (Below w.heap.size w wc) ∧ wc.cell? ⟨w.heap.size, 0, none⟩ = some (.int .i64 s) ∧ wc.cell? ⟨w.heap.size, 1, none⟩ = some (.slice A k c) ∧ wc.cell? ⟨w.heap.size + 1, 0, none⟩ = some (.int .i64 s') ∧ wc.cell? ⟨w.heap.size + 1, 1, none⟩ = some (.slice A' k' c'))
  case first => as_aux_lemma =>
    cases ba with
    | false =>
      clear HE
      go_wp2_with fail
      go_meet
      case rel => exact ⟨Lib.hid ((HB.out.trans (hb1.mono (by simp; omega))).alloc (by omega) _), cell_alloc _ d0, cell_alloc _ d1, cell_alloc _ d2, cell_alloc _ d3⟩
    | true =>
      have H2' := (H1'.below hb1).below ((Below.refl _ _).alloc (Nat.le_refl _) (.cells #[.int .u32 x0, .int .u32 x1] 132))
      go_wp2_with fail
      refine (few_x _ y0 y1 bb H2' G2.out G3.out HKB.out).mono ?_
      rintro e w2 ⟨rfl, hb2⟩
      have f0 := kca hb2 d0
      have f1 := kca hb2 d1
      have f2 := kca hb2 d2
      have f3 := kca hb2 d3
      obtain ⟨k0, k1, k2⟩ := box_num hb2
      have HBW := Lib.hid (((HB.out.trans (hb1.mono (by simp; omega))).alloc (by omega) (.cells #[.int .u32 x0, .int .u32 x1] 132) |>.trans (hb2.mono (by simp; omega))).alloc (by omega) (.cells #[.int .u32 y0, .int .u32 y1] 132))
      cases bb with
      | false =>
        clear HE
        go_wp2_with fail
        go_meet
        case rel => exact ⟨HBW, cell_alloc _ f0, cell_alloc _ f1, cell_alloc _ f2, cell_alloc _ f3⟩
      | true =>
        cases be with
        | false =>
          go_wp2_with fail
          go_meet
          case rel => exact ⟨HBW, cell_alloc _ f0, cell_alloc _ f1, cell_alloc _ f2, cell_alloc _ f3⟩
        | true =>
          have HZ := Lib.hid (HQ.out rfl)
          go_wp2_with fail
          go_ret
          exact ⟨by rw [HZ.out]; rfl, HBW.out⟩
  case rest =>
    obtain ⟨HBW, f0, f1, f2, f3⟩ := hcut
    clear HE H1 H1' HQ
    have H3 := H.below HBW.out
    have H3' := H'.below HBW.out
    by_cases hl : k = k'
    · subst hl
      have HST : Hid (cmpI (Mw.lv 1000000000 ((lbs n.natAbs).take (k - 0))) (Mw.lv 1000000000 ((lbs m.natAbs).take (k - 0))) = r) := Lib.hid (by
        rw [Nat.sub_zero, List.take_of_length_le (by rw [H.len]; exact Nat.le_refl _), List.take_of_length_le (by rw [H'.len]; exact Nat.le_refl _), lbs_lv, lbs_lv]; exact HR.out)
      go_wp2_with fail
      go_loopw [46] (fun v wr => ∃ j : Nat, j ≤ k ∧ v = .int .i64 j ∧ Hid (Below w.heap.size w wr) ∧ wr.cell? ⟨w.heap.size, 0, none⟩ = some (.int .i64 s) ∧ wr.cell? ⟨w.heap.size, 1, none⟩ = some (.slice A k c) ∧ wr.cell? ⟨w.heap.size + 1, 0, none⟩ = some (.int .i64 s') ∧ wr.cell? ⟨w.heap.size + 1, 1, none⟩ = some (.slice A' k c') ∧ Hid (cmpI (Mw.lv 1000000000 ((lbs n.natAbs).take (k - j))) (Mw.lv 1000000000 ((lbs m.natAbs).take (k - j))) = r)) (fun v _ => k - (intOf v).toNat)
      case atStart => exact ⟨0, by omega, rfl, HBW, f0, f1, f2, f3, HST⟩
      case round => as_aux_lemma =>
        clear f0 f1 f2 f3 H3 H3' HBW
        obtain ⟨j, hj, rfl, HBW, f0, f1, f2, f3, HC⟩ := hrel
        have H3 := H.below HBW.out
        have H3' := H'.below HBW.out
        by_cases hlt : j < k
        · as_aux_lemma =>
          obtain ⟨ad, hA, hc1⟩ := H3.cell (i := k - 1 - j) (by omega)
          obtain ⟨ad', hA', hc2⟩ := H3'.cell (i := k - 1 - j) (by omega)
          have hst := cmpI_step (lbs_inB n.natAbs) (lbs_inB m.natAbs) (n := k - 1 - j) (by have := H.len; omega) (by have := H'.len; omega)
          obtain ⟨xi, hxi⟩ : ∃ x, (lbs n.natAbs).getD (k - 1 - j) 0 = x := ⟨_, rfl⟩
          obtain ⟨yi, hyi⟩ : ∃ x, (lbs m.natAbs).getD (k - 1 - j) 0 = x := ⟨_, rfl⟩
          obtain ⟨ci, hci⟩ : ∃ x, cmpI xi yi = x := ⟨_, rfl⟩
          rw [hxi, hyi, hci, show k - 1 - j + 1 = k - j by omega, HC.out] at hst
          obtain ⟨i, hi⟩ : ∃ i, k - 1 - j = i := ⟨_, rfl⟩
          rw [hxi, hi] at hc1
          rw [hyi, hi] at hc2
          have hik : (i : Int) < k := by omega
          have hj1 : j + 1 ≤ k := hlt
          have hkj := Lib.hid (show k - (j + 1) = k - 1 - j by omega)
          have hme : k - (j + 1) < k - j := by omega
          have hlt' : (j : Int) < k := by omega
          have hmx := H.reads.2.1
          have hw1 : wrap64 (wrap64 ((k : Int) - 1) - j) = i := wrap_back hi hlt hmx
          have hw2 : wrap64 ((j : Int) + 1) = (j : Int) + 1 := wrap_up hlt hmx
          subst hA hA'
          have HS := Lib.hid hst
          have HCI := Lib.hid hci
          have HI := Lib.hid hi
          clear hst hxi hyi hci hi hmx
          go_wp2_with fail
          rw [hw1]
          go_quiet ((go_at_call 139; exact Calls.quiet_of_same (compare_u32_c _ _ _ HCI.out _)))
          have hbq := Lib.hid (pw_below_drewN HBW.out nq)
          by_cases hz : ci = 0
          · as_aux_lemma =>
            have hz2 : (ci != 0) = false := by simp [hz]
            have HZ := Lib.hid hz
            clear hz
            go_wp2
            go_roundw
            case rel => exact ⟨j + 1, hj1, by rw [hw2]; rfl, hbq, f0, f1, f2, f3, Lib.hid (by have h := HS.out; rw [if_pos HZ.out] at h; rw [hkj.out]; exact h.symm)⟩
            case measure =>
              rw [hw2]
              exact hme
          · as_aux_lemma =>
            have hz2 : (ci != 0) = true := by simp [hz]
            have HZ := Lib.hid hz
            clear hz
            go_wp2
            go_ret
            exact ⟨by have h := HS.out; rw [if_neg HZ.out] at h; rw [h]; rfl, hbq.out⟩
        · as_aux_lemma =>
          obtain rfl : j = k := by omega
          have HZ : Hid (r = 0) := Lib.hid (by have h := HC.out; rw [Nat.sub_self] at h; rw [← h]; exact cmpI_same _)
          clear HC
          go_wp2
          go_ret
          exact ⟨by rw [HZ.out]; rfl, HBW.out⟩
    · as_aux_lemma =>
      have HRL : Hid (cmpI (k : Int) (k' : Int) = r) := Lib.hid (by rw [H.len, H'.len, cmp_len (by rw [← H.len, ← H'.len]; exact hl)]; exact HR.out)
      have hne : ((k : Int) != (k' : Int)) = true := by rw [bne_iff_ne]; omega
      go_wp2_with (go_at_call 138; refine (compare_int _ _ _).mono ?_; rintro e w' ⟨rfl, rfl⟩)
      go_ret
      exact ⟨by rw [HRL.out]; rfl, HBW.out⟩
theorem order_val {s s' n m : Int} (hs : s = sgn n) (hs' : s' = sgn m) (h : s = s') : s * cmpI n.natAbs m.natAbs = cmpI n m := by
  have e := hs.symm.trans (h.trans hs')
  subst hs
  rcases sgn_cases n with ⟨e1, h1⟩ | ⟨e1, h1⟩ | ⟨e1, h1⟩ <;> rcases sgn_cases m with ⟨e2, h2⟩ | ⟨e2, h2⟩ | ⟨e2, h2⟩ <;> rw [e1, e2] at e <;> (try omega) <;> rw [e1] <;> unfold cmpI <;> (repeat' split) <;> omega
theorem order_sgn {n m : Int} (h : sgn n ≠ sgn m) : cmpI (sgn n) (sgn m) = cmpI n m := by
  rcases sgn_cases n with ⟨e1, h1⟩ | ⟨e1, h1⟩ | ⟨e1, h1⟩ <;> rcases sgn_cases m with ⟨e2, h2⟩ | ⟨e2, h2⟩ | ⟨e2, h2⟩ <;> rw [e1, e2] at h ⊢ <;> (try omega) <;> unfold cmpI <;> (repeat' split) <;> omega
theorem cmpI_bd (a b : Int) : -1 ≤ cmpI a b ∧ cmpI a b ≤ 1 := by rcases cmpI_cases a b with h | h | h <;> omega
set_option maxHeartbeats 1000000 in
theorem order_any {s s' : Int} {A A' : Option Addr} {k c k' c' : Nat} {n m : Int} (w : World) (H : NumAt w s A k c n) (H' : NumAt w s' A' k' c' m) :
    Calls Tryz.prog 115 #[.agg #[.int .i64 s, .slice A k c], .agg #[.int .i64 s', .slice A' k' c']] w fun e w' => e = .returned (.int .i64 (cmpI n m)) ∧ Below w.heap.size w w' := by
  have hb0 : Below w.heap.size w ((w.alloc (.cells #[.int .i64 s, .slice A k c] 71)).alloc (.cells #[.int .i64 s', .slice A' k' c'] 71)) := ((Below.refl _ _).alloc (Nat.le_refl _) _).alloc (by simp) _
  have H1 := H.below hb0
  have H1' := H'.below hb0
  have HB := Lib.hid hb0
  clear hb0
  by_cases h : s = s'
  · have HV := Lib.hid (order_val H.sign H'.sign h)
    obtain ⟨r, hr⟩ : ∃ r, cmpI n.natAbs m.natAbs = r := ⟨_, rfl⟩
    have hr1 := cmpI_bd n.natAbs m.natAbs
    rw [hr] at hr1
    have HR := Lib.hid hr
    clear hr
    have hne : (s != s') = false := by simp [h]
    have hsb := H.bd
    have HW : Hid (IntKind.i64.wrap (s * r) = s * r) := Lib.hid (IntWalk.i64_in _ (by have := times_bd s r hsb hr1; omega))
    clear h
    have H2 := H1.drew
    have H2' := H1'.drew
    go_enter Tryz.func115, Tryz.ntmps115
    go_wp2_with fail
    go_region_held3 (fun w' => w'.cell? ⟨w.heap.size, 0, none⟩ = some (.int .i64 s) ∧ w'.cell? ⟨w.heap.size, 1, none⟩ = some (.slice A k c) ∧ w'.cell? ⟨w.heap.size + 1, 0, none⟩ = some (.int .i64 s') ∧ w'.cell? ⟨w.heap.size + 1, 1, none⟩ = some (.slice A' k' c')) (first | go_keep | exact ⟨d0, d1, d2, d3⟩) (first | (go_at_call 102; (with_reducible refine (size_any _ H2 H2').mono ?_); rw [HR.out]; rintro e w1 ⟨rfl, hb1⟩; obtain ⟨d0, d1, d2, d3, d4, d5⟩ := box_two (below_of_drew hb1)))
    go_wp2
    go_ret
    exact ⟨by rw [HW.out, ← HV.out, HR.out]; rfl, HB.out.trans ((below_of_drew hb1).mono (by simp; omega))⟩
  · have HV := Lib.hid (order_sgn (n := n) (m := m) (by rw [← H.sign, ← H'.sign]; exact h))
    have hne : (s != s') = true := by simp [h]
    clear h
    go_enter Tryz.func115, Tryz.ntmps115
    go_wp2_with (go_at_call 144; refine (compare_sign _ _ _).mono ?_; rintro e w' ⟨rfl, rfl⟩)
    go_ret
    exact ⟨by rw [← HV.out, ← H.sign, ← H'.sign]; rfl, HB.out⟩
end Go.Proofs.YtjieekkkaekclaaGreatDoor
