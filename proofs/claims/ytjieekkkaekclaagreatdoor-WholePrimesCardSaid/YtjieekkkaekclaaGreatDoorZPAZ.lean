/- Lemmas for the claim beside this text. -/
import Derived.Test.YtjieekkkaekclaaGreatDoorZPAW
import Derived.Test.YtjieekkkaekclaaGreatDoorZPAY
import Derived.ScopeJumps
import Derived.WalkMore
set_option linter.all false
set_option linter.unusedVariables false
set_option linter.unusedSimpArgs false
namespace Go.Proofs.YtjieekkkaekclaaGreatDoor
open Go Go.RowKit Go.Proofs.YtjieekkkaekclaaGreatDoorW.PrintWords
attribute [local go_sem] Oper.semAt_some
def Mw.wroot (a : List UInt8) (n : Int) : List UInt8 × Int :=
  if Mw.terr a = 0 then (if n < 1 then ([], 2) else if 20 < n then ([], 2) else if Mw.ival a < 0 then ([], 2) else (Mw.itxt (Mw.rt n.toNat (Mw.ival a).toNat : Int), 0)) else ([], Mw.terr a)
theorem root_neg {s n : Int} (h : s = sgn n) (hn : n < 0) : (s == -1) = true := by
  rcases sgn_cases n with ⟨e1, h1⟩ | ⟨e1, h1⟩ | ⟨e1, h1⟩ <;> rw [beq_iff_eq] <;> omega
theorem root_pos {s n : Int} (h : s = sgn n) (hn : ¬ n < 0) : (s == -1) = false := by
  rcases sgn_cases n with ⟨e1, h1⟩ | ⟨e1, h1⟩ | ⟨e1, h1⟩ <;> rw [beq_eq_false_iff_ne] <;> omega
theorem rt_one (x : Nat) : Mw.rt 1 x = x := Mw.rt_of (by omega) (by simp) (by simp)
theorem rt_zero {n : Nat} (hn : n ≠ 0) : Mw.rt n 0 = 0 := rfl
set_option maxRecDepth 100000 in
theorem root2_ok : MostOk 98 (fun x => Lt9 60 x) := fun W s A k c x H hx hk ht => by
  have hb0 := bxs_below 71 [⟨s, A, k, c⟩] W (Nat.le_refl _) (Below.refl _ _)
  simp only [bxs] at hb0
  have HB := Lib.hid hb0
  clear hb0
  go_enter Tryz.func98, Tryz.ntmps98
  go_wp2
  go_end0
  exact ⟨rfl, HB.out⟩
theorem root_power {s : Int} {A : Option Addr} {k c g : Nat} (w : World) (n : Nat) (hn : n ≤ 1000000) (H : NumAt w s A k c (g : Int)) (G : Nat) (hG : g ^ n = G) (hg : Lt9 60 (g : Int)) (hl : Lt9 60 (G : Int)) (htab : Tab w) :
    Calls Tryz.prog 99 #[.agg #[.int .i64 s, .slice A k c], .int .i64 (n : Int), .func (.func 98) #[] #[]] w fun e w' => ∃ s2 A2 k2 c2, e = .returned (.agg #[.int .i64 s2, .slice A2 k2 c2]) ∧ NumAt w' s2 A2 k2 c2 (G : Int) ∧ Below w.heap.size w w' := by
  have e : (g : Int) ^ n = (G : Int) := by rw [← hG, Int.natCast_pow]
  refine (power_any 98 (fun x => Lt9 60 x) 0 (enters Tryz.func98 rfl (by decide)) ((Lt9.small (by decide)).up (by omega)) (fun x y h hy => Lt9.mono hy h) (fun x h => h) root2_ok w n hn H hg (.inl (show Lt9 60 _ by rw [e]; exact hl)) htab).mono ?_
  rintro e2 w2 ⟨hb, ⟨_, s2, A2, k2, c2, rfl, hN⟩ | ⟨hno, _⟩⟩
  · rw [e] at hN; exact ⟨s2, A2, k2, c2, rfl, hN, hb⟩
  · exact absurd (show Lt9 60 ((g : Int) ^ n) by rw [e]; exact hl) hno
theorem wp_scope_pass {P : Program} {a : Act} {w : World} {Q : Exit → Act → World → Prop} {c rest : Code} (l : Nat) (J : Act → World → Prop) (μ : Act → World → Nat) (hf : findLabel c l = some (Code.skip.seq rest))
    (pass : ∀ a w, J a w → rest.wp P (Exit.jump l (fun a' w' => J a' w' ∧ μ a' w' < μ a w) Q) a w)
    (first : (∀ a w, J a w → rest.wp P (Exit.jump l J Q) a w) → c.wp P (Exit.jump l J Q) a w) : (Code.scope c).wp P Q a w := by
  refine wp_scope_jumps l J μ hf (first fun a w h => wp_mono (pass a w h) ?_) (fun a w h => wp_seq (wp_skip (pass a w h)))
  intro e a' w' h'
  cases e with
  | goto l' => exact ⟨h'.1, h'.2.1⟩
  | normal => exact h'
  | ret => exact h'
  | exit i => exact h'
  | panic ch => exact h'
  | outgrown => exact h'
theorem list_get (l : List Value) : ∀ n, l.length = n → l = (List.range n).map (fun i => (l[i]?).getD undef) := by
  intro n hn
  apply List.ext_getElem (by simp [hn])
  intro i h1 h2
  simp [h1]
theorem arr78 (T : Array Value) (h : T.size = 78) : ∃ u : Nat → Value, (∀ i, u i = (T[i]?).getD undef) ∧ T = #[u 0, u 1, u 2, u 3, u 4, u 5, u 6, u 7, u 8, u 9, u 10, u 11, u 12, u 13, u 14, u 15, u 16, u 17, u 18, u 19, u 20, u 21, u 22, u 23, u 24, u 25, u 26, u 27, u 28, u 29, u 30, u 31, u 32, u 33, u 34, u 35, u 36, u 37, u 38, u 39, u 40, u 41, u 42, u 43, u 44, u 45, u 46, u 47, u 48, u 49, u 50, u 51, u 52, u 53, u 54, u 55, u 56, u 57, u 58, u 59, u 60, u 61, u 62, u 63, u 64, u 65, u 66, u 67, u 68, u 69, u 70, u 71, u 72, u 73, u 74, u 75, u 76, u 77] := by
  refine ⟨fun i => (T[i]?).getD undef, fun _ => rfl, ?_⟩
  have h1 := list_get T.toList 78 (by simpa using h)
  have h2 : T = T.toList.toArray := by simp
  have h3 : ∀ f : Nat → Value, (List.range 78).map f = [f 0, f 1, f 2, f 3, f 4, f 5, f 6, f 7, f 8, f 9, f 10, f 11, f 12, f 13, f 14, f 15, f 16, f 17, f 18, f 19, f 20, f 21, f 22, f 23, f 24, f 25, f 26, f 27, f 28, f 29, f 30, f 31, f 32, f 33, f 34, f 35, f 36, f 37, f 38, f 39, f 40, f 41, f 42, f 43, f 44, f 45, f 46, f 47, f 48, f 49, f 50, f 51, f 52, f 53, f 54, f 55, f 56, f 57, f 58, f 59, f 60, f 61, f 62, f 63, f 64, f 65, f 66, f 67, f 68, f 69, f 70, f 71, f 72, f 73, f 74, f 75, f 76, f 77] := fun f => rfl
  rw [h3] at h1
  rw [h2, h1]
  simp
structure RootJ (s : ByteArray) (N X E : Nat) (w : World) (bx bg : Nat) (a : Act) (W : World) : Prop where
  size : a.tmps.size = 78
  t0 : a.tmps[0]? = some (.string s)
  t1 : a.tmps[1]? = some (.int .i64 (N : Int))
  t4 : a.tmps[4]? = some (.string ⟨#[]⟩)
  t5 : a.tmps[5]? = some (.pointer (some ⟨w.heap.size, 0, none⟩))
  t6 : a.tmps[6]? = some (.pointer (some ⟨bx, 0, none⟩))
  t7 : a.tmps[7]? = some (.func (.func 98) #[] #[])
  t8 : a.tmps[8]? = some (.pointer (some ⟨bg, 0, none⟩))
  defers : a.defers = [{ target := .fn (.func 97) #[.pointer (some ⟨w.heap.size, 0, none⟩)], args := #[] }]
  own : Own w (.int .i64 0) W
  x : Bn W bx (X : Int)
  g : ∃ g : Nat, Bn W bg (g : Int) ∧ 1 ≤ g ∧ g ≤ 10 ^ E ∧ Mw.rt N X ≤ g
  lt : w.heap.size < bx ∧ bx < bg
def ptrB : Value → Nat | .pointer (some a) => a.block | _ => 0
theorem root_len {s : ByteArray} (hok : Mw.terr s.data.toList = 0) {X : Nat} (hx : Mw.ival s.data.toList = (X : Int)) : s.size ≤ 400 ∧ X < 10 ^ s.size := by
  obtain ⟨h1, h2⟩ := terr_gerr hok
  rw [hx] at h1 h2
  have h3 := gerr_zero.mp h1
  rw [Int.natAbs_natCast] at h3
  have h4 : s.size = (Mw.dtxt X).length := by rw [← size_list, ← h2, Mw.itxt_nonneg (by omega), Int.natAbs_natCast]
  have h5 : (Mw.dtxt X).length ≤ 400 := (Mw.dtxt_len_le X 400 (by omega)).mpr h3
  have h6 : 1 ≤ (Mw.dtxt X).length := Mw.dtxt_len_pos X
  rw [h4]
  exact ⟨h5, (Mw.dtxt_len_le X _ h6).mp (Nat.le_refl _)⟩
theorem root_nums {L N E : Nat} (hL : L ≤ 400) (hN : 2 ≤ N ∧ N ≤ 20) (hE : (L + N - 1) / N = E) : E * N ≤ 419 := by
  have := Nat.div_mul_le_self (L + N - 1) N
  rw [hE] at this; omega
set_option exponentiation.threshold 2000 in
theorem pow_lt9 {k g : Nat} (h : k ≤ 419) (hg : g ≤ 10 ^ k) : Lt9 60 (g : Int) := by
  unfold Lt9
  rw [Int.natAbs_natCast, show (1000000000 : Nat) = 10 ^ 9 from rfl, ← Nat.pow_mul]
  exact Nat.lt_of_le_of_lt hg (Nat.pow_lt_pow_right (by omega) (by omega))
set_option maxRecDepth 100000 in
set_option maxHeartbeats 6400000 in
theorem root_any (s : ByteArray) (n : Int) (w : World) (hs : s.size ≤ 100000) (hg : Ety w) (htab : Tab w) :
    Calls Tryz.prog 36 #[.string s, .int .i64 n] w fun e w' => e = .returned (.tuple #[.string ⟨(Mw.wroot s.data.toList n).1.toArray⟩, .int .i64 (Mw.wroot s.data.toList n).2]) ∧ Below w.heap.size w w' := by
  have hmf : ∀ (fn : Fn) (first cap : Array Value) (w : World), (Instr.makeFunc fn first cap).run Tryz.prog w = .ok (.func fn first cap) w := fun _ _ _ _ => rfl
  have HG := Lib.hid hg
  have HT := Lib.hid (Lib.tabBelow_of_tabIs htab)
  clear hg htab
  obtain ⟨⟨rs, er⟩, hr⟩ : ∃ x, Mw.wroot s.data.toList n = x := ⟨_, rfl⟩
  rw [hr]
  dsimp only
  by_cases hok : Mw.terr s.data.toList = 0
  · rw [Mw.wroot, if_pos hok] at hr
    obtain ⟨x, hx⟩ : ∃ x, Mw.ival s.data.toList = x := ⟨_, rfl⟩
    rw [hx] at hr
    have HX := Lib.hid hx
    clear hx
    by_cases hn0 : n < 1
    · rw [if_pos hn0] at hr
      cases hr
      go_enter_defers Tryz.func36, Tryz.ntmps36
      go_wp2_with fail
      refine wp_scope_straight ?_
      go_wp2_with (first | (go_at_call 69; with_reducible refine (taken_ok s _ hs hok).mono ?_; rintro e w1 ⟨s1, A1, k1, c1, rfl, hN1, hb1⟩) | (go_at_call 86; with_reducible refine (fail_t _ _ _ (by first | rfl | exact decide_eq_true hn0)).mono ?_; rintro e w6 ⟨rfl, hw6⟩))
      have HO3 := (Own.of hb1).next (below_alloc (Below.refl _ _) (.cells #[.int .i64 s1, .slice A1 k1 c1] 71))
      exact door_caught isDoor_Root _ (.int .i64 0) (.tuple #[.string ⟨#[]⟩, .int .i64 2]) _ _ (HG.out.below HO3.below) HO3.lt HO3.cell HO3.frz (fun W' h => by simp [results, Tryz.results36, go_sem, h])
        (fun W' h => ⟨rfl, HO3.below.trans h⟩)
    · rw [if_neg hn0] at hr
      by_cases hn1 : 20 < n
      · rw [if_pos hn1] at hr
        cases hr
        go_enter_defers Tryz.func36, Tryz.ntmps36
        go_wp2_with fail
        refine wp_scope_straight ?_
        go_wp2_with (first | (go_at_call 69; with_reducible refine (taken_ok s _ hs hok).mono ?_; rintro e w1 ⟨s1, A1, k1, c1, rfl, hN1, hb1⟩) | (go_at_call 86; with_reducible refine (fail_t _ _ _ (by first | rfl | exact decide_eq_true hn1)).mono ?_; rintro e w6 ⟨rfl, hw6⟩))
        have HO3 := (Own.of hb1).next (below_alloc (Below.refl _ _) (.cells #[.int .i64 s1, .slice A1 k1 c1] 71))
        exact door_caught isDoor_Root _ (.int .i64 0) (.tuple #[.string ⟨#[]⟩, .int .i64 2]) _ _ (HG.out.below HO3.below) HO3.lt HO3.cell HO3.frz (fun W' h => by simp [results, Tryz.results36, go_sem, h])
          (fun W' h => ⟨rfl, HO3.below.trans h⟩)
      · rw [if_neg hn1] at hr
        by_cases hx0 : x < 0
        · rw [if_pos hx0] at hr
          cases hr
          go_enter_defers Tryz.func36, Tryz.ntmps36
          go_wp2_with fail
          refine wp_scope_straight ?_
          go_wp2_with (first | (go_at_call 69; with_reducible refine (taken_ok s _ hs hok).mono ?_; rintro e w1 ⟨s1, A1, k1, c1, rfl, hN1, hb1⟩; rw [HX.out] at hN1; have hs1 : (s1 == -1) = true := root_neg hN1.sign (by omega)) | (go_at_call 78; with_reducible refine (sneg_any s1 _).mono ?_; rintro e w7 ⟨rfl, rfl⟩) | (go_at_call 86; with_reducible refine (fail_t _ _ _ (by first | rfl | exact hs1)).mono ?_; rintro e w6 ⟨rfl, hw6⟩))
          have HO3 := (Own.of hb1).next (below_alloc (Below.refl _ _) (.cells #[.int .i64 s1, .slice A1 k1 c1] 71))
          exact door_caught isDoor_Root _ (.int .i64 0) (.tuple #[.string ⟨#[]⟩, .int .i64 2]) _ _ (HG.out.below HO3.below) HO3.lt HO3.cell HO3.frz (fun W' h => by simp [results, Tryz.results36, go_sem, h])
            (fun W' h => ⟨rfl, HO3.below.trans h⟩)
        · rw [if_neg hx0] at hr
          have hdd : (decide (n < 1) || decide (20 < n)) = false := by simp; omega
          obtain ⟨X, rfl⟩ : ∃ X : Nat, x = (X : Int) := ⟨x.toNat, by omega⟩
          obtain ⟨N, rfl⟩ : ∃ N : Nat, n = (N : Int) := ⟨n.toNat, by omega⟩
          rw [Int.toNat_natCast, Int.toNat_natCast] at hr
          have HR := Lib.hid hr
          have HNB : Hid (1 ≤ N ∧ N ≤ 20) := Lib.hid (by omega)
          have HGX : Hid (Mw.gerr (X : Int) = 0) := Lib.hid (by rw [← HX.out]; exact (terr_gerr hok).1)
          clear hr
          by_cases hsm : X = 0 ∨ N = 1
          · have HRT : Hid (Mw.rt N X = X) := Lib.hid (by rcases hsm with rfl | rfl; exact rt_zero (by have := HNB.out; omega); exact rt_one X)
            by_cases hz : X = 0
            · have HZ := Lib.hid hz
              clear hz hsm
              go_enter_defers Tryz.func36, Tryz.ntmps36
              go_wp2_with fail
              refine wp_scope_straight ?_
              go_wp2_with (first | (go_at_call 69; with_reducible refine (taken_ok s _ hs hok).mono ?_; rintro e w1 ⟨s1, A1, k1, c1, rfl, hN1, hb1⟩; have hk1 := hN1.k45 hok; rw [HX.out] at hN1; have hs1 : (s1 == -1) = false := root_pos hN1.sign (by omega); have hs0 : (s1 == 0) = true := beq_iff_eq.mpr (by have h1 := hN1.sign; have h2 := HZ.out; rcases sgn_cases (X : Int) with ⟨e1, h3⟩ | ⟨e1, h3⟩ | ⟨e1, h3⟩ <;> omega)) | (go_at_call 78; with_reducible refine (sneg_any s1 _).mono ?_; rintro e w7 ⟨rfl, rfl⟩) | (go_at_call 86; with_reducible refine (fail_f _ _ _ (by first | rfl | exact hs1)).mono ?_; rintro e w6 ⟨rfl, rfl⟩) | (go_at_call 70; with_reducible refine (szero_any s1 _).mono ?_; rintro e w8 ⟨rfl, rfl⟩) | (go_at_call 71; have hT9 := HT.out _ ((Own.of hb1).next (below_alloc (Below.refl _ _) (.cells #[.int .i64 s1, .slice A1 k1 c1] 71))).below; with_reducible refine (given_ok _ (hN1.below (below_alloc (Below.refl _ _) _)) (by omega) hT9 HGX.out).mono ?_; rintro e w9 ⟨rfl, hb9⟩; refine Hid.out ?_))
              have HO8 := Lib.hid (((Own.of hb1).next (below_alloc (Below.refl _ _) (.cells #[.int .i64 s1, .slice A1 k1 c1] 71))).next hb9)
              have q0 := HO8.out.cell
              have f0 := HO8.out.frz
              clear hb9 hN1 hb1
              refine Lib.hid ?_
              go_wp2_with fail
              have hr := HR.out
              rw [HRT.out] at hr
              cases hr
              exact door_leave isDoor_Root _ (.int .i64 0) (.tuple #[.string _, .int .i64 0]) _ (World.cell?_setCell_same _ _ _ q0) (by simp [f0]) (fun W' h => by simp [results, Tryz.results36, go_sem, h])
                (fun W' h => ⟨rfl, (HO8.out.below.setCell (Nat.le_refl _) _).trans h⟩)
            · have hn11 : (N : Int) = 1 := by omega
              have HZ := Lib.hid hz
              clear hz hsm
              go_enter_defers Tryz.func36, Tryz.ntmps36
              go_wp2_with fail
              refine wp_scope_straight ?_
              go_wp2_with (first | (go_at_call 69; with_reducible refine (taken_ok s _ hs hok).mono ?_; rintro e w1 ⟨s1, A1, k1, c1, rfl, hN1, hb1⟩; have hk1 := hN1.k45 hok; rw [HX.out] at hN1; have hs1 : (s1 == -1) = false := root_pos hN1.sign (by omega); have hs0 : (s1 == 0) = false := (by rw [beq_eq_false_iff_ne, hN1.sign]; have := HZ.out; rcases sgn_cases (X : Int) with ⟨e1, h1⟩ | ⟨e1, h1⟩ | ⟨e1, h1⟩ <;> omega)) | (go_at_call 78; with_reducible refine (sneg_any s1 _).mono ?_; rintro e w7 ⟨rfl, rfl⟩) | (go_at_call 86; with_reducible refine (fail_f _ _ _ (by first | rfl | exact hs1)).mono ?_; rintro e w6 ⟨rfl, rfl⟩) | (go_at_call 70; with_reducible refine (szero_any s1 _).mono ?_; rintro e w8 ⟨rfl, rfl⟩) | (go_at_call 71; have hT9 := HT.out _ ((Own.of hb1).next (below_alloc (Below.refl _ _) (.cells #[.int .i64 s1, .slice A1 k1 c1] 71))).below; with_reducible refine (given_ok _ (hN1.below (below_alloc (Below.refl _ _) _)) (by omega) hT9 HGX.out).mono ?_; rintro e w9 ⟨rfl, hb9⟩; refine Hid.out ?_))
              have HO8 := Lib.hid (((Own.of hb1).next (below_alloc (Below.refl _ _) (.cells #[.int .i64 s1, .slice A1 k1 c1] 71))).next hb9)
              have q0 := HO8.out.cell
              have f0 := HO8.out.frz
              clear hb9 hN1 hb1
              refine Lib.hid ?_
              go_wp2_with fail
              have hr := HR.out
              rw [HRT.out] at hr
              cases hr
              exact door_leave isDoor_Root _ (.int .i64 0) (.tuple #[.string _, .int .i64 0]) _ (World.cell?_setCell_same _ _ _ q0) (by simp [f0]) (fun W' h => by simp [results, Tryz.results36, go_sem, h])
                (fun W' h => ⟨rfl, (HO8.out.below.setCell (Nat.le_refl _) _).trans h⟩)
          · have hx1 : 1 ≤ X ∧ 2 ≤ N := by have := HNB.out; omega
            obtain ⟨hL, hXL⟩ := root_len hok HX.out
            obtain ⟨E, hE⟩ : ∃ E, (s.size + N - 1) / N = E := ⟨_, rfl⟩
            obtain ⟨M, hNM⟩ : ∃ M, M + 1 = N := ⟨N - 1, by omega⟩
            have HNM := Lib.hid hNM
            have hEM := root_nums hL (by have := HNB.out; omega) hE
            have HGE : Hid (Mw.rt N X ≤ 10 ^ E) := Lib.hid (by rw [← hE]; exact Mw.guess_ge (by omega) hXL)
            have HE := Lib.hid hE
            have HEM := Lib.hid hEM
            have HX1 := Lib.hid hx1
            have HL := Lib.hid hL
            clear hsm hx1 hL hXL hE hEM hNM
            go_enter_defers Tryz.func36, Tryz.ntmps36
            go_wp2_with fail
            refine wp_scope_pass 0 (fun a W => ∃ bx bg, RootJ s N X E w bx bg a W) (fun a W => numIn W (ptrB (a.tmps[8]?.getD undef))) rfl ?_ ?_
            · rintro a W ⟨bx, bg, hsz, h0, h1, h4, h5, h6, h7, h8, hd, hO, hX, ⟨g, hG, hg1, hg2, hg3⟩, hlt⟩
              have HMU : Hid (numIn W (ptrB (a.tmps[8]?.getD undef)) = g) := Lib.hid (by rw [h8]; exact numIn_of hG)
              obtain ⟨u, hu, hT⟩ := arr78 a.tmps hsz
              have e0 : u 0 = .string s := by rw [hu, h0]; rfl
              have e1 : u 1 = .int .i64 (N : Int) := by rw [hu, h1]; rfl
              have e4 : u 4 = .string ⟨#[]⟩ := by rw [hu, h4]; rfl
              have e5 : u 5 = .pointer (some ⟨w.heap.size, 0, none⟩) := by rw [hu, h5]; rfl
              have e6 : u 6 = .pointer (some ⟨bx, 0, none⟩) := by rw [hu, h6]; rfl
              have e7 : u 7 = .func (.func 98) #[] #[] := by rw [hu, h7]; rfl
              have e8 : u 8 = .pointer (some ⟨bg, 0, none⟩) := by rw [hu, h8]; rfl
              rw [e0, e1, e4, e5, e6, e7, e8] at hT
              rw [HMU.out]
              clear hu e0 e1 e4 e5 e6 e7 e8 h0 h1 h4 h5 h6 h7 h8 hsz HMU
              obtain ⟨tm, df⟩ := a
              dsimp only at hT hd ⊢
              subst hT hd
              have hN := HNM.out
              obtain ⟨G, hGe⟩ : ∃ G, g ^ M = G := ⟨_, rfl⟩
              have hGl : G ≤ 10 ^ (E * M) := by rw [← hGe, Nat.pow_mul]; exact Nat.pow_le_pow_left hg2 M
              have hem := HEM.out
              have hem2 : E * M ≤ 419 := Nat.le_trans (Nat.mul_le_mul_left E (show M ≤ N by omega)) hem
              have hem3 : E ≤ 419 := Nat.le_trans (Nat.le_mul_of_pos_right E (show 0 < N by omega)) hem
              have HGL : Hid (Lt9 60 (G : Int)) := Lib.hid (pow_lt9 hem2 hGl)
              have Hgl : Hid (Lt9 60 (g : Int)) := Lib.hid (pow_lt9 hem3 hg2)
              have HGP : Hid (1 ≤ G) := Lib.hid (by rw [← hGe]; exact Nat.pow_pos hg1)
              have HGE2 := Lib.hid hGe
              have HO := Lib.hid hO
              have HBX := Lib.hid hX
              have HBG := Lib.hid hG
              have Hg1 := Lib.hid hg1
              have Hg2 := Lib.hid hg2
              have Hg3 := Lib.hid hg3
              have HLT := Lib.hid hlt
              clear hGl hem hem2 hem3 hGe hO hX hG hg1 hg2 hg3 hlt
              have hM1 : (N : Int) - 1 = (M : Int) := by omega
              have hw1 : IntKind.i64.wrap (M : Int) = (M : Int) := wrap_small _ (by omega) (by omega)
              have hltt := HLT.out
              have hns : ((M : Int) * (g : Int) + (X : Int).tdiv (G : Int)).tdiv (N : Int) = ((Mw.nstep N X g : Nat) : Int) := by
                unfold Mw.nstep
                rw [show N - 1 = M by omega, HGE2.out, show (X : Int).tdiv (G : Int) = ((X / G : Nat) : Int) from rfl, ← Int.natCast_mul, ← Int.natCast_add]
                rfl
              have HNS := Lib.hid hns
              clear hns
              go_wp2_with fail
              refine wp_region_ev1 [Ev.nv ((X : Int)), Ev.nv ((g : Int)), Ev.eq (.int .i64 (N : Int)), Ev.eq (.int .i64 (M : Int)), Ev.eq (.func (.func 98) #[] #[]), Ev.nv (G : Int), Ev.nt ((X : Int).tdiv (G : Int)) ((X : Int).tmod (G : Int)), Ev.nt ((X : Int).tdiv (G : Int)) ((X : Int).tmod (G : Int)), Ev.nv ((X : Int).tdiv (G : Int)), Ev.nv ((X : Int).tmod (G : Int)), Ev.pn (bg + 1), Ev.pn (bg + 1)] (fun i => i == 10 || i == 11) (bg + 1) 12 10 78 ((X : Int).tdiv (G : Int)) rfl rfl (fun W => Bn W bx ((X : Int)) ∧ Bn W bg ((g : Int)) ∧ Own w (.int .i64 0) W)
                (fun i _ ha => by rcases (show i = 10 ∨ i = 11 by simpa using ha) with rfl | rfl <;> rfl) rfl (by omega) (by decide +kernel) (by kernel_rfl) (by decide +kernel) ⟨HBX.out.call (below_drew (Below.refl _ _)), HBG.out.call (below_drew (Below.refl _ _)), HO.out.next (below_drew (Below.refl _ _))⟩ (fun W W' ⟨q0_, q1_, qo_⟩ hb_ => ⟨q0_.call hb_, q1_.call hb_, qo_.next hb_⟩) (fun W b_ s_ A_ k_ c_ ⟨q0_, q1_, qo_⟩ hlo_ hx_ hN_ => ⟨q0_.putB hx_ (by omega) _ _ _ _, q1_.putB hx_ (by omega) _ _ _ _, qo_.putN (by omega) _ _ _ _⟩) ?_ ?_ ?_
              · intro i hi_ o_ ho_ a_ W_ vs_ hBW_ hsl_ hpre_ K_ hK_
                obtain ⟨q0_, q1_, qo_⟩ := hBW_
                have e1 : a_.tmps[1]?.getD undef = .int .i64 (N : Int) := hsl_ 1 rfl
                have e6 : a_.tmps[6]?.getD undef = .pointer (some ⟨bx, 0, none⟩) := hsl_ 6 rfl
                have e7 : a_.tmps[7]?.getD undef = .func (.func 98) #[] #[] := hsl_ 7 rfl
                have e8 : a_.tmps[8]?.getD undef = .pointer (some ⟨bg, 0, none⟩) := hsl_ 8 rfl
                match i, hi_, ho_ with
                | 0, _, ho_ =>
                  cases ho_
                  obtain ⟨sx, Ax, kx, cx, hx⟩ := q0_
                  have x0 := hx.c0
                  have x1 := hx.c1
                  go_simp
                  exact hK_.out _ _ (Below.refl _ _) ⟨sx, Ax, kx, cx, rfl, hx.num⟩ (fun h => absurd h (by decide))
                | 1, _, ho_ =>
                  cases ho_
                  obtain ⟨sx, Ax, kx, cx, hx⟩ := q1_
                  have x0 := hx.c0
                  have x1 := hx.c1
                  go_simp
                  exact hK_.out _ _ (Below.refl _ _) ⟨sx, Ax, kx, cx, rfl, hx.num⟩ (fun h => absurd h (by decide))
                | 2, _, ho_ =>
                  cases ho_
                  go_simp
                  exact hK_.out _ _ (Below.refl _ _) rfl (fun h => absurd h (by decide))
                | 3, _, ho_ =>
                  cases ho_
                  obtain ⟨xx2, gx2⟩ := hpre_ 2 (by omega) (by decide +kernel)
                  have ex2 : a_.tmps[50]?.getD undef = (.int .i64 (N : Int)) := (gx2 50 rfl).trans xx2
                  go_simp
                  exact hK_.out _ _ (Below.refl _ _) rfl (fun h => absurd h (by decide))
                | 4, _, ho_ =>
                  cases ho_
                  go_simp
                  exact hK_.out _ _ (Below.refl _ _) rfl (fun h => absurd h (by decide))
                | 5, _, ho_ =>
                  cases ho_
                  obtain ⟨⟨sx0, Ax0, kx0, cx0, xx0, hx0⟩, gx0⟩ := hpre_ 1 (by omega) (by decide +kernel)
                  have ex0 : a_.tmps[49]?.getD undef = .agg #[.int .i64 sx0, .slice Ax0 kx0 cx0] := (gx0 49 rfl).trans xx0
                  obtain ⟨xx1, gx1⟩ := hpre_ 3 (by omega) (by decide +kernel)
                  have ex1 : a_.tmps[51]?.getD undef = (.int .i64 (M : Int)) := (gx1 51 rfl).trans xx1
                  obtain ⟨xx2, gx2⟩ := hpre_ 4 (by omega) (by decide +kernel)
                  have ex2 : a_.tmps[52]?.getD undef = (.func (.func 98) #[] #[]) := (gx2 52 rfl).trans xx2
                  have hTW := HT.out _ qo_.below
                  go_simp
                  refine (root_power _ M (by omega) hx0 G HGE2.out Hgl.out HGL.out hTW).mono ?_
                  rintro e_ w_ ⟨_, _, _, _, rfl, hN_, hb_⟩
                  try go_wp2_with fail
                  exact hK_.out _ _ hb_ ⟨_, _, _, _, rfl, hN_⟩ (fun h => absurd h (by decide))
                | 6, _, ho_ =>
                  cases ho_
                  obtain ⟨⟨sx0, Ax0, kx0, cx0, xx0, hx0⟩, gx0⟩ := hpre_ 0 (by omega) (by decide +kernel)
                  have ex0 : a_.tmps[48]?.getD undef = .agg #[.int .i64 sx0, .slice Ax0 kx0 cx0] := (gx0 48 rfl).trans xx0
                  obtain ⟨⟨sx1, Ax1, kx1, cx1, xx1, hx1⟩, gx1⟩ := hpre_ 5 (by omega) (by decide +kernel)
                  have ex1 : a_.tmps[53]?.getD undef = .agg #[.int .i64 sx1, .slice Ax1 kx1 cx1] := (gx1 53 rfl).trans xx1
                  have hkx0 := (gerr_lt9 HGX.out).kle hx0
                  have hkx1 := Lt9.kle HGL.out hx1
                  go_simp
                  refine (quo_any _ hx0 hx1 (by have := HGP.out; omega) (by omega) (by omega)).mono ?_
                  rintro e_ w_ ⟨_, _, _, _, _, _, _, _, rfl, hN_, hM_, hb_⟩
                  try go_wp2_with fail
                  exact hK_.out _ _ hb_ ⟨_, _, _, _, _, _, _, _, rfl, hN_, hM_⟩ (fun h => absurd h (by decide))
                | 7, _, ho_ =>
                  cases ho_
                  obtain ⟨⟨sx, Ax, kx, cx, sx', Ax', kx', cx', xx, hx, hx'⟩, gx⟩ := hpre_ 6 (by omega) (by decide +kernel)
                  have ex : a_.tmps[54]?.getD undef = .tuple #[.agg #[.int .i64 sx, .slice Ax kx cx], .agg #[.int .i64 sx', .slice Ax' kx' cx']] := (gx 54 rfl).trans xx
                  go_simp
                  exact hK_.out _ _ (Below.refl _ _) ⟨_, _, _, _, _, _, _, _, rfl, hx, hx'⟩ (fun h => absurd h (by decide))
                | 8, _, ho_ =>
                  cases ho_
                  obtain ⟨⟨sx, Ax, kx, cx, sx', Ax', kx', cx', xx, hx, hx'⟩, gx⟩ := hpre_ 7 (by omega) (by decide +kernel)
                  have ex : a_.tmps[47]?.getD undef = .tuple #[.agg #[.int .i64 sx, .slice Ax kx cx], .agg #[.int .i64 sx', .slice Ax' kx' cx']] := (gx 47 rfl).trans xx
                  go_simp
                  exact hK_.out _ _ (Below.refl _ _) ⟨_, _, _, _, rfl, hx⟩ (fun h => absurd h (by decide))
                | 9, _, ho_ =>
                  cases ho_
                  obtain ⟨⟨sx, Ax, kx, cx, sx', Ax', kx', cx', xx, hx, hx'⟩, gx⟩ := hpre_ 7 (by omega) (by decide +kernel)
                  have ex : a_.tmps[47]?.getD undef = .tuple #[.agg #[.int .i64 sx, .slice Ax kx cx], .agg #[.int .i64 sx', .slice Ax' kx' cx']] := (gx 47 rfl).trans xx
                  go_simp
                  exact hK_.out _ _ (Below.refl _ _) ⟨_, _, _, _, rfl, hx'⟩ (fun h => absurd h (by decide))
                | 10, _, ho_ =>
                  cases ho_
                  go_simp
                  exact hK_.out _ _ (below_alloc (Below.refl _ _) _) ⟨W_.heap.size, rfl, q1_.lt, Bx1.new _ _, Sz2.new _ _ _ _⟩ (fun _ => ⟨W_.heap.size, rfl, Nat.le_refl _⟩)
                | 11, _, ho_ =>
                  cases ho_
                  go_simp
                  exact hK_.out _ _ (below_alloc (Below.refl _ _) _) ⟨W_.heap.size, rfl, q1_.lt, Bx1.new _ _, Sz2.new _ _ _ _⟩ (fun _ => ⟨W_.heap.size, rfl, Nat.le_refl _⟩)
              · intro o_ ho_ a_ W_ vs_ hBW_ hpre_ K_ hK_
                cases ho_
                obtain ⟨⟨sx, Ax, kx, cx, xx, hx⟩, gx⟩ := hpre_ 8 (by omega) (by decide +kernel)
                have ex : a_.tmps[55]?.getD undef = .agg #[.int .i64 sx, .slice Ax kx cx] := (gx 55 rfl).trans xx
                obtain ⟨⟨b_, y_, hlo_, hbx_, hsz_⟩, gy_⟩ := hpre_ 10 (by omega) (by decide +kernel)
                have ey_ : a_.tmps[9]?.getD undef = .pointer (some ⟨b_, 0, none⟩) := (gy_ 9 rfl).trans y_
                have hbx2_ := hbx_
                obtain ⟨s9, A9, k9, c9, n9, h9⟩ := hbx_
                have z0 := h9.c0
                have z1 := h9.c1
                have z2 := h9.f0
                have z3 := h9.f1
                go_simp
                exact hK_.out undef b_ _ _ _ _ y_ hlo_ hbx2_ hsz_ hx
              · intro vs_ W_ hBW_ hf_ hst_ hne_
                obtain ⟨q0_, q1_, qo_⟩ := hBW_
                obtain ⟨bp_, ep_, hbn_⟩ := hst_
                obtain ⟨bp2_, ep2_, hlop_, _, _⟩ := hf_ 10 (by omega)
                obtain rfl : bp2_ = bp_ := by rw [ep_] at ep2_; simpa using ep2_.symm
                obtain ⟨bo_, eo_, hlo_, hxo_, _⟩ := hf_ 11 (by omega)
                have hpo_ : bp2_ ≠ bo_ := fun h => hne_ 10 11 (by omega) (by omega) (by omega) rfl rfl (by rw [ep_, eo_, h])
                obtain ⟨sl_, Al_, kl_, cl_, el_, hl_⟩ := hf_ 9 (by omega)
                have hxo2_ := hxo_
                obtain ⟨s9, A9, k9, c9, n9, h10⟩ := hxo2_
                have z0 := h10.c0
                have z1 := h10.c1
                have z2 := h10.f0
                have z3 := h10.f1
                simp only [putAll, dstAt, List.getElem?_toArray, List.getElem?_cons_zero, List.getElem?_cons_succ, Option.bind_some, Act.put, List.setIfInBounds_toArray, List.set_cons_zero, List.set_cons_succ, ep_, eo_, el_]
                have I0 := Lib.hid (q0_.putB hxo_ (by omega) sl_ Al_ kl_ cl_)
                have I1 := Lib.hid (q1_.putB hxo_ (by omega) sl_ Al_ kl_ cl_)
                have IO := Lib.hid (qo_.putN (b := bo_) (by omega) sl_ Al_ kl_ cl_)
                have IP := Lib.hid (hbn_.putB hxo_ hpo_ sl_ Al_ kl_ cl_)
                have IN := Lib.hid (Nb.putSameB hl_ hxo_).bn
                have IL := Lib.hid (show bg + 1 ≤ bo_ ∧ bg + 1 ≤ bp2_ ∧ bp2_ ≠ bo_ from ⟨hlo_, hlop_, hpo_⟩)
                clear q0_ q1_ qo_ hf_ hne_ hl_ hxo_ h10 el_ eo_ hlo_ ep_ hbn_ hlop_ hpo_
                go_wp2_with fail
                clear z0 z1 z2 z3
                obtain ⟨bq, hbq⟩ : ∃ b, b = bp2_ := ⟨_, rfl⟩
                subst hbq
                have hil := IL.out
                have HLQ : Hid (bg < bq ∧ bg < bo_) := Lib.hid (by omega)
                obtain ⟨bz, hbz⟩ : ∃ b, b = bo_ := ⟨_, rfl⟩
                subst hbz
                refine wp_world (fun W => Hid (Bn W bx (X : Int)) ∧ Hid (Bn W bg (g : Int)) ∧ Hid (Bn W bq ((X : Int).tdiv (G : Int))) ∧ Hid (Own w (.int .i64 0) W)) ⟨I0, I1, IP, IO⟩ ?_
                clear I0 I1 IP IO IL IN HO HBX HBG hil
                rintro W3 ⟨HX3, HG3, HQ3, HO3⟩
                have hlq := HLQ.out
                have hMS : Lt9 1 (M : Int) := Lt9.small (by omega)
                have hNS1 : Lt9 1 (N : Int) := Lt9.small (by omega)
                refine wp_region_ev1 [Ev.eq (.int .i64 (N : Int)), Ev.eq (.int .i64 (M : Int)), Ev.nv (M : Int), Ev.nv ((g : Int)), Ev.nw (M : Int) (g : Int), Ev.nv ((M : Int) * (g : Int)), Ev.nv ((X : Int).tdiv (G : Int)), Ev.nv ((M : Int) * (g : Int) + (X : Int).tdiv (G : Int)), Ev.eq (.int .i64 (N : Int)), Ev.nv (N : Int), Ev.nt (((M : Int) * (g : Int) + (X : Int).tdiv (G : Int)).tdiv (N : Int)) (((M : Int) * (g : Int) + (X : Int).tdiv (G : Int)).tmod (N : Int)), Ev.nt (((M : Int) * (g : Int) + (X : Int).tdiv (G : Int)).tdiv (N : Int)) (((M : Int) * (g : Int) + (X : Int).tdiv (G : Int)).tmod (N : Int)), Ev.nv (((M : Int) * (g : Int) + (X : Int).tdiv (G : Int)).tdiv (N : Int)), Ev.nv (((M : Int) * (g : Int) + (X : Int).tdiv (G : Int)).tmod (N : Int)), Ev.pn (bq + 1), Ev.pn (bq + 1)] (fun i => i == 14 || i == 15) (bq + 1) 16 14 78 (((M : Int) * (g : Int) + (X : Int).tdiv (G : Int)).tdiv (N : Int)) rfl rfl (fun W => Bn W bx ((X : Int)) ∧ Bn W bg ((g : Int)) ∧ Bn W bq ((X : Int).tdiv (G : Int)) ∧ Own w (.int .i64 0) W)
                  (fun i _ ha => by rcases (show i = 14 ∨ i = 15 by simpa using ha) with rfl | rfl <;> rfl) rfl (by omega) (by decide +kernel) (by kernel_rfl) (by decide +kernel) ⟨HX3.out.call (below_drew (Below.refl _ _)), HG3.out.call (below_drew (Below.refl _ _)), HQ3.out.call (below_drew (Below.refl _ _)), HO3.out.next (below_drew (Below.refl _ _))⟩ (fun W W' ⟨q0_, q1_, q2_, qo_⟩ hb_ => ⟨q0_.call hb_, q1_.call hb_, q2_.call hb_, qo_.next hb_⟩) (fun W b_ s_ A_ k_ c_ ⟨q0_, q1_, q2_, qo_⟩ hlo_ hx_ hN_ => ⟨q0_.putB hx_ (by omega) _ _ _ _, q1_.putB hx_ (by omega) _ _ _ _, q2_.putB hx_ (by omega) _ _ _ _, qo_.putN (by omega) _ _ _ _⟩) ?_ ?_ ?_
                · intro i hi_ o_ ho_ a_ W_ vs_ hBW_ hsl_ hpre_ K_ hK_
                  obtain ⟨q0_, q1_, q2_, qo_⟩ := hBW_
                  have e1 : a_.tmps[1]?.getD undef = .int .i64 (N : Int) := hsl_ 1 rfl
                  have e8 : a_.tmps[8]?.getD undef = .pointer (some ⟨bg, 0, none⟩) := hsl_ 8 rfl
                  have e9 : a_.tmps[9]?.getD undef = .pointer (some ⟨bq, 0, none⟩) := hsl_ 9 rfl
                  match i, hi_, ho_ with
                  | 0, _, ho_ =>
                    cases ho_
                    go_simp
                    exact hK_.out _ _ (Below.refl _ _) rfl (fun h => absurd h (by decide))
                  | 1, _, ho_ =>
                    cases ho_
                    obtain ⟨xx0, gx0⟩ := hpre_ 0 (by omega) (by decide +kernel)
                    have ex0 : a_.tmps[58]?.getD undef = (.int .i64 (N : Int)) := (gx0 58 rfl).trans xx0
                    go_simp
                    exact hK_.out _ _ (Below.refl _ _) rfl (fun h => absurd h (by decide))
                  | 2, _, ho_ =>
                    cases ho_
                    obtain ⟨xx0, gx0⟩ := hpre_ 1 (by omega) (by decide +kernel)
                    have ex0 : a_.tmps[59]?.getD undef = (.int .i64 (M : Int)) := (gx0 59 rfl).trans xx0
                    go_simp
                    refine (of_any (M : Int) _ (by omega) (by omega)).mono ?_
                    rintro e_ w_ ⟨_, _, _, _, rfl, hN_, hb_⟩
                    try go_wp2_with fail
                    exact hK_.out _ _ hb_ ⟨_, _, _, _, rfl, hN_⟩ (fun h => absurd h (by decide))
                  | 3, _, ho_ =>
                    cases ho_
                    obtain ⟨sx, Ax, kx, cx, hx⟩ := q1_
                    have x0 := hx.c0
                    have x1 := hx.c1
                    go_simp
                    exact hK_.out _ _ (Below.refl _ _) ⟨sx, Ax, kx, cx, rfl, hx.num⟩ (fun h => absurd h (by decide))
                  | 4, _, ho_ =>
                    cases ho_
                    obtain ⟨⟨sx0, Ax0, kx0, cx0, xx0, hx0⟩, gx0⟩ := hpre_ 2 (by omega) (by decide +kernel)
                    have ex0 : a_.tmps[60]?.getD undef = .agg #[.int .i64 sx0, .slice Ax0 kx0 cx0] := (gx0 60 rfl).trans xx0
                    obtain ⟨⟨sx1, Ax1, kx1, cx1, xx1, hx1⟩, gx1⟩ := hpre_ 3 (by omega) (by decide +kernel)
                    have ex1 : a_.tmps[61]?.getD undef = .agg #[.int .i64 sx1, .slice Ax1 kx1 cx1] := (gx1 61 rfl).trans xx1
                    go_simp
                    exact hK_.out _ _ (below_alloc (Below.refl _ _) _) ⟨_, _, _, _, _, _, _, _, _, rfl, Two.new hx0 hx1 _⟩ (fun h => absurd h (by decide))
                  | 5, _, ho_ =>
                    cases ho_
                    obtain ⟨⟨ggx0, sax0, Aax0, kax0, cax0, sbx0, Abx0, kbx0, cbx0, xx0, hx0⟩, gx0⟩ := hpre_ 4 (by omega) (by decide +kernel)
                    have ex0 : a_.tmps[62]?.getD undef = .slice (some ⟨ggx0, 0, none⟩) 2 2 := (gx0 62 rfl).trans xx0
                    have hka0 : kax0 ≤ 1 := hMS.kle hx0.num
                    have hkb0 : kbx0 ≤ 60 := Lt9.kle Hgl.out hx0.num'
                    go_simp
                    refine (product_any _ 2 _ hx0.num hx0.num' (by omega) (by omega) (by omega) hx0.c0 hx0.c1 hx0.c2 hx0.c3).mono ?_
                    rintro e_ w_ ⟨_, _, _, _, rfl, hN_, hb_⟩
                    try go_wp2_with fail
                    exact hK_.out _ _ hb_ ⟨_, _, _, _, rfl, hN_⟩ (fun h => absurd h (by decide))
                  | 6, _, ho_ =>
                    cases ho_
                    obtain ⟨sx, Ax, kx, cx, hx⟩ := q2_
                    have x0 := hx.c0
                    have x1 := hx.c1
                    go_simp
                    exact hK_.out _ _ (Below.refl _ _) ⟨sx, Ax, kx, cx, rfl, hx.num⟩ (fun h => absurd h (by decide))
                  | 7, _, ho_ =>
                    cases ho_
                    obtain ⟨⟨sx0, Ax0, kx0, cx0, xx0, hx0⟩, gx0⟩ := hpre_ 5 (by omega) (by decide +kernel)
                    have ex0 : a_.tmps[63]?.getD undef = .agg #[.int .i64 sx0, .slice Ax0 kx0 cx0] := (gx0 63 rfl).trans xx0
                    obtain ⟨⟨sx1, Ax1, kx1, cx1, xx1, hx1⟩, gx1⟩ := hpre_ 6 (by omega) (by decide +kernel)
                    have ex1 : a_.tmps[64]?.getD undef = .agg #[.int .i64 sx1, .slice Ax1 kx1 cx1] := (gx1 64 rfl).trans xx1
                    have hkx0 : kx0 ≤ 61 := (hMS.mul Hgl.out).kle hx0
                    have hkx1 : kx1 ≤ 45 := (Lt9.tdiv (y := (G : Int)) (gerr_lt9 HGX.out)).kle hx1
                    go_simp
                    refine (add_any _ hx0 hx1 (by omega) (by omega)).mono ?_
                    rintro e_ w_ ⟨_, _, _, _, rfl, hN_, hb_⟩
                    try go_wp2_with fail
                    exact hK_.out _ _ hb_ ⟨_, _, _, _, rfl, hN_⟩ (fun h => absurd h (by decide))
                  | 8, _, ho_ =>
                    cases ho_
                    go_simp
                    exact hK_.out _ _ (Below.refl _ _) rfl (fun h => absurd h (by decide))
                  | 9, _, ho_ =>
                    cases ho_
                    obtain ⟨xx0, gx0⟩ := hpre_ 8 (by omega) (by decide +kernel)
                    have ex0 : a_.tmps[66]?.getD undef = (.int .i64 (N : Int)) := (gx0 66 rfl).trans xx0
                    go_simp
                    refine (of_any (N : Int) _ (by omega) (by omega)).mono ?_
                    rintro e_ w_ ⟨_, _, _, _, rfl, hN_, hb_⟩
                    try go_wp2_with fail
                    exact hK_.out _ _ hb_ ⟨_, _, _, _, rfl, hN_⟩ (fun h => absurd h (by decide))
                  | 10, _, ho_ =>
                    cases ho_
                    obtain ⟨⟨sx0, Ax0, kx0, cx0, xx0, hx0⟩, gx0⟩ := hpre_ 7 (by omega) (by decide +kernel)
                    have ex0 : a_.tmps[65]?.getD undef = .agg #[.int .i64 sx0, .slice Ax0 kx0 cx0] := (gx0 65 rfl).trans xx0
                    obtain ⟨⟨sx1, Ax1, kx1, cx1, xx1, hx1⟩, gx1⟩ := hpre_ 9 (by omega) (by decide +kernel)
                    have ex1 : a_.tmps[67]?.getD undef = .agg #[.int .i64 sx1, .slice Ax1 kx1 cx1] := (gx1 67 rfl).trans xx1
                    have hkx0 : kx0 ≤ 62 := ((hMS.mul Hgl.out).add ((Lt9.tdiv (y := (G : Int)) (gerr_lt9 HGX.out)).up (by omega))).kle hx0
                    have hkx1 : kx1 ≤ 1 := hNS1.kle hx1
                    go_simp
                    refine (quo_any _ hx0 hx1 (by omega) (by omega) (by omega)).mono ?_
                    rintro e_ w_ ⟨_, _, _, _, _, _, _, _, rfl, hN_, hM_, hb_⟩
                    try go_wp2_with fail
                    exact hK_.out _ _ hb_ ⟨_, _, _, _, _, _, _, _, rfl, hN_, hM_⟩ (fun h => absurd h (by decide))
                  | 11, _, ho_ =>
                    cases ho_
                    obtain ⟨⟨sx, Ax, kx, cx, sx', Ax', kx', cx', xx, hx, hx'⟩, gx⟩ := hpre_ 10 (by omega) (by decide +kernel)
                    have ex : a_.tmps[68]?.getD undef = .tuple #[.agg #[.int .i64 sx, .slice Ax kx cx], .agg #[.int .i64 sx', .slice Ax' kx' cx']] := (gx 68 rfl).trans xx
                    go_simp
                    exact hK_.out _ _ (Below.refl _ _) ⟨_, _, _, _, _, _, _, _, rfl, hx, hx'⟩ (fun h => absurd h (by decide))
                  | 12, _, ho_ =>
                    cases ho_
                    obtain ⟨⟨sx, Ax, kx, cx, sx', Ax', kx', cx', xx, hx, hx'⟩, gx⟩ := hpre_ 11 (by omega) (by decide +kernel)
                    have ex : a_.tmps[57]?.getD undef = .tuple #[.agg #[.int .i64 sx, .slice Ax kx cx], .agg #[.int .i64 sx', .slice Ax' kx' cx']] := (gx 57 rfl).trans xx
                    go_simp
                    exact hK_.out _ _ (Below.refl _ _) ⟨_, _, _, _, rfl, hx⟩ (fun h => absurd h (by decide))
                  | 13, _, ho_ =>
                    cases ho_
                    obtain ⟨⟨sx, Ax, kx, cx, sx', Ax', kx', cx', xx, hx, hx'⟩, gx⟩ := hpre_ 11 (by omega) (by decide +kernel)
                    have ex : a_.tmps[57]?.getD undef = .tuple #[.agg #[.int .i64 sx, .slice Ax kx cx], .agg #[.int .i64 sx', .slice Ax' kx' cx']] := (gx 57 rfl).trans xx
                    go_simp
                    exact hK_.out _ _ (Below.refl _ _) ⟨_, _, _, _, rfl, hx'⟩ (fun h => absurd h (by decide))
                  | 14, _, ho_ =>
                    cases ho_
                    go_simp
                    exact hK_.out _ _ (below_alloc (Below.refl _ _) _) ⟨W_.heap.size, rfl, q2_.lt, Bx1.new _ _, Sz2.new _ _ _ _⟩ (fun _ => ⟨W_.heap.size, rfl, Nat.le_refl _⟩)
                  | 15, _, ho_ =>
                    cases ho_
                    go_simp
                    exact hK_.out _ _ (below_alloc (Below.refl _ _) _) ⟨W_.heap.size, rfl, q2_.lt, Bx1.new _ _, Sz2.new _ _ _ _⟩ (fun _ => ⟨W_.heap.size, rfl, Nat.le_refl _⟩)
                  | _ + 16, h_, _ => exact absurd h_ (by omega)
                · intro o_ ho_ a_ W_ vs_ hBW_ hpre_ K_ hK_
                  cases ho_
                  obtain ⟨⟨sx, Ax, kx, cx, xx, hx⟩, gx⟩ := hpre_ 12 (by omega) (by decide +kernel)
                  have ex : a_.tmps[69]?.getD undef = .agg #[.int .i64 sx, .slice Ax kx cx] := (gx 69 rfl).trans xx
                  obtain ⟨⟨b_, y_, hlo_, hbx_, hsz_⟩, gy_⟩ := hpre_ 14 (by omega) (by decide +kernel)
                  have ey_ : a_.tmps[11]?.getD undef = .pointer (some ⟨b_, 0, none⟩) := (gy_ 11 rfl).trans y_
                  have hbx2_ := hbx_
                  obtain ⟨s9, A9, k9, c9, n9, h9⟩ := hbx_
                  have z0 := h9.c0
                  have z1 := h9.c1
                  have z2 := h9.f0
                  have z3 := h9.f1
                  go_simp
                  exact hK_.out undef b_ _ _ _ _ y_ hlo_ hbx2_ hsz_ hx
                · intro vs_ W_ hBW_ hf_ hst_ hne_
                  obtain ⟨q0_, q1_, q2_, qo_⟩ := hBW_
                  obtain ⟨bp_, ep_, hbn_⟩ := hst_
                  obtain ⟨bp2_, ep2_, hlop_, _, _⟩ := hf_ 14 (by omega)
                  obtain rfl : bp2_ = bp_ := by rw [ep_] at ep2_; simpa using ep2_.symm
                  obtain ⟨bo_, eo_, hlo_, hxo_, _⟩ := hf_ 15 (by omega)
                  have hpo_ : bp2_ ≠ bo_ := fun h => hne_ 14 15 (by omega) (by omega) (by omega) rfl rfl (by rw [ep_, eo_, h])
                  obtain ⟨sl_, Al_, kl_, cl_, el_, hl_⟩ := hf_ 13 (by omega)
                  have hxo2_ := hxo_
                  obtain ⟨s9, A9, k9, c9, n9, h10⟩ := hxo2_
                  have z0 := h10.c0
                  have z1 := h10.c1
                  have z2 := h10.f0
                  have z3 := h10.f1
                  simp only [putAll, dstAt, List.getElem?_toArray, List.getElem?_cons_zero, List.getElem?_cons_succ, Option.bind_some, Act.put, List.setIfInBounds_toArray, List.set_cons_zero, List.set_cons_succ, ep_, eo_, el_]
                  have I0 := Lib.hid (q0_.putB hxo_ (by omega) sl_ Al_ kl_ cl_)
                  have I1 := Lib.hid (q1_.putB hxo_ (by omega) sl_ Al_ kl_ cl_)
                  have I2 := Lib.hid (q2_.putB hxo_ (by omega) sl_ Al_ kl_ cl_)
                  have IO := Lib.hid (qo_.putN (b := bo_) (by omega) sl_ Al_ kl_ cl_)
                  have IP := Lib.hid (hbn_.putB hxo_ hpo_ sl_ Al_ kl_ cl_)
                  have IN := Lib.hid (Nb.putSameB hl_ hxo_).bn
                  have IL := Lib.hid (show bq + 1 ≤ bo_ ∧ bq + 1 ≤ bp2_ ∧ bp2_ ≠ bo_ from ⟨hlo_, hlop_, hpo_⟩)
                  clear q0_ q1_ q2_ qo_ hf_ hne_ hl_ hxo_ h10 el_ eo_ hlo_ ep_ hbn_ hlop_ hpo_
                  rw [HNS.out] at IP
                  obtain ⟨sn, An, kn, cn, hn⟩ := IP.out
                  obtain ⟨sgb, Agb, kgb, cgb, hgb⟩ := I1.out
                  have n0 := hn.c0
                  have n1 := hn.c1
                  have g0 := hgb.c0
                  have g1 := hgb.c1
                  have hsz := size_any _ hn.num hgb.num
                  rw [Int.natAbs_natCast, Int.natAbs_natCast] at hsz
                  obtain ⟨cv, hcv⟩ : ∃ c, cmpI (Mw.nstep N X g : Nat) (g : Nat) = c := ⟨_, rfl⟩
                  rw [hcv] at hsz
                  have HCV := Lib.hid hcv
                  clear hcv
                  go_wp2_with (go_at_call 102; with_reducible refine hsz.mono ?_; rintro e w9 ⟨rfl, hb9⟩; refine Hid.out ?_)
                  clear z0 z1 z2 z3
                  have hn9 := hn.call hb9
                  have hg9 := hgb.call hb9
                  have HX9 := Lib.hid (I0.out.call hb9)
                  have HO9 := Lib.hid (IO.out.next hb9)
                  clear hn hgb I0 I1 I2 IP IN IO IL n0 n1 g0 g1 hb9
                  have n0 := hn9.c0
                  have n1 := hn9.c1
                  have g0 := hg9.c0
                  have g1 := hg9.c1
                  have g2 := hg9.f0
                  have g3 := hg9.f1
                  by_cases hcc : Mw.nstep N X g < g
                  · have hcv : cv < 0 := by have h := HCV.out; unfold cmpI at h; rw [if_pos (by omega)] at h; omega
                    have hN9 := Nb.putSame hn9.num hg9
                    have HX10 := Lib.hid (HX9.out.putB hg9.bx (by omega) sn An kn cn)
                    have HO10 := Lib.hid (HO9.out.putN (b := bg) (by omega) sn An kn cn)
                    refine Lib.hid ?_
                    go_wp2_with fail
                    go_step3
                    refine ⟨rfl, ⟨bx, bg, rfl, rfl, rfl, rfl, rfl, rfl, rfl, rfl, rfl, HO10.out, HX10.out, ⟨Mw.nstep N X g, hN9.bn, Mw.nstep_pos (by omega) HX1.out.1 Hg1.out, Nat.le_trans (Nat.le_of_lt hcc) Hg2.out, Mw.nstep_ge (by omega) Hg1.out⟩, HLT.out⟩, ?_⟩
                    show numIn _ bg < g
                    rw [numIn_of hN9.bn]
                    exact hcc
                  · have hcv : ¬ cv < 0 := by have h := HCV.out; unfold cmpI at h; rw [if_neg (by omega)] at h; split at h <;> omega
                    have hrt : Mw.rt N X = g := Mw.nstep_end (by omega) Hg1.out Hg3.out hcc
                    have hgX : g ≤ X := by rw [← hrt]; exact Nat.le_trans (Mw.self_le_pow (show N ≠ 0 by omega)) (Mw.rt_pow (by omega))
                    have hgok : Mw.gerr (g : Int) = 0 := gerr_mono (by rw [Int.natAbs_natCast, Int.natAbs_natCast]; exact hgX) HGX.out
                    have HRT := Lib.hid hrt
                    have hT9 := HT.out _ HO9.out.below
                    have hkg9 : kgb ≤ 60 := Lt9.kle Hgl.out hg9.num
                    clear hrt hgX hn9 n0 n1 g2 g3
                    refine Lib.hid ?_
                    go_wp2_with (first | (go_at_call 71; with_reducible refine (given_ok _ hg9.num (by omega) hT9 hgok).mono ?_; rintro e w10 ⟨rfl, hb10⟩; refine Hid.out ?_))
                    have HO8 := Lib.hid (HO9.out.next hb10)
                    have q0 := HO8.out.cell
                    have f0 := HO8.out.frz
                    clear hb10 hg9 g0 g1 hT9 hgok
                    refine Lib.hid ?_
                    go_wp2_with fail
                    have hr := HR.out
                    rw [HRT.out] at hr
                    cases hr
                    exact door_leave isDoor_Root _ (.int .i64 0) (.tuple #[.string _, .int .i64 0]) _ (World.cell?_setCell_same _ _ _ q0) (by simp [f0]) (fun W' h => by simp [results, Tryz.results36, go_sem, h])
                      (fun W' h => ⟨rfl, (HO8.out.below.setCell (Nat.le_refl _) _).trans h⟩)
            · intro hpass
              have HPASS := Lib.hid hpass
              clear hpass
              have hne1 : ((N : Int) == 1) = false := by rw [beq_eq_false_iff_ne]; have := HX1.out; omega
              go_wp2_with (first | (go_at_call 69; with_reducible refine (taken_ok s _ hs hok).mono ?_; rintro e w1 ⟨s1, A1, k1, c1, rfl, hN1, hb1⟩; have hk1 := hN1.k45 hok; rw [HX.out] at hN1; have hs1 : (s1 == -1) = false := root_pos hN1.sign (by omega); have hs0 : (s1 == 0) = false := (by rw [beq_eq_false_iff_ne, hN1.sign]; have := HX1.out; rcases sgn_cases (X : Int) with ⟨e1, h1⟩ | ⟨e1, h1⟩ | ⟨e1, h1⟩ <;> omega)) | (go_at_call 78; with_reducible refine (sneg_any s1 _).mono ?_; rintro e w7 ⟨rfl, rfl⟩) | (go_at_call 86; with_reducible refine (fail_f _ _ _ (by first | rfl | exact hs1)).mono ?_; rintro e w6 ⟨rfl, rfl⟩) | (go_at_call 70; with_reducible refine (szero_any s1 _).mono ?_; rintro e w8 ⟨rfl, rfl⟩))
              have hz0 : w.heap.size < w1.heap.size := (Own.of hb1).lt
              have HO2 := Lib.hid ((Own.of hb1).next (below_alloc (Below.refl _ _) (.cells #[.int .i64 s1, .slice A1 k1 c1] 71)))
              have HX2 := Lib.hid (Nb.new hN1 71).bn
              clear hb1 hN1 hs0 hs1 hne1 hk1
              refine Lib.hid ?_
              obtain ⟨bx, hbx⟩ : ∃ b, w1.heap.size = b := ⟨_, rfl⟩
              rw [hbx] at HX2 hz0 ⊢
              refine Hid.out ?_
              refine wp_world (fun W => Hid (Bn W bx (X : Int)) ∧ Hid (Own w (.int .i64 0) W)) ⟨HX2, HO2⟩ ?_
              clear hbx HX2 HO2
              rintro W3 ⟨HX3, HO3⟩
              have hL := HL.out
              have hN20 := HNB.out
              obtain ⟨q1, hq1⟩ : ∃ q : Int, (s.size : Int) + (N : Int) = q := ⟨_, rfl⟩
              obtain ⟨q2, hq2⟩ : ∃ q : Int, q1 - 1 = q := ⟨_, rfl⟩
              have hq3 : q2.tdiv (N : Int) = (E : Int) := by
                rw [show q2 = ((s.size + N - 1 : Nat) : Int) by omega, ← HE.out]; rfl
              have hE419 : E ≤ 419 := Nat.le_trans (Nat.le_mul_of_pos_right E (show 0 < N by omega)) HEM.out
              have hw1 : IntKind.i64.wrap q1 = q1 := wrap_small _ (by omega) (by omega)
              have hw2 : IntKind.i64.wrap q2 = q2 := wrap_small _ (by omega) (by omega)
              have hw3 : IntKind.i64.wrap (E : Int) = (E : Int) := wrap_small _ (by omega) (by omega)
              have hNz : ¬ (N = 0) := by omega
              refine wp_region_ev [Ev.nv (10), Ev.eq (.string s), Ev.eq (.int .i64 (s.size : Int)), Ev.eq (.int .i64 (N : Int)), Ev.eq (.int .i64 q1), Ev.eq (.int .i64 q2), Ev.eq (.int .i64 (N : Int)), Ev.eq (.int .i64 (E : Int)), Ev.eq (.func (.func 98) #[] #[]), Ev.nv (((10 ^ E : Nat) : Int)), Ev.pn (bx + 1)] (fun i => i == 10) (bx + 1) 11 78 rfl rfl (fun W => Bn W bx ((X : Int)) ∧ Own w (.int .i64 0) W)
                (fun i _ ha => by rcases (show i = 10 by simpa using ha) with rfl <;> rfl) (by kernel_rfl) (by decide +kernel) ⟨HX3.out.call (below_drew (Below.refl _ _)), HO3.out.next (below_drew (Below.refl _ _))⟩ (fun W W' ⟨q0_, qo_⟩ hb_ => ⟨q0_.call hb_, qo_.next hb_⟩) ?_ ?_
              · intro i hi_ o_ ho_ a_ W_ vs_ hBW_ hsl_ hpre_ K_ hK_
                obtain ⟨q0_, qo_⟩ := hBW_
                have e0 : a_.tmps[0]?.getD undef = .string s := hsl_ 0 rfl
                have e1 : a_.tmps[1]?.getD undef = .int .i64 (N : Int) := hsl_ 1 rfl
                have e7 : a_.tmps[7]?.getD undef = .func (.func 98) #[] #[] := hsl_ 7 rfl
                match i, hi_, ho_ with
                | 0, _, ho_ =>
                  cases ho_
                  go_simp
                  refine (of_any 10 _ (by omega) (by omega)).mono ?_
                  rintro e_ w_ ⟨_, _, _, _, rfl, hN_, hb_⟩
                  try go_wp2_with fail
                  exact hK_.out _ _ hb_ ⟨_, _, _, _, rfl, hN_⟩ (fun h => absurd h (by decide))
                | 1, _, ho_ =>
                  cases ho_
                  go_simp
                  exact hK_.out _ _ (Below.refl _ _) rfl (fun h => absurd h (by decide))
                | 2, _, ho_ =>
                  cases ho_
                  obtain ⟨xx1, gx1⟩ := hpre_ 1 (by decide +kernel)
                  have ex1 : a_.tmps[38]?.getD undef = (.string s) := (gx1 38 rfl).trans xx1
                  go_simp
                  exact hK_.out _ _ (Below.refl _ _) rfl (fun h => absurd h (by decide))
                | 3, _, ho_ =>
                  cases ho_
                  go_simp
                  exact hK_.out _ _ (Below.refl _ _) rfl (fun h => absurd h (by decide))
                | 4, _, ho_ =>
                  cases ho_
                  obtain ⟨xx2, gx2⟩ := hpre_ 2 (by decide +kernel)
                  have ex2 : a_.tmps[39]?.getD undef = (.int .i64 (s.size : Int)) := (gx2 39 rfl).trans xx2
                  obtain ⟨xx3, gx3⟩ := hpre_ 3 (by decide +kernel)
                  have ex3 : a_.tmps[40]?.getD undef = (.int .i64 (N : Int)) := (gx3 40 rfl).trans xx3
                  go_simp
                  exact hK_.out _ _ (Below.refl _ _) rfl (fun h => absurd h (by decide))
                | 5, _, ho_ =>
                  cases ho_
                  obtain ⟨xx4, gx4⟩ := hpre_ 4 (by decide +kernel)
                  have ex4 : a_.tmps[41]?.getD undef = (.int .i64 q1) := (gx4 41 rfl).trans xx4
                  go_simp
                  exact hK_.out _ _ (Below.refl _ _) rfl (fun h => absurd h (by decide))
                | 6, _, ho_ =>
                  cases ho_
                  go_simp
                  exact hK_.out _ _ (Below.refl _ _) rfl (fun h => absurd h (by decide))
                | 7, _, ho_ =>
                  cases ho_
                  obtain ⟨xx5, gx5⟩ := hpre_ 5 (by decide +kernel)
                  have ex5 : a_.tmps[42]?.getD undef = (.int .i64 q2) := (gx5 42 rfl).trans xx5
                  obtain ⟨xx6, gx6⟩ := hpre_ 6 (by decide +kernel)
                  have ex6 : a_.tmps[43]?.getD undef = (.int .i64 (N : Int)) := (gx6 43 rfl).trans xx6
                  go_simp
                  exact hK_.out _ _ (Below.refl _ _) rfl (fun h => absurd h (by decide))
                | 8, _, ho_ =>
                  cases ho_
                  go_simp
                  exact hK_.out _ _ (Below.refl _ _) rfl (fun h => absurd h (by decide))
                | 9, _, ho_ =>
                  cases ho_
                  obtain ⟨⟨sx0, Ax0, kx0, cx0, xx0, hx0⟩, gx0⟩ := hpre_ 0 (by decide +kernel)
                  have ex0 : a_.tmps[37]?.getD undef = .agg #[.int .i64 sx0, .slice Ax0 kx0 cx0] := (gx0 37 rfl).trans xx0
                  obtain ⟨xx1, gx1⟩ := hpre_ 7 (by decide +kernel)
                  have ex1 : a_.tmps[44]?.getD undef = (.int .i64 (E : Int)) := (gx1 44 rfl).trans xx1
                  obtain ⟨xx2, gx2⟩ := hpre_ 8 (by decide +kernel)
                  have ex2 : a_.tmps[45]?.getD undef = (.func (.func 98) #[] #[]) := (gx2 45 rfl).trans xx2
                  have hTW := HT.out _ qo_.below
                  go_simp
                  refine (root_power (g := 10) _ E (by omega) hx0 (10 ^ E) rfl ((Lt9.small (by decide)).up (by omega)) (pow_lt9 hE419 (Nat.le_refl _)) hTW).mono ?_
                  rintro e_ w_ ⟨_, _, _, _, rfl, hN_, hb_⟩
                  try go_wp2_with fail
                  exact hK_.out _ _ hb_ ⟨_, _, _, _, rfl, hN_⟩ (fun h => absurd h (by decide))
                | 10, _, ho_ =>
                  cases ho_
                  go_simp
                  exact hK_.out _ _ (below_alloc (Below.refl _ _) _) ⟨W_.heap.size, rfl, q0_.lt, Bx1.new _ _, Sz2.new _ _ _ _⟩ (fun _ => ⟨W_.heap.size, rfl, Nat.le_refl _⟩)
              · intro vs_ W_ hBW_ hf_ hne_
                obtain ⟨q0_, qo_⟩ := hBW_
                obtain ⟨bo_, eo_, hlo_, hxo_, _⟩ := hf_ 10 (by omega)
                obtain ⟨sl_, Al_, kl_, cl_, el_, hl_⟩ := hf_ 9 (by omega)
                have hxo2_ := hxo_
                obtain ⟨s9, A9, k9, c9, n9, h10⟩ := hxo2_
                have z0 := h10.c0
                have z1 := h10.c1
                have z2 := h10.f0
                have z3 := h10.f1
                simp only [putAll, dstAt, List.getElem?_toArray, List.getElem?_cons_zero, List.getElem?_cons_succ, Option.bind_some, Act.put, List.setIfInBounds_toArray, List.set_cons_zero, List.set_cons_succ, eo_, el_]
                have I0 := Lib.hid (q0_.putB hxo_ (by omega) sl_ Al_ kl_ cl_)
                have IO := Lib.hid (qo_.putN (b := bo_) (by omega) sl_ Al_ kl_ cl_)
                have IN := Lib.hid (Nb.putSameB hl_ hxo_).bn
                have IL := Lib.hid (show bx + 1 ≤ bo_ from hlo_)
                clear q0_ qo_ hf_ hne_ hl_ hxo_ h10 el_ eo_ hlo_
                go_wp2_with fail
                clear z0 z1 z2 z3
                have hil := IL.out
                refine wp_label ?_
                rename ∀ (a : Act) (w : World), Code.wp _ _ _ a w → _ => hKK
                refine hKK _ _ (HPASS.out _ _ ⟨bx, bo_, rfl, rfl, rfl, rfl, rfl, rfl, rfl, rfl, rfl, IO.out, I0.out, ⟨10 ^ E, IN.out, Nat.pow_pos (by omega), Nat.le_refl _, HGE.out⟩, ⟨hz0, by omega⟩⟩)
  · rw [Mw.wroot, if_neg hok] at hr
    cases hr
    go_enter_defers Tryz.func36, Tryz.ntmps36
    go_wp2_with fail
    refine wp_scope_straight ?_
    go_wp2_with (first | (go_at_call 69; with_reducible refine (taken_bad s _ hok).mono ?_; rintro e w1 ⟨rfl, hb1⟩; obtain ⟨q0, f0, z0, hB⟩ := own_cell hb1))
    exact door_caught isDoor_Root _ (.int .i64 0) (.tuple #[.string ⟨#[]⟩, .int .i64 (Mw.terr s.data.toList)]) _ _ (HG.out.below hB) z0 q0 f0 (fun W' h => by simp [results, Tryz.results36, go_sem, h])
      (fun W' h => ⟨rfl, hB.trans h⟩)
end Go.Proofs.YtjieekkkaekclaaGreatDoor
