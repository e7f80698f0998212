/- Lemmas for the claim beside this text. -/
import Derived.Test.YtjieekkkaekclaaGreatDoorZAP
import Derived.Test.YtjieekkkaekclaaGreatDoorZAQ
import Derived.Test.YtjieekkkaekclaaGreatDoorZAS
import Derived.Test.YtjieekkkaekclaaGreatDoorZAT
set_option linter.all false
set_option linter.unusedVariables false
set_option linter.unusedSimpArgs false
namespace Go.Proofs.YtjieekkkaekclaaGreatDoor
open Go
def Mw.fs (d n : Nat) : List Nat := if h : d < 2 ∨ n < d then [] else if n % d = 0 then d :: Mw.fs d (n / d) else Mw.fs (d + 1) n
termination_by n + (n - d)
decreasing_by
  · have h1 : n / d < n := Nat.div_lt_self (by omega) (by omega)
    omega
  · rename_i h2
    have : d ≠ n := fun e => h2 (by rw [e]; exact Nat.mod_self n)
    omega
theorem Mw.fs_nil {d n : Nat} (h : n < d) : Mw.fs d n = [] := by rw [Mw.fs, dif_pos (.inr h)]
theorem Mw.fs_div {d n : Nat} (h2 : 2 ≤ d) (hn : 0 < n) (h : n % d = 0) : Mw.fs d n = d :: Mw.fs d (n / d) := by
  have : d ≤ n := Nat.le_of_dvd hn (Nat.dvd_of_mod_eq_zero h)
  rw [Mw.fs, dif_neg (by omega), if_pos h]
theorem Mw.fs_next {d n : Nat} (h2 : 2 ≤ d) (h : n % d ≠ 0) : Mw.fs d n = Mw.fs (d + 1) n := by
  by_cases hd : n < d
  · rw [Mw.fs_nil hd, Mw.fs_nil (by omega)]
  · rw [Mw.fs, dif_neg (by omega), if_neg h]
theorem Mw.fs_last {n : Nat} (hn : 1 < n) : ∀ (f p : Nat), n + 1 - p = f → 2 ≤ p → n < p * p → (∀ d, 2 ≤ d → d < p → n % d ≠ 0) → Mw.fs p n = [n] := by
  intro f
  induction f with
  | zero =>
    intro p hf h2 _ hno
    exact absurd (Nat.mod_self n) (hno n (by omega) (by omega))
  | succ f ih =>
    intro p hf h2 hpp hno
    by_cases h : n % p = 0
    · obtain ⟨q, rfl⟩ := Nat.dvd_of_mod_eq_zero h
      have hq : q < p := Nat.lt_of_mul_lt_mul_left (a := p) hpp
      have hq0 : 0 < q := Nat.pos_of_ne_zero (fun h0 => by subst h0; simp at hn)
      have hq1 : q = 1 := by
        rcases Nat.lt_or_ge q 2 with h1 | h1
        · omega
        · exact absurd (by simp) (hno q h1 hq)
      subst hq1
      rw [Nat.mul_one] at *
      rw [Mw.fs_div h2 (by omega) (Nat.mod_self p), Nat.div_self (by omega), Mw.fs_nil (by omega)]
    · rw [Mw.fs_next h2 h]
      refine ih (p + 1) (by omega) (by omega) ?_ ?_
      · exact Nat.lt_of_lt_of_le hpp (Nat.mul_le_mul (by omega) (by omega))
      · intro d hd hdp
        rcases Nat.lt_or_ge d p with h3 | h3
        · exact hno d hd h3
        · obtain rfl : d = p := by omega
          exact h
theorem Mw.fs_end {n p : Nat} (hn : 0 < n) (h2 : 2 ≤ p) (hpp : n < p * p) (hno : ∀ d, 2 ≤ d → d < p → n % d ≠ 0) : Mw.fs p n = if 1 < n then [n] else [] := by
  by_cases h : 1 < n
  · rw [if_pos h]; exact Mw.fs_last h _ p rfl h2 hpp hno
  · rw [if_neg h]; exact Mw.fs_nil (by omega)
theorem Mw.nodiv_div {n p : Nat} (hno : ∀ d, 2 ≤ d → d < p → n % d ≠ 0) (h : n % p = 0) : ∀ d, 2 ≤ d → d < p → n / p % d ≠ 0 := by
  intro d h2 hd h0
  obtain ⟨q, rfl⟩ := Nat.dvd_of_mod_eq_zero h
  have hp : 0 < p := by omega
  rw [Nat.mul_div_cancel_left _ hp] at h0
  exact hno d h2 hd (Nat.mod_eq_zero_of_dvd (Nat.dvd_trans (Nat.dvd_of_mod_eq_zero h0) (Nat.dvd_mul_left _ _)))
end Go.Proofs.YtjieekkkaekclaaGreatDoor
namespace Go.Proofs.YtjieekkkaekclaaGreatDoor
open Go Go.RowKit Go.Proofs.YtjieekkkaekclaaGreatDoorW.PrintWords
def Mw.factor (a : List UInt8) : List (List UInt8) × Int :=
  if Mw.terr a = 0 then (if Mw.ival a < 1 then ([], 2) else if 1000000 < Mw.ival a then ([], 13) else ((Mw.fs 2 (Mw.ival a).toNat).map Mw.dtxt, 0)) else ([], Mw.terr a)
def bts (l : List (List UInt8)) : List ByteArray := l.map fun x => ⟨x.toArray⟩
theorem info_str : (Tryz.prog.info? 9).map (fun i => (i.zero, i.size, i.bytes)) = some (some (.string ⟨#[]⟩), 1, 16) := by kernel_rfl
theorem bts_snoc (l : List Nat) (d : Nat) : bts ((l ++ [d]).map Mw.dtxt) = bts (l.map Mw.dtxt) ++ [⟨(Mw.dtxt d).toArray⟩] := by simp [bts]
theorem bts_len (l : List Nat) : (bts (l.map Mw.dtxt)).length = l.length := by simp [bts]
theorem gerr_nat {d : Nat} (h : d < 10 ^ 9) : Mw.gerr (d : Int) = 0 := by
  rw [Mw.gerr, if_neg]
  have := (Mw.dtxt_len_le d 9 (by omega)).mpr (by omega)
  simp only [Int.natAbs_natCast]; omega
theorem itxt_nat (d : Nat) : Mw.itxt (d : Int) = Mw.dtxt d := by rw [Mw.itxt_nonneg (by omega), Int.natAbs_natCast]
theorem given_nat {s : Int} {A : Option Addr} {k c m : Nat} (w : World) (H : NumAt w s A k c (m : Int)) (hm : m ≤ 1000000) (ht : Tab w) :
    Calls Tryz.prog 71 #[.agg #[.int .i64 s, .slice A k c]] w fun e w' => e = .returned (.string ⟨(Mw.dtxt m).toArray⟩) ∧ Below w.heap.size w w' := by
  rw [← itxt_nat]
  exact given_ok w H (by have := H.len_le (N := 1000000) (K := 1) (by decide) (by rw [Int.natAbs_natCast]; exact hm); omega) ht (gerr_nat (by omega))
theorem R_free {α : Type} {d : Kd α} {e : Nat} {w : World} {base : Nat} {ok : Nat → Prop} {v : Value} {xs : List α} (h : d.R e w base ok v xs) : d.R e w base (fun _ => True) v xs := by
  obtain ⟨h0, inner, ho, hr⟩ := h
  exact ⟨fun _ _ => trivial, inner, ho, hr.imp_ (fun _ _ hp => d.M_mono (fun k hk => ⟨trivial, hk.2⟩) hp)⟩
theorem R_cell {α : Type} {d : Kd α} {e : Nat} {w : World} {B : Nat} {v : Value} {xs : List α} (h : d.R e w (B + 1) (fun k => B + 1 ≤ k) v xs) (x : Value) : d.R e (w.setCell ⟨B, 0, none⟩ x) (B + 1) (fun k => B + 1 ≤ k) v xs :=
  Kd.R_move h (fun k hk => Below.heap_setCell _ _ _ _ (by simp; omega))
set_option maxRecDepth 100000 in
set_option maxHeartbeats 3200000 in
theorem factor_any (s : ByteArray) (w : World) (hs : s.size ≤ 100000) (hg : Ety w) (htab : Tab w) :
    Calls Tryz.prog 26 #[.string s] w fun e w' => ∃ v : Value, e = .returned (.tuple #[v, .int .i64 (Mw.factor s.data.toList).2]) ∧ Kd.R Kd.string 9 w' w.heap.size (fun _ => True) v (bts (Mw.factor s.data.toList).1) ∧ Below w.heap.size w w' := by
  have hmf : ∀ (fn : Fn) (first cap : Array Value) (w : World), (Instr.makeFunc fn first cap).run Tryz.prog w = .ok (.func fn first cap) w := fun _ _ _ _ => rfl
  have HG := Lib.hid hg
  have HT := Lib.hid (Lib.tabBelow_of_tabIs htab)
  clear hg htab
  obtain ⟨⟨rs, er⟩, hr⟩ : ∃ x, Mw.factor s.data.toList = x := ⟨_, rfl⟩
  rw [hr]
  dsimp only
  have hnil : ∀ W, Kd.R Kd.string 9 W w.heap.size (fun _ => True) (.slice none 0 0) (bts []) := fun W => Kd.R_nil _ _ _ _ _
  by_cases hok : Mw.terr s.data.toList = 0
  · rw [Mw.factor, if_pos hok] at hr
    obtain ⟨n, hn⟩ : ∃ n, Mw.ival s.data.toList = n := ⟨_, rfl⟩
    rw [hn] at hr
    by_cases h1 : n < 1
    · rw [if_pos h1] at hr
      cases hr
      have HN := Lib.hid hn
      clear hn
      go_enter_defers Tryz.func26, Tryz.ntmps26
      go_wp2_with (first | (go_at_call 69; with_reducible refine (taken_ok s _ hs hok).mono ?_; rintro e w1 ⟨s1, A1, k1, c1, rfl, hN1, hb1⟩; rw [HN.out] at hN1; have hs1 : -1 ≤ s1 ∧ s1 < 1 := by (rw [hN1.sign]; rcases sgn_cases n with ⟨e1, h1⟩ | ⟨e1, h1⟩ | ⟨e1, h1⟩ <;> omega)) | (go_at_call 74; with_reducible refine (ssign_any s1 _ (by omega)).mono ?_; rintro e w5 ⟨rfl, hw5⟩) | (go_at_call 86; with_reducible refine (fail_t _ _ _ (by first | rfl | exact decide_eq_true hs1.2)).mono ?_; rintro e w6 ⟨rfl, hw6⟩))
      have HO3 := (Own.of hb1).next (below_alloc (Below.refl _ _) (.cells #[.int .i64 s1, .slice A1 k1 c1] 71))
      exact door_caught isDoor_Factor _ (.int .i64 0) (.tuple #[.slice none 0 0, .int .i64 2]) _ _ (HG.out.below HO3.below) HO3.lt HO3.cell HO3.frz (fun W' h => by simp [results, Tryz.results26, go_sem, h])
        (fun W' h => ⟨_, rfl, hnil W', HO3.below.trans h⟩)
    · rw [if_neg h1] at hr
      have HN := Lib.hid hn
      have H1 := Lib.hid h1
      clear hn
      by_cases hbig : 1000000 < n
      · rw [if_pos hbig] at hr
        cases hr
        by_cases h9 : n < 1000000000
        · have hbig' : decide ((1000000 : Int) < n) = true := decide_eq_true hbig
          go_enter_defers Tryz.func26, Tryz.ntmps26
          go_wp2_with (first | (go_at_call 69; with_reducible refine (taken_ok s _ hs hok).mono ?_; rintro e w1 ⟨s1, A1, k1, c1, rfl, hN1, hb1⟩; rw [HN.out] at hN1; have hs1 : -1 ≤ s1 ∧ s1 ≤ 1 ∧ ¬ s1 < 1 := by (rw [hN1.sign]; rcases sgn_cases n with ⟨e1, h1⟩ | ⟨e1, h1⟩ | ⟨e1, h1⟩ <;> omega)) | (go_at_call 74; with_reducible refine (ssign_any s1 _ (by omega)).mono ?_; rintro e w5 ⟨rfl, rfl⟩) | (go_at_call 86; with_reducible refine (fail_f _ _ _ (by first | rfl | exact decide_eq_false (by omega))).mono ?_; rintro e w6 ⟨rfl, rfl⟩) | (go_at_call 87; with_reducible refine (small_yes _ (hN1.below (below_alloc (Below.refl _ _) _)) (by omega)).mono ?_; rintro e w7 ⟨rfl, hb7⟩) | (go_at_call 86; with_reducible refine (fail_t _ _ _ (by first | rfl | exact hbig')).mono ?_; rintro e w8 ⟨rfl, rfl⟩))
          have HO3 := ((Own.of hb1).next (below_alloc (Below.refl _ _) (.cells #[.int .i64 s1, .slice A1 k1 c1] 71))).next hb7
          exact door_caught isDoor_Factor _ (.int .i64 0) (.tuple #[.slice none 0 0, .int .i64 13]) _ _ (HG.out.below HO3.below) HO3.lt HO3.cell HO3.frz (fun W' h => by simp [results, Tryz.results26, go_sem, h])
            (fun W' h => ⟨_, rfl, hnil W', HO3.below.trans h⟩)
        · go_enter_defers Tryz.func26, Tryz.ntmps26
          go_wp2_with (first | (go_at_call 69; with_reducible refine (taken_ok s _ hs hok).mono ?_; rintro e w1 ⟨s1, A1, k1, c1, rfl, hN1, hb1⟩; rw [HN.out] at hN1; have hs1 : -1 ≤ s1 ∧ s1 ≤ 1 ∧ ¬ s1 < 1 := by (rw [hN1.sign]; rcases sgn_cases n with ⟨e1, h1⟩ | ⟨e1, h1⟩ | ⟨e1, h1⟩ <;> omega)) | (go_at_call 74; with_reducible refine (ssign_any s1 _ (by omega)).mono ?_; rintro e w5 ⟨rfl, rfl⟩) | (go_at_call 86; with_reducible refine (fail_f _ _ _ (by first | rfl | exact decide_eq_false (by omega))).mono ?_; rintro e w6 ⟨rfl, rfl⟩) | (go_at_call 87; with_reducible refine (small_no _ (hN1.below (below_alloc (Below.refl _ _) _)) (by omega)).mono ?_; rintro e w7 ⟨rfl, hb7⟩) | (go_at_call 86; with_reducible refine (fail_t _ _ _ (by first | rfl | exact hbig')).mono ?_; rintro e w8 ⟨rfl, rfl⟩))
          have HO3 := ((Own.of hb1).next (below_alloc (Below.refl _ _) (.cells #[.int .i64 s1, .slice A1 k1 c1] 71))).next hb7
          exact door_caught isDoor_Factor _ (.int .i64 0) (.tuple #[.slice none 0 0, .int .i64 13]) _ _ (HG.out.below HO3.below) HO3.lt HO3.cell HO3.frz (fun W' h => by simp [results, Tryz.results26, go_sem, h])
            (fun W' h => ⟨_, rfl, hnil W', HO3.below.trans h⟩)
      · rw [if_neg hbig] at hr
        obtain ⟨N, hN⟩ : ∃ N : Nat, n = (N : Int) := ⟨n.toNat, by omega⟩
        have hbig' : decide ((1000000 : Int) < n) = false := decide_eq_false hbig
        have hsm : n.natAbs < 1000000000 := by omega
        have HNN := Lib.hid hN
        clear hN hbig h1
        go_enter_defers Tryz.func26, Tryz.ntmps26
        go_wp2_with (first | (go_at_call 69; with_reducible refine (taken_ok s _ hs hok).mono ?_; rintro e w1 ⟨s1, A1, k1, c1, rfl, hN1, hb1⟩; rw [HN.out] at hN1; have hs1 : -1 ≤ s1 ∧ s1 ≤ 1 ∧ ¬ s1 < 1 := by (have := H1.out; rw [hN1.sign]; rcases sgn_cases n with ⟨e1, h1⟩ | ⟨e1, h1⟩ | ⟨e1, h1⟩ <;> omega)) | (go_at_call 74; with_reducible refine (ssign_any s1 _ (by omega)).mono ?_; rintro e w5 ⟨rfl, rfl⟩) | (go_at_call 86; with_reducible refine (fail_f _ _ _ (by first | rfl | exact decide_eq_false (by omega))).mono ?_; rintro e w6 ⟨rfl, rfl⟩) | (go_at_call 87; with_reducible refine (small_yes _ (hN1.below (below_alloc (Below.refl _ _) _)) hsm).mono ?_; rintro e w7 ⟨rfl, hb7⟩) | (go_at_call 86; with_reducible refine (fail_f _ _ _ (by first | rfl | exact hbig')).mono ?_; rintro e w8 ⟨rfl, rfl⟩))
        have HO := Lib.hid (((Own.of hb1).next (below_alloc (Below.refl _ _) (.cells #[.int .i64 s1, .slice A1 k1 c1] 71))).next hb7)
        have HR := Lib.hid hr
        have HNB : Hid (1 ≤ N ∧ N ≤ 1000000) := Lib.hid (by have := H1.out; have := HNN.out; have := of_decide_eq_false hbig'; omega)
        have hNn := HNN.out
        subst hNn
        clear hN1 hb1 hb7 hbig' hsm hs1 hr HNN H1
        go_loopw [2, 5, 7] (fun v2 v5 v7 wr => ∃ (l : List Nat) (m p : Nat), v5 = .int .i64 m ∧ v7 = .int .i64 p ∧ Hid (Kd.R Kd.string 9 wr (w.heap.size + 1) (fun k => w.heap.size + 1 ≤ k) v2 (bts (l.map Mw.dtxt))) ∧ Hid (l ++ Mw.fs p m = Mw.fs 2 N) ∧ Hid (2 ≤ p ∧ 1 ≤ m ∧ l.length + m ≤ 1000000 ∧ p ≤ 1001) ∧ Hid (∀ d, 2 ≤ d → d < p → m % d ≠ 0) ∧ Hid (Own w (.int .i64 0) wr)) (fun _ _ v7 _ => 1001 - (intOf v7).toNat)
        case atStart => exact ⟨[], N, 2, rfl, rfl, Lib.hid (Kd.R_nil _ _ _ _ _), Lib.hid rfl, Lib.hid (by have := HNB.out; simp; omega), Lib.hid (by intro d h2 h3; omega), HO⟩
        case round =>
          obtain ⟨l, m, p, rfl, rfl, HRW, HFS, HBD, HND, HO2⟩ := hrel
          have hbd := HBD.out
          have hp1 : 2 ≤ p := hbd.1
          have hp2 : p ≤ 1001 := hbd.2.2.2
          have hm1 : m ≤ 1000000 := by omega
          obtain ⟨q, hq⟩ : ∃ q : Nat, p * p = q := ⟨_, rfl⟩
          have hq2 : q ≤ 1002001 := by rw [← hq]; exact Nat.mul_le_mul hp2 hp2
          have hqi : (p : Int) * (p : Int) = (q : Int) := by rw [← hq]; simp
          have HQ := Lib.hid hq
          clear hbd hq
          by_cases hle : q ≤ m
          · have hle' : (q : Int) ≤ (m : Int) := by omega
            have hp3 : p ≤ 1000 := by
              rcases Nat.lt_or_ge p 1001 with h | h
              · omega
              · have h9 := Nat.mul_le_mul h h
                rw [HQ.out] at h9; omega
            go_wp2_with fail
            go_loopw [2, 5] (fun v2 v5 wr => ∃ (l : List Nat) (m : Nat), v5 = .int .i64 m ∧ Hid (Kd.R Kd.string 9 wr (w.heap.size + 1) (fun k => w.heap.size + 1 ≤ k) v2 (bts (l.map Mw.dtxt))) ∧ Hid (l ++ Mw.fs p m = Mw.fs 2 N) ∧ Hid (1 ≤ m ∧ l.length + m ≤ 1000000) ∧ Hid (∀ d, 2 ≤ d → d < p → m % d ≠ 0) ∧ Hid (Own w (.int .i64 0) wr)) (fun _ v5 _ => (intOf v5).toNat)
            case atStart => exact ⟨l, m, rfl, HRW, HFS, Lib.hid (by have := HBD.out; omega), HND, HO2⟩
            case round =>
              obtain ⟨l2, m2, rfl, HRW3, HFS3, HBD3, HND3, HO3⟩ := hrel
              clear HRW HFS HBD HND HO2 hle hle' hm1
              have hbd := HBD3.out
              have hm1 : m2 ≤ 1000000 := by omega
              have hm0 : 1 ≤ m2 := hbd.1
              obtain ⟨rm, hrm⟩ : ∃ x, m2 % p = x := ⟨_, rfl⟩
              obtain ⟨qt, hqt⟩ : ∃ x, m2 / p = x := ⟨_, rfl⟩
              have hrl : rm < p := by rw [← hrm]; exact Nat.mod_lt _ (by omega)
              have hql : qt ≤ 1000000 := by rw [← hqt]; exact Nat.le_trans (Nat.div_le_self _ _) hm1
              have hri : (m2 : Int).tmod (p : Int) = (rm : Int) := by rw [← hrm]; rfl
              have hqi2 : (m2 : Int).tdiv (p : Int) = (qt : Int) := by rw [← hqt]; rfl
              have hpz : ¬ ((p : Int) = 0) := by omega
              have HRM := Lib.hid hrm
              have HQT := Lib.hid hqt
              clear hrm hqt hbd
              by_cases hz : rm = 0
              · subst hz
                have hpz2 : ¬ p = 0 := by omega
                have hwq : IntKind.i64.wrap (qt : Int) = (qt : Int) := wrap_small _ (by omega) (by omega)
                go_wp2_with fail
                refine wp_region_goT (fun _ => True) 10 (by kernel_rfl) (by kernel_rfl) trivial (fun hHeld => ?_)
                refine goT_take 0 (v := ?_) rfl (by decide +kernel) (fun _ _ _ h => bodyPostD_put (by decide +kernel) h) (Or.inl ⟨by rfl, ?_⟩) (by assumption) ?_
                rotate_left
                · (intro w_ hSw; (try dsimp only at hSw); go_simp; (try with_reducible rfl))
                try simp only [Act.put, List.setIfInBounds_toArray, List.set_cons_zero, List.set_cons_succ]
                refine goT_take 1 (v := ?_) rfl (by decide +kernel) (fun _ _ _ h => bodyPostD_put (by decide +kernel) h) (Or.inl ⟨by rfl, ?_⟩) (by assumption) ?_
                rotate_left
                · (intro w_ hSw; (try dsimp only at hSw); go_simp; (try with_reducible rfl))
                try simp only [Act.put, List.setIfInBounds_toArray, List.set_cons_zero, List.set_cons_succ]
                refine goT_take 6 (v := ?_) rfl (by decide +kernel) (fun _ _ _ h => bodyPostD_put (by decide +kernel) h) (Or.inl ⟨by rfl, ?_⟩) (by assumption) ?_
                rotate_left
                · (intro w_ hSw; (try dsimp only at hSw); go_simp; (try with_reducible rfl))
                try simp only [Act.put, List.setIfInBounds_toArray, List.set_cons_zero, List.set_cons_succ]
                refine goT_take 7 (v := ?_) rfl (by decide +kernel) (fun _ _ _ h => bodyPostD_put (by decide +kernel) h) (Or.inl ⟨by rfl, ?_⟩) (by assumption) ?_
                rotate_left
                · (intro w_ hSw; (try dsimp only at hSw); go_simp; (try with_reducible rfl))
                try simp only [Act.put, List.setIfInBounds_toArray, List.set_cons_zero, List.set_cons_succ]
                refine goT_take 8 (v := ?_) rfl (by decide +kernel) (fun _ _ _ h => bodyPostD_put (by decide +kernel) h) (Or.inl ⟨by rfl, ?_⟩) (by assumption) ?_
                rotate_left
                · (intro w_ hSw; (try dsimp only at hSw); go_simp; (try with_reducible rfl))
                try simp only [Act.put, List.setIfInBounds_toArray, List.set_cons_zero, List.set_cons_succ]
                refine goT_step 2 rfl (by decide +kernel) (fun K_ hK => ?_)
                go_simp
                refine (of_any p _ (by omega) (by omega)).mono ?_
                rintro e w8 ⟨s4, A4, k4, c4, rfl, hN4, hb8⟩
                clear hwq hpz2
                have HO8 := Lib.hid ((HO3.out.next (below_drew (Below.refl _ _) : Below wr.heap.size wr wr.drew)).next hb8)
                have HB8 : Hid (Below wr.heap.size wr w8) := Lib.hid (below_of_drew hb8)
                have hT8 := HT.out _ HO8.out.below
                clear hb8
                go_wp2_with fail
                refine hK.out _ _ trivial (fun hHeld => ?_)
                clear hK
                try simp only [Act.put, List.setIfInBounds_toArray, List.set_cons_zero, List.set_cons_succ]
                refine goT_step 3 rfl (by decide +kernel) (fun K_ hK => ?_)
                go_simp
                refine (given_nat _ hN4 (by omega) hT8).mono ?_
                rintro e w9 ⟨rfl, hb9⟩
                have HO9 := Lib.hid (HO8.out.next hb9)
                have HB9 := Lib.hid (HB8.out.trans (hb9.mono HB8.out.size))
                clear hb9 hN4 hT8
                go_wp2_with fail
                refine hK.out _ _ trivial (fun hHeld => ?_)
                clear hK
                try simp only [Act.put, List.setIfInBounds_toArray, List.set_cons_zero, List.set_cons_succ]
                refine goT_step 4 rfl (by decide +kernel) (fun K_ hK => ?_)
                go_simp
                refine hK.out _ _ trivial (fun hHeld => ?_)
                clear hK
                try simp only [Act.put, List.setIfInBounds_toArray, List.set_cons_zero, List.set_cons_succ]
                refine goT_step 5 rfl (by decide +kernel) (fun K_ hK => ?_)
                refine Kd.R_append_step Kd.string (w0 := w9) (w.heap.size + 1) (by rfl) (.tmp 39) (.tmp 43) 27 9 (.string ⟨#[]⟩) 16 rfl Tryz.underlying27 info_str rfl (by decide) (by omega) u2 (bts (l2.map Mw.dtxt)) ⟨(Mw.dtxt p).toArray⟩ [.string ⟨(Mw.dtxt p).toArray⟩] (fun k => w.heap.size + 1 ≤ k) (fun _ => False) rfl rfl ?aP (fun _ hk => hk.elim) ?aF ?aO ?aB ?aS ?aL ?_
                case aP => exact rfl
                case aF => exact fun k hk => Nat.le_trans HO9.out.lt hk
                case aO => exact Kd.R_below HRW3.out HB9.out
                case aB => exact Below.refl _ _
                case aS => exact HO9.out.lt
                case aL => have := HBD3.out; rw [bts_len]; omega
                intro v1 w10 hR1 hB1 hg1 hat1
                rw [← bts_snoc] at hR1
                have HR1 := Lib.hid hR1
                have HO10 := Lib.hid (HO9.out.nextB (Nat.lt_succ_self _) hB1)
                clear hR1 hB1 hg1 hat1
                refine hK.out _ _ trivial (fun hHeld => ?_)
                clear hK
                try simp only [Act.put, List.setIfInBounds_toArray, List.set_cons_zero, List.set_cons_succ]
                refine goT_step 9 rfl (by decide +kernel) (fun K_ hK => ?_)
                go_simp
                refine hK.out _ _ trivial (fun hHeld => ?_)
                clear hK
                try simp only [Act.put, List.setIfInBounds_toArray, List.set_cons_zero, List.set_cons_succ]
                refine goT_done (by decide +kernel) ?_
                go_wp2
                have hlt : qt < m2 := by rw [← HQT.out]; exact Nat.div_lt_self hm0 hp1
                have hmp : p * qt = m2 := by have := Nat.div_add_mod m2 p; rw [HRM.out, HQT.out] at this; omega
                have hq1 : 1 ≤ qt := Nat.pos_of_ne_zero (fun h0 => by rw [h0] at hmp; omega)
                refine ⟨⟨l2 ++ [p], qt, rfl, HR1, Lib.hid ?_, Lib.hid ?_, Lib.hid ?_, HO10⟩, ?_⟩
                · have h := HFS3.out
                  rw [Mw.fs_div hp1 hm0 HRM.out, HQT.out] at h
                  rw [List.append_assoc]; exact h
                · have := HBD3.out
                  rw [List.length_append, List.length_singleton]; omega
                · rw [← HQT.out]; exact Mw.nodiv_div HND3.out HRM.out
                · simp only [intOf]; omega
              · have hz' : ¬ ((rm : Int) = 0) := by omega
                go_wp2_with fail
                refine ⟨⟨l2, m2, p + 1, rfl, by simp, HRW3, ?_, ?_, ?_, HO3⟩, ?_⟩
                · exact Lib.hid (by rw [← Mw.fs_next hp1 (by rw [HRM.out]; exact hz)]; exact HFS3.out)
                · exact Lib.hid (by have := HBD3.out; omega)
                · exact Lib.hid (fun d h2 h3 => by
                    rcases Nat.lt_or_ge d p with h4 | h4
                    · exact HND3.out d h2 h4
                    · obtain rfl : d = p := by omega
                      rw [HRM.out]; exact hz)
                · simp only [intOf]; omega
          · have hle' : ¬ (q : Int) ≤ (m : Int) := by omega
            have q0 := HO2.out.cell
            have f0 := HO2.out.frz
            have hend := Mw.fs_end (n := m) (p := p) (by have := HBD.out; omega) hp1 (by rw [HQ.out]; omega) HND.out
            by_cases hm2 : 1 < m
            · have hm2' : (1 : Int) < (m : Int) := by omega
              rw [if_pos hm2] at hend
              have HE := Lib.hid hend
              clear hend
              go_wp2_with (first | (go_at_call 73; with_reducible refine (of_any m _ (by omega) (by omega)).mono ?_; rintro e w8 ⟨s4, A4, k4, c4, rfl, hN4, hb8⟩; refine Hid.out ?_))
              have HO8 := Lib.hid (HO2.out.next hb8)
              have hT8 := HT.out _ HO8.out.below
              have HB8 := Lib.hid hb8
              clear hb8
              refine Lib.hid ?_
              go_wp2_with (first | (go_at_call 71; with_reducible refine (given_nat _ hN4 hm1 hT8).mono ?_; rintro e w9 ⟨rfl, hb9⟩; refine Hid.out ?_))
              have HO9 := Lib.hid (HO8.out.next hb9)
              have HB9 := Lib.hid (HB8.out.trans (hb9.mono HB8.out.size))
              clear hb9 hN4 hT8
              refine Lib.hid ?_
              go_wp2_with (first | ((with_reducible refine gate_builtin (b := .append) (xs := #[.tmp 50, .tmp 54]) rfl ?_); at_builtin; refine Kd.R_append Kd.string (w0 := w9) (w.heap.size + 1) rfl (.tmp 50) (.tmp 54) 27 9 (.string ⟨#[]⟩) 16 rfl Tryz.underlying27 info_str rfl (by decide) (by omega) u2 (bts (l.map Mw.dtxt)) ⟨(Mw.dtxt m).toArray⟩ [.string ⟨(Mw.dtxt m).toArray⟩] (fun k => w.heap.size + 1 ≤ k) (fun _ => False) rfl rfl rfl (fun _ hk => hk.elim) (fun k hk => Nat.le_trans HO9.out.lt hk) (Kd.R_below HRW.out HB9.out) (Below.refl _ _) HO9.out.lt (by have := HBD.out; rw [bts_len]; omega) ?_; intro v1 w10 hR1 hB1 hg1 hat1; have HO10 := Lib.hid (HO9.out.nextB (Nat.lt_succ_self _) hB1); have q0 := HO10.out.cell; have f0 := HO10.out.frz))
              rw [← bts_snoc] at hR1
              have hr := HR.out
              have hfs := HFS.out
              rw [HE.out] at hfs
              rw [Int.toNat_natCast, ← hfs] at hr
              cases hr
              exact door_leave_at isDoor_Factor _ (.int .i64 0) (.tuple #[_, .int .i64 0]) _ (World.cell?_setCell_same _ _ _ q0) (by simp [f0]) (fun W' h => by simp [results, Tryz.results26, go_sem, h])
                ⟨_, rfl, Kd.R_lower (R_free (R_cell (R_cell hR1 _) _)) (by omega), (HO10.out.below.setCell (Nat.le_refl _) _).setCell (Nat.le_refl _) _⟩
            · have hm2' : ¬ (1 : Int) < (m : Int) := by omega
              rw [if_neg hm2] at hend
              have HE := Lib.hid hend
              clear hend
              go_wp2_with fail
              have hr := HR.out
              have hfs := HFS.out
              rw [HE.out, List.append_nil] at hfs
              rw [Int.toNat_natCast, ← hfs] at hr
              cases hr
              exact door_leave_at isDoor_Factor _ (.int .i64 0) (.tuple #[_, .int .i64 0]) _ (World.cell?_setCell_same _ _ _ q0) (by simp [f0]) (fun W' h => by simp [results, Tryz.results26, go_sem, h])
                ⟨_, rfl, Kd.R_lower (R_free (R_cell (R_cell HRW.out _) _)) (by omega), (HO2.out.below.setCell (Nat.le_refl _) _).setCell (Nat.le_refl _) _⟩
  · rw [Mw.factor, if_neg hok] at hr
    cases hr
    go_enter_defers Tryz.func26, Tryz.ntmps26
    go_wp2_with (first | (go_at_call 69; with_reducible refine (taken_bad s _ hok).mono ?_; rintro e w1 ⟨rfl, hb1⟩; obtain ⟨q0, f0, z0, hB⟩ := own_cell hb1))
    exact door_caught isDoor_Factor _ (.int .i64 0) (.tuple #[.slice none 0 0, .int .i64 (Mw.terr s.data.toList)]) _ _ (HG.out.below hB) z0 q0 f0 (fun W' h => by simp [results, Tryz.results26, go_sem, h])
      (fun W' h => ⟨_, rfl, hnil W', hB.trans h⟩)
end Go.Proofs.YtjieekkkaekclaaGreatDoor
namespace Go.Proofs.YtjieekkkaekclaaGreatDoor
open Go Go.RowKit Go.Shelf Go.Proofs.YtjieekkkaekclaaGreatDoorW.PrintWords
variable {F : Fence} {n : Nat} {P : Program}
def KN (W W' : World) : Prop := ∀ (s : Int) (A : Option Addr) (k c : Nat) (m : Int), NumAt W s A k c m → NumAt W' s A k c m
theorem NumAt.cells {W W' : World} {s : Int} {A : Option Addr} {k c : Nat} {m : Int} (h : NumAt W s A k c m) (hc : ∀ p v, W.cell? p = some v → W'.cell? p = some v) : NumAt W' s A k c m := by
  refine ⟨h.sign, h.len, h.cap, Kd.C_of_reads (d := 0) ⟨h.reads.1, h.reads.2.1, fun h0 => ?_⟩⟩
  obtain ⟨ad, e, _⟩ := Kd.at_int h.reads 0 (by omega) (by omega)
  refine ⟨ad, e, fun j hj => ?_⟩
  obtain ⟨ad', e', hcj⟩ := Kd.at_int h.reads j (by omega) (by omega)
  obtain rfl : ad = ad' := by rw [e] at e'; simpa using e'
  simp only [Int.toNat_natCast, rd] at hcj
  exact hc _ _ hcj
theorem KN.below {W W' : World} (hb : Below W.heap.size W W') : KN W W' := fun _ _ _ _ _ h => h.below hb
theorem KN.trans {A B C : World} (h : KN A B) (h' : KN B C) : KN A C := fun _ _ _ _ _ x => h' _ _ _ _ _ (h _ _ _ _ _ x)
theorem KN.put {W : World} {b : Nat} (hb : Bx1 W b) (s2 : Int) (A2 : Option Addr) (k2 c2 : Nat) : KN W (putN W b s2 A2 k2 c2) := fun _ _ _ _ _ h => Nb.numPutB h hb _ _ _ _
theorem KN.grown {W W' : World} {row : Option Nat} (hg : W.grownBy W' row) (hrow : ∀ r, row = some r → ∃ o : Obj, W.heap[r]? = some o ∧ o.isCells = false) : KN W W' := fun _ _ _ _ _ h => h.cells (fun _ _ hc => cell_kept hc hg hrow)
theorem Nb.grown {W W' : World} {row : Option Nat} {b : Nat} {s : Int} {A : Option Addr} {k c : Nat} {m : Int} (h : Nb W b s A k c m) (hg : W.grownBy W' row) (hrow : ∀ r, row = some r → ∃ o : Obj, W.heap[r]? = some o ∧ o.isCells = false) : Nb W' b s A k c m :=
  ⟨cell_kept h.c0 hg hrow, cell_kept h.c1 hg hrow, (frozen_kept h.c0 hg hrow).trans h.f0, (frozen_kept h.c1 hg hrow).trans h.f1, Nat.lt_of_lt_of_le h.lt hg.size, KN.grown hg hrow _ _ _ _ _ h.num⟩
theorem Bn.grown {W W' : World} {row : Option Nat} {b : Nat} {m : Int} (h : Bn W b m) (hg : W.grownBy W' row) (hrow : ∀ r, row = some r → ∃ o : Obj, W.heap[r]? = some o ∧ o.isCells = false) : Bn W' b m := by
  obtain ⟨s, A, k, c, h⟩ := h
  exact ⟨s, A, k, c, h.grown hg hrow⟩
theorem Own.grown {w W W' : World} {row : Option Nat} {v : Value} (h : Own w v W) (hg : W.grownBy W' row) (hrow : ∀ r, row = some r → ∃ o : Obj, W.heap[r]? = some o ∧ o.isCells = false) (hlo : ∀ r, row = some r → w.heap.size ≤ r) : Own w v W' :=
  ⟨cell_kept h.cell hg hrow, (frozen_kept h.cell hg hrow).trans h.frz, Nat.lt_of_lt_of_le h.lt hg.size, h.below.grown hg h.below.size hlo⟩
def KB (B0 Bs : Nat) (W W' : World) : Prop := ∀ (b : Nat) (s : Int) (A : Option Addr) (k c : Nat) (m : Int), (b = Bs ∨ B0 ≤ b) → Nb W b s A k c m → Nb W' b s A k c m
theorem KB.trans {B0 Bs : Nat} {A B C : World} (h : KB B0 Bs A B) (h' : KB B0 Bs B C) : KB B0 Bs A C := fun b s A k c m hb x => h' b s A k c m hb (h b s A k c m hb x)
theorem KB.grown {B0 Bs : Nat} {W W' : World} {row : Option Nat} (hg : W.grownBy W' row) (hrow : ∀ r, row = some r → ∃ o : Obj, W.heap[r]? = some o ∧ o.isCells = false) : KB B0 Bs W W' := fun _ _ _ _ _ _ _ h => h.grown hg hrow
theorem KB.below {B0 Bs : Nat} {W W' : World} (hb : Below W.heap.size W W') : KB B0 Bs W W' := fun _ _ _ _ _ _ _ h => h.call hb
theorem KB.put {B0 Bs : Nat} {W : World} {b : Nat} (hb : Bx1 W b) (hs : b ≠ Bs) (hl : b < B0) (s2 : Int) (A2 : Option Addr) (k2 c2 : Nat) : KB B0 Bs W (putN W b s2 A2 k2 c2) := fun b' _ _ _ _ _ h' h => h.putB hb (by omega) _ _ _ _
def roundOnN {α : Type} (B0 Bs : Nat) (I : List α → World → Prop) (xs : List α) (W : World) : Exit → Act → World → Prop
  | .normal, _, W' => KeepsOthers W W' ∧ KB B0 Bs W W' ∧ I xs W'
  | _, _, _ => False
def SeqNum {α : Type} (F : Fence) (n : Nat) (P : Program) (gf : Nat) (lb : Array Value) (encs : α → Array Value) (xs : List α) (B0 Bs : Nat) (S0 : World → Prop) : Prop :=
  ∀ (l : Nat) (J : List α → World → Prop) (W : World), (∀ pre W s A k c, J pre W → Bx1 W Bs → J pre (putN W Bs s A k c)) → (∀ pre W W', J pre W → Below W.heap.size W W' → J pre W') →
    (∀ pre x W1, (pre ++ [x]) <+: xs → J pre W1 → YieldAt F (n - 1) P l (encs x) W1 fun e W' => e = .returned (.bool true) ∧ J (pre ++ [x]) W' ∧ W1.heap.size ≤ W'.heap.size ∧ KB B0 Bs W1 W') → (∀ pre W, J pre W → B0 ≤ W.heap.size) →
    J [] W → S0 W →
    CallsIn F n P gf (#[.func (.yield l) #[] #[]] ++ lb) W fun e W' => (∃ v, e = .returned v) ∧ J xs W'
theorem wpIn_rangeFunc_num {α : Type} {g : Operand} {ps : Array Tmp} {assign body : Code} {Q : Exit → Act → World → Prop} {a : Act} {w : World}
    (hro : F.round = none) (h1 : 1 ≤ n) {gf : Nat} {lb : Array Value} (hg : a.eval g = .func (.func gf) #[] lb) (hFg : F.fn gf) (eg : ∀ args w, (callFunc gf args).run P w = .ok (.enter gf args) w)
    {encs : α → Array Value} {xs : List α} {Bs : Nat} {S0 : World → Prop} (hseq : SeqNum F (n - 1) P gf lb encs xs w.heap.size Bs S0) (hps : ∀ x, (encs x).size = ps.size)
    (hBs : Bs < w.heap.size) (hS0 : S0 w) (hS0b : ∀ W', Below w.heap.size w W' → S0 W')
    (I : List α → World → Prop) (hI : OwnFrom w.heap.size I) (hIs : ∀ pre W s A k c, I pre W → Bx1 W Bs → I pre (putN W Bs s A k c)) (hIb : ∀ pre W W', I pre W → Below W.heap.size W W' → I pre W') (h0 : I [] w) (a₁ : α → Act)
    (hassign : ∀ (l : Nat) (x : α) (W : World) (K : Act → World → Prop), K (a₁ x) W →
      assign.wpIn (F.inRound l) (n - 1 - 1) P (Exit.then K (fun _ _ _ => False)) { tmps := (ps.zip (encs x)).foldl (fun t (p, v) => t.setIfInBounds p v) a.tmps, defers := [] } W)
    (hbody : ∀ (l : Nat) (pre : List α) (x : α) (W : World), (pre ++ [x]) <+: xs → I pre W → Bs < W.heap.size → body.wpIn (F.inRound l) (n - 1 - 1) P (roundOnN w.heap.size Bs I (pre ++ [x]) W) (a₁ x) W)
    (hdone : ∀ (D : Nat) (W : World), w.heap.size ≤ D → I xs W → W.heap[D]? = some (.deferred (some [])) → Q .normal { a with defers := { target := .collected D, args := #[] } :: a.defers } W) :
    (Code.rangeFunc g ps assign body).wpIn F n P Q a w := by
  refine wpIn_rangeFunc ?_
  intro fn hfn
  rw [hro]
  obtain ⟨rec, hrec⟩ : ∃ rec : LoopState → Option Code → Loop, rec = fun st pe => { state := st, pending := pe, fn, tmps := a.tmps, params := ps, assign, body, defers := w.heap.size } := ⟨_, rfl⟩
  obtain ⟨W1, hW1⟩ : ∃ W1, (w.alloc (.deferred (some []))).alloc (.loop (rec .ready none)) = W1 := ⟨_, rfl⟩
  have hL1 : W1.heap[w.heap.size + 1]? = some (.loop (rec .ready none)) := by
    rw [← hW1]; have := World.alloc_heap_new (w.alloc (.deferred (some []))) (.loop (rec .ready none)); rwa [World.size_alloc] at this
  have hK1 : W1.heap[w.heap.size]? = some (.deferred (some [])) := by
    rw [← hW1]; exact (Below.heap_alloc _ _ _ (by simp)).trans (World.alloc_heap_new w _)
  have hI1 : I [] W1 := by rw [← hW1]; exact hI.alloc _ (hI.alloc _ h0)
  have hb1 : Below w.heap.size w W1 := by
    rw [← hW1]; exact ((Below.refl _ w).alloc (Nat.le_refl _) _).alloc (by simp) _
  refine ⟨w.heap.size + 1, [{ target := .collected w.heap.size, args := #[] }], W1, { target := .fn (.func gf) lb, args := #[.func (.yield (w.heap.size + 1)) #[] #[]] }, W1, gf,
    #[.func (.yield (w.heap.size + 1)) #[] #[]] ++ lb, W1, ?_, ?_, ?_, ?_, fun _ => h1, ?_⟩
  · rw [← hW1, hrec]; exact run_enterLoop_outer _ _ _ _ _
  · simp only [resolve, hg]
    simp [go_sem]
  · intro f' hf'; simp [Target.leads] at hf'; subst hf'; exact hFg
  · simp [invoke, go_sem, eg]
  · refine (hseq (w.heap.size + 1)
      (fun pre W => I pre W ∧ W.heap[w.heap.size + 1]? = some (.loop (rec .ready none)) ∧ W.heap[w.heap.size]? = some (.deferred (some [])) ∧ Bs < W.heap.size)
      W1
      (fun pre W s A k c hs hx => ⟨hIs pre W s A k c hs.1 hx, (Below.heap_setCell _ _ _ _ (by simp; omega)).trans ((Below.heap_setCell _ _ _ _ (by simp; omega)).trans hs.2.1), (Below.heap_setCell _ _ _ _ (by simp; omega)).trans ((Below.heap_setCell _ _ _ _ (by simp; omega)).trans hs.2.2.1), by simpa using hs.2.2.2⟩)
      (fun pre W W' hs hb => ⟨hIb pre W W' hs.1 hb, (hb.block _ (Array.getElem?_eq_some_iff.1 hs.2.1).1).trans hs.2.1, (hb.block _ (Array.getElem?_eq_some_iff.1 hs.2.2.1).1).trans hs.2.2.1, Nat.lt_of_lt_of_le hs.2.2.2 hb.size⟩)
      ?_ (fun pre W hs => Nat.le_of_lt (Nat.lt_of_succ_lt (Array.getElem?_eq_some_iff.1 hs.2.1).1)) ⟨hI1, hL1, hK1, Nat.lt_of_lt_of_le hBs hb1.size⟩ (hS0b _ hb1)).mono ?_
    · rintro pre x W hgx ⟨hi, hl, hk, hbs⟩
      have hlt : w.heap.size + 1 < W.heap.size := (Array.getElem?_eq_some_iff.1 hl).1
      have hy := run_yield (P := P) (args := encs x) hl (by rw [hrec]; exact hps x)
      rw [hrec] at hy
      refine ⟨fn, _, assign, body, hy, roundIn_of_wpIn hfn (hassign _ x W _ ⟨_, run_beginRound hl (by rw [hrec]), ?_⟩)⟩
      have hl2 : (W.putObj (w.heap.size + 1) (.loop { rec .ready none with state := .busy })).heap[w.heap.size + 1]? = some (.loop { rec .ready none with state := .busy }) := World.putObj_heap_same hlt
      have hk2 : (W.putObj (w.heap.size + 1) (.loop { rec .ready none with state := .busy })).heap[w.heap.size]? = some (.deferred (some [])) := (World.putObj_heap_other (by omega)).trans hk
      have hn2 : KB w.heap.size Bs W (W.putObj (w.heap.size + 1) (.loop { rec .ready none with state := .busy })) := KB.grown (grownBy_putObj' W _ _) (fun r e => by cases e; exact ⟨_, hl, rfl⟩)
      refine wpIn_mono (hbody _ pre x _ hgx (hI.putObj _ hi (by omega) hl rfl) (by simpa using hbs)) ?_
      rintro e a3 W3 hp
      cases e with
      | normal =>
        obtain ⟨hk3, hn3, hi3⟩ := hp
        have hl3 := hk3.same _ _ hl2 rfl
        have hr := run_endRound (P := P) none hl3
        rw [hrec] at hr
        have hn4 : KB w.heap.size Bs W3 (W3.putObj (w.heap.size + 1) (.loop (rec .ready none))) := KB.grown (grownBy_putObj' W3 _ _) (fun r e => by cases e; exact ⟨_, hl3, rfl⟩)
        rw [hrec] at hn4
        have hsz : W.heap.size ≤ W3.heap.size := by have := hk3.size; simpa using this
        refine ⟨_, _, hr, rfl, ⟨hI.putObj _ hi3 (by omega) hl3 rfl, ?_, ?_, ?_⟩, ?_, ?_⟩
        · rw [hrec]; exact World.putObj_heap_same (Array.getElem?_eq_some_iff.1 hl3).1
        · exact (World.putObj_heap_other (by omega)).trans (hk3.same _ _ hk2 rfl)
        · simp; omega
        · simp; omega
        · exact (hn2.trans hn3).trans hn4
      | ret => exact hp.elim
      | exit id => exact hp.elim
      | goto t => exact hp.elim
      | panic ch => exact hp.elim
      | outgrown => exact hp.elim
    · rintro e W2 ⟨⟨v, rfl⟩, hi, hl, hk, _⟩
      exact ⟨none, _, by have := run_endLoop (P := P) hl (by rw [hrec]; simp); rw [hrec] at this; exact this, hdone _ _ (Nat.le_refl _) (hI.putObj _ hi (by omega) hl rfl) ((World.putObj_heap_other (by omega)).trans hk)⟩
end Go.Proofs.YtjieekkkaekclaaGreatDoor
namespace Mw
theorem pow_abs_le (x b : Int) (m : Nat) (hm : 1 ≤ m) : (x * b).natAbs ≤ (x * b ^ m).natAbs := by
  rw [Int.natAbs_mul, Int.natAbs_mul, Int.natAbs_pow]
  refine Nat.mul_le_mul_left _ ?_
  rcases Nat.eq_zero_or_pos b.natAbs with h | h
  · rw [h]; exact Nat.zero_le _
  · have := Nat.pow_le_pow_right h hm
    rwa [Nat.pow_one] at this
theorem pow_sq_le (x b : Int) (m : Nat) (hm : 2 ≤ m) (h0 : x ≠ 0 ∨ b = 0) : (b * b).natAbs ≤ (x * b ^ m).natAbs := by
  rcases h0 with h0 | h0
  · rw [Int.natAbs_mul, Int.natAbs_mul, Int.natAbs_pow]
    have h1 : b.natAbs * b.natAbs ≤ b.natAbs ^ m := by
      rcases Nat.eq_zero_or_pos b.natAbs with h | h
      · rw [h]; simp
      · have := Nat.pow_le_pow_right h hm
        rwa [Nat.pow_two] at this
    have h2 : 1 * b.natAbs ^ m ≤ x.natAbs * b.natAbs ^ m := Nat.mul_le_mul_right _ (by omega)
    omega
  · subst h0; simp
theorem pow_odd (x b : Int) (m : Nat) (hm : m % 2 = 1) : x * b ^ m = (x * b) * (b * b) ^ (m / 2) := by
  have e : m = 2 * (m / 2) + 1 := by omega
  have h1 : b ^ m = b ^ (2 * (m / 2)) * b := by rw [← Int.pow_succ]; show b ^ m = b ^ (2 * (m / 2) + 1); rw [← e]
  rw [h1, Int.pow_mul, show b ^ 2 = b * b by rw [Int.pow_succ, Int.pow_succ, Int.pow_zero, Int.one_mul]]
  generalize (b * b) ^ (m / 2) = P
  grind
theorem pow_even (x b : Int) (m : Nat) (hm : m % 2 = 0) : x * b ^ m = x * (b * b) ^ (m / 2) := by
  have e : m = 2 * (m / 2) := by omega
  have h1 : b ^ m = b ^ (2 * (m / 2)) := by rw [← e]
  rw [h1, Int.pow_mul, show b ^ 2 = b * b by rw [Int.pow_succ, Int.pow_succ, Int.pow_zero, Int.one_mul]]
theorem pow_ne {x b : Int} (h : x ≠ 0 ∨ b = 0) : x * b ≠ 0 ∨ b = 0 := by
  rcases h with h | h
  · by_cases hb : b = 0
    · exact .inr hb
    · exact .inl (Int.mul_ne_zero h hb)
  · exact .inr h
def hlv (k : Nat) : List Bool := if _h : k = 0 then [] else (k % 2 == 1) :: hlv (k / 2)
termination_by k
decreasing_by omega
theorem hlv_zero : hlv 0 = [] := by rw [hlv]; simp
theorem hlv_pos {k : Nat} (h : k ≠ 0) : hlv k = (k % 2 == 1) :: hlv (k / 2) := by rw [hlv, dif_neg h]
def pm (m : Int) : Int → Int → List Bool → Int
  | out, _, [] => out
  | out, x, b :: l => pm m (if b then (out * x).fmod m else out) ((x * x).fmod m) l
theorem fmod_mul_l (x y m : Int) (hm : 0 < m) : (x.fmod m * y).fmod m = (x * y).fmod m := by
  rw [Int.fmod_eq_emod_of_nonneg _ (by omega), Int.fmod_eq_emod_of_nonneg _ (by omega), Int.fmod_eq_emod_of_nonneg _ (by omega), Int.mul_emod, Int.emod_emod_of_dvd _ (Int.dvd_refl m), ← Int.mul_emod]
theorem fmod_pow_l (x m : Int) (n : Nat) (hm : 0 < m) (y : Int) : (y * (x.fmod m) ^ n).fmod m = (y * x ^ n).fmod m := by
  induction n generalizing y with
  | zero => rw [Int.pow_zero, Int.pow_zero]
  | succ n ih =>
    rw [Int.pow_succ, Int.pow_succ, ← Int.mul_assoc, Int.mul_right_comm, ih, Int.mul_assoc, Int.mul_comm (x.fmod m), ← Int.mul_assoc, Int.mul_comm (y * x ^ n), fmod_mul_l _ _ _ hm, Int.mul_comm x, Int.mul_assoc]
theorem pm_is (m : Int) (hm : 0 < m) (k : Nat) : ∀ out x, out.fmod m = out → pm m out x (hlv k) = (out * x ^ k).fmod m := by
  induction k using Nat.strongRecOn with
  | _ k ih =>
    intro out x ho
    by_cases h : k = 0
    · subst h; rw [hlv_zero, pm, Int.pow_zero, Int.mul_one, ho]
    · rw [hlv_pos h, pm]
      by_cases hk : k % 2 = 1
      · rw [show (k % 2 == 1) = true by simpa using hk, if_pos rfl, ih _ (by omega) _ _ (Int.fmod_fmod ..), fmod_pow_l _ _ _ hm, fmod_mul_l _ _ _ hm, ← pow_odd _ _ _ hk]
      · rw [show (k % 2 == 1) = false by simpa using hk, if_neg (by simp), ih _ (by omega) _ _ ho, fmod_pow_l _ _ _ hm, ← pow_even _ _ _ (by omega)]
end Mw
