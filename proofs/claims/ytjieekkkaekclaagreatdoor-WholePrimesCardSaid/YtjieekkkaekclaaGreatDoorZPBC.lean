/- Lemmas for the claim beside this text. -/
import Derived.Test.YtjieekkkaekclaaGreatDoorProg
import Derived.Test.YtjieekkkaekclaaGreatDoorZPAB
import Derived.Test.YtjieekkkaekclaaGreatDoorZPAE
import Derived.Test.YtjieekkkaekclaaGreatDoorZPAF
import Derived.Test.YtjieekkkaekclaaGreatDoorZPAQ
import Derived.Test.YtjieekkkaekclaaGreatDoorZPAT
import Derived.Test.YtjieekkkaekclaaGreatDoorZPAV
import Derived.Test.YtjieekkkaekclaaGreatDoorZPAW
import Derived.Test.YtjieekkkaekclaaGreatDoorZPAX
import Derived.Test.YtjieekkkaekclaaGreatDoorZPAZ
import Derived.Test.YtjieekkkaekclaaGreatDoorZPBB
import Derived.ArgAppend
import Derived.Below
import Derived.BigQuiet
import Derived.Deep.AppendLies
import Derived.Deep.CutBlock
import Derived.Deep.DeepCutAuto
import Derived.Deep.Draws
import Derived.Deep.LoopGhost
import Derived.Deep.OwnRows
import Derived.Deep.QuietTactic
import Derived.Deep.RegionHeld3
import Derived.KernelRfl
import Derived.Laws.BitsLemmas
import Derived.Laws.BytesArg
import Derived.Laws.IdiomCopy
import Derived.Laws.MakeOwn
import Derived.Laws.OwnMore
import Derived.Laws.Rows
import Derived.Laws.Slices
import Derived.Laws.StructEq
import Derived.Lib.AppendStr
import Derived.Lib.ConvBytes
import Derived.Maps.AppendAt
import Derived.OrdersHeld
import Derived.OwnWalk
import Derived.RowKit
import Derived.RowKit3
import Derived.Tactics
import Derived.WalkKit
import Derived.WideLaws
set_option linter.all false
set_option linter.unusedVariables false
set_option linter.unusedSimpArgs false
namespace Go.Proofs.YtjieekkkaekclaaGreatDoor
open Go
def Mw.fs (d n : Nat) : List Nat := if h : d < 2 ∨ n < d then [] else if n % d = 0 then d :: Mw.fs d (n / d) else Mw.fs (d + 1) n
termination_by n + (n - d)
decreasing_by
  · have h1 : n / d < n := Nat.div_lt_self (by omega) (by omega)
    omega
  · rename_i h2
    have : d ≠ n := fun e => h2 (by rw [e]; exact Nat.mod_self n)
    omega
theorem Mw.fs_nil {d n : Nat} (h : n < d) : Mw.fs d n = [] := by rw [Mw.fs, dif_pos (.inr h)]
theorem Mw.fs_div {d n : Nat} (h2 : 2 ≤ d) (hn : 0 < n) (h : n % d = 0) : Mw.fs d n = d :: Mw.fs d (n / d) := by
  have : d ≤ n := Nat.le_of_dvd hn (Nat.dvd_of_mod_eq_zero h)
  rw [Mw.fs, dif_neg (by omega), if_pos h]
theorem Mw.fs_next {d n : Nat} (h2 : 2 ≤ d) (h : n % d ≠ 0) : Mw.fs d n = Mw.fs (d + 1) n := by
  by_cases hd : n < d
  · rw [Mw.fs_nil hd, Mw.fs_nil (by omega)]
  · rw [Mw.fs, dif_neg (by omega), if_neg h]
theorem Mw.fs_last {n : Nat} (hn : 1 < n) : ∀ (f p : Nat), n + 1 - p = f → 2 ≤ p → n < p * p → (∀ d, 2 ≤ d → d < p → n % d ≠ 0) → Mw.fs p n = [n] := by
  intro f
  induction f with
  | zero =>
    intro p hf h2 _ hno
    exact absurd (Nat.mod_self n) (hno n (by omega) (by omega))
  | succ f ih =>
    intro p hf h2 hpp hno
    by_cases h : n % p = 0
    · obtain ⟨q, rfl⟩ := Nat.dvd_of_mod_eq_zero h
      have hq : q < p := Nat.lt_of_mul_lt_mul_left (a := p) hpp
      have hq0 : 0 < q := Nat.pos_of_ne_zero (fun h0 => by subst h0; simp at hn)
      have hq1 : q = 1 := by
        rcases Nat.lt_or_ge q 2 with h1 | h1
        · omega
        · exact absurd (by simp) (hno q h1 hq)
      subst hq1
      rw [Nat.mul_one] at *
      rw [Mw.fs_div h2 (by omega) (Nat.mod_self p), Nat.div_self (by omega), Mw.fs_nil (by omega)]
    · rw [Mw.fs_next h2 h]
      refine ih (p + 1) (by omega) (by omega) ?_ ?_
      · exact Nat.lt_of_lt_of_le hpp (Nat.mul_le_mul (by omega) (by omega))
      · intro d hd hdp
        rcases Nat.lt_or_ge d p with h3 | h3
        · exact hno d hd h3
        · obtain rfl : d = p := by omega
          exact h
theorem Mw.fs_end {n p : Nat} (hn : 0 < n) (h2 : 2 ≤ p) (hpp : n < p * p) (hno : ∀ d, 2 ≤ d → d < p → n % d ≠ 0) : Mw.fs p n = if 1 < n then [n] else [] := by
  by_cases h : 1 < n
  · rw [if_pos h]; exact Mw.fs_last h _ p rfl h2 hpp hno
  · rw [if_neg h]; exact Mw.fs_nil (by omega)
theorem Mw.nodiv_div {n p : Nat} (hno : ∀ d, 2 ≤ d → d < p → n % d ≠ 0) (h : n % p = 0) : ∀ d, 2 ≤ d → d < p → n / p % d ≠ 0 := by
  intro d h2 hd h0
  obtain ⟨q, rfl⟩ := Nat.dvd_of_mod_eq_zero h
  have hp : 0 < p := by omega
  rw [Nat.mul_div_cancel_left _ hp] at h0
  exact hno d h2 hd (Nat.mod_eq_zero_of_dvd (Nat.dvd_trans (Nat.dvd_of_mod_eq_zero h0) (Nat.dvd_mul_left _ _)))
end Go.Proofs.YtjieekkkaekclaaGreatDoor
namespace Go.Proofs.YtjieekkkaekclaaGreatDoor
open Go Go.RowKit Go.Proofs.YtjieekkkaekclaaGreatDoorW.PrintWords
def Mw.factor (a : List UInt8) : List (List UInt8) × Int :=
  if Mw.terr a = 0 then (if Mw.ival a < 1 then ([], 2) else if 1000000 < Mw.ival a then ([], 13) else ((Mw.fs 2 (Mw.ival a).toNat).map Mw.dtxt, 0)) else ([], Mw.terr a)
def bts (l : List (List UInt8)) : List ByteArray := l.map fun x => ⟨x.toArray⟩
theorem info_str : (Tryz.prog.info? 9).map (fun i => (i.zero, i.size, i.bytes)) = some (some (.string ⟨#[]⟩), 1, 16) := by kernel_rfl
theorem bts_snoc (l : List Nat) (d : Nat) : bts ((l ++ [d]).map Mw.dtxt) = bts (l.map Mw.dtxt) ++ [⟨(Mw.dtxt d).toArray⟩] := by simp [bts]
theorem bts_len (l : List Nat) : (bts (l.map Mw.dtxt)).length = l.length := by simp [bts]
theorem gerr_nat {d : Nat} (h : d < 10 ^ 9) : Mw.gerr (d : Int) = 0 := by
  rw [Mw.gerr, if_neg]
  have := (Mw.dtxt_len_le d 9 (by omega)).mpr (by omega)
  simp only [Int.natAbs_natCast]; omega
theorem itxt_nat (d : Nat) : Mw.itxt (d : Int) = Mw.dtxt d := by rw [Mw.itxt_nonneg (by omega), Int.natAbs_natCast]
theorem given_nat {s : Int} {A : Option Addr} {k c m : Nat} (w : World) (H : NumAt w s A k c (m : Int)) (hm : m ≤ 1000000) (ht : Tab w) :
    Calls Tryz.prog 71 #[.agg #[.int .i64 s, .slice A k c]] w fun e w' => e = .returned (.string ⟨(Mw.dtxt m).toArray⟩) ∧ Below w.heap.size w w' := by
  rw [← itxt_nat]
  exact given_ok w H (by have := H.len_le (N := 1000000) (K := 1) (by decide) (by rw [Int.natAbs_natCast]; exact hm); omega) ht (gerr_nat (by omega))
theorem R_free {α : Type} {d : Kd α} {e : Nat} {w : World} {base : Nat} {ok : Nat → Prop} {v : Value} {xs : List α} (h : d.R e w base ok v xs) : d.R e w base (fun _ => True) v xs := by
  obtain ⟨h0, inner, ho, hr⟩ := h
  exact ⟨fun _ _ => trivial, inner, ho, hr.imp_ (fun _ _ hp => d.M_mono (fun k hk => ⟨trivial, hk.2⟩) hp)⟩
theorem R_cell {α : Type} {d : Kd α} {e : Nat} {w : World} {B : Nat} {v : Value} {xs : List α} (h : d.R e w (B + 1) (fun k => B + 1 ≤ k) v xs) (x : Value) : d.R e (w.setCell ⟨B, 0, none⟩ x) (B + 1) (fun k => B + 1 ≤ k) v xs :=
  Kd.R_move h (fun k hk => Below.heap_setCell _ _ _ _ (by simp; omega))
set_option maxRecDepth 100000 in
set_option maxHeartbeats 3200000 in
theorem factor_any (s : ByteArray) (w : World) (hs : s.size ≤ 100000) (hg : Ety w) (htab : Tab w) :
    Calls Tryz.prog 26 #[.string s] w fun e w' => ∃ v : Value, e = .returned (.tuple #[v, .int .i64 (Mw.factor s.data.toList).2]) ∧ Kd.R Kd.string 9 w' w.heap.size (fun _ => True) v (bts (Mw.factor s.data.toList).1) ∧ Below w.heap.size w w' := by
  have hmf : ∀ (fn : Fn) (first cap : Array Value) (w : World), (Instr.makeFunc fn first cap).run Tryz.prog w = .ok (.func fn first cap) w := fun _ _ _ _ => rfl
  have HG := Lib.hid hg
  have HT := Lib.hid (Lib.tabBelow_of_tabIs htab)
  clear hg htab
  obtain ⟨⟨rs, er⟩, hr⟩ : ∃ x, Mw.factor s.data.toList = x := ⟨_, rfl⟩
  rw [hr]
  dsimp only
  have hnil : ∀ W, Kd.R Kd.string 9 W w.heap.size (fun _ => True) (.slice none 0 0) (bts []) := fun W => Kd.R_nil _ _ _ _ _
  by_cases hok : Mw.terr s.data.toList = 0
  · rw [Mw.factor, if_pos hok] at hr
    obtain ⟨n, hn⟩ : ∃ n, Mw.ival s.data.toList = n := ⟨_, rfl⟩
    rw [hn] at hr
    by_cases h1 : n < 1
    · rw [if_pos h1] at hr
      cases hr
      have HN := Lib.hid hn
      clear hn
      go_enter_defers Tryz.func26, Tryz.ntmps26
      go_wp2_with (first | (go_at_call 69; with_reducible refine (taken_ok s _ hs hok).mono ?_; rintro e w1 ⟨s1, A1, k1, c1, rfl, hN1, hb1⟩; rw [HN.out] at hN1; have hs1 : -1 ≤ s1 ∧ s1 < 1 := by (rw [hN1.sign]; rcases sgn_cases n with ⟨e1, h1⟩ | ⟨e1, h1⟩ | ⟨e1, h1⟩ <;> omega)) | (go_at_call 74; with_reducible refine (ssign_any s1 _ (by omega)).mono ?_; rintro e w5 ⟨rfl, hw5⟩) | (go_at_call 86; with_reducible refine (fail_t _ _ _ (by first | rfl | exact decide_eq_true hs1.2)).mono ?_; rintro e w6 ⟨rfl, hw6⟩))
      have HO3 := (Own.of hb1).next (below_alloc (Below.refl _ _) (.cells #[.int .i64 s1, .slice A1 k1 c1] 71))
      exact door_caught isDoor_Factor _ (.int .i64 0) (.tuple #[.slice none 0 0, .int .i64 2]) _ _ (HG.out.below HO3.below) HO3.lt HO3.cell HO3.frz (fun W' h => by simp [results, Tryz.results26, go_sem, h])
        (fun W' h => ⟨_, rfl, hnil W', HO3.below.trans h⟩)
    · rw [if_neg h1] at hr
      have HN := Lib.hid hn
      have H1 := Lib.hid h1
      clear hn
      by_cases hbig : 1000000 < n
      · rw [if_pos hbig] at hr
        cases hr
        by_cases h9 : n < 1000000000
        · have hbig' : decide ((1000000 : Int) < n) = true := decide_eq_true hbig
          go_enter_defers Tryz.func26, Tryz.ntmps26
          go_wp2_with (first | (go_at_call 69; with_reducible refine (taken_ok s _ hs hok).mono ?_; rintro e w1 ⟨s1, A1, k1, c1, rfl, hN1, hb1⟩; rw [HN.out] at hN1; have hs1 : -1 ≤ s1 ∧ s1 ≤ 1 ∧ ¬ s1 < 1 := by (rw [hN1.sign]; rcases sgn_cases n with ⟨e1, h1⟩ | ⟨e1, h1⟩ | ⟨e1, h1⟩ <;> omega)) | (go_at_call 74; with_reducible refine (ssign_any s1 _ (by omega)).mono ?_; rintro e w5 ⟨rfl, rfl⟩) | (go_at_call 86; with_reducible refine (fail_f _ _ _ (by first | rfl | exact decide_eq_false (by omega))).mono ?_; rintro e w6 ⟨rfl, rfl⟩) | (go_at_call 87; with_reducible refine (small_yes _ (hN1.below (below_alloc (Below.refl _ _) _)) (by omega)).mono ?_; rintro e w7 ⟨rfl, hb7⟩) | (go_at_call 86; with_reducible refine (fail_t _ _ _ (by first | rfl | exact hbig')).mono ?_; rintro e w8 ⟨rfl, rfl⟩))
          have HO3 := ((Own.of hb1).next (below_alloc (Below.refl _ _) (.cells #[.int .i64 s1, .slice A1 k1 c1] 71))).next hb7
          exact door_caught isDoor_Factor _ (.int .i64 0) (.tuple #[.slice none 0 0, .int .i64 13]) _ _ (HG.out.below HO3.below) HO3.lt HO3.cell HO3.frz (fun W' h => by simp [results, Tryz.results26, go_sem, h])
            (fun W' h => ⟨_, rfl, hnil W', HO3.below.trans h⟩)
        · go_enter_defers Tryz.func26, Tryz.ntmps26
          go_wp2_with (first | (go_at_call 69; with_reducible refine (taken_ok s _ hs hok).mono ?_; rintro e w1 ⟨s1, A1, k1, c1, rfl, hN1, hb1⟩; rw [HN.out] at hN1; have hs1 : -1 ≤ s1 ∧ s1 ≤ 1 ∧ ¬ s1 < 1 := by (rw [hN1.sign]; rcases sgn_cases n with ⟨e1, h1⟩ | ⟨e1, h1⟩ | ⟨e1, h1⟩ <;> omega)) | (go_at_call 74; with_reducible refine (ssign_any s1 _ (by omega)).mono ?_; rintro e w5 ⟨rfl, rfl⟩) | (go_at_call 86; with_reducible refine (fail_f _ _ _ (by first | rfl | exact decide_eq_false (by omega))).mono ?_; rintro e w6 ⟨rfl, rfl⟩) | (go_at_call 87; with_reducible refine (small_no _ (hN1.below (below_alloc (Below.refl _ _) _)) (by omega)).mono ?_; rintro e w7 ⟨rfl, hb7⟩) | (go_at_call 86; with_reducible refine (fail_t _ _ _ (by first | rfl | exact hbig')).mono ?_; rintro e w8 ⟨rfl, rfl⟩))
          have HO3 := ((Own.of hb1).next (below_alloc (Below.refl _ _) (.cells #[.int .i64 s1, .slice A1 k1 c1] 71))).next hb7
          exact door_caught isDoor_Factor _ (.int .i64 0) (.tuple #[.slice none 0 0, .int .i64 13]) _ _ (HG.out.below HO3.below) HO3.lt HO3.cell HO3.frz (fun W' h => by simp [results, Tryz.results26, go_sem, h])
            (fun W' h => ⟨_, rfl, hnil W', HO3.below.trans h⟩)
      · rw [if_neg hbig] at hr
        obtain ⟨N, hN⟩ : ∃ N : Nat, n = (N : Int) := ⟨n.toNat, by omega⟩
        have hbig' : decide ((1000000 : Int) < n) = false := decide_eq_false hbig
        have hsm : n.natAbs < 1000000000 := by omega
        have HNN := Lib.hid hN
        clear hN hbig h1
        go_enter_defers Tryz.func26, Tryz.ntmps26
        go_wp2_with (first | (go_at_call 69; with_reducible refine (taken_ok s _ hs hok).mono ?_; rintro e w1 ⟨s1, A1, k1, c1, rfl, hN1, hb1⟩; rw [HN.out] at hN1; have hs1 : -1 ≤ s1 ∧ s1 ≤ 1 ∧ ¬ s1 < 1 := by (have := H1.out; rw [hN1.sign]; rcases sgn_cases n with ⟨e1, h1⟩ | ⟨e1, h1⟩ | ⟨e1, h1⟩ <;> omega)) | (go_at_call 74; with_reducible refine (ssign_any s1 _ (by omega)).mono ?_; rintro e w5 ⟨rfl, rfl⟩) | (go_at_call 86; with_reducible refine (fail_f _ _ _ (by first | rfl | exact decide_eq_false (by omega))).mono ?_; rintro e w6 ⟨rfl, rfl⟩) | (go_at_call 87; with_reducible refine (small_yes _ (hN1.below (below_alloc (Below.refl _ _) _)) hsm).mono ?_; rintro e w7 ⟨rfl, hb7⟩) | (go_at_call 86; with_reducible refine (fail_f _ _ _ (by first | rfl | exact hbig')).mono ?_; rintro e w8 ⟨rfl, rfl⟩))
        have HO := Lib.hid (((Own.of hb1).next (below_alloc (Below.refl _ _) (.cells #[.int .i64 s1, .slice A1 k1 c1] 71))).next hb7)
        have HR := Lib.hid hr
        have HNB : Hid (1 ≤ N ∧ N ≤ 1000000) := Lib.hid (by have := H1.out; have := HNN.out; have := of_decide_eq_false hbig'; omega)
        have hNn := HNN.out
        subst hNn
        clear hN1 hb1 hb7 hbig' hsm hs1 hr HNN H1
        go_loopw [2, 5, 7] (fun v2 v5 v7 wr => ∃ (l : List Nat) (m p : Nat), v5 = .int .i64 m ∧ v7 = .int .i64 p ∧ Hid (Kd.R Kd.string 9 wr (w.heap.size + 1) (fun k => w.heap.size + 1 ≤ k) v2 (bts (l.map Mw.dtxt))) ∧ Hid (l ++ Mw.fs p m = Mw.fs 2 N) ∧ Hid (2 ≤ p ∧ 1 ≤ m ∧ l.length + m ≤ 1000000 ∧ p ≤ 1001) ∧ Hid (∀ d, 2 ≤ d → d < p → m % d ≠ 0) ∧ Hid (Own w (.int .i64 0) wr)) (fun _ _ v7 _ => 1001 - (intOf v7).toNat)
        case atStart => exact ⟨[], N, 2, rfl, rfl, Lib.hid (Kd.R_nil _ _ _ _ _), Lib.hid rfl, Lib.hid (by have := HNB.out; simp; omega), Lib.hid (by intro d h2 h3; omega), HO⟩
        case round =>
          obtain ⟨l, m, p, rfl, rfl, HRW, HFS, HBD, HND, HO2⟩ := hrel
          have hbd := HBD.out
          have hp1 : 2 ≤ p := hbd.1
          have hp2 : p ≤ 1001 := hbd.2.2.2
          have hm1 : m ≤ 1000000 := by omega
          obtain ⟨q, hq⟩ : ∃ q : Nat, p * p = q := ⟨_, rfl⟩
          have hq2 : q ≤ 1002001 := by rw [← hq]; exact Nat.mul_le_mul hp2 hp2
          have hqi : (p : Int) * (p : Int) = (q : Int) := by rw [← hq]; simp
          have HQ := Lib.hid hq
          clear hbd hq
          by_cases hle : q ≤ m
          · have hle' : (q : Int) ≤ (m : Int) := by omega
            have hp3 : p ≤ 1000 := by
              rcases Nat.lt_or_ge p 1001 with h | h
              · omega
              · have h9 := Nat.mul_le_mul h h
                rw [HQ.out] at h9; omega
            go_wp2_with fail
            go_loopw [2, 5] (fun v2 v5 wr => ∃ (l : List Nat) (m : Nat), v5 = .int .i64 m ∧ Hid (Kd.R Kd.string 9 wr (w.heap.size + 1) (fun k => w.heap.size + 1 ≤ k) v2 (bts (l.map Mw.dtxt))) ∧ Hid (l ++ Mw.fs p m = Mw.fs 2 N) ∧ Hid (1 ≤ m ∧ l.length + m ≤ 1000000) ∧ Hid (∀ d, 2 ≤ d → d < p → m % d ≠ 0) ∧ Hid (Own w (.int .i64 0) wr)) (fun _ v5 _ => (intOf v5).toNat)
            case atStart => exact ⟨l, m, rfl, HRW, HFS, Lib.hid (by have := HBD.out; omega), HND, HO2⟩
            case round =>
              obtain ⟨l2, m2, rfl, HRW3, HFS3, HBD3, HND3, HO3⟩ := hrel
              clear HRW HFS HBD HND HO2 hle hle' hm1
              have hbd := HBD3.out
              have hm1 : m2 ≤ 1000000 := by omega
              have hm0 : 1 ≤ m2 := hbd.1
              obtain ⟨rm, hrm⟩ : ∃ x, m2 % p = x := ⟨_, rfl⟩
              obtain ⟨qt, hqt⟩ : ∃ x, m2 / p = x := ⟨_, rfl⟩
              have hrl : rm < p := by rw [← hrm]; exact Nat.mod_lt _ (by omega)
              have hql : qt ≤ 1000000 := by rw [← hqt]; exact Nat.le_trans (Nat.div_le_self _ _) hm1
              have hri : (m2 : Int).tmod (p : Int) = (rm : Int) := by rw [← hrm]; rfl
              have hqi2 : (m2 : Int).tdiv (p : Int) = (qt : Int) := by rw [← hqt]; rfl
              have hpz : ¬ ((p : Int) = 0) := by omega
              have HRM := Lib.hid hrm
              have HQT := Lib.hid hqt
              clear hrm hqt hbd
              by_cases hz : rm = 0
              · subst hz
                have hpz2 : ¬ p = 0 := by omega
                have hwq : IntKind.i64.wrap (qt : Int) = (qt : Int) := wrap_small _ (by omega) (by omega)
                go_wp2_with fail
                refine wp_region_goT (fun _ => True) 10 (by kernel_rfl) (by kernel_rfl) trivial (fun hHeld => ?_)
                refine goT_take 0 (v := ?_) rfl (by decide +kernel) (fun _ _ _ h => bodyPostD_put (by decide +kernel) h) (Or.inl ⟨by rfl, ?_⟩) (by assumption) ?_
                rotate_left
                · (intro w_ hSw; (try dsimp only at hSw); go_simp; (try with_reducible rfl))
                try simp only [Act.put, List.setIfInBounds_toArray, List.set_cons_zero, List.set_cons_succ]
                refine goT_take 1 (v := ?_) rfl (by decide +kernel) (fun _ _ _ h => bodyPostD_put (by decide +kernel) h) (Or.inl ⟨by rfl, ?_⟩) (by assumption) ?_
                rotate_left
                · (intro w_ hSw; (try dsimp only at hSw); go_simp; (try with_reducible rfl))
                try simp only [Act.put, List.setIfInBounds_toArray, List.set_cons_zero, List.set_cons_succ]
                refine goT_take 6 (v := ?_) rfl (by decide +kernel) (fun _ _ _ h => bodyPostD_put (by decide +kernel) h) (Or.inl ⟨by rfl, ?_⟩) (by assumption) ?_
                rotate_left
                · (intro w_ hSw; (try dsimp only at hSw); go_simp; (try with_reducible rfl))
                try simp only [Act.put, List.setIfInBounds_toArray, List.set_cons_zero, List.set_cons_succ]
                refine goT_take 7 (v := ?_) rfl (by decide +kernel) (fun _ _ _ h => bodyPostD_put (by decide +kernel) h) (Or.inl ⟨by rfl, ?_⟩) (by assumption) ?_
                rotate_left
                · (intro w_ hSw; (try dsimp only at hSw); go_simp; (try with_reducible rfl))
                try simp only [Act.put, List.setIfInBounds_toArray, List.set_cons_zero, List.set_cons_succ]
                refine goT_take 8 (v := ?_) rfl (by decide +kernel) (fun _ _ _ h => bodyPostD_put (by decide +kernel) h) (Or.inl ⟨by rfl, ?_⟩) (by assumption) ?_
                rotate_left
                · (intro w_ hSw; (try dsimp only at hSw); go_simp; (try with_reducible rfl))
                try simp only [Act.put, List.setIfInBounds_toArray, List.set_cons_zero, List.set_cons_succ]
                refine goT_step 2 rfl (by decide +kernel) (fun K_ hK => ?_)
                go_simp
                refine (of_any p _ (by omega) (by omega)).mono ?_
                rintro e w8 ⟨s4, A4, k4, c4, rfl, hN4, hb8⟩
                clear hwq hpz2
                have HO8 := Lib.hid ((HO3.out.next (below_drew (Below.refl _ _) : Below wr.heap.size wr wr.drew)).next hb8)
                have HB8 : Hid (Below wr.heap.size wr w8) := Lib.hid (below_of_drew hb8)
                have hT8 := HT.out _ HO8.out.below
                clear hb8
                go_wp2_with fail
                refine hK.out _ _ trivial (fun hHeld => ?_)
                clear hK
                try simp only [Act.put, List.setIfInBounds_toArray, List.set_cons_zero, List.set_cons_succ]
                refine goT_step 3 rfl (by decide +kernel) (fun K_ hK => ?_)
                go_simp
                refine (given_nat _ hN4 (by omega) hT8).mono ?_
                rintro e w9 ⟨rfl, hb9⟩
                have HO9 := Lib.hid (HO8.out.next hb9)
                have HB9 := Lib.hid (HB8.out.trans (hb9.mono HB8.out.size))
                clear hb9 hN4 hT8
                go_wp2_with fail
                refine hK.out _ _ trivial (fun hHeld => ?_)
                clear hK
                try simp only [Act.put, List.setIfInBounds_toArray, List.set_cons_zero, List.set_cons_succ]
                refine goT_step 4 rfl (by decide +kernel) (fun K_ hK => ?_)
                go_simp
                refine hK.out _ _ trivial (fun hHeld => ?_)
                clear hK
                try simp only [Act.put, List.setIfInBounds_toArray, List.set_cons_zero, List.set_cons_succ]
                refine goT_step 5 rfl (by decide +kernel) (fun K_ hK => ?_)
                refine Kd.R_append_step Kd.string (w0 := w9) (w.heap.size + 1) (by rfl) (.tmp 39) (.tmp 43) 27 9 (.string ⟨#[]⟩) 16 rfl Tryz.underlying27 info_str rfl (by decide) (by omega) u2 (bts (l2.map Mw.dtxt)) ⟨(Mw.dtxt p).toArray⟩ [.string ⟨(Mw.dtxt p).toArray⟩] (fun k => w.heap.size + 1 ≤ k) (fun _ => False) rfl rfl ?aP (fun _ hk => hk.elim) ?aF ?aO ?aB ?aS ?aL ?_
                case aP => exact rfl
                case aF => exact fun k hk => Nat.le_trans HO9.out.lt hk
                case aO => exact Kd.R_below HRW3.out HB9.out
                case aB => exact Below.refl _ _
                case aS => exact HO9.out.lt
                case aL => have := HBD3.out; rw [bts_len]; omega
                intro v1 w10 hR1 hB1 hg1 hat1
                rw [← bts_snoc] at hR1
                have HR1 := Lib.hid hR1
                have HO10 := Lib.hid (HO9.out.nextB (Nat.lt_succ_self _) hB1)
                clear hR1 hB1 hg1 hat1
                refine hK.out _ _ trivial (fun hHeld => ?_)
                clear hK
                try simp only [Act.put, List.setIfInBounds_toArray, List.set_cons_zero, List.set_cons_succ]
                refine goT_step 9 rfl (by decide +kernel) (fun K_ hK => ?_)
                go_simp
                refine hK.out _ _ trivial (fun hHeld => ?_)
                clear hK
                try simp only [Act.put, List.setIfInBounds_toArray, List.set_cons_zero, List.set_cons_succ]
                refine goT_done (by decide +kernel) ?_
                go_wp2
                have hlt : qt < m2 := by rw [← HQT.out]; exact Nat.div_lt_self hm0 hp1
                have hmp : p * qt = m2 := by have := Nat.div_add_mod m2 p; rw [HRM.out, HQT.out] at this; omega
                have hq1 : 1 ≤ qt := Nat.pos_of_ne_zero (fun h0 => by rw [h0] at hmp; omega)
                refine ⟨⟨l2 ++ [p], qt, rfl, HR1, Lib.hid ?_, Lib.hid ?_, Lib.hid ?_, HO10⟩, ?_⟩
                · have h := HFS3.out
                  rw [Mw.fs_div hp1 hm0 HRM.out, HQT.out] at h
                  rw [List.append_assoc]; exact h
                · have := HBD3.out
                  rw [List.length_append, List.length_singleton]; omega
                · rw [← HQT.out]; exact Mw.nodiv_div HND3.out HRM.out
                · simp only [intOf]; omega
              · have hz' : ¬ ((rm : Int) = 0) := by omega
                go_wp2_with fail
                refine ⟨⟨l2, m2, p + 1, rfl, by simp, HRW3, ?_, ?_, ?_, HO3⟩, ?_⟩
                · exact Lib.hid (by rw [← Mw.fs_next hp1 (by rw [HRM.out]; exact hz)]; exact HFS3.out)
                · exact Lib.hid (by have := HBD3.out; omega)
                · exact Lib.hid (fun d h2 h3 => by
                    rcases Nat.lt_or_ge d p with h4 | h4
                    · exact HND3.out d h2 h4
                    · obtain rfl : d = p := by omega
                      rw [HRM.out]; exact hz)
                · simp only [intOf]; omega
          · have hle' : ¬ (q : Int) ≤ (m : Int) := by omega
            have q0 := HO2.out.cell
            have f0 := HO2.out.frz
            have hend := Mw.fs_end (n := m) (p := p) (by have := HBD.out; omega) hp1 (by rw [HQ.out]; omega) HND.out
            by_cases hm2 : 1 < m
            · have hm2' : (1 : Int) < (m : Int) := by omega
              rw [if_pos hm2] at hend
              have HE := Lib.hid hend
              clear hend
              go_wp2_with (first | (go_at_call 73; with_reducible refine (of_any m _ (by omega) (by omega)).mono ?_; rintro e w8 ⟨s4, A4, k4, c4, rfl, hN4, hb8⟩; refine Hid.out ?_))
              have HO8 := Lib.hid (HO2.out.next hb8)
              have hT8 := HT.out _ HO8.out.below
              have HB8 := Lib.hid hb8
              clear hb8
              refine Lib.hid ?_
              go_wp2_with (first | (go_at_call 71; with_reducible refine (given_nat _ hN4 hm1 hT8).mono ?_; rintro e w9 ⟨rfl, hb9⟩; refine Hid.out ?_))
              have HO9 := Lib.hid (HO8.out.next hb9)
              have HB9 := Lib.hid (HB8.out.trans (hb9.mono HB8.out.size))
              clear hb9 hN4 hT8
              refine Lib.hid ?_
              go_wp2_with (first | ((with_reducible refine gate_builtin (b := .append) (xs := #[.tmp 50, .tmp 54]) rfl ?_); at_builtin; refine Kd.R_append Kd.string (w0 := w9) (w.heap.size + 1) rfl (.tmp 50) (.tmp 54) 27 9 (.string ⟨#[]⟩) 16 rfl Tryz.underlying27 info_str rfl (by decide) (by omega) u2 (bts (l.map Mw.dtxt)) ⟨(Mw.dtxt m).toArray⟩ [.string ⟨(Mw.dtxt m).toArray⟩] (fun k => w.heap.size + 1 ≤ k) (fun _ => False) rfl rfl rfl (fun _ hk => hk.elim) (fun k hk => Nat.le_trans HO9.out.lt hk) (Kd.R_below HRW.out HB9.out) (Below.refl _ _) HO9.out.lt (by have := HBD.out; rw [bts_len]; omega) ?_; intro v1 w10 hR1 hB1 hg1 hat1; have HO10 := Lib.hid (HO9.out.nextB (Nat.lt_succ_self _) hB1); have q0 := HO10.out.cell; have f0 := HO10.out.frz))
              rw [← bts_snoc] at hR1
              have hr := HR.out
              have hfs := HFS.out
              rw [HE.out] at hfs
              rw [Int.toNat_natCast, ← hfs] at hr
              cases hr
              exact door_leave_at isDoor_Factor _ (.int .i64 0) (.tuple #[_, .int .i64 0]) _ (World.cell?_setCell_same _ _ _ q0) (by simp [f0]) (fun W' h => by simp [results, Tryz.results26, go_sem, h])
                ⟨_, rfl, Kd.R_lower (R_free (R_cell (R_cell hR1 _) _)) (by omega), (HO10.out.below.setCell (Nat.le_refl _) _).setCell (Nat.le_refl _) _⟩
            · have hm2' : ¬ (1 : Int) < (m : Int) := by omega
              rw [if_neg hm2] at hend
              have HE := Lib.hid hend
              clear hend
              go_wp2_with fail
              have hr := HR.out
              have hfs := HFS.out
              rw [HE.out, List.append_nil] at hfs
              rw [Int.toNat_natCast, ← hfs] at hr
              cases hr
              exact door_leave_at isDoor_Factor _ (.int .i64 0) (.tuple #[_, .int .i64 0]) _ (World.cell?_setCell_same _ _ _ q0) (by simp [f0]) (fun W' h => by simp [results, Tryz.results26, go_sem, h])
                ⟨_, rfl, Kd.R_lower (R_free (R_cell (R_cell HRW.out _) _)) (by omega), (HO2.out.below.setCell (Nat.le_refl _) _).setCell (Nat.le_refl _) _⟩
  · rw [Mw.factor, if_neg hok] at hr
    cases hr
    go_enter_defers Tryz.func26, Tryz.ntmps26
    go_wp2_with (first | (go_at_call 69; with_reducible refine (taken_bad s _ hok).mono ?_; rintro e w1 ⟨rfl, hb1⟩; obtain ⟨q0, f0, z0, hB⟩ := own_cell hb1))
    exact door_caught isDoor_Factor _ (.int .i64 0) (.tuple #[.slice none 0 0, .int .i64 (Mw.terr s.data.toList)]) _ _ (HG.out.below hB) z0 q0 f0 (fun W' h => by simp [results, Tryz.results26, go_sem, h])
      (fun W' h => ⟨_, rfl, hnil W', hB.trans h⟩)
end Go.Proofs.YtjieekkkaekclaaGreatDoor
namespace Go.Proofs.YtjieekkkaekclaaGreatDoor.PW
open Go.RowKit Go.Proofs.YtjieekkkaekclaaGreatDoorW.PrintWords Go.Proofs.YtjieekkkaekclaaGreatDoorW.PrintLast Go.Proofs.YtjieekkkaekclaaGreatDoorW.PrintMore
attribute [local go_sem] max2_int min2_int max_two min_two max_three min_three max_four min_four
set_option linter.unusedVariables false
set_option linter.unusedSimpArgs false
def errW : Option Int → Value
  | none => .nilIface
  | some c => .iface 0 (.int .i64 c)
theorem errW_none : errW none = .nilIface := rfl
theorem errW_some (c : Int) : errW (some c) = .iface 0 (.int .i64 c) := rfl
end Go.Proofs.YtjieekkkaekclaaGreatDoor.PW
namespace Go.Proofs.YtjieekkkaekclaaGreatDoor.PW
open Go.RowKit Go.Proofs.YtjieekkkaekclaaGreatDoorW.PrintWords Go.Proofs.YtjieekkkaekclaaGreatDoorW.PrintLast Go.Proofs.YtjieekkkaekclaaGreatDoorW.PrintMore
attribute [local go_sem] max2_int min2_int max_two min_two max_three min_three max_four min_four
set_option linter.unusedVariables false
set_option linter.unusedSimpArgs false
def metewandkit_EqTexts.l0 : Nat → List ByteArray → List ByteArray → Int → Option (Bool)
  | 0, _, _, _ => none
  | k + 1, x0, x1, x5 => if x5 < (x0.length : Int) then (if 0 ≤ x5 then (if x5 < (x1.length : Int) then (if (rdOf ByteArray.empty x0 x5).toList = (rdOf ByteArray.empty x1 x5).toList then (metewandkit_EqTexts.l0 k x0 x1 (wrap64 (x5 + 1))) else (some false)) else (none)) else (none)) else (some true)
def metewandkit_EqTexts.f (k : Nat) (l0 : List ByteArray) (l1 : List ByteArray) : Option (Bool) := if (l0.length : Int) = (l1.length : Int) then (metewandkit_EqTexts.l0 k l0 l1 0) else (some false)
set_option maxHeartbeats 8000000 in
set_option maxRecDepth 100000 in
theorem metewandkit_EqTexts.calls (k : Nat) (A0 : Option Addr) (c0 : Nat) (l0 : List ByteArray) (A1 : Option Addr) (c1 : Nat) (l1 : List ByteArray) (r : Bool) (w : World) (hr0 : Kd.C Kd.string w A0 l0.length l0) (hc0 : l0.length ≤ c0) (hr1 : Kd.C Kd.string w A1 l1.length l1) (hc1 : l1.length ≤ c1) (h : metewandkit_EqTexts.f k l0 l1 = some r) :
    Calls Tryz.prog 28 #[.slice A0 l0.length c0, .slice A1 l1.length c1] w fun e w' => e = .returned (.bool r) ∧ Drawn0 w w' := by
  have HR0 := Aside0.mk hr0
  have HC0 := Aside0.mk hc0
  clear hr0 hc0
  have HR1 := Aside0.mk hr1
  have HC1 := Aside0.mk hc1
  clear hr1 hc1
  have H : (if (l0.length : Int) = (l1.length : Int) then (metewandkit_EqTexts.l0 k l0 l1 0) else (some false)) = some r := h
  clear h
  by_cases c3 : (l0.length : Int) = (l1.length : Int)
  · rw [if_pos c3] at H
    have c3b0 : ((l0.length : Int) == (l1.length : Int)) = true := beq_iff_eq.mpr c3
    have c3b1 : ((l0.length : Int) != (l1.length : Int)) = false := bne_eq_false_iff_eq.mpr c3
    have c3b2 : (l0.length == l1.length) = true := by first | simpa using c3 | (simp at c3 ⊢; omega)
    clear c3
    have H' := Aside0.mk H
    clear H
    go_enter Tryz.func28, Tryz.ntmps28
    go_wp2
    repeat (go_quiet (fail); try go_wp2)
    go_loopg [5] k (fun kq v5 w' => ∃ (x5_1 : Int), v5 = .int .i64 x5_1 ∧ Aside0 (metewandkit_EqTexts.l0 kq l0 l1 x5_1 = some r) ∧ Aside0 (kq ≤ k) ∧ Drawn0 w w')
    case atStart => exact ⟨(0), (by first | rfl | (simp; done) | (simp [*]; done)), H', ⟨Nat.le_refl _⟩, by repeat (first | exact Drawn0.refl _ | apply Drawn0.step)⟩
    case round =>
      clear H'
      try clear c1
      try clear c2
      try clear p2
      try clear c3
      try clear c3b0
      try clear c3b1
      try clear c3b2
      obtain ⟨x5_1, rfl, HA, HK1, ⟨m1, rfl⟩⟩ := hrel
      cases gk with
      | zero => exact absurd HA.out (by simp [metewandkit_EqTexts.l0])
      | succ k1 =>
        have H := HA.out
        clear HA
        simp only [metewandkit_EqTexts.l0] at H
        by_cases c4 : x5_1 < (l0.length : Int)
        · rw [if_pos c4] at H
          have c4b0 : decide (x5_1 < (l0.length : Int)) = true := decide_eq_true c4
          clear c4
          by_cases c5 : 0 ≤ x5_1
          · rw [if_pos c5] at H
            have c5b0 : decide (0 ≤ x5_1) = true := decide_eq_true c5
            clear c5
            by_cases c6 : x5_1 < (l1.length : Int)
            · rw [if_pos c6] at H
              have c6b0 : decide (x5_1 < (l1.length : Int)) = true := decide_eq_true c6
              clear c6
              by_cases c7 : (rdOf ByteArray.empty l0 x5_1).toList = (rdOf ByteArray.empty l1 x5_1).toList
              · rw [if_pos c7] at H
                have c7b0 : ((rdOf ByteArray.empty l0 x5_1).toList == (rdOf ByteArray.empty l1 x5_1).toList) = true := beq_iff_eq.mpr c7
                have c7b1 : ((rdOf ByteArray.empty l0 x5_1).toList != (rdOf ByteArray.empty l1 x5_1).toList) = false := bne_eq_false_iff_eq.mpr c7
                clear c7
                have H' := Aside0.mk H
                clear H
                have p101 : 0 ≤ (x5_1 : Int) := of_decide_eq_true (by first | (with_reducible assumption) | assumption)
                have q101 : x5_1 < (l0.length : Int) := of_decide_eq_true (by first | (with_reducible assumption) | assumption)
                obtain ⟨ad101, e101, hx101_0⟩ := Kd.at_string HR0.out x5_1 p101 q101
                cases e101
                replace p101 := eq_true p101
                replace q101 := eq_true q101
                have p102 : 0 ≤ (x5_1 : Int) := of_decide_eq_true (by first | (with_reducible assumption) | assumption)
                have q102 : x5_1 < (l1.length : Int) := of_decide_eq_true (by first | (with_reducible assumption) | assumption)
                obtain ⟨ad102, e102, hx102_0⟩ := Kd.at_string HR1.out x5_1 p102 q102
                cases e102
                replace p102 := eq_true p102
                replace q102 := eq_true q102
                go_wp2
                repeat (go_quiet (fail); try go_wp2)
                go_roundg k1
                case measure => have := HK1.out; omega
                case rel => exact ⟨(wrap64 (x5_1 + 1)), (by first | rfl | (simp; done) | (simp [*]; done)), H', ⟨by have := HK1.out; omega⟩, by repeat (first | exact Drawn0.refl _ | apply Drawn0.step)⟩
              · rw [if_neg c7] at H
                have c7b0 : ((rdOf ByteArray.empty l0 x5_1).toList == (rdOf ByteArray.empty l1 x5_1).toList) = false := beq_eq_false_iff_ne.mpr c7
                have c7b1 : ((rdOf ByteArray.empty l0 x5_1).toList != (rdOf ByteArray.empty l1 x5_1).toList) = true := bne_iff_ne.mpr c7
                obtain rfl := Option.some.inj H
                have p101 : 0 ≤ (x5_1 : Int) := of_decide_eq_true (by first | (with_reducible assumption) | assumption)
                have q101 : x5_1 < (l0.length : Int) := of_decide_eq_true (by first | (with_reducible assumption) | assumption)
                obtain ⟨ad101, e101, hx101_0⟩ := Kd.at_string HR0.out x5_1 p101 q101
                cases e101
                replace p101 := eq_true p101
                replace q101 := eq_true q101
                have p102 : 0 ≤ (x5_1 : Int) := of_decide_eq_true (by first | (with_reducible assumption) | assumption)
                have q102 : x5_1 < (l1.length : Int) := of_decide_eq_true (by first | (with_reducible assumption) | assumption)
                obtain ⟨ad102, e102, hx102_0⟩ := Kd.at_string HR1.out x5_1 p102 q102
                cases e102
                replace p102 := eq_true p102
                replace q102 := eq_true q102
                go_wp2
                repeat (go_quiet (fail); try go_wp2)
                go_ret
                exact ⟨by first | rfl | (simp; done) | (simp [*]; done), by repeat (first | exact Drawn0.refl _ | apply Drawn0.step)⟩
            · rw [if_neg c6] at H
              exact absurd H (by simp)
          · rw [if_neg c5] at H
            exact absurd H (by simp)
        · rw [if_neg c4] at H
          have c4b0 : decide (x5_1 < (l0.length : Int)) = false := decide_eq_false c4
          clear c4
          obtain rfl := Option.some.inj H
          go_wp2
          repeat (go_quiet (fail); try go_wp2)
          go_ret
          exact ⟨by first | rfl | (simp; done) | (simp [*]; done), by repeat (first | exact Drawn0.refl _ | apply Drawn0.step)⟩
  · rw [if_neg c3] at H
    have c3b0 : ((l0.length : Int) == (l1.length : Int)) = false := beq_eq_false_iff_ne.mpr c3
    have c3b1 : ((l0.length : Int) != (l1.length : Int)) = true := bne_iff_ne.mpr c3
    have c3b2 : (l0.length == l1.length) = false := by first | simpa using c3 | (simp at c3 ⊢; omega)
    obtain rfl := Option.some.inj H
    go_enter Tryz.func28, Tryz.ntmps28
    go_wp2
    repeat (go_quiet (fail); try go_wp2)
    go_ret
    exact ⟨by first | rfl | (simp; done) | (simp [*]; done), by repeat (first | exact Drawn0.refl _ | apply Drawn0.step)⟩
end Go.Proofs.YtjieekkkaekclaaGreatDoor.PW
namespace Go.Proofs.YtjieekkkaekclaaGreatDoor
open Go Go.RowKit Go.Proofs.YtjieekkkaekclaaGreatDoorW.PrintWords
theorem drawn0_below {w w' : World} (h : Drawn0 w w') : Below w.heap.size w w' := by obtain ⟨d, rfl⟩ := h; exact ⟨rfl, rfl, rfl, Nat.le_refl _, fun _ _ => rfl⟩
theorem kn_Mul_0 (W : World) (hg : Ety W) (ht : Tab W) : Calls Tryz.prog 45 #[.string ⟨#[45, 49, 50, 51, 52, 53]⟩, .string ⟨#[54, 55, 56, 57]⟩] W fun e w' => e = .returned (.tuple #[.string ⟨#[45, 56, 51, 56, 49, 48, 50, 48, 53]⟩, .int .i64 (0)]) ∧ Below W.heap.size W w' := by
  have h := wmul_any (⟨#[45, 49, 50, 51, 52, 53]⟩ : ByteArray) (⟨#[54, 55, 56, 57]⟩ : ByteArray) W (by decide) (by decide) hg ht
  rw [show Mw.both (fun a b => a * b) (⟨#[45, 49, 50, 51, 52, 53]⟩ : ByteArray).data.toList (⟨#[54, 55, 56, 57]⟩ : ByteArray).data.toList = ([45, 56, 51, 56, 49, 48, 50, 48, 53], 0) from by decide +kernel] at h
  exact h
theorem kn_Floor_1 (W : World) (hg : Ety W) (ht : Tab W) : Calls Tryz.prog 38 #[.string ⟨#[45, 55]⟩, .string ⟨#[50]⟩] W fun e w' => e = .returned (.tuple #[.string ⟨#[45, 52]⟩, .string ⟨#[49]⟩, .int .i64 (0)]) ∧ Below W.heap.size W w' := by
  have h := wfloor_any (⟨#[45, 55]⟩ : ByteArray) (⟨#[50]⟩ : ByteArray) W (by decide) (by decide) hg ht
  rw [show Mw.parted Int.fdiv Int.fmod (⟨#[45, 55]⟩ : ByteArray).data.toList (⟨#[50]⟩ : ByteArray).data.toList = ([45, 52], [49], 0) from by decide +kernel] at h
  exact h
theorem kn_Gcd_2 (W : World) (hg : Ety W) (ht : Tab W) : Calls Tryz.prog 21 #[.string ⟨#[49, 50]⟩, .string ⟨#[49, 56]⟩] W fun e w' => e = .returned (.tuple #[.string ⟨#[54]⟩, .string ⟨#[50]⟩, .string ⟨#[45, 49]⟩, .int .i64 (0)]) ∧ Below W.heap.size W w' := by
  have h := gcd_any (⟨#[49, 50]⟩ : ByteArray) (⟨#[49, 56]⟩ : ByteArray) W (by decide) (by decide) hg ht
  rw [show Mw.gcd (⟨#[49, 50]⟩ : ByteArray).data.toList (⟨#[49, 56]⟩ : ByteArray).data.toList = ([54], [50], [45, 49], 0) from by decide +kernel] at h
  exact h
theorem kn_PowMod_3 (W : World) (hg : Ety W) (ht : Tab W) : Calls Tryz.prog 49 #[.string ⟨#[51]⟩, .string ⟨#[49, 48, 48]⟩, .string ⟨#[55]⟩] W fun e w' => e = .returned (.tuple #[.string ⟨#[52]⟩, .int .i64 (0)]) ∧ Below W.heap.size W w' := by
  have h := powmod_any (⟨#[51]⟩ : ByteArray) (⟨#[49, 48, 48]⟩ : ByteArray) (⟨#[55]⟩ : ByteArray) W (by decide) (by decide) (by decide) hg ht
  rw [show Mw.wpm (⟨#[51]⟩ : ByteArray).data.toList (⟨#[49, 48, 48]⟩ : ByteArray).data.toList (⟨#[55]⟩ : ByteArray).data.toList = ([52], 0) from by decide +kernel] at h
  exact h
theorem kn_Base_4 (W : World) (hg : Ety W) (ht : Tab W) : Calls Tryz.prog 61 #[.string ⟨#[45, 50, 53, 53]⟩, .int .i64 (16)] W fun e w' => e = .returned (.tuple #[.string ⟨#[45, 102, 102]⟩, .int .i64 (0)]) ∧ Below W.heap.size W w' := by
  have h := base_any (⟨#[45, 50, 53, 53]⟩ : ByteArray) (16) W (by decide) hg ht
  rw [show Mw.wbase (⟨#[45, 50, 53, 53]⟩ : ByteArray).data.toList (16) = ([45, 102, 102], 0) from by decide +kernel] at h
  exact h
theorem kn_Root_5 (W : World) (hg : Ety W) (ht : Tab W) : Calls Tryz.prog 36 #[.string ⟨#[57, 57]⟩, .int .i64 (2)] W fun e w' => e = .returned (.tuple #[.string ⟨#[57]⟩, .int .i64 (0)]) ∧ Below W.heap.size W w' := by
  have h := root_any (⟨#[57, 57]⟩ : ByteArray) (2) W (by decide) hg ht
  rw [show Mw.wroot (⟨#[57, 57]⟩ : ByteArray).data.toList (2) = ([57], 0) from by decide +kernel] at h
  exact h
theorem kn_Factor (W : World) (hg : Ety W) (ht : Tab W) : Calls Tryz.prog 26 #[.string ⟨#[51, 54, 48]⟩] W fun e w' => ∃ v : Value, e = .returned (.tuple #[v, .int .i64 0]) ∧ Kd.R Kd.string 9 w' W.heap.size (fun _ => True) v (bts [[50], [50], [50], [51], [51], [53]]) ∧ Below W.heap.size W w' := by
  have h := factor_any (⟨#[51, 54, 48]⟩ : ByteArray) W (by decide) hg ht
  rw [show Mw.factor (⟨#[51, 54, 48]⟩ : ByteArray).data.toList = ([[50], [50], [50], [51], [51], [53]], 0) from by decide +kernel] at h
  exact h
set_option maxRecDepth 100000 in
set_option maxHeartbeats 3200000 in
theorem counted_any (w : World) (hg : Ety w) (htab : Tab w) : Calls Tryz.prog 18 #[] w fun e w' => e = .returned (.bool true) ∧ Below w.heap.size w w' := by
  have HG := Lib.hid hg
  have HTW := Lib.hid htab
  have HT := Lib.hid (Lib.tabBelow_of_tabIs htab)
  clear hg htab
  go_enter Tryz.func18, Tryz.ntmps18
  go_wp2_with (first | (go_at_call 45; have hE := HG.out; have hT := HTW.out; with_reducible refine (kn_Mul_0 _ hE hT).mono ?_; rintro e w1 ⟨rfl, hb1⟩; have HB1 := Lib.hid hb1; clear hb1 hE hT) | (go_at_call 38; have hE := HG.out.below HB1.out; have hT := HT.out _ HB1.out; with_reducible refine (kn_Floor_1 _ hE hT).mono ?_; rintro e w2 ⟨rfl, hb2⟩; have HB2 := Lib.hid (HB1.out.trans (hb2.mono HB1.out.size)); clear hb2 hE hT) | (go_at_call 21; have hE := HG.out.below HB2.out; have hT := HT.out _ HB2.out; with_reducible refine (kn_Gcd_2 _ hE hT).mono ?_; rintro e w3 ⟨rfl, hb3⟩; have HB3 := Lib.hid (HB2.out.trans (hb3.mono HB2.out.size)); clear hb3 hE hT) | (go_at_call 49; have hE := HG.out.below HB3.out; have hT := HT.out _ HB3.out; with_reducible refine (kn_PowMod_3 _ hE hT).mono ?_; rintro e w4 ⟨rfl, hb4⟩; have HB4 := Lib.hid (HB3.out.trans (hb4.mono HB3.out.size)); clear hb4 hE hT) | (go_at_call 61; have hE := HG.out.below HB4.out; have hT := HT.out _ HB4.out; with_reducible refine (kn_Base_4 _ hE hT).mono ?_; rintro e w5 ⟨rfl, hb5⟩; have HB5 := Lib.hid (HB4.out.trans (hb5.mono HB4.out.size)); clear hb5 hE hT) | (go_at_call 26; have hE := HG.out.below HB5.out; have hT := HT.out _ HB5.out; with_reducible refine (kn_Factor _ hE hT).mono ?_; rintro e w6 ⟨v6, rfl, hR6, hb6⟩; have HB6 := Lib.hid (HB5.out.trans (hb6.mono HB5.out.size)); have HR6 := Lib.hid hR6; clear hR6; clear hb6 hE hT) | (go_at_call 36; have hE := HG.out.below HB6.out; have hT := HT.out _ HB6.out; with_reducible refine (kn_Root_5 _ hE hT).mono ?_; rintro e w7 ⟨rfl, hb7⟩; have HB7 := Lib.hid (HB6.out.trans (hb7.mono HB6.out.size)); have HR7 := Lib.hid (Kd.R_below HR6.out hb7); clear hb7 hE hT))
  obtain ⟨A6, c6, rfl, hl6, hC6⟩ := Kd.R_reads HR7.out
  have hC7 : Kd.C Kd.string (w7.alloc (.cells #[.string ⟨#[50]⟩, .string ⟨#[50]⟩, .string ⟨#[50]⟩, .string ⟨#[51]⟩, .string ⟨#[51]⟩, .string ⟨#[53]⟩] 9)) (some ⟨w7.heap.size, 0, none⟩) 6 (bts [[50], [50], [50], [51], [51], [53]]) := by
    refine Kd.C_of_reads (enc := Value.string) (d := ByteArray.empty) (h1 := fun _ => rfl) ⟨rfl, by decide, fun _ => ⟨_, rfl, fun j hj => ?_⟩⟩
    match j, hj with
    | 0, _ => simp [Addr.add, bts]
    | 1, _ => simp [Addr.add, bts]
    | 2, _ => simp [Addr.add, bts]
    | 3, _ => simp [Addr.add, bts]
    | 4, _ => simp [Addr.add, bts]
    | 5, _ => simp [Addr.add, bts]
  refine (PW.metewandkit_EqTexts.calls 100 A6 c6 (bts [[50], [50], [50], [51], [51], [53]]) (some ⟨w7.heap.size, 0, none⟩) 6 (bts [[50], [50], [50], [51], [51], [53]]) true _ (Kd.C_below hC6 (below_alloc (Below.refl _ _) _)) hl6 hC7 (Nat.le_refl _) (by decide +kernel)).mono ?_
  rintro e w8 ⟨rfl, hd8⟩
  have HB8 : Hid (Below w.heap.size w w8) := Lib.hid ((HB7.out.alloc HB7.out.size _).trans ((drawn0_below hd8).mono (by have := HB7.out.size; simp; omega)))
  clear hd8 hC6 hC7
  go_wp2_with fail
  go_ret
  exact ⟨rfl, HB8.out⟩
end Go.Proofs.YtjieekkkaekclaaGreatDoor
namespace Go.Proofs.YtjieekkkaekclaaGreatDoor
open Go Go.RowKit Go.Proofs.YtjieekkkaekclaaGreatDoorW.PrintWords
def Gw (w : World) : Prop := Ety w ∧ Tab w
theorem Gw.below {w W : World} (h : Gw w) (hb : Below w.heap.size w W) : Gw W := ⟨h.1.below hb, Lib.tabBelow_of_tabIs h.2 W hb⟩
def whole_Factor.f (a0 : ByteArray) : Option (List ByteArray × Int) := if a0.size ≤ 100000 then some (bts (Mw.factor a0.data.toList).1, (Mw.factor a0.data.toList).2) else none
theorem whole_Factor.calls (a0 : ByteArray) (r1 : List ByteArray) (r2 : Int) (w : World) (hG : Gw w) (h : whole_Factor.f a0 = some (r1, r2)) : Calls Tryz.prog 26 #[.string a0] w fun e w' => ∃ v0_ : Value, e = .returned (.tuple #[v0_, .int .i64 r2]) ∧ Kd.R Kd.string 9 w' w.heap.size (fun _ => True) v0_ r1 ∧ Below w.heap.size w w' := by
  unfold whole_Factor.f at h
  split at h
  · rename_i hc
    obtain ⟨rfl, rfl⟩ : _ ∧ _ := by simpa only [Option.some.injEq, Prod.mk.injEq] using h
    exact factor_any a0 w hc hG.1 hG.2
  · cases h
def metewandlaw01_counted.f : Option Bool := some true
theorem metewandlaw01_counted.calls (r : Bool) (w : World) (hG : Gw w) (h : metewandlaw01_counted.f = some r) : Calls Tryz.prog 18 #[] w fun e w' => e = .returned (.bool r) ∧ Below w.heap.size w w' := by
  obtain rfl := Option.some.inj h
  exact counted_any w hG.1 hG.2
end Go.Proofs.YtjieekkkaekclaaGreatDoor
