/- Lemmas for the claim beside this text. -/
import Derived.Test.YtjieekkkaekclaaGreatDoorZBC
set_option linter.all false
set_option linter.unusedVariables false
set_option linter.unusedSimpArgs false
namespace Go.Proofs.YtjieekkkaekclaaGreatDoor
open Go Go.RowKit Go.Proofs.YtjieekkkaekclaaGreatDoorW.PrintWords
attribute [local go_sem] Oper.semAt_some
def Mw.fhead (s t : List UInt8) : Bool := t.isEmpty || (t.head? == some 48 && (decide (1 < t.length) || decide (1 < s.length)))
def Mw.fgood (b : Nat) (t : List UInt8) : Bool := t.all fun c => decide (Mw.bdig c < b)
def Mw.fval (b : Nat) (s t : List UInt8) : Int := if t.length < s.length then -(Mw.bval b t : Int) else (Mw.bval b t : Int)
def Mw.wfrom (s : List UInt8) (n : Int) : List UInt8 × Int :=
  if n < 2 then ([], 2) else if 36 < n then ([], 2) else if Mw.fhead s (Mw.unm s) = true then ([], 1) else if Mw.fgood n.toNat (Mw.unm s) = false then ([], 1) else if 1600 < (Mw.unm s).length then ([], 13) else
    if Mw.gerr (Mw.fval n.toNat s (Mw.unm s)) = 0 then (Mw.itxt (Mw.fval n.toNat s (Mw.unm s)), 0) else ([], 13)
theorem fgood_iff {b : Nat} {t : List UInt8} : Mw.fgood b t = true ↔ ∀ i, i < t.length → Mw.bdig (t.getD i 0) < b := by
  unfold Mw.fgood
  rw [List.all_eq_true]
  constructor
  · intro h i hi
    rw [show t.getD i 0 = t[i] by simp [List.getD, List.getElem?_eq_getElem hi]]
    exact of_decide_eq_true (h _ (List.getElem_mem hi))
  · intro h c hc
    obtain ⟨i, hi, rfl⟩ := List.getElem_of_mem hc
    have := h i hi
    rw [show t.getD i 0 = t[i] by simp [List.getD, List.getElem?_eq_getElem hi]] at this
    exact decide_eq_true this
theorem unm_len (l : List UInt8) : (Mw.unm l).length ≤ l.length := by
  by_cases h : Mw.isM l = true
  · match l, h with
    | c :: l, h =>
      have : c = 45 := by simpa [Mw.isM] using h
      subst this
      rw [Mw.unm_cons]; simp
  · rw [Mw.unm_of (by simpa using h)]; exact Nat.le_refl _
theorem take_all {L : List UInt8} {b : Nat} (h : ∀ i, i < L.length → Mw.bdig (L.getD i 0) < b) (n : Nat) : ∀ c ∈ L.take n, Mw.bdig c < b := by
  intro c hc
  obtain ⟨i, hi, rfl⟩ := List.getElem_of_mem (List.mem_of_mem_take hc)
  have := h i hi
  rwa [show L.getD i 0 = L[i] by simp [List.getD, List.getElem?_eq_getElem hi]] at this
theorem grown_iterAt (w : World) (k : Nat) (s : ByteArray) (pos : Nat) : w.grownBy (w.iterAt k s pos) (some k) :=
  ⟨rfl, rfl, rfl, by rw [Lib.iterAt_size]; exact Nat.le_refl _, fun i _ hk => Lib.iterAt_other w k i s pos (fun e => hk (by rw [e]))⟩
theorem take_snoc {L : List UInt8} {i : Nat} (h : i < L.length) : L.take (i + 1) = L.take i ++ [L.getD i 0] := by
  rw [List.take_succ, List.getElem?_eq_getElem h, show L.getD i 0 = L[i] by simp [List.getD, List.getElem?_eq_getElem h]]; rfl
set_option exponentiation.threshold 20000 in
theorem bval_lt9 {b : Nat} (hb : b ≤ 36) {l : List UInt8} (h : ∀ c ∈ l, Mw.bdig c < b) (hl : l.length ≤ 1600) : Lt9 332 (Mw.bval b l : Int) := by
  unfold Lt9
  rw [Int.natAbs_natCast]
  have h1 := Mw.bval_lt l h
  have h2 : b ^ l.length ≤ 64 ^ 1600 := Nat.le_trans (Nat.pow_le_pow_left (show b ≤ 64 by omega) _) (Nat.pow_le_pow_right (by omega) hl)
  have h3 : 64 ^ 1600 ≤ 1000000000 ^ 332 := by
    rw [show (64 : Nat) = 2 ^ 6 from rfl, ← Nat.pow_mul]
    refine Nat.le_trans (Nat.pow_le_pow_right (by omega) (show 6 * 1600 ≤ 29 * 332 by omega)) ?_
    rw [Nat.pow_mul]
    exact Nat.pow_le_pow_left (by decide) 332
  omega
set_option maxRecDepth 100000 in
set_option maxHeartbeats 6400000 in
theorem from_any (s : ByteArray) (n : Int) (w : World) (hs : s.size ≤ 100000) (hg : Ety w) (htab : Tab w) :
    Calls Tryz.prog 63 #[.string s, .int .i64 n] w fun e w' => e = .returned (.tuple #[.string ⟨(Mw.wfrom s.data.toList n).1.toArray⟩, .int .i64 (Mw.wfrom s.data.toList n).2]) ∧ Below w.heap.size w w' := by
  have hmf : ∀ (fn : Fn) (first cap : Array Value) (w : World), (Instr.makeFunc fn first cap).run Tryz.prog w = .ok (.func fn first cap) w := fun _ _ _ _ => rfl
  have HG := Lib.hid hg
  have HT := Lib.hid (Lib.tabBelow_of_tabIs htab)
  clear hg htab
  obtain ⟨⟨rs, er⟩, hr⟩ : ∃ x, Mw.wfrom s.data.toList n = x := ⟨_, rfl⟩
  rw [hr]
  dsimp only
  obtain ⟨D, hD⟩ : ∃ D, Mw.unm s.data.toList = D := ⟨_, rfl⟩
  have htr : ∀ W, Calls Tryz.prog 121 #[.string s, .string ⟨#[45]⟩] W fun e w' => e = .returned (.string ⟨D.toArray⟩) ∧ w' = W := fun W => by
    refine (Tryz.strings_TrimPrefix s ⟨#[45]⟩ W).mono ?_
    rintro e w' ⟨rfl, rfl⟩
    exact ⟨by rw [show ({ data := #[45] } : ByteArray).data.toList = [45] from rfl, trim_minus, hD], rfl⟩
  rw [Mw.wfrom, hD] at hr
  by_cases hn0 : n < 2
  · rw [if_pos hn0] at hr
    cases hr
    go_enter_defers Tryz.func63, Tryz.ntmps63
    go_wp2_with (first | (go_at_call 86; with_reducible refine (fail_t _ _ _ (by first | rfl | exact decide_eq_true hn0)).mono ?_; rintro e w6 ⟨rfl, hw6⟩))
    have HO3 : Own w (.int .i64 0) (w.alloc (.cells #[.int .i64 0] 28)) := Own.of (Below.refl _ _)
    exact door_caught isDoor_FromBase _ (.int .i64 0) (.tuple #[.string ⟨#[]⟩, .int .i64 2]) _ _ (HG.out.below HO3.below) HO3.lt HO3.cell HO3.frz (fun W' h => by simp [results, Tryz.results63, go_sem, h])
      (fun W' h => ⟨rfl, HO3.below.trans h⟩)
  · rw [if_neg hn0] at hr
    by_cases hn1 : 36 < n
    · rw [if_pos hn1] at hr
      cases hr
      go_enter_defers Tryz.func63, Tryz.ntmps63
      go_wp2_with (first | (go_at_call 86; with_reducible refine (fail_t _ _ _ (by first | rfl | exact decide_eq_true hn1)).mono ?_; rintro e w6 ⟨rfl, hw6⟩))
      have HO3 : Own w (.int .i64 0) (w.alloc (.cells #[.int .i64 0] 28)) := Own.of (Below.refl _ _)
      exact door_caught isDoor_FromBase _ (.int .i64 0) (.tuple #[.string ⟨#[]⟩, .int .i64 2]) _ _ (HG.out.below HO3.below) HO3.lt HO3.cell HO3.frz (fun W' h => by simp [results, Tryz.results63, go_sem, h])
        (fun W' h => ⟨rfl, HO3.below.trans h⟩)
    · rw [if_neg hn1] at hr
      have hdd : (decide (n < 2) || decide (36 < n)) = false := by simp; omega
      obtain ⟨b, rfl⟩ : ∃ b : Nat, n = (b : Int) := ⟨n.toNat, by omega⟩
      rw [Int.toNat_natCast] at hr
      have HNB : Hid (2 ≤ b ∧ b ≤ 36) := Lib.hid (by omega)
      have hsl : s.data.toList.length = s.size := rfl
      match D, hD with
      | [], hD =>
        rw [show Mw.fhead s.data.toList [] = true from rfl, if_pos rfl] at hr
        cases hr
        go_enter_defers Tryz.func63, Tryz.ntmps63
        go_wp2_with (first | (go_at_call 86; with_reducible refine (fail_f _ _ _ (by first | rfl | exact hdd)).mono ?_; rintro e w6 ⟨rfl, rfl⟩) | (go_at_call 121; refine (htr _).mono ?_; rintro e w5 ⟨rfl, rfl⟩) | (go_at_call 86; with_reducible refine (fail_t _ _ _ (by first | rfl)).mono ?_; rintro e w7 ⟨rfl, rfl⟩))
        have HO3 : Own w (.int .i64 0) (w.alloc (.cells #[.int .i64 0] 28)) := Own.of (Below.refl _ _)
        exact door_caught isDoor_FromBase _ (.int .i64 0) (.tuple #[.string ⟨#[]⟩, .int .i64 1]) _ _ (HG.out.below HO3.below) HO3.lt HO3.cell HO3.frz (fun W' h => by simp [results, Tryz.results63, go_sem, h])
          (fun W' h => ⟨rfl, HO3.below.trans h⟩)
      | d :: r, hD =>
        have h0 : ∀ h, (({ data := (d :: r).toArray } : ByteArray)[0]'h).toNat = d.toNat := fun _ => rfl
        by_cases hbad : d.toNat = 48 ∧ (1 < r.length + 1 ∨ 1 < s.size)
        · have hfh : Mw.fhead s.data.toList (d :: r) = true := by
            unfold Mw.fhead
            rw [show d = 48 from UInt8.toNat_inj.mp hbad.1, hsl]
            simp only [List.length_cons]
            rcases hbad.2 with h | h <;> simp [h]
          rw [if_pos hfh] at hr
          cases hr
          have h1 : (d.toNat : Int) = 48 := by omega
          have h2 : (1 : Int) < r.length + 1 ∨ (1 : Int) < s.size := by omega
          clear hbad hfh hsl
          by_cases h3 : (1 : Int) < r.length + 1
          · go_enter_defers Tryz.func63, Tryz.ntmps63
            go_wp2_with (first | (go_at_call 86; with_reducible refine (fail_f _ _ _ (by first | rfl | exact hdd)).mono ?_; rintro e w6 ⟨rfl, rfl⟩) | (go_at_call 121; refine (htr _).mono ?_; rintro e w5 ⟨rfl, rfl⟩) | (go_at_call 86; with_reducible refine (fail_t _ _ _ (by first | rfl)).mono ?_; rintro e w7 ⟨rfl, rfl⟩))
            have HO3 : Own w (.int .i64 0) (w.alloc (.cells #[.int .i64 0] 28)) := Own.of (Below.refl _ _)
            exact door_caught isDoor_FromBase _ (.int .i64 0) (.tuple #[.string ⟨#[]⟩, .int .i64 1]) _ _ (HG.out.below HO3.below) HO3.lt HO3.cell HO3.frz (fun W' h => by simp [results, Tryz.results63, go_sem, h])
              (fun W' h => ⟨rfl, HO3.below.trans h⟩)
          · have h4 : (1 : Int) < s.size := by omega
            go_enter_defers Tryz.func63, Tryz.ntmps63
            go_wp2_with (first | (go_at_call 86; with_reducible refine (fail_f _ _ _ (by first | rfl | exact hdd)).mono ?_; rintro e w6 ⟨rfl, rfl⟩) | (go_at_call 121; refine (htr _).mono ?_; rintro e w5 ⟨rfl, rfl⟩) | (go_at_call 86; with_reducible refine (fail_t _ _ _ (by first | rfl)).mono ?_; rintro e w7 ⟨rfl, rfl⟩))
            have HO3 : Own w (.int .i64 0) (w.alloc (.cells #[.int .i64 0] 28)) := Own.of (Below.refl _ _)
            exact door_caught isDoor_FromBase _ (.int .i64 0) (.tuple #[.string ⟨#[]⟩, .int .i64 1]) _ _ (HG.out.below HO3.below) HO3.lt HO3.cell HO3.frz (fun W' h => by simp [results, Tryz.results63, go_sem, h])
              (fun W' h => ⟨rfl, HO3.below.trans h⟩)
        · have hfh : Mw.fhead s.data.toList (d :: r) = false := by
            unfold Mw.fhead
            rw [hsl]
            simp only [List.isEmpty_cons, Bool.false_or, List.head?_cons, List.length_cons]
            rw [Bool.and_eq_false_iff]
            by_cases h : d.toNat = 48
            · right
              rw [Bool.or_eq_false_iff]
              exact ⟨decide_eq_false (by omega), decide_eq_false (by omega)⟩
            · left
              rw [beq_eq_false_iff_ne]
              intro e
              exact h (by have : d = 48 := by simpa using e
                          subst this; rfl)
          rw [if_neg (by rw [hfh]; simp)] at hr
          have HR := Lib.hid hr
          clear hr hfh
          rcases (show ¬ ((d.toNat : Int) = 48) ∨ ((d.toNat : Int) = 48 ∧ ¬ (1 : Int) < r.length + 1 ∧ ¬ (1 : Int) < s.size) by omega) with h1 | ⟨h1, h2, h3⟩
          · go_enter_defers Tryz.func63, Tryz.ntmps63
            go_wp2_with (first | (go_at_call 86; with_reducible refine (fail_f _ _ _ (by first | rfl | exact hdd)).mono ?_; rintro e w6 ⟨rfl, rfl⟩) | (go_at_call 121; refine (htr _).mono ?_; rintro e w5 ⟨rfl, rfl⟩) | (go_at_call 86; with_reducible refine (fail_f _ _ _ (by simp; omega)).mono ?_; rintro e w6 ⟨rfl, rfl⟩))
            obtain ⟨ds, hds⟩ : ∃ ds : ByteArray, ({ data := (d :: r).toArray } : ByteArray) = ds := ⟨_, rfl⟩
            obtain ⟨hsz, hat⟩ := at_list hds
            have hk0 := World.iter_heap (w.alloc (.cells #[.int .i64 0] 28)) ds 0
            rw [World.size_alloc] at hk0
            have HO0 : Hid (Own w (.int .i64 0) ((w.alloc (.cells #[.int .i64 0] 28)).iter ds 0)) := Lib.hid (Own.of ((Below.refl _ _).alloc (Nat.le_refl _) _))
            rw [hds]
            clear h0 htr
            obtain ⟨L, hL⟩ : ∃ L, d :: r = L := ⟨_, rfl⟩
            rw [hL] at hsz hat hD
            rw [hL] at HR
            have HSZ := Lib.hid hsz
            have HAT := Lib.hid hat
            have HD := Lib.hid hD
            have hle : L.length ≤ 100000 := by
              rw [← hsz, ← hds]
              have h9 : L.length ≤ s.data.toList.length := by
                rw [← hD]
                exact unm_len _
              rw [hsl] at h9
              rw [hds, hsz]; omega
            have HLE := Lib.hid hle
            clear hsz hat hL hD hds hle hbad
            generalize (w.alloc (.cells #[.int .i64 0] 28)).iter ds 0 = W1 at *
            go_loopw [8] (fun _ wr => ∃ pos : Nat, Hid (pos ≤ L.length) ∧ wr.heap[w.heap.size + 1]? = some (.stringIter ds pos) ∧ Hid (∀ i, i < pos → Mw.bdig (L.getD i 0) < b) ∧ Hid (Own w (.int .i64 0) wr)) (fun _ wr => ds.size - wr.iterPos (w.heap.size + 1))
            case atStart => exact ⟨0, Lib.hid (Nat.zero_le _), hk0, Lib.hid (fun i hi => absurd hi (Nat.not_lt_zero i)), HO0⟩
            case round =>
              obtain ⟨pos, HP, hk, HDG, HOW⟩ := hrel
              clear hk0 HO0
              by_cases hp : pos < ds.size
              · have hnext : ∀ ty, (Instr.next (.pointer (some ⟨w.heap.size + 1, 0, none⟩)) true ty).run Tryz.prog wr = _ := fun ty => Lib.run_next_any_at wr (w.heap.size + 1) ds pos ty hk hp
                have hk1 := Lib.iterAt_heap wr (w.heap.size + 1) ds pos (pos + (Utf8.decode ds pos).2) hk
                have HOW1 := Lib.hid (HOW.out.nextB (B := w.heap.size + 1) (Nat.lt_succ_self _) (Lib.below_iterAt (Below.refl _ wr) (Nat.le_refl _) ds (pos + (Utf8.decode ds pos).2)))
                have hmu : wr.iterPos (w.heap.size + 1) = pos := by simp [World.iterPos, hk]
                have hby := decode_byte ds pos hp
                rw [HAT.out pos hp] at hby
                have hcase := dgv_of (r := (Utf8.decode ds pos).1) (n := (Utf8.decode ds pos).2) hby HNB.out.2
                obtain ⟨b0, hb0⟩ : ∃ x, (Utf8.decode ds pos).1 = x := ⟨_, rfl⟩
                rw [hb0] at hnext hcase
                obtain ⟨dv, hdv⟩ : ∃ x, Mw.dgv (b0 : Int) = x := ⟨_, rfl⟩
                have hdig := digit_any (b0 : Int)
                rw [hdv] at hdig hcase
                have HDI := Lib.hid hdig
                rcases hcase with ⟨g1, g2, g3⟩ | ⟨g1, g2⟩
                · rw [g3] at hnext hk1 HOW1
                  generalize wr.iterAt (w.heap.size + 1) ds (pos + 1) = W2 at hnext hk1 HOW1
                  have h6 : ¬ dv < 0 := by omega
                  have h7 : ¬ (b : Int) ≤ dv := by omega
                  have hdf : (decide (dv < 0) || decide ((b : Int) ≤ dv)) = false := by simp; omega
                  have HSP := Lib.hid hp
                  have HG1 := Lib.hid g1
                  clear hby hb0 g3 g1 g2 hp hdv hdig HOW
                  go_wp2_with (first | (go_at_call 122; with_reducible refine (HDI.out _).mono ?_; rintro e w7 ⟨rfl, rfl⟩) | (go_at_call 86; with_reducible refine (fail_f _ _ _ (by first | rfl | exact hdf)).mono ?_; rintro e w8 ⟨rfl, rfl⟩))
                  go_roundw
                  case rel =>
                    refine ⟨pos + 1, Lib.hid (by have := HSP.out; have := HSZ.out; omega), hk1, Lib.hid (fun i hi => ?_), HOW1⟩
                    rcases Nat.lt_or_ge i pos with hlt | hge
                    · exact HDG.out i hlt
                    · obtain rfl : i = pos := by omega
                      exact HG1.out
                  case measure =>
                    have hmu2 : w8.iterPos (w.heap.size + 1) = pos + 1 := by simp [World.iterPos, hk1]
                    rw [hmu, hmu2]
                    have := HSP.out; omega
                · have hfg : Mw.fgood b L = false := by
                    rw [Bool.eq_false_iff, ne_eq, fgood_iff]
                    intro h
                    exact g1 (h pos (by have := HSZ.out; omega))
                  have hr := HR.out
                  rw [if_pos hfg] at hr
                  cases hr
                  generalize wr.iterAt (w.heap.size + 1) ds (pos + (Utf8.decode ds pos).2) = W2 at hnext hk1 HOW1
                  have hdf : (decide (dv < 0) || decide ((b : Int) ≤ dv)) = true := by simp; omega
                  clear hby hb0 hp hdv hdig HOW hfg g1
                  rcases g2 with g2 | g2
                  · go_wp2_with (first | (go_at_call 122; with_reducible refine (HDI.out _).mono ?_; rintro e w7 ⟨rfl, rfl⟩) | (go_at_call 86; with_reducible refine (fail_t _ _ _ (by first | rfl | exact hdf | (simp; omega))).mono ?_; rintro e w8 ⟨rfl, rfl⟩))
                    exact door_caught isDoor_FromBase _ (.int .i64 0) (.tuple #[.string ⟨#[]⟩, .int .i64 1]) _ _ (HG.out.below HOW1.out.below) HOW1.out.lt HOW1.out.cell HOW1.out.frz (fun W' h => by simp [results, Tryz.results63, go_sem, h])
                      (fun W' h => ⟨rfl, HOW1.out.below.trans h⟩)
                  · have g4 : ¬ dv < 0 := by omega
                    go_wp2_with (first | (go_at_call 122; with_reducible refine (HDI.out _).mono ?_; rintro e w7 ⟨rfl, rfl⟩) | (go_at_call 86; with_reducible refine (fail_t _ _ _ (by first | rfl | exact hdf | (simp; omega))).mono ?_; rintro e w8 ⟨rfl, rfl⟩))
                    exact door_caught isDoor_FromBase _ (.int .i64 0) (.tuple #[.string ⟨#[]⟩, .int .i64 1]) _ _ (HG.out.below HOW1.out.below) HOW1.out.lt HOW1.out.cell HOW1.out.frz (fun W' h => by simp [results, Tryz.results63, go_sem, h])
                      (fun W' h => ⟨rfl, HOW1.out.below.trans h⟩)
              · have hnext : ∀ ty, (Instr.next (.pointer (some ⟨w.heap.size + 1, 0, none⟩)) true ty).run Tryz.prog wr = _ := fun ty => Lib.run_next_end_at wr (w.heap.size + 1) ds pos ty hk hp
                have hall : ∀ i, i < L.length → Mw.bdig (L.getD i 0) < b := fun i hi => HDG.out i (by have := HSZ.out; omega)
                have hfg : Mw.fgood b L = true := fgood_iff.mpr hall
                have hr := HR.out
                rw [if_neg (by rw [hfg]; simp)] at hr
                have HALL := Lib.hid hall
                have hsz2 := HSZ.out
                clear hfg hall hp HDG HP
                by_cases hlen : 1600 < L.length
                · rw [if_pos hlen] at hr
                  cases hr
                  have hlt : decide ((1600 : Int) < (ds.size : Int)) = true := decide_eq_true (by omega)
                  go_wp2_with (first | (go_at_call 86; with_reducible refine (fail_t _ _ _ (by first | rfl | exact hlt | exact decide_eq_true (by omega))).mono ?_; rintro e w8 ⟨rfl, rfl⟩))
                  exact door_caught isDoor_FromBase _ (.int .i64 0) (.tuple #[.string ⟨#[]⟩, .int .i64 13]) _ _ (HG.out.below HOW.out.below) HOW.out.lt HOW.out.cell HOW.out.frz (fun W' h => by simp [results, Tryz.results63, go_sem, h])
                    (fun W' h => ⟨rfl, HOW.out.below.trans h⟩)
                · rw [if_neg hlen] at hr
                  have HR2 := Lib.hid hr
                  have HLEN := Lib.hid (show L.length ≤ 1600 by omega)
                  have hlt : decide ((1600 : Int) < (ds.size : Int)) = false := decide_eq_false (by omega)
                  clear hr hlen HR
                  go_wp2_with (first | (go_at_call 86; with_reducible refine (fail_f _ _ _ (by first | rfl | exact hlt | exact decide_eq_false (by have := HLEN.out; omega))).mono ?_; rintro e w8 ⟨rfl, rfl⟩) | (go_at_call 73; with_reducible refine (of_any 0 _ (by omega) (by omega)).mono ?_; rintro e w9 ⟨s9, A9, k9, c9, rfl, hN9, hb9⟩; refine Hid.out ?_))
                  have HOW9 := Lib.hid (((HOW.out.next hb9).next (below_alloc1 w9 (.cells #[.int .i64 s9, .slice A9 k9 c9] 71))).next (below_alloc1 _ (.stringIter ds 0)))
                  have HBX9 := Lib.hid ((Nb.new hN9 71).call (below_alloc1 _ (.stringIter ds 0))).bn
                  have hbx : w.heap.size < w9.heap.size := (HOW.out.next hb9).lt
                  have hk9 := World.iter_heap (w9.alloc (.cells #[.int .i64 s9, .slice A9 k9 c9] 71)) ds 0
                  rw [World.size_alloc] at hk9
                  clear HOW hN9 hb9 hk hnext hlt
                  refine Lib.hid ?_
                  go_wp2_with fail
                  obtain ⟨bx, hbb⟩ : ∃ x, w9.heap.size = x := ⟨_, rfl⟩
                  rw [hbb] at HBX9 hk9 hbx ⊢
                  clear hbb
                  refine wp_world (fun W => W.heap[bx + 1]? = some (.stringIter ds 0) ∧ Hid (Bn W bx 0) ∧ Hid (Own w (.int .i64 0) W)) ⟨hk9, HBX9, HOW9⟩ ?_
                  clear hk9 HBX9 HOW9
                  rintro W10 ⟨hk10, HBX10, HOW10⟩
                  go_loopw [12] (fun _ wr => ∃ pos : Nat, Hid (pos ≤ L.length) ∧ wr.heap[bx + 1]? = some (.stringIter ds pos) ∧ Hid (Bn wr bx (Mw.bval b (L.take pos) : Int)) ∧ Hid (Own w (.int .i64 0) wr)) (fun _ wr => ds.size - wr.iterPos (bx + 1))
                  case atStart => exact ⟨0, Lib.hid (Nat.zero_le _), hk10, HBX10, HOW10⟩
                  case round =>
                    obtain ⟨pos, HP, hk, HBX, HOW⟩ := hrel
                    clear hk10 HBX10 HOW10
                    by_cases hp : pos < ds.size
                    · have hnext : ∀ ty, (Instr.next (.pointer (some ⟨bx + 1, 0, none⟩)) true ty).run Tryz.prog wr = _ := fun ty => Lib.run_next_any_at wr (bx + 1) ds pos ty hk hp
                      have hk1 := Lib.iterAt_heap wr (bx + 1) ds pos (pos + (Utf8.decode ds pos).2) hk
                      have HOW1 := Lib.hid (HOW.out.nextB (B := w.heap.size + 1) (Nat.lt_succ_self _) (Lib.below_iterAt (Below.refl _ wr) (show w.heap.size + 1 ≤ bx + 1 by omega) ds (pos + (Utf8.decode ds pos).2)))
                      have HBX1 := Lib.hid (HBX.out.grown (grown_iterAt wr (bx + 1) ds (pos + (Utf8.decode ds pos).2)) (fun r e => by cases e; exact ⟨_, hk, rfl⟩))
                      have hmu : wr.iterPos (bx + 1) = pos := by simp [World.iterPos, hk]
                      have HMU := Lib.hid hmu
                      have hby := decode_byte ds pos hp
                      rw [HAT.out pos hp] at hby
                      have hcase := dgv_of (r := (Utf8.decode ds pos).1) (n := (Utf8.decode ds pos).2) hby HNB.out.2
                      obtain ⟨b0, hb0⟩ : ∃ x, (Utf8.decode ds pos).1 = x := ⟨_, rfl⟩
                      rw [hb0] at hnext hcase
                      obtain ⟨dv, hdv⟩ : ∃ x, Mw.dgv (b0 : Int) = x := ⟨_, rfl⟩
                      have hdig := digit_any (b0 : Int)
                      rw [hdv] at hdig hcase
                      have HDI := Lib.hid hdig
                      have hpl : pos < L.length := by omega
                      have hcb := HALL.out pos hpl
                      rcases hcase with ⟨g1, g2, g3⟩ | ⟨g1, g2⟩
                      · rw [g3] at hnext hk1 HOW1 HBX1
                        generalize wr.iterAt (bx + 1) ds (pos + 1) = W2 at hnext hk1 HOW1 HBX1
                        have HDV := Lib.hid g2
                        have HSP := Lib.hid hp
                        have HK1 := Lib.hid hk1
                        have h6 : 0 ≤ dv := by omega
                        have h7 : dv < 36 := by have := HNB.out; omega
                        clear hby hb0 g3 g1 g2 hp hdv hdig HOW HBX hmu hk1 hcb
                        go_wp2_with fail
                        obtain ⟨sx, Ax, kx, cx, hx⟩ := HBX1.out.call (below_drew (Below.refl _ _) : Below W2.heap.size W2 W2.drew)
                        have HOWD := Lib.hid (HOW1.out.next (below_drew (Below.refl _ _) : Below W2.heap.size W2 W2.drew))
                        have HKD : Hid (W2.drew.heap[bx + 1]? = some (.stringIter ds (pos + 1))) := HK1
                        have hkx : kx ≤ 332 := (bval_lt9 HNB.out.2 (take_all HALL.out pos) (by rw [List.length_take]; have := HLEN.out; omega)).kle hx.num
                        have x0 := hx.c0
                        have x1 := hx.c1
                        refine wp_region_goT (fun w' => w'.cell? ⟨bx, 0, none⟩ = some (.int .i64 sx) ∧ w'.cell? ⟨bx, 1, none⟩ = some (.slice Ax kx cx)) 8 (by kernel_rfl) (by kernel_rfl) ⟨x0, x1⟩ (fun hHeld => ?_)
                        clear HK1 HBX1 HOW1
                        generalize W2.drew = WD at *
                        refine goT_take 0 (v := ?_) rfl (by decide +kernel) (fun _ _ _ h => bodyPostD_put (by decide +kernel) h) (Or.inl ⟨by rfl, ?_⟩) (by assumption) ?_
                        rotate_left
                        · (intro w_ hSw; (try dsimp only at hSw); go_simp; (try with_reducible rfl))
                        try simp only [Act.put, List.setIfInBounds_toArray, List.set_cons_zero, List.set_cons_succ]
                        refine goT_take 1 (v := ?_) rfl (by decide +kernel) (fun _ _ _ h => bodyPostD_put (by decide +kernel) h) (Or.inl ⟨by rfl, ?_⟩) (by assumption) ?_
                        rotate_left
                        · (intro w_ hSw; (try dsimp only at hSw); go_simp; (try with_reducible rfl))
                        try simp only [Act.put, List.setIfInBounds_toArray, List.set_cons_zero, List.set_cons_succ]
                        refine goT_take 4 (v := ?_) rfl (by decide +kernel) (fun _ _ _ h => bodyPostD_put (by decide +kernel) h) (Or.inl ⟨by rfl, ?_⟩) (by assumption) ?_
                        rotate_left
                        · (intro w_ hSw; (try dsimp only at hSw); go_simp; (try with_reducible rfl))
                        try simp only [Act.put, List.setIfInBounds_toArray, List.set_cons_zero, List.set_cons_succ]
                        refine goT_step 2 rfl (by decide +kernel) (fun K_ hK => ?_)
                        go_simp
                        refine (of_any (b : Int) _ (by omega) (by omega)).mono ?_
                        rintro e w11 ⟨s4, A4, k4, c4, rfl, hN4, hb4⟩
                        have hk4 : k4 ≤ 1 := (Lt9.small (x := (b : Int)) (by have := HNB.out; omega)).kle hN4
                        have hx4 := hx.call hb4
                        have HB4 := Lib.hid hb4
                        clear x0 x1 hb4
                        have x0 := hx4.c0
                        have x1 := hx4.c1
                        go_wp2_with fail
                        refine hK.out _ _ ⟨x0, x1⟩ (fun hHeld => ?_)
                        clear hK
                        try simp only [Act.put, List.setIfInBounds_toArray, List.set_cons_zero, List.set_cons_succ, List.getElem_toArray, List.getElem_cons_zero, List.getElem_cons_succ]
                        refine goT_step 3 rfl (by decide +kernel) (fun K_ hK => ?_)
                        go_simp
                        refine (mul_any _ hx4.num hN4 (by omega) (.inr (by omega))).mono ?_
                        rintro e w12 ⟨s5, A5, k5, c5, rfl, hN5, hb5⟩
                        have hk5 : k5 ≤ 333 := ((bval_lt9 HNB.out.2 (take_all HALL.out pos) (by rw [List.length_take]; have := HLEN.out; omega)).mul (Lt9.small (x := (b : Int)) (by have := HNB.out; omega))).kle hN5
                        have hx5 := hx4.call hb5
                        have HB5 := Lib.hid (HB4.out.trans (hb5.mono HB4.out.size))
                        clear x0 x1 hb5 hx4 hN4
                        have x0 := hx5.c0
                        have x1 := hx5.c1
                        go_wp2_with fail
                        refine hK.out _ _ ⟨x0, x1⟩ (fun hHeld => ?_)
                        clear hK
                        try simp only [Act.put, List.setIfInBounds_toArray, List.set_cons_zero, List.set_cons_succ, List.getElem_toArray, List.getElem_cons_zero, List.getElem_cons_succ]
                        refine goT_step 5 rfl (by decide +kernel) (fun K_ hK => ?_)
                        go_simp
                        refine (HDI.out _).mono ?_
                        rintro e w13 ⟨rfl, rfl⟩
                        go_wp2_with fail
                        refine hK.out _ _ ⟨x0, x1⟩ (fun hHeld => ?_)
                        clear hK
                        try simp only [Act.put, List.setIfInBounds_toArray, List.set_cons_zero, List.set_cons_succ, List.getElem_toArray, List.getElem_cons_zero, List.getElem_cons_succ]
                        refine goT_step 6 rfl (by decide +kernel) (fun K_ hK => ?_)
                        go_simp
                        refine (of_any dv _ (by omega) (by omega)).mono ?_
                        rintro e w14 ⟨s6, A6, k6, c6, rfl, hN6, hb6⟩
                        have hk6 : k6 ≤ 1 := (Lt9.small (x := dv) (by omega)).kle hN6
                        have hx6 := hx5.call hb6
                        have hN56 := hN5.below hb6
                        have HB6 := Lib.hid (HB5.out.trans (hb6.mono HB5.out.size))
                        clear x0 x1 hb6 hx5 hN5
                        have x0 := hx6.c0
                        have x1 := hx6.c1
                        go_wp2_with fail
                        refine hK.out _ _ ⟨x0, x1⟩ (fun hHeld => ?_)
                        clear hK
                        try simp only [Act.put, List.setIfInBounds_toArray, List.set_cons_zero, List.set_cons_succ, List.getElem_toArray, List.getElem_cons_zero, List.getElem_cons_succ]
                        refine goT_step 7 rfl (by decide +kernel) (fun K_ hK => ?_)
                        go_simp
                        refine (add_any _ hN56 hN6 (by omega) (by omega)).mono ?_
                        rintro e w15 ⟨s7, A7, k7, c7, rfl, hN7, hb7⟩
                        have hx7 := hx6.call hb7
                        have HB7 := Lib.hid (HB6.out.trans (hb7.mono HB6.out.size))
                        have HV : Hid ((Mw.bval b (L.take pos) : Int) * (b : Int) + dv = ((Mw.bval b (L.take (pos + 1)) : Nat) : Int)) := Lib.hid (by rw [take_snoc (by have := HSP.out; have := HSZ.out; omega), Mw.bval_snoc, HDV.out]; push_cast; rfl)
                        rw [HV.out] at hN7
                        clear x0 x1 hb7 hx6 hN56 hN6
                        have x0 := hx7.c0
                        have x1 := hx7.c1
                        go_wp2_with fail
                        refine hK.out _ _ ⟨x0, x1⟩ (fun hHeld => ?_)
                        clear hK
                        try simp only [Act.put, List.setIfInBounds_toArray, List.set_cons_zero, List.set_cons_succ, List.getElem_toArray, List.getElem_cons_zero, List.getElem_cons_succ]
                        refine goT_done (by decide +kernel) ?_
                        have f0 := hx7.f0
                        have f1 := hx7.f1
                        have HNEW := Lib.hid (Nb.putSame hN7 hx7).bn
                        have HOW8 := Lib.hid ((HOWD.out.next HB7.out).putN (b := bx) (by omega) s7 A7 k7 c7)
                        have hlt1 : bx + 1 < WD.heap.size := (Array.getElem?_eq_some_iff.1 HKD.out).1
                        have HK8 : Hid ((putN w15 bx s7 A7 k7 c7).heap[bx + 1]? = some (.stringIter ds (pos + 1))) := Lib.hid ((Below.heap_setCell _ _ _ _ (by simp)).trans ((Below.heap_setCell _ _ _ _ (by simp)).trans ((HB7.out.block _ hlt1).trans HKD.out)))
                        clear hx7 hN7 hlt1
                        go_wp2_with fail
                        go_roundw
                        case rel => exact ⟨pos + 1, Lib.hid (by have := HSP.out; have := HSZ.out; omega), HK8.out, HNEW, HOW8⟩
                        case measure =>
                          have hmu2 : (putN w15 bx s7 A7 k7 c7).iterPos (bx + 1) = pos + 1 := by simp only [World.iterPos, HK8.out]
                          rw [HMU.out, hmu2]
                          have := HSP.out; omega
                      · exact absurd hcb g1
                    · have hnext : ∀ ty, (Instr.next (.pointer (some ⟨bx + 1, 0, none⟩)) true ty).run Tryz.prog wr = _ := fun ty => Lib.run_next_end_at wr (bx + 1) ds pos ty hk hp
                      have hpe : pos = L.length := by have := HP.out; have := HSZ.out; omega
                      subst hpe
                      rw [List.take_length] at HBX
                      obtain ⟨V, hV⟩ : ∃ V, Mw.bval b L = V := ⟨_, rfl⟩
                      rw [hV] at HBX
                      have hLV : Lt9 332 (V : Int) := by
                        have h := bval_lt9 HNB.out.2 (take_all HALL.out L.length) (by rw [List.length_take]; have := HLEN.out; omega)
                        rwa [List.take_length, hV] at h
                      obtain ⟨sx, Ax, kx, cx, hx⟩ := HBX.out
                      have hkx : kx ≤ 332 := hLV.kle hx.num
                      have x0 := hx.c0
                      have x1 := hx.c1
                      have hr := HR2.out
                      have HHX := Lib.hid hx
                      clear hp HP hLV HBX
                      by_cases hneg : L.length < s.data.toList.length
                      · have hnn : (L.length : Int) < (s.size : Int) := by rw [hsl] at hneg; omega
                        rw [Mw.fval, if_pos hneg, hV] at hr
                        clear hneg hV
                        have f0 := hx.f0
                        have f1 := hx.f1
                        clear hx
                        go_wp2_with (first | (go_at_call 79; with_reducible refine (opposite_any _ HHX.out.num).mono ?_; rintro e w11 ⟨rfl, hN11, hb11⟩; refine Hid.out ?_))
                        have hx11 := HHX.out.call hb11
                        have HNEW := Lib.hid (Nb.putSame hN11 hx11)
                        have HOW11 := Lib.hid ((HOW.out.next hb11).putN (b := bx) (by omega) (-sx) Ax kx cx)
                        have hT := HT.out _ HOW11.out.below
                        clear x0 x1 f0 f1 HHX HOW hN11 hb11 hk hnext
                        have z0 := hx11.c0
                        have z1 := hx11.c1
                        have z2 := hx11.f0
                        have z3 := hx11.f1
                        have x0 := HNEW.out.c0
                        have x1 := HNEW.out.c1
                        clear hx11
                        refine Lib.hid ?_
                        by_cases hgo : Mw.gerr (-(V : Int)) = 0
                        · rw [if_pos hgo] at hr
                          have HR4 := Lib.hid hr
                          clear hr HR2
                          go_wp2_with (first | (go_at_call 71; with_reducible refine (given_ok _ HNEW.out.num (by omega) hT hgo).mono ?_; rintro e w12 ⟨rfl, hb12⟩; refine Hid.out ?_))
                          have HO8 := Lib.hid (HOW11.out.next hb12)
                          have q0 := HO8.out.cell
                          have p0 := HO8.out.frz
                          clear hb12 hT hgo x0 x1
                          refine Lib.hid ?_
                          go_wp2_with fail
                          have hr := HR4.out
                          cases hr
                          exact door_leave isDoor_FromBase _ (.int .i64 0) (.tuple #[.string _, .int .i64 0]) _ (World.cell?_setCell_same _ _ _ q0) (by simp [p0]) (fun W' h => by simp [results, Tryz.results63, go_sem, h])
                            (fun W' h => ⟨rfl, (HO8.out.below.setCell (Nat.le_refl _) _).trans h⟩)
                        · rw [if_neg hgo] at hr
                          cases hr
                          have hgb := given_bad _ HNEW.out.num (by omega) hT hgo
                          rw [gerr_13 hgo] at hgb
                          have HGB := Lib.hid hgb
                          clear hgb
                          go_wp2_with (first | (go_at_call 71; with_reducible refine HGB.out.mono ?_; rintro e w12 ⟨rfl, hb12⟩))
                          have HO8 := HOW11.out.next hb12
                          exact door_caught isDoor_FromBase _ (.int .i64 0) (.tuple #[.string ⟨#[]⟩, .int .i64 13]) _ _ (HG.out.below HO8.below) HO8.lt HO8.cell HO8.frz (fun W' h => by simp [results, Tryz.results63, go_sem, h])
                            (fun W' h => ⟨rfl, HO8.below.trans h⟩)
                      · have hnn : ¬ (L.length : Int) < (s.size : Int) := by rw [hsl] at hneg; omega
                        rw [Mw.fval, if_neg hneg, hV] at hr
                        clear hneg hV hx
                        have hT := HT.out _ HOW.out.below
                        by_cases hgo : Mw.gerr ((V : Int)) = 0
                        · rw [if_pos hgo] at hr
                          have HR4 := Lib.hid hr
                          clear hr HR2
                          go_wp2_with (first | (go_at_call 71; with_reducible refine (given_ok _ HHX.out.num (by omega) hT hgo).mono ?_; rintro e w12 ⟨rfl, hb12⟩; refine Hid.out ?_))
                          have HO8 := Lib.hid (HOW.out.next hb12)
                          have q0 := HO8.out.cell
                          have p0 := HO8.out.frz
                          clear hb12 hT hgo x0 x1
                          refine Lib.hid ?_
                          go_wp2_with fail
                          have hr := HR4.out
                          cases hr
                          exact door_leave isDoor_FromBase _ (.int .i64 0) (.tuple #[.string _, .int .i64 0]) _ (World.cell?_setCell_same _ _ _ q0) (by simp [p0]) (fun W' h => by simp [results, Tryz.results63, go_sem, h])
                            (fun W' h => ⟨rfl, (HO8.out.below.setCell (Nat.le_refl _) _).trans h⟩)
                        · rw [if_neg hgo] at hr
                          cases hr
                          have hgb := given_bad _ HHX.out.num (by omega) hT hgo
                          rw [gerr_13 hgo] at hgb
                          have HGB := Lib.hid hgb
                          clear hgb
                          go_wp2_with (first | (go_at_call 71; with_reducible refine HGB.out.mono ?_; rintro e w12 ⟨rfl, hb12⟩))
                          have HO8 := HOW.out.next hb12
                          exact door_caught isDoor_FromBase _ (.int .i64 0) (.tuple #[.string ⟨#[]⟩, .int .i64 13]) _ _ (HG.out.below HO8.below) HO8.lt HO8.cell HO8.frz (fun W' h => by simp [results, Tryz.results63, go_sem, h])
                            (fun W' h => ⟨rfl, HO8.below.trans h⟩)
          · go_enter_defers Tryz.func63, Tryz.ntmps63
            go_wp2_with (first | (go_at_call 86; with_reducible refine (fail_f _ _ _ (by first | rfl | exact hdd)).mono ?_; rintro e w6 ⟨rfl, rfl⟩) | (go_at_call 121; refine (htr _).mono ?_; rintro e w5 ⟨rfl, rfl⟩) | (go_at_call 86; with_reducible refine (fail_f _ _ _ (by simp; omega)).mono ?_; rintro e w6 ⟨rfl, rfl⟩))
            obtain ⟨ds, hds⟩ : ∃ ds : ByteArray, ({ data := (d :: r).toArray } : ByteArray) = ds := ⟨_, rfl⟩
            obtain ⟨hsz, hat⟩ := at_list hds
            have hk0 := World.iter_heap (w.alloc (.cells #[.int .i64 0] 28)) ds 0
            rw [World.size_alloc] at hk0
            have HO0 : Hid (Own w (.int .i64 0) ((w.alloc (.cells #[.int .i64 0] 28)).iter ds 0)) := Lib.hid (Own.of ((Below.refl _ _).alloc (Nat.le_refl _) _))
            rw [hds]
            clear h0 htr
            obtain ⟨L, hL⟩ : ∃ L, d :: r = L := ⟨_, rfl⟩
            rw [hL] at hsz hat hD
            rw [hL] at HR
            have HSZ := Lib.hid hsz
            have HAT := Lib.hid hat
            have HD := Lib.hid hD
            have hle : L.length ≤ 100000 := by
              rw [← hsz, ← hds]
              have h9 : L.length ≤ s.data.toList.length := by
                rw [← hD]
                exact unm_len _
              rw [hsl] at h9
              rw [hds, hsz]; omega
            have HLE := Lib.hid hle
            clear hsz hat hL hD hds hle hbad
            generalize (w.alloc (.cells #[.int .i64 0] 28)).iter ds 0 = W1 at *
            go_loopw [8] (fun _ wr => ∃ pos : Nat, Hid (pos ≤ L.length) ∧ wr.heap[w.heap.size + 1]? = some (.stringIter ds pos) ∧ Hid (∀ i, i < pos → Mw.bdig (L.getD i 0) < b) ∧ Hid (Own w (.int .i64 0) wr)) (fun _ wr => ds.size - wr.iterPos (w.heap.size + 1))
            case atStart => exact ⟨0, Lib.hid (Nat.zero_le _), hk0, Lib.hid (fun i hi => absurd hi (Nat.not_lt_zero i)), HO0⟩
            case round =>
              obtain ⟨pos, HP, hk, HDG, HOW⟩ := hrel
              clear hk0 HO0
              by_cases hp : pos < ds.size
              · have hnext : ∀ ty, (Instr.next (.pointer (some ⟨w.heap.size + 1, 0, none⟩)) true ty).run Tryz.prog wr = _ := fun ty => Lib.run_next_any_at wr (w.heap.size + 1) ds pos ty hk hp
                have hk1 := Lib.iterAt_heap wr (w.heap.size + 1) ds pos (pos + (Utf8.decode ds pos).2) hk
                have HOW1 := Lib.hid (HOW.out.nextB (B := w.heap.size + 1) (Nat.lt_succ_self _) (Lib.below_iterAt (Below.refl _ wr) (Nat.le_refl _) ds (pos + (Utf8.decode ds pos).2)))
                have hmu : wr.iterPos (w.heap.size + 1) = pos := by simp [World.iterPos, hk]
                have hby := decode_byte ds pos hp
                rw [HAT.out pos hp] at hby
                have hcase := dgv_of (r := (Utf8.decode ds pos).1) (n := (Utf8.decode ds pos).2) hby HNB.out.2
                obtain ⟨b0, hb0⟩ : ∃ x, (Utf8.decode ds pos).1 = x := ⟨_, rfl⟩
                rw [hb0] at hnext hcase
                obtain ⟨dv, hdv⟩ : ∃ x, Mw.dgv (b0 : Int) = x := ⟨_, rfl⟩
                have hdig := digit_any (b0 : Int)
                rw [hdv] at hdig hcase
                have HDI := Lib.hid hdig
                rcases hcase with ⟨g1, g2, g3⟩ | ⟨g1, g2⟩
                · rw [g3] at hnext hk1 HOW1
                  generalize wr.iterAt (w.heap.size + 1) ds (pos + 1) = W2 at hnext hk1 HOW1
                  have h6 : ¬ dv < 0 := by omega
                  have h7 : ¬ (b : Int) ≤ dv := by omega
                  have hdf : (decide (dv < 0) || decide ((b : Int) ≤ dv)) = false := by simp; omega
                  have HSP := Lib.hid hp
                  have HG1 := Lib.hid g1
                  clear hby hb0 g3 g1 g2 hp hdv hdig HOW
                  go_wp2_with (first | (go_at_call 122; with_reducible refine (HDI.out _).mono ?_; rintro e w7 ⟨rfl, rfl⟩) | (go_at_call 86; with_reducible refine (fail_f _ _ _ (by first | rfl | exact hdf)).mono ?_; rintro e w8 ⟨rfl, rfl⟩))
                  go_roundw
                  case rel =>
                    refine ⟨pos + 1, Lib.hid (by have := HSP.out; have := HSZ.out; omega), hk1, Lib.hid (fun i hi => ?_), HOW1⟩
                    rcases Nat.lt_or_ge i pos with hlt | hge
                    · exact HDG.out i hlt
                    · obtain rfl : i = pos := by omega
                      exact HG1.out
                  case measure =>
                    have hmu2 : w8.iterPos (w.heap.size + 1) = pos + 1 := by simp [World.iterPos, hk1]
                    rw [hmu, hmu2]
                    have := HSP.out; omega
                · have hfg : Mw.fgood b L = false := by
                    rw [Bool.eq_false_iff, ne_eq, fgood_iff]
                    intro h
                    exact g1 (h pos (by have := HSZ.out; omega))
                  have hr := HR.out
                  rw [if_pos hfg] at hr
                  cases hr
                  generalize wr.iterAt (w.heap.size + 1) ds (pos + (Utf8.decode ds pos).2) = W2 at hnext hk1 HOW1
                  have hdf : (decide (dv < 0) || decide ((b : Int) ≤ dv)) = true := by simp; omega
                  clear hby hb0 hp hdv hdig HOW hfg g1
                  rcases g2 with g2 | g2
                  · go_wp2_with (first | (go_at_call 122; with_reducible refine (HDI.out _).mono ?_; rintro e w7 ⟨rfl, rfl⟩) | (go_at_call 86; with_reducible refine (fail_t _ _ _ (by first | rfl | exact hdf | (simp; omega))).mono ?_; rintro e w8 ⟨rfl, rfl⟩))
                    exact door_caught isDoor_FromBase _ (.int .i64 0) (.tuple #[.string ⟨#[]⟩, .int .i64 1]) _ _ (HG.out.below HOW1.out.below) HOW1.out.lt HOW1.out.cell HOW1.out.frz (fun W' h => by simp [results, Tryz.results63, go_sem, h])
                      (fun W' h => ⟨rfl, HOW1.out.below.trans h⟩)
                  · have g4 : ¬ dv < 0 := by omega
                    go_wp2_with (first | (go_at_call 122; with_reducible refine (HDI.out _).mono ?_; rintro e w7 ⟨rfl, rfl⟩) | (go_at_call 86; with_reducible refine (fail_t _ _ _ (by first | rfl | exact hdf | (simp; omega))).mono ?_; rintro e w8 ⟨rfl, rfl⟩))
                    exact door_caught isDoor_FromBase _ (.int .i64 0) (.tuple #[.string ⟨#[]⟩, .int .i64 1]) _ _ (HG.out.below HOW1.out.below) HOW1.out.lt HOW1.out.cell HOW1.out.frz (fun W' h => by simp [results, Tryz.results63, go_sem, h])
                      (fun W' h => ⟨rfl, HOW1.out.below.trans h⟩)
              · have hnext : ∀ ty, (Instr.next (.pointer (some ⟨w.heap.size + 1, 0, none⟩)) true ty).run Tryz.prog wr = _ := fun ty => Lib.run_next_end_at wr (w.heap.size + 1) ds pos ty hk hp
                have hall : ∀ i, i < L.length → Mw.bdig (L.getD i 0) < b := fun i hi => HDG.out i (by have := HSZ.out; omega)
                have hfg : Mw.fgood b L = true := fgood_iff.mpr hall
                have hr := HR.out
                rw [if_neg (by rw [hfg]; simp)] at hr
                have HALL := Lib.hid hall
                have hsz2 := HSZ.out
                clear hfg hall hp HDG HP
                by_cases hlen : 1600 < L.length
                · rw [if_pos hlen] at hr
                  cases hr
                  have hlt : decide ((1600 : Int) < (ds.size : Int)) = true := decide_eq_true (by omega)
                  go_wp2_with (first | (go_at_call 86; with_reducible refine (fail_t _ _ _ (by first | rfl | exact hlt | exact decide_eq_true (by omega))).mono ?_; rintro e w8 ⟨rfl, rfl⟩))
                  exact door_caught isDoor_FromBase _ (.int .i64 0) (.tuple #[.string ⟨#[]⟩, .int .i64 13]) _ _ (HG.out.below HOW.out.below) HOW.out.lt HOW.out.cell HOW.out.frz (fun W' h => by simp [results, Tryz.results63, go_sem, h])
                    (fun W' h => ⟨rfl, HOW.out.below.trans h⟩)
                · rw [if_neg hlen] at hr
                  have HR2 := Lib.hid hr
                  have HLEN := Lib.hid (show L.length ≤ 1600 by omega)
                  have hlt : decide ((1600 : Int) < (ds.size : Int)) = false := decide_eq_false (by omega)
                  clear hr hlen HR
                  go_wp2_with (first | (go_at_call 86; with_reducible refine (fail_f _ _ _ (by first | rfl | exact hlt | exact decide_eq_false (by have := HLEN.out; omega))).mono ?_; rintro e w8 ⟨rfl, rfl⟩) | (go_at_call 73; with_reducible refine (of_any 0 _ (by omega) (by omega)).mono ?_; rintro e w9 ⟨s9, A9, k9, c9, rfl, hN9, hb9⟩; refine Hid.out ?_))
                  have HOW9 := Lib.hid (((HOW.out.next hb9).next (below_alloc1 w9 (.cells #[.int .i64 s9, .slice A9 k9 c9] 71))).next (below_alloc1 _ (.stringIter ds 0)))
                  have HBX9 := Lib.hid ((Nb.new hN9 71).call (below_alloc1 _ (.stringIter ds 0))).bn
                  have hbx : w.heap.size < w9.heap.size := (HOW.out.next hb9).lt
                  have hk9 := World.iter_heap (w9.alloc (.cells #[.int .i64 s9, .slice A9 k9 c9] 71)) ds 0
                  rw [World.size_alloc] at hk9
                  clear HOW hN9 hb9 hk hnext hlt
                  refine Lib.hid ?_
                  go_wp2_with fail
                  obtain ⟨bx, hbb⟩ : ∃ x, w9.heap.size = x := ⟨_, rfl⟩
                  rw [hbb] at HBX9 hk9 hbx ⊢
                  clear hbb
                  refine wp_world (fun W => W.heap[bx + 1]? = some (.stringIter ds 0) ∧ Hid (Bn W bx 0) ∧ Hid (Own w (.int .i64 0) W)) ⟨hk9, HBX9, HOW9⟩ ?_
                  clear hk9 HBX9 HOW9
                  rintro W10 ⟨hk10, HBX10, HOW10⟩
                  go_loopw [12] (fun _ wr => ∃ pos : Nat, Hid (pos ≤ L.length) ∧ wr.heap[bx + 1]? = some (.stringIter ds pos) ∧ Hid (Bn wr bx (Mw.bval b (L.take pos) : Int)) ∧ Hid (Own w (.int .i64 0) wr)) (fun _ wr => ds.size - wr.iterPos (bx + 1))
                  case atStart => exact ⟨0, Lib.hid (Nat.zero_le _), hk10, HBX10, HOW10⟩
                  case round =>
                    obtain ⟨pos, HP, hk, HBX, HOW⟩ := hrel
                    clear hk10 HBX10 HOW10
                    by_cases hp : pos < ds.size
                    · have hnext : ∀ ty, (Instr.next (.pointer (some ⟨bx + 1, 0, none⟩)) true ty).run Tryz.prog wr = _ := fun ty => Lib.run_next_any_at wr (bx + 1) ds pos ty hk hp
                      have hk1 := Lib.iterAt_heap wr (bx + 1) ds pos (pos + (Utf8.decode ds pos).2) hk
                      have HOW1 := Lib.hid (HOW.out.nextB (B := w.heap.size + 1) (Nat.lt_succ_self _) (Lib.below_iterAt (Below.refl _ wr) (show w.heap.size + 1 ≤ bx + 1 by omega) ds (pos + (Utf8.decode ds pos).2)))
                      have HBX1 := Lib.hid (HBX.out.grown (grown_iterAt wr (bx + 1) ds (pos + (Utf8.decode ds pos).2)) (fun r e => by cases e; exact ⟨_, hk, rfl⟩))
                      have hmu : wr.iterPos (bx + 1) = pos := by simp [World.iterPos, hk]
                      have HMU := Lib.hid hmu
                      have hby := decode_byte ds pos hp
                      rw [HAT.out pos hp] at hby
                      have hcase := dgv_of (r := (Utf8.decode ds pos).1) (n := (Utf8.decode ds pos).2) hby HNB.out.2
                      obtain ⟨b0, hb0⟩ : ∃ x, (Utf8.decode ds pos).1 = x := ⟨_, rfl⟩
                      rw [hb0] at hnext hcase
                      obtain ⟨dv, hdv⟩ : ∃ x, Mw.dgv (b0 : Int) = x := ⟨_, rfl⟩
                      have hdig := digit_any (b0 : Int)
                      rw [hdv] at hdig hcase
                      have HDI := Lib.hid hdig
                      have hpl : pos < L.length := by omega
                      have hcb := HALL.out pos hpl
                      rcases hcase with ⟨g1, g2, g3⟩ | ⟨g1, g2⟩
                      · rw [g3] at hnext hk1 HOW1 HBX1
                        generalize wr.iterAt (bx + 1) ds (pos + 1) = W2 at hnext hk1 HOW1 HBX1
                        have HDV := Lib.hid g2
                        have HSP := Lib.hid hp
                        have HK1 := Lib.hid hk1
                        have h6 : 0 ≤ dv := by omega
                        have h7 : dv < 36 := by have := HNB.out; omega
                        clear hby hb0 g3 g1 g2 hp hdv hdig HOW HBX hmu hk1 hcb
                        go_wp2_with fail
                        obtain ⟨sx, Ax, kx, cx, hx⟩ := HBX1.out.call (below_drew (Below.refl _ _) : Below W2.heap.size W2 W2.drew)
                        have HOWD := Lib.hid (HOW1.out.next (below_drew (Below.refl _ _) : Below W2.heap.size W2 W2.drew))
                        have HKD : Hid (W2.drew.heap[bx + 1]? = some (.stringIter ds (pos + 1))) := HK1
                        have hkx : kx ≤ 332 := (bval_lt9 HNB.out.2 (take_all HALL.out pos) (by rw [List.length_take]; have := HLEN.out; omega)).kle hx.num
                        have x0 := hx.c0
                        have x1 := hx.c1
                        refine wp_region_goT (fun w' => w'.cell? ⟨bx, 0, none⟩ = some (.int .i64 sx) ∧ w'.cell? ⟨bx, 1, none⟩ = some (.slice Ax kx cx)) 8 (by kernel_rfl) (by kernel_rfl) ⟨x0, x1⟩ (fun hHeld => ?_)
                        clear HK1 HBX1 HOW1
                        generalize W2.drew = WD at *
                        refine goT_take 0 (v := ?_) rfl (by decide +kernel) (fun _ _ _ h => bodyPostD_put (by decide +kernel) h) (Or.inl ⟨by rfl, ?_⟩) (by assumption) ?_
                        rotate_left
                        · (intro w_ hSw; (try dsimp only at hSw); go_simp; (try with_reducible rfl))
                        try simp only [Act.put, List.setIfInBounds_toArray, List.set_cons_zero, List.set_cons_succ]
                        refine goT_take 1 (v := ?_) rfl (by decide +kernel) (fun _ _ _ h => bodyPostD_put (by decide +kernel) h) (Or.inl ⟨by rfl, ?_⟩) (by assumption) ?_
                        rotate_left
                        · (intro w_ hSw; (try dsimp only at hSw); go_simp; (try with_reducible rfl))
                        try simp only [Act.put, List.setIfInBounds_toArray, List.set_cons_zero, List.set_cons_succ]
                        refine goT_take 4 (v := ?_) rfl (by decide +kernel) (fun _ _ _ h => bodyPostD_put (by decide +kernel) h) (Or.inl ⟨by rfl, ?_⟩) (by assumption) ?_
                        rotate_left
                        · (intro w_ hSw; (try dsimp only at hSw); go_simp; (try with_reducible rfl))
                        try simp only [Act.put, List.setIfInBounds_toArray, List.set_cons_zero, List.set_cons_succ]
                        refine goT_step 2 rfl (by decide +kernel) (fun K_ hK => ?_)
                        go_simp
                        refine (of_any (b : Int) _ (by omega) (by omega)).mono ?_
                        rintro e w11 ⟨s4, A4, k4, c4, rfl, hN4, hb4⟩
                        have hk4 : k4 ≤ 1 := (Lt9.small (x := (b : Int)) (by have := HNB.out; omega)).kle hN4
                        have hx4 := hx.call hb4
                        have HB4 := Lib.hid hb4
                        clear x0 x1 hb4
                        have x0 := hx4.c0
                        have x1 := hx4.c1
                        go_wp2_with fail
                        refine hK.out _ _ ⟨x0, x1⟩ (fun hHeld => ?_)
                        clear hK
                        try simp only [Act.put, List.setIfInBounds_toArray, List.set_cons_zero, List.set_cons_succ, List.getElem_toArray, List.getElem_cons_zero, List.getElem_cons_succ]
                        refine goT_step 3 rfl (by decide +kernel) (fun K_ hK => ?_)
                        go_simp
                        refine (mul_any _ hx4.num hN4 (by omega) (.inr (by omega))).mono ?_
                        rintro e w12 ⟨s5, A5, k5, c5, rfl, hN5, hb5⟩
                        have hk5 : k5 ≤ 333 := ((bval_lt9 HNB.out.2 (take_all HALL.out pos) (by rw [List.length_take]; have := HLEN.out; omega)).mul (Lt9.small (x := (b : Int)) (by have := HNB.out; omega))).kle hN5
                        have hx5 := hx4.call hb5
                        have HB5 := Lib.hid (HB4.out.trans (hb5.mono HB4.out.size))
                        clear x0 x1 hb5 hx4 hN4
                        have x0 := hx5.c0
                        have x1 := hx5.c1
                        go_wp2_with fail
                        refine hK.out _ _ ⟨x0, x1⟩ (fun hHeld => ?_)
                        clear hK
                        try simp only [Act.put, List.setIfInBounds_toArray, List.set_cons_zero, List.set_cons_succ, List.getElem_toArray, List.getElem_cons_zero, List.getElem_cons_succ]
                        refine goT_step 5 rfl (by decide +kernel) (fun K_ hK => ?_)
                        go_simp
                        refine (HDI.out _).mono ?_
                        rintro e w13 ⟨rfl, rfl⟩
                        go_wp2_with fail
                        refine hK.out _ _ ⟨x0, x1⟩ (fun hHeld => ?_)
                        clear hK
                        try simp only [Act.put, List.setIfInBounds_toArray, List.set_cons_zero, List.set_cons_succ, List.getElem_toArray, List.getElem_cons_zero, List.getElem_cons_succ]
                        refine goT_step 6 rfl (by decide +kernel) (fun K_ hK => ?_)
                        go_simp
                        refine (of_any dv _ (by omega) (by omega)).mono ?_
                        rintro e w14 ⟨s6, A6, k6, c6, rfl, hN6, hb6⟩
                        have hk6 : k6 ≤ 1 := (Lt9.small (x := dv) (by omega)).kle hN6
                        have hx6 := hx5.call hb6
                        have hN56 := hN5.below hb6
                        have HB6 := Lib.hid (HB5.out.trans (hb6.mono HB5.out.size))
                        clear x0 x1 hb6 hx5 hN5
                        have x0 := hx6.c0
                        have x1 := hx6.c1
                        go_wp2_with fail
                        refine hK.out _ _ ⟨x0, x1⟩ (fun hHeld => ?_)
                        clear hK
                        try simp only [Act.put, List.setIfInBounds_toArray, List.set_cons_zero, List.set_cons_succ, List.getElem_toArray, List.getElem_cons_zero, List.getElem_cons_succ]
                        refine goT_step 7 rfl (by decide +kernel) (fun K_ hK => ?_)
                        go_simp
                        refine (add_any _ hN56 hN6 (by omega) (by omega)).mono ?_
                        rintro e w15 ⟨s7, A7, k7, c7, rfl, hN7, hb7⟩
                        have hx7 := hx6.call hb7
                        have HB7 := Lib.hid (HB6.out.trans (hb7.mono HB6.out.size))
                        have HV : Hid ((Mw.bval b (L.take pos) : Int) * (b : Int) + dv = ((Mw.bval b (L.take (pos + 1)) : Nat) : Int)) := Lib.hid (by rw [take_snoc (by have := HSP.out; have := HSZ.out; omega), Mw.bval_snoc, HDV.out]; push_cast; rfl)
                        rw [HV.out] at hN7
                        clear x0 x1 hb7 hx6 hN56 hN6
                        have x0 := hx7.c0
                        have x1 := hx7.c1
                        go_wp2_with fail
                        refine hK.out _ _ ⟨x0, x1⟩ (fun hHeld => ?_)
                        clear hK
                        try simp only [Act.put, List.setIfInBounds_toArray, List.set_cons_zero, List.set_cons_succ, List.getElem_toArray, List.getElem_cons_zero, List.getElem_cons_succ]
                        refine goT_done (by decide +kernel) ?_
                        have f0 := hx7.f0
                        have f1 := hx7.f1
                        have HNEW := Lib.hid (Nb.putSame hN7 hx7).bn
                        have HOW8 := Lib.hid ((HOWD.out.next HB7.out).putN (b := bx) (by omega) s7 A7 k7 c7)
                        have hlt1 : bx + 1 < WD.heap.size := (Array.getElem?_eq_some_iff.1 HKD.out).1
                        have HK8 : Hid ((putN w15 bx s7 A7 k7 c7).heap[bx + 1]? = some (.stringIter ds (pos + 1))) := Lib.hid ((Below.heap_setCell _ _ _ _ (by simp)).trans ((Below.heap_setCell _ _ _ _ (by simp)).trans ((HB7.out.block _ hlt1).trans HKD.out)))
                        clear hx7 hN7 hlt1
                        go_wp2_with fail
                        go_roundw
                        case rel => exact ⟨pos + 1, Lib.hid (by have := HSP.out; have := HSZ.out; omega), HK8.out, HNEW, HOW8⟩
                        case measure =>
                          have hmu2 : (putN w15 bx s7 A7 k7 c7).iterPos (bx + 1) = pos + 1 := by simp only [World.iterPos, HK8.out]
                          rw [HMU.out, hmu2]
                          have := HSP.out; omega
                      · exact absurd hcb g1
                    · have hnext : ∀ ty, (Instr.next (.pointer (some ⟨bx + 1, 0, none⟩)) true ty).run Tryz.prog wr = _ := fun ty => Lib.run_next_end_at wr (bx + 1) ds pos ty hk hp
                      have hpe : pos = L.length := by have := HP.out; have := HSZ.out; omega
                      subst hpe
                      rw [List.take_length] at HBX
                      obtain ⟨V, hV⟩ : ∃ V, Mw.bval b L = V := ⟨_, rfl⟩
                      rw [hV] at HBX
                      have hLV : Lt9 332 (V : Int) := by
                        have h := bval_lt9 HNB.out.2 (take_all HALL.out L.length) (by rw [List.length_take]; have := HLEN.out; omega)
                        rwa [List.take_length, hV] at h
                      obtain ⟨sx, Ax, kx, cx, hx⟩ := HBX.out
                      have hkx : kx ≤ 332 := hLV.kle hx.num
                      have x0 := hx.c0
                      have x1 := hx.c1
                      have hr := HR2.out
                      have HHX := Lib.hid hx
                      clear hp HP hLV HBX
                      by_cases hneg : L.length < s.data.toList.length
                      · have hnn : (L.length : Int) < (s.size : Int) := by rw [hsl] at hneg; omega
                        rw [Mw.fval, if_pos hneg, hV] at hr
                        clear hneg hV
                        have f0 := hx.f0
                        have f1 := hx.f1
                        clear hx
                        go_wp2_with (first | (go_at_call 79; with_reducible refine (opposite_any _ HHX.out.num).mono ?_; rintro e w11 ⟨rfl, hN11, hb11⟩; refine Hid.out ?_))
                        have hx11 := HHX.out.call hb11
                        have HNEW := Lib.hid (Nb.putSame hN11 hx11)
                        have HOW11 := Lib.hid ((HOW.out.next hb11).putN (b := bx) (by omega) (-sx) Ax kx cx)
                        have hT := HT.out _ HOW11.out.below
                        clear x0 x1 f0 f1 HHX HOW hN11 hb11 hk hnext
                        have z0 := hx11.c0
                        have z1 := hx11.c1
                        have z2 := hx11.f0
                        have z3 := hx11.f1
                        have x0 := HNEW.out.c0
                        have x1 := HNEW.out.c1
                        clear hx11
                        refine Lib.hid ?_
                        by_cases hgo : Mw.gerr (-(V : Int)) = 0
                        · rw [if_pos hgo] at hr
                          have HR4 := Lib.hid hr
                          clear hr HR2
                          go_wp2_with (first | (go_at_call 71; with_reducible refine (given_ok _ HNEW.out.num (by omega) hT hgo).mono ?_; rintro e w12 ⟨rfl, hb12⟩; refine Hid.out ?_))
                          have HO8 := Lib.hid (HOW11.out.next hb12)
                          have q0 := HO8.out.cell
                          have p0 := HO8.out.frz
                          clear hb12 hT hgo x0 x1
                          refine Lib.hid ?_
                          go_wp2_with fail
                          have hr := HR4.out
                          cases hr
                          exact door_leave isDoor_FromBase _ (.int .i64 0) (.tuple #[.string _, .int .i64 0]) _ (World.cell?_setCell_same _ _ _ q0) (by simp [p0]) (fun W' h => by simp [results, Tryz.results63, go_sem, h])
                            (fun W' h => ⟨rfl, (HO8.out.below.setCell (Nat.le_refl _) _).trans h⟩)
                        · rw [if_neg hgo] at hr
                          cases hr
                          have hgb := given_bad _ HNEW.out.num (by omega) hT hgo
                          rw [gerr_13 hgo] at hgb
                          have HGB := Lib.hid hgb
                          clear hgb
                          go_wp2_with (first | (go_at_call 71; with_reducible refine HGB.out.mono ?_; rintro e w12 ⟨rfl, hb12⟩))
                          have HO8 := HOW11.out.next hb12
                          exact door_caught isDoor_FromBase _ (.int .i64 0) (.tuple #[.string ⟨#[]⟩, .int .i64 13]) _ _ (HG.out.below HO8.below) HO8.lt HO8.cell HO8.frz (fun W' h => by simp [results, Tryz.results63, go_sem, h])
                            (fun W' h => ⟨rfl, HO8.below.trans h⟩)
                      · have hnn : ¬ (L.length : Int) < (s.size : Int) := by rw [hsl] at hneg; omega
                        rw [Mw.fval, if_neg hneg, hV] at hr
                        clear hneg hV hx
                        have hT := HT.out _ HOW.out.below
                        by_cases hgo : Mw.gerr ((V : Int)) = 0
                        · rw [if_pos hgo] at hr
                          have HR4 := Lib.hid hr
                          clear hr HR2
                          go_wp2_with (first | (go_at_call 71; with_reducible refine (given_ok _ HHX.out.num (by omega) hT hgo).mono ?_; rintro e w12 ⟨rfl, hb12⟩; refine Hid.out ?_))
                          have HO8 := Lib.hid (HOW.out.next hb12)
                          have q0 := HO8.out.cell
                          have p0 := HO8.out.frz
                          clear hb12 hT hgo x0 x1
                          refine Lib.hid ?_
                          go_wp2_with fail
                          have hr := HR4.out
                          cases hr
                          exact door_leave isDoor_FromBase _ (.int .i64 0) (.tuple #[.string _, .int .i64 0]) _ (World.cell?_setCell_same _ _ _ q0) (by simp [p0]) (fun W' h => by simp [results, Tryz.results63, go_sem, h])
                            (fun W' h => ⟨rfl, (HO8.out.below.setCell (Nat.le_refl _) _).trans h⟩)
                        · rw [if_neg hgo] at hr
                          cases hr
                          have hgb := given_bad _ HHX.out.num (by omega) hT hgo
                          rw [gerr_13 hgo] at hgb
                          have HGB := Lib.hid hgb
                          clear hgb
                          go_wp2_with (first | (go_at_call 71; with_reducible refine HGB.out.mono ?_; rintro e w12 ⟨rfl, hb12⟩))
                          have HO8 := HOW.out.next hb12
                          exact door_caught isDoor_FromBase _ (.int .i64 0) (.tuple #[.string ⟨#[]⟩, .int .i64 13]) _ _ (HG.out.below HO8.below) HO8.lt HO8.cell HO8.frz (fun W' h => by simp [results, Tryz.results63, go_sem, h])
                            (fun W' h => ⟨rfl, HO8.below.trans h⟩)
end Go.Proofs.YtjieekkkaekclaaGreatDoor
