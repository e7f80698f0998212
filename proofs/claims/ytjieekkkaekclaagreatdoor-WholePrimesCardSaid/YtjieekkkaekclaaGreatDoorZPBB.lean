/- Lemmas for the claim beside this text. -/
import Derived.Test.YtjieekkkaekclaaGreatDoorZPAZ
import Derived.Test.YtjieekkkaekclaaGreatDoorZPBA
import Derived.BigRegion
set_option linter.all false
set_option linter.unusedVariables false
set_option linter.unusedSimpArgs false
namespace Go.Proofs.YtjieekkkaekclaaGreatDoor
open Go Go.RowKit Go.Proofs.YtjieekkkaekclaaGreatDoorW.PrintWords
attribute [local go_sem] Oper.semAt_some
def Mw.btext (b : Nat) (x : Int) : List UInt8 := if x = 0 then [48] else if x < 0 then 45 :: Mw.btxt b x.natAbs else Mw.btxt b x.natAbs
def Mw.wbase (a : List UInt8) (b : Int) : List UInt8 × Int :=
  if Mw.terr a = 0 then (if b < 2 then ([], 2) else if 36 < b then ([], 2) else (Mw.btext b.toNat (Mw.ival a), 0)) else ([], Mw.terr a)
def bi (l : List UInt8) : List Int := l.map fun c => (c.toNat : Int)
theorem bi_snoc (l : List UInt8) (c : UInt8) : bi (l ++ [c]) = bi l ++ [(c.toNat : Int)] := by simp [bi]
theorem bi_len (l : List UInt8) : (bi l).length = l.length := by simp [bi]
theorem digit_is (r : Int) (h0 : 0 ≤ r) (h1 : r < 36) (h : r.toNat < (⟨#[48, 49, 50, 51, 52, 53, 54, 55, 56, 57, 97, 98, 99, 100, 101, 102, 103, 104, 105, 106, 107, 108, 109, 110, 111, 112, 113, 114, 115, 116, 117, 118, 119, 120, 121, 122]⟩ : ByteArray).size) : ((((⟨#[48, 49, 50, 51, 52, 53, 54, 55, 56, 57, 97, 98, 99, 100, 101, 102, 103, 104, 105, 106, 107, 108, 109, 110, 111, 112, 113, 114, 115, 116, 117, 118, 119, 120, 121, 122]⟩ : ByteArray)[r.toNat]'h).toNat : Nat) : Int) = ((Mw.bch r.toNat).toNat : Int) := by
  have H : ∀ (k : Nat) (hk : k < 36), (((⟨#[48, 49, 50, 51, 52, 53, 54, 55, 56, 57, 97, 98, 99, 100, 101, 102, 103, 104, 105, 106, 107, 108, 109, 110, 111, 112, 113, 114, 115, 116, 117, 118, 119, 120, 121, 122]⟩ : ByteArray)[k]'hk).toNat) = (Mw.bch k).toNat := by decide +kernel
  rw [H r.toNat (by omega)]
set_option exponentiation.threshold 2000 in
theorem brev_short {b n : Nat} (hb : 2 ≤ b) (h : Lt9 45 (n : Int)) : (Mw.brev b n).length ≤ 1350 := by
  refine Mw.brev_len hb 1350 n (Nat.lt_of_lt_of_le (show n < 1000000000 ^ 45 by simpa [Lt9] using h) ?_)
  rw [show 1350 = 30 * 45 from rfl, Nat.pow_mul]
  exact Nat.pow_le_pow_left (by decide) 45
def swp (f : Nat → Int) (n i : Nat) (j : Nat) : Int := if j < i ∨ n - i ≤ j then f (n - 1 - j) else f j
theorem swp_zero (f : Nat → Int) {n j : Nat} (hj : j < n) : swp f n 0 j = f j := by unfold swp; rw [if_neg (by omega)]
theorem swp_step (f : Nat → Int) {n i j : Nat} (hi : i < n / 2) (hj : j < n) : swp f n (i + 1) j = if j = n - 1 - i then swp f n i i else if j = i then swp f n i (n - 1 - i) else swp f n i j := by
  unfold swp
  by_cases h1 : j = n - 1 - i
  · rw [if_pos h1, if_pos (by omega), if_neg (by omega)]; congr 1; omega
  · rw [if_neg h1]
    by_cases h2 : j = i
    · rw [if_pos h2, if_pos (by omega), if_neg (by omega)]; congr 1; omega
    · rw [if_neg h2]
      by_cases h3 : j < i ∨ n - i ≤ j
      · rw [if_pos h3, if_pos (by omega)]
      · rw [if_neg h3, if_neg (by omega)]
theorem swp_end (f : Nat → Int) {n i j : Nat} (hi : i = n / 2) (hj : j < n) : swp f n i j = f (n - 1 - j) := by
  unfold swp
  by_cases h : j < i ∨ n - i ≤ j
  · rw [if_pos h]
  · rw [if_neg h]; congr 1; omega
theorem bi_rev (l : List UInt8) : bi l.reverse = (bi l).reverse := by simp [bi]
theorem shorter_b {s : Int} {A : Option Addr} {k c : Nat} {t b : Nat} (w : World) (H : NumAt w s A k c (t : Int)) (hn : t ≠ 0) (hk : k ≤ 900000) (hb : 2 ≤ b ∧ b ≤ 36) (r : Int) (hr : ((t % b : Nat) : Int) = r) :
    Calls Tryz.prog 119 #[.agg #[.int .i64 s, .slice A k c], .int .i64 (b : Int)] w fun e w' =>
      ∃ s2 A2 k2 c2, e = .returned (.tuple #[.agg #[.int .i64 s2, .slice A2 k2 c2], .int .i64 r]) ∧ NumAt w' s2 A2 k2 c2 ((t / b : Nat) : Int) ∧ Below w.heap.size w w' := by
  have h := shorter_any w (b : Int) H (by omega) hk (by omega) (by omega)
  rw [Int.natAbs_natCast, show ((t : Int) % (b : Int)) = r by rw [← hr]; rfl, show ((t : Int) / (b : Int)) = ((t / b : Nat) : Int) from rfl] at h
  exact h
set_option maxRecDepth 100000 in
set_option maxHeartbeats 6400000 in
theorem base_any (s : ByteArray) (n : Int) (w : World) (hs : s.size ≤ 100000) (hg : Ety w) (htab : Tab w) :
    Calls Tryz.prog 61 #[.string s, .int .i64 n] w fun e w' => e = .returned (.tuple #[.string ⟨(Mw.wbase s.data.toList n).1.toArray⟩, .int .i64 (Mw.wbase s.data.toList n).2]) ∧ Below w.heap.size w w' := by
  have hmf : ∀ (fn : Fn) (first cap : Array Value) (w : World), (Instr.makeFunc fn first cap).run Tryz.prog w = .ok (.func fn first cap) w := fun _ _ _ _ => rfl
  have HG := Lib.hid hg
  have HT := Lib.hid (Lib.tabBelow_of_tabIs htab)
  clear hg htab
  obtain ⟨⟨rs, er⟩, hr⟩ : ∃ x, Mw.wbase s.data.toList n = x := ⟨_, rfl⟩
  rw [hr]
  dsimp only
  by_cases hok : Mw.terr s.data.toList = 0
  · rw [Mw.wbase, if_pos hok] at hr
    obtain ⟨x, hx⟩ : ∃ x, Mw.ival s.data.toList = x := ⟨_, rfl⟩
    rw [hx] at hr
    have HX := Lib.hid hx
    clear hx
    by_cases hn0 : n < 2
    · rw [if_pos hn0] at hr
      cases hr
      go_enter_defers Tryz.func61, Tryz.ntmps61
      go_wp2_with (first | (go_at_call 69; with_reducible refine (taken_ok s _ hs hok).mono ?_; rintro e w1 ⟨s1, A1, k1, c1, rfl, hN1, hb1⟩) | (go_at_call 86; with_reducible refine (fail_t _ _ _ (by first | rfl | exact decide_eq_true hn0)).mono ?_; rintro e w6 ⟨rfl, hw6⟩))
      have HO3 := (Own.of hb1).next (below_alloc (Below.refl _ _) (.cells #[.int .i64 s1, .slice A1 k1 c1] 71))
      exact door_caught isDoor_Base _ (.int .i64 0) (.tuple #[.string ⟨#[]⟩, .int .i64 2]) _ _ (HG.out.below HO3.below) HO3.lt HO3.cell HO3.frz (fun W' h => by simp [results, Tryz.results61, go_sem, h])
        (fun W' h => ⟨rfl, HO3.below.trans h⟩)
    · rw [if_neg hn0] at hr
      by_cases hn1 : 36 < n
      · rw [if_pos hn1] at hr
        cases hr
        go_enter_defers Tryz.func61, Tryz.ntmps61
        go_wp2_with (first | (go_at_call 69; with_reducible refine (taken_ok s _ hs hok).mono ?_; rintro e w1 ⟨s1, A1, k1, c1, rfl, hN1, hb1⟩) | (go_at_call 86; with_reducible refine (fail_t _ _ _ (by first | rfl | exact decide_eq_true hn1)).mono ?_; rintro e w6 ⟨rfl, hw6⟩))
        have HO3 := (Own.of hb1).next (below_alloc (Below.refl _ _) (.cells #[.int .i64 s1, .slice A1 k1 c1] 71))
        exact door_caught isDoor_Base _ (.int .i64 0) (.tuple #[.string ⟨#[]⟩, .int .i64 2]) _ _ (HG.out.below HO3.below) HO3.lt HO3.cell HO3.frz (fun W' h => by simp [results, Tryz.results61, go_sem, h])
          (fun W' h => ⟨rfl, HO3.below.trans h⟩)
      · rw [if_neg hn1] at hr
        have hdd : (decide (n < 2) || decide (36 < n)) = false := by simp; omega
        obtain ⟨b, rfl⟩ : ∃ b : Nat, n = (b : Int) := ⟨n.toNat, by omega⟩
        rw [Int.toNat_natCast] at hr
        have HNB : Hid (2 ≤ b ∧ b ≤ 36) := Lib.hid (by omega)
        by_cases hz : x = 0
        · rw [Mw.btext, if_pos hz] at hr
          cases hr
          have HZ := Lib.hid hz
          clear hz
          go_enter_defers Tryz.func61, Tryz.ntmps61
          go_wp2_with (first | (go_at_call 69; with_reducible refine (taken_ok s _ hs hok).mono ?_; rintro e w1 ⟨s1, A1, k1, c1, rfl, hN1, hb1⟩; rw [HX.out] at hN1; have hs0 : (s1 == 0) = true := beq_iff_eq.mpr (by have h1 := hN1.sign; have h2 := HZ.out; rcases sgn_cases x with ⟨e1, h3⟩ | ⟨e1, h3⟩ | ⟨e1, h3⟩ <;> omega)) | (go_at_call 86; with_reducible refine (fail_f _ _ _ (by first | rfl | exact hdd)).mono ?_; rintro e w6 ⟨rfl, rfl⟩) | (go_at_call 70; with_reducible refine (szero_any s1 _).mono ?_; rintro e w8 ⟨rfl, rfl⟩; refine Hid.out ?_))
          have HO8 := Lib.hid ((Own.of hb1).next (below_alloc (Below.refl _ _) (.cells #[.int .i64 s1, .slice A1 k1 c1] 71)))
          have q0 := HO8.out.cell
          have f0 := HO8.out.frz
          clear hb1 hN1
          refine Lib.hid ?_
          go_wp2_with fail
          exact door_leave isDoor_Base _ (.int .i64 0) (.tuple #[.string _, .int .i64 0]) _ (World.cell?_setCell_same _ _ _ q0) (by simp [f0]) (fun W' h => by simp [results, Tryz.results61, go_sem, h])
            (fun W' h => ⟨rfl, (HO8.out.below.setCell (Nat.le_refl _) _).trans h⟩)
        · rw [Mw.btext, if_neg hz] at hr
          have HR := Lib.hid hr
          have HZ := Lib.hid hz
          clear hz hr
          go_enter_defers Tryz.func61, Tryz.ntmps61
          go_wp2_with (first | (go_at_call 69; with_reducible refine (taken_ok s _ hs hok).mono ?_; rintro e w1 ⟨s1, A1, k1, c1, rfl, hN1, hb1⟩; have hk1 := hN1.k45 hok; rw [HX.out] at hN1; have hs0 : (s1 == 0) = false := beq_eq_false_iff_ne.mpr (by have h1 := hN1.sign; have h2 := HZ.out; rcases sgn_cases x with ⟨e1, h3⟩ | ⟨e1, h3⟩ | ⟨e1, h3⟩ <;> omega)) | (go_at_call 86; with_reducible refine (fail_f _ _ _ (by first | rfl | exact hdd)).mono ?_; rintro e w6 ⟨rfl, rfl⟩) | (go_at_call 70; with_reducible refine (szero_any s1 _).mono ?_; rintro e w8 ⟨rfl, rfl⟩; refine Hid.out ?_))
          have hz0 : w.heap.size < w1.heap.size := (Own.of hb1).lt
          have HO2 := Lib.hid ((Own.of hb1).next (below_alloc (Below.refl _ _) (.cells #[.int .i64 s1, .slice A1 k1 c1] 71)))
          have HX2 := Lib.hid (Nb.new hN1 71)
          have HXL : Hid (Lt9 45 x) := Lib.hid (hN1.lt hk1)
          clear hb1 hN1 hs0 hk1
          obtain ⟨bx, hbx⟩ : ∃ b, w1.heap.size = b := ⟨_, rfl⟩
          rw [hbx] at HX2 hz0 ⊢
          generalize w1.alloc (.cells #[.int .i64 s1, .slice A1 k1 c1] 71) = W2 at *
          clear hbx
          have x0 := HX2.out.c0
          have x1 := HX2.out.c1
          refine Lib.hid ?_
          go_wp2_with (go_at_call 72; with_reducible refine (abs_any _ HX2.out.num).mono ?_; rintro e w3 ⟨rfl, hN3, hb3⟩; refine Hid.out ?_)
          have HXN := Lib.hid (HX2.out.call hb3).bn
          have HB3 := Lib.hid ((HX2.out.call hb3).alloc (.cells #[.int .i64 (s1 * s1), .slice A1 k1 c1] 71)).bn
          have HL3 := Lib.hid (Nb.new hN3 71).bn
          have HO3 := Lib.hid ((HO2.out.next hb3).next (below_alloc (Below.refl _ _) (.cells #[.int .i64 (s1 * s1), .slice A1 k1 c1] 71)))
          have hz1 : bx < w3.heap.size := HXN.out.lt
          clear hN3 hb3 HX2 HO2 HXN x0 x1
          refine Lib.hid ?_
          go_wp2_with fail
          obtain ⟨bl0, hbl0⟩ : ∃ b, w3.heap.size = b := ⟨_, rfl⟩
          rw [hbl0] at HL3 hz1 ⊢
          clear hbl0
          generalize w3.alloc (.cells #[.int .i64 (s1 * s1), .slice A1 k1 c1] 71) = W4 at *
          obtain ⟨N, hN⟩ : ∃ N, x.natAbs = N := ⟨_, rfl⟩
          rw [hN] at HL3
          have HNL : Hid (Lt9 45 (N : Int)) := Lib.hid (Lt9.mono HXL.out (by rw [Int.natAbs_natCast, hN]; exact Nat.le_refl _))
          have HNN := Lib.hid hN
          clear hN
          go_loopw [7, 8] (fun v7 v8 wr => ∃ (pre : List UInt8) (t bl : Nat), v8 = .pointer (some ⟨bl, 0, none⟩) ∧ Hid (Bts wr (w.heap.size + 1) v7 (bi pre)) ∧ Hid (pre ++ Mw.brev b t = Mw.brev b N) ∧ Hid (Lt9 45 (t : Int)) ∧ Hid (Bn wr bl (t : Int)) ∧ Hid (Bn wr bx x) ∧ Hid (Own w (.int .i64 0) wr) ∧ Hid (w.heap.size < bx ∧ bx < bl)) (fun _ v8 wr => numIn wr (ptrB v8))
          case atStart => exact ⟨[], N, bl0, rfl, Lib.hid (Bts.nil _ _), Lib.hid rfl, HNL, HL3, HB3, HO3, Lib.hid ⟨hz0, hz1⟩⟩
          case round =>
            obtain ⟨pre, t, bl, rfl, HBT, HPR, HTL, HBL, HBX, HOW, HLT⟩ := hrel
            clear HL3 HB3 HO3
            obtain ⟨sl, Al, kl, cl, hb⟩ := HBL.out
            have hse := sgn_zero hb.num.sign
            have b0 := hb.c0
            have b1 := hb.c1
            have hkl : kl ≤ 45 := HTL.out.kle hb.num
            by_cases ht : t = 0
            · have hsl : sl = 0 := hse.mpr (by rw [ht]; rfl)
              subst hsl
              subst ht
              have hpr := HPR.out
              rw [Mw.brev_zero, List.append_nil] at hpr
              have HPP := Lib.hid hpr
              obtain ⟨sx, Ax, kx, cx, hx⟩ := HBX.out
              have x0 := hx.c0
              have x1 := hx.c1
              have HSG := Lib.hid hx.num.sign
              clear hse hpr HPR
              have hbn : Mw.brev b N ≠ [] := by
                have hN0 : N ≠ 0 := by have := HNN.out; have := HZ.out; omega
                rw [Mw.brev_pos HNB.out.1 hN0]; simp
              have hbl := brev_short HNB.out.1 HNL.out
              rw [← HPP.out] at hbn hbl
              have hpl : (bi pre).length ≤ 1350 := by rw [bi_len]; exact hbl
              have hbi : bi pre ≠ [] := by intro h; apply hbn; rw [← List.length_eq_zero_iff, ← bi_len, h]; rfl
              clear hbn hbl
              by_cases hneg : x < 0
              · have hsx : (sx == -1) = true := root_neg HSG.out hneg
                go_wp2_with (first | (go_at_call 70; with_reducible refine (szero_any 0 _).mono ?_; rintro e w5 ⟨rfl, rfl⟩) | (go_at_call 78; with_reducible refine (sneg_any sx _).mono ?_; rintro e w6 ⟨rfl, rfl⟩; refine Hid.out ?_))
                refine Lib.hid ?_
                have HPL := Lib.hid hpl
                go_wp2_with (first | ((with_reducible refine gate_builtin (b := .append) (xs := #[.tmp 47, .tmp 48]) rfl ?_); at_builtin; go_loud (refine wpList_append_byte (W := w6) rfl (w.heap.size + 1) (.tmp 47) (.tmp 48) rfl u7 (bi pre) 45 rfl rfl HBT.out HOW.out.lt (by have := HPL.out; omega) ?_); intro v9 w9 hB9 hg9; refine Hid.out ?_))
                have HOW9 := Lib.hid (HOW.out.nextB (Nat.lt_succ_self _) ((Below.refl _ _).grown hg9 HOW.out.lt (fun k e => (HBT.out.own.lt k e).1)))
                obtain ⟨g, cap, rfl, hgb, hcap, hba⟩ := hB9.open_ (by simp)
                have HXS : Hid (bi pre ++ [45] = bi (pre ++ [45])) := Lib.hid (by rw [bi_snoc]; rfl)
                rw [HXS.out] at hba hcap ⊢
                have hnl : (bi (pre ++ [45])).length ≤ 1351 := by rw [bi_len, List.length_append, List.length_singleton, ← bi_len]; omega
                obtain ⟨L, hL⟩ : ∃ L, pre ++ [45] = L := ⟨_, rfl⟩
                rw [hL] at hba hcap hnl ⊢
                have HRS : Hid ((⟨L.reverse.toArray⟩ : ByteArray) = ⟨rs.toArray⟩ ∧ er = 0) := Lib.hid (by
                  have h := HR.out
                  rw [if_pos hneg, Mw.btxt, HNN.out, ← HPP.out] at h
                  cases h
                  rw [← hL]; simp)
                obtain ⟨n, hn⟩ : ∃ n, (bi L).length = n := ⟨_, rfl⟩
                rw [hn] at hba hcap hnl ⊢
                have HBA := Lib.hid hba
                have HNE := Lib.hid hn
                clear HBT HOW hB9 hg9 hba hL hn hx x0 x1 b0 b1 hb HBL HBX HSG hsx hbi hpl HPP HR HXS HPL
                refine Lib.hid ?_
                have hq2 : (n : Int).tdiv 2 = ((n / 2 : Nat) : Int) := rfl
                obtain ⟨m2, hm2⟩ : ∃ m, n / 2 = m := ⟨_, rfl⟩
                rw [hm2] at hq2
                have hwm : IntKind.i64.wrap (m2 : Int) = (m2 : Int) := wrap_small _ (by omega) (by omega)
                go_wp2_with fail
                clear hq2 hwm
                go_loopw [53] (fun v53 wr => ∃ i : Nat, v53 = .int .i64 (i : Int) ∧ Hid (i ≤ m2) ∧ Hid (BytesAt wr g (swp (fun j => (bi L).getD j 0) n i) n) ∧ Hid (Own w (.int .i64 0) wr)) (fun v53 _ => m2 - (intOf v53).toNat)
                case atStart => exact ⟨0, rfl, Lib.hid (Nat.zero_le _), Lib.hid (HBA.out.congr (fun j hj => (swp_zero (fun j => (bi L).getD j 0) hj).symm)), HOW9⟩
                case round =>
                  obtain ⟨i, rfl, HI, HBA2, HOW2⟩ := hrel
                  clear HBA HOW9
                  by_cases him : i < m2
                  · have hin : i < n := by omega
                    obtain ⟨k, hk⟩ : ∃ k, n - 1 - i = k := ⟨_, rfl⟩
                    have hkn : k < n := by omega
                    have hki : i < k := by omega
                    have hk1 : (n : Int) - 1 - (i : Int) = (k : Int) := by omega
                    obtain ⟨p1, hp1⟩ : ∃ p : Int, (n : Int) - 1 = p := ⟨_, rfl⟩
                    rw [hp1] at hk1
                    have hw1 : IntKind.i64.wrap p1 = p1 := wrap_small _ (by omega) (by omega)
                    have hw2 : IntKind.i64.wrap (k : Int) = (k : Int) := wrap_small _ (by omega) (by omega)
                    obtain ⟨c0, f0⟩ := HBA2.out.2 i hin
                    obtain ⟨c1, f1⟩ := HBA2.out.2 k hkn
                    obtain ⟨yi, hyi⟩ : ∃ y, swp (fun j => (bi L).getD j 0) n i i = y := ⟨_, rfl⟩
                    obtain ⟨yk, hyk⟩ : ∃ y, swp (fun j => (bi L).getD j 0) n i k = y := ⟨_, rfl⟩
                    rw [hyi] at c0
                    rw [hyk] at c1
                    have HYI := Lib.hid hyi
                    have HYK := Lib.hid hyk
                    clear hyi hyk
                    go_wp2_with fail
                    have d0 : wr.drew.cell? ⟨g, i, none⟩ = some (.int .u8 yi) := c0
                    have d1 : wr.drew.cell? ⟨g, k, none⟩ = some (.int .u8 yk) := c1
                    have f2 : wr.drew.frozen? ⟨g, i, none⟩ = false := f0
                    have f3 : wr.drew.frozen? ⟨g, k, none⟩ = false := f1
                    clear c0 c1 f0 f1
                    have hbw : Below wr.heap.size wr wr.drew := below_drew (Below.refl _ _)
                    have HOW3 := Lib.hid (HOW2.out.next hbw)
                    have HBA3 : Hid (BytesAt wr.drew g (swp (fun j => (bi L).getD j 0) n i) n) := HBA2
                    clear hbw
                    refine wp_region_goT (fun _ => True) 23 (by kernel_rfl) (by kernel_rfl) trivial (fun hHeld => ?_)
                    clear HBA2 HOW2
                    generalize wr.drew = WD at *
                    refine goT_take 0 (v := ?_) rfl (by decide +kernel) (fun _ _ _ h => bodyPostD_put (by decide +kernel) h) (Or.inl ⟨by rfl, ?_⟩) (by assumption) ?_
                    rotate_left
                    · (intro w_ hSw; (try dsimp only at hSw); go_simp; (try with_reducible rfl))
                    try simp only [Act.put, List.setIfInBounds_toArray, List.set_cons_zero, List.set_cons_succ]
                    refine goT_take 1 (v := ?_) rfl (by decide +kernel) (fun _ _ _ h => bodyPostD_put (by decide +kernel) h) (Or.inl ⟨by rfl, ?_⟩) (by assumption) ?_
                    rotate_left
                    · (intro w_ hSw; (try dsimp only at hSw); go_simp; (try with_reducible rfl))
                    try simp only [Act.put, List.setIfInBounds_toArray, List.set_cons_zero, List.set_cons_succ]
                    refine goT_take 2 (v := ?_) rfl (by decide +kernel) (fun _ _ _ h => bodyPostD_put (by decide +kernel) h) (Or.inl ⟨by rfl, ?_⟩) (by assumption) ?_
                    rotate_left
                    · (intro w_ hSw; (try dsimp only at hSw); go_simp; (try with_reducible rfl))
                    try simp only [Act.put, List.setIfInBounds_toArray, List.set_cons_zero, List.set_cons_succ]
                    refine goT_take 3 (v := ?_) rfl (by decide +kernel) (fun _ _ _ h => bodyPostD_put (by decide +kernel) h) (Or.inl ⟨by rfl, ?_⟩) (by assumption) ?_
                    rotate_left
                    · (intro w_ hSw; (try dsimp only at hSw); go_simp; (try with_reducible rfl))
                    try simp only [Act.put, List.setIfInBounds_toArray, List.set_cons_zero, List.set_cons_succ]
                    refine goT_take 4 (v := ?_) rfl (by decide +kernel) (fun _ _ _ h => bodyPostD_put (by decide +kernel) h) (Or.inl ⟨by rfl, ?_⟩) (by assumption) ?_
                    rotate_left
                    · (intro w_ hSw; (try dsimp only at hSw); go_simp; (try with_reducible rfl))
                    try simp only [Act.put, List.setIfInBounds_toArray, List.set_cons_zero, List.set_cons_succ]
                    refine goT_take 5 (v := ?_) rfl (by decide +kernel) (fun _ _ _ h => bodyPostD_put (by decide +kernel) h) (Or.inl ⟨by rfl, ?_⟩) (by assumption) ?_
                    rotate_left
                    · (intro w_ hSw; (try dsimp only at hSw); go_simp; (try with_reducible rfl))
                    try simp only [Act.put, List.setIfInBounds_toArray, List.set_cons_zero, List.set_cons_succ]
                    refine goT_take 6 (v := ?_) rfl (by decide +kernel) (fun _ _ _ h => bodyPostD_put (by decide +kernel) h) (Or.inl ⟨by rfl, ?_⟩) (by assumption) ?_
                    rotate_left
                    · (intro w_ hSw; (try dsimp only at hSw); go_simp; (try with_reducible rfl))
                    try simp only [Act.put, List.setIfInBounds_toArray, List.set_cons_zero, List.set_cons_succ]
                    refine goT_take 7 (v := ?_) rfl (by decide +kernel) (fun _ _ _ h => bodyPostD_put (by decide +kernel) h) (Or.inl ⟨by rfl, ?_⟩) (by assumption) ?_
                    rotate_left
                    · (intro w_ hSw; (try dsimp only at hSw); go_simp; (try with_reducible rfl))
                    try simp only [Act.put, List.setIfInBounds_toArray, List.set_cons_zero, List.set_cons_succ]
                    refine goT_take 8 (v := ?_) rfl (by decide +kernel) (fun _ _ _ h => bodyPostD_put (by decide +kernel) h) (Or.inl ⟨by rfl, ?_⟩) (by assumption) ?_
                    rotate_left
                    · (intro w_ hSw; (try dsimp only at hSw); go_simp; (try with_reducible rfl))
                    try simp only [Act.put, List.setIfInBounds_toArray, List.set_cons_zero, List.set_cons_succ]
                    refine goT_take 9 (v := ?_) rfl (by decide +kernel) (fun _ _ _ h => bodyPostD_put (by decide +kernel) h) (Or.inl ⟨by rfl, ?_⟩) (by assumption) ?_
                    rotate_left
                    · (intro w_ hSw; (try dsimp only at hSw); go_simp; (try with_reducible rfl))
                    try simp only [Act.put, List.setIfInBounds_toArray, List.set_cons_zero, List.set_cons_succ]
                    refine goT_take 10 (v := ?_) rfl (by decide +kernel) (fun _ _ _ h => bodyPostD_put (by decide +kernel) h) (Or.inl ⟨by rfl, ?_⟩) (by assumption) ?_
                    rotate_left
                    · (intro w_ hSw; (try dsimp only at hSw); go_simp; (try with_reducible rfl))
                    try simp only [Act.put, List.setIfInBounds_toArray, List.set_cons_zero, List.set_cons_succ]
                    refine goT_take 11 (v := ?_) rfl (by decide +kernel) (fun _ _ _ h => bodyPostD_put (by decide +kernel) h) (Or.inl ⟨by rfl, ?_⟩) (by assumption) ?_
                    rotate_left
                    · (intro w_ hSw; (try dsimp only at hSw); go_simp; (try with_reducible rfl))
                    try simp only [Act.put, List.setIfInBounds_toArray, List.set_cons_zero, List.set_cons_succ]
                    refine goT_take 12 (v := ?_) rfl (by decide +kernel) (fun _ _ _ h => bodyPostD_put (by decide +kernel) h) (Or.inl ⟨by rfl, ?_⟩) (by assumption) ?_
                    rotate_left
                    · (intro w_ hSw; (try dsimp only at hSw); go_simp; (try with_reducible rfl))
                    try simp only [Act.put, List.setIfInBounds_toArray, List.set_cons_zero, List.set_cons_succ]
                    refine goT_take 13 (v := ?_) rfl (by decide +kernel) (fun _ _ _ h => bodyPostD_put (by decide +kernel) h) (Or.inl ⟨by rfl, ?_⟩) (by assumption) ?_
                    rotate_left
                    · (intro w_ hSw; (try dsimp only at hSw); go_simp; (try with_reducible rfl))
                    try simp only [Act.put, List.setIfInBounds_toArray, List.set_cons_zero, List.set_cons_succ]
                    refine goT_take 14 (v := ?_) rfl (by decide +kernel) (fun _ _ _ h => bodyPostD_put (by decide +kernel) h) (Or.inl ⟨by rfl, ?_⟩) (by assumption) ?_
                    rotate_left
                    · (intro w_ hSw; (try dsimp only at hSw); go_simp; (try with_reducible rfl))
                    try simp only [Act.put, List.setIfInBounds_toArray, List.set_cons_zero, List.set_cons_succ]
                    refine goT_take 16 (v := ?_) rfl (by decide +kernel) (fun _ _ _ h => bodyPostD_put (by decide +kernel) h) (Or.inl ⟨by rfl, ?_⟩) (by assumption) ?_
                    rotate_left
                    · (intro w_ hSw; (try dsimp only at hSw); go_simp; (try with_reducible rfl))
                    try simp only [Act.put, List.setIfInBounds_toArray, List.set_cons_zero, List.set_cons_succ]
                    refine goT_take 17 (v := ?_) rfl (by decide +kernel) (fun _ _ _ h => bodyPostD_put (by decide +kernel) h) (Or.inl ⟨by rfl, ?_⟩) (by assumption) ?_
                    rotate_left
                    · (intro w_ hSw; (try dsimp only at hSw); go_simp; (try with_reducible rfl))
                    try simp only [Act.put, List.setIfInBounds_toArray, List.set_cons_zero, List.set_cons_succ]
                    refine goT_take 18 (v := ?_) rfl (by decide +kernel) (fun _ _ _ h => bodyPostD_put (by decide +kernel) h) (Or.inl ⟨by rfl, ?_⟩) (by assumption) ?_
                    rotate_left
                    · (intro w_ hSw; (try dsimp only at hSw); go_simp; (try with_reducible rfl))
                    try simp only [Act.put, List.setIfInBounds_toArray, List.set_cons_zero, List.set_cons_succ]
                    simp only [Act.put, List.setIfInBounds_toArray, List.set_cons_zero, List.set_cons_succ, List.getElem_toArray, List.getElem_cons_zero, List.getElem_cons_succ]
                    refine goT_two 15 19 rfl rfl (by decide +kernel) (fun K_ hK => ?_) (fun K_ hK => ?_)
                    · go_simp
                      refine hK.out _ _ trivial (fun hHeld => ?_)
                      clear hK
                      try simp only [Act.put, List.setIfInBounds_toArray, List.set_cons_zero, List.set_cons_succ, List.getElem_toArray, List.getElem_cons_zero, List.getElem_cons_succ]
                      refine goT_step 19 rfl (by decide +kernel) (fun K_ hK => ?_)
                      go_simp
                      refine hK.out _ _ trivial (fun hHeld => ?_)
                      clear hK
                      try simp only [Act.put, List.setIfInBounds_toArray, List.set_cons_zero, List.set_cons_succ, List.getElem_toArray, List.getElem_cons_zero, List.getElem_cons_succ]
                      refine goT_take 20 (v := ?_) rfl (by decide +kernel) (fun _ _ _ h => bodyPostD_put (by decide +kernel) h) (Or.inl ⟨by rfl, ?_⟩) (by assumption) ?_
                      rotate_left
                      · (intro w_ hSw; (try dsimp only at hSw); go_simp; (try with_reducible rfl))
                      try simp only [Act.put, List.setIfInBounds_toArray, List.set_cons_zero, List.set_cons_succ]
                      try simp only [Act.put, List.setIfInBounds_toArray, List.set_cons_zero, List.set_cons_succ, List.getElem_toArray, List.getElem_cons_zero, List.getElem_cons_succ]
                      refine goT_step 21 rfl (by decide +kernel) (fun K_ hK => ?_)
                      go_simp
                      refine hK.out _ _ trivial (fun hHeld => ?_)
                      clear hK
                      try simp only [Act.put, List.setIfInBounds_toArray, List.set_cons_zero, List.set_cons_succ, List.getElem_toArray, List.getElem_cons_zero, List.getElem_cons_succ]
                      refine goT_step 22 rfl (by decide +kernel) (fun K_ hK => ?_)
                      go_simp
                      refine hK.out _ _ trivial (fun hHeld => ?_)
                      clear hK
                      try simp only [Act.put, List.setIfInBounds_toArray, List.set_cons_zero, List.set_cons_succ, List.getElem_toArray, List.getElem_cons_zero, List.getElem_cons_succ]
                      refine goT_done (by decide +kernel) ?_
                      have hS1 := HBA3.out.set i hin yk
                      have HS2 := Lib.hid (hS1.set k hkn yi)
                      obtain ⟨k0, k1_⟩ := hS1.2 k hkn
                      dsimp only at k0
                      rw [if_neg (by omega)] at k0
                      have HOW4 := Lib.hid ((HOW3.out.nextB (B := w.heap.size + 1) (Nat.lt_succ_self _) ((Below.refl _ _).setCell (p := ⟨g, i, none⟩) hgb (.int .u8 yk))).nextB (B := w.heap.size + 1) (Nat.lt_succ_self _) ((Below.refl _ _).setCell (p := ⟨g, k, none⟩) hgb (.int .u8 yi)))
                      clear hS1 d0 d1 f2 f3
                      go_wp2_with fail
                      refine ⟨⟨i + 1, by simp, Lib.hid (by omega), Lib.hid (HS2.out.congr (fun j hj => ?_)), HOW4⟩, ?_⟩
                      · show (if j = k then yi else if j = i then yk else swp (fun j => (bi L).getD j 0) n i j) = _
                        rw [swp_step _ (show i < n / 2 by omega) hj, hk, HYI.out, HYK.out]
                      · simp only [intOf]; omega
                    · go_simp
                      refine hK.out _ _ trivial (fun hHeld => ?_)
                      clear hK
                      try simp only [Act.put, List.setIfInBounds_toArray, List.set_cons_zero, List.set_cons_succ, List.getElem_toArray, List.getElem_cons_zero, List.getElem_cons_succ]
                      refine goT_step 15 rfl (by decide +kernel) (fun K_ hK => ?_)
                      go_simp
                      refine hK.out _ _ trivial (fun hHeld => ?_)
                      clear hK
                      try simp only [Act.put, List.setIfInBounds_toArray, List.set_cons_zero, List.set_cons_succ, List.getElem_toArray, List.getElem_cons_zero, List.getElem_cons_succ]
                      refine goT_take 20 (v := ?_) rfl (by decide +kernel) (fun _ _ _ h => bodyPostD_put (by decide +kernel) h) (Or.inl ⟨by rfl, ?_⟩) (by assumption) ?_
                      rotate_left
                      · (intro w_ hSw; (try dsimp only at hSw); go_simp; (try with_reducible rfl))
                      try simp only [Act.put, List.setIfInBounds_toArray, List.set_cons_zero, List.set_cons_succ]
                      try simp only [Act.put, List.setIfInBounds_toArray, List.set_cons_zero, List.set_cons_succ, List.getElem_toArray, List.getElem_cons_zero, List.getElem_cons_succ]
                      refine goT_step 21 rfl (by decide +kernel) (fun K_ hK => ?_)
                      go_simp
                      refine hK.out _ _ trivial (fun hHeld => ?_)
                      clear hK
                      try simp only [Act.put, List.setIfInBounds_toArray, List.set_cons_zero, List.set_cons_succ, List.getElem_toArray, List.getElem_cons_zero, List.getElem_cons_succ]
                      refine goT_step 22 rfl (by decide +kernel) (fun K_ hK => ?_)
                      go_simp
                      refine hK.out _ _ trivial (fun hHeld => ?_)
                      clear hK
                      try simp only [Act.put, List.setIfInBounds_toArray, List.set_cons_zero, List.set_cons_succ, List.getElem_toArray, List.getElem_cons_zero, List.getElem_cons_succ]
                      refine goT_done (by decide +kernel) ?_
                      have hS1 := HBA3.out.set i hin yk
                      have HS2 := Lib.hid (hS1.set k hkn yi)
                      obtain ⟨k0, k1_⟩ := hS1.2 k hkn
                      dsimp only at k0
                      rw [if_neg (by omega)] at k0
                      have HOW4 := Lib.hid ((HOW3.out.nextB (B := w.heap.size + 1) (Nat.lt_succ_self _) ((Below.refl _ _).setCell (p := ⟨g, i, none⟩) hgb (.int .u8 yk))).nextB (B := w.heap.size + 1) (Nat.lt_succ_self _) ((Below.refl _ _).setCell (p := ⟨g, k, none⟩) hgb (.int .u8 yi)))
                      clear hS1 d0 d1 f2 f3
                      go_wp2_with fail
                      refine ⟨⟨i + 1, by simp, Lib.hid (by omega), Lib.hid (HS2.out.congr (fun j hj => ?_)), HOW4⟩, ?_⟩
                      · show (if j = k then yi else if j = i then yk else swp (fun j => (bi L).getD j 0) n i j) = _
                        rw [swp_step _ (show i < n / 2 by omega) hj, hk, HYI.out, HYK.out]
                      · simp only [intOf]; omega
                  · have hie : i = n / 2 := by have := HI.out; omega
                    have hcv : (convert 104 9 (.slice (some ⟨g, 0, none⟩) n cap)).run Tryz.prog wr = .ok (.string ⟨L.reverse.toArray⟩) wr := by
                      have h := run_convert_bytes_arg (P := Tryz.prog) wr 104 5 (by kernel_rfl) (by kernel_rfl) g 0 n cap (bi L.reverse) (by rw [bi_len, List.length_reverse, ← bi_len, HNE.out]) (fun j hj => ?_) 9 (by kernel_rfl)
                      · rw [h, bi, str_bytes]
                      · rw [Nat.zero_add, (HBA2.out.2 j hj).1, swp_end _ hie hj, bi_rev]; simp only [List.getD_eq_getElem?_getD]; rw [List.getElem?_reverse (by rw [HNE.out]; exact hj), HNE.out]
                    have q0 := HOW2.out.cell
                    have f0 := HOW2.out.frz
                    have HCV := Lib.hid hcv
                    clear HBA2 hie hcv
                    have hcv := HCV.out
                    go_wp2_with fail
                    obtain ⟨h1, h2⟩ := HRS.out
                    rw [h1]
                    subst h2
                    exact door_leave isDoor_Base _ (.int .i64 0) (.tuple #[.string _, .int .i64 0]) _ (World.cell?_setCell_same _ _ _ q0) (by simp [f0]) (fun W' h => by simp [results, Tryz.results61, go_sem, h])
                      (fun W' h => ⟨rfl, (HOW2.out.below.setCell (Nat.le_refl _) _).trans h⟩)
              · have hsx : (sx == -1) = false := root_pos HSG.out hneg
                obtain ⟨g, cap, rfl, hgb, hcap, hba⟩ := HBT.out.open_ hbi
                obtain ⟨L, hL⟩ : ∃ L, pre = L := ⟨_, rfl⟩
                rw [hL] at hba hcap hpl
                have HRS : Hid ((⟨L.reverse.toArray⟩ : ByteArray) = ⟨rs.toArray⟩ ∧ er = 0) := Lib.hid (by
                  have h := HR.out
                  rw [if_neg hneg, Mw.btxt, HNN.out, ← HPP.out] at h
                  cases h
                  rw [← hL]; simp)
                obtain ⟨n, hn⟩ : ∃ n, (bi L).length = n := ⟨_, rfl⟩
                rw [hn] at hba hcap hpl
                have hnl : n ≤ 1351 := by omega
                go_wp2_with (first | (go_at_call 70; with_reducible refine (szero_any 0 _).mono ?_; rintro e w5 ⟨rfl, rfl⟩) | (go_at_call 78; with_reducible refine (sneg_any sx _).mono ?_; rintro e w9 ⟨rfl, rfl⟩; refine Hid.out ?_))
                have HBA := Lib.hid hba
                have HNE := Lib.hid hn
                have HOW9 := HOW
                clear HBT HOW hba hL hn hx x0 x1 b0 b1 hb HBL HBX HSG hsx hbi hpl HPP HR
                refine Lib.hid ?_
                have hq2 : (n : Int).tdiv 2 = ((n / 2 : Nat) : Int) := rfl
                obtain ⟨m2, hm2⟩ : ∃ m, n / 2 = m := ⟨_, rfl⟩
                rw [hm2] at hq2
                have hwm : IntKind.i64.wrap (m2 : Int) = (m2 : Int) := wrap_small _ (by omega) (by omega)
                go_wp2_with fail
                clear hq2 hwm
                go_loopw [53] (fun v53 wr => ∃ i : Nat, v53 = .int .i64 (i : Int) ∧ Hid (i ≤ m2) ∧ Hid (BytesAt wr g (swp (fun j => (bi L).getD j 0) n i) n) ∧ Hid (Own w (.int .i64 0) wr)) (fun v53 _ => m2 - (intOf v53).toNat)
                case atStart => exact ⟨0, rfl, Lib.hid (Nat.zero_le _), Lib.hid (HBA.out.congr (fun j hj => (swp_zero (fun j => (bi L).getD j 0) hj).symm)), HOW9⟩
                case round =>
                  obtain ⟨i, rfl, HI, HBA2, HOW2⟩ := hrel
                  clear HBA HOW9
                  by_cases him : i < m2
                  · have hin : i < n := by omega
                    obtain ⟨k, hk⟩ : ∃ k, n - 1 - i = k := ⟨_, rfl⟩
                    have hkn : k < n := by omega
                    have hki : i < k := by omega
                    have hk1 : (n : Int) - 1 - (i : Int) = (k : Int) := by omega
                    obtain ⟨p1, hp1⟩ : ∃ p : Int, (n : Int) - 1 = p := ⟨_, rfl⟩
                    rw [hp1] at hk1
                    have hw1 : IntKind.i64.wrap p1 = p1 := wrap_small _ (by omega) (by omega)
                    have hw2 : IntKind.i64.wrap (k : Int) = (k : Int) := wrap_small _ (by omega) (by omega)
                    obtain ⟨c0, f0⟩ := HBA2.out.2 i hin
                    obtain ⟨c1, f1⟩ := HBA2.out.2 k hkn
                    obtain ⟨yi, hyi⟩ : ∃ y, swp (fun j => (bi L).getD j 0) n i i = y := ⟨_, rfl⟩
                    obtain ⟨yk, hyk⟩ : ∃ y, swp (fun j => (bi L).getD j 0) n i k = y := ⟨_, rfl⟩
                    rw [hyi] at c0
                    rw [hyk] at c1
                    have HYI := Lib.hid hyi
                    have HYK := Lib.hid hyk
                    clear hyi hyk
                    go_wp2_with fail
                    have d0 : wr.drew.cell? ⟨g, i, none⟩ = some (.int .u8 yi) := c0
                    have d1 : wr.drew.cell? ⟨g, k, none⟩ = some (.int .u8 yk) := c1
                    have f2 : wr.drew.frozen? ⟨g, i, none⟩ = false := f0
                    have f3 : wr.drew.frozen? ⟨g, k, none⟩ = false := f1
                    clear c0 c1 f0 f1
                    have hbw : Below wr.heap.size wr wr.drew := below_drew (Below.refl _ _)
                    have HOW3 := Lib.hid (HOW2.out.next hbw)
                    have HBA3 : Hid (BytesAt wr.drew g (swp (fun j => (bi L).getD j 0) n i) n) := HBA2
                    clear hbw
                    refine wp_region_goT (fun _ => True) 23 (by kernel_rfl) (by kernel_rfl) trivial (fun hHeld => ?_)
                    clear HBA2 HOW2
                    generalize wr.drew = WD at *
                    refine goT_take 0 (v := ?_) rfl (by decide +kernel) (fun _ _ _ h => bodyPostD_put (by decide +kernel) h) (Or.inl ⟨by rfl, ?_⟩) (by assumption) ?_
                    rotate_left
                    · (intro w_ hSw; (try dsimp only at hSw); go_simp; (try with_reducible rfl))
                    try simp only [Act.put, List.setIfInBounds_toArray, List.set_cons_zero, List.set_cons_succ]
                    refine goT_take 1 (v := ?_) rfl (by decide +kernel) (fun _ _ _ h => bodyPostD_put (by decide +kernel) h) (Or.inl ⟨by rfl, ?_⟩) (by assumption) ?_
                    rotate_left
                    · (intro w_ hSw; (try dsimp only at hSw); go_simp; (try with_reducible rfl))
                    try simp only [Act.put, List.setIfInBounds_toArray, List.set_cons_zero, List.set_cons_succ]
                    refine goT_take 2 (v := ?_) rfl (by decide +kernel) (fun _ _ _ h => bodyPostD_put (by decide +kernel) h) (Or.inl ⟨by rfl, ?_⟩) (by assumption) ?_
                    rotate_left
                    · (intro w_ hSw; (try dsimp only at hSw); go_simp; (try with_reducible rfl))
                    try simp only [Act.put, List.setIfInBounds_toArray, List.set_cons_zero, List.set_cons_succ]
                    refine goT_take 3 (v := ?_) rfl (by decide +kernel) (fun _ _ _ h => bodyPostD_put (by decide +kernel) h) (Or.inl ⟨by rfl, ?_⟩) (by assumption) ?_
                    rotate_left
                    · (intro w_ hSw; (try dsimp only at hSw); go_simp; (try with_reducible rfl))
                    try simp only [Act.put, List.setIfInBounds_toArray, List.set_cons_zero, List.set_cons_succ]
                    refine goT_take 4 (v := ?_) rfl (by decide +kernel) (fun _ _ _ h => bodyPostD_put (by decide +kernel) h) (Or.inl ⟨by rfl, ?_⟩) (by assumption) ?_
                    rotate_left
                    · (intro w_ hSw; (try dsimp only at hSw); go_simp; (try with_reducible rfl))
                    try simp only [Act.put, List.setIfInBounds_toArray, List.set_cons_zero, List.set_cons_succ]
                    refine goT_take 5 (v := ?_) rfl (by decide +kernel) (fun _ _ _ h => bodyPostD_put (by decide +kernel) h) (Or.inl ⟨by rfl, ?_⟩) (by assumption) ?_
                    rotate_left
                    · (intro w_ hSw; (try dsimp only at hSw); go_simp; (try with_reducible rfl))
                    try simp only [Act.put, List.setIfInBounds_toArray, List.set_cons_zero, List.set_cons_succ]
                    refine goT_take 6 (v := ?_) rfl (by decide +kernel) (fun _ _ _ h => bodyPostD_put (by decide +kernel) h) (Or.inl ⟨by rfl, ?_⟩) (by assumption) ?_
                    rotate_left
                    · (intro w_ hSw; (try dsimp only at hSw); go_simp; (try with_reducible rfl))
                    try simp only [Act.put, List.setIfInBounds_toArray, List.set_cons_zero, List.set_cons_succ]
                    refine goT_take 7 (v := ?_) rfl (by decide +kernel) (fun _ _ _ h => bodyPostD_put (by decide +kernel) h) (Or.inl ⟨by rfl, ?_⟩) (by assumption) ?_
                    rotate_left
                    · (intro w_ hSw; (try dsimp only at hSw); go_simp; (try with_reducible rfl))
                    try simp only [Act.put, List.setIfInBounds_toArray, List.set_cons_zero, List.set_cons_succ]
                    refine goT_take 8 (v := ?_) rfl (by decide +kernel) (fun _ _ _ h => bodyPostD_put (by decide +kernel) h) (Or.inl ⟨by rfl, ?_⟩) (by assumption) ?_
                    rotate_left
                    · (intro w_ hSw; (try dsimp only at hSw); go_simp; (try with_reducible rfl))
                    try simp only [Act.put, List.setIfInBounds_toArray, List.set_cons_zero, List.set_cons_succ]
                    refine goT_take 9 (v := ?_) rfl (by decide +kernel) (fun _ _ _ h => bodyPostD_put (by decide +kernel) h) (Or.inl ⟨by rfl, ?_⟩) (by assumption) ?_
                    rotate_left
                    · (intro w_ hSw; (try dsimp only at hSw); go_simp; (try with_reducible rfl))
                    try simp only [Act.put, List.setIfInBounds_toArray, List.set_cons_zero, List.set_cons_succ]
                    refine goT_take 10 (v := ?_) rfl (by decide +kernel) (fun _ _ _ h => bodyPostD_put (by decide +kernel) h) (Or.inl ⟨by rfl, ?_⟩) (by assumption) ?_
                    rotate_left
                    · (intro w_ hSw; (try dsimp only at hSw); go_simp; (try with_reducible rfl))
                    try simp only [Act.put, List.setIfInBounds_toArray, List.set_cons_zero, List.set_cons_succ]
                    refine goT_take 11 (v := ?_) rfl (by decide +kernel) (fun _ _ _ h => bodyPostD_put (by decide +kernel) h) (Or.inl ⟨by rfl, ?_⟩) (by assumption) ?_
                    rotate_left
                    · (intro w_ hSw; (try dsimp only at hSw); go_simp; (try with_reducible rfl))
                    try simp only [Act.put, List.setIfInBounds_toArray, List.set_cons_zero, List.set_cons_succ]
                    refine goT_take 12 (v := ?_) rfl (by decide +kernel) (fun _ _ _ h => bodyPostD_put (by decide +kernel) h) (Or.inl ⟨by rfl, ?_⟩) (by assumption) ?_
                    rotate_left
                    · (intro w_ hSw; (try dsimp only at hSw); go_simp; (try with_reducible rfl))
                    try simp only [Act.put, List.setIfInBounds_toArray, List.set_cons_zero, List.set_cons_succ]
                    refine goT_take 13 (v := ?_) rfl (by decide +kernel) (fun _ _ _ h => bodyPostD_put (by decide +kernel) h) (Or.inl ⟨by rfl, ?_⟩) (by assumption) ?_
                    rotate_left
                    · (intro w_ hSw; (try dsimp only at hSw); go_simp; (try with_reducible rfl))
                    try simp only [Act.put, List.setIfInBounds_toArray, List.set_cons_zero, List.set_cons_succ]
                    refine goT_take 14 (v := ?_) rfl (by decide +kernel) (fun _ _ _ h => bodyPostD_put (by decide +kernel) h) (Or.inl ⟨by rfl, ?_⟩) (by assumption) ?_
                    rotate_left
                    · (intro w_ hSw; (try dsimp only at hSw); go_simp; (try with_reducible rfl))
                    try simp only [Act.put, List.setIfInBounds_toArray, List.set_cons_zero, List.set_cons_succ]
                    refine goT_take 16 (v := ?_) rfl (by decide +kernel) (fun _ _ _ h => bodyPostD_put (by decide +kernel) h) (Or.inl ⟨by rfl, ?_⟩) (by assumption) ?_
                    rotate_left
                    · (intro w_ hSw; (try dsimp only at hSw); go_simp; (try with_reducible rfl))
                    try simp only [Act.put, List.setIfInBounds_toArray, List.set_cons_zero, List.set_cons_succ]
                    refine goT_take 17 (v := ?_) rfl (by decide +kernel) (fun _ _ _ h => bodyPostD_put (by decide +kernel) h) (Or.inl ⟨by rfl, ?_⟩) (by assumption) ?_
                    rotate_left
                    · (intro w_ hSw; (try dsimp only at hSw); go_simp; (try with_reducible rfl))
                    try simp only [Act.put, List.setIfInBounds_toArray, List.set_cons_zero, List.set_cons_succ]
                    refine goT_take 18 (v := ?_) rfl (by decide +kernel) (fun _ _ _ h => bodyPostD_put (by decide +kernel) h) (Or.inl ⟨by rfl, ?_⟩) (by assumption) ?_
                    rotate_left
                    · (intro w_ hSw; (try dsimp only at hSw); go_simp; (try with_reducible rfl))
                    try simp only [Act.put, List.setIfInBounds_toArray, List.set_cons_zero, List.set_cons_succ]
                    simp only [Act.put, List.setIfInBounds_toArray, List.set_cons_zero, List.set_cons_succ, List.getElem_toArray, List.getElem_cons_zero, List.getElem_cons_succ]
                    refine goT_two 15 19 rfl rfl (by decide +kernel) (fun K_ hK => ?_) (fun K_ hK => ?_)
                    · go_simp
                      refine hK.out _ _ trivial (fun hHeld => ?_)
                      clear hK
                      try simp only [Act.put, List.setIfInBounds_toArray, List.set_cons_zero, List.set_cons_succ, List.getElem_toArray, List.getElem_cons_zero, List.getElem_cons_succ]
                      refine goT_step 19 rfl (by decide +kernel) (fun K_ hK => ?_)
                      go_simp
                      refine hK.out _ _ trivial (fun hHeld => ?_)
                      clear hK
                      try simp only [Act.put, List.setIfInBounds_toArray, List.set_cons_zero, List.set_cons_succ, List.getElem_toArray, List.getElem_cons_zero, List.getElem_cons_succ]
                      refine goT_take 20 (v := ?_) rfl (by decide +kernel) (fun _ _ _ h => bodyPostD_put (by decide +kernel) h) (Or.inl ⟨by rfl, ?_⟩) (by assumption) ?_
                      rotate_left
                      · (intro w_ hSw; (try dsimp only at hSw); go_simp; (try with_reducible rfl))
                      try simp only [Act.put, List.setIfInBounds_toArray, List.set_cons_zero, List.set_cons_succ]
                      try simp only [Act.put, List.setIfInBounds_toArray, List.set_cons_zero, List.set_cons_succ, List.getElem_toArray, List.getElem_cons_zero, List.getElem_cons_succ]
                      refine goT_step 21 rfl (by decide +kernel) (fun K_ hK => ?_)
                      go_simp
                      refine hK.out _ _ trivial (fun hHeld => ?_)
                      clear hK
                      try simp only [Act.put, List.setIfInBounds_toArray, List.set_cons_zero, List.set_cons_succ, List.getElem_toArray, List.getElem_cons_zero, List.getElem_cons_succ]
                      refine goT_step 22 rfl (by decide +kernel) (fun K_ hK => ?_)
                      go_simp
                      refine hK.out _ _ trivial (fun hHeld => ?_)
                      clear hK
                      try simp only [Act.put, List.setIfInBounds_toArray, List.set_cons_zero, List.set_cons_succ, List.getElem_toArray, List.getElem_cons_zero, List.getElem_cons_succ]
                      refine goT_done (by decide +kernel) ?_
                      have hS1 := HBA3.out.set i hin yk
                      have HS2 := Lib.hid (hS1.set k hkn yi)
                      obtain ⟨k0, k1_⟩ := hS1.2 k hkn
                      dsimp only at k0
                      rw [if_neg (by omega)] at k0
                      have HOW4 := Lib.hid ((HOW3.out.nextB (B := w.heap.size + 1) (Nat.lt_succ_self _) ((Below.refl _ _).setCell (p := ⟨g, i, none⟩) hgb (.int .u8 yk))).nextB (B := w.heap.size + 1) (Nat.lt_succ_self _) ((Below.refl _ _).setCell (p := ⟨g, k, none⟩) hgb (.int .u8 yi)))
                      clear hS1 d0 d1 f2 f3
                      go_wp2_with fail
                      refine ⟨⟨i + 1, by simp, Lib.hid (by omega), Lib.hid (HS2.out.congr (fun j hj => ?_)), HOW4⟩, ?_⟩
                      · show (if j = k then yi else if j = i then yk else swp (fun j => (bi L).getD j 0) n i j) = _
                        rw [swp_step _ (show i < n / 2 by omega) hj, hk, HYI.out, HYK.out]
                      · simp only [intOf]; omega
                    · go_simp
                      refine hK.out _ _ trivial (fun hHeld => ?_)
                      clear hK
                      try simp only [Act.put, List.setIfInBounds_toArray, List.set_cons_zero, List.set_cons_succ, List.getElem_toArray, List.getElem_cons_zero, List.getElem_cons_succ]
                      refine goT_step 15 rfl (by decide +kernel) (fun K_ hK => ?_)
                      go_simp
                      refine hK.out _ _ trivial (fun hHeld => ?_)
                      clear hK
                      try simp only [Act.put, List.setIfInBounds_toArray, List.set_cons_zero, List.set_cons_succ, List.getElem_toArray, List.getElem_cons_zero, List.getElem_cons_succ]
                      refine goT_take 20 (v := ?_) rfl (by decide +kernel) (fun _ _ _ h => bodyPostD_put (by decide +kernel) h) (Or.inl ⟨by rfl, ?_⟩) (by assumption) ?_
                      rotate_left
                      · (intro w_ hSw; (try dsimp only at hSw); go_simp; (try with_reducible rfl))
                      try simp only [Act.put, List.setIfInBounds_toArray, List.set_cons_zero, List.set_cons_succ]
                      try simp only [Act.put, List.setIfInBounds_toArray, List.set_cons_zero, List.set_cons_succ, List.getElem_toArray, List.getElem_cons_zero, List.getElem_cons_succ]
                      refine goT_step 21 rfl (by decide +kernel) (fun K_ hK => ?_)
                      go_simp
                      refine hK.out _ _ trivial (fun hHeld => ?_)
                      clear hK
                      try simp only [Act.put, List.setIfInBounds_toArray, List.set_cons_zero, List.set_cons_succ, List.getElem_toArray, List.getElem_cons_zero, List.getElem_cons_succ]
                      refine goT_step 22 rfl (by decide +kernel) (fun K_ hK => ?_)
                      go_simp
                      refine hK.out _ _ trivial (fun hHeld => ?_)
                      clear hK
                      try simp only [Act.put, List.setIfInBounds_toArray, List.set_cons_zero, List.set_cons_succ, List.getElem_toArray, List.getElem_cons_zero, List.getElem_cons_succ]
                      refine goT_done (by decide +kernel) ?_
                      have hS1 := HBA3.out.set i hin yk
                      have HS2 := Lib.hid (hS1.set k hkn yi)
                      obtain ⟨k0, k1_⟩ := hS1.2 k hkn
                      dsimp only at k0
                      rw [if_neg (by omega)] at k0
                      have HOW4 := Lib.hid ((HOW3.out.nextB (B := w.heap.size + 1) (Nat.lt_succ_self _) ((Below.refl _ _).setCell (p := ⟨g, i, none⟩) hgb (.int .u8 yk))).nextB (B := w.heap.size + 1) (Nat.lt_succ_self _) ((Below.refl _ _).setCell (p := ⟨g, k, none⟩) hgb (.int .u8 yi)))
                      clear hS1 d0 d1 f2 f3
                      go_wp2_with fail
                      refine ⟨⟨i + 1, by simp, Lib.hid (by omega), Lib.hid (HS2.out.congr (fun j hj => ?_)), HOW4⟩, ?_⟩
                      · show (if j = k then yi else if j = i then yk else swp (fun j => (bi L).getD j 0) n i j) = _
                        rw [swp_step _ (show i < n / 2 by omega) hj, hk, HYI.out, HYK.out]
                      · simp only [intOf]; omega
                  · have hie : i = n / 2 := by have := HI.out; omega
                    have hcv : (convert 104 9 (.slice (some ⟨g, 0, none⟩) n cap)).run Tryz.prog wr = .ok (.string ⟨L.reverse.toArray⟩) wr := by
                      have h := run_convert_bytes_arg (P := Tryz.prog) wr 104 5 (by kernel_rfl) (by kernel_rfl) g 0 n cap (bi L.reverse) (by rw [bi_len, List.length_reverse, ← bi_len, HNE.out]) (fun j hj => ?_) 9 (by kernel_rfl)
                      · rw [h, bi, str_bytes]
                      · rw [Nat.zero_add, (HBA2.out.2 j hj).1, swp_end _ hie hj, bi_rev]; simp only [List.getD_eq_getElem?_getD]; rw [List.getElem?_reverse (by rw [HNE.out]; exact hj), HNE.out]
                    have q0 := HOW2.out.cell
                    have f0 := HOW2.out.frz
                    have HCV := Lib.hid hcv
                    clear HBA2 hie hcv
                    have hcv := HCV.out
                    go_wp2_with fail
                    obtain ⟨h1, h2⟩ := HRS.out
                    rw [h1]
                    subst h2
                    exact door_leave isDoor_Base _ (.int .i64 0) (.tuple #[.string _, .int .i64 0]) _ (World.cell?_setCell_same _ _ _ q0) (by simp [f0]) (fun W' h => by simp [results, Tryz.results61, go_sem, h])
                      (fun W' h => ⟨rfl, (HOW2.out.below.setCell (Nat.le_refl _) _).trans h⟩)
            · have hsl : (sl == 0) = false := by rw [beq_eq_false_iff_ne]; exact fun h => ht (by have := hse.mp h; omega)
              obtain ⟨r, hr⟩ : ∃ r : Int, ((t % b : Nat) : Int) = r := ⟨_, rfl⟩
              have hr0 : 0 ≤ r := by omega
              have hr1 : r < 36 := by have := Nat.mod_lt t (show 0 < b by have := HNB.out; omega); have := HNB.out; omega
              have HRR := Lib.hid hr
              have HTN := Lib.hid ht
              clear hse hr ht
              go_wp2_with (first | (go_at_call 70; with_reducible refine (szero_any sl _).mono ?_; rintro e w5 ⟨rfl, rfl⟩) | (go_at_call 119; with_reducible refine (shorter_b _ hb.num HTN.out (by omega) HNB.out r HRR.out).mono ?_; rintro e w6 ⟨s6, A6, k6, c6, rfl, hN6, hb6⟩; refine Hid.out ?_))
              have hb7 : Below w5.heap.size w5 (w6.alloc (.cells #[.int .i64 s6, .slice A6 k6 c6] 71)) := hb6.alloc hb6.size _
              have HBT7 := Lib.hid (HBT.out.below hb7)
              have HBL7 := Lib.hid (HBL.out.call hb7)
              have HBX7 := Lib.hid (HBX.out.call hb7)
              have HOW7 := Lib.hid (HOW.out.next hb7)
              have HQ7 := Lib.hid (Nb.new hN6 71).bn
              have hlo : bl < w6.heap.size := Nat.lt_of_lt_of_le HBL.out.lt hb6.size
              have HM5 := Lib.hid (numIn_of HBL.out)
              clear HBT HBL HBX HOW hb hN6 hb6 hb7 b0 b1
              refine Lib.hid ?_
              go_wp2_with fail
              obtain ⟨bq, hbq⟩ : ∃ b, w6.heap.size = b := ⟨_, rfl⟩
              rw [hbq] at HQ7 hlo ⊢
              clear hbq
              refine wp_world (fun W => Hid (Bts W (w.heap.size + 1) u7 (bi pre)) ∧ Hid (Bn W bl (t : Int)) ∧ Hid (Bn W bx x) ∧ Hid (Own w (.int .i64 0) W) ∧ Hid (Bn W bq ((t / b : Nat) : Int))) ⟨HBT7, HBL7, HBX7, HOW7, HQ7⟩ ?_
              clear HBT7 HBL7 HBX7 HOW7 HQ7
              rintro W8 ⟨HBT, HBL, HBX, HOW, HBQ⟩
              obtain ⟨sq, Aq, kq, cq, hq⟩ := HBQ.out.call (below_drew (Below.refl _ _) : Below W8.heap.size W8 W8.drew)
              have HBT8 := Lib.hid (HBT.out.below (below_drew (Below.refl _ _) : Below W8.heap.size W8 W8.drew))
              have HBL8 := Lib.hid (HBL.out.call (below_drew (Below.refl _ _) : Below W8.heap.size W8 W8.drew))
              have HBX8 := Lib.hid (HBX.out.call (below_drew (Below.refl _ _) : Below W8.heap.size W8 W8.drew))
              have HOW8 := Lib.hid (HOW.out.next (below_drew (Below.refl _ _) : Below W8.heap.size W8 W8.drew))
              have q0 := hq.c0
              have q1 := hq.c1
              refine wp_region_goT (fun w' => w'.cell? ⟨bq, 0, none⟩ = some (.int .i64 sq) ∧ w'.cell? ⟨bq, 1, none⟩ = some (.slice Aq kq cq)) 7 (by kernel_rfl) (by kernel_rfl) ⟨q0, q1⟩ (fun hHeld => ?_)
              clear HBT HBL HBX HOW HBQ
              generalize W8.drew = WD at *
              refine goT_take 0 (v := ?_) rfl (by decide +kernel) (fun _ _ _ h => bodyPostD_put (by decide +kernel) h) (Or.inl ⟨by rfl, ?_⟩) (by assumption) ?_
              rotate_left
              · (intro w_ hSw; (try dsimp only at hSw); go_simp; (try with_reducible rfl))
              try simp only [Act.put, List.setIfInBounds_toArray, List.set_cons_zero, List.set_cons_succ]
              refine goT_take 1 (v := ?_) rfl (by decide +kernel) (fun _ _ _ h => bodyPostD_put (by decide +kernel) h) (Or.inl ⟨by rfl, ?_⟩) (by assumption) ?_
              rotate_left
              · (intro w_ hSw; (try dsimp only at hSw); go_simp; (try with_reducible rfl))
              try simp only [Act.put, List.setIfInBounds_toArray, List.set_cons_zero, List.set_cons_succ]
              refine goT_take 2 (v := ?_) rfl (by decide +kernel) (fun _ _ _ h => bodyPostD_put (by decide +kernel) h) (Or.inl ⟨by rfl, ?_⟩) (by assumption) ?_
              rotate_left
              · (intro w_ hSw; (try dsimp only at hSw); go_simp; (try with_reducible rfl))
              try simp only [Act.put, List.setIfInBounds_toArray, List.set_cons_zero, List.set_cons_succ]
              refine goT_take 5 (v := ?_) rfl (by decide +kernel) (fun _ _ _ h => bodyPostD_put (by decide +kernel) h) (Or.inl ⟨by rfl, ?_⟩) (by assumption) ?_
              rotate_left
              · (intro w_ hSw; (try dsimp only at hSw); go_simp; (try with_reducible rfl))
              try simp only [Act.put, List.setIfInBounds_toArray, List.set_cons_zero, List.set_cons_succ]
              refine goT_step 3 rfl (by decide +kernel) (fun K_ hK => ?_)
              go_simp
              rw [digit_is r hr0 hr1]
              obtain ⟨qd, hqd⟩ : ∃ q : Int, ((Mw.bch r.toNat).toNat : Int) = q := ⟨_, rfl⟩
              rw [hqd]
              have HQD : Hid (qd = ((Mw.bch (t % b)).toNat : Int)) := Lib.hid (by rw [← hqd, ← HRR.out, Int.toNat_natCast])
              clear hqd
              have hqa := hq.alloc (.cells #[.int .u8 qd] 5)
              refine hK.out _ _ ⟨hqa.c0, hqa.c1⟩ (fun hHeld => ?_)
              clear hK hqa
              try simp only [Act.put, List.setIfInBounds_toArray, List.set_cons_zero, List.set_cons_succ]
              have hpl : (bi pre).length ≤ 1000000 := by
                have h1 := brev_short HNB.out.1 HNL.out
                rw [← HPR.out, List.length_append] at h1
                rw [bi_len]; omega
              have hwl : w.heap.size + 1 ≤ WD.heap.size := HOW8.out.lt
              refine goT_step 4 rfl (by decide +kernel) (fun K_ hK => ?_)
              refine step_append_byte (w.heap.size + 1) (by rfl) (.tmp 37) (.tmp 40) rfl u7 (bi pre) qd rfl rfl HBT8.out hwl hpl ?_
              intro v1 w1 hB1 hg1
              have hku := HBT8.out.ku hg1
              have hq9 := hq.ku hku
              have HBL9 := Lib.hid (HBL8.out.ku hku)
              have HBX9 := Lib.hid (HBX8.out.ku hku)
              have HOW9 := Lib.hid (HOW8.out.nextB (Nat.lt_succ_self _) ((Below.refl _ _).grown hg1 hwl (fun k e => (HBT8.out.own.lt k e).1)))
              have HB9 := Lib.hid hB1
              clear hku hg1 hB1 HBT8 HBL8 HBX8 HOW8 hpl hwl q0 q1 hq
              refine hK.out _ _ ⟨hq9.c0, hq9.c1⟩ (fun hHeld => ?_)
              clear hK
              try simp only [Act.put, List.setIfInBounds_toArray, List.set_cons_zero, List.set_cons_succ]
              refine goT_step 6 rfl (by decide +kernel) (fun K_ hK => ?_)
              go_simp
              refine hK.out _ _ ⟨hq9.c0, hq9.c1⟩ (fun hHeld => ?_)
              clear hK
              try simp only [Act.put, List.setIfInBounds_toArray, List.set_cons_zero, List.set_cons_succ]
              refine goT_done (by decide +kernel) ?_
              obtain ⟨sb, Ab, kb, cb, hb⟩ := HBL9.out
              have z0 := hb.c0
              have z1 := hb.c1
              have z2 := hb.f0
              have z3 := hb.f1
              have hN9 := Nb.putSame hq9.num hb
              have n0 := hN9.c0
              have n1 := hN9.c1
              have HBT10 := Lib.hid (HB9.out.putN hb.bx sq Aq kq cq)
              have HBX10 := Lib.hid (HBX9.out.putB hb.bx (by have := HLT.out; omega) sq Aq kq cq)
              have HOW10 := Lib.hid (HOW9.out.putN (b := bl) (by have := HLT.out; omega) sq Aq kq cq)
              have hbl2 : bl < w1.heap.size := hb.lt
              clear HB9 HBX9 HOW9 HBL9 hb hq9 hHeld
              have hnew := (Nb.new hN9.num 71).bn
              rw [show (putN w1 bl sq Aq kq cq).heap.size = w1.heap.size by simp] at hnew
              have HNEW := Lib.hid hnew
              clear hnew
              go_wp2_with fail
              go_roundw
              case rel =>
                refine ⟨pre ++ [Mw.bch (t % b)], t / b, w1.heap.size, rfl, Lib.hid ?_, Lib.hid ?_, Lib.hid ?_, HNEW, Lib.hid (HBX10.out.call (below_alloc1 _ _)), Lib.hid (HOW10.out.next (below_alloc1 _ _)), Lib.hid ⟨HLT.out.1, by have := HLT.out; omega⟩⟩
                · have h := HBT10.out.below (below_alloc (Below.refl _ _) (.cells #[.int .i64 sq, .slice Aq kq cq] 71))
                  rw [HQD.out, ← bi_snoc] at h
                  exact h
                · have h := HPR.out
                  rw [Mw.brev_pos HNB.out.1 HTN.out] at h
                  rw [List.append_assoc]; exact h
                · exact HTL.out.mono (by simp only [Int.natAbs_natCast]; exact Nat.div_le_self _ _)
              case measure =>
                have h5 := HM5.out
                show numIn _ w1.heap.size < numIn w5 bl
                rw [h5, numIn_of HNEW.out]
                exact Nat.div_lt_self (by have := HTN.out; omega) (by have := HNB.out; omega)
  · rw [Mw.wbase, if_neg hok] at hr
    cases hr
    go_enter_defers Tryz.func61, Tryz.ntmps61
    go_wp2_with (first | (go_at_call 69; with_reducible refine (taken_bad s _ hok).mono ?_; rintro e w1 ⟨rfl, hb1⟩; obtain ⟨q0, f0, z0, hB⟩ := own_cell hb1))
    exact door_caught isDoor_Base _ (.int .i64 0) (.tuple #[.string ⟨#[]⟩, .int .i64 (Mw.terr s.data.toList)]) _ _ (HG.out.below hB) z0 q0 f0 (fun W' h => by simp [results, Tryz.results61, go_sem, h])
      (fun W' h => ⟨rfl, hB.trans h⟩)
end Go.Proofs.YtjieekkkaekclaaGreatDoor
