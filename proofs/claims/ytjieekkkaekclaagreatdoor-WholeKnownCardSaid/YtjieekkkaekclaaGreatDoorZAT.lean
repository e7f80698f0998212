/- Lemmas for the claim beside this text. -/
import Derived.Test.YtjieekkkaekclaaGreatDoorZAC
import Derived.Test.YtjieekkkaekclaaGreatDoorZAP
import Derived.Test.YtjieekkkaekclaaGreatDoorZAS
set_option linter.all false
set_option linter.unusedVariables false
set_option linter.unusedSimpArgs false
namespace Go.Proofs.YtjieekkkaekclaaGreatDoor
open Go Go.RowKit Go.Proofs.YtjieekkkaekclaaGreatDoorW.PrintWords
def Mw.part (q r : Int → Int → Int) (x y : Int) : List UInt8 × List UInt8 × Int :=
  if y = 0 then ([], [], 12) else if Mw.gerr (q x y) = 0 then (if Mw.gerr (r x y) = 0 then (Mw.itxt (q x y), Mw.itxt (r x y), 0) else ([], [], Mw.gerr (r x y))) else ([], [], Mw.gerr (q x y))
def Mw.parted (q r : Int → Int → Int) (a b : List UInt8) : List UInt8 × List UInt8 × Int := if Mw.terr2 a b = 0 then Mw.part q r (Mw.ival a) (Mw.ival b) else ([], [], Mw.terr2 a b)
def DoesTwo (K : FuncId) (q r : Int → Int → Int) : Prop := ∀ (W : World) {s : Int} {A : Option Addr} {k c : Nat} {n : Int} {s' : Int} {A' : Option Addr} {k' c' : Nat} {m : Int}, NumAt W s A k c n → NumAt W s' A' k' c' m → m ≠ 0 → k ≤ 45 → k' ≤ 45 →
  Calls Tryz.prog K #[.agg #[.int .i64 s, .slice A k c], .agg #[.int .i64 s', .slice A' k' c']] W fun e w' => ∃ s2 A2 k2 c2 s3 A3 k3 c3, e = .returned (.tuple #[.agg #[.int .i64 s2, .slice A2 k2 c2], .agg #[.int .i64 s3, .slice A3 k3 c3]]) ∧ NumAt w' s2 A2 k2 c2 (q n m) ∧ NumAt w' s3 A3 k3 c3 (r n m) ∧ Below W.heap.size W w' ∧ k2 ≤ 100000 ∧ k3 ≤ 100000
theorem sgn_zero {n s : Int} (h : s = sgn n) : s = 0 ↔ n = 0 := by
  rcases sgn_cases n with ⟨e1, h1⟩ | ⟨e1, h1⟩ | ⟨e1, h1⟩ <;> omega
set_option maxRecDepth 100000 in
set_option maxHeartbeats 3200000 in
theorem parted_any (K : FuncId) (q r : Int → Int → Int) (hdo : DoesTwo K q r) (hent : ∀ (args : Array Value) (w : World), (callFunc K args).run Tryz.prog w = .ok (.enter K args) w) (s t : ByteArray) (w : World) (hs : s.size ≤ 100000) (ht : t.size ≤ 100000) (hg : Ety w) (htab : Tab w) :
    Calls Tryz.prog 104 #[.func (.func K) #[] #[], .string s, .string t] w fun e w' => e = .returned (.tuple #[.string ⟨(Mw.parted q r s.data.toList t.data.toList).1.toArray⟩, .string ⟨(Mw.parted q r s.data.toList t.data.toList).2.1.toArray⟩, .int .i64 (Mw.parted q r s.data.toList t.data.toList).2.2]) ∧ Below w.heap.size w w' := by
  have hmf : ∀ (fn : Fn) (first cap : Array Value) (w : World), (Instr.makeFunc fn first cap).run Tryz.prog w = .ok (.func fn first cap) w := fun _ _ _ _ => rfl
  have HG := Lib.hid hg
  have HT := Lib.hid (Lib.tabBelow_of_tabIs htab)
  have HDO := Lib.hid hdo
  clear hg hdo htab
  obtain ⟨⟨rq, rr, er⟩, hr⟩ : ∃ x, Mw.parted q r s.data.toList t.data.toList = x := ⟨_, rfl⟩
  rw [hr]
  dsimp only
  by_cases hok : Mw.terr s.data.toList = 0
  · by_cases hok2 : Mw.terr t.data.toList = 0
    · rw [Mw.parted, Mw.terr2, if_pos hok, if_pos hok2] at hr
      have HR := Lib.hid hr
      clear hr
      go_enter_defers Tryz.func104, Tryz.ntmps104
      go_wp2_with (first | (go_at_call 69; with_reducible refine (taken_ok s _ hs hok).mono ?_; rintro e w1 ⟨s1, A1, k1, c1, rfl, hN1, hb1⟩) | (go_at_call 69; with_reducible refine (taken_ok t _ ht hok2).mono ?_; rintro e w3 ⟨s3, A3, k3, c3, rfl, hN3, hb3⟩) | (go_at_call 70; with_reducible refine (szero_any s3 _).mono ?_; rintro e w5 ⟨rfl, hw5⟩; refine Hid.out ?_))
      clear hw5
      have FA := bxs_fr 71 [⟨s1, A1, k1, c1⟩] w1
      have FB := bxs_fr 71 [⟨s3, A3, k3, c3⟩] w3
      simp only [bxs] at FA FB
      have hz1 : w1.heap.size + 1 ≤ w3.heap.size := by have := hb3.size; simp at this; omega
      have FA := Lib.hid ((FA.call (by simp) hb3).alloc (by omega) (.cells #[.int .i64 s3, .slice A3 k3 c3] 71))
      have FB := Lib.hid FB
      have hk1 := hN1.k45 hok
      have hk3 := hN3.k45 hok2
      have HN1 := Lib.hid (((hN1.below (below_alloc (Below.refl _ _) _)).below hb3).below (below_alloc (Below.refl _ _) (.cells #[.int .i64 s3, .slice A3 k3 c3] 71)))
      have HN3 := Lib.hid (hN3.below (below_alloc (Below.refl _ _) (.cells #[.int .i64 s3, .slice A3 k3 c3] 71)))
      have HO := Lib.hid ((((Own.of hb1).next (below_alloc (Below.refl _ _) _)).next hb3).next (below_alloc (Below.refl _ _) (.cells #[.int .i64 s3, .slice A3 k3 c3] 71)))
      clear hN1 hN3 hb1 hb3
      have hz3 : w3.heap.size + 1 ≤ (w3.alloc (.cells #[.int .i64 s3, .slice A3 k3 c3] 71)).heap.size := by simp
      generalize w3.alloc (.cells #[.int .i64 s3, .slice A3 k3 c3] 71) = W4 at *
      have hse := sgn_zero HN3.out.sign
      have hr := HR.out
      rw [Mw.part] at hr
      by_cases hz : Mw.ival t.data.toList = 0
      · rw [if_pos hz] at hr
        cases hr
        have hs3 := hse.mpr hz
        subst hs3
        clear hse hz
        refine Lib.hid ?_
        go_wp2_with (first | (go_at_call 86; with_reducible refine (fail_yes _ _).mono ?_; rintro e w6 ⟨rfl, rfl⟩))
        have HO3 := HO.out
        exact door_caught isDoor_parted _ (.int .i64 0) (.tuple #[.string ⟨#[]⟩, .string ⟨#[]⟩, .int .i64 12]) _ _ (HG.out.below HO3.below) HO3.lt HO3.cell HO3.frz (fun W' h => by simp [results, Tryz.results104, go_sem, h])
          (fun W' h => ⟨rfl, HO3.below.trans h⟩)
      · rw [if_neg hz] at hr
        have HRR := Lib.hid hr
        have hs3 : (s3 == 0) = false := by rw [beq_eq_false_iff_ne]; exact fun h => hz (hse.mp h)
        have HZ := Lib.hid hz
        clear hse hz hr HR
        obtain ⟨x0, x1, -, -⟩ := FA.out.c1
        obtain ⟨y0, y1, -, -⟩ := FB.out.c1
        have hC := HDO.out _ HN1.out HN3.out HZ.out hk1 hk3
        refine Lib.hid ?_
        go_wp2_with (first | (go_at_call 86; with_reducible refine (fail_no _ _).mono ?_; rintro e w6 ⟨rfl, rfl⟩) | (with_reducible refine hC.mono ?_; rintro e w6 ⟨s4, A4, k4, c4, s5, A5, k5, c5, rfl, hN4, hN5, hb6, hk4, hk5⟩))
        refine wp_world (fun W => Hid (Fr W w6.heap.size [⟨s4, A4, k4, c4⟩, ⟨s5, A5, k5, c5⟩]) ∧ Hid (Below w6.heap.size w6 W)) ⟨Lib.hid (bxs_fr _ [⟨s4, A4, k4, c4⟩, ⟨s5, A5, k5, c5⟩] w6), Lib.hid (bxs_below _ [⟨s4, A4, k4, c4⟩, ⟨s5, A5, k5, c5⟩] w6 (Nat.le_refl _) (Below.refl _ _))⟩ ?_
        rintro W7 ⟨FM, HB7⟩
        have HN4 := Lib.hid (hN4.below HB7.out)
        have HN5 := Lib.hid (hN5.below HB7.out)
        have HO7 := Lib.hid (((HO.out.next hb6).next HB7.out).next (below_drew (Below.refl _ _) : Below W7.heap.size W7 W7.drew))
        have hz7 := HB7.out.size
        clear hN4 hN5 hb6 x0 x1 y0 y1
        obtain ⟨⟨x0, x1, -, -⟩, ⟨y0, y1, -, -⟩⟩ := (FM.out.drew hz7).c2
        have hT7 := HT.out _ HO7.out.below
        refine wp_region_goT (fun w' => w'.cell? ⟨w6.heap.size, 0, none⟩ = some (.int .i64 s4) ∧ w'.cell? ⟨w6.heap.size, 1, none⟩ = some (.slice A4 k4 c4) ∧ w'.cell? ⟨w6.heap.size + 1, 0, none⟩ = some (.int .i64 s5) ∧ w'.cell? ⟨w6.heap.size + 1, 1, none⟩ = some (.slice A5 k5 c5)) 4 (by kernel_rfl) (by kernel_rfl) ⟨x0, x1, y0, y1⟩ (fun hHeld => ?_)
        refine goT_take 0 (v := ?_) rfl (by decide +kernel) (fun _ _ _ h => bodyPostD_put (by decide +kernel) h) (Or.inl ⟨by rfl, ?_⟩) (by assumption) ?_
        rotate_left
        · (intro w_ hSw; (try dsimp only at hSw); go_simp; (try with_reducible rfl))
        try simp only [Act.put, List.setIfInBounds_toArray, List.set_cons_zero, List.set_cons_succ]
        refine goT_take 2 (v := ?_) rfl (by decide +kernel) (fun _ _ _ h => bodyPostD_put (by decide +kernel) h) (Or.inl ⟨by rfl, ?_⟩) (by assumption) ?_
        rotate_left
        · (intro w_ hSw; (try dsimp only at hSw); go_simp; (try with_reducible rfl))
        try simp only [Act.put, List.setIfInBounds_toArray, List.set_cons_zero, List.set_cons_succ]
        refine goT_step 1 rfl (by decide +kernel) (fun K_ hK => ?_)
        go_simp
        have hr := HRR.out
        by_cases hg1 : Mw.gerr (q (Mw.ival s.data.toList) (Mw.ival t.data.toList)) = 0
        · rw [if_pos hg1] at hr
          refine (given_ok _ (HN4.out.below (below_drew (Below.refl _ _))) hk4 hT7 hg1).mono ?_
          rintro e w8 ⟨rfl, hb8⟩
          have HO8 := Lib.hid (HO7.out.next hb8)
          have HB8 : Hid (Below W7.heap.size W7 w8) := Lib.hid (below_of_drew hb8)
          have hT8 := HT.out _ HO8.out.below
          have HRR := Lib.hid hr
          clear hb8 hr hT7 x0 x1 y0 y1
          obtain ⟨⟨x0, x1, -, -⟩, ⟨y0, y1, -, -⟩⟩ := (FM.out.call (by omega) HB8.out).c2
          go_wp2_with fail
          refine hK.out _ _ ⟨x0, x1, y0, y1⟩ (fun hHeld => ?_)
          clear hK
          try simp only [Act.put, List.setIfInBounds_toArray, List.set_cons_zero, List.set_cons_succ]
          refine goT_step 3 rfl (by decide +kernel) (fun K_ hK => ?_)
          go_simp
          have hr := HRR.out
          by_cases hg2 : Mw.gerr (r (Mw.ival s.data.toList) (Mw.ival t.data.toList)) = 0
          · rw [if_pos hg2] at hr
            refine (given_ok _ (HN5.out.below HB8.out) hk5 hT8 hg2).mono ?_
            rintro e w9 ⟨rfl, hb9⟩
            have HO9 := Lib.hid (HO8.out.next hb9)
            have HB9 := Lib.hid (HB8.out.trans (hb9.mono HB8.out.size))
            have HR3 := Lib.hid hr
            clear hb9 hr hT8 x0 x1 y0 y1
            obtain ⟨⟨x0, x1, -, -⟩, ⟨y0, y1, -, -⟩⟩ := (FM.out.call (by omega) HB9.out).c2
            go_wp2_with fail
            refine hK.out _ _ ⟨x0, x1, y0, y1⟩ (fun hHeld => ?_)
            clear hK
            try simp only [Act.put, List.setIfInBounds_toArray, List.set_cons_zero, List.set_cons_succ]
            refine goT_done (by decide +kernel) ?_
            have q0 := HO9.out.cell
            have f0 := HO9.out.frz
            go_wp2
            have hr := HR3.out
            cases hr
            exact door_leave isDoor_parted _ (.int .i64 0) (.tuple #[.string _, .string _, .int .i64 0]) _ (World.cell?_setCell_same _ _ _ q0) (by simp [f0]) (fun W' h => by simp [results, Tryz.results104, go_sem, h])
              (fun W' h => ⟨rfl, (HO9.out.below.setCell (Nat.le_refl _) _).trans h⟩)
          · rw [if_neg hg2] at hr
            refine (given_bad _ (HN5.out.below HB8.out) hk5 hT8 hg2).mono ?_
            rintro e w9 ⟨rfl, hb9⟩
            have HO9 := HO8.out.next hb9
            cases hr
            exact door_caught isDoor_parted _ (.int .i64 0) (.tuple #[.string ⟨#[]⟩, .string ⟨#[]⟩, .int .i64 _]) _ _ (HG.out.below HO9.below) HO9.lt HO9.cell HO9.frz (fun W' h => by simp [results, Tryz.results104, go_sem, h])
              (fun W' h => ⟨rfl, HO9.below.trans h⟩)
        · rw [if_neg hg1] at hr
          refine (given_bad _ (HN4.out.below (below_drew (Below.refl _ _))) hk4 hT7 hg1).mono ?_
          rintro e w8 ⟨rfl, hb8⟩
          have HO8 := HO7.out.next hb8
          cases hr
          exact door_caught isDoor_parted _ (.int .i64 0) (.tuple #[.string ⟨#[]⟩, .string ⟨#[]⟩, .int .i64 _]) _ _ (HG.out.below HO8.below) HO8.lt HO8.cell HO8.frz (fun W' h => by simp [results, Tryz.results104, go_sem, h])
            (fun W' h => ⟨rfl, HO8.below.trans h⟩)
    · rw [Mw.parted, Mw.terr2, if_pos hok, if_neg hok2] at hr
      cases hr
      go_enter_defers Tryz.func104, Tryz.ntmps104
      go_wp2_with (first | (go_at_call 69; with_reducible refine (taken_ok s _ hs hok).mono ?_; rintro e w1 ⟨s1, A1, k1, c1, rfl, hN1, hb1⟩) | (go_at_call 69; with_reducible refine (taken_bad t _ hok2).mono ?_; rintro e w3 ⟨rfl, hb3⟩))
      have HO3 := ((Own.of hb1).next (below_alloc (Below.refl _ _) _)).next hb3
      exact door_caught isDoor_parted _ (.int .i64 0) (.tuple #[.string ⟨#[]⟩, .string ⟨#[]⟩, .int .i64 (Mw.terr t.data.toList)]) _ _ (HG.out.below HO3.below) HO3.lt HO3.cell HO3.frz (fun W' h => by simp [results, Tryz.results104, go_sem, h])
        (fun W' h => ⟨rfl, HO3.below.trans h⟩)
  · rw [Mw.parted, Mw.terr2, if_neg hok, if_neg hok] at hr
    cases hr
    go_enter_defers Tryz.func104, Tryz.ntmps104
    go_wp2_with (first | (go_at_call 69; with_reducible refine (taken_bad s _ hok).mono ?_; rintro e w1 ⟨rfl, hb1⟩; obtain ⟨q0, f0, z0, hB⟩ := own_cell hb1))
    exact door_caught isDoor_parted _ (.int .i64 0) (.tuple #[.string ⟨#[]⟩, .string ⟨#[]⟩, .int .i64 (Mw.terr s.data.toList)]) _ _ (HG.out.below hB) z0 q0 f0 (fun W' h => by simp [results, Tryz.results104, go_sem, h])
      (fun W' h => ⟨rfl, hB.trans h⟩)
end Go.Proofs.YtjieekkkaekclaaGreatDoor
namespace Go.Proofs.YtjieekkkaekclaaGreatDoor
open Go Go.RowKit Go.Proofs.YtjieekkkaekclaaGreatDoorW.PrintWords
theorem fdiv_abs (n m : Int) (hm : m ≠ 0) : (n.fdiv m).natAbs ≤ n.natAbs + 1 ∧ (n.fmod m).natAbs ≤ n.natAbs + m.natAbs := by
  have h1 : (n.tdiv m).natAbs ≤ n.natAbs := by rw [Int.natAbs_tdiv]; exact Nat.div_le_self _ _
  have h2 : (n.tmod m).natAbs ≤ n.natAbs := by rw [Int.natAbs_tmod]; exact Nat.mod_le _ _
  have hv := floor_val (n := n) hm
  by_cases h : n.tmod m = 0 ∨ sgn (n.tmod m) = sgn m
  · rw [(hv.1 h).1, (hv.1 h).2]; omega
  · rw [not_or] at h
    rw [(hv.2 h.1 h.2).1, (hv.2 h.1 h.2).2]; omega
theorem doesTwo_quo : DoesTwo 80 Int.tdiv Int.tmod := fun W {s A k c n s' A' k' c' m} H H' hm hk hk' => by
  refine (quo_any W H H' hm (by omega) (by omega)).mono ?_
  rintro e w' ⟨s2, A2, k2, c2, s3, A3, k3, c3, rfl, hN, hM, hb⟩
  have l2 : k2 ≤ k := hN.len_mono H (by rw [Int.natAbs_tdiv]; exact Nat.div_le_self _ _)
  have l3 : k3 ≤ k := hM.len_mono H (by rw [Int.natAbs_tmod]; exact Nat.mod_le _ _)
  exact ⟨s2, A2, k2, c2, s3, A3, k3, c3, rfl, hN, hM, hb, by omega, by omega⟩
theorem doesTwo_floor : DoesTwo 75 Int.fdiv Int.fmod := fun W {s A k c n s' A' k' c' m} H H' hm hk hk' => by
  refine (floor_any W H H' hm (by omega) (by omega)).mono ?_
  rintro e w' ⟨s2, A2, k2, c2, s3, A3, k3, c3, rfl, hN, hM, hb⟩
  have ha := fdiv_abs n m hm
  have h1 := H.lt hk
  have h2 := H'.lt hk'
  have l2 : k2 ≤ 46 := by
    rw [hN.len, lbs_len_le, Nat.pow_succ]
    have : 0 < 1000000000 ^ 45 := Nat.pow_pos (by omega)
    generalize 1000000000 ^ 45 = X at *
    omega
  have l3 : k3 ≤ 46 := by
    rw [hM.len, lbs_len_le, Nat.pow_succ]
    generalize 1000000000 ^ 45 = X at *
    omega
  exact ⟨s2, A2, k2, c2, s3, A3, k3, c3, rfl, hN, hM, hb, by omega, by omega⟩
set_option maxRecDepth 100000 in
set_option maxHeartbeats 1600000 in
theorem wfloor_any (s t : ByteArray) (w : World) (hs : s.size ≤ 100000) (ht : t.size ≤ 100000) (hg : Ety w) (htab : Tab w) :
    Calls Tryz.prog 38 #[.string s, .string t] w fun e w' => e = .returned (.tuple #[.string ⟨(Mw.parted Int.fdiv Int.fmod s.data.toList t.data.toList).1.toArray⟩, .string ⟨(Mw.parted Int.fdiv Int.fmod s.data.toList t.data.toList).2.1.toArray⟩, .int .i64 (Mw.parted Int.fdiv Int.fmod s.data.toList t.data.toList).2.2]) ∧ Below w.heap.size w w' := by
  have h1 := parted_any 75 Int.fdiv Int.fmod doesTwo_floor (enters Tryz.func75 rfl (by decide)) s t w hs ht hg htab
  generalize Mw.parted Int.fdiv Int.fmod s.data.toList t.data.toList = r at *
  clear hg htab hs ht
  go_enter Tryz.func38, Tryz.ntmps38
  go_wp2_with (first | (go_at_call 104; with_reducible refine h1.mono ?_; rintro e w1 ⟨rfl, hb1⟩))
  exact bodyPost_ret (v := .tuple #[.string ⟨r.1.toArray⟩, .string ⟨r.2.1.toArray⟩, .int .i64 r.2.2]) (by simp [results, Tryz.results38, go_sem]) rfl ⟨rfl, hb1⟩
set_option maxRecDepth 100000 in
set_option maxHeartbeats 1600000 in
theorem wquo_any (s t : ByteArray) (w : World) (hs : s.size ≤ 100000) (ht : t.size ≤ 100000) (hg : Ety w) (htab : Tab w) :
    Calls Tryz.prog 40 #[.string s, .string t] w fun e w' => e = .returned (.tuple #[.string ⟨(Mw.parted Int.tdiv Int.tmod s.data.toList t.data.toList).1.toArray⟩, .string ⟨(Mw.parted Int.tdiv Int.tmod s.data.toList t.data.toList).2.1.toArray⟩, .int .i64 (Mw.parted Int.tdiv Int.tmod s.data.toList t.data.toList).2.2]) ∧ Below w.heap.size w w' := by
  have h1 := parted_any 80 Int.tdiv Int.tmod doesTwo_quo (enters Tryz.func80 rfl (by decide)) s t w hs ht hg htab
  generalize Mw.parted Int.tdiv Int.tmod s.data.toList t.data.toList = r at *
  clear hg htab hs ht
  go_enter Tryz.func40, Tryz.ntmps40
  go_wp2_with (first | (go_at_call 104; with_reducible refine h1.mono ?_; rintro e w1 ⟨rfl, hb1⟩))
  exact bodyPost_ret (v := .tuple #[.string ⟨r.1.toArray⟩, .string ⟨r.2.1.toArray⟩, .int .i64 r.2.2]) (by simp [results, Tryz.results40, go_sem]) rfl ⟨rfl, hb1⟩
end Go.Proofs.YtjieekkkaekclaaGreatDoor
namespace Go.Proofs.YtjieekkkaekclaaGreatDoor
open Go
def Mw.eu (r s u v : Int) : Int × Int := if _h : s = 0 then (r, u) else Mw.eu s (r.fmod s) v (u - r.fdiv s * v)
termination_by s.natAbs
decreasing_by
  rcases Int.lt_or_gt_of_ne _h with h1 | h1
  · have h2 := (Int.fdiv_fmod_unique' (a := r) (b := s) h1 (r := r.fmod s) (q := r.fdiv s)).1 ⟨rfl, rfl⟩
    omega
  · have h2 := (Int.fdiv_fmod_unique (a := r) (b := s) h1 (r := r.fmod s) (q := r.fdiv s)).1 ⟨rfl, rfl⟩
    omega
theorem Mw.eu_zero (r u v : Int) : Mw.eu r 0 u v = (r, u) := by rw [Mw.eu, dif_pos rfl]
theorem Mw.eu_step {r s u v : Int} (h : s ≠ 0) : Mw.eu r s u v = Mw.eu s (r.fmod s) v (u - r.fdiv s * v) := by rw [Mw.eu, dif_neg h]
theorem fmod_facts {r s : Int} (h : s ≠ 0) : s * r.fdiv s + r.fmod s = r ∧ (r.fmod s).natAbs < s.natAbs ∧ 0 ≤ s * r.fmod s := by
  rcases Int.lt_or_gt_of_ne h with h1 | h1
  · have h2 := (Int.fdiv_fmod_unique' (a := r) (b := s) h1 (r := r.fmod s) (q := r.fdiv s)).1 ⟨rfl, rfl⟩
    refine ⟨by omega, by omega, ?_⟩
    exact Int.mul_nonneg_of_nonpos_of_nonpos (by omega) (by omega)
  · have h2 := (Int.fdiv_fmod_unique (a := r) (b := s) h1 (r := r.fmod s) (q := r.fdiv s)).1 ⟨rfl, rfl⟩
    refine ⟨by omega, by omega, ?_⟩
    exact Int.mul_nonneg (by omega) (by omega)
def Mw.euB (M r s u v : Int) : Prop := (u = 1 ∧ v = 0 ∧ s = M ∧ M ≠ 0) ∨ (0 ≤ r * s ∧ r.natAbs * v.natAbs + s.natAbs * u.natAbs ≤ M.natAbs ∧ r ≠ 0 ∧ u.natAbs ≤ M.natAbs ∧ r.natAbs ≤ M.natAbs ∧ s.natAbs ≤ M.natAbs)
theorem euB_nat {M R S T Q U V V' : Nat} (hR : R = Q * S + T) (hV : V' ≤ U + Q * V) (h : R * V + S * U ≤ M) : S * V' + T * V ≤ M := by
  have h1 : S * V' ≤ S * U + S * (Q * V) := by rw [← Nat.mul_add]; exact Nat.mul_le_mul_left _ hV
  have h2 : R * V = S * (Q * V) + T * V := by rw [hR, Nat.add_mul, Nat.mul_comm Q S, Nat.mul_assoc]
  omega
theorem abs_quot {r s : Int} (h : s ≠ 0) (hrs : 0 ≤ r * s) : r.natAbs = (r.fdiv s).natAbs * s.natAbs + (r.fmod s).natAbs := by
  obtain ⟨h1, h2, h3⟩ := fmod_facts (r := r) h
  generalize r.fdiv s = q at *
  generalize r.fmod s = t at *
  have hm := Int.natAbs_mul q s
  have hc : q * s = s * q := Int.mul_comm q s
  rw [← hm, hc]
  rcases Int.lt_or_gt_of_ne h with hs | hs
  · have ht : t ≤ 0 := by
      rcases Int.lt_or_le 0 t with h4 | h4
      · have := Int.mul_neg_of_neg_of_pos hs h4; omega
      · exact h4
    have hr : r ≤ 0 := by
      rcases Int.lt_or_le 0 r with h4 | h4
      · have := Int.mul_neg_of_pos_of_neg h4 hs; omega
      · exact h4
    have hq : 0 ≤ q := by
      rcases Int.lt_or_le q 0 with h4 | h4
      · have h5 : -s * 1 ≤ -s * -q := Int.mul_le_mul_of_nonneg_left (by omega) (by omega)
        rw [Int.neg_mul_neg] at h5
        omega
      · exact h4
    have hsq : s * q ≤ 0 := Int.mul_nonpos_of_nonpos_of_nonneg (by omega) hq
    omega
  · have ht : 0 ≤ t := by
      rcases Int.lt_or_le t 0 with h4 | h4
      · have := Int.mul_neg_of_pos_of_neg hs h4; omega
      · exact h4
    have hr : 0 ≤ r := by
      rcases Int.lt_or_le r 0 with h4 | h4
      · have := Int.mul_neg_of_neg_of_pos h4 hs; omega
      · exact h4
    have hq : 0 ≤ q := by
      rcases Int.lt_or_le q 0 with h4 | h4
      · have h5 : s * q ≤ s * (-1) := Int.mul_le_mul_of_nonneg_left (by omega) (by omega)
        omega
      · exact h4
    have hsq : 0 ≤ s * q := Int.mul_nonneg (by omega) hq
    omega
theorem euB_step {M r s u v : Int} (h : Mw.euB M r s u v) (hs : s ≠ 0) : Mw.euB M s (r.fmod s) v (u - r.fdiv s * v) := by
  obtain ⟨h1, h2, h3⟩ := fmod_facts (r := r) hs
  right
  rcases h with ⟨rfl, rfl, rfl, hM⟩ | ⟨h4, h5, h6, h7, h8, h9⟩
  · refine ⟨h3, ?_, hs, by simp, Nat.le_refl _, by omega⟩
    simp
  · have hq := abs_quot hs h4
    have hV : (u - r.fdiv s * v).natAbs ≤ u.natAbs + (r.fdiv s).natAbs * v.natAbs := by
      have := Int.natAbs_mul (r.fdiv s) v
      generalize r.fdiv s * v = x at *
      omega
    refine ⟨h3, euB_nat hq hV h5, hs, ?_, h9, by omega⟩
    have : 1 * v.natAbs ≤ r.natAbs * v.natAbs := Nat.mul_le_mul_right _ (by omega)
    omega
theorem euB_start {n M : Int} (hM : M ≠ 0) : Mw.euB M n M 1 0 := .inl ⟨rfl, rfl, rfl, hM⟩
theorem euB_uv {M r s u v : Int} (h : Mw.euB M r s u v) : u.natAbs ≤ M.natAbs + 1 ∧ (s ≠ 0 → v.natAbs ≤ M.natAbs) ∧ s.natAbs ≤ M.natAbs ∧ (s = 0 → r ≠ 0 ∧ r.natAbs ≤ M.natAbs) := by
  rcases h with ⟨rfl, rfl, rfl, hM⟩ | ⟨h4, h5, h6, h7, h8, h9⟩
  · exact ⟨by omega, fun _ => by simp, Nat.le_refl _, fun h => absurd h hM⟩
  · refine ⟨by omega, fun _ => ?_, h9, fun _ => ⟨h6, h8⟩⟩
    have : 1 * v.natAbs ≤ r.natAbs * v.natAbs := Nat.mul_le_mul_right _ (by omega)
    omega
end Go.Proofs.YtjieekkkaekclaaGreatDoor
namespace Go.Proofs.YtjieekkkaekclaaGreatDoor
open Go Go.RowKit Go.Proofs.YtjieekkkaekclaaGreatDoorW.PrintWords
def Sz2 (W : World) (b : Nat) : Prop := W.cell? ⟨b, 2, none⟩ = none
theorem Sz2.call {W W' : World} {b : Nat} (h : Sz2 W b) (hl : b < W.heap.size) (hb : Below W.heap.size W W') : Sz2 W' b := (hb.cell (p := ⟨b, 2, none⟩) hl).trans h
theorem Sz2.put {W : World} {b b' : Nat} {s : Int} {A : Option Addr} {k c : Nat} (h : Sz2 W b) : Sz2 (putN W b' s A k c) b := by
  refine (World.cell?_setCell_other _ _ _ _ ?_).trans ((World.cell?_setCell_other _ _ _ _ ?_).trans h) <;> simp
theorem Sz2.new (W : World) (x y : Value) (t : TypeId) : Sz2 (W.alloc (.cells #[x, y] t)) W.heap.size := by
  unfold Sz2; simp
structure Ev where
  R : Value → World → Prop
  call : ∀ {v : Value} {W W' : World}, R v W → Below W.heap.size W W' → R v W'
  put : ∀ {v : Value} {W : World} {b : Nat} {s : Int} {A : Option Addr} {k c : Nat} {n : Int}, R v W → Bx1 W b → Sz2 W b → NumAt W s A k c n → R v (putN W b s A k c)
def Nv (n : Int) (v : Value) (W : World) : Prop := ∃ s A k c, v = .agg #[.int .i64 s, .slice A k c] ∧ NumAt W s A k c n
def Nt (n m : Int) (v : Value) (W : World) : Prop := ∃ s A k c s' A' k' c', v = .tuple #[.agg #[.int .i64 s, .slice A k c], .agg #[.int .i64 s', .slice A' k' c']] ∧ NumAt W s A k c n ∧ NumAt W s' A' k' c' m
def Pn (lo : Nat) (v : Value) (W : World) : Prop := ∃ b, v = .pointer (some ⟨b, 0, none⟩) ∧ lo ≤ b ∧ Bx1 W b ∧ Sz2 W b
structure Two (n m : Int) (g : Nat) (s : Int) (A : Option Addr) (k c : Nat) (s' : Int) (A' : Option Addr) (k' c' : Nat) (W : World) : Prop where
  c0 : W.cell? ⟨g, 0, none⟩ = some (.int .i64 s)
  c1 : W.cell? ⟨g, 1, none⟩ = some (.slice A k c)
  c2 : W.cell? ⟨g, 2, none⟩ = some (.int .i64 s')
  c3 : W.cell? ⟨g, 3, none⟩ = some (.slice A' k' c')
  lt : g < W.heap.size
  num : NumAt W s A k c n
  num' : NumAt W s' A' k' c' m
theorem Two.call {n m : Int} {g : Nat} {s : Int} {A : Option Addr} {k c : Nat} {s' : Int} {A' : Option Addr} {k' c' : Nat} {W W' : World} (h : Two n m g s A k c s' A' k' c' W) (hb : Below W.heap.size W W') : Two n m g s A k c s' A' k' c' W' :=
  ⟨(hb.cell (p := ⟨g, 0, none⟩) h.lt).trans h.c0, (hb.cell (p := ⟨g, 1, none⟩) h.lt).trans h.c1, (hb.cell (p := ⟨g, 2, none⟩) h.lt).trans h.c2, (hb.cell (p := ⟨g, 3, none⟩) h.lt).trans h.c3, Nat.lt_of_lt_of_le h.lt hb.size, h.num.below hb, h.num'.below hb⟩
theorem Two.put {n m : Int} {g : Nat} {s : Int} {A : Option Addr} {k c : Nat} {s' : Int} {A' : Option Addr} {k' c' : Nat} {W : World} (h : Two n m g s A k c s' A' k' c' W) {b : Nat} (hx : Bx1 W b) (hs : Sz2 W b) (s2 : Int) (A2 : Option Addr) (k2 c2 : Nat) : Two n m g s A k c s' A' k' c' (putN W b s2 A2 k2 c2) := by
  have hne : b ≠ g := fun e => by subst e; have := h.c2; rw [show W.cell? ⟨b, 2, none⟩ = none from hs] at this; cases this
  have hf : ∀ o, (putN W b s2 A2 k2 c2).cell? ⟨g, o, none⟩ = W.cell? ⟨g, o, none⟩ := fun o => by rw [World.cell?_setCell_far _ _ _ _ hne, World.cell?_setCell_far _ _ _ _ hne]
  exact ⟨(hf 0).trans h.c0, (hf 1).trans h.c1, (hf 2).trans h.c2, (hf 3).trans h.c3, by simpa using h.lt, Nb.numPutB h.num hx _ _ _ _, Nb.numPutB h.num' hx _ _ _ _⟩
theorem Two.new {n m : Int} {s : Int} {A : Option Addr} {k c : Nat} {s' : Int} {A' : Option Addr} {k' c' : Nat} {W : World} (h : NumAt W s A k c n) (h' : NumAt W s' A' k' c' m) (t : TypeId) : Two n m W.heap.size s A k c s' A' k' c' (W.alloc (.cells #[.int .i64 s, .slice A k c, .int .i64 s', .slice A' k' c'] t)) :=
  ⟨by simp, by simp, by simp, by simp, by simp, h.below (below_alloc (Below.refl _ _) _), h'.below (below_alloc (Below.refl _ _) _)⟩
def Nw (n m : Int) (v : Value) (W : World) : Prop := ∃ g s A k c s' A' k' c', v = .slice (some ⟨g, 0, none⟩) 2 2 ∧ Two n m g s A k c s' A' k' c' W
def Ev.eq (x : Value) : Ev := ⟨fun v _ => v = x, fun h _ => h, fun h _ _ _ => h⟩
def Ev.nw (n m : Int) : Ev := ⟨Nw n m, fun ⟨g, s, A, k, c, s', A', k', c', e, h⟩ hb => ⟨g, s, A, k, c, s', A', k', c', e, h.call hb⟩, fun ⟨g, s, A, k, c, s', A', k', c', e, h⟩ hx hs _ => ⟨g, s, A, k, c, s', A', k', c', e, h.put hx hs _ _ _ _⟩⟩
def Ev.nv (n : Int) : Ev := ⟨Nv n, fun ⟨s, A, k, c, e, h⟩ hb => ⟨s, A, k, c, e, h.below hb⟩, fun ⟨s, A, k, c, e, h⟩ hx _ _ => ⟨s, A, k, c, e, Nb.numPutB h hx _ _ _ _⟩⟩
def Ev.nt (n m : Int) : Ev := ⟨Nt n m, fun ⟨s, A, k, c, s', A', k', c', e, h, h'⟩ hb => ⟨s, A, k, c, s', A', k', c', e, h.below hb, h'.below hb⟩,
  fun ⟨s, A, k, c, s', A', k', c', e, h, h'⟩ hx _ _ => ⟨s, A, k, c, s', A', k', c', e, Nb.numPutB h hx _ _ _ _, Nb.numPutB h' hx _ _ _ _⟩⟩
def Ev.pn (lo : Nat) : Ev := ⟨Pn lo, fun ⟨b, e, h, hx, hs⟩ hb => ⟨b, e, h, hx.call hb, hs.call hx.lt hb⟩, fun ⟨b, e, h, hx, hs⟩ hy _ hN => ⟨b, e, h, hx.put hy hN, hs.put⟩⟩
def Ev.no : Ev := ⟨fun _ _ => True, fun h _ => h, fun h _ _ _ => h⟩
def Fresh (v : Value) (W : World) : Prop := ∃ b, v = .pointer (some ⟨b, 0, none⟩) ∧ W.heap.size ≤ b
theorem fresh_ne {lo : Nat} {v x : Value} {W : World} (h : Fresh v W) (hp : Pn lo x W) : v ≠ x := by
  obtain ⟨b, rfl, hb⟩ := h
  obtain ⟨b', rfl, _, hx, _⟩ := hp
  intro e
  have := hx.lt
  simp only [Value.pointer.injEq, Option.some.injEq, Addr.mk.injEq] at e
  omega
section
variable {P : Program} {Q : Exit → Act → World → Prop}
theorem wp_region_ev {id : Nat} {l : List Oper} {a0 : Act} {w0 : World} (evs : List Ev) (al : Nat → Bool) (lo n sz : Nat) (hn : evs.length = n) (hsz : a0.tmps.size = sz) (B : World → Prop)
    (hal : ∀ i, i < n → al i = true → evs.getD i Ev.no = Ev.pn lo)
    (hm : P.follows .mixedOrders = true) (hchk : evB .any l.toArray n sz = true) (hB0 : B w0.drew)
    (hB : ∀ W W', B W → Below W.heap.size W W' → B W')
    (hev : ∀ i, i < n → ∀ o, l.toArray[i]? = some o → ∀ (a : Act) (W : World) (vs : Nat → Value), B W →
      (∀ t, (List.range n).all (fun j => dstAt l.toArray j != some t) = true → a.tmps[t]?.getD undef = a0.tmps[t]?.getD undef) →
      (∀ j, Region.waitsFor .any l.toArray i j = true → (evs.getD j Ev.no).R (vs j) W ∧ ∀ t, dstAt l.toArray j = some t → a.tmps[t]?.getD undef = vs j) →
      ∀ K' : Act → World → Prop, Shut (∀ v W', Below W.heap.size W W' → (evs.getD i Ev.no).R v W' → (al i = true → Fresh v W) → K' (a.put o.dst v) W') → Oper.wp P o a W K' Q)
    (htail : ∀ (vs : Nat → Value) (W : World), B W → (∀ i, i < n → (evs.getD i Ev.no).R (vs i) W) → (∀ i j, i < n → j < n → i ≠ j → al i = true → al j = true → vs i ≠ vs j) → wpList P l.toArray Q (l.drop n) (putAll a0 (dstAt l.toArray) vs n) W) :
    (Code.region id l.toArray true).wp P Q a0 w0 := by
  refine wp_region_events n sz hsz B (fun _ W W' => Below W.heap.size W W') (fun i vs W => (evs.getD i Ev.no).R (vs i) W) al hm hchk hB0 (fun _ _ W W' h hb => hB W W' h hb) (fun i j _ _ _ vs W W' _ h hb => (evs.getD j Ev.no).call h hb) ?_ ?_ htail
  · intro i j hi hj hij _ vs v W h
    simpa only [upd, if_neg (Ne.symm hij)] using h
  · intro i hi o ho a W vs hBW hsl hpre K' hK
    refine hev i hi o ho a W vs hBW hsl hpre K' (show Shut _ from fun v W' hb hg hf => hK.out v W' hb (by simpa only [upd, if_true] using hg) (fun ha j hj haj hF => ?_))
    rw [hal j hj haj] at hF
    exact fresh_ne (hf ha) hF
theorem wp_region_ev1 {id : Nat} {l : List Oper} {a0 : Act} {w0 : World} (evs : List Ev) (al : Nat → Bool) (lo n p sz : Nat) (q : Int) (hn : evs.length = n) (hsz : a0.tmps.size = sz) (B : World → Prop)
    (hal : ∀ i, i < n → al i = true → evs.getD i Ev.no = Ev.pn lo) (hal1 : al n = false) (hp : p < n) (hwp : Region.waitsFor .any l.toArray n p = true)
    (hm : P.follows .mixedOrders = true) (hchk : evB .any l.toArray (n + 1) sz = true) (hB0 : B w0.drew)
    (hB : ∀ W W', B W → Below W.heap.size W W' → B W') (hBp : ∀ W b s A k c, B W → lo ≤ b → Bx1 W b → NumAt W s A k c q → B (putN W b s A k c))
    (hev : ∀ i, i < n → ∀ o, l.toArray[i]? = some o → ∀ (a : Act) (W : World) (vs : Nat → Value), B W →
      (∀ t, (List.range (n + 1)).all (fun j => dstAt l.toArray j != some t) = true → a.tmps[t]?.getD undef = a0.tmps[t]?.getD undef) →
      (∀ j, j < n → Region.waitsFor .any l.toArray i j = true → (evs.getD j Ev.no).R (vs j) W ∧ ∀ t, dstAt l.toArray j = some t → a.tmps[t]?.getD undef = vs j) →
      ∀ K' : Act → World → Prop, Shut (∀ v W', Below W.heap.size W W' → (evs.getD i Ev.no).R v W' → (al i = true → Fresh v W) → K' (a.put o.dst v) W') → Oper.wp P o a W K' Q)
    (hst : ∀ o, l.toArray[n]? = some o → ∀ (a : Act) (W : World) (vs : Nat → Value), B W →
      (∀ j, j < n → Region.waitsFor .any l.toArray n j = true → (evs.getD j Ev.no).R (vs j) W ∧ ∀ t, dstAt l.toArray j = some t → a.tmps[t]?.getD undef = vs j) →
      ∀ K' : Act → World → Prop, Shut (∀ v b s A k c, vs p = .pointer (some ⟨b, 0, none⟩) → lo ≤ b → Bx1 W b → Sz2 W b → NumAt W s A k c q → K' (a.put o.dst v) (putN W b s A k c)) → Oper.wp P o a W K' Q)
    (htail : ∀ (vs : Nat → Value) (W : World), B W → (∀ i, i < n → (evs.getD i Ev.no).R (vs i) W) → (∃ b, vs p = .pointer (some ⟨b, 0, none⟩) ∧ Bn W b q) → (∀ i j, i < n → j < n → i ≠ j → al i = true → al j = true → vs i ≠ vs j) → wpList P l.toArray Q (l.drop (n + 1)) (putAll a0 (dstAt l.toArray) vs (n + 1)) W) :
    (Code.region id l.toArray true).wp P Q a0 w0 := by
  refine wp_region_events (n + 1) sz hsz B (fun i W W' => if i = n then ∃ b s A k c, lo ≤ b ∧ Bx1 W b ∧ Sz2 W b ∧ NumAt W s A k c q ∧ W' = putN W b s A k c else Below W.heap.size W W')
    (fun i vs W => if i = n then ∃ b, vs p = .pointer (some ⟨b, 0, none⟩) ∧ Bn W b q else (evs.getD i Ev.no).R (vs i) W) al hm hchk hB0 ?_ ?_ ?_ ?_ ?_
  · intro i hi W W' h hb
    by_cases h4 : i = n
    · rw [if_pos h4] at hb
      obtain ⟨b, s, A, k, c, hlo, hbx, hsz, hN, rfl⟩ := hb
      exact hBp _ _ _ _ _ _ h hlo hbx hN
    · rw [if_neg h4] at hb
      exact hB _ _ h hb
  · intro i j hi hj hij vs W W' _ hf hb
    by_cases h4 : i = n
    · rw [if_pos h4] at hb
      obtain ⟨b, s, A, k, c, hlo, hbx, hsz, hN, rfl⟩ := hb
      rw [if_neg (by omega)] at hf ⊢
      exact (evs.getD j Ev.no).put hf hbx hsz hN
    · rw [if_neg h4] at hb
      by_cases h5 : j = n
      · rw [if_pos h5] at hf ⊢
        obtain ⟨b, e, hbn⟩ := hf
        exact ⟨b, e, hbn.call hb⟩
      · rw [if_neg h5] at hf ⊢
        exact (evs.getD j Ev.no).call hf hb
  · intro i j hi hj hij hw vs v W hf
    by_cases h5 : j = n
    · rw [if_pos h5] at hf ⊢
      have hpi : p ≠ i := fun h => by subst h; rw [h5, hwp] at hw; cases hw
      simpa only [upd, if_neg hpi] using hf
    · rw [if_neg h5] at hf ⊢
      simpa only [upd, if_neg (Ne.symm hij)] using hf
  · intro i hi o ho a W vs hBW hsl hpre K' hK
    have hpre' : ∀ j, j < n → Region.waitsFor .any l.toArray i j = true → (evs.getD j Ev.no).R (vs j) W ∧ ∀ t, dstAt l.toArray j = some t → a.tmps[t]?.getD undef = vs j := fun j hj hw => by
      have h := hpre j hw
      rw [if_neg (by omega)] at h
      exact h
    by_cases h4 : i = n
    · subst h4
      refine hst o ho a W vs hBW hpre' K' (show Shut _ from fun v b s A k c e hlo hbx hsz hN => hK.out v _ ?_ ?_ (fun h => by rw [hal1] at h; cases h))
      · rw [if_pos rfl]; exact ⟨b, s, A, k, c, hlo, hbx, hsz, hN, rfl⟩
      · rw [if_pos rfl]
        have hpi : p ≠ i := by omega
        refine ⟨b, by simpa only [upd, if_neg hpi] using e, ?_⟩
        exact (Nb.putSameB hN hbx).bn
    · refine hev i (by omega) o ho a W vs hBW hsl hpre' K' (show Shut _ from fun v W' hb hg hf => hK.out v W' ?_ ?_ (fun ha j hj haj hF => ?_))
      · rw [if_neg h4]; exact hb
      · rw [if_neg h4]; simpa only [upd, if_true] using hg
      · have hjn : j ≠ n := fun h => by subst h; rw [hal1] at haj; cases haj
        rw [if_neg hjn, hal j (by omega) haj] at hF
        exact fresh_ne (hf ha) hF
  · intro vs W hBW hf hne
    have hl := hf n (by omega)
    rw [if_pos rfl] at hl
    exact htail vs W hBW (fun i hi => by have h := hf i (by omega); rw [if_neg (by omega)] at h; exact h) hl (fun i j hi hj => hne i j (by omega) (by omega))
end
def Lt9 (K : Nat) (x : Int) : Prop := x.natAbs < 1000000000 ^ K
section
variable {W : World} {s : Int} {A : Option Addr} {k c K L : Nat} {n x y : Int}
theorem Lt9.kle (h : Lt9 K n) (H : NumAt W s A k c n) : k ≤ K := by rw [H.len]; exact (lbs_len_le _ _).mpr h
theorem Lt9.mono (h : Lt9 K x) (hl : y.natAbs ≤ x.natAbs) : Lt9 K y := Nat.lt_of_le_of_lt hl h
theorem Lt9.up (h : Lt9 K x) (hl : K ≤ L) : Lt9 L x := Nat.lt_of_lt_of_le h (Nat.pow_le_pow_right (by omega) hl)
theorem Lt9.mul (h : Lt9 K x) (h' : Lt9 L y) : Lt9 (K + L) (x * y) := by
  unfold Lt9 at *
  rw [Int.natAbs_mul, Nat.pow_add]
  exact Nat.mul_lt_mul'' h h'
theorem pow9_pos (K : Nat) : 0 < 1000000000 ^ K := Nat.pow_pos (by omega)
theorem Lt9.add (h : Lt9 K x) (h' : Lt9 K y) : Lt9 (K + 1) (x + y) := by
  unfold Lt9 at *
  rw [Nat.pow_succ]
  have := Int.natAbs_add_le x y
  generalize 1000000000 ^ K = X at *
  omega
theorem Lt9.neg (h : Lt9 K x) : Lt9 K (-x) := by unfold Lt9 at *; rwa [Int.natAbs_neg]
theorem Lt9.sub (h : Lt9 K x) (h' : Lt9 K y) : Lt9 (K + 1) (x - y) := by rw [Int.sub_eq_add_neg]; exact h.add h'.neg
theorem Lt9.succ (h : Lt9 K x) (hl : y.natAbs ≤ x.natAbs + 1) : Lt9 (K + 1) y := by
  unfold Lt9 at *
  rw [Nat.pow_succ]
  have := pow9_pos K
  generalize 1000000000 ^ K = X at *
  omega
theorem Lt9.tdiv (h : Lt9 K x) : Lt9 K (x.tdiv y) := h.mono (by rw [Int.natAbs_tdiv]; exact Nat.div_le_self _ _)
theorem Lt9.fdiv (h : Lt9 K x) (hy : y ≠ 0) : Lt9 (K + 1) (x.fdiv y) := h.succ (fdiv_abs x y hy).1
theorem Lt9.fmod (h : Lt9 K y) (hy : y ≠ 0) : Lt9 K (x.fmod y) := h.mono (Nat.le_of_lt (fmod_facts hy).2.1)
theorem Lt9.small (h : x.natAbs < 1000000000) : Lt9 1 x := by unfold Lt9; simpa using h
end
theorem tdiv_ne {m r : Int} (hr : r ≠ 0) (h : r.natAbs ≤ m.natAbs) : m.tdiv r ≠ 0 := by
  intro e
  have h1 := congrArg Int.natAbs e
  rw [Int.natAbs_tdiv] at h1
  have h2 : 1 ≤ m.natAbs / r.natAbs := (Nat.le_div_iff_mul_le (by omega)).mpr (by omega)
  have h3 : m.natAbs / r.natAbs = 0 := h1
  rw [h3] at h2
  exact absurd h2 (by decide)
end Go.Proofs.YtjieekkkaekclaaGreatDoor
