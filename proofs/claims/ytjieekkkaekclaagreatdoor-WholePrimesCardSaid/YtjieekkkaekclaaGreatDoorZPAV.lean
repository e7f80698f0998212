/- Lemmas for the claim beside this text. -/
import Derived.Test.YtjieekkkaekclaaGreatDoorZPAU
set_option linter.all false
set_option linter.unusedVariables false
set_option linter.unusedSimpArgs false
namespace Go.Proofs.YtjieekkkaekclaaGreatDoor
open Go Go.RowKit Go.Proofs.YtjieekkkaekclaaGreatDoorW.PrintWords
def Mw.gcd3 (n m : Int) : Int × Int × Int :=
  if m = 0 then ((n.natAbs : Int), sgn n, 0) else
    let p := Mw.eu n m 1 0
    let r := if p.1 < 0 then -p.1 else p.1
    let u := if p.1 < 0 then -p.2 else p.2
    let low := u.fmod ((m.tdiv r).natAbs : Int)
    (r, low, (r - n * low).tdiv m)
def Mw.give3 (t : Int × Int × Int) : List UInt8 × List UInt8 × List UInt8 × Int :=
  if Mw.gerr t.1 = 0 then (if Mw.gerr t.2.1 = 0 then (if Mw.gerr t.2.2 = 0 then (Mw.itxt t.1, Mw.itxt t.2.1, Mw.itxt t.2.2, 0) else ([], [], [], Mw.gerr t.2.2)) else ([], [], [], Mw.gerr t.2.1)) else ([], [], [], Mw.gerr t.1)
def Mw.gcd (a b : List UInt8) : List UInt8 × List UInt8 × List UInt8 × Int := if Mw.terr2 a b = 0 then Mw.give3 (Mw.gcd3 (Mw.ival a) (Mw.ival b)) else ([], [], [], Mw.terr2 a b)
theorem Mw.gcd3_neg {n m r u : Int} (hm : m ≠ 0) (he : Mw.eu n m 1 0 = (r, u)) (h : r < 0) : Mw.gcd3 n m = (-r, (-u).fmod ((m.tdiv (-r)).natAbs : Int), (-r - n * ((-u).fmod ((m.tdiv (-r)).natAbs : Int))).tdiv m) := by
  rw [Mw.gcd3, if_neg hm]; simp only [he, if_pos h]
theorem Mw.gcd3_pos {n m r u : Int} (hm : m ≠ 0) (he : Mw.eu n m 1 0 = (r, u)) (h : ¬ r < 0) : Mw.gcd3 n m = (r, u.fmod ((m.tdiv r).natAbs : Int), (r - n * (u.fmod ((m.tdiv r).natAbs : Int))).tdiv m) := by
  rw [Mw.gcd3, if_neg hm]; simp only [he, if_neg h]
theorem Mw.gerr_abs (n : Int) : Mw.gerr (n.natAbs : Int) = Mw.gerr n := by rw [Mw.gerr, Mw.gerr, Int.natAbs_natCast]
theorem Mw.gerr_nil : Mw.gerr 0 = 0 := by rw [Mw.gerr, if_neg]; simp [Mw.dtxt_small]
theorem Mw.gerr_sgn (n : Int) : Mw.gerr (sgn n) = 0 := by
  rcases sgn_cases n with ⟨e, _⟩ | ⟨e, _⟩ | ⟨e, _⟩ <;> rw [e, Mw.gerr, if_neg] <;> simp [Mw.dtxt_small]
set_option maxRecDepth 100000 in
set_option maxHeartbeats 6400000 in
theorem gcd_any (s t : ByteArray) (w : World) (hs : s.size ≤ 100000) (ht : t.size ≤ 100000) (hg : Ety w) (htab : Tab w) :
    Calls Tryz.prog 21 #[.string s, .string t] w fun e w' => e = .returned (.tuple #[.string ⟨(Mw.gcd s.data.toList t.data.toList).1.toArray⟩, .string ⟨(Mw.gcd s.data.toList t.data.toList).2.1.toArray⟩, .string ⟨(Mw.gcd s.data.toList t.data.toList).2.2.1.toArray⟩, .int .i64 (Mw.gcd s.data.toList t.data.toList).2.2.2]) ∧ Below w.heap.size w w' := by
  have hmf : ∀ (fn : Fn) (first cap : Array Value) (w : World), (Instr.makeFunc fn first cap).run Tryz.prog w = .ok (.func fn first cap) w := fun _ _ _ _ => rfl
  have HG := Lib.hid hg
  have HT := Lib.hid (Lib.tabBelow_of_tabIs htab)
  clear hg htab
  obtain ⟨⟨rg, rx, ry, er⟩, hr⟩ : ∃ x, Mw.gcd s.data.toList t.data.toList = x := ⟨_, rfl⟩
  rw [hr]
  dsimp only
  by_cases hok : Mw.terr s.data.toList = 0
  · by_cases hok2 : Mw.terr t.data.toList = 0
    · rw [Mw.gcd, Mw.terr2, if_pos hok, if_pos hok2] at hr
      have HR := Lib.hid hr
      obtain ⟨n, hn⟩ : ∃ n, Mw.ival s.data.toList = n := ⟨_, rfl⟩
      obtain ⟨m, hm⟩ : ∃ m, Mw.ival t.data.toList = m := ⟨_, rfl⟩
      have hgn : Mw.gerr n = 0 := by rw [← hn]; exact (terr_gerr hok).1
      rw [hn, hm] at HR
      have HN := Lib.hid hn
      have HM := Lib.hid hm
      clear hr hn hm
      go_enter_defers Tryz.func21, Tryz.ntmps21
      go_wp2_with (first | (go_at_call 69; with_reducible refine (taken_ok s _ hs hok).mono ?_; rintro e w1 ⟨s1, A1, k1, c1, rfl, hN1, hb1⟩) | (go_at_call 69; with_reducible refine (taken_ok t _ ht hok2).mono ?_; rintro e w3 ⟨s3, A3, k3, c3, rfl, hN3, hb3⟩) | (go_at_call 70; with_reducible refine (szero_any s3 _).mono ?_; rintro e w5 ⟨rfl, hw5⟩; refine Hid.out ?_))
      clear hw5
      have hk1 := hN1.k45 hok
      have hk3 := hN3.k45 hok2
      rw [HN.out] at hN1
      rw [HM.out] at hN3
      have HNL := Lib.hid (hN1.lt hk1)
      have HML := Lib.hid (hN3.lt hk3)
      have HX := Lib.hid (((Nb.new hN1 71).call hb3).alloc (.cells #[.int .i64 s3, .slice A3 k3 c3] 71))
      have HY := Lib.hid (Nb.new hN3 71)
      have HO := Lib.hid ((((Own.of hb1).next (below_alloc (Below.refl _ _) _)).next hb3).next (below_alloc (Below.refl _ _) (.cells #[.int .i64 s3, .slice A3 k3 c3] 71)))
      have hz0 : w.heap.size < w1.heap.size := (Own.of hb1).lt
      have hz1 : w1.heap.size < w3.heap.size := by have := hb3.size; simp at this; omega
      clear hN1 hN3 hb1 hb3
      obtain ⟨W4, hW4⟩ : ∃ W, w3.alloc (.cells #[.int .i64 s3, .slice A3 k3 c3] 71) = W := ⟨_, rfl⟩
      rw [hW4] at HX HY HO ⊢
      clear hW4
      obtain ⟨b1, hb1⟩ : ∃ b, w1.heap.size = b := ⟨_, rfl⟩
      obtain ⟨b2, hb2⟩ : ∃ b, w3.heap.size = b := ⟨_, rfl⟩
      rw [hb1] at HX hz0 hz1 ⊢
      rw [hb2] at HY hz1 ⊢
      clear hb1 hb2
      have hse := sgn_zero HY.out.num.sign
      have x0 := HX.out.c0
      have x1 := HX.out.c1
      by_cases hz : m = 0
      · have hs3 := hse.mpr hz
        subst hs3
        subst hz
        have hg1 : Mw.gerr (n.natAbs : Int) = 0 := by rw [Mw.gerr_abs]; exact hgn
        have hg2 := Mw.gerr_sgn n
        have hr := HR.out
        rw [Mw.gcd3, if_pos rfl, Mw.give3, if_pos hg1, if_pos hg2, if_pos Mw.gerr_nil] at hr
        have HRR := Lib.hid hr
        have hT4 := HT.out _ HO.out.below
        clear hr HR hse x0 x1
        refine Lib.hid ?_
        go_wp2_with fail
        have hX := HX.out.drew
        have HOD := Lib.hid (HO.out.next (below_drew (Below.refl _ _) : Below W4.heap.size W4 W4.drew))
        have x0 := hX.c0
        have x1 := hX.c1
        refine wp_region_goT (fun w' => w'.cell? ⟨b1, 0, none⟩ = some (.int .i64 s1) ∧ w'.cell? ⟨b1, 1, none⟩ = some (.slice A1 k1 c1)) 8 (by kernel_rfl) (by kernel_rfl) ⟨x0, x1⟩ (fun hHeld => ?_)
        clear hT4 HX HO HY
        generalize W4.drew = WD at *
        refine goT_take 0 (v := ?_) rfl (by decide +kernel) (fun _ _ _ h => bodyPostD_put (by decide +kernel) h) (Or.inl ⟨by rfl, ?_⟩) (by assumption) ?_
        rotate_left
        · (intro w_ hSw; (try dsimp only at hSw); go_simp; (try with_reducible rfl))
        try simp only [Act.put, List.setIfInBounds_toArray, List.set_cons_zero, List.set_cons_succ]
        refine goT_take 3 (v := ?_) rfl (by decide +kernel) (fun _ _ _ h => bodyPostD_put (by decide +kernel) h) (Or.inl ⟨by rfl, ?_⟩) (by assumption) ?_
        rotate_left
        · (intro w_ hSw; (try dsimp only at hSw); go_simp; (try with_reducible rfl))
        try simp only [Act.put, List.setIfInBounds_toArray, List.set_cons_zero, List.set_cons_succ]
        refine goT_take 4 (v := ?_) rfl (by decide +kernel) (fun _ _ _ h => bodyPostD_put (by decide +kernel) h) (Or.inl ⟨by rfl, ?_⟩) (by assumption) ?_
        rotate_left
        · (intro w_ hSw; (try dsimp only at hSw); go_simp; (try with_reducible rfl))
        try simp only [Act.put, List.setIfInBounds_toArray, List.set_cons_zero, List.set_cons_succ]
        refine goT_step 1 rfl (by decide +kernel) (fun K_ hK => ?_)
        go_simp
        refine (abs_any _ hX.num).mono ?_
        rintro e w6 ⟨rfl, hN6, hb6⟩
        have hX6 := hX.call hb6
        have HO6 := Lib.hid (HOD.out.next hb6)
        have hT6 := HT.out _ HO6.out.below
        clear x0 x1 hb6
        have x0 := hX6.c0
        have x1 := hX6.c1
        go_wp2_with fail
        refine hK.out _ _ ⟨x0, x1⟩ (fun hHeld => ?_)
        clear hK
        try simp only [Act.put, List.setIfInBounds_toArray, List.set_cons_zero, List.set_cons_succ]
        refine goT_step 2 rfl (by decide +kernel) (fun K_ hK => ?_)
        go_simp
        refine (given_ok _ hN6 (by omega) hT6 hg1).mono ?_
        rintro e w7 ⟨rfl, hb7⟩
        have hX7 := hX6.call hb7
        have HO7 := Lib.hid (HO6.out.next hb7)
        clear x0 x1 hb7 hT6 hX6 hN6
        have x0 := hX7.c0
        have x1 := hX7.c1
        go_wp2_with fail
        refine hK.out _ _ ⟨x0, x1⟩ (fun hHeld => ?_)
        clear hK
        try simp only [Act.put, List.setIfInBounds_toArray, List.set_cons_zero, List.set_cons_succ]
        refine goT_step 5 rfl (by decide +kernel) (fun K_ hK => ?_)
        go_simp
        refine (ssign_any s1 _ hX7.num.bd).mono ?_
        rintro e w8 ⟨rfl, rfl⟩
        go_wp2_with fail
        refine hK.out _ _ ⟨x0, x1⟩ (fun hHeld => ?_)
        clear hK
        try simp only [Act.put, List.setIfInBounds_toArray, List.set_cons_zero, List.set_cons_succ]
        refine goT_step 6 rfl (by decide +kernel) (fun K_ hK => ?_)
        go_simp
        have hsb := hX7.num.bd
        refine (of_any s1 _ (by omega) (by omega)).mono ?_
        rintro e w9 ⟨s9, A9, k9, c9, rfl, hN9, hb9⟩
        have hk9 : k9 ≤ 1 := hN9.len_le (N := 1) (K := 1) (by decide) (by omega)
        rw [hX7.num.sign] at hN9
        have hX9 := hX7.call hb9
        have HO9 := Lib.hid (HO7.out.next hb9)
        have hT9 := HT.out _ HO9.out.below
        clear x0 x1 hb9 hsb hX7
        have x0 := hX9.c0
        have x1 := hX9.c1
        go_wp2_with fail
        refine hK.out _ _ ⟨x0, x1⟩ (fun hHeld => ?_)
        clear hK
        try simp only [Act.put, List.setIfInBounds_toArray, List.set_cons_zero, List.set_cons_succ]
        refine goT_step 7 rfl (by decide +kernel) (fun K_ hK => ?_)
        go_simp
        refine (given_ok _ hN9 (by omega) hT9 hg2).mono ?_
        rintro e w10 ⟨rfl, hb10⟩
        have HO10 := Lib.hid (HO9.out.next hb10)
        have hX10 := hX9.call hb10
        clear x0 x1 hb10 hT9 hX9 hN9
        have x0 := hX10.c0
        have x1 := hX10.c1
        go_wp2_with fail
        refine hK.out _ _ ⟨x0, x1⟩ (fun hHeld => ?_)
        clear hK
        try simp only [Act.put, List.setIfInBounds_toArray, List.set_cons_zero, List.set_cons_succ]
        refine goT_done (by decide +kernel) ?_
        have q0 := HO10.out.cell
        have f0 := HO10.out.frz
        go_wp2
        have hr := HRR.out
        cases hr
        exact door_leave isDoor_Gcd _ (.int .i64 0) (.tuple #[.string ⟨(Mw.itxt (n.natAbs : Int)).toArray⟩, .string ⟨(Mw.itxt (sgn n)).toArray⟩, .string ⟨#[48]⟩, .int .i64 0]) _ (World.cell?_setCell_same _ _ _ q0) (by simp [f0]) (fun W' h => by simp [results, Tryz.results21, go_sem, h])
          (fun W' h => ⟨by rw [Mw.itxt_zero], (HO10.out.below.setCell (Nat.le_refl _) _).trans h⟩)
      · have hs3 : (s3 == 0) = false := by rw [beq_eq_false_iff_ne]; exact fun h => hz (hse.mp h)
        have HZ := Lib.hid hz
        clear hse hz
        refine Lib.hid ?_
        go_wp2_with fail
        go_cut [10, 11] from 23 to 39 (fun v10 v11 wc => ∃ br bs, v10 = .pointer (some ⟨br, 0, none⟩) ∧ v11 = .pointer (some ⟨bs, 0, none⟩) ∧ Hid (b2 < br ∧ b2 < bs ∧ br ≠ bs) ∧ Hid (Nb wc br s1 A1 k1 c1 n) ∧ Hid (Nb wc bs s3 A3 k3 c3 m) ∧ Hid (Nb wc b1 s1 A1 k1 c1 n) ∧ Hid (Nb wc b2 s3 A3 k3 c3 m) ∧ Hid (Own w (.int .i64 0) wc))
        case first =>
          refine wp_region_events 5 96 rfl (fun W => Nb W b1 s1 A1 k1 c1 n ∧ Nb W b2 s3 A3 k3 c3 m ∧ Own w (.int .i64 0) W)
            (fun i W W' => if i = 4 then ∃ b, b2 < b ∧ Bx1 W b ∧ W' = putN W b s1 A1 k1 c1 else Below W.heap.size W W')
            (fun i vs W => match i with
              | 0 => vs 0 = .agg #[.int .i64 s1, .slice A1 k1 c1]
              | 1 => vs 1 = .agg #[.int .i64 s3, .slice A3 k3 c3]
              | 2 => ∃ b, vs 2 = .pointer (some ⟨b, 0, none⟩) ∧ b2 < b ∧ Bx1 W b
              | 3 => ∃ b, vs 3 = .pointer (some ⟨b, 0, none⟩) ∧ b2 < b ∧ Bx1 W b
              | 4 => ∃ b, vs 2 = .pointer (some ⟨b, 0, none⟩) ∧ Nb W b s1 A1 k1 c1 n
              | _ => True) (fun i => i == 2 || i == 3) (by kernel_rfl) (by decide +kernel) ⟨HX.out.drew, HY.out.drew, HO.out.next (below_drew (Below.refl _ _))⟩ ?_ ?_ ?_ ?_ ?_
          · rintro i hi W W' ⟨h1, h2, h3⟩ hb
            by_cases h4 : i = 4
            · rw [if_pos h4] at hb
              obtain ⟨b, hb2, hbx, rfl⟩ := hb
              exact ⟨h1.putB hbx (by omega) _ _ _ _, h2.putB hbx (by omega) _ _ _ _, h3.putN (by omega) _ _ _ _⟩
            · rw [if_neg h4] at hb
              exact ⟨h1.call hb, h2.call hb, h3.next hb⟩
          · rintro i j hi hj hij vs W W' ⟨h1, h2, h3⟩ hf hb
            by_cases h4 : i = 4
            · rw [if_pos h4] at hb
              obtain ⟨b, hb2, hbx, rfl⟩ := hb
              match j, hj, hf with
              | 0, _, hf => exact hf
              | 1, _, hf => exact hf
              | 2, _, ⟨b', e1, e2, e3⟩ => exact ⟨b', e1, e2, e3.put hbx h1.num⟩
              | 3, _, ⟨b', e1, e2, e3⟩ => exact ⟨b', e1, e2, e3.put hbx h1.num⟩
              | 4, _, _ => exact absurd h4 hij
            · rw [if_neg h4] at hb
              match j, hj, hf with
              | 0, _, hf => exact hf
              | 1, _, hf => exact hf
              | 2, _, ⟨b', e1, e2, e3⟩ => exact ⟨b', e1, e2, e3.call hb⟩
              | 3, _, ⟨b', e1, e2, e3⟩ => exact ⟨b', e1, e2, e3.call hb⟩
              | 4, _, ⟨b', e1, e2⟩ => exact ⟨b', e1, e2.call hb⟩
          · intro i j hi hj hij hw vs v W hf
            match j, hj, hf with
            | 0, _, hf => simpa [upd, Ne.symm hij] using hf
            | 1, _, hf => simpa [upd, Ne.symm hij] using hf
            | 2, _, hf => simpa [upd, Ne.symm hij] using hf
            | 3, _, hf => simpa [upd, Ne.symm hij] using hf
            | 4, _, hf =>
              have h2 : (2 : Nat) ≠ i := fun h => by subst h; revert hw; decide +kernel
              simpa [upd, h2] using hf
          · intro i hi o ho a W vs hBW hsl hpre K' hK
            obtain ⟨h1, h2, h3⟩ := hBW
            have e8 : a.tmps[8]?.getD undef = .pointer (some ⟨b1, 0, none⟩) := hsl 8 rfl
            have e9 : a.tmps[9]?.getD undef = .pointer (some ⟨b2, 0, none⟩) := hsl 9 rfl
            have x0 := h1.c0
            have x1 := h1.c1
            have y0 := h2.c0
            have y1 := h2.c1
            match i, hi, ho with
            | 0, _, ho =>
              cases ho
              go_simp
              exact hK.out _ _ (Below.refl _ _) rfl (fun h => absurd h (by decide))
            | 1, _, ho =>
              cases ho
              go_simp
              exact hK.out _ _ (Below.refl _ _) rfl (fun h => absurd h (by decide))
            | 2, _, ho =>
              cases ho
              go_simp
              refine hK.out _ _ (below_alloc (Below.refl _ _) _) ⟨W.heap.size, rfl, h2.lt, Bx1.new _ _⟩ (fun _ j hj hal hf he => ?_)
              match j, hj, hal, hf with
              | 2, _, _, ⟨b, q1, q2, q3⟩ => exact absurd (q1.symm.trans he.symm) (by have := q3.lt; simp <;> omega)
              | 3, _, _, ⟨b, q1, q2, q3⟩ => exact absurd (q1.symm.trans he.symm) (by have := q3.lt; simp <;> omega)
            | 3, _, ho =>
              cases ho
              go_simp
              refine hK.out _ _ (below_alloc (Below.refl _ _) _) ⟨W.heap.size, rfl, h2.lt, Bx1.new _ _⟩ (fun _ j hj hal hf he => ?_)
              match j, hj, hal, hf with
              | 2, _, _, ⟨b, q1, q2, q3⟩ => exact absurd (q1.symm.trans he.symm) (by have := q3.lt; simp <;> omega)
              | 3, _, _, ⟨b, q1, q2, q3⟩ => exact absurd (q1.symm.trans he.symm) (by have := q3.lt; simp <;> omega)
            | 4, _, ho =>
              cases ho
              obtain ⟨f0, g0⟩ := hpre 0 (by decide +kernel)
              obtain ⟨⟨b, f2, hb2, hbx⟩, g2⟩ := hpre 2 (by decide +kernel)
              have e38 : a.tmps[38]?.getD undef = .agg #[.int .i64 s1, .slice A1 k1 c1] := (g0 38 rfl).trans f0
              have e10 : a.tmps[10]?.getD undef = .pointer (some ⟨b, 0, none⟩) := (g2 10 rfl).trans f2
              have hbx' := hbx
              obtain ⟨s9, A9, k9, c9, n9, h9⟩ := hbx
              have z0 := h9.c0
              have z1 := h9.c1
              have z2 := h9.f0
              have z3 := h9.f1
              go_simp
              refine hK.out undef _ ⟨b, hb2, hbx', rfl⟩ ⟨b, f2, Nb.putSame h1.num h9⟩ (fun h => absurd h (by decide))
          · intro vs W hBW hf hne
            obtain ⟨h1, h2, h3⟩ := hBW
            have f0 : vs 0 = .agg #[.int .i64 s1, .slice A1 k1 c1] := hf 0 (by omega)
            have f1 : vs 1 = .agg #[.int .i64 s3, .slice A3 k3 c3] := hf 1 (by omega)
            obtain ⟨br, f2, h5, h6⟩ := hf 2 (by omega)
            obtain ⟨bs, f3, h7, h8⟩ := hf 3 (by omega)
            obtain ⟨br', f4, h9⟩ := hf 4 (by omega)
            have hrs : br ≠ bs := fun h => hne 2 3 (by omega) (by omega) (by omega) rfl rfl (by rw [f2, f3, h])
            obtain rfl : br' = br := by rw [f2] at f4; simpa using f4.symm
            obtain ⟨s9, A9, k9, c9, n9, h10⟩ := h8
            have z0 := h10.c0
            have z1 := h10.c1
            have z2 := h10.f0
            have z3 := h10.f1
            simp only [putAll, dstAt, List.getElem?_toArray, List.getElem?_cons_zero, List.getElem?_cons_succ, Option.bind_some, Act.put, List.setIfInBounds_toArray, List.set_cons_zero, List.set_cons_succ, f0, f1, f2, f3]
            have HA := Lib.hid h1
            have HB := Lib.hid h2
            have HC := Lib.hid h3
            have HD := Lib.hid h9
            have HE := Lib.hid h10
            have H5 := Lib.hid h5
            have H7 := Lib.hid h7
            have HRS := Lib.hid hrs
            clear h1 h2 h3 h9 h10 hf hne f0 f1 f2 f3 f4 h5 h6 h7 hrs
            go_wp2
            go_meet
            case rel =>
              exact ⟨_, _, rfl, rfl, Lib.hid ⟨H5.out, H7.out, HRS.out⟩, Lib.hid (HD.out.putOther HE.out HRS.out _ _ _ _), Lib.hid (Nb.putSame HB.out.num HE.out), Lib.hid (HA.out.putOther HE.out (by have := H7.out; omega) _ _ _ _), Lib.hid (HB.out.putOther HE.out (by have := H7.out; omega) _ _ _ _), Lib.hid (HC.out.putN (by have := H7.out; omega) _ _ _ _)⟩
        case rest =>
          obtain ⟨br, bs, rfl, rfl, HRS, HNR, HNS, HNX, HNY, HO4⟩ := hcut
          clear x0 x1 hs3
          go_wp2_with (first | (go_at_call 73; with_reducible refine (of_any 1 _ (by omega) (by omega)).mono ?_; rintro e w5 ⟨su, Au, ku, cu, rfl, hNu, hb5⟩) | (go_at_call 73; with_reducible refine (of_any 0 _ (by omega) (by omega)).mono ?_; rintro e w6 ⟨sv, Av, kv, cv, rfl, hNv, hb6⟩))
          have hbB : Below wc.heap.size wc ((w6.alloc (.cells #[.int .i64 su, .slice Au ku cu] 71)).alloc (.cells #[.int .i64 sv, .slice Av kv cv] 71)) := ((hb5.trans (hb6.mono hb5.size)).alloc (Nat.le_trans hb5.size hb6.size) _).alloc (by simp; exact Nat.le_succ_of_le (Nat.le_trans hb5.size hb6.size)) _
          have hNu' := Nb.new (hNu.below hb6) 71
          have hNv' := Nb.new (hNv.below (below_alloc (Below.refl _ _) (.cells #[.int .i64 su, .slice Au ku cu] 71))) 71
          rw [World.size_alloc] at hNv'
          obtain ⟨bu, hbu⟩ : ∃ b, w6.heap.size = b := ⟨_, rfl⟩
          have hord : br < bu ∧ bs < bu := by
            have h1 := HNR.out.lt
            have h2 := HNS.out.lt
            have h3 := Nat.le_trans hb5.size hb6.size
            omega
          refine wp_world (fun W => Hid (Bn W br n) ∧ Hid (Bn W bs m) ∧ Hid (Bn W b1 n) ∧ Hid (Bn W b2 m) ∧ Hid (Bn W bu 1) ∧ Hid (Bn W (bu + 1) 0) ∧ Hid (Own w (.int .i64 0) W)) ⟨Lib.hid (HNR.out.call hbB).bn, Lib.hid (HNS.out.call hbB).bn, Lib.hid (HNX.out.call hbB).bn, Lib.hid (HNY.out.call hbB).bn, Lib.hid ?_, Lib.hid ?_, Lib.hid (HO4.out.next hbB)⟩ ?_
          · rw [← hbu]; exact (hNu'.alloc _).bn
          · rw [← hbu]; exact hNv'.bn
          rw [hbu]
          clear hNu' hNv' hbB hNu hNv hb5 hb6 hbu HNR HNS HNX HNY HO4
          rintro W7 ⟨HR7, HS7, HX7, HY7, HU7, HV7, HO7⟩
          go_loopg [] m.natAbs (fun gk wr => ∃ r s u v, gk = s.natAbs ∧ Hid (Bn wr br r) ∧ Hid (Bn wr bs s) ∧ Hid (Bn wr b1 n) ∧ Hid (Bn wr b2 m) ∧ Hid (Bn wr bu u) ∧ Hid (Bn wr (bu + 1) v) ∧ Hid (Own w (.int .i64 0) wr) ∧ Hid (Mw.euB m r s u v) ∧ Hid (Mw.eu r s u v = Mw.eu n m 1 0) ∧ Hid (r.natAbs < 1000000000 ^ 45))
          case atStart => exact ⟨n, m, 1, 0, rfl, HR7, HS7, HX7, HY7, HU7, HV7, HO7, Lib.hid (euB_start HZ.out), Lib.hid rfl, HNL⟩
          case round =>
            clear HR7 HS7 HX7 HY7 HU7 HV7 HO7
            obtain ⟨r, s', u, v, rfl, HR8, HS8, HX8, HY8, HU8, HV8, HO8, HEB, HEU, HRL⟩ := hrel
            obtain ⟨ss, As, ks, cs, hS⟩ := HS8.out
            obtain ⟨sr, Ar, kr, cr, hR⟩ := HR8.out
            have hsz := sgn_zero hS.num.sign
            have s0 := hS.c0
            have s1_ := hS.c1
            have r0 := hR.c0
            have r1 := hR.c1
            by_cases hz : s' = 0
            · subst hz
              have hss : ss = 0 := hsz.mpr rfl
              subst hss
              clear hsz
              have hru := euB_uv HEB.out
              have hr0 : r ≠ 0 := (hru.2.2.2 rfl).1
              have hrl := (hru.2.2.2 rfl).2
              have hul := hru.1
              have hneg : (sr == -1) = decide (r < 0) := by
                rw [hR.num.sign]
                rcases sgn_cases r with ⟨e1, h1⟩ | ⟨e1, h1⟩ | ⟨e1, h1⟩ <;> rw [e1] <;> simp <;> omega
              have heu := HEU.out
              rw [Mw.eu_zero] at heu
              have HEU2 := Lib.hid heu.symm
              have HR0 := Lib.hid hr0
              have HRM := Lib.hid hrl
              have HUM := Lib.hid hul
              clear heu hr0 hrl hul hru HEU HEB HRL
              go_upto_if 62 with (first | (go_at_call 70; with_reducible refine (szero_any 0 _).mono ?_; rintro e w8 ⟨rfl, rfl⟩) | (go_at_call 78; with_reducible refine (sneg_any sr _).mono ?_; rintro e w8 ⟨rfl, rfl⟩))
              go_cut [] from 23 to 66 (fun wc => ∃ r1 u1, Hid (Mw.gcd3 n m = (r1, u1.fmod ((m.tdiv r1).natAbs : Int), (r1 - n * (u1.fmod ((m.tdiv r1).natAbs : Int))).tdiv m)) ∧ Hid (r1 ≠ 0 ∧ r1.natAbs ≤ m.natAbs ∧ u1.natAbs ≤ m.natAbs + 1) ∧ Hid (Bn wc br r1) ∧ Hid (Bn wc b1 n) ∧ Hid (Bn wc b2 m) ∧ Hid (Bn wc bu u1) ∧ Hid (Own w (.int .i64 0) wc))
              case first =>
                by_cases hn : r < 0
                · have hd : decide (r < 0) = true := decide_eq_true hn
                  have HG3 := Lib.hid (Mw.gcd3_neg HZ.out HEU2.out hn)
                  obtain ⟨su, Au, ku, cu, hU⟩ := HU8.out
                  clear hd hneg s0 s1_ hS
                  go_wp2_with fail
                  have hR2 := hR.drew
                  have hU2 := hU.drew
                  have HXD := Lib.hid (HX8.out.call (below_drew (Below.refl _ _) : Below w8.heap.size w8 w8.drew))
                  have HYD := Lib.hid (HY8.out.call (below_drew (Below.refl _ _) : Below w8.heap.size w8 w8.drew))
                  have HOD := Lib.hid (HO8.out.next (below_drew (Below.refl _ _) : Below w8.heap.size w8 w8.drew))
                  have hbr : w.heap.size < br ∧ b1 < br ∧ b2 < br ∧ br < bu := by have := HRS.out; omega
                  have HBR := Lib.hid hbr
                  clear r0 r1 hR hU HR8 HX8 HY8 HU8 HV8 HO8 HS8 hbr
                  have r0 := hR2.c0
                  have r1 := hR2.c1
                  have u0 := hU2.c0
                  have u1 := hU2.c1
                  refine wp_region_goT (fun w' => w'.cell? ⟨br, 0, none⟩ = some (.int .i64 sr) ∧ w'.cell? ⟨br, 1, none⟩ = some (.slice Ar kr cr) ∧ w'.cell? ⟨bu, 0, none⟩ = some (.int .i64 su) ∧ w'.cell? ⟨bu, 1, none⟩ = some (.slice Au ku cu)) 4 (by kernel_rfl) (by kernel_rfl) ⟨r0, r1, u0, u1⟩ (fun hHeld => ?_)
                  generalize w8.drew = WD at *
                  refine goT_take 0 (v := ?_) rfl (by decide +kernel) (fun _ _ _ h => bodyPostD_put (by decide +kernel) h) (Or.inl ⟨by rfl, ?_⟩) (by assumption) ?_
                  rotate_left
                  · (intro w_ hSw; (try dsimp only at hSw); go_simp; (try with_reducible rfl))
                  try simp only [Act.put, List.setIfInBounds_toArray, List.set_cons_zero, List.set_cons_succ]
                  refine goT_take 2 (v := ?_) rfl (by decide +kernel) (fun _ _ _ h => bodyPostD_put (by decide +kernel) h) (Or.inl ⟨by rfl, ?_⟩) (by assumption) ?_
                  rotate_left
                  · (intro w_ hSw; (try dsimp only at hSw); go_simp; (try with_reducible rfl))
                  try simp only [Act.put, List.setIfInBounds_toArray, List.set_cons_zero, List.set_cons_succ]
                  refine goT_step 1 rfl (by decide +kernel) (fun K_ hK => ?_)
                  go_simp
                  refine (opposite_any _ hR2.num).mono ?_
                  rintro e w12 ⟨rfl, hN6, hb12⟩
                  have hR12 := hR2.call hb12
                  have hU12 := hU2.call hb12
                  have HB12 := Lib.hid hb12
                  clear r0 r1 u0 u1 hb12
                  have r0 := hR12.c0
                  have r1 := hR12.c1
                  have u0 := hU12.c0
                  have u1 := hU12.c1
                  go_wp2_with fail
                  refine hK.out _ _ ⟨r0, r1, u0, u1⟩ (fun hHeld => ?_)
                  clear hK
                  try simp only [Act.put, List.setIfInBounds_toArray, List.set_cons_zero, List.set_cons_succ]
                  refine goT_step 3 rfl (by decide +kernel) (fun K_ hK => ?_)
                  go_simp
                  refine (opposite_any _ hU12.num).mono ?_
                  rintro e w13 ⟨rfl, hN7, hb13⟩
                  have hR13 := hR12.call hb13
                  have hU13 := hU12.call hb13
                  have hN6' := hN6.below hb13
                  have HWB := Lib.hid (HB12.out.trans (hb13.mono HB12.out.size))
                  clear r0 r1 u0 u1 hb13 hR2 hU2 hR12 hU12 hN6
                  have r0 := hR13.c0
                  have r1 := hR13.c1
                  have u0 := hU13.c0
                  have u1 := hU13.c1
                  have r2 := hR13.f0
                  have r3 := hR13.f1
                  go_wp2_with fail
                  refine hK.out _ _ ⟨r0, r1, u0, u1⟩ (fun hHeld => ?_)
                  clear hK
                  try simp only [Act.put, List.setIfInBounds_toArray, List.set_cons_zero, List.set_cons_succ]
                  refine goT_done (by decide +kernel) ?_
                  have hne : bu ≠ br := by have := HBR.out; omega
                  have hU14 := Nb.putOther hU13 hR13 hne (-sr) Ar kr cr
                  have v2 := hU14.f0
                  have v3 := hU14.f1
                  have v4 := hU14.c0
                  have v5 := hU14.c1
                  have HNE := Lib.hid hne
                  clear hne
                  go_wp2_with fail
                  have hbx1 : Bx1 w13 br := hR13.bx
                  have hbx2 : Bx1 (putN w13 br (-sr) Ar kr cr) bu := hU14.bx
                  have hbr := HBR.out
                  have HRP := Lib.hid ((Nb.putSame hN6' hR13).putB hbx2 (Ne.symm HNE.out) (-su) Au ku cu).bn
                  have HUP := Lib.hid (Nb.putSameB (Nb.numPutB hN7 hbx1 (-sr) Ar kr cr) hbx2).bn
                  have HXP := Lib.hid (((HXD.out.call HWB.out).putB hbx1 (by omega) (-sr) Ar kr cr).putB hbx2 (by omega) (-su) Au ku cu)
                  have HYP := Lib.hid (((HYD.out.call HWB.out).putB hbx1 (by omega) (-sr) Ar kr cr).putB hbx2 (by omega) (-su) Au ku cu)
                  have HOP := Lib.hid (((HOD.out.next HWB.out).putN (b := br) (by omega) (-sr) Ar kr cr).putN (b := bu) (by omega) (-su) Au ku cu)
                  clear hbx1 hbx2 hU14 hU13 hR13 hN6' hN7 r0 r1 u0 u1 r2 r3 v2 v3 v4 v5 hHeld hbr
                  go_meet
                  case rel => exact ⟨-r, -u, HG3, Lib.hid ⟨Int.neg_ne_zero.mpr HR0.out, by rw [Int.natAbs_neg]; exact HRM.out, by rw [Int.natAbs_neg]; exact HUM.out⟩, HRP, HXP, HYP, HUP, HOP⟩
                · have hd : decide (r < 0) = false := decide_eq_false hn
                  have HG3 := Lib.hid (Mw.gcd3_pos HZ.out HEU2.out hn)
                  have hn2 : 0 ≤ r := by omega
                  clear hd hneg
                  go_wp2_with fail
                  go_meet
                  case rel => exact ⟨r, u, HG3, Lib.hid ⟨HR0.out, HRM.out, HUM.out⟩, HR8, HX8, HY8, HU8, HO8⟩
              case rest =>
                clear HR8 HX8 HY8 HU8 HV8 HO8 HS8 hR hS s0 s1_ r0 r1 hneg
                obtain ⟨r1, u1, HG3, HBD, HR9, HX9, HY9, HU9, HO9⟩ := hcut
                obtain ⟨sr1, Ar1, kr1, cr1, hR⟩ := HR9.out
                obtain ⟨sm, Am, km, cm, hM⟩ := HY9.out
                have HLM : Hid (Lt9 45 m) := Lib.hid HML.out
                have HLN : Hid (Lt9 45 n) := Lib.hid HNL.out
                have HLR : Hid (Lt9 45 r1) := Lib.hid (HLM.out.mono HBD.out.2.1)
                have HLU : Hid (Lt9 46 u1) := Lib.hid (HLM.out.succ HBD.out.2.2)
                have HLS : Hid (Lt9 45 ((m.tdiv r1).natAbs : Int)) := Lib.hid (HLM.out.tdiv.mono (by rw [Int.natAbs_natCast]; exact Nat.le_refl _))
                have HNZ : Hid (((m.tdiv r1).natAbs : Int) ≠ 0) := Lib.hid (by have := tdiv_ne HBD.out.1 HBD.out.2.1; omega)
                have hkr : kr1 ≤ 45 := HLR.out.kle hR.num
                have hkm : km ≤ 45 := HLM.out.kle hM.num
                have m0 := hM.c0
                have m1 := hM.c1
                have r0 := hR.c0
                have r1_ := hR.c1
                go_wp2_with (first | (go_at_call 80; with_reducible refine (quo_any _ hM.num hR.num HBD.out.1 (by omega) (by omega)).mono ?_; rintro e w9 ⟨s4, A4, k4, c4, s5, A5, k5, c5, rfl, hN4, hN5, hb9⟩; refine Hid.out ?_))
                have hwB : Below wc.heap.size wc ((w9.alloc (.cells #[.int .i64 s4, .slice A4 k4 c4] 71)).alloc (.cells #[.int .i64 s5, .slice A5 k5 c5] 71)) := (hb9.alloc hb9.size _).alloc (by simp; exact Nat.le_succ_of_le hb9.size) _
                have hQ' := (Nb.new hN4 71).alloc (.cells #[.int .i64 s5, .slice A5 k5 c5] 71)
                have hq1 : b1 < w9.heap.size ∧ b2 < w9.heap.size ∧ br < w9.heap.size ∧ bu < w9.heap.size := by
                  have h1 := hb9.size
                  have h2 := HR9.out.lt
                  have h3 := HU9.out.lt
                  have h4 := HX9.out.lt
                  have h5 := HY9.out.lt
                  omega
                refine Lib.hid ?_
                go_wp2_with fail
                obtain ⟨bst, hbst⟩ : ∃ b, w9.heap.size = b := ⟨_, rfl⟩
                rw [hbst] at hQ' hq1 ⊢
                refine wp_world (fun W => Hid (Bn W br r1) ∧ Hid (Bn W b1 n) ∧ Hid (Bn W b2 m) ∧ Hid (Bn W bu u1) ∧ Hid (Own w (.int .i64 0) W) ∧ Hid (Bn W bst (m.tdiv r1)))
                  ⟨Lib.hid (HR9.out.call hwB), Lib.hid (HX9.out.call hwB), Lib.hid (HY9.out.call hwB), Lib.hid (HU9.out.call hwB), Lib.hid (HO9.out.next hwB), Lib.hid hQ'.bn⟩ ?_
                clear hQ' hwB hN4 hN5 hb9 hR hM m0 m1 r0 r1_ HR9 HX9 HY9 HU9 HO9 hbst
                rintro Wa ⟨HRa, HXa, HYa, HUa, HOa, HSa⟩
                refine wp_region_ev1 [Ev.nv (u1), Ev.nv (m.tdiv r1), Ev.nv ((m.tdiv r1).natAbs : Int), Ev.nt (u1.fdiv ((m.tdiv r1).natAbs : Int)) (u1.fmod ((m.tdiv r1).natAbs : Int)), Ev.nt (u1.fdiv ((m.tdiv r1).natAbs : Int)) (u1.fmod ((m.tdiv r1).natAbs : Int)), Ev.nv (u1.fdiv ((m.tdiv r1).natAbs : Int)), Ev.nv (u1.fmod ((m.tdiv r1).natAbs : Int)), Ev.pn (bst + 1), Ev.pn (bst + 1)] (fun i => i == 7 || i == 8) (bst + 1) 9 7 96 (u1.fdiv ((m.tdiv r1).natAbs : Int)) rfl rfl (fun W => Bn W br (r1) ∧ Bn W b1 (n) ∧ Bn W b2 (m) ∧ Bn W bu (u1) ∧ Bn W bst (m.tdiv r1) ∧ Own w (.int .i64 0) W)
                  (fun i _ ha => by rcases (show i = 7 ∨ i = 8 by simpa using ha) with rfl | rfl <;> rfl) rfl (by omega) (by decide +kernel) (by kernel_rfl) (by decide +kernel) ⟨HRa.out.call (below_drew (Below.refl _ _)), HXa.out.call (below_drew (Below.refl _ _)), HYa.out.call (below_drew (Below.refl _ _)), HUa.out.call (below_drew (Below.refl _ _)), HSa.out.call (below_drew (Below.refl _ _)), HOa.out.next (below_drew (Below.refl _ _))⟩ (fun W W' ⟨q0_, q1_, q2_, q3_, q4_, qo_⟩ hb_ => ⟨q0_.call hb_, q1_.call hb_, q2_.call hb_, q3_.call hb_, q4_.call hb_, qo_.next hb_⟩) (fun W b_ s_ A_ k_ c_ ⟨q0_, q1_, q2_, q3_, q4_, qo_⟩ hlo_ hx_ hN_ => ⟨q0_.putB hx_ (by omega) _ _ _ _, q1_.putB hx_ (by omega) _ _ _ _, q2_.putB hx_ (by omega) _ _ _ _, q3_.putB hx_ (by omega) _ _ _ _, q4_.putB hx_ (by omega) _ _ _ _, qo_.putN (by omega) _ _ _ _⟩) ?_ ?_ ?_
                · intro i hi_ o_ ho_ a_ W_ vs_ hBW_ hsl_ hpre_ K_ hK_
                  obtain ⟨q0_, q1_, q2_, q3_, q4_, qo_⟩ := hBW_
                  have e12 : a_.tmps[12]?.getD undef = .pointer (some ⟨bu, 0, none⟩) := hsl_ 12 rfl
                  have e16 : a_.tmps[16]?.getD undef = .pointer (some ⟨bst, 0, none⟩) := hsl_ 16 rfl
                  match i, hi_, ho_ with
                  | 0, _, ho_ =>
                    cases ho_
                    obtain ⟨sx, Ax, kx, cx, hx⟩ := q3_
                    have x0 := hx.c0
                    have x1 := hx.c1
                    go_simp
                    exact hK_.out _ _ (Below.refl _ _) ⟨sx, Ax, kx, cx, rfl, hx.num⟩ (fun h => absurd h (by decide))
                  | 1, _, ho_ =>
                    cases ho_
                    obtain ⟨sx, Ax, kx, cx, hx⟩ := q4_
                    have x0 := hx.c0
                    have x1 := hx.c1
                    go_simp
                    exact hK_.out _ _ (Below.refl _ _) ⟨sx, Ax, kx, cx, rfl, hx.num⟩ (fun h => absurd h (by decide))
                  | 2, _, ho_ =>
                    cases ho_
                    obtain ⟨⟨sx0, Ax0, kx0, cx0, xx0, hx0⟩, gx0⟩ := hpre_ 1 (by omega) (by decide +kernel)
                    have ex0 : a_.tmps[75]?.getD undef = .agg #[.int .i64 sx0, .slice Ax0 kx0 cx0] := (gx0 75 rfl).trans xx0
                    go_simp
                    refine (abs_any _ hx0).mono ?_
                    rintro e_ w_ ⟨rfl, hN_, hb_⟩
                    try go_wp2_with fail
                    exact hK_.out _ _ hb_ ⟨_, _, _, _, rfl, hN_⟩ (fun h => absurd h (by decide))
                  | 3, _, ho_ =>
                    cases ho_
                    obtain ⟨⟨sx0, Ax0, kx0, cx0, xx0, hx0⟩, gx0⟩ := hpre_ 0 (by omega) (by decide +kernel)
                    have ex0 : a_.tmps[74]?.getD undef = .agg #[.int .i64 sx0, .slice Ax0 kx0 cx0] := (gx0 74 rfl).trans xx0
                    obtain ⟨⟨sx1, Ax1, kx1, cx1, xx1, hx1⟩, gx1⟩ := hpre_ 2 (by omega) (by decide +kernel)
                    have ex1 : a_.tmps[76]?.getD undef = .agg #[.int .i64 sx1, .slice Ax1 kx1 cx1] := (gx1 76 rfl).trans xx1
                    have hk0 := Lt9.kle HLU.out hx0
                    have hk1 := Lt9.kle HLS.out hx1
                    go_simp
                    refine (floor_any _ hx0 hx1 HNZ.out (by omega) (by omega)).mono ?_
                    rintro e_ w_ ⟨s4_, A4_, k4_, c4_, s5_, A5_, k5_, c5_, rfl, hN_, hM_, hb_⟩
                    try go_wp2_with fail
                    exact hK_.out _ _ hb_ ⟨_, _, _, _, _, _, _, _, rfl, hN_, hM_⟩ (fun h => absurd h (by decide))
                  | 4, _, ho_ =>
                    cases ho_
                    obtain ⟨⟨sx, Ax, kx, cx, sx', Ax', kx', cx', xx, hx, hx'⟩, gx⟩ := hpre_ 3 (by omega) (by decide +kernel)
                    have ex : a_.tmps[77]?.getD undef = .tuple #[.agg #[.int .i64 sx, .slice Ax kx cx], .agg #[.int .i64 sx', .slice Ax' kx' cx']] := (gx 77 rfl).trans xx
                    go_simp
                    exact hK_.out _ _ (Below.refl _ _) ⟨_, _, _, _, _, _, _, _, rfl, hx, hx'⟩ (fun h => absurd h (by decide))
                  | 5, _, ho_ =>
                    cases ho_
                    obtain ⟨⟨sx, Ax, kx, cx, sx', Ax', kx', cx', xx, hx, hx'⟩, gx⟩ := hpre_ 4 (by omega) (by decide +kernel)
                    have ex : a_.tmps[73]?.getD undef = .tuple #[.agg #[.int .i64 sx, .slice Ax kx cx], .agg #[.int .i64 sx', .slice Ax' kx' cx']] := (gx 73 rfl).trans xx
                    go_simp
                    exact hK_.out _ _ (Below.refl _ _) ⟨_, _, _, _, rfl, hx⟩ (fun h => absurd h (by decide))
                  | 6, _, ho_ =>
                    cases ho_
                    obtain ⟨⟨sx, Ax, kx, cx, sx', Ax', kx', cx', xx, hx, hx'⟩, gx⟩ := hpre_ 4 (by omega) (by decide +kernel)
                    have ex : a_.tmps[73]?.getD undef = .tuple #[.agg #[.int .i64 sx, .slice Ax kx cx], .agg #[.int .i64 sx', .slice Ax' kx' cx']] := (gx 73 rfl).trans xx
                    go_simp
                    exact hK_.out _ _ (Below.refl _ _) ⟨_, _, _, _, rfl, hx'⟩ (fun h => absurd h (by decide))
                  | 7, _, ho_ =>
                    cases ho_
                    go_simp
                    exact hK_.out _ _ (below_alloc (Below.refl _ _) _) ⟨W_.heap.size, rfl, q4_.lt, Bx1.new _ _, Sz2.new _ _ _ _⟩ (fun _ => ⟨W_.heap.size, rfl, Nat.le_refl _⟩)
                  | 8, _, ho_ =>
                    cases ho_
                    go_simp
                    exact hK_.out _ _ (below_alloc (Below.refl _ _) _) ⟨W_.heap.size, rfl, q4_.lt, Bx1.new _ _, Sz2.new _ _ _ _⟩ (fun _ => ⟨W_.heap.size, rfl, Nat.le_refl _⟩)
                · intro o_ ho_ a_ W_ vs_ hBW_ hpre_ K_ hK_
                  cases ho_
                  obtain ⟨⟨sx, Ax, kx, cx, xx, hx⟩, gx⟩ := hpre_ 5 (by omega) (by decide +kernel)
                  have ex : a_.tmps[78]?.getD undef = .agg #[.int .i64 sx, .slice Ax kx cx] := (gx 78 rfl).trans xx
                  obtain ⟨⟨b_, y_, hlo_, hbx_, hsz_⟩, gy_⟩ := hpre_ 7 (by omega) (by decide +kernel)
                  have ey_ : a_.tmps[18]?.getD undef = .pointer (some ⟨b_, 0, none⟩) := (gy_ 18 rfl).trans y_
                  have hbx2_ := hbx_
                  obtain ⟨s9, A9, k9, c9, n9, h9⟩ := hbx_
                  have z0 := h9.c0
                  have z1 := h9.c1
                  have z2 := h9.f0
                  have z3 := h9.f1
                  go_simp
                  exact hK_.out undef b_ _ _ _ _ y_ hlo_ hbx2_ hsz_ hx
                · intro vs_ W_ hBW_ hf_ hst_ hne_
                  obtain ⟨q0_, q1_, q2_, q3_, q4_, qo_⟩ := hBW_
                  obtain ⟨bp_, ep_, hbn_⟩ := hst_
                  obtain ⟨bp2_, ep2_, hlop_, _, _⟩ := hf_ 7 (by omega)
                  obtain rfl : bp2_ = bp_ := by rw [ep_] at ep2_; simpa using ep2_.symm
                  obtain ⟨bo_, eo_, hlo_, hxo_, _⟩ := hf_ 8 (by omega)
                  have hpo_ : bp2_ ≠ bo_ := fun h => hne_ 7 8 (by omega) (by omega) (by omega) rfl rfl (by rw [ep_, eo_, h])
                  obtain ⟨sl_, Al_, kl_, cl_, el_, hl_⟩ := hf_ 6 (by omega)
                  have hxo2_ := hxo_
                  obtain ⟨s9, A9, k9, c9, n9, h10⟩ := hxo2_
                  have z0 := h10.c0
                  have z1 := h10.c1
                  have z2 := h10.f0
                  have z3 := h10.f1
                  simp only [putAll, dstAt, List.getElem?_toArray, List.getElem?_cons_zero, List.getElem?_cons_succ, Option.bind_some, Act.put, List.setIfInBounds_toArray, List.set_cons_zero, List.set_cons_succ, ep_, eo_, el_]
                  have HA0 := Lib.hid (q0_.putB hxo_ (by omega) sl_ Al_ kl_ cl_)
                  have HA1 := Lib.hid (q1_.putB hxo_ (by omega) sl_ Al_ kl_ cl_)
                  have HA2 := Lib.hid (q2_.putB hxo_ (by omega) sl_ Al_ kl_ cl_)
                  have HA3 := Lib.hid (q3_.putB hxo_ (by omega) sl_ Al_ kl_ cl_)
                  have HA4 := Lib.hid (q4_.putB hxo_ (by omega) sl_ Al_ kl_ cl_)
                  have HAO := Lib.hid (qo_.putN (b := bo_) (by omega) sl_ Al_ kl_ cl_)
                  have HAP := Lib.hid (hbn_.putB hxo_ hpo_ sl_ Al_ kl_ cl_)
                  have HAN := Lib.hid (Nb.putSameB hl_ hxo_).bn
                  have HAL := Lib.hid (show bst + 1 ≤ bo_ ∧ bst + 1 ≤ bp2_ ∧ bp2_ ≠ bo_ from ⟨hlo_, hlop_, hpo_⟩)
                  clear q0_ q1_ q2_ q3_ q4_ qo_ hf_ hne_ hl_ hxo_ h10 el_ eo_ hlo_ ep_ hbn_ hlop_ hpo_
                  go_wp2_with fail
                  clear z0 z1 z2 z3
                  obtain ⟨blow, hblow⟩ : ∃ b, b = bo_ := ⟨_, rfl⟩
                  subst hblow
                  obtain ⟨low, hlow⟩ : ∃ x, u1.fmod ((m.tdiv r1).natAbs : Int) = x := ⟨_, rfl⟩
                  obtain ⟨oth, hoth⟩ : ∃ x, (r1 - n * low).tdiv m = x := ⟨_, rfl⟩
                  have HLL : Hid (Lt9 45 low) := Lib.hid (by rw [← hlow]; exact Lt9.fmod HLS.out HNZ.out)
                  have HLO : Hid (Lt9 91 (r1 - n * low)) := Lib.hid (Lt9.sub (HLR.out.up (by omega)) (HLN.out.mul HLL.out))
                  have HGG : Hid (Mw.gcd3 n m = (r1, low, oth)) := Lib.hid (by rw [HG3.out, hlow, hoth])
                  rw [hlow] at HAN
                  have hlt : b1 < blow + 1 ∧ b2 < blow + 1 ∧ br < blow + 1 := by have := HAL.out; omega
                  refine wp_world (fun W => Hid (Bn W br r1) ∧ Hid (Bn W b1 n) ∧ Hid (Bn W b2 m) ∧ Hid (Own w (.int .i64 0) W) ∧ Hid (Bn W blow low)) ⟨HA0, HA1, HA2, HAO, HAN⟩ ?_
                  clear HA0 HA1 HA2 HA3 HA4 HAO HAN HAP HRa HXa HYa HUa HOa HSa
                  have HOTH := Lib.hid hoth
                  clear hlow hoth
                  rintro Wb ⟨HRb, HXb, HYb, HOb, HLb⟩
                  refine wp_region_ev1 [Ev.nv (r1), Ev.nv (n), Ev.nv (low), Ev.nv (n * low), Ev.nv (r1 - n * low), Ev.nv (m), Ev.nt ((r1 - n * low).tdiv m) ((r1 - n * low).tmod m), Ev.nt ((r1 - n * low).tdiv m) ((r1 - n * low).tmod m), Ev.nv ((r1 - n * low).tdiv m), Ev.nv ((r1 - n * low).tmod m), Ev.pn (blow + 1), Ev.pn (blow + 1)] (fun i => i == 10 || i == 11) (blow + 1) 12 10 96 ((r1 - n * low).tdiv m) rfl rfl (fun W => Bn W br (r1) ∧ Bn W b1 (n) ∧ Bn W b2 (m) ∧ Bn W blow (low) ∧ Own w (.int .i64 0) W)
                    (fun i _ ha => by rcases (show i = 10 ∨ i = 11 by simpa using ha) with rfl | rfl <;> rfl) rfl (by omega) (by decide +kernel) (by kernel_rfl) (by decide +kernel) ⟨HRb.out.call (below_drew (Below.refl _ _)), HXb.out.call (below_drew (Below.refl _ _)), HYb.out.call (below_drew (Below.refl _ _)), HLb.out.call (below_drew (Below.refl _ _)), HOb.out.next (below_drew (Below.refl _ _))⟩ (fun W W' ⟨q0_, q1_, q2_, q3_, qo_⟩ hb_ => ⟨q0_.call hb_, q1_.call hb_, q2_.call hb_, q3_.call hb_, qo_.next hb_⟩) (fun W b_ s_ A_ k_ c_ ⟨q0_, q1_, q2_, q3_, qo_⟩ hlo_ hx_ hN_ => ⟨q0_.putB hx_ (by omega) _ _ _ _, q1_.putB hx_ (by omega) _ _ _ _, q2_.putB hx_ (by omega) _ _ _ _, q3_.putB hx_ (by omega) _ _ _ _, qo_.putN (by omega) _ _ _ _⟩) ?_ ?_ ?_
                  · intro i hi_ o_ ho_ a_ W_ vs_ hBW_ hsl_ hpre_ K_ hK_
                    obtain ⟨q0_, q1_, q2_, q3_, qo_⟩ := hBW_
                    have e8 : a_.tmps[8]?.getD undef = .pointer (some ⟨b1, 0, none⟩) := hsl_ 8 rfl
                    have e9 : a_.tmps[9]?.getD undef = .pointer (some ⟨b2, 0, none⟩) := hsl_ 9 rfl
                    have e10 : a_.tmps[10]?.getD undef = .pointer (some ⟨br, 0, none⟩) := hsl_ 10 rfl
                    have e19 : a_.tmps[19]?.getD undef = .pointer (some ⟨blow, 0, none⟩) := hsl_ 19 rfl
                    match i, hi_, ho_ with
                    | 0, _, ho_ =>
                      cases ho_
                      obtain ⟨sx, Ax, kx, cx, hx⟩ := q0_
                      have x0 := hx.c0
                      have x1 := hx.c1
                      go_simp
                      exact hK_.out _ _ (Below.refl _ _) ⟨sx, Ax, kx, cx, rfl, hx.num⟩ (fun h => absurd h (by decide))
                    | 1, _, ho_ =>
                      cases ho_
                      obtain ⟨sx, Ax, kx, cx, hx⟩ := q1_
                      have x0 := hx.c0
                      have x1 := hx.c1
                      go_simp
                      exact hK_.out _ _ (Below.refl _ _) ⟨sx, Ax, kx, cx, rfl, hx.num⟩ (fun h => absurd h (by decide))
                    | 2, _, ho_ =>
                      cases ho_
                      obtain ⟨sx, Ax, kx, cx, hx⟩ := q3_
                      have x0 := hx.c0
                      have x1 := hx.c1
                      go_simp
                      exact hK_.out _ _ (Below.refl _ _) ⟨sx, Ax, kx, cx, rfl, hx.num⟩ (fun h => absurd h (by decide))
                    | 3, _, ho_ =>
                      cases ho_
                      obtain ⟨⟨sx0, Ax0, kx0, cx0, xx0, hx0⟩, gx0⟩ := hpre_ 1 (by omega) (by decide +kernel)
                      have ex0 : a_.tmps[82]?.getD undef = .agg #[.int .i64 sx0, .slice Ax0 kx0 cx0] := (gx0 82 rfl).trans xx0
                      obtain ⟨⟨sx1, Ax1, kx1, cx1, xx1, hx1⟩, gx1⟩ := hpre_ 2 (by omega) (by decide +kernel)
                      have ex1 : a_.tmps[83]?.getD undef = .agg #[.int .i64 sx1, .slice Ax1 kx1 cx1] := (gx1 83 rfl).trans xx1
                      have hk0 := Lt9.kle HLN.out hx0
                      have hk1 := Lt9.kle HLL.out hx1
                      go_simp
                      refine (mul_any _ hx0 hx1 (by omega) (by omega)).mono ?_
                      rintro e_ w_ ⟨s4_, A4_, k4_, c4_, rfl, hN_, hb_⟩
                      try go_wp2_with fail
                      exact hK_.out _ _ hb_ ⟨_, _, _, _, rfl, hN_⟩ (fun h => absurd h (by decide))
                    | 4, _, ho_ =>
                      cases ho_
                      obtain ⟨⟨sx0, Ax0, kx0, cx0, xx0, hx0⟩, gx0⟩ := hpre_ 0 (by omega) (by decide +kernel)
                      have ex0 : a_.tmps[81]?.getD undef = .agg #[.int .i64 sx0, .slice Ax0 kx0 cx0] := (gx0 81 rfl).trans xx0
                      obtain ⟨⟨sx1, Ax1, kx1, cx1, xx1, hx1⟩, gx1⟩ := hpre_ 3 (by omega) (by decide +kernel)
                      have ex1 : a_.tmps[84]?.getD undef = .agg #[.int .i64 sx1, .slice Ax1 kx1 cx1] := (gx1 84 rfl).trans xx1
                      have hk0 := Lt9.kle HLR.out hx0
                      have hk1 := Lt9.kle (HLN.out.mul HLL.out) hx1
                      go_simp
                      refine (sub_any _ hx0 hx1 (by omega) (by omega)).mono ?_
                      rintro e_ w_ ⟨s4_, A4_, k4_, c4_, rfl, hN_, hb_⟩
                      try go_wp2_with fail
                      exact hK_.out _ _ hb_ ⟨_, _, _, _, rfl, hN_⟩ (fun h => absurd h (by decide))
                    | 5, _, ho_ =>
                      cases ho_
                      obtain ⟨sx, Ax, kx, cx, hx⟩ := q2_
                      have x0 := hx.c0
                      have x1 := hx.c1
                      go_simp
                      exact hK_.out _ _ (Below.refl _ _) ⟨sx, Ax, kx, cx, rfl, hx.num⟩ (fun h => absurd h (by decide))
                    | 6, _, ho_ =>
                      cases ho_
                      obtain ⟨⟨sx0, Ax0, kx0, cx0, xx0, hx0⟩, gx0⟩ := hpre_ 4 (by omega) (by decide +kernel)
                      have ex0 : a_.tmps[85]?.getD undef = .agg #[.int .i64 sx0, .slice Ax0 kx0 cx0] := (gx0 85 rfl).trans xx0
                      obtain ⟨⟨sx1, Ax1, kx1, cx1, xx1, hx1⟩, gx1⟩ := hpre_ 5 (by omega) (by decide +kernel)
                      have ex1 : a_.tmps[86]?.getD undef = .agg #[.int .i64 sx1, .slice Ax1 kx1 cx1] := (gx1 86 rfl).trans xx1
                      have hk0 := Lt9.kle HLO.out hx0
                      have hk1 := Lt9.kle HLM.out hx1
                      go_simp
                      refine (quo_any _ hx0 hx1 HZ.out (by omega) (by omega)).mono ?_
                      rintro e_ w_ ⟨s4_, A4_, k4_, c4_, s5_, A5_, k5_, c5_, rfl, hN_, hM_, hb_⟩
                      try go_wp2_with fail
                      exact hK_.out _ _ hb_ ⟨_, _, _, _, _, _, _, _, rfl, hN_, hM_⟩ (fun h => absurd h (by decide))
                    | 7, _, ho_ =>
                      cases ho_
                      obtain ⟨⟨sx, Ax, kx, cx, sx', Ax', kx', cx', xx, hx, hx'⟩, gx⟩ := hpre_ 6 (by omega) (by decide +kernel)
                      have ex : a_.tmps[87]?.getD undef = .tuple #[.agg #[.int .i64 sx, .slice Ax kx cx], .agg #[.int .i64 sx', .slice Ax' kx' cx']] := (gx 87 rfl).trans xx
                      go_simp
                      exact hK_.out _ _ (Below.refl _ _) ⟨_, _, _, _, _, _, _, _, rfl, hx, hx'⟩ (fun h => absurd h (by decide))
                    | 8, _, ho_ =>
                      cases ho_
                      obtain ⟨⟨sx, Ax, kx, cx, sx', Ax', kx', cx', xx, hx, hx'⟩, gx⟩ := hpre_ 7 (by omega) (by decide +kernel)
                      have ex : a_.tmps[80]?.getD undef = .tuple #[.agg #[.int .i64 sx, .slice Ax kx cx], .agg #[.int .i64 sx', .slice Ax' kx' cx']] := (gx 80 rfl).trans xx
                      go_simp
                      exact hK_.out _ _ (Below.refl _ _) ⟨_, _, _, _, rfl, hx⟩ (fun h => absurd h (by decide))
                    | 9, _, ho_ =>
                      cases ho_
                      obtain ⟨⟨sx, Ax, kx, cx, sx', Ax', kx', cx', xx, hx, hx'⟩, gx⟩ := hpre_ 7 (by omega) (by decide +kernel)
                      have ex : a_.tmps[80]?.getD undef = .tuple #[.agg #[.int .i64 sx, .slice Ax kx cx], .agg #[.int .i64 sx', .slice Ax' kx' cx']] := (gx 80 rfl).trans xx
                      go_simp
                      exact hK_.out _ _ (Below.refl _ _) ⟨_, _, _, _, rfl, hx'⟩ (fun h => absurd h (by decide))
                    | 10, _, ho_ =>
                      cases ho_
                      go_simp
                      exact hK_.out _ _ (below_alloc (Below.refl _ _) _) ⟨W_.heap.size, rfl, q3_.lt, Bx1.new _ _, Sz2.new _ _ _ _⟩ (fun _ => ⟨W_.heap.size, rfl, Nat.le_refl _⟩)
                    | 11, _, ho_ =>
                      cases ho_
                      go_simp
                      exact hK_.out _ _ (below_alloc (Below.refl _ _) _) ⟨W_.heap.size, rfl, q3_.lt, Bx1.new _ _, Sz2.new _ _ _ _⟩ (fun _ => ⟨W_.heap.size, rfl, Nat.le_refl _⟩)
                  · intro o_ ho_ a_ W_ vs_ hBW_ hpre_ K_ hK_
                    cases ho_
                    obtain ⟨⟨sx, Ax, kx, cx, xx, hx⟩, gx⟩ := hpre_ 8 (by omega) (by decide +kernel)
                    have ex : a_.tmps[88]?.getD undef = .agg #[.int .i64 sx, .slice Ax kx cx] := (gx 88 rfl).trans xx
                    obtain ⟨⟨b_, y_, hlo_, hbx_, hsz_⟩, gy_⟩ := hpre_ 10 (by omega) (by decide +kernel)
                    have ey_ : a_.tmps[20]?.getD undef = .pointer (some ⟨b_, 0, none⟩) := (gy_ 20 rfl).trans y_
                    have hbx2_ := hbx_
                    obtain ⟨s9, A9, k9, c9, n9, h9⟩ := hbx_
                    have z0 := h9.c0
                    have z1 := h9.c1
                    have z2 := h9.f0
                    have z3 := h9.f1
                    go_simp
                    exact hK_.out undef b_ _ _ _ _ y_ hlo_ hbx2_ hsz_ hx
                  · intro vs_ W_ hBW_ hf_ hst_ hne_
                    obtain ⟨q0_, q1_, q2_, q3_, qo_⟩ := hBW_
                    obtain ⟨bp_, ep_, hbn_⟩ := hst_
                    obtain ⟨bp2_, ep2_, hlop_, _, _⟩ := hf_ 10 (by omega)
                    obtain rfl : bp2_ = bp_ := by rw [ep_] at ep2_; simpa using ep2_.symm
                    obtain ⟨bo_, eo_, hlo_, hxo_, _⟩ := hf_ 11 (by omega)
                    have hpo_ : bp2_ ≠ bo_ := fun h => hne_ 10 11 (by omega) (by omega) (by omega) rfl rfl (by rw [ep_, eo_, h])
                    obtain ⟨sl_, Al_, kl_, cl_, el_, hl_⟩ := hf_ 9 (by omega)
                    have hxo2_ := hxo_
                    obtain ⟨s9, A9, k9, c9, n9, h10⟩ := hxo2_
                    have z0 := h10.c0
                    have z1 := h10.c1
                    have z2 := h10.f0
                    have z3 := h10.f1
                    simp only [putAll, dstAt, List.getElem?_toArray, List.getElem?_cons_zero, List.getElem?_cons_succ, Option.bind_some, Act.put, List.setIfInBounds_toArray, List.set_cons_zero, List.set_cons_succ, ep_, eo_, el_]
                    have HB0 := Lib.hid (q0_.putB hxo_ (by omega) sl_ Al_ kl_ cl_)
                    have HB1 := Lib.hid (q1_.putB hxo_ (by omega) sl_ Al_ kl_ cl_)
                    have HB2 := Lib.hid (q2_.putB hxo_ (by omega) sl_ Al_ kl_ cl_)
                    have HB3 := Lib.hid (q3_.putB hxo_ (by omega) sl_ Al_ kl_ cl_)
                    have HBO := Lib.hid (qo_.putN (b := bo_) (by omega) sl_ Al_ kl_ cl_)
                    have HBP := Lib.hid (hbn_.putB hxo_ hpo_ sl_ Al_ kl_ cl_)
                    have HBN := Lib.hid (Nb.putSameB hl_ hxo_).bn
                    have HBL := Lib.hid (show blow + 1 ≤ bo_ ∧ blow + 1 ≤ bp2_ ∧ bp2_ ≠ bo_ from ⟨hlo_, hlop_, hpo_⟩)
                    clear q0_ q1_ q2_ q3_ qo_ hf_ hne_ hl_ hxo_ h10 el_ eo_ hlo_ ep_ hbn_ hlop_ hpo_
                    go_wp2_with fail
                    clear z0 z1 z2 z3
                    rw [HOTH.out] at HBP
                    refine wp_world (fun W => Hid (Bn W br r1) ∧ Hid (Own w (.int .i64 0) W) ∧ Hid (Bn W blow low) ∧ Hid (Bn W bp2_ oth)) ⟨HB0, HBO, HB3, HBP⟩ ?_
                    clear HB0 HB1 HB2 HB3 HBO HBN HBP HRb HXb HYb HOb HLb
                    rintro Wc ⟨HRc, HOc, HLc, HPc⟩
                    obtain ⟨sr2, Ar2, kr2, cr2, hR⟩ := HRc.out
                    obtain ⟨sl, Al, kl, cl, hL⟩ := HLc.out
                    obtain ⟨so, Ao, ko, co, hO⟩ := HPc.out
                    have hk1 : kr2 ≤ 45 := HLR.out.kle hR.num
                    have hk2 : kl ≤ 45 := HLL.out.kle hL.num
                    have hk3 : ko ≤ 91 := Lt9.kle (by rw [← HOTH.out]; exact HLO.out.tdiv) hO.num
                    have hR := hR.drew
                    have hL := hL.drew
                    have hO := hO.drew
                    have HOD := Lib.hid (HOc.out.next (below_drew (Below.refl _ _) : Below Wc.heap.size Wc Wc.drew))
                    have hT := HT.out _ HOD.out.below
                    have hr := HR.out
                    rw [HGG.out, Mw.give3] at hr
                    dsimp only at hr
                    have r0 := hR.c0
                    have r1_ := hR.c1
                    have l0 := hL.c0
                    have l1 := hL.c1
                    have o0 := hO.c0
                    have o1 := hO.c1
                    refine wp_region_goT (fun w' => w'.cell? ⟨br, 0, none⟩ = some (.int .i64 sr2) ∧ w'.cell? ⟨br, 1, none⟩ = some (.slice Ar2 kr2 cr2) ∧ w'.cell? ⟨blow, 0, none⟩ = some (.int .i64 sl) ∧ w'.cell? ⟨blow, 1, none⟩ = some (.slice Al kl cl) ∧ w'.cell? ⟨bp2_, 0, none⟩ = some (.int .i64 so) ∧ w'.cell? ⟨bp2_, 1, none⟩ = some (.slice Ao ko co)) 6 (by kernel_rfl) (by kernel_rfl) ⟨r0, r1_, l0, l1, o0, o1⟩ (fun hHeld => ?_)
                    clear HRc HOc HLc HPc
                    generalize Wc.drew = WD at *
                    refine goT_take 0 (v := ?_) rfl (by decide +kernel) (fun _ _ _ h => bodyPostD_put (by decide +kernel) h) (Or.inl ⟨by rfl, ?_⟩) (by assumption) ?_
                    rotate_left
                    · (intro w_ hSw; (try dsimp only at hSw); go_simp; (try with_reducible rfl))
                    try simp only [Act.put, List.setIfInBounds_toArray, List.set_cons_zero, List.set_cons_succ]
                    refine goT_take 2 (v := ?_) rfl (by decide +kernel) (fun _ _ _ h => bodyPostD_put (by decide +kernel) h) (Or.inl ⟨by rfl, ?_⟩) (by assumption) ?_
                    rotate_left
                    · (intro w_ hSw; (try dsimp only at hSw); go_simp; (try with_reducible rfl))
                    try simp only [Act.put, List.setIfInBounds_toArray, List.set_cons_zero, List.set_cons_succ]
                    refine goT_take 4 (v := ?_) rfl (by decide +kernel) (fun _ _ _ h => bodyPostD_put (by decide +kernel) h) (Or.inl ⟨by rfl, ?_⟩) (by assumption) ?_
                    rotate_left
                    · (intro w_ hSw; (try dsimp only at hSw); go_simp; (try with_reducible rfl))
                    try simp only [Act.put, List.setIfInBounds_toArray, List.set_cons_zero, List.set_cons_succ]
                    refine goT_step 1 rfl (by decide +kernel) (fun K_ hK => ?_)
                    go_simp
                    by_cases hg1 : Mw.gerr r1 = 0
                    · rw [if_pos hg1] at hr
                      have HRR := Lib.hid hr
                      refine (given_ok _ hR.num (by omega) hT hg1).mono ?_
                      rintro e w21 ⟨rfl, hb21⟩
                      have hR1 := hR.call hb21
                      have hL1 := hL.call hb21
                      have hO1 := hO.call hb21
                      have HO1 := Lib.hid (HOD.out.next hb21)
                      have hT1 := HT.out _ HO1.out.below
                      clear hr hT r0 r1_ l0 l1 o0 o1 hb21 hR hL hO
                      have r0 := hR1.c0
                      have r1_ := hR1.c1
                      have l0 := hL1.c0
                      have l1 := hL1.c1
                      have o0 := hO1.c0
                      have o1 := hO1.c1
                      go_wp2_with fail
                      refine hK.out _ _ ⟨r0, r1_, l0, l1, o0, o1⟩ (fun hHeld => ?_)
                      clear hK
                      try simp only [Act.put, List.setIfInBounds_toArray, List.set_cons_zero, List.set_cons_succ]
                      refine goT_step 3 rfl (by decide +kernel) (fun K_ hK => ?_)
                      go_simp
                      have hr := HRR.out
                      by_cases hg2 : Mw.gerr low = 0
                      · rw [if_pos hg2] at hr
                        have HRR := Lib.hid hr
                        refine (given_ok _ hL1.num (by omega) hT1 hg2).mono ?_
                        rintro e w22 ⟨rfl, hb22⟩
                        have hR2 := hR1.call hb22
                        have hL2 := hL1.call hb22
                        have hO2 := hO1.call hb22
                        have HO2 := Lib.hid (HO1.out.next hb22)
                        have hT2 := HT.out _ HO2.out.below
                        clear hr hT1 r0 r1_ l0 l1 o0 o1 hb22 hR1 hL1 hO1
                        have r0 := hR2.c0
                        have r1_ := hR2.c1
                        have l0 := hL2.c0
                        have l1 := hL2.c1
                        have o0 := hO2.c0
                        have o1 := hO2.c1
                        go_wp2_with fail
                        refine hK.out _ _ ⟨r0, r1_, l0, l1, o0, o1⟩ (fun hHeld => ?_)
                        clear hK
                        try simp only [Act.put, List.setIfInBounds_toArray, List.set_cons_zero, List.set_cons_succ]
                        refine goT_step 5 rfl (by decide +kernel) (fun K_ hK => ?_)
                        go_simp
                        have hr := HRR.out
                        by_cases hg3 : Mw.gerr oth = 0
                        · rw [if_pos hg3] at hr
                          have HRR := Lib.hid hr
                          refine (given_ok _ hO2.num (by omega) hT2 hg3).mono ?_
                          rintro e w23 ⟨rfl, hb23⟩
                          have hR3 := hR2.call hb23
                          have hL3 := hL2.call hb23
                          have hO3 := hO2.call hb23
                          have HO3 := Lib.hid (HO2.out.next hb23)
                          clear hr hT2 r0 r1_ l0 l1 o0 o1 hb23 hR2 hL2 hO2
                          have r0 := hR3.c0
                          have r1_ := hR3.c1
                          have l0 := hL3.c0
                          have l1 := hL3.c1
                          have o0 := hO3.c0
                          have o1 := hO3.c1
                          go_wp2_with fail
                          refine hK.out _ _ ⟨r0, r1_, l0, l1, o0, o1⟩ (fun hHeld => ?_)
                          clear hK
                          try simp only [Act.put, List.setIfInBounds_toArray, List.set_cons_zero, List.set_cons_succ]
                          refine goT_done (by decide +kernel) ?_
                          have q0 := HO3.out.cell
                          have f0 := HO3.out.frz
                          go_wp2
                          have hr := HRR.out
                          cases hr
                          exact door_leave isDoor_Gcd _ (.int .i64 0) (.tuple #[.string ⟨(Mw.itxt r1).toArray⟩, .string ⟨(Mw.itxt low).toArray⟩, .string ⟨(Mw.itxt oth).toArray⟩, .int .i64 0]) _ (World.cell?_setCell_same _ _ _ q0) (by simp [f0]) (fun W' h => by simp [results, Tryz.results21, go_sem, h])
                            (fun W' h => ⟨rfl, (HO3.out.below.setCell (Nat.le_refl _) _).trans h⟩)
                        · rw [if_neg hg3] at hr
                          refine (given_bad _ hO2.num (by omega) hT2 hg3).mono ?_
                          rintro e w23 ⟨rfl, hb23⟩
                          have HO3 := HO2.out.next hb23
                          cases hr
                          exact door_caught isDoor_Gcd _ (.int .i64 0) (.tuple #[.string ⟨#[]⟩, .string ⟨#[]⟩, .string ⟨#[]⟩, .int .i64 (Mw.gerr oth)]) _ _ (HG.out.below HO3.below) HO3.lt HO3.cell HO3.frz (fun W' h => by simp [results, Tryz.results21, go_sem, h])
                            (fun W' h => ⟨rfl, HO3.below.trans h⟩)
                      · rw [if_neg hg2] at hr
                        refine (given_bad _ hL1.num (by omega) hT1 hg2).mono ?_
                        rintro e w22 ⟨rfl, hb22⟩
                        have HO2 := HO1.out.next hb22
                        cases hr
                        exact door_caught isDoor_Gcd _ (.int .i64 0) (.tuple #[.string ⟨#[]⟩, .string ⟨#[]⟩, .string ⟨#[]⟩, .int .i64 (Mw.gerr low)]) _ _ (HG.out.below HO2.below) HO2.lt HO2.cell HO2.frz (fun W' h => by simp [results, Tryz.results21, go_sem, h])
                          (fun W' h => ⟨rfl, HO2.below.trans h⟩)
                    · rw [if_neg hg1] at hr
                      refine (given_bad _ hR.num (by omega) hT hg1).mono ?_
                      rintro e w21 ⟨rfl, hb21⟩
                      have HO1 := HOD.out.next hb21
                      cases hr
                      exact door_caught isDoor_Gcd _ (.int .i64 0) (.tuple #[.string ⟨#[]⟩, .string ⟨#[]⟩, .string ⟨#[]⟩, .int .i64 (Mw.gerr r1)]) _ _ (HG.out.below HO1.below) HO1.lt HO1.cell HO1.frz (fun W' h => by simp [results, Tryz.results21, go_sem, h])
                        (fun W' h => ⟨rfl, HO1.below.trans h⟩)
            · have hss : (ss == 0) = false := by rw [beq_eq_false_iff_ne]; exact fun h => hz (hsz.mp h)
              have hks : ks ≤ 800000 := by
                have h1 := (euB_uv HEB.out).2.2.1
                have h2 := HML.out
                have h3 : ks ≤ 45 := by rw [hS.num.len]; exact (lbs_len_le _ _).mpr (by omega)
                omega
              have hkr : kr ≤ 800000 := by
                have h3 : kr ≤ 45 := by rw [hR.num.len]; exact (lbs_len_le _ _).mpr HRL.out
                omega
              have HZS := Lib.hid hz
              clear hsz
              go_wp2_with (first | (go_at_call 70; with_reducible refine (szero_any ss _).mono ?_; rintro e w8 ⟨rfl, rfl⟩) | (go_at_call 75; with_reducible refine (floor_any _ hR.num hS.num hz hkr hks).mono ?_; rintro e w9 ⟨s4, A4, k4, c4, s5, A5, k5, c5, rfl, hN4, hN5, hb9⟩))
              have hwB : Below w8.heap.size w8 ((w9.alloc (.cells #[.int .i64 s4, .slice A4 k4 c4] 71)).alloc (.cells #[.int .i64 s5, .slice A5 k5 c5] 71)) := (hb9.alloc hb9.size _).alloc (by simp; exact Nat.le_succ_of_le hb9.size) _
              have hQ' := (Nb.new hN4 71).alloc (.cells #[.int .i64 s5, .slice A5 k5 c5] 71)
              have hT' := Nb.new (hN5.below (below_alloc (Below.refl _ _) (.cells #[.int .i64 s4, .slice A4 k4 c4] 71))) 71
              rw [World.size_alloc] at hT'
              have hlt := hb9.size
              obtain ⟨bq, hbq⟩ : ∃ b, w9.heap.size = b := ⟨_, rfl⟩
              rw [hbq] at hQ' hT' hlt
              refine wp_world (fun W => Hid (Nb W br sr Ar kr cr r) ∧ Hid (Nb W bs ss As ks cs s') ∧ Hid (Bn W b1 n) ∧ Hid (Bn W b2 m) ∧ Hid (Bn W bu u) ∧ Hid (Bn W (bu + 1) v) ∧ Hid (Own w (.int .i64 0) W) ∧ Hid (Nb W bq s4 A4 k4 c4 (r.fdiv s')) ∧ Hid (Nb W (bq + 1) s5 A5 k5 c5 (r.fmod s')))
                ⟨Lib.hid (hR.call hwB), Lib.hid (hS.call hwB), Lib.hid (HX8.out.call hwB), Lib.hid (HY8.out.call hwB), Lib.hid (HU8.out.call hwB), Lib.hid (HV8.out.call hwB), Lib.hid (HO8.out.next hwB), Lib.hid hQ', Lib.hid hT'⟩ ?_
              have hq1 : br < bq ∧ bs < bq ∧ bu + 1 < bq ∧ b1 < bq ∧ b2 < bq := by
                have h1 := hR.lt
                have h2 := hS.lt
                have h3 := HV8.out.lt
                have h4 := HX8.out.lt
                have h5 := HY8.out.lt
                omega
              rw [hbq]
              clear hQ' hT' hwB hN4 hN5 hb9 hR hS s0 s1_ r0 r1 HR8 HS8 HX8 HY8 HU8 HV8 HO8 hbq hlt
              rintro W9 ⟨HR9, HS9, HX9, HY9, HU9, HV9, HO9, HQ9, HT9⟩
              have hS := HS9.out.drew
              have hR := HR9.out.drew
              have hT := HT9.out.drew
              have hQ := HQ9.out.drew
              have HXD := Lib.hid (HX9.out.call (below_drew (Below.refl _ _) : Below W9.heap.size W9 W9.drew))
              have HYD := Lib.hid (HY9.out.call (below_drew (Below.refl _ _) : Below W9.heap.size W9 W9.drew))
              have HUD := Lib.hid (HU9.out.call (below_drew (Below.refl _ _) : Below W9.heap.size W9 W9.drew))
              have HVD := Lib.hid (HV9.out.call (below_drew (Below.refl _ _) : Below W9.heap.size W9 W9.drew))
              have HOD := Lib.hid (HO9.out.next (below_drew (Below.refl _ _) : Below W9.heap.size W9 W9.drew))
              have s0 := hS.c0
              have s1_ := hS.c1
              have t0 := hT.c0
              have t1 := hT.c1
              refine wp_region_goT (fun w' => w'.cell? ⟨bs, 0, none⟩ = some (.int .i64 ss) ∧ w'.cell? ⟨bs, 1, none⟩ = some (.slice As ks cs) ∧ w'.cell? ⟨bq + 1, 0, none⟩ = some (.int .i64 s5) ∧ w'.cell? ⟨bq + 1, 1, none⟩ = some (.slice A5 k5 c5)) 3 (by kernel_rfl) (by kernel_rfl) ⟨s0, s1_, t0, t1⟩ (fun hHeld => ?_)
              clear HR9 HS9 HX9 HY9 HU9 HV9 HO9 HQ9 HT9
              generalize W9.drew = WD at *
              refine goT_take 0 (v := ?_) rfl (by decide +kernel) (fun _ _ _ h => bodyPostD_put (by decide +kernel) h) (Or.inl ⟨by rfl, ?_⟩) (by assumption) ?_
              rotate_left
              · (intro w_ hSw; (try dsimp only at hSw); go_simp; (try with_reducible rfl))
              try simp only [Act.put, List.setIfInBounds_toArray, List.set_cons_zero, List.set_cons_succ]
              refine goT_take 1 (v := ?_) rfl (by decide +kernel) (fun _ _ _ h => bodyPostD_put (by decide +kernel) h) (Or.inl ⟨by rfl, ?_⟩) (by assumption) ?_
              rotate_left
              · (intro w_ hSw; (try dsimp only at hSw); go_simp; (try with_reducible rfl))
              try simp only [Act.put, List.setIfInBounds_toArray, List.set_cons_zero, List.set_cons_succ]
              refine goT_step 2 rfl (by decide +kernel) (fun K_ hK => ?_)
              have r0 := hR.c0
              have r1 := hR.c1
              have r2 := hR.f0
              have r3 := hR.f1
              go_simp
              have hS10 := Nb.putOther hS hR (by have := HRS.out; omega) ss As ks cs
              have hT10 := Nb.putOther hT hR (by omega) ss As ks cs
              refine hK.out _ _ ⟨hS10.c0, hS10.c1, hT10.c0, hT10.c1⟩ (fun hHeld => ?_)
              clear hK r0 r1 r2 r3 s0 s1_ t0 t1
              have s0 := hS10.c0
              have s1_ := hS10.c1
              have s2_ := hS10.f0
              have s3_ := hS10.f1
              try simp only [Act.put, List.setIfInBounds_toArray, List.set_cons_zero, List.set_cons_succ]
              refine goT_done (by decide +kernel) ?_
              go_wp2_with fail
              have hbx1 : Bx1 WD br := hR.bx
              have hbx2 : Bx1 (putN WD br ss As ks cs) bs := hS10.bx
              have hRp := Nb.putSame hS.num hR
              refine wp_world (fun W => Hid (Bn W br s') ∧ Hid (Bn W bs (r.fmod s')) ∧ Hid (Bn W b1 n) ∧ Hid (Bn W b2 m) ∧ Hid (Bn W bu u) ∧ Hid (Bn W (bu + 1) v) ∧ Hid (Own w (.int .i64 0) W) ∧ Hid (Bn W bq (r.fdiv s')))
                ⟨Lib.hid (hRp.putB hbx2 (by have := HRS.out; omega) _ _ _ _).bn, Lib.hid (Nb.putSameB hT10.num hbx2).bn, Lib.hid ((HXD.out.putB hbx1 (by have := HRS.out; omega) _ _ _ _).putB hbx2 (by have := HRS.out; omega) _ _ _ _), Lib.hid ((HYD.out.putB hbx1 (by have := HRS.out; omega) _ _ _ _).putB hbx2 (by have := HRS.out; omega) _ _ _ _),
                  Lib.hid ((HUD.out.putB hbx1 (by omega) _ _ _ _).putB hbx2 (by omega) _ _ _ _), Lib.hid ((HVD.out.putB hbx1 (by omega) _ _ _ _).putB hbx2 (by omega) _ _ _ _), Lib.hid ((HOD.out.putN (by have := HRS.out; omega) _ _ _ _).putN (by have := HRS.out; omega) _ _ _ _), Lib.hid ((hQ.putB hbx1 (by omega) _ _ _ _).putB hbx2 (by omega) _ _ _ _).bn⟩ ?_
              clear hRp hbx1 hbx2 hS10 hT10 hS hR hT hQ HXD HYD HUD HVD HOD s0 s1_ s2_ s3_ hHeld
              rintro W11 ⟨HR11, HS11, HX11, HY11, HU11, HV11, HO11, HQ11⟩
              obtain ⟨su, Au, ku, cu, hU⟩ := HU11.out
              obtain ⟨sv, Av, kv, cv, hV⟩ := HV11.out
              obtain ⟨sq, Aq, kq, cq, hQ⟩ := HQ11.out
              have hlu : ku ≤ 46 := Lt9.kle (Lt9.succ (x := m) HML.out (euB_uv HEB.out).1) hU.num
              have hlv : kv ≤ 45 := Lt9.kle (Lt9.mono (x := m) HML.out ((euB_uv HEB.out).2.1 HZS.out)) hV.num
              have hlq : kq ≤ 46 := Lt9.kle (Lt9.fdiv (K := 45) (show Lt9 45 r from HRL.out) HZS.out) hQ.num
              have hU := hU.drew
              have hV := hV.drew
              have hQ := hQ.drew
              have HRD := Lib.hid (HR11.out.call (below_drew (Below.refl _ _) : Below W11.heap.size W11 W11.drew))
              have HSD := Lib.hid (HS11.out.call (below_drew (Below.refl _ _) : Below W11.heap.size W11 W11.drew))
              have HXD := Lib.hid (HX11.out.call (below_drew (Below.refl _ _) : Below W11.heap.size W11 W11.drew))
              have HYD := Lib.hid (HY11.out.call (below_drew (Below.refl _ _) : Below W11.heap.size W11 W11.drew))
              have HOD := Lib.hid (HO11.out.next (below_drew (Below.refl _ _) : Below W11.heap.size W11 W11.drew))
              have u0 := hU.c0
              have u1 := hU.c1
              have v0 := hV.c0
              have v1 := hV.c1
              have q0 := hQ.c0
              have q1 := hQ.c1
              refine wp_region_goT (fun w' => w'.cell? ⟨bu, 0, none⟩ = some (.int .i64 su) ∧ w'.cell? ⟨bu, 1, none⟩ = some (.slice Au ku cu) ∧ w'.cell? ⟨bu + 1, 0, none⟩ = some (.int .i64 sv) ∧ w'.cell? ⟨bu + 1, 1, none⟩ = some (.slice Av kv cv) ∧ w'.cell? ⟨bq, 0, none⟩ = some (.int .i64 sq) ∧ w'.cell? ⟨bq, 1, none⟩ = some (.slice Aq kq cq)) 6 (by kernel_rfl) (by kernel_rfl) ⟨u0, u1, v0, v1, q0, q1⟩ (fun hHeld => ?_)
              clear HR11 HS11 HX11 HY11 HU11 HV11 HO11 HQ11
              generalize W11.drew = WD at *
              refine goT_take 0 (v := ?_) rfl (by decide +kernel) (fun _ _ _ h => bodyPostD_put (by decide +kernel) h) (Or.inl ⟨by rfl, ?_⟩) (by assumption) ?_
              rotate_left
              · (intro w_ hSw; (try dsimp only at hSw); go_simp; (try with_reducible rfl))
              try simp only [Act.put, List.setIfInBounds_toArray, List.set_cons_zero, List.set_cons_succ]
              refine goT_take 1 (v := ?_) rfl (by decide +kernel) (fun _ _ _ h => bodyPostD_put (by decide +kernel) h) (Or.inl ⟨by rfl, ?_⟩) (by assumption) ?_
              rotate_left
              · (intro w_ hSw; (try dsimp only at hSw); go_simp; (try with_reducible rfl))
              try simp only [Act.put, List.setIfInBounds_toArray, List.set_cons_zero, List.set_cons_succ]
              refine goT_take 2 (v := ?_) rfl (by decide +kernel) (fun _ _ _ h => bodyPostD_put (by decide +kernel) h) (Or.inl ⟨by rfl, ?_⟩) (by assumption) ?_
              rotate_left
              · (intro w_ hSw; (try dsimp only at hSw); go_simp; (try with_reducible rfl))
              try simp only [Act.put, List.setIfInBounds_toArray, List.set_cons_zero, List.set_cons_succ]
              refine goT_take 3 (v := ?_) rfl (by decide +kernel) (fun _ _ _ h => bodyPostD_put (by decide +kernel) h) (Or.inl ⟨by rfl, ?_⟩) (by assumption) ?_
              rotate_left
              · (intro w_ hSw; (try dsimp only at hSw); go_simp; (try with_reducible rfl))
              try simp only [Act.put, List.setIfInBounds_toArray, List.set_cons_zero, List.set_cons_succ]
              refine goT_step 4 rfl (by decide +kernel) (fun K_ hK => ?_)
              go_simp
              refine (mul_any _ hQ.num hV.num (by omega) (by omega)).mono ?_
              rintro e w12 ⟨s6, A6, k6, c6, rfl, hN6, hb12⟩
              have hl6 : k6 ≤ 91 := by
                have h1 := Lt9.fdiv (K := 45) (show Lt9 45 r from HRL.out) HZS.out
                have h2 := Lt9.mono (x := m) (y := v) (K := 45) HML.out ((euB_uv HEB.out).2.1 HZS.out)
                exact Lt9.kle (h1.mul h2) hN6
              have hU12 := hU.call hb12
              have hV12 := hV.call hb12
              have hQ12 := hQ.call hb12
              have HB12 := Lib.hid hb12
              clear u0 u1 v0 v1 q0 q1 hb12
              have u0 := hU12.c0
              have u1 := hU12.c1
              have v0 := hV12.c0
              have v1 := hV12.c1
              have q0 := hQ12.c0
              have q1 := hQ12.c1
              go_wp2_with fail
              refine hK.out _ _ ⟨u0, u1, v0, v1, q0, q1⟩ (fun hHeld => ?_)
              clear hK
              try simp only [Act.put, List.setIfInBounds_toArray, List.set_cons_zero, List.set_cons_succ]
              refine goT_step 5 rfl (by decide +kernel) (fun K_ hK => ?_)
              go_simp
              refine (sub_any _ hU12.num hN6 (by omega) (by omega)).mono ?_
              rintro e w13 ⟨s7, A7, k7, c7, rfl, hN7, hb13⟩
              have hU13 := hU12.call hb13
              have hV13 := hV12.call hb13
              have hQ13 := hQ12.call hb13
              have hWB : Below WD.heap.size WD w13 := HB12.out.trans (hb13.mono HB12.out.size)
              have HWB := Lib.hid hWB
              clear u0 u1 v0 v1 q0 q1 hb13 hWB hU hV hQ hU12 hV12 hQ12
              have u0 := hU13.c0
              have u1 := hU13.c1
              have v0 := hV13.c0
              have v1 := hV13.c1
              have q0 := hQ13.c0
              have q1 := hQ13.c1
              have u2 := hU13.f0
              have u3 := hU13.f1
              go_wp2_with fail
              refine hK.out _ _ ⟨u0, u1, v0, v1, q0, q1⟩ (fun hHeld => ?_)
              clear hK
              try simp only [Act.put, List.setIfInBounds_toArray, List.set_cons_zero, List.set_cons_succ]
              refine goT_done (by decide +kernel) ?_
              have hV14 := Nb.putOther hV13 hU13 (by omega) sv Av kv cv
              have v2 := hV14.f0
              have v3 := hV14.f1
              have v4 := hV14.c0
              have v5 := hV14.c1
              go_wp2_with fail
              have hbx1 : Bx1 w13 bu := hU13.bx
              have hbx2 : Bx1 (putN w13 bu sv Av kv cv) (bu + 1) := hV14.bx
              have hord2 : b1 < bu ∧ b2 < bu := by
                have h1 := HRS.out
                omega
              have HUP := Lib.hid ((Nb.putSame hV13.num hU13).putB hbx2 (by omega) s7 A7 k7 c7).bn
              have HVP := Lib.hid (Nb.putSameB (Nb.numPutB hN7 hbx1 sv Av kv cv) hbx2).bn
              have HRP := Lib.hid (((HRD.out.call HWB.out).putB hbx1 (by omega) sv Av kv cv).putB hbx2 (by omega) s7 A7 k7 c7)
              have HSP := Lib.hid (((HSD.out.call HWB.out).putB hbx1 (by omega) sv Av kv cv).putB hbx2 (by omega) s7 A7 k7 c7)
              have HXP := Lib.hid (((HXD.out.call HWB.out).putB hbx1 (by omega) sv Av kv cv).putB hbx2 (by omega) s7 A7 k7 c7)
              have HYP := Lib.hid (((HYD.out.call HWB.out).putB hbx1 (by omega) sv Av kv cv).putB hbx2 (by omega) s7 A7 k7 c7)
              have HOP := Lib.hid (((HOD.out.next HWB.out).putN (b := bu) (by omega) sv Av kv cv).putN (b := bu + 1) (by omega) s7 A7 k7 c7)
              clear hbx1 hbx2 hV14 hU13 hV13 hQ13 hN6 hN7 u0 u1 v0 v1 q0 q1 u2 u3 v2 v3 v4 v5 hHeld
              go_roundg (r.fmod s').natAbs
              case measure => exact (fmod_facts HZS.out).2.1
              case rel =>
                exact ⟨s', r.fmod s', v, u - r.fdiv s' * v, rfl, HRP, HSP, HXP, HYP, HUP, HVP, HOP, Lib.hid (euB_step HEB.out HZS.out), Lib.hid (by rw [← Mw.eu_step HZS.out]; exact HEU.out), Lib.hid (Lt9.mono (x := m) HML.out (euB_uv HEB.out).2.2.1)⟩
    · rw [Mw.gcd, Mw.terr2, if_pos hok, if_neg hok2] at hr
      cases hr
      go_enter_defers Tryz.func21, Tryz.ntmps21
      go_wp2_with (first | (go_at_call 69; with_reducible refine (taken_ok s _ hs hok).mono ?_; rintro e w1 ⟨s1, A1, k1, c1, rfl, hN1, hb1⟩) | (go_at_call 69; with_reducible refine (taken_bad t _ hok2).mono ?_; rintro e w3 ⟨rfl, hb3⟩))
      have HO3 := ((Own.of hb1).next (below_alloc (Below.refl _ _) _)).next hb3
      exact door_caught isDoor_Gcd _ (.int .i64 0) (.tuple #[.string ⟨#[]⟩, .string ⟨#[]⟩, .string ⟨#[]⟩, .int .i64 (Mw.terr t.data.toList)]) _ _ (HG.out.below HO3.below) HO3.lt HO3.cell HO3.frz (fun W' h => by simp [results, Tryz.results21, go_sem, h])
        (fun W' h => ⟨rfl, HO3.below.trans h⟩)
  · rw [Mw.gcd, Mw.terr2, if_neg hok, if_neg hok] at hr
    cases hr
    go_enter_defers Tryz.func21, Tryz.ntmps21
    go_wp2_with (first | (go_at_call 69; with_reducible refine (taken_bad s _ hok).mono ?_; rintro e w1 ⟨rfl, hb1⟩; obtain ⟨q0, f0, z0, hB⟩ := own_cell hb1))
    exact door_caught isDoor_Gcd _ (.int .i64 0) (.tuple #[.string ⟨#[]⟩, .string ⟨#[]⟩, .string ⟨#[]⟩, .int .i64 (Mw.terr s.data.toList)]) _ _ (HG.out.below hB) z0 q0 f0 (fun W' h => by simp [results, Tryz.results21, go_sem, h])
      (fun W' h => ⟨rfl, hB.trans h⟩)
end Go.Proofs.YtjieekkkaekclaaGreatDoor
