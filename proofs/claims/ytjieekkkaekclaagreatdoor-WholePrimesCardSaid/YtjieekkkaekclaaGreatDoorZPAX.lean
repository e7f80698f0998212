/- Lemmas for the claim beside this text. -/
import Derived.Test.YtjieekkkaekclaaGreatDoorZPAW
set_option linter.all false
set_option linter.unusedVariables false
set_option linter.unusedSimpArgs false
namespace Go.Proofs.YtjieekkkaekclaaGreatDoor
open Go Go.RowKit Go.Shelf Go.Proofs.YtjieekkkaekclaaGreatDoorW.PrintWords
attribute [local go_sem] Oper.semAt_some
def Mw.wpm (a n m : List UInt8) : List UInt8 × Int :=
  if Mw.terr a = 0 then (if Mw.terr n = 0 then (if Mw.terr m = 0 then (if Mw.ival n < 0 then ([], 2) else if Mw.ival m < 1 then ([], 2) else (Mw.itxt ((Mw.ival a ^ (Mw.ival n).toNat).fmod (Mw.ival m)), 0)) else ([], Mw.terr m)) else ([], Mw.terr n)) else ([], Mw.terr a)
def Mw.ps (m : Int) (p : Int × Int) (l : List Bool) : Int × Int := l.foldl (fun p b => (if b then (p.1 * p.2).fmod m else p.1, (p.2 * p.2).fmod m)) p
theorem Mw.ps_snoc (m : Int) (p : Int × Int) (l : List Bool) (b : Bool) : Mw.ps m p (l ++ [b]) = (if b then ((Mw.ps m p l).1 * (Mw.ps m p l).2).fmod m else (Mw.ps m p l).1, ((Mw.ps m p l).2 * (Mw.ps m p l).2).fmod m) := by
  unfold Mw.ps; rw [List.foldl_append]; rfl
theorem Mw.ps_pm (m : Int) : ∀ (l : List Bool) (o x : Int), (Mw.ps m (o, x) l).1 = Mw.pm m o x l
  | [], _, _ => rfl
  | b :: l, o, x => by
    show (Mw.ps m _ l).1 = Mw.pm m _ _ l
    exact Mw.ps_pm m l _ _
def PmI (w : World) (m : Int) (p0 : Int × Int) (bout b1 b3 : Nat) (pre : List Bool) (W : World) : Prop :=
  Bn W bout (Mw.ps m p0 pre).1 ∧ Bn W b1 (Mw.ps m p0 pre).2 ∧ Bn W b3 m ∧ Own w (.int .i64 0) W
theorem ps_lt {m : Int} {p0 : Int × Int} (hm : Lt9 45 m) (h0 : m ≠ 0) (h1 : Lt9 45 p0.1) (h2 : Lt9 45 p0.2) (l : List Bool) : Lt9 45 (Mw.ps m p0 l).1 ∧ Lt9 45 (Mw.ps m p0 l).2 := by
  have H : ∀ (k : Nat) (l : List Bool), l.length = k → Lt9 45 (Mw.ps m p0 l).1 ∧ Lt9 45 (Mw.ps m p0 l).2 := by
    intro k
    induction k with
    | zero => intro l hl; obtain rfl := List.length_eq_zero_iff.mp hl; exact ⟨h1, h2⟩
    | succ k ih =>
      intro l hl
      obtain ⟨a, c, rfl⟩ : ∃ a c, l = a ++ [c] := ⟨l.dropLast, l.getLast (by intro e; subst e; simp at hl), (List.dropLast_concat_getLast _).symm⟩
      obtain ⟨i1, i2⟩ := ih a (by simpa using hl)
      rw [Mw.ps_snoc]
      refine ⟨?_, Lt9.fmod hm h0⟩
      dsimp only
      split
      · exact Lt9.fmod hm h0
      · exact i1
  exact H _ l rfl
theorem seq_neg {s n : Int} (h : s = sgn n) (hn : n < 0) : (s == -1) = true := by
  rcases sgn_cases n with ⟨e1, h1⟩ | ⟨e1, h1⟩ | ⟨e1, h1⟩ <;> rw [beq_iff_eq] <;> omega
theorem seq_pos {s n : Int} (h : s = sgn n) (hn : ¬ n < 0) : (s == -1) = false := by
  rcases sgn_cases n with ⟨e1, h1⟩ | ⟨e1, h1⟩ | ⟨e1, h1⟩ <;> rw [beq_eq_false_iff_ne] <;> omega
theorem pmI_own {w : World} {m : Int} {p0 : Int × Int} {bout b1 b3 B : Nat} (hB : w.heap.size ≤ B) : OwnFrom B (PmI w m p0 bout b1 b3) := by
  rintro pre X Y row ⟨h1, h2, h3, h4⟩ hg hr
  have hnc : ∀ r, row = some r → ∃ o : Obj, X.heap[r]? = some o ∧ o.isCells = false := fun r e => (hr r e).2
  exact ⟨h1.grown hg hnc, h2.grown hg hnc, h3.grown hg hnc, h4.grown hg hnc (fun r e => Nat.le_trans hB (hr r e).1)⟩
theorem wpIn_world {F : Fence} {n : Nat} {P : Program} {c : Code} {Q : Exit → Act → World → Prop} {a : Act} {W : World} (S : World → Prop) (h : S W) (hh : ∀ W, S W → c.wpIn F n P Q a W) : c.wpIn F n P Q a W := hh _ h
set_option maxRecDepth 100000 in
set_option maxHeartbeats 6400000 in
theorem powmod_any (s t u : ByteArray) (w : World) (hs : s.size ≤ 100000) (ht : t.size ≤ 100000) (hu : u.size ≤ 100000) (hg : Ety w) (htab : Tab w) :
    Calls Tryz.prog 49 #[.string s, .string t, .string u] w fun e w' => e = .returned (.tuple #[.string ⟨(Mw.wpm s.data.toList t.data.toList u.data.toList).1.toArray⟩, .int .i64 (Mw.wpm s.data.toList t.data.toList u.data.toList).2]) ∧ Below w.heap.size w w' := by
  have hmf : ∀ (fn : Fn) (first cap : Array Value) (w : World), (Instr.makeFunc fn first cap).run Tryz.prog w = .ok (.func fn first cap) w := fun _ _ _ _ => rfl
  have HG := Lib.hid hg
  have HT := Lib.hid (Lib.tabBelow_of_tabIs htab)
  clear hg htab
  obtain ⟨⟨rs, er⟩, hr⟩ : ∃ x, Mw.wpm s.data.toList t.data.toList u.data.toList = x := ⟨_, rfl⟩
  rw [hr]
  dsimp only
  by_cases hok : Mw.terr s.data.toList = 0
  · by_cases hok2 : Mw.terr t.data.toList = 0
    · by_cases hok3 : Mw.terr u.data.toList = 0
      · rw [Mw.wpm, if_pos hok, if_pos hok2, if_pos hok3] at hr
        obtain ⟨a, ha⟩ : ∃ x, Mw.ival s.data.toList = x := ⟨_, rfl⟩
        obtain ⟨n, hn⟩ : ∃ x, Mw.ival t.data.toList = x := ⟨_, rfl⟩
        obtain ⟨m, hm⟩ : ∃ x, Mw.ival u.data.toList = x := ⟨_, rfl⟩
        rw [ha, hn, hm] at hr
        have HA0 := Lib.hid ha
        have HN0 := Lib.hid hn
        have HM0 := Lib.hid hm
        clear ha hn hm
        by_cases hn0 : n < 0
        · rw [if_pos hn0] at hr
          cases hr
          go_enter_defers Tryz.func49, Tryz.ntmps49
          go_wp2_with (first | (go_at_call 69; with_reducible refine (taken_ok s _ hs hok).mono ?_; rintro e w1 ⟨s1, A1, k1, c1, rfl, hN1, hb1⟩) | (go_at_call 69; with_reducible refine (taken_ok t _ ht hok2).mono ?_; rintro e w3 ⟨s3, A3, k3, c3, rfl, hN3, hb3⟩; rw [HN0.out] at hN3; have hs3 : (s3 == -1) = true := seq_neg (hN3.sign) hn0) | (go_at_call 69; with_reducible refine (taken_ok u _ hu hok3).mono ?_; rintro e w5 ⟨s5, A5, k5, c5, rfl, hN5, hb5⟩; have y0 := (((Nb.new hN3 71).call hb5).alloc (.cells #[.int .i64 s5, .slice A5 k5 c5] 71)).c0) | (go_at_call 78; with_reducible refine (sneg_any s3 _).mono ?_; rintro e w7 ⟨rfl, rfl⟩) | (go_at_call 86; with_reducible refine (fail_t _ _ _ (by first | rfl | exact hft)).mono ?_; rintro e w6 ⟨rfl, hw6⟩))
          have HO3 := ((((((Own.of hb1).next (below_alloc (Below.refl _ _) (.cells #[.int .i64 s1, .slice A1 k1 c1] 71))).next hb3).next (below_alloc (Below.refl _ _) (.cells #[.int .i64 s3, .slice A3 k3 c3] 71))).next hb5).next (below_alloc (Below.refl _ _) (.cells #[.int .i64 s5, .slice A5 k5 c5] 71)))
          exact door_caught isDoor_PowMod _ (.int .i64 0) (.tuple #[.string ⟨#[]⟩, .int .i64 (2)]) _ _ (HG.out.below HO3.below) HO3.lt HO3.cell HO3.frz (fun W' h => by simp [results, Tryz.results49, go_sem, h])
            (fun W' h => ⟨rfl, HO3.below.trans h⟩)
        · rw [if_neg hn0] at hr
          by_cases hm1 : m < 1
          · rw [if_pos hm1] at hr
            cases hr
            go_enter_defers Tryz.func49, Tryz.ntmps49
            go_wp2_with (first | (go_at_call 69; with_reducible refine (taken_ok s _ hs hok).mono ?_; rintro e w1 ⟨s1, A1, k1, c1, rfl, hN1, hb1⟩) | (go_at_call 69; with_reducible refine (taken_ok t _ ht hok2).mono ?_; rintro e w3 ⟨s3, A3, k3, c3, rfl, hN3, hb3⟩; have hk3 := hN3.k45 hok2; rw [HN0.out] at hN3; have hs3 : (s3 == -1) = false := seq_pos (hN3.sign) (by omega)) | (go_at_call 69; with_reducible refine (taken_ok u _ hu hok3).mono ?_; rintro e w5 ⟨s5, A5, k5, c5, rfl, hN5, hb5⟩; rw [HM0.out] at hN5; have hs5 : -1 ≤ s5 ∧ s5 ≤ 1 := hN5.bd; have y0 := (((Nb.new hN3 71).call hb5).alloc (.cells #[.int .i64 s5, .slice A5 k5 c5] 71)).c0; have y2 := (Nb.new hN5 71).c0; have hft : decide (s5 < 1) = true := decide_eq_true (by (rw [hN5.sign]; rcases sgn_cases m with ⟨e1, h1⟩ | ⟨e1, h1⟩ | ⟨e1, h1⟩ <;> omega))) | (go_at_call 78; with_reducible refine (sneg_any s3 _).mono ?_; rintro e w7 ⟨rfl, rfl⟩) | (go_at_call 74; with_reducible refine (ssign_any s5 _ hs5).mono ?_; rintro e w8 ⟨rfl, rfl⟩) | (go_at_call 86; with_reducible refine (fail_t _ _ _ (by first | rfl | exact hft)).mono ?_; rintro e w6 ⟨rfl, hw6⟩))
            have HO3 := ((((((Own.of hb1).next (below_alloc (Below.refl _ _) (.cells #[.int .i64 s1, .slice A1 k1 c1] 71))).next hb3).next (below_alloc (Below.refl _ _) (.cells #[.int .i64 s3, .slice A3 k3 c3] 71))).next hb5).next (below_alloc (Below.refl _ _) (.cells #[.int .i64 s5, .slice A5 k5 c5] 71)))
            exact door_caught isDoor_PowMod _ (.int .i64 0) (.tuple #[.string ⟨#[]⟩, .int .i64 (2)]) _ _ (HG.out.below HO3.below) HO3.lt HO3.cell HO3.frz (fun W' h => by simp [results, Tryz.results49, go_sem, h])
              (fun W' h => ⟨rfl, HO3.below.trans h⟩)
          · rw [if_neg hm1] at hr
            obtain ⟨N, rfl⟩ : ∃ N : Nat, n = (N : Int) := ⟨n.toNat, by omega⟩
            rw [Int.toNat_natCast] at hr
            have HR := Lib.hid hr
            have HMP : Hid (0 < m) := Lib.hid (by omega)
            have HMZ : Hid (m ≠ 0) := Lib.hid (by omega)
            clear hr
            refine calls_of_wp_c Tryz.func49 rfl ?_
            simp only [Tryz.ntmps49, List.size_toArray, List.length_cons, List.length_nil, Nat.reduceAdd, Nat.reduceSub, Array.replicate_succ, Array.replicate_zero, List.push_toArray, List.append_toArray, List.nil_append, List.cons_append]
            go_wp2_with (first | (go_at_call 69; with_reducible refine (taken_ok s _ hs hok).mono ?_; rintro e w1 ⟨s1, A1, k1, c1, rfl, hN1, hb1⟩) | (go_at_call 69; with_reducible refine (taken_ok t _ ht hok2).mono ?_; rintro e w3 ⟨s3, A3, k3, c3, rfl, hN3, hb3⟩; have hk3 := hN3.k45 hok2; rw [HN0.out] at hN3; have hs3 : (s3 == -1) = false := seq_pos (hN3.sign) (by omega)) | (go_at_call 69; with_reducible refine (taken_ok u _ hu hok3).mono ?_; rintro e w5 ⟨s5, A5, k5, c5, rfl, hN5, hb5⟩; have hk5 := hN5.k45 hok3; rw [HM0.out] at hN5; have hs5 : -1 ≤ s5 ∧ s5 ≤ 1 := hN5.bd; have y0 := (((Nb.new hN3 71).call hb5).alloc (.cells #[.int .i64 s5, .slice A5 k5 c5] 71)).c0; have y2 := (Nb.new hN5 71).c0; have hff : decide (s5 < 1) = false := decide_eq_false (by (rw [hN5.sign]; rcases sgn_cases m with ⟨e1, h1⟩ | ⟨e1, h1⟩ | ⟨e1, h1⟩ <;> omega))) | (go_at_call 78; with_reducible refine (sneg_any s3 _).mono ?_; rintro e w7 ⟨rfl, rfl⟩) | (go_at_call 74; with_reducible refine (ssign_any s5 _ hs5).mono ?_; rintro e w8 ⟨rfl, rfl⟩) | (go_at_call 86; with_reducible refine (fail_f _ _ _ (by first | rfl | exact hff)).mono ?_; rintro e w6 ⟨rfl, rfl⟩; refine Hid.out ?_))
            have hk1 := hN1.k45 hok
            rw [HA0.out] at hN1
            have HAL := Lib.hid (show Lt9 45 a from hN1.lt hk1)
            have HNL := Lib.hid (show Lt9 45 (N : Int) from hN3.lt hk3)
            have HML := Lib.hid (show Lt9 45 m from hN5.lt hk5)
            have HL1 : Hid (Lt9 45 (1 : Int)) := Lib.hid ((Lt9.small (by decide)).up (by omega))
            have HX1 := Lib.hid (((((Nb.new hN1 71).call hb3).alloc (.cells #[.int .i64 s3, .slice A3 k3 c3] 71)).call hb5).alloc (.cells #[.int .i64 s5, .slice A5 k5 c5] 71))
            have HX2 := Lib.hid (((Nb.new hN3 71).call hb5).alloc (.cells #[.int .i64 s5, .slice A5 k5 c5] 71))
            have HX3 := Lib.hid (Nb.new hN5 71)
            have HO := Lib.hid ((((((Own.of hb1).next (below_alloc (Below.refl _ _) (.cells #[.int .i64 s1, .slice A1 k1 c1] 71))).next hb3).next (below_alloc (Below.refl _ _) (.cells #[.int .i64 s3, .slice A3 k3 c3] 71))).next hb5).next (below_alloc (Below.refl _ _) (.cells #[.int .i64 s5, .slice A5 k5 c5] 71)))
            have hz0 : w.heap.size < w1.heap.size := (Own.of hb1).lt
            have hz1 : w1.heap.size < w3.heap.size := by have := hb3.size; simp at this; omega
            have hz2 : w3.heap.size < w5.heap.size := by have := hb5.size; simp at this; omega
            clear hN1 hN3 hN5 hb1 hb3 hb5 hff hs5 hs3
            obtain ⟨W6, hW6⟩ : ∃ W, w5.alloc (.cells #[.int .i64 s5, .slice A5 k5 c5] 71) = W := ⟨_, rfl⟩
            rw [hW6] at HX1 HX2 HX3 HO ⊢
            clear hW6
            obtain ⟨b1, hb1⟩ : ∃ b, w1.heap.size = b := ⟨_, rfl⟩
            obtain ⟨b2, hb2⟩ : ∃ b, w3.heap.size = b := ⟨_, rfl⟩
            obtain ⟨b3, hb3⟩ : ∃ b, w5.heap.size = b := ⟨_, rfl⟩
            rw [hb1] at HX1 hz0 hz1 ⊢
            rw [hb2] at HX2 hz1 hz2 ⊢
            rw [hb3] at HX3 hz2 ⊢
            clear hb1 hb2 hb3
            have x0 := HX1.out.c0
            have x1 := HX1.out.c1
            have z0 := HX3.out.c0
            have z1 := HX3.out.c1
            refine Lib.hid ?_
            go_wp2_with (go_at_call 75; with_reducible refine (floor_any _ HX1.out.num HX3.out.num HMZ.out (by omega) (by omega)).mono ?_; rintro e w7 ⟨s7, A7, k7, c7, s8, A8, k8, c8, rfl, -, hN8, hb7⟩; refine Hid.out ?_)
            clear x0 x1 z0 z1
            have h1 := HX1.out.call hb7
            have h1x : Bx1 w7 b1 := h1.bx
            have x0 := h1.c0
            have x1 := h1.c1
            have x2 := h1.f0
            have x3 := h1.f1
            have H1 := Lib.hid (Nb.putSameB hN8 h1x).bn
            have H2 := Lib.hid ((HX2.out.call hb7).putB h1x (by omega) s8 A8 k8 c8).bn
            have H3 := Lib.hid ((HX3.out.call hb7).putB h1x (by omega) s8 A8 k8 c8).bn
            have HO8 := Lib.hid ((HO.out.next hb7).putN (b := b1) (by omega) s8 A8 k8 c8)
            clear HX1 HX2 HX3 HO hN8 hb7 h1 h1x
            refine Lib.hid ?_
            go_wp2_with fail
            clear x0 x1 x2 x3
            refine wp_world (fun W => Hid (Bn W b1 (a.fmod m)) ∧ Hid (Bn W b2 (N : Int)) ∧ Hid (Bn W b3 m) ∧ Hid (Own w (.int .i64 0) W)) ⟨H1, H2, H3, HO8⟩ ?_
            clear H1 H2 H3 HO8
            rintro W9 ⟨H1, H2, H3, HO⟩
            refine wp_region_ev1 [Ev.nv (1), Ev.nv (m), Ev.nt ((1 : Int).fdiv m) ((1 : Int).fmod m), Ev.nt ((1 : Int).fdiv m) ((1 : Int).fmod m), Ev.nv ((1 : Int).fdiv m), Ev.nv ((1 : Int).fmod m), Ev.pn (b3 + 1), Ev.pn (b3 + 1)] (fun i => i == 6 || i == 7) (b3 + 1) 8 6 67 ((1 : Int).fdiv m) rfl rfl (fun W => Bn W b1 (a.fmod m) ∧ Bn W b2 ((N : Int)) ∧ Bn W b3 (m) ∧ Own w (.int .i64 0) W)
              (fun i _ ha => by rcases (show i = 6 ∨ i = 7 by simpa using ha) with rfl | rfl <;> rfl) rfl (by omega) (by decide +kernel) (by kernel_rfl) (by decide +kernel) ⟨H1.out.call (below_drew (Below.refl _ _)), H2.out.call (below_drew (Below.refl _ _)), H3.out.call (below_drew (Below.refl _ _)), HO.out.next (below_drew (Below.refl _ _))⟩ (fun W W' ⟨q0_, q1_, q2_, qo_⟩ hb_ => ⟨q0_.call hb_, q1_.call hb_, q2_.call hb_, qo_.next hb_⟩) (fun W b_ s_ A_ k_ c_ ⟨q0_, q1_, q2_, qo_⟩ hlo_ hx_ hN_ => ⟨q0_.putB hx_ (by omega) _ _ _ _, q1_.putB hx_ (by omega) _ _ _ _, q2_.putB hx_ (by omega) _ _ _ _, qo_.putN (by omega) _ _ _ _⟩) ?_ ?_ ?_
            · intro i hi_ o_ ho_ a_ W_ vs_ hBW_ hsl_ hpre_ K_ hK_
              obtain ⟨q0_, q1_, q2_, qo_⟩ := hBW_
              have e10 : a_.tmps[10]?.getD undef = .pointer (some ⟨b3, 0, none⟩) := hsl_ 10 rfl
              match i, hi_, ho_ with
              | 0, _, ho_ =>
                cases ho_
                go_simp
                refine (of_any 1 _ (by omega) (by omega)).mono ?_
                rintro e_ w_ ⟨_, _, _, _, rfl, hN_, hb_⟩
                try go_wp2_with fail
                exact hK_.out _ _ hb_ ⟨_, _, _, _, rfl, hN_⟩ (fun h => absurd h (by decide))
              | 1, _, ho_ =>
                cases ho_
                obtain ⟨sx, Ax, kx, cx, hx⟩ := q2_
                have x0 := hx.c0
                have x1 := hx.c1
                go_simp
                exact hK_.out _ _ (Below.refl _ _) ⟨sx, Ax, kx, cx, rfl, hx.num⟩ (fun h => absurd h (by decide))
              | 2, _, ho_ =>
                cases ho_
                obtain ⟨⟨sx0, Ax0, kx0, cx0, xx0, hx0⟩, gx0⟩ := hpre_ 0 (by omega) (by decide +kernel)
                have ex0 : a_.tmps[38]?.getD undef = .agg #[.int .i64 sx0, .slice Ax0 kx0 cx0] := (gx0 38 rfl).trans xx0
                obtain ⟨⟨sx1, Ax1, kx1, cx1, xx1, hx1⟩, gx1⟩ := hpre_ 1 (by omega) (by decide +kernel)
                have ex1 : a_.tmps[39]?.getD undef = .agg #[.int .i64 sx1, .slice Ax1 kx1 cx1] := (gx1 39 rfl).trans xx1
                have hkx0 : kx0 ≤ 45 := HL1.out.kle hx0
                have hkx1 : kx1 ≤ 45 := HML.out.kle hx1
                go_simp
                refine (floor_any _ hx0 hx1 HMZ.out (by omega) (by omega)).mono ?_
                rintro e_ w_ ⟨_, _, _, _, _, _, _, _, rfl, hN_, hM_, hb_⟩
                try go_wp2_with fail
                exact hK_.out _ _ hb_ ⟨_, _, _, _, _, _, _, _, rfl, hN_, hM_⟩ (fun h => absurd h (by decide))
              | 3, _, ho_ =>
                cases ho_
                obtain ⟨⟨sx, Ax, kx, cx, sx', Ax', kx', cx', xx, hx, hx'⟩, gx⟩ := hpre_ 2 (by omega) (by decide +kernel)
                have ex : a_.tmps[40]?.getD undef = .tuple #[.agg #[.int .i64 sx, .slice Ax kx cx], .agg #[.int .i64 sx', .slice Ax' kx' cx']] := (gx 40 rfl).trans xx
                go_simp
                exact hK_.out _ _ (Below.refl _ _) ⟨_, _, _, _, _, _, _, _, rfl, hx, hx'⟩ (fun h => absurd h (by decide))
              | 4, _, ho_ =>
                cases ho_
                obtain ⟨⟨sx, Ax, kx, cx, sx', Ax', kx', cx', xx, hx, hx'⟩, gx⟩ := hpre_ 3 (by omega) (by decide +kernel)
                have ex : a_.tmps[37]?.getD undef = .tuple #[.agg #[.int .i64 sx, .slice Ax kx cx], .agg #[.int .i64 sx', .slice Ax' kx' cx']] := (gx 37 rfl).trans xx
                go_simp
                exact hK_.out _ _ (Below.refl _ _) ⟨_, _, _, _, rfl, hx⟩ (fun h => absurd h (by decide))
              | 5, _, ho_ =>
                cases ho_
                obtain ⟨⟨sx, Ax, kx, cx, sx', Ax', kx', cx', xx, hx, hx'⟩, gx⟩ := hpre_ 3 (by omega) (by decide +kernel)
                have ex : a_.tmps[37]?.getD undef = .tuple #[.agg #[.int .i64 sx, .slice Ax kx cx], .agg #[.int .i64 sx', .slice Ax' kx' cx']] := (gx 37 rfl).trans xx
                go_simp
                exact hK_.out _ _ (Below.refl _ _) ⟨_, _, _, _, rfl, hx'⟩ (fun h => absurd h (by decide))
              | 6, _, ho_ =>
                cases ho_
                go_simp
                exact hK_.out _ _ (below_alloc (Below.refl _ _) _) ⟨W_.heap.size, rfl, q2_.lt, Bx1.new _ _, Sz2.new _ _ _ _⟩ (fun _ => ⟨W_.heap.size, rfl, Nat.le_refl _⟩)
              | 7, _, ho_ =>
                cases ho_
                go_simp
                exact hK_.out _ _ (below_alloc (Below.refl _ _) _) ⟨W_.heap.size, rfl, q2_.lt, Bx1.new _ _, Sz2.new _ _ _ _⟩ (fun _ => ⟨W_.heap.size, rfl, Nat.le_refl _⟩)
            · intro o_ ho_ a_ W_ vs_ hBW_ hpre_ K_ hK_
              cases ho_
              obtain ⟨⟨sx, Ax, kx, cx, xx, hx⟩, gx⟩ := hpre_ 4 (by omega) (by decide +kernel)
              have ex : a_.tmps[41]?.getD undef = .agg #[.int .i64 sx, .slice Ax kx cx] := (gx 41 rfl).trans xx
              obtain ⟨⟨b_, y_, hlo_, hbx_, hsz_⟩, gy_⟩ := hpre_ 6 (by omega) (by decide +kernel)
              have ey_ : a_.tmps[11]?.getD undef = .pointer (some ⟨b_, 0, none⟩) := (gy_ 11 rfl).trans y_
              have hbx2_ := hbx_
              obtain ⟨s9, A9, k9, c9, n9, h9⟩ := hbx_
              have z0 := h9.c0
              have z1 := h9.c1
              have z2 := h9.f0
              have z3 := h9.f1
              go_simp
              exact hK_.out undef b_ _ _ _ _ y_ hlo_ hbx2_ hsz_ hx
            · intro vs_ W_ hBW_ hf_ hst_ hne_
              obtain ⟨q0_, q1_, q2_, qo_⟩ := hBW_
              obtain ⟨bp_, ep_, hbn_⟩ := hst_
              obtain ⟨bp2_, ep2_, hlop_, _, _⟩ := hf_ 6 (by omega)
              obtain rfl : bp2_ = bp_ := by rw [ep_] at ep2_; simpa using ep2_.symm
              obtain ⟨bo_, eo_, hlo_, hxo_, _⟩ := hf_ 7 (by omega)
              have hpo_ : bp2_ ≠ bo_ := fun h => hne_ 6 7 (by omega) (by omega) (by omega) rfl rfl (by rw [ep_, eo_, h])
              obtain ⟨sl_, Al_, kl_, cl_, el_, hl_⟩ := hf_ 5 (by omega)
              have hxo2_ := hxo_
              obtain ⟨s9, A9, k9, c9, n9, h10⟩ := hxo2_
              have z0 := h10.c0
              have z1 := h10.c1
              have z2 := h10.f0
              have z3 := h10.f1
              simp only [putAll, dstAt, List.getElem?_toArray, List.getElem?_cons_zero, List.getElem?_cons_succ, Option.bind_some, Act.put, List.setIfInBounds_toArray, List.set_cons_zero, List.set_cons_succ, ep_, eo_, el_]
              have I0 := Lib.hid (q0_.putB hxo_ (by omega) sl_ Al_ kl_ cl_)
              have I1 := Lib.hid (q1_.putB hxo_ (by omega) sl_ Al_ kl_ cl_)
              have I2 := Lib.hid (q2_.putB hxo_ (by omega) sl_ Al_ kl_ cl_)
              have IO := Lib.hid (qo_.putN (b := bo_) (by omega) sl_ Al_ kl_ cl_)
              have IP := Lib.hid (hbn_.putB hxo_ hpo_ sl_ Al_ kl_ cl_)
              have IN := Lib.hid (Nb.putSameB hl_ hxo_).bn
              have IL := Lib.hid (show b3 + 1 ≤ bo_ ∧ b3 + 1 ≤ bp2_ ∧ bp2_ ≠ bo_ from ⟨hlo_, hlop_, hpo_⟩)
              clear q0_ q1_ q2_ qo_ hf_ hne_ hl_ hxo_ h10 el_ eo_ hlo_ ep_ hbn_ hlop_ hpo_
              obtain ⟨sb, Ab, kb, cb, hb⟩ := I1.out
              have b0 := hb.c0
              have b1_ := hb.c1
              go_wp2_with (go_at_call 112; with_reducible refine (halves_calls _).mono ?_; rintro e w11 ⟨rfl, rfl⟩)
              clear z0 z1 z2 z3
              have e9 : (putN W_ bo_ sl_ Al_ kl_ cl_).heap.size = W_.heap.size := by simp
              have hbs : bo_ < W_.heap.size := by have := IN.out.lt; rwa [e9] at this
              have H5 := (Nb.new hb.num 71).bn
              rw [e9] at H5
              have hil := IL.out
              obtain ⟨Bs, hBs⟩ : ∃ b, W_.heap.size = b := ⟨_, rfl⟩
              rw [hBs] at H5 hbs ⊢
              have HLTS : Hid (w.heap.size < b1 ∧ b1 < b3 ∧ b3 < bo_ ∧ bo_ < Bs) := Lib.hid (by omega)
              refine wp_world (fun W => Hid (Bn W b1 (a.fmod m)) ∧ Hid (Bn W b3 m) ∧ Hid (Bn W bo_ ((1 : Int).fmod m)) ∧ Hid (Bn W Bs (N : Int)) ∧ Hid (Own w (.int .i64 0) W)) ⟨Lib.hid (I0.out.call (below_alloc1 _ _)), Lib.hid (I2.out.call (below_alloc1 _ _)), Lib.hid (IN.out.call (below_alloc1 _ _)), Lib.hid H5, Lib.hid (IO.out.next (below_alloc1 _ _))⟩ ?_
              clear I0 I1 I2 IN IO IP IL H1 H2 H3 HO hil H5 e9 hbs hBs hb b0 b1_
              rintro W11 ⟨HB1, HB3, HBO, HBS, HO11⟩
              refine (wpIn_wide (n := 3)).1 ?_
              refine wpIn_rangeFunc_num rfl (by omega) (gf := 143) (lb := #[.pointer (some ⟨Bs, 0, none⟩)]) rfl trivial (enters_of Tryz.func143 (by kernel_rfl) rfl)
                (halves_seq 2 (by omega) W11.heap.size Bs N HNL.out) (fun _ => rfl) HBS.out.lt HBS.out (fun W2 hb => HBS.out.call hb) (PmI w m ((1 : Int).fmod m, a.fmod m) bo_ b1 b3) ?own ?put ?below ?start ?a1 ?assign ?body ?done
              case own => exact pmI_own (by have := HO11.out.lt; omega)
              case put => exact fun pre W s A k c h hx => by obtain ⟨g1, g2, g3, g4⟩ := h; have := HLTS.out; exact ⟨g1.putB hx (by omega) _ _ _ _, g2.putB hx (by omega) _ _ _ _, g3.putB hx (by omega) _ _ _ _, g4.putN (by omega) _ _ _ _⟩
              case below => exact fun pre W W2 h hb => ⟨h.1.call hb, h.2.1.call hb, h.2.2.1.call hb, h.2.2.2.next hb⟩
              case start => exact ⟨HBO.out, HB1.out, HB3.out, HO11.out⟩
              case assign =>
                intro l x W K hK
                gi_wp2
                exact hK
              case body =>
                rintro l pre x W hpx ⟨HA, HC, HM, HOW⟩ hlt
                have hps := ps_lt (p0 := ((1 : Int).fmod m, a.fmod m)) HML.out HMZ.out (Lt9.fmod HML.out HMZ.out) (Lt9.fmod HML.out HMZ.out) pre
                have hsn := Mw.ps_snoc m ((1 : Int).fmod m, a.fmod m) pre x
                obtain ⟨o, ho⟩ : ∃ o, (Mw.ps m ((1 : Int).fmod m, a.fmod m) pre).1 = o := ⟨_, rfl⟩
                obtain ⟨p, hp⟩ : ∃ o, (Mw.ps m ((1 : Int).fmod m, a.fmod m) pre).2 = o := ⟨_, rfl⟩
                rw [ho, hp] at hsn hps
                rw [ho] at HA
                rw [hp] at HC
                have HSN := Lib.hid hsn
                have HLO := Lib.hid hps.1
                have HLX := Lib.hid hps.2
                have HLM := HML
                have HMN := HMZ
                obtain ⟨bout, hbo⟩ : ∃ b, b = bo_ := ⟨_, rfl⟩
                subst hbo
                have HLW : Hid (b1 < W11.heap.size ∧ bout < W11.heap.size) := Lib.hid ⟨HB1.out.lt, HBO.out.lt⟩
                clear hsn hps ho hp hpx HBO HB1 HB3 HBS HO11 HAL HNL HL1 hlt
                have hlts := HLTS.out
                have hlw := HLW.out
                refine wpIn_world (fun Wb => Hid (Bn Wb bout o) ∧ Hid (Bn Wb b1 p) ∧ Hid (Bn Wb b3 m) ∧ Hid (Own w (.int .i64 0) Wb) ∧ Hid (KeepsOthers W Wb) ∧ Hid (KB W11.heap.size Bs W Wb)) ⟨Lib.hid HA, Lib.hid HC, Lib.hid HM, Lib.hid HOW, Lib.hid (KeepsOthers.refl W), Lib.hid (fun _ _ _ _ _ _ _ h => h)⟩ ?_
                clear HA HC HM HOW
                rintro Wb ⟨HA, HC, HM, HOW, HKO, HKB⟩
                cases x
                · gi_wp2_with fail
                  obtain ⟨so, Ao, ko, co, hO⟩ := HA.out
                  obtain ⟨sx, Ax, kx, cx, hX⟩ := HC.out
                  obtain ⟨sm, Am, km, cm, hM⟩ := HM.out
                  have hko : ko ≤ 45 := HLO.out.kle hO.num
                  have hkx : kx ≤ 45 := HLX.out.kle hX.num
                  have hkm : km ≤ 45 := HLM.out.kle hM.num
                  have hO := hO.drew
                  have hX := hX.drew
                  have hM := hM.drew
                  have HOD := Lib.hid (HOW.out.next (below_drew (Below.refl _ _) : Below Wb.heap.size Wb Wb.drew))
                  have HKO0 : Hid (KeepsOthers W Wb.drew) := Lib.hid (HKO.out.trans (KeepsOthers.of_grownBy (grown_below (below_drew (Below.refl _ _) : Below Wb.heap.size Wb Wb.drew)) (fun j o e => by cases e)))
                  have HKB0 : Hid (KB W11.heap.size Bs W Wb.drew) := Lib.hid (HKB.out.trans (KB.below (below_drew (Below.refl _ _))))
                  have o0 := hO.c0
                  have o1 := hO.c1
                  have x0 := hX.c0
                  have x1 := hX.c1
                  have m0 := hM.c0
                  have m1 := hM.c1
                  refine wpIn_region_goT (fun w' => w'.cell? ⟨bout, 0, none⟩ = some (.int .i64 so) ∧ w'.cell? ⟨bout, 1, none⟩ = some (.slice Ao ko co) ∧ w'.cell? ⟨b1, 0, none⟩ = some (.int .i64 sx) ∧ w'.cell? ⟨b1, 1, none⟩ = some (.slice Ax kx cx) ∧ w'.cell? ⟨b3, 0, none⟩ = some (.int .i64 sm) ∧ w'.cell? ⟨b3, 1, none⟩ = some (.slice Am km cm)) 9 (by kernel_rfl) (by kernel_rfl) (by rintro ⟨_, _, h⟩; exact h) (by kernel_rfl) ⟨o0, o1, x0, x1, m0, m1⟩ (fun hHeld => ?_)
                  clear HA HC HM HOW HKO HKB
                  generalize Wb.drew = WD at *
                  refine goT_take 0 (v := ?_) rfl (by decide +kernel) (fun _ _ _ h => h) (Or.inl ⟨by rfl, ?_⟩) (by assumption) ?_
                  rotate_left
                  · (intro w_ hSw; (try dsimp only at hSw); go_simp; (try with_reducible rfl))
                  try simp only [Act.put, List.setIfInBounds_toArray, List.set_cons_zero, List.set_cons_succ]
                  refine goT_take 1 (v := ?_) rfl (by decide +kernel) (fun _ _ _ h => h) (Or.inl ⟨by rfl, ?_⟩) (by assumption) ?_
                  rotate_left
                  · (intro w_ hSw; (try dsimp only at hSw); go_simp; (try with_reducible rfl))
                  try simp only [Act.put, List.setIfInBounds_toArray, List.set_cons_zero, List.set_cons_succ]
                  refine goT_take 4 (v := ?_) rfl (by decide +kernel) (fun _ _ _ h => h) (Or.inl ⟨by rfl, ?_⟩) (by assumption) ?_
                  rotate_left
                  · (intro w_ hSw; (try dsimp only at hSw); go_simp; (try with_reducible rfl))
                  try simp only [Act.put, List.setIfInBounds_toArray, List.set_cons_zero, List.set_cons_succ]
                  refine goT_step 2 rfl (by decide +kernel) (fun K_ hK => ?_)
                  go_simp
                  have hba : Below WD.heap.size WD (WD.alloc (.cells #[.int .i64 sx, .slice Ax kx cx, .int .i64 sx, .slice Ax kx cx] 71)) := below_alloc (Below.refl _ _) _
                  have hO2 := hO.call hba
                  have hX2 := hX.call hba
                  have hM2 := hM.call hba
                  have HB2 := Lib.hid hba
                  have g0 : (WD.alloc (.cells #[.int .i64 sx, .slice Ax kx cx, .int .i64 sx, .slice Ax kx cx] 71)).cell? ⟨WD.heap.size, 0, none⟩ = some (.int .i64 sx) := by simp
                  have g1 : (WD.alloc (.cells #[.int .i64 sx, .slice Ax kx cx, .int .i64 sx, .slice Ax kx cx] 71)).cell? ⟨WD.heap.size, 1, none⟩ = some (.slice Ax kx cx) := by simp
                  have g2 : (WD.alloc (.cells #[.int .i64 sx, .slice Ax kx cx, .int .i64 sx, .slice Ax kx cx] 71)).cell? ⟨WD.heap.size, 2, none⟩ = some (.int .i64 sx) := by simp
                  have g3 : (WD.alloc (.cells #[.int .i64 sx, .slice Ax kx cx, .int .i64 sx, .slice Ax kx cx] 71)).cell? ⟨WD.heap.size, 3, none⟩ = some (.slice Ax kx cx) := by simp
                  refine hK.out _ _ ⟨hO2.c0, hO2.c1, hX2.c0, hX2.c1, hM2.c0, hM2.c1⟩ (fun hHeld => ?_)
                  clear hK
                  try simp only [Act.put, List.setIfInBounds_toArray, List.set_cons_zero, List.set_cons_succ]
                  have HG0 := Lib.hid g0
                  have HG1 := Lib.hid g1
                  have HG2 := Lib.hid g2
                  have HG3 := Lib.hid g3
                  clear g0 g1 g2 g3 hba o0 o1 x0 x1 m0 m1
                  refine goT_step 3 rfl (by decide +kernel) (fun K_ hK => ?_)
                  go_simp
                  refine (product_any _ 2 _ hX2.num hX2.num (by omega) (by omega) (by omega) HG0.out HG1.out HG2.out HG3.out).mono ?_
                  rintro e w6 ⟨s6, A6, k6, c6, rfl, hN6, hb6⟩
                  have hO3 := hO2.call hb6
                  have hX3 := hX2.call hb6
                  have hM3 := hM2.call hb6
                  have hk6 : k6 ≤ 90 := (HLX.out.mul HLX.out).kle hN6
                  have HB3_ := Lib.hid (HB2.out.trans (hb6.mono HB2.out.size))
                  clear hb6 hO2 hX2 hM2 hO hX hM
                  have o0 := hO3.c0
                  have o1 := hO3.c1
                  have x0 := hX3.c0
                  have x1 := hX3.c1
                  have m0 := hM3.c0
                  have m1 := hM3.c1
                  go_wp2_with fail
                  refine hK.out _ _ ⟨o0, o1, x0, x1, m0, m1⟩ (fun hHeld => ?_)
                  clear hK
                  try simp only [Act.put, List.setIfInBounds_toArray, List.set_cons_zero, List.set_cons_succ]
                  refine goT_step 5 rfl (by decide +kernel) (fun K_ hK => ?_)
                  go_simp
                  refine (floor_any _ hN6 hM3.num HMN.out (by omega) (by omega)).mono ?_
                  rintro e w7 ⟨s7, A7, k7, c7, s8, A8, k8, c8, rfl, -, hN8, hb7⟩
                  have hO4 := hO3.call hb7
                  have hX4 := hX3.call hb7
                  have hM4 := hM3.call hb7
                  have HB4 := Lib.hid (HB3_.out.trans (hb7.mono HB3_.out.size))
                  clear hb7 hO3 hX3 hM3 hN6 o0 o1 x0 x1 m0 m1
                  have o0 := hO4.c0
                  have o1 := hO4.c1
                  have x0 := hX4.c0
                  have x1 := hX4.c1
                  have m0 := hM4.c0
                  have m1 := hM4.c1
                  go_wp2_with fail
                  refine hK.out _ _ ⟨o0, o1, x0, x1, m0, m1⟩ (fun hHeld => ?_)
                  clear hK
                  try simp only [Act.put, List.setIfInBounds_toArray, List.set_cons_zero, List.set_cons_succ]
                  refine goT_step 6 rfl (by decide +kernel) (fun K_ hK => ?_)
                  go_simp
                  refine hK.out _ _ ⟨o0, o1, x0, x1, m0, m1⟩ (fun hHeld => ?_)
                  clear hK
                  try simp only [Act.put, List.setIfInBounds_toArray, List.set_cons_zero, List.set_cons_succ]
                  refine goT_take 7 (v := ?_) rfl (by decide +kernel) (fun _ _ _ h => h) (Or.inl ⟨by rfl, ?_⟩) (by assumption) ?_
                  rotate_left
                  · (intro w_ hSw; (try dsimp only at hSw); go_simp; (try with_reducible rfl))
                  try simp only [Act.put, List.setIfInBounds_toArray, List.set_cons_zero, List.set_cons_succ]
                  refine goT_take 8 (v := ?_) rfl (by decide +kernel) (fun _ _ _ h => h) (Or.inl ⟨by rfl, ?_⟩) (by assumption) ?_
                  rotate_left
                  · (intro w_ hSw; (try dsimp only at hSw); go_simp; (try with_reducible rfl))
                  try simp only [Act.put, List.setIfInBounds_toArray, List.set_cons_zero, List.set_cons_succ]
                  refine goT_done (by decide +kernel) ?_
                  have f0 := hX4.f0
                  have f1 := hX4.f1
                  have hbx : Bx1 w7 b1 := hX4.bx
                  have HNEW := Lib.hid (Nb.putSameB hN8 hbx).bn
                  have HOTH := Lib.hid (hO4.putB hbx (by omega) s8 A8 k8 c8).bn
                  have HMM := Lib.hid (hM4.putB hbx (by omega) s8 A8 k8 c8).bn
                  have HOWN := Lib.hid ((HOD.out.next HB4.out).putN (b := b1) (by omega) s8 A8 k8 c8)
                  have HKO1 : Hid (KeepsOthers W (putN w7 b1 s8 A8 k8 c8)) := Lib.hid (((HKO0.out.trans (KeepsOthers.of_grownBy (grown_below HB4.out) (fun j o e => by cases e))).trans (KeepsOthers.setCell _ _ _)).trans (KeepsOthers.setCell _ _ _))
                  have HKB1 : Hid (KB W11.heap.size Bs W (putN w7 b1 s8 A8 k8 c8)) := Lib.hid ((HKB0.out.trans (KB.below HB4.out)).trans (KB.put hbx (by omega) (by omega) s8 A8 k8 c8))
                  clear hO4 hX4 hM4 hN8 hbx
                  go_wp2_with fail
                  clear o0 o1 x0 x1 m0 m1 f0 f1
                  exact ⟨HKO1.out, HKB1.out, by have h := HSN.out; rw [if_neg (by simp)] at h; exact ⟨by rw [h]; exact HOTH.out, by rw [h]; exact HNEW.out, HMM.out, HOWN.out⟩⟩
                · gi_wp2_with fail
                  obtain ⟨so, Ao, ko, co, hO⟩ := HA.out
                  obtain ⟨sx, Ax, kx, cx, hX⟩ := HC.out
                  obtain ⟨sm, Am, km, cm, hM⟩ := HM.out
                  have hko : ko ≤ 45 := HLO.out.kle hO.num
                  have hkx : kx ≤ 45 := HLX.out.kle hX.num
                  have hkm : km ≤ 45 := HLM.out.kle hM.num
                  have hO := hO.drew
                  have hX := hX.drew
                  have hM := hM.drew
                  have HOD := Lib.hid (HOW.out.next (below_drew (Below.refl _ _) : Below Wb.heap.size Wb Wb.drew))
                  have HKO0 : Hid (KeepsOthers W Wb.drew) := Lib.hid (HKO.out.trans (KeepsOthers.of_grownBy (grown_below (below_drew (Below.refl _ _) : Below Wb.heap.size Wb Wb.drew)) (fun j o e => by cases e)))
                  have HKB0 : Hid (KB W11.heap.size Bs W Wb.drew) := Lib.hid (HKB.out.trans (KB.below (below_drew (Below.refl _ _))))
                  have o0 := hO.c0
                  have o1 := hO.c1
                  have x0 := hX.c0
                  have x1 := hX.c1
                  have m0 := hM.c0
                  have m1 := hM.c1
                  refine wpIn_region_goT (fun w' => w'.cell? ⟨bout, 0, none⟩ = some (.int .i64 so) ∧ w'.cell? ⟨bout, 1, none⟩ = some (.slice Ao ko co) ∧ w'.cell? ⟨b1, 0, none⟩ = some (.int .i64 sx) ∧ w'.cell? ⟨b1, 1, none⟩ = some (.slice Ax kx cx) ∧ w'.cell? ⟨b3, 0, none⟩ = some (.int .i64 sm) ∧ w'.cell? ⟨b3, 1, none⟩ = some (.slice Am km cm)) 9 (by kernel_rfl) (by kernel_rfl) (by rintro ⟨_, _, h⟩; exact h) (by kernel_rfl) ⟨o0, o1, x0, x1, m0, m1⟩ (fun hHeld => ?_)
                  clear HA HC HM HOW HKO HKB
                  generalize Wb.drew = WD at *
                  refine goT_take 0 (v := ?_) rfl (by decide +kernel) (fun _ _ _ h => h) (Or.inl ⟨by rfl, ?_⟩) (by assumption) ?_
                  rotate_left
                  · (intro w_ hSw; (try dsimp only at hSw); go_simp; (try with_reducible rfl))
                  try simp only [Act.put, List.setIfInBounds_toArray, List.set_cons_zero, List.set_cons_succ]
                  refine goT_take 1 (v := ?_) rfl (by decide +kernel) (fun _ _ _ h => h) (Or.inl ⟨by rfl, ?_⟩) (by assumption) ?_
                  rotate_left
                  · (intro w_ hSw; (try dsimp only at hSw); go_simp; (try with_reducible rfl))
                  try simp only [Act.put, List.setIfInBounds_toArray, List.set_cons_zero, List.set_cons_succ]
                  refine goT_take 4 (v := ?_) rfl (by decide +kernel) (fun _ _ _ h => h) (Or.inl ⟨by rfl, ?_⟩) (by assumption) ?_
                  rotate_left
                  · (intro w_ hSw; (try dsimp only at hSw); go_simp; (try with_reducible rfl))
                  try simp only [Act.put, List.setIfInBounds_toArray, List.set_cons_zero, List.set_cons_succ]
                  refine goT_step 2 rfl (by decide +kernel) (fun K_ hK => ?_)
                  go_simp
                  have hba : Below WD.heap.size WD (WD.alloc (.cells #[.int .i64 so, .slice Ao ko co, .int .i64 sx, .slice Ax kx cx] 71)) := below_alloc (Below.refl _ _) _
                  have hO2 := hO.call hba
                  have hX2 := hX.call hba
                  have hM2 := hM.call hba
                  have HB2 := Lib.hid hba
                  have g0 : (WD.alloc (.cells #[.int .i64 so, .slice Ao ko co, .int .i64 sx, .slice Ax kx cx] 71)).cell? ⟨WD.heap.size, 0, none⟩ = some (.int .i64 so) := by simp
                  have g1 : (WD.alloc (.cells #[.int .i64 so, .slice Ao ko co, .int .i64 sx, .slice Ax kx cx] 71)).cell? ⟨WD.heap.size, 1, none⟩ = some (.slice Ao ko co) := by simp
                  have g2 : (WD.alloc (.cells #[.int .i64 so, .slice Ao ko co, .int .i64 sx, .slice Ax kx cx] 71)).cell? ⟨WD.heap.size, 2, none⟩ = some (.int .i64 sx) := by simp
                  have g3 : (WD.alloc (.cells #[.int .i64 so, .slice Ao ko co, .int .i64 sx, .slice Ax kx cx] 71)).cell? ⟨WD.heap.size, 3, none⟩ = some (.slice Ax kx cx) := by simp
                  refine hK.out _ _ ⟨hO2.c0, hO2.c1, hX2.c0, hX2.c1, hM2.c0, hM2.c1⟩ (fun hHeld => ?_)
                  clear hK
                  try simp only [Act.put, List.setIfInBounds_toArray, List.set_cons_zero, List.set_cons_succ]
                  have HG0 := Lib.hid g0
                  have HG1 := Lib.hid g1
                  have HG2 := Lib.hid g2
                  have HG3 := Lib.hid g3
                  clear g0 g1 g2 g3 hba o0 o1 x0 x1 m0 m1
                  refine goT_step 3 rfl (by decide +kernel) (fun K_ hK => ?_)
                  go_simp
                  refine (product_any _ 2 _ hO2.num hX2.num (by omega) (by omega) (by omega) HG0.out HG1.out HG2.out HG3.out).mono ?_
                  rintro e w6 ⟨s6, A6, k6, c6, rfl, hN6, hb6⟩
                  have hO3 := hO2.call hb6
                  have hX3 := hX2.call hb6
                  have hM3 := hM2.call hb6
                  have hk6 : k6 ≤ 90 := (HLO.out.mul HLX.out).kle hN6
                  have HB3_ := Lib.hid (HB2.out.trans (hb6.mono HB2.out.size))
                  clear hb6 hO2 hX2 hM2 hO hX hM
                  have o0 := hO3.c0
                  have o1 := hO3.c1
                  have x0 := hX3.c0
                  have x1 := hX3.c1
                  have m0 := hM3.c0
                  have m1 := hM3.c1
                  go_wp2_with fail
                  refine hK.out _ _ ⟨o0, o1, x0, x1, m0, m1⟩ (fun hHeld => ?_)
                  clear hK
                  try simp only [Act.put, List.setIfInBounds_toArray, List.set_cons_zero, List.set_cons_succ]
                  refine goT_step 5 rfl (by decide +kernel) (fun K_ hK => ?_)
                  go_simp
                  refine (floor_any _ hN6 hM3.num HMN.out (by omega) (by omega)).mono ?_
                  rintro e w7 ⟨s7, A7, k7, c7, s8, A8, k8, c8, rfl, -, hN8, hb7⟩
                  have hO4 := hO3.call hb7
                  have hX4 := hX3.call hb7
                  have hM4 := hM3.call hb7
                  have HB4 := Lib.hid (HB3_.out.trans (hb7.mono HB3_.out.size))
                  clear hb7 hO3 hX3 hM3 hN6 o0 o1 x0 x1 m0 m1
                  have o0 := hO4.c0
                  have o1 := hO4.c1
                  have x0 := hX4.c0
                  have x1 := hX4.c1
                  have m0 := hM4.c0
                  have m1 := hM4.c1
                  go_wp2_with fail
                  refine hK.out _ _ ⟨o0, o1, x0, x1, m0, m1⟩ (fun hHeld => ?_)
                  clear hK
                  try simp only [Act.put, List.setIfInBounds_toArray, List.set_cons_zero, List.set_cons_succ]
                  refine goT_step 6 rfl (by decide +kernel) (fun K_ hK => ?_)
                  go_simp
                  refine hK.out _ _ ⟨o0, o1, x0, x1, m0, m1⟩ (fun hHeld => ?_)
                  clear hK
                  try simp only [Act.put, List.setIfInBounds_toArray, List.set_cons_zero, List.set_cons_succ]
                  refine goT_take 7 (v := ?_) rfl (by decide +kernel) (fun _ _ _ h => h) (Or.inl ⟨by rfl, ?_⟩) (by assumption) ?_
                  rotate_left
                  · (intro w_ hSw; (try dsimp only at hSw); go_simp; (try with_reducible rfl))
                  try simp only [Act.put, List.setIfInBounds_toArray, List.set_cons_zero, List.set_cons_succ]
                  refine goT_take 8 (v := ?_) rfl (by decide +kernel) (fun _ _ _ h => h) (Or.inl ⟨by rfl, ?_⟩) (by assumption) ?_
                  rotate_left
                  · (intro w_ hSw; (try dsimp only at hSw); go_simp; (try with_reducible rfl))
                  try simp only [Act.put, List.setIfInBounds_toArray, List.set_cons_zero, List.set_cons_succ]
                  refine goT_done (by decide +kernel) ?_
                  have f0 := hO4.f0
                  have f1 := hO4.f1
                  have hbx : Bx1 w7 bout := hO4.bx
                  have HNEW := Lib.hid (Nb.putSameB hN8 hbx).bn
                  have HOTH := Lib.hid (hX4.putB hbx (by omega) s8 A8 k8 c8).bn
                  have HMM := Lib.hid (hM4.putB hbx (by omega) s8 A8 k8 c8).bn
                  have HOWN := Lib.hid ((HOD.out.next HB4.out).putN (b := bout) (by omega) s8 A8 k8 c8)
                  have HKO1 : Hid (KeepsOthers W (putN w7 bout s8 A8 k8 c8)) := Lib.hid (((HKO0.out.trans (KeepsOthers.of_grownBy (grown_below HB4.out) (fun j o e => by cases e))).trans (KeepsOthers.setCell _ _ _)).trans (KeepsOthers.setCell _ _ _))
                  have HKB1 : Hid (KB W11.heap.size Bs W (putN w7 bout s8 A8 k8 c8)) := Lib.hid ((HKB0.out.trans (KB.below HB4.out)).trans (KB.put hbx (by omega) (by omega) s8 A8 k8 c8))
                  clear hO4 hX4 hM4 hN8 hbx
                  go_wp2_with fail
                  clear o0 o1 x0 x1 m0 m1 f0 f1
                  refine wpIn_world (fun Wb => Hid (Bn Wb bout ((o * p).fmod m)) ∧ Hid (Bn Wb b1 p) ∧ Hid (Bn Wb b3 m) ∧ Hid (Own w (.int .i64 0) Wb) ∧ Hid (KeepsOthers W Wb) ∧ Hid (KB W11.heap.size Bs W Wb)) ⟨HNEW, HOTH, HMM, HOWN, HKO1, HKB1⟩ ?_
                  clear HNEW HOTH HMM HOWN HKO1 HKB1 HKO0 HKB0 HOD HB2 HB3_ HB4 hHeld
                  rintro Wb ⟨HA, HC, HM, HOW, HKO, HKB⟩
                  have HLO : Hid (Lt9 45 ((o * p).fmod m)) := Lib.hid (Lt9.fmod HML.out HMZ.out)
                  gi_wp2_with fail
                  obtain ⟨so, Ao, ko, co, hO⟩ := HA.out
                  obtain ⟨sx, Ax, kx, cx, hX⟩ := HC.out
                  obtain ⟨sm, Am, km, cm, hM⟩ := HM.out
                  have hko : ko ≤ 45 := HLO.out.kle hO.num
                  have hkx : kx ≤ 45 := HLX.out.kle hX.num
                  have hkm : km ≤ 45 := HLM.out.kle hM.num
                  have hO := hO.drew
                  have hX := hX.drew
                  have hM := hM.drew
                  have HOD := Lib.hid (HOW.out.next (below_drew (Below.refl _ _) : Below Wb.heap.size Wb Wb.drew))
                  have HKO0 : Hid (KeepsOthers W Wb.drew) := Lib.hid (HKO.out.trans (KeepsOthers.of_grownBy (grown_below (below_drew (Below.refl _ _) : Below Wb.heap.size Wb Wb.drew)) (fun j o e => by cases e)))
                  have HKB0 : Hid (KB W11.heap.size Bs W Wb.drew) := Lib.hid (HKB.out.trans (KB.below (below_drew (Below.refl _ _))))
                  have o0 := hO.c0
                  have o1 := hO.c1
                  have x0 := hX.c0
                  have x1 := hX.c1
                  have m0 := hM.c0
                  have m1 := hM.c1
                  refine wpIn_region_goT (fun w' => w'.cell? ⟨bout, 0, none⟩ = some (.int .i64 so) ∧ w'.cell? ⟨bout, 1, none⟩ = some (.slice Ao ko co) ∧ w'.cell? ⟨b1, 0, none⟩ = some (.int .i64 sx) ∧ w'.cell? ⟨b1, 1, none⟩ = some (.slice Ax kx cx) ∧ w'.cell? ⟨b3, 0, none⟩ = some (.int .i64 sm) ∧ w'.cell? ⟨b3, 1, none⟩ = some (.slice Am km cm)) 9 (by kernel_rfl) (by kernel_rfl) (by rintro ⟨_, _, h⟩; exact h) (by kernel_rfl) ⟨o0, o1, x0, x1, m0, m1⟩ (fun hHeld => ?_)
                  clear HA HC HM HOW HKO HKB
                  generalize Wb.drew = WD at *
                  refine goT_take 0 (v := ?_) rfl (by decide +kernel) (fun _ _ _ h => h) (Or.inl ⟨by rfl, ?_⟩) (by assumption) ?_
                  rotate_left
                  · (intro w_ hSw; (try dsimp only at hSw); go_simp; (try with_reducible rfl))
                  try simp only [Act.put, List.setIfInBounds_toArray, List.set_cons_zero, List.set_cons_succ]
                  refine goT_take 1 (v := ?_) rfl (by decide +kernel) (fun _ _ _ h => h) (Or.inl ⟨by rfl, ?_⟩) (by assumption) ?_
                  rotate_left
                  · (intro w_ hSw; (try dsimp only at hSw); go_simp; (try with_reducible rfl))
                  try simp only [Act.put, List.setIfInBounds_toArray, List.set_cons_zero, List.set_cons_succ]
                  refine goT_take 4 (v := ?_) rfl (by decide +kernel) (fun _ _ _ h => h) (Or.inl ⟨by rfl, ?_⟩) (by assumption) ?_
                  rotate_left
                  · (intro w_ hSw; (try dsimp only at hSw); go_simp; (try with_reducible rfl))
                  try simp only [Act.put, List.setIfInBounds_toArray, List.set_cons_zero, List.set_cons_succ]
                  refine goT_step 2 rfl (by decide +kernel) (fun K_ hK => ?_)
                  go_simp
                  have hba : Below WD.heap.size WD (WD.alloc (.cells #[.int .i64 sx, .slice Ax kx cx, .int .i64 sx, .slice Ax kx cx] 71)) := below_alloc (Below.refl _ _) _
                  have hO2 := hO.call hba
                  have hX2 := hX.call hba
                  have hM2 := hM.call hba
                  have HB2 := Lib.hid hba
                  have g0 : (WD.alloc (.cells #[.int .i64 sx, .slice Ax kx cx, .int .i64 sx, .slice Ax kx cx] 71)).cell? ⟨WD.heap.size, 0, none⟩ = some (.int .i64 sx) := by simp
                  have g1 : (WD.alloc (.cells #[.int .i64 sx, .slice Ax kx cx, .int .i64 sx, .slice Ax kx cx] 71)).cell? ⟨WD.heap.size, 1, none⟩ = some (.slice Ax kx cx) := by simp
                  have g2 : (WD.alloc (.cells #[.int .i64 sx, .slice Ax kx cx, .int .i64 sx, .slice Ax kx cx] 71)).cell? ⟨WD.heap.size, 2, none⟩ = some (.int .i64 sx) := by simp
                  have g3 : (WD.alloc (.cells #[.int .i64 sx, .slice Ax kx cx, .int .i64 sx, .slice Ax kx cx] 71)).cell? ⟨WD.heap.size, 3, none⟩ = some (.slice Ax kx cx) := by simp
                  refine hK.out _ _ ⟨hO2.c0, hO2.c1, hX2.c0, hX2.c1, hM2.c0, hM2.c1⟩ (fun hHeld => ?_)
                  clear hK
                  try simp only [Act.put, List.setIfInBounds_toArray, List.set_cons_zero, List.set_cons_succ]
                  have HG0 := Lib.hid g0
                  have HG1 := Lib.hid g1
                  have HG2 := Lib.hid g2
                  have HG3 := Lib.hid g3
                  clear g0 g1 g2 g3 hba o0 o1 x0 x1 m0 m1
                  refine goT_step 3 rfl (by decide +kernel) (fun K_ hK => ?_)
                  go_simp
                  refine (product_any _ 2 _ hX2.num hX2.num (by omega) (by omega) (by omega) HG0.out HG1.out HG2.out HG3.out).mono ?_
                  rintro e w6 ⟨s6, A6, k6, c6, rfl, hN6, hb6⟩
                  have hO3 := hO2.call hb6
                  have hX3 := hX2.call hb6
                  have hM3 := hM2.call hb6
                  have hk6 : k6 ≤ 90 := (HLX.out.mul HLX.out).kle hN6
                  have HB3_ := Lib.hid (HB2.out.trans (hb6.mono HB2.out.size))
                  clear hb6 hO2 hX2 hM2 hO hX hM
                  have o0 := hO3.c0
                  have o1 := hO3.c1
                  have x0 := hX3.c0
                  have x1 := hX3.c1
                  have m0 := hM3.c0
                  have m1 := hM3.c1
                  go_wp2_with fail
                  refine hK.out _ _ ⟨o0, o1, x0, x1, m0, m1⟩ (fun hHeld => ?_)
                  clear hK
                  try simp only [Act.put, List.setIfInBounds_toArray, List.set_cons_zero, List.set_cons_succ]
                  refine goT_step 5 rfl (by decide +kernel) (fun K_ hK => ?_)
                  go_simp
                  refine (floor_any _ hN6 hM3.num HMN.out (by omega) (by omega)).mono ?_
                  rintro e w7 ⟨s7, A7, k7, c7, s8, A8, k8, c8, rfl, -, hN8, hb7⟩
                  have hO4 := hO3.call hb7
                  have hX4 := hX3.call hb7
                  have hM4 := hM3.call hb7
                  have HB4 := Lib.hid (HB3_.out.trans (hb7.mono HB3_.out.size))
                  clear hb7 hO3 hX3 hM3 hN6 o0 o1 x0 x1 m0 m1
                  have o0 := hO4.c0
                  have o1 := hO4.c1
                  have x0 := hX4.c0
                  have x1 := hX4.c1
                  have m0 := hM4.c0
                  have m1 := hM4.c1
                  go_wp2_with fail
                  refine hK.out _ _ ⟨o0, o1, x0, x1, m0, m1⟩ (fun hHeld => ?_)
                  clear hK
                  try simp only [Act.put, List.setIfInBounds_toArray, List.set_cons_zero, List.set_cons_succ]
                  refine goT_step 6 rfl (by decide +kernel) (fun K_ hK => ?_)
                  go_simp
                  refine hK.out _ _ ⟨o0, o1, x0, x1, m0, m1⟩ (fun hHeld => ?_)
                  clear hK
                  try simp only [Act.put, List.setIfInBounds_toArray, List.set_cons_zero, List.set_cons_succ]
                  refine goT_take 7 (v := ?_) rfl (by decide +kernel) (fun _ _ _ h => h) (Or.inl ⟨by rfl, ?_⟩) (by assumption) ?_
                  rotate_left
                  · (intro w_ hSw; (try dsimp only at hSw); go_simp; (try with_reducible rfl))
                  try simp only [Act.put, List.setIfInBounds_toArray, List.set_cons_zero, List.set_cons_succ]
                  refine goT_take 8 (v := ?_) rfl (by decide +kernel) (fun _ _ _ h => h) (Or.inl ⟨by rfl, ?_⟩) (by assumption) ?_
                  rotate_left
                  · (intro w_ hSw; (try dsimp only at hSw); go_simp; (try with_reducible rfl))
                  try simp only [Act.put, List.setIfInBounds_toArray, List.set_cons_zero, List.set_cons_succ]
                  refine goT_done (by decide +kernel) ?_
                  have f0 := hX4.f0
                  have f1 := hX4.f1
                  have hbx : Bx1 w7 b1 := hX4.bx
                  have HNEW := Lib.hid (Nb.putSameB hN8 hbx).bn
                  have HOTH := Lib.hid (hO4.putB hbx (by omega) s8 A8 k8 c8).bn
                  have HMM := Lib.hid (hM4.putB hbx (by omega) s8 A8 k8 c8).bn
                  have HOWN := Lib.hid ((HOD.out.next HB4.out).putN (b := b1) (by omega) s8 A8 k8 c8)
                  have HKO1 : Hid (KeepsOthers W (putN w7 b1 s8 A8 k8 c8)) := Lib.hid (((HKO0.out.trans (KeepsOthers.of_grownBy (grown_below HB4.out) (fun j o e => by cases e))).trans (KeepsOthers.setCell _ _ _)).trans (KeepsOthers.setCell _ _ _))
                  have HKB1 : Hid (KB W11.heap.size Bs W (putN w7 b1 s8 A8 k8 c8)) := Lib.hid ((HKB0.out.trans (KB.below HB4.out)).trans (KB.put hbx (by omega) (by omega) s8 A8 k8 c8))
                  clear hO4 hX4 hM4 hN8 hbx
                  go_wp2_with fail
                  clear o0 o1 x0 x1 m0 m1 f0 f1
                  exact ⟨HKO1.out, HKB1.out, by have h := HSN.out; rw [if_pos trivial] at h; exact ⟨by rw [h]; exact HOTH.out, by rw [h]; exact HNEW.out, HMM.out, HOWN.out⟩⟩
              case done =>
                rintro D W2 hD ⟨HA, HC, HM, HOW⟩ hDD
                have hv : (Mw.ps m ((1 : Int).fmod m, a.fmod m) (Mw.hlv N)).1 = (a ^ N).fmod m := by rw [Mw.ps_pm, Mw.pm_is m HMP.out N _ _ (Int.fmod_fmod ..), Mw.fmod_pow_l _ _ _ HMP.out, Mw.fmod_mul_l _ _ _ HMP.out, Int.one_mul]
                rw [hv] at HA
                obtain ⟨so, Ao, ko, co, hO⟩ := HA
                have hko : ko ≤ 45 := Lt9.kle (Lt9.fmod HML.out HMZ.out) hO.num
                have hgm : Mw.gerr m = 0 := by rw [← HM0.out]; exact (terr_gerr hok3).1
                have hgo : Mw.gerr ((a ^ N).fmod m) = 0 := gerr_mono (by have h1 := Int.fmod_nonneg_of_pos (a ^ N) HMP.out; have h2 := Int.fmod_lt_of_pos (a ^ N) HMP.out; omega) hgm
                have hT := HT.out _ HOW.below
                have o0 := hO.c0
                have o1 := hO.c1
                have HOW2 := Lib.hid HOW
                have HDD := Lib.hid hDD
                have HD := Lib.hid (show w.heap.size < D by have h1 := HO11.out.lt; omega)
                clear HOW hDD hv HC HM HB1 HB3 HBO HBS HO11 HAL HNL HL1 hD hgm
                go_wp2_with (first | (go_at_call 71; with_reducible refine (given_ok _ hO.num (by omega) hT hgo).mono ?_; rintro e w8 ⟨rfl, hb8⟩; refine Hid.out ?_))
                have HO8 := Lib.hid (HOW2.out.next hb8)
                have HD8 : Hid (w8.heap[D]? = some (.deferred (some []))) := Lib.hid ((hb8.block _ (Array.getElem?_eq_some_iff.1 HDD.out).1).trans HDD.out)
                have q0 := HO8.out.cell
                have f0 := HO8.out.frz
                clear hb8 hT hO o0 o1 hgo
                refine Lib.hid ?_
                go_wp2
                have hr := HR.out
                cases hr
                have hD9 : (w8.setCell ⟨w.heap.size, 0, none⟩ (.int .i64 0)).heap[D]? = some (.deferred (some [])) := (Below.heap_setCell _ _ _ _ (by have := HD.out; simp; omega)).trans HD8.out
                have HO9 : Own w (.int .i64 0) ((w8.setCell ⟨w.heap.size, 0, none⟩ (.int .i64 0)).putObj D (.deferred none)) := Own.grown ⟨World.cell?_setCell_same _ _ _ q0, by simp [f0], by simpa using HO8.out.lt, HO8.out.below.setCell (Nat.le_refl _) _⟩ (grownBy_putObj' _ _ _) (fun r e => by cases e; exact ⟨_, hD9, rfl⟩) (fun r e => by cases e; exact Nat.le_of_lt HD.out)
                refine ⟨by simp, .inl ⟨D, _, rfl, run_takeDeferred hD9, leavesC_of _ _ _ ?_⟩⟩
                exact door_leave isDoor_PowMod _ (.int .i64 0) (.tuple #[.string _, .int .i64 0]) _ HO9.cell HO9.frz (fun W' h => by simp [results, Tryz.results49, go_sem, h])
                  (fun W' h => ⟨rfl, HO9.below.trans h⟩)
      · rw [Mw.wpm, if_pos hok, if_pos hok2, if_neg hok3] at hr
        cases hr
        go_enter_defers Tryz.func49, Tryz.ntmps49
        go_wp2_with (first | (go_at_call 69; with_reducible refine (taken_ok s _ hs hok).mono ?_; rintro e w1 ⟨s1, A1, k1, c1, rfl, hN1, hb1⟩) | (go_at_call 69; with_reducible refine (taken_ok t _ ht hok2).mono ?_; rintro e w3 ⟨s3, A3, k3, c3, rfl, hN3, hb3⟩) | (go_at_call 69; with_reducible refine (taken_bad u _ hok3).mono ?_; rintro e w5 ⟨rfl, hb5⟩))
        have HO3 := (((((Own.of hb1).next (below_alloc (Below.refl _ _) (.cells #[.int .i64 s1, .slice A1 k1 c1] 71))).next hb3).next (below_alloc (Below.refl _ _) (.cells #[.int .i64 s3, .slice A3 k3 c3] 71))).next hb5)
        exact door_caught isDoor_PowMod _ (.int .i64 0) (.tuple #[.string ⟨#[]⟩, .int .i64 (Mw.terr u.data.toList)]) _ _ (HG.out.below HO3.below) HO3.lt HO3.cell HO3.frz (fun W' h => by simp [results, Tryz.results49, go_sem, h])
          (fun W' h => ⟨rfl, HO3.below.trans h⟩)
    · rw [Mw.wpm, if_pos hok, if_neg hok2] at hr
      cases hr
      go_enter_defers Tryz.func49, Tryz.ntmps49
      go_wp2_with (first | (go_at_call 69; with_reducible refine (taken_ok s _ hs hok).mono ?_; rintro e w1 ⟨s1, A1, k1, c1, rfl, hN1, hb1⟩) | (go_at_call 69; with_reducible refine (taken_bad t _ hok2).mono ?_; rintro e w3 ⟨rfl, hb3⟩))
      have HO3 := (((Own.of hb1).next (below_alloc (Below.refl _ _) (.cells #[.int .i64 s1, .slice A1 k1 c1] 71))).next hb3)
      exact door_caught isDoor_PowMod _ (.int .i64 0) (.tuple #[.string ⟨#[]⟩, .int .i64 (Mw.terr t.data.toList)]) _ _ (HG.out.below HO3.below) HO3.lt HO3.cell HO3.frz (fun W' h => by simp [results, Tryz.results49, go_sem, h])
        (fun W' h => ⟨rfl, HO3.below.trans h⟩)
  · rw [Mw.wpm, if_neg hok] at hr
    cases hr
    go_enter_defers Tryz.func49, Tryz.ntmps49
    go_wp2_with (first | (go_at_call 69; with_reducible refine (taken_bad s _ hok).mono ?_; rintro e w1 ⟨rfl, hb1⟩))
    have HO3 := (Own.of hb1)
    exact door_caught isDoor_PowMod _ (.int .i64 0) (.tuple #[.string ⟨#[]⟩, .int .i64 (Mw.terr s.data.toList)]) _ _ (HG.out.below HO3.below) HO3.lt HO3.cell HO3.frz (fun W' h => by simp [results, Tryz.results49, go_sem, h])
      (fun W' h => ⟨rfl, HO3.below.trans h⟩)
end Go.Proofs.YtjieekkkaekclaaGreatDoor
