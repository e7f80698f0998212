/- Lemmas for the claim beside this text. -/
import Derived.Test.YtjieekkkaekclaaGreatDoorZPAJ
set_option linter.all false
set_option linter.unusedVariables false
set_option linter.unusedSimpArgs false
namespace Go.Proofs.YtjieekkkaekclaaGreatDoor
open Go.RowKit Go.Proofs.YtjieekkkaekclaaGreatDoorW.PrintWords
theorem least_any (x y : Int) (w : World) : Calls Tryz.prog 229 #[.int .i64 x, .int .i64 y] w fun e w' => e = .returned (.int .i64 (if y < x then y else x)) ∧ w' = w := by
  by_cases h : y < x
  · rw [if_pos h]
    go_enter Tryz.func229, Tryz.ntmps229
    go_wp2
    go_ret
    exact ⟨rfl, rfl⟩
  · rw [if_neg h]
    go_enter Tryz.func229, Tryz.ntmps229
    go_wp2
    go_ret
    exact ⟨rfl, rfl⟩
set_option maxRecDepth 100000 in
set_option maxHeartbeats 1000000 in
theorem products_any (A0 A1 : Option Addr) (a b : List Int) (c0 c1 : Nat) (w : World) (h0 : Kd.C (Kd.int .u32) w A0 a.length a) (hc0 : a.length ≤ c0) (h1 : Kd.C (Kd.int .u32) w A1 b.length b) (hc1 : b.length ≤ c1)
    (ia : Mw.inB 1000000000 a) (ib : Mw.inB 1000000000 b) (hm : a.length + b.length ≤ 1000000) (hs : a.length < 64 ∨ b.length < 64) :
    Calls Tryz.prog 228 #[.slice A0 a.length c0, .slice A1 b.length c1] w fun e w' => ∃ A l c, e = .returned (.slice A (List.length l) c) ∧ l.length ≤ c ∧ Kd.C (Kd.int .u32) w' A l.length l ∧ Mw.inB 1000000000 l ∧ Mw.lv 1000000000 l = Mw.lv 1000000000 a * Mw.lv 1000000000 b ∧ l.length = a.length + b.length + 1 ∧ Below w.heap.size w w' := by
  have hb0 : Below w.heap.size w ((w.alloc (.cells #[.slice A0 a.length c0] 69)).alloc (.cells #[.slice A1 b.length c1] 69)) := ((Below.refl _ _).alloc (Nat.le_refl _) _).alloc (by simp) _
  have H0 := Lib.hid (Kd.C_below h0 hb0)
  have H1 := Lib.hid (Kd.C_below h1 hb0)
  have IA := Lib.hid ia
  have IB := Lib.hid ib
  have HB := Lib.hid hb0
  obtain ⟨z, hz⟩ : ∃ z, (if (b.length : Int) < (a.length : Int) then (b.length : Int) else (a.length : Int)) = z := ⟨_, rfl⟩
  have hz1 : z < 64 := by rw [← hz]; split <;> omega
  have HZ := Lib.hid hz
  clear h0 h1 ia ib hb0 hz hs
  go_enter Tryz.func228, Tryz.ntmps228
  go_wp2_with (first | (go_at_call 229; (with_reducible refine (least_any _ _ _).mono ?_); rw [HZ.out]; rintro e w1 ⟨rfl, rfl⟩) | (go_at_call 230; (with_reducible refine (plain_any A0 A1 a b c0 c1 _ H0.out hc0 H1.out hc1 IA.out IB.out hm).mono ?_); rintro e w2 ⟨A2, l2, c2, rfl, hc2, hC2, hi2, hv2, hl2, hb2⟩; have HC2 := Lib.hid hC2; have HI2 := Lib.hid hi2; have HV2 := Lib.hid hv2; have HL2 := Lib.hid hl2; clear hC2 hi2 hv2 hl2))
  go_ret
  exact ⟨A2, l2, c2, rfl, hc2, HC2.out, HI2.out, HV2.out, HL2.out, HB.out.trans (hb2.mono (by simp; omega))⟩
theorem num_store {W : World} {g : Nat} {s : Int} {A : Option Addr} {k c : Nat} {n : Int} (hN : NumAt W s A k c n) (q0 : W.cell? ⟨g, 0, none⟩ = some (.int .i64 0)) (q1 : W.cell? ⟨g, 1, none⟩ = some (.slice none 0 0)) :
    Hid (NumAt ((W.setCell ⟨g, 0, none⟩ (.int .i64 s)).setCell ⟨g, 1, none⟩ (.slice A k c)) s A k c n) ∧ (W.setCell ⟨g, 0, none⟩ (.int .i64 s)).cell? ⟨g, 0, none⟩ = some (.int .i64 s) ∧
    ((W.setCell ⟨g, 0, none⟩ (.int .i64 s)).setCell ⟨g, 1, none⟩ (.slice A k c)).cell? ⟨g, 1, none⟩ = some (.slice A k c) :=
  ⟨Lib.hid ((hN.set (.int .i64 s) q0 (by simp)).set (.slice A k c) ((World.cell?_setCell_other _ _ _ _ (by simp)).trans q1) (by simp)), World.cell?_setCell_same _ _ _ q0,
    World.cell?_setCell_same _ _ _ ((World.cell?_setCell_other _ _ _ _ (by simp)).trans q1)⟩
set_option maxRecDepth 100000 in
set_option maxHeartbeats 1000000 in
theorem taking_do {s s' : Int} {A A' : Option Addr} {k c k' c' : Nat} {n m : Int} (w : World) (H : NumAt w s A k c n) (H' : NumAt w s' A' k' c' m) (hk : k ≤ 900000) (hk' : k' ≤ 900000) :
    Calls Tryz.prog 223 #[.agg #[], .agg #[.int .i64 s, .slice A k c], .agg #[.int .i64 s', .slice A' k' c']] w fun e w' =>
      ∃ s2 A2 k2 c2, e = .returned (.agg #[.int .i64 s2, .slice A2 k2 c2]) ∧ NumAt w' s2 A2 k2 c2 (n - m) ∧ Below w.heap.size w w' := by
  have hb0 := box3_below w 124 71 (.int .i64 s) (.slice A k c) (.int .i64 s') (.slice A' k' c')
  have H1 := (H.below hb0).drew
  have H1' := (H'.below hb0).drew
  have HB := Lib.hid hb0
  clear hb0
  obtain ⟨d0, _⟩ := box3_keep (below_drew (Below.refl (box3 w 124 71 (.int .i64 s) (.slice A k c) (.int .i64 s') (.slice A' k' c')).heap.size _))
  unfold box3 at d0
  go_enter Tryz.func223, Tryz.ntmps223
  go_wp2_with fail
  go_region_held3 (fun w' => w'.cell? ⟨w.heap.size + 1, 0, none⟩ = some (.int .i64 s) ∧ w'.cell? ⟨w.heap.size + 1, 1, none⟩ = some (.slice A k c) ∧ w'.cell? ⟨w.heap.size + 1 + 1, 0, none⟩ = some (.int .i64 s') ∧ w'.cell? ⟨w.heap.size + 1 + 1, 1, none⟩ = some (.slice A' k' c')) (first | exact d0 | exact d2 | exact d1 | exact ⟨set_keep d2.1 (by omega), set_keep d2.2.1 (by omega), set_keep d2.2.2.1 (by omega), set_keep d2.2.2.2 (by omega)⟩ | go_keep) (first | (go_at_call 79; (with_reducible refine (opposite_any _ H1').mono ?_); rintro e w1 ⟨rfl, hN1, hb1⟩; obtain ⟨d1, r0, r1, f0, f1⟩ := box3_keep (below_of_drew hb1)) | (go_at_call 224; (with_reducible refine (adding_do _ (H1.below hb1) hN1 hk hk').mono ?_); rintro e w2 ⟨s2, A2, k2, c2, rfl, hN, hb2⟩; obtain ⟨d2, q0, q1, g0, g1⟩ := box3_keep (((below_of_drew hb1).trans (hb2.mono (below_of_drew hb1).size))); clear d1 r0 r1 f0 f1))
  obtain ⟨HN1, hA, hBc⟩ := num_store hN q0 q1
  have HBB := Lib.hid (HB.out.trans (((below_of_drew hb1).trans (hb2.mono (below_of_drew hb1).size)).mono HB.out.size))
  go_wp2
  exact bodyPost_ret (v := .agg #[.int .i64 s2, .slice A2 k2 c2]) (by simp [results, Tryz.results223, go_sem, hA, hBc]) rfl ⟨s2, A2, k2, c2, rfl, by rw [Int.sub_eq_add_neg]; exact HN1.out, (HBB.out.setCell (by simp <;> omega) _).setCell (by simp <;> omega) _⟩
theorem mul_sgn {s s' n m : Int} (h : s = sgn n) (h' : s' = sgn m) : s * s' * ((n.natAbs * m.natAbs : Nat) : Int) = n * m ∧ (s * s' = 1 ∨ s * s' = -1 ∨ n.natAbs * m.natAbs = 0) := by
  constructor
  · have e1 := sgn_abs n
    have e2 := sgn_abs m
    rw [← h] at e1
    rw [← h'] at e2
    conv => rhs; rw [← e1, ← e2]
    rw [Int.natCast_mul, Int.mul_assoc, Int.mul_assoc, Int.mul_left_comm s']
  · subst h h'
    rcases sgn_cases n with ⟨e1, h1⟩ | ⟨e1, h1⟩ | ⟨e1, h1⟩ <;> rcases sgn_cases m with ⟨e2, h2⟩ | ⟨e2, h2⟩ | ⟨e2, h2⟩ <;> rw [e1, e2] <;> simp [h1, h2]
set_option maxRecDepth 100000 in
set_option maxHeartbeats 1000000 in
theorem timing_do {s s' : Int} {A A' : Option Addr} {k c k' c' : Nat} {n m : Int} (w : World) (H : NumAt w s A k c n) (H' : NumAt w s' A' k' c' m) (hk : k + k' ≤ 900000) (hlt : k < 64 ∨ k' < 64) :
    Calls Tryz.prog 227 #[.agg #[], .agg #[.int .i64 s, .slice A k c], .agg #[.int .i64 s', .slice A' k' c']] w fun e w' =>
      ∃ s2 A2 k2 c2, e = .returned (.agg #[.int .i64 s2, .slice A2 k2 c2]) ∧ NumAt w' s2 A2 k2 c2 (n * m) ∧ Below w.heap.size w w' := by
  have hb0 := box3_below w 126 71 (.int .i64 s) (.slice A k c) (.int .i64 s') (.slice A' k' c')
  have H1 := (H.below hb0).drew
  have H1' := (H'.below hb0).drew
  have HB := Lib.hid hb0
  have HSM := Lib.hid (mul_sgn H.sign H'.sign)
  have hsb := H.bd
  have hsb' := H'.bd
  clear hb0
  obtain ⟨l, rfl, el, hc, hC, hi, hv⟩ := H1.named
  obtain ⟨l', rfl, el', hc', hC', hi', hv'⟩ := H1'.named
  have HV := Lib.hid hv
  have HV' := Lib.hid hv'
  have HC := Lib.hid hC
  have HC' := Lib.hid hC'
  have HI := Lib.hid hi
  have HI' := Lib.hid hi'
  clear el el' hv hv' hC hC' hi hi'
  obtain ⟨d0, _⟩ := box3_keep (below_drew (Below.refl (box3 w 126 71 (.int .i64 s) (.slice A l.length c) (.int .i64 s') (.slice A' l'.length c')).heap.size _))
  unfold box3 at d0
  go_enter Tryz.func227, Tryz.ntmps227
  go_wp2_with fail
  go_region_held3 (fun w' => w'.cell? ⟨w.heap.size + 1, 0, none⟩ = some (.int .i64 s) ∧ w'.cell? ⟨w.heap.size + 1, 1, none⟩ = some (.slice A l.length c) ∧ w'.cell? ⟨w.heap.size + 1 + 1, 0, none⟩ = some (.int .i64 s') ∧ w'.cell? ⟨w.heap.size + 1 + 1, 1, none⟩ = some (.slice A' l'.length c')) (first | exact d0 | exact d2 | exact d1 | exact ⟨set_keep d2.1 (by omega), set_keep d2.2.1 (by omega), set_keep d2.2.2.1 (by omega), set_keep d2.2.2.2 (by omega)⟩ | go_keep) (first | (go_at_call 128; (with_reducible refine (stimes_any _ _ _ hsb hsb').mono ?_); rintro e w9 ⟨rfl, rfl⟩) | (go_at_call 228; (with_reducible refine (products_any A A' l l' c c' _ HC.out hc HC'.out hc' HI.out HI'.out (by omega) hlt).mono ?_); rintro e w1 ⟨A1, l1, c1, rfl, hc1, hC1, hi1, hv1, hl1, hb1⟩; obtain ⟨d1, r0, r1, f0, f1⟩ := box3_keep (below_of_drew hb1); have HV1 := Lib.hid hv1; have HC1 := Lib.hid hC1; have HI1 := Lib.hid hi1; have HL1 := Lib.hid hl1; clear hv1 hC1 hi1 hl1) | (go_at_call 129; (with_reducible refine (made_num (s * s') A1 l1 c1 (n.natAbs * m.natAbs) _ HC1.out (by rw [HL1.out]; omega) hc1 (by rw [HL1.out]; omega) HI1.out (by rw [HV1.out, HV.out, HV'.out]; simp) HSM.out.2).mono ?_); rintro e w2 ⟨s2, A2, k2, c2, rfl, hN, hb2⟩; obtain ⟨d2, q0, q1, g0, g1⟩ := box3_keep (((below_of_drew hb1).trans (hb2.mono (below_of_drew hb1).size))); clear d1 r0 r1 f0 f1))
  rw [HSM.out.1] at hN
  obtain ⟨HN1, hA, hBc⟩ := num_store hN q0 q1
  have HBB := Lib.hid (HB.out.trans (((below_of_drew hb1).trans (hb2.mono (below_of_drew hb1).size)).mono HB.out.size))
  go_wp2
  exact bodyPost_ret (v := .agg #[.int .i64 s2, .slice A2 k2 c2]) (by simp [results, Tryz.results227, go_sem, hA, hBc]) rfl ⟨s2, A2, k2, c2, rfl, HN1.out, (HBB.out.setCell (by simp <;> omega) _).setCell (by simp <;> omega) _⟩
end Go.Proofs.YtjieekkkaekclaaGreatDoor
namespace Go.Proofs.YtjieekkkaekclaaGreatDoor
open Go.RowKit Go.Proofs.YtjieekkkaekclaaGreatDoorW.PrintWords
theorem reads3 (w : World) (o : Obj) (t : TypeId) (a b c : Int) : Kd.C (Kd.int .u32) ((w.alloc o).alloc (.cells #[.int .u32 a, .int .u32 b, .int .u32 c] t)) (some ⟨w.heap.size + 1, 0, none⟩) [a, b, c].length [a, b, c] := by
  refine Kd.C_of_reads (d := 0) ⟨rfl, by simp, fun _ => ⟨_, rfl, fun j hj => ?_⟩⟩
  have h3 : j = 0 ∨ j = 1 ∨ j = 2 := by simp at hj; omega
  rcases h3 with rfl | rfl | rfl <;> simp [go_sem, add_plain]
theorem of_inB {n : Int} (h0 : 0 ≤ n) (h1 : n ≤ 1000000000000000000) : Mw.inB 1000000000 [n % 1000000000, n / 1000000000 % 1000000000, n / 1000000000 / 1000000000] :=
  Mw.inB_cons.mpr ⟨⟨by omega, by omega⟩, Mw.inB_cons.mpr ⟨⟨by omega, by omega⟩, Mw.inB_cons.mpr ⟨⟨by omega, by omega⟩, Mw.inB_nil _⟩⟩⟩
theorem of_lv {n : Int} (h0 : 0 ≤ n) : Mw.lv 1000000000 [n % 1000000000, n / 1000000000 % 1000000000, n / 1000000000 / 1000000000] = (n.toNat : Nat) := by
  simp only [Mw.lv]; omega
theorem box_res {w w2 : World} {a b : Value} {t : TypeId} {o : Obj} (hb : Below ((w.alloc (.cells #[a, b] t)).alloc o).heap.size ((w.alloc (.cells #[a, b] t)).alloc o) w2) :
    w2.cell? ⟨w.heap.size, 0, none⟩ = some a ∧ w2.cell? ⟨w.heap.size, 1, none⟩ = some b ∧ w2.frozen? ⟨w.heap.size, 0, none⟩ = false ∧ w2.frozen? ⟨w.heap.size, 1, none⟩ = false := by
  have h0 := hb.cell (p := ⟨w.heap.size, 0, none⟩) (by simp <;> omega)
  have h1 := hb.cell (p := ⟨w.heap.size, 1, none⟩) (by simp <;> omega)
  have h2 := hb.frozen (p := ⟨w.heap.size, 0, none⟩) (by simp <;> omega)
  have h3 := hb.frozen (p := ⟨w.heap.size, 1, none⟩) (by simp <;> omega)
  simp [go_sem] at h0 h1 h2 h3
  exact ⟨h0, h1, h2, h3⟩
set_option maxHeartbeats 1000000 in
theorem of_pos (n : Int) (w : World) (h0 : 0 ≤ n) (h1 : n ≤ 1000000000000000000) :
    Calls Tryz.prog 73 #[.int .i64 n] w fun e w' =>
      ∃ s2 A2 k2 c2, e = .returned (.agg #[.int .i64 s2, .slice A2 k2 c2]) ∧ NumAt w' s2 A2 k2 c2 n ∧ Below w.heap.size w w' := by
  have HR := Lib.hid (reads3 w (.cells #[.int .i64 0, .slice none 0 0] 71) 121 (n % 1000000000) (n / 1000000000 % 1000000000) (n / 1000000000 / 1000000000))
  have HI : Hid (Mw.inB 1000000000 [n % 1000000000, n / 1000000000 % 1000000000, n / 1000000000 / 1000000000]) := Lib.hid (of_inB h0 h1)
  have HV : Hid (Mw.lv 1000000000 [n % 1000000000, n / 1000000000 % 1000000000, n / 1000000000 / 1000000000] = (n.toNat : Nat)) := Lib.hid (of_lv h0)
  go_enter Tryz.func73, Tryz.ntmps73
  go_wp2_with fail
  refine (made_num 1 _ [n % 1000000000, n / 1000000000 % 1000000000, n / 1000000000 / 1000000000] 3 n.toNat _ HR.out (by simp) (by simp) (by simp) HI.out HV.out (by omega)).mono ?_
  rintro e w2 ⟨s2, A2, k2, c2, rfl, hN, hb2⟩
  obtain ⟨q0, q1, f0, f1⟩ := box_res hb2
  obtain ⟨HN1, hA, hBc⟩ := num_store hN q0 q1
  have HBB : Hid (Below w.heap.size w w2) := Lib.hid ((((Below.refl _ _).alloc (Nat.le_refl _) _).alloc (by simp) _).trans (hb2.mono (by simp; omega)))
  have hlt : w.heap.size < w2.heap.size := by have := hb2.size; simp at this; omega
  go_wp2
  exact bodyPost_ret (v := .agg #[.int .i64 s2, .slice A2 k2 c2]) (by simp [results, Tryz.results73, go_sem, hA, hBc]) rfl ⟨s2, A2, k2, c2, rfl, by have h := HN1.out; rwa [show 1 * (n.toNat : Int) = n by omega] at h, (HBB.out.setCell (by simp <;> omega) _).setCell (by simp <;> omega) _⟩
set_option maxHeartbeats 1000000 in
theorem of_neg (p : Int) (w : World) (h : 0 < p) (h1 : p ≤ 1000000000000000000) :
    Calls Tryz.prog 73 #[.int .i64 (-p)] w fun e w' =>
      ∃ s2 A2 k2 c2, e = .returned (.agg #[.int .i64 s2, .slice A2 k2 c2]) ∧ NumAt w' s2 A2 k2 c2 (-p) ∧ Below w.heap.size w w' := by
  have h0 : 0 ≤ p := by omega
  have hn1 : -p < 0 := by omega
  have HR := Lib.hid (reads3 w (.cells #[.int .i64 0, .slice none 0 0] 71) 121 (p % 1000000000) (p / 1000000000 % 1000000000) (p / 1000000000 / 1000000000))
  have HI : Hid (Mw.inB 1000000000 [p % 1000000000, p / 1000000000 % 1000000000, p / 1000000000 / 1000000000]) := Lib.hid (of_inB h0 h1)
  have HV : Hid (Mw.lv 1000000000 [p % 1000000000, p / 1000000000 % 1000000000, p / 1000000000 / 1000000000] = (p.toNat : Nat)) := Lib.hid (of_lv h0)
  go_enter Tryz.func73, Tryz.ntmps73
  go_wp2_with fail
  refine (made_num (-1) _ [p % 1000000000, p / 1000000000 % 1000000000, p / 1000000000 / 1000000000] 3 p.toNat _ HR.out (by simp) (by simp) (by simp) HI.out HV.out (by omega)).mono ?_
  rintro e w2 ⟨s2, A2, k2, c2, rfl, hN, hb2⟩
  obtain ⟨q0, q1, f0, f1⟩ := box_res hb2
  obtain ⟨HN1, hA, hBc⟩ := num_store hN q0 q1
  have HBB : Hid (Below w.heap.size w w2) := Lib.hid ((((Below.refl _ _).alloc (Nat.le_refl _) _).alloc (by simp) _).trans (hb2.mono (by simp; omega)))
  have hlt : w.heap.size < w2.heap.size := by have := hb2.size; simp at this; omega
  go_wp2
  exact bodyPost_ret (v := .agg #[.int .i64 s2, .slice A2 k2 c2]) (by simp [results, Tryz.results73, go_sem, hA, hBc]) rfl ⟨s2, A2, k2, c2, rfl, by have h := HN1.out; rwa [show (-1) * (p.toNat : Int) = -p by omega] at h, (HBB.out.setCell (by simp <;> omega) _).setCell (by simp <;> omega) _⟩
theorem of_any (n : Int) (w : World) (h0 : -1000000000000000000 ≤ n) (h1 : n ≤ 1000000000000000000) :
    Calls Tryz.prog 73 #[.int .i64 n] w fun e w' =>
      ∃ s2 A2 k2 c2, e = .returned (.agg #[.int .i64 s2, .slice A2 k2 c2]) ∧ NumAt w' s2 A2 k2 c2 n ∧ Below w.heap.size w w' := by
  by_cases h : 0 ≤ n
  · exact of_pos n w h h1
  · have := of_neg (-n) w (by omega) (by omega)
    rwa [Int.neg_neg] at this
end Go.Proofs.YtjieekkkaekclaaGreatDoor
namespace Go.Proofs.YtjieekkkaekclaaGreatDoor
open Go.RowKit Go.Proofs.YtjieekkkaekclaaGreatDoorW.PrintWords
abbrev box2 (w : World) (t' : TypeId) (a b a' b' : Value) : World :=
  ((w.alloc (.cells #[a, b] t')).alloc (.cells #[a', b'] t')).alloc (.cells #[.int .i64 0, .slice none 0 0] t')
theorem box2_below (w : World) (t' : TypeId) (a b a' b' : Value) : Below w.heap.size w (box2 w t' a b a' b') :=
  (((Below.refl _ _).alloc (Nat.le_refl _) _).alloc (by simp) _).alloc (by simp; omega) _
theorem box2_keep {w w1 : World} {t' : TypeId} {a b a' b' : Value} (hb : Below (box2 w t' a b a' b').heap.size (box2 w t' a b a' b') w1) :
    (w1.cell? ⟨w.heap.size, 0, none⟩ = some a ∧ w1.cell? ⟨w.heap.size, 1, none⟩ = some b ∧ w1.cell? ⟨w.heap.size + 1, 0, none⟩ = some a' ∧ w1.cell? ⟨w.heap.size + 1, 1, none⟩ = some b') ∧
    w1.cell? ⟨w.heap.size + 1 + 1, 0, none⟩ = some (.int .i64 0) ∧ w1.cell? ⟨w.heap.size + 1 + 1, 1, none⟩ = some (.slice none 0 0) ∧
    w1.frozen? ⟨w.heap.size + 1 + 1, 0, none⟩ = false ∧ w1.frozen? ⟨w.heap.size + 1 + 1, 1, none⟩ = false ∧ w.heap.size + 1 + 1 < w1.heap.size := by
  unfold box2 at hb
  have h0 := hb.cell (p := ⟨w.heap.size, 0, none⟩) (by simp <;> omega)
  have h1 := hb.cell (p := ⟨w.heap.size, 1, none⟩) (by simp <;> omega)
  have h2 := hb.cell (p := ⟨w.heap.size + 1, 0, none⟩) (by simp <;> omega)
  have h3 := hb.cell (p := ⟨w.heap.size + 1, 1, none⟩) (by simp <;> omega)
  have h4 := hb.cell (p := ⟨w.heap.size + 1 + 1, 0, none⟩) (by simp)
  have h5 := hb.cell (p := ⟨w.heap.size + 1 + 1, 1, none⟩) (by simp)
  have h6 := hb.frozen (p := ⟨w.heap.size + 1 + 1, 0, none⟩) (by simp)
  have h7 := hb.frozen (p := ⟨w.heap.size + 1 + 1, 1, none⟩) (by simp)
  have h8 := hb.size
  simp [go_sem] at h0 h1 h2 h3 h4 h5 h6 h7 h8
  exact ⟨⟨h0, h1, h2, h3⟩, h4, h5, h6, h7, by omega⟩
theorem small_any {s : Int} {A : Option Addr} {k c : Nat} {n : Int} (w : World) (x : Int) (b : Bool) (H : NumAt w s A k c n) (hx : x = if n.natAbs < 1000000000 then n else 0) (hb : b = decide (n.natAbs < 1000000000)) :
    Calls Tryz.prog 87 #[.agg #[.int .i64 s, .slice A k c]] w fun e w' => e = .returned (.tuple #[.int .i64 x, .bool b]) ∧ Below w.heap.size w w' := by
  by_cases h : n.natAbs < 1000000000
  · rw [if_pos h] at hx
    subst hx
    rw [hb, decide_eq_true h]
    exact small_yes w H h
  · rw [if_neg h] at hx
    subst hx
    rw [hb, decide_eq_false h]
    exact small_no w H (by omega)
theorem assert_aa (W : World) : (Instr.typeAssert (.iface 125 (.agg #[])) 168 125 true).run Tryz.prog W = .ok (.tuple #[.agg #[], .bool true]) W := by kernel_rfl
theorem assert_ta (W : World) : (Instr.typeAssert (.iface 124 (.agg #[])) 168 125 true).run Tryz.prog W = .ok (.tuple #[.agg #[], .bool false]) W := by kernel_rfl
theorem assert_tt (W : World) : (Instr.typeAssert (.iface 124 (.agg #[])) 168 124 true).run Tryz.prog W = .ok (.tuple #[.agg #[], .bool true]) W := by kernel_rfl
theorem assert_ma (W : World) : (Instr.typeAssert (.iface 126 (.agg #[])) 168 125 true).run Tryz.prog W = .ok (.tuple #[.agg #[], .bool false]) W := by kernel_rfl
theorem assert_mt (W : World) : (Instr.typeAssert (.iface 126 (.agg #[])) 168 124 true).run Tryz.prog W = .ok (.tuple #[.agg #[], .bool false]) W := by kernel_rfl
theorem method_a (W : World) : (method 383 125 (.agg #[]) "metewand/limbs.do").run Tryz.prog W = .ok (224, .agg #[]) W := by kernel_rfl
theorem method_t (W : World) : (method 383 124 (.agg #[]) "metewand/limbs.do").run Tryz.prog W = .ok (223, .agg #[]) W := by kernel_rfl
theorem method_m (W : World) : (method 383 126 (.agg #[]) "metewand/limbs.do").run Tryz.prog W = .ok (227, .agg #[]) W := by kernel_rfl
theorem small_mul {x y : Int} (hx : x.natAbs < 1000000000) (hy : y.natAbs < 1000000000) : -1000000000000000000 ≤ x * y ∧ x * y ≤ 1000000000000000000 := by
  have h1 : x.natAbs * y.natAbs ≤ 1000000000 * 1000000000 := Nat.mul_le_mul (by omega) (by omega)
  rw [← Int.natAbs_mul] at h1
  omega
theorem wrap_mul {x y : Int} (hx : x.natAbs < 1000000000) (hy : y.natAbs < 1000000000) : wrap64 (x * y) = x * y := by
  have := small_mul hx hy
  generalize x * y = z at *
  unfold wrap64; omega
set_option maxRecDepth 100000 in
set_option maxHeartbeats 1000000 in
theorem with_adding {s s' : Int} {A A' : Option Addr} {k c k' c' : Nat} {n m : Int} (w : World) (H : NumAt w s A k c n) (H' : NumAt w s' A' k' c' m) (hk : k ≤ 900000) (hk' : k' ≤ 900000) :
    Calls Tryz.prog 130 #[.iface 125 (.agg #[]), .agg #[.int .i64 s, .slice A k c], .agg #[.int .i64 s', .slice A' k' c']] w fun e w' =>
      ∃ s2 A2 k2 c2, e = .returned (.agg #[.int .i64 s2, .slice A2 k2 c2]) ∧ NumAt w' s2 A2 k2 c2 (n + m) ∧ Below w.heap.size w w' := by
  have hb0 := box2_below w 71 (.int .i64 s) (.slice A k c) (.int .i64 s') (.slice A' k' c')
  have H1 := H.below hb0
  have H1' := H'.below hb0
  have HB := Lib.hid hb0
  clear hb0
  obtain ⟨x, hx⟩ : ∃ x, x = if n.natAbs < 1000000000 then n else 0 := ⟨_, rfl⟩
  obtain ⟨y, hy⟩ : ∃ x, x = if m.natAbs < 1000000000 then m else 0 := ⟨_, rfl⟩
  obtain ⟨b1, hb1⟩ : ∃ b, b = decide (n.natAbs < 1000000000) := ⟨_, rfl⟩
  obtain ⟨b2, hb2⟩ : ∃ b, b = decide (m.natAbs < 1000000000) := ⟨_, rfl⟩
  have HX := Lib.hid hx
  have HY := Lib.hid hy
  have HB1 := Lib.hid hb1
  have HB2 := Lib.hid hb2
  clear hx hy hb1 hb2
  go_enter Tryz.func130, Tryz.ntmps130
  go_upto_region 2 with (first | (go_at_call 87; (with_reducible refine (small_any _ x b1 H1 HX.out HB1.out).mono ?_); rintro e w1 ⟨rfl, hb1⟩; obtain ⟨⟨d0, d1, d2, d3⟩, r0, r1, f0, f1, z0⟩ := box2_keep hb1))
  have H2 := H1.below hb1
  have H2' := H1'.below hb1
  go_upto_region 3 with (first | (go_at_call 87; (with_reducible refine (small_any _ y b2 H2' HY.out HB2.out).mono ?_); rintro e w2 ⟨rfl, hb2⟩; obtain ⟨⟨e0, e1, e2, e3⟩, q0, q1, g0, g1, z1⟩ := box2_keep (hb1.trans (hb2.mono hb1.size))))
  have H3 := H2.below hb2
  have H3' := H2'.below hb2
  have HBB := Lib.hid (HB.out.trans ((hb1.trans (hb2.mono hb1.size)).mono HB.out.size))
  clear d0 d1 d2 d3 r0 r1 f0 f1 z0 H1 H1' H2 H2'
  have mth := method_a
  cases b1 with
  | false =>
    go_wp2_with (first | (go_at_call 224; (with_reducible refine (adding_do _ H3 H3' hk hk').mono ?_); rintro e w3 ⟨s2, A2, k2, c2, rfl, hN, hb3⟩; obtain ⟨⟨d0, d1, d2, d3⟩, r0, r1, f0, f1, z0⟩ := box2_keep ((hb1.trans (hb2.mono hb1.size)).trans (hb3.mono (Nat.le_trans hb1.size hb2.size)))))
    obtain ⟨HN1, hA, hBc⟩ := num_store hN r0 r1
    have HB3 := Lib.hid (HBB.out.trans (hb3.mono HBB.out.size))
    go_wp2
    exact bodyPost_ret (v := .agg #[.int .i64 s2, .slice A2 k2 c2]) (by simp [results, Tryz.results130, go_sem, hA, hBc]) rfl ⟨s2, A2, k2, c2, rfl, HN1.out, (HB3.out.setCell (by simp <;> omega) _).setCell (by simp <;> omega) _⟩
  | true =>
    cases b2 with
    | false =>
      go_wp2_with (first | (go_at_call 224; (with_reducible refine (adding_do _ H3 H3' hk hk').mono ?_); rintro e w3 ⟨s2, A2, k2, c2, rfl, hN, hb3⟩; obtain ⟨⟨d0, d1, d2, d3⟩, r0, r1, f0, f1, z0⟩ := box2_keep ((hb1.trans (hb2.mono hb1.size)).trans (hb3.mono (Nat.le_trans hb1.size hb2.size)))))
      obtain ⟨HN1, hA, hBc⟩ := num_store hN r0 r1
      have HB3 := Lib.hid (HBB.out.trans (hb3.mono HBB.out.size))
      go_wp2
      exact bodyPost_ret (v := .agg #[.int .i64 s2, .slice A2 k2 c2]) (by simp [results, Tryz.results130, go_sem, hA, hBc]) rfl ⟨s2, A2, k2, c2, rfl, HN1.out, (HB3.out.setCell (by simp <;> omega) _).setCell (by simp <;> omega) _⟩
    | true =>
      have hn : n.natAbs < 1000000000 := by have := HB1.out; simpa using this
      have hm : m.natAbs < 1000000000 := by have := HB2.out; simpa using this
      have ex : x = n := by have := HX.out; rwa [if_pos hn] at this
      have ey : y = m := by have := HY.out; rwa [if_pos hm] at this
      subst ex ey
      have HXB : -1000000000 < x ∧ x < 1000000000 := by omega
      have HYB : -1000000000 < y ∧ y < 1000000000 := by omega
      have ta := assert_aa
      go_wp2_with (first | (go_at_call 73; (with_reducible refine (of_any _ _ (by omega) (by omega)).mono ?_); rintro e w3 ⟨s2, A2, k2, c2, rfl, hN, hb3⟩; obtain ⟨⟨d0, d1, d2, d3⟩, r0, r1, f0, f1, z0⟩ := box2_keep ((hb1.trans (hb2.mono hb1.size)).trans (hb3.mono (Nat.le_trans hb1.size hb2.size)))))
      obtain ⟨HN1, hA, hBc⟩ := num_store hN r0 r1
      have HB3 := Lib.hid (HBB.out.trans (hb3.mono HBB.out.size))
      go_wp2
      exact bodyPost_ret (v := .agg #[.int .i64 s2, .slice A2 k2 c2]) (by simp [results, Tryz.results130, go_sem, hA, hBc]) rfl ⟨s2, A2, k2, c2, rfl, HN1.out, (HB3.out.setCell (by simp <;> omega) _).setCell (by simp <;> omega) _⟩
set_option maxRecDepth 100000 in
set_option maxHeartbeats 1000000 in
theorem with_taking {s s' : Int} {A A' : Option Addr} {k c k' c' : Nat} {n m : Int} (w : World) (H : NumAt w s A k c n) (H' : NumAt w s' A' k' c' m) (hk : k ≤ 900000) (hk' : k' ≤ 900000) :
    Calls Tryz.prog 130 #[.iface 124 (.agg #[]), .agg #[.int .i64 s, .slice A k c], .agg #[.int .i64 s', .slice A' k' c']] w fun e w' =>
      ∃ s2 A2 k2 c2, e = .returned (.agg #[.int .i64 s2, .slice A2 k2 c2]) ∧ NumAt w' s2 A2 k2 c2 (n - m) ∧ Below w.heap.size w w' := by
  have hb0 := box2_below w 71 (.int .i64 s) (.slice A k c) (.int .i64 s') (.slice A' k' c')
  have H1 := H.below hb0
  have H1' := H'.below hb0
  have HB := Lib.hid hb0
  clear hb0
  obtain ⟨x, hx⟩ : ∃ x, x = if n.natAbs < 1000000000 then n else 0 := ⟨_, rfl⟩
  obtain ⟨y, hy⟩ : ∃ x, x = if m.natAbs < 1000000000 then m else 0 := ⟨_, rfl⟩
  obtain ⟨b1, hb1⟩ : ∃ b, b = decide (n.natAbs < 1000000000) := ⟨_, rfl⟩
  obtain ⟨b2, hb2⟩ : ∃ b, b = decide (m.natAbs < 1000000000) := ⟨_, rfl⟩
  have HX := Lib.hid hx
  have HY := Lib.hid hy
  have HB1 := Lib.hid hb1
  have HB2 := Lib.hid hb2
  clear hx hy hb1 hb2
  go_enter Tryz.func130, Tryz.ntmps130
  go_upto_region 2 with (first | (go_at_call 87; (with_reducible refine (small_any _ x b1 H1 HX.out HB1.out).mono ?_); rintro e w1 ⟨rfl, hb1⟩; obtain ⟨⟨d0, d1, d2, d3⟩, r0, r1, f0, f1, z0⟩ := box2_keep hb1))
  have H2 := H1.below hb1
  have H2' := H1'.below hb1
  go_upto_region 3 with (first | (go_at_call 87; (with_reducible refine (small_any _ y b2 H2' HY.out HB2.out).mono ?_); rintro e w2 ⟨rfl, hb2⟩; obtain ⟨⟨e0, e1, e2, e3⟩, q0, q1, g0, g1, z1⟩ := box2_keep (hb1.trans (hb2.mono hb1.size))))
  have H3 := H2.below hb2
  have H3' := H2'.below hb2
  have HBB := Lib.hid (HB.out.trans ((hb1.trans (hb2.mono hb1.size)).mono HB.out.size))
  clear d0 d1 d2 d3 r0 r1 f0 f1 z0 H1 H1' H2 H2'
  have mth := method_t
  cases b1 with
  | false =>
    go_wp2_with (first | (go_at_call 223; (with_reducible refine (taking_do _ H3 H3' hk hk').mono ?_); rintro e w3 ⟨s2, A2, k2, c2, rfl, hN, hb3⟩; obtain ⟨⟨d0, d1, d2, d3⟩, r0, r1, f0, f1, z0⟩ := box2_keep ((hb1.trans (hb2.mono hb1.size)).trans (hb3.mono (Nat.le_trans hb1.size hb2.size)))))
    obtain ⟨HN1, hA, hBc⟩ := num_store hN r0 r1
    have HB3 := Lib.hid (HBB.out.trans (hb3.mono HBB.out.size))
    go_wp2
    exact bodyPost_ret (v := .agg #[.int .i64 s2, .slice A2 k2 c2]) (by simp [results, Tryz.results130, go_sem, hA, hBc]) rfl ⟨s2, A2, k2, c2, rfl, HN1.out, (HB3.out.setCell (by simp <;> omega) _).setCell (by simp <;> omega) _⟩
  | true =>
    cases b2 with
    | false =>
      go_wp2_with (first | (go_at_call 223; (with_reducible refine (taking_do _ H3 H3' hk hk').mono ?_); rintro e w3 ⟨s2, A2, k2, c2, rfl, hN, hb3⟩; obtain ⟨⟨d0, d1, d2, d3⟩, r0, r1, f0, f1, z0⟩ := box2_keep ((hb1.trans (hb2.mono hb1.size)).trans (hb3.mono (Nat.le_trans hb1.size hb2.size)))))
      obtain ⟨HN1, hA, hBc⟩ := num_store hN r0 r1
      have HB3 := Lib.hid (HBB.out.trans (hb3.mono HBB.out.size))
      go_wp2
      exact bodyPost_ret (v := .agg #[.int .i64 s2, .slice A2 k2 c2]) (by simp [results, Tryz.results130, go_sem, hA, hBc]) rfl ⟨s2, A2, k2, c2, rfl, HN1.out, (HB3.out.setCell (by simp <;> omega) _).setCell (by simp <;> omega) _⟩
    | true =>
      have hn : n.natAbs < 1000000000 := by have := HB1.out; simpa using this
      have hm : m.natAbs < 1000000000 := by have := HB2.out; simpa using this
      have ex : x = n := by have := HX.out; rwa [if_pos hn] at this
      have ey : y = m := by have := HY.out; rwa [if_pos hm] at this
      subst ex ey
      have HXB : -1000000000 < x ∧ x < 1000000000 := by omega
      have HYB : -1000000000 < y ∧ y < 1000000000 := by omega
      have ta := assert_ta
      have tt := assert_tt
      go_wp2_with (first | (go_at_call 73; (with_reducible refine (of_any _ _ (by omega) (by omega)).mono ?_); rintro e w3 ⟨s2, A2, k2, c2, rfl, hN, hb3⟩; obtain ⟨⟨d0, d1, d2, d3⟩, r0, r1, f0, f1, z0⟩ := box2_keep ((hb1.trans (hb2.mono hb1.size)).trans (hb3.mono (Nat.le_trans hb1.size hb2.size)))))
      obtain ⟨HN1, hA, hBc⟩ := num_store hN r0 r1
      have HB3 := Lib.hid (HBB.out.trans (hb3.mono HBB.out.size))
      go_wp2
      exact bodyPost_ret (v := .agg #[.int .i64 s2, .slice A2 k2 c2]) (by simp [results, Tryz.results130, go_sem, hA, hBc]) rfl ⟨s2, A2, k2, c2, rfl, HN1.out, (HB3.out.setCell (by simp <;> omega) _).setCell (by simp <;> omega) _⟩
set_option maxRecDepth 100000 in
set_option maxHeartbeats 1000000 in
theorem with_timing {s s' : Int} {A A' : Option Addr} {k c k' c' : Nat} {n m : Int} (w : World) (H : NumAt w s A k c n) (H' : NumAt w s' A' k' c' m) (hk : k + k' ≤ 900000) (hk' : k < 64 ∨ k' < 64) :
    Calls Tryz.prog 130 #[.iface 126 (.agg #[]), .agg #[.int .i64 s, .slice A k c], .agg #[.int .i64 s', .slice A' k' c']] w fun e w' =>
      ∃ s2 A2 k2 c2, e = .returned (.agg #[.int .i64 s2, .slice A2 k2 c2]) ∧ NumAt w' s2 A2 k2 c2 (n * m) ∧ Below w.heap.size w w' := by
  have hb0 := box2_below w 71 (.int .i64 s) (.slice A k c) (.int .i64 s') (.slice A' k' c')
  have H1 := H.below hb0
  have H1' := H'.below hb0
  have HB := Lib.hid hb0
  clear hb0
  obtain ⟨x, hx⟩ : ∃ x, x = if n.natAbs < 1000000000 then n else 0 := ⟨_, rfl⟩
  obtain ⟨y, hy⟩ : ∃ x, x = if m.natAbs < 1000000000 then m else 0 := ⟨_, rfl⟩
  obtain ⟨b1, hb1⟩ : ∃ b, b = decide (n.natAbs < 1000000000) := ⟨_, rfl⟩
  obtain ⟨b2, hb2⟩ : ∃ b, b = decide (m.natAbs < 1000000000) := ⟨_, rfl⟩
  have HX := Lib.hid hx
  have HY := Lib.hid hy
  have HB1 := Lib.hid hb1
  have HB2 := Lib.hid hb2
  clear hx hy hb1 hb2
  go_enter Tryz.func130, Tryz.ntmps130
  go_upto_region 2 with (first | (go_at_call 87; (with_reducible refine (small_any _ x b1 H1 HX.out HB1.out).mono ?_); rintro e w1 ⟨rfl, hb1⟩; obtain ⟨⟨d0, d1, d2, d3⟩, r0, r1, f0, f1, z0⟩ := box2_keep hb1))
  have H2 := H1.below hb1
  have H2' := H1'.below hb1
  go_upto_region 3 with (first | (go_at_call 87; (with_reducible refine (small_any _ y b2 H2' HY.out HB2.out).mono ?_); rintro e w2 ⟨rfl, hb2⟩; obtain ⟨⟨e0, e1, e2, e3⟩, q0, q1, g0, g1, z1⟩ := box2_keep (hb1.trans (hb2.mono hb1.size))))
  have H3 := H2.below hb2
  have H3' := H2'.below hb2
  have HBB := Lib.hid (HB.out.trans ((hb1.trans (hb2.mono hb1.size)).mono HB.out.size))
  clear d0 d1 d2 d3 r0 r1 f0 f1 z0 H1 H1' H2 H2'
  have mth := method_m
  cases b1 with
  | false =>
    go_wp2_with (first | (go_at_call 227; (with_reducible refine (timing_do _ H3 H3' hk hk').mono ?_); rintro e w3 ⟨s2, A2, k2, c2, rfl, hN, hb3⟩; obtain ⟨⟨d0, d1, d2, d3⟩, r0, r1, f0, f1, z0⟩ := box2_keep ((hb1.trans (hb2.mono hb1.size)).trans (hb3.mono (Nat.le_trans hb1.size hb2.size)))))
    obtain ⟨HN1, hA, hBc⟩ := num_store hN r0 r1
    have HB3 := Lib.hid (HBB.out.trans (hb3.mono HBB.out.size))
    go_wp2
    exact bodyPost_ret (v := .agg #[.int .i64 s2, .slice A2 k2 c2]) (by simp [results, Tryz.results130, go_sem, hA, hBc]) rfl ⟨s2, A2, k2, c2, rfl, HN1.out, (HB3.out.setCell (by simp <;> omega) _).setCell (by simp <;> omega) _⟩
  | true =>
    cases b2 with
    | false =>
      go_wp2_with (first | (go_at_call 227; (with_reducible refine (timing_do _ H3 H3' hk hk').mono ?_); rintro e w3 ⟨s2, A2, k2, c2, rfl, hN, hb3⟩; obtain ⟨⟨d0, d1, d2, d3⟩, r0, r1, f0, f1, z0⟩ := box2_keep ((hb1.trans (hb2.mono hb1.size)).trans (hb3.mono (Nat.le_trans hb1.size hb2.size)))))
      obtain ⟨HN1, hA, hBc⟩ := num_store hN r0 r1
      have HB3 := Lib.hid (HBB.out.trans (hb3.mono HBB.out.size))
      go_wp2
      exact bodyPost_ret (v := .agg #[.int .i64 s2, .slice A2 k2 c2]) (by simp [results, Tryz.results130, go_sem, hA, hBc]) rfl ⟨s2, A2, k2, c2, rfl, HN1.out, (HB3.out.setCell (by simp <;> omega) _).setCell (by simp <;> omega) _⟩
    | true =>
      have hn : n.natAbs < 1000000000 := by have := HB1.out; simpa using this
      have hm : m.natAbs < 1000000000 := by have := HB2.out; simpa using this
      have ex : x = n := by have := HX.out; rwa [if_pos hn] at this
      have ey : y = m := by have := HY.out; rwa [if_pos hm] at this
      subst ex ey
      have HZ := small_mul hn hm
      have hw := wrap_mul hn hm
      have ta := assert_ma
      have tt := assert_mt
      go_wp2_with (first | (go_at_call 73; (with_reducible refine (of_any _ _ HZ.1 HZ.2).mono ?_); rintro e w3 ⟨s2, A2, k2, c2, rfl, hN, hb3⟩; obtain ⟨⟨d0, d1, d2, d3⟩, r0, r1, f0, f1, z0⟩ := box2_keep ((hb1.trans (hb2.mono hb1.size)).trans (hb3.mono (Nat.le_trans hb1.size hb2.size)))))
      clear hw HZ
      obtain ⟨HN1, hA, hBc⟩ := num_store hN r0 r1
      have HB3 := Lib.hid (HBB.out.trans (hb3.mono HBB.out.size))
      go_wp2
      exact bodyPost_ret (v := .agg #[.int .i64 s2, .slice A2 k2 c2]) (by simp [results, Tryz.results130, go_sem, hA, hBc]) rfl ⟨s2, A2, k2, c2, rfl, HN1.out, (HB3.out.setCell (by simp <;> omega) _).setCell (by simp <;> omega) _⟩
end Go.Proofs.YtjieekkkaekclaaGreatDoor
namespace Go.Proofs.YtjieekkkaekclaaGreatDoor
open Go.RowKit Go.Proofs.YtjieekkkaekclaaGreatDoorW.PrintWords
set_option maxHeartbeats 1000000 in
theorem add_any {s s' : Int} {A A' : Option Addr} {k c k' c' : Nat} {n m : Int} (w : World) (H : NumAt w s A k c n) (H' : NumAt w s' A' k' c' m) (hk : k ≤ 900000) (hk' : k' ≤ 900000) :
    Calls Tryz.prog 100 #[.agg #[.int .i64 s, .slice A k c], .agg #[.int .i64 s', .slice A' k' c']] w fun e w' =>
      ∃ s2 A2 k2 c2, e = .returned (.agg #[.int .i64 s2, .slice A2 k2 c2]) ∧ NumAt w' s2 A2 k2 c2 (n + m) ∧ Below w.heap.size w w' := by
  have hb0 := box2_below w 71 (.int .i64 s) (.slice A k c) (.int .i64 s') (.slice A' k' c')
  have H1 := H.below hb0
  have H1' := H'.below hb0
  have HB := Lib.hid hb0
  clear hb0
  go_enter Tryz.func100, Tryz.ntmps100
  go_wp2_with (first | (go_at_call 130; (with_reducible refine (with_adding _ H1 H1' hk hk').mono ?_); rintro e w3 ⟨s2, A2, k2, c2, rfl, hN, hb3⟩; obtain ⟨⟨d0, d1, d2, d3⟩, r0, r1, f0, f1, z0⟩ := box2_keep hb3))
  obtain ⟨HN1, hA, hBc⟩ := num_store hN r0 r1
  have HB3 := Lib.hid (HB.out.trans (hb3.mono HB.out.size))
  go_wp2
  exact bodyPost_ret (v := .agg #[.int .i64 s2, .slice A2 k2 c2]) (by simp [results, Tryz.results100, go_sem, hA, hBc]) rfl ⟨s2, A2, k2, c2, rfl, HN1.out, (HB3.out.setCell (by simp <;> omega) _).setCell (by simp <;> omega) _⟩
set_option maxHeartbeats 1000000 in
theorem sub_any {s s' : Int} {A A' : Option Addr} {k c k' c' : Nat} {n m : Int} (w : World) (H : NumAt w s A k c n) (H' : NumAt w s' A' k' c' m) (hk : k ≤ 900000) (hk' : k' ≤ 900000) :
    Calls Tryz.prog 76 #[.agg #[.int .i64 s, .slice A k c], .agg #[.int .i64 s', .slice A' k' c']] w fun e w' =>
      ∃ s2 A2 k2 c2, e = .returned (.agg #[.int .i64 s2, .slice A2 k2 c2]) ∧ NumAt w' s2 A2 k2 c2 (n - m) ∧ Below w.heap.size w w' := by
  have hb0 := box2_below w 71 (.int .i64 s) (.slice A k c) (.int .i64 s') (.slice A' k' c')
  have H1 := H.below hb0
  have H1' := H'.below hb0
  have HB := Lib.hid hb0
  clear hb0
  go_enter Tryz.func76, Tryz.ntmps76
  go_wp2_with (first | (go_at_call 130; (with_reducible refine (with_taking _ H1 H1' hk hk').mono ?_); rintro e w3 ⟨s2, A2, k2, c2, rfl, hN, hb3⟩; obtain ⟨⟨d0, d1, d2, d3⟩, r0, r1, f0, f1, z0⟩ := box2_keep hb3))
  obtain ⟨HN1, hA, hBc⟩ := num_store hN r0 r1
  have HB3 := Lib.hid (HB.out.trans (hb3.mono HB.out.size))
  go_wp2
  exact bodyPost_ret (v := .agg #[.int .i64 s2, .slice A2 k2 c2]) (by simp [results, Tryz.results76, go_sem, hA, hBc]) rfl ⟨s2, A2, k2, c2, rfl, HN1.out, (HB3.out.setCell (by simp <;> omega) _).setCell (by simp <;> omega) _⟩
set_option maxHeartbeats 1000000 in
theorem mul_any {s s' : Int} {A A' : Option Addr} {k c k' c' : Nat} {n m : Int} (w : World) (H : NumAt w s A k c n) (H' : NumAt w s' A' k' c' m) (hk : k + k' ≤ 900000) (hk' : k < 64 ∨ k' < 64) :
    Calls Tryz.prog 77 #[.agg #[.int .i64 s, .slice A k c], .agg #[.int .i64 s', .slice A' k' c']] w fun e w' =>
      ∃ s2 A2 k2 c2, e = .returned (.agg #[.int .i64 s2, .slice A2 k2 c2]) ∧ NumAt w' s2 A2 k2 c2 (n * m) ∧ Below w.heap.size w w' := by
  have hb0 := box2_below w 71 (.int .i64 s) (.slice A k c) (.int .i64 s') (.slice A' k' c')
  have H1 := H.below hb0
  have H1' := H'.below hb0
  have HB := Lib.hid hb0
  clear hb0
  go_enter Tryz.func77, Tryz.ntmps77
  go_wp2_with (first | (go_at_call 130; (with_reducible refine (with_timing _ H1 H1' hk hk').mono ?_); rintro e w3 ⟨s2, A2, k2, c2, rfl, hN, hb3⟩; obtain ⟨⟨d0, d1, d2, d3⟩, r0, r1, f0, f1, z0⟩ := box2_keep hb3))
  obtain ⟨HN1, hA, hBc⟩ := num_store hN r0 r1
  have HB3 := Lib.hid (HB.out.trans (hb3.mono HB.out.size))
  go_wp2
  exact bodyPost_ret (v := .agg #[.int .i64 s2, .slice A2 k2 c2]) (by simp [results, Tryz.results77, go_sem, hA, hBc]) rfl ⟨s2, A2, k2, c2, rfl, HN1.out, (HB3.out.setCell (by simp <;> omega) _).setCell (by simp <;> omega) _⟩
end Go.Proofs.YtjieekkkaekclaaGreatDoor
namespace Go.Proofs.YtjieekkkaekclaaGreatDoor
open Go.RowKit Go.Proofs.YtjieekkkaekclaaGreatDoorW.PrintWords
theorem box1_keep {w w1 : World} {t t' : TypeId} {a b : Value} (hb : Below ((w.alloc (.cells #[a, b] t)).alloc (.cells #[.int .i64 0, .slice none 0 0] t')).heap.size ((w.alloc (.cells #[a, b] t)).alloc (.cells #[.int .i64 0, .slice none 0 0] t')) w1) :
    (w1.cell? ⟨w.heap.size, 0, none⟩ = some a ∧ w1.cell? ⟨w.heap.size, 1, none⟩ = some b) ∧ w1.cell? ⟨w.heap.size + 1, 0, none⟩ = some (.int .i64 0) ∧ w1.cell? ⟨w.heap.size + 1, 1, none⟩ = some (.slice none 0 0) ∧
    w1.frozen? ⟨w.heap.size + 1, 0, none⟩ = false ∧ w1.frozen? ⟨w.heap.size + 1, 1, none⟩ = false ∧ w.heap.size + 1 < w1.heap.size := by
  have h0 := hb.cell (p := ⟨w.heap.size, 0, none⟩) (by simp <;> omega)
  have h1 := hb.cell (p := ⟨w.heap.size, 1, none⟩) (by simp <;> omega)
  have h2 := hb.cell (p := ⟨w.heap.size + 1, 0, none⟩) (by simp)
  have h3 := hb.cell (p := ⟨w.heap.size + 1, 1, none⟩) (by simp)
  have h6 := hb.frozen (p := ⟨w.heap.size + 1, 0, none⟩) (by simp)
  have h7 := hb.frozen (p := ⟨w.heap.size + 1, 1, none⟩) (by simp)
  have h8 := hb.size
  simp [go_sem] at h0 h1 h2 h3 h6 h7 h8
  exact ⟨⟨h0, h1⟩, h2, h3, h6, h7, by omega⟩
theorem short_div {a q by_ r : Int} (h : a = q * by_ + r) (h0 : 0 ≤ r) (h1 : r < by_) : q = a / by_ ∧ r = a % by_ := by
  have hb : by_ ≠ 0 := by omega
  constructor
  · rw [h, Int.add_comm, Int.add_mul_ediv_right _ _ hb, Int.ediv_eq_zero_of_lt h0 h1, Int.zero_add]
  · rw [h, Int.add_comm, Int.add_mul_emod_self_right, Int.emod_eq_of_lt h0 h1]
set_option maxHeartbeats 1000000 in
theorem shorter_any {s : Int} {A : Option Addr} {k c : Nat} {n : Int} (w : World) (by_ : Int) (H : NumAt w s A k c n) (hn : n ≠ 0) (hk : k ≤ 900000) (hb0 : 1 ≤ by_) (hb1 : by_ < 1000000) :
    Calls Tryz.prog 119 #[.agg #[.int .i64 s, .slice A k c], .int .i64 by_] w fun e w' =>
      ∃ s2 A2 k2 c2, e = .returned (.tuple #[.agg #[.int .i64 s2, .slice A2 k2 c2], .int .i64 ((n.natAbs : Int) % by_)]) ∧ NumAt w' s2 A2 k2 c2 ((n.natAbs : Int) / by_) ∧ Below w.heap.size w w' := by
  have hb0' : Below w.heap.size w ((w.alloc (.cells #[.int .i64 s, .slice A k c] 71)).alloc (.cells #[.int .i64 0, .slice none 0 0] 71)) := ((Below.refl _ _).alloc (Nat.le_refl _) _).alloc (by simp) _
  have H1 := H.below hb0'
  have HB := Lib.hid hb0'
  obtain ⟨l, rfl, el, hc, hC, hi, hv⟩ := H1.named
  have HP : Hid (0 < l.length) := Lib.hid (by rw [el, lbs_len_pos]; omega)
  have HV := Lib.hid hv
  have HC := Lib.hid hC
  have HI := Lib.hid hi
  clear hb0' el hv hC hi
  go_enter Tryz.func119, Tryz.ntmps119
  go_wp2_with (first | (go_at_call 131; (with_reducible refine (shortly_any A l c by_ _ HC.out hc HI.out (by omega) hb0 (by omega)).mono ?_); rintro e w1 ⟨A1, l1, c1, r, rfl, hc1, hC1, hi1, hl1, hv1, hr0, hr1, hb1⟩; obtain ⟨⟨d0, d1⟩, r0, r1, f0, f1, z0⟩ := box1_keep hb1; have HV1 := Lib.hid hv1; have HC1 := Lib.hid hC1; have HI1 := Lib.hid hi1; have HL1 := Lib.hid hl1; clear hv1 hC1 hi1 hl1))
  have HD := Lib.hid (short_div (HV.out.symm.trans HV1.out) hr0 hr1)
  have HQ : Hid (0 ≤ (n.natAbs : Int) / by_) := Lib.hid (Int.ediv_nonneg (by omega) (by omega))
  refine (made_num 1 A1 l1 c1 ((n.natAbs : Int) / by_).toNat _ HC1.out (by rw [HL1.out]; exact HP.out) hc1 (by rw [HL1.out]; omega) HI1.out (by rw [HD.out.1, Int.toNat_of_nonneg HQ.out]) (.inl rfl)).mono ?_
  rintro e w2 ⟨s2, A2, k2, c2, rfl, hN, hb2⟩
  obtain ⟨⟨e0, e1⟩, q0, q1, g0, g1, z1⟩ := box1_keep (hb1.trans (hb2.mono hb1.size))
  rw [Int.toNat_of_nonneg HQ.out, Int.one_mul] at hN
  obtain ⟨HN1, hA, hBc⟩ := num_store hN q0 q1
  have HB3 := Lib.hid (HB.out.trans ((hb1.trans (hb2.mono hb1.size)).mono HB.out.size))
  go_wp2
  rw [← HD.out.2]
  exact bodyPost_ret (v := .tuple #[.agg #[.int .i64 s2, .slice A2 k2 c2], .int .i64 r]) (by simp [results, Tryz.results119, go_sem, hA, hBc]) rfl ⟨s2, A2, k2, c2, rfl, HN1.out, (HB3.out.setCell (by simp <;> omega) _).setCell (by simp <;> omega) _⟩
end Go.Proofs.YtjieekkkaekclaaGreatDoor
