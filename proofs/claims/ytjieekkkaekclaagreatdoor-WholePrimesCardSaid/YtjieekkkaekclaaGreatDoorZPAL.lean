/- Lemmas for the claim beside this text. -/
import Derived.Test.YtjieekkkaekclaaGreatDoorZPAA
import Derived.Test.YtjieekkkaekclaaGreatDoorZPAD
import Derived.Test.YtjieekkkaekclaaGreatDoorZPAF
import Derived.Test.YtjieekkkaekclaaGreatDoorZPAJ
set_option linter.all false
set_option linter.unusedVariables false
set_option linter.unusedSimpArgs false
namespace Go.Proofs.YtjieekkkaekclaaGreatDoor
open Go.RowKit Go.Proofs.YtjieekkkaekclaaGreatDoorW.PrintWords
theorem scaled_num {x by_ c : Int} (hx : 0 ≤ x ∧ x < 1000000000) (hb0 : 1 ≤ by_) (hb1 : by_ ≤ 1000000000) (hc : 0 ≤ c ∧ c < by_) :
    0 ≤ c + x * by_ ∧ c + x * by_ < 1000000000000000000 ∧ (c + x * by_) / 1000000000 < by_ := by
  have h1 : x * by_ ≤ 999999999 * by_ := Int.mul_le_mul_of_nonneg_right (by omega) (by omega)
  have h2 : 0 ≤ x * by_ := Int.mul_nonneg hx.1 (by omega)
  generalize x * by_ = z at *
  refine ⟨by omega, by omega, ?_⟩
  omega
theorem scaled_wrap {x by_ c : Int} (hx : 0 ≤ x ∧ x < 1000000000) (hb0 : 1 ≤ by_) (hb1 : by_ ≤ 1000000000) (hc : 0 ≤ c ∧ c < by_) :
    IntKind.u64.wrap ((IntKind.u64.wrap (c + IntKind.u64.wrap (x * by_))).tdiv 1000000000) = (c + x * by_) / 1000000000 ∧ (IntKind.u64.wrap (c + IntKind.u64.wrap (x * by_))).tmod 1000000000 % 4294967296 = (c + x * by_) % 1000000000 := by
  obtain ⟨h1, h2, h3⟩ := scaled_num hx hb0 hb1 hc
  have h4 : 0 ≤ x * by_ := Int.mul_nonneg hx.1 (by omega)
  rw [u64w h4 (by omega), u64w h1 (by omega), Int.tdiv_eq_ediv_of_nonneg h1, Int.tmod_eq_emod_of_nonneg h1]
  generalize c + x * by_ = z at *
  rw [u64w (by omega) (by omega)]
  exact ⟨rfl, by omega⟩
theorem scaled_step {out a : List Int} {j : Nat} {c x by_ : Int} (hj : j < a.length) (ho : j < out.length) (hx : a.getD j 0 = x)
    (h : Mw.lv 1000000000 (out.take j) + 1000000000 ^ j * c = Mw.lv 1000000000 (a.take j) * by_) :
    Mw.lv 1000000000 ((out.set j ((c + x * by_) % 1000000000)).take (j + 1)) + 1000000000 ^ (j + 1) * ((c + x * by_) / 1000000000) = Mw.lv 1000000000 (a.take (j + 1)) * by_ := by
  rw [take_set_succ _ _ _ ho, Mw.take_succ_getD a j hj, Mw.lv_snoc, Mw.lv_snoc, hx, List.length_take, List.length_take, Nat.min_eq_left (by omega), Nat.min_eq_left (by omega), Int.pow_succ, Int.add_mul, ← h]
  have e := Int.emod_add_mul_ediv (c + x * by_) 1000000000
  generalize (c + x * by_) % 1000000000 = r at *
  generalize (c + x * by_) / 1000000000 = q at *
  have e2 : (1000000000 : Int) ^ j * (r + 1000000000 * q) = 1000000000 ^ j * (c + x * by_) := by rw [e]
  generalize (1000000000 : Int) ^ j = P at *
  rw [Int.mul_add, Int.mul_add, ← Int.mul_assoc, ← Int.mul_assoc] at e2
  rw [Int.mul_assoc P 1000000000 q] at *
  rw [Int.mul_assoc P x by_] at *
  omega
set_option maxRecDepth 100000 in
set_option maxHeartbeats 1000000 in
theorem scaled_any (A0 : Option Addr) (a : List Int) (c0 : Nat) (by_ : Int) (w : World) (h0 : Kd.C (Kd.int .u32) w A0 a.length a) (hc0 : a.length ≤ c0)
    (ia : Mw.inB 1000000000 a) (hm : a.length ≤ 900000) (hb0 : 1 ≤ by_) (hb1 : by_ ≤ 1000000000) :
    Calls Tryz.prog 159 #[.slice A0 a.length c0, .int .u32 by_] w fun e w' => ∃ (g cap : Nat) (l : List Int), e = .returned (.slice (some ⟨g, 0, none⟩) (a.length + 1) cap) ∧ l.length = a.length + 1 ∧
      Kd.R (Kd.int .u32) 121 w' w.heap.size (fun _ => True) (.slice (some ⟨g, 0, none⟩) l.length cap) l ∧ Mw.inB 1000000000 l ∧ Mw.lv 1000000000 l = Mw.lv 1000000000 a * by_ ∧ Below w.heap.size w w' := by
  have H0 := Lib.hid h0
  have IA := Lib.hid ia
  clear h0 ia
  go_enter Tryz.func159, Tryz.ntmps159
  go_wp2_with (at_make; refine Kd.R_make (Kd.int .u32) (w0 := w) w.heap.size 121 rfl (N := 12) rfl 69 _ _ rfl ((a.length : Int) + 1) rfl rfl Tryz.underlying69 (.int .u32 0) 4 info_u32 rfl (by decide) (by omega) 0 (ok := fun _ => True) (okp := fun _ => True) rfl (fun _ hk => hk) trivial (by omega) (by omega) (Below.refl _ _) (Nat.le_refl _) ?_; intro v1 w1 hR hb hg_ hnew_; obtain ⟨g, cap, rfl, hgb, hgl, cells, hcells⟩ := Kd.R_form hR (by simp))
  obtain ⟨xs, hxs⟩ : ∃ xs : List Int, List.replicate ((a.length : Int) + 1).toNat (0 : Int) = xs := ⟨_, rfl⟩
  have hl0 : xs.length = a.length + 1 := by rw [← hxs]; simp
  rw [hxs] at hR
  have I0 : Hid (Mw.inB 1000000000 xs) := Lib.hid (by rw [← hxs]; intro y hy; rw [List.mem_replicate] at hy; omega)
  have HR0 := Lib.hid hR
  have HB0 := Lib.hid hb
  clear hR hb hg_ hnew_ hcells hxs
  go_loopw [6, 15] (fun v6 v15 wr => ∃ (j : Nat) (out : List Int) (c : Int), j ≤ a.length ∧ v15 = .int .i64 j ∧ v6 = .int .u64 c ∧ 0 ≤ c ∧ c < by_ ∧ out.length = a.length + 1 ∧ Hid (Kd.R (Kd.int .u32) 121 wr w.heap.size (fun _ => True) (.slice (some ⟨g, 0, none⟩) out.length cap) out) ∧ Hid (Mw.inB 1000000000 out) ∧ Hid (Mw.lv 1000000000 (out.take j) + 1000000000 ^ j * c = Mw.lv 1000000000 (a.take j) * by_) ∧ Hid (Below w.heap.size w wr)) (fun _ v15 _ => a.length - (intOf v15).toNat)
  case atStart => exact ⟨0, xs, 0, by omega, rfl, rfl, by omega, by omega, hl0, HR0, I0, Lib.hid (by simp [Mw.lv]), HB0⟩
  case round =>
    obtain ⟨j, out, c, hj, rfl, rfl, hc0', hc1, hlo, HO, IO, HE, HB⟩ := hrel
    by_cases hlt : j < a.length
    · obtain ⟨adp, eA, hcp⟩ := Kd.at_int (Kd.C_below H0.out HB.out) j (by omega) (by omega)
      obtain ⟨x, hx⟩ : ∃ x, a.getD j 0 = x := ⟨_, rfl⟩
      have hxb := Mw.inB_getD (by omega) IA.out j
      rw [hx] at hxb
      simp only [Int.toNat_natCast, rd] at hcp
      rw [hx] at hcp
      have hlt' : (j : Int) < a.length := by omega
      have hnum := scaled_num hxb hb0 hb1 ⟨hc0', hc1⟩
      have HS := Lib.hid (scaled_step hlt (by omega) hx HE.out)
      obtain ⟨hcl, hfr⟩ := Kd.R_cell (enc := .int .u32) 0 HO.out (j : Int) (by omega) (by omega)
      simp only [Int.toNat_natCast] at hcl hfr
      clear hx
      subst eA
      obtain ⟨w1_, w2_⟩ := scaled_wrap hxb hb0 hb1 ⟨hc0', hc1⟩
      have hbel := HB.out.setCell (p := ⟨g, j, none⟩) hgb (.int .u32 ((c + x * by_) % 1000000000))
      have hput := (Kd.R_put (h := HO.out) (j : Int) ((c + x * by_) % 1000000000)).1
      simp only [Int.toNat_natCast] at hput
      rw [show out.length = (out.set j ((c + x * by_) % 1000000000)).length by simp] at hput
      have HPUT := Lib.hid hput
      have HBEL := Lib.hid hbel
      have W1 := Lib.hid w1_
      have W2 := Lib.hid w2_
      have hq0 : 0 ≤ (c + x * by_) / 1000000000 := Int.ediv_nonneg hnum.1 (by omega)
      have hq1 := hnum.2.2
      have I1 : Hid (Mw.inB 1000000000 (out.set j ((c + x * by_) % 1000000000))) := Lib.hid (Mw.inB_set IO.out j (by omega) (by omega))
      clear hput hbel w1_ w2_ hnum
      go_wp2_with fail
      rw [W1.out, W2.out]
      refine ⟨⟨j + 1, out.set j ((c + x * by_) % 1000000000), _, hlt, by go_num, rfl, hq0, hq1, by simp [hlo], HPUT, I1, HS, HBEL⟩, ?_⟩
      simp [intOf]; omega
    · obtain rfl : j = a.length := by omega
      obtain ⟨hcl, hfr⟩ := Kd.R_cell (enc := .int .u32) 0 HO.out (a.length : Int) (by omega) (by omega)
      simp only [Int.toNat_natCast] at hcl hfr
      have hcw : c % 4294967296 = c := by omega
      have hbel := HB.out.setCell (p := ⟨g, a.length, none⟩) hgb (.int .u32 c)
      have hput := (Kd.R_put (h := HO.out) (a.length : Int) c).1
      simp only [Int.toNat_natCast] at hput
      have I1 : Mw.inB 1000000000 (out.set a.length c) := Mw.inB_set IO.out a.length (by omega) (by omega)
      have hlv : Mw.lv 1000000000 (out.set a.length c) = Mw.lv 1000000000 a * by_ := by
        have e1 := take_set_succ out a.length c (by omega)
        rw [List.take_of_length_le (by rw [List.length_set]; omega)] at e1
        have e2 := HE.out
        rw [List.take_length] at e2
        rw [e1, Mw.lv_snoc, List.length_take, Nat.min_eq_left (by omega), e2]
      rw [show out.length = (out.set a.length c).length by simp] at hput
      have HPUT := Lib.hid hput
      have HBEL := Lib.hid hbel
      have I2 := Lib.hid I1
      have HLV := Lib.hid hlv
      clear hput hbel I1 hlv
      go_wp2_with fail
      go_ret
      exact ⟨g, cap, out.set a.length c, rfl, by simp [hlo], HPUT.out, I2.out, HLV.out, HBEL.out⟩
end Go.Proofs.YtjieekkkaekclaaGreatDoor
namespace Go.Proofs.YtjieekkkaekclaaGreatDoor
theorem pull_num {y t c b h : Int} (hy : 0 ≤ y ∧ y < 1000000000) (ht : 0 ≤ t ∧ t ≤ 1000000000) (hc : 0 ≤ c ∧ c ≤ t) (_hb : 0 ≤ b ∧ b ≤ 1) (_hh : 0 ≤ h ∧ h < 1000000000) :
    0 ≤ y * t ∧ 0 ≤ c + y * t ∧ c + y * t ≤ 1000000000000000000 ∧ 0 ≤ (c + y * t) % 1000000000 ∧ (c + y * t) % 1000000000 < 1000000000 ∧ 0 ≤ (c + y * t) / 1000000000 ∧ (c + y * t) / 1000000000 ≤ t := by
  have h1 : y * t ≤ 999999999 * t := Int.mul_le_mul_of_nonneg_right (by omega) ht.1
  have h2 : 0 ≤ y * t := Int.mul_nonneg hy.1 ht.1
  generalize y * t = z at *
  refine ⟨h2, by omega, by omega, by omega, by omega, by omega, by omega⟩
theorem pull_step {a0 a b : List Int} {at_ j : Nat} {y t c bo h v bo' : Int} (hj : at_ + j < a.length) (hy : y = if j < b.length then b.getD j 0 else 0) (hh : a.getD (at_ + j) 0 = h)
    (hv : v = h - ((c + y * t) % 1000000000 + bo) + 1000000000 * bo')
    (H : Mw.lv 1000000000 a = Mw.lv 1000000000 a0 - 1000000000 ^ at_ * (Mw.lv 1000000000 (b.take j) * t) + 1000000000 ^ (at_ + j) * (c + bo)) :
    Mw.lv 1000000000 (a.set (at_ + j) v) = Mw.lv 1000000000 a0 - 1000000000 ^ at_ * (Mw.lv 1000000000 (b.take (j + 1)) * t) + 1000000000 ^ (at_ + (j + 1)) * ((c + y * t) / 1000000000 + bo') := by
  have hb : Mw.lv 1000000000 (b.take (j + 1)) = Mw.lv 1000000000 (b.take j) + 1000000000 ^ j * y := by
    by_cases h1 : j < b.length
    · rw [if_pos h1] at hy
      rw [Mw.take_succ_getD b j h1, Mw.lv_snoc, hy, List.length_take, Nat.min_eq_left (by omega)]
    · rw [if_neg h1] at hy
      rw [List.take_of_length_le (by omega), List.take_of_length_le (by omega), hy]; simp
  rw [Mw.lv_set _ _ _ hj, hh, hb, H, hv]
  have e := Int.emod_add_mul_ediv (c + y * t) 1000000000
  rw [show at_ + (j + 1) = at_ + j + 1 by omega, Int.pow_succ, Int.pow_add]
  generalize (c + y * t) % 1000000000 = r at *
  generalize (c + y * t) / 1000000000 = q at *
  generalize (1000000000 : Int) ^ at_ = P at *
  generalize (1000000000 : Int) ^ j = J at *
  generalize Mw.lv 1000000000 (b.take j) = L at *
  have e2 : P * J * (r + 1000000000 * q) = P * J * (c + y * t) := by rw [e]
  have d1 : P * ((L + J * y) * t) = P * (L * t) + P * J * (y * t) := by rw [Int.add_mul, Int.mul_add, Int.mul_assoc J y t, Int.mul_assoc P J]
  rw [d1]
  generalize P * J = Q at *
  generalize y * t = z at *
  generalize P * (L * t) = W at *
  rw [Int.mul_add, Int.mul_add] at e2
  have d2 : Q * (1000000000 * q) = Q * 1000000000 * q := (Int.mul_assoc ..).symm
  rw [show h - (r + bo) + 1000000000 * bo' - h = (1000000000 * bo') - (r + bo) by omega, Int.mul_sub, Int.mul_add, Int.mul_add, Int.mul_add]
  have d3 : Q * (1000000000 * bo') = Q * 1000000000 * bo' := (Int.mul_assoc ..).symm
  rw [d2] at e2
  rw [d3]
  omega
end Go.Proofs.YtjieekkkaekclaaGreatDoor
namespace Go.Proofs.YtjieekkkaekclaaGreatDoor
open Go.RowKit Go.Proofs.YtjieekkkaekclaaGreatDoorW.PrintWords
theorem pull_wrap {y t c b h : Int} (hy : 0 ≤ y ∧ y < 1000000000) (ht : 0 ≤ t ∧ t < 1000000000) (hc : 0 ≤ c ∧ c ≤ t) (hb : 0 ≤ b ∧ b ≤ 1) (hh : 0 ≤ h ∧ h < 1000000000) :
    IntKind.u64.wrap ((IntKind.u64.wrap (c + IntKind.u64.wrap (y * t))).tdiv 1000000000) = (c + y * t) / 1000000000 ∧
    IntKind.u64.wrap ((IntKind.u64.wrap (c + IntKind.u64.wrap (y * t))).tmod 1000000000 + b) = (c + y * t) % 1000000000 + b ∧
    IntKind.u64.wrap h = h ∧
    (((c + y * t) % 1000000000 + b ≤ h) → IntKind.u64.wrap (h - ((c + y * t) % 1000000000 + b)) % 4294967296 = h - ((c + y * t) % 1000000000 + b)) ∧
    ((h < (c + y * t) % 1000000000 + b) → IntKind.u64.wrap (IntKind.u64.wrap (h + 1000000000) - ((c + y * t) % 1000000000 + b)) % 4294967296 = h + 1000000000 - ((c + y * t) % 1000000000 + b)) := by
  obtain ⟨h1, h2, h3, h4, h5, h6, h7⟩ := pull_num hy ⟨ht.1, by omega⟩ hc hb hh
  rw [u64w h1 (by omega), u64w h2 (by omega), Int.tdiv_eq_ediv_of_nonneg h2, Int.tmod_eq_emod_of_nonneg h2]
  generalize (c + y * t) / 1000000000 = q at *
  generalize (c + y * t) % 1000000000 = r at *
  refine ⟨u64w h6 (by omega), u64w (by omega) (by omega), u64w hh.1 (by omega), fun hx => ?_, fun hx => ?_⟩
  · rw [u64w (by omega) (by omega)]; omega
  · rw [u64w (v := h + 1000000000) (by omega) (by omega), u64w (by omega) (by omega)]; omega
theorem drop_set_succ (l : List Int) (k : Nat) (v : Int) : (l.set k v).drop (k + 1) = l.drop (k + 1) := by
  rw [List.drop_set, if_pos (by omega)]
set_option maxRecDepth 100000 in
set_option maxHeartbeats 1000000 in
theorem pull_any (g cap : Nat) (l0 : List Int) (A1 : Option Addr) (c1 : Nat) (b : List Int) (at_ : Nat) (t : Int) (P : Nat → Prop) (w0 w : World) (hB : Below w0.heap.size w0 w) (hg : w0.heap.size ≤ g) (hP : P g)
    (ho : Kd.R (Kd.int .u32) 121 w w0.heap.size P (.slice (some ⟨g, 0, none⟩) l0.length cap) l0) (hr : ∀ W, Kept w W P → Kd.C (Kd.int .u32) W A1 b.length b) (hc1 : b.length ≤ c1)
    (i0 : Mw.inB 1000000000 l0) (ib : Mw.inB 1000000000 b) (hm : l0.length ≤ 900000) (hl : at_ + b.length < l0.length) (ht : 0 ≤ t ∧ t < 1000000000) :
    Calls Tryz.prog 160 #[.slice (some ⟨g, 0, none⟩) l0.length cap, .slice A1 b.length c1, .int .i64 at_, .int .u64 t] w fun e w' => ∃ (l : List Int) (bo : Int), e = .returned (.bool (bo != 0)) ∧ l.length = l0.length ∧ (bo = 0 ∨ bo = 1) ∧
      Kd.R (Kd.int .u32) 121 w' w0.heap.size P (.slice (some ⟨g, 0, none⟩) l.length cap) l ∧ Mw.inB 1000000000 l ∧
      Mw.lv 1000000000 l = Mw.lv 1000000000 l0 - 1000000000 ^ at_ * (Mw.lv 1000000000 b * t) + 1000000000 ^ (at_ + (b.length + 1)) * bo ∧ l.drop (at_ + (b.length + 1)) = l0.drop (at_ + (b.length + 1)) ∧ Below w0.heap.size w0 w' ∧ Kept w w' P := by
  have HO0 := Lib.hid ho
  have HR := Lib.hid hr
  have I0 := Lib.hid i0
  have IB := Lib.hid ib
  have HB0 := Lib.hid hB
  clear ho hr i0 ib hB
  go_enter Tryz.func160, Tryz.ntmps160
  go_wp2_with fail
  go_loopw [9, 10, 18] (fun v9 v10 v18 wr => ∃ (j : Nat) (out : List Int) (c bo : Int), j ≤ b.length + 1 ∧ v18 = .int .i64 j ∧ v9 = .int .u64 c ∧ v10 = .int .u64 bo ∧ 0 ≤ c ∧ c ≤ t ∧ 0 ≤ bo ∧ bo ≤ 1 ∧ out.length = l0.length ∧ Hid (Kd.R (Kd.int .u32) 121 wr w0.heap.size P (.slice (some ⟨g, 0, none⟩) out.length cap) out) ∧ Hid (Mw.inB 1000000000 out) ∧ Hid (Mw.lv 1000000000 out = Mw.lv 1000000000 l0 - 1000000000 ^ at_ * (Mw.lv 1000000000 (b.take j) * t) + 1000000000 ^ (at_ + j) * (c + bo)) ∧ Hid (out.drop (at_ + j) = l0.drop (at_ + j)) ∧ Hid (j = b.length + 1 → c = 0) ∧ Hid (Below w0.heap.size w0 wr) ∧ Hid (Kept w wr P)) (fun _ _ v18 _ => b.length + 1 - (intOf v18).toNat)
  case atStart => exact ⟨0, l0, 0, 0, by omega, rfl, rfl, rfl, by omega, by omega, by omega, by omega, rfl, HO0, I0, Lib.hid (by simp [Mw.lv]), Lib.hid rfl, Lib.hid (by omega), HB0, Lib.hid (Kept.refl w P)⟩
  case round =>
    obtain ⟨j, out, c, bo, hj, rfl, rfl, rfl, hc0, hc1, hbo0, hbo1, hlo, HO, IO, HE, HD, HZ, HB, HK⟩ := hrel
    by_cases hlt : j < b.length + 1
    · have hlt' : (j : Int) < (b.length : Int) + 1 := by omega
      obtain ⟨hcl, hfr⟩ := Kd.R_cell (enc := .int .u32) 0 HO.out ((at_ + j : Nat) : Int) (by omega) (by omega)
      simp only [Int.toNat_natCast] at hcl hfr
      by_cases hq : j < b.length
      · obtain ⟨adq, eB, hcq⟩ := Kd.at_int (HR.out wr HK.out) j (by omega) (by omega)
        obtain ⟨y, hy⟩ : ∃ x, b.getD j 0 = x := ⟨_, rfl⟩
        have hyb := Mw.inB_getD (by omega) IB.out j
        rw [hy] at hyb
        simp only [Int.toNat_natCast, rd] at hcq
        rw [hy] at hcq
        have hq' : (j : Int) < b.length := by omega
        obtain ⟨h, hh⟩ : ∃ h, rdOf 0 out ((at_ : Int) + j) = h := ⟨_, rfl⟩
        have hh' : out.getD (at_ + j) 0 = h := by rw [← hh]; unfold rdOf; congr 1
        have hhb := Mw.inB_getD (by omega) IO.out (at_ + j)
        rw [hh'] at hhb
        have hcl' : wr.cell? ⟨g, at_ + j, none⟩ = some (.int .u32 h) := by rw [hcl, ← hh, Int.natCast_add]
        subst eB
        clear hcl
        obtain ⟨W1, W2, W3, W4, W5⟩ := pull_wrap hyb ht ⟨hc0, hc1⟩ ⟨hbo0, hbo1⟩ hhb
        have hnum := pull_num hyb ⟨ht.1, by omega⟩ ⟨hc0, hc1⟩ ⟨hbo0, hbo1⟩ hhb
        have W1 := Lib.hid W1
        have W2 := Lib.hid W2
        have W3 := Lib.hid W3
        have W4 := Lib.hid W4
        have W5 := Lib.hid W5
        have NUM := Lib.hid hnum
        clear hnum
        have hclose : ∀ bo' v : Int, (bo' = 0 ∨ bo' = 1) → v = h - ((c + y * t) % 1000000000 + bo) + 1000000000 * bo' → 0 ≤ v → v < 1000000000 →
            (Kd.R (Kd.int .u32) 121 (wr.setCell ⟨g, at_ + j, none⟩ (.int .u32 v)) w0.heap.size P (.slice (some ⟨g, 0, none⟩) (out.set (at_ + j) v).length cap) (out.set (at_ + j) v)) ∧ Mw.inB 1000000000 (out.set (at_ + j) v) ∧
            (Mw.lv 1000000000 (out.set (at_ + j) v) = Mw.lv 1000000000 l0 - 1000000000 ^ at_ * (Mw.lv 1000000000 (b.take (j + 1)) * t) + 1000000000 ^ (at_ + (j + 1)) * ((c + y * t) / 1000000000 + bo')) ∧
            ((out.set (at_ + j) v).drop (at_ + (j + 1)) = l0.drop (at_ + (j + 1))) ∧ Below w0.heap.size w0 (wr.setCell ⟨g, at_ + j, none⟩ (.int .u32 v)) ∧ Kept w (wr.setCell ⟨g, at_ + j, none⟩ (.int .u32 v)) P := by
          intro bo' v hbo' hv hv0 hv1
          have hput := (Kd.R_put (h := HO.out) ((at_ + j : Nat) : Int) v).1
          simp only [Int.toNat_natCast] at hput
          refine ⟨by rw [List.length_set]; exact hput, Mw.inB_set IO.out _ hv0 hv1, pull_step (by omega) (by rw [if_pos hq]; exact hy.symm) hh' hv HE.out, ?_, HB.out.setCell hg _, HK.out.setCell (.inl hP) _⟩
          rw [show at_ + (j + 1) = at_ + j + 1 by omega, drop_set_succ, ← List.drop_drop, HD.out, List.drop_drop]
        have HCL := Lib.hid hclose
        clear hclose
        go_wp2_with fail
        case' roundEnd =>
          rename_i hcmp
          obtain ⟨n1, n2, n3, n4, n5, n6, n7⟩ := NUM.out
          obtain ⟨a1, a2, a3, a4, a5, a6⟩ := HCL.out 1 (h + 1000000000 - ((c + y * t) % 1000000000 + bo)) (.inr rfl) (by omega) (by omega) (by omega)
          refine ⟨⟨j + 1, _, _, 1, by omega, by go_num, rfl, rfl, n6, n7, by omega, by omega, by rw [List.length_set]; exact hlo, Lib.hid a1, Lib.hid a2, Lib.hid a3, Lib.hid a4, Lib.hid (by omega), Lib.hid a5, Lib.hid a6⟩, ?_⟩
          simp [intOf]; omega
        case' roundEnd =>
          rename_i hcmp
          obtain ⟨n1, n2, n3, n4, n5, n6, n7⟩ := NUM.out
          obtain ⟨a1, a2, a3, a4, a5, a6⟩ := HCL.out 0 (h - ((c + y * t) % 1000000000 + bo)) (.inl rfl) (by omega) (by omega) (by omega)
          refine ⟨⟨j + 1, _, _, 0, by omega, by go_num, rfl, rfl, n6, n7, by omega, by omega, by rw [List.length_set]; exact hlo, Lib.hid a1, Lib.hid a2, Lib.hid a3, Lib.hid a4, Lib.hid (by omega), Lib.hid a5, Lib.hid a6⟩, ?_⟩
          simp [intOf]; omega
      · have hq' : ¬ (j : Int) < b.length := by omega
        obtain ⟨h, hh⟩ : ∃ h, rdOf 0 out ((at_ : Int) + j) = h := ⟨_, rfl⟩
        have hh' : out.getD (at_ + j) 0 = h := by rw [← hh]; unfold rdOf; congr 1
        have hhb := Mw.inB_getD (by omega) IO.out (at_ + j)
        rw [hh'] at hhb
        have hcl' : wr.cell? ⟨g, at_ + j, none⟩ = some (.int .u32 h) := by rw [hcl, ← hh, Int.natCast_add]
        clear hcl
        obtain ⟨W1, W2, W3, W4, W5⟩ := pull_wrap (y := 0) ⟨by omega, by omega⟩ ht ⟨hc0, hc1⟩ ⟨hbo0, hbo1⟩ hhb
        have hnum := pull_num (y := 0) ⟨by omega, by omega⟩ ⟨ht.1, by omega⟩ ⟨hc0, hc1⟩ ⟨hbo0, hbo1⟩ hhb
        have W1 := Lib.hid W1
        have W2 := Lib.hid W2
        have W3 := Lib.hid W3
        have W4 := Lib.hid W4
        have W5 := Lib.hid W5
        have NUM := Lib.hid hnum
        clear hnum
        have hclose : ∀ bo' v : Int, (bo' = 0 ∨ bo' = 1) → v = h - ((c + 0 * t) % 1000000000 + bo) + 1000000000 * bo' → 0 ≤ v → v < 1000000000 →
            (Kd.R (Kd.int .u32) 121 (wr.setCell ⟨g, at_ + j, none⟩ (.int .u32 v)) w0.heap.size P (.slice (some ⟨g, 0, none⟩) (out.set (at_ + j) v).length cap) (out.set (at_ + j) v)) ∧ Mw.inB 1000000000 (out.set (at_ + j) v) ∧
            (Mw.lv 1000000000 (out.set (at_ + j) v) = Mw.lv 1000000000 l0 - 1000000000 ^ at_ * (Mw.lv 1000000000 (b.take (j + 1)) * t) + 1000000000 ^ (at_ + (j + 1)) * ((c + 0 * t) / 1000000000 + bo')) ∧
            ((out.set (at_ + j) v).drop (at_ + (j + 1)) = l0.drop (at_ + (j + 1))) ∧ Below w0.heap.size w0 (wr.setCell ⟨g, at_ + j, none⟩ (.int .u32 v)) ∧ Kept w (wr.setCell ⟨g, at_ + j, none⟩ (.int .u32 v)) P := by
          intro bo' v hbo' hv hv0 hv1
          have hput := (Kd.R_put (h := HO.out) ((at_ + j : Nat) : Int) v).1
          simp only [Int.toNat_natCast] at hput
          refine ⟨by rw [List.length_set]; exact hput, Mw.inB_set IO.out _ hv0 hv1, pull_step (by omega) (by rw [if_neg hq]) hh' hv HE.out, ?_, HB.out.setCell hg _, HK.out.setCell (.inl hP) _⟩
          rw [show at_ + (j + 1) = at_ + j + 1 by omega, drop_set_succ, ← List.drop_drop, HD.out, List.drop_drop]
        simp only [Int.zero_mul, Int.add_zero] at hclose
        have HCL2 := Lib.hid hclose
        clear hclose
        go_wp2_with fail
        case' roundEnd =>
          rename_i hcmp
          have nn := NUM.out
          simp only [Int.zero_mul, Int.add_zero] at nn
          obtain ⟨n1, n2, n3, n4, n5, n6, n7⟩ := nn
          have aa := HCL2.out 1 (h + 1000000000 - ((c) % 1000000000 + bo)) (.inr rfl) (by omega) (by omega) (by omega)
          obtain ⟨a1, a2, a3, a4, a5, a6⟩ := aa
          refine ⟨⟨j + 1, _, _, 1, by omega, by go_num, rfl, rfl, n6, n7, by omega, by omega, by rw [List.length_set]; exact hlo, Lib.hid a1, Lib.hid a2, Lib.hid a3, Lib.hid a4, Lib.hid (fun _ => by omega), Lib.hid a5, Lib.hid a6⟩, ?_⟩
          simp [intOf]; omega
        case' roundEnd =>
          rename_i hcmp
          have nn := NUM.out
          simp only [Int.zero_mul, Int.add_zero] at nn
          obtain ⟨n1, n2, n3, n4, n5, n6, n7⟩ := nn
          have aa := HCL2.out 0 (h - ((c) % 1000000000 + bo)) (.inl rfl) (by omega) (by omega) (by omega)
          obtain ⟨a1, a2, a3, a4, a5, a6⟩ := aa
          refine ⟨⟨j + 1, _, _, 0, by omega, by go_num, rfl, rfl, n6, n7, by omega, by omega, by rw [List.length_set]; exact hlo, Lib.hid a1, Lib.hid a2, Lib.hid a3, Lib.hid a4, Lib.hid (fun _ => by omega), Lib.hid a5, Lib.hid a6⟩, ?_⟩
          simp [intOf]; omega
    · obtain rfl : j = b.length + 1 := by omega
      have hlt' : ¬ ((b.length + 1 : Nat) : Int) < (b.length : Int) + 1 := by omega
      obtain rfl := HZ.out rfl
      go_wp2_with fail
      go_ret
      have h1 := HE.out
      rw [List.take_of_length_le (by omega), Int.zero_add] at h1
      refine ⟨out, bo, rfl, hlo, by omega, HO.out, IO.out, h1, HD.out, HB.out, HK.out⟩
end Go.Proofs.YtjieekkkaekclaaGreatDoor
namespace Go.Proofs.YtjieekkkaekclaaGreatDoor
open Go.RowKit Go.Proofs.YtjieekkkaekclaaGreatDoorW.PrintWords
theorem push_step {a0 a b : List Int} {at_ j : Nat} {y c h z : Int} (hj : at_ + j < a.length) (hy : y = if j < b.length then b.getD j 0 else 0) (hh : a.getD (at_ + j) 0 = h) (hz : z = h + c + y)
    (H : Mw.lv 1000000000 a = Mw.lv 1000000000 a0 + 1000000000 ^ at_ * Mw.lv 1000000000 (b.take j) - 1000000000 ^ (at_ + j) * c) :
    Mw.lv 1000000000 (a.set (at_ + j) (z % 1000000000)) = Mw.lv 1000000000 a0 + 1000000000 ^ at_ * Mw.lv 1000000000 (b.take (j + 1)) - 1000000000 ^ (at_ + (j + 1)) * (z / 1000000000) := by
  have hb : Mw.lv 1000000000 (b.take (j + 1)) = Mw.lv 1000000000 (b.take j) + 1000000000 ^ j * y := by
    by_cases h1 : j < b.length
    · rw [if_pos h1] at hy
      rw [Mw.take_succ_getD b j h1, Mw.lv_snoc, hy, List.length_take, Nat.min_eq_left (by omega)]
    · rw [if_neg h1] at hy
      rw [List.take_of_length_le (by omega), List.take_of_length_le (by omega), hy]; simp
  rw [Mw.lv_set _ _ _ hj, hh, hb, H]
  have e := Int.emod_add_mul_ediv z 1000000000
  rw [show at_ + (j + 1) = at_ + j + 1 by omega, Int.pow_succ, Int.pow_add]
  generalize z % 1000000000 = r at *
  generalize z / 1000000000 = q at *
  generalize (1000000000 : Int) ^ at_ = P at *
  generalize (1000000000 : Int) ^ j = J at *
  generalize Mw.lv 1000000000 (b.take j) = L at *
  have e2 : P * J * (r + 1000000000 * q) = P * J * (h + c + y) := by rw [e, hz]
  have d1 : P * (L + J * y) = P * L + P * J * y := by rw [Int.mul_add, Int.mul_assoc]
  rw [d1]
  generalize P * J = Q at *
  generalize P * L = W at *
  rw [Int.mul_add, Int.mul_add, Int.mul_add] at e2
  have d2 : Q * (1000000000 * q) = Q * 1000000000 * q := (Int.mul_assoc ..).symm
  rw [Int.mul_sub]
  rw [d2] at e2
  omega
set_option maxRecDepth 100000 in
set_option maxHeartbeats 1000000 in
theorem push_any (g cap : Nat) (l0 : List Int) (A1 : Option Addr) (c1 : Nat) (b : List Int) (at_ : Nat) (P : Nat → Prop) (w0 w : World) (hB : Below w0.heap.size w0 w) (hg : w0.heap.size ≤ g) (hP : P g)
    (ho : Kd.R (Kd.int .u32) 121 w w0.heap.size P (.slice (some ⟨g, 0, none⟩) l0.length cap) l0) (hr : ∀ W, Kept w W P → Kd.C (Kd.int .u32) W A1 b.length b) (hc1 : b.length ≤ c1)
    (i0 : Mw.inB 1000000000 l0) (ib : Mw.inB 1000000000 b) (hm : l0.length ≤ 900000) (hl : at_ + b.length < l0.length) :
    Calls Tryz.prog 161 #[.slice (some ⟨g, 0, none⟩) l0.length cap, .slice A1 b.length c1, .int .i64 at_] w fun e w' => e = .returned (.tuple #[]) ∧ ∃ (l : List Int) (co : Int), l.length = l0.length ∧ 0 ≤ co ∧ co ≤ 1 ∧
      Kd.R (Kd.int .u32) 121 w' w0.heap.size P (.slice (some ⟨g, 0, none⟩) l.length cap) l ∧ Mw.inB 1000000000 l ∧
      Mw.lv 1000000000 l = Mw.lv 1000000000 l0 + 1000000000 ^ at_ * Mw.lv 1000000000 b - 1000000000 ^ (at_ + (b.length + 1)) * co ∧ l.drop (at_ + (b.length + 1)) = l0.drop (at_ + (b.length + 1)) ∧ Below w0.heap.size w0 w' ∧ Kept w w' P := by
  have HO0 := Lib.hid ho
  have HR := Lib.hid hr
  have I0 := Lib.hid i0
  have IB := Lib.hid ib
  have HB0 := Lib.hid hB
  clear ho hr i0 ib hB
  go_enter Tryz.func161, Tryz.ntmps161
  go_wp2_with fail
  go_loopw [6, 12] (fun v6 v12 wr => ∃ (j : Nat) (out : List Int) (c : Int), j ≤ b.length + 1 ∧ v12 = .int .i64 j ∧ v6 = .int .u32 c ∧ 0 ≤ c ∧ c ≤ 1 ∧ out.length = l0.length ∧ Hid (Kd.R (Kd.int .u32) 121 wr w0.heap.size P (.slice (some ⟨g, 0, none⟩) out.length cap) out) ∧ Hid (Mw.inB 1000000000 out) ∧ Hid (Mw.lv 1000000000 out = Mw.lv 1000000000 l0 + 1000000000 ^ at_ * Mw.lv 1000000000 (b.take j) - 1000000000 ^ (at_ + j) * c) ∧ Hid (out.drop (at_ + j) = l0.drop (at_ + j)) ∧ Hid (Below w0.heap.size w0 wr) ∧ Hid (Kept w wr P)) (fun _ v12 _ => b.length + 1 - (intOf v12).toNat)
  case atStart => exact ⟨0, l0, 0, by omega, rfl, rfl, by omega, by omega, rfl, HO0, I0, Lib.hid (by simp [Mw.lv]), Lib.hid rfl, HB0, Lib.hid (Kept.refl w P)⟩
  case round =>
    obtain ⟨j, out, c, hj, rfl, rfl, hc0, hc1, hlo, HO, IO, HE, HD, HB, HK⟩ := hrel
    by_cases hlt : j < b.length + 1
    · have hlt' : (j : Int) < (b.length : Int) + 1 := by omega
      obtain ⟨hcl, hfr⟩ := Kd.R_cell (enc := .int .u32) 0 HO.out ((at_ + j : Nat) : Int) (by omega) (by omega)
      simp only [Int.toNat_natCast] at hcl hfr
      obtain ⟨h, hh⟩ : ∃ h, rdOf 0 out ((at_ : Int) + j) = h := ⟨_, rfl⟩
      have hh' : out.getD (at_ + j) 0 = h := by rw [← hh]; unfold rdOf; congr 1
      have hhb := Mw.inB_getD (by omega) IO.out (at_ + j)
      rw [hh'] at hhb
      have hcl' : wr.cell? ⟨g, at_ + j, none⟩ = some (.int .u32 h) := by rw [hcl, ← hh, Int.natCast_add]
      clear hcl
      have HCL : Hid (∀ y z : Int, (y = if j < b.length then b.getD j 0 else 0) → z = h + c + y →
          (Kd.R (Kd.int .u32) 121 (wr.setCell ⟨g, at_ + j, none⟩ (.int .u32 (z % 1000000000))) w0.heap.size P (.slice (some ⟨g, 0, none⟩) (out.set (at_ + j) (z % 1000000000)).length cap) (out.set (at_ + j) (z % 1000000000))) ∧ Mw.inB 1000000000 (out.set (at_ + j) (z % 1000000000)) ∧
          (Mw.lv 1000000000 (out.set (at_ + j) (z % 1000000000)) = Mw.lv 1000000000 l0 + 1000000000 ^ at_ * Mw.lv 1000000000 (b.take (j + 1)) - 1000000000 ^ (at_ + (j + 1)) * (z / 1000000000)) ∧
          ((out.set (at_ + j) (z % 1000000000)).drop (at_ + (j + 1)) = l0.drop (at_ + (j + 1))) ∧ Below w0.heap.size w0 (wr.setCell ⟨g, at_ + j, none⟩ (.int .u32 (z % 1000000000))) ∧ Kept w (wr.setCell ⟨g, at_ + j, none⟩ (.int .u32 (z % 1000000000))) P) := Lib.hid (by
        intro y z hy hz
        have hput := (Kd.R_put (h := HO.out) ((at_ + j : Nat) : Int) (z % 1000000000)).1
        simp only [Int.toNat_natCast] at hput
        refine ⟨by rw [List.length_set]; exact hput, Mw.inB_set IO.out _ (by omega) (by omega), push_step (by omega) hy hh' hz HE.out, ?_, HB.out.setCell hg _, HK.out.setCell (.inl hP) _⟩
        rw [show at_ + (j + 1) = at_ + j + 1 by omega, drop_set_succ, ← List.drop_drop, HD.out, List.drop_drop])
      by_cases hq : j < b.length
      · obtain ⟨adq, eB, hcq⟩ := Kd.at_int (HR.out wr HK.out) j (by omega) (by omega)
        obtain ⟨y, hy⟩ : ∃ x, b.getD j 0 = x := ⟨_, rfl⟩
        have hyb := Mw.inB_getD (by omega) IB.out j
        rw [hy] at hyb
        simp only [Int.toNat_natCast, rd] at hcq
        rw [hy] at hcq
        have hq' : (j : Int) < b.length := by omega
        obtain ⟨a1, a2, a3, a4, a5, a6⟩ := HCL.out y _ (by rw [if_pos hq]; exact hy.symm) rfl
        subst eB
        go_wp2_with fail
        case' roundEnd =>
          refine ⟨⟨j + 1, _, _, by omega, by go_num, rfl, by omega, by omega, by rw [List.length_set]; exact hlo, Lib.hid a1, Lib.hid a2, Lib.hid a3, Lib.hid a4, Lib.hid a5, Lib.hid a6⟩, ?_⟩
          simp [intOf]; omega
      · have hq' : ¬ (j : Int) < b.length := by omega
        obtain ⟨a1, a2, a3, a4, a5, a6⟩ := HCL.out 0 (h + c) (by rw [if_neg hq]) (by omega)
        go_wp2_with fail
        case' roundEnd =>
          refine ⟨⟨j + 1, _, _, by omega, by go_num, rfl, by omega, by omega, by rw [List.length_set]; exact hlo, Lib.hid a1, Lib.hid a2, Lib.hid a3, Lib.hid a4, Lib.hid a5, Lib.hid a6⟩, ?_⟩
          simp [intOf]; omega
    · obtain rfl : j = b.length + 1 := by omega
      have hlt' : ¬ ((b.length + 1 : Nat) : Int) < (b.length : Int) + 1 := by omega
      go_wp2_with fail
      have h1 := HE.out
      rw [List.take_of_length_le (by omega)] at h1
      exact bodyPost_end (v := .tuple #[]) (by simp [results, Tryz.results161, go_sem]) rfl ⟨rfl, out, hlo, c, hc0, hc1, HO.out, IO.out, h1, HD.out, HB.out, HK.out⟩
end Go.Proofs.YtjieekkkaekclaaGreatDoor
namespace Mw
theorem kn_mul_le {a b c : Int} (h : a ≤ b) (hc : 0 ≤ c) : a * c ≤ b * c := Int.mul_le_mul_of_nonneg_right h hc
theorem kn_down {B K U V v1 v2 top u3 g r : Int} (hK : 0 < K) (hg : 0 ≤ g)
    (hV : (v1 * B + v2) * K ≤ V) (hU : U < (top * B + u3 + 1) * K)
    (hr : top = g * v1 + r) (ht : r * B + u3 < g * v2) : U < g * V := by
  have h1 : g * ((v1 * B + v2) * K) ≤ g * V := Int.mul_le_mul_of_nonneg_left hV hg
  have h2 : top * B + u3 + 1 ≤ g * (v1 * B + v2) := by
    rw [hr, Int.add_mul, Int.mul_add, ← Int.mul_assoc]; omega
  have h3 := kn_mul_le h2 (Int.le_of_lt hK)
  rw [← Int.mul_assoc] at h1
  omega
theorem kn_up {B K U V v1 v2 top u3 g r : Int} (hK : 0 < K) (hB : 0 < B) (hg : 0 ≤ g) (hgB : g < B) (hv1 : 1 ≤ v1) (hv2 : 0 ≤ v2)
    (hV : V < (v1 * B + v2 + 1) * K) (hV' : (v1 * B + v2) * K ≤ V) (hU : (top * B + u3) * K ≤ U)
    (hr : top = g * v1 + r) (ht : g * v2 ≤ r * B + u3) : (g - 1) * V ≤ U := by
  by_cases h0 : g = 0
  · subst h0
    have : 0 ≤ V := by
      have h4 : 0 ≤ (v1 * B + v2) := by
        have := Int.mul_nonneg (show 0 ≤ v1 by omega) (Int.le_of_lt hB)
        omega
      have := Int.mul_nonneg h4 (Int.le_of_lt hK)
      omega
    have h5 : 0 ≤ U := by
      have h6 : 0 ≤ top * B + u3 := by
        have e : top = r := by omega
        rw [e]; omega
      have := Int.mul_nonneg h6 (Int.le_of_lt hK)
      omega
    have : (0 - 1) * V = -V := by omega
    omega
  · have h1 : g * V ≤ g * ((v1 * B + v2 + 1) * K) := Int.mul_le_mul_of_nonneg_left (Int.le_of_lt hV) hg
    have h2 : g * (v1 * B + v2) ≤ top * B + u3 := by
      rw [hr, Int.add_mul, Int.mul_add, ← Int.mul_assoc]; omega
    have h3 := kn_mul_le h2 (Int.le_of_lt hK)
    have e1 : g * ((v1 * B + v2 + 1) * K) = g * (v1 * B + v2) * K + g * K := by
      rw [← Int.mul_assoc, Int.mul_add g _ 1, Int.add_mul, Int.mul_one]
    have h4 : g * K ≤ B * K := kn_mul_le (by omega) (Int.le_of_lt hK)
    have h5 : B * K ≤ V := by
      have h6 : B ≤ v1 * B + v2 := by
        have : 1 * B ≤ v1 * B := kn_mul_le hv1 (Int.le_of_lt hB)
        omega
      have := kn_mul_le h6 (Int.le_of_lt hK)
      omega
    have e2 : (g - 1) * V = g * V - V := by rw [Int.sub_mul, Int.one_mul]
    omega
end Mw
namespace Go.Proofs.YtjieekkkaekclaaGreatDoor
def Better (B K U V v1 top g r : Int) : Prop := top = g * v1 + r ∧ 0 ≤ r ∧ 0 ≤ g ∧ U < (g + 1) * V
theorem better_start {B K U V v1 v2 top u3 : Int} (hK : 0 < K) (hB : 0 < B) (hv1 : 1 ≤ v1) (hv2 : 0 ≤ v2) (hu3 : u3 < B) (ht : 0 ≤ top)
    (hV' : (v1 * B + v2) * K ≤ V) (hU : U < (top * B + u3 + 1) * K) : Better B K U V v1 top (top / v1) (top % v1) := by
  have e := Int.emod_add_mul_ediv top v1
  have h1 := Int.emod_nonneg top (show v1 ≠ 0 by omega)
  have h2 := Int.emod_lt_of_pos top (show 0 < v1 by omega)
  have h3 : 0 ≤ top / v1 := Int.ediv_nonneg ht (by omega)
  refine ⟨by rw [Int.mul_comm]; omega, h1, h3, ?_⟩
  generalize top / v1 = q at *
  generalize top % v1 = r at *
  have a1 : top + 1 ≤ (q + 1) * v1 := by rw [Int.add_mul, Int.mul_comm q v1]; omega
  have a2 : (top + 1) * B ≤ (q + 1) * v1 * B := Mw.kn_mul_le a1 (by omega)
  have a3 : (q + 1) * v1 * B ≤ (q + 1) * (v1 * B + v2) := by
    rw [Int.mul_add, Int.mul_assoc]
    have := Int.mul_nonneg (show 0 ≤ q + 1 by omega) hv2
    omega
  have a4 : top * B + u3 + 1 ≤ (q + 1) * (v1 * B + v2) := by rw [Int.add_mul] at a2; omega
  have a5 := Mw.kn_mul_le a4 (Int.le_of_lt hK)
  have a6 : (q + 1) * ((v1 * B + v2) * K) ≤ (q + 1) * V := Int.mul_le_mul_of_nonneg_left hV' (by omega)
  rw [← Int.mul_assoc] at a6
  omega
theorem better_down {B K U V v1 v2 top u3 g r : Int} (hK : 0 < K) (hB : 0 < B) (hv1 : 1 ≤ v1) (hv2 : 0 ≤ v2) (hu3 : 0 ≤ u3) (hV0 : 0 ≤ V)
    (hV' : (v1 * B + v2) * K ≤ V) (hU : U < (top * B + u3 + 1) * K) (hUB : U < B * V) (h : Better B K U V v1 top g r) (ht : B ≤ g ∨ r * B + u3 < g * v2) :
    1 ≤ g ∧ Better B K U V v1 top (g - 1) (r + v1) := by
  obtain ⟨h1, h2, h3, h4⟩ := h
  have hg : 1 ≤ g := by
    rcases ht with ht | ht
    · omega
    · by_cases h0 : g = 0
      · subst h0
        have := Int.mul_nonneg h2 (Int.le_of_lt hB)
        omega
      · omega
  refine ⟨hg, by rw [Int.sub_mul]; omega, by omega, by omega, ?_⟩
  rw [show g - 1 + 1 = g by omega]
  rcases ht with ht | ht
  · have := Mw.kn_mul_le ht hV0
    omega
  · exact Mw.kn_down hK h3 hV' hU h1 ht
theorem better_end {B K U V v1 v2 top u3 g r : Int} (hK : 0 < K) (hB : 0 < B) (hv1 : 1 ≤ v1) (hv2 : 0 ≤ v2) (hv2B : v2 < B) (hu3 : 0 ≤ u3)
    (hV : V < (v1 * B + v2 + 1) * K) (hV' : (v1 * B + v2) * K ≤ V) (hU : (top * B + u3) * K ≤ U) (hUB : U < B * V) (h : Better B K U V v1 top g r) (ht : (g < B ∧ g * v2 ≤ r * B + u3) ∨ B ≤ r) :
    g < B ∧ (g - 1) * V ≤ U := by
  obtain ⟨h1, h2, h3, h4⟩ := h
  have hgt : g < B ∧ g * v2 ≤ r * B + u3 := by
    rcases ht with ht | ht
    · exact ht
    · have e1 : B * V ≤ B * ((v1 * B + v2 + 1) * K) := Int.mul_le_mul_of_nonneg_left (Int.le_of_lt hV) (Int.le_of_lt hB)
      rw [← Int.mul_assoc] at e1
      have e2 : (top * B + u3) * K < B * (v1 * B + v2 + 1) * K := by omega
      have e3 := Int.lt_of_mul_lt_mul_right e2 (Int.le_of_lt hK)
      have e4 : B * (v1 * B + v2 + 1) ≤ B * (v1 * B + B) := Int.mul_le_mul_of_nonneg_left (by omega) (Int.le_of_lt hB)
      have e5 : top * B < (B * v1 + B) * B := by
        have : B * (v1 * B + B) = (B * v1 + B) * B := by rw [Int.add_mul, Int.mul_add, Int.mul_assoc]
        omega
      have e6 := Int.lt_of_mul_lt_mul_right e5 (Int.le_of_lt hB)
      have e7 : g * v1 < B * v1 := by omega
      have hg := Int.lt_of_mul_lt_mul_right e7 (by omega)
      have e8 : g * v2 ≤ B * v2 := Mw.kn_mul_le (by omega) hv2
      have e9 : B * v2 ≤ B * B := Int.mul_le_mul_of_nonneg_left (by omega) (Int.le_of_lt hB)
      have e10 : B * B ≤ r * B := Mw.kn_mul_le ht (Int.le_of_lt hB)
      exact ⟨hg, by omega⟩
  exact ⟨hgt.1, Mw.kn_up hK hB h3 hgt.1 hv1 hv2 hV hV' hU h1 hgt.2⟩
theorem drop_getD (l : List Int) (m : Nat) (h : m < l.length) : l.drop m = l.getD m 0 :: l.drop (m + 1) := by
  rw [List.drop_eq_getElem_cons h]
  simp [List.getD_eq_getElem?_getD, h]
theorem two_top {B : Int} (hB : 0 < B) {l : List Int} {m : Nat} (hl : l.length = m + 2) (hi : Mw.inB B l) :
    0 < B ^ m ∧ Mw.lv B l < (l.getD (m + 1) 0 * B + l.getD m 0 + 1) * B ^ m ∧ (l.getD (m + 1) 0 * B + l.getD m 0) * B ^ m ≤ Mw.lv B l := by
  have hK : 0 < B ^ m := Int.pow_pos hB
  have e := Mw.lv_take_drop B l m (by omega)
  rw [drop_getD l m (by omega), drop_getD l (m + 1) (by omega), List.drop_of_length_le (by omega), Mw.lv_cons, Mw.lv_cons, Mw.lv_nil] at e
  have hit : Mw.inB B (l.take m) := fun y hy => hi y (List.mem_of_mem_take hy)
  have h1 := Mw.lv_nonneg hB hit
  have h2 := Mw.lv_lt hB hit
  rw [List.length_take, Nat.min_eq_left (by omega)] at h2
  generalize l.getD (m + 1) 0 = x at *
  generalize l.getD m 0 = y at *
  have e2 : B ^ m * (y + B * (x + B * 0)) = (x * B + y) * B ^ m := by
    rw [Int.mul_zero, Int.add_zero, Int.mul_comm (B ^ m), Int.mul_comm B x, Int.add_comm y]
  rw [e2] at e
  refine ⟨hK, ?_, by omega⟩
  rw [Int.add_mul _ 1, Int.one_mul]
  omega
theorem three_top {B : Int} (hB : 0 < B) {l : List Int} {m : Nat} (hl : m + 3 ≤ l.length) (hi : Mw.inB B l) (hz : Mw.lv B (l.drop (m + 3)) = 0) :
    Mw.lv B l < ((l.getD (m + 2) 0 * B + l.getD (m + 1) 0) * B + l.getD m 0 + 1) * B ^ m ∧ ((l.getD (m + 2) 0 * B + l.getD (m + 1) 0) * B + l.getD m 0) * B ^ m ≤ Mw.lv B l := by
  have e := Mw.lv_take_drop B l m (by omega)
  rw [drop_getD l m (by omega), drop_getD l (m + 1) (by omega), drop_getD l (m + 1 + 1) (by omega), Mw.lv_cons, Mw.lv_cons, Mw.lv_cons, hz] at e
  have hit : Mw.inB B (l.take m) := fun y hy => hi y (List.mem_of_mem_take hy)
  have h1 := Mw.lv_nonneg hB hit
  have h2 := Mw.lv_lt hB hit
  rw [List.length_take, Nat.min_eq_left (by omega)] at h2
  rw [show m + 1 + 1 = m + 2 by omega] at e
  generalize l.getD (m + 2) 0 = x at *
  generalize l.getD (m + 1) 0 = y at *
  generalize l.getD m 0 = z at *
  have e2 : B ^ m * (z + B * (y + B * (x + B * 0))) = ((x * B + y) * B + z) * B ^ m := by
    rw [Int.mul_zero, Int.add_zero, Int.mul_comm (B ^ m), Int.mul_comm B x, Int.add_comm y, Int.mul_comm B (x * B + y), Int.add_comm z]
  rw [e2] at e
  refine ⟨?_, by omega⟩
  rw [Int.add_mul _ 1, Int.one_mul]
  omega
theorem win {B d : Int} (hB : 0 < B) {l l0 : List Int} {at_ : Nat} (h1 : at_ ≤ l.length) (h0 : at_ ≤ l0.length) (hi : Mw.inB B l) (hi0 : Mw.inB B l0) (E : Mw.lv B l = Mw.lv B l0 + B ^ at_ * d) :
    Mw.lv B (l.drop at_) = Mw.lv B (l0.drop at_) + d := by
  have e := Mw.lv_take_drop B l at_ h1
  have e0 := Mw.lv_take_drop B l0 at_ h0
  have hK : 0 < B ^ at_ := Int.pow_pos hB
  have a1 := Mw.lv_nonneg hB (show Mw.inB B (l.take at_) from fun y hy => hi y (List.mem_of_mem_take hy))
  have a2 := Mw.lv_lt hB (show Mw.inB B (l.take at_) from fun y hy => hi y (List.mem_of_mem_take hy))
  have b1 := Mw.lv_nonneg hB (show Mw.inB B (l0.take at_) from fun y hy => hi0 y (List.mem_of_mem_take hy))
  have b2 := Mw.lv_lt hB (show Mw.inB B (l0.take at_) from fun y hy => hi0 y (List.mem_of_mem_take hy))
  rw [List.length_take, Nat.min_eq_left (by omega)] at a2 b2
  generalize Mw.lv B (l.take at_) = x at *
  generalize Mw.lv B (l0.take at_) = x0 at *
  generalize Mw.lv B (l.drop at_) = y at *
  generalize Mw.lv B (l0.drop at_) = y0 at *
  generalize B ^ at_ = K at *
  rw [e, e0] at E
  have e3 : K * (y - y0 - d) = x0 - x := by rw [Int.mul_sub, Int.mul_sub]; omega
  have e4 : y - y0 - d = 0 := by
    generalize y - y0 - d = z at *
    rcases Int.lt_trichotomy z 0 with h | h | h
    · have : K * z ≤ K * (-1) := Int.mul_le_mul_of_nonneg_left (by omega) (by omega)
      omega
    · exact h
    · have : K * 1 ≤ K * z := Int.mul_le_mul_of_nonneg_left (by omega) (by omega)
      omega
  omega
theorem win_lt {B : Int} (hB : 0 < B) {l : List Int} {at_ n : Nat} (hl : at_ + n ≤ l.length) (hi : Mw.inB B l) (hz : Mw.lv B (l.drop (at_ + n)) = 0) : 0 ≤ Mw.lv B (l.drop at_) ∧ Mw.lv B (l.drop at_) < B ^ n := by
  have hid : Mw.inB B (l.drop at_) := fun y hy => hi y (List.mem_of_mem_drop hy)
  have e := Mw.lv_take_drop B (l.drop at_) n (by rw [List.length_drop]; omega)
  rw [List.drop_drop, hz, Int.mul_zero, Int.add_zero] at e
  have a2 := Mw.lv_lt hB (show Mw.inB B ((l.drop at_).take n) from fun y hy => hid y (List.mem_of_mem_take hy))
  rw [List.length_take, List.length_drop, Nat.min_eq_left (by omega)] at a2
  exact ⟨Mw.lv_nonneg hB hid, by omega⟩
theorem pulled {B V g bo : Int} (hB : 0 < B) {l l0 : List Int} {at_ n : Nat} (hl : l.length = l0.length) (hn : at_ + (n + 1) ≤ l0.length) (hi : Mw.inB B l) (hi0 : Mw.inB B l0)
    (hd : l.drop (at_ + (n + 1)) = l0.drop (at_ + (n + 1))) (hz : Mw.lv B (l0.drop (at_ + (n + 1))) = 0) (hbo : bo = 0 ∨ bo = 1)
    (E : Mw.lv B l = Mw.lv B l0 - B ^ at_ * (V * g) + B ^ (at_ + (n + 1)) * bo) :
    (bo = 0 ∧ g * V ≤ Mw.lv B (l0.drop at_) ∧ Mw.lv B (l.drop at_) = Mw.lv B (l0.drop at_) - g * V) ∨ (bo = 1 ∧ Mw.lv B (l0.drop at_) < g * V ∧ Mw.lv B (l.drop at_) = Mw.lv B (l0.drop at_) - g * V + B ^ (n + 1)) := by
  have w0 := win_lt hB hn hi0 hz
  have w1 := win_lt (n := n + 1) hB (by rw [hl]; exact hn) hi (by rw [hd]; exact hz)
  have e := win (d := B ^ (n + 1) * bo - V * g) hB (by rw [hl]; exact Nat.le_trans (Nat.le_add_right _ _) hn) (Nat.le_trans (Nat.le_add_right _ _) hn) hi hi0 (by rw [E, Int.mul_sub, Int.pow_add B at_ (n + 1), Int.mul_assoc]; omega)
  clear E
  rw [Int.mul_comm V g] at e
  generalize g * V = z at *
  generalize B ^ (n + 1) = K at *
  rcases hbo with rfl | rfl
  · left; refine ⟨rfl, by omega, by omega⟩
  · right; refine ⟨rfl, by omega, by omega⟩
theorem pushed {B V co U : Int} (hB : 0 < B) {l l0 : List Int} {at_ n : Nat} (hl : l.length = l0.length) (hn : at_ + (n + 1) ≤ l0.length) (hi : Mw.inB B l) (hi0 : Mw.inB B l0)
    (hd : l.drop (at_ + (n + 1)) = l0.drop (at_ + (n + 1))) (hz : Mw.lv B (l0.drop (at_ + (n + 1))) = 0) (hco0 : 0 ≤ co) (hco1 : co ≤ 1) (hU : 0 ≤ U)
    (h0 : Mw.lv B (l0.drop at_) = U - V + B ^ (n + 1))
    (E : Mw.lv B l = Mw.lv B l0 + B ^ at_ * V - B ^ (at_ + (n + 1)) * co) :
    Mw.lv B (l.drop at_) = U := by
  have w1 := win_lt (n := n + 1) hB (by rw [hl]; exact hn) hi (by rw [hd]; exact hz)
  have e := win (d := V - B ^ (n + 1) * co) hB (by rw [hl]; exact Nat.le_trans (Nat.le_add_right _ _) hn) (Nat.le_trans (Nat.le_add_right _ _) hn) hi hi0 (by rw [E, Int.mul_sub, Int.pow_add B at_ (n + 1), Int.mul_assoc]; omega)
  have hc : co = 0 ∨ co = 1 := by omega
  generalize B ^ (n + 1) = K at *
  rcases hc with rfl | rfl <;> omega
end Go.Proofs.YtjieekkkaekclaaGreatDoor
