/- Lemmas for the claim beside this text. -/
import Derived.Test.YtjieekkkaekclaaGreatDoorZPAC
import Derived.Test.YtjieekkkaekclaaGreatDoorZPAD
import Derived.Test.YtjieekkkaekclaaGreatDoorZPAF
import Derived.Test.YtjieekkkaekclaaGreatDoorZPAG
import Derived.Test.YtjieekkkaekclaaGreatDoorZPAH
import Derived.Test.YtjieekkkaekclaaGreatDoorZPAI
set_option linter.all false
set_option linter.unusedVariables false
set_option linter.unusedSimpArgs false
namespace Go.Proofs.YtjieekkkaekclaaGreatDoor
open Go.RowKit Go.Proofs.YtjieekkkaekclaaGreatDoorW.PrintWords Go.Proofs.YtjieekkkaekclaaGreatDoor.PL
theorem wrap_nat {i : Nat} (h : i ≤ 1000000000000) : wrap64 ((i : Int) + 1) = ((i + 1 : Nat) : Int) := by unfold wrap64; omega
theorem wrap_sum {i j : Nat} (h : i + j ≤ 1000000000000) : wrap64 ((i : Int) + (j : Int)) = ((i + j : Nat) : Int) := by unfold wrap64; omega
theorem rd_nat (l : List Int) (i : Nat) : rd l (i : Int) = l.getD i 0 := by simp [rd]
theorem take_set_succ (l : List Int) (i : Nat) (v : Int) (h : i < l.length) : (l.set i v).take (i + 1) = l.take i ++ [v] := by
  rw [Mw.take_succ_getD _ _ (by rw [List.length_set]; exact h), List.take_set_of_le (Nat.le_refl _)]
  simp [List.getD_eq_getElem?_getD, h]
theorem lesser_step {a b o : List Int} {br : Int} {i : Nat} (hi : i < a.length) (v y x br' : Int) (hx : a.getD i 0 = x) (hy : y = if i < b.length then b.getD i 0 else 0)
    (hv : v - 1000000000 * br' = x - br - y) (ho : i ≤ o.length)
    (h : Mw.lv 1000000000 (o.take i) - 1000000000 ^ i * br = Mw.lv 1000000000 (a.take i) - Mw.lv 1000000000 (b.take i)) :
    Mw.lv 1000000000 (o.take i ++ [v]) - 1000000000 ^ (i + 1) * br' = Mw.lv 1000000000 (a.take (i + 1)) - Mw.lv 1000000000 (b.take (i + 1)) := by
  have hq : Mw.lv 1000000000 (b.take (i + 1)) = Mw.lv 1000000000 (b.take i) + 1000000000 ^ i * y := by
    by_cases h1 : i < b.length
    · rw [if_pos h1] at hy
      rw [Mw.take_succ_getD b i h1, Mw.lv_snoc, hy, List.length_take, Nat.min_eq_left (by omega)]
    · rw [if_neg h1] at hy
      rw [List.take_of_length_le (by omega), List.take_of_length_le (by omega), hy]; simp
  rw [Mw.take_succ_getD a i hi, Mw.lv_snoc, Mw.lv_snoc, hx, hq, List.length_take, List.length_take, Nat.min_eq_left (by omega), Nat.min_eq_left (by omega), Int.pow_succ]
  generalize hP : (1000000000 : Int) ^ i = P at *
  have e1 : P * v - P * 1000000000 * br' = P * x - P * br - P * y := by
    rw [Int.mul_assoc, ← Int.mul_sub, hv, Int.mul_sub, Int.mul_sub]
  omega
theorem lesser_loop (a b : List Int) (ia : Mw.inB 1000000000 a) (ib : Mw.inB 1000000000 b) (hm : a.length ≤ 1000000) (d : Nat) : ∀ (k i : Nat) (o : List Int) (br : Int), a.length - i = d → d < k → i ≤ a.length → o.length = a.length → Mw.inB 1000000000 o → 0 ≤ br → br ≤ 1 →
    Mw.lv 1000000000 (o.take i) - 1000000000 ^ i * br = Mw.lv 1000000000 (a.take i) - Mw.lv 1000000000 (b.take i) →
    ∃ r br', limbs_lesser.l0 k b o br a (a.length : Int) (i : Int) = some r ∧ r.length = a.length ∧ Mw.inB 1000000000 r ∧ 0 ≤ br' ∧ br' ≤ 1 ∧
      Mw.lv 1000000000 r - 1000000000 ^ a.length * br' = Mw.lv 1000000000 a - Mw.lv 1000000000 (b.take a.length) := by
  induction d with
  | zero =>
    intro k i o br hd hk hi hol io hb0 hb1 h
    obtain ⟨k, rfl⟩ : ∃ m, k = m + 1 := ⟨k - 1, by omega⟩
    obtain rfl : i = a.length := by omega
    refine ⟨o, br, by simp only [limbs_lesser.l0]; rw [if_neg (by omega)], hol, io, hb0, hb1, ?_⟩
    rw [List.take_of_length_le (by omega), List.take_length] at h
    exact h
  | succ d ih =>
    intro k i o br hd hk hi hol io hb0 hb1 h
    obtain ⟨k, rfl⟩ : ∃ m, k = m + 1 := ⟨k - 1, by omega⟩
    have hlt : i < a.length := by omega
    obtain ⟨x, hx⟩ : ∃ x, a.getD i 0 = x := ⟨_, rfl⟩
    have hxb := Mw.inB_getD (by omega) ia i
    rw [hx] at hxb
    simp only [limbs_lesser.l0]
    rw [if_pos (by omega), if_pos (by omega), if_pos (by omega), rd_nat, hx, wrap_nat (by omega), Int.toNat_natCast]
    have key : ∀ (y v br' : Int), (y = if i < b.length then b.getD i 0 else 0) → v - 1000000000 * br' = x - br - y → 0 ≤ v → v < 1000000000 → 0 ≤ br' → br' ≤ 1 →
        ∃ r br'', limbs_lesser.l0 k b (o.set i v) br' a (a.length : Int) ((i + 1 : Nat) : Int) = some r ∧ r.length = a.length ∧ Mw.inB 1000000000 r ∧ 0 ≤ br'' ∧ br'' ≤ 1 ∧
          Mw.lv 1000000000 r - 1000000000 ^ a.length * br'' = Mw.lv 1000000000 a - Mw.lv 1000000000 (b.take a.length) := by
      intro y v br' hy hv hv0 hv1 hb0' hb1'
      refine ih k (i + 1) (o.set i v) br' (by omega) (by omega) (by omega) (by rw [List.length_set]; exact hol) (Mw.inB_set io i hv0 hv1) hb0' hb1' ?_
      rw [take_set_succ o i v (by omega)]
      exact lesser_step hlt v y x br' hx hy hv (by omega) h
    by_cases hb : i < b.length
    · obtain ⟨y, hy⟩ : ∃ x, b.getD i 0 = x := ⟨_, rfl⟩
      have hyb := Mw.inB_getD (by omega) ib i
      rw [hy] at hyb
      rw [if_pos (by omega), rd_nat, hy, show (br + y) % 4294967296 = br + y by omega]
      by_cases hc : x < br + y
      · rw [if_pos hc, if_pos (by omega)]
        rw [show (((x + 1000000000) % 4294967296) - (br + y)) % 4294967296 = x + 1000000000 - (br + y) by omega]
        exact key y _ 1 (by rw [if_pos hb]; exact hy.symm) (by omega) (by omega) (by omega) (by omega) (by omega)
      · rw [if_neg hc, if_pos (by omega)]
        rw [show (x - (br + y)) % 4294967296 = x - (br + y) by omega]
        exact key y _ 0 (by rw [if_pos hb]; exact hy.symm) (by omega) (by omega) (by omega) (by omega) (by omega)
    · rw [if_neg (by omega)]
      by_cases hc : x < br
      · rw [if_pos hc, if_pos (by omega)]
        rw [show (((x + 1000000000) % 4294967296) - br) % 4294967296 = x + 1000000000 - br by omega]
        exact key 0 _ 1 (by rw [if_neg hb]) (by omega) (by omega) (by omega) (by omega) (by omega)
      · rw [if_neg hc, if_pos (by omega)]
        rw [show (x - br) % 4294967296 = x - br by omega]
        exact key 0 _ 0 (by rw [if_neg hb]) (by omega) (by omega) (by omega) (by omega) (by omega)
theorem lesser_pure (a b : List Int) (ia : Mw.inB 1000000000 a) (ib : Mw.inB 1000000000 b) (hm : a.length ≤ 1000000) (hl : b.length ≤ a.length) (hle : Mw.lv 1000000000 b ≤ Mw.lv 1000000000 a) :
    ∃ k r, limbs_lesser.f k a b = some r ∧ r.length = a.length ∧ Mw.inB 1000000000 r ∧ Mw.lv 1000000000 r = Mw.lv 1000000000 a - Mw.lv 1000000000 b := by
  obtain ⟨r, br, hr, hrl, hri, hb0, hb1, h⟩ := lesser_loop a b ia ib hm a.length (a.length + 1) 0 (List.replicate a.length 0) 0 (by omega) (by omega) (by omega) (by simp) (Mw.inB_replicate (by omega) _) (by omega) (by omega) (by simp [Mw.lv])
  refine ⟨a.length + 1, r, ?_, hrl, hri, ?_⟩
  · simp only [limbs_lesser.f]
    rw [if_pos (by omega), Int.toNat_natCast, if_pos (by omega)]
    exact hr
  · rw [List.take_of_length_le hl] at h
    have h1 := Mw.lv_lt (by omega) hri
    rw [hrl] at h1
    have h2 : br = 0 ∨ br = 1 := by omega
    rcases h2 with h2 | h2
    · subst h2; simpa using h
    · subst h2; omega
theorem lesser_any (A0 A1 : Option Addr) (a b : List Int) (c0 c1 : Nat) (w : World) (h0 : Kd.C (Kd.int .u32) w A0 a.length a) (hc0 : a.length ≤ c0) (h1 : Kd.C (Kd.int .u32) w A1 b.length b) (hc1 : b.length ≤ c1)
    (ia : Mw.inB 1000000000 a) (ib : Mw.inB 1000000000 b) (hm : a.length ≤ 1000000) (hl : b.length ≤ a.length) (hle : Mw.lv 1000000000 b ≤ Mw.lv 1000000000 a) :
    Calls Tryz.prog 226 #[.slice A0 a.length c0, .slice A1 b.length c1] w fun e w' => ∃ A l c, e = .returned (.slice A (List.length l) c) ∧ l.length ≤ c ∧ Kd.C (Kd.int .u32) w' A l.length l ∧ Mw.inB 1000000000 l ∧ Mw.lv 1000000000 l = Mw.lv 1000000000 a - Mw.lv 1000000000 b ∧ l.length = a.length ∧ Below w.heap.size w w' := by
  obtain ⟨k, r, hr, hrl, hri, hv⟩ := lesser_pure a b ia ib hm hl hle
  refine (limbs_lesser.calls k A0 c0 a A1 c1 b r w h0 hc0 h1 hc1 hr).mono ?_
  rintro e w' ⟨v, rfl, hR, hb⟩
  obtain ⟨A, c, rfl, hc, hC⟩ := Kd.R_reads hR
  exact ⟨A, r, c, rfl, hc, hC, hri, hv, hrl, hb⟩
theorem u64w {v : Int} (h0 : 0 ≤ v) (h1 : v < 18446744073709551616) : IntKind.u64.wrap v = v := IntWalk.u64_in v (by omega)
theorem u64w_limb {v : Int} (h : 0 ≤ v ∧ v < 1000000000) : IntKind.u64.wrap v = v := u64w h.1 (by omega)
theorem limb_mul {x y : Int} (hx : 0 ≤ x ∧ x < 1000000000) (hy : 0 ≤ y ∧ y < 1000000000) : 0 ≤ x * y ∧ x * y ≤ 999999998000000001 := by
  refine ⟨Int.mul_nonneg hx.1 hy.1, ?_⟩
  have h1 : x * y ≤ 999999999 * y := Int.mul_le_mul_of_nonneg_right (by omega) hy.1
  omega
theorem plain_num {x y c o : Int} (hx : 0 ≤ x ∧ x < 1000000000) (hy : 0 ≤ y ∧ y < 1000000000) (hc : 0 ≤ c ∧ c < 1000000000) (ho : 0 ≤ o ∧ o < 1000000000) :
    IntKind.u64.wrap (c + IntKind.u64.wrap (IntKind.u64.wrap o + IntKind.u64.wrap (IntKind.u64.wrap x * IntKind.u64.wrap y))) = c + (o + x * y) ∧ 0 ≤ c + (o + x * y) ∧ (c + (o + x * y)) / 1000000000 < 1000000000 := by
  obtain ⟨h0, h1⟩ := limb_mul hx hy
  rw [u64w_limb ho, u64w_limb hx, u64w_limb hy]
  generalize x * y = z at *
  rw [u64w (v := z) h0 (by omega), u64w (v := o + z) (by omega) (by omega), u64w (v := c + (o + z)) (by omega) (by omega)]
  exact ⟨rfl, by omega, by omega⟩
theorem plain_inner (a b : List Int) (ib : Mw.inB 1000000000 b) (hm : a.length + b.length ≤ 1000000) (i : Nat) (hi : i < a.length) (x : Int) (hx : 0 ≤ x ∧ x < 1000000000) (V : Int) (d : Nat) :
    ∀ (k j : Nat) (o : List Int) (c : Int), b.length - j = d → d < k → j ≤ b.length → o.length = a.length + b.length + 1 → Mw.inB 1000000000 o → (∀ t, i + b.length ≤ t → o.getD t 0 = 0) → 0 ≤ c → c < 1000000000 →
    Mw.lv 1000000000 o + 1000000000 ^ (i + j) * c = V + 1000000000 ^ i * (x * Mw.lv 1000000000 (b.take j)) →
    ∃ o' k', limbs_plain.l1 k b o i x c a (a.length : Int) (i : Int) b (b.length : Int) (j : Int) = limbs_plain.l0 k' b o' a (a.length : Int) ((i + 1 : Nat) : Int) ∧ k ≤ k' + d + 1 ∧ o'.length = a.length + b.length + 1 ∧ Mw.inB 1000000000 o' ∧
      (∀ t, i + 1 + b.length ≤ t → o'.getD t 0 = 0) ∧ Mw.lv 1000000000 o' = V + 1000000000 ^ i * (x * Mw.lv 1000000000 b) := by
  induction d with
  | zero =>
    intro k j o c hd hk hj hol io hz hc0 hc1 h
    have HH := Lib.hid h
    clear h
    obtain ⟨k, rfl⟩ : ∃ m, k = m + 1 := ⟨k - 1, by omega⟩
    obtain rfl : j = b.length := by omega
    have hg : o.getD (i + b.length) 0 = 0 := hz _ (Nat.le_refl _)
    refine ⟨o.set (i + b.length) c, k, ?_, by omega, by rw [List.length_set]; exact hol, Mw.inB_set io _ hc0 hc1, ?_, ?_⟩
    · simp only [limbs_plain.l1]
      rw [if_neg (by omega)]
      rw [wrap_sum (by omega)]
      rw [if_pos (by omega)]
      rw [if_pos (by omega)]
      rw [rd_nat, hg]
      rw [Int.toNat_natCast]
      rw [wrap_nat (by omega)]
      rw [show (0 + c % 4294967296) % 4294967296 = c by omega]
    · intro t ht
      have h1 := hz t (by omega)
      rw [List.getD_eq_getElem?_getD] at h1 ⊢
      rw [List.getElem?_set_ne (by omega)]
      exact h1
    · rw [Mw.lv_set _ _ _ (by omega), hg]
      have h := HH.out
      rw [List.take_length] at h
      rw [← h]
      simp
  | succ d ih =>
    intro k j o c hd hk hj hol io hz hc0 hc1 h
    have HH := Lib.hid h
    clear h
    obtain ⟨k, rfl⟩ : ∃ m, k = m + 1 := ⟨k - 1, by omega⟩
    have hlt : j < b.length := by omega
    obtain ⟨y, hy⟩ : ∃ x, b.getD j 0 = x := ⟨_, rfl⟩
    have hyb := Mw.inB_getD (by omega) ib j
    rw [hy] at hyb
    obtain ⟨z, hzz⟩ : ∃ x, o.getD (i + j) 0 = x := ⟨_, rfl⟩
    have hzb := Mw.inB_getD (by omega) io (i + j)
    rw [hzz] at hzb
    simp only [limbs_plain.l1]
    rw [if_pos (by omega)]
    rw [if_pos (by omega)]
    rw [if_pos (by omega)]
    rw [wrap_sum (by omega)]
    have hs1 : (0 : Int) ≤ ((i + j : Nat) : Int) := Int.natCast_nonneg _
    have hs2 : ((i + j : Nat) : Int) < (o.length : Int) := by omega
    rw [if_pos hs1]
    rw [if_pos hs2]
    rw [rd_nat, rd_nat, hy, hzz]
    rw [Int.toNat_natCast]
    rw [wrap_nat (by omega)]
    obtain ⟨n1, n2, n3⟩ := plain_num hx hyb ⟨hc0, hc1⟩ hzb
    rw [n1]
    clear n1
    obtain ⟨n, hn⟩ : ∃ n, c + (z + x * y) = n := ⟨_, rfl⟩
    rw [hn] at n2 n3 ⊢
    rw [Int.tmod_eq_emod_of_nonneg n2, Int.tdiv_eq_ediv_of_nonneg n2, u64w (v := n / 1000000000) (by omega) (by omega), show n % 1000000000 % 4294967296 = n % 1000000000 by omega]
    obtain ⟨o', k', e1, e2, e3, e4, e5, e6⟩ := ih k (j + 1) (o.set (i + j) (n % 1000000000)) (n / 1000000000) (by omega) (by omega) (by omega) (by rw [List.length_set]; exact hol) (Mw.inB_set io _ (by omega) (by omega)) (by
      intro t ht
      have h1 := hz t (by omega)
      rw [List.getD_eq_getElem?_getD] at h1 ⊢
      rw [List.getElem?_set_ne (by omega)]
      exact h1) (by omega) (by omega) (by
      rw [Mw.lv_set _ _ _ (by omega), hzz, Mw.take_succ_getD b j hlt, Mw.lv_snoc, hy, List.length_take, Nat.min_eq_left (by omega), show i + (j + 1) = i + j + 1 by omega, Int.pow_succ]
      have q1 : (1000000000 : Int) ^ (i + j) = 1000000000 ^ i * 1000000000 ^ j := Int.pow_add _ _ _
      have q2 : x * (Mw.lv 1000000000 (b.take j) + 1000000000 ^ j * y) = x * Mw.lv 1000000000 (b.take j) + 1000000000 ^ j * (x * y) := by
        rw [Int.mul_add, Int.mul_left_comm x]
      rw [q2, Int.mul_add, ← Int.mul_assoc (1000000000 ^ i) (1000000000 ^ j), ← q1]
      have h := HH.out
      generalize (1000000000 : Int) ^ (i + j) = P at h ⊢
      generalize (1000000000 : Int) ^ i * (x * Mw.lv 1000000000 (b.take j)) = R at h ⊢
      generalize Mw.lv 1000000000 o = O at h ⊢
      have q3 : P * (n % 1000000000 - z) + P * 1000000000 * (n / 1000000000) = P * c + P * (x * y) := by
        rw [Int.mul_assoc, ← Int.mul_add, ← Int.mul_add]
        congr 1
        have := Int.emod_add_mul_ediv n 1000000000
        omega
      clear ih hz io hk hol
      omega)
    exact ⟨o', k', e1, by omega, e3, e4, e5, e6⟩
theorem plain_outer (a b : List Int) (ia : Mw.inB 1000000000 a) (ib : Mw.inB 1000000000 b) (hm : a.length + b.length ≤ 1000000) (d : Nat) :
    ∀ (k i : Nat) (o : List Int), a.length - i = d → d * (b.length + 2) < k → i ≤ a.length → o.length = a.length + b.length + 1 → Mw.inB 1000000000 o → (∀ t, i + b.length ≤ t → o.getD t 0 = 0) →
    Mw.lv 1000000000 o = Mw.lv 1000000000 (a.take i) * Mw.lv 1000000000 b →
    ∃ r, limbs_plain.l0 k b o a (a.length : Int) (i : Int) = some r ∧ r.length = a.length + b.length + 1 ∧ Mw.inB 1000000000 r ∧ Mw.lv 1000000000 r = Mw.lv 1000000000 a * Mw.lv 1000000000 b := by
  induction d with
  | zero =>
    intro k i o hd hk hi hol io hz h
    obtain ⟨k, rfl⟩ : ∃ m, k = m + 1 := ⟨k - 1, by omega⟩
    obtain rfl : i = a.length := by omega
    rw [List.take_length] at h
    exact ⟨o, by simp only [limbs_plain.l0]; rw [if_neg (by omega)], hol, io, h⟩
  | succ d ih =>
    intro k i o hd hk hi hol io hz h
    rw [Nat.add_mul, Nat.one_mul] at hk
    obtain ⟨k, rfl⟩ : ∃ m, k = m + 1 := ⟨k - 1, by omega⟩
    have hlt : i < a.length := by omega
    obtain ⟨x, hx⟩ : ∃ x, a.getD i 0 = x := ⟨_, rfl⟩
    have hxb := Mw.inB_getD (by omega) ia i
    rw [hx] at hxb
    simp only [limbs_plain.l0]
    rw [if_pos (by omega), if_pos (by omega), if_pos (by omega), rd_nat, hx]
    obtain ⟨o', k', e1, e2, e3, e4, e5, e6⟩ := plain_inner a b ib hm i hlt x hxb (Mw.lv 1000000000 o) b.length k 0 o 0 (by omega) (by omega) (by omega) hol io hz (by omega) (by omega) (by simp [Mw.lv])
    have e1' := e1
    simp only [Int.natCast_zero] at e1'
    rw [e1']
    refine ih k' (i + 1) o' (by omega) (by omega) (by omega) e3 e4 e5 ?_
    rw [e6, h, Mw.take_succ_getD a i hlt, Mw.lv_snoc, hx, List.length_take, Nat.min_eq_left (by omega), Int.add_mul, Int.mul_assoc]
theorem plain_any (A0 A1 : Option Addr) (a b : List Int) (c0 c1 : Nat) (w : World) (h0 : Kd.C (Kd.int .u32) w A0 a.length a) (hc0 : a.length ≤ c0) (h1 : Kd.C (Kd.int .u32) w A1 b.length b) (hc1 : b.length ≤ c1)
    (ia : Mw.inB 1000000000 a) (ib : Mw.inB 1000000000 b) (hm : a.length + b.length ≤ 1000000) :
    Calls Tryz.prog 230 #[.slice A0 a.length c0, .slice A1 b.length c1] w fun e w' => ∃ A l c, e = .returned (.slice A (List.length l) c) ∧ l.length ≤ c ∧ Kd.C (Kd.int .u32) w' A l.length l ∧ Mw.inB 1000000000 l ∧ Mw.lv 1000000000 l = Mw.lv 1000000000 a * Mw.lv 1000000000 b ∧ l.length = a.length + b.length + 1 ∧ Below w.heap.size w w' := by
  have hw : wrap64 (wrap64 ((a.length : Int) + (b.length : Int)) + 1) = ((a.length + b.length + 1 : Nat) : Int) := by unfold wrap64; omega
  obtain ⟨r, hr, hrl, hri, hv⟩ := plain_outer a b ia ib hm a.length (a.length * (b.length + 2) + 1) 0 (List.replicate (a.length + b.length + 1) 0) (by omega) (by omega) (by omega) (by simp) (Mw.inB_replicate (by omega) _) (by
    intro t _
    rw [List.getD_eq_getElem?_getD, List.getElem?_replicate]
    split <;> rfl) (by rw [Mw.lv_replicate]; simp [Mw.lv])
  refine (limbs_plain.calls (a.length * (b.length + 2) + 1) A0 c0 a A1 c1 b r w h0 hc0 h1 hc1 ?_).mono ?_
  · simp only [limbs_plain.f]
    rw [hw, if_pos (by omega), Int.toNat_natCast, if_pos (by omega)]
    exact hr
  rintro e w' ⟨v, rfl, hR, hb⟩
  obtain ⟨A, c, rfl, hc, hC⟩ := Kd.R_reads hR
  exact ⟨A, r, c, rfl, hc, hC, hri, hv, hrl, hb⟩
theorem wrap_back2 {n t i : Nat} (h : i + t + 1 = n) (hn : n ≤ 1000000) : wrap64 (wrap64 ((n : Int) - 1) - (t : Int)) = (i : Int) := by unfold wrap64; omega
theorem drop_set_at (l : List Int) (i : Nat) (v : Int) (h : i < l.length) : (l.set i v).drop i = v :: l.drop (i + 1) := by
  rw [Mw.drop_eq_getD_cons _ i (by rw [List.length_set]; exact h)]
  rw [List.drop_set_of_lt (by omega)]
  simp [List.getD_eq_getElem?_getD, h]
theorem short_num {by_ rest x : Int} (hb0 : 1 ≤ by_) (hb1 : by_ < 4294967296) (hr : 0 ≤ rest ∧ rest < by_) (hx : 0 ≤ x ∧ x < 1000000000) :
    IntKind.u64.wrap (IntKind.u64.wrap (rest * 1000000000) + IntKind.u64.wrap x) = rest * 1000000000 + x ∧ IntKind.u64.wrap by_ = by_ := by
  rw [u64w (v := rest * 1000000000) (by omega) (by omega), u64w (v := x) (by omega) (by omega), u64w (v := rest * 1000000000 + x) (by omega) (by omega), u64w (v := by_) (by omega) (by omega)]
  exact ⟨rfl, rfl⟩
theorem short_q {by_ rest x : Int} (hb0 : 1 ≤ by_) (hr : 0 ≤ rest ∧ rest < by_) (hx : 0 ≤ x ∧ x < 1000000000) :
    0 ≤ (rest * 1000000000 + x) / by_ ∧ (rest * 1000000000 + x) / by_ < 1000000000 ∧ 0 ≤ (rest * 1000000000 + x) % by_ ∧ (rest * 1000000000 + x) % by_ < by_ := by
  refine ⟨Int.ediv_nonneg (by omega) (by omega), ?_, Int.emod_nonneg _ (by omega), Int.emod_lt_of_pos _ (by omega)⟩
  refine Int.ediv_lt_of_lt_mul (by omega) ?_
  have : (rest + 1) * 1000000000 ≤ by_ * 1000000000 := Int.mul_le_mul_of_nonneg_right (by omega) (by omega)
  rw [Int.mul_comm 1000000000]
  omega
theorem shortly_loop (a : List Int) (ia : Mw.inB 1000000000 a) (hm : a.length ≤ 1000000) (by_ : Int) (hb0 : 1 ≤ by_) (hb1 : by_ < 4294967296) (d : Nat) :
    ∀ (k t : Nat) (o : List Int) (rest : Int), a.length - t = d → d < k → t ≤ a.length → o.length = a.length → Mw.inB 1000000000 o → 0 ≤ rest → rest < by_ →
    Mw.lv 1000000000 (a.drop (a.length - t)) = Mw.lv 1000000000 (o.drop (a.length - t)) * by_ + rest →
    ∃ r1 r2, limbs_shortly.l0 k a by_ o rest (a.length : Int) (t : Int) = some (r1, r2) ∧ r1.length = a.length ∧ Mw.inB 1000000000 r1 ∧ Mw.lv 1000000000 a = Mw.lv 1000000000 r1 * by_ + r2 ∧ 0 ≤ r2 ∧ r2 < by_ := by
  induction d with
  | zero =>
    intro k t o rest hd hk ht hol io hr0 hr1 h
    have HH := Lib.hid h
    clear h
    obtain ⟨k, rfl⟩ : ∃ m, k = m + 1 := ⟨k - 1, by omega⟩
    obtain rfl : t = a.length := by omega
    refine ⟨o, rest, ?_, hol, io, ?_, hr0, hr1⟩
    · simp only [limbs_shortly.l0]
      rw [if_neg (by omega)]
      rw [show rest % 4294967296 = rest by omega]
    · have h := HH.out
      rw [Nat.sub_self, List.drop_zero, List.drop_zero] at h
      exact h
  | succ d ih =>
    intro k t o rest hd hk ht hol io hr0 hr1 h
    have HH := Lib.hid h
    clear h
    obtain ⟨k, rfl⟩ : ∃ m, k = m + 1 := ⟨k - 1, by omega⟩
    obtain ⟨i, hi⟩ : ∃ i, i + t + 1 = a.length := ⟨a.length - t - 1, by omega⟩
    obtain ⟨x, hx⟩ : ∃ x, a.getD i 0 = x := ⟨_, rfl⟩
    have hxb := Mw.inB_getD (by omega) ia i
    rw [hx] at hxb
    have hi1 : (i : Int) < (a.length : Int) := by omega
    have hi2 : (i : Int) < (o.length : Int) := by omega
    have ht1 : (t : Int) < (a.length : Int) := by omega
    have hi0 : (0 : Int) ≤ (i : Int) := Int.natCast_nonneg _
    have hne : ¬ by_ = 0 := by omega
    simp only [limbs_shortly.l0]
    rw [if_pos ht1]
    rw [wrap_back2 hi hm]
    rw [if_pos hi0]
    rw [if_pos hi1]
    rw [rd_nat, hx, (short_num hb0 hb1 ⟨hr0, hr1⟩ hxb).1, (short_num hb0 hb1 ⟨hr0, hr1⟩ hxb).2]
    rw [if_neg hne]
    rw [if_pos hi2]
    rw [Int.toNat_natCast]
    rw [wrap_nat (by omega)]
    obtain ⟨q0, q1, q2, q3⟩ := short_q hb0 ⟨hr0, hr1⟩ hxb
    have hnn : 0 ≤ rest * 1000000000 + x := by omega
    rw [Int.tdiv_eq_ediv_of_nonneg hnn, Int.tmod_eq_emod_of_nonneg hnn]
    have hem := Lib.hid (Int.emod_add_mul_ediv (rest * 1000000000 + x) by_)
    have hnum : Hid (∃ n, n = rest * 1000000000 + x) := Lib.hid ⟨_, rfl⟩
    obtain ⟨q, hq⟩ : ∃ q, (rest * 1000000000 + x) / by_ = q := ⟨_, rfl⟩
    obtain ⟨r, hr⟩ : ∃ r, (rest * 1000000000 + x) % by_ = r := ⟨_, rfl⟩
    have hem' := hem.out
    simp only [hq, hr] at q0 q1 q2 q3 hem' ⊢
    have HE := Lib.hid hem'
    clear hem hem' hnum hq hr
    rw [u64w (v := q) q0 (by omega), show q % 4294967296 = q by omega]
    refine ih k (t + 1) (o.set i q) r (by omega) (by omega) (by omega) (by rw [List.length_set]; exact hol) (Mw.inB_set io _ q0 q1) q2 q3 ?_
    have h := HH.out
    rw [show a.length - t = i + 1 by omega] at h
    rw [show a.length - (t + 1) = i by omega, drop_set_at o i q (by omega), Mw.drop_eq_getD_cons a i (by omega), hx, Mw.lv_cons, Mw.lv_cons, h]
    have e := HE.out
    rw [Int.add_mul, Int.mul_assoc, Int.mul_add]
    generalize 1000000000 * (Mw.lv 1000000000 (o.drop (i + 1)) * by_) = Z at *
    rw [Int.mul_comm by_ q] at e
    omega
theorem shortly_any (A0 : Option Addr) (a : List Int) (c0 : Nat) (by_ : Int) (w : World) (h0 : Kd.C (Kd.int .u32) w A0 a.length a) (hc0 : a.length ≤ c0)
    (ia : Mw.inB 1000000000 a) (hm : a.length ≤ 1000000) (hb0 : 1 ≤ by_) (hb1 : by_ < 4294967296) :
    Calls Tryz.prog 131 #[.slice A0 a.length c0, .int .u32 by_] w fun e w' => ∃ A l c r, e = .returned (.tuple #[.slice A (List.length l) c, .int .u32 r]) ∧ l.length ≤ c ∧ Kd.C (Kd.int .u32) w' A l.length l ∧ Mw.inB 1000000000 l ∧ l.length = a.length ∧ Mw.lv 1000000000 a = Mw.lv 1000000000 l * by_ + r ∧ 0 ≤ r ∧ r < by_ ∧ Below w.heap.size w w' := by
  obtain ⟨r1, r2, hr, hrl, hri, hv, hr0, hr1⟩ := shortly_loop a ia hm by_ hb0 hb1 a.length (a.length + 1) 0 (List.replicate a.length 0) 0 (by omega) (by omega) (by omega) (by simp) (Mw.inB_replicate (by omega) _) (by omega) (by omega) (by simp [Mw.lv])
  refine (limbs_shortly.calls (a.length + 1) A0 c0 a by_ r1 r2 w h0 hc0 ?_).mono ?_
  · simp only [limbs_shortly.f]
    rw [if_pos (by omega), Int.toNat_natCast, if_pos (by omega)]
    exact hr
  rintro e w' ⟨v, rfl, hR, hb⟩
  obtain ⟨A, c, rfl, hc, hC⟩ := Kd.R_reads hR
  exact ⟨A, r1, c, r2, rfl, hc, hC, hri, hrl, hv, hr0, hr1, hb⟩
end Go.Proofs.YtjieekkkaekclaaGreatDoor
namespace Go.Proofs.YtjieekkkaekclaaGreatDoor
open Go.RowKit Go.Proofs.YtjieekkkaekclaaGreatDoorW.PrintWords
theorem NumAt.named {w : World} {s : Int} {A : Option Addr} {k c : Nat} {n : Int} (h : NumAt w s A k c n) :
    ∃ l : List Int, k = l.length ∧ l = lbs n.natAbs ∧ l.length ≤ c ∧ Kd.C (Kd.int .u32) w A l.length l ∧ Mw.inB 1000000000 l ∧ Mw.lv 1000000000 l = n.natAbs :=
  ⟨lbs n.natAbs, h.len, rfl, h.len ▸ h.cap, h.reads', lbs_inB _, lbs_lv _⟩
abbrev box3 (w : World) (t t' : TypeId) (a b a' b' : Value) : World :=
  (((w.alloc (.cells #[] t)).alloc (.cells #[a, b] t')).alloc (.cells #[a', b'] t')).alloc (.cells #[.int .i64 0, .slice none 0 0] t')
theorem box3_below (w : World) (t t' : TypeId) (a b a' b' : Value) : Below w.heap.size w (box3 w t t' a b a' b') :=
  ((((Below.refl _ _).alloc (Nat.le_refl _) _).alloc (by simp) _).alloc (by simp; omega) _).alloc (by simp; omega) _
theorem box3_keep {w w1 : World} {t t' : TypeId} {a b a' b' : Value} (hb : Below (box3 w t t' a b a' b').heap.size (box3 w t t' a b a' b') w1) :
    (w1.cell? ⟨w.heap.size + 1, 0, none⟩ = some a ∧ w1.cell? ⟨w.heap.size + 1, 1, none⟩ = some b ∧ w1.cell? ⟨w.heap.size + 1 + 1, 0, none⟩ = some a' ∧ w1.cell? ⟨w.heap.size + 1 + 1, 1, none⟩ = some b') ∧
    w1.cell? ⟨w.heap.size + 1 + 1 + 1, 0, none⟩ = some (.int .i64 0) ∧ w1.cell? ⟨w.heap.size + 1 + 1 + 1, 1, none⟩ = some (.slice none 0 0) ∧
    w1.frozen? ⟨w.heap.size + 1 + 1 + 1, 0, none⟩ = false ∧ w1.frozen? ⟨w.heap.size + 1 + 1 + 1, 1, none⟩ = false := by
  unfold box3 at hb
  have h0 := hb.cell (p := ⟨w.heap.size + 1, 0, none⟩) (by simp <;> omega)
  have h1 := hb.cell (p := ⟨w.heap.size + 1, 1, none⟩) (by simp <;> omega)
  have h2 := hb.cell (p := ⟨w.heap.size + 1 + 1, 0, none⟩) (by simp <;> omega)
  have h3 := hb.cell (p := ⟨w.heap.size + 1 + 1, 1, none⟩) (by simp <;> omega)
  have h4 := hb.cell (p := ⟨w.heap.size + 1 + 1 + 1, 0, none⟩) (by simp)
  have h5 := hb.cell (p := ⟨w.heap.size + 1 + 1 + 1, 1, none⟩) (by simp)
  have h6 := hb.frozen (p := ⟨w.heap.size + 1 + 1 + 1, 0, none⟩) (by simp)
  have h7 := hb.frozen (p := ⟨w.heap.size + 1 + 1 + 1, 1, none⟩) (by simp)
  simp [go_sem] at h0 h1 h2 h3 h4 h5 h6 h7
  exact ⟨⟨h0, h1, h2, h3⟩, h4, h5, h6, h7⟩
theorem NumAt.set {w : World} {s : Int} {A : Option Addr} {k c : Nat} {n : Int} (h : NumAt w s A k c n) {p : Addr} {v : Value} (x : Value) (hp : w.cell? p = some v) (hv : ∀ z, v ≠ .int .u32 z) : NumAt (w.setCell p x) s A k c n := by
  refine ⟨h.sign, h.len, h.cap, Kd.C_of_reads (d := 0) ⟨h.reads.1, h.reads.2.1, fun h0 => ?_⟩⟩
  obtain ⟨ad, e, _⟩ := Kd.at_int h.reads 0 (by omega) (by omega)
  refine ⟨ad, e, fun j hj => ?_⟩
  obtain ⟨ad', e', hc⟩ := Kd.at_int h.reads j (by omega) (by omega)
  obtain rfl : ad = ad' := by rw [e] at e'; simpa using e'
  simp only [Int.toNat_natCast, rd] at hc
  rw [World.cell?_setCell_other]
  · exact hc
  · intro hpe
    subst hpe
    rw [hc] at hp
    exact hv _ (Option.some.inj hp).symm
theorem set_keep {W : World} {g b o : Nat} {v u x : Value} (h : W.cell? ⟨b, o, none⟩ = some x) (hne : g ≠ b) : ((W.setCell ⟨g, 0, none⟩ v).setCell ⟨g, 1, none⟩ u).cell? ⟨b, o, none⟩ = some x :=
  (World.cell?_setCell_far _ _ _ _ hne).trans ((World.cell?_setCell_far _ _ _ _ hne).trans h)
theorem add_same {s n m : Int} (h : s = sgn n) (h' : s = sgn m) : s * ((n.natAbs + m.natAbs : Nat) : Int) = n + m ∧ (s = 1 ∨ s = -1 ∨ n.natAbs + m.natAbs = 0) := by
  rcases sgn_cases n with ⟨e1, h1⟩ | ⟨e1, h1⟩ | ⟨e1, h1⟩ <;> rcases sgn_cases m with ⟨e2, h2⟩ | ⟨e2, h2⟩ | ⟨e2, h2⟩ <;> rw [e1] at h <;> rw [e2] at h' <;> subst h <;> (try omega) <;> (constructor <;> omega)
theorem add_less {s s' n m : Int} (h : s = sgn n) (h' : s' = sgn m) (hs : s ≠ s') (hl : n.natAbs < m.natAbs) : s' * ((m.natAbs - n.natAbs : Nat) : Int) = n + m ∧ (s' = 1 ∨ s' = -1 ∨ m.natAbs - n.natAbs = 0) := by
  rcases sgn_cases n with ⟨e1, h1⟩ | ⟨e1, h1⟩ | ⟨e1, h1⟩ <;> rcases sgn_cases m with ⟨e2, h2⟩ | ⟨e2, h2⟩ | ⟨e2, h2⟩ <;> rw [e1] at h <;> rw [e2] at h' <;> subst h <;> subst h' <;> (try omega) <;> (constructor <;> omega)
theorem add_more {s s' n m : Int} (h : s = sgn n) (h' : s' = sgn m) (hs : s ≠ s') (hl : m.natAbs ≤ n.natAbs) : s * ((n.natAbs - m.natAbs : Nat) : Int) = n + m ∧ (s = 1 ∨ s = -1 ∨ n.natAbs - m.natAbs = 0) := by
  rcases sgn_cases n with ⟨e1, h1⟩ | ⟨e1, h1⟩ | ⟨e1, h1⟩ <;> rcases sgn_cases m with ⟨e2, h2⟩ | ⟨e2, h2⟩ | ⟨e2, h2⟩ <;> rw [e1] at h <;> rw [e2] at h' <;> subst h <;> subst h' <;> (try omega) <;> (constructor <;> omega)
theorem lbs_len_mono {a b : Nat} (h : a ≤ b) : (lbs a).length ≤ (lbs b).length := by
  rw [lbs_len_le]
  have := (lbs_len_le b (lbs b).length).mp (Nat.le_refl _)
  omega
set_option maxRecDepth 100000 in
set_option maxHeartbeats 2000000 in
theorem adding_do {s s' : Int} {A A' : Option Addr} {k c k' c' : Nat} {n m : Int} (w : World) (H : NumAt w s A k c n) (H' : NumAt w s' A' k' c' m) (hk : k ≤ 900000) (hk' : k' ≤ 900000) :
    Calls Tryz.prog 224 #[.agg #[], .agg #[.int .i64 s, .slice A k c], .agg #[.int .i64 s', .slice A' k' c']] w fun e w' =>
      ∃ s2 A2 k2 c2, e = .returned (.agg #[.int .i64 s2, .slice A2 k2 c2]) ∧ NumAt w' s2 A2 k2 c2 (n + m) ∧ Below w.heap.size w w' := by
  have hb0 := box3_below w 125 71 (.int .i64 s) (.slice A k c) (.int .i64 s') (.slice A' k' c')
  have H1 := (H.below hb0).drew
  have H1' := (H'.below hb0).drew
  have HB := Lib.hid hb0
  clear hb0
  by_cases hs : s = s'
  · subst hs
    obtain ⟨l, rfl, el, hc, hC, hi, hv⟩ := H1.named
    obtain ⟨l', rfl, el', hc', hC', hi', hv'⟩ := H1'.named
    have hsm := add_same H.sign H'.sign
    have HSM := Lib.hid hsm
    have HEL := Lib.hid el
    have HEL' := Lib.hid el'
    have HV := Lib.hid hv
    have HV' := Lib.hid hv'
    have HC := Lib.hid hC
    have HC' := Lib.hid hC'
    have HI := Lib.hid hi
    have HI' := Lib.hid hi'
    clear el el' hv hv' hC hC' hi hi' hsm
    obtain ⟨d0, _⟩ := box3_keep (below_drew (Below.refl (box3 w 125 71 (.int .i64 s) (.slice A l.length c) (.int .i64 s) (.slice A' l'.length c')).heap.size _))
    unfold box3 at d0
    go_enter Tryz.func224, Tryz.ntmps224
    go_wp2_with fail
    go_region_held3 (fun w' => w'.cell? ⟨w.heap.size + 1, 0, none⟩ = some (.int .i64 s) ∧ w'.cell? ⟨w.heap.size + 1, 1, none⟩ = some (.slice A l.length c) ∧ w'.cell? ⟨w.heap.size + 1 + 1, 0, none⟩ = some (.int .i64 s) ∧ w'.cell? ⟨w.heap.size + 1 + 1, 1, none⟩ = some (.slice A' l'.length c')) (first | exact d0 | exact d2 | exact d1 | exact ⟨set_keep d2.1 (by omega), set_keep d2.2.1 (by omega), set_keep d2.2.2.1 (by omega), set_keep d2.2.2.2 (by omega)⟩ | go_keep) (first | (go_at_call 225; (with_reducible refine (sums_any A A' l l' c c' _ HC.out hc HC'.out hc' HI.out HI'.out (by omega) (by omega)).mono ?_); rintro e w1 ⟨A1, l1, c1, rfl, hc1, hC1, hi1, hv1, hp1, hm1, hb1⟩; obtain ⟨d1, r0, r1, f0, f1⟩ := box3_keep (below_of_drew hb1); have HV1 := Lib.hid hv1; have HC1 := Lib.hid hC1; have HI1 := Lib.hid hi1; clear hv1 hC1 hi1) | (go_at_call 129; (with_reducible refine (made_num s A1 l1 c1 (n.natAbs + m.natAbs) _ HC1.out hp1 hc1 (by omega) HI1.out (by rw [HV1.out, HV.out, HV'.out]; simp) HSM.out.2).mono ?_); rintro e w2 ⟨s2, A2, k2, c2, rfl, hN, hb2⟩; obtain ⟨d2, q0, q1, g0, g1⟩ := box3_keep (((below_of_drew hb1).trans (hb2.mono (below_of_drew hb1).size))); clear d1 r0 r1 f0 f1))
    have hN1 := (hN.set (.int .i64 s2) q0 (by simp)).set (.slice A2 k2 c2) ((World.cell?_setCell_other _ _ _ _ (by simp)).trans q1) (by simp)
    rw [HSM.out.1] at hN1
    have hbb := (HB.out.trans (((below_of_drew hb1).trans (hb2.mono (below_of_drew hb1).size)).mono HB.out.size))
    have hA : (w2.setCell ⟨w.heap.size + 1 + 1 + 1, 0, none⟩ (.int .i64 s2)).cell? ⟨w.heap.size + 1 + 1 + 1, 0, none⟩ = some (.int .i64 s2) := World.cell?_setCell_same _ _ _ q0
    have hBc : ((w2.setCell ⟨w.heap.size + 1 + 1 + 1, 0, none⟩ (.int .i64 s2)).setCell ⟨w.heap.size + 1 + 1 + 1, 1, none⟩ (.slice A2 k2 c2)).cell? ⟨w.heap.size + 1 + 1 + 1, 1, none⟩ = some (.slice A2 k2 c2) :=
      World.cell?_setCell_same _ _ _ ((World.cell?_setCell_other _ _ _ _ (by simp)).trans q1)
    have HN1 := Lib.hid hN1
    have HBB := Lib.hid hbb
    clear hN1 hbb
    go_wp2
    exact bodyPost_ret (v := .agg #[.int .i64 s2, .slice A2 k2 c2]) (by simp [results, Tryz.results224, go_sem, hA, hBc]) rfl ⟨s2, A2, k2, c2, rfl, HN1.out, (HBB.out.setCell (by simp <;> omega) _).setCell (by simp <;> omega) _⟩
  · have hs1 : (s == s') = false := by simpa using hs
    have HNE := Lib.hid hs
    have HS := Lib.hid H.sign
    have HS' := Lib.hid H'.sign
    replace H1 := H.below HB.out
    replace H1' := H'.below HB.out
    obtain ⟨l, rfl, el, hc, hC, hi, hv⟩ := H1.named
    obtain ⟨l', rfl, el', hc', hC', hi', hv'⟩ := H1'.named
    have HEL := Lib.hid el
    have HEL' := Lib.hid el'
    have HV := Lib.hid hv
    have HV' := Lib.hid hv'
    have HC := Lib.hid hC
    have HC' := Lib.hid hC'
    have HI := Lib.hid hi
    have HI' := Lib.hid hi'
    obtain ⟨r, hr⟩ : ∃ r, cmpI n.natAbs m.natAbs = r := ⟨_, rfl⟩
    have HR := Lib.hid hr
    have hcas := cmpI_cases n.natAbs m.natAbs
    rw [hr] at hcas
    clear el el' hv hv' hC hC' hi hi' hs hr
    by_cases hr0 : r < 0
    · have hnm : n.natAbs < m.natAbs := by omega
      have HPOS : Hid (0 < l'.length) := Lib.hid (by rw [HEL'.out, lbs_len_pos]; omega)
      have HSUB : Hid ((m.natAbs : Int) - n.natAbs = ((m.natAbs - n.natAbs : Nat) : Int)) := Lib.hid (by omega)
      clear hcas
      have HSM := Lib.hid (add_less HS.out HS'.out HNE.out hnm)
      have HLE : Hid (l.length ≤ l'.length) := Lib.hid (by rw [HEL.out, HEL'.out]; exact lbs_len_mono (by omega))
      have HLV : Hid (Mw.lv 1000000000 l ≤ Mw.lv 1000000000 l') := Lib.hid (by rw [HV.out, HV'.out]; omega)
      clear hnm
      go_enter Tryz.func224, Tryz.ntmps224
      go_wp2_with (go_at_call 102; (with_reducible refine (size_any _ H1 H1').mono ?_); rw [HR.out]; rintro e w1 ⟨rfl, hb1⟩; obtain ⟨d1, r0, r1, f0, f1⟩ := box3_keep hb1)
      have hCb := Lib.hid (Kd.C_below (Kd.C_below HC'.out hb1) (below_drew (Below.refl _ _)))
      have hCs := Lib.hid (Kd.C_below (Kd.C_below HC.out hb1) (below_drew (Below.refl _ _)))
      obtain ⟨d0, _⟩ := box3_keep (below_drew hb1)
      go_region_held3 (fun w' => w'.cell? ⟨w.heap.size + 1, 0, none⟩ = some (.int .i64 s) ∧ w'.cell? ⟨w.heap.size + 1, 1, none⟩ = some (.slice A l.length c) ∧ w'.cell? ⟨w.heap.size + 1 + 1, 0, none⟩ = some (.int .i64 s') ∧ w'.cell? ⟨w.heap.size + 1 + 1, 1, none⟩ = some (.slice A' l'.length c')) (first | exact d0 | exact d3 | exact d2 | exact ⟨set_keep d3.1 (by omega), set_keep d3.2.1 (by omega), set_keep d3.2.2.1 (by omega), set_keep d3.2.2.2 (by omega)⟩ | go_keep) (first | (go_at_call 226; (with_reducible refine (lesser_any A' A l' l c' c _ hCb.out hc' hCs.out hc HI'.out HI.out (by omega) HLE.out HLV.out).mono ?_); rintro e w2 ⟨A1, l1, c1, rfl, hc1, hC1, hi1, hv1, hl1, hb2⟩; obtain ⟨d2, t0, t1, g0, g1⟩ := box3_keep (hb1.trans ((below_of_drew hb2).mono hb1.size)); have HV1 := Lib.hid hv1; have HC1 := Lib.hid hC1; have HI1 := Lib.hid hi1; have HL1 := Lib.hid hl1; clear hv1 hC1 hi1 hl1) | (go_at_call 129; (with_reducible refine (made_num s' A1 l1 c1 (m.natAbs - n.natAbs) _ HC1.out (by rw [HL1.out]; exact HPOS.out) hc1 (by rw [HL1.out]; omega) HI1.out (by rw [HV1.out, HV'.out, HV.out]; exact HSUB.out) HSM.out.2).mono ?_); rintro e w3 ⟨s2, A2, k2, c2, rfl, hN, hb3⟩; obtain ⟨d3, q0, q1, p0, p1⟩ := box3_keep ((hb1.trans ((below_of_drew hb2).mono hb1.size)).trans (hb3.mono (Nat.le_trans hb1.size (below_of_drew hb2).size)))))
      have hN1 := (hN.set (.int .i64 s2) q0 (by simp)).set (.slice A2 k2 c2) ((World.cell?_setCell_other _ _ _ _ (by simp)).trans q1) (by simp)
      rw [HSM.out.1] at hN1
      have hbb := HB.out.trans (((hb1.trans ((below_of_drew hb2).mono hb1.size)).trans (hb3.mono (Nat.le_trans hb1.size (below_of_drew hb2).size))).mono HB.out.size)
      have hA : (w3.setCell ⟨w.heap.size + 1 + 1 + 1, 0, none⟩ (.int .i64 s2)).cell? ⟨w.heap.size + 1 + 1 + 1, 0, none⟩ = some (.int .i64 s2) := World.cell?_setCell_same _ _ _ q0
      have hBc : ((w3.setCell ⟨w.heap.size + 1 + 1 + 1, 0, none⟩ (.int .i64 s2)).setCell ⟨w.heap.size + 1 + 1 + 1, 1, none⟩ (.slice A2 k2 c2)).cell? ⟨w.heap.size + 1 + 1 + 1, 1, none⟩ = some (.slice A2 k2 c2) :=
        World.cell?_setCell_same _ _ _ ((World.cell?_setCell_other _ _ _ _ (by simp)).trans q1)
      have HN1 := Lib.hid hN1
      have HBB := Lib.hid hbb
      clear hN1 hbb
      go_wp2
      exact bodyPost_ret (v := .agg #[.int .i64 s2, .slice A2 k2 c2]) (by simp [results, Tryz.results224, go_sem, hA, hBc]) rfl ⟨s2, A2, k2, c2, rfl, HN1.out, (HBB.out.setCell (by simp <;> omega) _).setCell (by simp <;> omega) _⟩
    · have hnm : m.natAbs ≤ n.natAbs := by omega
      have HPOS : Hid (0 < l.length) := Lib.hid (by
        rw [HEL.out, lbs_len_pos]
        intro h0
        apply HNE.out
        rw [HS.out, HS'.out, show n = 0 by omega, show m = 0 by omega])
      have HSUB : Hid ((n.natAbs : Int) - m.natAbs = ((n.natAbs - m.natAbs : Nat) : Int)) := Lib.hid (by omega)
      clear hcas
      have HSM := Lib.hid (add_more HS.out HS'.out HNE.out hnm)
      have HLE : Hid (l'.length ≤ l.length) := Lib.hid (by rw [HEL.out, HEL'.out]; exact lbs_len_mono (by omega))
      have HLV : Hid (Mw.lv 1000000000 l' ≤ Mw.lv 1000000000 l) := Lib.hid (by rw [HV.out, HV'.out]; omega)
      clear hnm
      go_enter Tryz.func224, Tryz.ntmps224
      go_wp2_with (go_at_call 102; (with_reducible refine (size_any _ H1 H1').mono ?_); rw [HR.out]; rintro e w1 ⟨rfl, hb1⟩; obtain ⟨d1, r0, r1, f0, f1⟩ := box3_keep hb1)
      have hCb := Lib.hid (Kd.C_below (Kd.C_below HC.out hb1) (below_drew (Below.refl _ _)))
      have hCs := Lib.hid (Kd.C_below (Kd.C_below HC'.out hb1) (below_drew (Below.refl _ _)))
      obtain ⟨d0, _⟩ := box3_keep (below_drew hb1)
      go_region_held3 (fun w' => w'.cell? ⟨w.heap.size + 1, 0, none⟩ = some (.int .i64 s) ∧ w'.cell? ⟨w.heap.size + 1, 1, none⟩ = some (.slice A l.length c) ∧ w'.cell? ⟨w.heap.size + 1 + 1, 0, none⟩ = some (.int .i64 s') ∧ w'.cell? ⟨w.heap.size + 1 + 1, 1, none⟩ = some (.slice A' l'.length c')) (first | exact d0 | exact d3 | exact d2 | exact ⟨set_keep d3.1 (by omega), set_keep d3.2.1 (by omega), set_keep d3.2.2.1 (by omega), set_keep d3.2.2.2 (by omega)⟩ | go_keep) (first | (go_at_call 226; (with_reducible refine (lesser_any A A' l l' c c' _ hCb.out hc hCs.out hc' HI.out HI'.out (by omega) HLE.out HLV.out).mono ?_); rintro e w2 ⟨A1, l1, c1, rfl, hc1, hC1, hi1, hv1, hl1, hb2⟩; obtain ⟨d2, t0, t1, g0, g1⟩ := box3_keep (hb1.trans ((below_of_drew hb2).mono hb1.size)); have HV1 := Lib.hid hv1; have HC1 := Lib.hid hC1; have HI1 := Lib.hid hi1; have HL1 := Lib.hid hl1; clear hv1 hC1 hi1 hl1) | (go_at_call 129; (with_reducible refine (made_num s A1 l1 c1 (n.natAbs - m.natAbs) _ HC1.out (by rw [HL1.out]; exact HPOS.out) hc1 (by rw [HL1.out]; omega) HI1.out (by rw [HV1.out, HV.out, HV'.out]; exact HSUB.out) HSM.out.2).mono ?_); rintro e w3 ⟨s2, A2, k2, c2, rfl, hN, hb3⟩; obtain ⟨d3, q0, q1, p0, p1⟩ := box3_keep ((hb1.trans ((below_of_drew hb2).mono hb1.size)).trans (hb3.mono (Nat.le_trans hb1.size (below_of_drew hb2).size)))))
      have hN1 := (hN.set (.int .i64 s2) q0 (by simp)).set (.slice A2 k2 c2) ((World.cell?_setCell_other _ _ _ _ (by simp)).trans q1) (by simp)
      rw [HSM.out.1] at hN1
      have hbb := HB.out.trans (((hb1.trans ((below_of_drew hb2).mono hb1.size)).trans (hb3.mono (Nat.le_trans hb1.size (below_of_drew hb2).size))).mono HB.out.size)
      have hA : (w3.setCell ⟨w.heap.size + 1 + 1 + 1, 0, none⟩ (.int .i64 s2)).cell? ⟨w.heap.size + 1 + 1 + 1, 0, none⟩ = some (.int .i64 s2) := World.cell?_setCell_same _ _ _ q0
      have hBc : ((w3.setCell ⟨w.heap.size + 1 + 1 + 1, 0, none⟩ (.int .i64 s2)).setCell ⟨w.heap.size + 1 + 1 + 1, 1, none⟩ (.slice A2 k2 c2)).cell? ⟨w.heap.size + 1 + 1 + 1, 1, none⟩ = some (.slice A2 k2 c2) :=
        World.cell?_setCell_same _ _ _ ((World.cell?_setCell_other _ _ _ _ (by simp)).trans q1)
      have HN1 := Lib.hid hN1
      have HBB := Lib.hid hbb
      clear hN1 hbb
      go_wp2
      exact bodyPost_ret (v := .agg #[.int .i64 s2, .slice A2 k2 c2]) (by simp [results, Tryz.results224, go_sem, hA, hBc]) rfl ⟨s2, A2, k2, c2, rfl, HN1.out, (HBB.out.setCell (by simp <;> omega) _).setCell (by simp <;> omega) _⟩
end Go.Proofs.YtjieekkkaekclaaGreatDoor
