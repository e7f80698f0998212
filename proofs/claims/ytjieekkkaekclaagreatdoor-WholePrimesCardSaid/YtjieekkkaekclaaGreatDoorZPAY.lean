/- Lemmas for the claim beside this text. -/
set_option linter.all false
set_option linter.unusedVariables false
set_option linter.unusedSimpArgs false
namespace Mw
theorem amgm (r g : Int) (hr : 0 ≤ r) (hg : 0 ≤ g) : ∀ n : Nat, ((n : Int)+1) * r * g^n ≤ r^(n+1) + n * g^(n+1) := by
  intro n
  induction n with
  | zero => simp [Int.pow_succ]
  | succ n ih =>
    have h1 : 0 ≤ r * ((r^(n+1) + n * g^(n+1)) - ((n : Int)+1) * r * g^n) := Int.mul_nonneg hr (by omega)
    have h2 : 0 ≤ (((n : Int)+1) * g^n) * ((r - g) * (r - g)) := Int.mul_nonneg (Int.mul_nonneg (by omega) (Int.pow_nonneg hg)) (by rcases Int.le_total r g with h | h; exact Int.mul_nonneg_of_nonpos_of_nonpos (by omega) (by omega); exact Int.mul_nonneg (by omega) (by omega))
    have e1 : g^(n+1) = g^n * g := Int.pow_succ ..
    have e2 : g^(n+1+1) = g^n * g * g := by rw [Int.pow_succ, e1]
    have e3 : r^(n+1+1) = r^(n+1) * r := Int.pow_succ ..
    rw [e1] at h1
    rw [e1, e2, e3]
    push_cast
    generalize (n : Int) = m at *
    generalize g^n = P at *
    generalize r^(n+1) = Q at *
    have h3 := Int.add_nonneg h1 h2
    refine Int.sub_nonneg.mp ?_
    rw [show Q * r + (m + 1) * (P * g * g) - (m + 1 + 1) * r * (P * g) = r * (Q + m * (P * g) - (m + 1) * r * P) + (m + 1) * P * ((r - g) * (r - g)) from by grind]
    exact h3
def rtd (n x : Nat) : Nat → Nat
  | 0 => 0
  | g + 1 => if (g + 1) ^ n ≤ x then g + 1 else rtd n x g
def rt (n x : Nat) : Nat := rtd n x x
theorem rtd_pow (n x : Nat) (hn : n ≠ 0) : ∀ g, (rtd n x g) ^ n ≤ x
  | 0 => by rw [rtd, Nat.zero_pow (by omega)]; exact Nat.zero_le _
  | g + 1 => by rw [rtd]; split; assumption; exact rtd_pow n x hn g
theorem rtd_max (n x : Nat) : ∀ g r, r ≤ g → r ^ n ≤ x → r ≤ rtd n x g
  | 0, r, h, _ => by omega
  | g + 1, r, h, hp => by
    rw [rtd]; split
    · exact h
    · rename_i hg
      have : r ≠ g + 1 := fun e => hg (by rw [← e]; exact hp)
      exact rtd_max n x g r (by omega) hp
theorem self_le_pow {r n : Nat} (hn : n ≠ 0) : r ≤ r ^ n := by
  rcases Nat.eq_zero_or_pos r with h | h
  · omega
  · have := Nat.pow_le_pow_right h (show 1 ≤ n by omega)
    rwa [Nat.pow_one] at this
theorem rt_pow {n x : Nat} (hn : n ≠ 0) : (rt n x) ^ n ≤ x := rtd_pow n x hn x
theorem rt_max {n x r : Nat} (hn : n ≠ 0) (h : r ^ n ≤ x) : r ≤ rt n x := rtd_max n x x r (Nat.le_trans (self_le_pow hn) h) h
theorem rt_of {n x r : Nat} (hn : n ≠ 0) (h1 : r ^ n ≤ x) (h2 : x < (r + 1) ^ n) : rt n x = r := by
  have h3 := rt_max hn h1
  rcases Nat.lt_or_ge r (rt n x) with h | h
  · have h4 := Nat.pow_le_pow_left (show r + 1 ≤ rt n x by omega) n
    have h5 := rt_pow (x := x) hn
    omega
  · omega
def nstep (n x g : Nat) : Nat := ((n - 1) * g + x / g ^ (n - 1)) / n
theorem nstep_ge {n x g : Nat} (hn : n ≠ 0) (hg : 0 < g) : rt n x ≤ nstep n x g := by
  obtain ⟨m, rfl⟩ : ∃ m, n = m + 1 := ⟨n - 1, by omega⟩
  unfold nstep
  rw [Nat.add_sub_cancel, Nat.le_div_iff_mul_le (by omega)]
  have h1 := rt_pow (n := m + 1) (x := x) (by omega)
  generalize rt (m + 1) x = r at *
  have h2 := amgm r g (by omega) (by omega) m
  have hP : 0 < g ^ m := Nat.pow_pos hg
  rcases Nat.lt_or_ge (m * g) (r * (m + 1)) with h | h
  · have h3 : (r * (m + 1) - m * g) ≤ x / g ^ m := by
      rw [Nat.le_div_iff_mul_le hP]
      refine Nat.le_trans ?_ h1
      have h4 : ((r * (m + 1) - m * g : Nat) : Int) = r * (m + 1) - m * g := by
        rw [Int.ofNat_sub (by omega)]; simp
      have h5 : (((r * (m + 1) - m * g) * g ^ m : Nat) : Int) ≤ ((r ^ (m + 1) : Nat) : Int) := by
        rw [Int.natCast_mul, h4, Int.natCast_pow, Int.natCast_pow]
        have h6 : (g : Int) ^ (m + 1) = g ^ m * g := Int.pow_succ ..
        rw [h6] at h2
        generalize (g : Int) ^ m = P at *
        generalize (r : Int) ^ (m + 1) = R at *
        have h7 : ((r : Int) * (m + 1) - m * g) * P = (m + 1) * r * P - m * (P * g) := by grind
        omega
      omega
    omega
  · exact Nat.le_trans h (Nat.le_add_right _ _)
theorem nstep_end {n x g : Nat} (hn : n ≠ 0) (hg : 0 < g) (hge : rt n x ≤ g) (h : ¬ nstep n x g < g) : rt n x = g := by
  obtain ⟨m, rfl⟩ : ∃ m, n = m + 1 := ⟨n - 1, by omega⟩
  unfold nstep at h
  rw [Nat.add_sub_cancel, Nat.not_lt, Nat.le_div_iff_mul_le (by omega)] at h
  have h1 : g ≤ x / g ^ m := by
    have : g * (m + 1) = m * g + g := by rw [Nat.mul_add, Nat.mul_one, Nat.mul_comm]
    omega
  rw [Nat.le_div_iff_mul_le (Nat.pow_pos hg), Nat.mul_comm, ← Nat.pow_succ] at h1
  exact Nat.le_antisymm hge (rt_max (by omega) h1)
theorem nstep_pos {n x g : Nat} (hn : n ≠ 0) (hx : 0 < x) (hg : 0 < g) : 0 < nstep n x g := by
  have h1 := nstep_ge (x := x) hn hg
  have h2 : 1 ≤ rt n x := rt_max hn (by rw [Nat.one_pow]; omega)
  omega
theorem guess_ge {n x len : Nat} (hn : n ≠ 0) (hx : x < 10 ^ len) : rt n x ≤ 10 ^ ((len + n - 1) / n) := by
  have h1 : len ≤ ((len + n - 1) / n) * n := by
    have h2 := Nat.div_add_mod (len + n - 1) n
    have h3 := Nat.mod_lt (len + n - 1) (show 0 < n by omega)
    rw [Nat.mul_comm]; omega
  have h2 : x < (10 ^ ((len + n - 1) / n)) ^ n := by
    rw [← Nat.pow_mul]
    exact Nat.lt_of_lt_of_le hx (Nat.pow_le_pow_right (by omega) h1)
  rcases Nat.lt_or_ge (10 ^ ((len + n - 1) / n)) (rt n x) with h | h
  · have h3 := Nat.pow_le_pow_left (Nat.le_of_lt h) n
    have h4 := rt_pow (n := n) (x := x) hn
    omega
  · exact h
end Mw
