/- Lemmas for the claim beside this text. -/
set_option linter.all false
set_option linter.unusedVariables false
set_option linter.unusedSimpArgs false
namespace Mw
def bch (d : Nat) : UInt8 := if d < 10 then UInt8.ofNat (48 + d) else UInt8.ofNat (87 + d)
def bdig (c : UInt8) : Nat := if 48 ≤ c.toNat ∧ c.toNat ≤ 57 then c.toNat - 48 else if 97 ≤ c.toNat ∧ c.toNat ≤ 122 then c.toNat - 87 else 99
def brev (b n : Nat) : List UInt8 := if _h : n = 0 ∨ b < 2 then [] else bch (n % b) :: brev b (n / b)
termination_by n
decreasing_by exact Nat.div_lt_self (by omega) (by omega)
theorem brev_zero (b : Nat) : brev b 0 = [] := by rw [brev, dif_pos (.inl rfl)]
theorem brev_pos {b n : Nat} (hb : 2 ≤ b) (hn : n ≠ 0) : brev b n = bch (n % b) :: brev b (n / b) := by rw [brev, dif_neg (by omega)]
def btxt (b n : Nat) : List UInt8 := (brev b n).reverse
theorem brev_len {b : Nat} (hb : 2 ≤ b) : ∀ (k n : Nat), n < 2 ^ k → (brev b n).length ≤ k := by
  intro k
  induction k with
  | zero => intro n h; have : n = 0 := by simpa using h
            subst this; rw [brev_zero]; simp
  | succ k ih =>
    intro n h
    by_cases hn : n = 0
    · subst hn; rw [brev_zero]; simp
    · rw [brev_pos hb hn, List.length_cons]
      have h1 : n / b < 2 ^ k := by
        rw [Nat.div_lt_iff_lt_mul (by omega)]
        rw [Nat.pow_succ] at h
        exact Nat.lt_of_lt_of_le h (Nat.mul_le_mul_left _ hb)
      have := ih _ h1
      omega
def bval (b : Nat) (l : List UInt8) : Nat := l.foldl (fun a c => a * b + bdig c) 0
theorem bval_snoc (b : Nat) (l : List UInt8) (c : UInt8) : bval b (l ++ [c]) = bval b l * b + bdig c := by rw [bval, List.foldl_append]; rfl
theorem bval_nil (b : Nat) : bval b [] = 0 := rfl
theorem bval_lt {b : Nat} (l : List UInt8) (h : ∀ c ∈ l, bdig c < b) : bval b l < b ^ l.length := by
  suffices H : ∀ (k : Nat) (l : List UInt8), l.length = k → (∀ c ∈ l, bdig c < b) → bval b l < b ^ l.length from H _ l rfl h
  intro k
  induction k with
  | zero => intro l hl _; have : l = [] := List.length_eq_zero_iff.mp hl
            subst this; simp [bval_nil]
  | succ k ih =>
    intro l hl h
    obtain ⟨a, c, rfl⟩ : ∃ a c, l = a ++ [c] := ⟨l.dropLast, l.getLast (by intro e; subst e; simp at hl), (List.dropLast_concat_getLast _).symm⟩
    have h1 := ih a (by simpa using hl) (fun c hc => h c (by simp [hc]))
    have h2 := h c (by simp)
    rw [bval_snoc, List.length_append, List.length_singleton, Nat.pow_succ]
    have h3 : (bval b a + 1) * b ≤ b ^ a.length * b := Nat.mul_le_mul_right _ h1
    rw [Nat.add_mul] at h3
    omega
end Mw
