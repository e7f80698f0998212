/- Lemmas for the claim beside this text. -/
import Derived.Test.YtjieekkkaekclaaGreatDoorZPAL
set_option linter.all false
set_option linter.unusedVariables false
set_option linter.unusedSimpArgs false
namespace Go.Proofs.YtjieekkkaekclaaGreatDoor
theorem over_facts {B : Int} (hB : 0 < B) {l b : List Int} {at_ m : Nat} (hb : b.length = m + 2) (ib : Mw.inB B b) (hl : at_ + (m + 3) ≤ l.length) (il : Mw.inB B l)
    (hR : Mw.lv B (l.drop (at_ + 1)) < Mw.lv B b) :
    0 < B ^ m ∧ Mw.lv B b < (b.getD (m + 1) 0 * B + b.getD m 0 + 1) * B ^ m ∧ (b.getD (m + 1) 0 * B + b.getD m 0) * B ^ m ≤ Mw.lv B b ∧
    Mw.lv B (l.drop at_) < ((l.getD (at_ + (m + 2)) 0 * B + l.getD (at_ + (m + 1)) 0) * B + l.getD (at_ + m) 0 + 1) * B ^ m ∧
    ((l.getD (at_ + (m + 2)) 0 * B + l.getD (at_ + (m + 1)) 0) * B + l.getD (at_ + m) 0) * B ^ m ≤ Mw.lv B (l.drop at_) ∧
    Mw.lv B (l.drop at_) < B * Mw.lv B b ∧ Mw.lv B (l.drop (at_ + (m + 3))) = 0 := by
  obtain ⟨h1, h2, h3⟩ := two_top hB hb ib
  have hz : Mw.lv B (l.drop (at_ + (m + 3))) = 0 := by
    have hid : Mw.inB B (l.drop (at_ + 1)) := Mw.inB_drop il _
    have e := Mw.lv_take_drop B (l.drop (at_ + 1)) (m + 2) (by rw [List.length_drop]; omega)
    rw [List.drop_drop, show at_ + 1 + (m + 2) = at_ + (m + 3) by omega] at e
    have a1 := Mw.lv_nonneg hB (Mw.inB_take hid (m + 2))
    have a2 := Mw.lv_lt hB ib
    have a3 := Mw.lv_nonneg hB (Mw.inB_drop il (at_ + (m + 3)))
    have hK : 0 < B ^ (m + 2) := Int.pow_pos hB
    rw [hb] at a2
    generalize Mw.lv B (l.drop (at_ + (m + 3))) = z at *
    generalize B ^ (m + 2) = K at *
    by_cases h : z = 0
    · exact h
    · have : K * 1 ≤ K * z := Int.mul_le_mul_of_nonneg_left (by omega) (by omega)
      omega
  have hg : ∀ k, (l.drop at_).getD k 0 = l.getD (at_ + k) 0 := fun k => by simp [List.getD_eq_getElem?_getD]
  obtain ⟨h4, h5⟩ := three_top (m := m) hB (l := l.drop at_) (by rw [List.length_drop]; omega) (Mw.inB_drop il _) (by rw [List.drop_drop]; exact hz)
  rw [hg, hg, hg] at h4 h5
  refine ⟨h1, h2, h3, h4, h5, ?_, hz⟩
  rw [drop_getD l at_ (by omega), Mw.lv_cons]
  have hx := Mw.inB_getD hB il at_
  have : B * Mw.lv B (l.drop (at_ + 1)) ≤ B * (Mw.lv B b - 1) := Int.mul_le_mul_of_nonneg_left (by omega) (by omega)
  rw [Int.mul_sub] at this
  omega
theorem over_digit {B V T : Int} {l l' Q : List Int} {at_ : Nat} {g : Int} (hq : at_ < Q.length) (h : T = Mw.lv B l + V * (B ^ (at_ + 1) * Mw.lv B (Q.drop (at_ + 1)))) (e : Mw.lv B l' = Mw.lv B l - B ^ at_ * (V * g)) :
    T = Mw.lv B l' + V * (B ^ at_ * Mw.lv B ((Q.set at_ g).drop at_)) := by
  rw [drop_getD _ _ (by rw [List.length_set]; exact hq), Mw.lv_cons, List.drop_set, if_pos (by omega), h, e]
  have : (Q.set at_ g).getD at_ 0 = g := by simp [List.getD_eq_getElem?_getD, hq]
  rw [this, Int.pow_succ]
  generalize Mw.lv B (Q.drop (at_ + 1)) = z
  generalize B ^ at_ = K
  rw [Int.mul_add, Int.mul_add V, ← Int.mul_assoc V K g, Int.mul_comm V K, Int.mul_assoc K V g, Int.mul_assoc K B z]
  omega
theorem over_pull {B V g : Int} (hB : 0 < B) {l l' : List Int} {at_ n : Nat} (hl : l'.length = l.length) (hn : at_ + (n + 1) ≤ l.length) (hi : Mw.inB B l') (hi0 : Mw.inB B l)
    (hd : l'.drop (at_ + (n + 1)) = l.drop (at_ + (n + 1))) (hz : Mw.lv B (l.drop (at_ + (n + 1))) = 0)
    (E : Mw.lv B l' = Mw.lv B l - B ^ at_ * (V * g) + B ^ (at_ + (n + 1)) * 0) (hU : Mw.lv B (l.drop at_) < (g + 1) * V) :
    Mw.lv B l' = Mw.lv B l - B ^ at_ * (V * g) ∧ Mw.lv B (l'.drop at_) < V := by
  rcases pulled hB hl hn hi hi0 hd hz (.inl rfl) E with ⟨_, h1, h2⟩ | ⟨h, _⟩
  · rw [Int.mul_zero, Int.add_zero] at E
    refine ⟨E, ?_⟩
    rw [Int.add_mul] at hU
    omega
  · omega
theorem over_pos {B V g : Int} (hB : 0 < B) {l l' : List Int} {at_ n : Nat} (hl : l'.length = l.length) (hn : at_ + (n + 1) ≤ l.length) (hi : Mw.inB B l') (hi0 : Mw.inB B l)
    (hd : l'.drop (at_ + (n + 1)) = l.drop (at_ + (n + 1))) (hz : Mw.lv B (l.drop (at_ + (n + 1))) = 0)
    (E : Mw.lv B l' = Mw.lv B l - B ^ at_ * (V * g) + B ^ (at_ + (n + 1)) * 1) (hg0 : 0 ≤ g) : 1 ≤ g := by
  rcases pulled hB hl hn hi hi0 hd hz (.inr rfl) E with ⟨h, _⟩ | ⟨_, h1, _⟩
  · omega
  · have h2 := Mw.lv_nonneg hB (Mw.inB_drop hi0 at_)
    by_cases h : g = 0
    · subst h; omega
    · omega
theorem over_push {B V g co : Int} (hB : 0 < B) {l l' l2 : List Int} {at_ n : Nat} (hl : l'.length = l.length) (hl2 : l2.length = l'.length) (hn : at_ + (n + 1) ≤ l.length) (hi : Mw.inB B l') (hi0 : Mw.inB B l) (hi2 : Mw.inB B l2)
    (hd : l'.drop (at_ + (n + 1)) = l.drop (at_ + (n + 1))) (hd2 : l2.drop (at_ + (n + 1)) = l'.drop (at_ + (n + 1))) (hz : Mw.lv B (l.drop (at_ + (n + 1))) = 0)
    (E : Mw.lv B l' = Mw.lv B l - B ^ at_ * (V * g) + B ^ (at_ + (n + 1)) * 1) (hco0 : 0 ≤ co) (hco1 : co ≤ 1)
    (E2 : Mw.lv B l2 = Mw.lv B l' + B ^ at_ * V - B ^ (at_ + (n + 1)) * co) (hU : (g - 1) * V ≤ Mw.lv B (l.drop at_)) :
    Mw.lv B l2 = Mw.lv B l - B ^ at_ * (V * (g - 1)) ∧ Mw.lv B (l2.drop at_) < V ∧ 1 ≤ g := by
  rcases pulled hB hl hn hi hi0 hd hz (.inr rfl) E with ⟨h, _⟩ | ⟨_, h1, h2⟩
  · omega
  · have hz' : Mw.lv B (l'.drop (at_ + (n + 1))) = 0 := by rw [hd]; exact hz
    have hU0 : 0 ≤ Mw.lv B (l.drop at_) := Mw.lv_nonneg hB (Mw.inB_drop hi0 _)
    rw [Int.sub_mul, Int.one_mul] at hU
    have h3 := pushed (U := Mw.lv B (l.drop at_) - g * V + V) hB hl2 (by rw [hl]; exact hn) hi2 hi hd2 hz' hco0 hco1 (by omega) (by omega) E2
    have e := win (d := V - B ^ (n + 1) * co) hB (by rw [hl2, hl]; exact Nat.le_trans (Nat.le_add_right _ _) hn) (by rw [hl]; exact Nat.le_trans (Nat.le_add_right _ _) hn) hi2 hi (by rw [E2, Int.mul_sub, Int.pow_add B at_ (n + 1), Int.mul_assoc]; omega)
    have hK : 0 < B ^ (n + 1) := Int.pow_pos hB
    have hc : co = 1 := by
      have hc : co = 0 ∨ co = 1 := by omega
      rcases hc with rfl | rfl
      · omega
      · rfl
    subst hc
    have hg : 1 ≤ g := by
      by_cases hg : 1 ≤ g
      · exact hg
      · have hV : 0 ≤ V := by
          by_cases hV : 0 ≤ V
          · exact hV
          · omega
        have : g * V ≤ 0 * V := Mw.kn_mul_le (by omega) hV
        omega
    refine ⟨?_, by omega, hg⟩
    rw [E2, E, Int.mul_sub V, Int.mul_sub]
    simp only [Int.mul_one]
    omega
theorem over_by {B x : Int} (hB : 1 < B) (hx : 1 ≤ x) (hxB : x < B) : 1 ≤ B / (x + 1) ∧ B / (x + 1) ≤ B ∧ (x + 1) * (B / (x + 1)) ≤ B := by
  have h1 : 1 ≤ B / (x + 1) := Int.le_ediv_of_mul_le (by omega) (by omega)
  have h2 := Int.mul_ediv_self_le (x := B) (k := x + 1) (by omega)
  have h3 : 1 * (B / (x + 1)) ≤ (x + 1) * (B / (x + 1)) := Mw.kn_mul_le (by omega) (by omega)
  exact ⟨h1, by omega, h2⟩
theorem over_scaled {B by_ : Int} (hB : 1 < B) {b l : List Int} {n : Nat} (hb : b.length = n + 1) (ib : Mw.inB B b) (il : Mw.inB B l) (hl : l.length = n + 2) (h0 : 0 ≤ by_) (hby : (b.getD n 0 + 1) * by_ ≤ B) (e : Mw.lv B l = Mw.lv B b * by_) :
    l.getD (n + 1) 0 = 0 ∧ Mw.lv B (l.take (n + 1)) = Mw.lv B b * by_ := by
  have e1 := Mw.lv_take_drop B b n (by omega)
  rw [drop_getD b n (by omega), List.drop_of_length_le (by omega), Mw.lv_cons, Mw.lv_nil, Int.mul_zero, Int.add_zero] at e1
  have a1 := Mw.lv_lt (by omega) (Mw.inB_take ib n)
  rw [List.length_take, Nat.min_eq_left (by omega)] at a1
  have e2 := Mw.lv_take_drop B l (n + 1) (by omega)
  rw [drop_getD l (n + 1) (by omega), List.drop_of_length_le (by omega), Mw.lv_cons, Mw.lv_nil, Int.mul_zero, Int.add_zero] at e2
  have a2 := Mw.lv_nonneg (by omega) (Mw.inB_take il (n + 1))
  have hK : 0 < B ^ n := Int.pow_pos (by omega)
  have hx := Mw.inB_getD (by omega) il (n + 1)
  have b1 : Mw.lv B b ≤ B ^ n * (b.getD n 0 + 1) - 1 := by rw [Int.mul_add]; omega
  by_cases hy0 : by_ = 0
  · subst hy0
    rw [Int.mul_zero] at e ⊢
    have hK2 : 0 < B ^ (n + 1) := Int.pow_pos (by omega)
    have : l.getD (n + 1) 0 = 0 := by
      by_cases h : l.getD (n + 1) 0 = 0
      · exact h
      · have : B ^ (n + 1) * 1 ≤ B ^ (n + 1) * l.getD (n + 1) 0 := Int.mul_le_mul_of_nonneg_left (by omega) (by omega)
        omega
    rw [this, Int.mul_zero] at e2
    exact ⟨this, by omega⟩
  · have b2 : Mw.lv B b * by_ ≤ (B ^ n * (b.getD n 0 + 1) - 1) * by_ := Mw.kn_mul_le b1 (by omega)
    rw [Int.sub_mul, Int.mul_assoc, Int.one_mul] at b2
    have b3 : B ^ n * ((b.getD n 0 + 1) * by_) ≤ B ^ n * B := Int.mul_le_mul_of_nonneg_left hby (by omega)
    rw [← Int.pow_succ, Nat.succ_eq_add_one] at b3
    have : l.getD (n + 1) 0 = 0 := by
      by_cases h : l.getD (n + 1) 0 = 0
      · exact h
      · have : B ^ (n + 1) * 1 ≤ B ^ (n + 1) * l.getD (n + 1) 0 := Int.mul_le_mul_of_nonneg_left (by omega) (Int.le_of_lt (Int.pow_pos (by omega)))
        omega
    rw [this, Int.mul_zero] at e2
    exact ⟨this, by omega⟩
theorem over_first {B by_ : Int} (hB : 1 < B) {a b l : List Int} {n : Nat} (hn : n ≤ a.length) (hb : b.length = n + 1) (ia : Mw.inB B a) (ib : Mw.inB B b) (il : Mw.inB B l) (hl : l.length = a.length + 1) (h0 : 1 ≤ by_) (ht : 1 ≤ b.getD n 0) (e : Mw.lv B l = Mw.lv B a * by_) :
    Mw.lv B (l.drop (a.length - n)) < Mw.lv B b * by_ := by
  have e1 := Mw.lv_take_drop B b n (by omega)
  rw [drop_getD b n (by omega), List.drop_of_length_le (by omega), Mw.lv_cons, Mw.lv_nil, Int.mul_zero, Int.add_zero] at e1
  have a1 := Mw.lv_nonneg (by omega) (Mw.inB_take ib n)
  have a2 := Mw.lv_lt (by omega) ia
  have e2 := Mw.lv_take_drop B l (a.length - n) (by omega)
  have a3 := Mw.lv_nonneg (by omega) (Mw.inB_take il (a.length - n))
  have hK : 0 < B ^ (a.length - n) := Int.pow_pos (by omega)
  have c1 : B ^ n * 1 ≤ B ^ n * b.getD n 0 := Int.mul_le_mul_of_nonneg_left ht (Int.le_of_lt (Int.pow_pos (by omega)))
  have c2 : B ^ n ≤ Mw.lv B b := by omega
  have c3 : B ^ n * by_ ≤ Mw.lv B b * by_ := Mw.kn_mul_le c2 (by omega)
  have c4 : (Mw.lv B a + 1) * by_ ≤ B ^ a.length * by_ := Mw.kn_mul_le (by omega) (by omega)
  have c7 : B ^ a.length = B ^ (a.length - n) * B ^ n := by rw [← Int.pow_add]; congr 1; omega
  rw [c7, Int.mul_assoc] at c4
  have c5 : B ^ (a.length - n) * (B ^ n * by_) ≤ B ^ (a.length - n) * (Mw.lv B b * by_) := Int.mul_le_mul_of_nonneg_left c3 (by omega)
  rw [Int.add_mul, Int.one_mul] at c4
  have c6 : B ^ (a.length - n) * Mw.lv B (l.drop (a.length - n)) < B ^ (a.length - n) * (Mw.lv B b * by_) := by omega
  exact Int.lt_of_mul_lt_mul_left c6 (by omega)
theorem over_v1 {B by_ : Int} (hB : 1 < B) {b l : List Int} {n : Nat} (hb : b.length = n + 1) (hl : l.length = n + 1) (ib : Mw.inB B b) (il : Mw.inB B l) (h0 : 1 ≤ by_) (ht : 1 ≤ b.getD n 0) (e : Mw.lv B l = Mw.lv B b * by_) : 1 ≤ l.getD n 0 ∧ 0 < Mw.lv B b := by
  have e1 := Mw.lv_take_drop B b n (by omega)
  rw [drop_getD b n (by omega), List.drop_of_length_le (by omega), Mw.lv_cons, Mw.lv_nil, Int.mul_zero, Int.add_zero] at e1
  have a1 := Mw.lv_nonneg (by omega) (Mw.inB_take ib n)
  have e2 := Mw.lv_take_drop B l n (by omega)
  rw [drop_getD l n (by omega), List.drop_of_length_le (by omega), Mw.lv_cons, Mw.lv_nil, Int.mul_zero, Int.add_zero] at e2
  have a2 := Mw.lv_lt (by omega) (Mw.inB_take il n)
  rw [List.length_take, Nat.min_eq_left (by omega)] at a2
  have hK : 0 < B ^ n := Int.pow_pos (by omega)
  have hx := Mw.inB_getD (by omega) il n
  have c1 : B ^ n * 1 ≤ B ^ n * b.getD n 0 := Int.mul_le_mul_of_nonneg_left ht (by omega)
  have c3 : Mw.lv B b * 1 ≤ Mw.lv B b * by_ := Int.mul_le_mul_of_nonneg_left h0 (by omega)
  refine ⟨?_, by omega⟩
  by_cases h : 1 ≤ l.getD n 0
  · exact h
  · have h : l.getD n 0 = 0 := by omega
    rw [h, Int.mul_zero] at e2
    omega
theorem over_rest {B V : Int} (hB : 1 < B) {l : List Int} {n : Nat} (hn : n ≤ l.length) (il : Mw.inB B l) (h : Mw.lv B l < V) (hV : V < B ^ n) : Mw.lv B (l.take n) = Mw.lv B l := by
  have e := Mw.lv_take_drop B l n hn
  have a1 := Mw.lv_nonneg (by omega) (Mw.inB_take il n)
  have a2 := Mw.lv_nonneg (by omega) (Mw.inB_drop il n)
  by_cases hz : Mw.lv B (l.drop n) = 0
  · rw [hz, Int.mul_zero] at e; omega
  · have : B ^ n * 1 ≤ B ^ n * Mw.lv B (l.drop n) := Int.mul_le_mul_of_nonneg_left (by omega) (Int.le_of_lt (Int.pow_pos (by omega)))
    omega
theorem over_last {a b q l r s by_ : Int} (hb : 0 < b) (hby : 1 ≤ by_) (h : a * by_ = l + (b * by_) * q) (h0 : 0 ≤ l) (h1 : l < b * by_) (h2 : l = r * by_ + s) (hs0 : 0 ≤ s) (hs1 : s < by_) : q = a / b ∧ r = a % b := by
  have e : s = (a - b * q - r) * by_ := by
    rw [Int.sub_mul, Int.sub_mul, Int.mul_right_comm b q by_]; omega
  have hz : a - b * q - r = 0 := by
    generalize a - b * q - r = z at *
    rcases Int.lt_trichotomy z 0 with hz | hz | hz
    · have : z * by_ ≤ (-1) * by_ := Mw.kn_mul_le (by omega) (by omega)
      omega
    · exact hz
    · have : 1 * by_ ≤ z * by_ := Mw.kn_mul_le (by omega) (by omega)
      omega
  rw [hz, Int.zero_mul] at e
  subst e
  have r0 : 0 ≤ r := by
    by_cases h : 0 ≤ r
    · exact h
    · have : r * by_ ≤ (-1) * by_ := Mw.kn_mul_le (by omega) (by omega)
      omega
  have r1 : r < b := by
    rw [h2, Int.add_zero] at h1
    exact Int.lt_of_mul_lt_mul_right h1 (by omega)
  have ea : a = q * b + r := by rw [Int.mul_comm]; omega
  have hb' : b ≠ 0 := by omega
  constructor
  · rw [ea, Int.add_comm, Int.add_mul_ediv_right _ _ hb', Int.ediv_eq_zero_of_lt r0 r1, Int.zero_add]
  · rw [ea, Int.add_comm, Int.add_mul_emod_self_right, Int.emod_eq_of_lt r0 r1]
end Go.Proofs.YtjieekkkaekclaaGreatDoor
