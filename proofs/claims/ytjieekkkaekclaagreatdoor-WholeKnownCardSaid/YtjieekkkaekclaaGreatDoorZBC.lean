/- Lemmas for the claim beside this text. -/
import Derived.Test.YtjieekkkaekclaaGreatDoorZBB
set_option linter.all false
set_option linter.unusedVariables false
set_option linter.unusedSimpArgs false
namespace Go.Proofs.YtjieekkkaekclaaGreatDoor
open Go Go.RowKit Go.Proofs.YtjieekkkaekclaaGreatDoorW.PrintWords
attribute [local go_sem] Oper.semAt_some
def Mw.dgv (c : Int) : Int := if 48 ≤ c ∧ c ≤ 57 then c - 48 else if 97 ≤ c ∧ c ≤ 122 then c - 87 else -1
def Mw.knd (c : Int) : Int := if 48 ≤ c ∧ c ≤ 57 then 1 else if 97 ≤ c ∧ c ≤ 122 then 2 else 0
theorem kind_any (c : Int) (w : World) : Calls Tryz.prog 146 #[.int .i32 c] w fun e w' => e = .returned (.int .i64 (Mw.knd c)) ∧ w' = w := by
  obtain ⟨k, hk⟩ : ∃ k, Mw.knd c = k := ⟨_, rfl⟩
  rw [hk]
  unfold Mw.knd at hk
  by_cases h1 : 48 ≤ c
  · by_cases h2 : c ≤ 57
    · rw [if_pos ⟨h1, h2⟩] at hk
      subst hk
      go_enter Tryz.func146, Tryz.ntmps146
      go_wp2
      go_ret
      exact ⟨rfl, rfl⟩
    · rw [if_neg (by omega)] at hk
      by_cases h3 : 97 ≤ c
      · by_cases h4 : c ≤ 122
        · rw [if_pos ⟨h3, h4⟩] at hk
          subst hk
          go_enter Tryz.func146, Tryz.ntmps146
          go_wp2
          go_ret
          exact ⟨rfl, rfl⟩
        · rw [if_neg (by omega)] at hk
          subst hk
          go_enter Tryz.func146, Tryz.ntmps146
          go_wp2
          go_ret
          exact ⟨rfl, rfl⟩
      · rw [if_neg (by omega)] at hk
        subst hk
        go_enter Tryz.func146, Tryz.ntmps146
        go_wp2
        go_ret
        exact ⟨rfl, rfl⟩
  · rw [if_neg (by omega), if_neg (by omega)] at hk
    subst hk
    go_enter Tryz.func146, Tryz.ntmps146
    go_wp2
    go_ret
    exact ⟨rfl, rfl⟩
theorem digit_any (c : Int) (w : World) : Calls Tryz.prog 122 #[.int .i32 c] w fun e w' => e = .returned (.int .i64 (Mw.dgv c)) ∧ w' = w := by
  obtain ⟨k, hk⟩ : ∃ k, Mw.dgv c = k := ⟨_, rfl⟩
  obtain ⟨m, hm⟩ : ∃ m, Mw.knd c = m := ⟨_, rfl⟩
  have hK := kind_any c w
  rw [hm] at hK
  rw [hk]
  unfold Mw.dgv at hk
  unfold Mw.knd at hm
  by_cases h1 : 48 ≤ c ∧ c ≤ 57
  · rw [if_pos h1] at hk hm
    subst hm
    have hw1 : IntKind.i64.wrap c = c := wrap_small _ (by omega) (by omega)
    have hw2 : IntKind.i64.wrap k = k := wrap_small _ (by omega) (by omega)
    clear h1
    go_enter Tryz.func122, Tryz.ntmps122
    go_wp2_with (go_at_call 146; with_reducible refine hK.mono ?_; rintro e w1 ⟨rfl, rfl⟩)
    go_ret
    exact ⟨rfl, rfl⟩
  · rw [if_neg h1] at hk hm
    by_cases h2 : 97 ≤ c ∧ c ≤ 122
    · rw [if_pos h2] at hk hm
      subst hm
      have hw1 : IntKind.i64.wrap c = c := wrap_small _ (by omega) (by omega)
      obtain ⟨q, hq⟩ : ∃ q, c - 39 = q := ⟨_, rfl⟩
      have hq2 : q - 48 = k := by omega
      have hw2 : IntKind.i64.wrap q = q := wrap_small _ (by omega) (by omega)
      have hw3 : IntKind.i64.wrap k = k := wrap_small _ (by omega) (by omega)
      clear h1 h2 hk
      go_enter Tryz.func122, Tryz.ntmps122
      go_wp2_with (go_at_call 146; with_reducible refine hK.mono ?_; rintro e w1 ⟨rfl, rfl⟩)
      go_ret
      exact ⟨rfl, rfl⟩
    · rw [if_neg h2] at hk hm
      subst hm
      subst hk
      clear h1 h2
      go_enter Tryz.func122, Tryz.ntmps122
      go_wp2_with (go_at_call 146; with_reducible refine hK.mono ?_; rintro e w1 ⟨rfl, rfl⟩)
      go_ret
      exact ⟨rfl, rfl⟩
theorem dgv_of {c0 : UInt8} {r n : Nat} (h : ((r, n) = (c0.toNat, 1) ∧ c0.toNat < 128) ∨ (128 ≤ r ∧ 128 ≤ c0.toNat)) {b : Nat} (hb : b ≤ 36) :
    (Mw.bdig c0 < b ∧ Mw.dgv (r : Int) = (Mw.bdig c0 : Int) ∧ n = 1) ∨ (¬ Mw.bdig c0 < b ∧ (Mw.dgv (r : Int) < 0 ∨ (b : Int) ≤ Mw.dgv (r : Int))) := by
  rcases h with ⟨h, hl⟩ | ⟨h1, h2⟩
  · cases h
    by_cases h1 : 48 ≤ c0.toNat ∧ c0.toNat ≤ 57
    · have e1 : Mw.bdig c0 = c0.toNat - 48 := by unfold Mw.bdig; rw [if_pos h1]
      have e2 : Mw.dgv (c0.toNat : Int) = (c0.toNat : Int) - 48 := by unfold Mw.dgv; rw [if_pos (by omega)]
      rw [e1, e2]
      by_cases h2 : c0.toNat - 48 < b
      · exact .inl ⟨h2, by omega, rfl⟩
      · exact .inr ⟨h2, by omega⟩
    · by_cases h3 : 97 ≤ c0.toNat ∧ c0.toNat ≤ 122
      · have e1 : Mw.bdig c0 = c0.toNat - 87 := by unfold Mw.bdig; rw [if_neg h1, if_pos h3]
        have e2 : Mw.dgv (c0.toNat : Int) = (c0.toNat : Int) - 87 := by unfold Mw.dgv; rw [if_neg (by omega), if_pos (by omega)]
        rw [e1, e2]
        by_cases h2 : c0.toNat - 87 < b
        · exact .inl ⟨h2, by omega, rfl⟩
        · exact .inr ⟨h2, by omega⟩
      · have e1 : Mw.bdig c0 = 99 := by unfold Mw.bdig; rw [if_neg h1, if_neg h3]
        have e2 : Mw.dgv (c0.toNat : Int) = -1 := by unfold Mw.dgv; rw [if_neg (by omega), if_neg (by omega)]
        rw [e1, e2]
        exact .inr ⟨by omega, .inl (by omega)⟩
  · have e1 : Mw.bdig c0 = 99 := by unfold Mw.bdig; rw [if_neg (by omega), if_neg (by omega)]
    have e2 : Mw.dgv (r : Int) = -1 := by unfold Mw.dgv; rw [if_neg (by omega), if_neg (by omega)]
    rw [e1, e2]
    exact .inr ⟨by omega, .inl (by omega)⟩
end Go.Proofs.YtjieekkkaekclaaGreatDoor
