/- Lemmas for the claim beside this text. -/
import Derived.Test.YtjieekkkaekclaaGreatDoorZRBC
import Derived.Test.YtjieekkkaekclaaGreatDoorZRBD
import Derived.Test.YtjieekkkaekclaaGreatDoorZRBE
import Derived.Laws.Bits64
set_option linter.all false
set_option linter.unusedVariables false
set_option linter.unusedSimpArgs false
namespace Go.Proofs.YtjieekkkaekclaaGreatDoor
open Go Go.RowKit Go.Proofs.YtjieekkkaekclaaGreatDoorW.PrintWords Go.Proofs.YtjieekkkaekclaaGreatDoor.PR
theorem u64_wrap (n : Int) : 0 ≤ IntKind.u64.wrap n ∧ IntKind.u64.wrap n < 18446744073709551616 := by
  simp only [IntKind.wrap, IntKind.signed, IntKind.bits]
  simp
  omega
theorem u64_id {n : Int} (h0 : 0 ≤ n) (h1 : n < 18446744073709551616) : IntKind.u64.wrap n = n := by
  simp only [IntKind.wrap, IntKind.signed, IntKind.bits]
  simp
  omega
theorem turnFin_nonneg (m : Int) : 0 ≤ turnFin (turnOut m) := by
  unfold turnFin
  have h := u64_wrap (turnSt m * 5840696475078001361)
  have e : turnOut m = (((turnOut m).toNat : Nat) : Int) := by unfold turnOut; omega
  have hb : (turnOut m).toNat < 18446744073709551616 := by unfold turnOut; omega
  rw [e, show (536870912 : Int) = ((536870912 : Nat) : Int) from rfl, xorShift_u64 _ _ hb]
  exact Int.ediv_nonneg (Int.natCast_nonneg _) (by omega)
def At (b a : Int) : Prop := 0 ≤ a ∧ a ≤ b
theorem At.mono {b c a : Int} (h : At b a) (hc : b ≤ c) : At c a := ⟨h.1, Int.le_trans h.2 hc⟩
theorem turn_ok (l : List Int) (a st : Int) {b : Int} (h : At b a) (hb : b < 1000000) : ∃ r st', metewandkit_Rod_turn.f l a st = some (r, a + 1, st') ∧ 0 ≤ r := by
  unfold metewandkit_Rod_turn.f
  obtain ⟨h0, h1⟩ := h
  refine ⟨_, _, by rw [if_pos h0, w_id (by omega) (by omega)], turnFin_nonneg _⟩
theorem up_ok (l : List Int) (a st n : Int) {b : Int} (h : At b a) (hb : b < 1000000) (hn : n < 1000000000) : ∃ r st', metewandkit_Rod_Up.f l a st n = some (r, a + 1, st') ∧ 0 ≤ r ∧ (n < 1 → r = 0) ∧ (1 ≤ n → r ≤ n) := by
  obtain ⟨r, st', e, h0⟩ := turn_ok l a st h hb
  unfold metewandkit_Rod_Up.f
  rw [e]
  simp only [Option.bind_some]
  by_cases c : n < 1
  · exact ⟨0, st', by rw [if_pos c], by omega, fun _ => rfl, fun h => by omega⟩
  · have w1 : IntKind.u64.wrap n = n := u64_id (by omega) (by omega)
    have w2 : IntKind.u64.wrap (n + 1) = n + 1 := u64_id (by omega) (by omega)
    have m0 := Int.tmod_nonneg (n + 1) h0
    have m1 := Int.tmod_lt_of_pos r (show 0 < n + 1 by omega)
    refine ⟨Int.tmod r (n + 1), st', ?_, m0, fun h => absurd h c, fun _ => by omega⟩
    have w3 : wrap64 (Int.tmod r (n + 1)) = Int.tmod r (n + 1) := w_id (by omega) (by omega)
    rw [if_neg c, w1, w2, if_neg (by clear w1 w2 w3; omega), w3]
theorem from_ok (l : List Int) (a st lo hi : Int) {b : Int} (h : At b a) (hb : b < 1000000) (h1 : -1000000 ≤ lo) (h2 : lo ≤ 1000000) (h3 : hi ≤ 1000000) (h4 : -1000000 ≤ hi) : ∃ r st', metewandkit_Rod_From.f l a st lo hi = some (r, a + 1, st') ∧ lo ≤ r ∧ (lo ≤ hi → r ≤ hi) ∧ (hi < lo → r = lo) := by
  have w1 : wrap64 (hi - lo) = hi - lo := w_id (by omega) (by omega)
  obtain ⟨r, st', e, p1, p2, p3⟩ := up_ok l a st (hi - lo) h hb (by clear w1; omega)
  unfold metewandkit_Rod_From.f
  rw [w1, e]
  simp only [Option.bind_some]
  clear w1 e
  have hr : r ≤ 2000000 := by
    by_cases c : hi - lo < 1
    · rw [p2 c]; omega
    · have := p3 (by omega); omega
  refine ⟨lo + r, st', by rw [w_id (by omega) (by omega)], by omega, fun hc => ?_, fun hc => ?_⟩
  · by_cases c : hi - lo < 1
    · rw [p2 c]; omega
    · have := p3 (by omega); omega
  · rw [p2 (by omega)]; omega
theorem pick_ok (l : List Int) (a st : Int) (xs : List Int) {b : Int} (h : At b a) (hb : b < 1000000) (hx : xs ≠ []) (hl : xs.length ≤ 1000) : ∃ r st', metewandkit_Rod_Pick.f l a st xs = some (r, a + 1, st') ∧ r ∈ xs := by
  have hp := List.length_pos_iff.mpr hx
  have w1 : wrap64 ((xs.length : Int) - 1) = (xs.length : Int) - 1 := w_id (by omega) (by omega)
  obtain ⟨r, st', e, p1, p2, p3⟩ := up_ok l a st ((xs.length : Int) - 1) h hb (by clear w1; omega)
  unfold metewandkit_Rod_Pick.f
  rw [w1, e]
  simp only [Option.bind_some]
  clear w1 e
  have hr : r < xs.length := by
    by_cases c : (xs.length : Int) - 1 < 1
    · rw [p2 c]; omega
    · have := p3 (by omega); omega
  refine ⟨rd xs r, st', by rw [if_pos p1, if_pos hr], ?_⟩
  rw [rd]
  exact Mw.getD_mem (by omega)
theorem once_ok (l : List Int) (a st : Int) {b : Int} (h : At b a) (hb : b < 1000000) : ∃ r st', metewandkit_Rod_Once.f l a st 3 = some (r, a + 1, st') := by
  have w1 : wrap64 (3 - 1) = 2 := w_id (by omega) (by omega)
  obtain ⟨r, st', e, p1, p2, p3⟩ := up_ok l a st 2 h hb (by omega)
  unfold metewandkit_Rod_Once.f
  rw [w1, e]
  exact ⟨_, _, rfl⟩
theorem digit_ok (n : Int) (h0 : 0 ≤ n) (h1 : n < 10) : metewandkit_Digit.f n = some (Mw.B [Mw.dgt n.toNat]) := by
  unfold metewandkit_Digit.f
  have e : Int.tmod n 10 = n := Int.tmod_eq_of_lt h0 h1
  rw [e, strOf_nums]
  simp only [List.map_cons, List.map_nil]
  rw [byte_dgt h0 h1]
theorem whole_l0 (l : List Int) (m : Int) (hm : m ≤ 1000) : ∀ (d : Nat) (s : List UInt8) (i : Nat) (a st : Int) {b : Int}, (i : Int) + d = max m i → s.length = i → (s = [] ∨ Mw.cand s = true ∧ s ≠ [48]) → At b a → b + 4 * d + 1 < 1000000 → i ≤ 1000 →
    ∃ n a' st', EvP (fun k => metewandkit_Rod_Whole.l0 k m (Mw.B s) i l a st) (Mw.T n, a', st') ∧ Mw.Sz (max m.toNat i) n ∧ At (b + 4 * d + 1) a' := by
  intro d
  induction d with
  | zero =>
    intro s i a st b hd hs hc ha hb hi1
    by_cases h0 : s = []
    · subst h0
      refine ⟨0, a, st, EvP.step (f := fun _ => some (Mw.T 0, a, st)) (fun k => ?_) (EvP.now _), Sz_zero, ha.mono (by omega)⟩
      simp only [metewandkit_Rod_Whole.l0]
      rw [if_neg (by omega), if_pos (B_tl []), zero_T]
    · have hcd : Mw.cand s = true := by rcases hc with h | h; exact absurd h h0; exact h.1
      have hlen := List.length_pos_iff.mpr h0
      obtain ⟨r, st', e⟩ := once_ok l a st ha (by omega)
      have hz : Mw.Sz (max m.toNat i) ((Mw.dval s : Nat) : Int) := by
        have := Mw.dval_lt s (cand_digs hcd).2
        have h2 : 10 ^ s.length ≤ 10 ^ (max m.toNat i) := Nat.pow_le_pow_right (by omega) (by omega)
        show (((Mw.dval s : Nat) : Int)).natAbs < _
        rw [Int.natAbs_natCast]; omega
      have hT : Mw.B s = Mw.T ((Mw.dval s : Nat) : Int) := by rw [Mw.T, Mw.itxt_nonneg (by omega), Int.natAbs_natCast, Mw.dtxt_dval s hcd]
      have hpos : 0 < Mw.dval s := by
        rcases Nat.eq_zero_or_pos (Mw.dval s) with h | h
        · exfalso
          have h2 := Mw.dtxt_dval s hcd
          rw [h, Mw.dtxt_zero] at h2
          rcases hc with h3 | h3
          · exact h0 h3
          · exact h3.2 h2.symm
        · exact h
      have hmT : (⟨#[45]⟩ : ByteArray) ++ Mw.B s = Mw.T (-((Mw.dval s : Nat) : Int)) := by
        rw [show (⟨#[45]⟩ : ByteArray) = Mw.B [45] from rfl, B_append, Mw.T, Mw.itxt_neg (by omega), Int.natAbs_neg, Int.natAbs_natCast, Mw.dtxt_dval s hcd]; rfl
      cases r with
      | true =>
        refine ⟨_, _, _, EvP.step (f := fun _ => some (Mw.T (-((Mw.dval s : Nat) : Int)), a + 1, st')) (fun k => ?_) (EvP.now _), hz.neg, ⟨by have := ha.1; omega, by have := ha.2; omega⟩⟩
        simp only [metewandkit_Rod_Whole.l0]
        rw [if_neg (by omega), if_neg (by rw [B_tl]; exact h0), e]
        simp only [Option.bind_some]
        rw [if_pos trivial, if_pos (by rw [B_size]; omega), hmT]
      | false =>
        refine ⟨_, _, _, EvP.step (f := fun _ => some (Mw.T ((Mw.dval s : Nat) : Int), a + 1, st')) (fun k => ?_) (EvP.now _), hz, ⟨by have := ha.1; omega, by have := ha.2; omega⟩⟩
        simp only [metewandkit_Rod_Whole.l0]
        rw [if_neg (by omega), if_neg (by rw [B_tl]; exact h0), e]
        simp only [Option.bind_some]
        rw [if_neg (by simp), hT]
  | succ d ih =>
    intro s i a st b hd hs hc ha hb hi1
    obtain ⟨u, st1, e1, u0, _, u1⟩ := up_ok l a st 9 ha (by omega) (by omega)
    have ha1 : At (b + 1) (a + 1) := ⟨by have := ha.1; omega, by have := ha.2; omega⟩
    obtain ⟨p, st2, e2, hp⟩ := pick_ok l (a + 1) st1 [0, 9, u] ha1 (by omega) (by simp) (by simp)
    have ha2 : At (b + 2) (a + 1 + 1) := ⟨by have := ha.1; omega, by have := ha.2; omega⟩
    have hu := u1 (by omega)
    have hp2 : 0 ≤ p ∧ p < 10 := by simp at hp; omega
    have wi : wrap64 ((i : Int) + 1) = ((i + 1 : Nat) : Int) := w_id (by omega) (by omega)
    by_cases hi : i = 0
    · subst hi
      have hs0 : s = [] := List.length_eq_zero_iff.mp hs
      subst hs0
      obtain ⟨f, st3, e3, f0, f1, _⟩ := from_ok l (a + 1 + 1) st2 1 9 ha2 (by omega) (by omega) (by omega) (by omega) (by omega)
      have f1 := f1 (by omega)
      have ha3 : At (b + 3) (a + 1 + 1 + 1) := ⟨by have := ha.1; omega, by have := ha.2; omega⟩
      obtain ⟨n, a', st', he, hz, hA⟩ := ih [Mw.dgt f.toNat] 1 (a + 1 + 1 + 1) st3 (b := b + 3) (by clear wi; omega) rfl (.inr ⟨by simp [Mw.cand, Mw.dig_dgt (show f.toNat < 10 by omega)], by
        intro h
        have h2 := congrArg UInt8.toNat (List.cons.inj h).1
        rw [Mw.dgt_toNat (by omega)] at h2
        have h3 : (48 : UInt8).toNat = 48 := rfl
        omega⟩) ha3 (by omega) (by omega)
      refine ⟨n, a', st', EvP.step (fun k => ?_) he, hz.mono (by omega), hA.mono (by omega)⟩
      simp only [metewandkit_Rod_Whole.l0]
      rw [if_pos (by clear wi; omega), e1]
      simp only [Option.bind_some]
      rw [e2]
      simp only [Option.bind_some]
      rw [if_pos (by rfl), e3]
      simp only [Option.bind_some]
      rw [digit_ok f (by omega) (by omega)]
      simp only [Option.bind_some]
      rw [if_pos (by rw [B_size, B_size]; simp), B_append, wi]; rfl
    · have hcs : Mw.cand s = true ∧ s ≠ [48] := by rcases hc with h | h; · subst h; simp at hs; omega
                                                   · exact h
      have hnew : Mw.cand (s ++ [Mw.dgt p.toNat]) = true := by
        obtain ⟨c, r, rfl⟩ : ∃ c r, s = c :: r := by cases s with | nil => simp at hs; omega | cons c r => exact ⟨c, r, rfl⟩
        have h48 : c ≠ 48 := by
          intro hc48
          subst hc48
          have h1 := hcs.1
          by_cases hr : r = []
          · subst hr; exact hcs.2 rfl
          · unfold Mw.cand at h1
            simp only [Bool.and_eq_true] at h1
            have h6 := h1.2
            simp at h6
            exact hr h6
        have hall := (cand_digs hcs.1).2
        simp only [Mw.cand, List.cons_append, List.isEmpty_cons, Bool.not_false, Bool.true_and, List.head?_cons]
        have h1 : (c :: (r ++ [Mw.dgt p.toNat])).all Mw.dig = true := by
          rw [List.all_eq_true]
          intro x hx
          rcases List.mem_cons.mp hx with h | h
          · rw [h]; exact hall c (List.mem_cons_self ..)
          · rcases List.mem_append.mp h with h | h
            · exact hall x (List.mem_cons_of_mem _ h)
            · simp at h; rw [h]; exact Mw.dig_dgt (by omega)
        have h2 : (some c == some (48 : UInt8)) = false := by
          rw [show (some c == some (48 : UInt8)) = (c == 48) from rfl, beq_eq_false_iff_ne]; exact h48
        rw [h1, h2]; simp
      obtain ⟨n, a', st', he, hz, hA⟩ := ih (s ++ [Mw.dgt p.toNat]) (i + 1) (a + 1 + 1) st2 (b := b + 2) (by clear wi; omega) (by simp [hs]) (.inr ⟨hnew, fun h => by have := congrArg List.length h; simp only [List.length_append, List.length_cons, List.length_nil] at this; clear wi; omega⟩) ha2 (by omega) (by clear wi; omega)
      refine ⟨n, a', st', EvP.step (fun k => ?_) he, hz.mono (by omega), hA.mono (by omega)⟩
      · simp only [metewandkit_Rod_Whole.l0]
        rw [if_pos (by clear wi; omega), e1]
        simp only [Option.bind_some]
        rw [e2]
        simp only [Option.bind_some]
        rw [if_neg (by clear wi; omega), digit_ok p hp2.1 hp2.2]
        simp only [Option.bind_some]
        rw [if_pos (by rw [B_size, B_size]; simp only [List.length_cons, List.length_nil]; omega), B_append, wi]
theorem whole_ok (l : List Int) (a st m : Int) {b : Int} (h : At b a) (hb : b < 900000) (hm : m ≤ 1000) : ∃ n a' st', EvP (fun k => metewandkit_Rod_Whole.f k l a st m) (Mw.T n, a', st') ∧ Mw.Sz m.toNat n ∧ At (b + 5000) a' := by
  obtain ⟨u, st1, e1, u0, u1, u2⟩ := up_ok l a st m h (by omega) (by omega)
  have ha1 : At (b + 1) (a + 1) := ⟨by have := h.1; omega, by have := h.2; omega⟩
  have hu : u ≤ 1000 ∧ u.toNat ≤ m.toNat := by
    by_cases c : m < 1
    · rw [u1 c]; omega
    · have := u2 (by omega); omega
  obtain ⟨n, a', st', he, hz, hA⟩ := whole_l0 l u hu.1 u.toNat [] 0 (a + 1) st1 (b := b + 1) (by omega) rfl (.inl rfl) ha1 (by omega) (by omega)
  refine ⟨n, a', st', ?_, hz.mono (by omega), hA.mono (by omega)⟩
  unfold metewandkit_Rod_Whole.f
  rw [e1]
  exact EvP.bind (EvP.now _) he
end Go.Proofs.YtjieekkkaekclaaGreatDoor
namespace Go.Proofs.YtjieekkkaekclaaGreatDoor
open Go Go.RowKit Go.Proofs.YtjieekkkaekclaaGreatDoorW.PrintWords Go.Proofs.YtjieekkkaekclaaGreatDoor.PR
theorem terr_Sz {n : Int} (h : Mw.Sz 400 n) : Mw.terr (Mw.itxt n) = 0 := by
  unfold Mw.terr
  rw [if_pos (Mw.okf_itxt n), Mw.unm_itxt, if_neg (by have := h.len (by omega); omega)]
theorem terr2_itxt {n m : Int} (h : Mw.Sz 400 n) (h' : Mw.Sz 400 m) : Mw.terr2 (Mw.itxt n) (Mw.itxt m) = 0 := by
  unfold Mw.terr2; rw [if_pos (terr_Sz h), terr_Sz h']
theorem T_list (n : Int) : (Mw.T n).data.toList = Mw.itxt n := by rw [Mw.T, B_list]
theorem T_small {n : Int} (h : Mw.Sz 400 n) : (Mw.T n).size ≤ 100000 := by have := T_size h (by omega); omega
theorem give_T {n : Int} (h : Mw.Sz 400 n) : Mw.give n = (Mw.itxt n, 0) := by unfold Mw.give; rw [if_pos (gerr_Sz h)]
theorem wadd_T {n m : Int} (h : Mw.Sz 390 n) (h' : Mw.Sz 390 m) : whole_Add.f (Mw.T n) (Mw.T m) = some (Mw.T (n + m), 0) := by
  have a := h.mono (show 390 ≤ 400 by omega)
  have b := h'.mono (show 390 ≤ 400 by omega)
  unfold whole_Add.f; rw [if_pos ⟨T_small a, T_small b⟩, T_list, T_list, Mw.both, if_pos (terr2_itxt a b), Mw.ival_itxt, Mw.ival_itxt, give_T ((h.add h').mono (by omega))]; rfl
theorem wsub_T {n m : Int} (h : Mw.Sz 390 n) (h' : Mw.Sz 390 m) : whole_Sub.f (Mw.T n) (Mw.T m) = some (Mw.T (n - m), 0) := by
  have a := h.mono (show 390 ≤ 400 by omega)
  have b := h'.mono (show 390 ≤ 400 by omega)
  unfold whole_Sub.f; rw [if_pos ⟨T_small a, T_small b⟩, T_list, T_list, Mw.both, if_pos (terr2_itxt a b), Mw.ival_itxt, Mw.ival_itxt, give_T ((h.sub h').mono (by omega))]; rfl
theorem wmul_T {n m : Int} (h : Mw.Sz 200 n) (h' : Mw.Sz 200 m) : whole_Mul.f (Mw.T n) (Mw.T m) = some (Mw.T (n * m), 0) := by
  have a := h.mono (show 200 ≤ 400 by omega)
  have b := h'.mono (show 200 ≤ 400 by omega)
  unfold whole_Mul.f; rw [if_pos ⟨T_small a, T_small b⟩, T_list, T_list, Mw.both, if_pos (terr2_itxt a b), Mw.ival_itxt, Mw.ival_itxt, give_T (h.mul h')]; rfl
end Go.Proofs.YtjieekkkaekclaaGreatDoor
namespace Go.Proofs.YtjieekkkaekclaaGreatDoor.PR
open Go.RowKit Go.Proofs.YtjieekkkaekclaaGreatDoorW.PrintWords Go.Proofs.YtjieekkkaekclaaGreatDoorW.PrintLast Go.Proofs.YtjieekkkaekclaaGreatDoorW.PrintMore
attribute [local go_sem] max2_int min2_int max_two min_two max_three min_three max_four min_four
set_option linter.unusedVariables false
set_option linter.unusedSimpArgs false
def metewandlaw01_three.f (k : Nat) (l0 : List Int) : Option (ByteArray × ByteArray × ByteArray) := (metewandkit_NewRod.f l0).bind fun bt632 => ((metewandkit_Rod_Pick.f bt632.1 bt632.2.1 bt632.2.2 (([3, 30] : List Int))).bind fun bt639 => ((metewandkit_Rod_Whole.f k bt632.1 bt639.2.1 bt639.2.2 bt639.1).bind fun bt642 => ((metewandkit_Rod_Pick.f bt632.1 bt642.2.1 bt642.2.2 (([3, 30] : List Int))).bind fun bt648 => ((metewandkit_Rod_Whole.f k bt632.1 bt648.2.1 bt648.2.2 bt648.1).bind fun bt651 => ((metewandkit_Rod_Pick.f bt632.1 bt651.2.1 bt651.2.2 (([3, 30] : List Int))).bind fun bt657 => ((metewandkit_Rod_Whole.f k bt632.1 bt657.2.1 bt657.2.2 bt657.1).bind fun bt660 => (some (bt642.1, bt651.1, bt660.1))))))))
set_option maxHeartbeats 8000000 in
set_option maxRecDepth 100000 in
theorem metewandlaw01_three.calls (k : Nat) (A0 : Option Addr) (c0 : Nat) (l0 : List Int) (r1 : ByteArray) (r2 : ByteArray) (r3 : ByteArray) (w : World) (hr0 : Kd.C (Kd.int .i64) w A0 l0.length l0) (hc0 : l0.length ≤ c0) (h : metewandlaw01_three.f k l0 = some (r1, r2, r3)) :
    Calls Tryz.prog 42 #[.slice A0 l0.length c0] w fun e w' => e = .returned (.tuple #[.string r1, .string r2, .string r3]) ∧ Below w.heap.size w w' := by
  have HR0 := Aside0.mk hr0
  have HC0 := Aside0.mk hc0
  clear hr0 hc0
  have HB := Aside0.mk (Below.refl w.heap.size w)
  have H : ((metewandkit_NewRod.f l0).bind fun bt632 => ((metewandkit_Rod_Pick.f bt632.1 bt632.2.1 bt632.2.2 (([3, 30] : List Int))).bind fun bt639 => ((metewandkit_Rod_Whole.f k bt632.1 bt639.2.1 bt639.2.2 bt639.1).bind fun bt642 => ((metewandkit_Rod_Pick.f bt632.1 bt642.2.1 bt642.2.2 (([3, 30] : List Int))).bind fun bt648 => ((metewandkit_Rod_Whole.f k bt632.1 bt648.2.1 bt648.2.2 bt648.1).bind fun bt651 => ((metewandkit_Rod_Pick.f bt632.1 bt651.2.1 bt651.2.2 (([3, 30] : List Int))).bind fun bt657 => ((metewandkit_Rod_Whole.f k bt632.1 bt657.2.1 bt657.2.2 bt657.1).bind fun bt660 => (some (bt642.1, bt651.1, bt660.1))))))))) = some (r1, r2, r3) := h
  clear h
  replace H := Option.bind_eq_some_iff.mp H
  obtain ⟨⟨t632, t633, t634⟩, A20, H⟩ := H
  replace H : ((metewandkit_Rod_Pick.f t632 t633 t634 (([3, 30] : List Int))).bind fun bt639 => ((metewandkit_Rod_Whole.f k t632 bt639.2.1 bt639.2.2 bt639.1).bind fun bt642 => ((metewandkit_Rod_Pick.f t632 bt642.2.1 bt642.2.2 (([3, 30] : List Int))).bind fun bt648 => ((metewandkit_Rod_Whole.f k t632 bt648.2.1 bt648.2.2 bt648.1).bind fun bt651 => ((metewandkit_Rod_Pick.f t632 bt651.2.1 bt651.2.2 (([3, 30] : List Int))).bind fun bt657 => ((metewandkit_Rod_Whole.f k t632 bt657.2.1 bt657.2.2 bt657.1).bind fun bt660 => (some (bt642.1, bt651.1, bt660.1)))))))) = some (r1, r2, r3) := H
  have A2 := Aside0.mk A20
  clear A20
  obtain ⟨y636, hy636⟩ : ∃ y_ : List Int, y_ = (([3, 30] : List Int)) := ⟨_, rfl⟩
  replace H : ((metewandkit_Rod_Pick.f t632 t633 t634 y636).bind fun bt639 => ((metewandkit_Rod_Whole.f k t632 bt639.2.1 bt639.2.2 bt639.1).bind fun bt642 => ((metewandkit_Rod_Pick.f t632 bt642.2.1 bt642.2.2 (([3, 30] : List Int))).bind fun bt648 => ((metewandkit_Rod_Whole.f k t632 bt648.2.1 bt648.2.2 bt648.1).bind fun bt651 => ((metewandkit_Rod_Pick.f t632 bt651.2.1 bt651.2.2 (([3, 30] : List Int))).bind fun bt657 => ((metewandkit_Rod_Whole.f k t632 bt657.2.1 bt657.2.2 bt657.1).bind fun bt660 => (some (bt642.1, bt651.1, bt660.1)))))))) = some (r1, r2, r3) := by first | (rw [hy636]; with_reducible exact H) | (have H2_ := (Option.bind_some _ _).symm.trans H; rw [hy636]; with_reducible exact H2_) | (have H2_ := (Option.bind_some _ _).symm.trans H; with_reducible exact H2_) | with_reducible exact H | (rw [hy636]; exact H) | exact H
  have Ny636 := Aside0.mk hy636
  clear hy636
  replace H := Option.bind_eq_some_iff.mp H
  obtain ⟨⟨t639, t640, t641⟩, A30, H⟩ := H
  replace H : ((metewandkit_Rod_Whole.f k t632 t640 t641 t639).bind fun bt642 => ((metewandkit_Rod_Pick.f t632 bt642.2.1 bt642.2.2 (([3, 30] : List Int))).bind fun bt648 => ((metewandkit_Rod_Whole.f k t632 bt648.2.1 bt648.2.2 bt648.1).bind fun bt651 => ((metewandkit_Rod_Pick.f t632 bt651.2.1 bt651.2.2 (([3, 30] : List Int))).bind fun bt657 => ((metewandkit_Rod_Whole.f k t632 bt657.2.1 bt657.2.2 bt657.1).bind fun bt660 => (some (bt642.1, bt651.1, bt660.1))))))) = some (r1, r2, r3) := H
  have A3 := Aside0.mk A30
  clear A30
  replace H := Option.bind_eq_some_iff.mp H
  obtain ⟨⟨t642, t643, t644⟩, A40, H⟩ := H
  replace H : ((metewandkit_Rod_Pick.f t632 t643 t644 (([3, 30] : List Int))).bind fun bt648 => ((metewandkit_Rod_Whole.f k t632 bt648.2.1 bt648.2.2 bt648.1).bind fun bt651 => ((metewandkit_Rod_Pick.f t632 bt651.2.1 bt651.2.2 (([3, 30] : List Int))).bind fun bt657 => ((metewandkit_Rod_Whole.f k t632 bt657.2.1 bt657.2.2 bt657.1).bind fun bt660 => (some (t642, bt651.1, bt660.1)))))) = some (r1, r2, r3) := H
  have A4 := Aside0.mk A40
  clear A40
  obtain ⟨y645, hy645⟩ : ∃ y_ : List Int, y_ = (([3, 30] : List Int)) := ⟨_, rfl⟩
  replace H : ((metewandkit_Rod_Pick.f t632 t643 t644 y645).bind fun bt648 => ((metewandkit_Rod_Whole.f k t632 bt648.2.1 bt648.2.2 bt648.1).bind fun bt651 => ((metewandkit_Rod_Pick.f t632 bt651.2.1 bt651.2.2 (([3, 30] : List Int))).bind fun bt657 => ((metewandkit_Rod_Whole.f k t632 bt657.2.1 bt657.2.2 bt657.1).bind fun bt660 => (some (t642, bt651.1, bt660.1)))))) = some (r1, r2, r3) := by first | (rw [hy645]; with_reducible exact H) | (have H2_ := (Option.bind_some _ _).symm.trans H; rw [hy645]; with_reducible exact H2_) | (have H2_ := (Option.bind_some _ _).symm.trans H; with_reducible exact H2_) | with_reducible exact H | (rw [hy645]; exact H) | exact H
  have Ny645 := Aside0.mk hy645
  clear hy645
  replace H := Option.bind_eq_some_iff.mp H
  obtain ⟨⟨t648, t649, t650⟩, A50, H⟩ := H
  replace H : ((metewandkit_Rod_Whole.f k t632 t649 t650 t648).bind fun bt651 => ((metewandkit_Rod_Pick.f t632 bt651.2.1 bt651.2.2 (([3, 30] : List Int))).bind fun bt657 => ((metewandkit_Rod_Whole.f k t632 bt657.2.1 bt657.2.2 bt657.1).bind fun bt660 => (some (t642, bt651.1, bt660.1))))) = some (r1, r2, r3) := H
  have A5 := Aside0.mk A50
  clear A50
  replace H := Option.bind_eq_some_iff.mp H
  obtain ⟨⟨t651, t652, t653⟩, A60, H⟩ := H
  replace H : ((metewandkit_Rod_Pick.f t632 t652 t653 (([3, 30] : List Int))).bind fun bt657 => ((metewandkit_Rod_Whole.f k t632 bt657.2.1 bt657.2.2 bt657.1).bind fun bt660 => (some (t642, t651, bt660.1)))) = some (r1, r2, r3) := H
  have A6 := Aside0.mk A60
  clear A60
  obtain ⟨y654, hy654⟩ : ∃ y_ : List Int, y_ = (([3, 30] : List Int)) := ⟨_, rfl⟩
  replace H : ((metewandkit_Rod_Pick.f t632 t652 t653 y654).bind fun bt657 => ((metewandkit_Rod_Whole.f k t632 bt657.2.1 bt657.2.2 bt657.1).bind fun bt660 => (some (t642, t651, bt660.1)))) = some (r1, r2, r3) := by first | (rw [hy654]; with_reducible exact H) | (have H2_ := (Option.bind_some _ _).symm.trans H; rw [hy654]; with_reducible exact H2_) | (have H2_ := (Option.bind_some _ _).symm.trans H; with_reducible exact H2_) | with_reducible exact H | (rw [hy654]; exact H) | exact H
  have Ny654 := Aside0.mk hy654
  clear hy654
  replace H := Option.bind_eq_some_iff.mp H
  obtain ⟨⟨t657, t658, t659⟩, A70, H⟩ := H
  replace H : ((metewandkit_Rod_Whole.f k t632 t658 t659 t657).bind fun bt660 => (some (t642, t651, bt660.1))) = some (r1, r2, r3) := H
  have A7 := Aside0.mk A70
  clear A70
  replace H := Option.bind_eq_some_iff.mp H
  obtain ⟨⟨t660, t661, t662⟩, A80, H⟩ := H
  replace H : (some (t642, t651, t660)) = some (r1, r2, r3) := H
  have A8 := Aside0.mk A80
  clear A80
  simp only [Option.some.injEq, Prod.mk.injEq] at H
  obtain ⟨rfl, rfl, rfl⟩ := H
  go_enter Tryz.func42, Tryz.ntmps42
  go_wp2_with (first | ((with_reducible refine gate_callee (f := 19) rfl ?_); refine goesL_ (some 7) rfl rfl Tryz.func19 (by kernel_rfl) rfl #[.slice A0 l0.length c0] rfl (by (try simp only [List.map_toArray, List.map_cons, List.map_nil]); first | done | rfl | (simp only [List.length_drop, List.length_take]; rfl)) ?_; (with_reducible refine (metewandkit_NewRod.calls _ _ l0 t632 t633 t634 w _ ?side1 ?side2 ?side3 A2.out).mono ?_); (case side1 => repeat (first | (with_reducible first | exact HB.out | apply below_alloc | apply pw_below_drewN | apply below_drew1) | exact HB.out)); (case side2 => exact HR0.out); (case side3 => exact HC0.out); rintro e w9 ⟨g635, rfl, hi, hb, hb2⟩; refine ⟨_, rfl, ?_⟩; have n0_ := Aside0.mk (hb); have n1_ := Aside0.mk (hi); clear HB; have HB := n0_; have HI635 := n1_; clear n0_ n1_; (try clear hb); (try clear hb2); (try clear hk); (try clear hi)) | ((with_reducible refine gate_dst (N := 10) rfl ?_); refine Kd.R_lit (Kd.int .i64) _ 3 ?hg (N := 10) ?hd (xs := ([3, 30] : List Int)) (inner := [.int .i64 3, .int .i64 30]) (ok := fun _ => True) (okp := fun _ => True) ?hr ?hp (fun _ hk => hk) trivial (Below.refl _ _) (Nat.le_refl _) (by simp) ?_; (case hd => rfl); (case hg => rfl); (case hr => first | (go_simp; done) | (go_simp; rfl)); (case hp => exact (Reps.one (show Kd.M (Kd.int .i64) _ _ _ 3 [.int .i64 3] from rfl) (Reps.one (show Kd.M (Kd.int .i64) _ _ _ 30 [.int .i64 30] from rfl) (Reps.none _ _)))); intro v637 w10 ho11 hb hg_ hnew_; clear hg_ hnew_; (first | rw [← Ny636.out] at ho11 | (simp only [Int.reduceToNat] at ho11; rw [← Ny636.out] at ho11)); have n0_ := Aside0.mk (Kd.R_lower ho11 (below_size (by repeat (first | (with_reducible first | exact HB.out | apply below_alloc | apply pw_below_drewN | apply below_drew1 | refine below_set ?_ (IsS65.ge HI635.out)) | exact HB.out)))); have n1_ := Aside0.mk (IsS65.below (by repeat (first | (with_reducible first | exact HI635.out | apply IsS65.alloc | apply IsS65.drewN | apply IsS65.drew | apply IsS65.set_1 | apply IsS65.set_2) | exact HI635.out)) hb); have n2_ := Aside0.mk (below_step (by repeat (first | (with_reducible first | exact HB.out | apply below_alloc | apply pw_below_drewN | apply below_drew1 | refine below_set ?_ (IsS65.ge HI635.out)) | exact HB.out)) hb); clear HI635; clear HB; have HO638 := n0_; have HI635 := n1_; have HB := n2_; clear n0_ n1_ n2_; clear hb ho11; obtain ⟨Ao12, co12, eo12⟩ := Kd.R_slice HO638.out; subst eo12) | ((with_reducible refine gate_callee (f := 25) rfl ?_); refine goesL_ (some 11) rfl rfl Tryz.func25 (by kernel_rfl) rfl #[.pointer (some ⟨g635, 0, none⟩), .slice Ao12 y636.length co12] rfl (by (try simp only [List.map_toArray, List.map_cons, List.map_nil]); first | done | rfl | (simp only [List.length_drop, List.length_take]; rfl)) ?_; (with_reducible refine (metewandkit_Rod_Pick.calls g635 t632 t633 t634 _ _ y636 t639 t640 t641 w _ ?side1 ?side2 ?side3 ?side4 ?side5 A3.out).mono ?_); (case side1 => repeat (first | (with_reducible first | exact HI635.out | apply IsS65.alloc | apply IsS65.drewN | apply IsS65.drew | apply IsS65.set_1 | apply IsS65.set_2) | exact HI635.out)); (case side2 => repeat (first | (with_reducible first | exact HB.out | apply below_alloc | apply pw_below_drewN | apply below_drew1 | refine below_set ?_ (IsS65.ge HI635.out)) | exact HB.out)); (case side3 => repeat (first | exact (Kd.R_reads' HO638.out).2.2 | (with_reducible refine Kd.C_alloc ?_ _) | (with_reducible refine Kd.C_drewN ?_ _) | (with_reducible refine Kd.C_drew ?_))); (case side4 => exact (Kd.R_reads' HO638.out).2.1); (case side5 => exact far_slice (IsS65.own_ne HI635.out HO638.out (by decide))); rintro e w13 ⟨rfl, hi, hb, hk⟩; refine ⟨_, rfl, ?_⟩; have n0_ := Aside0.mk (Kd.R_mono (Kd.R_keep (IsS65.apart (show IsS65 w _ g635 t632 t633 t634 from by repeat (first | (with_reducible first | exact HI635.out | apply IsS65.alloc | apply IsS65.drewN | apply IsS65.drew | apply IsS65.set_1 | apply IsS65.set_2) | exact HI635.out)) (by (with_reducible repeat (first | apply Kd.R_alloc | apply Kd.R_drewN | apply Kd.R_drew)); exact HO638.out) (by decide)) hk (fun _ h => h.2)) (fun _ h => h.1)); have n1_ := Aside0.mk (hb); have n2_ := Aside0.mk (hi); clear HO638; clear HB; clear HI635; have HO638 := n0_; have HB := n1_; have HI635 := n2_; clear n0_ n1_ n2_; (try clear hb); (try clear hb2); (try clear hk); (try clear hi)) | ((with_reducible refine gate_callee (f := 20) rfl ?_); refine goesL_ (some 12) rfl rfl Tryz.func20 (by kernel_rfl) rfl #[.pointer (some ⟨g635, 0, none⟩), .int .i64 t639] rfl (by (try simp only [List.map_toArray, List.map_cons, List.map_nil]); first | done | rfl | (simp only [List.length_drop, List.length_take]; rfl)) ?_; (with_reducible refine (metewandkit_Rod_Whole.calls k g635 t632 t640 t641 t639 t642 t643 t644 w _ ?side1 ?side2 A4.out).mono ?_); (case side1 => repeat (first | (with_reducible first | exact HI635.out | apply IsS65.alloc | apply IsS65.drewN | apply IsS65.drew | apply IsS65.set_1 | apply IsS65.set_2) | exact HI635.out)); (case side2 => repeat (first | (with_reducible first | exact HB.out | apply below_alloc | apply pw_below_drewN | apply below_drew1 | refine below_set ?_ (IsS65.ge HI635.out)) | exact HB.out)); rintro e w14 ⟨rfl, hi, hb, hk⟩; refine ⟨_, rfl, ?_⟩; have n0_ := Aside0.mk (Kd.R_mono (Kd.R_keep (IsS65.apart (show IsS65 w _ g635 t632 t640 t641 from by repeat (first | (with_reducible first | exact HI635.out | apply IsS65.alloc | apply IsS65.drewN | apply IsS65.drew | apply IsS65.set_1 | apply IsS65.set_2) | exact HI635.out)) (by (with_reducible repeat (first | apply Kd.R_alloc | apply Kd.R_drewN | apply Kd.R_drew)); exact HO638.out) (by decide)) hk (fun _ h => h.2)) (fun _ h => h.1)); have n1_ := Aside0.mk (hb); have n2_ := Aside0.mk (hi); clear HO638; clear HB; clear HI635; have HO638 := n0_; have HB := n1_; have HI635 := n2_; clear n0_ n1_ n2_; (try clear hb); (try clear hb2); (try clear hk); (try clear hi)) | ((with_reducible refine gate_dst (N := 15) rfl ?_); refine Kd.R_lit (Kd.int .i64) _ 3 ?hg (N := 15) ?hd (xs := ([3, 30] : List Int)) (inner := [.int .i64 3, .int .i64 30]) (ok := fun _ => True) (okp := fun _ => True) ?hr ?hp (fun _ hk => hk) trivial (Below.refl _ _) (Nat.le_refl _) (by simp) ?_; (case hd => rfl); (case hg => rfl); (case hr => first | (go_simp; done) | (go_simp; rfl)); (case hp => exact (Reps.one (show Kd.M (Kd.int .i64) _ _ _ 3 [.int .i64 3] from rfl) (Reps.one (show Kd.M (Kd.int .i64) _ _ _ 30 [.int .i64 30] from rfl) (Reps.none _ _)))); intro v646 w15 ho16 hb hg_ hnew_; clear hg_ hnew_; (first | rw [← Ny645.out] at ho16 | (simp only [Int.reduceToNat] at ho16; rw [← Ny645.out] at ho16)); have n0_ := Aside0.mk (Kd.R_elder' (by (with_reducible repeat (first | apply Kd.R_alloc | apply Kd.R_drewN | apply Kd.R_drew)); exact HO638.out) (Kd.R_base ho16) hb); have n1_ := Aside0.mk (Kd.R_lower (Kd.R_new' ho16 (Kd.R_lt (by (with_reducible repeat (first | apply Kd.R_alloc | apply Kd.R_drewN | apply Kd.R_drew)); exact HO638.out))) (below_size (by repeat (first | (with_reducible first | exact HB.out | apply below_alloc | apply pw_below_drewN | apply below_drew1 | refine below_set ?_ (IsS65.ge HI635.out)) | exact HB.out)))); have n2_ := Aside0.mk (IsS65.below (by repeat (first | (with_reducible first | exact HI635.out | apply IsS65.alloc | apply IsS65.drewN | apply IsS65.drew | apply IsS65.set_1 | apply IsS65.set_2) | exact HI635.out)) hb); have n3_ := Aside0.mk (below_step (by repeat (first | (with_reducible first | exact HB.out | apply below_alloc | apply pw_below_drewN | apply below_drew1 | refine below_set ?_ (IsS65.ge HI635.out)) | exact HB.out)) hb); clear HO638; clear HI635; clear HB; have HO638 := n0_; have HO647 := n1_; have HI635 := n2_; have HB := n3_; clear n0_ n1_ n2_ n3_; clear hb ho16; obtain ⟨Ao17, co17, eo17⟩ := Kd.R_slice HO647.out; subst eo17) | ((with_reducible refine gate_callee (f := 25) rfl ?_); refine goesL_ (some 16) rfl rfl Tryz.func25 (by kernel_rfl) rfl #[.pointer (some ⟨g635, 0, none⟩), .slice Ao17 y645.length co17] rfl (by (try simp only [List.map_toArray, List.map_cons, List.map_nil]); first | done | rfl | (simp only [List.length_drop, List.length_take]; rfl)) ?_; (with_reducible refine (metewandkit_Rod_Pick.calls g635 t632 t643 t644 _ _ y645 t648 t649 t650 w _ ?side1 ?side2 ?side3 ?side4 ?side5 A5.out).mono ?_); (case side1 => repeat (first | (with_reducible first | exact HI635.out | apply IsS65.alloc | apply IsS65.drewN | apply IsS65.drew | apply IsS65.set_1 | apply IsS65.set_2) | exact HI635.out)); (case side2 => repeat (first | (with_reducible first | exact HB.out | apply below_alloc | apply pw_below_drewN | apply below_drew1 | refine below_set ?_ (IsS65.ge HI635.out)) | exact HB.out)); (case side3 => repeat (first | exact (Kd.R_reads' HO647.out).2.2 | (with_reducible refine Kd.C_alloc ?_ _) | (with_reducible refine Kd.C_drewN ?_ _) | (with_reducible refine Kd.C_drew ?_))); (case side4 => exact (Kd.R_reads' HO647.out).2.1); (case side5 => exact far_slice (IsS65.own_ne HI635.out HO647.out (by decide))); rintro e w18 ⟨rfl, hi, hb, hk⟩; refine ⟨_, rfl, ?_⟩; have n0_ := Aside0.mk (Kd.R_mono (Kd.R_keep (IsS65.apart (show IsS65 w _ g635 t632 t643 t644 from by repeat (first | (with_reducible first | exact HI635.out | apply IsS65.alloc | apply IsS65.drewN | apply IsS65.drew | apply IsS65.set_1 | apply IsS65.set_2) | exact HI635.out)) (by (with_reducible repeat (first | apply Kd.R_alloc | apply Kd.R_drewN | apply Kd.R_drew)); exact HO638.out) (by decide)) hk (fun _ h => h.2)) (fun _ h => h.1)); have n1_ := Aside0.mk (Kd.R_mono (Kd.R_keep (IsS65.apart (show IsS65 w _ g635 t632 t643 t644 from by repeat (first | (with_reducible first | exact HI635.out | apply IsS65.alloc | apply IsS65.drewN | apply IsS65.drew | apply IsS65.set_1 | apply IsS65.set_2) | exact HI635.out)) (by (with_reducible repeat (first | apply Kd.R_alloc | apply Kd.R_drewN | apply Kd.R_drew)); exact HO647.out) (by decide)) hk (fun _ h => h.2)) (fun _ h => h.1)); have n2_ := Aside0.mk (hb); have n3_ := Aside0.mk (hi); clear HO638; clear HO647; clear HB; clear HI635; have HO638 := n0_; have HO647 := n1_; have HB := n2_; have HI635 := n3_; clear n0_ n1_ n2_ n3_; (try clear hb); (try clear hb2); (try clear hk); (try clear hi)) | ((with_reducible refine gate_callee (f := 20) rfl ?_); refine goesL_ (some 17) rfl rfl Tryz.func20 (by kernel_rfl) rfl #[.pointer (some ⟨g635, 0, none⟩), .int .i64 t648] rfl (by (try simp only [List.map_toArray, List.map_cons, List.map_nil]); first | done | rfl | (simp only [List.length_drop, List.length_take]; rfl)) ?_; (with_reducible refine (metewandkit_Rod_Whole.calls k g635 t632 t649 t650 t648 t651 t652 t653 w _ ?side1 ?side2 A6.out).mono ?_); (case side1 => repeat (first | (with_reducible first | exact HI635.out | apply IsS65.alloc | apply IsS65.drewN | apply IsS65.drew | apply IsS65.set_1 | apply IsS65.set_2) | exact HI635.out)); (case side2 => repeat (first | (with_reducible first | exact HB.out | apply below_alloc | apply pw_below_drewN | apply below_drew1 | refine below_set ?_ (IsS65.ge HI635.out)) | exact HB.out)); rintro e w19 ⟨rfl, hi, hb, hk⟩; refine ⟨_, rfl, ?_⟩; have n0_ := Aside0.mk (Kd.R_mono (Kd.R_keep (IsS65.apart (show IsS65 w _ g635 t632 t649 t650 from by repeat (first | (with_reducible first | exact HI635.out | apply IsS65.alloc | apply IsS65.drewN | apply IsS65.drew | apply IsS65.set_1 | apply IsS65.set_2) | exact HI635.out)) (by (with_reducible repeat (first | apply Kd.R_alloc | apply Kd.R_drewN | apply Kd.R_drew)); exact HO638.out) (by decide)) hk (fun _ h => h.2)) (fun _ h => h.1)); have n1_ := Aside0.mk (Kd.R_mono (Kd.R_keep (IsS65.apart (show IsS65 w _ g635 t632 t649 t650 from by repeat (first | (with_reducible first | exact HI635.out | apply IsS65.alloc | apply IsS65.drewN | apply IsS65.drew | apply IsS65.set_1 | apply IsS65.set_2) | exact HI635.out)) (by (with_reducible repeat (first | apply Kd.R_alloc | apply Kd.R_drewN | apply Kd.R_drew)); exact HO647.out) (by decide)) hk (fun _ h => h.2)) (fun _ h => h.1)); have n2_ := Aside0.mk (hb); have n3_ := Aside0.mk (hi); clear HO638; clear HO647; clear HB; clear HI635; have HO638 := n0_; have HO647 := n1_; have HB := n2_; have HI635 := n3_; clear n0_ n1_ n2_ n3_; (try clear hb); (try clear hb2); (try clear hk); (try clear hi)) | ((with_reducible refine gate_dst (N := 20) rfl ?_); refine Kd.R_lit (Kd.int .i64) _ 3 ?hg (N := 20) ?hd (xs := ([3, 30] : List Int)) (inner := [.int .i64 3, .int .i64 30]) (ok := fun _ => True) (okp := fun _ => True) ?hr ?hp (fun _ hk => hk) trivial (Below.refl _ _) (Nat.le_refl _) (by simp) ?_; (case hd => rfl); (case hg => rfl); (case hr => first | (go_simp; done) | (go_simp; rfl)); (case hp => exact (Reps.one (show Kd.M (Kd.int .i64) _ _ _ 3 [.int .i64 3] from rfl) (Reps.one (show Kd.M (Kd.int .i64) _ _ _ 30 [.int .i64 30] from rfl) (Reps.none _ _)))); intro v655 w20 ho21 hb hg_ hnew_; clear hg_ hnew_; (first | rw [← Ny654.out] at ho21 | (simp only [Int.reduceToNat] at ho21; rw [← Ny654.out] at ho21)); have n0_ := Aside0.mk (Kd.R_elder' (by (with_reducible repeat (first | apply Kd.R_alloc | apply Kd.R_drewN | apply Kd.R_drew)); exact HO638.out) (Kd.R_base ho21) hb); have n1_ := Aside0.mk (Kd.R_elder' (by (with_reducible repeat (first | apply Kd.R_alloc | apply Kd.R_drewN | apply Kd.R_drew)); exact HO647.out) (Kd.R_base ho21) hb); have n2_ := Aside0.mk (Kd.R_lower (Kd.R_new' (Kd.R_new' ho21 (Kd.R_lt (by (with_reducible repeat (first | apply Kd.R_alloc | apply Kd.R_drewN | apply Kd.R_drew)); exact HO638.out))) (Kd.R_lt (by (with_reducible repeat (first | apply Kd.R_alloc | apply Kd.R_drewN | apply Kd.R_drew)); exact HO647.out))) (below_size (by repeat (first | (with_reducible first | exact HB.out | apply below_alloc | apply pw_below_drewN | apply below_drew1 | refine below_set ?_ (IsS65.ge HI635.out)) | exact HB.out)))); have n3_ := Aside0.mk (IsS65.below (by repeat (first | (with_reducible first | exact HI635.out | apply IsS65.alloc | apply IsS65.drewN | apply IsS65.drew | apply IsS65.set_1 | apply IsS65.set_2) | exact HI635.out)) hb); have n4_ := Aside0.mk (below_step (by repeat (first | (with_reducible first | exact HB.out | apply below_alloc | apply pw_below_drewN | apply below_drew1 | refine below_set ?_ (IsS65.ge HI635.out)) | exact HB.out)) hb); clear HO638; clear HO647; clear HI635; clear HB; have HO638 := n0_; have HO647 := n1_; have HO656 := n2_; have HI635 := n3_; have HB := n4_; clear n0_ n1_ n2_ n3_ n4_; clear hb ho21; obtain ⟨Ao22, co22, eo22⟩ := Kd.R_slice HO656.out; subst eo22) | ((with_reducible refine gate_callee (f := 25) rfl ?_); refine goesL_ (some 21) rfl rfl Tryz.func25 (by kernel_rfl) rfl #[.pointer (some ⟨g635, 0, none⟩), .slice Ao22 y654.length co22] rfl (by (try simp only [List.map_toArray, List.map_cons, List.map_nil]); first | done | rfl | (simp only [List.length_drop, List.length_take]; rfl)) ?_; (with_reducible refine (metewandkit_Rod_Pick.calls g635 t632 t652 t653 _ _ y654 t657 t658 t659 w _ ?side1 ?side2 ?side3 ?side4 ?side5 A7.out).mono ?_); (case side1 => repeat (first | (with_reducible first | exact HI635.out | apply IsS65.alloc | apply IsS65.drewN | apply IsS65.drew | apply IsS65.set_1 | apply IsS65.set_2) | exact HI635.out)); (case side2 => repeat (first | (with_reducible first | exact HB.out | apply below_alloc | apply pw_below_drewN | apply below_drew1 | refine below_set ?_ (IsS65.ge HI635.out)) | exact HB.out)); (case side3 => repeat (first | exact (Kd.R_reads' HO656.out).2.2 | (with_reducible refine Kd.C_alloc ?_ _) | (with_reducible refine Kd.C_drewN ?_ _) | (with_reducible refine Kd.C_drew ?_))); (case side4 => exact (Kd.R_reads' HO656.out).2.1); (case side5 => exact far_slice (IsS65.own_ne HI635.out HO656.out (by decide))); rintro e w23 ⟨rfl, hi, hb, hk⟩; refine ⟨_, rfl, ?_⟩; have n0_ := Aside0.mk (Kd.R_mono (Kd.R_keep (IsS65.apart (show IsS65 w _ g635 t632 t652 t653 from by repeat (first | (with_reducible first | exact HI635.out | apply IsS65.alloc | apply IsS65.drewN | apply IsS65.drew | apply IsS65.set_1 | apply IsS65.set_2) | exact HI635.out)) (by (with_reducible repeat (first | apply Kd.R_alloc | apply Kd.R_drewN | apply Kd.R_drew)); exact HO638.out) (by decide)) hk (fun _ h => h.2)) (fun _ h => h.1)); have n1_ := Aside0.mk (Kd.R_mono (Kd.R_keep (IsS65.apart (show IsS65 w _ g635 t632 t652 t653 from by repeat (first | (with_reducible first | exact HI635.out | apply IsS65.alloc | apply IsS65.drewN | apply IsS65.drew | apply IsS65.set_1 | apply IsS65.set_2) | exact HI635.out)) (by (with_reducible repeat (first | apply Kd.R_alloc | apply Kd.R_drewN | apply Kd.R_drew)); exact HO647.out) (by decide)) hk (fun _ h => h.2)) (fun _ h => h.1)); have n2_ := Aside0.mk (Kd.R_mono (Kd.R_keep (IsS65.apart (show IsS65 w _ g635 t632 t652 t653 from by repeat (first | (with_reducible first | exact HI635.out | apply IsS65.alloc | apply IsS65.drewN | apply IsS65.drew | apply IsS65.set_1 | apply IsS65.set_2) | exact HI635.out)) (by (with_reducible repeat (first | apply Kd.R_alloc | apply Kd.R_drewN | apply Kd.R_drew)); exact HO656.out) (by decide)) hk (fun _ h => h.2)) (fun _ h => h.1)); have n3_ := Aside0.mk (hb); have n4_ := Aside0.mk (hi); clear HO638; clear HO647; clear HO656; clear HB; clear HI635; have HO638 := n0_; have HO647 := n1_; have HO656 := n2_; have HB := n3_; have HI635 := n4_; clear n0_ n1_ n2_ n3_ n4_; (try clear hb); (try clear hb2); (try clear hk); (try clear hi)) | ((with_reducible refine gate_callee (f := 20) rfl ?_); refine goesL_ (some 22) rfl rfl Tryz.func20 (by kernel_rfl) rfl #[.pointer (some ⟨g635, 0, none⟩), .int .i64 t657] rfl (by (try simp only [List.map_toArray, List.map_cons, List.map_nil]); first | done | rfl | (simp only [List.length_drop, List.length_take]; rfl)) ?_; (with_reducible refine (metewandkit_Rod_Whole.calls k g635 t632 t658 t659 t657 t660 t661 t662 w _ ?side1 ?side2 A8.out).mono ?_); (case side1 => repeat (first | (with_reducible first | exact HI635.out | apply IsS65.alloc | apply IsS65.drewN | apply IsS65.drew | apply IsS65.set_1 | apply IsS65.set_2) | exact HI635.out)); (case side2 => repeat (first | (with_reducible first | exact HB.out | apply below_alloc | apply pw_below_drewN | apply below_drew1 | refine below_set ?_ (IsS65.ge HI635.out)) | exact HB.out)); rintro e w24 ⟨rfl, hi, hb, hk⟩; refine ⟨_, rfl, ?_⟩; have n0_ := Aside0.mk (Kd.R_mono (Kd.R_keep (IsS65.apart (show IsS65 w _ g635 t632 t658 t659 from by repeat (first | (with_reducible first | exact HI635.out | apply IsS65.alloc | apply IsS65.drewN | apply IsS65.drew | apply IsS65.set_1 | apply IsS65.set_2) | exact HI635.out)) (by (with_reducible repeat (first | apply Kd.R_alloc | apply Kd.R_drewN | apply Kd.R_drew)); exact HO638.out) (by decide)) hk (fun _ h => h.2)) (fun _ h => h.1)); have n1_ := Aside0.mk (Kd.R_mono (Kd.R_keep (IsS65.apart (show IsS65 w _ g635 t632 t658 t659 from by repeat (first | (with_reducible first | exact HI635.out | apply IsS65.alloc | apply IsS65.drewN | apply IsS65.drew | apply IsS65.set_1 | apply IsS65.set_2) | exact HI635.out)) (by (with_reducible repeat (first | apply Kd.R_alloc | apply Kd.R_drewN | apply Kd.R_drew)); exact HO647.out) (by decide)) hk (fun _ h => h.2)) (fun _ h => h.1)); have n2_ := Aside0.mk (Kd.R_mono (Kd.R_keep (IsS65.apart (show IsS65 w _ g635 t632 t658 t659 from by repeat (first | (with_reducible first | exact HI635.out | apply IsS65.alloc | apply IsS65.drewN | apply IsS65.drew | apply IsS65.set_1 | apply IsS65.set_2) | exact HI635.out)) (by (with_reducible repeat (first | apply Kd.R_alloc | apply Kd.R_drewN | apply Kd.R_drew)); exact HO656.out) (by decide)) hk (fun _ h => h.2)) (fun _ h => h.1)); have n3_ := Aside0.mk (hb); have n4_ := Aside0.mk (hi); clear HO638; clear HO647; clear HO656; clear HB; clear HI635; have HO638 := n0_; have HO647 := n1_; have HO656 := n2_; have HB := n3_; have HI635 := n4_; clear n0_ n1_ n2_ n3_ n4_; (try clear hb); (try clear hb2); (try clear hk); (try clear hi)))
  go_ret3
  exact ⟨by first | rfl | (simp [errW_none, errW_some] <;> rfl) | (simp [*, errW_none, errW_some] <;> rfl), by repeat (first | (with_reducible first | exact HB.out | apply below_alloc | apply pw_below_drewN | apply below_drew1 | refine below_set ?_ (IsS65.ge HI635.out)) | exact HB.out)⟩
end Go.Proofs.YtjieekkkaekclaaGreatDoor.PR
