/- Lemmas for the claim beside this text. -/
import Derived.Test.YtjieekkkaekclaaGreatDoorZPAC
import Derived.Test.YtjieekkkaekclaaGreatDoorZPAP
import Derived.Test.YtjieekkkaekclaaGreatDoorZPAQ
import Derived.Test.YtjieekkkaekclaaGreatDoorZPAT
import Derived.Test.YtjieekkkaekclaaGreatDoorZPAV
import Derived.Test.YtjieekkkaekclaaGreatDoorZPBD
set_option linter.all false
set_option linter.unusedVariables false
set_option linter.unusedSimpArgs false
namespace Go.Proofs.YtjieekkkaekclaaGreatDoor
open Go Go.RowKit Go.Proofs.YtjieekkkaekclaaGreatDoorW.PrintWords Go.Proofs.YtjieekkkaekclaaGreatDoor.PR
def EvP {α : Type} (g : Nat → Option α) (r : α) : Prop := Go.Proofs.YtjieekkkaekclaaGreatDoorW.PrintWords.Ev g r
theorem EvP.now {α : Type} (r : α) : EvP (fun _ => some r) r := Go.Proofs.YtjieekkkaekclaaGreatDoorW.PrintWords.Ev.now r
theorem EvP.rounds {α : Type} {g : Nat → Option α} {r : α} (h : EvP g r) : ∃ k, g k = some r := Go.Proofs.YtjieekkkaekclaaGreatDoorW.PrintWords.Ev.rounds h
theorem EvP.bind {α β : Type} {g : Nat → Option α} {f : Nat → α → Option β} {a : α} {r : β} (h : EvP g a) (k : EvP (fun n => f n a) r) : EvP (fun n => (g n).bind (f n)) r := Go.Proofs.YtjieekkkaekclaaGreatDoorW.PrintWords.Ev.bind h k
theorem EvP.step {α : Type} {g f : Nat → Option α} {r : α} (h : ∀ k, g (k + 1) = f k) (k : EvP f r) : EvP g r := Go.Proofs.YtjieekkkaekclaaGreatDoorW.PrintWords.Ev.step h k
theorem EvP.congr {α : Type} {g f : Nat → Option α} {r : α} (h : ∀ k, g k = f k) (k : EvP f r) : EvP g r := Go.Proofs.YtjieekkkaekclaaGreatDoorW.PrintWords.Ev.congr h k
theorem EvP.ipos {α : Type} {c : Prop} [Decidable c] {f g : Nat → Option α} {r : α} (h : c) (e : EvP f r) : EvP (fun k => if c then f k else g k) r := EvP.congr (fun _ => if_pos h) e
theorem EvP.ineg {α : Type} {c : Prop} [Decidable c] {f g : Nat → Option α} {r : α} (h : ¬ c) (e : EvP g r) : EvP (fun k => if c then f k else g k) r := EvP.congr (fun _ => if_neg h) e
theorem getD_lt {α : Type} {l : List α} {i : Nat} (h : i < l.length) (d : α) : l.getD i d = l[i] := by simp [List.getD_eq_getElem?_getD, h]
theorem getD_ge {α : Type} {l : List α} {i : Nat} (h : l.length ≤ i) (d : α) : l.getD i d = d := by simp [List.getD_eq_getElem?_getD, h]
def Mw.B (l : List UInt8) : ByteArray := ⟨l.toArray⟩
def Mw.T (n : Int) : ByteArray := Mw.B (Mw.itxt n)
theorem B_list (l : List UInt8) : (Mw.B l).data.toList = l := by simp [Mw.B]
theorem B_tl (l : List UInt8) : (Mw.B l).toList = l := by rw [ByteArray.toList_eq, B_list]
theorem B_size (l : List UInt8) : (Mw.B l).size = l.length := by simp [Mw.B, ByteArray.size]
theorem B_append (a b : List UInt8) : Mw.B a ++ Mw.B b = Mw.B (a ++ b) := by
  apply ByteArray.ext
  rw [ByteArray.data_append]; simp [Mw.B]
theorem B_extract (l : List UInt8) (a b : Nat) : (Mw.B l).extract a b = Mw.B ((l.drop a).take (b - a)) := by
  apply ByteArray.ext
  rw [ByteArray.data_extract]
  apply Array.toList_inj.mp
  simp [Mw.B, Array.toList_extract, List.extract_eq_drop_take]
theorem B_bt (l : List UInt8) (i : Int) : bt (Mw.B l) i = ((l.getD i.toNat 0).toNat : Int) := by
  unfold bt
  split
  · rename_i h
    rw [B_size] at h
    have : (Mw.B l)[i.toNat]'(by rw [B_size]; exact h) = l[i.toNat] := by
      show (Mw.B l).data[i.toNat]'_ = _
      simp [Mw.B]
    rw [this, getD_lt h]
  · rename_i h
    rw [B_size] at h
    rw [getD_ge (by omega)]; rfl
theorem strOf_nums (xs : List Int) : strOfNums xs = Mw.B (xs.map fun n => UInt8.ofNat n.toNat) := rfl
theorem w_id {n : Int} (h0 : -9223372036854775808 ≤ n) (h1 : n < 9223372036854775808) : wrap64 n = n := by unfold wrap64; omega
theorem neg_f (l : List UInt8) : metewandref01_Neg.f (Mw.B l) = some (Mw.isM l) := by
  unfold metewandref01_Neg.f
  rw [B_size, B_bt]
  cases l with
  | nil => rfl
  | cons c r =>
    rw [if_pos (by simp only [List.length_cons]; omega), if_pos (by simp only [List.length_cons]; omega)]
    congr 1
    simp only [Mw.isM, List.head?_cons]
    show (((c.toNat : Nat) : Int) == 45) = (some c == some 45)
    rw [Bool.eq_iff_iff, beq_iff_eq, beq_iff_eq]
    constructor
    · intro h; congr 1; apply UInt8.toNat_inj.mp; show c.toNat = 45; omega
    · intro h; have h := Option.some.inj h; subst h; rfl
theorem abs_f (l : List UInt8) : metewandref01_Abs.f (Mw.B l) = some (Mw.B (Mw.unm l)) := by
  unfold metewandref01_Abs.f
  rw [neg_f]
  simp only [Option.bind_some]
  cases hm : Mw.isM l with
  | false => rw [if_neg (by simp), Mw.unm_of hm]
  | true =>
    cases l with
    | nil => cases hm
    | cons c r =>
      have : c = 45 := by simpa [Mw.isM] using hm
      subst this
      rw [if_pos rfl, if_pos (by rw [B_size]; simp only [List.length_cons]; omega), B_extract, Mw.unm_cons, B_size]
      simp
theorem all_drop (l : List UInt8) (i : Nat) (h : i < l.length) : (l.drop i).all Mw.dig = (Mw.dig (l.getD i 0) && (l.drop (i + 1)).all Mw.dig) := by
  rw [List.drop_eq_getElem_cons h, List.all_cons, getD_lt h]
theorem digits_l0 (l : List UInt8) (hl : l.length ≤ 1000000) : ∀ (d i : Nat), i + d = l.length → EvP (fun k => metewandref01_digits.l0 k (Mw.B l) i) ((l.drop i).all Mw.dig) := by
  intro d
  induction d with
  | zero =>
    intro i hi
    refine EvP.step (f := fun _ => some ((l.drop i).all Mw.dig)) (fun k => ?_) (EvP.now _)
    simp only [metewandref01_digits.l0]
    rw [B_size, if_neg (by omega), List.drop_of_length_le (by omega)]; rfl
  | succ d ih =>
    intro i hi
    have hlt : i < l.length := by omega
    have hall := all_drop l i hlt
    cases hd : Mw.dig (l.getD i 0) with
    | false =>
      rw [hd, Bool.false_and] at hall
      refine EvP.step (f := fun _ => some false) (fun k => ?_) (by rw [hall]; exact EvP.now _)
      simp only [metewandref01_digits.l0]
      rw [B_size, if_pos (by omega), if_pos (by omega), B_bt, Int.toNat_natCast]
      have hn : ¬ (48 ≤ (l.getD i 0).toNat ∧ (l.getD i 0).toNat ≤ 57) := by
        intro h; rw [(dig_iff _).mpr h] at hd; cases hd
      by_cases h1 : (l.getD i 0).toNat < 48
      · rw [if_pos (by omega)]
      · rw [if_neg (by omega), if_pos (by omega)]
    | true =>
      rw [hd, Bool.true_and] at hall
      rw [hall]
      have hy := (dig_iff _).mp hd
      refine EvP.step (f := fun k => metewandref01_digits.l0 k (Mw.B l) ((i + 1 : Nat) : Int)) (fun k => ?_) (ih (i + 1) (by omega))
      simp only [metewandref01_digits.l0]
      rw [B_size, if_pos (by omega), if_pos (by omega), B_bt, Int.toNat_natCast, if_neg (by omega), if_neg (by omega), w_id (by omega) (by omega)]
      rfl
theorem digits_ev (l : List UInt8) (hl : l.length ≤ 1000000) : EvP (fun k => metewandref01_digits.f k (Mw.B l)) (Mw.cand l) := by
  unfold metewandref01_digits.f
  rw [B_size, B_bt]
  cases l with
  | nil =>
    refine EvP.ipos rfl ?_
    exact EvP.step (f := fun _ => some false) (fun k => by simp only [metewandref01_digits.j0, if_pos]) (EvP.now _)
  | cons c r =>
    refine EvP.ineg (by simp only [List.length_cons]; omega) ?_
    have key : Mw.cand (c :: r) = ((c :: r).all Mw.dig && (decide ((c :: r).length ≤ 1) || !(c == 48))) := by
      simp [Mw.cand]
    have hj : ∀ b : Bool, (b = !(decide ((c :: r).length ≤ 1) || !(c == 48))) → EvP (fun k => metewandref01_digits.j0 k (Mw.B (c :: r)) b) (Mw.cand (c :: r)) := by
      intro b hb
      rw [key]
      cases b with
      | true =>
        have : (decide ((c :: r).length ≤ 1) || !(c == 48)) = false := by cases hX : (decide ((c :: r).length ≤ 1) || !(c == 48)) with | false => rfl | true => rw [hX] at hb; cases hb
        rw [this, Bool.and_false]
        exact EvP.step (f := fun _ => some false) (fun k => by simp only [metewandref01_digits.j0, if_pos]) (EvP.now _)
      | false =>
        have : (decide ((c :: r).length ≤ 1) || !(c == 48)) = true := by cases hX : (decide ((c :: r).length ≤ 1) || !(c == 48)) with | true => rfl | false => rw [hX] at hb; cases hb
        rw [this, Bool.and_true]
        refine EvP.step (f := fun k => metewandref01_digits.l0 k (Mw.B (c :: r)) ((0 : Nat) : Int)) (fun k => ?_) (digits_l0 (c :: r) hl (c :: r).length 0 (by omega))
        simp only [metewandref01_digits.j0]
        rw [if_neg (by simp)]; rfl
    by_cases h1 : ((c :: r).length : Int) > 1
    · refine EvP.ipos h1 (EvP.ipos (by omega) ?_)
      apply hj
      have : decide ((c :: r).length ≤ 1) = false := by rw [decide_eq_false_iff_not]; omega
      rw [this, Bool.false_or, Bool.not_not]
      show (((c.toNat : Nat) : Int) == 48) = (c == 48)
      rw [Bool.eq_iff_iff, beq_iff_eq, beq_iff_eq]
      constructor
      · intro h; apply UInt8.toNat_inj.mp; show c.toNat = 48; omega
      · intro h; subst h; rfl
    · refine EvP.ineg h1 ?_
      apply hj
      have : decide ((c :: r).length ≤ 1) = true := by rw [decide_eq_true_iff]; omega
      rw [this]; rfl
theorem form_ev (l : List UInt8) (hl : l.length ≤ 1000000) : EvP (fun k => metewandref01_form.f k (Mw.B l)) (Mw.okf l) := by
  have hu : (Mw.unm l).length ≤ 1000000 := by
    have : (Mw.unm l).length ≤ l.length := by unfold Mw.unm; split <;> simp
    omega
  refine EvP.congr (f := fun k => (metewandref01_digits.f k (Mw.B (Mw.unm l))).bind fun t => if t = true then some (l != [45, 48]) else some false) (fun k => ?_) ?_
  · unfold metewandref01_form.f
    rw [abs_f]; simp only [Option.bind_some]; rw [B_tl]
  · refine EvP.bind (digits_ev _ hu) ?_
    unfold Mw.okf
    cases Mw.cand (Mw.unm l) with
    | false => exact EvP.now _
    | true => rw [Bool.true_and]; exact EvP.now _
end Go.Proofs.YtjieekkkaekclaaGreatDoor
namespace Go.Proofs.YtjieekkkaekclaaGreatDoor
open Go Go.RowKit Go.Proofs.YtjieekkkaekclaaGreatDoorW.PrintWords Go.Proofs.YtjieekkkaekclaaGreatDoor.PR
theorem getD_set_ne (o : List Int) (i j : Nat) (v : Int) (h : i ≠ j) : (o.set i v).getD j 0 = o.getD j 0 := by
  rw [List.getD_eq_getElem?_getD, List.getD_eq_getElem?_getD, List.getElem?_set_ne h]
end Go.Proofs.YtjieekkkaekclaaGreatDoor
namespace Go.Proofs.YtjieekkkaekclaaGreatDoor
open Go Go.RowKit Go.Proofs.YtjieekkkaekclaaGreatDoorW.PrintWords Go.Proofs.YtjieekkkaekclaaGreatDoor.PR
theorem byte_dgt {n : Int} (h0 : 0 ≤ n) (h1 : n < 10) : UInt8.ofNat ((wrap64 (48 + n)) % 256).toNat = Mw.dgt n.toNat := by
  rw [w_id (by omega) (by omega)]
  unfold Mw.dgt
  congr 1
  omega
theorem dig_sub {c : UInt8} (h : Mw.dig c = true) : ((((c.toNat : Nat) : Int) - 48) % 256) = ((c.toNat - 48 : Nat) : Int) := by
  have := (dig_iff c).mp h
  omega
theorem toInt_l0 (a l : List UInt8) (hl : l.length ≤ 15) (hd : ∀ c ∈ l, Mw.dig c = true) : ∀ (d i : Nat), i + d = l.length → EvP (fun k => metewandref01_ToInt.l0 k (Mw.B a) (Mw.B l) ((Mw.dval (l.take i) : Nat) : Int) i) (if Mw.isM a = true then -((Mw.dval l : Nat) : Int) else ((Mw.dval l : Nat) : Int), true) := by
  intro d
  induction d with
  | zero =>
    intro i hi
    have hv : Mw.dval l < 10 ^ 15 := Nat.lt_of_lt_of_le (Mw.dval_lt l hd) (Nat.pow_le_pow_right (by omega) hl)
    refine EvP.step (f := fun _ => some (if Mw.isM a = true then -((Mw.dval l : Nat) : Int) else ((Mw.dval l : Nat) : Int), true)) (fun k => ?_) (EvP.now _)
    simp only [metewandref01_ToInt.l0]
    rw [B_size, if_neg (by omega), neg_f, List.take_of_length_le (by omega)]
    simp only [Option.bind_some]
    cases Mw.isM a with
    | true => rw [if_pos rfl, if_pos rfl, w_id (by omega) (by omega)]
    | false => rw [if_neg (by simp), if_neg (by simp)]
  | succ d ih =>
    intro i hi
    have hlt : i < l.length := by omega
    have e1 : l.take (i + 1) = l.take i ++ [l[i]] := by rw [List.take_succ_eq_append_getElem hlt]
    have hc := hd _ (List.getElem_mem hlt)
    have hv : Mw.dval (l.take i) < 10 ^ 15 := Nat.lt_of_lt_of_le (Mw.dval_lt _ (fun c hc => hd c (List.mem_of_mem_take hc))) (Nat.pow_le_pow_right (by omega) (by rw [List.length_take]; omega))
    have hy := (dig_iff _).mp hc
    refine EvP.step (f := fun k => metewandref01_ToInt.l0 k (Mw.B a) (Mw.B l) ((Mw.dval (l.take (i + 1)) : Nat) : Int) ((i + 1 : Nat) : Int)) (fun k => ?_) (ih (i + 1) (by omega))
    simp only [metewandref01_ToInt.l0]
    rw [B_size, if_pos (by omega), if_pos (by omega), B_bt, Int.toNat_natCast, getD_lt hlt, dig_sub hc, w_id (n := 10 * _) (by omega) (by omega), w_id (n := 10 * _ + _) (by omega) (by omega), w_id (n := (i : Int) + 1) (by omega) (by omega), e1, Mw.dval_snoc]
    congr 1
theorem okf_cand {l : List UInt8} (h : Mw.okf l = true) : Mw.cand (Mw.unm l) = true := by
  unfold Mw.okf at h
  simp only [Bool.and_eq_true] at h
  exact h.1
theorem toInt_ev (l : List UInt8) (hl : l.length ≤ 1000000) : EvP (fun k => metewandref01_ToInt.f k (Mw.B l)) (if Mw.okf l = true ∧ (Mw.unm l).length ≤ 15 then (Mw.ival l, true) else (0, false)) := by
  refine EvP.congr (f := fun k => (metewandref01_form.f k (Mw.B l)).bind fun t => if t = true then metewandref01_ToInt.j0 k (Mw.B l) (Mw.B (Mw.unm l)) (decide (((Mw.unm l).length : Int) > 15)) else metewandref01_ToInt.j0 k (Mw.B l) (Mw.B (Mw.unm l)) true) (fun k => ?_) ?_
  · unfold metewandref01_ToInt.f
    rw [abs_f]; simp only [Option.bind_some]; rw [B_size]
  · refine EvP.bind (form_ev l hl) ?_
    cases ho : Mw.okf l with
    | false =>
      refine EvP.ineg (by simp) ?_
      rw [if_neg (by simp)]
      exact EvP.step (f := fun _ => some (0, false)) (fun k => by simp only [metewandref01_ToInt.j0, if_pos]) (EvP.now _)
    | true =>
      refine EvP.ipos rfl ?_
      by_cases h15 : (Mw.unm l).length ≤ 15
      · rw [if_pos ⟨rfl, h15⟩, decide_eq_false (by omega)]
        refine EvP.step (f := fun k => metewandref01_ToInt.l0 k (Mw.B l) (Mw.B (Mw.unm l)) ((Mw.dval ((Mw.unm l).take 0) : Nat) : Int) ((0 : Nat) : Int)) (fun k => ?_) ?_
        · simp only [metewandref01_ToInt.j0]
          rw [if_neg (by simp)]; rfl
        · exact toInt_l0 l (Mw.unm l) h15 (cand_digs (okf_cand ho)).2 (Mw.unm l).length 0 (by omega)
      · rw [if_neg (fun h => h15 h.2), decide_eq_true (by omega)]
        exact EvP.step (f := fun _ => some (0, false)) (fun k => by simp only [metewandref01_ToInt.j0, if_pos]) (EvP.now _)
theorem itxt_len_le (n : Int) : (Mw.itxt n).length ≤ (Mw.dtxt n.natAbs).length + 1 := by rw [Mw.itxt_length]; split <;> omega
theorem toInt_T (n : Int) (hn : n.natAbs < 10 ^ 15) : EvP (fun k => metewandref01_ToInt.f k (Mw.T n)) (n, true) := by
  have h15 := (Mw.dtxt_len_le n.natAbs 15 (by omega)).mpr hn
  have h := toInt_ev (Mw.itxt n) (by have := itxt_len_le n; omega)
  rw [if_pos ⟨Mw.okf_itxt n, by rw [Mw.unm_itxt]; exact h15⟩, Mw.ival_itxt] at h
  exact h
def Mw.sm (n m : Int) : Bool := decide (n.natAbs < 10 ^ 9) && decide (m.natAbs < 10 ^ 9)
end Go.Proofs.YtjieekkkaekclaaGreatDoor
namespace Go.Proofs.YtjieekkkaekclaaGreatDoor
open Go Go.RowKit Go.Proofs.YtjieekkkaekclaaGreatDoorW.PrintWords Go.Proofs.YtjieekkkaekclaaGreatDoor.PR
def Mw.Sz (L : Nat) (n : Int) : Prop := n.natAbs < 10 ^ L
theorem Mw.Sz.mono {L M : Nat} {n : Int} (h : Mw.Sz L n) (hl : L ≤ M) : Mw.Sz M n := Nat.lt_of_lt_of_le h (Nat.pow_le_pow_right (by omega) hl)
theorem Mw.Sz.of_le {L : Nat} {n m : Int} (h : Mw.Sz L n) (hm : m.natAbs ≤ n.natAbs) : Mw.Sz L m := Nat.lt_of_le_of_lt hm h
theorem Mw.Sz.neg {L : Nat} {n : Int} (h : Mw.Sz L n) : Mw.Sz L (-n) := h.of_le (by rw [Int.natAbs_neg]; exact Nat.le_refl _)
theorem Mw.Sz.add {L : Nat} {n m : Int} (h : Mw.Sz L n) (h' : Mw.Sz L m) : Mw.Sz (L + 1) (n + m) := by
  unfold Mw.Sz at *
  rw [Nat.pow_succ]
  have := Int.natAbs_add_le n m
  omega
theorem Mw.Sz.sub {L : Nat} {n m : Int} (h : Mw.Sz L n) (h' : Mw.Sz L m) : Mw.Sz (L + 1) (n - m) := by rw [Int.sub_eq_add_neg]; exact h.add h'.neg
theorem Mw.Sz.mul {L M : Nat} {n m : Int} (h : Mw.Sz L n) (h' : Mw.Sz M m) : Mw.Sz (L + M) (n * m) := by
  unfold Mw.Sz at *
  rw [Int.natAbs_mul, Nat.pow_add]
  exact Nat.mul_lt_mul'' h h'
theorem Mw.Sz.len {L : Nat} {n : Int} (h : Mw.Sz L n) (hL : 1 ≤ L) : (Mw.dtxt n.natAbs).length ≤ L := (Mw.dtxt_len_le _ _ hL).mpr h
end Go.Proofs.YtjieekkkaekclaaGreatDoor
namespace Go.Proofs.YtjieekkkaekclaaGreatDoor
open Go Go.RowKit Go.Proofs.YtjieekkkaekclaaGreatDoorW.PrintWords Go.Proofs.YtjieekkkaekclaaGreatDoor.PR
theorem rdOf_nat {α : Type} (d : α) (xs : List α) (i : Nat) : rdOf d xs (i : Int) = xs.getD i d := by rw [rdOf, Int.toNat_natCast]
end Go.Proofs.YtjieekkkaekclaaGreatDoor
namespace Go.Proofs.YtjieekkkaekclaaGreatDoor.PR
open Go.RowKit Go.Proofs.YtjieekkkaekclaaGreatDoorW.PrintWords Go.Proofs.YtjieekkkaekclaaGreatDoorW.PrintLast Go.Proofs.YtjieekkkaekclaaGreatDoorW.PrintMore
attribute [local go_sem] max2_int min2_int max_two min_two max_three min_three max_four min_four
set_option linter.unusedVariables false
set_option linter.unusedSimpArgs false
def IsS65 (w0 W : World) (g : Nat) (f0 : List Int) (f1 : Int) (f2 : Int) : Prop := ∃ A0 c0, W.heap[g]? = some (.cells #[.slice A0 f0.length c0, .int .i64 f1, .int .u64 f2] 65 (0, 0)) ∧ w0.heap.size ≤ g ∧ Kd.C (Kd.int .i64) w0 A0 f0.length f0
theorem IsS65.grown {w0 W : World} {g : Nat} {f0 : List Int} {f1 : Int} {f2 : Int} {W1 : World} {row : Option Nat} (h : IsS65 w0 W g f0 f1 f2) (hw : W.grownBy W1 row) (hne : some g ≠ row) : IsS65 w0 W1 g f0 f1 f2 := by
  obtain ⟨A0, c0, hb, hg, hr0⟩ := h
  exact ⟨A0, c0, blk_grown hb hw hne, hg, hr0⟩
theorem IsS65.kept {w0 W : World} {g : Nat} {f0 : List Int} {f1 : Int} {f2 : Int} {W1 : World} {S : Nat → Prop} (h : IsS65 w0 W g f0 f1 f2) (hk : Kept W W1 S) (hne : ¬ S g) : IsS65 w0 W1 g f0 f1 f2 := by
  obtain ⟨A0, c0, hb, hg, hr0⟩ := h
  exact ⟨A0, c0, blk_kept hb hk hne, hg, hr0⟩
theorem IsS65.below {w0 W : World} {g : Nat} {f0 : List Int} {f1 : Int} {f2 : Int} {W1 : World} (h : IsS65 w0 W g f0 f1 f2) (hw : Below W.heap.size W W1) : IsS65 w0 W1 g f0 f1 f2 := h.grown (grown_of_below hw none) (by simp)
theorem IsS65.alloc {w0 W : World} {g : Nat} {f0 : List Int} {f1 : Int} {f2 : Int} (h : IsS65 w0 W g f0 f1 f2) (o : Obj) : IsS65 w0 (W.alloc o) g f0 f1 f2 := h.below (below_alloc (Below.refl _ _) o)
theorem IsS65.drewN {w0 W : World} {g : Nat} {f0 : List Int} {f1 : Int} {f2 : Int} (h : IsS65 w0 W g f0 f1 f2) (m : Nat) : IsS65 w0 (W.drewN m) g f0 f1 f2 := h
theorem IsS65.drew {w0 W : World} {g : Nat} {f0 : List Int} {f1 : Int} {f2 : Int} (h : IsS65 w0 W g f0 f1 f2) : IsS65 w0 W.drew g f0 f1 f2 := h
theorem IsS65.at_ {w0 W : World} {g : Nat} {f0 : List Int} {f1 : Int} {f2 : Int} {w' : World} {m : Nat} (hq : W.drewN m = w') (h : IsS65 w0 W g f0 f1 f2) : IsS65 w0 w' g f0 f1 f2 := by subst hq; exact IsS65.drewN h m
theorem IsS65.apart {w0 W : World} {g : Nat} {f0 : List Int} {f1 : Int} {f2 : Int} {α : Type} {d : Kd α} {e : Nat} {base : Nat} {ok : Nat → Prop} {v : Value} {xs : List α} (h : IsS65 w0 W g f0 f1 f2) (ho : d.R e W base ok v xs) (ht : ∀ q, q ∈ e :: d.E → q ≠ 65) : d.R e W base (fun k => ok k ∧ k ≠ g) v xs := by
  obtain ⟨A0, c0, hb, hg, hr0⟩ := h
  exact Kd.R_types ho hb ht
theorem IsS65.own_ne {w0 W : World} {g : Nat} {f0 : List Int} {f1 : Int} {f2 : Int} {α : Type} {d : Kd α} {e : Nat} {base : Nat} {ok : Nat → Prop} {v : Value} {xs : List α} (h : IsS65 w0 W g f0 f1 f2) (ho : d.R e W base ok v xs) (ht : e ≠ 65) : some g ≠ v.ownBlock := by
  obtain ⟨A0, c0, hb, hg, hr0⟩ := h
  exact Kd.R_ne ho hb ht
theorem IsS65.lt {w0 W : World} {g : Nat} {f0 : List Int} {f1 : Int} {f2 : Int} (h : IsS65 w0 W g f0 f1 f2) : g < W.heap.size := by
  obtain ⟨A0, c0, hb, hg, hr0⟩ := h
  exact blk_lt hb
theorem IsS65.ge {w0 W : World} {g : Nat} {f0 : List Int} {f1 : Int} {f2 : Int} (h : IsS65 w0 W g f0 f1 f2) : w0.heap.size ≤ g := by
  obtain ⟨A0, c0, hb, hg, hr0⟩ := h
  exact hg
theorem cellS65_0 {W : World} {g : Nat} {A0 : Option Addr} {c0 : Nat} {f0 : List Int} {f1 : Int} {f2 : Int} (h : W.heap[g]? = some (.cells #[.slice A0 f0.length c0, .int .i64 f1, .int .u64 f2] 65 (0, 0))) : W.cell? ⟨g, 0, none⟩ = some (.slice A0 f0.length c0) := (blk_cell h 0).trans rfl
theorem cellS65_1 {W : World} {g : Nat} {A0 : Option Addr} {c0 : Nat} {f0 : List Int} {f1 : Int} {f2 : Int} (h : W.heap[g]? = some (.cells #[.slice A0 f0.length c0, .int .i64 f1, .int .u64 f2] 65 (0, 0))) : W.cell? ⟨g, 1, none⟩ = some (.int .i64 f1) := (blk_cell h 1).trans rfl
theorem IsS65.set_1 {w0 W : World} {g : Nat} {f0 : List Int} {f1 : Int} {f2 : Int} (h : IsS65 w0 W g f0 f1 f2) (x : Int) : IsS65 w0 (W.setCell ⟨g, 1, none⟩ (.int .i64 x)) g f0 x f2 := by
  obtain ⟨A0, c0, hb, hg, hr0⟩ := h
  exact ⟨A0, c0, by simpa using blk_set hb 1 (.int .i64 x), hg, hr0⟩
theorem cellS65_2 {W : World} {g : Nat} {A0 : Option Addr} {c0 : Nat} {f0 : List Int} {f1 : Int} {f2 : Int} (h : W.heap[g]? = some (.cells #[.slice A0 f0.length c0, .int .i64 f1, .int .u64 f2] 65 (0, 0))) : W.cell? ⟨g, 2, none⟩ = some (.int .u64 f2) := (blk_cell h 2).trans rfl
theorem IsS65.set_2 {w0 W : World} {g : Nat} {f0 : List Int} {f1 : Int} {f2 : Int} (h : IsS65 w0 W g f0 f1 f2) (x : Int) : IsS65 w0 (W.setCell ⟨g, 2, none⟩ (.int .u64 x)) g f0 f1 x := by
  obtain ⟨A0, c0, hb, hg, hr0⟩ := h
  exact ⟨A0, c0, by simpa using blk_set hb 2 (.int .u64 x), hg, hr0⟩
theorem IsS65.new (w0 W : World) (A0 : Option Addr) (c0 : Nat) (f0 : List Int) (f1 : Int) (f2 : Int) (hB : Below w0.heap.size w0 W) (hr0 : Kd.C (Kd.int .i64) w0 A0 f0.length f0) : IsS65 w0 (W.alloc (.cells #[.slice A0 f0.length c0, .int .i64 f1, .int .u64 f2] 65)) W.heap.size f0 f1 f2 := ⟨A0, c0, by simpa using heap_alloc_new W _, hB.size, hr0⟩
def metewandkit_NewRod.f (l0 : List Int) : Option (List Int × Int × Int) := some (l0, 0, 7640891576956012809)
set_option maxHeartbeats 8000000 in
set_option maxRecDepth 100000 in
theorem metewandkit_NewRod.calls (A0 : Option Addr) (c0 : Nat) (l0 : List Int) (r1 : List Int) (r2 : Int) (r3 : Int) (w0 w : World) (hB : Below w0.heap.size w0 w) (hr0 : Kd.C (Kd.int .i64) w0 A0 l0.length l0) (hc0 : l0.length ≤ c0) (h : metewandkit_NewRod.f l0 = some (r1, r2, r3)) :
    Calls Tryz.prog 19 #[.slice A0 l0.length c0] w fun e w' => ∃ g_ : Nat, e = .returned (.pointer (some ⟨g_, 0, none⟩)) ∧ IsS65 w0 w' g_ r1 r2 r3 ∧ Below w0.heap.size w0 w' ∧ Below w.heap.size w w' := by
  have hu65 := Tryz.underlying65
  have HR0 := Aside0.mk hr0
  have HC0 := Aside0.mk hc0
  clear hr0 hc0
  have HBW := Aside0.mk (Below.refl w.heap.size w)
  have HW0 := Aside0.mk hB.size
  have HB := Aside0.mk hB
  clear hB
  have H : (some (l0, 0, 7640891576956012809)) = some (r1, r2, r3) := h
  clear h
  simp only [Option.some.injEq, Prod.mk.injEq] at H
  obtain ⟨rfl, rfl, rfl⟩ := H
  go_enter Tryz.func19, Tryz.ntmps19
  go_wp2_with (first | ((with_reducible refine gate_dst (N := 5) rfl ?_); refine box_event ?hg (N := 5) ?hd (cs := #[.slice A0 l0.length c0, .int .i64 0, .int .u64 7640891576956012809]) (t := 65) ?hr ?_; (case hd => rfl); (case hg => rfl); (case hr => first | (go_simp; done) | (go_simp; rfl)); intro gb101 hg w2 hbox hb; have n0_ := Aside0.mk (below_step HBW.out hb); have n1_ := Aside0.mk (below_step (by repeat (first | (with_reducible first | exact HB.out | apply below_alloc | apply pw_below_drewN | apply below_drew1) | exact HB.out)) hb); have n2_ := Aside0.mk (hbox); have n3_ := Aside0.mk ((by rw [hg]; exact (below_size (by repeat (first | (with_reducible first | exact HBW.out | apply below_alloc | apply pw_below_drewN | apply below_drew1) | exact HBW.out))) : w.heap.size ≤ gb101)); have n4_ := Aside0.mk ((Nat.le_trans HW0.out (by rw [hg]; exact (below_size (by repeat (first | (with_reducible first | exact HBW.out | apply below_alloc | apply pw_below_drewN | apply below_drew1) | exact HBW.out))) : w.heap.size ≤ gb101) : w0.heap.size ≤ gb101)); clear HBW; clear HB; have HBW := n0_; have HB := n1_; have BK101 := n2_; have GW101 := n3_; have GE101 := n4_; clear n0_ n1_ n2_ n3_ n4_; clear hb hbox hg))
  go_ret
  exact ⟨_, rfl, (show IsS65 w0 _ gb101 l0 0 7640891576956012809 from ⟨_, _, by (with_reducible repeat (first | refine blk_drewN ?_ _ | refine blk_drew ?_ | refine blk_alloc ?_ _)); exact BK101.out, GE101.out, HR0.out⟩), by repeat (first | (with_reducible first | exact HB.out | apply below_alloc | apply pw_below_drewN | apply below_drew1 | refine below_set ?_ GE101.out) | exact HB.out), by repeat (first | (with_reducible first | exact HBW.out | apply below_alloc | apply pw_below_drewN | apply below_drew1 | refine below_set ?_ GW101.out) | exact HBW.out)⟩
end Go.Proofs.YtjieekkkaekclaaGreatDoor.PR
namespace Go.Proofs.YtjieekkkaekclaaGreatDoor
open Go Go.RowKit Go.Proofs.YtjieekkkaekclaaGreatDoorW.PrintWords Go.Proofs.YtjieekkkaekclaaGreatDoorW.PrintLast Go.Proofs.YtjieekkkaekclaaGreatDoorW.PrintMore Go.Proofs.YtjieekkkaekclaaGreatDoor.PR
def TurnR (w0 w : World) (g : Nat) (A : Option Addr) (c : Nat) (s0 : List Int) (a st : Int) (W : World) : Prop :=
  W.heap[g]? = some (.cells #[.slice A s0.length c, .int .i64 a, .int .u64 st] 65 (0, 0)) ∧ Below w0.heap.size w0 W ∧ KeepBut w W g none
theorem TurnR.at_ {w0 w : World} {g : Nat} {A : Option Addr} {c : Nat} {s0 : List Int} {a st : Int} {W : World} (h : TurnR w0 w g A c s0 a st W) (hg : w0.heap.size ≤ g) (x : Int) : TurnR w0 w g A c s0 x st (W.setCell ⟨g, 1, none⟩ (.int .i64 x)) :=
  ⟨by simpa using blk_set h.1 1 (.int .i64 x), below_set h.2.1 hg, h.2.2.set_ 1 _⟩
theorem TurnR.st_ {w0 w : World} {g : Nat} {A : Option Addr} {c : Nat} {s0 : List Int} {a st : Int} {W : World} (h : TurnR w0 w g A c s0 a st W) (hg : w0.heap.size ≤ g) (x : Int) : TurnR w0 w g A c s0 a x (W.setCell ⟨g, 2, none⟩ (.int .u64 x)) :=
  ⟨by simpa using blk_set h.1 2 (.int .u64 x), below_set h.2.1 hg, h.2.2.set_ 2 _⟩
theorem TurnR.drew {w0 w : World} {g : Nat} {A : Option Addr} {c : Nat} {s0 : List Int} {a st : Int} {W : World} (h : TurnR w0 w g A c s0 a st W) : TurnR w0 w g A c s0 a st W.drew := ⟨h.1, below_drew1 h.2.1, keep_drew h.2.2⟩
theorem TurnR.froz {w0 w : World} {g : Nat} {A : Option Addr} {c : Nat} {s0 : List Int} {a st : Int} {W : World} (h : TurnR w0 w g A c s0 a st W) (i : Nat) : W.frozen? ⟨g, i, none⟩ = false := by
  simp [World.frozen?, h.1]
def turnAdd0 (a : Int) : Int := IntKind.u64.wrap (IntKind.u64.wrap (wrap64 (a + 1)) * 13503953896175478587)
def turnAdd1 (a x : Int) : Int := IntKind.u64.wrap (turnAdd0 a + IntKind.u64.wrap (IntKind.u64.wrap x * 4354685564936845355))
def turnMix (st add : Int) : Int := IntKind.u64.wrap (bits .xor .u64 st add * 11912009170470909681)
def turnSt (m : Int) : Int := bits .xor .u64 m (m / 2147483648)
def turnOut (m : Int) : Int := IntKind.u64.wrap (turnSt m * 5840696475078001361)
def turnFin (o : Int) : Int := bits .xor .u64 o (o / 536870912) / 2048
def turnAdd (l : List Int) (a : Int) : Int := if a < l.length then turnAdd1 a (rd l a) else turnAdd0 a
def metewandkit_Rod_turn.f (l : List Int) (a st : Int) : Option (Int × Int × Int) :=
  if 0 ≤ a then some (turnFin (turnOut (turnMix st (turnAdd l a))), wrap64 (a + 1), turnSt (turnMix st (turnAdd l a))) else none
theorem turn_out (w0 : World) (g : Nat) (A : Option Addr) (c : Nat) (s0 : List Int) (s1 s2 : Int) (w : World) (hR : TurnR w0 w g A c s0 s1 s2 w) (hg : w0.heap.size ≤ g) (h0 : 0 ≤ s1) (h1 : ¬ s1 < s0.length) :
    Calls Tryz.prog 107 #[.pointer (some ⟨g, 0, none⟩)] w fun e w' => e = .returned (.int .u64 (turnFin (turnOut (turnMix s2 (turnAdd0 s1))))) ∧ TurnR w0 w g A c s0 (wrap64 (s1 + 1)) (turnSt (turnMix s2 (turnAdd0 s1))) w' := by
  have c0 := cellS65_0 hR.1
  have c1 := cellS65_1 hR.1
  have c2 := cellS65_2 hR.1
  have f1 := hR.froz 1
  have f2 := hR.froz 2
  go_enter Tryz.func107, Tryz.ntmps107
  go_wp2
  go_region
  go_wp2
  refine wp_world (TurnR w0 w g A c s0 (wrap64 (s1 + 1)) _) (((hR.at_ hg _).st_ hg _).drew) ?_
  clear c0 c1 c2 f1 f2
  intro W1 hR1
  have c0 := cellS65_0 hR1.1
  have c1 := cellS65_1 hR1.1
  have c2 := cellS65_2 hR1.1
  have f1 := hR1.froz 1
  have f2 := hR1.froz 2
  go_region
  go_wp2
  go_ret
  exact ⟨rfl, (hR1.st_ hg _).drew⟩
theorem turn_in (w0 : World) (g : Nat) (ad : Addr) (c : Nat) (s0 : List Int) (s1 s2 x : Int) (w : World) (hR : TurnR w0 w g (some ad) c s0 s1 s2 w) (hg : w0.heap.size ≤ g) (h0 : 0 ≤ s1) (h1 : s1 < s0.length) (hx : w.cell? (ad.add s1.toNat) = some (.int .i64 x)) :
    Calls Tryz.prog 107 #[.pointer (some ⟨g, 0, none⟩)] w fun e w' => e = .returned (.int .u64 (turnFin (turnOut (turnMix s2 (turnAdd1 s1 x))))) ∧ TurnR w0 w g (some ad) c s0 (wrap64 (s1 + 1)) (turnSt (turnMix s2 (turnAdd1 s1 x))) w' := by
  have c0 := cellS65_0 hR.1
  have c1 := cellS65_1 hR.1
  have c2 := cellS65_2 hR.1
  have f1 := hR.froz 1
  have f2 := hR.froz 2
  have n1 := eq_true h0
  have n2 := eq_true h1
  go_enter Tryz.func107, Tryz.ntmps107
  go_wp2
  go_region
  go_wp2
  go_region
  go_wp2
  refine wp_world (TurnR w0 w g (some ad) c s0 (wrap64 (s1 + 1)) _) (((hR.drew.at_ hg _).st_ hg _).drew) ?_
  clear c0 c1 c2 f1 f2
  intro W1 hR1
  have c0 := cellS65_0 hR1.1
  have c1 := cellS65_1 hR1.1
  have c2 := cellS65_2 hR1.1
  have f1 := hR1.froz 1
  have f2 := hR1.froz 2
  go_region
  go_wp2
  go_ret
  exact ⟨rfl, (hR1.st_ hg _).drew⟩
theorem metewandkit_Rod_turn.calls (g : Nat) (s0 : List Int) (s1 s2 r1 r2 r3 : Int) (w0 w : World) (hI : IsS65 w0 w g s0 s1 s2) (hB : Below w0.heap.size w0 w) (h : metewandkit_Rod_turn.f s0 s1 s2 = some (r1, r2, r3)) :
    Calls Tryz.prog 107 #[.pointer (some ⟨g, 0, none⟩)] w fun e w' => e = .returned (.int .u64 r1) ∧ IsS65 w0 w' g s0 r2 r3 ∧ Below w0.heap.size w0 w' ∧ KeepBut w w' g none := by
  obtain ⟨A, c, hb, hg, hr⟩ := hI
  have hR : TurnR w0 w g A c s0 s1 s2 w := ⟨hb, hB, KeepBut.refl w g none⟩
  unfold metewandkit_Rod_turn.f turnAdd at h
  by_cases h0 : 0 ≤ s1
  · rw [if_pos h0] at h
    obtain ⟨rfl, rfl, rfl⟩ : _ ∧ _ ∧ _ := by simpa using h
    by_cases h1 : s1 < (s0.length : Int)
    · obtain ⟨ad, rfl, hx⟩ := Kd.at_int hr s1 h0 h1
      rw [if_pos h1]
      exact (turn_in w0 g ad c s0 s1 s2 _ w hR hg h0 h1 (pw_cell_below hB hx)).mono fun e w' ⟨he, h⟩ => ⟨he, ⟨_, _, h.1, hg, hr⟩, h.2⟩
    · rw [if_neg h1]
      exact (turn_out w0 g A c s0 s1 s2 w hR hg h0 h1).mono fun e w' ⟨he, h⟩ => ⟨he, ⟨_, _, h.1, hg, hr⟩, h.2⟩
  · rw [if_neg h0] at h; cases h
end Go.Proofs.YtjieekkkaekclaaGreatDoor
namespace Go.Proofs.YtjieekkkaekclaaGreatDoor.PR
open Go.RowKit Go.Proofs.YtjieekkkaekclaaGreatDoorW.PrintWords Go.Proofs.YtjieekkkaekclaaGreatDoorW.PrintLast Go.Proofs.YtjieekkkaekclaaGreatDoorW.PrintMore
attribute [local go_sem] max2_int min2_int max_two min_two max_three min_three max_four min_four
set_option linter.unusedVariables false
set_option linter.unusedSimpArgs false
def metewandkit_Rod_Up.f (s0_0 : List Int) (s0_1 : Int) (s0_2 : Int) (a1 : Int) : Option (Int × Int × Int) := (metewandkit_Rod_turn.f s0_0 s0_1 s0_2).bind fun bt102 => (if a1 < 1 then (some (0, bt102.2.1, bt102.2.2)) else (if (IntKind.u64.wrap ((IntKind.u64.wrap (a1)) + 1)) = 0 then (none) else (some (wrap64 (Int.tmod bt102.1 (IntKind.u64.wrap ((IntKind.u64.wrap (a1)) + 1))), bt102.2.1, bt102.2.2))))
set_option maxHeartbeats 8000000 in
set_option maxRecDepth 100000 in
theorem metewandkit_Rod_Up.calls (g : Nat) (s0_0 : List Int) (s0_1 : Int) (s0_2 : Int) (a1 : Int) (r1 : Int) (r2 : Int) (r3 : Int) (w0 w : World) (hI : IsS65 w0 w g s0_0 s0_1 s0_2) (hB : Below w0.heap.size w0 w) (h : metewandkit_Rod_Up.f s0_0 s0_1 s0_2 a1 = some (r1, r2, r3)) :
    Calls Tryz.prog 46 #[.pointer (some ⟨g, 0, none⟩), .int .i64 a1] w fun e w' => e = .returned (.int .i64 r1) ∧ IsS65 w0 w' g s0_0 r2 r3 ∧ Below w0.heap.size w0 w' ∧ KeepBut w w' g none := by
  have HI0 := Aside0.mk hI
  have HK := Aside0.mk (KeepBut.refl w g none)
  have HL := Aside0.mk hB.size
  clear hI
  have HW0 := Aside0.mk hB.size
  have HB := Aside0.mk hB
  clear hB
  have H : ((metewandkit_Rod_turn.f s0_0 s0_1 s0_2).bind fun bt102 => (if a1 < 1 then (some (0, bt102.2.1, bt102.2.2)) else (if (IntKind.u64.wrap ((IntKind.u64.wrap (a1)) + 1)) = 0 then (none) else (some (wrap64 (Int.tmod bt102.1 (IntKind.u64.wrap ((IntKind.u64.wrap (a1)) + 1))), bt102.2.1, bt102.2.2))))) = some (r1, r2, r3) := h
  clear h
  replace H := Option.bind_eq_some_iff.mp H
  obtain ⟨⟨t102, t103, t104⟩, A30, H⟩ := H
  replace H : (if a1 < 1 then (some (0, t103, t104)) else (if (IntKind.u64.wrap ((IntKind.u64.wrap (a1)) + 1)) = 0 then (none) else (some (wrap64 (Int.tmod t102 (IntKind.u64.wrap ((IntKind.u64.wrap (a1)) + 1))), t103, t104)))) = some (r1, r2, r3) := H
  have A3 := Aside0.mk A30
  clear A30
  by_cases c4 : a1 < 1
  · rw [if_pos c4] at H
    have c4b0 : decide (a1 < 1) = true := decide_eq_true c4
    clear c4
    simp only [Option.some.injEq, Prod.mk.injEq] at H
    obtain ⟨rfl, rfl, rfl⟩ := H
    go_enter Tryz.func46, Tryz.ntmps46
    go_wp2_with (first | ((with_reducible refine gate_callee (f := 107) rfl ?_); refine goesL_ (some 7) rfl rfl Tryz.func107 (by kernel_rfl) rfl #[.pointer (some ⟨g, 0, none⟩)] rfl (by (try simp only [List.map_toArray, List.map_cons, List.map_nil]); first | done | rfl | (simp only [List.length_drop, List.length_take]; rfl)) ?_; (with_reducible refine (metewandkit_Rod_turn.calls g s0_0 s0_1 s0_2 t102 t103 t104 w0 _ ?side1 ?side2 A3.out).mono ?_); (case side1 => repeat (first | (with_reducible first | exact HI0.out | apply IsS65.alloc | apply IsS65.drewN | apply IsS65.drew | apply IsS65.set_1 | apply IsS65.set_2) | exact HI0.out)); (case side2 => repeat (first | (with_reducible first | exact HB.out | apply below_alloc | apply pw_below_drewN | apply below_drew1 | refine below_set ?_ (IsS65.ge HI0.out)) | exact HB.out)); rintro e w5 ⟨rfl, hi, hb, hk⟩; refine ⟨_, rfl, ?_⟩; have n0_ := Aside0.mk (KeepBut.trans (by repeat (first | (with_reducible first | exact HK.out | apply KeepBut.set_ | apply keep_drewN | apply keep_drew | apply keep_alloc) | exact HK.out)) hk (.inl rfl)); have n1_ := Aside0.mk (hb); have n2_ := Aside0.mk (hi); clear HK; clear HB; clear HI0; have HK := n0_; have HB := n1_; have HI0 := n2_; clear n0_ n1_ n2_; (try clear hb); (try clear hb2); (try clear hk); (try clear hi)))
    go_ret
    exact ⟨by first | rfl | (simp [errW_none, errW_some] <;> rfl) | (simp [*, errW_none, errW_some] <;> rfl), by repeat (first | (with_reducible first | exact HI0.out | apply IsS65.alloc | apply IsS65.drewN | apply IsS65.drew | apply IsS65.set_1 | apply IsS65.set_2) | exact HI0.out), by repeat (first | (with_reducible first | exact HB.out | apply below_alloc | apply pw_below_drewN | apply below_drew1 | refine below_set ?_ (IsS65.ge HI0.out)) | exact HB.out), by repeat (first | (with_reducible first | exact HK.out | apply KeepBut.set_ | apply keep_drewN | apply keep_drew | apply keep_alloc) | exact HK.out)⟩
  · rw [if_neg c4] at H
    have c4b0 : decide (a1 < 1) = false := decide_eq_false c4
    clear c4
    by_cases c6 : (IntKind.u64.wrap ((IntKind.u64.wrap (a1)) + 1)) = 0
    · rw [if_pos c6] at H
      exact absurd H (by simp)
    · rw [if_neg c6] at H
      have c6b0 : ((IntKind.u64.wrap ((IntKind.u64.wrap (a1)) + 1)) == 0) = false := beq_eq_false_iff_ne.mpr c6
      have c6b1 : ((IntKind.u64.wrap ((IntKind.u64.wrap (a1)) + 1)) != 0) = true := bne_iff_ne.mpr c6
      simp only [Option.some.injEq, Prod.mk.injEq] at H
      obtain ⟨rfl, rfl, rfl⟩ := H
      go_enter Tryz.func46, Tryz.ntmps46
      go_wp2_with (first | ((with_reducible refine gate_callee (f := 107) rfl ?_); refine goesL_ (some 7) rfl rfl Tryz.func107 (by kernel_rfl) rfl #[.pointer (some ⟨g, 0, none⟩)] rfl (by (try simp only [List.map_toArray, List.map_cons, List.map_nil]); first | done | rfl | (simp only [List.length_drop, List.length_take]; rfl)) ?_; (with_reducible refine (metewandkit_Rod_turn.calls g s0_0 s0_1 s0_2 t102 t103 t104 w0 _ ?side1 ?side2 A3.out).mono ?_); (case side1 => repeat (first | (with_reducible first | exact HI0.out | apply IsS65.alloc | apply IsS65.drewN | apply IsS65.drew | apply IsS65.set_1 | apply IsS65.set_2) | exact HI0.out)); (case side2 => repeat (first | (with_reducible first | exact HB.out | apply below_alloc | apply pw_below_drewN | apply below_drew1 | refine below_set ?_ (IsS65.ge HI0.out)) | exact HB.out)); rintro e w7 ⟨rfl, hi, hb, hk⟩; refine ⟨_, rfl, ?_⟩; have n0_ := Aside0.mk (KeepBut.trans (by repeat (first | (with_reducible first | exact HK.out | apply KeepBut.set_ | apply keep_drewN | apply keep_drew | apply keep_alloc) | exact HK.out)) hk (.inl rfl)); have n1_ := Aside0.mk (hb); have n2_ := Aside0.mk (hi); clear HK; clear HB; clear HI0; have HK := n0_; have HB := n1_; have HI0 := n2_; clear n0_ n1_ n2_; (try clear hb); (try clear hb2); (try clear hk); (try clear hi)))
      go_ret
      exact ⟨by first | rfl | (simp [errW_none, errW_some] <;> rfl) | (simp [*, errW_none, errW_some] <;> rfl), by repeat (first | (with_reducible first | exact HI0.out | apply IsS65.alloc | apply IsS65.drewN | apply IsS65.drew | apply IsS65.set_1 | apply IsS65.set_2) | exact HI0.out), by repeat (first | (with_reducible first | exact HB.out | apply below_alloc | apply pw_below_drewN | apply below_drew1 | refine below_set ?_ (IsS65.ge HI0.out)) | exact HB.out), by repeat (first | (with_reducible first | exact HK.out | apply KeepBut.set_ | apply keep_drewN | apply keep_drew | apply keep_alloc) | exact HK.out)⟩
end Go.Proofs.YtjieekkkaekclaaGreatDoor.PR
namespace Go.Proofs.YtjieekkkaekclaaGreatDoor.PR
open Go.RowKit Go.Proofs.YtjieekkkaekclaaGreatDoorW.PrintWords Go.Proofs.YtjieekkkaekclaaGreatDoorW.PrintLast Go.Proofs.YtjieekkkaekclaaGreatDoorW.PrintMore
attribute [local go_sem] max2_int min2_int max_two min_two max_three min_three max_four min_four
set_option linter.unusedVariables false
set_option linter.unusedSimpArgs false
def metewandkit_Rod_From.f (s0_0 : List Int) (s0_1 : Int) (s0_2 : Int) (a1 : Int) (a2 : Int) : Option (Int × Int × Int) := (metewandkit_Rod_Up.f s0_0 s0_1 s0_2 (wrap64 (a2 - a1))).bind fun bt105 => (some (wrap64 (a1 + bt105.1), bt105.2.1, bt105.2.2))
set_option maxHeartbeats 8000000 in
set_option maxRecDepth 100000 in
theorem metewandkit_Rod_From.calls (g : Nat) (s0_0 : List Int) (s0_1 : Int) (s0_2 : Int) (a1 : Int) (a2 : Int) (r1 : Int) (r2 : Int) (r3 : Int) (w0 w : World) (hI : IsS65 w0 w g s0_0 s0_1 s0_2) (hB : Below w0.heap.size w0 w) (h : metewandkit_Rod_From.f s0_0 s0_1 s0_2 a1 a2 = some (r1, r2, r3)) :
    Calls Tryz.prog 24 #[.pointer (some ⟨g, 0, none⟩), .int .i64 a1, .int .i64 a2] w fun e w' => e = .returned (.int .i64 r1) ∧ IsS65 w0 w' g s0_0 r2 r3 ∧ Below w0.heap.size w0 w' ∧ KeepBut w w' g none := by
  have HI0 := Aside0.mk hI
  have HK := Aside0.mk (KeepBut.refl w g none)
  have HL := Aside0.mk hB.size
  clear hI
  have HW0 := Aside0.mk hB.size
  have HB := Aside0.mk hB
  clear hB
  have H : ((metewandkit_Rod_Up.f s0_0 s0_1 s0_2 (wrap64 (a2 - a1))).bind fun bt105 => (some (wrap64 (a1 + bt105.1), bt105.2.1, bt105.2.2))) = some (r1, r2, r3) := h
  clear h
  replace H := Option.bind_eq_some_iff.mp H
  obtain ⟨⟨t105, t106, t107⟩, A40, H⟩ := H
  replace H : (some (wrap64 (a1 + t105), t106, t107)) = some (r1, r2, r3) := H
  have A4 := Aside0.mk A40
  clear A40
  simp only [Option.some.injEq, Prod.mk.injEq] at H
  obtain ⟨rfl, rfl, rfl⟩ := H
  go_enter Tryz.func24, Tryz.ntmps24
  go_wp2_with (first | ((with_reducible refine gate_callee (f := 46) rfl ?_); refine goesL_ (some 12) rfl rfl Tryz.func46 (by kernel_rfl) rfl #[.pointer (some ⟨g, 0, none⟩), .int .i64 (wrap64 (a2 - a1))] rfl (by (try simp only [List.map_toArray, List.map_cons, List.map_nil]); first | done | rfl | (simp only [List.length_drop, List.length_take]; rfl)) ?_; (with_reducible refine (metewandkit_Rod_Up.calls g s0_0 s0_1 s0_2 (wrap64 (a2 - a1)) t105 t106 t107 w0 _ ?side1 ?side2 A4.out).mono ?_); (case side1 => repeat (first | (with_reducible first | exact HI0.out | apply IsS65.alloc | apply IsS65.drewN | apply IsS65.drew | apply IsS65.set_1 | apply IsS65.set_2) | exact HI0.out)); (case side2 => repeat (first | (with_reducible first | exact HB.out | apply below_alloc | apply pw_below_drewN | apply below_drew1 | refine below_set ?_ (IsS65.ge HI0.out)) | exact HB.out)); rintro e w5 ⟨rfl, hi, hb, hk⟩; refine ⟨_, rfl, ?_⟩; have n0_ := Aside0.mk (KeepBut.trans (by repeat (first | (with_reducible first | exact HK.out | apply KeepBut.set_ | apply keep_drewN | apply keep_drew | apply keep_alloc) | exact HK.out)) hk (.inl rfl)); have n1_ := Aside0.mk (hb); have n2_ := Aside0.mk (hi); clear HK; clear HB; clear HI0; have HK := n0_; have HB := n1_; have HI0 := n2_; clear n0_ n1_ n2_; (try clear hb); (try clear hb2); (try clear hk); (try clear hi)))
  go_ret
  exact ⟨by first | rfl | (simp [errW_none, errW_some] <;> rfl) | (simp [*, errW_none, errW_some] <;> rfl), by repeat (first | (with_reducible first | exact HI0.out | apply IsS65.alloc | apply IsS65.drewN | apply IsS65.drew | apply IsS65.set_1 | apply IsS65.set_2) | exact HI0.out), by repeat (first | (with_reducible first | exact HB.out | apply below_alloc | apply pw_below_drewN | apply below_drew1 | refine below_set ?_ (IsS65.ge HI0.out)) | exact HB.out), by repeat (first | (with_reducible first | exact HK.out | apply KeepBut.set_ | apply keep_drewN | apply keep_drew | apply keep_alloc) | exact HK.out)⟩
end Go.Proofs.YtjieekkkaekclaaGreatDoor.PR
namespace Go.Proofs.YtjieekkkaekclaaGreatDoor.PR
open Go.RowKit Go.Proofs.YtjieekkkaekclaaGreatDoorW.PrintWords Go.Proofs.YtjieekkkaekclaaGreatDoorW.PrintLast Go.Proofs.YtjieekkkaekclaaGreatDoorW.PrintMore
attribute [local go_sem] max2_int min2_int max_two min_two max_three min_three max_four min_four
set_option linter.unusedVariables false
set_option linter.unusedSimpArgs false
def metewandkit_Digit.f (a0 : Int) : Option (ByteArray) := some (strOfNums (([(wrap64 (48 + (Int.tmod a0 10))) % 256] : List Int)))
set_option maxHeartbeats 8000000 in
set_option maxRecDepth 100000 in
theorem metewandkit_Digit.calls (a0 : Int) (r : ByteArray) (w : World) (h : metewandkit_Digit.f a0 = some r) :
    Calls Tryz.prog 65 #[.int .i64 a0] w fun e w' => e = .returned (.string r) ∧ Below w.heap.size w w' := by
  have HB := Aside0.mk (Below.refl w.heap.size w)
  have H : (some (strOfNums (([(wrap64 (48 + (Int.tmod a0 10))) % 256] : List Int)))) = some r := h
  clear h
  obtain ⟨y112, hy112⟩ : ∃ y_ : List Int, y_ = (([(wrap64 (48 + (Int.tmod a0 10))) % 256] : List Int)) := ⟨_, rfl⟩
  replace H : (some (strOfNums y112)) = some r := by first | (rw [hy112]; with_reducible exact H) | (have H2_ := (Option.bind_some _ _).symm.trans H; rw [hy112]; with_reducible exact H2_) | (have H2_ := (Option.bind_some _ _).symm.trans H; with_reducible exact H2_) | with_reducible exact H | (rw [hy112]; exact H) | exact H
  have Ny112 := Aside0.mk hy112
  clear hy112
  obtain rfl := Option.some.inj H
  go_enter Tryz.func65, Tryz.ntmps65
  go_wp2_with (first | ((with_reducible refine gate_dst (N := 7) rfl ?_); refine Kd.R_lit (Kd.int .u8) _ 5 ?hg (N := 7) ?hd (xs := ([(wrap64 (48 + (Int.tmod a0 10))) % 256] : List Int)) (inner := [.int .u8 ((wrap64 (48 + (Int.tmod a0 10))) % 256)]) (ok := fun _ => True) (okp := fun _ => True) ?hr ?hp (fun _ hk => hk) trivial (Below.refl _ _) (Nat.le_refl _) (by simp) ?_; (case hd => rfl); (case hg => rfl); (case hr => first | (go_simp; done) | (go_simp; rfl)); (case hp => exact (Reps.one (show Kd.M (Kd.int .u8) _ _ _ ((wrap64 (48 + (Int.tmod a0 10))) % 256) [.int .u8 ((wrap64 (48 + (Int.tmod a0 10))) % 256)] from rfl) (Reps.none _ _))); intro v113 w2 ho3 hb hg_ hnew_; clear hg_ hnew_; (first | rw [← Ny112.out] at ho3 | (simp only [Int.reduceToNat] at ho3; rw [← Ny112.out] at ho3)); have n0_ := Aside0.mk (Kd.R_lower ho3 (below_size (by repeat (first | (with_reducible first | exact HB.out | apply below_alloc | apply pw_below_drewN | apply below_drew1) | exact HB.out)))); have n1_ := Aside0.mk (below_step (by repeat (first | (with_reducible first | exact HB.out | apply below_alloc | apply pw_below_drewN | apply below_drew1) | exact HB.out)) hb); clear HB; have HO114 := n0_; have HB := n1_; clear n0_ n1_; clear hb ho3; have hcv4 := own_string (P := Tryz.prog) Tryz.underlying104 Tryz.underlying5 Tryz.underlying9 (Kd.own_of_R HO114.out)))
  go_ret
  exact ⟨by first | rfl | (simp [errW_none, errW_some] <;> rfl) | (simp [*, errW_none, errW_some] <;> rfl), by repeat (first | (with_reducible first | exact HB.out | apply below_alloc | apply pw_below_drewN | apply below_drew1) | exact HB.out)⟩
end Go.Proofs.YtjieekkkaekclaaGreatDoor.PR
