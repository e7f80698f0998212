/- Lemmas for the claim beside this text. -/
import Derived.Test.YtjieekkkaekclaaGreatDoorZPAO
import Derived.LaidEql
import Derived.Laws.Pointers
import Derived.Recover
import Derived.RowKitTokens
import Derived.Stop.Asserts
import Derived.WalkKit
set_option linter.all false
set_option linter.unusedVariables false
set_option linter.unusedSimpArgs false
namespace Go.Proofs.YtjieekkkaekclaaGreatDoor
open Go.RowKit Go.Proofs.YtjieekkkaekclaaGreatDoorW.PrintWords
structure Bx where
  s : Int
  A : Option Addr
  k : Nat
  c : Nat
def Fr (W : World) : Nat → List Bx → Prop
  | _, [] => True
  | B, x :: r => (W.cell? ⟨B, 0, none⟩ = some (.int .i64 x.s) ∧ W.cell? ⟨B, 1, none⟩ = some (.slice x.A x.k x.c) ∧ W.frozen? ⟨B, 0, none⟩ = false ∧ W.frozen? ⟨B, 1, none⟩ = false ∧ B < W.heap.size) ∧ Fr W (B + 1) r
theorem Fr.below {W W1 : World} {X : Nat} (hb : Below X W W1) : ∀ {l : List Bx} {B : Nat}, Fr W B l → B + l.length ≤ X → Fr W1 B l
  | [], _, _, _ => trivial
  | x :: r, B, h, hx => by
    simp only [List.length_cons] at hx
    refine ⟨⟨?_, ?_, ?_, ?_, Nat.lt_of_lt_of_le h.1.2.2.2.2 hb.size⟩, Fr.below hb h.2 (by omega)⟩
    · rw [hb.cell (p := ⟨B, 0, none⟩) (by simp; omega)]; exact h.1.1
    · rw [hb.cell (p := ⟨B, 1, none⟩) (by simp; omega)]; exact h.1.2.1
    · rw [hb.frozen (p := ⟨B, 0, none⟩) (by simp; omega)]; exact h.1.2.2.1
    · rw [hb.frozen (p := ⟨B, 1, none⟩) (by simp; omega)]; exact h.1.2.2.2.1
theorem Fr.size {W : World} : ∀ {l : List Bx} {B : Nat}, Fr W B l → B ≤ W.heap.size → B + l.length ≤ W.heap.size
  | [], _, _, hB => by simpa using hB
  | x :: r, B, h, _ => by
    have h1 := Fr.size h.2 h.1.2.2.2.2
    simp only [List.length_cons]; omega
theorem Fr.call {W W1 : World} {l : List Bx} {B : Nat} (h : Fr W B l) (hB : B ≤ W.heap.size) (hb : Below W.heap.size W W1) : Fr W1 B l := Fr.below hb h (h.size hB)
theorem Fr.drew {W : World} {l : List Bx} {B : Nat} (h : Fr W B l) (hB : B ≤ W.heap.size) : Fr W.drew B l := h.call hB (below_drew (Below.refl _ _))
theorem Fr.alloc {W : World} {l : List Bx} {B : Nat} (h : Fr W B l) (hB : B ≤ W.heap.size) (o : Obj) : Fr (W.alloc o) B l := h.call hB (below_alloc (Below.refl _ _) o)
theorem fr_far {W : World} {g o : Nat} {v : Value} : ∀ {l : List Bx} {B : Nat}, Fr W B l → (g < B ∨ B + l.length ≤ g) → Fr (W.setCell ⟨g, o, none⟩ v) B l
  | [], _, _, _ => trivial
  | x :: r, B, h, hx => by
    simp only [List.length_cons] at hx
    have hne : g ≠ B := by omega
    refine ⟨⟨?_, ?_, ?_, ?_, by simpa using h.1.2.2.2.2⟩, fr_far h.2 (by omega)⟩
    · rw [World.cell?_setCell_far _ _ _ _ hne]; exact h.1.1
    · rw [World.cell?_setCell_far _ _ _ _ hne]; exact h.1.2.1
    · rw [World.frozen?_setCell]; exact h.1.2.2.1
    · rw [World.frozen?_setCell]; exact h.1.2.2.2.1
theorem Fr.put {W : World} (s : Int) (A : Option Addr) (k c : Nat) : ∀ {l : List Bx} {B : Nat} (i : Nat), Fr W B l → Fr ((W.setCell ⟨B + i, 0, none⟩ (.int .i64 s)).setCell ⟨B + i, 1, none⟩ (.slice A k c)) B (l.set i ⟨s, A, k, c⟩)
  | [], _, _, _ => by simp [Fr]
  | x :: r, B, 0, h => by
    refine ⟨⟨?_, ?_, ?_, ?_, by simpa using h.1.2.2.2.2⟩, fr_far (fr_far h.2 (.inl (by omega))) (.inl (by omega))⟩
    · rw [World.cell?_setCell_other _ _ _ _ (by simp)]; exact World.cell?_setCell_same _ _ _ h.1.1
    · exact World.cell?_setCell_same _ _ _ ((World.cell?_setCell_other _ _ _ _ (by simp)).trans h.1.2.1)
    · rw [World.frozen?_setCell, World.frozen?_setCell]; exact h.1.2.2.1
    · rw [World.frozen?_setCell, World.frozen?_setCell]; exact h.1.2.2.2.1
  | x :: r, B, i + 1, h => by
    have h2 := Fr.put s A k c i h.2
    rw [show B + 1 + i = B + (i + 1) by omega] at h2
    refine ⟨⟨?_, ?_, ?_, ?_, by simpa using h.1.2.2.2.2⟩, h2⟩
    · exact set_keep h.1.1 (by omega)
    · exact set_keep h.1.2.1 (by omega)
    · rw [World.frozen?_setCell, World.frozen?_setCell]; exact h.1.2.2.1
    · rw [World.frozen?_setCell, World.frozen?_setCell]; exact h.1.2.2.2.1
theorem Fr.at {W : World} : ∀ {l : List Bx} {B : Nat} (i : Nat), Fr W B l → i < l.length → ∃ x : Bx, W.cell? ⟨B + i, 0, none⟩ = some (.int .i64 x.s) ∧ W.cell? ⟨B + i, 1, none⟩ = some (.slice x.A x.k x.c)
  | [], _, _, _, hi => by simp at hi
  | x :: r, B, 0, h, _ => ⟨x, h.1.1, h.1.2.1⟩
  | x :: r, B, i + 1, h, hi => by
    obtain ⟨y, h1, h2⟩ := Fr.at i h.2 (by simpa using hi)
    rw [show B + 1 + i = B + (i + 1) by omega] at h1 h2
    exact ⟨y, h1, h2⟩
theorem NumAt.put {W : World} {s : Int} {A : Option Addr} {k c : Nat} {n : Int} (h : NumAt W s A k c n) {l : List Bx} {B : Nat} (F : Fr W B l) (i : Nat) (hi : i < l.length) (s' : Int) (A' : Option Addr) (k' c' : Nat) :
    NumAt ((W.setCell ⟨B + i, 0, none⟩ (.int .i64 s')).setCell ⟨B + i, 1, none⟩ (.slice A' k' c')) s A k c n := by
  obtain ⟨x, h1, h2⟩ := F.at i hi
  exact (h.set (.int .i64 s') h1 (by simp)).set (.slice A' k' c') ((World.cell?_setCell_other _ _ _ _ (by simp)).trans h2) (by simp)
theorem below_put {w W : World} {B i : Nat} (hb : Below w.heap.size w W) (hB : w.heap.size ≤ B) (s' : Int) (A' : Option Addr) (k' c' : Nat) :
    Below w.heap.size w ((W.setCell ⟨B + i, 0, none⟩ (.int .i64 s')).setCell ⟨B + i, 1, none⟩ (.slice A' k' c')) := (hb.setCell (by simp; omega) _).setCell (by simp; omega) _
theorem Fr.snoc {W : World} {B : Nat} : ∀ {l : List Bx}, Fr W B l → B + l.length = W.heap.size → ∀ (x : Bx) (t : TypeId), Fr (W.alloc (.cells #[.int .i64 x.s, .slice x.A x.k x.c] t)) B (l ++ [x]) := by
  intro l
  induction l generalizing B with
  | nil =>
    intro _ hB x t
    simp only [List.length_nil, Nat.add_zero] at hB
    subst hB
    refine ⟨⟨?_, ?_, ?_, ?_, by simp⟩, trivial⟩ <;> simp [go_sem]
  | cons y r ih =>
    intro h hB x t
    simp only [List.length_cons] at hB
    have h1 := ih h.2 (by omega) x t
    refine ⟨?_, h1⟩
    have h2 := (Fr.alloc (W := W) (l := [y]) (B := B) ⟨h.1, trivial⟩ (Nat.le_of_lt h.1.2.2.2.2) (.cells #[.int .i64 x.s, .slice x.A x.k x.c] t)).1
    exact h2
def bxs (w : World) (t : TypeId) : List Bx → World
  | [] => w
  | x :: r => bxs (w.alloc (.cells #[.int .i64 x.s, .slice x.A x.k x.c] t)) t r
theorem bxs_below (t : TypeId) : ∀ (l : List Bx) (w : World) {B : Nat} {w0 : World}, B ≤ w.heap.size → Below B w0 w → Below B w0 (bxs w t l)
  | [], _, _, _, _, h => h
  | x :: r, w, B, w0, hB, h => bxs_below t r _ (by simp; omega) (h.alloc hB _)
theorem bxs_fr (t : TypeId) : ∀ (l : List Bx) (w : World), Fr (bxs w t l) w.heap.size l
  | [], _ => trivial
  | x :: r, w => by
    have h := bxs_fr t r (w.alloc (.cells #[.int .i64 x.s, .slice x.A x.k x.c] t))
    rw [show (w.alloc (.cells #[.int .i64 x.s, .slice x.A x.k x.c] t)).heap.size = w.heap.size + 1 by simp] at h
    have h0 := Fr.snoc (W := w) (B := w.heap.size) (l := []) trivial rfl x t
    exact ⟨(h0.below (bxs_below t r _ (Nat.le_refl _) (Below.refl _ _)) (by simp)).1, h⟩
theorem Fr.c1 {W : World} {B : Nat} {s0 : Int} {A0 : Option Addr} {k0 c0 : Nat} (h : Fr W B [⟨s0, A0, k0, c0⟩]) : (W.cell? ⟨B, 0, none⟩ = some (.int .i64 s0) ∧ W.cell? ⟨B, 1, none⟩ = some (.slice A0 k0 c0) ∧ W.frozen? ⟨B, 0, none⟩ = false ∧ W.frozen? ⟨B, 1, none⟩ = false) := ⟨h.1.1, h.1.2.1, h.1.2.2.1, h.1.2.2.2.1⟩
theorem Fr.c2 {W : World} {B : Nat} {s0 s1 : Int} {A0 A1 : Option Addr} {k0 c0 k1 c1 : Nat} (h : Fr W B [⟨s0, A0, k0, c0⟩, ⟨s1, A1, k1, c1⟩]) : (W.cell? ⟨B, 0, none⟩ = some (.int .i64 s0) ∧ W.cell? ⟨B, 1, none⟩ = some (.slice A0 k0 c0) ∧ W.frozen? ⟨B, 0, none⟩ = false ∧ W.frozen? ⟨B, 1, none⟩ = false) ∧ (W.cell? ⟨B + 1, 0, none⟩ = some (.int .i64 s1) ∧ W.cell? ⟨B + 1, 1, none⟩ = some (.slice A1 k1 c1) ∧ W.frozen? ⟨B + 1, 0, none⟩ = false ∧ W.frozen? ⟨B + 1, 1, none⟩ = false) := ⟨⟨h.1.1, h.1.2.1, h.1.2.2.1, h.1.2.2.2.1⟩, ⟨h.2.1.1, h.2.1.2.1, h.2.1.2.2.1, h.2.1.2.2.2.1⟩⟩
theorem Fr.c3 {W : World} {B : Nat} {s0 s1 s2 : Int} {A0 A1 A2 : Option Addr} {k0 c0 k1 c1 k2 c2 : Nat} (h : Fr W B [⟨s0, A0, k0, c0⟩, ⟨s1, A1, k1, c1⟩, ⟨s2, A2, k2, c2⟩]) : (W.cell? ⟨B, 0, none⟩ = some (.int .i64 s0) ∧ W.cell? ⟨B, 1, none⟩ = some (.slice A0 k0 c0) ∧ W.frozen? ⟨B, 0, none⟩ = false ∧ W.frozen? ⟨B, 1, none⟩ = false) ∧ (W.cell? ⟨B + 1, 0, none⟩ = some (.int .i64 s1) ∧ W.cell? ⟨B + 1, 1, none⟩ = some (.slice A1 k1 c1) ∧ W.frozen? ⟨B + 1, 0, none⟩ = false ∧ W.frozen? ⟨B + 1, 1, none⟩ = false) ∧ (W.cell? ⟨B + 1 + 1, 0, none⟩ = some (.int .i64 s2) ∧ W.cell? ⟨B + 1 + 1, 1, none⟩ = some (.slice A2 k2 c2) ∧ W.frozen? ⟨B + 1 + 1, 0, none⟩ = false ∧ W.frozen? ⟨B + 1 + 1, 1, none⟩ = false) := ⟨⟨h.1.1, h.1.2.1, h.1.2.2.1, h.1.2.2.2.1⟩, ⟨h.2.1.1, h.2.1.2.1, h.2.1.2.2.1, h.2.1.2.2.2.1⟩, ⟨h.2.2.1.1, h.2.2.1.2.1, h.2.2.1.2.2.1, h.2.2.1.2.2.2.1⟩⟩
theorem Fr.c4 {W : World} {B : Nat} {s0 s1 s2 s3 : Int} {A0 A1 A2 A3 : Option Addr} {k0 c0 k1 c1 k2 c2 k3 c3 : Nat} (h : Fr W B [⟨s0, A0, k0, c0⟩, ⟨s1, A1, k1, c1⟩, ⟨s2, A2, k2, c2⟩, ⟨s3, A3, k3, c3⟩]) : (W.cell? ⟨B, 0, none⟩ = some (.int .i64 s0) ∧ W.cell? ⟨B, 1, none⟩ = some (.slice A0 k0 c0) ∧ W.frozen? ⟨B, 0, none⟩ = false ∧ W.frozen? ⟨B, 1, none⟩ = false) ∧ (W.cell? ⟨B + 1, 0, none⟩ = some (.int .i64 s1) ∧ W.cell? ⟨B + 1, 1, none⟩ = some (.slice A1 k1 c1) ∧ W.frozen? ⟨B + 1, 0, none⟩ = false ∧ W.frozen? ⟨B + 1, 1, none⟩ = false) ∧ (W.cell? ⟨B + 1 + 1, 0, none⟩ = some (.int .i64 s2) ∧ W.cell? ⟨B + 1 + 1, 1, none⟩ = some (.slice A2 k2 c2) ∧ W.frozen? ⟨B + 1 + 1, 0, none⟩ = false ∧ W.frozen? ⟨B + 1 + 1, 1, none⟩ = false) ∧ (W.cell? ⟨B + 1 + 1 + 1, 0, none⟩ = some (.int .i64 s3) ∧ W.cell? ⟨B + 1 + 1 + 1, 1, none⟩ = some (.slice A3 k3 c3) ∧ W.frozen? ⟨B + 1 + 1 + 1, 0, none⟩ = false ∧ W.frozen? ⟨B + 1 + 1 + 1, 1, none⟩ = false) := ⟨⟨h.1.1, h.1.2.1, h.1.2.2.1, h.1.2.2.2.1⟩, ⟨h.2.1.1, h.2.1.2.1, h.2.1.2.2.1, h.2.1.2.2.2.1⟩, ⟨h.2.2.1.1, h.2.2.1.2.1, h.2.2.1.2.2.1, h.2.2.1.2.2.2.1⟩, ⟨h.2.2.2.1.1, h.2.2.2.1.2.1, h.2.2.2.1.2.2.1, h.2.2.2.1.2.2.2.1⟩⟩
theorem Fr.c5 {W : World} {B : Nat} {s0 s1 s2 s3 s4 : Int} {A0 A1 A2 A3 A4 : Option Addr} {k0 c0 k1 c1 k2 c2 k3 c3 k4 c4 : Nat} (h : Fr W B [⟨s0, A0, k0, c0⟩, ⟨s1, A1, k1, c1⟩, ⟨s2, A2, k2, c2⟩, ⟨s3, A3, k3, c3⟩, ⟨s4, A4, k4, c4⟩]) : (W.cell? ⟨B, 0, none⟩ = some (.int .i64 s0) ∧ W.cell? ⟨B, 1, none⟩ = some (.slice A0 k0 c0) ∧ W.frozen? ⟨B, 0, none⟩ = false ∧ W.frozen? ⟨B, 1, none⟩ = false) ∧ (W.cell? ⟨B + 1, 0, none⟩ = some (.int .i64 s1) ∧ W.cell? ⟨B + 1, 1, none⟩ = some (.slice A1 k1 c1) ∧ W.frozen? ⟨B + 1, 0, none⟩ = false ∧ W.frozen? ⟨B + 1, 1, none⟩ = false) ∧ (W.cell? ⟨B + 1 + 1, 0, none⟩ = some (.int .i64 s2) ∧ W.cell? ⟨B + 1 + 1, 1, none⟩ = some (.slice A2 k2 c2) ∧ W.frozen? ⟨B + 1 + 1, 0, none⟩ = false ∧ W.frozen? ⟨B + 1 + 1, 1, none⟩ = false) ∧ (W.cell? ⟨B + 1 + 1 + 1, 0, none⟩ = some (.int .i64 s3) ∧ W.cell? ⟨B + 1 + 1 + 1, 1, none⟩ = some (.slice A3 k3 c3) ∧ W.frozen? ⟨B + 1 + 1 + 1, 0, none⟩ = false ∧ W.frozen? ⟨B + 1 + 1 + 1, 1, none⟩ = false) ∧ (W.cell? ⟨B + 1 + 1 + 1 + 1, 0, none⟩ = some (.int .i64 s4) ∧ W.cell? ⟨B + 1 + 1 + 1 + 1, 1, none⟩ = some (.slice A4 k4 c4) ∧ W.frozen? ⟨B + 1 + 1 + 1 + 1, 0, none⟩ = false ∧ W.frozen? ⟨B + 1 + 1 + 1 + 1, 1, none⟩ = false) := ⟨⟨h.1.1, h.1.2.1, h.1.2.2.1, h.1.2.2.2.1⟩, ⟨h.2.1.1, h.2.1.2.1, h.2.1.2.2.1, h.2.1.2.2.2.1⟩, ⟨h.2.2.1.1, h.2.2.1.2.1, h.2.2.1.2.2.1, h.2.2.1.2.2.2.1⟩, ⟨h.2.2.2.1.1, h.2.2.2.1.2.1, h.2.2.2.1.2.2.1, h.2.2.2.1.2.2.2.1⟩, ⟨h.2.2.2.2.1.1, h.2.2.2.2.1.2.1, h.2.2.2.2.1.2.2.1, h.2.2.2.2.1.2.2.2.1⟩⟩
theorem Fr.c6 {W : World} {B : Nat} {s0 s1 s2 s3 s4 s5 : Int} {A0 A1 A2 A3 A4 A5 : Option Addr} {k0 c0 k1 c1 k2 c2 k3 c3 k4 c4 k5 c5 : Nat} (h : Fr W B [⟨s0, A0, k0, c0⟩, ⟨s1, A1, k1, c1⟩, ⟨s2, A2, k2, c2⟩, ⟨s3, A3, k3, c3⟩, ⟨s4, A4, k4, c4⟩, ⟨s5, A5, k5, c5⟩]) : (W.cell? ⟨B, 0, none⟩ = some (.int .i64 s0) ∧ W.cell? ⟨B, 1, none⟩ = some (.slice A0 k0 c0) ∧ W.frozen? ⟨B, 0, none⟩ = false ∧ W.frozen? ⟨B, 1, none⟩ = false) ∧ (W.cell? ⟨B + 1, 0, none⟩ = some (.int .i64 s1) ∧ W.cell? ⟨B + 1, 1, none⟩ = some (.slice A1 k1 c1) ∧ W.frozen? ⟨B + 1, 0, none⟩ = false ∧ W.frozen? ⟨B + 1, 1, none⟩ = false) ∧ (W.cell? ⟨B + 1 + 1, 0, none⟩ = some (.int .i64 s2) ∧ W.cell? ⟨B + 1 + 1, 1, none⟩ = some (.slice A2 k2 c2) ∧ W.frozen? ⟨B + 1 + 1, 0, none⟩ = false ∧ W.frozen? ⟨B + 1 + 1, 1, none⟩ = false) ∧ (W.cell? ⟨B + 1 + 1 + 1, 0, none⟩ = some (.int .i64 s3) ∧ W.cell? ⟨B + 1 + 1 + 1, 1, none⟩ = some (.slice A3 k3 c3) ∧ W.frozen? ⟨B + 1 + 1 + 1, 0, none⟩ = false ∧ W.frozen? ⟨B + 1 + 1 + 1, 1, none⟩ = false) ∧ (W.cell? ⟨B + 1 + 1 + 1 + 1, 0, none⟩ = some (.int .i64 s4) ∧ W.cell? ⟨B + 1 + 1 + 1 + 1, 1, none⟩ = some (.slice A4 k4 c4) ∧ W.frozen? ⟨B + 1 + 1 + 1 + 1, 0, none⟩ = false ∧ W.frozen? ⟨B + 1 + 1 + 1 + 1, 1, none⟩ = false) ∧ (W.cell? ⟨B + 1 + 1 + 1 + 1 + 1, 0, none⟩ = some (.int .i64 s5) ∧ W.cell? ⟨B + 1 + 1 + 1 + 1 + 1, 1, none⟩ = some (.slice A5 k5 c5) ∧ W.frozen? ⟨B + 1 + 1 + 1 + 1 + 1, 0, none⟩ = false ∧ W.frozen? ⟨B + 1 + 1 + 1 + 1 + 1, 1, none⟩ = false) := ⟨⟨h.1.1, h.1.2.1, h.1.2.2.1, h.1.2.2.2.1⟩, ⟨h.2.1.1, h.2.1.2.1, h.2.1.2.2.1, h.2.1.2.2.2.1⟩, ⟨h.2.2.1.1, h.2.2.1.2.1, h.2.2.1.2.2.1, h.2.2.1.2.2.2.1⟩, ⟨h.2.2.2.1.1, h.2.2.2.1.2.1, h.2.2.2.1.2.2.1, h.2.2.2.1.2.2.2.1⟩, ⟨h.2.2.2.2.1.1, h.2.2.2.2.1.2.1, h.2.2.2.2.1.2.2.1, h.2.2.2.2.1.2.2.2.1⟩, ⟨h.2.2.2.2.2.1.1, h.2.2.2.2.2.1.2.1, h.2.2.2.2.2.1.2.2.1, h.2.2.2.2.2.1.2.2.2.1⟩⟩
theorem Fr.c7 {W : World} {B : Nat} {s0 s1 s2 s3 s4 s5 s6 : Int} {A0 A1 A2 A3 A4 A5 A6 : Option Addr} {k0 c0 k1 c1 k2 c2 k3 c3 k4 c4 k5 c5 k6 c6 : Nat} (h : Fr W B [⟨s0, A0, k0, c0⟩, ⟨s1, A1, k1, c1⟩, ⟨s2, A2, k2, c2⟩, ⟨s3, A3, k3, c3⟩, ⟨s4, A4, k4, c4⟩, ⟨s5, A5, k5, c5⟩, ⟨s6, A6, k6, c6⟩]) : (W.cell? ⟨B, 0, none⟩ = some (.int .i64 s0) ∧ W.cell? ⟨B, 1, none⟩ = some (.slice A0 k0 c0) ∧ W.frozen? ⟨B, 0, none⟩ = false ∧ W.frozen? ⟨B, 1, none⟩ = false) ∧ (W.cell? ⟨B + 1, 0, none⟩ = some (.int .i64 s1) ∧ W.cell? ⟨B + 1, 1, none⟩ = some (.slice A1 k1 c1) ∧ W.frozen? ⟨B + 1, 0, none⟩ = false ∧ W.frozen? ⟨B + 1, 1, none⟩ = false) ∧ (W.cell? ⟨B + 1 + 1, 0, none⟩ = some (.int .i64 s2) ∧ W.cell? ⟨B + 1 + 1, 1, none⟩ = some (.slice A2 k2 c2) ∧ W.frozen? ⟨B + 1 + 1, 0, none⟩ = false ∧ W.frozen? ⟨B + 1 + 1, 1, none⟩ = false) ∧ (W.cell? ⟨B + 1 + 1 + 1, 0, none⟩ = some (.int .i64 s3) ∧ W.cell? ⟨B + 1 + 1 + 1, 1, none⟩ = some (.slice A3 k3 c3) ∧ W.frozen? ⟨B + 1 + 1 + 1, 0, none⟩ = false ∧ W.frozen? ⟨B + 1 + 1 + 1, 1, none⟩ = false) ∧ (W.cell? ⟨B + 1 + 1 + 1 + 1, 0, none⟩ = some (.int .i64 s4) ∧ W.cell? ⟨B + 1 + 1 + 1 + 1, 1, none⟩ = some (.slice A4 k4 c4) ∧ W.frozen? ⟨B + 1 + 1 + 1 + 1, 0, none⟩ = false ∧ W.frozen? ⟨B + 1 + 1 + 1 + 1, 1, none⟩ = false) ∧ (W.cell? ⟨B + 1 + 1 + 1 + 1 + 1, 0, none⟩ = some (.int .i64 s5) ∧ W.cell? ⟨B + 1 + 1 + 1 + 1 + 1, 1, none⟩ = some (.slice A5 k5 c5) ∧ W.frozen? ⟨B + 1 + 1 + 1 + 1 + 1, 0, none⟩ = false ∧ W.frozen? ⟨B + 1 + 1 + 1 + 1 + 1, 1, none⟩ = false) ∧ (W.cell? ⟨B + 1 + 1 + 1 + 1 + 1 + 1, 0, none⟩ = some (.int .i64 s6) ∧ W.cell? ⟨B + 1 + 1 + 1 + 1 + 1 + 1, 1, none⟩ = some (.slice A6 k6 c6) ∧ W.frozen? ⟨B + 1 + 1 + 1 + 1 + 1 + 1, 0, none⟩ = false ∧ W.frozen? ⟨B + 1 + 1 + 1 + 1 + 1 + 1, 1, none⟩ = false) := ⟨⟨h.1.1, h.1.2.1, h.1.2.2.1, h.1.2.2.2.1⟩, ⟨h.2.1.1, h.2.1.2.1, h.2.1.2.2.1, h.2.1.2.2.2.1⟩, ⟨h.2.2.1.1, h.2.2.1.2.1, h.2.2.1.2.2.1, h.2.2.1.2.2.2.1⟩, ⟨h.2.2.2.1.1, h.2.2.2.1.2.1, h.2.2.2.1.2.2.1, h.2.2.2.1.2.2.2.1⟩, ⟨h.2.2.2.2.1.1, h.2.2.2.2.1.2.1, h.2.2.2.2.1.2.2.1, h.2.2.2.2.1.2.2.2.1⟩, ⟨h.2.2.2.2.2.1.1, h.2.2.2.2.2.1.2.1, h.2.2.2.2.2.1.2.2.1, h.2.2.2.2.2.1.2.2.2.1⟩, ⟨h.2.2.2.2.2.2.1.1, h.2.2.2.2.2.2.1.2.1, h.2.2.2.2.2.2.1.2.2.1, h.2.2.2.2.2.2.1.2.2.2.1⟩⟩
theorem Fr.c8 {W : World} {B : Nat} {s0 s1 s2 s3 s4 s5 s6 s7 : Int} {A0 A1 A2 A3 A4 A5 A6 A7 : Option Addr} {k0 c0 k1 c1 k2 c2 k3 c3 k4 c4 k5 c5 k6 c6 k7 c7 : Nat} (h : Fr W B [⟨s0, A0, k0, c0⟩, ⟨s1, A1, k1, c1⟩, ⟨s2, A2, k2, c2⟩, ⟨s3, A3, k3, c3⟩, ⟨s4, A4, k4, c4⟩, ⟨s5, A5, k5, c5⟩, ⟨s6, A6, k6, c6⟩, ⟨s7, A7, k7, c7⟩]) : (W.cell? ⟨B, 0, none⟩ = some (.int .i64 s0) ∧ W.cell? ⟨B, 1, none⟩ = some (.slice A0 k0 c0) ∧ W.frozen? ⟨B, 0, none⟩ = false ∧ W.frozen? ⟨B, 1, none⟩ = false) ∧ (W.cell? ⟨B + 1, 0, none⟩ = some (.int .i64 s1) ∧ W.cell? ⟨B + 1, 1, none⟩ = some (.slice A1 k1 c1) ∧ W.frozen? ⟨B + 1, 0, none⟩ = false ∧ W.frozen? ⟨B + 1, 1, none⟩ = false) ∧ (W.cell? ⟨B + 1 + 1, 0, none⟩ = some (.int .i64 s2) ∧ W.cell? ⟨B + 1 + 1, 1, none⟩ = some (.slice A2 k2 c2) ∧ W.frozen? ⟨B + 1 + 1, 0, none⟩ = false ∧ W.frozen? ⟨B + 1 + 1, 1, none⟩ = false) ∧ (W.cell? ⟨B + 1 + 1 + 1, 0, none⟩ = some (.int .i64 s3) ∧ W.cell? ⟨B + 1 + 1 + 1, 1, none⟩ = some (.slice A3 k3 c3) ∧ W.frozen? ⟨B + 1 + 1 + 1, 0, none⟩ = false ∧ W.frozen? ⟨B + 1 + 1 + 1, 1, none⟩ = false) ∧ (W.cell? ⟨B + 1 + 1 + 1 + 1, 0, none⟩ = some (.int .i64 s4) ∧ W.cell? ⟨B + 1 + 1 + 1 + 1, 1, none⟩ = some (.slice A4 k4 c4) ∧ W.frozen? ⟨B + 1 + 1 + 1 + 1, 0, none⟩ = false ∧ W.frozen? ⟨B + 1 + 1 + 1 + 1, 1, none⟩ = false) ∧ (W.cell? ⟨B + 1 + 1 + 1 + 1 + 1, 0, none⟩ = some (.int .i64 s5) ∧ W.cell? ⟨B + 1 + 1 + 1 + 1 + 1, 1, none⟩ = some (.slice A5 k5 c5) ∧ W.frozen? ⟨B + 1 + 1 + 1 + 1 + 1, 0, none⟩ = false ∧ W.frozen? ⟨B + 1 + 1 + 1 + 1 + 1, 1, none⟩ = false) ∧ (W.cell? ⟨B + 1 + 1 + 1 + 1 + 1 + 1, 0, none⟩ = some (.int .i64 s6) ∧ W.cell? ⟨B + 1 + 1 + 1 + 1 + 1 + 1, 1, none⟩ = some (.slice A6 k6 c6) ∧ W.frozen? ⟨B + 1 + 1 + 1 + 1 + 1 + 1, 0, none⟩ = false ∧ W.frozen? ⟨B + 1 + 1 + 1 + 1 + 1 + 1, 1, none⟩ = false) ∧ (W.cell? ⟨B + 1 + 1 + 1 + 1 + 1 + 1 + 1, 0, none⟩ = some (.int .i64 s7) ∧ W.cell? ⟨B + 1 + 1 + 1 + 1 + 1 + 1 + 1, 1, none⟩ = some (.slice A7 k7 c7) ∧ W.frozen? ⟨B + 1 + 1 + 1 + 1 + 1 + 1 + 1, 0, none⟩ = false ∧ W.frozen? ⟨B + 1 + 1 + 1 + 1 + 1 + 1 + 1, 1, none⟩ = false) := ⟨⟨h.1.1, h.1.2.1, h.1.2.2.1, h.1.2.2.2.1⟩, ⟨h.2.1.1, h.2.1.2.1, h.2.1.2.2.1, h.2.1.2.2.2.1⟩, ⟨h.2.2.1.1, h.2.2.1.2.1, h.2.2.1.2.2.1, h.2.2.1.2.2.2.1⟩, ⟨h.2.2.2.1.1, h.2.2.2.1.2.1, h.2.2.2.1.2.2.1, h.2.2.2.1.2.2.2.1⟩, ⟨h.2.2.2.2.1.1, h.2.2.2.2.1.2.1, h.2.2.2.2.1.2.2.1, h.2.2.2.2.1.2.2.2.1⟩, ⟨h.2.2.2.2.2.1.1, h.2.2.2.2.2.1.2.1, h.2.2.2.2.2.1.2.2.1, h.2.2.2.2.2.1.2.2.2.1⟩, ⟨h.2.2.2.2.2.2.1.1, h.2.2.2.2.2.2.1.2.1, h.2.2.2.2.2.2.1.2.2.1, h.2.2.2.2.2.2.1.2.2.2.1⟩, ⟨h.2.2.2.2.2.2.2.1.1, h.2.2.2.2.2.2.2.1.2.1, h.2.2.2.2.2.2.2.1.2.2.1, h.2.2.2.2.2.2.2.1.2.2.2.1⟩⟩
theorem wp_world {P : Program} {c : Code} {Q : Exit → Act → World → Prop} {a : Act} (R : World → Prop) {W : World} (hR : R W) (h : ∀ W', R W' → Code.wp P c Q a W') : Code.wp P c Q a W := h W hR
end Go.Proofs.YtjieekkkaekclaaGreatDoor
namespace Go.Proofs.YtjieekkkaekclaaGreatDoor
open Go Go.RowKit Go.Extern.Stop Go.Stop Go.Extern
theorem asf_valueOf27 (t : Addr) (w : World) : (ReflectliteValue.unpack (.iface 117 (.pointer (some t)))).run Tryz.prog w
    = .ok (.agg #[.pointer (some ⟨7, 117, none⟩), .pointer (some ⟨w.heap.size, 0, none⟩), .int .u64 150]) (w.alloc (.cells #[.pointer (some t)] 117)) := by kernel_rfl
theorem asf_type27 (a : Addr) (w : World) : (ReflectliteValue.methodAny (ReflectliteValue.valueError "reflectlite.Value.Type" 0) (fun t _ _ _ => ReflectliteType.toType t) #[.agg #[.pointer (some ⟨7, 117, none⟩), .pointer (some a), .int .u64 150]]).run Tryz.prog w
    = .ok (.iface 175 (.agg #[.pointer (some ⟨7, 117, none⟩)])) w := by kernel_rfl
theorem asf_methodKind (h : Value) (w : World) : (Go.method 383 175 (.agg #[h]) "Kind").run Tryz.prog w = .ok (218, h) w := by kernel_rfl
theorem asf_kind27 (w : World) : ((ReflectliteType.abiMethod fun t => (fun a : Nat => Value.int IntKind.u8 (a : Int)) <$> Rtype.kind t) #[.pointer (some ⟨7, 117, none⟩)]).run Tryz.prog w = .ok (.int .u8 22) w := by kernel_rfl
theorem asf_kind25 (w : World) : ((ReflectliteType.abiMethod fun t => (fun a : Nat => Value.int IntKind.u8 (a : Int)) <$> Rtype.kind t) #[.pointer (some ⟨7, 115, none⟩)]).run Tryz.prog w = .ok (.int .u8 25) w := by kernel_rfl
theorem rlm (z : Sem Value) (f : TypeId → Addr → Nat → Nat → Sem Value) (v : Value) :
    ReflectliteValue.method z f #[v] = (do match ← ReflectliteValue.parts v with | none => z | some (t, a, fl) => f t a fl (fl % 32)) := rfl
theorem asf_parts27 (a : Addr) (w : World) : (ReflectliteValue.parts (.agg #[.pointer (some ⟨7, 117, none⟩), .pointer (some a), .int .u64 150])).run Tryz.prog w = .ok (some (117, a, 150)) w := by kernel_rfl
theorem asf_isNil27 (a p : Addr) (W : World) (ha : W.cell? a = some (.pointer (some p))) :
    (ReflectliteValue.method (ReflectliteValue.valueError "reflectlite.Value.IsNil" 0) ReflectliteValue.isNil #[.agg #[.pointer (some ⟨7, 117, none⟩), .pointer (some a), .int .u64 150]]).run Tryz.prog W = .ok (.bool false) W := by
  rw [rlm]
  simp only [Sem.run_bind, asf_parts27, Result.andThen]
  simp [ReflectliteValue.isNil, loadVar, isAgg, underlying, Tryz.underlying117, ha, Result.andThen]
theorem asf_methodElem (h : Value) (w : World) : (Go.method 383 175 (.agg #[h]) "Elem").run Tryz.prog w = .ok (266, .agg #[h]) w := by kernel_rfl
theorem asf_methodImplements (h : Value) (w : World) : (Go.method 383 175 (.agg #[h]) "Implements").run Tryz.prog w = .ok (267, .agg #[h]) w := by kernel_rfl
theorem asf_methodAssignableTo (h : Value) (w : World) : (Go.method 383 175 (.agg #[h]) "AssignableTo").run Tryz.prog w = .ok (264, .agg #[h]) w := by kernel_rfl
theorem asf_elem27 (w : World) : (ReflectliteType.method ReflectliteType.elem #[.agg #[.pointer (some ⟨7, 117, none⟩)]]).run Tryz.prog w = .ok (.iface 175 (.agg #[.pointer (some ⟨7, 115, none⟩)])) w := by kernel_rfl
theorem asf_implements25 (w : World) : (ReflectliteType.relation "Implements" ReflectliteType.implements_ #[.agg #[.pointer (some ⟨7, 115, none⟩)], .iface 175 (.agg #[.pointer (some ⟨7, 112, none⟩)])]).run Tryz.prog w = .ok (.bool true) w := by kernel_rfl
theorem asf_typeOf25 (v : Value) (w : World) : (ReflectliteType.typeOf #[.iface 115 v]).run Tryz.prog w = .ok (.iface 175 (.agg #[.pointer (some ⟨7, 115, none⟩)])) w := by kernel_rfl
theorem asf_assignable25 (w : World) : (ReflectliteType.relation "AssignableTo" ReflectliteType.assignableTo #[.agg #[.pointer (some ⟨7, 115, none⟩)], .iface 175 (.agg #[.pointer (some ⟨7, 115, none⟩)])]).run Tryz.prog w = .ok (.bool true) w := by kernel_rfl
theorem asf_valueOf25 (e : Int) (w : World) : (ReflectliteValue.unpack (.iface 115 (.agg #[.int .i64 e]))).run Tryz.prog w
    = .ok (.agg #[.pointer (some ⟨7, 115, none⟩), .pointer (some ⟨w.heap.size, 0, none⟩), .int .u64 153]) (w.alloc (.cells #[.int .i64 e] 115)) := by kernel_rfl
theorem asf_elemOf27 (w : World) : (Rtype.elem? 117).run Tryz.prog w = .ok (some 115) w := by kernel_rfl
theorem asf_mk25 (p : Addr) (w : World) : (ReflectliteValue.mk 115 p ReflectliteValue.flagAddr).run Tryz.prog w = .ok (.agg #[.pointer (some ⟨7, 115, none⟩), .pointer (some p), .int .u64 409]) w := by kernel_rfl
theorem asf_elemV27 (a p : Addr) (W : World) (ha : W.cell? a = some (.pointer (some p))) :
    (ReflectliteValue.method (ReflectliteValue.valueError "reflectlite.Value.Elem" 0) ReflectliteValue.elem #[.agg #[.pointer (some ⟨7, 117, none⟩), .pointer (some a), .int .u64 150]]).run Tryz.prog W
      = .ok (.agg #[.pointer (some ⟨7, 115, none⟩), .pointer (some p), .int .u64 409]) W := by
  rw [rlm]
  simp only [Sem.run_bind, asf_parts27, Result.andThen]
  simp [ReflectliteValue.elem, loadVar, isAgg, underlying, Tryz.underlying117, ha, Result.andThen, asf_elemOf27, asf_mk25]
theorem rls (v x : Value) : ReflectliteValue.set #[v, x] = (do
    let (some (dst, a, fl), some (src, b, _)) := (← ReflectliteValue.parts v, ← ReflectliteValue.parts x)
      | unsupported (.noEntry "extern/(internal/reflectlite.Value).Set.zeroValue")
    if fl / ReflectliteValue.flagAddr % 2 == 0 then unsupported (.noEntry "extern/(internal/reflectlite.Value).Set.unaddressable")
    let val ← loadVar src b
    if ← Rtype.directlyAssignable dst src then storeVar dst a val
    else if ← Rtype.implements dst src then
      if (← Rtype.kind src) == 20 then
        match val with
        | .nilIface => unsupported (.noEntry "extern/reflectlite: a nil value of one interface type handed on as a value of another")
        | _ => storeVar dst a val
      else storeVar dst a (.iface src val)
    else panicString ("reflectlite.Set: value of type " ++ (← Rtype.spelt src) ++ " is not assignable to type " ++ (← Rtype.spelt dst))
    pure (.tuple #[])) := rfl
theorem asf_parts25a (a : Addr) (w : World) : (ReflectliteValue.parts (.agg #[.pointer (some ⟨7, 115, none⟩), .pointer (some a), .int .u64 409])).run Tryz.prog w = .ok (some (115, a, 409)) w := by kernel_rfl
theorem asf_parts25 (a : Addr) (w : World) : (ReflectliteValue.parts (.agg #[.pointer (some ⟨7, 115, none⟩), .pointer (some a), .int .u64 153])).run Tryz.prog w = .ok (some (115, a, 153)) w := by kernel_rfl
theorem asf_direct25 (w : World) : (Rtype.directlyAssignable 115 115).run Tryz.prog w = .ok true w := by kernel_rfl
theorem asf_size25 (w : World) : (sizeOf 115).run Tryz.prog w = .ok 1 w := by kernel_rfl
theorem asf_set25 (e : Int) (ta b : Addr) (old : Value) (W : World) (hb : W.cell? b = some (.int .i64 e)) (ht : W.cell? ta = some old) (hf : W.frozen? ta = false) :
    (ReflectliteValue.set #[.agg #[.pointer (some ⟨7, 115, none⟩), .pointer (some ta), .int .u64 409], .agg #[.pointer (some ⟨7, 115, none⟩), .pointer (some b), .int .u64 153]]).run Tryz.prog W
      = .ok (.tuple #[]) (W.setCell ta (.int .i64 e)) := by
  rw [rls]
  have hl : (loadCells b 1).run Tryz.prog W = .ok #[.int .i64 e] W := by
    have hz : W.cell? (b.add 0) = some (.int .i64 e) := hb
    have h := run_loadCells (P := Tryz.prog) W b 1 (fun _ => .int .i64 e) (fun j hj => by
      obtain rfl : j = 0 := by omega
      exact hz)
    exact h
  have hlv : (loadVar 115 b).run Tryz.prog W = .ok (.agg #[.int .i64 e]) W := by
    simp [loadVar, isAgg, underlying, Tryz.underlying115, asf_size25, hl, Result.andThen]
  have hst := run_store Tryz.prog W ta (.int .i64 e) .plain (by rfl)
  rw [ht] at hst
  simp only [hf] at hst
  have hsv : (storeVar 115 ta (.agg #[.int .i64 e])).run Tryz.prog W = .ok () (W.setCell ta (.int .i64 e)) := by
    simp [storeVar, asf_size25, Value.cells, storeCells, Addr.add, Result.andThen]
    simpa using hst
  simp only [Sem.run_bind, asf_parts25a, asf_parts25, Result.andThen]
  simp [ReflectliteValue.flagAddr, Result.andThen, hlv, asf_direct25, hsv]
end Go.Proofs.YtjieekkkaekclaaGreatDoor
namespace Go.Proofs.YtjieekkkaekclaaGreatDoor
open Go Go.RowKit Go.Extern.Stop Go.Stop Go.Extern
set_option maxHeartbeats 4000000 in
theorem as_hit (e : Int) (t : Addr) (old : Value) (w : World) (hg : w.cell? ⟨0, 0, none⟩ = some (.iface 175 (.agg #[.pointer (some ⟨7, 112, none⟩)]))) (ht0 : w.cell? t = some old) (hf0 : w.frozen? t = false) :
    Calls Tryz.prog 124 #[.iface 115 (.agg #[.int .i64 e]), .iface 117 (.pointer (some t))] w fun ev w' => ev = .returned (.bool true) ∧ w' = ((((w.alloc (.cells #[.pointer (some t)] 117)).alloc (.cells #[.pointer (some ⟨7, 117, none⟩), .pointer (some ⟨w.heap.size, 0, none⟩), .int .u64 150] 148)).alloc (.cells #[.pointer (some ⟨7, 117, none⟩), .pointer (some ⟨w.heap.size, 0, none⟩), .int .u64 150] 148)).alloc (.cells #[.int .i64 e] 115)).setCell t (.int .i64 e) := by
  have h6 := @run_callFunc_extern Tryz.prog 147 _ (fun args => ReflectliteValue.unpack (args.getD 0 (.tuple #[]))) Tryz.func147 (by kernel_rfl) (by kernel_rfl) (by kernel_rfl) (by kernel_rfl)
  have h7 := @run_callFunc_extern Tryz.prog 148 _ (ReflectliteValue.methodAny (ReflectliteValue.valueError "reflectlite.Value.Type" 0) (fun t _ _ _ => ReflectliteType.toType t)) Tryz.func148 (by kernel_rfl) (by kernel_rfl) (by kernel_rfl) (by kernel_rfl)
  have h8 := @run_callFunc_extern Tryz.prog 149 _ (ReflectliteValue.method (ReflectliteValue.valueError "reflectlite.Value.IsNil" 0) ReflectliteValue.isNil) Tryz.func149 (by kernel_rfl) (by kernel_rfl) (by kernel_rfl) (by kernel_rfl)
  have h27 := @run_callFunc_extern Tryz.prog 218 _ (ReflectliteType.abiMethod fun t => do pure (.int .u8 (← Rtype.kind t))) Tryz.func218 (by kernel_rfl) (by kernel_rfl) (by kernel_rfl) (by kernel_rfl)
  have h37 := @run_callFunc_extern Tryz.prog 266 _ (ReflectliteType.method ReflectliteType.elem) Tryz.func266 (by kernel_rfl) (by kernel_rfl) (by kernel_rfl) (by kernel_rfl)
  have h38 := @run_callFunc_extern Tryz.prog 267 _ (ReflectliteType.relation "Implements" ReflectliteType.implements_) Tryz.func267 (by kernel_rfl) (by kernel_rfl) (by kernel_rfl) (by kernel_rfl)
  have h10 := @run_callFunc_extern Tryz.prog 166 _ ReflectliteType.typeOf Tryz.func166 (by kernel_rfl) (by kernel_rfl) (by kernel_rfl) (by kernel_rfl)
  have h35 := @run_callFunc_extern Tryz.prog 264 _ (ReflectliteType.relation "AssignableTo" ReflectliteType.assignableTo) Tryz.func264 (by kernel_rfl) (by kernel_rfl) (by kernel_rfl) (by kernel_rfl)
  have h11 := @run_callFunc_extern Tryz.prog 167 _ (ReflectliteValue.method (ReflectliteValue.valueError "reflectlite.Value.Elem" 0) ReflectliteValue.elem) Tryz.func167 (by kernel_rfl) (by kernel_rfl) (by kernel_rfl) (by kernel_rfl)
  have h12 := @run_callFunc_extern Tryz.prog 168 _ ReflectliteValue.set Tryz.func168 (by kernel_rfl) (by kernel_rfl) (by kernel_rfl) (by kernel_rfl)
  have tO := asf_typeOf25
  have mA := asf_methodAssignableTo
  have a25 := asf_assignable25
  have v25 := asf_valueOf25
  have f6 := asf_valueOf27
  have f7 := asf_type27
  have mK := asf_methodKind
  have mE := asf_methodElem
  have mI := asf_methodImplements
  have k27 := asf_kind27
  have k25 := asf_kind25
  have e27 := asf_elem27
  have i25 := asf_implements25
  have n8 := asf_isNil27 ⟨w.heap.size, 0, none⟩ t ((w.alloc (.cells #[.pointer (some t)] 117)).alloc (.cells #[.pointer (some ⟨7, 117, none⟩), .pointer (some ⟨w.heap.size, 0, none⟩), .int .u64 150] 148)) (by simp)
  have hlt : 0 < w.heap.size := by
    rcases Nat.eq_zero_or_pos w.heap.size with h0 | h
    · simp [World.cell?, h0] at hg
    · exact h
  have hg2 : ((w.alloc (.cells #[.pointer (some t)] 117)).alloc (.cells #[.pointer (some ⟨7, 117, none⟩), .pointer (some ⟨w.heap.size, 0, none⟩), .int .u64 150] 148)).cell? ⟨0, 0, none⟩ = some (.iface 175 (.agg #[.pointer (some ⟨7, 112, none⟩)])) := by
    rw [World.cell?_alloc_lt _ _ ⟨0, 0, none⟩ (by simp), World.cell?_alloc_lt _ _ ⟨0, 0, none⟩ hlt]; exact hg
  have htl : t.block < w.heap.size := by
    rcases Nat.lt_or_ge t.block w.heap.size with h | h
    · exact h
    · simp [World.cell?, Array.getElem?_eq_none h] at ht0
  have el := asf_elemV27 ⟨w.heap.size, 0, none⟩ t (((w.alloc (.cells #[.pointer (some t)] 117)).alloc (.cells #[.pointer (some ⟨7, 117, none⟩), .pointer (some ⟨w.heap.size, 0, none⟩), .int .u64 150] 148)).alloc (.cells #[.pointer (some ⟨7, 117, none⟩), .pointer (some ⟨w.heap.size, 0, none⟩), .int .u64 150] 148)) (by rw [World.cell?_alloc_lt _ _ ⟨w.heap.size, 0, none⟩ (by simp; omega)]; simp)
  have st := asf_set25 e t ⟨w.heap.size + 1 + 1 + 1, 0, none⟩ old ((((w.alloc (.cells #[.pointer (some t)] 117)).alloc (.cells #[.pointer (some ⟨7, 117, none⟩), .pointer (some ⟨w.heap.size, 0, none⟩), .int .u64 150] 148)).alloc (.cells #[.pointer (some ⟨7, 117, none⟩), .pointer (some ⟨w.heap.size, 0, none⟩), .int .u64 150] 148)).alloc (.cells #[.int .i64 e] 115))
    (by rw [World.cell?_alloc_at _ _ _ _ (by simp)]; rfl)
    (by rw [World.cell?_alloc_lt _ _ t (by simp; omega), World.cell?_alloc_lt _ _ t (by simp; omega), World.cell?_alloc_lt _ _ t (by simp; omega), World.cell?_alloc_lt _ _ t htl]; exact ht0)
    (by rw [World.frozen?_alloc_old _ _ t (by simp; omega), World.frozen?_alloc_old _ _ t (by simp; omega), World.frozen?_alloc_old _ _ t (by simp; omega), World.frozen?_alloc_old _ _ t (Nat.ne_of_lt htl)]; exact hf0)
  go_enter Tryz.func124, Tryz.ntmps124
  go_wp2
  refine wp_loop_rounds 1 ?_
  rw [rounds_succ]
  go_wp2
  go_ret
  exact ⟨rfl, rfl⟩
end Go.Proofs.YtjieekkkaekclaaGreatDoor
namespace Go.Proofs.YtjieekkkaekclaaGreatDoor
open Go Go.RowKit Go.Proofs.YtjieekkkaekclaaGreatDoorW.PrintWords
abbrev Ety (w : World) : Prop := w.cell? ⟨0, 0, none⟩ = some (.iface 175 (.agg #[.pointer (some ⟨7, 112, none⟩)]))
abbrev wrg (c : Int) : Value := .iface 115 (.agg #[.int .i64 c])
abbrev thrown (c : Int) : List PanicEntry := [{ v := wrg c, recovered := false }]
theorem fail_no (c : Int) (w : World) : Calls Tryz.prog 86 #[.bool false, .int .i64 c] w fun e w' => e = .returned (.tuple #[]) ∧ w' = w := by
  go_enter Tryz.func86, Tryz.ntmps86
  go_wp2
  go_end0
  exact ⟨rfl, rfl⟩
theorem fail_yes (c : Int) (w : World) : Calls Tryz.prog 86 #[.bool true, .int .i64 c] w fun e w' => e = .panicked (thrown c) ∧ w' = w := by
  go_enter Tryz.func86, Tryz.ntmps86
  go_wp2
  exact ⟨rfl, rfl, rfl⟩
theorem ta_nil (w : World) : (Instr.typeAssert .nilIface 20 112 true).run Tryz.prog w = .ok (.tuple #[.nilIface, .bool false]) w := by kernel_rfl
theorem ta_wrg (v : Value) (xT : TypeId) (w : World) : (Instr.typeAssert (.iface 115 v) xT 112 true).run Tryz.prog w = .ok (.tuple #[.iface 115 v, .bool true]) w :=
  run_typeAssert_hasB Tryz.underlying112 (by kernel_rfl) v xT w
set_option maxRecDepth 100000 in
set_option maxHeartbeats 1600000 in
theorem caught_nil (w : World) : Calls Tryz.prog 68 #[.nilIface] w fun e w' => e = .returned (.int .i64 0) ∧ w' = w := by
  have h1 := ta_nil
  go_enter Tryz.func68, Tryz.ntmps68
  go_wp2
  go_ret
  exact ⟨rfl, rfl⟩
set_option maxRecDepth 100000 in
set_option maxHeartbeats 1600000 in
theorem caught_wrg (c : Int) (w : World) (hg : Ety w) : Calls Tryz.prog 68 #[wrg c] w fun e w' => e = .returned (.int .i64 c) ∧ Below w.heap.size w w' := by
  have h1 := ta_wrg
  dsimp only [wrg]
  have hlt : 0 < w.heap.size := by
    rcases Nat.eq_zero_or_pos w.heap.size with h0 | h
    · have hg' : w.cell? ⟨0, 0, none⟩ = some _ := hg
      simp [World.cell?, h0] at hg'
    · exact h
  have hg2 := Lib.hid (show Ety (w.alloc (.cells #[.int .i64 0] 115)) by rw [Ety, World.cell?_alloc_lt _ _ ⟨0, 0, none⟩ hlt]; exact hg)
  clear hg
  go_enter Tryz.func68, Tryz.ntmps68
  go_wp2_with (first | (go_at_call 124; refine (as_hit c ⟨w.heap.size, 0, none⟩ (.int .i64 0) _ hg2.out (by simp) (by simp)).mono ?_; rintro e w1 ⟨rfl, rfl⟩))
  go_ret
  refine ⟨rfl, ?_⟩
  exact (((((Below.refl _ w).alloc (Nat.le_refl _) _).alloc (by simp only [World.size_alloc]; omega) _).alloc (by simp only [World.size_alloc]; omega) _).alloc (by simp only [World.size_alloc]; omega) _).alloc (by simp only [World.size_alloc]; omega) _
abbrev doorCode (s1 : String) : Code := Code.region 0
  #[{ dst := some 1, op := Op.call { callee := Callee.builtin Builtin.recover, args := #[], argTypes := #[] }, type := 20, pos := s1, after := #[], guard := none },
    { dst := some 2, op := Op.call { callee := Callee.value (Operand.func 68), args := #[Operand.tmp 1], argTypes := #[20] }, type := 28, pos := s1,
      after := #[{ on := 0, ground := Ground.data }, { on := 0, ground := Ground.chain }], guard := none },
    { dst := none, op := Op.store 28 (Operand.tmp 0) (Operand.tmp 2), type := 0, pos := s1,
      after := #[{ on := 1, ground := Ground.data }, { on := 1, ground := Ground.chain }, { on := 0, ground := Ground.phase }, { on := 1, ground := Ground.phase }], guard := none }] false
theorem door_idle {K : FuncId} {fn : Func} {s1 : String} (hf : Tryz.prog.funcs[K]? = some fn) (hb : fn.body = some (doorCode s1)) (hn : fn.ntmps = 3) (hr : fn.results = #[]) (p : Addr) (x : Value) (w : World) (hc : w.cell? p = some x) (hz : w.frozen? p = false) :
    CallsD Tryz.prog K #[.pointer (some p)] .returning w fun e u' w' => e = .returned (.tuple #[]) ∧ u' = .returning ∧ w' = w.setCell p (.int .i64 0) := by
  refine callsD_of_wpS hf hb fun c₀ cs hu => ?_
  apply wpS_region
  simp [wpOpsS, go_sem, recoverD, hu, hn, Exit.thenS]
  refine (caught_nil w).mono ?_
  rintro e w' ⟨rfl, rfl⟩
  simp [wpOpsS, go_sem, hc, hz, bodyPostS, results, hr]
  cases c₀
  simp_all
theorem door_panicking {K : FuncId} {fn : Func} {s1 : String} (hf : Tryz.prog.funcs[K]? = some fn) (hb : fn.body = some (doorCode s1)) (hn : fn.ntmps = 3) (hr : fn.results = #[]) (p : Addr) (x : Value) (c : Int) (w : World) (hg : Ety w) (hp : p.block < w.heap.size) (hc : w.cell? p = some x) (hz : w.frozen? p = false) :
    CallsD Tryz.prog K #[.pointer (some p)] (.panicking (thrown c)) w fun e u' w' => e = .returned (.tuple #[]) ∧ u' = .panicking [{ v := wrg c, recovered := true }] ∧ ∃ w1, Below w.heap.size w w1 ∧ w' = w1.setCell p (.int .i64 c) := by
  refine callsD_of_wpS hf hb fun c₀ cs hu => ?_
  apply wpS_region
  simp [wpOpsS, go_sem, recoverD, hu, hn, Exit.thenS]
  refine (caught_wrg c w hg).mono ?_
  rintro e w' ⟨rfl, hbw⟩
  have hc' : w'.cell? p = some x := by rw [← hc]; exact hbw.cell hp
  have hz' : w'.frozen? p = false := by rw [← hz]; exact hbw.frozen hp
  simp [wpOpsS, go_sem, hc', hz', bodyPostS, results, hr]
  exact ⟨w', hbw, rfl⟩
end Go.Proofs.YtjieekkkaekclaaGreatDoor
