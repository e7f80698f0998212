/- Lemmas for the claim beside this text. -/
import Derived.Test.YtjieekkkaekclaaGreatDoorZPAU
import Derived.Test.YtjieekkkaekclaaGreatDoorZPAW
import Derived.Laws.BytesArg
set_option linter.all false
set_option linter.unusedVariables false
set_option linter.unusedSimpArgs false
namespace Go.Proofs.YtjieekkkaekclaaGreatDoor
open Go Go.RowKit Go.Proofs.YtjieekkkaekclaaGreatDoorW.PrintWords
def IsU8 (x : Value) : Prop := ∃ q, x = .int .u8 q
theorem not_u8_i64 (q : Int) : ¬ IsU8 (.int .i64 q) := fun ⟨_, h⟩ => by cases h
theorem not_u8_u32 (q : Int) : ¬ IsU8 (.int .u32 q) := fun ⟨_, h⟩ => by cases h
theorem not_u8_slice (A : Option Addr) (k c : Nat) : ¬ IsU8 (.slice A k c) := fun ⟨_, h⟩ => by cases h
def Zone (w : World) (g : Nat) : Prop := ∃ cur, w.heap[g]? = some (.cells cur 5 (0, 0)) ∧ ∀ x ∈ cur.toList, IsU8 x
theorem Zone.cell {w : World} {g : Nat} (h : Zone w g) {p : Addr} (hp : p.block = g) {x : Value} (hc : w.cell? p = some x) : IsU8 x := by
  obtain ⟨cur, h1, h2⟩ := h
  unfold World.cell? at hc
  rw [hp, h1] at hc
  dsimp only at hc
  split at hc
  · cases hc
  · obtain ⟨hl, he⟩ := Array.getElem?_eq_some_iff.1 hc
    exact h2 x (by rw [← he]; exact Array.getElem_mem_toList hl)
theorem Zone.of_block {w w' : World} {g : Nat} (h : Zone w g) (he : w'.heap[g]? = w.heap[g]?) : Zone w' g := by
  obtain ⟨cur, h1, h2⟩ := h
  exact ⟨cur, he.trans h1, h2⟩
structure Bts (w : World) (base : Nat) (v : Value) (xs : List Int) : Prop where
  own : w.ownsRow base 5 1 v xs.length (xs.map (Value.int .u8))
  zone : ∀ g, v.ownBlock = some g → Zone w g
theorem Bts.nil (w : World) (base : Nat) : Bts w base (.slice none 0 0) [] := ⟨World.ownsRow_nil w base _ 1, fun g h => by cases h⟩
section
variable {w w' : World} {base : Nat} {v : Value} {xs : List Int}
theorem Bts.ne (h : Bts w base v xs) {p : Addr} {x : Value} (hc : w.cell? p = some x) (hx : ¬ IsU8 x) : some p.block ≠ v.ownBlock := fun e => hx ((h.zone p.block e.symm).cell rfl hc)
theorem Bts.kept {row : Option Nat} (h : Bts w base v xs) (hg : w.grownBy w' row) (hne : v.ownBlock = none ∨ v.ownBlock ≠ row) : Bts w' base v xs := by
  refine ⟨h.own.kept hg hne, fun g e => ?_⟩
  have hl := h.own.lt g e
  refine (h.zone g e).of_block (hg.block g hl.2 ?_)
  rcases hne with h0 | h0
  · rw [h0] at e; cases e
  · rw [e] at h0; exact h0
theorem Bts.below (h : Bts w base v xs) (hb : Below w.heap.size w w') : Bts w' base v xs :=
  h.kept (row := none) ⟨hb.os, hb.tape, hb.output, hb.size, fun k hk _ => hb.block k hk⟩ (by cases hv : v.ownBlock <;> simp)
theorem Bts.set (h : Bts w base v xs) {p : Addr} {x : Value} (hc : w.cell? p = some x) (hx : ¬ IsU8 x) (y : Value) : Bts (w.setCell p y) base v xs := by
  refine h.kept (row := some p.block) ⟨rfl, rfl, rfl, (KeepsWalks.setCell w _ y).size, fun k _ hk => Below.heap_setCell _ _ _ k (fun e => hk (by rw [e]))⟩ (.inr fun e => h.ne hc hx e.symm)
theorem Bts.putN (h : Bts w base v xs) {b : Nat} (hb : Bx1 w b) (s : Int) (A : Option Addr) (k c : Nat) : Bts (putN w b s A k c) base v xs := by
  obtain ⟨s', A', k', c', n', hN⟩ := hb
  have h1 := h.set hN.c0 (not_u8_i64 _) (.int .i64 s)
  refine h1.set (x := .slice A' k' c') ?_ (not_u8_slice _ _ _) _
  rw [World.cell?_setCell_other _ _ _ _ (by simp)]
  exact hN.c1
def KU (w w' : World) : Prop := w.heap.size ≤ w'.heap.size ∧ ∀ p x, w.cell? p = some x → ¬ IsU8 x → w'.cell? p = some x ∧ w'.frozen? p = w.frozen? p
theorem Bts.ku (h : Bts w base v xs) (hg : w.grownBy w' v.ownBlock) : KU w w' := by
  refine ⟨hg.size, fun p x hc hx => ?_⟩
  have hne := h.ne hc hx
  have hlt : p.block < w.heap.size := by
    unfold World.cell? at hc
    rcases Nat.lt_or_ge p.block w.heap.size with h | h
    · exact h
    · rw [Array.getElem?_eq_none h] at hc; cases hc
  have hb := hg.block _ hlt hne
  exact ⟨(World.cell?_of_block hb).trans hc, World.frozen?_of_block hb⟩
theorem NumAt.ku {s : Int} {A : Option Addr} {k c : Nat} {m : Int} (h : NumAt w s A k c m) (hc : KU w w') : NumAt w' s A k c m := by
  refine ⟨h.sign, h.len, h.cap, Kd.C_of_reads (d := 0) ⟨h.reads.1, h.reads.2.1, fun h0 => ?_⟩⟩
  obtain ⟨ad, e, _⟩ := Kd.at_int h.reads 0 (by omega) (by omega)
  refine ⟨ad, e, fun j hj => ?_⟩
  obtain ⟨ad', e', hcj⟩ := Kd.at_int h.reads j (by omega) (by omega)
  obtain rfl : ad = ad' := by rw [e] at e'; simpa using e'
  simp only [Int.toNat_natCast, rd] at hcj
  exact (hc.2 _ _ hcj (not_u8_u32 _)).1
theorem Nb.ku {b : Nat} {s : Int} {A : Option Addr} {k c : Nat} {m : Int} (h : Nb w b s A k c m) (hc : KU w w') : Nb w' b s A k c m := by
  have h0 := hc.2 _ _ h.c0 (not_u8_i64 _)
  have h1 := hc.2 _ _ h.c1 (not_u8_slice _ _ _)
  exact ⟨h0.1, h1.1, h0.2.trans h.f0, h1.2.trans h.f1, Nat.lt_of_lt_of_le h.lt hc.1, h.num.ku hc⟩
theorem Bn.ku {b : Nat} {m : Int} (h : Bn w b m) (hc : KU w w') : Bn w' b m := by
  obtain ⟨s, A, k, c, h⟩ := h
  exact ⟨s, A, k, c, h.ku hc⟩
end
theorem info_u8 : (Tryz.prog.info? 5).map (fun i => (i.zero, i.size, i.bytes)) = some (some (.int .u8 0), 1, 1) := by kernel_rfl
theorem zeros_u8 (n : Nat) : ∀ x ∈ (Builtin.zeroCells (Value.cells (.int .u8 0)) n).toList, IsU8 x := by
  intro x hx
  simp only [Builtin.zeroCells, Array.toList_map, List.mem_map] at hx
  obtain ⟨i, _, rfl⟩ := hx
  refine ⟨0, ?_⟩
  have h : i % (Value.cells (.int .u8 0)).size = 0 := by
    have : (Value.cells (.int .u8 0)).size = 1 := by decide
    rw [this]; omega
  rw [h]; rfl
theorem run_append_byte (base ty : Nat) (w : World) {v : Value} {xs : List Int} (h : Bts w base v xs) (a : Addr) (q : Int) (hq : w.cell? a = some (.int .u8 q)) (hl : xs.length ≤ 1000000) (hbase : base ≤ w.heap.size) :
    ∃ v' w', (Builtin.append_ #[104, 104] ty #[v, .slice (some a) 1 1]).run Tryz.prog w = .ok v' w' ∧ Bts w' base v' (xs ++ [q]) ∧ w.grownBy w' v.ownBlock := by
  obtain ⟨i, hi, hzz⟩ := Option.map_eq_some_iff.1 info_u8
  simp only [Prod.mk.injEq] at hzz
  obtain ⟨hz0, hz1, hz2⟩ := hzz
  have ht : Tryz.prog.underlying 104 = some (.slice 5) := by kernel_rfl
  have hnews : ∀ j u, [Value.int .u8 q][j]? = some u → w.cell? (a.add j) = some u := by
    intro j u hj
    cases j with
    | zero => simp at hj; subst hj; rw [← hq]; first | rfl | (congr 1; unfold Addr.add; split <;> simp_all)
    | succ j => simp at hj
  obtain ⟨v', w', hrun, hown, hg, _⟩ := run_append_own (P := Tryz.prog) w base 104 ty 5 i (.int .u8 0) 1 1 ht hi hz0 hz1 hz2 (by decide) (by decide) v xs.length (xs.map (Value.int .u8)) h.own a 1 1 [.int .u8 q] rfl hnews
    (by intro u hu; rw [List.mem_singleton] at hu; subst hu; rfl) (by simp only [maxLen]; omega) (by omega) hbase
  refine ⟨v', w', hrun, ⟨by simpa using hown, fun g e => ?_⟩, hg⟩
  rcases h.own.2 with ⟨rfl, h0⟩ | ⟨g0, cap, cur, rfl, hbg, hg0, hnc, hcm, hcs, htake⟩
  · obtain rfl : xs = [] := List.eq_nil_of_length_eq_zero h0
    have hr := run_append_nil (P := Tryz.prog) w 104 ty 5 i (.int .u8 0) ht hi hz0 a 1 1 [.int .u8 q] (by rw [hz1]; rfl) hnews (by omega) (by omega) (by rw [hz2]; omega)
    rw [hr] at hrun
    simp only [Result.ok.injEq] at hrun
    obtain ⟨rfl, rfl⟩ := hrun
    simp only [Value.ownBlock, Option.some.injEq] at e
    subst e
    refine ⟨_, heap_alloc_new w.drew _, fun x hx => ?_⟩
    simp only [Array.toList_append, List.mem_append, List.mem_singleton] at hx
    rcases hx with rfl | hx
    · exact ⟨q, rfl⟩
    · exact zeros_u8 _ x hx
  · have hcell : ∀ j u, (xs.map (Value.int .u8))[j]? = some u → w.cell? ((⟨g0, 0, none⟩ : Addr).add j) = some u := h.own.cells (g := g0) rfl
    obtain ⟨cur', hz, hzu⟩ := h.zone g0 rfl
    obtain rfl : cur = cur' := by rw [hg0] at hz; simpa using hz
    by_cases hroom : xs.length + 1 ≤ cap
    · have hr := run_append_room (P := Tryz.prog) w 104 ty 5 i ht hi g0 xs.length cap cur hg0 a 1 1 [.int .u8 q] (by rw [hz1]; rfl) hnews (by intro u hu; rw [List.mem_singleton] at hu; subst hu; rfl) hroom (by rw [hz1, hcs]; simp; omega)
      rw [hr] at hrun
      simp only [Result.ok.injEq] at hrun
      obtain ⟨rfl, rfl⟩ := hrun
      simp only [Value.ownBlock, Option.some.injEq] at e
      subst e
      refine ⟨_, setRow_heap w g0 cur _ _ _ hg0, fun x hx => ?_⟩
      simp only [List.mem_append, List.mem_singleton] at hx
      rcases hx with (hx | rfl) | hx
      · exact hzu x (List.mem_of_mem_take hx)
      · exact ⟨q, rfl⟩
      · exact hzu x (List.mem_of_mem_drop hx)
    · have hr := run_append_grow (P := Tryz.prog) w 104 ty 5 i (.int .u8 0) ht hi hz0 ⟨g0, 0, none⟩ xs.length cap (xs.map (Value.int .u8)) (by rw [hz1]; simp) hcell a 1 1 [.int .u8 q] (by rw [hz1]; rfl) hnews (by omega) (by omega) (growslice_fits (by omega) (by rw [hz2]; omega))
      rw [hr] at hrun
      simp only [Result.ok.injEq] at hrun
      obtain ⟨rfl, rfl⟩ := hrun
      simp only [Value.ownBlock, Option.some.injEq] at e
      subst e
      refine ⟨_, heap_alloc_new w.drew _, fun x hx => ?_⟩
      simp only [Array.toList_append, List.mem_append, List.mem_map, List.mem_singleton] at hx
      rcases hx with (⟨y, _, rfl⟩ | rfl) | hx
      · exact ⟨y, rfl⟩
      · exact ⟨q, rfl⟩
      · exact zeros_u8 _ x hx
theorem step_append_byte {ops : Array Oper} {o : Oper} {a : Act} {Q : Exit → Act → World → Prop} {Kc : Act → World → Prop} {W : World} (base : Nat) (hw : Region.wanted o (yielded ops a.tmps) = true) (s x : Operand)
    (ho : o.op = .call { callee := .builtin .append, args := #[s, x], argTypes := #[104, 104] }) (v : Value) (xs : List Int) (q : Int) (hs : a.eval s = v) (hx : a.eval x = .slice (some ⟨W.heap.size, 0, none⟩) 1 1)
    (h : Bts W base v xs) (hbase : base ≤ W.heap.size) (hl : xs.length ≤ 1000000)
    (k : ∀ v1 w1, Bts w1 base v1 (xs ++ [q]) → W.grownBy w1 v.ownBlock → Kc (a.put o.dst v1) w1) :
    if Region.wanted o (yielded ops a.tmps) = true then Oper.wp Tryz.prog o a (W.alloc (.cells #[.int .u8 q] 5)) Kc Q else Kc (a.put o.dst undef) (W.alloc (.cells #[.int .u8 q] 5)) := by
  rw [if_pos hw]
  obtain ⟨v1, w1, hr, hB, hg⟩ := run_append_byte base o.type (W.alloc (.cells #[.int .u8 q] 5)) (h.below (below_alloc (Below.refl _ _) _)) ⟨W.heap.size, 0, none⟩ q (by simp) hl (by simp; omega)
  unfold Oper.wp execOp
  simp only [ho, resolve, invoke, builtin, Sem.run_bind, Sem.run_pure, Result.andThen_ok, List.map_toArray, List.map_cons, List.map_nil, hs, hx, hr]
  exact k v1 w1 hB (World.grownBy.trans (World.grownBy_alloc W _ _) hg)
theorem wp_append_byte {o : Oper} {a : Act} {Q : Exit → Act → World → Prop} {Kc : Act → World → Prop} {W : World} (base : Nat) (s x : Operand)
    (ho : o.op = .call { callee := .builtin .append, args := #[s, x], argTypes := #[104, 104] }) (v : Value) (xs : List Int) (q : Int) (hs : a.eval s = v) (hx : a.eval x = .slice (some ⟨W.heap.size, 0, none⟩) 1 1)
    (h : Bts W base v xs) (hbase : base ≤ W.heap.size) (hl : xs.length ≤ 1000000)
    (k : ∀ v1 w1, Bts w1 base v1 (xs ++ [q]) → W.grownBy w1 v.ownBlock → Kc (a.put o.dst v1) w1) : Oper.wp Tryz.prog o a (W.alloc (.cells #[.int .u8 q] 5)) Kc Q := by
  obtain ⟨v1, w1, hr, hB, hg⟩ := run_append_byte base o.type (W.alloc (.cells #[.int .u8 q] 5)) (h.below (below_alloc (Below.refl _ _) _)) ⟨W.heap.size, 0, none⟩ q (by simp) hl (by simp; omega)
  unfold Oper.wp execOp
  simp only [ho, resolve, invoke, builtin, Sem.run_bind, Sem.run_pure, Result.andThen_ok, List.map_toArray, List.map_cons, List.map_nil, hs, hx, hr]
  exact k v1 w1 hB (World.grownBy.trans (World.grownBy_alloc W _ _) hg)
theorem wpList_append_byte {ops : Array Oper} {rest : List Oper} {o : Oper} {a : Act} {Q : Exit → Act → World → Prop} {W : World} (hgd : o.guard = none) (base : Nat) (s x : Operand)
    (ho : o.op = .call { callee := .builtin .append, args := #[s, x], argTypes := #[104, 104] }) (v : Value) (xs : List Int) (q : Int) (hs : a.eval s = v) (hx : a.eval x = .slice (some ⟨W.heap.size, 0, none⟩) 1 1)
    (h : Bts W base v xs) (hbase : base ≤ W.heap.size) (hl : xs.length ≤ 1000000)
    (k : ∀ v1 w1, Bts w1 base v1 (xs ++ [q]) → W.grownBy w1 v.ownBlock → wpList Tryz.prog ops Q rest (a.put o.dst v1) w1) : wpList Tryz.prog ops Q (o :: rest) a (W.alloc (.cells #[.int .u8 q] 5)) :=
  wpList_plain hgd fun _ hK => wp_append_byte base s x ho v xs q hs hx h hbase hl fun v1 w1 h1 h2 => hK _ _ (k v1 w1 h1 h2)
def BytesAt (w : World) (g : Nat) (f : Nat → Int) (n : Nat) : Prop := g < w.heap.size ∧ ∀ j, j < n → w.cell? ⟨g, j, none⟩ = some (.int .u8 (f j)) ∧ w.frozen? ⟨g, j, none⟩ = false
theorem Bts.open_ {w : World} {base : Nat} {v : Value} {xs : List Int} (h : Bts w base v xs) (h0 : xs ≠ []) : ∃ g cap, v = .slice (some ⟨g, 0, none⟩) xs.length cap ∧ base ≤ g ∧ xs.length ≤ cap ∧ BytesAt w g (fun j => xs.getD j 0) xs.length := by
  rcases h.own.2 with ⟨rfl, h1⟩ | ⟨g, cap, cur, rfl, hbg, hg, hnc, hcm, hcs, htake⟩
  · exact absurd (List.eq_nil_of_length_eq_zero h1) h0
  · refine ⟨g, cap, rfl, hbg, hnc, (Array.getElem?_eq_some_iff.1 hg).1, fun j hj => ⟨?_, by simp [World.frozen?, hg]⟩⟩
    have h2 : cur.toList[j]? = some (.int .u8 (xs.getD j 0)) := by
      have h3 : (cur.toList.take (xs.length * 1))[j]? = some (.int .u8 (xs.getD j 0)) := by
        rw [htake, List.getElem?_map, List.getElem?_eq_getElem hj]; simp [List.getElem?_eq_getElem hj]
      rwa [List.getElem?_take_of_lt (by omega)] at h3
    have h4 : w.cell? ⟨g, j, none⟩ = cur[j]? := by simp [World.cell?, hg]
    rw [h4, ← Array.getElem?_toList]; exact h2
theorem BytesAt.congr {w : World} {g n : Nat} {f f' : Nat → Int} (h : BytesAt w g f n) (he : ∀ j, j < n → f j = f' j) : BytesAt w g f' n := ⟨h.1, fun j hj => by rw [← he j hj]; exact h.2 j hj⟩
theorem BytesAt.set {w : World} {g n : Nat} {f : Nat → Int} (h : BytesAt w g f n) (i : Nat) (hi : i < n) (x : Int) : BytesAt (w.setCell ⟨g, i, none⟩ (.int .u8 x)) g (fun j => if j = i then x else f j) n := by
  refine ⟨by simpa using h.1, fun j hj => ⟨?_, by rw [World.frozen?_setCell]; exact (h.2 j hj).2⟩⟩
  dsimp only
  by_cases e : j = i
  · subst e; rw [if_pos rfl]; exact World.cell?_setCell_same _ _ _ (h.2 j hj).1
  · rw [if_neg e, World.cell?_setCell_other _ _ _ _ (by intro h9; simp at h9; try omega)]; exact (h.2 j hj).1
theorem str_bytes (l : List UInt8) : strOfNums (l.map fun c => (c.toNat : Int)) = ⟨l.toArray⟩ := by
  unfold strOfNums
  congr 2
  rw [List.map_map]
  refine (List.map_congr_left (g := id) fun c _ => ?_).trans (List.map_id l)
  simp
end Go.Proofs.YtjieekkkaekclaaGreatDoor
namespace Mw
def bch (d : Nat) : UInt8 := if d < 10 then UInt8.ofNat (48 + d) else UInt8.ofNat (87 + d)
def brev (b n : Nat) : List UInt8 := if _h : n = 0 ∨ b < 2 then [] else bch (n % b) :: brev b (n / b)
termination_by n
decreasing_by exact Nat.div_lt_self (by omega) (by omega)
theorem brev_zero (b : Nat) : brev b 0 = [] := by rw [brev, dif_pos (.inl rfl)]
theorem brev_pos {b n : Nat} (hb : 2 ≤ b) (hn : n ≠ 0) : brev b n = bch (n % b) :: brev b (n / b) := by rw [brev, dif_neg (by omega)]
def btxt (b n : Nat) : List UInt8 := (brev b n).reverse
theorem brev_len {b : Nat} (hb : 2 ≤ b) : ∀ (k n : Nat), n < 2 ^ k → (brev b n).length ≤ k := by
  intro k
  induction k with
  | zero => intro n h; have : n = 0 := by simpa using h
            subst this; rw [brev_zero]; simp
  | succ k ih =>
    intro n h
    by_cases hn : n = 0
    · subst hn; rw [brev_zero]; simp
    · rw [brev_pos hb hn, List.length_cons]
      have h1 : n / b < 2 ^ k := by
        rw [Nat.div_lt_iff_lt_mul (by omega)]
        rw [Nat.pow_succ] at h
        exact Nat.lt_of_lt_of_le h (Nat.mul_le_mul_left _ hb)
      have := ih _ h1
      omega
end Mw
