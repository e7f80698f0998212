/- Lemmas for the claim beside this text. -/
import Derived.Test.YtjieekkkaekclaaGreatDoorZPAS
set_option linter.all false
set_option linter.unusedVariables false
set_option linter.unusedSimpArgs false
namespace Go.Proofs.YtjieekkkaekclaaGreatDoor
open Go Go.RowKit Go.Proofs.YtjieekkkaekclaaGreatDoorW.PrintWords
def Mw.terr (l : List UInt8) : Int := if Mw.okf l = true then (if 400 < (Mw.unm l).length then 13 else 0) else 1
def Mw.gerr (n : Int) : Int := if 400 < (Mw.dtxt n.natAbs).length then 13 else 0
theorem trim_calls (l : List UInt8) (s : ByteArray) (h : s.data.toList = l) (W : World) : Calls Tryz.prog 121 #[.string s, .string ⟨#[45]⟩] W fun e w' => e = .returned (.string ⟨(Mw.unm l).toArray⟩) ∧ w' = W := by
  refine (Tryz.strings_TrimPrefix s ⟨#[45]⟩ W).mono ?_
  rintro e w' ⟨rfl, rfl⟩
  exact ⟨by rw [show ({ data := #[45] } : ByteArray).data.toList = [45] from rfl, trim_minus, h], rfl⟩
theorem form_is (s : ByteArray) (w : World) (b : Bool) (h : Mw.okf s.data.toList = b) : Calls Tryz.prog 125 #[.string s] w fun e w' => e = .returned (.bool b) ∧ Below w.heap.size w w' := by
  rw [← h]; exact form_any s w
theorem fail_f (b : Bool) (c : Int) (w : World) (h : b = false) : Calls Tryz.prog 86 #[.bool b, .int .i64 c] w fun e w' => e = .returned (.tuple #[]) ∧ w' = w := by
  subst h; exact fail_no c w
theorem fail_t (b : Bool) (c : Int) (w : World) (h : b = true) : Calls Tryz.prog 86 #[.bool b, .int .i64 c] w fun e w' => e = .panicked (thrown c) ∧ w' = w := by
  subst h; exact fail_yes c w
set_option maxRecDepth 100000 in
set_option maxHeartbeats 1600000 in
theorem taken_ok (s : ByteArray) (w : World) (hs : s.size ≤ 100000) (hok : Mw.terr s.data.toList = 0) :
    Calls Tryz.prog 69 #[.string s] w fun e w' => ∃ s2 A2 k2 c2, e = .returned (.agg #[.int .i64 s2, .slice A2 k2 c2]) ∧ NumAt w' s2 A2 k2 c2 (Mw.ival s.data.toList) ∧ Below w.heap.size w w' := by
  have ho : Mw.okf s.data.toList = true := by
    rw [Mw.terr] at hok; split at hok
    · assumption
    · omega
  have hl : ¬ (400 : Int) < ((Mw.unm s.data.toList).length : Int) := by
    rw [Mw.terr, if_pos ho] at hok
    split at hok <;> omega
  go_enter Tryz.func69, Tryz.ntmps69
  go_wp2_with (first | (go_at_call 125; with_reducible refine (form_is s _ true ho).mono ?_; rintro e w1 ⟨rfl, hb1⟩) | (go_at_call 121; with_reducible refine (trim_calls _ s rfl _).mono ?_; rintro e w2 ⟨rfl, rfl⟩) | (go_at_call 86; with_reducible refine (fail_f _ _ _ (by first | rfl | exact decide_eq_false (by omega))).mono ?_; rintro e w3 ⟨rfl, rfl⟩) | (go_at_call 126; with_reducible refine (read_any s _ hs ho).mono ?_; rintro e w4 ⟨s2, A2, k2, c2, rfl, hN, hb4⟩; refine Hid.out ?_))
  have F0 := bxs_fr 71 [⟨0, none, 0, 0⟩] w
  simp only [bxs] at F0
  have hb := hb1.trans (hb4.mono hb1.size)
  obtain ⟨q0, q1, f0, f1⟩ := (F0.call (by simp) hb).c1
  have hB := (below_alloc (Below.refl _ _) _).trans (hb.mono (by simp))
  obtain ⟨HN1, hA, hBc⟩ := num_store hN q0 q1
  have HB := Lib.hid hB
  clear hB hb hb1 hb4 hN F0
  refine Lib.hid ?_
  go_wp2
  exact bodyPost_ret (v := .agg #[.int .i64 s2, .slice A2 k2 c2]) (by simp [results, Tryz.results69, go_sem, hA, hBc]) rfl ⟨s2, A2, k2, c2, rfl, HN1.out, (HB.out.setCell (by simp) _).setCell (by simp) _⟩
set_option maxRecDepth 100000 in
set_option maxHeartbeats 1600000 in
theorem taken_bad (s : ByteArray) (w : World) (hbad : ¬ Mw.terr s.data.toList = 0) :
    Calls Tryz.prog 69 #[.string s] w fun e w' => e = .panicked (thrown (Mw.terr s.data.toList)) ∧ Below w.heap.size w w' := by
  by_cases ho : Mw.okf s.data.toList = true
  · by_cases hl : (400 : Int) < ((Mw.unm s.data.toList).length : Int)
    · have he : Mw.terr s.data.toList = 13 := by
        rw [Mw.terr, if_pos ho, if_pos (by omega)]
      rw [he]
      go_enter Tryz.func69, Tryz.ntmps69
      go_wp2_with (first | (go_at_call 125; with_reducible refine (form_is s _ true ho).mono ?_; rintro e w1 ⟨rfl, hb1⟩) | (go_at_call 121; with_reducible refine (trim_calls _ s rfl _).mono ?_; rintro e w2 ⟨rfl, rfl⟩) | (go_at_call 86; with_reducible refine (fail_no _ _).mono ?_; rintro e w3 ⟨rfl, rfl⟩) | (go_at_call 86; with_reducible refine (fail_yes _ _).mono ?_; rintro e w4 ⟨rfl, rfl⟩))
      exact ⟨rfl, rfl, (below_alloc (Below.refl _ _) _).trans (hb1.mono (by simp))⟩
    · exact absurd (by rw [Mw.terr, if_pos ho, if_neg (by omega)]) hbad
  · have ho' : Mw.okf s.data.toList = false := by simpa using ho
    have he : Mw.terr s.data.toList = 1 := by rw [Mw.terr, if_neg ho]
    rw [he]
    go_enter Tryz.func69, Tryz.ntmps69
    go_wp2_with (first | (go_at_call 125; with_reducible refine (form_is s _ false ho').mono ?_; rintro e w1 ⟨rfl, hb1⟩) | (go_at_call 86; with_reducible refine (fail_t _ _ _ rfl).mono ?_; rintro e w3 ⟨rfl, rfl⟩))
    exact ⟨rfl, rfl, (below_alloc (Below.refl _ _) _).trans (hb1.mono (by simp))⟩
theorem unm_rt (n : Int) (s : ByteArray) (h : s.data.toList = Mw.itxt n) (W : World) : Calls Tryz.prog 121 #[.string s, .string ⟨#[45]⟩] W fun e w' => e = .returned (.string ⟨(Mw.dtxt n.natAbs).toArray⟩) ∧ w' = W := by
  rw [← Mw.unm_itxt]; exact trim_calls _ s h W
set_option maxRecDepth 100000 in
set_option maxHeartbeats 1600000 in
theorem given_ok {s : Int} {A : Option Addr} {k c : Nat} {n : Int} (w : World) (H : NumAt w s A k c n) (hk : k ≤ 100000) (ht : Tab w) (hok : Mw.gerr n = 0) :
    Calls Tryz.prog 71 #[.agg #[.int .i64 s, .slice A k c]] w fun e w' => e = .returned (.string ⟨(Mw.itxt n).toArray⟩) ∧ Below w.heap.size w w' := by
  have hb0 := bxs_below 71 [⟨s, A, k, c⟩] w (Nat.le_refl _) (Below.refl _ _)
  simp only [bxs] at hb0
  have H1 := H.below hb0
  have ht1 := (Lib.tabBelow_of_tabIs ht) _ hb0
  have hl : ¬ (400 : Int) < ((Mw.dtxt n.natAbs).length : Int) := by
    rw [Mw.gerr] at hok; split at hok <;> omega
  have hd : decide ((400 : Int) < ((Mw.dtxt n.natAbs).length : Int)) = false := decide_eq_false hl
  have HB := Lib.hid hb0
  clear hb0
  go_enter Tryz.func71, Tryz.ntmps71
  go_wp2_with (first | (go_at_call 127; with_reducible refine (text_any _ H1 hk ht1).mono ?_; rintro e w1 ⟨rfl, hb1⟩) | (go_at_call 121; with_reducible refine (unm_rt n _ rfl _).mono ?_; rintro e w2 ⟨rfl, rfl⟩) | (go_at_call 86; with_reducible refine (fail_no _ _).mono ?_; rintro e w4 ⟨rfl, rfl⟩) | (go_at_call 86; with_reducible refine (fail_f _ _ _ hd).mono ?_; rintro e w4 ⟨rfl, rfl⟩))
  go_ret
  exact ⟨rfl, HB.out.trans (hb1.mono HB.out.size)⟩
set_option maxRecDepth 100000 in
set_option maxHeartbeats 1600000 in
theorem given_bad {s : Int} {A : Option Addr} {k c : Nat} {n : Int} (w : World) (H : NumAt w s A k c n) (hk : k ≤ 100000) (ht : Tab w) (hbad : ¬ Mw.gerr n = 0) :
    Calls Tryz.prog 71 #[.agg #[.int .i64 s, .slice A k c]] w fun e w' => e = .panicked (thrown (Mw.gerr n)) ∧ Below w.heap.size w w' := by
  have hb0 := bxs_below 71 [⟨s, A, k, c⟩] w (Nat.le_refl _) (Below.refl _ _)
  simp only [bxs] at hb0
  have H1 := H.below hb0
  have ht1 := (Lib.tabBelow_of_tabIs ht) _ hb0
  have hl : (400 : Int) < ((Mw.dtxt n.natAbs).length : Int) := by
    rw [Mw.gerr] at hbad; split at hbad <;> omega
  have he : Mw.gerr n = 13 := by rw [Mw.gerr, if_pos (by omega)]
  rw [he]
  have HB := Lib.hid hb0
  clear hb0
  go_enter Tryz.func71, Tryz.ntmps71
  go_wp2_with (first | (go_at_call 127; with_reducible refine (text_any _ H1 hk ht1).mono ?_; rintro e w1 ⟨rfl, hb1⟩) | (go_at_call 121; with_reducible refine (unm_rt n _ rfl _).mono ?_; rintro e w2 ⟨rfl, rfl⟩) | (go_at_call 86; with_reducible refine (fail_yes _ _).mono ?_; rintro e w4 ⟨rfl, rfl⟩))
  exact ⟨rfl, rfl, HB.out.trans (hb1.mono HB.out.size)⟩
set_option exponentiation.threshold 500 in
theorem lbs_of_digits {n : Nat} (h : (Mw.dtxt n).length ≤ 400) : (lbs n).length ≤ 45 := by
  rw [lbs_len_le]
  have h1 := (Mw.dtxt_len_le n 400 (by omega)).mp h
  refine Nat.lt_of_lt_of_le h1 ?_
  rw [show (1000000000 : Nat) = 10 ^ 9 from rfl, ← Nat.pow_mul]
  exact Nat.pow_le_pow_right (by omega) (by omega)
theorem gerr_len {n : Int} (h : Mw.gerr n = 0) : (lbs n.natAbs).length ≤ 45 := by
  refine lbs_of_digits ?_
  rw [Mw.gerr] at h; split at h <;> omega
theorem terr_gerr {l : List UInt8} (h : Mw.terr l = 0) : Mw.gerr (Mw.ival l) = 0 ∧ Mw.itxt (Mw.ival l) = l := by
  rw [Mw.terr] at h
  split at h
  · rename_i ho
    have he := Mw.itxt_ival l ho
    refine ⟨?_, he⟩
    have hu := Mw.unm_itxt (Mw.ival l)
    rw [he] at hu
    rw [Mw.gerr, ← hu]
    exact h
  · omega
theorem terr_len {l : List UInt8} (h : Mw.terr l = 0) : (lbs (Mw.ival l).natAbs).length ≤ 45 := gerr_len (terr_gerr h).1
end Go.Proofs.YtjieekkkaekclaaGreatDoor
namespace Go.Proofs.YtjieekkkaekclaaGreatDoor
open Go Go.RowKit Go.Proofs.YtjieekkkaekclaaGreatDoorW.PrintWords
def IsDoor (K : FuncId) : Prop := ∃ (fk : Func) (s1 : String), Tryz.prog.funcs[K]? = some fk ∧ fk.body = some (doorCode s1) ∧ fk.ntmps = 3 ∧ fk.results = #[] ∧ ¬ fk.name = "runtime.NumGoroutine"
theorem door_leave {K : FuncId} (hK : IsDoor K) {fn : Func} {tmps : Array Value} {R : Ending → World → Prop} (p : Addr) (x v : Value) (W : World)
    (hc : W.cell? p = some x) (hz : W.frozen? p = false) (hv : ∀ W', W'.cell? p = some (.int .i64 0) → (results fn tmps).run Tryz.prog W' = .ok v W') (hR : ∀ W', Below p.block W W' → R (.returned v) W') :
    Leaves Tryz.prog fn tmps R [{ target := .fn (.func K) #[.pointer (some p)], args := #[] }] .returning W := by
  obtain ⟨fk, s1, hf, hb, hn, hr, hnm⟩ := hK
  refine leaves_cons (f := K) (args := #[.pointer (some p)]) (by simp) (by simp [go_sem, callFunc, hf, hb, hnm]) ?_
  refine (door_idle hf hb hn hr p x W hc hz).mono ?_
  rintro e u' w'' ⟨rfl, rfl, rfl⟩
  exact ⟨v, hv _ (World.cell?_setCell_same _ _ _ hc), hR _ ((Below.refl _ _).setCell (Nat.le_refl _) _)⟩
theorem door_leave_at {K : FuncId} (hK : IsDoor K) {fn : Func} {tmps : Array Value} {R : Ending → World → Prop} (p : Addr) (x v : Value) (W : World)
    (hc : W.cell? p = some x) (hz : W.frozen? p = false) (hv : ∀ W', W'.cell? p = some (.int .i64 0) → (results fn tmps).run Tryz.prog W' = .ok v W') (hR : R (.returned v) (W.setCell p (.int .i64 0))) :
    Leaves Tryz.prog fn tmps R [{ target := .fn (.func K) #[.pointer (some p)], args := #[] }] .returning W := by
  obtain ⟨fk, s1, hf, hb, hn, hr, hnm⟩ := hK
  refine leaves_cons (f := K) (args := #[.pointer (some p)]) (by simp) (by simp [go_sem, callFunc, hf, hb, hnm]) ?_
  refine (door_idle hf hb hn hr p x W hc hz).mono ?_
  rintro e u' w'' ⟨rfl, rfl, rfl⟩
  exact ⟨v, hv _ (World.cell?_setCell_same _ _ _ hc), hR⟩
theorem door_caught {K : FuncId} (hK : IsDoor K) {fn : Func} {tmps : Array Value} {R : Ending → World → Prop} (p : Addr) (x v : Value) (c : Int) (W : World)
    (hg : Ety W) (hp : p.block < W.heap.size) (hc : W.cell? p = some x) (hz : W.frozen? p = false)
    (hv : ∀ W', W'.cell? p = some (.int .i64 c) → (results fn tmps).run Tryz.prog W' = .ok v W') (hR : ∀ W', Below p.block W W' → R (.returned v) W') :
    Leaves Tryz.prog fn tmps R [{ target := .fn (.func K) #[.pointer (some p)], args := #[] }] (.panicking (thrown c)) W := by
  obtain ⟨fk, s1, hf, hb, hn, hr, hnm⟩ := hK
  refine leaves_cons (f := K) (args := #[.pointer (some p)]) (by simp) (by simp [go_sem, callFunc, hf, hb, hnm]) ?_
  refine (door_panicking hf hb hn hr p x c W hg hp hc hz).mono ?_
  rintro e u' w'' ⟨rfl, rfl, w1, hb1, rfl⟩
  simp only [settle, List.dropWhile]
  have hc1 : w1.cell? p = some x := by rw [hb1.cell hp]; exact hc
  exact ⟨v, hv _ (World.cell?_setCell_same _ _ _ hc1), hR _ ((hb1.mono (by omega)).trans ((Below.refl _ _).setCell (Nat.le_refl _) _))⟩
def slotB (fn : Func) (d : Tmp) : Bool := fn.results.toList.all fun r => match r with | .tmp t => t != d | .cell a _ => a != d
theorem mapM_congr_sem {α β : Type} (f g : α → Sem β) : ∀ l : List α, (∀ r ∈ l, f r = g r) → l.mapM f = l.mapM g := by
  intro l
  induction l with
  | nil => intro _; rfl
  | cons r l ih =>
    intro h
    rw [List.mapM_cons, List.mapM_cons, ih (fun x hx => h x (List.mem_cons_of_mem _ hx)), h r List.mem_cons_self]
theorem results_put {fn : Func} {d : Tmp} (h : slotB fn d = true) (tmps : Array Value) (v : Value) : results fn (tmps.setIfInBounds d v) = results fn tmps := by
  have hg : ∀ i, i ≠ d → (tmps.setIfInBounds d v).getD i undef = tmps.getD i undef := fun i hi => by
    simp only [Array.getD_eq_getD_getElem?, Array.getElem?_setIfInBounds_ne (Ne.symm hi)]
  unfold results
  simp only [Array.mapM_eq_mapM_toList]
  refine congrArg (fun m : Sem (List Value) => do let vs ← List.toArray <$> m; pure (if h : vs.size = 1 then vs[0] else Value.tuple vs)) (mapM_congr_sem _ _ _ fun r hr => ?_)
  have hs := List.all_eq_true.mp h r hr
  cases r with
  | tmp t => dsimp only at hs ⊢; rw [hg t (by simpa using hs)]
  | cell a t => dsimp only at hs ⊢; rw [hg a (by simpa using hs)]
theorem leaves_put {fn : Func} {d : Tmp} (h : slotB fn d = true) {tmps : Array Value} {v : Value} {R : Ending → World → Prop} : ∀ (ds : List Deferred) (u : FrameMode) (w : World), Leaves Tryz.prog fn (tmps.setIfInBounds d v) R ds u w → Leaves Tryz.prog fn tmps R ds u w := by
  intro ds
  induction ds with
  | nil =>
    intro u w hl
    cases u with
    | run => exact hl
    | returning => obtain ⟨x, h1, h2⟩ := hl; exact ⟨x, by rw [← results_put h tmps v]; exact h1, h2⟩
    | panicking c => exact hl
  | cons x ds ih =>
    intro u w hl
    obtain ⟨h1, fv, cap, f, args, h2, h3, h4⟩ := hl
    refine ⟨h1, fv, cap, f, args, h2, h3, h4.mono ?_⟩
    intro e u' w' hh
    cases e with
    | returned y => exact ih _ _ hh
    | panicked c => exact ih _ _ hh
    | outgrown => exact hh
theorem bodyPostD_put {fn : Func} {d : Tmp} (h : slotB fn d = true) {R : Ending → World → Prop} {c : List PanicEntry} {a : Act} {v : Value} {w : World} (hh : bodyPostD Tryz.prog fn R (.panic c) (a.put (some d) v) w) : bodyPostD Tryz.prog fn R (.panic c) a w :=
  leaves_put h _ _ _ hh
theorem isDoor_both : IsDoor 142 := ⟨_, _, Tryz.func142, rfl, rfl, rfl, by decide⟩
theorem isDoor_parted : IsDoor 141 := ⟨_, _, Tryz.func141, rfl, rfl, rfl, by decide⟩
theorem isDoor_Gcd : IsDoor 67 := ⟨_, _, Tryz.func67, rfl, rfl, rfl, by decide⟩
theorem isDoor_PowMod : IsDoor 111 := ⟨_, _, Tryz.func111, rfl, rfl, rfl, by decide⟩
theorem isDoor_Root : IsDoor 97 := ⟨_, _, Tryz.func97, rfl, rfl, rfl, by decide⟩
theorem isDoor_Base : IsDoor 118 := ⟨_, _, Tryz.func118, rfl, rfl, rfl, by decide⟩
theorem isDoor_Factor : IsDoor 85 := ⟨_, _, Tryz.func85, rfl, rfl, rfl, by decide⟩
theorem own_cell {w W : World} {t : TypeId} {v : Value} (hb : Below (w.alloc (.cells #[v] t)).heap.size (w.alloc (.cells #[v] t)) W) : W.cell? ⟨w.heap.size, 0, none⟩ = some v ∧ W.frozen? ⟨w.heap.size, 0, none⟩ = false ∧ w.heap.size < W.heap.size ∧ Below w.heap.size w W := by
  refine ⟨?_, ?_, ?_, (below_alloc (Below.refl _ _) _).trans (hb.mono (by simp))⟩
  · rw [hb.cell (by simp)]; simp
  · rw [hb.frozen (by simp)]; simp
  · have := hb.size; simp at this; omega
structure Own (w : World) (v : Value) (W : World) : Prop where
  cell : W.cell? ⟨w.heap.size, 0, none⟩ = some v
  frz : W.frozen? ⟨w.heap.size, 0, none⟩ = false
  lt : w.heap.size < W.heap.size
  below : Below w.heap.size w W
theorem Own.of {w W : World} {t : TypeId} {v : Value} (hb : Below (w.alloc (.cells #[v] t)).heap.size (w.alloc (.cells #[v] t)) W) : Own w v W :=
  ⟨(own_cell hb).1, (own_cell hb).2.1, (own_cell hb).2.2.1, (own_cell hb).2.2.2⟩
theorem Own.next {w W W' : World} {v : Value} (h : Own w v W) (hb : Below W.heap.size W W') : Own w v W' :=
  ⟨by rw [hb.cell h.lt]; exact h.cell, by rw [hb.frozen h.lt]; exact h.frz, Nat.lt_of_lt_of_le h.lt hb.size, h.below.trans (hb.mono (Nat.le_of_lt h.lt))⟩
theorem Own.nextB {w W W' : World} {v : Value} {B : Nat} (h : Own w v W) (hB : w.heap.size < B) (hb : Below B W W') : Own w v W' :=
  ⟨by rw [hb.cell hB]; exact h.cell, by rw [hb.frozen hB]; exact h.frz, Nat.lt_of_lt_of_le h.lt hb.size, h.below.trans (hb.mono (Nat.le_of_lt hB))⟩
theorem Ety.below {w W : World} (h : Ety w) (hb : Below w.heap.size w W) : Ety W := by
  have hlt : 0 < w.heap.size := by
    rcases Nat.eq_zero_or_pos w.heap.size with h0 | h0
    · have hg' : w.cell? ⟨0, 0, none⟩ = some _ := h
      simp [World.cell?, h0] at hg'
    · exact h0
  have h1 : w.cell? ⟨0, 0, none⟩ = some _ := h
  show W.cell? ⟨0, 0, none⟩ = some _
  rw [hb.cell (p := ⟨0, 0, none⟩) hlt]
  exact h1
end Go.Proofs.YtjieekkkaekclaaGreatDoor
namespace Go.Proofs.YtjieekkkaekclaaGreatDoor
open Go Go.RowKit Go.Proofs.YtjieekkkaekclaaGreatDoorW.PrintWords
def Mw.terr2 (a b : List UInt8) : Int := if Mw.terr a = 0 then Mw.terr b else Mw.terr a
end Go.Proofs.YtjieekkkaekclaaGreatDoor
namespace Go.Proofs.YtjieekkkaekclaaGreatDoor
open Go Go.RowKit Go.Proofs.YtjieekkkaekclaaGreatDoorW.PrintWords
def Mw.give (n : Int) : List UInt8 × Int := if Mw.gerr n = 0 then (Mw.itxt n, 0) else ([], Mw.gerr n)
def Mw.both (op : Int → Int → Int) (a b : List UInt8) : List UInt8 × Int := if Mw.terr2 a b = 0 then Mw.give (op (Mw.ival a) (Mw.ival b)) else ([], Mw.terr2 a b)
def DoesOp (K : FuncId) (op : Int → Int → Int) : Prop := ∀ (W : World) {s : Int} {A : Option Addr} {k c : Nat} {n : Int} {s' : Int} {A' : Option Addr} {k' c' : Nat} {m : Int}, NumAt W s A k c n → NumAt W s' A' k' c' m → k ≤ 45 → k' ≤ 45 →
  Calls Tryz.prog K #[.agg #[.int .i64 s, .slice A k c], .agg #[.int .i64 s', .slice A' k' c']] W fun e w' => ∃ s2 A2 k2 c2, e = .returned (.agg #[.int .i64 s2, .slice A2 k2 c2]) ∧ NumAt w' s2 A2 k2 c2 (op n m) ∧ Below W.heap.size W w' ∧ k2 ≤ 100000
theorem NumAt.k45 {W : World} {s : Int} {A : Option Addr} {k c : Nat} {l : List UInt8} (h : NumAt W s A k c (Mw.ival l)) (he : Mw.terr l = 0) : k ≤ 45 := by
  rw [h.len]; exact terr_len he
set_option maxRecDepth 100000 in
set_option maxHeartbeats 1600000 in
theorem both_any (K : FuncId) (op : Int → Int → Int) (hdo : DoesOp K op) (hent : ∀ (args : Array Value) (w : World), (callFunc K args).run Tryz.prog w = .ok (.enter K args) w) (s t : ByteArray) (w : World) (hs : s.size ≤ 100000) (ht : t.size ≤ 100000) (hg : Ety w) (htab : Tab w) :
    Calls Tryz.prog 106 #[.func (.func K) #[] #[], .string s, .string t] w fun e w' => e = .returned (.tuple #[.string ⟨(Mw.both op s.data.toList t.data.toList).1.toArray⟩, .int .i64 (Mw.both op s.data.toList t.data.toList).2]) ∧ Below w.heap.size w w' := by
  have hmf : ∀ (fn : Fn) (first cap : Array Value) (w : World), (Instr.makeFunc fn first cap).run Tryz.prog w = .ok (.func fn first cap) w := fun _ _ _ _ => rfl
  have HG := Lib.hid hg
  have HT := Lib.hid (Lib.tabBelow_of_tabIs htab)
  have HDO := Lib.hid hdo
  clear hg hdo htab
  obtain ⟨⟨rs, er⟩, hr⟩ : ∃ x, Mw.both op s.data.toList t.data.toList = x := ⟨_, rfl⟩
  rw [hr]
  dsimp only
  by_cases hok : Mw.terr s.data.toList = 0
  · have HR := Lib.hid hr
    clear hr
    go_enter_defers Tryz.func106, Tryz.ntmps106
    go_wp2_with (first | (go_at_call 69; with_reducible refine (taken_ok s _ hs hok).mono ?_; rintro e w1 ⟨s1, A1, k1, c1, rfl, hN1, hb1⟩; have HB1 := Lib.hid hb1))
    refine wp_world (fun W => Hid (Fr W w1.heap.size [⟨s1, A1, k1, c1⟩]) ∧ Hid (Below w1.heap.size w1 W)) ⟨Lib.hid (bxs_fr _ [⟨s1, A1, k1, c1⟩] w1), Lib.hid (bxs_below _ [⟨s1, A1, k1, c1⟩] w1 (Nat.le_refl _) (Below.refl _ _))⟩ ?_
    rintro W2 ⟨FA, HB2⟩
    have HN1 := Lib.hid (hN1.below HB2.out)
    have hk1 := hN1.k45 hok
    have HO := Lib.hid (((Own.of HB1.out).next HB2.out).next (below_drew (Below.refl _ _) : Below W2.heap.size W2 W2.drew))
    have hz1 := HB2.out.size
    clear hN1 hb1
    obtain ⟨x0, x1, -, -⟩ := (FA.out.drew hz1).c1
    refine wp_region_goT (fun w' => w'.cell? ⟨w1.heap.size, 0, none⟩ = some (.int .i64 s1) ∧ w'.cell? ⟨w1.heap.size, 1, none⟩ = some (.slice A1 k1 c1)) 6 (by kernel_rfl) (by kernel_rfl) ⟨x0, x1⟩ (fun hHeld => ?_)
    refine goT_take 0 (v := ?_) rfl (by decide +kernel) (fun _ _ _ h => bodyPostD_put (by decide +kernel) h) (Or.inl ⟨by rfl, ?_⟩) (by assumption) ?_
    rotate_left
    · (intro w_ hSw; (try dsimp only at hSw); go_simp; (try with_reducible rfl))
    try simp only [Act.put, List.setIfInBounds_toArray, List.set_cons_zero, List.set_cons_succ]
    refine goT_take 1 (v := ?_) rfl (by decide +kernel) (fun _ _ _ h => bodyPostD_put (by decide +kernel) h) (Or.inl ⟨by rfl, ?_⟩) (by assumption) ?_
    rotate_left
    · (intro w_ hSw; (try dsimp only at hSw); go_simp; (try with_reducible rfl))
    try simp only [Act.put, List.setIfInBounds_toArray, List.set_cons_zero, List.set_cons_succ]
    refine goT_take 2 (v := ?_) rfl (by decide +kernel) (fun _ _ _ h => bodyPostD_put (by decide +kernel) h) (Or.inl ⟨by rfl, ?_⟩) (by assumption) ?_
    rotate_left
    · (intro w_ hSw; (try dsimp only at hSw); go_simp; (try with_reducible rfl))
    try simp only [Act.put, List.setIfInBounds_toArray, List.set_cons_zero, List.set_cons_succ]
    refine goT_step 3 rfl (by decide +kernel) (fun K_ hK => ?_)
    go_simp
    by_cases hok2 : Mw.terr t.data.toList = 0
    · refine (taken_ok t _ ht hok2).mono ?_
      rintro e w3 ⟨s3, A3, k3, c3, rfl, hN3, hb3⟩
      have hk3 := hN3.k45 hok2
      have HB3 : Hid (Below W2.heap.size W2 w3) := Lib.hid (below_of_drew hb3)
      have KA := HN1.out.below HB3.out
      have HO3 := Lib.hid (HO.out.next hb3)
      clear hb3 x0 x1
      obtain ⟨x0, x1, -, -⟩ := (FA.out.call hz1 HB3.out).c1
      go_wp2_with fail
      refine hK.out _ _ ⟨x0, x1⟩ (fun hHeld => ?_)
      clear hK
      try simp only [Act.put, List.setIfInBounds_toArray, List.set_cons_zero, List.set_cons_succ]
      refine goT_step 4 rfl (by decide +kernel) (fun K_ hK => ?_)
      go_simp
      refine (HDO.out _ KA hN3 hk1 hk3).mono ?_
      rintro e w4 ⟨s4, A4, k4, c4, rfl, hN4, hb4, hk4⟩
      have HB4 := Lib.hid (HB3.out.trans (hb4.mono HB3.out.size))
      have HO4 := Lib.hid (HO3.out.next hb4)
      clear hb4 KA hN3 x0 x1
      obtain ⟨x0, x1, -, -⟩ := (FA.out.call hz1 HB4.out).c1
      have hT4 := HT.out _ HO4.out.below
      go_wp2_with fail
      refine hK.out _ _ ⟨x0, x1⟩ (fun hHeld => ?_)
      clear hK
      try simp only [Act.put, List.setIfInBounds_toArray, List.set_cons_zero, List.set_cons_succ]
      refine goT_step 5 rfl (by decide +kernel) (fun K_ hK => ?_)
      go_simp
      have hr := HR.out
      rw [Mw.both, Mw.terr2, if_pos hok, if_pos hok2, Mw.give] at hr
      by_cases hge : Mw.gerr (op (Mw.ival s.data.toList) (Mw.ival t.data.toList)) = 0
      · rw [if_pos hge] at hr
        refine (given_ok _ hN4 hk4 hT4 hge).mono ?_
        rintro e w5 ⟨rfl, hb5⟩
        have HO5 := Lib.hid (HO4.out.next hb5)
        have HB5 := Lib.hid (HB4.out.trans (hb5.mono HB4.out.size))
        have HRR := Lib.hid hr
        clear hb5 hN4 hT4 hr x0 x1
        obtain ⟨x0, x1, -, -⟩ := (FA.out.call hz1 HB5.out).c1
        go_wp2_with fail
        refine hK.out _ _ ⟨x0, x1⟩ (fun hHeld => ?_)
        clear hK
        try simp only [Act.put, List.setIfInBounds_toArray, List.set_cons_zero, List.set_cons_succ]
        refine goT_done (by decide +kernel) ?_
        have q0 := HO5.out.cell
        have f0 := HO5.out.frz
        go_wp2
        obtain ⟨rfl, rfl⟩ := Prod.mk.inj HRR.out
        exact door_leave isDoor_both _ (.int .i64 0) (.tuple #[.string _, .int .i64 0]) _ (World.cell?_setCell_same _ _ _ q0) (by simp [f0]) (fun W' h => by simp [results, Tryz.results106, go_sem, h])
          (fun W' h => ⟨rfl, (HO5.out.below.setCell (Nat.le_refl _) _).trans h⟩)
      · rw [if_neg hge] at hr
        refine (given_bad _ hN4 hk4 hT4 hge).mono ?_
        rintro e w5 ⟨rfl, hb5⟩
        have HO5 := HO4.out.next hb5
        obtain ⟨rfl, rfl⟩ := Prod.mk.inj hr
        exact door_caught isDoor_both _ (.int .i64 0) (.tuple #[.string ⟨#[]⟩, .int .i64 _]) _ _ (HG.out.below HO5.below) HO5.lt HO5.cell HO5.frz (fun W' h => by simp [results, Tryz.results106, go_sem, h])
          (fun W' h => ⟨rfl, HO5.below.trans h⟩)
    · refine (taken_bad t _ hok2).mono ?_
      rintro e w3 ⟨rfl, hb3⟩
      have HO3 := HO.out.next hb3
      have hr := HR.out
      rw [Mw.both, Mw.terr2, if_pos hok, if_neg hok2] at hr
      obtain ⟨rfl, rfl⟩ := Prod.mk.inj hr
      exact door_caught isDoor_both _ (.int .i64 0) (.tuple #[.string ⟨#[]⟩, .int .i64 (Mw.terr t.data.toList)]) _ _ (HG.out.below HO3.below) HO3.lt HO3.cell HO3.frz (fun W' h => by simp [results, Tryz.results106, go_sem, h])
        (fun W' h => ⟨rfl, HO3.below.trans h⟩)
  · rw [Mw.both, Mw.terr2, if_neg hok, if_neg hok] at hr
    obtain ⟨rfl, rfl⟩ := Prod.mk.inj hr
    go_enter_defers Tryz.func106, Tryz.ntmps106
    go_wp2_with (first | (go_at_call 69; with_reducible refine (taken_bad s _ hok).mono ?_; rintro e w1 ⟨rfl, hb1⟩; obtain ⟨q0, f0, z0, hB⟩ := own_cell hb1))
    exact door_caught isDoor_both _ (.int .i64 0) (.tuple #[.string ⟨#[]⟩, .int .i64 (Mw.terr s.data.toList)]) _ _ (HG.out.below hB) z0 q0 f0 (fun W' h => by simp [results, Tryz.results106, go_sem, h])
      (fun W' h => ⟨rfl, hB.trans h⟩)
end Go.Proofs.YtjieekkkaekclaaGreatDoor
namespace Go.Proofs.YtjieekkkaekclaaGreatDoor
open Go Go.RowKit Go.Proofs.YtjieekkkaekclaaGreatDoorW.PrintWords
theorem NumAt.lt {W : World} {s : Int} {A : Option Addr} {k c : Nat} {n : Int} (h : NumAt W s A k c n) {K : Nat} (hk : k ≤ K) : n.natAbs < 1000000000 ^ K := by
  rw [h.len] at hk; exact (lbs_len_le _ _).mp hk
theorem len_mul {n m : Int} {K L : Nat} (hn : n.natAbs < 1000000000 ^ K) (hm : m.natAbs < 1000000000 ^ L) : (lbs (n * m).natAbs).length ≤ K + L := by
  rw [lbs_len_le, Nat.pow_add, Int.natAbs_mul]
  exact Nat.mul_lt_mul'' hn hm
theorem doesOp_mul : DoesOp 77 (fun a b => a * b) := fun W {s A k c n s' A' k' c' m} H H' hk hk' => by
  refine (mul_any W H H' (by omega) (by omega)).mono ?_
  rintro e w' ⟨s2, A2, k2, c2, rfl, hN, hb⟩
  exact ⟨s2, A2, k2, c2, rfl, hN, hb, by have := len_mul (H.lt hk) (H'.lt hk'); rw [hN.len]; omega⟩
theorem enters {K : FuncId} {fn : Func} {c : Code} (hf : Tryz.prog.funcs[K]? = some fn) (hb : fn.body = some c) (hnm : ¬ fn.name = "runtime.NumGoroutine") (args : Array Value) (w : World) : (callFunc K args).run Tryz.prog w = .ok (.enter K args) w := by
  simp [callFunc, hf, hb, hnm, go_sem]
set_option maxRecDepth 100000 in
set_option maxHeartbeats 1600000 in
theorem wmul_any (s t : ByteArray) (w : World) (hs : s.size ≤ 100000) (ht : t.size ≤ 100000) (hg : Ety w) (htab : Tab w) :
    Calls Tryz.prog 45 #[.string s, .string t] w fun e w' => e = .returned (.tuple #[.string ⟨(Mw.both (fun a b => a * b) s.data.toList t.data.toList).1.toArray⟩, .int .i64 (Mw.both (fun a b => a * b) s.data.toList t.data.toList).2]) ∧ Below w.heap.size w w' := by
  have h1 := both_any 77 (fun a b => a * b) doesOp_mul (enters Tryz.func77 rfl (by decide)) s t w hs ht hg htab
  generalize Mw.both (fun a b => a * b) s.data.toList t.data.toList = r at *
  clear hg htab hs ht
  go_enter Tryz.func45, Tryz.ntmps45
  go_wp2_with (first | (go_at_call 106; with_reducible refine h1.mono ?_; rintro e w1 ⟨rfl, hb1⟩))
  exact bodyPost_ret (v := .tuple #[.string ⟨r.1.toArray⟩, .int .i64 r.2]) (by simp [results, Tryz.results45, go_sem]) rfl ⟨rfl, hb1⟩
end Go.Proofs.YtjieekkkaekclaaGreatDoor
namespace Go.Proofs.YtjieekkkaekclaaGreatDoor
open Go Go.RowKit Go.Proofs.YtjieekkkaekclaaGreatDoorW.PrintWords
def Mw.part (q r : Int → Int → Int) (x y : Int) : List UInt8 × List UInt8 × Int :=
  if y = 0 then ([], [], 12) else if Mw.gerr (q x y) = 0 then (if Mw.gerr (r x y) = 0 then (Mw.itxt (q x y), Mw.itxt (r x y), 0) else ([], [], Mw.gerr (r x y))) else ([], [], Mw.gerr (q x y))
def Mw.parted (q r : Int → Int → Int) (a b : List UInt8) : List UInt8 × List UInt8 × Int := if Mw.terr2 a b = 0 then Mw.part q r (Mw.ival a) (Mw.ival b) else ([], [], Mw.terr2 a b)
def DoesTwo (K : FuncId) (q r : Int → Int → Int) : Prop := ∀ (W : World) {s : Int} {A : Option Addr} {k c : Nat} {n : Int} {s' : Int} {A' : Option Addr} {k' c' : Nat} {m : Int}, NumAt W s A k c n → NumAt W s' A' k' c' m → m ≠ 0 → k ≤ 45 → k' ≤ 45 →
  Calls Tryz.prog K #[.agg #[.int .i64 s, .slice A k c], .agg #[.int .i64 s', .slice A' k' c']] W fun e w' => ∃ s2 A2 k2 c2 s3 A3 k3 c3, e = .returned (.tuple #[.agg #[.int .i64 s2, .slice A2 k2 c2], .agg #[.int .i64 s3, .slice A3 k3 c3]]) ∧ NumAt w' s2 A2 k2 c2 (q n m) ∧ NumAt w' s3 A3 k3 c3 (r n m) ∧ Below W.heap.size W w' ∧ k2 ≤ 100000 ∧ k3 ≤ 100000
theorem sgn_zero {n s : Int} (h : s = sgn n) : s = 0 ↔ n = 0 := by
  rcases sgn_cases n with ⟨e1, h1⟩ | ⟨e1, h1⟩ | ⟨e1, h1⟩ <;> omega
set_option maxRecDepth 100000 in
set_option maxHeartbeats 3200000 in
theorem parted_any (K : FuncId) (q r : Int → Int → Int) (hdo : DoesTwo K q r) (hent : ∀ (args : Array Value) (w : World), (callFunc K args).run Tryz.prog w = .ok (.enter K args) w) (s t : ByteArray) (w : World) (hs : s.size ≤ 100000) (ht : t.size ≤ 100000) (hg : Ety w) (htab : Tab w) :
    Calls Tryz.prog 104 #[.func (.func K) #[] #[], .string s, .string t] w fun e w' => e = .returned (.tuple #[.string ⟨(Mw.parted q r s.data.toList t.data.toList).1.toArray⟩, .string ⟨(Mw.parted q r s.data.toList t.data.toList).2.1.toArray⟩, .int .i64 (Mw.parted q r s.data.toList t.data.toList).2.2]) ∧ Below w.heap.size w w' := by
  have hmf : ∀ (fn : Fn) (first cap : Array Value) (w : World), (Instr.makeFunc fn first cap).run Tryz.prog w = .ok (.func fn first cap) w := fun _ _ _ _ => rfl
  have HG := Lib.hid hg
  have HT := Lib.hid (Lib.tabBelow_of_tabIs htab)
  have HDO := Lib.hid hdo
  clear hg hdo htab
  obtain ⟨⟨rq, rr, er⟩, hr⟩ : ∃ x, Mw.parted q r s.data.toList t.data.toList = x := ⟨_, rfl⟩
  rw [hr]
  dsimp only
  by_cases hok : Mw.terr s.data.toList = 0
  · by_cases hok2 : Mw.terr t.data.toList = 0
    · rw [Mw.parted, Mw.terr2, if_pos hok, if_pos hok2] at hr
      have HR := Lib.hid hr
      clear hr
      go_enter_defers Tryz.func104, Tryz.ntmps104
      go_wp2_with (first | (go_at_call 69; with_reducible refine (taken_ok s _ hs hok).mono ?_; rintro e w1 ⟨s1, A1, k1, c1, rfl, hN1, hb1⟩) | (go_at_call 69; with_reducible refine (taken_ok t _ ht hok2).mono ?_; rintro e w3 ⟨s3, A3, k3, c3, rfl, hN3, hb3⟩) | (go_at_call 70; with_reducible refine (szero_any s3 _).mono ?_; rintro e w5 ⟨rfl, hw5⟩; refine Hid.out ?_))
      clear hw5
      have FA := bxs_fr 71 [⟨s1, A1, k1, c1⟩] w1
      have FB := bxs_fr 71 [⟨s3, A3, k3, c3⟩] w3
      simp only [bxs] at FA FB
      have hz1 : w1.heap.size + 1 ≤ w3.heap.size := by have := hb3.size; simp at this; omega
      have FA := Lib.hid ((FA.call (by simp) hb3).alloc (by omega) (.cells #[.int .i64 s3, .slice A3 k3 c3] 71))
      have FB := Lib.hid FB
      have hk1 := hN1.k45 hok
      have hk3 := hN3.k45 hok2
      have HN1 := Lib.hid (((hN1.below (below_alloc (Below.refl _ _) _)).below hb3).below (below_alloc (Below.refl _ _) (.cells #[.int .i64 s3, .slice A3 k3 c3] 71)))
      have HN3 := Lib.hid (hN3.below (below_alloc (Below.refl _ _) (.cells #[.int .i64 s3, .slice A3 k3 c3] 71)))
      have HO := Lib.hid ((((Own.of hb1).next (below_alloc (Below.refl _ _) _)).next hb3).next (below_alloc (Below.refl _ _) (.cells #[.int .i64 s3, .slice A3 k3 c3] 71)))
      clear hN1 hN3 hb1 hb3
      have hz3 : w3.heap.size + 1 ≤ (w3.alloc (.cells #[.int .i64 s3, .slice A3 k3 c3] 71)).heap.size := by simp
      generalize w3.alloc (.cells #[.int .i64 s3, .slice A3 k3 c3] 71) = W4 at *
      have hse := sgn_zero HN3.out.sign
      have hr := HR.out
      rw [Mw.part] at hr
      by_cases hz : Mw.ival t.data.toList = 0
      · rw [if_pos hz] at hr
        cases hr
        have hs3 := hse.mpr hz
        subst hs3
        clear hse hz
        refine Lib.hid ?_
        go_wp2_with (first | (go_at_call 86; with_reducible refine (fail_yes _ _).mono ?_; rintro e w6 ⟨rfl, rfl⟩))
        have HO3 := HO.out
        exact door_caught isDoor_parted _ (.int .i64 0) (.tuple #[.string ⟨#[]⟩, .string ⟨#[]⟩, .int .i64 12]) _ _ (HG.out.below HO3.below) HO3.lt HO3.cell HO3.frz (fun W' h => by simp [results, Tryz.results104, go_sem, h])
          (fun W' h => ⟨rfl, HO3.below.trans h⟩)
      · rw [if_neg hz] at hr
        have HRR := Lib.hid hr
        have hs3 : (s3 == 0) = false := by rw [beq_eq_false_iff_ne]; exact fun h => hz (hse.mp h)
        have HZ := Lib.hid hz
        clear hse hz hr HR
        obtain ⟨x0, x1, -, -⟩ := FA.out.c1
        obtain ⟨y0, y1, -, -⟩ := FB.out.c1
        have hC := HDO.out _ HN1.out HN3.out HZ.out hk1 hk3
        refine Lib.hid ?_
        go_wp2_with (first | (go_at_call 86; with_reducible refine (fail_no _ _).mono ?_; rintro e w6 ⟨rfl, rfl⟩) | (with_reducible refine hC.mono ?_; rintro e w6 ⟨s4, A4, k4, c4, s5, A5, k5, c5, rfl, hN4, hN5, hb6, hk4, hk5⟩))
        refine wp_world (fun W => Hid (Fr W w6.heap.size [⟨s4, A4, k4, c4⟩, ⟨s5, A5, k5, c5⟩]) ∧ Hid (Below w6.heap.size w6 W)) ⟨Lib.hid (bxs_fr _ [⟨s4, A4, k4, c4⟩, ⟨s5, A5, k5, c5⟩] w6), Lib.hid (bxs_below _ [⟨s4, A4, k4, c4⟩, ⟨s5, A5, k5, c5⟩] w6 (Nat.le_refl _) (Below.refl _ _))⟩ ?_
        rintro W7 ⟨FM, HB7⟩
        have HN4 := Lib.hid (hN4.below HB7.out)
        have HN5 := Lib.hid (hN5.below HB7.out)
        have HO7 := Lib.hid (((HO.out.next hb6).next HB7.out).next (below_drew (Below.refl _ _) : Below W7.heap.size W7 W7.drew))
        have hz7 := HB7.out.size
        clear hN4 hN5 hb6 x0 x1 y0 y1
        obtain ⟨⟨x0, x1, -, -⟩, ⟨y0, y1, -, -⟩⟩ := (FM.out.drew hz7).c2
        have hT7 := HT.out _ HO7.out.below
        refine wp_region_goT (fun w' => w'.cell? ⟨w6.heap.size, 0, none⟩ = some (.int .i64 s4) ∧ w'.cell? ⟨w6.heap.size, 1, none⟩ = some (.slice A4 k4 c4) ∧ w'.cell? ⟨w6.heap.size + 1, 0, none⟩ = some (.int .i64 s5) ∧ w'.cell? ⟨w6.heap.size + 1, 1, none⟩ = some (.slice A5 k5 c5)) 4 (by kernel_rfl) (by kernel_rfl) ⟨x0, x1, y0, y1⟩ (fun hHeld => ?_)
        refine goT_take 0 (v := ?_) rfl (by decide +kernel) (fun _ _ _ h => bodyPostD_put (by decide +kernel) h) (Or.inl ⟨by rfl, ?_⟩) (by assumption) ?_
        rotate_left
        · (intro w_ hSw; (try dsimp only at hSw); go_simp; (try with_reducible rfl))
        try simp only [Act.put, List.setIfInBounds_toArray, List.set_cons_zero, List.set_cons_succ]
        refine goT_take 2 (v := ?_) rfl (by decide +kernel) (fun _ _ _ h => bodyPostD_put (by decide +kernel) h) (Or.inl ⟨by rfl, ?_⟩) (by assumption) ?_
        rotate_left
        · (intro w_ hSw; (try dsimp only at hSw); go_simp; (try with_reducible rfl))
        try simp only [Act.put, List.setIfInBounds_toArray, List.set_cons_zero, List.set_cons_succ]
        refine goT_step 1 rfl (by decide +kernel) (fun K_ hK => ?_)
        go_simp
        have hr := HRR.out
        by_cases hg1 : Mw.gerr (q (Mw.ival s.data.toList) (Mw.ival t.data.toList)) = 0
        · rw [if_pos hg1] at hr
          refine (given_ok _ (HN4.out.below (below_drew (Below.refl _ _))) hk4 hT7 hg1).mono ?_
          rintro e w8 ⟨rfl, hb8⟩
          have HO8 := Lib.hid (HO7.out.next hb8)
          have HB8 : Hid (Below W7.heap.size W7 w8) := Lib.hid (below_of_drew hb8)
          have hT8 := HT.out _ HO8.out.below
          have HRR := Lib.hid hr
          clear hb8 hr hT7 x0 x1 y0 y1
          obtain ⟨⟨x0, x1, -, -⟩, ⟨y0, y1, -, -⟩⟩ := (FM.out.call (by omega) HB8.out).c2
          go_wp2_with fail
          refine hK.out _ _ ⟨x0, x1, y0, y1⟩ (fun hHeld => ?_)
          clear hK
          try simp only [Act.put, List.setIfInBounds_toArray, List.set_cons_zero, List.set_cons_succ]
          refine goT_step 3 rfl (by decide +kernel) (fun K_ hK => ?_)
          go_simp
          have hr := HRR.out
          by_cases hg2 : Mw.gerr (r (Mw.ival s.data.toList) (Mw.ival t.data.toList)) = 0
          · rw [if_pos hg2] at hr
            refine (given_ok _ (HN5.out.below HB8.out) hk5 hT8 hg2).mono ?_
            rintro e w9 ⟨rfl, hb9⟩
            have HO9 := Lib.hid (HO8.out.next hb9)
            have HB9 := Lib.hid (HB8.out.trans (hb9.mono HB8.out.size))
            have HR3 := Lib.hid hr
            clear hb9 hr hT8 x0 x1 y0 y1
            obtain ⟨⟨x0, x1, -, -⟩, ⟨y0, y1, -, -⟩⟩ := (FM.out.call (by omega) HB9.out).c2
            go_wp2_with fail
            refine hK.out _ _ ⟨x0, x1, y0, y1⟩ (fun hHeld => ?_)
            clear hK
            try simp only [Act.put, List.setIfInBounds_toArray, List.set_cons_zero, List.set_cons_succ]
            refine goT_done (by decide +kernel) ?_
            have q0 := HO9.out.cell
            have f0 := HO9.out.frz
            go_wp2
            have hr := HR3.out
            cases hr
            exact door_leave isDoor_parted _ (.int .i64 0) (.tuple #[.string _, .string _, .int .i64 0]) _ (World.cell?_setCell_same _ _ _ q0) (by simp [f0]) (fun W' h => by simp [results, Tryz.results104, go_sem, h])
              (fun W' h => ⟨rfl, (HO9.out.below.setCell (Nat.le_refl _) _).trans h⟩)
          · rw [if_neg hg2] at hr
            refine (given_bad _ (HN5.out.below HB8.out) hk5 hT8 hg2).mono ?_
            rintro e w9 ⟨rfl, hb9⟩
            have HO9 := HO8.out.next hb9
            cases hr
            exact door_caught isDoor_parted _ (.int .i64 0) (.tuple #[.string ⟨#[]⟩, .string ⟨#[]⟩, .int .i64 _]) _ _ (HG.out.below HO9.below) HO9.lt HO9.cell HO9.frz (fun W' h => by simp [results, Tryz.results104, go_sem, h])
              (fun W' h => ⟨rfl, HO9.below.trans h⟩)
        · rw [if_neg hg1] at hr
          refine (given_bad _ (HN4.out.below (below_drew (Below.refl _ _))) hk4 hT7 hg1).mono ?_
          rintro e w8 ⟨rfl, hb8⟩
          have HO8 := HO7.out.next hb8
          cases hr
          exact door_caught isDoor_parted _ (.int .i64 0) (.tuple #[.string ⟨#[]⟩, .string ⟨#[]⟩, .int .i64 _]) _ _ (HG.out.below HO8.below) HO8.lt HO8.cell HO8.frz (fun W' h => by simp [results, Tryz.results104, go_sem, h])
            (fun W' h => ⟨rfl, HO8.below.trans h⟩)
    · rw [Mw.parted, Mw.terr2, if_pos hok, if_neg hok2] at hr
      cases hr
      go_enter_defers Tryz.func104, Tryz.ntmps104
      go_wp2_with (first | (go_at_call 69; with_reducible refine (taken_ok s _ hs hok).mono ?_; rintro e w1 ⟨s1, A1, k1, c1, rfl, hN1, hb1⟩) | (go_at_call 69; with_reducible refine (taken_bad t _ hok2).mono ?_; rintro e w3 ⟨rfl, hb3⟩))
      have HO3 := ((Own.of hb1).next (below_alloc (Below.refl _ _) _)).next hb3
      exact door_caught isDoor_parted _ (.int .i64 0) (.tuple #[.string ⟨#[]⟩, .string ⟨#[]⟩, .int .i64 (Mw.terr t.data.toList)]) _ _ (HG.out.below HO3.below) HO3.lt HO3.cell HO3.frz (fun W' h => by simp [results, Tryz.results104, go_sem, h])
        (fun W' h => ⟨rfl, HO3.below.trans h⟩)
  · rw [Mw.parted, Mw.terr2, if_neg hok, if_neg hok] at hr
    cases hr
    go_enter_defers Tryz.func104, Tryz.ntmps104
    go_wp2_with (first | (go_at_call 69; with_reducible refine (taken_bad s _ hok).mono ?_; rintro e w1 ⟨rfl, hb1⟩; obtain ⟨q0, f0, z0, hB⟩ := own_cell hb1))
    exact door_caught isDoor_parted _ (.int .i64 0) (.tuple #[.string ⟨#[]⟩, .string ⟨#[]⟩, .int .i64 (Mw.terr s.data.toList)]) _ _ (HG.out.below hB) z0 q0 f0 (fun W' h => by simp [results, Tryz.results104, go_sem, h])
      (fun W' h => ⟨rfl, hB.trans h⟩)
end Go.Proofs.YtjieekkkaekclaaGreatDoor
namespace Go.Proofs.YtjieekkkaekclaaGreatDoor
open Go Go.RowKit Go.Proofs.YtjieekkkaekclaaGreatDoorW.PrintWords
theorem fdiv_abs (n m : Int) (hm : m ≠ 0) : (n.fdiv m).natAbs ≤ n.natAbs + 1 ∧ (n.fmod m).natAbs ≤ n.natAbs + m.natAbs := by
  have h1 : (n.tdiv m).natAbs ≤ n.natAbs := by rw [Int.natAbs_tdiv]; exact Nat.div_le_self _ _
  have h2 : (n.tmod m).natAbs ≤ n.natAbs := by rw [Int.natAbs_tmod]; exact Nat.mod_le _ _
  have hv := floor_val (n := n) hm
  by_cases h : n.tmod m = 0 ∨ sgn (n.tmod m) = sgn m
  · rw [(hv.1 h).1, (hv.1 h).2]; omega
  · rw [not_or] at h
    rw [(hv.2 h.1 h.2).1, (hv.2 h.1 h.2).2]; omega
theorem doesTwo_floor : DoesTwo 75 Int.fdiv Int.fmod := fun W {s A k c n s' A' k' c' m} H H' hm hk hk' => by
  refine (floor_any W H H' hm (by omega) (by omega)).mono ?_
  rintro e w' ⟨s2, A2, k2, c2, s3, A3, k3, c3, rfl, hN, hM, hb⟩
  have ha := fdiv_abs n m hm
  have h1 := H.lt hk
  have h2 := H'.lt hk'
  have l2 : k2 ≤ 46 := by
    rw [hN.len, lbs_len_le, Nat.pow_succ]
    have : 0 < 1000000000 ^ 45 := Nat.pow_pos (by omega)
    generalize 1000000000 ^ 45 = X at *
    omega
  have l3 : k3 ≤ 46 := by
    rw [hM.len, lbs_len_le, Nat.pow_succ]
    generalize 1000000000 ^ 45 = X at *
    omega
  exact ⟨s2, A2, k2, c2, s3, A3, k3, c3, rfl, hN, hM, hb, by omega, by omega⟩
set_option maxRecDepth 100000 in
set_option maxHeartbeats 1600000 in
theorem wfloor_any (s t : ByteArray) (w : World) (hs : s.size ≤ 100000) (ht : t.size ≤ 100000) (hg : Ety w) (htab : Tab w) :
    Calls Tryz.prog 38 #[.string s, .string t] w fun e w' => e = .returned (.tuple #[.string ⟨(Mw.parted Int.fdiv Int.fmod s.data.toList t.data.toList).1.toArray⟩, .string ⟨(Mw.parted Int.fdiv Int.fmod s.data.toList t.data.toList).2.1.toArray⟩, .int .i64 (Mw.parted Int.fdiv Int.fmod s.data.toList t.data.toList).2.2]) ∧ Below w.heap.size w w' := by
  have h1 := parted_any 75 Int.fdiv Int.fmod doesTwo_floor (enters Tryz.func75 rfl (by decide)) s t w hs ht hg htab
  generalize Mw.parted Int.fdiv Int.fmod s.data.toList t.data.toList = r at *
  clear hg htab hs ht
  go_enter Tryz.func38, Tryz.ntmps38
  go_wp2_with (first | (go_at_call 104; with_reducible refine h1.mono ?_; rintro e w1 ⟨rfl, hb1⟩))
  exact bodyPost_ret (v := .tuple #[.string ⟨r.1.toArray⟩, .string ⟨r.2.1.toArray⟩, .int .i64 r.2.2]) (by simp [results, Tryz.results38, go_sem]) rfl ⟨rfl, hb1⟩
end Go.Proofs.YtjieekkkaekclaaGreatDoor
