/- Lemmas for the claim beside this text. -/
import Derived.Test.YtjieekkkaekclaaGreatDoorZPAP
import Derived.Test.YtjieekkkaekclaaGreatDoorZPAR
import Derived.Lib.AppendIntMem
import Derived.Lib.ItoaNum
import Derived.Lib.OthersKept
import Derived.Lib.Repeat
set_option linter.all false
set_option linter.unusedVariables false
set_option linter.unusedSimpArgs false
namespace Go.Proofs.YtjieekkkaekclaaGreatDoor
open Go Go.RowKit Go.Shelf Go.Proofs.YtjieekkkaekclaaGreatDoorW.PrintWords
attribute [local go_sem] Oper.semAt_some
set_option maxRecDepth 100000 in
set_option maxHeartbeats 2000000 in
theorem read_minus (s t : ByteArray) (w : World) (ht : s.extract 1 s.size = t) (hst : s.data.toList = 45 :: t.data.toList) (hs : t.size ≤ 100000) (h0 : t.size ≠ 0) (hd : ∀ c ∈ t.data.toList, Mw.dig c = true) :
    Calls Tryz.prog 126 #[.string s] w fun e w' => ∃ s2 A2 k2 c2, e = .returned (.agg #[.int .i64 s2, .slice A2 k2 c2]) ∧ NumAt w' s2 A2 k2 c2 (-(Mw.dval t.data.toList : Int)) ∧ Below w.heap.size w w' := by
  obtain ⟨c1, c2, c3, c4, c5⟩ := chunks_all t.size t rfl hd
  have hp : Lib.hasPrefix s.data.toList (ByteArray.mk #[45]).data.toList = true := by
    rw [hst]; rfl
  have hs1 : s.size = t.size + 1 := by rw [← size_list s, hst, List.length_cons, size_list]
  have hs2 : (1 : Int) ≤ (s.size : Int) := by omega
  have hs3 : s.size ≤ 100001 := by omega
  clear hs1
  obtain ⟨i0, hi, hz0, hz1, hz2⟩ := info_parts info_u32
  refine (callsIn_wide (n := 3)).1 ?_
  refine callsIn_of_wp_marks Tryz.func126 rfl trivial ?_ rfl
  simp only [Tryz.ntmps126, List.size_toArray, List.length_cons, List.length_nil, Nat.reduceAdd, Nat.reduceSub, Array.replicate_succ, Array.replicate_zero, List.push_toArray, List.append_toArray, List.nil_append, List.cons_append]
  gi_wp2_with (first | (refine ⟨trivial, ?_⟩; gi_at_call 151; refine (callsIn_wide.2 (Tryz.strings_HasPrefix _ _ _)).mono ?_; rw [hp]; rintro e w' ⟨rfl, rfl⟩) | (refine ⟨trivial, ?_⟩; gi_at_call 152; refine (callsIn_wide.2 (chunks_calls _ _)).mono ?_; rintro e w' ⟨rfl, rfl⟩))
  gi_region
  gi_wp2_with (first | (refine ⟨trivial, ?_⟩; gi_at_call 151; refine (callsIn_wide.2 (Tryz.strings_HasPrefix _ _ _)).mono ?_; rw [hp]; rintro e w' ⟨rfl, rfl⟩) | (refine ⟨trivial, ?_⟩; gi_at_call 152; refine (callsIn_wide.2 (chunks_calls _ _)).mono ?_; rintro e w' ⟨rfl, rfl⟩))
  refine wpIn_rangeFunc_cell rfl (by omega) (gf := 169) (lb := #[.pointer (some ⟨w.heap.size + 1 + 1, 0, none⟩)]) rfl trivial (enters_of Tryz.func169 (by kernel_rfl) rfl)
    (chunks_seq Fence.wide 2 trivial rfl (by omega) (w.heap.size + 1 + 1) t (by omega)) (fun _ => rfl) (by simp) (by simp [go_sem]) (by simp [go_sem]) (ReadI w) ?own ?cell ?drew ?start
    (fun x => { tmps := #[.string t, undef, .pointer (some ⟨w.heap.size, 0, none⟩), .int .i64 (-1), .pointer (some ⟨w.heap.size + 1, 0, none⟩), .string x, undef, undef, .string s, .bool true, .string s, .string t, .string t, .func (.func 169) #[] #[.pointer (some ⟨w.heap.size + 1 + 1, 0, none⟩)], .string x, undef, undef, undef, undef, undef, undef, undef, undef, undef, undef, undef, undef, undef], defers := [] }) ?assign ?body ?done
  case own => exact readI_own w (by simp; omega)
  case cell => exact fun pre W v h => readI_cell v h
  case drew => exact fun pre W h => readI_call h (below_drew (Below.refl _ _))
  case start =>
    refine ⟨⟨.slice none 0 0, ?_, World.ownsRow_nil _ _ _ _⟩, ⟨.string t, ?_⟩, ?_, below_drew ((((Below.refl _ w).alloc (Nat.le_refl _) _).alloc (by simp) _).alloc (by simp; omega) _)⟩
    · have h := (Boxed.new (w.alloc (.cells #[.int .i64 0, .slice none 0 0] 71)) 69 (.slice none 0 0)).alloc (.cells #[.string t] 9)
      rwa [World.size_alloc] at h
    · have h := Boxed.new ((w.alloc (.cells #[.int .i64 0, .slice none 0 0] 71)).alloc (.cells #[.slice none 0 0] 69)) 9 (.string t)
      rwa [World.size_alloc, World.size_alloc] at h
    · exact ((Below.heap_alloc _ _ _ (by simp; omega)).trans ((Below.heap_alloc _ _ _ (by simp)).trans (World.alloc_heap_new w _)))
  case assign =>
    intro l x W K hK
    gi_wp2
    exact hK
  case body =>
    rintro l pre x W hpx hI hlt
    obtain ⟨g1, g2, g3⟩ := c1 x (hpx.subset (by simp))
    have hlp : pre.length + 1 ≤ t.size := by have h := hpx.length_le; rw [List.length_append, List.length_singleton] at h; omega
    have ha := atoi_dval _ g3 g2
    have hdl := Mw.dval_lt _ g3
    have hsl : x.data.toList.length ≤ 9 := by rw [size_list]; exact g1
    have hpw : 10 ^ x.data.toList.length ≤ 10 ^ 9 := Nat.pow_le_pow_right (by omega) hsl
    have h109 : (10 : Nat) ^ 9 = 1000000000 := by decide
    obtain ⟨d, hdd⟩ : ∃ d : Int, ((Mw.dval x.data.toList : Nat) : Int) = d := ⟨_, rfl⟩
    have hd0 : 0 ≤ d := by omega
    have hd1 : d < 1000000000 := by omega
    rw [hdd] at ha
    have HDD := Lib.hid hdd
    clear hdl hsl hpw h109 hdd hd
    gi_wp2_with (first | (refine ⟨trivial, ?_⟩; gi_at_call 153; refine (CallsIn.inRound l (callsIn_wide.2 (Tryz.strconv_Atoi x _ (by omega) ha _))).mono ?_; rintro e w2 ⟨rfl, ht⟩; refine Hid.out ?_))
    have hb2 : Below W.heap.size W w2 := by obtain ⟨t, rfl⟩ := ht; exact Lib.bytesWorld_below _ _ _
    clear ht
    have hI2 := readI_call hI hb2
    have hcs : w2.cell? ⟨w.heap.size + 1 + 1, 0, none⟩ = W.cell? ⟨w.heap.size + 1 + 1, 0, none⟩ ∧ w2.frozen? ⟨w.heap.size + 1 + 1, 0, none⟩ = W.frozen? ⟨w.heap.size + 1 + 1, 0, none⟩ := ⟨hb2.cell (p := ⟨w.heap.size + 1 + 1, 0, none⟩) hlt, hb2.frozen (p := ⟨w.heap.size + 1 + 1, 0, none⟩) hlt⟩
    have HCS := Lib.hid hcs
    have HB2 := Lib.hid hb2
    obtain ⟨⟨v, hv, hrow⟩, ⟨u, hu⟩, hR, hB⟩ := hI2
    have hc := hv.cell
    have hle2 : w.heap.size ≤ w2.heap.size := hB.size
    have HV := Lib.hid hv
    have HU := Lib.hid hu
    have HROW := Lib.hid hrow
    have HRB := Lib.hid hR
    have HBW := Lib.hid hB
    clear hI hb2 hv hrow hR hB hcs hu
    refine Lib.hid ?_
    gi_wp2_with (gi_at_builtin; refine wpListIn_append_own _ rfl _ _ 69 rfl w.heap.size 121 i0 (.int .u32 0) 1 4 Tryz.underlying69 hi hz0 hz1 hz2 rfl (by decide) _ _ _ rfl (HROW.out.alloc _) ⟨w2.heap.size, 0, none⟩ 1 1 [.int .u32 d] rfl rfl (cell_one_new _ _ _) (by simp [Value.oneCell']) (by unfold maxLen; omega) (by omega) (by simp; omega) ?_; intro v' w3 hown' hgrow _; obtain ⟨g', cap', rfl⟩ := ownsRow_succ hown'; obtain ⟨hv1, hv2, hr2, hk2, hb3⟩ := HV.out.appended (by decide) HROW.out hle2 (by omega) hown' hgrow; have hc1 := hv1.cell; have hf1 := hv1.frozen)
    have hu3 : Boxed w3 (w.heap.size + 1 + 1) 9 u := (HU.out.alloc _).kept hgrow (HU.out.not_row (by decide) HROW.out)
    have hu4 := hu3.other (show w.heap.size + 1 + 1 ≠ w.heap.size + 1 by omega) (.slice (some ⟨g', 0, none⟩) (pre.length + 1) cap')
    have hRn : some w.heap.size ≠ v.ownBlock := by
      rcases HROW.out.2 with ⟨rfl, _⟩ | ⟨g, cap, cur, rfl, _, hgb, _⟩
      · simp [Value.ownBlock]
      · intro e'
        obtain rfl : w.heap.size = g := by simpa [Value.ownBlock] using e'
        have h := HRB.out.symm.trans hgb
        simp at h
    have hR3 := (hgrow.block w.heap.size (by simp; omega) (fun e => hRn e)).trans ((Below.heap_alloc w2 _ _ (Array.getElem?_eq_some_iff.1 HRB.out).1).trans HRB.out)
    refine ⟨(KeepsOthers.of_grownBy (grown_below HB2.out) (fun j o e => by cases e)).trans hk2, ⟨?_, ?_⟩, ⟨_, hv2, ?_⟩, ⟨u, hu4⟩, (Below.heap_setCell _ _ _ _ (by simp)).trans hR3, HBW.out.trans hb3⟩
    · rw [hu4.cell, ← HU.out.cell]; exact HCS.out.1
    · rw [hu4.frozen, ← HU.out.frozen]; exact HCS.out.2
    · have e1 : (limbsOf (pre ++ [x])).map (Value.int .u32) = (limbsOf pre).map (Value.int .u32) ++ [.int .u32 d] := by simp [limbsOf, HDD.out]
      rw [e1, List.length_append, List.length_singleton]
      exact hr2
  case done =>
    rintro D W hD hI hK
    obtain ⟨⟨v, hv, hrow⟩, -, hR, hB⟩ := hI
    obtain ⟨m, hm⟩ : ∃ m, (chunksOf t).length = m + 1 := ⟨(chunksOf t).length - 1, by have := c4 h0; omega⟩
    rw [hm] at hrow
    obtain ⟨g', cap', rfl⟩ := ownsRow_succ hrow
    have hll : (limbsOf (chunksOf t)).length = m + 1 := by simp [limbsOf, hm]
    obtain ⟨ll, hL⟩ : ∃ ll, limbsOf (chunksOf t) = ll := ⟨_, rfl⟩
    rw [hL] at hll hrow c2 c3
    rw [← hll] at hrow hv
    obtain ⟨-, hc1, hc2⟩ := Kd.R_reads' (Kd.R_of_own (h1 := fun _ => rfl) (enc := .int .u32) hrow (fun k _ => trivial) (ok := fun _ => True))
    have hsz := hB.size
    have hDW : D < W.heap.size := (Array.getElem?_eq_some_iff.1 hK).1
    have hD2 : w.heap.size + 3 ≤ D := by simp at hD; omega
    have hlc : (chunksOf t).length ≤ 100000 := by omega
    have HC := Lib.hid hc2
    have HI := Lib.hid c2
    have HVL := Lib.hid c3
    have HK := Lib.hid hK
    have HRB := Lib.hid hR
    have HBW := Lib.hid hB
    have hcv := hv.cell
    have hpos : 0 < ll.length := by omega
    have hlen : ll.length ≤ 1000000 := by omega
    clear hc2 c2 c3 hK hR hB hrow hv hD c1 c4 hd hll hL hm
    gi_wp2_with (first | (refine ⟨trivial, ?_⟩; gi_at_call 129; refine (callsIn_wide.2 (made_num (-1) (some ⟨g', 0, none⟩) ll cap' (Mw.dval t.data.toList) W HC.out hpos hc1 hlen HI.out HVL.out (.inr (.inl rfl)))).mono ?_; rintro e w4 ⟨s4, A4, k4, c4, rfl, hN4, hb4⟩; refine Hid.out ?_))
    have hK4 := (hb4.block D hDW).trans HK.out
    have hR4 := (hb4.block w.heap.size (by omega)).trans HRB.out
    have q0 : w4.cell? ⟨w.heap.size, 0, none⟩ = some (.int .i64 0) := by simp [World.cell?, hR4]
    have q1 : w4.cell? ⟨w.heap.size, 1, none⟩ = some (.slice none 0 0) := by simp [World.cell?, hR4]
    have f0 : w4.frozen? ⟨w.heap.size, 0, none⟩ = false := by simp [World.frozen?, hR4]
    have f1 : w4.frozen? ⟨w.heap.size, 1, none⟩ = false := by simp [World.frozen?, hR4]
    rw [Int.neg_one_mul] at hN4
    obtain ⟨HN1, hA, hBc⟩ := num_store hN4 q0 q1
    have HB4 := Lib.hid (HBW.out.trans (hb4.mono hsz))
    have hK5 : ((w4.setCell ⟨w.heap.size, 0, none⟩ (.int .i64 s4)).setCell ⟨w.heap.size, 1, none⟩ (.slice A4 k4 c4)).heap[D]? = some (.deferred (some [])) := (Below.heap_setCell _ _ _ _ (by simp; omega)).trans ((Below.heap_setCell _ _ _ _ (by simp; omega)).trans hK4)
    have HK5 := Lib.hid hK5
    clear hN4 hb4 hK4 hK5
    refine Lib.hid ?_
    gi_wp2
    have z0 := (cell_putObj (W := (w4.setCell ⟨w.heap.size, 0, none⟩ (.int .i64 s4)).setCell ⟨w.heap.size, 1, none⟩ (.slice A4 k4 c4)) (l := D) (b := w.heap.size) (o := 0) (x := .deferred none) (by omega)).1
    have z1 := (cell_putObj (W := (w4.setCell ⟨w.heap.size, 0, none⟩ (.int .i64 s4)).setCell ⟨w.heap.size, 1, none⟩ (.slice A4 k4 c4)) (l := D) (b := w.heap.size) (o := 1) (x := .deferred none) (by omega)).1
    rw [World.cell?_setCell_other _ _ _ _ (by simp), hA] at z0
    rw [hBc] at z1
    refine ⟨by simp, .inl ⟨_, _, rfl, run_takeDeferred HK5.out, ?_⟩⟩
    exact ⟨.agg #[.int .i64 s4, .slice A4 k4 c4], by simp [results, Tryz.results126, go_sem, z0, z1], s4, A4, k4, c4, rfl, HN1.out.putObj HK5.out _, ((HB4.out.setCell (by simp) _).setCell (by simp) _).trans (belowK_b (w := w) (Nat.le_refl _) _ D _ _ (by omega) HK5.out rfl rfl)⟩
theorem cand_digs {l : List UInt8} (h : Mw.cand l = true) : l ≠ [] ∧ ∀ c ∈ l, Mw.dig c = true := by
  simp only [Mw.cand, Bool.and_eq_true, Bool.not_eq_true', List.all_eq_true] at h
  exact ⟨fun e => by rw [e] at h; simp at h, h.1.2⟩
theorem read_any (s : ByteArray) (w : World) (hs : s.size ≤ 100000) (hok : Mw.okf s.data.toList = true) :
    Calls Tryz.prog 126 #[.string s] w fun e w' => ∃ s2 A2 k2 c2, e = .returned (.agg #[.int .i64 s2, .slice A2 k2 c2]) ∧ NumAt w' s2 A2 k2 c2 (Mw.ival s.data.toList) ∧ Below w.heap.size w w' := by
  simp only [Mw.okf, Bool.and_eq_true] at hok
  obtain ⟨hne, hd⟩ := cand_digs hok.1
  by_cases hm : Mw.isM s.data.toList = true
  · obtain ⟨l, hl⟩ : ∃ l, s.data.toList = 45 :: l := by
      generalize s.data.toList = l at *
      cases l with
      | nil => simp [Mw.isM] at hm
      | cons b r => simp [Mw.isM] at hm; exact ⟨r, by rw [hm]⟩
    have hu : Mw.unm s.data.toList = l := by rw [hl]; rfl
    rw [hu] at hne hd
    have ht : (s.extract 1 s.size).data.toList = l := by rw [ext_list, List.take_of_length_le (by rw [size_list]; exact Nat.le_refl _), hl]; rfl
    have hsz : (s.extract 1 s.size).size = l.length := by rw [← size_list, ht]
    have hsl : s.size = l.length + 1 := by rw [← size_list, hl]; rfl
    have hlp : l.length ≠ 0 := fun h => hne (List.length_eq_zero_iff.mp h)
    have h := read_minus s (s.extract 1 s.size) w rfl (by rw [ht, hl]) (by omega) (by omega) (by rw [ht]; exact hd)
    rw [ht] at h
    rw [show Mw.ival s.data.toList = -(Mw.dval l : Int) by rw [Mw.ival, if_pos hm, hu]]
    exact h
  · have hm' : Mw.isM s.data.toList = false := by simpa using hm
    have hu := Mw.unm_of hm'
    rw [hu] at hne hd
    rw [show Mw.ival s.data.toList = (Mw.dval s.data.toList : Int) by rw [Mw.ival, hm', hu]; rfl]
    exact read_plus s w hs (fun h => hne (List.length_eq_zero_iff.mp (by rw [size_list]; exact h))) hd
end Go.Proofs.YtjieekkkaekclaaGreatDoor
namespace Go.Proofs.YtjieekkkaekclaaGreatDoor
open Go
theorem decDigits_dtxt (n : Nat) : Lib.decDigits n = Mw.dtxt n := by
  induction n using Nat.strongRecOn with
  | _ n ih =>
    by_cases h : n < 10
    · rw [Lib.decDigits, dif_pos h, Mw.dtxt_small h]; rfl
    · rw [Lib.decDigits, dif_neg h, Mw.dtxt_big (by omega), ih _ (by omega)]; rfl
theorem itoa_dtxt (n : Int) (h : 0 ≤ n) : Lib.itoa n = Mw.dtxt n.toNat := by
  rw [Lib.itoa, if_neg (by omega), decDigits_dtxt]
theorem repeatL_zeros (c : Nat) : Lib.repeatL [48] c = List.replicate c 48 := by
  induction c with
  | zero => rfl
  | succ c ih => rw [Lib.repeatL, ih, List.replicate_succ]; rfl
def pad9 (d : Nat) : List UInt8 := List.replicate (9 - (Mw.dtxt d).length) 48 ++ Mw.dtxt d
theorem dval_zeros (c : Nat) : Mw.dval (List.replicate c 48) = 0 := by
  induction c with
  | zero => rfl
  | succ c ih => rw [List.replicate_succ, Mw.dval_cons, ih]; simp
theorem pad9_len {d : Nat} (h : d < 1000000000) : (pad9 d).length = 9 := by
  have := (Mw.dtxt_len_le d 9 (by omega)).mpr (by omega)
  simp only [pad9, List.length_append, List.length_replicate]; omega
theorem pad9_val (d : Nat) : Mw.dval (pad9 d) = d := by
  rw [pad9, Mw.dval_append, dval_zeros, Mw.dval_dtxt]; omega
theorem pad9_digs (d : Nat) : ∀ c ∈ pad9 d, Mw.dig c = true := by
  intro c hc
  simp only [pad9, List.mem_append, List.mem_replicate] at hc
  rcases hc with ⟨_, rfl⟩ | hc
  · decide
  · exact Mw.dtxt_digs d c hc
theorem dtxt_pad (x d : Nat) (hx : 0 < x) (hd : d < 1000000000) : Mw.dtxt (x * 1000000000 + d) = Mw.dtxt x ++ pad9 d := by
  have hv : Mw.dval (Mw.dtxt x ++ pad9 d) = x * 1000000000 + d := by
    rw [Mw.dval_append, Mw.dval_dtxt, pad9_len hd, pad9_val]
  have hc : Mw.cand (Mw.dtxt x ++ pad9 d) = true := by
    obtain ⟨c, l, e, h1, h2⟩ := Mw.dtxt_head x hx
    simp only [Mw.cand, Bool.and_eq_true, Bool.not_eq_true', List.all_eq_true]
    refine ⟨⟨by rw [e]; rfl, fun y hy => ?_⟩, ?_⟩
    · rcases List.mem_append.mp hy with hy | hy
      · exact Mw.dtxt_digs x y hy
      · exact pad9_digs d y hy
    · rw [Bool.or_eq_true]
      right
      rw [e]
      simp [h2]
  rw [← hv]
  exact Mw.dtxt_dval _ hc
theorem text_step {l : List Int} (hi : Mw.inB 1000000000 l) {j : Nat} (hj : j + 1 < l.length) (hp : 0 < Mw.lv 1000000000 (l.drop (j + 1))) :
    Mw.dtxt (Mw.lv 1000000000 (l.drop j)).toNat = Mw.dtxt (Mw.lv 1000000000 (l.drop (j + 1))).toNat ++ pad9 (l.getD j 0).toNat ∧ 0 < Mw.lv 1000000000 (l.drop j) := by
  have hd := Mw.inB_getD (by omega) hi j
  rw [drop_getD l j (by omega), Mw.lv_cons]
  generalize Mw.lv 1000000000 (l.drop (j + 1)) = x at *
  generalize l.getD j 0 = d at *
  refine ⟨?_, by omega⟩
  rw [← dtxt_pad x.toNat d.toNat (by omega) (by omega)]
  congr 1
  omega
theorem text_top {l : List Int} (hi : Mw.inB 1000000000 l) {j : Nat} (hj : j + 1 = l.length) : Mw.lv 1000000000 (l.drop j) = l.getD j 0 := by
  rw [drop_getD l j (by omega), List.drop_of_length_le (by omega), Mw.lv_cons, Mw.lv_nil]; omega
end Go.Proofs.YtjieekkkaekclaaGreatDoor
namespace Go.Proofs.YtjieekkkaekclaaGreatDoor
open Go Go.RowKit Go.Proofs.YtjieekkkaekclaaGreatDoorW.PrintWords
theorem builder_below {T e : TypeId} {B b : Nat} {bs : List Value} {W W' : World} (h : Lib.IsBuilderF T e B b bs W) (hb : Below W.heap.size W W') : Lib.IsBuilderF T e B b bs W' := by
  have one : ∀ p, Lib.BuilderAtF T e B b p bs W → Lib.BuilderAtF T e B b p bs W' := fun p h => by
    have hlt := h.lt
    obtain ⟨hB, v, hv, hown, hne⟩ := h
    exact ⟨hB, v, (hb.block b hlt).trans hv, hown.kept (row := none) ⟨hb.os, hb.tape, hb.output, hb.size, fun k hk _ => hb.block k hk⟩ (Classical.em _), hne⟩
  exact h.elim (fun x => .inl (one _ x)) (fun x => .inr (one _ x))
abbrev Tab (W : World) : Prop := Lib.TabIs Tryz.prog W "internal/strconv.uint64pow10" .u64 Lib.pow10Tab
theorem itoa_calls (n : Int) (h0 : 0 ≤ n) (h1 : n < 1000000000) (W : World) (ht : Tab W) :
    Calls Tryz.prog 156 #[.int .i64 n] W fun e w' => e = .returned (.string ⟨(Mw.dtxt n.toNat).toArray⟩) ∧ Below W.heap.size W w' := by
  refine (Tryz.strconv_Itoa n (by omega) (by omega) W ht).mono ?_
  rintro e w' ⟨rfl, k, os, rfl⟩
  exact ⟨by rw [itoa_dtxt n h0], Lib.below_grow _ W (Nat.le_refl _) k os⟩
theorem repeat_calls (c : Nat) (W : World) (hc : c ≤ 1000) :
    Calls Tryz.prog 157 #[.string ⟨#[48]⟩, .int .i64 c] W fun e w' => e = .returned (.string ⟨(List.replicate c 48).toArray⟩) ∧ Below W.heap.size W w' := by
  refine (Tryz.strings_Repeat ⟨#[48]⟩ c W (by omega) (by simp [ByteArray.size]; omega)).mono ?_
  rintro e w' ⟨rfl, hb⟩
  exact ⟨by rw [show ({ data := #[48] } : ByteArray).data.toList = [48] from rfl, repeatL_zeros], hb⟩
theorem write_calls (B : Nat) (t x : List UInt8) (W : World) (h : Lib.IsBuilderF 165 5 B B (Lib.byteCells t) W) (hl : t.length + x.length ≤ 10000000) (hB : B ≤ W.heap.size) :
    Calls Tryz.prog 155 #[.pointer (some ⟨B, 0, none⟩), .string ⟨x.toArray⟩] W fun e w' => (∃ v, e = .returned v) ∧ Lib.IsBuilderF 165 5 B B (Lib.byteCells (t ++ x)) w' ∧ Below B W w' := by
  refine (Tryz.Builder_WriteString_k B B (Lib.byteCells t) ⟨x.toArray⟩ W h (by rw [Lib.byteCells_length]; simp only [ByteArray.size, List.size_toArray]; omega) hB).mono ?_
  rintro e w' ⟨rfl, hb, hw, -⟩
  refine ⟨⟨_, rfl⟩, .inr ?_, hw⟩
  rw [Lib.byteCells_append]
  have : Lib.strCells ⟨x.toArray⟩ = Lib.byteCells x := by simp [Lib.strCells, Lib.byteCells]
  rw [this] at hb
  exact hb
set_option maxRecDepth 100000 in
set_option maxHeartbeats 2000000 in
theorem text_any {s : Int} {A : Option Addr} {k c : Nat} {n : Int} (w : World) (H : NumAt w s A k c n) (hk : k ≤ 100000) (ht : Tab w) :
    Calls Tryz.prog 127 #[.agg #[.int .i64 s, .slice A k c]] w fun e w' => e = .returned (.string ⟨(Mw.itxt n).toArray⟩) ∧ Below w.heap.size w w' := by
  have F0 := bxs_fr 71 [⟨s, A, k, c⟩] w
  have hb0 := bxs_below 71 [⟨s, A, k, c⟩] w (Nat.le_refl _) (Below.refl _ _)
  simp only [bxs] at F0 hb0
  have HT := Lib.hid (Lib.tabBelow_of_tabIs ht)
  by_cases hs : s = 0
  · have hn : n = 0 := by have := H.sign; rcases sgn_cases n with ⟨e1, h1⟩ | ⟨e1, h1⟩ | ⟨e1, h1⟩ <;> omega
    subst hs; subst hn
    have HB := Lib.hid hb0
    clear F0 hb0 H ht
    go_enter Tryz.func127, Tryz.ntmps127
    go_wp2
    go_ret
    exact ⟨by rw [Mw.itxt_zero]; rfl, HB.out⟩
  · have hn : n ≠ 0 := by have := H.sign; rcases sgn_cases n with ⟨e1, h1⟩ | ⟨e1, h1⟩ | ⟨e1, h1⟩ <;> omega
    obtain ⟨l, rfl, el, hc, hC, hi, hv⟩ := H.named
    have hp : 0 < l.length := by rw [el, lbs_len_pos]; omega
    have HF := Lib.hid F0
    have HB := Lib.hid hb0
    have hbl := Lib.fresh_isBuilder 165 5 (w.alloc (.cells #[.int .i64 s, .slice A l.length c] 71))
    rw [World.size_alloc] at hbl
    have HBL := Lib.hid (Lib.IsBuilderF.of hbl)
    have HC := Lib.hid hC
    have HI := Lib.hid hi
    have HV := Lib.hid hv
    have HEL := Lib.hid el
    have hsb := H.bd
    have HS := Lib.hid H.sign
    have hs' : (s == 0) = false := by simpa using hs
    clear F0 hb0 hbl hC hi hv el H ht hs
    go_enter Tryz.func127, Tryz.ntmps127
    obtain ⟨W0, hW0⟩ : ∃ W, w.alloc (.cells #[.int .i64 s, .slice A l.length c] 71) = W := ⟨_, rfl⟩
    have hsz0 : W0.heap.size = w.heap.size + 1 := by rw [← hW0]; simp
    rw [hW0] at HBL HF HB
    obtain ⟨sg, hsg⟩ : ∃ x : List UInt8, (if n < 0 then [45] else []) = x := ⟨_, rfl⟩
    have HSG := Lib.hid hsg
    obtain ⟨a0, a1, -, -⟩ := HF.out.c1
    go_upto_if 12 with (first | go_in)
    go_cut [] (fun wc => Hid (Lib.IsBuilderF 165 5 (w.heap.size + 1) (w.heap.size + 1) (Lib.byteCells sg) wc) ∧ Hid (Below (w.heap.size + 1) W0 wc))
    case first =>
      by_cases hneg : s = -1
      · subst hneg
        have hn0 : n < 0 := by have := HS.out; rcases sgn_cases n with ⟨e1, h1⟩ | ⟨e1, h1⟩ | ⟨e1, h1⟩ <;> omega
        rw [if_pos hn0] at hsg
        subst hsg
        go_wp2_with (first | (go_at_call 154; refine (Tryz.Builder_WriteByte_k (w.heap.size + 1) (w.heap.size + 1) [] 45 _ HBL.out (by simp) (by simp; omega)).mono ?_; rintro e w1 ⟨rfl, hb1, hw1, -⟩) | go_in)
        go_meet
        case rel => exact ⟨Lib.hid (.inr (by simpa [Lib.byteCells] using hb1)), Lib.hid (((Below.refl _ W0).alloc (by omega) _).trans hw1)⟩
      · have hn0 : ¬ n < 0 := by have := HS.out; rcases sgn_cases n with ⟨e1, h1⟩ | ⟨e1, h1⟩ | ⟨e1, h1⟩ <;> omega
        rw [if_neg hn0] at hsg
        subst hsg
        have hneg' : (s == -1) = false := by simpa using hneg
        go_wp2_with (first | go_in)
        go_meet
        case rel => exact ⟨HBL, Lib.hid ((Below.refl _ W0).alloc (by omega) _)⟩
    case rest =>
      obtain ⟨HBC, HBE⟩ := hcut
      have keep : ∀ W : World, Below (w.heap.size + 1) W0 W → W.cell? ⟨w.heap.size, 0, none⟩ = some (.int .i64 s) ∧ W.cell? ⟨w.heap.size, 1, none⟩ = some (.slice A l.length c) ∧ Kd.C (Kd.int .u32) W A l.length l ∧ Tab W ∧ w.heap.size + 1 ≤ W.heap.size ∧ Below w.heap.size w W := by
        intro W hb
        have hb' : Below W0.heap.size W0 W := by rw [hsz0]; exact hb
        obtain ⟨k0, k1, -, -⟩ := (HF.out.call (by omega) hb').c1
        have hw' : Below w.heap.size w W := HB.out.trans (hb'.mono (by omega))
        exact ⟨k0, k1, Kd.C_below HC.out hw', HT.out W hw', by have := hb'.size; omega, hw'⟩
      obtain ⟨last, hlast⟩ : ∃ x, l.length - 1 = x := ⟨_, rfl⟩
      have hl1 : (l.length : Int) - 1 = (last : Int) := by omega
      have hlt : last < l.length := by omega
      have HK := Lib.hid keep
      clear keep a0 a1 hW0
      obtain ⟨a0, a1, hC1, hT1, hz1, -⟩ := HK.out _ HBE.out
      obtain ⟨ad, eA, hcd⟩ := Kd.at_int hC1 last (by omega) (by omega)
      simp only [Int.toNat_natCast, rd] at hcd
      obtain ⟨d, hd⟩ : ∃ d, l.getD last 0 = d := ⟨_, rfl⟩
      have hdb := Mw.inB_getD (by omega) HI.out last
      rw [hd] at hcd hdb
      have HT1 := Lib.hid hT1
      have hd1 : 0 < d := by
        have h := lbs_top (n := n.natAbs) (k := last) (by rw [← HEL.out]; omega)
        rw [← HEL.out, hd] at h; omega
      clear hT1 hC1
      subst eA
      have hsgl : sg.length ≤ 1 := by rw [← HSG.out]; split <;> simp
      have hdl := (Mw.dtxt_len_le d.toNat 9 (by omega)).mpr (by omega)
      have hlx : sg.length + (Mw.dtxt d.toNat).length ≤ 10000000 := by omega
      have hln : (sg ++ Mw.dtxt d.toNat).length ≤ 10 + 9 * 0 := by rw [List.length_append]; omega
      have HLN := Lib.hid hln
      clear hsgl hln
      go_wp2_with (first | (go_at_call 156; refine (itoa_calls d hdb.1 hdb.2 _ HT1.out).mono ?_; rintro e w1 ⟨rfl, hb1⟩; have HB1 := Lib.hid hb1; have hz2 : w.heap.size + 1 ≤ w1.heap.size := Nat.le_trans hz1 hb1.size; have HBD := Lib.hid (builder_below HBC.out hb1)) | (go_at_call 155; refine (write_calls (w.heap.size + 1) sg (Mw.dtxt d.toNat) _ HBD.out hlx hz2).mono ?_; rintro e w2 ⟨⟨vw, rfl⟩, hb2, hw2⟩; refine Hid.out ?_))
      have HBW2 := Lib.hid (HBE.out.trans ((HB1.out.mono hz1).trans hw2))
      have HBD2 := Lib.hid hb2
      clear hb2 hw2 hcd a0 a1
      refine Lib.hid ?_
      go_wp2_with fail
      have hxt : sg ++ Mw.dtxt d.toNat = sg ++ Mw.dtxt (Mw.lv 1000000000 (l.drop (last - 0))).toNat := by rw [Nat.sub_zero, text_top HI.out (by omega), hd]
      have HXT := Lib.hid hxt
      have HP0 : Hid (0 < Mw.lv 1000000000 (l.drop (last - 0))) := Lib.hid (by rw [Nat.sub_zero, text_top HI.out (by omega), hd]; exact hd1)
      clear hxt
      go_loopw [27] (fun v27 wr => ∃ (j : Nat) (t : List UInt8), j ≤ last ∧ v27 = .int .i64 j ∧ Hid (t = sg ++ Mw.dtxt (Mw.lv 1000000000 (l.drop (last - j))).toNat) ∧ Hid (t.length ≤ 10 + 9 * j) ∧ Hid (0 < Mw.lv 1000000000 (l.drop (last - j))) ∧ Hid (Lib.IsBuilderF 165 5 (w.heap.size + 1) (w.heap.size + 1) (Lib.byteCells t) wr) ∧ Hid (Below (w.heap.size + 1) W0 wr)) (fun v27 _ => last - (intOf v27).toNat)
      case atStart => exact ⟨0, sg ++ Mw.dtxt d.toNat, by omega, rfl, HXT, HLN, HP0, HBD2, HBW2⟩
      case round =>
        obtain ⟨j, t, hj, rfl, HT2, HLE, HP, HBT, HBW3⟩ := hrel
        clear HBD HBD2 HBW2 HB1 HXT HP0
        obtain ⟨a0, a1, hC3, hT3, hz3, hBw3⟩ := HK.out _ HBW3.out
        have HT3 := Lib.hid hT3
        have HB3 := Lib.hid hBw3
        clear hT3 hBw3
        by_cases hlj : j < last
        · obtain ⟨i, hi⟩ : ∃ i, last - 1 - j = i := ⟨_, rfl⟩
          have hi1 : (last : Int) - 1 - (j : Int) = (i : Int) := by omega
          have hlj' : (j : Int) < (last : Int) := by omega
          obtain ⟨ad', eA, hcd⟩ := Kd.at_int hC3 i (by omega) (by omega)
          obtain rfl : ad = ad' := by simpa using eA
          simp only [Int.toNat_natCast, rd] at hcd
          obtain ⟨y, hy⟩ : ∃ y, l.getD i 0 = y := ⟨_, rfl⟩
          have hyb := Mw.inB_getD (by omega) HI.out i
          rw [hy] at hcd hyb
          have hstep := text_step HI.out (j := i) (by omega) (by have h := HP.out; rw [show last - j = i + 1 by omega] at h; exact h)
          rw [hy, show i + 1 = last - j by omega] at hstep
          have HST := Lib.hid hstep
          have hyl := (Mw.dtxt_len_le y.toNat 9 (by omega)).mpr (by omega)
          obtain ⟨z, hz⟩ : ∃ z, 9 - (Mw.dtxt y.toNat).length = z := ⟨_, rfl⟩
          have e9 : (9 : Int) - ((Mw.dtxt y.toNat).length : Int) = (z : Int) := by omega
          have hz9 : z ≤ 9 := by omega
          have hrl : (List.replicate z (48 : UInt8)).length = z := List.length_replicate
          have htl : t.length ≤ 1000000 := by have := HLE.out; omega
          have hl5 : t.length + (List.replicate z (48 : UInt8)).length ≤ 10000000 := by omega
          have hl6 : (t ++ List.replicate z (48 : UInt8)).length + (Mw.dtxt y.toNat).length ≤ 10000000 := by rw [List.length_append]; omega
          have hl7 : (t ++ List.replicate z (48 : UInt8) ++ Mw.dtxt y.toNat).length = t.length + 9 := by rw [List.length_append, List.length_append]; omega
          have HL7 := Lib.hid hl7
          have HZ := Lib.hid hz
          clear hC3 hstep hrl htl hz hyl hl7
          go_wp2_with (first | (go_at_call 156; refine (itoa_calls y hyb.1 hyb.2 _ HT3.out).mono ?_; rintro e w4 ⟨rfl, hb4⟩; refine Hid.out ?_))
          have HBT4 := Lib.hid (builder_below HBT.out hb4)
          have hz4 : w.heap.size + 1 ≤ w4.heap.size := Nat.le_trans hz3 hb4.size
          have HB4 := Lib.hid (HBW3.out.trans (hb4.mono hz3))
          clear hb4 hcd a0 a1
          refine Lib.hid ?_
          go_wp2_with (first | (go_at_call 157; refine (repeat_calls z _ (by omega)).mono ?_; rintro e w5 ⟨rfl, hb5⟩; have HB5 := Lib.hid hb5; have hz5 : w.heap.size + 1 ≤ w5.heap.size := Nat.le_trans hz4 hb5.size; have HBT5 := Lib.hid (builder_below HBT4.out hb5)) | (go_at_call 155; refine (write_calls (w.heap.size + 1) t (List.replicate z 48) _ HBT5.out hl5 hz5).mono ?_; rintro e w6 ⟨⟨vw6, rfl⟩, hb6, hw6⟩; refine Hid.out ?_))
          have HBT6 := Lib.hid hb6
          have hz6 : w.heap.size + 1 ≤ w6.heap.size := Nat.le_trans hz5 hw6.size
          have HB6 := Lib.hid (HB4.out.trans ((HB5.out.mono hz4).trans hw6))
          clear hb6 hw6
          refine Lib.hid ?_
          go_wp2_with (first | (go_at_call 155; refine (write_calls (w.heap.size + 1) (t ++ List.replicate z 48) (Mw.dtxt y.toNat) _ HBT6.out hl6 hz6).mono ?_; rintro e w7 ⟨⟨vw7, rfl⟩, hb7, hw7⟩; refine Hid.out ?_))
          have HBT7 := Lib.hid hb7
          have HB7 := Lib.hid (HB6.out.trans hw7)
          clear hb7 hw7
          refine Lib.hid ?_
          go_wp2_with fail
          have hj1 : last - (j + 1) = i := by omega
          refine ⟨⟨j + 1, _, by omega, by simp, Lib.hid ?_, Lib.hid ?_, Lib.hid ?_, HBT7, HB7⟩, ?_⟩
          · rw [hj1, HST.out.1, HT2.out, pad9, HZ.out]
            simp only [List.append_assoc]
          · have h1 := HL7.out; have h2 := HLE.out; omega
          · rw [hj1]; exact HST.out.2
          · simp only [intOf]; omega
        · obtain rfl : j = last := by omega
          have hlj' : ¬ (j : Int) < (j : Int) := by omega
          clear hC3
          go_wp2_with (first | (go_at_call 158; refine (Tryz.Builder_String_any_k (w.heap.size + 1) (w.heap.size + 1) t _ HBT.out (by omega)).mono ?_; rintro e w8 ⟨rfl, hb8, hw8, -⟩; have HB8 := Lib.hid (HBW3.out.trans hw8)))
          have hit : t = Mw.itxt n := by
            rw [HT2.out, Nat.sub_self, List.drop_zero, HV.out, ← HSG.out, Mw.itxt]
            split <;> simp
          have hfin := (HK.out _ HB8.out).2.2.2.2.2
          rw [hit]
          go_ret
          exact ⟨rfl, hfin⟩
end Go.Proofs.YtjieekkkaekclaaGreatDoor
namespace Go.Proofs.YtjieekkkaekclaaGreatDoor
open Go Go.RowKit Go.Proofs.YtjieekkkaekclaaGreatDoorW.PrintWords
theorem trim_minus (l : List UInt8) : Lib.trimPrefix l [45] = Mw.unm l := by
  unfold Lib.trimPrefix
  match l with
  | [] => rfl
  | c :: l =>
    by_cases h : c = 45
    · subst h; simp [Lib.hasPrefix, Mw.unm]
    · rw [Mw.unm_of (by simpa [Mw.isM] using h)]
      simp [Lib.hasPrefix, Ne.symm h]
theorem decode_high (s : ByteArray) (pos : Nat) (h : pos < s.size) (ha : 128 ≤ (s[pos]'h).toNat) : 128 ≤ (Utf8.decode s pos).1 := by
  have e : s.get! (pos + 0) = s[pos]'h := by
    show s.get! pos = _
    simp [ByteArray.get!, getElem!_pos, h]
    rfl
  simp only [Utf8.decode, e, Utf8.runeError]
  rw [if_neg (by omega)]
  repeat' split
  all_goals (first | decide | (rename_i hc; (try simp only [Bool.and_eq_true, decide_eq_true_eq] at hc); dsimp only; omega))
theorem decode_byte (s : ByteArray) (pos : Nat) (h : pos < s.size) : ((Utf8.decode s pos) = ((s[pos]'h).toNat, 1) ∧ (s[pos]'h).toNat < 128) ∨ (128 ≤ (Utf8.decode s pos).1 ∧ 128 ≤ (s[pos]'h).toNat) := by
  rcases Nat.lt_or_ge (s[pos]'h).toNat 128 with hl | hl
  · exact .inl ⟨decode_ascii s pos h hl, hl⟩
  · exact .inr ⟨decode_high s pos h hl, hl⟩
theorem at_list {l : List UInt8} {ds : ByteArray} (h : ({ data := l.toArray } : ByteArray) = ds) : ds.size = l.length ∧ ∀ i (h : i < ds.size), (ds[i]'h) = l.getD i 0 := by
  subst h
  refine ⟨rfl, fun i h => ?_⟩
  have h2 : i < l.length := h
  have e : l.getD i 0 = l[i] := by simp [List.getD, List.getElem?_eq_getElem h2]
  rw [e]
  rfl
theorem dig_iff (c : UInt8) : Mw.dig c = true ↔ 48 ≤ c.toNat ∧ c.toNat ≤ 57 := by
  simp only [Mw.dig, Bool.and_eq_true, decide_eq_true_eq]
theorem dig_no {c : UInt8} (h : ¬ (48 ≤ c.toNat ∧ c.toNat ≤ 57)) : Mw.dig c = false := by
  rw [Bool.eq_false_iff, ne_eq, dig_iff]; exact h
theorem all_getD {l : List UInt8} : l.all Mw.dig = true ↔ ∀ i, i < l.length → Mw.dig (l.getD i 0) = true := by
  rw [List.all_eq_true]
  constructor
  · intro h i hi
    rw [show l.getD i 0 = l[i] by simp [List.getD, List.getElem?_eq_getElem hi]]
    exact h _ (List.getElem_mem hi)
  · intro h c hc
    obtain ⟨i, hi, rfl⟩ := List.getElem_of_mem hc
    have := h i hi
    rwa [show l.getD i 0 = l[i] by simp [List.getD, List.getElem?_eq_getElem hi]] at this
theorem okf_first {s L : List UInt8} (h : Mw.unm s = L) (hn : ∃ i, Mw.dig (L.getD i 0) = false ∧ i < L.length) : Mw.okf s = false := by
  obtain ⟨i, h1, h2⟩ := hn
  have : L.all Mw.dig = false := by
    rw [Bool.eq_false_iff, ne_eq, all_getD]
    intro hh
    rw [hh i h2] at h1; cases h1
  simp [Mw.okf, Mw.cand, h, this]
theorem okf_zero {s r : List UInt8} {d : UInt8} (h : Mw.unm s = d :: r) (h1 : d.toNat = 48) (h2 : 1 < r.length + 1 ∨ 1 < s.length) : Mw.okf s = false := by
  have hd : d = 48 := UInt8.toNat_inj.mp h1
  subst hd
  by_cases hr : r = []
  · subst hr
    have hs : 1 < s.length := by simpa using h2
    have : s = [45, 48] := by
      match s, h, hs with
      | [c], _, hs => simp at hs
      | c :: c2 :: t, h, _ =>
        by_cases hc : c = 45
        · subst hc; rw [Mw.unm_cons] at h; rw [h]
        · rw [Mw.unm_of (by simpa [Mw.isM] using hc)] at h
          simp at h
    subst this
    rfl
  · have : 0 < r.length := List.length_pos_iff.mpr hr
    have hl : ¬ (r.length + 1 ≤ 1) := by omega
    have hc : Mw.cand (48 :: r) = false := by
      simp only [Mw.cand, List.length_cons, hl, decide_false, Bool.false_or, List.head?_cons, beq_self_eq_true, Bool.not_true, Bool.and_false]
    rw [Mw.okf, h, hc]; rfl
theorem okf_last {s r L : List UInt8} {d : UInt8} (h : Mw.unm s = L) (hL : d :: r = L) (hall : ∀ i, i < L.length → Mw.dig (L.getD i 0) = true) (hz : ¬ d.toNat = 48 ∨ (r.length + 1 ≤ 1 ∧ s.length ≤ 1)) : Mw.okf s = true := by
  subst hL
  have ha := all_getD.mpr hall
  have hne : (s == [45, 48]) = false := by
    rw [Bool.eq_false_iff]
    intro he
    have he : s = [45, 48] := by simpa using he
    subst he
    rw [Mw.unm_cons] at h
    rcases hz with hz | hz
    · cases h; exact hz rfl
    · simp at hz
  have hc : Mw.cand (d :: r) = true := by
    simp only [Mw.cand, ha, List.isEmpty_cons, Bool.not_false, Bool.true_and, Bool.or_eq_true, decide_eq_true_eq]
    rcases hz with hz | hz
    · right
      simp only [List.head?_cons, Bool.not_eq_true']
      rw [Bool.eq_false_iff]
      intro he
      exact hz (by have : d = 48 := by simpa using he
                   subst this; rfl)
    · left; simpa using hz.1
  rw [Mw.okf, h, hc, hne]; rfl
set_option maxRecDepth 100000 in
set_option maxHeartbeats 1600000 in
theorem form_any (s : ByteArray) (w : World) :
    Calls Tryz.prog 125 #[.string s] w fun e w' => e = .returned (.bool (Mw.okf s.data.toList)) ∧ Below w.heap.size w w' := by
  obtain ⟨D, hD⟩ : ∃ D, Mw.unm s.data.toList = D := ⟨_, rfl⟩
  have htr : ∀ W, Calls Tryz.prog 121 #[.string s, .string ⟨#[45]⟩] W fun e w' => e = .returned (.string ⟨D.toArray⟩) ∧ w' = W := fun W => by
    refine (Tryz.strings_TrimPrefix s ⟨#[45]⟩ W).mono ?_
    rintro e w' ⟨rfl, rfl⟩
    exact ⟨by rw [show ({ data := #[45] } : ByteArray).data.toList = [45] from rfl, trim_minus, hD], rfl⟩
  match D, hD with
  | [], hD =>
    go_enter Tryz.func125, Tryz.ntmps125
    go_wp2_with (first | (go_at_call 121; refine (htr _).mono ?_; rintro e w1 ⟨rfl, rfl⟩))
    go_ret
    exact ⟨by simp [Mw.okf, hD, Mw.cand], Below.refl _ _⟩
  | d :: r, hD =>
    have h0 : ∀ h, (({ data := (d :: r).toArray } : ByteArray)[0]'h).toNat = d.toNat := fun _ => rfl
    by_cases hbad : d.toNat = 48 ∧ (1 < r.length + 1 ∨ 1 < s.size)
    · have hsl : s.data.toList.length = s.size := rfl
      have hbz : 1 < r.length + 1 ∨ 1 < s.data.toList.length := by rw [hsl]; exact hbad.2
      have hres : Mw.okf s.data.toList = false := okf_zero hD hbad.1 hbz
      clear hsl hbz
      have h1 : (d.toNat : Int) = 48 := by omega
      have h2 : (1 : Int) < r.length + 1 ∨ (1 : Int) < s.size := by omega
      clear hbad
      by_cases h3 : (1 : Int) < r.length + 1
      · go_enter Tryz.func125, Tryz.ntmps125
        go_wp2_with (first | (go_at_call 121; refine (htr _).mono ?_; rintro e w1 ⟨rfl, rfl⟩))
        go_ret
        exact ⟨by first | rfl | (rw [hres]; rfl) | simp [hres], Below.refl _ _⟩
      · have h4 : (1 : Int) < s.size := by omega
        go_enter Tryz.func125, Tryz.ntmps125
        go_wp2_with (first | (go_at_call 121; refine (htr _).mono ?_; rintro e w1 ⟨rfl, rfl⟩))
        go_ret
        exact ⟨by first | rfl | (rw [hres]; rfl) | simp [hres], Below.refl _ _⟩
    · rcases (show ¬ ((d.toNat : Int) = 48) ∨ ((d.toNat : Int) = 48 ∧ ¬ (1 : Int) < r.length + 1 ∧ ¬ (1 : Int) < s.size) by omega) with h1 | ⟨h1, h2, h3⟩
      all_goals go_enter Tryz.func125, Tryz.ntmps125
      all_goals go_wp2_with (first | (go_at_call 121; refine (htr _).mono ?_; rintro e w1 ⟨rfl, rfl⟩))
      all_goals
        obtain ⟨ds, hds⟩ : ∃ ds : ByteArray, ({ data := (d :: r).toArray } : ByteArray) = ds := ⟨_, rfl⟩
        obtain ⟨hsz, hat⟩ := at_list hds
        have hk0 := World.iter_heap w1 ds 0
        have hb0 : Below w1.heap.size w1 (w1.iter ds 0) := (Below.refl _ _).alloc (Nat.le_refl _) _
        rw [hds]
        clear h0 htr
        obtain ⟨L, hL⟩ : ∃ L, d :: r = L := ⟨_, rfl⟩
        rw [hL] at hsz hat hD
        have HSZ := Lib.hid hsz
        have HAT := Lib.hid hat
        have HL := Lib.hid hL
        have HD := Lib.hid hD
        have hsl : s.data.toList.length = s.size := rfl
        have h1' : ¬ d.toNat = 48 ∨ (r.length + 1 ≤ 1 ∧ s.data.toList.length ≤ 1) := by omega
        have H1 := Lib.hid h1'
        clear h1' hsl
        clear hsz hat hL hD h1 hds
        go_loopw [5] (fun _ wr => ∃ pos : Nat, Hid (pos ≤ L.length) ∧ wr.heap[w1.heap.size]? = some (.stringIter ds pos) ∧ Hid (∀ i, i < pos → Mw.dig (L.getD i 0) = true) ∧ Below w1.heap.size w1 wr) (fun _ wr => ds.size - wr.iterPos w1.heap.size)
        case atStart => exact ⟨0, Lib.hid (Nat.zero_le _), hk0, Lib.hid (fun i hi => absurd hi (Nat.not_lt_zero i)), hb0⟩
        case round =>
          obtain ⟨pos, HP, hk, HDG, hnx⟩ := hrel
          clear hk0 hb0
          by_cases hp : pos < ds.size
          · have hnext : ∀ ty, (Instr.next (.pointer (some ⟨w1.heap.size, 0, none⟩)) true ty).run Tryz.prog wr = _ := fun ty => Lib.run_next_any_at wr w1.heap.size ds pos ty hk hp
            have hk1 := Lib.iterAt_heap wr w1.heap.size ds pos (pos + (Utf8.decode ds pos).2) hk
            have hnx1 : Below w1.heap.size w1 (wr.iterAt w1.heap.size ds (pos + (Utf8.decode ds pos).2)) := Lib.below_iterAt hnx (by omega) ds (pos + (Utf8.decode ds pos).2)
            have hmu : wr.iterPos w1.heap.size = pos := by simp [World.iterPos, hk]
            have hby := decode_byte ds pos hp
            rw [HAT.out pos hp] at hby
            obtain ⟨b, hb⟩ : ∃ b, (Utf8.decode ds pos).1 = b := ⟨_, rfl⟩
            rw [hb] at hnext
            have hcase : (48 ≤ b ∧ b ≤ 57 ∧ Mw.dig (L.getD pos 0) = true ∧ (Utf8.decode ds pos).2 = 1) ∨ ((b < 48 ∨ 57 < b) ∧ Mw.dig (L.getD pos 0) = false) := by
              rcases hby with ⟨he, hl⟩ | ⟨hh, hl⟩
              · rw [he] at hb ⊢
                simp only at hb ⊢
                by_cases h5 : 48 ≤ b ∧ b ≤ 57
                · left; exact ⟨h5.1, h5.2, (dig_iff _).mpr (by rw [hb]; exact h5), trivial⟩
                · right; exact ⟨by omega, dig_no (by rw [hb]; exact h5)⟩
              · right
                exact ⟨.inr (by omega), dig_no (by omega)⟩
            rcases hcase with ⟨h2, h3, h4, h5⟩ | ⟨h2, h4⟩
            · rw [h5] at hnext hk1 hnx1
              generalize wr.iterAt w1.heap.size ds (pos + 1) = W1 at hnext hk1 hnx1
              have h6 : ¬ (b : Int) < 48 := by omega
              have h7 : ¬ (57 : Int) < b := by omega
              have HSP := Lib.hid hp
              clear hby hb h5 h2 h3 hp
              go_wp2
              go_roundw
              case rel =>
                refine ⟨pos + 1, Lib.hid (by have := HSP.out; have := HSZ.out; omega), hk1, Lib.hid (fun i hi => ?_), hnx1⟩
                rcases Nat.lt_or_ge i pos with hlt | hge
                · exact HDG.out i hlt
                · obtain rfl : i = pos := by omega
                  exact h4
              case measure =>
                have hmu2 : W1.iterPos w1.heap.size = pos + 1 := by simp [World.iterPos, hk1]
                rw [hmu, hmu2]
                have := HSP.out; omega
            · have hres : Mw.okf s.data.toList = false := by
                exact okf_first HD.out ⟨pos, h4, by have := HSZ.out; omega⟩
              generalize wr.iterAt w1.heap.size ds (pos + (Utf8.decode ds pos).2) = W1 at hnext hk1 hnx1
              rcases h2 with h2 | h2
              · have h6 : (b : Int) < 48 := by omega
                clear hby hb h2 hp
                go_wp2
                go_ret
                exact ⟨by first | rfl | (rw [hres]; rfl) | simp [hres], hnx1⟩
              · have h6 : ¬ (b : Int) < 48 := by omega
                have h7 : (57 : Int) < b := by omega
                clear hby hb h2 hp
                go_wp2
                go_ret
                exact ⟨by first | rfl | (rw [hres]; rfl) | simp [hres], hnx1⟩
          · have hnext : ∀ ty, (Instr.next (.pointer (some ⟨w1.heap.size, 0, none⟩)) true ty).run Tryz.prog wr = _ := fun ty => Lib.run_next_end_at wr w1.heap.size ds pos ty hk hp
            have hres : Mw.okf s.data.toList = true := okf_last HD.out HL.out (fun i hi => HDG.out i (by have := HSZ.out; omega)) H1.out
            clear hp
            go_wp2
            go_ret
            exact ⟨by first | rfl | (rw [hres]; rfl) | simp [hres], hnx⟩
end Go.Proofs.YtjieekkkaekclaaGreatDoor
