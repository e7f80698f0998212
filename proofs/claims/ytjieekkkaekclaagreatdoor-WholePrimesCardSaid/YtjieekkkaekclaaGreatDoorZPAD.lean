/- Lemmas for the claim beside this text. -/
import Derived.Test.YtjieekkkaekclaaGreatDoorZPAC
import Derived.Deep.CutBlock
import Derived.Deep.DeepCutAuto
set_option linter.all false
set_option linter.unusedVariables false
set_option linter.unusedSimpArgs false
namespace Go.Proofs.YtjieekkkaekclaaGreatDoor
open Go.RowKit Go.Proofs.YtjieekkkaekclaaGreatDoorW.PrintWords
theorem info_u32 : (Tryz.prog.info? 121).map (fun i => (i.zero, i.size, i.bytes)) = some (some (.int .u32 0), 1, 4) := by kernel_rfl
theorem own_limbs {w : World} {base : Nat} {v : Value} {l : List Int} {ok : Nat → Prop} (h : Kd.R (Kd.int .u32) 121 w base ok v l) :
    ∃ A c, v = .slice A l.length c ∧ l.length ≤ c ∧ Kd.C (Kd.int .u32) w A l.length l := Kd.R_reads h
theorem sums_step {p q out : List Int} {c : Int} {j : Nat} (hj : j < p.length) (ho : out.length = j) (x y : Int) (hx : p.getD j 0 = x)
    (hy : y = if j < q.length then q.getD j 0 else 0) (h : Mw.lv 1000000000 out + 1000000000 ^ j * c = Mw.lv 1000000000 (p.take j) + Mw.lv 1000000000 (q.take j)) :
    Mw.lv 1000000000 (out ++ [(x + c + y) % 1000000000]) + 1000000000 ^ (j + 1) * ((x + c + y) / 1000000000) = Mw.lv 1000000000 (p.take (j + 1)) + Mw.lv 1000000000 (q.take (j + 1)) := by
  have hq : Mw.lv 1000000000 (q.take (j + 1)) = Mw.lv 1000000000 (q.take j) + 1000000000 ^ j * y := by
    by_cases h1 : j < q.length
    · rw [if_pos h1] at hy
      rw [Mw.take_succ_getD q j h1, Mw.lv_snoc, hy, List.length_take, Nat.min_eq_left (by omega)]
    · rw [if_neg h1] at hy
      rw [List.take_of_length_le (by omega), List.take_of_length_le (by omega), hy]; simp
  rw [Mw.take_succ_getD p j hj, Mw.lv_snoc, Mw.lv_snoc, hx, hq, ho, List.length_take, Nat.min_eq_left (by omega), Int.pow_succ]
  generalize hP : (1000000000 : Int) ^ j = P at *
  have e := Int.emod_add_mul_ediv (x + c + y) 1000000000
  have e1 : P * ((x + c + y) % 1000000000) + P * 1000000000 * ((x + c + y) / 1000000000) = P * (x + c + y) := by
    rw [Int.mul_assoc, ← Int.mul_add, e]
  have e2 : P * (x + c + y) = P * x + P * c + P * y := by rw [Int.mul_add, Int.mul_add]
  omega
set_option maxRecDepth 100000 in
set_option maxHeartbeats 1000000 in
theorem sums_any (A0 A1 : Option Addr) (l0 l1 : List Int) (c0 c1 : Nat) (w : World) (h0 : Kd.C (Kd.int .u32) w A0 l0.length l0) (hc0 : l0.length ≤ c0) (h1 : Kd.C (Kd.int .u32) w A1 l1.length l1) (hc1 : l1.length ≤ c1)
    (i0 : Mw.inB 1000000000 l0) (i1 : Mw.inB 1000000000 l1) (hm0 : l0.length ≤ 1000000) (hm1 : l1.length ≤ 1000000) :
    Calls Tryz.prog 225 #[.slice A0 l0.length c0, .slice A1 l1.length c1] w fun e w' => ∃ A l c, e = .returned (.slice A (List.length l) c) ∧ l.length ≤ c ∧ Kd.C (Kd.int .u32) w' A l.length l ∧ Mw.inB 1000000000 l ∧ Mw.lv 1000000000 l = Mw.lv 1000000000 l0 + Mw.lv 1000000000 l1 ∧ 0 < l.length ∧ l.length ≤ max l0.length l1.length + 1 ∧ Below w.heap.size w w' := by
  go_enter Tryz.func225, Tryz.ntmps225
  go_upto_if 13 with (fail)
  go_cut [0, 1] (fun v0 v1 wc => ∃ (A B : Option Addr) (p q : List Int) (cp cq : Nat), v0 = .slice A p.length cp ∧ v1 = .slice B q.length cq ∧ Hid (Kd.C (Kd.int .u32) wc A p.length p) ∧ Hid (Kd.C (Kd.int .u32) wc B q.length q) ∧ Hid (Mw.inB 1000000000 p) ∧ Hid (Mw.inB 1000000000 q) ∧ q.length ≤ p.length ∧ p.length ≤ 1000000 ∧ Hid (p.length = max l0.length l1.length) ∧ Hid (Mw.lv 1000000000 p + Mw.lv 1000000000 q = Mw.lv 1000000000 l0 + Mw.lv 1000000000 l1) ∧ Hid (wc = w))
  case first =>
    have H0 := Lib.hid h0
    have H1 := Lib.hid h1
    have I0 := Lib.hid i0
    have I1 := Lib.hid i1
    clear h0 h1 i0 i1
    by_cases hlt : l0.length < l1.length
    · go_wp2
      go_meet
      case rel => exact ⟨A1, A0, l1, l0, c1, c0, rfl, rfl, H1, H0, I1, I0, by omega, by omega, Lib.hid (by omega), Lib.hid (Int.add_comm _ _), Lib.hid rfl⟩
    · go_wp2
      go_meet
      case rel => exact ⟨A0, A1, l0, l1, c0, c1, rfl, rfl, H0, H1, I0, I1, by omega, by omega, Lib.hid (by omega), Lib.hid rfl, Lib.hid rfl⟩
  case rest =>
    obtain ⟨A, B, p, q, cp, cq, rfl, rfl, HP, HQ, IP, IQ, hqp, hpm, HMX, HV, HW⟩ := hcut
    obtain rfl := HW.out
    clear h0 h1 i0 i1 hm0 hm1 hc0 hc1 HW
    obtain ⟨u0, hi, hz0, hz1, hz2⟩ := info_parts info_u32
    go_wp2_with (at_make; refine wpList_make_own _ rfl (.const (.int .i64 0)) (.tmp 18) 69 rfl wc.heap.size 121 u0 (.int .u32 0) 1 Tryz.underlying69 hi hz0 hz1 .i64 .i64 _ (p.length + 1) rfl rfl ?m1 ?m2 ?m3 ?m4 ?_; (case m1 => simp); (case m2 => rw [hz2]; omega); (case m3 => unfold maxLen; omega); (case m4 => exact Nat.le_refl _); intro w5 ho5 hg5)
    have HR0 : Kd.R (Kd.int .u32) 121 w5 wc.heap.size (fun _ => True) (.slice (some ⟨wc.heap.size, 0, none⟩) 0 (p.length + 1)) [] := Kd.R_of_own (xs := []) ho5 (fun _ _ => trivial)
    have HB5 : Below wc.heap.size wc w5 := pw_below_grown (Below.refl _ _) none (Nat.le_refl _) hg5 (fun _ h => by cases h)
    go_loopw [5, 6, 22] (fun v5 v6 v22 wr => ∃ (j : Nat) (out : List Int) (c : Int), j ≤ p.length ∧ v22 = .int .i64 j ∧ v6 = .int .u32 c ∧ 0 ≤ c ∧ c ≤ 1 ∧ Hid (out.length = j) ∧ Hid (Kd.R (Kd.int .u32) 121 wr wc.heap.size (fun _ => True) v5 out) ∧ Hid (Mw.inB 1000000000 out) ∧ Hid (Mw.lv 1000000000 out + 1000000000 ^ j * c = Mw.lv 1000000000 (p.take j) + Mw.lv 1000000000 (q.take j)) ∧ Hid (Below wc.heap.size wc wr)) (fun _ _ v22 _ => p.length - (intOf v22).toNat)
    case atStart => exact ⟨0, [], 0, by omega, rfl, rfl, by omega, by omega, Lib.hid rfl, Lib.hid HR0, Lib.hid (Mw.inB_nil _), Lib.hid (by simp [Mw.lv]), Lib.hid HB5⟩
    case round =>
      clear ho5 hg5 HR0 HB5
      obtain ⟨j, out, c, hj, rfl, rfl, hc0, hc1, HL, HO, IO, HE, HB⟩ := hrel
      by_cases hlt : j < p.length
      · obtain ⟨adp, eA, hcp⟩ := Kd.at_int (Kd.C_below HP.out HB.out) j (by omega) (by omega)
        obtain ⟨x, hx⟩ : ∃ x, p.getD j 0 = x := ⟨_, rfl⟩
        have hxb := Mw.inB_getD (by omega) IP.out j
        rw [hx] at hxb
        obtain ⟨hx0, hx1⟩ := hxb
        simp only [Int.toNat_natCast, rd] at hcp
        rw [hx] at hcp
        have hlt' : (j : Int) < p.length := by omega
        have HX := Lib.hid hx
        clear hx
        subst eA
        by_cases hq : j < q.length
        · obtain ⟨adq, eB, hcq⟩ := Kd.at_int (Kd.C_below HQ.out HB.out) j (by omega) (by omega)
          obtain ⟨y, hy⟩ : ∃ x, q.getD j 0 = x := ⟨_, rfl⟩
          have hyb := Mw.inB_getD (by omega) IQ.out j
          rw [hy] at hyb
          obtain ⟨hy0, hy1⟩ := hyb
          simp only [Int.toNat_natCast, rd] at hcq
          rw [hy] at hcq
          have hqt' : (j : Int) < q.length := by omega
          have HY : Hid (y = if j < q.length then q.getD j 0 else 0) := Lib.hid (by rw [if_pos hq]; exact hy.symm)
          clear hy
          subst eB
          have HS := Lib.hid (sums_step hlt HL.out x y HX.out HY.out HE.out)
          go_wp2_with (at_builtin; refine Kd.R_append (Kd.int .u32) (w0 := wc) wc.heap.size rfl (.tmp 42) (.tmp 45) 69 121 (.int .u32 0) 4 rfl Tryz.underlying69 info_u32 rfl (by decide) (by omega) u5 out ((x + c + y) % 1000000000) [.int .u32 ((x + c + y) % 1000000000)] (fun _ => True) (fun _ => False) rfl rfl ?aP (fun _ hk => hk.elim) ?aF ?aO ?aB ?aS ?aL ?_; (case aP => exact rfl); (case aB => exact HB.out); (case aF => exact (fun _ _ => trivial)); (case aO => exact HO.out); (case aS => exact HB.out.size); (case aL => have := HL.out; omega); intro v1 w1 ho hb hg hat)
          go_roundw
          case rel => exact ⟨j + 1, _, _, hlt, by go_num, rfl, by omega, by omega, Lib.hid (by rw [List.length_append, HL.out]; rfl), Lib.hid ho, Lib.hid (Mw.inB_append.mpr ⟨IO.out, Mw.inB_cons.mpr ⟨⟨by omega, by omega⟩, Mw.inB_nil _⟩⟩), HS, Lib.hid hb⟩
          case measure => simp [intOf]; omega
        · have hqt' : ¬ (j : Int) < q.length := by omega
          have HS : Hid (Mw.lv 1000000000 (out ++ [(x + c) % 1000000000]) + 1000000000 ^ (j + 1) * ((x + c) / 1000000000) = Mw.lv 1000000000 (p.take (j + 1)) + Mw.lv 1000000000 (q.take (j + 1))) :=
            Lib.hid (by have h := sums_step hlt HL.out x 0 HX.out (by rw [if_neg hq]) HE.out; rwa [Int.add_zero] at h)
          go_wp2_with (at_builtin; refine Kd.R_append (Kd.int .u32) (w0 := wc) wc.heap.size rfl (.tmp 42) (.tmp 45) 69 121 (.int .u32 0) 4 rfl Tryz.underlying69 info_u32 rfl (by decide) (by omega) u5 out ((x + c) % 1000000000) [.int .u32 ((x + c) % 1000000000)] (fun _ => True) (fun _ => False) rfl rfl ?aP (fun _ hk => hk.elim) ?aF ?aO ?aB ?aS ?aL ?_; (case aP => exact rfl); (case aB => exact HB.out); (case aF => exact (fun _ _ => trivial)); (case aO => exact HO.out); (case aS => exact HB.out.size); (case aL => have := HL.out; omega); intro v1 w1 ho hb hg hat)
          go_roundw
          case rel => exact ⟨j + 1, _, _, hlt, by go_num, rfl, by omega, by omega, Lib.hid (by rw [List.length_append, HL.out]; rfl), Lib.hid ho, Lib.hid (Mw.inB_append.mpr ⟨IO.out, Mw.inB_cons.mpr ⟨⟨by omega, by omega⟩, Mw.inB_nil _⟩⟩), HS, Lib.hid hb⟩
          case measure => simp [intOf]; omega
      · obtain rfl : j = p.length := by omega
        go_wp2_with (at_builtin; refine Kd.R_append (Kd.int .u32) (w0 := wc) wc.heap.size rfl (.tmp 48) (.tmp 50) 69 121 (.int .u32 0) 4 rfl Tryz.underlying69 info_u32 rfl (by decide) (by omega) u5 out (c) [.int .u32 (c)] (fun _ => True) (fun _ => False) rfl rfl ?aP (fun _ hk => hk.elim) ?aF ?aO ?aB ?aS ?aL ?_; (case aP => exact rfl); (case aB => exact HB.out); (case aF => exact (fun _ _ => trivial)); (case aO => exact HO.out); (case aS => exact HB.out.size); (case aL => have := HL.out; omega); intro v1 w1 ho hb hg hat)
        go_ret
        obtain ⟨A', cap, rfl, hcap, hC⟩ := own_limbs ho
        refine ⟨A', _, cap, rfl, hcap, hC, Mw.inB_append.mpr ⟨IO.out, Mw.inB_cons.mpr ⟨⟨by omega, by omega⟩, Mw.inB_nil _⟩⟩, ?_, by simp, ?_, hb⟩
        · have h := HE.out
          rw [List.take_length, List.take_of_length_le hqp, HV.out] at h
          rw [Mw.lv_snoc, HL.out, h]
        · rw [List.length_append, HL.out, HMX.out]; exact Nat.le_refl _
end Go.Proofs.YtjieekkkaekclaaGreatDoor
