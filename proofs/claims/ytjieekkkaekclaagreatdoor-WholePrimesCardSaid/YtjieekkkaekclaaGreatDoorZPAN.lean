/- Lemmas for the claim beside this text. -/
import Derived.Test.YtjieekkkaekclaaGreatDoorZPAL
import Derived.Test.YtjieekkkaekclaaGreatDoorZPAM
import Derived.Lib.SliceRun
set_option linter.all false
set_option linter.unusedVariables false
set_option linter.unusedSimpArgs false
namespace Go.Proofs.YtjieekkkaekclaaGreatDoor
open Go.RowKit Go.Proofs.YtjieekkkaekclaaGreatDoorW.PrintWords
theorem add0 (g k : Nat) : (⟨g, 0, none⟩ : Addr).add k = ⟨g, k, none⟩ := by
  unfold Addr.add
  by_cases h : k = 0
  · subst h; simp
  · simp [h]
theorem below_setCells {B g : Nat} {w0 : World} (hg : B ≤ g) (vs : List Value) : ∀ (o : Nat) {W : World}, Below B w0 W → Below B w0 (W.setCells g o vs) := by
  induction vs with
  | nil => intro o W h; exact h
  | cons v r ih => intro o W h; exact ih (o + 1) (h.setCell (p := ⟨g, o, none⟩) hg v)
theorem R_zeros {base g cap : Nat} {ok : Nat → Prop} (n : Nat) (m : Nat) : ∀ (o : Nat) {W : World}, o + m ≤ n → Kd.R (Kd.int .u32) 121 W base ok (.slice (some ⟨g, 0, none⟩) n cap) (List.replicate n 0) →
    Kd.R (Kd.int .u32) 121 (W.setCells g o (List.replicate m (.int .u32 0))) base ok (.slice (some ⟨g, 0, none⟩) n cap) (List.replicate n 0) := by
  induction m with
  | zero => intro o W _ h; exact h
  | succ m ih =>
    intro o W ho h
    have h1 := Kd.R_putn (h := h) (o : Int) 0
    simp only [Int.toNat_natCast] at h1
    rw [show (List.replicate n (0 : Int)).set o 0 = List.replicate n 0 from by
      apply List.ext_getElem
      · simp
      · intro i h1 h2; simp [List.getElem_set]] at h1
    exact ih (o + 1) (by omega) h1
theorem pull_call (na nb : Nat) (g cap : Nat) (l0 : List Int) (A1 : Option Addr) (c1 : Nat) (b : List Int) (at_ : Nat) (t : Int) (P : Nat → Prop) (w0 w : World) (ea : na = l0.length) (eb : nb = b.length) (hB : Below w0.heap.size w0 w) (hg : w0.heap.size ≤ g) (hP : P g)
    (ho : Kd.R (Kd.int .u32) 121 w w0.heap.size P (.slice (some ⟨g, 0, none⟩) na cap) l0) (hr : ∀ W, Kept w W P → Kd.C (Kd.int .u32) W A1 nb b) (hc1 : nb ≤ c1)
    (i0 : Mw.inB 1000000000 l0) (ib : Mw.inB 1000000000 b) (hm : na ≤ 900000) (hl : at_ + nb < na) (ht : 0 ≤ t ∧ t < 1000000000) :
    Calls Tryz.prog 160 #[.slice (some ⟨g, 0, none⟩) na cap, .slice A1 nb c1, .int .i64 at_, .int .u64 t] w fun e w' => ∃ (l : List Int) (bo : Int), e = .returned (.bool (bo != 0)) ∧ l.length = na ∧ (bo = 0 ∨ bo = 1) ∧
      Kd.R (Kd.int .u32) 121 w' w0.heap.size P (.slice (some ⟨g, 0, none⟩) na cap) l ∧ Mw.inB 1000000000 l ∧
      Mw.lv 1000000000 l = Mw.lv 1000000000 l0 - 1000000000 ^ at_ * (Mw.lv 1000000000 b * t) + 1000000000 ^ (at_ + (nb + 1)) * bo ∧ l.drop (at_ + (nb + 1)) = l0.drop (at_ + (nb + 1)) ∧ Below w0.heap.size w0 w' ∧ Kept w w' P := by
  subst ea; subst eb
  refine (pull_any g cap l0 A1 c1 b at_ t P w0 w hB hg hP ho hr hc1 i0 ib hm hl ht).mono ?_
  rintro e w' ⟨l, bo, h1, h2, h3, h4, h5⟩
  exact ⟨l, bo, h1, h2, h3, by rw [← h2]; exact h4, h5⟩
theorem push_call (na nb : Nat) (g cap : Nat) (l0 : List Int) (A1 : Option Addr) (c1 : Nat) (b : List Int) (at_ : Nat) (P : Nat → Prop) (w0 w : World) (ea : na = l0.length) (eb : nb = b.length) (hB : Below w0.heap.size w0 w) (hg : w0.heap.size ≤ g) (hP : P g)
    (ho : Kd.R (Kd.int .u32) 121 w w0.heap.size P (.slice (some ⟨g, 0, none⟩) na cap) l0) (hr : ∀ W, Kept w W P → Kd.C (Kd.int .u32) W A1 nb b) (hc1 : nb ≤ c1)
    (i0 : Mw.inB 1000000000 l0) (ib : Mw.inB 1000000000 b) (hm : na ≤ 900000) (hl : at_ + nb < na) :
    Calls Tryz.prog 161 #[.slice (some ⟨g, 0, none⟩) na cap, .slice A1 nb c1, .int .i64 at_] w fun e w' => e = .returned (.tuple #[]) ∧ ∃ (l : List Int) (co : Int), l.length = na ∧ 0 ≤ co ∧ co ≤ 1 ∧
      Kd.R (Kd.int .u32) 121 w' w0.heap.size P (.slice (some ⟨g, 0, none⟩) na cap) l ∧ Mw.inB 1000000000 l ∧
      Mw.lv 1000000000 l = Mw.lv 1000000000 l0 + 1000000000 ^ at_ * Mw.lv 1000000000 b - 1000000000 ^ (at_ + (nb + 1)) * co ∧ l.drop (at_ + (nb + 1)) = l0.drop (at_ + (nb + 1)) ∧ Below w0.heap.size w0 w' ∧ Kept w w' P := by
  subst ea; subst eb
  refine (push_any g cap l0 A1 c1 b at_ P w0 w hB hg hP ho hr hc1 i0 ib hm hl).mono ?_
  rintro e w' ⟨h0, l, co, h2, h3, h3', h4, h5⟩
  exact ⟨h0, l, co, h2, h3, h3', by rw [← h2]; exact h4, h5⟩
theorem shortly_call (na : Nat) (A0 : Option Addr) (a : List Int) (c0 : Nat) (by_ : Int) (w : World) (ea : na = a.length) (h0 : Kd.C (Kd.int .u32) w A0 na a) (hc0 : na ≤ c0)
    (ia : Mw.inB 1000000000 a) (hm : na ≤ 1000000) (hb0 : 1 ≤ by_) (hb1 : by_ < 4294967296) :
    Calls Tryz.prog 131 #[.slice A0 na c0, .int .u32 by_] w fun e w' => ∃ A l c r, e = .returned (.tuple #[.slice A (List.length l) c, .int .u32 r]) ∧ l.length ≤ c ∧ Kd.C (Kd.int .u32) w' A l.length l ∧ Mw.inB 1000000000 l ∧ l.length = na ∧ Mw.lv 1000000000 a = Mw.lv 1000000000 l * by_ + r ∧ 0 ≤ r ∧ r < by_ ∧ Below w.heap.size w w' := by
  subst ea
  exact shortly_any A0 a c0 by_ w h0 hc0 ia hm hb0 hb1
theorem over_close {w w5 : World} {B ga gb gq na nb nq ca cb cq : Nat} {l5 lb ql : List Int} {g : Int} (at_ : Nat) (hq : Kd.R (Kd.int .u32) 121 w5 B (fun k => k = gq) (.slice (some ⟨gq, 0, none⟩) nq cq) ql)
    (ha : Kd.R (Kd.int .u32) 121 w5 B (fun k => k = ga) (.slice (some ⟨ga, 0, none⟩) na ca) l5) (hb : Kd.R (Kd.int .u32) 121 w5 B (fun k => k = gb) (.slice (some ⟨gb, 0, none⟩) nb cb) lb)
    (hB : Below w.heap.size w w5) (hgq : w.heap.size ≤ gq) (h1 : ga ≠ gq) (h2 : gb ≠ gq) (iq : Mw.inB 1000000000 ql) (hn0 : 0 ≤ g) (hn1 : g < 1000000000) :
    Kd.R (Kd.int .u32) 121 (w5.setCell ⟨gq, at_, none⟩ (.int .u32 g)) B (fun k => k = ga) (.slice (some ⟨ga, 0, none⟩) na ca) l5 ∧ Kd.R (Kd.int .u32) 121 (w5.setCell ⟨gq, at_, none⟩ (.int .u32 g)) B (fun k => k = gb) (.slice (some ⟨gb, 0, none⟩) nb cb) lb ∧
    Kd.R (Kd.int .u32) 121 (w5.setCell ⟨gq, at_, none⟩ (.int .u32 g)) B (fun k => k = gq) (.slice (some ⟨gq, 0, none⟩) nq cq) (ql.set at_ g) ∧ Mw.inB 1000000000 (ql.set at_ g) ∧ Below w.heap.size w (w5.setCell ⟨gq, at_, none⟩ (.int .u32 g)) := by
  obtain ⟨hput, hgr⟩ := Kd.R_putg (h := hq) (at_ : Int) g
  simp only [Int.toNat_natCast] at hput hgr
  refine ⟨Kd.R_grown ha hgr (fun k hk h => ?_), Kd.R_grown hb hgr (fun k hk h => ?_), hput, Mw.inB_set iq at_ hn0 hn1, hB.setCell hgq _⟩
  · injection h with h; omega
  · injection h with h; omega
set_option maxRecDepth 100000 in
set_option maxHeartbeats 4000000 in
theorem over_any (A0 : Option Addr) (a : List Int) (c0 : Nat) (A1 : Option Addr) (b : List Int) (c1 : Nat) (k : Nat) (w : World) (h0 : Kd.C (Kd.int .u32) w A0 a.length a) (hc0 : a.length ≤ c0) (h1 : Kd.C (Kd.int .u32) w A1 b.length b) (hc1 : b.length ≤ c1)
    (ia : Mw.inB 1000000000 a) (ib : Mw.inB 1000000000 b) (hm : a.length ≤ 800000) (hb : b.length = k + 1) (hk : 1 ≤ k) (hl : k + 1 ≤ a.length) (ht : 1 ≤ b.getD k 0) :
    Calls Tryz.prog 132 #[.slice A0 a.length c0, .slice A1 b.length c1] w fun e w' => ∃ (Aq : Option Addr) (q : List Int) (cq : Nat) (Ar : Option Addr) (r : List Int) (cr : Nat), e = .returned (.tuple #[.slice Aq q.length cq, .slice Ar r.length cr]) ∧
      q.length ≤ cq ∧ Kd.C (Kd.int .u32) w' Aq q.length q ∧ Mw.inB 1000000000 q ∧ q.length = a.length - k ∧ Mw.lv 1000000000 q = Mw.lv 1000000000 a / Mw.lv 1000000000 b ∧
      r.length ≤ cr ∧ Kd.C (Kd.int .u32) w' Ar r.length r ∧ Mw.inB 1000000000 r ∧ r.length = k + 1 ∧ Mw.lv 1000000000 r = Mw.lv 1000000000 a % Mw.lv 1000000000 b ∧ Below w.heap.size w w' := by
  have H0 := Lib.hid h0
  have H1 := Lib.hid h1
  have IA := Lib.hid ia
  have IB := Lib.hid ib
  obtain ⟨x, hx⟩ : ∃ x, b.getD k 0 = x := ⟨_, rfl⟩
  have hxb := Mw.inB_getD (by omega) ib k
  rw [hx] at hxb ht
  obtain ⟨adb, eB, hcb⟩ := Kd.at_int h1 k (by omega) (by omega)
  simp only [Int.toNat_natCast, rd] at hcb
  rw [hx] at hcb
  obtain ⟨B1, B2, B3⟩ := over_by (B := 1000000000) (by omega) ht hxb.2
  obtain ⟨by_, hby⟩ : ∃ y, (1000000000 : Int) / (x + 1) = y := ⟨_, rfl⟩
  rw [hby] at B1 B2 B3
  have W1 : 1000000000 / (x + 1) % 4294967296 = by_ := by rw [hby]; omega
  clear h0 h1 ia ib hby
  have e1 : (b.length : Int) - 1 = (k : Int) := by omega
  have hlt : k < b.length := by omega
  have hbm : b.length ≤ 800000 := by omega
  have HB := Lib.hid hb
  clear hb
  subst eB
  go_enter Tryz.func132, Tryz.ntmps132
  go_wp2_with (go_at_call 159; (with_reducible refine (scaled_any A0 a c0 by_ _ H0.out hc0 IA.out (by omega) B1 B2).mono ?_); rintro e w1 ⟨ga, ca, la, rfl, hla, hRa, hIa, hVa, hBa⟩; refine Hid.out ?_)
  have HRa := Lib.hid hRa
  have HIa := Lib.hid hIa
  have HVa := Lib.hid hVa
  have HBa := Lib.hid hBa
  clear hRa hIa hVa hBa
  refine Lib.hid ?_
  go_wp2_with (go_at_call 159; (with_reducible refine (scaled_any (some adb) b c1 by_ _ (Kd.C_below H1.out HBa.out) hc1 IB.out (by omega) B1 B2).mono ?_); rintro e w2 ⟨gb, cb, lb, rfl, hlb, hRb, hIb, hVb, hBb⟩; refine Hid.out ?_)
  have HRb := Lib.hid hRb
  have HIb := Lib.hid hIb
  have HVb := Lib.hid hVb
  have HBb := Lib.hid hBb
  clear hRb hIb hVb hBb
  obtain ⟨Ab, cb', eb, hcb', hCb⟩ := Kd.R_reads HRb.out
  cases eb
  have hCb1 := C_take hCb (n := b.length) (by omega)
  obtain ⟨bs, hbs⟩ : ∃ y, lb.take b.length = y := ⟨_, rfl⟩
  have hlbs : bs.length = b.length := by rw [← hbs, List.length_take]; omega
  rw [hbs] at hCb1
  obtain ⟨hz0, hV⟩ := over_scaled (B := 1000000000) (by omega) HB.out IB.out HIb.out (by rw [hlb, HB.out]) (by omega) (by rw [hx]; exact B3) HVb.out
  have ibs : Mw.inB 1000000000 bs := by rw [← hbs]; exact Mw.inB_take HIb.out _
  rw [← HB.out, hbs] at hV
  have hv1p := over_v1 (B := 1000000000) (by omega) HB.out (by rw [hlbs]; exact HB.out) IB.out ibs B1 (by rw [hx]; exact ht) hV
  have HVP := Lib.hid hv1p.2
  replace hv1p := hv1p.1
  have IBS := Lib.hid ibs
  have HVS := Lib.hid hV
  obtain ⟨p, hp⟩ : ∃ p, k - 1 = p := ⟨_, rfl⟩
  obtain ⟨v1, hv1⟩ : ∃ y, bs.getD k 0 = y := ⟨_, rfl⟩
  obtain ⟨v2, hv2⟩ : ∃ y, bs.getD p 0 = y := ⟨_, rfl⟩
  have hv1b := Mw.inB_getD (by omega) ibs k
  have hv2b := Mw.inB_getD (by omega) ibs p
  rw [hv1] at hv1b hv1p
  rw [hv2] at hv2b
  obtain ⟨ad1, ea1, hc1'⟩ := Kd.at_int hCb1 k (by omega) (by omega)
  cases ea1
  obtain ⟨ad2, ea2, hc2'⟩ := Kd.at_int hCb1 (p : Int) (by omega) (by omega)
  cases ea2
  simp only [Int.toNat_natCast, rd] at hc1' hc2'
  rw [hv1] at hc1'
  rw [hv2] at hc2'
  rw [add0] at hc1' hc2'
  have hd1 : w2.drew.cell? ⟨gb, k, none⟩ = some (.int .u32 v1) := hc1'
  have hd2 : w2.drew.cell? ⟨gb, p, none⟩ = some (.int .u32 v2) := hc2'
  have e2 : (b.length : Int) - 2 = (p : Int) := by omega
  have HBS := Lib.hid hbs
  clear hCb hCb1 hbs ibs hV hz0
  have hle1 : (b.length : Int) ≤ cb := by omega
  obtain ⟨nq, hnq⟩ : ∃ y, a.length - k = y := ⟨_, rfl⟩
  have e3 : (a.length : Int) + 1 - (b.length : Int) = (nq : Int) := by omega
  obtain ⟨_, _, eva, hga1, hga2, _⟩ := Kd.R_form HRa.out (by omega)
  cases eva
  obtain ⟨_, _, evb, hgb1, hgb2, _⟩ := Kd.R_form HRb.out (by omega)
  cases evb
  have hw2 : Below w.heap.size w w2 := HBa.out.trans (HBb.out.mono HBa.out.size)
  have HW2 := Lib.hid hw2
  have hs2 : w1.heap.size ≤ w2.heap.size := HBb.out.size
  have hs1 : w.heap.size ≤ w1.heap.size := HBa.out.size
  clear hw2
  have HNQ := Lib.hid hnq
  refine Lib.hid ?_
  go_wp2_with fail
  go_region
  go_wp2_with (at_make; refine Kd.R_make (Kd.int .u32) (w0 := w2) w2.heap.size 121 rfl (N := 57) rfl 69 _ _ rfl (nq : Int) rfl rfl Tryz.underlying69 (.int .u32 0) 4 info_u32 rfl (by decide) (by omega) 0 (ok := fun _ => True) (okp := fun _ => True) rfl (fun _ hk => hk) trivial (by omega) (by omega) (below_drew (Below.refl _ _)) (Nat.le_refl _) ?_; intro v1_ w3 hRq hBq hg_ hnew_; obtain ⟨gq, cq, eq_, hgq1, hgq2, cells, hcells⟩ := Kd.R_form hRq (by rw [List.length_replicate]; omega); rw [List.length_replicate, Int.toNat_natCast] at eq_; rw [Int.toNat_natCast] at hRq; subst eq_; refine Hid.out ?_)
  have hclr : ∀ ty, (Builtin.clear_ #[69] ty #[.slice (some ⟨gq, 0, none⟩) nq cq]).run Tryz.prog w3 = .ok (.tuple #[]) (w3.setCells gq 0 (List.replicate nq (.int .u32 0))) := fun ty =>
    Lib.run_clear_slice w3 69 121 ty (.int .u32 0) Tryz.underlying69 (fun _ => rfl) rfl rfl gq 0 nq cq (by omega)
      (fun j hj => by
        have h := (Kd.R_celln (enc := .int .u32) 0 hRq (j : Int) (by omega) (by omega)).1
        rw [Nat.zero_add]; simp only [Int.toNat_natCast] at h; rw [h]; rfl)
      (fun j hj => by
        have h := (Kd.R_celln (enc := .int .u32) 0 hRq (j : Int) (by omega) (by omega)).2
        rw [Nat.zero_add]; simp only [Int.toNat_natCast] at h; exact h)
  have hRq4 := R_zeros nq nq 0 (by omega) hRq
  have hB4 := below_setCells (B := w2.heap.size) (g := gq) hgq1 (List.replicate nq (.int .u32 0)) 0 hBq
  obtain ⟨w4, hw4⟩ : ∃ y, w3.setCells gq 0 (List.replicate nq (.int .u32 0)) = y := ⟨_, rfl⟩
  rw [hw4] at hclr hRq4 hB4
  have HRQ := Lib.hid (Kd.R_reok rfl hRq4 (ok := fun k => k = gq) (fun k hk => by simpa [Value.ownBlock] using hk.symm))
  have HB4 := Lib.hid hB4
  have HRA := Lib.hid (Kd.R_below (Kd.R_below (Kd.R_reok rfl HRa.out (ok := fun k => k = ga) (fun k hk => by simpa [Value.ownBlock] using hk.symm)) HBb.out) hB4)
  have HRB := Lib.hid (Kd.R_lower (Kd.R_below (Kd.R_reok rfl HRb.out (ok := fun k => k = gb) (fun k hk => by simpa [Value.ownBlock] using hk.symm)) hB4) hs1)
  have HRQ2 := Lib.hid (Kd.R_lower HRQ.out (Nat.le_trans hs1 hs2))
  have HBW := Lib.hid (HW2.out.trans (hB4.mono (Nat.le_trans hs1 hs2)))
  clear hRq4 hB4 hRq hBq hg_ hnew_ hcells hw4
  refine Lib.hid ?_
  go_wp2_with fail
  go_loopw [61] (fun v61 wr => ∃ (j : Nat) (al ql : List Int), j ≤ nq ∧ v61 = .int .i64 j ∧ al.length = a.length + 1 ∧ ql.length = nq ∧ Hid (Kd.R (Kd.int .u32) 121 wr w.heap.size (fun k => k = ga) (.slice (some ⟨ga, 0, none⟩) (a.length + 1) ca) al) ∧ Hid (Mw.inB 1000000000 al) ∧
      Hid (Kd.R (Kd.int .u32) 121 wr w.heap.size (fun k => k = gb) (.slice (some ⟨gb, 0, none⟩) (b.length + 1) cb) lb) ∧ Hid (Kd.R (Kd.int .u32) 121 wr w.heap.size (fun k => k = gq) (.slice (some ⟨gq, 0, none⟩) nq cq) ql) ∧ Hid (Mw.inB 1000000000 ql) ∧
      Hid (Mw.lv 1000000000 la = Mw.lv 1000000000 al + Mw.lv 1000000000 bs * (1000000000 ^ (nq - j) * Mw.lv 1000000000 (ql.drop (nq - j)))) ∧ Hid (Mw.lv 1000000000 (al.drop (nq - j)) < Mw.lv 1000000000 bs) ∧ Hid (Below w.heap.size w wr)) (fun v61 _ => nq - (intOf v61).toNat)
  case atStart =>
    refine ⟨0, la, List.replicate nq 0, by omega, rfl, hla, by simp, Lib.hid (by have h := HRA.out; rw [hla] at h; exact h), HIa, Lib.hid (by have h := HRB.out; rw [hlb] at h; exact h), HRQ2, Lib.hid (Mw.inB_replicate (by omega) _), Lib.hid ?_, Lib.hid ?_, HBW⟩
    · rw [List.drop_of_length_le (by simp)]; simp [Mw.lv]
    · rw [HVS.out, Nat.sub_zero, ← hnq]
      exact over_first (by omega) (by omega) HB.out IA.out IB.out HIa.out hla B1 (by rw [hx]; exact ht) HVa.out
  case round =>
    obtain ⟨j, al, ql, hj, rfl, hal, hql, HRA, HIA, HRB, HRQ, HIQ, HE, HW, HBW⟩ := hrel
    by_cases hlt : j < nq
    · have hlt' : (j : Int) < (nq : Int) := by omega
      obtain ⟨at_, hat⟩ : ∃ y, nq - 1 - j = y := ⟨_, rfl⟩
      have e4 : (nq : Int) - 1 - (j : Int) = (at_ : Int) := by omega
      obtain ⟨i2, hi2⟩ : ∃ y, at_ + (p + 2) = y := ⟨_, rfl⟩
      obtain ⟨i1, hi1⟩ : ∃ y, at_ + (p + 1) = y := ⟨_, rfl⟩
      obtain ⟨i0, hi0⟩ : ∃ y, at_ + p = y := ⟨_, rfl⟩
      have e5 : (at_ : Int) + (b.length : Int) = (i2 : Int) := by omega
      have e6 : (i2 : Int) - 1 = (i1 : Int) := by omega
      have e7 : (i2 : Int) - 2 = (i0 : Int) := by omega
      obtain ⟨y2, hy2⟩ : ∃ y, al.getD i2 0 = y := ⟨_, rfl⟩
      obtain ⟨y1, hy1⟩ : ∃ y, al.getD i1 0 = y := ⟨_, rfl⟩
      obtain ⟨y0, hy0⟩ : ∃ y, al.getD i0 0 = y := ⟨_, rfl⟩
      have b2 := Mw.inB_getD (by omega) HIA.out i2
      have b1 := Mw.inB_getD (by omega) HIA.out i1
      have b0 := Mw.inB_getD (by omega) HIA.out i0
      rw [hy2] at b2
      rw [hy1] at b1
      rw [hy0] at b0
      have hcell : ∀ i : Nat, i < a.length + 1 → ∀ W : World, W.heap = wr.heap → W.cell? ⟨ga, i, none⟩ = some (.int .u32 (al.getD i 0)) := by
        intro i hi W hW
        have h := (Kd.R_celln (enc := .int .u32) 0 HRA.out (i : Int) (by omega) (by omega)).1
        simp only [Int.toNat_natCast, World.cell?] at h
        simp only [World.cell?, hW, h, rdOf, Int.toNat_natCast]
      have c2 := hcell i2 (by omega) wr.drew rfl
      have c1_ := hcell i1 (by omega) wr.drew rfl
      have c0_ := hcell i0 (by omega) wr.drew.drew rfl
      rw [hy2] at c2
      rw [hy1] at c1_
      rw [hy0] at c0_
      have HCK : Hid (∀ W, Kept wr.drew.drew W (fun k => k = ga) → Kd.C (Kd.int .u32) W (some ⟨gb, 0, none⟩) b.length bs) := Lib.hid (by
        intro W hk
        have h := Kd.C_kept_own (S := fun k => k = ga) HRB.out (fun k hk h => by omega) W (show Kept wr W (fun k => k = ga) from hk)
        rw [← hlb] at h
        have h2 := C_take h (n := b.length) (by omega)
        rw [HBS.out] at h2
        exact h2)
      have HRA2 : Hid (Kd.R (Kd.int .u32) 121 wr.drew.drew w.heap.size (fun k => k = ga) (.slice (some ⟨ga, 0, none⟩) (a.length + 1) ca) al) := Lib.hid (Kd.R_step HRA.out (fun _ _ _ => rfl))
      have HRB2 : Hid (Kd.R (Kd.int .u32) 121 wr.drew.drew w.heap.size (fun k => k = gb) (.slice (some ⟨gb, 0, none⟩) (b.length + 1) cb) lb) := Lib.hid (Kd.R_step HRB.out (fun _ _ _ => rfl))
      have HRQ2 : Hid (Kd.R (Kd.int .u32) 121 wr.drew.drew w.heap.size (fun k => k = gq) (.slice (some ⟨gq, 0, none⟩) nq cq) ql) := Lib.hid (Kd.R_step HRQ.out (fun _ _ _ => rfl))
      have HBW2 : Hid (Below w.heap.size w wr.drew.drew) := Lib.hid (below_drew (below_drew HBW.out))
      have HE2 : Hid (Mw.lv 1000000000 la = Mw.lv 1000000000 al + Mw.lv 1000000000 bs * (1000000000 ^ (at_ + 1) * Mw.lv 1000000000 (ql.drop (at_ + 1)))) := Lib.hid (by have h := HE.out; rw [show nq - j = at_ + 1 by omega] at h; exact h)
      clear hcell hnq
      go_wp2_with fail
      go_step3
      go_wp2_with fail
      go_region
      go_wp2_with fail
      have hv1n : ¬ v1 = 0 := by omega
      go_region
      go_wp2_with fail
      go_step3
      go_wp2_with fail
      have hF := over_facts (B := 1000000000) (at_ := at_) (m := p) (by omega) (by rw [hlbs, HB.out]; omega) IBS.out (by rw [hal]; omega) HIA.out (by have h := HW.out; rw [show nq - j = at_ + 1 by omega] at h; exact h)
      rw [hi2, hi1, hi0, hy2, hy1, hy0, hv2, show p + 1 = k by omega, hv1] at hF
      have HF := Lib.hid hF
      obtain ⟨top, htop⟩ : ∃ y, y2 * 1000000000 + y1 = y := ⟨_, rfl⟩
      rw [htop] at hF
      have htop0 : 0 ≤ top := by omega
      have htop1 : top < 1000000000000000000 := by omega
      obtain ⟨U, hU⟩ : ∃ y, Mw.lv 1000000000 (al.drop at_) = y := ⟨_, rfl⟩
      obtain ⟨V, hV⟩ : ∃ y, Mw.lv 1000000000 bs = y := ⟨_, rfl⟩
      rw [hU, hV] at hF
      obtain ⟨K, hK⟩ : ∃ y : Int, 1000000000 ^ p = y := ⟨_, rfl⟩
      rw [hK] at hF
      obtain ⟨f1, f2, f3, f4, f5, f6, f7⟩ := hF
      have hbs := Lib.hid (better_start (v2 := v2) f1 (show (0 : Int) < 1000000000 by omega) hv1p hv2b.1 b0.2 htop0 f3 f4)
      have hq0 : 0 ≤ top / v1 := Int.ediv_nonneg htop0 (by omega)
      have hq1 : top / v1 ≤ top := Int.ediv_le_self _ htop0
      have hr0 : 0 ≤ top % v1 := Int.emod_nonneg _ (by omega)
      have hr1 : top % v1 < v1 := Int.emod_lt_of_pos _ (by omega)
      have HBU := Lib.hid f4
      have HF1 := Lib.hid (And.intro f1 (And.intro f2 (And.intro f3 (And.intro f5 f6))))
      have HZ := Lib.hid f7
      clear f1 f2 f3 f4 f5 f6 f7
      go_loopw [13, 14] (fun v13 v14 wi => wi = wr.drew.drew ∧ ∃ (g r : Int), v13 = .int .u64 g ∧ v14 = .int .u64 r ∧ 0 ≤ g ∧ g ≤ 1000000000000000000 ∧ 0 ≤ r ∧ r < 1000000000 ∧ Hid (Better 1000000000 K U V v1 top g r)) (fun v13 _ _ => (intOf v13).toNat)
      case atStart =>
        refine ⟨rfl, top / v1, top % v1, by rw [← htop], by rw [← htop], hq0, by omega, hr0, by omega, hbs⟩
      case round =>
        obtain ⟨rfl, g, r, rfl, rfl, hg0, hg1, hr0_, hr1_, HBT⟩ := hrel
        have hmul := limb_mul (x := g) (y := v2)
        have hmw : g < 1000000000 → IntKind.u64.wrap (g * v2) = g * v2 := fun h => u64w (Int.mul_nonneg hg0 hv2b.1) (by have := (hmul ⟨hg0, h⟩ hv2b).2; omega)
        clear hmul
        by_cases hg : 1000000000 ≤ g
        · clear hmw
          obtain ⟨d1, d2⟩ := better_down HF1.out.1 (show (0 : Int) < 1000000000 by omega) hv1p hv2b.1 b0.1 (by rw [← hV]; exact Mw.lv_nonneg (by omega) IBS.out) HF1.out.2.2.1 HBU.out HF1.out.2.2.2.2 HBT.out (.inl hg)
          have HD2 := Lib.hid d2
          clear d2
          by_cases hr : 1000000000 ≤ r + v1
          · have hEnd := better_end HF1.out.1 (show (0 : Int) < 1000000000 by omega) hv1p hv2b.1 hv2b.2 b0.1 HF1.out.2.1 HF1.out.2.2.1 HF1.out.2.2.2.1 HF1.out.2.2.2.2 HD2.out (.inr hr)
            have hn0 : 0 ≤ g - 1 := by omega
            have hn1 := hEnd.1
            have HU1 := Lib.hid hEnd.2
            have HU2 := Lib.hid HD2.out.2.2.2
            clear hEnd
            go_wp2_with (go_at_call 160; refine (pull_call (a.length + 1) b.length ga ca al (some ⟨gb, 0, none⟩) b.length bs at_ (g - 1) (fun k => k = ga) w _ hal.symm hlbs.symm HBW2.out (by omega) rfl HRA2.out HCK.out (Nat.le_refl _) HIA.out IBS.out (by omega) (by omega) ⟨hn0, hn1⟩).mono ?_; rintro e w5 ⟨l5, bo, rfl, hl5, hbo, hR5, hI5, hE5, hD5, hB5, hK5⟩; refine Hid.out ?_)
            have hz5 := HZ.out
            rw [show at_ + (p + 3) = at_ + (b.length + 1) by omega] at hz5
            have HQ5 := Lib.hid (Kd.R_kept HRQ2.out hK5 (fun k hk h => by omega))
            have HB5 := Lib.hid (Kd.R_kept HRB2.out hK5 (fun k hk h => by omega))
            have HI5 := Lib.hid hI5
            rcases hbo with rfl | rfl
            · obtain ⟨q1, q2⟩ := over_pull (B := 1000000000) (V := Mw.lv 1000000000 bs) (g := (g - 1)) (by omega) (hl5.trans hal.symm) (by omega) hI5 HIA.out hD5 hz5 hE5 (by rw [hU, hV]; exact HU2.out)
              have HCL := Lib.hid (over_close (g := (g - 1)) at_ HQ5.out hR5 HB5.out hB5 (by omega) (by omega) (by omega) HIQ.out hn0 hn1)
              have HEE := Lib.hid (over_digit (Q := ql) (at_ := at_) (by omega) HE2.out q1)
              have HWW := Lib.hid q2
              have hcq := (Kd.R_celln (enc := .int .u32) 0 HQ5.out (at_ : Int) (by omega) (by omega))
              simp only [Int.toNat_natCast] at hcq
              obtain ⟨hcq1, hcq2⟩ := hcq
              clear hR5 hI5 hE5 hD5 hK5 q1 q2 hz5
              refine Lib.hid ?_
              go_wp2_with fail
              rw [Exit.noGoto_normal]
              go_wp2_with fail
              refine ⟨⟨j + 1, l5, ql.set at_ (g - 1), by omega, by go_num, hl5, by rw [List.length_set]; exact hql, Lib.hid HCL.out.1, HI5, Lib.hid HCL.out.2.1, Lib.hid HCL.out.2.2.1, Lib.hid HCL.out.2.2.2.1, by rw [show nq - (j + 1) = at_ by omega]; exact HEE, by rw [show nq - (j + 1) = at_ by omega]; exact HWW, Lib.hid HCL.out.2.2.2.2⟩, ?_⟩
              simp [intOf]; omega
            · have hg1_ := over_pos (B := 1000000000) (V := Mw.lv 1000000000 bs) (g := (g - 1)) (by omega) (hl5.trans hal.symm) (by omega) hI5 HIA.out hD5 hz5 hE5 hn0
              have HR5 := Lib.hid hR5
              have HE5 := Lib.hid hE5
              have HD5 := Lib.hid hD5
              have HB5' := Lib.hid hB5
              have HK5 := Lib.hid hK5
              have HZ5 := Lib.hid hz5
              clear hR5 hI5 hE5 hD5 hB5 hK5 hz5
              refine Lib.hid ?_
              go_wp2_with (go_at_call 161; refine (push_call (a.length + 1) b.length ga ca l5 (some ⟨gb, 0, none⟩) b.length bs at_ (fun k => k = ga) w _ hl5.symm hlbs.symm HB5'.out (by omega) rfl HR5.out (fun W hk => HCK.out W (HK5.out.then_ hk (fun k h => .inl h))) (Nat.le_refl _) HI5.out IBS.out (by omega) (by omega)).mono ?_; rintro e w6 ⟨rfl, l6, co, hl6, hco0, hco1, hR6, hI6, hE6, hD6, hB6, hK6⟩; refine Hid.out ?_)
              obtain ⟨q1, q2, _⟩ := over_push (B := 1000000000) (V := Mw.lv 1000000000 bs) (g := (g - 1)) (by omega) (hl5.trans hal.symm) (hl6.trans hl5.symm) (by omega) HI5.out HIA.out hI6 HD5.out hD6 HZ5.out HE5.out hco0 hco1 hE6 (by rw [hU, hV]; exact HU1.out)
              have HQ6 := Lib.hid (Kd.R_kept HQ5.out hK6 (fun k hk h => by omega))
              have HB6 := Lib.hid (Kd.R_kept HB5.out hK6 (fun k hk h => by omega))
              have HCL := Lib.hid (over_close (g := (g - 1) - 1) at_ HQ6.out hR6 HB6.out hB6 (by omega) (by omega) (by omega) HIQ.out (by omega) (by omega))
              have HEE := Lib.hid (over_digit (Q := ql) (at_ := at_) (by omega) HE2.out q1)
              have HWW := Lib.hid q2
              have HI6 := Lib.hid hI6
              have hcq := (Kd.R_celln (enc := .int .u32) 0 HQ6.out (at_ : Int) (by omega) (by omega))
              simp only [Int.toNat_natCast] at hcq
              obtain ⟨hcq1, hcq2⟩ := hcq
              clear hR6 hI6 hE6 hD6 hK6 q1 q2 hco0 hco1
              refine Lib.hid ?_
              go_wp2_with fail
              rw [Exit.noGoto_normal]
              go_wp2_with fail
              refine ⟨⟨j + 1, l6, ql.set at_ ((g - 1) - 1), by omega, by go_num, hl6, by rw [List.length_set]; exact hql, Lib.hid HCL.out.1, HI6, Lib.hid HCL.out.2.1, Lib.hid HCL.out.2.2.1, Lib.hid HCL.out.2.2.2.1, by rw [show nq - (j + 1) = at_ by omega]; exact HEE, by rw [show nq - (j + 1) = at_ by omega]; exact HWW, Lib.hid HCL.out.2.2.2.2⟩, ?_⟩
              simp [intOf]; omega
          · go_wp2_with fail
            refine ⟨⟨trivial, _, _, rfl, rfl, by omega, by omega, by omega, by omega, HD2⟩, ?_⟩
            simp [intOf]; omega
        · have hmw := hmw (by omega)
          by_cases hc : r * 1000000000 + y0 < g * v2
          · skip
            obtain ⟨d1, d2⟩ := better_down HF1.out.1 (show (0 : Int) < 1000000000 by omega) hv1p hv2b.1 b0.1 (by rw [← hV]; exact Mw.lv_nonneg (by omega) IBS.out) HF1.out.2.2.1 HBU.out HF1.out.2.2.2.2 HBT.out (.inr hc)
            have HD2 := Lib.hid d2
            clear d2
            by_cases hr : 1000000000 ≤ r + v1
            · have hEnd := better_end HF1.out.1 (show (0 : Int) < 1000000000 by omega) hv1p hv2b.1 hv2b.2 b0.1 HF1.out.2.1 HF1.out.2.2.1 HF1.out.2.2.2.1 HF1.out.2.2.2.2 HD2.out (.inr hr)
              have hn0 : 0 ≤ g - 1 := by omega
              have hn1 := hEnd.1
              have HU1 := Lib.hid hEnd.2
              have HU2 := Lib.hid HD2.out.2.2.2
              clear hEnd
              go_wp2_with (go_at_call 160; refine (pull_call (a.length + 1) b.length ga ca al (some ⟨gb, 0, none⟩) b.length bs at_ (g - 1) (fun k => k = ga) w _ hal.symm hlbs.symm HBW2.out (by omega) rfl HRA2.out HCK.out (Nat.le_refl _) HIA.out IBS.out (by omega) (by omega) ⟨hn0, hn1⟩).mono ?_; rintro e w5 ⟨l5, bo, rfl, hl5, hbo, hR5, hI5, hE5, hD5, hB5, hK5⟩; refine Hid.out ?_)
              have hz5 := HZ.out
              rw [show at_ + (p + 3) = at_ + (b.length + 1) by omega] at hz5
              have HQ5 := Lib.hid (Kd.R_kept HRQ2.out hK5 (fun k hk h => by omega))
              have HB5 := Lib.hid (Kd.R_kept HRB2.out hK5 (fun k hk h => by omega))
              have HI5 := Lib.hid hI5
              rcases hbo with rfl | rfl
              · obtain ⟨q1, q2⟩ := over_pull (B := 1000000000) (V := Mw.lv 1000000000 bs) (g := (g - 1)) (by omega) (hl5.trans hal.symm) (by omega) hI5 HIA.out hD5 hz5 hE5 (by rw [hU, hV]; exact HU2.out)
                have HCL := Lib.hid (over_close (g := (g - 1)) at_ HQ5.out hR5 HB5.out hB5 (by omega) (by omega) (by omega) HIQ.out hn0 hn1)
                have HEE := Lib.hid (over_digit (Q := ql) (at_ := at_) (by omega) HE2.out q1)
                have HWW := Lib.hid q2
                have hcq := (Kd.R_celln (enc := .int .u32) 0 HQ5.out (at_ : Int) (by omega) (by omega))
                simp only [Int.toNat_natCast] at hcq
                obtain ⟨hcq1, hcq2⟩ := hcq
                clear hR5 hI5 hE5 hD5 hK5 q1 q2 hz5
                refine Lib.hid ?_
                go_wp2_with fail
                rw [Exit.noGoto_normal]
                go_wp2_with fail
                refine ⟨⟨j + 1, l5, ql.set at_ (g - 1), by omega, by go_num, hl5, by rw [List.length_set]; exact hql, Lib.hid HCL.out.1, HI5, Lib.hid HCL.out.2.1, Lib.hid HCL.out.2.2.1, Lib.hid HCL.out.2.2.2.1, by rw [show nq - (j + 1) = at_ by omega]; exact HEE, by rw [show nq - (j + 1) = at_ by omega]; exact HWW, Lib.hid HCL.out.2.2.2.2⟩, ?_⟩
                simp [intOf]; omega
              · have hg1_ := over_pos (B := 1000000000) (V := Mw.lv 1000000000 bs) (g := (g - 1)) (by omega) (hl5.trans hal.symm) (by omega) hI5 HIA.out hD5 hz5 hE5 hn0
                have HR5 := Lib.hid hR5
                have HE5 := Lib.hid hE5
                have HD5 := Lib.hid hD5
                have HB5' := Lib.hid hB5
                have HK5 := Lib.hid hK5
                have HZ5 := Lib.hid hz5
                clear hR5 hI5 hE5 hD5 hB5 hK5 hz5
                refine Lib.hid ?_
                go_wp2_with (go_at_call 161; refine (push_call (a.length + 1) b.length ga ca l5 (some ⟨gb, 0, none⟩) b.length bs at_ (fun k => k = ga) w _ hl5.symm hlbs.symm HB5'.out (by omega) rfl HR5.out (fun W hk => HCK.out W (HK5.out.then_ hk (fun k h => .inl h))) (Nat.le_refl _) HI5.out IBS.out (by omega) (by omega)).mono ?_; rintro e w6 ⟨rfl, l6, co, hl6, hco0, hco1, hR6, hI6, hE6, hD6, hB6, hK6⟩; refine Hid.out ?_)
                obtain ⟨q1, q2, _⟩ := over_push (B := 1000000000) (V := Mw.lv 1000000000 bs) (g := (g - 1)) (by omega) (hl5.trans hal.symm) (hl6.trans hl5.symm) (by omega) HI5.out HIA.out hI6 HD5.out hD6 HZ5.out HE5.out hco0 hco1 hE6 (by rw [hU, hV]; exact HU1.out)
                have HQ6 := Lib.hid (Kd.R_kept HQ5.out hK6 (fun k hk h => by omega))
                have HB6 := Lib.hid (Kd.R_kept HB5.out hK6 (fun k hk h => by omega))
                have HCL := Lib.hid (over_close (g := (g - 1) - 1) at_ HQ6.out hR6 HB6.out hB6 (by omega) (by omega) (by omega) HIQ.out (by omega) (by omega))
                have HEE := Lib.hid (over_digit (Q := ql) (at_ := at_) (by omega) HE2.out q1)
                have HWW := Lib.hid q2
                have HI6 := Lib.hid hI6
                have hcq := (Kd.R_celln (enc := .int .u32) 0 HQ6.out (at_ : Int) (by omega) (by omega))
                simp only [Int.toNat_natCast] at hcq
                obtain ⟨hcq1, hcq2⟩ := hcq
                clear hR6 hI6 hE6 hD6 hK6 q1 q2 hco0 hco1
                refine Lib.hid ?_
                go_wp2_with fail
                rw [Exit.noGoto_normal]
                go_wp2_with fail
                refine ⟨⟨j + 1, l6, ql.set at_ ((g - 1) - 1), by omega, by go_num, hl6, by rw [List.length_set]; exact hql, Lib.hid HCL.out.1, HI6, Lib.hid HCL.out.2.1, Lib.hid HCL.out.2.2.1, Lib.hid HCL.out.2.2.2.1, by rw [show nq - (j + 1) = at_ by omega]; exact HEE, by rw [show nq - (j + 1) = at_ by omega]; exact HWW, Lib.hid HCL.out.2.2.2.2⟩, ?_⟩
                simp [intOf]; omega
            · go_wp2_with fail
              refine ⟨⟨trivial, _, _, rfl, rfl, by omega, by omega, by omega, by omega, HD2⟩, ?_⟩
              simp [intOf]; omega
          · have hEnd := better_end HF1.out.1 (show (0 : Int) < 1000000000 by omega) hv1p hv2b.1 hv2b.2 b0.1 HF1.out.2.1 HF1.out.2.2.1 HF1.out.2.2.2.1 HF1.out.2.2.2.2 HBT.out (.inl ⟨by omega, by omega⟩)
            have hn0 : 0 ≤ g := by omega
            have hn1 := hEnd.1
            have HU1 := Lib.hid hEnd.2
            have HU2 := Lib.hid HBT.out.2.2.2
            clear hEnd
            go_wp2_with (go_at_call 160; refine (pull_call (a.length + 1) b.length ga ca al (some ⟨gb, 0, none⟩) b.length bs at_ g (fun k => k = ga) w _ hal.symm hlbs.symm HBW2.out (by omega) rfl HRA2.out HCK.out (Nat.le_refl _) HIA.out IBS.out (by omega) (by omega) ⟨hn0, hn1⟩).mono ?_; rintro e w5 ⟨l5, bo, rfl, hl5, hbo, hR5, hI5, hE5, hD5, hB5, hK5⟩; refine Hid.out ?_)
            have hz5 := HZ.out
            rw [show at_ + (p + 3) = at_ + (b.length + 1) by omega] at hz5
            have HQ5 := Lib.hid (Kd.R_kept HRQ2.out hK5 (fun k hk h => by omega))
            have HB5 := Lib.hid (Kd.R_kept HRB2.out hK5 (fun k hk h => by omega))
            have HI5 := Lib.hid hI5
            rcases hbo with rfl | rfl
            · obtain ⟨q1, q2⟩ := over_pull (B := 1000000000) (V := Mw.lv 1000000000 bs) (g := g) (by omega) (hl5.trans hal.symm) (by omega) hI5 HIA.out hD5 hz5 hE5 (by rw [hU, hV]; exact HU2.out)
              have HCL := Lib.hid (over_close (g := g) at_ HQ5.out hR5 HB5.out hB5 (by omega) (by omega) (by omega) HIQ.out hn0 hn1)
              have HEE := Lib.hid (over_digit (Q := ql) (at_ := at_) (by omega) HE2.out q1)
              have HWW := Lib.hid q2
              have hcq := (Kd.R_celln (enc := .int .u32) 0 HQ5.out (at_ : Int) (by omega) (by omega))
              simp only [Int.toNat_natCast] at hcq
              obtain ⟨hcq1, hcq2⟩ := hcq
              clear hR5 hI5 hE5 hD5 hK5 q1 q2 hz5
              refine Lib.hid ?_
              go_wp2_with fail
              rw [Exit.noGoto_normal]
              go_wp2_with fail
              refine ⟨⟨j + 1, l5, ql.set at_ g, by omega, by go_num, hl5, by rw [List.length_set]; exact hql, Lib.hid HCL.out.1, HI5, Lib.hid HCL.out.2.1, Lib.hid HCL.out.2.2.1, Lib.hid HCL.out.2.2.2.1, by rw [show nq - (j + 1) = at_ by omega]; exact HEE, by rw [show nq - (j + 1) = at_ by omega]; exact HWW, Lib.hid HCL.out.2.2.2.2⟩, ?_⟩
              simp [intOf]; omega
            · have hg1_ := over_pos (B := 1000000000) (V := Mw.lv 1000000000 bs) (g := g) (by omega) (hl5.trans hal.symm) (by omega) hI5 HIA.out hD5 hz5 hE5 hn0
              have HR5 := Lib.hid hR5
              have HE5 := Lib.hid hE5
              have HD5 := Lib.hid hD5
              have HB5' := Lib.hid hB5
              have HK5 := Lib.hid hK5
              have HZ5 := Lib.hid hz5
              clear hR5 hI5 hE5 hD5 hB5 hK5 hz5
              refine Lib.hid ?_
              go_wp2_with (go_at_call 161; refine (push_call (a.length + 1) b.length ga ca l5 (some ⟨gb, 0, none⟩) b.length bs at_ (fun k => k = ga) w _ hl5.symm hlbs.symm HB5'.out (by omega) rfl HR5.out (fun W hk => HCK.out W (HK5.out.then_ hk (fun k h => .inl h))) (Nat.le_refl _) HI5.out IBS.out (by omega) (by omega)).mono ?_; rintro e w6 ⟨rfl, l6, co, hl6, hco0, hco1, hR6, hI6, hE6, hD6, hB6, hK6⟩; refine Hid.out ?_)
              obtain ⟨q1, q2, _⟩ := over_push (B := 1000000000) (V := Mw.lv 1000000000 bs) (g := g) (by omega) (hl5.trans hal.symm) (hl6.trans hl5.symm) (by omega) HI5.out HIA.out hI6 HD5.out hD6 HZ5.out HE5.out hco0 hco1 hE6 (by rw [hU, hV]; exact HU1.out)
              have HQ6 := Lib.hid (Kd.R_kept HQ5.out hK6 (fun k hk h => by omega))
              have HB6 := Lib.hid (Kd.R_kept HB5.out hK6 (fun k hk h => by omega))
              have HCL := Lib.hid (over_close (g := g - 1) at_ HQ6.out hR6 HB6.out hB6 (by omega) (by omega) (by omega) HIQ.out (by omega) (by omega))
              have HEE := Lib.hid (over_digit (Q := ql) (at_ := at_) (by omega) HE2.out q1)
              have HWW := Lib.hid q2
              have HI6 := Lib.hid hI6
              have hcq := (Kd.R_celln (enc := .int .u32) 0 HQ6.out (at_ : Int) (by omega) (by omega))
              simp only [Int.toNat_natCast] at hcq
              obtain ⟨hcq1, hcq2⟩ := hcq
              clear hR6 hI6 hE6 hD6 hK6 q1 q2 hco0 hco1
              refine Lib.hid ?_
              go_wp2_with fail
              rw [Exit.noGoto_normal]
              go_wp2_with fail
              refine ⟨⟨j + 1, l6, ql.set at_ (g - 1), by omega, by go_num, hl6, by rw [List.length_set]; exact hql, Lib.hid HCL.out.1, HI6, Lib.hid HCL.out.2.1, Lib.hid HCL.out.2.2.1, Lib.hid HCL.out.2.2.2.1, by rw [show nq - (j + 1) = at_ by omega]; exact HEE, by rw [show nq - (j + 1) = at_ by omega]; exact HWW, Lib.hid HCL.out.2.2.2.2⟩, ?_⟩
              simp [intOf]; omega
    · obtain rfl : j = nq := by omega
      have hlt' : ¬ (j : Int) < (j : Int) := by omega
      have hE := HE.out
      have hW := HW.out
      rw [Nat.sub_self, List.drop_zero] at hE hW
      rw [Int.pow_zero, Int.one_mul, HVa.out, HVS.out] at hE
      rw [HVS.out] at hW
      have HE3 := Lib.hid hE
      have HW3 := Lib.hid hW
      clear hE hW
      have hca : (b.length : Int) ≤ ca := by
        have := (Kd.R_reads' HRA.out).2.1
        omega
      have hq := Kd.R_reads' HRQ.out
      have hrA := C_take (w := wr) (A := some ⟨ga, 0, none⟩) (l := al) (n := b.length) (Kd.R_reads' HRA.out).2.2 (by omega)
      have hrest := over_rest (B := 1000000000) (n := b.length) (by omega) (by omega) HIA.out HW3.out (by rw [← HVS.out]; have h := Mw.lv_lt (by omega) IBS.out; rw [hlbs] at h; exact h)
      have HQ := Lib.hid hq.2.2
      have hqc := hq.2.1
      have HRA3 := Lib.hid hrA
      have HREST := Lib.hid hrest
      have hlt3 : b.length = (al.take b.length).length := by rw [List.length_take]; omega
      have HLT3 := Lib.hid hlt3
      clear hq hrA hrest hlt3 hnq
      go_wp2_with (go_at_call 131; refine (shortly_call b.length (some ⟨ga, 0, none⟩) (al.take b.length) ca by_ _ HLT3.out HRA3.out (by omega) (Mw.inB_take HIA.out _) (by omega) B1 (by omega)).mono ?_; rintro e w6 ⟨Ar, rl, cr, rr, rfl, hcr, hCr, hIr, hlr, hEr, hr0, hr1, hBr⟩; refine Hid.out ?_)
      have hfin := over_last (a := Mw.lv 1000000000 a) (b := Mw.lv 1000000000 b) (q := Mw.lv 1000000000 ql) (r := Mw.lv 1000000000 rl) (s := rr) HVP.out B1 HE3.out (Mw.lv_nonneg (by omega) HIA.out) HW3.out (by rw [← HREST.out]; exact hEr) hr0 hr1
      have HFIN := Lib.hid hfin
      have HCr := Lib.hid hCr
      have HIr := Lib.hid hIr
      have HBr := Lib.hid hBr
      clear hfin hCr hIr hBr hEr hr0 hr1
      refine Lib.hid ?_
      go_wp2_with fail
      exact bodyPost_ret (v := .tuple #[.slice (some ⟨gq, 0, none⟩) j cq, .slice Ar b.length cr]) (by simp [results, Tryz.results132, go_sem]) rfl
        ⟨some ⟨gq, 0, none⟩, ql, cq, Ar, rl, cr, by rw [hql, hlr], by omega, Kd.C_below HQ.out HBr.out, HIQ.out, by rw [hql]; exact HNQ.out.symm, HFIN.out.1, by omega, HCr.out, HIr.out, by rw [hlr]; exact HB.out, HFIN.out.2, HBW.out.trans (HBr.out.mono HBW.out.size)⟩
end Go.Proofs.YtjieekkkaekclaaGreatDoor
