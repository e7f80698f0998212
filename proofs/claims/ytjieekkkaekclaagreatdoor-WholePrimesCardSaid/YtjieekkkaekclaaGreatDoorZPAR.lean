/- Lemmas for the claim beside this text. -/
import Derived.Test.YtjieekkkaekclaaGreatDoorProg
import Derived.Test.YtjieekkkaekclaaGreatDoorZPAQ
import Derived.Lib.Atoi
import Derived.Lib.AtoiErrMem
import Derived.Maps.AppendAt
import Derived.RangeFuncBox
import Derived.RangeFuncLeaves
import Derived.Shelf.LaysM
import Derived.Shelf.Small.Wraps
import Derived.Shelf.Strconv.Atoi
import Derived.Shelf.Strconv.Itoa0
import Derived.Shelf.Strconv.Itoa1
import Derived.Shelf.Strconv.Itoa2
import Derived.Shelf.Strconv.Itoa3
import Derived.Shelf.Strings.Builder1
import Derived.Shelf.Strings.Builder2
import Derived.Shelf.Strings.BuilderF
import Derived.Shelf.Strings.BuilderK
import Derived.Shelf.Strings.Prefix
import Derived.Shelf.Strings.Repeat
set_option linter.all false
set_option linter.unusedVariables false
set_option linter.unusedSimpArgs false
namespace Go.Proofs.YtjieekkkaekclaaGreatDoor
open Go
theorem decFrom_dval (l : List UInt8) (h : ∀ c ∈ l, Mw.dig c = true) : ∀ acc, Lib.decFrom acc l = some (acc * 10 ^ l.length + Mw.dval l) := by
  induction l with
  | nil => intro acc; simp [Lib.decFrom, Mw.dval]
  | cons b r ih =>
    intro acc
    have hb := h b (by simp)
    simp only [Mw.dig, Bool.and_eq_true, decide_eq_true_eq] at hb
    simp only [Lib.decFrom, Lib.digitVal, if_pos hb]
    rw [ih (fun c hc => h c (by simp [hc])), Mw.dval_cons, List.length_cons, Nat.pow_succ, Nat.add_mul, Nat.mul_assoc, Nat.mul_comm 10]
    congr 1; omega
theorem atoi_dval (l : List UInt8) (h : ∀ c ∈ l, Mw.dig c = true) (hn : l ≠ []) : Lib.atoi l = some (Mw.dval l : Int) := by
  cases l with
  | nil => exact absurd rfl hn
  | cons b r =>
    have hb := h b (by simp)
    simp only [Mw.dig, Bool.and_eq_true, decide_eq_true_eq] at hb
    have h1 : (b == 45) = false := by
      apply beq_false_of_ne; intro e; subst e; exact absurd hb.1 (by decide)
    have h2 : (b == 43) = false := by
      apply beq_false_of_ne; intro e; subst e; exact absurd hb.1 (by decide)
    have hd := decFrom_dval (b :: r) h 0
    rw [Nat.zero_mul, Nat.zero_add] at hd
    simp only [Lib.atoi, h1, h2, Bool.false_eq_true, if_false, Lib.decNat, List.isEmpty_cons, hd, Option.map_some]
theorem ext_list (s : ByteArray) (i j : Nat) : (s.extract i j).data.toList = (s.data.toList.take j).drop i := by
  rw [ByteArray.data_extract]
  rw [Array.toList_extract, List.extract_eq_take_drop, List.drop_take]
theorem size_list (s : ByteArray) : s.data.toList.length = s.size := Array.length_toList
def Piece (x : ByteArray) : Prop := x.size ≤ 9 ∧ x.data.toList ≠ [] ∧ ∀ c ∈ x.data.toList, Mw.dig c = true
def limbsOf (l : List ByteArray) : List Int := l.map fun x => (Mw.dval x.data.toList : Int)
theorem chunks_all (k : Nat) : ∀ (s : ByteArray), s.size = k → (∀ c ∈ s.data.toList, Mw.dig c = true) →
    (∀ x ∈ chunksOf s, Piece x) ∧ Mw.inB 1000000000 (limbsOf (chunksOf s)) ∧ Mw.lv 1000000000 (limbsOf (chunksOf s)) = (Mw.dval s.data.toList : Int) ∧ (s.size ≠ 0 → 0 < (chunksOf s).length) ∧ (chunksOf s).length ≤ s.size := by
  induction k using Nat.strongRecOn with
  | _ k ih =>
    intro s hk hd
    by_cases h0 : s.size = 0
    · have hnil : chunksOf s = [] := by rw [chunksOf, dif_pos h0]
      have hl : s.data.toList = [] := List.length_eq_zero_iff.mp (by rw [size_list]; exact h0)
      rw [hnil]
      refine ⟨by simp, by simp [limbsOf, Mw.inB_nil], by simp [limbsOf, Mw.lv, hl, Mw.dval], fun h => absurd h0 h, by simp⟩
    · have hst : chunksOf s = s.extract (s.size - 9) s.size :: chunksOf (s.extract 0 (s.size - 9)) := by rw [chunksOf, dif_neg h0]
      have hz : (s.extract 0 (s.size - 9)).size = s.size - 9 := by simp only [ByteArray.size_extract]; omega
      have e1 : (s.extract 0 (s.size - 9)).data.toList = s.data.toList.take (s.size - 9) := by rw [ext_list, List.drop_zero]
      have e2 : (s.extract (s.size - 9) s.size).data.toList = s.data.toList.drop (s.size - 9) := by rw [ext_list, List.take_of_length_le (by rw [size_list]; omega)]
      obtain ⟨i1, i2, i3, i4, i5⟩ := ih (s.size - 9) (by omega) (s.extract 0 (s.size - 9)) hz (by rw [e1]; exact fun c hc => hd c (List.mem_of_mem_take hc))
      have hdd : ∀ c ∈ (s.extract (s.size - 9) s.size).data.toList, Mw.dig c = true := by rw [e2]; exact fun c hc => hd c (List.mem_of_mem_drop hc)
      have hlen : (s.extract (s.size - 9) s.size).data.toList.length = s.size - (s.size - 9) := by rw [e2, List.length_drop, size_list]
      have hlt := Mw.dval_lt _ hdd
      have hpw : 10 ^ (s.extract (s.size - 9) s.size).data.toList.length ≤ 1000000000 := by
        rw [hlen]
        calc 10 ^ (s.size - (s.size - 9)) ≤ 10 ^ 9 := Nat.pow_le_pow_right (by omega) (by omega)
          _ = 1000000000 := by decide
      have hp : Piece (s.extract (s.size - 9) s.size) := by
        refine ⟨by rw [← size_list, hlen]; omega, fun h => ?_, hdd⟩
        rw [h] at hlen; simp at hlen; omega
      have hsum : Mw.dval s.data.toList = Mw.dval (s.data.toList.take (s.size - 9)) * 10 ^ (s.data.toList.drop (s.size - 9)).length + Mw.dval (s.data.toList.drop (s.size - 9)) := by
        rw [← Mw.dval_append, List.take_append_drop]
      rw [hst]
      refine ⟨?_, ?_, ?_, fun _ => by simp, ?_⟩
      · intro x hx
        rcases List.mem_cons.mp hx with rfl | hx
        · exact hp
        · exact i1 x hx
      · simp only [limbsOf, List.map_cons]
        exact Mw.inB_cons.mpr ⟨⟨by omega, by omega⟩, i2⟩
      · simp only [limbsOf, List.map_cons, Mw.lv_cons]
        simp only [limbsOf] at i3
        rw [i3, e1, e2, hsum]
        by_cases h9 : 9 ≤ s.size
        · have : (s.data.toList.drop (s.size - 9)).length = 9 := by rw [List.length_drop, size_list]; omega
          rw [this]
          have h10 : (10 : Nat) ^ 9 = 1000000000 := by decide
          rw [h10]
          omega
        · have : s.size - 9 = 0 := by omega
          rw [this, List.take_zero, List.drop_zero, Mw.dval_nil]
          omega
      · rw [List.length_cons]; rw [hz] at i5; omega
end Go.Proofs.YtjieekkkaekclaaGreatDoor
namespace Go.Proofs
open Go.Shelf
def Tryz.lays169_ren : Go.Shelf.Ren := ⟨fun | 169 => 158 | n => n, fun | 70 => 163 | 9 => 9 | 0 => 0 | 72 => 165 | 37 => 104 | 127 => 192 | 3 => 3 | 5 => 5 | n => n, fun | n => n⟩
theorem Tryz.lays169 : Go.Proofs.Lays.n169 Tryz.prog Tryz.lays169_ren := {
  mixed := by kernel_rfl
  f169 := Tryz.func158.trans (congrArg some (by kernel_rfl))
  t0 := Tryz.underlying0
  a0 := Tryz.isAgg0
  z0 := Tryz.sizeOf0
  v0 := Tryz.zeroValue0
  t3 := Tryz.underlying3
  a3 := Tryz.isAgg3
  z3 := Tryz.sizeOf3
  v3 := Tryz.zeroValue3
  t9 := Tryz.underlying9
  a9 := Tryz.isAgg9
  z9 := Tryz.sizeOf9
  v9 := Tryz.zeroValue9
  t37 := Tryz.underlying104
  a37 := Tryz.isAgg104
  z37 := Tryz.sizeOf104
  v37 := Tryz.zeroValue104
  t70 := Tryz.underlying163
  a70 := Tryz.isAgg163
  z70 := Tryz.sizeOf163
  v70 := Tryz.zeroValue163
  t72 := Tryz.underlying165
  a72 := Tryz.isAgg165
  z72 := Tryz.sizeOf165
  v72 := Tryz.zeroValue165
  t127 := Tryz.underlying192
  a127 := Tryz.isAgg192
  z127 := Tryz.sizeOf192
  v127 := Tryz.zeroValue192 }
theorem Tryz.Builder_Extra_169 : Builder.Extra Tryz.prog Tryz.lays169_ren := {
  sizeBuilder := by kernel_rfl
  liesBuilder := by kernel_rfl
  t5 := Tryz.underlying5
  a5 := Tryz.isAgg5
  z5 := Tryz.sizeOf5
  v5 := Tryz.zeroValue5
  infoByte := by kernel_rfl
  cellsByte := by kernel_rfl
  sizeByte := by kernel_rfl
  neB5 := by decide }
open Go.RowKit in
theorem Tryz.Builder_String_any_k (B b : Nat) (l : List UInt8) (w : World) (h : Lib.IsBuilderF 165 5 B b (Lib.byteCells l) w) (hBw : B ≤ w.heap.size) :
    Calls Tryz.prog 158 #[.pointer (some ⟨b, 0, none⟩)] w fun e w' => e = .returned (.string ⟨l.toArray⟩) ∧ (Lib.IsBuilderF 165 5 B b (Lib.byteCells l) w' ∧ Below B w w' ∧ Lib.OthersKept 5 (some b) w w') := Any.Builder_String_any_k Tryz.lays169 Tryz.Builder_Extra_169 B b l w h hBw
def Tryz.lays172_ren : Go.Shelf.Ren := ⟨fun | 172 => 153 | 244 => 170 | 245 => 171 | 247 => 177 | 279 => 178 | 280 => 179 | 281 => 180 | 282 => 181 | 287 => 187 | 316 => 188 | 171 => 156 | 205 => 189 | 321 => 195 | 322 => 196 | 243 => 173 | 246 => 183 | 283 => 190 | 284 => 191 | 285 => 192 | 286 => 193 | 129 => 198 | 317 => 197 | 318 => 199 | 319 => 200 | 320 => 201 | 337 => 202 | 338 => 203 | n => n, fun | 9 => 9 | 3 => 3 | 75 => 112 | 76 => 161 | 4 => 4 | 5 => 5 | 167 => 193 | 37 => 104 | 0 => 0 | 85 => 194 | 2 => 2 | 168 => 196 | 53 => 63 | 175 => 205 | 46 => 138 | 210 => 208 | 127 => 192 | 145 => 219 | 143 => 217 | 21 => 21 | 171 => 210 | 173 => 213 | 212 => 221 | 51 => 121 | 20 => 20 | 213 => 222 | 232 => 225 | 233 => 226 | 80 => 118 | n => n, fun | 15 => 1 | 16 => 2 | 17 => 3 | 18 => 5 | 19 => 6 | n => n⟩
theorem Tryz.lays172 : Go.Proofs.Lays.n172 Tryz.prog Tryz.lays172_ren := {
  mixed := by kernel_rfl
  f129 := Tryz.func198.trans (congrArg some (by kernel_rfl))
  f171 := Tryz.func156.trans (congrArg some (by kernel_rfl))
  f172 := Tryz.func153.trans (congrArg some (by kernel_rfl))
  f205 := Tryz.func189.trans (congrArg some (by kernel_rfl))
  f243 := Tryz.func173.trans (congrArg some (by kernel_rfl))
  f244 := Tryz.func170.trans (congrArg some (by kernel_rfl))
  f245 := Tryz.func171.trans (congrArg some (by kernel_rfl))
  f246 := Tryz.func183.trans (congrArg some (by kernel_rfl))
  f247 := Tryz.func177.trans (congrArg some (by kernel_rfl))
  f279 := Tryz.func178.trans (congrArg some (by kernel_rfl))
  f280 := Tryz.func179.trans (congrArg some (by kernel_rfl))
  f281 := Tryz.func180.trans (congrArg some (by kernel_rfl))
  f282 := Tryz.func181.trans (congrArg some (by kernel_rfl))
  f283 := Tryz.func190.trans (congrArg some (by kernel_rfl))
  f284 := Tryz.func191.trans (congrArg some (by kernel_rfl))
  f285 := Tryz.func192.trans (congrArg some (by kernel_rfl))
  f286 := Tryz.func193.trans (congrArg some (by kernel_rfl))
  f287 := Tryz.func187.trans (congrArg some (by kernel_rfl))
  f316 := Tryz.func188.trans (congrArg some (by kernel_rfl))
  f317 := Tryz.func197.trans (congrArg some (by kernel_rfl))
  f318 := Tryz.func199.trans (congrArg some (by kernel_rfl))
  f319 := Tryz.func200.trans (congrArg some (by kernel_rfl))
  f320 := Tryz.func201.trans (congrArg some (by kernel_rfl))
  f321 := Tryz.func195.trans (congrArg some (by kernel_rfl))
  f322 := Tryz.func196.trans (congrArg some (by kernel_rfl))
  f337 := Tryz.func202.trans (congrArg some (by kernel_rfl))
  f338 := Tryz.func203.trans (congrArg some (by kernel_rfl))
  t0 := Tryz.underlying0
  a0 := Tryz.isAgg0
  z0 := Tryz.sizeOf0
  v0 := Tryz.zeroValue0
  t2 := Tryz.underlying2
  a2 := Tryz.isAgg2
  z2 := Tryz.sizeOf2
  v2 := Tryz.zeroValue2
  t3 := Tryz.underlying3
  a3 := Tryz.isAgg3
  z3 := Tryz.sizeOf3
  v3 := Tryz.zeroValue3
  t4 := Tryz.underlying4
  a4 := Tryz.isAgg4
  z4 := Tryz.sizeOf4
  v4 := Tryz.zeroValue4
  t5 := Tryz.underlying5
  a5 := Tryz.isAgg5
  z5 := Tryz.sizeOf5
  v5 := Tryz.zeroValue5
  t9 := Tryz.underlying9
  a9 := Tryz.isAgg9
  z9 := Tryz.sizeOf9
  v9 := Tryz.zeroValue9
  t20 := Tryz.underlying20
  a20 := Tryz.isAgg20
  z20 := Tryz.sizeOf20
  v20 := Tryz.zeroValue20
  t21 := Tryz.underlying21
  a21 := Tryz.isAgg21
  z21 := Tryz.sizeOf21
  v21 := Tryz.zeroValue21
  t37 := Tryz.underlying104
  a37 := Tryz.isAgg104
  z37 := Tryz.sizeOf104
  v37 := Tryz.zeroValue104
  t46 := Tryz.underlying138
  a46 := Tryz.isAgg138
  z46 := Tryz.sizeOf138
  v46 := Tryz.zeroValue138
  t51 := Tryz.underlying121
  a51 := Tryz.isAgg121
  z51 := Tryz.sizeOf121
  v51 := Tryz.zeroValue121
  t53 := Tryz.underlying63
  a53 := Tryz.isAgg63
  z53 := Tryz.sizeOf63
  v53 := Tryz.zeroValue63
  t75 := Tryz.underlying112
  a75 := Tryz.isAgg112
  z75 := Tryz.sizeOf112
  v75 := Tryz.zeroValue112
  t76 := Tryz.underlying161
  a76 := Tryz.isAgg161
  z76 := Tryz.sizeOf161
  v76 := Tryz.zeroValue161
  t85 := Tryz.underlying194
  a85 := Tryz.isAgg194
  z85 := Tryz.sizeOf194
  v85 := Tryz.zeroValue194
  t127 := Tryz.underlying192
  a127 := Tryz.isAgg192
  z127 := Tryz.sizeOf192
  v127 := Tryz.zeroValue192
  t143 := Tryz.underlying217
  a143 := Tryz.isAgg217
  z143 := Tryz.sizeOf217
  v143 := Tryz.zeroValue217
  t145 := Tryz.underlying219
  a145 := Tryz.isAgg219
  z145 := Tryz.sizeOf219
  v145 := Tryz.zeroValue219
  t167 := Tryz.underlying193
  a167 := Tryz.isAgg193
  z167 := Tryz.sizeOf193
  v167 := Tryz.zeroValue193
  t168 := Tryz.underlying196
  a168 := Tryz.isAgg196
  z168 := Tryz.sizeOf196
  v168 := Tryz.zeroValue196
  t171 := Tryz.underlying210
  a171 := Tryz.isAgg210
  z171 := Tryz.sizeOf210
  v171 := Tryz.zeroValue210
  t173 := Tryz.underlying213
  a173 := Tryz.isAgg213
  z173 := Tryz.sizeOf213
  v173 := Tryz.zeroValue213
  t175 := Tryz.underlying205
  a175 := Tryz.isAgg205
  z175 := Tryz.sizeOf205
  v175 := Tryz.zeroValue205
  t210 := Tryz.underlying208
  a210 := Tryz.isAgg208
  z210 := Tryz.sizeOf208
  v210 := Tryz.zeroValue208
  t212 := Tryz.underlying221
  a212 := Tryz.isAgg221
  z212 := Tryz.sizeOf221
  v212 := Tryz.zeroValue221
  t213 := Tryz.underlying222
  a213 := Tryz.isAgg222
  z213 := Tryz.sizeOf222
  t232 := Tryz.underlying225
  a232 := Tryz.isAgg225
  z232 := Tryz.sizeOf225
  v232 := Tryz.zeroValue225
  t233 := Tryz.underlying226
  a233 := Tryz.isAgg226
  z233 := Tryz.sizeOf226
  v233 := Tryz.zeroValue226
  g15 := by kernel_rfl
  g16 := by kernel_rfl
  g17 := by kernel_rfl
  g18 := by kernel_rfl
  g19 := by kernel_rfl }
open Go.RowKit in
theorem Tryz.strconv_Atoi (s : ByteArray) (n : Int) (hl : s.size ≤ 18) (h : Lib.atoi s.data.toList = some n) (w : World) :
    Calls Tryz.prog 153 #[.string s] w fun e w' => e = .returned (.tuple #[.int .i64 n, .nilIface]) ∧ ∃ t, w' = Lib.bytesWorld w 5 t := Any.strconv_Atoi Tryz.lays172 s n hl h w
def Tryz.laysM171_ren : Go.Shelf.Ren := ⟨fun | 171 => 156 | 243 => 173 | 246 => 183 | 283 => 190 | 284 => 191 | 285 => 192 | 286 => 193 | 129 => 198 | 317 => 197 | 318 => 199 | 319 => 200 | 320 => 201 | 337 => 202 | 338 => 203 | n => n, fun | 3 => 3 | 9 => 9 | 2 => 2 | 4 => 4 | 171 => 210 | 0 => 0 | 53 => 63 | 37 => 104 | 5 => 5 | 173 => 213 | 212 => 221 | 51 => 121 | 20 => 20 | 213 => 222 | 46 => 138 | 232 => 225 | 233 => 226 | n => n, fun | 17 => 3 | 18 => 5 | 19 => 6 | n => n⟩
theorem Tryz.laysM171 : Go.Proofs.LaysM.n171 Tryz.prog Tryz.laysM171_ren := {
  mixed := by kernel_rfl
  f129 := Tryz.func198.trans (congrArg some (by kernel_rfl))
  f171 := Tryz.func156.trans (congrArg some (by kernel_rfl))
  f243 := Tryz.func173.trans (congrArg some (by kernel_rfl))
  f246 := Tryz.func183.trans (congrArg some (by kernel_rfl))
  f283 := Tryz.func190.trans (congrArg some (by kernel_rfl))
  f284 := Tryz.func191.trans (congrArg some (by kernel_rfl))
  f285 := Tryz.func192.trans (congrArg some (by kernel_rfl))
  f286 := Tryz.func193.trans (congrArg some (by kernel_rfl))
  f317 := Tryz.func197.trans (congrArg some (by kernel_rfl))
  f318 := Tryz.func199.trans (congrArg some (by kernel_rfl))
  f319 := Tryz.func200.trans (congrArg some (by kernel_rfl))
  f320 := Tryz.func201.trans (congrArg some (by kernel_rfl))
  f337 := Tryz.func202.trans (congrArg some (by kernel_rfl))
  f338 := Tryz.func203.trans (congrArg some (by kernel_rfl))
  t0 := Tryz.underlying0
  a0 := Tryz.isAgg0
  z0 := Tryz.sizeOf0
  v0 := Tryz.zeroValue0
  t2 := Tryz.underlying2
  a2 := Tryz.isAgg2
  z2 := Tryz.sizeOf2
  v2 := Tryz.zeroValue2
  t3 := Tryz.underlying3
  a3 := Tryz.isAgg3
  z3 := Tryz.sizeOf3
  v3 := Tryz.zeroValue3
  t4 := Tryz.underlying4
  a4 := Tryz.isAgg4
  z4 := Tryz.sizeOf4
  v4 := Tryz.zeroValue4
  t5 := Tryz.underlying5
  a5 := Tryz.isAgg5
  z5 := Tryz.sizeOf5
  v5 := Tryz.zeroValue5
  t9 := Tryz.underlying9
  a9 := Tryz.isAgg9
  z9 := Tryz.sizeOf9
  v9 := Tryz.zeroValue9
  t20 := Tryz.underlying20
  a20 := Tryz.isAgg20
  z20 := Tryz.sizeOf20
  v20 := Tryz.zeroValue20
  t37 := Tryz.underlying104
  a37 := Tryz.isAgg104
  z37 := Tryz.sizeOf104
  v37 := Tryz.zeroValue104
  t46 := Tryz.underlying138
  a46 := Tryz.isAgg138
  z46 := Tryz.sizeOf138
  v46 := Tryz.zeroValue138
  t51 := Tryz.underlying121
  a51 := Tryz.isAgg121
  z51 := Tryz.sizeOf121
  v51 := Tryz.zeroValue121
  t53 := Tryz.underlying63
  a53 := Tryz.isAgg63
  z53 := Tryz.sizeOf63
  v53 := Tryz.zeroValue63
  t171 := Tryz.underlying210
  a171 := Tryz.isAgg210
  z171 := Tryz.sizeOf210
  v171 := Tryz.zeroValue210
  t173 := Tryz.underlying213
  a173 := Tryz.isAgg213
  z173 := Tryz.sizeOf213
  v173 := Tryz.zeroValue213
  t212 := Tryz.underlying221
  a212 := Tryz.isAgg221
  z212 := Tryz.sizeOf221
  v212 := Tryz.zeroValue221
  t213 := Tryz.underlying222
  a213 := Tryz.isAgg222
  z213 := Tryz.sizeOf222
  t232 := Tryz.underlying225
  a232 := Tryz.isAgg225
  z232 := Tryz.sizeOf225
  v232 := Tryz.zeroValue225
  t233 := Tryz.underlying226
  a233 := Tryz.isAgg226
  z233 := Tryz.sizeOf226
  v233 := Tryz.zeroValue226
  g17 := by kernel_rfl
  g18 := by kernel_rfl
  g19 := by kernel_rfl
  i0 := by kernel_rfl
  i2 := by kernel_rfl
  i3 := by kernel_rfl
  i4 := by kernel_rfl
  i5 := by kernel_rfl
  i9 := by kernel_rfl
  i20 := by kernel_rfl
  i37 := by kernel_rfl
  i46 := by kernel_rfl
  i51 := by kernel_rfl
  i53 := by kernel_rfl
  i171 := by kernel_rfl
  i173 := by kernel_rfl
  i212 := by kernel_rfl
  i232 := by kernel_rfl
  i233 := by kernel_rfl
  m17 := by kernel_rfl
  m18 := by kernel_rfl
  m19 := by kernel_rfl }
open Go.RowKit Go.Sort Go.Lib in
theorem Tryz.strconv_Itoa (n : Int) (h0 : -9223372036854775808 ≤ n) (h1 : n ≤ 9223372036854775807) (w : World) (htab : Lib.TabIs Tryz.prog w "internal/strconv.uint64pow10" .u64 Lib.pow10Tab) :
    Calls Tryz.prog 156 #[.int .i64 n] w fun e w' => e = .returned (.string ⟨(Lib.itoa n).toArray⟩) ∧ ∃ k os, w' = grow (w.drewN k) os := Any.strconv_Itoa Tryz.laysM171 n h0 h1 w htab
def Tryz.lays99_ren : Go.Shelf.Ren := ⟨fun | 99 => 151 | 206 => 165 | n => n, fun | 9 => 9 | 4 => 4 | 3 => 3 | n => n, fun | n => n⟩
theorem Tryz.lays99 : Go.Proofs.Lays.n99 Tryz.prog Tryz.lays99_ren := {
  mixed := by kernel_rfl
  f99 := Tryz.func151.trans (congrArg some (by kernel_rfl))
  f206 := Tryz.func165.trans (congrArg some (by kernel_rfl))
  t3 := Tryz.underlying3
  a3 := Tryz.isAgg3
  z3 := Tryz.sizeOf3
  v3 := Tryz.zeroValue3
  t4 := Tryz.underlying4
  a4 := Tryz.isAgg4
  z4 := Tryz.sizeOf4
  v4 := Tryz.zeroValue4
  t9 := Tryz.underlying9
  a9 := Tryz.isAgg9
  z9 := Tryz.sizeOf9
  v9 := Tryz.zeroValue9 }
open Go.RowKit Go.Lib in
theorem Tryz.strings_HasPrefix (s p : ByteArray) (w : World) :
    Calls Tryz.prog 151 #[.string s, .string p] w fun e w' => e = .returned (.bool (Lib.hasPrefix s.data.toList p.data.toList)) ∧ w' = w := Any.strings_HasPrefix Tryz.lays99 s p w
def Tryz.lays101_ren : Go.Shelf.Ren := ⟨fun | 101 => 121 | 208 => 145 | 206 => 165 | n => n, fun | 9 => 9 | 4 => 4 | 3 => 3 | n => n, fun | n => n⟩
theorem Tryz.lays101 : Go.Proofs.Lays.n101 Tryz.prog Tryz.lays101_ren := {
  mixed := by kernel_rfl
  f101 := Tryz.func121.trans (congrArg some (by kernel_rfl))
  f206 := Tryz.func165.trans (congrArg some (by kernel_rfl))
  f208 := Tryz.func145.trans (congrArg some (by kernel_rfl))
  t3 := Tryz.underlying3
  a3 := Tryz.isAgg3
  z3 := Tryz.sizeOf3
  v3 := Tryz.zeroValue3
  t4 := Tryz.underlying4
  a4 := Tryz.isAgg4
  z4 := Tryz.sizeOf4
  v4 := Tryz.zeroValue4
  t9 := Tryz.underlying9
  a9 := Tryz.isAgg9
  z9 := Tryz.sizeOf9
  v9 := Tryz.zeroValue9 }
open Go.RowKit Go.Lib in
theorem Tryz.strings_TrimPrefix (s p : ByteArray) (w : World) :
    Calls Tryz.prog 121 #[.string s, .string p] w fun e w' => e = .returned (.string ⟨(Lib.trimPrefix s.data.toList p.data.toList).toArray⟩) ∧ w' = w := Any.strings_TrimPrefix Tryz.lays101 s p w
def Tryz.lays105_ren : Go.Shelf.Ren := ⟨fun | 105 => 157 | 212 => 174 | 99 => 151 | 165 => 175 | 166 => 155 | 170 => 176 | 169 => 158 | 263 => 184 | 264 => 185 | 206 => 165 | 240 => 172 | 241 => 186 | 276 => 182 | 277 => 194 | n => n, fun | 9 => 9 | 3 => 3 | 4 => 4 | 20 => 20 | 0 => 0 | 46 => 138 | 109 => 189 | 5 => 5 | 72 => 165 | 76 => 161 | 51 => 121 | 146 => 201 | 53 => 63 | 148 => 203 | 70 => 163 | 37 => 104 | 75 => 112 | 127 => 192 | 164 => 145 | 80 => 118 | n => n, fun | n => n⟩
theorem Tryz.lays105 : Go.Proofs.Lays.n105 Tryz.prog Tryz.lays105_ren := {
  mixed := by kernel_rfl
  f99 := Tryz.func151.trans (congrArg some (by kernel_rfl))
  f105 := Tryz.func157.trans (congrArg some (by kernel_rfl))
  f165 := Tryz.func175.trans (congrArg some (by kernel_rfl))
  f166 := Tryz.func155.trans (congrArg some (by kernel_rfl))
  f169 := Tryz.func158.trans (congrArg some (by kernel_rfl))
  f170 := Tryz.func176.trans (congrArg some (by kernel_rfl))
  f206 := Tryz.func165.trans (congrArg some (by kernel_rfl))
  f212 := Tryz.func174.trans (congrArg some (by kernel_rfl))
  f240 := Tryz.func172.trans (congrArg some (by kernel_rfl))
  f241 := Tryz.func186.trans (congrArg some (by kernel_rfl))
  f263 := Tryz.func184.trans (congrArg some (by kernel_rfl))
  f264 := Tryz.func185.trans (congrArg some (by kernel_rfl))
  f276 := Tryz.func182.trans (congrArg some (by kernel_rfl))
  f277 := Tryz.func194.trans (congrArg some (by kernel_rfl))
  t0 := Tryz.underlying0
  a0 := Tryz.isAgg0
  z0 := Tryz.sizeOf0
  v0 := Tryz.zeroValue0
  t3 := Tryz.underlying3
  a3 := Tryz.isAgg3
  z3 := Tryz.sizeOf3
  v3 := Tryz.zeroValue3
  t4 := Tryz.underlying4
  a4 := Tryz.isAgg4
  z4 := Tryz.sizeOf4
  v4 := Tryz.zeroValue4
  t5 := Tryz.underlying5
  a5 := Tryz.isAgg5
  z5 := Tryz.sizeOf5
  v5 := Tryz.zeroValue5
  t9 := Tryz.underlying9
  a9 := Tryz.isAgg9
  z9 := Tryz.sizeOf9
  v9 := Tryz.zeroValue9
  t20 := Tryz.underlying20
  a20 := Tryz.isAgg20
  z20 := Tryz.sizeOf20
  v20 := Tryz.zeroValue20
  t37 := Tryz.underlying104
  a37 := Tryz.isAgg104
  z37 := Tryz.sizeOf104
  v37 := Tryz.zeroValue104
  t46 := Tryz.underlying138
  a46 := Tryz.isAgg138
  z46 := Tryz.sizeOf138
  v46 := Tryz.zeroValue138
  t51 := Tryz.underlying121
  a51 := Tryz.isAgg121
  z51 := Tryz.sizeOf121
  v51 := Tryz.zeroValue121
  t53 := Tryz.underlying63
  a53 := Tryz.isAgg63
  z53 := Tryz.sizeOf63
  v53 := Tryz.zeroValue63
  t70 := Tryz.underlying163
  a70 := Tryz.isAgg163
  z70 := Tryz.sizeOf163
  v70 := Tryz.zeroValue163
  t72 := Tryz.underlying165
  a72 := Tryz.isAgg165
  z72 := Tryz.sizeOf165
  v72 := Tryz.zeroValue165
  t75 := Tryz.underlying112
  a75 := Tryz.isAgg112
  z75 := Tryz.sizeOf112
  v75 := Tryz.zeroValue112
  t76 := Tryz.underlying161
  a76 := Tryz.isAgg161
  z76 := Tryz.sizeOf161
  v76 := Tryz.zeroValue161
  t109 := Tryz.underlying189
  a109 := Tryz.isAgg189
  z109 := Tryz.sizeOf189
  v109 := Tryz.zeroValue189
  t127 := Tryz.underlying192
  a127 := Tryz.isAgg192
  z127 := Tryz.sizeOf192
  v127 := Tryz.zeroValue192
  t146 := Tryz.underlying201
  a146 := Tryz.isAgg201
  z146 := Tryz.sizeOf201
  v146 := Tryz.zeroValue201
  t148 := Tryz.underlying203
  a148 := Tryz.isAgg203
  z148 := Tryz.sizeOf203
  v148 := Tryz.zeroValue203
  t164 := Tryz.underlying145
  a164 := Tryz.isAgg145
  z164 := Tryz.sizeOf145
  v164 := Tryz.zeroValue145 }
theorem Tryz.Builder_Extra_105 : Builder.Extra Tryz.prog Tryz.lays105_ren := {
  sizeBuilder := by kernel_rfl
  liesBuilder := by kernel_rfl
  t5 := Tryz.underlying5
  a5 := Tryz.isAgg5
  z5 := Tryz.sizeOf5
  v5 := Tryz.zeroValue5
  infoByte := by kernel_rfl
  cellsByte := by kernel_rfl
  sizeByte := by kernel_rfl
  neB5 := by decide }
open Go.RowKit Go.Lib in
theorem Tryz.strings_Repeat (s : ByteArray) (c : Nat) (w : World) (hc : c ≤ 9223372036854775807) (hlen : s.size * c ≤ 140737488355328) :
    Calls Tryz.prog 157 #[.string s, .int .i64 c] w fun e w' => e = .returned (.string ⟨(Lib.repeatL s.data.toList c).toArray⟩) ∧ Below w.heap.size w w' := Any.strings_Repeat Tryz.lays105 Tryz.Builder_Extra_105 s c w hc hlen
def Tryz.lays167_ren : Go.Shelf.Ren := ⟨fun | 167 => 154 | 105 => 157 | 212 => 174 | 99 => 151 | 165 => 175 | 166 => 155 | 170 => 176 | 169 => 158 | 263 => 184 | 264 => 185 | 206 => 165 | 240 => 172 | 241 => 186 | 276 => 182 | 277 => 194 | n => n, fun | 9 => 9 | 3 => 3 | 4 => 4 | 20 => 20 | 0 => 0 | 46 => 138 | 109 => 189 | 5 => 5 | 72 => 165 | 76 => 161 | 51 => 121 | 146 => 201 | 53 => 63 | 148 => 203 | 70 => 163 | 37 => 104 | 75 => 112 | 127 => 192 | 164 => 145 | 80 => 118 | n => n, fun | n => n⟩
theorem Tryz.lays167 : Go.Proofs.Lays.n167 Tryz.prog Tryz.lays167_ren := {
  mixed := by kernel_rfl
  f167 := Tryz.func154.trans (congrArg some (by kernel_rfl))
  f240 := Tryz.func172.trans (congrArg some (by kernel_rfl))
  f276 := Tryz.func182.trans (congrArg some (by kernel_rfl))
  t0 := Tryz.underlying0
  a0 := Tryz.isAgg0
  z0 := Tryz.sizeOf0
  v0 := Tryz.zeroValue0
  t4 := Tryz.underlying4
  a4 := Tryz.isAgg4
  z4 := Tryz.sizeOf4
  v4 := Tryz.zeroValue4
  t5 := Tryz.underlying5
  a5 := Tryz.isAgg5
  z5 := Tryz.sizeOf5
  v5 := Tryz.zeroValue5
  t9 := Tryz.underlying9
  a9 := Tryz.isAgg9
  z9 := Tryz.sizeOf9
  v9 := Tryz.zeroValue9
  t20 := Tryz.underlying20
  a20 := Tryz.isAgg20
  z20 := Tryz.sizeOf20
  v20 := Tryz.zeroValue20
  t37 := Tryz.underlying104
  a37 := Tryz.isAgg104
  z37 := Tryz.sizeOf104
  v37 := Tryz.zeroValue104
  t70 := Tryz.underlying163
  a70 := Tryz.isAgg163
  z70 := Tryz.sizeOf163
  v70 := Tryz.zeroValue163
  t72 := Tryz.underlying165
  a72 := Tryz.isAgg165
  z72 := Tryz.sizeOf165
  v72 := Tryz.zeroValue165
  t75 := Tryz.underlying112
  a75 := Tryz.isAgg112
  z75 := Tryz.sizeOf112
  v75 := Tryz.zeroValue112
  t164 := Tryz.underlying145
  a164 := Tryz.isAgg145
  z164 := Tryz.sizeOf145
  v164 := Tryz.zeroValue145 }
theorem Tryz.Builder_Extra_167 : Builder.Extra Tryz.prog Tryz.lays167_ren := {
  sizeBuilder := by kernel_rfl
  liesBuilder := by kernel_rfl
  t5 := Tryz.underlying5
  a5 := Tryz.isAgg5
  z5 := Tryz.sizeOf5
  v5 := Tryz.zeroValue5
  infoByte := by kernel_rfl
  cellsByte := by kernel_rfl
  sizeByte := by kernel_rfl
  neB5 := by decide }
open Go.RowKit in
theorem Tryz.Builder_WriteByte_k (B b : Nat) (bs : List Value) (c : Int) (w : World) (h : Lib.IsBuilderF 165 5 B b bs w) (hlen : bs.length + 1 ≤ 140737488355328) (hBw : B ≤ w.heap.size) :
    Calls Tryz.prog 154 #[.pointer (some ⟨b, 0, none⟩), .int .u8 c] w fun e w' => e = .returned .nilIface ∧ (Lib.BuilderAtF 165 5 B b (.pointer (some ⟨b, 0, none⟩)) (bs ++ [.int .u8 c]) w' ∧ Below B w w' ∧ Lib.OthersKept 5 (some b) w w') := Any.Builder_WriteByte_k Tryz.lays167 Tryz.Builder_Extra_167 B b bs c w h hlen hBw
def Tryz.lays166_ren : Go.Shelf.Ren := ⟨fun | 105 => 157 | 212 => 174 | 99 => 151 | 165 => 175 | 166 => 155 | 170 => 176 | 169 => 158 | 263 => 184 | 264 => 185 | 206 => 165 | 240 => 172 | 241 => 186 | 276 => 182 | 277 => 194 | n => n, fun | 9 => 9 | 3 => 3 | 4 => 4 | 20 => 20 | 0 => 0 | 46 => 138 | 109 => 189 | 5 => 5 | 72 => 165 | 76 => 161 | 51 => 121 | 146 => 201 | 53 => 63 | 148 => 203 | 70 => 163 | 37 => 104 | 75 => 112 | 127 => 192 | 164 => 145 | 80 => 118 | n => n, fun | n => n⟩
theorem Tryz.lays166 : Go.Proofs.Lays.n166 Tryz.prog Tryz.lays166_ren := {
  mixed := by kernel_rfl
  f166 := Tryz.func155.trans (congrArg some (by kernel_rfl))
  f240 := Tryz.func172.trans (congrArg some (by kernel_rfl))
  f276 := Tryz.func182.trans (congrArg some (by kernel_rfl))
  t0 := Tryz.underlying0
  a0 := Tryz.isAgg0
  z0 := Tryz.sizeOf0
  v0 := Tryz.zeroValue0
  t3 := Tryz.underlying3
  a3 := Tryz.isAgg3
  z3 := Tryz.sizeOf3
  v3 := Tryz.zeroValue3
  t4 := Tryz.underlying4
  a4 := Tryz.isAgg4
  z4 := Tryz.sizeOf4
  v4 := Tryz.zeroValue4
  t9 := Tryz.underlying9
  a9 := Tryz.isAgg9
  z9 := Tryz.sizeOf9
  v9 := Tryz.zeroValue9
  t20 := Tryz.underlying20
  a20 := Tryz.isAgg20
  z20 := Tryz.sizeOf20
  v20 := Tryz.zeroValue20
  t37 := Tryz.underlying104
  a37 := Tryz.isAgg104
  z37 := Tryz.sizeOf104
  v37 := Tryz.zeroValue104
  t70 := Tryz.underlying163
  a70 := Tryz.isAgg163
  z70 := Tryz.sizeOf163
  v70 := Tryz.zeroValue163
  t72 := Tryz.underlying165
  a72 := Tryz.isAgg165
  z72 := Tryz.sizeOf165
  v72 := Tryz.zeroValue165
  t75 := Tryz.underlying112
  a75 := Tryz.isAgg112
  z75 := Tryz.sizeOf112
  v75 := Tryz.zeroValue112
  t164 := Tryz.underlying145
  a164 := Tryz.isAgg145
  z164 := Tryz.sizeOf145
  v164 := Tryz.zeroValue145 }
theorem Tryz.Builder_Extra_166 : Builder.Extra Tryz.prog Tryz.lays166_ren := {
  sizeBuilder := by kernel_rfl
  liesBuilder := by kernel_rfl
  t5 := Tryz.underlying5
  a5 := Tryz.isAgg5
  z5 := Tryz.sizeOf5
  v5 := Tryz.zeroValue5
  infoByte := by kernel_rfl
  cellsByte := by kernel_rfl
  sizeByte := by kernel_rfl
  neB5 := by decide }
open Go.RowKit in
theorem Tryz.Builder_WriteString_k (B b : Nat) (bs : List Value) (s : ByteArray) (w : World) (h : Lib.IsBuilderF 165 5 B b bs w) (hlen : bs.length + s.size ≤ 140737488355328) (hBw : B ≤ w.heap.size) :
    Calls Tryz.prog 155 #[.pointer (some ⟨b, 0, none⟩), .string s] w fun e w' => e = .returned (.tuple #[.int .i64 s.size, .nilIface]) ∧ (Lib.BuilderAtF 165 5 B b (.pointer (some ⟨b, 0, none⟩)) (bs ++ Lib.strCells s) w' ∧ Below B w w' ∧ Lib.OthersKept 5 (some b) w w') := Any.Builder_WriteString_k Tryz.lays166 Tryz.Builder_Extra_166 B b bs s w h hlen hBw
end Go.Proofs
namespace Go.Proofs.YtjieekkkaekclaaGreatDoor
open Go Go.RowKit Go.Shelf Go.Proofs.YtjieekkkaekclaaGreatDoorW.PrintWords
attribute [local go_sem] Oper.semAt_some
theorem chunks_calls (s : ByteArray) (w : World) : Calls Tryz.prog 152 #[.string s] w fun e w' => e = .returned (.func (.func 169) #[] #[.pointer (some ⟨w.heap.size, 0, none⟩)]) ∧ w' = w.alloc (.cells #[.string s] 9) := by
  have hmf : ∀ (fn : Fn) (first cap : Array Value) (w : World), (Instr.makeFunc fn first cap).run Tryz.prog w = .ok (.func fn first cap) w := fun _ _ _ _ => rfl
  go_enter Tryz.func152, Tryz.ntmps152
  go_wp2
  go_ret
  exact ⟨rfl, rfl⟩
theorem NumAt.putObj {W : World} {s : Int} {A : Option Addr} {k c : Nat} {n : Int} (h : NumAt W s A k c n) {D : Nat} {ds : Option (List Deferred)} (hD : W.heap[D]? = some (.deferred ds)) (o : Obj) : NumAt (W.putObj D o) s A k c n := by
  refine ⟨h.sign, h.len, h.cap, Kd.C_of_reads (d := 0) ⟨h.reads.1, h.reads.2.1, fun h0 => ?_⟩⟩
  obtain ⟨ad, e, _⟩ := Kd.at_int h.reads 0 (by omega) (by omega)
  refine ⟨ad, e, fun j hj => ?_⟩
  obtain ⟨ad', e', hc⟩ := Kd.at_int h.reads j (by omega) (by omega)
  obtain rfl : ad = ad' := by rw [e] at e'; simpa using e'
  simp only [Int.toNat_natCast, rd] at hc
  rw [← hc]
  refine World.cell?_of_block (World.putObj_heap_other (fun e => ?_))
  unfold World.cell? at hc
  rw [e, hD] at hc
  simp at hc
def ReadI (w : World) (pre : List ByteArray) (W : World) : Prop :=
  (∃ v, Boxed W (w.heap.size + 1) 69 v ∧ W.ownsRow w.heap.size 121 1 v pre.length ((limbsOf pre).map (Value.int .u32))) ∧ (∃ u, Boxed W (w.heap.size + 1 + 1) 9 u) ∧
    W.heap[w.heap.size]? = some (.cells #[.int .i64 0, .slice none 0 0] 71 (0, 0)) ∧ Below w.heap.size w W
theorem grown_below {W W2 : World} (h : Below W.heap.size W W2) : W.grownBy W2 none := ⟨h.os, h.tape, h.output, h.size, fun k hk _ => h.block k hk⟩
theorem readI_call {w : World} {pre : List ByteArray} {W W2 : World} (h : ReadI w pre W) (hb : Below W.heap.size W W2) : ReadI w pre W2 := by
  obtain ⟨⟨v, hv, hrow⟩, ⟨u, hu⟩, hR, hB⟩ := h
  exact ⟨⟨v, (hb.block _ hv.lt).trans hv, hrow.kept (grown_below hb) (Classical.em _)⟩, ⟨u, (hb.block _ hu.lt).trans hu⟩, (hb.block _ (Array.getElem?_eq_some_iff.1 hR).1).trans hR, hB.trans (hb.mono hB.size)⟩
theorem readI_own (w : World) {B : Nat} (hB : w.heap.size ≤ B) : OwnFrom B (ReadI w) := by
  rintro pre X Y row ⟨⟨v, hv, hrow⟩, ⟨u, hu⟩, hR, hBe⟩ hg hr
  have hnc : ∀ r, row = some r → ∃ o : Obj, X.heap[r]? = some o ∧ o.isCells = false := fun r e => (hr r e).2
  obtain ⟨v', hv', hr', _⟩ := holdsRow_own w.heap.size (w.heap.size + 1) 69 121 1 (fun pre : List ByteArray => pre.length) (fun pre => (limbsOf pre).map (Value.int .u32)) (fun _ _ => True) pre X Y row ⟨v, hv, hrow, trivial⟩ hg hnc
  exact ⟨⟨v', hv', hr'⟩, ⟨u, (grownBy_keeps_cells hg hnc hu rfl).trans hu⟩, (grownBy_keeps_cells hg hnc hR rfl).trans hR, hBe.grown hg hBe.size (fun k e => Nat.le_trans hB (hr k e).1)⟩
theorem readI_cell {w : World} {pre : List ByteArray} {W : World} (x : Value) (h : ReadI w pre W) : ReadI w pre (W.setCell ⟨w.heap.size + 1 + 1, 0, none⟩ x) := by
  obtain ⟨⟨v, hv, hrow⟩, ⟨u, hu⟩, hR, hB⟩ := h
  exact ⟨⟨v, hv.other (by omega) x, hrow.kept (grownBy_setCell' W _ x) (.inr (hu.not_row (by decide) hrow).symm)⟩, ⟨x, hu.set x⟩, (Below.heap_setCell W _ x _ (by simp; omega)).trans hR, hB.setCell (by simp; omega) x⟩
set_option maxRecDepth 100000 in
set_option maxHeartbeats 2000000 in
theorem read_plus (s : ByteArray) (w : World) (hs : s.size ≤ 100000) (h0 : s.size ≠ 0) (hd : ∀ c ∈ s.data.toList, Mw.dig c = true) :
    Calls Tryz.prog 126 #[.string s] w fun e w' => ∃ s2 A2 k2 c2, e = .returned (.agg #[.int .i64 s2, .slice A2 k2 c2]) ∧ NumAt w' s2 A2 k2 c2 (Mw.dval s.data.toList : Int) ∧ Below w.heap.size w w' := by
  obtain ⟨c1, c2, c3, c4, c5⟩ := chunks_all s.size s rfl hd
  have hp : Lib.hasPrefix s.data.toList (ByteArray.mk #[45]).data.toList = false := by
    have hne : s.data.toList ≠ [] := fun h => h0 (by rw [← size_list, h]; rfl)
    generalize s.data.toList = l at hd hne
    cases l with
    | nil => exact absurd rfl hne
    | cons b r =>
      have hb := hd b (by simp)
      have hb2 : (45 == b) = false := by
        apply beq_false_of_ne; intro e; subst e; exact absurd hb (by decide)
      simp [Lib.hasPrefix, List.isPrefixOf, hb2]
  obtain ⟨i0, hi, hz0, hz1, hz2⟩ := info_parts info_u32
  refine (callsIn_wide (n := 3)).1 ?_
  refine callsIn_of_wp_marks Tryz.func126 rfl trivial ?_ rfl
  simp only [Tryz.ntmps126, List.size_toArray, List.length_cons, List.length_nil, Nat.reduceAdd, Nat.reduceSub, Array.replicate_succ, Array.replicate_zero, List.push_toArray, List.append_toArray, List.nil_append, List.cons_append]
  gi_wp2_with (first | (refine ⟨trivial, ?_⟩; gi_at_call 151; refine (callsIn_wide.2 (Tryz.strings_HasPrefix _ _ _)).mono ?_; rw [hp]; rintro e w' ⟨rfl, rfl⟩) | (refine ⟨trivial, ?_⟩; gi_at_call 152; refine (callsIn_wide.2 (chunks_calls _ _)).mono ?_; rintro e w' ⟨rfl, rfl⟩))
  refine wpIn_rangeFunc_cell rfl (by omega) (gf := 169) (lb := #[.pointer (some ⟨w.heap.size + 1 + 1, 0, none⟩)]) rfl trivial (enters_of Tryz.func169 (by kernel_rfl) rfl)
    (chunks_seq Fence.wide 2 trivial rfl (by omega) (w.heap.size + 1 + 1) s (by omega)) (fun _ => rfl) (by simp) (by simp [go_sem]) (by simp [go_sem]) (ReadI w) ?own ?cell ?drew ?start
    (fun x => { tmps := #[.string s, undef, .pointer (some ⟨w.heap.size, 0, none⟩), .int .i64 1, .pointer (some ⟨w.heap.size + 1, 0, none⟩), .string x, undef, undef, .string s, .bool false, undef, undef, .string s, .func (.func 169) #[] #[.pointer (some ⟨w.heap.size + 1 + 1, 0, none⟩)], .string x, undef, undef, undef, undef, undef, undef, undef, undef, undef, undef, undef, undef, undef], defers := [] }) ?assign ?body ?done
  case own => exact readI_own w (by simp; omega)
  case cell => exact fun pre W v h => readI_cell v h
  case drew => exact fun pre W h => readI_call h (below_drew (Below.refl _ _))
  case start =>
    refine ⟨⟨.slice none 0 0, ?_, World.ownsRow_nil _ _ _ _⟩, ⟨.string s, ?_⟩, ?_, ((((Below.refl _ w).alloc (Nat.le_refl _) _).alloc (by simp) _).alloc (by simp; omega) _)⟩
    · have h := (Boxed.new (w.alloc (.cells #[.int .i64 0, .slice none 0 0] 71)) 69 (.slice none 0 0)).alloc (.cells #[.string s] 9)
      rwa [World.size_alloc] at h
    · have h := Boxed.new ((w.alloc (.cells #[.int .i64 0, .slice none 0 0] 71)).alloc (.cells #[.slice none 0 0] 69)) 9 (.string s)
      rwa [World.size_alloc, World.size_alloc] at h
    · exact ((Below.heap_alloc _ _ _ (by simp; omega)).trans ((Below.heap_alloc _ _ _ (by simp)).trans (World.alloc_heap_new w _)))
  case assign =>
    intro l x W K hK
    gi_wp2
    exact hK
  case body =>
    rintro l pre x W hpx hI hlt
    obtain ⟨g1, g2, g3⟩ := c1 x (hpx.subset (by simp))
    have hlp : pre.length + 1 ≤ s.size := by have h := hpx.length_le; rw [List.length_append, List.length_singleton] at h; omega
    have ha := atoi_dval _ g3 g2
    have hdl := Mw.dval_lt _ g3
    have hsl : x.data.toList.length ≤ 9 := by rw [size_list]; exact g1
    have hpw : 10 ^ x.data.toList.length ≤ 10 ^ 9 := Nat.pow_le_pow_right (by omega) hsl
    have h109 : (10 : Nat) ^ 9 = 1000000000 := by decide
    obtain ⟨d, hdd⟩ : ∃ d : Int, ((Mw.dval x.data.toList : Nat) : Int) = d := ⟨_, rfl⟩
    have hd0 : 0 ≤ d := by omega
    have hd1 : d < 1000000000 := by omega
    rw [hdd] at ha
    have HDD := Lib.hid hdd
    clear hdl hsl hpw h109 hdd hd
    gi_wp2_with (first | (refine ⟨trivial, ?_⟩; gi_at_call 153; refine (CallsIn.inRound l (callsIn_wide.2 (Tryz.strconv_Atoi x _ (by omega) ha _))).mono ?_; rintro e w2 ⟨rfl, ht⟩; refine Hid.out ?_))
    have hb2 : Below W.heap.size W w2 := by obtain ⟨t, rfl⟩ := ht; exact Lib.bytesWorld_below _ _ _
    clear ht
    have hI2 := readI_call hI hb2
    have hcs : w2.cell? ⟨w.heap.size + 1 + 1, 0, none⟩ = W.cell? ⟨w.heap.size + 1 + 1, 0, none⟩ ∧ w2.frozen? ⟨w.heap.size + 1 + 1, 0, none⟩ = W.frozen? ⟨w.heap.size + 1 + 1, 0, none⟩ := ⟨hb2.cell (p := ⟨w.heap.size + 1 + 1, 0, none⟩) hlt, hb2.frozen (p := ⟨w.heap.size + 1 + 1, 0, none⟩) hlt⟩
    have HCS := Lib.hid hcs
    have HB2 := Lib.hid hb2
    obtain ⟨⟨v, hv, hrow⟩, ⟨u, hu⟩, hR, hB⟩ := hI2
    have hc := hv.cell
    have hle2 : w.heap.size ≤ w2.heap.size := hB.size
    have HV := Lib.hid hv
    have HU := Lib.hid hu
    have HROW := Lib.hid hrow
    have HRB := Lib.hid hR
    have HBW := Lib.hid hB
    clear hI hb2 hv hrow hR hB hcs hu
    refine Lib.hid ?_
    gi_wp2_with (gi_at_builtin; refine wpListIn_append_own _ rfl _ _ 69 rfl w.heap.size 121 i0 (.int .u32 0) 1 4 Tryz.underlying69 hi hz0 hz1 hz2 rfl (by decide) _ _ _ rfl (HROW.out.alloc _) ⟨w2.heap.size, 0, none⟩ 1 1 [.int .u32 d] rfl rfl (cell_one_new _ _ _) (by simp [Value.oneCell']) (by unfold maxLen; omega) (by omega) (by simp; omega) ?_; intro v' w3 hown' hgrow _; obtain ⟨g', cap', rfl⟩ := ownsRow_succ hown'; obtain ⟨hv1, hv2, hr2, hk2, hb3⟩ := HV.out.appended (by decide) HROW.out hle2 (by omega) hown' hgrow; have hc1 := hv1.cell; have hf1 := hv1.frozen)
    have hu3 : Boxed w3 (w.heap.size + 1 + 1) 9 u := (HU.out.alloc _).kept hgrow (HU.out.not_row (by decide) HROW.out)
    have hu4 := hu3.other (show w.heap.size + 1 + 1 ≠ w.heap.size + 1 by omega) (.slice (some ⟨g', 0, none⟩) (pre.length + 1) cap')
    have hRn : some w.heap.size ≠ v.ownBlock := by
      rcases HROW.out.2 with ⟨rfl, _⟩ | ⟨g, cap, cur, rfl, _, hgb, _⟩
      · simp [Value.ownBlock]
      · intro e'
        obtain rfl : w.heap.size = g := by simpa [Value.ownBlock] using e'
        have h := HRB.out.symm.trans hgb
        simp at h
    have hR3 := (hgrow.block w.heap.size (by simp; omega) (fun e => hRn e)).trans ((Below.heap_alloc w2 _ _ (Array.getElem?_eq_some_iff.1 HRB.out).1).trans HRB.out)
    refine ⟨(KeepsOthers.of_grownBy (grown_below HB2.out) (fun j o e => by cases e)).trans hk2, ⟨?_, ?_⟩, ⟨_, hv2, ?_⟩, ⟨u, hu4⟩, (Below.heap_setCell _ _ _ _ (by simp)).trans hR3, HBW.out.trans hb3⟩
    · rw [hu4.cell, ← HU.out.cell]; exact HCS.out.1
    · rw [hu4.frozen, ← HU.out.frozen]; exact HCS.out.2
    · have e1 : (limbsOf (pre ++ [x])).map (Value.int .u32) = (limbsOf pre).map (Value.int .u32) ++ [.int .u32 d] := by simp [limbsOf, HDD.out]
      rw [e1, List.length_append, List.length_singleton]
      exact hr2
  case done =>
    rintro D W hD hI hK
    obtain ⟨⟨v, hv, hrow⟩, -, hR, hB⟩ := hI
    obtain ⟨m, hm⟩ : ∃ m, (chunksOf s).length = m + 1 := ⟨(chunksOf s).length - 1, by have := c4 h0; omega⟩
    rw [hm] at hrow
    obtain ⟨g', cap', rfl⟩ := ownsRow_succ hrow
    have hll : (limbsOf (chunksOf s)).length = m + 1 := by simp [limbsOf, hm]
    obtain ⟨ll, hL⟩ : ∃ ll, limbsOf (chunksOf s) = ll := ⟨_, rfl⟩
    rw [hL] at hll hrow c2 c3
    rw [← hll] at hrow hv
    obtain ⟨-, hc1, hc2⟩ := Kd.R_reads' (Kd.R_of_own (h1 := fun _ => rfl) (enc := .int .u32) hrow (fun k _ => trivial) (ok := fun _ => True))
    have hsz := hB.size
    have hDW : D < W.heap.size := (Array.getElem?_eq_some_iff.1 hK).1
    have hD2 : w.heap.size + 3 ≤ D := by simp at hD; omega
    have hlc : (chunksOf s).length ≤ 100000 := by omega
    have HC := Lib.hid hc2
    have HI := Lib.hid c2
    have HVL := Lib.hid c3
    have HK := Lib.hid hK
    have HRB := Lib.hid hR
    have HBW := Lib.hid hB
    have hcv := hv.cell
    have hpos : 0 < ll.length := by omega
    have hlen : ll.length ≤ 1000000 := by omega
    clear hc2 c2 c3 hK hR hB hrow hv hD c1 c4 hd hll hL hm
    gi_wp2_with (first | (refine ⟨trivial, ?_⟩; gi_at_call 129; refine (callsIn_wide.2 (made_num 1 (some ⟨g', 0, none⟩) ll cap' (Mw.dval s.data.toList) W HC.out hpos hc1 hlen HI.out HVL.out (.inl rfl))).mono ?_; rintro e w4 ⟨s4, A4, k4, c4, rfl, hN4, hb4⟩; refine Hid.out ?_))
    have hK4 := (hb4.block D hDW).trans HK.out
    have hR4 := (hb4.block w.heap.size (by omega)).trans HRB.out
    have q0 : w4.cell? ⟨w.heap.size, 0, none⟩ = some (.int .i64 0) := by simp [World.cell?, hR4]
    have q1 : w4.cell? ⟨w.heap.size, 1, none⟩ = some (.slice none 0 0) := by simp [World.cell?, hR4]
    have f0 : w4.frozen? ⟨w.heap.size, 0, none⟩ = false := by simp [World.frozen?, hR4]
    have f1 : w4.frozen? ⟨w.heap.size, 1, none⟩ = false := by simp [World.frozen?, hR4]
    rw [Int.one_mul] at hN4
    obtain ⟨HN1, hA, hBc⟩ := num_store hN4 q0 q1
    have HB4 := Lib.hid (HBW.out.trans (hb4.mono hsz))
    have hK5 : ((w4.setCell ⟨w.heap.size, 0, none⟩ (.int .i64 s4)).setCell ⟨w.heap.size, 1, none⟩ (.slice A4 k4 c4)).heap[D]? = some (.deferred (some [])) := (Below.heap_setCell _ _ _ _ (by simp; omega)).trans ((Below.heap_setCell _ _ _ _ (by simp; omega)).trans hK4)
    have HK5 := Lib.hid hK5
    clear hN4 hb4 hK4 hK5
    refine Lib.hid ?_
    gi_wp2
    have z0 := (cell_putObj (W := (w4.setCell ⟨w.heap.size, 0, none⟩ (.int .i64 s4)).setCell ⟨w.heap.size, 1, none⟩ (.slice A4 k4 c4)) (l := D) (b := w.heap.size) (o := 0) (x := .deferred none) (by omega)).1
    have z1 := (cell_putObj (W := (w4.setCell ⟨w.heap.size, 0, none⟩ (.int .i64 s4)).setCell ⟨w.heap.size, 1, none⟩ (.slice A4 k4 c4)) (l := D) (b := w.heap.size) (o := 1) (x := .deferred none) (by omega)).1
    rw [World.cell?_setCell_other _ _ _ _ (by simp), hA] at z0
    rw [hBc] at z1
    refine ⟨by simp, .inl ⟨_, _, rfl, run_takeDeferred HK5.out, ?_⟩⟩
    exact ⟨.agg #[.int .i64 s4, .slice A4 k4 c4], by simp [results, Tryz.results126, go_sem, z0, z1], s4, A4, k4, c4, rfl, HN1.out.putObj HK5.out _, ((HB4.out.setCell (by simp) _).setCell (by simp) _).trans (belowK_b (w := w) (Nat.le_refl _) _ D _ _ (by omega) HK5.out rfl rfl)⟩
end Go.Proofs.YtjieekkkaekclaaGreatDoor
