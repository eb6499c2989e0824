import Derived.Test.YtbpmjjbccaanfaaHd13
import Derived.Test.YtbpmjjbccaanfaaHd12
import Derived.WideShapes
namespace Go.Proofs.Ytbpmjjbccaanfaa.Hd
open Go.RowKit Go.Shelf Go.WideShapes
set_option linter.unusedVariables false
set_option linter.unusedSimpArgs false
set_option maxRecDepth 100000 in
theorem int_cell {W : World} {r : Reach} {base u : Nat} {k : IntKind} {v : Value} (hu : Try.prog.underlying u = some (.int k)) (h : Cell.okWide Try.prog W r base u v) : ∃ n, v = .int k n ∧ k.has n := by
  unfold Cell.okWide at h
  rw [hu] at h
  simp only [Cell.ok, hu] at h
  cases v <;> simp_all
theorem has_u8 {n : Int} (h : IntKind.u8.has n) : 0 ≤ n ∧ n ≤ 255 := by
  simpa [IntKind.has, IntKind.min, IntKind.max, IntKind.signed, IntKind.bits] using h
theorem has_i8 {n : Int} (h : IntKind.i8.has n) : -128 ≤ n ∧ n ≤ 127 := by
  simpa [IntKind.has, IntKind.min, IntKind.max, IntKind.signed, IntKind.bits] using h
theorem has_u16 {n : Int} (h : IntKind.u16.has n) : 0 ≤ n ∧ n ≤ 65535 := by
  simpa [IntKind.has, IntKind.min, IntKind.max, IntKind.signed, IntKind.bits] using h
theorem has_u32 {n : Int} (h : IntKind.u32.has n) : 0 ≤ n ∧ n ≤ 4294967295 := by
  simpa [IntKind.has, IntKind.min, IntKind.max, IntKind.signed, IntKind.bits] using h
theorem types31 : Try.prog.cellTypes Try.prog.depth 31 = some [3, 3, 3, 5, 22, 22, 23, 23, 23, 23, 5, 5, 5, 5, 27, 27, 27, 27, 27, 27, 27, 27] := by kernel_rfl
theorem cells31 : Try.prog.cellsOf 31 = 22 := by kernel_rfl
set_option maxRecDepth 100000 in
set_option maxHeartbeats 2000000 in
theorem open_head {W : World} {r : Reach} {base : Nat} {v : Value} (h : Value.okWide Try.prog W r base 31 v) : ∃ x : HdS, v = .agg #[.int .i64 x.l, .int .i64 x.v, .int .i64 x.m, .int .u8 x.st, .int .i8 x.po, .int .i8 x.pr, .int .u16 x.d0, .int .u16 x.d1, .int .u16 x.e0, .int .u16 x.e1, .int .u8 x.r0, .int .u8 x.r1, .int .u8 x.r2, .int .u8 x.r3, .int .u32 x.a0, .int .u32 x.a1, .int .u32 x.b0, .int .u32 x.b1, .int .u32 x.c0, .int .u32 x.c1, .int .u32 x.t0, .int .u32 x.t1] ∧ x.wf := by
  unfold Value.okWide at h
  rw [Try.underlying31] at h
  obtain ⟨⟨l⟩, rfl, hs, ts, ht, hn, hc⟩ := h
  rw [types31] at ht
  obtain rfl := Option.some.inj ht
  rw [cells31] at hs
  simp only [List.size_toArray] at hs
  have cell : ∀ (i u : Nat) (k : IntKind), i < 22 → ([3, 3, 3, 5, 22, 22, 23, 23, 23, 23, 5, 5, 5, 5, 27, 27, 27, 27, 27, 27, 27, 27] : List Nat)[i]? = some u → Try.prog.underlying u = some (.int k) → ∃ n, l[i]? = some (.int k n) ∧ k.has n := by
    intro i u k hi hu hk
    obtain ⟨w, hw⟩ : ∃ w, l[i]? = some w := ⟨l[i]'(by omega), List.getElem?_eq_getElem (by omega)⟩
    obtain ⟨u2, hu2, hok⟩ := hc i w (by simpa using hw)
    rw [show i % ([3, 3, 3, 5, 22, 22, 23, 23, 23, 23, 5, 5, 5, 5, 27, 27, 27, 27, 27, 27, 27, 27] : List Nat).length = i from Nat.mod_eq_of_lt hi] at hu2
    obtain rfl : u = u2 := by rw [hu] at hu2; exact Option.some.inj hu2
    obtain ⟨n, rfl, hh⟩ := int_cell hk hok
    exact ⟨n, hw, hh⟩
  obtain ⟨n0, e0, b0⟩ := cell 0 3 .i64 (by omega) rfl Try.underlying3
  obtain ⟨n1, e1, b1⟩ := cell 1 3 .i64 (by omega) rfl Try.underlying3
  obtain ⟨n2, e2, b2⟩ := cell 2 3 .i64 (by omega) rfl Try.underlying3
  obtain ⟨n3, e3, b3⟩ := cell 3 5 .u8 (by omega) rfl Try.underlying5
  obtain ⟨n4, e4, b4⟩ := cell 4 22 .i8 (by omega) rfl Try.underlying22
  obtain ⟨n5, e5, b5⟩ := cell 5 22 .i8 (by omega) rfl Try.underlying22
  obtain ⟨n6, e6, b6⟩ := cell 6 23 .u16 (by omega) rfl Try.underlying23
  obtain ⟨n7, e7, b7⟩ := cell 7 23 .u16 (by omega) rfl Try.underlying23
  obtain ⟨n8, e8, b8⟩ := cell 8 23 .u16 (by omega) rfl Try.underlying23
  obtain ⟨n9, e9, b9⟩ := cell 9 23 .u16 (by omega) rfl Try.underlying23
  obtain ⟨n10, e10, b10⟩ := cell 10 5 .u8 (by omega) rfl Try.underlying5
  obtain ⟨n11, e11, b11⟩ := cell 11 5 .u8 (by omega) rfl Try.underlying5
  obtain ⟨n12, e12, b12⟩ := cell 12 5 .u8 (by omega) rfl Try.underlying5
  obtain ⟨n13, e13, b13⟩ := cell 13 5 .u8 (by omega) rfl Try.underlying5
  obtain ⟨n14, e14, b14⟩ := cell 14 27 .u32 (by omega) rfl Try.underlying27
  obtain ⟨n15, e15, b15⟩ := cell 15 27 .u32 (by omega) rfl Try.underlying27
  obtain ⟨n16, e16, b16⟩ := cell 16 27 .u32 (by omega) rfl Try.underlying27
  obtain ⟨n17, e17, b17⟩ := cell 17 27 .u32 (by omega) rfl Try.underlying27
  obtain ⟨n18, e18, b18⟩ := cell 18 27 .u32 (by omega) rfl Try.underlying27
  obtain ⟨n19, e19, b19⟩ := cell 19 27 .u32 (by omega) rfl Try.underlying27
  obtain ⟨n20, e20, b20⟩ := cell 20 27 .u32 (by omega) rfl Try.underlying27
  obtain ⟨n21, e21, b21⟩ := cell 21 27 .u32 (by omega) rfl Try.underlying27
  refine ⟨⟨n0, n1, n2, n3, n4, n5, n6, n7, n8, n9, n10, n11, n12, n13, n14, n15, n16, n17, n18, n19, n20, n21⟩, ?_, ⟨has_u8 b3, has_i8 b4, has_i8 b5, has_u16 b6, has_u16 b7, has_u16 b8, has_u16 b9, has_u8 b10, has_u8 b11, has_u8 b12, has_u8 b13, has_u32 b14, has_u32 b15, has_u32 b16, has_u32 b17, has_u32 b18, has_u32 b19, has_u32 b20, has_u32 b21⟩⟩
  congr 1
  apply congrArg List.toArray
  apply List.ext_getElem?
  intro i
  match i with
  | 0 => exact e0
  | 1 => exact e1
  | 2 => exact e2
  | 3 => exact e3
  | 4 => exact e4
  | 5 => exact e5
  | 6 => exact e6
  | 7 => exact e7
  | 8 => exact e8
  | 9 => exact e9
  | 10 => exact e10
  | 11 => exact e11
  | 12 => exact e12
  | 13 => exact e13
  | 14 => exact e14
  | 15 => exact e15
  | 16 => exact e16
  | 17 => exact e17
  | 18 => exact e18
  | 19 => exact e19
  | 20 => exact e20
  | 21 => exact e21
  | i + 22 => simp; omega
theorem has_i32 {n : Int} (h : IntKind.i32.has n) : -2147483648 ≤ n ∧ n ≤ 2147483647 := by
  simpa [IntKind.has, IntKind.min, IntKind.max, IntKind.signed, IntKind.bits] using h
theorem types33 : Try.prog.cellTypes Try.prog.depth 33 = some [21, 21, 21] := by kernel_rfl
theorem cells33 : Try.prog.cellsOf 33 = 3 := by kernel_rfl
set_option maxRecDepth 100000 in
theorem open_way {W : World} {r : Reach} {base : Nat} {v : Value} (h : Value.okWide Try.prog W r base 33 v) : ∃ s u q : Int, v = .agg #[.int .i32 s, .int .i32 u, .int .i32 q] ∧ (-2147483648 ≤ s ∧ s ≤ 2147483647) ∧ (-2147483648 ≤ u ∧ u ≤ 2147483647) ∧ (-2147483648 ≤ q ∧ q ≤ 2147483647) := by
  unfold Value.okWide at h
  rw [Try.underlying33] at h
  obtain ⟨⟨l⟩, rfl, hs, ts, ht, hn, hc⟩ := h
  rw [types33] at ht
  obtain rfl := Option.some.inj ht
  rw [cells33] at hs
  simp only [List.size_toArray] at hs
  have cell : ∀ (i u : Nat) (k : IntKind), i < 3 → ([21, 21, 21] : List Nat)[i]? = some u → Try.prog.underlying u = some (.int k) → ∃ n, l[i]? = some (.int k n) ∧ k.has n := by
    intro i u k hi hu hk
    obtain ⟨w, hw⟩ : ∃ w, l[i]? = some w := ⟨l[i]'(by omega), List.getElem?_eq_getElem (by omega)⟩
    obtain ⟨u2, hu2, hok⟩ := hc i w (by simpa using hw)
    rw [show i % ([21, 21, 21] : List Nat).length = i from Nat.mod_eq_of_lt hi] at hu2
    obtain rfl : u = u2 := by rw [hu] at hu2; exact Option.some.inj hu2
    obtain ⟨n, rfl, hh⟩ := int_cell hk hok
    exact ⟨n, hw, hh⟩
  obtain ⟨n0, e0, b0⟩ := cell 0 21 .i32 (by omega) rfl Try.underlying21
  obtain ⟨n1, e1, b1⟩ := cell 1 21 .i32 (by omega) rfl Try.underlying21
  obtain ⟨n2, e2, b2⟩ := cell 2 21 .i32 (by omega) rfl Try.underlying21
  refine ⟨n0, n1, n2, ?_, has_i32 b0, has_i32 b1, has_i32 b2⟩
  congr 1
  apply congrArg List.toArray
  apply List.ext_getElem?
  intro i
  match i with
  | 0 => exact e0
  | 1 => exact e1
  | 2 => exact e2
  | i + 3 => simp; omega
end Go.Proofs.Ytbpmjjbccaanfaa.Hd
