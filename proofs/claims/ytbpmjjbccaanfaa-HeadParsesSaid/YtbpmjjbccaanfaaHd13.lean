import Derived.Test.YtbpmjjbccaanfaaHd11
namespace Go.Proofs.Ytbpmjjbccaanfaa.Hd
open Go.RowKit Go.Shelf
theorem nat_and_odd (x y : Nat) (h : x % 2 = y % 2) : (x &&& y) % 2 = x % 2 := by
  have h1 := Nat.testBit_and x y 0
  simp only [Nat.testBit_zero] at h1
  rcases Nat.mod_two_eq_zero_or_one x with hx | hx <;> rcases Nat.mod_two_eq_zero_or_one y with hy | hy <;> rcases Nat.mod_two_eq_zero_or_one (x &&& y) with hz | hz <;> simp_all
theorem and_nat (X Y : Int) : bits .and .i64 X Y = IntKind.i64.wrap (((X % 18446744073709551616).toNat &&& (Y % 18446744073709551616).toNat : Nat) : Int) := by
  show IntKind.i64.wrap ((BitVec.ofInt 64 X &&& BitVec.ofInt 64 Y).toNat : Int) = _
  rw [BitVec.toNat_and, BitVec.toNat_ofInt, BitVec.toNat_ofInt]
  simp only [Nat.reducePow]
  rw [show ((18446744073709551616 : Nat) : Int) = 18446744073709551616 from rfl]
theorem wrap_odd (z : Int) : IntKind.i64.wrap z % 2 = z % 2 := by
  rw [IntKind.wrap_i64]; omega
theorem toNat_odd (X : Int) (x : Nat) (h : x = (X % 18446744073709551616).toNat) : (x : Int) % 2 = X % 2 := by
  have : (x : Int) = X % 18446744073709551616 := by omega
  omega
theorem one_toNat : ((1 : Int) % 18446744073709551616).toNat = 1 := by decide
theorem and_odd1 (X Y : Int) (h : X % 2 = Y % 2) : bits .and .i64 X Y % 2 = X % 2 := by
  rw [and_nat, wrap_odd]
  generalize hx : (X % 18446744073709551616).toNat = x
  generalize hy : (Y % 18446744073709551616).toNat = y
  have a1 := toNat_odd X x hx.symm
  have a2 := toNat_odd Y y hy.symm
  have h2 := nat_and_odd x y (by omega)
  generalize (x &&& y) = z at h2 ⊢
  clear hx hy
  omega
theorem and_odd2 (Z : Int) : bits .and .i64 Z 1 = Z % 2 := by
  rw [and_nat, one_toNat, Nat.and_one_is_mod]
  generalize hz : (Z % 18446744073709551616).toNat = z
  have a1 := toNat_odd Z z hz.symm
  clear hz
  have a2 : ((z % 2 : Nat) : Int) = Z % 2 := by omega
  rw [a2, IntKind.wrap_i64]
  omega
theorem and_odd (X Y : Int) (h : X % 2 = Y % 2) : bits .and .i64 (bits .and .i64 X Y) 1 = X % 2 := by
  rw [and_odd2, and_odd1 X Y h]
theorem round_sums (f s u q : Int) (f0 : 0 ≤ f) (f1 : f < 18446744073709551616) (s0 : -2147483648 ≤ s) (s1 : s ≤ 2147483647) (u0 : 0 ≤ u) (u1 : u ≤ 4294967295) (q0 : 0 ≤ q) (q1 : q ≤ 4294967295)
    (C T E : Int) (hC : C = (f + u + s) % 18446744073709551616) (hT : T = (f + u + q + s) % 18446744073709551616) (hE : E = (f + u + q + u) % 18446744073709551616) :
    offs (sb C f) (sb T E) = s ∧ IntKind.i64.wrap (sb E f - sb T C) = 2 * u := by
  have e1 : sb C f = u + s := by unfold sb; rw [IntKind.wrap_u64, IntKind.wrap_i64]; omega
  have e2 : sb T E = s - u := by unfold sb; rw [IntKind.wrap_u64, IntKind.wrap_i64]; omega
  have e3 : sb E f = 2 * u + q := by unfold sb; rw [IntKind.wrap_u64, IntKind.wrap_i64]; omega
  have e4 : sb T C = q := by unfold sb; rw [IntKind.wrap_u64, IntKind.wrap_i64]; omega
  rw [e1, e2, e3, e4]
  refine ⟨?_, by rw [IntKind.wrap_i64]; omega⟩
  unfold offs
  rw [and_odd _ _ (by omega)]
  simp only [wrap64]
  omega
end Go.Proofs.Ytbpmjjbccaanfaa.Hd
