import Derived.Test.YtbpmjjbccaanfaaLp12
import Derived.Deep.SlicePairs
import Derived.Lib.SmallJoins
import Derived.ChangeArms
namespace Go.Proofs.Ytbpmjjbccaanfaa.Lp
open Go.RowKit Go.ChangeShapes Go.WideShapes Go.Deep Go.Joins Go.Proofs.YtbpmjjbccaanfaaW.PrintWords Go.Proofs.YtbpmjjbccaanfaaW.PrintLast Go.Proofs.YtbpmjjbccaanfaaW.PrintMore Go.Proofs.Ytbpmjjbccaanfaa.Dy Go.Proofs.Ytbpmjjbccaanfaa.Rg
set_option linter.unusedVariables false
set_option linter.unusedSimpArgs false
theorem law_ (A : Option Addr) (c : Nat) (xs : List Rw) (u e i : Int) (w : World) (hr : RowsAt w A c xs) :
    Calls Try.prog 4 #[.agg #[.slice A xs.length c, .int .i64 u, .int .i64 e], .int .i64 i] w fun en w' => en = .returned (.bool true) ∧ Below w.heap.size w w' := by
  by_cases hl : 300 < xs.length
  · exact law_long A c xs u e i w hr hl
  by_cases hE : newErr xs u e = 0
  · by_cases h1 : i < 0
    · exact law_neg A c xs u e i h1 w hr (by omega) hE
    by_cases h2 : (xs.length : Int) ≤ i
    · exact law_off A c xs u e i (by omega) h2 w hr (by omega) hE
    obtain ⟨k, rfl⟩ : ∃ k : Nat, i = k := ⟨i.toNat, by omega⟩
    exact law_in A c xs u e k (by omega) w hr (by omega) hE
  · exact law_err A c xs u e i w hr (by omega) hE
set_option maxRecDepth 100000 in
theorem open_raw {H : Type} {enc : TypeId × Value → H} {W : World} {r : Reach} {b0 base : Nat} {spare : Nat → Bool} {held : Bool} {v : Value} {d : DataW H} {p : List MemPlace}
    (hv : Value.okWide Try.prog W r b0 51 v) (h : DataW.Trod enc Try.prog W base spare held 51 v d p) :
    ∃ (A : Option Addr) (c : Nat) (xs : List Rw) (u e : Int), v = .agg #[.slice A xs.length c, .int .i64 u, .int .i64 e] ∧ RowsAt W A c xs := by
  obtain ⟨v0, v1, v2, y0, y1, y2, n, rfl, _, _, t0, t1, t2⟩ := open_agg3 Try.underlying51 (by kernel_rfl) (by kernel_rfl) hv h
  obtain ⟨u, e1, _, _⟩ := DataW.trod_int Try.underlying2 t1
  obtain ⟨e, e2, _, _⟩ := DataW.trod_int Try.underlying2 t2
  obtain rfl := List.head_eq_of_cons_eq e1
  obtain rfl := List.head_eq_of_cons_eq e2
  rcases open_slice_pairs Try.underlying49 Try.underlying64 (by kernel_rfl) rfl rfl (by kernel_rfl) (by kernel_rfl) t0 with ⟨hs, _⟩ | ⟨a, len, cap, m, n', V0, V1, D0, D1, P0, P1, hs, _, hl, hm, hmm, _, hx⟩
  · obtain rfl := List.head_eq_of_cons_eq hs
    exact ⟨none, 0, [], u, e, rfl, ⟨⟨rfl, by decide, fun h => absurd h (by decide)⟩, by decide, by decide, fun _ => ⟨rfl, rfl⟩⟩⟩
  · obtain rfl := List.head_eq_of_cons_eq hs
    have hlm : len ≤ m := by rw [hmm]; split <;> omega
    have hxl : ((List.range len).map fun i => (⟨intOf (V0 i), intOf (V1 i)⟩ : Rw)).length = len := by simp
    refine ⟨some a, cap, (List.range len).map fun i => ⟨intOf (V0 i), intOf (V1 i)⟩, u, e, by rw [hxl], ⟨⟨rfl, by rw [hxl]; simp only [maxLen] at hm; omega, fun _ => ⟨a, rfl, fun j q hj => ?_⟩⟩, by rw [hxl]; exact hl, by simpa [maxLen] using hm, fun h => by cases h⟩⟩
    have hjl : j < len := by
      have := (List.getElem?_eq_some_iff.1 hj).1
      rwa [hxl] at this
    rw [List.getElem?_map, List.getElem?_range hjl] at hj
    obtain rfl := Option.some.inj hj
    obtain ⟨c0, c1, q0, q1⟩ := hx j (by omega)
    obtain ⟨k0, f0, _, _⟩ := DataW.trod_int Try.underlying2 q0
    obtain ⟨k1, f1, _, _⟩ := DataW.trod_int Try.underlying3 q1
    have g0 := List.head_eq_of_cons_eq f0
    have g1 := List.head_eq_of_cons_eq f1
    refine ⟨[.int .i64 k0, .int .i64 k1], rfl, by show kRw.K W ⟨intOf (V0 j), intOf (V1 j)⟩ _; rw [g0, g1]; exact kRw_mk W ⟨k0, k1⟩, fun i u' hu => ?_⟩
    match i, hu with
    | 0, hu =>
      obtain rfl := Option.some.inj hu
      rw [← g0]; exact c0
    | 1, hu =>
      obtain rfl := Option.some.inj hu
      rw [← g1]; exact c1
    | i + 2, hu => simp at hu
end Go.Proofs.Ytbpmjjbccaanfaa.Lp
