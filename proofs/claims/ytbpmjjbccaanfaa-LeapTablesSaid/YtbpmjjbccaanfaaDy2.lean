import Derived.Test.YtbpmjjbccaanfaaDy1
namespace Go.Proofs.Ytbpmjjbccaanfaa.Dy
open Go.RowKit Go.Proofs.YtbpmjjbccaanfaaW.PrintWords Go.Proofs.YtbpmjjbccaanfaaW.PrintLast Go.Proofs.YtbpmjjbccaanfaaW.PrintMore
set_option linter.unusedVariables false
set_option linter.unusedSimpArgs false
/-- is it a leap year? -/
def leapB (y : Int) : Bool := decide (Cal.lp y = 1)
theorem leapB_yes {y : Int} (h : y % 4 = 0 ∧ (y % 100 ≠ 0 ∨ y % 400 = 0)) : leapB y = true := by
  unfold leapB Cal.lp; rw [if_pos h]; rfl
theorem leapB_no {y : Int} (h : ¬ (y % 4 = 0 ∧ (y % 100 ≠ 0 ∨ y % 400 = 0))) : leapB y = false := by
  unfold leapB Cal.lp; rw [if_neg h]; rfl
theorem tmod_0 (y b : Int) (hb : b = 4 ∨ b = 100 ∨ b = 400) : (y.tmod b == 0) = decide (y % b = 0) := by
  by_cases hy : 0 ≤ y
  · rw [Int.tmod_eq_emod_of_nonneg hy]; by_cases h : y % b = 0 <;> simp [h]
  · obtain ⟨c, rfl⟩ : ∃ c, y = -c := ⟨-y, by omega⟩
    rw [Int.neg_tmod, Int.tmod_eq_emod_of_nonneg (by omega)]
    by_cases h : (-c) % b = 0
    · have : c % b = 0 := by rcases hb with rfl | rfl | rfl <;> omega
      simp [h, this]
    · have : ¬ c % b = 0 := by rcases hb with rfl | rfl | rfl <;> omega
      simp [h, this]
set_option maxHeartbeats 2000000 in
theorem rleap (y : Int) (w : World) : Calls Try.prog 144 #[.int .i64 y] w fun e w' => e = .returned (.bool (leapB y)) ∧ w = w' := by
  by_cases h4 : y % 400 = 0
  · have L := Aside0.mk (leapB_yes (y := y) (by omega))
    have e4 : (y.tmod 400 == 0) = true := by rw [tmod_0 y 400 (by omega)]; exact decide_eq_true h4
    clear h4
    go_enter Try.func144, Try.ntmps144
    go_wp2
    go_ret
    exact ⟨by rw [L.out]; rfl, rfl⟩
  · have e4 : (y.tmod 400 == 0) = false := by rw [tmod_0 y 400 (by omega)]; exact decide_eq_false h4
    by_cases h1 : y % 4 = 0
    · have e1 : (y.tmod 4 == 0) = true := by rw [tmod_0 y 4 (by omega)]; exact decide_eq_true h1
      by_cases h2 : y % 100 = 0
      · have L := Aside0.mk (leapB_no (y := y) (by omega))
        have e2 : (y.tmod 100 == 0) = true := by rw [tmod_0 y 100 (by omega)]; exact decide_eq_true h2
        have e3 : (y.tmod 100 != 0) = false := by simp only [bne, e2]; rfl
        clear h4 h1 h2
        go_enter Try.func144, Try.ntmps144
        go_wp2
        go_ret
        exact ⟨by rw [L.out]; first | rfl | (simp [e3]; done) | (simp [bne, e2]; done), rfl⟩
      · have L := Aside0.mk (leapB_yes (y := y) (by omega))
        have e2 : (y.tmod 100 == 0) = false := by rw [tmod_0 y 100 (by omega)]; exact decide_eq_false h2
        have e3 : (y.tmod 100 != 0) = true := by simp only [bne, e2]; rfl
        clear h4 h1 h2
        go_enter Try.func144, Try.ntmps144
        go_wp2
        go_ret
        exact ⟨by rw [L.out]; first | rfl | (simp [e3]; done) | (simp [bne, e2]; done), rfl⟩
    · have L := Aside0.mk (leapB_no (y := y) (by omega))
      have e1 : (y.tmod 4 == 0) = false := by rw [tmod_0 y 4 (by omega)]; exact decide_eq_false h1
      clear h4 h1
      go_enter Try.func144, Try.ntmps144
      go_wp2
      go_ret
      exact ⟨by rw [L.out]; rfl, rfl⟩
theorem lp_of (y : Int) : Cal.lp y = if leapB y = true then 1 else 0 := by
  have := Cal.lp_01 y
  unfold leapB
  by_cases h : Cal.lp y = 1
  · rw [if_pos (by simpa using h), h]
  · rw [if_neg (by simpa using h)]; omega
set_option maxHeartbeats 2000000 in
theorem rdays (y : Int) (w : World) : Calls Try.prog 102 #[.int .i64 y] w fun e w' => e = .returned (.int .i64 (365 + Cal.lp y)) ∧ w = w' := by
  have L := Aside0.mk (lp_of y)
  cases hb : leapB y
  · have hb' := Aside0.mk hb
    clear hb
    go_enter Try.func102, Try.ntmps102
    go_wp2_with (go_at_call 144; refine (rleap _ _).mono ?_; rw [hb'.out]; rintro e w' ⟨rfl, rfl⟩)
    go_ret
    exact ⟨by rw [L.out, hb'.out]; rfl, rfl⟩
  · have hb' := Aside0.mk hb
    clear hb
    go_enter Try.func102, Try.ntmps102
    go_wp2_with (go_at_call 144; refine (rleap _ _).mono ?_; rw [hb'.out]; rintro e w' ⟨rfl, rfl⟩)
    go_ret
    exact ⟨by rw [L.out, hb'.out]; rfl, rfl⟩
set_option maxRecDepth 100000 in
set_option maxHeartbeats 8000000 in
theorem rmonth (y m : Int) (w : World) (m0 : 1 ≤ m) (m1 : m ≤ 12) : Calls Try.prog 103 #[.int .i64 y, .int .i64 m] w fun e w' => e = .returned (.int .i64 (Cal.mdays y m)) ∧ Below w.heap.size w w' := by
  have L := Aside0.mk (lp_of y)
  cases hb : leapB y
  all_goals
    have hb' := Aside0.mk hb
    clear hb
    have : m = 1 ∨ m = 2 ∨ m = 3 ∨ m = 4 ∨ m = 5 ∨ m = 6 ∨ m = 7 ∨ m = 8 ∨ m = 9 ∨ m = 10 ∨ m = 11 ∨ m = 12 := by omega
    rcases this with rfl|rfl|rfl|rfl|rfl|rfl|rfl|rfl|rfl|rfl|rfl|rfl
  all_goals
    go_enter Try.func103, Try.ntmps103
    go_wp2_with (go_at_call 144; refine (rleap _ _).mono ?_; rw [hb'.out]; rintro e w' ⟨rfl, rfl⟩)
    go_ret
    refine ⟨congrArg (fun z => Ending.returned (Value.int _ z)) ?_, below_alloc (Below.refl _ _) _⟩
    first | rfl | (simp only [Cal.mdays, L.out, hb'.out]; rfl)
end Go.Proofs.Ytbpmjjbccaanfaa.Dy
