import Derived.Test.YtbpmjjbccaanfaaLp3
namespace Go.Proofs.Ytbpmjjbccaanfaa.Lp
open Go.RowKit Go.Proofs.YtbpmjjbccaanfaaW.PrintWords Go.Proofs.YtbpmjjbccaanfaaW.PrintLast Go.Proofs.YtbpmjjbccaanfaaW.PrintMore Go.Proofs.Ytbpmjjbccaanfaa.Dy
set_option linter.unusedVariables false
set_option linter.unusedSimpArgs false
/-- why there is no table of these rows; 0: there is one -/
def newErr (xs : List Rw) (u e : Int) : Int :=
  if xs.length = 0 then 8 else if 256 < xs.length then 3 else if (xs.any fun r => !datedB r) = true then 13 else if (xs.any fun r => !mayB r) = true then 1 else if timeB u = false then 1 else if timeB e = false then 1 else if riseB xs = false then 6 else 0
set_option maxHeartbeats 2000000 in
theorem new_k8 (A : Option Addr) (c : Nat) (xs : List Rw) (u e : Int) (w : World) (hr : RowsAt w A c xs) (hl : xs.length ≤ 100000) (k8 : xs.length = 0) :
    Calls Try.prog 16 #[.slice A xs.length c, .int .i64 u, .int .i64 e] w fun e w' => e = .returned (.tuple #[.pointer none, .iface 74 (.int .i64 8)]) ∧ Below w.heap.size w w' := by
  obtain rfl : xs = [] := List.length_eq_zero_iff.1 k8
  clear k8
  replace hr := Aside0.mk hr
  go_enter Try.func16, Try.ntmps16
  go_wp2_with (first
    | (go_at_call 59; (with_reducible refine (contains_undated A c xs _ hr.out (by omega)).mono ?_); rw [k13.out]; rintro e w1 ⟨rfl, hb⟩; have HB1 := Aside0.mk hb; clear hb)
    | (go_at_call 59; (with_reducible refine (contains_wrong A c xs _ (hr.out.below HB1.out) (by omega)).mono ?_); rw [k1a.out]; rintro e w2 ⟨rfl, hb⟩; have HB2 := Aside0.mk (below_over hb HB1.out); clear hb)
    | (go_at_call 60; (with_reducible refine (time_ u _).mono ?_); rw [k1b.out]; rintro e w' ⟨rfl, rfl⟩)
    | (go_at_call 60; (with_reducible refine (time_ e _).mono ?_); rw [k1c.out]; rintro e w' ⟨rfl, rfl⟩)
    | (go_at_call 61; (with_reducible refine (rise_ A c xs _ (hr.out.below HB2.out) (by omega) k1a.out).mono ?_); rw [k6.out]; rintro e w3 ⟨rfl, hb⟩; have HB3 := Aside0.mk (below_over hb HB2.out); clear hb)
    | (go_at_call 62; (with_reducible refine (rclone A c xs _ (hr.out.below HB3.out) (by omega)).mono ?_); rintro e w4 ⟨v, rfl, ho, hb⟩; obtain ⟨A2, c2, rfl⟩ := Kd.R_slice ho; have HB4 := Aside0.mk (below_over hb HB3.out)))
  refine bodyPost_ret (results_tmp2 rfl _ _ _) rfl ?_
  exact ⟨rfl, Below.refl _ _⟩
set_option maxHeartbeats 2000000 in
theorem new_k3 (A : Option Addr) (c : Nat) (xs : List Rw) (u e : Int) (w : World) (hr : RowsAt w A c xs) (hl : xs.length ≤ 100000) (k8 : ¬ xs.length = 0) (k3 : 256 < xs.length) :
    Calls Try.prog 16 #[.slice A xs.length c, .int .i64 u, .int .i64 e] w fun e w' => e = .returned (.tuple #[.pointer none, .iface 74 (.int .i64 3)]) ∧ Below w.heap.size w w' := by
  have kz : ((xs.length : Int) == 0) = false := beq_eq_false_iff_ne.2 (by omega)
  replace hr := Aside0.mk hr
  go_enter Try.func16, Try.ntmps16
  go_wp2_with (first
    | (go_at_call 59; (with_reducible refine (contains_undated A c xs _ hr.out (by omega)).mono ?_); rw [k13.out]; rintro e w1 ⟨rfl, hb⟩; have HB1 := Aside0.mk hb; clear hb)
    | (go_at_call 59; (with_reducible refine (contains_wrong A c xs _ (hr.out.below HB1.out) (by omega)).mono ?_); rw [k1a.out]; rintro e w2 ⟨rfl, hb⟩; have HB2 := Aside0.mk (below_over hb HB1.out); clear hb)
    | (go_at_call 60; (with_reducible refine (time_ u _).mono ?_); rw [k1b.out]; rintro e w' ⟨rfl, rfl⟩)
    | (go_at_call 60; (with_reducible refine (time_ e _).mono ?_); rw [k1c.out]; rintro e w' ⟨rfl, rfl⟩)
    | (go_at_call 61; (with_reducible refine (rise_ A c xs _ (hr.out.below HB2.out) (by omega) k1a.out).mono ?_); rw [k6.out]; rintro e w3 ⟨rfl, hb⟩; have HB3 := Aside0.mk (below_over hb HB2.out); clear hb)
    | (go_at_call 62; (with_reducible refine (rclone A c xs _ (hr.out.below HB3.out) (by omega)).mono ?_); rintro e w4 ⟨v, rfl, ho, hb⟩; obtain ⟨A2, c2, rfl⟩ := Kd.R_slice ho; have HB4 := Aside0.mk (below_over hb HB3.out)))
  refine bodyPost_ret (results_tmp2 rfl _ _ _) rfl ?_
  exact ⟨rfl, Below.refl _ _⟩
set_option maxHeartbeats 2000000 in
theorem new_k13 (A : Option Addr) (c : Nat) (xs : List Rw) (u e : Int) (w : World) (hr : RowsAt w A c xs) (hl : xs.length ≤ 100000) (k8 : ¬ xs.length = 0) (k3 : ¬ 256 < xs.length) (k13 : (xs.any fun r => !datedB r) = true) :
    Calls Try.prog 16 #[.slice A xs.length c, .int .i64 u, .int .i64 e] w fun e w' => e = .returned (.tuple #[.pointer none, .iface 74 (.int .i64 13)]) ∧ Below w.heap.size w w' := by
  have kz : ((xs.length : Int) == 0) = false := beq_eq_false_iff_ne.2 (by omega)
  replace k13 := Aside0.mk k13
  replace hr := Aside0.mk hr
  go_enter Try.func16, Try.ntmps16
  go_wp2_with (first
    | (go_at_call 59; (with_reducible refine (contains_undated A c xs _ hr.out (by omega)).mono ?_); rw [k13.out]; rintro e w1 ⟨rfl, hb⟩; have HB1 := Aside0.mk hb; clear hb)
    | (go_at_call 59; (with_reducible refine (contains_wrong A c xs _ (hr.out.below HB1.out) (by omega)).mono ?_); rw [k1a.out]; rintro e w2 ⟨rfl, hb⟩; have HB2 := Aside0.mk (below_over hb HB1.out); clear hb)
    | (go_at_call 60; (with_reducible refine (time_ u _).mono ?_); rw [k1b.out]; rintro e w' ⟨rfl, rfl⟩)
    | (go_at_call 60; (with_reducible refine (time_ e _).mono ?_); rw [k1c.out]; rintro e w' ⟨rfl, rfl⟩)
    | (go_at_call 61; (with_reducible refine (rise_ A c xs _ (hr.out.below HB2.out) (by omega) k1a.out).mono ?_); rw [k6.out]; rintro e w3 ⟨rfl, hb⟩; have HB3 := Aside0.mk (below_over hb HB2.out); clear hb)
    | (go_at_call 62; (with_reducible refine (rclone A c xs _ (hr.out.below HB3.out) (by omega)).mono ?_); rintro e w4 ⟨v, rfl, ho, hb⟩; obtain ⟨A2, c2, rfl⟩ := Kd.R_slice ho; have HB4 := Aside0.mk (below_over hb HB3.out)))
  refine bodyPost_ret (results_tmp2 rfl _ _ _) rfl ?_
  exact ⟨rfl, HB1.out⟩
set_option maxHeartbeats 2000000 in
theorem new_k1a (A : Option Addr) (c : Nat) (xs : List Rw) (u e : Int) (w : World) (hr : RowsAt w A c xs) (hl : xs.length ≤ 100000) (k8 : ¬ xs.length = 0) (k3 : ¬ 256 < xs.length) (k13 : (xs.any fun r => !datedB r) = false) (k1a : (xs.any fun r => !mayB r) = true) :
    Calls Try.prog 16 #[.slice A xs.length c, .int .i64 u, .int .i64 e] w fun e w' => e = .returned (.tuple #[.pointer none, .iface 74 (.int .i64 1)]) ∧ Below w.heap.size w w' := by
  have kz : ((xs.length : Int) == 0) = false := beq_eq_false_iff_ne.2 (by omega)
  replace k13 := Aside0.mk k13
  replace k1a := Aside0.mk k1a
  replace hr := Aside0.mk hr
  go_enter Try.func16, Try.ntmps16
  go_wp2_with (first
    | (go_at_call 59; (with_reducible refine (contains_undated A c xs _ hr.out (by omega)).mono ?_); rw [k13.out]; rintro e w1 ⟨rfl, hb⟩; have HB1 := Aside0.mk hb; clear hb)
    | (go_at_call 59; (with_reducible refine (contains_wrong A c xs _ (hr.out.below HB1.out) (by omega)).mono ?_); rw [k1a.out]; rintro e w2 ⟨rfl, hb⟩; have HB2 := Aside0.mk (below_over hb HB1.out); clear hb)
    | (go_at_call 60; (with_reducible refine (time_ u _).mono ?_); rw [k1b.out]; rintro e w' ⟨rfl, rfl⟩)
    | (go_at_call 60; (with_reducible refine (time_ e _).mono ?_); rw [k1c.out]; rintro e w' ⟨rfl, rfl⟩)
    | (go_at_call 61; (with_reducible refine (rise_ A c xs _ (hr.out.below HB2.out) (by omega) k1a.out).mono ?_); rw [k6.out]; rintro e w3 ⟨rfl, hb⟩; have HB3 := Aside0.mk (below_over hb HB2.out); clear hb)
    | (go_at_call 62; (with_reducible refine (rclone A c xs _ (hr.out.below HB3.out) (by omega)).mono ?_); rintro e w4 ⟨v, rfl, ho, hb⟩; obtain ⟨A2, c2, rfl⟩ := Kd.R_slice ho; have HB4 := Aside0.mk (below_over hb HB3.out)))
  refine bodyPost_ret (results_tmp2 rfl _ _ _) rfl ?_
  exact ⟨rfl, HB2.out⟩
set_option maxHeartbeats 2000000 in
theorem new_k1b (A : Option Addr) (c : Nat) (xs : List Rw) (u e : Int) (w : World) (hr : RowsAt w A c xs) (hl : xs.length ≤ 100000) (k8 : ¬ xs.length = 0) (k3 : ¬ 256 < xs.length) (k13 : (xs.any fun r => !datedB r) = false) (k1a : (xs.any fun r => !mayB r) = false) (k1b : timeB u = false) :
    Calls Try.prog 16 #[.slice A xs.length c, .int .i64 u, .int .i64 e] w fun e w' => e = .returned (.tuple #[.pointer none, .iface 74 (.int .i64 1)]) ∧ Below w.heap.size w w' := by
  have kz : ((xs.length : Int) == 0) = false := beq_eq_false_iff_ne.2 (by omega)
  replace k13 := Aside0.mk k13
  replace k1a := Aside0.mk k1a
  replace k1b := Aside0.mk k1b
  replace hr := Aside0.mk hr
  go_enter Try.func16, Try.ntmps16
  go_wp2_with (first
    | (go_at_call 59; (with_reducible refine (contains_undated A c xs _ hr.out (by omega)).mono ?_); rw [k13.out]; rintro e w1 ⟨rfl, hb⟩; have HB1 := Aside0.mk hb; clear hb)
    | (go_at_call 59; (with_reducible refine (contains_wrong A c xs _ (hr.out.below HB1.out) (by omega)).mono ?_); rw [k1a.out]; rintro e w2 ⟨rfl, hb⟩; have HB2 := Aside0.mk (below_over hb HB1.out); clear hb)
    | (go_at_call 60; (with_reducible refine (time_ u _).mono ?_); rw [k1b.out]; rintro e w' ⟨rfl, rfl⟩)
    | (go_at_call 60; (with_reducible refine (time_ e _).mono ?_); rw [k1c.out]; rintro e w' ⟨rfl, rfl⟩)
    | (go_at_call 61; (with_reducible refine (rise_ A c xs _ (hr.out.below HB2.out) (by omega) k1a.out).mono ?_); rw [k6.out]; rintro e w3 ⟨rfl, hb⟩; have HB3 := Aside0.mk (below_over hb HB2.out); clear hb)
    | (go_at_call 62; (with_reducible refine (rclone A c xs _ (hr.out.below HB3.out) (by omega)).mono ?_); rintro e w4 ⟨v, rfl, ho, hb⟩; obtain ⟨A2, c2, rfl⟩ := Kd.R_slice ho; have HB4 := Aside0.mk (below_over hb HB3.out)))
  refine bodyPost_ret (results_tmp2 rfl _ _ _) rfl ?_
  exact ⟨rfl, HB2.out⟩
set_option maxHeartbeats 2000000 in
theorem new_k1c (A : Option Addr) (c : Nat) (xs : List Rw) (u e : Int) (w : World) (hr : RowsAt w A c xs) (hl : xs.length ≤ 100000) (k8 : ¬ xs.length = 0) (k3 : ¬ 256 < xs.length) (k13 : (xs.any fun r => !datedB r) = false) (k1a : (xs.any fun r => !mayB r) = false) (k1b : timeB u = true) (k1c : timeB e = false) :
    Calls Try.prog 16 #[.slice A xs.length c, .int .i64 u, .int .i64 e] w fun e w' => e = .returned (.tuple #[.pointer none, .iface 74 (.int .i64 1)]) ∧ Below w.heap.size w w' := by
  have kz : ((xs.length : Int) == 0) = false := beq_eq_false_iff_ne.2 (by omega)
  replace k13 := Aside0.mk k13
  replace k1a := Aside0.mk k1a
  replace k1b := Aside0.mk k1b
  replace k1c := Aside0.mk k1c
  replace hr := Aside0.mk hr
  go_enter Try.func16, Try.ntmps16
  go_wp2_with (first
    | (go_at_call 59; (with_reducible refine (contains_undated A c xs _ hr.out (by omega)).mono ?_); rw [k13.out]; rintro e w1 ⟨rfl, hb⟩; have HB1 := Aside0.mk hb; clear hb)
    | (go_at_call 59; (with_reducible refine (contains_wrong A c xs _ (hr.out.below HB1.out) (by omega)).mono ?_); rw [k1a.out]; rintro e w2 ⟨rfl, hb⟩; have HB2 := Aside0.mk (below_over hb HB1.out); clear hb)
    | (go_at_call 60; (with_reducible refine (time_ u _).mono ?_); rw [k1b.out]; rintro e w' ⟨rfl, rfl⟩)
    | (go_at_call 60; (with_reducible refine (time_ e _).mono ?_); rw [k1c.out]; rintro e w' ⟨rfl, rfl⟩)
    | (go_at_call 61; (with_reducible refine (rise_ A c xs _ (hr.out.below HB2.out) (by omega) k1a.out).mono ?_); rw [k6.out]; rintro e w3 ⟨rfl, hb⟩; have HB3 := Aside0.mk (below_over hb HB2.out); clear hb)
    | (go_at_call 62; (with_reducible refine (rclone A c xs _ (hr.out.below HB3.out) (by omega)).mono ?_); rintro e w4 ⟨v, rfl, ho, hb⟩; obtain ⟨A2, c2, rfl⟩ := Kd.R_slice ho; have HB4 := Aside0.mk (below_over hb HB3.out)))
  refine bodyPost_ret (results_tmp2 rfl _ _ _) rfl ?_
  exact ⟨rfl, HB2.out⟩
set_option maxHeartbeats 2000000 in
theorem new_k6 (A : Option Addr) (c : Nat) (xs : List Rw) (u e : Int) (w : World) (hr : RowsAt w A c xs) (hl : xs.length ≤ 100000) (k8 : ¬ xs.length = 0) (k3 : ¬ 256 < xs.length) (k13 : (xs.any fun r => !datedB r) = false) (k1a : (xs.any fun r => !mayB r) = false) (k1b : timeB u = true) (k1c : timeB e = true) (k6 : riseB xs = false) :
    Calls Try.prog 16 #[.slice A xs.length c, .int .i64 u, .int .i64 e] w fun e w' => e = .returned (.tuple #[.pointer none, .iface 74 (.int .i64 6)]) ∧ Below w.heap.size w w' := by
  have kz : ((xs.length : Int) == 0) = false := beq_eq_false_iff_ne.2 (by omega)
  replace k13 := Aside0.mk k13
  replace k1a := Aside0.mk k1a
  replace k1b := Aside0.mk k1b
  replace k1c := Aside0.mk k1c
  replace k6 := Aside0.mk k6
  replace hr := Aside0.mk hr
  go_enter Try.func16, Try.ntmps16
  go_wp2_with (first
    | (go_at_call 59; (with_reducible refine (contains_undated A c xs _ hr.out (by omega)).mono ?_); rw [k13.out]; rintro e w1 ⟨rfl, hb⟩; have HB1 := Aside0.mk hb; clear hb)
    | (go_at_call 59; (with_reducible refine (contains_wrong A c xs _ (hr.out.below HB1.out) (by omega)).mono ?_); rw [k1a.out]; rintro e w2 ⟨rfl, hb⟩; have HB2 := Aside0.mk (below_over hb HB1.out); clear hb)
    | (go_at_call 60; (with_reducible refine (time_ u _).mono ?_); rw [k1b.out]; rintro e w' ⟨rfl, rfl⟩)
    | (go_at_call 60; (with_reducible refine (time_ e _).mono ?_); rw [k1c.out]; rintro e w' ⟨rfl, rfl⟩)
    | (go_at_call 61; (with_reducible refine (rise_ A c xs _ (hr.out.below HB2.out) (by omega) k1a.out).mono ?_); rw [k6.out]; rintro e w3 ⟨rfl, hb⟩; have HB3 := Aside0.mk (below_over hb HB2.out); clear hb)
    | (go_at_call 62; (with_reducible refine (rclone A c xs _ (hr.out.below HB3.out) (by omega)).mono ?_); rintro e w4 ⟨v, rfl, ho, hb⟩; obtain ⟨A2, c2, rfl⟩ := Kd.R_slice ho; have HB4 := Aside0.mk (below_over hb HB3.out)))
  refine bodyPost_ret (results_tmp2 rfl _ _ _) rfl ?_
  exact ⟨rfl, HB3.out⟩
set_option maxHeartbeats 4000000 in
theorem new_yes (A : Option Addr) (c : Nat) (xs : List Rw) (u e : Int) (w : World) (hr : RowsAt w A c xs) (hl : xs.length ≤ 100000) (k8 : ¬ xs.length = 0) (k3 : ¬ 256 < xs.length) (k13 : (xs.any fun r => !datedB r) = false) (k1a : (xs.any fun r => !mayB r) = false) (k1b : timeB u = true) (k1c : timeB e = true) (k6 : riseB xs = true) :
    Calls Try.prog 16 #[.slice A xs.length c, .int .i64 u, .int .i64 e] w fun en w' => ∃ B v, en = .returned (.tuple #[.pointer (some ⟨B, 0, none⟩), .nilIface]) ∧ w'.heap[B]? = some (.cells #[v, .int .i64 u, .int .i64 e] 124 (0, 0)) ∧ OwnsR 64 w' w.heap.size v xs ∧ w.heap.size ≤ B ∧ Below w.heap.size w w' := by
  have kz : ((xs.length : Int) == 0) = false := beq_eq_false_iff_ne.2 (by omega)
  replace k13 := Aside0.mk k13
  replace k1a := Aside0.mk k1a
  replace k1b := Aside0.mk k1b
  replace k1c := Aside0.mk k1c
  replace k6 := Aside0.mk k6
  replace hr := Aside0.mk hr
  go_enter Try.func16, Try.ntmps16
  go_wp2_with (first
    | (go_at_call 59; (with_reducible refine (contains_undated A c xs _ hr.out (by omega)).mono ?_); rw [k13.out]; rintro e w1 ⟨rfl, hb⟩; have HB1 := Aside0.mk hb; clear hb)
    | (go_at_call 59; (with_reducible refine (contains_wrong A c xs _ (hr.out.below HB1.out) (by omega)).mono ?_); rw [k1a.out]; rintro e w2 ⟨rfl, hb⟩; have HB2 := Aside0.mk (below_over hb HB1.out); clear hb)
    | (go_at_call 60; (with_reducible refine (time_ u _).mono ?_); rw [k1b.out]; rintro e w' ⟨rfl, rfl⟩)
    | (go_at_call 60; (with_reducible refine (time_ e _).mono ?_); rw [k1c.out]; rintro e w' ⟨rfl, rfl⟩)
    | (go_at_call 61; (with_reducible refine (rise_ A c xs _ (hr.out.below HB2.out) (by omega) k1a.out).mono ?_); rw [k6.out]; rintro e w3 ⟨rfl, hb⟩; have HB3 := Aside0.mk (below_over hb HB2.out); clear hb)
    | (go_at_call 62; (with_reducible refine (rclone A c xs _ (hr.out.below HB3.out) (by omega)).mono ?_); rintro e w4 ⟨v, rfl, ho, hb⟩; obtain ⟨A2, c2, rfl⟩ := Kd.R_slice ho; have HB4 := Aside0.mk (below_over hb HB3.out)))
  refine bodyPost_ret (results_tmp2 rfl _ _ _) rfl ?_
  refine ⟨_, _, rfl, blk_new w4 _, ?_, HB4.out.size, below_alloc HB4.out _⟩
  exact Kd.R_lower (Kd.R_below ho (below_alloc (Below.refl _ _) _)) HB3.out.size
theorem new_err (A : Option Addr) (c : Nat) (xs : List Rw) (u e : Int) (w : World) (hr : RowsAt w A c xs) (hl : xs.length ≤ 100000) (h : newErr xs u e ≠ 0) :
    Calls Try.prog 16 #[.slice A xs.length c, .int .i64 u, .int .i64 e] w fun en w' => en = .returned (.tuple #[.pointer none, .iface 74 (.int .i64 (newErr xs u e))]) ∧ Below w.heap.size w w' := by
  unfold newErr at h ⊢
  by_cases k8 : xs.length = 0
  · simp only [if_pos k8]
    exact new_k8 A c xs u e w hr hl  k8
  by_cases k3 : 256 < xs.length
  · simp only [if_neg k8, if_pos k3]
    exact new_k3 A c xs u e w hr hl k8 k3
  by_cases k13 : (xs.any fun r => !datedB r) = true
  · simp only [if_neg k8, if_neg k3, if_pos k13]
    exact new_k13 A c xs u e w hr hl k8 k3 k13
  have nk13 := k13
  replace k13 : (xs.any fun r => !datedB r) = false := by simpa using k13
  by_cases k1a : (xs.any fun r => !mayB r) = true
  · simp only [if_neg k8, if_neg k3, if_neg nk13, if_pos k1a]
    exact new_k1a A c xs u e w hr hl k8 k3 k13 k1a
  have nk1a := k1a
  replace k1a : (xs.any fun r => !mayB r) = false := by simpa using k1a
  by_cases k1b : timeB u = false
  · simp only [if_neg k8, if_neg k3, if_neg nk13, if_neg nk1a, if_pos k1b]
    exact new_k1b A c xs u e w hr hl k8 k3 k13 k1a k1b
  have nk1b := k1b
  replace k1b : timeB u = true := by simpa using k1b
  by_cases k1c : timeB e = false
  · simp only [if_neg k8, if_neg k3, if_neg nk13, if_neg nk1a, if_neg nk1b, if_pos k1c]
    exact new_k1c A c xs u e w hr hl k8 k3 k13 k1a k1b k1c
  have nk1c := k1c
  replace k1c : timeB e = true := by simpa using k1c
  by_cases k6 : riseB xs = false
  · simp only [if_neg k8, if_neg k3, if_neg nk13, if_neg nk1a, if_neg nk1b, if_neg nk1c, if_pos k6]
    exact new_k6 A c xs u e w hr hl k8 k3 k13 k1a k1b k1c k6
  have nk6 := k6
  replace k6 : riseB xs = true := by simpa using k6
  exact absurd (by simp only [if_neg k8, if_neg k3, if_neg nk13, if_neg nk1a, if_neg nk1b, if_neg nk1c, if_neg nk6]) h
theorem new_ok (A : Option Addr) (c : Nat) (xs : List Rw) (u e : Int) (w : World) (hr : RowsAt w A c xs) (hl : xs.length ≤ 100000) (h : newErr xs u e = 0) :
    Calls Try.prog 16 #[.slice A xs.length c, .int .i64 u, .int .i64 e] w fun en w' => ∃ B v, en = .returned (.tuple #[.pointer (some ⟨B, 0, none⟩), .nilIface]) ∧ w'.heap[B]? = some (.cells #[v, .int .i64 u, .int .i64 e] 124 (0, 0)) ∧ OwnsR 64 w' w.heap.size v xs ∧ w.heap.size ≤ B ∧ Below w.heap.size w w' := by
  unfold newErr at h
  repeat' split at h
  all_goals first | (exact absurd h (by decide)) | skip
  rename_i k8 k3 k13 k1a k1b k1c k6
  exact new_yes A c xs u e w hr hl k8 k3 (by simpa using k13) (by simpa using k1a) (by simpa using k1b) (by simpa using k1c) (by simpa using k6)
end Go.Proofs.Ytbpmjjbccaanfaa.Lp
