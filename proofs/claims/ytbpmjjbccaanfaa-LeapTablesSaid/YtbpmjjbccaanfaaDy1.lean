import Derived.Test.YtbpmjjbccaanfaaDy0
import Derived.Test.YtbpmjjbccaanfaaWWords
import Derived.Test.YtbpmjjbccaanfaaWLast
import Derived.Test.YtbpmjjbccaanfaaWMore
import Derived.WalkKit
import Derived.Test.YtbpmjjbccaanfaaProg
import Derived.Handy
import Derived.WalkLawsBesides
import Derived.WalkSpells
import Derived.Deep.DeepCutAuto
namespace Go.Proofs.Ytbpmjjbccaanfaa.Dy
open Go.RowKit Go.Proofs.YtbpmjjbccaanfaaW.PrintWords Go.Proofs.YtbpmjjbccaanfaaW.PrintLast Go.Proofs.YtbpmjjbccaanfaaW.PrintMore
set_option linter.unusedVariables false
set_option linter.unusedSimpArgs false
theorem tdiv_neg (c b : Int) (hc : 0 ≤ c) : (-c).tdiv b = -(c / b) := by rw [Int.neg_tdiv, Int.tdiv_eq_ediv_of_nonneg hc]
theorem tmod_neg (c b : Int) (hc : 0 ≤ c) : (-c).tmod b = -(c % b) := by rw [Int.neg_tmod, Int.tmod_eq_emod_of_nonneg hc]
set_option maxHeartbeats 1000000 in
theorem floor400 (a : Int) (w : World) (h0 : -1000000000 ≤ a) (h1 : a ≤ 1000000000) : Calls Try.prog 143 #[.int .i64 a, .int .i64 400] w fun e w' => e = .returned (.int .i64 (a / 400)) ∧ w = w' := by
  by_cases ha : 0 ≤ a
  · go_enter Try.func143, Try.ntmps143
    go_wp2
    go_ret
    exact ⟨rfl, rfl⟩
  · obtain ⟨c, rfl⟩ : ∃ c, a = -c := ⟨-a, by omega⟩
    have e1 := Aside0.mk (Int.tdiv_eq_ediv_of_nonneg (a := c) (b := 400) (by omega))
    have e2 := Aside0.mk (Int.tmod_eq_emod_of_nonneg (a := c) (b := 400) (by omega))
    go_enter Try.func143, Try.ntmps143
    go_wp2
    all_goals go_ret
    all_goals refine ⟨congrArg (fun z => Ending.returned (Value.int _ z)) ?_, rfl⟩
    all_goals (simp only [e1.out, e2.out, wrap64, IntKind.wrap_i64] at *; omega)
set_option maxHeartbeats 1000000 in
theorem floor146097 (a : Int) (w : World) (h0 : -1000000000 ≤ a) (h1 : a ≤ 1000000000) : Calls Try.prog 143 #[.int .i64 a, .int .i64 146097] w fun e w' => e = .returned (.int .i64 (a / 146097)) ∧ w = w' := by
  by_cases ha : 0 ≤ a
  · go_enter Try.func143, Try.ntmps143
    go_wp2
    go_ret
    exact ⟨rfl, rfl⟩
  · obtain ⟨c, rfl⟩ : ∃ c, a = -c := ⟨-a, by omega⟩
    have e1 := Aside0.mk (Int.tdiv_eq_ediv_of_nonneg (a := c) (b := 146097) (by omega))
    have e2 := Aside0.mk (Int.tmod_eq_emod_of_nonneg (a := c) (b := 146097) (by omega))
    go_enter Try.func143, Try.ntmps143
    go_wp2
    all_goals go_ret
    all_goals refine ⟨congrArg (fun z => Ending.returned (Value.int _ z)) ?_, rfl⟩
    all_goals (simp only [e1.out, e2.out, wrap64, IntKind.wrap_i64] at *; omega)
set_option maxHeartbeats 2000000 in
theorem number_ (y m d : Int) (w : World) (y0 : -30000 ≤ y) (y1 : y ≤ 30000) (m0 : 1 ≤ m) (m1 : m ≤ 12) (d0 : 1 ≤ d) (d1 : d ≤ 400) : Calls Try.prog 175 #[.int .i64 y, .int .i64 m, .int .i64 d] w fun e w' => e = .returned (.int .i64 (Cal.num y m d)) ∧ w = w' := by
  have H := Aside0.mk (Cal.hin_eq y m d m0 m1)
  by_cases hm : m ≤ 2
  · obtain ⟨E, hE⟩ : ∃ E, (y - 1) / 400 = E := ⟨_, rfl⟩
    have o0 : 0 ≤ y - 1 - E * 400 := by omega
    have o1 : y - 1 - E * 400 ≤ 399 := by omega
    have o2 : -100 ≤ E := by omega
    have o3 : E ≤ 100 := by omega
    replace hE := Aside0.mk hE
    go_enter Try.func175, Try.ntmps175
    go_wp2_with (go_at_call 143; refine (floor400 (y - 1) _ (by omega) (by omega)).mono ?_; rw [hE.out]; rintro e w' ⟨rfl, rfl⟩)
    go_ret
    refine ⟨congrArg (fun z => Ending.returned (Value.int _ z)) ?_, rfl⟩
    rw [← H.out]
    unfold Cal.hin
    simp only [if_pos hm, hE.out]
    try omega
  · obtain ⟨E, hE⟩ : ∃ E, y / 400 = E := ⟨_, rfl⟩
    have o0 : 0 ≤ y - E * 400 := by omega
    have o1 : y - E * 400 ≤ 399 := by omega
    have o2 : -100 ≤ E := by omega
    have o3 : E ≤ 100 := by omega
    replace hE := Aside0.mk hE
    go_enter Try.func175, Try.ntmps175
    go_wp2_with (go_at_call 143; refine (floor400 y _ (by omega) (by omega)).mono ?_; rw [hE.out]; rintro e w' ⟨rfl, rfl⟩)
    go_ret
    refine ⟨congrArg (fun z => Ending.returned (Value.int _ z)) ?_, rfl⟩
    rw [← H.out]
    unfold Cal.hin
    simp only [if_neg (show ¬ m ≤ 2 by omega), hE.out]
    try omega
theorem first_ (w : World) : Calls Try.prog 141 #[] w fun e w' => e = .returned (.int .i64 (-4371587)) ∧ w = w' := by
  go_enter Try.func141, Try.ntmps141
  go_wp2_with (go_at_call 175; refine (number_ (-9999) 1 1 _ (by omega) (by omega) (by omega) (by omega) (by omega) (by omega)).mono ?_; rintro e w' ⟨rfl, rfl⟩)
  go_ret
  exact ⟨rfl, rfl⟩
theorem last_ (w : World) : Calls Try.prog 142 #[] w fun e w' => e = .returned (.int .i64 2932896) ∧ w = w' := by
  go_enter Try.func142, Try.ntmps142
  go_wp2_with (go_at_call 175; refine (number_ 9999 12 31 _ (by omega) (by omega) (by omega) (by omega) (by omega) (by omega)).mono ?_; rintro e w' ⟨rfl, rfl⟩)
  go_ret
  exact ⟨rfl, rfl⟩
set_option maxHeartbeats 2000000 in
theorem date_no (n : Int) (w : World) (h : n < -4371587 ∨ 2932896 < n) : Calls Try.prog 99 #[.int .i64 n] w fun e w' => e = .returned (.tuple #[.int .i64 0, .int .i64 0, .int .i64 0, .iface 74 (.int .i64 13)]) ∧ w = w' := by
  rcases h with h | h
  · go_enter Try.func99, Try.ntmps99
    go_wp2_with (first | (go_at_call 141; refine (first_ _).mono ?_; rintro e w' ⟨rfl, rfl⟩) | (go_at_call 142; refine (last_ _).mono ?_; rintro e w' ⟨rfl, rfl⟩))
    refine bodyPost_ret (results_list (rs := [.tmp 2, .tmp 3, .tmp 4, .tmp 5]) rfl (by simp) (.tmp (.tmp (.tmp (.tmp .nil))))) rfl ?_
    exact ⟨rfl, rfl⟩
  · have h' : ¬ n < -4371587 := by omega
    go_enter Try.func99, Try.ntmps99
    go_wp2_with (first | (go_at_call 141; refine (first_ _).mono ?_; rintro e w' ⟨rfl, rfl⟩) | (go_at_call 142; refine (last_ _).mono ?_; rintro e w' ⟨rfl, rfl⟩))
    refine bodyPost_ret (results_list (rs := [.tmp 2, .tmp 3, .tmp 4, .tmp 5]) rfl (by simp) (.tmp (.tmp (.tmp (.tmp .nil))))) rfl ?_
    exact ⟨rfl, rfl⟩
set_option maxHeartbeats 4000000 in
theorem date_yes (n : Int) (w : World) (h0 : -4371587 ≤ n) (h1 : n ≤ 2932896) : Calls Try.prog 99 #[.int .i64 n] w fun e w' => e = .returned (.tuple #[.int .i64 (Cal.dateY n), .int .i64 (Cal.dateM n), .int .i64 (Cal.dateD n), .nilIface]) ∧ w = w' := by
  obtain ⟨E, hE⟩ : ∃ E, (n + 719468) / 146097 = E := ⟨_, rfl⟩
  obtain ⟨F, hF⟩ : ∃ F, n + 719468 - E * 146097 = F := ⟨_, rfl⟩
  have f0 : 0 ≤ F := by omega
  have f1 : F < 146097 := by omega
  have e0 : -100 ≤ E := by omega
  have e1 : E ≤ 100 := by omega
  obtain ⟨O, hO⟩ : ∃ O, (F - F / 1460 + F / 36524 - F / 146096) / 365 = O := ⟨_, rfl⟩
  obtain ⟨R, hR⟩ : ∃ R, F - (365 * O + O / 4 - O / 100) = R := ⟨_, rfl⟩
  obtain ⟨o0, o1, r0, r1⟩ := Cal.doe_tells F f0 f1 O R hO.symm hR.symm
  have r2 : R ≤ 365 := by omega
  clear r1
  obtain ⟨M, hM⟩ : ∃ M, (5 * R + 2) / 153 = M := ⟨_, rfl⟩
  have m0 : 0 ≤ M := by omega
  have m1 : M ≤ 11 := by omega
  have eY : Cal.dateY n = if M + 3 > 12 then O + E * 400 + 1 else O + E * 400 := by
    unfold Cal.dateY; simp only [hE, hF, hO, hR, hM]
  have eM : Cal.dateM n = if M + 3 > 12 then M + 3 - 12 else M + 3 := by
    unfold Cal.dateM; simp only [hE, hF, hO, hR, hM]
  have eD : Cal.dateD n = R - (153 * M + 2) / 5 + 1 := by
    unfold Cal.dateD; simp only [hE, hF, hO, hR, hM]
  have q0 : 0 ≤ F - F / 1460 + F / 36524 - F / 146096 := by omega
  replace hE := Aside0.mk hE
  replace hF := Aside0.mk hF
  replace hO := Aside0.mk hO
  replace hR := Aside0.mk hR
  replace hM := Aside0.mk hM
  replace eY := Aside0.mk eY
  replace eM := Aside0.mk eM
  replace eD := Aside0.mk eD
  go_enter Try.func99, Try.ntmps99
  go_upto_region 5 with (first
    | (go_at_call 141; refine (first_ _).mono ?_; rintro e w' ⟨rfl, rfl⟩)
    | (go_at_call 142; refine (last_ _).mono ?_; rintro e w' ⟨rfl, rfl⟩)
    | (go_at_call 143; refine (floor146097 (n + 719468) _ (by omega) (by omega)).mono ?_; rw [hE.out]; rintro e w' ⟨rfl, rfl⟩))
  simp only [hF.out]
  go_upto_region 6 with fail
  simp only [hO.out]
  go_upto_region 7 with fail
  simp only [hR.out]
  go_upto_region 8 with fail
  simp only [hM.out]
  go_wp2
  all_goals refine bodyPost_ret (results_list (rs := [.tmp 2, .tmp 3, .tmp 4, .tmp 5]) rfl (by simp) (.tmp (.tmp (.tmp (.tmp .nil))))) rfl ?_
  all_goals refine ⟨?_, rfl⟩
  all_goals rw [eY.out, eM.out, eD.out]
  all_goals first
    | (rw [if_pos (show M + 3 > 12 by omega), if_pos (show M + 3 > 12 by omega)]; rfl)
    | (rw [if_neg (show ¬ M + 3 > 12 by omega), if_neg (show ¬ M + 3 > 12 by omega)]; rfl)
end Go.Proofs.Ytbpmjjbccaanfaa.Dy
