import Derived.Test.YtbpmjjbccaanfaaLp1
import Derived.Deep.QuietTactic
import Derived.BigQuiet
namespace Go.Proofs.Ytbpmjjbccaanfaa.Lp
open Go.RowKit Go.Proofs.YtbpmjjbccaanfaaW.PrintWords Go.Proofs.YtbpmjjbccaanfaaW.PrintLast Go.Proofs.YtbpmjjbccaanfaaW.PrintMore Go.Proofs.Ytbpmjjbccaanfaa.Dy
set_option linter.unusedVariables false
set_option linter.unusedSimpArgs false
def datedB (r : Rw) : Bool := decide (-25567 ≤ r.d ∧ r.d ≤ 2932896)
def mayB (r : Rw) : Bool := decide (-4371587 ≤ r.d ∧ r.d ≤ 2932896 ∧ Cal.dateD r.d = 1 ∧ 0 ≤ r.o ∧ r.o ≤ 1000)
def timeB (t : Int) : Bool := decide (0 ≤ t ∧ t ≤ 1099511627776)
def folB (r was : Rw) : Bool := decide (was.d < r.d ∧ (r.o - was.o = 1 ∨ r.o - was.o = -1))
set_option maxHeartbeats 2000000 in
theorem dated_ (r : Rw) (w : World) : Calls Try.prog 56 #[.agg #[.int .i64 r.d, .int .i64 r.o]] w fun e w' => e = .returned (.bool (datedB r)) ∧ Below w.heap.size w w' := by
  by_cases h : r.d < -4371587 ∨ 2932896 < r.d
  · have e := Aside0.mk (show datedB r = false by unfold datedB; exact decide_eq_false (by omega))
    go_enter Try.func56, Try.ntmps56
    go_wp2_with (go_at_call 99; refine (date_no _ _ h).mono ?_; rintro e w' ⟨rfl, rfl⟩)
    go_ret
    exact ⟨by rw [e.out]; rfl, below_alloc (Below.refl _ _) _⟩
  · have hy := Cal.dateY_ge r.d 1900
    rw [show Cal.start 1900 = -25567 by decide] at hy
    by_cases h2 : -25567 ≤ r.d
    · have e := Aside0.mk (show datedB r = true by unfold datedB; exact decide_eq_true (by omega))
      have k : 1900 ≤ Cal.dateY r.d := hy.2 h2
      clear hy
      go_enter Try.func56, Try.ntmps56
      go_wp2_with (go_at_call 99; refine (date_yes _ _ (by omega) (by omega)).mono ?_; rintro e w' ⟨rfl, rfl⟩)
      go_ret
      refine ⟨by rw [e.out]; first | rfl | (simp; done) | (simp; omega), below_alloc (Below.refl _ _) _⟩
    · have e := Aside0.mk (show datedB r = false by unfold datedB; exact decide_eq_false (by omega))
      have k : ¬ 1900 ≤ Cal.dateY r.d := fun x => h2 (hy.1 x)
      clear hy
      go_enter Try.func56, Try.ntmps56
      go_wp2_with (go_at_call 99; refine (date_yes _ _ (by omega) (by omega)).mono ?_; rintro e w' ⟨rfl, rfl⟩)
      go_ret
      refine ⟨by rw [e.out]; first | rfl | (simp; done) | (simp; omega), below_alloc (Below.refl _ _) _⟩
set_option maxHeartbeats 4000000 in
theorem may_ (r : Rw) (w : World) : Calls Try.prog 58 #[.agg #[.int .i64 r.d, .int .i64 r.o]] w fun e w' => e = .returned (.bool (mayB r)) ∧ Below w.heap.size w w' := by
  by_cases h : r.d < -4371587 ∨ 2932896 < r.d
  · have e := Aside0.mk (show mayB r = false by unfold mayB; exact decide_eq_false (by omega))
    go_enter Try.func58, Try.ntmps58
    go_wp2_with (go_at_call 99; refine (date_no _ _ h).mono ?_; rintro e w' ⟨rfl, rfl⟩)
    go_ret
    exact ⟨by rw [e.out]; rfl, below_alloc (Below.refl _ _) _⟩
  · by_cases h1 : Cal.dateD r.d = 1
    · have h1b : (Cal.dateD r.d == 1) = true := by rw [h1]; rfl
      by_cases h2 : 0 ≤ r.o
      · by_cases h3 : r.o ≤ 1000
        · have e := Aside0.mk (show mayB r = true by unfold mayB; exact decide_eq_true (by omega))
          clear h1
          go_enter Try.func58, Try.ntmps58
          go_wp2_with (go_at_call 99; refine (date_yes _ _ (by omega) (by omega)).mono ?_; rintro e w' ⟨rfl, rfl⟩)
          go_ret
          exact ⟨by rw [e.out]; first | rfl | (simp; done) | (simp; omega), below_alloc (Below.refl _ _) _⟩
        · have e := Aside0.mk (show mayB r = false by unfold mayB; exact decide_eq_false (by omega))
          clear h1
          go_enter Try.func58, Try.ntmps58
          go_wp2_with (go_at_call 99; refine (date_yes _ _ (by omega) (by omega)).mono ?_; rintro e w' ⟨rfl, rfl⟩)
          go_ret
          exact ⟨by rw [e.out]; first | rfl | (simp; done) | (simp; omega), below_alloc (Below.refl _ _) _⟩
      · have e := Aside0.mk (show mayB r = false by unfold mayB; exact decide_eq_false (by omega))
        clear h1
        go_enter Try.func58, Try.ntmps58
        go_wp2_with (go_at_call 99; refine (date_yes _ _ (by omega) (by omega)).mono ?_; rintro e w' ⟨rfl, rfl⟩)
        go_ret
        exact ⟨by rw [e.out]; first | rfl | (simp; done) | (simp; omega), below_alloc (Below.refl _ _) _⟩
    · have h1b : (Cal.dateD r.d == 1) = false := by simpa using h1
      have e := Aside0.mk (show mayB r = false by unfold mayB; exact decide_eq_false (by omega))
      clear h1
      go_enter Try.func58, Try.ntmps58
      go_wp2_with (go_at_call 99; refine (date_yes _ _ (by omega) (by omega)).mono ?_; rintro e w' ⟨rfl, rfl⟩)
      go_ret
      exact ⟨by rw [e.out]; first | rfl | (simp; done) | (simp; omega), below_alloc (Below.refl _ _) _⟩
theorem undated_ (r : Rw) (w : World) : Calls Try.prog 55 #[.agg #[.int .i64 r.d, .int .i64 r.o]] w fun e w' => e = .returned (.bool (!datedB r)) ∧ Below w.heap.size w w' := by
  go_enter Try.func55, Try.ntmps55
  go_wp2_with (go_at_call 56; refine (dated_ _ _).mono ?_; rintro e w1 ⟨rfl, hb⟩)
  go_ret
  exact ⟨rfl, below_over hb (below_alloc (Below.refl _ _) _)⟩
theorem wrong_ (r : Rw) (w : World) : Calls Try.prog 57 #[.agg #[.int .i64 r.d, .int .i64 r.o]] w fun e w' => e = .returned (.bool (!mayB r)) ∧ Below w.heap.size w w' := by
  go_enter Try.func57, Try.ntmps57
  go_wp2_with (go_at_call 58; refine (may_ _ _).mono ?_; rintro e w1 ⟨rfl, hb⟩)
  go_ret
  exact ⟨rfl, below_over hb (below_alloc (Below.refl _ _) _)⟩
set_option maxHeartbeats 1000000 in
theorem time_ (t : Int) (w : World) : Calls Try.prog 60 #[.int .i64 t] w fun e w' => e = .returned (.bool (timeB t)) ∧ w = w' := by
  by_cases h : 0 ≤ t
  · by_cases h2 : t ≤ 1099511627776
    · have e := Aside0.mk (show timeB t = true from decide_eq_true ⟨h, h2⟩)
      go_enter Try.func60, Try.ntmps60
      go_wp2
      go_ret
      exact ⟨by rw [e.out]; first | rfl | (simp; done) | (simp; omega), rfl⟩
    · have e := Aside0.mk (show timeB t = false from decide_eq_false (by omega))
      go_enter Try.func60, Try.ntmps60
      go_wp2
      go_ret
      exact ⟨by rw [e.out]; first | rfl | (simp; done) | (simp; omega), rfl⟩
  · have e := Aside0.mk (show timeB t = false from decide_eq_false (by omega))
    go_enter Try.func60, Try.ntmps60
    go_wp2
    go_ret
    exact ⟨by rw [e.out]; first | rfl | (simp; done) | (simp; omega), rfl⟩
set_option maxHeartbeats 2000000 in
theorem index_undated (A : Option Addr) (c : Nat) (xs : List Rw) (w : World) (hr : RowsAt w A c xs) (hl : xs.length ≤ 100000) :
    Calls Try.prog 100 #[.slice A xs.length c, .func (.func 55) #[] #[]] w fun e w' => ∃ i : Int, e = .returned (.int .i64 i) ∧ (0 ≤ i ↔ xs.any (fun r => !datedB r) = true) ∧ Below w.heap.size w w' := by
  replace hr := Aside0.mk hr
  go_enter Try.func100, Try.ntmps100
  go_wp2
  go_loopw [8] (fun t wr => ∃ k : Nat, k ≤ xs.length ∧ t = .int .i64 k ∧ Aside0 (∀ j, j < k → (!datedB (rdR xs j)) = false) ∧ Aside0 (Below w.heap.size w wr)) (fun t _ => xs.length - (intOf t).toNat)
  case atStart => exact ⟨0, Nat.zero_le _, rfl, ⟨fun j hj => by omega⟩, ⟨Below.refl _ _⟩⟩
  case round =>
    obtain ⟨k, hk, rfl, hno, HB⟩ := hrel
    by_cases hlt : k < xs.length
    · obtain ⟨ad, rfl, c0, c1⟩ := at_Rw (hr.out.below HB.out).reads k hlt
      cases hp : (!datedB (rdR xs k))
      · have hp' := Aside0.mk hp
        clear hp
        go_wp2_with (go_at_call 55; refine (undated_ (rdR xs k) _).mono ?_; rw [hp'.out]; rintro e w1 ⟨rfl, hb⟩; have HB1 := Aside0.mk (below_over hb HB.out); clear HB hb)
        go_roundw
        case rel => exact ⟨k + 1, by omega, by go_num, ⟨fun j hj => by
          by_cases e : j = k
          · subst e; exact hp'.out
          · exact hno.out j (by omega)⟩, HB1⟩
        case measure => simp [intOf]; omega
      · have hp' := Aside0.mk hp
        clear hp
        go_wp2_with (go_at_call 55; refine (undated_ (rdR xs k) _).mono ?_; rw [hp'.out]; rintro e w1 ⟨rfl, hb⟩; have HB1 := Aside0.mk (below_over hb HB.out); clear HB hb)
        go_ret
        refine ⟨_, rfl, ⟨fun _ => List.any_eq_true.2 ⟨rdR xs k, ?_, hp'.out⟩, fun _ => by omega⟩, HB1.out⟩
        unfold rdR
        rw [List.getD_eq_getElem?_getD, List.getElem?_eq_getElem hlt]
        exact List.getElem_mem _
    · go_wp2
      go_ret
      refine ⟨_, rfl, ⟨fun h => absurd h (by omega), fun h => ?_⟩, HB.out⟩
      obtain ⟨r, hm, hp⟩ := List.any_eq_true.1 h
      obtain ⟨j, hj, rfl⟩ := List.getElem_of_mem hm
      have := hno.out j (by omega)
      unfold rdR at this
      rw [List.getD_eq_getElem?_getD, List.getElem?_eq_getElem hj] at this
      rw [show (some xs[j]).getD ⟨0, 0⟩ = xs[j] from rfl] at this
      rw [this] at hp
      cases hp
theorem contains_undated (A : Option Addr) (c : Nat) (xs : List Rw) (w : World) (hr : RowsAt w A c xs) (hl : xs.length ≤ 100000) :
    Calls Try.prog 59 #[.slice A xs.length c, .func (.func 55) #[] #[]] w fun e w' => e = .returned (.bool (xs.any fun r => !datedB r)) ∧ Below w.heap.size w w' := by
  go_enter Try.func59, Try.ntmps59
  go_wp2_with (go_at_call 100; refine (index_undated A c xs _ hr hl).mono ?_; rintro e w1 ⟨i, rfl, hi, hb⟩; replace hi := Aside0.mk hi)
  go_ret
  refine ⟨?_, hb⟩
  refine congrArg (fun b => Ending.returned (Value.bool b)) ?_
  rw [Bool.eq_iff_iff]
  have := hi.out
  simp only [decide_eq_true_eq] at *
  exact this
set_option maxHeartbeats 2000000 in
theorem index_wrong (A : Option Addr) (c : Nat) (xs : List Rw) (w : World) (hr : RowsAt w A c xs) (hl : xs.length ≤ 100000) :
    Calls Try.prog 100 #[.slice A xs.length c, .func (.func 57) #[] #[]] w fun e w' => ∃ i : Int, e = .returned (.int .i64 i) ∧ (0 ≤ i ↔ xs.any (fun r => !mayB r) = true) ∧ Below w.heap.size w w' := by
  replace hr := Aside0.mk hr
  go_enter Try.func100, Try.ntmps100
  go_wp2
  go_loopw [8] (fun t wr => ∃ k : Nat, k ≤ xs.length ∧ t = .int .i64 k ∧ Aside0 (∀ j, j < k → (!mayB (rdR xs j)) = false) ∧ Aside0 (Below w.heap.size w wr)) (fun t _ => xs.length - (intOf t).toNat)
  case atStart => exact ⟨0, Nat.zero_le _, rfl, ⟨fun j hj => by omega⟩, ⟨Below.refl _ _⟩⟩
  case round =>
    obtain ⟨k, hk, rfl, hno, HB⟩ := hrel
    by_cases hlt : k < xs.length
    · obtain ⟨ad, rfl, c0, c1⟩ := at_Rw (hr.out.below HB.out).reads k hlt
      cases hp : (!mayB (rdR xs k))
      · have hp' := Aside0.mk hp
        clear hp
        go_wp2_with (go_at_call 57; refine (wrong_ (rdR xs k) _).mono ?_; rw [hp'.out]; rintro e w1 ⟨rfl, hb⟩; have HB1 := Aside0.mk (below_over hb HB.out); clear HB hb)
        go_roundw
        case rel => exact ⟨k + 1, by omega, by go_num, ⟨fun j hj => by
          by_cases e : j = k
          · subst e; exact hp'.out
          · exact hno.out j (by omega)⟩, HB1⟩
        case measure => simp [intOf]; omega
      · have hp' := Aside0.mk hp
        clear hp
        go_wp2_with (go_at_call 57; refine (wrong_ (rdR xs k) _).mono ?_; rw [hp'.out]; rintro e w1 ⟨rfl, hb⟩; have HB1 := Aside0.mk (below_over hb HB.out); clear HB hb)
        go_ret
        refine ⟨_, rfl, ⟨fun _ => List.any_eq_true.2 ⟨rdR xs k, ?_, hp'.out⟩, fun _ => by omega⟩, HB1.out⟩
        unfold rdR
        rw [List.getD_eq_getElem?_getD, List.getElem?_eq_getElem hlt]
        exact List.getElem_mem _
    · go_wp2
      go_ret
      refine ⟨_, rfl, ⟨fun h => absurd h (by omega), fun h => ?_⟩, HB.out⟩
      obtain ⟨r, hm, hp⟩ := List.any_eq_true.1 h
      obtain ⟨j, hj, rfl⟩ := List.getElem_of_mem hm
      have := hno.out j (by omega)
      unfold rdR at this
      rw [List.getD_eq_getElem?_getD, List.getElem?_eq_getElem hj] at this
      rw [show (some xs[j]).getD ⟨0, 0⟩ = xs[j] from rfl] at this
      rw [this] at hp
      cases hp
theorem contains_wrong (A : Option Addr) (c : Nat) (xs : List Rw) (w : World) (hr : RowsAt w A c xs) (hl : xs.length ≤ 100000) :
    Calls Try.prog 59 #[.slice A xs.length c, .func (.func 57) #[] #[]] w fun e w' => e = .returned (.bool (xs.any fun r => !mayB r)) ∧ Below w.heap.size w w' := by
  go_enter Try.func59, Try.ntmps59
  go_wp2_with (go_at_call 100; refine (index_wrong A c xs _ hr hl).mono ?_; rintro e w1 ⟨i, rfl, hi, hb⟩; replace hi := Aside0.mk hi)
  go_ret
  refine ⟨?_, hb⟩
  refine congrArg (fun b => Ending.returned (Value.bool b)) ?_
  rw [Bool.eq_iff_iff]
  have := hi.out
  simp only [decide_eq_true_eq] at *
  exact this
end Go.Proofs.Ytbpmjjbccaanfaa.Lp
