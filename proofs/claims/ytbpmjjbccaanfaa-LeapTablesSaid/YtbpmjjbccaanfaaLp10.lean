import Derived.Test.YtbpmjjbccaanfaaLp9
import Derived.Test.YtbpmjjbccaanfaaLp4
namespace Go.Proofs.Ytbpmjjbccaanfaa.Lp
open Go.RowKit Go.Proofs.YtbpmjjbccaanfaaW.PrintWords Go.Proofs.YtbpmjjbccaanfaaW.PrintLast Go.Proofs.YtbpmjjbccaanfaaW.PrintMore Go.Proofs.Ytbpmjjbccaanfaa.Dy Go.Proofs.Ytbpmjjbccaanfaa.Rg
set_option linter.unusedVariables false
set_option linter.unusedSimpArgs false
theorem two_new : newErr two 5 9 = 0 := by decide +kernel
theorem two_own (W : World) (base : Nat) (hb : base ≤ W.heap.size) : OwnsR 64 (W.alloc (.cells #[.int .i64 730, .int .i64 10, .int .i64 912, .int .i64 11] 64)) base (.slice (some ⟨W.heap.size, 0, none⟩) 2 2) two :=
  ⟨fun _ _ => trivial, OwnRow.lit W base (Reps.snoc (Reps.snoc (Reps.none _ _) (kRw_mkM _ _ _ ⟨730, 10⟩) rfl) (kRw_mkM _ _ _ ⟨912, 11⟩) rfl) hb (by decide)⟩
theorem two_at (W : World) : RowsAt (W.alloc (.cells #[.int .i64 730, .int .i64 10, .int .i64 912, .int .i64 11] 64)) (some ⟨W.heap.size, 0, none⟩) 2 two := by
  obtain ⟨A, c, e, h⟩ := own_rows (two_own W 0 (Nat.zero_le _))
  cases e
  exact h
set_option maxHeartbeats 2000000 in
theorem alive_ (w : World) : Calls Try.prog 15 #[] w fun en w' => en = .returned (.bool true) ∧ Below w.heap.size w w' := by
  go_enter Try.func15, Try.ntmps15
  go_wp2_with (first
    | (go_at_call 16; refine (new_ok _ 2 two 5 9 _ (two_at w) (by decide) two_new).mono ?_; rintro en w1 ⟨B, v, rfl, hB, ho, hle, hb⟩; obtain ⟨A1, c1, rfl, hr⟩ := own_rows ho; have h := Aside0.mk (TabAt.mk hB hr); clear hB ho hr; have hb1 := Aside0.mk (below_over hb (below_alloc (Below.refl _ _) _)))
    | (go_at_call 54; refine (length_ B A1 c1 5 9 _ h.out).mono ?_; rintro en w2 ⟨rfl, hb2⟩; have h3 := Aside0.mk (h.out.below hb2); have hb3 := Aside0.mk (below_over hb2 hb1.out))
    | (go_at_call 21; refine (tlen B A1 c1 two 5 9 _ h3.out).mono ?_; rintro en w' ⟨rfl, rfl⟩))
  go_ret
  exact ⟨rfl, hb3.out⟩
end Go.Proofs.Ytbpmjjbccaanfaa.Lp
