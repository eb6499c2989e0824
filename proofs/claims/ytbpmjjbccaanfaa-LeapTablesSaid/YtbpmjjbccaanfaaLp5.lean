import Derived.Test.YtbpmjjbccaanfaaLp4
namespace Go.Proofs.Ytbpmjjbccaanfaa.Lp
open Go.RowKit Go.Proofs.YtbpmjjbccaanfaaW.PrintWords Go.Proofs.YtbpmjjbccaanfaaW.PrintLast Go.Proofs.YtbpmjjbccaanfaaW.PrintMore Go.Proofs.Ytbpmjjbccaanfaa.Dy
set_option linter.unusedVariables false
set_option linter.unusedSimpArgs false
theorem own_rows {e : Nat} {W : World} {base : Nat} {v : Value} {xs : List Rw} (h : OwnsR e W base v xs) : ∃ A c, v = .slice A xs.length c ∧ RowsAt W A c xs := by
  obtain ⟨A, c, rfl, hl, hC⟩ := Kd.R_reads h
  obtain ⟨inner, hown⟩ := Kd.R_own h
  refine ⟨A, c, rfl, hC, hl, ?_, ?_⟩
  · rcases hown.2 with ⟨h1, _⟩ | ⟨g, cap, cur, h1, h2, h3, h4, h5, _⟩
    · simp only [Value.slice.injEq] at h1; omega
    · simp only [Value.slice.injEq] at h1
      rw [h1.2.2]; simpa [maxLen] using h5
  · rintro rfl
    rcases hown.2 with ⟨h1, h2⟩ | ⟨g, cap, cur, h1, _⟩
    · simp only [Value.slice.injEq] at h1
      exact ⟨List.length_eq_zero_iff.1 h2, h1.2.2⟩
    · simp only [Value.slice.injEq] at h1
      exact absurd h1.1 (by simp)
/-- a table in memory -/
structure TabAt (W : World) (B : Nat) (A : Option Addr) (c : Nat) (xs : List Rw) (u e : Int) : Prop where
  blk : W.heap[B]? = some (.cells #[.slice A xs.length c, .int .i64 u, .int .i64 e] 124 (0, 0))
  rows : RowsAt W A c xs
theorem TabAt.below {W W1 : World} {B : Nat} {A : Option Addr} {c : Nat} {xs : List Rw} {u e : Int} (h : TabAt W B A c xs u e) (hb : Below W.heap.size W W1) : TabAt W1 B A c xs u e := ⟨blk_below h.blk hb, h.rows.below hb⟩
theorem TabAt.cells {W : World} {B : Nat} {A : Option Addr} {c : Nat} {xs : List Rw} {u e : Int} (h : TabAt W B A c xs u e) : W.cell? ⟨B, 0, none⟩ = some (.slice A xs.length c) ∧ W.cell? ⟨B, 1, none⟩ = some (.int .i64 u) ∧ W.cell? ⟨B, 2, none⟩ = some (.int .i64 e) := ⟨blk_cell h.blk 0, blk_cell h.blk 1, blk_cell h.blk 2⟩
theorem tlist (B : Nat) (A : Option Addr) (c : Nat) (xs : List Rw) (u e : Int) (w : World) (h : TabAt w B A c xs u e) : Calls Try.prog 69 #[.pointer (some ⟨B, 0, none⟩)] w fun en w' => en = .returned (.slice A xs.length c) ∧ w = w' := by
  obtain ⟨h0, h1, h2⟩ := h.cells
  clear h
  go_enter Try.func69, Try.ntmps69
  go_wp2
  go_ret
  exact ⟨rfl, rfl⟩
theorem tlen (B : Nat) (A : Option Addr) (c : Nat) (xs : List Rw) (u e : Int) (w : World) (h : TabAt w B A c xs u e) : Calls Try.prog 21 #[.pointer (some ⟨B, 0, none⟩)] w fun en w' => en = .returned (.int .i64 xs.length) ∧ w = w' := by
  go_enter Try.func21, Try.ntmps21
  go_wp2_with (go_at_call 69; refine (tlist B A c xs u e _ h).mono ?_; rintro en w' ⟨rfl, rfl⟩)
  go_ret
  exact ⟨rfl, rfl⟩
theorem trows (B : Nat) (A : Option Addr) (c : Nat) (xs : List Rw) (u e : Int) (w : World) (h : TabAt w B A c xs u e) (hl : xs.length ≤ 100000) : Calls Try.prog 22 #[.pointer (some ⟨B, 0, none⟩)] w fun en w' => ∃ v, en = .returned v ∧ OwnsR 64 w' w.heap.size v xs ∧ Below w.heap.size w w' := by
  go_enter Try.func22, Try.ntmps22
  go_wp2_with (first
    | (go_at_call 69; refine (tlist B A c xs u e _ h).mono ?_; rintro en w' ⟨rfl, rfl⟩)
    | (go_at_call 62; refine (rclone A c xs _ h.rows hl).mono ?_; rintro en w4 ⟨v, rfl, ho, hb⟩))
  go_ret
  exact ⟨_, rfl, ho, hb⟩
theorem tupd (B : Nat) (A : Option Addr) (c : Nat) (xs : List Rw) (u e : Int) (w : World) (h : TabAt w B A c xs u e) : Calls Try.prog 67 #[.pointer (some ⟨B, 0, none⟩)] w fun en w' => en = .returned (.int .i64 u) ∧ w = w' := by
  obtain ⟨h0, h1, h2⟩ := h.cells
  clear h
  go_enter Try.func67, Try.ntmps67
  go_wp2
  go_ret
  exact ⟨rfl, rfl⟩
theorem texp (B : Nat) (A : Option Addr) (c : Nat) (xs : List Rw) (u e : Int) (w : World) (h : TabAt w B A c xs u e) : Calls Try.prog 68 #[.pointer (some ⟨B, 0, none⟩)] w fun en w' => en = .returned (.int .i64 e) ∧ w = w' := by
  obtain ⟨h0, h1, h2⟩ := h.cells
  clear h
  go_enter Try.func68, Try.ntmps68
  go_wp2
  go_ret
  exact ⟨rfl, rfl⟩
set_option maxHeartbeats 2000000 in
theorem trow_no (B : Nat) (A : Option Addr) (c : Nat) (xs : List Rw) (u e i : Int) (w : World) (h : TabAt w B A c xs u e) (hi : i < 0 ∨ (xs.length : Int) ≤ i) : Calls Try.prog 23 #[.pointer (some ⟨B, 0, none⟩), .int .i64 i] w fun en w' => en = .returned (.tuple #[.agg #[.int .i64 0, .int .i64 0], .bool false]) ∧ Below w.heap.size w w' := by
  have hb : TabAt (w.alloc (.cells #[.int .i64 0, .int .i64 0] 64)) B A c xs u e := h.below (below_alloc (Below.refl _ _) _)
  by_cases h0 : i < 0
  · go_enter Try.func23, Try.ntmps23
    go_wp2_with (go_at_call 21; refine (tlen B A c xs u e _ hb).mono ?_; rintro en w' ⟨rfl, rfl⟩)
    refine bodyPost_ret (results_ct rfl _ _ w.heap.size 64 _ _ _ rfl (blk_new w _) Try.underlying64 rfl (by kernel_rfl)) rfl ?_
    exact ⟨rfl, below_alloc (Below.refl _ _) _⟩
  · have hi' : (xs.length : Int) ≤ i := by omega
    clear hi
    go_enter Try.func23, Try.ntmps23
    go_wp2_with (go_at_call 21; refine (tlen B A c xs u e _ hb).mono ?_; rintro en w' ⟨rfl, rfl⟩)
    refine bodyPost_ret (results_ct rfl _ _ w.heap.size 64 _ _ _ rfl (blk_new w _) Try.underlying64 rfl (by kernel_rfl)) rfl ?_
    exact ⟨rfl, below_alloc (Below.refl _ _) _⟩
set_option maxHeartbeats 2000000 in
theorem trow_yes (B : Nat) (A : Option Addr) (c : Nat) (xs : List Rw) (u e : Int) (k : Nat) (w : World) (h : TabAt w B A c xs u e) (hk : k < xs.length) (hl : xs.length ≤ 100000) : Calls Try.prog 23 #[.pointer (some ⟨B, 0, none⟩), .int .i64 k] w fun en w' => en = .returned (.tuple #[.agg #[.int .i64 (rdR xs k).d, .int .i64 (rdR xs k).o], .bool true]) ∧ Below w.heap.size w w' := by
  have hb : TabAt (w.alloc (.cells #[.int .i64 0, .int .i64 0] 64)) B A c xs u e := h.below (below_alloc (Below.refl _ _) _)
  obtain ⟨h0, h1, h2⟩ := hb.cells
  obtain ⟨ad, rfl, c0, c1⟩ := at_Rw hb.rows.reads k hk
  clear h
  replace hb := Aside0.mk hb
  go_enter Try.func23, Try.ntmps23
  go_wp2_with (go_at_call 21; refine (tlen B _ c xs u e _ hb.out).mono ?_; rintro en w' ⟨rfl, rfl⟩)
  refine bodyPost_ret (results_ct rfl _ _ w.heap.size 64 _ _ _ rfl (blk_new w _) Try.underlying64 rfl (by kernel_rfl)) rfl ?_
  exact ⟨rfl, below_alloc (Below.refl _ _) _⟩
end Go.Proofs.Ytbpmjjbccaanfaa.Lp
