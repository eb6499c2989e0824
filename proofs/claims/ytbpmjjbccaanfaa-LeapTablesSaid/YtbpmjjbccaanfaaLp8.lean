import Derived.Test.YtbpmjjbccaanfaaLp7
import Derived.Deep.RegionHeld3
namespace Go.Proofs.Ytbpmjjbccaanfaa.Lp
open Go.RowKit Go.Proofs.YtbpmjjbccaanfaaW.PrintWords Go.Proofs.YtbpmjjbccaanfaaW.PrintLast Go.Proofs.YtbpmjjbccaanfaaW.PrintMore Go.Proofs.Ytbpmjjbccaanfaa.Dy Go.Proofs.Ytbpmjjbccaanfaa.Rg
set_option linter.unusedVariables false
set_option linter.unusedSimpArgs false
/-- under way: two boxes, their rows -/
structure SAt (w : World) (A0 : Option Addr) (c0 : Nat) (A1 : Option Addr) (c1 : Nat) (xs : List Rw) (u e : Int) (W : World) : Prop where
  b0 : W.heap[w.heap.size]? = some (.cells #[.slice A0 xs.length c0, .int .i64 u, .int .i64 e] 57 (0, 0))
  b1 : W.heap[w.heap.size + 1]? = some (.cells #[.slice A1 xs.length c1, .int .i64 u, .int .i64 e] 57 (0, 0))
  r0 : RowsAt W A0 c0 xs
  r1 : RowsAt W A1 c1 xs
  bel : Below w.heap.size w W
theorem SAt.call {w W W1 : World} {A0 : Option Addr} {c0 : Nat} {A1 : Option Addr} {c1 : Nat} {xs : List Rw} {u e : Int} (h : SAt w A0 c0 A1 c1 xs u e W) (hb : Below W.heap.size W W1) : SAt w A0 c0 A1 c1 xs u e W1 := ⟨blk_below h.b0 hb, blk_below h.b1 hb, h.r0.below hb, h.r1.below hb, below_over hb h.bel⟩
set_option maxRecDepth 100000 in
set_option maxHeartbeats 4000000 in
theorem same_ (A0 : Option Addr) (c0 : Nat) (A1 : Option Addr) (c1 : Nat) (xs : List Rw) (u e : Int) (w : World) (h0 : RowsAt w A0 c0 xs) (h1 : RowsAt w A1 c1 xs) (hl : xs.length ≤ 100000) :
    Calls Try.prog 66 #[.agg #[.slice A0 xs.length c0, .int .i64 u, .int .i64 e], .agg #[.slice A1 xs.length c1, .int .i64 u, .int .i64 e]] w fun en w' => en = .returned (.bool true) ∧ Below w.heap.size w w' := by
  have hS : SAt w A0 c0 A1 c1 xs u e ((w.alloc (.cells #[.slice A0 xs.length c0, .int .i64 u, .int .i64 e] 57)).alloc (.cells #[.slice A1 xs.length c1, .int .i64 u, .int .i64 e] 57)) :=
    ⟨blk_alloc (blk_new w _) _, by have := blk_new (w.alloc (.cells #[.slice A0 xs.length c0, .int .i64 u, .int .i64 e] 57)) (.cells #[.slice A1 xs.length c1, .int .i64 u, .int .i64 e] 57); rwa [World.size_alloc] at this, h0.below (below_alloc (below_alloc (Below.refl _ _) _) _), h1.below (below_alloc (below_alloc (Below.refl _ _) _) _), below_alloc (below_alloc (Below.refl _ _) _) _⟩
  replace hS := Aside0.mk hS
  clear h0 h1
  go_enter Try.func66, Try.ntmps66
  go_wp2
  go_loopw [5] (fun t wr => ∃ k : Nat, k ≤ xs.length ∧ t = .int .i64 k ∧ Aside0 (SAt w A0 c0 A1 c1 xs u e wr)) (fun t _ => xs.length - (intOf t).toNat)
  case atStart => exact ⟨0, Nat.zero_le _, rfl, hS⟩
  case round =>
    clear hS
    obtain ⟨k, hk, rfl, HS⟩ := hrel
    have f0 := blk_cell HS.out.b0 0
    have f1 := blk_cell HS.out.b1 0
    have g0 : wr.cell? ⟨w.heap.size, 0, none⟩ = some (.slice A0 xs.length c0) := f0
    have g1 : wr.cell? ⟨w.heap.size + 1, 0, none⟩ = some (.slice A1 xs.length c1) := f1
    clear f0 f1
    by_cases hlt : k < xs.length
    · obtain ⟨a0, rfl, p0, p1⟩ := at_Rw HS.out.r0.reads k hlt
      obtain ⟨a1, rfl, q0, q1⟩ := at_Rw HS.out.r1.reads k hlt
      have kl : (k : Int) < xs.length := by omega
      have ki : (0 : Int) ≤ (k : Int) := by omega
      go_wp2
      go_region_held3 (fun w' => w'.cell? ⟨w.heap.size, 0, none⟩ = some (.slice (some a0) xs.length c0) ∧ w'.cell? ⟨w.heap.size + 1, 0, none⟩ = some (.slice (some a1) xs.length c1) ∧ w'.cell? (a0.add (k * 2)) = some (.int .i64 (rdR xs k).d) ∧ w'.cell? ⟨(a0.add (k * 2)).block, (a0.add (k * 2)).off + 1, none⟩ = some (.int .i64 (rdR xs k).o) ∧ w'.cell? (a1.add (k * 2)) = some (.int .i64 (rdR xs k).d) ∧ w'.cell? ⟨(a1.add (k * 2)).block, (a1.add (k * 2)).off + 1, none⟩ = some (.int .i64 (rdR xs k).o))
        (exact ⟨g0, g1, p0, p1, q0, q1⟩) (fail)
      go_wp2
      go_roundw
      case rel => exact ⟨k + 1, by omega, by go_num, ⟨HS.out.call (below_drew (Below.refl _ _))⟩⟩
      case measure => simp [intOf]; omega
    · go_wp2
      go_ret
      exact ⟨rfl, HS.out.bel⟩
/-- under way -/
structure IsAt (w : World) (B : Nat) (A : Option Addr) (c : Nat) (A1 : Option Addr) (c1 : Nat) (xs : List Rw) (u e : Int) (W : World) : Prop where
  t : TabAt W B A c xs u e
  box : W.heap[w.heap.size]? = some (.cells #[.slice A1 xs.length c1, .int .i64 u, .int .i64 e] 57 (0, 0))
  r1 : RowsAt W A1 c1 xs
  bel : Below w.heap.size w W
theorem IsAt.call {w W W1 : World} {B : Nat} {A : Option Addr} {c : Nat} {A1 : Option Addr} {c1 : Nat} {xs : List Rw} {u e : Int} (h : IsAt w B A c A1 c1 xs u e W) (hb : Below W.heap.size W W1) : IsAt w B A c A1 c1 xs u e W1 := ⟨h.t.below hb, blk_below h.box hb, h.r1.below hb, below_over hb h.bel⟩
set_option maxRecDepth 100000 in
set_option maxHeartbeats 4000000 in
theorem is_ (B : Nat) (A : Option Addr) (c : Nat) (A1 : Option Addr) (c1 : Nat) (xs : List Rw) (u e : Int) (w : World) (ht : TabAt w B A c xs u e) (h1 : RowsAt w A1 c1 xs) (hl : xs.length ≤ 100000) :
    Calls Try.prog 20 #[.pointer (some ⟨B, 0, none⟩), .agg #[.slice A1 xs.length c1, .int .i64 u, .int .i64 e]] w fun en w' => en = .returned (.bool true) ∧ Below w.heap.size w w' := by
  have hI : IsAt w B A c A1 c1 xs u e (w.alloc (.cells #[.slice A1 xs.length c1, .int .i64 u, .int .i64 e] 57)) := ⟨ht.below (below_alloc (Below.refl _ _) _), blk_new w _, h1.below (below_alloc (Below.refl _ _) _), below_alloc (Below.refl _ _) _⟩
  clear ht h1
  go_enter Try.func20, Try.ntmps20
  go_wp2
  generalize w.alloc (.cells #[.slice A1 xs.length c1, .int .i64 u, .int .i64 e] 57) = W0 at hI ⊢
  refine wp_region_held_drew (S := fun W' => IsAt w B A c A1 c1 xs u e W') (by kernel_rfl) (hI.call (below_drew (Below.refl _ _))) (fun hHeld => ?_)
  refine take_pure 0 5 (by rfl) (by rfl) (by rfl) (by kernel_rfl) (by kernel_rfl) (by kernel_rfl) (by exact fun _ _ _ h => h) (v := ?_) (fun W => ?_) hHeld ?_
  rotate_left
  · go_simp
    try with_reducible rfl
  try simp only [Act.put, List.setIfInBounds_toArray, List.set_cons_zero, List.set_cons_succ]
  refine take_pure 1 6 (by rfl) (by rfl) (by rfl) (by kernel_rfl) (by kernel_rfl) (by kernel_rfl) (by exact fun _ _ _ h => h) (v := ?_) (fun W => ?_) hHeld ?_
  rotate_left
  · go_simp
    try with_reducible rfl
  try simp only [Act.put, List.setIfInBounds_toArray, List.set_cons_zero, List.set_cons_succ]
  refine take_pure 2 7 (by rfl) (by rfl) (by rfl) (by kernel_rfl) (by kernel_rfl) (by kernel_rfl) (by exact fun _ _ _ h => h) (v := ?_) (fun W => ?_) hHeld ?_
  rotate_left
  · go_simp
    try with_reducible rfl
  try simp only [Act.put, List.setIfInBounds_toArray, List.set_cons_zero, List.set_cons_succ]
  refine take_pure 3 8 (by rfl) (by rfl) (by rfl) (by kernel_rfl) (by kernel_rfl) (by kernel_rfl) (by exact fun _ _ _ h => h) (v := ?_) (fun W => ?_) hHeld ?_
  rotate_left
  · go_simp
    try with_reducible rfl
  try simp only [Act.put, List.setIfInBounds_toArray, List.set_cons_zero, List.set_cons_succ]
  refine take_pure 5 10 (by rfl) (by rfl) (by rfl) (by kernel_rfl) (by kernel_rfl) (by kernel_rfl) (by exact fun _ _ _ h => h) (v := ?_) (fun W => ?_) hHeld ?_
  rotate_left
  · go_simp
    try with_reducible rfl
  try simp only [Act.put, List.setIfInBounds_toArray, List.set_cons_zero, List.set_cons_succ]
  refine take_pure 7 12 (by rfl) (by rfl) (by rfl) (by kernel_rfl) (by kernel_rfl) (by kernel_rfl) (by exact fun _ _ _ h => h) (v := ?_) (fun W => ?_) hHeld ?_
  rotate_left
  · go_simp
    try with_reducible rfl
  try simp only [Act.put, List.setIfInBounds_toArray, List.set_cons_zero, List.set_cons_succ]
  refine take_held 11 16 (by rfl) (by rfl) (by rfl) (by kernel_rfl) (by kernel_rfl) (by kernel_rfl) (by exact fun _ _ _ h => h) (v := ?_) (fun W hSw => ?_) hHeld ?_
  rotate_left
  · have f0 : W.cell? ⟨w.heap.size, 0, none⟩ = some (.slice A1 xs.length c1) := blk_cell hSw.box 0
    have f1 : W.cell? ⟨w.heap.size, 1, none⟩ = some (.int .i64 u) := blk_cell hSw.box 1
    have f2 : W.cell? ⟨w.heap.size, 2, none⟩ = some (.int .i64 e) := blk_cell hSw.box 2
    clear hSw
    go_simp
    try with_reducible rfl
  try simp only [Act.put, List.setIfInBounds_toArray, List.set_cons_zero, List.set_cons_succ]
  refine wpAnyH_ready (rs := [4]) (by kernel_rfl) (by simp) ?_
  refine AllReadyH.cons rfl (fun K hK => ?_) AllReadyH.nil
  go_simp
  go_at_call 22
  refine (trows B A c xs u e _ hHeld.t hl).mono ?_
  rintro en w1 ⟨v, rfl, ho, hb⟩
  obtain ⟨A2, c2, rfl, hr2⟩ := own_rows ho
  clear ho
  go_simp
  refine hK.out _ _ (hHeld.call hb) (fun hHeld2 => ?_)
  clear hK K hHeld
  try clear hb
  have hHeld := hHeld2
  clear hHeld2
  try simp only [Act.put, List.setIfInBounds_toArray, List.set_cons_zero, List.set_cons_succ]
  refine wpAnyH_ready (rs := [6]) (by kernel_rfl) (by simp) ?_
  refine AllReadyH.cons rfl (fun K hK => ?_) AllReadyH.nil
  go_simp
  go_at_call 67
  refine (tupd B A c xs u e _ hHeld.t).mono ?_
  rintro en w2 ⟨rfl, rfl⟩
  go_simp
  refine hK.out _ _ (hHeld) (fun hHeld2 => ?_)
  clear hK K hHeld
  try clear hb
  have hHeld := hHeld2
  clear hHeld2
  try simp only [Act.put, List.setIfInBounds_toArray, List.set_cons_zero, List.set_cons_succ]
  refine wpAnyH_ready (rs := [8]) (by kernel_rfl) (by simp) ?_
  refine AllReadyH.cons rfl (fun K hK => ?_) AllReadyH.nil
  go_simp
  go_at_call 68
  refine (texp B A c xs u e _ hHeld.t).mono ?_
  rintro en w3 ⟨rfl, rfl⟩
  go_simp
  refine hK.out _ _ (hHeld) (fun hHeld2 => ?_)
  clear hK K hHeld
  try clear hb
  have hHeld := hHeld2
  clear hHeld2
  try simp only [Act.put, List.setIfInBounds_toArray, List.set_cons_zero, List.set_cons_succ]
  refine take_pure 9 14 (by rfl) (by rfl) (by rfl) (by kernel_rfl) (by kernel_rfl) (by kernel_rfl) (by exact fun _ _ _ h => h) (v := ?_) (fun W => ?_) hHeld ?_
  rotate_left
  · go_simp
    try with_reducible rfl
  try simp only [Act.put, List.setIfInBounds_toArray, List.set_cons_zero, List.set_cons_succ]
  refine wpAnyH_ready (rs := [10]) (by kernel_rfl) (by simp) ?_
  refine AllReadyH.cons rfl (fun K hK => ?_) AllReadyH.nil
  go_simp
  go_at_call 17
  refine (doc_ A2 c2 xs u e _ hr2 hl).mono ?_
  rintro en w4 ⟨v2, rfl, ho, hb⟩
  obtain ⟨A3, c3, rfl, hr3⟩ := own_rows ho
  clear ho hr2
  go_simp
  refine hK.out _ _ (hHeld.call hb) (fun hHeld2 => ?_)
  clear hK K hHeld
  try clear hb
  have hHeld := hHeld2
  clear hHeld2
  try simp only [Act.put, List.setIfInBounds_toArray, List.set_cons_zero, List.set_cons_succ]
  refine wpAnyH_ready (rs := [12]) (by kernel_rfl) (by simp) ?_
  refine AllReadyH.cons rfl (fun K hK => ?_) AllReadyH.nil
  go_simp
  go_at_call 66
  refine (same_ A3 c3 A1 c1 xs u e _ hr3 hHeld.r1 hl).mono ?_
  rintro en w5 ⟨rfl, hb⟩
  go_simp
  refine hK.out _ _ (hHeld.call hb) (fun hHeld2 => ?_)
  clear hK K hHeld
  try clear hb
  have hHeld := hHeld2
  clear hHeld2
  try simp only [Act.put, List.setIfInBounds_toArray, List.set_cons_zero, List.set_cons_succ]
  refine take_pure 13 18 (by rfl) (by rfl) (by rfl) (by kernel_rfl) (by kernel_rfl) (by kernel_rfl) (by exact fun _ _ _ h => h) (v := ?_) (fun W => ?_) hHeld ?_
  rotate_left
  · go_simp
    try with_reducible rfl
  try simp only [Act.put, List.setIfInBounds_toArray, List.set_cons_zero, List.set_cons_succ]
  refine take_pure 14 4 (by rfl) (by rfl) (by rfl) (by kernel_rfl) (by kernel_rfl) (by kernel_rfl) (by exact fun _ _ _ h => h) (v := ?_) (fun W => ?_) hHeld ?_
  rotate_left
  · go_simp
    try with_reducible rfl
  try simp only [Act.put, List.setIfInBounds_toArray, List.set_cons_zero, List.set_cons_succ]
  refine wpAnyH_done (by kernel_rfl) ?_ _
  go_wp2
  go_ret
  exact ⟨rfl, hHeld.bel⟩
end Go.Proofs.Ytbpmjjbccaanfaa.Lp
