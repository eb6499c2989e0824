import Derived.Test.YtbpmjjbccaanfaaLp5
import Derived.Test.YtbpmjjbccaanfaaRg
import Derived.Deep.QuietTactic
import Derived.BigQuiet
namespace Go.Proofs.Ytbpmjjbccaanfaa.Lp
open Go.RowKit Go.Proofs.YtbpmjjbccaanfaaW.PrintWords Go.Proofs.YtbpmjjbccaanfaaW.PrintLast Go.Proofs.YtbpmjjbccaanfaaW.PrintMore Go.Proofs.Ytbpmjjbccaanfaa.Dy Go.Proofs.Ytbpmjjbccaanfaa.Rg
set_option linter.unusedVariables false
set_option linter.unusedSimpArgs false
def two : List Rw := [⟨730, 10⟩, ⟨912, 11⟩]
theorem cmp_lt (r : Rw) (n : Int) (w : World) (h : r.d < n) : Calls Try.prog 174 #[.agg #[.int .i64 r.d, .int .i64 r.o], .int .i64 n] w fun e w' => e = .returned (.int .i64 (-1)) ∧ Below w.heap.size w w' := by
  go_enter Try.func174, Try.ntmps174
  go_wp2
  go_ret
  exact ⟨rfl, below_alloc (Below.refl _ _) _⟩
theorem cmp_gt (r : Rw) (n : Int) (w : World) (h : n < r.d) : Calls Try.prog 174 #[.agg #[.int .i64 r.d, .int .i64 r.o], .int .i64 n] w fun e w' => e = .returned (.int .i64 1) ∧ Below w.heap.size w w' := by
  go_enter Try.func174, Try.ntmps174
  go_wp2
  go_ret
  exact ⟨rfl, below_alloc (Below.refl _ _) _⟩
set_option maxHeartbeats 2000000 in
theorem search_ (A : Option Addr) (c : Nat) (w : World) (hr : RowsAt w A c two) :
    Calls Try.prog 173 #[.slice A 2 c, .int .i64 911, .func (.func 174) #[] #[]] w fun e w' => e = .returned (.tuple #[.int .i64 1, .bool false]) ∧ Below w.heap.size w w' := by
  replace hr := Aside0.mk hr
  go_enter Try.func173, Try.ntmps173
  go_wp2
  go_loopw [9, 10] (fun t1 t2 wr => (t1 = .int .i64 0 ∧ t2 = .int .i64 2 ∨ t1 = .int .i64 0 ∧ t2 = .int .i64 1 ∨ t1 = .int .i64 1 ∧ t2 = .int .i64 1) ∧ Aside0 (Below w.heap.size w wr)) (fun t1 t2 _ => (intOf t2).toNat - (intOf t1).toNat)
  case atStart => exact ⟨.inl ⟨rfl, rfl⟩, ⟨Below.refl _ _⟩⟩
  case round =>
    obtain ⟨hq, HB⟩ := hrel
    rcases hq with ⟨rfl, rfl⟩ | ⟨rfl, rfl⟩ | ⟨rfl, rfl⟩
    · obtain ⟨ad, rfl, d0, d1⟩ := at_Rw (hr.out.below HB.out).reads 1 (by decide)
      have c0 : wr.cell? ⟨ad.block, ad.off + 2, none⟩ = some (.int .i64 912) := d0
      have c1 : wr.cell? ⟨ad.block, ad.off + 2 + 1, none⟩ = some (.int .i64 11) := d1
      clear d0 d1
      go_wp2_with (go_at_call 174; refine (cmp_gt ⟨912, 11⟩ 911 _ (by decide)).mono ?_; rintro e w1 ⟨rfl, hb⟩; have HB1 := Aside0.mk (below_over hb HB.out); clear HB hb)
      go_roundw
      case rel => exact ⟨.inr (.inl ⟨rfl, rfl⟩), HB1⟩
      case measure => simp [intOf]
    · obtain ⟨ad, rfl, d0, d1⟩ := at_Rw (hr.out.below HB.out).reads 0 (by decide)
      have c0 : wr.cell? ad = some (.int .i64 730) := d0
      have c1 : wr.cell? ⟨ad.block, ad.off + 1, none⟩ = some (.int .i64 10) := d1
      clear d0 d1
      go_wp2_with (go_at_call 174; refine (cmp_lt ⟨730, 10⟩ 911 _ (by decide)).mono ?_; rintro e w1 ⟨rfl, hb⟩; have HB1 := Aside0.mk (below_over hb HB.out); clear HB hb)
      go_roundw
      case rel => exact ⟨.inr (.inr ⟨rfl, rfl⟩), HB1⟩
      case measure => simp [intOf]
    · obtain ⟨ad, rfl, d0, d1⟩ := at_Rw (hr.out.below HB.out).reads 1 (by decide)
      have c0 : wr.cell? ⟨ad.block, ad.off + 2, none⟩ = some (.int .i64 912) := d0
      have c1 : wr.cell? ⟨ad.block, ad.off + 2 + 1, none⟩ = some (.int .i64 11) := d1
      clear d0 d1
      go_wp2_with (go_at_call 174; refine (cmp_gt ⟨912, 11⟩ 911 _ (by decide)).mono ?_; rintro e w1 ⟨rfl, hb⟩; have HB1 := Aside0.mk (below_over hb HB.out); clear HB hb)
      refine bodyPost_ret (results_tmp2 rfl _ _ _) rfl ?_
      exact ⟨rfl, HB1.out⟩
theorem behind_ (B : Nat) (A : Option Addr) (c : Nat) (u e : Int) (w : World) (h : TabAt w B A c two u e) : Calls Try.prog 139 #[.pointer (some ⟨B, 0, none⟩), .int .i64 911] w fun en w' => en = .returned (.int .i64 1) ∧ Below w.heap.size w w' := by
  replace h := Aside0.mk h
  go_enter Try.func139, Try.ntmps139
  go_wp2_with (first
    | (go_at_call 69; refine (tlist B A c two u e _ h.out).mono ?_; rintro en w' ⟨rfl, rfl⟩)
    | (go_at_call 173; refine (search_ A c _ h.out.rows).mono ?_; rintro en w1 ⟨rfl, hb⟩))
  go_ret
  exact ⟨rfl, hb⟩
/-- under way: change -/
structure CHg (w : World) (b B : Nat) (ad : Addr) (c : Nat) (W : World) : Prop where
  k0 : W.cell? ⟨b, 1, none⟩ = some (.int .i64 10)
  k1 : W.cell? ⟨B, 0, none⟩ = some (.slice (some ad) 2 c)
  k2 : W.cell? ⟨ad.block, ad.off + 2 + 1, none⟩ = some (.int .i64 11)
  bel : Below w.heap.size w W
theorem CHg.drew {w : World} {b B : Nat} {ad : Addr} {c : Nat} {W : World} (h : CHg w b B ad c W) : CHg w b B ad c W.drew := ⟨h.k0, h.k1, h.k2, below_drew h.bel⟩
theorem trow0 (B : Nat) (A : Option Addr) (c : Nat) (u e : Int) (w : World) (h : TabAt w B A c two u e) : Calls Try.prog 23 #[.pointer (some ⟨B, 0, none⟩), .int .i64 0] w fun en w' => en = .returned (.tuple #[.agg #[.int .i64 730, .int .i64 10], .bool true]) ∧ Below w.heap.size w w' := trow_yes B A c two u e 0 w h (by decide) (by decide)
theorem trow1 (B : Nat) (A : Option Addr) (c : Nat) (u e : Int) (w : World) (h : TabAt w B A c two u e) : Calls Try.prog 23 #[.pointer (some ⟨B, 0, none⟩), .int .i64 1] w fun en w' => en = .returned (.tuple #[.agg #[.int .i64 912, .int .i64 11], .bool true]) ∧ Below w.heap.size w w' := trow_yes B A c two u e 1 w h (by decide) (by decide)
theorem change_ (B : Nat) (A : Option Addr) (c : Nat) (u e : Int) (w : World) (h : TabAt w B A c two u e) : Calls Try.prog 140 #[.pointer (some ⟨B, 0, none⟩), .int .i64 1] w fun en w' => en = .returned (.int .i64 1) ∧ Below w.heap.size w w' := by
  replace h := Aside0.mk h
  go_enter Try.func140, Try.ntmps140
  go_wp2_with (go_at_call 23; refine (trow0 B A c u e _ h.out).mono ?_; rintro en w1 ⟨rfl, hb⟩; have hb := Aside0.mk hb; replace h := Aside0.mk (h.out.below hb.out))
  have k0 : (w1.alloc (.cells #[.int .i64 730, .int .i64 10] 64)).cell? ⟨w1.heap.size, 1, none⟩ = some (.int .i64 10) := blk_cell (blk_new w1 _) 1
  have h2 := h.out.below (below_alloc (Below.refl _ _) (.cells #[.int .i64 730, .int .i64 10] 64))
  obtain ⟨k1, _, _⟩ := h2.cells
  obtain ⟨ad, rfl, _, d1⟩ := at_Rw h2.rows.reads 1 (by decide)
  have hC : CHg w w1.heap.size B ad c (w1.alloc (.cells #[.int .i64 730, .int .i64 10] 64)) := ⟨k0, k1, d1, below_over (below_alloc (Below.refl _ _) (.cells #[.int .i64 730, .int .i64 10] 64)) hb.out⟩
  clear hb h d1 h2 k0 k1
  generalize w1.alloc (.cells #[.int .i64 730, .int .i64 10] 64) = W at *
  generalize w1.heap.size = b at *
  refine wp_region_held_drew (S := fun W' => CHg w b B ad c W') (by kernel_rfl) (CHg.drew hC) (fun hHeld => ?_)
  refine take_pure 0 16 (by rfl) (by rfl) (by rfl) (by kernel_rfl) (by kernel_rfl) (by kernel_rfl) (by exact fun _ _ _ h => h) (v := ?_) (fun W => ?_) hHeld ?_
  rotate_left
  · go_simp
    try with_reducible rfl
  try simp only [Act.put, List.setIfInBounds_toArray, List.set_cons_zero, List.set_cons_succ]
  refine take_pure 1 17 (by rfl) (by rfl) (by rfl) (by kernel_rfl) (by kernel_rfl) (by kernel_rfl) (by exact fun _ _ _ h => h) (v := ?_) (fun W => ?_) hHeld ?_
  rotate_left
  · go_simp
    try with_reducible rfl
  try simp only [Act.put, List.setIfInBounds_toArray, List.set_cons_zero, List.set_cons_succ]
  refine take_pure 2 18 (by rfl) (by rfl) (by rfl) (by kernel_rfl) (by kernel_rfl) (by kernel_rfl) (by exact fun _ _ _ h => h) (v := ?_) (fun W => ?_) hHeld ?_
  rotate_left
  · go_simp
    try with_reducible rfl
  try simp only [Act.put, List.setIfInBounds_toArray, List.set_cons_zero, List.set_cons_succ]
  refine take_held 3 19 (by rfl) (by rfl) (by rfl) (by kernel_rfl) (by kernel_rfl) (by kernel_rfl) (by exact fun _ _ _ h => h) (v := ?_) (fun W hSw => ?_) hHeld ?_
  rotate_left
  · have f0 := hSw.k0
    have f1 := hSw.k1
    have f2 := hSw.k2
    clear hSw
    go_simp
    try with_reducible rfl
  try simp only [Act.put, List.setIfInBounds_toArray, List.set_cons_zero, List.set_cons_succ]
  refine take_pure 4 20 (by rfl) (by rfl) (by rfl) (by kernel_rfl) (by kernel_rfl) (by kernel_rfl) (by exact fun _ _ _ h => h) (v := ?_) (fun W => ?_) hHeld ?_
  rotate_left
  · go_simp
    try with_reducible rfl
  try simp only [Act.put, List.setIfInBounds_toArray, List.set_cons_zero, List.set_cons_succ]
  refine take_pure 5 21 (by rfl) (by rfl) (by rfl) (by kernel_rfl) (by kernel_rfl) (by kernel_rfl) (by exact fun _ _ _ h => h) (v := ?_) (fun W => ?_) hHeld ?_
  rotate_left
  · go_simp
    try with_reducible rfl
  try simp only [Act.put, List.setIfInBounds_toArray, List.set_cons_zero, List.set_cons_succ]
  refine take_pure 6 22 (by rfl) (by rfl) (by rfl) (by kernel_rfl) (by kernel_rfl) (by kernel_rfl) (by exact fun _ _ _ h => h) (v := ?_) (fun W => ?_) hHeld ?_
  rotate_left
  · go_simp
    try with_reducible rfl
  try simp only [Act.put, List.setIfInBounds_toArray, List.set_cons_zero, List.set_cons_succ]
  refine take_held 7 23 (by rfl) (by rfl) (by rfl) (by kernel_rfl) (by kernel_rfl) (by kernel_rfl) (by exact fun _ _ _ h => h) (v := ?_) (fun W hSw => ?_) hHeld ?_
  rotate_left
  · have f0 := hSw.k0
    have f1 := hSw.k1
    have f2 := hSw.k2
    clear hSw
    go_simp
    try with_reducible rfl
  try simp only [Act.put, List.setIfInBounds_toArray, List.set_cons_zero, List.set_cons_succ]
  refine take_pure 8 24 (by rfl) (by rfl) (by rfl) (by kernel_rfl) (by kernel_rfl) (by kernel_rfl) (by exact fun _ _ _ h => h) (v := ?_) (fun W => ?_) hHeld ?_
  rotate_left
  · go_simp
    try with_reducible rfl
  try simp only [Act.put, List.setIfInBounds_toArray, List.set_cons_zero, List.set_cons_succ]
  refine take_held 9 25 (by rfl) (by rfl) (by rfl) (by kernel_rfl) (by kernel_rfl) (by kernel_rfl) (by exact fun _ _ _ h => h) (v := ?_) (fun W hSw => ?_) hHeld ?_
  rotate_left
  · have f0 := hSw.k0
    have f1 := hSw.k1
    have f2 := hSw.k2
    clear hSw
    go_simp
    try with_reducible rfl
  try simp only [Act.put, List.setIfInBounds_toArray, List.set_cons_zero, List.set_cons_succ]
  refine take_pure 10 26 (by rfl) (by rfl) (by rfl) (by kernel_rfl) (by kernel_rfl) (by kernel_rfl) (by exact fun _ _ _ h => h) (v := ?_) (fun W => ?_) hHeld ?_
  rotate_left
  · go_simp
    try with_reducible rfl
  try simp only [Act.put, List.setIfInBounds_toArray, List.set_cons_zero, List.set_cons_succ]
  refine take_pure 11 4 (by rfl) (by rfl) (by rfl) (by kernel_rfl) (by kernel_rfl) (by kernel_rfl) (by exact fun _ _ _ h => h) (v := ?_) (fun W => ?_) hHeld ?_
  rotate_left
  · go_simp
    try with_reducible rfl
  try simp only [Act.put, List.setIfInBounds_toArray, List.set_cons_zero, List.set_cons_succ]
  refine wpAnyH_done (by kernel_rfl) ?_ _
  go_wp2
  go_ret
  exact ⟨rfl, hHeld.bel⟩
set_option maxHeartbeats 1000000 in
theorem leap_ (B : Nat) (A : Option Addr) (c : Nat) (u e : Int) (w : World) (h : TabAt w B A c two u e) : Calls Try.prog 98 #[.pointer (some ⟨B, 0, none⟩), .int .i64 911] w fun en w' => en = .returned (.int .i64 1) ∧ Below w.heap.size w w' := by
  replace h := Aside0.mk h
  go_enter Try.func98, Try.ntmps98
  go_wp2_with (first
    | (go_at_call 139; refine (behind_ B A c u e w h.out).mono ?_; rintro en w1 ⟨rfl, hb1⟩; have hb1 := Aside0.mk hb1)
    | (go_at_call 23; refine (trow1 B A c u e _ (h.out.below hb1.out)).mono ?_; rintro en w2 ⟨rfl, hb2⟩; have hb2 := Aside0.mk (below_over hb2 hb1.out))
    | (go_at_call 139; refine (behind_ B A c u e _ (h.out.below (below_alloc hb2.out _))).mono ?_; rintro en w3 ⟨rfl, hb3⟩; have hb3 := Aside0.mk (below_over hb3 (below_alloc hb2.out _)))
    | (go_at_call 140; refine (change_ B A c u e _ (h.out.below hb3.out)).mono ?_; rintro en w4 ⟨rfl, hb4⟩; have hb4 := Aside0.mk (below_over hb4 hb3.out)))
  go_ret
  exact ⟨rfl, hb4.out⟩
theorem length_ (B : Nat) (A : Option Addr) (c : Nat) (u e : Int) (w : World) (h : TabAt w B A c two u e) : Calls Try.prog 54 #[.pointer (some ⟨B, 0, none⟩), .int .i64 911] w fun en w' => en = .returned (.int .i64 86401) ∧ Below w.heap.size w w' := by
  replace h := Aside0.mk h
  go_enter Try.func54, Try.ntmps54
  go_wp2_with (go_at_call 98; refine (leap_ B A c u e _ h.out).mono ?_; rintro en w1 ⟨rfl, hb1⟩)
  go_ret
  exact ⟨rfl, hb1⟩
end Go.Proofs.Ytbpmjjbccaanfaa.Lp
