import Derived.Test.YtbpmjjbccaanfaaHd4
import Derived.Test.YtbpmjjbccaanfaaHd5
import Derived.Deep.RegionWith
import Derived.Deep.RegionLaw
namespace Go.Proofs.Ytbpmjjbccaanfaa.Hd
open Go.RowKit Go.Shelf Go.Proofs.YtbpmjjbccaanfaaW.PrintWords Go.Proofs.YtbpmjjbccaanfaaW.PrintLast Go.Proofs.YtbpmjjbccaanfaaW.PrintMore
set_option linter.unusedVariables false
set_option linter.unusedSimpArgs false
set_option maxRecDepth 100000 in
set_option maxHeartbeats 2000000 in
theorem two32 (bl o c : Nat) (g : Nat → Int) (w : World) (hb : bl < w.heap.size) (h8 : 8 ≤ c) (hc : c ≤ 9223372036854775807) (hr : ∀ j, j < 8 → w.cell? ⟨bl, o + j, none⟩ = some (.int .u8 (g j))) (hg : ∀ j, 0 ≤ g j ∧ g j ≤ 255) :
    Calls Try.prog 96 #[.slice (some ⟨bl, o, none⟩) 8 c] w fun e w' => e = .returned (.tuple #[.int .u32 (w4 g 0), .int .u32 (w4 g 1), .nilIface]) ∧ Below w.heap.size w w' := by
  go_enter Try.func96, Try.ntmps96
  go_wp2_with (first | (go_at_call 138; refine (list32 bl o c 8 0 2 g _ hb (by omega) h8 hc (by omega) (by omega) hr hg).mono ?_; rintro e w' ⟨v, rfl, ho, hbl⟩; obtain ⟨gg, cc, rfl⟩ := ownsRow_succ ho; have hrd := own_reads' ho; obtain ⟨ad, e2, hcs⟩ := hrd.2.2 (by omega); cases e2; have hc0 : w'.cell? ⟨gg, 0, none⟩ = some (.int .u32 (w4 g 0)) := hcs 0 (by omega); have hc1 : w'.cell? ⟨gg, 1, none⟩ = some (.int .u32 (w4 g 1)) := hcs 1 (by omega); clear hcs) | (go_at_call 75; refine (size32 _).mono ?_; rintro e w' ⟨rfl, rfl⟩))
  go_region_with fail
  all_goals go_wp2
  all_goals refine bodyPost_ret (results_tmp3 rfl _ _ _) rfl ?_
  all_goals exact ⟨rfl, below_drew hbl⟩
set_option maxRecDepth 100000 in
set_option maxHeartbeats 2000000 in
theorem two16 (bl o c : Nat) (g : Nat → Int) (w : World) (hb : bl < w.heap.size) (h8 : 4 ≤ c) (hc : c ≤ 9223372036854775807) (hr : ∀ j, j < 4 → w.cell? ⟨bl, o + j, none⟩ = some (.int .u8 (g j))) (hg : ∀ j, 0 ≤ g j ∧ g j ≤ 255) :
    Calls Try.prog 95 #[.slice (some ⟨bl, o, none⟩) 4 c] w fun e w' => e = .returned (.tuple #[.int .u16 (w2 g 0), .int .u16 (w2 g 1), .nilIface]) ∧ Below w.heap.size w w' := by
  go_enter Try.func95, Try.ntmps95
  go_wp2_with (first | (go_at_call 137; refine (list16 bl o c 4 0 2 g _ hb (by omega) h8 hc (by omega) (by omega) hr hg).mono ?_; rintro e w' ⟨v, rfl, ho, hbl⟩; obtain ⟨gg, cc, rfl⟩ := ownsRow_succ ho; have hrd := own_reads' ho; obtain ⟨ad, e2, hcs⟩ := hrd.2.2 (by omega); cases e2; have hc0 : w'.cell? ⟨gg, 0, none⟩ = some (.int .u16 (w2 g 0)) := hcs 0 (by omega); have hc1 : w'.cell? ⟨gg, 1, none⟩ = some (.int .u16 (w2 g 1)) := hcs 1 (by omega); clear hcs) | (go_at_call 136; refine (size16 _).mono ?_; rintro e w' ⟨rfl, rfl⟩))
  go_region_with fail
  all_goals go_wp2
  all_goals refine bodyPost_ret (results_tmp3 rfl _ _ _) rfl ?_
  all_goals exact ⟨rfl, below_drew hbl⟩
set_option maxRecDepth 100000 in
set_option maxHeartbeats 2000000 in
theorem parse52 (bl o c : Nat) (g : Nat → Int) (w : World) (hb : bl < w.heap.size) (h8 : 8 ≤ c) (hc : c ≤ 9223372036854775807) (hr : ∀ j, j < 8 → w.cell? ⟨bl, o + j, none⟩ = some (.int .u8 (g j))) (hg : ∀ j, 0 ≤ g j ∧ g j ≤ 255) :
    Calls Try.prog 52 #[.slice (some ⟨bl, o, none⟩) 8 c] w fun e w' => e = .returned (.tuple #[.agg #[.int .u32 (w4 g 0), .int .u32 (w4 g 1)], .nilIface]) ∧ Below w.heap.size w w' := by
  go_enter Try.func52, Try.ntmps52
  go_wp2_with (go_at_call 96; refine (two32 bl o c g _ (by simp; omega) h8 hc (fun j hj => (cell_kept (hr j hj) (World.grownBy_alloc _ _ none) (fun r e => by cases e))) hg).mono ?_; rintro e w' ⟨rfl, hbl⟩; obtain ⟨hcc, hff, hz⟩ := bcell_ hbl; have hy : w.heap.size < w'.heap.size := (by simp at hz; omega))
  have hblk := blk_below (blk_new w (.cells #[.int .u32 0, .int .u32 0] 29)) hbl
  have hblk2 := blk_set (blk_set hblk 0 (.int .u32 (w4 g 0))) 1 (.int .u32 (w4 g 1))
  refine bodyPost_ret (results_ct rfl _ _ w.heap.size 29 _ _ _ rfl hblk2 Try.underlying29 rfl (by kernel_rfl)) rfl ?_
  exact ⟨rfl, Below.setCell (Below.setCell (below_over hbl (below_alloc (Below.refl _ _) _)) (Nat.le_refl _) _) (Nat.le_refl _) _⟩
set_option maxRecDepth 100000 in
set_option maxHeartbeats 2000000 in
theorem parse51 (bl o c : Nat) (g : Nat → Int) (w : World) (hb : bl < w.heap.size) (h8 : 4 ≤ c) (hc : c ≤ 9223372036854775807) (hr : ∀ j, j < 4 → w.cell? ⟨bl, o + j, none⟩ = some (.int .u8 (g j))) (hg : ∀ j, 0 ≤ g j ∧ g j ≤ 255) :
    Calls Try.prog 51 #[.slice (some ⟨bl, o, none⟩) 4 c] w fun e w' => e = .returned (.tuple #[.agg #[.int .u16 (w2 g 0), .int .u16 (w2 g 1)], .nilIface]) ∧ Below w.heap.size w w' := by
  go_enter Try.func51, Try.ntmps51
  go_wp2_with (go_at_call 95; refine (two16 bl o c g _ (by simp; omega) h8 hc (fun j hj => (cell_kept (hr j hj) (World.grownBy_alloc _ _ none) (fun r e => by cases e))) hg).mono ?_; rintro e w' ⟨rfl, hbl⟩; obtain ⟨hcc, hff, hz⟩ := bcell_ hbl; have hy : w.heap.size < w'.heap.size := (by simp at hz; omega))
  have hblk := blk_below (blk_new w (.cells #[.int .u16 0, .int .u16 0] 25)) hbl
  have hblk2 := blk_set (blk_set hblk 0 (.int .u16 (w2 g 0))) 1 (.int .u16 (w2 g 1))
  refine bodyPost_ret (results_ct rfl _ _ w.heap.size 25 _ _ _ rfl hblk2 Try.underlying25 rfl (by kernel_rfl)) rfl ?_
  exact ⟨rfl, Below.setCell (Below.setCell (below_over hbl (below_alloc (Below.refl _ _) _)) (Nat.le_refl _) _) (Nat.le_refl _) _⟩
/-- a head's fields -/
structure HdS where
  l : Int
  v : Int
  m : Int
  st : Int
  po : Int
  pr : Int
  d0 : Int
  d1 : Int
  e0 : Int
  e1 : Int
  r0 : Int
  r1 : Int
  r2 : Int
  r3 : Int
  a0 : Int
  a1 : Int
  b0 : Int
  b1 : Int
  c0 : Int
  c1 : Int
  t0 : Int
  t1 : Int
def HdS.val (h : HdS) : Array Value := #[.int .i64 h.l, .int .i64 h.v, .int .i64 h.m, .int .u8 h.st, .int .i8 h.po, .int .i8 h.pr, .int .u16 h.d0, .int .u16 h.d1, .int .u16 h.e0, .int .u16 h.e1, .int .u8 h.r0, .int .u8 h.r1, .int .u8 h.r2, .int .u8 h.r3, .int .u32 h.a0, .int .u32 h.a1, .int .u32 h.b0, .int .u32 h.b1, .int .u32 h.c0, .int .u32 h.c1, .int .u32 h.t0, .int .u32 h.t1]
def HdS.ok (h : HdS) : Prop := (0 ≤ h.l ∧ h.l ≤ 3) ∧ (0 ≤ h.v ∧ h.v ≤ 7) ∧ (0 ≤ h.m ∧ h.m ≤ 7)
set_option maxHeartbeats 2000000 in
theorem check_ok (h : HdS) (w : World) (ho : h.ok) : Calls Try.prog 46 #[.agg #[.int .i64 h.l, .int .i64 h.v, .int .i64 h.m, .int .u8 h.st, .int .i8 h.po, .int .i8 h.pr, .int .u16 h.d0, .int .u16 h.d1, .int .u16 h.e0, .int .u16 h.e1, .int .u8 h.r0, .int .u8 h.r1, .int .u8 h.r2, .int .u8 h.r3, .int .u32 h.a0, .int .u32 h.a1, .int .u32 h.b0, .int .u32 h.b1, .int .u32 h.c0, .int .u32 h.c1, .int .u32 h.t0, .int .u32 h.t1]] w fun e w' => e = .returned .nilIface ∧ Below w.heap.size w w' := by
  obtain ⟨⟨h1, h2⟩, ⟨h3, h4⟩, ⟨h5, h6⟩⟩ := ho
  go_enter Try.func46, Try.ntmps46
  go_wp2_with (go_at_call 90; refine (in_ _ _ _).mono ?_; rintro e w' ⟨rfl, rfl⟩)
  all_goals go_ret
  all_goals exact ⟨rfl, below_alloc (Below.refl _ _) _⟩
set_option maxHeartbeats 2000000 in
theorem check_no (h : HdS) (w : World) (ho : ¬ h.ok) : Calls Try.prog 46 #[.agg #[.int .i64 h.l, .int .i64 h.v, .int .i64 h.m, .int .u8 h.st, .int .i8 h.po, .int .i8 h.pr, .int .u16 h.d0, .int .u16 h.d1, .int .u16 h.e0, .int .u16 h.e1, .int .u8 h.r0, .int .u8 h.r1, .int .u8 h.r2, .int .u8 h.r3, .int .u32 h.a0, .int .u32 h.a1, .int .u32 h.b0, .int .u32 h.b1, .int .u32 h.c0, .int .u32 h.c1, .int .u32 h.t0, .int .u32 h.t1]] w fun e w' => e = .returned (.iface 74 (.int .i64 1)) ∧ Below w.heap.size w w' := by
  unfold HdS.ok at ho
  go_enter Try.func46, Try.ntmps46
  go_wp2_with (go_at_call 90; refine (in_ _ _ _).mono ?_; rintro e w' ⟨rfl, rfl⟩)
  all_goals go_ret
  all_goals first | exact ⟨rfl, below_alloc (Below.refl _ _) _⟩ | (exfalso; omega) | (exfalso; simp only [Bool.not_eq_false', decide_eq_true_eq] at *; omega)
end Go.Proofs.Ytbpmjjbccaanfaa.Hd
