import Derived.Test.YtbpmjjbccaanfaaHd10
import Derived.Deep.RegionHeld3
namespace Go.Proofs.Ytbpmjjbccaanfaa.Hd
open Go.RowKit Go.Shelf Go.Proofs.YtbpmjjbccaanfaaW.PrintWords Go.Proofs.YtbpmjjbccaanfaaW.PrintLast Go.Proofs.YtbpmjjbccaanfaaW.PrintMore
set_option linter.unusedVariables false
set_option linter.unusedSimpArgs false
/-- a number of 64 bits -/
def tk (a b : Int) : Int := a * 4294967296 + b
def sb (x y : Int) : Int := IntKind.i64.wrap (IntKind.u64.wrap (x - y))
def offs (X Y : Int) : Int := wrap64 (wrap64 (X / 2 + Y / 2) + bits .and .i64 (bits .and .i64 X Y) 1)
structure RAt (w : World) (h : HdS) (e0 e1 : Int) (W : World) : Prop where
  bel : Below w.heap.size w W
  a : ∀ o, W.cell? ⟨w.heap.size, o, none⟩ = (#[.int .i64 h.l, .int .i64 h.v, .int .i64 h.m, .int .u8 h.st, .int .i8 h.po, .int .i8 h.pr, .int .u16 h.d0, .int .u16 h.d1, .int .u16 h.e0, .int .u16 h.e1, .int .u8 h.r0, .int .u8 h.r1, .int .u8 h.r2, .int .u8 h.r3, .int .u32 h.a0, .int .u32 h.a1, .int .u32 h.b0, .int .u32 h.b1, .int .u32 h.c0, .int .u32 h.c1, .int .u32 h.t0, .int .u32 h.t1] : Array Value)[o]?
  b : ∀ o, W.cell? ⟨w.heap.size + 1, o, none⟩ = (#[.int .u32 e0, .int .u32 e1] : Array Value)[o]?
  le : w.heap.size + 2 ≤ W.heap.size
theorem RAt.call {w W W1 : World} {h : HdS} {e0 e1 : Int} (H : RAt w h e0 e1 W) (hb : Below W.heap.size W W1) : RAt w h e0 e1 W1 :=
  ⟨below_over hb H.bel, fun o => (hb.cell (p := ⟨w.heap.size, o, none⟩) (by have := H.le; show w.heap.size < W.heap.size; omega)).trans (H.a o), fun o => (hb.cell (p := ⟨w.heap.size + 1, o, none⟩) (by have := H.le; show w.heap.size + 1 < W.heap.size; omega)).trans (H.b o), Nat.le_trans H.le hb.size⟩
theorem RAt.drew {w W : World} {h : HdS} {e0 e1 : Int} (H : RAt w h e0 e1 W) : RAt w h e0 e1 W.drew := ⟨below_drew H.bel, H.a, H.b, H.le⟩
theorem RAt.s {w W : World} {h : HdS} {e0 e1 : Int} (H : RAt w h e0 e1 W) : W.cell? ⟨w.heap.size, 16, none⟩ = some (.int .u32 h.b0) ∧ W.cell? ⟨w.heap.size, 17, none⟩ = some (.int .u32 h.b1) ∧ W.cell? ⟨w.heap.size, 18, none⟩ = some (.int .u32 h.c0) ∧ W.cell? ⟨w.heap.size, 19, none⟩ = some (.int .u32 h.c1) ∧ W.cell? ⟨w.heap.size, 20, none⟩ = some (.int .u32 h.t0) ∧ W.cell? ⟨w.heap.size, 21, none⟩ = some (.int .u32 h.t1) ∧ W.cell? ⟨w.heap.size + 1, 0, none⟩ = some (.int .u32 e0) ∧ W.cell? ⟨w.heap.size + 1, 1, none⟩ = some (.int .u32 e1) ∧ RAt w h e0 e1 W := ⟨H.a 16, H.a 17, H.a 18, H.a 19, H.a 20, H.a 21, H.b 0, H.b 1, H⟩
theorem RAt.of_s {w W : World} {h : HdS} {e0 e1 : Int} (H : W.cell? ⟨w.heap.size, 16, none⟩ = some (.int .u32 h.b0) ∧ W.cell? ⟨w.heap.size, 17, none⟩ = some (.int .u32 h.b1) ∧ W.cell? ⟨w.heap.size, 18, none⟩ = some (.int .u32 h.c0) ∧ W.cell? ⟨w.heap.size, 19, none⟩ = some (.int .u32 h.c1) ∧ W.cell? ⟨w.heap.size, 20, none⟩ = some (.int .u32 h.t0) ∧ W.cell? ⟨w.heap.size, 21, none⟩ = some (.int .u32 h.t1) ∧ W.cell? ⟨w.heap.size + 1, 0, none⟩ = some (.int .u32 e0) ∧ W.cell? ⟨w.heap.size + 1, 1, none⟩ = some (.int .u32 e1) ∧ RAt w h e0 e1 W) : RAt w h e0 e1 W := H.2.2.2.2.2.2.2.2
set_option maxRecDepth 100000 in
set_option maxHeartbeats 8000000 in
theorem round14 (h : HdS) (hw : h.wf) (e0 e1 : Int) (w : World) (e00 : 0 ≤ e0) (e01 : e0 ≤ 4294967295) (e10 : 0 ≤ e1) (e11 : e1 ≤ 4294967295) : Calls Try.prog 14 #[.agg #[.int .i64 h.l, .int .i64 h.v, .int .i64 h.m, .int .u8 h.st, .int .i8 h.po, .int .i8 h.pr, .int .u16 h.d0, .int .u16 h.d1, .int .u16 h.e0, .int .u16 h.e1, .int .u8 h.r0, .int .u8 h.r1, .int .u8 h.r2, .int .u8 h.r3, .int .u32 h.a0, .int .u32 h.a1, .int .u32 h.b0, .int .u32 h.b1, .int .u32 h.c0, .int .u32 h.c1, .int .u32 h.t0, .int .u32 h.t1], .agg #[.int .u32 e0, .int .u32 e1]] w fun e w' => e = .returned (.tuple #[.int .i64 (offs (sb (tk h.c0 h.c1) (tk h.b0 h.b1)) (sb (tk h.t0 h.t1) (tk e0 e1))), .int .i64 (IntKind.i64.wrap (sb (tk e0 e1) (tk h.b0 h.b1) - sb (tk h.t0 h.t1) (tk h.c0 h.c1)))]) ∧ Below w.heap.size w w' := by
  obtain ⟨b00, b01⟩ := hw.b0_
  obtain ⟨b10, b11⟩ := hw.b1_
  obtain ⟨c00, c01⟩ := hw.c0_
  obtain ⟨c10, c11⟩ := hw.c1_
  obtain ⟨t00, t01⟩ := hw.t0_
  obtain ⟨t10, t11⟩ := hw.t1_
  clear hw
  go_enter Try.func14, Try.ntmps14
  go_wp2
  have HR0 : RAt w h e0 e1 ((w.alloc (.cells #[.int .i64 h.l, .int .i64 h.v, .int .i64 h.m, .int .u8 h.st, .int .i8 h.po, .int .i8 h.pr, .int .u16 h.d0, .int .u16 h.d1, .int .u16 h.e0, .int .u16 h.e1, .int .u8 h.r0, .int .u8 h.r1, .int .u8 h.r2, .int .u8 h.r3, .int .u32 h.a0, .int .u32 h.a1, .int .u32 h.b0, .int .u32 h.b1, .int .u32 h.c0, .int .u32 h.c1, .int .u32 h.t0, .int .u32 h.t1] 31)).alloc (.cells #[.int .u32 e0, .int .u32 e1] 29)) := ⟨below_alloc (below_alloc (Below.refl _ _) _) _, fun o => cell_of_row _ _ o _ _ _ (blk_alloc (blk_new w _) _), fun o => cell_of_row _ _ o _ _ _ (by have := blk_new (w.alloc (.cells #[.int .i64 h.l, .int .i64 h.v, .int .i64 h.m, .int .u8 h.st, .int .i8 h.po, .int .i8 h.pr, .int .u16 h.d0, .int .u16 h.d1, .int .u16 h.e0, .int .u16 h.e1, .int .u8 h.r0, .int .u8 h.r1, .int .u8 h.r2, .int .u8 h.r3, .int .u32 h.a0, .int .u32 h.a1, .int .u32 h.b0, .int .u32 h.b1, .int .u32 h.c0, .int .u32 h.c1, .int .u32 h.t0, .int .u32 h.t1] 31)) (.cells #[.int .u32 e0, .int .u32 e1] 29); rwa [World.size_alloc] at this), by simp⟩
  generalize ((w.alloc (.cells #[.int .i64 h.l, .int .i64 h.v, .int .i64 h.m, .int .u8 h.st, .int .i8 h.po, .int .i8 h.pr, .int .u16 h.d0, .int .u16 h.d1, .int .u16 h.e0, .int .u16 h.e1, .int .u8 h.r0, .int .u8 h.r1, .int .u8 h.r2, .int .u8 h.r3, .int .u32 h.a0, .int .u32 h.a1, .int .u32 h.b0, .int .u32 h.b1, .int .u32 h.c0, .int .u32 h.c1, .int .u32 h.t0, .int .u32 h.t1] 31)).alloc (.cells #[.int .u32 e0, .int .u32 e1] 29)) = W0 at HR0 ⊢
  have HR := HR0.drew
  clear HR0
  have ha := HR.a
  have hbb := HR.b
  clear ha hbb
  go_region_held3 (fun w' => w'.cell? ⟨w.heap.size, 16, none⟩ = some (.int .u32 h.b0) ∧ w'.cell? ⟨w.heap.size, 17, none⟩ = some (.int .u32 h.b1) ∧ w'.cell? ⟨w.heap.size, 18, none⟩ = some (.int .u32 h.c0) ∧ w'.cell? ⟨w.heap.size, 19, none⟩ = some (.int .u32 h.c1) ∧ w'.cell? ⟨w.heap.size, 20, none⟩ = some (.int .u32 h.t0) ∧ w'.cell? ⟨w.heap.size, 21, none⟩ = some (.int .u32 h.t1) ∧ w'.cell? ⟨w.heap.size + 1, 0, none⟩ = some (.int .u32 e0) ∧ w'.cell? ⟨w.heap.size + 1, 1, none⟩ = some (.int .u32 e1) ∧ RAt w h e0 e1 w') (first | exact RAt.s HR | exact RAt.s (RAt.call (by assumption) hb) | exact RAt.s (RAt.call (RAt.of_s (by assumption)) hb) | exact RAt.s (RAt.drew (by assumption)))
    (first | (go_at_call 53; refine (sub53 _ _ _ _ _ (by omega) (by omega) (by omega) (by omega) (by omega) (by omega) (by omega) (by omega)).mono ?_; rintro e w' ⟨rfl, hb⟩))
  rename_i hH
  clear HR
  have HR := (RAt.of_s hH).drew
  clear hH hb
  generalize hX : IntKind.i64.wrap (IntKind.u64.wrap (h.c0 * 4294967296 + h.c1 - (h.b0 * 4294967296 + h.b1))) = X
  generalize hY : IntKind.i64.wrap (IntKind.u64.wrap (h.t0 * 4294967296 + h.t1 - (e0 * 4294967296 + e1))) = Y
  replace hX := Aside0.mk hX
  replace hY := Aside0.mk hY
  go_wp2
  go_region_held3 (fun w' => w'.cell? ⟨w.heap.size, 16, none⟩ = some (.int .u32 h.b0) ∧ w'.cell? ⟨w.heap.size, 17, none⟩ = some (.int .u32 h.b1) ∧ w'.cell? ⟨w.heap.size, 18, none⟩ = some (.int .u32 h.c0) ∧ w'.cell? ⟨w.heap.size, 19, none⟩ = some (.int .u32 h.c1) ∧ w'.cell? ⟨w.heap.size, 20, none⟩ = some (.int .u32 h.t0) ∧ w'.cell? ⟨w.heap.size, 21, none⟩ = some (.int .u32 h.t1) ∧ w'.cell? ⟨w.heap.size + 1, 0, none⟩ = some (.int .u32 e0) ∧ w'.cell? ⟨w.heap.size + 1, 1, none⟩ = some (.int .u32 e1) ∧ RAt w h e0 e1 w') (first | exact RAt.s HR | exact RAt.s (RAt.call (by assumption) hb) | exact RAt.s (RAt.call (RAt.of_s (by assumption)) hb) | exact RAt.s (RAt.drew (by assumption)))
    (first | (go_at_call 53; refine (sub53 _ _ _ _ _ (by omega) (by omega) (by omega) (by omega) (by omega) (by omega) (by omega) (by omega)).mono ?_; rintro e w' ⟨rfl, hb⟩))
  rename_i hH
  clear HR
  have HR := (RAt.of_s hH)
  clear hH hb
  go_wp2
  refine bodyPost_ret (results_tmp2 rfl _ _ _) rfl ?_
  refine ⟨?_, HR.bel⟩
  have eX := hX.out
  have eY := hY.out
  subst eX
  subst eY
  rfl
end Go.Proofs.Ytbpmjjbccaanfaa.Hd
