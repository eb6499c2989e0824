import Derived.Test.YtbpmjjbccaanfaaHd7
import Derived.Laws.Tables
import Derived.Laws.CopyOwn
namespace Go.Proofs.Ytbpmjjbccaanfaa.Hd
open Go.RowKit Go.Shelf Go.Proofs.YtbpmjjbccaanfaaW.PrintWords Go.Proofs.YtbpmjjbccaanfaaW.PrintLast Go.Proofs.YtbpmjjbccaanfaaW.PrintMore
set_option linter.unusedVariables false
set_option linter.unusedSimpArgs false
theorem arr26 (b o c : Nat) (W : World) : (Instr.arrayAt 26 (.slice (some ⟨b, o, none⟩) 4 c)).run Try.prog W = .ok (.pointer (some ⟨b, o, none⟩)) W := by
  simp [Instr.arrayAt, run_underlying Try.underlying26, go_sem]
/-- the head that 48 bytes hold -/
def headOf (g : Nat → Int) : HdS := ⟨(g 0 / 64), (g 0 / 8 % 8), (g 0 % 8), (g 1), (IntKind.i8.wrap (g 2)), (IntKind.i8.wrap (g 3)), (w2 (fun j => g (4 + j)) 0), (w2 (fun j => g (4 + j)) 1), (w2 (fun j => g (8 + j)) 0), (w2 (fun j => g (8 + j)) 1), (g 12), (g 13), (g 14), (g 15), (w4 (fun j => g (16 + j)) 0), (w4 (fun j => g (16 + j)) 1), (w4 (fun j => g (24 + j)) 0), (w4 (fun j => g (24 + j)) 1), (w4 (fun j => g (32 + j)) 0), (w4 (fun j => g (32 + j)) 1), (w4 (fun j => g (40 + j)) 0), (w4 (fun j => g (40 + j)) 1)⟩
/-- under way: the head's block holds cs -/
structure PAt (w : World) (ga B6 : Nat) (g : Nat → Int) (W : World) (cs : Array Value) : Prop where
  blk : W.heap[B6]? = some (.cells cs 31 (0, 0))
  res : W.heap[w.heap.size]? = some (.cells #[.int .i64 0, .int .i64 0, .int .i64 0, .int .u8 0, .int .i8 0, .int .i8 0, .int .u16 0, .int .u16 0, .int .u16 0, .int .u16 0, .int .u8 0, .int .u8 0, .int .u8 0, .int .u8 0, .int .u32 0, .int .u32 0, .int .u32 0, .int .u32 0, .int .u32 0, .int .u32 0, .int .u32 0, .int .u32 0] 31 (0, 0))
  lt : ga < B6
  lt2 : w.heap.size < ga
  by_ : ∀ j, j < 48 → W.cell? ⟨ga, j, none⟩ = some (.int .u8 (g j))
  bel : Below w.heap.size w W
theorem PAt.to {w W : World} {ga B6 : Nat} {g : Nat → Int} {cs cs' : Array Value} (h : PAt w ga B6 g W cs) (e : cs = cs') : PAt w ga B6 g W cs' := e ▸ h
theorem PAt.lt3 {w W : World} {ga B6 : Nat} {g : Nat → Int} {cs : Array Value} (h : PAt w ga B6 g W cs) : ga < W.heap.size := Nat.lt_trans h.lt (blk_lt h.blk)
theorem PAt.call {w W W1 : World} {ga B6 : Nat} {g : Nat → Int} {cs : Array Value} (h : PAt w ga B6 g W cs) (hb : Below W.heap.size W W1) : PAt w ga B6 g W1 cs :=
  ⟨blk_below h.blk hb, blk_below h.res hb, h.lt, h.lt2, fun j hj => (hb.cell (p := ⟨ga, j, none⟩) (by have := blk_lt h.blk; have := h.lt; show ga < W.heap.size; omega)).trans (h.by_ j hj), below_over hb h.bel⟩
theorem PAt.drew {w W : World} {ga B6 : Nat} {g : Nat → Int} {cs : Array Value} (h : PAt w ga B6 g W cs) : PAt w ga B6 g W.drew cs := ⟨h.blk, h.res, h.lt, h.lt2, h.by_, below_drew h.bel⟩
theorem PAt.set {w W : World} {ga B6 : Nat} {g : Nat → Int} {cs : Array Value} (h : PAt w ga B6 g W cs) (i : Nat) (u : Value) : PAt w ga B6 g (W.setCell ⟨B6, i, none⟩ u) (cs.setIfInBounds i u) :=
  ⟨blk_set h.blk i u, blk_far h.res (by have := h.lt; have := h.lt2; show w.heap.size ≠ B6; omega) u, h.lt, h.lt2, fun j hj => by have hn : (⟨B6, i, none⟩ : Addr) ≠ ⟨ga, j, none⟩ := (fun e => by have := h.lt; injection e; omega); rw [World.cell?_setCell_other W _ _ _ hn]; exact h.by_ j hj, Below.setCell h.bel (by have := h.lt; have := h.lt2; show w.heap.size ≤ B6; omega) u⟩
theorem PAt.cell {w W : World} {ga B6 : Nat} {g : Nat → Int} {cs : Array Value} (h : PAt w ga B6 g W cs) (o : Nat) : W.cell? ⟨B6, o, none⟩ = cs[o]? := blk_cell h.blk o
theorem PAt.frozen {w W : World} {ga B6 : Nat} {g : Nat → Int} {cs : Array Value} (h : PAt w ga B6 g W cs) (o : Nat) : W.frozen? ⟨B6, o, none⟩ = false := blk_frozen h.blk o
theorem row_use {W : World} {base : Nat} {v : Value} {xs : List Int} {n : Nat} (h : RowB W base v xs) (hl : xs.length = n) (hn : 0 < n) : ∃ ga cc, v = .slice (some ⟨ga, 0, none⟩) n cc ∧ n ≤ cc ∧ cc ≤ 9223372036854775807 ∧ base ≤ ga ∧ ga < W.heap.size ∧ ∀ j, j < n → W.cell? ⟨ga, j, none⟩ = some (.int .u8 (xs.getD j 0)) := by
  subst hl
  have hrd := own_reads h
  rcases h.2 with ⟨_, h0⟩ | ⟨g, cap, cur, rfl, h1, h2, h3, h4, _⟩
  · omega
  · obtain ⟨A, c, e, hr⟩ := hrd
    cases e
    obtain ⟨ad, e2, hcs⟩ := hr.2.2 hn
    cases e2
    refine ⟨g, cap, rfl, h3, by simpa [maxLen] using h4, h1, (Array.getElem?_eq_some_iff.1 h2).1, fun j hj => ?_⟩
    have := hcs j hj
    rw [show (⟨g, 0, none⟩ : Addr).add j = ⟨g, j, none⟩ by unfold Addr.add; split <;> simp_all] at this
    exact this
theorem blk_row {w : World} {g : Nat} {t : TypeId} {cs : Array Value} (h : w.heap[g]? = some (.cells cs t (0, 0))) (cs' : Array Value) : (w.setRow g cs').heap[g]? = some (.cells cs' t (0, 0)) := by
  obtain ⟨hlt, hk⟩ := Array.getElem?_eq_some_iff.1 h
  show (w.heap.modify g _)[g]? = _
  rw [Array.getElem?_eq_getElem (by rw [Array.size_modify]; exact hlt), Array.getElem_modify_self, hk]
set_option maxRecDepth 100000 in
set_option maxHeartbeats 8000000 in
theorem parse_no (A : Option Addr) (n c : Nat) (w : World) (h : n < 48) : Calls Try.prog 10 #[.slice A n c] w fun e w' => e = .returned (.tuple #[.agg #[.int .i64 0, .int .i64 0, .int .i64 0, .int .u8 0, .int .i8 0, .int .i8 0, .int .u16 0, .int .u16 0, .int .u16 0, .int .u16 0, .int .u8 0, .int .u8 0, .int .u8 0, .int .u8 0, .int .u32 0, .int .u32 0, .int .u32 0, .int .u32 0, .int .u32 0, .int .u32 0, .int .u32 0, .int .u32 0], .iface 74 (.int .i64 4)]) ∧ Below w.heap.size w w' := by
  go_enter Try.func10, Try.ntmps10
  go_wp2_with (first | (refine wpList_store_row rfl 31 _ _ rfl w.heap.size #[.int .i64 0, .int .i64 0, .int .i64 0, .int .u8 0, .int .i8 0, .int .i8 0, .int .u16 0, .int .u16 0, .int .u16 0, .int .u16 0, .int .u8 0, .int .u8 0, .int .u8 0, .int .u8 0, .int .u32 0, .int .u32 0, .int .u32 0, .int .u32 0, .int .u32 0, .int .u32 0, .int .u32 0, .int .u32 0] rfl rfl 31 _ (blk_new w _) (by kernel_rfl) rfl (by kernel_rfl) ?_) | (go_at_call 50; refine (cut_no _ _ _ 48 _ h (by omega)).mono ?_; rintro e w' ⟨rfl, rfl⟩))
  refine bodyPost_ret (results_ct rfl _ _ w.heap.size 31 _ _ _ rfl (blk_row (blk_new w _) _) Try.underlying31 rfl (by kernel_rfl)) rfl ?_
  exact ⟨rfl, below_setRow (below_alloc (Below.refl _ _) _) (Nat.le_refl _) _⟩
set_option maxRecDepth 100000 in
set_option maxHeartbeats 8000000 in
theorem parse_ok (bl o n c : Nat) (bs : List Int) (w : World) (h : 48 ≤ n) (hn : n ≤ c) (hc : c ≤ 9223372036854775807) (hl : bs.length = 48) (hr : ReadsInt w .u8 (some ⟨bl, o, none⟩) bs.length bs) (g : Nat → Int) (gg : ∀ j, bs.getD j 0 = g j) (hg : ∀ j, 0 ≤ g j ∧ g j ≤ 255) : Calls Try.prog 10 #[.slice (some ⟨bl, o, none⟩) n c] w fun e w' => (∃ h, h = headOf g ∧ e = .returned (.tuple #[.agg #[.int .i64 h.l, .int .i64 h.v, .int .i64 h.m, .int .u8 h.st, .int .i8 h.po, .int .i8 h.pr, .int .u16 h.d0, .int .u16 h.d1, .int .u16 h.e0, .int .u16 h.e1, .int .u8 h.r0, .int .u8 h.r1, .int .u8 h.r2, .int .u8 h.r3, .int .u32 h.a0, .int .u32 h.a1, .int .u32 h.b0, .int .u32 h.b1, .int .u32 h.c0, .int .u32 h.c1, .int .u32 h.t0, .int .u32 h.t1], .nilIface])) ∧ Below w.heap.size w w' := by
  go_enter Try.func10, Try.ntmps10
  go_wp2_with (first
    | (go_at_call 50; refine (cut_ok bl o n c 48 bs _ h (by omega) hn hc hl (hr.below (below_alloc (Below.refl _ _) _)) (by omega)).mono ?_
       rintro e w1 ⟨v, rfl, ho, hb⟩
       obtain ⟨ga, cc, rfl, hcap, hcap2, hlow, hlt, hcs⟩ := row_use ho hl (by omega)
       rw [World.size_alloc] at hlow
       have PF : ∀ cs, PAt w ga w1.heap.size g (w1.alloc (.cells cs 31)) cs := fun cs => ⟨blk_new w1 _, blk_alloc (blk_below (blk_new w _) hb) _, hlt, by omega, fun j hj => (cell_kept (hcs j hj) (World.grownBy_alloc _ _ none) (fun r e => by cases e)).trans (congrArg (fun z => some (Value.int .u8 z)) (gg j)), below_alloc (below_over hb (below_alloc (Below.refl _ _) _)) _⟩
       have hb6 := (PF #[.int .i64 0, .int .i64 0, .int .i64 0, .int .u8 0, .int .i8 0, .int .i8 0, .int .u16 0, .int .u16 0, .int .u16 0, .int .u16 0, .int .u8 0, .int .u8 0, .int .u8 0, .int .u8 0, .int .u32 0, .int .u32 0, .int .u32 0, .int .u32 0, .int .u32 0, .int .u32 0, .int .u32 0, .int .u32 0]).cell
       have hf6 := (PF #[.int .i64 0, .int .i64 0, .int .i64 0, .int .u8 0, .int .i8 0, .int .i8 0, .int .u16 0, .int .u16 0, .int .u16 0, .int .u16 0, .int .u8 0, .int .u8 0, .int .u8 0, .int .u8 0, .int .u32 0, .int .u32 0, .int .u32 0, .int .u32 0, .int .u32 0, .int .u32 0, .int .u32 0, .int .u32 0]).frozen
       have h0 := (PF #[.int .i64 0, .int .i64 0, .int .i64 0, .int .u8 0, .int .i8 0, .int .i8 0, .int .u16 0, .int .u16 0, .int .u16 0, .int .u16 0, .int .u8 0, .int .u8 0, .int .u8 0, .int .u8 0, .int .u32 0, .int .u32 0, .int .u32 0, .int .u32 0, .int .u32 0, .int .u32 0, .int .u32 0, .int .u32 0]).by_ 0 (by omega)
       replace PF := Aside0.mk PF
       clear hcs ho hb)
    | (go_at_call 24; refine (first24 ga 0 48 cc _ _ (by omega) hcap hcap2 (hg 0).1 (hg 0).2 h0).mono ?_; rintro e w' ⟨rfl, rfl⟩))
  have P1 := PF.out #[.int .i64 (g 0 / 64), .int .i64 (g 0 / 8 % 8), .int .i64 (g 0 % 8), .int .u8 0, .int .i8 0, .int .i8 0, .int .u16 0, .int .u16 0, .int .u16 0, .int .u16 0, .int .u8 0, .int .u8 0, .int .u8 0, .int .u8 0, .int .u32 0, .int .u32 0, .int .u32 0, .int .u32 0, .int .u32 0, .int .u32 0, .int .u32 0, .int .u32 0]
  generalize w1.alloc (.cells #[.int .i64 (g 0 / 64), .int .i64 (g 0 / 8 % 8), .int .i64 (g 0 % 8), .int .u8 0, .int .i8 0, .int .i8 0, .int .u16 0, .int .u16 0, .int .u16 0, .int .u16 0, .int .u8 0, .int .u8 0, .int .u8 0, .int .u8 0, .int .u32 0, .int .u32 0, .int .u32 0, .int .u32 0, .int .u32 0, .int .u32 0, .int .u32 0, .int .u32 0] 31) = W8 at P1 ⊢
  clear PF hb6 hf6 h0
  have hb6 := P1.cell
  have hf6 := P1.frozen
  have h1 := P1.by_ 1 (by omega)
  have h2 := P1.by_ 2 (by omega)
  have h3 := P1.by_ 3 (by omega)
  go_region
  have P2 := (((((P1.set 3 (.int .u8 (g 1))).set 4 (.int .i8 (IntKind.i8.wrap (g 2)))).set 5 (.int .i8 (IntKind.i8.wrap (g 3))))).drew).to (cs' := #[.int .i64 (g 0 / 64), .int .i64 (g 0 / 8 % 8), .int .i64 (g 0 % 8), .int .u8 (g 1), .int .i8 (IntKind.i8.wrap (g 2)), .int .i8 (IntKind.i8.wrap (g 3)), .int .u16 0, .int .u16 0, .int .u16 0, .int .u16 0, .int .u8 0, .int .u8 0, .int .u8 0, .int .u8 0, .int .u32 0, .int .u32 0, .int .u32 0, .int .u32 0, .int .u32 0, .int .u32 0, .int .u32 0, .int .u32 0]) (by kernel_rfl)
  clear hb6 hf6 h1 h2 h3
  generalize ((((W8.setCell ⟨w1.heap.size, 3, none⟩ (.int .u8 (g 1))).setCell ⟨w1.heap.size, 4, none⟩ (.int .i8 (IntKind.i8.wrap (g 2)))).setCell ⟨w1.heap.size, 5, none⟩ (.int .i8 (IntKind.i8.wrap (g 3))))).drew = W9 at P2 ⊢
  clear P1
  have hne : ga < w1.heap.size := P2.lt
  have har := fun W => arr26 ga 12 (cc - 12) W
  go_wp2_with (first
    | (go_at_call 51; refine (parse51 ga 4 (cc - 4) (fun j => g (4 + j)) _ P2.lt3 (by omega) (by omega) (fun j hj => P2.by_ (4 + j) (by omega)) (fun j => hg (4 + j))).mono ?_; rintro e y3 ⟨rfl, hb3⟩; have P3 := P2.call hb3; clear P2 hb3; have hb6 := P3.cell; have hf6 := P3.frozen)
    | (go_at_call 51; refine (parse51 ga 8 (cc - 8) (fun j => g (8 + j)) _ (((P3.set 6 (.int .u16 (w2 (fun j => g (4 + j)) 0))).set 7 (.int .u16 (w2 (fun j => g (4 + j)) 1)))).lt3 (by omega) (by omega) (fun j hj => (((P3.set 6 (.int .u16 (w2 (fun j => g (4 + j)) 0))).set 7 (.int .u16 (w2 (fun j => g (4 + j)) 1)))).by_ (8 + j) (by omega)) (fun j => hg (8 + j))).mono ?_; rintro e y4 ⟨rfl, hb4⟩; have P4 := ((((P3.set 6 (.int .u16 (w2 (fun j => g (4 + j)) 0))).set 7 (.int .u16 (w2 (fun j => g (4 + j)) 1)))).call hb4).to (cs' := #[.int .i64 (g 0 / 64), .int .i64 (g 0 / 8 % 8), .int .i64 (g 0 % 8), .int .u8 (g 1), .int .i8 (IntKind.i8.wrap (g 2)), .int .i8 (IntKind.i8.wrap (g 3)), .int .u16 (w2 (fun j => g (4 + j)) 0), .int .u16 (w2 (fun j => g (4 + j)) 1), .int .u16 0, .int .u16 0, .int .u8 0, .int .u8 0, .int .u8 0, .int .u8 0, .int .u32 0, .int .u32 0, .int .u32 0, .int .u32 0, .int .u32 0, .int .u32 0, .int .u32 0, .int .u32 0]) (by kernel_rfl); clear P3 hb4 hb6 hf6; have hb6 := P4.cell; have hf6 := P4.frozen; have h12 := P4.by_ 12 (by omega); have h13 := P4.by_ 13 (by omega); have h14 := P4.by_ 14 (by omega); have h15 := P4.by_ 15 (by omega))
    | (go_at_call 48; refine (longs48 _ _).mono ?_; rintro e y5 ⟨rfl, hb5⟩; have P5 := ((((((((P4.set 8 (.int .u16 (w2 (fun j => g (8 + j)) 0))).set 9 (.int .u16 (w2 (fun j => g (8 + j)) 1))).set 10 (.int .u8 (g 12))).set 11 (.int .u8 (g 13))).set 12 (.int .u8 (g 14))).set 13 (.int .u8 (g 15)))).call hb5).to (cs' := #[.int .i64 (g 0 / 64), .int .i64 (g 0 / 8 % 8), .int .i64 (g 0 % 8), .int .u8 (g 1), .int .i8 (IntKind.i8.wrap (g 2)), .int .i8 (IntKind.i8.wrap (g 3)), .int .u16 (w2 (fun j => g (4 + j)) 0), .int .u16 (w2 (fun j => g (4 + j)) 1), .int .u16 (w2 (fun j => g (8 + j)) 0), .int .u16 (w2 (fun j => g (8 + j)) 1), .int .u8 (g 12), .int .u8 (g 13), .int .u8 (g 14), .int .u8 (g 15), .int .u32 0, .int .u32 0, .int .u32 0, .int .u32 0, .int .u32 0, .int .u32 0, .int .u32 0, .int .u32 0]) (by kernel_rfl); clear P4 hb5 hb6 hf6 h12 h13 h14 h15; have hb6 := P5.cell; have hf6 := P5.frozen))
  have ix := fun W => idx108 (some ⟨w1.heap.size, 14, none⟩) (some ⟨w1.heap.size, 16, none⟩) (some ⟨w1.heap.size, 18, none⟩) (some ⟨w1.heap.size, 20, none⟩) W
  have ix0 := fun W => (ix W).1
  have ix1 := fun W => (ix W).2.1
  have ix2 := fun W => (ix W).2.2.1
  have ix3 := fun W => (ix W).2.2.2
  clear ix har
  refine wp_loop_rounds 5 ?_
  rw [rounds_succ]
  go_wp2_with (go_at_call 52; refine (parse52 ga 16 (cc - 16) (fun j => g (16 + j)) _ P5.lt3 (by omega) (by omega) (fun j hj => P5.by_ (16 + j) (by omega)) (fun j => hg (16 + j))).mono ?_; rintro e v0 ⟨rfl, hb5⟩; have P6 := P5.call hb5; clear P5 hb5 hb6 hf6; have hb6 := P6.cell; have hf6 := P6.frozen)
  rw [rounds_succ]
  go_wp2_with (go_at_call 52; refine (parse52 ga 24 (cc - 24) (fun j => g (24 + j)) _ (((P6.set 14 (.int .u32 (w4 (fun j => g (16 + j)) 0))).set 15 (.int .u32 (w4 (fun j => g (16 + j)) 1)))).lt3 (by omega) (by omega) (fun j hj => (((P6.set 14 (.int .u32 (w4 (fun j => g (16 + j)) 0))).set 15 (.int .u32 (w4 (fun j => g (16 + j)) 1)))).by_ (24 + j) (by omega)) (fun j => hg (24 + j))).mono ?_; rintro e v1 ⟨rfl, hb5⟩; have P7 := (((P6.set 14 (.int .u32 (w4 (fun j => g (16 + j)) 0))).set 15 (.int .u32 (w4 (fun j => g (16 + j)) 1)))).call hb5; clear P6 hb5 hb6 hf6; have hb6 := P7.cell; have hf6 := P7.frozen)
  rw [rounds_succ]
  go_wp2_with (go_at_call 52; refine (parse52 ga 32 (cc - 32) (fun j => g (32 + j)) _ (((P7.set 16 (.int .u32 (w4 (fun j => g (24 + j)) 0))).set 17 (.int .u32 (w4 (fun j => g (24 + j)) 1)))).lt3 (by omega) (by omega) (fun j hj => (((P7.set 16 (.int .u32 (w4 (fun j => g (24 + j)) 0))).set 17 (.int .u32 (w4 (fun j => g (24 + j)) 1)))).by_ (32 + j) (by omega)) (fun j => hg (32 + j))).mono ?_; rintro e v2 ⟨rfl, hb5⟩; have P8 := (((P7.set 16 (.int .u32 (w4 (fun j => g (24 + j)) 0))).set 17 (.int .u32 (w4 (fun j => g (24 + j)) 1)))).call hb5; clear P7 hb5 hb6 hf6; have hb6 := P8.cell; have hf6 := P8.frozen)
  rw [rounds_succ]
  go_wp2_with (go_at_call 52; refine (parse52 ga 40 (cc - 40) (fun j => g (40 + j)) _ (((P8.set 18 (.int .u32 (w4 (fun j => g (32 + j)) 0))).set 19 (.int .u32 (w4 (fun j => g (32 + j)) 1)))).lt3 (by omega) (by omega) (fun j hj => (((P8.set 18 (.int .u32 (w4 (fun j => g (32 + j)) 0))).set 19 (.int .u32 (w4 (fun j => g (32 + j)) 1)))).by_ (40 + j) (by omega)) (fun j => hg (40 + j))).mono ?_; rintro e v3 ⟨rfl, hb5⟩; have P9 := (((P8.set 18 (.int .u32 (w4 (fun j => g (32 + j)) 0))).set 19 (.int .u32 (w4 (fun j => g (32 + j)) 1)))).call hb5; clear P8 hb5 hb6 hf6; have hb6 := P9.cell; have hf6 := P9.frozen)
  have PE := (((P9.set 20 (.int .u32 (w4 (fun j => g (40 + j)) 0))).set 21 (.int .u32 (w4 (fun j => g (40 + j)) 1)))).to (cs' := #[.int .i64 (g 0 / 64), .int .i64 (g 0 / 8 % 8), .int .i64 (g 0 % 8), .int .u8 (g 1), .int .i8 (IntKind.i8.wrap (g 2)), .int .i8 (IntKind.i8.wrap (g 3)), .int .u16 (w2 (fun j => g (4 + j)) 0), .int .u16 (w2 (fun j => g (4 + j)) 1), .int .u16 (w2 (fun j => g (8 + j)) 0), .int .u16 (w2 (fun j => g (8 + j)) 1), .int .u8 (g 12), .int .u8 (g 13), .int .u8 (g 14), .int .u8 (g 15), .int .u32 (w4 (fun j => g (16 + j)) 0), .int .u32 (w4 (fun j => g (16 + j)) 1), .int .u32 (w4 (fun j => g (24 + j)) 0), .int .u32 (w4 (fun j => g (24 + j)) 1), .int .u32 (w4 (fun j => g (32 + j)) 0), .int .u32 (w4 (fun j => g (32 + j)) 1), .int .u32 (w4 (fun j => g (40 + j)) 0), .int .u32 (w4 (fun j => g (40 + j)) 1)]) (by kernel_rfl)
  rw [rounds_succ]
  go_wp2_with (first
    | (refine wpList_load_row rfl 31 (.tmp 6) rfl w1.heap.size rfl 31 #[.int .i64 (g 0 / 64), .int .i64 (g 0 / 8 % 8), .int .i64 (g 0 % 8), .int .u8 (g 1), .int .i8 (IntKind.i8.wrap (g 2)), .int .i8 (IntKind.i8.wrap (g 3)), .int .u16 (w2 (fun j => g (4 + j)) 0), .int .u16 (w2 (fun j => g (4 + j)) 1), .int .u16 (w2 (fun j => g (8 + j)) 0), .int .u16 (w2 (fun j => g (8 + j)) 1), .int .u8 (g 12), .int .u8 (g 13), .int .u8 (g 14), .int .u8 (g 15), .int .u32 (w4 (fun j => g (16 + j)) 0), .int .u32 (w4 (fun j => g (16 + j)) 1), .int .u32 (w4 (fun j => g (24 + j)) 0), .int .u32 (w4 (fun j => g (24 + j)) 1), .int .u32 (w4 (fun j => g (32 + j)) 0), .int .u32 (w4 (fun j => g (32 + j)) 1), .int .u32 (w4 (fun j => g (40 + j)) 0), .int .u32 (w4 (fun j => g (40 + j)) 1)] (0, 0) _ PE.blk Try.underlying31 rfl (by kernel_rfl) ?_)
    | (refine wpList_store_row rfl 31 _ _ rfl w.heap.size #[.int .i64 (g 0 / 64), .int .i64 (g 0 / 8 % 8), .int .i64 (g 0 % 8), .int .u8 (g 1), .int .i8 (IntKind.i8.wrap (g 2)), .int .i8 (IntKind.i8.wrap (g 3)), .int .u16 (w2 (fun j => g (4 + j)) 0), .int .u16 (w2 (fun j => g (4 + j)) 1), .int .u16 (w2 (fun j => g (8 + j)) 0), .int .u16 (w2 (fun j => g (8 + j)) 1), .int .u8 (g 12), .int .u8 (g 13), .int .u8 (g 14), .int .u8 (g 15), .int .u32 (w4 (fun j => g (16 + j)) 0), .int .u32 (w4 (fun j => g (16 + j)) 1), .int .u32 (w4 (fun j => g (24 + j)) 0), .int .u32 (w4 (fun j => g (24 + j)) 1), .int .u32 (w4 (fun j => g (32 + j)) 0), .int .u32 (w4 (fun j => g (32 + j)) 1), .int .u32 (w4 (fun j => g (40 + j)) 0), .int .u32 (w4 (fun j => g (40 + j)) 1)] rfl rfl 31 _ PE.res (by kernel_rfl) rfl (by kernel_rfl) ?_))
  refine bodyPost_ret (results_ct rfl _ _ w.heap.size 31 _ _ _ rfl (blk_row PE.res _) Try.underlying31 rfl (by kernel_rfl)) rfl ?_
  exact ⟨⟨_, rfl, rfl⟩, below_setRow PE.bel (Nat.le_refl _) _⟩
end Go.Proofs.Ytbpmjjbccaanfaa.Hd
