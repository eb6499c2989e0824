import Derived.Test.YtbpmjjbccaanfaaHd6
namespace Go.Proofs.Ytbpmjjbccaanfaa.Hd
open Go.RowKit Go.Shelf Go.Proofs.YtbpmjjbccaanfaaW.PrintWords Go.Proofs.YtbpmjjbccaanfaaW.PrintLast Go.Proofs.YtbpmjjbccaanfaaW.PrintMore
set_option linter.unusedVariables false
set_option linter.unusedSimpArgs false
set_option maxRecDepth 100000 in
set_option maxHeartbeats 2000000 in
theorem longs48 (b : Nat) (w : World) : Calls Try.prog 48 #[.pointer (some ⟨b, 0, none⟩)] w fun e w' => e = .returned (.agg #[.pointer (some ⟨b, 14, none⟩), .pointer (some ⟨b, 16, none⟩), .pointer (some ⟨b, 18, none⟩), .pointer (some ⟨b, 20, none⟩)]) ∧ Below w.heap.size w w' := by
  go_enter Try.func48, Try.ntmps48
  go_wp2
  go_region_with fail
  all_goals go_wp2
  all_goals refine bodyPost_ret (results_single rfl (.cell w.heap.size 108 _ (0, 0) _ rfl (blk_drew (blk_new w _)) Try.underlying108 rfl (by kernel_rfl) .nil)) rfl ?_
  all_goals exact ⟨rfl, below_drew (below_alloc (Below.refl _ _) _)⟩
theorem idx108 (p0 p1 p2 p3 : Option Addr) (W : World) :
    (Instr.index 108 (.agg #[.pointer p0, .pointer p1, .pointer p2, .pointer p3]) (.int .i64 0)).run Try.prog W = .ok (.pointer p0) W ∧
    (Instr.index 108 (.agg #[.pointer p0, .pointer p1, .pointer p2, .pointer p3]) (.int .i64 1)).run Try.prog W = .ok (.pointer p1) W ∧
    (Instr.index 108 (.agg #[.pointer p0, .pointer p1, .pointer p2, .pointer p3]) (.int .i64 2)).run Try.prog W = .ok (.pointer p2) W ∧
    (Instr.index 108 (.agg #[.pointer p0, .pointer p1, .pointer p2, .pointer p3]) (.int .i64 3)).run Try.prog W = .ok (.pointer p3) W := by
  refine ⟨?_, ?_, ?_, ?_⟩
  all_goals simp [Instr.index, run_underlying Try.underlying108, asIntOf, go_sem]
/-- a row of bytes of the call's own, behind what lay below 'base' in w0 -/
structure RB (w0 : World) (base : Nat) (W : World) (v : Value) (xs : List Int) : Prop where
  row : RowB W base v xs
  bel : Below base w0 W
  le : base ≤ W.heap.size
theorem RB.call {w0 W w1 : World} {base : Nat} {v : Value} {xs : List Int} (h : RB w0 base W v xs) (hb : Below W.heap.size W w1) : RB w0 base w1 v xs := ⟨h.row.below hb, below_then h.bel h.le hb, Nat.le_trans h.le hb.size⟩
theorem RB.drew {w0 W : World} {base : Nat} {v : Value} {xs : List Int} (h : RB w0 base W v xs) : RB w0 base W.drew v xs := ⟨h.row, below_drew h.bel, h.le⟩
theorem RB.cell {w0 W : World} {base : Nat} {v : Value} {xs : List Int} (h : RB w0 base W v xs) (b o : Nat) (hb : b < base) : W.cell? ⟨b, o, none⟩ = w0.cell? ⟨b, o, none⟩ := h.bel.cell (p := ⟨b, o, none⟩) hb
theorem op_row {o : Oper} {a : Act} {W : World} {K : Act → World → Prop} {Q : Exit → Act → World → Prop} {w0 : World} {base : Nat} {v : Value} {xs ys : List Int} {A : Option Addr} {c : Nat} (HO : Aside0 (RB w0 base W v xs)) (HR : Aside0 (ReadsInt W .u8 A ys.length ys)) (hy : 0 < ys.length)
    (s x : Operand) (ho : o.op = .call { callee := .builtin .append, args := #[s, x], argTypes := #[32, 32] }) (hs : a.eval s = v) (hx : a.eval x = .slice A ys.length c) (hl : xs.length + ys.length ≤ 140737488355328)
    (h : ∀ v1 w1, Aside0 (RB w0 base w1 v1 (xs ++ ys)) → K (a.put o.dst v1) w1) : o.wp Try.prog a W K Q := by
  obtain ⟨i0, hi, hz0, hz1, hz2⟩ := info_parts info5
  obtain ⟨ad, rfl, hcs⟩ := HR.out.2.2 hy
  have hrow := HO.out.row
  refine wp_append_own W s x 32 ho base 5 i0 (.int .u8 0) 1 1 Try.underlying32 hi hz0 hz1 hz2 rfl (by decide) v xs.length _ hs hrow ad ys.length c (nums .u8 ys) hx (by simp [nums]) ?_ ?_ (by simp [maxLen]; omega) (by omega) HO.out.le ?_
  · intro j u hu
    have hj : j < ys.length := by
      have := (List.getElem?_eq_some_iff.1 hu).1
      simpa [nums] using this
    rw [hcs j hj, ← hu]
    simp [nums, hj]
  · intro u hu
    simp only [nums, List.mem_map] at hu
    obtain ⟨y, _, rfl⟩ := hu
    rfl
  · intro v' w' hown hg _
    refine h v' w' ⟨⟨?_, HO.out.bel.grown hg HO.out.le (fun k e => (hrow.lt k e).1), Nat.le_trans HO.out.le hg.size⟩⟩
    unfold RowB
    rw [List.length_append]
    simpa [nums] using hown
theorem app_row {ops : Array Oper} {rest : List Oper} {o : Oper} {a : Act} {W : World} {Q : Exit → Act → World → Prop} {w0 : World} {base : Nat} {v : Value} {xs ys : List Int} {A : Option Addr} {c : Nat} (HO : Aside0 (RB w0 base W v xs)) (HR : Aside0 (ReadsInt W .u8 A ys.length ys)) (hy : 0 < ys.length) (hg : o.guard = none)
    (s x : Operand) (ho : o.op = .call { callee := .builtin .append, args := #[s, x], argTypes := #[32, 32] }) (hs : a.eval s = v) (hx : a.eval x = .slice A ys.length c) (hl : xs.length + ys.length ≤ 140737488355328)
    (h : ∀ v1 w1, Aside0 (RB w0 base w1 v1 (xs ++ ys)) → wpList Try.prog ops Q rest (a.put o.dst v1) w1) : wpList Try.prog ops Q (o :: rest) a W :=
  wpList_plain hg fun K hK => op_row HO HR hy s x ho hs hx hl fun v1 w1 hh => hK _ _ (h v1 w1 hh)
/-- the first byte -/
def HdS.first (h : HdS) : Int := h.l * 64 + h.v * 8 + h.m
def HdS.bytes (h : HdS) : List Int := [h.first, h.st, h.po % 256, h.pr % 256] ++ (be2 h.d0 ++ be2 h.d1) ++ (be2 h.e0 ++ be2 h.e1) ++ [h.r0, h.r1, h.r2, h.r3] ++ (be4 h.a0 ++ be4 h.a1) ++ (be4 h.b0 ++ be4 h.b1) ++ (be4 h.c0 ++ be4 h.c1) ++ (be4 h.t0 ++ be4 h.t1)
structure HdS.wf (h : HdS) : Prop where
  st_ : 0 ≤ h.st ∧ h.st ≤ 255
  po_ : -128 ≤ h.po ∧ h.po ≤ 127
  pr_ : -128 ≤ h.pr ∧ h.pr ≤ 127
  d0_ : 0 ≤ h.d0 ∧ h.d0 ≤ 65535
  d1_ : 0 ≤ h.d1 ∧ h.d1 ≤ 65535
  e0_ : 0 ≤ h.e0 ∧ h.e0 ≤ 65535
  e1_ : 0 ≤ h.e1 ∧ h.e1 ≤ 65535
  r0_ : 0 ≤ h.r0 ∧ h.r0 ≤ 255
  r1_ : 0 ≤ h.r1 ∧ h.r1 ≤ 255
  r2_ : 0 ≤ h.r2 ∧ h.r2 ≤ 255
  r3_ : 0 ≤ h.r3 ∧ h.r3 ≤ 255
  a0_ : 0 ≤ h.a0 ∧ h.a0 ≤ 4294967295
  a1_ : 0 ≤ h.a1 ∧ h.a1 ≤ 4294967295
  b0_ : 0 ≤ h.b0 ∧ h.b0 ≤ 4294967295
  b1_ : 0 ≤ h.b1 ∧ h.b1 ≤ 4294967295
  c0_ : 0 ≤ h.c0 ∧ h.c0 ≤ 4294967295
  c1_ : 0 ≤ h.c1 ∧ h.c1 ≤ 4294967295
  t0_ : 0 ≤ h.t0 ∧ h.t0 ≤ 4294967295
  t1_ : 0 ≤ h.t1 ∧ h.t1 ≤ 4294967295
theorem reads_ref {h : HdS} {W : World} {b : Nat} (hc : ∀ o, W.cell? ⟨b, o, none⟩ = (#[.int .i64 h.l, .int .i64 h.v, .int .i64 h.m, .int .u8 h.st, .int .i8 h.po, .int .i8 h.pr, .int .u16 h.d0, .int .u16 h.d1, .int .u16 h.e0, .int .u16 h.e1, .int .u8 h.r0, .int .u8 h.r1, .int .u8 h.r2, .int .u8 h.r3, .int .u32 h.a0, .int .u32 h.a1, .int .u32 h.b0, .int .u32 h.b1, .int .u32 h.c0, .int .u32 h.c1, .int .u32 h.t0, .int .u32 h.t1] : Array Value)[o]?) : ReadsInt W .u8 (some ⟨b, 10, none⟩) [h.r0, h.r1, h.r2, h.r3].length [h.r0, h.r1, h.r2, h.r3] := by
  refine ⟨rfl, by simp, fun _ => ⟨_, rfl, ?_⟩⟩
  intro j hj
  match j, hj with
  | 0, _ => exact hc 10
  | 1, _ => exact hc 11
  | 2, _ => exact hc 12
  | 3, _ => exact hc 13
set_option maxHeartbeats 2000000 in
theorem put_no (h : HdS) (w : World) (ho : ¬ h.ok) : Calls Try.prog 9 #[.agg #[.int .i64 h.l, .int .i64 h.v, .int .i64 h.m, .int .u8 h.st, .int .i8 h.po, .int .i8 h.pr, .int .u16 h.d0, .int .u16 h.d1, .int .u16 h.e0, .int .u16 h.e1, .int .u8 h.r0, .int .u8 h.r1, .int .u8 h.r2, .int .u8 h.r3, .int .u32 h.a0, .int .u32 h.a1, .int .u32 h.b0, .int .u32 h.b1, .int .u32 h.c0, .int .u32 h.c1, .int .u32 h.t0, .int .u32 h.t1]] w fun e w' => e = .returned (.tuple #[.slice none 0 0, .iface 74 (.int .i64 1)]) ∧ Below w.heap.size w w' := by
  have hok := Aside0.mk ho
  clear ho
  go_enter Try.func9, Try.ntmps9
  go_wp2_with (first | (refine wpList_load_row rfl 31 (.tmp 1) rfl w.heap.size rfl 31 #[.int .i64 h.l, .int .i64 h.v, .int .i64 h.m, .int .u8 h.st, .int .i8 h.po, .int .i8 h.pr, .int .u16 h.d0, .int .u16 h.d1, .int .u16 h.e0, .int .u16 h.e1, .int .u8 h.r0, .int .u8 h.r1, .int .u8 h.r2, .int .u8 h.r3, .int .u32 h.a0, .int .u32 h.a1, .int .u32 h.b0, .int .u32 h.b1, .int .u32 h.c0, .int .u32 h.c1, .int .u32 h.t0, .int .u32 h.t1] (0, 0) _ (blk_new w _) Try.underlying31 rfl (by kernel_rfl) ?_) | (go_at_call 46; refine (check_no h _ hok.out).mono ?_; rintro e w' ⟨rfl, hb⟩))
  all_goals refine bodyPost_ret (results_tmp2 rfl _ _ _) rfl ?_
  all_goals exact ⟨rfl, below_over hb (below_alloc (Below.refl _ _) _)⟩
set_option maxRecDepth 100000 in
set_option maxHeartbeats 8000000 in
theorem put_ok (h : HdS) (w : World) (ho : h.ok) (hw : h.wf) : Calls Try.prog 9 #[.agg #[.int .i64 h.l, .int .i64 h.v, .int .i64 h.m, .int .u8 h.st, .int .i8 h.po, .int .i8 h.pr, .int .u16 h.d0, .int .u16 h.d1, .int .u16 h.e0, .int .u16 h.e1, .int .u8 h.r0, .int .u8 h.r1, .int .u8 h.r2, .int .u8 h.r3, .int .u32 h.a0, .int .u32 h.a1, .int .u32 h.b0, .int .u32 h.b1, .int .u32 h.c0, .int .u32 h.c1, .int .u32 h.t0, .int .u32 h.t1]] w fun e w' => ∃ v, e = .returned (.tuple #[v, .nilIface]) ∧ RowB w' w.heap.size v h.bytes ∧ Below w.heap.size w w' := by
  have hok := Aside0.mk ho
  obtain ⟨⟨h1, h2⟩, ⟨h3, h4⟩, ⟨h5, h6⟩⟩ := ho
  go_enter Try.func9, Try.ntmps9
  have V1 : bits .or .i64 (h.l * 64) (h.v * 8) = h.l * 64 + h.v * 8 := bits_join .i64 63 (by decide) (fun n h0 h1 => by rw [IntKind.wrap_i64]; omega) 6 (h.l * 64) (h.v * 8) (by omega) (by omega) (by omega) (by omega) (by omega) (by omega)
  have V2 : bits .or .i64 (h.l * 64 + h.v * 8) h.m = h.l * 64 + h.v * 8 + h.m := bits_join .i64 63 (by decide) (fun n h0 h1 => by rw [IntKind.wrap_i64]; omega) 3 (h.l * 64 + h.v * 8) h.m (by omega) (by omega) (by omega) (by omega) (by omega) (by omega)
  go_wp2_with (first | (refine wpList_load_row rfl 31 (.tmp 1) rfl w.heap.size rfl 31 #[.int .i64 h.l, .int .i64 h.v, .int .i64 h.m, .int .u8 h.st, .int .i8 h.po, .int .i8 h.pr, .int .u16 h.d0, .int .u16 h.d1, .int .u16 h.e0, .int .u16 h.e1, .int .u8 h.r0, .int .u8 h.r1, .int .u8 h.r2, .int .u8 h.r3, .int .u32 h.a0, .int .u32 h.a1, .int .u32 h.b0, .int .u32 h.b1, .int .u32 h.c0, .int .u32 h.c1, .int .u32 h.t0, .int .u32 h.t1] (0, 0) _ (blk_new w _) Try.underlying31 rfl (by kernel_rfl) ?_) | (go_at_call 46; refine (check_ok h _ hok.out).mono ?_; rintro e w' ⟨rfl, hb⟩; have hcell := fun o => hb.cell (p := ⟨w.heap.size, o, none⟩) (by simp)))
  obtain ⟨st0, st1⟩ := hw.st_
  obtain ⟨d00, d01⟩ := hw.d0_
  obtain ⟨d10, d11⟩ := hw.d1_
  obtain ⟨e00, e01⟩ := hw.e0_
  obtain ⟨e10, e11⟩ := hw.e1_
  obtain ⟨r00, r01⟩ := hw.r0_
  obtain ⟨r10, r11⟩ := hw.r1_
  obtain ⟨r20, r21⟩ := hw.r2_
  obtain ⟨r30, r31⟩ := hw.r3_
  obtain ⟨a00, a01⟩ := hw.a0_
  obtain ⟨a10, a11⟩ := hw.a1_
  obtain ⟨b00, b01⟩ := hw.b0_
  obtain ⟨b10, b11⟩ := hw.b1_
  obtain ⟨c00, c01⟩ := hw.c0_
  obtain ⟨c10, c11⟩ := hw.c1_
  obtain ⟨t00, t01⟩ := hw.t0_
  obtain ⟨t10, t11⟩ := hw.t1_
  have hy : w.heap.size < w'.heap.size := by have := hb.size; rw [World.size_alloc] at this; omega
  have HO0 : RB (w.alloc (.cells #[.int .i64 h.l, .int .i64 h.v, .int .i64 h.m, .int .u8 h.st, .int .i8 h.po, .int .i8 h.pr, .int .u16 h.d0, .int .u16 h.d1, .int .u16 h.e0, .int .u16 h.e1, .int .u8 h.r0, .int .u8 h.r1, .int .u8 h.r2, .int .u8 h.r3, .int .u32 h.a0, .int .u32 h.a1, .int .u32 h.b0, .int .u32 h.b1, .int .u32 h.c0, .int .u32 h.c1, .int .u32 h.t0, .int .u32 h.t1] 31)) (w.heap.size + 1) (w'.alloc (.cells #[.int .u8 (h.l * 64 + h.v * 8 + h.m), .int .u8 h.st, .int .u8 (h.po % 256), .int .u8 (h.pr % 256)] 5)) (.slice (some ⟨w'.heap.size, 0, none⟩) 4 4) [h.l * 64 + h.v * 8 + h.m, h.st, h.po % 256, h.pr % 256] :=
    ⟨own_lit w' (w.heap.size + 1) 5 .u8 [h.l * 64 + h.v * 8 + h.m, h.st, h.po % 256, h.pr % 256] (by omega) (by simp), (by rw [World.size_alloc] at hb; exact hb.alloc (by omega) _), by simp; omega⟩
  have HO := Aside0.mk HO0.drew
  clear hcell HO0 hw hok h1 h2 h3 h4 h5 h6 V1 V2 hb
  have hcell := fun o => (HO.out.cell w.heap.size o (by omega)).trans (cell_of_row _ _ o _ _ _ (blk_new w _))
  go_region_law (first
    | (refine op_row HO HR (by simp [be2]) _ _ rfl rfl rfl (by simp [be2]) ?_; intro v1 w1 HO1; clear HR HO; have HO := HO1; clear HO1; have hcell := fun o => (HO.out.cell w.heap.size o (by omega)).trans (cell_of_row _ _ o _ _ _ (blk_new w _)))
    | (go_simp; go_at_call 47; refine (bytes4 _ _ _ (by omega) (by omega) (by omega) (by omega)).mono ?_; rintro e w2 ⟨v, rfl, ho, hb2⟩; obtain ⟨A, c, rfl, hr⟩ := own_reads ho; replace HO := Aside0.mk (HO.out.call hb2); have HR := Aside0.mk hr; clear hr ho hb2; have hcell := fun o => (HO.out.cell w.heap.size o (by omega)).trans (cell_of_row _ _ o _ _ _ (blk_new w _))))
  all_goals have HR := Aside0.mk (reads_ref hcell)
  all_goals go_wp2_with (first | (at_builtin; refine app_row HO HR (by simp [be4, be2]) rfl _ _ rfl rfl rfl (by simp [be4, be2]) ?_; intro v1 w1 HO1; clear HR HO; have HO := HO1; clear HO1; have hcell := fun o => (HO.out.cell w.heap.size o (by omega)).trans (cell_of_row _ _ o _ _ _ (blk_new w _))) | (go_at_call 48; refine (longs48 _ _).mono ?_; rintro e w2 ⟨rfl, hb2⟩; replace HO := Aside0.mk (HO.out.call hb2); clear hb2; have hcell := fun o => (HO.out.cell w.heap.size o (by omega)).trans (cell_of_row _ _ o _ _ _ (blk_new w _))))
  all_goals have ix := fun W => idx108 (some ⟨w.heap.size, 14, none⟩) (some ⟨w.heap.size, 16, none⟩) (some ⟨w.heap.size, 18, none⟩) (some ⟨w.heap.size, 20, none⟩) W
  all_goals have ix0 := fun W => (ix W).1
  all_goals have ix1 := fun W => (ix W).2.1
  all_goals have ix2 := fun W => (ix W).2.2.1
  all_goals have ix3 := fun W => (ix W).2.2.2
  all_goals clear ix
  all_goals refine wp_loop_rounds 5 ?_
  all_goals rw [rounds_succ]
  all_goals go_wp2_with (first | (go_at_call 49; refine (bytes8 _ _ _ (by omega) (by omega) (by omega) (by omega)).mono ?_; rintro e w2 ⟨v, rfl, ho, hb2⟩; obtain ⟨A, c, rfl, hr⟩ := own_reads ho; replace HO := Aside0.mk (HO.out.call hb2); have HR := Aside0.mk hr; clear hr ho hb2; have hcell := fun o => (HO.out.cell w.heap.size o (by omega)).trans (cell_of_row _ _ o _ _ _ (blk_new w _))) | (at_builtin; refine app_row HO HR (by simp [be4, be2]) rfl _ _ rfl rfl rfl (by simp [be4, be2]) ?_; intro v1 w1 HO1; clear HR HO; have HO := HO1; clear HO1; have hcell := fun o => (HO.out.cell w.heap.size o (by omega)).trans (cell_of_row _ _ o _ _ _ (blk_new w _))))
  all_goals rw [rounds_succ]
  all_goals go_wp2_with (first | (go_at_call 49; refine (bytes8 _ _ _ (by omega) (by omega) (by omega) (by omega)).mono ?_; rintro e w2 ⟨v, rfl, ho, hb2⟩; obtain ⟨A, c, rfl, hr⟩ := own_reads ho; replace HO := Aside0.mk (HO.out.call hb2); have HR := Aside0.mk hr; clear hr ho hb2; have hcell := fun o => (HO.out.cell w.heap.size o (by omega)).trans (cell_of_row _ _ o _ _ _ (blk_new w _))) | (at_builtin; refine app_row HO HR (by simp [be4, be2]) rfl _ _ rfl rfl rfl (by simp [be4, be2]) ?_; intro v1 w1 HO1; clear HR HO; have HO := HO1; clear HO1; have hcell := fun o => (HO.out.cell w.heap.size o (by omega)).trans (cell_of_row _ _ o _ _ _ (blk_new w _))))
  all_goals rw [rounds_succ]
  all_goals go_wp2_with (first | (go_at_call 49; refine (bytes8 _ _ _ (by omega) (by omega) (by omega) (by omega)).mono ?_; rintro e w2 ⟨v, rfl, ho, hb2⟩; obtain ⟨A, c, rfl, hr⟩ := own_reads ho; replace HO := Aside0.mk (HO.out.call hb2); have HR := Aside0.mk hr; clear hr ho hb2; have hcell := fun o => (HO.out.cell w.heap.size o (by omega)).trans (cell_of_row _ _ o _ _ _ (blk_new w _))) | (at_builtin; refine app_row HO HR (by simp [be4, be2]) rfl _ _ rfl rfl rfl (by simp [be4, be2]) ?_; intro v1 w1 HO1; clear HR HO; have HO := HO1; clear HO1; have hcell := fun o => (HO.out.cell w.heap.size o (by omega)).trans (cell_of_row _ _ o _ _ _ (blk_new w _))))
  all_goals rw [rounds_succ]
  all_goals go_wp2_with (first | (go_at_call 49; refine (bytes8 _ _ _ (by omega) (by omega) (by omega) (by omega)).mono ?_; rintro e w2 ⟨v, rfl, ho, hb2⟩; obtain ⟨A, c, rfl, hr⟩ := own_reads ho; replace HO := Aside0.mk (HO.out.call hb2); have HR := Aside0.mk hr; clear hr ho hb2; have hcell := fun o => (HO.out.cell w.heap.size o (by omega)).trans (cell_of_row _ _ o _ _ _ (blk_new w _))) | (at_builtin; refine app_row HO HR (by simp [be4, be2]) rfl _ _ rfl rfl rfl (by simp [be4, be2]) ?_; intro v1 w1 HO1; clear HR HO; have HO := HO1; clear HO1; have hcell := fun o => (HO.out.cell w.heap.size o (by omega)).trans (cell_of_row _ _ o _ _ _ (blk_new w _))))
  all_goals rw [rounds_succ]
  all_goals go_wp2
  all_goals refine bodyPost_ret (results_tmp2 rfl _ _ _) rfl ?_
  all_goals exact ⟨_, rfl, HO.out.row.lower (by omega), (below_alloc (Below.refl _ _) _).trans (HO.out.bel.mono (by omega))⟩
end Go.Proofs.Ytbpmjjbccaanfaa.Hd
