import Derived.Test.YtbpmjjbccaanfaaHd20
namespace Go.Proofs.Ytbpmjjbccaanfaa.Hd
open Go.RowKit Go.Shelf Go.Proofs.YtbpmjjbccaanfaaW.PrintWords Go.Proofs.YtbpmjjbccaanfaaW.PrintLast Go.Proofs.YtbpmjjbccaanfaaW.PrintMore
set_option linter.unusedVariables false
set_option linter.unusedSimpArgs false
set_option maxRecDepth 100000 in
set_option maxHeartbeats 4000000 in
theorem back_yy (h : HdS) (hw : h.wf) (ho : h.ok) (s u q : Int) (s0 : -2147483648 ≤ s) (s1 : s ≤ 2147483647) (u0 : -2147483648 ≤ u) (u1 : u ≤ 2147483647) (q0 : -2147483648 ≤ q) (q1 : q ≤ 2147483647) (bl o n c : Nat) (bs : List Int) (w : World) (hn : 48 ≤ n) (hn2 : n ≤ 300) (hnc : n ≤ c) (hc2 : c ≤ 9223372036854775807) (hl : bs.length = 48) (hr : ReadsInt w .u8 (some ⟨bl, o, none⟩) bs.length bs) (hg : ∀ j, 0 ≤ bs.getD j 0 ∧ bs.getD j 0 ≤ 255) : Calls Try.prog 3 #[.agg #[.int .i64 h.l, .int .i64 h.v, .int .i64 h.m, .int .u8 h.st, .int .i8 h.po, .int .i8 h.pr, .int .u16 h.d0, .int .u16 h.d1, .int .u16 h.e0, .int .u16 h.e1, .int .u8 h.r0, .int .u8 h.r1, .int .u8 h.r2, .int .u8 h.r3, .int .u32 h.a0, .int .u32 h.a1, .int .u32 h.b0, .int .u32 h.b1, .int .u32 h.c0, .int .u32 h.c1, .int .u32 h.t0, .int .u32 h.t1], .slice (some ⟨bl, o, none⟩) n c, .agg #[.int .i32 s, .int .i32 u, .int .i32 q]] w fun e w' => e = .returned (.bool true) ∧ Below w.heap.size w w' := by
  replace ho := Aside0.mk ho
  obtain ⟨C, hC⟩ : ∃ C, IntKind.u64.wrap (IntKind.u64.wrap (h.b0 * 4294967296 + h.b1 + u % 4294967296) + IntKind.u64.wrap s) = C := ⟨_, rfl⟩
  obtain ⟨T, hT⟩ : ∃ T, IntKind.u64.wrap (IntKind.u64.wrap (IntKind.u64.wrap (h.b0 * 4294967296 + h.b1 + u % 4294967296) + q % 4294967296) + IntKind.u64.wrap s) = T := ⟨_, rfl⟩
  obtain ⟨hC0, hC1⟩ := u64_rng hC
  obtain ⟨hT0, hT1⟩ := u64_rng hT
  obtain ⟨E, hE⟩ : ∃ E, IntKind.u64.wrap (IntKind.u64.wrap (IntKind.u64.wrap (h.b0 * 4294967296 + h.b1 + u % 4294967296) + q % 4294967296) + u % 4294967296) = E := ⟨_, rfl⟩
  obtain ⟨hE0, hE1⟩ := u64_rng hE
  have RE := Aside0.mk (fun W => round_end h hw s u q C T E W s0 s1 hC.symm hT.symm hE.symm)
  replace hE := Aside0.mk hE
  replace hC := Aside0.mk hC
  replace hT := Aside0.mk hT
  replace hw := Aside0.mk hw
  have B0 := BAt.new w h s u q
  replace hr := Aside0.mk hr
  replace hg := Aside0.mk hg
  replace hl := Aside0.mk hl
  have hcn : (48 : Int) ≤ c := by omega
  go_enter Try.func3, Try.ntmps3
  go_wp2_with (first
    | (go_at_call 8; refine (alive8 _).mono ?_; rintro e w1 ⟨rfl, hb⟩; have B1 := B0.call hb; clear B0 hb)
    | (refine wpList_load_row rfl 31 (.tmp 3) rfl w.heap.size rfl 31 #[.int .i64 h.l, .int .i64 h.v, .int .i64 h.m, .int .u8 h.st, .int .i8 h.po, .int .i8 h.pr, .int .u16 h.d0, .int .u16 h.d1, .int .u16 h.e0, .int .u16 h.e1, .int .u8 h.r0, .int .u8 h.r1, .int .u8 h.r2, .int .u8 h.r3, .int .u32 h.a0, .int .u32 h.a1, .int .u32 h.b0, .int .u32 h.b1, .int .u32 h.c0, .int .u32 h.c1, .int .u32 h.t0, .int .u32 h.t1] (0, 0) _ B1.a Try.underlying31 rfl (by kernel_rfl) ?_)
    | (go_at_call 9; (with_reducible refine (put_ok h _ ho.out hw.out).mono ?_); rintro e w2 ⟨v, rfl, hro, hb⟩; obtain ⟨ga, cc, rfl, hcap, hcap2, hlow, hlt, hcs⟩ := row_use (n := 48) hro (by rfl) (by omega); clear hro hlow hlt; have B2a := B1.call hb; clear B1 hb)
    | (go_at_call 10; (with_reducible refine (parse_put h hw.out ho.out ga cc _ hcap hcap2 hcs).mono ?_); rintro e w3a ⟨rfl, hb⟩; have B3a := B2a.call hb; clear B2a hb hcs)
    | (refine wpList_store_row rfl 31 (.tmp 9) (.tmp 37) rfl w3a.heap.size #[.int .i64 h.l, .int .i64 h.v, .int .i64 h.m, .int .u8 h.st, .int .i8 h.po, .int .i8 h.pr, .int .u16 h.d0, .int .u16 h.d1, .int .u16 h.e0, .int .u16 h.e1, .int .u8 h.r0, .int .u8 h.r1, .int .u8 h.r2, .int .u8 h.r3, .int .u32 h.a0, .int .u32 h.a1, .int .u32 h.b0, .int .u32 h.b1, .int .u32 h.c0, .int .u32 h.c1, .int .u32 h.t0, .int .u32 h.t1] rfl rfl 31 _ (blk_new w3a _) (by kernel_rfl) rfl (by kernel_rfl) ?_; have B4a := (B3a.alloc (.cells #[.int .i64 0, .int .i64 0, .int .i64 0, .int .u8 0, .int .i8 0, .int .i8 0, .int .u16 0, .int .u16 0, .int .u16 0, .int .u16 0, .int .u8 0, .int .u8 0, .int .u8 0, .int .u8 0, .int .u32 0, .int .u32 0, .int .u32 0, .int .u32 0, .int .u32 0, .int .u32 0, .int .u32 0, .int .u32 0] 31)).setRow w3a.heap.size B3a.lt #[.int .i64 h.l, .int .i64 h.v, .int .i64 h.m, .int .u8 h.st, .int .i8 h.po, .int .i8 h.pr, .int .u16 h.d0, .int .u16 h.d1, .int .u16 h.e0, .int .u16 h.e1, .int .u8 h.r0, .int .u8 h.r1, .int .u8 h.r2, .int .u8 h.r3, .int .u32 h.a0, .int .u32 h.a1, .int .u32 h.b0, .int .u32 h.b1, .int .u32 h.c0, .int .u32 h.c1, .int .u32 h.t0, .int .u32 h.t1]; have HQ : ((w3a.alloc (.cells #[.int .i64 0, .int .i64 0, .int .i64 0, .int .u8 0, .int .i8 0, .int .i8 0, .int .u16 0, .int .u16 0, .int .u16 0, .int .u16 0, .int .u8 0, .int .u8 0, .int .u8 0, .int .u8 0, .int .u32 0, .int .u32 0, .int .u32 0, .int .u32 0, .int .u32 0, .int .u32 0, .int .u32 0, .int .u32 0] 31)).setRow w3a.heap.size #[.int .i64 h.l, .int .i64 h.v, .int .i64 h.m, .int .u8 h.st, .int .i8 h.po, .int .i8 h.pr, .int .u16 h.d0, .int .u16 h.d1, .int .u16 h.e0, .int .u16 h.e1, .int .u8 h.r0, .int .u8 h.r1, .int .u8 h.r2, .int .u8 h.r3, .int .u32 h.a0, .int .u32 h.a1, .int .u32 h.b0, .int .u32 h.b1, .int .u32 h.c0, .int .u32 h.c1, .int .u32 h.t0, .int .u32 h.t1]).heap[w3a.heap.size]? = some (.cells #[.int .i64 h.l, .int .i64 h.v, .int .i64 h.m, .int .u8 h.st, .int .i8 h.po, .int .i8 h.pr, .int .u16 h.d0, .int .u16 h.d1, .int .u16 h.e0, .int .u16 h.e1, .int .u8 h.r0, .int .u8 h.r1, .int .u8 h.r2, .int .u8 h.r3, .int .u32 h.a0, .int .u32 h.a1, .int .u32 h.b0, .int .u32 h.b1, .int .u32 h.c0, .int .u32 h.c1, .int .u32 h.t0, .int .u32 h.t1] 31 (0, 0)) := blk_row (blk_new w3a _) _; generalize (w3a.alloc (.cells #[.int .i64 0, .int .i64 0, .int .i64 0, .int .u8 0, .int .i8 0, .int .i8 0, .int .u16 0, .int .u16 0, .int .u16 0, .int .u16 0, .int .u8 0, .int .u8 0, .int .u8 0, .int .u8 0, .int .u32 0, .int .u32 0, .int .u32 0, .int .u32 0, .int .u32 0, .int .u32 0, .int .u32 0, .int .u32 0] 31)).setRow w3a.heap.size #[.int .i64 h.l, .int .i64 h.v, .int .i64 h.m, .int .u8 h.st, .int .i8 h.po, .int .i8 h.pr, .int .u16 h.d0, .int .u16 h.d1, .int .u16 h.e0, .int .u16 h.e1, .int .u8 h.r0, .int .u8 h.r1, .int .u8 h.r2, .int .u8 h.r3, .int .u32 h.a0, .int .u32 h.a1, .int .u32 h.b0, .int .u32 h.b1, .int .u32 h.c0, .int .u32 h.c1, .int .u32 h.t0, .int .u32 h.t1] = B2w at B4a HQ ⊢; clear B3a)
    | (refine wpList_load_if (by rfl) 31 (.tmp 9) rfl w3a.heap.size rfl 31 #[.int .i64 h.l, .int .i64 h.v, .int .i64 h.m, .int .u8 h.st, .int .i8 h.po, .int .i8 h.pr, .int .u16 h.d0, .int .u16 h.d1, .int .u16 h.e0, .int .u16 h.e1, .int .u8 h.r0, .int .u8 h.r1, .int .u8 h.r2, .int .u8 h.r3, .int .u32 h.a0, .int .u32 h.a1, .int .u32 h.b0, .int .u32 h.b1, .int .u32 h.c0, .int .u32 h.c1, .int .u32 h.t0, .int .u32 h.t1] (0, 0) _ HQ Try.underlying31 rfl (by kernel_rfl) ?_)
    | (refine wpList_load_if (by rfl) 31 (.tmp 3) rfl w.heap.size rfl 31 #[.int .i64 h.l, .int .i64 h.v, .int .i64 h.m, .int .u8 h.st, .int .i8 h.po, .int .i8 h.pr, .int .u16 h.d0, .int .u16 h.d1, .int .u16 h.e0, .int .u16 h.e1, .int .u8 h.r0, .int .u8 h.r1, .int .u8 h.r2, .int .u8 h.r3, .int .u32 h.a0, .int .u32 h.a1, .int .u32 h.b0, .int .u32 h.b1, .int .u32 h.c0, .int .u32 h.c1, .int .u32 h.t0, .int .u32 h.t1] (0, 0) _ B4a.a Try.underlying31 rfl (by kernel_rfl) ?_)
    | (refine wpList_neq31 (by rfl) (.tmp 42) (.tmp 43) rfl h (by rfl) (by rfl) ?_; have B2 := B4a; clear HQ B4a)
    | (go_at_call 10; (with_reducible refine (parse_bs bl o n c bs _ hn hnc hc2 hl.out (hr.out.below (BAt.below_ B2)) hg.out).mono ?_); rintro e w3 ⟨k, rfl, hk, hkw, hko, hb⟩; have B3 := B2.call hb; clear B2 hb; replace hk := Aside0.mk hk; replace hkw := Aside0.mk hkw; replace hko := Aside0.mk hko)
    | (refine wpList_store_row rfl 31 (.tmp 11) (.tmp 54) rfl w3.heap.size #[.int .i64 k.l, .int .i64 k.v, .int .i64 k.m, .int .u8 k.st, .int .i8 k.po, .int .i8 k.pr, .int .u16 k.d0, .int .u16 k.d1, .int .u16 k.e0, .int .u16 k.e1, .int .u8 k.r0, .int .u8 k.r1, .int .u8 k.r2, .int .u8 k.r3, .int .u32 k.a0, .int .u32 k.a1, .int .u32 k.b0, .int .u32 k.b1, .int .u32 k.c0, .int .u32 k.c1, .int .u32 k.t0, .int .u32 k.t1] rfl rfl 31 _ (blk_new w3 _) (by kernel_rfl) rfl (by kernel_rfl) ?_; have B5a := (B3.alloc (.cells #[.int .i64 0, .int .i64 0, .int .i64 0, .int .u8 0, .int .i8 0, .int .i8 0, .int .u16 0, .int .u16 0, .int .u16 0, .int .u16 0, .int .u8 0, .int .u8 0, .int .u8 0, .int .u8 0, .int .u32 0, .int .u32 0, .int .u32 0, .int .u32 0, .int .u32 0, .int .u32 0, .int .u32 0, .int .u32 0] 31)).setRow w3.heap.size B3.lt #[.int .i64 k.l, .int .i64 k.v, .int .i64 k.m, .int .u8 k.st, .int .i8 k.po, .int .i8 k.pr, .int .u16 k.d0, .int .u16 k.d1, .int .u16 k.e0, .int .u16 k.e1, .int .u8 k.r0, .int .u8 k.r1, .int .u8 k.r2, .int .u8 k.r3, .int .u32 k.a0, .int .u32 k.a1, .int .u32 k.b0, .int .u32 k.b1, .int .u32 k.c0, .int .u32 k.c1, .int .u32 k.t0, .int .u32 k.t1]; have HQ : ((w3.alloc (.cells #[.int .i64 0, .int .i64 0, .int .i64 0, .int .u8 0, .int .i8 0, .int .i8 0, .int .u16 0, .int .u16 0, .int .u16 0, .int .u16 0, .int .u8 0, .int .u8 0, .int .u8 0, .int .u8 0, .int .u32 0, .int .u32 0, .int .u32 0, .int .u32 0, .int .u32 0, .int .u32 0, .int .u32 0, .int .u32 0] 31)).setRow w3.heap.size #[.int .i64 k.l, .int .i64 k.v, .int .i64 k.m, .int .u8 k.st, .int .i8 k.po, .int .i8 k.pr, .int .u16 k.d0, .int .u16 k.d1, .int .u16 k.e0, .int .u16 k.e1, .int .u8 k.r0, .int .u8 k.r1, .int .u8 k.r2, .int .u8 k.r3, .int .u32 k.a0, .int .u32 k.a1, .int .u32 k.b0, .int .u32 k.b1, .int .u32 k.c0, .int .u32 k.c1, .int .u32 k.t0, .int .u32 k.t1]).heap[w3.heap.size]? = some (.cells #[.int .i64 k.l, .int .i64 k.v, .int .i64 k.m, .int .u8 k.st, .int .i8 k.po, .int .i8 k.pr, .int .u16 k.d0, .int .u16 k.d1, .int .u16 k.e0, .int .u16 k.e1, .int .u8 k.r0, .int .u8 k.r1, .int .u8 k.r2, .int .u8 k.r3, .int .u32 k.a0, .int .u32 k.a1, .int .u32 k.b0, .int .u32 k.b1, .int .u32 k.c0, .int .u32 k.c1, .int .u32 k.t0, .int .u32 k.t1] 31 (0, 0)) := blk_row (blk_new w3 _) _; generalize (w3.alloc (.cells #[.int .i64 0, .int .i64 0, .int .i64 0, .int .u8 0, .int .i8 0, .int .i8 0, .int .u16 0, .int .u16 0, .int .u16 0, .int .u16 0, .int .u8 0, .int .u8 0, .int .u8 0, .int .u8 0, .int .u32 0, .int .u32 0, .int .u32 0, .int .u32 0, .int .u32 0, .int .u32 0, .int .u32 0, .int .u32 0] 31)).setRow w3.heap.size #[.int .i64 k.l, .int .i64 k.v, .int .i64 k.m, .int .u8 k.st, .int .i8 k.po, .int .i8 k.pr, .int .u16 k.d0, .int .u16 k.d1, .int .u16 k.e0, .int .u16 k.e1, .int .u8 k.r0, .int .u8 k.r1, .int .u8 k.r2, .int .u8 k.r3, .int .u32 k.a0, .int .u32 k.a1, .int .u32 k.b0, .int .u32 k.b1, .int .u32 k.c0, .int .u32 k.c1, .int .u32 k.t0, .int .u32 k.t1] = W4a at B5a HQ ⊢; clear B3)
    | (refine wpList_load_row rfl 31 (.tmp 11) rfl w3.heap.size rfl 31 #[.int .i64 k.l, .int .i64 k.v, .int .i64 k.m, .int .u8 k.st, .int .i8 k.po, .int .i8 k.pr, .int .u16 k.d0, .int .u16 k.d1, .int .u16 k.e0, .int .u16 k.e1, .int .u8 k.r0, .int .u8 k.r1, .int .u8 k.r2, .int .u8 k.r3, .int .u32 k.a0, .int .u32 k.a1, .int .u32 k.b0, .int .u32 k.b1, .int .u32 k.c0, .int .u32 k.c1, .int .u32 k.t0, .int .u32 k.t1] (0, 0) _ HQ Try.underlying31 rfl (by kernel_rfl) ?_)
    | (go_at_call 9; (with_reducible refine (put_ok k _ hko.out hkw.out).mono ?_); rintro e w4 ⟨v, rfl, hro, hb⟩; replace hro := Aside0.mk (hk.out ▸ hro); have B6a := B5a.call hb; clear B5a hb HQ; obtain ⟨ga2, cc2, rfl, hcap3, hcap4, hgr⟩ := row_reads hro.out hl.out; replace hgr := Aside0.mk hgr; clear hro)
    | (go_at_call 11; refine (bytes48 _ _ _ _ bs _ hl.out hgr.out (hr.out.below (BAt.below_ B6a)) hg.out).mono ?_; rintro e w5 ⟨rfl, rfl⟩))
  have B4 := B6a
  clear B6a hgr hcap3 hcap4 hk hkw hko
  generalize w4 = W4 at B4 ⊢
  have c0 := B4.drew.b
  have x0 : W4.drew.cell? ⟨w.heap.size + 1, 0, none⟩ = some (.int .i32 s) := blk_cell B4.drew.b 0
  have x1 : W4.drew.cell? ⟨w.heap.size + 1, 1, none⟩ = some (.int .i32 u) := blk_cell B4.drew.b 1
  have x2 : W4.drew.cell? ⟨w.heap.size + 1, 2, none⟩ = some (.int .i32 q) := blk_cell B4.drew.b 2
  clear c0
  go_region
  have B5 := B4.drew
  clear B4 x0 x1 x2
  generalize W4.drew = W5 at B5 ⊢
  have y16 : W5.cell? ⟨w.heap.size, 16, none⟩ = some (.int .u32 h.b0) := blk_cell B5.a 16
  have y17 : W5.cell? ⟨w.heap.size, 17, none⟩ = some (.int .u32 h.b1) := blk_cell B5.a 17
  go_wp2_with (first
    | (go_at_call 12; refine (bits12 h.b0 h.b1 _ hw.out.b0_.1 hw.out.b0_.2 hw.out.b1_.1 hw.out.b1_.2).mono ?_; rintro e w5 ⟨rfl, hb⟩; have B6 := B5.call hb; clear B5 hb y16 y17)
    | (go_at_call 13; refine (mk13e _ C _ ?_ hC0 hC1).mono ?_; exact hC.out; rintro e w6 ⟨rfl, hb⟩; have B7 := B6.call hb; clear B6 hb)
    | (go_at_call 13; refine (mk13e _ T _ ?_ hT0 hT1).mono ?_; exact hT.out; rintro e w7 ⟨rfl, hb⟩; have B8 := B7.call hb; clear B7 hb; have hcA := fun o => blk_cell B8.a o; have hfA := fun o => blk_frozen B8.a o))
  have B9 : BAt w ⟨h.l, h.v, h.m, h.st, h.po, h.pr, h.d0, h.d1, h.e0, h.e1, h.r0, h.r1, h.r2, h.r3, h.a0, h.a1, h.b0, h.b1, C / 4294967296, C % 4294967296, T / 4294967296, T % 4294967296⟩ s u q (w7.setCell ⟨w.heap.size, 18, none⟩ (.int .u32 (C / 4294967296)) |>.setCell ⟨w.heap.size, 19, none⟩ (.int .u32 (C % 4294967296)) |>.setCell ⟨w.heap.size, 20, none⟩ (.int .u32 (T / 4294967296)) |>.setCell ⟨w.heap.size, 21, none⟩ (.int .u32 (T % 4294967296))) := by
    refine ⟨?_, blk_far (blk_far (blk_far (blk_far B8.b (by simp) _) (by simp) _) (by simp) _) (by simp) _, ((((B8.bel.setCell (Nat.le_refl _) _).setCell (Nat.le_refl _) _).setCell (Nat.le_refl _) _).setCell (Nat.le_refl _) _)⟩
    exact blk_put (blk_put (blk_put (blk_put B8.a 18 _ (by rfl)) 19 _ (by rfl)) 20 _ (by rfl)) 21 _ (by rfl)
  clear hcA hfA
  generalize (w7.setCell ⟨w.heap.size, 18, none⟩ (.int .u32 (C / 4294967296)) |>.setCell ⟨w.heap.size, 19, none⟩ (.int .u32 (C % 4294967296)) |>.setCell ⟨w.heap.size, 20, none⟩ (.int .u32 (T / 4294967296)) |>.setCell ⟨w.heap.size, 21, none⟩ (.int .u32 (T % 4294967296))) = W8 at B9 ⊢
  refine wp_region_held_drew (S := fun w' => BAt w ⟨h.l, h.v, h.m, h.st, h.po, h.pr, h.d0, h.d1, h.e0, h.e1, h.r0, h.r1, h.r2, h.r3, h.a0, h.a1, h.b0, h.b1, C / 4294967296, C % 4294967296, T / 4294967296, T % 4294967296⟩ s u q w') (by kernel_rfl) B9.drew (fun hHeld => ?_)
  clear B9
  refine take_load 0 106 31 (.tmp 3) (by rfl) (by rfl) (by rfl) (by rfl) (by kernel_rfl) (by kernel_rfl) (by kernel_rfl) (by exact fun _ _ _ _ h => h) (w.heap.size) (by rfl) _ (fun W hSw => BAt.load hSw) hHeld ?_
  try simp only [Act.put, List.setIfInBounds_toArray, List.set_cons_zero, List.set_cons_succ]
  refine take_pure 1 107 (by rfl) (by rfl) (by rfl) (by kernel_rfl) (by kernel_rfl) (by kernel_rfl) (by exact fun _ _ _ h => h) (v := ?_) (fun W => ?_) hHeld ?_
  rotate_left
  · go_simp
    try with_reducible rfl
  try simp only [Act.put, List.setIfInBounds_toArray, List.set_cons_zero, List.set_cons_succ]
  refine take_pure 2 108 (by rfl) (by rfl) (by rfl) (by kernel_rfl) (by kernel_rfl) (by kernel_rfl) (by exact fun _ _ _ h => h) (v := ?_) (fun W => ?_) hHeld ?_
  rotate_left
  · go_simp
    try with_reducible rfl
  try simp only [Act.put, List.setIfInBounds_toArray, List.set_cons_zero, List.set_cons_succ]
  refine take_pure 3 109 (by rfl) (by rfl) (by rfl) (by kernel_rfl) (by kernel_rfl) (by kernel_rfl) (by exact fun _ _ _ h => h) (v := ?_) (fun W => ?_) hHeld ?_
  rotate_left
  · go_simp
    try with_reducible rfl
  try simp only [Act.put, List.setIfInBounds_toArray, List.set_cons_zero, List.set_cons_succ]
  refine take_pure 4 110 (by rfl) (by rfl) (by rfl) (by kernel_rfl) (by kernel_rfl) (by kernel_rfl) (by exact fun _ _ _ h => h) (v := ?_) (fun W => ?_) hHeld ?_
  rotate_left
  · go_simp
    try with_reducible rfl
  try simp only [Act.put, List.setIfInBounds_toArray, List.set_cons_zero, List.set_cons_succ]
  refine take_pure 5 111 (by rfl) (by rfl) (by rfl) (by kernel_rfl) (by kernel_rfl) (by kernel_rfl) (by exact fun _ _ _ h => h) (v := ?_) (fun W => ?_) hHeld ?_
  rotate_left
  · go_simp
    try with_reducible rfl
  try simp only [Act.put, List.setIfInBounds_toArray, List.set_cons_zero, List.set_cons_succ]
  refine take_pure 6 112 (by rfl) (by rfl) (by rfl) (by kernel_rfl) (by kernel_rfl) (by kernel_rfl) (by exact fun _ _ _ h => h) (v := ?_) (fun W => ?_) hHeld ?_
  rotate_left
  · go_simp
    try with_reducible rfl
  try simp only [Act.put, List.setIfInBounds_toArray, List.set_cons_zero, List.set_cons_succ]
  refine take_pure 7 113 (by rfl) (by rfl) (by rfl) (by kernel_rfl) (by kernel_rfl) (by kernel_rfl) (by exact fun _ _ _ h => h) (v := ?_) (fun W => ?_) hHeld ?_
  rotate_left
  · go_simp
    try with_reducible rfl
  try simp only [Act.put, List.setIfInBounds_toArray, List.set_cons_zero, List.set_cons_succ]
  refine take_pure 8 114 (by rfl) (by rfl) (by rfl) (by kernel_rfl) (by kernel_rfl) (by kernel_rfl) (by exact fun _ _ _ h => h) (v := ?_) (fun W => ?_) hHeld ?_
  rotate_left
  · go_simp
    try with_reducible rfl
  try simp only [Act.put, List.setIfInBounds_toArray, List.set_cons_zero, List.set_cons_succ]
  refine wpAnyH_ready (rs := [9]) (by kernel_rfl) (by simp) ?_
  refine AllReadyH.cons rfl (fun K hK => ?_) AllReadyH.nil
  go_simp
  go_at_call 13
  refine (mk13e _ E _ ?_ hE0 hE1).mono ?_
  · exact hE.out
  rintro e w8 ⟨rfl, hb⟩
  go_simp
  refine hK.out _ _ (BAt.call hHeld hb) (fun hHeld2 => ?_)
  clear hK K hHeld hb
  have hHeld := hHeld2
  clear hHeld2
  try simp only [Act.put, List.setIfInBounds_toArray, List.set_cons_zero, List.set_cons_succ]
  refine wpAnyH_ready (rs := [10]) (by kernel_rfl) (by simp) ?_
  refine AllReadyH.cons rfl (fun K hK => ?_) AllReadyH.nil
  go_simp
  go_at_call 14
  refine (RE.out _).mono ?_
  rintro e w9 ⟨rfl, hb⟩
  go_simp
  refine hK.out _ _ (BAt.call hHeld hb) (fun hHeld2 => ?_)
  clear hK K hHeld hb
  have hHeld := hHeld2
  clear hHeld2
  try simp only [Act.put, List.setIfInBounds_toArray, List.set_cons_zero, List.set_cons_succ]
  refine take_pure 11 105 (by rfl) (by rfl) (by rfl) (by kernel_rfl) (by kernel_rfl) (by kernel_rfl) (by exact fun _ _ _ h => h) (v := ?_) (fun W => ?_) hHeld ?_
  rotate_left
  · go_simp
    try with_reducible rfl
  try simp only [Act.put, List.setIfInBounds_toArray, List.set_cons_zero, List.set_cons_succ]
  refine take_pure 12 117 (by rfl) (by rfl) (by rfl) (by kernel_rfl) (by kernel_rfl) (by kernel_rfl) (by exact fun _ _ _ h => h) (v := ?_) (fun W => ?_) hHeld ?_
  rotate_left
  · go_simp
    try with_reducible rfl
  try simp only [Act.put, List.setIfInBounds_toArray, List.set_cons_zero, List.set_cons_succ]
  refine take_pure 13 118 (by rfl) (by rfl) (by rfl) (by kernel_rfl) (by kernel_rfl) (by kernel_rfl) (by exact fun _ _ _ h => h) (v := ?_) (fun W => ?_) hHeld ?_
  rotate_left
  · go_simp
    try with_reducible rfl
  try simp only [Act.put, List.setIfInBounds_toArray, List.set_cons_zero, List.set_cons_succ]
  refine take_pure 14 20 (by rfl) (by rfl) (by rfl) (by kernel_rfl) (by kernel_rfl) (by kernel_rfl) (by exact fun _ _ _ h => h) (v := ?_) (fun W => ?_) hHeld ?_
  rotate_left
  · go_simp
    try with_reducible rfl
  try simp only [Act.put, List.setIfInBounds_toArray, List.set_cons_zero, List.set_cons_succ]
  refine take_pure 15 21 (by rfl) (by rfl) (by rfl) (by kernel_rfl) (by kernel_rfl) (by kernel_rfl) (by exact fun _ _ _ h => h) (v := ?_) (fun W => ?_) hHeld ?_
  rotate_left
  · go_simp
    try with_reducible rfl
  try simp only [Act.put, List.setIfInBounds_toArray, List.set_cons_zero, List.set_cons_succ]
  refine wpAnyH_done (by kernel_rfl) ?_ _
  have x0 : w9.cell? ⟨w.heap.size + 1, 0, none⟩ = some (.int .i32 s) := blk_cell hHeld.b 0
  have HB := hHeld.bel
  clear hr hg hl
  clear hHeld RE hE hC hT hw ho hE0 hE1 hC0 hC1 hT0 hT1
  go_wp2
  go_ret
  exact ⟨rfl, HB⟩
end Go.Proofs.Ytbpmjjbccaanfaa.Hd
