import Derived.Test.YtbpmjjbccaanfaaHp1
import Derived.Laws.Tables
namespace Go.Proofs.Ytbpmjjbccaanfaa.Hd
open Go.RowKit Go.Shelf Go.Proofs.YtbpmjjbccaanfaaW.PrintWords Go.Proofs.YtbpmjjbccaanfaaW.PrintLast Go.Proofs.YtbpmjjbccaanfaaW.PrintMore
set_option linter.unusedVariables false
set_option linter.unusedSimpArgs false
theorem take_held {P : Program} {md : Region.Mode} {ops : Array Oper} {Q : Exit → Act → World → Prop} {S : World → Prop} {fuel : Nat} {listed : Array Bool} {a : Act} {w : World} {oi : Oper} (i d : Nat) {v : Value}
    (hi : ops[i]? = some oi) (hd : oi.dst = some d) (hw : Region.wanted oi (yielded ops a.tmps) = true) (hs : Region.noSelect ops = true) (hf : Region.free md ops listed i = true) (hr : (Region.ready md ops listed).contains i = true)
    (hQ : ∀ c a w, Q (.panic c) (a.put oi.dst v) w → Q (.panic c) a w) (hl : ∀ W, S W → (execOp a.eval oi).run P W = .ok (.value v) W) (hS : S w)
    (h : wpAnyH P md ops Q S fuel (listed.setIfInBounds i true) (a.put (some d) v) w) : wpAnyH P md ops Q S (fuel + 1) listed a w :=
  wpAnyH_take (v := v) hi hs hf hr hQ (.inl ⟨hw, hl⟩) hS (by rw [hd]; exact h)
/-- under way: a block, and one of its size -/
structure DAt (w : World) (xs : Array Value) (t1 t2 n2 : Nat) (W : World) : Prop where
  a : W.heap[w.heap.size]? = some (.cells xs t1 (0, 0))
  b : ∃ cs : Array Value, cs.size = n2 ∧ W.heap[w.heap.size + 1]? = some (.cells cs t2 (0, 0))
  bel : Below w.heap.size w W
theorem DAt.call {w W W1 : World} {xs : Array Value} {t1 t2 n2 : Nat} (H : DAt w xs t1 t2 n2 W) (hb : Below W.heap.size W W1) : DAt w xs t1 t2 n2 W1 := ⟨blk_below H.a hb, H.b.imp fun _ k => ⟨k.1, blk_below k.2 hb⟩, below_over hb H.bel⟩
theorem DAt.drew {w W : World} {xs : Array Value} {t1 t2 n2 : Nat} (H : DAt w xs t1 t2 n2 W) : DAt w xs t1 t2 n2 W.drew := ⟨H.a, H.b, below_drew H.bel⟩
theorem DAt.row {w W : World} {xs : Array Value} {t1 t2 n2 : Nat} (H : DAt w xs t1 t2 n2 W) (cs : Array Value) (hc : cs.size = n2) : DAt w xs t1 t2 n2 (W.setRow (w.heap.size + 1) cs) :=
  ⟨(setRow_other W _ _ cs (by omega)).trans H.a, ⟨cs, hc, by obtain ⟨c0, _, h0⟩ := H.b; exact blk_row h0 cs⟩, below_setRow H.bel (by omega) _⟩
set_option maxRecDepth 100000 in
set_option maxHeartbeats 8000000 in
theorem doc28 (h : HdS) (hw : h.wf) (w : World) : Calls Try.prog 28 #[.agg #[.int .i64 h.l, .int .i64 h.v, .int .i64 h.m, .int .u8 h.st, .int .i8 h.po, .int .i8 h.pr, .int .u16 h.d0, .int .u16 h.d1, .int .u16 h.e0, .int .u16 h.e1, .int .u8 h.r0, .int .u8 h.r1, .int .u8 h.r2, .int .u8 h.r3, .int .u32 h.a0, .int .u32 h.a1, .int .u32 h.b0, .int .u32 h.b1, .int .u32 h.c0, .int .u32 h.c1, .int .u32 h.t0, .int .u32 h.t1]] w fun e w' => e = .returned (.agg #[.int .i64 h.l, .int .i64 h.v, .int .i64 h.m, .int .i64 h.st, .int .i64 h.po, .int .i64 h.pr, .int .u64 (h.d0 * 65536 + h.d1), .int .u64 (h.e0 * 65536 + h.e1), .int .u8 h.r0, .int .u8 h.r1, .int .u8 h.r2, .int .u8 h.r3, .int .u64 (h.a0 * 4294967296 + h.a1), .int .u64 (h.b0 * 4294967296 + h.b1), .int .u64 (h.c0 * 4294967296 + h.c1), .int .u64 (h.t0 * 4294967296 + h.t1)]) ∧ Below w.heap.size w w' := by
  have wst : IntKind.i64.wrap h.st = h.st := by have := hw.st_; rw [IntKind.wrap_i64]; omega
  have wpo : IntKind.i64.wrap h.po = h.po := by have := hw.po_; rw [IntKind.wrap_i64]; omega
  have wpr : IntKind.i64.wrap h.pr = h.pr := by have := hw.pr_; rw [IntKind.wrap_i64]; omega
  replace hw := Aside0.mk hw
  go_enter Try.func28, Try.ntmps28
  go_wp2
  have HR0 : DAt w #[.int .i64 h.l, .int .i64 h.v, .int .i64 h.m, .int .u8 h.st, .int .i8 h.po, .int .i8 h.pr, .int .u16 h.d0, .int .u16 h.d1, .int .u16 h.e0, .int .u16 h.e1, .int .u8 h.r0, .int .u8 h.r1, .int .u8 h.r2, .int .u8 h.r3, .int .u32 h.a0, .int .u32 h.a1, .int .u32 h.b0, .int .u32 h.b1, .int .u32 h.c0, .int .u32 h.c1, .int .u32 h.t0, .int .u32 h.t1] 31 76 16 ((w.alloc (.cells #[.int .i64 h.l, .int .i64 h.v, .int .i64 h.m, .int .u8 h.st, .int .i8 h.po, .int .i8 h.pr, .int .u16 h.d0, .int .u16 h.d1, .int .u16 h.e0, .int .u16 h.e1, .int .u8 h.r0, .int .u8 h.r1, .int .u8 h.r2, .int .u8 h.r3, .int .u32 h.a0, .int .u32 h.a1, .int .u32 h.b0, .int .u32 h.b1, .int .u32 h.c0, .int .u32 h.c1, .int .u32 h.t0, .int .u32 h.t1] 31)).alloc (.cells #[.int .i64 0, .int .i64 0, .int .i64 0, .int .i64 0, .int .i64 0, .int .i64 0, .int .u64 0, .int .u64 0, .int .u8 0, .int .u8 0, .int .u8 0, .int .u8 0, .int .u64 0, .int .u64 0, .int .u64 0, .int .u64 0] 76)) := ⟨blk_alloc (blk_new w _) _, ⟨_, rfl, by have := blk_new (w.alloc (.cells #[.int .i64 h.l, .int .i64 h.v, .int .i64 h.m, .int .u8 h.st, .int .i8 h.po, .int .i8 h.pr, .int .u16 h.d0, .int .u16 h.d1, .int .u16 h.e0, .int .u16 h.e1, .int .u8 h.r0, .int .u8 h.r1, .int .u8 h.r2, .int .u8 h.r3, .int .u32 h.a0, .int .u32 h.a1, .int .u32 h.b0, .int .u32 h.b1, .int .u32 h.c0, .int .u32 h.c1, .int .u32 h.t0, .int .u32 h.t1] 31)) (.cells #[.int .i64 0, .int .i64 0, .int .i64 0, .int .i64 0, .int .i64 0, .int .i64 0, .int .u64 0, .int .u64 0, .int .u8 0, .int .u8 0, .int .u8 0, .int .u8 0, .int .u64 0, .int .u64 0, .int .u64 0, .int .u64 0] 76); rwa [World.size_alloc] at this⟩, below_alloc (below_alloc (Below.refl _ _) _) _⟩
  generalize ((w.alloc (.cells #[.int .i64 h.l, .int .i64 h.v, .int .i64 h.m, .int .u8 h.st, .int .i8 h.po, .int .i8 h.pr, .int .u16 h.d0, .int .u16 h.d1, .int .u16 h.e0, .int .u16 h.e1, .int .u8 h.r0, .int .u8 h.r1, .int .u8 h.r2, .int .u8 h.r3, .int .u32 h.a0, .int .u32 h.a1, .int .u32 h.b0, .int .u32 h.b1, .int .u32 h.c0, .int .u32 h.c1, .int .u32 h.t0, .int .u32 h.t1] 31)).alloc (.cells #[.int .i64 0, .int .i64 0, .int .i64 0, .int .i64 0, .int .i64 0, .int .i64 0, .int .u64 0, .int .u64 0, .int .u8 0, .int .u8 0, .int .u8 0, .int .u8 0, .int .u64 0, .int .u64 0, .int .u64 0, .int .u64 0] 76)) = W0 at HR0 ⊢
  refine wp_region_held_drew (S := fun W' => DAt w #[.int .i64 h.l, .int .i64 h.v, .int .i64 h.m, .int .u8 h.st, .int .i8 h.po, .int .i8 h.pr, .int .u16 h.d0, .int .u16 h.d1, .int .u16 h.e0, .int .u16 h.e1, .int .u8 h.r0, .int .u8 h.r1, .int .u8 h.r2, .int .u8 h.r3, .int .u32 h.a0, .int .u32 h.a1, .int .u32 h.b0, .int .u32 h.b1, .int .u32 h.c0, .int .u32 h.c1, .int .u32 h.t0, .int .u32 h.t1] 31 76 16 W') (by kernel_rfl) HR0.drew (fun hHeld => ?_)
  refine take_pure 0 3 (by rfl) (by rfl) (by rfl) (by kernel_rfl) (by kernel_rfl) (by kernel_rfl) (by exact fun _ _ _ h => h) (v := ?_) (fun W => ?_) hHeld ?_
  rotate_left
  · go_simp
    try with_reducible rfl
  try simp only [Act.put, List.setIfInBounds_toArray, List.set_cons_zero, List.set_cons_succ]
  refine take_held 1 4 (by rfl) (by rfl) (by rfl) (by kernel_rfl) (by kernel_rfl) (by kernel_rfl) (by exact fun _ _ _ h => h) (v := ?_) (fun W hSw => ?_) hHeld ?_
  rotate_left
  · have f := fun o => blk_cell hSw.a o
    clear hSw
    go_simp
    try with_reducible rfl
  try simp only [Act.put, List.setIfInBounds_toArray, List.set_cons_zero, List.set_cons_succ]
  refine take_pure 2 5 (by rfl) (by rfl) (by rfl) (by kernel_rfl) (by kernel_rfl) (by kernel_rfl) (by exact fun _ _ _ h => h) (v := ?_) (fun W => ?_) hHeld ?_
  rotate_left
  · go_simp
    try with_reducible rfl
  try simp only [Act.put, List.setIfInBounds_toArray, List.set_cons_zero, List.set_cons_succ]
  refine take_held 3 6 (by rfl) (by rfl) (by rfl) (by kernel_rfl) (by kernel_rfl) (by kernel_rfl) (by exact fun _ _ _ h => h) (v := ?_) (fun W hSw => ?_) hHeld ?_
  rotate_left
  · have f := fun o => blk_cell hSw.a o
    clear hSw
    go_simp
    try with_reducible rfl
  try simp only [Act.put, List.setIfInBounds_toArray, List.set_cons_zero, List.set_cons_succ]
  refine take_pure 4 7 (by rfl) (by rfl) (by rfl) (by kernel_rfl) (by kernel_rfl) (by kernel_rfl) (by exact fun _ _ _ h => h) (v := ?_) (fun W => ?_) hHeld ?_
  rotate_left
  · go_simp
    try with_reducible rfl
  try simp only [Act.put, List.setIfInBounds_toArray, List.set_cons_zero, List.set_cons_succ]
  refine take_held 5 8 (by rfl) (by rfl) (by rfl) (by kernel_rfl) (by kernel_rfl) (by kernel_rfl) (by exact fun _ _ _ h => h) (v := ?_) (fun W hSw => ?_) hHeld ?_
  rotate_left
  · have f := fun o => blk_cell hSw.a o
    clear hSw
    go_simp
    try with_reducible rfl
  try simp only [Act.put, List.setIfInBounds_toArray, List.set_cons_zero, List.set_cons_succ]
  refine take_pure 6 9 (by rfl) (by rfl) (by rfl) (by kernel_rfl) (by kernel_rfl) (by kernel_rfl) (by exact fun _ _ _ h => h) (v := ?_) (fun W => ?_) hHeld ?_
  rotate_left
  · go_simp
    try with_reducible rfl
  try simp only [Act.put, List.setIfInBounds_toArray, List.set_cons_zero, List.set_cons_succ]
  refine take_held 7 10 (by rfl) (by rfl) (by rfl) (by kernel_rfl) (by kernel_rfl) (by kernel_rfl) (by exact fun _ _ _ h => h) (v := ?_) (fun W hSw => ?_) hHeld ?_
  rotate_left
  · have f := fun o => blk_cell hSw.a o
    clear hSw
    go_simp
    try with_reducible rfl
  try simp only [Act.put, List.setIfInBounds_toArray, List.set_cons_zero, List.set_cons_succ]
  refine take_pure 8 11 (by rfl) (by rfl) (by rfl) (by kernel_rfl) (by kernel_rfl) (by kernel_rfl) (by exact fun _ _ _ h => h) (v := ?_) (fun W => ?_) hHeld ?_
  rotate_left
  · go_simp
    try with_reducible rfl
  try simp only [Act.put, List.setIfInBounds_toArray, List.set_cons_zero, List.set_cons_succ]
  refine take_pure 9 12 (by rfl) (by rfl) (by rfl) (by kernel_rfl) (by kernel_rfl) (by kernel_rfl) (by exact fun _ _ _ h => h) (v := ?_) (fun W => ?_) hHeld ?_
  rotate_left
  · go_simp
    try with_reducible rfl
  try simp only [Act.put, List.setIfInBounds_toArray, List.set_cons_zero, List.set_cons_succ]
  refine take_held 10 13 (by rfl) (by rfl) (by rfl) (by kernel_rfl) (by kernel_rfl) (by kernel_rfl) (by exact fun _ _ _ h => h) (v := ?_) (fun W hSw => ?_) hHeld ?_
  rotate_left
  · have f := fun o => blk_cell hSw.a o
    clear hSw
    go_simp
    try with_reducible rfl
  try simp only [Act.put, List.setIfInBounds_toArray, List.set_cons_zero, List.set_cons_succ]
  refine take_pure 11 14 (by rfl) (by rfl) (by rfl) (by kernel_rfl) (by kernel_rfl) (by kernel_rfl) (by exact fun _ _ _ h => h) (v := ?_) (fun W => ?_) hHeld ?_
  rotate_left
  · go_simp
    try with_reducible rfl
  try simp only [Act.put, List.setIfInBounds_toArray, List.set_cons_zero, List.set_cons_succ]
  refine take_pure 12 15 (by rfl) (by rfl) (by rfl) (by kernel_rfl) (by kernel_rfl) (by kernel_rfl) (by exact fun _ _ _ h => h) (v := ?_) (fun W => ?_) hHeld ?_
  rotate_left
  · go_simp
    try with_reducible rfl
  try simp only [Act.put, List.setIfInBounds_toArray, List.set_cons_zero, List.set_cons_succ]
  refine take_held 13 16 (by rfl) (by rfl) (by rfl) (by kernel_rfl) (by kernel_rfl) (by kernel_rfl) (by exact fun _ _ _ h => h) (v := ?_) (fun W hSw => ?_) hHeld ?_
  rotate_left
  · have f := fun o => blk_cell hSw.a o
    clear hSw
    go_simp
    try with_reducible rfl
  try simp only [Act.put, List.setIfInBounds_toArray, List.set_cons_zero, List.set_cons_succ]
  refine take_pure 14 17 (by rfl) (by rfl) (by rfl) (by kernel_rfl) (by kernel_rfl) (by kernel_rfl) (by exact fun _ _ _ h => h) (v := ?_) (fun W => ?_) hHeld ?_
  rotate_left
  · go_simp
    try with_reducible rfl
  try simp only [Act.put, List.setIfInBounds_toArray, List.set_cons_zero, List.set_cons_succ]
  refine take_pure 15 18 (by rfl) (by rfl) (by rfl) (by kernel_rfl) (by kernel_rfl) (by kernel_rfl) (by exact fun _ _ _ h => h) (v := ?_) (fun W => ?_) hHeld ?_
  rotate_left
  · go_simp
    try with_reducible rfl
  try simp only [Act.put, List.setIfInBounds_toArray, List.set_cons_zero, List.set_cons_succ]
  refine take_held 16 19 (by rfl) (by rfl) (by rfl) (by kernel_rfl) (by kernel_rfl) (by kernel_rfl) (by exact fun _ _ _ h => h) (v := ?_) (fun W hSw => ?_) hHeld ?_
  rotate_left
  · have f := fun o => blk_cell hSw.a o
    clear hSw
    go_simp
    try with_reducible rfl
  try simp only [Act.put, List.setIfInBounds_toArray, List.set_cons_zero, List.set_cons_succ]
  refine take_pure 18 21 (by rfl) (by rfl) (by rfl) (by kernel_rfl) (by kernel_rfl) (by kernel_rfl) (by exact fun _ _ _ h => h) (v := ?_) (fun W => ?_) hHeld ?_
  rotate_left
  · go_simp
    try with_reducible rfl
  try simp only [Act.put, List.setIfInBounds_toArray, List.set_cons_zero, List.set_cons_succ]
  refine take_held 19 22 (by rfl) (by rfl) (by rfl) (by kernel_rfl) (by kernel_rfl) (by kernel_rfl) (by exact fun _ _ _ h => h) (v := ?_) (fun W hSw => ?_) hHeld ?_
  rotate_left
  · have f := fun o => blk_cell hSw.a o
    clear hSw
    go_simp
    try with_reducible rfl
  try simp only [Act.put, List.setIfInBounds_toArray, List.set_cons_zero, List.set_cons_succ]
  refine take_pure 21 24 (by rfl) (by rfl) (by rfl) (by kernel_rfl) (by kernel_rfl) (by kernel_rfl) (by exact fun _ _ _ h => h) (v := ?_) (fun W => ?_) hHeld ?_
  rotate_left
  · go_simp
    try with_reducible rfl
  try simp only [Act.put, List.setIfInBounds_toArray, List.set_cons_zero, List.set_cons_succ]
  refine take_held 22 25 (by rfl) (by rfl) (by rfl) (by kernel_rfl) (by kernel_rfl) (by kernel_rfl) (by exact fun _ _ _ h => h) (v := ?_) (fun W hSw => ?_) hHeld ?_
  rotate_left
  · have f := fun o => blk_cell hSw.a o
    clear hSw
    go_simp
    try with_reducible rfl
  try simp only [Act.put, List.setIfInBounds_toArray, List.set_cons_zero, List.set_cons_succ]
  refine take_pure 23 26 (by rfl) (by rfl) (by rfl) (by kernel_rfl) (by kernel_rfl) (by kernel_rfl) (by exact fun _ _ _ h => h) (v := ?_) (fun W => ?_) hHeld ?_
  rotate_left
  · go_simp
    try with_reducible rfl
  try simp only [Act.put, List.setIfInBounds_toArray, List.set_cons_zero, List.set_cons_succ]
  refine take_held 24 27 (by rfl) (by rfl) (by rfl) (by kernel_rfl) (by kernel_rfl) (by kernel_rfl) (by exact fun _ _ _ h => h) (v := ?_) (fun W hSw => ?_) hHeld ?_
  rotate_left
  · have f := fun o => blk_cell hSw.a o
    clear hSw
    go_simp
    try with_reducible rfl
  try simp only [Act.put, List.setIfInBounds_toArray, List.set_cons_zero, List.set_cons_succ]
  refine take_pure 26 29 (by rfl) (by rfl) (by rfl) (by kernel_rfl) (by kernel_rfl) (by kernel_rfl) (by exact fun _ _ _ h => h) (v := ?_) (fun W => ?_) hHeld ?_
  rotate_left
  · go_simp
    try with_reducible rfl
  try simp only [Act.put, List.setIfInBounds_toArray, List.set_cons_zero, List.set_cons_succ]
  refine take_held 27 30 (by rfl) (by rfl) (by rfl) (by kernel_rfl) (by kernel_rfl) (by kernel_rfl) (by exact fun _ _ _ h => h) (v := ?_) (fun W hSw => ?_) hHeld ?_
  rotate_left
  · have f := fun o => blk_cell hSw.a o
    clear hSw
    go_simp
    try with_reducible rfl
  try simp only [Act.put, List.setIfInBounds_toArray, List.set_cons_zero, List.set_cons_succ]
  refine take_pure 29 32 (by rfl) (by rfl) (by rfl) (by kernel_rfl) (by kernel_rfl) (by kernel_rfl) (by exact fun _ _ _ h => h) (v := ?_) (fun W => ?_) hHeld ?_
  rotate_left
  · go_simp
    try with_reducible rfl
  try simp only [Act.put, List.setIfInBounds_toArray, List.set_cons_zero, List.set_cons_succ]
  refine take_held 30 33 (by rfl) (by rfl) (by rfl) (by kernel_rfl) (by kernel_rfl) (by kernel_rfl) (by exact fun _ _ _ h => h) (v := ?_) (fun W hSw => ?_) hHeld ?_
  rotate_left
  · have f := fun o => blk_cell hSw.a o
    clear hSw
    go_simp
    try with_reducible rfl
  try simp only [Act.put, List.setIfInBounds_toArray, List.set_cons_zero, List.set_cons_succ]
  refine take_pure 32 35 (by rfl) (by rfl) (by rfl) (by kernel_rfl) (by kernel_rfl) (by kernel_rfl) (by exact fun _ _ _ h => h) (v := ?_) (fun W => ?_) hHeld ?_
  rotate_left
  · go_simp
    try with_reducible rfl
  try simp only [Act.put, List.setIfInBounds_toArray, List.set_cons_zero, List.set_cons_succ]
  refine take_held 33 36 (by rfl) (by rfl) (by rfl) (by kernel_rfl) (by kernel_rfl) (by kernel_rfl) (by exact fun _ _ _ h => h) (v := ?_) (fun W hSw => ?_) hHeld ?_
  rotate_left
  · have f := fun o => blk_cell hSw.a o
    clear hSw
    go_simp
    try with_reducible rfl
  try simp only [Act.put, List.setIfInBounds_toArray, List.set_cons_zero, List.set_cons_succ]
  refine wpAnyH_ready (rs := [17]) (by kernel_rfl) (by simp) ?_
  refine AllReadyH.cons rfl (fun K hK => ?_) AllReadyH.nil
  go_simp
  go_at_call 71
  refine (short71 h.d0 h.d1 hw.out.d0_ hw.out.d1_ _).mono ?_
  rintro e w20 ⟨rfl, hb⟩
  go_simp
  refine hK.out _ _ (DAt.call hHeld hb) (fun hHeld2 => ?_)
  clear hK K hHeld
  try clear hb
  have hHeld := hHeld2
  clear hHeld2
  try simp only [Act.put, List.setIfInBounds_toArray, List.set_cons_zero, List.set_cons_succ]
  refine wpAnyH_ready (rs := [20]) (by kernel_rfl) (by simp) ?_
  refine AllReadyH.cons rfl (fun K hK => ?_) AllReadyH.nil
  go_simp
  go_at_call 71
  refine (short71 h.e0 h.e1 hw.out.e0_ hw.out.e1_ _).mono ?_
  rintro e w23 ⟨rfl, hb⟩
  go_simp
  refine hK.out _ _ (DAt.call hHeld hb) (fun hHeld2 => ?_)
  clear hK K hHeld
  try clear hb
  have hHeld := hHeld2
  clear hHeld2
  try simp only [Act.put, List.setIfInBounds_toArray, List.set_cons_zero, List.set_cons_succ]
  refine wpAnyH_ready (rs := [25]) (by kernel_rfl) (by simp) ?_
  refine AllReadyH.cons rfl (fun K hK => ?_) AllReadyH.nil
  go_simp
  go_at_call 12
  refine (bits12 h.a0 h.a1 _ hw.out.a0_.1 hw.out.a0_.2 hw.out.a1_.1 hw.out.a1_.2).mono ?_
  rintro e w28 ⟨rfl, hb⟩
  go_simp
  refine hK.out _ _ (DAt.call hHeld hb) (fun hHeld2 => ?_)
  clear hK K hHeld
  try clear hb
  have hHeld := hHeld2
  clear hHeld2
  try simp only [Act.put, List.setIfInBounds_toArray, List.set_cons_zero, List.set_cons_succ]
  refine wpAnyH_ready (rs := [28]) (by kernel_rfl) (by simp) ?_
  refine AllReadyH.cons rfl (fun K hK => ?_) AllReadyH.nil
  go_simp
  go_at_call 12
  refine (bits12 h.b0 h.b1 _ hw.out.b0_.1 hw.out.b0_.2 hw.out.b1_.1 hw.out.b1_.2).mono ?_
  rintro e w31 ⟨rfl, hb⟩
  go_simp
  refine hK.out _ _ (DAt.call hHeld hb) (fun hHeld2 => ?_)
  clear hK K hHeld
  try clear hb
  have hHeld := hHeld2
  clear hHeld2
  try simp only [Act.put, List.setIfInBounds_toArray, List.set_cons_zero, List.set_cons_succ]
  refine wpAnyH_ready (rs := [31]) (by kernel_rfl) (by simp) ?_
  refine AllReadyH.cons rfl (fun K hK => ?_) AllReadyH.nil
  go_simp
  go_at_call 12
  refine (bits12 h.c0 h.c1 _ hw.out.c0_.1 hw.out.c0_.2 hw.out.c1_.1 hw.out.c1_.2).mono ?_
  rintro e w34 ⟨rfl, hb⟩
  go_simp
  refine hK.out _ _ (DAt.call hHeld hb) (fun hHeld2 => ?_)
  clear hK K hHeld
  try clear hb
  have hHeld := hHeld2
  clear hHeld2
  try simp only [Act.put, List.setIfInBounds_toArray, List.set_cons_zero, List.set_cons_succ]
  refine wpAnyH_ready (rs := [34]) (by kernel_rfl) (by simp) ?_
  refine AllReadyH.cons rfl (fun K hK => ?_) AllReadyH.nil
  go_simp
  go_at_call 12
  refine (bits12 h.t0 h.t1 _ hw.out.t0_.1 hw.out.t0_.2 hw.out.t1_.1 hw.out.t1_.2).mono ?_
  rintro e w37 ⟨rfl, hb⟩
  go_simp
  refine hK.out _ _ (DAt.call hHeld hb) (fun hHeld2 => ?_)
  clear hK K hHeld
  try clear hb
  have hHeld := hHeld2
  clear hHeld2
  try simp only [Act.put, List.setIfInBounds_toArray, List.set_cons_zero, List.set_cons_succ]
  refine take_pure 35 38 (by rfl) (by rfl) (by rfl) (by kernel_rfl) (by kernel_rfl) (by kernel_rfl) (by exact fun _ _ _ h => h) (v := ?_) (fun W => ?_) hHeld ?_
  rotate_left
  · go_simp
    try with_reducible rfl
  try simp only [Act.put, List.setIfInBounds_toArray, List.set_cons_zero, List.set_cons_succ]
  refine wpAnyH_ready (rs := [36]) (by kernel_rfl) (by simp) ?_
  refine AllReadyH.cons rfl (fun K hK => ?_) AllReadyH.nil
  obtain ⟨c0, hc0, hb0⟩ := hHeld.b
  rw [if_pos (by rfl)]
  refine wp_store_row 76 (.tmp 2) (.tmp 38) rfl (w.heap.size + 1) #[.int .i64 h.l, .int .i64 h.v, .int .i64 h.m, .int .i64 h.st, .int .i64 h.po, .int .i64 h.pr, .int .u64 (h.d0 * 65536 + h.d1), .int .u64 (h.e0 * 65536 + h.e1), .int .u8 h.r0, .int .u8 h.r1, .int .u8 h.r2, .int .u8 h.r3, .int .u64 (h.a0 * 4294967296 + h.a1), .int .u64 (h.b0 * 4294967296 + h.b1), .int .u64 (h.c0 * 4294967296 + h.c1), .int .u64 (h.t0 * 4294967296 + h.t1)] (by rfl) (by rfl) 76 _ hb0 (by kernel_rfl) hc0 (by kernel_rfl) ?_
  have hfin := blk_row hb0 #[.int .i64 h.l, .int .i64 h.v, .int .i64 h.m, .int .i64 h.st, .int .i64 h.po, .int .i64 h.pr, .int .u64 (h.d0 * 65536 + h.d1), .int .u64 (h.e0 * 65536 + h.e1), .int .u8 h.r0, .int .u8 h.r1, .int .u8 h.r2, .int .u8 h.r3, .int .u64 (h.a0 * 4294967296 + h.a1), .int .u64 (h.b0 * 4294967296 + h.b1), .int .u64 (h.c0 * 4294967296 + h.c1), .int .u64 (h.t0 * 4294967296 + h.t1)]
  refine hK.out _ _ (hHeld.row _ rfl) (fun hHeld2 => ?_)
  clear hK K hHeld
  try clear hb
  have hHeld := hHeld2
  clear hHeld2
  try simp only [Act.put, List.setIfInBounds_toArray, List.set_cons_zero, List.set_cons_succ]
  refine wpAnyH_done (by kernel_rfl) ?_ _
  go_wp2
  have hbel := hHeld.bel
  refine bodyPost_ret (results_single rfl (.cell (w.heap.size + 1) 76 _ (0, 0) _ rfl hfin Try.underlying76 rfl (by kernel_rfl) .nil)) rfl ?_
  exact ⟨rfl, hbel⟩
end Go.Proofs.Ytbpmjjbccaanfaa.Hd
