import Derived.Test.YtbpmjjbccaanfaaHd15
import Derived.Deep.DeepCutAuto
import Derived.Deep.RegionHeld3
import Derived.Deep.MidRow
namespace Go.Proofs.Ytbpmjjbccaanfaa.Hd
open Go.RowKit Go.Shelf Go.Proofs.YtbpmjjbccaanfaaW.PrintWords Go.Proofs.YtbpmjjbccaanfaaW.PrintLast Go.Proofs.YtbpmjjbccaanfaaW.PrintMore
set_option linter.unusedVariables false
set_option linter.unusedSimpArgs false
/-- under way: the two boxes -/
structure BAt (w : World) (h : HdS) (s u q : Int) (W : World) : Prop where
  a : W.heap[w.heap.size]? = some (.cells #[.int .i64 h.l, .int .i64 h.v, .int .i64 h.m, .int .u8 h.st, .int .i8 h.po, .int .i8 h.pr, .int .u16 h.d0, .int .u16 h.d1, .int .u16 h.e0, .int .u16 h.e1, .int .u8 h.r0, .int .u8 h.r1, .int .u8 h.r2, .int .u8 h.r3, .int .u32 h.a0, .int .u32 h.a1, .int .u32 h.b0, .int .u32 h.b1, .int .u32 h.c0, .int .u32 h.c1, .int .u32 h.t0, .int .u32 h.t1] 31 (0, 0))
  b : W.heap[w.heap.size + 1]? = some (.cells #[.int .i32 s, .int .i32 u, .int .i32 q] 33 (0, 0))
  bel : Below w.heap.size w W
theorem BAt.call {w W W1 : World} {h : HdS} {s u q : Int} (H : BAt w h s u q W) (hb : Below W.heap.size W W1) : BAt w h s u q W1 := ⟨blk_below H.a hb, blk_below H.b hb, below_over hb H.bel⟩
theorem BAt.drew {w W : World} {h : HdS} {s u q : Int} (H : BAt w h s u q W) : BAt w h s u q W.drew := ⟨H.a, H.b, below_drew H.bel⟩
theorem BAt.lt {w W : World} {h : HdS} {s u q : Int} (H : BAt w h s u q W) : w.heap.size + 1 < W.heap.size := blk_lt H.b
theorem BAt.alloc {w W : World} {h : HdS} {s u q : Int} (H : BAt w h s u q W) (o : Obj) : BAt w h s u q (W.alloc o) := ⟨blk_alloc H.a _, blk_alloc H.b _, below_alloc H.bel _⟩
theorem BAt.setRow {w W : World} {h : HdS} {s u q : Int} (H : BAt w h s u q W) (g : Nat) (hg : w.heap.size + 1 < g) (cs : Array Value) : BAt w h s u q (W.setRow g cs) :=
  ⟨(setRow_other W g _ cs (by omega)).trans H.a, (setRow_other W g _ cs (by omega)).trans H.b, below_setRow H.bel (by omega) _⟩
theorem BAt.new (w : World) (h : HdS) (s u q : Int) : BAt w h s u q ((w.alloc (.cells #[.int .i64 h.l, .int .i64 h.v, .int .i64 h.m, .int .u8 h.st, .int .i8 h.po, .int .i8 h.pr, .int .u16 h.d0, .int .u16 h.d1, .int .u16 h.e0, .int .u16 h.e1, .int .u8 h.r0, .int .u8 h.r1, .int .u8 h.r2, .int .u8 h.r3, .int .u32 h.a0, .int .u32 h.a1, .int .u32 h.b0, .int .u32 h.b1, .int .u32 h.c0, .int .u32 h.c1, .int .u32 h.t0, .int .u32 h.t1] 31)).alloc (.cells #[.int .i32 s, .int .i32 u, .int .i32 q] 33)) :=
  ⟨blk_alloc (blk_new w _) _, by have := blk_new (w.alloc (.cells #[.int .i64 h.l, .int .i64 h.v, .int .i64 h.m, .int .u8 h.st, .int .i8 h.po, .int .i8 h.pr, .int .u16 h.d0, .int .u16 h.d1, .int .u16 h.e0, .int .u16 h.e1, .int .u8 h.r0, .int .u8 h.r1, .int .u8 h.r2, .int .u8 h.r3, .int .u32 h.a0, .int .u32 h.a1, .int .u32 h.b0, .int .u32 h.b1, .int .u32 h.c0, .int .u32 h.c1, .int .u32 h.t0, .int .u32 h.t1] 31)) (.cells #[.int .i32 s, .int .i32 u, .int .i32 q] 33); rwa [World.size_alloc] at this, below_alloc (below_alloc (Below.refl _ _) _) _⟩
theorem u64_rng {x C : Int} (h : IntKind.u64.wrap x = C) : 0 ≤ C ∧ C ≤ 18446744073709551615 := by
  rw [IntKind.wrap_u64] at h; omega
theorem mk13e (n C : Int) (w : World) (h : n = C) (n0 : 0 ≤ C) (n1 : C ≤ 18446744073709551615) : Calls Try.prog 13 #[.int .u64 n] w fun e w' => e = .returned (.agg #[.int .u32 (C / 4294967296), .int .u32 (C % 4294967296)]) ∧ Below w.heap.size w w' := by
  subst h; exact mk13 n w n0 n1
theorem BAt.load {w W : World} {h : HdS} {s u q : Int} (H : BAt w h s u q W) : (Instr.loadAt 31 (.pointer (some ⟨w.heap.size, 0, none⟩))).run Try.prog W = .ok (.agg #[.int .i64 h.l, .int .i64 h.v, .int .i64 h.m, .int .u8 h.st, .int .i8 h.po, .int .i8 h.pr, .int .u16 h.d0, .int .u16 h.d1, .int .u16 h.e0, .int .u16 h.e1, .int .u8 h.r0, .int .u8 h.r1, .int .u8 h.r2, .int .u8 h.r3, .int .u32 h.a0, .int .u32 h.a1, .int .u32 h.b0, .int .u32 h.b1, .int .u32 h.c0, .int .u32 h.c1, .int .u32 h.t0, .int .u32 h.t1]) W := by
  simp only [Instr.loadAt, Instr.sureAddr, Sem.run_bind, Sem.run_pure, Result.andThen_ok, run_loadVar_row W w.heap.size 31 31 _ _ _ H.a Try.underlying31 rfl (by kernel_rfl)]
theorem take_load {P : Program} {md : Region.Mode} {ops : Array Oper} {Q : Exit → Act → World → Prop} {S : World → Prop} {fuel : Nat} {listed : Array Bool} {a : Act} {w : World} {oi : Oper} (i d : Nat) (ty : TypeId) (x : Operand)
    (hi : ops[i]? = some oi) (hop : oi.op = .load ty x) (hd : oi.dst = some d) (hw : Region.wanted oi (yielded ops a.tmps) = true) (hs : Region.noSelect ops = true) (hf : Region.free md ops listed i = true) (hr : (Region.ready md ops listed).contains i = true)
    (hQ : ∀ v c a w, Q (.panic c) (a.put oi.dst v) w → Q (.panic c) a w) (b : Nat) (hx : a.eval x = .pointer (some ⟨b, 0, none⟩)) (cs : Array Value) (hl : ∀ W, S W → (Instr.loadAt ty (.pointer (some ⟨b, 0, none⟩))).run P W = .ok (.agg cs) W) (hS : S w)
    (h : wpAnyH P md ops Q S fuel (listed.setIfInBounds i true) (a.put (some d) (.agg cs)) w) : wpAnyH P md ops Q S (fuel + 1) listed a w := by
  refine wpAnyH_take (v := .agg cs) hi hs hf hr ?_ (.inl ⟨hw, fun W hW => ?_⟩) hS (by rw [hd]; exact h)
  · exact hQ _
  · unfold execOp
    simp only [hop, hx, Sem.run_bind, hl W hW, Result.andThen_ok, Sem.run_pure]
theorem take_pure {P : Program} {md : Region.Mode} {ops : Array Oper} {Q : Exit → Act → World → Prop} {S : World → Prop} {fuel : Nat} {listed : Array Bool} {a : Act} {w : World} {oi : Oper} (i d : Nat) {v : Value}
    (hi : ops[i]? = some oi) (hd : oi.dst = some d) (hw : Region.wanted oi (yielded ops a.tmps) = true) (hs : Region.noSelect ops = true) (hf : Region.free md ops listed i = true) (hr : (Region.ready md ops listed).contains i = true)
    (hQ : ∀ c a w, Q (.panic c) (a.put oi.dst v) w → Q (.panic c) a w) (hl : ∀ W, (execOp a.eval oi).run P W = .ok (.value v) W) (hS : S w)
    (h : wpAnyH P md ops Q S fuel (listed.setIfInBounds i true) (a.put (some d) v) w) : wpAnyH P md ops Q S (fuel + 1) listed a w :=
  wpAnyH_take (v := v) hi hs hf hr hQ (.inl ⟨hw, fun W _ => hl W⟩) hS (by rw [hd]; exact h)
theorem run_load31 {w W : World} {h : HdS} {s u q : Int} (H : BAt w h s u q W) {a : Act} {o : Oper} (ho : o.op = .load 31 (.tmp 3)) (hx : a.eval (.tmp 3) = .pointer (some ⟨w.heap.size, 0, none⟩)) : (execOp a.eval o).run Try.prog W = .ok (.value (.agg #[.int .i64 h.l, .int .i64 h.v, .int .i64 h.m, .int .u8 h.st, .int .i8 h.po, .int .i8 h.pr, .int .u16 h.d0, .int .u16 h.d1, .int .u16 h.e0, .int .u16 h.e1, .int .u8 h.r0, .int .u8 h.r1, .int .u8 h.r2, .int .u8 h.r3, .int .u32 h.a0, .int .u32 h.a1, .int .u32 h.b0, .int .u32 h.b1, .int .u32 h.c0, .int .u32 h.c1, .int .u32 h.t0, .int .u32 h.t1])) W := by
  unfold execOp
  simp only [ho, hx, Sem.run_bind, H.load, Result.andThen_ok, Sem.run_pure]
set_option maxRecDepth 100000 in
theorem round_end (h : HdS) (hw : h.wf) (s u q C T E : Int) (w : World) (s0 : -2147483648 ≤ s) (s1 : s ≤ 2147483647)
    (hC : C = IntKind.u64.wrap (IntKind.u64.wrap (h.b0 * 4294967296 + h.b1 + u % 4294967296) + IntKind.u64.wrap s)) (hT : T = IntKind.u64.wrap (IntKind.u64.wrap (IntKind.u64.wrap (h.b0 * 4294967296 + h.b1 + u % 4294967296) + q % 4294967296) + IntKind.u64.wrap s))
    (hE : E = IntKind.u64.wrap (IntKind.u64.wrap (IntKind.u64.wrap (h.b0 * 4294967296 + h.b1 + u % 4294967296) + q % 4294967296) + u % 4294967296)) :
    Calls Try.prog 14 #[.agg #[.int .i64 h.l, .int .i64 h.v, .int .i64 h.m, .int .u8 h.st, .int .i8 h.po, .int .i8 h.pr, .int .u16 h.d0, .int .u16 h.d1, .int .u16 h.e0, .int .u16 h.e1, .int .u8 h.r0, .int .u8 h.r1, .int .u8 h.r2, .int .u8 h.r3, .int .u32 h.a0, .int .u32 h.a1, .int .u32 h.b0, .int .u32 h.b1, .int .u32 (C / 4294967296), .int .u32 (C % 4294967296), .int .u32 (T / 4294967296), .int .u32 (T % 4294967296)], .agg #[.int .u32 (E / 4294967296), .int .u32 (E % 4294967296)]] w fun e w' => e = .returned (.tuple #[.int .i64 s, .int .i64 (2 * (u % 4294967296))]) ∧ Below w.heap.size w w' := by
  obtain ⟨C0, C1⟩ := u64_rng hC.symm
  obtain ⟨T0, T1⟩ := u64_rng hT.symm
  obtain ⟨E0, E1⟩ := u64_rng hE.symm
  obtain ⟨b00, b01⟩ := hw.b0_
  obtain ⟨b10, b11⟩ := hw.b1_
  have key := round_sums (h.b0 * 4294967296 + h.b1) s (u % 4294967296) (q % 4294967296) (by omega) (by omega) s0 s1 (by omega) (by omega) (by omega) (by omega) C T E
    (by rw [hC]; simp only [IntKind.wrap_u64]; omega) (by rw [hT]; simp only [IntKind.wrap_u64]; omega) (by rw [hE]; simp only [IntKind.wrap_u64]; omega)
  have k1 : tk (C / 4294967296) (C % 4294967296) = C := by unfold tk; omega
  have k2 : tk (T / 4294967296) (T % 4294967296) = T := by unfold tk; omega
  have k3 : tk (E / 4294967296) (E % 4294967296) = E := by unfold tk; omega
  refine (round14 ⟨h.l, h.v, h.m, h.st, h.po, h.pr, h.d0, h.d1, h.e0, h.e1, h.r0, h.r1, h.r2, h.r3, h.a0, h.a1, h.b0, h.b1, C / 4294967296, C % 4294967296, T / 4294967296, T % 4294967296⟩ ⟨hw.st_, hw.po_, hw.pr_, hw.d0_, hw.d1_, hw.e0_, hw.e1_, hw.r0_, hw.r1_, hw.r2_, hw.r3_, hw.a0_, hw.a1_, hw.b0_, hw.b1_, ⟨by simp only; omega, by simp only; omega⟩, ⟨by simp only; omega, by simp only; omega⟩, ⟨by simp only; omega, by simp only; omega⟩, ⟨by simp only; omega, by simp only; omega⟩⟩ (E / 4294967296) (E % 4294967296) w (by omega) (by omega) (by omega) (by omega)).mono ?_
  rintro e w' ⟨rfl, hb⟩
  refine ⟨?_, hb⟩
  simp only [k1, k2, k3]
  rw [show tk h.b0 h.b1 = h.b0 * 4294967296 + h.b1 from rfl, key.1, key.2]
set_option maxRecDepth 100000 in
set_option maxHeartbeats 4000000 in
theorem back_long (h : HdS) (s u q : Int) (A : Option Addr) (n c : Nat) (w : World) (hn : 300 < n) (hn2 : n ≤ 9223372036854775807) : Calls Try.prog 3 #[.agg #[.int .i64 h.l, .int .i64 h.v, .int .i64 h.m, .int .u8 h.st, .int .i8 h.po, .int .i8 h.pr, .int .u16 h.d0, .int .u16 h.d1, .int .u16 h.e0, .int .u16 h.e1, .int .u8 h.r0, .int .u8 h.r1, .int .u8 h.r2, .int .u8 h.r3, .int .u32 h.a0, .int .u32 h.a1, .int .u32 h.b0, .int .u32 h.b1, .int .u32 h.c0, .int .u32 h.c1, .int .u32 h.t0, .int .u32 h.t1], .slice A n c, .agg #[.int .i32 s, .int .i32 u, .int .i32 q]] w fun e w' => e = .returned (.bool true) ∧ Below w.heap.size w w' := by
  go_enter Try.func3, Try.ntmps3
  go_wp2_with (go_at_call 8; refine (alive8 _).mono ?_; rintro e w' ⟨rfl, hb⟩)
  go_ret
  exact ⟨rfl, below_over hb (below_alloc (below_alloc (Below.refl _ _) _) _)⟩
set_option maxRecDepth 100000 in
set_option maxHeartbeats 4000000 in
theorem back_nn (h : HdS) (hw : h.wf) (ho : ¬ h.ok) (s u q : Int) (s0 : -2147483648 ≤ s) (s1 : s ≤ 2147483647) (u0 : -2147483648 ≤ u) (u1 : u ≤ 2147483647) (q0 : -2147483648 ≤ q) (q1 : q ≤ 2147483647) (A : Option Addr) (n c : Nat) (w : World) (hn : n < 48) : Calls Try.prog 3 #[.agg #[.int .i64 h.l, .int .i64 h.v, .int .i64 h.m, .int .u8 h.st, .int .i8 h.po, .int .i8 h.pr, .int .u16 h.d0, .int .u16 h.d1, .int .u16 h.e0, .int .u16 h.e1, .int .u8 h.r0, .int .u8 h.r1, .int .u8 h.r2, .int .u8 h.r3, .int .u32 h.a0, .int .u32 h.a1, .int .u32 h.b0, .int .u32 h.b1, .int .u32 h.c0, .int .u32 h.c1, .int .u32 h.t0, .int .u32 h.t1], .slice A n c, .agg #[.int .i32 s, .int .i32 u, .int .i32 q]] w fun e w' => e = .returned (.bool true) ∧ Below w.heap.size w w' := by
  replace ho := Aside0.mk ho
  obtain ⟨C, hC⟩ : ∃ C, IntKind.u64.wrap (IntKind.u64.wrap (h.b0 * 4294967296 + h.b1 + u % 4294967296) + IntKind.u64.wrap s) = C := ⟨_, rfl⟩
  obtain ⟨T, hT⟩ : ∃ T, IntKind.u64.wrap (IntKind.u64.wrap (IntKind.u64.wrap (h.b0 * 4294967296 + h.b1 + u % 4294967296) + q % 4294967296) + IntKind.u64.wrap s) = T := ⟨_, rfl⟩
  obtain ⟨hC0, hC1⟩ := u64_rng hC
  obtain ⟨hT0, hT1⟩ := u64_rng hT
  obtain ⟨E, hE⟩ : ∃ E, IntKind.u64.wrap (IntKind.u64.wrap (IntKind.u64.wrap (h.b0 * 4294967296 + h.b1 + u % 4294967296) + q % 4294967296) + u % 4294967296) = E := ⟨_, rfl⟩
  obtain ⟨hE0, hE1⟩ := u64_rng hE
  have RE := Aside0.mk (fun W => round_end h hw s u q C T E W s0 s1 hC.symm hT.symm hE.symm)
  replace hE := Aside0.mk hE
  replace hC := Aside0.mk hC
  replace hT := Aside0.mk hT
  replace hw := Aside0.mk hw
  have B0 := BAt.new w h s u q
  go_enter Try.func3, Try.ntmps3
  go_wp2_with (first
    | (go_at_call 8; refine (alive8 _).mono ?_; rintro e w1 ⟨rfl, hb⟩; have B1 := B0.call hb; clear B0 hb)
    | (refine wpList_load_row rfl 31 (.tmp 3) rfl w.heap.size rfl 31 #[.int .i64 h.l, .int .i64 h.v, .int .i64 h.m, .int .u8 h.st, .int .i8 h.po, .int .i8 h.pr, .int .u16 h.d0, .int .u16 h.d1, .int .u16 h.e0, .int .u16 h.e1, .int .u8 h.r0, .int .u8 h.r1, .int .u8 h.r2, .int .u8 h.r3, .int .u32 h.a0, .int .u32 h.a1, .int .u32 h.b0, .int .u32 h.b1, .int .u32 h.c0, .int .u32 h.c1, .int .u32 h.t0, .int .u32 h.t1] (0, 0) _ B1.a Try.underlying31 rfl (by kernel_rfl) ?_)
    | (go_at_call 9; refine (put_no h _ ho.out).mono ?_; rintro e w2 ⟨rfl, hb⟩; have B2 := B1.call hb; clear B1 hb)
    | (go_at_call 10; refine (parse_no _ _ _ _ hn).mono ?_; rintro e w3 ⟨rfl, hb⟩; have B3 := B2.call hb; clear B2 hb)
    | (refine wpList_store_row rfl 31 (.tmp 11) (.tmp 54) rfl w3.heap.size #[.int .i64 0, .int .i64 0, .int .i64 0, .int .u8 0, .int .i8 0, .int .i8 0, .int .u16 0, .int .u16 0, .int .u16 0, .int .u16 0, .int .u8 0, .int .u8 0, .int .u8 0, .int .u8 0, .int .u32 0, .int .u32 0, .int .u32 0, .int .u32 0, .int .u32 0, .int .u32 0, .int .u32 0, .int .u32 0] rfl rfl 31 _ (blk_new w3 _) (by kernel_rfl) rfl (by kernel_rfl) ?_))
  have B4 := (B3.alloc (.cells #[.int .i64 0, .int .i64 0, .int .i64 0, .int .u8 0, .int .i8 0, .int .i8 0, .int .u16 0, .int .u16 0, .int .u16 0, .int .u16 0, .int .u8 0, .int .u8 0, .int .u8 0, .int .u8 0, .int .u32 0, .int .u32 0, .int .u32 0, .int .u32 0, .int .u32 0, .int .u32 0, .int .u32 0, .int .u32 0] 31)).setRow w3.heap.size B3.lt #[.int .i64 0, .int .i64 0, .int .i64 0, .int .u8 0, .int .i8 0, .int .i8 0, .int .u16 0, .int .u16 0, .int .u16 0, .int .u16 0, .int .u8 0, .int .u8 0, .int .u8 0, .int .u8 0, .int .u32 0, .int .u32 0, .int .u32 0, .int .u32 0, .int .u32 0, .int .u32 0, .int .u32 0, .int .u32 0]
  generalize (w3.alloc (.cells #[.int .i64 0, .int .i64 0, .int .i64 0, .int .u8 0, .int .i8 0, .int .i8 0, .int .u16 0, .int .u16 0, .int .u16 0, .int .u16 0, .int .u8 0, .int .u8 0, .int .u8 0, .int .u8 0, .int .u32 0, .int .u32 0, .int .u32 0, .int .u32 0, .int .u32 0, .int .u32 0, .int .u32 0, .int .u32 0] 31)).setRow w3.heap.size #[.int .i64 0, .int .i64 0, .int .i64 0, .int .u8 0, .int .i8 0, .int .i8 0, .int .u16 0, .int .u16 0, .int .u16 0, .int .u16 0, .int .u8 0, .int .u8 0, .int .u8 0, .int .u8 0, .int .u32 0, .int .u32 0, .int .u32 0, .int .u32 0, .int .u32 0, .int .u32 0, .int .u32 0, .int .u32 0] = W4 at B4 ⊢
  have c0 := B4.drew.b
  have x0 : W4.drew.cell? ⟨w.heap.size + 1, 0, none⟩ = some (.int .i32 s) := blk_cell B4.drew.b 0
  have x1 : W4.drew.cell? ⟨w.heap.size + 1, 1, none⟩ = some (.int .i32 u) := blk_cell B4.drew.b 1
  have x2 : W4.drew.cell? ⟨w.heap.size + 1, 2, none⟩ = some (.int .i32 q) := blk_cell B4.drew.b 2
  clear c0
  go_region
  have B5 := B4.drew
  clear B4 x0 x1 x2
  generalize W4.drew = W5 at B5 ⊢
  have y16 : W5.cell? ⟨w.heap.size, 16, none⟩ = some (.int .u32 h.b0) := blk_cell B5.a 16
  have y17 : W5.cell? ⟨w.heap.size, 17, none⟩ = some (.int .u32 h.b1) := blk_cell B5.a 17
  go_wp2_with (first
    | (go_at_call 12; refine (bits12 h.b0 h.b1 _ hw.out.b0_.1 hw.out.b0_.2 hw.out.b1_.1 hw.out.b1_.2).mono ?_; rintro e w5 ⟨rfl, hb⟩; have B6 := B5.call hb; clear B5 hb y16 y17)
    | (go_at_call 13; refine (mk13e _ C _ ?_ hC0 hC1).mono ?_; exact hC.out; rintro e w6 ⟨rfl, hb⟩; have B7 := B6.call hb; clear B6 hb)
    | (go_at_call 13; refine (mk13e _ T _ ?_ hT0 hT1).mono ?_; exact hT.out; rintro e w7 ⟨rfl, hb⟩; have B8 := B7.call hb; clear B7 hb; have hcA := fun o => blk_cell B8.a o; have hfA := fun o => blk_frozen B8.a o))
  have B9 : BAt w ⟨h.l, h.v, h.m, h.st, h.po, h.pr, h.d0, h.d1, h.e0, h.e1, h.r0, h.r1, h.r2, h.r3, h.a0, h.a1, h.b0, h.b1, C / 4294967296, C % 4294967296, T / 4294967296, T % 4294967296⟩ s u q (w7.setCell ⟨w.heap.size, 18, none⟩ (.int .u32 (C / 4294967296)) |>.setCell ⟨w.heap.size, 19, none⟩ (.int .u32 (C % 4294967296)) |>.setCell ⟨w.heap.size, 20, none⟩ (.int .u32 (T / 4294967296)) |>.setCell ⟨w.heap.size, 21, none⟩ (.int .u32 (T % 4294967296))) := by
    refine ⟨?_, blk_far (blk_far (blk_far (blk_far B8.b (by simp) _) (by simp) _) (by simp) _) (by simp) _, ((((B8.bel.setCell (Nat.le_refl _) _).setCell (Nat.le_refl _) _).setCell (Nat.le_refl _) _).setCell (Nat.le_refl _) _)⟩
    exact blk_put (blk_put (blk_put (blk_put B8.a 18 _ (by rfl)) 19 _ (by rfl)) 20 _ (by rfl)) 21 _ (by rfl)
  clear hcA hfA
  generalize (w7.setCell ⟨w.heap.size, 18, none⟩ (.int .u32 (C / 4294967296)) |>.setCell ⟨w.heap.size, 19, none⟩ (.int .u32 (C % 4294967296)) |>.setCell ⟨w.heap.size, 20, none⟩ (.int .u32 (T / 4294967296)) |>.setCell ⟨w.heap.size, 21, none⟩ (.int .u32 (T % 4294967296))) = W8 at B9 ⊢
  refine wp_region_held_drew (S := fun w' => BAt w ⟨h.l, h.v, h.m, h.st, h.po, h.pr, h.d0, h.d1, h.e0, h.e1, h.r0, h.r1, h.r2, h.r3, h.a0, h.a1, h.b0, h.b1, C / 4294967296, C % 4294967296, T / 4294967296, T % 4294967296⟩ s u q w') (by kernel_rfl) B9.drew (fun hHeld => ?_)
  clear B9
  refine take_load 0 106 31 (.tmp 3) (by rfl) (by rfl) (by rfl) (by rfl) (by kernel_rfl) (by kernel_rfl) (by kernel_rfl) (by exact fun _ _ _ _ h => h) (w.heap.size) (by rfl) _ (fun W hSw => BAt.load hSw) hHeld ?_
  try simp only [Act.put, List.setIfInBounds_toArray, List.set_cons_zero, List.set_cons_succ]
  refine take_pure 1 107 (by rfl) (by rfl) (by rfl) (by kernel_rfl) (by kernel_rfl) (by kernel_rfl) (by exact fun _ _ _ h => h) (v := ?_) (fun W => ?_) hHeld ?_
  rotate_left
  · go_simp
    try with_reducible rfl
  try simp only [Act.put, List.setIfInBounds_toArray, List.set_cons_zero, List.set_cons_succ]
  refine take_pure 2 108 (by rfl) (by rfl) (by rfl) (by kernel_rfl) (by kernel_rfl) (by kernel_rfl) (by exact fun _ _ _ h => h) (v := ?_) (fun W => ?_) hHeld ?_
  rotate_left
  · go_simp
    try with_reducible rfl
  try simp only [Act.put, List.setIfInBounds_toArray, List.set_cons_zero, List.set_cons_succ]
  refine take_pure 3 109 (by rfl) (by rfl) (by rfl) (by kernel_rfl) (by kernel_rfl) (by kernel_rfl) (by exact fun _ _ _ h => h) (v := ?_) (fun W => ?_) hHeld ?_
  rotate_left
  · go_simp
    try with_reducible rfl
  try simp only [Act.put, List.setIfInBounds_toArray, List.set_cons_zero, List.set_cons_succ]
  refine take_pure 4 110 (by rfl) (by rfl) (by rfl) (by kernel_rfl) (by kernel_rfl) (by kernel_rfl) (by exact fun _ _ _ h => h) (v := ?_) (fun W => ?_) hHeld ?_
  rotate_left
  · go_simp
    try with_reducible rfl
  try simp only [Act.put, List.setIfInBounds_toArray, List.set_cons_zero, List.set_cons_succ]
  refine take_pure 5 111 (by rfl) (by rfl) (by rfl) (by kernel_rfl) (by kernel_rfl) (by kernel_rfl) (by exact fun _ _ _ h => h) (v := ?_) (fun W => ?_) hHeld ?_
  rotate_left
  · go_simp
    try with_reducible rfl
  try simp only [Act.put, List.setIfInBounds_toArray, List.set_cons_zero, List.set_cons_succ]
  refine take_pure 6 112 (by rfl) (by rfl) (by rfl) (by kernel_rfl) (by kernel_rfl) (by kernel_rfl) (by exact fun _ _ _ h => h) (v := ?_) (fun W => ?_) hHeld ?_
  rotate_left
  · go_simp
    try with_reducible rfl
  try simp only [Act.put, List.setIfInBounds_toArray, List.set_cons_zero, List.set_cons_succ]
  refine take_pure 7 113 (by rfl) (by rfl) (by rfl) (by kernel_rfl) (by kernel_rfl) (by kernel_rfl) (by exact fun _ _ _ h => h) (v := ?_) (fun W => ?_) hHeld ?_
  rotate_left
  · go_simp
    try with_reducible rfl
  try simp only [Act.put, List.setIfInBounds_toArray, List.set_cons_zero, List.set_cons_succ]
  refine take_pure 8 114 (by rfl) (by rfl) (by rfl) (by kernel_rfl) (by kernel_rfl) (by kernel_rfl) (by exact fun _ _ _ h => h) (v := ?_) (fun W => ?_) hHeld ?_
  rotate_left
  · go_simp
    try with_reducible rfl
  try simp only [Act.put, List.setIfInBounds_toArray, List.set_cons_zero, List.set_cons_succ]
  refine wpAnyH_ready (rs := [9]) (by kernel_rfl) (by simp) ?_
  refine AllReadyH.cons rfl (fun K hK => ?_) AllReadyH.nil
  go_simp
  go_at_call 13
  refine (mk13e _ E _ ?_ hE0 hE1).mono ?_
  · exact hE.out
  rintro e w8 ⟨rfl, hb⟩
  go_simp
  refine hK.out _ _ (BAt.call hHeld hb) (fun hHeld2 => ?_)
  clear hK K hHeld hb
  have hHeld := hHeld2
  clear hHeld2
  try simp only [Act.put, List.setIfInBounds_toArray, List.set_cons_zero, List.set_cons_succ]
  refine wpAnyH_ready (rs := [10]) (by kernel_rfl) (by simp) ?_
  refine AllReadyH.cons rfl (fun K hK => ?_) AllReadyH.nil
  go_simp
  go_at_call 14
  refine (RE.out _).mono ?_
  rintro e w9 ⟨rfl, hb⟩
  go_simp
  refine hK.out _ _ (BAt.call hHeld hb) (fun hHeld2 => ?_)
  clear hK K hHeld hb
  have hHeld := hHeld2
  clear hHeld2
  try simp only [Act.put, List.setIfInBounds_toArray, List.set_cons_zero, List.set_cons_succ]
  refine take_pure 11 105 (by rfl) (by rfl) (by rfl) (by kernel_rfl) (by kernel_rfl) (by kernel_rfl) (by exact fun _ _ _ h => h) (v := ?_) (fun W => ?_) hHeld ?_
  rotate_left
  · go_simp
    try with_reducible rfl
  try simp only [Act.put, List.setIfInBounds_toArray, List.set_cons_zero, List.set_cons_succ]
  refine take_pure 12 117 (by rfl) (by rfl) (by rfl) (by kernel_rfl) (by kernel_rfl) (by kernel_rfl) (by exact fun _ _ _ h => h) (v := ?_) (fun W => ?_) hHeld ?_
  rotate_left
  · go_simp
    try with_reducible rfl
  try simp only [Act.put, List.setIfInBounds_toArray, List.set_cons_zero, List.set_cons_succ]
  refine take_pure 13 118 (by rfl) (by rfl) (by rfl) (by kernel_rfl) (by kernel_rfl) (by kernel_rfl) (by exact fun _ _ _ h => h) (v := ?_) (fun W => ?_) hHeld ?_
  rotate_left
  · go_simp
    try with_reducible rfl
  try simp only [Act.put, List.setIfInBounds_toArray, List.set_cons_zero, List.set_cons_succ]
  refine take_pure 14 20 (by rfl) (by rfl) (by rfl) (by kernel_rfl) (by kernel_rfl) (by kernel_rfl) (by exact fun _ _ _ h => h) (v := ?_) (fun W => ?_) hHeld ?_
  rotate_left
  · go_simp
    try with_reducible rfl
  try simp only [Act.put, List.setIfInBounds_toArray, List.set_cons_zero, List.set_cons_succ]
  refine take_pure 15 21 (by rfl) (by rfl) (by rfl) (by kernel_rfl) (by kernel_rfl) (by kernel_rfl) (by exact fun _ _ _ h => h) (v := ?_) (fun W => ?_) hHeld ?_
  rotate_left
  · go_simp
    try with_reducible rfl
  try simp only [Act.put, List.setIfInBounds_toArray, List.set_cons_zero, List.set_cons_succ]
  refine wpAnyH_done (by kernel_rfl) ?_ _
  have x0 : w9.cell? ⟨w.heap.size + 1, 0, none⟩ = some (.int .i32 s) := blk_cell hHeld.b 0
  have HB := hHeld.bel
  clear hHeld RE hE hC hT hw ho hE0 hE1 hC0 hC1 hT0 hT1
  go_wp2
  go_ret
  exact ⟨rfl, HB⟩
end Go.Proofs.Ytbpmjjbccaanfaa.Hd
