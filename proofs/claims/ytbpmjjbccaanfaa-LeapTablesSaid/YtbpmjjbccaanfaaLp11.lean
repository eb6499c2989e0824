import Derived.Test.YtbpmjjbccaanfaaLp10
import Derived.Test.YtbpmjjbccaanfaaLp8
import Derived.Test.YtbpmjjbccaanfaaLp7
namespace Go.Proofs.Ytbpmjjbccaanfaa.Lp
open Go.RowKit Go.Proofs.YtbpmjjbccaanfaaW.PrintWords Go.Proofs.YtbpmjjbccaanfaaW.PrintLast Go.Proofs.YtbpmjjbccaanfaaW.PrintMore Go.Proofs.Ytbpmjjbccaanfaa.Dy Go.Proofs.Ytbpmjjbccaanfaa.Rg
set_option linter.unusedVariables false
set_option linter.unusedSimpArgs false
set_option maxHeartbeats 8000000 in
set_option maxRecDepth 100000 in
theorem num_ (c : Int) (h : c ≠ 0) (w : World) : Calls Try.prog 19 #[.iface 74 (.int .i64 c)] w fun e w' => e = .returned (.int .i64 c) ∧ w = w' := by
  have hu36 := Try.underlying36
  have hu74 := Try.underlying74
  have hta : ∀ (v : Value) (W : World), (Instr.typeAssert (.iface 74 v) 36 74 true).run Try.prog W = .ok (.tuple #[v, .bool true]) W := fun v W => by rfl
  have c2b0 : (c == 0) = false := beq_eq_false_iff_ne.mpr h
  have c2b1 : (c != 0) = true := bne_iff_ne.mpr h
  go_enter Try.func19, Try.ntmps19
  go_wp2
  go_ret
  exact ⟨rfl, rfl⟩
theorem check_ (A : Option Addr) (c : Nat) (xs : List Rw) (u e : Int) (w : World) (hr : RowsAt w A c xs) (hold : ∀ ad, A = some ad → ad.block < w.heap.size) (hl : xs.length ≤ 100000) :
    Calls Try.prog 18 #[.agg #[.slice A xs.length c, .int .i64 u, .int .i64 e]] w fun en w' => en = .returned (.int .i64 (newErr xs u e)) ∧ Below w.heap.size w w' := by
  by_cases h : xs.length = 0 ∨ 256 < xs.length
  · exact check_few A c xs u e w h hl
  · exact check_some A c xs u e w hr hold (by omega) (by omega)
/-- the law's box, and what came in -/
structure BAt (w : World) (A : Option Addr) (c : Nat) (xs : List Rw) (u e : Int) (W : World) : Prop where
  box : W.heap[w.heap.size]? = some (.cells #[.slice A xs.length c, .int .i64 u, .int .i64 e] 51 (0, 0))
  rows : RowsAt W A c xs
  bel : Below w.heap.size w W
theorem BAt.call {w W W1 : World} {A : Option Addr} {c : Nat} {xs : List Rw} {u e : Int} (h : BAt w A c xs u e W) (hb : Below W.heap.size W W1) : BAt w A c xs u e W1 := ⟨blk_below h.box hb, h.rows.below hb, below_over hb h.bel⟩
theorem BAt.cells {w W : World} {A : Option Addr} {c : Nat} {xs : List Rw} {u e : Int} (h : BAt w A c xs u e W) : W.cell? ⟨w.heap.size, 0, none⟩ = some (.slice A xs.length c) ∧ W.cell? ⟨w.heap.size, 1, none⟩ = some (.int .i64 u) ∧ W.cell? ⟨w.heap.size, 2, none⟩ = some (.int .i64 e) := ⟨blk_cell h.box 0, blk_cell h.box 1, blk_cell h.box 2⟩
theorem BAt.start {w : World} {A : Option Addr} {c : Nat} {xs : List Rw} {u e : Int} (h : RowsAt w A c xs) : BAt w A c xs u e (w.alloc (.cells #[.slice A xs.length c, .int .i64 u, .int .i64 e] 51)) := ⟨blk_new w _, h.below (below_alloc (Below.refl _ _) _), below_alloc (Below.refl _ _) _⟩
set_option maxHeartbeats 2000000 in
theorem law_long (A : Option Addr) (c : Nat) (xs : List Rw) (u e i : Int) (w : World) (hr : RowsAt w A c xs) (hl : 300 < xs.length) :
    Calls Try.prog 4 #[.agg #[.slice A xs.length c, .int .i64 u, .int .i64 e], .int .i64 i] w fun en w' => en = .returned (.bool true) ∧ Below w.heap.size w w' := by
  have hB := Aside0.mk (BAt.start (u := u) (e := e) hr)
  clear hr
  go_enter Try.func4, Try.ntmps4
  go_wp2_with (go_at_call 15; refine (alive_ _).mono ?_; rintro en w1 ⟨rfl, hb⟩; replace hB := Aside0.mk (hB.out.call hb); obtain ⟨f0, f1, f2⟩ := hB.out.cells)
  go_ret
  exact ⟨rfl, hB.out.bel⟩
set_option maxRecDepth 100000 in
set_option maxHeartbeats 8000000 in
theorem law_err (A : Option Addr) (c : Nat) (xs : List Rw) (u e i : Int) (w : World) (hr : RowsAt w A c xs) (hl : xs.length ≤ 300) (hE : newErr xs u e ≠ 0) :
    Calls Try.prog 4 #[.agg #[.slice A xs.length c, .int .i64 u, .int .i64 e], .int .i64 i] w fun en w' => en = .returned (.bool true) ∧ Below w.heap.size w w' := by
  have kE : (newErr xs u e == 0) = false := beq_eq_false_iff_ne.2 hE
  have kE2 : (newErr xs u e != 0) = true := bne_iff_ne.2 hE
  replace hE := Aside0.mk hE
  have hB := Aside0.mk (BAt.start (u := u) (e := e) hr)
  clear hr
  go_enter Try.func4, Try.ntmps4
  go_wp2_with (first
    | (go_at_call 15; refine (alive_ _).mono ?_; rintro en w1 ⟨rfl, hb⟩; replace hB := Aside0.mk (hB.out.call hb); obtain ⟨f0, f1, f2⟩ := hB.out.cells; have hB2 := Aside0.mk (hB.out.call (below_alloc (Below.refl _ _) (.cells #[] 64))); obtain ⟨g0, g1, g2⟩ := hB2.out.cells)
    | (at_builtin; refine Kd.R_append_rows kRw (Rr := fun x cs => cs = [.int .i64 x.d, .int .i64 x.o]) (w0 := w1) w1.heap.size rfl _ _ 49 64 (.agg #[.int .i64 0, .int .i64 0]) 16 rfl Try.underlying49 info64 rfl (by decide) (by decide) _ [] xs _ _ _ (fun _ => True) (fun k => False) rfl rfl ?hO ?hR ?hKM (fun k hk => hk.elim) (fun _ _ => trivial) ?hB ?hbase ?hl ?_; (case hO => exact R_empty w1 w1.heap.size _ (Nat.le_refl _)); (case hR => exact rows_plain hB2.out.rows.reads); (case hKM => rintro x cs rfl; exact kRw_mkM _ _ _ _); (case hB => exact below_alloc (Below.refl _ _) _); (case hbase => simp); (case hl => simp; omega); intro v1 w2 ho hb hg hat; obtain ⟨A0, c0, rfl, hr0⟩ := own_rows ho; clear ho hg hat; have hB3 := Aside0.mk (hB.out.call hb); obtain ⟨k0, k1, k2⟩ := hB3.out.cells)
    | (go_at_call 16; refine (new_err A0 c0 xs u e _ hr0 (by omega) hE.out).mono ?_; rintro en w3 ⟨rfl, hb⟩; have hB4 := Aside0.mk (hB3.out.call hb); obtain ⟨m0, m1, m2⟩ := hB4.out.cells)
    | (go_at_call 17; refine (doc_ A c xs u e _ hB4.out.rows (by omega)).mono ?_; rintro en w4 ⟨v4, rfl, ho, hb⟩; have hlt := Kd.R_lt ho; obtain ⟨A3, c3, rfl, hr3⟩ := own_rows ho; have hB5 := Aside0.mk ((hB4.out.call hb).call (below_alloc (Below.refl _ _) (.cells #[.slice A3 xs.length c3, .int .i64 u, .int .i64 e] 57))); have hq := blk_new w4 (.cells #[.slice A3 xs.length c3, .int .i64 u, .int .i64 e] 57); have n0 := blk_cell hq 0; have n1 := blk_cell hq 1; have n2 := blk_cell hq 2; replace hlt := Aside0.mk hlt; clear hq ho)
    | (go_at_call 18; refine (check_ A3 c3 xs u e _ (hr3.below (below_alloc (Below.refl _ _) _)) (fun ad ha => by have := hlt.out ad.block (by rw [ha]; simp [Value.ownBlock]); rw [World.size_alloc]; omega) (by omega)).mono ?_; rintro en w5 ⟨rfl, hb⟩; have hB6 := Aside0.mk (hB5.out.call hb))
    | (go_at_call 19; refine (num_ _ hE.out _).mono ?_; rintro en w' ⟨rfl, rfl⟩))
  go_ret
  exact ⟨by first | rfl | (simp; done), hB6.out.bel⟩
end Go.Proofs.Ytbpmjjbccaanfaa.Lp
