import Derived.Test.YtbpmjjbccaanfaaHp3
namespace Go.Proofs.Ytbpmjjbccaanfaa.Hd
open Go.RowKit Go.Shelf Go.Proofs.YtbpmjjbccaanfaaW.PrintWords Go.Proofs.YtbpmjjbccaanfaaW.PrintLast Go.Proofs.YtbpmjjbccaanfaaW.PrintMore
set_option linter.unusedVariables false
set_option linter.unusedSimpArgs false
theorem eqD (d : Nat) (w : World) (x0 x1 x2 x3 x4 x5 x6 x7 x8 x9 x10 x11 x12 x13 x14 x15 : Int) : (Op.equalIn (d + 3) 76 (.agg #[.int .i64 x0, .int .i64 x1, .int .i64 x2, .int .i64 x3, .int .i64 x4, .int .i64 x5, .int .u64 x6, .int .u64 x7, .int .u8 x8, .int .u8 x9, .int .u8 x10, .int .u8 x11, .int .u64 x12, .int .u64 x13, .int .u64 x14, .int .u64 x15]) (.agg #[.int .i64 x0, .int .i64 x1, .int .i64 x2, .int .i64 x3, .int .i64 x4, .int .i64 x5, .int .u64 x6, .int .u64 x7, .int .u8 x8, .int .u8 x9, .int .u8 x10, .int .u8 x11, .int .u64 x12, .int .u64 x13, .int .u64 x14, .int .u64 x15])).run Try.prog w = .ok true w := by
  refine eqA_of Try.underlying76 (by kernel_rfl) ?_
  refine eqf_cons (r := true) (s := true) (by rfl) (by go_simp; rfl) (by go_simp; rfl) (by go_simp) ?_
  refine eqf_cons (r := true) (s := true) (by rfl) (by go_simp; rfl) (by go_simp; rfl) (by go_simp) ?_
  refine eqf_cons (r := true) (s := true) (by rfl) (by go_simp; rfl) (by go_simp; rfl) (by go_simp) ?_
  refine eqf_cons (r := true) (s := true) (by rfl) (by go_simp; rfl) (by go_simp; rfl) (by go_simp) ?_
  refine eqf_cons (r := true) (s := true) (by rfl) (by go_simp; rfl) (by go_simp; rfl) (by go_simp) ?_
  refine eqf_cons (r := true) (s := true) (by rfl) (by go_simp; rfl) (by go_simp; rfl) (by go_simp) ?_
  refine eqf_cons (r := true) (s := true) (by rfl) (by go_simp; rfl) (by go_simp; rfl) (by go_simp) ?_
  refine eqf_cons (r := true) (s := true) (by rfl) (by go_simp; rfl) (by go_simp; rfl) (by go_simp) ?_
  refine eqf_cons (r := true) (s := true) (by rfl) ?_ ?_ (eqR d w x8 x9 x10 x11) ?_
  · go_simp
  · go_simp
  refine eqf_cons (r := true) (s := true) (by rfl) (by go_simp; rfl) (by go_simp; rfl) (by go_simp) ?_
  refine eqf_cons (r := true) (s := true) (by rfl) (by go_simp; rfl) (by go_simp; rfl) (by go_simp) ?_
  refine eqf_cons (r := true) (s := true) (by rfl) (by go_simp; rfl) (by go_simp; rfl) (by go_simp) ?_
  exact eqf_last (by rfl) (by go_simp; rfl) (by go_simp; rfl) (by go_simp)
theorem eqg76 : Try.prog.eqGuardType Try.prog.depth 76 = false := by kernel_rfl
theorem wpList_eql76 {ops : Array Oper} {rest : List Oper} {o : Oper} {a : Act} {w : World} {Q : Exit → Act → World → Prop} (hwd : Region.wanted o (yielded ops a.tmps) = true) (x y : Operand) (ho : o.op = .binOp .eql 76 x y 76)
    (x0 x1 x2 x3 x4 x5 x6 x7 x8 x9 x10 x11 x12 x13 x14 x15 : Int) (hx : a.eval x = .agg #[.int .i64 x0, .int .i64 x1, .int .i64 x2, .int .i64 x3, .int .i64 x4, .int .i64 x5, .int .u64 x6, .int .u64 x7, .int .u8 x8, .int .u8 x9, .int .u8 x10, .int .u8 x11, .int .u64 x12, .int .u64 x13, .int .u64 x14, .int .u64 x15]) (hy : a.eval y = .agg #[.int .i64 x0, .int .i64 x1, .int .i64 x2, .int .i64 x3, .int .i64 x4, .int .i64 x5, .int .u64 x6, .int .u64 x7, .int .u8 x8, .int .u8 x9, .int .u8 x10, .int .u8 x11, .int .u64 x12, .int .u64 x13, .int .u64 x14, .int .u64 x15]) (hh : wpList Try.prog ops Q rest (a.put o.dst (.bool true)) w) : wpList Try.prog ops Q (o :: rest) a w :=
  wpList_step fun K hK => by
    rw [if_pos hwd]
    unfold Oper.wp execOp
    simp only [ho, hx, hy, Sem.run_bind, run_eqGuard_agg w .eql 76 _ _ _ _ eqg76, run_eql_struct, eqD 9997, Result.andThen_ok, Sem.run_pure]
    exact hK _ _ hh
theorem wpList_eql31 {ops : Array Oper} {rest : List Oper} {o : Oper} {a : Act} {w : World} {Q : Exit → Act → World → Prop} (hwd : Region.wanted o (yielded ops a.tmps) = true) (x y : Operand) (ho : o.op = .binOp .eql 31 x y 31)
    (h : HdS) (hx : a.eval x = .agg #[.int .i64 h.l, .int .i64 h.v, .int .i64 h.m, .int .u8 h.st, .int .i8 h.po, .int .i8 h.pr, .int .u16 h.d0, .int .u16 h.d1, .int .u16 h.e0, .int .u16 h.e1, .int .u8 h.r0, .int .u8 h.r1, .int .u8 h.r2, .int .u8 h.r3, .int .u32 h.a0, .int .u32 h.a1, .int .u32 h.b0, .int .u32 h.b1, .int .u32 h.c0, .int .u32 h.c1, .int .u32 h.t0, .int .u32 h.t1]) (hy : a.eval y = .agg #[.int .i64 h.l, .int .i64 h.v, .int .i64 h.m, .int .u8 h.st, .int .i8 h.po, .int .i8 h.pr, .int .u16 h.d0, .int .u16 h.d1, .int .u16 h.e0, .int .u16 h.e1, .int .u8 h.r0, .int .u8 h.r1, .int .u8 h.r2, .int .u8 h.r3, .int .u32 h.a0, .int .u32 h.a1, .int .u32 h.b0, .int .u32 h.b1, .int .u32 h.c0, .int .u32 h.c1, .int .u32 h.t0, .int .u32 h.t1]) (hh : wpList Try.prog ops Q rest (a.put o.dst (.bool true)) w) : wpList Try.prog ops Q (o :: rest) a w :=
  wpList_step fun K hK => by
    rw [if_pos hwd]
    unfold Oper.wp execOp
    simp only [ho, hx, hy, Sem.run_bind, run_eqGuard_agg w .eql 31 _ _ _ _ eqg31, run_eql_struct, eqH 9997, Result.andThen_ok, Sem.run_pure]
    exact hK _ _ hh
theorem w22 (g : Nat → Int) (k : Nat) : w2 (fun j => g (k + j)) 0 * 65536 + w2 (fun j => g (k + j)) 1 = vw4 g k := by
  simp only [w2, vw4, Nat.zero_mul, Nat.one_mul, Nat.zero_add, Nat.add_zero, Nat.reduceAdd]; omega
theorem w44 (g : Nat → Int) (k : Nat) : w4 (fun j => g (k + j)) 0 * 4294967296 + w4 (fun j => g (k + j)) 1 = vw8 g k := by
  simp only [w4, vw8, vw4, Nat.zero_mul, Nat.one_mul, Nat.zero_add, Nat.add_zero, Nat.reduceAdd, Nat.add_assoc]
theorem doc_head (g : Nat → Int) (k : HdS) (hk : k = headOf g) : (#[.int .i64 k.l, .int .i64 k.v, .int .i64 k.m, .int .i64 k.st, .int .i64 k.po, .int .i64 k.pr, .int .u64 (k.d0 * 65536 + k.d1), .int .u64 (k.e0 * 65536 + k.e1), .int .u8 k.r0, .int .u8 k.r1, .int .u8 k.r2, .int .u8 k.r3, .int .u64 (k.a0 * 4294967296 + k.a1), .int .u64 (k.b0 * 4294967296 + k.b1), .int .u64 (k.c0 * 4294967296 + k.c1), .int .u64 (k.t0 * 4294967296 + k.t1)] : Array Value) = #[.int .i64 (g 0 / 64), .int .i64 (g 0 / 8 % 8), .int .i64 (g 0 % 8), .int .i64 (g 1), .int .i64 (IntKind.i8.wrap (g 2)), .int .i64 (IntKind.i8.wrap (g 3)), .int .u64 (vw4 g 4), .int .u64 (vw4 g 8), .int .u8 (g 12), .int .u8 (g 13), .int .u8 (g 14), .int .u8 (g 15), .int .u64 (vw8 g 16), .int .u64 (vw8 g 24), .int .u64 (vw8 g 32), .int .u64 (vw8 g 40)] := by
  subst hk
  simp only [headOf, w22, w44]
theorem bytesN (A0 A1 : Option Addr) (n c0 c1 : Nat) (l : List Int) (w : World) (hl : l.length = n) (h0 : ReadsInt w .u8 A0 l.length l) (h1 : ReadsInt w .u8 A1 l.length l) (hg : ∀ j, 0 ≤ l.getD j 0 ∧ l.getD j 0 ≤ 255) :
    Calls Try.prog 11 #[.slice A0 n c0, .slice A1 n c1] w fun e w' => e = .returned (.bool true) ∧ w = w' := by
  subst hl
  exact bytes11 A0 A1 c0 c1 l w h0 h1 hg
end Go.Proofs.Ytbpmjjbccaanfaa.Hd
