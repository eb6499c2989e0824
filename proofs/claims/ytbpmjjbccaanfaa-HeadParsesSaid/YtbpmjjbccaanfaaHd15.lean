import Derived.Test.YtbpmjjbccaanfaaHd14
import Derived.Test.YtbpmjjbccaanfaaWEqStruct
import Derived.DeepKeys
namespace Go.Proofs.Ytbpmjjbccaanfaa.Hd
open Go.RowKit Go.Shelf Go.Proofs.YtbpmjjbccaanfaaW.PrintWords
set_option linter.unusedVariables false
set_option linter.unusedSimpArgs false
theorem eqU (d : Nat) (w : World) (a b : Int) : (Op.equalIn (d + 2) 29 (.agg #[.int .u32 a, .int .u32 b]) (.agg #[.int .u32 a, .int .u32 b])).run Try.prog w = .ok true w := by
  refine eqA_of Try.underlying29 (by kernel_rfl) ?_
  refine eqf_cons (r := true) (s := true) (by rfl) (by go_simp; rfl) (by go_simp; rfl) (by go_simp) ?_
  exact eqf_last (by rfl) (by go_simp; rfl) (by go_simp; rfl) (by go_simp)
theorem eqS (d : Nat) (w : World) (a b : Int) : (Op.equalIn (d + 2) 25 (.agg #[.int .u16 a, .int .u16 b]) (.agg #[.int .u16 a, .int .u16 b])).run Try.prog w = .ok true w := by
  refine eqA_of Try.underlying25 (by kernel_rfl) ?_
  refine eqf_cons (r := true) (s := true) (by rfl) (by go_simp; rfl) (by go_simp; rfl) (by go_simp) ?_
  exact eqf_last (by rfl) (by go_simp; rfl) (by go_simp; rfl) (by go_simp)
theorem info5' : ∃ i, Try.prog.info? 5 = some i := by
  obtain ⟨i0, hi, _⟩ := info_parts info5
  exact ⟨i0, hi⟩
theorem cells5 : Try.prog.cellsOf 5 = 1 := by kernel_rfl
theorem eqR (d : Nat) (w : World) (a b c e : Int) : (Op.equalIn (d + 2) 26 (.agg #[.int .u8 a, .int .u8 b, .int .u8 c, .int .u8 e]) (.agg #[.int .u8 a, .int .u8 b, .int .u8 c, .int .u8 e])).run Try.prog w = .ok true w := by
  obtain ⟨i, hi⟩ := info5'
  rw [show d + 2 = (d + 1) + 1 from rfl, run_equalIn_array w (d + 1) _ _ Try.underlying26 hi, cells5]
  have p (j : Nat) (x : Value) (h : (#[.int .u8 a, .int .u8 b, .int .u8 c, .int .u8 e] : Array Value)[j]? = some x) (hx : ∃ n, x = .int .u8 n) : (part 5 #[.int .u8 a, .int .u8 b, .int .u8 c, .int .u8 e] j).run Try.prog w = .ok x w := by
    obtain ⟨n, rfl⟩ := hx
    match j with
    | 0 => obtain rfl : a = n := by simpa using h
           go_simp
    | 1 => obtain rfl : b = n := by simpa using h
           go_simp
    | 2 => obtain rfl : c = n := by simpa using h
           go_simp
    | 3 => obtain rfl : e = n := by simpa using h
           go_simp
    | j + 4 => simp at h
  have q (n : Int) : (Op.equalIn (d + 1) 5 (.int .u8 n) (.int .u8 n)).run Try.prog w = .ok true w := by go_simp
  show (Op.eqItems (d + 1) 5 1 _ _ [0, 1, 2, 3]).run Try.prog w = _
  have one (i : Nat) (is : List Nat) (x : Value) (hp : (part 5 #[.int .u8 a, .int .u8 b, .int .u8 c, .int .u8 e] (i * 1)).run Try.prog w = .ok x w) (hq : (Op.equalIn (d + 1) 5 x x).run Try.prog w = .ok true w) (hr : (Op.eqItems (d + 1) 5 1 #[.int .u8 a, .int .u8 b, .int .u8 c, .int .u8 e] #[.int .u8 a, .int .u8 b, .int .u8 c, .int .u8 e] is).run Try.prog w = .ok true w) : (Op.eqItems (d + 1) 5 1 #[.int .u8 a, .int .u8 b, .int .u8 c, .int .u8 e] #[.int .u8 a, .int .u8 b, .int .u8 c, .int .u8 e] (i :: is)).run Try.prog w = .ok true w := by
    rw [Op.eqItems]
    simp only [Sem.run_bind, hp, hq, Result.andThen_ok]
    simpa using hr
  exact one 0 _ _ (p 0 _ rfl ⟨_, rfl⟩) (q _) (one 1 _ _ (p 1 _ rfl ⟨_, rfl⟩) (q _) (one 2 _ _ (p 2 _ rfl ⟨_, rfl⟩) (q _) (one 3 _ _ (p 3 _ rfl ⟨_, rfl⟩) (q _) (by simp [Op.eqItems]))))
set_option maxHeartbeats 2000000 in
theorem eqH (d : Nat) (w : World) (h : HdS) : (Op.equalIn (d + 3) 31 (.agg #[.int .i64 h.l, .int .i64 h.v, .int .i64 h.m, .int .u8 h.st, .int .i8 h.po, .int .i8 h.pr, .int .u16 h.d0, .int .u16 h.d1, .int .u16 h.e0, .int .u16 h.e1, .int .u8 h.r0, .int .u8 h.r1, .int .u8 h.r2, .int .u8 h.r3, .int .u32 h.a0, .int .u32 h.a1, .int .u32 h.b0, .int .u32 h.b1, .int .u32 h.c0, .int .u32 h.c1, .int .u32 h.t0, .int .u32 h.t1]) (.agg #[.int .i64 h.l, .int .i64 h.v, .int .i64 h.m, .int .u8 h.st, .int .i8 h.po, .int .i8 h.pr, .int .u16 h.d0, .int .u16 h.d1, .int .u16 h.e0, .int .u16 h.e1, .int .u8 h.r0, .int .u8 h.r1, .int .u8 h.r2, .int .u8 h.r3, .int .u32 h.a0, .int .u32 h.a1, .int .u32 h.b0, .int .u32 h.b1, .int .u32 h.c0, .int .u32 h.c1, .int .u32 h.t0, .int .u32 h.t1])).run Try.prog w = .ok true w := by
  refine eqA_of Try.underlying31 (by kernel_rfl) ?_
  refine eqf_cons (r := true) (s := true) (by rfl) (by go_simp; rfl) (by go_simp; rfl) (by go_simp) ?_
  refine eqf_cons (r := true) (s := true) (by rfl) (by go_simp; rfl) (by go_simp; rfl) (by go_simp) ?_
  refine eqf_cons (r := true) (s := true) (by rfl) (by go_simp; rfl) (by go_simp; rfl) (by go_simp) ?_
  refine eqf_cons (r := true) (s := true) (by rfl) (by go_simp; rfl) (by go_simp; rfl) (by go_simp) ?_
  refine eqf_cons (r := true) (s := true) (by rfl) (by go_simp; rfl) (by go_simp; rfl) (by go_simp) ?_
  refine eqf_cons (r := true) (s := true) (by rfl) (by go_simp; rfl) (by go_simp; rfl) (by go_simp) ?_
  refine eqf_cons (r := true) (s := true) (by rfl) ?_ ?_ (eqS d w h.d0 h.d1) ?_
  · go_simp
  · go_simp
  refine eqf_cons (r := true) (s := true) (by rfl) ?_ ?_ (eqS d w h.e0 h.e1) ?_
  · go_simp
  · go_simp
  refine eqf_cons (r := true) (s := true) (by rfl) ?_ ?_ (eqR d w h.r0 h.r1 h.r2 h.r3) ?_
  · go_simp
  · go_simp
  refine eqf_cons (r := true) (s := true) (by rfl) ?_ ?_ (eqU d w h.a0 h.a1) ?_
  · go_simp
  · go_simp
  refine eqf_cons (r := true) (s := true) (by rfl) ?_ ?_ (eqU d w h.b0 h.b1) ?_
  · go_simp
  · go_simp
  refine eqf_cons (r := true) (s := true) (by rfl) ?_ ?_ (eqU d w h.c0 h.c1) ?_
  · go_simp
  · go_simp
  refine eqf_last (by rfl) ?_ ?_ (eqU d w h.t0 h.t1)
  · go_simp
  · go_simp
theorem neqH (w : World) (h : HdS) : (binOp .neq 31 (.agg #[.int .i64 h.l, .int .i64 h.v, .int .i64 h.m, .int .u8 h.st, .int .i8 h.po, .int .i8 h.pr, .int .u16 h.d0, .int .u16 h.d1, .int .u16 h.e0, .int .u16 h.e1, .int .u8 h.r0, .int .u8 h.r1, .int .u8 h.r2, .int .u8 h.r3, .int .u32 h.a0, .int .u32 h.a1, .int .u32 h.b0, .int .u32 h.b1, .int .u32 h.c0, .int .u32 h.c1, .int .u32 h.t0, .int .u32 h.t1]) (.agg #[.int .i64 h.l, .int .i64 h.v, .int .i64 h.m, .int .u8 h.st, .int .i8 h.po, .int .i8 h.pr, .int .u16 h.d0, .int .u16 h.d1, .int .u16 h.e0, .int .u16 h.e1, .int .u8 h.r0, .int .u8 h.r1, .int .u8 h.r2, .int .u8 h.r3, .int .u32 h.a0, .int .u32 h.a1, .int .u32 h.b0, .int .u32 h.b1, .int .u32 h.c0, .int .u32 h.c1, .int .u32 h.t0, .int .u32 h.t1])).run Try.prog w = .ok (.bool false) w := by
  rw [run_neq_struct, eqH 9997]
  rfl
end Go.Proofs.Ytbpmjjbccaanfaa.Hd
