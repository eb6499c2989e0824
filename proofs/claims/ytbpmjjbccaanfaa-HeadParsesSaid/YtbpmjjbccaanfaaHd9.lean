import Derived.Test.YtbpmjjbccaanfaaHd8
namespace Go.Proofs.Ytbpmjjbccaanfaa.Hd
open Go.RowKit Go.Shelf Go.Proofs.YtbpmjjbccaanfaaW.PrintWords Go.Proofs.YtbpmjjbccaanfaaW.PrintLast Go.Proofs.YtbpmjjbccaanfaaW.PrintMore
set_option linter.unusedVariables false
set_option linter.unusedSimpArgs false
set_option maxHeartbeats 1000000 in
theorem bytes11 (A0 A1 : Option Addr) (c0 c1 : Nat) (l : List Int) (w : World) (h0 : ReadsInt w .u8 A0 l.length l) (h1 : ReadsInt w .u8 A1 l.length l) (hl : ∀ j, 0 ≤ l.getD j 0 ∧ l.getD j 0 ≤ 255) :
    Calls Try.prog 11 #[.slice A0 l.length c0, .slice A1 l.length c1] w fun e w' => e = .returned (.bool true) ∧ w = w' := by
  have HR0 := Aside0.mk h0
  have HR1 := Aside0.mk h1
  clear h0 h1
  have hcv3 := string_of_reads (P := Try.prog) (A := A0) (c := c0) Try.underlying32 Try.underlying5 Try.underlying9 (show ReadsOf (Value.int .u8) (0 : Int) w A0 l.length l from HR0.out)
  have hcv4 := string_of_reads (P := Try.prog) (A := A1) (c := c1) Try.underlying32 Try.underlying5 Try.underlying9 (show ReadsOf (Value.int .u8) (0 : Int) w A1 l.length l from HR1.out)
  go_enter Try.func11, Try.ntmps11
  go_wp2
  go_ret
  exact ⟨by first | rfl | (simp; done) | (simp [*]; done), rfl⟩
set_option maxHeartbeats 1000000 in
theorem bits12 (a b : Int) (w : World) (a0 : 0 ≤ a) (a1 : a ≤ 4294967295) (b0 : 0 ≤ b) (b1 : b ≤ 4294967295) : Calls Try.prog 12 #[.agg #[.int .u32 a, .int .u32 b]] w fun e w' => e = .returned (.int .u64 (a * 4294967296 + b)) ∧ Below w.heap.size w w' := by
  have V := Aside0.mk (bits_join .u64 64 (by decide) (fun n h0 h1 => by rw [IntKind.wrap_u64]; omega) 32 (a * 4294967296) b (by omega) (by omega) (by omega) b0 (by omega) (by omega))
  go_enter Try.func12, Try.ntmps12
  go_wp2
  go_ret
  exact ⟨congrArg (fun z => Ending.returned (Value.int _ z)) V.out, below_alloc (Below.refl _ _) _⟩
set_option maxHeartbeats 1000000 in
theorem mk13 (n : Int) (w : World) (n0 : 0 ≤ n) (n1 : n ≤ 18446744073709551615) : Calls Try.prog 13 #[.int .u64 n] w fun e w' => e = .returned (.agg #[.int .u32 (n / 4294967296), .int .u32 (n % 4294967296)]) ∧ Below w.heap.size w w' := by
  go_enter Try.func13, Try.ntmps13
  go_wp2
  refine bodyPost_ret (results_single rfl (.cell w.heap.size 29 _ (0, 0) _ rfl (blk_new w _) Try.underlying29 rfl (by kernel_rfl) .nil)) rfl ?_
  exact ⟨rfl, below_alloc (Below.refl _ _) _⟩
end Go.Proofs.Ytbpmjjbccaanfaa.Hd
