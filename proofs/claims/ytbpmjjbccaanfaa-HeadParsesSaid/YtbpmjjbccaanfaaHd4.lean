import Derived.Test.YtbpmjjbccaanfaaHd3
import Derived.Deep.RegionWith
namespace Go.Proofs.Ytbpmjjbccaanfaa.Hd
open Go.RowKit Go.Shelf Go.Proofs.YtbpmjjbccaanfaaW.PrintWords Go.Proofs.YtbpmjjbccaanfaaW.PrintLast Go.Proofs.YtbpmjjbccaanfaaW.PrintMore
set_option linter.unusedVariables false
set_option linter.unusedSimpArgs false
theorem bcell_ {W w1 : World} (hb : Below W.heap.size W w1) : (∀ b o, b < W.heap.size → w1.cell? ⟨b, o, none⟩ = W.cell? ⟨b, o, none⟩) ∧ (∀ b o, b < W.heap.size → w1.frozen? ⟨b, o, none⟩ = W.frozen? ⟨b, o, none⟩) ∧ W.heap.size ≤ w1.heap.size :=
  ⟨fun b o h => hb.cell (p := ⟨b, o, none⟩) h, fun b o h => hb.frozen (p := ⟨b, o, none⟩) h, hb.size⟩
set_option maxHeartbeats 1000000 in
theorem in_ (x most : Int) (w : World) : Calls Try.prog 90 #[.int .i64 x, .int .i64 most] w fun e w' => e = .returned (.bool (decide (0 ≤ x ∧ x ≤ most))) ∧ w = w' := by
  by_cases h : 0 ≤ x
  · by_cases h2 : x ≤ most
    all_goals
      go_enter Try.func90, Try.ntmps90
      go_wp2
      go_ret
      exact ⟨by simp [h, h2], rfl⟩
  · go_enter Try.func90, Try.ntmps90
    go_wp2
    go_ret
    exact ⟨by simp; omega, rfl⟩
set_option maxHeartbeats 1000000 in
theorem bits97 (a b : Int) (w : World) (a0 : 0 ≤ a) (a1 : a ≤ 4294967295) (b0 : 0 ≤ b) (b1 : b ≤ 4294967295) : Calls Try.prog 97 #[.agg #[.int .u32 a, .int .u32 b]] w fun e w' => e = .returned (.int .u64 (a * 4294967296 + b)) ∧ Below w.heap.size w w' := by
  have V := Aside0.mk (bits_join .u64 64 (by decide) (fun n h0 h1 => by rw [IntKind.wrap_u64]; omega) 32 (a * 4294967296) b (by omega) (by omega) (by omega) b0 (by omega) (by omega))
  go_enter Try.func97, Try.ntmps97
  go_wp2
  go_ret
  exact ⟨congrArg (fun z => Ending.returned (Value.int _ z)) V.out, below_alloc (Below.refl _ _) _⟩
set_option maxRecDepth 100000 in
set_option maxHeartbeats 4000000 in
theorem sub53 (a b c d : Int) (w : World) (a0 : 0 ≤ a) (a1 : a ≤ 4294967295) (b0 : 0 ≤ b) (b1 : b ≤ 4294967295) (c0 : 0 ≤ c) (c1 : c ≤ 4294967295) (d0 : 0 ≤ d) (d1 : d ≤ 4294967295) :
    Calls Try.prog 53 #[.agg #[.int .u32 a, .int .u32 b], .agg #[.int .u32 c, .int .u32 d]] w fun e w' => e = .returned (.int .i64 (IntKind.i64.wrap (IntKind.u64.wrap ((a * 4294967296 + b) - (c * 4294967296 + d))))) ∧ Below w.heap.size w w' := by
  go_enter Try.func53, Try.ntmps53
  go_wp2
  go_region_with (go_at_call 97; refine (bits97 _ _ _ (by omega) (by omega) (by omega) (by omega)).mono ?_; rintro e w' ⟨rfl, hb⟩; obtain ⟨hc, hf, hz⟩ := bcell_ hb; replace hb := Aside0.mk hb; (try simp at hz); (try (have hy : w.heap.size < w'.heap.size := (by omega))); (try (have hy : w.heap.size + 1 < w'.heap.size := (by omega))))
  all_goals go_wp2
  all_goals go_ret
  all_goals refine ⟨rfl, ?_⟩
  all_goals with_reducible repeat (first | exact Below.refl _ _ | apply below_drew | apply below_alloc | refine below_over (Aside0.out (by assumption)) ?_)
end Go.Proofs.Ytbpmjjbccaanfaa.Hd
