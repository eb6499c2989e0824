import Derived.Test.YtbpmjjbccaanfaaHd10
namespace Go.Proofs.Ytbpmjjbccaanfaa.Hd
open Go.RowKit Go.Shelf Go.Proofs.YtbpmjjbccaanfaaW.PrintWords Go.Proofs.YtbpmjjbccaanfaaW.PrintLast Go.Proofs.YtbpmjjbccaanfaaW.PrintMore
set_option linter.unusedVariables false
set_option linter.unusedSimpArgs false
set_option maxRecDepth 100000 in
set_option maxHeartbeats 4000000 in
theorem alive8 (w : World) : Calls Try.prog 8 #[] w fun e w' => e = .returned (.bool true) ∧ Below w.heap.size w w' := by
  have hok : (⟨0, 4, 3, 9, 0, 0, 0, 0, 0, 0, 0, 0, 0, 0, 0, 0, 0, 0, 0, 0, 0, 0⟩ : HdS).ok := by simp only [HdS.ok]; omega
  have hwf : (⟨0, 4, 3, 9, 0, 0, 0, 0, 0, 0, 0, 0, 0, 0, 0, 0, 0, 0, 0, 0, 0, 0⟩ : HdS).wf := by constructor <;> (simp only; omega)
  replace hok := Aside0.mk hok
  replace hwf := Aside0.mk hwf
  go_enter Try.func8, Try.ntmps8
  go_wp2_with (first
    | (go_at_call 24; refine (first24 w.heap.size 0 1 1 35 _ (by omega) (by omega) (by omega) (by omega) (by omega) (by simp)).mono ?_; rintro e w' ⟨rfl, rfl⟩)
    | (go_at_call 9; refine (put_ok ⟨0, 4, 3, 9, 0, 0, 0, 0, 0, 0, 0, 0, 0, 0, 0, 0, 0, 0, 0, 0, 0, 0⟩ _ hok.out hwf.out).mono ?_; rintro e w1 ⟨v, rfl, ho, hb⟩; obtain ⟨ga, cc, rfl, hcap, hcap2, hlow, hlt, hcs⟩ := row_use (n := 48) ho (by rfl) (by omega); have h0 : w1.cell? ⟨ga, 0, none⟩ = some (.int .u8 35) := hcs 0 (by omega); have h1 : w1.cell? ⟨ga, 1, none⟩ = some (.int .u8 9) := hcs 1 (by omega); clear hcs ho))
  go_ret
  exact ⟨rfl, below_over hb (below_alloc (Below.refl _ _) _)⟩
end Go.Proofs.Ytbpmjjbccaanfaa.Hd
