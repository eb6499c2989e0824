import Derived.Test.YtbpmjjbccaanfaaHd3
import Derived.Deep.RegionWith
namespace Go.Proofs.Ytbpmjjbccaanfaa.Hd
open Go.RowKit Go.Shelf Go.Proofs.YtbpmjjbccaanfaaW.PrintWords Go.Proofs.YtbpmjjbccaanfaaW.PrintLast Go.Proofs.YtbpmjjbccaanfaaW.PrintMore
set_option linter.unusedVariables false
set_option linter.unusedSimpArgs false
set_option maxHeartbeats 1000000 in
theorem from_no (A : Option Addr) (n c many : Nat) (w : World) (h : n < many) (hm : many ≤ 1000000) : Calls Try.prog 93 #[.slice A n c, .int .i64 0, .int .i64 many] w fun e w' => e = .returned (.tuple #[.slice none 0 0, .iface 74 (.int .i64 4)]) ∧ w = w' := by
  go_enter Try.func93, Try.ntmps93
  go_wp2
  refine bodyPost_ret (results_tmp2 rfl _ _ _) rfl ?_
  exact ⟨rfl, rfl⟩
set_option maxHeartbeats 1000000 in
theorem from_ok (bl o n c many : Nat) (w : World) (h : many ≤ n) (h1 : 1 ≤ many) (hn : n ≤ c) (hc : c ≤ 9223372036854775807) : Calls Try.prog 93 #[.slice (some ⟨bl, o, none⟩) n c, .int .i64 0, .int .i64 many] w fun e w' => e = .returned (.tuple #[.slice (some ⟨bl, o, none⟩) many c, .nilIface]) ∧ w = w' := by
  have hz : ¬ c = 0 := by omega
  have hz2 : ¬ n = 0 := by omega
  go_enter Try.func93, Try.ntmps93
  go_wp2
  refine bodyPost_ret (results_tmp2 rfl _ _ _) rfl ?_
  exact ⟨rfl, rfl⟩
set_option maxHeartbeats 1000000 in
theorem cut_no (A : Option Addr) (n c many : Nat) (w : World) (h : n < many) (hm : many ≤ 1000000) : Calls Try.prog 50 #[.slice A n c, .int .i64 0, .int .i64 many] w fun e w' => e = .returned (.tuple #[.slice none 0 0, .iface 74 (.int .i64 4)]) ∧ w = w' := by
  go_enter Try.func50, Try.ntmps50
  go_wp2_with (go_at_call 93; refine (from_no _ _ _ _ _ h hm).mono ?_; rintro e w' ⟨rfl, rfl⟩)
  refine bodyPost_ret (results_tmp2 rfl _ _ _) rfl ?_
  exact ⟨rfl, rfl⟩
set_option maxHeartbeats 1000000 in
theorem cut_ok (bl o n c many : Nat) (bs : List Int) (w : World) (h : many ≤ n) (h1 : 1 ≤ many) (hn : n ≤ c) (hc : c ≤ 9223372036854775807) (hl : bs.length = many) (hr : ReadsInt w .u8 (some ⟨bl, o, none⟩) bs.length bs) (hm : many ≤ 1000000) :
    Calls Try.prog 50 #[.slice (some ⟨bl, o, none⟩) n c, .int .i64 0, .int .i64 many] w fun e w' => ∃ v, e = .returned (.tuple #[v, .nilIface]) ∧ RowB w' w.heap.size v bs ∧ Below w.heap.size w w' := by
  subst hl
  go_enter Try.func50, Try.ntmps50
  go_wp2_with (first | (go_at_call 93; refine (from_ok _ _ _ _ _ _ h h1 hn hc).mono ?_; rintro e w' ⟨rfl, rfl⟩) | (go_at_call 94; refine (clone _ _ bs _ hr (by omega) (by intro h; cases h)).mono ?_; rintro e w' ⟨v, rfl, ho, hb⟩))
  refine bodyPost_ret (results_tmp2 rfl _ _ _) rfl ?_
  exact ⟨_, rfl, ho, hb⟩
set_option maxHeartbeats 1000000 in
theorem get8 (bl o n c : Nat) (x : Int) (w : World) (h1 : 1 ≤ n) (hn : n ≤ c) (hc : c ≤ 9223372036854775807) (x0 : 0 ≤ x) (x1 : x ≤ 255) (h0 : w.cell? ⟨bl, o, none⟩ = some (.int .u8 x)) :
    Calls Try.prog 70 #[.slice (some ⟨bl, o, none⟩) n c, .int .i64 0] w fun e w' => e = .returned (.tuple #[.int .u8 x, .nilIface]) ∧ w = w' := by
  go_enter Try.func70, Try.ntmps70
  go_wp2_with (first | (go_at_call 104; refine (size8 _).mono ?_; rintro e w' ⟨rfl, rfl⟩) | (go_at_call 93; refine (from_ok _ _ _ _ 1 _ h1 (by omega) hn hc).mono ?_; rintro e w' ⟨rfl, rfl⟩) | (go_at_call 105; refine (word8 _ _ _ _ _ h0 x0 x1).mono ?_; rintro e w' ⟨rfl, rfl⟩))
  refine bodyPost_ret (results_tmp2 rfl _ _ _) rfl ?_
  exact ⟨rfl, rfl⟩
set_option maxHeartbeats 1000000 in
theorem first24 (bl o n c : Nat) (x : Int) (w : World) (h1 : 1 ≤ n) (hn : n ≤ c) (hc : c ≤ 9223372036854775807) (x0 : 0 ≤ x) (x1 : x ≤ 255) (h0 : w.cell? ⟨bl, o, none⟩ = some (.int .u8 x)) :
    Calls Try.prog 24 #[.slice (some ⟨bl, o, none⟩) n c] w fun e w' => e = .returned (.tuple #[.int .i64 (x / 64), .int .i64 (x / 8 % 8), .int .i64 (x % 8), .nilIface]) ∧ w = w' := by
  go_enter Try.func24, Try.ntmps24
  go_wp2_with (go_at_call 70; refine (get8 _ _ _ _ _ _ h1 hn hc x0 x1 h0).mono ?_; rintro e w' ⟨rfl, rfl⟩)
  refine bodyPost_ret (results_list (rs := [.tmp 2, .tmp 3, .tmp 4, .tmp 5]) rfl (by simp) (.tmp (.tmp (.tmp (.tmp .nil))))) rfl ?_
  exact ⟨rfl, rfl⟩
end Go.Proofs.Ytbpmjjbccaanfaa.Hd
