import Derived.Test.YtbpmjjbccaanfaaHd20
import Derived.Test.YtbpmjjbccaanfaaPHeadParsesx1
import Derived.Deep.RegionHeld3
namespace Go.Proofs.Ytbpmjjbccaanfaa.Hd
open Go.RowKit Go.Shelf Go.Proofs.YtbpmjjbccaanfaaW.PrintWords Go.Proofs.YtbpmjjbccaanfaaW.PrintLast Go.Proofs.YtbpmjjbccaanfaaW.PrintMore Go.Proofs.Ytbpmjjbccaanfaa.PHeadParses
set_option linter.unusedVariables false
set_option linter.unusedSimpArgs false
/-- a mode's word -/
def modeS (m : Int) : ByteArray := (head_Mode.f m).getD ⟨#[]⟩
theorem mode_own (m : Int) : head_Mode.f m = some (modeS m) := by
  unfold modeS head_Mode.f
  repeat' split
  all_goals rfl
theorem mode_ref (m : Int) : horologeref28_Mode.f m = some (modeS m) := by
  unfold modeS head_Mode.f horologeref28_Mode.f
  simp only [Option.bind_some, List.length_cons, List.length_nil]
  by_cases h0 : m < 0
  · rw [if_pos h0]; repeat' rw [if_neg (by omega)]
    rfl
  by_cases h8 : m ≥ 8
  · rw [if_neg h0, if_pos (by omega)]; repeat' rw [if_neg (by omega)]
    rfl
  have : m = 0 ∨ m = 1 ∨ m = 2 ∨ m = 3 ∨ m = 4 ∨ m = 5 ∨ m = 6 ∨ m = 7 := by omega
  rcases this with rfl | rfl | rfl | rfl | rfl | rfl | rfl | rfl <;> rfl
theorem mode25 (m : Int) (w : World) : Calls Try.prog 25 #[.int .i64 m] w fun e w' => e = .returned (.string (modeS m)) ∧ Below w.heap.size w w' :=
  (head_Mode.calls m _ w (mode_own m)).mono fun _ _ ⟨h, k⟩ => ⟨h, k.below⟩
theorem mode26 (m : Int) (w : World) : Calls Try.prog 26 #[.int .i64 m] w fun e w' => e = .returned (.string (modeS m)) ∧ Below w.heap.size w w' :=
  horologeref28_Mode.calls m _ w (mode_ref m)
theorem num19 (c : Int) (h : c ≠ 0) (w : World) : Calls Try.prog 19 #[.iface 74 (.int .i64 c)] w fun e w' => e = .returned (.int .i64 c) ∧ Below w.heap.size w w' :=
  (horologenum_Num.calls (some c) c w (by simp [horologenum_Num.f, h])).mono fun _ _ ⟨h, k⟩ => ⟨h, k.below⟩
theorem num19_nil (w : World) : Calls Try.prog 19 #[.nilIface] w fun e w' => e = .returned (.int .i64 0) ∧ Below w.heap.size w w' :=
  (horologenum_Num.calls none 0 w (by simp [horologenum_Num.f])).mono fun _ _ ⟨h, k⟩ => ⟨h, k.below⟩
theorem is27 (c : Int) (h : c ≠ 0) (w : World) : Calls Try.prog 27 #[.iface 74 (.int .i64 c), .int .i64 c] w fun e w' => e = .returned (.bool true) ∧ Below w.heap.size w w' :=
  (horologenum_Is.calls (some c) c true w (by simp [horologenum_Is.f, horologenum_Num.f, h])).mono fun _ _ ⟨h, k⟩ => ⟨h, k.below⟩
theorem signed72 (x : Int) (h : 0 ≤ x ∧ x ≤ 255) (w : World) : Calls Try.prog 72 #[.int .u8 x] w fun e w' => e = .returned (.int .i64 (IntKind.i8.wrap x)) ∧ Below w.heap.size w w' := by
  refine (horologeref28_signed.calls x (IntKind.i8.wrap x) w ?_).mono fun _ _ ⟨h, k⟩ => ⟨h, k.below⟩
  unfold horologeref28_signed.f
  split
  · exact congrArg some (by rw [wrap_i8_]; unfold wrap64; omega)
  · exact congrArg some (by rw [wrap_i8_]; unfold wrap64; omega)
theorem short71 (a b : Int) (h : 0 ≤ a ∧ a ≤ 65535) (k : 0 ≤ b ∧ b ≤ 65535) (w : World) : Calls Try.prog 71 #[.agg #[.int .u16 a, .int .u16 b]] w fun e w' => e = .returned (.int .u64 (a * 65536 + b)) ∧ Below w.heap.size w w' := by
  refine horologelaw28_short.calls a b _ w ?_
  unfold horologelaw28_short.f
  refine congrArg some ?_
  have e1 : IntKind.u64.wrap a = a := by rw [IntKind.wrap_u64]; omega
  have e2 : IntKind.u64.wrap b = b := by rw [IntKind.wrap_u64]; omega
  have e3 : IntKind.u64.wrap (a * 65536) = a * 65536 := by rw [IntKind.wrap_u64]; omega
  rw [e1, e2, e3]
  exact bits_join .u64 64 (by decide) (fun n h0 h1 => by rw [IntKind.wrap_u64]; omega) 16 (a * 65536) b (by omega) (by omega) (by omega) k.1 (by omega) (by omega)
/-- what bytes say, the highest first -/
def val : Int → List Int → Int
  | a, [] => a
  | a, x :: r => val (a * 256 + x) r
theorem val_round (l : List Int) (hl : l.length ≤ 8) (hb : ∀ j, 0 ≤ l.getD j 0 ∧ l.getD j 0 ≤ 255) : ∀ (d i : Nat) (a : Int) (k : Nat), i + d = l.length → d < k → 0 ≤ a → a < 256 ^ i → horologeref03_Value.l0 k l a (i : Int) = some (val a (l.drop i)) := by
  intro d
  induction d with
  | zero =>
    intro i a k h hk ha ha2
    obtain ⟨k, rfl⟩ : ∃ m, k = m + 1 := ⟨k - 1, by omega⟩
    simp only [horologeref03_Value.l0]
    rw [if_neg (by omega), List.drop_eq_nil_of_le (by omega)]
    rfl
  | succ d ih =>
    intro i a k h hk ha ha2
    obtain ⟨k, rfl⟩ : ∃ m, k = m + 1 := ⟨k - 1, by omega⟩
    have hx := hb i
    have hxe : rd l (i : Int) = l.getD i 0 := by simp [rd]
    have hi : i < l.length := by omega
    have hp : (256 : Int) ^ (i + 1) ≤ 18446744073709551616 := by
      have : i ≤ 7 := by omega
      have : i = 0 ∨ i = 1 ∨ i = 2 ∨ i = 3 ∨ i = 4 ∨ i = 5 ∨ i = 6 ∨ i = 7 := by omega
      rcases this with rfl | rfl | rfl | rfl | rfl | rfl | rfl | rfl <;> decide
    have hp2 : (256 : Int) ^ (i + 1) = 256 ^ i * 256 := Int.pow_succ ..
    simp only [horologeref03_Value.l0]
    rw [if_pos (by omega), if_pos (by omega), hxe]
    have e1 : IntKind.u64.wrap (l.getD i 0) = l.getD i 0 := by rw [IntKind.wrap_u64]; omega
    have e2 : IntKind.u64.wrap (a * 256) = a * 256 := by rw [IntKind.wrap_u64]; omega
    have e3 : IntKind.u64.wrap (a * 256 + l.getD i 0) = a * 256 + l.getD i 0 := by rw [IntKind.wrap_u64]; omega
    have e4 : wrap64 ((i : Int) + 1) = ((i + 1 : Nat) : Int) := by unfold wrap64; omega
    rw [e1, e2, e3, e4, ih (i + 1) _ k (by omega) (by omega) (by omega) (by omega), List.drop_eq_getElem_cons hi]
    simp only [val]
    congr 2
    rw [List.getD_eq_getElem?_getD, List.getElem?_eq_getElem hi]; rfl
theorem value32 (A : Option Addr) (c : Nat) (l : List Int) (w : World) (hr : ReadsInt w .u8 A l.length l) (hc : l.length ≤ c) (hl : l.length ≤ 8) (hb : ∀ j, 0 ≤ l.getD j 0 ∧ l.getD j 0 ≤ 255) :
    Calls Try.prog 32 #[.slice A l.length c] w fun e w' => e = .returned (.int .u64 (val 0 l)) ∧ Below w.heap.size w w' :=
  (horologeref03_Value.calls (l.length + 1) A c l _ w (Kd.C_of_reads (d := (0 : Int)) (h1 := fun _ => rfl) hr) hc (val_round l hl hb l.length 0 0 _ (by omega) (by omega) (by omega) (by decide))).mono fun _ _ ⟨h, k⟩ => ⟨h, k.below⟩
theorem value4 (b o n c : Nat) (g : Nat → Int) (w : World) (hn : n = 4) (hc : 4 ≤ c) (hb : ∀ j, j < 4 → w.cell? ⟨b, o + j, none⟩ = some (.int .u8 (g j))) (hg : ∀ j, 0 ≤ g j ∧ g j ≤ 255) :
    Calls Try.prog 32 #[.slice (some ⟨b, o, none⟩) n c] w fun e w' => e = .returned (.int .u64 (g 0 * 16777216 + g 1 * 65536 + g 2 * 256 + g 3)) ∧ Below w.heap.size w w' := by
  subst hn
  have h0 := hg 0; have h1 := hg 1; have h2 := hg 2; have h3 := hg 3
  have := value32 (some ⟨b, o, none⟩) c [g 0, g 1, g 2, g 3] w ⟨rfl, by simp, fun _ => ⟨_, rfl, fun j hj => ?_⟩⟩ hc (by simp) ?_
  · refine this.mono fun _ _ ⟨h, k⟩ => ⟨?_, k⟩
    rw [h]; simp only [val]; congr 2; omega
  · rw [show (⟨b, o, none⟩ : Addr).add j = ⟨b, o + j, none⟩ by unfold Addr.add; split <;> simp_all]
    have hj' : j < 4 := hj
    rw [hb j hj']
    match j, hj' with
    | 0, _ => rfl
    | 1, _ => rfl
    | 2, _ => rfl
    | 3, _ => rfl
  · intro j
    match j with
    | 0 => exact h0
    | 1 => exact h1
    | 2 => exact h2
    | 3 => exact h3
    | j + 4 => simp
theorem value8 (b o n c : Nat) (g : Nat → Int) (w : World) (hn : n = 8) (hc : 8 ≤ c) (hb : ∀ j, j < 8 → w.cell? ⟨b, o + j, none⟩ = some (.int .u8 (g j))) (hg : ∀ j, 0 ≤ g j ∧ g j ≤ 255) :
    Calls Try.prog 32 #[.slice (some ⟨b, o, none⟩) n c] w fun e w' => e = .returned (.int .u64 ((g 0 * 16777216 + g 1 * 65536 + g 2 * 256 + g 3) * 4294967296 + (g 4 * 16777216 + g 5 * 65536 + g 6 * 256 + g 7))) ∧ Below w.heap.size w w' := by
  subst hn
  have h0 := hg 0; have h1 := hg 1; have h2 := hg 2; have h3 := hg 3; have h4 := hg 4; have h5 := hg 5; have h6 := hg 6; have h7 := hg 7
  have := value32 (some ⟨b, o, none⟩) c [g 0, g 1, g 2, g 3, g 4, g 5, g 6, g 7] w ⟨rfl, by simp, fun _ => ⟨_, rfl, fun j hj => ?_⟩⟩ hc (by simp) ?_
  · refine this.mono fun _ _ ⟨h, k⟩ => ⟨?_, k⟩
    rw [h]; simp only [val]; congr 2; omega
  · rw [show (⟨b, o, none⟩ : Addr).add j = ⟨b, o + j, none⟩ by unfold Addr.add; split <;> simp_all]
    have hj' : j < 8 := hj
    rw [hb j hj']
    match j, hj' with
    | 0, _ => rfl
    | 1, _ => rfl
    | 2, _ => rfl
    | 3, _ => rfl
    | 4, _ => rfl
    | 5, _ => rfl
    | 6, _ => rfl
    | 7, _ => rfl
  · intro j
    match j with
    | 0 => exact h0
    | 1 => exact h1
    | 2 => exact h2
    | 3 => exact h3
    | 4 => exact h4
    | 5 => exact h5
    | 6 => exact h6
    | 7 => exact h7
    | j + 8 => simp
set_option maxHeartbeats 1000000 in
theorem first_no (A : Option Addr) (c : Nat) (w : World) : Calls Try.prog 24 #[.slice A 0 c] w fun e w' => e = .returned (.tuple #[.int .i64 0, .int .i64 0, .int .i64 0, .iface 74 (.int .i64 4)]) ∧ w = w' := by
  have get_no : ∀ W, Calls Try.prog 70 #[.slice A 0 c, .int .i64 0] W fun e w' => e = .returned (.tuple #[.int .u8 0, .iface 74 (.int .i64 4)]) ∧ W = w' := by
    intro W
    go_enter Try.func70, Try.ntmps70
    go_wp2_with (first | (go_at_call 104; refine (size8 _).mono ?_; rintro e w' ⟨rfl, rfl⟩) | (go_at_call 93; refine (from_no A 0 c 1 _ (by omega) (by omega)).mono ?_; rintro e w' ⟨rfl, rfl⟩))
    refine bodyPost_ret (results_tmp2 rfl _ _ _) rfl ?_
    exact ⟨rfl, rfl⟩
  go_enter Try.func24, Try.ntmps24
  go_wp2_with (go_at_call 70; refine (get_no _).mono ?_; rintro e w' ⟨rfl, rfl⟩)
  refine bodyPost_ret (results_list (rs := [.tmp 2, .tmp 3, .tmp 4, .tmp 5]) rfl (by simp) (.tmp (.tmp (.tmp (.tmp .nil))))) rfl ?_
  exact ⟨rfl, rfl⟩
end Go.Proofs.Ytbpmjjbccaanfaa.Hd
