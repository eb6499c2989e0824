/- Proved: called with any head, any bytes and any three numbers, HeadBack returns true, and its arguments read afterwards as before. Conditions: none. -/
import Derived.Test.YtbpmjjbccaanfaaHd17
import Derived.Test.YtbpmjjbccaanfaaHd18
import Derived.Test.YtbpmjjbccaanfaaHd19
import Derived.Test.YtbpmjjbccaanfaaRows
import Derived.WalkKit
import Derived.ProofKit
import Derived.OpenShut
import Derived.ShutString
import Derived.ChangeOld
import Derived.Below
import Derived.SizedLaws
namespace Go.Proofs.Ytbpmjjbccaanfaa.Hd
open Go.ChangeShapes Go.WideShapes Go.ChangeAt Go.RowKit Go.Proofs.YtbpmjjbccaanfaaW.PrintWords
set_option linter.unusedVariables false
theorem own : ownKnob Try.prog.godebug = none := by kernel_rfl
theorem laidOut : laidOutB Try.prog = true := by kernel_rfl
def IsRow (k : IntKind) (w : World) (a : Option Addr) (len cap : Nat) (zs : List Int) : Prop :=
  (a = none ∧ len = 0 ∧ cap = 0 ∧ zs = []) ∨
  ∃ x, a = some x ∧ len ≤ cap ∧ cap ≤ maxLen ∧ zs.length = cap ∧ (∀ i, i < zs.length → w.cell? (x.add i) = some (.int k (zs.getD i 0))) ∧ ∀ n ∈ zs, (Lit.int k n).wf = true
theorem wf_u8 {n : Int} (h : (Lit.int .u8 n).wf = true) : 0 ≤ n ∧ n ≤ 255 := by
  simpa [Lit.wf, IntKind.has, IntKind.min, IntKind.max, IntKind.signed, IntKind.bits] using h
theorem back_all (h : HdS) (hw : h.wf) (s u q : Int) (s0 : -2147483648 ≤ s ∧ s ≤ 2147483647) (u0 : -2147483648 ≤ u ∧ u ≤ 2147483647) (q0 : -2147483648 ≤ q ∧ q ≤ 2147483647) (A : Option Addr) (n c : Nat) (zs : List Int) (w : World) (hr : IsRow .u8 w A n c zs) :
    Calls Try.prog 3 #[.agg #[.int .i64 h.l, .int .i64 h.v, .int .i64 h.m, .int .u8 h.st, .int .i8 h.po, .int .i8 h.pr, .int .u16 h.d0, .int .u16 h.d1, .int .u16 h.e0, .int .u16 h.e1, .int .u8 h.r0, .int .u8 h.r1, .int .u8 h.r2, .int .u8 h.r3, .int .u32 h.a0, .int .u32 h.a1, .int .u32 h.b0, .int .u32 h.b1, .int .u32 h.c0, .int .u32 h.c1, .int .u32 h.t0, .int .u32 h.t1], .slice A n c, .agg #[.int .i32 s, .int .i32 u, .int .i32 q]] w fun e w' => e = .returned (.bool true) ∧ Below w.heap.size w w' := by
  by_cases hn : 48 ≤ n
  · rcases hr with ⟨_, h0, _⟩ | ⟨x, rfl, hnc, hcm, hz, hcs, hwf⟩
    · omega
    · unfold maxLen at hcm
      by_cases hl : 300 < n
      · exact back_long h s u q _ n c w hl (by omega)
      · obtain ⟨b, o, sp⟩ := x
        have hsp : sp = none := by simpa [Addr.add] using World.cell?_spot (hcs 0 (by omega))
        subst hsp
        have hbs : (zs.take 48).length = 48 := by rw [List.length_take]; omega
        have hget : ∀ j, j < 48 → (zs.take 48).getD j 0 = zs.getD j 0 := fun j hj => by simp [List.getD_eq_getElem?_getD, hj]
        have hrd : ReadsInt w .u8 (some ⟨b, o, none⟩) (zs.take 48).length (zs.take 48) := ⟨rfl, by rw [hbs]; omega, fun _ => ⟨_, rfl, fun j hj => by rw [hget j (by omega)]; exact hcs j (by omega)⟩⟩
        have hg : ∀ j, 0 ≤ (zs.take 48).getD j 0 ∧ (zs.take 48).getD j 0 ≤ 255 := fun j => by
          by_cases hj : j < 48
          · rw [hget j hj, List.getD_eq_getElem?_getD, List.getElem?_eq_getElem (by omega)]
            exact wf_u8 (hwf _ (List.getElem_mem _))
          · rw [List.getD_eq_getElem?_getD, List.getElem?_eq_none (by omega)]; simp
        by_cases ho : h.ok
        · exact back_yy h hw ho s u q s0.1 s0.2 u0.1 u0.2 q0.1 q0.2 b o n c _ w hn (by omega) hnc hcm hbs hrd hg
        · exact back_ny h hw ho s u q s0.1 s0.2 u0.1 u0.2 q0.1 q0.2 b o n c _ w hn (by omega) hnc hcm hbs hrd hg
  · by_cases ho : h.ok
    · exact back_yn h hw ho s u q s0.1 s0.2 u0.1 u0.2 q0.1 q0.2 A n c w (by omega)
    · exact back_nn h hw ho s u q s0.1 s0.2 u0.1 u0.2 q0.1 q0.2 A n c w (by omega)
set_option maxRecDepth 100000 in
theorem lifted (os : Os) (started : os.Started) (H : Type) (enc : TypeId × Value → H) :
    ReturnsInHanded {} Try.checked os 3 .any (Rows.headBackSpec.pre6 enc Try.prog Try.f3 Rows.headBackRow.domain false) (Rows.headBackSpec.post enc Try.prog Try.f3 false true false false) := by
  refine returnsInHanded_of_change_sized (C := Try.checked) own started (by kernel_rfl) Try.func3
    (ChangeSpec.witness6 (enc := enc) (C := Try.checked) false ⟨#[], #[.agg #[.int .i64 0, .int .i64 0, .int .i64 0, .int .u8 0, .int .i8 0, .int .i8 0, .int .u16 0, .int .u16 0, .int .u16 0, .int .u16 0, .int .u8 0, .int .u8 0, .int .u8 0, .int .u8 0, .int .u32 0, .int .u32 0, .int .u32 0, .int .u32 0, .int .u32 0, .int .u32 0, .int .u32 0, .int .u32 0], .slice none 0 0, .agg #[.int .i32 0, .int .i32 0, .int .i32 0]], []⟩ 8 (by kernel_rfl) (by kernel_rfl) (by kernel_rfl) (by kernel_rfl)) ?_
  intro W base args ds gs before hval0 hW hcnd hsz0 _
  have hval : ∀ (j : Nat) t v, Try.f3.params[j]? = some t → args[j]? = some v → Value.okWide Try.prog W .any base t v := hval0
  have hW' := hW
  obtain ⟨p, q, hA0, hV, rfl, hfz, hnd⟩ := hW
  have hA : DataW.TrodAll enc Try.prog W 0 (fun _ => true) true Try.f3.params.toList args.toList ds p := hA0
  rw [Try.params3] at hA hval
  obtain ⟨v0, vs0, d0, ds0, p0, q0, hargs, rfl, rfl, h0, r0⟩ := trodAll_cons hA
  obtain ⟨v1, vs1, d1, ds1, p1, q1, rfl, rfl, rfl, h1, r1⟩ := trodAll_cons r0
  obtain ⟨v2, vs2, d2, ds2, p2, q2, rfl, rfl, rfl, h2, r2⟩ := trodAll_cons r1
  obtain ⟨rfl, rfl, rfl⟩ := trodAll_nil r2
  obtain rfl : args = #[v0, v1, v2] := by cases args; simp_all
  obtain ⟨rfl, rfl⟩ := trodVars_none hV
  obtain ⟨hd, rfl, hw⟩ := open_head (hval 0 31 v0 rfl rfl)
  obtain ⟨s, u, q, rfl, hs, hu, hq⟩ := open_way (hval 2 33 v2 rfl rfl)
  obtain ⟨a1, len1, cap1, rfl⟩ := okWide_slice Try.underlying32 (hval 1 32 v1 rfl rfl)
  have k0 := h0
  have k1 := h1
  have k2 := h2
  have lt0 : ∀ x ∈ p0, x.block < W.heap.size := by obtain ⟨m, hm⟩ := k0; exact DataW.trod_lt m _ _ _ hm
  have lt1 : ∀ x ∈ p1, x.block < W.heap.size := by obtain ⟨m, hm⟩ := k1; exact DataW.trod_lt m _ _ _ hm
  have lt2 : ∀ x ∈ p2, x.block < W.heap.size := by obtain ⟨m, hm⟩ := k2; exact DataW.trod_lt m _ _ _ hm
  obtain ⟨z1, w1⟩ : ∃ zs, IsRow .u8 W a1 len1 cap1 zs := by
    obtain ⟨fuel, hf⟩ := h1
    rcases open_ints Try.underlying32 Try.underlying5 (by kernel_rfl) hf with ⟨hcs, _⟩ | ⟨x, l, c, zs, hcs, _, hl, hm, hz, _, hcell, hwz⟩
    · simp [Value.cells] at hcs
      obtain ⟨rfl, rfl, rfl⟩ := hcs
      exact ⟨[], .inl ⟨rfl, rfl, rfl, rfl⟩⟩
    · simp [Value.cells] at hcs
      obtain ⟨rfl, rfl, rfl⟩ := hcs
      exact ⟨zs, .inr ⟨_, rfl, hl, hm, by simpa using hz, hcell, hwz⟩⟩
  clear hA0 hval0 hsz0
  refine (back_all hd hw s u q hs hu hq a1 len1 cap1 z1 W w1).mono fun e W' ⟨he, bel⟩ => ?_
  subst he
  exact ⟨_, rfl, _, _, _, [], _, [], hW', trodAll_mk1 (shut_bool Try.underlying4 _), (trodAll_cons_mk (Below.trod laidOut (by kernel_rfl) (of_decide_eq_true (by kernel_rfl)) k0 bel lt0) (trodAll_cons_mk (Below.trod laidOut (by kernel_rfl) (of_decide_eq_true (by kernel_rfl)) k1 bel lt1) (trodAll_cons_mk (Below.trod laidOut (by kernel_rfl) (of_decide_eq_true (by kernel_rfl)) k2 bel lt2) trodAll_mk0))), rfl, bel.frame _, fun h => by cases h⟩
theorem over : Rows.headBackRow.holds Try.pinned (OpenSpec.ofChange Rows.headBackSpec) :=
  OpenClaim.holds_of_wide 3 Try.f3 rfl rfl rfl rfl rfl rfl rfl ⟨rfl, rfl, rfl, rfl, rfl⟩ rfl rfl rfl rfl rfl (by kernel_rfl) Try.func3 (by kernel_rfl)
    (of_decide_eq_true (by kernel_rfl)) (by unfold Func.isWrapper; first | (rw [if_pos (by decide +kernel)]; kernel_rfl) | (rw [if_neg (by decide +kernel)]; exact ⟨rfl, rfl⟩))
    (fun os started H enc _ => lifted os started H enc)
theorem proved : Rows.HeadBackSaid := over
#print axioms proved
end Go.Proofs.Ytbpmjjbccaanfaa.Hd
namespace Go.Proofs.Ytbpmjjbccaanfaa
/-- The row, under a short name, for the claim. -/
theorem headBack_holds : Rows.HeadBackSaid := Hd.proved
end Go.Proofs.Ytbpmjjbccaanfaa
