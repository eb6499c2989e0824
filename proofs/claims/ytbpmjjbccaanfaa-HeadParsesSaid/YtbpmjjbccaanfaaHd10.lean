import Derived.Test.YtbpmjjbccaanfaaHd9
namespace Go.Proofs.Ytbpmjjbccaanfaa.Hd
open Go.RowKit Go.Shelf Go.Proofs.YtbpmjjbccaanfaaW.PrintWords Go.Proofs.YtbpmjjbccaanfaaW.PrintLast Go.Proofs.YtbpmjjbccaanfaaW.PrintMore
set_option linter.unusedVariables false
set_option linter.unusedSimpArgs false
theorem wrap_i8_ (n : Int) : IntKind.i8.wrap n = (n + 128) % 256 - 128 := by
  simp [IntKind.wrap, IntKind.bits, IntKind.signed]
  split <;> omega
theorem i8_of (x : Int) (h : -128 ≤ x ∧ x ≤ 127) : IntKind.i8.wrap (x % 256) = x := by
  rw [wrap_i8_]; omega
theorem i8_to (x : Int) (h : 0 ≤ x ∧ x ≤ 255) : IntKind.i8.wrap x % 256 = x := by
  rw [wrap_i8_]; omega
theorem i8_rng (x : Int) : -128 ≤ IntKind.i8.wrap x ∧ IntKind.i8.wrap x ≤ 127 := by
  rw [wrap_i8_]; omega
theorem w2_rng (g : Nat → Int) (hg : ∀ j, 0 ≤ g j ∧ g j ≤ 255) (i : Nat) : 0 ≤ w2 g i ∧ w2 g i ≤ 65535 := by
  have h0 := hg (i * 2); have h1 := hg (i * 2 + 1)
  unfold w2; omega
theorem w4_rng (g : Nat → Int) (hg : ∀ j, 0 ≤ g j ∧ g j ≤ 255) (i : Nat) : 0 ≤ w4 g i ∧ w4 g i ≤ 4294967295 := by
  have h0 := hg (i * 4); have h1 := hg (i * 4 + 1); have h2 := hg (i * 4 + 2); have h3 := hg (i * 4 + 3)
  unfold w4; omega
theorem be2_w2 (g : Nat → Int) (hg : ∀ j, 0 ≤ g j ∧ g j ≤ 255) (i : Nat) : be2 (w2 g i) = [g (i * 2), g (i * 2 + 1)] := by
  have h0 := hg (i * 2); have h1 := hg (i * 2 + 1)
  simp only [be2, w2, List.cons.injEq, and_true]; omega
theorem be4_w4 (g : Nat → Int) (hg : ∀ j, 0 ≤ g j ∧ g j ≤ 255) (i : Nat) : be4 (w4 g i) = [g (i * 4), g (i * 4 + 1), g (i * 4 + 2), g (i * 4 + 3)] := by
  have h0 := hg (i * 4); have h1 := hg (i * 4 + 1); have h2 := hg (i * 4 + 2); have h3 := hg (i * 4 + 3)
  simp only [be4, w4, List.cons.injEq, and_true]; omega
set_option maxRecDepth 100000 in
set_option maxHeartbeats 2000000 in
theorem headOf_bytes (h : HdS) (hw : h.wf) (ho : h.ok) : headOf (fun j => h.bytes.getD j 0) = h := by
  obtain ⟨⟨l0, l1⟩, ⟨v0, v1⟩, ⟨m0, m1⟩⟩ := ho
  obtain ⟨hst, hpo, hpr, hd0, hd1, he0, he1, hr0, hr1, hr2, hr3, ha0, ha1, hb0, hb1, hc0, hc1, ht0, ht1⟩ := hw
  obtain ⟨l, v, m, st, po, pr, d0, d1, e0, e1, r0, r1, r2, r3, a0, a1, b0, b1, c0, c1, t0, t1⟩ := h
  simp only at *
  simp only [headOf, HdS.mk.injEq]
  refine ⟨?_, ?_, ?_, ?_, ?_, ?_, ?_, ?_, ?_, ?_, ?_, ?_, ?_, ?_, ?_, ?_, ?_, ?_, ?_, ?_, ?_, ?_⟩
  · exact (show (l * 64 + v * 8 + m) / 64 = l from by omega)
  · exact (show (l * 64 + v * 8 + m) / 8 % 8 = v from by omega)
  · exact (show (l * 64 + v * 8 + m) % 8 = m from by omega)
  · exact (show st = st from rfl)
  · exact (show IntKind.i8.wrap (po % 256) = po from i8_of _ hpo)
  · exact (show IntKind.i8.wrap (pr % 256) = pr from i8_of _ hpr)
  · exact (show d0 / 256 * 256 + d0 % 256 = d0 from by omega)
  · exact (show d1 / 256 * 256 + d1 % 256 = d1 from by omega)
  · exact (show e0 / 256 * 256 + e0 % 256 = e0 from by omega)
  · exact (show e1 / 256 * 256 + e1 % 256 = e1 from by omega)
  · exact (show r0 = r0 from rfl)
  · exact (show r1 = r1 from rfl)
  · exact (show r2 = r2 from rfl)
  · exact (show r3 = r3 from rfl)
  · exact (show a0 / 16777216 * 16777216 + a0 / 65536 % 256 * 65536 + a0 / 256 % 256 * 256 + a0 % 256 = a0 from by omega)
  · exact (show a1 / 16777216 * 16777216 + a1 / 65536 % 256 * 65536 + a1 / 256 % 256 * 256 + a1 % 256 = a1 from by omega)
  · exact (show b0 / 16777216 * 16777216 + b0 / 65536 % 256 * 65536 + b0 / 256 % 256 * 256 + b0 % 256 = b0 from by omega)
  · exact (show b1 / 16777216 * 16777216 + b1 / 65536 % 256 * 65536 + b1 / 256 % 256 * 256 + b1 % 256 = b1 from by omega)
  · exact (show c0 / 16777216 * 16777216 + c0 / 65536 % 256 * 65536 + c0 / 256 % 256 * 256 + c0 % 256 = c0 from by omega)
  · exact (show c1 / 16777216 * 16777216 + c1 / 65536 % 256 * 65536 + c1 / 256 % 256 * 256 + c1 % 256 = c1 from by omega)
  · exact (show t0 / 16777216 * 16777216 + t0 / 65536 % 256 * 65536 + t0 / 256 % 256 * 256 + t0 % 256 = t0 from by omega)
  · exact (show t1 / 16777216 * 16777216 + t1 / 65536 % 256 * 65536 + t1 / 256 % 256 * 256 + t1 % 256 = t1 from by omega)
theorem headOf_ok (g : Nat → Int) (hg : ∀ j, 0 ≤ g j ∧ g j ≤ 255) : (headOf g).ok := by
  have h0 := hg 0
  simp only [headOf, HdS.ok]; omega
theorem headOf_wf (g : Nat → Int) (hg : ∀ j, 0 ≤ g j ∧ g j ≤ 255) : (headOf g).wf :=
  ⟨hg 1, i8_rng _, i8_rng _, w2_rng _ (fun j => hg _) _, w2_rng _ (fun j => hg _) _, w2_rng _ (fun j => hg _) _, w2_rng _ (fun j => hg _) _, hg 12, hg 13, hg 14, hg 15,
   w4_rng _ (fun j => hg _) _, w4_rng _ (fun j => hg _) _, w4_rng _ (fun j => hg _) _, w4_rng _ (fun j => hg _) _, w4_rng _ (fun j => hg _) _, w4_rng _ (fun j => hg _) _, w4_rng _ (fun j => hg _) _, w4_rng _ (fun j => hg _) _⟩
set_option maxRecDepth 100000 in
set_option maxHeartbeats 2000000 in
theorem bytes_headOf (g : Nat → Int) (hg : ∀ j, 0 ≤ g j ∧ g j ≤ 255) : (headOf g).bytes = (List.range 48).map g := by
  have h0 := hg 0
  have e0 : (headOf g).first = g 0 := by simp only [headOf, HdS.first]; omega
  have e1 : (headOf g).po % 256 = g 2 := i8_to _ (hg 2)
  have e2 : (headOf g).pr % 256 = g 3 := i8_to _ (hg 3)
  unfold HdS.bytes
  rw [e0, e1, e2]
  simp only [headOf]
  rw [be2_w2 _ (fun j => hg _), be2_w2 _ (fun j => hg _), be2_w2 _ (fun j => hg _), be2_w2 _ (fun j => hg _),
    be4_w4 _ (fun j => hg _), be4_w4 _ (fun j => hg _), be4_w4 _ (fun j => hg _), be4_w4 _ (fun j => hg _), be4_w4 _ (fun j => hg _), be4_w4 _ (fun j => hg _), be4_w4 _ (fun j => hg _), be4_w4 _ (fun j => hg _)]
  rfl
end Go.Proofs.Ytbpmjjbccaanfaa.Hd
