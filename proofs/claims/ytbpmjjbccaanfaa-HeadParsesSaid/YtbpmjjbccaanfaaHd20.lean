import Derived.Test.YtbpmjjbccaanfaaHd16
namespace Go.Proofs.Ytbpmjjbccaanfaa.Hd
open Go.RowKit Go.Shelf Go.Proofs.YtbpmjjbccaanfaaW.PrintWords Go.Proofs.YtbpmjjbccaanfaaW.PrintLast Go.Proofs.YtbpmjjbccaanfaaW.PrintMore
set_option linter.unusedVariables false
set_option linter.unusedSimpArgs false
theorem bytes_rng (h : HdS) (hw : h.wf) (ho : h.ok) (j : Nat) : 0 ≤ h.bytes.getD j 0 ∧ h.bytes.getD j 0 ≤ 255 := by
  obtain ⟨⟨l0, l1⟩, ⟨v0, v1⟩, ⟨m0, m1⟩⟩ := ho
  obtain ⟨hst, hpo, hpr, hd0, hd1, he0, he1, hr0, hr1, hr2, hr3, ha0, ha1, hb0, hb1, hc0, hc1, ht0, ht1⟩ := hw
  have key : ∀ x ∈ h.bytes, 0 ≤ x ∧ x ≤ 255 := by
    intro x hx
    simp only [HdS.bytes, HdS.first, be2, be4, List.mem_append, List.mem_cons, List.not_mem_nil, or_false] at hx
    omega
  by_cases hj : j < h.bytes.length
  · rw [List.getD_eq_getElem?_getD, List.getElem?_eq_getElem hj]; exact key _ (List.getElem_mem hj)
  · rw [List.getD_eq_getElem?_getD, List.getElem?_eq_none (by omega)]; simp
theorem wpList_load_if {P : Program} {ops : Array Oper} {rest : List Oper} {o : Oper} {a : Act} {w : World} {Q : Exit → Act → World → Prop} (hwd : Region.wanted o (yielded ops a.tmps) = true) (ty : TypeId) (x : Operand) (ho : o.op = .load ty x)
    (g : Nat) (hx : a.eval x = .pointer (some ⟨g, 0, none⟩)) (t : TypeId) (cs : Array Value) (fr : Nat × Nat) (d : TypeDesc) (hg : w.heap[g]? = some (.cells cs t fr))
    (hu : P.underlying ty = some d) (hd : (match d with | .struct _ | .array _ _ => true | _ => false) = true) (hi : (P.info? ty).map (·.size) = some cs.size)
    (h : wpList P ops Q rest (a.put o.dst (.agg cs)) w) : wpList P ops Q (o :: rest) a w :=
  wpList_step fun K hK => by rw [if_pos hwd]; exact wp_load_row ty x ho g hx t cs fr d hg hu hd hi (hK _ _ h)
theorem eqg31 : Try.prog.eqGuardType Try.prog.depth 31 = false := by kernel_rfl
theorem wpList_neq31 {ops : Array Oper} {rest : List Oper} {o : Oper} {a : Act} {w : World} {Q : Exit → Act → World → Prop} (hwd : Region.wanted o (yielded ops a.tmps) = true) (x y : Operand) (ho : o.op = .binOp .neq 31 x y 31)
    (h : HdS) (hx : a.eval x = .agg #[.int .i64 h.l, .int .i64 h.v, .int .i64 h.m, .int .u8 h.st, .int .i8 h.po, .int .i8 h.pr, .int .u16 h.d0, .int .u16 h.d1, .int .u16 h.e0, .int .u16 h.e1, .int .u8 h.r0, .int .u8 h.r1, .int .u8 h.r2, .int .u8 h.r3, .int .u32 h.a0, .int .u32 h.a1, .int .u32 h.b0, .int .u32 h.b1, .int .u32 h.c0, .int .u32 h.c1, .int .u32 h.t0, .int .u32 h.t1]) (hy : a.eval y = .agg #[.int .i64 h.l, .int .i64 h.v, .int .i64 h.m, .int .u8 h.st, .int .i8 h.po, .int .i8 h.pr, .int .u16 h.d0, .int .u16 h.d1, .int .u16 h.e0, .int .u16 h.e1, .int .u8 h.r0, .int .u8 h.r1, .int .u8 h.r2, .int .u8 h.r3, .int .u32 h.a0, .int .u32 h.a1, .int .u32 h.b0, .int .u32 h.b1, .int .u32 h.c0, .int .u32 h.c1, .int .u32 h.t0, .int .u32 h.t1]) (hh : wpList Try.prog ops Q rest (a.put o.dst (.bool false)) w) : wpList Try.prog ops Q (o :: rest) a w :=
  wpList_step fun K hK => by
    rw [if_pos hwd]
    unfold Oper.wp execOp
    simp only [ho, hx, hy, Sem.run_bind, run_eqGuard_agg w .neq 31 _ _ _ _ eqg31, neqH w h, Result.andThen_ok, Sem.run_pure]
    exact hK _ _ hh
theorem BAt.below_ {w W : World} {h : HdS} {s u q : Int} (H : BAt w h s u q W) : Below w.heap.size w W := H.bel
set_option maxRecDepth 100000 in
theorem parse_put (h : HdS) (hw : h.wf) (ho : h.ok) (ga cc : Nat) (W : World) (hcap : 48 ≤ cc) (hcap2 : cc ≤ 9223372036854775807) (hcs : ∀ j, j < 48 → W.cell? ⟨ga, j, none⟩ = some (.int .u8 (h.bytes.getD j 0))) :
    Calls Try.prog 10 #[.slice (some ⟨ga, 0, none⟩) 48 cc] W fun e w' => e = .returned (.tuple #[.agg #[.int .i64 h.l, .int .i64 h.v, .int .i64 h.m, .int .u8 h.st, .int .i8 h.po, .int .i8 h.pr, .int .u16 h.d0, .int .u16 h.d1, .int .u16 h.e0, .int .u16 h.e1, .int .u8 h.r0, .int .u8 h.r1, .int .u8 h.r2, .int .u8 h.r3, .int .u32 h.a0, .int .u32 h.a1, .int .u32 h.b0, .int .u32 h.b1, .int .u32 h.c0, .int .u32 h.c1, .int .u32 h.t0, .int .u32 h.t1], .nilIface]) ∧ Below W.heap.size W w' := by
  refine (parse_ok ga 0 48 cc h.bytes W (by omega) hcap hcap2 rfl ⟨rfl, by rw [show h.bytes.length = 48 from rfl]; omega, fun _ => ⟨_, rfl, fun j hj => ?_⟩⟩ (fun j => h.bytes.getD j 0) (fun _ => rfl) (bytes_rng h hw ho)).mono ?_
  · have := hcs j hj
    rwa [show (⟨ga, 0, none⟩ : Addr).add j = ⟨ga, j, none⟩ by unfold Addr.add; split <;> simp_all]
  · rintro e w' ⟨⟨k, hk, rfl⟩, hb⟩
    rw [headOf_bytes h hw ho] at hk
    subst hk
    exact ⟨rfl, hb⟩
set_option maxRecDepth 100000 in
theorem parse_bs (bl o n c : Nat) (bs : List Int) (W : World) (hn : 48 ≤ n) (hnc : n ≤ c) (hc2 : c ≤ 9223372036854775807) (hl : bs.length = 48) (hr : ReadsInt W .u8 (some ⟨bl, o, none⟩) bs.length bs) (hg : ∀ j, 0 ≤ bs.getD j 0 ∧ bs.getD j 0 ≤ 255) :
    Calls Try.prog 10 #[.slice (some ⟨bl, o, none⟩) n c] W fun e w' => ∃ k : HdS, e = .returned (.tuple #[.agg #[.int .i64 k.l, .int .i64 k.v, .int .i64 k.m, .int .u8 k.st, .int .i8 k.po, .int .i8 k.pr, .int .u16 k.d0, .int .u16 k.d1, .int .u16 k.e0, .int .u16 k.e1, .int .u8 k.r0, .int .u8 k.r1, .int .u8 k.r2, .int .u8 k.r3, .int .u32 k.a0, .int .u32 k.a1, .int .u32 k.b0, .int .u32 k.b1, .int .u32 k.c0, .int .u32 k.c1, .int .u32 k.t0, .int .u32 k.t1], .nilIface]) ∧ k.bytes = bs ∧ k.wf ∧ k.ok ∧ Below W.heap.size W w' := by
  refine (parse_ok bl o n c bs W hn hnc hc2 hl hr (fun j => bs.getD j 0) (fun _ => rfl) hg).mono ?_
  rintro e w' ⟨⟨k, rfl, rfl⟩, hb⟩
  refine ⟨_, rfl, ?_, headOf_wf _ hg, headOf_ok _ hg, hb⟩
  rw [bytes_headOf _ hg]
  apply List.ext_getElem (by simp [hl])
  intro i h1 h2
  simp [h2]
theorem row_reads {W : World} {base : Nat} {v : Value} {bs : List Int} (h : RowB W base v bs) (hl : bs.length = 48) : ∃ ga cc, v = .slice (some ⟨ga, 0, none⟩) 48 cc ∧ 48 ≤ cc ∧ cc ≤ 9223372036854775807 ∧ ReadsInt W .u8 (some ⟨ga, 0, none⟩) bs.length bs := by
  obtain ⟨ga, cc, e, h1, h2, _, _, hc⟩ := row_use h hl (by omega)
  refine ⟨ga, cc, e, h1, h2, rfl, by rw [hl]; omega, fun _ => ⟨_, rfl, fun j hj => ?_⟩⟩
  rw [show (⟨ga, 0, none⟩ : Addr).add j = ⟨ga, j, none⟩ by unfold Addr.add; split <;> simp_all]
  exact hc j (by omega)
theorem bytes48 (A0 A1 : Option Addr) (c0 c1 : Nat) (l : List Int) (w : World) (hl : l.length = 48) (h0 : ReadsInt w .u8 A0 l.length l) (h1 : ReadsInt w .u8 A1 l.length l) (hg : ∀ j, 0 ≤ l.getD j 0 ∧ l.getD j 0 ≤ 255) :
    Calls Try.prog 11 #[.slice A0 48 c0, .slice A1 48 c1] w fun e w' => e = .returned (.bool true) ∧ w = w' := by
  have := bytes11 A0 A1 c0 c1 l w h0 h1 hg
  rwa [hl] at this
end Go.Proofs.Ytbpmjjbccaanfaa.Hd
