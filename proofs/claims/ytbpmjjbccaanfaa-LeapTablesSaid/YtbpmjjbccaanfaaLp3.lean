import Derived.Test.YtbpmjjbccaanfaaLp2
import Derived.Deep.RegionHeld3
namespace Go.Proofs.Ytbpmjjbccaanfaa.Lp
open Go.RowKit Go.Proofs.YtbpmjjbccaanfaaW.PrintWords Go.Proofs.YtbpmjjbccaanfaaW.PrintLast Go.Proofs.YtbpmjjbccaanfaaW.PrintMore Go.Proofs.Ytbpmjjbccaanfaa.Dy
set_option linter.unusedVariables false
set_option linter.unusedSimpArgs false
/-- does each row follow the one ahead of it? -/
def riseB (xs : List Rw) : Bool := (List.range (xs.length - 1)).all fun j => folB (rdR xs (j + 1)) (rdR xs j)
theorem riseB_of {xs : List Rw} (h : ∀ j, j + 1 < xs.length → folB (rdR xs (j + 1)) (rdR xs j) = true) : riseB xs = true := by
  unfold riseB
  rw [List.all_eq_true]
  intro j hj
  rw [List.mem_range] at hj
  exact h j (by omega)
theorem riseB_no {xs : List Rw} {j : Nat} (hj : j + 1 < xs.length) (h : folB (rdR xs (j + 1)) (rdR xs j) = false) : riseB xs = false := by
  cases hb : riseB xs
  · rfl
  · unfold riseB at hb
    rw [List.all_eq_true] at hb
    have := hb j (List.mem_range.2 (by omega))
    rw [h] at this; cases this
set_option maxHeartbeats 2000000 in
theorem fol_ (r s : Rw) (w : World) (r0 : 0 ≤ r.o) (r1 : r.o ≤ 1000) (s0 : 0 ≤ s.o) (s1 : s.o ≤ 1000) : Calls Try.prog 101 #[.agg #[.int .i64 r.d, .int .i64 r.o], .agg #[.int .i64 s.d, .int .i64 s.o]] w fun e w' => e = .returned (.bool (folB r s)) ∧ Below w.heap.size w w' := by
  by_cases h : s.d < r.d
  · by_cases h1 : r.o - s.o = 1
    · have e := Aside0.mk (show folB r s = true from decide_eq_true ⟨h, .inl h1⟩)
      have b1 : (r.o - s.o == 1) = true := by rw [h1]; rfl
      clear h1
      go_enter Try.func101, Try.ntmps101
      go_wp2
      go_ret
      exact ⟨by rw [e.out]; first | rfl | (simp; done) | (simp; omega), below_alloc (below_alloc (Below.refl _ _) _) _⟩
    · by_cases h2 : r.o - s.o = -1
      · have e := Aside0.mk (show folB r s = true from decide_eq_true ⟨h, .inr h2⟩)
        have b1 : (r.o - s.o == 1) = false := by simpa using h1
        have b2 : (r.o - s.o == -1) = true := by rw [h2]; rfl
        clear h1 h2
        go_enter Try.func101, Try.ntmps101
        go_wp2
        go_ret
        exact ⟨by rw [e.out]; first | rfl | (simp; done) | (simp; omega), below_alloc (below_alloc (Below.refl _ _) _) _⟩
      · have e := Aside0.mk (show folB r s = false from decide_eq_false (by omega))
        have b1 : (r.o - s.o == 1) = false := by simpa using h1
        have b2 : (r.o - s.o == -1) = false := by simpa using h2
        clear h1 h2
        go_enter Try.func101, Try.ntmps101
        go_wp2
        go_ret
        exact ⟨by rw [e.out]; first | rfl | (simp; done) | (simp; omega), below_alloc (below_alloc (Below.refl _ _) _) _⟩
  · have e := Aside0.mk (show folB r s = false from decide_eq_false (by omega))
    go_enter Try.func101, Try.ntmps101
    go_wp2
    go_ret
    exact ⟨by rw [e.out]; first | rfl | (simp; done) | (simp; omega), below_alloc (below_alloc (Below.refl _ _) _) _⟩
theorem may_at {xs : List Rw} (h : (xs.any fun r => !mayB r) = false) (j : Nat) (hj : j < xs.length) : 0 ≤ (rdR xs j).o ∧ (rdR xs j).o ≤ 1000 := by
  rw [List.any_eq_false] at h
  have hm : rdR xs j ∈ xs := by
    unfold rdR
    rw [List.getD_eq_getElem?_getD, List.getElem?_eq_getElem hj]
    exact List.getElem_mem _
  have := h _ hm
  simp [mayB] at this
  omega
theorem keep5 {w W W1 : World} {a b c d : Addr} {p q r s : Value} (hb : Below W.heap.size W W1) (h : W.cell? a = some p ∧ W.cell? b = some q ∧ W.cell? c = some r ∧ W.cell? d = some s ∧ Below w.heap.size w W) :
    W1.cell? a = some p ∧ W1.cell? b = some q ∧ W1.cell? c = some r ∧ W1.cell? d = some s ∧ Below w.heap.size w W1 :=
  ⟨(hb.cell (World.block_lt_of_cell? W a h.1)).trans h.1, (hb.cell (World.block_lt_of_cell? W b h.2.1)).trans h.2.1, (hb.cell (World.block_lt_of_cell? W c h.2.2.1)).trans h.2.2.1, (hb.cell (World.block_lt_of_cell? W d h.2.2.2.1)).trans h.2.2.2.1, below_over hb h.2.2.2.2⟩
set_option maxHeartbeats 4000000 in
theorem rise_ (A : Option Addr) (c : Nat) (xs : List Rw) (w : World) (hr : RowsAt w A c xs) (hl : xs.length ≤ 100000) (hm : (xs.any fun r => !mayB r) = false) :
    Calls Try.prog 61 #[.slice A xs.length c] w fun e w' => e = .returned (.bool (riseB xs)) ∧ Below w.heap.size w w' := by
  replace hr := Aside0.mk hr
  replace hm := Aside0.mk hm
  go_enter Try.func61, Try.ntmps61
  go_wp2
  go_loopw [3] (fun t wr => ∃ k : Nat, 1 ≤ k ∧ k ≤ xs.length + 1 ∧ t = .int .i64 k ∧ Aside0 (∀ j, j + 1 < k → folB (rdR xs (j + 1)) (rdR xs j) = true) ∧ Aside0 (Below w.heap.size w wr)) (fun t _ => xs.length - (intOf t).toNat)
  case atStart => exact ⟨1, by omega, by omega, rfl, ⟨fun j hj => by omega⟩, ⟨Below.refl _ _⟩⟩
  case round =>
    obtain ⟨k, hk1, hk, rfl, hno, HB⟩ := hrel
    by_cases hlt : k < xs.length
    · obtain ⟨ad, rfl, c0, c1⟩ := at_Rw (hr.out.below HB.out).reads k hlt
      obtain ⟨ad', e', d0, d1⟩ := at_Rw (hr.out.below HB.out).reads (k - 1) (by omega)
      cases e'
      have kk : ((k : Int) - 1).toNat = k - 1 := by omega
      have kw : IntKind.i64.wrap ((k : Int) - 1) = (k : Int) - 1 := by rw [IntKind.wrap_i64]; omega
      have ki : (0 : Int) ≤ (k : Int) - 1 := by omega
      have kl : (k : Int) - 1 < xs.length := by omega
      have kl2 : (k : Int) < xs.length := by omega
      have kl3 : k < xs.length + 1 := by omega
      have kl4 : (k : Int) < (xs.length : Int) + 1 := by omega
      have kl5 : (1 : Int) ≤ (k : Int) := by omega
      obtain ⟨m0, m1⟩ := may_at hm.out k hlt
      obtain ⟨n0, n1⟩ := may_at hm.out (k - 1) (by omega)
      cases hp : folB (rdR xs k) (rdR xs (k - 1))
      · have hp' := Aside0.mk hp
        clear hp
        go_wp2
        go_region_held3 (fun w' => w'.cell? (ad.add (k * 2)) = some (.int .i64 (rdR xs k).d) ∧ w'.cell? ⟨(ad.add (k * 2)).block, (ad.add (k * 2)).off + 1, none⟩ = some (.int .i64 (rdR xs k).o) ∧ w'.cell? (ad.add ((k - 1) * 2)) = some (.int .i64 (rdR xs (k - 1)).d) ∧ w'.cell? ⟨(ad.add ((k - 1) * 2)).block, (ad.add ((k - 1) * 2)).off + 1, none⟩ = some (.int .i64 (rdR xs (k - 1)).o) ∧ Below w.heap.size w w')
          (first | exact ⟨c0, c1, d0, d1, below_drew HB.out⟩ | exact keep5 hb (by assumption))
          (first | (go_at_call 101; refine (fol_ (rdR xs k) (rdR xs (k - 1)) _ m0 m1 n0 n1).mono ?_; rw [hp'.out]; rintro e w' ⟨rfl, hb⟩))
        rename_i hH
        go_wp2
        go_ret
        refine ⟨?_, hH.2.2.2.2⟩
        rw [riseB_no (j := k - 1) (by omega) (by rw [show k - 1 + 1 = k by omega]; exact hp'.out)]; rfl
      · have hp' := Aside0.mk hp
        clear hp
        go_wp2
        go_region_held3 (fun w' => w'.cell? (ad.add (k * 2)) = some (.int .i64 (rdR xs k).d) ∧ w'.cell? ⟨(ad.add (k * 2)).block, (ad.add (k * 2)).off + 1, none⟩ = some (.int .i64 (rdR xs k).o) ∧ w'.cell? (ad.add ((k - 1) * 2)) = some (.int .i64 (rdR xs (k - 1)).d) ∧ w'.cell? ⟨(ad.add ((k - 1) * 2)).block, (ad.add ((k - 1) * 2)).off + 1, none⟩ = some (.int .i64 (rdR xs (k - 1)).o) ∧ Below w.heap.size w w')
          (first | exact ⟨c0, c1, d0, d1, below_drew HB.out⟩ | exact keep5 hb (by assumption))
          (first | (go_at_call 101; refine (fol_ (rdR xs k) (rdR xs (k - 1)) _ m0 m1 n0 n1).mono ?_; rw [hp'.out]; rintro e w' ⟨rfl, hb⟩))
        rename_i hH
        have HB1 := Aside0.mk hH.2.2.2.2
        clear hH hb HB c0 c1 d0 d1
        go_wp2
        go_roundw
        case rel => exact ⟨k + 1, by omega, by omega, by go_num, ⟨fun j hj => by
          by_cases e : j = k - 1
          · subst e; rw [show k - 1 + 1 = k by omega]; exact hp'.out
          · exact hno.out j (by omega)⟩, HB1⟩
        case measure => simp [intOf]; omega
    · go_wp2
      go_ret
      exact ⟨by rw [riseB_of (fun j hj => hno.out j (by omega))]; rfl, HB.out⟩
end Go.Proofs.Ytbpmjjbccaanfaa.Lp
