import Derived.Test.YtbpmjjbccaanfaaHp5
namespace Go.Proofs.Ytbpmjjbccaanfaa.Hd
open Go.RowKit Go.Proofs.YtbpmjjbccaanfaaW.PrintWords
def IsRow2 (k : IntKind) (w : World) (a : Option Addr) (len cap : Nat) (zs : List Int) : Prop :=
  (a = none ∧ len = 0 ∧ cap = 0 ∧ zs = []) ∨
  ∃ x, a = some x ∧ len ≤ cap ∧ cap ≤ maxLen ∧ zs.length = cap ∧ (∀ i, i < zs.length → w.cell? (x.add i) = some (.int k (zs.getD i 0))) ∧ ∀ n ∈ zs, (Lit.int k n).wf = true
theorem wf_u8' {n : Int} (h : (Lit.int .u8 n).wf = true) : 0 ≤ n ∧ n ≤ 255 := by
  simpa [Lit.wf, IntKind.has, IntKind.min, IntKind.max, IntKind.signed, IntKind.bits] using h
/-- a slice of bytes that came in, by its length -/
theorem row_bytes {w : World} {A : Option Addr} {n c : Nat} {zs : List Int} (h : IsRow2 .u8 w A n c zs) :
    ∃ bs : List Int, bs.length = n ∧ ReadsInt w .u8 A n bs ∧ (∀ j, 0 ≤ bs.getD j 0 ∧ bs.getD j 0 ≤ 255) ∧ n ≤ 9223372036854775807 ∧ (0 < n → ∃ b o, A = some ⟨b, o, none⟩ ∧ b < w.heap.size ∧ n ≤ c ∧ c ≤ 9223372036854775807) := by
  rcases h with ⟨rfl, rfl, rfl, rfl⟩ | ⟨x, rfl, hnc, hcm, hz, hcs, hwf⟩
  · exact ⟨[], rfl, ⟨rfl, by omega, fun h => absurd h (Nat.lt_irrefl 0)⟩, by simp, by omega, fun h => absurd h (Nat.lt_irrefl 0)⟩
  · unfold maxLen at hcm
    have hl : (zs.take n).length = n := by rw [List.length_take]; omega
    have hget : ∀ j, j < n → (zs.take n).getD j 0 = zs.getD j 0 := fun j hj => by simp [List.getD_eq_getElem?_getD, hj]
    refine ⟨zs.take n, hl, ⟨hl, by omega, fun _ => ⟨_, rfl, fun j hj => by rw [hget j hj]; exact hcs j (by omega)⟩⟩, fun j => ?_, by omega, fun h0 => ?_⟩
    · by_cases hj : j < n
      · rw [hget j hj, List.getD_eq_getElem?_getD, List.getElem?_eq_getElem (by omega)]
        exact wf_u8' (hwf _ (List.getElem_mem _))
      · rw [List.getD_eq_getElem?_getD, List.getElem?_eq_none (by omega)]; simp
    · obtain ⟨b, o, sp⟩ := x
      have hsp : sp = none := by simpa [Addr.add] using World.cell?_spot (hcs 0 (by omega))
      subst hsp
      exact ⟨b, o, rfl, World.block_lt_of_cell? w _ (hcs 0 (by omega)), hnc, hcm⟩
theorem par_all (A : Option Addr) (n c : Nat) (zs : List Int) (m : Int) (w : World) (h : IsRow2 .u8 w A n c zs) : Calls Try.prog 5 #[.slice A n c, .int .i64 m] w fun e w' => e = .returned (.bool true) ∧ Below w.heap.size w w' := by
  obtain ⟨bs, hl, hr, hg, hn9, hs⟩ := row_bytes h
  by_cases h300 : 300 < n
  · exact par_long A n c m w h300 hn9
  by_cases h0 : n = 0
  · subst h0
    obtain rfl : bs = [] := List.length_eq_zero_iff.1 hl
    exact par_none A c m w hr
  obtain ⟨b, o, rfl, hb, hnc, hc⟩ := hs (by omega)
  by_cases h48 : n < 48
  · exact par_few b o n c m _ bs w hl (by omega) h48 (hl.symm ▸ hr) rfl hg
  · exact par_head b o n c m _ bs w hl (by omega) (by omega) hnc hc (hl.symm ▸ hr) rfl hg (fun j => (bs.take 48).getD j 0) (fun _ => rfl) hb
end Go.Proofs.Ytbpmjjbccaanfaa.Hd
