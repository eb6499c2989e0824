import Derived.Test.YtbpmjjbccaanfaaLp5
namespace Go.Proofs.Ytbpmjjbccaanfaa.Lp
open Go.RowKit Go.Proofs.YtbpmjjbccaanfaaW.PrintWords Go.Proofs.YtbpmjjbccaanfaaW.PrintLast Go.Proofs.YtbpmjjbccaanfaaW.PrintMore Go.Proofs.Ytbpmjjbccaanfaa.Dy
set_option linter.unusedVariables false
set_option linter.unusedSimpArgs false
theorem info68 : (Try.prog.info? 68).map (fun i => (i.zero, i.size, i.bytes)) = some (some (.agg #[.int .i64 0, .int .i64 0]), 2, 16) := by kernel_rfl
theorem take_snoc {xs : List Rw} {k : Nat} (h : k < xs.length) : xs.take k ++ [rdR xs k] = xs.take (k + 1) := by
  unfold rdR
  rw [List.take_succ_eq_append_getElem h, List.getD_eq_getElem?_getD, List.getElem?_eq_getElem h]; rfl
set_option maxRecDepth 100000 in
set_option maxHeartbeats 4000000 in
theorem doc_ (A : Option Addr) (c : Nat) (xs : List Rw) (u e : Int) (w : World) (hr : RowsAt w A c xs) (hl : xs.length ≤ 100000) :
    Calls Try.prog 17 #[.agg #[.slice A xs.length c, .int .i64 u, .int .i64 e]] w fun en w' => ∃ v, en = .returned (.agg #[v, .int .i64 u, .int .i64 e]) ∧ OwnsR 68 w' w.heap.size v xs ∧ Below w.heap.size w w' := by
  replace hr := Aside0.mk hr
  go_enter Try.func17, Try.ntmps17
  go_wp2
  go_loopw [14] (fun t wr => ∃ k v, k ≤ xs.length ∧ t = .int .i64 k ∧ Aside0 (OwnsR 68 wr w.heap.size v (xs.take k)) ∧ Aside0 (wr.heap[w.heap.size + 1 + 1]? = some (.cells #[v, .int .i64 u, .int .i64 e] 57 (0, 0))) ∧ Aside0 (wr.heap[w.heap.size + 1]? = some (.cells #[.slice none 0 0, .int .i64 0, .int .i64 0] 57 (0, 0))) ∧ Aside0 (Below w.heap.size w wr)) (fun t _ => xs.length - (intOf t).toNat)
  case atStart => exact ⟨0, .slice none 0 0, Nat.zero_le _, rfl, ⟨by rw [List.take_zero]; exact Kd.R_nil _ _ _ _ _⟩, ⟨by have := blk_new ((w.alloc (.cells #[.slice A xs.length c, .int .i64 u, .int .i64 e] 51)).alloc (.cells #[.slice none 0 0, .int .i64 0, .int .i64 0] 57)) (.cells #[.slice none 0 0, .int .i64 u, .int .i64 e] 57); rwa [World.size_alloc, World.size_alloc] at this⟩, ⟨by have := blk_alloc (blk_new (w.alloc (.cells #[.slice A xs.length c, .int .i64 u, .int .i64 e] 51)) (.cells #[.slice none 0 0, .int .i64 0, .int .i64 0] 57)) (.cells #[.slice none 0 0, .int .i64 u, .int .i64 e] 57); rwa [World.size_alloc] at this⟩, ⟨below_alloc (below_alloc (below_alloc (Below.refl _ _) _) _) _⟩⟩
  case round =>
    obtain ⟨k, v, hk, rfl, HO, HT, HR, HB⟩ := hrel
    obtain ⟨A1, c1, rfl⟩ := Kd.R_slice HO.out
    have hlen : (xs.take k).length = k := by rw [List.length_take]; omega
    rw [hlen] at HO HT
    have hc := blk_cell HT.out 0
    have hf := blk_frozen HT.out 0
    have hlt3 := blk_lt HT.out
    by_cases hlt : k < xs.length
    · obtain ⟨ad, rfl, c0, c1⟩ := at_Rw (hr.out.below HB.out).reads k hlt
      have hlen2 : Aside0 ((xs.take k ++ [rdR xs k]).length = k + 1) := ⟨by rw [List.length_append, hlen]; rfl⟩
      have hlen' := Aside0.mk hlen
      clear hlen
      go_wp2_with (first
        | (at_builtin; refine Kd.R_append kRw (w0 := w) w.heap.size rfl _ _ 55 68 (.agg #[.int .i64 0, .int .i64 0]) 16 rfl Try.underlying55 info68 rfl (by decide) (by decide) _ (xs.take k) (rdR xs k) [.int .i64 (rdR xs k).d, .int .i64 (rdR xs k).o] (fun _ => True) (fun _ => False) rfl ?hx ?hp (fun k hk => hk.elim) (fun _ _ => trivial) ?hO ?hB ?hbase ?hl ?_; (case hx => simp [Act.eval]); (case hp => exact kRw_mkM _ _ _ _); (case hO => exact HO.out.below (below_alloc (Below.refl _ _) _)); (case hB => exact below_alloc HB.out _); (case hbase => (have := HB.out.size; simp; omega)); (case hl => (have := hlen'.out; omega)); intro v1 w1 ho hb hg hat; obtain ⟨A2, c2, rfl⟩ := Kd.R_slice ho; rw [hlen2.out] at ho; have HT1 := Aside0.mk (blk_grown (blk_alloc HT.out (.cells #[.int .i64 (rdR xs k).d, .int .i64 (rdR xs k).o] 64)) hg (Kd.R_ne HO.out HT.out (by decide))); have HR1 := Aside0.mk (blk_grown (blk_alloc HR.out (.cells #[.int .i64 (rdR xs k).d, .int .i64 (rdR xs k).o] 64)) hg (Kd.R_ne HO.out HR.out (by decide))); clear hg hat hc hf; have hc := blk_cell HT1.out 0; have hf := blk_frozen HT1.out 0))
      go_roundw
      case rel => exact ⟨k + 1, _, by omega, by go_num, ⟨by rw [← take_snoc hlt]; exact Kd.R_set ho HT1.out (by intro q hq; rw [List.mem_singleton.1 (show q ∈ [68] from hq)]; decide) 0 _⟩, ⟨blk_put HT1.out 0 _ (by rfl)⟩, ⟨blk_far HR1.out (by simp) _⟩, ⟨Below.setCell hb (by simp; omega) _⟩⟩
      case measure => simp [intOf]; omega
    · have hkn : k = xs.length := by omega
      have hc1 := blk_cell HT.out 1
      have hc2 := blk_cell HT.out 2
      have hr0 := blk_cell HR.out 0
      have hr1 := blk_cell HR.out 1
      have hr2 := blk_cell HR.out 2
      have hrf := fun o => blk_frozen HR.out o
      subst hkn
      rw [List.take_length] at HO
      go_wp2
      refine bodyPost_ret (results_single rfl (.cell (w.heap.size + 1) 57 #[.slice A1 xs.length c1, .int .i64 u, .int .i64 e] (0, 0) _ rfl (blk_put (blk_put (blk_put HR.out 0 _ (by rfl)) 1 _ (by rfl)) 2 _ (by rfl)) Try.underlying57 rfl (by kernel_rfl) .nil)) rfl ?_
      have hb3 : Below w.heap.size w (((wr.setCell ⟨w.heap.size + 1, 0, none⟩ (.slice A1 xs.length c1)).setCell ⟨w.heap.size + 1, 1, none⟩ (.int .i64 u)).setCell ⟨w.heap.size + 1, 2, none⟩ (.int .i64 e)) := ((HB.out.setCell (by simp) _).setCell (by simp) _).setCell (by simp) _
      refine ⟨_, rfl, ?_, hb3⟩
      have q : ∀ q, q ∈ 68 :: kRw.E → q ≠ 57 := by intro q hq; rw [List.mem_singleton.1 (show q ∈ [68] from hq)]; decide
      exact Kd.R_set (Kd.R_set (Kd.R_set HO.out HR.out q 0 _) (blk_put HR.out 0 _ (by rfl)) q 1 _) (blk_put (blk_put HR.out 0 _ (by rfl)) 1 _ (by rfl)) q 2 _
end Go.Proofs.Ytbpmjjbccaanfaa.Lp
