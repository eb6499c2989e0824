import Derived.Test.YtbpmjjbccaanfaaLp11
import Derived.Deep.QuietTactic
import Derived.BigQuiet
namespace Go.Proofs.Ytbpmjjbccaanfaa.Lp
open Go.RowKit Go.Proofs.YtbpmjjbccaanfaaW.PrintWords Go.Proofs.YtbpmjjbccaanfaaW.PrintLast Go.Proofs.YtbpmjjbccaanfaaW.PrintMore Go.Proofs.Ytbpmjjbccaanfaa.Dy Go.Proofs.Ytbpmjjbccaanfaa.Rg
set_option linter.unusedVariables false
set_option linter.unusedSimpArgs false
theorem BAt.size {w W : World} {A : Option Addr} {c : Nat} {xs : List Rw} {u e : Int} (h : BAt w A c xs u e W) : w.heap.size ≤ W.heap.size := h.bel.size
theorem below_drewN_ (W : World) (n : Nat) : Below W.heap.size W (W.drewN n) := pw_below_drewN (Below.refl _ _) n
theorem RowsAt.move {w w1 : World} {A : Option Addr} {c : Nat} {xs : List Rw} (h : RowsAt w A c xs) (hm : ∀ ad, A = some ad → w1.heap[ad.block]? = w.heap[ad.block]?) : RowsAt w1 A c xs := by
  refine ⟨?_, h.le, h.cap, h.nil⟩
  refine ⟨h.reads.1, h.reads.2.1, fun hn => ?_⟩
  obtain ⟨ad, e1, hc⟩ := h.reads.2.2 hn
  refine ⟨ad, e1, fun j p hj => ?_⟩
  obtain ⟨c0, h0, h1, h2⟩ := hc j p hj
  refine ⟨c0, h0, h1, fun i u' hu => ?_⟩
  have hx := h2 i u' hu
  have hb : (ad.add (j * kRw.sz + i)).block = ad.block := by unfold Addr.add; split <;> rfl
  simp only [World.cell?] at hx ⊢
  rw [hb] at hx ⊢
  rw [hm ad e1]
  exact hx
/-- a row of the call's own that isn't empty: its block, its first cells -/
theorem own_more {e : Nat} {W : World} {base : Nat} {v : Value} {xs : List Rw} (h : OwnsR e W base v xs) (hn : 0 < xs.length) : ∃ G cap, v = .slice (some ⟨G, 0, none⟩) xs.length cap ∧ base ≤ G ∧ G < W.heap.size ∧ W.cell? ⟨G, 0, none⟩ = some (.int .i64 (rdR xs 0).d) ∧ W.frozen? ⟨G, 0, none⟩ = false ∧ W.cell? ⟨G, 1, none⟩ = some (.int .i64 (rdR xs 0).o) := by
  obtain ⟨G, cap, rfl, h1, h2, cells, h3⟩ := Kd.R_form h hn
  obtain ⟨A, c, he, hC⟩ := own_rows h
  cases he
  obtain ⟨ad, ha, c0, c1⟩ := at_Rw hC.reads 0 hn
  cases ha
  exact ⟨G, cap, rfl, h1, h2, c0, blk_frozen h3 0, c1⟩
theorem own_first {e : Nat} {W : World} {base : Nat} {v : Value} {xs : List Rw} (h : OwnsR e W base v xs) (hn : 0 < xs.length) : ∃ G cap, v = .slice (some ⟨G, 0, none⟩) xs.length cap ∧ base ≤ G ∧ G < W.heap.size ∧ RowsAt W (some ⟨G, 0, none⟩) cap xs ∧ ∃ cells, W.heap[G]? = some (.cells cells e (0, 0)) ∧ cells[1]? = some (.int .i64 (rdR xs 0).o) := by
  obtain ⟨G, cap, rfl, h1, h2, cells, h3⟩ := Kd.R_form h hn
  obtain ⟨A, c, he, hC⟩ := own_rows h
  cases he
  obtain ⟨ad, ha, c0, c1⟩ := at_Rw hC.reads 0 hn
  cases ha
  exact ⟨G, cap, rfl, h1, h2, hC, cells, h3, (blk_cell h3 1).symm.trans c1⟩
structure LSt (w : World) (N B : Nat) (A : Option Addr) (M : Nat) (A3 : Option Addr) (G : Nat) : Prop where
  g0 : w.heap.size ≤ G
  g1 : G < N
  b : N ≤ B
  m : N ≤ M
  a : ∀ ad, A = some ad → N ≤ ad.block
  a3 : ∀ ad, A3 = some ad → N ≤ ad.block
theorem LSt.of {w : World} {N N3 B n3 c n c3 : Nat} {A : Option Addr} {M : Nat} {A3 : Option Addr} {G : Nat} (g0 : w.heap.size ≤ G) (g1 : G < N) (b : N ≤ B) (a : ∀ k, (Value.slice A n c).ownBlock = some k → N ≤ k) (a3 : ∀ k, (Value.slice A3 n3 c3).ownBlock = some k → N3 ≤ k) (h1 : N ≤ N3) (h2 : N3 ≤ M) : LSt w N B A M A3 G :=
  ⟨g0, g1, b, by omega, fun ad h => a _ (by rw [h]; simp [Value.ownBlock]), fun ad h => by have := a3 ad.block (by rw [h]; simp [Value.ownBlock]); omega⟩
structure LAt (w : World) (B : Nat) (A : Option Addr) (c M : Nat) (A3 : Option Addr) (c3 G : Nat) (cells : Array Value) (xs : List Rw) (u e : Int) (W : World) : Prop where
  t : TabAt W B A c xs u e
  m : W.heap[M]? = some (.cells #[.slice A3 xs.length c3, .int .i64 u, .int .i64 e] 57 (0, 0))
  r3 : RowsAt W A3 c3 xs
  g : W.heap[G]? = some (.cells cells 64 (0, 0))
  bel : Below w.heap.size w W
theorem LAt.call {w W W1 : World} {B : Nat} {A : Option Addr} {c M : Nat} {A3 : Option Addr} {c3 G : Nat} {cells : Array Value} {xs : List Rw} {u e : Int} (h : LAt w B A c M A3 c3 G cells xs u e W) (hb : Below W.heap.size W W1) : LAt w B A c M A3 c3 G cells xs u e W1 := ⟨h.t.below hb, blk_below h.m hb, h.r3.below hb, blk_below h.g hb, below_over hb h.bel⟩
theorem LAt.low {w W : World} {N B : Nat} {A : Option Addr} {c M : Nat} {A3 : Option Addr} {c3 G : Nat} {cells : Array Value} {xs : List Rw} {u e : Int} (h : LAt w B A c M A3 c3 G cells xs u e W) (s : LSt w N B A M A3 G) (j : Nat) (v : Value) : LAt w B A c M A3 c3 G (cells.setIfInBounds j v) xs u e (W.setCell ⟨G, j, none⟩ v) := by
  obtain ⟨s1, s2, s3, s4, s5, s6⟩ := s
  refine ⟨⟨blk_far h.t.blk (by show B ≠ G; omega) v, h.t.rows.move (fun ad ha => Below.heap_setCell W ⟨G, j, none⟩ v _ (by have := s5 ad ha; show ad.block ≠ G; omega))⟩, blk_far h.m (by show M ≠ G; omega) v, h.r3.move (fun ad ha => Below.heap_setCell W ⟨G, j, none⟩ v _ (by have := s6 ad ha; show ad.block ≠ G; omega)), blk_set h.g j v, below_set h.bel s1⟩
set_option maxRecDepth 100000 in
set_option maxHeartbeats 8000000 in
theorem law_neg (A : Option Addr) (c : Nat) (xs : List Rw) (u e : Int) (i : Int) (hi : i < 0) (w : World) (hr : RowsAt w A c xs) (hl : xs.length ≤ 300) (hE : newErr xs u e = 0) :
    Calls Try.prog 4 #[.agg #[.slice A xs.length c, .int .i64 u, .int .i64 e], .int .i64 i] w fun en w' => en = .returned (.bool true) ∧ Below w.heap.size w w' := by
  have hE2 := Aside0.mk hE
  have k8 : 0 < xs.length := by
    rcases Nat.eq_zero_or_pos xs.length with h | h
    · exact absurd hE (by unfold newErr; rw [if_pos h]; decide)
    · exact h
  clear hE
  have hB := Aside0.mk (BAt.start (u := u) (e := e) hr)
  clear hr
  go_enter Try.func4, Try.ntmps4
  go_wp2_with (first
    | (go_at_call 15; refine (alive_ _).mono ?_; rintro en w1 ⟨rfl, hb⟩; replace hB := Aside0.mk (hB.out.call hb); obtain ⟨f0, f1, f2⟩ := hB.out.cells; have hB2 := Aside0.mk (hB.out.call (below_alloc (Below.refl _ _) (.cells #[] 64))); obtain ⟨g0, g1, g2⟩ := hB2.out.cells)
    | (at_builtin; refine Kd.R_append_rows kRw (Rr := fun x cs => cs = [.int .i64 x.d, .int .i64 x.o]) (w0 := w1) w1.heap.size rfl _ _ 49 64 (.agg #[.int .i64 0, .int .i64 0]) 16 rfl Try.underlying49 info64 rfl (by decide) (by decide) _ [] xs _ _ _ (fun _ => True) (fun k => False) rfl rfl ?hO ?hR ?hKM (fun k hk => hk.elim) (fun _ _ => trivial) ?hB ?hbase ?hl ?_; (case hO => exact R_empty w1 w1.heap.size _ (Nat.le_refl _)); (case hR => exact rows_plain hB2.out.rows.reads); (case hKM => rintro x cs rfl; exact kRw_mkM _ _ _ _); (case hB => exact below_alloc (Below.refl _ _) _); (case hbase => simp); (case hl => simp; omega); intro v1 w2 ho hb hg hat; obtain ⟨G, cap, rfl, hG0, hG1, hG2, cells, hG3, hG4⟩ := own_first ho k8; replace hG3 := Aside0.mk hG3; replace hG0 := Aside0.mk (show w.heap.size ≤ G from Nat.le_trans hB.out.size hG0); replace hG1 := Aside0.mk hG1; clear ho hg hat; have hB3 := Aside0.mk (hB.out.call hb); obtain ⟨k0, k1, k2⟩ := hB3.out.cells)
    | (go_at_call 16; refine (new_ok (some ⟨G, 0, none⟩) cap xs u e _ hG2 (by omega) hE2.out).mono ?_; rintro en w3 ⟨B, v3, rfl, hTb, ho, hBB, hb⟩; have hA1 := Kd.R_base ho; obtain ⟨A1, c1, rfl, hr1⟩ := own_rows ho; replace hA1 := Aside0.mk hA1; have hT := Aside0.mk (TabAt.mk hTb hr1); clear ho hTb hr1; replace hG3 := Aside0.mk (blk_below hG3.out hb); replace hBB := Aside0.mk hBB; have hb3 := Aside0.mk hb; have hB4 := Aside0.mk (hB3.out.call hb); obtain ⟨m0, m1, m2⟩ := hB4.out.cells)
    | (go_at_call 17; refine (doc_ A c xs u e _ hB4.out.rows (by omega)).mono ?_; rintro en w4 ⟨v4, rfl, ho, hb⟩; have hlt := Kd.R_lt ho; have hA3 := Kd.R_base ho; obtain ⟨A3, c3, rfl, hr3⟩ := own_rows ho; have hb4 := Aside0.mk (below_over (below_alloc (Below.refl _ _) (.cells #[.slice A3 xs.length c3, .int .i64 u, .int .i64 e] 57)) hb); have hq := blk_new w4 (.cells #[.slice A3 xs.length c3, .int .i64 u, .int .i64 e] 57); have n0 := blk_cell hq 0; have n1 := blk_cell hq 1; have n2 := blk_cell hq 2; have hL := Aside0.mk (show LAt w B A1 c1 w4.heap.size A3 c3 G cells xs u e (w4.alloc (.cells #[.slice A3 xs.length c3, .int .i64 u, .int .i64 e] 57)) from ⟨hT.out.below hb4.out, hq, hr3.below (below_alloc (Below.refl _ _) _), blk_below hG3.out hb4.out, (hB4.out.call hb4.out).bel⟩); have hS := Aside0.mk (show LSt w w2.heap.size B A1 w4.heap.size A3 G from LSt.of hG0.out hG1.out hBB.out hA1.out hA3 hb3.out.size hb.size); replace hlt := Aside0.mk hlt; clear hq ho)
    | (go_at_call 18; refine (check_ A3 c3 xs u e _ hL.out.r3 (fun ad ha => by have := hlt.out ad.block (by rw [ha]; simp [Value.ownBlock]); rw [World.size_alloc]; omega) (by omega)).mono ?_; rw [hE2.out]; rintro en w5 ⟨rfl, hb⟩; replace hL := Aside0.mk (hL.out.call hb)))
  clear n0 n1 n2 f0 f1 f2 g0 g1 g2 k0 k1 k2 m0 m1 m2 hlt hA1 hA3 hb3 hb4 hBB hG0 hG1 hG2 hG3 hB hB2 hB3 hB4 hT hE2 hb
  generalize w4.heap.size = M at *
  replace hL := hL.out
  refine wp_region_held_drew (S := fun W' => LAt w B A1 c1 M A3 c3 G cells xs u e W') (by kernel_rfl) (hL.call (below_drew (Below.refl _ _))) (fun hHeld => ?_)
  refine take_pure 0 46 (by rfl) (by rfl) (by rfl) (by kernel_rfl) (by kernel_rfl) (by kernel_rfl) (by exact fun _ _ _ h => h) (v := ?_) (fun W => ?_) hHeld ?_
  rotate_left
  · go_simp
    try with_reducible rfl
  try simp only [Act.put, List.setIfInBounds_toArray, List.set_cons_zero, List.set_cons_succ]
  refine take_pure 1 47 (by rfl) (by rfl) (by rfl) (by kernel_rfl) (by kernel_rfl) (by kernel_rfl) (by exact fun _ _ _ h => h) (v := ?_) (fun W => ?_) hHeld ?_
  rotate_left
  · go_simp
    try with_reducible rfl
  try simp only [Act.put, List.setIfInBounds_toArray, List.set_cons_zero, List.set_cons_succ]
  refine take_pure 2 48 (by rfl) (by rfl) (by rfl) (by kernel_rfl) (by kernel_rfl) (by kernel_rfl) (by exact fun _ _ _ h => h) (v := ?_) (fun W => ?_) hHeld ?_
  rotate_left
  · go_simp
    try with_reducible rfl
  try simp only [Act.put, List.setIfInBounds_toArray, List.set_cons_zero, List.set_cons_succ]
  refine take_pure 3 49 (by rfl) (by rfl) (by rfl) (by kernel_rfl) (by kernel_rfl) (by kernel_rfl) (by exact fun _ _ _ h => h) (v := ?_) (fun W => ?_) hHeld ?_
  rotate_left
  · go_simp
    try with_reducible rfl
  try simp only [Act.put, List.setIfInBounds_toArray, List.set_cons_zero, List.set_cons_succ]
  refine take_held 4 50 (by rfl) (by rfl) (by rfl) (by kernel_rfl) (by kernel_rfl) (by kernel_rfl) (by exact fun _ _ _ h => h) (v := ?_) (fun W hSw => ?_) hHeld ?_
  rotate_left
  · have f0 : W.cell? ⟨M, 0, none⟩ = some (.slice A3 xs.length c3) := blk_cell hSw.m 0
    have f1 : W.cell? ⟨M, 1, none⟩ = some (.int .i64 u) := blk_cell hSw.m 1
    have f2 : W.cell? ⟨M, 2, none⟩ = some (.int .i64 e) := blk_cell hSw.m 2
    clear hSw
    go_simp
    try with_reducible rfl
  try simp only [Act.put, List.setIfInBounds_toArray, List.set_cons_zero, List.set_cons_succ]
  refine wpAnyH_ready (rs := [5]) (by kernel_rfl) (by simp) ?_
  refine AllReadyH.cons rfl (fun K hK => ?_) AllReadyH.nil
  go_simp
  go_at_call 20
  refine (is_ B A1 c1 A3 c3 xs u e _ hHeld.t hHeld.r3 (by omega)).mono ?_
  rintro en w6 ⟨rfl, hb⟩
  go_simp
  refine hK.out _ _ (hHeld.call hb) (fun hHeld2 => ?_)
  clear hK K hHeld
  try clear hb
  have hHeld := hHeld2
  clear hHeld2
  try simp only [Act.put, List.setIfInBounds_toArray, List.set_cons_zero, List.set_cons_succ]
  refine take_pure 6 52 (by rfl) (by rfl) (by rfl) (by kernel_rfl) (by kernel_rfl) (by kernel_rfl) (by exact fun _ _ _ h => h) (v := ?_) (fun W => ?_) hHeld ?_
  rotate_left
  · go_simp
    try with_reducible rfl
  try simp only [Act.put, List.setIfInBounds_toArray, List.set_cons_zero, List.set_cons_succ]
  refine take_pure 7 53 (by rfl) (by rfl) (by rfl) (by kernel_rfl) (by kernel_rfl) (by kernel_rfl) (by exact fun _ _ _ h => h) (v := ?_) (fun W => ?_) hHeld ?_
  rotate_left
  · go_simp
    try with_reducible rfl
  try simp only [Act.put, List.setIfInBounds_toArray, List.set_cons_zero, List.set_cons_succ]
  refine take_pure 8 54 (by rfl) (by rfl) (by rfl) (by kernel_rfl) (by kernel_rfl) (by kernel_rfl) (by exact fun _ _ _ h => h) (v := ?_) (fun W => ?_) hHeld ?_
  rotate_left
  · go_simp
    try with_reducible rfl
  try simp only [Act.put, List.setIfInBounds_toArray, List.set_cons_zero, List.set_cons_succ]
  refine take_pure 9 55 (by rfl) (by rfl) (by rfl) (by kernel_rfl) (by kernel_rfl) (by kernel_rfl) (by exact fun _ _ _ h => h) (v := ?_) (fun W => ?_) hHeld ?_
  rotate_left
  · go_simp
    try with_reducible rfl
  try simp only [Act.put, List.setIfInBounds_toArray, List.set_cons_zero, List.set_cons_succ]
  refine take_pure 11 57 (by rfl) (by rfl) (by rfl) (by kernel_rfl) (by kernel_rfl) (by kernel_rfl) (by exact fun _ _ _ h => h) (v := ?_) (fun W => ?_) hHeld ?_
  rotate_left
  · go_simp
    try with_reducible rfl
  try simp only [Act.put, List.setIfInBounds_toArray, List.set_cons_zero, List.set_cons_succ]
  refine take_held 12 58 (by rfl) (by rfl) (by rfl) (by kernel_rfl) (by kernel_rfl) (by kernel_rfl) (by exact fun _ _ _ h => h) (v := ?_) (fun W hSw => ?_) hHeld ?_
  rotate_left
  · have f0 : W.cell? ⟨M, 0, none⟩ = some (.slice A3 xs.length c3) := blk_cell hSw.m 0
    have f1 : W.cell? ⟨M, 1, none⟩ = some (.int .i64 u) := blk_cell hSw.m 1
    have f2 : W.cell? ⟨M, 2, none⟩ = some (.int .i64 e) := blk_cell hSw.m 2
    clear hSw
    go_simp
    try with_reducible rfl
  try simp only [Act.put, List.setIfInBounds_toArray, List.set_cons_zero, List.set_cons_succ]
  refine take_pure 13 59 (by rfl) (by rfl) (by rfl) (by kernel_rfl) (by kernel_rfl) (by kernel_rfl) (by exact fun _ _ _ h => h) (v := ?_) (fun W => ?_) hHeld ?_
  rotate_left
  · go_simp
    try with_reducible rfl
  try simp only [Act.put, List.setIfInBounds_toArray, List.set_cons_zero, List.set_cons_succ]
  refine wpAnyH_ready (rs := [10]) (by kernel_rfl) (by simp) ?_
  refine AllReadyH.cons rfl (fun K hK => ?_) AllReadyH.nil
  go_simp
  go_at_call 21
  refine (tlen B A1 c1 xs u e _ hHeld.t).mono ?_
  rintro en w7 ⟨rfl, rfl⟩
  go_simp
  refine hK.out _ _ (hHeld) (fun hHeld2 => ?_)
  clear hK K hHeld
  try clear hb
  have hHeld := hHeld2
  clear hHeld2
  try simp only [Act.put, List.setIfInBounds_toArray, List.set_cons_zero, List.set_cons_succ]
  refine take_pure 14 60 (by rfl) (by rfl) (by rfl) (by kernel_rfl) (by kernel_rfl) (by kernel_rfl) (by exact fun _ _ _ h => h) (v := ?_) (fun W => ?_) hHeld ?_
  rotate_left
  · go_simp
    try with_reducible rfl
  try simp only [Act.put, List.setIfInBounds_toArray, List.set_cons_zero, List.set_cons_succ]
  refine take_pure 15 61 (by rfl) (by rfl) (by rfl) (by kernel_rfl) (by kernel_rfl) (by kernel_rfl) (by exact fun _ _ _ h => h) (v := ?_) (fun W => ?_) hHeld ?_
  rotate_left
  · go_simp
    try with_reducible rfl
  try simp only [Act.put, List.setIfInBounds_toArray, List.set_cons_zero, List.set_cons_succ]
  refine wpAnyH_done (by kernel_rfl) ?_ _
  have hd : decide (0 ≤ i) = false := decide_eq_false (by omega)
  have hL := Aside0.mk hHeld
  have o1 : w6.cell? ⟨G, 1, none⟩ = some (.int .i64 (rdR xs 0).o) := (blk_cell hHeld.g 1).trans hG4
  have o2 : w6.frozen? ⟨G, 1, none⟩ = false := blk_frozen hHeld.g 1
  clear hHeld
  go_wp2_with (first
    | (go_at_call 22; refine (trows B A1 c1 xs u e _ (hL.out.low hS.out 1 _).t (by omega)).mono ?_; rintro en w8 ⟨v8, rfl, ho, hb⟩; obtain ⟨G2, cap2, rfl, p0, p1, p2, p3, p4⟩ := own_more ho k8; replace p0 := Aside0.mk p0; have hL2 := Aside0.mk ((hL.out.low hS.out 1 _).call hb); have hL3 := fun j u' => (hL.out.low hS.out 1 _).call (below_set (j := j) (v := u') hb p0.out); replace hL3 := Aside0.mk hL3; clear ho)
    | (go_at_call 23; refine (trow_no B A1 c1 xs u e i _ (hL3.out _ _).t (.inl hi)).mono ?_; rintro en w9 ⟨rfl, hb⟩; have hL4 := Aside0.mk ((hL3.out _ _).call hb); have hL5 := hL4.out.call (below_alloc (Below.refl _ _) (.cells #[.int .i64 0, .int .i64 0] 64)); have q0 := blk_cell hL5.m 0; have q1 := blk_cell hL5.m 1; have q2 := blk_cell hL5.m 2; have r0 := blk_cell (blk_new w9 (.cells #[.int .i64 0, .int .i64 0] 64)) 0; have r1 := blk_cell (blk_new w9 (.cells #[.int .i64 0, .int .i64 0] 64)) 1; replace hL5 := Aside0.mk hL5))
  go_quiet (fail)
  go_wp2_with (go_at_call 20; refine (is_ B A1 c1 _ c3 xs u e _ (hL5.out.call (below_drewN_ _ _)).t (hL5.out.call (below_drewN_ _ _)).r3 (by omega)).mono ?_; rintro en w10 ⟨rfl, hb⟩; have hL6 := Aside0.mk ((hL5.out.call (below_drewN_ _ _)).call hb))
  go_ret
  exact ⟨rfl, hL6.out.bel⟩
set_option maxRecDepth 100000 in
set_option maxHeartbeats 8000000 in
theorem law_off (A : Option Addr) (c : Nat) (xs : List Rw) (u e : Int) (i : Int) (hi0 : 0 ≤ i) (hi : (xs.length : Int) ≤ i) (w : World) (hr : RowsAt w A c xs) (hl : xs.length ≤ 300) (hE : newErr xs u e = 0) :
    Calls Try.prog 4 #[.agg #[.slice A xs.length c, .int .i64 u, .int .i64 e], .int .i64 i] w fun en w' => en = .returned (.bool true) ∧ Below w.heap.size w w' := by
  have hE2 := Aside0.mk hE
  have k8 : 0 < xs.length := by
    rcases Nat.eq_zero_or_pos xs.length with h | h
    · exact absurd hE (by unfold newErr; rw [if_pos h]; decide)
    · exact h
  clear hE
  have hB := Aside0.mk (BAt.start (u := u) (e := e) hr)
  clear hr
  go_enter Try.func4, Try.ntmps4
  go_wp2_with (first
    | (go_at_call 15; refine (alive_ _).mono ?_; rintro en w1 ⟨rfl, hb⟩; replace hB := Aside0.mk (hB.out.call hb); obtain ⟨f0, f1, f2⟩ := hB.out.cells; have hB2 := Aside0.mk (hB.out.call (below_alloc (Below.refl _ _) (.cells #[] 64))); obtain ⟨g0, g1, g2⟩ := hB2.out.cells)
    | (at_builtin; refine Kd.R_append_rows kRw (Rr := fun x cs => cs = [.int .i64 x.d, .int .i64 x.o]) (w0 := w1) w1.heap.size rfl _ _ 49 64 (.agg #[.int .i64 0, .int .i64 0]) 16 rfl Try.underlying49 info64 rfl (by decide) (by decide) _ [] xs _ _ _ (fun _ => True) (fun k => False) rfl rfl ?hO ?hR ?hKM (fun k hk => hk.elim) (fun _ _ => trivial) ?hB ?hbase ?hl ?_; (case hO => exact R_empty w1 w1.heap.size _ (Nat.le_refl _)); (case hR => exact rows_plain hB2.out.rows.reads); (case hKM => rintro x cs rfl; exact kRw_mkM _ _ _ _); (case hB => exact below_alloc (Below.refl _ _) _); (case hbase => simp); (case hl => simp; omega); intro v1 w2 ho hb hg hat; obtain ⟨G, cap, rfl, hG0, hG1, hG2, cells, hG3, hG4⟩ := own_first ho k8; replace hG3 := Aside0.mk hG3; replace hG0 := Aside0.mk (show w.heap.size ≤ G from Nat.le_trans hB.out.size hG0); replace hG1 := Aside0.mk hG1; clear ho hg hat; have hB3 := Aside0.mk (hB.out.call hb); obtain ⟨k0, k1, k2⟩ := hB3.out.cells)
    | (go_at_call 16; refine (new_ok (some ⟨G, 0, none⟩) cap xs u e _ hG2 (by omega) hE2.out).mono ?_; rintro en w3 ⟨B, v3, rfl, hTb, ho, hBB, hb⟩; have hA1 := Kd.R_base ho; obtain ⟨A1, c1, rfl, hr1⟩ := own_rows ho; replace hA1 := Aside0.mk hA1; have hT := Aside0.mk (TabAt.mk hTb hr1); clear ho hTb hr1; replace hG3 := Aside0.mk (blk_below hG3.out hb); replace hBB := Aside0.mk hBB; have hb3 := Aside0.mk hb; have hB4 := Aside0.mk (hB3.out.call hb); obtain ⟨m0, m1, m2⟩ := hB4.out.cells)
    | (go_at_call 17; refine (doc_ A c xs u e _ hB4.out.rows (by omega)).mono ?_; rintro en w4 ⟨v4, rfl, ho, hb⟩; have hlt := Kd.R_lt ho; have hA3 := Kd.R_base ho; obtain ⟨A3, c3, rfl, hr3⟩ := own_rows ho; have hb4 := Aside0.mk (below_over (below_alloc (Below.refl _ _) (.cells #[.slice A3 xs.length c3, .int .i64 u, .int .i64 e] 57)) hb); have hq := blk_new w4 (.cells #[.slice A3 xs.length c3, .int .i64 u, .int .i64 e] 57); have n0 := blk_cell hq 0; have n1 := blk_cell hq 1; have n2 := blk_cell hq 2; have hL := Aside0.mk (show LAt w B A1 c1 w4.heap.size A3 c3 G cells xs u e (w4.alloc (.cells #[.slice A3 xs.length c3, .int .i64 u, .int .i64 e] 57)) from ⟨hT.out.below hb4.out, hq, hr3.below (below_alloc (Below.refl _ _) _), blk_below hG3.out hb4.out, (hB4.out.call hb4.out).bel⟩); have hS := Aside0.mk (show LSt w w2.heap.size B A1 w4.heap.size A3 G from LSt.of hG0.out hG1.out hBB.out hA1.out hA3 hb3.out.size hb.size); replace hlt := Aside0.mk hlt; clear hq ho)
    | (go_at_call 18; refine (check_ A3 c3 xs u e _ hL.out.r3 (fun ad ha => by have := hlt.out ad.block (by rw [ha]; simp [Value.ownBlock]); rw [World.size_alloc]; omega) (by omega)).mono ?_; rw [hE2.out]; rintro en w5 ⟨rfl, hb⟩; replace hL := Aside0.mk (hL.out.call hb)))
  clear n0 n1 n2 f0 f1 f2 g0 g1 g2 k0 k1 k2 m0 m1 m2 hlt hA1 hA3 hb3 hb4 hBB hG0 hG1 hG2 hG3 hB hB2 hB3 hB4 hT hE2 hb
  generalize w4.heap.size = M at *
  replace hL := hL.out
  refine wp_region_held_drew (S := fun W' => LAt w B A1 c1 M A3 c3 G cells xs u e W') (by kernel_rfl) (hL.call (below_drew (Below.refl _ _))) (fun hHeld => ?_)
  refine take_pure 0 46 (by rfl) (by rfl) (by rfl) (by kernel_rfl) (by kernel_rfl) (by kernel_rfl) (by exact fun _ _ _ h => h) (v := ?_) (fun W => ?_) hHeld ?_
  rotate_left
  · go_simp
    try with_reducible rfl
  try simp only [Act.put, List.setIfInBounds_toArray, List.set_cons_zero, List.set_cons_succ]
  refine take_pure 1 47 (by rfl) (by rfl) (by rfl) (by kernel_rfl) (by kernel_rfl) (by kernel_rfl) (by exact fun _ _ _ h => h) (v := ?_) (fun W => ?_) hHeld ?_
  rotate_left
  · go_simp
    try with_reducible rfl
  try simp only [Act.put, List.setIfInBounds_toArray, List.set_cons_zero, List.set_cons_succ]
  refine take_pure 2 48 (by rfl) (by rfl) (by rfl) (by kernel_rfl) (by kernel_rfl) (by kernel_rfl) (by exact fun _ _ _ h => h) (v := ?_) (fun W => ?_) hHeld ?_
  rotate_left
  · go_simp
    try with_reducible rfl
  try simp only [Act.put, List.setIfInBounds_toArray, List.set_cons_zero, List.set_cons_succ]
  refine take_pure 3 49 (by rfl) (by rfl) (by rfl) (by kernel_rfl) (by kernel_rfl) (by kernel_rfl) (by exact fun _ _ _ h => h) (v := ?_) (fun W => ?_) hHeld ?_
  rotate_left
  · go_simp
    try with_reducible rfl
  try simp only [Act.put, List.setIfInBounds_toArray, List.set_cons_zero, List.set_cons_succ]
  refine take_held 4 50 (by rfl) (by rfl) (by rfl) (by kernel_rfl) (by kernel_rfl) (by kernel_rfl) (by exact fun _ _ _ h => h) (v := ?_) (fun W hSw => ?_) hHeld ?_
  rotate_left
  · have f0 : W.cell? ⟨M, 0, none⟩ = some (.slice A3 xs.length c3) := blk_cell hSw.m 0
    have f1 : W.cell? ⟨M, 1, none⟩ = some (.int .i64 u) := blk_cell hSw.m 1
    have f2 : W.cell? ⟨M, 2, none⟩ = some (.int .i64 e) := blk_cell hSw.m 2
    clear hSw
    go_simp
    try with_reducible rfl
  try simp only [Act.put, List.setIfInBounds_toArray, List.set_cons_zero, List.set_cons_succ]
  refine wpAnyH_ready (rs := [5]) (by kernel_rfl) (by simp) ?_
  refine AllReadyH.cons rfl (fun K hK => ?_) AllReadyH.nil
  go_simp
  go_at_call 20
  refine (is_ B A1 c1 A3 c3 xs u e _ hHeld.t hHeld.r3 (by omega)).mono ?_
  rintro en w6 ⟨rfl, hb⟩
  go_simp
  refine hK.out _ _ (hHeld.call hb) (fun hHeld2 => ?_)
  clear hK K hHeld
  try clear hb
  have hHeld := hHeld2
  clear hHeld2
  try simp only [Act.put, List.setIfInBounds_toArray, List.set_cons_zero, List.set_cons_succ]
  refine take_pure 6 52 (by rfl) (by rfl) (by rfl) (by kernel_rfl) (by kernel_rfl) (by kernel_rfl) (by exact fun _ _ _ h => h) (v := ?_) (fun W => ?_) hHeld ?_
  rotate_left
  · go_simp
    try with_reducible rfl
  try simp only [Act.put, List.setIfInBounds_toArray, List.set_cons_zero, List.set_cons_succ]
  refine take_pure 7 53 (by rfl) (by rfl) (by rfl) (by kernel_rfl) (by kernel_rfl) (by kernel_rfl) (by exact fun _ _ _ h => h) (v := ?_) (fun W => ?_) hHeld ?_
  rotate_left
  · go_simp
    try with_reducible rfl
  try simp only [Act.put, List.setIfInBounds_toArray, List.set_cons_zero, List.set_cons_succ]
  refine take_pure 8 54 (by rfl) (by rfl) (by rfl) (by kernel_rfl) (by kernel_rfl) (by kernel_rfl) (by exact fun _ _ _ h => h) (v := ?_) (fun W => ?_) hHeld ?_
  rotate_left
  · go_simp
    try with_reducible rfl
  try simp only [Act.put, List.setIfInBounds_toArray, List.set_cons_zero, List.set_cons_succ]
  refine take_pure 9 55 (by rfl) (by rfl) (by rfl) (by kernel_rfl) (by kernel_rfl) (by kernel_rfl) (by exact fun _ _ _ h => h) (v := ?_) (fun W => ?_) hHeld ?_
  rotate_left
  · go_simp
    try with_reducible rfl
  try simp only [Act.put, List.setIfInBounds_toArray, List.set_cons_zero, List.set_cons_succ]
  refine take_pure 11 57 (by rfl) (by rfl) (by rfl) (by kernel_rfl) (by kernel_rfl) (by kernel_rfl) (by exact fun _ _ _ h => h) (v := ?_) (fun W => ?_) hHeld ?_
  rotate_left
  · go_simp
    try with_reducible rfl
  try simp only [Act.put, List.setIfInBounds_toArray, List.set_cons_zero, List.set_cons_succ]
  refine take_held 12 58 (by rfl) (by rfl) (by rfl) (by kernel_rfl) (by kernel_rfl) (by kernel_rfl) (by exact fun _ _ _ h => h) (v := ?_) (fun W hSw => ?_) hHeld ?_
  rotate_left
  · have f0 : W.cell? ⟨M, 0, none⟩ = some (.slice A3 xs.length c3) := blk_cell hSw.m 0
    have f1 : W.cell? ⟨M, 1, none⟩ = some (.int .i64 u) := blk_cell hSw.m 1
    have f2 : W.cell? ⟨M, 2, none⟩ = some (.int .i64 e) := blk_cell hSw.m 2
    clear hSw
    go_simp
    try with_reducible rfl
  try simp only [Act.put, List.setIfInBounds_toArray, List.set_cons_zero, List.set_cons_succ]
  refine take_pure 13 59 (by rfl) (by rfl) (by rfl) (by kernel_rfl) (by kernel_rfl) (by kernel_rfl) (by exact fun _ _ _ h => h) (v := ?_) (fun W => ?_) hHeld ?_
  rotate_left
  · go_simp
    try with_reducible rfl
  try simp only [Act.put, List.setIfInBounds_toArray, List.set_cons_zero, List.set_cons_succ]
  refine wpAnyH_ready (rs := [10]) (by kernel_rfl) (by simp) ?_
  refine AllReadyH.cons rfl (fun K hK => ?_) AllReadyH.nil
  go_simp
  go_at_call 21
  refine (tlen B A1 c1 xs u e _ hHeld.t).mono ?_
  rintro en w7 ⟨rfl, rfl⟩
  go_simp
  refine hK.out _ _ (hHeld) (fun hHeld2 => ?_)
  clear hK K hHeld
  try clear hb
  have hHeld := hHeld2
  clear hHeld2
  try simp only [Act.put, List.setIfInBounds_toArray, List.set_cons_zero, List.set_cons_succ]
  refine take_pure 14 60 (by rfl) (by rfl) (by rfl) (by kernel_rfl) (by kernel_rfl) (by kernel_rfl) (by exact fun _ _ _ h => h) (v := ?_) (fun W => ?_) hHeld ?_
  rotate_left
  · go_simp
    try with_reducible rfl
  try simp only [Act.put, List.setIfInBounds_toArray, List.set_cons_zero, List.set_cons_succ]
  refine take_pure 15 61 (by rfl) (by rfl) (by rfl) (by kernel_rfl) (by kernel_rfl) (by kernel_rfl) (by exact fun _ _ _ h => h) (v := ?_) (fun W => ?_) hHeld ?_
  rotate_left
  · go_simp
    try with_reducible rfl
  try simp only [Act.put, List.setIfInBounds_toArray, List.set_cons_zero, List.set_cons_succ]
  refine wpAnyH_done (by kernel_rfl) ?_ _
  have hd : decide (i < (xs.length : Int)) = false := decide_eq_false (by omega)
  have hL := Aside0.mk hHeld
  have o1 : w6.cell? ⟨G, 1, none⟩ = some (.int .i64 (rdR xs 0).o) := (blk_cell hHeld.g 1).trans hG4
  have o2 : w6.frozen? ⟨G, 1, none⟩ = false := blk_frozen hHeld.g 1
  clear hHeld
  go_wp2_with (first
    | (go_at_call 22; refine (trows B A1 c1 xs u e _ (hL.out.low hS.out 1 _).t (by omega)).mono ?_; rintro en w8 ⟨v8, rfl, ho, hb⟩; obtain ⟨G2, cap2, rfl, p0, p1, p2, p3, p4⟩ := own_more ho k8; replace p0 := Aside0.mk p0; have hL2 := Aside0.mk ((hL.out.low hS.out 1 _).call hb); have hL3 := fun j u' => (hL.out.low hS.out 1 _).call (below_set (j := j) (v := u') hb p0.out); replace hL3 := Aside0.mk hL3; clear ho)
    | (go_at_call 23; refine (trow_no B A1 c1 xs u e i _ (hL3.out _ _).t (.inr hi)).mono ?_; rintro en w9 ⟨rfl, hb⟩; have hL4 := Aside0.mk ((hL3.out _ _).call hb); have hL5 := hL4.out.call (below_alloc (Below.refl _ _) (.cells #[.int .i64 0, .int .i64 0] 64)); have q0 := blk_cell hL5.m 0; have q1 := blk_cell hL5.m 1; have q2 := blk_cell hL5.m 2; have r0 := blk_cell (blk_new w9 (.cells #[.int .i64 0, .int .i64 0] 64)) 0; have r1 := blk_cell (blk_new w9 (.cells #[.int .i64 0, .int .i64 0] 64)) 1; replace hL5 := Aside0.mk hL5))
  go_quiet (fail)
  go_wp2_with (go_at_call 20; refine (is_ B A1 c1 _ c3 xs u e _ (hL5.out.call (below_drewN_ _ _)).t (hL5.out.call (below_drewN_ _ _)).r3 (by omega)).mono ?_; rintro en w10 ⟨rfl, hb⟩; have hL6 := Aside0.mk ((hL5.out.call (below_drewN_ _ _)).call hb))
  go_ret
  exact ⟨rfl, hL6.out.bel⟩
set_option maxRecDepth 100000 in
set_option maxHeartbeats 8000000 in
theorem law_in (A : Option Addr) (c : Nat) (xs : List Rw) (u e : Int) (k : Nat) (hk : k < xs.length) (w : World) (hr : RowsAt w A c xs) (hl : xs.length ≤ 300) (hE : newErr xs u e = 0) :
    Calls Try.prog 4 #[.agg #[.slice A xs.length c, .int .i64 u, .int .i64 e], .int .i64 k] w fun en w' => en = .returned (.bool true) ∧ Below w.heap.size w w' := by
  have hE2 := Aside0.mk hE
  have k8 : 0 < xs.length := by
    rcases Nat.eq_zero_or_pos xs.length with h | h
    · exact absurd hE (by unfold newErr; rw [if_pos h]; decide)
    · exact h
  clear hE
  have hB := Aside0.mk (BAt.start (u := u) (e := e) hr)
  clear hr
  go_enter Try.func4, Try.ntmps4
  go_wp2_with (first
    | (go_at_call 15; refine (alive_ _).mono ?_; rintro en w1 ⟨rfl, hb⟩; replace hB := Aside0.mk (hB.out.call hb); obtain ⟨f0, f1, f2⟩ := hB.out.cells; have hB2 := Aside0.mk (hB.out.call (below_alloc (Below.refl _ _) (.cells #[] 64))); obtain ⟨g0, g1, g2⟩ := hB2.out.cells)
    | (at_builtin; refine Kd.R_append_rows kRw (Rr := fun x cs => cs = [.int .i64 x.d, .int .i64 x.o]) (w0 := w1) w1.heap.size rfl _ _ 49 64 (.agg #[.int .i64 0, .int .i64 0]) 16 rfl Try.underlying49 info64 rfl (by decide) (by decide) _ [] xs _ _ _ (fun _ => True) (fun k => False) rfl rfl ?hO ?hR ?hKM (fun k hk => hk.elim) (fun _ _ => trivial) ?hB ?hbase ?hl ?_; (case hO => exact R_empty w1 w1.heap.size _ (Nat.le_refl _)); (case hR => exact rows_plain hB2.out.rows.reads); (case hKM => rintro x cs rfl; exact kRw_mkM _ _ _ _); (case hB => exact below_alloc (Below.refl _ _) _); (case hbase => simp); (case hl => simp; omega); intro v1 w2 ho hb hg hat; obtain ⟨G, cap, rfl, hG0, hG1, hG2, cells, hG3, hG4⟩ := own_first ho k8; replace hG3 := Aside0.mk hG3; replace hG0 := Aside0.mk (show w.heap.size ≤ G from Nat.le_trans hB.out.size hG0); replace hG1 := Aside0.mk hG1; clear ho hg hat; have hB3 := Aside0.mk (hB.out.call hb); obtain ⟨k0, k1, k2⟩ := hB3.out.cells)
    | (go_at_call 16; refine (new_ok (some ⟨G, 0, none⟩) cap xs u e _ hG2 (by omega) hE2.out).mono ?_; rintro en w3 ⟨B, v3, rfl, hTb, ho, hBB, hb⟩; have hA1 := Kd.R_base ho; obtain ⟨A1, c1, rfl, hr1⟩ := own_rows ho; replace hA1 := Aside0.mk hA1; have hT := Aside0.mk (TabAt.mk hTb hr1); clear ho hTb hr1; replace hG3 := Aside0.mk (blk_below hG3.out hb); replace hBB := Aside0.mk hBB; have hb3 := Aside0.mk hb; have hB4 := Aside0.mk (hB3.out.call hb); obtain ⟨m0, m1, m2⟩ := hB4.out.cells)
    | (go_at_call 17; refine (doc_ A c xs u e _ hB4.out.rows (by omega)).mono ?_; rintro en w4 ⟨v4, rfl, ho, hb⟩; have hlt := Kd.R_lt ho; have hA3 := Kd.R_base ho; obtain ⟨A3, c3, rfl, hr3⟩ := own_rows ho; have hb4 := Aside0.mk (below_over (below_alloc (Below.refl _ _) (.cells #[.slice A3 xs.length c3, .int .i64 u, .int .i64 e] 57)) hb); have hq := blk_new w4 (.cells #[.slice A3 xs.length c3, .int .i64 u, .int .i64 e] 57); have n0 := blk_cell hq 0; have n1 := blk_cell hq 1; have n2 := blk_cell hq 2; have hL := Aside0.mk (show LAt w B A1 c1 w4.heap.size A3 c3 G cells xs u e (w4.alloc (.cells #[.slice A3 xs.length c3, .int .i64 u, .int .i64 e] 57)) from ⟨hT.out.below hb4.out, hq, hr3.below (below_alloc (Below.refl _ _) _), blk_below hG3.out hb4.out, (hB4.out.call hb4.out).bel⟩); have hS := Aside0.mk (show LSt w w2.heap.size B A1 w4.heap.size A3 G from LSt.of hG0.out hG1.out hBB.out hA1.out hA3 hb3.out.size hb.size); replace hlt := Aside0.mk hlt; clear hq ho)
    | (go_at_call 18; refine (check_ A3 c3 xs u e _ hL.out.r3 (fun ad ha => by have := hlt.out ad.block (by rw [ha]; simp [Value.ownBlock]); rw [World.size_alloc]; omega) (by omega)).mono ?_; rw [hE2.out]; rintro en w5 ⟨rfl, hb⟩; replace hL := Aside0.mk (hL.out.call hb)))
  clear n0 n1 n2 f0 f1 f2 g0 g1 g2 k0 k1 k2 m0 m1 m2 hlt hA1 hA3 hb3 hb4 hBB hG0 hG1 hG2 hG3 hB hB2 hB3 hB4 hT hE2 hb
  generalize w4.heap.size = M at *
  replace hL := hL.out
  refine wp_region_held_drew (S := fun W' => LAt w B A1 c1 M A3 c3 G cells xs u e W') (by kernel_rfl) (hL.call (below_drew (Below.refl _ _))) (fun hHeld => ?_)
  refine take_pure 0 46 (by rfl) (by rfl) (by rfl) (by kernel_rfl) (by kernel_rfl) (by kernel_rfl) (by exact fun _ _ _ h => h) (v := ?_) (fun W => ?_) hHeld ?_
  rotate_left
  · go_simp
    try with_reducible rfl
  try simp only [Act.put, List.setIfInBounds_toArray, List.set_cons_zero, List.set_cons_succ]
  refine take_pure 1 47 (by rfl) (by rfl) (by rfl) (by kernel_rfl) (by kernel_rfl) (by kernel_rfl) (by exact fun _ _ _ h => h) (v := ?_) (fun W => ?_) hHeld ?_
  rotate_left
  · go_simp
    try with_reducible rfl
  try simp only [Act.put, List.setIfInBounds_toArray, List.set_cons_zero, List.set_cons_succ]
  refine take_pure 2 48 (by rfl) (by rfl) (by rfl) (by kernel_rfl) (by kernel_rfl) (by kernel_rfl) (by exact fun _ _ _ h => h) (v := ?_) (fun W => ?_) hHeld ?_
  rotate_left
  · go_simp
    try with_reducible rfl
  try simp only [Act.put, List.setIfInBounds_toArray, List.set_cons_zero, List.set_cons_succ]
  refine take_pure 3 49 (by rfl) (by rfl) (by rfl) (by kernel_rfl) (by kernel_rfl) (by kernel_rfl) (by exact fun _ _ _ h => h) (v := ?_) (fun W => ?_) hHeld ?_
  rotate_left
  · go_simp
    try with_reducible rfl
  try simp only [Act.put, List.setIfInBounds_toArray, List.set_cons_zero, List.set_cons_succ]
  refine take_held 4 50 (by rfl) (by rfl) (by rfl) (by kernel_rfl) (by kernel_rfl) (by kernel_rfl) (by exact fun _ _ _ h => h) (v := ?_) (fun W hSw => ?_) hHeld ?_
  rotate_left
  · have f0 : W.cell? ⟨M, 0, none⟩ = some (.slice A3 xs.length c3) := blk_cell hSw.m 0
    have f1 : W.cell? ⟨M, 1, none⟩ = some (.int .i64 u) := blk_cell hSw.m 1
    have f2 : W.cell? ⟨M, 2, none⟩ = some (.int .i64 e) := blk_cell hSw.m 2
    clear hSw
    go_simp
    try with_reducible rfl
  try simp only [Act.put, List.setIfInBounds_toArray, List.set_cons_zero, List.set_cons_succ]
  refine wpAnyH_ready (rs := [5]) (by kernel_rfl) (by simp) ?_
  refine AllReadyH.cons rfl (fun K hK => ?_) AllReadyH.nil
  go_simp
  go_at_call 20
  refine (is_ B A1 c1 A3 c3 xs u e _ hHeld.t hHeld.r3 (by omega)).mono ?_
  rintro en w6 ⟨rfl, hb⟩
  go_simp
  refine hK.out _ _ (hHeld.call hb) (fun hHeld2 => ?_)
  clear hK K hHeld
  try clear hb
  have hHeld := hHeld2
  clear hHeld2
  try simp only [Act.put, List.setIfInBounds_toArray, List.set_cons_zero, List.set_cons_succ]
  refine take_pure 6 52 (by rfl) (by rfl) (by rfl) (by kernel_rfl) (by kernel_rfl) (by kernel_rfl) (by exact fun _ _ _ h => h) (v := ?_) (fun W => ?_) hHeld ?_
  rotate_left
  · go_simp
    try with_reducible rfl
  try simp only [Act.put, List.setIfInBounds_toArray, List.set_cons_zero, List.set_cons_succ]
  refine take_pure 7 53 (by rfl) (by rfl) (by rfl) (by kernel_rfl) (by kernel_rfl) (by kernel_rfl) (by exact fun _ _ _ h => h) (v := ?_) (fun W => ?_) hHeld ?_
  rotate_left
  · go_simp
    try with_reducible rfl
  try simp only [Act.put, List.setIfInBounds_toArray, List.set_cons_zero, List.set_cons_succ]
  refine take_pure 8 54 (by rfl) (by rfl) (by rfl) (by kernel_rfl) (by kernel_rfl) (by kernel_rfl) (by exact fun _ _ _ h => h) (v := ?_) (fun W => ?_) hHeld ?_
  rotate_left
  · go_simp
    try with_reducible rfl
  try simp only [Act.put, List.setIfInBounds_toArray, List.set_cons_zero, List.set_cons_succ]
  refine take_pure 9 55 (by rfl) (by rfl) (by rfl) (by kernel_rfl) (by kernel_rfl) (by kernel_rfl) (by exact fun _ _ _ h => h) (v := ?_) (fun W => ?_) hHeld ?_
  rotate_left
  · go_simp
    try with_reducible rfl
  try simp only [Act.put, List.setIfInBounds_toArray, List.set_cons_zero, List.set_cons_succ]
  refine take_pure 11 57 (by rfl) (by rfl) (by rfl) (by kernel_rfl) (by kernel_rfl) (by kernel_rfl) (by exact fun _ _ _ h => h) (v := ?_) (fun W => ?_) hHeld ?_
  rotate_left
  · go_simp
    try with_reducible rfl
  try simp only [Act.put, List.setIfInBounds_toArray, List.set_cons_zero, List.set_cons_succ]
  refine take_held 12 58 (by rfl) (by rfl) (by rfl) (by kernel_rfl) (by kernel_rfl) (by kernel_rfl) (by exact fun _ _ _ h => h) (v := ?_) (fun W hSw => ?_) hHeld ?_
  rotate_left
  · have f0 : W.cell? ⟨M, 0, none⟩ = some (.slice A3 xs.length c3) := blk_cell hSw.m 0
    have f1 : W.cell? ⟨M, 1, none⟩ = some (.int .i64 u) := blk_cell hSw.m 1
    have f2 : W.cell? ⟨M, 2, none⟩ = some (.int .i64 e) := blk_cell hSw.m 2
    clear hSw
    go_simp
    try with_reducible rfl
  try simp only [Act.put, List.setIfInBounds_toArray, List.set_cons_zero, List.set_cons_succ]
  refine take_pure 13 59 (by rfl) (by rfl) (by rfl) (by kernel_rfl) (by kernel_rfl) (by kernel_rfl) (by exact fun _ _ _ h => h) (v := ?_) (fun W => ?_) hHeld ?_
  rotate_left
  · go_simp
    try with_reducible rfl
  try simp only [Act.put, List.setIfInBounds_toArray, List.set_cons_zero, List.set_cons_succ]
  refine wpAnyH_ready (rs := [10]) (by kernel_rfl) (by simp) ?_
  refine AllReadyH.cons rfl (fun K hK => ?_) AllReadyH.nil
  go_simp
  go_at_call 21
  refine (tlen B A1 c1 xs u e _ hHeld.t).mono ?_
  rintro en w7 ⟨rfl, rfl⟩
  go_simp
  refine hK.out _ _ (hHeld) (fun hHeld2 => ?_)
  clear hK K hHeld
  try clear hb
  have hHeld := hHeld2
  clear hHeld2
  try simp only [Act.put, List.setIfInBounds_toArray, List.set_cons_zero, List.set_cons_succ]
  refine take_pure 14 60 (by rfl) (by rfl) (by rfl) (by kernel_rfl) (by kernel_rfl) (by kernel_rfl) (by exact fun _ _ _ h => h) (v := ?_) (fun W => ?_) hHeld ?_
  rotate_left
  · go_simp
    try with_reducible rfl
  try simp only [Act.put, List.setIfInBounds_toArray, List.set_cons_zero, List.set_cons_succ]
  refine take_pure 15 61 (by rfl) (by rfl) (by rfl) (by kernel_rfl) (by kernel_rfl) (by kernel_rfl) (by exact fun _ _ _ h => h) (v := ?_) (fun W => ?_) hHeld ?_
  rotate_left
  · go_simp
    try with_reducible rfl
  try simp only [Act.put, List.setIfInBounds_toArray, List.set_cons_zero, List.set_cons_succ]
  refine wpAnyH_done (by kernel_rfl) ?_ _
  have hk0 : (k : Int) < (xs.length : Int) := by omega
  have hL := Aside0.mk hHeld
  have o1 : w6.cell? ⟨G, 1, none⟩ = some (.int .i64 (rdR xs 0).o) := (blk_cell hHeld.g 1).trans hG4
  have o2 : w6.frozen? ⟨G, 1, none⟩ = false := blk_frozen hHeld.g 1
  clear hHeld
  go_wp2_with (first
    | (go_at_call 22; refine (trows B A1 c1 xs u e _ (hL.out.low hS.out 1 _).t (by omega)).mono ?_; rintro en w8 ⟨v8, rfl, ho, hb⟩; obtain ⟨G2, cap2, rfl, p0, p1, p2, p3, p4⟩ := own_more ho k8; replace p0 := Aside0.mk p0; have hL2 := Aside0.mk ((hL.out.low hS.out 1 _).call hb); have hL3 := fun j u' => (hL.out.low hS.out 1 _).call (below_set (j := j) (v := u') hb p0.out); replace hL3 := Aside0.mk hL3; clear ho)
    | (go_at_call 23; refine (trow_yes B A1 c1 xs u e k _ (hL3.out _ _).t hk (by omega)).mono ?_; rintro en w9 ⟨rfl, hb⟩; have hL4 := Aside0.mk ((hL3.out _ _).call hb); have hL5 := hL4.out.call (below_alloc (Below.refl _ _) (.cells #[.int .i64 (rdR xs k).d, .int .i64 (rdR xs k).o] 64)); have q0 := blk_cell hL5.m 0; have q1 := blk_cell hL5.m 1; have q2 := blk_cell hL5.m 2; have r0 := blk_cell (blk_new w9 (.cells #[.int .i64 (rdR xs k).d, .int .i64 (rdR xs k).o] 64)) 0; have r1 := blk_cell (blk_new w9 (.cells #[.int .i64 (rdR xs k).d, .int .i64 (rdR xs k).o] 64)) 1; obtain ⟨ad3, rfl, s0, s1⟩ := at_Rw hL5.r3.reads k hk; replace hL5 := Aside0.mk hL5))
  go_quiet (fail)
  go_wp2_with (go_at_call 20; refine (is_ B A1 c1 _ c3 xs u e _ (hL5.out.call (below_drewN_ _ _)).t (hL5.out.call (below_drewN_ _ _)).r3 (by omega)).mono ?_; rintro en w10 ⟨rfl, hb⟩; have hL6 := Aside0.mk ((hL5.out.call (below_drewN_ _ _)).call hb))
  go_ret
  exact ⟨rfl, hL6.out.bel⟩
end Go.Proofs.Ytbpmjjbccaanfaa.Lp
