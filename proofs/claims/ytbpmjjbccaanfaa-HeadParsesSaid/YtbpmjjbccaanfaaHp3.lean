import Derived.Test.YtbpmjjbccaanfaaHp2
import Derived.Deep.DeepCutAuto
namespace Go.Proofs.Ytbpmjjbccaanfaa.Hd
open Go.RowKit Go.Shelf Go.Proofs.YtbpmjjbccaanfaaW.PrintWords Go.Proofs.YtbpmjjbccaanfaaW.PrintLast Go.Proofs.YtbpmjjbccaanfaaW.PrintMore
set_option linter.unusedVariables false
set_option linter.unusedSimpArgs false
def vw4 (g : Nat → Int) (k : Nat) : Int := g k * 16777216 + g (k + 1) * 65536 + g (k + 2) * 256 + g (k + 3)
def vw8 (g : Nat → Int) (k : Nat) : Int := vw4 g k * 4294967296 + vw4 g (k + 4)
/-- under way: the result's block, and the bytes -/
structure EAt (w : World) (bl o c : Nat) (g : Nat → Int) (W : World) : Prop where
  res : W.heap[w.heap.size]? = some (.cells #[.int .i64 0, .int .i64 0, .int .i64 0, .int .i64 0, .int .i64 0, .int .i64 0, .int .u64 0, .int .u64 0, .int .u8 0, .int .u8 0, .int .u8 0, .int .u8 0, .int .u64 0, .int .u64 0, .int .u64 0, .int .u64 0] 76 (0, 0))
  old : bl < w.heap.size
  by_ : ∀ j, j < 48 → W.cell? ⟨bl, o + j, none⟩ = some (.int .u8 (g j))
  bel : Below w.heap.size w W
theorem EAt.lt {w W : World} {bl o c : Nat} {g : Nat → Int} (h : EAt w bl o c g W) : w.heap.size < W.heap.size := blk_lt h.res
theorem EAt.call {w W W1 : World} {bl o c : Nat} {g : Nat → Int} (h : EAt w bl o c g W) (hb : Below W.heap.size W W1) : EAt w bl o c g W1 :=
  ⟨blk_below h.res hb, h.old, fun j hj => (hb.cell (p := ⟨bl, o + j, none⟩) (Nat.lt_trans h.old h.lt)).trans (h.by_ j hj), below_over hb h.bel⟩
theorem EAt.drew {w W : World} {bl o c : Nat} {g : Nat → Int} (h : EAt w bl o c g W) : EAt w bl o c g W.drew := ⟨h.res, h.old, h.by_, below_drew h.bel⟩
theorem EAt.alloc {w W : World} {bl o c : Nat} {g : Nat → Int} (h : EAt w bl o c g W) (ob : Obj) : EAt w bl o c g (W.alloc ob) := h.call (below_alloc (Below.refl _ _) _)
theorem EAt.blk {w W : World} {bl o c : Nat} {g : Nat → Int} (h : EAt w bl o c g W) (ob : Obj) : (W.alloc ob).heap[W.heap.size]? = some ob := blk_new W ob
theorem EAt.row {w W : World} {bl o c : Nat} {g : Nat → Int} (h : EAt w bl o c g W) (B : Nat) (hB : w.heap.size < B) (cs : Array Value) : EAt w bl o c g (W.setRow B cs) :=
  ⟨(setRow_other W B _ cs (by omega)).trans h.res, h.old, fun j hj => by
    have : (W.setRow B cs).heap[bl]? = W.heap[bl]? := setRow_other W B bl cs (by have := h.old; omega)
    have h2 := h.by_ j hj
    simp only [World.cell?] at h2 ⊢
    rw [this]; exact h2, below_setRow h.bel (by omega) _⟩
theorem EAt.set {w W : World} {bl o c : Nat} {g : Nat → Int} (h : EAt w bl o c g W) (B : Nat) (hB : w.heap.size < B) (i : Nat) (u : Value) : EAt w bl o c g (W.setCell ⟨B, i, none⟩ u) :=
  ⟨blk_far h.res (by show w.heap.size ≠ B; omega) u, h.old, fun j hj => by
    have hn : (⟨B, i, none⟩ : Addr) ≠ ⟨bl, o + j, none⟩ := (fun e => by have := h.old; injection e; omega)
    rw [World.cell?_setCell_other W _ _ _ hn]; exact h.by_ j hj, Below.setCell h.bel (by show w.heap.size ≤ B; omega) u⟩
/-- .. and the document's head under way -/
structure FAt (w : World) (bl o c : Nat) (g : Nat → Int) (B : Nat) (W : World) (cs : Array Value) : Prop where
  e : EAt w bl o c g W
  lt : w.heap.size < B
  blk : W.heap[B]? = some (.cells cs 76 (0, 0))
theorem FAt.to {w W : World} {bl o c B : Nat} {g : Nat → Int} {cs cs' : Array Value} (h : FAt w bl o c g B W cs) (e : cs = cs') : FAt w bl o c g B W cs' := e ▸ h
theorem FAt.call {w W W1 : World} {bl o c B : Nat} {g : Nat → Int} {cs : Array Value} (h : FAt w bl o c g B W cs) (hb : Below W.heap.size W W1) : FAt w bl o c g B W1 cs := ⟨h.e.call hb, h.lt, blk_below h.blk hb⟩
theorem FAt.set {w W : World} {bl o c B : Nat} {g : Nat → Int} {cs : Array Value} (h : FAt w bl o c g B W cs) (i : Nat) (u : Value) : FAt w bl o c g B (W.setCell ⟨B, i, none⟩ u) (cs.setIfInBounds i u) := ⟨h.e.set B h.lt i u, h.lt, blk_set h.blk i u⟩
theorem FAt.cell {w W : World} {bl o c B : Nat} {g : Nat → Int} {cs : Array Value} (h : FAt w bl o c g B W cs) (i : Nat) : W.cell? ⟨B, i, none⟩ = cs[i]? := blk_cell h.blk i
theorem FAt.frozen {w W : World} {bl o c B : Nat} {g : Nat → Int} {cs : Array Value} (h : FAt w bl o c g B W cs) (i : Nat) : W.frozen? ⟨B, i, none⟩ = false := blk_frozen h.blk i
theorem FAt.vl4 {w W : World} {bl o c B : Nat} {g : Nat → Int} {cs : Array Value} (h : FAt w bl o c g B W cs) (hg : ∀ j, 0 ≤ g j ∧ g j ≤ 255) (k n cc : Nat) (hk : k + 4 ≤ 48) (hn : n = 4) (hc : 4 ≤ cc) :
    Calls Try.prog 32 #[.slice (some ⟨bl, o + k, none⟩) n cc] W fun e w' => e = .returned (.int .u64 (vw4 g k)) ∧ Below W.heap.size W w' :=
  value4 bl (o + k) n cc (fun j => g (k + j)) W hn hc (fun j hj => by rw [Nat.add_assoc]; exact h.e.by_ (k + j) (by omega)) (fun j => hg _)
theorem FAt.vl8 {w W : World} {bl o c B : Nat} {g : Nat → Int} {cs : Array Value} (h : FAt w bl o c g B W cs) (hg : ∀ j, 0 ≤ g j ∧ g j ≤ 255) (k n cc : Nat) (hk : k + 8 ≤ 48) (hn : n = 8) (hc : 8 ≤ cc) :
    Calls Try.prog 32 #[.slice (some ⟨bl, o + k, none⟩) n cc] W fun e w' => e = .returned (.int .u64 (vw8 g k)) ∧ Below W.heap.size W w' :=
  value8 bl (o + k) n cc (fun j => g (k + j)) W hn hc (fun j hj => by rw [Nat.add_assoc]; exact h.e.by_ (k + j) (by omega)) (fun j => hg _)
set_option maxRecDepth 100000 in
set_option maxHeartbeats 8000000 in
theorem ref29 (bl o n c : Nat) (g : Nat → Int) (w : World) (hn : 48 ≤ n) (hc : n ≤ c) (hc2 : c ≤ 9223372036854775807) (hbl : bl < w.heap.size) (hby : ∀ j, j < 48 → w.cell? ⟨bl, o + j, none⟩ = some (.int .u8 (g j))) (hg : ∀ j, 0 ≤ g j ∧ g j ≤ 255) :
    Calls Try.prog 29 #[.slice (some ⟨bl, o, none⟩) n c] w fun e w' => e = .returned (.agg #[.int .i64 (g 0 / 64), .int .i64 (g 0 / 8 % 8), .int .i64 (g 0 % 8), .int .i64 (g 1), .int .i64 (IntKind.i8.wrap (g 2)), .int .i64 (IntKind.i8.wrap (g 3)), .int .u64 (vw4 g 4), .int .u64 (vw4 g 8), .int .u8 (g 12), .int .u8 (g 13), .int .u8 (g 14), .int .u8 (g 15), .int .u64 (vw8 g 16), .int .u64 (vw8 g 24), .int .u64 (vw8 g 32), .int .u64 (vw8 g 40)]) ∧ Below w.heap.size w w' := by
  have g0 := hg 0
  have wg0 : IntKind.i64.wrap (g 0) = g 0 := by rw [IntKind.wrap_i64]; omega
  have wg1 : IntKind.i64.wrap (g 1) = g 1 := by have := hg 1; rw [IntKind.wrap_i64]; omega
  have q1 : (g 0).tdiv 64 = g 0 / 64 := Int.tdiv_eq_ediv_of_nonneg g0.1
  have q2 : (g 0).tdiv 8 = g 0 / 8 := Int.tdiv_eq_ediv_of_nonneg g0.1
  have q3 : (g 0).tmod 8 = g 0 % 8 := Int.tmod_eq_emod_of_nonneg g0.1
  have q4 : (g 0 / 8).tmod 8 = g 0 / 8 % 8 := Int.tmod_eq_emod_of_nonneg (by omega)
  have wq1 : IntKind.i64.wrap (g 0 / 64) = g 0 / 64 := by rw [IntKind.wrap_i64]; omega
  have wq2 : IntKind.i64.wrap (g 0 / 8) = g 0 / 8 := by rw [IntKind.wrap_i64]; omega
  have i1 : (0 : Int) < n := by omega
  have i2 : (1 : Int) < n := by omega
  have i3 : (2 : Int) < n := by omega
  have i4 : (3 : Int) < n := by omega
  have j1 : 0 < n := by omega
  have j2 : 1 < n := by omega
  have j3 : 2 < n := by omega
  have j4 : 3 < n := by omega
  clear g0
  replace hg := Aside0.mk hg
  replace hby := Aside0.mk hby
  go_enter Try.func29, Try.ntmps29
  go_upto_region 1 with fail
  have HR0 : EAt w bl o c g (w.alloc (.cells #[.int .i64 0, .int .i64 0, .int .i64 0, .int .i64 0, .int .i64 0, .int .i64 0, .int .u64 0, .int .u64 0, .int .u8 0, .int .u8 0, .int .u8 0, .int .u8 0, .int .u64 0, .int .u64 0, .int .u64 0, .int .u64 0] 76)) := ⟨blk_new w _, hbl, fun j hj => (cell_kept (hby.out j hj) (World.grownBy_alloc _ _ none) (fun r e => by cases e)), below_alloc (Below.refl _ _) _⟩
  clear hby
  generalize (w.alloc (.cells #[.int .i64 0, .int .i64 0, .int .i64 0, .int .i64 0, .int .i64 0, .int .i64 0, .int .u64 0, .int .u64 0, .int .u8 0, .int .u8 0, .int .u8 0, .int .u8 0, .int .u64 0, .int .u64 0, .int .u64 0, .int .u64 0] 76)) = W0 at HR0 ⊢
  go_cut [3] (fun t3 W => ∃ B, t3 = .pointer (some ⟨B, 0, none⟩) ∧ W.heap[B]? = some (.cells #[.int .i64 (g 0 / 64), .int .i64 (g 0 / 8 % 8), .int .i64 (g 0 % 8), .int .i64 (g 1), .int .i64 (IntKind.i8.wrap (g 2)), .int .i64 (IntKind.i8.wrap (g 3)), .int .u64 0, .int .u64 0, .int .u8 0, .int .u8 0, .int .u8 0, .int .u8 0, .int .u64 0, .int .u64 0, .int .u64 0, .int .u64 0] 76 (0, 0)) ∧ w.heap.size < B ∧ EAt w bl o c g W)
  case first =>
    refine wp_region_held_drew (S := fun W' => EAt w bl o c g W') (by kernel_rfl) HR0.drew (fun hHeld => ?_)
    refine take_pure 0 5 (by rfl) (by rfl) (by rfl) (by kernel_rfl) (by kernel_rfl) (by kernel_rfl) (by exact fun _ _ _ h => h) (v := ?_) (fun W => ?_) hHeld ?_
    rotate_left
    · go_simp
      try with_reducible rfl
    try simp only [Act.put, List.setIfInBounds_toArray, List.set_cons_zero, List.set_cons_succ]
    refine take_pure 1 6 (by rfl) (by rfl) (by rfl) (by kernel_rfl) (by kernel_rfl) (by kernel_rfl) (by exact fun _ _ _ h => h) (v := ?_) (fun W => ?_) hHeld ?_
    rotate_left
    · go_simp
      try with_reducible rfl
    try simp only [Act.put, List.setIfInBounds_toArray, List.set_cons_zero, List.set_cons_succ]
    refine take_held 2 7 (by rfl) (by rfl) (by rfl) (by kernel_rfl) (by kernel_rfl) (by kernel_rfl) (by exact fun _ _ _ h => h) (v := ?_) (fun W hSw => ?_) hHeld ?_
    rotate_left
    · have f0 : W.cell? ⟨bl, o, none⟩ = some (.int .u8 (g 0)) := hSw.by_ 0 (by omega)
      have f1 := hSw.by_ 1 (by omega)
      have f2 := hSw.by_ 2 (by omega)
      have f3 := hSw.by_ 3 (by omega)
      clear hSw
      go_simp
      try with_reducible rfl
    try simp only [Act.put, List.setIfInBounds_toArray, List.set_cons_zero, List.set_cons_succ]
    refine take_pure 3 8 (by rfl) (by rfl) (by rfl) (by kernel_rfl) (by kernel_rfl) (by kernel_rfl) (by exact fun _ _ _ h => h) (v := ?_) (fun W => ?_) hHeld ?_
    rotate_left
    · go_simp
      try with_reducible rfl
    try simp only [Act.put, List.setIfInBounds_toArray, List.set_cons_zero, List.set_cons_succ]
    refine take_pure 4 9 (by rfl) (by rfl) (by rfl) (by kernel_rfl) (by kernel_rfl) (by kernel_rfl) (by exact fun _ _ _ h => h) (v := ?_) (fun W => ?_) hHeld ?_
    rotate_left
    · go_simp
      try with_reducible rfl
    try simp only [Act.put, List.setIfInBounds_toArray, List.set_cons_zero, List.set_cons_succ]
    refine take_pure 5 10 (by rfl) (by rfl) (by rfl) (by kernel_rfl) (by kernel_rfl) (by kernel_rfl) (by exact fun _ _ _ h => h) (v := ?_) (fun W => ?_) hHeld ?_
    rotate_left
    · go_simp
      try with_reducible rfl
    try simp only [Act.put, List.setIfInBounds_toArray, List.set_cons_zero, List.set_cons_succ]
    refine take_pure 6 11 (by rfl) (by rfl) (by rfl) (by kernel_rfl) (by kernel_rfl) (by kernel_rfl) (by exact fun _ _ _ h => h) (v := ?_) (fun W => ?_) hHeld ?_
    rotate_left
    · go_simp
      try with_reducible rfl
    try simp only [Act.put, List.setIfInBounds_toArray, List.set_cons_zero, List.set_cons_succ]
    refine take_held 7 12 (by rfl) (by rfl) (by rfl) (by kernel_rfl) (by kernel_rfl) (by kernel_rfl) (by exact fun _ _ _ h => h) (v := ?_) (fun W hSw => ?_) hHeld ?_
    rotate_left
    · have f0 : W.cell? ⟨bl, o, none⟩ = some (.int .u8 (g 0)) := hSw.by_ 0 (by omega)
      have f1 := hSw.by_ 1 (by omega)
      have f2 := hSw.by_ 2 (by omega)
      have f3 := hSw.by_ 3 (by omega)
      clear hSw
      go_simp
      try with_reducible rfl
    try simp only [Act.put, List.setIfInBounds_toArray, List.set_cons_zero, List.set_cons_succ]
    refine take_pure 8 13 (by rfl) (by rfl) (by rfl) (by kernel_rfl) (by kernel_rfl) (by kernel_rfl) (by exact fun _ _ _ h => h) (v := ?_) (fun W => ?_) hHeld ?_
    rotate_left
    · go_simp
      try with_reducible rfl
    try simp only [Act.put, List.setIfInBounds_toArray, List.set_cons_zero, List.set_cons_succ]
    refine take_pure 9 14 (by rfl) (by rfl) (by rfl) (by kernel_rfl) (by kernel_rfl) (by kernel_rfl) (by exact fun _ _ _ h => h) (v := ?_) (fun W => ?_) hHeld ?_
    rotate_left
    · go_simp
      try with_reducible rfl
    try simp only [Act.put, List.setIfInBounds_toArray, List.set_cons_zero, List.set_cons_succ]
    refine take_pure 10 15 (by rfl) (by rfl) (by rfl) (by kernel_rfl) (by kernel_rfl) (by kernel_rfl) (by exact fun _ _ _ h => h) (v := ?_) (fun W => ?_) hHeld ?_
    rotate_left
    · go_simp
      try with_reducible rfl
    try simp only [Act.put, List.setIfInBounds_toArray, List.set_cons_zero, List.set_cons_succ]
    refine take_pure 11 16 (by rfl) (by rfl) (by rfl) (by kernel_rfl) (by kernel_rfl) (by kernel_rfl) (by exact fun _ _ _ h => h) (v := ?_) (fun W => ?_) hHeld ?_
    rotate_left
    · go_simp
      try with_reducible rfl
    try simp only [Act.put, List.setIfInBounds_toArray, List.set_cons_zero, List.set_cons_succ]
    refine take_pure 12 17 (by rfl) (by rfl) (by rfl) (by kernel_rfl) (by kernel_rfl) (by kernel_rfl) (by exact fun _ _ _ h => h) (v := ?_) (fun W => ?_) hHeld ?_
    rotate_left
    · go_simp
      try with_reducible rfl
    try simp only [Act.put, List.setIfInBounds_toArray, List.set_cons_zero, List.set_cons_succ]
    refine take_held 13 18 (by rfl) (by rfl) (by rfl) (by kernel_rfl) (by kernel_rfl) (by kernel_rfl) (by exact fun _ _ _ h => h) (v := ?_) (fun W hSw => ?_) hHeld ?_
    rotate_left
    · have f0 : W.cell? ⟨bl, o, none⟩ = some (.int .u8 (g 0)) := hSw.by_ 0 (by omega)
      have f1 := hSw.by_ 1 (by omega)
      have f2 := hSw.by_ 2 (by omega)
      have f3 := hSw.by_ 3 (by omega)
      clear hSw
      go_simp
      try with_reducible rfl
    try simp only [Act.put, List.setIfInBounds_toArray, List.set_cons_zero, List.set_cons_succ]
    refine take_pure 14 19 (by rfl) (by rfl) (by rfl) (by kernel_rfl) (by kernel_rfl) (by kernel_rfl) (by exact fun _ _ _ h => h) (v := ?_) (fun W => ?_) hHeld ?_
    rotate_left
    · go_simp
      try with_reducible rfl
    try simp only [Act.put, List.setIfInBounds_toArray, List.set_cons_zero, List.set_cons_succ]
    refine take_pure 15 20 (by rfl) (by rfl) (by rfl) (by kernel_rfl) (by kernel_rfl) (by kernel_rfl) (by exact fun _ _ _ h => h) (v := ?_) (fun W => ?_) hHeld ?_
    rotate_left
    · go_simp
      try with_reducible rfl
    try simp only [Act.put, List.setIfInBounds_toArray, List.set_cons_zero, List.set_cons_succ]
    refine take_pure 16 21 (by rfl) (by rfl) (by rfl) (by kernel_rfl) (by kernel_rfl) (by kernel_rfl) (by exact fun _ _ _ h => h) (v := ?_) (fun W => ?_) hHeld ?_
    rotate_left
    · go_simp
      try with_reducible rfl
    try simp only [Act.put, List.setIfInBounds_toArray, List.set_cons_zero, List.set_cons_succ]
    refine take_pure 17 22 (by rfl) (by rfl) (by rfl) (by kernel_rfl) (by kernel_rfl) (by kernel_rfl) (by exact fun _ _ _ h => h) (v := ?_) (fun W => ?_) hHeld ?_
    rotate_left
    · go_simp
      try with_reducible rfl
    try simp only [Act.put, List.setIfInBounds_toArray, List.set_cons_zero, List.set_cons_succ]
    refine take_held 18 23 (by rfl) (by rfl) (by rfl) (by kernel_rfl) (by kernel_rfl) (by kernel_rfl) (by exact fun _ _ _ h => h) (v := ?_) (fun W hSw => ?_) hHeld ?_
    rotate_left
    · have f0 : W.cell? ⟨bl, o, none⟩ = some (.int .u8 (g 0)) := hSw.by_ 0 (by omega)
      have f1 := hSw.by_ 1 (by omega)
      have f2 := hSw.by_ 2 (by omega)
      have f3 := hSw.by_ 3 (by omega)
      clear hSw
      go_simp
      try with_reducible rfl
    try simp only [Act.put, List.setIfInBounds_toArray, List.set_cons_zero, List.set_cons_succ]
    refine take_pure 19 24 (by rfl) (by rfl) (by rfl) (by kernel_rfl) (by kernel_rfl) (by kernel_rfl) (by exact fun _ _ _ h => h) (v := ?_) (fun W => ?_) hHeld ?_
    rotate_left
    · go_simp
      try with_reducible rfl
    try simp only [Act.put, List.setIfInBounds_toArray, List.set_cons_zero, List.set_cons_succ]
    refine take_pure 20 25 (by rfl) (by rfl) (by rfl) (by kernel_rfl) (by kernel_rfl) (by kernel_rfl) (by exact fun _ _ _ h => h) (v := ?_) (fun W => ?_) hHeld ?_
    rotate_left
    · go_simp
      try with_reducible rfl
    try simp only [Act.put, List.setIfInBounds_toArray, List.set_cons_zero, List.set_cons_succ]
    refine take_pure 21 26 (by rfl) (by rfl) (by rfl) (by kernel_rfl) (by kernel_rfl) (by kernel_rfl) (by exact fun _ _ _ h => h) (v := ?_) (fun W => ?_) hHeld ?_
    rotate_left
    · go_simp
      try with_reducible rfl
    try simp only [Act.put, List.setIfInBounds_toArray, List.set_cons_zero, List.set_cons_succ]
    refine take_held 22 27 (by rfl) (by rfl) (by rfl) (by kernel_rfl) (by kernel_rfl) (by kernel_rfl) (by exact fun _ _ _ h => h) (v := ?_) (fun W hSw => ?_) hHeld ?_
    rotate_left
    · have f0 : W.cell? ⟨bl, o, none⟩ = some (.int .u8 (g 0)) := hSw.by_ 0 (by omega)
      have f1 := hSw.by_ 1 (by omega)
      have f2 := hSw.by_ 2 (by omega)
      have f3 := hSw.by_ 3 (by omega)
      clear hSw
      go_simp
      try with_reducible rfl
    try simp only [Act.put, List.setIfInBounds_toArray, List.set_cons_zero, List.set_cons_succ]
    refine take_pure 24 29 (by rfl) (by rfl) (by rfl) (by kernel_rfl) (by kernel_rfl) (by kernel_rfl) (by exact fun _ _ _ h => h) (v := ?_) (fun W => ?_) hHeld ?_
    rotate_left
    · go_simp
      try with_reducible rfl
    try simp only [Act.put, List.setIfInBounds_toArray, List.set_cons_zero, List.set_cons_succ]
    refine take_pure 25 30 (by rfl) (by rfl) (by rfl) (by kernel_rfl) (by kernel_rfl) (by kernel_rfl) (by exact fun _ _ _ h => h) (v := ?_) (fun W => ?_) hHeld ?_
    rotate_left
    · go_simp
      try with_reducible rfl
    try simp only [Act.put, List.setIfInBounds_toArray, List.set_cons_zero, List.set_cons_succ]
    refine take_held 26 31 (by rfl) (by rfl) (by rfl) (by kernel_rfl) (by kernel_rfl) (by kernel_rfl) (by exact fun _ _ _ h => h) (v := ?_) (fun W hSw => ?_) hHeld ?_
    rotate_left
    · have f0 : W.cell? ⟨bl, o, none⟩ = some (.int .u8 (g 0)) := hSw.by_ 0 (by omega)
      have f1 := hSw.by_ 1 (by omega)
      have f2 := hSw.by_ 2 (by omega)
      have f3 := hSw.by_ 3 (by omega)
      clear hSw
      go_simp
      try with_reducible rfl
    try simp only [Act.put, List.setIfInBounds_toArray, List.set_cons_zero, List.set_cons_succ]
    refine wpAnyH_ready (rs := [23, 29]) (by kernel_rfl) (by simp) ?_
    refine AllReadyH.cons rfl (fun K hK => ?_) ?_
    ·
      go_simp
      go_at_call 72
      refine (signed72 (g 2) (hg.out 2) _).mono ?_
      rintro e w28 ⟨rfl, hb⟩
      go_simp
      refine hK.out _ _ (hHeld.call hb) (fun hHeld2 => ?_)
      clear hK K hHeld
      try clear hb
      have hHeld := hHeld2
      clear hHeld2
      try simp only [Act.put, List.setIfInBounds_toArray, List.set_cons_zero, List.set_cons_succ]
      refine wpAnyH_ready (rs := [27, 29]) (by kernel_rfl) (by simp) ?_
      refine AllReadyH.cons rfl (fun K hK => ?_) ?_
      ·
        go_simp
        go_at_call 72
        refine (signed72 (g 3) (hg.out 3) _).mono ?_
        rintro e w32 ⟨rfl, hb⟩
        go_simp
        refine hK.out _ _ (hHeld.call hb) (fun hHeld2 => ?_)
        clear hK K hHeld
        try clear hb
        have hHeld := hHeld2
        clear hHeld2
        try simp only [Act.put, List.setIfInBounds_toArray, List.set_cons_zero, List.set_cons_succ]
        refine take_pure 28 33 (by rfl) (by rfl) (by rfl) (by kernel_rfl) (by kernel_rfl) (by kernel_rfl) (by exact fun _ _ _ h => h) (v := ?_) (fun W => ?_) hHeld ?_
        rotate_left
        · go_simp
          try with_reducible rfl
        try simp only [Act.put, List.setIfInBounds_toArray, List.set_cons_zero, List.set_cons_succ]
        refine wpAnyH_ready (rs := [29]) (by kernel_rfl) (by simp) ?_
        refine AllReadyH.cons rfl (fun K hK => ?_) AllReadyH.nil
        go_simp
        have hblk := EAt.blk hHeld (.cells #[.int .i64 0, .int .i64 0, .int .i64 0, .int .i64 0, .int .i64 0, .int .i64 0, .int .u64 0, .int .u64 0, .int .u8 0, .int .u8 0, .int .u8 0, .int .u8 0, .int .u64 0, .int .u64 0, .int .u64 0, .int .u64 0] 76)
        have hlt := EAt.lt hHeld
        refine hK.out _ _ (hHeld.alloc _) (fun hHeld2 => ?_)
        clear hK K hHeld
        try clear hb
        have hHeld := hHeld2
        clear hHeld2
        try simp only [Act.put, List.setIfInBounds_toArray, List.set_cons_zero, List.set_cons_succ]
        refine wpAnyH_ready (rs := [30]) (by kernel_rfl) (by simp) ?_
        refine AllReadyH.cons rfl (fun K hK => ?_) AllReadyH.nil
        rw [if_pos (by rfl)]
        refine wp_store_row 76 (.tmp 3) (.tmp 33) rfl _ #[.int .i64 (g 0 / 64), .int .i64 (g 0 / 8 % 8), .int .i64 (g 0 % 8), .int .i64 (g 1), .int .i64 (IntKind.i8.wrap (g 2)), .int .i64 (IntKind.i8.wrap (g 3)), .int .u64 0, .int .u64 0, .int .u8 0, .int .u8 0, .int .u8 0, .int .u8 0, .int .u64 0, .int .u64 0, .int .u64 0, .int .u64 0] (by rfl) (by rfl) 76 _ hblk (by kernel_rfl) rfl (by kernel_rfl) ?_
        have hfin := blk_row hblk #[.int .i64 (g 0 / 64), .int .i64 (g 0 / 8 % 8), .int .i64 (g 0 % 8), .int .i64 (g 1), .int .i64 (IntKind.i8.wrap (g 2)), .int .i64 (IntKind.i8.wrap (g 3)), .int .u64 0, .int .u64 0, .int .u8 0, .int .u8 0, .int .u8 0, .int .u8 0, .int .u64 0, .int .u64 0, .int .u64 0, .int .u64 0]
        refine hK.out _ _ (hHeld.row _ hlt _) (fun hHeld2 => ?_)
        clear hK K hHeld
        try clear hb
        have hHeld := hHeld2
        clear hHeld2
        try simp only [Act.put, List.setIfInBounds_toArray, List.set_cons_zero, List.set_cons_succ]
        refine wpAnyH_done (by kernel_rfl) ?_ _
        go_wp2_with fail
        go_meet
        exact ⟨_, rfl, hfin, hlt, hHeld⟩
      refine AllReadyH.cons rfl (fun K hK => ?_) AllReadyH.nil
      go_simp
      have hblk := EAt.blk hHeld (.cells #[.int .i64 0, .int .i64 0, .int .i64 0, .int .i64 0, .int .i64 0, .int .i64 0, .int .u64 0, .int .u64 0, .int .u8 0, .int .u8 0, .int .u8 0, .int .u8 0, .int .u64 0, .int .u64 0, .int .u64 0, .int .u64 0] 76)
      have hlt := EAt.lt hHeld
      refine hK.out _ _ (hHeld.alloc _) (fun hHeld2 => ?_)
      clear hK K hHeld
      try clear hb
      have hHeld := hHeld2
      clear hHeld2
      try simp only [Act.put, List.setIfInBounds_toArray, List.set_cons_zero, List.set_cons_succ]
      refine wpAnyH_ready (rs := [27]) (by kernel_rfl) (by simp) ?_
      refine AllReadyH.cons rfl (fun K hK => ?_) AllReadyH.nil
      go_simp
      go_at_call 72
      refine (signed72 (g 3) (hg.out 3) _).mono ?_
      rintro e w32 ⟨rfl, hb⟩
      have hblk := blk_below hblk hb
      go_simp
      refine hK.out _ _ (hHeld.call hb) (fun hHeld2 => ?_)
      clear hK K hHeld
      try clear hb
      have hHeld := hHeld2
      clear hHeld2
      try simp only [Act.put, List.setIfInBounds_toArray, List.set_cons_zero, List.set_cons_succ]
      refine take_pure 28 33 (by rfl) (by rfl) (by rfl) (by kernel_rfl) (by kernel_rfl) (by kernel_rfl) (by exact fun _ _ _ h => h) (v := ?_) (fun W => ?_) hHeld ?_
      rotate_left
      · go_simp
        try with_reducible rfl
      try simp only [Act.put, List.setIfInBounds_toArray, List.set_cons_zero, List.set_cons_succ]
      refine wpAnyH_ready (rs := [30]) (by kernel_rfl) (by simp) ?_
      refine AllReadyH.cons rfl (fun K hK => ?_) AllReadyH.nil
      rw [if_pos (by rfl)]
      refine wp_store_row 76 (.tmp 3) (.tmp 33) rfl _ #[.int .i64 (g 0 / 64), .int .i64 (g 0 / 8 % 8), .int .i64 (g 0 % 8), .int .i64 (g 1), .int .i64 (IntKind.i8.wrap (g 2)), .int .i64 (IntKind.i8.wrap (g 3)), .int .u64 0, .int .u64 0, .int .u8 0, .int .u8 0, .int .u8 0, .int .u8 0, .int .u64 0, .int .u64 0, .int .u64 0, .int .u64 0] (by rfl) (by rfl) 76 _ hblk (by kernel_rfl) rfl (by kernel_rfl) ?_
      have hfin := blk_row hblk #[.int .i64 (g 0 / 64), .int .i64 (g 0 / 8 % 8), .int .i64 (g 0 % 8), .int .i64 (g 1), .int .i64 (IntKind.i8.wrap (g 2)), .int .i64 (IntKind.i8.wrap (g 3)), .int .u64 0, .int .u64 0, .int .u8 0, .int .u8 0, .int .u8 0, .int .u8 0, .int .u64 0, .int .u64 0, .int .u64 0, .int .u64 0]
      refine hK.out _ _ (hHeld.row _ hlt _) (fun hHeld2 => ?_)
      clear hK K hHeld
      try clear hb
      have hHeld := hHeld2
      clear hHeld2
      try simp only [Act.put, List.setIfInBounds_toArray, List.set_cons_zero, List.set_cons_succ]
      refine wpAnyH_done (by kernel_rfl) ?_ _
      go_wp2_with fail
      go_meet
      exact ⟨_, rfl, hfin, hlt, hHeld⟩
    refine AllReadyH.cons rfl (fun K hK => ?_) AllReadyH.nil
    go_simp
    have hblk := EAt.blk hHeld (.cells #[.int .i64 0, .int .i64 0, .int .i64 0, .int .i64 0, .int .i64 0, .int .i64 0, .int .u64 0, .int .u64 0, .int .u8 0, .int .u8 0, .int .u8 0, .int .u8 0, .int .u64 0, .int .u64 0, .int .u64 0, .int .u64 0] 76)
    have hlt := EAt.lt hHeld
    refine hK.out _ _ (hHeld.alloc _) (fun hHeld2 => ?_)
    clear hK K hHeld
    try clear hb
    have hHeld := hHeld2
    clear hHeld2
    try simp only [Act.put, List.setIfInBounds_toArray, List.set_cons_zero, List.set_cons_succ]
    refine wpAnyH_ready (rs := [23]) (by kernel_rfl) (by simp) ?_
    refine AllReadyH.cons rfl (fun K hK => ?_) AllReadyH.nil
    go_simp
    go_at_call 72
    refine (signed72 (g 2) (hg.out 2) _).mono ?_
    rintro e w28 ⟨rfl, hb⟩
    have hblk := blk_below hblk hb
    go_simp
    refine hK.out _ _ (hHeld.call hb) (fun hHeld2 => ?_)
    clear hK K hHeld
    try clear hb
    have hHeld := hHeld2
    clear hHeld2
    try simp only [Act.put, List.setIfInBounds_toArray, List.set_cons_zero, List.set_cons_succ]
    refine wpAnyH_ready (rs := [27]) (by kernel_rfl) (by simp) ?_
    refine AllReadyH.cons rfl (fun K hK => ?_) AllReadyH.nil
    go_simp
    go_at_call 72
    refine (signed72 (g 3) (hg.out 3) _).mono ?_
    rintro e w32 ⟨rfl, hb⟩
    have hblk := blk_below hblk hb
    go_simp
    refine hK.out _ _ (hHeld.call hb) (fun hHeld2 => ?_)
    clear hK K hHeld
    try clear hb
    have hHeld := hHeld2
    clear hHeld2
    try simp only [Act.put, List.setIfInBounds_toArray, List.set_cons_zero, List.set_cons_succ]
    refine take_pure 28 33 (by rfl) (by rfl) (by rfl) (by kernel_rfl) (by kernel_rfl) (by kernel_rfl) (by exact fun _ _ _ h => h) (v := ?_) (fun W => ?_) hHeld ?_
    rotate_left
    · go_simp
      try with_reducible rfl
    try simp only [Act.put, List.setIfInBounds_toArray, List.set_cons_zero, List.set_cons_succ]
    refine wpAnyH_ready (rs := [30]) (by kernel_rfl) (by simp) ?_
    refine AllReadyH.cons rfl (fun K hK => ?_) AllReadyH.nil
    rw [if_pos (by rfl)]
    refine wp_store_row 76 (.tmp 3) (.tmp 33) rfl _ #[.int .i64 (g 0 / 64), .int .i64 (g 0 / 8 % 8), .int .i64 (g 0 % 8), .int .i64 (g 1), .int .i64 (IntKind.i8.wrap (g 2)), .int .i64 (IntKind.i8.wrap (g 3)), .int .u64 0, .int .u64 0, .int .u8 0, .int .u8 0, .int .u8 0, .int .u8 0, .int .u64 0, .int .u64 0, .int .u64 0, .int .u64 0] (by rfl) (by rfl) 76 _ hblk (by kernel_rfl) rfl (by kernel_rfl) ?_
    have hfin := blk_row hblk #[.int .i64 (g 0 / 64), .int .i64 (g 0 / 8 % 8), .int .i64 (g 0 % 8), .int .i64 (g 1), .int .i64 (IntKind.i8.wrap (g 2)), .int .i64 (IntKind.i8.wrap (g 3)), .int .u64 0, .int .u64 0, .int .u8 0, .int .u8 0, .int .u8 0, .int .u8 0, .int .u64 0, .int .u64 0, .int .u64 0, .int .u64 0]
    refine hK.out _ _ (hHeld.row _ hlt _) (fun hHeld2 => ?_)
    clear hK K hHeld
    try clear hb
    have hHeld := hHeld2
    clear hHeld2
    try simp only [Act.put, List.setIfInBounds_toArray, List.set_cons_zero, List.set_cons_succ]
    refine wpAnyH_done (by kernel_rfl) ?_ _
    go_wp2_with fail
    go_meet
    exact ⟨_, rfl, hfin, hlt, hHeld⟩
  case rest =>
    obtain ⟨B, rfl, hblk, hlt, E0⟩ := hcut
    have F0 : FAt w bl o c g B wc #[.int .i64 (g 0 / 64), .int .i64 (g 0 / 8 % 8), .int .i64 (g 0 % 8), .int .i64 (g 1), .int .i64 (IntKind.i8.wrap (g 2)), .int .i64 (IntKind.i8.wrap (g 3)), .int .u64 0, .int .u64 0, .int .u8 0, .int .u8 0, .int .u8 0, .int .u8 0, .int .u64 0, .int .u64 0, .int .u64 0, .int .u64 0] := ⟨E0, hlt, hblk⟩
    clear E0 hlt hblk HR0 wg0 wg1 q1 q2 q3 q4 wq1 wq2
    have hne : bl ≠ B := by have := F0.e.old; have := F0.lt; omega
    have hb := F0.cell
    have hf := F0.frozen
    go_wp2_with (first
      | (go_at_call 32; (with_reducible refine (F0.vl4 hg.out 4 _ _ (by omega) rfl (by omega)).mono ?_); rintro e y1 ⟨rfl, hb1⟩; have F1 := F0.call hb1; clear F0 hb1 hb hf; have hb := F1.cell; have hf := F1.frozen)
      | (go_at_call 32; (with_reducible refine ((F1.set 6 (.int .u64 (vw4 g 4))).vl4 hg.out 8 _ _ (by omega) rfl (by omega)).mono ?_); rintro e y2 ⟨rfl, hb2⟩; have F2 := ((F1.set 6 (.int .u64 (vw4 g 4))).call hb2).to (cs' := #[.int .i64 (g 0 / 64), .int .i64 (g 0 / 8 % 8), .int .i64 (g 0 % 8), .int .i64 (g 1), .int .i64 (IntKind.i8.wrap (g 2)), .int .i64 (IntKind.i8.wrap (g 3)), .int .u64 (vw4 g 4), .int .u64 0, .int .u8 0, .int .u8 0, .int .u8 0, .int .u8 0, .int .u64 0, .int .u64 0, .int .u64 0, .int .u64 0]) (by kernel_rfl); clear F1 hb2 hb hf; have hb := F2.cell; have hf := F2.frozen))
    have h12 : y2.cell? ⟨bl, o + 12, none⟩ = some (.int .u8 (g 12)) := F2.e.by_ 12 (by omega)
    have h13 : y2.cell? ⟨bl, o + 13, none⟩ = some (.int .u8 (g 13)) := F2.e.by_ 13 (by omega)
    have h14 : y2.cell? ⟨bl, o + 14, none⟩ = some (.int .u8 (g 14)) := F2.e.by_ 14 (by omega)
    have h15 : y2.cell? ⟨bl, o + 15, none⟩ = some (.int .u8 (g 15)) := F2.e.by_ 15 (by omega)
    refine wp_loop_rounds 5 ?_
    rw [rounds_succ]
    go_wp2
    rw [rounds_succ]
    go_wp2
    rw [rounds_succ]
    go_wp2
    rw [rounds_succ]
    go_wp2
    rw [rounds_succ]
    go_wp2_with (first
      | (go_at_call 32; (with_reducible refine ((((((F2.set 7 (.int .u64 (vw4 g 8))).set 8 (.int .u8 (g 12))).set 9 (.int .u8 (g 13))).set 10 (.int .u8 (g 14))).set 11 (.int .u8 (g 15))).vl8 hg.out 16 _ _ (by omega) rfl (by omega)).mono ?_); rintro e y3 ⟨rfl, hb3⟩; have F3 := (((((F2.set 7 (.int .u64 (vw4 g 8))).set 8 (.int .u8 (g 12))).set 9 (.int .u8 (g 13))).set 10 (.int .u8 (g 14))).set 11 (.int .u8 (g 15))).call hb3 |>.to (cs' := #[.int .i64 (g 0 / 64), .int .i64 (g 0 / 8 % 8), .int .i64 (g 0 % 8), .int .i64 (g 1), .int .i64 (IntKind.i8.wrap (g 2)), .int .i64 (IntKind.i8.wrap (g 3)), .int .u64 (vw4 g 4), .int .u64 (vw4 g 8), .int .u8 (g 12), .int .u8 (g 13), .int .u8 (g 14), .int .u8 (g 15), .int .u64 0, .int .u64 0, .int .u64 0, .int .u64 0]) (by kernel_rfl); clear F2 hb3 hb hf h12 h13 h14 h15; have hb := F3.cell; have hf := F3.frozen)
      | (go_at_call 32; (with_reducible refine ((F3.set 12 (.int .u64 (vw8 g 16))).vl8 hg.out 24 _ _ (by omega) rfl (by omega)).mono ?_); rintro e y4 ⟨rfl, hb4⟩; have F4 := ((F3.set 12 (.int .u64 (vw8 g 16))).call hb4).to (cs' := #[.int .i64 (g 0 / 64), .int .i64 (g 0 / 8 % 8), .int .i64 (g 0 % 8), .int .i64 (g 1), .int .i64 (IntKind.i8.wrap (g 2)), .int .i64 (IntKind.i8.wrap (g 3)), .int .u64 (vw4 g 4), .int .u64 (vw4 g 8), .int .u8 (g 12), .int .u8 (g 13), .int .u8 (g 14), .int .u8 (g 15), .int .u64 (vw8 g 16), .int .u64 0, .int .u64 0, .int .u64 0]) (by kernel_rfl); clear F3 hb4 hb hf; have hb := F4.cell; have hf := F4.frozen)
      | (go_at_call 32; (with_reducible refine ((F4.set 13 (.int .u64 (vw8 g 24))).vl8 hg.out 32 _ _ (by omega) rfl (by omega)).mono ?_); rintro e y5 ⟨rfl, hb5⟩; have F5 := ((F4.set 13 (.int .u64 (vw8 g 24))).call hb5).to (cs' := #[.int .i64 (g 0 / 64), .int .i64 (g 0 / 8 % 8), .int .i64 (g 0 % 8), .int .i64 (g 1), .int .i64 (IntKind.i8.wrap (g 2)), .int .i64 (IntKind.i8.wrap (g 3)), .int .u64 (vw4 g 4), .int .u64 (vw4 g 8), .int .u8 (g 12), .int .u8 (g 13), .int .u8 (g 14), .int .u8 (g 15), .int .u64 (vw8 g 16), .int .u64 (vw8 g 24), .int .u64 0, .int .u64 0]) (by kernel_rfl); clear F4 hb5 hb hf; have hb := F5.cell; have hf := F5.frozen)
      | (go_at_call 32; (with_reducible refine ((F5.set 14 (.int .u64 (vw8 g 32))).vl8 hg.out 40 _ _ (by omega) rfl (by omega)).mono ?_); rintro e y6 ⟨rfl, hb6⟩; have F6 := ((F5.set 14 (.int .u64 (vw8 g 32))).call hb6).to (cs' := #[.int .i64 (g 0 / 64), .int .i64 (g 0 / 8 % 8), .int .i64 (g 0 % 8), .int .i64 (g 1), .int .i64 (IntKind.i8.wrap (g 2)), .int .i64 (IntKind.i8.wrap (g 3)), .int .u64 (vw4 g 4), .int .u64 (vw4 g 8), .int .u8 (g 12), .int .u8 (g 13), .int .u8 (g 14), .int .u8 (g 15), .int .u64 (vw8 g 16), .int .u64 (vw8 g 24), .int .u64 (vw8 g 32), .int .u64 0]) (by kernel_rfl); clear F5 hb6 hb hf; have hb := F6.cell; have hf := F6.frozen; have F7 := (F6.set 15 (.int .u64 (vw8 g 40))).to (cs' := #[.int .i64 (g 0 / 64), .int .i64 (g 0 / 8 % 8), .int .i64 (g 0 % 8), .int .i64 (g 1), .int .i64 (IntKind.i8.wrap (g 2)), .int .i64 (IntKind.i8.wrap (g 3)), .int .u64 (vw4 g 4), .int .u64 (vw4 g 8), .int .u8 (g 12), .int .u8 (g 13), .int .u8 (g 14), .int .u8 (g 15), .int .u64 (vw8 g 16), .int .u64 (vw8 g 24), .int .u64 (vw8 g 32), .int .u64 (vw8 g 40)]) (by kernel_rfl))
      | (refine wpList_load_row rfl 76 (.tmp 3) rfl B rfl 76 #[.int .i64 (g 0 / 64), .int .i64 (g 0 / 8 % 8), .int .i64 (g 0 % 8), .int .i64 (g 1), .int .i64 (IntKind.i8.wrap (g 2)), .int .i64 (IntKind.i8.wrap (g 3)), .int .u64 (vw4 g 4), .int .u64 (vw4 g 8), .int .u8 (g 12), .int .u8 (g 13), .int .u8 (g 14), .int .u8 (g 15), .int .u64 (vw8 g 16), .int .u64 (vw8 g 24), .int .u64 (vw8 g 32), .int .u64 (vw8 g 40)] (0, 0) _ F7.blk Try.underlying76 rfl (by kernel_rfl) ?_)
      | (refine wpList_store_row rfl 76 (.tmp 2) (.tmp 70) rfl w.heap.size #[.int .i64 (g 0 / 64), .int .i64 (g 0 / 8 % 8), .int .i64 (g 0 % 8), .int .i64 (g 1), .int .i64 (IntKind.i8.wrap (g 2)), .int .i64 (IntKind.i8.wrap (g 3)), .int .u64 (vw4 g 4), .int .u64 (vw4 g 8), .int .u8 (g 12), .int .u8 (g 13), .int .u8 (g 14), .int .u8 (g 15), .int .u64 (vw8 g 16), .int .u64 (vw8 g 24), .int .u64 (vw8 g 32), .int .u64 (vw8 g 40)] rfl rfl 76 _ F7.e.res (by kernel_rfl) rfl (by kernel_rfl) ?_))
    refine bodyPost_ret (results_single rfl (.cell w.heap.size 76 _ (0, 0) _ rfl (blk_row F7.e.res _) Try.underlying76 rfl (by kernel_rfl) .nil)) rfl ?_
    exact ⟨rfl, below_setRow F7.e.bel (Nat.le_refl _) _⟩
end Go.Proofs.Ytbpmjjbccaanfaa.Hd
