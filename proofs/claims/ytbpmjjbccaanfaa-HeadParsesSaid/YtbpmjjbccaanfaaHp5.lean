import Derived.Test.YtbpmjjbccaanfaaHp4
namespace Go.Proofs.Ytbpmjjbccaanfaa.Hd
open Go.RowKit Go.Shelf Go.Proofs.YtbpmjjbccaanfaaW.PrintWords Go.Proofs.YtbpmjjbccaanfaaW.PrintLast Go.Proofs.YtbpmjjbccaanfaaW.PrintMore
set_option linter.unusedVariables false
set_option linter.unusedSimpArgs false
/-- under way: the copy, the head's block -/
structure GAt (w : World) (A : Option Addr) (bs : List Int) (B : Nat) (cs : Array Value) (W : World) : Prop where
  row : ReadsInt W .u8 A bs.length bs
  lo : w.heap.size ≤ B
  blk : W.heap[B]? = some (.cells cs 31 (0, 0))
  bel : Below w.heap.size w W
theorem GAt.call {w W W1 : World} {A : Option Addr} {bs : List Int} {B : Nat} {cs : Array Value} (h : GAt w A bs B cs W) (hb : Below W.heap.size W W1) : GAt w A bs B cs W1 :=
  ⟨h.row.below hb, h.lo, blk_below h.blk hb, below_over hb h.bel⟩
theorem GAt.made {w W : World} {A : Option Addr} {bs : List Int} (hr : ReadsInt W .u8 A bs.length bs) (hb : Below w.heap.size w W) (z cs : Array Value) : GAt w A bs W.heap.size cs ((W.alloc (.cells z 31)).setRow W.heap.size cs) := by
  have h1 : Below W.heap.size W ((W.alloc (.cells z 31)).setRow W.heap.size cs) := below_setRow (below_alloc (Below.refl _ _) _) (Nat.le_refl _) _
  exact ⟨hr.below h1, hb.size, blk_row (blk_new W _) cs, below_over h1 hb⟩
theorem own_args {W : World} {base : Nat} {v : Value} {bs : List Int} (h : RowB W base v bs) : ∃ A c, v = .slice A bs.length c ∧ ReadsInt W .u8 A bs.length bs := by
  obtain ⟨A, c, e, hr⟩ := own_reads h
  exact ⟨A, c, e, hr⟩
set_option maxRecDepth 100000 in
set_option maxHeartbeats 4000000 in
theorem par_long (A : Option Addr) (n c : Nat) (m : Int) (w : World) (hn : 300 < n) (hn2 : n ≤ 9223372036854775807) : Calls Try.prog 5 #[.slice A n c, .int .i64 m] w fun e w' => e = .returned (.bool true) ∧ Below w.heap.size w w' := by
  go_enter Try.func5, Try.ntmps5
  go_wp2_with (go_at_call 8; refine (alive8 _).mono ?_; rintro e w' ⟨rfl, hb⟩)
  go_ret
  exact ⟨rfl, hb⟩
set_option maxRecDepth 100000 in
set_option maxHeartbeats 4000000 in
theorem par_none (A : Option Addr) (c : Nat) (m : Int) (w : World) (hr : ReadsInt w .u8 A 0 []) : Calls Try.prog 5 #[.slice A 0 c, .int .i64 m] w fun e w' => e = .returned (.bool true) ∧ Below w.heap.size w w' := by
  replace hr := Aside0.mk hr
  go_enter Try.func5, Try.ntmps5
  go_wp2_with (first
    | (go_at_call 8; refine (alive8 _).mono ?_; rintro e w1 ⟨rfl, hb1⟩)
    | (at_builtin; refine print_append_row (w0 := w) w.heap.size rfl _ _ 32 5 .u8 1 rfl Try.underlying32 info5 (by decide) _ [] [] _ _ _ rfl rfl ?hO ?hR ?hB ?hbase ?hl ?_; (case hO => exact own_lit w1 w.heap.size 5 .u8 [] hb1.size (by simp)); (case hR => exact hr.out.below (below_alloc hb1 _)); (case hB => exact below_alloc hb1 _); (case hbase => (have := hb1.size; simp; omega)); (case hl => simp); intro v1 w2 ho hb2 hg hat; clear hg hat; obtain ⟨A2, c2, rfl, hr2⟩ := own_args (bs := []) (by simpa using ho : w2.ownsRow w.heap.size 5 1 v1 ([] : List Int).length (nums .u8 [])); replace hr2 := Aside0.mk hr2; clear ho hb1)
    | (go_at_call 10; refine (parse_no _ 0 _ _ (by omega)).mono ?_; rintro e w3 ⟨rfl, hb3⟩; have G0 := GAt.made (hr2.out.below hb3) (below_over hb3 hb2) #[.int .i64 0, .int .i64 0, .int .i64 0, .int .u8 0, .int .i8 0, .int .i8 0, .int .u16 0, .int .u16 0, .int .u16 0, .int .u16 0, .int .u8 0, .int .u8 0, .int .u8 0, .int .u8 0, .int .u32 0, .int .u32 0, .int .u32 0, .int .u32 0, .int .u32 0, .int .u32 0, .int .u32 0, .int .u32 0] #[.int .i64 0, .int .i64 0, .int .i64 0, .int .u8 0, .int .i8 0, .int .i8 0, .int .u16 0, .int .u16 0, .int .u16 0, .int .u16 0, .int .u8 0, .int .u8 0, .int .u8 0, .int .u8 0, .int .u32 0, .int .u32 0, .int .u32 0, .int .u32 0, .int .u32 0, .int .u32 0, .int .u32 0, .int .u32 0]; replace hr2 := Aside0.mk (hr2.out.below hb3); clear hb3)
    | (refine wpList_store_row rfl 31 (.tmp 6) (.tmp 23) rfl w3.heap.size #[.int .i64 0, .int .i64 0, .int .i64 0, .int .u8 0, .int .i8 0, .int .i8 0, .int .u16 0, .int .u16 0, .int .u16 0, .int .u16 0, .int .u8 0, .int .u8 0, .int .u8 0, .int .u8 0, .int .u32 0, .int .u32 0, .int .u32 0, .int .u32 0, .int .u32 0, .int .u32 0, .int .u32 0, .int .u32 0] rfl rfl 31 _ (blk_new w3 _) (by kernel_rfl) rfl (by kernel_rfl) ?_; generalize (w3.alloc (.cells #[.int .i64 0, .int .i64 0, .int .i64 0, .int .u8 0, .int .i8 0, .int .i8 0, .int .u16 0, .int .u16 0, .int .u16 0, .int .u16 0, .int .u8 0, .int .u8 0, .int .u8 0, .int .u8 0, .int .u32 0, .int .u32 0, .int .u32 0, .int .u32 0, .int .u32 0, .int .u32 0, .int .u32 0, .int .u32 0] 31)).setRow w3.heap.size #[.int .i64 0, .int .i64 0, .int .i64 0, .int .u8 0, .int .i8 0, .int .i8 0, .int .u16 0, .int .u16 0, .int .u16 0, .int .u16 0, .int .u8 0, .int .u8 0, .int .u8 0, .int .u8 0, .int .u32 0, .int .u32 0, .int .u32 0, .int .u32 0, .int .u32 0, .int .u32 0, .int .u32 0, .int .u32 0] = W4 at G0 ⊢)
    | (go_at_call 24; refine (first_no _ _ _).mono ?_; rintro e w' ⟨rfl, rfl⟩)
    | (go_at_call 11; refine (bytesN _ _ 0 _ _ [] _ rfl G0.row (hr.out.below G0.bel) (by simp)).mono ?_; rintro e w' ⟨rfl, rfl⟩)
    | (go_at_call 25; refine (mode25 _ _).mono ?_; rintro e w5 ⟨rfl, hb⟩; have G1 := G0.call hb; clear G0 hb)
    | (go_at_call 26; refine (mode26 _ _).mono ?_; rintro e w6 ⟨rfl, hb⟩; have G2 := G1.call hb; clear G1 hb)
    | (refine wpList_load_row rfl 31 (.tmp 6) rfl w3.heap.size rfl 31 #[.int .i64 0, .int .i64 0, .int .i64 0, .int .u8 0, .int .i8 0, .int .i8 0, .int .u16 0, .int .u16 0, .int .u16 0, .int .u16 0, .int .u8 0, .int .u8 0, .int .u8 0, .int .u8 0, .int .u32 0, .int .u32 0, .int .u32 0, .int .u32 0, .int .u32 0, .int .u32 0, .int .u32 0, .int .u32 0] (0, 0) _ G2.blk Try.underlying31 rfl (by kernel_rfl) ?_)
    | (refine wpList_eql31 (by rfl) (.tmp 46) (.tmp 47) rfl ⟨0, 0, 0, 0, 0, 0, 0, 0, 0, 0, 0, 0, 0, 0, 0, 0, 0, 0, 0, 0, 0, 0⟩ (by rfl) (by rfl) ?_)
    | (go_at_call 27; refine (is27 4 (by decide) w6).mono ?_; rintro e w7 ⟨rfl, hb⟩; have G3 := G2.call hb; clear G2 hb)
    | (go_at_call 27; refine (is27 4 (by decide) w7).mono ?_; rintro e w8 ⟨rfl, hb⟩; have G4 := G3.call hb; clear G3 hb))
  go_ret
  exact ⟨rfl, G4.bel⟩
theorem GAt.c0 {w W : World} {ga B : Nat} {bs : List Int} {cs : Array Value} {x : Int} (h : GAt w (some ⟨ga, 0, none⟩) bs B cs W) (hx : bs.getD 0 0 = x) (hl : 0 < bs.length) : W.cell? ⟨ga, 0, none⟩ = some (.int .u8 x) := by
  obtain ⟨ad, e, hc⟩ := h.row.2.2 hl
  cases e
  have := hc 0 hl
  rw [hx] at this
  exact this
theorem own_some {W : World} {base n : Nat} {v : Value} {bs : List Int} (h : RowB W base v bs) (hl : bs.length = n) (hn : 0 < n) : ∃ ga cc, v = .slice (some ⟨ga, 0, none⟩) n cc ∧ n ≤ cc ∧ cc ≤ 9223372036854775807 ∧ ReadsInt W .u8 (some ⟨ga, 0, none⟩) bs.length bs := by
  obtain ⟨ga, cc, e, h1, h2, _, _, hc⟩ := row_use h hl hn
  refine ⟨ga, cc, e, h1, h2, rfl, by omega, fun _ => ⟨_, rfl, fun j hj => ?_⟩⟩
  rw [show (⟨ga, 0, none⟩ : Addr).add j = ⟨ga, j, none⟩ by unfold Addr.add; split <;> simp_all]
  exact hc j (by omega)
theorem first_cell {W : World} {bl o : Nat} {bs : List Int} {x : Int} (h : ReadsInt W .u8 (some ⟨bl, o, none⟩) bs.length bs) (hx : bs.getD 0 0 = x) (hl : 0 < bs.length) : W.cell? ⟨bl, o, none⟩ = some (.int .u8 x) := by
  obtain ⟨ad, e, hc⟩ := h.2.2 hl
  cases e
  have := hc 0 hl
  rw [hx] at this
  exact this
set_option maxRecDepth 100000 in
set_option maxHeartbeats 4000000 in
theorem par_few (bl o n c : Nat) (m x : Int) (bs : List Int) (w : World) (hl : bs.length = n) (h1 : 1 ≤ n) (hn : n < 48) (hr : ReadsInt w .u8 (some ⟨bl, o, none⟩) bs.length bs) (hx : bs.getD 0 0 = x) (hg : ∀ j, 0 ≤ bs.getD j 0 ∧ bs.getD j 0 ≤ 255) : Calls Try.prog 5 #[.slice (some ⟨bl, o, none⟩) n c, .int .i64 m] w fun e w' => e = .returned (.bool true) ∧ Below w.heap.size w w' := by
  obtain ⟨x0, x1⟩ := hx ▸ hg 0
  have hz : ((n : Int) == 0) = false := by simp; omega
  have hrn : Aside0 (ReadsInt w .u8 (some ⟨bl, o, none⟩) n bs) := ⟨hl ▸ hr⟩
  replace hr := Aside0.mk hr
  replace hg := Aside0.mk hg
  replace hx := Aside0.mk hx
  replace hl := Aside0.mk hl
  go_enter Try.func5, Try.ntmps5
  go_wp2_with (first
    | (go_at_call 8; refine (alive8 _).mono ?_; rintro e w1 ⟨rfl, hb1⟩)
    | (at_builtin; refine print_append_row (w0 := w) w.heap.size rfl _ _ 32 5 .u8 1 rfl Try.underlying32 info5 (by decide) _ [] bs _ _ _ rfl rfl ?hO ?hR ?hB ?hbase ?hl ?_; (case hO => exact own_lit w1 w.heap.size 5 .u8 [] hb1.size (by simp)); (case hR => exact hrn.out.below (below_alloc hb1 _)); (case hB => exact below_alloc hb1 _); (case hbase => (have := hb1.size; simp; omega)); (case hl => (have := hl.out; simp; omega)); intro v1 w2 ho hb2 hg1 hat; clear hg1 hat; obtain ⟨ga, c2, rfl, hcc, hcc2, hr2⟩ := own_some (bs := bs) (by simpa using ho : w2.ownsRow w.heap.size 5 1 v1 bs.length (nums .u8 bs)) hl.out h1; replace hr2 := Aside0.mk hr2; clear ho hb1)
    | (go_at_call 10; refine (parse_no _ n _ _ hn).mono ?_; rintro e w3 ⟨rfl, hb3⟩; have G0 := GAt.made (hr2.out.below hb3) (below_over hb3 hb2) #[.int .i64 0, .int .i64 0, .int .i64 0, .int .u8 0, .int .i8 0, .int .i8 0, .int .u16 0, .int .u16 0, .int .u16 0, .int .u16 0, .int .u8 0, .int .u8 0, .int .u8 0, .int .u8 0, .int .u32 0, .int .u32 0, .int .u32 0, .int .u32 0, .int .u32 0, .int .u32 0, .int .u32 0, .int .u32 0] #[.int .i64 0, .int .i64 0, .int .i64 0, .int .u8 0, .int .i8 0, .int .i8 0, .int .u16 0, .int .u16 0, .int .u16 0, .int .u16 0, .int .u8 0, .int .u8 0, .int .u8 0, .int .u8 0, .int .u32 0, .int .u32 0, .int .u32 0, .int .u32 0, .int .u32 0, .int .u32 0, .int .u32 0, .int .u32 0]; clear hb3)
    | (refine wpList_store_row rfl 31 (.tmp 6) (.tmp 23) rfl w3.heap.size #[.int .i64 0, .int .i64 0, .int .i64 0, .int .u8 0, .int .i8 0, .int .i8 0, .int .u16 0, .int .u16 0, .int .u16 0, .int .u16 0, .int .u8 0, .int .u8 0, .int .u8 0, .int .u8 0, .int .u32 0, .int .u32 0, .int .u32 0, .int .u32 0, .int .u32 0, .int .u32 0, .int .u32 0, .int .u32 0] rfl rfl 31 _ (blk_new w3 _) (by kernel_rfl) rfl (by kernel_rfl) ?_; generalize (w3.alloc (.cells #[.int .i64 0, .int .i64 0, .int .i64 0, .int .u8 0, .int .i8 0, .int .i8 0, .int .u16 0, .int .u16 0, .int .u16 0, .int .u16 0, .int .u8 0, .int .u8 0, .int .u8 0, .int .u8 0, .int .u32 0, .int .u32 0, .int .u32 0, .int .u32 0, .int .u32 0, .int .u32 0, .int .u32 0, .int .u32 0] 31)).setRow w3.heap.size #[.int .i64 0, .int .i64 0, .int .i64 0, .int .u8 0, .int .i8 0, .int .i8 0, .int .u16 0, .int .u16 0, .int .u16 0, .int .u16 0, .int .u8 0, .int .u8 0, .int .u8 0, .int .u8 0, .int .u32 0, .int .u32 0, .int .u32 0, .int .u32 0, .int .u32 0, .int .u32 0, .int .u32 0, .int .u32 0] = W4 at G0 ⊢)
    | (go_at_call 24; refine (first24 ga 0 n c2 x _ h1 hcc hcc2 x0 x1 (G0.c0 hx.out (by have := hl.out; omega))).mono ?_; rintro e w' ⟨rfl, rfl⟩)
    | (go_at_call 11; refine (bytesN _ _ n _ _ bs _ hl.out G0.row (hr.out.below G0.bel) hg.out).mono ?_; rintro e w' ⟨rfl, rfl⟩)
    | (go_at_call 25; refine (mode25 _ _).mono ?_; rintro e w5 ⟨rfl, hb⟩; have G1 := G0.call hb; clear G0 hb)
    | (go_at_call 26; refine (mode26 _ _).mono ?_; rintro e w6 ⟨rfl, hb⟩; have G2 := G1.call hb; clear G1 hb; have hc0 := first_cell (hr.out.below G2.bel) hx.out (by have := hl.out; omega))
    | (refine wpList_load_row rfl 31 (.tmp 6) rfl w3.heap.size rfl 31 #[.int .i64 0, .int .i64 0, .int .i64 0, .int .u8 0, .int .i8 0, .int .i8 0, .int .u16 0, .int .u16 0, .int .u16 0, .int .u16 0, .int .u8 0, .int .u8 0, .int .u8 0, .int .u8 0, .int .u32 0, .int .u32 0, .int .u32 0, .int .u32 0, .int .u32 0, .int .u32 0, .int .u32 0, .int .u32 0] (0, 0) _ G2.blk Try.underlying31 rfl (by kernel_rfl) ?_)
    | (refine wpList_eql31 (by rfl) (.tmp 102) (.tmp 103) rfl ⟨0, 0, 0, 0, 0, 0, 0, 0, 0, 0, 0, 0, 0, 0, 0, 0, 0, 0, 0, 0, 0, 0⟩ (by rfl) (by rfl) ?_)
    | (go_at_call 27; refine (is27 4 (by decide) w6).mono ?_; rintro e w7 ⟨rfl, hb⟩; have G3 := G2.call hb; clear G2 hb))
  go_ret
  exact ⟨rfl, G3.bel⟩
theorem take_reads {W : World} {A : Option Addr} {bs : List Int} (h : ReadsInt W .u8 A bs.length bs) (hl : 48 ≤ bs.length) : ReadsInt W .u8 A (bs.take 48).length (bs.take 48) := by
  have hb : (bs.take 48).length = 48 := by rw [List.length_take]; omega
  refine ⟨rfl, by omega, fun _ => ?_⟩
  obtain ⟨ad, e, hc⟩ := h.2.2 (by omega)
  refine ⟨ad, e, fun j hj => ?_⟩
  rw [hc j (by omega)]
  simp only [List.getD_eq_getElem?_getD, List.getElem?_take, show j < 48 by omega, if_true]
theorem take_cells {W : World} {bl o : Nat} {bs : List Int} (h : ReadsInt W .u8 (some ⟨bl, o, none⟩) bs.length bs) (hl : 48 ≤ bs.length) (j : Nat) (hj : j < 48) : W.cell? ⟨bl, o + j, none⟩ = some (.int .u8 ((bs.take 48).getD j 0)) := by
  have hb : (bs.take 48).length = 48 := by rw [List.length_take]; omega
  obtain ⟨ad, e, hc⟩ := (take_reads h hl).2.2 (by omega)
  cases e
  have := hc j (by omega)
  rwa [show (⟨bl, o, none⟩ : Addr).add j = ⟨bl, o + j, none⟩ by unfold Addr.add; split <;> simp_all] at this
set_option maxRecDepth 100000 in
set_option maxHeartbeats 4000000 in
theorem par_head (bl o n c : Nat) (m x : Int) (bs : List Int) (w : World) (hl : bs.length = n) (h1 : 48 ≤ n) (hn : n ≤ 300) (hnc : n ≤ c) (hc2 : c ≤ 9223372036854775807) (hr : ReadsInt w .u8 (some ⟨bl, o, none⟩) bs.length bs) (hx : bs.getD 0 0 = x) (hg : ∀ j, 0 ≤ bs.getD j 0 ∧ bs.getD j 0 ≤ 255)
    (g : Nat → Int) (hgb : ∀ j, (bs.take 48).getD j 0 = g j) (hbl : bl < w.heap.size) : Calls Try.prog 5 #[.slice (some ⟨bl, o, none⟩) n c, .int .i64 m] w fun e w' => e = .returned (.bool true) ∧ Below w.heap.size w w' := by
  obtain ⟨x0, x1⟩ := hx ▸ hg 0
  have hgx : g 0 = x := by rw [← hgb 0, ← hx]; simp [List.getD_eq_getElem?_getD, List.getElem?_take]
  have hg48 : ∀ j, 0 ≤ g j ∧ g j ≤ 255 := fun j => by
    rw [← hgb j]
    by_cases hj : j < 48
    · have : (bs.take 48).getD j 0 = bs.getD j 0 := by simp [List.getD_eq_getElem?_getD, List.getElem?_take, hj]
      rw [this]; exact hg j
    · rw [List.getD_eq_getElem?_getD, List.getElem?_eq_none (by rw [List.length_take]; omega)]; simp
  have hz : ((n : Int) == 0) = false := by simp; omega
  replace hg48 := Aside0.mk hg48
  replace hgb := Aside0.mk hgb
  replace hgx := Aside0.mk hgx
  have hrn : Aside0 (ReadsInt w .u8 (some ⟨bl, o, none⟩) n bs) := ⟨hl ▸ hr⟩
  replace hr := Aside0.mk hr
  replace hg := Aside0.mk hg
  replace hx := Aside0.mk hx
  replace hl := Aside0.mk hl
  go_enter Try.func5, Try.ntmps5
  go_wp2_with (first
    | (go_at_call 8; refine (alive8 _).mono ?_; rintro e w1 ⟨rfl, hb1⟩)
    | (at_builtin; refine print_append_row (w0 := w) w.heap.size rfl _ _ 32 5 .u8 1 rfl Try.underlying32 info5 (by decide) _ [] bs _ _ _ rfl rfl ?hO ?hR ?hB ?hbase ?hl ?_; (case hO => exact own_lit w1 w.heap.size 5 .u8 [] hb1.size (by simp)); (case hR => exact hrn.out.below (below_alloc hb1 _)); (case hB => exact below_alloc hb1 _); (case hbase => (have := hb1.size; simp; omega)); (case hl => (have := hl.out; simp; omega)); intro v1 w2 ho hb2 hg1 hat; clear hg1 hat; obtain ⟨ga, c2, rfl, hcc, hcc2, hr2⟩ := own_some (bs := bs) (by simpa using ho : w2.ownsRow w.heap.size 5 1 v1 bs.length (nums .u8 bs)) hl.out (by omega); replace hr2 := Aside0.mk hr2; clear ho hb1)
    | (go_at_call 10; refine (parse_ok ga 0 n c2 (bs.take 48) _ h1 hcc hcc2 (by have := hl.out; rw [List.length_take]; omega) (take_reads hr2.out (by have := hl.out; omega)) g hgb.out hg48.out).mono ?_; rintro e w3 ⟨⟨k, hk, rfl⟩, hb3⟩; have G0 := GAt.made (hr2.out.below hb3) (below_over hb3 hb2) #[.int .i64 0, .int .i64 0, .int .i64 0, .int .u8 0, .int .i8 0, .int .i8 0, .int .u16 0, .int .u16 0, .int .u16 0, .int .u16 0, .int .u8 0, .int .u8 0, .int .u8 0, .int .u8 0, .int .u32 0, .int .u32 0, .int .u32 0, .int .u32 0, .int .u32 0, .int .u32 0, .int .u32 0, .int .u32 0] #[.int .i64 k.l, .int .i64 k.v, .int .i64 k.m, .int .u8 k.st, .int .i8 k.po, .int .i8 k.pr, .int .u16 k.d0, .int .u16 k.d1, .int .u16 k.e0, .int .u16 k.e1, .int .u8 k.r0, .int .u8 k.r1, .int .u8 k.r2, .int .u8 k.r3, .int .u32 k.a0, .int .u32 k.a1, .int .u32 k.b0, .int .u32 k.b1, .int .u32 k.c0, .int .u32 k.c1, .int .u32 k.t0, .int .u32 k.t1]; clear hb3; replace hk := Aside0.mk hk)
    | (refine wpList_store_row rfl 31 (.tmp 6) (.tmp 23) rfl w3.heap.size #[.int .i64 k.l, .int .i64 k.v, .int .i64 k.m, .int .u8 k.st, .int .i8 k.po, .int .i8 k.pr, .int .u16 k.d0, .int .u16 k.d1, .int .u16 k.e0, .int .u16 k.e1, .int .u8 k.r0, .int .u8 k.r1, .int .u8 k.r2, .int .u8 k.r3, .int .u32 k.a0, .int .u32 k.a1, .int .u32 k.b0, .int .u32 k.b1, .int .u32 k.c0, .int .u32 k.c1, .int .u32 k.t0, .int .u32 k.t1] rfl rfl 31 _ (blk_new w3 _) (by kernel_rfl) rfl (by kernel_rfl) ?_; generalize (w3.alloc (.cells #[.int .i64 0, .int .i64 0, .int .i64 0, .int .u8 0, .int .i8 0, .int .i8 0, .int .u16 0, .int .u16 0, .int .u16 0, .int .u16 0, .int .u8 0, .int .u8 0, .int .u8 0, .int .u8 0, .int .u32 0, .int .u32 0, .int .u32 0, .int .u32 0, .int .u32 0, .int .u32 0, .int .u32 0, .int .u32 0] 31)).setRow w3.heap.size #[.int .i64 k.l, .int .i64 k.v, .int .i64 k.m, .int .u8 k.st, .int .i8 k.po, .int .i8 k.pr, .int .u16 k.d0, .int .u16 k.d1, .int .u16 k.e0, .int .u16 k.e1, .int .u8 k.r0, .int .u8 k.r1, .int .u8 k.r2, .int .u8 k.r3, .int .u32 k.a0, .int .u32 k.a1, .int .u32 k.b0, .int .u32 k.b1, .int .u32 k.c0, .int .u32 k.c1, .int .u32 k.t0, .int .u32 k.t1] = W4 at G0 ⊢)
    | (go_at_call 24; refine (first24 ga 0 n c2 x _ (by omega) hcc hcc2 x0 x1 (G0.c0 hx.out (by have := hl.out; omega))).mono ?_; rintro e w' ⟨rfl, rfl⟩)
    | (go_at_call 11; refine (bytesN _ _ n _ _ bs _ hl.out G0.row (hr.out.below G0.bel) hg.out).mono ?_; rintro e w' ⟨rfl, rfl⟩)
    | (go_at_call 25; refine (mode25 _ _).mono ?_; rintro e w5 ⟨rfl, hb⟩; have G1 := G0.call hb; clear G0 hb)
    | (go_at_call 26; refine (mode26 _ _).mono ?_; rintro e w6 ⟨rfl, hb⟩; have G2 := G1.call hb; clear G1 hb; have hc0 := first_cell (hr.out.below G2.bel) hx.out (by have := hl.out; omega))
    | (refine wpList_load_if (by rfl) 31 (.tmp 6) rfl w3.heap.size rfl 31 #[.int .i64 k.l, .int .i64 k.v, .int .i64 k.m, .int .u8 k.st, .int .i8 k.po, .int .i8 k.pr, .int .u16 k.d0, .int .u16 k.d1, .int .u16 k.e0, .int .u16 k.e1, .int .u8 k.r0, .int .u8 k.r1, .int .u8 k.r2, .int .u8 k.r3, .int .u32 k.a0, .int .u32 k.a1, .int .u32 k.b0, .int .u32 k.b1, .int .u32 k.c0, .int .u32 k.c1, .int .u32 k.t0, .int .u32 k.t1] (0, 0) _ G2.blk Try.underlying31 rfl (by kernel_rfl) ?_)
    | (go_at_call 28; refine (doc28 k (hk.out ▸ headOf_wf g hg48.out) _).mono ?_; rintro e w7 ⟨rfl, hb⟩; have G3 := G2.call hb; clear G2 hb)
    | (go_at_call 29; refine (ref29 bl o n c g _ h1 hnc hc2 (Nat.lt_of_lt_of_le hbl G3.bel.size) (fun j hj => by rw [← hgb.out j]; exact take_cells (hr.out.below G3.bel) (by have := hl.out; omega) j hj) hg48.out).mono ?_; rintro e w8 ⟨rfl, hb⟩; have G4 := G3.call hb; clear G3 hb; rw [← doc_head g k hk.out])
    | (refine wpList_eql76 (by rfl) (.tmp 113) (.tmp 115) rfl _ _ _ _ _ _ _ _ _ _ _ _ _ _ _ _ (by rfl) (by rfl) ?_))
  go_ret
  exact ⟨rfl, G4.bel⟩
end Go.Proofs.Ytbpmjjbccaanfaa.Hd
