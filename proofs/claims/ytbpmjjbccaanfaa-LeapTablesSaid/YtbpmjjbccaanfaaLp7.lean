import Derived.Test.YtbpmjjbccaanfaaLp6
import Derived.Test.YtbpmjjbccaanfaaRg
import Derived.Deep.DeepCutAuto
import Derived.Laws.Tables
import Derived.Laws.CopyOwn
namespace Go.Proofs.Ytbpmjjbccaanfaa.Lp
open Go.RowKit Go.Proofs.YtbpmjjbccaanfaaW.PrintWords Go.Proofs.YtbpmjjbccaanfaaW.PrintLast Go.Proofs.YtbpmjjbccaanfaaW.PrintMore Go.Proofs.Ytbpmjjbccaanfaa.Dy Go.Proofs.Ytbpmjjbccaanfaa.Rg
set_option linter.unusedVariables false
set_option linter.unusedSimpArgs false
theorem newErr_13 {xs : List Rw} {u e : Int} (k8 : ¬ xs.length = 0) (k3 : ¬ 256 < xs.length) (h : (xs.any fun r => !datedB r) = true) : newErr xs u e = 13 := by
  unfold newErr; rw [if_neg k8, if_neg k3, if_pos h]
theorem newErr_1 {xs : List Rw} {u e : Int} (k8 : ¬ xs.length = 0) (k3 : ¬ 256 < xs.length) (k13 : (xs.any fun r => !datedB r) = false) (h : (xs.any fun r => !mayB r) = true ∨ timeB u = false ∨ timeB e = false) : newErr xs u e = 1 := by
  unfold newErr; rw [if_neg k8, if_neg k3, if_neg (by rw [k13]; decide)]
  repeat' split
  all_goals first | rfl | skip
  all_goals simp_all
theorem newErr_6 {xs : List Rw} {u e : Int} (k8 : ¬ xs.length = 0) (k3 : ¬ 256 < xs.length) (k13 : (xs.any fun r => !datedB r) = false) (k1a : (xs.any fun r => !mayB r) = false) (k1b : timeB u = true) (k1c : timeB e = true) (h : riseB xs = false) : newErr xs u e = 6 := by
  unfold newErr; rw [if_neg k8, if_neg k3, if_neg (by rw [k13]; decide), if_neg (by rw [k1a]; decide), if_neg (by rw [k1b]; decide), if_neg (by rw [k1c]; decide), if_pos h]
theorem newErr_0 {xs : List Rw} {u e : Int} (k8 : ¬ xs.length = 0) (k3 : ¬ 256 < xs.length) (k13 : (xs.any fun r => !datedB r) = false) (k1a : (xs.any fun r => !mayB r) = false) (k1b : timeB u = true) (k1c : timeB e = true) (h : riseB xs = true) : newErr xs u e = 0 := by
  unfold newErr; rw [if_neg k8, if_neg k3, if_neg (by rw [k13]; decide), if_neg (by rw [k1a]; decide), if_neg (by rw [k1b]; decide), if_neg (by rw [k1c]; decide), if_neg (by rw [h]; decide)]
theorem any_at {xs : List Rw} {p : Rw → Bool} {k : Nat} (hk : k < xs.length) (h : p (rdR xs k) = false) : (xs.any fun r => !p r) = true := by
  rw [List.any_eq_true]
  refine ⟨rdR xs k, ?_, by rw [h]; rfl⟩
  unfold rdR
  rw [List.getD_eq_getElem?_getD, List.getElem?_eq_getElem hk]
  exact List.getElem_mem _
theorem any_no {xs : List Rw} {p : Rw → Bool} (h : ∀ j, j < xs.length → p (rdR xs j) = true) : (xs.any fun r => !p r) = false := by
  rw [List.any_eq_false]
  intro r hm
  obtain ⟨j, hj, rfl⟩ := List.getElem_of_mem hm
  have := h j hj
  unfold rdR at this
  rw [List.getD_eq_getElem?_getD, List.getElem?_eq_getElem hj] at this
  rw [show (some xs[j]).getD ⟨0, 0⟩ = xs[j] from rfl] at this
  rw [this]; decide
theorem blk_row {w : World} {g : Nat} {t : TypeId} {cs : Array Value} (h : w.heap[g]? = some (.cells cs t (0, 0))) (cs' : Array Value) : (w.setRow g cs').heap[g]? = some (.cells cs' t (0, 0)) := by
  obtain ⟨hlt, hk⟩ := Array.getElem?_eq_some_iff.1 h
  show (w.heap.modify g _)[g]? = _
  rw [Array.getElem?_eq_getElem (by rw [Array.size_modify]; exact hlt), Array.getElem_modify_self, hk]
/-- under way: the box, the rows -/
structure CAt (w : World) (A : Option Addr) (c : Nat) (xs : List Rw) (u e : Int) (W : World) : Prop where
  box : W.heap[w.heap.size]? = some (.cells #[.slice A xs.length c, .int .i64 u, .int .i64 e] 57 (0, 0))
  rows : RowsAt W A c xs
  old : 0 < xs.length → ∃ ad, A = some ad ∧ ad.block < w.heap.size
  bel : Below w.heap.size w W
theorem CAt.lt {w W : World} {A : Option Addr} {c : Nat} {xs : List Rw} {u e : Int} (h : CAt w A c xs u e W) : w.heap.size < W.heap.size := blk_lt h.box
theorem CAt.call {w W W1 : World} {A : Option Addr} {c : Nat} {xs : List Rw} {u e : Int} (h : CAt w A c xs u e W) (hb : Below W.heap.size W W1) : CAt w A c xs u e W1 := ⟨blk_below h.box hb, h.rows.below hb, h.old, below_over hb h.bel⟩
theorem CAt.drew {w W : World} {A : Option Addr} {c : Nat} {xs : List Rw} {u e : Int} (h : CAt w A c xs u e W) : CAt w A c xs u e W.drew := h.call (below_drew (Below.refl _ _))
theorem CAt.alloc {w W : World} {A : Option Addr} {c : Nat} {xs : List Rw} {u e : Int} (h : CAt w A c xs u e W) (o : Obj) : CAt w A c xs u e (W.alloc o) := h.call (below_alloc (Below.refl _ _) _)
theorem CAt.blk {w W : World} {A : Option Addr} {c : Nat} {xs : List Rw} {u e : Int} (h : CAt w A c xs u e W) (o : Obj) : (W.alloc o).heap[W.heap.size]? = some o := blk_new W o
theorem CAt.alloc_ex {w W : World} {A : Option Addr} {c : Nat} {xs : List Rw} {u e : Int} (h : CAt w A c xs u e W) (o : Obj) : ∃ b, b = W.heap.size ∧ (W.alloc o).heap[b]? = some o ∧ w.heap.size < b := ⟨_, rfl, blk_new W o, h.lt⟩
theorem CAt.row {w W : World} {A : Option Addr} {c : Nat} {xs : List Rw} {u e : Int} (h : CAt w A c xs u e W) (B : Nat) (hB : w.heap.size < B) (cs : Array Value) : CAt w A c xs u e (W.setRow B cs) := by
  have hbx : (W.setRow B cs).heap[w.heap.size]? = W.heap[w.heap.size]? := setRow_other W B _ cs (by omega)
  refine ⟨hbx.trans h.box, ⟨?_, h.rows.le, h.rows.cap, h.rows.nil⟩, h.old, below_setRow h.bel (by omega) _⟩
  refine ⟨h.rows.reads.1, h.rows.reads.2.1, fun hn => ?_⟩
  obtain ⟨ad, e1, hc⟩ := h.rows.reads.2.2 hn
  obtain ⟨ad', e2, hlt⟩ := h.old hn
  rw [e1] at e2; cases e2
  refine ⟨ad, e1, fun j p hj => ?_⟩
  obtain ⟨c0, h0, h1, h2⟩ := hc j p hj
  refine ⟨c0, h0, h1, fun i u' hu => ?_⟩
  have hx := h2 i u' hu
  have hb : (ad.add (j * kRw.sz + i)).block = ad.block := by unfold Addr.add; split <;> rfl
  simp only [World.cell?] at hx ⊢
  rw [hb] at hx ⊢
  rw [setRow_other W B ad.block cs (by omega)]
  exact hx
theorem CAt.cells {w W : World} {A : Option Addr} {c : Nat} {xs : List Rw} {u e : Int} (h : CAt w A c xs u e W) : W.cell? ⟨w.heap.size, 0, none⟩ = some (.slice A xs.length c) ∧ W.cell? ⟨w.heap.size, 1, none⟩ = some (.int .i64 u) ∧ W.cell? ⟨w.heap.size, 2, none⟩ = some (.int .i64 e) := ⟨blk_cell h.box 0, blk_cell h.box 1, blk_cell h.box 2⟩
theorem abs3 {Q : Exit → Act → World → Prop} {a : Act} {W : World} {bA bB : Nat} {oA oB : Obj} {S : World → Prop} (h : ∀ W9, W9.heap[bA]? = some oA → W9.heap[bB]? = some oB → S W9 → Q .normal a W9) (hA : W.heap[bA]? = some oA) (hB : W.heap[bB]? = some oB) (hS : S W) : Q .normal a W := h W hA hB hS
set_option maxRecDepth 100000 in
set_option maxHeartbeats 8000000 in
theorem check_few (A : Option Addr) (c : Nat) (xs : List Rw) (u e : Int) (w : World) (h : xs.length = 0 ∨ 256 < xs.length) (hl : xs.length ≤ 100000) :
    Calls Try.prog 18 #[.agg #[.slice A xs.length c, .int .i64 u, .int .i64 e]] w fun en w' => en = .returned (.int .i64 (newErr xs u e)) ∧ Below w.heap.size w w' := by
  rcases h with h | h
  · have hE := Aside0.mk (show newErr xs u e = 8 by unfold newErr; rw [if_pos h])
    obtain rfl : xs = [] := List.length_eq_zero_iff.1 h
    clear h
    go_enter Try.func18, Try.ntmps18
    go_wp2
    go_ret
    exact ⟨by rw [hE.out]; rfl, below_alloc (Below.refl _ _) _⟩
  · have hE := Aside0.mk (show newErr xs u e = 3 by unfold newErr; rw [if_neg (by omega), if_pos h])
    have kz : ((xs.length : Int) == 0) = false := beq_eq_false_iff_ne.2 (by omega)
    go_enter Try.func18, Try.ntmps18
    go_wp2
    go_ret
    exact ⟨by rw [hE.out]; rfl, below_alloc (Below.refl _ _) _⟩
set_option maxRecDepth 100000 in
set_option maxHeartbeats 8000000 in
theorem check_some (A : Option Addr) (c : Nat) (xs : List Rw) (u e : Int) (w : World) (hr : RowsAt w A c xs) (hold : ∀ ad, A = some ad → ad.block < w.heap.size) (k8 : ¬ xs.length = 0) (k3 : ¬ 256 < xs.length) :
    Calls Try.prog 18 #[.agg #[.slice A xs.length c, .int .i64 u, .int .i64 e]] w fun en w' => en = .returned (.int .i64 (newErr xs u e)) ∧ Below w.heap.size w w' := by
  have C0 : CAt w A c xs u e (w.alloc (.cells #[.slice A xs.length c, .int .i64 u, .int .i64 e] 57)) :=
    ⟨blk_new w _, hr.below (below_alloc (Below.refl _ _) _), fun hn => by obtain ⟨ad, e, _⟩ := hr.reads.2.2 hn; exact ⟨ad, e, hold ad e⟩, below_alloc (Below.refl _ _) _⟩
  have kz : ((xs.length : Int) == 0) = false := beq_eq_false_iff_ne.2 (by omega)
  clear hr hold
  go_enter Try.func18, Try.ntmps18
  go_wp2
  generalize w.alloc (.cells #[.slice A xs.length c, .int .i64 u, .int .i64 e] 57) = W0 at C0 ⊢
  obtain ⟨h0, h1, h2⟩ := C0.cells
  go_loop [3] (fun t => ∃ k : Nat, k ≤ xs.length ∧ t = .int .i64 k ∧ Aside0 (∀ j, j < k → datedB (rdR xs j) = true)) (fun t => xs.length - (intOf t).toNat)
  case atStart => exact ⟨0, Nat.zero_le _, rfl, ⟨fun j hj => by omega⟩⟩
  case round =>
    obtain ⟨k, hk, rfl, hno⟩ := hrel
    by_cases hlt : k < xs.length
    · obtain ⟨ad, rfl, c0, c1⟩ := at_Rw C0.rows.reads k hlt
      cases hp : datedB (rdR xs k)
      · have hE := Aside0.mk (newErr_13 (u := u) (e := e) k8 k3 (any_at hlt hp))
        have hb : (rdR xs k).d < -25567 ∨ 2932896 < (rdR xs k).d := by
          unfold datedB at hp; have := of_decide_eq_false hp; omega
        clear hp
        rcases hb with hb | hb
        · go_wp2_with (first
            | (go_at_call 63; refine (rstart1900 _).mono ?_; rintro e w' ⟨rfl, rfl⟩)
            | (go_at_call 64; refine (rlast _).mono ?_; rintro e w' ⟨rfl, rfl⟩))
          go_ret
          exact ⟨by rw [hE.out]; rfl, C0.bel⟩
        · have hb' : ¬ (rdR xs k).d < -25567 := by omega
          go_wp2_with (first
            | (go_at_call 63; refine (rstart1900 _).mono ?_; rintro e w' ⟨rfl, rfl⟩)
            | (go_at_call 64; refine (rlast _).mono ?_; rintro e w' ⟨rfl, rfl⟩))
          go_ret
          exact ⟨by rw [hE.out]; rfl, C0.bel⟩
      · have hp' := Aside0.mk hp
        obtain ⟨b0, b1⟩ : -25567 ≤ (rdR xs k).d ∧ (rdR xs k).d ≤ 2932896 := by unfold datedB at hp; exact of_decide_eq_true hp
        clear hp
        go_wp2_with (first
          | (go_at_call 63; refine (rstart1900 _).mono ?_; rintro e w' ⟨rfl, rfl⟩)
          | (go_at_call 64; refine (rlast _).mono ?_; rintro e w' ⟨rfl, rfl⟩))
        go_round
        case rel => exact ⟨k + 1, by omega, by go_num, ⟨fun j hj => by
          by_cases e : j = k
          · subst e; exact hp'.out
          · exact hno.out j (by omega)⟩⟩
        case measure => simp [intOf]; omega
    · have hkn : k = xs.length := by omega
      have hdat := Aside0.mk (fun j (hj : j < xs.length) => hno.out j (by omega))
      have k13 := Aside0.mk (any_no hdat.out)
      clear hno
      subst hkn
      cases hu : timeB u
      · have hE := Aside0.mk (newErr_1 (e := e) k8 k3 k13.out (.inr (.inl hu)))
        have hb : u < 0 ∨ 1099511627776 < u := by unfold timeB at hu; have := of_decide_eq_false hu; omega
        clear hu
        rcases hb with hb | hb
        · go_wp2
          go_ret
          exact ⟨by rw [hE.out]; rfl, C0.bel⟩
        · have hb' : ¬ u < 0 := by omega
          go_wp2
          go_ret
          exact ⟨by rw [hE.out]; rfl, C0.bel⟩
      · have hu' := Aside0.mk hu
        obtain ⟨u0, u1⟩ : 0 ≤ u ∧ u ≤ 1099511627776 := by unfold timeB at hu; exact of_decide_eq_true hu
        clear hu
        cases he : timeB e
        · have hE := Aside0.mk (newErr_1 (u := u) k8 k3 k13.out (.inr (.inr he)))
          have hb : e < 0 ∨ 1099511627776 < e := by unfold timeB at he; have := of_decide_eq_false he; omega
          clear he
          rcases hb with hb | hb
          · go_wp2
            go_ret
            exact ⟨by rw [hE.out]; rfl, C0.bel⟩
          · have hb' : ¬ e < 0 := by omega
            go_wp2
            go_ret
            exact ⟨by rw [hE.out]; rfl, C0.bel⟩
        · have he' := Aside0.mk he
          obtain ⟨e0, e1⟩ : 0 ≤ e ∧ e ≤ 1099511627776 := by unfold timeB at he; exact of_decide_eq_true he
          clear he
          go_wp2
          clear h0 h1 h2
          go_loopw [5] (fun t wr => ∃ k : Nat, k ≤ xs.length ∧ t = .int .i64 k ∧ Aside0 (∀ j, j < k → mayB (rdR xs j) = true) ∧ Aside0 (CAt w A c xs u e wr)) (fun t _ => xs.length - (intOf t).toNat)
          case atStart => exact ⟨0, Nat.zero_le _, rfl, ⟨fun j hj => by omega⟩, ⟨C0⟩⟩
          case round =>
            obtain ⟨k, hk, rfl, hno, HC⟩ := hrel
            obtain ⟨h0, h1, h2⟩ := HC.out.cells
            by_cases hlt : k < xs.length
            · obtain ⟨ad, rfl, c0, c1⟩ := at_Rw HC.out.rows.reads k hlt
              obtain ⟨b0, b1⟩ : -25567 ≤ (rdR xs k).d ∧ (rdR xs k).d ≤ 2932896 := of_decide_eq_true (hdat.out k hlt)
              cases hp : mayB (rdR xs k)
              · have hE := Aside0.mk (newErr_1 (u := u) (e := e) k8 k3 k13.out (.inl (any_at hlt hp)))
                have hb : ¬ Cal.dateD (rdR xs k).d = 1 ∨ (rdR xs k).o < 0 ∨ 1000 < (rdR xs k).o := by
                  unfold mayB at hp; have := of_decide_eq_false hp; omega
                clear hp
                by_cases hd : Cal.dateD (rdR xs k).d = 1
                · have hd' : (Cal.dateD (rdR xs k).d != 1) = false := by rw [hd]; rfl
                  have hb2 : (rdR xs k).o < 0 ∨ 1000 < (rdR xs k).o := by omega
                  clear hb hd
                  rcases hb2 with hb | hb
                  · go_wp2_with (go_at_call 65; refine (rdate _ _ (by omega) (by omega)).mono ?_; rintro e w1 ⟨rfl, hb⟩; have HC1 := HC.out.call hb; obtain ⟨h0', h1', h2'⟩ := HC1.cells; obtain ⟨ad', e', c0', c1'⟩ := at_Rw HC1.rows.reads k hlt; cases e'; clear c0 c1 h0 h1 h2 hb)
                    go_ret
                    exact ⟨by rw [hE.out]; rfl, HC1.bel⟩
                  · have hb' : ¬ (rdR xs k).o < 0 := by omega
                    go_wp2_with (go_at_call 65; refine (rdate _ _ (by omega) (by omega)).mono ?_; rintro e w1 ⟨rfl, hb⟩; have HC1 := HC.out.call hb; obtain ⟨h0', h1', h2'⟩ := HC1.cells; obtain ⟨ad', e', c0', c1'⟩ := at_Rw HC1.rows.reads k hlt; cases e'; clear c0 c1 h0 h1 h2 hb)
                    go_ret
                    exact ⟨by rw [hE.out]; rfl, HC1.bel⟩
                · have hd' : (Cal.dateD (rdR xs k).d != 1) = true := bne_iff_ne.2 hd
                  clear hd hb
                  go_wp2_with (go_at_call 65; refine (rdate _ _ (by omega) (by omega)).mono ?_; rintro e w1 ⟨rfl, hb⟩; have HC1 := HC.out.call hb; clear c0 c1 h0 h1 h2 hb)
                  go_ret
                  exact ⟨by rw [hE.out]; rfl, HC1.bel⟩
              · have hp' := Aside0.mk hp
                obtain ⟨_, _, hd, o0, o1⟩ := of_decide_eq_true (show decide _ = true from hp)
                have hd' : (Cal.dateD (rdR xs k).d != 1) = false := by rw [hd]; rfl
                clear hp hd
                go_wp2_with (go_at_call 65; refine (rdate _ _ (by omega) (by omega)).mono ?_; rintro e w1 ⟨rfl, hb⟩; have HC1 := HC.out.call hb; obtain ⟨h0', h1', h2'⟩ := HC1.cells; obtain ⟨ad', e', c0', c1'⟩ := at_Rw HC1.rows.reads k hlt; cases e'; clear c0 c1 h0 h1 h2 hb)
                go_roundw
                case rel => exact ⟨k + 1, by omega, by go_num, ⟨fun j hj => by
                  by_cases e : j = k
                  · subst e; exact hp'.out
                  · exact hno.out j (by omega)⟩, ⟨HC1⟩⟩
                case measure => simp [intOf]; omega
            · have hkn : k = xs.length := by omega
              have hmay := Aside0.mk (fun j (hj : j < xs.length) => hno.out j (by omega))
              have k1a := Aside0.mk (any_no hmay.out)
              clear hno
              subst hkn
              go_wp2
              clear h0 h1 h2
              go_loopw [9] (fun t wr => ∃ k : Nat, 1 ≤ k ∧ k ≤ xs.length ∧ t = .int .i64 k ∧ Aside0 (∀ j, j + 1 < k → folB (rdR xs (j + 1)) (rdR xs j) = true) ∧ Aside0 (CAt w A c xs u e wr)) (fun t _ => xs.length - (intOf t).toNat)
              case atStart => exact ⟨1, by omega, by omega, rfl, ⟨fun j hj => by omega⟩, HC⟩
              case round =>
                clear HC
                obtain ⟨k, hk1, hk, rfl, hno, HC⟩ := hrel
                by_cases hlt : k < xs.length
                · obtain ⟨ad, rfl, c0, c1⟩ := at_Rw HC.out.rows.reads k hlt
                  clear c0 c1
                  have kk : ((k : Int) - 1).toNat = k - 1 := by omega
                  have kw : IntKind.i64.wrap ((k : Int) - 1) = (k : Int) - 1 := by rw [IntKind.wrap_i64]; omega
                  have ki : (0 : Int) ≤ (k : Int) - 1 := by omega
                  have kl : (k : Int) - 1 < xs.length := by omega
                  have kl2 : (k : Int) < xs.length := by omega
                  have ki2 : (1 : Int) ≤ (k : Int) := by omega
                  have kl3 : (k : Int) < (xs.length : Int) + 1 := by omega
                  obtain ⟨m0, m1⟩ := may_at k1a.out k hlt
                  obtain ⟨n0, n1⟩ := may_at k1a.out (k - 1) (by omega)
                  obtain ⟨h0, h1, h2⟩ := HC.out.cells
                  go_upto_region 22 with fail
                  refine wp_region_held_drew (S := fun W' => CAt w (some ad) c xs u e W') (by kernel_rfl) HC.out.drew (fun hHeld => ?_)
                  refine take_pure 0 104 (by rfl) (by rfl) (by rfl) (by kernel_rfl) (by kernel_rfl) (by kernel_rfl) (by exact fun _ _ _ h => h) (v := ?_) (fun W => ?_) hHeld ?_
                  rotate_left
                  · go_simp
                    try with_reducible rfl
                  try simp only [Act.put, List.setIfInBounds_toArray, List.set_cons_zero, List.set_cons_succ]
                  refine take_held 1 105 (by rfl) (by rfl) (by rfl) (by kernel_rfl) (by kernel_rfl) (by kernel_rfl) (by exact fun _ _ _ h => h) (v := ?_) (fun W hSw => ?_) hHeld ?_
                  rotate_left
                  · obtain ⟨f0, f1, f2⟩ := hSw.cells
                    obtain ⟨ad', e', c0, c1⟩ := at_Rw hSw.rows.reads k hlt
                    cases e'
                    obtain ⟨ad', e', d0, d1⟩ := at_Rw hSw.rows.reads (k - 1) (by omega)
                    cases e'
                    clear hSw
                    go_simp
                    try with_reducible rfl
                  try simp only [Act.put, List.setIfInBounds_toArray, List.set_cons_zero, List.set_cons_succ]
                  refine take_pure 2 106 (by rfl) (by rfl) (by rfl) (by kernel_rfl) (by kernel_rfl) (by kernel_rfl) (by exact fun _ _ _ h => h) (v := ?_) (fun W => ?_) hHeld ?_
                  rotate_left
                  · go_simp
                    try with_reducible rfl
                  try simp only [Act.put, List.setIfInBounds_toArray, List.set_cons_zero, List.set_cons_succ]
                  refine take_pure 3 107 (by rfl) (by rfl) (by rfl) (by kernel_rfl) (by kernel_rfl) (by kernel_rfl) (by exact fun _ _ _ h => h) (v := ?_) (fun W => ?_) hHeld ?_
                  rotate_left
                  · go_simp
                    try with_reducible rfl
                  try simp only [Act.put, List.setIfInBounds_toArray, List.set_cons_zero, List.set_cons_succ]
                  refine take_pure 4 108 (by rfl) (by rfl) (by rfl) (by kernel_rfl) (by kernel_rfl) (by kernel_rfl) (by exact fun _ _ _ h => h) (v := ?_) (fun W => ?_) hHeld ?_
                  rotate_left
                  · go_simp
                    try with_reducible rfl
                  try simp only [Act.put, List.setIfInBounds_toArray, List.set_cons_zero, List.set_cons_succ]
                  refine take_held 5 109 (by rfl) (by rfl) (by rfl) (by kernel_rfl) (by kernel_rfl) (by kernel_rfl) (by exact fun _ _ _ h => h) (v := ?_) (fun W hSw => ?_) hHeld ?_
                  rotate_left
                  · obtain ⟨f0, f1, f2⟩ := hSw.cells
                    obtain ⟨ad', e', c0, c1⟩ := at_Rw hSw.rows.reads k hlt
                    cases e'
                    obtain ⟨ad', e', d0, d1⟩ := at_Rw hSw.rows.reads (k - 1) (by omega)
                    cases e'
                    clear hSw
                    go_simp
                    try with_reducible rfl
                  try simp only [Act.put, List.setIfInBounds_toArray, List.set_cons_zero, List.set_cons_succ]
                  refine take_pure 6 110 (by rfl) (by rfl) (by rfl) (by kernel_rfl) (by kernel_rfl) (by kernel_rfl) (by exact fun _ _ _ h => h) (v := ?_) (fun W => ?_) hHeld ?_
                  rotate_left
                  · go_simp
                    try with_reducible rfl
                  try simp only [Act.put, List.setIfInBounds_toArray, List.set_cons_zero, List.set_cons_succ]
                  refine take_held 7 111 (by rfl) (by rfl) (by rfl) (by kernel_rfl) (by kernel_rfl) (by kernel_rfl) (by exact fun _ _ _ h => h) (v := ?_) (fun W hSw => ?_) hHeld ?_
                  rotate_left
                  · obtain ⟨f0, f1, f2⟩ := hSw.cells
                    obtain ⟨ad', e', c0, c1⟩ := at_Rw hSw.rows.reads k hlt
                    cases e'
                    obtain ⟨ad', e', d0, d1⟩ := at_Rw hSw.rows.reads (k - 1) (by omega)
                    cases e'
                    clear hSw
                    go_simp
                    try with_reducible rfl
                  try simp only [Act.put, List.setIfInBounds_toArray, List.set_cons_zero, List.set_cons_succ]
                  refine take_pure 8 112 (by rfl) (by rfl) (by rfl) (by kernel_rfl) (by kernel_rfl) (by kernel_rfl) (by exact fun _ _ _ h => h) (v := ?_) (fun W => ?_) hHeld ?_
                  rotate_left
                  · go_simp
                    try with_reducible rfl
                  try simp only [Act.put, List.setIfInBounds_toArray, List.set_cons_zero, List.set_cons_succ]
                  refine take_pure 9 113 (by rfl) (by rfl) (by rfl) (by kernel_rfl) (by kernel_rfl) (by kernel_rfl) (by exact fun _ _ _ h => h) (v := ?_) (fun W => ?_) hHeld ?_
                  rotate_left
                  · go_simp
                    try with_reducible rfl
                  try simp only [Act.put, List.setIfInBounds_toArray, List.set_cons_zero, List.set_cons_succ]
                  refine take_held 10 114 (by rfl) (by rfl) (by rfl) (by kernel_rfl) (by kernel_rfl) (by kernel_rfl) (by exact fun _ _ _ h => h) (v := ?_) (fun W hSw => ?_) hHeld ?_
                  rotate_left
                  · obtain ⟨f0, f1, f2⟩ := hSw.cells
                    obtain ⟨ad', e', c0, c1⟩ := at_Rw hSw.rows.reads k hlt
                    cases e'
                    obtain ⟨ad', e', d0, d1⟩ := at_Rw hSw.rows.reads (k - 1) (by omega)
                    cases e'
                    clear hSw
                    go_simp
                    try with_reducible rfl
                  try simp only [Act.put, List.setIfInBounds_toArray, List.set_cons_zero, List.set_cons_succ]
                  refine wpAnyH_ready (rs := [11, 12]) (by kernel_rfl) (by simp) ?_
                  refine AllReadyH.cons rfl (fun K hK => ?_) ?_
                  ·
                    go_simp
                    obtain ⟨bA, eA, hA, lA⟩ := CAt.alloc_ex hHeld (.cells #[.int .i64 0, .int .i64 0] 68)
                    refine hK.out _ _ (hHeld.alloc _) (fun hHeld2 => ?_)
                    clear hK K hHeld
                    try clear hb
                    have hHeld := hHeld2
                    clear hHeld2
                    try simp only [Act.put, List.setIfInBounds_toArray, List.set_cons_zero, List.set_cons_succ]
                    refine wpAnyH_ready (rs := [12]) (by kernel_rfl) (by simp) ?_
                    refine AllReadyH.cons rfl (fun K hK => ?_) AllReadyH.nil
                    go_simp
                    obtain ⟨bB, eB, hB, lB⟩ := CAt.alloc_ex hHeld (.cells #[.int .i64 0, .int .i64 0] 68)
                    have nn := Nat.ne_of_lt (show bA < bB by rw [eB]; exact blk_lt hA)
                    replace hA := blk_alloc hA (.cells #[.int .i64 0, .int .i64 0] 68)
                    refine hK.out _ _ (hHeld.alloc _) (fun hHeld2 => ?_)
                    clear hK K hHeld
                    try clear hb
                    have hHeld := hHeld2
                    clear hHeld2
                    try simp only [Act.put, List.setIfInBounds_toArray, List.set_cons_zero, List.set_cons_succ]
                    refine wpAnyH_ready (rs := [13]) (by kernel_rfl) (by simp) ?_
                    refine AllReadyH.cons rfl (fun K hK => ?_) AllReadyH.nil
                    rw [if_pos (by rfl)]
                    refine wp_store_row 68 (.tmp 10) (.tmp 109) rfl bA #[.int .i64 (rdR xs (k - 1)).d, .int .i64 (rdR xs (k - 1)).o] (by simp [Act.eval, eA]) (by rfl) 68 _ hA (by kernel_rfl) rfl (by kernel_rfl) ?_
                    replace hB := (setRow_other _ bA _ #[.int .i64 (rdR xs (k - 1)).d, .int .i64 (rdR xs (k - 1)).o] (by omega)).trans hB
                    replace hA := blk_row hA #[.int .i64 (rdR xs (k - 1)).d, .int .i64 (rdR xs (k - 1)).o]
                    refine hK.out _ _ (hHeld.row _ lA _) (fun hHeld2 => ?_)
                    clear hK K hHeld
                    try clear hb
                    have hHeld := hHeld2
                    clear hHeld2
                    try simp only [Act.put, List.setIfInBounds_toArray, List.set_cons_zero, List.set_cons_succ]
                    refine wpAnyH_ready (rs := [14]) (by kernel_rfl) (by simp) ?_
                    refine AllReadyH.cons rfl (fun K hK => ?_) AllReadyH.nil
                    rw [if_pos (by rfl)]
                    refine wp_store_row 68 (.tmp 11) (.tmp 114) rfl bB #[.int .i64 (rdR xs k).d, .int .i64 (rdR xs k).o] (by simp [Act.eval, eB]) (by rfl) 68 _ hB (by kernel_rfl) rfl (by kernel_rfl) ?_
                    replace hA := (setRow_other _ bB _ #[.int .i64 (rdR xs k).d, .int .i64 (rdR xs k).o] (by omega)).trans hA
                    replace hB := blk_row hB #[.int .i64 (rdR xs k).d, .int .i64 (rdR xs k).o]
                    refine hK.out _ _ (hHeld.row _ lB _) (fun hHeld2 => ?_)
                    clear hK K hHeld
                    try clear hb
                    have hHeld := hHeld2
                    clear hHeld2
                    try simp only [Act.put, List.setIfInBounds_toArray, List.set_cons_zero, List.set_cons_succ]
                    refine wpAnyH_done (by kernel_rfl) ?_ _
                    simp only [World.size_alloc, World.size_drew] at eA eB
                    subst eA
                    subst eB
                    clear nn
                    refine abs3 (S := CAt w (some ad) c xs u e) ?_ hA hB hHeld
                    clear hA hB hHeld
                    intro W9 hA hB hHeld
                    have a0 := blk_cell hA 0
                    have a1 := blk_cell hA 1
                    have b0 := blk_cell hB 0
                    have b1 := blk_cell hB 1
                    have HC1 := Aside0.mk hHeld
                    clear hHeld hA hB h0 h1 h2 HC
                    by_cases q1 : (rdR xs (k - 1)).d < (rdR xs k).d
                    · by_cases q2 : (rdR xs k).o = (rdR xs (k - 1)).o + 1
                      · have hf := Aside0.mk (show folB (rdR xs k) (rdR xs (k - 1)) = true from decide_eq_true ⟨q1, .inl (by omega)⟩)
                        have q3 : ((rdR xs k).o != (rdR xs (k - 1)).o + 1) = false := by rw [q2]; exact bne_self_eq_false _
                        clear q2
                        go_wp2
                        go_roundw
                        case rel => exact ⟨k + 1, by omega, by omega, by go_num, ⟨fun j hj => by
                          by_cases e : j = k - 1
                          · subst e; rw [show k - 1 + 1 = k by omega]; exact hf.out
                          · exact hno.out j (by omega)⟩, HC1⟩
                        case measure => simp [intOf]; omega
                      · have q3 : ((rdR xs k).o != (rdR xs (k - 1)).o + 1) = true := bne_iff_ne.2 q2
                        by_cases q4 : (rdR xs k).o = (rdR xs (k - 1)).o - 1
                        · have hf := Aside0.mk (show folB (rdR xs k) (rdR xs (k - 1)) = true from decide_eq_true ⟨q1, .inr (by omega)⟩)
                          have q5 : ((rdR xs k).o != (rdR xs (k - 1)).o - 1) = false := by rw [q4]; exact bne_self_eq_false _
                          clear q2 q4
                          go_wp2
                          go_roundw
                          case rel => exact ⟨k + 1, by omega, by omega, by go_num, ⟨fun j hj => by
                            by_cases e : j = k - 1
                            · subst e; rw [show k - 1 + 1 = k by omega]; exact hf.out
                            · exact hno.out j (by omega)⟩, HC1⟩
                          case measure => simp [intOf]; omega
                        · have hf := Aside0.mk (show folB (rdR xs k) (rdR xs (k - 1)) = false from decide_eq_false (by omega))
                          have q5 : ((rdR xs k).o != (rdR xs (k - 1)).o - 1) = true := bne_iff_ne.2 q4
                          clear q2 q4
                          have hE := Aside0.mk (newErr_6 k8 k3 k13.out k1a.out hu'.out he'.out (riseB_no (j := k - 1) (by omega) (by rw [show k - 1 + 1 = k by omega]; exact hf.out)))
                          go_wp2
                          go_ret
                          exact ⟨by rw [hE.out]; rfl, HC1.out.bel⟩
                    · have hf := Aside0.mk (show folB (rdR xs k) (rdR xs (k - 1)) = false from decide_eq_false (by omega))
                      have hE := Aside0.mk (newErr_6 k8 k3 k13.out k1a.out hu'.out he'.out (riseB_no (j := k - 1) (by omega) (by rw [show k - 1 + 1 = k by omega]; exact hf.out)))
                      go_wp2
                      go_ret
                      exact ⟨by rw [hE.out]; rfl, HC1.out.bel⟩
                  refine AllReadyH.cons rfl (fun K hK => ?_) AllReadyH.nil
                  go_simp
                  obtain ⟨bB, eB, hB, lB⟩ := CAt.alloc_ex hHeld (.cells #[.int .i64 0, .int .i64 0] 68)
                  refine hK.out _ _ (hHeld.alloc _) (fun hHeld2 => ?_)
                  clear hK K hHeld
                  try clear hb
                  have hHeld := hHeld2
                  clear hHeld2
                  try simp only [Act.put, List.setIfInBounds_toArray, List.set_cons_zero, List.set_cons_succ]
                  refine wpAnyH_ready (rs := [11]) (by kernel_rfl) (by simp) ?_
                  refine AllReadyH.cons rfl (fun K hK => ?_) AllReadyH.nil
                  go_simp
                  obtain ⟨bA, eA, hA, lA⟩ := CAt.alloc_ex hHeld (.cells #[.int .i64 0, .int .i64 0] 68)
                  have nn := Nat.ne_of_lt (show bB < bA by rw [eA]; exact blk_lt hB)
                  replace hB := blk_alloc hB (.cells #[.int .i64 0, .int .i64 0] 68)
                  refine hK.out _ _ (hHeld.alloc _) (fun hHeld2 => ?_)
                  clear hK K hHeld
                  try clear hb
                  have hHeld := hHeld2
                  clear hHeld2
                  try simp only [Act.put, List.setIfInBounds_toArray, List.set_cons_zero, List.set_cons_succ]
                  refine wpAnyH_ready (rs := [13]) (by kernel_rfl) (by simp) ?_
                  refine AllReadyH.cons rfl (fun K hK => ?_) AllReadyH.nil
                  rw [if_pos (by rfl)]
                  refine wp_store_row 68 (.tmp 10) (.tmp 109) rfl bA #[.int .i64 (rdR xs (k - 1)).d, .int .i64 (rdR xs (k - 1)).o] (by simp [Act.eval, eA]) (by rfl) 68 _ hA (by kernel_rfl) rfl (by kernel_rfl) ?_
                  replace hB := (setRow_other _ bA _ #[.int .i64 (rdR xs (k - 1)).d, .int .i64 (rdR xs (k - 1)).o] (by omega)).trans hB
                  replace hA := blk_row hA #[.int .i64 (rdR xs (k - 1)).d, .int .i64 (rdR xs (k - 1)).o]
                  refine hK.out _ _ (hHeld.row _ lA _) (fun hHeld2 => ?_)
                  clear hK K hHeld
                  try clear hb
                  have hHeld := hHeld2
                  clear hHeld2
                  try simp only [Act.put, List.setIfInBounds_toArray, List.set_cons_zero, List.set_cons_succ]
                  refine wpAnyH_ready (rs := [14]) (by kernel_rfl) (by simp) ?_
                  refine AllReadyH.cons rfl (fun K hK => ?_) AllReadyH.nil
                  rw [if_pos (by rfl)]
                  refine wp_store_row 68 (.tmp 11) (.tmp 114) rfl bB #[.int .i64 (rdR xs k).d, .int .i64 (rdR xs k).o] (by simp [Act.eval, eB]) (by rfl) 68 _ hB (by kernel_rfl) rfl (by kernel_rfl) ?_
                  replace hA := (setRow_other _ bB _ #[.int .i64 (rdR xs k).d, .int .i64 (rdR xs k).o] (by omega)).trans hA
                  replace hB := blk_row hB #[.int .i64 (rdR xs k).d, .int .i64 (rdR xs k).o]
                  refine hK.out _ _ (hHeld.row _ lB _) (fun hHeld2 => ?_)
                  clear hK K hHeld
                  try clear hb
                  have hHeld := hHeld2
                  clear hHeld2
                  try simp only [Act.put, List.setIfInBounds_toArray, List.set_cons_zero, List.set_cons_succ]
                  refine wpAnyH_done (by kernel_rfl) ?_ _
                  simp only [World.size_alloc, World.size_drew] at eA eB
                  subst eA
                  subst eB
                  clear nn
                  refine abs3 (S := CAt w (some ad) c xs u e) ?_ hA hB hHeld
                  clear hA hB hHeld
                  intro W9 hA hB hHeld
                  have a0 := blk_cell hA 0
                  have a1 := blk_cell hA 1
                  have b0 := blk_cell hB 0
                  have b1 := blk_cell hB 1
                  have HC1 := Aside0.mk hHeld
                  clear hHeld hA hB h0 h1 h2 HC
                  by_cases q1 : (rdR xs (k - 1)).d < (rdR xs k).d
                  · by_cases q2 : (rdR xs k).o = (rdR xs (k - 1)).o + 1
                    · have hf := Aside0.mk (show folB (rdR xs k) (rdR xs (k - 1)) = true from decide_eq_true ⟨q1, .inl (by omega)⟩)
                      have q3 : ((rdR xs k).o != (rdR xs (k - 1)).o + 1) = false := by rw [q2]; exact bne_self_eq_false _
                      clear q2
                      go_wp2
                      go_roundw
                      case rel => exact ⟨k + 1, by omega, by omega, by go_num, ⟨fun j hj => by
                        by_cases e : j = k - 1
                        · subst e; rw [show k - 1 + 1 = k by omega]; exact hf.out
                        · exact hno.out j (by omega)⟩, HC1⟩
                      case measure => simp [intOf]; omega
                    · have q3 : ((rdR xs k).o != (rdR xs (k - 1)).o + 1) = true := bne_iff_ne.2 q2
                      by_cases q4 : (rdR xs k).o = (rdR xs (k - 1)).o - 1
                      · have hf := Aside0.mk (show folB (rdR xs k) (rdR xs (k - 1)) = true from decide_eq_true ⟨q1, .inr (by omega)⟩)
                        have q5 : ((rdR xs k).o != (rdR xs (k - 1)).o - 1) = false := by rw [q4]; exact bne_self_eq_false _
                        clear q2 q4
                        go_wp2
                        go_roundw
                        case rel => exact ⟨k + 1, by omega, by omega, by go_num, ⟨fun j hj => by
                          by_cases e : j = k - 1
                          · subst e; rw [show k - 1 + 1 = k by omega]; exact hf.out
                          · exact hno.out j (by omega)⟩, HC1⟩
                        case measure => simp [intOf]; omega
                      · have hf := Aside0.mk (show folB (rdR xs k) (rdR xs (k - 1)) = false from decide_eq_false (by omega))
                        have q5 : ((rdR xs k).o != (rdR xs (k - 1)).o - 1) = true := bne_iff_ne.2 q4
                        clear q2 q4
                        have hE := Aside0.mk (newErr_6 k8 k3 k13.out k1a.out hu'.out he'.out (riseB_no (j := k - 1) (by omega) (by rw [show k - 1 + 1 = k by omega]; exact hf.out)))
                        go_wp2
                        go_ret
                        exact ⟨by rw [hE.out]; rfl, HC1.out.bel⟩
                  · have hf := Aside0.mk (show folB (rdR xs k) (rdR xs (k - 1)) = false from decide_eq_false (by omega))
                    have hE := Aside0.mk (newErr_6 k8 k3 k13.out k1a.out hu'.out he'.out (riseB_no (j := k - 1) (by omega) (by rw [show k - 1 + 1 = k by omega]; exact hf.out)))
                    go_wp2
                    go_ret
                    exact ⟨by rw [hE.out]; rfl, HC1.out.bel⟩
                · have hE := Aside0.mk (newErr_0 k8 k3 k13.out k1a.out hu'.out he'.out (riseB_of (fun j hj => hno.out j (by omega))))
                  obtain ⟨h0, h1, h2⟩ := HC.out.cells
                  go_wp2
                  go_ret
                  exact ⟨by rw [hE.out]; rfl, HC.out.bel⟩
end Go.Proofs.Ytbpmjjbccaanfaa.Lp
