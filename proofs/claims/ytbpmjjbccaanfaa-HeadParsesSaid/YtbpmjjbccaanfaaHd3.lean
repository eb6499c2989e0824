import Derived.Test.YtbpmjjbccaanfaaHd2
import Derived.RangeFuncFrom
namespace Go.Proofs.Ytbpmjjbccaanfaa.Hd
open Go.RowKit Go.Shelf Go.Proofs.YtbpmjjbccaanfaaW.PrintWords Go.Proofs.YtbpmjjbccaanfaaW.PrintLast Go.Proofs.YtbpmjjbccaanfaaW.PrintMore
set_option linter.unusedVariables false
set_option linter.unusedSimpArgs false
attribute [local go_sem] Oper.semAt_some
theorem kt_b {w : World} {Bs Bn : Nat} (hs : Bs < w.heap.size) (hn : Bn < w.heap.size) (W : World) (l : Nat) (o o' : Obj) (hl : w.heap.size ≤ l) (h : W.heap[l]? = some o) (_ : o.isCells = false) (_ : o.isWalk = false) : KeepTwo Bs Bn W (W.putObj l o') := by
  constructor
  · simp only [World.cell?, World.putObj_heap_other (show Bs ≠ l by omega)]
  · simp only [World.cell?, World.putObj_heap_other (show Bn ≠ l by omega)]
theorem oper_append {F : Fence} {n : Nat} {P : Program} {o : Oper} {a : Act} {w w1 : World} {K : Act → World → Prop} {Q : Exit → Act → World → Prop} (hg : o.guard = none) (s x : Operand) (t : TypeId) (v u : Value) {v1 : Value} (hop : o.op = Op.call { callee := Callee.builtin Builtin.append, args := #[s, x], argTypes := #[t, t] }) (hs : a.eval s = v) (hx : a.eval x = u)
    (hrun : (Builtin.append_ #[t, t] o.type #[v, u]).run P w = .ok v1 w1) (h : K (a.put o.dst v1) w1) : o.wpIn F n P a w K Q := by
  unfold Oper.wpIn
  refine ⟨?_, ?_⟩
  · simp [Oper.about, hop, resolve, Target.leads, Sem.run_pure]
  · rw [Oper.semAt_plain F _ _ (by rw [hop]; intro c hc; cases hc)]
    simp [execOp, hop, resolve, invoke, builtin, hs, hx, hrun, Result.andThen]
    exact h
/-- between two rounds -/
structure LAt (w : World) (t e : TypeId) (k : IntKind) (f : Nat → Int) (sv : Value) (sz : Int) (pre : List Nat) (W : World) : Prop where
  box : ∃ v, Boxed W w.heap.size t v ∧ W.ownsRow w.heap.size e 1 v pre.length (nums k (pre.map f))
  bs : Boxed W (w.heap.size + 1) 32 sv
  bn : Boxed W (w.heap.size + 1 + 1) 3 (.int .i64 sz)
  bel : Below w.heap.size w W
theorem LAt.ownFrom (w : World) (t e : TypeId) (k : IntKind) (f : Nat → Int) (sv : Value) (sz : Int) (B : Nat) (hB : w.heap.size ≤ B) : OwnFrom B (LAt w t e k f sv sz) := by
  rintro s X Y row ⟨⟨v, hv, hr⟩, hs, hn, hb⟩ hg hrow
  have hrow' : ∀ r, row = some r → ∃ o : Obj, X.heap[r]? = some o ∧ o.isCells = false := fun r e => (hrow r e).2
  have nb : ∀ {B : Nat} {t : TypeId} {v : Value}, Boxed X B t v → some B ≠ row := by
    intro B t v hb e
    obtain ⟨o, ho, hc⟩ := hrow' B e.symm
    rw [show X.heap[B]? = _ from hb] at ho; cases ho; cases hc
  refine ⟨⟨v, hv.kept hg (nb hv), hr.kept hg ?_⟩, hs.kept hg (nb hs), hn.kept hg (nb hn), hb.grown hg hb.size (fun k e => Nat.le_trans hB (hrow k e).1)⟩
  rcases hr.2 with ⟨rfl, _⟩ | ⟨g, cap, cur, rfl, _, hgb, _⟩
  · exact .inl rfl
  · refine .inr fun e' => ?_
    obtain ⟨o, ho, hc⟩ := hrow' g (by simpa [Value.ownBlock] using e'.symm)
    rw [hgb] at ho; cases ho; cases hc
/-- the bytes' words -/
def w4 (g : Nat → Int) (i : Nat) : Int := g (i * 4) * 16777216 + g (i * 4 + 1) * 65536 + g (i * 4 + 2) * 256 + g (i * 4 + 3)
theorem info27 : (Try.prog.info? 27).map (fun i => (i.zero, i.size, i.bytes)) = some (some (.int .u32 0), 1, 4) := by kernel_rfl
theorem underlying213 : Try.prog.underlying 213 = some (.slice 27) := by kernel_rfl
set_option maxRecDepth 100000 in
set_option maxHeartbeats 4000000 in
theorem list32 (b off cap L a m : Nat) (g : Nat → Int) (w : World) (hb : b < w.heap.size) (hL : a + m * 4 ≤ L) (hcap : L ≤ cap) (hreach : cap ≤ 9223372036854775807) (hm : m ≤ 1000000) (hm1 : 1 ≤ m)
    (hc : ∀ j, j < m * 4 → w.cell? ⟨b, off + a + j, none⟩ = some (.int .u8 (g j))) (hg : ∀ j, 0 ≤ g j ∧ g j ≤ 255) :
    Calls Try.prog 138 #[.slice (some ⟨b, off, none⟩) L cap, .int .i64 a, .int .i64 m] w fun e w' => ∃ v, e = .returned (.tuple #[v, .nilIface]) ∧ w'.ownsRow w.heap.size 27 1 v m (nums .u32 ((List.range m).map (w4 g))) ∧ Below w.heap.size w w' := by
  obtain ⟨i0, hi, hz0, hz1, hz2⟩ := info_parts info27
  have hca : ¬ cap = a := by omega
  have hLa : ¬ L = a := by omega
  refine (callsIn_wide (n := 5)).1 ?_
  refine callsIn_of_wp_marks Try.func138 rfl trivial ?_ rfl
  simp only [Try.ntmps138, List.size_toArray, List.length_cons, List.length_nil, Nat.reduceAdd, Nat.reduceSub, Array.replicate_succ, Array.replicate_zero, List.push_toArray, List.append_toArray, List.nil_append, List.cons_append]
  gi_wp2_with (first | (refine ⟨trivial, ?_⟩; gi_at_call 75; refine (callsIn_wide.2 (size32 _)).mono ?_; rintro e w' ⟨rfl, rfl⟩) | (refine ⟨trivial, ?_⟩; gi_at_call 171; refine (callsIn_wide.2 (chunk _ _ _ _ _ (by omega))).mono ?_; rintro e w' ⟨rfl, rfl⟩))
  have B0 : Boxed (w.alloc (.cells #[.slice none 0 0] 213)) w.heap.size 213 (.slice none 0 0) := Boxed.new _ _ _
  have B1 : Boxed ((w.alloc (.cells #[.slice none 0 0] 213)).alloc (.cells #[.slice (some ⟨b, off + a, none⟩) (m * 4) (cap - a)] 32)) (w.heap.size + 1) 32 (.slice (some ⟨b, off + a, none⟩) (m * 4) (cap - a)) := by
    have := Boxed.new (w.alloc (.cells #[.slice none 0 0] 213)) 32 (.slice (some ⟨b, off + a, none⟩) (m * 4) (cap - a)); rwa [World.size_alloc] at this
  have B2 : Boxed (((w.alloc (.cells #[.slice none 0 0] 213)).alloc (.cells #[.slice (some ⟨b, off + a, none⟩) (m * 4) (cap - a)] 32)).alloc (.cells #[.int .i64 4] 3)) (w.heap.size + 1 + 1) 3 (.int .i64 4) := by
    have := Boxed.new ((w.alloc (.cells #[.slice none 0 0] 213)).alloc (.cells #[.slice (some ⟨b, off + a, none⟩) (m * 4) (cap - a)] 32)) 3 (.int .i64 4); rwa [World.size_alloc, World.size_alloc] at this
  have hb3 : Below w.heap.size w (((w.alloc (.cells #[.slice none 0 0] 213)).alloc (.cells #[.slice (some ⟨b, off + a, none⟩) (m * 4) (cap - a)] 32)).alloc (.cells #[.int .i64 4] 3)) := below_alloc (below_alloc (below_alloc (Below.refl _ _) _) _) _
  have hI0 : LAt w 213 27 .u32 (w4 g) (.slice (some ⟨b, off + a, none⟩) (m * 4) (cap - a)) 4 [] (((w.alloc (.cells #[.slice none 0 0] 213)).alloc (.cells #[.slice (some ⟨b, off + a, none⟩) (m * 4) (cap - a)] 32)).alloc (.cells #[.int .i64 4] 3)) :=
    ⟨⟨_, (B0.alloc _).alloc _, ⟨rfl, .inl ⟨rfl, rfl⟩⟩⟩, B1.alloc _, B2, hb3⟩
  refine wpIn_rangeFunc_ownG rfl (by omega) (gf := 185) (lb := #[.pointer (some ⟨w.heap.size + 1, 0, none⟩), .pointer (some ⟨w.heap.size + 1 + 1, 0, none⟩)]) rfl trivial (enters_of Try.func185 (by kernel_rfl) rfl)
    (chunk_stops Fence.wide _ trivial rfl (by omega) (w.heap.size + 1) (w.heap.size + 1 + 1) b (off + a) m 4 (m * 4) (cap - a) rfl (by omega) (by omega) (by omega) _ (by simp) (by simp) (B1.alloc _).cell B2.cell)
    KeepTwo.trans (kt_b (by simp) (by simp)) (Below.refl _ _) (fun _ => rfl)
    (fun pre : List (Fin m) => LAt w 213 27 .u32 (w4 g) (.slice (some ⟨b, off + a, none⟩) (m * 4) (cap - a)) 4 (pre.map Fin.val))
    (fun _ _ _ => False)
    (fun s => LAt.ownFrom w 213 27 .u32 (w4 g) _ 4 _ (by simp; omega) (s.map Fin.val))
    (fun _ _ _ _ _ hs _ _ => hs)
    hI0
    (fun x => { tmps := #[.slice (some ⟨b, off, none⟩) L cap, .int .i64 a, .int .i64 m, undef, undef, undef, .slice none 0 0, .nilIface, .int .i64 4, .pointer (some ⟨w.heap.size, 0, none⟩), .slice (some ⟨b, off + a + x.val * 4, none⟩) 4 4, .int .i64 4,
      .bool (decide ((a : Int) < 0) || decide ((m : Int) < 0)), .int .i64 a, .bool (decide ((a : Int) < 0)), .bool (decide ((a : Int) < 0)), .int .i64 a, .slice (some ⟨b, off, none⟩) L cap, .int .i64 L, .bool false, .bool (decide ((a : Int) < 0)), .bool (decide ((a : Int) < 0)),
      .int .i64 m, .bool (decide ((m : Int) < 0)), .bool (decide ((a : Int) < 0) || decide ((m : Int) < 0)), undef, .bool (decide (((L : Int) - a) / 4 < m)), .int .i64 m, .slice (some ⟨b, off, none⟩) L cap, .int .i64 L, .int .i64 a, .int .i64 ((L : Int) - a), .int .i64 4, .int .i64 (((L : Int) - a) / 4),
      .bool (decide (((L : Int) - a) / 4 < m)), undef, .slice (some ⟨b, off, none⟩) L cap, .int .i64 a, .int .i64 a, .int .i64 m, .int .i64 4, .int .i64 (m * 4), .int .i64 (a + m * 4), .slice (some ⟨b, off + a, none⟩) (m * 4) (cap - a), .int .i64 4,
      .func (.func 185) #[] #[.pointer (some ⟨w.heap.size + 1, 0, none⟩), .pointer (some ⟨w.heap.size + 1 + 1, 0, none⟩)], .slice (some ⟨b, off + a + x.val * 4, none⟩) 4 4, undef, undef, undef, undef, undef, undef], defers := [] }) ?assign ?body ?done ?stop
  case assign =>
    intro l x W K hK
    gi_wp2
    exact hK
  case body =>
    rintro l pre x W ⟨⟨v, hv, hr⟩, hs, hn, hbel⟩ hlen
    have hx := x.isLt
    have h0 : W.drew.cell? ⟨b, off + a + x.val * 4, none⟩ = some (.int .u8 (g (x.val * 4))) := (hbel.cell (p := ⟨b, off + a + (x.val * 4 + 0), none⟩) hb).trans (hc (x.val * 4 + 0) (by omega))
    have h1 : W.drew.cell? ⟨b, off + a + x.val * 4 + 1, none⟩ = some (.int .u8 (g (x.val * 4 + 1))) := (hbel.cell (p := ⟨b, off + a + (x.val * 4 + 1), none⟩) hb).trans (hc (x.val * 4 + 1) (by omega))
    have h2 : W.drew.cell? ⟨b, off + a + x.val * 4 + 2, none⟩ = some (.int .u8 (g (x.val * 4 + 2))) := (hbel.cell (p := ⟨b, off + a + (x.val * 4 + 2), none⟩) hb).trans (hc (x.val * 4 + 2) (by omega))
    have h3 : W.drew.cell? ⟨b, off + a + x.val * 4 + 3, none⟩ = some (.int .u8 (g (x.val * 4 + 3))) := (hbel.cell (p := ⟨b, off + a + (x.val * 4 + 3), none⟩) hb).trans (hc (x.val * 4 + 3) (by omega))
    have hvc := hv.cell
    have hvf := hv.frozen
    have hmx : Try.prog.follows .mixedOrders = true := by kernel_rfl
    have hd : 1 ≤ 5 - 1 - 1 := by omega
    obtain ⟨v', w1, hrun, hown', hgrow, -⟩ := run_append_own (P := Try.prog) (W.drew.alloc (.cells #[.int .u32 (w4 g x.val)] 27)) w.heap.size 213 213 27 i0 (.int .u32 0) 1 4 underlying213 hi hz0 hz1 hz2 rfl (by decide) v (pre.map Fin.val).length _ ((show W.drew.ownsRow w.heap.size 27 1 v _ _ from hr).alloc _)
      ⟨W.heap.size, 0, none⟩ 1 1 [.int .u32 (w4 g x.val)] rfl (cell_one_new _ _ _) (by simp [Value.oneCell']) (by simp [maxLen]; omega) (by simp; omega) (by have := hbel.size; simp; omega)
    obtain ⟨g', cap', rfl⟩ := ownsRow_succ hown'
    obtain ⟨b1, b2, b3, b4, b5⟩ := Boxed.appended (W := W.drew) hv (by decide) hr hbel.size (Nat.le_refl _) hown' hgrow
    have b1c := b1.cell
    have b1f := b1.frozen
    have hva : (W.alloc (.cells #[.int .u32 (w4 g x.val)] 27)).cell? ⟨w.heap.size, 0, none⟩ = some v := (hv.alloc _).cell
    have nb : ∀ {B : Nat} {t : TypeId} {u : Value}, Boxed W B t u → t ≠ 27 → t ≠ 213 → some B ≠ some w.heap.size → Boxed (w1.setCell ⟨w.heap.size, 0, none⟩ (.slice (some ⟨g', 0, none⟩) ((pre.map Fin.val).length + 1) cap')) B t u := by
      intro B t u hB h1 h2 h3
      exact ((Boxed.alloc (W := W.drew) hB (.cells #[.int .u32 (w4 g x.val)] 27)).kept hgrow (Boxed.not_row (Boxed.alloc (W := W.drew) hB (.cells #[.int .u32 (w4 g x.val)] 27)) h1 ((show W.drew.ownsRow w.heap.size 27 1 v _ _ from hr).alloc _))).kept (grownBy_setCell' _ _ _) h3
    have hs' := nb hs (by decide) (by decide) (by simp)
    have hn' := nb hn (by decide) (by decide) (by simp; omega)
    have FIN := And.intro (((KeepsOthers.drew W).trans b4).from ((((w.alloc (.cells #[.slice none 0 0] 213)).alloc (.cells #[.slice (some ⟨b, off + a, none⟩) (m * 4) (cap - a)] 32)).alloc (.cells #[.int .i64 4] 3)).heap.size)) (And.intro (show KeepTwo (w.heap.size + 1) (w.heap.size + 1 + 1) W _ from ⟨hs'.cell.trans hs.cell.symm, hn'.cell.trans hn.cell.symm⟩)
      (show LAt w 213 27 .u32 (w4 g) (.slice (some ⟨b, off + a, none⟩) (m * 4) (cap - a)) 4 ((pre ++ [x]).map Fin.val) _ from ⟨⟨_, b2, by simpa [nums] using b3⟩, hs', hn', (below_drew hbel).trans b5⟩))
    clear nb hs' hn' b4 b5 b3 hgrow
    simp only [List.length_map] at FIN
    simp only [w4] at hrun hva
    gi_wp2
    refine wpIn_region_any hmx ?_
    change wpAnyIn _ _ _ _ _ _ _ _ _ (World.drew _)
    refine wpAnyIn_ready (rs := [0, 1]) (by kernel_rfl) (by simp) ?_
    refine AllReadyIn.cons rfl (fun K hK => ?_) ?_
    ·
      go_simp; refine hK _ _ ?_; clear hK K
      refine wpAnyIn_ready (rs := [1]) (by kernel_rfl) (by simp) ?_
      refine AllReadyIn.cons rfl (fun K hK => ?_) AllReadyIn.nil
      go_simp; refine hK _ _ ?_; clear hK K
      refine wpAnyIn_ready (rs := [2]) (by kernel_rfl) (by simp) ?_
      refine AllReadyIn.cons rfl (fun K hK => ?_) AllReadyIn.nil
      gi_wp2_with (refine ⟨trivial, ?_⟩; gi_at_call 107; refine (CallsIn.inRound l (callsIn_wide.2 (word32 b (off + a + x.val * 4) 4 _ _ _ _ W.drew h0 h1 h2 h3 (hg _).1 (hg _).2 (hg _).1 (hg _).2 (hg _).1 (hg _).2 (hg _).1 (hg _).2))).mono ?_; rintro e w2 ⟨rfl, rfl⟩)
      refine wpAnyIn_ready (rs := [3]) (by kernel_rfl) (by simp) ?_
      refine AllReadyIn.cons rfl (fun K hK => ?_) AllReadyIn.nil
      go_simp; refine hK _ _ ?_; clear hK K
      refine wpAnyIn_ready (rs := [4]) (by kernel_rfl) (by simp) ?_
      refine AllReadyIn.cons rfl (fun K hK => ?_) AllReadyIn.nil
      refine oper_append rfl _ _ _ _ _ rfl rfl rfl hrun ?_; refine hK _ _ ?_; clear hK K
      refine wpAnyIn_ready (rs := [5]) (by kernel_rfl) (by simp) ?_
      refine AllReadyIn.cons rfl (fun K hK => ?_) AllReadyIn.nil
      go_simp; refine hK _ _ ?_; clear hK K
      refine wpAnyIn_done (by kernel_rfl) ?_ _
      exact FIN
    refine AllReadyIn.cons rfl (fun K hK => ?_) ?_
    ·
      go_simp; refine hK _ _ ?_; clear hK K
      refine wpAnyIn_ready (rs := [0, 2]) (by kernel_rfl) (by simp) ?_
      refine AllReadyIn.cons rfl (fun K hK => ?_) ?_
      ·
        go_simp; refine hK _ _ ?_; clear hK K
        refine wpAnyIn_ready (rs := [2]) (by kernel_rfl) (by simp) ?_
        refine AllReadyIn.cons rfl (fun K hK => ?_) AllReadyIn.nil
        gi_wp2_with (refine ⟨trivial, ?_⟩; gi_at_call 107; refine (CallsIn.inRound l (callsIn_wide.2 (word32 b (off + a + x.val * 4) 4 _ _ _ _ W.drew h0 h1 h2 h3 (hg _).1 (hg _).2 (hg _).1 (hg _).2 (hg _).1 (hg _).2 (hg _).1 (hg _).2))).mono ?_; rintro e w2 ⟨rfl, rfl⟩)
        refine wpAnyIn_ready (rs := [3]) (by kernel_rfl) (by simp) ?_
        refine AllReadyIn.cons rfl (fun K hK => ?_) AllReadyIn.nil
        go_simp; refine hK _ _ ?_; clear hK K
        refine wpAnyIn_ready (rs := [4]) (by kernel_rfl) (by simp) ?_
        refine AllReadyIn.cons rfl (fun K hK => ?_) AllReadyIn.nil
        refine oper_append rfl _ _ _ _ _ rfl rfl rfl hrun ?_; refine hK _ _ ?_; clear hK K
        refine wpAnyIn_ready (rs := [5]) (by kernel_rfl) (by simp) ?_
        refine AllReadyIn.cons rfl (fun K hK => ?_) AllReadyIn.nil
        go_simp; refine hK _ _ ?_; clear hK K
        refine wpAnyIn_done (by kernel_rfl) ?_ _
        exact FIN
      refine AllReadyIn.cons rfl (fun K hK => ?_) ?_
      ·
        gi_wp2_with (refine ⟨trivial, ?_⟩; gi_at_call 107; refine (CallsIn.inRound l (callsIn_wide.2 (word32 b (off + a + x.val * 4) 4 _ _ _ _ W.drew h0 h1 h2 h3 (hg _).1 (hg _).2 (hg _).1 (hg _).2 (hg _).1 (hg _).2 (hg _).1 (hg _).2))).mono ?_; rintro e w2 ⟨rfl, rfl⟩)
        refine wpAnyIn_ready (rs := [0, 3]) (by kernel_rfl) (by simp) ?_
        refine AllReadyIn.cons rfl (fun K hK => ?_) ?_
        ·
          go_simp; refine hK _ _ ?_; clear hK K
          refine wpAnyIn_ready (rs := [3]) (by kernel_rfl) (by simp) ?_
          refine AllReadyIn.cons rfl (fun K hK => ?_) AllReadyIn.nil
          go_simp; refine hK _ _ ?_; clear hK K
          refine wpAnyIn_ready (rs := [4]) (by kernel_rfl) (by simp) ?_
          refine AllReadyIn.cons rfl (fun K hK => ?_) AllReadyIn.nil
          refine oper_append rfl _ _ _ _ _ rfl rfl rfl hrun ?_; refine hK _ _ ?_; clear hK K
          refine wpAnyIn_ready (rs := [5]) (by kernel_rfl) (by simp) ?_
          refine AllReadyIn.cons rfl (fun K hK => ?_) AllReadyIn.nil
          go_simp; refine hK _ _ ?_; clear hK K
          refine wpAnyIn_done (by kernel_rfl) ?_ _
          exact FIN
        refine AllReadyIn.cons rfl (fun K hK => ?_) ?_
        ·
          go_simp; refine hK _ _ ?_; clear hK K
          refine wpAnyIn_ready (rs := [0]) (by kernel_rfl) (by simp) ?_
          refine AllReadyIn.cons rfl (fun K hK => ?_) AllReadyIn.nil
          go_simp; refine hK _ _ ?_; clear hK K
          refine wpAnyIn_ready (rs := [4]) (by kernel_rfl) (by simp) ?_
          refine AllReadyIn.cons rfl (fun K hK => ?_) AllReadyIn.nil
          refine oper_append rfl _ _ _ _ _ rfl rfl rfl hrun ?_; refine hK _ _ ?_; clear hK K
          refine wpAnyIn_ready (rs := [5]) (by kernel_rfl) (by simp) ?_
          refine AllReadyIn.cons rfl (fun K hK => ?_) AllReadyIn.nil
          go_simp; refine hK _ _ ?_; clear hK K
          refine wpAnyIn_done (by kernel_rfl) ?_ _
          exact FIN
        exact AllReadyIn.nil
      exact AllReadyIn.nil
    exact AllReadyIn.nil
  case done =>
    rintro D xs W hD hxs ⟨⟨v, hv, hr⟩, hs, hn, hbel⟩ hK
    have hvc := hv.cell
    gi_wp2
    refine ⟨by simp, .inl ⟨_, _, rfl, run_takeDeferred hK, ?_⟩⟩
    have hll : (xs.map Fin.val).length = m := by rw [hxs, List.length_range]
    rw [hll, hxs] at hr
    exact ⟨_, results_tmp2 rfl _ _ _, v, rfl, ownsRow_putObj hr _ hK rfl, hbel.grown (grownBy_putObj' _ _ _) hbel.size (fun k e => by cases e; exact Nat.le_trans (by simp; omega) hD)⟩
  case stop =>
    rintro D c pre W _ _ h _
    exact h.elim
/-- the bytes' words -/
def w2 (g : Nat → Int) (i : Nat) : Int := g (i * 2) * 256 + g (i * 2 + 1)
theorem info23 : (Try.prog.info? 23).map (fun i => (i.zero, i.size, i.bytes)) = some (some (.int .u16 0), 1, 2) := by kernel_rfl
theorem underlying212 : Try.prog.underlying 212 = some (.slice 23) := by kernel_rfl
set_option maxRecDepth 100000 in
set_option maxHeartbeats 4000000 in
theorem list16 (b off cap L a m : Nat) (g : Nat → Int) (w : World) (hb : b < w.heap.size) (hL : a + m * 2 ≤ L) (hcap : L ≤ cap) (hreach : cap ≤ 9223372036854775807) (hm : m ≤ 1000000) (hm1 : 1 ≤ m)
    (hc : ∀ j, j < m * 2 → w.cell? ⟨b, off + a + j, none⟩ = some (.int .u8 (g j))) (hg : ∀ j, 0 ≤ g j ∧ g j ≤ 255) :
    Calls Try.prog 137 #[.slice (some ⟨b, off, none⟩) L cap, .int .i64 a, .int .i64 m] w fun e w' => ∃ v, e = .returned (.tuple #[v, .nilIface]) ∧ w'.ownsRow w.heap.size 23 1 v m (nums .u16 ((List.range m).map (w2 g))) ∧ Below w.heap.size w w' := by
  obtain ⟨i0, hi, hz0, hz1, hz2⟩ := info_parts info23
  have hca : ¬ cap = a := by omega
  have hLa : ¬ L = a := by omega
  refine (callsIn_wide (n := 5)).1 ?_
  refine callsIn_of_wp_marks Try.func137 rfl trivial ?_ rfl
  simp only [Try.ntmps137, List.size_toArray, List.length_cons, List.length_nil, Nat.reduceAdd, Nat.reduceSub, Array.replicate_succ, Array.replicate_zero, List.push_toArray, List.append_toArray, List.nil_append, List.cons_append]
  gi_wp2_with (first | (refine ⟨trivial, ?_⟩; gi_at_call 136; refine (callsIn_wide.2 (size16 _)).mono ?_; rintro e w' ⟨rfl, rfl⟩) | (refine ⟨trivial, ?_⟩; gi_at_call 171; refine (callsIn_wide.2 (chunk _ _ _ _ _ (by omega))).mono ?_; rintro e w' ⟨rfl, rfl⟩))
  have B0 : Boxed (w.alloc (.cells #[.slice none 0 0] 212)) w.heap.size 212 (.slice none 0 0) := Boxed.new _ _ _
  have B1 : Boxed ((w.alloc (.cells #[.slice none 0 0] 212)).alloc (.cells #[.slice (some ⟨b, off + a, none⟩) (m * 2) (cap - a)] 32)) (w.heap.size + 1) 32 (.slice (some ⟨b, off + a, none⟩) (m * 2) (cap - a)) := by
    have := Boxed.new (w.alloc (.cells #[.slice none 0 0] 212)) 32 (.slice (some ⟨b, off + a, none⟩) (m * 2) (cap - a)); rwa [World.size_alloc] at this
  have B2 : Boxed (((w.alloc (.cells #[.slice none 0 0] 212)).alloc (.cells #[.slice (some ⟨b, off + a, none⟩) (m * 2) (cap - a)] 32)).alloc (.cells #[.int .i64 2] 3)) (w.heap.size + 1 + 1) 3 (.int .i64 2) := by
    have := Boxed.new ((w.alloc (.cells #[.slice none 0 0] 212)).alloc (.cells #[.slice (some ⟨b, off + a, none⟩) (m * 2) (cap - a)] 32)) 3 (.int .i64 2); rwa [World.size_alloc, World.size_alloc] at this
  have hb3 : Below w.heap.size w (((w.alloc (.cells #[.slice none 0 0] 212)).alloc (.cells #[.slice (some ⟨b, off + a, none⟩) (m * 2) (cap - a)] 32)).alloc (.cells #[.int .i64 2] 3)) := below_alloc (below_alloc (below_alloc (Below.refl _ _) _) _) _
  have hI0 : LAt w 212 23 .u16 (w2 g) (.slice (some ⟨b, off + a, none⟩) (m * 2) (cap - a)) 2 [] (((w.alloc (.cells #[.slice none 0 0] 212)).alloc (.cells #[.slice (some ⟨b, off + a, none⟩) (m * 2) (cap - a)] 32)).alloc (.cells #[.int .i64 2] 3)) :=
    ⟨⟨_, (B0.alloc _).alloc _, ⟨rfl, .inl ⟨rfl, rfl⟩⟩⟩, B1.alloc _, B2, hb3⟩
  refine wpIn_rangeFunc_ownG rfl (by omega) (gf := 185) (lb := #[.pointer (some ⟨w.heap.size + 1, 0, none⟩), .pointer (some ⟨w.heap.size + 1 + 1, 0, none⟩)]) rfl trivial (enters_of Try.func185 (by kernel_rfl) rfl)
    (chunk_stops Fence.wide _ trivial rfl (by omega) (w.heap.size + 1) (w.heap.size + 1 + 1) b (off + a) m 2 (m * 2) (cap - a) rfl (by omega) (by omega) (by omega) _ (by simp) (by simp) (B1.alloc _).cell B2.cell)
    KeepTwo.trans (kt_b (by simp) (by simp)) (Below.refl _ _) (fun _ => rfl)
    (fun pre : List (Fin m) => LAt w 212 23 .u16 (w2 g) (.slice (some ⟨b, off + a, none⟩) (m * 2) (cap - a)) 2 (pre.map Fin.val))
    (fun _ _ _ => False)
    (fun s => LAt.ownFrom w 212 23 .u16 (w2 g) _ 2 _ (by simp; omega) (s.map Fin.val))
    (fun _ _ _ _ _ hs _ _ => hs)
    hI0
    (fun x => { tmps := #[.slice (some ⟨b, off, none⟩) L cap, .int .i64 a, .int .i64 m, undef, undef, undef, .slice none 0 0, .nilIface, .int .i64 2, .pointer (some ⟨w.heap.size, 0, none⟩), .slice (some ⟨b, off + a + x.val * 2, none⟩) 2 2, .int .i64 2,
      .bool (decide ((a : Int) < 0) || decide ((m : Int) < 0)), .int .i64 a, .bool (decide ((a : Int) < 0)), .bool (decide ((a : Int) < 0)), .int .i64 a, .slice (some ⟨b, off, none⟩) L cap, .int .i64 L, .bool false, .bool (decide ((a : Int) < 0)), .bool (decide ((a : Int) < 0)),
      .int .i64 m, .bool (decide ((m : Int) < 0)), .bool (decide ((a : Int) < 0) || decide ((m : Int) < 0)), undef, .bool (decide (((L : Int) - a) / 2 < m)), .int .i64 m, .slice (some ⟨b, off, none⟩) L cap, .int .i64 L, .int .i64 a, .int .i64 ((L : Int) - a), .int .i64 2, .int .i64 (((L : Int) - a) / 2),
      .bool (decide (((L : Int) - a) / 2 < m)), undef, .slice (some ⟨b, off, none⟩) L cap, .int .i64 a, .int .i64 a, .int .i64 m, .int .i64 2, .int .i64 (m * 2), .int .i64 (a + m * 2), .slice (some ⟨b, off + a, none⟩) (m * 2) (cap - a), .int .i64 2,
      .func (.func 185) #[] #[.pointer (some ⟨w.heap.size + 1, 0, none⟩), .pointer (some ⟨w.heap.size + 1 + 1, 0, none⟩)], .slice (some ⟨b, off + a + x.val * 2, none⟩) 2 2, undef, undef, undef, undef, undef, undef], defers := [] }) ?assign ?body ?done ?stop
  case assign =>
    intro l x W K hK
    gi_wp2
    exact hK
  case body =>
    rintro l pre x W ⟨⟨v, hv, hr⟩, hs, hn, hbel⟩ hlen
    have hx := x.isLt
    have h0 : W.drew.cell? ⟨b, off + a + x.val * 2, none⟩ = some (.int .u8 (g (x.val * 2))) := (hbel.cell (p := ⟨b, off + a + (x.val * 2 + 0), none⟩) hb).trans (hc (x.val * 2 + 0) (by omega))
    have h1 : W.drew.cell? ⟨b, off + a + x.val * 2 + 1, none⟩ = some (.int .u8 (g (x.val * 2 + 1))) := (hbel.cell (p := ⟨b, off + a + (x.val * 2 + 1), none⟩) hb).trans (hc (x.val * 2 + 1) (by omega))
    have hvc := hv.cell
    have hvf := hv.frozen
    have hmx : Try.prog.follows .mixedOrders = true := by kernel_rfl
    have hd : 1 ≤ 5 - 1 - 1 := by omega
    obtain ⟨v', w1, hrun, hown', hgrow, -⟩ := run_append_own (P := Try.prog) (W.drew.alloc (.cells #[.int .u16 (w2 g x.val)] 23)) w.heap.size 212 212 23 i0 (.int .u16 0) 1 2 underlying212 hi hz0 hz1 hz2 rfl (by decide) v (pre.map Fin.val).length _ ((show W.drew.ownsRow w.heap.size 23 1 v _ _ from hr).alloc _)
      ⟨W.heap.size, 0, none⟩ 1 1 [.int .u16 (w2 g x.val)] rfl (cell_one_new _ _ _) (by simp [Value.oneCell']) (by simp [maxLen]; omega) (by simp; omega) (by have := hbel.size; simp; omega)
    obtain ⟨g', cap', rfl⟩ := ownsRow_succ hown'
    obtain ⟨b1, b2, b3, b4, b5⟩ := Boxed.appended (W := W.drew) hv (by decide) hr hbel.size (Nat.le_refl _) hown' hgrow
    have b1c := b1.cell
    have b1f := b1.frozen
    have hva : (W.alloc (.cells #[.int .u16 (w2 g x.val)] 23)).cell? ⟨w.heap.size, 0, none⟩ = some v := (hv.alloc _).cell
    have nb : ∀ {B : Nat} {t : TypeId} {u : Value}, Boxed W B t u → t ≠ 23 → t ≠ 212 → some B ≠ some w.heap.size → Boxed (w1.setCell ⟨w.heap.size, 0, none⟩ (.slice (some ⟨g', 0, none⟩) ((pre.map Fin.val).length + 1) cap')) B t u := by
      intro B t u hB h1 h2 h3
      exact ((Boxed.alloc (W := W.drew) hB (.cells #[.int .u16 (w2 g x.val)] 23)).kept hgrow (Boxed.not_row (Boxed.alloc (W := W.drew) hB (.cells #[.int .u16 (w2 g x.val)] 23)) h1 ((show W.drew.ownsRow w.heap.size 23 1 v _ _ from hr).alloc _))).kept (grownBy_setCell' _ _ _) h3
    have hs' := nb hs (by decide) (by decide) (by simp)
    have hn' := nb hn (by decide) (by decide) (by simp; omega)
    have FIN := And.intro (((KeepsOthers.drew W).trans b4).from ((((w.alloc (.cells #[.slice none 0 0] 212)).alloc (.cells #[.slice (some ⟨b, off + a, none⟩) (m * 2) (cap - a)] 32)).alloc (.cells #[.int .i64 2] 3)).heap.size)) (And.intro (show KeepTwo (w.heap.size + 1) (w.heap.size + 1 + 1) W _ from ⟨hs'.cell.trans hs.cell.symm, hn'.cell.trans hn.cell.symm⟩)
      (show LAt w 212 23 .u16 (w2 g) (.slice (some ⟨b, off + a, none⟩) (m * 2) (cap - a)) 2 ((pre ++ [x]).map Fin.val) _ from ⟨⟨_, b2, by simpa [nums] using b3⟩, hs', hn', (below_drew hbel).trans b5⟩))
    clear nb hs' hn' b4 b5 b3 hgrow
    simp only [List.length_map] at FIN
    simp only [w2] at hrun hva
    gi_wp2
    refine wpIn_region_any hmx ?_
    change wpAnyIn _ _ _ _ _ _ _ _ _ (World.drew _)
    refine wpAnyIn_ready (rs := [0, 1]) (by kernel_rfl) (by simp) ?_
    refine AllReadyIn.cons rfl (fun K hK => ?_) ?_
    ·
      go_simp; refine hK _ _ ?_; clear hK K
      refine wpAnyIn_ready (rs := [1]) (by kernel_rfl) (by simp) ?_
      refine AllReadyIn.cons rfl (fun K hK => ?_) AllReadyIn.nil
      go_simp; refine hK _ _ ?_; clear hK K
      refine wpAnyIn_ready (rs := [2]) (by kernel_rfl) (by simp) ?_
      refine AllReadyIn.cons rfl (fun K hK => ?_) AllReadyIn.nil
      gi_wp2_with (refine ⟨trivial, ?_⟩; gi_at_call 172; refine (CallsIn.inRound l (callsIn_wide.2 (word16 b (off + a + x.val * 2) 2 _ _ W.drew h0 h1 (hg _).1 (hg _).2 (hg _).1 (hg _).2))).mono ?_; rintro e w2 ⟨rfl, rfl⟩)
      refine wpAnyIn_ready (rs := [3]) (by kernel_rfl) (by simp) ?_
      refine AllReadyIn.cons rfl (fun K hK => ?_) AllReadyIn.nil
      go_simp; refine hK _ _ ?_; clear hK K
      refine wpAnyIn_ready (rs := [4]) (by kernel_rfl) (by simp) ?_
      refine AllReadyIn.cons rfl (fun K hK => ?_) AllReadyIn.nil
      refine oper_append rfl _ _ _ _ _ rfl rfl rfl hrun ?_; refine hK _ _ ?_; clear hK K
      refine wpAnyIn_ready (rs := [5]) (by kernel_rfl) (by simp) ?_
      refine AllReadyIn.cons rfl (fun K hK => ?_) AllReadyIn.nil
      go_simp; refine hK _ _ ?_; clear hK K
      refine wpAnyIn_done (by kernel_rfl) ?_ _
      exact FIN
    refine AllReadyIn.cons rfl (fun K hK => ?_) ?_
    ·
      go_simp; refine hK _ _ ?_; clear hK K
      refine wpAnyIn_ready (rs := [0, 2]) (by kernel_rfl) (by simp) ?_
      refine AllReadyIn.cons rfl (fun K hK => ?_) ?_
      ·
        go_simp; refine hK _ _ ?_; clear hK K
        refine wpAnyIn_ready (rs := [2]) (by kernel_rfl) (by simp) ?_
        refine AllReadyIn.cons rfl (fun K hK => ?_) AllReadyIn.nil
        gi_wp2_with (refine ⟨trivial, ?_⟩; gi_at_call 172; refine (CallsIn.inRound l (callsIn_wide.2 (word16 b (off + a + x.val * 2) 2 _ _ W.drew h0 h1 (hg _).1 (hg _).2 (hg _).1 (hg _).2))).mono ?_; rintro e w2 ⟨rfl, rfl⟩)
        refine wpAnyIn_ready (rs := [3]) (by kernel_rfl) (by simp) ?_
        refine AllReadyIn.cons rfl (fun K hK => ?_) AllReadyIn.nil
        go_simp; refine hK _ _ ?_; clear hK K
        refine wpAnyIn_ready (rs := [4]) (by kernel_rfl) (by simp) ?_
        refine AllReadyIn.cons rfl (fun K hK => ?_) AllReadyIn.nil
        refine oper_append rfl _ _ _ _ _ rfl rfl rfl hrun ?_; refine hK _ _ ?_; clear hK K
        refine wpAnyIn_ready (rs := [5]) (by kernel_rfl) (by simp) ?_
        refine AllReadyIn.cons rfl (fun K hK => ?_) AllReadyIn.nil
        go_simp; refine hK _ _ ?_; clear hK K
        refine wpAnyIn_done (by kernel_rfl) ?_ _
        exact FIN
      refine AllReadyIn.cons rfl (fun K hK => ?_) ?_
      ·
        gi_wp2_with (refine ⟨trivial, ?_⟩; gi_at_call 172; refine (CallsIn.inRound l (callsIn_wide.2 (word16 b (off + a + x.val * 2) 2 _ _ W.drew h0 h1 (hg _).1 (hg _).2 (hg _).1 (hg _).2))).mono ?_; rintro e w2 ⟨rfl, rfl⟩)
        refine wpAnyIn_ready (rs := [0, 3]) (by kernel_rfl) (by simp) ?_
        refine AllReadyIn.cons rfl (fun K hK => ?_) ?_
        ·
          go_simp; refine hK _ _ ?_; clear hK K
          refine wpAnyIn_ready (rs := [3]) (by kernel_rfl) (by simp) ?_
          refine AllReadyIn.cons rfl (fun K hK => ?_) AllReadyIn.nil
          go_simp; refine hK _ _ ?_; clear hK K
          refine wpAnyIn_ready (rs := [4]) (by kernel_rfl) (by simp) ?_
          refine AllReadyIn.cons rfl (fun K hK => ?_) AllReadyIn.nil
          refine oper_append rfl _ _ _ _ _ rfl rfl rfl hrun ?_; refine hK _ _ ?_; clear hK K
          refine wpAnyIn_ready (rs := [5]) (by kernel_rfl) (by simp) ?_
          refine AllReadyIn.cons rfl (fun K hK => ?_) AllReadyIn.nil
          go_simp; refine hK _ _ ?_; clear hK K
          refine wpAnyIn_done (by kernel_rfl) ?_ _
          exact FIN
        refine AllReadyIn.cons rfl (fun K hK => ?_) ?_
        ·
          go_simp; refine hK _ _ ?_; clear hK K
          refine wpAnyIn_ready (rs := [0]) (by kernel_rfl) (by simp) ?_
          refine AllReadyIn.cons rfl (fun K hK => ?_) AllReadyIn.nil
          go_simp; refine hK _ _ ?_; clear hK K
          refine wpAnyIn_ready (rs := [4]) (by kernel_rfl) (by simp) ?_
          refine AllReadyIn.cons rfl (fun K hK => ?_) AllReadyIn.nil
          refine oper_append rfl _ _ _ _ _ rfl rfl rfl hrun ?_; refine hK _ _ ?_; clear hK K
          refine wpAnyIn_ready (rs := [5]) (by kernel_rfl) (by simp) ?_
          refine AllReadyIn.cons rfl (fun K hK => ?_) AllReadyIn.nil
          go_simp; refine hK _ _ ?_; clear hK K
          refine wpAnyIn_done (by kernel_rfl) ?_ _
          exact FIN
        exact AllReadyIn.nil
      exact AllReadyIn.nil
    exact AllReadyIn.nil
  case done =>
    rintro D xs W hD hxs ⟨⟨v, hv, hr⟩, hs, hn, hbel⟩ hK
    have hvc := hv.cell
    gi_wp2
    refine ⟨by simp, .inl ⟨_, _, rfl, run_takeDeferred hK, ?_⟩⟩
    have hll : (xs.map Fin.val).length = m := by rw [hxs, List.length_range]
    rw [hll, hxs] at hr
    exact ⟨_, results_tmp2 rfl _ _ _, v, rfl, ownsRow_putObj hr _ hK rfl, hbel.grown (grownBy_putObj' _ _ _) hbel.size (fun k e => by cases e; exact Nat.le_trans (by simp; omega) hD)⟩
  case stop =>
    rintro D c pre W _ _ h _
    exact h.elim
end Go.Proofs.Ytbpmjjbccaanfaa.Hd
