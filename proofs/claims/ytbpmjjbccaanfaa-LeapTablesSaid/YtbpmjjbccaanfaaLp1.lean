import Derived.Test.YtbpmjjbccaanfaaDy3
namespace Go.Proofs.Ytbpmjjbccaanfaa.Lp
open Go.RowKit Go.Proofs.YtbpmjjbccaanfaaW.PrintWords Go.Proofs.YtbpmjjbccaanfaaW.PrintLast Go.Proofs.YtbpmjjbccaanfaaW.PrintMore Go.Proofs.Ytbpmjjbccaanfaa.Dy
set_option linter.unusedVariables false
set_option linter.unusedSimpArgs false
theorem below_over {w W w2 : World} (k : Below W.heap.size W w2) (h : Below w.heap.size w W) : Below w.heap.size w w2 := below_then h h.size k
/-- a row of a table: a day, an offset -/
structure Rw where
  d : Int
  o : Int
def kRw : Kd Rw := Kd.iso (Kd.pair (Kd.int .i64) (Kd.int .i64)) (fun x : Rw => (x.d, x.o))
theorem kRw_open {w : World} {x : Rw} {cs : List Value} (h : kRw.K w x cs) : cs = [.int .i64 x.d, .int .i64 x.o] := by
  obtain ⟨_, _, rfl, rfl, rfl⟩ := h
  exact rfl
theorem kRw_openM {w : World} {base : Nat} {ok : Nat → Prop} {x : Rw} {cs : List Value} (h : kRw.M w base ok x cs) : cs = [.int .i64 x.d, .int .i64 x.o] := by
  obtain ⟨_, _, rfl, rfl, rfl⟩ := h
  exact rfl
theorem kRw_mk (w : World) (x : Rw) : kRw.K w x [.int .i64 x.d, .int .i64 x.o] := ⟨[.int .i64 x.d], [.int .i64 x.o], rfl, rfl, rfl⟩
theorem kRw_mkM (w : World) (base : Nat) (ok : Nat → Prop) (x : Rw) : kRw.M w base ok x [.int .i64 x.d, .int .i64 x.o] := ⟨[.int .i64 x.d], [.int .i64 x.o], rfl, rfl, rfl⟩
def rdR (xs : List Rw) (i : Nat) : Rw := xs.getD i ⟨0, 0⟩
theorem at_Rw {w : World} {A : Option Addr} {n : Nat} {xs : List Rw} (h : Kd.C kRw w A n xs) (i : Nat) (h1 : i < n) : ∃ ad, A = some ad ∧ w.cell? (ad.add (i * 2)) = some (.int .i64 (rdR xs i).d) ∧ w.cell? ⟨(ad.add (i * 2)).block, (ad.add (i * 2)).off + 1, none⟩ = some (.int .i64 (rdR xs i).o) := by
  obtain ⟨ad, c, e, _, hK, hc0⟩ := Kd.C_get h ⟨0, 0⟩ (i : Int) (by omega) (by omega)
  have hc : ∀ j u, c[j]? = some u → w.cell? (ad.add (i * 2 + j)) = some u := hc0
  obtain rfl := kRw_open hK
  exact ⟨ad, e, hc 0 _ rfl, by rw [← add_field _ _ 1 (by omega)]; exact hc 1 _ rfl⟩
/-- rows that came in, or were made: where they lie -/
structure RowsAt (w : World) (A : Option Addr) (c : Nat) (xs : List Rw) : Prop where
  reads : Kd.C kRw w A xs.length xs
  le : xs.length ≤ c
  cap : c ≤ 9223372036854775807
  nil : A = none → xs = [] ∧ c = 0
theorem RowsAt.below {w w1 : World} {A : Option Addr} {c : Nat} {xs : List Rw} (h : RowsAt w A c xs) (hb : Below w.heap.size w w1) : RowsAt w1 A c xs := ⟨Kd.C_below h.reads hb, h.le, h.cap, h.nil⟩
/-- rows of the call's own -/
def OwnsR (e : Nat) (w : World) (base : Nat) (v : Value) (xs : List Rw) : Prop := Kd.R kRw e w base (fun _ => True) v xs
theorem OwnsR.below {e : Nat} {w w1 : World} {base : Nat} {v : Value} {xs : List Rw} (h : OwnsR e w base v xs) (hb : Below w.heap.size w w1) : OwnsR e w1 base v xs := Kd.R_below h hb
theorem R_empty (W : World) (base e : Nat) (hb : base ≤ W.heap.size) : OwnsR e (W.alloc (.cells #[] e)) base (.slice (some ⟨W.heap.size, 0, none⟩) 0 0) [] :=
  ⟨fun _ _ => trivial, OwnRow.lit W base (Reps.none _ _) hb (by simp)⟩
theorem rows_plain {w : World} {A : Option Addr} {n : Nat} {xs : List Rw} (h : Kd.C kRw w A n xs) : ReadsRow (fun (x : Rw) cs => cs = [.int .i64 x.d, .int .i64 x.o]) kRw.sz w A n xs :=
  ReadsRow.imp_ h (Below.refl _ _) (fun _ _ hp => kRw_open hp)
theorem info64 : (Try.prog.info? 64).map (fun i => (i.zero, i.size, i.bytes)) = some (some (.agg #[.int .i64 0, .int .i64 0]), 2, 16) := by kernel_rfl
set_option maxRecDepth 100000 in
set_option maxHeartbeats 1000000 in
theorem rclone (A : Option Addr) (c : Nat) (xs : List Rw) (w : World) (hr : RowsAt w A c xs) (hl : xs.length ≤ 100000) :
    Calls Try.prog 62 #[.slice A xs.length c] w fun e w' => ∃ v, e = .returned v ∧ OwnsR 64 w' w.heap.size v xs ∧ Below w.heap.size w w' := by
  have hq := fun W => Lib.run_eql_slice_nil (P := Try.prog) W 49 64 A xs.length c 0 0 Try.underlying49
  rcases A with _ | ad
  · obtain ⟨rfl, rfl⟩ := hr.nil rfl
    simp only [List.length_nil, Option.isNone_none] at hq
    go_enter Try.func62, Try.ntmps62
    go_wp2
    go_ret
    exact ⟨_, rfl, Kd.R_nil _ _ _ _ _, Below.refl _ _⟩
  · simp only [Option.isNone_some] at hq
    have hr' := Aside0.mk hr
    clear hr
    go_enter Try.func62, Try.ntmps62
    go_wp2_with (first | (at_builtin; refine Kd.R_append_rows kRw (Rr := fun x cs => cs = [.int .i64 x.d, .int .i64 x.o]) (w0 := w) w.heap.size rfl _ _ 49 64 (.agg #[.int .i64 0, .int .i64 0]) 16 rfl Try.underlying49 info64 rfl (by decide) (by decide) _ [] xs _ _ _ (fun _ => True) (fun k => False) rfl rfl ?hO ?hR ?hKM (fun k hk => hk.elim) (fun _ _ => trivial) ?hB ?hbase ?hl ?_; (case hO => exact R_empty w w.heap.size _ (Nat.le_refl _)); (case hR => exact rows_plain (hr'.out.below (below_alloc (Below.refl _ _) _)).reads); (case hKM => rintro x cs rfl; exact kRw_mkM _ _ _ _); (case hB => exact below_alloc (Below.refl _ _) _); (case hbase => simp); (case hl => simp; omega); intro v1 w1 ho hb hg hat))
    go_ret
    exact ⟨_, rfl, ho, hb⟩
end Go.Proofs.Ytbpmjjbccaanfaa.Lp
