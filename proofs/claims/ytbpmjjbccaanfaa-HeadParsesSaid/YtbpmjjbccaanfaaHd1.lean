import Derived.Test.YtbpmjjbccaanfaaWWords
import Derived.Test.YtbpmjjbccaanfaaWLast
import Derived.Test.YtbpmjjbccaanfaaWMore
import Derived.WalkKit
import Derived.Test.YtbpmjjbccaanfaaProg
import Derived.Handy
import Derived.WalkLawsBesides
import Derived.WalkSpells
namespace Go.Proofs.Ytbpmjjbccaanfaa.Hd
open Go.RowKit Go.Proofs.YtbpmjjbccaanfaaW.PrintWords Go.Proofs.YtbpmjjbccaanfaaW.PrintLast Go.Proofs.YtbpmjjbccaanfaaW.PrintMore
set_option linter.unusedVariables false
set_option linter.unusedSimpArgs false
set_option maxHeartbeats 400000 in
theorem size32 (w : World) : Calls Try.prog 75 #[] w fun e w' => e = .returned (.int .i64 4) ∧ w = w' := by
  have hx : bits BinOp.xor IntKind.u32 IntKind.u32.max 0 = 4294967295 := by decide
  go_enter Try.func75, Try.ntmps75
  go_wp2
  go_rounds 5
  go_ret
  exact ⟨rfl, rfl⟩
set_option maxHeartbeats 400000 in
theorem size16 (w : World) : Calls Try.prog 136 #[] w fun e w' => e = .returned (.int .i64 2) ∧ w = w' := by
  have hx : bits BinOp.xor IntKind.u16 IntKind.u16.max 0 = 65535 := by decide
  go_enter Try.func136, Try.ntmps136
  go_wp2
  go_rounds 3
  go_ret
  exact ⟨rfl, rfl⟩
set_option maxHeartbeats 400000 in
theorem size8 (w : World) : Calls Try.prog 104 #[] w fun e w' => e = .returned (.int .i64 1) ∧ w = w' := by
  have hx : bits BinOp.xor IntKind.u8 IntKind.u8.max 0 = 255 := by decide
  go_enter Try.func104, Try.ntmps104
  go_wp2
  go_rounds 2
  go_ret
  exact ⟨rfl, rfl⟩
theorem info5 : (Try.prog.info? 5).map (fun i => (i.zero, i.size, i.bytes)) = some (some (.int .u8 0), 1, 1) := by kernel_rfl
theorem below_over {w W w2 : World} (k : Below W.heap.size W w2) (h : Below w.heap.size w W) : Below w.heap.size w w2 := below_then h h.size k
/-- a row of bytes of the call's own -/
def RowB (W : World) (base : Nat) (v : Value) (xs : List Int) : Prop := W.ownsRow base 5 1 v xs.length (nums .u8 xs)
def be4 (x : Int) : List Int := [x / 16777216, x / 65536 % 256, x / 256 % 256, x % 256]
def be2 (x : Int) : List Int := [x / 256, x % 256]
theorem RowB.drewN {W : World} {base : Nat} {v : Value} {xs : List Int} (h : RowB W base v xs) (n : Nat) : RowB (W.drewN n) base v xs := h
theorem RowB.below {W w1 : World} {base : Nat} {v : Value} {xs : List Int} (h : RowB W base v xs) (hb : Below W.heap.size W w1) : RowB w1 base v xs := pw_own_below h hb
theorem RowB.lower {W : World} {base b : Nat} {v : Value} {xs : List Int} (h : RowB W base v xs) (hb : b ≤ base) : RowB W b v xs := by
  obtain ⟨h1, h2⟩ := h
  refine ⟨h1, ?_⟩
  rcases h2 with ⟨rfl, h2⟩ | ⟨g, cap, cur, rfl, h3, h4⟩
  · exact .inl ⟨rfl, h2⟩
  · exact .inr ⟨g, cap, cur, rfl, Nat.le_trans hb h3, h4⟩
set_option maxRecDepth 100000 in
set_option maxHeartbeats 1000000 in
theorem clone (A : Option Addr) (c : Nat) (bs : List Int) (w : World) (hr : ReadsInt w .u8 A bs.length bs) (hl : bs.length ≤ 140737488355328) (hA : A = none → bs = [] ∧ c = 0) :
    Calls Try.prog 94 #[.slice A bs.length c] w fun e w' => ∃ v, e = .returned v ∧ RowB w' w.heap.size v bs ∧ Below w.heap.size w w' := by
  have hq := fun W => Lib.run_eql_slice_nil (P := Try.prog) W 32 5 A bs.length c 0 0 Try.underlying32
  rcases A with _ | ad
  · obtain ⟨rfl, rfl⟩ := hA rfl
    simp only [List.length_nil, Option.isNone_none] at hq
    go_enter Try.func94, Try.ntmps94
    go_wp2
    go_ret
    exact ⟨_, rfl, own_nil _ _ _ _, Below.refl _ _⟩
  · clear hA
    simp only [Option.isNone_some] at hq
    have hr' := Aside0.mk hr
    clear hr
    go_enter Try.func94, Try.ntmps94
    go_wp2_with (first | (at_builtin; refine print_append_row (w0 := w) w.heap.size rfl _ _ 32 5 .u8 1 rfl Try.underlying32 info5 (by decide) _ [] bs _ _ _ rfl rfl ?hO ?hR ?hB ?hbase ?hl ?_; (case hO => exact own_lit w w.heap.size 5 .u8 [] (Nat.le_refl _) (by simp)); (case hR => exact hr'.out.below (below_alloc (Below.refl _ _) _)); (case hB => exact below_alloc (Below.refl _ _) _); (case hbase => simp); (case hl => simp; omega); intro v1 w1 ho hb hg hat))
    go_ret
    exact ⟨_, rfl, (by simpa using ho : w1.ownsRow w.heap.size 5 1 v1 bs.length (nums .u8 bs)), hb⟩
theorem app_num {ops : Array Oper} {rest : List Oper} {o : Oper} {a : Act} {Q : Exit → Act → World → Prop} {w0 W : World} {v : Value} {xs : List Int} {y : Int} (HO : Aside0 (RowB W w0.heap.size v xs)) (HB : Aside0 (Below w0.heap.size w0 W)) (hgd : o.guard = none) (s x : Operand)
    (ho : o.op = .call { callee := .builtin .append, args := #[s, x], argTypes := #[32, 32] }) (hs : a.eval s = v) (hx : a.eval x = .slice (some ⟨W.heap.size, 0, none⟩) 1 1) (hl : xs.length + 1 ≤ 140737488355328)
    (h : ∀ v1 w1, Aside0 (RowB w1 w0.heap.size v1 (xs ++ [y])) → Aside0 (Below w0.heap.size w0 w1) → Aside0 (W.grownBy w1 v.ownBlock) → wpList Try.prog ops Q rest (a.put o.dst v1) w1) :
    wpList Try.prog ops Q (o :: rest) a (W.alloc (.cells #[.int .u8 y] 5)) :=
  print_append_num w0.heap.size hgd s x 32 5 .u8 1 ho Try.underlying32 info5 (by decide) v xs y hs hx HO.out HB.out HB.out.size (by omega) fun v1 w1 a b c _ => h v1 w1 ⟨a⟩ ⟨b⟩ ⟨c⟩
/-- the words' bytes, the highest first -/
def be4s : List Int → List Int
  | [] => []
  | x :: r => be4 x ++ be4s r
theorem be4s_length (l : List Int) : (be4s l).length = 4 * l.length := by
  induction l with
  | nil => rfl
  | cons x r ih => simp only [be4s, List.length_append, ih, be4, List.length_cons, List.length_nil]; omega
theorem be4s_take (l : List Int) (k : Nat) (h : k < l.length) : be4s (l.take (k + 1)) = be4s (l.take k) ++ be4 (l.getD k 0) := by
  induction l generalizing k with
  | nil => simp at h
  | cons x r ih =>
    cases k with
    | zero => simp [be4s]
    | succ k =>
      have := ih k (by simpa using h)
      simp only [List.take_succ_cons, be4s, this, List.append_assoc, List.getD_cons_succ]
set_option maxRecDepth 100000 in
set_option maxHeartbeats 4000000 in
theorem put32 (A0 : Option Addr) (c0 : Nat) (bs : List Int) (A1 : Option Addr) (c1 : Nat) (ws : List Int) (w : World) (hr : ReadsInt w .u8 A0 bs.length bs) (hs : ReadsInt w .u32 A1 ws.length ws)
    (hl : bs.length + 4 * ws.length ≤ 140737488355328) (hA : A0 = none → bs = [] ∧ c0 = 0) (hw : ∀ j, 0 ≤ ws.getD j 0 ∧ ws.getD j 0 ≤ 4294967295) :
    Calls Try.prog 92 #[.slice A0 bs.length c0, .slice A1 ws.length c1] w fun e w' => ∃ v, e = .returned v ∧ RowB w' w.heap.size v (bs ++ be4s ws) ∧ Below w.heap.size w w' := by
  have hs' := Aside0.mk hs
  clear hs
  have cl := fun W => clone A0 c0 bs W
  go_enter Try.func92, Try.ntmps92
  go_wp2_with (first | (go_at_call 75; refine (size32 _).mono ?_; rintro e w' ⟨rfl, rfl⟩) | (go_at_call 94; refine (clone A0 c0 bs _ hr (by omega) hA).mono ?_; rintro e w1 ⟨v, rfl, ho, hb⟩; have HO := Aside0.mk ho; have HB := Aside0.mk hb; clear ho hb cl hr))
  go_loopw [6, 15] (fun v i wr => ∃ k : Nat, k ≤ ws.length ∧ i = .int .i64 k ∧ Aside0 (RowB wr w.heap.size v (bs ++ be4s (ws.take k))) ∧ Aside0 (Below w.heap.size w wr)) (fun _ i _ => ws.length - (intOf i).toNat)
  case atStart => exact ⟨0, Nat.zero_le _, rfl, ⟨by simpa [be4s] using HO.out⟩, HB⟩
  case round =>
    clear HO HB
    obtain ⟨k, hk, rfl, HO, HB⟩ := hrel
    by_cases hlt : k < ws.length
    · obtain ⟨ad, rfl, hcA⟩ := (hs'.out.below HB.out).2.2 (by omega)
      have hc := hcA k hlt
      clear hcA
      obtain ⟨x0, x1⟩ := hw k
      have htk := Aside0.mk (be4s_take ws k hlt)
      generalize ws.getD k 0 = x at hc x0 x1 htk
      clear hw hA
      have hwx : IntKind.u64.wrap x = x := by rw [IntKind.wrap_u64]; omega
      go_wp2
      refine wp_loop_rounds 5 ?_
      rw [rounds_succ]
      go_wp2_with (first | (at_builtin; refine app_num HO HB rfl _ _ rfl rfl rfl ?_ ?_; (simp [be4s_length]; omega); intro v1 w1 ho hb hg; clear HO HB hg; have HO := ho; have HB := hb; clear ho hb))
      rw [rounds_succ]
      go_wp2_with (first | (at_builtin; refine app_num HO HB rfl _ _ rfl rfl rfl ?_ ?_; (simp [be4s_length]; omega); intro v1 w1 ho hb hg; clear HO HB hg; have HO := ho; have HB := hb; clear ho hb))
      rw [rounds_succ]
      go_wp2_with (first | (at_builtin; refine app_num HO HB rfl _ _ rfl rfl rfl ?_ ?_; (simp [be4s_length]; omega); intro v1 w1 ho hb hg; clear HO HB hg; have HO := ho; have HB := hb; clear ho hb))
      rw [rounds_succ]
      go_wp2_with (first | (at_builtin; refine app_num HO HB rfl _ _ rfl rfl rfl ?_ ?_; (simp [be4s_length]; omega); intro v1 w1 ho hb hg; clear HO HB hg; have HO := ho; have HB := hb; clear ho hb))
      rw [rounds_succ]
      go_wp2
      go_roundw
      case rel => exact ⟨k + 1, by omega, by go_num, ⟨by rw [htk.out]; simpa [be4] using HO.out⟩, HB⟩
      case measure => simp [intOf]; omega
    · have : k = ws.length := by omega
      subst this
      go_wp2
      go_ret
      exact ⟨_, rfl, by simpa using HO.out, HB.out⟩
/-- the words' bytes, the highest first -/
def be2s : List Int → List Int
  | [] => []
  | x :: r => be2 x ++ be2s r
theorem be2s_length (l : List Int) : (be2s l).length = 2 * l.length := by
  induction l with
  | nil => rfl
  | cons x r ih => simp only [be2s, List.length_append, ih, be2, List.length_cons, List.length_nil]; omega
theorem be2s_take (l : List Int) (k : Nat) (h : k < l.length) : be2s (l.take (k + 1)) = be2s (l.take k) ++ be2 (l.getD k 0) := by
  induction l generalizing k with
  | nil => simp at h
  | cons x r ih =>
    cases k with
    | zero => simp [be2s]
    | succ k =>
      have := ih k (by simpa using h)
      simp only [List.take_succ_cons, be2s, this, List.append_assoc, List.getD_cons_succ]
set_option maxRecDepth 100000 in
set_option maxHeartbeats 4000000 in
theorem put16 (A0 : Option Addr) (c0 : Nat) (bs : List Int) (A1 : Option Addr) (c1 : Nat) (ws : List Int) (w : World) (hr : ReadsInt w .u8 A0 bs.length bs) (hs : ReadsInt w .u16 A1 ws.length ws)
    (hl : bs.length + 2 * ws.length ≤ 140737488355328) (hA : A0 = none → bs = [] ∧ c0 = 0) (hw : ∀ j, 0 ≤ ws.getD j 0 ∧ ws.getD j 0 ≤ 65535) :
    Calls Try.prog 91 #[.slice A0 bs.length c0, .slice A1 ws.length c1] w fun e w' => ∃ v, e = .returned v ∧ RowB w' w.heap.size v (bs ++ be2s ws) ∧ Below w.heap.size w w' := by
  have hs' := Aside0.mk hs
  clear hs
  have cl := fun W => clone A0 c0 bs W
  go_enter Try.func91, Try.ntmps91
  go_wp2_with (first | (go_at_call 136; refine (size16 _).mono ?_; rintro e w' ⟨rfl, rfl⟩) | (go_at_call 94; refine (clone A0 c0 bs _ hr (by omega) hA).mono ?_; rintro e w1 ⟨v, rfl, ho, hb⟩; have HO := Aside0.mk ho; have HB := Aside0.mk hb; clear ho hb cl hr))
  go_loopw [6, 15] (fun v i wr => ∃ k : Nat, k ≤ ws.length ∧ i = .int .i64 k ∧ Aside0 (RowB wr w.heap.size v (bs ++ be2s (ws.take k))) ∧ Aside0 (Below w.heap.size w wr)) (fun _ i _ => ws.length - (intOf i).toNat)
  case atStart => exact ⟨0, Nat.zero_le _, rfl, ⟨by simpa [be2s] using HO.out⟩, HB⟩
  case round =>
    clear HO HB
    obtain ⟨k, hk, rfl, HO, HB⟩ := hrel
    by_cases hlt : k < ws.length
    · obtain ⟨ad, rfl, hcA⟩ := (hs'.out.below HB.out).2.2 (by omega)
      have hc := hcA k hlt
      clear hcA
      obtain ⟨x0, x1⟩ := hw k
      have htk := Aside0.mk (be2s_take ws k hlt)
      generalize ws.getD k 0 = x at hc x0 x1 htk
      clear hw hA
      have hwx : IntKind.u64.wrap x = x := by rw [IntKind.wrap_u64]; omega
      go_wp2
      refine wp_loop_rounds 3 ?_
      rw [rounds_succ]
      go_wp2_with (first | (at_builtin; refine app_num HO HB rfl _ _ rfl rfl rfl ?_ ?_; (simp [be2s_length]; omega); intro v1 w1 ho hb hg; clear HO HB hg; have HO := ho; have HB := hb; clear ho hb))
      rw [rounds_succ]
      go_wp2_with (first | (at_builtin; refine app_num HO HB rfl _ _ rfl rfl rfl ?_ ?_; (simp [be2s_length]; omega); intro v1 w1 ho hb hg; clear HO HB hg; have HO := ho; have HB := hb; clear ho hb))
      rw [rounds_succ]
      go_wp2
      go_roundw
      case rel => exact ⟨k + 1, by omega, by go_num, ⟨by rw [htk.out]; simpa [be2] using HO.out⟩, HB⟩
      case measure => simp [intOf]; omega
    · have : k = ws.length := by omega
      subst this
      go_wp2
      go_ret
      exact ⟨_, rfl, by simpa using HO.out, HB.out⟩

theorem reads_lit (W : World) (k : IntKind) (xs : List Int) (e : TypeId) (g : Nat) (hg : g = W.heap.size) (hm : xs.length ≤ 9223372036854775807) :
    ReadsInt (W.alloc (.cells (nums k xs).toArray e)) k (some ⟨g, 0, none⟩) xs.length xs := by
  subst hg
  obtain ⟨A, c, h1, h2⟩ := own_reads (own_lit W W.heap.size e k xs (Nat.le_refl _) hm)
  cases h1
  exact h2
set_option maxRecDepth 100000 in
set_option maxHeartbeats 1000000 in
theorem bytes8 (a b : Int) (w : World) (a0 : 0 ≤ a) (a1 : a ≤ 4294967295) (b0 : 0 ≤ b) (b1 : b ≤ 4294967295) :
    Calls Try.prog 49 #[.agg #[.int .u32 a, .int .u32 b]] w fun e w' => ∃ v, e = .returned v ∧ RowB w' w.heap.size v (be4 a ++ be4 b) ∧ Below w.heap.size w w' := by
  go_enter Try.func49, Try.ntmps49
  go_wp2_with (fail)
  refine (put32 none 0 [] _ 2 [a, b] _ ⟨rfl, by simp, fun h => absurd h (Nat.lt_irrefl 0)⟩ (reads_lit _ .u32 [a, b] 27 _ (by simp) (by simp)) (by simp) (fun _ => ⟨rfl, rfl⟩) ?_).mono ?_
  · intro j
    match j with
    | 0 => exact ⟨a0, a1⟩
    | 1 => exact ⟨b0, b1⟩
    | j + 2 => simp
  · rintro e w1 ⟨v, rfl, ho, hb⟩
    go_wp2
    go_ret
    refine ⟨_, rfl, ?_, below_over hb (below_alloc (below_alloc (Below.refl _ _) _) _)⟩
    have ho2 := RowB.lower (b := w.heap.size) ho (by simp; omega)
    simpa [be4s] using ho2
set_option maxRecDepth 100000 in
set_option maxHeartbeats 1000000 in
theorem bytes4 (a b : Int) (w : World) (a0 : 0 ≤ a) (a1 : a ≤ 65535) (b0 : 0 ≤ b) (b1 : b ≤ 65535) :
    Calls Try.prog 47 #[.agg #[.int .u16 a, .int .u16 b]] w fun e w' => ∃ v, e = .returned v ∧ RowB w' w.heap.size v (be2 a ++ be2 b) ∧ Below w.heap.size w w' := by
  go_enter Try.func47, Try.ntmps47
  go_wp2_with (fail)
  refine (put16 none 0 [] _ 2 [a, b] _ ⟨rfl, by simp, fun h => absurd h (Nat.lt_irrefl 0)⟩ (reads_lit _ .u16 [a, b] 23 _ (by simp) (by simp)) (by simp) (fun _ => ⟨rfl, rfl⟩) ?_).mono ?_
  · intro j
    match j with
    | 0 => exact ⟨a0, a1⟩
    | 1 => exact ⟨b0, b1⟩
    | j + 2 => simp
  · rintro e w1 ⟨v, rfl, ho, hb⟩
    go_wp2
    go_ret
    refine ⟨_, rfl, ?_, below_over hb (below_alloc (below_alloc (Below.refl _ _) _) _)⟩
    have ho2 := RowB.lower (b := w.heap.size) ho (by simp; omega)
    simpa [be2s] using ho2

theorem or_u64 (n x : Int) (h0 : 0 ≤ n) (h1 : n ≤ 72057594037927935) (x0 : 0 ≤ x) (x1 : x ≤ 255) : bits .or .u64 (n * 256) x = n * 256 + x :=
  bits_join .u64 64 (by decide) (fun n h0 h1 => by rw [IntKind.wrap_u64]; omega) 8 (n * 256) x (by omega) (by omega) (by omega) x0 (by omega) (by omega)
theorem val4 (a b c d : Int) (a0 : 0 ≤ a) (a1 : a ≤ 255) (b0 : 0 ≤ b) (b1 : b ≤ 255) (c0 : 0 ≤ c) (c1 : c ≤ 255) (d0 : 0 ≤ d) (d1 : d ≤ 255) :
    bits BinOp.or IntKind.u64 (IntKind.u64.wrap (bits BinOp.or IntKind.u64 (IntKind.u64.wrap (bits BinOp.or IntKind.u64 (IntKind.u64.wrap (bits BinOp.or IntKind.u64 0 a * 256)) b * 256)) c * 256)) d % 4294967296 = a * 16777216 + b * 65536 + c * 256 + d := by
  have e0 : bits BinOp.or IntKind.u64 0 a = a := by have := or_u64 0 a (by omega) (by omega) a0 a1; simpa using this
  rw [e0]
  rw [show IntKind.u64.wrap (a * 256) = a * 256 by rw [IntKind.wrap_u64]; omega, or_u64 a b (by omega) (by omega) b0 b1]
  rw [show IntKind.u64.wrap ((a * 256 + b) * 256) = (a * 256 + b) * 256 by rw [IntKind.wrap_u64]; omega, or_u64 _ c (by omega) (by omega) c0 c1]
  rw [show IntKind.u64.wrap (((a * 256 + b) * 256 + c) * 256) = ((a * 256 + b) * 256 + c) * 256 by rw [IntKind.wrap_u64]; omega, or_u64 _ d (by omega) (by omega) d0 d1]
  omega
theorem val2 (a b : Int) (a0 : 0 ≤ a) (a1 : a ≤ 255) (b0 : 0 ≤ b) (b1 : b ≤ 255) :
    IntKind.u16.wrap (bits BinOp.or IntKind.u64 (IntKind.u64.wrap (bits BinOp.or IntKind.u64 0 a * 256)) b) = a * 256 + b := by
  have e0 : bits BinOp.or IntKind.u64 0 a = a := by have := or_u64 0 a (by omega) (by omega) a0 a1; simpa using this
  rw [e0]
  rw [show IntKind.u64.wrap (a * 256) = a * 256 by rw [IntKind.wrap_u64]; omega, or_u64 a b (by omega) (by omega) b0 b1, IntKind.wrap_u16]
  omega
theorem val1 (a : Int) (a0 : 0 ≤ a) (a1 : a ≤ 255) : bits BinOp.or IntKind.u64 0 a = a := by have := or_u64 0 a (by omega) (by omega) a0 a1; simpa using this
set_option maxHeartbeats 1000000 in
theorem word32 (bl o cap : Nat) (a b c d : Int) (w : World) (h0 : w.cell? ⟨bl, o, none⟩ = some (.int .u8 a)) (h1 : w.cell? ⟨bl, o + 1, none⟩ = some (.int .u8 b)) (h2 : w.cell? ⟨bl, o + 2, none⟩ = some (.int .u8 c)) (h3 : w.cell? ⟨bl, o + 3, none⟩ = some (.int .u8 d))
   (a0 : 0 ≤ a) (a1 : a ≤ 255) (b0 : 0 ≤ b) (b1 : b ≤ 255) (c0 : 0 ≤ c) (c1 : c ≤ 255) (d0 : 0 ≤ d) (d1 : d ≤ 255) :
    Calls Try.prog 107 #[.slice (some ⟨bl, o, none⟩) 4 cap] w fun e w' => e = .returned (.int .u32 (a * 16777216 + b * 65536 + c * 256 + d)) ∧ w = w' := by
  have V := Aside0.mk (val4 a b c d a0 a1 b0 b1 c0 c1 d0 d1)
  go_enter Try.func107, Try.ntmps107
  go_wp2
  go_rounds 5
  go_ret
  exact ⟨congrArg (fun z => Ending.returned (Value.int _ z)) V.out, rfl⟩
set_option maxHeartbeats 1000000 in
theorem word16 (bl o cap : Nat) (a b : Int) (w : World) (h0 : w.cell? ⟨bl, o, none⟩ = some (.int .u8 a)) (h1 : w.cell? ⟨bl, o + 1, none⟩ = some (.int .u8 b)) 
   (a0 : 0 ≤ a) (a1 : a ≤ 255) (b0 : 0 ≤ b) (b1 : b ≤ 255) :
    Calls Try.prog 172 #[.slice (some ⟨bl, o, none⟩) 2 cap] w fun e w' => e = .returned (.int .u16 (a * 256 + b)) ∧ w = w' := by
  have V := Aside0.mk (val2 a b a0 a1 b0 b1)
  go_enter Try.func172, Try.ntmps172
  go_wp2
  go_rounds 3
  go_ret
  exact ⟨congrArg (fun z => Ending.returned (Value.int _ z)) V.out, rfl⟩
set_option maxHeartbeats 1000000 in
theorem word8 (bl o cap : Nat) (a : Int) (w : World) (h0 : w.cell? ⟨bl, o, none⟩ = some (.int .u8 a)) (a0 : 0 ≤ a) (a1 : a ≤ 255) :
    Calls Try.prog 105 #[.slice (some ⟨bl, o, none⟩) 1 cap] w fun e w' => e = .returned (.int .u8 a) ∧ w = w' := by
  have V := Aside0.mk (val1 a a0 a1)
  go_enter Try.func105, Try.ntmps105
  go_wp2
  go_rounds 2
  go_ret
  exact ⟨congrArg (fun z => Ending.returned (Value.int _ z)) (by rw [V.out]; omega), rfl⟩
end Go.Proofs.Ytbpmjjbccaanfaa.Hd
