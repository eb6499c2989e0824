/- Days and dates, in plain arithmetic. -/
namespace Cal
/-- leap years -/
def lp (y : Int) : Int := if y % 4 = 0 ∧ (y % 100 ≠ 0 ∨ y % 400 = 0) then 1 else 0
/-- days ahead of the 1 January of a year -/
def start (y : Int) : Int := 365 * (y - 1970) + ((y - 1) / 4 - (y - 1) / 100 + (y - 1) / 400) - 477
theorem start_succ (y : Int) : start (y + 1) = start y + 365 + lp y := by
  unfold start lp; split <;> omega
theorem lp_01 (y : Int) : 0 ≤ lp y ∧ lp y ≤ 1 := by unfold lp; split <;> omega
theorem start_mono {a b : Int} (h : a ≤ b) : start a ≤ start b := by unfold start; omega
theorem start_lt {a b : Int} (h : a < b) : start a < start b := by
  have := start_mono (a := a + 1) (b := b) (by omega)
  have h1 := start_succ a
  have h2 := lp_01 a
  omega
/-- the days of a month -/
def mdays (y m : Int) : Int := if m = 2 then 28 + lp y else if m = 4 ∨ m = 6 ∨ m = 9 ∨ m = 11 then 30 else 31
/-- the days of a year ahead of a month -/
def cum (y m : Int) : Int :=
  if m ≤ 1 then 0 else if m = 2 then 31 else
  (if m = 3 then 59 else if m = 4 then 90 else if m = 5 then 120 else if m = 6 then 151 else if m = 7 then 181 else if m = 8 then 212 else if m = 9 then 243 else if m = 10 then 273 else if m = 11 then 304 else if m = 12 then 334 else 365) + lp y
theorem cum_succ (y m : Int) (h : 1 ≤ m) (h2 : m ≤ 12) : cum y (m + 1) = cum y m + mdays y m := by
  have : m = 1 ∨ m = 2 ∨ m = 3 ∨ m = 4 ∨ m = 5 ∨ m = 6 ∨ m = 7 ∨ m = 8 ∨ m = 9 ∨ m = 10 ∨ m = 11 ∨ m = 12 := by omega
  rcases this with rfl|rfl|rfl|rfl|rfl|rfl|rfl|rfl|rfl|rfl|rfl|rfl <;> simp [cum, mdays] <;> omega
theorem mdays_lo (y m : Int) : 28 ≤ mdays y m ∧ mdays y m ≤ 31 := by have := lp_01 y; unfold mdays; repeat' split
                                                                     all_goals omega
theorem cum_13 (y : Int) : cum y 13 = 365 + lp y := by simp [cum]
theorem cum_1 (y : Int) : cum y 1 = 0 := by simp [cum]
theorem cum_add (y m : Int) (h : 1 ≤ m) : ∀ n : Nat, m + n ≤ 13 → cum y m + 28 * n ≤ cum y (m + n) := by
  intro n
  induction n with
  | zero => intro _; simp
  | succ n ih =>
    intro hn
    have a := ih (by omega)
    have b := cum_succ y (m + n) (by omega) (by omega)
    have c := mdays_lo y (m + n)
    rw [show m + ((n + 1 : Nat) : Int) = m + n + 1 from by omega, b]
    omega
theorem cum_mono (y m k : Int) (h : 1 ≤ m) (hk : m ≤ k) (h2 : k ≤ 13) : cum y m ≤ cum y k := by
  have := cum_add y m h (k - m).toNat (by omega)
  rw [show m + ((k - m).toNat : Int) = k from by omega] at this
  omega
theorem cum_lo (y m : Int) (h : 1 ≤ m) (h2 : m ≤ 13) : 0 ≤ cum y m := by
  have := cum_mono y 1 m (by omega) h h2
  rw [cum_1] at this
  exact this
/-- a date's number -/
def num (y m d : Int) : Int := start y + cum y m + d - 1
def Valid (y m d : Int) : Prop := 1 ≤ m ∧ m ≤ 12 ∧ 1 ≤ d ∧ d ≤ mdays y m
theorem num_in {y m d : Int} (h : Valid y m d) : start y ≤ num y m d ∧ num y m d < start (y + 1) := by
  obtain ⟨h1, h2, h3, h4⟩ := h
  have a := cum_lo y m h1 (by omega)
  have b := cum_succ y m h1 h2
  have c := cum_mono y (m + 1) 13 (by omega) (by omega) (by omega)
  have e := cum_13 y
  have f := start_succ y
  unfold num; omega
theorem num_inj {y m d y' m' d' : Int} (h : Valid y m d) (h' : Valid y' m' d') (e : num y m d = num y' m' d') : y = y' ∧ m = m' ∧ d = d' := by
  have a := num_in h
  have b := num_in h'
  have hy : y = y' := by
    rcases Int.lt_trichotomy y y' with k | k | k
    · have := start_mono (a := y + 1) (b := y') (by omega); omega
    · exact k
    · have := start_mono (a := y' + 1) (b := y) (by omega); omega
  subst hy
  obtain ⟨h1, h2, h3, h4⟩ := h
  obtain ⟨g1, g2, g3, g4⟩ := h'
  have c := cum_succ y m h1 h2
  have c' := cum_succ y m' g1 g2
  have hm : m = m' := by
    unfold num at e
    rcases Int.lt_trichotomy m m' with k | k | k
    · have := cum_mono y (m + 1) m' (by omega) (by omega) (by omega); omega
    · exact k
    · have := cum_mono y (m' + 1) m (by omega) (by omega) (by omega); omega
  subst hm
  unfold num at e
  exact ⟨rfl, rfl, by omega⟩
/-- the program's own way: years that begin in March -/
def hin (y m d : Int) : Int :=
  let y' := if m ≤ 2 then y - 1 else y
  let m' := if m ≤ 2 then m + 12 else m
  let era := y' / 400
  let of := y' - era * 400
  era * 146097 + of * 365 + of / 4 - of / 100 + ((153 * (m' - 3) + 2) / 5 + d - 1) - 719468
theorem hin_eq (y m d : Int) (h : 1 ≤ m) (h2 : m ≤ 12) : hin y m d = num y m d := by
  have : m = 1 ∨ m = 2 ∨ m = 3 ∨ m = 4 ∨ m = 5 ∨ m = 6 ∨ m = 7 ∨ m = 8 ∨ m = 9 ∨ m = 10 ∨ m = 11 ∨ m = 12 := by omega
  unfold hin num start
  rcases this with rfl|rfl|rfl|rfl|rfl|rfl|rfl|rfl|rfl|rfl|rfl|rfl <;> simp [cum, lp] <;> (try split) <;> omega
/-- one place of the 400 years -/
def okDoe (doe : Nat) : Bool :=
  let of := (doe - doe / 1460 + doe / 36524 - doe / 146096) / 365
  let rest := doe - (365 * of + of / 4 - of / 100)
  146097 ≤ doe || 365 * of + of / 4 - of / 100 ≤ doe && of ≤ 399 && (rest ≤ 364 || (rest == 365 && (of + 1) % 4 == 0 && ((of + 1) % 100 != 0 || (of + 1) % 400 == 0)))
def allBelow (p : Nat → Bool) : Nat → Bool
  | 0 => true
  | n + 1 => p n && allBelow p n
theorem allBelow_spec (p : Nat → Bool) : ∀ n, allBelow p n = true → ∀ k, k < n → p k = true
  | 0, _, k, h => absurd h (Nat.not_lt_zero _)
  | n + 1, h, k, hk => by
    simp only [allBelow, Bool.and_eq_true] at h
    rcases Nat.lt_or_ge k n with a | a
    · exact allBelow_spec p n h.2 k a
    · have : k = n := by omega
      subst this; exact h.1
theorem okDoe_all : allBelow (fun j => allBelow (fun i => okDoe (j * 366 + i)) 366) 400 = true := by decide +kernel
theorem okDoe_at (k : Nat) (h : k < 146097) : okDoe k = true := by
  have a := allBelow_spec _ _ (allBelow_spec _ _ okDoe_all (k / 366) (by omega)) (k % 366) (by omega)
  rwa [show k / 366 * 366 + k % 366 = k from by omega] at a
/-- the place of a year in its 400 years, and the day of it, from 1 March on -/
theorem doe_tells (doe : Int) (h : 0 ≤ doe) (h2 : doe < 146097) (of rest : Int) (ho : of = (doe - doe / 1460 + doe / 36524 - doe / 146096) / 365) (hr : rest = doe - (365 * of + of / 4 - of / 100)) :
    0 ≤ of ∧ of ≤ 399 ∧ 0 ≤ rest ∧ (rest ≤ 364 ∨ (rest = 365 ∧ (of + 1) % 4 = 0 ∧ ((of + 1) % 100 ≠ 0 ∨ (of + 1) % 400 = 0))) := by
  obtain ⟨k, rfl⟩ : ∃ k : Nat, doe = k := ⟨doe.toNat, by omega⟩
  have a := okDoe_at k (by omega)
  unfold okDoe at a
  generalize hN : (k - k / 1460 + k / 36524 - k / 146096) / 365 = N at a
  have hof : of = N := by
    rw [ho, ← hN]
    have e1 : ((k - k / 1460 : Nat) : Int) = (k : Int) - k / 1460 := by omega
    have e2 : ((k - k / 1460 + k / 36524 - k / 146096 : Nat) : Int) = (k : Int) - k / 1460 + k / 36524 - k / 146096 := by omega
    rw [← e2]; omega
  clear ho hN
  subst hof
  simp only [Bool.or_eq_true, Bool.and_eq_true, decide_eq_true_eq, beq_iff_eq, bne_iff_ne] at a
  generalize hM : 365 * N + N / 4 - N / 100 = M at a
  have hm : (M : Int) = 365 * N + N / 4 - N / 100 := by omega
  rw [← hm] at hr
  clear hM hm
  omega
/-- the program's date of a number -/
def dateY (n : Int) : Int :=
  let era := (n + 719468) / 146097
  let doe := n + 719468 - era * 146097
  let of := (doe - doe / 1460 + doe / 36524 - doe / 146096) / 365
  let rest := doe - (365 * of + of / 4 - of / 100)
  let m := (5 * rest + 2) / 153
  if m + 3 > 12 then of + era * 400 + 1 else of + era * 400
def dateM (n : Int) : Int :=
  let era := (n + 719468) / 146097
  let doe := n + 719468 - era * 146097
  let of := (doe - doe / 1460 + doe / 36524 - doe / 146096) / 365
  let rest := doe - (365 * of + of / 4 - of / 100)
  let m := (5 * rest + 2) / 153
  if m + 3 > 12 then m + 3 - 12 else m + 3
def dateD (n : Int) : Int :=
  let era := (n + 719468) / 146097
  let doe := n + 719468 - era * 146097
  let of := (doe - doe / 1460 + doe / 36524 - doe / 146096) / 365
  let rest := doe - (365 * of + of / 4 - of / 100)
  let m := (5 * rest + 2) / 153
  rest - (153 * m + 2) / 5 + 1
theorem date_core (era of rest m : Int) (h0 : 0 ≤ of) (h1 : of ≤ 399) (h2 : 0 ≤ rest) (h3 : rest ≤ 364 ∨ (rest = 365 ∧ (of + 1) % 4 = 0 ∧ ((of + 1) % 100 ≠ 0 ∨ (of + 1) % 400 = 0))) (hm : m = (5 * rest + 2) / 153)
    (y mm d : Int) (hy : y = if m + 3 > 12 then of + era * 400 + 1 else of + era * 400) (hmm : mm = if m + 3 > 12 then m + 3 - 12 else m + 3) (hd : d = rest - (153 * m + 2) / 5 + 1) :
    Valid y mm d ∧ num y mm d = era * 146097 + of * 365 + of / 4 - of / 100 + rest - 719468 := by
  have hmr : 0 ≤ m ∧ m ≤ 11 := by omega
  have hv : Valid y mm d := by
    have : m = 0 ∨ m = 1 ∨ m = 2 ∨ m = 3 ∨ m = 4 ∨ m = 5 ∨ m = 6 ∨ m = 7 ∨ m = 8 ∨ m = 9 ∨ m = 10 ∨ m = 11 := by omega
    unfold Valid mdays lp
    rcases this with rfl|rfl|rfl|rfl|rfl|rfl|rfl|rfl|rfl|rfl|rfl|rfl <;> simp at hy hmm hd <;> subst hmm <;> simp <;> (try split) <;> omega
  refine ⟨hv, ?_⟩
  rw [← hin_eq y mm d hv.1 hv.2.1]
  unfold hin
  have e1 : (if mm ≤ 2 then y - 1 else y) = of + era * 400 := by
    rw [hmm, hy]; repeat' split
    all_goals omega
  have e2 : (if mm ≤ 2 then mm + 12 else mm) = m + 3 := by
    rw [hmm]; repeat' split
    all_goals omega
  simp only [e1, e2]
  have e3 : (of + era * 400) / 400 = era := by omega
  rw [e3]
  have e4 : of + era * 400 - era * 400 = of := by omega
  rw [e4, hd]
  omega
theorem date_ok (n : Int) : Valid (dateY n) (dateM n) (dateD n) ∧ num (dateY n) (dateM n) (dateD n) = n := by
  have t := doe_tells (n + 719468 - (n + 719468) / 146097 * 146097) (by omega) (by omega) _ _ rfl rfl
  have c := date_core ((n + 719468) / 146097) _ _ _ t.1 t.2.1 t.2.2.1 t.2.2.2 rfl (dateY n) (dateM n) (dateD n) rfl rfl rfl
  refine ⟨c.1, ?_⟩
  rw [c.2]
  omega
theorem date_unique {n y m d : Int} (h : Valid y m d) (e : num y m d = n) : dateY n = y ∧ dateM n = m ∧ dateD n = d := by
  have a := date_ok n
  exact num_inj a.1 h (a.2.trans e.symm)
theorem dateY_ge (n Y : Int) : Y ≤ dateY n ↔ start Y ≤ n := by
  have a := date_ok n
  have b := num_in a.1
  rw [a.2] at b
  constructor
  · intro h
    have := start_mono h
    omega
  · intro h
    by_cases k : Y ≤ dateY n
    · exact k
    · have := start_mono (a := dateY n + 1) (b := Y) (by omega)
      omega
theorem start_add (y k : Int) : start (y + 400 * k) = start y + 146097 * k := by unfold start; omega
theorem start_0 : start 1970 = 0 := by decide
end Cal
