import Derived.Test.YtbpmjjbccaanfaaDy2
namespace Go.Proofs.Ytbpmjjbccaanfaa.Dy
open Go.RowKit Go.Proofs.YtbpmjjbccaanfaaW.PrintWords Go.Proofs.YtbpmjjbccaanfaaW.PrintLast Go.Proofs.YtbpmjjbccaanfaaW.PrintMore
set_option linter.unusedVariables false
set_option linter.unusedSimpArgs false
theorem st_add (a : Int) : Cal.start (a + 400) = Cal.start a + 146097 := Cal.start_add a 1
theorem st_sub (a : Int) : Cal.start (a - 400) = Cal.start a - 146097 := by have := Cal.start_add a (-1); simpa [Int.sub_eq_add_neg] using this
theorem st_rng {y : Int} (h0 : -31000 ≤ y) (h1 : y ≤ 31000) : -13000000 ≤ Cal.start y ∧ Cal.start y ≤ 13000000 := by unfold Cal.start; omega
set_option maxHeartbeats 4000000 in
theorem rstart (y : Int) (w : World) (y0 : -30000 ≤ y) (y1 : y ≤ 30000) : Calls Try.prog 63 #[.int .i64 y] w fun e w' => e = .returned (.int .i64 (Cal.start y)) ∧ w = w' := by
  obtain ⟨s0, s1⟩ := st_rng (y := y) (by omega) (by omega)
  go_enter Try.func63, Try.ntmps63
  go_wp2
  go_loop [0, 3] (fun t n => ∃ a b : Int, t = .int .i64 a ∧ n = .int .i64 b ∧ y ≤ a ∧ a ≤ 30000 ∧ (-13000000 ≤ Cal.start a ∧ Cal.start a ≤ 13000000) ∧ Aside0 (b + Cal.start a = Cal.start y) ∧ -30000000 ≤ b ∧ b ≤ 30000000) (fun t _ => (1970 - intOf t).toNat)
  case atStart => exact ⟨y, 0, rfl, rfl, by omega, y1, ⟨s0, s1⟩, ⟨by omega⟩, by omega, by omega⟩
  case round =>
    obtain ⟨a, b, rfl, rfl, h0, h1, hs, hab, b0, b1⟩ := hrel
    by_cases hlt : a < 1970
    · have hsa := Aside0.mk (st_add a)
      obtain ⟨t0, t1⟩ := st_rng (y := a + 400) (by omega) (by omega)
      go_wp2
      go_round
      case rel => exact ⟨a + 400, b - 146097, by go_num, by go_num, by omega, by omega, ⟨t0, t1⟩, ⟨by rw [hsa.out]; have := hab.out; omega⟩, by have := hab.out; have := hsa.out; omega, by omega⟩
      case measure => simp [intOf]; omega
    · go_wp2
      go_loop [0, 3] (fun t n => ∃ a b : Int, t = .int .i64 a ∧ n = .int .i64 b ∧ 1970 ≤ a ∧ a ≤ 30000 ∧ (-13000000 ≤ Cal.start a ∧ Cal.start a ≤ 13000000) ∧ Aside0 (b + Cal.start a = Cal.start y) ∧ -30000000 ≤ b ∧ b ≤ 30000000) (fun t _ => (intOf t).toNat)
      case atStart => exact ⟨a, b, rfl, rfl, by omega, h1, hs, hab, b0, b1⟩
      case round =>
        clear hab hs h0 h1 b0 b1 hlt
        obtain ⟨a, b, rfl, rfl, h0, h1, hs, hab, b0, b1⟩ := hrel
        by_cases hge : 2370 ≤ a
        · have hsa := Aside0.mk (st_sub a)
          obtain ⟨t0, t1⟩ := st_rng (y := a - 400) (by omega) (by omega)
          go_wp2
          go_round
          case rel => exact ⟨a - 400, b + 146097, by go_num, by go_num, by omega, by omega, ⟨t0, t1⟩, ⟨by rw [hsa.out]; have := hab.out; omega⟩, by omega, by have := hab.out; have := hsa.out; omega⟩
          case measure => simp [intOf]; omega
        · go_wp2
          go_loop [3, 4] (fun n t => ∃ x c : Int, t = .int .i64 x ∧ n = .int .i64 c ∧ 1970 ≤ x ∧ x ≤ a ∧ (-13000000 ≤ Cal.start x ∧ Cal.start x ≤ 13000000) ∧ Aside0 (c = b + Cal.start x) ∧ -50000000 ≤ c ∧ c ≤ 50000000) (fun _ t => (a - intOf t).toNat)
          case atStart => exact ⟨1970, b, rfl, rfl, by omega, h0, by rw [Cal.start_0]; omega, ⟨by rw [Cal.start_0]; omega⟩, by omega, by omega⟩
          case round =>
            obtain ⟨x, c, rfl, rfl, g0, g1, gs, gab, c0, c1⟩ := hrel
            by_cases hx : x < a
            · have hsx := Aside0.mk (Cal.start_succ x)
              obtain ⟨l0, l1⟩ := Cal.lp_01 x
              obtain ⟨t0, t1⟩ := st_rng (y := x + 1) (by omega) (by omega)
              go_wp2_with (go_at_call 102; refine (rdays _ _).mono ?_; rintro e w' ⟨rfl, rfl⟩)
              go_round
              case rel => exact ⟨x + 1, c + (365 + Cal.lp x), by go_num, by go_num, by omega, by omega, ⟨t0, t1⟩, ⟨by rw [hsx.out, gab.out]; omega⟩, by have := hsx.out; have := gab.out; omega, by have := hsx.out; have := gab.out; omega⟩
              case measure => simp [intOf]; omega
            · have : x = a := by omega
              subst this
              go_wp2
              go_ret
              exact ⟨congrArg (fun z => Ending.returned (Value.int _ z)) (by rw [gab.out, hab.out]), rfl⟩
theorem rlast (w : World) : Calls Try.prog 64 #[] w fun e w' => e = .returned (.int .i64 2932896) ∧ w = w' := by
  have h := Aside0.mk (show Cal.start 10000 = 2932897 by decide)
  go_enter Try.func64, Try.ntmps64
  go_wp2_with (go_at_call 63; refine (rstart 10000 _ (by omega) (by omega)).mono ?_; rw [h.out]; rintro e w' ⟨rfl, rfl⟩)
  go_ret
  exact ⟨rfl, rfl⟩
theorem rstart1900 (w : World) : Calls Try.prog 63 #[.int .i64 1900] w fun e w' => e = .returned (.int .i64 (-25567)) ∧ w = w' :=
  rstart 1900 w (by omega) (by omega)
theorem cum_part {y m : Int} (h : 1 ≤ m) (h2 : m ≤ 12) : Cal.cum y m + Cal.mdays y m ≤ 365 + Cal.lp y := by
  have a := Cal.cum_succ y m h h2
  have b := Cal.cum_mono y (m + 1) 13 (by omega) (by omega) (by omega)
  rw [Cal.cum_13] at b
  omega
theorem cum_last {y m : Int} (h : m = 12) : Cal.cum y m + Cal.mdays y m = 365 + Cal.lp y := by
  subst h
  have a := Cal.cum_succ y 12 (by omega) (by omega)
  rw [show (12 : Int) + 1 = 13 by rfl, Cal.cum_13] at a
  omega
set_option maxRecDepth 100000 in
set_option maxHeartbeats 8000000 in
theorem rdate (n : Int) (w : World) (n0 : -4371587 ≤ n) (n1 : n ≤ 2932896) : Calls Try.prog 65 #[.int .i64 n] w fun e w' => e = .returned (.tuple #[.int .i64 (Cal.dateY n), .int .i64 (Cal.dateM n), .int .i64 (Cal.dateD n)]) ∧ Below w.heap.size w w' := by
  go_enter Try.func65, Try.ntmps65
  go_wp2
  go_loop [0, 5] (fun t v => ∃ r y : Int, t = .int .i64 r ∧ v = .int .i64 y ∧ n ≤ r ∧ r ≤ 3000000 ∧ -14000 ≤ y ∧ y ≤ 1970 ∧ Aside0 (r + Cal.start y = n)) (fun t _ => (146097 - intOf t).toNat)
  case atStart => exact ⟨n, 1970, rfl, rfl, by omega, by omega, by omega, by omega, ⟨by rw [Cal.start_0]; omega⟩⟩
  case round =>
    obtain ⟨r, y, rfl, rfl, h0, h1, y0, y1, hr⟩ := hrel
    by_cases hlt : r < 0
    · have hs := Aside0.mk (st_sub y)
      have yb : -13500 ≤ y := by have := hr.out; unfold Cal.start at this; omega
      go_wp2
      go_round
      case rel => exact ⟨r + 146097, y - 400, by go_num, by go_num, by omega, by omega, by omega, by omega, ⟨by rw [hs.out]; have := hr.out; omega⟩⟩
      case measure => simp [intOf]; omega
    · go_wp2
      go_loop [0, 5] (fun t v => ∃ r y : Int, t = .int .i64 r ∧ v = .int .i64 y ∧ 0 ≤ r ∧ r ≤ 3000000 ∧ -14000 ≤ y ∧ y ≤ 12000 ∧ Aside0 (r + Cal.start y = n)) (fun t _ => (intOf t).toNat)
      case atStart => exact ⟨r, y, rfl, rfl, by omega, h1, y0, by omega, hr⟩
      case round =>
        clear hr y0 y1 h0 h1 hlt
        obtain ⟨r, y, rfl, rfl, h0, h1, y0, y1, hr⟩ := hrel
        by_cases hge : 146097 ≤ r
        · have hs := Aside0.mk (st_add y)
          have yb : y ≤ 11000 := by have := hr.out; unfold Cal.start at this; omega
          go_wp2
          go_round
          case rel => exact ⟨r - 146097, y + 400, by go_num, by go_num, by omega, by omega, by omega, by omega, ⟨by rw [hs.out]; have := hr.out; omega⟩⟩
          case measure => simp [intOf]; omega
        · go_wp2
          go_loop [0, 5] (fun t v => ∃ r y : Int, t = .int .i64 r ∧ v = .int .i64 y ∧ 0 ≤ r ∧ r ≤ 3000000 ∧ -14000 ≤ y ∧ y ≤ 13000 ∧ Aside0 (r + Cal.start y = n)) (fun t _ => (intOf t).toNat)
          case atStart => exact ⟨r, y, rfl, rfl, h0, h1, y0, by omega, hr⟩
          case round =>
            clear hr y0 y1 h0 h1 hge
            obtain ⟨r, y, rfl, rfl, h0, h1, y0, y1, hr⟩ := hrel
            obtain ⟨l0, l1⟩ := Cal.lp_01 y
            by_cases hge : 365 + Cal.lp y ≤ r
            · have hs := Aside0.mk (Cal.start_succ y)
              have yb : y ≤ 12000 := by have := hr.out; unfold Cal.start at this; omega
              go_wp2_with (go_at_call 102; refine (rdays _ _).mono ?_; rintro e w' ⟨rfl, rfl⟩)
              go_round
              case rel => exact ⟨r - (365 + Cal.lp y), y + 1, by go_num, by go_num, by omega, by omega, by omega, by omega, ⟨by rw [hs.out]; have := hr.out; omega⟩⟩
              case measure => simp [intOf]; omega
            · go_wp2_with (go_at_call 102; refine (rdays _ _).mono ?_; rintro e w' ⟨rfl, rfl⟩)
              go_loopw [0, 6] (fun t v wr => ∃ d m : Int, t = .int .i64 d ∧ v = .int .i64 m ∧ 0 ≤ d ∧ d ≤ 400 ∧ 1 ≤ m ∧ m ≤ 12 ∧ Aside0 (d + Cal.cum y m = r) ∧ Aside0 (Below w.heap.size w wr)) (fun t _ _ => (intOf t).toNat)
              case atStart => exact ⟨r, 1, rfl, rfl, h0, by omega, by omega, by omega, ⟨by rw [Cal.cum_1]; omega⟩, ⟨Below.refl _ _⟩⟩
              case round =>
                obtain ⟨d, m, rfl, rfl, d0, d1, m0, m1, hd, HB⟩ := hrel
                obtain ⟨k0, k1⟩ := Cal.mdays_lo y m
                by_cases hdm : Cal.mdays y m ≤ d
                · have m2 : m ≤ 11 := by
                    by_cases h12 : m = 12
                    · have := cum_last (y := y) h12; have := hd.out; omega
                    · omega
                  have hcs := Aside0.mk (Cal.cum_succ y m m0 m1)
                  go_wp2_with (first
                    | (go_at_call 103; refine (rmonth y m wr m0 m1).mono ?_; rintro e w1 ⟨rfl, hb⟩; have HB1 := Aside0.mk (below_then HB.out HB.out.size hb); clear HB hb)
                    | (go_at_call 103; refine (rmonth y m w1 m0 m1).mono ?_; rintro e w2 ⟨rfl, hb⟩; have HB2 := Aside0.mk (below_then HB1.out HB1.out.size hb); clear HB1 hb))
                  go_roundw
                  case rel => exact ⟨d - Cal.mdays y m, m + 1, by go_num, by go_num, by omega, by omega, by omega, by omega, ⟨by rw [hcs.out]; have := hd.out; omega⟩, HB2⟩
                  case measure => simp [intOf]; omega
                · have hu := Aside0.mk (Cal.date_unique (n := n) (y := y) (m := m) (d := d + 1) ⟨m0, m1, by omega, by omega⟩ (by unfold Cal.num; have := hr.out; have := hd.out; omega))
                  go_wp2_with (go_at_call 103; refine (rmonth y m wr m0 m1).mono ?_; rintro e w1 ⟨rfl, hb⟩; have HB1 := Aside0.mk (below_then HB.out HB.out.size hb); clear HB hb)
                  refine bodyPost_ret (results_list (rs := [.tmp 2, .tmp 3, .tmp 4]) rfl (by simp) (.tmp (.tmp (.tmp .nil)))) rfl ?_
                  exact ⟨by rw [hu.out.1, hu.out.2.1, hu.out.2.2]; rfl, HB1.out⟩
end Go.Proofs.Ytbpmjjbccaanfaa.Dy
