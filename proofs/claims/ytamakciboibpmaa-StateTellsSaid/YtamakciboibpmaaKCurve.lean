import Derived.Test.YtamakciboibpmaaKBase
/- Contracts of the program's functions (Curve): what each call returns, for all arguments of its kind. -/
namespace Go.Proofs.Ytamakciboibpmaa
open Go.Awp
set_option linter.unusedSimpArgs false
set_option linter.unusedVariables false
set_option maxRecDepth 100000
set_option maxHeartbeats 4000000
/- The values of curves. -/

theorem pow_may (x : Int) : Runs Try.prog 143 [.int .i64 x] [] (.bool (decide (0 ≤ x ∧ x ≤ 4294967296))) [] := by
  refine runs_go Fx.mixed (fun _ => none) Try.func143 rfl (by rfl) (by simp [Try.f143]) ?_
  simp (maxSteps := 4000000) [Try.f143]
  omega

theorem pow_times (x y : Int) (hx : 0 ≤ x) (hx' : x ≤ 4294967296) (hy : 0 ≤ y) (hy' : y ≤ 4294967296) : Runs Try.prog 144 [.int .i64 x, .int .i64 y] [] (.int .i64 (mulq x y)) [] := by
  refine runs_go Fx.mixed (fun _ => none) Try.func144 rfl (by rfl) (by simp [Try.f144]) ?_
  simp (maxSteps := 4000000) [Try.f144]
  refine call_pure (fix_Mul x y (by omega) (by omega) (by omega) (by omega) ?_) ?_
  · rw [natAbs_nn hx, natAbs_nn hy]
    exact Int.lt_of_le_of_lt (Int.mul_le_mul hx' hy' hy (by decide)) (by decide)
  simp (maxSteps := 4000000) [Try.f144]

theorem pow_Of (x n : Int) (hx : 0 ≤ x) (hx' : x ≤ 4294967296) (hn : 0 ≤ n) (hn' : n ≤ 1099511627776) : Runs Try.prog 126 [.int .i64 x, .int .i64 n] [] (.tup [.int .i64 (powq x n), .int .i64 0]) [] := by
  refine runs_go Fx.mixed (fun _ => none) Try.func126 rfl (by rfl) (by simp [Try.f126]) ?_
  simp (maxSteps := 4000000) [Try.f126]
  refine call_pure (pow_may x) ?_
  have n0 : ¬ n < 0 := by omega
  have n1 : ¬ 1099511627776 < n := by omega
  simp (maxSteps := 4000000) [Try.f126, hx, hx', n0, n1]
  refine g_loop (fun st => ∃ r y k, st = ⟨[(0, .int .i64 y), (1, .int .i64 k), (6, .int .i64 r)], []⟩ ∧ 0 ≤ r ∧ r ≤ 4294967296 ∧ 0 ≤ y ∧ y ≤ 4294967296 ∧ 0 ≤ k ∧ k ≤ 1099511627776 ∧ powGo r y k.toNat = powq x n) (fun st => st.nat 1)
    ⟨[(0, .int .i64 x), (1, .int .i64 n), (6, .int .i64 4294967296)], []⟩ (Ent.sub ⟨rfl, by simp [lk]⟩) ⟨_, _, _, rfl, by omega, by omega, hx, hx', hn, hn', rfl⟩ ?_
  rintro st ⟨r, y, k, rfl, h1, h2, h3, h4, h5, h6, h7⟩
  have hm := mulq_bd h1 h3 h4
  have hs := mulq_bd h3 h3 h4
  simp (maxSteps := 4000000) [Try.f126, and_one, fdiv1]
  refine ⟨fun hk => ⟨fun ho => ?_, fun ho => ?_⟩, fun hk => ?_⟩
  · refine call_pure (pow_times r y h1 h2 h3 h4) ?_
    simp (maxSteps := 4000000) [Try.f126]
    refine call_pure (pow_times y y h3 h4 h3 h4) ?_
    simp (maxSteps := 4000000) [Try.f126, fdiv1]
    refine lp_next ⟨[(0, .int .i64 (mulq y y)), (1, .int .i64 (k / 2)), (6, .int .i64 (mulq r y))], []⟩ (Ent.sub ⟨rfl, by simp [lk]⟩) ⟨_, _, _, rfl, by omega, by omega, by omega, by omega, by omega, by omega, ?_⟩ (by simp [St.nat, lk]; omega)
    rw [← h7, powGo.eq_1 r y k.toNat, if_neg (by omega), if_pos (by omega), show (k / 2).toNat = k.toNat / 2 by omega]
  · refine call_pure (pow_times y y h3 h4 h3 h4) ?_
    simp (maxSteps := 4000000) [Try.f126, fdiv1]
    refine lp_next ⟨[(0, .int .i64 (mulq y y)), (1, .int .i64 (k / 2)), (6, .int .i64 r)], []⟩ (Ent.sub ⟨rfl, by simp [lk]⟩) ⟨_, _, _, rfl, by omega, by omega, by omega, by omega, by omega, by omega, ?_⟩ (by simp [St.nat, lk]; omega)
    rw [← h7, powGo.eq_1 r y k.toNat, if_neg (by omega), if_neg (by omega), show (k / 2).toNat = k.toNat / 2 by omega]
  · rw [← h7, powGo, if_pos (by omega)]

theorem wave_times (x y : Int) (hx : -12884901888 ≤ x) (hx' : x ≤ 4294967296) (hy : 0 ≤ y) (hy' : y ≤ 4294967296) : Runs Try.prog 159 [.int .i64 x, .int .i64 y] [] (.int .i64 (mulq x y)) [] := by
  refine runs_go Fx.mixed (fun _ => none) Try.func159 rfl (by rfl) (by simp [Try.f159]) ?_
  simp (maxSteps := 4000000) [Try.f159]
  refine call_pure (fix_Mul x y (by omega) (by omega) (by omega) (by omega) ?_) ?_
  · rw [natAbs_nn hy]
    exact Int.lt_of_le_of_lt (Int.mul_le_mul (show (x.natAbs : Int) ≤ 12884901888 by omega) hy' hy (by decide)) (by decide)
  simp (maxSteps := 4000000) [Try.f159]

theorem wave_poly (u : Int) (hu : 0 ≤ u) (hu' : u ≤ 4294967296) : Runs Try.prog 160 [.int .i64 u] [] (.int .i64 (wavePoly u 6)) [] := by
  refine runs_go Fx.mixed (fun _ => none) Try.func160 rfl (by rfl) (by simp [Try.f160]) ?_
  simp (maxSteps := 4000000) [Try.f160]
  refine g_loop (fun st => ∃ k : Nat, k ≤ 6 ∧ st = ⟨[(0, .int .i64 u), (6, .agg [.int .i64 2044063, .int .i64 27198923, .int .i64 245884610, .int .i64 1372256329, .int .i64 4014944880, .int .i64 4294967296]), (7, .int .i64 k), (3, .int .i64 (wavePoly u k))], []⟩)
    (fun st => 6 - st.nat 7) ⟨[(0, .int .i64 u), (6, .agg [.int .i64 2044063, .int .i64 27198923, .int .i64 245884610, .int .i64 1372256329, .int .i64 4014944880, .int .i64 4294967296]), (7, .int .i64 0), (3, .int .i64 0)], []⟩ (Ent.sub ⟨rfl, by simp [lk]⟩) ⟨0, by decide, rfl⟩ ?_
  rintro st ⟨k, hk, rfl⟩
  have hk' : (k = 0 ∨ k = 1 ∨ k = 2 ∨ k = 3 ∨ k = 4 ∨ k = 5) ∨ k = 6 := by omega
  have hb := wavePoly_bd hu hu' k hk
  rcases hk' with hk' | rfl
  · rcases hk' with rfl | rfl | rfl | rfl | rfl | rfl
    · have e : wavePoly u 1 = 2044063 - mulq u (wavePoly u 0) := rfl
      have hn := wavePoly_bd hu hu' 1 (by decide)
      simp (maxSteps := 4000000) [Try.f160]
      refine call_pure (wave_times u _ (by omega) hu' hb.1 hb.2) ?_
      simp (maxSteps := 4000000) [Try.f160, wrap_i64]
      exact lp_next ⟨[(0, .int .i64 u), (6, .agg [.int .i64 2044063, .int .i64 27198923, .int .i64 245884610, .int .i64 1372256329, .int .i64 4014944880, .int .i64 4294967296]), (7, .int .i64 1), (3, .int .i64 (wavePoly u 1))], []⟩
        (Ent.sub ⟨rfl, by simp [lk]; omega⟩) ⟨1, by decide, rfl⟩ (by simp [St.nat, lk])
    · have e : wavePoly u 2 = 27198923 - mulq u (wavePoly u 1) := rfl
      have hn := wavePoly_bd hu hu' 2 (by decide)
      simp (maxSteps := 4000000) [Try.f160]
      refine call_pure (wave_times u _ (by omega) hu' hb.1 hb.2) ?_
      simp (maxSteps := 4000000) [Try.f160, wrap_i64]
      exact lp_next ⟨[(0, .int .i64 u), (6, .agg [.int .i64 2044063, .int .i64 27198923, .int .i64 245884610, .int .i64 1372256329, .int .i64 4014944880, .int .i64 4294967296]), (7, .int .i64 2), (3, .int .i64 (wavePoly u 2))], []⟩
        (Ent.sub ⟨rfl, by simp [lk]; omega⟩) ⟨2, by decide, rfl⟩ (by simp [St.nat, lk])
    · have e : wavePoly u 3 = 245884610 - mulq u (wavePoly u 2) := rfl
      have hn := wavePoly_bd hu hu' 3 (by decide)
      simp (maxSteps := 4000000) [Try.f160]
      refine call_pure (wave_times u _ (by omega) hu' hb.1 hb.2) ?_
      simp (maxSteps := 4000000) [Try.f160, wrap_i64]
      exact lp_next ⟨[(0, .int .i64 u), (6, .agg [.int .i64 2044063, .int .i64 27198923, .int .i64 245884610, .int .i64 1372256329, .int .i64 4014944880, .int .i64 4294967296]), (7, .int .i64 3), (3, .int .i64 (wavePoly u 3))], []⟩
        (Ent.sub ⟨rfl, by simp [lk]; omega⟩) ⟨3, by decide, rfl⟩ (by simp [St.nat, lk])
    · have e : wavePoly u 4 = 1372256329 - mulq u (wavePoly u 3) := rfl
      have hn := wavePoly_bd hu hu' 4 (by decide)
      simp (maxSteps := 4000000) [Try.f160]
      refine call_pure (wave_times u _ (by omega) hu' hb.1 hb.2) ?_
      simp (maxSteps := 4000000) [Try.f160, wrap_i64]
      exact lp_next ⟨[(0, .int .i64 u), (6, .agg [.int .i64 2044063, .int .i64 27198923, .int .i64 245884610, .int .i64 1372256329, .int .i64 4014944880, .int .i64 4294967296]), (7, .int .i64 4), (3, .int .i64 (wavePoly u 4))], []⟩
        (Ent.sub ⟨rfl, by simp [lk]; omega⟩) ⟨4, by decide, rfl⟩ (by simp [St.nat, lk])
    · have e : wavePoly u 5 = 4014944880 - mulq u (wavePoly u 4) := rfl
      have hn := wavePoly_bd hu hu' 5 (by decide)
      simp (maxSteps := 4000000) [Try.f160]
      refine call_pure (wave_times u _ (by omega) hu' hb.1 hb.2) ?_
      simp (maxSteps := 4000000) [Try.f160, wrap_i64]
      exact lp_next ⟨[(0, .int .i64 u), (6, .agg [.int .i64 2044063, .int .i64 27198923, .int .i64 245884610, .int .i64 1372256329, .int .i64 4014944880, .int .i64 4294967296]), (7, .int .i64 5), (3, .int .i64 (wavePoly u 5))], []⟩
        (Ent.sub ⟨rfl, by simp [lk]; omega⟩) ⟨5, by decide, rfl⟩ (by simp [St.nat, lk])
    · have e : wavePoly u 6 = 4294967296 - mulq u (wavePoly u 5) := rfl
      have hn := wavePoly_bd hu hu' 6 (by decide)
      simp (maxSteps := 4000000) [Try.f160]
      refine call_pure (wave_times u _ (by omega) hu' hb.1 hb.2) ?_
      simp (maxSteps := 4000000) [Try.f160, wrap_i64]
      exact lp_next ⟨[(0, .int .i64 u), (6, .agg [.int .i64 2044063, .int .i64 27198923, .int .i64 245884610, .int .i64 1372256329, .int .i64 4014944880, .int .i64 4294967296]), (7, .int .i64 6), (3, .int .i64 (wavePoly u 6))], []⟩
        (Ent.sub ⟨rfl, by simp [lk]; omega⟩) ⟨6, by decide, rfl⟩ (by simp [St.nat, lk])
  · simp (maxSteps := 4000000) [Try.f160]

theorem wave_may (x : Int) : Runs Try.prog 155 [.int .i64 x] [] (.bool (decide (0 ≤ x ∧ x ≤ 4294967296))) [] := by
  refine runs_go Fx.mixed (fun _ => none) Try.func155 rfl (by rfl) (by simp [Try.f155]) ?_
  simp (maxSteps := 4000000) [Try.f155]
  omega

theorem wave_cos (t : Int) (h : 0 ≤ t) (h' : t ≤ 2147483648) : Runs Try.prog 156 [.int .i64 t] [] (.int .i64 (waveCos t)) [] := by
  have h1 := sq_bd h h'
  have h2 := wavePoly_bd h1.1 (by omega) 6 (by decide)
  refine runs_go Fx.mixed (fun _ => none) Try.func156 rfl (by rfl) (by simp [Try.f156]) ?_
  simp (maxSteps := 4000000) [Try.f156]
  refine call_pure (wave_times t t (by omega) (by omega) h (by omega)) ?_
  simp (maxSteps := 4000000) [Try.f156]
  refine call_pure (wave_poly (mulq t t) h1.1 (by omega)) ?_
  simp (maxSteps := 4000000) [Try.f156]
  rw [wrap_i64_id (n := mulq t t * 4) (by omega) (by omega), wrap_i64_id (by omega) (by omega)]
  refine call_pure (wave_times _ _ (by omega) (by omega) h2.1 h2.2) ?_
  simp (maxSteps := 4000000) [Try.f156, waveCos]

theorem wave_Cos (t : Int) (h : 0 ≤ t) (h' : t ≤ 4294967296) : Runs Try.prog 149 [.int .i64 t] [] (.tup [.int .i64 (if t > 2147483648 then -waveCos (4294967296 - t) else waveCos t), .int .i64 0]) [] := by
  refine runs_go Fx.mixed (fun _ => none) Try.func149 rfl (by rfl) (by simp [Try.f149]) ?_
  simp (maxSteps := 4000000) [Try.f149]
  refine call_pure (wave_may t) ?_
  by_cases ht : t ≤ 2147483648
  · have ht' : ¬ 2147483648 < t := by omega
    simp (maxSteps := 4000000) [Try.f149, h, h', ht, ht']
    refine call_pure (wave_cos t h ht) ?_
    simp (maxSteps := 4000000) [Try.f149]
  · have ht' : 2147483648 < t := by omega
    have hb := waveCos_bd (t := 4294967296 - t) (by omega) (by omega)
    simp (maxSteps := 4000000) [Try.f149, h, h', ht, ht']
    rw [wrap_i64_id (by omega) (by omega)]
    refine call_pure (wave_cos (4294967296 - t) (by omega) (by omega)) ?_
    simp (maxSteps := 4000000) [Try.f149]
    exact wrap_i64_id (by omega) (by omega)

theorem wave_At (t : Int) (h : 0 ≤ t) (h' : t ≤ 4294967296) : Runs Try.prog 130 [.int .i64 t] [] (.tup [.int .i64 (waveAt t), .int .i64 0]) [] := by
  refine runs_go Fx.mixed (fun _ => none) Try.func130 rfl (by rfl) (by simp [Try.f130]) ?_
  simp (maxSteps := 4000000) [Try.f130]
  refine call_pure (wave_Cos t h h') ?_
  have hc : -4294967296 ≤ (if 2147483648 < t then -waveCos (4294967296 - t) else waveCos t) ∧ (if 2147483648 < t then -waveCos (4294967296 - t) else waveCos t) ≤ 4294967296 := by
    by_cases ht : 2147483648 < t
    · have := waveCos_bd (t := 4294967296 - t) (by omega) (by omega)
      rw [if_pos ht]; omega
    · have := waveCos_bd h (by omega)
      rw [if_neg ht]; omega
  simp (maxSteps := 4000000) [Try.f130]
  unfold waveAt
  simp only [gt_iff_lt]
  generalize (if 2147483648 < t then -waveCos (4294967296 - t) else waveCos t) = c at *
  simp only [fdiv1, wrap_i64]
  constructor
  · intro h0; rw [if_pos h0]; omega
  · intro h0; rw [if_neg (by omega)]; omega

theorem cycle_within (n lo hi : Int) : Runs Try.prog 131 [.int .i64 n, .int .i64 lo, .int .i64 hi] [] (.bool (decide (lo ≤ n ∧ n ≤ hi))) [] := by
  refine runs_go Fx.mixed (fun _ => none) Try.func131 rfl (by rfl) (by simp [Try.f131]) ?_
  simp (maxSteps := 4000000) [Try.f131]
  omega

theorem cycle_may (f t a : Int) : Runs Try.prog 106 [.int .i64 f, .int .i64 t, .int .i64 a] [] (.bool (decide ((1 ≤ f ∧ f ≤ 1048576) ∧ (1 ≤ t ∧ t ≤ 16) ∧ 0 ≤ a ∧ a ≤ 1048576))) [] := by
  refine runs_go Fx.mixed (fun _ => none) Try.func106 rfl (by rfl) (by simp [Try.f106]) ?_
  simp (maxSteps := 4000000) [Try.f106]
  refine call_pure (cycle_within _ _ _) ?_
  simp (maxSteps := 4000000) [Try.f106]
  refine ⟨fun h1 h2 => ?_, fun h1 => ?_⟩
  · refine call_pure (cycle_within _ _ _) ?_
    simp (maxSteps := 4000000) [Try.f106, h1, h2]
    refine ⟨fun h3 h4 => ?_, fun h3 h4 h5 h6 => by have := h3 h4; omega⟩
    refine call_pure (cycle_within _ _ _) ?_
    simp (maxSteps := 4000000) [Try.f106, h3, h4]
  · omega

theorem cycle_next (a b t : Int) (ha : 0 ≤ a) (hab : a ≤ b) (hb : b ≤ 4194304) (ht : 1 ≤ t) (ht' : t ≤ 16) : Runs Try.prog 132 [.agg [.int .i64 a, .int .i64 b], .int .i64 t] [] (.agg [.int .i64 b, .int .i64 (b + min ((b - a) * t) 1048576)]) [] := by
  refine runs_go Fx.mixed (fun _ => none) Try.func132 rfl (by rfl) (by simp [Try.f132]) ?_
  simp (maxSteps := 4000000) [Try.f132]
  have h1 : 0 ≤ (b - a) * t ∧ (b - a) * t ≤ 4194304 * 16 := ⟨Int.mul_nonneg (by omega) (by omega), Int.mul_le_mul (by omega) ht' (by omega) (by decide)⟩
  rw [wrap_i64_id (n := b - a) (by omega) (by omega), wrap_i64_id (n := (b - a) * t) (by omega) (by omega)]
  exact wrap_i64_id (by omega) (by omega)

theorem cycle_find (f t a : Int) (hf : 1 ≤ f) (hf' : f ≤ 1048576) (ht : 1 ≤ t) (ht' : t ≤ 16) (ha : 0 ≤ a) (ha' : a ≤ 1048576) :
    Runs Try.prog 107 [.int .i64 f, .int .i64 t, .int .i64 a] [] (.tup [.agg [.int .i64 (cycF f t a), .int .i64 (cycT f t a)], .int .i64 (cycN f t a)]) [] := by
  refine runs_go Fx.mixed (fun _ => none) Try.func107 rfl (by rfl) (by simp [Try.f107]) ?_
  by_cases h1 : t = 1
  · subst h1
    have h4 : f ≠ 0 := by omega
    simp (maxSteps := 4000000) [Try.f107, h4]
    have k1 := Int.emod_add_mul_ediv a f
    have k2 := Int.emod_nonneg a (show f ≠ 0 by omega)
    have k3 := Int.emod_lt_of_pos a (show 0 < f by omega)
    have k4 : 0 ≤ a / f * f := Int.mul_nonneg (Int.ediv_nonneg ha (by omega)) (by omega)
    have k5 : 0 ≤ a / f := Int.ediv_nonneg ha (by omega)
    have k6 : a / f ≤ a := Int.ediv_le_self _ ha
    rw [Int.mul_comm f] at k1
    rw [Int.tdiv_eq_ediv_of_nonneg ha, wrap_i64_id (n := a / f) (by omega) (by omega), wrap_i64_id (n := a / f * f) (by omega) (by omega), wrap_i64_id (by omega) (by omega)]
    simp [cycF, cycT, cycN, cycOf]
  · simp (maxSteps := 4000000) [Try.f107, h1]
    refine g_loop (fun st => ∃ k lo hi n, st = ⟨[(1, .int .i64 t), (2, .int .i64 a), (6, .ptr 0 0), (9, .ptr 1 0), (10, .int .i64 n)], [.box false [.int .i64 0, .int .i64 0], .box false [.int .i64 lo, .int .i64 hi]]⟩ ∧
        0 ≤ lo ∧ lo < hi ∧ lo ≤ a ∧ hi ≤ lo + 1048576 ∧ a < hi + (k : Nat) ∧ 0 ≤ n ∧ n ≤ lo ∧ cycGo k t a lo hi n = cycOf f t a) (fun st => (a + 1 - (match st.m with | [_, .box _ [_, .int _ hi]] => hi | _ => 0)).toNat)
      ⟨[(1, .int .i64 t), (2, .int .i64 a), (6, .ptr 0 0), (9, .ptr 1 0), (10, .int .i64 0)], [.box false [.int .i64 0, .int .i64 0], .box false [.int .i64 0, .int .i64 f]]⟩ (Ent.sub ⟨rfl, by simp [lk]⟩)
      ⟨(a + 1).toNat, 0, f, 0, rfl, by omega, by omega, ha, by omega, by omega, by omega, by omega, by simp [cycOf, h1]⟩ ?_
    rintro st ⟨k, lo, hi, n, rfl, p1, p2, p3, p4, p5, p6, p7, p8⟩
    simp (maxSteps := 4000000) [Try.f107]
    refine ⟨fun hc => ?_, fun hc => ?_⟩
    · refine call_pure (cycle_next lo hi t p1 (by omega) (by omega) ht ht') ?_
      simp (maxSteps := 4000000) [Try.f107]
      have hm : 1 ≤ (hi - lo) * t := by
        have := Int.mul_le_mul (show (1 : Int) ≤ hi - lo by omega) ht (by omega) (by omega)
        omega
      rw [wrap_i64_id (by omega) (by omega)]
      cases k with
      | zero => omega
      | succ k =>
        rw [cycGo, if_pos hc] at p8
        exact lp_next ⟨[(1, .int .i64 t), (2, .int .i64 a), (6, .ptr 0 0), (9, .ptr 1 0), (10, .int .i64 (n + 1))], [.box false [.int .i64 0, .int .i64 0], .box false [.int .i64 hi, .int .i64 (hi + min ((hi - lo) * t) 1048576)]]⟩ (Ent.sub ⟨rfl, by simp [lk]⟩)
          ⟨k, _, _, _, rfl, by omega, by omega, hc, by omega, by omega, by omega, by omega, p8⟩ (by simp; omega)
    · rw [cycGo_end (by omega)] at p8
      simp [cycF, cycT, cycN, ← p8]

theorem cycle_Find (f t a : Int) (hf : 1 ≤ f) (hf' : f ≤ 1048576) (ht : 1 ≤ t) (ht' : t ≤ 16) (ha : 0 ≤ a) (ha' : a ≤ 1048576) :
    Runs Try.prog 79 [.int .i64 f, .int .i64 t, .int .i64 a] [] (.tup [.agg [.int .i64 (cycF f t a), .int .i64 (cycT f t a)], .int .i64 (cycN f t a), .int .i64 0]) [] := by
  refine runs_go Fx.mixed (fun _ => none) Try.func79 rfl (by rfl) (by simp [Try.f79]) ?_
  simp (maxSteps := 4000000) [Try.f79]
  refine call_pure (cycle_may _ _ _) ?_
  simp (maxSteps := 4000000) [Try.f79, hf, hf', ht, ht', ha, ha']
  refine call_pure (cycle_find f t a hf hf' ht ht' ha ha') ?_
  simp (maxSteps := 4000000) [Try.f79]

theorem curve_within (n lo hi : Int) : Runs Try.prog 99 [.int .i64 n, .int .i64 lo, .int .i64 hi] [] (.bool (decide (lo ≤ n ∧ n ≤ hi))) [] := by
  refine runs_go Fx.mixed (fun _ => none) Try.func99 rfl (by rfl) (by simp [Try.f99]) ?_
  simp (maxSteps := 4000000) [Try.f99]
  omega

theorem curve_bent (k a b c : Int) : Runs Try.prog 100 [.agg [.int .i64 k, .int .i64 a, .int .i64 b, .int .i64 c]] [] (.bool (decide (bentOk k a b c))) [] := by
  refine runs_go Fx.mixed (fun _ => none) Try.func100 rfl (by rfl) (by simp [Try.f100]) ?_
  by_cases k1 : k = 1
  · subst k1
    simp (maxSteps := 4000000) [Try.f100, bentOk]
    refine ⟨fun h => ?_, fun h => by omega⟩
    first
      | (rw [Bool.eq_iff_iff]; simp; omega)
      | (intros; omega)
  by_cases k2 : k = 2
  · subst k2
    simp (maxSteps := 4000000) [Try.f100]
    refine call_pure (curve_within _ _ _) ?_
    simp (maxSteps := 4000000) [Try.f100, bentOk]
    refine ⟨fun h1 h2 => ?_, fun h1 => by omega⟩
    first
      | (rw [Bool.eq_iff_iff]; simp; omega)
      | (intros; omega)
  by_cases k5 : k = 5
  · subst k5
    simp (maxSteps := 4000000) [Try.f100]
    refine call_pure (curve_within _ _ _) ?_
    simp (maxSteps := 4000000) [Try.f100, bentOk]
    refine ⟨fun h1 h2 => ?_, fun h1 => by omega⟩
    first
      | (rw [Bool.eq_iff_iff]; simp; omega)
      | (intros; omega)
  by_cases k3 : k = 3
  · subst k3
    simp (maxSteps := 4000000) [Try.f100]
    refine call_pure (curve_within _ _ _) ?_
    simp (maxSteps := 4000000) [Try.f100, bentOk]
    refine ⟨fun h1 h2 => ?_, fun h1 => by omega⟩
    refine call_pure (curve_within _ _ _) ?_
    simp (maxSteps := 4000000) [Try.f100]
    first
      | (rw [Bool.eq_iff_iff]; simp; omega)
      | (intros; omega)
  by_cases k4 : k = 4
  · subst k4
    simp (maxSteps := 4000000) [Try.f100]
    refine call_pure (curve_within _ _ _) ?_
    simp (maxSteps := 4000000) [Try.f100, bentOk]
    refine ⟨fun h1 h2 => ?_, fun h1 => by omega⟩
    refine call_pure (curve_within _ _ _) ?_
    simp (maxSteps := 4000000) [Try.f100]
    first
      | (rw [Bool.eq_iff_iff]; simp; omega)
      | (intros; omega)
  · simp (maxSteps := 4000000) [Try.f100, k1, k2, k3, k4, k5, bentOk]

theorem curve_Check (k a b c : Int) : Runs Try.prog 73 [.agg [.int .i64 k, .int .i64 a, .int .i64 b, .int .i64 c]] [] (.int .i64 (if curveOk k a b c then 0 else 1)) [] := by
  refine runs_go Fx.mixed (fun _ => none) Try.func73 rfl (by rfl) (by simp [Try.f73]) ?_
  simp (maxSteps := 4000000) [Try.f73]
  refine call_pure (curve_within _ _ _) ?_
  by_cases h : 0 ≤ a ∧ a ≤ 4503599627370496
  · simp (maxSteps := 4000000) [Try.f73, h.1, h.2]
    refine call_pure (curve_bent _ _ _ _) ?_
    by_cases h2 : bentOk k a b c
    · simp (maxSteps := 4000000) [Try.f73, h2, curveOk, h.1, h.2]
    · simp (maxSteps := 4000000) [Try.f73, h2, curveOk]
  · have h3 : ¬ curveOk k a b c := fun hh => h hh.1
    by_cases h1 : 0 ≤ a
    · have h2 : ¬ a ≤ 4503599627370496 := by omega
      simp (maxSteps := 4000000) [Try.f73, h1, h2, h3]
    · simp (maxSteps := 4000000) [Try.f73, h1, h3]

theorem curve_fading (k a b c i : Int) (ha : 0 ≤ a) (ha' : a ≤ 4503599627370496) (hc : 0 ≤ c) (hc' : c ≤ 4294967296) (hi : 0 ≤ i) (hi' : i ≤ 1048576) :
    Runs Try.prog 103 [.agg [.int .i64 k, .int .i64 a, .int .i64 b, .int .i64 c], .int .i64 i] [] (.int .i64 (max b (mulq a (powq c i)))) [] := by
  have hp := powq_bd (n := i) hc hc'
  refine runs_go Fx.mixed (fun _ => none) Try.func103 rfl (by rfl) (by simp [Try.f103]) ?_
  simp (maxSteps := 4000000) [Try.f103]
  refine call_pure (pow_Of c i hc hc' hi (by omega)) ?_
  simp (maxSteps := 4000000) [Try.f103]
  refine call_pure (fix_Mul a (powq c i) (by omega) (by omega) (by omega) (by omega) ?_) ?_
  · rw [natAbs_nn ha, natAbs_nn hp.1]
    exact Int.lt_of_le_of_lt (Int.mul_le_mul ha' hp.2 hp.1 (by decide)) (by decide)
  simp (maxSteps := 4000000) [Try.f103]

theorem curve_weight (k a b c t : Int) (hk : k = 3 → 0 ≤ c ∧ c ≤ 16) (ht : 0 ≤ t) (ht' : t ≤ 4294967296) :
    Runs Try.prog 105 [.agg [.int .i64 k, .int .i64 a, .int .i64 b, .int .i64 c], .int .i64 t] [] (.int .i64 (weightAt k c t)) [] := by
  refine runs_go Fx.mixed (fun _ => none) Try.func105 rfl (by rfl) (by simp [Try.f105]) ?_
  by_cases k3 : k = 3
  · subst k3
    have := hk rfl
    simp (maxSteps := 4000000) [Try.f105]
    rw [wrap_i64_id (by omega) (by omega)]
    refine call_pure (pow_Of (4294967296 - t) c (by omega) (by omega) (by omega) (by omega)) ?_
    simp (maxSteps := 4000000) [Try.f105, weightAt]
  by_cases k5 : k = 5
  · subst k5
    simp (maxSteps := 4000000) [Try.f105]
    refine call_pure (wave_At t ht ht') ?_
    simp (maxSteps := 4000000) [Try.f105, weightAt]
  · simp (maxSteps := 4000000) [Try.f105, weightAt, k3, k5]

theorem lerp_Share' (i n : Int) (hi : 0 ≤ i) (hin : i < n) (hn : n ≤ 1048576) : Runs Try.prog 102 [.int .i64 i, .int .i64 n] [] (.tup [.int .i64 (shareAt i n), .int .i64 0]) [] := lerp_Share i n hi hin hn
theorem lerp_At' (a b t : Int) (ha : 0 ≤ a) (ha' : a ≤ 4503599627370496) (hb : 0 ≤ b) (hb' : b ≤ 4503599627370496) (ht : 0 ≤ t) (ht' : t ≤ 4294967296) :
    Runs Try.prog 104 [.int .i64 a, .int .i64 b, .int .i64 t] [] (.tup [.int .i64 (lerpAt a b t), .int .i64 0]) [] := lerp_At a b t ha ha' hb hb' ht ht'
theorem curve_At (k a b c i n : Int) (h : curveOk k a b c) (hn : 1 ≤ n) (hn' : n ≤ 1048576) (hi : 0 ≤ i) (hi' : i < n) :
    Runs Try.prog 78 [.agg [.int .i64 k, .int .i64 a, .int .i64 b, .int .i64 c], .int .i64 i, .int .i64 n] [] (.tup [.int .i64 (curveAt k a b c i n), .int .i64 0]) [] := by
  have ht := shareAt_bd hi hi'
  have hb : 0 ≤ b ∧ b ≤ 4503599627370496 := by obtain ⟨h1, h2⟩ := h; unfold bentOk at h2; omega
  have hi2 : i ≤ n - 1 := by omega
  refine runs_go Fx.mixed (fun | 9 => some [] | _ => none) Try.func78 rfl (by rfl) (by simp [Try.f78]) ?_
  simp (maxSteps := 4000000) [Try.f78]
  refine call_pure (curve_Check _ _ _ _) ?_
  simp (maxSteps := 4000000) [Try.f78, h]
  refine call_pure (curve_within _ _ _) ?_
  simp (maxSteps := 4000000) [Try.f78, hn, hn']
  rw [wrap_i64_id (by omega) (by omega)]
  refine call_pure (curve_within _ _ _) ?_
  simp (maxSteps := 4000000) [Try.f78, hi, hi2]
  refine call_pure (lerp_Share' i n hi hi' hn') ?_
  by_cases k4 : k = 4
  · subst k4
    have hc : 0 ≤ c ∧ c ≤ 4294967296 := by obtain ⟨h1, h2⟩ := h; unfold bentOk at h2; omega
    simp (maxSteps := 4000000) [Try.f78]
    refine call_pure (curve_fading 4 a b c i h.1.1 h.1.2 hc.1 hc.2 hi (by omega)) ?_
    simp (maxSteps := 4000000) [Try.f78, curveAt]
  by_cases k2 : k = 2
  · subst k2
    simp (maxSteps := 4000000) [Try.f78]
    refine call_pure (lerp_At' a b _ h.1.1 h.1.2 hb.1 hb.2 ht.1 ht.2) ?_
    simp (maxSteps := 4000000) [Try.f78, curveAt]
  · simp (maxSteps := 4000000) [Try.f78, k2, k4]
    refine callQ_pure (curve_weight k a b c _ (fun e => by obtain ⟨h1, h2⟩ := h; unfold bentOk at h2; omega) ht.1 ht.2) ?_
    simp (maxSteps := 4000000) [Try.f78]
    have hw := weightAt_bd (k := k) (c := c) ht.1 ht.2
    refine callQ_pure (lerp_At' b a _ hb.1 hb.2 h.1.1 h.1.2 hw.1 hw.2) ?_
    simp (maxSteps := 4000000) [Try.f78, curveAt, k2, k4]

theorem curve_Bounds (k a b c : Int) (h : curveOk k a b c) :
    Runs Try.prog 41 [.agg [.int .i64 k, .int .i64 a, .int .i64 b, .int .i64 c]] [] (.tup [.int .i64 (curveLo k a b), .int .i64 (curveHi k a b)]) [] := by
  refine runs_go Fx.mixed (fun | 4 => some [] | 5 => some [] | _ => none) Try.func41 rfl (by rfl) (by simp [Try.f41]) ?_
  simp (maxSteps := 4000000) [Try.f41]
  refine call_pure (curve_Check _ _ _ _) ?_
  simp (maxSteps := 4000000) [Try.f41, h, curveLo, curveHi]
  exact ⟨fun e => by simp [e], fun e => by simp [e]⟩

end Go.Proofs.Ytamakciboibpmaa
