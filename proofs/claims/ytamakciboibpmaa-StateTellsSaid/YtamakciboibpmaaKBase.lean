import Derived.Test.YtamakciboibpmaaKFacts
import Derived.Test.YtamakciboibpmaaKC
/- Contracts of the program's functions (Base): what each call returns, for all arguments of its kind. -/
namespace Go.Proofs.Ytamakciboibpmaa
open Go.Awp
set_option linter.unusedSimpArgs false
set_option linter.unusedVariables false
set_option maxRecDepth 100000
set_option maxHeartbeats 4000000
/- The arithmetic of 128 bits: what the functions of pair and half compute. -/

theorem pair_Mul (x y : Int) (hx : 0 ≤ x) (hx' : x < 18446744073709551616) (hy : 0 ≤ y) (hy' : y < 18446744073709551616) :
    Runs Try.prog 146 [.int .u64 x, .int .u64 y] [] (.agg [.int .u64 (x * y / 18446744073709551616), .int .u64 (x * y % 18446744073709551616)]) [] := by
  refine runs_go Fx.mixed (fun _ => none) Try.func146 rfl (by rfl) (by simp [Try.f146]) ?_
  simp (maxSteps := 4000000) [Try.f146, fdiv32]
  exact mul_words x y hx hx' hy hy'

theorem pair_held (n : Int) : Runs Try.prog 141 [.int .i64 n] [] (.int .i64 (min (max n 0) 128)) [] := by
  refine runs_go Fx.mixed (fun _ => none) Try.func141 rfl (by rfl) (by simp [Try.f141]) ?_
  simp (maxSteps := 4000000) [Try.f141]
theorem pair_held32 : Runs Try.prog 141 [.int .i64 32] [] (.int .i64 32) [] := pair_held 32

theorem pair_Shr (x y : Int) (hx : 0 ≤ x) (hx' : x < 4294967296) (hy : 0 ≤ y) (hy' : y < 4294967296) :
    Runs Try.prog 142 [.agg [.int .u64 x, .int .u64 (y * 4294967296)], .int .i64 32] [] (.agg [.int .u64 0, .int .u64 (y + x * 4294967296)]) [] := by
  refine runs_go Fx.mixed (fun _ => none) Try.func142 rfl (by rfl) (by simp [Try.f142]) ?_
  simp (maxSteps := 4000000) [Try.f142]
  refine call_pure pair_held32 ?_
  simp (maxSteps := 4000000) [Try.f142, fdiv32, wrap_u64]
  refine ⟨by omega, ?_⟩
  rw [show x * 4294967296 % 18446744073709551616 = x * 4294967296 by omega]
  exact or32' x y hx hx' hy hy'

theorem pair_Shl (x : Int) (hx : 0 ≤ x) (hx' : x < 18446744073709551616) :
    Runs Try.prog 125 [.agg [.int .u64 0, .int .u64 x], .int .i64 32] [] (.tup [.agg [.int .u64 (x / 4294967296), .int .u64 (x * 4294967296 % 18446744073709551616)], .bool true]) [] := by
  refine runs_go Fx.mixed (fun | 5 => some [6] | _ => none) Try.func125 rfl (by rfl) (by simp [Try.f125]) ?_
  simp (maxSteps := 4000000) [Try.f125]
  refine call_pure pair_held32 ?_
  simp (maxSteps := 4000000) [Try.f125, fdiv32, wrap_u64]
  rw [or_zero _ (by omega) (by omega), show x * 4294967296 % 18446744073709551616 = x % 4294967296 * 4294967296 by omega]
  refine callQ_pure (pair_Shr (x / 4294967296) (x % 4294967296) (by omega) (by omega) (by omega) (by omega)) ?_
  simp (maxSteps := 4000000) [Try.f125]
  omega

theorem len64_32 : Runs Try.prog 157 [.int .u64 4294967296] [] (.int .i64 33) [] := by
  refine runs_go Fx.mixed (fun _ => none) Try.func157 rfl (by rfl) (by simp [Try.f157]) ?_
  simp (maxSteps := 4000000) [Try.f157, fdiv32, wrap_u64, wrap_u8, wrap_i64]
  constructor
  · decide
  · generalize hb : byteA _ 1 = b
    have : b = 1 := by rw [← hb]; decide
    subst this; decide

theorem lz64_32 : Runs Try.prog 150 [.int .u64 4294967296] [] (.int .i64 31) [] := by
  refine runs_go Fx.mixed (fun _ => none) Try.func150 rfl (by rfl) (by simp [Try.f150]) ?_
  simp (maxSteps := 4000000) [Try.f150]
  refine call_pure len64_32 ?_
  simp (maxSteps := 4000000) [Try.f150, wrap_i64]

theorem div64_low (x d : Int) (hx : 0 ≤ x) (hx' : x < 18446744073709551616) (hd : 0 < d) (hd' : d < 18446744073709551616) :
    Runs Try.prog 135 [.int .u64 0, .int .u64 x, .int .u64 d] [] (.tup [.int .u64 (x / d), .int .u64 (x % d)]) [] := by
  refine runs_go Fx.mixed (fun | 6 => some [] | _ => none) Try.func135 rfl (by rfl) (by simp [Try.f135]) ?_
  simp (maxSteps := 4000000) [Try.f135]
  have h0 : ¬ d = 0 := by omega
  refine ⟨h0, fun _ => ⟨hd, fun _ => ⟨h0, ?_, Int.tmod_eq_emod_of_nonneg hx⟩⟩⟩
  rw [Int.tdiv_eq_ediv_of_nonneg hx]
  have h1 : 0 ≤ x / d := Int.ediv_nonneg hx (by omega)
  have h2 : x / d ≤ x := Int.ediv_le_self _ hx
  exact wrap_u64_id h1 (by omega)
theorem div64_32 (hi lo : Int) (h : 0 < hi) (h' : hi < 4294967296) (hl : 0 ≤ lo) (hl' : lo < 18446744073709551616) :
    Runs Try.prog 135 [.int .u64 hi, .int .u64 lo, .int .u64 4294967296] [] (.tup [.int .u64 (hi * 4294967296 + lo / 4294967296), .int .u64 (lo % 4294967296)]) [] := by
  refine runs_go Fx.mixed (fun | 6 => some [] | _ => none) Try.func135 rfl (by rfl) (by simp [Try.f135]) ?_
  simp (maxSteps := 4000000) [Try.f135]
  refine ⟨h', fun _ => ⟨fun e => by omega, fun _ => ?_⟩⟩
  refine call_pure lz64_32 ?_
  simp (maxSteps := 4000000) [Try.f135, wrap_u64]
  have o1 : bits .or .u64 (hi * 2147483648 % 18446744073709551616) (lo.fdiv 8589934592) = hi * 2147483648 + lo / 8589934592 := by
    rw [fdiv_nn _ (by decide), show hi * 2147483648 % 18446744073709551616 = hi * 2147483648 by omega]
    exact or31 hi (lo / 8589934592) (by omega) (by omega) (by omega) (by omega)
  have o2 : (lo * 2147483648 % 18446744073709551616).fdiv 4294967296 = lo % 8589934592 / 2 := by
    rw [fdiv_nn _ (by decide)]; omega
  have o3 : bits .and .u64 (lo * 2147483648 % 18446744073709551616) 4294967295 = lo % 2 * 2147483648 := by
    rw [and_low (by omega) (by omega)]; omega
  rw [o1, o2, o3]
  have o4 : (hi * 2147483648 + lo / 8589934592).tdiv 2147483648 % 18446744073709551616 = hi := by
    rw [Int.tdiv_eq_ediv_of_nonneg (by omega)]; omega
  have o5 : (hi * 2147483648 + lo / 8589934592 - hi * 2147483648) % 18446744073709551616 = lo / 8589934592 := by omega
  rw [o4, o5]
  refine g_loop (fun x => x = _) (fun _ => 0) _ (Ent.refl _ _) rfl ?_
  rintro st rfl
  have a0 : bits .and .u64 9223372036854775808 4294967295 = 0 := by decide
  have a1 : ¬ 4294967296 ≤ hi := by omega
  have a2 : ¬ (4294967296 * (lo / 8589934592) + lo % 8589934592 / 2) % 18446744073709551616 < 0 := by omega
  simp (maxSteps := 4000000) [Try.f135, wrap_u64, a0, a1, a2]
  have o6 : (hi * 2147483648 + lo / 8589934592) * 4294967296 + lo % 8589934592 / 2 - hi * 9223372036854775808 = lo / 2 := by omega
  have o7 : (lo / 2 % 18446744073709551616).tdiv 2147483648 % 18446744073709551616 = lo / 4294967296 := by
    rw [Int.tdiv_eq_ediv_of_nonneg (by omega)]; omega
  have o8 : (lo / 2 - lo / 4294967296 * 2147483648) % 18446744073709551616 = lo % 4294967296 / 2 := by omega
  rw [o6, o7, o8]
  refine g_loop (fun x => x = _) (fun _ => 0) _ (Ent.refl _ _) rfl ?_
  rintro st rfl
  have a3 : ¬ 4294967296 ≤ lo / 4294967296 := by omega
  have a4 : ¬ (4294967296 * (lo % 4294967296 / 2) + lo % 2 * 2147483648) % 18446744073709551616 < 0 := by omega
  simp (maxSteps := 4000000) [Try.f135, wrap_u64, a0, a3, a4]
  refine ⟨by omega, ?_⟩
  rw [fdiv_nn _ (by decide)]; omega

theorem half_Over (hi lo d : Int) (h0 : hi < d) (q r : Int) (hd : 0 < d) (hrun : Runs Try.prog 135 [.int .u64 hi, .int .u64 lo, .int .u64 d] [] (.tup [.int .u64 q, .int .u64 r]) []) :
    Runs Try.prog 121 [.agg [.int .u64 hi, .int .u64 lo], .int .u64 d] [] (.tup [.int .u64 q, .int .u64 r, .int .i64 0]) [] := by
  refine runs_go Fx.mixed (fun _ => none) Try.func121 rfl (by rfl) (by simp [Try.f121]) ?_
  simp (maxSteps := 4000000) [Try.f121]
  refine ⟨by omega, fun _ => ⟨h0, fun _ => ?_⟩⟩
  refine call_pure hrun ?_
  simp (maxSteps := 4000000) [Try.f121]

theorem half_up (q r d : Int) (hq : 0 ≤ q) (hr : 0 ≤ r) (hrd : r < d) (hd : d < 18446744073709551616) :
    Runs Try.prog 122 [.int .u64 q, .int .u64 r, .int .u64 d] [] (.bool (decide (2 * r > d ∨ (2 * r = d ∧ q % 2 = 1)))) [] := by
  refine runs_go Fx.mixed (fun _ => none) Try.func122 rfl (by rfl) (by simp [Try.f122]) ?_
  simp (maxSteps := 4000000) [Try.f122, wrap_u64]
  rw [Int.tmod_eq_emod_of_nonneg hq, Int.emod_eq_of_lt (by omega) (by omega)]
  refine ⟨fun h1 => ⟨fun h2 => ?_, fun h2 => ⟨by omega, by omega⟩⟩, fun h1 => by omega⟩
  have e1 : ¬ d < 2 * r := by omega
  have e2 : 2 * r = d := by omega
  simp [e1, e2]
  rw [Bool.eq_iff_iff]; simp

theorem half_Near (hi lo d : Int) (h0 : hi < d) (hd : 0 < d) (hd' : d < 18446744073709551616) (q r : Int) (hq : 0 ≤ q) (hq' : q < 18446744073709551615) (hr : 0 ≤ r) (hrd : r < d) (hrun : Runs Try.prog 135 [.int .u64 hi, .int .u64 lo, .int .u64 d] [] (.tup [.int .u64 q, .int .u64 r]) []) :
    Runs Try.prog 96 [.agg [.int .u64 hi, .int .u64 lo], .int .u64 d] [] (.tup [.int .u64 (if 2 * r > d ∨ (2 * r = d ∧ q % 2 = 1) then q + 1 else q), .int .i64 0]) [] := by
  refine runs_go Fx.mixed (fun _ => none) Try.func96 rfl (by rfl) (by simp [Try.f96]) ?_
  simp (maxSteps := 4000000) [Try.f96]
  refine call_pure (half_Over hi lo d h0 q r hd hrun) ?_
  simp (maxSteps := 4000000) [Try.f96]
  refine call_pure (half_up q r d hq hr hrd hd') ?_
  simp (maxSteps := 4000000) [Try.f96, wrap_u64]
  refine ⟨fun h1 h2 h3 => by omega, fun h1 => ⟨by omega, fun _ => ?_⟩⟩
  rw [if_pos (by omega)]
  omega
/-- The nearest quotient, of a number of one word. -/
theorem near_low (x d : Int) (hx : 0 ≤ x) (hx' : x < 18446744073709551615) (hd : 0 < d) (hd' : d < 18446744073709551616) :
    Runs Try.prog 96 [.agg [.int .u64 0, .int .u64 x], .int .u64 d] [] (.tup [.int .u64 (rne x d), .int .i64 0]) [] := by
  have h1 : 0 ≤ x / d := Int.ediv_nonneg hx (by omega)
  have h2 : x / d ≤ x := Int.ediv_le_self _ hx
  exact half_Near 0 x d hd hd hd' (x / d) (x % d) h1 (by omega) (Int.emod_nonneg _ (by omega)) (Int.emod_lt_of_pos _ hd) (div64_low x d hx (by omega) hd hd')
theorem near_32 (A : Int) (h : 0 ≤ A) (h' : A < 39614081257132168796771975168) :
    Runs Try.prog 96 [.agg [.int .u64 (A / 18446744073709551616), .int .u64 (A % 18446744073709551616)], .int .u64 4294967296] [] (.tup [.int .u64 (rne A 4294967296), .int .i64 0]) [] := by
  by_cases h0 : A / 18446744073709551616 = 0
  · rw [h0, show A % 18446744073709551616 = A by omega]
    by_cases h1 : A = 18446744073709551615
    · subst h1
      exact half_Near 0 _ _ (by decide) (by decide) (by decide) 4294967295 4294967295 (by decide) (by decide) (by decide) (by decide) (by simpa using div64_low 18446744073709551615 4294967296 (by decide) (by decide) (by decide) (by decide))
    · exact near_low A 4294967296 h (by omega) (by decide) (by decide)
  · have := half_Near (A / 18446744073709551616) (A % 18446744073709551616) 4294967296 (by omega) (by omega) (by omega) (A / 18446744073709551616 * 4294967296 + A % 18446744073709551616 / 4294967296) (A % 18446744073709551616 % 4294967296)
      (by omega) (by omega) (by omega) (by omega) (div64_32 _ _ (by omega) (by omega) (by omega) (by omega))
    have e1 : A / 18446744073709551616 * 4294967296 + A % 18446744073709551616 / 4294967296 = A / 4294967296 := by omega
    have e2 : A % 18446744073709551616 % 4294967296 = A % 4294967296 := by omega
    rw [e1, e2] at this
    exact this

theorem half_Shift (A : Int) (h : 0 ≤ A) (h' : A < 39614081257132168796771975168) :
    Runs Try.prog 145 [.agg [.int .u64 (A / 18446744073709551616), .int .u64 (A % 18446744073709551616)], .int .i64 32] [] (.tup [.int .u64 (rne A 4294967296), .int .i64 0]) [] := by
  refine runs_go Fx.mixed (fun _ => none) Try.func145 rfl (by rfl) (by simp [Try.f145]) ?_
  simp (maxSteps := 4000000) [Try.f145]
  refine call_pure (pair_Shl 1 (by decide) (by decide)) ?_
  simp (maxSteps := 4000000) [Try.f145]
  refine call_pure (near_32 A h h') ?_
  simp (maxSteps := 4000000) [Try.f145]

theorem fix_Size (n : Int) (h : -9223372036854775808 ≤ n) (h' : n < 9223372036854775808) : Runs Try.prog 147 [.int .i64 n] [] (.int .u64 n.natAbs) [] := by
  refine runs_go Fx.mixed (fun _ => none) Try.func147 rfl (by rfl) (by simp [Try.f147]) ?_
  simp (maxSteps := 4000000) [Try.f147, wrap_u64]
  omega

theorem fix_Signed (u : Int) (neg : Bool) (h : 0 ≤ u) (h' : u < 9223372036854775808) : Runs Try.prog 148 [.int .u64 u, .bool neg] [] (.tup [.int .i64 (if neg then -u else u), .int .i64 0]) [] := by
  refine runs_go Fx.mixed (fun _ => none) Try.func148 rfl (by rfl) (by simp [Try.f148]) ?_
  cases neg
  · simp (maxSteps := 4000000) [Try.f148, wrap_u64, wrap_i64]
    omega
  · simp (maxSteps := 4000000) [Try.f148, wrap_u64, wrap_i64]
    omega

theorem fix_Mul (x y : Int) (hx : -9223372036854775808 ≤ x) (hx' : x < 9223372036854775808) (hy : -9223372036854775808 ≤ y) (hy' : y < 9223372036854775808) (h : (x.natAbs : Int) * (y.natAbs : Int) < 39614081257132168792000000000) :
    Runs Try.prog 127 [.int .i64 x, .int .i64 y] [] (.tup [.int .i64 (mulq x y), .int .i64 0]) [] := by
  have h0 : (0 : Int) ≤ (x.natAbs : Int) * (y.natAbs : Int) := Int.mul_nonneg (by omega) (by omega)
  refine runs_go Fx.mixed (fun _ => none) Try.func127 rfl (by rfl) (by simp [Try.f127]) ?_
  simp (maxSteps := 4000000) [Try.f127]
  refine call_pure (fix_Size x hx hx') ?_
  simp (maxSteps := 4000000) [Try.f127]
  refine call_pure (fix_Size y hy hy') ?_
  simp (maxSteps := 4000000) [Try.f127]
  refine call_pure (pair_Mul _ _ (by omega) (by omega) (by omega) (by omega)) ?_
  simp (maxSteps := 4000000) [Try.f127]
  refine call_pure (half_Shift _ h0 (by omega)) ?_
  simp (maxSteps := 4000000) [Try.f127]
  refine call_pure (fix_Signed _ _ (rne_nonneg (by decide) h0) (Int.lt_of_le_of_lt (rne_le (k := 9223372036854775807) (by decide) (by omega)) (by decide))) ?_
  simp (maxSteps := 4000000) [Try.f127, mulq]

theorem lerp_Share (i n : Int) (hi : 0 ≤ i) (hin : i < n) (hn : n ≤ 1048576) : Runs Try.prog 102 [.int .i64 i, .int .i64 n] [] (.tup [.int .i64 (if n = 1 then 0 else rne (i * 4294967296) (n - 1)), .int .i64 0]) [] := by
  refine runs_go Fx.mixed (fun _ => none) Try.func102 rfl (by rfl) (by simp [Try.f102]) ?_
  have h1 : 1 ≤ n := by omega
  have h2 : n ≤ 1099511627776 := by omega
  by_cases h3 : n = 1
  · subst h3
    have h4 : i < 1 := hin
    simp (maxSteps := 4000000) [Try.f102, hi, h4]
  · simp (maxSteps := 4000000) [Try.f102, h1, h2, hi, hin, h3]
    rw [wrap_u64_id hi (by omega)]
    refine call_pure (pair_Shl i hi (by omega)) ?_
    simp (maxSteps := 4000000) [Try.f102]
    rw [show i / 4294967296 = 0 by omega, show i * 4294967296 % 18446744073709551616 = i * 4294967296 by omega, wrap_i64_id (by omega) (by omega), wrap_u64_id (by omega) (by omega)]
    refine call_pure (near_low (i * 4294967296) (n - 1) (by omega) (by omega) (by omega) (by omega)) ?_
    simp (maxSteps := 4000000) [Try.f102]
    have r0 := rne_nonneg (A := i * 4294967296) (d := n - 1) (by omega) (by omega)
    have r1 : rne (i * 4294967296) (n - 1) ≤ 4294967296 := rne_le (by omega) (by rw [Int.mul_comm]; exact Int.mul_le_mul_of_nonneg_left (by omega) (by decide))
    exact wrap_i64_id (by omega) (by omega)

theorem lerp_far (a b : Int) (h : 0 ≤ a) (h' : a ≤ b) (h1 : b < 9223372036854775808) : Runs Try.prog 129 [.int .i64 a, .int .i64 b] [] (.int .u64 (b - a)) [] := by
  refine runs_go Fx.mixed (fun _ => none) Try.func129 rfl (by rfl) (by simp [Try.f129]) ?_
  simp (maxSteps := 4000000) [Try.f129, wrap_u64]
  omega

theorem lerp_scaled (d t : Int) (h : 0 ≤ d) (h' : d < 9223372036854775808) (ht : 0 ≤ t) (ht' : t ≤ 4294967296) : Runs Try.prog 128 [.int .u64 d, .int .i64 t] [] (.int .u64 (rne (d * t) 4294967296)) [] := by
  have k : 0 ≤ d * t ∧ d * t ≤ 9223372036854775807 * 4294967296 := ⟨Int.mul_nonneg h ht, Int.mul_le_mul (by omega) ht' ht (by omega)⟩
  refine runs_go Fx.mixed (fun _ => none) Try.func128 rfl (by rfl) (by simp [Try.f128]) ?_
  simp (maxSteps := 4000000) [Try.f128]
  rw [wrap_u64_id ht (by omega)]
  refine call_pure (pair_Mul _ _ h (by omega) ht (by omega)) ?_
  simp (maxSteps := 4000000) [Try.f128]
  refine call_pure (half_Shift _ k.1 (by omega)) ?_
  simp (maxSteps := 4000000) [Try.f128]

theorem lerp_At (a b t : Int) (ha : 0 ≤ a) (ha' : a ≤ 4503599627370496) (hb : 0 ≤ b) (hb' : b ≤ 4503599627370496) (ht : 0 ≤ t) (ht' : t ≤ 4294967296) :
    Runs Try.prog 104 [.int .i64 a, .int .i64 b, .int .i64 t] [] (.tup [.int .i64 (if a ≤ b then a + rne ((b - a) * t) 4294967296 else a - rne ((a - b) * t) 4294967296), .int .i64 0]) [] := by
  refine runs_go Fx.mixed (fun _ => none) Try.func104 rfl (by rfl) (by simp [Try.f104]) ?_
  by_cases hab : a ≤ b
  · simp (maxSteps := 4000000) [Try.f104, ht, ht', hab]
    refine call_pure (lerp_far a b ha hab (by omega)) ?_
    simp (maxSteps := 4000000) [Try.f104]
    refine call_pure (lerp_scaled (b - a) t (by omega) (by omega) ht ht') ?_
    simp (maxSteps := 4000000) [Try.f104]
    have r0 : 0 ≤ rne ((b - a) * t) 4294967296 := rne_nonneg (by decide) (Int.mul_nonneg (by omega) ht)
    have r1 : rne ((b - a) * t) 4294967296 ≤ b - a := rne_le (by decide) (Int.mul_le_mul_of_nonneg_left ht' (by omega))
    rw [wrap_u64_id ha (by omega), wrap_u64_id (by omega) (by omega), wrap_i64_id (by omega) (by omega)]
  · simp (maxSteps := 4000000) [Try.f104, ht, ht', hab]
    refine call_pure (lerp_far b a hb (by omega) (by omega)) ?_
    simp (maxSteps := 4000000) [Try.f104]
    refine call_pure (lerp_scaled (a - b) t (by omega) (by omega) ht ht') ?_
    simp (maxSteps := 4000000) [Try.f104]
    have r0 : 0 ≤ rne ((a - b) * t) 4294967296 := rne_nonneg (by decide) (Int.mul_nonneg (by omega) ht)
    have r1 : rne ((a - b) * t) 4294967296 ≤ a - b := rne_le (by decide) (Int.mul_le_mul_of_nonneg_left ht' (by omega))
    rw [wrap_u64_id ha (by omega), wrap_u64_id (by omega) (by omega), wrap_i64_id (by omega) (by omega)]

end Go.Proofs.Ytamakciboibpmaa
