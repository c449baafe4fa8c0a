import Derived.Test.YtamakciboibpmaaKSame
import Derived.Test.YtamakciboibpmaaKRefMay
/- Contracts of the program's functions (State): what each call returns, for all arguments of its kind. -/
namespace Go.Proofs.Ytamakciboibpmaa
open Go.Awp
set_option linter.unusedSimpArgs false
set_option linter.unusedVariables false
set_option maxRecDepth 100000
set_option maxHeartbeats 4000000
/- States: what the program asks of them. -/

theorem early_Out (w : WatchV) (n : Int) : Runs Try.prog 108 [w.enc, .int .i64 n] [] (.bool (decide (1 ≤ n ∧ n ≤ w.bad))) [] := by
  refine runs_go Fx.mixed (fun _ => none) Try.func108 rfl (by rfl) (by simp [Try.f108]) ?_
  by_cases h1 : 1 ≤ n
  · simp (maxSteps := 4000000) [Try.f108, WatchV.enc, WatchV.cells, h1]
  · simp (maxSteps := 4000000) [Try.f108, WatchV.enc, WatchV.cells, h1]

theorem state_Taken (s : StateV) : Runs Try.prog 16 [s.enc] [] (.int .i64 (takenS s)) [] := by
  refine runs_go Fx.mixed (fun _ => none) Try.func16 rfl (by rfl) (by simp [Try.f16]) ?_
  by_cases h1 : s.status = 3
  · simp (maxSteps := 4000000) [Try.f16, StateV.enc, StateV.cells, h1, takenS]
  · simp (maxSteps := 4000000) [Try.f16, StateV.enc, StateV.cells, h1, takenS]

theorem ref37_Taken (s : StateV) : Runs Try.prog 17 [s.enc] [] (.int .i64 (takenS s)) [] := by
  refine runs_go Fx.mixed (fun _ => none) Try.func17 rfl (by rfl) (by simp [Try.f17]) ?_
  by_cases h1 : s.status = 3
  · simp (maxSteps := 4000000) [Try.f17, StateV.enc, StateV.cells, h1, takenS]
  · simp (maxSteps := 4000000) [Try.f17, StateV.enc, StateV.cells, h1, takenS]

theorem state_Sums (p : PlanV) (n : Int) (hn : n ≤ 2199023255552) (he : p.swaE ≤ 2199023255552) : Runs Try.prog 18 [p.enc, .int .i64 n] [] (.int .i64 (sumsN p n)) [] := by
  refine runs_go Fx.mixed (fun _ => none) Try.func18 rfl (by rfl) (by simp [Try.f18]) ?_
  by_cases h1 : p.swaE < 1
  · simp (maxSteps := 4000000) [Try.f18, PlanV.enc, PlanV.cells, h1, sumsN]
  by_cases h2 : p.swaF < 0
  · simp (maxSteps := 4000000) [Try.f18, PlanV.enc, PlanV.cells, h1, h2, sumsN]
  by_cases h3 : n ≤ p.swaF
  · simp (maxSteps := 4000000) [Try.f18, PlanV.enc, PlanV.cells, h1, h2, h3, sumsN]
  · have hw1 : IntKind.i64.wrap (n - 1) = n - 1 := wrap_i64_id (by omega) (by omega)
    have hw2 : IntKind.i64.wrap (n - 1 - p.swaF) = n - 1 - p.swaF := wrap_i64_id (by omega) (by omega)
    have hd : (n - 1 - p.swaF).tdiv p.swaE = (n - 1 - p.swaF) / p.swaE := Int.tdiv_eq_ediv_of_nonneg (by omega)
    have hd0 : 0 ≤ (n - 1 - p.swaF) / p.swaE := Int.ediv_nonneg (by omega) (by omega)
    have hd1 : (n - 1 - p.swaF) / p.swaE ≤ n - 1 - p.swaF := Int.ediv_le_self _ (by omega)
    have hw3 : IntKind.i64.wrap ((n - 1 - p.swaF) / p.swaE) = (n - 1 - p.swaF) / p.swaE := wrap_i64_id (by omega) (by omega)
    have hw4 : IntKind.i64.wrap ((n - 1 - p.swaF) / p.swaE + 1) = (n - 1 - p.swaF) / p.swaE + 1 := wrap_i64_id (by omega) (by omega)
    have h0 : ¬ p.swaE = 0 := by omega
    simp (maxSteps := 4000000) [Try.f18, PlanV.enc, PlanV.cells, h1, h2, h3, sumsN, hw1, hw2, hd, hw3, hw4, h0]

theorem state_within (n lo hi : Int) : Runs Try.prog 109 [.int .i64 n, .int .i64 lo, .int .i64 hi] [] (.bool (decide (lo ≤ n ∧ n ≤ hi))) [] := by
  refine runs_go Fx.mixed (fun _ => none) Try.func109 rfl (by rfl) (by simp [Try.f109]) ?_
  simp (maxSteps := 4000000) [Try.f109]
  omega

theorem state_looks (p : PlanV) (s : StateV) (h : 0 ≤ takenS s) (h' : takenS s ≤ 1000000) (he : 0 ≤ p.ev) : Runs Try.prog 112 [p.enc, s.enc] [] (.int .i64 (looksN p (takenS s))) [] := by
  refine runs_go Fx.mixed (fun | 3 => some [] | _ => none) Try.func112 rfl (by rfl) (by simp [Try.f112]) ?_
  by_cases h1 : p.ev = 0
  · simp (maxSteps := 4000000) [Try.f112, PlanV.enc, PlanV.cells, StateV.enc, StateV.cells, h1, looksN]
  · have hd : (takenS s).tdiv p.ev = takenS s / p.ev := Int.tdiv_eq_ediv_of_nonneg h
    have hd0 : 0 ≤ takenS s / p.ev := Int.ediv_nonneg h he
    have hd1 : takenS s / p.ev ≤ takenS s := Int.ediv_le_self _ h
    have hw : IntKind.i64.wrap (takenS s / p.ev) = takenS s / p.ev := wrap_i64_id (by omega) (by omega)
    simp (maxSteps := 4000000) [Try.f112, PlanV.enc, PlanV.cells, StateV.enc, StateV.cells, h1]
    refine callQ_pure (state_Taken s) ?_
    simp (maxSteps := 4000000) [h1, hd, hw, looksN]

theorem state_failed (p : PlanV) (s : StateV) (hs : 1 ≤ s.step ∧ s.step ≤ 1000000) (hf : 0 ≤ p.swaF) : Runs Try.prog 110 [p.enc, s.enc] [] (.bool (decide (failOk p s))) [] := by
  refine runs_go Fx.mixed (fun _ => none) Try.func110 rfl (by rfl) (by simp [Try.f110]) ?_
  have hw : IntKind.i64.wrap (s.step - 1) = s.step - 1 := wrap_i64_id (by omega) (by omega)
  by_cases h1 : 0 < p.swaE
  · by_cases h2 : p.swaF < s.step - 1
    · have hw2 : IntKind.i64.wrap (s.step - 1 - p.swaF) = s.step - 1 - p.swaF := wrap_i64_id (by omega) (by omega)
      have hr : (s.step - 1 - p.swaF).tmod p.swaE = (s.step - 1 - p.swaF) % p.swaE := Int.tmod_eq_emod_of_nonneg (by omega)
      have h0 : ¬ p.swaE = 0 := by omega
      simp (maxSteps := 4000000) [Try.f110, PlanV.enc, PlanV.cells, StateV.enc, StateV.cells, hw, h1, h2, hw2, hr, h0, failOk]
      try rfl
    · simp (maxSteps := 4000000) [Try.f110, PlanV.enc, PlanV.cells, StateV.enc, StateV.cells, hw, h1, h2, failOk]
  · simp (maxSteps := 4000000) [Try.f110, PlanV.enc, PlanV.cells, StateV.enc, StateV.cells, hw, h1, failOk]

theorem state_watch (w : WatchV) (n : Int) (hn : -1000000 ≤ n ∧ n ≤ 1000000) : Runs Try.prog 111 [w.enc, .int .i64 n] [] (.bool (decide (watchOk w n))) [] := by
  refine runs_go Fx.mixed (fun _ => none) Try.func111 rfl (by rfl) (by simp [Try.f111]) ?_
  have hw : IntKind.i64.wrap (n - 1) = n - 1 := wrap_i64_id (by omega) (by omega)
  by_cases h1 : w.has = false
  · have e := watch_eqA w
    rw [h1] at e
    simp (maxSteps := 4000000) [Try.f111, WatchV.enc, WatchV.cells, h1, e]
    simp [watchOk, h1, WatchV.zero]
  · simp (maxSteps := 4000000) [Try.f111, WatchV.enc, WatchV.cells, h1, hw]
    refine call_pure (state_within _ _ _) ?_
    simp (maxSteps := 4000000)
    rw [Bool.eq_iff_iff]
    simp [watchOk, h1]
    omega

theorem state_Same (a b : StateV) (ha : a.light) (hb : b.light) : Runs Try.prog 19 [a.enc, b.enc] [] (.bool (decide (a = b))) [] := by
  obtain ⟨a1, a2, a3⟩ := ha
  obtain ⟨b1, b2, b3⟩ := hb
  refine runs_go Fx.mixed (fun _ => none) Try.func19 rfl (by rfl) (by simp [Try.f19]) ?_
  by_cases e1 : a.step = b.step
  case neg =>
    have hn : ¬ a = b := fun h => e1 (by rw [h])
    simp (maxSteps := 4000000) [Try.f19, StateV.enc, StateV.cells, e1, hn]
  by_cases e2 : a.status = b.status
  case neg =>
    have hn : ¬ a = b := fun h => e2 (by rw [h])
    simp (maxSteps := 4000000) [Try.f19, StateV.enc, StateV.cells, e1, e2, hn]
  by_cases e3 : a.ended = b.ended
  case neg =>
    have hn : ¬ a = b := fun h => e3 (by rw [h])
    simp (maxSteps := 4000000) [Try.f19, StateV.enc, StateV.cells, e1, e2, e3, hn]
  by_cases e4 : a.stop = b.stop
  case neg =>
    have hn : ¬ a = b := fun h => e4 (by rw [h])
    simp (maxSteps := 4000000) [Try.f19, StateV.enc, StateV.cells, e1, e2, e3, e4, hn]
  by_cases e5 : a.cut = b.cut
  case neg =>
    have hn : ¬ a = b := fun h => e5 (by rw [h])
    simp (maxSteps := 4000000) [Try.f19, StateV.enc, StateV.cells, e1, e2, e3, e4, e5, hn]
  by_cases e6 : a.cnt = b.cnt
  case neg =>
    have hn : ¬ a = b := fun h => e6 (by rw [h])
    simp (maxSteps := 4000000) [Try.f19, StateV.enc, StateV.cells, e1, e2, e3, e4, e5, e6, hn]
  simp (maxSteps := 4000000) [Try.f19, StateV.enc, StateV.cells, e1, e2, e3, e4, e5, e6]
  refine call_pure (eq_kept a.kept b.kept (by omega) (by omega)) ?_
  by_cases e7 : a.kept = b.kept
  case neg =>
    have hn : ¬ a = b := fun h => e7 (by rw [h])
    simp (maxSteps := 4000000) [e7, hn]
  simp (maxSteps := 4000000) [e7]
  refine call_pure (eq_ints a.ema b.ema (by omega) (by omega)) ?_
  by_cases e8 : a.ema = b.ema
  case neg =>
    have hn : ¬ a = b := fun h => e8 (by rw [h])
    simp (maxSteps := 4000000) [e8, hn]
  simp (maxSteps := 4000000) [e8]
  refine call_pure (eq_ints a.sums b.sums (by omega) (by omega)) ?_
  by_cases e9 : a.sums = b.sums
  case neg =>
    have hn : ¬ a = b := fun h => e9 (by rw [h])
    simp (maxSteps := 4000000) [e9, hn]
  have hy : a = b := state_ext e1 e2 e3 e4 e5 e7 e8 e6 e9
  simp (maxSteps := 4000000) [hy]

theorem ref37_Same (a b : StateV) (ha : a.light) (hb : b.light) : Runs Try.prog 20 [a.enc, b.enc] [] (.bool (decide (a = b))) [] := by
  obtain ⟨a1, a2, a3⟩ := ha
  obtain ⟨b1, b2, b3⟩ := hb
  refine runs_go Fx.mixed (fun _ => none) Try.func20 rfl (by rfl) (by simp [Try.f20]) ?_
  by_cases e1 : a.step = b.step
  case neg =>
    have hn : ¬ a = b := fun h => e1 (by rw [h])
    simp (maxSteps := 4000000) [Try.f20, StateV.enc, StateV.cells, e1, hn]
  by_cases e2 : a.status = b.status
  case neg =>
    have hn : ¬ a = b := fun h => e2 (by rw [h])
    simp (maxSteps := 4000000) [Try.f20, StateV.enc, StateV.cells, e1, e2, hn]
  by_cases e3 : a.ended = b.ended
  case neg =>
    have hn : ¬ a = b := fun h => e3 (by rw [h])
    simp (maxSteps := 4000000) [Try.f20, StateV.enc, StateV.cells, e1, e2, e3, hn]
  by_cases e4 : a.stop = b.stop
  case neg =>
    have hn : ¬ a = b := fun h => e4 (by rw [h])
    simp (maxSteps := 4000000) [Try.f20, StateV.enc, StateV.cells, e1, e2, e3, e4, hn]
  by_cases e5 : a.cut = b.cut
  case neg =>
    have hn : ¬ a = b := fun h => e5 (by rw [h])
    simp (maxSteps := 4000000) [Try.f20, StateV.enc, StateV.cells, e1, e2, e3, e4, e5, hn]
  by_cases e6 : a.cnt = b.cnt
  case neg =>
    have hn : ¬ a = b := fun h => e6 (by rw [h])
    simp (maxSteps := 4000000) [Try.f20, StateV.enc, StateV.cells, e1, e2, e3, e4, e5, e6, hn]
  simp (maxSteps := 4000000) [Try.f20, StateV.enc, StateV.cells, e1, e2, e3, e4, e5, e6]
  refine call_pure (ref32_Same a.kept b.kept (by omega) (by omega)) ?_
  by_cases e7 : a.kept = b.kept
  case neg =>
    have hn : ¬ a = b := fun h => e7 (by rw [h])
    simp (maxSteps := 4000000) [e7, hn]
  simp (maxSteps := 4000000) [e7]
  refine call_pure (ref01_Same a.ema b.ema (by omega) (by omega)) ?_
  by_cases e8 : a.ema = b.ema
  case neg =>
    have hn : ¬ a = b := fun h => e8 (by rw [h])
    simp (maxSteps := 4000000) [e8, hn]
  simp (maxSteps := 4000000) [e8]
  refine call_pure (ref01_Same a.sums b.sums (by omega) (by omega)) ?_
  by_cases e9 : a.sums = b.sums
  case neg =>
    have hn : ¬ a = b := fun h => e9 (by rw [h])
    simp (maxSteps := 4000000) [e9, hn]
  have hy : a = b := state_ext e1 e2 e3 e4 e5 e7 e8 e6 e9
  simp (maxSteps := 4000000) [hy]

end Go.Proofs.Ytamakciboibpmaa
