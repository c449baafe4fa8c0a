import Derived.Test.YtamakciboibpmaaKState2
/- Contracts of the program's functions (Law37): what each call returns, for all arguments of its kind. -/
namespace Go.Proofs.Ytamakciboibpmaa
open Go.Awp
set_option linter.unusedSimpArgs false
set_option linter.unusedVariables false
set_option maxRecDepth 100000
set_option maxHeartbeats 4000000
/- How many steps were taken in, and of Swa. -/

theorem ref37_Swa (p : PlanV) (i : Int) (h : p.swaF ≤ i → i - p.swaF ≤ 4398046511104 ∧ 0 ≤ i - p.swaF) : Runs Try.prog 47 [p.enc, .int .i64 i] [] (.bool (decide (swaAt p i))) [] := by
  refine runs_go Fx.mixed (fun _ => none) Try.func47 rfl (by rfl) (by simp [Try.f47]) ?_
  by_cases h1 : 0 < p.swaE
  · by_cases h2 : p.swaF ≤ i
    · have hw : IntKind.i64.wrap (i - p.swaF) = i - p.swaF := wrap_i64_id (by have := h h2; omega) (by have := h h2; omega)
      have hr : (i - p.swaF).tmod p.swaE = (i - p.swaF) % p.swaE := Int.tmod_eq_emod_of_nonneg (by omega)
      have h0 : ¬ p.swaE = 0 := by omega
      simp (maxSteps := 4000000) [Try.f47, PlanV.enc, PlanV.cells, h1, h2, hw, hr, h0, swaAt]
      try rfl
    · simp (maxSteps := 4000000) [Try.f47, PlanV.enc, PlanV.cells, h1, h2, swaAt]
  · simp (maxSteps := 4000000) [Try.f47, PlanV.enc, PlanV.cells, h1, swaAt]

theorem ref37_Sums (p : PlanV) (n : Int) (hn : n ≤ 1048576) (hf : 0 ≤ p.swaF) : Runs Try.prog 15 [p.enc, .int .i64 n] [] (.int .i64 (sumsN p n)) [] := by
  refine runs_go Fx.mixed (fun _ => none) Try.func15 rfl (by rfl) (by simp [Try.f15]) ?_
  simp (maxSteps := 4000000) [Try.f15, PlanV.enc, PlanV.cells]
  have hz : ∀ m : Int, m ≤ 0 → sumsN p m = 0 := fun m hm => by unfold sumsN; rw [if_pos (.inr (.inr (by omega)))]
  obtain ⟨F, hF⟩ : ∃ F : Nat → St, ∀ x, F x = ⟨[(1, .int .i64 n), (2, .ptr 0 0), (5, .int .i64 (sumsN p x)), (6, .int .i64 x)], [.box false p.cells]⟩ := ⟨_, fun _ => rfl⟩
  obtain ⟨I, hI⟩ : ∃ I : Nat → Prop, ∀ x, I x ↔ ((x : Int) ≤ max n 0 ∧ 0 ≤ sumsN p x ∧ sumsN p x ≤ x) := ⟨_, fun _ => Iff.rfl⟩
  refine g_for F I (fun x => n.toNat - x) 0 (by rw [hF]; exact Ent.sub ⟨by simp [PlanV.cells], by simp [lk, hz 0 (Int.le_refl 0)]⟩) ((hI _).2 ⟨by omega, by simp [hz 0 (Int.le_refl 0)], by simp [hz 0 (Int.le_refl 0)]⟩) ?_
  intro i hi
  obtain ⟨hi, hb1, hb2⟩ := (hI _).1 hi
  rw [hF]
  by_cases hc : (i : Int) < n
  · have hw : IntKind.i64.wrap ((i : Int) + 1) = (i : Int) + 1 := wrap_i64_id (by omega) (by omega)
    have hw2 : IntKind.i64.wrap (sumsN p i + 1) = sumsN p i + 1 := wrap_i64_id (by omega) (by omega)
    have hsu := sumsN_succ (p := p) (n := i) hf
    simp (maxSteps := 4000000) [PlanV.cells, hc]
    refine call_pure (ref37_Swa p i (fun h => by omega)) ?_
    by_cases e : swaAt p i
    · rw [if_pos e] at hsu
      simp (maxSteps := 4000000) [e, hw, hw2]
      exact lf_next (i + 1) (by rw [hF]; exact Ent.sub ⟨by simp [PlanV.cells], by simp [lk, hsu]⟩) ((hI _).2 ⟨by omega, by push_cast; omega, by push_cast; omega⟩) (by omega)
    · rw [if_neg e] at hsu
      simp (maxSteps := 4000000) [e, hw]
      exact lf_next (i + 1) (by rw [hF]; exact Ent.sub ⟨by simp [PlanV.cells], by simp [lk, hsu]⟩) ((hI _).2 ⟨by omega, by push_cast; omega, by push_cast; omega⟩) (by omega)
  · simp (maxSteps := 4000000) [PlanV.cells, hc]
    by_cases h0 : 0 ≤ n
    · have : n = i := by omega
      rw [this]
    · have : i = 0 := by omega
      subst this
      rw [hz n (by omega)]; exact hz 0 (Int.le_refl 0)

theorem law37_Light (s : StateV) : Runs Try.prog 13 [s.enc] [] (.bool (decide s.light)) [] := by
  refine runs_go Fx.mixed (fun _ => none) Try.func13 rfl (by rfl) (by simp [Try.f13]) ?_
  by_cases h1 : (s.kept.length : Int) ≤ 30
  · by_cases h2 : (s.ema.length : Int) ≤ 30
    · have hok : s.light ↔ (s.sums.length : Int) ≤ 30 := ⟨fun h => by have := h.2.2; omega, fun h => ⟨by omega, by omega, by omega⟩⟩
      simp (maxSteps := 4000000) [Try.f13, StateV.enc, StateV.cells, h1, h2, hok]
    · have hn : ¬ s.light := fun h => h2 (by have := h.2.1; omega)
      simp (maxSteps := 4000000) [Try.f13, StateV.enc, StateV.cells, h1, h2, hn]
  · have hn : ¬ s.light := fun h => h1 (by have := h.1; omega)
    simp (maxSteps := 4000000) [Try.f13, StateV.enc, StateV.cells, h1, hn]

def seg37 : SegV := ⟨0, 4, 0, 4, 1, 0, 0, 0, 0, 0⟩
def st37 (n : Int) : StateV := ⟨n, 0, 0, ⟨false, 0, 0⟩, ⟨⟨false, 0, 0⟩, 0, 4294967296⟩, [], [], 0, []⟩
theorem awake37 : Runs Try.prog 14 [] [] (.bool true) [] := by
  have hok : seg37.ok := by decide
  have hsw : seg37.wf := by unfold SegV.wf; decide
  have hp : (small 4 0 0 0 seg37).ok := small_ok (by omega) (by omega) (by omega) (by omega) hok rfl rfl
  have hpl : (small 4 0 0 0 seg37).light := small_light
  have hpw : (small 4 0 0 0 seg37).wf := small_wf (by omega) (by omega) (by omega) (by omega) hsw
  have hw : ∀ n : Int, 0 ≤ n → n ≤ 4 → (st37 n).wf := fun n h0 h1 => by
    have z : ∀ m : Int, 0 ≤ m → m ≤ 4294967296 → i64 m := fun m a b => i64_of (by omega) (by omega)
    exact ⟨z n (by omega) (by omega), z 0 (by omega) (by omega), z 0 (by omega) (by omega), z 0 (by omega) (by omega), z 0 (by omega) (by omega), z 0 (by omega) (by omega), z 0 (by omega) (by omega), z 0 (by omega) (by omega), z _ (by simp [st37]) (by simp [st37]), fun k hk => by simp [st37] at hk, fun k hk => by simp [st37] at hk, z 0 (by omega) (by omega), fun k hk => by simp [st37] at hk⟩
  have hk : ∀ n, (small 4 0 0 0 seg37).ok → statusOk (small 4 0 0 0 seg37) (st37 n) → Runs Try.prog 84 [(small 4 0 0 0 seg37).enc, (st37 n).enc] [] (.bool (decide (keptOk (small 4 0 0 0 seg37) (st37 n)))) [] := fun n _ _ => state_kept_none _ _ (by simp [small])
  have c3 := state_Check_of (small 4 0 0 0 seg37) (st37 3) hpl hpw (hw 3 (by omega) (by omega)) (hk 3)
  have c4 := state_Check_of (small 4 0 0 0 seg37) (st37 4) hpl hpw (hw 4 (by omega) (by omega)) (hk 4)
  have o3 : stateOk (small 4 0 0 0 seg37) (st37 3) := ⟨hp, by decide, by decide, by decide, by simp [keptOk, small, st37], by decide⟩
  have o4 : ¬ stateOk (small 4 0 0 0 seg37) (st37 4) := fun h => absurd h.2.1 (by decide)
  rw [if_pos o3] at c3
  rw [if_neg o4] at c4
  have ht : takenS ⟨3, 3, 0, ⟨false, 0, 0⟩, ⟨⟨false, 0, 0⟩, 0, 0⟩, [], [], 0, []⟩ = 2 := by decide
  refine runs_go Fx.mixed (fun _ => none) Try.func14 rfl (by rfl) (by simp [Try.f14]) ?_
  simp (maxSteps := 4000000) [Try.f14]
  refine call_pure state_New ?_
  simp (maxSteps := 4000000) [newS, StateV.enc, StateV.cells]
  refine call_pure state_New ?_
  simp (maxSteps := 4000000) [newS, StateV.enc, StateV.cells]
  refine call_wk c3 (by simp [small, st37, noStop, noPlat, noKeep, PlanV.enc, PlanV.cells, StateV.enc, StateV.cells, SpanV.enc, rowEnc, TrackV.enc, SegV.enc, seg37]) ?_
  simp (maxSteps := 4000000)
  refine call_wk c4 (by simp [small, st37, noStop, noPlat, noKeep, PlanV.enc, PlanV.cells, StateV.enc, StateV.cells, SpanV.enc, rowEnc, TrackV.enc, SegV.enc, seg37]) ?_
  simp (maxSteps := 4000000)
  refine call_wk (state_Taken ⟨3, 3, 0, ⟨false, 0, 0⟩, ⟨⟨false, 0, 0⟩, 0, 0⟩, [], [], 0, []⟩) (by simp [StateV.enc, StateV.cells]) ?_
  simp (maxSteps := 4000000) [ht]

def plan37 (y z : Int) : PlanV := ⟨0, 0, 0, 0, 0, [], [], [], noStop, noPlat, noKeep, ⟨false, 0⟩, 0, 0, 0, y, z⟩
theorem law_StateTells (a b : StateV) (x y z : Int) (ha : a.wf) (hb : b.wf) : Runs Try.prog 4 [a.enc, b.enc, .agg [.int .i64 x, .int .i64 y, .int .i64 z]] [] (.bool true) [] := by
  refine runs_go Fx.mixed (fun | 7 => some [] | _ => none) Try.func4 rfl (by rfl) (by simp [Try.f4]) ?_
  simp (maxSteps := 4000000) [Try.f4, StateV.enc, StateV.cells]
  refine call_pure (law37_Light a) ?_
  by_cases la : a.light
  case neg => simp (maxSteps := 4000000) [la]; refine call_pure awake37 ?_; simp (maxSteps := 4000000)
  simp (maxSteps := 4000000) [la]
  refine call_pure (law37_Light b) ?_
  by_cases lb : b.light
  case neg => simp (maxSteps := 4000000) [lb]; refine call_pure awake37 ?_; simp (maxSteps := 4000000)
  by_cases c1 : a.step = -9223372036854775808
  case pos => simp (maxSteps := 4000000) [lb, c1]; refine call_pure awake37 ?_; simp (maxSteps := 4000000)
  by_cases c2 : 5000 < x
  case pos => simp (maxSteps := 4000000) [lb, c1, c2]; refine call_pure awake37 ?_; simp (maxSteps := 4000000)
  by_cases c3 : 1099511627776 < y
  case pos => simp (maxSteps := 4000000) [lb, c1, c2, c3]; refine call_pure awake37 ?_; simp (maxSteps := 4000000)
  by_cases c4 : y < -1099511627776
  case pos => simp (maxSteps := 4000000) [lb, c1, c2, c3, c4]; refine call_pure awake37 ?_; simp (maxSteps := 4000000)
  by_cases c5 : 1099511627776 < z
  case pos => simp (maxSteps := 4000000) [lb, c1, c2, c3, c4, c5]; refine call_pure awake37 ?_; simp (maxSteps := 4000000)
  by_cases c6 : z < -1099511627776
  case pos => simp (maxSteps := 4000000) [lb, c1, c2, c3, c4, c5, c6]; refine call_pure awake37 ?_; simp (maxSteps := 4000000)
  by_cases h0 : 0 ≤ y
  · have hz : sumsN (plan37 y z) x = sumsN (plan37 y z) x := rfl
    simp (maxSteps := 4000000) [lb, c1, c2, c3, c4, c5, c6, h0]
    refine call_wk (ref37_Sums (plan37 y z) x (by omega) h0) (by simp [plan37, PlanV.enc, PlanV.cells, noStop, noPlat, noKeep]) ?_
    simp (maxSteps := 4000000)
    refine callQ_pure (state_Taken a) ?_
    simp (maxSteps := 4000000)
    refine callQ_pure (ref37_Taken a) ?_
    simp (maxSteps := 4000000)
    refine callQ_wk (state_Sums (plan37 y z) x (by omega) (by simp [plan37]; omega)) (by simp [plan37, PlanV.enc, PlanV.cells, noStop, noPlat, noKeep]) ?_
    simp (maxSteps := 4000000)
    refine callQ_pure (state_Same a b la lb) ?_
    simp (maxSteps := 4000000)
    refine callQ_pure (ref37_Same a b la lb) ?_
    simp (maxSteps := 4000000)
    refine callQ_pure awake37 ?_
    simp (maxSteps := 4000000)
  · have hz : sumsN (plan37 y z) x = 0 := by unfold sumsN; rw [if_pos (.inr (.inl (by simp [plan37]; omega)))]
    simp (maxSteps := 4000000) [lb, c1, c2, c3, c4, c5, c6, h0]
    refine callQ_pure (state_Taken a) ?_
    simp (maxSteps := 4000000)
    refine callQ_pure (ref37_Taken a) ?_
    simp (maxSteps := 4000000)
    refine callQ_wk (state_Sums (plan37 y z) x (by omega) (by simp [plan37]; omega)) (by simp [plan37, PlanV.enc, PlanV.cells, noStop, noPlat, noKeep]) ?_
    simp (maxSteps := 4000000) [hz]
    refine callQ_pure (state_Same a b la lb) ?_
    simp (maxSteps := 4000000)
    refine callQ_pure (ref37_Same a b la lb) ?_
    simp (maxSteps := 4000000)
    refine callQ_pure awake37 ?_
    simp (maxSteps := 4000000)

end Go.Proofs.Ytamakciboibpmaa
