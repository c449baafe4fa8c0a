import Derived.Test.YtamakciboibpmaaKState
/- Contracts of the program's functions (State2): what each call returns, for all arguments of its kind. -/
namespace Go.Proofs.Ytamakciboibpmaa
open Go.Awp
set_option linter.unusedSimpArgs false
set_option linter.unusedVariables false
set_option maxRecDepth 100000
set_option maxHeartbeats 4000000
/- When a state may be. -/

theorem state_status (p : PlanV) (s : StateV) (hp : p.ok) (hw : s.wf) : Runs Try.prog 81 [p.enc, s.enc] [] (.bool (decide (statusOk p s))) [] := by
  have b0 := wf_i64 hw.1
  have hst := hp.1
  have hev := hp.2.2.2.2.1
  have hpw : IntKind.i64.wrap (p.steps - 1) = p.steps - 1 := wrap_i64_id (by omega) (by omega)
  have hout : 0 ≤ p.stopOn → 0 < p.ev := fun h => by
    have := hp.2.2.2.2.2.2.2.2.1
    unfold stopOk at this
    rw [if_neg (by omega)] at this
    exact this.1.2.2
  have hF : 0 ≤ p.swaF := by
    have := hp.2.2.2.2.2.2.2.2.2.2.2.2
    split at this
    · omega
    · exact this.2.1
  have hend : (1 ≤ s.step ∧ s.step ≤ p.steps) → IntKind.i64.wrap (s.step - 1) = s.step - 1 := fun h => wrap_i64_id (by omega) (by omega)
  refine runs_go Fx.mixed (fun | 2 => some [999] | 3 => some [999] | _ => none) Try.func81 rfl (by rfl) (by simp [Try.f81]) ?_
  apply cuth (H := True)
  case f =>
    intro hG
    by_cases o1 : 0 ≤ p.stopOn
    · simp (maxSteps := 4000000) [Try.f81, PlanV.enc, PlanV.cells, StateV.enc, StateV.cells, o1]
      refine call_pure (early_Out s.stop p.stop.pat) ?_
      simp (maxSteps := 4000000)
      refine cut_at ⟨[(2, .ptr 0 0), (3, .ptr 1 0), (5, .bool (decide (outOk p s)))], [.box false p.cells, .box false s.cells]⟩ (Ent.sub ⟨by simp [PlanV.cells, StateV.cells], by simp [lk, outOk, o1]⟩) (hG trivial)
    · simp (maxSteps := 4000000) [Try.f81, PlanV.enc, PlanV.cells, StateV.enc, StateV.cells, o1]
      exact cut_at ⟨[(2, .ptr 0 0), (3, .ptr 1 0), (5, .bool (decide (outOk p s)))], [.box false p.cells, .box false s.cells]⟩ (Ent.sub ⟨by simp [PlanV.cells, StateV.cells], by simp [lk, outOk, o1]⟩) (hG trivial)
  case g =>
    intro _
    simp (maxSteps := 4000000) [PlanV.cells, StateV.cells]
    refine call_pure (state_within _ _ _) ?_
    apply cuth (H := True)
    case f =>
      intro hG
      by_cases e1 : 1 ≤ s.step ∧ s.step ≤ p.steps
      · simp (maxSteps := 4000000) [e1, hend e1]
        exact cut_at ⟨[(2, .ptr 0 0), (3, .ptr 1 0), (5, .bool (decide (outOk p s))), (6, .bool (decide (endOk p s)))], [.box false p.cells, .box false s.cells]⟩ (Ent.sub ⟨by simp [PlanV.cells, StateV.cells], by simp [lk, endOk, e1]; try rfl⟩) (hG trivial)
      · have e1' : ¬ endOk p s := fun h => e1 h.1
        simp only [decide_eq_false e1]
        simp (maxSteps := 4000000)
        exact cut_at ⟨[(2, .ptr 0 0), (3, .ptr 1 0), (5, .bool (decide (outOk p s))), (6, .bool (decide (endOk p s)))], [.box false p.cells, .box false s.cells]⟩ (Ent.sub ⟨by simp [PlanV.cells, StateV.cells], by simp [lk, e1']⟩) (hG trivial)
    case g =>
      intro _
      by_cases s0 : s.status = 0
      · have hok : statusOk p s ↔ (0 ≤ s.step ∧ s.step < p.steps) ∧ s.ended = 0 ∧ ¬ outOk p s := by unfold statusOk; simp [s0]
        simp (maxSteps := 4000000) [PlanV.cells, StateV.cells, s0, hpw]
        refine call_pure (state_within _ _ _) ?_
        by_cases e1 : 0 ≤ s.step ∧ s.step ≤ p.steps - 1
        · have e1' : 0 ≤ s.step ∧ s.step < p.steps := by omega
          by_cases e2 : s.ended = 0
          · simp (maxSteps := 4000000) [e1, e2, hok, e1']
          · simp (maxSteps := 4000000) [e1, e2, hok, e1']
        · have e1' : ¬ (0 ≤ s.step ∧ s.step < p.steps) := by omega
          simp only [decide_eq_false e1]
          simp (maxSteps := 4000000) [hok]
          exact fun h1 h2 => absurd ⟨h1, h2⟩ e1'
      by_cases s1 : s.status = 1
      · have hok : statusOk p s ↔ endOk p s ∧ s.step = p.steps ∧ ¬ outOk p s := by unfold statusOk; simp [s1]
        by_cases e1 : endOk p s
        · by_cases e2 : s.step = p.steps
          · simp (maxSteps := 4000000) [PlanV.cells, StateV.cells, s1, e1, e2, hok]
          · simp (maxSteps := 4000000) [PlanV.cells, StateV.cells, s1, e1, e2, hok]
        · simp (maxSteps := 4000000) [PlanV.cells, StateV.cells, s1, e1, hok]
      by_cases s2 : s.status = 2
      · have hok : statusOk p s ↔ endOk p s ∧ outOk p s ∧ s.step % p.ev = 0 := by unfold statusOk; simp [s2]
        by_cases e1 : endOk p s
        · by_cases e2 : outOk p s
          · have h0 : ¬ p.ev = 0 := by have := hout e2.1; omega
            have hr : s.step.tmod p.ev = s.step % p.ev := Int.tmod_eq_emod_of_nonneg (by have := e1.1; omega)
            simp (maxSteps := 4000000) [PlanV.cells, StateV.cells, s2, e1, e2, hok, h0, hr]
            try rfl
          · simp (maxSteps := 4000000) [PlanV.cells, StateV.cells, s2, e1, e2, hok]
        · simp (maxSteps := 4000000) [PlanV.cells, StateV.cells, s2, e1, hok]
      by_cases s3 : s.status = 3
      · have hok : statusOk p s ↔ endOk p s ∧ ¬ outOk p s ∧ failOk p s := by unfold statusOk; simp [s3]
        by_cases e1 : endOk p s
        · by_cases e2 : outOk p s
          · simp (maxSteps := 4000000) [PlanV.cells, StateV.cells, s3, e1, e2, hok]
          · have hf := state_failed p s (by have := e1.1; omega) hF
            simp only [PlanV.enc, PlanV.cells, StateV.enc, StateV.cells, s3] at hf
            simp (maxSteps := 4000000) [PlanV.cells, StateV.cells, s3, e1, e2]
            refine call_pure hf ?_
            simp (maxSteps := 4000000) [hok, e1, e2]
        · simp (maxSteps := 4000000) [PlanV.cells, StateV.cells, s3, e1, hok]
      · have hn : ¬ statusOk p s := by unfold statusOk; simp [s0, s1, s2, s3]
        simp (maxSteps := 4000000) [PlanV.cells, StateV.cells, s0, s1, s2, s3, hn]

theorem state_stop (p : PlanV) (s : StateV) (h : 0 ≤ takenS s) (h' : takenS s ≤ 1000000) (he : 0 ≤ p.ev) : Runs Try.prog 82 [p.enc, s.enc] [] (.bool (decide (stopSOk p s))) [] := by
  have hl0 : 0 ≤ looksN p (takenS s) := Int.ediv_nonneg h he
  have hl1 : looksN p (takenS s) ≤ takenS s := Int.ediv_le_self _ h
  refine runs_go Fx.mixed (fun | 3 => some [] | _ => none) Try.func82 rfl (by rfl) (by simp [Try.f82]) ?_
  by_cases h1 : p.stopOn < 0
  · simp (maxSteps := 4000000) [Try.f82, PlanV.enc, PlanV.cells, StateV.enc, StateV.cells, h1, stopSOk]
  · simp (maxSteps := 4000000) [Try.f82, PlanV.enc, PlanV.cells, StateV.enc, StateV.cells, h1]
    refine callQ_pure (state_looks p s h h' he) ?_
    simp (maxSteps := 4000000)
    refine callQ_pure (state_watch s.stop _ (by omega)) ?_
    simp (maxSteps := 4000000) [stopSOk, h1]

theorem plat_New : Runs Try.prog 80 [] [] (.agg [.bool false, .int .i64 0, .int .i64 0, .int .i64 0, .int .i64 4294967296]) [] := by
  refine runs_go Fx.mixed (fun _ => none) Try.func80 rfl (by rfl) (by simp [Try.f80]) ?_
  simp (maxSteps := 4000000) [Try.f80]

theorem plat_count (n : Int) : Runs Try.prog 133 [.int .i64 n] [] (.bool (decide (0 ≤ n ∧ n ≤ 1099511627776))) [] := by
  refine runs_go Fx.mixed (fun _ => none) Try.func133 rfl (by rfl) (by simp [Try.f133]) ?_
  simp (maxSteps := 4000000) [Try.f133]
  omega

theorem plat_Check (c : CutV) : Runs Try.prog 113 [c.enc] [] (.bool (decide (platOk c))) [] := by
  refine runs_go Fx.mixed (fun | 3 => some [999] | _ => none) Try.func113 rfl (by rfl) (by simp [Try.f113]) ?_
  apply cuth (H := c.w.has = true ∨ c.w.best = 0 ∧ c.w.bad = 0)
  case f =>
    intro hG
    by_cases h1 : c.w.has = true
    · simp (maxSteps := 4000000) [Try.f113, CutV.enc, CutV.cells, h1]
      exact cut_at ⟨[(1, .ptr 0 0)], [.box false c.cells]⟩ (Ent.sub ⟨by simp [CutV.cells, h1], by simp [lk]⟩) (hG (.inl h1))
    · have e := watch_eqA c.w
      have h1' : c.w.has = false := by simpa using h1
      rw [h1'] at e
      by_cases z : c.w.zero
      · simp (maxSteps := 4000000) [Try.f113, CutV.enc, CutV.cells, h1', e, z]
        exact cut_at ⟨[(1, .ptr 0 0)], [.box false c.cells]⟩ (Ent.sub ⟨by simp [CutV.cells, h1'], by simp [lk]⟩) (hG (.inr ⟨z.2.1, z.2.2⟩))
      · have hn : ¬ platOk c := fun h => by rcases h.1 with h | h; exact h1 h; exact z ⟨h1', h.1, h.2⟩
        simp (maxSteps := 4000000) [Try.f113, CutV.enc, CutV.cells, h1', e, z, hn]
  case g =>
    intro h1
    have hok : platOk c ↔ (0 ≤ c.rest ∧ c.rest ≤ 1099511627776) ∧ (0 ≤ c.w.bad ∧ c.w.bad ≤ 1099511627776) ∧ 0 ≤ c.scale ∧ c.scale ≤ 4294967296 := ⟨fun h => h.2, fun h => ⟨h1, h⟩⟩
    simp (maxSteps := 4000000) [CutV.cells]
    refine call_pure (plat_count _) ?_
    by_cases e1 : 0 ≤ c.rest ∧ c.rest ≤ 1099511627776
    · simp only [decide_eq_true e1]
      simp (maxSteps := 4000000)
      refine call_pure (plat_count _) ?_
      by_cases e2 : 0 ≤ c.w.bad ∧ c.w.bad ≤ 1099511627776
      · simp only [decide_eq_true e2]
        by_cases e3 : 0 ≤ c.scale
        · simp (maxSteps := 4000000) [hok, e1, e2, e3]
        · simp (maxSteps := 4000000) [hok, e1, e2, e3]
      · have hn : ¬ platOk c := fun h => e2 (hok.1 h).2.1
        simp only [decide_eq_false e2]
        simp (maxSteps := 4000000) [hn]
    · have hn : ¬ platOk c := fun h => e1 (hok.1 h).1
      simp only [decide_eq_false e1]
      simp (maxSteps := 4000000) [hn]

theorem state_cut (p : PlanV) (s : StateV) (h : 0 ≤ takenS s) (h' : takenS s ≤ 1000000) (he : 0 ≤ p.ev) : Runs Try.prog 83 [p.enc, s.enc] [] (.bool (decide (cutSOk p s))) [] := by
  have hl0 : 0 ≤ looksN p (takenS s) := Int.ediv_nonneg h he
  have hl1 : looksN p (takenS s) ≤ takenS s := Int.ediv_le_self _ h
  refine runs_go Fx.mixed (fun | 2 => some [] | 3 => some [] | _ => none) Try.func83 rfl (by rfl) (by simp [Try.f83]) ?_
  by_cases h1 : p.cutOn < 0
  · simp (maxSteps := 4000000) [Try.f83, PlanV.enc, PlanV.cells, StateV.enc, StateV.cells, h1]
    refine callQ_pure plat_New ?_
    simp (maxSteps := 4000000) [cutSOk, h1]
  · have hok : cutSOk p s ↔ platOk s.cut ∧ watchOk s.cut.w (looksN p (takenS s)) ∧ s.cut.w.bad < p.plat.pat ∧ s.cut.rest ≤ p.plat.cool := by unfold cutSOk; rw [if_neg h1]
    simp (maxSteps := 4000000) [Try.f83, PlanV.enc, PlanV.cells, StateV.enc, StateV.cells, h1]
    refine callQ_pure (plat_Check s.cut) ?_
    by_cases e1 : platOk s.cut
    · simp (maxSteps := 4000000) [e1]
      refine callQ_pure (state_looks p s h h' he) ?_
      simp (maxSteps := 4000000)
      refine callQ_pure (state_watch s.cut.w _ (by omega)) ?_
      by_cases e2 : watchOk s.cut.w (looksN p (takenS s))
      · by_cases e3 : s.cut.w.bad < p.plat.pat
        · simp (maxSteps := 4000000) [hok, e1, e2, e3]
        · simp (maxSteps := 4000000) [hok, e1, e2, e3]
      · simp (maxSteps := 4000000) [hok, e1, e2]
    · simp (maxSteps := 4000000) [hok, e1]

theorem state_long (p : PlanV) (b : Bool) : Runs Try.prog 117 [p.enc, .bool b] [] (.int .i64 (longN p b)) [] := by
  refine runs_go Fx.mixed (fun _ => none) Try.func117 rfl (by rfl) (by simp [Try.f117]) ?_
  cases b <;> simp (maxSteps := 4000000) [Try.f117, PlanV.enc, PlanV.cells, longN]

theorem state_averages (p : PlanV) (s : StateV) (h' : takenS s ≤ 1000000) (he : p.swaE ≤ 1099511627776) : Runs Try.prog 85 [p.enc, s.enc] [] (.bool (decide (avgSOk p s))) [] := by
  refine runs_go Fx.mixed (fun | 1 => some [] | 2 => some [] | _ => none) Try.func85 rfl (by rfl) (by simp [Try.f85]) ?_
  simp (maxSteps := 4000000) [Try.f85, PlanV.enc, PlanV.cells, StateV.enc, StateV.cells]
  refine callQ_pure (state_Taken s) ?_
  simp (maxSteps := 4000000)
  refine callQ_pure (state_Sums p _ (by omega) (by omega)) ?_
  by_cases e1 : p.ema.on = true
  · have hlong := state_long p
    simp only [PlanV.enc, PlanV.cells, e1] at hlong
    simp (maxSteps := 4000000) [e1]
    refine callQ_pure (state_Taken s) ?_
    simp (maxSteps := 4000000) [e1]
    refine callQ_pure (hlong _) ?_
    by_cases q1 : (s.ema.length : Int) = longN p (decide (0 < takenS s))
    · by_cases q2 : s.cnt = sumsN p (takenS s)
      · simp (maxSteps := 4000000) [q1, q2]
        refine callQ_pure (hlong _) ?_
        simp (maxSteps := 4000000)
        rw [Bool.eq_iff_iff]
        simp [avgSOk, e1, q1, q2]
      · simp (maxSteps := 4000000) [q1, q2]
        exact fun h => q2 h.2.1
    · have hn : ¬ avgSOk p s := fun h => q1 (by have := h.1; simpa [e1] using this)
      simp (maxSteps := 4000000) [q1, hn]
  · have e1' : p.ema.on = false := by simpa using e1
    have hlong := state_long p
    simp only [PlanV.enc, PlanV.cells, e1'] at hlong
    simp (maxSteps := 4000000) [e1']
    refine callQ_pure (hlong _) ?_
    by_cases q1 : (s.ema.length : Int) = longN p false
    · by_cases q2 : s.cnt = sumsN p (takenS s)
      · simp (maxSteps := 4000000) [q1, q2]
        refine callQ_pure (hlong _) ?_
        simp (maxSteps := 4000000)
        rw [Bool.eq_iff_iff]
        simp [avgSOk, e1', q1, q2]
      · simp (maxSteps := 4000000) [q1, q2]
        exact fun h => q2 h.2.1
    · have hn : ¬ avgSOk p s := fun h => q1 (by have := h.1; simpa [e1'] using this)
      simp (maxSteps := 4000000) [q1, hn]

theorem state_kept_none (p : PlanV) (s : StateV) (h : p.keepOn < 0) : Runs Try.prog 84 [p.enc, s.enc] [] (.bool (decide (keptOk p s))) [] := by
  refine runs_go Fx.mixed (fun | 3 => some [] | _ => none) Try.func84 rfl (by rfl) (by simp [Try.f84]) ?_
  simp (maxSteps := 4000000) [Try.f84, PlanV.enc, PlanV.cells, StateV.enc, StateV.cells, h, keptOk]
  rw [Bool.eq_iff_iff]; simp

theorem state_New : Runs Try.prog 45 [] [] newS.enc [] := by
  refine runs_go Fx.mixed (fun _ => none) Try.func45 rfl (by rfl) (by simp [Try.f45]) ?_
  simp (maxSteps := 4000000) [Try.f45]
  refine call_pure plat_New ?_
  simp (maxSteps := 4000000) [newS, StateV.enc, StateV.cells]

theorem state_Check_of (p : PlanV) (s : StateV) (hl : p.light) (hwf : p.wf) (hs : s.wf) (hk : p.ok → statusOk p s → Runs Try.prog 84 [p.enc, s.enc] [] (.bool (decide (keptOk p s))) []) :
    Runs Try.prog 46 [p.enc, s.enc] [] (.int .i64 (if stateOk p s then 0 else 1)) [] := by
  refine runs_go Fx.mixed (fun _ => none) Try.func46 rfl (by rfl) (by simp [Try.f46]) ?_
  simp (maxSteps := 4000000) [Try.f46, PlanV.enc, PlanV.cells, StateV.enc, StateV.cells]
  refine call_pure (plan_Check p hl hwf) ?_
  by_cases a1 : p.ok
  case neg =>
    have hn : ¬ stateOk p s := fun h => a1 h.1
    simp (maxSteps := 4000000) [a1, hn]
  simp (maxSteps := 4000000) [a1]
  refine call_pure (state_status p s a1 hs) ?_
  by_cases a2 : statusOk p s
  case neg =>
    have hn : ¬ stateOk p s := fun h => a2 h.2.1
    simp (maxSteps := 4000000) [a2, hn]
  have b0 := wf_i64 hs.1
  have hst := a1.1
  have hev := a1.2.2.2.2.1
  have ht : 0 ≤ takenS s ∧ takenS s ≤ 1000000 := by
    rcases a2 with h | h | h | h
    · rw [takenS, if_neg (by omega)]; omega
    · rw [takenS, if_neg (by omega)]; have := h.2.1.1; omega
    · rw [takenS, if_neg (by omega)]; have := h.2.1.1; omega
    · have := h.2.1.1
      rw [takenS, if_pos h.1, wrap_i64_id (by omega) (by omega)]; omega
  have hE : p.swaE ≤ 1099511627776 := by
    have := a1.2.2.2.2.2.2.2.2.2.2.2.2
    split at this
    · omega
    · exact this.1.2
  simp (maxSteps := 4000000) [a2]
  refine call_pure (state_stop p s ht.1 ht.2 hev.1) ?_
  by_cases a3 : stopSOk p s
  case neg =>
    have hn : ¬ stateOk p s := fun h => a3 h.2.2.1
    simp (maxSteps := 4000000) [a3, hn]
  simp (maxSteps := 4000000) [a3]
  refine call_pure (state_cut p s ht.1 ht.2 hev.1) ?_
  by_cases a4 : cutSOk p s
  case neg =>
    have hn : ¬ stateOk p s := fun h => a4 h.2.2.2.1
    simp (maxSteps := 4000000) [a4, hn]
  simp (maxSteps := 4000000) [a4]
  refine call_pure (hk a1 a2) ?_
  by_cases a5 : keptOk p s
  case neg =>
    have hn : ¬ stateOk p s := fun h => a5 h.2.2.2.2.1
    simp (maxSteps := 4000000) [a5, hn]
  simp (maxSteps := 4000000) [a5]
  refine call_pure (state_averages p s ht.2 hE) ?_
  by_cases a6 : avgSOk p s
  case neg =>
    have hn : ¬ stateOk p s := fun h => a6 h.2.2.2.2.2
    simp (maxSteps := 4000000) [a6, hn]
  simp (maxSteps := 4000000) [a6, show stateOk p s from ⟨a1, a2, a3, a4, a5, a6⟩]

end Go.Proofs.Ytamakciboibpmaa
