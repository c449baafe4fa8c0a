import Derived.Test.YtamakciboibpmaaKRef
/- Contracts of the program's functions (Law24): what each call returns, for all arguments of its kind. -/
namespace Go.Proofs.Ytamakciboibpmaa
open Go.Awp
set_option linter.unusedSimpArgs false
set_option linter.unusedVariables false
set_option maxRecDepth 100000
set_option maxHeartbeats 4000000
def seg24 : SegV := ⟨2, 5, 2, 3, 2, 0, 4294967296, 0, 0, 0⟩

theorem awake24 : Runs Try.prog 8 [] [] (.bool true) [] := by
  have hok : seg24.ok := by decide
  have hs : segsOk [seg24] := (segsOk_one _).2 hok
  have hwf : ∀ s ∈ [seg24], s.wf := by simp; unfold SegV.wf; decide
  have e1 : segsAtV [seg24] 3 = 2147483648 := (segsAtV_one hok (by decide) (by decide)).trans (by decide)
  have e2 : segsAtE [seg24] 3 = 0 := by rw [segsAtE_one hok]; decide
  have e3 : segsAtE [seg24] 5 = 8 := by rw [segsAtE_one hok]; decide
  have e4 : segsPlace [seg24] 4 = 0 := by rw [segsPlace, if_pos hs, segsFind_one]; decide
  refine runs_go Fx.mixed (fun _ => none) Try.func8 rfl (by rfl) (by simp [Try.f8]) ?_
  simp (maxSteps := 4000000) [Try.f8]
  refine call_wk (segs_At [seg24] 3 hwf (by simp)) (by simp [SegV.enc, seg24]) ?_
  simp (maxSteps := 4000000) [e1, e2]
  refine call_wk (segs_At [seg24] 5 hwf (by simp)) (by simp [SegV.enc, seg24]) ?_
  simp (maxSteps := 4000000) [e3]
  refine call_wk (segs_Check [seg24] hwf (by simp)) (by simp [SegV.enc, seg24]) ?_
  simp (maxSteps := 4000000) [hs]
  refine call_wk (segs_Find [seg24] 4 hwf (by simp)) (by simp [SegV.enc, seg24]) ?_
  simp (maxSteps := 4000000) [e4]

theorem law_SegsBounds (l : List SegV) (x : Int) (hl : ∀ s ∈ l, s.wf) : Runs Try.prog 3 [.imm 10 (l.map SegV.enc), .int .i64 x] [] (.bool true) [] := by
  refine runs_go Fx.mixed (fun _ => none) Try.func3 rfl (by rfl) (by simp [Try.f3]) ?_
  by_cases h60 : 60 < l.length
  · have h60' : (60 : Int) < l.length := by omega
    simp (maxSteps := 4000000) [Try.f3, h60, h60']
    refine call_pure awake24 ?_
    simp (maxSteps := 4000000)
  · have h60' : ¬ (60 : Int) < l.length := by omega
    have hlen : l.length ≤ 1000 := by omega
    simp (maxSteps := 4000000) [Try.f3, h60, h60']
    refine call_pure (segs_Bounds l hl hlen) ?_
    simp (maxSteps := 4000000)
    refine call_pure (ref24_May l hl hlen) ?_
    by_cases h : segsOk l
    · simp (maxSteps := 4000000) [h]
      obtain ⟨lo1, lo2⟩ := segsLo_spec h
      obtain ⟨hi1, hi2⟩ := segsHi_spec h
      generalize hlo : segsLo l = lo at lo1 lo2 ⊢
      generalize hhi : segsHi l = hh at hi1 hi2 ⊢
      obtain ⟨I, hI⟩ : ∃ I : St → Prop, ∀ st, I st ↔ (∃ i : Nat, i ≤ l.length ∧ ∃ p q : Bool, st = ⟨[(0, .imm 10 (l.map SegV.enc)), (1, .int .i64 x), (5, .int .i64 lo), (6, .int .i64 hh), (7, .bool p), (8, .bool q), (9, .int .i64 i)], []⟩ ∧
          (p = true ↔ ∃ (j : Nat) (s : SegV), j < i ∧ l[j]? = some s ∧ curveLo s.k s.a s.b = lo) ∧ (q = true ↔ ∃ (j : Nat) (s : SegV), j < i ∧ l[j]? = some s ∧ curveHi s.k s.a s.b = hh)) := ⟨_, fun _ => Iff.rfl⟩
      refine g_loop I (fun st => l.length - st.nat 9)
        ⟨[(0, .imm 10 (l.map SegV.enc)), (1, .int .i64 x), (5, .int .i64 lo), (6, .int .i64 hh), (7, .bool false), (8, .bool false), (9, .int .i64 0)], []⟩ (Ent.sub ⟨rfl, by simp [lk]⟩) ((hI _).2 ⟨0, by omega, false, false, rfl, by simp, by simp⟩) ?_
      intro st hst
      obtain ⟨i, hi, p, q, rfl, hp, hq⟩ := (hI _).1 hst
      by_cases hc : i < l.length
      · obtain ⟨s, hs⟩ : ∃ s, l[i]? = some s := ⟨l[i], List.getElem?_eq_getElem hc⟩
        have hs' : l[i] = s := (List.getElem?_eq_some_iff.1 hs).2
        have hm := List.mem_of_getElem? hs
        have k1 := lo1 s hm
        have k2 := hi1 s hm
        have sp : ∀ (P : SegV → Prop), (∃ (j : Nat) (r : SegV), j < i + 1 ∧ l[j]? = some r ∧ P r) ↔ ((∃ (j : Nat) (r : SegV), j < i ∧ l[j]? = some r ∧ P r) ∨ P s) := by
          intro P
          constructor
          · rintro ⟨j, r, hj, hr, h1⟩
            by_cases e : j = i
            · subst e; rw [hs] at hr; cases hr; exact .inr h1
            · exact .inl ⟨j, r, by omega, hr, h1⟩
          · rintro (⟨j, r, hj, hr, h1⟩ | h1)
            · exact ⟨j, r, by omega, hr, h1⟩
            · exact ⟨i, s, by omega, hs, h1⟩
        have spLo := sp fun r => curveLo r.k r.a r.b = lo
        have spHi := sp fun r => curveHi r.k r.a r.b = hh
        obtain ⟨fr, to, bg, n, k, a, b, c, fi, ti⟩ := s
        simp only at k1 k2 spLo spHi
        have hw : IntKind.i64.wrap ((i : Int) + 1) = (i : Int) + 1 := wrap_i64_id (by omega) (by omega)
        have n1 : ¬ curveLo k a b < lo := by omega
        have n2 : ¬ hh < curveHi k a b := by omega
        simp (maxSteps := 4000000) [Try.f3, hc, hs, hs', SegV.enc]
        refine call_pure (ref09_Bounds k a b c) ?_
        cases p <;> cases q <;> by_cases q1 : curveLo k a b = lo <;> by_cases q2 : curveHi k a b = hh <;> simp (maxSteps := 4000000) [Try.f3, n1, n2, q1, q2, hw] <;>
          exact lp_next ⟨[(0, .imm 10 (l.map SegV.enc)), (1, .int .i64 x), (5, .int .i64 lo), (6, .int .i64 hh), (7, .bool _), (8, .bool _), (9, .int .i64 ((i + 1 : Nat) : Int))], []⟩ (Ent.sub ⟨rfl, by simp [lk, SegV.enc]; exact ⟨rfl, rfl⟩⟩)
            ((hI _).2 ⟨i + 1, by omega, _, _, rfl, by rw [spLo, ← hp]; simp [q1], by rw [spHi, ← hq]; simp [q2]⟩) (by simp [St.nat, lk]; omega)
      · have : i = l.length := by omega
        subst this
        have hp1 : p = true := hp.2 (by obtain ⟨s, hs, h1⟩ := lo2; obtain ⟨j, hj, rfl⟩ := List.mem_iff_getElem.1 hs; exact ⟨j, _, hj, List.getElem?_eq_getElem hj, h1⟩)
        have hq1 : q = true := hq.2 (by obtain ⟨s, hs, h1⟩ := hi2; obtain ⟨j, hj, rfl⟩ := List.mem_iff_getElem.1 hs; exact ⟨j, _, hj, List.getElem?_eq_getElem hj, h1⟩)
        subst hp1; subst hq1
        simp (maxSteps := 4000000) [Try.f3]
        refine call_pure (segs_At l x hl hlen) ?_
        by_cases he : segsAtE l x = 0
        · obtain ⟨_, j, s, _, h2, h3, h4, h5⟩ := segsAt_ok he
          have hm := List.mem_of_getElem? h2
          have hb := segVal_bd (h.2.1 s hm) h3 h4
          have k1 := lo1 s hm
          have k2 := hi1 s hm
          have g1 : lo ≤ segsAtV l x := by omega
          have g2 : segsAtV l x ≤ hh := by omega
          simp (maxSteps := 4000000) [he, g1, g2]
          refine call_pure awake24 ?_
          simp (maxSteps := 4000000)
        · simp (maxSteps := 4000000) [he]
          refine call_pure awake24 ?_
          simp (maxSteps := 4000000)
    · simp (maxSteps := 4000000) [h, segsLo, segsHi]
      refine call_pure awake24 ?_
      simp (maxSteps := 4000000)

end Go.Proofs.Ytamakciboibpmaa
