import Derived.Test.YtamakciboibpmaaKRef
import Derived.Test.YtamakciboibpmaaKC
/- Contracts of the program's functions (Plan): what each call returns, for all arguments of its kind. -/
namespace Go.Proofs.Ytamakciboibpmaa
open Go.Awp
set_option linter.unusedSimpArgs false
set_option linter.unusedVariables false
set_option maxRecDepth 100000
set_option maxHeartbeats 4000000
/- Plans. -/

theorem plan_within (n lo hi : Int) : Runs Try.prog 86 [.int .i64 n, .int .i64 lo, .int .i64 hi] [] (.bool (decide (lo ≤ n ∧ n ≤ hi))) [] := by
  refine runs_go Fx.mixed (fun _ => none) Try.func86 rfl (by rfl) (by simp [Try.f86]) ?_
  simp (maxSteps := 4000000) [Try.f86]
  omega

theorem plan_count (n : Int) : Runs Try.prog 119 [.int .i64 n] [] (.bool (decide (countOk n))) [] := by
  refine runs_go Fx.mixed (fun _ => none) Try.func119 rfl (by rfl) (by simp [Try.f119]) ?_
  simp (maxSteps := 4000000) [Try.f119]
  refine call_pure (plan_within _ _ _) ?_
  simp (maxSteps := 4000000)
  rw [Bool.eq_iff_iff, decide_eq_true_eq]; simp [countOk]

theorem plan_value (n : Int) : Runs Try.prog 120 [.int .i64 n] [] (.bool (decide (valueOk n))) [] := by
  refine runs_go Fx.mixed (fun _ => none) Try.func120 rfl (by rfl) (by simp [Try.f120]) ?_
  simp (maxSteps := 4000000) [Try.f120]
  refine call_pure (plan_within _ _ _) ?_
  simp (maxSteps := 4000000)
  rw [Bool.eq_iff_iff, decide_eq_true_eq]; simp [valueOk]

theorem plan_spans (p : PlanV) (hl : p.light) : Runs Try.prog 87 [p.enc] [] (.bool (decide (spansOk p))) [] := by
  have hlen := hl.2.2.2.2.1
  refine runs_go Fx.mixed (fun _ => none) Try.func87 rfl (by rfl) (by simp [Try.f87]) ?_
  simp (maxSteps := 4000000) [Try.f87, PlanV.enc, PlanV.cells]
  obtain ⟨F, hF⟩ : ∃ F : Nat × Int → St, ∀ x, F x = ⟨[(1, .ptr 0 0), (3, .int .i64 x.2), (7, .imm 2 (p.spans.map SpanV.enc)), (8, .int .i64 p.spans.length), (9, .int .i64 x.1)], [.box false p.cells]⟩ := ⟨_, fun _ => rfl⟩
  obtain ⟨I, hI⟩ : ∃ I : Nat × Int → Prop, ∀ x, I x ↔ (x.1 ≤ p.spans.length ∧ spansGo x.2 (p.spans.drop x.1) = spansGo 0 p.spans) := ⟨_, fun _ => Iff.rfl⟩
  refine g_for F I (fun x => p.spans.length - x.1) (0, 0) (by rw [hF]; exact Ent.sub ⟨rfl, by simp [lk]⟩) ((hI _).2 ⟨by simp, by simp⟩) ?_
  rintro ⟨i, a⟩ hi
  obtain ⟨hi, hgo⟩ := (hI _).1 hi
  rw [hF]
  simp only at hi hgo ⊢
  by_cases hc : i < p.spans.length
  · obtain ⟨s, hs⟩ : ∃ s, p.spans[i]? = some s := ⟨_, List.getElem?_eq_getElem hc⟩
    have hs' : p.spans[i] = s := (List.getElem?_eq_some_iff.1 hs).2
    have hd : p.spans.drop i = s :: p.spans.drop (i + 1) := by rw [← hs']; exact List.drop_eq_getElem_cons hc
    rw [hd] at hgo
    obtain ⟨fr, to⟩ := s
    have hw : IntKind.i64.wrap ((i : Int) + 1) = (i : Int) + 1 := wrap_i64_id (by omega) (by omega)
    by_cases h1 : fr = a
    · subst h1
      by_cases h2 : fr < to
      · have h2' : ¬ to ≤ fr := by omega
        simp (maxSteps := 4000000) [Try.f87, hc, hs, hs', SpanV.enc, PlanV.cells, h2', hw]
        simp [spansGo, h2] at hgo
        exact lf_next (i + 1, to) (by rw [hF]; exact Ent.cut (k := 1) (Nat.zero_le _) (Nat.le_add_left _ _) rfl (by simp [PlanV.cells, Blk.lt, AVal.ltL, AVal.lt]) (by simp [lk, AVal.lt, SpanV.enc])) ((hI _).2 ⟨hc, hgo⟩) (by simp only; omega)
      · have h2' : to ≤ fr := by omega
        have hn : ¬ spansOk p := fun h => by simp [spansGo, h2] at hgo; simp [spansOk, ← hgo] at h
        simp (maxSteps := 4000000) [Try.f87, hc, hs, hs', SpanV.enc, PlanV.cells, h2', hn]
    · have hn : ¬ spansOk p := fun h => by simp [spansGo, h1] at hgo; simp [spansOk, ← hgo] at h
      simp (maxSteps := 4000000) [Try.f87, hc, hs, hs', SpanV.enc, PlanV.cells, h1, hn]
  · have : i = p.spans.length := by omega
    subst this
    simp [spansGo] at hgo
    simp (maxSteps := 4000000) [Try.f87, PlanV.cells]
    refine ⟨fun h => ?_, fun h h' => ?_⟩
    · simp [spansOk, ← hgo, h]; omega
    · simp [spansOk, ← hgo] at h'; omega

theorem plan_frozen (p : PlanV) (hl : p.light) : Runs Try.prog 88 [p.enc] [] (.bool (decide (frozenOk p))) [] := by
  have hlen := hl.2.2.2.1
  refine runs_go Fx.mixed (fun _ => none) Try.func88 rfl (by rfl) (by simp [Try.f88]) ?_
  simp (maxSteps := 4000000) [Try.f88, PlanV.enc, PlanV.cells]
  obtain ⟨F, hF⟩ : ∃ F : Nat → St, ∀ x, F x = ⟨[(1, .ptr 0 0), (6, .imm 1 (p.fro.map rowEnc)), (7, .int .i64 p.fro.length), (8, .int .i64 x)], [.box false p.cells]⟩ := ⟨_, fun _ => rfl⟩
  obtain ⟨I, hI⟩ : ∃ I : Nat → Prop, ∀ x, I x ↔ (x ≤ p.fro.length ∧ ∀ (j : Nat) (r : List Bool), j < x → p.fro[j]? = some r → (r.length : Int) = p.gro) := ⟨_, fun _ => Iff.rfl⟩
  refine g_for F I (fun x => p.fro.length - x) 0 (by rw [hF]; exact Ent.sub ⟨rfl, by simp [lk]⟩) ((hI _).2 ⟨by simp, fun j r h => by omega⟩) ?_
  rintro i hi
  obtain ⟨hi, hto⟩ := (hI _).1 hi
  rw [hF]
  by_cases hc : i < p.fro.length
  · obtain ⟨r, hs⟩ : ∃ s, p.fro[i]? = some s := ⟨_, List.getElem?_eq_getElem hc⟩
    have hs' : p.fro[i] = r := (List.getElem?_eq_some_iff.1 hs).2
    have hw : IntKind.i64.wrap ((i : Int) + 1) = (i : Int) + 1 := wrap_i64_id (by omega) (by omega)
    by_cases h1 : (r.length : Int) = p.gro
    · simp (maxSteps := 4000000) [Try.f88, hc, hs, hs', rowEnc, PlanV.cells, h1, hw]
      exact lf_next (i + 1) (by rw [hF]; exact Ent.sub ⟨by simp [PlanV.cells], by simp [lk, rowEnc]⟩) ((hI _).2 ⟨hc, fun j t hj ht => by
        by_cases e : j = i
        · subst e; rw [hs] at ht; cases ht; exact h1
        · exact hto j t (by omega) ht⟩) (by omega)
    · have hn : ¬ frozenOk p := fun h => h1 (h.1 r (List.mem_of_getElem? hs))
      simp (maxSteps := 4000000) [Try.f88, hc, hs, hs', rowEnc, PlanV.cells, h1, hn]
  · have : i = p.fro.length := by omega
    subst this
    simp (maxSteps := 4000000) [Try.f88, PlanV.cells]
    have : (∀ r ∈ p.fro, (r.length : Int) = p.gro) := fun r hr => by
      obtain ⟨j, hj, rfl⟩ := List.mem_iff_getElem.1 hr
      exact hto j _ hj (List.getElem?_eq_getElem hj)
    rw [Bool.eq_iff_iff, decide_eq_true_eq]
    simp [frozenOk]
    exact ⟨fun h => ⟨this, by omega⟩, fun h => by omega⟩

theorem plan_tracks (p : PlanV) (hl : p.light) (hwf : p.wf) (hg : 1 ≤ p.gro ∧ p.gro ≤ 8) : Runs Try.prog 89 [p.enc] [] (.bool (decide (tracksOk p))) [] := by
  have hlen := hl.2.2.1
  refine runs_go Fx.mixed (fun | 6 => some [] | _ => none) Try.func89 rfl (by rfl) (by simp [Try.f89]) ?_
  simp (maxSteps := 4000000) [Try.f89, PlanV.enc, PlanV.cells]
  obtain ⟨F, hF⟩ : ∃ F : Nat → St, ∀ x, F x = ⟨[(1, .ptr 0 0), (6, .imm 3 (p.tracks.map TrackV.enc)), (7, .int .i64 p.tracks.length), (8, .int .i64 x)], [.box false p.cells]⟩ := ⟨_, fun _ => rfl⟩
  obtain ⟨I, hI⟩ : ∃ I : Nat → Prop, ∀ x, I x ↔ (x ≤ p.tracks.length ∧ ∀ (j : Nat) (t : TrackV), j < x → p.tracks[j]? = some t → trackOk p j t) := ⟨_, fun _ => Iff.rfl⟩
  refine g_for F I (fun x => p.tracks.length - x) 0 (by rw [hF]; exact Ent.sub ⟨rfl, by simp [lk]⟩) ((hI _).2 ⟨by simp, fun j r h => by omega⟩) ?_
  rintro i hi
  obtain ⟨hi, hto⟩ := (hI _).1 hi
  rw [hF]
  by_cases hc : i < p.tracks.length
  · obtain ⟨t, hs⟩ : ∃ s, p.tracks[i]? = some s := ⟨_, List.getElem?_eq_getElem hc⟩
    have hs' : p.tracks[i] = t := (List.getElem?_eq_some_iff.1 hs).2
    have hm := List.mem_of_getElem? hs
    have hsl := hl.1 t hm
    have htw := (hwf.2.2.2.2.2.2.1 t hm).2.2
    have hw : IntKind.i64.wrap ((i : Int) + 1) = (i : Int) + 1 := wrap_i64_id (by omega) (by omega)
    have hbad : ¬ trackOk p i t → ¬ tracksOk p := fun h h' => h (h'.1 i t hs)
    have hd : ((i : Int).tdiv 3) = (i : Int) / 3 := by rw [Int.tdiv_eq_ediv_of_nonneg (by omega)]
    have hr : ((i : Int).tmod 3) = (i : Int) % 3 := Int.tmod_eq_emod_of_nonneg (by omega)
    have hdw : IntKind.i64.wrap ((i : Int) / 3) = (i : Int) / 3 := wrap_i64_id (by omega) (by omega)
    obtain ⟨gr, pa, sg⟩ := t
    simp only at hsl htw
    by_cases h1 : gr = (i : Int) / 3
    · by_cases h2 : pa = (i : Int) % 3
      · simp (maxSteps := 4000000) [Try.f89, hc, hs, hs', TrackV.enc, PlanV.cells, hd, hr, hdw, h1, h2]
        refine call_pure (segs_Check sg htw (by omega)) ?_
        by_cases h3 : segsOk sg
        · obtain ⟨a, ha⟩ : ∃ a, sg[0]? = some a := by
            cases sg with
            | nil => exact absurd rfl h3.1
            | cons a r => exact ⟨a, rfl⟩
          have h0 : 0 < sg.length := (List.getElem?_eq_some_iff.1 ha).1
          have ha' : sg[0] = a := (List.getElem?_eq_some_iff.1 ha).2
          obtain ⟨k, hk⟩ : ∃ k, sg.length = k + 1 := ⟨sg.length - 1, by omega⟩
          obtain ⟨b, hb⟩ : ∃ b, sg[k]? = some b := ⟨_, List.getElem?_eq_getElem (by omega)⟩
          have hb' : sg[k] = b := (List.getElem?_eq_some_iff.1 hb).2
          have hwk : IntKind.i64.wrap (k : Int) = (k : Int) := wrap_i64_id (by omega) (by omega)
          have hwo : wholeOk sg p.steps = decide (a.fr = 0 ∧ b.to = p.steps) := by
            have e1 : sg.head? = some a := by rw [List.head?_eq_getElem?]; exact ha
            have e2 : sg.getLast? = some b := by rw [List.getLast?_eq_getElem?, hk]; exact hb
            simp [wholeOk, h3, e1, e2]
          have htr : trackOk p i ⟨gr, pa, sg⟩ ↔ a.fr = 0 ∧ b.to = p.steps := by simp [trackOk, hwo, h1, h2]
          obtain ⟨fr, to, bg, n, k1, a1, b1, c1, fi, ti⟩ := a
          obtain ⟨fr2, to2, bg2, n2, k2, a2, b2, c2, fi2, ti2⟩ := b
          simp only at htr
          have hkl : k < sg.length := by omega
          have hk1 : (k : Int) < (k : Int) + 1 := by omega
          by_cases q1 : fr = 0
          · by_cases q2 : to2 = p.steps
            · simp (maxSteps := 4000000) [Try.f89, h3, ha, ha', h0, hk, hb, hb', hwk, hkl, hk1, SegV.enc, q1, q2, hw]
              exact lf_next (i + 1) (by rw [hF]; exact Ent.cut (k := 1) (Nat.zero_le _) (by simp) (by simp [PlanV.cells]) (by simp [PlanV.cells, Blk.lt, AVal.ltL, AVal.lt]) (by simp [lk, AVal.lt, TrackV.enc])) ((hI _).2 ⟨hc, fun j t hj ht => by
                by_cases e : j = i
                · subst e; rw [hs] at ht; cases ht; exact htr.2 ⟨q1, q2⟩
                · exact hto j t (by omega) ht⟩) (by omega)
            · simp (maxSteps := 4000000) [Try.f89, h3, ha, ha', h0, hk, hb, hb', hwk, hkl, hk1, SegV.enc, q1, q2, hw, hbad (fun h => q2 (htr.1 h).2)]
          · simp (maxSteps := 4000000) [Try.f89, h3, ha, ha', h0, hk, hb, hb', hwk, hkl, hk1, SegV.enc, q1, hw, hbad (fun h => q1 (htr.1 h).1)]
        · simp (maxSteps := 4000000) [h3, hbad (fun h => by simp [trackOk, wholeOk, h3] at h)]
      · simp (maxSteps := 4000000) [Try.f89, hc, hs, hs', TrackV.enc, PlanV.cells, hd, hr, hdw, h1, h2, hbad (fun h => h2 h.2.1)]
    · simp (maxSteps := 4000000) [Try.f89, hc, hs, hs', TrackV.enc, PlanV.cells, hd, hr, hdw, h1, hbad (fun h => h1 h.1)]
  · have : i = p.tracks.length := by omega
    subst this
    have hwg : IntKind.i64.wrap (p.gro * 3) = p.gro * 3 := wrap_i64_id (by omega) (by omega)
    simp (maxSteps := 4000000) [Try.f89, PlanV.cells, hwg]
    rw [Bool.eq_iff_iff, decide_eq_true_eq]
    simp [tracksOk]
    exact fun _ j t ht => hto j t (List.getElem?_eq_some_iff.1 ht).1 ht

theorem plan_seen (p : PlanV) (hp : 0 ≤ p.met ∧ p.met ≤ 4) (at_ : Int) (me : ByteArray) : Runs Try.prog 118 [p.enc, .int .i64 at_, .str me] [] (.bool (decide (seenOk p at_ me))) [] := by
  have hw : IntKind.i64.wrap (p.met - 1) = p.met - 1 := wrap_i64_id (by omega) (by omega)
  refine runs_go Fx.mixed (fun _ => none) Try.func118 rfl (by rfl) (by simp [Try.f118]) ?_
  simp (maxSteps := 4000000) [Try.f118, PlanV.enc, PlanV.cells, hw]
  refine call_pure (plan_within _ _ _) ?_
  by_cases h1 : 0 ≤ at_ ∧ at_ ≤ p.met - 1
  · by_cases h2 : me = ByteArray.empty
    · simp (maxSteps := 4000000) [Try.f118, h1, h2]
      refine ⟨fun q => ?_, fun q => ?_⟩
      · simp [seenOk, q]; omega
      · exact q.2.2
    · have hn : ¬ seenOk p at_ me := fun h => h2 h.2.1
      simp (maxSteps := 4000000) [Try.f118, h1, h2, hn]
  · simp (maxSteps := 4000000) [Try.f118, h1]
    exact fun h => h1 (by have := h.1; omega)

theorem plan_stop (p : PlanV) (hp : 0 ≤ p.met ∧ p.met ≤ 4) : Runs Try.prog 90 [p.enc] [] (.bool (decide (stopOk p))) [] := by
  refine runs_go Fx.mixed (fun _ => none) Try.func90 rfl (by rfl) (by simp [Try.f90]) ?_
  by_cases h : p.stopOn = -1
  · simp (maxSteps := 4000000) [Try.f90, PlanV.enc, PlanV.cells, h]
    simp [stopOk, h]
  · simp (maxSteps := 4000000) [Try.f90, PlanV.enc, PlanV.cells, h]
    refine call_pure (plan_seen p hp _ _) ?_
    by_cases h1 : seenOk p p.stopOn p.stop.me
    · by_cases h2 : p.stop.on = true
      · simp (maxSteps := 4000000) [Try.f90, h1, h2]
        refine call_pure (plan_count _) ?_
        by_cases h3 : countOk p.stop.pat
        · simp (maxSteps := 4000000) [Try.f90, h1, h2, h3]
          refine call_pure (plan_value _) ?_
          simp (maxSteps := 4000000) [stopOk, h, h1, h2, h3]
        · simp (maxSteps := 4000000) [Try.f90, h1, h2, h3, stopOk, h]
      · simp (maxSteps := 4000000) [Try.f90, h1, h2, stopOk, h]
    · simp (maxSteps := 4000000) [Try.f90, h1, stopOk, h]

theorem plan_cut (p : PlanV) (hp : 0 ≤ p.met ∧ p.met ≤ 4) : Runs Try.prog 91 [p.enc] [] (.bool (decide (cutOk p))) [] := by
  refine runs_go Fx.mixed (fun _ => none) Try.func91 rfl (by rfl) (by simp [Try.f91]) ?_
  by_cases h : p.cutOn = -1
  · simp (maxSteps := 4000000) [Try.f91, PlanV.enc, PlanV.cells, h]
    simp [cutOk, h]
  · simp (maxSteps := 4000000) [Try.f91, PlanV.enc, PlanV.cells, h]
    refine call_pure (plan_seen p hp _ _) ?_
    by_cases h1 : seenOk p p.cutOn p.plat.me
    · by_cases h2 : p.plat.on = true
      · simp (maxSteps := 4000000) [Try.f91, h1, h2]
        refine call_pure (plan_count _) ?_
        by_cases h3 : countOk p.plat.pat
        · simp (maxSteps := 4000000) [Try.f91, h1, h2, h3]
          refine call_pure (plan_value _) ?_
          by_cases h4 : valueOk p.plat.dl
          · simp (maxSteps := 4000000) [h4]
            refine call_pure (plan_value _) ?_
            by_cases h5 : valueOk p.plat.flo
            · simp (maxSteps := 4000000) [h5]
              refine call_pure (plan_within _ _ _) ?_
              by_cases h6 : 0 ≤ p.plat.fac ∧ p.plat.fac ≤ 4294967295
              · simp (maxSteps := 4000000) [h6]
                refine call_pure (plan_within _ _ _) ?_
                simp (maxSteps := 4000000) [cutOk, h, h1, h2, h3, h4, h5, h6]
              · simp (maxSteps := 4000000) [h6, cutOk, h]
            · simp (maxSteps := 4000000) [h5, cutOk, h]
          · simp (maxSteps := 4000000) [h4, cutOk, h]
        · simp (maxSteps := 4000000) [h3, cutOk, h]
      · simp (maxSteps := 4000000) [Try.f91, h1, h2, cutOk, h]
    · simp (maxSteps := 4000000) [Try.f91, h1, cutOk, h]

theorem plan_keep (p : PlanV) (hp : 0 ≤ p.met ∧ p.met ≤ 4) : Runs Try.prog 92 [p.enc] [] (.bool (decide (keepOk p))) [] := by
  refine runs_go Fx.mixed (fun _ => none) Try.func92 rfl (by rfl) (by simp [Try.f92]) ?_
  by_cases h : p.keepOn = -1
  · simp (maxSteps := 4000000) [Try.f92, PlanV.enc, PlanV.cells, h]
    simp [keepOk, h]
  · simp (maxSteps := 4000000) [Try.f92, PlanV.enc, PlanV.cells, h]
    refine call_pure (plan_seen p hp _ _) ?_
    by_cases h1 : seenOk p p.keepOn p.keep.me
    · by_cases h2 : p.keep.on = true
      · simp (maxSteps := 4000000) [Try.f92, h1, h2]
        refine call_pure (plan_within _ _ _) ?_
        simp (maxSteps := 4000000) [keepOk, h, h1, h2]
      · simp (maxSteps := 4000000) [Try.f92, h1, h2, keepOk, h]
    · simp (maxSteps := 4000000) [Try.f92, h1, keepOk, h]

theorem plan_averages (p : PlanV) : Runs Try.prog 93 [p.enc] [] (.bool (decide (avgOk p))) [] := by
  have tail : ∀ (st : Bool), True := fun _ => trivial
  refine runs_go Fx.mixed (fun _ => none) Try.func93 rfl (by rfl) (by simp [Try.f93]) ?_
  by_cases hz : p.ema.zero
  · simp (maxSteps := 4000000) [Try.f93, PlanV.enc, PlanV.cells, hz]
    refine ⟨fun h => ?_, fun h => ?_⟩
    · rw [Bool.eq_iff_iff, decide_eq_true_eq]
      simp [avgOk, hz, h]
    · refine call_pure (plan_count _) ?_
      by_cases h3 : countOk p.swaE
      · simp (maxSteps := 4000000) [h3]
        refine call_pure (plan_within _ _ _) ?_
        simp (maxSteps := 4000000) [avgOk, hz, h, h3]
      · simp (maxSteps := 4000000) [h3, avgOk, hz, h]
  · by_cases h1 : p.ema.on = true
    · simp (maxSteps := 4000000) [Try.f93, PlanV.enc, PlanV.cells, hz, h1]
      refine call_pure (plan_within _ _ _) ?_
      by_cases h2 : 0 ≤ p.ema.dec ∧ p.ema.dec ≤ 4294967296
      · simp (maxSteps := 4000000) [h2]
        refine ⟨fun h => ?_, fun h => ?_⟩
        · rw [Bool.eq_iff_iff, decide_eq_true_eq]
          simp [avgOk, hz, h1, h2, h]
        · refine call_pure (plan_count _) ?_
          by_cases h3 : countOk p.swaE
          · simp (maxSteps := 4000000) [h3]
            refine call_pure (plan_within _ _ _) ?_
            simp (maxSteps := 4000000) [avgOk, hz, h1, h2, h, h3]
          · simp (maxSteps := 4000000) [h3, avgOk, hz, h]
      · have hn : ¬ avgOk p := fun h => by rcases h.1 with h | h; exact hz h; exact h2 h.2
        simp (maxSteps := 4000000) [h2, hn]
    · have hn : ¬ avgOk p := fun h => by rcases h.1 with h | h; exact hz h; exact h1 h.1
      have hd : ¬ p.ema.dec = 0 := fun h => hz ⟨by simpa using h1, h⟩
      simp (maxSteps := 4000000) [Try.f93, PlanV.enc, PlanV.cells, hz, h1, hd, hn]

theorem plan_Check (p : PlanV) (hl : p.light) (hwf : p.wf) : Runs Try.prog 52 [p.enc] [] (.int .i64 (if p.ok then 0 else 1)) [] := by
  refine runs_go Fx.mixed (fun _ => none) Try.func52 rfl (by rfl) (by simp [Try.f52]) ?_
  simp (maxSteps := 4000000) [Try.f52, PlanV.enc, PlanV.cells]
  refine call_pure (plan_within _ _ _) ?_
  by_cases a1 : 1 ≤ p.steps ∧ p.steps ≤ 1000000
  · simp (maxSteps := 4000000) [a1]
    refine call_pure (plan_within _ _ _) ?_
    by_cases a2 : 0 ≤ p.wei ∧ p.wei ≤ 16
    · simp (maxSteps := 4000000) [a2]
      refine call_pure (plan_within _ _ _) ?_
      by_cases a3 : 0 ≤ p.met ∧ p.met ≤ 4
      · simp (maxSteps := 4000000) [a3]
        refine call_pure (plan_within _ _ _) ?_
        by_cases a4 : 1 ≤ p.gro ∧ p.gro ≤ 8
        · simp (maxSteps := 4000000) [a4]
          refine call_pure (plan_within _ _ _) ?_
          by_cases a5 : 0 ≤ p.ev ∧ p.ev ≤ p.steps
          · simp (maxSteps := 4000000) [a5]
            refine call_pure (plan_spans p hl) ?_
            by_cases a6 : spansOk p
            · simp (maxSteps := 4000000) [a6]
              refine call_pure (plan_frozen p hl) ?_
              by_cases a7 : frozenOk p
              · simp (maxSteps := 4000000) [a7]
                refine call_pure (plan_tracks p hl hwf a4) ?_
                by_cases a8 : tracksOk p
                · simp (maxSteps := 4000000) [a8]
                  refine call_pure (plan_stop p a3) ?_
                  by_cases a9 : stopOk p
                  · simp (maxSteps := 4000000) [a9]
                    refine call_pure (plan_cut p a3) ?_
                    by_cases b1 : cutOk p
                    · simp (maxSteps := 4000000) [b1]
                      refine call_pure (plan_keep p a3) ?_
                      by_cases b2 : keepOk p
                      · simp (maxSteps := 4000000) [b2]
                        refine call_pure (plan_averages p) ?_
                        by_cases b3 : avgOk p
                        · simp (maxSteps := 4000000) [b3]
                          simp [PlanV.ok, a1, a2, a3, a4, a5, a6, a7, a8, a9, b1, b2, b3]
                        · have hn : ¬ p.ok := fun h => b3 h.2.2.2.2.2.2.2.2.2.2.2
                          simp (maxSteps := 4000000) [b3, hn]
                      · have hn : ¬ p.ok := fun h => b2 h.2.2.2.2.2.2.2.2.2.2.1
                        simp (maxSteps := 4000000) [b2, hn]
                    · have hn : ¬ p.ok := fun h => b1 h.2.2.2.2.2.2.2.2.2.1
                      simp (maxSteps := 4000000) [b1, hn]
                  · have hn : ¬ p.ok := fun h => a9 h.2.2.2.2.2.2.2.2.1
                    simp (maxSteps := 4000000) [a9, hn]
                · have hn : ¬ p.ok := fun h => a8 h.2.2.2.2.2.2.2.1
                  simp (maxSteps := 4000000) [a8, hn]
              · have hn : ¬ p.ok := fun h => a7 h.2.2.2.2.2.2.1
                simp (maxSteps := 4000000) [a7, hn]
            · have hn : ¬ p.ok := fun h => a6 h.2.2.2.2.2.1
              simp (maxSteps := 4000000) [a6, hn]
          · have hn : ¬ p.ok := fun h => a5 h.2.2.2.2.1
            simp (maxSteps := 4000000) [a5, hn]
        · have hn : ¬ p.ok := fun h => a4 h.2.2.2.1
          simp (maxSteps := 4000000) [a4, hn]
      · have hn : ¬ p.ok := fun h => a3 h.2.2.1
        simp (maxSteps := 4000000) [a3, hn]
    · have hn : ¬ p.ok := fun h => a2 h.2.1
      simp (maxSteps := 4000000) [a2, hn]
  · have hn : ¬ p.ok := fun h => a1 h.1
    simp (maxSteps := 4000000) [a1, hn]

end Go.Proofs.Ytamakciboibpmaa
