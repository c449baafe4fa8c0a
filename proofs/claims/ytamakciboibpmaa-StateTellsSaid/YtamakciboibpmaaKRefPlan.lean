import Derived.Test.YtamakciboibpmaaKPlan
/- Contracts of the program's functions (RefPlan): what each call returns, for all arguments of its kind. -/
namespace Go.Proofs.Ytamakciboibpmaa
open Go.Awp
set_option linter.unusedSimpArgs false
set_option linter.unusedVariables false
set_option maxRecDepth 100000
set_option maxHeartbeats 4000000
/- What the reference asks of plans. -/

theorem ref28_count (n : Int) : Runs Try.prog 57 [.int .i64 n] [] (.bool (decide (countOk n))) [] := by
  refine runs_go Fx.mixed (fun _ => none) Try.func57 rfl (by rfl) (by simp [Try.f57]) ?_
  simp (maxSteps := 4000000) [Try.f57]
  exact ⟨fun h => ⟨fun h' => ⟨h, h'⟩, fun h' => h'.2⟩, fun h h' => by have := h'.1; omega⟩

theorem ref28_value (n : Int) : Runs Try.prog 58 [.int .i64 n] [] (.bool (decide (valueOk n))) [] := by
  refine runs_go Fx.mixed (fun _ => none) Try.func58 rfl (by rfl) (by simp [Try.f58]) ?_
  simp (maxSteps := 4000000) [Try.f58]
  exact ⟨fun h => ⟨fun h' => ⟨h, h'⟩, fun h' => h'.2⟩, fun h h' => by have := h'.1; omega⟩

theorem ref28_watched (p : PlanV) (at_ : Int) (me : ByteArray) (on : Bool) : Runs Try.prog 56 [p.enc, .int .i64 at_, .str me, .bool on] [] (.bool (decide (seenOk p at_ me ∧ on = true))) [] := by
  refine runs_go Fx.mixed (fun _ => none) Try.func56 rfl (by rfl) (by simp [Try.f56]) ?_
  by_cases h1 : 0 ≤ at_ <;> by_cases h2 : at_ < p.met <;> by_cases h3 : me = ByteArray.empty <;> cases on <;> simp (maxSteps := 4000000) [Try.f56, PlanV.enc, PlanV.cells, seenOk, h1, h2, h3]

theorem ref28_whole (l : List SegV) (n : Int) (hl : ∀ s ∈ l, s.wf) (hlen : l.length ≤ 1000) : Runs Try.prog 94 [.imm 10 (l.map SegV.enc), .int .i64 n] [] (.bool (wholeOk l n)) [] := by
  refine runs_go Fx.mixed (fun _ => none) Try.func94 rfl (by rfl) (by simp [Try.f94]) ?_
  simp (maxSteps := 4000000) [Try.f94]
  refine call_pure (ref24_May l hl hlen) ?_
  by_cases h3 : segsOk l
  · obtain ⟨a, ha⟩ : ∃ a, l[0]? = some a := by
      cases l with
      | nil => exact absurd rfl h3.1
      | cons a r => exact ⟨a, rfl⟩
    have h0 : 0 < l.length := (List.getElem?_eq_some_iff.1 ha).1
    have ha' : l[0] = a := (List.getElem?_eq_some_iff.1 ha).2
    obtain ⟨k, hk⟩ : ∃ k, l.length = k + 1 := ⟨l.length - 1, by omega⟩
    obtain ⟨b, hb⟩ : ∃ b, l[k]? = some b := ⟨_, List.getElem?_eq_getElem (by omega)⟩
    have hb' : l[k] = b := (List.getElem?_eq_some_iff.1 hb).2
    have hwk : IntKind.i64.wrap (k : Int) = (k : Int) := wrap_i64_id (by omega) (by omega)
    have hwo : wholeOk l n = decide (a.fr = 0 ∧ b.to = n) := by
      have e1 : l.head? = some a := by rw [List.head?_eq_getElem?]; exact ha
      have e2 : l.getLast? = some b := by rw [List.getLast?_eq_getElem?, hk]; exact hb
      simp [wholeOk, h3, e1, e2]
    rw [hwo]
    obtain ⟨fr, to, bg, n1, k1, a1, b1, c1, fi, ti⟩ := a
    obtain ⟨fr2, to2, bg2, n2, k2, a2, b2, c2, fi2, ti2⟩ := b
    have hkl : k < l.length := by omega
    have hk1 : (k : Int) < (k : Int) + 1 := by omega
    by_cases q1 : fr = 0
    · simp (maxSteps := 4000000) [Try.f94, h3, ha, ha', h0, hk, hb, hb', hwk, hkl, hk1, SegV.enc, q1]
      try rfl
    · simp (maxSteps := 4000000) [Try.f94, h3, ha, ha', h0, hk, hb, hb', hwk, hkl, hk1, SegV.enc, q1]
  · simp (maxSteps := 4000000) [h3, wholeOk]

theorem ref28_lists (p : PlanV) (hl : p.light) (hwf : p.wf) (hs : 1 ≤ p.steps) (hg : 1 ≤ p.gro ∧ p.gro ≤ 8) : Runs Try.prog 55 [p.enc] [] (.bool (decide (spansOk p ∧ frozenOk p ∧ tracksOk p))) [] := by
  have hls := hl.2.2.2.2.1
  have hlt := hl.2.2.1
  have hlf := hl.2.2.2.1
  refine runs_go Fx.mixed (fun | 1 => some [] | 6 => some [] | _ => none) Try.func55 rfl (by rfl) (by simp [Try.f55]) ?_
  by_cases a1 : p.spans = []
  · have hn : ¬ spansOk p := fun h => by have := ((spansOk_iff hs).1 h).1; simp [a1] at this
    simp (maxSteps := 4000000) [Try.f55, PlanV.enc, PlanV.cells, a1, hn]
  obtain ⟨k, hk⟩ : ∃ k, p.spans.length = k + 1 := ⟨p.spans.length - 1, by have := List.length_pos_iff.2 a1; omega⟩
  obtain ⟨a, ha⟩ : ∃ a, p.spans[0]? = some a := ⟨_, List.getElem?_eq_getElem (by omega)⟩
  obtain ⟨b, hb⟩ : ∃ b, p.spans[k]? = some b := ⟨_, List.getElem?_eq_getElem (by omega)⟩
  have ha' : p.spans[0] = a := (List.getElem?_eq_some_iff.1 ha).2
  have hb' : p.spans[k] = b := (List.getElem?_eq_some_iff.1 hb).2
  have hsp := spansOk_iff (p := p) hs
  rw [hk, ha, Nat.add_sub_cancel, hb] at hsp
  have hwk : IntKind.i64.wrap (k : Int) = (k : Int) := wrap_i64_id (by omega) (by omega)
  have hkl : k < p.spans.length := by omega
  have hk1 : (k : Int) < (k : Int) + 1 := by omega
  have hk0 : ¬ (k : Int) + 1 < 1 := by omega
  have hwg : IntKind.i64.wrap (3 * p.gro) = 3 * p.gro := wrap_i64_id (by omega) (by omega)
  obtain ⟨fr, to⟩ := a
  obtain ⟨fr2, to2⟩ := b
  simp at hsp
  by_cases a2 : (16 : Int) < (k : Int) + 1
  · have hn : ¬ spansOk p := fun h => by have := (hsp.1 h).1; omega
    simp (maxSteps := 4000000) [Try.f55, PlanV.enc, PlanV.cells, hk, hk0, a2, hn]
  by_cases a3 : fr = 0
  · by_cases a4 : to2 = p.steps
    · by_cases a5 : (p.fro.length : Int) = (k : Int) + 1
      · by_cases a6 : (p.tracks.length : Int) = 3 * p.gro
        · simp (maxSteps := 4000000) [Try.f55, PlanV.enc, PlanV.cells, hk, hk0, a2, ha, ha', hb, hb', hkl, hk1, hwk, SpanV.enc, a3, a4, a5, a6, hwg]
          obtain ⟨F, hF⟩ : ∃ F : Nat → St, ∀ x, F x = ⟨[(1, .ptr 0 0), (3, .int .i64 x)], [.box false p.cells]⟩ := ⟨_, fun _ => rfl⟩
          obtain ⟨I, hI⟩ : ∃ I : Nat → Prop, ∀ x, I x ↔ (x ≤ k + 1 ∧ ∀ (j : Nat) (s : SpanV) (r : List Bool), j < x → p.spans[j]? = some s → p.fro[j]? = some r → s.fr < s.to ∧ (∀ (i : Nat) (q : SpanV), i + 1 = j → p.spans[i]? = some q → q.to = s.fr) ∧ (r.length : Int) = p.gro) := ⟨_, fun _ => Iff.rfl⟩
          refine g_for F I (fun x => k + 1 - x) 0 (by rw [hF]; exact Ent.sub ⟨by simp [PlanV.cells], by simp [lk]⟩) ((hI _).2 ⟨by omega, fun j s r h => by omega⟩) ?_
          intro i hi
          obtain ⟨hi, hto⟩ := (hI _).1 hi
          rw [hF]
          by_cases hc : i < k + 1
          · have hc' : (i : Int) < (k : Int) + 1 := by omega
            have hc1 : i < p.spans.length := by omega
            have hc2 : i < p.fro.length := by omega
            obtain ⟨s, hs1⟩ : ∃ s, p.spans[i]? = some s := ⟨_, List.getElem?_eq_getElem hc1⟩
            have hs1' : p.spans[i] = s := (List.getElem?_eq_some_iff.1 hs1).2
            obtain ⟨r, hr1⟩ : ∃ s, p.fro[i]? = some s := ⟨_, List.getElem?_eq_getElem hc2⟩
            have hr1' : p.fro[i] = r := (List.getElem?_eq_some_iff.1 hr1).2
            have hw : IntKind.i64.wrap ((i : Int) + 1) = (i : Int) + 1 := wrap_i64_id (by omega) (by omega)
            have bad1 : ¬ s.fr < s.to → ¬ spansOk p := fun h h' => h (((hsp.1 h').2.2.2).1 i s hs1)
            have bad2 : ∀ (j : Nat) (q : SpanV), j + 1 = i → p.spans[j]? = some q → ¬ q.to = s.fr → ¬ spansOk p := fun j q e hq h h' => h (((hsp.1 h').2.2.2).2 j q s hq (by rw [e]; exact hs1))
            have bad3 : ¬ (r.length : Int) = p.gro → ¬ frozenOk p := fun h h' => h (h'.1 r (List.mem_of_getElem? hr1))
            obtain ⟨f1, t1⟩ := s
            simp only at bad1 bad2
            by_cases b1 : f1 < t1
            · have b1' : ¬ t1 ≤ f1 := by omega
              by_cases i0 : i = 0
              · subst i0
                by_cases b3 : (r.length : Int) = p.gro
                · simp (maxSteps := 4000000) [PlanV.cells, hk, hk1, hc', hs1, hs1', hr1, hr1', SpanV.enc, rowEnc, b1', b3, hc1, hc2, a5, wrap_i64]
                  exact lf_next 1 (by rw [hF]; exact Ent.sub ⟨by simp [PlanV.cells], by simp [lk]⟩) ((hI _).2 ⟨hc, fun j s' r' hj h1 h2 => by
                    have : j = 0 := by omega
                    subst this; rw [hs1] at h1; rw [hr1] at h2; cases h1; cases h2
                    exact ⟨b1, fun i q e => by omega, b3⟩⟩) (by omega)
                · simp (maxSteps := 4000000) [PlanV.cells, hk, hk1, hc', hs1, hs1', hr1, hr1', SpanV.enc, rowEnc, b1', b3, hc1, hc2, a5, bad3 b3]
              · obtain ⟨j, rfl⟩ : ∃ j, i = j + 1 := ⟨i - 1, by omega⟩
                obtain ⟨q, hq⟩ : ∃ q, p.spans[j]? = some q := ⟨_, List.getElem?_eq_getElem (by omega)⟩
                have hq' : p.spans[j] = q := (List.getElem?_eq_some_iff.1 hq).2
                have hj1 : j < p.spans.length := by omega
                have hw2 : IntKind.i64.wrap ((j : Int) + 1 + 1) = (j : Int) + 1 + 1 := wrap_i64_id (by omega) (by omega)
                have hwj : IntKind.i64.wrap (j : Int) = (j : Int) := wrap_i64_id (by omega) (by omega)
                have hjk : (j : Int) < (k : Int) + 1 := by omega
                have hj0 : ((j : Int) + 1).toNat = j + 1 := by omega
                have hj2 : (0 : Int) ≤ (j : Int) + 1 := by omega
                have hj3 : (0 : Int) < (j : Int) + 1 := by omega
                have bad2 := bad2 j q rfl hq
                obtain ⟨f2, t2⟩ := q
                simp only at bad2
                have hc'' : (j : Int) < (k : Int) := by omega
                by_cases b2 : f1 = t2
                · subst b2
                  by_cases b3 : (r.length : Int) = p.gro
                  · simp (maxSteps := 4000000) [PlanV.cells, hk, hk1, hc'', hs1, hs1', hr1, hr1', hq, hq', SpanV.enc, rowEnc, b1', b3, hc1, hc2, a5, hw, hw2, hwj, hjk, hj0, hj1, hj2, hj3]
                    exact lf_next (j + 1 + 1) (by rw [hF]; exact Ent.sub ⟨by simp [PlanV.cells], by simp [lk]⟩) ((hI _).2 ⟨hc, fun j' s' r' hj h1 h2 => by
                      by_cases e : j' = j + 1
                      · subst e; rw [hs1] at h1; rw [hr1] at h2; cases h1; cases h2
                        exact ⟨b1, fun i' q' e hi' => by
                          have : i' = j := by omega
                          subst this; rw [hq] at hi'; cases hi'; rfl, b3⟩
                      · exact hto j' s' r' (by omega) h1 h2⟩) (by omega)
                  · simp (maxSteps := 4000000) [PlanV.cells, hk, hk1, hc'', hs1, hs1', hr1, hr1', hq, hq', SpanV.enc, rowEnc, b1', b3, hc1, hc2, a5, hw, hw2, hwj, hjk, hj0, hj1, hj2, hj3, bad3 b3]
                · simp (maxSteps := 4000000) [PlanV.cells, hk, hk1, hc'', hs1, hs1', hr1, hr1', hq, hq', SpanV.enc, rowEnc, b1', b2, hc1, hc2, a5, hw, hw2, hwj, hjk, hj0, hj1, hj2, hj3, bad2 (fun e => b2 e.symm)]
            · have b1' : t1 ≤ f1 := by omega
              simp (maxSteps := 4000000) [PlanV.cells, hk, hk1, hc', hs1, hs1', SpanV.enc, b1', hc1, bad1 b1]
          · have : i = k + 1 := by omega
            subst this
            have hS : spansOk p := hsp.2 ⟨by omega, a3, a4, fun i s h => by
              have hi := (List.getElem?_eq_some_iff.1 h).1
              exact (hto i s _ (by omega) h (List.getElem?_eq_getElem (by omega))).1, fun i s t h h' => by
              have hi := (List.getElem?_eq_some_iff.1 h').1
              exact (hto (i + 1) t _ (by omega) h' (List.getElem?_eq_getElem (by omega))).2.1 i s rfl h⟩
            have hFr : frozenOk p := ⟨fun r hr => by
              obtain ⟨i, hi, rfl⟩ := List.mem_iff_getElem.1 hr
              exact (hto i _ _ (by omega) (List.getElem?_eq_getElem (by omega)) (List.getElem?_eq_getElem hi)).2.2, by omega⟩
            simp (maxSteps := 4000000) [PlanV.cells, hk, hk1, hS, hFr]
            clear hto hi hI hF
            obtain ⟨F, hF⟩ : ∃ F : Nat → St, ∀ x, F x = ⟨[(1, .ptr 0 0), (4, .int .i64 x)], [.box false p.cells]⟩ := ⟨_, fun _ => rfl⟩
            obtain ⟨I, hI⟩ : ∃ I : Nat → Prop, ∀ x, I x ↔ (x ≤ p.tracks.length ∧ ∀ (j : Nat) (t : TrackV), j < x → p.tracks[j]? = some t → trackOk p j t) := ⟨_, fun _ => Iff.rfl⟩
            refine g_for F I (fun x => p.tracks.length - x) 0 (by rw [hF]; exact Ent.sub ⟨by simp [PlanV.cells], by simp [lk]⟩) ((hI _).2 ⟨by omega, fun j t h => by omega⟩) ?_
            intro i hi
            obtain ⟨hi, hto⟩ := (hI _).1 hi
            rw [hF]
            by_cases hc : i < p.tracks.length
            · have hc' : (i : Int) < 3 * p.gro := by omega
              obtain ⟨t, hs1⟩ : ∃ s, p.tracks[i]? = some s := ⟨_, List.getElem?_eq_getElem hc⟩
              have hs1' : p.tracks[i] = t := (List.getElem?_eq_some_iff.1 hs1).2
              have hm := List.mem_of_getElem? hs1
              have hsl := hl.1 t hm
              have htw := (hwf.2.2.2.2.2.2.1 t hm).2.2
              have hw : IntKind.i64.wrap ((i : Int) + 1) = (i : Int) + 1 := wrap_i64_id (by omega) (by omega)
              have hbad : ¬ trackOk p i t → ¬ tracksOk p := fun h h' => h (h'.1 i t hs1)
              have hd : ((i : Int).tdiv 3) = (i : Int) / 3 := by rw [Int.tdiv_eq_ediv_of_nonneg (by omega)]
              have hr : ((i : Int).tmod 3) = (i : Int) % 3 := Int.tmod_eq_emod_of_nonneg (by omega)
              have hdw : IntKind.i64.wrap ((i : Int) / 3) = (i : Int) / 3 := wrap_i64_id (by omega) (by omega)
              obtain ⟨gr, pa, sg⟩ := t
              simp only at hsl htw
              by_cases h1 : gr = (i : Int) / 3
              · by_cases h2 : pa = (i : Int) % 3
                · simp (maxSteps := 4000000) [PlanV.cells, hc, hc', a6, hs1, hs1', TrackV.enc, hd, hr, hdw, h1, h2]
                  refine call_pure (ref28_whole sg p.steps htw (by omega)) ?_
                  have htr : trackOk p i ⟨gr, pa, sg⟩ ↔ wholeOk sg p.steps = true := by simp [trackOk, h1, h2]
                  by_cases h3 : wholeOk sg p.steps = true
                  · simp (maxSteps := 4000000) [h3, hw]
                    exact lf_next (i + 1) (by rw [hF]; exact Ent.cut (k := 1) (Nat.zero_le _) (by simp) (by simp [PlanV.cells]) (by simp [PlanV.cells, Blk.lt, AVal.ltL, AVal.lt]) (by simp [lk, AVal.lt, TrackV.enc])) ((hI _).2 ⟨hc, fun j t hj ht => by
                      by_cases e : j = i
                      · subst e; rw [hs1] at ht; cases ht; exact htr.2 h3
                      · exact hto j t (by omega) ht⟩) (by omega)
                  · simp (maxSteps := 4000000) [h3, hbad (fun h => h3 (htr.1 h))]
                · simp (maxSteps := 4000000) [PlanV.cells, hc, hc', a6, hs1, hs1', TrackV.enc, hd, hr, hdw, h1, h2, hbad (fun h => h2 h.2.1)]
              · simp (maxSteps := 4000000) [PlanV.cells, hc, hc', a6, hs1, hs1', TrackV.enc, hd, hr, hdw, h1, hbad (fun h => h1 h.1)]
            · have : i = p.tracks.length := by omega
              subst this
              have hT : tracksOk p := ⟨fun j t h => hto j t (List.getElem?_eq_some_iff.1 h).1 h, by omega⟩
              simp (maxSteps := 4000000) [PlanV.cells, hT, a6]
        · have hn : ¬ tracksOk p := fun h => by have := h.2; omega
          simp (maxSteps := 4000000) [Try.f55, PlanV.enc, PlanV.cells, hk, hk0, a2, ha, ha', hb, hb', hkl, hk1, hwk, SpanV.enc, a3, a4, a5, a6, hwg, hn]
      · have hn : ¬ frozenOk p := fun h => by have := h.2; omega
        simp (maxSteps := 4000000) [Try.f55, PlanV.enc, PlanV.cells, hk, hk0, a2, ha, ha', hb, hb', hkl, hk1, hwk, SpanV.enc, a3, a4, a5, hn]
    · have hn : ¬ spansOk p := fun h => a4 (hsp.1 h).2.2.1
      simp (maxSteps := 4000000) [Try.f55, PlanV.enc, PlanV.cells, hk, hk0, a2, ha, ha', hb, hb', hkl, hk1, hwk, SpanV.enc, a3, a4, hn]
  · have hn : ¬ spansOk p := fun h => a3 (hsp.1 h).2.1
    simp (maxSteps := 4000000) [Try.f55, PlanV.enc, PlanV.cells, hk, hk0, a2, ha, ha', hkl, hk1, hwk, SpanV.enc, a3, hn]

end Go.Proofs.Ytamakciboibpmaa
