import Derived.Test.YtamakciboibpmaaKSegs
/- Contracts of the program's functions (Ref): what each call returns, for all arguments of its kind. -/
namespace Go.Proofs.Ytamakciboibpmaa
open Go.Awp
set_option linter.unusedSimpArgs false
set_option linter.unusedVariables false
set_option maxRecDepth 100000
set_option maxHeartbeats 4000000
/- What the document's answer computes of pieces. -/

theorem ref09_May (k a b c : Int) : Runs Try.prog 74 [.agg [.int .i64 k, .int .i64 a, .int .i64 b, .int .i64 c]] [] (.bool (decide (curveOk k a b c))) [] := by
  refine runs_go Fx.mixed (fun _ => none) Try.func74 rfl (by rfl) (by simp [Try.f74]) ?_
  by_cases h1 : a < 0
  · have hn : ¬ curveOk k a b c := fun h => by have := h.1; omega
    simp (maxSteps := 4000000) [Try.f74, h1, hn]
  by_cases h2 : 4503599627370496 < a
  · have hn : ¬ curveOk k a b c := fun h => by have := h.1; omega
    simp (maxSteps := 4000000) [Try.f74, h1, h2, hn]
  by_cases h3 : b < 0
  · have hn : ¬ curveOk k a b c := fun h => by have := h.2; unfold bentOk at this; omega
    simp (maxSteps := 4000000) [Try.f74, h1, h2, h3, hn]
  by_cases h4 : 4503599627370496 < b
  · have hn : ¬ curveOk k a b c := fun h => by have := h.1; have := h.2; unfold bentOk at this; omega
    simp (maxSteps := 4000000) [Try.f74, h1, h2, h3, h4, hn]
  by_cases h5 : c < 0
  · have hn : ¬ curveOk k a b c := fun h => by have := h.2; unfold bentOk at this; omega
    simp (maxSteps := 4000000) [Try.f74, h1, h2, h3, h4, h5, hn]
  have e : curveOk k a b c ↔ ((k = 1 ∧ b = 0 ∧ c = 0) ∨ ((k = 2 ∨ k = 5) ∧ c = 0) ∨ (k = 3 ∧ 1 ≤ c ∧ c ≤ 16) ∨ (k = 4 ∧ b ≤ a ∧ c ≤ 4294967296)) := by
    unfold curveOk bentOk; omega
  by_cases k1 : k = 1
  · subst k1
    simp (maxSteps := 4000000) [Try.f74, h1, h2, h3, h4, h5, e]
    first
      | done
      | (rw [Bool.eq_iff_iff]; simp; omega)
      | (intros; omega)
      | (constructor <;> intros <;> simp_all)
  by_cases k2 : k = 2
  · subst k2
    simp (maxSteps := 4000000) [Try.f74, h1, h2, h3, h4, h5, e]
    first
      | done
      | rfl
      | (rw [Bool.eq_iff_iff]; simp)
  by_cases k5 : k = 5
  · subst k5
    simp (maxSteps := 4000000) [Try.f74, h1, h2, h3, h4, h5, e]
    first
      | done
      | rfl
      | (rw [Bool.eq_iff_iff]; simp)
  by_cases k3 : k = 3
  · subst k3
    simp (maxSteps := 4000000) [Try.f74, h1, h2, h3, h4, h5, e]
    first
      | done
      | (intros; omega)
  by_cases k4 : k = 4
  · subst k4
    simp (maxSteps := 4000000) [Try.f74, h1, h2, h3, h4, h5, e]
    first
      | done
      | (intros; omega)
  · simp (maxSteps := 4000000) [Try.f74, h1, h2, h3, h4, h5, e, k1, k2, k3, k4, k5]

theorem ref09_Bounds (k a b c : Int) : Runs Try.prog 11 [.agg [.int .i64 k, .int .i64 a, .int .i64 b, .int .i64 c]] [] (.tup [.int .i64 (curveLo k a b), .int .i64 (curveHi k a b)]) [] := by
  refine runs_go Fx.mixed (fun | 2 => some [] | 4 => some [] | 5 => some [] | _ => none) Try.func11 rfl (by rfl) (by simp [Try.f11]) ?_
  by_cases h1 : k = 1
  · subst h1
    simp (maxSteps := 4000000) [Try.f11, curveLo, curveHi]
  by_cases h2 : a = b
  · subst h2
    simp (maxSteps := 4000000) [Try.f11, curveLo, curveHi, h1]
  by_cases h3 : a < b
  · simp (maxSteps := 4000000) [Try.f11, curveLo, curveHi, h1, h2, h3]
    omega
  · simp (maxSteps := 4000000) [Try.f11, curveLo, curveHi, h1, h2, h3]
    omega

theorem ref24_One (s : SegV) (hs : s.wf) : Runs Try.prog 42 [s.enc] [] (.bool (decide s.ok)) [] := by
  obtain ⟨fr, to, bg, n, k, a, b, c, fi, ti⟩ := s
  obtain ⟨w1, w2, w3, w4, w5, w6, w7, w8, w9, w10⟩ := hs
  simp only at *
  have b1 := wf_i64 w1
  have b2 := wf_i64 w2
  have b3 := wf_i64 w3
  refine runs_go Fx.mixed (fun _ => none) Try.func42 rfl (by rfl) (by simp [Try.f42]) ?_
  by_cases h1 : fr < 0
  · have hn : ¬ SegV.ok ⟨fr, to, bg, n, k, a, b, c, fi, ti⟩ := fun h => by have := h.1.1; simp at this; omega
    simp (maxSteps := 4000000) [Try.f42, SegV.enc, hn, h1]
  by_cases h3 : 1048576 < to
  · have hn : ¬ SegV.ok ⟨fr, to, bg, n, k, a, b, c, fi, ti⟩ := fun h => by have := h.1.2.2; simp at this; omega
    simp (maxSteps := 4000000) [Try.f42, SegV.enc, hn, h1, h3]
  by_cases h2 : to ≤ fr
  · have hn : ¬ SegV.ok ⟨fr, to, bg, n, k, a, b, c, fi, ti⟩ := fun h => by have := h.1.2.1; simp at this; omega
    simp (maxSteps := 4000000) [Try.f42, SegV.enc, hn, h1, h2, h3]
  by_cases h4 : bg < 0
  · have hn : ¬ SegV.ok ⟨fr, to, bg, n, k, a, b, c, fi, ti⟩ := fun h => by have := h.2.1; simp at this; omega
    simp (maxSteps := 4000000) [Try.f42, SegV.enc, hn, h1, h2, h3, h4]
  by_cases h5 : fr < bg
  · have hn : ¬ SegV.ok ⟨fr, to, bg, n, k, a, b, c, fi, ti⟩ := fun h => by have := h.2.1; simp at this; omega
    simp (maxSteps := 4000000) [Try.f42, SegV.enc, hn, h1, h2, h3, h4, h5]
  simp (maxSteps := 4000000) [Try.f42, SegV.enc, h1, h2, h3, h4, h5]
  refine call_pure (ref09_May _ _ _ _) ?_
  by_cases h6 : curveOk k a b c
  · have hw : IntKind.i64.wrap (to - bg) = to - bg := wrap_i64_id (by omega) (by omega)
    have e : SegV.ok ⟨fr, to, bg, n, k, a, b, c, fi, ti⟩ ↔ ((fi = 0 ∧ ti = 0 ∧ to - bg ≤ n ∧ n ≤ 1048576) ∨ (fi ≠ 0 ∧ (1 ≤ fi ∧ fi ≤ 1048576) ∧ (1 ≤ ti ∧ ti ≤ 16) ∧ n = 0)) := by
      unfold SegV.ok; simp only; constructor
      · exact fun h => h.2.2.2
      · exact fun h => ⟨by omega, by omega, h6, h⟩
    by_cases h7 : fi = 0
    · subst h7
      simp (maxSteps := 4000000) [Try.f42, h6, hw, e]
      refine ⟨fun q1 => ⟨fun q2 => by simp [q1, q2], fun q2 => by omega⟩, fun q1 => by omega⟩
    · simp (maxSteps := 4000000) [Try.f42, h6, h7, e]
      refine ⟨fun q1 => ⟨fun q2 => ⟨fun q3 => ⟨fun q4 => ?_, by intros; omega⟩, by intros; omega⟩, by intros; omega⟩, by intros; omega⟩
      rw [Bool.eq_iff_iff]; simp [q1, q2, q3, q4]
  · have hn : ¬ SegV.ok ⟨fr, to, bg, n, k, a, b, c, fi, ti⟩ := fun h => h6 h.2.2.1
    simp (maxSteps := 4000000) [Try.f42, h6, hn]

theorem ref24_May (l : List SegV) (hl : ∀ s ∈ l, s.wf) (hlen : l.length ≤ 1000) : Runs Try.prog 10 [.imm 10 (l.map SegV.enc)] [] (.bool (decide (segsOk l))) [] := by
  refine runs_go Fx.mixed (fun | 4 => some [] | _ => none) Try.func10 rfl (by rfl) (by simp [Try.f10]) ?_
  simp (maxSteps := 4000000) [Try.f10]
  refine g_loop (fun st => ∃ i : Nat, i ≤ l.length ∧ st = ⟨[(0, .imm 10 (l.map SegV.enc)), (3, .int .i64 i)], []⟩ ∧ segsTo l i) (fun st => l.length - st.nat 3)
    ⟨[(0, .imm 10 (l.map SegV.enc)), (3, .int .i64 0)], []⟩ (Ent.sub ⟨rfl, by simp [lk]⟩) ⟨0, by omega, rfl, segsTo_zero l⟩ ?_
  rintro st ⟨i, hi, rfl, hto⟩
  by_cases hc : i < l.length
  · obtain ⟨s, hs⟩ : ∃ s, l[i]? = some s := ⟨l[i], List.getElem?_eq_getElem hc⟩
    have hwf := hl s (List.mem_of_getElem? hs)
    have hs' : l[i] = s := (List.getElem?_eq_some_iff.1 hs).2
    have hsu := segsTo_succ hs
    have hm := ref24_One s hwf
    obtain ⟨fr, to, bg, n, k, a, b, c, fi, ti⟩ := s
    simp only [SegV.enc] at hm
    simp (maxSteps := 4000000) [Try.f10, hc, hs', hs, SegV.enc]
    refine callQ_pure hm ?_
    by_cases hok : SegV.ok ⟨fr, to, bg, n, k, a, b, c, fi, ti⟩
    · by_cases h0 : i = 0
      · subst h0
        simp (maxSteps := 4000000) [Try.f10, hok, wrap_i64]
        exact lp_next ⟨[(0, .imm 10 (l.map SegV.enc)), (3, .int .i64 1)], []⟩ (Ent.sub ⟨rfl, by simp [lk, SegV.enc]⟩)
          ⟨1, by omega, rfl, hsu.2 ⟨hto, hok, fun j r hj => by omega⟩⟩ (by simp [St.nat, lk]; omega)
      · obtain ⟨j, rfl⟩ : ∃ j, i = j + 1 := ⟨i - 1, by omega⟩
        obtain ⟨p, hp⟩ : ∃ p, l[j]? = some p := ⟨l[j], List.getElem?_eq_getElem (by omega)⟩
        have hp' : l[j] = p := (List.getElem?_eq_some_iff.1 hp).2
        have hw : IntKind.i64.wrap (j : Int) = j := wrap_i64_id (by omega) (by omega)
        have hw2 : IntKind.i64.wrap ((j : Int) + 1 + 1) = (j : Int) + 1 + 1 := wrap_i64_id (by omega) (by omega)
        have hj : j < l.length := by omega
        have hn1 : ((j : Int) + 1).toNat = j + 1 := by omega
        obtain ⟨pfr, pto, pbg, pn, pk, pa, pb, pc, pfi, pti⟩ := p
        simp (maxSteps := 4000000) [Try.f10, hok, hw, hw2, hj, hp', hp, hs, hs', hc, hn1, SegV.enc]
        refine ⟨by omega, fun hne hso => hne (by have := hso.2.2 j _ _ hp hs; simpa using this.symm), fun he => ?_⟩
        exact lp_next ⟨[(0, .imm 10 (l.map SegV.enc)), (3, .int .i64 ((j + 1 + 1 : Nat) : Int))], []⟩ (Ent.sub ⟨rfl, by simp [lk, SegV.enc]⟩)
          ⟨j + 1 + 1, by omega, rfl, hsu.2 ⟨hto, hok, fun j' r hj' hr => by
            have : j' = j := by omega
            subst this; rw [hp] at hr; cases hr; exact he.symm⟩⟩ (by simp [St.nat, lk]; omega)
    · have hn : ¬ segsOk l := fun h => hok (h.2.1 _ (List.mem_of_getElem? hs))
      simp (maxSteps := 4000000) [Try.f10, hok, hn]
  · have : i = l.length := by omega
    subst this
    simp (maxSteps := 4000000) [Try.f10]
    exact ⟨fun h => (segsTo_all l).2 ⟨by intro e; subst e; simp at h, hto⟩, fun h => List.length_pos_iff.2 h.1⟩

end Go.Proofs.Ytamakciboibpmaa
