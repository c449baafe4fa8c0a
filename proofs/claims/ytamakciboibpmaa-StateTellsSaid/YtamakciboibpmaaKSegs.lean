import Derived.Test.YtamakciboibpmaaKCurve
import Derived.Test.YtamakciboibpmaaKC
/- Contracts of the program's functions (Segs): what each call returns, for all arguments of its kind. -/
namespace Go.Proofs.Ytamakciboibpmaa
open Go.Awp
set_option linter.unusedSimpArgs false
set_option linter.unusedVariables false
set_option maxRecDepth 100000
set_option maxHeartbeats 4000000
/- Pieces. -/

theorem segs_within (n lo hi : Int) : Runs Try.prog 98 [.int .i64 n, .int .i64 lo, .int .i64 hi] [] (.bool (decide (lo ≤ n ∧ n ≤ hi))) [] := by
  refine runs_go Fx.mixed (fun _ => none) Try.func98 rfl (by rfl) (by simp [Try.f98]) ?_
  simp (maxSteps := 4000000) [Try.f98]
  omega

theorem segs_may (s : SegV) (hs : s.wf) : Runs Try.prog 72 [s.enc] [] (.bool (decide s.ok)) [] := by
  obtain ⟨fr, to, bg, n, k, a, b, c, fi, ti⟩ := s
  obtain ⟨w1, w2, w3, w4, w5, w6, w7, w8, w9, w10⟩ := hs
  simp only at *
  refine runs_go Fx.mixed (fun _ => none) Try.func72 rfl (by rfl) (by simp [Try.f72]) ?_
  have b1 := wf_i64 w1
  have b2 := wf_i64 w2
  have b3 := wf_i64 w3
  by_cases h1 : fr < 0
  · have hn : ¬ SegV.ok ⟨fr, to, bg, n, k, a, b, c, fi, ti⟩ := fun h => by have := h.1.1; simp at this; omega
    simp (maxSteps := 4000000) [Try.f72, SegV.enc, hn, h1]
  by_cases h2 : to ≤ fr
  · have hn : ¬ SegV.ok ⟨fr, to, bg, n, k, a, b, c, fi, ti⟩ := fun h => by have := h.1.2.1; simp at this; omega
    simp (maxSteps := 4000000) [Try.f72, SegV.enc, hn, h1, h2]
  by_cases h3 : 1048576 < to
  · have hn : ¬ SegV.ok ⟨fr, to, bg, n, k, a, b, c, fi, ti⟩ := fun h => by have := h.1.2.2; simp at this; omega
    simp (maxSteps := 4000000) [Try.f72, SegV.enc, hn, h1, h2, h3]
  simp (maxSteps := 4000000) [Try.f72, SegV.enc, h1, h2, h3]
  refine call_pure (segs_within _ _ _) ?_
  by_cases h4 : 0 ≤ bg ∧ bg ≤ fr
  · simp (maxSteps := 4000000) [Try.f72, h4.1, h4.2]
    refine call_pure (curve_Check _ _ _ _) ?_
    by_cases h5 : curveOk k a b c
    · by_cases h6 : fi = 0
      · subst h6
        by_cases h7 : ti = 0
        · simp (maxSteps := 4000000) [Try.f72, h5, h7]
          rw [wrap_i64_id (by omega) (by omega)]
          refine call_pure (segs_within _ _ _) ?_
          simp (maxSteps := 4000000) [Try.f72]
          rw [Bool.eq_iff_iff]; simp [SegV.ok, h4, h5, h7]; omega
        · have hn : ¬ SegV.ok ⟨fr, to, bg, n, k, a, b, c, 0, ti⟩ := fun h => by have := h.2.2.2; simp at this; omega
          simp (maxSteps := 4000000) [Try.f72, h5, h7, hn]
      · simp (maxSteps := 4000000) [Try.f72, h5, h6]
        refine call_pure (segs_within _ _ _) ?_
        by_cases h7 : 1 ≤ fi ∧ fi ≤ 1048576
        · simp (maxSteps := 4000000) [Try.f72, h7.1, h7.2]
          refine call_pure (segs_within _ _ _) ?_
          by_cases h8 : 1 ≤ ti ∧ ti ≤ 16
          · simp (maxSteps := 4000000) [Try.f72, h8.1, h8.2]
            rw [Bool.eq_iff_iff]; simp [SegV.ok, h4, h5, h6, h7, h8]; omega
          · have hn : ¬ SegV.ok ⟨fr, to, bg, n, k, a, b, c, fi, ti⟩ := fun h => by have := h.2.2.2; simp at this; omega
            have h9 : ¬ ti ≤ 16 ∨ ¬ 1 ≤ ti := by omega
            rcases h9 with h9 | h9
            · simp (maxSteps := 4000000) [Try.f72, h9, hn]
            · simp (maxSteps := 4000000) [Try.f72, h9, hn]
        · have hn : ¬ SegV.ok ⟨fr, to, bg, n, k, a, b, c, fi, ti⟩ := fun h => by have := h.2.2.2; simp at this; omega
          have h9 : ¬ fi ≤ 1048576 ∨ ¬ 1 ≤ fi := by omega
          rcases h9 with h9 | h9
          · simp (maxSteps := 4000000) [Try.f72, h9, hn]
          · simp (maxSteps := 4000000) [Try.f72, h9, hn]
    · have hn : ¬ SegV.ok ⟨fr, to, bg, n, k, a, b, c, fi, ti⟩ := fun h => h5 h.2.2.1
      simp (maxSteps := 4000000) [Try.f72, h5, hn]
  · have hn : ¬ SegV.ok ⟨fr, to, bg, n, k, a, b, c, fi, ti⟩ := fun h => by have := h.2.1; simp at this; omega
    have h9 : ¬ bg ≤ fr ∨ ¬ 0 ≤ bg := by omega
    rcases h9 with h9 | h9
    · simp (maxSteps := 4000000) [Try.f72, h9, hn]
    · simp (maxSteps := 4000000) [Try.f72, h9, hn]

theorem segs_Check (l : List SegV) (hl : ∀ s ∈ l, s.wf) (hlen : l.length ≤ 1000) : Runs Try.prog 39 [.imm 10 (l.map SegV.enc)] [] (.int .i64 (if segsOk l then 0 else 1)) [] := by
  refine runs_go Fx.mixed (fun | 4 => some [] | _ => none) Try.func39 rfl (by rfl) (by simp [Try.f39]) ?_
  simp (maxSteps := 4000000) [Try.f39]
  refine g_loop (fun st => ∃ i : Nat, i ≤ l.length ∧ st = ⟨[(0, .imm 10 (l.map SegV.enc)), (5, .imm 10 (l.map SegV.enc)), (6, .int .i64 l.length), (7, .int .i64 i)], []⟩ ∧ segsTo l i) (fun st => l.length - st.nat 7)
    ⟨[(0, .imm 10 (l.map SegV.enc)), (5, .imm 10 (l.map SegV.enc)), (6, .int .i64 l.length), (7, .int .i64 0)], []⟩ (Ent.sub ⟨rfl, by simp [lk]⟩) ⟨0, by omega, rfl, segsTo_zero l⟩ ?_
  rintro st ⟨i, hi, rfl, hto⟩
  by_cases hc : i < l.length
  · obtain ⟨s, hs⟩ : ∃ s, l[i]? = some s := ⟨l[i], List.getElem?_eq_getElem hc⟩
    have hwf := hl s (List.mem_of_getElem? hs)
    have hs' : l[i] = s := (List.getElem?_eq_some_iff.1 hs).2
    have hsu := segsTo_succ hs
    have hm := segs_may s hwf
    obtain ⟨fr, to, bg, n, k, a, b, c, fi, ti⟩ := s
    simp only [SegV.enc] at hm
    simp (maxSteps := 4000000) [Try.f39, hc, hs', SegV.enc]
    refine callQ_pure hm ?_
    by_cases hok : SegV.ok ⟨fr, to, bg, n, k, a, b, c, fi, ti⟩
    · by_cases h0 : i = 0
      · subst h0
        simp (maxSteps := 4000000) [Try.f39, hok, wrap_i64]
        exact lp_next ⟨[(0, .imm 10 (l.map SegV.enc)), (5, .imm 10 (l.map SegV.enc)), (6, .int .i64 l.length), (7, .int .i64 1)], []⟩ (Ent.cut (k := 0) (Nat.le_refl 0) (Nat.zero_le _) rfl rfl (by simp [lk, AVal.lt]))
          ⟨1, by omega, rfl, hsu.2 ⟨hto, hok, fun j r hj => by omega⟩⟩ (by simp [St.nat, lk]; omega)
      · obtain ⟨j, rfl⟩ : ∃ j, i = j + 1 := ⟨i - 1, by omega⟩
        obtain ⟨p, hp⟩ : ∃ p, l[j]? = some p := ⟨l[j], List.getElem?_eq_getElem (by omega)⟩
        have hp' : l[j] = p := (List.getElem?_eq_some_iff.1 hp).2
        have hw : IntKind.i64.wrap (j : Int) = j := wrap_i64_id (by omega) (by omega)
        have hw2 : IntKind.i64.wrap ((j : Int) + 1 + 1) = (j : Int) + 1 + 1 := wrap_i64_id (by omega) (by omega)
        have hj : j < l.length := by omega
        obtain ⟨pfr, pto, pbg, pn, pk, pa, pb, pc, pfi, pti⟩ := p
        simp (maxSteps := 4000000) [Try.f39, hok, hw, hw2, hj, hp', hp, SegV.enc]
        refine ⟨fun hne hso => hne (by have := hso.2.2 j _ _ hp hs; simpa using this), fun he => ?_⟩
        exact lp_next ⟨[(0, .imm 10 (l.map SegV.enc)), (5, .imm 10 (l.map SegV.enc)), (6, .int .i64 l.length), (7, .int .i64 ((j + 1 + 1 : Nat) : Int))], []⟩ (Ent.cut (k := 0) (Nat.le_refl 0) (Nat.zero_le _) rfl rfl (by simp [lk, AVal.lt]))
          ⟨j + 1 + 1, by omega, rfl, hsu.2 ⟨hto, hok, fun j' r hj' hr => by
            have : j' = j := by omega
            subst this; rw [hp] at hr; cases hr; exact he⟩⟩ (by simp [St.nat, lk]; omega)
    · have hn : ¬ segsOk l := fun h => hok (h.2.1 _ (List.mem_of_getElem? hs))
      simp (maxSteps := 4000000) [Try.f39, hok, hn]
  · have : i = l.length := by omega
    subst this
    simp (maxSteps := 4000000) [Try.f39, hc]
    exact ⟨fun h0 h1 => h1.1 h0, fun h0 => (segsTo_all l).2 ⟨h0, hto⟩⟩

theorem cmp_isNaN (x : Int) : Runs Try.prog 101 [.int .i64 x] [] (.bool false) [] := by
  refine runs_go Fx.mixed (fun _ => none) Try.func101 rfl (by rfl) (by simp [Try.f101]) ?_
  simp (maxSteps := 4000000) [Try.f101]
theorem cmp_Compare (x y : Int) : Runs Try.prog 77 [.int .i64 x, .int .i64 y] [] (.int .i64 (if x < y then -1 else if x > y then 1 else 0)) [] := by
  refine runs_go Fx.mixed (fun _ => none) Try.func77 rfl (by rfl) (by simp [Try.f77]) ?_
  simp (maxSteps := 4000000) [Try.f77]
  refine call_pure (cmp_isNaN x) ?_
  simp (maxSteps := 4000000) [Try.f77]
  refine call_pure (cmp_isNaN y) ?_
  simp (maxSteps := 4000000) [Try.f77]
  refine ⟨fun h1 h2 => by omega, fun h1 => ⟨fun h2 => ?_, fun h2 => ?_⟩⟩
  · rw [if_neg (by omega), if_pos h2]
  · rw [if_neg (by omega), if_neg (by omega)]
theorem find_cmp (s : SegV) (x : Int) : Runs Try.prog 76 [s.enc, .int .i64 x] [] (.int .i64 (if s.fr < x then -1 else if s.fr > x then 1 else 0)) [] := by
  refine runs_go Fx.mixed (fun _ => none) Try.func76 rfl (by rfl) (by simp [Try.f76]) ?_
  simp (maxSteps := 4000000) [Try.f76, SegV.enc]
  refine call_pure (cmp_Compare s.fr x) ?_
  simp (maxSteps := 4000000) [Try.f76]

theorem segs_Bounds (l : List SegV) (hl : ∀ s ∈ l, s.wf) (hlen : l.length ≤ 1000) : Runs Try.prog 9 [.imm 10 (l.map SegV.enc)] [] (.tup [.int .i64 (segsLo l), .int .i64 (segsHi l)]) [] := by
  refine runs_go Fx.mixed (fun _ => none) Try.func9 rfl (by rfl) (by simp [Try.f9]) ?_
  simp (maxSteps := 4000000) [Try.f9]
  refine call_pure (segs_Check l hl hlen) ?_
  by_cases h : segsOk l
  · obtain ⟨s0, hs0⟩ : ∃ s, l[0]? = some s := by
      cases l with
      | nil => exact absurd rfl h.1
      | cons s r => exact ⟨s, rfl⟩
    have h0 : 0 < l.length := (List.getElem?_eq_some_iff.1 hs0).1
    have hs0' : l[0] = s0 := (List.getElem?_eq_some_iff.1 hs0).2
    have hok0 := h.2.1 s0 (List.mem_of_getElem? hs0)
    obtain ⟨fr, to, bg, n, k, a, b, c, fi, ti⟩ := s0
    simp (maxSteps := 4000000) [Try.f9, h, hs0, hs0', h0, SegV.enc]
    refine call_pure (curve_Bounds k a b c hok0.2.2.1) ?_
    simp (maxSteps := 4000000) [Try.f9]
    refine g_loop (fun st => ∃ i : Nat, i ≤ l.length ∧ ∃ lo hi, st = ⟨[(2, .int .i64 lo), (3, .int .i64 hi), (19, .imm 10 (l.map SegV.enc)), (20, .int .i64 l.length), (21, .int .i64 i)], []⟩ ∧ loGo lo (l.drop i) = segsLo l ∧ hiGo hi (l.drop i) = segsHi l) (fun st => l.length - st.nat 21)
      ⟨[(2, .int .i64 (curveLo k a b)), (3, .int .i64 (curveHi k a b)), (19, .imm 10 (l.map SegV.enc)), (20, .int .i64 l.length), (21, .int .i64 0)], []⟩ (Ent.sub ⟨rfl, by simp [lk, SegV.enc]⟩) ⟨0, by omega, _, _, rfl, ?_⟩ ?_
    · cases l with
      | nil => exact absurd rfl h.1
      | cons s r =>
        simp at hs0; subst hs0
        simp [segsLo, segsHi, h]
    rintro st ⟨i, hi, lo, hh, rfl, e1, e2⟩
    by_cases hc : i < l.length
    · obtain ⟨s, hs⟩ : ∃ s, l[i]? = some s := ⟨l[i], List.getElem?_eq_getElem hc⟩
      have hs' : l[i] = s := (List.getElem?_eq_some_iff.1 hs).2
      have hok := h.2.1 s (List.mem_of_getElem? hs)
      have hd : l.drop i = s :: l.drop (i + 1) := by rw [← hs']; exact List.drop_eq_getElem_cons hc
      rw [hd] at e1 e2
      obtain ⟨fr, to, bg, n, k, a, b, c, fi, ti⟩ := s
      have hw : IntKind.i64.wrap ((i : Int) + 1) = (i : Int) + 1 := wrap_i64_id (by omega) (by omega)
      simp (maxSteps := 4000000) [Try.f9, hc, hs', hs, SegV.enc]
      refine call_pure (curve_Bounds k a b c hok.2.2.1) ?_
      simp (maxSteps := 4000000) [Try.f9, hw]
      exact lp_next ⟨[(2, .int .i64 (min lo (curveLo k a b))), (3, .int .i64 (max hh (curveHi k a b))), (19, .imm 10 (l.map SegV.enc)), (20, .int .i64 l.length), (21, .int .i64 ((i + 1 : Nat) : Int))], []⟩ (Ent.cut (k := 0) (Nat.le_refl 0) (Nat.zero_le _) rfl rfl (by simp [lk, AVal.lt, SegV.enc]))
        ⟨i + 1, by omega, _, _, rfl, e1, e2⟩ (by simp [St.nat, lk]; omega)
    · have : i = l.length := by omega
      subst this
      simp (maxSteps := 4000000) [Try.f9]
      simp [loGo, hiGo] at e1 e2
      exact ⟨e1, e2⟩
  · simp (maxSteps := 4000000) [Try.f9, h, segsLo, segsHi]

theorem seg_search (l : List SegV) (x : Int) (hlen : l.length ≤ 1000) (hs : ∀ (i j : Nat) (s t : SegV), i < j → l[i]? = some s → l[j]? = some t → s.fr < t.fr) :
    Runs Try.prog 75 [.imm 10 (l.map SegV.enc), .int .i64 x, .fn (.func 76) [] []] [] (.tup [.int .i64 (below l x), .bool (decide (∃ s, l[below l x]? = some s ∧ s.fr = x))]) [] := by
  refine runs_go Fx.mixed (fun _ => none) Try.func75 rfl (by rfl) (by simp [Try.f75]) ?_
  simp (maxSteps := 4000000) [Try.f75]
  refine g_loop (fun st => ∃ i j : Nat, i ≤ j ∧ j ≤ l.length ∧ st = ⟨[(0, .imm 10 (l.map SegV.enc)), (1, .int .i64 x), (2, .fn (.func 76) [] []), (8, .int .i64 l.length), (9, .int .i64 i), (10, .int .i64 j)], []⟩ ∧
      i ≤ below l x ∧ below l x ≤ j) (fun st => st.nat 10 - st.nat 9)
    ⟨[(0, .imm 10 (l.map SegV.enc)), (1, .int .i64 x), (2, .fn (.func 76) [] []), (8, .int .i64 l.length), (9, .int .i64 0), (10, .int .i64 l.length)], []⟩ (Ent.sub ⟨rfl, by simp [lk]⟩) ⟨0, l.length, by omega, by omega, rfl, by omega, below_le l x⟩ ?_
  rintro st ⟨i, j, hij, hj, rfl, p1, p2⟩
  by_cases hc : i < j
  · obtain ⟨m, hm⟩ : ∃ m, m = (i + j) / 2 := ⟨_, rfl⟩
    obtain ⟨s, hsm⟩ : ∃ s, l[m]? = some s := ⟨l[m], List.getElem?_eq_getElem (by omega)⟩
    have hsm' : l[m] = s := (List.getElem?_eq_some_iff.1 hsm).2
    have hml : m < l.length := by omega
    have w1 : IntKind.i64.wrap ((i : Int) + j) = (i : Int) + j := wrap_i64_id (by omega) (by omega)
    have w2 : IntKind.u64.wrap ((i : Int) + j) = (i : Int) + j := wrap_u64_id (by omega) (by omega)
    have w3 : ((i : Int) + j) / 2 = (m : Int) := by omega
    have w4 : IntKind.i64.wrap (m : Int) = m := wrap_i64_id (by omega) (by omega)
    have w5 : IntKind.i64.wrap ((m : Int) + 1) = (m : Int) + 1 := wrap_i64_id (by omega) (by omega)
    have hcmp := find_cmp s x
    obtain ⟨fr, to, bg, n, k, a, b, c, fi, ti⟩ := s
    simp only [SegV.enc] at hcmp
    simp (maxSteps := 4000000) [Try.f75, hc, w1, w2, w3, w4, fdiv1, hsm, hsm', hml, SegV.enc]
    refine call_pure hcmp ?_
    by_cases hlt : fr < x
    · have := below_gt hs hsm hlt
      simp (maxSteps := 4000000) [Try.f75, hlt, w5]
      exact lp_next ⟨[(0, .imm 10 (l.map SegV.enc)), (1, .int .i64 x), (2, .fn (.func 76) [] []), (8, .int .i64 l.length), (9, .int .i64 ((m + 1 : Nat) : Int)), (10, .int .i64 j)], []⟩ (Ent.sub ⟨rfl, by simp [lk, SegV.enc]⟩)
        ⟨m + 1, j, by omega, hj, rfl, by omega, p2⟩ (by simp [St.nat, lk]; omega)
    · have : below l x ≤ m := by
        rcases Nat.lt_or_ge m (below l x) with h1 | h1
        · exact absurd (below_lt h1 hsm) hlt
        · exact h1
      have hnn : ¬ (if fr > x then (1 : Int) else 0) < 0 := by split <;> omega
      simp (maxSteps := 4000000) [Try.f75, hlt, hnn]
      exact lp_next ⟨[(0, .imm 10 (l.map SegV.enc)), (1, .int .i64 x), (2, .fn (.func 76) [] []), (8, .int .i64 l.length), (9, .int .i64 i), (10, .int .i64 m)], []⟩ (Ent.sub ⟨rfl, by simp [lk, SegV.enc]⟩)
        ⟨i, m, by omega, by omega, rfl, p1, this⟩ (by simp [St.nat, lk]; omega)
  · have : i = j := by omega
    subst this
    have hib : i = below l x := by omega
    by_cases hlt : i < l.length
    · obtain ⟨s, hsm⟩ : ∃ s, l[i]? = some s := ⟨l[i], List.getElem?_eq_getElem hlt⟩
      have hsm' : l[i] = s := (List.getElem?_eq_some_iff.1 hsm).2
      have hge := below_ge (l := l) (x := x) (by rw [← hib]; exact hsm)
      have hcmp := find_cmp s x
      obtain ⟨fr, to, bg, n, k, a, b, c, fi, ti⟩ := s
      simp only [SegV.enc] at hcmp
      simp (maxSteps := 4000000) [Try.f75, hlt, hsm, hsm', SegV.enc]
      refine call_pure hcmp ?_
      have hnlt : ¬ fr < x := by simp at hge; omega
      simp (maxSteps := 4000000) [Try.f75, hnlt, ← hib, hsm]
      simp at hge
      by_cases he : fr = x
      · simp [he]
      · have : x < fr := by omega
        simp [he, this]
    · simp (maxSteps := 4000000) [Try.f75, hlt, ← hib]

theorem segs_find (l : List SegV) (x : Int) (hlen : l.length ≤ 1000) (hs : ∀ (i j : Nat) (s t : SegV), i < j → l[i]? = some s → l[j]? = some t → s.fr < t.fr) :
    Runs Try.prog 43 [.imm 10 (l.map SegV.enc), .int .i64 x] [] (.int .i64 (segsFind l x)) [] := by
  have hb := below_le l x
  have hsr := seg_search l x hlen hs
  refine runs_go Fx.mixed (fun _ => none) Try.func43 rfl (by rfl) (by simp [Try.f43]) ?_
  simp (maxSteps := 4000000) [Try.f43]
  by_cases h : ∃ s, l[below l x]? = some s ∧ s.fr = x
  · obtain ⟨s, h1, h2⟩ := id h
    rw [decide_eq_true h] at hsr
    have hi : segsIdx l x = below l x := by simp only [segsIdx, if_pos h]
    have hlt : below l x < l.length := (List.getElem?_eq_some_iff.1 h1).1
    have h1' : l[below l x] = s := (List.getElem?_eq_some_iff.1 h1).2
    have hf : segsFind l x = if s.to ≤ x then -1 else (below l x : Int) := by simp [segsFind, hi, h1]; omega
    rw [hf]
    obtain ⟨fr, to, bg, n, k, a, b, c, fi, ti⟩ := s
    have hn : ¬ (below l x : Int) < 0 := by omega
    refine call_pure hsr ?_
    simp (maxSteps := 4000000) [Try.f43, hn, hlt, h1, h1', SegV.enc]
  · rw [decide_eq_false h] at hsr
    have hi : segsIdx l x = (below l x : Int) - 1 := by simp only [segsIdx, if_neg h]
    have hw : IntKind.i64.wrap ((below l x : Int) - 1) = (below l x : Int) - 1 := wrap_i64_id (by omega) (by omega)
    refine call_pure hsr ?_
    rcases Nat.eq_zero_or_pos (below l x) with h0 | h0
    · have hf : segsFind l x = -1 := by simp [segsFind, hi, h0]
      rw [hf]
      simp (maxSteps := 4000000) [Try.f43, h0, wrap_i64]
    · obtain ⟨m, hm⟩ : ∃ m, below l x = m + 1 := ⟨below l x - 1, by omega⟩
      rw [hm] at hw hi hb ⊢
      obtain ⟨s, h1⟩ : ∃ s, l[m]? = some s := ⟨l[m], List.getElem?_eq_getElem (by omega)⟩
      have h1' : l[m] = s := (List.getElem?_eq_some_iff.1 h1).2
      have hlt : m < l.length := by omega
      have hi2 : segsIdx l x = m := by omega
      have hw2 : IntKind.i64.wrap ((m : Int) + 1 - 1) = m := wrap_i64_id (by omega) (by omega) |>.trans (by omega)
      have hn : ¬ (m : Int) < 0 := by omega
      have hf : segsFind l x = if s.to ≤ x then -1 else (m : Int) := by simp [segsFind, hi2, h1]; omega
      rw [hf]
      obtain ⟨fr, to, bg, n, k, a, b, c, fi, ti⟩ := s
      have hw3 : IntKind.i64.wrap (m : Int) = m := wrap_i64_id (by omega) (by omega)
      simp (maxSteps := 4000000) [Try.f43, hn, hlt, h1, h1', hw2, hw3, SegV.enc]

theorem segs_value (s : SegV) (x : Int) (h : s.ok) (h1 : s.fr ≤ x) (h2 : x < s.to) : Runs Try.prog 44 [s.enc, .int .i64 x] [] (.tup [.int .i64 (segVal s x), .int .i64 0]) [] := by
  obtain ⟨fr, to, bg, n, k, a, b, c, fi, ti⟩ := s
  obtain ⟨p1, p2, p3, p4⟩ := h
  simp only at *
  have hw : IntKind.i64.wrap (x - bg) = x - bg := wrap_i64_id (by omega) (by omega)
  refine runs_go Fx.mixed (fun _ => none) Try.func44 rfl (by rfl) (by simp [Try.f44]) ?_
  by_cases h3 : fi = 0
  · subst h3
    simp (maxSteps := 4000000) [Try.f44, SegV.enc, hw]
    refine call_pure (curve_At k a b c (x - bg) n p3 (by omega) (by omega) (by omega) (by omega)) ?_
    simp (maxSteps := 4000000) [Try.f44, segVal]
  · have hc := cyc_in (f := fi) (t := ti) (a := x - bg) (by omega) (by omega) (by omega) (by omega) (by omega)
    simp (maxSteps := 4000000) [Try.f44, SegV.enc, hw, h3]
    refine call_pure (cycle_Find fi ti (x - bg) (by omega) (by omega) (by omega) (by omega) (by omega) (by omega)) ?_
    have hw1 : IntKind.i64.wrap (x - bg - cycF fi ti (x - bg)) = x - bg - cycF fi ti (x - bg) := wrap_i64_id (by omega) (by omega)
    have hw2 : IntKind.i64.wrap (cycT fi ti (x - bg) - cycF fi ti (x - bg)) = cycT fi ti (x - bg) - cycF fi ti (x - bg) := wrap_i64_id (by omega) (by omega)
    simp (maxSteps := 4000000) [Try.f44, hw1, hw2]
    refine call_pure (curve_At k a b c (x - bg - cycF fi ti (x - bg)) (cycT fi ti (x - bg) - cycF fi ti (x - bg)) p3 (by omega) (by omega) (by omega) (by omega)) ?_
    simp (maxSteps := 4000000) [Try.f44, segVal, h3]

theorem segs_At (l : List SegV) (x : Int) (hl : ∀ s ∈ l, s.wf) (hlen : l.length ≤ 1000) : Runs Try.prog 12 [.imm 10 (l.map SegV.enc), .int .i64 x] [] (.tup [.int .i64 (segsAtV l x), .int .i64 (segsAtE l x)]) [] := by
  by_cases h : segsOk l
  · have hs := segsOk_sorted h
    rcases segsFind_cases (l := l) (x := x) with hf | ⟨i, s, hf, h1, h2, h3⟩
    · obtain ⟨e1, e2⟩ := segsAt_out h hf
      rw [e1, e2]
      refine runs_go Fx.mixed (fun _ => none) Try.func12 rfl (by rfl) (by simp [Try.f12]) ?_
      simp (maxSteps := 4000000) [Try.f12]
      refine call_pure (segs_Check l hl hlen) ?_
      simp (maxSteps := 4000000) [Try.f12, h]
      refine call_pure (segs_find l x hlen hs) ?_
      simp (maxSteps := 4000000) [Try.f12, hf]
    · obtain ⟨e1, e2⟩ := segsAt_in h hf h1
      rw [e1, e2]
      have hok := h.2.1 s (List.mem_of_getElem? h1)
      have hlt : i < l.length := (List.getElem?_eq_some_iff.1 h1).1
      have h1' : l[i] = s := (List.getElem?_eq_some_iff.1 h1).2
      have hv := segs_value s x hok h2 h3
      have hn : ¬ (i : Int) < 0 := by omega
      obtain ⟨fr, to, bg, n, k, a, b, c, fi, ti⟩ := s
      simp only [SegV.enc] at hv
      refine runs_go Fx.mixed (fun _ => none) Try.func12 rfl (by rfl) (by simp [Try.f12]) ?_
      simp (maxSteps := 4000000) [Try.f12]
      refine call_pure (segs_Check l hl hlen) ?_
      simp (maxSteps := 4000000) [Try.f12, h]
      refine call_pure (segs_find l x hlen hs) ?_
      simp (maxSteps := 4000000) [Try.f12, hf, hn, hlt, h1, h1', SegV.enc]
      refine call_pure hv ?_
      simp (maxSteps := 4000000) [Try.f12]
  · refine runs_go Fx.mixed (fun _ => none) Try.func12 rfl (by rfl) (by simp [Try.f12]) ?_
    simp (maxSteps := 4000000) [Try.f12]
    refine call_pure (segs_Check l hl hlen) ?_
    simp (maxSteps := 4000000) [Try.f12, h, segsAtV, segsAtE]

theorem segs_Find (l : List SegV) (x : Int) (hl : ∀ s ∈ l, s.wf) (hlen : l.length ≤ 1000) : Runs Try.prog 40 [.imm 10 (l.map SegV.enc), .int .i64 x] [] (.int .i64 (segsPlace l x)) [] := by
  refine runs_go Fx.mixed (fun _ => none) Try.func40 rfl (by rfl) (by simp [Try.f40]) ?_
  simp (maxSteps := 4000000) [Try.f40]
  refine call_pure (segs_Check l hl hlen) ?_
  by_cases h : segsOk l
  · simp (maxSteps := 4000000) [Try.f40, h]
    refine call_pure (segs_find l x hlen (segsOk_sorted h)) ?_
    simp (maxSteps := 4000000) [Try.f40, segsPlace, h]
  · simp (maxSteps := 4000000) [Try.f40, segsPlace, h]

end Go.Proofs.Ytamakciboibpmaa
