import Derived.Test.YtamakciboibpmaaKPlan
import Derived.Test.YtamakciboibpmaaKC
/- Contracts of the program's functions (Same): what each call returns, for all arguments of its kind. -/
namespace Go.Proofs.Ytamakciboibpmaa
open Go.Awp
set_option linter.unusedSimpArgs false
set_option linter.unusedVariables false
set_option maxRecDepth 100000
set_option maxHeartbeats 4000000
/- States. -/

theorem eq_ints (a b : List Int) (ha : a.length ≤ 1000) (hb : b.length ≤ 1000) : Runs Try.prog 49 [.imm 1 (a.map (AVal.int .i64)), .imm 1 (b.map (AVal.int .i64))] [] (.bool (decide (a = b))) [] := by
  refine runs_go Fx.mixed (fun | 6 => some [] | _ => none) Try.func49 rfl (by rfl) (by simp [Try.f49]) ?_
  by_cases hl : a.length = b.length
  · have hl' : (a.length : Int) = b.length := by omega
    simp (maxSteps := 4000000) [Try.f49, hl']
    obtain ⟨F, hF⟩ : ∃ F : Nat → St, ∀ x, F x = ⟨[(0, .imm 1 (a.map (AVal.int .i64))), (1, .imm 1 (b.map (AVal.int .i64))), (12, .int .i64 a.length), (13, .int .i64 x)], []⟩ := ⟨_, fun _ => rfl⟩
    obtain ⟨I, hI⟩ : ∃ I : Nat → Prop, ∀ x, I x ↔ (x ≤ a.length ∧ ∀ j, j < x → a[j]? = b[j]?) := ⟨_, fun _ => Iff.rfl⟩
    refine g_for F I (fun x => a.length - x) 0 (by rw [hF]; exact Ent.sub ⟨rfl, by simp [lk, hl']⟩) ((hI _).2 ⟨by omega, fun j h => by omega⟩) ?_
    intro i hi
    obtain ⟨hi, hto⟩ := (hI _).1 hi
    rw [hF]
    by_cases hc : i < a.length
    · have hcb : i < b.length := by omega
      obtain ⟨x, hx⟩ : ∃ x, a[i]? = some x := ⟨_, List.getElem?_eq_getElem hc⟩
      obtain ⟨y, hy⟩ : ∃ x, b[i]? = some x := ⟨_, List.getElem?_eq_getElem hcb⟩
      have hx' : a[i] = x := (List.getElem?_eq_some_iff.1 hx).2
      have hy' : b[i] = y := (List.getElem?_eq_some_iff.1 hy).2
      have hw : IntKind.i64.wrap ((i : Int) + 1) = (i : Int) + 1 := wrap_i64_id (by omega) (by omega)
      by_cases e : x = y
      · subst e
        simp (maxSteps := 4000000) [hc, hcb, hx, hy, hx', hy', hw]
        exact lf_next (i + 1) (by rw [hF]; exact Ent.sub ⟨by simp, by simp [lk]⟩) ((hI _).2 ⟨hc, list_step hto hx hy⟩) (by omega)
      · have hn : ¬ a = b := fun h => e (by rw [h, hy] at hx; exact (Option.some.inj hx).symm)
        simp (maxSteps := 4000000) [hc, hcb, hx, hy, hx', hy', e, hn]
    · have : i = a.length := by omega
      subst this
      have e : a = b := list_same hl hto
      subst e
      simp (maxSteps := 4000000)
  · have hl' : ¬ (a.length : Int) = b.length := by omega
    have hn : ¬ a = b := fun h => hl (by rw [h])
    simp (maxSteps := 4000000) [Try.f49, hl', hn]

theorem eq_kept (a b : List KeptV) (ha : a.length ≤ 1000) (hb : b.length ≤ 1000) : Runs Try.prog 48 [.imm 2 (a.map (KeptV.enc)), .imm 2 (b.map (KeptV.enc))] [] (.bool (decide (a = b))) [] := by
  refine runs_go Fx.mixed (fun | 6 => some [] | _ => none) Try.func48 rfl (by rfl) (by simp [Try.f48]) ?_
  by_cases hl : a.length = b.length
  · have hl' : (a.length : Int) = b.length := by omega
    simp (maxSteps := 4000000) [Try.f48, hl']
    obtain ⟨F, hF⟩ : ∃ F : Nat → St, ∀ x, F x = ⟨[(0, .imm 2 (a.map (KeptV.enc))), (1, .imm 2 (b.map (KeptV.enc))), (12, .int .i64 a.length), (13, .int .i64 x)], []⟩ := ⟨_, fun _ => rfl⟩
    obtain ⟨I, hI⟩ : ∃ I : Nat → Prop, ∀ x, I x ↔ (x ≤ a.length ∧ ∀ j, j < x → a[j]? = b[j]?) := ⟨_, fun _ => Iff.rfl⟩
    refine g_for F I (fun x => a.length - x) 0 (by rw [hF]; exact Ent.sub ⟨rfl, by simp [lk, hl']⟩) ((hI _).2 ⟨by omega, fun j h => by omega⟩) ?_
    intro i hi
    obtain ⟨hi, hto⟩ := (hI _).1 hi
    rw [hF]
    by_cases hc : i < a.length
    · have hcb : i < b.length := by omega
      obtain ⟨x, hx⟩ : ∃ x, a[i]? = some x := ⟨_, List.getElem?_eq_getElem hc⟩
      obtain ⟨y, hy⟩ : ∃ x, b[i]? = some x := ⟨_, List.getElem?_eq_getElem hcb⟩
      have hx' : a[i] = x := (List.getElem?_eq_some_iff.1 hx).2
      have hy' : b[i] = y := (List.getElem?_eq_some_iff.1 hy).2
      have hw : IntKind.i64.wrap ((i : Int) + 1) = (i : Int) + 1 := wrap_i64_id (by omega) (by omega)
      have hn : ¬ x = y → ¬ a = b := fun e h => e (by rw [h, hy] at hx; exact (Option.some.inj hx).symm)
      by_cases e : x = y
      · subst e
        obtain ⟨x1, x2⟩ := x
        simp (maxSteps := 4000000) [hc, hcb, hx, hy, hx', hy', hw, KeptV.enc]
        exact lf_next (i + 1) (by rw [hF]; exact Ent.sub ⟨by simp, by simp [lk, KeptV.enc]⟩) ((hI _).2 ⟨hc, list_step hto hx hy⟩) (by omega)
      · have hn := hn e
        obtain ⟨x1, x2⟩ := x
        obtain ⟨y1, y2⟩ := y
        have e' : ¬ (x1 = y1 ∧ x2 = y2) := fun h => e (by rw [h.1, h.2])
        by_cases e1 : x1 = y1
        · by_cases e2 : x2 = y2
          · exact absurd ⟨e1, e2⟩ e'
          · simp (maxSteps := 4000000) [hc, hcb, hx, hy, hx', hy', hw, KeptV.enc, e1, e2, hn]
        · simp (maxSteps := 4000000) [hc, hcb, hx, hy, hx', hy', hw, KeptV.enc, e1, hn]
    · have : i = a.length := by omega
      subst this
      have e : a = b := list_same hl hto
      subst e
      simp (maxSteps := 4000000)
  · have hl' : ¬ (a.length : Int) = b.length := by omega
    have hn : ¬ a = b := fun h => hl (by rw [h])
    simp (maxSteps := 4000000) [Try.f48, hl', hn]

theorem ref01_Same (a b : List Int) (ha : a.length ≤ 1000) (hb : b.length ≤ 1000) : Runs Try.prog 51 [.imm 1 (a.map (AVal.int .i64)), .imm 1 (b.map (AVal.int .i64))] [] (.bool (decide (a = b))) [] := by
  refine runs_go Fx.mixed (fun | 6 => some [] | _ => none) Try.func51 rfl (by rfl) (by simp [Try.f51]) ?_
  by_cases hl : a.length = b.length
  · have hl' : (a.length : Int) = b.length := by omega
    simp (maxSteps := 4000000) [Try.f51, hl']
    obtain ⟨F, hF⟩ : ∃ F : Nat → St, ∀ x, F x = ⟨[(0, .imm 1 (a.map (AVal.int .i64))), (1, .imm 1 (b.map (AVal.int .i64))), (5, .int .i64 x)], []⟩ := ⟨_, fun _ => rfl⟩
    obtain ⟨I, hI⟩ : ∃ I : Nat → Prop, ∀ x, I x ↔ (x ≤ a.length ∧ ∀ j, j < x → a[j]? = b[j]?) := ⟨_, fun _ => Iff.rfl⟩
    refine g_for F I (fun x => a.length - x) 0 (by rw [hF]; exact Ent.sub ⟨rfl, by simp [lk, hl']⟩) ((hI _).2 ⟨by omega, fun j h => by omega⟩) ?_
    intro i hi
    obtain ⟨hi, hto⟩ := (hI _).1 hi
    rw [hF]
    by_cases hc : i < a.length
    · have hcb : i < b.length := by omega
      obtain ⟨x, hx⟩ : ∃ x, a[i]? = some x := ⟨_, List.getElem?_eq_getElem hc⟩
      obtain ⟨y, hy⟩ : ∃ x, b[i]? = some x := ⟨_, List.getElem?_eq_getElem hcb⟩
      have hx' : a[i] = x := (List.getElem?_eq_some_iff.1 hx).2
      have hy' : b[i] = y := (List.getElem?_eq_some_iff.1 hy).2
      have hw : IntKind.i64.wrap ((i : Int) + 1) = (i : Int) + 1 := wrap_i64_id (by omega) (by omega)
      by_cases e : x = y
      · subst e
        simp (maxSteps := 4000000) [hc, hcb, hx, hy, hx', hy', hw]
        exact lf_next (i + 1) (by rw [hF]; exact Ent.sub ⟨by simp, by simp [lk]⟩) ((hI _).2 ⟨hc, list_step hto hx hy⟩) (by omega)
      · have hn : ¬ a = b := fun h => e (by rw [h, hy] at hx; exact (Option.some.inj hx).symm)
        simp (maxSteps := 4000000) [hc, hcb, hx, hy, hx', hy', e, hn]
    · have : i = a.length := by omega
      subst this
      have e : a = b := list_same hl hto
      subst e
      simp (maxSteps := 4000000)
  · have hl' : ¬ (a.length : Int) = b.length := by omega
    have hn : ¬ a = b := fun h => hl (by rw [h])
    simp (maxSteps := 4000000) [Try.f51, hl', hn]

theorem ref32_Same (a b : List KeptV) (ha : a.length ≤ 1000) (hb : b.length ≤ 1000) : Runs Try.prog 50 [.imm 2 (a.map (KeptV.enc)), .imm 2 (b.map (KeptV.enc))] [] (.bool (decide (a = b))) [] := by
  refine runs_go Fx.mixed (fun | 6 => some [] | _ => none) Try.func50 rfl (by rfl) (by simp [Try.f50]) ?_
  by_cases hl : a.length = b.length
  · have hl' : (a.length : Int) = b.length := by omega
    simp (maxSteps := 4000000) [Try.f50, hl']
    obtain ⟨F, hF⟩ : ∃ F : Nat → St, ∀ x, F x = ⟨[(0, .imm 2 (a.map (KeptV.enc))), (1, .imm 2 (b.map (KeptV.enc))), (5, .int .i64 x)], []⟩ := ⟨_, fun _ => rfl⟩
    obtain ⟨I, hI⟩ : ∃ I : Nat → Prop, ∀ x, I x ↔ (x ≤ a.length ∧ ∀ j, j < x → a[j]? = b[j]?) := ⟨_, fun _ => Iff.rfl⟩
    refine g_for F I (fun x => a.length - x) 0 (by rw [hF]; exact Ent.sub ⟨rfl, by simp [lk, hl']⟩) ((hI _).2 ⟨by omega, fun j h => by omega⟩) ?_
    intro i hi
    obtain ⟨hi, hto⟩ := (hI _).1 hi
    rw [hF]
    by_cases hc : i < a.length
    · have hcb : i < b.length := by omega
      obtain ⟨x, hx⟩ : ∃ x, a[i]? = some x := ⟨_, List.getElem?_eq_getElem hc⟩
      obtain ⟨y, hy⟩ : ∃ x, b[i]? = some x := ⟨_, List.getElem?_eq_getElem hcb⟩
      have hx' : a[i] = x := (List.getElem?_eq_some_iff.1 hx).2
      have hy' : b[i] = y := (List.getElem?_eq_some_iff.1 hy).2
      have hw : IntKind.i64.wrap ((i : Int) + 1) = (i : Int) + 1 := wrap_i64_id (by omega) (by omega)
      have hn : ¬ x = y → ¬ a = b := fun e h => e (by rw [h, hy] at hx; exact (Option.some.inj hx).symm)
      by_cases e : x = y
      · subst e
        obtain ⟨x1, x2⟩ := x
        simp (maxSteps := 4000000) [hc, hcb, hx, hy, hx', hy', hw, KeptV.enc]
        exact lf_next (i + 1) (by rw [hF]; exact Ent.sub ⟨by simp, by simp [lk, KeptV.enc]⟩) ((hI _).2 ⟨hc, list_step hto hx hy⟩) (by omega)
      · have hn := hn e
        obtain ⟨x1, x2⟩ := x
        obtain ⟨y1, y2⟩ := y
        have e' : ¬ (x1 = y1 ∧ x2 = y2) := fun h => e (by rw [h.1, h.2])
        by_cases e1 : x1 = y1
        · by_cases e2 : x2 = y2
          · exact absurd ⟨e1, e2⟩ e'
          · simp (maxSteps := 4000000) [hc, hcb, hx, hy, hx', hy', hw, KeptV.enc, e1, e2, hn]
        · simp (maxSteps := 4000000) [hc, hcb, hx, hy, hx', hy', hw, KeptV.enc, e1, hn]
    · have : i = a.length := by omega
      subst this
      have e : a = b := list_same hl hto
      subst e
      simp (maxSteps := 4000000)
  · have hl' : ¬ (a.length : Int) = b.length := by omega
    have hn : ¬ a = b := fun h => hl (by rw [h])
    simp (maxSteps := 4000000) [Try.f50, hl', hn]

end Go.Proofs.Ytamakciboibpmaa
