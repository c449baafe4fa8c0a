import Derived.Test.YtamakciboibpmaaKRefPlan
/- Contracts of the program's functions (RefMay): what each call returns, for all arguments of its kind. -/
namespace Go.Proofs.Ytamakciboibpmaa
open Go.Awp
set_option linter.unusedSimpArgs false
set_option linter.unusedVariables false
set_option maxRecDepth 100000
set_option maxHeartbeats 4000000
/- When the reference takes a plan. -/

theorem ref28_May (p : PlanV) (hl : p.light) (hwf : p.wf) : Runs Try.prog 27 [p.enc] [] (.bool (decide p.ok)) [] := by
  refine runs_go Fx.mixed (fun | 3 => some [9, 10, 11, 1006, 1007, 1008] | 6 => some [999] | 8 => some [999] | 10 => some [999] | 12 => some [999] | _ => none) Try.func27 rfl (by rfl) (by simp [Try.f27]) ?_
  by_cases c1 : p.steps < 1
  · have hn : ¬ p.ok := fun h => by have := h.1.1; omega
    simp (maxSteps := 4000000) [Try.f27, PlanV.enc, PlanV.cells, c1, hn]
  by_cases c2 : 1000000 < p.steps
  · have hn : ¬ p.ok := fun h => by have := h.1.2; omega
    simp (maxSteps := 4000000) [Try.f27, PlanV.enc, PlanV.cells, c1, c2, hn]
  by_cases c3 : p.wei < 0
  · have hn : ¬ p.ok := fun h => by have := h.2.1.1; omega
    simp (maxSteps := 4000000) [Try.f27, PlanV.enc, PlanV.cells, c1, c2, c3, hn]
  by_cases c4 : 16 < p.wei
  · have hn : ¬ p.ok := fun h => by have := h.2.1.2; omega
    simp (maxSteps := 4000000) [Try.f27, PlanV.enc, PlanV.cells, c1, c2, c3, c4, hn]
  by_cases c5 : p.met < 0
  · have hn : ¬ p.ok := fun h => by have := h.2.2.1.1; omega
    simp (maxSteps := 4000000) [Try.f27, PlanV.enc, PlanV.cells, c1, c2, c3, c4, c5, hn]
  by_cases c6 : 4 < p.met
  · have hn : ¬ p.ok := fun h => by have := h.2.2.1.2; omega
    simp (maxSteps := 4000000) [Try.f27, PlanV.enc, PlanV.cells, c1, c2, c3, c4, c5, c6, hn]
  by_cases c7 : p.gro < 1
  · have hn : ¬ p.ok := fun h => by have := h.2.2.2.1.1; omega
    simp (maxSteps := 4000000) [Try.f27, PlanV.enc, PlanV.cells, c1, c2, c3, c4, c5, c6, c7, hn]
  by_cases c8 : 8 < p.gro
  · have hn : ¬ p.ok := fun h => by have := h.2.2.2.1.2; omega
    simp (maxSteps := 4000000) [Try.f27, PlanV.enc, PlanV.cells, c1, c2, c3, c4, c5, c6, c7, c8, hn]
  by_cases c9 : p.ev < 0
  · have hn : ¬ p.ok := fun h => by have := h.2.2.2.2.1.1; omega
    simp (maxSteps := 4000000) [Try.f27, PlanV.enc, PlanV.cells, c1, c2, c3, c4, c5, c6, c7, c8, c9, hn]
  by_cases c10 : p.steps < p.ev
  · have hn : ¬ p.ok := fun h => by have := h.2.2.2.2.1.2; omega
    simp (maxSteps := 4000000) [Try.f27, PlanV.enc, PlanV.cells, c1, c2, c3, c4, c5, c6, c7, c8, c9, c10, hn]
  simp (maxSteps := 4000000) [Try.f27, PlanV.enc, PlanV.cells, c1, c2, c3, c4, c5, c6, c7, c8, c9, c10]
  refine call_pure (ref28_lists p hl hwf (by omega) (by omega)) ?_
  by_cases d1 : spansOk p ∧ frozenOk p ∧ tracksOk p
  · simp (maxSteps := 4000000) [d1]
    have bad : ¬ stopOk p → ¬ p.ok := fun h h' => h h'.2.2.2.2.2.2.2.2.1
    have bad2 : ¬ cutOk p → ¬ p.ok := fun h h' => h h'.2.2.2.2.2.2.2.2.2.1
    have bad3 : ¬ keepOk p → ¬ p.ok := fun h h' => h h'.2.2.2.2.2.2.2.2.2.2.1
    have bad4 : ¬ avgOk p → ¬ p.ok := fun h h' => h h'.2.2.2.2.2.2.2.2.2.2.2
    apply cuth (H := stopOk p)
    case f =>
      intro hG
      by_cases e1 : p.stopOn = -1
      · by_cases z : p.stop.zero
        · simp (maxSteps := 4000000) [e1, z]
          exact cut_at ⟨[(1, .ptr 0 0), (3, .ptr 1 0), (4, .ptr 2 0), (5, .ptr 3 0)], [.box false p.cells, .box false [.bool p.stop.on, .str p.stop.me, .bool p.stop.mx, .int .i64 p.stop.pat, .int .i64 p.stop.dl, .bool p.stop.rel], .box false [.bool p.plat.on, .str p.plat.me, .bool p.plat.mx, .int .i64 p.plat.fac, .int .i64 p.plat.pat, .int .i64 p.plat.cool, .int .i64 p.plat.flo, .int .i64 p.plat.dl], .box false [.bool p.keep.on, .str p.keep.me, .bool p.keep.mx, .int .i64 p.keep.cnt]]⟩
            (Ent.sub ⟨by simp [PlanV.cells, e1], by simp [lk]⟩) (hG (by simp [stopOk, e1, z]))
        · simp (maxSteps := 4000000) [e1, z, bad (fun h => z (by simpa [stopOk, e1] using h))]
      · simp (maxSteps := 4000000) [e1]
        refine call_pure (ref28_watched p _ _ _) ?_
        by_cases b1 : seenOk p p.stopOn p.stop.me ∧ p.stop.on = true
        · simp (maxSteps := 4000000) [b1.1, b1.2]
          refine call_pure (ref28_count _) ?_
          by_cases b2 : countOk p.stop.pat
          · simp (maxSteps := 4000000) [b2]
            refine call_pure (ref28_value _) ?_
            by_cases b3 : valueOk p.stop.dl
            · simp (maxSteps := 4000000) [b3, e1]
              exact cut_at ⟨[(1, .ptr 0 0), (3, .ptr 1 0), (4, .ptr 2 0), (5, .ptr 3 0)], [.box false p.cells, .box false [.bool p.stop.on, .str p.stop.me, .bool p.stop.mx, .int .i64 p.stop.pat, .int .i64 p.stop.dl, .bool p.stop.rel], .box false [.bool p.plat.on, .str p.plat.me, .bool p.plat.mx, .int .i64 p.plat.fac, .int .i64 p.plat.pat, .int .i64 p.plat.cool, .int .i64 p.plat.flo, .int .i64 p.plat.dl], .box false [.bool p.keep.on, .str p.keep.me, .bool p.keep.mx, .int .i64 p.keep.cnt]]⟩
                (Ent.sub ⟨by simp [PlanV.cells, b1.2], by simp [lk]⟩) (hG (by simp [stopOk, e1, b1.1, b1.2, b2, b3]))
            · simp (maxSteps := 4000000) [b3, bad (fun h => by simp [stopOk, e1] at h; exact b3 h.2.2.2)]
          · simp (maxSteps := 4000000) [b2, bad (fun h => by simp [stopOk, e1] at h; exact b2 h.2.2.1)]
        · have b1' : ¬ (seenOk p p.stopOn p.stop.me ∧ p.stop.on = true) := b1
          simp only [decide_eq_false b1']
          simp (maxSteps := 4000000) [bad (fun h => by simp [stopOk, e1] at h; exact b1 ⟨h.1, h.2.1⟩)]
    case g =>
      intro hs
      simp (maxSteps := 4000000) [PlanV.cells]
      apply cuth (H := cutOk p)
      case f =>
        intro hG
        by_cases e1 : p.cutOn = -1
        · by_cases z : p.plat.zero
          · simp (maxSteps := 4000000) [e1, z]
            exact cut_at ⟨[(1, .ptr 0 0), (3, .ptr 1 0), (4, .ptr 2 0), (5, .ptr 3 0)], [.box false p.cells, .box false [.bool p.stop.on, .str p.stop.me, .bool p.stop.mx, .int .i64 p.stop.pat, .int .i64 p.stop.dl, .bool p.stop.rel], .box false [.bool p.plat.on, .str p.plat.me, .bool p.plat.mx, .int .i64 p.plat.fac, .int .i64 p.plat.pat, .int .i64 p.plat.cool, .int .i64 p.plat.flo, .int .i64 p.plat.dl], .box false [.bool p.keep.on, .str p.keep.me, .bool p.keep.mx, .int .i64 p.keep.cnt]]⟩ (Ent.sub ⟨by simp [PlanV.cells, e1], by simp [lk]⟩) (hG (by simp [cutOk, e1, z]))
          · simp (maxSteps := 4000000) [e1, z, bad2 (fun h => z (by simpa [cutOk, e1] using h))]
        · simp (maxSteps := 4000000) [e1]
          refine call_pure (ref28_watched p _ _ _) ?_
          by_cases b1 : seenOk p p.cutOn p.plat.me ∧ p.plat.on = true
          · simp (maxSteps := 4000000) [b1.1, b1.2]
            refine call_pure (ref28_count _) ?_
            by_cases b2 : countOk p.plat.pat
            · simp (maxSteps := 4000000) [b2]
              refine call_pure (ref28_value _) ?_
              by_cases b3 : valueOk p.plat.dl
              · simp (maxSteps := 4000000) [b3]
                refine call_pure (ref28_value _) ?_
                by_cases b4 : valueOk p.plat.flo
                · by_cases b5 : 0 ≤ p.plat.fac
                  · by_cases b6 : p.plat.fac < 4294967296
                    · by_cases b7 : 0 ≤ p.plat.cool
                      · by_cases b8 : p.plat.cool ≤ 1099511627776
                        · simp (maxSteps := 4000000) [b4, b5, b6, b7, b8, e1]
                          exact cut_at ⟨[(1, .ptr 0 0), (3, .ptr 1 0), (4, .ptr 2 0), (5, .ptr 3 0)], [.box false p.cells, .box false [.bool p.stop.on, .str p.stop.me, .bool p.stop.mx, .int .i64 p.stop.pat, .int .i64 p.stop.dl, .bool p.stop.rel], .box false [.bool p.plat.on, .str p.plat.me, .bool p.plat.mx, .int .i64 p.plat.fac, .int .i64 p.plat.pat, .int .i64 p.plat.cool, .int .i64 p.plat.flo, .int .i64 p.plat.dl], .box false [.bool p.keep.on, .str p.keep.me, .bool p.keep.mx, .int .i64 p.keep.cnt]]⟩ (Ent.sub ⟨by simp [PlanV.cells, b1.2], by simp [lk]⟩) (hG (by simp [cutOk, e1, b1.1, b1.2, b2, b3, b4, b5, b7, b8]; omega))
                        · simp (maxSteps := 4000000) [b4, b5, b6, b7, b8, bad2 (fun h => by simp [cutOk, e1] at h; omega)]
                      · simp (maxSteps := 4000000) [b4, b5, b6, b7, bad2 (fun h => by simp [cutOk, e1] at h; omega)]
                    · simp (maxSteps := 4000000) [b4, b5, b6, bad2 (fun h => by simp [cutOk, e1] at h; omega)]
                  · simp (maxSteps := 4000000) [b4, b5, bad2 (fun h => by simp [cutOk, e1] at h; omega)]
                · simp (maxSteps := 4000000) [b4, bad2 (fun h => by simp [cutOk, e1] at h; exact b4 h.2.2.2.2.1)]
              · simp (maxSteps := 4000000) [b3, bad2 (fun h => by simp [cutOk, e1] at h; exact b3 h.2.2.2.1)]
            · simp (maxSteps := 4000000) [b2, bad2 (fun h => by simp [cutOk, e1] at h; exact b2 h.2.2.1)]
          · have b1' : ¬ (seenOk p p.cutOn p.plat.me ∧ p.plat.on = true) := b1
            simp only [decide_eq_false b1']
            simp (maxSteps := 4000000) [bad2 (fun h => by simp [cutOk, e1] at h; exact b1 ⟨h.1, h.2.1⟩)]
      case g =>
        intro hc
        simp (maxSteps := 4000000) [PlanV.cells]
        apply cuth (H := keepOk p)
        case f =>
          intro hG
          by_cases e1 : p.keepOn = -1
          · by_cases z : p.keep.zero
            · simp (maxSteps := 4000000) [e1, z]
              exact cut_at ⟨[(1, .ptr 0 0)], [.box false p.cells, .box false [.bool p.stop.on, .str p.stop.me, .bool p.stop.mx, .int .i64 p.stop.pat, .int .i64 p.stop.dl, .bool p.stop.rel], .box false [.bool p.plat.on, .str p.plat.me, .bool p.plat.mx, .int .i64 p.plat.fac, .int .i64 p.plat.pat, .int .i64 p.plat.cool, .int .i64 p.plat.flo, .int .i64 p.plat.dl], .box false [.bool p.keep.on, .str p.keep.me, .bool p.keep.mx, .int .i64 p.keep.cnt]]⟩ (Ent.sub ⟨by simp [PlanV.cells, e1], by simp [lk]⟩) (hG (by simp [keepOk, e1, z]))
            · simp (maxSteps := 4000000) [e1, z, bad3 (fun h => z (by simpa [keepOk, e1] using h))]
          · simp (maxSteps := 4000000) [e1]
            refine call_pure (ref28_watched p _ _ _) ?_
            by_cases b1 : seenOk p p.keepOn p.keep.me ∧ p.keep.on = true
            · by_cases b2 : 1 ≤ p.keep.cnt
              · by_cases b3 : p.keep.cnt ≤ 16
                · simp (maxSteps := 4000000) [b1.1, b1.2, b2, b3, e1]
                  exact cut_at ⟨[(1, .ptr 0 0)], [.box false p.cells, .box false [.bool p.stop.on, .str p.stop.me, .bool p.stop.mx, .int .i64 p.stop.pat, .int .i64 p.stop.dl, .bool p.stop.rel], .box false [.bool p.plat.on, .str p.plat.me, .bool p.plat.mx, .int .i64 p.plat.fac, .int .i64 p.plat.pat, .int .i64 p.plat.cool, .int .i64 p.plat.flo, .int .i64 p.plat.dl], .box false [.bool p.keep.on, .str p.keep.me, .bool p.keep.mx, .int .i64 p.keep.cnt]]⟩ (Ent.sub ⟨by simp [PlanV.cells, b1.2], by simp [lk]⟩) (hG (by simp [keepOk, e1, b1.1, b1.2, b2, b3]))
                · simp (maxSteps := 4000000) [b1.1, b1.2, b2, b3, bad3 (fun h => by simp [keepOk, e1] at h; omega)]
              · simp (maxSteps := 4000000) [b1.1, b1.2, b2, bad3 (fun h => by simp [keepOk, e1] at h; omega)]
            · have b1' : ¬ (seenOk p p.keepOn p.keep.me ∧ p.keep.on = true) := b1
              simp only [decide_eq_false b1']
              simp (maxSteps := 4000000) [bad3 (fun h => by simp [keepOk, e1] at h; exact b1 ⟨h.1, h.2.1⟩)]
        case g =>
          intro hk
          simp (maxSteps := 4000000) [PlanV.cells]
          apply cuth (H := p.ema.zero ∨ p.ema.on = true ∧ 0 ≤ p.ema.dec ∧ p.ema.dec ≤ 4294967296)
          case f =>
            intro hG
            by_cases z : p.ema.zero
            · simp (maxSteps := 4000000) [z]
              exact cut_at ⟨[(1, .ptr 0 0)], [.box false p.cells]⟩ (Ent.cut (k := 1) (Nat.zero_le _) (by simp) (by simp [PlanV.cells]) (by simp [PlanV.cells, Blk.lt, AVal.ltL, AVal.lt]) (by simp [lk, AVal.lt])) (hG (.inl z))
            · by_cases b1 : p.ema.on = true
              · by_cases b2 : 0 ≤ p.ema.dec
                · by_cases b3 : p.ema.dec ≤ 4294967296
                  · simp (maxSteps := 4000000) [z, b1, b2, b3, Int.not_lt.2 b3, Int.not_lt.2 b2]
                    exact cut_at ⟨[(1, .ptr 0 0)], [.box false p.cells]⟩ (Ent.cut (k := 1) (Nat.zero_le _) (by simp) (by simp [PlanV.cells, b1]) (by simp [PlanV.cells, Blk.lt, AVal.ltL, AVal.lt]) (by simp [lk, AVal.lt])) (hG (.inr ⟨b1, b2, b3⟩))
                  · simp (maxSteps := 4000000) [z, b1, b2, b3, bad4 (fun h => by rcases h.1 with h | h; exact z h; omega)]
                · simp (maxSteps := 4000000) [z, b1, b2, bad4 (fun h => by rcases h.1 with h | h; exact z h; omega)]
              · simp (maxSteps := 4000000) [z, b1, bad4 (fun h => by rcases h.1 with h | h; exact z h; exact b1 h.1)]
          case g =>
            intro he
            have fin : p.ok ↔ (if p.swaE = 0 then p.swaF = 0 else countOk p.swaE ∧ 0 ≤ p.swaF ∧ p.swaF ≤ p.steps) :=
              ⟨fun h => h.2.2.2.2.2.2.2.2.2.2.2.2, fun h => ⟨by omega, by omega, by omega, by omega, by omega, d1.1, d1.2.1, d1.2.2, hs, hc, hk, he, h⟩⟩
            by_cases q1 : p.swaE = 0
            · by_cases q2 : p.swaF = 0
              · simp (maxSteps := 4000000) [PlanV.cells, q1, q2, fin]
              · simp (maxSteps := 4000000) [PlanV.cells, q1, q2]
                refine call_pure (ref28_count _) ?_
                simp (maxSteps := 4000000) [countOk, fin, q1, q2]
            · simp (maxSteps := 4000000) [PlanV.cells, q1]
              refine call_pure (ref28_count _) ?_
              by_cases q3 : countOk p.swaE
              · by_cases q4 : 0 ≤ p.swaF
                · simp (maxSteps := 4000000) [q1, q3, q4, fin]
                · simp (maxSteps := 4000000) [q1, q3, q4, fin]
              · simp (maxSteps := 4000000) [q1, q3, fin]
  · have hn : ¬ p.ok := fun h => d1 ⟨h.2.2.2.2.2.1, h.2.2.2.2.2.2.1, h.2.2.2.2.2.2.2.1⟩
    simp (maxSteps := 4000000) [d1, hn]

end Go.Proofs.Ytamakciboibpmaa
