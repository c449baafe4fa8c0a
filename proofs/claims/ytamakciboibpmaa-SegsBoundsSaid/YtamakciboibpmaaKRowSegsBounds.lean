import Derived.Test.YtamakciboibpmaaRows
import Derived.Test.YtamakciboibpmaaKLaw24
import Derived.Test.YtamakciboibpmaaKC
import Derived.KernelRfl
/- The law's statement: for every input the call returns true, and each argument reads afterwards as before. -/
namespace Go.Proofs.Ytamakciboibpmaa
open Go.Awp
namespace segsBounds
theorem ro22 (C : TypeId → List AVal → Prop) (r : AVal) : RowOf Try.prog C 22 r = C 22 [r] := row_one (by kernel_rfl)
theorem ro31 (C : TypeId → List AVal → Prop) (r : AVal) : RowOf Try.prog C 31 r = (∃ cs, r = .agg cs ∧ C 31 cs) := row_agg (by kernel_rfl)
theorem ro3 (C : TypeId → List AVal → Prop) (r : AVal) : RowOf Try.prog C 3 r = C 3 [r] := row_one (by kernel_rfl)
theorem ce3 (n : Nat) (cs : List AVal) : Cel Try.prog (n + 1) 3 cs = ∃ i, cs = [.int .i64 i] ∧ (Lit.int .i64 i).wf = true := cel_int (by kernel_rfl)
theorem ro29 (C : TypeId → List AVal → Prop) (r : AVal) : RowOf Try.prog C 29 r = (∃ cs, r = .agg cs ∧ C 29 cs) := row_agg (by kernel_rfl)
theorem ce29 (n : Nat) (cs : List AVal) : Cel Try.prog (n + 1) 29 cs = CelF (Cel Try.prog n) [3, 3, 3, 3] cs := cel_struct (by kernel_rfl)
theorem ce31 (n : Nat) (cs : List AVal) : Cel Try.prog (n + 1) 31 cs = CelF (Cel Try.prog n) [3, 3, 3, 3, 29, 3, 3] cs := cel_struct (by kernel_rfl)
theorem ce22 (n : Nat) (cs : List AVal) : Cel Try.prog (n + 1) 22 cs = ∃ rows, cs = [.imm 10 rows] ∧ rows.length ≤ maxLen ∧ rows.length * 80 ≤ reachBytes ∧ ∀ r ∈ rows, RowOf Try.prog (Cel Try.prog n) 31 r := cel_slice (by kernel_rfl) (by kernel_rfl) (by kernel_rfl)
set_option linter.unusedSimpArgs false
set_option linter.unusedVariables false
set_option maxRecDepth 100000
set_option maxHeartbeats 4000000
theorem own : ownKnob Try.prog.godebug = none := by kernel_rfl
theorem laidOut : laidOutB Try.prog = true := by kernel_rfl
theorem lifted (h : ∀ xs, ArgsOk Try.prog 8 Try.f3.params.toList xs → Runs Try.prog 3 xs [] (.bool true) []) (os : Os) (started : os.Started) (H : Type) (enc : TypeId × Value → H) :
    ReturnsInHanded {} Try.checked os 3 .any (Rows.segsBoundsSpec.pre6 enc Try.prog Try.f3 Rows.segsBoundsRow.domain false) (Rows.segsBoundsSpec.post enc Try.prog Try.f3 false true false false) := by
  refine row_lifted (C := Try.checked) 8 own started (by kernel_rfl) Try.func3 laidOut rfl (fun ds hds => ?_) (rt := 4) rfl Try.underlying4 (by kernel_rfl)
    (ChangeSpec.witness6 (enc := enc) (C := Try.checked) false ⟨#[], #[(.slice none 0 0), (.int .i64 0)], []⟩ 8 (by kernel_rfl) (by kernel_rfl) (by kernel_rfl) (by kernel_rfl)) h
  match ds, hds with
  | [_, _], _ => rfl
theorem over (h : ∀ xs, ArgsOk Try.prog 8 Try.f3.params.toList xs → Runs Try.prog 3 xs [] (.bool true) []) : Rows.segsBoundsRow.holds Try.pinned (OpenSpec.ofChange Rows.segsBoundsSpec) :=
  OpenClaim.holds_of_wide 3 Try.f3 rfl rfl rfl rfl rfl rfl rfl ⟨rfl, rfl, rfl, rfl, rfl⟩ rfl rfl rfl rfl rfl (by kernel_rfl) Try.func3 (by kernel_rfl)
    (of_decide_eq_true (by kernel_rfl)) (by unfold Func.isWrapper; first | (rw [if_pos (by decide +kernel)]; kernel_rfl) | (rw [if_neg (by decide +kernel)]; exact ⟨rfl, rfl⟩))
    (fun os started H enc _ => lifted h os started H enc)
theorem decSeg {n : Nat} {cs : List AVal} (h : Cel Try.prog (n + 3) 31 cs) : ∃ s : SegV, s.wf ∧ AVal.agg cs = s.enc := by
  simp only [ce3, ro3, ce22, ro22, ce29, ro29, ce31, ro31, CelF] at h
  obtain ⟨_, _, rfl, ⟨a0, rfl, ha0⟩, ⟨_, _, rfl, ⟨a1, rfl, ha1⟩, ⟨_, _, rfl, ⟨a2, rfl, ha2⟩, ⟨_, _, rfl, ⟨a3, rfl, ha3⟩, ⟨_, _, rfl, ⟨_, _, rfl, ⟨a4, rfl, ha4⟩, ⟨_, _, rfl, ⟨a5, rfl, ha5⟩, ⟨_, _, rfl, ⟨a6, rfl, ha6⟩, ⟨_, _, rfl, ⟨a7, rfl, ha7⟩, rfl⟩⟩⟩⟩, ⟨_, _, rfl, ⟨a8, rfl, ha8⟩, ⟨_, _, rfl, ⟨a9, rfl, ha9⟩, rfl⟩⟩⟩⟩⟩⟩⟩ := h
  exact ⟨⟨a0, a1, a2, a3, a4, a5, a6, a7, a8, a9⟩, ⟨ha0, ha1, ha2, ha3, ha4, ha5, ha6, ha7, ha8, ha9⟩, rfl⟩
theorem said : Rows.SegsBoundsSaid := by
  refine over fun xs hx => ?_
  have hps : Try.f3.params.toList = [22, 3] := rfl
  rw [hps] at hx
  obtain ⟨x0, _, rfl, h0, ⟨x1, _, rfl, h1, rfl⟩⟩ := hx
  rw [ro22] at h0
  rw [ro3] at h1
  rw [ce22] at h0
  rw [ce3] at h1
  obtain ⟨rows, h0, _, _, hr⟩ := h0
  obtain ⟨x, h1, _⟩ := h1
  simp at h0 h1
  subst h0; subst h1
  obtain ⟨l, rfl, hl⟩ := rows_list (enc := SegV.enc) (Q := SegV.wf) fun r hr' => by
    have := hr r hr'
    rw [ro31] at this
    obtain ⟨cs, rfl, h⟩ := this
    obtain ⟨s, h1, h2⟩ := decSeg h
    exact ⟨s, h1, h2⟩
  exact law_SegsBounds l x hl

end segsBounds
end Go.Proofs.Ytamakciboibpmaa
