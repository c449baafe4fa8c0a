import Derived.Test.YtamakciboibpmaaRows
import Derived.Test.YtamakciboibpmaaKLaw37
import Derived.Test.YtamakciboibpmaaKC
import Derived.KernelRfl
/- The law's statement: for every input the call returns true, and each argument reads afterwards as before. -/
namespace Go.Proofs.Ytamakciboibpmaa
open Go.Awp
namespace stateTells
theorem ro45 (C : TypeId → List AVal → Prop) (r : AVal) : RowOf Try.prog C 45 r = (∃ cs, r = .agg cs ∧ C 45 cs) := row_agg (by kernel_rfl)
theorem ro3 (C : TypeId → List AVal → Prop) (r : AVal) : RowOf Try.prog C 3 r = C 3 [r] := row_one (by kernel_rfl)
theorem ce3 (n : Nat) (cs : List AVal) : Cel Try.prog (n + 1) 3 cs = ∃ i, cs = [.int .i64 i] ∧ (Lit.int .i64 i).wf = true := cel_int (by kernel_rfl)
theorem ro37 (C : TypeId → List AVal → Prop) (r : AVal) : RowOf Try.prog C 37 r = (∃ cs, r = .agg cs ∧ C 37 cs) := row_agg (by kernel_rfl)
theorem ro4 (C : TypeId → List AVal → Prop) (r : AVal) : RowOf Try.prog C 4 r = C 4 [r] := row_one (by kernel_rfl)
theorem ce4 (n : Nat) (cs : List AVal) : Cel Try.prog (n + 1) 4 cs = ∃ b, cs = [.bool b] := cel_bool (by kernel_rfl)
theorem ce37 (n : Nat) (cs : List AVal) : Cel Try.prog (n + 1) 37 cs = CelF (Cel Try.prog n) [4, 3, 3] cs := cel_struct (by kernel_rfl)
theorem ro39 (C : TypeId → List AVal → Prop) (r : AVal) : RowOf Try.prog C 39 r = (∃ cs, r = .agg cs ∧ C 39 cs) := row_agg (by kernel_rfl)
theorem ce39 (n : Nat) (cs : List AVal) : Cel Try.prog (n + 1) 39 cs = CelF (Cel Try.prog n) [37, 3, 3] cs := cel_struct (by kernel_rfl)
theorem ro40 (C : TypeId → List AVal → Prop) (r : AVal) : RowOf Try.prog C 40 r = C 40 [r] := row_one (by kernel_rfl)
theorem ro96 (C : TypeId → List AVal → Prop) (r : AVal) : RowOf Try.prog C 96 r = (∃ cs, r = .agg cs ∧ C 96 cs) := row_agg (by kernel_rfl)
theorem ce96 (n : Nat) (cs : List AVal) : Cel Try.prog (n + 1) 96 cs = CelF (Cel Try.prog n) [3, 3] cs := cel_struct (by kernel_rfl)
theorem ce40 (n : Nat) (cs : List AVal) : Cel Try.prog (n + 1) 40 cs = ∃ rows, cs = [.imm 2 rows] ∧ rows.length ≤ maxLen ∧ rows.length * 16 ≤ reachBytes ∧ ∀ r ∈ rows, RowOf Try.prog (Cel Try.prog n) 96 r := cel_slice (by kernel_rfl) (by kernel_rfl) (by kernel_rfl)
theorem ro41 (C : TypeId → List AVal → Prop) (r : AVal) : RowOf Try.prog C 41 r = C 41 [r] := row_one (by kernel_rfl)
theorem ce41 (n : Nat) (cs : List AVal) : Cel Try.prog (n + 1) 41 cs = ∃ rows, cs = [.imm 1 rows] ∧ rows.length ≤ maxLen ∧ rows.length * 8 ≤ reachBytes ∧ ∀ r ∈ rows, RowOf Try.prog (Cel Try.prog n) 3 r := cel_slice (by kernel_rfl) (by kernel_rfl) (by kernel_rfl)
theorem ro43 (C : TypeId → List AVal → Prop) (r : AVal) : RowOf Try.prog C 43 r = (∃ cs, r = .agg cs ∧ C 43 cs) := row_agg (by kernel_rfl)
theorem ce43 (n : Nat) (cs : List AVal) : Cel Try.prog (n + 1) 43 cs = CelF (Cel Try.prog n) [3, 41] cs := cel_struct (by kernel_rfl)
theorem ce45 (n : Nat) (cs : List AVal) : Cel Try.prog (n + 1) 45 cs = CelF (Cel Try.prog n) [3, 3, 3, 37, 39, 40, 41, 43] cs := cel_struct (by kernel_rfl)
theorem ro46 (C : TypeId → List AVal → Prop) (r : AVal) : RowOf Try.prog C 46 r = (∃ cs, r = .agg cs ∧ C 46 cs) := row_agg (by kernel_rfl)
theorem ce46 (n : Nat) (cs : List AVal) : Cel Try.prog (n + 1) 46 cs = CelF (Cel Try.prog n) [3, 3, 3] cs := cel_array (by kernel_rfl)
set_option linter.unusedSimpArgs false
set_option linter.unusedVariables false
set_option maxRecDepth 100000
set_option maxHeartbeats 4000000
theorem own : ownKnob Try.prog.godebug = none := by kernel_rfl
theorem laidOut : laidOutB Try.prog = true := by kernel_rfl
theorem lifted (h : ∀ xs, ArgsOk Try.prog 8 Try.f4.params.toList xs → Runs Try.prog 4 xs [] (.bool true) []) (os : Os) (started : os.Started) (H : Type) (enc : TypeId × Value → H) :
    ReturnsInHanded {} Try.checked os 4 .any (Rows.stateTellsSpec.pre6 enc Try.prog Try.f4 Rows.stateTellsRow.domain false) (Rows.stateTellsSpec.post enc Try.prog Try.f4 false true false false) := by
  refine row_lifted (C := Try.checked) 8 own started (by kernel_rfl) Try.func4 laidOut rfl (fun ds hds => ?_) (rt := 4) rfl Try.underlying4 (by kernel_rfl)
    (ChangeSpec.witness6 (enc := enc) (C := Try.checked) false ⟨#[], #[(.agg #[(.int .i64 0), (.int .i64 0), (.int .i64 0), (.bool false), (.int .i64 0), (.int .i64 0), (.bool false), (.int .i64 0), (.int .i64 0), (.int .i64 0), (.int .i64 0), (.slice none 0 0), (.slice none 0 0), (.int .i64 0), (.slice none 0 0)]), (.agg #[(.int .i64 0), (.int .i64 0), (.int .i64 0), (.bool false), (.int .i64 0), (.int .i64 0), (.bool false), (.int .i64 0), (.int .i64 0), (.int .i64 0), (.int .i64 0), (.slice none 0 0), (.slice none 0 0), (.int .i64 0), (.slice none 0 0)]), (.agg #[(.int .i64 0), (.int .i64 0), (.int .i64 0)])], []⟩ 8 (by kernel_rfl) (by kernel_rfl) (by kernel_rfl) (by kernel_rfl)) h
  match ds, hds with
  | [_, _, _], _ => rfl
theorem over (h : ∀ xs, ArgsOk Try.prog 8 Try.f4.params.toList xs → Runs Try.prog 4 xs [] (.bool true) []) : Rows.stateTellsRow.holds Try.pinned (OpenSpec.ofChange Rows.stateTellsSpec) :=
  OpenClaim.holds_of_wide 4 Try.f4 rfl rfl rfl rfl rfl rfl rfl ⟨rfl, rfl, rfl, rfl, rfl⟩ rfl rfl rfl rfl rfl (by kernel_rfl) Try.func4 (by kernel_rfl)
    (of_decide_eq_true (by kernel_rfl)) (by unfold Func.isWrapper; first | (rw [if_pos (by decide +kernel)]; kernel_rfl) | (rw [if_neg (by decide +kernel)]; exact ⟨rfl, rfl⟩))
    (fun os started H enc _ => lifted h os started H enc)
theorem decState {n : Nat} {cs : List AVal} (h : Cel Try.prog (n + 4) 45 cs) : ∃ s : StateV, s.wf ∧ AVal.agg cs = s.enc := by
  simp only [ce3, ro3, ce4, ro4, ce37, ro37, ce39, ro39, ce40, ro40, ce41, ro41, ce43, ro43, ce45, ro45, ce46, ro46, ce96, ro96, CelF] at h
  obtain ⟨_, _, rfl, ⟨a0, rfl, ha0⟩, ⟨_, _, rfl, ⟨a1, rfl, ha1⟩, ⟨_, _, rfl, ⟨a2, rfl, ha2⟩, ⟨_, _, rfl, ⟨_, _, rfl, ⟨a3, rfl⟩, ⟨_, _, rfl, ⟨a4, rfl, ha4⟩, ⟨_, _, rfl, ⟨a5, rfl, ha5⟩, rfl⟩⟩⟩, ⟨_, _, rfl, ⟨_, _, rfl, ⟨_, _, rfl, ⟨a6, rfl⟩, ⟨_, _, rfl, ⟨a7, rfl, ha7⟩, ⟨_, _, rfl, ⟨a8, rfl, ha8⟩, rfl⟩⟩⟩, ⟨_, _, rfl, ⟨a9, rfl, ha9⟩, ⟨_, _, rfl, ⟨a10, rfl, ha10⟩, rfl⟩⟩⟩, ⟨_, _, rfl, ⟨a11, rfl, hl11, _, ha11⟩, ⟨_, _, rfl, ⟨a12, rfl, hl12, _, ha12⟩, ⟨_, _, rfl, ⟨_, _, rfl, ⟨a13, rfl, ha13⟩, ⟨_, _, rfl, ⟨a14, rfl, hl14, _, ha14⟩, rfl⟩⟩, rfl⟩⟩⟩⟩⟩⟩⟩⟩ := h
  obtain ⟨kl, rfl, hk⟩ := rows_list (enc := KeptV.enc) (Q := fun k => i64 k.st ∧ i64 k.val) fun r hr => by
    obtain ⟨cs, rfl, _, _, rfl, ⟨x, rfl, hx⟩, _, _, rfl, ⟨y, rfl, hy⟩, rfl⟩ := ha11 r hr
    exact ⟨⟨x, y⟩, ⟨hx, hy⟩, rfl⟩
  obtain ⟨el, rfl, he⟩ := rows_list (enc := AVal.int .i64) (Q := fun k => i64 k) fun r hr => by
    obtain ⟨x, hx, h1⟩ := ha12 r hr
    exact ⟨x, h1, by simpa using hx⟩
  obtain ⟨sl, rfl, hs⟩ := rows_list (enc := AVal.int .i64) (Q := fun k => i64 k) fun r hr => by
    obtain ⟨x, hx, h1⟩ := ha14 r hr
    exact ⟨x, h1, by simpa using hx⟩
  exact ⟨⟨a0, a1, a2, ⟨a3, a4, a5⟩, ⟨⟨a6, a7, a8⟩, a9, a10⟩, kl, el, a13, sl⟩, ⟨ha0, ha1, ha2, ha4, ha5, ha7, ha8, ha9, ha10, hk, he, ha13, hs⟩, rfl⟩

theorem said : Rows.StateTellsSaid := by
  refine over fun xs hx => ?_
  have hps : Try.f4.params.toList = [45, 45, 46] := rfl
  rw [hps] at hx
  obtain ⟨x0, _, rfl, h0, ⟨x1, _, rfl, h1, ⟨x2, _, rfl, h2, rfl⟩⟩⟩ := hx
  rw [ro45] at h0
  rw [ro45] at h1
  rw [ro46] at h2
  obtain ⟨c0, rfl, h0⟩ := h0
  obtain ⟨c1, rfl, h1⟩ := h1
  obtain ⟨c2, rfl, h2⟩ := h2
  obtain ⟨a, ha, e1⟩ := decState h0
  obtain ⟨b, hb, e2⟩ := decState h1
  simp only [ce3, ro3, ce4, ro4, ce37, ro37, ce39, ro39, ce40, ro40, ce41, ro41, ce43, ro43, ce45, ro45, ce46, ro46, ce96, ro96, CelF] at h2
  obtain ⟨_, _, rfl, ⟨x, rfl, _⟩, _, _, rfl, ⟨y, rfl, _⟩, _, _, rfl, ⟨z, rfl, _⟩, rfl⟩ := h2
  rw [e1, e2]
  exact law_StateTells a b x y z ha hb

end stateTells
end Go.Proofs.Ytamakciboibpmaa
