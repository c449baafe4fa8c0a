import Derived.Test.YtamakciboibpmaaKA
import Derived.Still
/- The abstract walk: regions, code and functions, each proved sound; for every program. -/
/- Slice expressions; the dispatch over all operations. -/
namespace Go.Awp
def RepO (S : Nat → Prop) (w : World) (g : Ghost) : Option AVal → Option Value → Prop
  | none, none => True
  | some x, some v => Rep S w g x v
  | _, _ => False
section
variable {P : Program} {S : Nat → Prop} {w : World} {g : Ghost} {m : List Blk}

theorem bnd_sound {len cap : Nat} {lo hi : Option AVal} {vlo vhi : Option Value} {K : Nat → Nat → Prop} (h : bnd len lo hi K) (hlo : RepO S w g lo vlo) (hhi : RepO S w g hi vhi) (hc : len ≤ cap) (isS : Bool) :
    ∃ l h, K l h ∧ l ≤ h ∧ h ≤ len ∧ (Instr.sliceBounds isS len cap vlo vhi none).run P w = .ok (l, h, cap) w := by
  unfold bnd at h
  split at h
  · rename_i k hh
    obtain ⟨⟨h0, h1⟩, h⟩ := h
    cases vhi with
    | none => exact hhi.elim
    | some vh =>
    cases hhi
    have e : (hh.toNat : Int) = hh := Int.toNat_of_nonneg h0
    split at h
    · rename_i k' l
      obtain ⟨⟨h2, h3⟩, hK⟩ := h
      cases vlo with
      | none => exact hlo.elim
      | some vl =>
      cases hlo
      refine ⟨_, _, hK, by omega, by omega, ?_⟩
      have h4 : hh ≤ (cap : Int) := by omega
      have h5 : l ≤ (hh.toNat : Int) := by omega
      have hs := run_sliceBound (P := P) w k' l hh.toNat .sliceB h2 h5
      simp [Instr.sliceBounds, run_sliceBound, h0, h4, hs]
    · cases vlo with
      | some _ => exact hlo.elim
      | none =>
      refine ⟨_, _, h, by omega, by omega, ?_⟩
      have h4 : hh ≤ (cap : Int) := by omega
      simp [Instr.sliceBounds, run_sliceBound, h0, h4]
    · exact h.elim
  · cases vhi with
    | some _ => exact hhi.elim
    | none =>
    split at h
    · rename_i k' l
      obtain ⟨⟨h2, h3⟩, hK⟩ := h
      cases vlo with
      | none => exact hlo.elim
      | some vl =>
      cases hlo
      refine ⟨_, _, hK, by omega, by omega, ?_⟩
      simp [Instr.sliceBounds, run_sliceBound, h2, h3]
    · cases vlo with
      | some _ => exact hlo.elim
      | none =>
      refine ⟨_, _, h, by omega, by omega, ?_⟩
      simp [Instr.sliceBounds]
    · exact h.elim
  · exact h.elim

theorem cut_get {α : Type} (rows : List α) (l h i : Nat) (_hl : l ≤ h) (_hh : h ≤ rows.length) : ((rows.take h).drop l)[i]? = if i < h - l then rows[l + i]? else none := by
  rw [List.getElem?_drop, List.getElem?_take]
  split
  · rw [if_pos (by omega)]
  · rw [if_neg (by omega)]

/-- A part of a slice that reads as a list. -/
theorem imm_cut {sz : Nat} {rows : List AVal} {a : Option Addr} {len cap : Nat} (hx : Rep S w g (.imm sz rows) (.slice a len cap)) {l h : Nat} (hl : l ≤ h) (hh : h ≤ rows.length) :
    Rep S w g (.imm sz ((rows.take h).drop l)) (.slice (if cap = l then a else a.map (·.add (l * sz))) (h - l) (cap - l)) := by
  have hlen : ((rows.take h).drop l).length = h - l := by simp; omega
  by_cases he : h - l = 0
  · have : (rows.take h).drop l = [] := List.eq_nil_of_length_eq_zero (by omega)
    rw [this, he]
    exact .imm0 _ _ _ _
  · cases hx with
    | imm0 g sz a cap => simp at hh; omega
    | imm g sz rows blk base _ cap f hS hlen' hcap hw h1 hc hr =>
      have hne : ¬ cap = l := by omega
      rw [if_neg hne]
      simp only [Option.map_some, addr_add]
      refine .imm g sz _ blk (base + l * sz) (h - l) (cap - l) (fun i j => f (l + i) j) hS hlen.symm (by omega) (fun i r hi => ?_) (fun i j => h1 _ _) (fun i r j y hi hj => ?_) (fun i r j y hi hj => ?_)
      · rw [cut_get _ _ _ _ hl hh] at hi; split at hi
        · exact hw _ _ hi
        · cases hi
      · rw [cut_get _ _ _ _ hl hh] at hi; split at hi
        · have := hc _ _ _ _ hi hj
          rw [← this]; congr 2; rw [Nat.add_mul]; omega
        · cases hi
      · rw [cut_get _ _ _ _ hl hh] at hi; split at hi
        · exact hr _ _ _ _ hi hj
        · cases hi

theorem imm_cap {sz : Nat} {rows : List AVal} {v : Value} (hx : Rep S w g (.imm sz rows) v) : ∃ a cap, v = .slice a rows.length cap ∧ rows.length ≤ cap := by
  cases hx with
  | imm0 g sz a cap => exact ⟨_, _, rfl, Nat.zero_le _⟩
  | imm g sz rows blk base _ cap f hS hlen' hcap hw h1 hc hr => subst hlen'; exact ⟨_, _, rfl, hcap⟩

theorem kSlice_sound (hI : Inv S w g m) {t : TypeId} {x : AVal} {lo hi mx : Option AVal} {a : Value} {vlo vhi vmx : Option Value} {K : AVal → List Blk → Prop} (h : kSlice P t x lo hi mx m K) (hx : Rep S w g x a)
    (hlo : RepO S w g lo vlo) (hhi : RepO S w g hi vhi) (hmx : RepO S w g mx vmx) :
    ∃ v m' u S', K v m' ∧ (Instr.sliceAt t a vlo vhi vmx).run P w = .ok u w ∧ After S w g m S' w g m' v u := by
  have run_imm : ∀ (e : TypeId) (sz : Nat) (a : Option Addr) (len cap l h : Nat), P.underlying t = some (.slice e) → tySize P e = some sz → (Instr.sliceBounds true len cap vlo vhi none).run P w = .ok (l, h, cap) w →
      (Instr.sliceAt t (.slice a len cap) vlo vhi none).run P w = .ok (.slice (if cap = l then a else a.map (·.add (l * sz))) (h - l) (cap - l)) w := fun e sz a len cap l h hu hsz hb => by
    simp [Instr.sliceAt, run_underlying hu, Instr.slice, hb, run_sizeOf hsz]
  unfold kSlice at h
  split at h
  · exact h.elim
  · cases vmx with
    | some _ => exact hmx.elim
    | none =>
    split at h
    · rename_i s
      obtain ⟨hs, h⟩ := h
      cases hx with
      | str g _ =>
      obtain ⟨l, h', hK, _, _, hb⟩ := bnd_sound (P := P) h hlo hhi (Nat.le_refl _) false
      refine ⟨_, _, .string (s.extract l h'), S, hK, ?_, After.same hI (.str _ _)⟩
      simp [Instr.sliceAt, run_underlying (tyStr_und hs), Instr.slice, hb]
    · rename_i sz rows
      split at h
      · rename_i e he
        obtain ⟨hsz, h⟩ := h
        obtain ⟨a', cap, rfl, hcap⟩ := imm_cap hx
        obtain ⟨l, h', hK, hl, hh, hb⟩ := bnd_sound (P := P) h hlo hhi hcap true
        exact ⟨_, _, _, S, hK, run_imm e sz a' _ cap l h' (tyElem_und he) hsz hb, After.same hI (imm_cut hx hl hh)⟩
      · exact h.elim
    · split at h
      · rename_i e he
        obtain ⟨hsz, h⟩ := h
        obtain ⟨sz, hsz⟩ := Option.isSome_iff_exists.1 hsz
        cases hx with
        | nils g =>
        obtain ⟨l, h', hK, hl, hh, hb⟩ := bnd_sound (P := P) h hlo hhi (Nat.le_refl _) true
        obtain rfl : h' = 0 := by omega
        obtain rfl : l = 0 := by omega
        exact ⟨_, _, _, S, hK, run_imm e sz none 0 0 0 0 (tyElem_und he) hsz hb, After.same hI (.nils _)⟩
      · exact h.elim
    · rename_i b len
      split at h
      · rename_i fz sz rows hm
        obtain ⟨hlen, h⟩ := h
        split at h
        · rename_i e he
          obtain ⟨hsz, h⟩ := h
          obtain ⟨S', h1, hv, hS, hchg⟩ := freeze_sound hI _ hx
          have hfz : frzL m (AVal.slIds (.sl b len)) = frzB m b := rfl
          rw [hfz] at h1 hchg
          have hvw : AVal.view m (.sl b len) = .imm sz rows := by rw [AVal.view, hm]; simp [hlen]
          rw [hvw] at hv
          obtain ⟨a', cap, rfl, hcap⟩ := imm_cap hv
          obtain ⟨l, h', hK, hl, hh, hb⟩ := bnd_sound (P := P) h hlo hhi hcap true
          exact ⟨_, _, _, S', hK, run_imm e sz a' _ cap l h' (tyElem_und he) hsz hb, h1, imm_cut hv hl hh, GLe.refl g, hchg⟩
        · exact h.elim
      · exact h.elim
    · exact h.elim
end

/- THE DISPATCH -/
def kCall (P : Program) (f : AVal) (args : List AVal) (m : List Blk) (K : AVal → List Blk → Prop) : Prop := match f with
  | .fn (.func k) fs cs => fnOk P k = true ∧ ∃ v m', Runs P k (fs ++ args ++ cs) m v m' ∧ K v m'
  | _ => False
def kBuiltin (P : Program) (b : Builtin) (ts : List TypeId) (args : List AVal) (m : List Blk) (K : AVal → List Blk → Prop) : Prop := match b, ts, args with
  | .len, [t], [x] => kLen P t x m fun v => K v m
  | .min, _, xs => kMin false xs fun v => K v m
  | .max, _, xs => kMin true xs fun v => K v m
  | .append, [t, u], [x, y] => t = u ∧ kAppend P t x y m K
  | .delete, t :: _, [x, k] => kDelete P t x k m fun m' => K (.tup []) m'
  | _, _, _ => False
def kop (P : Program) (ρ : Operand → AVal) (m : List Blk) (K : AVal → List Blk → Prop) : Op → Prop
  | .move x => K (ρ x) m
  | .assign x => K (ρ x) m
  | .pick c a b => kPick (ρ c) (ρ a) (ρ b) fun v => K v m
  | .alloc e => kAlloc P e m K
  | .box _ x => kBox (ρ x) m K
  | .build t ps => kBuild P t (ps.toList.map fun p => (p.1, ρ p.2)) fun v => K v m
  | .buildSlice t n ps => kBuildSlice P t n (ps.toList.map fun p => (p.1, ρ p.2)) m K
  | .load t a => kLoad P t (ρ a) m fun v => K v m
  | .store t a x => kStore P t (ρ a) (ρ x) m fun m' => K .dead m'
  | .nilCheck x => kNilCheck (ρ x) fun v => K v m
  | .binOp op t x y _ => kBin P op t (ρ x) (ρ y) fun v => K v m
  | .unOp op _ x => kUn op (ρ x) fun v => K v m
  | .convert s d x => kConv P s d (ρ x) fun v => K v m
  | .makeFunc fn fs cs => K (.fn fn (fs.toList.map ρ) (cs.toList.map ρ)) m
  | .makeSlice t l c => kMake P t (ρ l) (ρ c) m K
  | .slice t x lo hi mx => kSlice P t (ρ x) (lo.map ρ) (hi.map ρ) (mx.map ρ) m K
  | .fieldAddr t x f => kFieldAddr P t f (ρ x) m fun v => K v m
  | .field t x f => kField P t f (ρ x) fun v => K v m
  | .indexAddr t x i => kIndexAddr P t (ρ x) (ρ i) m fun v => K v m
  | .index t x i => kIndex P t (ρ x) (ρ i) fun v => K v m
  | .extract x i => kExtract (ρ x) i fun v => K v m
  | .lookup t x k ok => kLookup P t (ρ x) (ρ k) ok m fun v => K v m
  | .makeMap t none => kMakeMap P t m K
  | .mapUpdate t x k v => kMapUpdate P t (ρ x) (ρ k) (ρ v) m fun m' => K .dead m'
  | .mapEntry t x k => kMapEntry P t (ρ x) (ρ k) m K
  | .entryStore _ x s v => kEntryStore (ρ x) (ρ s) (ρ v) m fun m' => K .dead m'
  | .call ⟨.builtin b, args, ts⟩ => kBuiltin P b ts.toList (args.toList.map ρ) m K
  | .call ⟨.value f, args, _⟩ => kCall P (ρ f) (args.toList.map ρ) m K
  | _ => False
end Go.Awp

/- Every operation does what its tree's step says. -/
namespace Go.Awp
def OpRun (P : Program) (o : Oper) (a : Act) (S : Nat → Prop) (w : World) (g : Ghost) (m : List Blk) (v : AVal) (m' : List Blk) : Prop :=
  (∃ u w' S' g', ((execOp a.eval o).run P w = .ok (.value u) w' ∨ ((execOp a.eval o).run P w = .ok .skip w' ∧ u = undef)) ∧ After S w g m S' w' g' m' v u) ∨
  (∃ f args, (execOp a.eval o).run P w = .ok (.enter f args) w ∧ Calls P f args w fun e w' => ∃ u S' g', e = .returned u ∧ After S w g m S' w' g' m' v u)
section
variable {P : Program} {S : Nat → Prop} {w : World} {g : Ghost} {m : List Blk}

theorem kAppend_sound (hI : Inv S w g m) {ty rt : TypeId} {x y : AVal} {a b : Value} {K : AVal → List Blk → Prop} (h : kAppend P ty x y m K) (hx : Rep S w g x a) (hy : Rep S w g y b) :
    ∃ v m' u w' g', K v m' ∧ (Builtin.append_ #[ty, ty] rt #[a, b]).run P w = .ok u w' ∧ After S w g m S w' g' m' v u := by
  unfold kAppend at h
  split at h
  · rename_i e he
    split at h
    · rename_i sz happ
      have hu := tyElem_und he
      obtain ⟨i, z, hi, hz, _⟩ := tyApp_info happ
      split at h
      · cases hy with
        | nils g =>
        split at h
        · cases hx with
          | nils g => exact ⟨_, _, _, w, g, h, append_zero hu (by rw [hi]; rfl) none 0 0 (Nat.le_refl _) none 0, After.same hI (.nils _)⟩
        · split at h
          · rename_i fz sz2 rows hm
            obtain ⟨hlen, hK⟩ := h
            cases hx with
            | sl g _ _ x v hp hbx hle hv =>
            obtain ⟨x', e', xs, k1, k2, k3, k4, k5, k6, k7, k8⟩ := hI.tie _ _ hm
            obtain rfl := Option.some.inj (hbx.symm.trans k1)
            obtain rfl := hv (k3.trans hlen)
            obtain ⟨a0, l0, c0, hcur⟩ := hp
            have hl0 : l0 ≤ c0 := by
              rcases k6.2 with ⟨h, h0⟩ | ⟨g, cap, cur, h1, _, _, h4, _⟩
              · rw [hcur] at h; injection h with _ h1 h2; subst h1; subst h2; exact Nat.le_refl _
              · rw [hcur] at h1; injection h1 with _ h1 h2; subst h1; subst h2; exact h4
            refine ⟨_, _, _, w, g, hK, ?_, After.same hI (.sl _ _ _ x _ ⟨_, _, _, hcur⟩ hbx hle hv)⟩
            rw [hcur]
            exact append_zero hu (by rw [hi]; rfl) a0 l0 c0 hl0 none 0
          · exact h.elim
        · exact h.elim
      · obtain ⟨rfl, hb, h⟩ := h
        exact append_sound hI hu happ hy rfl hb h hx
      · split at h
        · rename_i fz sz' rows' hm
          obtain ⟨rfl, hlen, hb, h⟩ := h
          exact append_sound hI hu happ hy (by simp [rowsOf, hm, hlen]) hb h hx
        · exact h.elim
      · exact h.elim
    · exact h.elim
  · exact h.elim

theorem fnOk_call {f : FuncId} (h : fnOk P f = true) (args : Array Value) (w : World) : (callFunc f args).run P w = .ok (.enter f args) w := by
  unfold fnOk at h
  split at h
  · rename_i fn hf
    simp only [Bool.and_eq_true, Bool.not_eq_true', beq_eq_false_iff_ne] at h
    obtain ⟨h1, h2⟩ := h
    simp [callFunc, hf, h2]
    intro hb
    simp [hb] at h1
  · cases h

theorem get_append3 {α : Type} {a b c : List α} {j : Nat} {y : α} (h : (a ++ b ++ c)[j]? = some y) : a[j]? = some y ∨ (a.length ≤ j ∧ b[j - a.length]? = some y) ∨ (a.length + b.length ≤ j ∧ c[j - a.length - b.length]? = some y) := by
  rw [List.append_assoc, List.getElem?_append] at h
  split at h
  · exact .inl h
  · rename_i h1
    rw [List.getElem?_append] at h
    split at h
    · exact .inr (.inl ⟨by omega, h⟩)
    · exact .inr (.inr ⟨by omega, h⟩)

theorem map_rep {ρ : Operand → AVal} {a : Act} (hρ : ∀ x, Rep S w g (ρ x) (a.eval x)) (l : Array Operand) (j : Nat) (y : AVal) (h : (l.toList.map ρ)[j]? = some y) : Rep S w g y ((l.map a.eval).getD j undef) := by
  rw [List.getElem?_map] at h
  cases hq : l.toList[j]? with
  | none => simp [hq] at h
  | some x =>
    simp only [hq, Option.map_some, Option.some.injEq] at h
    subst h
    have h2 : l[j]? = some x := by simpa using hq
    simp [Array.getD_eq_getD_getElem?, h2]
    exact hρ x

theorem kCall_sound (hI : Inv S w g m) {ρ : Operand → AVal} {a : Act} (hρ : ∀ x, Rep S w g (ρ x) (a.eval x)) {fo : Operand} {args : Array Operand} {K : AVal → List Blk → Prop} (h : kCall P (ρ fo) (args.toList.map ρ) m K) :
    ∃ v m', K v m' ∧ ∃ f vals, ((do let d ← Deferred.ofValue (a.eval fo) (args.map a.eval); invoke d.target d.args) : Sem Next).run P w = .ok (.enter f vals) w ∧
      Calls P f vals w fun e w' => ∃ u S' g', e = .returned u ∧ After S w g m S' w' g' m' v u := by
  unfold kCall at h
  split at h
  · rename_i k fs cs hf
    obtain ⟨hok, v, m', hr, hK⟩ := h
    have hff := hρ fo
    rw [hf] at hff
    generalize a.eval fo = fv at hff
    cases hff with
    | fn g f _ _ ar br hl hr1 hl' hr2 =>
    refine ⟨v, m', hK, k, ar ++ args.map a.eval ++ br, ?_, ?_⟩
    · simp [Deferred.ofValue, invoke, fnOk_call hok]
    · refine hr S w g _ hI (by simp [hl, hl']) fun j y hj => ?_
      have hlen : (args.toList.map ρ).length = (args.map a.eval).size := by simp
      rcases get_append3 hj with h1 | ⟨h0, h1⟩ | ⟨h0, h1⟩
      · have hlt := (List.getElem?_eq_some_iff.1 h1).1
        have e : (ar ++ args.map a.eval ++ br).getD j undef = ar.getD j undef := by
          rw [Array.getD_eq_getD_getElem?, Array.getD_eq_getD_getElem?, Array.append_assoc, Array.getElem?_append_left (by omega)]
        rw [e]; exact hr1 j y h1
      · have hlt := (List.getElem?_eq_some_iff.1 h1).1
        have e : (ar ++ args.map a.eval ++ br).getD j undef = (args.map a.eval).getD (j - fs.length) undef := by
          rw [Array.getD_eq_getD_getElem?, Array.getD_eq_getD_getElem?, Array.append_assoc, Array.getElem?_append_right (by omega), Array.getElem?_append_left (by omega), hl]
        rw [e]; exact map_rep hρ args _ y h1
      · have e : (ar ++ args.map a.eval ++ br).getD j undef = br.getD (j - fs.length - (args.toList.map ρ).length) undef := by
          rw [Array.getD_eq_getD_getElem?, Array.getD_eq_getD_getElem?, Array.append_assoc, Array.getElem?_append_right (by omega), Array.getElem?_append_right (by omega), hl, hlen]
        rw [e]; exact hr2 _ y h1
  · exact h.elim

def nilOk : Value → Bool
  | .pointer (some _) => true
  | .func (.func _) _ _ => true
  | _ => false
theorem kNilCheck_sound {x : AVal} {a : Value} {K : AVal → Prop} (h : kNilCheck x K) (hx : Rep S w g x a) : ∃ v, K v ∧ Rep S w g v a ∧ nilOk a = true := by
  unfold kNilCheck at h
  split at h
  · cases hx with
    | ptr g b off x c hb hc hl => exact ⟨_, h, .ptr g _ _ x c hb hc hl, rfl⟩
  · cases hx with
    | ept g cs off blk base f hS h1 hc hr => exact ⟨_, h, .ept g _ _ blk base f hS h1 hc hr, rfl⟩
  · cases hx with
    | fn g f cs ds ar br hl hr hl' hr' => exact ⟨_, h, .fn g _ _ _ ar br hl hr hl' hr', rfl⟩
  · exact h.elim

theorem OpRun.val {o : Oper} {a : Act} (hI : Inv S w g m) {K : AVal → Prop} {s : Sem Value} (he : execOp a.eval o = (do pure (.value (← s))))
    (h : ∃ v u, K v ∧ s.run P w = .ok u w ∧ Rep S w g v u) : ∃ v m', (K v ∧ m' = m) ∧ OpRun P o a S w g m v m' := by
  obtain ⟨v, u, hK, hr, hv⟩ := h
  exact ⟨v, m, ⟨hK, rfl⟩, .inl ⟨u, w, S, g, .inl (by rw [he]; simp [hr]), After.same hI hv⟩⟩

theorem pair_rep {ρ : Operand → AVal} {a : Act} (hρ : ∀ x, Rep S w g (ρ x) (a.eval x)) (ps : Array (Nat × Operand)) (j : Nat) (p : Nat × AVal) (q : Nat × Value)
    (hp : (ps.toList.map fun p => (p.1, ρ p.2))[j]? = some p) (hq : (ps.map fun (i, x) => (i, a.eval x))[j]? = some q) : p.1 = q.1 ∧ Rep S w g p.2 q.2 := by
  rw [List.getElem?_map] at hp
  rw [Array.getElem?_map] at hq
  cases hl : ps[j]? with
  | none => simp [hl] at hq
  | some z =>
    have hl' : ps.toList[j]? = some z := by simpa using hl
    simp only [hl, Option.map_some, Option.some.injEq] at hq
    simp only [hl', Option.map_some, Option.some.injEq] at hp
    subst hp; subst hq
    exact ⟨rfl, hρ _⟩

theorem repO_map {ρ : Operand → AVal} {a : Act} (hρ : ∀ x, Rep S w g (ρ x) (a.eval x)) (x : Option Operand) : RepO S w g (x.map ρ) (x.map a.eval) := by
  cases x with
  | none => trivial
  | some x => exact hρ x

theorem kop_sound (hI : Inv S w g m) {ρ : Operand → AVal} {a : Act} (hρ : ∀ x, Rep S w g (ρ x) (a.eval x)) {K : AVal → List Blk → Prop} {o : Oper} (h : kop P ρ m K o.op) :
    ∃ v m', K v m' ∧ OpRun P o a S w g m v m' := by
  have val : ∀ {s : Sem Value}, execOp a.eval o = (do pure (.value (← s))) → (∃ v u, K v m ∧ s.run P w = .ok u w ∧ Rep S w g v u) → ∃ v m', K v m' ∧ OpRun P o a S w g m v m' := fun he h => by
    obtain ⟨v, m', ⟨hK, rfl⟩, hr⟩ := OpRun.val (K := fun v => K v m) hI he h
    exact ⟨v, _, hK, hr⟩
  have mem : ∀ {s : Sem Value}, execOp a.eval o = (do pure (.value (← s))) → (∃ v m' u w' S' g', K v m' ∧ s.run P w = .ok u w' ∧ After S w g m S' w' g' m' v u) → ∃ v m', K v m' ∧ OpRun P o a S w g m v m' := fun he h => by
    obtain ⟨v, m', u, w', S', g', hK, hr, hA⟩ := h
    exact ⟨v, m', hK, .inl ⟨u, w', S', g', .inl (by rw [he]; simp [hr]), hA⟩⟩
  cases hop : o.op with
  | move x => rw [hop] at h; exact ⟨_, m, h, .inl ⟨_, w, S, g, .inl (by simp [execOp, hop]), After.same hI (hρ x)⟩⟩
  | assign x => rw [hop] at h; exact ⟨_, m, h, .inl ⟨_, w, S, g, .inl (by simp [execOp, hop]), After.same hI (hρ x)⟩⟩
  | pick c x y =>
    rw [hop] at h
    obtain ⟨v, t, hK, ht, hv⟩ := kPick_sound (K := fun v => K v m) h (hρ c) (hρ x) (hρ y)
    exact ⟨v, m, hK, .inl ⟨_, w, S, g, .inl (by simp [execOp, hop, ht, asBool]), After.same hI hv⟩⟩
  | alloc e => rw [hop] at h; obtain ⟨v, m', u, w', g', h1, h2, h3⟩ := kAlloc_sound hI h; exact mem (by simp [execOp, hop]) ⟨v, m', u, w', S, g', h1, h2, h3⟩
  | box e x => rw [hop] at h; obtain ⟨v, m', u, w', g', h1, h2, h3⟩ := kBox_sound (P := P) (e := e) hI h (hρ x); exact mem (by simp [execOp, hop]) ⟨v, m', u, w', S, g', h1, h2, h3⟩
  | build t ps => rw [hop] at h; exact val (by simp [execOp, hop]) (kBuild_sound h (by simp) (pair_rep hρ ps))
  | buildSlice t n ps => rw [hop] at h; exact mem (by simp [execOp, hop]) (kBuildSlice_sound hI h (by simp) (pair_rep hρ ps))
  | load t x => rw [hop] at h; exact val (by simp [execOp, hop]) (kLoad_sound hI h (hρ x))
  | store t x y =>
    rw [hop] at h
    obtain ⟨m', w', g', hK, hr, hA⟩ := kStore_sound hI h (hρ x) (hρ y)
    exact ⟨_, m', hK, .inl ⟨undef, w', S, g', .inr ⟨by simp [execOp, hop, hr], rfl⟩, hA⟩⟩
  | nilCheck x =>
    rw [hop] at h
    obtain ⟨v, hK, hv, hm⟩ := kNilCheck_sound (K := fun v => K v m) h (hρ x)
    refine ⟨v, m, hK, .inl ⟨a.eval x, w, S, g, .inl ?_, After.same hI hv⟩⟩
    simp only [execOp, hop]
    generalize a.eval x = z at hm
    match z, hm with
    | .pointer (some p), _ => rfl
    | .func (.func f) u v', _ => rfl
    | .pointer none, hm => simp [nilOk] at hm
  | binOp op t x y yt => rw [hop] at h; exact val (s := do eqGuard op t x y (a.eval x) (a.eval y); binOp op t (a.eval x) (a.eval y)) (by simp [execOp, hop]) (kBin_sound (K := fun v => K v m) h (hρ x) (hρ y) x y)
  | unOp op t x => rw [hop] at h; exact val (by simp [execOp, hop]) (kUn_sound h (hρ x))
  | convert s d x => rw [hop] at h; exact val (by simp [execOp, hop]) (kConv_sound h (hρ x))
  | makeFunc fn fs cs =>
    rw [hop] at h
    exact ⟨_, m, h, .inl ⟨.func fn (fs.map a.eval) (cs.map a.eval), w, S, g, .inl (by simp [execOp, hop, Instr.makeFunc]), After.same hI (.fn _ _ _ _ _ _ (by simp) (map_rep hρ fs) (by simp) (map_rep hρ cs))⟩⟩
  | makeSlice t l c => rw [hop] at h; obtain ⟨v, m', u, w', g', h1, h2, h3⟩ := kMake_sound hI h (hρ l) (hρ c); exact mem (by simp [execOp, hop]) ⟨v, m', u, w', S, g', h1, h2, h3⟩
  | slice t x lo hi mx =>
    rw [hop] at h
    obtain ⟨v, m', u, S', hK, hr, hA⟩ := kSlice_sound hI h (hρ x) (repO_map hρ lo) (repO_map hρ hi) (repO_map hρ mx)
    exact mem (by simp [execOp, hop]) ⟨v, m', u, w, S', g, hK, hr, hA⟩
  | fieldAddr t x f => rw [hop] at h; exact val (by simp [execOp, hop]) (kFieldAddr_sound hI h (hρ x))
  | field t x f => rw [hop] at h; exact val (by simp [execOp, hop]) (kField_sound h (hρ x))
  | indexAddr t x i => rw [hop] at h; exact val (by simp [execOp, hop]) (kIndexAddr_sound hI h (hρ x) (hρ i))
  | index t x i => rw [hop] at h; exact val (by simp [execOp, hop]) (kIndex_sound h (hρ x) (hρ i))
  | extract x i => rw [hop] at h; exact val (by simp [execOp, hop]) (kExtract_sound h (hρ x))
  | lookup t x k ok => rw [hop] at h; exact val (by simp [execOp, hop]) (kLookup_sound hI h (hρ x) (hρ k))
  | makeMap t r =>
    rw [hop] at h
    cases r with
    | some r => exact h.elim
    | none =>
      obtain ⟨v, m', u, w', g', h1, h2, h3⟩ := kMakeMap_sound hI h
      exact mem (by simp [execOp, hop]) ⟨v, m', u, w', S, g', h1, h2, h3⟩
  | mapEntry t x k => rw [hop] at h; obtain ⟨v, m', u, w', h1, h2, h3⟩ := kMapEntry_sound hI h (hρ x) (hρ k); exact mem (by simp [execOp, hop]) ⟨v, m', u, w', S, g, h1, h2, h3⟩
  | mapUpdate t x k v =>
    rw [hop] at h
    obtain ⟨m', w', hK, hr, hA⟩ := kMapUpdate_sound hI h (hρ x) (hρ k) (hρ v)
    exact ⟨_, m', hK, .inl ⟨undef, w', S, g, .inr ⟨by simp [execOp, hop, hr], rfl⟩, hA⟩⟩
  | entryStore t x s v =>
    rw [hop] at h
    obtain ⟨m', w', hK, hr, hA⟩ := kEntryStore_sound (P := P) (t := t) hI h (hρ x) (hρ s) (hρ v)
    exact ⟨_, m', hK, .inl ⟨undef, w', S, g, .inr ⟨by simp [execOp, hop, hr], rfl⟩, hA⟩⟩
  | call c =>
    obtain ⟨callee, args, ts⟩ := c
    rw [hop] at h
    cases callee with
    | invoke r n => exact h.elim
    | value f =>
      obtain ⟨v, m', hK, f', vals, hr, hc⟩ := kCall_sound hI hρ h
      exact ⟨v, m', hK, .inr ⟨f', vals, by simpa [execOp, hop, resolve] using hr, hc⟩⟩
    | builtin b =>
      obtain ⟨consts, hex⟩ : ∃ cs, execOp a.eval o = builtin b ts o.type cs (args.map a.eval) := ⟨_, by simp [execOp, hop, resolve, invoke]; rfl⟩
      simp only [kop] at h
      unfold kBuiltin at h
      split at h
      · rename_i t x hts hxs
        have e1 : ts = #[t] := by apply Array.ext'; simpa using hts
        obtain ⟨y, hy⟩ : ∃ y, args = #[y] := by
          obtain ⟨l⟩ := args
          match l, hxs with
          | [y], _ => exact ⟨y, rfl⟩
        subst hy; subst e1
        simp at hxs; subst hxs
        exact val (by rw [hex]; simp [builtin]) (kLen_sound (rt := o.type) (K := fun v => K v m) hI h (hρ y))
      · have := kMin_sound (P := P) (K := fun v => K v m) (mx := false) (ts := ts) (rt := o.type) h (by simp) (map_rep hρ args)
        exact val (by rw [hex]; simp [builtin]) this
      · have := kMin_sound (P := P) (K := fun v => K v m) (mx := true) (ts := ts) (rt := o.type) h (by simp) (map_rep hρ args)
        exact val (by rw [hex]; simp [builtin]) this
      · rename_i t u x y hts hxs
        obtain ⟨rfl, h⟩ := h
        have e1 : ts = #[t, t] := by apply Array.ext'; simpa using hts
        obtain ⟨p, q, hpq⟩ : ∃ p q, args = #[p, q] := by
          obtain ⟨l⟩ := args
          match l, hxs with
          | [p, q], _ => exact ⟨p, q, rfl⟩
        subst hpq; subst e1
        simp at hxs
        obtain ⟨rfl, rfl⟩ := hxs
        obtain ⟨v, m', u, w', g', h1, h2, h3⟩ := kAppend_sound (rt := o.type) hI h (hρ p) (hρ q)
        exact mem (by rw [hex]; simp [builtin]) ⟨v, m', u, w', S, g', h1, h2, h3⟩
      · rename_i t tr x k hts hxs
        obtain ⟨tl, e1⟩ : ∃ tl : List TypeId, ts = (t :: tl).toArray := ⟨tr, by apply Array.ext'; simpa using hts⟩
        obtain ⟨p, q, hpq⟩ : ∃ p q, args = #[p, q] := by
          obtain ⟨l⟩ := args
          match l, hxs with
          | [p, q], _ => exact ⟨p, q, rfl⟩
        subst hpq; subst e1
        simp at hxs
        obtain ⟨rfl, rfl⟩ := hxs
        obtain ⟨m', w', h1, h2, h3⟩ := kDelete_sound (rt := o.type) (tl := tl) hI h (hρ p) (hρ q)
        exact mem (by rw [hex]; simp [builtin]) ⟨_, m', _, w', S, g, h1, h2, h3⟩
      · exact h.elim
  | _ => rw [hop] at h; exact h.elim
end
end Go.Awp

/- A region's operations, one behind the other. -/
namespace Go.Awp
def St.put (st : St) (d : Option Tmp) (v : AVal) (m : List Blk) : St := match d with
  | some d => ⟨(d, v) :: st.t, m⟩
  | none => ⟨st.t, m⟩
def gdst (ops : List Oper) (j : Nat) : Option Tmp := (ops[j]?).bind (·.dst)
def kOper (P : Program) (ops : List Oper) (o : Oper) (st : St) (K : St → Prop) : Prop := match o.guard with
  | none => kop P st.ev st.m (fun v m => K (st.put o.dst v m)) o.op
  | some (j, want) => (match gdst ops j with
    | some d => (match lk st.t d with
      | .bool b => (b = want → kop P (st.put (some d) (.bool want) st.m).ev st.m (fun v m => K ((st.put (some d) (.bool want) st.m).put o.dst v m)) o.op) ∧
          (b = !want → K ((st.put (some d) (.bool !want) st.m).put o.dst (.tup []) st.m))
      | .tup [] => K (st.put o.dst (.tup []) st.m)
      | _ => False)
    | none => False)
def kOps (P : Program) (ops : List Oper) : List Oper → St → (St → Prop) → Prop
  | [], st, K => K st
  | o :: os, st, K => kOper P ops o st fun st => kOps P ops os st K

structure Rel (N : Nat) (S : Nat → Prop) (w : World) (g : Ghost) (st : St) (a : Act) : Prop where
  inv : Inv S w g st.m
  defers : a.defers = []
  size : a.tmps.size = N
  tmp : ∀ t, Rep S w g (lk st.t t) (a.tmps.getD t undef)

/-- A state further on in the same call. -/
structure On (S0 : Nat → Prop) (w0 : World) (g0 : Ghost) (m0 : List Blk) (N : Nat) (st : St) (a : Act) (w : World) : Prop where
  ex : ∃ S g, Rel N S w g st a ∧ GLe g0 g ∧ Chg S0 w0 (Open g0 m0) S w g st.m

section
variable {P : Program} {S : Nat → Prop} {w : World} {g : Ghost} {N : Nat}

theorem Rel.ev {st : St} {a : Act} (h : Rel N S w g st a) (x : Operand) : Rep S w g (st.ev x) (a.eval x) := by
  cases x with
  | tmp t => exact h.tmp t
  | const v => exact ofVal_rep S w g v
  | global b => exact .dead _ _
  | func f => exact .fn _ _ _ _ _ _ rfl (fun j y hj => by simp at hj) rfl (fun j y hj => by simp at hj)

theorem put_tmp {a : Act} {d : Option Tmp} {u : Value} {t : Tmp} : (a.put d u).tmps.getD t undef = if d = some t ∧ t < a.tmps.size then u else a.tmps.getD t undef := by
  cases d with
  | none => simp [Act.put]
  | some d =>
    simp only [Act.put, Array.getD_eq_getD_getElem?, Array.getElem?_setIfInBounds, Option.some.injEq]
    by_cases h : d = t
    · subst h
      by_cases h2 : d < a.tmps.size
      · simp [h2]
      · simp [h2]
    · simp [h]

theorem Rel.put {S' : Nat → Prop} {w' : World} {g' : Ghost} {st : St} {a : Act} (h : Rel N S w g st a) {m' : List Blk} {v : AVal} {u : Value} (hA : After S w g st.m S' w' g' m' v u) (d : Option Tmp) (hd : ∀ t, d = some t → t < N) :
    Rel N S' w' g' (st.put d v m') (a.put d u) := by
  refine ⟨?_, ?_, ?_, fun t => ?_⟩
  · cases d <;> exact hA.inv
  · cases d <;> simp [Act.put, h.defers]
  · cases d <;> simp [Act.put, h.size]
  · rw [put_tmp]
    have old := (h.tmp t).after h.inv hA.chg hA.le
    cases d with
    | none => simpa [St.put] using old
    | some d =>
      by_cases e : d = t
      · subst e
        rw [if_pos ⟨rfl, by rw [h.size]; exact hd d rfl⟩]
        simp only [St.put, lk, if_true]
        exact hA.rep
      · rw [if_neg (by simp [e])]
        simp only [St.put, lk, if_neg e]
        exact old

theorem St.put_m (st : St) (d : Option Tmp) (v : AVal) (m : List Blk) : (st.put d v m).m = m := by cases d <;> rfl

theorem On.refl {st : St} {a : Act} (h : Rel N S w g st a) : On S w g st.m N st a w := ⟨S, g, h, GLe.refl g, Chg.refl⟩

/-- One operation, at whatever state of the call. -/
theorem kOper_sound {S0 : Nat → Prop} {w0 : World} {g0 : Ghost} {m0 : List Blk} {ops : Array Oper} {o : Oper} {st : St} {a : Act} {K : St → Prop} (h : kOper P ops.toList o st K) (hon : On S0 w0 g0 m0 N st a w)
    (hd : ∀ t, o.dst = some t → t < N) {Q : Exit → Act → World → Prop} {next : Act → World → Prop} (hK : ∀ st a w, K st → On S0 w0 g0 m0 N st a w → next a w) :
    if Region.wanted o (yielded ops a.tmps) then o.wp P a w next Q ∨ (o.asks P a w ∧ LetsOut Q) else next (a.put o.dst undef) w := by
  obtain ⟨S, g, hR, hle, hchg⟩ := hon
  have exec : ∀ (st : St) (K' : AVal → List Blk → Prop), Rel N S w g st a → Chg S0 w0 (Open g0 m0) S w g st.m → kop P st.ev st.m K' o.op →
      (∀ v m' a w, K' v m' → On S0 w0 g0 m0 N (st.put o.dst v m') a w → next a w) → o.wp P a w next Q := fun st K' hR hchg h hN => by
    obtain ⟨v, m', hK', hrun⟩ := kop_sound hR.inv hR.ev h
    unfold Oper.wp
    rcases hrun with ⟨u, w', S', g', hr, hA⟩ | ⟨f, args, hr, hc⟩
    · have hput : On S0 w0 g0 m0 N (st.put o.dst v m') (a.put o.dst u) w' := ⟨S', g', hR.put hA o.dst hd, hle.trans hA.le, by rw [St.put_m]; exact hchg.trans hA.chg⟩
      rcases hr with hr | ⟨hr, rfl⟩
      · rw [hr]; exact hN _ _ _ _ hK' hput
      · rw [hr]; exact hN _ _ _ _ hK' hput
    · rw [hr]
      refine hc.mono fun e w' he => ?_
      obtain ⟨u, S', g', rfl, hA⟩ := he
      exact hN _ _ _ _ hK' ⟨S', g', hR.put hA o.dst hd, hle.trans hA.le, by rw [St.put_m]; exact hchg.trans hA.chg⟩
  unfold kOper at h
  split at h
  · rename_i hg
    rw [if_pos (by simp [Region.wanted, hg])]
    exact .inl (exec st _ hR hchg h fun v m' a w hk hon => hK _ a w hk hon)
  · rename_i j want hg
    split at h
    · rename_i d hdst
      have hgd : (ops[j]?).bind (·.dst) = some d := by simpa [gdst] using hdst
      have hy : ∀ b, a.tmps.getD d undef = .bool b → yielded ops a.tmps j = some b := fun b hb => by
        unfold yielded
        have : a.tmps[d]? = some (.bool b) := by
          by_cases hlt : d < a.tmps.size
          · rw [getD_some hlt, hb]
          · simp [Array.getD, hlt, undef] at hb
        simp [hgd, this]
      split at h
      · rename_i b hb
        have hbv := hR.tmp d
        rw [hb] at hbv
        generalize hz : a.tmps.getD d undef = z at hbv
        cases hbv with
        | bool g b =>
        have hyb := hy b hz
        have same : Rel N S w g (st.put (some d) (.bool b) st.m) a := ⟨hR.inv, hR.defers, hR.size, fun t => by
          simp only [St.put, lk]
          split
          · rename_i e; subst e; rw [hz]; exact .bool _ _
          · exact hR.tmp t⟩
        by_cases hw : b = want
        · subst hw
          rw [if_pos (by simp [Region.wanted, hg, hyb])]
          exact .inl (exec _ _ same hchg (h.1 rfl) fun v m' a w hk hon => hK _ a w hk hon)
        · have hb' : b = !want := by cases b <;> cases want <;> simp_all
          rw [if_neg (by simp [Region.wanted, hg, hyb, hw])]
          subst hb'
          have hA : After S w g (st.put (some d) (.bool !want) st.m).m S w g st.m (.tup []) undef := After.same hR.inv (.tup _ _ _ rfl fun j y hj => by simp at hj)
          exact hK _ _ _ (h.2 rfl) ⟨S, g, Rel.put same hA o.dst hd, hle, by rw [St.put_m]; exact hchg⟩
      · rename_i hb
        have hbv := hR.tmp d
        rw [hb] at hbv
        generalize hz : a.tmps.getD d undef = z at hbv
        cases hbv with
        | tup g cs arr hl hr =>
        have hnw : ¬ Region.wanted o (yielded ops a.tmps) = true := by
          have : yielded ops a.tmps j = none := by
            unfold yielded
            cases hq : a.tmps[d]? with
            | none => simp [hgd, hq]
            | some z =>
              have : z = .tuple arr := by simp [Array.getD_eq_getD_getElem?, hq] at hz; exact hz
              subst this
              simp [hgd, hq]
          simp [Region.wanted, hg, this]
        rw [if_neg hnw]
        have hA : After S w g st.m S w g st.m (.tup []) undef := After.same hR.inv (.tup _ _ _ rfl fun j y hj => by simp at hj)
        exact hK _ _ _ h ⟨S, g, hR.put hA o.dst hd, hle, by rw [St.put_m]; exact hchg⟩
      · exact h.elim
    · exact h.elim

theorem kOps_sound {S0 : Nat → Prop} {w0 : World} {g0 : Ghost} {m0 : List Blk} {ops : Array Oper} {Q : Exit → Act → World → Prop} {K : St → Prop} (hK : ∀ st a w, K st → On S0 w0 g0 m0 N st a w → Q .normal a w) :
    ∀ (l : List Oper) (st : St) (a : Act) (w : World), (∀ o ∈ l, ∀ t, o.dst = some t → t < N) → kOps P ops.toList l st K → On S0 w0 g0 m0 N st a w → wpList P ops Q l a w
  | [], st, a, w, _, h, hon => hK st a w h hon
  | o :: l, st, a, w, hd, h, hon => by
    unfold wpList
    exact kOper_sound h hon (hd o (by simp)) fun st a w hk hon => kOps_sound hK l st a w (fun o ho => hd o (by simp [ho])) hk hon
end
end Go.Awp

/- A region that draws its order: walked once, in the order of the text. -/
namespace Go.Awp
def kCallQ (P : Program) (f : AVal) (args : List AVal) (K : AVal → Prop) : Prop := match f with
  | .fn (.func k) fs cs => fnOk P k = true ∧ ∃ v, (∀ m, Runs P k (fs ++ args ++ cs) m v m) ∧ K v
  | _ => False
def kBuiltinQ (P : Program) (b : Builtin) (ts : List TypeId) (args : List AVal) (m : List Blk) (K : AVal → Prop) : Prop := match b, ts, args with
  | .len, [t], [x] => kLen P t x m K
  | .min, _, xs => kMin false xs K
  | .max, _, xs => kMin true xs K
  | _, _, _ => False
/-- The operations that leave the memory alone. -/
def kopQ (P : Program) (ρ : Operand → AVal) (m : List Blk) (K : AVal → Prop) : Op → Prop
  | .move x => K (ρ x)
  | .assign x => K (ρ x)
  | .pick c a b => kPick (ρ c) (ρ a) (ρ b) K
  | .build t ps => kBuild P t (ps.toList.map fun p => (p.1, ρ p.2)) K
  | .load t a => kLoad P t (ρ a) m K
  | .nilCheck x => kNilCheck (ρ x) K
  | .binOp op t x y _ => kBin P op t (ρ x) (ρ y) K
  | .unOp op _ x => kUn op (ρ x) K
  | .convert s d x => kConv P s d (ρ x) K
  | .makeFunc fn fs cs => K (.fn fn (fs.toList.map ρ) (cs.toList.map ρ))
  | .fieldAddr t x f => kFieldAddr P t f (ρ x) m K
  | .field t x f => kField P t f (ρ x) K
  | .indexAddr t x i => kIndexAddr P t (ρ x) (ρ i) m K
  | .index t x i => kIndex P t (ρ x) (ρ i) K
  | .extract x i => kExtract (ρ x) i K
  | .lookup t x k ok => kLookup P t (ρ x) (ρ k) ok m K
  | .call ⟨.builtin b, args, ts⟩ => kBuiltinQ P b ts.toList (args.toList.map ρ) m K
  | .call ⟨.value f, args, _⟩ => kCallQ P (ρ f) (args.toList.map ρ) K
  | _ => False
def AVal.blkId : AVal → List Nat
  | .ptr b _ => [b]
  | .spt b _ _ _ => [b]
  | .sl b _ => [b]
  | .mp b => [b]
  | _ => []
/-- The blocks that such an operation looks at. -/
def rdIds (ρ : Operand → AVal) : Op → List Nat
  | .load _ a => (ρ a).blkId
  | .fieldAddr _ x _ => (match ρ x with | .spt b _ _ _ => [b] | _ => [])
  | .indexAddr _ x _ => (match ρ x with | .sl b _ => [b] | _ => [])
  | .lookup _ x _ _ => (ρ x).blkId
  | .call ⟨.builtin _, args, _⟩ => args.toList.flatMap fun x => (ρ x).blkId
  | _ => []
section
variable {P : Program}

theorem partA_det {t : TypeId} {cs : List AVal} {off : Nat} {K : AVal → Prop} (h : partA P t cs off K) : ∃ v, K v ∧ partA P t cs off (· = v) := by
  unfold partA at *
  split at h
  · rename_i ha
    split at h
    · rename_i sz hsz
      exact ⟨_, h.2, by simp [h.1]⟩
    · exact h.elim
  · rename_i ha
    split at h
    · rename_i v hv; exact ⟨v, h, by simp⟩
    · exact h.elim
  · exact h.elim

theorem kLoad_det {t : TypeId} {x : AVal} {m : List Blk} {K : AVal → Prop} (h : kLoad P t x m K) : ∃ v, K v ∧ kLoad P t x m (· = v) := by
  unfold kLoad at *
  split at h
  · split at h
    · obtain ⟨v, h1, h2⟩ := partA_det h; exact ⟨v, h1, h2⟩
    · exact h.elim
  · obtain ⟨v, h1, h2⟩ := partA_det h; exact ⟨v, h1, h2⟩
  · split at h
    · obtain ⟨k1, k2, h⟩ := h; obtain ⟨v, h1, h2⟩ := partA_det h; exact ⟨v, h1, k1, k2, h2⟩
    · exact h.elim
  · exact h.elim
theorem kFieldAddr_det {t : TypeId} {f : Nat} {x : AVal} {m : List Blk} {K : AVal → Prop} (h : kFieldAddr P t f x m K) : ∃ v, K v ∧ kFieldAddr P t f x m (· = v) := by
  unfold kFieldAddr at *
  split at h
  · rename_i o ho
    split at h
    · exact ⟨_, h, rfl⟩
    · exact ⟨_, h, rfl⟩
    · split at h
      · exact ⟨_, h.2, h.1, rfl⟩
      · exact h.elim
    · exact h.elim
  · exact h.elim
theorem kField_det {t : TypeId} {f : Nat} {x : AVal} {K : AVal → Prop} (h : kField P t f x K) : ∃ v, K v ∧ kField P t f x (· = v) := by
  unfold kField at *
  split at h
  · rename_i o ft ho
    split at h
    · obtain ⟨v, h1, h2⟩ := partA_det h; exact ⟨v, h1, h2⟩
    · exact h.elim
  · exact h.elim
theorem kIndexAddr_det {t : TypeId} {x i : AVal} {m : List Blk} {K : AVal → Prop} (h : kIndexAddr P t x i m K) : ∃ v, K v ∧ kIndexAddr P t x i m (· = v) := by
  unfold kIndexAddr at *
  split at h
  · split at h
    · rename_i e he
      split at h
      · exact ⟨_, h.2.2, h.1, h.2.1, rfl⟩
      · split at h
        · exact ⟨_, h.2.2.2, h.1, h.2.1, h.2.2.1, rfl⟩
        · exact h.elim
      · exact h.elim
    · split at h
      · rename_i ha
        split at h
        · rename_i hs
          obtain ⟨k1, h⟩ := h
          split at h
          · exact ⟨_, h, k1, rfl⟩
          · exact ⟨_, h, k1, rfl⟩
          · exact h.elim
        · exact h.elim
      · exact h.elim
  · exact h.elim
theorem kIndex_det {t : TypeId} {x i : AVal} {K : AVal → Prop} (h : kIndex P t x i K) : ∃ v, K v ∧ kIndex P t x i (· = v) := by
  unfold kIndex at *
  split at h
  · split at h
    · exact ⟨_, h.2.2, h.1, h.2.1, rfl⟩
    · split at h
      · rename_i ha
        split at h
        · obtain ⟨k1, h⟩ := h; obtain ⟨v, h1, h2⟩ := partA_det h; exact ⟨v, h1, k1, h2⟩
        · exact h.elim
      · exact h.elim
    · exact h.elim
  · exact h.elim
theorem kLookup_det {t : TypeId} {x k : AVal} {ok : Bool} {m : List Blk} {K : AVal → Prop} (h : kLookup P t x k ok m K) : ∃ v, K v ∧ kLookup P t x k ok m (· = v) := by
  unfold kLookup at *
  split at h
  · split at h
    · obtain ⟨k1, k2, h⟩ := h
      split at h
      · exact ⟨_, h, k1, k2, rfl⟩
      · split at h
        · obtain ⟨k3, k4, h⟩ := h
          exact ⟨_, h, k1, k2, k3, k4, rfl⟩
        · exact h.elim
      · exact h.elim
    · exact h.elim
  · exact h.elim
theorem kExtract_det {x : AVal} {i : Nat} {K : AVal → Prop} (h : kExtract x i K) : ∃ v, K v ∧ kExtract x i (· = v) := by
  unfold kExtract at *
  split at h
  · split at h
    · exact ⟨_, h, rfl⟩
    · exact h.elim
  · exact h.elim
theorem kPick_det {c a b : AVal} {K : AVal → Prop} (h : kPick c a b K) : ∃ v, K v ∧ kPick c a b (· = v) := by
  unfold kPick at *
  split at h
  · exact ⟨_, h, rfl⟩
  · exact h.elim
theorem kUn_det {op : UnOp} {x : AVal} {K : AVal → Prop} (h : kUn op x K) : ∃ v, K v ∧ kUn op x (· = v) := by
  unfold kUn at *
  split at h
  · exact ⟨_, h, rfl⟩
  · exact ⟨_, h, rfl⟩
  · exact ⟨_, h, rfl⟩
  · exact h.elim
theorem kConv_det {s d : TypeId} {x : AVal} {K : AVal → Prop} (h : kConv P s d x K) : ∃ v, K v ∧ kConv P s d x (· = v) := by
  unfold kConv at *
  split at h
  · exact ⟨_, h.2, h.1, rfl⟩
  · exact h.elim
theorem kNilCheck_det {x : AVal} {K : AVal → Prop} (h : kNilCheck x K) : ∃ v, K v ∧ kNilCheck x (· = v) := by
  unfold kNilCheck at *
  split at h
  · exact ⟨_, h, rfl⟩
  · exact ⟨_, h, rfl⟩
  · exact ⟨_, h, rfl⟩
  · exact h.elim
theorem kBinInt_det {op : BinOp} {k : IntKind} {a b : Int} {K : AVal → Prop} (h : kBinInt op k a b K) : ∃ v, K v ∧ kBinInt op k a b (· = v) := by
  cases op <;> simp only [kBinInt] at h <;> first
    | exact h.elim
    | exact ⟨_, h, rfl⟩
    | exact ⟨_, h.2, h.1, rfl⟩
theorem kBinStr_det {op : BinOp} {a b : ByteArray} {K : AVal → Prop} (h : kBinStr op a b K) : ∃ v, K v ∧ kBinStr op a b (· = v) := by
  cases op <;> simp only [kBinStr] at h <;> first
    | exact h.elim
    | exact ⟨_, h, rfl⟩
    | exact ⟨_, h.2, h.1, rfl⟩
theorem kBin_det {op : BinOp} {t : TypeId} {x y : AVal} {K : AVal → Prop} (h : kBin P op t x y K) : ∃ v, K v ∧ kBin P op t x y (· = v) := by
  unfold kBin at *
  split at h
  · split at h
    · exact ⟨_, h.2, h.1, rfl⟩
    · exact ⟨_, h.2, h.1, rfl⟩
    · obtain ⟨v, k1, k2⟩ := kBinInt_det h.2
      exact ⟨v, k1, h.1, k2⟩
  · exact kBinStr_det h
  · split at h
    · exact ⟨_, h, rfl⟩
    · exact ⟨_, h, rfl⟩
    · exact h.elim
  · split at h
    · rename_i ls hls
      obtain ⟨h1, h2, h⟩ := h
      split at h
      · exact ⟨_, h, h1, h2, rfl⟩
      · exact ⟨_, h, h1, h2, rfl⟩
      · exact h.elim
    · exact h.elim
  · exact h.elim
theorem kBuild_det {t : TypeId} {ps : List (Nat × AVal)} {K : AVal → Prop} (h : kBuild P t ps K) : ∃ v, K v ∧ kBuild P t ps (· = v) := by
  unfold kBuild at *
  split at h
  · split at h
    · exact ⟨_, h, rfl⟩
    · exact h.elim
  · exact h.elim
theorem kLen_det {t : TypeId} {x : AVal} {m : List Blk} {K : AVal → Prop} (h : kLen P t x m K) : ∃ v, K v ∧ kLen P t x m (· = v) := by
  unfold kLen at *
  split at h
  · exact ⟨_, h.2, h.1, rfl⟩
  · exact ⟨_, h.2, h.1, rfl⟩
  · exact ⟨_, h.2, h.1, rfl⟩
  · obtain ⟨k, h⟩ := h
    split at h
    · exact ⟨_, h.2, k, h.1, rfl⟩
    · exact h.elim
  · obtain ⟨k, h⟩ := h
    split at h
    · exact ⟨_, h, k, rfl⟩
    · exact h.elim
  · split at h
    · exact ⟨_, h, rfl⟩
    · exact h.elim
theorem kMin_det {mx : Bool} {xs : List AVal} {K : AVal → Prop} (h : kMin mx xs K) : ∃ v, K v ∧ kMin mx xs (· = v) := by
  unfold kMin at *
  split at h
  · exact ⟨_, h.2, h.1, rfl⟩
  · exact ⟨_, h.2.2, h.1, h.2.1, rfl⟩
  · exact h.elim
theorem kBuiltinQ_det {b : Builtin} {ts : List TypeId} {xs : List AVal} {m : List Blk} {K : AVal → Prop} (h : kBuiltinQ P b ts xs m K) : ∃ v, K v ∧ kBuiltinQ P b ts xs m (· = v) := by
  unfold kBuiltinQ at *
  split at h
  · exact kLen_det h
  · exact kMin_det h
  · exact kMin_det h
  · exact h.elim
theorem kCallQ_det {f : AVal} {xs : List AVal} {K : AVal → Prop} (h : kCallQ P f xs K) : ∃ v, K v ∧ kCallQ P f xs (· = v) := by
  unfold kCallQ at *
  split at h
  · obtain ⟨k, v, h1, h2⟩ := h; exact ⟨v, h2, k, v, h1, rfl⟩
  · exact h.elim

theorem kopQ_det {ρ : Operand → AVal} {m : List Blk} {K : AVal → Prop} {op : Op} (h : kopQ P ρ m K op) : ∃ v, K v ∧ kopQ P ρ m (· = v) op := by
  cases op with
  | move x => exact ⟨_, h, rfl⟩
  | assign x => exact ⟨_, h, rfl⟩
  | pick c a b => exact kPick_det h
  | build t ps => exact kBuild_det h
  | load t a => exact kLoad_det h
  | nilCheck x => exact kNilCheck_det h
  | binOp op t x y u => exact kBin_det h
  | unOp op t x => exact kUn_det h
  | convert s d x => exact kConv_det h
  | makeFunc fn fs cs => exact ⟨_, h, rfl⟩
  | fieldAddr t x f => exact kFieldAddr_det h
  | field t x f => exact kField_det h
  | indexAddr t x i => exact kIndexAddr_det h
  | index t x i => exact kIndex_det h
  | extract x i => exact kExtract_det h
  | lookup t x k ok => exact kLookup_det h
  | call c =>
    obtain ⟨callee, args, ts⟩ := c
    cases callee with
    | invoke r n => exact h.elim
    | value f => exact kCallQ_det h
    | builtin b => exact kBuiltinQ_det h
  | _ => exact h.elim

theorem kopQ_kop {ρ : Operand → AVal} {m : List Blk} {K : AVal → Prop} {op : Op} (h : kopQ P ρ m K op) : kop P ρ m (fun v m' => K v ∧ m' = m) op := by
  have e : (fun v => K v ∧ m = m) = K := by funext v; simp
  cases op with
  | call c =>
    obtain ⟨callee, args, ts⟩ := c
    cases callee with
    | invoke r n => exact h.elim
    | value f =>
      simp only [kopQ] at h
      unfold kCallQ at h
      simp only [kop]
      unfold kCall
      split at h
      · rename_i hf
        obtain ⟨k, v, h1, h2⟩ := h
        try rw [hf]
        exact ⟨k, v, m, h1 m, h2, rfl⟩
      · exact h.elim
    | builtin b =>
      simp only [kopQ] at h
      unfold kBuiltinQ at h
      simp only [kop]
      unfold kBuiltin
      split at h
      · rename_i h1 h2
        rw [h1, h2]
        show kLen P _ _ m fun v => K v ∧ m = m
        rw [e]; exact h
      · show kMin false _ fun v => K v ∧ m = m
        rw [e]; exact h
      · show kMin true _ fun v => K v ∧ m = m
        rw [e]; exact h
      · exact h.elim
  | pick c a b => show kPick _ _ _ (fun v => K v ∧ m = m); rw [e]; exact h
  | build t ps => show kBuild P _ _ (fun v => K v ∧ m = m); rw [e]; exact h
  | load t a => show kLoad P _ _ _ (fun v => K v ∧ m = m); rw [e]; exact h
  | nilCheck x => show kNilCheck _ (fun v => K v ∧ m = m); rw [e]; exact h
  | binOp op t x y u => show kBin P _ _ _ _ (fun v => K v ∧ m = m); rw [e]; exact h
  | unOp op t x => show kUn _ _ (fun v => K v ∧ m = m); rw [e]; exact h
  | convert s d x => show kConv P _ _ _ (fun v => K v ∧ m = m); rw [e]; exact h
  | fieldAddr t x f => show kFieldAddr P _ _ _ _ (fun v => K v ∧ m = m); rw [e]; exact h
  | field t x f => show kField P _ _ _ (fun v => K v ∧ m = m); rw [e]; exact h
  | indexAddr t x i => show kIndexAddr P _ _ _ _ (fun v => K v ∧ m = m); rw [e]; exact h
  | index t x i => show kIndex P _ _ _ (fun v => K v ∧ m = m); rw [e]; exact h
  | extract x i => show kExtract _ _ (fun v => K v ∧ m = m); rw [e]; exact h
  | lookup t x k ok => show kLookup P _ _ _ _ _ (fun v => K v ∧ m = m); rw [e]; exact h
  | move x => exact ⟨h, rfl⟩
  | assign x => exact ⟨h, rfl⟩
  | makeFunc fn fs cs => exact ⟨h, rfl⟩
  | _ => exact h.elim
end
end Go.Awp

/- What an operation's step hangs on: its operands, and the blocks that it looks at; that its value is one. -/
namespace Go.Awp
section
variable {P : Program}

theorem kop_congr {ρ ρ' : Operand → AVal} {m : List Blk} {K : AVal → List Blk → Prop} {op : Op} (h : ∀ x ∈ op.operands.toList, ρ x = ρ' x) : kop P ρ m K op = kop P ρ' m K op := by
  have hm : ∀ l : Array Operand, (∀ x ∈ l.toList, ρ x = ρ' x) → l.toList.map ρ = l.toList.map ρ' := fun l hl => List.map_congr_left hl
  have hp : ∀ ps : Array (Nat × Operand), (∀ x ∈ ps.toList.map (·.2), ρ x = ρ' x) → (ps.toList.map fun p => (p.1, ρ p.2)) = ps.toList.map fun p => (p.1, ρ' p.2) := fun ps hl =>
    List.map_congr_left fun p hp => by rw [hl p.2 (List.mem_map_of_mem hp)]
  have ho : ∀ x : Option Operand, (∀ y ∈ x.toArray.toList, ρ y = ρ' y) → x.map ρ = x.map ρ' := fun x hx => by cases x with
    | none => rfl
    | some x => simp; exact hx x (by simp)
  cases op with
  | build t ps => simp only [kop]; rw [hp ps (by simpa [Op.operands] using h)]
  | buildSlice t n ps => simp only [kop]; rw [hp ps (by simpa [Op.operands] using h)]
  | makeFunc fn fs cs =>
    simp only [kop]
    rw [hm fs (fun x hx => h x (by simp [Op.operands] at hx ⊢; exact .inl hx)), hm cs (fun x hx => h x (by simp [Op.operands] at hx ⊢; exact .inr hx))]
  | slice t x lo hi mx =>
    simp only [kop]
    rw [h x (by simp [Op.operands]), ho lo (fun y hy => h y (by simp [Op.operands] at hy ⊢; simp [hy])), ho hi (fun y hy => h y (by simp [Op.operands] at hy ⊢; simp [hy])), ho mx (fun y hy => h y (by simp [Op.operands] at hy ⊢; simp [hy]))]
  | call c =>
    obtain ⟨callee, args, ts⟩ := c
    cases callee with
    | invoke r n => rfl
    | value f => simp only [kop]; rw [h f (by simp [Op.operands, Call.operands]), hm args (fun x hx => h x (by simp [Op.operands, Call.operands] at hx ⊢; exact .inr hx))]
    | builtin b => simp only [kop]; rw [hm args (fun x hx => h x (by simp [Op.operands, Call.operands] at hx ⊢; exact hx))]
  | move x => simp only [kop]; rw [h x (by simp [Op.operands])]
  | assign x => simp only [kop]; rw [h x (by simp [Op.operands])]
  | pick c a b => simp only [kop]; rw [h c (by simp [Op.operands]), h a (by simp [Op.operands]), h b (by simp [Op.operands])]
  | box e x => simp only [kop]; rw [h x (by simp [Op.operands])]
  | load t a => simp only [kop]; rw [h a (by simp [Op.operands])]
  | store t a x => simp only [kop]; rw [h a (by simp [Op.operands]), h x (by simp [Op.operands])]
  | nilCheck x => simp only [kop]; rw [h x (by simp [Op.operands])]
  | binOp op t x y u => simp only [kop]; rw [h x (by simp [Op.operands]), h y (by simp [Op.operands])]
  | unOp op t x => simp only [kop]; rw [h x (by simp [Op.operands])]
  | convert s d x => simp only [kop]; rw [h x (by simp [Op.operands])]
  | makeSlice t l c => simp only [kop]; rw [h l (by simp [Op.operands]), h c (by simp [Op.operands])]
  | fieldAddr t x f => simp only [kop]; rw [h x (by simp [Op.operands])]
  | field t x f => simp only [kop]; rw [h x (by simp [Op.operands])]
  | indexAddr t x i => simp only [kop]; rw [h x (by simp [Op.operands]), h i (by simp [Op.operands])]
  | index t x i => simp only [kop]; rw [h x (by simp [Op.operands]), h i (by simp [Op.operands])]
  | extract x i => simp only [kop]; rw [h x (by simp [Op.operands])]
  | lookup t x k ok => simp only [kop]; rw [h x (by simp [Op.operands]), h k (by simp [Op.operands])]
  | makeMap t r => cases r with
    | none => rfl
    | some r => rfl
  | mapUpdate t x k v => simp only [kop]; rw [h x (by simp [Op.operands]), h k (by simp [Op.operands]), h v (by simp [Op.operands])]
  | mapEntry t x k => simp only [kop]; rw [h x (by simp [Op.operands]), h k (by simp [Op.operands])]
  | entryStore t x s v => simp only [kop]; rw [h x (by simp [Op.operands]), h s (by simp [Op.operands]), h v (by simp [Op.operands])]
  | _ => rfl

theorem kAppend_det {t : TypeId} {x y : AVal} {m : List Blk} {K : AVal → List Blk → Prop} (h : kAppend P t x y m K) : ∃ v m', K v m' ∧ kAppend P t x y m (fun u μ => u = v ∧ μ = m') := by
  unfold kAppend at *
  split at h
  · split at h
    · split at h
      · split at h
        · exact ⟨_, _, h, rfl, rfl⟩
        · split at h
          · exact ⟨_, _, h.2, h.1, rfl, rfl⟩
          · exact h.elim
        · exact h.elim
      · obtain ⟨k1, k2, h⟩ := h
        split at h
        · exact ⟨_, _, h, k1, k2, rfl, rfl⟩
        · split at h
          · exact ⟨_, _, h.2.2.2, k1, k2, h.1, h.2.1, h.2.2.1, rfl, rfl⟩
          · exact h.elim
        · exact h.elim
      · split at h
        · obtain ⟨k1, k2, k3, h⟩ := h
          split at h
          · exact ⟨_, _, h, k1, k2, k3, rfl, rfl⟩
          · split at h
            · exact ⟨_, _, h.2.2.2, k1, k2, k3, h.1, h.2.1, h.2.2.1, rfl, rfl⟩
            · exact h.elim
          · exact h.elim
        · exact h.elim
      · exact h.elim
    · exact h.elim
  · exact h.elim

theorem bnd_det {len : Nat} {lo hi : Option AVal} {K : Nat → Nat → Prop} (h : bnd len lo hi K) : ∃ l h, K l h ∧ bnd len lo hi (fun l' h' => l' = l ∧ h' = h) := by
  unfold bnd at *
  split at h
  · obtain ⟨k1, h⟩ := h
    split at h
    · exact ⟨_, _, h.2, k1, h.1, rfl, rfl⟩
    · exact ⟨_, _, h, k1, rfl, rfl⟩
    · exact h.elim
  · split at h
    · exact ⟨_, _, h.2, h.1, rfl, rfl⟩
    · exact ⟨_, _, h, rfl, rfl⟩
    · exact h.elim
  · exact h.elim

theorem bnd_mono {len : Nat} {lo hi : Option AVal} {K K' : Nat → Nat → Prop} (h : bnd len lo hi K) (hk : ∀ l h, K l h → K' l h) : bnd len lo hi K' := by
  unfold bnd at *
  split at h
  · obtain ⟨k1, h⟩ := h
    refine ⟨k1, ?_⟩
    split at h
    · exact ⟨h.1, hk _ _ h.2⟩
    · exact hk _ _ h
    · exact h.elim
  · split at h
    · exact ⟨h.1, hk _ _ h.2⟩
    · exact hk _ _ h
    · exact h.elim
  · exact h.elim

theorem kSlice_det {t : TypeId} {x : AVal} {lo hi mx : Option AVal} {m : List Blk} {K : AVal → List Blk → Prop} (h : kSlice P t x lo hi mx m K) : ∃ v m', K v m' ∧ kSlice P t x lo hi mx m (fun u μ => u = v ∧ μ = m') := by
  unfold kSlice at *
  split at h
  · exact h.elim
  · split at h
    · obtain ⟨k1, h⟩ := h
      obtain ⟨l, h', hK, hb⟩ := bnd_det h
      exact ⟨_, _, hK, k1, bnd_mono hb fun _ _ ⟨e1, e2⟩ => by subst e1; subst e2; exact ⟨rfl, rfl⟩⟩
    · split at h
      · obtain ⟨k1, h⟩ := h
        obtain ⟨l, h', hK, hb⟩ := bnd_det h
        exact ⟨_, _, hK, k1, bnd_mono hb fun _ _ ⟨e1, e2⟩ => by subst e1; subst e2; exact ⟨rfl, rfl⟩⟩
      · exact h.elim
    · split at h
      · obtain ⟨k1, h⟩ := h
        obtain ⟨l, h', hK, hb⟩ := bnd_det h
        exact ⟨_, _, hK, k1, bnd_mono hb fun _ _ ⟨e1, e2⟩ => ⟨rfl, rfl⟩⟩
      · exact h.elim
    · split at h
      · obtain ⟨k0, h⟩ := h
        split at h
        · obtain ⟨k1, h⟩ := h
          obtain ⟨l, h', hK, hb⟩ := bnd_det h
          exact ⟨_, _, hK, k0, k1, bnd_mono hb fun _ _ ⟨e1, e2⟩ => by subst e1; subst e2; exact ⟨rfl, rfl⟩⟩
        · exact h.elim
      · exact h.elim
    · exact h.elim

theorem kop_det {ρ : Operand → AVal} {m : List Blk} {K : AVal → List Blk → Prop} {op : Op} (h : kop P ρ m K op) : ∃ v m', K v m' ∧ kop P ρ m (fun u μ => u = v ∧ μ = m') op := by
  have val : ∀ {K : AVal → List Blk → Prop} {X : (AVal → Prop) → Prop}, (∀ K : AVal → Prop, X K → ∃ v, K v ∧ X (· = v)) → X (fun v => K v m) → ∃ v m', K v m' ∧ X (fun u => u = v ∧ m = m') := fun hX hx => by
    obtain ⟨v, h1, h2⟩ := hX _ hx
    exact ⟨v, m, h1, by simpa using h2⟩
  cases op with
  | move x => exact ⟨_, _, h, rfl, rfl⟩
  | assign x => exact ⟨_, _, h, rfl, rfl⟩
  | makeFunc fn fs cs => exact ⟨_, _, h, rfl, rfl⟩
  | pick c a b => exact val (X := kPick _ _ _) (fun K h => kPick_det h) h
  | build t ps => exact val (X := kBuild P _ _) (fun K h => kBuild_det h) h
  | load t a => exact val (X := kLoad P _ _ _) (fun K h => kLoad_det h) h
  | nilCheck x => exact val (X := kNilCheck _) (fun K h => kNilCheck_det h) h
  | binOp op t x y u => exact val (X := kBin P _ _ _ _) (fun K h => kBin_det h) h
  | unOp op t x => exact val (X := kUn _ _) (fun K h => kUn_det h) h
  | convert s d x => exact val (X := kConv P _ _ _) (fun K h => kConv_det h) h
  | fieldAddr t x f => exact val (X := kFieldAddr P _ _ _ _) (fun K h => kFieldAddr_det h) h
  | field t x f => exact val (X := kField P _ _ _) (fun K h => kField_det h) h
  | indexAddr t x i => exact val (X := kIndexAddr P _ _ _ _) (fun K h => kIndexAddr_det h) h
  | index t x i => exact val (X := kIndex P _ _ _) (fun K h => kIndex_det h) h
  | extract x i => exact val (X := kExtract _ _) (fun K h => kExtract_det h) h
  | lookup t x k ok => exact val (X := kLookup P _ _ _ _ _) (fun K h => kLookup_det h) h
  | makeMap t r =>
    cases r with
    | none =>
      simp only [kop] at *
      unfold kMakeMap at *
      split at h
      · split at h
        · exact ⟨_, _, h, rfl, rfl⟩
        · exact h.elim
      · exact h.elim
    | some r => exact h.elim
  | mapUpdate t x k v =>
    simp only [kop] at *
    unfold kMapUpdate at *
    split at h
    · obtain ⟨h1, h2, h⟩ := h
      split at h
      · exact ⟨_, _, h, h1, h2, rfl, rfl⟩
      · exact ⟨_, _, h, h1, h2, rfl, rfl⟩
    · exact h.elim
  | mapEntry t x k =>
    simp only [kop] at *
    unfold kMapEntry at *
    split at h
    · obtain ⟨h1, h2, h⟩ := h
      split at h
      · exact ⟨_, _, h, h1, h2, rfl, rfl⟩
      · split at h
        · exact ⟨_, _, h, h1, h2, rfl, rfl⟩
        · exact h.elim
    · exact h.elim
  | entryStore t x s v =>
    simp only [kop] at *
    unfold kEntryStore at *
    split at h
    · split at h
      · exact ⟨_, _, h, rfl, rfl⟩
      · exact h.elim
    · exact h.elim
  | alloc e =>
    simp only [kop] at *
    unfold kAlloc at *
    split at h
    · exact ⟨_, _, h, rfl, rfl⟩
    · exact h.elim
  | box e x => exact ⟨_, _, h.2, h.1, rfl, rfl⟩
  | buildSlice t n ps =>
    simp only [kop] at *
    unfold kBuildSlice at *
    split at h
    · split at h
      · exact ⟨_, _, h.2.2, h.1, h.2.1, rfl, rfl⟩
      · exact h.elim
    · exact h.elim
  | makeSlice t l c =>
    simp only [kop] at *
    unfold kMake at *
    split at h
    · split at h
      · exact ⟨_, _, h.2, h.1, rfl, rfl⟩
      · exact h.elim
    · exact h.elim
  | slice t x lo hi mx => exact kSlice_det h
  | store t a x =>
    simp only [kop] at *
    unfold kStore at *
    split at h
    · split at h
      · exact ⟨_, _, h.2.2.2, h.1, h.2.1, h.2.2.1, rfl, rfl⟩
      · exact h.elim
    · split at h
      · exact ⟨_, _, h.2.2.2.2.2.2.2, h.1, h.2.1, h.2.2.1, h.2.2.2.1, h.2.2.2.2.1, h.2.2.2.2.2.1, h.2.2.2.2.2.2.1, rfl, rfl⟩
      · exact h.elim
    · exact h.elim
  | call c =>
    obtain ⟨callee, args, ts⟩ := c
    cases callee with
    | invoke r n => exact h.elim
    | value f =>
      simp only [kop] at *
      unfold kCall at *
      split at h
      · obtain ⟨k, v, m', h1, h2⟩ := h; exact ⟨v, m', h2, k, v, m', h1, rfl, rfl⟩
      · exact h.elim
    | builtin b =>
      simp only [kop] at *
      unfold kBuiltin at *
      split at h
      · exact val (X := kLen P _ _ _) (fun K h => kLen_det h) h
      · exact val (X := kMin false _) (fun K h => kMin_det h) h
      · exact val (X := kMin true _) (fun K h => kMin_det h) h
      · obtain ⟨k, h⟩ := h
        obtain ⟨v, m', h1, h2⟩ := kAppend_det h
        exact ⟨v, m', h1, k, h2⟩
      · unfold kDelete at *
        split at h
        · exact ⟨_, _, h.2.2, h.1, h.2.1, rfl, rfl⟩
        · exact h.elim
      · exact h.elim
  | _ => exact h.elim

/-- A reading step, at other operands that are the same, in a memory that is the same where it looks. -/
theorem kopQ_congr {ρ ρ' : Operand → AVal} {m μ : List Blk} {K : AVal → Prop} {op : Op} (h : ∀ x ∈ op.operands.toList, ρ x = ρ' x) (hm : ∀ b ∈ rdIds ρ op, μ[b]? = m[b]?) (hq : kopQ P ρ m K op) : kopQ P ρ' μ K op := by
  have hm' : ∀ l : Array Operand, (∀ x ∈ l.toList, ρ x = ρ' x) → l.toList.map ρ = l.toList.map ρ' := fun l hl => List.map_congr_left hl
  have hp : ∀ ps : Array (Nat × Operand), (∀ x ∈ ps.toList.map (·.2), ρ x = ρ' x) → (ps.toList.map fun p => (p.1, ρ p.2)) = ps.toList.map fun p => (p.1, ρ' p.2) := fun ps hl =>
    List.map_congr_left fun p hp => by rw [hl p.2 (List.mem_map_of_mem hp)]
  cases op with
  | build t ps => simp only [kopQ] at *; rw [← hp ps (by simpa [Op.operands] using h)]; exact hq
  | makeFunc fn fs cs =>
    simp only [kopQ] at *
    rw [← hm' fs (fun x hx => h x (by simp [Op.operands] at hx ⊢; exact .inl hx)), ← hm' cs (fun x hx => h x (by simp [Op.operands] at hx ⊢; exact .inr hx))]; exact hq
  | call c =>
    obtain ⟨callee, args, ts⟩ := c
    cases callee with
    | invoke r n => exact hq
    | value f => simp only [kopQ] at *; rw [← h f (by simp [Op.operands, Call.operands]), ← hm' args (fun x hx => h x (by simp [Op.operands, Call.operands] at hx ⊢; exact .inr hx))]; exact hq
    | builtin b =>
      simp only [kopQ] at *
      rw [← hm' args (fun x hx => h x (by simp [Op.operands, Call.operands] at hx ⊢; exact hx))]
      simp only [rdIds] at hm
      unfold kBuiltinQ at *
      split at hq
      · rename_i t x h1 h2
        have hx : ∀ b ∈ x.blkId, μ[b]? = m[b]? := fun b hb => hm b (by
          obtain ⟨y, hy, rfl⟩ : ∃ y ∈ args.toList, ρ y = x := by
            have : x ∈ args.toList.map ρ := by rw [h2]; simp
            obtain ⟨y, hy, e⟩ := List.mem_map.1 this
            exact ⟨y, hy, e⟩
          exact List.mem_flatMap.2 ⟨y, hy, hb⟩)
        unfold kLen at *
        split at hq
        · exact hq
        · exact hq
        · exact hq
        · rename_i b' len
          simp only [hx b' (by simp [AVal.blkId])]
          exact hq
        · rename_i b'
          simp only [hx b' (by simp [AVal.blkId])]
          exact hq
        · exact hq
      · exact hq
      · exact hq
      · exact hq
  | move x => simp only [kopQ] at *; rw [← h x (by simp [Op.operands])]; exact hq
  | assign x => simp only [kopQ] at *; rw [← h x (by simp [Op.operands])]; exact hq
  | pick c a b => simp only [kopQ] at *; rw [← h c (by simp [Op.operands]), ← h a (by simp [Op.operands]), ← h b (by simp [Op.operands])]; exact hq
  | load t a =>
    simp only [kopQ, rdIds] at *
    rw [← h a (by simp [Op.operands])]
    generalize ρ a = x at *
    unfold kLoad at *
    split at hq
    · rename_i b off; simp only [hm b (by simp [AVal.blkId])]; exact hq
    · exact hq
    · rename_i b len i off; simp only [hm b (by simp [AVal.blkId])]; exact hq
    · exact hq
  | nilCheck x => simp only [kopQ] at *; rw [← h x (by simp [Op.operands])]; exact hq
  | binOp op t x y u => simp only [kopQ] at *; rw [← h x (by simp [Op.operands]), ← h y (by simp [Op.operands])]; exact hq
  | unOp op t x => simp only [kopQ] at *; rw [← h x (by simp [Op.operands])]; exact hq
  | convert s d x => simp only [kopQ] at *; rw [← h x (by simp [Op.operands])]; exact hq
  | fieldAddr t x f =>
    simp only [kopQ, rdIds] at *
    rw [← h x (by simp [Op.operands])]
    generalize ρ x = y at *
    unfold kFieldAddr at *
    split at hq
    · split at hq
      · exact hq
      · exact hq
      · rename_i b len i off; simp only [hm b (by simp)]; exact hq
      · exact hq
    · exact hq
  | field t x f => simp only [kopQ] at *; rw [← h x (by simp [Op.operands])]; exact hq
  | indexAddr t x i =>
    simp only [kopQ, rdIds] at *
    rw [← h x (by simp [Op.operands]), ← h i (by simp [Op.operands])]
    generalize ρ x = y at *
    generalize ρ i = z at *
    unfold kIndexAddr at *
    split at hq
    · split at hq
      · split at hq
        · exact hq
        · rename_i b len; simp only [hm b (by simp)]; exact hq
        · exact hq
      · exact hq
    · exact hq
  | index t x i => simp only [kopQ] at *; rw [← h x (by simp [Op.operands]), ← h i (by simp [Op.operands])]; exact hq
  | extract x i => simp only [kopQ] at *; rw [← h x (by simp [Op.operands])]; exact hq
  | lookup t x k ok =>
    simp only [kopQ, rdIds] at *
    rw [← h x (by simp [Op.operands]), ← h k (by simp [Op.operands])]
    generalize ρ x = y at *
    generalize ρ k = z at *
    unfold kLookup at *
    split at hq
    · split at hq
      · refine ⟨hq.1, hq.2.1, ?_⟩
        obtain ⟨_, _, hq⟩ := hq
        split at hq
        · exact hq
        · rename_i b; simp only [hm b (by simp [AVal.blkId])]; exact hq
        · exact hq.elim
      · exact hq
    · exact hq
  | _ => exact hq
end
end Go.Awp

/- The region that draws its order: the check, the walk in the text's order, and that every order ends alike. -/
namespace Go.Awp
def Operand.tmp? : Operand → Option Nat
  | .tmp t => some t
  | _ => none
def opTmps (op : Op) : List Nat := op.operands.toList.filterMap Operand.tmp?
def opUses (l : List Oper) (o : Oper) : List Nat := opTmps o.op ++ (match o.guard with | some (j, _) => (gdst l j).toList | none => [])
/-- For each operation the mask of those that come ahead of it in every order. -/
def befM (l : List Oper) : List Nat := l.foldl (fun acc o => acc ++ [o.after.toList.foldl (fun n e => if Region.binds .any e then n ||| (1 <<< e.on) ||| acc.getD e.on 0 else n) 0]) []
def pairOk (l : List Oper) (es : List Nat) (i j : Nat) (oi oj : Oper) (mj : Nat) : Bool :=
  (oi.dst.isNone || oi.dst != oj.dst) &&
  (mj.testBit i || ((oi.dst.all fun d => !(opUses l oj).contains d) && (oj.dst.all fun d => !(opUses l oi).contains d) && !(es.contains i && es.contains j)))
def drawOk (l : List Oper) (es : List Nat) : Bool :=
  (l.zipIdx.all fun x => x.1.after.toList.all fun e => !Region.binds .any e || e.on < x.2) &&
  (l.zip (befM l)).zipIdx.all fun y => ((l.zipIdx).take y.2).all fun x => pairOk l es x.2 y.2 x.1 y.1.1 y.1.2
def wantedA (l : List Oper) (o : Oper) (st : St) : Option Bool := match o.guard with
  | none => some true
  | some (g, want) => (match gdst l g with
    | some d => (match lk st.t d with
      | .bool b => some (b == want)
      | .tup [] => some false
      | _ => none)
    | none => none)
def kDrawOps (P : Program) (l : List Oper) (es : List Nat) : Nat → List Oper → St → List (List Blk) → List Nat → (St → List (List Blk) → List Nat → Prop) → Prop
  | _, [], st, sg, rd, K => K st sg rd
  | i, o :: os, st, sg, rd, K =>
    let run := fun (st1 : St) => if es.contains i then kop P st1.ev st1.m (fun v m => kDrawOps P l es (i + 1) os (st1.put o.dst v m) (sg ++ [m]) rd K) o.op
      else kopQ P st1.ev st1.m (fun v => kDrawOps P l es (i + 1) os (st1.put o.dst v st1.m) sg (rd ++ rdIds st1.ev o.op) K) o.op
    let skip := fun (st1 : St) => kDrawOps P l es (i + 1) os (st1.put o.dst (.tup []) st1.m) sg rd K
    match o.guard with
    | none => run st
    | some (g, want) => (match gdst l g with
      | some d => (match lk st.t d with
        | .bool b => (b = want → run (st.put (some d) (.bool want) st.m)) ∧ (b = !want → skip (st.put (some d) (.bool !want) st.m))
        | .tup [] => skip st
        | _ => False)
      | none => False)
/-- A region that draws its order: es: which of its operations may write memory. -/
def kDraw (P : Program) (l : List Oper) (es : List Nat) (st : St) (K : St → Prop) : Prop :=
  kDrawOps P l es 0 l st [] [] fun st' sg rd => (∀ b ∈ rd, ∀ μ ∈ sg, μ[b]? = st.m[b]?) ∧ K st'

section
variable {P : Program}

/-- One step of the text's order, as facts. -/
structure StepT (P : Program) (l : List Oper) (es : List Nat) (rdf : List Nat) (sT : Nat → St) (vs : Nat → AVal) (j : Nat) (o : Oper) : Prop where
  look : ∀ t, lk (sT (j + 1)).t t = if o.dst = some t then vs j else lk (sT j).t t
  act : (wantedA l o (sT j) = some true ∧ ((es.contains j = true ∧ kop P (sT j).ev (sT j).m (fun v m => v = vs j ∧ m = (sT (j + 1)).m) o.op) ∨
        (es.contains j = false ∧ kopQ P (sT j).ev (sT j).m (· = vs j) o.op ∧ (sT (j + 1)).m = (sT j).m ∧ ∀ b ∈ rdIds (sT j).ev o.op, b ∈ rdf))) ∨
      (wantedA l o (sT j) = some false ∧ vs j = .tup [] ∧ (sT (j + 1)).m = (sT j).m)

structure Trace (P : Program) (l : List Oper) (es : List Nat) (i : Nat) (st : St) (sg : List (List Blk)) (rd : List Nat) (stf : St) (sgf : List (List Blk)) (rdf : List Nat) (sT : Nat → St) (vs : Nat → AVal) : Prop where
  first : sT i = st
  last : sT l.length = stf
  step : ∀ j o, i ≤ j → l[j]? = some o → StepT P l es rdf sT vs j o
  mems : ∀ j, i < j → j ≤ l.length → (sT j).m ∈ sgf ∨ (sT j).m = st.m
  sgs : ∀ μ ∈ sg, μ ∈ sgf
  rds : ∀ b ∈ rd, b ∈ rdf

theorem lk_put (st : St) (d : Option Tmp) (v : AVal) (m : List Blk) (t : Nat) : lk (st.put d v m).t t = if d = some t then v else lk st.t t := by
  cases d with
  | none => simp [St.put]
  | some d => simp [St.put, lk]

theorem ev_congr {s s' : St} (h : ∀ t, lk s.t t = lk s'.t t) : s.ev = s'.ev := by
  funext x; cases x <;> simp [St.ev, h]

theorem Trace.cons {l : List Oper} {es : List Nat} {i : Nat} {st : St} {sg sg1 : List (List Blk)} {rd rd1 : List Nat} {stf : St} {sgf : List (List Blk)} {rdf : List Nat} {sT : Nat → St} {vs : Nat → AVal} {o : Oper} {st1 : St} {v : AVal}
    (ho : l[i]? = some o) (hT : Trace P l es (i + 1) st1 sg1 rd1 stf sgf rdf sT vs) (hs : ∀ sT' vs', sT' i = st → sT' (i + 1) = st1 → vs' i = v → StepT P l es rdf sT' vs' i o)
    (hm : st1.m ∈ sg1 ∨ st1.m = st.m) (hsg : ∀ μ ∈ sg, μ ∈ sg1) (hrd : ∀ b ∈ rd, b ∈ rd1) : Trace P l es i st sg rd stf sgf rdf (fun j => if j = i then st else sT j) (fun j => if j = i then v else vs j) where
  first := by simp
  last := by
    have : ¬ l.length = i := by have := (List.getElem?_eq_some_iff.1 ho).1; omega
    simp [this, hT.last]
  step := fun j o' hj ho' => by
    by_cases e : j = i
    · subst e
      obtain rfl := Option.some.inj (ho.symm.trans ho')
      exact hs _ _ (by simp) (by simp [hT.first]) (by simp)
    · have h := hT.step j o' (by omega) ho'
      have e2 : ¬ j + 1 = i := by omega
      exact ⟨by simpa [e, e2] using h.look, by simpa [e, e2] using h.act⟩
  mems := fun j hj hj' => by
    have e : ¬ j = i := by omega
    simp only [e, if_false]
    by_cases h1 : j = i + 1
    · subst h1
      rw [hT.first]
      exact hm.imp (hT.sgs _) id
    · rcases hT.mems j (by omega) hj' with h | h
      · exact .inl h
      · rcases hm with h2 | h2
        · exact .inl (by rw [h]; exact hT.sgs _ h2)
        · exact .inr (h.trans h2)
  sgs := fun μ h => hT.sgs _ (hsg _ h)
  rds := fun b h => hT.rds _ (hrd _ h)

theorem kDrawOps_trace {l : List Oper} {es : List Nat} {K : St → List (List Blk) → List Nat → Prop} : ∀ (os : List Oper) (i : Nat) (st : St) (sg : List (List Blk)) (rd : List Nat), l.drop i = os → i ≤ l.length →
    kDrawOps P l es i os st sg rd K → ∃ stf sgf rdf sT vs, K stf sgf rdf ∧ Trace P l es i st sg rd stf sgf rdf sT vs := by
  intro os
  induction os with
  | nil =>
    intro i st sg rd hd hi h
    have hil : i = l.length := by have := congrArg List.length hd; simp at this; omega
    exact ⟨st, sg, rd, fun _ => st, fun _ => .dead, h, rfl, rfl, fun j o hj ho => by have := (List.getElem?_eq_some_iff.1 ho).1; omega, fun j h1 h2 => by omega, fun _ h => h, fun _ h => h⟩
  | cons o os ih =>
    intro i st sg rd hd hi h
    have hlt : i < l.length := by have := congrArg List.length hd; simp at this; omega
    have ho : l[i]? = some o := by
      have h1 := List.getElem?_drop (xs := l) (i := i) (j := 0)
      rw [hd, Nat.add_zero] at h1; exact h1.symm
    have hd' : l.drop (i + 1) = os := by rw [← List.drop_drop, hd]; rfl
    -- running it
    have run : ∀ (st1 : St), (∀ t, lk st1.t t = lk st.t t) → st1.m = st.m → wantedA l o st = some true →
        (if es.contains i then kop P st1.ev st1.m (fun v m => kDrawOps P l es (i + 1) os (st1.put o.dst v m) (sg ++ [m]) rd K) o.op
          else kopQ P st1.ev st1.m (fun v => kDrawOps P l es (i + 1) os (st1.put o.dst v st1.m) sg (rd ++ rdIds st1.ev o.op) K) o.op) →
        ∃ stf sgf rdf sT vs, K stf sgf rdf ∧ Trace P l es i st sg rd stf sgf rdf sT vs := fun st1 hlk hm hw h => by
      have hev := ev_congr hlk
      rw [hev, hm] at h
      split at h
      · rename_i hes
        obtain ⟨v, m', hK, hop⟩ := kop_det h
        obtain ⟨stf, sgf, rdf, sT, vs, h1, h2⟩ := ih (i + 1) _ _ _ hd' (by omega) hK
        refine ⟨stf, sgf, rdf, _, _, h1, h2.cons ho (v := v) (fun sT' vs' e1 e2 e3 => ⟨fun t => ?_, .inl ⟨by rw [e1]; exact hw, .inl ⟨hes, by rw [e1, e2, e3, St.put_m]; exact hop⟩⟩⟩) (.inl (by rw [St.put_m]; simp)) (fun μ h => by simp [h]) (fun b h => h)⟩
        rw [e1, e2, e3, lk_put, hlk]
      · rename_i hes
        obtain ⟨v, hK, hop⟩ := kopQ_det h
        obtain ⟨stf, sgf, rdf, sT, vs, h1, h2⟩ := ih (i + 1) _ _ _ hd' (by omega) hK
        refine ⟨stf, sgf, rdf, _, _, h1, h2.cons ho (v := v) (fun sT' vs' e1 e2 e3 => ⟨fun t => ?_, .inl ⟨by rw [e1]; exact hw, .inr ⟨by simpa using hes, by rw [e1, e3]; exact hop, by rw [e1, e2, St.put_m], fun b hb => h2.rds b (by rw [e1] at hb; simp [hb])⟩⟩⟩)
          (.inr (by rw [St.put_m])) (fun μ h => h) (fun b h => by simp [h])⟩
        rw [e1, e2, e3, lk_put, hlk]
    have skip : ∀ (st1 : St), (∀ t, lk st1.t t = lk st.t t) → st1.m = st.m → wantedA l o st = some false → kDrawOps P l es (i + 1) os (st1.put o.dst (.tup []) st1.m) sg rd K →
        ∃ stf sgf rdf sT vs, K stf sgf rdf ∧ Trace P l es i st sg rd stf sgf rdf sT vs := fun st1 hlk hm hw h => by
      obtain ⟨stf, sgf, rdf, sT, vs, h1, h2⟩ := ih (i + 1) _ _ _ hd' (by omega) h
      refine ⟨stf, sgf, rdf, _, _, h1, h2.cons ho (v := .tup []) (fun sT' vs' e1 e2 e3 => ⟨fun t => ?_, .inr ⟨by rw [e1]; exact hw, e3, by rw [e1, e2, St.put_m, hm]⟩⟩) (.inr (by rw [St.put_m, hm])) (fun μ h => h) (fun b h => h)⟩
      rw [e1, e2, e3, lk_put, hlk]
    simp only [kDrawOps] at h
    split at h
    · rename_i hg
      exact run st (fun _ => rfl) rfl (by simp [wantedA, hg]) h
    · rename_i g want hg
      split at h
      · rename_i d hdst
        split at h
        · rename_i b hb
          have same : ∀ t, lk (st.put (some d) (.bool b) st.m).t t = lk st.t t := fun t => by
            rw [lk_put]; split
            · rename_i e; injection e with e; subst e; exact hb.symm
            · rfl
          by_cases hw : b = want
          · subst hw
            exact run _ same rfl (by simp [wantedA, hg, hdst, hb]) (h.1 rfl)
          · have hb' : b = !want := by cases b <;> cases want <;> simp_all
            subst hb'
            exact skip _ same rfl (by simp [wantedA, hg, hdst, hb]) (h.2 rfl)
        · rename_i hb
          exact skip st (fun _ => rfl) rfl (by simp [wantedA, hg, hdst, hb]) h
        · exact h.elim
      · exact h.elim
end
end Go.Awp

/- Every order that the edges allow ends as the text's order does. -/
namespace Go.Awp
theorem countP_lt {p q : Nat → Bool} : ∀ (l : List Nat) (i : Nat), i ∈ l → (∀ j, q j = true → p j = true) → p i = true → q i = false → l.countP q < l.countP p
  | [], i, hi, _, _, _ => by cases hi
  | a :: l, i, hi, h, hp, hq => by
    have mono : l.countP q ≤ l.countP p := List.countP_mono_left fun j _ hj => h j hj
    rw [List.countP_cons, List.countP_cons]
    rcases List.mem_cons.1 hi with rfl | hi
    · simp [hp, hq]; omega
    · have := countP_lt l i hi h hp hq
      by_cases hqa : q a = true
      · simp [hqa, h a hqa]; exact this
      · simp [hqa]; split <;> omega

theorem testBit_step (n k m j : Nat) : (n ||| (1 <<< k) ||| m).testBit j = true → n.testBit j = true ∨ k = j ∨ m.testBit j = true := by
  rw [Nat.testBit_or, Nat.testBit_or, Nat.one_shiftLeft, Nat.testBit_two_pow]
  simp only [Bool.or_eq_true, decide_eq_true_eq]
  rintro ((h | h) | h)
  · exact .inl h
  · exact .inr (.inl h)
  · exact .inr (.inr h)

theorem befM_closed (l : List Oper) (c : Nat → Bool) (hc : ∀ i o, l[i]? = some o → c i = true → ∀ e ∈ o.after, Region.binds .any e = true → c e.on = true) (hlt : ∀ i o, l[i]? = some o → ∀ e ∈ o.after, Region.binds .any e = true → e.on < i) :
    (befM l).length = l.length ∧ ∀ i, c i = true → ∀ j, ((befM l).getD i 0).testBit j = true → c j = true := by
  have inner : ∀ (es : List Edge) (acc : List Nat) (n j : Nat), (es.foldl (fun n e => if Region.binds .any e then n ||| (1 <<< e.on) ||| acc.getD e.on 0 else n) n).testBit j = true →
      n.testBit j = true ∨ ∃ e ∈ es, Region.binds .any e = true ∧ (e.on = j ∨ (acc.getD e.on 0).testBit j = true) := by
    intro es
    induction es with
    | nil => intro acc n j h; exact .inl h
    | cons e es ih =>
      intro acc n j h
      rw [List.foldl_cons] at h
      rcases ih acc _ j h with h | ⟨e', he', h⟩
      · split at h
        · rename_i hb
          rcases testBit_step _ _ _ _ h with h | h | h
          · exact .inl h
          · exact .inr ⟨e, by simp, hb, .inl h⟩
          · exact .inr ⟨e, by simp, hb, .inr h⟩
        · exact .inl h
      · exact .inr ⟨e', by simp [he'], h⟩
  have go : ∀ (rest : List Oper) (acc : List Nat), l.drop acc.length = rest → acc.length ≤ l.length → (∀ i, i < acc.length → c i = true → ∀ j, (acc.getD i 0).testBit j = true → c j = true) →
      (rest.foldl (fun acc o => acc ++ [o.after.toList.foldl (fun n e => if Region.binds .any e then n ||| (1 <<< e.on) ||| acc.getD e.on 0 else n) 0]) acc).length = l.length ∧
      ∀ i, c i = true → ∀ j, ((rest.foldl (fun acc o => acc ++ [o.after.toList.foldl (fun n e => if Region.binds .any e then n ||| (1 <<< e.on) ||| acc.getD e.on 0 else n) 0]) acc).getD i 0).testBit j = true → c j = true := by
    intro rest
    induction rest with
    | nil =>
      intro acc hd hle h
      have : acc.length = l.length := by have := congrArg List.length hd; simp at this; omega
      refine ⟨this, fun i hi j hj => ?_⟩
      simp only [List.foldl_nil] at hj
      by_cases hil : i < acc.length
      · exact h i hil hi j hj
      · rw [List.getD_eq_getElem?_getD, List.getElem?_eq_none (by omega)] at hj; simp at hj
    | cons o rest ih =>
      intro acc hd hle h
      have hlt' : acc.length < l.length := by have := congrArg List.length hd; simp at this; omega
      have ho : l[acc.length]? = some o := by
        have h1 := List.getElem?_drop (xs := l) (i := acc.length) (j := 0)
        rw [hd, Nat.add_zero] at h1; exact h1.symm
      rw [List.foldl_cons]
      refine ih _ (by rw [List.length_append, List.length_singleton, ← List.drop_drop, hd]; rfl) (by simp; omega) fun i hi hci j hj => ?_
      simp only [List.length_append, List.length_singleton] at hi
      by_cases hia : i < acc.length
      · rw [List.getD_eq_getElem?_getD, List.getElem?_append_left hia, ← List.getD_eq_getElem?_getD] at hj
        exact h i hia hci j hj
      · have hia' : i = acc.length := by omega
        subst hia'
        rw [List.getD_eq_getElem?_getD, List.getElem?_append_right (Nat.le_refl _)] at hj
        simp only [Nat.sub_self, List.getElem?_cons_zero, Option.getD_some] at hj
        rcases inner _ _ _ _ hj with hj | ⟨e, he, hb, hj⟩
        · simp at hj
        · have he' : e ∈ o.after := by simpa using he
          have hon := hc _ _ ho hci e he' hb
          rcases hj with hj | hj
          · rw [← hj]; exact hon
          · exact h e.on (hlt _ _ ho e he' hb) hon j hj
  exact go l [] (by simp) (by simp) (fun i hi => by simp at hi)

section
variable {P : Program} {ops : Array Oper} {es : List Nat}

theorem drawOk_edges {l : List Oper} (h : drawOk l es = true) (i : Nat) (o : Oper) (ho : l[i]? = some o) (e : Edge) (he : e ∈ o.after) (hb : Region.binds .any e = true) : e.on < i := by
  simp only [drawOk, Bool.and_eq_true] at h
  have h1 := List.all_eq_true.1 h.1 (o, i) (by rw [List.mem_iff_getElem?]; exact ⟨i, by rw [List.getElem?_zipIdx, ho]; simp⟩)
  have h2 := List.all_eq_true.1 h1 e (by simpa using he)
  simpa [hb] using h2

theorem drawOk_pair {l : List Oper} (h : drawOk l es = true) (hl : (befM l).length = l.length) {i j : Nat} {oi oj : Oper} (hi : l[i]? = some oi) (hj : l[j]? = some oj) (hij : i < j) : pairOk l es i j oi oj ((befM l).getD j 0) = true := by
  simp only [drawOk, Bool.and_eq_true] at h
  have hjl := (List.getElem?_eq_some_iff.1 hj).1
  have hm : (befM l)[j]? = some ((befM l).getD j 0) := by rw [List.getD_eq_getElem?_getD, List.getElem?_eq_getElem (by omega)]; rfl
  have h1 := List.all_eq_true.1 h.2 ((oj, (befM l).getD j 0), j) (by
    rw [List.mem_iff_getElem?]
    refine ⟨j, ?_⟩
    rw [List.getElem?_zipIdx, (List.getElem?_zip_eq_some (z := (oj, (befM l).getD j 0))).2 ⟨hj, hm⟩]; simp)
  exact List.all_eq_true.1 h1 (oi, i) (by
    rw [List.mem_iff_getElem?]
    refine ⟨i, ?_⟩
    rw [List.getElem?_take, if_pos hij, List.getElem?_zipIdx, hi]; simp)

theorem rep_bool {S : Nat → Prop} {w : World} {g : Ghost} {b : Bool} {z : Value} (h : Rep S w g (.bool b) z) : z = .bool b := by cases h; rfl

def dstIx (l : List Oper) (t : Nat) : Option Nat := l.findIdx? fun o => o.dst == some t
theorem dstIx_some {l : List Oper} {t j : Nat} (h : dstIx l t = some j) : ∃ o, l[j]? = some o ∧ o.dst = some t := by
  unfold dstIx at h
  rw [List.findIdx?_eq_some_iff_getElem] at h
  obtain ⟨hj, h1, _⟩ := h
  exact ⟨l[j], List.getElem?_eq_getElem hj, by simpa using h1⟩
theorem dstIx_of {l : List Oper} (h : drawOk l es = true) (hl : (befM l).length = l.length) {t i : Nat} {o : Oper} (hi : l[i]? = some o) (hd : o.dst = some t) : dstIx l t = some i := by
  cases hq : dstIx l t with
  | none =>
    unfold dstIx at hq
    rw [List.findIdx?_eq_none_iff] at hq
    have := hq o (List.mem_of_getElem? hi)
    simp [hd] at this
  | some j =>
    obtain ⟨o', ho', hd'⟩ := dstIx_some hq
    rcases Nat.lt_trichotomy i j with hij | hij | hij
    · have := drawOk_pair h hl hi ho' hij
      simp [pairOk, hd, hd'] at this
    · rw [hij]
    · have := drawOk_pair h hl ho' hi hij
      simp [pairOk, hd, hd'] at this

def valD (l : List Oper) (st : St) (vs : Nat → AVal) (c : Nat → Bool) (t : Nat) : AVal := match dstIx l t with
  | some j => if c j then vs j else lk st.t t
  | none => lk st.t t
def evD (l : List Oper) (st : St) (vs : Nat → AVal) (c : Nat → Bool) : Operand → AVal
  | .tmp t => valD l st vs c t
  | .const v => ofVal v
  | .global _ => .dead
  | .func f => .fn (.func f) [] []

theorem look_at {l : List Oper} (h : drawOk l es = true) (hl : (befM l).length = l.length) {st stf : St} {sgf : List (List Blk)} {rdf : List Nat} {sT : Nat → St} {vs : Nat → AVal} (hT : Trace P l es 0 st [] [] stf sgf rdf sT vs) :
    ∀ i, i ≤ l.length → ∀ t, lk (sT i).t t = valD l st vs (fun j => decide (j < i)) t := by
  intro i
  induction i with
  | zero =>
    intro _ t
    rw [hT.first]
    unfold valD
    split
    · simp
    · rfl
  | succ i ih =>
    intro hi t
    have ho : l[i]? = some l[i] := List.getElem?_eq_getElem (by omega)
    rw [(hT.step i _ (Nat.zero_le _) ho).look t]
    split
    · rename_i hd
      unfold valD
      rw [dstIx_of h hl ho hd]
      simp
    · rename_i hd
      rw [ih (by omega)]
      unfold valD
      split
      · rename_i j hj
        obtain ⟨o', ho', hd'⟩ := dstIx_some hj
        have hne : j ≠ i := fun e => by subst e; rw [ho] at ho'; injection ho' with e; rw [e] at hd; exact hd hd'
        by_cases h1 : j < i
        · simp [h1, show j < i + 1 by omega]
        · simp [h1, show ¬ j < i + 1 by omega]
      · rfl

/-- The state in the midst of whatever order. -/
structure Mid (P : Program) (ops : Array Oper) (es : List Nat) (N : Nat) (S0 : Nat → Prop) (w0 : World) (g0 : Ghost) (m0 : List Blk) (st : St) (sT : Nat → St) (vs : Nat → AVal) (listed : Array Bool) (a : Act) (w : World) : Prop where
  size : listed.size = ops.size
  closed : ∀ i o, ops.toList[i]? = some o → listed.getD i false = true → ∀ e ∈ o.after, Region.binds .any e = true → listed.getD e.on false = true
  defers : a.defers = []
  asize : a.tmps.size = N
  ex : ∃ p, p ≤ ops.size ∧ (∀ i, i ∈ es → i < p → listed.getD i false = true) ∧ (∀ i, i ∈ es → p ≤ i → listed.getD i false = false) ∧
    ∃ S g, Inv S w g (sT p).m ∧ (∀ t, Rep S w g (valD ops.toList st vs (fun j => listed.getD j false) t) (a.tmps.getD t undef)) ∧ GLe g0 g ∧ Chg S0 w0 (Open g0 m0) S w g (sT p).m

theorem mem_run {l : List Oper} {st stf : St} {sgf : List (List Blk)} {rdf : List Nat} {sT : Nat → St} {vs : Nat → AVal} (hT : Trace P l es 0 st [] [] stf sgf rdf sT vs) :
    ∀ d i, i + d ≤ l.length → (∀ j, i ≤ j → j < i + d → j ∉ es) → (sT (i + d)).m = (sT i).m := by
  intro d
  induction d with
  | zero => intro i _ _; rfl
  | succ d ih =>
    intro i hi hn
    have hj : i + d < l.length := by omega
    have hstep := hT.step (i + d) _ (Nat.zero_le _) (List.getElem?_eq_getElem hj)
    have hne : es.contains (i + d) = false := by simpa using hn (i + d) (by omega) (by omega)
    have : (sT (i + d + 1)).m = (sT (i + d)).m := by
      rcases hstep.act with ⟨_, ⟨h, _⟩ | ⟨_, _, h, _⟩⟩ | ⟨_, _, h⟩
      · rw [hne] at h; cases h
      · exact h
      · exact h
    rw [← Nat.add_assoc, this]
    exact ih i (by omega) fun j h1 h2 => hn j h1 (by omega)

theorem mid_sound {N : Nat} {S0 : Nat → Prop} {w0 : World} {g0 : Ghost} {m0 : List Blk} {st stf : St} {sgf : List (List Blk)} {rdf : List Nat} {sT : Nat → St} {vs : Nat → AVal} {Q : Exit → Act → World → Prop}
    (hok : drawOk ops.toList es = true) (hT : Trace P ops.toList es 0 st [] [] stf sgf rdf sT vs) (hrd : ∀ b ∈ rdf, ∀ μ ∈ sgf, μ[b]? = st.m[b]?) (hN : ∀ o ∈ ops.toList, ∀ t, o.dst = some t → t < N)
    (hQ : ∀ a w, On S0 w0 g0 m0 N stf a w → Q .normal a w) : ∀ (fuel : Nat) (listed : Array Bool) (a : Act) (w : World), Mid P ops es N S0 w0 g0 m0 st sT vs listed a w →
    (List.range ops.size).countP (fun i => !listed.getD i false) ≤ fuel → wpAny P .any ops Q fuel listed a w := by
  have hedge := drawOk_edges hok
  have hbl : (befM ops.toList).length = ops.toList.length := (befM_closed ops.toList (fun _ => true) (fun _ _ _ _ _ _ _ => rfl) hedge).1
  have hlen : ops.toList.length = ops.size := Array.length_toList
  have mems0 : ∀ k, k ≤ ops.size → ∀ b ∈ rdf, (sT k).m[b]? = st.m[b]? := fun k hk b hb => by
    rcases Nat.eq_zero_or_pos k with h | h
    · subst h; rw [hT.first]
    · rcases hT.mems k h (by omega) with h | h
      · exact hrd b hb _ h
      · rw [h]
  have done : ∀ listed a w, Mid P ops es N S0 w0 g0 m0 st sT vs listed a w → Region.ready .any ops listed = [] → Q .normal a w := fun listed a w hM hr => by
    have hall : ∀ i, i < ops.size → listed.getD i false = true := by
      intro i
      induction i using Nat.strongRecOn with
      | _ i ih =>
        intro hi
        cases hc : listed.getD i false with
        | true => rfl
        | false =>
          exfalso
          have hin : i ∈ Region.ready .any ops listed := mem_ready.2 ⟨getD_in' hM.size hi hc, ops[i], Array.getElem?_eq_getElem hi, fun e he hb => by
            have hlt := hedge i ops[i] (by rw [Array.getElem?_toList]; exact Array.getElem?_eq_getElem hi) e he hb
            exact ih e.on hlt (by omega)⟩
          rw [hr] at hin; cases hin
    obtain ⟨p, hp, hp1, hp2, S, g, hI, hrep, hle, hchg⟩ := hM.ex
    have hpm : (sT p).m = stf.m := by
      have : (sT (p + (ops.size - p))).m = (sT p).m := mem_run hT _ _ (by omega) fun j h1 h2 hj => by
        have h3 := hp2 j hj h1
        rw [hall j (by omega)] at h3; cases h3
      rw [← this, show p + (ops.size - p) = ops.toList.length by omega, hT.last]
    rw [hpm] at hI hchg
    refine hQ a w ⟨S, g, ⟨hI, hM.defers, hM.asize, fun t => ?_⟩, hle, hchg⟩
    have hlk := look_at hok hbl hT ops.toList.length (Nat.le_refl _) t
    rw [hT.last] at hlk
    rw [hlk]
    have hr := hrep t
    unfold valD at hr ⊢
    split
    · rename_i j hj
      obtain ⟨o', ho', _⟩ := dstIx_some hj
      have hjl := (List.getElem?_eq_some_iff.1 ho').1
      simp only [hj] at hr
      rw [if_pos (hall j (by omega))] at hr
      rw [if_pos (by simpa using hjl)]
      exact hr
    · rename_i hj; simp only [hj] at hr; exact hr
  intro fuel
  induction fuel with
  | zero =>
    intro listed a w hM hcount
    have hr : Region.ready .any ops listed = [] := by
      cases hq : Region.ready .any ops listed with
      | nil => rfl
      | cons i r =>
        exfalso
        obtain ⟨h1, o, ho, _⟩ := mem_ready.1 (show i ∈ Region.ready .any ops listed by rw [hq]; simp)
        have hil := (Array.getElem?_eq_some_iff.1 ho).1
        have : 0 < (List.range ops.size).countP (fun i => !listed.getD i false) := List.countP_pos_iff.2 ⟨i, List.mem_range.2 hil, by simpa using getD_both' h1⟩
        omega
    exact ⟨hr, done listed a w hM hr⟩
  | succ fuel ih =>
    intro listed a w hM hcount
    refine ⟨done listed a w hM, fun i hi => ?_⟩
    obtain ⟨hun, o, ho, hall⟩ := mem_ready.1 hi
    have hil := (Array.getElem?_eq_some_iff.1 ho).1
    have hio : ops.toList[i]? = some o := by rw [Array.getElem?_toList]; exact ho
    have hnl : listed.getD i false = false := getD_both' hun
    have hset : ∀ j, (listed.setIfInBounds i true).getD j false = (listed.getD j false || decide (j = i)) := fun j => by
      by_cases e : j = i
      · subst e
        have : j < listed.size := by rw [hM.size]; exact hil
        simp [this]
      · rw [getD_set_ne false (Ne.symm e)]; simp [e]
    -- what lies ahead of i is listed; what lies behind it is not
    have ahead : ∀ j, j < i → ((befM ops.toList).getD i 0).testBit j = true → listed.getD j false = true := fun j hj hb => by
      have := (befM_closed ops.toList (fun j => listed.getD j false || decide (j = i)) (fun k ok hk hck e he hbd => by
        simp only [Bool.or_eq_true, decide_eq_true_eq] at hck ⊢
        rcases hck with hck | hck
        · exact .inl (hM.closed k ok hk hck e he hbd)
        · subst hck
          obtain rfl := Option.some.inj (hio.symm.trans hk)
          exact .inl (hall e he hbd)) hedge).2 i (by simp) j hb
      simp only [Bool.or_eq_true, decide_eq_true_eq] at this
      rcases this with h | h
      · exact h
      · omega
    have behind : ∀ j, ((befM ops.toList).getD j 0).testBit i = true → listed.getD j false = false := fun j hb => by
      cases hc : listed.getD j false with
      | false => rfl
      | true =>
        have := (befM_closed ops.toList (fun j => listed.getD j false) hM.closed hedge).2 j hc i hb
        rw [hnl] at this; cases this
    have huse : ∀ t, t ∈ opUses ops.toList o → valD ops.toList st vs (fun j => listed.getD j false) t = valD ops.toList st vs (fun j => decide (j < i)) t := fun t ht => by
      unfold valD
      split
      · rename_i j hj
        obtain ⟨oj, hoj, hdj⟩ := dstIx_some hj
        rcases Nat.lt_trichotomy j i with hji | hji | hji
        · have hp := drawOk_pair hok hbl hoj hio hji
          have : listed.getD j false = true := by
            refine ahead j hji ?_
            simp only [pairOk, Bool.and_eq_true, Bool.or_eq_true] at hp
            rcases hp.2 with h | ⟨⟨h, _⟩, _⟩
            · exact h
            · simp [hdj, ht] at h
          simp [this, hji]
        · subst hji; simp [hnl]
        · have hp := drawOk_pair hok hbl hio hoj hji
          have : listed.getD j false = false := by
            refine behind j ?_
            simp only [pairOk, Bool.and_eq_true, Bool.or_eq_true] at hp
            rcases hp.2 with h | ⟨⟨_, h⟩, _⟩
            · exact h
            · simp [hdj, ht] at h
          simp [this, show ¬ j < i by omega]
      · rfl
    have hlook : ∀ t, t ∈ opUses ops.toList o → lk (sT i).t t = valD ops.toList st vs (fun j => listed.getD j false) t := fun t ht => by
      rw [look_at hok hbl hT i (by omega), huse t ht]
    have hev : ∀ x ∈ o.op.operands.toList, (sT i).ev x = evD ops.toList st vs (fun j => listed.getD j false) x := fun x hx => by
      cases x with
      | tmp t => exact hlook t (by simp only [opUses, List.mem_append]; exact .inl (by simp only [opTmps, List.mem_filterMap]; exact ⟨_, hx, rfl⟩))
      | _ => rfl
    obtain ⟨p, hp, hp1, hp2, S, g, hI, hrep, hle, hchg⟩ := hM.ex
    have hρ : ∀ x, Rep S w g (evD ops.toList st vs (fun j => listed.getD j false) x) (a.eval x) := fun x => by
      cases x with
      | tmp t => exact hrep t
      | const v => exact ofVal_rep S w g v
      | global b => exact .dead _ _
      | func f => exact .fn _ _ _ _ _ _ rfl (fun j y hj => by simp at hj) rfl (fun j y hj => by simp at hj)
    have hguard : ∀ b, wantedA ops.toList o (sT i) = some b → Region.wanted o (yielded ops a.tmps) = b := fun b hb => by
      unfold wantedA at hb
      split at hb
      · rename_i hg; simp at hb; simp [Region.wanted, hg, hb]
      · rename_i gi want hg
        split at hb
        · rename_i d hd
          have hd' : (ops[gi]?).bind (·.dst) = some d := by simpa [gdst] using hd
          have hdu : d ∈ opUses ops.toList o := by simp [opUses, hg, hd]
          rw [hlook d hdu] at hb
          have hr := hrep d
          generalize valD ops.toList st vs (fun j => listed.getD j false) d = y at hb hr
          generalize hz : a.tmps.getD d undef = z at hr
          split at hb
          · obtain ⟨b', hzb, hb'⟩ : ∃ b', z = .bool b' ∧ (b' == want) = b := ⟨_, rep_bool hr, by simpa using hb⟩
            subst hzb
            have hz' : a.tmps[d]? = some (.bool b') := by
              by_cases hlt : d < a.tmps.size
              · rw [getD_some hlt, hz]
              · simp [Array.getD, hlt, undef] at hz
            have hy : yielded ops a.tmps gi = some b' := by
              unfold yielded
              simp [hd', hz']
            rw [← hb']
            simp only [Region.wanted, hg, hy]
            rfl
          · cases hr with
            | tup g cs arr hl hr =>
            simp at hb; subst hb
            have : yielded ops a.tmps gi = none := by
              unfold yielded
              cases hq : a.tmps[d]? with
              | none => simp [hd', hq]
              | some z' =>
                have : z' = .tuple arr := by simp [Array.getD_eq_getD_getElem?, hq] at hz; exact hz
                subst this
                simp [hd', hq]
            simp [Region.wanted, hg, this]
          · cases hb
        · cases hb
    -- one more is listed
    have next : ∀ (u : Value) (w' : World) (S' : Nat → Prop) (g' : Ghost) (p' : Nat), p' ≤ ops.size → (∀ j, j ∈ es → j < p' → (listed.setIfInBounds i true).getD j false = true) →
        (∀ j, j ∈ es → p' ≤ j → (listed.setIfInBounds i true).getD j false = false) → After S w g (sT p).m S' w' g' (sT p').m (vs i) u →
        wpAny P .any ops Q fuel (listed.setIfInBounds i true) (a.put o.dst u) w' := fun u w' S' g' p' h1 h2 h3 hA => by
      refine ih _ _ _ ⟨by simp [hM.size], fun k ok hk hck e he hbd => ?_, by cases hd : o.dst <;> simp [Act.put, hM.defers], by cases hd : o.dst <;> simp [Act.put, hM.asize],
        p', h1, h2, h3, S', g', hA.inv, fun t => ?_, hle.trans hA.le, hchg.trans hA.chg⟩ ?_
      · rw [hset] at hck ⊢
        simp only [Bool.or_eq_true, decide_eq_true_eq] at hck ⊢
        rcases hck with hck | hck
        · exact .inl (hM.closed k ok hk hck e he hbd)
        · subst hck
          obtain rfl := Option.some.inj (hio.symm.trans hk)
          exact .inl (hall e he hbd)
      · rw [put_tmp]
        by_cases hd : o.dst = some t
        · rw [if_pos ⟨hd, by rw [hM.asize]; exact hN o (List.mem_of_getElem? hio) t hd⟩]
          unfold valD
          rw [dstIx_of hok hbl hio hd]
          simp only [hset]
          simp
          exact hA.rep
        · rw [if_neg (fun h => hd h.1)]
          have : valD ops.toList st vs (fun j => (listed.setIfInBounds i true).getD j false) t = valD ops.toList st vs (fun j => listed.getD j false) t := by
            unfold valD
            split
            · rename_i j hj
              obtain ⟨oj, hoj, hdj⟩ := dstIx_some hj
              have hne : j ≠ i := fun e => by subst e; rw [hio] at hoj; injection hoj with e; rw [e] at hd; exact hd hdj
              simp only [hset]; simp [hne]
            · rfl
          rw [this]
          exact (hrep t).after hI hA.chg hA.le
      · have := countP_lt (p := fun j => !listed.getD j false) (q := fun j => !(listed.setIfInBounds i true).getD j false) (List.range ops.size) i (List.mem_range.2 hil) (fun j hj => by
          simp only [hset, Bool.not_or, Bool.and_eq_true] at hj; exact hj.1) (by simp only [hnl]; rfl) (by simp only [hset]; simp)
        omega
    have pStay : i ∉ es → (∀ j, j ∈ es → j < p → (listed.setIfInBounds i true).getD j false = true) ∧ (∀ j, j ∈ es → p ≤ j → (listed.setIfInBounds i true).getD j false = false) := fun hne =>
      ⟨fun j hj hjp => by rw [hset, hp1 j hj hjp]; rfl, fun j hj hjp => by
        rw [hset, hp2 j hj hjp]
        have : j ≠ i := fun e => hne (e ▸ hj)
        simp [this]⟩
    have pMove : i ∈ es → (sT p).m = (sT i).m ∧ (∀ j, j ∈ es → j < i + 1 → (listed.setIfInBounds i true).getD j false = true) ∧ (∀ j, j ∈ es → i + 1 ≤ j → (listed.setIfInBounds i true).getD j false = false) := fun hin => by
      have hpi : p ≤ i := by
        rcases Nat.lt_or_ge i p with h | h
        · rw [hp1 i hin h] at hnl; cases hnl
        · exact h
      have hnone : ∀ j, p ≤ j → j < i → j ∉ es := fun j h1 h2 hj => by
        obtain ⟨oj, hoj⟩ : ∃ oj, ops.toList[j]? = some oj := ⟨ops.toList[j]'(by omega), List.getElem?_eq_getElem _⟩
        have hq := drawOk_pair hok hbl hoj hio h2
        simp only [pairOk, Bool.and_eq_true, Bool.or_eq_true] at hq
        have : listed.getD j false = true := by
          refine ahead j h2 ?_
          rcases hq.2 with h | ⟨_, h⟩
          · exact h
          · simp [hj, hin] at h
        rw [hp2 j hj h1] at this; cases this
      refine ⟨?_, fun j hj hji => ?_, fun j hj hji => ?_⟩
      · have := mem_run hT (i - p) p (by omega) fun j h1 h2 => hnone j h1 (by omega)
        rw [show p + (i - p) = i by omega] at this
        exact this.symm
      · rw [hset]
        by_cases e : j = i
        · simp [e]
        · have hjp : j < p := by
            rcases Nat.lt_or_ge j p with h | h
            · exact h
            · exact absurd hj (hnone j h (by omega))
          rw [hp1 j hj hjp]; rfl
      · rw [hset, hp2 j hj (by omega)]
        have : j ≠ i := by omega
        simp [this]
    have hstep := hT.step i o (Nat.zero_le _) hio
    unfold wpOp
    rw [ho]
    simp only
    rcases hstep.act with ⟨hw, hrun⟩ | ⟨hw, hv, hm⟩
    · rw [if_pos (hguard true hw)]
      -- the operation itself
      have exec : ∀ (p' : Nat) (K : AVal → List Blk → Prop), kop P (evD ops.toList st vs (fun j => listed.getD j false)) (sT p).m K o.op → (∀ v μ, K v μ → v = vs i ∧ μ = (sT p').m) → p' ≤ ops.size →
          (∀ j, j ∈ es → j < p' → (listed.setIfInBounds i true).getD j false = true) → (∀ j, j ∈ es → p' ≤ j → (listed.setIfInBounds i true).getD j false = false) →
          o.wp P a w (wpAny P .any ops Q fuel (listed.setIfInBounds i true)) Q := fun p' K hk hK h1 h2 h3 => by
        obtain ⟨v, m', hK', hor⟩ := kop_sound (o := o) hI hρ hk
        obtain ⟨rfl, rfl⟩ := hK v m' hK'
        unfold Oper.wp
        rcases hor with ⟨u, w', S', g', hr, hA⟩ | ⟨f, args, hr, hc⟩
        · rcases hr with hr | ⟨hr, rfl⟩
          · rw [hr]; exact next _ _ _ _ _ h1 h2 h3 hA
          · rw [hr]; exact next _ _ _ _ _ h1 h2 h3 hA
        · rw [hr]
          refine hc.mono fun e w' he => ?_
          obtain ⟨u, S', g', rfl, hA⟩ := he
          exact next _ _ _ _ _ h1 h2 h3 hA
      rcases hrun with ⟨hes, hk⟩ | ⟨hes, hk, hm, hr⟩
      · have hin : i ∈ es := by simpa using hes
        obtain ⟨q1, q2, q3⟩ := pMove hin
        rw [kop_congr hev] at hk
        rw [← q1] at hk
        exact .inl (exec (i + 1) _ hk (fun v μ h => h) (by omega) q2 q3)
      · have hin : i ∉ es := by simpa using hes
        obtain ⟨q2, q3⟩ := pStay hin
        have hk' : kopQ P (evD ops.toList st vs (fun j => listed.getD j false)) (sT p).m (· = vs i) o.op :=
          kopQ_congr hev (fun b hb => by rw [mems0 p hp b (hr b hb), mems0 i (by omega) b (hr b hb)]) hk
        exact .inl (exec p _ (kopQ_kop hk') (fun v μ h => h) hp q2 q3)
    · rw [if_neg (by rw [hguard false hw]; simp)]
      by_cases hin : i ∈ es
      · obtain ⟨q1, q2, q3⟩ := pMove hin
        refine next undef w S g (i + 1) (by omega) q2 q3 ?_
        rw [hm, ← q1, hv]
        exact After.same hI (.tup _ _ _ rfl fun j y hj => by simp at hj)
      · obtain ⟨q2, q3⟩ := pStay hin
        refine next undef w S g p hp q2 q3 ?_
        rw [hv]
        exact After.same hI (.tup _ _ _ rfl fun j y hj => by simp at hj)
where
  getD_in' {listed : Array Bool} {n i : Nat} (hs : listed.size = n) (hi : i < n) (h : listed.getD i false = false) : listed.getD i true = false := by
    have : i < listed.size := by omega
    simp [this] at h ⊢; exact h
  getD_both' {listed : Array Bool} {i : Nat} (h : listed.getD i true = false) : listed.getD i false = false := by
    rcases Nat.lt_or_ge i listed.size with h' | h'
    · simp [h'] at h ⊢; exact h
    · simp [Array.getElem?_eq_none h'] at h
end
end Go.Awp

/- Regions that draw their order, in which new blocks come in an order that is left open: each has its place. -/
namespace Go.Awp
/- Marks: below 1000: an operation that may write memory, these in one order; from 1000 on: one that makes a block at a place kept for it; from 1000000 on: (k + 1) * 1000000 + i: the maker i is not ahead of the writer k. -/
def alOf (es : List Nat) : List Nat := (es.filter fun x => decide (1000 ≤ x) && decide (x < 1000000)).map (· - 1000)
def efOf (es : List Nat) : List Nat := es.filter fun x => decide (x < 1000)
def wOf (es : List Nat) (k : Nat) : List Nat := (es.filter fun x => x / 1000000 == k + 1).map (· % 1000000)
def hasAl (es : List Nat) : Bool := es.any fun x => decide (1000 ≤ x)
def idA (n0 : Nat) (es : List Nat) (i : Nat) : Nat := n0 + (alOf es).idxOf i
def wIds (n0 : Nat) (es : List Nat) (k : Nat) : List Nat := (wOf es k).map (idA n0 es)
def ovr (W : List Nat) (X : Nat → Blk) (m : List Blk) : List Blk := W.foldl (fun m b => m.set b (X b)) m
def kAl (P : Program) (ρ : Operand → AVal) (b : Nat) (K : AVal → Blk → Prop) : Op → Prop
  | .alloc e => kAllocAt P e b K
  | .buildSlice t n ps => kBuildSliceAt P t n (ps.toList.map fun p => (p.1, ρ p.2)) b K
  | _ => False
def kDrawA (P : Program) (es : List Nat) (n0 : Nat) : Nat → List Oper → St → List (List Blk) → List Nat → (St → List (List Blk) → List Nat → Prop) → Prop
  | _, [], st, sg, rd, K => K st sg rd
  | i, o :: os, st, sg, rd, K => o.guard = none ∧ (
    if (alOf es).contains i then kAl P st.ev (idA n0 es i) (fun v k => kDrawA P es n0 (i + 1) os (st.put o.dst v (st.m.set (idA n0 es i) k)) (sg ++ [st.m.set (idA n0 es i) k]) rd K) o.op
    else if (efOf es).contains i then (match wIds n0 es i with
      | [] => kop P st.ev st.m (fun v m => st.m.length ≤ m.length ∧ kDrawA P es n0 (i + 1) os (st.put o.dst v m) (sg ++ [m]) rd K) o.op
      | W => ∃ v m', (∀ X, kop P st.ev (ovr W X st.m) (fun u μ => u = v ∧ μ = ovr W X m') o.op) ∧ (∀ b ∈ W, m'[b]? = st.m[b]?) ∧ st.m.length ≤ m'.length ∧ kDrawA P es n0 (i + 1) os (st.put o.dst v m') (sg ++ [m']) rd K)
    else kopQ P st.ev st.m (fun v => kDrawA P es n0 (i + 1) os (st.put o.dst v st.m) sg (rd ++ rdIds st.ev o.op) K) o.op)
/-- The region, walked: blocks' places are kept at the begin. -/
def kDrawB (P : Program) (l : List Oper) (es : List Nat) (st : St) (K : St → Prop) : Prop :=
  kDrawA P es st.m.length 0 l ⟨st.t, st.m ++ List.replicate (alOf es).length .gone⟩ [] [] fun st' sg rd =>
    (∀ b ∈ rd, (∀ μ ∈ sg, μ[b]? = (st.m ++ List.replicate (alOf es).length Blk.gone)[b]?) ∧ ¬ (st.m.length ≤ b ∧ b < st.m.length + (alOf es).length)) ∧ K st'
def drawOkA (l : List Oper) (es : List Nat) : Bool :=
  drawOk l (efOf es) && (efOf es).all (fun k => !(alOf es).contains k && (alOf es).all fun i => ((befM l).getD k 0).testBit i || (wOf es k).contains i) &&
  decide (alOf es).Nodup && (alOf es).all (fun i => decide (i < l.length)) && (List.range l.length).all fun k => (wOf es k).all fun i => (alOf es).contains i

section
variable {P : Program}

theorem kAl_det {ρ : Operand → AVal} {b : Nat} {K : AVal → Blk → Prop} {op : Op} (h : kAl P ρ b K op) : ∃ v k, K v k ∧ kAl P ρ b (fun u κ => u = v ∧ κ = k) op := by
  cases op with
  | alloc e =>
    simp only [kAl] at *
    unfold kAllocAt at *
    split at h
    · exact ⟨_, _, h, rfl, rfl⟩
    · exact h.elim
  | buildSlice t n ps =>
    simp only [kAl] at *
    unfold kBuildSliceAt at *
    split at h
    · split at h
      · exact ⟨_, _, h.2.2, h.1, h.2.1, rfl, rfl⟩
      · exact h.elim
    · exact h.elim
  | _ => exact h.elim
theorem kAl_congr {ρ ρ' : Operand → AVal} {b : Nat} {K : AVal → Blk → Prop} {op : Op} (h : ∀ x ∈ op.operands.toList, ρ x = ρ' x) : kAl P ρ b K op = kAl P ρ' b K op := by
  cases op with
  | buildSlice t n ps =>
    have hp : ∀ ps : Array (Nat × Operand), (∀ x ∈ ps.toList.map (·.2), ρ x = ρ' x) → (ps.toList.map fun p => (p.1, ρ p.2)) = ps.toList.map fun p => (p.1, ρ' p.2) := fun ps hl =>
      List.map_congr_left fun p hp => by rw [hl p.2 (List.mem_map_of_mem hp)]
    simp only [kAl]; rw [hp ps (by simpa [Op.operands] using h)]
  | _ => rfl
theorem kAl_sound {S : Nat → Prop} {w : World} {g : Ghost} {m : List Blk} (hI : Inv S w g m) {ρ : Operand → AVal} {a : Act} (hρ : ∀ x, Rep S w g (ρ x) (a.eval x)) {b : Nat} (hb : m[b]? = some .gone) {K : AVal → Blk → Prop} {o : Oper} (h : kAl P ρ b K o.op) :
    ∃ v k, K v k ∧ ∃ u w' g', (execOp a.eval o).run P w = .ok (.value u) w' ∧ After S w g m S w' g' (m.set b k) v u := by
  cases hop : o.op with
  | alloc e =>
    rw [hop] at h
    obtain ⟨v, k, u, w', g', h1, h2, h3⟩ := kAllocAt_sound hI hb h
    exact ⟨v, k, h1, u, w', g', by simp [execOp, hop, h2], h3⟩
  | buildSlice t n ps =>
    rw [hop] at h
    obtain ⟨v, k, u, w', g', h1, h2, h3⟩ := kBuildSliceAt_sound hI hb h (by simp) (pair_rep hρ ps)
    exact ⟨v, k, h1, u, w', g', by simp [execOp, hop, h2], h3⟩
  | _ => rw [hop] at h; exact h.elim

theorem ovr_len (W : List Nat) (X : Nat → Blk) : ∀ m : List Blk, (ovr W X m).length = m.length := by
  induction W with
  | nil => intro m; rfl
  | cons b W ih => intro m; show (ovr W X (m.set b (X b))).length = _; rw [ih]; simp
theorem ovr_get (W : List Nat) (X : Nat → Blk) : ∀ (m : List Blk) (b : Nat), (ovr W X m)[b]? = if b ∈ W ∧ b < m.length then some (X b) else m[b]? := by
  induction W with
  | nil => intro m b; simp [ovr]
  | cons c W ih =>
    intro m b
    show (ovr W X (m.set c (X c)))[b]? = _
    rw [ih]
    simp only [List.length_set, List.mem_cons]
    by_cases h1 : b ∈ W ∧ b < m.length
    · rw [if_pos h1, if_pos ⟨.inr h1.1, h1.2⟩]
    · rw [if_neg h1]
      by_cases h2 : b = c
      · subst h2
        by_cases h3 : b < m.length
        · rw [if_pos ⟨.inl rfl, h3⟩]; simp [h3]
        · rw [if_neg (fun h => h3 h.2)]; simp [h3]
      · rw [if_neg (fun h => by rcases h.1 with h4 | h4; exact h2 h4; exact h1 ⟨h4, h.2⟩), List.getElem?_set_ne (Ne.symm h2)]

/-- One step of the text's order, as facts. -/
structure StepA (P : Program) (es : List Nat) (n0 : Nat) (rdf : List Nat) (sT : Nat → St) (vs : Nat → AVal) (bk : Nat → Blk) (j : Nat) (o : Oper) : Prop where
  gd : o.guard = none
  look : ∀ t, lk (sT (j + 1)).t t = if o.dst = some t then vs j else lk (sT j).t t
  len : (sT j).m.length ≤ (sT (j + 1)).m.length
  act : (j ∈ alOf es ∧ kAl P (sT j).ev (idA n0 es j) (fun v k => v = vs j ∧ k = bk j) o.op ∧ (sT (j + 1)).m = (sT j).m.set (idA n0 es j) (bk j)) ∨
      (j ∉ alOf es ∧ j ∈ efOf es ∧ (∀ X, kop P (sT j).ev (ovr (wIds n0 es j) X (sT j).m) (fun v μ => v = vs j ∧ μ = ovr (wIds n0 es j) X (sT (j + 1)).m) o.op) ∧ ∀ b ∈ wIds n0 es j, (sT (j + 1)).m[b]? = (sT j).m[b]?) ∨
      (j ∉ alOf es ∧ j ∉ efOf es ∧ kopQ P (sT j).ev (sT j).m (· = vs j) o.op ∧ (sT (j + 1)).m = (sT j).m ∧ ∀ b ∈ rdIds (sT j).ev o.op, b ∈ rdf)
structure TraceA (P : Program) (l : List Oper) (es : List Nat) (n0 : Nat) (i : Nat) (st : St) (sg : List (List Blk)) (rd : List Nat) (stf : St) (sgf : List (List Blk)) (rdf : List Nat) (sT : Nat → St) (vs : Nat → AVal) (bk : Nat → Blk) : Prop where
  first : sT i = st
  last : sT l.length = stf
  step : ∀ j o, i ≤ j → l[j]? = some o → StepA P es n0 rdf sT vs bk j o
  mems : ∀ j, i < j → j ≤ l.length → (sT j).m ∈ sgf ∨ (sT j).m = st.m
  sgs : ∀ μ ∈ sg, μ ∈ sgf
  rds : ∀ b ∈ rd, b ∈ rdf

theorem TraceA.cons {l : List Oper} {es : List Nat} {n0 i : Nat} {st : St} {sg sg1 : List (List Blk)} {rd rd1 : List Nat} {stf : St} {sgf : List (List Blk)} {rdf : List Nat} {sT : Nat → St} {vs : Nat → AVal} {bk : Nat → Blk} {o : Oper} {st1 : St} {v : AVal} {k : Blk}
    (ho : l[i]? = some o) (hT : TraceA P l es n0 (i + 1) st1 sg1 rd1 stf sgf rdf sT vs bk) (hs : ∀ sT' vs' bk', sT' i = st → sT' (i + 1) = st1 → vs' i = v → bk' i = k → StepA P es n0 rdf sT' vs' bk' i o)
    (hm : st1.m ∈ sg1 ∨ st1.m = st.m) (hsg : ∀ μ ∈ sg, μ ∈ sg1) (hrd : ∀ b ∈ rd, b ∈ rd1) :
    TraceA P l es n0 i st sg rd stf sgf rdf (fun j => if j = i then st else sT j) (fun j => if j = i then v else vs j) (fun j => if j = i then k else bk j) where
  first := by simp
  last := by
    have : ¬ l.length = i := by have := (List.getElem?_eq_some_iff.1 ho).1; omega
    simp [this, hT.last]
  step := fun j o' hj ho' => by
    by_cases e : j = i
    · subst e
      obtain rfl := Option.some.inj (ho.symm.trans ho')
      exact hs _ _ _ (by simp) (by simp [hT.first]) (by simp) (by simp)
    · have h := hT.step j o' (by omega) ho'
      have e2 : ¬ j + 1 = i := by omega
      exact ⟨h.gd, by simpa [e, e2] using h.look, by simpa [e, e2] using h.len, by simpa [e, e2] using h.act⟩
  mems := fun j hj hj' => by
    have e : ¬ j = i := by omega
    simp only [e, if_false]
    by_cases h1 : j = i + 1
    · subst h1
      rw [hT.first]
      exact hm.imp (hT.sgs _) id
    · rcases hT.mems j (by omega) hj' with h | h
      · exact .inl h
      · rcases hm with h2 | h2
        · exact .inl (by rw [h]; exact hT.sgs _ h2)
        · exact .inr (h.trans h2)
  sgs := fun μ h => hT.sgs _ (hsg _ h)
  rds := fun b h => hT.rds _ (hrd _ h)

theorem kDrawA_trace {l : List Oper} {es : List Nat} {n0 : Nat} {K : St → List (List Blk) → List Nat → Prop} : ∀ (os : List Oper) (i : Nat) (st : St) (sg : List (List Blk)) (rd : List Nat), l.drop i = os → i ≤ l.length →
    kDrawA P es n0 i os st sg rd K → ∃ stf sgf rdf sT vs bk, K stf sgf rdf ∧ TraceA P l es n0 i st sg rd stf sgf rdf sT vs bk := by
  intro os
  induction os with
  | nil =>
    intro i st sg rd hd hi h
    have hil : i = l.length := by have := congrArg List.length hd; simp at this; omega
    exact ⟨st, sg, rd, fun _ => st, fun _ => .dead, fun _ => .gone, h, rfl, rfl, fun j o hj ho => by have := (List.getElem?_eq_some_iff.1 ho).1; omega, fun j h1 h2 => by omega, fun _ h => h, fun _ h => h⟩
  | cons o os ih =>
    intro i st sg rd hd hi h
    have hlt : i < l.length := by have := congrArg List.length hd; simp at this; omega
    have ho : l[i]? = some o := by
      have h1 := List.getElem?_drop (xs := l) (i := i) (j := 0)
      rw [hd, Nat.add_zero] at h1; exact h1.symm
    have hd' : l.drop (i + 1) = os := by rw [← List.drop_drop, hd]; rfl
    rw [kDrawA] at h
    obtain ⟨hg, h⟩ := h
    split at h
    · rename_i hal
      obtain ⟨v, k, hK, hop⟩ := kAl_det h
      obtain ⟨stf, sgf, rdf, sT, vs, bk, h1, h2⟩ := ih (i + 1) _ _ _ hd' (by omega) hK
      refine ⟨stf, sgf, rdf, _, _, _, h1, h2.cons ho (v := v) (k := k) (fun sT' vs' bk' e1 e2 e3 e4 => ⟨hg, fun t => ?_, ?_, .inl ⟨by simpa using hal, by rw [e1, e3, e4]; exact hop, by rw [e1, e2, e4, St.put_m]⟩⟩) (.inl (by rw [St.put_m]; simp)) (fun μ h => by simp [h]) (fun b h => h)⟩
      · rw [e1, e2, e3, lk_put]
      · rw [e1, e2, St.put_m]; simp
    · rename_i hal
      split at h
      · rename_i hef
        obtain ⟨v, m', hop, hW, hlen, hK⟩ : ∃ v m', (∀ X, kop P st.ev (ovr (wIds n0 es i) X st.m) (fun u μ => u = v ∧ μ = ovr (wIds n0 es i) X m') o.op) ∧ (∀ b ∈ wIds n0 es i, m'[b]? = st.m[b]?) ∧ st.m.length ≤ m'.length ∧
            kDrawA P es n0 (i + 1) os (st.put o.dst v m') (sg ++ [m']) rd K := by
          split at h
          · rename_i hw
            obtain ⟨v, m', ⟨hl, hK⟩, hop⟩ := kop_det h
            exact ⟨v, m', fun X => by rw [hw]; exact hop, fun b hb => by simp [hw] at hb, hl, hK⟩
          · obtain ⟨v, m', h1, h2, h3, h4⟩ := h
            exact ⟨v, m', h1, h2, h3, h4⟩
        obtain ⟨stf, sgf, rdf, sT, vs, bk, h1, h2⟩ := ih (i + 1) _ _ _ hd' (by omega) hK
        refine ⟨stf, sgf, rdf, _, _, _, h1, h2.cons ho (v := v) (k := .gone) (fun sT' vs' bk' e1 e2 e3 e4 => ⟨hg, fun t => ?_, ?_, .inr (.inl ⟨by simpa using hal, by simpa using hef, fun X => by rw [e1, e2, e3, St.put_m]; exact hop X, fun b hb => by rw [e1, e2, St.put_m]; exact hW b hb⟩)⟩) (.inl (by rw [St.put_m]; simp)) (fun μ h => by simp [h]) (fun b h => h)⟩
        · rw [e1, e2, e3, lk_put]
        · rw [e1, e2, St.put_m]; exact hlen
      · rename_i hef
        obtain ⟨v, hK, hop⟩ := kopQ_det h
        obtain ⟨stf, sgf, rdf, sT, vs, bk, h1, h2⟩ := ih (i + 1) _ _ _ hd' (by omega) hK
        refine ⟨stf, sgf, rdf, _, _, _, h1, h2.cons ho (v := v) (k := .gone) (fun sT' vs' bk' e1 e2 e3 e4 => ⟨hg, fun t => ?_, ?_, .inr (.inr ⟨by simpa using hal, by simpa using hef, by rw [e1, e3]; exact hop, by rw [e1, e2, St.put_m], fun b hb => h2.rds b (by rw [e1] at hb; simp [hb])⟩)⟩)
          (.inr (by rw [St.put_m])) (fun μ h => h) (fun b h => by simp [h])⟩
        · rw [e1, e2, e3, lk_put]
        · rw [e1, e2, St.put_m]; exact Nat.le_refl _

theorem look_atA {l : List Oper} {es : List Nat} (h : drawOk l es = true) (hl : (befM l).length = l.length) {st : St} {sT : Nat → St} {vs : Nat → AVal} (h0 : ∀ t, lk (sT 0).t t = lk st.t t)
    (hs : ∀ j o, l[j]? = some o → ∀ t, lk (sT (j + 1)).t t = if o.dst = some t then vs j else lk (sT j).t t) : ∀ i, i ≤ l.length → ∀ t, lk (sT i).t t = valD l st vs (fun j => decide (j < i)) t := by
  intro i
  induction i with
  | zero =>
    intro _ t
    rw [h0]
    unfold valD
    split
    · simp
    · rfl
  | succ i ih =>
    intro hi t
    have ho : l[i]? = some l[i] := List.getElem?_eq_getElem (by omega)
    rw [hs i _ ho t]
    split
    · rename_i hd
      unfold valD
      rw [dstIx_of h hl ho hd]
      simp
    · rename_i hd
      rw [ih (by omega)]
      unfold valD
      split
      · rename_i j hj
        obtain ⟨o', ho', hd'⟩ := dstIx_some hj
        have hne : j ≠ i := fun e => by subst e; rw [ho] at ho'; injection ho' with e; rw [e] at hd; exact hd hd'
        by_cases h1 : j < i
        · simp [h1, show j < i + 1 by omega]
        · simp [h1, show ¬ j < i + 1 by omega]
      · rfl
end
end Go.Awp

/- Every order ends as the text's order does, each new block at its place. -/
namespace Go.Awp
def alIds (n0 : Nat) (es : List Nat) : List Nat := (alOf es).map (idA n0 es)
/-- What stands at a kept place, where the writers ahead of p and the listed makers have run. -/
def cont (es : List Nat) (n0 p : Nat) (sT : Nat → St) (bk : Nat → Blk) (c : Nat → Bool) (b : Nat) : Blk := match (alOf es)[b - n0]? with
  | some i => if c i then (if i < p then ((sT p).m[b]?).getD .gone else bk i) else .gone
  | none => .gone
def Mk (es : List Nat) (n0 p : Nat) (sT : Nat → St) (bk : Nat → Blk) (c : Nat → Bool) : List Blk := ovr (alIds n0 es) (cont es n0 p sT bk c) (sT p).m
section
variable {P : Program} {es : List Nat} {n0 : Nat}
theorem al_get {i : Nat} (hi : i ∈ alOf es) : (alOf es)[(alOf es).idxOf i]? = some i ∧ (alOf es).idxOf i < (alOf es).length := by
  have hl : (alOf es).idxOf i < (alOf es).length := List.idxOf_lt_length_iff.2 hi
  exact ⟨by rw [List.getElem?_eq_getElem hl, List.getElem_idxOf], hl⟩
theorem idA_inj {i j : Nat} (hi : i ∈ alOf es) (hj : j ∈ alOf es) (h : idA n0 es i = idA n0 es j) : i = j := by
  have h1 := (al_get hi).1
  have h2 := (al_get hj).1
  have : (alOf es).idxOf i = (alOf es).idxOf j := by unfold idA at h; omega
  rw [this, h2] at h1
  exact (Option.some.inj h1).symm
theorem idA_bd {i : Nat} (hi : i ∈ alOf es) : n0 ≤ idA n0 es i ∧ idA n0 es i < n0 + (alOf es).length := by
  have := (al_get hi).2
  unfold idA; omega
theorem mem_alIds {b : Nat} : b ∈ alIds n0 es ↔ ∃ i, i ∈ alOf es ∧ b = idA n0 es i := by
  unfold alIds; rw [List.mem_map]
  exact ⟨fun ⟨i, h1, h2⟩ => ⟨i, h1, h2.symm⟩, fun ⟨i, h1, h2⟩ => ⟨i, h1, h2.symm⟩⟩
theorem cont_id {p : Nat} {sT : Nat → St} {bk : Nat → Blk} {c : Nat → Bool} {i : Nat} (hi : i ∈ alOf es) :
    cont es n0 p sT bk c (idA n0 es i) = if c i then (if i < p then ((sT p).m[idA n0 es i]?).getD .gone else bk i) else .gone := by
  unfold cont
  have : idA n0 es i - n0 = (alOf es).idxOf i := by unfold idA; omega
  rw [this, (al_get hi).1]

section
variable {l : List Oper} {st1 stf : St} {sgf : List (List Blk)} {rdf : List Nat} {sT : Nat → St} {vs : Nat → AVal} {bk : Nat → Blk}
theorem len_at (hT : TraceA P l es n0 0 st1 [] [] stf sgf rdf sT vs bk) (h0 : n0 + (alOf es).length ≤ st1.m.length) : ∀ j, j ≤ l.length → n0 + (alOf es).length ≤ (sT j).m.length := by
  intro j
  induction j with
  | zero => intro _; rw [hT.first]; exact h0
  | succ j ih =>
    intro hj
    have := (hT.step j _ (Nat.zero_le _) (List.getElem?_eq_getElem (by omega))).len
    have := ih (by omega)
    omega
theorem same_run (hT : TraceA P l es n0 0 st1 [] [] stf sgf rdf sT vs bk) {p b : Nat} : ∀ q, p ≤ q → q ≤ l.length → (∀ k, k ∈ efOf es → p ≤ k → k < q → False) → (∀ i, i ∈ alOf es → p ≤ i → i < q → b ≠ idA n0 es i) → (sT q).m[b]? = (sT p).m[b]? := by
  intro q hpq
  induction hpq with
  | refl => intro _ _ _; rfl
  | @step q hpq ih =>
    intro hq hef hal
    have hpq : p ≤ q := hpq
    rw [← ih (by omega) (fun k h1 h2 h3 => hef k h1 h2 (by omega)) (fun i h1 h2 h3 => hal i h1 h2 (by omega))]
    rcases (hT.step q _ (Nat.zero_le _) (List.getElem?_eq_getElem (by omega))).act with ⟨h1, _, h2⟩ | ⟨_, h1, _⟩ | ⟨_, _, _, h1, _⟩
    · rw [h2, List.getElem?_set_ne (Ne.symm (hal q h1 hpq (by omega)))]
    · exact (hef q h1 hpq (by omega)).elim
    · rw [h1]
theorem blk_run (hT : TraceA P l es n0 0 st1 [] [] stf sgf rdf sT vs bk) (h0 : n0 + (alOf es).length ≤ st1.m.length) {i : Nat} (hi : i ∈ alOf es) : ∀ q, i + 1 ≤ q → q ≤ l.length → (∀ k, k ∈ efOf es → i < k → k < q → idA n0 es i ∈ wIds n0 es k) →
    (sT q).m[idA n0 es i]? = some (bk i) := by
  intro q hq
  induction hq with
  | refl =>
    intro hq _
    have hl := len_at hT h0 i (by omega)
    have hb := (idA_bd (n0 := n0) hi).2
    rcases (hT.step i _ (Nat.zero_le _) (List.getElem?_eq_getElem (by omega))).act with ⟨_, _, h2⟩ | ⟨h1, _⟩ | ⟨h1, _⟩
    · rw [h2, List.getElem?_set_self (by omega)]
    · exact absurd hi h1
    · exact absurd hi h1
  | @step q hiq ih =>
    intro hq hef
    have hiq : i + 1 ≤ q := hiq
    have := ih (by omega) (fun k h1 h2 h3 => hef k h1 h2 (by omega))
    rw [← this]
    rcases (hT.step q _ (Nat.zero_le _) (List.getElem?_eq_getElem (by omega))).act with ⟨h1, _, h2⟩ | ⟨_, h1, _, h2⟩ | ⟨_, _, _, h1, _⟩
    · rw [h2, List.getElem?_set_ne fun e => by have := idA_inj h1 hi e; omega]
    · exact h2 _ (hef q h1 (by omega) (by omega))
    · rw [h1]
theorem Mk_get (hT : TraceA P l es n0 0 st1 [] [] stf sgf rdf sT vs bk) (h0 : n0 + (alOf es).length ≤ st1.m.length) {p : Nat} (hp : p ≤ l.length) (c : Nat → Bool) (b : Nat) :
    (∀ i, i ∈ alOf es → b = idA n0 es i → (Mk es n0 p sT bk c)[b]? = some (cont es n0 p sT bk c b)) ∧ ((∀ i, i ∈ alOf es → b ≠ idA n0 es i) → (Mk es n0 p sT bk c)[b]? = (sT p).m[b]?) := by
  have hl := len_at hT h0 p hp
  refine ⟨fun i hi hb => ?_, fun h => ?_⟩
  · unfold Mk; rw [ovr_get, if_pos ⟨mem_alIds.2 ⟨i, hi, hb⟩, by rw [hb]; have := (idA_bd (n0 := n0) hi).2; omega⟩]
  · unfold Mk; rw [ovr_get, if_neg]
    rintro ⟨h1, _⟩
    obtain ⟨i, hi, hb⟩ := mem_alIds.1 h1
    exact h i hi hb
end

structure MidA (P : Program) (ops : Array Oper) (es : List Nat) (n0 : Nat) (N : Nat) (S0 : Nat → Prop) (w0 : World) (g0 : Ghost) (m0 : List Blk) (st : St) (sT : Nat → St) (vs : Nat → AVal) (bk : Nat → Blk) (listed : Array Bool) (a : Act) (w : World) : Prop where
  size : listed.size = ops.size
  closed : ∀ i o, ops.toList[i]? = some o → listed.getD i false = true → ∀ e ∈ o.after, Region.binds .any e = true → listed.getD e.on false = true
  defers : a.defers = []
  asize : a.tmps.size = N
  ex : ∃ p, p ≤ ops.size ∧ (∀ i, i ∈ efOf es → i < p → listed.getD i false = true) ∧ (∀ i, i ∈ efOf es → p ≤ i → listed.getD i false = false) ∧
    ∃ S g, Inv S w g (Mk es n0 p sT bk fun j => listed.getD j false) ∧ (∀ t, Rep S w g (valD ops.toList st vs (fun j => listed.getD j false) t) (a.tmps.getD t undef)) ∧ GLe g0 g ∧ Chg S0 w0 (Open g0 m0) S w g (Mk es n0 p sT bk fun j => listed.getD j false)

theorem midA_sound {ops : Array Oper} {N : Nat} {S0 : Nat → Prop} {w0 : World} {g0 : Ghost} {m0 : List Blk} {st st1 stf : St} {sgf : List (List Blk)} {rdf : List Nat} {sT : Nat → St} {vs : Nat → AVal} {bk : Nat → Blk} {Q : Exit → Act → World → Prop}
    (hokA : drawOkA ops.toList es = true) (hT : TraceA P ops.toList es n0 0 st1 [] [] stf sgf rdf sT vs bk) (h0 : n0 + (alOf es).length ≤ st1.m.length) (ht0 : st1.t = st.t)
    (hrd : ∀ b ∈ rdf, (∀ μ ∈ sgf, μ[b]? = st1.m[b]?) ∧ ¬ (n0 ≤ b ∧ b < n0 + (alOf es).length)) (hN : ∀ o ∈ ops.toList, ∀ t, o.dst = some t → t < N)
    (hQ : ∀ a w, On S0 w0 g0 m0 N stf a w → Q .normal a w) : ∀ (fuel : Nat) (listed : Array Bool) (a : Act) (w : World), MidA P ops es n0 N S0 w0 g0 m0 st sT vs bk listed a w →
    (List.range ops.size).countP (fun i => !listed.getD i false) ≤ fuel → wpAny P .any ops Q fuel listed a w := by
  have hokA' := hokA
  simp only [drawOkA, Bool.and_eq_true] at hokA'
  obtain ⟨⟨⟨⟨hok, hwal⟩, _⟩, _⟩, _⟩ := hokA'
  have hedge := drawOk_edges hok
  have hbl : (befM ops.toList).length = ops.toList.length := (befM_closed ops.toList (fun _ => true) (fun _ _ _ _ _ _ _ => rfl) hedge).1
  have hlen : ops.toList.length = ops.size := Array.length_toList
  have hW : ∀ k i, k ∈ efOf es → i ∈ alOf es → ((befM ops.toList).getD k 0).testBit i = false → idA n0 es i ∈ wIds n0 es k := fun k i hk hi hb => by
    have h1 := List.all_eq_true.1 hwal k hk
    simp only [Bool.and_eq_true] at h1
    have h2 := List.all_eq_true.1 h1.2 i hi
    rw [hb] at h2
    exact List.mem_map_of_mem (by simpa using h2)
  have hlook0 : ∀ i, i ≤ ops.toList.length → ∀ t, lk (sT i).t t = valD ops.toList st vs (fun j => decide (j < i)) t :=
    look_atA hok hbl (fun t => by rw [hT.first, ht0]) (fun j o hj t => (hT.step j o (Nat.zero_le _) hj).look t)
  have mems0 : ∀ k, k ≤ ops.size → ∀ b ∈ rdf, (sT k).m[b]? = st1.m[b]? := fun k hk b hb => by
    rcases Nat.eq_zero_or_pos k with h | h
    · subst h; rw [hT.first]
    · rcases hT.mems k h (by omega) with h | h
      · exact (hrd b hb).1 _ h
      · rw [h]
  have done : ∀ listed a w, MidA P ops es n0 N S0 w0 g0 m0 st sT vs bk listed a w → Region.ready .any ops listed = [] → Q .normal a w := fun listed a w hM hr => by
    have hall : ∀ i, i < ops.size → listed.getD i false = true := by
      intro i
      induction i using Nat.strongRecOn with
      | _ i ih =>
        intro hi
        cases hc : listed.getD i false with
        | true => rfl
        | false =>
          exfalso
          have hin : i ∈ Region.ready .any ops listed := mem_ready.2 ⟨mid_sound.getD_in' hM.size hi hc, ops[i], Array.getElem?_eq_getElem hi, fun e he hb => by
            have hlt := hedge i ops[i] (by rw [Array.getElem?_toList]; exact Array.getElem?_eq_getElem hi) e he hb
            exact ih e.on hlt (by omega)⟩
          rw [hr] at hin; cases hin
    obtain ⟨p, hp, hp1, hp2, S, g, hI, hrep, hle, hchg⟩ := hM.ex
    have hno : ∀ k, k ∈ efOf es → p ≤ k → k < ops.toList.length → False := fun k h1 h2 h3 => by
      have h4 := hp2 k h1 h2
      rw [hall k (by omega)] at h4; cases h4
    have hpm : Mk es n0 p sT bk (fun j => listed.getD j false) = stf.m := by
      refine List.ext_getElem? fun b => ?_
      rw [← hT.last]
      by_cases hb : ∃ i, i ∈ alOf es ∧ b = idA n0 es i
      · obtain ⟨i, hi, hb⟩ := hb
        rw [(Mk_get hT h0 (by omega) _ b).1 i hi hb, hb, cont_id hi]
        by_cases hil : i < ops.size
        · rw [if_pos (hall i hil)]
          split
          · rename_i hip
            have e := same_run hT (p := p) (b := idA n0 es i) ops.toList.length (by omega) (Nat.le_refl _) hno (fun j hj h1 _ e => by have := idA_inj hi hj e; omega)
            rw [e]
            have hl := len_at hT h0 p (by omega)
            have := (idA_bd (n0 := n0) hi).2
            rw [List.getElem?_eq_getElem (by omega)]; rfl
          · exact (blk_run hT h0 hi ops.toList.length (by omega) (Nat.le_refl _) (fun k h1 h2 h3 => (hno k h1 (by omega) h3).elim)).symm
        · exfalso
          have hal := hokA
          simp only [drawOkA, Bool.and_eq_true] at hal
          have := List.all_eq_true.1 hal.1.2 i hi
          simp at this; omega
      · rw [(Mk_get hT h0 (by omega) _ b).2 (fun i hi e => hb ⟨i, hi, e⟩)]
        exact (same_run hT ops.toList.length (by omega) (Nat.le_refl _) hno (fun i hi _ _ e => hb ⟨i, hi, e⟩)).symm
    rw [hpm] at hI hchg
    refine hQ a w ⟨S, g, ⟨hI, hM.defers, hM.asize, fun t => ?_⟩, hle, hchg⟩
    have hlk := hlook0 ops.toList.length (Nat.le_refl _) t
    rw [hT.last] at hlk
    rw [hlk]
    have hr := hrep t
    unfold valD at hr ⊢
    split
    · rename_i j hj
      obtain ⟨o', ho', _⟩ := dstIx_some hj
      have hjl := (List.getElem?_eq_some_iff.1 ho').1
      simp only [hj] at hr
      rw [if_pos (hall j (by omega))] at hr
      rw [if_pos (by simpa using hjl)]
      exact hr
    · rename_i hj; simp only [hj] at hr; exact hr
  intro fuel
  induction fuel with
  | zero =>
    intro listed a w hM hcount
    have hr : Region.ready .any ops listed = [] := by
      cases hq : Region.ready .any ops listed with
      | nil => rfl
      | cons i r =>
        exfalso
        obtain ⟨h1, o, ho, _⟩ := mem_ready.1 (show i ∈ Region.ready .any ops listed by rw [hq]; simp)
        have hil := (Array.getElem?_eq_some_iff.1 ho).1
        have : 0 < (List.range ops.size).countP (fun i => !listed.getD i false) := List.countP_pos_iff.2 ⟨i, List.mem_range.2 hil, by simpa using mid_sound.getD_both' h1⟩
        omega
    exact ⟨hr, done listed a w hM hr⟩
  | succ fuel ih =>
    intro listed a w hM hcount
    refine ⟨done listed a w hM, fun i hi => ?_⟩
    obtain ⟨hun, o, ho, hall⟩ := mem_ready.1 hi
    have hil := (Array.getElem?_eq_some_iff.1 ho).1
    have hio : ops.toList[i]? = some o := by rw [Array.getElem?_toList]; exact ho
    have hnl : listed.getD i false = false := mid_sound.getD_both' hun
    have hset : ∀ j, (listed.setIfInBounds i true).getD j false = (listed.getD j false || decide (j = i)) := fun j => by
      by_cases e : j = i
      · subst e
        have : j < listed.size := by rw [hM.size]; exact hil
        simp [this]
      · rw [getD_set_ne false (Ne.symm e)]; simp [e]
    have ahead : ∀ j, j < i → ((befM ops.toList).getD i 0).testBit j = true → listed.getD j false = true := fun j hj hb => by
      have := (befM_closed ops.toList (fun j => listed.getD j false || decide (j = i)) (fun k ok hk hck e he hbd => by
        simp only [Bool.or_eq_true, decide_eq_true_eq] at hck ⊢
        rcases hck with hck | hck
        · exact .inl (hM.closed k ok hk hck e he hbd)
        · subst hck
          obtain rfl := Option.some.inj (hio.symm.trans hk)
          exact .inl (hall e he hbd)) hedge).2 i (by simp) j hb
      simp only [Bool.or_eq_true, decide_eq_true_eq] at this
      rcases this with h | h
      · exact h
      · omega
    have behind : ∀ j, ((befM ops.toList).getD j 0).testBit i = true → listed.getD j false = false := fun j hb => by
      cases hc : listed.getD j false with
      | false => rfl
      | true =>
        have := (befM_closed ops.toList (fun j => listed.getD j false) hM.closed hedge).2 j hc i hb
        rw [hnl] at this; cases this
    have huse : ∀ t, t ∈ opUses ops.toList o → valD ops.toList st vs (fun j => listed.getD j false) t = valD ops.toList st vs (fun j => decide (j < i)) t := fun t ht => by
      unfold valD
      split
      · rename_i j hj
        obtain ⟨oj, hoj, hdj⟩ := dstIx_some hj
        rcases Nat.lt_trichotomy j i with hji | hji | hji
        · have hp := drawOk_pair hok hbl hoj hio hji
          have : listed.getD j false = true := by
            refine ahead j hji ?_
            simp only [pairOk, Bool.and_eq_true, Bool.or_eq_true] at hp
            rcases hp.2 with h | ⟨⟨h, _⟩, _⟩
            · exact h
            · simp [hdj, ht] at h
          simp [this, hji]
        · subst hji; simp [hnl]
        · have hp := drawOk_pair hok hbl hio hoj hji
          have : listed.getD j false = false := by
            refine behind j ?_
            simp only [pairOk, Bool.and_eq_true, Bool.or_eq_true] at hp
            rcases hp.2 with h | ⟨⟨_, h⟩, _⟩
            · exact h
            · simp [hdj, ht] at h
          simp [this, show ¬ j < i by omega]
      · rfl
    have hlook : ∀ t, t ∈ opUses ops.toList o → lk (sT i).t t = valD ops.toList st vs (fun j => listed.getD j false) t := fun t ht => by
      rw [hlook0 i (by omega), huse t ht]
    have hev : ∀ x ∈ o.op.operands.toList, (sT i).ev x = evD ops.toList st vs (fun j => listed.getD j false) x := fun x hx => by
      cases x with
      | tmp t => exact hlook t (by simp only [opUses, List.mem_append]; exact .inl (by simp only [opTmps, List.mem_filterMap]; exact ⟨_, hx, rfl⟩))
      | _ => rfl
    obtain ⟨p, hp, hp1, hp2, S, g, hI, hrep, hle, hchg⟩ := hM.ex
    have hρ : ∀ x, Rep S w g (evD ops.toList st vs (fun j => listed.getD j false) x) (a.eval x) := fun x => by
      cases x with
      | tmp t => exact hrep t
      | const v => exact ofVal_rep S w g v
      | global b => exact .dead _ _
      | func f => exact .fn _ _ _ _ _ _ rfl (fun j y hj => by simp at hj) rfl (fun j y hj => by simp at hj)
    have next : ∀ (u : Value) (w' : World) (S' : Nat → Prop) (g' : Ghost) (p' : Nat), p' ≤ ops.size → (∀ j, j ∈ efOf es → j < p' → (listed.setIfInBounds i true).getD j false = true) →
        (∀ j, j ∈ efOf es → p' ≤ j → (listed.setIfInBounds i true).getD j false = false) →
        After S w g (Mk es n0 p sT bk fun j => listed.getD j false) S' w' g' (Mk es n0 p' sT bk fun j => (listed.setIfInBounds i true).getD j false) (vs i) u →
        wpAny P .any ops Q fuel (listed.setIfInBounds i true) (a.put o.dst u) w' := fun u w' S' g' p' h1 h2 h3 hA => by
      refine ih _ _ _ ⟨by simp [hM.size], fun k ok hk hck e he hbd => ?_, by cases hd : o.dst <;> simp [Act.put, hM.defers], by cases hd : o.dst <;> simp [Act.put, hM.asize],
        p', h1, h2, h3, S', g', hA.inv, fun t => ?_, hle.trans hA.le, hchg.trans hA.chg⟩ ?_
      · rw [hset] at hck ⊢
        simp only [Bool.or_eq_true, decide_eq_true_eq] at hck ⊢
        rcases hck with hck | hck
        · exact .inl (hM.closed k ok hk hck e he hbd)
        · subst hck
          obtain rfl := Option.some.inj (hio.symm.trans hk)
          exact .inl (hall e he hbd)
      · rw [put_tmp]
        by_cases hd : o.dst = some t
        · rw [if_pos ⟨hd, by rw [hM.asize]; exact hN o (List.mem_of_getElem? hio) t hd⟩]
          unfold valD
          rw [dstIx_of hok hbl hio hd]
          simp only [hset]
          simp
          exact hA.rep
        · rw [if_neg (fun h => hd h.1)]
          have : valD ops.toList st vs (fun j => (listed.setIfInBounds i true).getD j false) t = valD ops.toList st vs (fun j => listed.getD j false) t := by
            unfold valD
            split
            · rename_i j hj
              obtain ⟨oj, hoj, hdj⟩ := dstIx_some hj
              have hne : j ≠ i := fun e => by subst e; rw [hio] at hoj; injection hoj with e; rw [e] at hd; exact hd hdj
              simp only [hset]; simp [hne]
            · rfl
          rw [this]
          exact (hrep t).after hI hA.chg hA.le
      · have := countP_lt (p := fun j => !listed.getD j false) (q := fun j => !(listed.setIfInBounds i true).getD j false) (List.range ops.size) i (List.mem_range.2 hil) (fun j hj => by
          simp only [hset, Bool.not_or, Bool.and_eq_true] at hj; exact hj.1) (by simp only [hnl]; rfl) (by simp only [hset]; simp)
        omega
    have pStay : i ∉ efOf es → (∀ j, j ∈ efOf es → j < p → (listed.setIfInBounds i true).getD j false = true) ∧ (∀ j, j ∈ efOf es → p ≤ j → (listed.setIfInBounds i true).getD j false = false) := fun hne =>
      ⟨fun j hj hjp => by rw [hset, hp1 j hj hjp]; rfl, fun j hj hjp => by
        rw [hset, hp2 j hj hjp]
        have : j ≠ i := fun e => hne (e ▸ hj)
        simp [this]⟩
    have hstep := hT.step i o (Nat.zero_le _) hio
    unfold wpOp
    rw [ho]
    simp only
    have hgd : Region.wanted o (yielded ops a.tmps) = true := by simp [Region.wanted, hstep.gd]
    rw [if_pos hgd]
    have exec : ∀ (p' : Nat) (K : AVal → List Blk → Prop), kop P (evD ops.toList st vs (fun j => listed.getD j false)) (Mk es n0 p sT bk fun j => listed.getD j false) K o.op → (∀ v μ, K v μ → v = vs i ∧ μ = Mk es n0 p' sT bk fun j => (listed.setIfInBounds i true).getD j false) → p' ≤ ops.size →
        (∀ j, j ∈ efOf es → j < p' → (listed.setIfInBounds i true).getD j false = true) → (∀ j, j ∈ efOf es → p' ≤ j → (listed.setIfInBounds i true).getD j false = false) →
        o.wp P a w (wpAny P .any ops Q fuel (listed.setIfInBounds i true)) Q := fun p' K hk hK h1 h2 h3 => by
      obtain ⟨v, m', hK', hor⟩ := kop_sound (o := o) hI hρ hk
      obtain ⟨rfl, rfl⟩ := hK v m' hK'
      unfold Oper.wp
      rcases hor with ⟨u, w', S', g', hr, hA⟩ | ⟨f, args, hr, hc⟩
      · rcases hr with hr | ⟨hr, rfl⟩
        · rw [hr]; exact next _ _ _ _ _ h1 h2 h3 hA
        · rw [hr]; exact next _ _ _ _ _ h1 h2 h3 hA
      · rw [hr]
        refine hc.mono fun e w' he => ?_
        obtain ⟨u, S', g', rfl, hA⟩ := he
        exact next _ _ _ _ _ h1 h2 h3 hA
    -- writers between i and what has run
    have lateW : ∀ k, k ∈ efOf es → k < p → i ∈ alOf es → i < k → idA n0 es i ∈ wIds n0 es k := fun k hk hkp hia hik => by
      refine hW k i hk hia ?_
      cases hb : ((befM ops.toList).getD k 0).testBit i with
      | false => rfl
      | true =>
        have := behind k hb
        rw [hp1 k hk hkp] at this; cases this
    rcases hstep.act with ⟨hia, hk, hm⟩ | ⟨hia, hin, hk, hkW⟩ | ⟨hia, hin, hk, hm, hr⟩
    · -- a maker
      have hne : i ∉ efOf es := fun h => by
        have h1 := List.all_eq_true.1 hwal i h
        simp only [Bool.and_eq_true] at h1
        have := h1.1
        simp [hia] at this
      obtain ⟨q2, q3⟩ := pStay hne
      have hgone : (Mk es n0 p sT bk fun j => listed.getD j false)[idA n0 es i]? = some .gone := by
        rw [(Mk_get hT h0 (by omega) _ _).1 i hia rfl, cont_id hia]; simp only [hnl]; rfl
      have hMk : (Mk es n0 p sT bk fun j => listed.getD j false).set (idA n0 es i) (bk i) = Mk es n0 p sT bk fun j => (listed.setIfInBounds i true).getD j false := by
        refine List.ext_getElem? fun b => ?_
        by_cases hb : b = idA n0 es i
        · subst hb
          rw [List.getElem?_set_self (List.getElem?_eq_some_iff.1 hgone).1, (Mk_get hT h0 (by omega) _ _).1 i hia rfl, cont_id hia]
          simp only [hset]
          rw [if_pos (by simp)]
          split
          · rename_i hip
            rw [blk_run hT h0 hia p (by omega) (by omega) (fun k h1 h2 h3 => lateW k h1 h3 hia h2)]; rfl
          · rfl
        · rw [List.getElem?_set_ne (Ne.symm hb)]
          by_cases hb2 : ∃ j, j ∈ alOf es ∧ b = idA n0 es j
          · obtain ⟨j, hj, rfl⟩ := hb2
            rw [(Mk_get hT h0 (by omega) _ _).1 j hj rfl, (Mk_get hT h0 (by omega) _ _).1 j hj rfl, cont_id hj, cont_id hj]
            have hji : ¬ j = i := fun e => hb (by rw [e])
            simp only [hset]; simp [hji]
          · rw [(Mk_get hT h0 (by omega) _ b).2 (fun j hj e => hb2 ⟨j, hj, e⟩), (Mk_get hT h0 (by omega) _ b).2 (fun j hj e => hb2 ⟨j, hj, e⟩)]
      rw [kAl_congr hev] at hk
      obtain ⟨v, k, ⟨rfl, rfl⟩, u, w', g', hr, hA⟩ := kAl_sound hI hρ hgone hk
      rw [hMk] at hA
      refine .inl ?_
      unfold Oper.wp
      rw [hr]
      exact next _ _ _ _ _ hp q2 q3 hA
    · -- a writer
      have hpi : p ≤ i := by
        rcases Nat.lt_or_ge i p with h | h
        · rw [hp1 i hin h] at hnl; cases hnl
        · exact h
      have hnone : ∀ j, j ∈ efOf es → p ≤ j → j < i → False := fun j hj h1 h2 => by
        obtain ⟨oj, hoj⟩ : ∃ oj, ops.toList[j]? = some oj := ⟨ops.toList[j]'(by omega), List.getElem?_eq_getElem _⟩
        have hq := drawOk_pair hok hbl hoj hio h2
        simp only [pairOk, Bool.and_eq_true, Bool.or_eq_true] at hq
        have : listed.getD j false = true := by
          refine ahead j h2 ?_
          rcases hq.2 with h | ⟨_, h⟩
          · exact h
          · simp [hj, hin] at h
        rw [hp2 j hj h1] at this; cases this
      have hbefore : ∀ j, j ∈ alOf es → idA n0 es j ∉ wIds n0 es i → listed.getD j false = true ∧ j < i := fun j hj hnw => by
        cases hb : ((befM ops.toList).getD i 0).testBit j with
        | false => exact absurd (hW i j hin hj hb) hnw
        | true =>
          have hji : j < i := by
            rcases Nat.lt_or_ge j i with h | h
            · exact h
            · exfalso
              have := (befM_closed ops.toList (fun j => decide (j ≤ i)) (fun k ok hk hck e he hbd => by
                simp only [decide_eq_true_eq] at hck ⊢
                have := hedge k ok hk e he hbd; omega) hedge).2 i (by simp) j hb
              simp only [decide_eq_true_eq] at this
              have hji : j = i := by omega
              subst hji; exact hia hj
          exact ⟨ahead j hji hb, hji⟩
      have wmem : ∀ b, b ∈ wIds n0 es i → ∃ j, j ∈ alOf es ∧ b = idA n0 es j := fun b hb => by
        obtain ⟨j, hj, rfl⟩ := List.mem_map.1 hb
        have h5 := hokA
        simp only [drawOkA, Bool.and_eq_true] at h5
        have h6 := List.all_eq_true.1 (List.all_eq_true.1 h5.2 i (List.mem_range.2 (by omega))) j hj
        exact ⟨j, by simpa using h6, rfl⟩
      have key1 : Mk es n0 p sT bk (fun j => listed.getD j false) = ovr (wIds n0 es i) (cont es n0 p sT bk fun j => listed.getD j false) (sT i).m := by
        refine List.ext_getElem? fun b => ?_
        have hli := len_at hT h0 i (by omega)
        have hlp := len_at hT h0 p (by omega)
        by_cases hb : ∃ j, j ∈ alOf es ∧ b = idA n0 es j
        · obtain ⟨j, hj, rfl⟩ := hb
          have hbd := (idA_bd (n0 := n0) hj).2
          rw [(Mk_get hT h0 (by omega) _ _).1 j hj rfl, ovr_get]
          by_cases hw : idA n0 es j ∈ wIds n0 es i
          · rw [if_pos ⟨hw, by omega⟩]
          · rw [if_neg (fun h => hw h.1), cont_id hj]
            obtain ⟨hl, hji⟩ := hbefore j hj hw
            simp only [hl, if_true]
            split
            · rw [same_run hT (p := p) i hpi (by omega) (fun k h1 h2 h3 => hnone k h1 h2 h3) (fun j' hj' h1 _ e => by have := idA_inj hj hj' e; omega), List.getElem?_eq_getElem (by omega)]; rfl
            · exact (blk_run hT h0 hj i (by omega) (by omega) (fun k h1 h2 h3 => (hnone k h1 (by omega) h3).elim)).symm
        · rw [(Mk_get hT h0 (by omega) _ b).2 (fun j hj e => hb ⟨j, hj, e⟩), ovr_get, if_neg (fun h => hb (wmem b h.1))]
          exact (same_run hT i hpi (by omega) (fun k h1 h2 h3 => hnone k h1 h2 h3) (fun j hj _ _ e => hb ⟨j, hj, e⟩)).symm
      have key2 : ovr (wIds n0 es i) (cont es n0 p sT bk fun j => listed.getD j false) (sT (i + 1)).m = Mk es n0 (i + 1) sT bk fun j => (listed.setIfInBounds i true).getD j false := by
        refine List.ext_getElem? fun b => ?_
        have hli := len_at hT h0 (i + 1) (by omega)
        have hli0 := len_at hT h0 i (by omega)
        have hlp := len_at hT h0 p (by omega)
        by_cases hb : ∃ j, j ∈ alOf es ∧ b = idA n0 es j
        · obtain ⟨j, hj, rfl⟩ := hb
          have hbd := (idA_bd (n0 := n0) hj).2
          have hji : j ≠ i := fun e => hia (e ▸ hj)
          rw [(Mk_get hT h0 (by omega) _ _).1 j hj rfl, ovr_get]
          simp only [cont_id hj, hset]
          have e1 : (listed.getD j false || decide (j = i)) = listed.getD j false := by simp [hji]
          rw [e1]
          by_cases hw : idA n0 es j ∈ wIds n0 es i
          · rw [if_pos ⟨hw, by omega⟩]
            by_cases hl : listed.getD j false = true
            · simp only [hl, if_true]
              congr 1
              by_cases hjp : j < p
              · rw [if_pos hjp, if_pos (by omega), hkW _ hw, same_run hT (p := p) i hpi (by omega) (fun k h1 h2 h3 => hnone k h1 h2 h3) (fun j' hj' h1 _ e => by have := idA_inj hj hj' e; omega)]
              · rw [if_neg hjp]
                by_cases hj1 : j < i
                · rw [if_pos (by omega), hkW _ hw, blk_run hT h0 hj i (by omega) (by omega) (fun k h1 h2 h3 => (hnone k h1 (by omega) h3).elim)]; rfl
                · rw [if_neg (by omega)]
            · simp only [hl]; rfl
          · rw [if_neg (fun h => hw h.1)]
            obtain ⟨hl, hj1⟩ := hbefore j hj hw
            simp only [hl, if_true]
            rw [if_pos (by omega), List.getElem?_eq_getElem (by omega)]; rfl
        · rw [(Mk_get hT h0 (by omega) _ b).2 (fun j hj e => hb ⟨j, hj, e⟩), ovr_get, if_neg (fun h => hb (wmem b h.1))]
      have hk' := hk (cont es n0 p sT bk fun j => listed.getD j false)
      rw [kop_congr hev, ← key1, key2] at hk'
      refine .inl (exec (i + 1) _ hk' (fun v μ h => h) (by omega) (fun j hj hji => ?_) (fun j hj hji => ?_))
      · rw [hset]
        by_cases e : j = i
        · simp [e]
        · have hjp : j < p := by
            rcases Nat.lt_or_ge j p with h | h
            · exact h
            · exact (hnone j hj h (by omega)).elim
          rw [hp1 j hj hjp]; rfl
      · rw [hset, hp2 j hj (by omega)]
        have : j ≠ i := by omega
        simp [this]
    · -- a reader
      obtain ⟨q2, q3⟩ := pStay hin
      have hMk : Mk es n0 p sT bk (fun j => listed.getD j false) = Mk es n0 p sT bk fun j => (listed.setIfInBounds i true).getD j false := by
        refine List.ext_getElem? fun b => ?_
        by_cases hb2 : ∃ j, j ∈ alOf es ∧ b = idA n0 es j
        · obtain ⟨j, hj, rfl⟩ := hb2
          rw [(Mk_get hT h0 (by omega) _ _).1 j hj rfl, (Mk_get hT h0 (by omega) _ _).1 j hj rfl, cont_id hj, cont_id hj]
          have hji : ¬ j = i := fun e => hia (e ▸ hj)
          simp only [hset]; simp [hji]
        · rw [(Mk_get hT h0 (by omega) _ b).2 (fun j hj e => hb2 ⟨j, hj, e⟩), (Mk_get hT h0 (by omega) _ b).2 (fun j hj e => hb2 ⟨j, hj, e⟩)]
      have hk' : kopQ P (evD ops.toList st vs (fun j => listed.getD j false)) (Mk es n0 p sT bk fun j => listed.getD j false) (· = vs i) o.op :=
        kopQ_congr hev (fun b hb => by
          have hbr := hr b hb
          rw [(Mk_get hT h0 (by omega) _ b).2 (fun j hj e => (hrd b hbr).2 (by rw [e]; exact idA_bd hj)), mems0 p hp b hbr, mems0 i (by omega) b hbr]) hk
      exact .inl (exec p _ (kopQ_kop hk') (fun v μ ⟨h1, h2⟩ => ⟨h1, h2.trans hMk⟩) hp q2 q3)
end
end Go.Awp

/- Code; loops; functions. -/
namespace Go.Awp
/-- The simplest weakening: the memory stays, slots are forgotten. -/
def Sub (st st' : St) : Prop := st'.m = st.m ∧ ∀ x ∈ st'.t, lk st.t x.1 = x.2
/-- What the one state says the other one says, too, whatever the call: n blocks came in. -/
def Ent (n : Nat) (st st' : St) : Prop := ∀ (S0 : Nat → Prop) (w0 : World) (g0 : Ghost) (m0 : List Blk) (N : Nat) (a : Act) (w : World), m0.length = n → (∀ b, n ≤ b → g0 b = none) → On S0 w0 g0 m0 N st a w → On S0 w0 g0 m0 N st' a w
theorem Ent.refl (n : Nat) (st : St) : Ent n st st := fun _ _ _ _ _ _ _ _ _ h => h
theorem Ent.trans {n : Nat} {a b c : St} (h : Ent n a b) (k : Ent n b c) : Ent n a c := fun S0 w0 g0 m0 N x w hn hd ho => k S0 w0 g0 m0 N x w hn hd (h S0 w0 g0 m0 N x w hn hd ho)

/-- Abstract exits are the model's own. -/
def kCode (P : Program) (n : Nat) (Ds : Nat → Option (List Nat)) : Code → (Exit → St → Prop) → St → Prop
  | .skip, Q, st => Q .normal st
  | .region id ops false, Q, st => (match Ds id with
    | some [999] => ∃ st', Ent n st st' ∧ kOps P ops.toList ops.toList st' (Q .normal)
    | _ => kOps P ops.toList ops.toList st (Q .normal))
  | .region id ops true, Q, st => (match Ds id with
    | some es => (match hasAl es with
      | false => kDraw P ops.toList es st (Q .normal)
      | true => kDrawB P ops.toList es st (Q .normal))
    | none => False)
  | .seq a b, Q, st => kCode P n Ds a (fun e st => match e with
    | .normal => kCode P n Ds b Q st
    | e => Q e st) st
  | .cond c a b, Q, st => (match st.ev c with
    | .bool t => (t = true → kCode P n Ds a Q st) ∧ (t = false → kCode P n Ds b Q st)
    | _ => False)
  | .block id c, Q, st => kCode P n Ds c (fun e st => match e with
    | .exit id' => if id' = id then Q .normal st else Q (.exit id') st
    | e => Q e st) st
  | .loop c, Q, st => ∃ (I : St → Prop) (μ : St → Nat), (∃ st0, Ent n st st0 ∧ I st0) ∧ ∀ st, I st → kCode P n Ds c (fun e st' => match e with
    | .normal => ∃ st'', Ent n st' st'' ∧ I st'' ∧ μ st'' < μ st
    | e => Q e st') st
  | .exit id, Q, st => Q (.exit id) st
  | .ret, Q, st => Q .ret st
  | _, _, _ => False

/-- All slots that code writes lie in the frame; and the regions that draw their order bear it. -/
def dstOk (N : Nat) (Ds : Nat → Option (List Nat)) : Code → Bool
  | .region id ops d => (ops.toList.all fun o => o.dst.all fun t => decide (t < N)) && (!d || (match Ds id with
    | some es => if hasAl es then drawOkA ops.toList es else drawOk ops.toList es
    | none => false))
  | .seq a b => dstOk N Ds a && dstOk N Ds b
  | .cond _ a b => dstOk N Ds a && dstOk N Ds b
  | .block _ c => dstOk N Ds c
  | .loop c => dstOk N Ds c
  | _ => true

section
variable {P : Program} {N : Nat} {S0 : Nat → Prop} {w0 : World} {g0 : Ghost} {m0 : List Blk}

theorem On.sub {st st' : St} {a : Act} {w : World} (h : On S0 w0 g0 m0 N st a w) (hs : Sub st st') : On S0 w0 g0 m0 N st' a w := by
  obtain ⟨S, g, hR, hle, hchg⟩ := h
  refine ⟨S, g, ⟨by rw [hs.1]; exact hR.inv, hR.defers, hR.size, fun t => ?_⟩, hle, by rw [hs.1]; exact hchg⟩
  have key : ∀ l : List (Nat × AVal), (∀ x ∈ l, lk st.t x.1 = x.2) → Rep S w g (lk l t) (a.tmps.getD t undef) := by
    intro l
    induction l with
    | nil => intro _; exact .dead _ _
    | cons x l ih =>
      intro hx
      obtain ⟨i, v⟩ := x
      simp only [lk]
      split
      · rename_i e
        subst e
        have := hx (i, v) (by simp)
        simp only at this
        rw [← this]
        exact hR.tmp i
      · exact ih fun x h => hx x (by simp [h])
  exact key st'.t hs.2

theorem start_mid {ops : Array Oper} {es : List Nat} {st stf : St} {sgf : List (List Blk)} {rdf : List Nat} {sT : Nat → St} {vs : Nat → AVal} {a : Act} {w : World}
    (hT : Trace P ops.toList es 0 st [] [] stf sgf rdf sT vs) (hon : On S0 w0 g0 m0 N st a w) :
    Mid P ops es N S0 w0 g0 m0 st sT vs (Array.replicate ops.size false) a w := by
  obtain ⟨S, g, hR, hle, hchg⟩ := hon
  have hf : ∀ j, (Array.replicate ops.size false).getD j false = false := fun j => by simp [Array.getD]
  refine ⟨by simp, fun i o hi hc => (by rw [hf] at hc; cases hc), hR.defers, hR.size, 0, Nat.zero_le _, fun i _ h => by omega, fun i _ _ => hf i, S, g, by rw [hT.first]; exact hR.inv, fun t => ?_, hle, by rw [hT.first]; exact hchg⟩
  have : valD ops.toList st vs (fun j => (Array.replicate ops.size false).getD j false) t = lk st.t t := by
    unfold valD
    split
    · simp only [hf]; simp
    · rfl
  rw [this]; exact hR.tmp t

theorem kDraw_sound (hm : P.follows .mixedOrders = true) {id : Nat} {ops : Array Oper} {es : List Nat} {st : St} {K : St → Prop} {Q : Exit → Act → World → Prop} {a : Act} {w : World} (hok : drawOk ops.toList es = true) (h : kDraw P ops.toList es st K)
    (hon : On S0 w0 g0 m0 N st a w) (hN : ∀ o ∈ ops.toList, ∀ t, o.dst = some t → t < N) (hK : ∀ st a w, K st → On S0 w0 g0 m0 N st a w → Q .normal a w) : (Code.region id ops true).wp P Q a w := by
  obtain ⟨stf, sgf, rdf, sT, vs, ⟨hrd, hKf⟩, hT⟩ := kDrawOps_trace ops.toList 0 st [] [] rfl (Nat.zero_le _) h
  refine wp_region_any hm ?_
  have hon' : On S0 w0 g0 m0 N st a w.drew := by
    obtain ⟨S, g, hR, hle, hchg⟩ := hon
    have hI : Inv S w.drew g st.m := hR.inv.keep (fun _ _ => rfl) (fun _ h => h) (fun _ h => .inl h) hR.inv.low
    exact ⟨S, g, ⟨hI, hR.defers, hR.size, fun t => Rep.mono (S := S) (S' := S) (w := w) (w' := w.drew) (fun _ h => h) (fun _ _ => rfl) (hR.tmp t) g (GLe.refl g)⟩, hle, ⟨hchg.os, hchg.tape, hchg.output, hchg.size, hchg.keep, hchg.up, hchg.back, hchg.cars⟩⟩
  exact mid_sound hok hT hrd hN (fun a w hon => hK stf a w hKf hon) ops.size _ a w.drew (start_mid hT hon') (by
    refine Nat.le_trans List.countP_le_length ?_; simp)

theorem kDrawB_sound (hm : P.follows .mixedOrders = true) {id : Nat} {ops : Array Oper} {es : List Nat} {st : St} {K : St → Prop} {Q : Exit → Act → World → Prop} {a : Act} {w : World} (hok : drawOkA ops.toList es = true) (h : kDrawB P ops.toList es st K)
    (hon : On S0 w0 g0 m0 N st a w) (hN : ∀ o ∈ ops.toList, ∀ t, o.dst = some t → t < N) (hK : ∀ st a w, K st → On S0 w0 g0 m0 N st a w → Q .normal a w) : (Code.region id ops true).wp P Q a w := by
  obtain ⟨stf, sgf, rdf, sT, vs, bk, ⟨hrd, hKf⟩, hT⟩ := kDrawA_trace (l := ops.toList) ops.toList 0 _ [] [] rfl (Nat.zero_le _) h
  refine wp_region_any hm ?_
  obtain ⟨S, g, hR, hle, hchg⟩ := hon
  have hI : Inv S w.drew g st.m := hR.inv.keep (fun _ _ => rfl) (fun _ h => h) (fun _ h => .inl h) hR.inv.low
  obtain ⟨hI2, hop⟩ := hI.room (alOf es).length
  have hf : ∀ j, (Array.replicate ops.size false).getD j false = false := fun j => by simp [Array.getD]
  have hl0 : st.m.length + (alOf es).length ≤ (st.m ++ List.replicate (alOf es).length Blk.gone).length := by simp
  have hMk : Mk es st.m.length 0 sT bk (fun j => (Array.replicate ops.size false).getD j false) = st.m ++ List.replicate (alOf es).length Blk.gone := by
    refine List.ext_getElem? fun b => ?_
    by_cases hb : ∃ i, i ∈ alOf es ∧ b = idA st.m.length es i
    · obtain ⟨i, hi, rfl⟩ := hb
      rw [(Mk_get hT hl0 (Nat.zero_le _) _ _).1 i hi rfl, cont_id hi]
      simp only [hf, Bool.false_eq_true, if_false]
      have := idA_bd (n0 := st.m.length) hi
      rw [List.getElem?_append_right this.1, List.getElem?_replicate, if_pos (by omega)]
    · rw [(Mk_get hT hl0 (Nat.zero_le _) _ b).2 (fun i hi e => hb ⟨i, hi, e⟩), hT.first]
  have hch : Chg S0 w0 (Open g0 m0) S w.drew g (st.m ++ List.replicate (alOf es).length Blk.gone) := ⟨hchg.os, hchg.tape, hchg.output, hchg.size, hchg.keep, hchg.up, hchg.back, fun c hc => hchg.cars c (hop c hc)⟩
  refine midA_sound (st := st) hok hT hl0 rfl hrd hN (fun a w hon => hK stf a w hKf hon) ops.size _ a w.drew ⟨by simp, fun i o hi hc => (by rw [hf] at hc; cases hc), hR.defers, hR.size, 0, Nat.zero_le _, fun i _ h => by omega, fun i _ _ => hf i,
    S, g, by rw [hMk]; exact hI2, fun t => ?_, hle, by rw [hMk]; exact hch⟩ (by refine Nat.le_trans List.countP_le_length ?_; simp)
  have : valD ops.toList st vs (fun j => (Array.replicate ops.size false).getD j false) t = lk st.t t := by
    unfold valD
    split
    · simp only [hf]; simp
    · rfl
  rw [this]
  exact Rep.mono (S := S) (S' := S) (w := w) (w' := w.drew) (fun _ h => h) (fun _ _ => rfl) (hR.tmp t) g (GLe.refl g)

theorem kCode_sound (hm : P.follows .mixedOrders = true) {n : Nat} (hn0 : m0.length = n) (hd0 : ∀ b, n ≤ b → g0 b = none) (Ds : Nat → Option (List Nat)) : ∀ (c : Code) (Q : Exit → St → Prop) (Q' : Exit → Act → World → Prop) (st : St) (a : Act) (w : World), dstOk N Ds c = true → kCode P n Ds c Q st →
    On S0 w0 g0 m0 N st a w → (∀ e st a w, Q e st → On S0 w0 g0 m0 N st a w → Q' e a w) → c.wp P Q' a w
  | .skip, Q, Q', st, a, w, _, h, hon, hQ => wp_skip (hQ _ _ _ _ h hon)
  | .region id ops false, Q, Q', st, a, w, hd, h, hon, hQ => by
    have hdd : ∀ o ∈ ops.toList, ∀ t, o.dst = some t → t < N := fun o ho t ht => by
      simp only [dstOk, Bool.and_eq_true] at hd
      have := List.all_eq_true.1 hd.1 o ho
      simpa [ht] using this
    simp only [kCode] at h
    split at h
    · obtain ⟨st', hE, h⟩ := h
      exact wp_region_list (kOps_sound (N := N) (fun st a w hk hon => hQ .normal st a w hk hon) ops.toList st' a w hdd h (hE _ _ _ _ _ _ _ hn0 hd0 hon))
    · exact wp_region_list (kOps_sound (N := N) (fun st a w hk hon => hQ .normal st a w hk hon) ops.toList st a w hdd h hon)
  | .region id ops true, Q, Q', st, a, w, hd, h, hon, hQ => by
    simp only [kCode] at h
    split at h
    · rename_i es hes
      simp only [dstOk, Bool.and_eq_true, hes, Bool.not_true, Bool.false_or] at hd
      have hdd : ∀ o ∈ ops.toList, ∀ t, o.dst = some t → t < N := fun o ho t ht => by
        have := List.all_eq_true.1 hd.1 o ho
        simpa [ht] using this
      split at h
      · rename_i hal
        exact kDraw_sound hm (by have := hd.2; rw [hal] at this; exact this) h hon hdd (fun st a w hk hon => hQ .normal st a w hk hon)
      · rename_i hal
        exact kDrawB_sound hm (by have := hd.2; rw [hal] at this; exact this) h hon hdd (fun st a w hk hon => hQ .normal st a w hk hon)
    · exact h.elim
  | .seq x y, Q, Q', st, a, w, hd, h, hon, hQ => by
    simp only [dstOk, Bool.and_eq_true] at hd
    refine wp_seq (kCode_sound hm hn0 hd0 Ds x _ _ st a w hd.1 h hon fun e st a w hq hon => ?_)
    cases e with
    | normal => exact kCode_sound hm hn0 hd0 Ds y Q Q' st a w hd.2 hq hon hQ
    | _ => exact hQ _ _ _ _ hq hon
  | .cond c x y, Q, Q', st, a, w, hd, h, hon, hQ => by
    simp only [dstOk, Bool.and_eq_true] at hd
    simp only [kCode] at h
    split at h
    · rename_i t ht
      have hev : a.eval c = .bool t := by
        obtain ⟨S, g, hR, _, _⟩ := hon
        have := hR.ev c
        rw [ht] at this
        exact rep_bool this
      exact wp_cond_split hev (fun e => kCode_sound hm hn0 hd0 Ds x Q Q' st a w hd.1 (h.1 e) hon hQ) (fun e => kCode_sound hm hn0 hd0 Ds y Q Q' st a w hd.2 (h.2 e) hon hQ)
    · exact h.elim
  | .block id c, Q, Q', st, a, w, hd, h, hon, hQ => by
    refine wp_block (kCode_sound hm hn0 hd0 Ds c _ _ st a w hd h hon fun e st a w hq hon => ?_)
    cases e with
    | exit id' =>
      simp only [Exit.inBlock]
      simp only at hq
      split at hq
      · rename_i e; rw [if_pos e]; exact hQ _ _ _ _ hq hon
      · rename_i e; rw [if_neg e]; exact hQ _ _ _ _ hq hon
    | _ => exact hQ _ _ _ _ hq hon
  | .loop c, Q, Q', st, a, w, hd, h, hon, hQ => by
    obtain ⟨I, μ, ⟨st1, hent, hI⟩, hround⟩ := h
    have hon := hent _ _ _ _ _ _ _ hn0 hd0 hon
    have key : ∀ n st a w, μ st = n → I st → On S0 w0 g0 m0 N st a w → ∀ (b : Frame) (k : List Item) (cs : List Frame),
        ∃ e a' w', Q' e a' w' ∧ Arrives P (lone (b.at a (.code c :: .inLoop c :: k)) cs w) b k cs e a' w' := by
      intro n
      induction n using Nat.strongRecOn with
      | _ n ih =>
        intro st a w hn hIs hon b k cs
        have hwp := kCode_sound hm hn0 hd0 Ds c _ (Exit.then (fun a' w' => ∃ st'', On S0 w0 g0 m0 N st'' a' w' ∧ I st'' ∧ μ st'' < μ st) Q') st a w hd (hround st hIs) hon (fun e st' a w hq hon => by
          cases e with
          | normal =>
            obtain ⟨st'', h1, h2, h3⟩ := hq
            exact ⟨st'', h1 _ _ _ _ _ _ _ hn0 hd0 hon, h2, h3⟩
          | _ => exact hQ _ _ _ _ hq hon)
        obtain ⟨e, a₁, w₁, hq, harr⟩ := hwp b (.inLoop c :: k) cs
        cases e with
        | normal =>
          obtain ⟨st'', hon'', hI'', hlt⟩ := hq
          obtain ⟨e₂, a₂, w₂, hq₂, harr₂⟩ := ih (μ st'') (hn ▸ hlt) st'' a₁ w₁ rfl hI'' hon'' b k cs
          exact ⟨e₂, a₂, w₂, hq₂, .of_steps (Steps.trans harr (.one step_inLoop)) harr₂⟩
        | exit id => exact ⟨_, a₁, w₁, hq, .pass (x := .inLoop c) rfl (fun _ _ => .inl (by simp)) harr⟩
        | goto l => exact ⟨_, a₁, w₁, hq, .pass (x := .inLoop c) rfl (fun _ _ => .inl (by simp)) harr⟩
        | ret => exact ⟨_, a₁, w₁, hq, .pass (x := .inLoop c) rfl (fun _ _ => .inl (by simp)) harr⟩
        | panic ch => exact ⟨_, a₁, w₁, hq, .pass (x := .inLoop c) rfl (fun _ _ => .inl (by simp)) harr⟩
        | outgrown => exact ⟨_, a₁, w₁, hq, .pass (x := .inLoop c) rfl (fun _ _ => .inl (by simp)) harr⟩
    intro b k cs
    obtain ⟨e, a', w', hq, harr⟩ := key _ st1 a w rfl hI hon b k cs
    exact ⟨e, a', w', hq, .of_steps (.one step_loop) harr⟩
  | .exit id, Q, Q', st, a, w, _, h, hon, hQ => wp_exit (hQ _ _ _ _ h hon)
  | .ret, Q, Q', st, a, w, _, h, hon, hQ => wp_ret (hQ _ _ _ _ h hon)
  | .rangeFunc .., _, _, _, _, _, _, h, _, _ => h.elim
  | .scope _, _, _, _, _, _, _, h, _, _ => h.elim
  | .label _, _, _, _, _, _, _, h, _, _ => h.elim
  | .goto _, _, _, _, _, _, _, h, _, _ => h.elim
  | .refuse _, _, _, _, _, _, _, h, _, _ => h.elim

theorem Ent.sub {n : Nat} {st st' : St} (h : Sub st st') : Ent n st st' := fun _ _ _ _ _ _ _ _ _ ho => ho.sub h
end

/- Functions. -/
/-- The results, read at the end. -/
def kRes (P : Program) (st : St) : List ResultVar → (List AVal → Prop) → Prop
  | [], K => K []
  | .tmp t :: rs, K => kRes P st rs fun vs => K (lk st.t t :: vs)
  | .cell t ty :: rs, K => kLoad P ty (lk st.t t) st.m fun v => kRes P st rs fun vs => K (v :: vs)
def resV : List AVal → AVal
  | [v] => v
  | vs => .tup vs
/-- What one value, in one memory, says, another one says in another memory. -/
def EntV (n : Nat) (r : AVal) (m : List Blk) (r' : AVal) (m' : List Blk) : Prop := ∀ (S0 : Nat → Prop) (w0 : World) (g0 : Ghost) (m0 : List Blk) (S : Nat → Prop) (w : World) (g : Ghost) (u : Value), m0.length = n → (∀ b, n ≤ b → g0 b = none) →
  Inv S w g m → Rep S w g r u → GLe g0 g → Chg S0 w0 (Open g0 m0) S w g m → ∃ S' g', Inv S' w g' m' ∧ Rep S' w g' r' u ∧ GLe g0 g' ∧ Chg S0 w0 (Open g0 m0) S' w g' m'
theorem EntV.refl (n : Nat) (r : AVal) (m : List Blk) : EntV n r m r m := fun _ _ _ _ S _ g _ _ _ h1 h2 h3 h4 => ⟨S, g, h1, h2, h3, h4⟩
theorem EntV.trans {n : Nat} {r1 r2 r3 : AVal} {m1 m2 m3 : List Blk} (h : EntV n r1 m1 r2 m2) (k : EntV n r2 m2 r3 m3) : EntV n r1 m1 r3 m3 := fun S0 w0 g0 m0 S w g u hn hd h1 h2 h3 h4 => by
  obtain ⟨S', g', k1, k2, k3, k4⟩ := h S0 w0 g0 m0 S w g u hn hd h1 h2 h3 h4
  exact k S0 w0 g0 m0 S' w g' u hn hd k1 k2 k3 k4

/-- The end of a function: what is asked of its answer and of the memory then. -/
def kRet (P : Program) (rs : List ResultVar) (X : AVal → List Blk → Prop) : Exit → St → Prop
  | .normal, st => kRes P st rs fun vs => X (resV vs) st.m
  | .ret, st => kRes P st rs fun vs => X (resV vs) st.m
  | _, _ => False

theorem lk_zip (args : List AVal) : ∀ (k t : Nat), lk ((args.zipIdx k).map fun x => (x.2, x.1)) t = if k ≤ t ∧ t < k + args.length then args.getD (t - k) .dead else .dead := by
  induction args with
  | nil => intro k t; simp [lk]
  | cons v args ih =>
    intro k t
    rw [List.zipIdx_cons, List.map_cons]
    simp only [lk]
    by_cases h : k = t
    · subst h; simp
    · rw [if_neg h, ih]
      by_cases h2 : k + 1 ≤ t ∧ t < k + 1 + args.length
      · rw [if_pos h2, if_pos (by simp only [List.length_cons]; omega)]
        have : t - k = (t - (k + 1)) + 1 := by omega
        rw [this]; rfl
      · rw [if_neg h2, if_neg (by simp only [List.length_cons]; omega)]

/-- A function's first state. -/
def St.enter (args : List AVal) (m : List Blk) : St := ⟨(args.zipIdx 0).map fun x => (x.2, x.1), m⟩

def resF (tmps : Array Value) : ResultVar → Sem Value
  | .tmp t => pure (tmps.getD t undef)
  | .cell x t => do loadVar t (← asAddr (tmps.getD x undef))

theorem kRes_sound {P : Program} {N : Nat} {S : Nat → Prop} {w : World} {g : Ghost} {st : St} {a : Act} (hR : Rel N S w g st a) : ∀ (rs : List ResultVar) (K : List AVal → Prop), kRes P st rs K →
    ∃ vs us, K vs ∧ (rs.mapM (resF a.tmps)).run P w = .ok us w ∧ us.length = vs.length ∧
      ∀ (j : Nat) (y : AVal), vs[j]? = some y → Rep S w g y (us.getD j undef) := by
  intro rs
  induction rs with
  | nil => intro K h; exact ⟨[], [], h, by simp, rfl, fun j y hj => by simp at hj⟩
  | cons r rs ih =>
    intro K h
    cases r with
    | tmp t =>
      obtain ⟨vs, us, hK, hr, hl, hv⟩ := ih _ h
      refine ⟨_ :: vs, a.tmps.getD t undef :: us, hK, ?_, by simp [hl], fun j y hj => ?_⟩
      · rw [List.mapM_cons]; simp [resF, hr]
      · cases j with
        | zero => simp at hj; subst hj; simpa using hR.tmp t
        | succ j => simpa using hv j y (by simpa using hj)
    | cell t ty =>
      obtain ⟨v, u, hK, hr0, hv0⟩ := kLoad_sound hR.inv h (hR.tmp t)
      obtain ⟨vs, us, hK, hr, hl, hv⟩ := ih _ hK
      refine ⟨v :: vs, u :: us, hK, ?_, by simp [hl], fun j y hj => ?_⟩
      · have hr1 : (do loadVar ty (← asAddr (a.tmps.getD t undef)) : Sem Value).run P w = .ok u w := by
          unfold Instr.loadAt Instr.sureAddr at hr0
          generalize a.tmps.getD t undef = z at hr0 ⊢
          match z, hr0 with
          | .pointer (some p), hr0 => simpa [asAddr] using hr0
        have hr2 : (resF a.tmps (.cell t ty)).run P w = .ok u w := hr1
        rw [List.mapM_cons]; simp [hr, hr2]
      · cases j with
        | zero => simp at hj; subst hj; simpa using hv0
        | succ j => simpa using hv j y (by simpa using hj)

theorem results_run {P : Program} {fn : Func} {tmps : Array Value} {w : World} {us : List Value}
    (h : (fn.results.toList.mapM (resF tmps)).run P w = .ok us w) :
    (results fn tmps).run P w = .ok (if us.length = 1 then us.getD 0 undef else .tuple us.toArray) w := by
  have e : results fn tmps = (do let vs ← fn.results.mapM (resF tmps); pure (if h : vs.size = 1 then vs[0] else .tuple vs)) := rfl
  rw [e, Array.mapM_eq_mapM_toList]
  simp [h]
  match us with
  | [] => rfl
  | [u] => simp
  | u :: v :: r => simp

/-- THE CONTRACT OF A FUNCTION, out of the walk of its body. -/
theorem runs_of_code {P : Program} (hm : P.follows .mixedOrders = true) {f : FuncId} {fn : Func} {c : Code} (Ds : Nat → Option (List Nat)) (hf : P.funcs[f]? = some fn) (hb : fn.body = some c) {args : List AVal} {m : List Blk} {r : AVal} {m' : List Blk}
    (hd : dstOk fn.ntmps Ds c = true) (hl : args.length ≤ fn.ntmps) {X : AVal → List Blk → Prop} (hX : ∀ r0 m1, X r0 m1 → EntV m.length r0 m1 r m') (h : kCode P m.length Ds c (kRet P fn.results.toList X) (St.enter args m)) : Runs P f args m r m' := by
  intro S w g vals hI hvl hv
  refine calls_of_wp hf hb ?_
  have hR : Rel fn.ntmps S w g (St.enter args m) { tmps := vals ++ Array.replicate (fn.ntmps - vals.size) undef, defers := [] } := by
    refine ⟨hI, rfl, by simp; omega, fun t => ?_⟩
    simp only [St.enter]
    rw [lk_zip]
    by_cases h : 0 ≤ t ∧ t < 0 + args.length
    · rw [if_pos h]
      have hlt : t < args.length := by omega
      have e : (vals ++ Array.replicate (fn.ntmps - vals.size) undef).getD t undef = vals.getD t undef := by
        rw [Array.getD_eq_getD_getElem?, Array.getD_eq_getD_getElem?, Array.getElem?_append_left (by omega)]
      rw [e]
      refine hv t _ ?_
      simp [List.getD, List.getElem?_eq_getElem hlt]
    · rw [if_neg h]; exact .dead _ _
  refine kCode_sound hm rfl hI.dom Ds c _ _ _ _ w hd h (On.refl hR) fun e st a w' hq hon => ?_
  have fin : ∀ K, kRes P st fn.results.toList K → (∀ vs, K vs → EntV m.length (resV vs) st.m r m') → a.defers = [] ∧ ∃ v, (results fn a.tmps).run P w' = .ok v w' ∧ ∃ u S' g', Ending.returned v = .returned u ∧ After S w g m S' w' g' m' r u := fun K hq hK => by
    obtain ⟨S1, g1, hR1, hle, hchg⟩ := hon
    obtain ⟨vs, us, hKv, hr, hlen, hrep⟩ := kRes_sound hR1 _ _ hq
    have hres := results_run hr
    have hrv : Rep S1 w' g1 (resV vs) (if us.length = 1 then us.getD 0 undef else .tuple us.toArray) := by
      unfold resV
      split
      · rename_i v
        rw [if_pos (by simpa using hlen)]
        exact hrep 0 v rfl
      · rename_i h1
        have : ¬ us.length = 1 := fun e => by
          rw [e] at hlen
          obtain ⟨v, hv⟩ := List.length_eq_one_iff.1 hlen.symm
          exact h1 v hv
        rw [if_neg this]
        exact .tup _ _ _ (by simpa using hlen) fun j y hj => by simpa [List.getD] using hrep j y hj
    obtain ⟨S2, g2, k1, k2, k3, k4⟩ := hK vs hKv S w g m S1 w' g1 _ rfl hI.dom hR1.inv hrv hle hchg
    exact ⟨hR1.defers, _, hres, _, S2, g2, rfl, k1, k2, k3, k4⟩
  cases e with
  | normal => exact fin _ hq fun _ h => hX _ _ h
  | ret => exact fin _ hq fun _ h => hX _ _ h
  | _ => exact hq.elim
end Go.Awp

/- Contracts carried into greater memories; weakenings. -/
namespace Go.Awp
mutual
/-- No block's name in it. -/
def AVal.cl : AVal → Bool
  | .ptr .. => false
  | .spt .. => false
  | .sl .. => false
  | .mp .. => false
  | .agg cs => AVal.clL cs
  | .tup cs => AVal.clL cs
  | .fn _ cs ds => AVal.clL cs && AVal.clL ds
  | .ifc _ v => v.cl
  | _ => true
def AVal.clL : List AVal → Bool
  | [] => true
  | v :: vs => v.cl && AVal.clL vs
end
mutual
/-- Nothing but numbers, truth values and texts: it says the same in every world. -/
def AVal.sc : AVal → Bool
  | .bool _ => true
  | .int _ _ => true
  | .str _ => true
  | .nil => true
  | .nils => true
  | .nilfn => true
  | .nilif => true
  | .nilm => true
  | .agg cs => AVal.scL cs
  | .tup cs => AVal.scL cs
  | _ => false
def AVal.scL : List AVal → Bool
  | [] => true
  | v :: vs => v.sc && AVal.scL vs
end
theorem clL_get {l : List AVal} (h : AVal.clL l = true) {j : Nat} {y : AVal} (hj : l[j]? = some y) : y.cl = true := by
  induction l generalizing j with
  | nil => simp at hj
  | cons a l ih =>
    simp only [AVal.clL, Bool.and_eq_true] at h
    cases j with
    | zero => simp at hj; subst hj; exact h.1
    | succ j => exact ih h.2 (by simpa using hj)
theorem scL_get {l : List AVal} (h : AVal.scL l = true) {j : Nat} {y : AVal} (hj : l[j]? = some y) : y.sc = true := by
  induction l generalizing j with
  | nil => simp at hj
  | cons a l ih =>
    simp only [AVal.scL, Bool.and_eq_true] at h
    cases j with
    | zero => simp at hj; subst hj; exact h.1
    | succ j => exact ih h.2 (by simpa using hj)
section
variable {P : Program} {S : Nat → Prop} {w : World} {g : Ghost} {m : List Blk}

theorem Rep.cl {x : AVal} {v : Value} (h : Rep S w g x v) : x.cl = true → Rep S w noG x v := by
  induction h with
  | bool g b => intro _; exact .bool _ _
  | int g k n => intro _; exact .int _ _ _
  | str g s => intro _; exact .str _ _
  | nil g => intro _; exact .nil _
  | ptr g b off x c hb hc hl => intro h; simp [AVal.cl] at h
  | ept g cs off blk base f hS' h1 hc hr ih => intro _; exact .ept _ cs off blk base f hS' h1 hc hr
  | spt g b len i off x v hp hb hle hv => intro h; simp [AVal.cl] at h
  | nils g => intro _; exact .nils _
  | imm0 g sz a cap => intro _; exact .imm0 _ _ _ _
  | imm g sz rows blk base len cap f hS' hlen hcap hw' h1 hc hr ih => intro _; exact .imm _ sz rows blk base len cap f hS' hlen hcap hw' h1 hc hr
  | sl g b len x v hp hb hle hv => intro h; simp [AVal.cl] at h
  | agg g cs arr hl h1 hr ih => intro h; simp only [AVal.cl] at h; exact .agg _ cs arr hl h1 fun j y hj => ih j y hj (clL_get h hj)
  | tup g cs arr hl hr ih => intro h; simp only [AVal.cl] at h; exact .tup _ cs arr hl fun j y hj => ih j y hj (clL_get h hj)
  | fn g f cs ds ar br hl hr hl' hr' ih ih' =>
    intro h
    simp only [AVal.cl, Bool.and_eq_true] at h
    exact .fn _ f cs ds ar br hl (fun j y hj => ih j y hj (clL_get h.1 hj)) hl' (fun j y hj => ih' j y hj (clL_get h.2 hj))
  | nilfn g => intro _; exact .nilfn _
  | nilif g => intro _; exact .nilif _
  | ifc g t x v hr ih => intro h; simp only [AVal.cl] at h; exact .ifc _ t _ v (ih h)
  | dead g v => intro _; exact .dead _ _
  | mp g b x c hb hc hl => intro h; simp [AVal.cl] at h
  | nilm g => intro _; exact .nilm _

theorem Rep.sc {S' : Nat → Prop} {w' : World} {g' : Ghost} {x : AVal} {v : Value} (h : Rep S w g x v) : x.sc = true → Rep S' w' g' x v := by
  induction h with
  | bool g b => intro _; exact .bool _ _
  | int g k n => intro _; exact .int _ _ _
  | str g s => intro _; exact .str _ _
  | nil g => intro _; exact .nil _
  | nils g => intro _; exact .nils _
  | nilfn g => intro _; exact .nilfn _
  | nilif g => intro _; exact .nilif _
  | agg g cs arr hl h1 hr ih => intro h; simp only [AVal.sc] at h; exact .agg _ cs arr hl h1 fun j y hj => ih j y hj (scL_get h hj)
  | tup g cs arr hl hr ih => intro h; simp only [AVal.sc] at h; exact .tup _ cs arr hl fun j y hj => ih j y hj (scL_get h hj)
  | ptr g b off x c hb hc hl => intro h; simp [AVal.sc] at h
  | ept g cs off blk base f hS' h1 hc hr ih => intro h; simp [AVal.sc] at h
  | spt g b len i off x v hp hb hle hv => intro h; simp [AVal.sc] at h
  | imm0 g sz a cap => intro h; simp [AVal.sc] at h
  | imm g sz rows blk base len cap f hS' hlen hcap hw' h1 hc hr ih => intro h; simp [AVal.sc] at h
  | sl g b len x v hp hb hle hv => intro h; simp [AVal.sc] at h
  | fn g f cs ds ar br hl hr hl' hr' ih ih' => intro h; simp [AVal.sc] at h
  | ifc g t x v hr ih => intro h; simp [AVal.sc] at h
  | dead g v => intro h; simp [AVal.sc] at h
  | mp g b x c hb hc hl => intro h; simp [AVal.sc] at h
  | nilm g => intro _; exact .nilm _

theorem Inv.nil (h : ∀ c, S c → c < w.heap.size) : Inv S w noG [] := ⟨fun _ _ => rfl, fun _ _ => rfl, fun b k h => by simp at h, fun b b' k k' x x' c h => by simp at h, h⟩
theorem Open.nil {c : Nat} : ¬ Open g [] c := fun ⟨b, k, x, h, _⟩ => by simp at h

/-- What a function of no memory does in whatever memory. -/
theorem Runs.lift {f : FuncId} {args : List AVal} {r : AVal} (h : Runs P f args [] r []) (hc : AVal.clL args = true) (m : List Blk) : Runs P f args m r m := by
  intro S w g vals hI hl hv
  refine (h S w noG vals (Inv.nil hI.low) hl fun j y hj => (hv j y hj).cl (clL_get hc hj)).mono fun e w' he => ?_
  obtain ⟨u, S', g', rfl, hA⟩ := he
  have hg : g' = noG := funext fun b => hA.inv.dom b (Nat.zero_le _)
  subst hg
  have hk : ∀ c, c < w.heap.size → w'.heap[c]? = w.heap[c]? := fun c hc => hA.chg.keep c hc Open.nil
  have hb : ∀ c, S' c → S c ∨ w.heap.size ≤ c := fun c hc => by
    rcases hA.chg.back c hc with h | h | h
    · exact .inl h
    · exact absurd h Open.nil
    · exact .inr h
  exact ⟨u, S', g, rfl, hI.keep hk hA.chg.up hb hA.inv.low, hA.rep.mono_g (noG_le g), GLe.refl g,
    ⟨hA.chg.os, hA.chg.tape, hA.chg.output, hA.chg.size, fun c hc _ => hk c hc, hA.chg.up, fun c hc => (hb c hc).imp id .inr, fun c hc => .inl hc⟩⟩

/-- Slices of the call's own, handed to a function that answers with a plain value: they stay the call's own. -/
theorem Runs.look {f : FuncId} {args : List AVal} {r : AVal} {m : List Blk} (h : Runs P f (AVal.viewL m args) [] r []) (hc : AVal.clL (AVal.viewL m args) = true) (hr : r.sc = true) : Runs P f args m r m := by
  intro S w g vals hI hl hv
  have hx : Rep S w g (.tup args) (.tuple vals) := .tup _ _ _ hl hv
  obtain ⟨S1, hI1, hx1, hS1, hchg⟩ := freeze_sound hI _ hx
  rw [AVal.view] at hx1
  cases hx1 with
  | tup g _ arr hl' hr' =>
  refine (h S1 w noG vals (Inv.nil hI1.low) hl' fun j y hj => (hr' j y hj).cl (clL_get hc hj)).mono fun e w' he => ?_
  obtain ⟨u, S', g', rfl, hA⟩ := he
  have hk : ∀ c, c < w.heap.size → w'.heap[c]? = w.heap[c]? := fun c hc => hA.chg.keep c hc Open.nil
  exact ⟨u, S, g, rfl, hI.keep hk (fun _ h => h) (fun _ h => .inl h) (fun c hc => Nat.lt_of_lt_of_le (hI.low c hc) hA.chg.size), hA.rep.sc hr, GLe.refl g,
    ⟨hA.chg.os, hA.chg.tape, hA.chg.output, hA.chg.size, fun c hc _ => hk c hc, fun _ h => h, fun c hc => .inl hc, fun c hc => .inl hc⟩⟩

/-- Slices of the call's own, handed to a function whose answer may share them: they are stable from then on. -/
theorem Runs.give {f : FuncId} {args : List AVal} {r : AVal} {m : List Blk} (h : Runs P f (AVal.viewL m args) [] r []) (hc : AVal.clL (AVal.viewL m args) = true) : Runs P f args m r (frzL m (AVal.slIdsL args)) := by
  intro S w g vals hI hl hv
  have hx : Rep S w g (.tup args) (.tuple vals) := .tup _ _ _ hl hv
  obtain ⟨S1, hI1, hx1, hS1, hchg⟩ := freeze_sound hI _ hx
  rw [AVal.view] at hx1
  simp only [AVal.slIds] at hI1 hchg
  cases hx1 with
  | tup g _ arr hl' hr' =>
  refine (h.lift hc (frzL m (AVal.slIdsL args)) S1 w g vals hI1 hl' hr').mono fun e w' he => ?_
  obtain ⟨u, S', g', rfl, hA⟩ := he
  exact ⟨u, S', g', rfl, After.trans hchg (GLe.refl g) hA⟩

/-- At the end: the call's own blocks are forgotten, where the value names none of them. -/
theorem EntV.drop {r : AVal} {m : List Blk} (hc : r.cl = true) : EntV 0 r m r [] := by
  intro S0 w0 g0 m0 S w g u hn hd hI hr hle hchg
  exact ⟨S, noG, Inv.nil hI.low, hr.cl hc, fun b x hb => (by rw [hd b (Nat.zero_le _)] at hb; cases hb), hchg.os, hchg.tape, hchg.output, hchg.size, hchg.keep, hchg.up, hchg.back, fun c hc => absurd hc Open.nil⟩

/-- At the end, where slices of the call's own are handed out as lists. -/
theorem EntV.out {r : AVal} {m : List Blk} (hc : (r.view m).cl = true) : EntV 0 r m (r.view m) [] := by
  refine EntV.trans (r2 := r.view m) (m2 := frzL m r.slIds) ?_ (EntV.drop hc)
  intro S0 w0 g0 m0 S w g u hn hd hI hr hle hchg
  obtain ⟨S', h1, h2, h3, h4⟩ := freeze_sound hI r hr
  exact ⟨S', g, h1, h2, hle, hchg.trans h4⟩
end

mutual
/-- The second tree says no more than the first one: a nil slice is a slice of no elements. -/
def Wk : AVal → AVal → Prop
  | .nils, y => y = .nils ∨ ∃ sz, y = .imm sz []
  | .agg cs, y => (match y with | .agg ds => WkL cs ds | _ => False)
  | .tup cs, y => (match y with | .tup ds => WkL cs ds | _ => False)
  | .imm sz rows, y => (match y with | .imm sz' rows' => sz = sz' ∧ WkL rows rows' | _ => False)
  | x, y => x = y
def WkL : List AVal → List AVal → Prop
  | [], ys => ys = []
  | x :: xs, ys => (match ys with | z :: zs => Wk x z ∧ WkL xs zs | [] => False)
end
theorem Wk_nils : Wk .nils .nils = True := by simp [Wk]
theorem Wk_nilimm {sz : Nat} {rows : List AVal} : Wk .nils (.imm sz rows) = (rows = []) := by simp [Wk]
theorem Wk_agg {cs ds : List AVal} : Wk (.agg cs) (.agg ds) = WkL cs ds := by simp [Wk]
theorem Wk_tup {cs ds : List AVal} : Wk (.tup cs) (.tup ds) = WkL cs ds := by simp [Wk]
theorem Wk_imm {sz sz' : Nat} {cs ds : List AVal} : Wk (.imm sz cs) (.imm sz' ds) = (sz = sz' ∧ WkL cs ds) := by simp [Wk]
theorem Wk_bool {b : Bool} {y : AVal} : Wk (.bool b) y = (.bool b = y) := by simp [Wk]
theorem Wk_int {k : IntKind} {n : Int} {y : AVal} : Wk (.int k n) y = (.int k n = y) := by simp [Wk]
theorem Wk_str {b : ByteArray} {y : AVal} : Wk (.str b) y = (.str b = y) := by simp [Wk]
theorem Wk_nil {y : AVal} : Wk .nil y = (.nil = y) := by simp [Wk]
theorem Wk_ptr {b o : Nat} {y : AVal} : Wk (.ptr b o) y = (.ptr b o = y) := by simp [Wk]
theorem Wk_sl {b o : Nat} {y : AVal} : Wk (.sl b o) y = (.sl b o = y) := by simp [Wk]
theorem Wk_fn {f : Fn} {cs ds : List AVal} {y : AVal} : Wk (.fn f cs ds) y = (.fn f cs ds = y) := by simp [Wk]
theorem Wk_nilfn {y : AVal} : Wk .nilfn y = (.nilfn = y) := by simp [Wk]
theorem Wk_nilif {y : AVal} : Wk .nilif y = (.nilif = y) := by simp [Wk]
theorem Wk_mp {b : Nat} {y : AVal} : Wk (.mp b) y = (.mp b = y) := by simp [Wk]
theorem Wk_nilm {y : AVal} : Wk .nilm y = (.nilm = y) := by simp [Wk]
theorem Wk_ept {cs : List AVal} {o : Nat} {y : AVal} : Wk (.ept cs o) y = (.ept cs o = y) := by simp [Wk]
theorem Wk_ifc {t : TypeId} {v y : AVal} : Wk (.ifc t v) y = (.ifc t v = y) := by simp [Wk]
theorem WkL_nil {ys : List AVal} : WkL [] ys = (ys = []) := by simp [WkL]
theorem WkL_cons {x z : AVal} {xs zs : List AVal} : WkL (x :: xs) (z :: zs) = (Wk x z ∧ WkL xs zs) := by simp [WkL]
theorem WkL_cons' {x : AVal} {xs ys : List AVal} (h : WkL (x :: xs) ys) : ∃ z zs, ys = z :: zs ∧ Wk x z ∧ WkL xs zs := by
  cases ys with
  | nil => simp [WkL] at h
  | cons z zs => rw [WkL_cons] at h; exact ⟨z, zs, rfl, h⟩
theorem Wk_agg' {cs : List AVal} {y : AVal} (h : Wk (.agg cs) y) : ∃ ds, y = .agg ds ∧ WkL cs ds := by
  cases y <;> simp [Wk] at h; exact ⟨_, rfl, h⟩
theorem Wk_tup' {cs : List AVal} {y : AVal} (h : Wk (.tup cs) y) : ∃ ds, y = .tup ds ∧ WkL cs ds := by
  cases y <;> simp [Wk] at h; exact ⟨_, rfl, h⟩
theorem Wk_imm' {sz : Nat} {cs : List AVal} {y : AVal} (h : Wk (.imm sz cs) y) : ∃ ds, y = .imm sz ds ∧ WkL cs ds := by
  cases y <;> simp [Wk] at h; obtain ⟨rfl, h⟩ := h; exact ⟨_, rfl, h⟩
theorem WkL.get {xs ys : List AVal} (h : WkL xs ys) : xs.length = ys.length ∧ ∀ {j : Nat} {y : AVal}, ys[j]? = some y → ∃ x, xs[j]? = some x ∧ Wk x y := by
  induction xs generalizing ys with
  | nil => simp only [WkL] at h; subst h; exact ⟨rfl, fun h => by simp at h⟩
  | cons x xs ih =>
    obtain ⟨z, zs, rfl, h1, h2⟩ := WkL_cons' h
    obtain ⟨k1, k2⟩ := ih h2
    refine ⟨by simp [k1], fun {j y} hj => ?_⟩
    cases j with
    | zero => simp at hj; subst hj; exact ⟨x, rfl, h1⟩
    | succ j => obtain ⟨x', h3, h4⟩ := k2 (j := j) (y := y) (by simpa using hj); exact ⟨x', by simpa using h3, h4⟩
theorem Wk.cells {x y : AVal} (h : Wk x y) : WkL x.cells y.cells := by
  cases x
  case agg cs => obtain ⟨ds, rfl, h1⟩ := Wk_agg' h; exact h1
  case nils => simp only [Wk] at h; rcases h with rfl | ⟨sz, rfl⟩ <;> simp [AVal.cells, WkL, Wk]
  case tup cs => obtain ⟨ds, rfl, h1⟩ := Wk_tup' h; simp [AVal.cells, WkL, Wk, h1]
  case imm sz rows => obtain ⟨ds, rfl, h1⟩ := Wk_imm' h; simp [AVal.cells, WkL, Wk, h1]
  all_goals (simp only [Wk] at h; subst h; simp [AVal.cells, WkL, Wk])
theorem Rep.wk {S : Nat → Prop} {w : World} {g : Ghost} {x : AVal} {v : Value} (h : Rep S w g x v) : ∀ y, Wk x y → Rep S w g y v := by
  induction h with
  | nils g => intro y h; simp only [Wk] at h; rcases h with rfl | ⟨sz, rfl⟩; exact .nils _; exact .imm0 _ _ _ _
  | agg g cs arr hl h1 hr ih =>
    intro y h
    obtain ⟨ds, rfl, h0⟩ := Wk_agg' h
    obtain ⟨k1, k2⟩ := h0.get
    refine .agg _ _ arr (by omega) h1 fun j y hj => ?_
    obtain ⟨x, q1, q2⟩ := k2 hj
    exact ih j x q1 y q2
  | tup g cs arr hl hr ih =>
    intro y h
    obtain ⟨ds, rfl, h0⟩ := Wk_tup' h
    obtain ⟨k1, k2⟩ := h0.get
    refine .tup _ _ arr (by omega) fun j y hj => ?_
    obtain ⟨x, q1, q2⟩ := k2 hj
    exact ih j x q1 y q2
  | imm0 g sz a cap =>
    intro y h
    obtain ⟨ds, rfl, h0⟩ := Wk_imm' h
    simp only [WkL] at h0
    subst h0
    exact .imm0 _ _ _ _
  | imm g sz rows blk base len cap f hS' hlen hcap hw' h1 hc hr ih =>
    intro y h
    obtain ⟨ds, rfl, h0⟩ := Wk_imm' h
    obtain ⟨k1, k2⟩ := h0.get
    refine .imm _ sz _ blk base len cap f hS' (by omega) hcap (fun i r hi => ?_) h1 (fun i r j y hi hj => ?_) (fun i r j y hi hj => ?_)
    · obtain ⟨x, q1, q2⟩ := k2 hi
      rw [← hw' i x q1]; exact q2.cells.get.1.symm
    · obtain ⟨x, q1, q2⟩ := k2 hi
      obtain ⟨x', q3, q4⟩ := q2.cells.get.2 hj
      exact hc i x j x' q1 q3
    · obtain ⟨x, q1, q2⟩ := k2 hi
      obtain ⟨x', q3, q4⟩ := q2.cells.get.2 hj
      exact ih i x j x' q1 q3 y q4
  | bool g b => intro y h; simp only [Wk] at h; subst h; exact .bool _ _
  | int g k n => intro y h; simp only [Wk] at h; subst h; exact .int _ _ _
  | str g s => intro y h; simp only [Wk] at h; subst h; exact .str _ _
  | nil g => intro y h; simp only [Wk] at h; subst h; exact .nil _
  | ptr g b off x c hb hc hl => intro y h; simp only [Wk] at h; subst h; exact .ptr _ _ _ x c hb hc hl
  | ept g cs off blk base f hS' h1 hc hr ih => intro y h; simp only [Wk] at h; subst h; exact .ept _ _ _ blk base f hS' h1 hc hr
  | spt g b len i off x v hp hb hle hv => intro y h; simp only [Wk] at h; subst h; exact .spt _ _ _ _ _ x _ hp hb hle hv
  | sl g b len x v hp hb hle hv => intro y h; simp only [Wk] at h; subst h; exact .sl _ _ _ x _ hp hb hle hv
  | fn g f cs ds ar br hl hr hl' hr' ih ih' => intro y h; simp only [Wk] at h; subst h; exact .fn _ _ _ _ _ _ hl hr hl' hr'
  | nilfn g => intro y h; simp only [Wk] at h; subst h; exact .nilfn _
  | nilif g => intro y h; simp only [Wk] at h; subst h; exact .nilif _
  | ifc g t x v hr ih => intro y h; simp only [Wk] at h; subst h; exact .ifc _ _ _ _ hr
  | dead g v => intro y h; simp only [Wk] at h; subst h; exact .dead _ _
  | mp g b x c hb hc hl => intro y h; simp only [Wk] at h; subst h; exact .mp _ _ x c hb hc hl
  | nilm g => intro y h; simp only [Wk] at h; subst h; exact .nilm _
mutual
theorem Wk.refl : (x : AVal) → Wk x x
  | .agg cs => by rw [Wk_agg]; exact WkL.refl cs
  | .tup cs => by rw [Wk_tup]; exact WkL.refl cs
  | .imm sz rows => by rw [Wk_imm]; exact ⟨rfl, WkL.refl rows⟩
  | .nils => by simp [Wk]
  | .bool _ | .int _ _ | .str _ | .nil | .ptr _ _ | .ept _ _ | .spt _ _ _ _ | .sl _ _ | .fn _ _ _ | .nilfn | .nilif | .ifc _ _ | .dead | .mp _ | .nilm => by simp [Wk]
theorem WkL.refl : (l : List AVal) → WkL l l
  | [] => by simp [WkL]
  | x :: xs => by rw [WkL_cons]; exact ⟨Wk.refl x, WkL.refl xs⟩
end
@[simp high] theorem Wk_refl (x : AVal) : Wk x x = True := eq_true (Wk.refl x)
@[simp high] theorem WkL_refl (l : List AVal) : WkL l l = True := eq_true (WkL.refl l)
theorem EntV.wk {n : Nat} {r r' : AVal} {m : List Blk} (h : Wk r r') : EntV n r m r' m := fun _ _ _ _ S _ g _ _ _ h1 h2 h3 h4 => ⟨S, g, h1, h2.wk _ h, h3, h4⟩
theorem Runs.wk {P : Program} {f : FuncId} {args args' : List AVal} {m m' : List Blk} {r : AVal} (h : Runs P f args' m r m') (hw : WkL args args') : Runs P f args m r m' := by
  intro S w g vals hI hl hv
  obtain ⟨k1, k2⟩ := hw.get
  refine h S w g vals hI (by omega) fun j y hj => ?_
  obtain ⟨x, q1, q2⟩ := k2 hj
  exact (hv j x q1).wk _ q2

/-- The end of a function that leaves no memory: its answer, its own slices as lists. -/
def EndIs (r : AVal) (r0 : AVal) (m : List Blk) : Prop := (r0.view m).cl = true ∧ Wk (r0.view m) r
theorem runs_pure {P : Program} (hm : P.follows .mixedOrders = true) {f : FuncId} {fn : Func} {c : Code} (Ds : Nat → Option (List Nat)) (hf : P.funcs[f]? = some fn) (hb : fn.body = some c) {args : List AVal} {r : AVal}
    (hd : dstOk fn.ntmps Ds c = true) (hl : args.length ≤ fn.ntmps) (h : kCode P 0 Ds c (kRet P fn.results.toList (EndIs r)) (St.enter args [])) : Runs P f args [] r [] :=
  runs_of_code hm Ds hf hb hd hl (fun _ _ ⟨h1, h2⟩ => (EntV.out h1).trans (EntV.wk h2)) h
end Go.Awp
