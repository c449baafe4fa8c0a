import Derived.Below
import Derived.Deep.Quiet
import Derived.Laws.AppendOwn
import Derived.Laws.OwnMore
import Derived.Laws.Slices
import Derived.ChangeKeysEq
import Derived.Laws.StructEq
import Derived.Laws.MakeOwn
import Derived.MapKept
import Derived.WideKeyRuns
/- The abstract walk over the program's form: trees, memory and operations, each proved sound; for every program. -/
/- Values as trees, an abstract memory, and what they say of a world: the ground of the abstract walk. -/
namespace Go.Awp
open Go.RowKit (Below)

inductive AVal where
  | bool (b : Bool)
  | int (k : IntKind) (n : Int)
  | str (s : ByteArray)
  | nil
  | ptr (b off : Nat)
  | ept (cs : List AVal) (off : Nat)
  | spt (b len i off : Nat)
  | nils
  | imm (sz : Nat) (rows : List AVal)
  | sl (b len : Nat)
  | agg (cs : List AVal)
  | tup (vs : List AVal)
  | fn (f : Fn) (first captured : List AVal)
  | nilfn
  | nilif
  | ifc (t : TypeId) (v : AVal)
  | dead
  | mp (b : Nat)
  | nilm
  deriving Inhabited

def AVal.cells : AVal → List AVal
  | .agg cs => cs
  | v => [v]

structure Inf where
  box : Bool
  car : Option Nat
  sz : Nat
  len : Nat
  cap : Nat
  cur : Value

abbrev Ghost := Nat → Option Inf
def noG : Ghost := fun _ => none

/-- What a tree says of a value in a world: S: the blocks that nobody writes any more; the ghost: the blocks of the abstract memory. -/
inductive Rep (S : Nat → Prop) (w : World) : Ghost → AVal → Value → Prop
  | bool (g : Ghost) (b : Bool) : Rep S w g (.bool b) (.bool b)
  | int (g : Ghost) (k : IntKind) (n : Int) : Rep S w g (.int k n) (.int k n)
  | str (g : Ghost) (s : ByteArray) : Rep S w g (.str s) (.string s)
  | nil (g : Ghost) : Rep S w g .nil (.pointer none)
  | ptr (g : Ghost) (b off : Nat) (x : Inf) (c : Nat) (hb : g b = some x) (hc : x.car = some c) (hl : x.box = true) : Rep S w g (.ptr b off) (.pointer (some ⟨c, off, none⟩))
  | ept (g : Ghost) (cs : List AVal) (off blk base : Nat) (f : Nat → Value) (hS : S blk) (h1 : ∀ j : Nat, (f j).oneCell' = true) (hc : ∀ (j : Nat) (y : AVal), cs[j]? = some y → w.cell? ⟨blk, base + j, none⟩ = some (f j))
      (hr : ∀ (j : Nat) (y : AVal), cs[j]? = some y → Rep S w noG y (f j)) : Rep S w g (.ept cs off) (.pointer (some ⟨blk, base + off, none⟩))
  | spt (g : Ghost) (b len i off : Nat) (x : Inf) (v : Value) (hp : ∃ p, v = .pointer p) (hb : g b = some x) (hle : len ≤ x.len)
      (hv : x.len = len → ∃ c, x.car = some c ∧ v = .pointer (some ⟨c, i * x.sz + off, none⟩)) : Rep S w g (.spt b len i off) v
  | nils (g : Ghost) : Rep S w g .nils (.slice none 0 0)
  | imm0 (g : Ghost) (sz : Nat) (a : Option Addr) (cap : Nat) : Rep S w g (.imm sz []) (.slice a 0 cap)
  | imm (g : Ghost) (sz : Nat) (rows : List AVal) (blk base len cap : Nat) (f : Nat → Nat → Value) (hS : S blk) (hlen : len = rows.length) (hcap : len ≤ cap)
      (hw : ∀ (i : Nat) (r : AVal), rows[i]? = some r → r.cells.length = sz) (h1 : ∀ (i j : Nat), (f i j).oneCell' = true)
      (hc : ∀ (i : Nat) (r : AVal) (j : Nat) (y : AVal), rows[i]? = some r → r.cells[j]? = some y → w.cell? ⟨blk, base + i * sz + j, none⟩ = some (f i j))
      (hr : ∀ (i : Nat) (r : AVal) (j : Nat) (y : AVal), rows[i]? = some r → r.cells[j]? = some y → Rep S w noG y (f i j)) : Rep S w g (.imm sz rows) (.slice (some ⟨blk, base, none⟩) len cap)
  | sl (g : Ghost) (b len : Nat) (x : Inf) (v : Value) (hp : ∃ a l c, v = .slice a l c) (hb : g b = some x) (hle : len ≤ x.len) (hv : x.len = len → v = x.cur) : Rep S w g (.sl b len) v
  | agg (g : Ghost) (cs : List AVal) (arr : Array Value) (hl : arr.size = cs.length) (h1 : ∀ u ∈ arr, u.oneCell' = true) (hr : ∀ (j : Nat) (y : AVal), cs[j]? = some y → Rep S w g y (arr.getD j undef)) : Rep S w g (.agg cs) (.agg arr)
  | tup (g : Ghost) (cs : List AVal) (arr : Array Value) (hl : arr.size = cs.length) (hr : ∀ (j : Nat) (y : AVal), cs[j]? = some y → Rep S w g y (arr.getD j undef)) : Rep S w g (.tup cs) (.tuple arr)
  | fn (g : Ghost) (f : Fn) (cs ds : List AVal) (ar br : Array Value) (hl : ar.size = cs.length) (hr : ∀ (j : Nat) (y : AVal), cs[j]? = some y → Rep S w g y (ar.getD j undef))
      (hl' : br.size = ds.length) (hr' : ∀ (j : Nat) (y : AVal), ds[j]? = some y → Rep S w g y (br.getD j undef)) : Rep S w g (.fn f cs ds) (.func f ar br)
  | nilfn (g : Ghost) : Rep S w g .nilfn .nilFunc
  | nilif (g : Ghost) : Rep S w g .nilif .nilIface
  | ifc (g : Ghost) (t : TypeId) (x : AVal) (v : Value) (hr : Rep S w g x v) : Rep S w g (.ifc t x) (.iface t v)
  | dead (g : Ghost) (v : Value) : Rep S w g .dead v
  | mp (g : Ghost) (b : Nat) (x : Inf) (c : Nat) (hb : g b = some x) (hc : x.car = some c) (hl : x.box = true) : Rep S w g (.mp b) (.map (some c))
  | nilm (g : Ghost) : Rep S w g .nilm (.map none)

def InfLe (x x' : Inf) : Prop := x'.sz = x.sz ∧ x.len ≤ x'.len ∧ (x'.len = x.len → x' = x) ∧ (x.box = true → x' = x)
theorem InfLe.refl (x : Inf) : InfLe x x := ⟨rfl, Nat.le_refl _, fun _ => rfl, fun _ => rfl⟩
theorem InfLe.trans {x y z : Inf} (h : InfLe x y) (k : InfLe y z) : InfLe x z :=
  ⟨k.1.trans h.1, Nat.le_trans h.2.1 k.2.1, fun e => by
    have h1 : y.len = x.len := by have := h.2.1; have := k.2.1; omega
    have h2 : z.len = y.len := by omega
    rw [k.2.2.1 h2, h.2.2.1 h1], fun e => by
    have h1 := h.2.2.2 e
    rw [k.2.2.2 (by rw [h1]; exact e), h1]⟩

/-- The renaming of blocks: from one ghost into another. -/
def GMap (σ : Nat → Nat) (g g' : Ghost) : Prop := ∀ b x, g b = some x → ∃ x', g' (σ b) = some x' ∧ InfLe x x'

mutual
def AVal.inst (σ : Nat → Nat) : AVal → AVal
  | .ptr b off => .ptr (σ b) off
  | .spt b len i off => .spt (σ b) len i off
  | .sl b len => .sl (σ b) len
  | .mp b => .mp (σ b)
  | .agg cs => .agg (AVal.instL σ cs)
  | .tup cs => .tup (AVal.instL σ cs)
  | .fn f cs ds => .fn f (AVal.instL σ cs) (AVal.instL σ ds)
  | .ifc t v => .ifc t (v.inst σ)
  | v => v
def AVal.instL (σ : Nat → Nat) : List AVal → List AVal
  | [] => []
  | v :: vs => v.inst σ :: AVal.instL σ vs
end

theorem instL_eq (σ : Nat → Nat) (l : List AVal) : AVal.instL σ l = l.map (AVal.inst σ) := by
  induction l with
  | nil => simp [AVal.instL]
  | cons a l ih => simp [AVal.instL, ih]

theorem instL_get {σ : Nat → Nat} {l : List AVal} {j : Nat} {y : AVal} (h : (AVal.instL σ l)[j]? = some y) : ∃ x, l[j]? = some x ∧ y = x.inst σ := by
  rw [instL_eq, List.getElem?_map] at h
  cases hl : l[j]? with
  | none => simp [hl] at h
  | some x => simp [hl] at h; exact ⟨x, rfl, h.symm⟩

def GLe (g g' : Ghost) : Prop := ∀ b x, g b = some x → ∃ x', g' b = some x' ∧ InfLe x x'
theorem GLe.refl (g : Ghost) : GLe g g := fun _ x h => ⟨x, h, .refl x⟩
theorem GLe.trans {a b c : Ghost} (h : GLe a b) (k : GLe b c) : GLe a c := fun i x hx => by
  obtain ⟨y, hy, h1⟩ := h i x hx
  obtain ⟨z, hz, h2⟩ := k i y hy
  exact ⟨z, hz, h1.trans h2⟩

theorem cell_keep {w w' : World} {c : Nat} (h : w'.heap[c]? = w.heap[c]?) {o : Nat} {u : Value} (hu : w.cell? ⟨c, o, none⟩ = some u) : w'.cell? ⟨c, o, none⟩ = some u := by
  rw [← hu]; exact World.cell?_of_block (w := w) h

/-- What is said stays said: in a later world, under more stable blocks, with more known of the blocks. -/
theorem Rep.mono {S S' : Nat → Prop} {w w' : World} (hS : ∀ c, S c → S' c) (hw : ∀ c, S c → w'.heap[c]? = w.heap[c]?) {g : Ghost} {x : AVal} {v : Value} (h : Rep S w g x v) :
    ∀ (g' : Ghost), GLe g g' → Rep S' w' g' x v := by
  induction h with
  | bool g b => intro g' _; exact .bool g' b
  | int g k n => intro g' _; exact .int g' k n
  | str g s => intro g' _; exact .str g' s
  | nil g => intro g' _; exact .nil g'
  | ptr g b off x c hb hc hl =>
    intro g' hg
    obtain ⟨x', hb', hx⟩ := hg b x hb
    obtain rfl := hx.2.2.2 hl
    exact .ptr g' b off x' c hb' hc hl
  | ept g cs off blk base f hS' h1 hc hr ih =>
    intro g' _
    exact .ept g' cs off blk base f (hS _ hS') h1 (fun j y hj => cell_keep (hw _ hS') (hc j y hj)) (fun j y hj => ih j y hj noG (GLe.refl _))
  | spt g b len i off x v hp hb hle hv =>
    intro g' hg
    obtain ⟨x', hb', hx⟩ := hg b x hb
    refine .spt g' b len i off x' v hp hb' (Nat.le_trans hle hx.2.1) fun e => ?_
    have h1 : x'.len = x.len := by have := hx.2.1; omega
    obtain rfl := hx.2.2.1 h1
    exact hv e
  | nils g => intro g' _; exact .nils g'
  | imm0 g sz a cap => intro g' _; exact .imm0 g' sz a cap
  | imm g sz rows blk base len cap f hS' hlen hcap hw' h1 hc hr ih =>
    intro g' _
    exact .imm g' sz rows blk base len cap f (hS _ hS') hlen hcap hw' h1 (fun i r j y k1 k2 => cell_keep (hw _ hS') (hc i r j y k1 k2)) (fun i r j y k1 k2 => ih i r j y k1 k2 noG (GLe.refl _))
  | sl g b len x v hp hb hle hv =>
    intro g' hg
    obtain ⟨x', hb', hx⟩ := hg b x hb
    refine .sl g' b len x' v hp hb' (Nat.le_trans hle hx.2.1) fun e => ?_
    have h1 : x'.len = x.len := by have := hx.2.1; omega
    obtain rfl := hx.2.2.1 h1
    exact hv e
  | agg g cs arr hl h1 hr ih => intro g' hg; exact .agg g' cs arr hl h1 fun j y hj => ih j y hj g' hg
  | tup g cs arr hl hr ih => intro g' hg; exact .tup g' cs arr hl fun j y hj => ih j y hj g' hg
  | fn g f cs ds ar br hl hr hl' hr' ih ih' => intro g' hg; exact .fn g' f cs ds ar br hl (fun j y hj => ih j y hj g' hg) hl' (fun j y hj => ih' j y hj g' hg)
  | nilfn g => intro g' _; exact .nilfn g'
  | nilif g => intro g' _; exact .nilif g'
  | ifc g t x v hr ih => intro g' hg; exact .ifc g' t _ v (ih g' hg)
  | dead g v => intro g' _; exact .dead g' v
  | mp g b x c hb hc hl =>
    intro g' hg
    obtain ⟨x', hb', hx⟩ := hg b x hb
    obtain rfl := hx.2.2.2 hl
    exact .mp g' b x' c hb' hc hl
  | nilm g => intro g' _; exact .nilm g'

theorem Rep.mono_g {S : Nat → Prop} {w : World} {g g' : Ghost} {x : AVal} {v : Value} (h : Rep S w g x v) (hg : GLe g g') : Rep S w g' x v := h.mono (fun _ h => h) (fun _ _ => rfl) g' hg
theorem noG_le (g : Ghost) : GLe noG g := fun b x h => by simp [noG] at h

/-- Renamed into another ghost: what the blocks' names stand for is the same. -/
theorem Rep.rename {S : Nat → Prop} {w : World} {g : Ghost} {x : AVal} {v : Value} (h : Rep S w g x v) :
    ∀ (σ : Nat → Nat) (g' : Ghost), (∀ b x, g b = some x → g' (σ b) = some x) → Rep S w g' (x.inst σ) v := by
  induction h with
  | bool g b => intro σ g' _; exact .bool g' b
  | int g k n => intro σ g' _; exact .int g' k n
  | str g s => intro σ g' _; exact .str g' s
  | nil g => intro σ g' _; exact .nil g'
  | ptr g b off x c hb hc hl => intro σ g' hg; exact .ptr g' _ off x c (hg b x hb) hc hl
  | ept g cs off blk base f hS' h1 hc hr ih => intro σ g' _; exact .ept g' cs off blk base f hS' h1 hc hr
  | spt g b len i off x v hp hb hle hv => intro σ g' hg; exact .spt g' _ len i off x v hp (hg b x hb) hle hv
  | nils g => intro σ g' _; exact .nils g'
  | imm0 g sz a cap => intro σ g' _; exact .imm0 g' sz a cap
  | imm g sz rows blk base len cap f hS' hlen hcap hw' h1 hc hr ih => intro σ g' _; exact .imm g' sz rows blk base len cap f hS' hlen hcap hw' h1 hc hr
  | sl g b len x v hp hb hle hv => intro σ g' hg; exact .sl g' _ len x v hp (hg b x hb) hle hv
  | agg g cs arr hl h1 hr ih =>
    intro σ g' hg
    refine .agg g' _ arr (by rw [instL_eq, List.length_map, hl]) h1 fun j y hj => ?_
    obtain ⟨x, hx, rfl⟩ := instL_get hj
    exact ih j x hx σ g' hg
  | tup g cs arr hl hr ih =>
    intro σ g' hg
    refine .tup g' _ arr (by rw [instL_eq, List.length_map, hl]) fun j y hj => ?_
    obtain ⟨x, hx, rfl⟩ := instL_get hj
    exact ih j x hx σ g' hg
  | fn g f cs ds ar br hl hr hl' hr' ih ih' =>
    intro σ g' hg
    refine .fn g' f _ _ ar br (by rw [instL_eq, List.length_map, hl]) (fun j y hj => ?_) (by rw [instL_eq, List.length_map, hl']) (fun j y hj => ?_)
    · obtain ⟨x, hx, rfl⟩ := instL_get hj
      exact ih j x hx σ g' hg
    · obtain ⟨x, hx, rfl⟩ := instL_get hj
      exact ih' j x hx σ g' hg
  | nilfn g => intro σ g' _; exact .nilfn g'
  | nilif g => intro σ g' _; exact .nilif g'
  | ifc g t x v hr ih => intro σ g' hg; exact .ifc g' t _ v (ih σ g' hg)
  | dead g v => intro σ g' _; exact .dead g' v
  | mp g b x c hb hc hl => intro σ g' hg; exact .mp g' _ x c (hg b x hb) hc hl
  | nilm g => intro σ g' _; exact .nilm g'

/-- And back: what is said of a renamed tree is said of the tree, where the ghost is the other one's behind the renaming. -/
theorem Rep.unname {S : Nat → Prop} {w : World} {g : Ghost} {y : AVal} {v : Value} (h : Rep S w g y v) :
    ∀ (σ : Nat → Nat) (x : AVal), y = x.inst σ → Rep S w (fun b => g (σ b)) x v := by
  induction h with
  | bool g b => intro σ x e; cases x <;> simp [AVal.inst] at e; subst e; exact .bool _ _
  | int g k n => intro σ x e; cases x <;> simp [AVal.inst] at e; obtain ⟨rfl, rfl⟩ := e; exact .int _ _ _
  | str g s => intro σ x e; cases x <;> simp [AVal.inst] at e; subst e; exact .str _ _
  | nil g => intro σ x e; cases x <;> simp [AVal.inst] at e; exact .nil _
  | ptr g b off x c hb hc hl => intro σ x e; cases x <;> simp [AVal.inst] at e; obtain ⟨rfl, rfl⟩ := e; exact .ptr _ _ _ _ c hb hc hl
  | ept g cs off blk base f hS' h1 hc hr ih => intro σ x e; cases x <;> simp [AVal.inst] at e; obtain ⟨rfl, rfl⟩ := e; exact .ept _ cs off blk base f hS' h1 hc hr
  | spt g b len i off x v hp hb hle hv => intro σ x e; cases x <;> simp [AVal.inst] at e; obtain ⟨rfl, rfl, rfl, rfl⟩ := e; exact .spt _ _ _ _ _ _ v hp hb hle hv
  | nils g => intro σ x e; cases x <;> simp [AVal.inst] at e; exact .nils _
  | imm0 g sz a cap => intro σ x e; cases x <;> simp [AVal.inst] at e; obtain ⟨rfl, rfl⟩ := e; exact .imm0 _ _ a cap
  | imm g sz rows blk base len cap f hS' hlen hcap hw' h1 hc hr ih => intro σ x e; cases x <;> simp [AVal.inst] at e; obtain ⟨rfl, rfl⟩ := e; exact .imm _ _ _ blk base len cap f hS' hlen hcap hw' h1 hc hr
  | sl g b len x v hp hb hle hv => intro σ x e; cases x <;> simp [AVal.inst] at e; obtain ⟨rfl, rfl⟩ := e; exact .sl _ _ _ _ v hp hb hle hv
  | agg g cs arr hl h1 hr ih =>
    intro σ x e; cases x <;> simp [AVal.inst] at e
    subst e
    rw [instL_eq, List.length_map] at hl
    exact .agg _ _ arr hl h1 fun j y hj => ih j _ (by rw [instL_eq, List.getElem?_map, hj]; rfl) σ y rfl
  | tup g cs arr hl hr ih =>
    intro σ x e; cases x <;> simp [AVal.inst] at e
    subst e
    rw [instL_eq, List.length_map] at hl
    exact .tup _ _ arr hl fun j y hj => ih j _ (by rw [instL_eq, List.getElem?_map, hj]; rfl) σ y rfl
  | fn g f cs ds ar br hl hr hl' hr' ih ih' =>
    intro σ x e; cases x <;> simp [AVal.inst] at e
    obtain ⟨rfl, rfl, rfl⟩ := e
    rw [instL_eq, List.length_map] at hl hl'
    exact .fn _ _ _ _ ar br hl (fun j y hj => ih j _ (by rw [instL_eq, List.getElem?_map, hj]; rfl) σ y rfl) hl' (fun j y hj => ih' j _ (by rw [instL_eq, List.getElem?_map, hj]; rfl) σ y rfl)
  | nilfn g => intro σ x e; cases x <;> simp [AVal.inst] at e; exact .nilfn _
  | nilif g => intro σ x e; cases x <;> simp [AVal.inst] at e; exact .nilif _
  | ifc g t x v hr ih => intro σ x e; cases x <;> simp [AVal.inst] at e; obtain ⟨rfl, rfl⟩ := e; exact .ifc _ _ _ v (ih σ _ rfl)
  | dead g v => intro σ x e; cases x <;> simp [AVal.inst] at e; exact .dead _ v
  | mp g b x c hb hc hl => intro σ x e; cases x <;> simp [AVal.inst] at e; subst e; exact .mp _ _ _ c hb hc hl
  | nilm g => intro σ x e; cases x <;> simp [AVal.inst] at e; exact .nilm _

/-- The cells of a type whose values are compared cell by cell: whole numbers, truth values and texts alone. -/
inductive Lf where
  | b
  | i (k : IntKind)
  | s
def lfOk : List Lf → List AVal → Bool
  | [], [] => true
  | .b :: r, .bool _ :: s => lfOk r s
  | .i k :: r, .int k' _ :: s => (k == k') && lfOk r s
  | .s :: r, .str _ :: s => lfOk r s
  | _, _ => false
def eqC : List AVal → List AVal → Bool
  | .bool a :: r, .bool b :: s => (a == b) && eqC r s
  | .int _ a :: r, .int _ b :: s => (a == b) && eqC r s
  | .str a :: r, .str b :: s => (a == b) && eqC r s
  | [], [] => true
  | _, _ => false
def AVal.isAgg : AVal → Bool
  | .agg _ => true
  | _ => false
/- The abstract memory: boxes (variables with an address), slices of the call's own, and what is gone. -/
inductive Blk where
  | box (fz : Bool) (cs : List AVal)
  | sl (fz : Bool) (sz : Nat) (rows : List AVal)
  | gone
  | mp (ag : Bool) (ls : List Lf) (es : List (AVal × AVal × Nat)) (clock : Nat)
  deriving Inhabited

def Blk.live : Blk → Bool
  | .gone => false
  | _ => true
def Blk.opn : Blk → Bool
  | .box fz _ => !fz
  | .sl fz _ _ => !fz
  | .gone => false
  | .mp .. => true

def CellsRep (S : Nat → Prop) (w : World) (g : Ghost) (cs : List AVal) (arr : Array Value) : Prop :=
  arr.size = cs.length ∧ (∀ u ∈ arr, u.oneCell' = true) ∧ ∀ (j : Nat) (y : AVal), cs[j]? = some y → Rep S w g y (arr.getD j undef)
def RowsRep (S : Nat → Prop) (w : World) (sz : Nat) (rows : List AVal) (xs : List Value) : Prop :=
  (∀ u ∈ xs, u.oneCell' = true) ∧ (∀ (i : Nat) (r : AVal), rows[i]? = some r → r.cells.length = sz) ∧
    ∀ (i : Nat) (r : AVal) (j : Nat) (y : AVal), rows[i]? = some r → r.cells[j]? = some y → ∃ u, xs[i * sz + j]? = some u ∧ Rep S w noG y u

def AVal.flat : AVal → Bool
  | .agg _ | .tup _ | .dead => false
  | _ => true
def AVal.okCells : AVal → Bool
  | .tup _ | .dead => false
  | _ => true

/-- A map's entries. -/
def EntsRep (S : Nat → Prop) (w : World) (g : Ghost) (ag : Bool) (ls : List Lf) (es : List (AVal × AVal × Nat)) (arr : Array MapEntry) : Prop :=
  arr.size = es.length ∧ ∀ (j : Nat) (k v : AVal) (n : Nat), es[j]? = some (k, v, n) → k.isAgg = ag ∧ lfOk ls k.cells = true ∧ ∃ e, arr[j]? = some e ∧ e.born = n ∧ Rep S w noG k e.key ∧ Rep S w g v e.val
def Tie (S : Nat → Prop) (w : World) (g : Ghost) (b : Nat) : Blk → Prop
  | .gone => True
  | .box fz cs => ∃ x c arr e, g b = some x ∧ x.box = true ∧ x.car = some c ∧ w.heap[c]? = some (.cells arr e (0, 0)) ∧ CellsRep S w g cs arr ∧ (fz = true → S c) ∧ (fz = false → ¬ S c)
  | .sl fz sz rows => ∃ x e xs, g b = some x ∧ x.box = false ∧ x.len = rows.length ∧ x.sz = sz ∧ x.car = x.cur.ownBlock ∧ w.ownsRow 0 e sz x.cur rows.length xs ∧ RowsRep S w sz rows xs ∧
      (∀ c, x.car = some c → (fz = true → S c) ∧ (fz = false → ¬ S c))
  | .mp ag ls es clock => ∃ x c arr, g b = some x ∧ x.box = true ∧ x.car = some c ∧ w.heap[c]? = some (.map arr clock) ∧ EntsRep S w g ag ls es arr ∧ ¬ S c

def Open (g : Ghost) (m : List Blk) (c : Nat) : Prop := ∃ b k x, m[b]? = some k ∧ k.opn = true ∧ g b = some x ∧ x.car = some c

structure Inv (S : Nat → Prop) (w : World) (g : Ghost) (m : List Blk) : Prop where
  dom : ∀ b, m.length ≤ b → g b = none
  gn : ∀ b, m[b]? = some .gone → g b = none
  tie : ∀ b k, m[b]? = some k → Tie S w g b k
  apart : ∀ b b' k k' x x' c, m[b]? = some k → m[b']? = some k' → k.live = true → k'.live = true → g b = some x → g b' = some x' → x.car = some c → x'.car = some c → b = b'
  low : ∀ c, S c → c < w.heap.size

/-- What a piece of a run may have done, seen from its begin: nothing but the open blocks of the begin has turned. -/
structure Chg (S0 : Nat → Prop) (w0 : World) (F0 : Nat → Prop) (S : Nat → Prop) (w : World) (g : Ghost) (m : List Blk) : Prop where
  os : w.os = w0.os
  tape : w.tape = w0.tape
  output : w.output = w0.output
  size : w0.heap.size ≤ w.heap.size
  keep : ∀ c, c < w0.heap.size → ¬ F0 c → w.heap[c]? = w0.heap[c]?
  up : ∀ c, S0 c → S c
  back : ∀ c, S c → S0 c ∨ F0 c ∨ w0.heap.size ≤ c
  cars : ∀ c, Open g m c → F0 c ∨ w0.heap.size ≤ c

theorem Tie.car_lt {S : Nat → Prop} {w : World} {g : Ghost} {b : Nat} {k : Blk} {x : Inf} {c : Nat} (h : Tie S w g b k) (hk : k.live = true) (hx : g b = some x) (hc : x.car = some c) : c < w.heap.size := by
  cases k with
  | gone => cases hk
  | box fz cs =>
    obtain ⟨x', c', arr, e, h1, h2, h3, h4, _⟩ := h
    obtain rfl := Option.some.inj (hx.symm.trans h1)
    obtain rfl := Option.some.inj (hc.symm.trans h3)
    exact (Array.getElem?_eq_some_iff.1 h4).1
  | sl fz sz rows =>
    obtain ⟨x', e, xs, h1, h2, h3, h4, h5, h6, _⟩ := h
    obtain rfl := Option.some.inj (hx.symm.trans h1)
    exact (h6.lt c (h5.symm.trans hc)).2
  | mp ag ls es clock =>
    obtain ⟨x', c', arr, h1, h2, h3, h4, _⟩ := h
    obtain rfl := Option.some.inj (hx.symm.trans h1)
    obtain rfl := Option.some.inj (hc.symm.trans h3)
    exact (Array.getElem?_eq_some_iff.1 h4).1

theorem Blk.live_of_open {k : Blk} (h : k.opn = true) : k.live = true := by cases k <;> simp_all [Blk.opn, Blk.live]

theorem Inv.open_lt {S : Nat → Prop} {w : World} {g : Ghost} {m : List Blk} (h : Inv S w g m) {c : Nat} (ho : Open g m c) : c < w.heap.size := by
  obtain ⟨b, k, x, h1, h2, h3, h4⟩ := ho
  exact (h.tie b k h1).car_lt (Blk.live_of_open h2) h3 h4

theorem Inv.open_not {S : Nat → Prop} {w : World} {g : Ghost} {m : List Blk} (h : Inv S w g m) {c : Nat} (ho : Open g m c) : ¬ S c := by
  obtain ⟨b, k, x, h1, h2, h3, h4⟩ := ho
  have ht := h.tie b k h1
  cases k with
  | gone => cases h2
  | box fz cs =>
    obtain ⟨x', c', arr, e, h1, _, h3', h4', _, _, h6⟩ := ht
    obtain rfl := Option.some.inj (h3.symm.trans h1)
    obtain rfl := Option.some.inj (h4.symm.trans h3')
    exact h6 (by simpa [Blk.opn] using h2)
  | sl fz sz rows =>
    obtain ⟨x', e, xs, h1, _, _, _, _, _, _, h6⟩ := ht
    obtain rfl := Option.some.inj (h3.symm.trans h1)
    exact (h6 c h4).2 (by simpa [Blk.opn] using h2)
  | mp ag ls es clock =>
    obtain ⟨x', c', arr, h1, _, h3', _, _, h6⟩ := ht
    obtain rfl := Option.some.inj (h3.symm.trans h1)
    obtain rfl := Option.some.inj (h4.symm.trans h3')
    exact h6

theorem Chg.refl {S : Nat → Prop} {w : World} {g : Ghost} {m : List Blk} : Chg S w (Open g m) S w g m :=
  ⟨rfl, rfl, rfl, Nat.le_refl _, fun _ _ _ => rfl, fun _ h => h, fun _ h => .inl h, fun _ h => .inl h⟩

theorem Chg.trans {S0 : Nat → Prop} {w0 : World} {F0 S : Nat → Prop} {w : World} {g : Ghost} {m : List Blk} {S' : Nat → Prop} {w' : World} {g' : Ghost} {m' : List Blk}
    (h : Chg S0 w0 F0 S w g m) (k : Chg S w (Open g m) S' w' g' m') : Chg S0 w0 F0 S' w' g' m' where
  os := k.os.trans h.os
  tape := k.tape.trans h.tape
  output := k.output.trans h.output
  size := Nat.le_trans h.size k.size
  keep := fun c hc hF => (k.keep c (Nat.lt_of_lt_of_le hc h.size) fun ho => by
    rcases h.cars c ho with h1 | h1
    · exact hF h1
    · omega).trans (h.keep c hc hF)
  up := fun c hc => k.up c (h.up c hc)
  back := fun c hc => by
    rcases k.back c hc with h1 | h1 | h1
    · exact h.back c h1
    · exact .inr (h.cars c h1)
    · exact .inr (.inr (Nat.le_trans h.size h1))
  cars := fun c hc => by
    rcases k.cars c hc with h1 | h1
    · exact h.cars c h1
    · exact .inr (Nat.le_trans h.size h1)

theorem CellsRep.mono {S S' : Nat → Prop} {w w' : World} (hS : ∀ c, S c → S' c) (hw : ∀ c, S c → w'.heap[c]? = w.heap[c]?) {g g' : Ghost} (hg : GLe g g') {cs : List AVal} {arr : Array Value}
    (h : CellsRep S w g cs arr) : CellsRep S' w' g' cs arr := ⟨h.1, h.2.1, fun j y hj => (h.2.2 j y hj).mono hS hw g' hg⟩
theorem RowsRep.mono {S S' : Nat → Prop} {w w' : World} (hS : ∀ c, S c → S' c) (hw : ∀ c, S c → w'.heap[c]? = w.heap[c]?) {sz : Nat} {rows : List AVal} {xs : List Value}
    (h : RowsRep S w sz rows xs) : RowsRep S' w' sz rows xs :=
  ⟨h.1, h.2.1, fun i r j y h1 h2 => by obtain ⟨u, hu, hr⟩ := h.2.2 i r j y h1 h2; exact ⟨u, hu, hr.mono hS hw noG (GLe.refl _)⟩⟩

theorem EntsRep.mono {S S' : Nat → Prop} {w w' : World} (hS : ∀ c, S c → S' c) (hw : ∀ c, S c → w'.heap[c]? = w.heap[c]?) {g g' : Ghost} (hg : GLe g g') {ag : Bool} {ls : List Lf} {es : List (AVal × AVal × Nat)} {arr : Array MapEntry}
    (h : EntsRep S w g ag ls es arr) : EntsRep S' w' g' ag ls es arr :=
  ⟨h.1, fun j k v n hj => by obtain ⟨h0, h1, e, h2, h3, h4, h6⟩ := h.2 j k v n hj; exact ⟨h0, h1, e, h2, h3, h4.mono hS hw noG (GLe.refl _), h6.mono hS hw g' hg⟩⟩

theorem ownsRow_keep {w w' : World} {base : Nat} {e : TypeId} {size : Nat} {v : Value} {n : Nat} {xs : List Value} (h : w.ownsRow base e size v n xs)
    (hk : ∀ c, v.ownBlock = some c → w'.heap[c]? = w.heap[c]?) : w'.ownsRow base e size v n xs := by
  refine ⟨h.1, ?_⟩
  rcases h.2 with hn | ⟨g, cap, cur, rfl, hb, hgg, rest⟩
  · exact .inl hn
  · exact .inr ⟨g, cap, cur, rfl, hb, by rw [hk g rfl]; exact hgg, rest⟩

/-- A block's tie stays, where its own carrier and the stable blocks stay as they are, and the carrier's standing. -/
theorem Tie.keep {S S' : Nat → Prop} {w w' : World} (hS : ∀ c, S c → S' c) (hw : ∀ c, S c → w'.heap[c]? = w.heap[c]?) {g g' : Ghost} (hg : GLe g g') {b : Nat} {k : Blk}
    (hb : g' b = g b) (h : Tie S w g b k) (hk : ∀ x c, g b = some x → x.car = some c → k.live = true → w'.heap[c]? = w.heap[c]? ∧ (k.opn = true → ¬ S' c)) : Tie S' w' g' b k := by
  cases k with
  | gone => trivial
  | box fz cs =>
    obtain ⟨x, c, arr, e, h1, h2, h3, h4, h5, h6, h7⟩ := h
    obtain ⟨k1, k2⟩ := hk x c h1 h3 rfl
    exact ⟨x, c, arr, e, hb.trans h1, h2, h3, k1.trans h4, h5.mono hS hw hg, fun e => hS _ (h6 e), fun e => k2 (by simp [Blk.opn, e])⟩
  | sl fz sz rows =>
    obtain ⟨x, e, xs, h1, h2, h3, h4, h5, h6, h7, h8⟩ := h
    exact ⟨x, e, xs, hb.trans h1, h2, h3, h4, h5, ownsRow_keep h6 (fun c hc => (hk x c h1 (h5.trans hc) rfl).1), h7.mono hS hw,
      fun c hc => ⟨fun e => hS _ ((h8 c hc).1 e), fun e => (hk x c h1 hc rfl).2 (by simp [Blk.opn, e])⟩⟩
  | mp ag ls es clock =>
    obtain ⟨x, c, arr, h1, h2, h3, h4, h5, h7⟩ := h
    obtain ⟨k1, k2⟩ := hk x c h1 h3 rfl
    exact ⟨x, c, arr, hb.trans h1, h2, h3, k1.trans h4, h5.mono hS hw hg, k2 rfl⟩

/-- The whole memory's invariant stays where no block of the memory, and no stable block, has turned. -/
theorem Inv.keep {S S' : Nat → Prop} {w w' : World} {g : Ghost} {m : List Blk} (h : Inv S w g m) (hw : ∀ c, c < w.heap.size → w'.heap[c]? = w.heap[c]?)
    (hS : ∀ c, S c → S' c) (hS' : ∀ c, S' c → S c ∨ w.heap.size ≤ c) (hlow : ∀ c, S' c → c < w'.heap.size) : Inv S' w' g m where
  dom := h.dom
  gn := h.gn
  tie := fun b k hb => (h.tie b k hb).keep hS (fun c hc => hw c (h.low c hc)) (GLe.refl g) rfl fun x c hx hc hl => by
    have hlt := (h.tie b k hb).car_lt hl hx hc
    refine ⟨hw c hlt, fun ho hs => ?_⟩
    rcases hS' c hs with h1 | h1
    · exact h.open_not ⟨b, k, x, hb, ho, hx, hc⟩ h1
    · omega
  apart := h.apart
  low := hlow

theorem Open.lt_len {g : Ghost} {m : List Blk} {c : Nat} (h : Open g m c) : ∃ b, b < m.length ∧ ∃ x, g b = some x := by
  obtain ⟨b, k, x, h1, _, h3, _⟩ := h
  exact ⟨b, (List.getElem?_eq_some_iff.1 h1).1, x, h3⟩

/-- One block turns, or comes: the rest stays. -/
theorem Inv.update {S S' : Nat → Prop} {w w' : World} {g g' : Ghost} {m m' : List Blk} (h : Inv S w g m) (b0 : Nat) (k0 : Blk)
    (hS : ∀ c, S c → S' c) (hback : ∀ c, S' c → S c ∨ w.heap.size ≤ c ∨ ∃ x, g b0 = some x ∧ x.car = some c) (hlow : ∀ c, S' c → c < w'.heap.size)
    (hm : ∀ b, b ≠ b0 → m'[b]? = m[b]?) (hg : ∀ b, b ≠ b0 → g' b = g b) (hm0 : m'[b0]? = some k0) (hlen : m.length ≤ m'.length)
    (hlive : ∀ k, m[b0]? = some k → k.live = true ∨ g b0 = none) (hk0 : k0 ≠ .gone) (hdom0 : ∀ b, m'.length ≤ b → b ≠ b0)
    (hw : ∀ c, c < w.heap.size → (∀ x, g b0 = some x → x.car = some c → False) → w'.heap[c]? = w.heap[c]?) (hSw : ∀ c, S c → w'.heap[c]? = w.heap[c]?)
    (htie : Tie S' w' g' b0 k0) (hnew : ∀ x c, g' b0 = some x → x.car = some c → (∃ x1, g b0 = some x1 ∧ x1.car = some c) ∨ w.heap.size ≤ c)
    (hle : GLe g g') : Inv S' w' g' m' := by
  have in0 : ∀ x, g b0 = some x → ∃ k, m[b0]? = some k ∧ k.live = true := fun x hx => by
    rcases Nat.lt_or_ge b0 m.length with hl | hl
    · refine ⟨m[b0], List.getElem?_eq_getElem hl, ?_⟩
      rcases hlive _ (List.getElem?_eq_getElem hl) with h | h
      · exact h
      · rw [hx] at h; cases h
    · rw [h.dom b0 hl] at hx; cases hx
  have other : ∀ b k x c, b ≠ b0 → m[b]? = some k → k.live = true → g b = some x → x.car = some c → ∀ x1, g b0 = some x1 → x1.car = some c → False := fun b k x c hb hk hl hx hc x1 hx1 hc1 => by
    obtain ⟨k1, hk1, hl1⟩ := in0 x1 hx1
    exact hb (h.apart b b0 k k1 x x1 c hk hk1 hl hl1 hx hx1 hc hc1)
  refine ⟨fun b hb => ?_, fun b hb => ?_, fun b k hb => ?_, fun b b' k k' x x' c hk hk' hl hl' hx hx' hc hc' => ?_, hlow⟩
  · rw [hg b (hdom0 b hb)]; exact h.dom b (Nat.le_trans hlen hb)
  · by_cases e : b = b0
    · subst e; rw [hm0] at hb; exact absurd (Option.some.inj hb) hk0
    · rw [hm b e] at hb; rw [hg b e]; exact h.gn b hb
  · by_cases e : b = b0
    · subst e
      obtain rfl := Option.some.inj (hm0.symm.trans hb)
      exact htie
    · rw [hm b e] at hb
      refine (h.tie b k hb).keep hS hSw hle (hg b e) fun x c hx hc hl => ?_
      have hlt := (h.tie b k hb).car_lt hl hx hc
      refine ⟨hw c hlt (other b k x c e hb hl hx hc), fun ho hs => ?_⟩
      rcases hback c hs with h1 | h1 | ⟨x1, h1, h2⟩
      · exact h.open_not ⟨b, k, x, hb, ho, hx, hc⟩ h1
      · omega
      · exact other b k x c e hb hl hx hc x1 h1 h2
  · by_cases e : b = b0
    · by_cases e' : b' = b0
      · rw [e, e']
      · exfalso
        subst e
        rw [hm b' e'] at hk'
        rw [hg b' e'] at hx'
        rcases hnew x c hx hc with ⟨x1, h1, h2⟩ | h1
        · exact other b' k' x' c e' hk' hl' hx' hc' x1 h1 h2
        · have := (h.tie b' k' hk').car_lt hl' hx' hc'; omega
    · by_cases e' : b' = b0
      · exfalso
        subst e'
        rw [hm b e] at hk
        rw [hg b e] at hx
        rcases hnew x' c hx' hc' with ⟨x1, h1, h2⟩ | h1
        · exact other b k x c e hk hl hx hc x1 h1 h2
        · have := (h.tie b k hk).car_lt hl hx hc; omega
      · rw [hm b e] at hk; rw [hm b' e'] at hk'; rw [hg b e] at hx; rw [hg b' e'] at hx'
        exact h.apart b b' k k' x x' c hk hk' hl hl' hx hx' hc hc'

def gset (g : Ghost) (b : Nat) (x : Inf) : Ghost := fun i => if i = b then some x else g i
theorem gset_self (g : Ghost) (b : Nat) (x : Inf) : gset g b x b = some x := by simp [gset]
theorem gset_ne (g : Ghost) {b i : Nat} (x : Inf) (h : i ≠ b) : gset g b x i = g i := by simp [gset, h]
theorem GLe.gset_new {g : Ghost} {b : Nat} (h : g b = none) (x : Inf) : GLe g (gset g b x) := fun i y hy => by
  have : i ≠ b := fun e => by rw [e, h] at hy; cases hy
  exact ⟨y, by rw [gset_ne g x this]; exact hy, .refl y⟩
theorem GLe.gset_le {g : Ghost} {b : Nat} {x x' : Inf} (h : g b = some x) (hx : InfLe x x') : GLe g (gset g b x') := fun i y hy => by
  by_cases e : i = b
  · subst e
    obtain rfl := Option.some.inj (h.symm.trans hy)
    exact ⟨x', gset_self _ _ _, hx⟩
  · exact ⟨y, by rw [gset_ne g x' e]; exact hy, .refl y⟩

/-- What a step leaves: the invariant, what is said of its value, and what may have turned. -/
structure After (S : Nat → Prop) (w : World) (g : Ghost) (m : List Blk) (S' : Nat → Prop) (w' : World) (g' : Ghost) (m' : List Blk) (x : AVal) (v : Value) : Prop where
  inv : Inv S' w' g' m'
  rep : Rep S' w' g' x v
  le : GLe g g'
  chg : Chg S w (Open g m) S' w' g' m'

theorem After.same {S : Nat → Prop} {w : World} {g : Ghost} {m : List Blk} (h : Inv S w g m) {x : AVal} {v : Value} (hr : Rep S w g x v) : After S w g m S w g m x v := ⟨h, hr, .refl g, .refl⟩

/-- A value said before says the same behind a step. -/
theorem Rep.after {S : Nat → Prop} {w : World} {g : Ghost} {m : List Blk} {S' : Nat → Prop} {w' : World} {g' : Ghost} {m' : List Blk} (hi : Inv S w g m) (hc : Chg S w (Open g m) S' w' g' m') (hg : GLe g g')
    {x : AVal} {v : Value} (h : Rep S w g x v) : Rep S' w' g' x v :=
  h.mono hc.up (fun c hs => hc.keep c (hi.low c hs) fun ho => hi.open_not ho hs) g' hg

/-- A new block at the memory's end, over a new row of cells. -/
theorem Inv.push {S : Nat → Prop} {w w' : World} {g : Ghost} {m : List Blk} (h : Inv S w g m) (k0 : Blk) (x : Inf)
    (hos : w'.os = w.os) (htape : w'.tape = w.tape) (hout : w'.output = w.output) (hsz : w.heap.size ≤ w'.heap.size)
    (hw : ∀ c, c < w.heap.size → w'.heap[c]? = w.heap[c]?) (hcar : ∀ c, x.car = some c → w.heap.size ≤ c)
    (htie : (∀ c, S c → c < w'.heap.size) → GLe g (gset g m.length x) → Tie S w' (gset g m.length x) m.length k0) (hk0 : k0 ≠ .gone := by simp) :
    Inv S w' (gset g m.length x) (m ++ [k0]) ∧ GLe g (gset g m.length x) ∧ Chg S w (Open g m) S w' (gset g m.length x) (m ++ [k0]) := by
  have hnone : g m.length = none := h.dom _ (Nat.le_refl _)
  have hle := GLe.gset_new hnone x
  have hlow : ∀ c, S c → c < w'.heap.size := fun c hc => Nat.lt_of_lt_of_le (h.low c hc) hsz
  refine ⟨h.update m.length k0 (fun _ h => h) (fun c hc => .inl hc) hlow (fun b hb => ?_) (fun b hb => gset_ne g x hb) (by simp) (by simp) (fun k hk => by simp at hk) hk0 (fun b hb => by simp at hb; omega)
    (fun c hc _ => hw c hc) (fun c hc => hw c (h.low c hc)) (htie hlow hle) (fun x' c hx hc => ?_) hle, hle, ?_⟩
  · rw [List.getElem?_append]
    split
    · rfl
    · rename_i h1
      rw [List.getElem?_eq_none (l := m) (by omega), List.getElem?_eq_none]
      simp only [List.length_singleton]; omega
  · rw [gset_self] at hx
    obtain rfl := Option.some.inj hx
    exact .inr (hcar c hc)
  · refine ⟨hos, htape, hout, hsz, fun c hc _ => hw c hc, fun _ h => h, fun c hc => .inl hc, fun c hc => ?_⟩
    obtain ⟨b, k, x', h1, h2, h3, h4⟩ := hc
    by_cases e : b = m.length
    · subst e
      rw [gset_self] at h3
      obtain rfl := Option.some.inj h3
      exact .inr (hcar c h4)
    · rw [gset_ne g x e] at h3
      refine .inl ⟨b, k, x', ?_, h2, h3, h4⟩
      rw [List.getElem?_append] at h1
      split at h1
      · exact h1
      · rename_i h5
        rw [List.getElem?_eq_none] at h1
        · cases h1
        · simp only [List.length_singleton]; omega

/-- An open block of the memory turns. -/
theorem Inv.turn {S : Nat → Prop} {w w' : World} {g : Ghost} {m : List Blk} (h : Inv S w g m) (b : Nat) (k k0 : Blk) (x x' : Inf) (hb : m[b]? = some k) (ho : k.opn = true) (hx : g b = some x)
    (hos : w'.os = w.os) (htape : w'.tape = w.tape) (hout : w'.output = w.output) (hsz : w.heap.size ≤ w'.heap.size)
    (hw : ∀ c, c < w.heap.size → x.car ≠ some c → w'.heap[c]? = w.heap[c]?) (hcar : ∀ c, x'.car = some c → x.car = some c ∨ w.heap.size ≤ c) (hle : InfLe x x')
    (htie : GLe g (gset g b x') → (∀ c, S c → w'.heap[c]? = w.heap[c]?) → Tie S w' (gset g b x') b k0) (hk0 : k0 ≠ .gone := by simp) :
    Inv S w' (gset g b x') (m.set b k0) ∧ GLe g (gset g b x') ∧ Chg S w (Open g m) S w' (gset g b x') (m.set b k0) := by
  have hl := (List.getElem?_eq_some_iff.1 hb).1
  have hg := GLe.gset_le hx hle
  have hSw : ∀ c, S c → w'.heap[c]? = w.heap[c]? := fun c hc => hw c (h.low c hc) fun e => h.open_not ⟨b, k, x, hb, ho, hx, e⟩ hc
  refine ⟨h.update b k0 (fun _ h => h) (fun c hc => .inl hc) (fun c hc => Nat.lt_of_lt_of_le (h.low c hc) hsz) (fun i hi => List.getElem?_set_ne (Ne.symm hi)) (fun i hi => gset_ne g x' hi)
    (by simp [hl]) (by simp) (fun k1 hk1 => by obtain rfl := Option.some.inj (hb.symm.trans hk1); exact .inl (Blk.live_of_open ho)) hk0 (fun i hi => by simp at hi; omega)
    (fun c hc hn => hw c hc fun e => hn x hx e) hSw (htie hg hSw) (fun y c hy hc => ?_) hg, hg, ?_⟩
  · rw [gset_self] at hy
    obtain rfl := Option.some.inj hy
    rcases hcar c hc with h1 | h1
    · exact .inl ⟨x, hx, h1⟩
    · exact .inr h1
  · refine ⟨hos, htape, hout, hsz, fun c hc hn => hw c hc fun e => hn ⟨b, k, x, hb, ho, hx, e⟩, fun _ h => h, fun c hc => .inl hc, fun c hc => ?_⟩
    obtain ⟨i, k1, y, h1, h2, h3, h4⟩ := hc
    by_cases e : i = b
    · subst e
      rw [gset_self] at h3
      obtain rfl := Option.some.inj h3
      rcases hcar c h4 with h5 | h5
      · exact .inl ⟨i, k, x, hb, ho, hx, h5⟩
      · exact .inr h5
    · rw [gset_ne g x' e] at h3
      rw [List.getElem?_set_ne (Ne.symm e)] at h1
      exact .inl ⟨i, k1, y, h1, h2, h3, h4⟩

/-- A new block at a place that was kept for it. -/
theorem Inv.fill {S : Nat → Prop} {w w' : World} {g : Ghost} {m : List Blk} (h : Inv S w g m) (b : Nat) (hb : m[b]? = some .gone) (k0 : Blk) (x : Inf) (hk0 : k0 ≠ .gone)
    (hos : w'.os = w.os) (htape : w'.tape = w.tape) (hout : w'.output = w.output) (hsz : w.heap.size ≤ w'.heap.size)
    (hw : ∀ c, c < w.heap.size → w'.heap[c]? = w.heap[c]?) (hcar : ∀ c, x.car = some c → w.heap.size ≤ c)
    (htie : (∀ c, S c → c < w'.heap.size) → GLe g (gset g b x) → Tie S w' (gset g b x) b k0) :
    Inv S w' (gset g b x) (m.set b k0) ∧ GLe g (gset g b x) ∧ Chg S w (Open g m) S w' (gset g b x) (m.set b k0) := by
  have hnone : g b = none := h.gn _ hb
  have hl := (List.getElem?_eq_some_iff.1 hb).1
  have hle := GLe.gset_new hnone x
  have hlow : ∀ c, S c → c < w'.heap.size := fun c hc => Nat.lt_of_lt_of_le (h.low c hc) hsz
  refine ⟨h.update b k0 (fun _ h => h) (fun c hc => .inl hc) hlow (fun i hi => List.getElem?_set_ne (Ne.symm hi)) (fun i hi => gset_ne g x hi) (by simp [hl]) (by simp) (fun k hk => .inr hnone) hk0 (fun i hi => by simp at hi; omega)
    (fun c hc _ => hw c hc) (fun c hc => hw c (h.low c hc)) (htie hlow hle) (fun x' c hx hc => ?_) hle, hle, ?_⟩
  · rw [gset_self] at hx
    obtain rfl := Option.some.inj hx
    exact .inr (hcar c hc)
  · refine ⟨hos, htape, hout, hsz, fun c hc _ => hw c hc, fun _ h => h, fun c hc => .inl hc, fun c hc => ?_⟩
    obtain ⟨i, k, x', h1, h2, h3, h4⟩ := hc
    by_cases e : i = b
    · subst e
      rw [gset_self] at h3
      obtain rfl := Option.some.inj h3
      exact .inr (hcar c h4)
    · rw [gset_ne g x e] at h3
      rw [List.getElem?_set_ne (Ne.symm e)] at h1
      exact .inl ⟨i, k, x', h1, h2, h3, h4⟩
/-- Places are kept for blocks that will come. -/
theorem Inv.room {S : Nat → Prop} {w : World} {g : Ghost} {m : List Blk} (h : Inv S w g m) (n : Nat) : Inv S w g (m ++ List.replicate n .gone) ∧ ∀ c, Open g (m ++ List.replicate n .gone) c → Open g m c := by
  have old : ∀ {b k}, (m ++ List.replicate n Blk.gone)[b]? = some k → m[b]? = some k ∨ (m.length ≤ b ∧ k = .gone) := fun {b k} hb => by
    rw [List.getElem?_append] at hb
    split at hb
    · exact .inl hb
    · rw [List.getElem?_replicate] at hb
      split at hb
      · exact .inr ⟨by omega, (Option.some.inj hb).symm⟩
      · cases hb
  refine ⟨⟨fun b hb => h.dom b (by simp at hb; omega), fun b hb => ?_, fun b k hb => ?_, fun b b' k k' x x' c hk hk' hl hl' hx hx' hc hc' => ?_, h.low⟩, fun c ⟨b, k, x, h1, h2, h3, h4⟩ => ?_⟩
  · rcases old hb with h1 | ⟨h1, _⟩
    · exact h.gn b h1
    · exact h.dom b h1
  · rcases old hb with h1 | ⟨_, rfl⟩
    · exact h.tie b k h1
    · trivial
  · rcases old hk with h1 | ⟨_, rfl⟩
    · rcases old hk' with h2 | ⟨_, rfl⟩
      · exact h.apart b b' k k' x x' c h1 h2 hl hl' hx hx' hc hc'
      · cases hl'
    · cases hl
  · rcases old h1 with h5 | ⟨_, rfl⟩
    · exact ⟨b, k, x, h5, h2, h3, h4⟩
    · cases h2
end Go.Awp

/- The operations on trees, and that the model's do the same. -/
namespace Go.Awp

/-- THE CONTRACT: called on these trees, in this memory, the function returns that tree and leaves that memory. -/
def Runs (P : Program) (f : FuncId) (args : List AVal) (m : List Blk) (r : AVal) (m' : List Blk) : Prop :=
  ∀ (S : Nat → Prop) (w : World) (g : Ghost) (vals : Array Value), Inv S w g m → vals.size = args.length → (∀ (j : Nat) (y : AVal), args[j]? = some y → Rep S w g y (vals.getD j undef)) →
    Calls P f vals w fun e w' => ∃ u S' g', e = .returned u ∧ After S w g m S' w' g' m' r u

def lk : List (Nat × AVal) → Nat → AVal
  | [], _ => .dead
  | (i, v) :: r, t => if i = t then v else lk r t

structure St where
  t : List (Nat × AVal)
  m : List Blk

def ofVal0 : Value → AVal
  | .bool b => .bool b
  | .int k n => .int k n
  | .string s => .str s
  | .pointer none => .nil
  | .slice none 0 0 => .nils
  | .nilFunc => .nilfn
  | .nilIface => .nilif
  | .map none => .nilm
  | _ => .dead
def ofVal : Value → AVal
  | .agg a => if a.toList.all (·.oneCell') then .agg (a.toList.map ofVal0) else .dead
  | v => ofVal0 v

theorem ofVal0_rep (S : Nat → Prop) (w : World) (g : Ghost) (v : Value) : Rep S w g (ofVal0 v) v := by
  unfold ofVal0
  split
  · exact .bool _ _
  · exact .int _ _ _
  · exact .str _ _
  · exact .nil _
  · exact .nils _
  · exact .nilfn _
  · exact .nilif _
  · exact .nilm _
  · exact .dead _ _

theorem ofVal_rep (S : Nat → Prop) (w : World) (g : Ghost) (v : Value) : Rep S w g (ofVal v) v := by
  unfold ofVal
  split
  · rename_i a
    split
    · rename_i h
      refine .agg g _ a (by simp) (fun u hu => by simpa using List.all_eq_true.1 h u (by simpa using hu)) fun j y hj => ?_
      rw [List.getElem?_map] at hj
      cases hq : a.toList[j]? with
      | none => simp [hq] at hj
      | some u =>
        simp only [hq, Option.map_some, Option.some.injEq] at hj
        subst hj
        have : a.getD j undef = u := by
          have h2 : a[j]? = some u := by simpa using hq
          simp [Array.getD_eq_getD_getElem?, h2]
        rw [this]
        exact ofVal0_rep S w g u
    · exact .dead _ _
  · exact ofVal0_rep S w g v

def St.ev (st : St) : Operand → AVal
  | .tmp t => lk st.t t
  | .const v => ofVal v
  | .global _ => .dead
  | .func f => .fn (.func f) [] []

/- types -/
def tySize (P : Program) (t : TypeId) : Option Nat := (P.info? t).map (·.size)
def tyBytes (P : Program) (t : TypeId) : Option Nat := (P.info? t).map (·.bytes)
def tyAgg (P : Program) (t : TypeId) : Option Bool := (P.underlying t).map fun | .struct _ | .array _ _ => true | _ => false
def tyElem (P : Program) (t : TypeId) : Option TypeId := match P.underlying t with | some (.slice e) => some e | _ => none
def tyArr (P : Program) (t : TypeId) : Option (Nat × TypeId) := match P.underlying t with | some (.array n e) => some (n, e) | _ => none
def tyMap (P : Program) (t : TypeId) : Option (TypeId × TypeId) := match P.underlying t with | some (.map k e) => some (k, e) | _ => none
def tyStr (P : Program) (t : TypeId) : Bool := match P.underlying t with | some .string => true | _ => false
def tyInt (P : Program) (t : TypeId) : Option IntKind := match P.underlying t with | some (.int k) => some k | _ => none
def tyFld (P : Program) (t : TypeId) (f : Nat) : Option (Nat × TypeId) := match P.underlying t with | some (.struct fs) => (fs[f]?).map fun d => (d.offset, d.type) | _ => none
/-- A field's place, where the field has cells. -/
def tyOff (P : Program) (t : TypeId) (f : Nat) : Option Nat := match tyFld P t f with
  | some (o, ft) => (match tySize P ft with | some 0 => none | some _ => some o | none => none)
  | none => none
def zeroA (P : Program) (t : TypeId) : Option (List AVal) := match (P.info? t).bind (·.zero) with
  | some z => if z.cells.toList.all (·.oneCell') then some (z.cells.toList.map ofVal0) else none
  | none => none
/-- A call of this function enters its body. -/
def fnOk (P : Program) (f : FuncId) : Bool := match P.funcs[f]? with
  | some fn => fn.body.isSome && !(fn.name == "runtime.NumGoroutine")
  | none => false

theorem Rep.flat_one {S : Nat → Prop} {w : World} {g : Ghost} {x : AVal} {v : Value} (h : Rep S w g x v) (hf : x.flat = true) : v.oneCell' = true ∧ v.cells = #[v] ∧ x.cells = [x] := by
  cases h with
  | spt g b len i off x v hp hb hle hv => obtain ⟨p, rfl⟩ := hp; exact ⟨rfl, rfl, rfl⟩
  | sl g b len x v hp hb hle hv => obtain ⟨a, l, c, rfl⟩ := hp; exact ⟨rfl, rfl, rfl⟩
  | agg g cs arr hl h1 hr => simp [AVal.flat] at hf
  | tup g cs arr hl hr => simp [AVal.flat] at hf
  | dead g v => simp [AVal.flat] at hf
  | _ => exact ⟨rfl, rfl, rfl⟩

theorem Rep.cells {S : Nat → Prop} {w : World} {g : Ghost} {x : AVal} {v : Value} (h : Rep S w g x v) (hf : x.okCells = true) : CellsRep S w g x.cells v.cells := by
  by_cases hfl : x.flat = true
  · obtain ⟨h1, h2, h3⟩ := h.flat_one hfl
    rw [h2, h3]
    refine ⟨rfl, by simpa using h1, fun j y hj => ?_⟩
    cases j with
    | zero => simp at hj; subst hj; simpa using h
    | succ j => simp at hj
  · cases h <;> first
      | (simp [AVal.flat] at hfl; done)
      | (simp [AVal.okCells] at hf; done)
      | skip
    rename_i cs arr hl h1 hr
    exact ⟨hl, h1, hr⟩

/- THE OPERATIONS -/
def pickA (t : Bool) : AVal → AVal → AVal
  | .bool x, .bool y => .bool (if t then x else y)
  | a, b => if t then a else b
def kPick (c a b : AVal) (K : AVal → Prop) : Prop := match c with
  | .bool t => K (pickA t a b)
  | _ => False
def kAlloc (P : Program) (e : TypeId) (m : List Blk) (K : AVal → List Blk → Prop) : Prop := match zeroA P e with
  | some cs => K (.ptr m.length 0) (m ++ [.box false cs])
  | none => False
def kBox (x : AVal) (m : List Blk) (K : AVal → List Blk → Prop) : Prop := x.okCells = true ∧ K (.ptr m.length 0) (m ++ [.box false x.cells])

/-- A part of a row of cells, read at a type. -/
def partA (P : Program) (t : TypeId) (cs : List AVal) (off : Nat) (K : AVal → Prop) : Prop := match tyAgg P t with
  | some true => (match tySize P t with
    | some sz => off + sz ≤ cs.length ∧ K (.agg ((cs.drop off).take sz))
    | none => False)
  | some false => (match cs[off]? with
    | some v => K v
    | none => False)
  | none => False
def kLoad (P : Program) (t : TypeId) (x : AVal) (m : List Blk) (K : AVal → Prop) : Prop := match x with
  | .ptr b off => (match m[b]? with
    | some (.box _ cs) => partA P t cs off K
    | _ => False)
  | .ept cs off => partA P t cs off K
  | .spt b len i off => (match m[b]? with
    | some (.sl _ _ rows) => rows.length = len ∧ i < len ∧ partA P t (rows.getD i .dead).cells off K
    | _ => False)
  | _ => False
def spliceA (cs : List AVal) (off : Nat) (vs : List AVal) : List AVal := cs.take off ++ vs ++ cs.drop (off + vs.length)
def AVal.closed : AVal → Bool
  | .ptr .. | .spt .. | .sl .. | .mp _ | .agg _ | .tup _ | .fn .. | .ifc .. => false
  | _ => true
def AVal.closedC (x : AVal) : Bool := x.cells.all AVal.closed
def spliceRow (r : AVal) (off : Nat) (vs : List AVal) : AVal := match r with
  | .agg cs => .agg (spliceA cs off vs)
  | r => vs.headD r
def kStore (P : Program) (t : TypeId) (x y : AVal) (m : List Blk) (K : List Blk → Prop) : Prop := match x with
  | .ptr b off => (match m[b]? with
    | some (.box false cs) => y.okCells = true ∧ tySize P t = some y.cells.length ∧ off + y.cells.length ≤ cs.length ∧ K (m.set b (.box false (spliceA cs off y.cells)))
    | _ => False)
  | .spt b len i off => (match m[b]? with
    | some (.sl false sz rows) => y.okCells = true ∧ y.closedC = true ∧ tySize P t = some y.cells.length ∧ rows.length = len ∧ i < len ∧ off + y.cells.length ≤ sz ∧ 0 < y.cells.length ∧
        K (m.set b (.sl false sz (rows.set i (spliceRow (rows.getD i .dead) off y.cells))))
    | _ => False)
  | _ => False
def kFieldAddr (P : Program) (t : TypeId) (f : Nat) (x : AVal) (m : List Blk) (K : AVal → Prop) : Prop := match tyOff P t f with
  | some o => (match x with
    | .ptr b off => K (.ptr b (off + o))
    | .ept cs off => K (.ept cs (off + o))
    | .spt b len i off => (match m[b]? with
      | some (.sl _ _ rows) => rows.length = len ∧ K (.spt b len i (off + o))
      | _ => False)
    | _ => False)
  | none => False
def kField (P : Program) (t : TypeId) (f : Nat) (x : AVal) (K : AVal → Prop) : Prop := match tyFld P t f with
  | some (o, ft) => (match x with
    | .agg cs => partA P ft cs o K
    | _ => False)
  | none => False
def kIndexAddr (P : Program) (t : TypeId) (x i : AVal) (m : List Blk) (K : AVal → Prop) : Prop := match i with
  | .int _ n => (match tyElem P t with
    | some e => (match x with
      | .imm sz rows => tySize P e = some sz ∧ (0 ≤ n ∧ n < rows.length) ∧ K (.ept (rows.getD n.toNat .dead).cells 0)
      | .sl b len => (match m[b]? with
        | some (.sl _ sz rows) => rows.length = len ∧ tySize P e = some sz ∧ (0 ≤ n ∧ n < len) ∧ K (.spt b len n.toNat 0)
        | _ => False)
      | _ => False)
    | none => (match tyArr P t with
      | some (len, e) => (match tySize P e with
        | some sz => (0 ≤ n ∧ n < len) ∧ (match x with
          | .ptr b off => K (.ptr b (off + n.toNat * sz))
          | .ept cs off => K (.ept cs (off + n.toNat * sz))
          | _ => False)
        | none => False)
      | none => False))
  | _ => False
def byteA (s : ByteArray) (n : Nat) : Int := (s.data.toList.getD n 0).toNat
def kIndex (P : Program) (t : TypeId) (x i : AVal) (K : AVal → Prop) : Prop := match i with
  | .int _ n => (match x with
    | .str s => tyStr P t = true ∧ (0 ≤ n ∧ n < s.size) ∧ K (.int .u8 (byteA s n.toNat))
    | .agg cs => (match tyArr P t with
      | some (len, e) => (match tySize P e with
        | some sz => (0 ≤ n ∧ n < len) ∧ partA P e cs (n.toNat * sz) K
        | none => False)
      | none => False)
    | _ => False)
  | _ => False
def kExtract (x : AVal) (i : Nat) (K : AVal → Prop) : Prop := match x with
  | .tup vs => (match vs[i]? with
    | some v => K v
    | none => False)
  | _ => False
def kUn (op : UnOp) (x : AVal) (K : AVal → Prop) : Prop := match op, x with
  | .neg, .int k n => K (.int k (k.wrap (0 - n)))
  | .xor, .int k n => K (.int k (bits .xor k (if k.signed then -1 else k.max) n))
  | .not, .bool b => K (.bool (!b))
  | _, _ => False
def kConv (P : Program) (s d : TypeId) (x : AVal) (K : AVal → Prop) : Prop := match tyInt P d, x with
  | some k, .int _ n => (P.underlying s).isSome = true ∧ K (.int k (k.wrap n))
  | _, _ => False
def kNilCheck (x : AVal) (K : AVal → Prop) : Prop := match x with
  | .ptr .. | .ept .. | .fn (.func _) _ _ => K x
  | _ => False
def lfF (C : TypeId → Option (List Lf)) : List (TypeId × Nat) → Nat → Nat → Option (List Lf)
  | [], off, tot => if off = tot then some [] else none
  | (t, o) :: r, off, tot => if o = off then (match C t with
      | some a => (match lfF C r (off + a.length) tot with
        | some b => some (a ++ b)
        | none => none)
      | none => none) else none
def lfs (P : Program) : Nat → TypeId → Option (List Lf)
  | 0, _ => none
  | n + 1, t => match P.underlying t with
    | some .bool => if P.cellsOf t = 1 then some [.b] else none
    | some (.int k) => if P.cellsOf t = 1 then some [.i k] else none
    | some .string => if P.cellsOf t = 1 then some [.s] else none
    | some (.struct fs) => if fs.toList.all (fun f => f.name != "_") && !P.stoodInHeld t then lfF (lfs P n) (fs.toList.map fun f => (f.type, f.offset)) 0 (P.cellsOf t) else none
    | some (.array k e) => if (P.info? e).isSome then lfF (lfs P n) ((List.range k).map fun i => (e, i * P.cellsOf e)) 0 (P.cellsOf t) else none
    | _ => none
/-- The cells of a type that '==' compares cell by cell. -/
def tyEq (P : Program) (t : TypeId) : Option (List Lf) := if tyAgg P t = some true ∧ P.eqGuardType P.depth t = false then lfs P 8 t else none
def strEq (a b : ByteArray) : Bool := a.toList == b.toList
def strLt (a b : ByteArray) : Bool := Op.bytesLess a.toList b.toList
def kBinInt (op : BinOp) (k : IntKind) (a b : Int) (K : AVal → Prop) : Prop := match op with
  | .add => K (.int k (k.wrap (a + b)))
  | .sub => K (.int k (k.wrap (a - b)))
  | .mul => K (.int k (k.wrap (a * b)))
  | .quo => b ≠ 0 ∧ K (.int k (k.wrap (a.tdiv b)))
  | .rem => b ≠ 0 ∧ K (.int k (a.tmod b))
  | .and => K (.int k (bits .and k a b))
  | .or => K (.int k (bits .or k a b))
  | .xor => K (.int k (bits .xor k a b))
  | .andNot => K (.int k (bits .andNot k a b))
  | .eql => K (.bool (a == b))
  | .neq => K (.bool (a != b))
  | .lss => K (.bool (decide (a < b)))
  | .leq => K (.bool (decide (a ≤ b)))
  | .gtr => K (.bool (decide (a > b)))
  | .geq => K (.bool (decide (a ≥ b)))
  | _ => False
def kBinStr (op : BinOp) (a b : ByteArray) (K : AVal → Prop) : Prop := match op with
  | .add => a.size + b.size ≤ 9223372036854775807 ∧ K (.str (a ++ b))
  | .eql => K (.bool (strEq a b))
  | .neq => K (.bool (!strEq a b))
  | .lss => K (.bool (strLt a b))
  | .leq => K (.bool (strLt a b || strEq a b))
  | .gtr => K (.bool !(strLt a b || strEq a b))
  | .geq => K (.bool (!strLt a b))
  | _ => False
/-- The same cells; under a name of its own, so that a type's own rule may come first. -/
def eqA (as bs : List AVal) : Bool := eqC as bs
@[simp low] theorem eqA_eqC (as bs : List AVal) : eqA as bs = eqC as bs := rfl
def kBin (P : Program) (op : BinOp) (t : TypeId) (x y : AVal) (K : AVal → Prop) : Prop := match x, y with
  | .int k a, .int k' b => (match op with
    | .shl => 0 ≤ b ∧ K (.int k (k.wrap (a * 2 ^ (min b.toNat k.bits))))
    | .shr => 0 ≤ b ∧ K (.int k (a.fdiv (2 ^ (min b.toNat k.bits))))
    | op => k = k' ∧ kBinInt op k a b K)
  | .str a, .str b => kBinStr op a b K
  | .bool a, .bool b => (match op, P.underlying t with
    | .eql, some .bool => K (.bool (a == b))
    | .neq, some .bool => K (.bool (!(a == b)))
    | _, _ => False)
  | .agg as, .agg bs => (match tyEq P t with
    | some ls => lfOk ls as = true ∧ lfOk ls bs = true ∧ (match op with
      | .eql => K (.bool (eqA as bs))
      | .neq => K (.bool (!(eqA as bs)))
      | _ => False)
    | none => False)
  | _, _ => False
end Go.Awp

/- '==' on structs and arrays of plain cells. -/
namespace Go.Awp
/-- The same cells, of values. -/
def eqV : List Value → List Value → Bool
  | .bool a :: r, .bool b :: s => (a == b) && eqV r s
  | .int _ a :: r, .int _ b :: s => (a == b) && eqV r s
  | .string a :: r, .string b :: s => (a == b) && eqV r s
  | [], [] => true
  | _, _ => false
def lfV : List Lf → List Value → Prop
  | [], [] => True
  | .b :: r, v :: s => (∃ b, v = .bool b) ∧ lfV r s
  | .i k :: r, v :: s => (∃ n, v = .int k n) ∧ lfV r s
  | .s :: r, v :: s => (∃ n, v = .string n) ∧ lfV r s
  | _, _ => False
theorem lfV.length : ∀ {ls : List Lf} {vs : List Value}, lfV ls vs → vs.length = ls.length
  | [], [], _ => rfl
  | [], _ :: _, h => h.elim
  | .b :: r, [], h => h.elim
  | .i _ :: r, [], h => h.elim
  | .s :: r, [], h => h.elim
  | .b :: r, _ :: s, h => by simp [lfV.length h.2]
  | .i _ :: r, _ :: s, h => by simp [lfV.length h.2]
  | .s :: r, _ :: s, h => by simp [lfV.length h.2]
theorem lfV.split : ∀ {a b : List Lf} {vs : List Value}, lfV (a ++ b) vs → lfV a (vs.take a.length) ∧ lfV b (vs.drop a.length)
  | [], b, vs, h => by simpa [lfV] using h
  | .b :: a, b, v :: vs, h => by
    have := lfV.split (a := a) h.2
    exact ⟨⟨h.1, by simpa using this.1⟩, by simpa using this.2⟩
  | .i k :: a, b, v :: vs, h => by
    have := lfV.split (a := a) h.2
    exact ⟨⟨h.1, by simpa using this.1⟩, by simpa using this.2⟩
  | .s :: a, b, v :: vs, h => by
    have := lfV.split (a := a) h.2
    exact ⟨⟨h.1, by simpa using this.1⟩, by simpa using this.2⟩
  | .b :: a, b, [], h => h.elim
  | .i k :: a, b, [], h => h.elim
  | .s :: a, b, [], h => h.elim
theorem eqV_append : ∀ {ls : List Lf} {a b c d : List Value}, lfV ls a → lfV ls b → eqV (a ++ c) (b ++ d) = (eqV a b && eqV c d)
  | [], [], [], c, d, _, _ => by simp [eqV]
  | [], _ :: _, _, _, _, h, _ => h.elim
  | [], [], _ :: _, _, _, _, h => h.elim
  | .b :: r, x :: a, y :: b, c, d, h, k => by
    obtain ⟨⟨p, rfl⟩, h⟩ := h
    obtain ⟨⟨q, rfl⟩, k⟩ := k
    simp [eqV, eqV_append h k, Bool.and_assoc]
  | .i _ :: r, x :: a, y :: b, c, d, h, k => by
    obtain ⟨⟨p, rfl⟩, h⟩ := h
    obtain ⟨⟨q, rfl⟩, k⟩ := k
    simp [eqV, eqV_append h k, Bool.and_assoc]
  | .s :: r, x :: a, y :: b, c, d, h, k => by
    obtain ⟨⟨p, rfl⟩, h⟩ := h
    obtain ⟨⟨q, rfl⟩, k⟩ := k
    simp [eqV, eqV_append h k, Bool.and_assoc]
  | .b :: r, [], _, _, _, h, _ => h.elim
  | .i _ :: r, [], _, _, _, h, _ => h.elim
  | .s :: r, [], _, _, _, h, _ => h.elim
  | .b :: r, _ :: _, [], _, _, _, h => h.elim
  | .i _ :: r, _ :: _, [], _, _, _, h => h.elim
  | .s :: r, _ :: _, [], _, _, _, h => h.elim

section
variable {P : Program}
theorem lfs_und {n : Nat} {t : TypeId} {ls : List Lf} (h : lfs P n t = some ls) : ∃ d i, P.underlying t = some d ∧ P.info? t = some i ∧ P.cellsOf t = i.size := by
  cases n with
  | zero => simp [lfs] at h
  | succ n =>
    unfold lfs at h
    cases hu : P.underlying t with
    | none => simp [hu] at h
    | some d =>
      obtain ⟨i, hi⟩ := info_of_underlying hu
      exact ⟨d, i, rfl, hi, by simp [Program.cellsOf, hi]⟩
theorem lfF_len {C : TypeId → Option (List Lf)} : ∀ (fs : List (TypeId × Nat)) (off tot : Nat) (ls : List Lf), lfF C fs off tot = some ls → off + ls.length = tot
  | [], off, tot, ls, h => by
    simp only [lfF] at h
    split at h
    · cases h; simpa
    · cases h
  | (t, o) :: r, off, tot, ls, h => by
    simp only [lfF] at h
    split at h
    · split at h
      · split at h
        · rename_i hb
          have := lfF_len r _ _ _ hb
          cases h
          simp only [List.length_append]; omega
        · cases h
      · cases h
    · cases h
theorem lfs_len {n : Nat} {t : TypeId} {ls : List Lf} (h : lfs P n t = some ls) : ls.length = P.cellsOf t := by
  cases n with
  | zero => simp [lfs] at h
  | succ n =>
    unfold lfs at h
    split at h
    · split at h
      · cases h; rename_i e; simp [e]
      · cases h
    · split at h
      · cases h; rename_i e; simp [e]
      · cases h
    · split at h
      · cases h; rename_i e; simp [e]
      · cases h
    · split at h
      · have := lfF_len _ _ _ _ h; omega
      · cases h
    · split at h
      · have := lfF_len _ _ _ _ h; omega
      · cases h
    · cases h

/-- A part of a row of cells. -/
theorem part_leaf {t : TypeId} {l : Lf} {xs : Array Value} {off : Nat} (hx : lfV [l] ((xs.toList.drop off).take 1)) (w : World) (hag : (isAgg t).run P w = .ok false w) (hna : tyAgg P t = some false) :
    ∃ a, (part t xs off).run P w = .ok a w ∧ a.cells.toList = (xs.toList.drop off).take 1 ∧ (tyAgg P t = some true → ∃ ys, a = .agg ys) ∧ (tyAgg P t ≠ some true → a.cells = #[a]) := by
  have h0 : ((xs.toList.drop off).take 1).length = 1 := hx.length
  obtain ⟨v, hv⟩ := List.length_eq_one_iff.1 h0
  have hq : xs[off]? = some v := by
    have : ((xs.toList.drop off).take 1)[0]? = some v := by rw [hv]; rfl
    rw [List.getElem?_take] at this
    simpa using this
  have hx' : lfV [l] [v] := by rw [hv] at hx; exact hx
  have hc : v.cells = #[v] := by
    cases l
    · obtain ⟨⟨b, rfl⟩, _⟩ := hx'; rfl
    · obtain ⟨⟨b, rfl⟩, _⟩ := hx'; rfl
    · obtain ⟨⟨b, rfl⟩, _⟩ := hx'; rfl
  refine ⟨v, ?_, by rw [hc, hv], fun hh => (by rw [hna] at hh; cases hh), fun _ => hc⟩
  unfold part
  rw [Sem.run_bind, hag, Result.andThen_ok]
  simp [hq]
theorem part_run {n : Nat} {t : TypeId} {ls : List Lf} (h : lfs P n t = some ls) {xs : Array Value} {off : Nat} (hx : lfV ls ((xs.toList.drop off).take ls.length)) (w : World) :
    ∃ a, (part t xs off).run P w = .ok a w ∧ a.cells.toList = (xs.toList.drop off).take ls.length ∧ (tyAgg P t = some true → ∃ ys, a = .agg ys) ∧ (tyAgg P t ≠ some true → a.cells = #[a]) := by
  obtain ⟨d, i, hu, hi, hs⟩ := lfs_und h
  have hl := lfs_len h
  have hsz : (sizeOf t).run P w = .ok i.size w := by simp [sizeOf, typeInfo, hi]
  cases n with
  | zero => simp [lfs] at h
  | succ n =>
    unfold lfs at h
    rw [hu] at h
    cases d <;> simp only [reduceCtorEq] at h
    case bool =>
      have hag : (isAgg t).run P w = .ok false w := by unfold isAgg; rw [Sem.run_bind, run_underlying hu]; rfl
      split at h
      · cases h; exact part_leaf hx w hag (by simp [tyAgg, hu])
      · cases h
    case int k =>
      have hag : (isAgg t).run P w = .ok false w := by unfold isAgg; rw [Sem.run_bind, run_underlying hu]; rfl
      split at h
      · cases h; exact part_leaf hx w hag (by simp [tyAgg, hu])
      · cases h
    case string =>
      have hag : (isAgg t).run P w = .ok false w := by unfold isAgg; rw [Sem.run_bind, run_underlying hu]; rfl
      split at h
      · cases h; exact part_leaf hx w hag (by simp [tyAgg, hu])
      · cases h
    case struct fs =>
      have hag : (isAgg t).run P w = .ok true w := by unfold isAgg; rw [Sem.run_bind, run_underlying hu]; rfl
      refine ⟨.agg (xs.extract off (off + i.size)), by unfold part; rw [Sem.run_bind, hag, Result.andThen_ok]; simp [hsz], ?_, fun _ => ⟨_, rfl⟩, fun hh => absurd (by simp [tyAgg, hu]) hh⟩
      simp only [Value.cells, Array.toList_extract]
      rw [hl, hs]; simp [List.extract]
    case array k e =>
      have hag : (isAgg t).run P w = .ok true w := by unfold isAgg; rw [Sem.run_bind, run_underlying hu]; rfl
      refine ⟨.agg (xs.extract off (off + i.size)), by unfold part; rw [Sem.run_bind, hag, Result.andThen_ok]; simp [hsz], ?_, fun _ => ⟨_, rfl⟩, fun hh => absurd (by simp [tyAgg, hu]) hh⟩
      simp only [Value.cells, Array.toList_extract]
      rw [hl, hs]; simp [List.extract]

def EqRuns (P : Program) (d : Nat) (t : TypeId) (ls : List Lf) : Prop := ∀ (w : World) (x y : Value), lfV ls x.cells.toList → lfV ls y.cells.toList → (tyAgg P t = some true → (∃ xs, x = .agg xs) ∧ ∃ ys, y = .agg ys) →
  (tyAgg P t ≠ some true → x.cells = #[x] ∧ y.cells = #[y]) → (Op.equalIn d t x y).run P w = .ok (eqV x.cells.toList y.cells.toList) w

theorem eq_fields {d n : Nat} (IH : ∀ t ls, lfs P n t = some ls → EqRuns P d t ls) (w : World) (xs ys : Array Value) {tot : Nat} (step : Array Value → Array Value → List (TypeId × Nat) → Sem Bool)
    (hnil : ∀ xs ys, (step xs ys []).run P w = .ok true w)
    (hcons : ∀ xs ys t o r (a b : Value) (c : Bool), (part t xs o).run P w = .ok a w → (part t ys o).run P w = .ok b w → (Op.equalIn d t a b).run P w = .ok c w → (step xs ys ((t, o) :: r)).run P w = if c then (step xs ys r).run P w else .ok false w) :
    ∀ (fs : List (TypeId × Nat)) (off : Nat) (ls : List Lf), lfF (lfs P n) fs off tot = some ls → lfV ls (xs.toList.drop off) → lfV ls (ys.toList.drop off) →
      (step xs ys fs).run P w = .ok (eqV (xs.toList.drop off) (ys.toList.drop off)) w
  | [], off, ls, h, hx, hy => by
    simp only [lfF] at h
    split at h
    · cases h
      have h1 := hx.length
      have h2 := hy.length
      rw [List.length_eq_zero_iff.1 h1, List.length_eq_zero_iff.1 h2, hnil]; rfl
    · cases h
  | (t, o) :: r, off, ls, h, hx, hy => by
    simp only [lfF] at h
    split at h
    · rename_i ho
      subst ho
      split at h
      · rename_i a ha
        split at h
        · rename_i b hb
          cases h
          obtain ⟨x1, x2⟩ := hx.split
          obtain ⟨y1, y2⟩ := hy.split
          obtain ⟨u, hu, hcu, hau, hou⟩ := part_run ha x1 w
          obtain ⟨v, hv, hcv, hav, hov⟩ := part_run ha y1 w
          have he := IH t a ha w u v (by rw [hcu]; exact x1) (by rw [hcv]; exact y1) (fun h => ⟨hau h, hav h⟩) (fun hna => ⟨hou hna, hov hna⟩)
          rw [hcons xs ys t o r u v _ hu hv he, hcu, hcv]
          rw [List.drop_drop] at x2 y2
          have e1 : xs.toList.drop o = (xs.toList.drop o).take a.length ++ xs.toList.drop (o + a.length) := by rw [← List.drop_drop, List.take_append_drop]
          have e2 : ys.toList.drop o = (ys.toList.drop o).take a.length ++ ys.toList.drop (o + a.length) := by rw [← List.drop_drop, List.take_append_drop]
          have e := eqV_append (c := xs.toList.drop (o + a.length)) (d := ys.toList.drop (o + a.length)) x1 y1
          rw [← e1, ← e2] at e
          rw [e]
          have ih := eq_fields IH w xs ys step hnil hcons r (o + a.length) b hb x2 y2
          cases hq : eqV ((xs.toList.drop o).take a.length) ((ys.toList.drop o).take a.length)
          · simp
          · simp [ih]
        · cases h
      · cases h
    · cases h

theorem eqV_leaf {d n : Nat} {t : TypeId} {ls : List Lf} (h : lfs P n t = some ls) (hna : tyAgg P t ≠ some true) : EqRuns P (d + 1) t ls := by
  intro w x y hx hy _ h1
  obtain ⟨hcx, hcy⟩ := h1 hna
  rw [hcx] at hx
  rw [hcy] at hy
  rw [hcx, hcy]
  cases n with
  | zero => simp [lfs] at h
  | succ n =>
    unfold lfs at h
    split at h
    · rename_i hu
      split at h
      · cases h
        obtain ⟨⟨p, rfl⟩, _⟩ := hx
        obtain ⟨⟨q, rfl⟩, _⟩ := hy
        rw [run_equalIn_bool' _ _ _ _ _ hu]; simp [eqV]
      · cases h
    · rename_i k hu
      split at h
      · cases h
        obtain ⟨⟨p, rfl⟩, _⟩ := hx
        obtain ⟨⟨q, rfl⟩, _⟩ := hy
        rw [run_equalIn_int _ _ _ _ _ _ _ hu]; simp [eqV]
      · cases h
    · rename_i hu
      split at h
      · cases h
        obtain ⟨⟨p, rfl⟩, _⟩ := hx
        obtain ⟨⟨q, rfl⟩, _⟩ := hy
        rw [run_equalIn_string _ _ _ _ _ hu]; simp [eqV, beq_toListBytes]
      · cases h
    · rename_i hu; exact absurd (by simp [tyAgg, hu]) hna
    · rename_i hu; exact absurd (by simp [tyAgg, hu]) hna
    · cases h

def stepF (d : Nat) (xs ys : Array Value) : List (TypeId × Nat) → Sem Bool
  | [] => pure true
  | (t, o) :: r => do
    let a ← part t xs o
    let b ← part t ys o
    let c ← Op.equalIn d t a b
    if c then stepF d xs ys r else pure false
theorem eqFields_step {d : Nat} {w : World} {xs ys : Array Value} : ∀ (fs : List Field), fs.all (fun f => f.name != "_") = true → (Op.eqFields d xs ys fs).run P w = (stepF d xs ys (fs.map fun f => (f.type, f.offset))).run P w
  | [], _ => rfl
  | f :: fs, h => by
    simp only [List.all_cons, Bool.and_eq_true, bne_iff_ne] at h
    simp only [Op.eqFields, List.map_cons, stepF, h.1, ne_eq, not_false_eq_true, if_true, Sem.run_bind]
    congr 1; funext a w1
    congr 1; funext b w2
    congr 1; funext c w3
    cases c
    · simp
    · simpa using eqFields_step fs h.2
theorem eqItems_step {d c : Nat} {e : TypeId} {w : World} {xs ys : Array Value} : ∀ (is : List Nat), (Op.eqItems d e c xs ys is).run P w = (stepF d xs ys (is.map fun i => (e, i * c))).run P w
  | [] => rfl
  | i :: is => by
    simp only [Op.eqItems, List.map_cons, stepF, Sem.run_bind]
    congr 1; funext a w1
    congr 1; funext b w2
    congr 1; funext c w3
    cases c
    · simp
    · simpa using eqItems_step is

theorem eq_runs (d : Nat) : ∀ (n : Nat) (t : TypeId) (ls : List Lf), lfs P n t = some ls → EqRuns P (d + n) t ls
  | 0, t, ls, h => by simp [lfs] at h
  | n + 1, t, ls, h => by
    by_cases hag : tyAgg P t = some true
    · intro w x y hx hy hagg _
      obtain ⟨⟨xs, rfl⟩, ys, rfl⟩ := hagg hag
      simp only [Value.cells] at hx hy ⊢
      unfold lfs at h
      split at h
      · rename_i hu; simp [tyAgg, hu] at hag
      · rename_i hu; simp [tyAgg, hu] at hag
      · rename_i hu; simp [tyAgg, hu] at hag
      · rename_i fs hu
        split at h
        · rename_i hc
          simp only [Bool.and_eq_true, Bool.not_eq_true'] at hc
          have hfs : P.fieldsOf t = fs := by simp [Program.fieldsOf, hu]
          rw [← Nat.add_assoc, run_equalIn_struct w (d + n) t xs ys (by rw [hfs]; exact hu) hc.2, hfs, eqFields_step _ hc.1]
          exact eq_fields (fun t ls h => eq_runs d n t ls h) w xs ys (stepF (d + n)) (fun _ _ => rfl) (fun xs ys t o r a b c h1 h2 h3 => by
            simp only [stepF, Sem.run_bind, h1, h2, h3, Result.andThen_ok]; cases c <;> simp) _ 0 ls h (by simpa using hx) (by simpa using hy)
        · cases h
      · rename_i k e hu
        split at h
        · rename_i hie
          obtain ⟨i, hi⟩ := Option.isSome_iff_exists.1 hie
          rw [← Nat.add_assoc, run_equalIn_array w (d + n) xs ys hu hi, eqItems_step]
          exact eq_fields (fun t ls h => eq_runs d n t ls h) w xs ys (stepF (d + n)) (fun _ _ => rfl) (fun xs ys t o r a b c h1 h2 h3 => by
            simp only [stepF, Sem.run_bind, h1, h2, h3, Result.andThen_ok]; cases c <;> simp) _ 0 ls h (by simpa using hx) (by simpa using hy)
        · cases h
      · cases h
    · exact eqV_leaf h hag

theorem eq_sound {S : Nat → Prop} {w : World} {g : Ghost} : ∀ {ls : List Lf} {as : List AVal} {us : List Value}, lfOk ls as = true → us.length = as.length → (∀ (j : Nat) (y : AVal), as[j]? = some y → ∃ u, us[j]? = some u ∧ Rep S w g y u) →
    lfV ls us ∧ ∀ {bs : List AVal} {vs : List Value}, lfOk ls bs = true → vs.length = bs.length → (∀ (j : Nat) (y : AVal), bs[j]? = some y → ∃ u, vs[j]? = some u ∧ Rep S w g y u) → eqV us vs = eqC as bs
  | [], [], [], _, _, _ => ⟨trivial, fun {bs vs} h1 h2 _ => by
    cases bs with
    | nil => cases vs with
      | nil => rfl
      | cons v vs => simp at h2
    | cons b bs => simp [lfOk] at h1⟩
  | [], [], _ :: _, _, h, _ => by simp at h
  | [], _ :: _, _, h, _, _ => by simp [lfOk] at h
  | _ :: _, [], _, h, _, _ => by simp [lfOk] at h
  | _ :: _, _ :: _, [], _, h, _ => by simp at h
  | .b :: ls, x :: as, u :: us, h, hl, hr => by
    obtain ⟨u', e, hu⟩ := hr 0 x rfl
    simp at e; subst e
    cases x <;> simp [lfOk] at h
    cases hu
    obtain ⟨k1, k2⟩ := eq_sound h (by simpa using hl) (fun j y hj => by simpa using hr (j + 1) y (by simpa using hj))
    refine ⟨⟨⟨_, rfl⟩, k1⟩, fun {bs vs} h1 h2 h3 => ?_⟩
    cases bs with
    | nil => simp [lfOk] at h1
    | cons b bs => cases vs with
      | nil => simp at h2
      | cons v vs =>
        obtain ⟨v', e, hv⟩ := h3 0 b rfl
        simp at e; subst e
        cases b <;> simp [lfOk] at h1
        cases hv
        simp only [eqV, eqC]
        rw [k2 h1 (by simpa using h2) (fun j y hj => by simpa using h3 (j + 1) y (by simpa using hj))]
  | .i k :: ls, x :: as, u :: us, h, hl, hr => by
    obtain ⟨u', e, hu⟩ := hr 0 x rfl
    simp at e; subst e
    cases x <;> simp [lfOk] at h
    obtain ⟨rfl, h⟩ := h
    cases hu
    obtain ⟨k1, k2⟩ := eq_sound h (by simpa using hl) (fun j y hj => by simpa using hr (j + 1) y (by simpa using hj))
    refine ⟨⟨⟨_, rfl⟩, k1⟩, fun {bs vs} h1 h2 h3 => ?_⟩
    cases bs with
    | nil => simp [lfOk] at h1
    | cons b bs => cases vs with
      | nil => simp at h2
      | cons v vs =>
        obtain ⟨v', e, hv⟩ := h3 0 b rfl
        simp at e; subst e
        cases b <;> simp [lfOk] at h1
        obtain ⟨rfl, h1⟩ := h1
        cases hv
        simp only [eqV, eqC]
        rw [k2 h1 (by simpa using h2) (fun j y hj => by simpa using h3 (j + 1) y (by simpa using hj))]
  | .s :: ls, x :: as, u :: us, h, hl, hr => by
    obtain ⟨u', e, hu⟩ := hr 0 x rfl
    simp at e; subst e
    cases x <;> simp [lfOk] at h
    cases hu
    obtain ⟨k1, k2⟩ := eq_sound h (by simpa using hl) (fun j y hj => by simpa using hr (j + 1) y (by simpa using hj))
    refine ⟨⟨⟨_, rfl⟩, k1⟩, fun {bs vs} h1 h2 h3 => ?_⟩
    cases bs with
    | nil => simp [lfOk] at h1
    | cons b bs => cases vs with
      | nil => simp at h2
      | cons v vs =>
        obtain ⟨v', e, hv⟩ := h3 0 b rfl
        simp at e; subst e
        cases b <;> simp [lfOk] at h1
        cases hv
        simp only [eqV, eqC]
        rw [k2 h1 (by simpa using h2) (fun j y hj => by simpa using h3 (j + 1) y (by simpa using hj))]

/-- '==' on two structs, or two arrays. -/
theorem agg_equal {S : Nat → Prop} {w : World} {g : Ghost} {t : TypeId} {ls : List Lf} {as bs : List AVal} {a b : Value} (ht : tyEq P t = some ls) (h1 : lfOk ls as = true) (h2 : lfOk ls bs = true) (ha : Rep S w g (.agg as) a) (hb : Rep S w g (.agg bs) b) (op : BinOp) (p q : Operand) :
    (eqGuard op t p q a b).run P w = .ok () w ∧ (Op.equal t a b).run P w = .ok (eqC as bs) w := by
  unfold tyEq at ht
  split at ht
  · rename_i hc
    cases ha with
    | agg _ _ xs hl _ hr =>
    cases hb with
    | agg _ _ ys hl' _ hr' =>
    have conv : ∀ {arr : Array Value} {cs : List AVal}, arr.size = cs.length → (∀ (j : Nat) (y : AVal), cs[j]? = some y → Rep S w g y (arr.getD j undef)) → ∀ (j : Nat) (y : AVal), cs[j]? = some y → ∃ u, arr.toList[j]? = some u ∧ Rep S w g y u := by
      intro arr cs hl hr j y hj
      have hlt : j < arr.size := by have := (List.getElem?_eq_some_iff.1 hj).1; omega
      exact ⟨arr.getD j undef, by simp [Array.getD, hlt], hr j y hj⟩
    obtain ⟨k1, k2⟩ := eq_sound h1 (us := xs.toList) (by simpa using hl) (conv hl hr)
    obtain ⟨j1, _⟩ := eq_sound h2 (us := ys.toList) (by simpa using hl') (conv hl' hr')
    have hk := k2 h2 (vs := ys.toList) (by simpa using hl') (conv hl' hr')
    have hrun := eq_runs (P := P) 9992 8 t ls ht w (.agg xs) (.agg ys) k1 j1 (fun _ => ⟨⟨_, rfl⟩, _, rfl⟩) (fun hh => absurd hc.1 hh)
    constructor
    · unfold eqGuard
      cases op <;> simp [hc.2]
    · unfold Op.equal Op.maxDepth
      rw [hrun]; simp only [Value.cells]; rw [hk]
  · cases ht
end
end Go.Awp

/- That the model's reading operations do what the trees say. -/
namespace Go.Awp
section
variable {P : Program} {S : Nat → Prop} {w : World} {g : Ghost} {m : List Blk}

theorem und_of_agg {t : TypeId} {b : Bool} (h : tyAgg P t = some b) : ∃ d, P.underlying t = some d ∧ (match d with | .struct _ | .array _ _ => true | _ => false) = b := by
  unfold tyAgg at h
  cases hq : P.underlying t with
  | none => simp [hq] at h
  | some d => exact ⟨d, rfl, by cases d <;> simp [hq] at h <;> simp [h]⟩
theorem run_isAgg {t : TypeId} {b : Bool} (h : tyAgg P t = some b) (w : World) : (isAgg t).run P w = .ok b w := by
  obtain ⟨d, hd, hb⟩ := und_of_agg h
  unfold isAgg
  rw [Sem.run_bind, run_underlying hd]
  simp only [Result.andThen_ok]
  subst hb
  cases d <;> rfl
theorem run_sizeOf {t : TypeId} {n : Nat} (h : tySize P t = some n) (w : World) : (sizeOf t).run P w = .ok n w := by
  unfold tySize at h
  cases hq : P.info? t with
  | none => simp [hq] at h
  | some i => simp [hq] at h; subst h; simp [sizeOf, typeInfo, hq]
theorem tyElem_und {t e : TypeId} (h : tyElem P t = some e) : P.underlying t = some (.slice e) := by
  unfold tyElem at h
  split at h
  · rename_i e' he; simp at h; subst h; exact he
  · cases h
theorem tyArr_und {t e : TypeId} {n : Nat} (h : tyArr P t = some (n, e)) : P.underlying t = some (.array n e) := by
  unfold tyArr at h
  split at h
  · rename_i n' e' he; simp at h; obtain ⟨rfl, rfl⟩ := h; exact he
  · cases h
theorem tyInt_und {t : TypeId} {k : IntKind} (h : tyInt P t = some k) : P.underlying t = some (.int k) := by
  unfold tyInt at h
  split at h
  · rename_i k' he; simp at h; subst h; exact he
  · cases h
theorem tyMap_und {t : TypeId} {x : TypeId × TypeId} (h : tyMap P t = some x) : P.underlying t = some (.map x.1 x.2) := by
  unfold tyMap at h
  split at h
  · rename_i hu; cases h; exact hu
  · cases h
theorem tyStr_und {t : TypeId} (h : tyStr P t = true) : P.underlying t = some .string := by
  unfold tyStr at h
  split at h
  · assumption
  · cases h
theorem tyFld_und {t : TypeId} {f o : Nat} {ft : TypeId} (h : tyFld P t f = some (o, ft)) : ∃ fs d, P.underlying t = some (.struct fs) ∧ fs[f]? = some d ∧ d.offset = o ∧ d.type = ft := by
  unfold tyFld at h
  split at h
  · rename_i fs hf
    cases hq : fs[f]? with
    | none => simp [hq] at h
    | some d => simp [hq] at h; exact ⟨fs, d, hf, hq, h.1, h.2⟩
  · cases h
theorem addr_add (c o n : Nat) : (⟨c, o, none⟩ : Addr).add n = ⟨c, o + n, none⟩ := by unfold Addr.add; split <;> simp_all

theorem getD_some {arr : Array Value} {j : Nat} (h : j < arr.size) : arr[j]? = some (arr.getD j undef) := by
  simp [Array.getD, h]

theorem partA_part {t : TypeId} {cs : List AVal} {off : Nat} {K : AVal → Prop} {arr : Array Value} (h : partA P t cs off K) (hc : CellsRep S w g cs arr) :
    ∃ v u, K v ∧ (part t arr off).run P w = .ok u w ∧ Rep S w g v u := by
  obtain ⟨hl, h1, hr⟩ := hc
  unfold partA at h
  split at h
  · rename_i ha
    split at h
    · rename_i sz hsz
      obtain ⟨hle, hK⟩ := h
      refine ⟨_, .agg (arr.extract off (off + sz)), hK, ?_, ?_⟩
      · simp [part, run_isAgg ha, run_sizeOf hsz]
      · refine .agg g _ _ (by simp; omega) (fun u hu => ?_) fun j y hj => ?_
        · obtain ⟨i, hi, rfl⟩ := Array.mem_iff_getElem.1 hu
          simp only [Array.getElem_extract]
          exact h1 _ (Array.getElem_mem _)
        · rw [List.getElem?_take] at hj
          split at hj
          · rename_i hlt
            rw [List.getElem?_drop] at hj
            have := hr (off + j) y hj
            have e : (arr.extract off (off + sz)).getD j undef = arr.getD (off + j) undef := by
              have h2 : off + j < arr.size := by rw [hl]; omega
              have h3 : j < min (off + sz) arr.size - off := by omega
              simp [Array.getD, h2, h3]
            rw [e]; exact this
          · cases hj
    · exact h.elim
  · rename_i ha
    split at h
    · rename_i v hv
      have hlt : off < arr.size := by rw [hl]; exact (List.getElem?_eq_some_iff.1 hv).1
      refine ⟨v, arr.getD off undef, h, ?_, hr off v hv⟩
      simp [part, run_isAgg ha, hlt]
    · exact h.elim
  · exact h.elim

theorem partA_load {t : TypeId} {cs : List AVal} {off : Nat} {K : AVal → Prop} (h : partA P t cs off K) (c base : Nat) (f : Nat → Value) (h1 : ∀ j, (f j).oneCell' = true)
    (hc : ∀ (j : Nat) (y : AVal), cs[j]? = some y → w.cell? ⟨c, base + j, none⟩ = some (f j)) (hr : ∀ (j : Nat) (y : AVal), cs[j]? = some y → Rep S w g y (f j)) :
    ∃ v u, K v ∧ (loadVar t ⟨c, base + off, none⟩).run P w = .ok u w ∧ Rep S w g v u := by
  unfold partA at h
  split at h
  · rename_i ha
    split at h
    · rename_i sz hsz
      obtain ⟨hle, hK⟩ := h
      let l := (List.range sz).map fun j => f (off + j)
      have hll : l.length = sz := by simp [l]
      have hlo := run_loadCells_list (P := P) w ⟨c, base + off, none⟩ l (fun j v hv => by
        rw [addr_add]
        have hj : j < sz := by have := (List.getElem?_eq_some_iff.1 hv).1; omega
        have : v = f (off + j) := by simp [l, hj] at hv; exact hv.symm
        have hq : off + j < cs.length := by omega
        rw [this, ← hc (off + j) _ (List.getElem?_eq_getElem hq), Nat.add_assoc])
      rw [hll] at hlo
      refine ⟨_, .agg l.toArray, hK, ?_, ?_⟩
      · simp [loadVar, run_isAgg ha, run_sizeOf hsz, hlo]
      · refine .agg g _ _ (by simp [hll]; omega) (fun u hu => ?_) fun j y hj => ?_
        · simp [l] at hu; obtain ⟨j, _, rfl⟩ := hu; exact h1 _
        · rw [List.getElem?_take] at hj
          split at hj
          · rename_i hlt
            rw [List.getElem?_drop] at hj
            have e : l.toArray.getD j undef = f (off + j) := by simp [l, Array.getD, hlt]
            rw [e]; exact hr _ _ hj
          · cases hj
    · exact h.elim
  · rename_i ha
    split at h
    · rename_i v hv
      have hcell := hc off v hv
      refine ⟨v, f off, h, ?_, hr off v hv⟩
      simp [loadVar, run_isAgg ha, run_load, hcell]
    · exact h.elim
  · exact h.elim

theorem kLoad_sound (hI : Inv S w g m) {t : TypeId} {x : AVal} {a : Value} {K : AVal → Prop} (h : kLoad P t x m K) (hx : Rep S w g x a) :
    ∃ v u, K v ∧ (Instr.loadAt t a).run P w = .ok u w ∧ Rep S w g v u := by
  unfold kLoad at h
  split at h
  · rename_i b off
    cases hx with
    | ptr g b off x c hb hc hl =>
    split at h
    · rename_i fz cs hm
      obtain ⟨x', c', arr, e, h1, _, h3, h4, ⟨h5, h6, h7⟩, _⟩ := hI.tie b _ hm
      obtain rfl := Option.some.inj (hb.symm.trans h1)
      obtain rfl := Option.some.inj (hc.symm.trans h3)
      have := partA_load (S := S) (w := w) (g := g) h c 0 (fun j => if j < arr.size then arr.getD j undef else .bool false) (fun j => by
          show Value.oneCell' (if _ then _ else _) = true
          split
          · exact h6 _ (by simp)
          · rfl) (fun j y hj => by
          have hlt : j < arr.size := by rw [h5]; exact (List.getElem?_eq_some_iff.1 hj).1
          rw [Nat.zero_add, cell_of_row w c j arr e (0, 0) h4, if_pos hlt, getD_some hlt]) (fun j y hj => by
          have hlt : j < arr.size := by rw [h5]; exact (List.getElem?_eq_some_iff.1 hj).1
          rw [if_pos hlt]; exact h7 j y hj)
      simpa [Instr.loadAt, Instr.sureAddr] using this
    · exact h.elim
  · rename_i cs off
    cases hx with
    | ept g cs off blk base f hS h1 hc hr =>
    have := partA_load (S := S) (w := w) (g := g) h blk base f h1 hc (fun j y hj => (hr j y hj).mono_g (noG_le g))
    simpa [Instr.loadAt, Instr.sureAddr] using this
  · rename_i b len i off
    cases hx with
    | spt g b len i off x v hp hb hle hv =>
    split at h
    · rename_i fz sz rows hm
      obtain ⟨x', e, xs, h1, h2, h3, h4, h5, h6, ⟨h7, h8, h9⟩, _⟩ := hI.tie b _ hm
      obtain rfl := Option.some.inj (hb.symm.trans h1)
      obtain ⟨hlen, hi, h⟩ := h
      obtain ⟨c, hcar, rfl⟩ := hv (h3.trans hlen)
      have hrow : rows[i]? = some (rows.getD i .dead) := by
        have : i < rows.length := by omega
        simp [List.getD, List.getElem?_eq_getElem this]
      have hcells := h6.cells (h5.symm.trans hcar)
      have := partA_load (S := S) (w := w) (g := g) h c (i * sz) (fun j => if i * sz + j < xs.length then xs.getD (i * sz + j) undef else .bool false) (fun j => by
          show Value.oneCell' (if _ then _ else _) = true
          split
          · rename_i hj; refine h7 _ ?_; rw [List.getD_eq_getElem?_getD, List.getElem?_eq_getElem hj]; exact List.getElem_mem hj
          · rfl) (fun j y hj => by
          obtain ⟨u, hu, _⟩ := h9 i _ j y hrow hj
          have hlt := (List.getElem?_eq_some_iff.1 hu).1
          have hcc := hcells _ _ hu
          rw [addr_add, Nat.zero_add] at hcc
          rw [hcc, if_pos hlt, List.getD_eq_getElem?_getD, hu]; rfl) (fun j y hj => by
          obtain ⟨u, hu, hr⟩ := h9 i _ j y hrow hj
          have hlt := (List.getElem?_eq_some_iff.1 hu).1
          rw [if_pos hlt, List.getD_eq_getElem?_getD, hu]
          exact hr.mono_g (noG_le g))
      rw [h4]
      simpa [Instr.loadAt, Instr.sureAddr] using this
    · exact h.elim
  · exact h.elim

theorem kFieldAddr_sound (hI : Inv S w g m) {t : TypeId} {f : Nat} {x : AVal} {a : Value} {K : AVal → Prop} (h : kFieldAddr P t f x m K) (hx : Rep S w g x a) :
    ∃ v u, K v ∧ (Instr.fieldAt t a f).run P w = .ok u w ∧ Rep S w g v u := by
  unfold kFieldAddr at h
  split at h
  · rename_i o ho
    unfold tyOff at ho
    split at ho
    · rename_i o' ft hf
      split at ho
      · cases ho
      · rename_i sz hne hsz
        simp at ho; subst ho
        obtain ⟨fs, d, hu, hd, h1, h2⟩ := tyFld_und hf
        subst h1; subst h2
        have hnz : ¬ sz = 0 := fun e => hne e
        have hrun : ∀ c off : Nat, (Instr.fieldAt t (.pointer (some ⟨c, off, none⟩)) f).run P w = .ok (.pointer (some ⟨c, off + d.offset, none⟩)) w := fun c off => by
          simp [Instr.fieldAt, run_underlying hu, hd, Instr.sureAddr, fieldPlace, run_sizeOf hsz, hnz, addr_add]
        split at h
        · cases hx with
          | ptr g b off x c hb hc hl => exact ⟨_, _, h, hrun _ _, .ptr g _ _ x c hb hc hl⟩
        · cases hx with
          | ept g cs off blk base f hS h1 hc hr => exact ⟨_, _, h, by rw [hrun, Nat.add_assoc], .ept g _ _ blk base f hS h1 hc hr⟩
        · cases hx with
          | spt g b len i off x v hp hb hle hv =>
            split at h
            · rename_i fz sz' rows hm
              obtain ⟨x', e, xs, h1, h2, h3, _⟩ := hI.tie _ _ hm
              obtain rfl := Option.some.inj (hb.symm.trans h1)
              obtain ⟨c, hcar, rfl⟩ := hv (h3.trans h.1)
              exact ⟨_, _, h.2, by rw [hrun, Nat.add_assoc], .spt g _ _ _ _ x _ ⟨_, rfl⟩ hb hle fun _ => ⟨c, hcar, rfl⟩⟩
            · exact h.elim
        · exact h.elim
      · cases ho
    · cases ho
  · exact h.elim

theorem kField_sound {t : TypeId} {f : Nat} {x : AVal} {a : Value} {K : AVal → Prop} (h : kField P t f x K) (hx : Rep S w g x a) :
    ∃ v u, K v ∧ (Instr.field t a f).run P w = .ok u w ∧ Rep S w g v u := by
  unfold kField at h
  split at h
  · rename_i o ft hf
    obtain ⟨fs, d, hu, hd, h1, h2⟩ := tyFld_und hf
    subst h1; subst h2
    split at h
    · cases hx with
      | agg g cs arr hl h1 hr =>
        obtain ⟨v, u, hK, hrun, hr'⟩ := partA_part h ⟨hl, h1, hr⟩
        exact ⟨v, u, hK, by simp [Instr.field, run_underlying hu, hd, asAgg, hrun], hr'⟩
    · exact h.elim
  · exact h.elim

theorem kIndexAddr_sound (hI : Inv S w g m) {t : TypeId} {x i : AVal} {a ix : Value} {K : AVal → Prop} (h : kIndexAddr P t x i m K) (hx : Rep S w g x a) (hi : Rep S w g i ix) :
    ∃ v u, K v ∧ (Instr.indexAt t a ix).run P w = .ok u w ∧ Rep S w g v u := by
  unfold kIndexAddr at h
  split at h
  · rename_i k n
    cases hi with
    | int g k n =>
    split at h
    · rename_i e he
      have hu := tyElem_und he
      split at h
      · rename_i sz rows
        obtain ⟨hsz, ⟨h0, h1⟩, hK⟩ := h
        have hn : n.toNat < rows.length := by omega
        cases hx with
        | imm0 g sz a cap => simp at hn
        | imm g sz rows blk base len cap f hS hlen hcap hw h1' hc hr =>
          have hrow : rows[n.toNat]? = some (rows.getD n.toNat .dead) := by simp [List.getD, List.getElem?_eq_getElem hn]
          refine ⟨_, .pointer (some ⟨blk, base + n.toNat * sz + 0, none⟩), hK, ?_, .ept g _ 0 blk (base + n.toNat * sz) (f n.toNat) hS (h1' _) (fun j y hj => hc _ _ j y hrow hj) (fun j y hj => hr _ _ j y hrow hj)⟩
          subst hlen
          simp [Instr.indexAt, asIntOf, run_underlying hu, h0, h1, run_sizeOf hsz, addr_add]
      · rename_i b len
        split at h
        · rename_i fz sz rows hm
          obtain ⟨hlen, hsz, ⟨h0, h1⟩, hK⟩ := h
          cases hx with
          | sl g b len x v hp hb hle hv =>
            obtain ⟨x', e', xs, k1, k2, k3, k4, k5, k6, _⟩ := hI.tie b _ hm
            obtain rfl := Option.some.inj (hb.symm.trans k1)
            obtain rfl := hv (k3.trans hlen)
            subst hlen
            rcases k6.2 with ⟨_, hz⟩ | ⟨c, cap, cur, hcur, _, hh, _⟩
            · rw [hz] at h1; omega
            · have hcar : x.car = some c := by rw [k5, hcur]; rfl
              refine ⟨_, .pointer (some ⟨c, n.toNat * sz + 0, none⟩), hK, ?_, .spt g b _ _ 0 x _ ⟨_, rfl⟩ hb hle fun _ => ⟨c, hcar, by rw [k4]⟩⟩
              rw [hcur]
              simp [Instr.indexAt, asIntOf, run_underlying hu, h0, h1, run_sizeOf hsz, addr_add]
        · exact h.elim
      · exact h.elim
    · split at h
      · rename_i len e ha
        have hu := tyArr_und ha
        split at h
        · rename_i sz hsz
          obtain ⟨⟨h0, h1⟩, h⟩ := h
          split at h
          · cases hx with
            | ptr g b off x c hb hc hl =>
              refine ⟨_, .pointer (some ⟨c, _ + n.toNat * sz, none⟩), h, ?_, .ptr g _ _ x c hb hc hl⟩
              simp [Instr.indexAt, asIntOf, run_underlying hu, h0, h1, run_sizeOf hsz, addr_add, Instr.sureAddr]
          · cases hx with
            | ept g cs off blk base f hS k1 hc hr =>
              refine ⟨_, .pointer (some ⟨blk, base + (_ + n.toNat * sz), none⟩), h, ?_, .ept g _ _ blk base f hS k1 hc hr⟩
              simp [Instr.indexAt, asIntOf, run_underlying hu, h0, h1, run_sizeOf hsz, addr_add, Instr.sureAddr, Nat.add_assoc]
          · exact h.elim
        · exact h.elim
      · exact h.elim
  · exact h.elim

theorem kIndex_sound {t : TypeId} {x i : AVal} {a ix : Value} {K : AVal → Prop} (h : kIndex P t x i K) (hx : Rep S w g x a) (hi : Rep S w g i ix) :
    ∃ v u, K v ∧ (Instr.index t a ix).run P w = .ok u w ∧ Rep S w g v u := by
  unfold kIndex at h
  split at h
  · rename_i k n
    cases hi with
    | int g k n =>
    split at h
    · rename_i s
      cases hx with
      | str g s =>
        obtain ⟨ht, ⟨h0, h1⟩, hK⟩ := h
        have hu := tyStr_und ht
        have hn : n.toNat < s.size := by omega
        refine ⟨_, .int .u8 (byteA s n.toNat), hK, ?_, .int g _ _⟩
        have e : s[n.toNat]? = some s[n.toNat] := by simp [hn]
        have e2 : (s.data.toList.getD n.toNat 0) = s[n.toNat] := by
          have : n.toNat < s.data.size := hn
          rw [List.getD_eq_getElem?_getD, Array.getElem?_toList, Array.getElem?_eq_getElem this]; rfl
        rw [byteA, e2]
        simp [Instr.index, asIntOf, run_underlying hu, h0, e]
    · split at h
      · rename_i len e ha
        have hu := tyArr_und ha
        split at h
        · rename_i sz hsz
          obtain ⟨⟨h0, h1⟩, h⟩ := h
          cases hx with
          | agg g cs arr hl k1 hr =>
            obtain ⟨v, u, hK, hrun, hr'⟩ := partA_part h ⟨hl, k1, hr⟩
            exact ⟨v, u, hK, by simp [Instr.index, asIntOf, run_underlying hu, h0, h1, run_sizeOf hsz, hrun], hr'⟩
        · exact h.elim
      · exact h.elim
    · exact h.elim
  · exact h.elim

theorem kExtract_sound {x : AVal} {i : Nat} {a : Value} {K : AVal → Prop} (h : kExtract x i K) (hx : Rep S w g x a) :
    ∃ v u, K v ∧ (Instr.extract a i).run P w = .ok u w ∧ Rep S w g v u := by
  unfold kExtract at h
  split at h
  · split at h
    · rename_i vs v hv
      cases hx with
      | tup g cs arr hl hr =>
        have hlt : i < arr.size := by rw [hl]; exact (List.getElem?_eq_some_iff.1 hv).1
        refine ⟨v, arr.getD i undef, h, ?_, hr i v hv⟩
        simp [Instr.extract, hlt]
    · exact h.elim
  · exact h.elim

theorem kPick_sound {c a b : AVal} {vc va vb : Value} {K : AVal → Prop} (h : kPick c a b K) (hc : Rep S w g c vc) (ha : Rep S w g a va) (hb : Rep S w g b vb) :
    ∃ v t, K v ∧ vc = .bool t ∧ Rep S w g v (if t then va else vb) := by
  unfold kPick at h
  split at h
  · rename_i t
    cases hc with
    | bool g t =>
      refine ⟨_, t, h, rfl, ?_⟩
      unfold pickA
      split
      · cases ha; cases hb; cases t <;> exact .bool _ _
      · cases t
        · exact hb
        · exact ha
  · exact h.elim

theorem kUn_sound {op : UnOp} {x : AVal} {a : Value} {K : AVal → Prop} (h : kUn op x K) (hx : Rep S w g x a) :
    ∃ v u, K v ∧ (Op.unary op a).run P w = .ok u w ∧ Rep S w g v u := by
  unfold kUn at h
  split at h
  · cases hx; exact ⟨_, _, h, rfl, .int _ _ _⟩
  · cases hx; exact ⟨_, _, h, rfl, .int _ _ _⟩
  · cases hx; exact ⟨_, _, h, rfl, .bool _ _⟩
  · exact h.elim

theorem kConv_sound {s d : TypeId} {x : AVal} {a : Value} {K : AVal → Prop} (h : kConv P s d x K) (hx : Rep S w g x a) :
    ∃ v u, K v ∧ (convert s d a).run P w = .ok u w ∧ Rep S w g v u := by
  unfold kConv at h
  split at h
  · rename_i k k' n hk
    cases hx
    obtain ⟨hs, hK⟩ := h
    obtain ⟨d', hd'⟩ := Option.isSome_iff_exists.1 hs
    exact ⟨_, .int k (k.wrap n), hK, by simp [convert, run_underlying hd', run_underlying (tyInt_und hk), Conv.intToInt], .int _ _ _⟩
  · exact h.elim

theorem kBinInt_sound {op : BinOp} {k : IntKind} {a b : Int} {K : AVal → Prop} {t : TypeId} (h : kBinInt op k a b K) :
    ∃ v u, K v ∧ (binOp op t (.int k a) (.int k b)).run P w = .ok u w ∧ Rep S w g v u := by
  cases op <;> simp only [kBinInt] at h
  case quo => exact ⟨_, .int k (k.wrap (a.tdiv b)), h.2, by simp [binOp, Op.intDiv, h.1], .int _ _ _⟩
  case rem => exact ⟨_, .int k (a.tmod b), h.2, by simp [binOp, Op.intDiv, h.1], .int _ _ _⟩
  all_goals first
    | (exact h.elim)
    | (refine ⟨_, _, h, ?_, .int g _ _⟩; simp [binOp, Op.intArith]; done)
    | (refine ⟨_, _, h, ?_, .int g _ _⟩; simp [binOp]; rfl)
    | (refine ⟨_, _, h, ?_, .bool g _⟩; simp [binOp, Op.intCmp]; done)

theorem kBinStr_sound {op : BinOp} {a b : ByteArray} {K : AVal → Prop} {t : TypeId} (h : kBinStr op a b K) :
    ∃ v u, K v ∧ (binOp op t (.string a) (.string b)).run P w = .ok u w ∧ Rep S w g v u := by
  cases op <;> simp only [kBinStr] at h
  case add =>
    refine ⟨_, .string (a ++ b), h.2, ?_, .str _ _⟩
    have h1 : ¬ (9223372036854775807 : Int) < (a.size : Int) + (b.size : Int) := by omega
    simp [binOp, Op.stringOp, h1]
  all_goals first
    | (exact h.elim)
    | (refine ⟨_, _, h, ?_, .bool g _⟩; simp [binOp, Op.stringOp]; rfl)

theorem equal_bool {t : TypeId} (hu : P.underlying t = some .bool) (a b : Bool) : (Op.equal t (.bool a) (.bool b)).run P w = .ok (a == b) w := by
  show (Op.equalIn (9999 + 1) t (.bool a) (.bool b)).run P w = _
  rw [Op.equalIn, Sem.run_bind, run_underlying hu]
  rfl
theorem binOp_eq_bool {t : TypeId} (hu : P.underlying t = some .bool) (a b : Bool) : (binOp .eql t (.bool a) (.bool b)).run P w = .ok (.bool (a == b)) w := by
  show ((do pure (.bool (← Op.equal t (.bool a) (.bool b)))) : Sem Value).run P w = _
  rw [Sem.run_bind, equal_bool hu]; rfl
theorem binOp_ne_bool {t : TypeId} (hu : P.underlying t = some .bool) (a b : Bool) : (binOp .neq t (.bool a) (.bool b)).run P w = .ok (.bool (!(a == b))) w := by
  show ((do pure (.bool (!(← Op.equal t (.bool a) (.bool b))))) : Sem Value).run P w = _
  rw [Sem.run_bind, equal_bool hu]; rfl

theorem kBin_sound {op : BinOp} {t : TypeId} {x y : AVal} {a b : Value} {K : AVal → Prop} (h : kBin P op t x y K) (hx : Rep S w g x a) (hy : Rep S w g y b) (p q : Operand) :
    ∃ v u, K v ∧ ((do eqGuard op t p q a b; binOp op t a b) : Sem Value).run P w = .ok u w ∧ Rep S w g v u := by
  unfold kBin at h
  split at h
  · rename_i k a k' b
    cases hx; cases hy
    rw [eqGuard_at_int]
    split at h
    · exact ⟨_, .int k (k.wrap (a * 2 ^ (min b.toNat k.bits))), h.2, by
        have : ¬ b < 0 := by omega
        simp [binOp, Op.shift, this], .int _ _ _⟩
    · exact ⟨_, .int k (a.fdiv (2 ^ (min b.toNat k.bits))), h.2, by
        have : ¬ b < 0 := by omega
        simp [binOp, Op.shift, this], .int _ _ _⟩
    · obtain ⟨rfl, h⟩ := h
      obtain ⟨v, u, hK, hr, hv⟩ := kBinInt_sound (P := P) (S := S) (w := w) (g := g) (t := t) h
      exact ⟨v, u, hK, by simp [hr], hv⟩
  · cases hx; cases hy
    rw [eqGuard_at_string]
    obtain ⟨v, u, hK, hr, hv⟩ := kBinStr_sound (P := P) (S := S) (w := w) (g := g) (t := t) h
    exact ⟨v, u, hK, by simp [hr], hv⟩
  · cases hx; cases hy
    rw [eqGuard_at_bool]
    split at h
    · rename_i hu
      exact ⟨_, _, h, by rw [Sem.run_bind, Sem.run_pure, Result.andThen_ok, binOp_eq_bool hu], .bool _ _⟩
    · rename_i hu
      exact ⟨_, _, h, by rw [Sem.run_bind, Sem.run_pure, Result.andThen_ok, binOp_ne_bool hu], .bool _ _⟩
    · exact h.elim
  · split at h
    · rename_i as bs ls hls
      obtain ⟨h1, h2, h⟩ := h
      obtain ⟨e1, e2⟩ := agg_equal (P := P) (S := S) (w := w) (g := g) hls h1 h2 hx hy op p q
      split at h
      · refine ⟨_, .bool _, h, ?_, .bool _ _⟩
        rw [Sem.run_bind, e1, Result.andThen_ok]
        cases hx; cases hy
        show (do pure (Value.bool (← Op.equal t _ _)) : Sem Value).run P w = _
        rw [Sem.run_bind, e2]; rfl
      · refine ⟨_, .bool _, h, ?_, .bool _ _⟩
        rw [Sem.run_bind, e1, Result.andThen_ok]
        cases hx; cases hy
        show (do pure (Value.bool (!(← Op.equal t _ _))) : Sem Value).run P w = _
        rw [Sem.run_bind, e2]; rfl
      · exact h.elim
    · exact h.elim
  · exact h.elim
end
end Go.Awp

/- The operations that make or write memory. -/
namespace Go.Awp
section
variable {P : Program} {S : Nat → Prop} {w : World} {g : Ghost} {m : List Blk}

/-- A new box. -/
theorem box_sound (hI : Inv S w g m) (e : TypeId) (cs : List AVal) (arr : Array Value) (hc : CellsRep S w g cs arr) :
    ∃ g', After S w g m S (w.alloc (.cells arr e)) g' (m ++ [.box false cs]) (.ptr m.length 0) (.pointer (some ⟨w.heap.size, 0, none⟩)) := by
  let x : Inf := ⟨true, some w.heap.size, 0, 0, 0, .nilFunc⟩
  obtain ⟨h1, h2, h3⟩ := hI.push (w' := w.alloc (.cells arr e)) (.box false cs) x rfl rfl rfl (by simp) (fun c hc => heap_alloc_old w _ c hc) (fun c hc => by simp [x] at hc; omega)
    (fun hlow hle => ⟨x, w.heap.size, arr, e, gset_self _ _ _, rfl, rfl, heap_alloc_new w _, hc.mono (fun _ h => h) (fun c hc => heap_alloc_old w _ c (hI.low c hc)) hle, fun e => (by cases e),
      fun _ hs => by have := hI.low _ hs; omega⟩)
  exact ⟨_, h1, .ptr _ _ _ x w.heap.size (gset_self _ _ _) rfl rfl, h2, h3⟩

/-- A new box at a place that was kept for it. -/
theorem box_fill (hI : Inv S w g m) (e : TypeId) (cs : List AVal) (arr : Array Value) (hc : CellsRep S w g cs arr) (b : Nat) (hb : m[b]? = some .gone) :
    ∃ g', After S w g m S (w.alloc (.cells arr e)) g' (m.set b (.box false cs)) (.ptr b 0) (.pointer (some ⟨w.heap.size, 0, none⟩)) := by
  let x : Inf := ⟨true, some w.heap.size, 0, 0, 0, .nilFunc⟩
  obtain ⟨h1, h2, h3⟩ := hI.fill (w' := w.alloc (.cells arr e)) b hb (.box false cs) x (by simp) rfl rfl rfl (by simp) (fun c hc => heap_alloc_old w _ c hc) (fun c hc => by simp [x] at hc; omega)
    (fun hlow hle => ⟨x, w.heap.size, arr, e, gset_self _ _ _, rfl, rfl, heap_alloc_new w _, hc.mono (fun _ h => h) (fun c hc => heap_alloc_old w _ c (hI.low c hc)) hle, fun e => (by cases e),
      fun _ hs => by have := hI.low _ hs; omega⟩)
  exact ⟨_, h1, .ptr _ _ _ x w.heap.size (gset_self _ _ _) rfl rfl, h2, h3⟩

theorem kAlloc_sound (hI : Inv S w g m) {e : TypeId} {K : AVal → List Blk → Prop} (h : kAlloc P e m K) :
    ∃ v m' u w' g', K v m' ∧ (Instr.alloc e true (.tuple #[])).run P w = .ok u w' ∧ After S w g m S w' g' m' v u := by
  unfold kAlloc zeroA at h
  split at h
  · rename_i cs hz
    split at hz
    · rename_i z hz'
      split at hz
      · rename_i h1
        simp at hz; subst hz
        obtain ⟨g', ha⟩ := box_sound hI e (z.cells.toList.map ofVal0) z.cells ⟨by simp, fun u hu => List.all_eq_true.1 h1 u (by simpa using hu), fun j y hj => by
          rw [List.getElem?_map] at hj
          cases hq : z.cells.toList[j]? with
          | none => simp [hq] at hj
          | some u =>
            simp only [hq, Option.map_some, Option.some.injEq] at hj
            subst hj
            have h2 : z.cells[j]? = some u := by simpa using hq
            simp [Array.getD_eq_getD_getElem?, h2]
            exact ofVal0_rep S w g u⟩
        refine ⟨_, _, _, _, g', h, ?_, ha⟩
        cases hq : P.info? e with
        | none => simp [hq] at hz'
        | some i =>
          have hzz : i.zero = some z := by simpa [hq] using hz'
          simp [Instr.alloc, zeroValue, typeInfo, hq, hzz, newVar, newRow]
      · cases hz
    · cases hz
  · exact h.elim

def kAllocAt (P : Program) (e : TypeId) (b : Nat) (K : AVal → Blk → Prop) : Prop := match zeroA P e with
  | some cs => K (.ptr b 0) (.box false cs)
  | none => False
theorem kAllocAt_sound (hI : Inv S w g m) {e : TypeId} {b : Nat} (hb : m[b]? = some .gone) {K : AVal → Blk → Prop} (h : kAllocAt P e b K) :
    ∃ v k u w' g', K v k ∧ (Instr.alloc e true (.tuple #[])).run P w = .ok u w' ∧ After S w g m S w' g' (m.set b k) v u := by
  unfold kAllocAt zeroA at h
  split at h
  · rename_i cs hz
    split at hz
    · rename_i z hz'
      split at hz
      · rename_i h1
        simp at hz; subst hz
        obtain ⟨g', ha⟩ := box_fill hI e (z.cells.toList.map ofVal0) z.cells ⟨by simp, fun u hu => List.all_eq_true.1 h1 u (by simpa using hu), fun j y hj => by
          rw [List.getElem?_map] at hj
          cases hq : z.cells.toList[j]? with
          | none => simp [hq] at hj
          | some u =>
            simp only [hq, Option.map_some, Option.some.injEq] at hj
            subst hj
            have h2 : z.cells[j]? = some u := by simpa using hq
            simp [Array.getD_eq_getD_getElem?, h2]
            exact ofVal0_rep S w g u⟩ b hb
        refine ⟨_, _, _, _, g', h, ?_, ha⟩
        cases hq : P.info? e with
        | none => simp [hq] at hz'
        | some i =>
          have hzz : i.zero = some z := by simpa [hq] using hz'
          simp [Instr.alloc, zeroValue, typeInfo, hq, hzz, newVar, newRow]
      · cases hz
    · cases hz
  · exact h.elim

theorem kBox_sound (hI : Inv S w g m) {e : TypeId} {x : AVal} {a : Value} {K : AVal → List Blk → Prop} (h : kBox x m K) (hx : Rep S w g x a) :
    ∃ v m' u w' g', K v m' ∧ (Instr.box e a).run P w = .ok u w' ∧ After S w g m S w' g' m' v u := by
  obtain ⟨g', ha⟩ := box_sound hI e x.cells a.cells (hx.cells h.1)
  exact ⟨_, _, _, _, g', h.2, by simp [Instr.box, newVar, newRow], ha⟩

theorem size_splice {α : Type} (l : List α) (off : Nat) (vs : List α) (h : off + vs.length ≤ l.length) : (l.take off ++ vs ++ l.drop (off + vs.length)).length = l.length := by
  simp only [List.length_append, List.length_take, List.length_drop]; omega

theorem get_splice {α : Type} (l : List α) (off : Nat) (vs : List α) (h : off + vs.length ≤ l.length) (j : Nat) :
    (l.take off ++ vs ++ l.drop (off + vs.length))[j]? = if off ≤ j ∧ j < off + vs.length then vs[j - off]? else l[j]? := by
  rw [List.append_assoc, List.getElem?_append]
  simp only [List.length_take]
  by_cases h1 : j < off
  · rw [if_pos (by omega), if_neg (by omega), List.getElem?_take, if_pos h1]
  · rw [if_neg (by omega), List.getElem?_append]
    have e : j - min off l.length = j - off := by omega
    rw [e]
    by_cases h2 : j - off < vs.length
    · rw [if_pos h2, if_pos (by omega)]
    · rw [if_neg h2, if_neg (by omega), List.getElem?_drop]
      congr 1; omega

theorem CellsRep.splice {cs vs : List AVal} {arr us : Array Value} {off : Nat} (h : CellsRep S w g cs arr) (k : CellsRep S w g vs us) (hle : off + vs.length ≤ cs.length) :
    CellsRep S w g (spliceA cs off vs) (arr.toList.take off ++ us.toList ++ arr.toList.drop (off + us.toList.length)).toArray := by
  obtain ⟨h1, h2, h3⟩ := h
  obtain ⟨k1, k2, k3⟩ := k
  have hl : off + us.toList.length ≤ arr.toList.length := by simp; omega
  have hul : us.toList.length = vs.length := by simp [k1]
  refine ⟨?_, fun u hu => ?_, fun j y hj => ?_⟩
  · rw [List.size_toArray, size_splice _ _ _ hl, spliceA, size_splice _ _ _ hle]; simpa using h1
  · rw [List.mem_toArray] at hu
    rcases List.mem_append.1 hu with hu | hu
    · rcases List.mem_append.1 hu with hu | hu
      · exact h2 u (by simpa using List.mem_of_mem_take hu)
      · exact k2 u (by simpa using hu)
    · exact h2 u (by simpa using List.mem_of_mem_drop hu)
  · rw [spliceA, get_splice _ _ _ hle] at hj
    have e : (arr.toList.take off ++ us.toList ++ arr.toList.drop (off + us.toList.length)).toArray.getD j undef = if off ≤ j ∧ j < off + vs.length then us.getD (j - off) undef else arr.getD j undef := by
      rw [Array.getD_eq_getD_getElem?, List.getElem?_toArray, get_splice _ _ _ hl, hul]
      split
      · rw [Array.getD_eq_getD_getElem?, Array.getElem?_toList]
      · rw [Array.getD_eq_getD_getElem?, Array.getElem?_toList]
    rw [e]
    split at hj
    · rename_i hc; rw [if_pos hc]; exact k3 _ _ hj
    · rename_i hc; rw [if_neg hc]; exact h3 _ _ hj

theorem heap_setRow_same (w : World) (c : Nat) (cs : Array Value) {arr : Array Value} {e : TypeId} {fr : Nat × Nat} (h : w.heap[c]? = some (.cells arr e fr)) : (w.setRow c cs).heap[c]? = some (.cells cs e fr) := setRow_heap w c arr cs e fr h
theorem heap_setRow_other (w : World) (c : Nat) (cs : Array Value) (k : Nat) (h : k ≠ c) : (w.setRow c cs).heap[k]? = w.heap[k]? := by
  simp only [World.setRow, Array.getElem?_modify]
  rw [if_neg (by omega)]

theorem gset_same {g : Ghost} {b : Nat} {x : Inf} (h : g b = some x) : gset g b x = g := by
  funext i; unfold gset; split
  · rename_i e; rw [e, h]
  · rfl

theorem take_splice {α : Type} (l : List α) (p n : Nat) (us : List α) (h : p + us.length ≤ n) (hn : n ≤ l.length) :
    (l.take p ++ us ++ l.drop (p + us.length)).take n = (l.take n).take p ++ us ++ (l.take n).drop (p + us.length) := by
  apply List.ext_getElem?
  intro j
  rw [get_splice _ _ _ (by simp only [List.length_take]; omega), List.getElem?_take, get_splice _ _ _ (by omega), List.getElem?_take]
  by_cases h1 : j < n
  · simp [h1]
  · rw [if_neg h1, if_neg h1, if_neg (by omega)]

theorem Rep.cell_flat {x : AVal} {v : Value} (h : Rep S w g x v) (h1 : v.oneCell' = true) : x.cells = [x] := by
  cases h <;> first | rfl | (simp [Value.oneCell'] at h1)

theorem closed_rep {x : AVal} {v : Value} (h : Rep S w g x v) (hc : x.closed = true) : Rep S w noG x v := by
  cases h with
  | bool g b => exact .bool _ _
  | int g k n => exact .int _ _ _
  | str g s => exact .str _ _
  | nil g => exact .nil _
  | ept g cs off blk base f hS h1 hc' hr => exact .ept _ _ _ _ _ _ hS h1 hc' hr
  | nils g => exact .nils _
  | imm0 g sz a cap => exact .imm0 _ _ _ _
  | imm g sz rows blk base len cap f hS hlen hcap hw h1 hc' hr => exact .imm _ _ _ _ _ _ _ _ hS hlen hcap hw h1 hc' hr
  | nilfn g => exact .nilfn _
  | nilif g => exact .nilif _
  | dead g v => exact .dead _ _
  | nilm g => exact .nilm _
  | _ => simp [AVal.closed] at hc

theorem CellsRep.closed {cs : List AVal} {arr : Array Value} (h : CellsRep S w g cs arr) (hc : cs.all AVal.closed = true) : CellsRep S w noG cs arr :=
  ⟨h.1, h.2.1, fun j y hj => closed_rep (h.2.2 j y hj) (List.all_eq_true.1 hc y (List.mem_of_getElem? hj))⟩

theorem spliceRow_agg (cs : List AVal) (off : Nat) (vs : List AVal) : spliceRow (.agg cs) off vs = .agg (spliceA cs off vs) := rfl
theorem spliceRow_one (r : AVal) (off : Nat) (vs : List AVal) (h : ∀ cs, r ≠ .agg cs) : spliceRow r off vs = vs.headD r ∧ r.cells = [r] := by
  cases r <;> first | exact ⟨rfl, rfl⟩ | exact absurd rfl (h _)

theorem kStore_sound (hI : Inv S w g m) {t : TypeId} {x y : AVal} {a b : Value} {K : List Blk → Prop} (h : kStore P t x y m K) (hx : Rep S w g x a) (hy : Rep S w g y b) :
    ∃ m' w' g', K m' ∧ (Instr.storeAt t a b).run P w = .ok () w' ∧ After S w g m S w' g' m' .dead undef := by
  unfold kStore at h
  split at h
  · rename_i bi off
    cases hx with
    | ptr g _ _ x c hb hc hl =>
    split at h
    · rename_i fz cs hm
      obtain ⟨hok, hsz, hle, hK⟩ := h
      obtain ⟨x', c', arr, e, h1, h2, h3, h4, h5, h6, h7⟩ := hI.tie _ _ hm
      obtain rfl := Option.some.inj (hb.symm.trans h1)
      obtain rfl := Option.some.inj (hc.symm.trans h3)
      have hyc := hy.cells hok
      have hbs : b.cells.size = y.cells.length := hyc.1
      have hst := run_storeCells_at P c off e b.cells.toList 0 arr w h4 (by simp; rw [hbs, h5.1]; omega) (fun u hu => hyc.2.1 u (by simpa using hu))
      simp only [Nat.add_zero] at hst
      have hcs := h5.splice hyc hle
      obtain ⟨k1, k2, k3⟩ := hI.turn (w' := w.setRow c (arr.toList.take off ++ b.cells.toList ++ arr.toList.drop (off + b.cells.toList.length)).toArray) _ _ (.box false (spliceA cs off y.cells)) x x hm rfl hb
        rfl rfl rfl (by simp) (fun k _ hk => heap_setRow_other w c _ k fun e => hk (by rw [e]; exact hc)) (fun k hk => .inl hk) (.refl x)
        (fun hle hSw => ⟨x, c, _, e, gset_self _ _ _, h2, hc, heap_setRow_same w c _ h4, hcs.mono (fun _ h => h) hSw hle, h6, h7⟩)
      rw [gset_same hb] at k1 k2 k3
      refine ⟨_, _, _, hK, ?_, k1, .dead _ _, k2, k3⟩
      simp only [Instr.storeAt, Instr.sureAddr, storeVar, Sem.run_bind, Sem.run_pure, Result.andThen_ok, run_sizeOf hsz, hbs]
      simp [hst]
    · exact h.elim
  · rename_i bi len i off
    cases hx with
    | spt g _ _ _ _ x v hp hb hle hv =>
    split at h
    · rename_i sz rows hm
      obtain ⟨hok, hcl, hsz, hlen, hi, hoff, hpos, hK⟩ := h
      obtain ⟨x', e, xs, h1, h2, h3, h4, h5, h6, ⟨h7, h8, h9⟩, h10⟩ := hI.tie _ _ hm
      obtain rfl := Option.some.inj (hb.symm.trans h1)
      obtain ⟨c, hcar, rfl⟩ := hv (h3.trans hlen)
      have hyc := hy.cells hok
      have hyn := hyc.closed hcl
      have hbs : b.cells.size = y.cells.length := hyc.1
      have hil : i < rows.length := by omega
      have hrow : rows[i]? = some (rows.getD i .dead) := by simp [List.getD, List.getElem?_eq_getElem hil]
      generalize rows.getD i .dead = r at *
      have hrl := h8 i r hrow
      rcases h6.2 with ⟨hz, _⟩ | ⟨c', cap, cur, hcur, hbase, hh, hn, hcap, hcs, htk⟩
      · rw [h5, hz] at hcar; cases hcar
      have : c' = c := by rw [h5, hcur] at hcar; exact Option.some.inj hcar
      subst this
      have hxl : xs.length = rows.length * sz := h6.1
      have hmul : i * sz + sz ≤ rows.length * sz := by rw [← Nat.succ_mul]; exact Nat.mul_le_mul_right _ hil
      have hfit : i * sz + off + b.cells.toList.length ≤ rows.length * sz := by simp; rw [hbs]; omega
      have hfit2 : rows.length * sz ≤ cur.size := by rw [hcs]; exact Nat.mul_le_mul_right _ hn
      have hst := run_storeCells_at P c' (i * sz + off) e b.cells.toList 0 cur w hh (by simp at hfit ⊢; omega) (fun u hu => hyc.2.1 u (by simpa using hu))
      simp only [Nat.add_zero] at hst
      let xs' := xs.take (i * sz + off) ++ b.cells.toList ++ xs.drop (i * sz + off + b.cells.toList.length)
      have hfx : i * sz + off + b.cells.toList.length ≤ xs.length := by rw [hxl]; exact hfit
      have hown : (w.setRow c' (cur.toList.take (i * sz + off) ++ b.cells.toList ++ cur.toList.drop (i * sz + off + b.cells.toList.length)).toArray).ownsRow 0 e sz x.cur rows.length xs' := by
        refine ⟨by rw [show xs' = _ from rfl, size_splice _ _ _ hfx]; exact hxl, .inr ⟨c', cap, _, hcur, hbase, heap_setRow_same w c' _ hh, hn, hcap, ?_, ?_⟩⟩
        · rw [List.size_toArray, size_splice _ _ _ (by simp at hfit ⊢; omega)]; simpa using hcs
        · rw [take_splice _ _ _ _ hfit (by simpa using hfit2), htk]
      have hrows : ∀ S' w', (∀ c, S c → S' c) → (∀ c, S c → w'.heap[c]? = w.heap[c]?) → RowsRep S' w' sz (rows.set i (spliceRow r off y.cells)) xs' := fun S' w' hS hSw => by
        have hcells : (spliceRow r off y.cells).cells = spliceA r.cells off y.cells := by
          by_cases hna : ∃ cs, r = .agg cs
          · obtain ⟨cs, rfl⟩ := hna; rfl
          · obtain ⟨hq, hr1⟩ := spliceRow_one r off y.cells (fun cs e => hna ⟨cs, e⟩)
            rw [hq]
            rw [hr1] at hrl ⊢
            simp at hrl
            subst hrl
            have h0 : off = 0 := by omega
            have h11 : y.cells.length = 1 := by omega
            subst h0
            obtain ⟨y0, hy0⟩ := List.length_eq_one_iff.1 h11
            rw [hy0]
            have hr0 := hyc.2.2 0 y0 (by rw [hy0]; rfl)
            have ho := hyc.2.1 (b.cells.getD 0 undef) (by
              have : 0 < b.cells.size := by omega
              simp [Array.getD, this])
            simp [spliceA, hr0.cell_flat ho]
        refine ⟨fun u hu => ?_, fun k r' hk => ?_, fun k r' j z hk hz => ?_⟩
        · rcases List.mem_append.1 hu with hu | hu
          · rcases List.mem_append.1 hu with hu | hu
            · exact h7 u (List.mem_of_mem_take hu)
            · exact hyc.2.1 u (by simpa using hu)
          · exact h7 u (List.mem_of_mem_drop hu)
        · by_cases hki : k = i
          · subst hki
            simp [hil] at hk
            subst hk
            rw [hcells, spliceA, size_splice _ _ _ (by rw [hrl]; exact hoff)]; exact hrl
          · rw [List.getElem?_set_ne (Ne.symm hki)] at hk; exact h8 k r' hk
        · show ∃ u, xs'[k * sz + j]? = some u ∧ _
          rw [show xs' = _ from rfl, get_splice _ _ _ hfx]
          have hul : b.cells.toList.length = y.cells.length := by simp [hbs]
          rw [hul]
          by_cases hki : k = i
          · subst hki
            simp [hil] at hk
            subst hk
            rw [hcells, spliceA, get_splice _ _ _ (by rw [hrl]; exact hoff)] at hz
            by_cases hj : off ≤ j ∧ j < off + y.cells.length
            · rw [if_pos hj] at hz
              rw [if_pos (by omega)]
              have e1 : k * sz + j - (k * sz + off) = j - off := by omega
              rw [e1]
              have hlt : j - off < b.cells.size := by omega
              refine ⟨b.cells.getD (j - off) undef, by rw [Array.getElem?_toList]; exact getD_some hlt, (hyn.2.2 _ _ hz).mono hS hSw noG (GLe.refl _)⟩
            · rw [if_neg hj] at hz
              rw [if_neg (by omega)]
              obtain ⟨u, hu, hr⟩ := h9 k r j z hrow hz
              exact ⟨u, hu, hr.mono hS hSw noG (GLe.refl _)⟩
          · rw [List.getElem?_set_ne (Ne.symm hki)] at hk
            have hjs : j < sz := by have := h8 k r' hk; rw [← this]; exact (List.getElem?_eq_some_iff.1 hz).1
            have hne : ¬ (i * sz + off ≤ k * sz + j ∧ k * sz + j < i * sz + off + y.cells.length) := by
              rintro ⟨q1, q2⟩
              rcases Nat.lt_or_gt_of_ne hki with hlt | hlt
              · have : k * sz + sz ≤ i * sz := by rw [← Nat.succ_mul]; exact Nat.mul_le_mul_right _ hlt
                omega
              · have : i * sz + sz ≤ k * sz := by rw [← Nat.succ_mul]; exact Nat.mul_le_mul_right _ hlt
                omega
            rw [if_neg hne]
            obtain ⟨u, hu, hr⟩ := h9 k r' j z hk hz
            exact ⟨u, hu, hr.mono hS hSw noG (GLe.refl _)⟩
      obtain ⟨k1, k2, k3⟩ := hI.turn (w' := w.setRow c' (cur.toList.take (i * sz + off) ++ b.cells.toList ++ cur.toList.drop (i * sz + off + b.cells.toList.length)).toArray) _ _
        (.sl false sz (rows.set i (spliceRow r off y.cells))) x x hm rfl hb
        rfl rfl rfl (by simp) (fun k _ hk => heap_setRow_other w c' _ k fun e => hk (by rw [e]; exact hcar)) (fun k hk => .inl hk) (.refl x)
        (fun hle hSw => ⟨x, e, xs', gset_self _ _ _, h2, by simpa using h3, h4, h5, by simpa using hown, hrows S _ (fun _ h => h) hSw, h10⟩)
      rw [gset_same hb] at k1 k2 k3
      refine ⟨_, _, _, hK, ?_, k1, .dead _ _, k2, k3⟩
      rw [h4]
      simp only [Instr.storeAt, Instr.sureAddr, storeVar, Sem.run_bind, Sem.run_pure, Result.andThen_ok, run_sizeOf hsz, hbs]
      simp [hst]
    · exact h.elim
  · exact h.elim
end
end Go.Awp

/- Appends, new slices, lengths. -/
namespace Go.Awp
/-- The rows of a slice, as they stand now. -/
def rowsOf (m : List Blk) : AVal → Option (Nat × List AVal)
  | .nils => some (0, [])
  | .imm sz rows => some (sz, rows)
  | .sl b len => (match m[b]? with
    | some (.sl _ sz rows) => if rows.length = len then some (sz, rows) else none
    | _ => none)
  | _ => none
/-- What an append asks of its element type: no zero size, no more than 2^15 bytes. -/
def tyApp (P : Program) (e : TypeId) : Option Nat := match zeroA P e, tySize P e, tyBytes P e with
  | some z, some sz, some by' => if z.length = sz ∧ 0 < sz ∧ by' ≤ 32768 then some sz else none
  | _, _, _ => none
def kAppend (P : Program) (ty : TypeId) (x y : AVal) (m : List Blk) (K : AVal → List Blk → Prop) : Prop := match tyElem P ty with
  | some e => (match tyApp P e with
    | some sz => (match y with
      | .nils => (match x with
        | .nils => K .nils m
        | .sl b len => (match m[b]? with
          | some (.sl _ _ rows) => rows.length = len ∧ K (.sl b len) m
          | _ => False)
        | _ => False)
      | .imm sz' rows' => sz' = sz ∧ rows'.length ≤ 4294967296 ∧ (match x with
        | .nils => K (.sl m.length rows'.length) (m ++ [.sl false sz rows'])
        | .sl b len => (match m[b]? with
          | some (.sl false sz2 rows) => sz2 = sz ∧ rows.length = len ∧ rows.length + rows'.length ≤ 4294967296 ∧ K (.sl b (len + rows'.length)) (m.set b (.sl false sz (rows ++ rows')))
          | _ => False)
        | _ => False)
      | .sl b' len' => (match m[b']? with
        | some (.sl _ sz' rows') => sz' = sz ∧ rows'.length = len' ∧ rows'.length ≤ 4294967296 ∧ (match x with
          | .nils => K (.sl m.length rows'.length) (m ++ [.sl false sz rows'])
          | .sl b len => (match m[b]? with
            | some (.sl false sz2 rows) => sz2 = sz ∧ rows.length = len ∧ rows.length + rows'.length ≤ 4294967296 ∧ K (.sl b (len + rows'.length)) (m.set b (.sl false sz (rows ++ rows')))
            | _ => False)
          | _ => False)
        | _ => False)
      | _ => False)
    | none => False)
  | none => False
section
variable {P : Program} {S : Nat → Prop} {w : World} {g : Ghost} {m : List Blk}

theorem tyApp_info {e : TypeId} {sz : Nat} (h : tyApp P e = some sz) : ∃ i z, P.info? e = some i ∧ i.zero = some z ∧ i.size = sz ∧ z.cells.size = sz ∧ 0 < sz ∧ i.bytes ≤ 32768 := by
  unfold tyApp at h
  split at h
  · rename_i z sz' b hz hs hb
    split at h
    · rename_i hc
      simp at h; subst h
      cases hq : P.info? e with
      | none => simp [tySize, hq] at hs
      | some i =>
        have h1 : i.size = sz' := by simpa [tySize, hq] using hs
        have h2 : i.bytes = b := by simpa [tyBytes, hq] using hb
        unfold zeroA at hz
        rw [hq] at hz
        split at hz
        · rename_i zz hzz
          split at hz
          · simp at hz
            refine ⟨i, zz, rfl, by simpa using hzz, h1, ?_, hc.2.1, by rw [h2]; exact hc.2.2⟩
            rw [← hc.1, ← hz]; simp
          · cases hz
        · cases hz
    · cases h
  · cases h

theorem storeCells_nil (a : Addr) (k : Nat) : (storeCells a [] k).run P w = .ok () w := rfl

/-- Nothing appended. -/
theorem append_zero {t ty e : TypeId} (hu : P.underlying t = some (.slice e)) (hs : (P.info? e).isSome = true) (base : Option Addr) (n cap : Nat) (h : n ≤ cap) (a : Option Addr) (c : Nat) :
    (Builtin.append_ #[t, t] ty #[.slice base n cap, .slice a 0 c]).run P w = .ok (.slice base n cap) w := by
  obtain ⟨i, hi⟩ := Option.isSome_iff_exists.1 hs
  have hf : (Builtin.firstCells i.size 0 (.slice a 0 c)).run P w = .ok #[] w := by
    cases a with
    | none => rfl
    | some a => simp only [Builtin.firstCells, Nat.zero_mul]; rfl
  cases base <;> simp [Builtin.append_, run_underlying hu, sizeOf, typeInfo, hi, Builtin.lenOf, h, hf, storeCells_nil]

/-- An append onto a row of the call's own, whatever the block's element type says. -/
theorem append_own_any {ty rt e e0 : TypeId} (i : TypeInfo) (z : Value) (ht : P.underlying ty = some (.slice e)) (hi : P.info? e = some i) (hz : i.zero = some z) (hzs : z.cells.size = i.size)
    (v : Value) (n : Nat) (xs : List Value) (hown : w.ownsRow 0 e0 i.size v n xs) (a : Addr) (k c : Nat) (news : List Value) (hl : news.length = k * i.size) (hnews : ∀ j u, news[j]? = some u → w.cell? (a.add j) = some u)
    (h1 : ∀ u ∈ news, u.oneCell' = true) (h63 : n + k ≤ maxLen) (hbytes : (n + k) * i.bytes ≤ 140737488355328) (hk : 0 < k) :
    ∃ v' w' e1, (Builtin.append_ #[ty, ty] rt #[v, .slice (some a) k c]).run P w = .ok v' w' ∧ w'.ownsRow 0 e1 i.size v' (n + k) (xs ++ news) ∧ w.grownBy w' v.ownBlock ∧
      (∀ b, v'.ownBlock = some b → v.ownBlock = some b ∨ w.heap.size ≤ b) ∧ (∃ a l c, v' = .slice a l c) := by
  have hsmall : n + k ≤ 9223372036854775807 := by simp only [maxLen] at h63; omega
  have hlen : (xs ++ news).length = (n + k) * i.size := by rw [List.length_append, hown.1, hl, Nat.add_mul]
  have grown : ∀ (old : Nat), old < n + k → ∀ (row : Option Nat),
      (w.drew.alloc (.cells (xs.toArray ++ news.toArray ++ Builtin.zeroCells z.cells (grownCap w (n + k) old e - (n + k))) e)).ownsRow 0 e i.size
        (.slice (some ⟨w.heap.size, 0, none⟩) (n + k) (grownCap w (n + k) old e)) (n + k) (xs ++ news) ∧
      w.grownBy (w.drew.alloc (.cells (xs.toArray ++ news.toArray ++ Builtin.zeroCells z.cells (grownCap w (n + k) old e - (n + k))) e)) row := by
    intro old ho row
    have hge := grownCap_ge w (n + k) old e
    have hcm : grownCap w (n + k) old e ≤ maxLen := grownCap_le_maxLen w (n + k) old e h63
    refine ⟨⟨hlen, .inr ⟨w.heap.size, _, _, rfl, Nat.zero_le _, heap_alloc_new w.drew _, hge, hcm, ?_, ?_⟩⟩, ⟨rfl, rfl, rfl, by simp, fun k hk _ => heap_alloc_old w.drew _ k hk⟩⟩
    · simp only [Array.size_append, List.size_toArray, size_zeroCells, hzs, hown.1, hl, ← Nat.add_mul]
      congr 1
      omega
    · simp only [Array.toList_append, List.append_assoc]
      rw [← List.append_assoc, ← hlen]
      exact List.take_left
  rcases hown.2 with ⟨rfl, rfl⟩ | ⟨g, cap, cur, rfl, hbg, hg, hnc, hcm, hcs, htake⟩
  · have hx : xs = [] := List.eq_nil_of_length_eq_zero (by simpa using hown.1)
    subst hx
    have hr := run_append_nil (P := P) w ty rt e i z ht hi hz a k c news hl hnews hk (by omega) (by have hb := hbytes; simp only [Nat.zero_add] at hb; omega)
    have hgr := grown 0 (by omega) (Value.ownBlock (.slice none 0 0))
    simp only [Nat.zero_add, List.nil_append, Array.empty_append] at hgr ⊢
    exact ⟨_, _, e, hr, hgr.1, hgr.2, fun b hb => .inr (by simp [Value.ownBlock] at hb; omega), ⟨_, _, _, rfl⟩⟩
  · by_cases hroom : n + k ≤ cap
    · have hfit : n * i.size + news.length ≤ cur.size := by rw [hl, hcs, ← Nat.add_mul]; exact Nat.mul_le_mul_right _ hroom
      have hf := run_firstCells_some (P := P) w i.size k a k c news hl hnews
      have hst := run_storeCells_at P g (n * i.size) e0 news 0 cur w hg (by simpa using hfit) h1
      simp only [Nat.add_zero] at hst
      have hr : (Builtin.append_ #[ty, ty] rt #[.slice (some ⟨g, 0, none⟩) n cap, .slice (some a) k c]).run P w =
          .ok (.slice (some ⟨g, 0, none⟩) (n + k) cap) (w.setRow g (cur.toList.take (n * i.size) ++ news ++ cur.toList.drop (n * i.size + news.length)).toArray) := by
        simp [Builtin.append_, run_underlying ht, sizeOf, typeInfo, hi, Builtin.lenOf, hroom, hf, Addr.add_lit, hst]
      refine ⟨_, _, e0, hr, ⟨hlen, .inr ⟨g, cap, _, rfl, hbg, setRow_heap w g cur _ e0 _ hg, hroom, hcm, ?_, ?_⟩⟩, ⟨rfl, rfl, rfl, by simp, fun k _ hk => setRow_other w g k _ (fun e => hk (by simp [Value.ownBlock, e]))⟩, fun b hb => .inl hb, ⟨_, _, _, rfl⟩⟩
      · simp only [List.size_toArray, List.length_append, List.length_take, List.length_drop, Array.length_toList]
        omega
      · rw [htake, ← hlen]
        exact List.take_left
    · have holds : ∀ j u, xs[j]? = some u → w.cell? ((⟨g, 0, none⟩ : Addr).add j) = some u := hown.cells (g := g) rfl
      have hr := run_append_grow (P := P) w ty rt e i z ht hi hz ⟨g, 0, none⟩ n cap xs hown.1 holds a k c news hl hnews (by omega) (by omega) (growslice_fits (by omega) hbytes)
      have hgr := grown cap (by omega) (Value.ownBlock (.slice (some ⟨g, 0, none⟩) n cap))
      exact ⟨_, _, e, hr, hgr.1, hgr.2, fun b hb => .inr (by simp [Value.ownBlock] at hb; omega), ⟨_, _, _, rfl⟩⟩

theorem rows_at {sz : Nat} {rows : List AVal} {xs : List Value} (h : RowsRep S w sz rows xs) : RowsRep S w sz rows xs := h

/-- What is appended, as a list of cells. -/
theorem news_of (hI : Inv S w g m) {y : AVal} {b : Value} (hy : Rep S w g y b) {sz : Nat} {rows : List AVal} (h : rowsOf m y = some (sz, rows)) (hpos : rows ≠ [] → 0 < sz) :
    (rows = [] ∧ ∃ a c, b = .slice a 0 c) ∨ ∃ ad c news, b = .slice (some ad) rows.length c ∧ news.length = rows.length * sz ∧ (∀ j u, news[j]? = some u → w.cell? (ad.add j) = some u) ∧ RowsRep S w sz rows news := by
  unfold rowsOf at h
  split at h
  · simp at h; obtain ⟨rfl, rfl⟩ := h; cases hy; exact .inl ⟨rfl, _, _, rfl⟩
  · rename_i sz rows
    simp at h; obtain ⟨rfl, rfl⟩ := h
    cases hy with
    | imm0 g _ a cap => exact .inl ⟨rfl, _, _, rfl⟩
    | imm g _ _ blk base len cap f hS hlen hcap hw h1 hc hr =>
      by_cases he : rows = []
      · subst he; subst hlen; exact .inl ⟨rfl, _, _, rfl⟩
      · have hsz := hpos he
        refine .inr ⟨⟨blk, base, none⟩, cap, (List.range (rows.length * sz)).map fun p => f (p / sz) (p % sz), by rw [hlen], by simp, fun j u hu => ?_, fun u hu => ?_, hw, fun i r j y hi hj => ?_⟩
        · have hj : j < rows.length * sz := by have := (List.getElem?_eq_some_iff.1 hu).1; simpa using this
          have hu' : f (j / sz) (j % sz) = u := by simp [hj] at hu; exact hu
          have hdl : j / sz < rows.length := (Nat.div_lt_iff_lt_mul hsz).2 hj
          have hrow := List.getElem?_eq_getElem hdl
          have hml : j % sz < (rows[j / sz]).cells.length := by rw [hw _ _ hrow]; exact Nat.mod_lt _ hsz
          have := hc _ _ _ _ hrow (List.getElem?_eq_getElem hml)
          rw [addr_add, ← hu', ← this]
          congr 2
          rw [Nat.add_assoc, Nat.mul_comm, Nat.div_add_mod]
        · simp at hu; obtain ⟨p, _, rfl⟩ := hu; exact h1 _ _
        · have hjs : j < sz := by rw [← hw i r hi]; exact (List.getElem?_eq_some_iff.1 hj).1
          have hil := (List.getElem?_eq_some_iff.1 hi).1
          have hlt : i * sz + j < rows.length * sz := by
            have : i * sz + sz ≤ rows.length * sz := by rw [← Nat.succ_mul]; exact Nat.mul_le_mul_right _ hil
            omega
          refine ⟨f i j, ?_, hr i r j y hi hj⟩
          have e1 : (i * sz + j) / sz = i := by rw [Nat.mul_comm, Nat.mul_add_div hsz, Nat.div_eq_of_lt hjs]; rfl
          have e2 : (i * sz + j) % sz = j := by rw [Nat.mul_comm, Nat.mul_add_mod, Nat.mod_eq_of_lt hjs]
          simp [hlt, e1, e2]
  · rename_i b' len
    split at h
    · rename_i fz sz' rows' hm
      split at h
      · rename_i hlen
        simp at h; obtain ⟨rfl, rfl⟩ := h
        cases hy with
        | sl g _ _ x v hp hb hle hv =>
          obtain ⟨x', e, xs, k1, k2, k3, k4, k5, k6, k7, _⟩ := hI.tie _ _ hm
          obtain rfl := Option.some.inj (hb.symm.trans k1)
          obtain rfl := hv (k3.trans hlen)
          rcases k6.2 with ⟨hz, hz2⟩ | ⟨c, cap, cur, hcur, _⟩
          · refine .inl ⟨List.length_eq_zero_iff.1 hz2, none, 0, hz⟩
          · refine .inr ⟨_, cap, xs, hcur, k6.1, fun j u hu => ?_, k7⟩
            exact k6.cells (g := c) (by rw [hcur]; rfl) j u hu
      · cases h
    · cases h
  · cases h

theorem RowsRep.append {sz : Nat} {r1 r2 : List AVal} {x1 x2 : List Value} (h : RowsRep S w sz r1 x1) (k : RowsRep S w sz r2 x2) (hl : x1.length = r1.length * sz) : RowsRep S w sz (r1 ++ r2) (x1 ++ x2) := by
  refine ⟨fun u hu => (List.mem_append.1 hu).elim (h.1 u) (k.1 u), fun i r hi => ?_, fun i r j y hi hj => ?_⟩
  · rw [List.getElem?_append] at hi
    split at hi
    · exact h.2.1 _ _ hi
    · exact k.2.1 _ _ hi
  · rw [List.getElem?_append] at hi
    split at hi
    · rename_i hlt
      obtain ⟨u, hu, hr⟩ := h.2.2 i r j y hi hj
      refine ⟨u, ?_, hr⟩
      rw [List.getElem?_append_left (List.getElem?_eq_some_iff.1 hu).1]; exact hu
    · rename_i hge
      obtain ⟨u, hu, hr⟩ := k.2.2 _ r j y hi hj
      refine ⟨u, ?_, hr⟩
      have hm : r1.length * sz ≤ i * sz := Nat.mul_le_mul_right _ (by omega)
      rw [List.getElem?_append_right (by omega), hl]
      rw [← hu]; congr 1
      rw [Nat.sub_mul]; omega

/-- THE APPEND: of rows that are known to a slice that is nil, or the call's own. -/
theorem append_sound (hI : Inv S w g m) {ty rt e : TypeId} {sz : Nat} (hu : P.underlying ty = some (.slice e)) (happ : tyApp P e = some sz) {x y : AVal} {a b : Value} (hy : Rep S w g y b)
    {rows' : List AVal} (hn : rowsOf m y = some (sz, rows')) (hb : rows'.length ≤ 4294967296) {K : AVal → List Blk → Prop}
    (h : match x with
        | .nils => K (.sl m.length rows'.length) (m ++ [.sl false sz rows'])
        | .sl b len => (match m[b]? with
          | some (.sl false sz2 rows) => sz2 = sz ∧ rows.length = len ∧ rows.length + rows'.length ≤ 4294967296 ∧ K (.sl b (len + rows'.length)) (m.set b (.sl false sz (rows ++ rows')))
          | _ => False)
        | _ => False) (hx : Rep S w g x a) :
    ∃ v m' u w' g', K v m' ∧ (Builtin.append_ #[ty, ty] rt #[a, b]).run P w = .ok u w' ∧ After S w g m S w' g' m' v u := by
  obtain ⟨i, z, hi, hz, hsz, hzs, hpos, hby⟩ := tyApp_info happ
  have hnews := news_of hI hy hn (fun _ => hpos)
  have hbytes : ∀ n : Nat, n ≤ 4294967296 → n * i.bytes ≤ 140737488355328 := fun n hn => by
    have := Nat.mul_le_mul hn hby; omega
  split at h
  · cases hx with
    | nils g =>
    -- a new slice
    have hres : ∃ u w' xs, (Builtin.append_ #[ty, ty] rt #[.slice none 0 0, b]).run P w = .ok u w' ∧ w'.ownsRow w.heap.size e sz u rows'.length xs ∧ RowsRep S w' sz rows' xs ∧
        w'.os = w.os ∧ w'.tape = w.tape ∧ w'.output = w.output ∧ w.heap.size ≤ w'.heap.size ∧ ∀ c, c < w.heap.size → w'.heap[c]? = w.heap[c]? := by
      rcases hnews with ⟨rfl, a', c', rfl⟩ | ⟨ad, c, news, rfl, hl, hcell, hrr⟩
      · refine ⟨_, w, [], append_zero hu (by rw [hi]; rfl) none 0 0 (Nat.le_refl _) a' c', ⟨by simp, .inl ⟨rfl, rfl⟩⟩, ⟨by simp, by simp, by simp⟩, rfl, rfl, rfl, Nat.le_refl _, fun _ _ => rfl⟩
      · obtain ⟨v', w', hrun, hown, hgr, _⟩ := run_append_own w w.heap.size ty rt e i z sz i.bytes hu hi hz hsz rfl hzs hpos (.slice none 0 0) 0 [] (World.ownsRow_nil w _ e sz) ad rows'.length c news hl hcell hrr.1
          (by simp only [maxLen]; omega) (by rw [Nat.zero_add]; exact hbytes _ hb) (Nat.le_refl _)
        rw [Nat.zero_add, List.nil_append] at hown
        have hk : ∀ c, c < w.heap.size → w'.heap[c]? = w.heap[c]? := fun c hc => hgr.block c hc (by simp [Value.ownBlock])
        exact ⟨v', w', news, hrun, hown, hrr.mono (fun _ h => h) (fun c hc => hk c (hI.low c hc)), hgr.os, hgr.tape, hgr.output, hgr.size, hk⟩
    obtain ⟨u, w', xs, hrun, hown, hrr, hos, htape, hout, hsize, hk⟩ := hres
    have hcar : ∀ c, u.ownBlock = some c → w.heap.size ≤ c := fun c hc => (hown.lt c hc).1
    let inf : Inf := ⟨false, u.ownBlock, sz, rows'.length, 0, u⟩
    have hsl : ∃ a l c, u = .slice a l c := by
      rcases hown.2 with ⟨h, _⟩ | ⟨g, cap, cur, h, _⟩
      · exact ⟨_, _, _, h⟩
      · exact ⟨_, _, _, h⟩
    obtain ⟨k1, k2, k3⟩ := hI.push (w' := w') (.sl false sz rows') inf hos htape hout hsize hk hcar (fun hlow hle => ⟨inf, e, xs, gset_self _ _ _, rfl, rfl, rfl, rfl,
      ⟨hown.1, by
        rcases hown.2 with h | ⟨g, cap, cur, h1, h2, h3⟩
        · exact .inl h
        · exact .inr ⟨g, cap, cur, h1, Nat.zero_le _, h3⟩⟩, hrr, fun c hc => ⟨fun h => (by cases h), fun _ hs => by have := hI.low c hs; have := hcar c hc; omega⟩⟩)
    exact ⟨_, _, u, w', _, h, hrun, k1, .sl _ _ _ inf u hsl (gset_self _ _ _) (Nat.le_refl _) (fun _ => rfl), k2, k3⟩
  · rename_i bi len
    split at h
    · rename_i sz2 rows hm
      obtain ⟨rfl, hlen, hb2, hK⟩ := h
      cases hx with
      | sl g _ _ x v hp hbx hle hv =>
      obtain ⟨x', e', xs, k1, k2, k3, k4, k5, k6, k7, k8⟩ := hI.tie _ _ hm
      obtain rfl := Option.some.inj (hbx.symm.trans k1)
      obtain rfl := hv (k3.trans hlen)
      subst hlen
      -- an own row's element type: at a nil row whatever, else the table's
      rcases hnews with ⟨rfl, a', c', rfl⟩ | ⟨ad, c, news, rfl, hl, hcell, hrr⟩
      · obtain ⟨a0, l0, c0, hcur⟩ := hp
        have hl0 : l0 ≤ c0 ∧ l0 = rows.length := by
          rcases k6.2 with ⟨h, h0⟩ | ⟨g, cap, cur, h1, _, _, h4, _⟩
          · rw [hcur] at h; injection h with _ h1 h2; subst h1; subst h2; exact ⟨Nat.le_refl _, h0.symm⟩
          · rw [hcur] at h1; injection h1 with _ h1 h2; subst h1; subst h2; exact ⟨h4, rfl⟩
        rw [List.append_nil] at hK
        have hset : m.set bi (.sl false sz2 rows) = m := by
          apply List.ext_getElem?; intro j
          by_cases hj : j = bi
          · subst hj; rw [List.getElem?_set_self (List.getElem?_eq_some_iff.1 hm).1, hm]
          · rw [List.getElem?_set_ne (Ne.symm hj)]
        rw [hset] at hK
        refine ⟨_, _, _, w, g, hK, ?_, After.same hI (.sl _ _ _ x _ ⟨_, _, _, hcur⟩ hbx (by simpa using hle) fun _ => rfl)⟩
        rw [hcur]
        exact append_zero hu (by rw [hi]; rfl) a0 l0 c0 hl0.1 a' c'
      · by_cases hk0 : rows' = []
        · subst hk0
          obtain ⟨a0, l0, c0, hcur⟩ := hp
          have hl0 : l0 ≤ c0 ∧ l0 = rows.length := by
            rcases k6.2 with ⟨h, h0⟩ | ⟨g, cap, cur, h1, _, _, h4, _⟩
            · rw [hcur] at h; injection h with _ h1 h2; subst h1; subst h2; exact ⟨Nat.le_refl _, h0.symm⟩
            · rw [hcur] at h1; injection h1 with _ h1 h2; subst h1; subst h2; exact ⟨h4, rfl⟩
          rw [List.append_nil] at hK
          have hset : m.set bi (.sl false sz2 rows) = m := by
            apply List.ext_getElem?; intro j
            by_cases hj : j = bi
            · subst hj; rw [List.getElem?_set_self (List.getElem?_eq_some_iff.1 hm).1, hm]
            · rw [List.getElem?_set_ne (Ne.symm hj)]
          rw [hset] at hK
          refine ⟨_, _, _, w, g, hK, ?_, After.same hI (.sl _ _ _ x _ ⟨_, _, _, hcur⟩ hbx (by simpa using hle) fun _ => rfl)⟩
          rw [hcur]
          exact append_zero hu (by rw [hi]; rfl) a0 l0 c0 hl0.1 _ _
        · subst hsz
          have hkpos : 0 < rows'.length := List.length_pos_iff.2 hk0
          obtain ⟨v', w', e1, hrun, hown', hgr, hcar, hsl⟩ := append_own_any i z hu hi hz hzs x.cur rows.length xs k6 ad rows'.length c news hl hcell hrr.1
            (by simp only [maxLen]; omega) (hbytes _ hb2) hkpos (P := P) (w := w) (rt := rt)
          let x2 : Inf := ⟨false, v'.ownBlock, i.size, rows.length + rows'.length, 0, v'⟩
          obtain ⟨q1, q2, q3⟩ := hI.turn (w' := w') bi _ (.sl false i.size (rows ++ rows')) x x2 hm rfl hbx hgr.os hgr.tape hgr.output hgr.size
            (fun k hk hne => hgr.block k hk fun e => hne (by rw [k5]; exact e.symm)) (fun k hk => (hcar k hk).imp (fun h => by rw [k5]; exact h) id)
            ⟨k4.symm, by rw [k3]; exact Nat.le_add_right _ _, fun h => by rw [k3] at h; simp [x2] at h; exact absurd h hk0, fun h => by rw [k2] at h; cases h⟩
            (fun hle' hSw => ⟨x2, e1, xs ++ news, gset_self _ _ _, rfl, by simp [x2], rfl, rfl, by rw [List.length_append]; exact hown', (k7.append hrr k6.1).mono (fun _ h => h) hSw,
              fun b hb => ⟨fun h => (by cases h), fun _ hs => by
                rcases hcar b hb with h | h
                · exact (k8 b (by rw [k5]; exact h)).2 rfl hs
                · have := hI.low b hs; omega⟩⟩)
          exact ⟨_, _, v', w', _, hK, hrun, q1, .sl _ _ _ x2 v' hsl (gset_self _ _ _) (Nat.le_refl _) (fun _ => rfl), q2, q3⟩
    · exact h.elim
  · exact h.elim
end
end Go.Awp

/- Freezing; literals of slices and structs; make; len, min, max; slicing. -/
namespace Go.Awp
mutual
def AVal.view (m : List Blk) : AVal → AVal
  | .sl b len => (match m[b]? with
    | some (.sl _ sz rows) => if rows.length = len then .imm sz rows else .dead
    | _ => .dead)
  | .agg cs => .agg (AVal.viewL m cs)
  | .tup cs => .tup (AVal.viewL m cs)
  | .fn f cs ds => .fn f (AVal.viewL m cs) (AVal.viewL m ds)
  | .ifc t v => .ifc t (v.view m)
  | v => v
def AVal.viewL (m : List Blk) : List AVal → List AVal
  | [] => []
  | v :: vs => v.view m :: AVal.viewL m vs
end
mutual
def AVal.slIds : AVal → List Nat
  | .sl b _ => [b]
  | .agg cs => AVal.slIdsL cs
  | .tup cs => AVal.slIdsL cs
  | .fn _ cs ds => AVal.slIdsL cs ++ AVal.slIdsL ds
  | .ifc _ v => v.slIds
  | _ => []
def AVal.slIdsL : List AVal → List Nat
  | [] => []
  | v :: vs => v.slIds ++ AVal.slIdsL vs
end
theorem viewL_eq (m : List Blk) (l : List AVal) : AVal.viewL m l = l.map (AVal.view m) := by
  induction l with
  | nil => simp [AVal.viewL]
  | cons a l ih => simp [AVal.viewL, ih]
def frzB (m : List Blk) (b : Nat) : List Blk := match m[b]? with
  | some (.sl _ sz rows) => m.set b (.sl true sz rows)
  | _ => m
def frzL : List Blk → List Nat → List Blk
  | m, [] => m
  | m, b :: bs => frzL (frzB m b) bs

section
variable {P : Program} {S : Nat → Prop} {w : World} {g : Ghost} {m : List Blk}

theorem mem_slIdsL {v : AVal} {l : List AVal} (hv : v ∈ l) {b : Nat} (hb : b ∈ v.slIds) : b ∈ AVal.slIdsL l := by
  induction l with
  | nil => cases hv
  | cons a l ih =>
    rw [AVal.slIdsL, List.mem_append]
    rcases List.mem_cons.1 hv with rfl | hv
    · exact .inl hb
    · exact .inr (ih hv)

/-- What is viewed holds where the viewed blocks' carriers are stable. -/
theorem Rep.view (hI : Inv S w g m) {S' : Nat → Prop} (hS : ∀ c, S c → S' c) {x : AVal} {v : Value} (h : Rep S w g x v) :
    (∀ b y c, b ∈ x.slIds → (∃ fz sz rows, m[b]? = some (.sl fz sz rows)) → g b = some y → y.car = some c → S' c) → Rep S' w g (x.view m) v := by
  have key : ∀ g0 y u, Rep S w g0 y u → g0 = g → (∀ b z c, b ∈ y.slIds → (∃ fz sz rows, m[b]? = some (.sl fz sz rows)) → g b = some z → z.car = some c → S' c) → Rep S' w g0 (y.view m) u := by
    intro g0 y u h
    have mono : ∀ g0 y u, Rep S w g0 y u → Rep S' w g0 y u := fun g0 y u h => h.mono hS (fun _ _ => rfl) g0 (GLe.refl _)
    induction h with
    | bool g b => intro _ _; exact .bool _ _
    | int g k n => intro _ _; exact .int _ _ _
    | str g s => intro _ _; exact .str _ _
    | nil g => intro _ _; exact .nil _
    | ptr g b off x c hb hc hl => intro _ _; exact mono _ _ _ (.ptr g b off x c hb hc hl)
    | ept g cs off blk base f hS' h1 hc hr ih => intro _ _; exact mono _ _ _ (.ept g cs off blk base f hS' h1 hc hr)
    | spt g b len i off x v hp hb hle hv => intro _ _; exact mono _ _ _ (.spt g b len i off x v hp hb hle hv)
    | nils g => intro _ _; exact .nils _
    | imm0 g sz a cap => intro _ _; exact .imm0 _ _ _ _
    | imm g sz rows blk base len cap f hS' hlen hcap hw' h1 hc hr ih => intro _ _; exact mono _ _ _ (.imm g sz rows blk base len cap f hS' hlen hcap hw' h1 hc hr)
    | sl g0 b len x v hp hb hle hv =>
      intro e hids
      subst e
      rw [AVal.view]
      split
      · rename_i fz sz rows hm
        split
        · rename_i hlen
          obtain ⟨x', e, xs, k1, k2, k3, k4, k5, k6, k7, k8⟩ := hI.tie _ _ hm
          obtain rfl := Option.some.inj (hb.symm.trans k1)
          obtain rfl := hv (k3.trans hlen)
          subst hlen
          rcases k6.2 with ⟨hz, hz2⟩ | ⟨c, cap, cur, hcur, _, hh, hn, _, hcs, htk⟩
          · rw [hz]
            have : rows = [] := List.length_eq_zero_iff.1 hz2
            subst this
            exact .imm0 _ _ _ _
          · have hSc : S' c := hids b x c (by simp [AVal.slIds]) ⟨_, _, _, hm⟩ hb (by rw [k5, hcur]; rfl)
            rw [hcur]
            have hcell := k6.cells (g := c) (by rw [hcur]; rfl)
            refine .imm _ sz rows c 0 _ cap (fun i j => if i * sz + j < xs.length then xs.getD (i * sz + j) undef else .bool false) hSc rfl hn k7.2.1 (fun i j => ?_) (fun i r j y hi hj => ?_) (fun i r j y hi hj => ?_)
            · show Value.oneCell' (if _ then _ else _) = true
              split
              · rename_i hj; refine k7.1 _ ?_; rw [List.getD_eq_getElem?_getD, List.getElem?_eq_getElem hj]; exact List.getElem_mem hj
              · rfl
            · obtain ⟨u, hu, _⟩ := k7.2.2 i r j y hi hj
              have hlt := (List.getElem?_eq_some_iff.1 hu).1
              have := hcell _ _ hu
              rw [addr_add] at this
              rw [if_pos hlt, List.getD_eq_getElem?_getD, hu]
              rw [Nat.add_assoc]; exact this
            · obtain ⟨u, hu, hr⟩ := k7.2.2 i r j y hi hj
              have hlt := (List.getElem?_eq_some_iff.1 hu).1
              rw [if_pos hlt, List.getD_eq_getElem?_getD, hu]
              exact mono _ _ _ hr
        · exact .dead _ _
      · exact .dead _ _
    | agg g0 cs arr hl h1 hr ih =>
      intro e hids
      rw [AVal.view]
      refine .agg _ _ arr (by rw [viewL_eq, List.length_map, hl]) h1 fun j y hj => ?_
      rw [viewL_eq, List.getElem?_map] at hj
      cases hq : cs[j]? with
      | none => simp [hq] at hj
      | some z =>
        simp only [hq, Option.map_some, Option.some.injEq] at hj
        subst hj
        exact ih j z hq e fun b y c hb => hids b y c (mem_slIdsL (List.mem_of_getElem? hq) hb)
    | tup g0 cs arr hl hr ih =>
      intro e hids
      rw [AVal.view]
      refine .tup _ _ arr (by rw [viewL_eq, List.length_map, hl]) fun j y hj => ?_
      rw [viewL_eq, List.getElem?_map] at hj
      cases hq : cs[j]? with
      | none => simp [hq] at hj
      | some z =>
        simp only [hq, Option.map_some, Option.some.injEq] at hj
        subst hj
        exact ih j z hq e fun b y c hb => hids b y c (mem_slIdsL (List.mem_of_getElem? hq) hb)
    | fn g0 f cs ds ar br hl hr hl' hr' ih ih' =>
      intro e hids
      rw [AVal.view]
      refine .fn _ f _ _ ar br (by rw [viewL_eq, List.length_map, hl]) (fun j y hj => ?_) (by rw [viewL_eq, List.length_map, hl']) (fun j y hj => ?_)
      · rw [viewL_eq, List.getElem?_map] at hj
        cases hq : cs[j]? with
        | none => simp [hq] at hj
        | some z =>
          simp only [hq, Option.map_some, Option.some.injEq] at hj
          subst hj
          exact ih j z hq e fun b y c hb => hids b y c (by rw [AVal.slIds, List.mem_append]; exact .inl (mem_slIdsL (List.mem_of_getElem? hq) hb))
      · rw [viewL_eq, List.getElem?_map] at hj
        cases hq : ds[j]? with
        | none => simp [hq] at hj
        | some z =>
          simp only [hq, Option.map_some, Option.some.injEq] at hj
          subst hj
          exact ih' j z hq e fun b y c hb => hids b y c (by rw [AVal.slIds, List.mem_append]; exact .inr (mem_slIdsL (List.mem_of_getElem? hq) hb))
    | nilfn g => intro _ _; exact .nilfn _
    | nilif g => intro _ _; exact .nilif _
    | ifc g0 t x v hr ih => intro e hids; rw [AVal.view]; exact .ifc _ t _ v (ih e fun b y c hb => hids b y c (by rw [AVal.slIds]; exact hb))
    | dead g v => intro _ _; exact .dead _ _
    | mp g b x c hb hc hl => intro _ _; exact mono _ _ _ (.mp g b x c hb hc hl)
    | nilm g => intro _ _; exact .nilm _
  exact key g x v h rfl

theorem frzB_get (m : List Blk) (b i : Nat) : (frzB m b)[i]? = m[i]? ∨ (i = b ∧ ∃ fz sz rows, m[b]? = some (.sl fz sz rows) ∧ (frzB m b)[b]? = some (.sl true sz rows)) := by
  unfold frzB
  split
  · rename_i fz sz rows hm
    by_cases h : i = b
    · exact .inr ⟨h, fz, sz, rows, hm, by rw [List.getElem?_set_self (List.getElem?_eq_some_iff.1 hm).1]⟩
    · exact .inl (List.getElem?_set_ne (Ne.symm h))
  · exact .inl rfl
theorem frzB_len (m : List Blk) (b : Nat) : (frzB m b).length = m.length := by unfold frzB; split <;> simp

theorem Open.frz {b c : Nat} (h : Open g (frzB m b) c) : Open g m c := by
  obtain ⟨i, k, x, h1, h2, h3, h4⟩ := h
  rcases frzB_get m b i with h5 | ⟨rfl, fz, sz, rows, h5, h6⟩
  · rw [h5] at h1; exact ⟨i, k, x, h1, h2, h3, h4⟩
  · rw [h6] at h1; obtain rfl := Option.some.inj h1; simp [Blk.opn] at h2

/-- One slice of the call's own is made stable. -/
theorem Inv.frz1 (hI : Inv S w g m) (b : Nat) : ∃ S', (∀ c, S c → S' c) ∧ (∀ c, S' c → S c ∨ Open g m c) ∧ (∀ k x c, (frzB m b)[b]? = some k → (∃ fz sz rows, k = .sl fz sz rows) → g b = some x → x.car = some c → S' c) ∧ Inv S' w g (frzB m b) := by
  cases hm : m[b]? with
  | none =>
    have : frzB m b = m := by unfold frzB; rw [hm]
    rw [this]
    exact ⟨S, fun _ h => h, fun _ h => .inl h, fun k x c hk => (by rw [hm] at hk; cases hk), hI⟩
  | some k =>
    have triv : (∀ fz sz rows, k ≠ .sl fz sz rows) → ∃ S', (∀ c, S c → S' c) ∧ (∀ c, S' c → S c ∨ Open g m c) ∧ (∀ k x c, (frzB m b)[b]? = some k → (∃ fz sz rows, k = .sl fz sz rows) → g b = some x → x.car = some c → S' c) ∧ Inv S' w g (frzB m b) := fun hne => by
      have : frzB m b = m := by
        unfold frzB; rw [hm]
        cases k with
        | sl fz sz rows => exact absurd rfl (hne _ _ _)
        | box fz cs => rfl
        | gone => rfl
        | mp ag ls es n => rfl
      rw [this]
      refine ⟨S, fun _ h => h, fun _ h => .inl h, fun k' x c hk ⟨fz, sz, rows, e⟩ => ?_, hI⟩
      rw [hm] at hk; obtain rfl := Option.some.inj hk
      exact absurd e (hne _ _ _)
    cases k with
    | box fz cs => exact triv (fun _ _ _ h => by cases h)
    | gone => exact triv (fun _ _ _ h => by cases h)
    | mp ag ls es n => exact triv (fun _ _ _ h => by cases h)
    | sl fz sz rows =>
      have hfb : frzB m b = m.set b (.sl true sz rows) := by unfold frzB; rw [hm]
      obtain ⟨x, e, xs, k1, k2, k3, k4, k5, k6, k7, k8⟩ := hI.tie _ _ hm
      have hbl := (List.getElem?_eq_some_iff.1 hm).1
      refine ⟨fun c => S c ∨ x.car = some c, fun _ h => .inl h, fun c h => ?_, fun k y c hk _ hy hc => ?_, ?_⟩
      · rcases h with h | h
        · exact .inl h
        · cases fz with
          | true => exact .inl ((k8 c h).1 rfl)
          | false => exact .inr ⟨b, _, x, hm, rfl, k1, h⟩
      · obtain rfl := Option.some.inj (k1.symm.trans hy); exact .inr hc
      · rw [hfb]
        refine hI.update b (.sl true sz rows) (fun _ h => .inl h) (fun c h => ?_) (fun c h => ?_) (fun i hi => List.getElem?_set_ne (Ne.symm hi)) (fun _ _ => rfl) (by simp [hbl]) (by simp)
          (fun k hk => by rw [hm] at hk; obtain rfl := Option.some.inj hk; exact .inl rfl) (by simp) (fun i hi => by simp at hi; omega) (fun _ _ _ => rfl) (fun _ _ => rfl) ?_ (fun y c hy hc => .inl ⟨y, hy, hc⟩) (GLe.refl g)
        · rcases h with h | h
          · exact .inl h
          · exact .inr (.inr ⟨x, k1, h⟩)
        · rcases h with h | h
          · exact hI.low c h
          · rw [k5] at h; exact (k6.lt c h).2
        · exact ⟨x, e, xs, k1, k2, k3, k4, k5, k6, k7.mono (fun _ h => .inl h) (fun _ _ => rfl), fun c hc => ⟨fun _ => .inr hc, fun h => by cases h⟩⟩

theorem frzB_keep (m : List Blk) (b i : Nat) {k : Blk} (h : (frzB m b)[i]? = some k) (hs : ∃ fz sz rows, k = .sl fz sz rows) : ∃ fz sz rows, m[i]? = some (.sl fz sz rows) := by
  obtain ⟨fz, sz, rows, rfl⟩ := hs
  rcases frzB_get m b i with h5 | ⟨rfl, fz', sz', rows', h5, _⟩
  · rw [h5] at h; exact ⟨_, _, _, h⟩
  · exact ⟨_, _, _, h5⟩

theorem frzB_sl (m : List Blk) (b i : Nat) {fz : Bool} {sz : Nat} {rows : List AVal} (h : m[i]? = some (.sl fz sz rows)) : ∃ fz', (frzB m b)[i]? = some (.sl fz' sz rows) := by
  rcases frzB_get m b i with h5 | ⟨rfl, fz', sz', rows', h5, h6⟩
  · exact ⟨fz, h5.trans h⟩
  · rw [h] at h5; injection h5 with h5; injection h5 with _ h7 h8; subst h7; subst h8; exact ⟨true, h6⟩

theorem frzL_sl (bs : List Nat) : ∀ (m : List Blk) (i : Nat) {fz : Bool} {sz : Nat} {rows : List AVal}, m[i]? = some (.sl fz sz rows) → ∃ fz', (frzL m bs)[i]? = some (.sl fz' sz rows) := by
  induction bs with
  | nil => intro m i fz sz rows h; exact ⟨fz, h⟩
  | cons b bs ih =>
    intro m i fz sz rows h
    obtain ⟨fz', h'⟩ := frzB_sl m b i h
    exact ih (frzB m b) i h'

theorem frzL_len (bs : List Nat) : ∀ m : List Blk, (frzL m bs).length = m.length := by
  induction bs with
  | nil => intro m; rfl
  | cons b bs ih => intro m; rw [frzL, ih, frzB_len]

/-- Many are. -/
theorem Inv.frzL (bs : List Nat) : ∀ {S : Nat → Prop} {m : List Blk}, Inv S w g m → ∃ S', (∀ c, S c → S' c) ∧ (∀ c, S' c → S c ∨ Open g m c) ∧
    (∀ b x c, b ∈ bs → (∃ fz sz rows, m[b]? = some (.sl fz sz rows)) → g b = some x → x.car = some c → S' c) ∧ Inv S' w g (Awp.frzL m bs) ∧ (∀ c, Open g (Awp.frzL m bs) c → Open g m c) := by
  induction bs with
  | nil => intro S m hI; exact ⟨S, fun _ h => h, fun _ h => .inl h, fun b x c h => (by cases h), hI, fun _ h => h⟩
  | cons b bs ih =>
    intro S m hI
    obtain ⟨S1, h1, h2, h3, h4⟩ := hI.frz1 b
    obtain ⟨S2, k1, k2, k3, k4, k5⟩ := ih h4
    refine ⟨S2, fun c h => k1 c (h1 c h), fun c h => ?_, fun i x c hi hm hx hc => ?_, k4, fun c h => (k5 c h).frz⟩
    · rcases k2 c h with h | h
      · exact h2 c h
      · exact .inr h.frz
    · obtain ⟨fz, sz, rows, hm⟩ := hm
      obtain ⟨fz', hm'⟩ := frzB_sl m b i hm
      rcases List.mem_cons.1 hi with rfl | hi
      · exact k1 c (h3 _ x c hm' ⟨_, _, _, rfl⟩ hx hc)
      · exact k3 i x c hi ⟨_, _, _, hm'⟩ hx hc

/-- Freezing what a tree mentions, and viewing it. -/
theorem freeze_sound (hI : Inv S w g m) (x : AVal) {v : Value} (hx : Rep S w g x v) :
    ∃ S', Inv S' w g (Awp.frzL m x.slIds) ∧ Rep S' w g (x.view m) v ∧ (∀ c, S c → S' c) ∧ Chg S w (Open g m) S' w g (Awp.frzL m x.slIds) := by
  obtain ⟨S', h1, h2, h3, h4, h5⟩ := hI.frzL x.slIds
  exact ⟨S', h4, hx.view hI h1 (fun b y c hb hk hy hc => h3 b y c hb hk hy hc), h1, ⟨rfl, rfl, rfl, Nat.le_refl _, fun _ _ _ => rfl, h1, fun c hc => (h2 c hc).imp id .inl, fun c hc => .inl (h5 c hc)⟩⟩
end
end Go.Awp

/- Literals, make, len, min, max, slicing. -/
namespace Go.Awp
def okRow (sz : Nat) (v : AVal) : Bool := v.okCells && v.closedC && (v.cells.length == sz)
def kBuildSlice (P : Program) (t : TypeId) (n : Nat) (parts : List (Nat × AVal)) (m : List Blk) (K : AVal → List Blk → Prop) : Prop := match tyElem P t with
  | some e => (match tySize P e with
    | some sz => (zeroA P e).isSome = true ∧ (parts.map (·.1) = List.range n ∧ n ≤ 16777216 ∧ n * sz ≤ 16777216 ∧ (AVal.viewL m (parts.map (·.2))).all (okRow sz) = true) ∧
        K (.sl m.length n) (frzL m (AVal.slIdsL (parts.map (·.2))) ++ [.sl false sz (AVal.viewL m (parts.map (·.2)))])
    | none => False)
  | none => False
/-- The same at a place that was kept for it, where no part is a slice of the call's own. -/
def kBuildSliceAt (P : Program) (t : TypeId) (n : Nat) (parts : List (Nat × AVal)) (b : Nat) (K : AVal → Blk → Prop) : Prop := match tyElem P t with
  | some e => (match tySize P e with
    | some sz => (zeroA P e).isSome = true ∧ (parts.map (·.1) = List.range n ∧ n ≤ 16777216 ∧ n * sz ≤ 16777216 ∧ (parts.map (·.2)).all (okRow sz) = true) ∧ K (.sl b n) (.sl false sz (parts.map (·.2)))
    | none => False)
  | none => False
theorem obj_map {P : Program} {w : World} {r : Nat} {es : Array MapEntry} {clock : Nat} (hb : w.heap[r]? = some (.map es clock)) : (getObj r).run P w = .ok (.map es clock) w := by
  simp [getObj, Sem.run, hb]
theorem obj_set {P : Program} {w : World} {r : Nat} {es : Array MapEntry} {clock : Nat} (o : Obj) (hb : w.heap[r]? = some (.map es clock)) : (setObj r o).run P w = .ok () { w with heap := w.heap.setIfInBounds r o } := by
  simp [setObj, Sem.run, hb]
/-- An element's zero row. -/
def zeroRow (P : Program) (e : TypeId) : Option AVal := match zeroA P e, tyAgg P e with
  | some z, some true => some (.agg z)
  | some [v], some false => some v
  | _, _ => none
def kMake (P : Program) (t : TypeId) (l c : AVal) (m : List Blk) (K : AVal → List Blk → Prop) : Prop := match l, c, tyElem P t with
  | .int _ l, .int _ c, some e => (match tyApp P e, zeroRow P e with
    | some sz, some z => (0 ≤ l ∧ l ≤ c ∧ c ≤ 4294967296) ∧ K (.sl m.length l.toNat) (m ++ [.sl false sz (List.replicate l.toNat z)])
    | _, _ => False)
  | _, _, _ => False
def kLen (P : Program) (t : TypeId) (x : AVal) (m : List Blk) (K : AVal → Prop) : Prop := match x with
  | .str s => tyStr P t = true ∧ K (.int .i64 s.size)
  | .nils => (tyElem P t).isSome = true ∧ K (.int .i64 0)
  | .imm _ rows => (tyElem P t).isSome = true ∧ K (.int .i64 rows.length)
  | .sl b len => (tyElem P t).isSome = true ∧ (match m[b]? with
    | some (.sl _ _ rows) => rows.length = len ∧ K (.int .i64 len)
    | _ => False)
  | .mp b => (tyMap P t).isSome = true ∧ (match m[b]? with
    | some (.mp _ _ es _) => K (.int .i64 es.length)
    | _ => False)
  | _ => (match tyArr P t with
    | some (n, _) => K (.int .i64 n)
    | none => False)
def kMin (mx : Bool) (xs : List AVal) (K : AVal → Prop) : Prop := match xs with
  | [.int k a, .int k' b] => k' = k ∧ K (.int k (if mx then max a b else min a b))
  | [.int k a, .int k' b, .int k'' c] => k' = k ∧ k'' = k ∧ K (.int k (if mx then max (max a b) c else min (min a b) c))
  | _ => False
/-- The bounds of a slice expression without a third one. -/
def bnd (len : Nat) (lo hi : Option AVal) (K : Nat → Nat → Prop) : Prop :=
  match hi with
  | some (.int _ h) => (0 ≤ h ∧ h ≤ len) ∧ (match lo with
    | some (.int _ l) => (0 ≤ l ∧ l ≤ h) ∧ K l.toNat h.toNat
    | none => K 0 h.toNat
    | _ => False)
  | none => (match lo with
    | some (.int _ l) => (0 ≤ l ∧ l ≤ len) ∧ K l.toNat len
    | none => K 0 len
    | _ => False)
  | _ => False
def kSlice (P : Program) (t : TypeId) (x : AVal) (lo hi mx : Option AVal) (m : List Blk) (K : AVal → List Blk → Prop) : Prop := match mx with
  | some _ => False
  | none => (match x with
    | .str s => tyStr P t = true ∧ bnd s.size lo hi fun l h => K (.str (s.extract l h)) m
    | .imm sz rows => (match tyElem P t with
      | some e => tySize P e = some sz ∧ bnd rows.length lo hi fun l h => K (.imm sz ((rows.take h).drop l)) m
      | none => False)
    | .nils => (match tyElem P t with
      | some e => (tySize P e).isSome = true ∧ bnd 0 lo hi fun _ _ => K .nils m
      | none => False)
    | .sl b len => (match m[b]? with
      | some (.sl _ sz rows) => rows.length = len ∧ (match tyElem P t with
        | some e => tySize P e = some sz ∧ bnd rows.length lo hi fun l h => K (.imm sz ((rows.take h).drop l)) (frzB m b)
        | none => False)
      | _ => False)
    | _ => False)
def fillA (place : Nat → Option (Nat × Nat)) : List AVal → List (Nat × AVal) → Option (List AVal)
  | cs, [] => some cs
  | cs, (i, v) :: r => match place i with
    | some (off, sz) => if v.okCells = true ∧ v.cells.length = sz ∧ off + sz ≤ cs.length then fillA place (spliceA cs off v.cells) r else none
    | none => none
/-- Where the parts of a struct or an array lie: offset and size of each. -/
def tyPlaces (P : Program) (t : TypeId) : Option (List (Nat × Nat)) := match P.underlying t with
  | some (.struct fs) => fs.toList.mapM fun f => (P.info? f.type).map fun i => (f.offset, i.size)
  | _ => none
def placeOf (P : Program) (t : TypeId) : Option (Nat → Option (Nat × Nat)) := match tyPlaces P t with
  | some l => some fun i => l[i]?
  | none => (match tyArr P t with
    | some (_, e) => (tySize P e).map fun s => fun i => some (i * s, s)
    | none => none)
def kBuild (P : Program) (t : TypeId) (parts : List (Nat × AVal)) (K : AVal → Prop) : Prop := match zeroA P t, placeOf P t with
  | some z, some pl => (match fillA pl z parts with
    | some cs => K (.agg cs)
    | none => False)
  | _, _ => False

section
variable {P : Program} {S : Nat → Prop} {w : World} {g : Ghost} {m : List Blk}

theorem fold_set (off : Nat) : ∀ (l : List Value) (s : Nat) (cells : Array Value), off + s + l.length ≤ cells.size →
    ((l.zipIdx s).foldl (fun (cs : Array Value) (x : Value × Nat) => cs.setIfInBounds (off + x.2) x.1) cells).toList = cells.toList.take (off + s) ++ l ++ cells.toList.drop (off + s + l.length) := by
  intro l
  induction l with
  | nil => intro s cells h; simp
  | cons a l ih =>
    intro s cells h
    simp only [List.length_cons] at h
    rw [List.zipIdx_cons, List.foldl_cons, ih (s + 1) _ (by simp; omega)]
    simp only [Array.toList_setIfInBounds]
    apply List.ext_getElem?
    intro j
    have h1 : off + (s + 1) + l.length ≤ (cells.toList.set (off + s) a).length := by have e : cells.toList.length = cells.size := Array.length_toList; rw [List.length_set, e]; omega
    have h2 : off + s + (a :: l).length ≤ cells.toList.length := by have e : cells.toList.length = cells.size := Array.length_toList; rw [List.length_cons, e]; omega
    rw [get_splice _ _ _ h1, get_splice _ _ _ h2]
    simp only [List.length_cons]
    by_cases hj : off + (s + 1) ≤ j ∧ j < off + (s + 1) + l.length
    · rw [if_pos hj, if_pos (by omega)]
      have e : j - (off + s) = (j - (off + (s + 1))) + 1 := by omega
      rw [e, List.getElem?_cons_succ]
    · rw [if_neg hj, List.getElem?_set]
      by_cases hj2 : off + s = j
      · subst hj2
        have q1 : off + s < cells.toList.length := by have e : cells.toList.length = cells.size := Array.length_toList; rw [e]; omega
        rw [if_pos rfl, if_pos q1, if_pos (by constructor <;> omega)]; simp
      · rw [if_neg hj2, if_neg (by omega)]

theorem fold_set' (off : Nat) (v : Array Value) (cells : Array Value) (h : off + v.size ≤ cells.size) :
    (v.zipIdx.foldl (fun (cs : Array Value) (x : Value × Nat) => cs.setIfInBounds (off + x.2) x.1) cells) = (cells.toList.take off ++ v.toList ++ cells.toList.drop (off + v.toList.length)).toArray := by
  apply Array.ext'
  have := fold_set off v.toList 0 cells (by simpa using h)
  rw [← Array.foldl_toList, Array.toList_zipIdx]
  simpa using this

theorem fill_sound (place : Nat → Option (Nat × Nat)) : ∀ (parts : List (Nat × AVal)) (vals : List (Nat × Value)) (cs out : List AVal) (arr : Array Value), CellsRep S w g cs arr →
    parts.length = vals.length → (∀ (j : Nat) (p : Nat × AVal) (q : Nat × Value), parts[j]? = some p → vals[j]? = some q → p.1 = q.1 ∧ Rep S w g p.2 q.2) → fillA place cs parts = some out →
    ∃ o, Instr.fill place arr vals = some o ∧ CellsRep S w g out o := by
  intro parts
  induction parts with
  | nil =>
    intro vals cs out arr hc hl hv hf
    obtain rfl : vals = [] := List.eq_nil_of_length_eq_zero (by simpa using hl.symm)
    simp [fillA] at hf; subst hf
    exact ⟨arr, rfl, hc⟩
  | cons p parts ih =>
    intro vals cs out arr hc hl hv hf
    cases vals with
    | nil => simp at hl
    | cons q vals =>
      obtain ⟨h1, h2⟩ := hv 0 p q rfl rfl
      obtain ⟨i, x⟩ := p
      obtain ⟨i', v⟩ := q
      simp only at h1 h2
      subst h1
      simp only [fillA] at hf
      split at hf
      · rename_i off sz hpl
        split at hf
        · rename_i hcond
          obtain ⟨k1, k2, k3⟩ := hcond
          have hvc := h2.cells k1
          subst k2
          obtain ⟨o, ho, hco⟩ := ih vals _ out _ (hc.splice hvc k3) (by simpa using hl) (fun j p q hp hq => hv (j + 1) p q hp hq) hf
          refine ⟨o, ?_, hco⟩
          have hsz : v.cells.size = x.cells.length := hvc.1
          have hnot : ¬ ((v.cells.size ≠ x.cells.length || off + v.cells.size > arr.size) = true) := by
            simp [hsz, hc.1]; omega
          simp only [Instr.fill, hpl]
          rw [if_neg (by simpa using hnot), fold_set' off v.cells arr (by rw [hsz, hc.1]; exact k3)]
          exact ho
        · cases hf
      · cases hf

theorem zeroA_cells {e : TypeId} {z : List AVal} (h : zeroA P e = some z) : ∃ i zv, P.info? e = some i ∧ i.zero = some zv ∧ CellsRep S w g z zv.cells ∧ zv.cells.toList.map ofVal0 = z := by
  unfold zeroA at h
  split at h
  · rename_i zv hz
    split at h
    · rename_i h1
      simp at h; subst h
      cases hq : P.info? e with
      | none => simp [hq] at hz
      | some i =>
        refine ⟨i, zv, rfl, by simpa [hq] using hz, ⟨by simp, fun u hu => List.all_eq_true.1 h1 u (by simpa using hu), fun j y hj => ?_⟩, rfl⟩
        rw [List.getElem?_map] at hj
        cases hq : zv.cells.toList[j]? with
        | none => simp [hq] at hj
        | some u =>
          simp only [hq, Option.map_some, Option.some.injEq] at hj
          subst hj
          have h2 : zv.cells[j]? = some u := by simpa using hq
          simp [Array.getD_eq_getD_getElem?, h2]
          exact ofVal0_rep S w g u
    · cases h
  · cases h

theorem run_zeroValue {e : TypeId} {i : TypeInfo} {z : Value} (hi : P.info? e = some i) (hz : i.zero = some z) (w : World) : (zeroValue e).run P w = .ok z w := by
  simp [zeroValue, typeInfo, hi, hz]

theorem kBuild_sound {t : TypeId} {parts : List (Nat × AVal)} {vals : Array (Nat × Value)} {K : AVal → Prop} (h : kBuild P t parts K) (hl : parts.length = vals.size)
    (hv : ∀ (j : Nat) (p : Nat × AVal) (q : Nat × Value), parts[j]? = some p → vals[j]? = some q → p.1 = q.1 ∧ Rep S w g p.2 q.2) :
    ∃ v u, K v ∧ (Instr.build t vals).run P w = .ok u w ∧ Rep S w g v u := by
  unfold kBuild at h
  split at h
  · rename_i z pl hz hpl
    split at h
    · rename_i cs hcs
      obtain ⟨i, zv, hi, hzv, hzc, _⟩ := zeroA_cells (S := S) (w := w) (g := g) hz
      obtain ⟨o, ho, hco⟩ := fill_sound pl parts vals.toList z cs zv.cells hzc (by simpa using hl) (fun j p q hp hq => hv j p q hp (by simpa using hq)) hcs
      refine ⟨.agg cs, .agg o, h, ?_, .agg _ _ _ hco.1 hco.2.1 hco.2.2⟩
      unfold placeOf at hpl
      split at hpl
      · rename_i l hlp
        simp at hpl; subst hpl
        unfold tyPlaces at hlp
        split at hlp
        · rename_i fs hu
          simp [Instr.build, run_zeroValue hi hzv, run_underlying hu, Array.mapM_eq_mapM_toList, run_places w _ _ hlp, ho]
        · cases hlp
      · split at hpl
        · rename_i n e ha
          cases hs : tySize P e with
          | none => simp [hs] at hpl
          | some s =>
            simp [hs] at hpl; subst hpl
            simp [Instr.build, run_zeroValue hi hzv, run_underlying (tyArr_und ha), run_sizeOf hs, ho]
        · cases hpl
    · exact h.elim
  · exact h.elim

/-- A slice's literal, as rows. -/
theorem fill_rows (sz : Nat) : ∀ (vs : List Value) (k : Nat) (cells : Array Value), (∀ v ∈ vs, v.cells.size = sz) → cells.size = (k + vs.length) * sz →
    ∃ o, Instr.fill (fun i => some (i * sz, sz)) cells ((vs.zipIdx k).map fun x => (x.2, x.1)) = some o ∧ o.toList = cells.toList.take (k * sz) ++ vs.flatMap fun v => v.cells.toList := by
  intro vs
  induction vs with
  | nil =>
    intro k cells _ hs
    refine ⟨cells, rfl, ?_⟩
    simp at hs ⊢
    rw [List.take_of_length_le]; simp [hs]
  | cons v vs ih =>
    intro k cells hv hs
    have h1 : v.cells.size = sz := hv v (by simp)
    simp only [List.length_cons] at hs
    have hle : k * sz + v.cells.size ≤ cells.size := by
      rw [hs, h1, ← Nat.succ_mul]; exact Nat.mul_le_mul_right _ (by omega)
    obtain ⟨o, ho, hol⟩ := ih (k + 1) (cells.toList.take (k * sz) ++ v.cells.toList ++ cells.toList.drop (k * sz + v.cells.toList.length)).toArray (fun u hu => hv u (by simp [hu])) (by
      rw [List.size_toArray, size_splice _ _ _ (by simpa using hle), Array.length_toList, hs]; congr 1; omega)
    refine ⟨o, ?_, ?_⟩
    · rw [List.zipIdx_cons, List.map_cons]
      simp only [Instr.fill]
      rw [if_neg (by subst h1; simp; exact hle), fold_set' (k * sz) v.cells cells hle]
      exact ho
    · rw [hol, List.flatMap_cons, ← List.append_assoc]
      congr 1
      have h2 : (k + 1) * sz = (cells.toList.take (k * sz) ++ v.cells.toList).length := by
        rw [List.length_append, List.length_take, Array.length_toList, Array.length_toList, h1, Nat.succ_mul]
        omega
      rw [h2]
      exact List.take_left

theorem flat_get {sz : Nat} {vs : List Value} (hv : ∀ v ∈ vs, v.cells.size = sz) (i j : Nat) (v : Value) (hi : vs[i]? = some v) (hj : j < sz) :
    (vs.flatMap fun v => v.cells.toList)[i * sz + j]? = v.cells[j]? := by
  induction vs generalizing i with
  | nil => simp at hi
  | cons a vs ih =>
    have ha : a.cells.toList.length = sz := by simpa using hv a (by simp)
    rw [List.flatMap_cons]
    cases i with
    | zero =>
      simp at hi; subst hi
      rw [Nat.zero_mul, Nat.zero_add, List.getElem?_append_left (by rw [ha]; exact hj), Array.getElem?_toList]
    | succ i =>
      rw [List.getElem?_append_right (by rw [ha, Nat.succ_mul]; omega), ha]
      have e : (i + 1) * sz + j - sz = i * sz + j := by rw [Nat.succ_mul]; omega
      rw [e]
      exact ih (fun u hu => hv u (by simp [hu])) i (by simpa using hi)

theorem flat_len {sz : Nat} {vs : List Value} (hv : ∀ v ∈ vs, v.cells.size = sz) : (vs.flatMap fun v => v.cells.toList).length = vs.length * sz := by
  induction vs with
  | nil => simp
  | cons a vs ih => rw [List.flatMap_cons, List.length_append, ih (fun u hu => hv u (by simp [hu]))]; simp [hv a (by simp), Nat.succ_mul]; omega

/-- A new slice of the call's own, from a row of cells. -/
theorem newSl_sound (hI : Inv S w g m) (e : TypeId) (sz n cap : Nat) (rows : List AVal) (cells : Array Value) (hl : rows.length = n) (hn : n ≤ cap) (hcap : cap ≤ maxLen) (hs : cells.size = cap * sz)
    (hr : RowsRep S w sz rows (cells.toList.take (n * sz))) :
    ∃ g', After S w g m S (w.alloc (.cells cells e)) g' (m ++ [.sl false sz rows]) (.sl m.length n) (.slice (some ⟨w.heap.size, 0, none⟩) n cap) := by
  let x : Inf := ⟨false, some w.heap.size, sz, n, cap, .slice (some ⟨w.heap.size, 0, none⟩) n cap⟩
  obtain ⟨h1, h2, h3⟩ := hI.push (w' := w.alloc (.cells cells e)) (.sl false sz rows) x rfl rfl rfl (by simp) (fun c hc => heap_alloc_old w _ c hc) (fun c hc => by simp [x] at hc; omega)
    (fun hlow hle => ⟨x, e, cells.toList.take (n * sz), gset_self _ _ _, rfl, hl.symm, rfl, rfl, ⟨by
        rw [List.length_take, Array.length_toList, hs, hl]
        have := Nat.mul_le_mul_right sz hn; omega, .inr ⟨w.heap.size, cap, cells, by rw [hl], Nat.zero_le _, heap_alloc_new w _, by rw [hl]; exact hn, hcap, hs, by rw [hl]⟩⟩,
      hr.mono (fun _ h => h) (fun c hc => heap_alloc_old w _ c (hI.low c hc)), fun c hc => ⟨fun e => (by cases e), fun _ hs => by
        have := hI.low _ hs; simp [x] at hc; omega⟩⟩)
  exact ⟨_, h1, .sl _ _ _ x _ ⟨_, _, _, rfl⟩ (gset_self _ _ _) (Nat.le_refl _) (fun _ => rfl), h2, h3⟩

/-- The same, at a place that was kept for it. -/
theorem newSl_fill (bx : Nat) (hbx : m[bx]? = some .gone) (hI : Inv S w g m) (e : TypeId) (sz n cap : Nat) (rows : List AVal) (cells : Array Value) (hl : rows.length = n) (hn : n ≤ cap) (hcap : cap ≤ maxLen) (hs : cells.size = cap * sz)
    (hr : RowsRep S w sz rows (cells.toList.take (n * sz))) :
    ∃ g', After S w g m S (w.alloc (.cells cells e)) g' (m.set bx (.sl false sz rows)) (.sl bx n) (.slice (some ⟨w.heap.size, 0, none⟩) n cap) := by
  let x : Inf := ⟨false, some w.heap.size, sz, n, cap, .slice (some ⟨w.heap.size, 0, none⟩) n cap⟩
  obtain ⟨h1, h2, h3⟩ := hI.fill (w' := w.alloc (.cells cells e)) bx hbx (.sl false sz rows) x (by simp) rfl rfl rfl (by simp) (fun c hc => heap_alloc_old w _ c hc) (fun c hc => by simp [x] at hc; omega)
    (fun hlow hle => ⟨x, e, cells.toList.take (n * sz), gset_self _ _ _, rfl, hl.symm, rfl, rfl, ⟨by
        rw [List.length_take, Array.length_toList, hs, hl]
        have := Nat.mul_le_mul_right sz hn; omega, .inr ⟨w.heap.size, cap, cells, by rw [hl], Nat.zero_le _, heap_alloc_new w _, by rw [hl]; exact hn, hcap, hs, by rw [hl]⟩⟩,
      hr.mono (fun _ h => h) (fun c hc => heap_alloc_old w _ c (hI.low c hc)), fun c hc => ⟨fun e => (by cases e), fun _ hs => by
        have := hI.low _ hs; simp [x] at hc; omega⟩⟩)
  exact ⟨_, h1, .sl _ _ _ x _ ⟨_, _, _, rfl⟩ (gset_self _ _ _) (Nat.le_refl _) (fun _ => rfl), h2, h3⟩

theorem After.trans {S1 S2 : Nat → Prop} {w1 w2 : World} {g1 g2 : Ghost} {m1 m2 : List Blk} {x : AVal} {v : Value} (h : Chg S w (Open g m) S1 w1 g1 m1) (hg : GLe g g1)
    (k : After S1 w1 g1 m1 S2 w2 g2 m2 x v) : After S w g m S2 w2 g2 m2 x v := ⟨k.inv, k.rep, hg.trans k.le, h.trans k.chg⟩

theorem kBuildSlice_sound (hI : Inv S w g m) {t : TypeId} {n : Nat} {parts : List (Nat × AVal)} {vals : Array (Nat × Value)} {K : AVal → List Blk → Prop} (h : kBuildSlice P t n parts m K) (hl : parts.length = vals.size)
    (hv : ∀ (j : Nat) (p : Nat × AVal) (q : Nat × Value), parts[j]? = some p → vals[j]? = some q → p.1 = q.1 ∧ Rep S w g p.2 q.2) :
    ∃ v m' u w' S' g', K v m' ∧ (Instr.buildSlice t n vals).run P w = .ok u w' ∧ After S w g m S' w' g' m' v u := by
  unfold kBuildSlice at h
  split at h
  · rename_i e he
    split at h
    · rename_i sz hsz
      obtain ⟨hz, ⟨hpos, hlimn, hlim, hall⟩, hK⟩ := h
      obtain ⟨z, hz⟩ := Option.isSome_iff_exists.1 hz
      obtain ⟨i, zv, hi, hzv, hzc, _⟩ := zeroA_cells (S := S) (w := w) (g := g) hz
      -- the parts as one tuple
      have hx : Rep S w g (.tup (parts.map (·.2))) (.tuple (vals.map (·.2))) := .tup _ _ _ (by simp [hl]) fun j y hj => by
        rw [List.getElem?_map] at hj
        cases hp : parts[j]? with
        | none => simp [hp] at hj
        | some p =>
          simp only [hp, Option.map_some, Option.some.injEq] at hj
          subst hj
          have hlt : j < vals.size := by rw [← hl]; exact (List.getElem?_eq_some_iff.1 hp).1
          have := (hv j p vals[j] hp (Array.getElem?_eq_getElem hlt)).2
          simpa [Array.getD, hlt] using this
      obtain ⟨S1, hI1, hx1, hS1, hchg⟩ := freeze_sound hI _ hx
      simp only [AVal.slIds, AVal.view] at hI1 hx1 hchg
      generalize hvs : AVal.viewL m (parts.map (·.2)) = rows at *
      have hrl : rows.length = parts.length := by rw [← hvs, viewL_eq]; simp
      have hpl : parts.length = n := by have := congrArg List.length hpos; simpa using this
      cases hx1 with
      | tup g _ arr hl' hr' =>
      have hcells : ∀ (j : Nat) (r : AVal), rows[j]? = some r → ∃ v, (vals.map (·.2)).toList[j]? = some v ∧ r.cells.length = sz ∧ CellsRep S1 w noG r.cells v.cells := fun j r hj => by
        have hr := hr' j r hj
        have hok := List.all_eq_true.1 hall r (List.mem_of_getElem? hj)
        simp only [okRow, Bool.and_eq_true, beq_iff_eq] at hok
        have hlt : j < (vals.map (·.2)).size := by rw [hl']; exact (List.getElem?_eq_some_iff.1 hj).1
        refine ⟨(vals.map (·.2)).getD j undef, ?_, hok.2, (hr.cells hok.1.1).closed hok.1.2⟩
        rw [Array.getElem?_toList]; exact getD_some hlt
      let vs := (vals.map (·.2)).toList
      have hvsl : vs.length = n := by simp [vs]; omega
      have hvsz : ∀ v ∈ vs, v.cells.size = sz := fun v hv => by
        obtain ⟨j, hj, rfl⟩ := List.getElem_of_mem hv
        have hjr : j < rows.length := by omega
        obtain ⟨v', hv', h1, h2⟩ := hcells j _ (List.getElem?_eq_getElem hjr)
        have : v' = vs[j] := by
          have := List.getElem?_eq_getElem hj
          rw [show (vals.map (·.2)).toList = vs from rfl, this] at hv'; exact (Option.some.inj hv').symm
        rw [← this, h2.1, h1]
      have hparts : vals.toList = (vs.zipIdx 0).map fun x => (x.2, x.1) := by
        apply List.ext_getElem?
        intro j
        rw [List.getElem?_map, List.getElem?_zipIdx]
        simp only [vs, Array.getElem?_toList, Array.getElem?_map]
        cases hq : vals[j]? with
        | none => simp
        | some q =>
          have hlt := (Array.getElem?_eq_some_iff.1 hq).1
          have hpj : parts[j]? = some parts[j] := List.getElem?_eq_getElem (by omega)
          obtain ⟨h1, _⟩ := hv j _ q hpj hq
          have hpos' : (parts.map (·.1))[j]? = some parts[j].1 := by rw [List.getElem?_map, hpj]; rfl
          rw [hpos, List.getElem?_range (by omega)] at hpos'
          have : q.1 = j := by rw [← h1]; exact (Option.some.inj hpos').symm
          simp [← this]
      let zc : Array Value := if n * sz = 0 then #[] else zv.cells
      obtain ⟨o, ho, hol⟩ := fill_rows sz vs 0 ((Array.range (n * sz)).map (zc[· % zc.size]!)) hvsz (by simp [hvsl])
      rw [Nat.zero_mul, List.take_zero, List.nil_append] at hol
      have hosz : o.size = n * sz := by rw [← Array.length_toList, hol, flat_len hvsz, hvsl]
      have hrows : RowsRep S1 w sz rows (o.toList.take (n * sz)) := by
        rw [List.take_of_length_le (by rw [Array.length_toList, hosz]; exact Nat.le_refl _), hol]
        refine ⟨fun u hu => ?_, fun i r hi => ?_, fun i r j y hi hj => ?_⟩
        · obtain ⟨v, hv', hu'⟩ := List.mem_flatMap.1 hu
          obtain ⟨k, hk, rfl⟩ := List.getElem_of_mem hv'
          have hkr : k < rows.length := by omega
          obtain ⟨v', hv'', _, h2⟩ := hcells k _ (List.getElem?_eq_getElem hkr)
          have : v' = vs[k] := by
            have := List.getElem?_eq_getElem hk
            rw [show (vals.map (·.2)).toList = vs from rfl, this] at hv''; exact (Option.some.inj hv'').symm
          rw [← this] at hu'
          exact h2.2.1 u (by simpa using hu')
        · exact (hcells i r hi).elim fun _ h => h.2.1
        · obtain ⟨v, hv', h1, h2⟩ := hcells i r hi
          have hjs : j < sz := by rw [← h1]; exact (List.getElem?_eq_some_iff.1 hj).1
          have hjv : j < v.cells.size := by rw [h2.1, h1]; exact hjs
          exact ⟨v.cells.getD j undef, by rw [flat_get hvsz i j v hv' hjs]; exact getD_some hjv, h2.2.2 j y hj⟩
      obtain ⟨g', ha⟩ := newSl_sound hI1 e sz n n rows o (by omega) (Nat.le_refl _) (by simp only [maxLen]; omega) hosz hrows
      refine ⟨_, _, _, _, S1, g', hK, ?_, After.trans hchg (GLe.refl g) (by rw [frzL_len] at ha; exact ha)⟩
      have hnl : ¬ n * sz > 2 ^ 24 := by omega
      have ho' : Instr.fill (fun i => some (i * sz, sz)) ((Array.range (n * sz)).map (zc[· % zc.size]!)) vals.toList = some o := by rw [hparts]; exact ho
      unfold Instr.buildSlice
      simp only [Sem.run_bind, run_underlying (tyElem_und he), Result.andThen_ok, run_sizeOf hsz]
      rw [if_neg hnl]
      by_cases h0 : n * sz = 0
      · have hz0 : zc = #[] := by simp [zc, h0]
        rw [hz0] at ho'
        rw [if_pos h0, Sem.run_bind, Sem.run_pure, Result.andThen_ok]
        simp only [ho']
        simp [newRow]
      · have hz0 : zc = zv.cells := by simp [zc, h0]
        rw [hz0] at ho'
        rw [if_neg h0, Sem.run_bind, run_zeroValue hi hzv, Result.andThen_ok, Sem.run_bind, Sem.run_pure, Result.andThen_ok]
        simp only [ho']
        simp [newRow]
    · exact h.elim
  · exact h.elim

theorem kBuildSliceAt_sound (hI : Inv S w g m) {bx : Nat} (hbx : m[bx]? = some .gone) {t : TypeId} {n : Nat} {parts : List (Nat × AVal)} {vals : Array (Nat × Value)} {K : AVal → Blk → Prop} (h : kBuildSliceAt P t n parts bx K) (hl : parts.length = vals.size)
    (hv : ∀ (j : Nat) (p : Nat × AVal) (q : Nat × Value), parts[j]? = some p → vals[j]? = some q → p.1 = q.1 ∧ Rep S w g p.2 q.2) :
    ∃ v k u w' g', K v k ∧ (Instr.buildSlice t n vals).run P w = .ok u w' ∧ After S w g m S w' g' (m.set bx k) v u := by
  unfold kBuildSliceAt at h
  split at h
  · rename_i e he
    split at h
    · rename_i sz hsz
      obtain ⟨hz, ⟨hpos, hlimn, hlim, hall⟩, hK⟩ := h
      obtain ⟨z, hz⟩ := Option.isSome_iff_exists.1 hz
      obtain ⟨i, zv, hi, hzv, hzc, _⟩ := zeroA_cells (S := S) (w := w) (g := g) hz
      -- the parts as one tuple
      have hx : Rep S w g (.tup (parts.map (·.2))) (.tuple (vals.map (·.2))) := .tup _ _ _ (by simp [hl]) fun j y hj => by
        rw [List.getElem?_map] at hj
        cases hp : parts[j]? with
        | none => simp [hp] at hj
        | some p =>
          simp only [hp, Option.map_some, Option.some.injEq] at hj
          subst hj
          have hlt : j < vals.size := by rw [← hl]; exact (List.getElem?_eq_some_iff.1 hp).1
          have := (hv j p vals[j] hp (Array.getElem?_eq_getElem hlt)).2
          simpa [Array.getD, hlt] using this
      have hx1 := hx
      generalize hvs : parts.map (·.2) = rows at *
      have hrl : rows.length = parts.length := by rw [← hvs]; simp
      have hpl : parts.length = n := by have := congrArg List.length hpos; simpa using this
      cases hx1 with
      | tup g _ arr hl' hr' =>
      have hcells : ∀ (j : Nat) (r : AVal), rows[j]? = some r → ∃ v, (vals.map (·.2)).toList[j]? = some v ∧ r.cells.length = sz ∧ CellsRep S w noG r.cells v.cells := fun j r hj => by
        have hr := hr' j r hj
        have hok := List.all_eq_true.1 hall r (List.mem_of_getElem? hj)
        simp only [okRow, Bool.and_eq_true, beq_iff_eq] at hok
        have hlt : j < (vals.map (·.2)).size := by rw [hl']; exact (List.getElem?_eq_some_iff.1 hj).1
        refine ⟨(vals.map (·.2)).getD j undef, ?_, hok.2, (hr.cells hok.1.1).closed hok.1.2⟩
        rw [Array.getElem?_toList]; exact getD_some hlt
      let vs := (vals.map (·.2)).toList
      have hvsl : vs.length = n := by simp [vs]; omega
      have hvsz : ∀ v ∈ vs, v.cells.size = sz := fun v hv => by
        obtain ⟨j, hj, rfl⟩ := List.getElem_of_mem hv
        have hjr : j < rows.length := by omega
        obtain ⟨v', hv', h1, h2⟩ := hcells j _ (List.getElem?_eq_getElem hjr)
        have : v' = vs[j] := by
          have := List.getElem?_eq_getElem hj
          rw [show (vals.map (·.2)).toList = vs from rfl, this] at hv'; exact (Option.some.inj hv').symm
        rw [← this, h2.1, h1]
      have hparts : vals.toList = (vs.zipIdx 0).map fun x => (x.2, x.1) := by
        apply List.ext_getElem?
        intro j
        rw [List.getElem?_map, List.getElem?_zipIdx]
        simp only [vs, Array.getElem?_toList, Array.getElem?_map]
        cases hq : vals[j]? with
        | none => simp
        | some q =>
          have hlt := (Array.getElem?_eq_some_iff.1 hq).1
          have hpj : parts[j]? = some parts[j] := List.getElem?_eq_getElem (by omega)
          obtain ⟨h1, _⟩ := hv j _ q hpj hq
          have hpos' : (parts.map (·.1))[j]? = some parts[j].1 := by rw [List.getElem?_map, hpj]; rfl
          rw [hpos, List.getElem?_range (by omega)] at hpos'
          have : q.1 = j := by rw [← h1]; exact (Option.some.inj hpos').symm
          simp [← this]
      let zc : Array Value := if n * sz = 0 then #[] else zv.cells
      obtain ⟨o, ho, hol⟩ := fill_rows sz vs 0 ((Array.range (n * sz)).map (zc[· % zc.size]!)) hvsz (by simp [hvsl])
      rw [Nat.zero_mul, List.take_zero, List.nil_append] at hol
      have hosz : o.size = n * sz := by rw [← Array.length_toList, hol, flat_len hvsz, hvsl]
      have hrows : RowsRep S w sz rows (o.toList.take (n * sz)) := by
        rw [List.take_of_length_le (by rw [Array.length_toList, hosz]; exact Nat.le_refl _), hol]
        refine ⟨fun u hu => ?_, fun i r hi => ?_, fun i r j y hi hj => ?_⟩
        · obtain ⟨v, hv', hu'⟩ := List.mem_flatMap.1 hu
          obtain ⟨k, hk, rfl⟩ := List.getElem_of_mem hv'
          have hkr : k < rows.length := by omega
          obtain ⟨v', hv'', _, h2⟩ := hcells k _ (List.getElem?_eq_getElem hkr)
          have : v' = vs[k] := by
            have := List.getElem?_eq_getElem hk
            rw [show (vals.map (·.2)).toList = vs from rfl, this] at hv''; exact (Option.some.inj hv'').symm
          rw [← this] at hu'
          exact h2.2.1 u (by simpa using hu')
        · exact (hcells i r hi).elim fun _ h => h.2.1
        · obtain ⟨v, hv', h1, h2⟩ := hcells i r hi
          have hjs : j < sz := by rw [← h1]; exact (List.getElem?_eq_some_iff.1 hj).1
          have hjv : j < v.cells.size := by rw [h2.1, h1]; exact hjs
          exact ⟨v.cells.getD j undef, by rw [flat_get hvsz i j v hv' hjs]; exact getD_some hjv, h2.2.2 j y hj⟩
      obtain ⟨g', ha⟩ := newSl_fill bx hbx hI e sz n n rows o (by omega) (Nat.le_refl _) (by simp only [maxLen]; omega) hosz hrows
      refine ⟨_, _, _, _, g', hK, ?_, ha⟩
      have hnl : ¬ n * sz > 2 ^ 24 := by omega
      have ho' : Instr.fill (fun i => some (i * sz, sz)) ((Array.range (n * sz)).map (zc[· % zc.size]!)) vals.toList = some o := by rw [hparts]; exact ho
      unfold Instr.buildSlice
      simp only [Sem.run_bind, run_underlying (tyElem_und he), Result.andThen_ok, run_sizeOf hsz]
      rw [if_neg hnl]
      by_cases h0 : n * sz = 0
      · have hz0 : zc = #[] := by simp [zc, h0]
        rw [hz0] at ho'
        rw [if_pos h0, Sem.run_bind, Sem.run_pure, Result.andThen_ok]
        simp only [ho']
        simp [newRow]
      · have hz0 : zc = zv.cells := by simp [zc, h0]
        rw [hz0] at ho'
        rw [if_neg h0, Sem.run_bind, run_zeroValue hi hzv, Result.andThen_ok, Sem.run_bind, Sem.run_pure, Result.andThen_ok]
        simp only [ho']
        simp [newRow]
    · exact h.elim
  · exact h.elim

theorem zeroRow_cells {e : TypeId} {sz : Nat} {z : AVal} (ha : tyApp P e = some sz) (h : zeroRow P e = some z) :
    ∃ i zv, P.info? e = some i ∧ i.zero = some zv ∧ i.size = sz ∧ zv.cells.size = sz ∧ 0 < sz ∧ i.bytes ≤ 32768 ∧ z.cells.length = sz ∧ CellsRep S w noG z.cells zv.cells := by
  obtain ⟨i, zv, hi, hzv, h1, h2, h3, h4⟩ := tyApp_info ha
  have hz : ∃ zc, zeroA P e = some zc ∧ z.cells = zc := by
    unfold zeroRow at h
    split at h
    · rename_i zc _ hzc; simp at h; subst h; exact ⟨zc, by assumption, rfl⟩
    · rename_i v hv _
      simp at h; subst h
      refine ⟨[v], hv, ?_⟩
      unfold zeroA at hv
      split at hv
      · split at hv
        · rename_i zz _ hq
          simp at hv
          obtain ⟨u, _, rfl⟩ := hv
          unfold ofVal0
          split <;> rfl
        · cases hv
      · cases hv
    · cases h
  obtain ⟨zc, hz, hzc⟩ := hz
  obtain ⟨i', zv', hi', hzv', hc, _⟩ := zeroA_cells (S := S) (w := w) (g := noG) hz
  obtain rfl := Option.some.inj (hi.symm.trans hi')
  obtain rfl := Option.some.inj (hzv.symm.trans hzv')
  rw [hzc]
  exact ⟨i, zv, hi, hzv, h1, h2, h3, h4, by rw [← hc.1]; exact h2, hc⟩

theorem kMake_sound (hI : Inv S w g m) {t : TypeId} {l c : AVal} {vl vc : Value} {K : AVal → List Blk → Prop} (h : kMake P t l c m K) (hl : Rep S w g l vl) (hc : Rep S w g c vc) :
    ∃ v m' u w' g', K v m' ∧ (Instr.makeSlice t vl vc).run P w = .ok u w' ∧ After S w g m S w' g' m' v u := by
  unfold kMake at h
  split at h
  · rename_i kl l kc c e he
    cases hl; cases hc
    split at h
    · rename_i sz z ha hz
      obtain ⟨⟨h0, h1, h2⟩, hK⟩ := h
      obtain ⟨i, zv, hi, hzv, hsz, hzs, hpos, hby, hzl, hzc⟩ := zeroRow_cells (S := S) (w := w) ha hz
      have hbytes : (i.bytes : Int) * c ≤ 281474976710656 := by
        have : (i.bytes : Int) * c ≤ 32768 * 4294967296 := Int.mul_le_mul (by omega) h2 (by omega) (by omega)
        omega
      have hr := run_make (P := P) w t e i zv (tyElem_und he) hi hzv kl kc l c h0 h1 hbytes (by omega)
      rw [hsz] at hr
      have hms : (madeCells zv.cells (c.toNat * sz)).size = c.toNat * sz := size_madeCells _ _
      have hmg : ∀ p, p < c.toNat * sz → (madeCells zv.cells (c.toNat * sz))[p]? = some (zv.cells.getD (p % sz) undef) := fun p hp => by
        have hlt : p % sz < zv.cells.size := by rw [hzs]; exact Nat.mod_lt _ hpos
        have hlt2 : p % sz < sz := Nat.mod_lt _ hpos
        simp [madeCells, hp, hzs, Array.getD, hlt2, getElem!_pos]
      have hln : l.toNat ≤ c.toNat := by omega
      have hmul : l.toNat * sz ≤ c.toNat * sz := Nat.mul_le_mul_right _ hln
      obtain ⟨g', hA⟩ := newSl_sound hI e sz l.toNat c.toNat (List.replicate l.toNat z) (madeCells zv.cells (c.toNat * sz)) (by simp) hln (by simp only [maxLen]; omega) hms (by
        refine ⟨fun u hu => ?_, fun k r hk => ?_, fun k r j y hk hj => ?_⟩
        · have hu := List.mem_of_mem_take hu
          simp [madeCells] at hu
          obtain ⟨p, hp, rfl⟩ := hu
          have hlt : p % zv.cells.size < zv.cells.size := Nat.mod_lt _ (by rw [hzs]; exact hpos)
          exact hzc.2.1 _ (by simp [hlt])
        · rw [List.getElem?_replicate] at hk; split at hk <;> simp at hk; subst hk; exact hzl
        · rw [List.getElem?_replicate] at hk; split at hk <;> simp at hk; subst hk
          rename_i hkl
          have hjs : j < sz := by rw [← hzl]; exact (List.getElem?_eq_some_iff.1 hj).1
          have hlt : k * sz + j < l.toNat * sz := by
            have : k * sz + sz ≤ l.toNat * sz := by rw [← Nat.succ_mul]; exact Nat.mul_le_mul_right _ hkl
            omega
          refine ⟨zv.cells.getD j undef, ?_, hzc.2.2 j y hj⟩
          rw [List.getElem?_take, if_pos hlt, Array.getElem?_toList, hmg _ (by omega)]
          have e2 : (k * sz + j) % sz = j := by rw [Nat.mul_comm, Nat.mul_add_mod, Nat.mod_eq_of_lt hjs]
          rw [e2])
      exact ⟨_, _, _, _, g', hK, hr, hA⟩
    · exact h.elim
  · exact h.elim

theorem kLen_sound (hI : Inv S w g m) {t rt : TypeId} {x : AVal} {a : Value} {K : AVal → Prop} (h : kLen P t x m K) (hx : Rep S w g x a) :
    ∃ v u, K v ∧ (Builtin.len_ #[t] rt #[a]).run P w = .ok u w ∧ Rep S w g v u := by
  have hel : (tyElem P t).isSome = true → ∃ e, P.underlying t = some (.slice e) := fun h => by
    obtain ⟨e, he⟩ := Option.isSome_iff_exists.1 h; exact ⟨e, tyElem_und he⟩
  unfold kLen at h
  split at h
  · cases hx; exact ⟨_, _, h.2, by simp [Builtin.len_, run_underlying (tyStr_und h.1), goInt], .int _ _ _⟩
  · cases hx; obtain ⟨e, he⟩ := hel h.1; exact ⟨_, _, h.2, by simp [Builtin.len_, run_underlying he, goInt], .int _ _ _⟩
  · obtain ⟨e, he⟩ := hel h.1
    cases hx with
    | imm0 g sz a cap => exact ⟨_, _, h.2, by simp [Builtin.len_, run_underlying he, goInt], .int _ _ _⟩
    | imm g sz rows blk base len cap f hS hlen hcap hw h1 hc hr => exact ⟨_, _, h.2, by subst hlen; simp [Builtin.len_, run_underlying he, goInt], .int _ _ _⟩
  · obtain ⟨e, he⟩ := hel h.1
    obtain ⟨_, h⟩ := h
    cases hx with
    | sl g b len x v hp hb hle hv =>
    split at h
    · rename_i fz sz rows hm
      obtain ⟨x', e', xs, k1, k2, k3, k4, k5, k6, _⟩ := hI.tie _ _ hm
      obtain rfl := Option.some.inj (hb.symm.trans k1)
      obtain rfl := hv (k3.trans h.1)
      obtain ⟨hl, hK⟩ := h
      subst hl
      rcases k6.2 with ⟨hz, hz2⟩ | ⟨c, cap, cur, hcur, _⟩
      · rw [hz]; exact ⟨_, _, hK, by simp [Builtin.len_, run_underlying he, goInt]; rfl, by rw [hz2]; exact .int _ _ _⟩
      · rw [hcur]; exact ⟨_, _, hK, by simp [Builtin.len_, run_underlying he, goInt], .int _ _ _⟩
    · exact h.elim
  · obtain ⟨h0, h⟩ := h
    obtain ⟨ke, hke⟩ := Option.isSome_iff_exists.1 h0
    have hu := tyMap_und hke
    cases hx with
    | mp g b x c hb hc hl =>
    split at h
    · rename_i ag ls es n hm
      obtain ⟨x', c', arr, k1, k2, k3, k4, k5, _⟩ := hI.tie _ _ hm
      obtain rfl := Option.some.inj (hb.symm.trans k1)
      obtain rfl := Option.some.inj (hc.symm.trans k3)
      exact ⟨_, _, h, by simp [Builtin.len_, run_underlying hu, obj_map k4, goInt]; rfl, by rw [k5.1]; exact .int _ _ _⟩
    · exact h.elim
  · split at h
    · rename_i n e ha
      exact ⟨_, _, h, by simp [Builtin.len_, run_underlying (tyArr_und ha), goInt], .int _ _ _⟩
    · exact h.elim

theorem kMin_sound {mx : Bool} {xs : List AVal} {vs : Array Value} {ts : Array TypeId} {rt : TypeId} {K : AVal → Prop} (h : kMin mx xs K) (hl : vs.size = xs.length)
    (hx : ∀ (j : Nat) (y : AVal), xs[j]? = some y → Rep S w g y (vs.getD j undef)) :
    ∃ v u, K v ∧ ((if mx then Builtin.max_ ts rt vs else Builtin.min_ ts rt vs) : Sem Value).run P w = .ok u w ∧ Rep S w g v u := by
  have emin : ∀ a b : Int, (if b < a then b else a) = min a b := fun a b => by split <;> omega
  have emax : ∀ a b : Int, (if b > a then b else a) = max a b := fun a b => by split <;> omega
  obtain ⟨l⟩ := vs
  simp only [List.size_toArray] at hl
  unfold kMin at h
  split at h
  · rename_i k a k' b
    obtain ⟨rfl, hK⟩ := h
    match l, hl with
    | [u0, u1], _ =>
      have h0 := hx 0 _ rfl
      have h1 := hx 1 _ rfl
      simp at h0 h1
      cases h0; cases h1
      cases mx
      · exact ⟨_, _, hK, by simp [Builtin.min_, Builtin.min2, emin], .int _ _ _⟩
      · exact ⟨_, _, hK, by simp [Builtin.max_, Builtin.max2]; rfl, by simp; rw [← emax]; exact .int _ _ _⟩
  · rename_i k a k' b k'' c
    obtain ⟨rfl, rfl, hK⟩ := h
    match l, hl with
    | [u0, u1, u2], _ =>
      have h0 := hx 0 _ rfl
      have h1 := hx 1 _ rfl
      have h2 := hx 2 _ rfl
      simp at h0 h1 h2
      cases h0; cases h1; cases h2
      cases mx
      · exact ⟨_, _, hK, by simp [Builtin.min_, Builtin.min2, emin], .int _ _ _⟩
      · exact ⟨_, _, hK, by simp [Builtin.max_, Builtin.max2]; rfl, by simp only [if_true]; rw [← emax (max a b) c, ← emax a b]; exact .int _ _ _⟩
  · exact h.elim
end
end Go.Awp

/- Maps. -/
namespace Go.Awp
open Go.MapKept
/-- A struct of plain fields. -/
def plainKeys (P : Program) (t : TypeId) : Bool := match P.underlying t with
  | some (.struct fs) => fs.toList.all fun f => f.name != "_" && ((tyInt P f.type).isSome || tyStr P f.type)
  | _ => false
def keyTy (P : Program) (t : TypeId) : Option (Bool × List Lf) := match tyInt P t with
  | some k => some (false, [.i k])
  | none => if plainKeys P t then (match tyEq P t with
    | some ls => some (true, ls)
    | none => none) else none
def mpIx (k : AVal) : List (AVal × AVal × Nat) → Option Nat
  | [] => none
  | e :: r => if eqC k.cells e.1.cells then some 0 else (mpIx k r).map (· + 1)
def mpGet (k : AVal) : List (AVal × AVal × Nat) → Option (AVal × Nat)
  | [] => none
  | e :: r => if eqC k.cells e.1.cells then some e.2 else mpGet k r
def mpSet (k v : AVal) : List (AVal × AVal × Nat) → Option (List (AVal × AVal × Nat))
  | [] => none
  | e :: r => if eqC k.cells e.1.cells then some ((e.1, v, e.2.2) :: r) else (mpSet k v r).map (e :: ·)
def mpStore (s : Int) (v : AVal) : List (AVal × AVal × Nat) → Option (List (AVal × AVal × Nat))
  | [] => none
  | e :: r => if (e.2.2 : Int) == s then some ((e.1, v, e.2.2) :: r) else (mpStore s v r).map (e :: ·)
def mpDel (k : AVal) : List (AVal × AVal × Nat) → List (AVal × AVal × Nat)
  | [] => []
  | e :: r => if eqC k.cells e.1.cells then r else e :: mpDel k r
/-- A type's zero value. -/
def zeroVal (P : Program) (e : TypeId) : Option AVal := (P.info? e).bind fun i => i.zero.map ofVal
def lkRes (ok : Bool) (v : AVal) (b : Bool) : AVal := if ok then .tup [v, .bool b] else v
def lkVal (ok : Bool) (z : AVal) (x : Option (AVal × Nat)) : AVal := match x with
  | some v => lkRes ok v.1 true
  | none => lkRes ok z false
def kLookup (P : Program) (t : TypeId) (x k : AVal) (ok : Bool) (m : List Blk) (K : AVal → Prop) : Prop := match tyMap P t with
  | some (kt, et) => (match keyTy P kt, zeroVal P et with
    | some (ag, ls), some z => k.isAgg = ag ∧ lfOk ls k.cells = true ∧ (match x with
      | .nilm => K (lkRes ok z false)
      | .mp b => (match m[b]? with
        | some (.mp ag' ls' es _) => ag' = ag ∧ ls' = ls ∧ K (lkVal ok z (mpGet k es))
        | _ => False)
      | _ => False)
    | _, _ => False)
  | none => False
def kMakeMap (P : Program) (t : TypeId) (m : List Blk) (K : AVal → List Blk → Prop) : Prop := match tyMap P t with
  | some (kt, _) => (match keyTy P kt with
    | some (ag, ls) => K (.mp m.length) (m ++ [.mp ag ls [] 0])
    | none => False)
  | none => False
/-- The map that a write meets. -/
def mpAt (x : AVal) (m : List Blk) : Option (Nat × Bool × List Lf × List (AVal × AVal × Nat) × Nat) := match x with
  | .mp b => (match m[b]? with
    | some (.mp ag ls es n) => some (b, ag, ls, es, n)
    | _ => none)
  | _ => none
def mpKey (P : Program) (t : TypeId) (k : AVal) (ag : Bool) (ls : List Lf) : Prop := match tyMap P t with
  | some (kt, _) => (match keyTy P kt with
    | some (ag', ls') => ag = ag' ∧ ls = ls' ∧ k.isAgg = ag' ∧ lfOk ls' k.cells = true
    | none => False)
  | none => False
def mpZero (P : Program) (t : TypeId) : Option AVal := match tyMap P t with
  | some (_, et) => zeroVal P et
  | none => none
def kMapUpdate (P : Program) (t : TypeId) (x k v : AVal) (m : List Blk) (K : List Blk → Prop) : Prop := match mpAt x m with
  | some (b, ag, ls, es, n) => mpKey P t k ag ls ∧ True ∧ (match mpSet k v es with
    | some es' => K (m.set b (.mp ag ls es' n))
    | none => K (m.set b (.mp ag ls (es ++ [(k, v, n)]) (n + 1))))
  | none => False
def kMapEntry (P : Program) (t : TypeId) (x k : AVal) (m : List Blk) (K : AVal → List Blk → Prop) : Prop := match mpAt x m with
  | some (b, ag, ls, es, n) => mpKey P t k ag ls ∧ True ∧ (match mpGet k es with
      | some v => K (.tup [v.1, .int .i64 v.2]) (m.set b (.mp ag ls es n))
      | none => (match mpZero P t with
        | some z => K (.tup [z, .int .i64 n]) (m.set b (.mp ag ls (es ++ [(k, z, n)]) (n + 1)))
        | none => False))
  | none => False
def kEntryStore (x s v : AVal) (m : List Blk) (K : List Blk → Prop) : Prop := match mpAt x m, s with
  | some (b, ag, ls, es, n), .int _ s => (match mpStore s v es with
      | some es' => K (m.set b (.mp ag ls es' n))
      | none => False)
  | _, _ => False
def kDelete (P : Program) (t : TypeId) (x k : AVal) (m : List Blk) (K : List Blk → Prop) : Prop := match mpAt x m with
  | some (b, ag, ls, es, n) => mpKey P t k ag ls ∧ True ∧ K (m.set b (.mp ag ls (mpDel k es) n))
  | none => False

section
variable {P : Program} {S : Nat → Prop} {w : World} {g : Ghost} {m : List Blk}

theorem zeroVal_rep {e : TypeId} {z : AVal} (h : zeroVal P e = some z) : ∃ zv, (∀ w, (zeroValue e).run P w = .ok zv w) ∧ ∀ S w g, Rep S w g z zv := by
  unfold zeroVal at h
  cases hi : P.info? e with
  | none => simp [hi] at h
  | some i =>
    cases hz : i.zero with
    | none => simp [hi, hz] at h
    | some zv =>
      simp [hi, hz] at h; subst h
      exact ⟨zv, fun w => run_zeroValue hi hz w, fun S w g => ofVal_rep S w g zv⟩

theorem chk_fields {d n : Nat} (xs : Array Value) (em : Bool) (w : World) : ∀ (fs : List Field) (off tot : Nat) (ls : List Lf), lfF (lfs P n) (fs.map fun f => (f.type, f.offset)) off tot = some ls →
    lfV ls ((xs.toList.drop off).take ls.length) → (∀ f ∈ fs, f.name ≠ "_" ∧ ((tyInt P f.type).isSome = true ∨ tyStr P f.type = true)) →
    (forIn fs PUnit.unit fun f _ => (do
      if f.name ≠ "_" then do
        Instr.checkKey em (d + 1) f.type (← part f.type xs f.offset)
        pure (ForInStep.yield PUnit.unit)
      else pure (ForInStep.yield PUnit.unit) : Sem (ForInStep PUnit))).run P w = .ok PUnit.unit w
  | [], _, _, _, _, _, _ => by simp
  | f :: fs, off, tot, ls, h, hv, hf => by
    simp only [List.map_cons, lfF] at h
    split at h
    · rename_i ho
      split at h
      · rename_i a ha
        split at h
        · rename_i b hb
          cases h
          have hs := lfV.split hv
          have h1 : ((xs.toList.drop off).take (a ++ b).length).take a.length = (xs.toList.drop off).take a.length := by
            rw [List.take_take]; congr 1; simp
          have h2 : ((xs.toList.drop off).take (a ++ b).length).drop a.length = (xs.toList.drop (off + a.length)).take b.length := by
            rw [List.drop_take, List.drop_drop]; congr 1; simp
          rw [h1, h2] at hs
          obtain ⟨x, hp, hc, _, hone⟩ := part_run ha hs.1 w
          obtain ⟨hn, hty⟩ := hf f (by simp)
          have hchk : (Instr.checkKey em (d + 1) f.type x).run P w = .ok () w := by
            have hx : lfV a x.cells.toList := by rw [hc]; exact hs.1
            rcases hty with hty | hty
            · obtain ⟨k, hk⟩ := Option.isSome_iff_exists.1 hty
              have hu := tyInt_und hk
              have hcell := hone (by simp [tyAgg, hu])
              rw [hcell] at hx
              have hls : a = [.i k] := by
                cases n with
                | zero => simp [lfs] at ha
                | succ n =>
                  unfold lfs at ha; rw [hu] at ha; simp only at ha
                  split at ha
                  · cases ha; rfl
                  · cases ha
              subst hls
              obtain ⟨⟨z, rfl⟩, _⟩ := hx
              exact run_checkKey hu (by simp [IsKey]) em d
            · have hu := tyStr_und hty
              have hcell := hone (by simp [tyAgg, hu])
              rw [hcell] at hx
              have hls : a = [.s] := by
                cases n with
                | zero => simp [lfs] at ha
                | succ n =>
                  unfold lfs at ha; rw [hu] at ha; simp only at ha
                  split at ha
                  · cases ha; rfl
                  · cases ha
              subst hls
              obtain ⟨⟨z, rfl⟩, _⟩ := hx
              exact run_checkKey hu (by simp [IsKey]) em d
          rw [List.forIn_cons]
          simp only [Sem.run_bind, hn, ne_eq, not_false_eq_true, if_true]
          rw [ho, hp]
          simp only [Result.andThen_ok, hchk, Sem.run_pure]
          exact chk_fields xs em w fs _ tot b hb hs.2 (fun y hy => hf y (by simp [hy]))
        · cases h
      · cases h
    · cases h

theorem key_check {kt : TypeId} {ag : Bool} {ls : List Lf} (hk : keyTy P kt = some (ag, ls)) {k : AVal} {kv : Value} (ha : k.isAgg = ag) (hl : lfOk ls k.cells = true) (hr : Rep S w g k kv) (em : Bool) (w' : World) :
    (Instr.checkKey em 10000 kt kv).run P w' = .ok () w' := by
  unfold keyTy at hk
  split at hk
  · rename_i kd hi
    cases hk
    cases k <;> simp [AVal.isAgg, AVal.cells, lfOk] at ha hl
    subst hl
    cases hr
    exact run_checkKey (tyInt_und hi) (by simp [IsKey]) em 9999
  · split at hk
    · rename_i hp
      split at hk
      · rename_i l ht
        cases hk
        cases k <;> simp [AVal.isAgg] at ha
        rename_i cs
        simp only [AVal.cells] at hl
        have hr' := hr
        cases hr with
        | agg _ _ arr hlen h1 hr =>
        obtain ⟨k1, _⟩ := eq_sound (S := S) (w := w) (g := g) hl (us := arr.toList) (by simpa using hlen) (fun j y hj => by
          have hlt : j < arr.size := by have := (List.getElem?_eq_some_iff.1 hj).1; omega
          exact ⟨arr.getD j undef, by simp [Array.getD, hlt], hr j y hj⟩)
        unfold tyEq at ht
        split at ht
        · rename_i hc
          unfold plainKeys at hp
          split at hp
          · rename_i fs hu
            unfold lfs at ht
            rw [hu] at ht
            simp only at ht
            split at ht
            · rename_i hc2
              rw [Instr.checkKey]
              simp only [Sem.run_bind, run_underlying hu, Result.andThen_ok]
              rw [← Array.forIn_toList]
              have hlen2 : arr.toList.length = ls.length := k1.length
              have := chk_fields (P := P) (d := 9998) (n := 7) arr em w' fs.toList 0 _ ls ht (by rw [List.drop_zero, List.take_of_length_le (by omega)]; exact k1) (fun f hf => by
                have := List.all_eq_true.1 hp f hf
                simp only [Bool.and_eq_true, bne_iff_ne, ne_eq, Bool.or_eq_true] at this
                exact this)
              rw [this]; rfl
            · cases ht
          · cases hp
        · cases ht
      · cases hk
    · cases hk

/-- Keys of one kind: '==' of the values is '==' of the trees. -/
theorem key_eq {kt : TypeId} {ls : List Lf} (hk : keyTy P kt = some (true, ls)) {k k' : AVal} {kv kv' : Value} (ha : k.isAgg = true) (hl : lfOk ls k.cells = true) (hr : Rep S w g k kv) (ha' : k'.isAgg = true) (hl' : lfOk ls k'.cells = true) (hr' : Rep S w g k' kv') :
    (Op.equal kt kv kv').run P w = .ok (eqC k.cells k'.cells) w := by
  unfold keyTy at hk
  split at hk
  · cases hk
  · split at hk
    · split at hk
      · rename_i l ht
        cases hk
        cases k <;> simp [AVal.isAgg] at ha
        cases k' <;> simp [AVal.isAgg] at ha'
        exact (agg_equal ht hl hl' hr hr' .eql (.tmp 0) (.tmp 0)).2
      · cases hk
    · cases hk

theorem key_find {kt : TypeId} {ag : Bool} {ls : List Lf} (hk : keyTy P kt = some (ag, ls)) {k : AVal} {kv : Value} (ha : k.isAgg = ag) (hl : lfOk ls k.cells = true) (hr : Rep S w noG k kv) {es : List (AVal × AVal × Nat)} {arr : Array MapEntry} (he : EntsRep S w g ag ls es arr) :
    (Instr.findKey kt kv arr.toList).run P w = .ok ((mpIx k es).bind fun i => (arr[i]?).map fun e => (i, e.val)) w := by
  have key : ∀ (es : List (AVal × AVal × Nat)) (l : List MapEntry) (i0 : Nat), l.length = es.length → (∀ (j : Nat) (k v : AVal) (n : Nat), es[j]? = some (k, v, n) → k.isAgg = ag ∧ lfOk ls k.cells = true ∧ ∃ e, l[j]? = some e ∧ Rep S w noG k e.key) →
      (ag = false → ∀ d, P.underlying kt = some d → Instr.findNow d kv l i0 = some ((mpIx k es).bind fun i => (l[i]?).map fun e => (i0 + i, e.val))) ∧
      (ag = true → (Instr.findAsking kt kv l i0).run P w = .ok ((mpIx k es).bind fun i => (l[i]?).map fun e => (i0 + i, e.val)) w) := by
    intro es
    induction es with
    | nil =>
      intro l i0 hlen _
      have : l = [] := List.length_eq_zero_iff.1 (by simpa using hlen)
      subst this
      exact ⟨fun _ d _ => by simp [Instr.findNow, mpIx], fun _ => by simp [Instr.findAsking, mpIx]⟩
    | cons x es ih =>
      intro l i0 hlen h
      obtain ⟨ek, ev, en⟩ := x
      cases l with
      | nil => simp at hlen
      | cons e l =>
        obtain ⟨h1, h2, e', h3, h4⟩ := h 0 ek ev en rfl
        simp at h3; subst h3
        obtain ⟨i1, i2⟩ := ih l (i0 + 1) (by simpa using hlen) (fun j k v n hj => by
          obtain ⟨a, b, c, d, f⟩ := h (j + 1) k v n (by simpa using hj)
          exact ⟨a, b, c, by simpa using d, f⟩)
        have fin : ((mpIx k es).map (· + 1)).bind (fun i => ((e :: l)[i]?).map fun e => (i0 + i, e.val)) = (mpIx k es).bind fun i => (l[i]?).map fun e => (i0 + 1 + i, e.val) := by
          cases mpIx k es with
          | none => rfl
          | some i => simp; congr 1; funext e; congr 1; omega
        refine ⟨fun hag d hd => ?_, fun hag => ?_⟩
        · subst hag
          unfold keyTy at hk
          split at hk
          · rename_i kd hi
            cases hk
            have hu := tyInt_und hi
            rw [hd] at hu; cases hu
            cases k <;> simp [AVal.isAgg, AVal.cells, lfOk] at ha hl
            subst hl
            cases ek <;> simp [AVal.isAgg, AVal.cells, lfOk] at h1 h2
            subst h2
            generalize hek : e.key = ekv at h4
            cases hr; cases h4
            rename_i a b
            simp only [Instr.findNow, hek]
            simp only [Instr.sameNow, if_true, mpIx, AVal.cells, eqC, Bool.and_true]
            by_cases hab : a = b
            · simp [hab]
            · rw [show (a == b) = false from by simpa using hab]
              simp only [Bool.false_eq_true, if_false]
              rw [i1 rfl _ hd, fin]
          · split at hk
            · split at hk <;> cases hk
            · cases hk
        · subst hag
          simp only [Instr.findAsking, Sem.run_bind]
          rw [key_eq hk ha hl hr h1 h2 h4]
          simp only [Result.andThen_ok, mpIx]
          split
          · simp
          · rw [i2 rfl, fin]
  obtain ⟨k1, k2⟩ := key es arr.toList 0 (by simpa using he.1) (fun j k v n hj => by
    obtain ⟨a, b, e, c, _, d, _⟩ := he.2 j k v n hj
    exact ⟨a, b, e, by simpa using c, d⟩)
  have hfin : ((mpIx k es).bind fun i => (arr.toList[i]?).map fun e => (0 + i, e.val)) = (mpIx k es).bind fun i => (arr[i]?).map fun e => (i, e.val) := by simp
  rw [hfin] at k1 k2
  cases ag with
  | false =>
    have hk' := hk
    unfold keyTy at hk'
    split at hk'
    · rename_i kd hi
      exact run_findKey (tyInt_und hi) (k1 rfl _ (tyInt_und hi))
    · split at hk'
      · split at hk' <;> cases hk'
      · cases hk'
  | true =>
    rw [run_findKey_eq _ ?_]
    · exact k2 rfl
    · unfold keyTy at hk
      split at hk
      · cases hk
      · split at hk
        · rename_i hp
          unfold plainKeys at hp
          split at hp
          · rename_i hu; rw [hu]
          · cases hp
        · cases hk

theorem eqC_eq : ∀ {ls : List Lf} {a b : List AVal}, lfOk ls a = true → lfOk ls b = true → eqC a b = true → a = b
  | [], [], [], _, _, _ => rfl
  | [], _ :: _, _, h, _, _ => by simp [lfOk] at h
  | [], [], _ :: _, _, h, _ => by simp [lfOk] at h
  | _ :: _, [], _, h, _, _ => by simp [lfOk] at h
  | _ :: _, _ :: _, [], _, h, _ => by simp [lfOk] at h
  | .b :: ls, x :: a, y :: b, h1, h2, h => by
    cases x <;> simp [lfOk] at h1
    cases y <;> simp [lfOk] at h2
    simp only [eqC, Bool.and_eq_true, beq_iff_eq] at h
    rw [h.1, eqC_eq h1 h2 h.2]
  | .i k :: ls, x :: a, y :: b, h1, h2, h => by
    cases x <;> simp [lfOk] at h1
    cases y <;> simp [lfOk] at h2
    simp only [eqC, Bool.and_eq_true, beq_iff_eq] at h
    rw [h.1, eqC_eq h1.2 h2.2 h.2, ← h1.1, ← h2.1]
  | .s :: ls, x :: a, y :: b, h1, h2, h => by
    cases x <;> simp [lfOk] at h1
    cases y <;> simp [lfOk] at h2
    simp only [eqC, Bool.and_eq_true] at h
    rw [(bytes_beq _ _).1 h.1, eqC_eq h1 h2 h.2]
theorem key_same {ls : List Lf} {k k' : AVal} (ha : k.isAgg = k'.isAgg) (h1 : lfOk ls k.cells = true) (h2 : lfOk ls k'.cells = true) (h : eqC k.cells k'.cells = true) : k = k' := by
  have := eqC_eq h1 h2 h
  cases k <;> cases k' <;> simp_all [AVal.isAgg, AVal.cells]

theorem leaf_det {l : Lf} {x : AVal} (hl : lfOk [l] [x] = true) {v v' : Value} (h : Rep S w g x v) (h' : Rep S w g x v') : v = v' ∧ ∀ n, Instr.sameBits n v v = true := by
  cases l <;> cases x <;> simp [lfOk] at hl <;> cases h <;> cases h' <;> exact ⟨rfl, fun n => by cases n <;> simp [Instr.sameBits, bytes_beq]⟩
theorem lfOk_get : ∀ {ls : List Lf} {cs : List AVal} {j : Nat} {y : AVal}, lfOk ls cs = true → cs[j]? = some y → ∃ l, lfOk [l] [y] = true
  | [], [], j, y, _, h => by simp at h
  | [], _ :: _, _, _, h, _ => by simp [lfOk] at h
  | _ :: _, [], _, _, h, _ => by simp [lfOk] at h
  | .b :: ls, x :: cs, j, y, h, hj => by
    cases x <;> simp [lfOk] at h
    cases j with
    | zero => simp at hj; subst hj; exact ⟨.b, by simp [lfOk]⟩
    | succ j => exact lfOk_get h (by simpa using hj)
  | .i k :: ls, x :: cs, j, y, h, hj => by
    cases x <;> simp [lfOk] at h
    cases j with
    | zero => simp at hj; subst hj; exact ⟨.i k, by simp [lfOk, h.1]⟩
    | succ j => exact lfOk_get h.2 (by simpa using hj)
  | .s :: ls, x :: cs, j, y, h, hj => by
    cases x <;> simp [lfOk] at h
    cases j with
    | zero => simp at hj; subst hj; exact ⟨.s, by simp [lfOk]⟩
    | succ j => exact lfOk_get h (by simpa using hj)
theorem sameBits_agg {n : Nat} {a : Array Value} (h : ∀ u ∈ a, Instr.sameBits n u u = true) : Instr.sameBits (n + 1) (.agg a) (.agg a) = true := by
  rw [Instr.sameBits]
  simp only [beq_self_eq_true, Bool.true_and, List.all_eq_true]
  intro x hx
  obtain ⟨j, hj, e⟩ := List.mem_iff_getElem.1 hx
  rw [List.getElem_zip] at e
  subst e
  exact h _ (by simp)
theorem key_det {ls : List Lf} {k : AVal} (hl : lfOk ls k.cells = true) {v v' : Value} (h : Rep S w g k v) (h' : Rep S w g k v') : v = v' ∧ Instr.sameBits 10000 v v = true := by
  by_cases hag : k.isAgg = true
  · cases k <;> simp [AVal.isAgg] at hag
    rename_i cs
    cases h with
    | agg _ _ a hla _ hra =>
    cases h' with
    | agg _ _ b hlb _ hrb =>
    simp only [AVal.cells] at hl
    have e : a = b := by
      refine Array.ext (by omega) fun i h1 h2 => ?_
      obtain ⟨y, hy⟩ : ∃ y, cs[i]? = some y := ⟨_, List.getElem?_eq_getElem (by omega)⟩
      obtain ⟨l, hl'⟩ := lfOk_get hl hy
      have e1 := hra i y hy
      have e2 := hrb i y hy
      rw [show a.getD i undef = a[i] from by simp [Array.getD, h1]] at e1
      rw [show b.getD i undef = b[i] from by simp [Array.getD, h2]] at e2
      exact (leaf_det hl' e1 e2).1
    subst e
    refine ⟨rfl, sameBits_agg fun u hu => ?_⟩
    obtain ⟨i, hi, rfl⟩ := Array.mem_iff_getElem.1 hu
    obtain ⟨y, hy⟩ : ∃ y, cs[i]? = some y := ⟨_, List.getElem?_eq_getElem (by omega)⟩
    obtain ⟨l, hl'⟩ := lfOk_get hl hy
    have e1 := hra i y hy
    rw [show a.getD i undef = a[i] from by simp [Array.getD, hi]] at e1
    exact (leaf_det hl' e1 e1).2 _
  · have hc : k.cells = [k] := by cases k <;> first | rfl | (simp [AVal.isAgg] at hag)
    rw [hc] at hl
    obtain ⟨l, hl'⟩ := lfOk_get hl (j := 0) rfl
    exact ⟨(leaf_det hl' h h').1, (leaf_det hl' h h').2 _⟩
theorem run_stays {k : Value} (h : Instr.sameBits 10000 k k = true) (w : World) : (Instr.keyThatStays k k).run P w = .ok k w := by
  simp [Instr.keyThatStays, h]

theorem mpIx_get {k : AVal} : ∀ {es : List (AVal × AVal × Nat)}, mpGet k es = (mpIx k es).bind fun i => (es[i]?).map (·.2)
  | [] => rfl
  | e :: r => by
    simp only [mpGet, mpIx]
    split
    · simp
    · rw [mpIx_get]
      cases mpIx k r <;> simp
theorem mpIx_lt {k : AVal} : ∀ {es : List (AVal × AVal × Nat)} {i : Nat}, mpIx k es = some i → ∃ e, es[i]? = some e ∧ eqC k.cells e.1.cells = true
  | [], i, h => by simp [mpIx] at h
  | e :: r, i, h => by
    simp only [mpIx] at h
    split at h
    · cases h; exact ⟨e, rfl, by assumption⟩
    · cases hr : mpIx k r with
      | none => simp [hr] at h
      | some j =>
        simp [hr] at h; subst h
        obtain ⟨e', h1, h2⟩ := mpIx_lt hr
        exact ⟨e', by simpa using h1, h2⟩
theorem mpSet_ix {k v : AVal} : ∀ {es : List (AVal × AVal × Nat)}, mpSet k v es = (mpIx k es).map fun i => es.modify i fun e => (e.1, v, e.2.2)
  | [] => rfl
  | e :: r => by
    simp only [mpSet, mpIx]
    split
    · simp
    · rw [mpSet_ix]
      cases mpIx k r <;> simp
theorem mpDel_ix {k : AVal} : ∀ {es : List (AVal × AVal × Nat)}, mpDel k es = match mpIx k es with
    | some i => es.eraseIdx i
    | none => es
  | [] => rfl
  | e :: r => by
    simp only [mpDel, mpIx]
    split
    · simp
    · rw [mpDel_ix]
      cases mpIx k r <;> simp

theorem mp_turn (hI : Inv S w g m) {b : Nat} {ag : Bool} {ls : List Lf} {es es' : List (AVal × AVal × Nat)} {n n' : Nat} {arr arr' : Array MapEntry} {x : Inf} {c : Nat} (hb : m[b]? = some (.mp ag ls es n)) (hx : g b = some x) (hbox : x.box = true) (hc : x.car = some c)
    (hh : w.heap[c]? = some (.map arr n)) (he : EntsRep S w g ag ls es' arr') :
    Inv S { w with heap := w.heap.setIfInBounds c (.map arr' n') } g (m.set b (.mp ag ls es' n')) ∧ Chg S w (Open g m) S { w with heap := w.heap.setIfInBounds c (.map arr' n') } g (m.set b (.mp ag ls es' n')) := by
  obtain ⟨h1, h2⟩ := heap_set (w := w) (r := c) (o' := .map arr' n') hh
  have hS : ¬ S c := hI.open_not ⟨b, _, x, hb, rfl, hx, hc⟩
  obtain ⟨k1, k2, k3⟩ := hI.turn (w' := { w with heap := w.heap.setIfInBounds c (.map arr' n') }) b _ (.mp ag ls es' n') x x hb rfl hx rfl rfl rfl (by simp) (fun d _ hd => h2 d fun e => hd (by rw [e]; exact hc)) (fun d hd => .inl hd) (.refl x)
    (fun hle hw => ⟨x, c, arr', gset_self _ _ _, hbox, hc, h1, he.mono (fun _ h => h) hw hle, hS⟩)
  rw [gset_same hx] at k1 k3
  exact ⟨k1, k3⟩

theorem leaf_noG {l : Lf} {x : AVal} (hl : lfOk [l] [x] = true) {v : Value} (h : Rep S w g x v) : Rep S w noG x v := by
  cases l <;> cases x <;> simp [lfOk] at hl <;> cases h <;> constructor
theorem key_noG {ls : List Lf} {k : AVal} (hl : lfOk ls k.cells = true) {b : Value} (hk : Rep S w g k b) : Rep S w noG k b := by
  by_cases hag : k.isAgg = true
  · cases k <;> simp [AVal.isAgg] at hag
    cases hk with
    | agg _ _ arr hla h1a hra =>
    refine .agg _ _ _ hla h1a fun j y hj => ?_
    obtain ⟨l, hl'⟩ := lfOk_get hl hj
    exact leaf_noG hl' (hra j y hj)
  · have hc : k.cells = [k] := by cases k <;> first | rfl | (simp [AVal.isAgg] at hag)
    rw [hc] at hl
    obtain ⟨l, hl'⟩ := lfOk_get hl (j := 0) rfl
    exact leaf_noG hl' hk

theorem kLookup_sound (hI : Inv S w g m) {t : TypeId} {x k : AVal} {ok : Bool} {a b : Value} {K : AVal → Prop} (h : kLookup P t x k ok m K) (hx : Rep S w g x a) (hk : Rep S w g k b) :
    ∃ v u, K v ∧ (Instr.lookup t a b ok).run P w = .ok u w ∧ Rep S w g v u := by
  unfold kLookup at h
  split at h
  · rename_i kt et htm
    have hu := tyMap_und htm
    split at h
    · rename_i ag ls z hkt hz
      obtain ⟨ha, hl, h⟩ := h
      obtain ⟨zv, hzr, hzrep⟩ := zeroVal_rep hz
      have fin : ∀ (v : AVal) (u : Value) (f : Bool), Rep S w g v u → Rep S w g (lkRes ok v f) (if ok then .tuple #[u, .bool f] else u) := fun v u f hr => by
        unfold lkRes
        cases ok with
        | false => exact hr
        | true =>
          refine .tup _ _ _ rfl fun j y hj => ?_
          match j, hj with
          | 0, hj => simp at hj; subst hj; simpa using hr
          | 1, hj => simp at hj; subst hj; exact .bool _ _
          | j + 2, hj => simp at hj
      split at h
      · cases hx
        refine ⟨_, _, h, ?_, fin z zv false (hzrep _ _ _)⟩
        have h1 := key_check hkt ha hl hk true w
        have h2 : (Instr.findKey kt b []).run P w = .ok none w := by
          obtain ⟨d, hd⟩ : ∃ d, P.underlying kt = some d := by
            unfold keyTy at hkt
            split at hkt
            · rename_i hi; exact ⟨_, tyInt_und hi⟩
            · split at hkt
              · rename_i hp; unfold plainKeys at hp; split at hp
                · rename_i hu; exact ⟨_, hu⟩
                · cases hp
              · cases hkt
          simp [Instr.findKey, run_underlying hd, Instr.findNow]
        simp [Instr.lookup, run_underlying hu, h1, h2, hzr]
      · split at h
        · rename_i b' ag' ls' es n hm
          obtain ⟨rfl, rfl, h⟩ := h
          cases hx with
          | mp g b0 x0 c hb hc hbox =>
          obtain ⟨x', c', arr, k1, k2, k3, k4, k5, k6⟩ := hI.tie _ _ hm
          obtain rfl := Option.some.inj (hb.symm.trans k1)
          obtain rfl := Option.some.inj (hc.symm.trans k3)
          have hkn : Rep S w noG k b := key_noG hl hk
          have h1 := key_check hkt ha hl hk arr.isEmpty w
          have h2 := key_find hkt ha hl hkn k5
          rw [mpIx_get] at h
          cases hq : mpIx k es with
          | none =>
            rw [hq] at h h2
            refine ⟨_, _, h, ?_, fin z zv false (hzrep _ _ _)⟩
            simp at h2
            simp [Instr.lookup, run_underlying hu, obj_map k4, h1, h2, hzr]
          | some i =>
            rw [hq] at h h2
            obtain ⟨⟨ek, ev, en⟩, he, _⟩ := mpIx_lt hq
            obtain ⟨_, _, e, hea, _, _, her⟩ := k5.2 i ek ev en he
            simp only [Option.bind_some, he, Option.map_some] at h
            simp only [Option.bind_some, hea, Option.map_some] at h2
            refine ⟨_, _, h, ?_, fin ev e.val true her⟩
            simp [Instr.lookup, run_underlying hu, obj_map k4, h1, h2]
        · exact h.elim
      · exact h.elim
    · exact h.elim
  · exact h.elim

theorem kMakeMap_sound (hI : Inv S w g m) {t : TypeId} {K : AVal → List Blk → Prop} (h : kMakeMap P t m K) :
    ∃ v m' u w' g', K v m' ∧ (Instr.makeMap t none).run P w = .ok u w' ∧ After S w g m S w' g' m' v u := by
  unfold kMakeMap at h
  split at h
  · split at h
    · rename_i ag ls hk
      let x : Inf := ⟨true, some w.heap.size, 0, 0, 0, .nilFunc⟩
      obtain ⟨h1, h2, h3⟩ := hI.push (w' := w.alloc (.map #[] 0)) (.mp ag ls [] 0) x rfl rfl rfl (by simp) (fun c hc => heap_alloc_old w _ c hc) (fun c hc => by simp [x] at hc; omega)
        (fun hlow hle => ⟨x, w.heap.size, #[], gset_self _ _ _, rfl, rfl, heap_alloc_new w _, ⟨rfl, fun j k v n hj => by simp at hj⟩, fun hs => by have := hI.low _ hs; omega⟩)
      exact ⟨_, _, _, _, _, h, by simp [Instr.makeMap], h1, .mp _ _ x w.heap.size (gset_self _ _ _) rfl rfl, h2, h3⟩
    · exact h.elim
  · exact h.elim

theorem mpAt_some {x : AVal} {b : Nat} {ag : Bool} {ls : List Lf} {es : List (AVal × AVal × Nat)} {n : Nat} (h : mpAt x m = some (b, ag, ls, es, n)) : x = .mp b ∧ m[b]? = some (.mp ag ls es n) := by
  unfold mpAt at h
  split at h
  · split at h
    · rename_i hm; cases h; exact ⟨rfl, hm⟩
    · cases h
  · cases h
theorem mpKey_some {t : TypeId} {k : AVal} {ag : Bool} {ls : List Lf} (h : mpKey P t k ag ls) : ∃ kt et, P.underlying t = some (.map kt et) ∧ keyTy P kt = some (ag, ls) ∧ k.isAgg = ag ∧ lfOk ls k.cells = true := by
  unfold mpKey at h
  split at h
  · rename_i kt et ht
    split at h
    · rename_i hk
      obtain ⟨rfl, rfl, h1, h2⟩ := h
      exact ⟨kt, et, tyMap_und ht, hk, h1, h2⟩
    · exact h.elim
  · exact h.elim

/-- What is found of a key, in the array of the map. -/
theorem ix_arr {ag : Bool} {ls : List Lf} {es : List (AVal × AVal × Nat)} {arr : Array MapEntry} (he : EntsRep S w g ag ls es arr) {k : AVal} {b : Value} (ha : k.isAgg = ag) (hl : lfOk ls k.cells = true) (hk : Rep S w noG k b) {i : Nat} (hi : mpIx k es = some i) :
    ∃ v n e, es[i]? = some (k, v, n) ∧ arr[i]? = some e ∧ e.key = b ∧ e.born = n ∧ Rep S w g v e.val ∧ Instr.sameBits 10000 b b = true ∧ i < arr.size := by
  obtain ⟨⟨ek, ev, en⟩, h1, h2⟩ := mpIx_lt hi
  obtain ⟨k1, k2, e, k3, k4, k5, k6⟩ := he.2 i ek ev en h1
  have := key_same (by rw [ha, k1]) hl k2 h2
  subst this
  obtain ⟨q1, q2⟩ := key_det hl hk k5
  exact ⟨ev, en, e, h1, k3, q1.symm, k4, k6, q2, (Array.getElem?_eq_some_iff.1 k3).1⟩

theorem ents_push {ag : Bool} {ls : List Lf} {es : List (AVal × AVal × Nat)} {arr : Array MapEntry} (he : EntsRep S w g ag ls es arr) {k v : AVal} {b u : Value} {n : Nat} (ha : k.isAgg = ag) (hl : lfOk ls k.cells = true) (hk : Rep S w noG k b) (hv : Rep S w g v u) :
    EntsRep S w g ag ls (es ++ [(k, v, n)]) (arr.push { key := b, val := u, born := n }) := by
  refine ⟨by simp [he.1], fun j k' v' n' hj => ?_⟩
  rw [List.getElem?_append] at hj
  split at hj
  · rename_i hlt
    obtain ⟨h1, h2, e, h3⟩ := he.2 j k' v' n' hj
    refine ⟨h1, h2, e, ?_⟩
    rw [Array.getElem?_push_lt (by rw [he.1]; exact hlt)]
    have hlt' : j < arr.size := by rw [he.1]; exact hlt
    rw [Array.getElem?_eq_getElem hlt'] at h3
    exact h3
  · rename_i hlt
    have hj0 : j - es.length = 0 := by
      have := (List.getElem?_eq_some_iff.1 hj).1
      simp at this; omega
    rw [hj0] at hj
    simp at hj
    obtain ⟨rfl, rfl, rfl⟩ := hj
    have : j = arr.size := by rw [he.1]; omega
    subst this
    exact ⟨ha, hl, { key := b, val := u, born := n }, by simp, rfl, hk, hv⟩

theorem ents_modify {ag : Bool} {ls : List Lf} {es : List (AVal × AVal × Nat)} {arr : Array MapEntry} (he : EntsRep S w g ag ls es arr) {i : Nat} {f : AVal × AVal × Nat → AVal × AVal × Nat} {h : MapEntry → MapEntry}
    (hf : ∀ k v n e, es[i]? = some (k, v, n) → arr[i]? = some e → (f (k, v, n)).1 = k ∧ (f (k, v, n)).2.2 = n ∧ (h e).born = e.born ∧ (h e).key = e.key ∧ (Rep S w g v e.val → Rep S w g (f (k, v, n)).2.1 (h e).val)) :
    EntsRep S w g ag ls (es.modify i f) (arr.modify i h) := by
  refine ⟨by simp [he.1], fun j k' v' n' hj => ?_⟩
  by_cases hij : j = i
  · subst hij
    rw [List.getElem?_modify] at hj
    cases hq : es[j]? with
    | none => simp [hq] at hj
    | some e0 =>
      obtain ⟨k, v, n⟩ := e0
      obtain ⟨h1, h2, e, h3, h4, h5, h6⟩ := he.2 j k v n hq
      obtain ⟨q1, q2, q3, q4, q5⟩ := hf k v n e hq h3
      simp [hq] at hj
      rw [hj] at q1 q2 q5
      simp only at q1 q2 q5
      subst q1; subst q2
      have hlt := (Array.getElem?_eq_some_iff.1 h3).1
      refine ⟨h1, h2, h e, ?_, by rw [q3, h4], by rw [q4]; exact h5, q5 h6⟩
      rw [Array.getElem?_modify, h3]; simp
  · have hij' : ¬ i = j := fun e => hij e.symm
    have hj : es[j]? = some (k', v', n') := by rw [List.getElem?_modify] at hj; simpa [hij'] using hj
    obtain ⟨h1, h2, e, h3, h4⟩ := he.2 j k' v' n' hj
    refine ⟨h1, h2, e, ?_, h4⟩
    rw [Array.getElem?_modify, if_neg hij']; exact h3

theorem kMapUpdate_sound (hI : Inv S w g m) {t : TypeId} {x k v : AVal} {a b c : Value} {K : List Blk → Prop} (h : kMapUpdate P t x k v m K) (hx : Rep S w g x a) (hk : Rep S w g k b) (hv : Rep S w g v c) :
    ∃ m' w', K m' ∧ (Instr.mapUpdate t a b c).run P w = .ok () w' ∧ After S w g m S w' g m' .dead undef := by
  unfold kMapUpdate at h
  split at h
  · rename_i bl ag ls es n hat
    obtain ⟨rfl, hm⟩ := mpAt_some hat
    obtain ⟨hkey, _, h⟩ := h
    obtain ⟨kt, et, hu, hkt, ha, hl⟩ := mpKey_some hkey
    cases hx with
    | mp g _ x0 cc hb hc hbox =>
    obtain ⟨x', c', arr, k1, k2, k3, k4, k5, k6⟩ := hI.tie _ _ hm
    obtain rfl := Option.some.inj (hb.symm.trans k1)
    obtain rfl := Option.some.inj (hc.symm.trans k3)
    have hkn := key_noG hl hk
    have h1 := key_check hkt ha hl hk false w
    have h2 := key_find hkt ha hl hkn k5
    rw [mpSet_ix] at h
    cases hq : mpIx k es with
    | none =>
      rw [hq] at h h2
      simp at h h2
      obtain ⟨q1, q2⟩ := mp_turn (n' := n + 1) hI hm hb hbox hc k4 (ents_push (n := n) k5 ha hl hkn hv)
      exact ⟨_, _, h, by simp [Instr.mapUpdate, run_underlying hu, obj_map k4, h1, h2, obj_set _ k4], q1, .dead _ _, .refl g, q2⟩
    | some i =>
      rw [hq] at h h2
      obtain ⟨ev, en, e, p1, p2, p3, p4, p5, p6, p7⟩ := ix_arr k5 ha hl hkn hq
      simp [p2] at h h2
      obtain ⟨q1, q2⟩ := mp_turn (n' := n) hI hm hb hbox hc k4 (ents_modify (i := i) (f := fun e => (e.1, v, e.2.2)) (h := fun e => { e with key := b, val := c }) k5 (fun k' v' n' e' r1 r2 => by
        rw [p2] at r2; cases r2
        exact ⟨rfl, rfl, rfl, p3.symm, fun _ => hv⟩))
      exact ⟨_, _, h, by simp [Instr.mapUpdate, run_underlying hu, obj_map k4, h1, h2, p2, p3, run_stays p6, obj_set _ k4], q1, .dead _ _, .refl g, q2⟩
  · exact h.elim

theorem kMapEntry_sound (hI : Inv S w g m) {t : TypeId} {x k : AVal} {a b : Value} {K : AVal → List Blk → Prop} (h : kMapEntry P t x k m K) (hx : Rep S w g x a) (hk : Rep S w g k b) :
    ∃ v m' u w', K v m' ∧ (Instr.mapEntry t a b).run P w = .ok u w' ∧ After S w g m S w' g m' v u := by
  unfold kMapEntry at h
  split at h
  · rename_i bl ag ls es n hat
    obtain ⟨rfl, hm⟩ := mpAt_some hat
    obtain ⟨hkey, _, h⟩ := h
    obtain ⟨kt, et, hu, hkt, ha, hl⟩ := mpKey_some hkey
    cases hx with
    | mp g _ x0 cc hb hc hbox =>
    obtain ⟨x', c', arr, k1, k2, k3, k4, k5, k6⟩ := hI.tie _ _ hm
    obtain rfl := Option.some.inj (hb.symm.trans k1)
    obtain rfl := Option.some.inj (hc.symm.trans k3)
    have hkn := key_noG hl hk
    have h1 := key_check hkt ha hl hk false w
    have h2 := key_find hkt ha hl hkn k5
    have two : ∀ {w' : World} {v : AVal} {u : Value} {n : Nat}, Rep S w' g v u → Rep S w' g (.tup [v, .int .i64 n]) (.tuple #[u, goInt n]) := fun hr => by
      refine .tup _ _ _ rfl fun j y hj => ?_
      match j, hj with
      | 0, hj => simp at hj; subst hj; simpa using hr
      | 1, hj => simp at hj; subst hj; exact .int _ _ _
      | j + 2, hj => simp at hj
    rw [mpIx_get] at h
    cases hq : mpIx k es with
    | none =>
      rw [hq] at h h2
      simp at h h2
      split at h
      · rename_i z hz
        unfold mpZero at hz
        rw [show tyMap P t = some (kt, et) from by simp [tyMap, hu]] at hz
        simp only at hz
        obtain ⟨zv, hzr, hzrep⟩ := zeroVal_rep hz
        obtain ⟨q1, q2⟩ := mp_turn (n' := n + 1) hI hm hb hbox hc k4 (ents_push (n := n) k5 ha hl hkn (hzrep S w g))
        exact ⟨_, _, _, _, h, by simp [Instr.mapEntry, run_underlying hu, obj_map k4, h1, h2, hzr, obj_set _ k4], q1, two (hzrep _ _ _), .refl g, q2⟩
      · exact h.elim
    | some i =>
      rw [hq] at h h2
      obtain ⟨ev, en, e, p1, p2, p3, p4, p5, p6, p7⟩ := ix_arr k5 ha hl hkn hq
      simp [p1, p2] at h h2
      have hes : es.modify i id = es := by
        refine List.ext_getElem? fun j => ?_
        rw [List.getElem?_modify]; simp
      obtain ⟨q1, q2⟩ := mp_turn (n' := n) hI hm hb hbox hc k4 (ents_modify (i := i) (f := id) (h := fun e => { e with key := b }) k5 (fun k' v' n' e' r1 r2 => by
        rw [p2] at r2; cases r2
        exact ⟨rfl, rfl, rfl, p3.symm, fun h => h⟩))
      rw [hes] at q1 q2
      refine ⟨_, _, _, _, h, by simp [Instr.mapEntry, run_underlying hu, obj_map k4, h1, h2, p2, p3, run_stays p6, obj_set _ k4]; rfl, q1, ?_, .refl g, q2⟩
      rw [p4]
      exact (two (n := en) (p5.after hI q2 (.refl g)))
  · exact h.elim

theorem mpStore_ix {s : Int} {v : AVal} : ∀ {es : List (AVal × AVal × Nat)}, mpStore s v es = (es.findIdx? fun e => (e.2.2 : Int) == s).map fun i => es.modify i fun e => (e.1, v, e.2.2)
  | [] => rfl
  | e :: r => by
    simp only [mpStore, List.findIdx?_cons]
    split
    · simp
    · rw [mpStore_ix]
      cases r.findIdx? fun e => (e.2.2 : Int) == s <;> simp

theorem born_ix {ag : Bool} {ls : List Lf} {es : List (AVal × AVal × Nat)} {arr : Array MapEntry} (he : EntsRep S w g ag ls es arr) (s : Int) : arr.findIdx? (fun e => (e.born : Int) == s) = es.findIdx? fun e => (e.2.2 : Int) == s := by
  have key : arr.toList.map (·.born) = es.map (·.2.2) := by
    refine List.ext_getElem? fun j => ?_
    rw [List.getElem?_map, List.getElem?_map]
    cases hq : es[j]? with
    | none =>
      have : es.length ≤ j := by simpa using hq
      rw [List.getElem?_eq_none (by simp [he.1]; omega)]; rfl
    | some e =>
      obtain ⟨k, v, n⟩ := e
      obtain ⟨_, _, e, h1, h2, _⟩ := he.2 j k v n hq
      rw [Array.getElem?_toList, h1]; simp [h2]
  obtain ⟨l⟩ := arr
  simp only [List.findIdx?_toArray]
  simp only at key
  have h1 : l.findIdx? (fun e => (e.born : Int) == s) = (l.map (·.born)).findIdx? fun n : Nat => (n : Int) == s := by rw [List.findIdx?_map]; rfl
  have h2 : es.findIdx? (fun e => (e.2.2 : Int) == s) = (es.map (·.2.2)).findIdx? fun n : Nat => (n : Int) == s := by rw [List.findIdx?_map]; rfl
  rw [h1, h2, key]

theorem kEntryStore_sound (hI : Inv S w g m) {t : TypeId} {x s v : AVal} {a b c : Value} {K : List Blk → Prop} (h : kEntryStore x s v m K) (hx : Rep S w g x a) (hs : Rep S w g s b) (hv : Rep S w g v c) :
    ∃ m' w', K m' ∧ (Instr.entryStore t a b c).run P w = .ok () w' ∧ After S w g m S w' g m' .dead undef := by
  unfold kEntryStore at h
  split at h
  · rename_i bl ag ls es n kd s' hat
    obtain ⟨rfl, hm⟩ := mpAt_some hat
    cases hx with
    | mp g _ x0 cc hb hc hbox =>
    cases hs
    obtain ⟨x', c', arr, k1, k2, k3, k4, k5, k6⟩ := hI.tie _ _ hm
    obtain rfl := Option.some.inj (hb.symm.trans k1)
    obtain rfl := Option.some.inj (hc.symm.trans k3)
    rw [mpStore_ix, ← born_ix k5] at h
    cases hq : arr.findIdx? fun e => (e.born : Int) == s' with
    | none => rw [hq] at h; exact h.elim
    | some i =>
      rw [hq] at h
      simp only [Option.map_some] at h
      obtain ⟨q1, q2⟩ := mp_turn (n' := n) hI hm hb hbox hc k4 (ents_modify (i := i) (f := fun e => (e.1, v, e.2.2)) (h := fun e => { e with val := c }) k5 (fun k' v' n' e' r1 r2 => ⟨rfl, rfl, rfl, rfl, fun _ => hv⟩))
      exact ⟨_, _, h, by simp [Instr.entryStore, obj_map k4, asInt, asIntOf, hq, obj_set _ k4], q1, .dead _ _, .refl g, q2⟩
  · exact h.elim

theorem kDelete_sound (hI : Inv S w g m) {t rt : TypeId} {tl : List TypeId} {x k : AVal} {a b : Value} {K : List Blk → Prop} (h : kDelete P t x k m K) (hx : Rep S w g x a) (hk : Rep S w g k b) :
    ∃ m' w', K m' ∧ (Builtin.delete_ (t :: tl).toArray rt #[a, b]).run P w = .ok (.tuple #[]) w' ∧ After S w g m S w' g m' (.tup []) (.tuple #[]) := by
  unfold kDelete at h
  split at h
  · rename_i bl ag ls es n hat
    obtain ⟨rfl, hm⟩ := mpAt_some hat
    obtain ⟨hkey, _, h⟩ := h
    obtain ⟨kt, et, hu, hkt, ha, hl⟩ := mpKey_some hkey
    cases hx with
    | mp g _ x0 cc hb hc hbox =>
    obtain ⟨x', c', arr, k1, k2, k3, k4, k5, k6⟩ := hI.tie _ _ hm
    obtain rfl := Option.some.inj (hb.symm.trans k1)
    obtain rfl := Option.some.inj (hc.symm.trans k3)
    have hkn := key_noG hl hk
    have h1 := key_check hkt ha hl hk arr.isEmpty w
    have h2 := key_find hkt ha hl hkn k5
    have unit : ∀ {w' : World}, Rep S w' g (.tup []) (.tuple #[]) := .tup _ _ _ rfl fun j y hj => by simp at hj
    rw [mpDel_ix] at h
    cases hq : mpIx k es with
    | none =>
      rw [hq] at h h2
      simp at h h2
      obtain ⟨q1, q2⟩ := mp_turn (n' := n) hI hm hb hbox hc k4 k5
      exact ⟨_, _, h, by simp [Builtin.delete_, run_underlying hu, obj_map k4, h1, h2, obj_set _ k4], q1, unit, .refl g, q2⟩
    | some i =>
      rw [hq] at h h2
      obtain ⟨ev, en, e, p1, p2, p3, p4, p5, p6, p7⟩ := ix_arr k5 ha hl hkn hq
      simp [p2] at h h2
      have he' : EntsRep S w g ag ls (es.eraseIdx i) (arr.eraseIdxIfInBounds i) := by
        have hlt : i < es.length := by rw [← k5.1]; exact p7
        have hsz : (arr.eraseIdxIfInBounds i).toList = arr.toList.eraseIdx i := by
          unfold Array.eraseIdxIfInBounds
          rw [dif_pos p7]; simp
        refine ⟨by rw [← Array.length_toList, hsz, List.length_eraseIdx, List.length_eraseIdx]; simp [k5.1], fun j k' v' n' hj => ?_⟩
        rw [List.getElem?_eraseIdx] at hj
        rw [← Array.getElem?_toList, hsz, List.getElem?_eraseIdx]
        split at hj
        · rename_i hlt; rw [if_pos hlt, Array.getElem?_toList]; exact k5.2 _ _ _ _ hj
        · rename_i hlt; rw [if_neg hlt, Array.getElem?_toList]; exact k5.2 _ _ _ _ hj
      obtain ⟨q1, q2⟩ := mp_turn (n' := n) hI hm hb hbox hc k4 he'
      exact ⟨_, _, h, by simp [Builtin.delete_, run_underlying hu, obj_map k4, h1, h2, obj_set _ k4], q1, unit, .refl g, q2⟩
  · exact h.elim
end
end Go.Awp
