import Derived.Test.YtamakciboibpmaaKB
import Derived.WalkKit
import Derived.ProofKit
import Derived.SizedLaws
import Derived.ChangeOld
import Derived.OpenShut
import Derived.Laws.Bits64b
import Derived.Laws.MathBits
import Derived.Laws.Strings
/- The abstract walk, continued: its steps as rules, loops, arithmetic, lists of pieces and plans, and the joining of a contract with a law's row; for every program. -/
set_option linter.unusedSimpArgs false
/- The walk, as one step after the other: what is still to be done is data. -/
namespace Go.Awp
inductive Item where
  | ops (l os : List Oper)
  | code (c : Code)
  | blk (id : Nat)

namespace Old
section
variable (P : Program) (n : Nat) (Ds : Nat → Option (List Nat)) (Q : Exit → St → Prop)

def kS : List Item → Exit → St → Prop
  | [], e, st => Q e st
  | .ops l os :: s, .normal, st => kOps P l os st (kS s .normal)
  | .code c :: s, .normal, st => kCode P n Ds c (kS s) st
  | .blk id :: s, .exit id', st => if id' = id then kS s .normal st else kS s (.exit id') st
  | _ :: s, e, st => kS s e st
def kN (s : List Item) (l os : List Oper) (d : Option Tmp) (st : St) (v : AVal) (m : List Blk) : Prop := kS P n Ds Q (.ops l os :: s) .normal (st.put d v m)
def kIf (s : List Item) (a b : Code) (st : St) (v : AVal) : Prop := match v with
  | .bool t => (t = true → kS P n Ds Q (.code a :: s) .normal st) ∧ (t = false → kS P n Ds Q (.code b :: s) .normal st)
  | _ => False
def kG2 (s : List Item) (l os : List Oper) (o : Oper) (want : Bool) (g : Tmp) (st : St) (v : AVal) : Prop := match v with
  | .bool b => (b = want → kop P (st.put (some g) (.bool want) st.m).ev st.m (kN P n Ds Q s l os o.dst (st.put (some g) (.bool want) st.m)) o.op) ∧ (b = !want → kN P n Ds Q s l os o.dst (st.put (some g) (.bool !want) st.m) (.tup []) st.m)
  | .tup [] => kN P n Ds Q s l os o.dst st (.tup []) st.m
  | _ => False
def kG1 (s : List Item) (l os : List Oper) (o : Oper) (want : Bool) (st : St) (x : Option Tmp) : Prop := match x with
  | some g => kG2 P n Ds Q s l os o want g st (lk st.t g)
  | none => False
def kDF (s : List Item) (m0 : List Blk) (st : St) (sg : List (List Blk)) (rd : List Nat) : Prop := (∀ b ∈ rd, ∀ μ ∈ sg, μ[b]? = m0[b]?) ∧ kS P n Ds Q s .normal st
/-- A cut. -/
def kCut (s : List Item) (l : List Oper) (st : St) : Prop := ∃ st', Ent n st st' ∧ kS P n Ds Q (.ops l l :: s) .normal st'
/-- The end of a region whose makers have their places. -/
def kDFA (s : List Item) (es : List Nat) (m0 : List Blk) (st : St) (sg : List (List Blk)) (rd : List Nat) : Prop :=
  (∀ b ∈ rd, (∀ μ ∈ sg, μ[b]? = (m0 ++ List.replicate (alOf es).length Blk.gone)[b]?) ∧ ¬ (m0.length ≤ b ∧ b < m0.length + (alOf es).length)) ∧ kS P n Ds Q s .normal st
def kDr (s : List Item) (l : List Oper) (st : St) (x : Option (List Nat)) : Prop := match x with
  | some es => (match hasAl es with
    | false => kDrawOps P l es 0 l st [] [] (kDF P n Ds Q s st.m)
    | true => kDrawA P es st.m.length 0 l ⟨st.t, st.m ++ List.replicate (alOf es).length .gone⟩ [] [] (kDFA P n Ds Q s es st.m))
  | none => False
/-- The end of a loop's round. -/
def lpQ (s : List Item) (I : St → Prop) (μ : St → Nat) (st0 : St) : Exit → St → Prop
  | .normal, st => ∃ st'', Ent n st st'' ∧ I st'' ∧ μ st'' < μ st0
  | e, st => kS P n Ds Q s e st
end

def kDAN (P : Program) (es : List Nat) (n0 i : Nat) (os : List Oper) (d : Option Tmp) (st : St) (sg : List (List Blk)) (rd : List Nat) (K : St → List (List Blk) → List Nat → Prop) (v : AVal) (k : Blk) : Prop :=
  kDrawA P es n0 (i + 1) os (st.put d v (st.m.set (idA n0 es i) k)) (sg ++ [st.m.set (idA n0 es i) k]) rd K
def kDAE (P : Program) (es : List Nat) (n0 i : Nat) (os : List Oper) (d : Option Tmp) (st : St) (sg : List (List Blk)) (rd : List Nat) (K : St → List (List Blk) → List Nat → Prop) (v : AVal) (m : List Blk) : Prop :=
  st.m.length ≤ m.length ∧ kDrawA P es n0 (i + 1) os (st.put d v m) (sg ++ [m]) rd K
def kDAQ (P : Program) (es : List Nat) (n0 i : Nat) (os : List Oper) (d : Option Tmp) (op : Op) (st : St) (sg : List (List Blk)) (rd : List Nat) (K : St → List (List Blk) → List Nat → Prop) (v : AVal) : Prop :=
  kDrawA P es n0 (i + 1) os (st.put d v st.m) sg (rd ++ rdIds st.ev op) K
def kDN (P : Program) (l : List Oper) (es : List Nat) (i : Nat) (os : List Oper) (d : Option Tmp) (st : St) (sg : List (List Blk)) (rd : List Nat) (K : St → List (List Blk) → List Nat → Prop) (v : AVal) (m : List Blk) : Prop :=
  kDrawOps P l es (i + 1) os (st.put d v m) (sg ++ [m]) rd K
def kDQ (P : Program) (l : List Oper) (es : List Nat) (i : Nat) (os : List Oper) (d : Option Tmp) (op : Op) (st : St) (sg : List (List Blk)) (rd : List Nat) (K : St → List (List Blk) → List Nat → Prop) (v : AVal) : Prop :=
  kDrawOps P l es (i + 1) os (st.put d v st.m) sg (rd ++ rdIds st.ev op) K
def kDR (P : Program) (l : List Oper) (es : List Nat) (i : Nat) (os : List Oper) (d : Option Tmp) (op : Op) (st : St) (sg : List (List Blk)) (rd : List Nat) (K : St → List (List Blk) → List Nat → Prop) (c : Bool) : Prop := match c with
  | true => kop P st.ev st.m (kDN P l es i os d st sg rd K) op
  | false => kopQ P st.ev st.m (kDQ P l es i os d op st sg rd K) op
def kDG2 (P : Program) (l : List Oper) (es : List Nat) (i : Nat) (os : List Oper) (o : Oper) (want : Bool) (g : Tmp) (st : St) (sg : List (List Blk)) (rd : List Nat) (K : St → List (List Blk) → List Nat → Prop) (v : AVal) : Prop := match v with
  | .bool b => (b = want → kDR P l es i os o.dst o.op (st.put (some g) (.bool want) st.m) sg rd K (es.contains i)) ∧ (b = !want → kDrawOps P l es (i + 1) os ((st.put (some g) (.bool !want) st.m).put o.dst (.tup []) st.m) sg rd K)
  | .tup [] => kDrawOps P l es (i + 1) os (st.put o.dst (.tup []) st.m) sg rd K
  | _ => False
def kDG1 (P : Program) (l : List Oper) (es : List Nat) (i : Nat) (os : List Oper) (o : Oper) (want : Bool) (st : St) (sg : List (List Blk)) (rd : List Nat) (K : St → List (List Blk) → List Nat → Prop) (x : Option Tmp) : Prop := match x with
  | some g => kDG2 P l es i os o want g st sg rd K (lk st.t g)
  | none => False

section
variable {P : Program} {n : Nat} {Ds : Nat → Option (List Nat)} {Q : Exit → St → Prop} {s : List Item} {st : St}
theorem g_end {e : Exit} : kS P n Ds Q [] e st = Q e st := by cases e <;> rfl
theorem g_skip : kS P n Ds Q (.code .skip :: s) .normal st = kS P n Ds Q s .normal st := rfl
theorem g_seq {a b : Code} : kS P n Ds Q (.code (.seq a b) :: s) .normal st = kS P n Ds Q (.code a :: .code b :: s) .normal st := by
  simp only [kS, kCode]
  congr 1; funext e st
  cases e <;> rfl
theorem g_cond {c : Operand} {a b : Code} : kS P n Ds Q (.code (.cond c a b) :: s) .normal st = kIf P n Ds Q s a b st (st.ev c) := by
  simp only [kS, kCode, kIf]
  cases st.ev c <;> rfl
theorem g_true {a b : Code} : kIf P n Ds Q s a b st (.bool true) = kS P n Ds Q (.code a :: s) .normal st := by simp [kIf]
theorem g_false {a b : Code} : kIf P n Ds Q s a b st (.bool false) = kS P n Ds Q (.code b :: s) .normal st := by simp [kIf]
theorem g_if {a b : Code} {t : Bool} : kIf P n Ds Q s a b st (.bool t) = ((t = true → kS P n Ds Q (.code a :: s) .normal st) ∧ (t = false → kS P n Ds Q (.code b :: s) .normal st)) := rfl
theorem g_region {id : Nat} {ops : Array Oper} : kS P n Ds Q (.code (.region id ops false) :: s) .normal st = (match Ds id with
    | some [999] => ∃ st', Ent n st st' ∧ kS P n Ds Q (.ops ops.toList ops.toList :: s) .normal st'
    | _ => kS P n Ds Q (.ops ops.toList ops.toList :: s) .normal st) := by simp only [kS, kCode]; rfl
theorem g_nil {l : List Oper} : kS P n Ds Q (.ops l [] :: s) .normal st = kS P n Ds Q s .normal st := rfl
theorem g_op {l os : List Oper} {d : Option Tmp} {op : Op} {t : TypeId} {p : String} {a : Array Edge} : kS P n Ds Q (.ops l (⟨d, op, t, p, a, none⟩ :: os) :: s) .normal st = kop P st.ev st.m (kN P n Ds Q s l os d st) op := rfl
theorem g_guard {l os : List Oper} {d : Option Tmp} {op : Op} {t : TypeId} {p : String} {a : Array Edge} {j : Nat} {want : Bool} :
    kS P n Ds Q (.ops l (⟨d, op, t, p, a, some (j, want)⟩ :: os) :: s) .normal st = kG1 P n Ds Q s l os ⟨d, op, t, p, a, some (j, want)⟩ want st (gdst l j) := by
  simp only [kS, kOps, kOper, kG1, kG2]
  cases gdst l j with
  | none => rfl
  | some g =>
    cases hl : lk st.t g with
    | bool b => rfl
    | tup vs => cases vs <;> rfl
    | _ => rfl
theorem g_next {l os : List Oper} {d : Option Tmp} {v : AVal} {m : List Blk} : kN P n Ds Q s l os d st v m = kS P n Ds Q (.ops l os :: s) .normal (st.put d v m) := rfl
theorem g_block {id : Nat} {c : Code} : kS P n Ds Q (.code (.block id c) :: s) .normal st = kS P n Ds Q (.code c :: .blk id :: s) .normal st := by
  simp only [kS, kCode]
  congr 1; funext e st
  cases e <;> rfl
theorem g_blk {id : Nat} : kS P n Ds Q (.blk id :: s) .normal st = kS P n Ds Q s .normal st := rfl
theorem g_exit {id : Nat} : kS P n Ds Q (.code (.exit id) :: s) .normal st = kS P n Ds Q s (.exit id) st := rfl
theorem g_ret : kS P n Ds Q (.code .ret :: s) .normal st = kS P n Ds Q s .ret st := rfl
theorem g_exit_code {id : Nat} {c : Code} : kS P n Ds Q (.code c :: s) (.exit id) st = kS P n Ds Q s (.exit id) st := rfl
theorem g_exit_ops {id : Nat} {l os : List Oper} : kS P n Ds Q (.ops l os :: s) (.exit id) st = kS P n Ds Q s (.exit id) st := rfl
theorem g_exit_blk {id id' : Nat} : kS P n Ds Q (.blk id :: s) (.exit id') st = if id' = id then kS P n Ds Q s .normal st else kS P n Ds Q s (.exit id') st := rfl
theorem g_ret_code {c : Code} : kS P n Ds Q (.code c :: s) .ret st = kS P n Ds Q s .ret st := rfl
theorem g_ret_ops {l os : List Oper} : kS P n Ds Q (.ops l os :: s) .ret st = kS P n Ds Q s .ret st := rfl
theorem g_ret_blk {id : Nat} : kS P n Ds Q (.blk id :: s) .ret st = kS P n Ds Q s .ret st := rfl
theorem g_draw {id : Nat} {ops : Array Oper} : kS P n Ds Q (.code (.region id ops true) :: s) .normal st = kDr P n Ds Q s ops.toList st (Ds id) := by
  simp only [kS, kCode, kDr]
  cases Ds id with
  | none => rfl
  | some es => cases h : hasAl es <;> simp only [h] <;> rfl
theorem g_draw1 {l : List Oper} {es : List Nat} (h : hasAl es = false) : kDr P n Ds Q s l st (some es) = kDrawOps P l es 0 l st [] [] (kDF P n Ds Q s st.m) := by simp only [kDr, h]
theorem d_nil {l : List Oper} {es : List Nat} {i : Nat} {sg : List (List Blk)} {rd : List Nat} {K : St → List (List Blk) → List Nat → Prop} : kDrawOps P l es i [] st sg rd K = K st sg rd := rfl
theorem d_op {l os : List Oper} {es : List Nat} {i : Nat} {d : Option Tmp} {op : Op} {t : TypeId} {p : String} {a : Array Edge} {sg : List (List Blk)} {rd : List Nat} {K : St → List (List Blk) → List Nat → Prop} :
    kDrawOps P l es i (⟨d, op, t, p, a, none⟩ :: os) st sg rd K = kDR P l es i os d op st sg rd K (es.contains i) := by
  simp only [kDrawOps, kDR, kDN, kDQ]
  cases es.contains i <;> rfl
theorem d_guard {l os : List Oper} {es : List Nat} {i : Nat} {d : Option Tmp} {op : Op} {t : TypeId} {p : String} {a : Array Edge} {j : Nat} {want : Bool} {sg : List (List Blk)} {rd : List Nat} {K : St → List (List Blk) → List Nat → Prop} :
    kDrawOps P l es i (⟨d, op, t, p, a, some (j, want)⟩ :: os) st sg rd K = kDG1 P l es i os ⟨d, op, t, p, a, some (j, want)⟩ want st sg rd K (gdst l j) := by
  simp only [kDrawOps, kDG1, kDG2, kDR]
  cases gdst l j with
  | none => rfl
  | some g =>
    cases hl : lk st.t g with
    | bool b => cases hc : es.contains i <;> simp [hl, kDN, kDQ] <;> rfl
    | tup vs => cases vs <;> simp [hl]
    | _ => simp [hl]

theorem g_loop {c : Code} (I : St → Prop) (μ : St → Nat) (st0 : St) (hE : Ent n st st0) (hI : I st0) (h : ∀ st, I st → kS P n Ds (lpQ P n Ds Q s I μ st) [.code c] .normal st) : kS P n Ds Q (.code (.loop c) :: s) .normal st := by
  simp only [kS, kCode]
  refine ⟨I, μ, ⟨st0, hE, hI⟩, fun st hs => ?_⟩
  have := h st hs
  simp only [kS] at this
  refine cast (congrArg (fun K => kCode P n Ds c K st) ?_) this
  funext e st'
  cases e <;> rfl
theorem lp_normal {I : St → Prop} {μ : St → Nat} {st0 : St} : lpQ P n Ds Q s I μ st0 .normal st = ∃ st'', Ent n st st'' ∧ I st'' ∧ μ st'' < μ st0 := rfl
theorem lp_exit {I : St → Prop} {μ : St → Nat} {st0 : St} {id : Nat} : lpQ P n Ds Q s I μ st0 (.exit id) st = kS P n Ds Q s (.exit id) st := rfl
theorem lp_ret {I : St → Prop} {μ : St → Nat} {st0 : St} : lpQ P n Ds Q s I μ st0 .ret st = kS P n Ds Q s .ret st := rfl

end
end Old

/- The same, shut: what they stand for is told by equations alone, so that no check ever looks into them. -/
theorem kS_ex : ∃ f : (P : Program) → (n : Nat) → (Ds : Nat → Option (List Nat)) → (Q : Exit → St → Prop) → List Item → Exit → St → Prop, f = Old.kS := ⟨_, rfl⟩
noncomputable def kS := Classical.choose kS_ex
theorem kS_def : kS = Old.kS := Classical.choose_spec kS_ex
theorem kN_ex : ∃ f : (P : Program) → (n : Nat) → (Ds : Nat → Option (List Nat)) → (Q : Exit → St → Prop) → List Item → List Oper → List Oper → Option Tmp → St → AVal → List Blk → Prop, f = Old.kN := ⟨_, rfl⟩
noncomputable def kN := Classical.choose kN_ex
theorem kN_def : kN = Old.kN := Classical.choose_spec kN_ex
theorem kDF_ex : ∃ f : (P : Program) → (n : Nat) → (Ds : Nat → Option (List Nat)) → (Q : Exit → St → Prop) → List Item → List Blk → St → List (List Blk) → List Nat → Prop, f = Old.kDF := ⟨_, rfl⟩
noncomputable def kDF := Classical.choose kDF_ex
theorem kDF_def : kDF = Old.kDF := Classical.choose_spec kDF_ex
theorem lpQ_ex : ∃ f : (P : Program) → (n : Nat) → (Ds : Nat → Option (List Nat)) → (Q : Exit → St → Prop) → List Item → (St → Prop) → (St → Nat) → St → Exit → St → Prop, f = Old.lpQ := ⟨_, rfl⟩
noncomputable def lpQ := Classical.choose lpQ_ex
theorem lpQ_def : lpQ = Old.lpQ := Classical.choose_spec lpQ_ex
theorem kDo_ex : ∃ f : (P : Program) → (l : List Oper) → (es : List Nat) → Nat → List Oper → St → List (List Blk) → List Nat → (St → List (List Blk) → List Nat → Prop) → Prop, f = kDrawOps := ⟨_, rfl⟩
noncomputable def kDo := Classical.choose kDo_ex
theorem kDo_def : kDo = kDrawOps := Classical.choose_spec kDo_ex
theorem kDN_ex : ∃ f : (P : Program) → (l : List Oper) → (es : List Nat) → Nat → List Oper → Option Tmp → St → List (List Blk) → List Nat → (St → List (List Blk) → List Nat → Prop) → AVal → List Blk → Prop, f = Old.kDN := ⟨_, rfl⟩
noncomputable def kDN := Classical.choose kDN_ex
theorem kDN_def : kDN = Old.kDN := Classical.choose_spec kDN_ex
theorem kDQ_ex : ∃ f : (P : Program) → (l : List Oper) → (es : List Nat) → Nat → List Oper → Option Tmp → Op → St → List (List Blk) → List Nat → (St → List (List Blk) → List Nat → Prop) → AVal → Prop, f = Old.kDQ := ⟨_, rfl⟩
noncomputable def kDQ := Classical.choose kDQ_ex
theorem kDQ_def : kDQ = Old.kDQ := Classical.choose_spec kDQ_ex
theorem kDFA_ex : ∃ f : (P : Program) → (n : Nat) → (Ds : Nat → Option (List Nat)) → (Q : Exit → St → Prop) → List Item → List Nat → List Blk → St → List (List Blk) → List Nat → Prop, f = Old.kDFA := ⟨_, rfl⟩
noncomputable def kDFA := Classical.choose kDFA_ex
theorem kDFA_def : kDFA = Old.kDFA := Classical.choose_spec kDFA_ex
theorem kCut_ex : ∃ f : (P : Program) → (n : Nat) → (Ds : Nat → Option (List Nat)) → (Q : Exit → St → Prop) → List Item → List Oper → St → Prop, f = Old.kCut := ⟨_, rfl⟩
noncomputable def kCut := Classical.choose kCut_ex
theorem kCut_def : kCut = Old.kCut := Classical.choose_spec kCut_ex
theorem kDoA_ex : ∃ f : (P : Program) → (es : List Nat) → Nat → Nat → List Oper → St → List (List Blk) → List Nat → (St → List (List Blk) → List Nat → Prop) → Prop, f = kDrawA := ⟨_, rfl⟩
noncomputable def kDoA := Classical.choose kDoA_ex
theorem kDoA_def : kDoA = kDrawA := Classical.choose_spec kDoA_ex
theorem kDAN_ex : ∃ f : (P : Program) → (es : List Nat) → Nat → Nat → List Oper → Option Tmp → St → List (List Blk) → List Nat → (St → List (List Blk) → List Nat → Prop) → AVal → Blk → Prop, f = Old.kDAN := ⟨_, rfl⟩
noncomputable def kDAN := Classical.choose kDAN_ex
theorem kDAN_def : kDAN = Old.kDAN := Classical.choose_spec kDAN_ex
theorem kDAE_ex : ∃ f : (P : Program) → (es : List Nat) → Nat → Nat → List Oper → Option Tmp → St → List (List Blk) → List Nat → (St → List (List Blk) → List Nat → Prop) → AVal → List Blk → Prop, f = Old.kDAE := ⟨_, rfl⟩
noncomputable def kDAE := Classical.choose kDAE_ex
theorem kDAE_def : kDAE = Old.kDAE := Classical.choose_spec kDAE_ex
theorem kDAQ_ex : ∃ f : (P : Program) → (es : List Nat) → Nat → Nat → List Oper → Option Tmp → Op → St → List (List Blk) → List Nat → (St → List (List Blk) → List Nat → Prop) → AVal → Prop, f = Old.kDAQ := ⟨_, rfl⟩
noncomputable def kDAQ := Classical.choose kDAQ_ex
theorem kDAQ_def : kDAQ = Old.kDAQ := Classical.choose_spec kDAQ_ex
section
variable (P : Program) (n : Nat) (Ds : Nat → Option (List Nat)) (Q : Exit → St → Prop)
def kIf (s : List Item) (a b : Code) (st : St) (v : AVal) : Prop := match v with
  | .bool t => (t = true → kS P n Ds Q (.code a :: s) .normal st) ∧ (t = false → kS P n Ds Q (.code b :: s) .normal st)
  | _ => False
def kG2 (s : List Item) (l os : List Oper) (o : Oper) (want : Bool) (g : Tmp) (st : St) (v : AVal) : Prop := match v with
  | .bool b => (b = want → kop P (st.put (some g) (.bool want) st.m).ev st.m (kN P n Ds Q s l os o.dst (st.put (some g) (.bool want) st.m)) o.op) ∧ (b = !want → kN P n Ds Q s l os o.dst (st.put (some g) (.bool !want) st.m) (.tup []) st.m)
  | .tup [] => kN P n Ds Q s l os o.dst st (.tup []) st.m
  | _ => False
def kG1 (s : List Item) (l os : List Oper) (o : Oper) (want : Bool) (st : St) (x : Option Tmp) : Prop := match x with
  | some g => kG2 P n Ds Q s l os o want g st (lk st.t g)
  | none => False
def kRg (s : List Item) (l : List Oper) (st : St) (x : Option (List Nat)) : Prop := match x with
  | some [999] => kCut P n Ds Q s l st
  | _ => kS P n Ds Q (.ops l l :: s) .normal st
def kDrB (s : List Item) (l : List Oper) (st : St) (es : List Nat) (c : Bool) : Prop := match c with
  | false => kDo P l es 0 l st [] [] (kDF P n Ds Q s st.m)
  | true => kDoA P es st.m.length 0 l ⟨st.t, st.m ++ List.replicate (alOf es).length .gone⟩ [] [] (kDFA P n Ds Q s es st.m)
def kDr (s : List Item) (l : List Oper) (st : St) (x : Option (List Nat)) : Prop := match x with
  | some es => kDrB P n Ds Q s l st es (hasAl es)
  | none => False
end
def kDA2 (P : Program) (es : List Nat) (n0 i : Nat) (os : List Oper) (d : Option Tmp) (op : Op) (st : St) (sg : List (List Blk)) (rd : List Nat) (K : St → List (List Blk) → List Nat → Prop) (W : List Nat) : Prop := match W with
  | [] => kop P st.ev st.m (kDAE P es n0 i os d st sg rd K) op
  | W => ∃ v m', (∀ X, kop P st.ev (ovr W X st.m) (fun u μ => u = v ∧ μ = ovr W X m') op) ∧ (∀ b ∈ W, m'[b]? = st.m[b]?) ∧ kDAE P es n0 i os d st sg rd K v m'
def kDA1 (P : Program) (es : List Nat) (n0 i : Nat) (os : List Oper) (d : Option Tmp) (op : Op) (st : St) (sg : List (List Blk)) (rd : List Nat) (K : St → List (List Blk) → List Nat → Prop) (c1 c2 : Bool) : Prop := match c1, c2 with
  | true, _ => kAl P st.ev (idA n0 es i) (kDAN P es n0 i os d st sg rd K) op
  | false, true => kDA2 P es n0 i os d op st sg rd K (wIds n0 es i)
  | false, false => kopQ P st.ev st.m (kDAQ P es n0 i os d op st sg rd K) op
def kDR (P : Program) (l : List Oper) (es : List Nat) (i : Nat) (os : List Oper) (d : Option Tmp) (op : Op) (st : St) (sg : List (List Blk)) (rd : List Nat) (K : St → List (List Blk) → List Nat → Prop) (c : Bool) : Prop := match c with
  | true => kop P st.ev st.m (kDN P l es i os d st sg rd K) op
  | false => kopQ P st.ev st.m (kDQ P l es i os d op st sg rd K) op
def kDG2 (P : Program) (l : List Oper) (es : List Nat) (i : Nat) (os : List Oper) (o : Oper) (want : Bool) (g : Tmp) (st : St) (sg : List (List Blk)) (rd : List Nat) (K : St → List (List Blk) → List Nat → Prop) (v : AVal) : Prop := match v with
  | .bool b => (b = want → kDR P l es i os o.dst o.op (st.put (some g) (.bool want) st.m) sg rd K (es.contains i)) ∧ (b = !want → kDo P l es (i + 1) os ((st.put (some g) (.bool !want) st.m).put o.dst (.tup []) st.m) sg rd K)
  | .tup [] => kDo P l es (i + 1) os (st.put o.dst (.tup []) st.m) sg rd K
  | _ => False
def kDG1 (P : Program) (l : List Oper) (es : List Nat) (i : Nat) (os : List Oper) (o : Oper) (want : Bool) (st : St) (sg : List (List Blk)) (rd : List Nat) (K : St → List (List Blk) → List Nat → Prop) (x : Option Tmp) : Prop := match x with
  | some g => kDG2 P l es i os o want g st sg rd K (lk st.t g)
  | none => False

set_option linter.unusedSimpArgs false
section
variable {P : Program} {n : Nat} {Ds : Nat → Option (List Nat)} {Q : Exit → St → Prop} {s : List Item} {st : St}
theorem g_end {e : Exit} : kS P n Ds Q [] e st = Q e st := by
  simp only [kS_def, kN_def, kDF_def, lpQ_def, kDo_def, kDN_def, kDQ_def, kIf, kG2, kG1, kDr, kDR, kDG2, kDG1]
  exact Old.g_end
theorem g_skip : kS P n Ds Q (.code .skip :: s) .normal st = kS P n Ds Q s .normal st := by
  simp only [kS_def, kN_def, kDF_def, lpQ_def, kDo_def, kDN_def, kDQ_def, kIf, kG2, kG1, kDr, kDR, kDG2, kDG1]
  exact Old.g_skip
theorem g_seq {a b : Code} : kS P n Ds Q (.code (.seq a b) :: s) .normal st = kS P n Ds Q (.code a :: .code b :: s) .normal st := by
  simp only [kS_def, kN_def, kDF_def, lpQ_def, kDo_def, kDN_def, kDQ_def, kIf, kG2, kG1, kDr, kDR, kDG2, kDG1]
  exact Old.g_seq
theorem g_cond {c : Operand} {a b : Code} : kS P n Ds Q (.code (.cond c a b) :: s) .normal st = kIf P n Ds Q s a b st (st.ev c) := by
  simp only [kS_def, kN_def, kDF_def, lpQ_def, kDo_def, kDN_def, kDQ_def, kIf, kG2, kG1, kDr, kDR, kDG2, kDG1]
  exact Old.g_cond
theorem g_true {a b : Code} : kIf P n Ds Q s a b st (.bool true) = kS P n Ds Q (.code a :: s) .normal st := by simp [kIf]
theorem g_false {a b : Code} : kIf P n Ds Q s a b st (.bool false) = kS P n Ds Q (.code b :: s) .normal st := by simp [kIf]
theorem g_if {a b : Code} {t : Bool} : kIf P n Ds Q s a b st (.bool t) = ((t = true → kS P n Ds Q (.code a :: s) .normal st) ∧ (t = false → kS P n Ds Q (.code b :: s) .normal st)) := by
  simp only [kS_def, kN_def, kDF_def, lpQ_def, kDo_def, kDN_def, kDQ_def, kIf, kG2, kG1, kDr, kDR, kDG2, kDG1]
theorem g_region {id : Nat} {ops : Array Oper} : kS P n Ds Q (.code (.region id ops false) :: s) .normal st = kRg P n Ds Q s ops.toList st (Ds id) := by
  rw [kS_def, Old.g_region]
  unfold kRg
  split
  · rename_i h; simp only [kCut_def, Old.kCut]
  · simp only [kS_def]
theorem rg_none {l : List Oper} : kRg P n Ds Q s l st none = kS P n Ds Q (.ops l l :: s) .normal st := rfl
theorem rg_cut {l : List Oper} : kRg P n Ds Q s l st (some [999]) = kCut P n Ds Q s l st := rfl
/-- At a cut the state may be told anew. -/
theorem cut_at {l : List Oper} (st' : St) (hE : Ent n st st') (h : kS P n Ds Q (.ops l l :: s) .normal st') : kCut P n Ds Q s l st := by
  rw [kCut_def]; rw [kS_def] at h; exact ⟨st', hE, h⟩
theorem cut_skip {l : List Oper} (h : kS P n Ds Q (.ops l l :: s) .normal st) : kCut P n Ds Q s l st := cut_at st (Ent.refl _ _) h
/-- What follows a cut is shown once, for all ways to it. -/
theorem cuth {H G T : Prop} (f : (H → G) → T) (g : H → G) : T := f g
theorem g_nil {l : List Oper} : kS P n Ds Q (.ops l [] :: s) .normal st = kS P n Ds Q s .normal st := by
  simp only [kS_def, kN_def, kDF_def, lpQ_def, kDo_def, kDN_def, kDQ_def, kIf, kG2, kG1, kDr, kDR, kDG2, kDG1]
  exact Old.g_nil
theorem g_op {l os : List Oper} {d : Option Tmp} {op : Op} {t : TypeId} {p : String} {a : Array Edge} : kS P n Ds Q (.ops l (⟨d, op, t, p, a, none⟩ :: os) :: s) .normal st = kop P st.ev st.m (kN P n Ds Q s l os d st) op := by
  simp only [kS_def, kN_def, kDF_def, lpQ_def, kDo_def, kDN_def, kDQ_def, kIf, kG2, kG1, kDr, kDR, kDG2, kDG1]
  exact Old.g_op
theorem g_guard {l os : List Oper} {d : Option Tmp} {op : Op} {t : TypeId} {p : String} {a : Array Edge} {j : Nat} {want : Bool} :
    kS P n Ds Q (.ops l (⟨d, op, t, p, a, some (j, want)⟩ :: os) :: s) .normal st = kG1 P n Ds Q s l os ⟨d, op, t, p, a, some (j, want)⟩ want st (gdst l j) := by
  simp only [kS_def, kN_def, kDF_def, lpQ_def, kDo_def, kDN_def, kDQ_def, kIf, kG2, kG1, kDr, kDR, kDG2, kDG1]
  exact Old.g_guard
theorem g_next {l os : List Oper} {d : Option Tmp} {v : AVal} {m : List Blk} : kN P n Ds Q s l os d st v m = kS P n Ds Q (.ops l os :: s) .normal (st.put d v m) := by
  simp only [kS_def, kN_def, kDF_def, lpQ_def, kDo_def, kDN_def, kDQ_def, kIf, kG2, kG1, kDr, kDR, kDG2, kDG1]
  exact Old.g_next
theorem g_block {id : Nat} {c : Code} : kS P n Ds Q (.code (.block id c) :: s) .normal st = kS P n Ds Q (.code c :: .blk id :: s) .normal st := by
  simp only [kS_def, kN_def, kDF_def, lpQ_def, kDo_def, kDN_def, kDQ_def, kIf, kG2, kG1, kDr, kDR, kDG2, kDG1]
  exact Old.g_block
theorem g_blk {id : Nat} : kS P n Ds Q (.blk id :: s) .normal st = kS P n Ds Q s .normal st := by
  simp only [kS_def, kN_def, kDF_def, lpQ_def, kDo_def, kDN_def, kDQ_def, kIf, kG2, kG1, kDr, kDR, kDG2, kDG1]
  exact Old.g_blk
theorem g_exit {id : Nat} : kS P n Ds Q (.code (.exit id) :: s) .normal st = kS P n Ds Q s (.exit id) st := by
  simp only [kS_def, kN_def, kDF_def, lpQ_def, kDo_def, kDN_def, kDQ_def, kIf, kG2, kG1, kDr, kDR, kDG2, kDG1]
  exact Old.g_exit
theorem g_ret : kS P n Ds Q (.code .ret :: s) .normal st = kS P n Ds Q s .ret st := by
  simp only [kS_def, kN_def, kDF_def, lpQ_def, kDo_def, kDN_def, kDQ_def, kIf, kG2, kG1, kDr, kDR, kDG2, kDG1]
  exact Old.g_ret
theorem g_exit_code {id : Nat} {c : Code} : kS P n Ds Q (.code c :: s) (.exit id) st = kS P n Ds Q s (.exit id) st := by
  simp only [kS_def, kN_def, kDF_def, lpQ_def, kDo_def, kDN_def, kDQ_def, kIf, kG2, kG1, kDr, kDR, kDG2, kDG1]
  exact Old.g_exit_code
theorem g_exit_ops {id : Nat} {l os : List Oper} : kS P n Ds Q (.ops l os :: s) (.exit id) st = kS P n Ds Q s (.exit id) st := by
  simp only [kS_def, kN_def, kDF_def, lpQ_def, kDo_def, kDN_def, kDQ_def, kIf, kG2, kG1, kDr, kDR, kDG2, kDG1]
  exact Old.g_exit_ops
theorem g_exit_blk {id id' : Nat} : kS P n Ds Q (.blk id :: s) (.exit id') st = if id' = id then kS P n Ds Q s .normal st else kS P n Ds Q s (.exit id') st := by
  simp only [kS_def, kN_def, kDF_def, lpQ_def, kDo_def, kDN_def, kDQ_def, kIf, kG2, kG1, kDr, kDR, kDG2, kDG1]
  exact Old.g_exit_blk
theorem g_ret_code {c : Code} : kS P n Ds Q (.code c :: s) .ret st = kS P n Ds Q s .ret st := by
  simp only [kS_def, kN_def, kDF_def, lpQ_def, kDo_def, kDN_def, kDQ_def, kIf, kG2, kG1, kDr, kDR, kDG2, kDG1]
  exact Old.g_ret_code
theorem g_ret_ops {l os : List Oper} : kS P n Ds Q (.ops l os :: s) .ret st = kS P n Ds Q s .ret st := by
  simp only [kS_def, kN_def, kDF_def, lpQ_def, kDo_def, kDN_def, kDQ_def, kIf, kG2, kG1, kDr, kDR, kDG2, kDG1]
  exact Old.g_ret_ops
theorem g_ret_blk {id : Nat} : kS P n Ds Q (.blk id :: s) .ret st = kS P n Ds Q s .ret st := by
  simp only [kS_def, kN_def, kDF_def, lpQ_def, kDo_def, kDN_def, kDQ_def, kIf, kG2, kG1, kDr, kDR, kDG2, kDG1]
  exact Old.g_ret_blk
theorem g_draw {id : Nat} {ops : Array Oper} : kS P n Ds Q (.code (.region id ops true) :: s) .normal st = kDr P n Ds Q s ops.toList st (Ds id) := by
  rw [kS_def, Old.g_draw]
  unfold kDr Old.kDr
  cases Ds id with
  | none => rfl
  | some es => simp only [kDrB]; cases h : hasAl es <;> simp only [kDo_def, kDF_def, kDoA_def, kDFA_def]
theorem g_draw1 {l : List Oper} {es : List Nat} : kDr P n Ds Q s l st (some es) = kDrB P n Ds Q s l st es (hasAl es) := rfl
theorem g_draw2 {l : List Oper} {es : List Nat} : kDrB P n Ds Q s l st es false = kDo P l es 0 l st [] [] (kDF P n Ds Q s st.m) := rfl
theorem g_draw3 {l : List Oper} {es : List Nat} : kDrB P n Ds Q s l st es true = kDoA P es st.m.length 0 l ⟨st.t, st.m ++ List.replicate (alOf es).length .gone⟩ [] [] (kDFA P n Ds Q s es st.m) := rfl
section
variable {es : List Nat} {n0 i : Nat} {os : List Oper} {d : Option Tmp} {op : Op} {t : TypeId} {p : String} {a : Array Edge} {sg : List (List Blk)} {rd : List Nat} {K : St → List (List Blk) → List Nat → Prop}
theorem dA_nil : kDoA P es n0 i [] st sg rd K = K st sg rd := by rw [kDoA_def]; rfl
theorem dA_op : kDoA P es n0 i (⟨d, op, t, p, a, none⟩ :: os) st sg rd K = kDA1 P es n0 i os d op st sg rd K ((alOf es).contains i) ((efOf es).contains i) := by
  rw [kDoA_def, kDrawA]
  simp only [true_and]
  cases h1 : (alOf es).contains i with
  | true => simp only [if_true, kDA1, kDAN_def]; rfl
  | false =>
    simp only [Bool.false_eq_true, if_false]
    cases h2 : (efOf es).contains i with
    | false => simp only [Bool.false_eq_true, if_false, kDA1, kDAQ_def]; rfl
    | true =>
      simp only [if_true, kDA1, kDA2]
      cases h3 : wIds n0 es i with
      | nil => simp only [kDAE_def]; rfl
      | cons x W => simp only [kDAE_def]; rfl
theorem dA_mk : kDA1 P es n0 i os d op st sg rd K true true = kAl P st.ev (idA n0 es i) (kDAN P es n0 i os d st sg rd K) op := rfl
theorem dA_mk' : kDA1 P es n0 i os d op st sg rd K true false = kAl P st.ev (idA n0 es i) (kDAN P es n0 i os d st sg rd K) op := rfl
theorem dA_ef : kDA1 P es n0 i os d op st sg rd K false true = kDA2 P es n0 i os d op st sg rd K (wIds n0 es i) := rfl
theorem dA_rd : kDA1 P es n0 i os d op st sg rd K false false = kopQ P st.ev st.m (kDAQ P es n0 i os d op st sg rd K) op := rfl
theorem dA_ef0 : kDA2 P es n0 i os d op st sg rd K [] = kop P st.ev st.m (kDAE P es n0 i os d st sg rd K) op := rfl
theorem dA_n {v : AVal} {k : Blk} : kDAN P es n0 i os d st sg rd K v k = kDoA P es n0 (i + 1) os (st.put d v (st.m.set (idA n0 es i) k)) (sg ++ [st.m.set (idA n0 es i) k]) rd K := by rw [kDAN_def, kDoA_def]; rfl
theorem dA_e {v : AVal} {m : List Blk} : kDAE P es n0 i os d st sg rd K v m = (st.m.length ≤ m.length ∧ kDoA P es n0 (i + 1) os (st.put d v m) (sg ++ [m]) rd K) := by rw [kDAE_def, kDoA_def]; rfl
theorem dA_q {v : AVal} : kDAQ P es n0 i os d op st sg rd K v = kDoA P es n0 (i + 1) os (st.put d v st.m) sg (rd ++ rdIds st.ev op) K := by rw [kDAQ_def, kDoA_def]; rfl
theorem dA_fin {m0 : List Blk} : kDFA P n Ds Q s es m0 st sg rd = ((∀ b ∈ rd, (∀ μ ∈ sg, μ[b]? = (m0 ++ List.replicate (alOf es).length Blk.gone)[b]?) ∧ ¬ (m0.length ≤ b ∧ b < m0.length + (alOf es).length)) ∧ kS P n Ds Q s .normal st) := by rw [kDFA_def, kS_def]; rfl
end
theorem d_nil {l : List Oper} {es : List Nat} {i : Nat} {sg : List (List Blk)} {rd : List Nat} {K : St → List (List Blk) → List Nat → Prop} : kDo P l es i [] st sg rd K = K st sg rd := by
  simp only [kS_def, kN_def, kDF_def, lpQ_def, kDo_def, kDN_def, kDQ_def, kIf, kG2, kG1, kDr, kDR, kDG2, kDG1]
  exact Old.d_nil
theorem d_op {l os : List Oper} {es : List Nat} {i : Nat} {d : Option Tmp} {op : Op} {t : TypeId} {p : String} {a : Array Edge} {sg : List (List Blk)} {rd : List Nat} {K : St → List (List Blk) → List Nat → Prop} :
    kDo P l es i (⟨d, op, t, p, a, none⟩ :: os) st sg rd K = kDR P l es i os d op st sg rd K (es.contains i) := by
  simp only [kS_def, kN_def, kDF_def, lpQ_def, kDo_def, kDN_def, kDQ_def, kIf, kG2, kG1, kDr, kDR, kDG2, kDG1]
  exact Old.d_op
theorem d_guard {l os : List Oper} {es : List Nat} {i : Nat} {d : Option Tmp} {op : Op} {t : TypeId} {p : String} {a : Array Edge} {j : Nat} {want : Bool} {sg : List (List Blk)} {rd : List Nat} {K : St → List (List Blk) → List Nat → Prop} :
    kDo P l es i (⟨d, op, t, p, a, some (j, want)⟩ :: os) st sg rd K = kDG1 P l es i os ⟨d, op, t, p, a, some (j, want)⟩ want st sg rd K (gdst l j) := by
  simp only [kS_def, kN_def, kDF_def, lpQ_def, kDo_def, kDN_def, kDQ_def, kIf, kG2, kG1, kDr, kDR, kDG2, kDG1]
  exact Old.d_guard
theorem g_loop {c : Code} (I : St → Prop) (μ : St → Nat) (st0 : St) (hE : Ent n st st0) (hI : I st0) (h : ∀ st, I st → kS P n Ds (lpQ P n Ds Q s I μ st) [.code c] .normal st) : kS P n Ds Q (.code (.loop c) :: s) .normal st := by
  rw [kS_def] at h ⊢
  rw [lpQ_def] at h
  exact Old.g_loop I μ st0 hE hI h
theorem lp_normal {I : St → Prop} {μ : St → Nat} {st0 : St} : lpQ P n Ds Q s I μ st0 .normal st = ∃ st'', Ent n st st'' ∧ I st'' ∧ μ st'' < μ st0 := by
  simp only [kS_def, kN_def, kDF_def, lpQ_def, kDo_def, kDN_def, kDQ_def, kIf, kG2, kG1, kDr, kDR, kDG2, kDG1]
  exact Old.lp_normal
theorem lp_exit {I : St → Prop} {μ : St → Nat} {st0 : St} {id : Nat} : lpQ P n Ds Q s I μ st0 (.exit id) st = kS P n Ds Q s (.exit id) st := by
  simp only [kS_def, kN_def, kDF_def, lpQ_def, kDo_def, kDN_def, kDQ_def, kIf, kG2, kG1, kDr, kDR, kDG2, kDG1]
  exact Old.lp_exit
theorem lp_ret {I : St → Prop} {μ : St → Nat} {st0 : St} : lpQ P n Ds Q s I μ st0 .ret st = kS P n Ds Q s .ret st := by
  simp only [kS_def, kN_def, kDF_def, lpQ_def, kDo_def, kDN_def, kDQ_def, kIf, kG2, kG1, kDr, kDR, kDG2, kDG1]
  exact Old.lp_ret
theorem d_fin {m0 : List Blk} {sg : List (List Blk)} {rd : List Nat} : kDF P n Ds Q s m0 st sg rd = ((∀ b ∈ rd, ∀ μ ∈ sg, μ[b]? = m0[b]?) ∧ kS P n Ds Q s .normal st) := by rw [kDF_def, kS_def]; rfl
theorem d_next {l os : List Oper} {es : List Nat} {i : Nat} {d : Option Tmp} {sg : List (List Blk)} {rd : List Nat} {K : St → List (List Blk) → List Nat → Prop} {v : AVal} {m : List Blk} : kDN P l es i os d st sg rd K v m = kDo P l es (i + 1) os (st.put d v m) (sg ++ [m]) rd K := by rw [kDN_def, kDo_def]; rfl
theorem d_nextq {l os : List Oper} {es : List Nat} {i : Nat} {d : Option Tmp} {op : Op} {sg : List (List Blk)} {rd : List Nat} {K : St → List (List Blk) → List Nat → Prop} {v : AVal} : kDQ P l es i os d op st sg rd K v = kDo P l es (i + 1) os (st.put d v st.m) sg (rd ++ rdIds st.ev op) K := by rw [kDQ_def, kDo_def]; rfl

/- Calls. -/
theorem call_pure {f : FuncId} {args : List AVal} {r : AVal} {m : List Blk} {K : AVal → List Blk → Prop} (h : Runs P f args [] r []) (hk : K r m) (hok : fnOk P f = true := by simp) (hc : AVal.clL args = true := by simp [AVal.clL, AVal.cl]) : kCall P (.fn (.func f) [] []) args m K :=
  ⟨hok, r, m, by simpa using h.lift hc m, hk⟩
theorem callQ_pure {f : FuncId} {args : List AVal} {r : AVal} {K : AVal → Prop} (h : Runs P f args [] r []) (hk : K r) (hok : fnOk P f = true := by simp) (hc : AVal.clL args = true := by simp [AVal.clL, AVal.cl]) : kCallQ P (.fn (.func f) [] []) args K :=
  ⟨hok, r, fun m => by simpa using h.lift hc m, hk⟩
end

theorem runs_go {P : Program} (hm : P.follows .mixedOrders = true) {f : FuncId} {fn : Func} {c : Code} (Ds : Nat → Option (List Nat)) (hf : P.funcs[f]? = some fn) (hb : fn.body = some c) {args : List AVal} {r : AVal}
    (hd : dstOk fn.ntmps Ds c = true) (hl : args.length ≤ fn.ntmps) (h : kS P 0 Ds (kRet P fn.results.toList (EndIs r)) [.code c] .normal (St.enter args [])) : Runs P f args [] r [] := by
  refine runs_pure hm Ds hf hb hd hl ?_
  rw [kS_def] at h
  simp only [Old.kS] at h
  have e : kRet P fn.results.toList (EndIs r) = Old.kS P 0 Ds (kRet P fn.results.toList (EndIs r)) [] := by
    funext e st; rw [Old.g_end]
  rw [e]; exact h
end Go.Awp
namespace Go.Awp
theorem lp_next {P : Program} {n : Nat} {Ds : Nat → Option (List Nat)} {Q : Exit → St → Prop} {s : List Item} {st : St} {I : St → Prop} {μ : St → Nat} {st0 : St} (st' : St) (hE : Ent n st st') (hI : I st') (hm : μ st' < μ st0) : lpQ P n Ds Q s I μ st0 .normal st := by
  rw [lp_normal]; exact ⟨st', hE, hI, hm⟩
/-- The whole number in a slot. -/
def St.nat (st : St) (k : Nat) : Nat := match lk st.t k with
  | .int _ n => n.toNat
  | _ => 0
end Go.Awp
namespace Go.Awp
section
variable {P : Program} {n : Nat} {Ds : Nat → Option (List Nat)} {Q : Exit → St → Prop} {s : List Item} {st : St} {l os : List Oper} {o : Oper} {g : Tmp}
theorem g2_tt : kG2 P n Ds Q s l os o true g st (.bool true) = kop P (st.put (some g) (.bool true) st.m).ev st.m (kN P n Ds Q s l os o.dst (st.put (some g) (.bool true) st.m)) o.op := by simp [kG2]
theorem g2_ff : kG2 P n Ds Q s l os o false g st (.bool false) = kop P (st.put (some g) (.bool false) st.m).ev st.m (kN P n Ds Q s l os o.dst (st.put (some g) (.bool false) st.m)) o.op := by simp [kG2]
theorem g2_tf : kG2 P n Ds Q s l os o true g st (.bool false) = kN P n Ds Q s l os o.dst (st.put (some g) (.bool false) st.m) (.tup []) st.m := by simp [kG2]
theorem g2_ft : kG2 P n Ds Q s l os o false g st (.bool true) = kN P n Ds Q s l os o.dst (st.put (some g) (.bool true) st.m) (.tup []) st.m := by simp [kG2]
theorem g2_tup {want : Bool} : kG2 P n Ds Q s l os o want g st (.tup []) = kN P n Ds Q s l os o.dst st (.tup []) st.m := rfl
@[simp low] theorem g2_sym {want b : Bool} : kG2 P n Ds Q s l os o want g st (.bool b) = ((b = want → kop P (st.put (some g) (.bool want) st.m).ev st.m (kN P n Ds Q s l os o.dst (st.put (some g) (.bool want) st.m)) o.op) ∧ (b = !want → kN P n Ds Q s l os o.dst (st.put (some g) (.bool !want) st.m) (.tup []) st.m)) := rfl
@[simp low] theorem g_if_sym {a b : Code} {t : Bool} : kIf P n Ds Q s a b st (.bool t) = ((t = true → kS P n Ds Q (.code a :: s) .normal st) ∧ (t = false → kS P n Ds Q (.code b :: s) .normal st)) := g_if
variable {es : List Nat} {i : Nat} {sg : List (List Blk)} {rd : List Nat} {K : St → List (List Blk) → List Nat → Prop}
theorem dg2_tt : kDG2 P l es i os o true g st sg rd K (.bool true) = kDR P l es i os o.dst o.op (st.put (some g) (.bool true) st.m) sg rd K (es.contains i) := by simp [kDG2]
theorem dg2_ff : kDG2 P l es i os o false g st sg rd K (.bool false) = kDR P l es i os o.dst o.op (st.put (some g) (.bool false) st.m) sg rd K (es.contains i) := by simp [kDG2]
theorem dg2_tf : kDG2 P l es i os o true g st sg rd K (.bool false) = kDo P l es (i + 1) os ((st.put (some g) (.bool false) st.m).put o.dst (.tup []) st.m) sg rd K := by simp [kDG2]
theorem dg2_ft : kDG2 P l es i os o false g st sg rd K (.bool true) = kDo P l es (i + 1) os ((st.put (some g) (.bool true) st.m).put o.dst (.tup []) st.m) sg rd K := by simp [kDG2]
theorem dg2_tup {want : Bool} : kDG2 P l es i os o want g st sg rd K (.tup []) = kDo P l es (i + 1) os (st.put o.dst (.tup []) st.m) sg rd K := rfl
@[simp low] theorem dg2_sym {want b : Bool} : kDG2 P l es i os o want g st sg rd K (.bool b) = ((b = want → kDR P l es i os o.dst o.op (st.put (some g) (.bool want) st.m) sg rd K (es.contains i)) ∧ (b = !want → kDo P l es (i + 1) os ((st.put (some g) (.bool !want) st.m).put o.dst (.tup []) st.m) sg rd K)) := rfl
end
end Go.Awp
namespace Go.Awp
/-- A call that looks at slices of the caller's own. -/
theorem call_look {P : Program} {f : FuncId} {args args' : List AVal} {r : AVal} {m : List Blk} {K : AVal → List Blk → Prop} (h : Runs P f args' [] r []) (hv : AVal.viewL m args = args' := by simp [AVal.viewL, AVal.view]) (hk : K r m) (hok : fnOk P f = true := by simp) (hc : AVal.clL args' = true := by simp [AVal.clL, AVal.cl])
    (hr : r.sc = true := by simp [AVal.sc, AVal.scL]) : kCall P (.fn (.func f) [] []) args m K := by
  subst hv
  exact ⟨hok, r, m, by simpa using Runs.look h hc hr, hk⟩
/-- The same, where the function is known for lists that say less. -/
theorem call_wk {P : Program} {f : FuncId} {args args' : List AVal} {r : AVal} {m : List Blk} {K : AVal → List Blk → Prop} (h : Runs P f args' [] r []) (hv : WkL (AVal.viewL m args) args' := by simp [AVal.viewL, AVal.view]) (hk : K r m) (hok : fnOk P f = true := by simp) (hc : AVal.clL (AVal.viewL m args) = true := by simp [AVal.viewL, AVal.view, AVal.clL, AVal.cl])
    (hr : r.sc = true := by simp [AVal.sc, AVal.scL]) : kCall P (.fn (.func f) [] []) args m K :=
  ⟨hok, r, m, by simpa using Runs.look (h.wk hv) hc hr, hk⟩
theorem callQ_wk {P : Program} {f : FuncId} {args args' : List AVal} {r : AVal} {K : AVal → Prop} (h : Runs P f args' [] r []) (hv : WkL args args' := by simp) (hk : K r) (hok : fnOk P f = true := by simp) (hc : AVal.clL args = true := by simp [AVal.clL, AVal.cl]) : kCallQ P (.fn (.func f) [] []) args K :=
  ⟨hok, r, fun m => by simpa using (h.wk hv).lift hc m, hk⟩
end Go.Awp

/- Weakenings at a loop's head: blocks that a round made are forgotten. -/
namespace Go.Awp
mutual
/-- All blocks that it names are below k. -/
def AVal.lt (k : Nat) : AVal → Bool
  | .ptr b _ => decide (b < k)
  | .spt b _ _ _ => decide (b < k)
  | .sl b _ => decide (b < k)
  | .mp b => decide (b < k)
  | .agg cs => AVal.ltL k cs
  | .tup cs => AVal.ltL k cs
  | .fn _ cs ds => AVal.ltL k cs && AVal.ltL k ds
  | .ifc _ v => v.lt k
  | _ => true
def AVal.ltL (k : Nat) : List AVal → Bool
  | [] => true
  | v :: vs => v.lt k && AVal.ltL k vs
end
def Blk.lt (k : Nat) : Blk → Bool
  | .box _ cs => AVal.ltL k cs
  | .mp _ _ es _ => es.all fun x => x.2.1.lt k
  | _ => true
theorem ltL_get {k : Nat} {l : List AVal} (h : AVal.ltL k l = true) {j : Nat} {y : AVal} (hj : l[j]? = some y) : y.lt k = true := by
  induction l generalizing j with
  | nil => simp at hj
  | cons a l ih =>
    simp only [AVal.ltL, Bool.and_eq_true] at h
    cases j with
    | zero => simp at hj; subst hj; exact h.1
    | succ j => exact ih h.2 (by simpa using hj)
section
variable {P : Program} {S : Nat → Prop} {w : World} {g : Ghost} {m : List Blk}
def cutG (k : Nat) (g : Ghost) : Ghost := fun b => if b < k then g b else none
theorem Rep.cut {k : Nat} {x : AVal} {v : Value} (h : Rep S w g x v) : x.lt k = true → Rep S w (cutG k g) x v := by
  induction h with
  | bool g b => intro _; exact .bool _ _
  | int g k n => intro _; exact .int _ _ _
  | str g s => intro _; exact .str _ _
  | nil g => intro _; exact .nil _
  | ptr g b off x c hb hc hl => intro h; simp only [AVal.lt, decide_eq_true_eq] at h; exact .ptr _ b off x c (by simp [cutG, h, hb]) hc hl
  | ept g cs off blk base f hS' h1 hc hr ih => intro _; exact .ept _ cs off blk base f hS' h1 hc hr
  | spt g b len i off x v hp hb hle hv => intro h; simp only [AVal.lt, decide_eq_true_eq] at h; exact .spt _ b len i off x v hp (by simp [cutG, h, hb]) hle hv
  | nils g => intro _; exact .nils _
  | imm0 g sz a cap => intro _; exact .imm0 _ _ _ _
  | imm g sz rows blk base len cap f hS' hlen hcap hw' h1 hc hr ih => intro _; exact .imm _ sz rows blk base len cap f hS' hlen hcap hw' h1 hc hr
  | sl g b len x v hp hb hle hv => intro h; simp only [AVal.lt, decide_eq_true_eq] at h; exact .sl _ b len x v hp (by simp [cutG, h, hb]) hle hv
  | agg g cs arr hl h1 hr ih => intro h; simp only [AVal.lt] at h; exact .agg _ cs arr hl h1 fun j y hj => ih j y hj (ltL_get h hj)
  | tup g cs arr hl hr ih => intro h; simp only [AVal.lt] at h; exact .tup _ cs arr hl fun j y hj => ih j y hj (ltL_get h hj)
  | fn g f cs ds ar br hl hr hl' hr' ih ih' =>
    intro h
    simp only [AVal.lt, Bool.and_eq_true] at h
    exact .fn _ f cs ds ar br hl (fun j y hj => ih j y hj (ltL_get h.1 hj)) hl' (fun j y hj => ih' j y hj (ltL_get h.2 hj))
  | nilfn g => intro _; exact .nilfn _
  | nilif g => intro _; exact .nilif _
  | ifc g t x v hr ih => intro h; simp only [AVal.lt] at h; exact .ifc _ t _ v (ih h)
  | dead g v => intro _; exact .dead _ _
  | mp g b x c hb hc hl => intro h; simp only [AVal.lt, decide_eq_true_eq] at h; exact .mp _ b x c (by simp [cutG, h, hb]) hc hl
  | nilm g => intro _; exact .nilm _

theorem Tie.cut {k b : Nat} {y : Blk} (hb : b < k) (h : Tie S w g b y) (hl : y.lt k = true) : Tie S w (cutG k g) b y := by
  cases y with
  | gone => trivial
  | box fz cs =>
    obtain ⟨x, c, arr, e, h1, h2, h3, h4, h5, h6⟩ := h
    exact ⟨x, c, arr, e, by simp [cutG, hb, h1], h2, h3, h4, ⟨h5.1, h5.2.1, fun j y hj => (h5.2.2 j y hj).cut (ltL_get hl hj)⟩, h6⟩
  | sl fz sz rows =>
    obtain ⟨x, e, xs, h1, h2⟩ := h
    exact ⟨x, e, xs, by simp [cutG, hb, h1], h2⟩
  | mp ag ls es clock =>
    obtain ⟨x, c, arr, h1, h2, h3, h4, h5, h6⟩ := h
    refine ⟨x, c, arr, by simp [cutG, hb, h1], h2, h3, h4, ⟨h5.1, fun j k v n hj => ?_⟩, h6⟩
    obtain ⟨q0, q1, e, q2, q3, q4, q6⟩ := h5.2 j k v n hj
    exact ⟨q0, q1, e, q2, q3, q4, q6.cut (List.all_eq_true.1 hl _ (List.mem_of_getElem? hj))⟩

theorem Inv.cut {k : Nat} (h : Inv S w g m) (hk : k ≤ m.length) (hl : (m.take k).all (Blk.lt k) = true) : Inv S w (cutG k g) (m.take k) := by
  have hg : ∀ {b y}, (m.take k)[b]? = some y → b < k ∧ m[b]? = some y := by
    intro b y hb
    have h1 := (List.getElem?_eq_some_iff.1 hb).1
    rw [List.length_take] at h1
    have h2 : b < k := by omega
    rw [List.getElem?_take, if_pos h2] at hb
    exact ⟨h2, hb⟩
  refine ⟨fun b hb => ?_, fun b hb => ?_, fun b y hb => ?_, fun b b' y y' x x' c h1 h2 h3 h4 h5 h6 h7 h8 => ?_, h.low⟩
  · rw [List.length_take] at hb
    have : ¬ b < k := by omega
    simp [cutG, this]
  · obtain ⟨h1, h2⟩ := hg hb
    simp [cutG, h.gn b h2]
  · obtain ⟨h1, h2⟩ := hg hb
    exact Tie.cut h1 (h.tie b y h2) (List.all_eq_true.1 hl y (List.mem_of_getElem? hb))
  · obtain ⟨a1, a2⟩ := hg h1
    obtain ⟨b1, b2⟩ := hg h2
    simp only [cutG, a1, b1, if_true] at h5 h6
    exact h.apart b b' y y' x x' c a2 b2 h3 h4 h5 h6 h7 h8

/-- Blocks from k on are forgotten; so are slots. -/
theorem Ent.cut {n k : Nat} {st st' : St} (hnk : n ≤ k) (hk : k ≤ st.m.length) (hm : st'.m = st.m.take k) (hl : st'.m.all (Blk.lt k) = true) (ht : ∀ x ∈ st'.t, Wk (lk st.t x.1) x.2 ∧ (lk st.t x.1).lt k = true) : Ent n st st' := by
  intro S0 w0 g0 m0 N a w hn hd ho
  obtain ⟨S, g, hR, hle, hchg⟩ := ho
  have hI : Inv S w (cutG k g) st'.m := by rw [hm] at hl ⊢; exact hR.inv.cut hk hl
  refine ⟨S, cutG k g, ⟨hI, hR.defers, hR.size, fun t => ?_⟩, fun b x hb => ?_, ⟨hchg.os, hchg.tape, hchg.output, hchg.size, hchg.keep, hchg.up, hchg.back, fun c hc => ?_⟩⟩
  · have key : ∀ l : List (Nat × AVal), (∀ x ∈ l, Wk (lk st.t x.1) x.2 ∧ (lk st.t x.1).lt k = true) → Rep S w (cutG k g) (lk l t) (a.tmps.getD t undef) := by
      intro l
      induction l with
      | nil => intro _; exact .dead _ _
      | cons x l ih =>
        intro hx
        obtain ⟨i, v⟩ := x
        simp only [lk]
        split
        · rename_i e
          subst e
          have := hx (i, v) (by simp)
          simp only at this
          have h2 := hR.tmp i
          exact (h2.cut this.2).wk _ this.1
        · exact ih fun x h => hx x (by simp [h])
    exact key st'.t ht
  · have hb' : b < k := by
      rcases Nat.lt_or_ge b n with h | h
      · omega
      · rw [hd b h] at hb; cases hb
    obtain ⟨x', h1, h2⟩ := hle b x hb
    exact ⟨x', by simp [cutG, hb', h1], h2⟩
  · obtain ⟨b, y, x, h1, h2, h3, h4⟩ := hc
    rw [hm] at h1
    have hlt := (List.getElem?_eq_some_iff.1 h1).1
    rw [List.length_take] at hlt
    have hlt' : b < k := by omega
    rw [List.getElem?_take, if_pos hlt'] at h1
    simp only [cutG, hlt', if_true] at h3
    exact hchg.cars c ⟨b, y, x, h1, h2, h3, h4⟩

/-- A nil slice is the call's own: a slice of no elements yet. -/
theorem Ent.own {n sz : Nat} {st st' : St} (hm : st'.m = st.m ++ [.sl false sz []]) (ht : ∀ x ∈ st'.t, Wk (lk st.t x.1) x.2 ∨ (lk st.t x.1 = .nils ∧ x.2 = .sl st.m.length 0)) : Ent n st st' := by
  intro S0 w0 g0 m0 N a w hn0 hd ho
  obtain ⟨S, g, hR, hle, hchg⟩ := ho
  let x : Inf := ⟨false, none, sz, 0, 0, .slice none 0 0⟩
  obtain ⟨h1, h2, h3⟩ := hR.inv.push (w' := w) (.sl false sz []) x rfl rfl rfl (Nat.le_refl _) (fun _ _ => rfl) (fun c hc => by simp [x] at hc)
    (fun _ _ => ⟨x, 0, [], gset_self _ _ _, rfl, rfl, rfl, rfl, ⟨by simp, .inl ⟨rfl, rfl⟩⟩, ⟨fun u hu => by simp at hu, fun i r hi => by simp at hi, fun i r j y hi => by simp at hi⟩, fun c hc => by simp [x] at hc⟩)
  refine ⟨S, gset g st.m.length x, ⟨by rw [hm]; exact h1, hR.defers, hR.size, fun t => ?_⟩, hle.trans h2, by rw [hm]; exact hchg.trans h3⟩
  have key : ∀ l : List (Nat × AVal), (∀ x ∈ l, Wk (lk st.t x.1) x.2 ∨ (lk st.t x.1 = .nils ∧ x.2 = .sl st.m.length 0)) → Rep S w (gset g st.m.length x) (lk l t) (a.tmps.getD t undef) := by
    intro l
    induction l with
    | nil => intro _; exact .dead _ _
    | cons y l ih =>
      intro hx
      obtain ⟨i, v⟩ := y
      simp only [lk]
      split
      · rename_i e
        subst e
        have h4 := hR.tmp i
        rcases hx (i, v) (by simp) with h5 | ⟨h5, h6⟩
        · exact (h4.wk _ h5).mono_g h2
        · simp only at h5 h6
          rw [h5] at h4
          subst h6
          generalize a.tmps.getD i undef = u at h4 ⊢
          cases h4
          exact .sl _ _ _ x _ ⟨_, _, _, rfl⟩ (gset_self _ _ _) (Nat.le_refl _) fun _ => rfl
      · exact ih fun x h => hx x (by simp [h])
  exact key st'.t ht
end
end Go.Awp

/- Loops whose states are told by a few numbers. -/
namespace Go.Awp
namespace Old
noncomputable def lpF {α : Type} (P : Program) (n : Nat) (Ds : Nat → Option (List Nat)) (Q : Exit → St → Prop) (s : List Item) (F : α → St) (I : α → Prop) (μ : α → Nat) (a : α) : Exit → St → Prop
  | .normal, st => ∃ a', Ent n st (F a') ∧ I a' ∧ μ a' < μ a
  | e, st => Go.Awp.kS P n Ds Q s e st
end Old
theorem lpF_ex {α : Type} : ∃ f : (P : Program) → (n : Nat) → (Ds : Nat → Option (List Nat)) → (Q : Exit → St → Prop) → List Item → (α → St) → (α → Prop) → (α → Nat) → α → Exit → St → Prop, f = Old.lpF := ⟨_, rfl⟩
noncomputable def lpF {α : Type} := Classical.choose (lpF_ex (α := α))
theorem lpF_def {α : Type} : @lpF α = Old.lpF := Classical.choose_spec lpF_ex
theorem least {p : Nat → Prop} (h : ∃ n, p n) : ∃ n, p n ∧ ∀ m, p m → n ≤ m := by
  obtain ⟨n, hn⟩ := h
  induction n using Nat.strongRecOn with
  | _ n ih =>
    by_cases h : ∃ m, m < n ∧ p m
    · obtain ⟨m, h1, h2⟩ := h; exact ih m h1 h2
    · exact ⟨n, hn, fun m hm => Nat.le_of_not_lt fun h1 => h ⟨m, h1, hm⟩⟩
section
variable {P : Program} {n : Nat} {Ds : Nat → Option (List Nat)} {Q : Exit → St → Prop} {s : List Item} {st : St} {α : Type} {F : α → St} {I : α → Prop} {μ : α → Nat} {a : α}
theorem lf_exit {id : Nat} : lpF P n Ds Q s F I μ a (.exit id) st = kS P n Ds Q s (.exit id) st := by rw [lpF_def]; rfl
theorem lf_ret : lpF P n Ds Q s F I μ a .ret st = kS P n Ds Q s .ret st := by rw [lpF_def]; rfl
theorem lf_next (a' : α) (hE : Ent n st (F a')) (hI : I a') (hm : μ a' < μ a) : lpF P n Ds Q s F I μ a .normal st := by rw [lpF_def]; exact ⟨a', hE, hI, hm⟩
noncomputable def muOf (F : α → St) (I : α → Prop) (μ : α → Nat) (st : St) : Nat := by
  classical exact if h : ∃ k, ∃ a, st = F a ∧ I a ∧ μ a = k then Classical.choose (least h) else 0
theorem muOf_spec {st : St} (h : ∃ a, st = F a ∧ I a) : (∃ a, st = F a ∧ I a ∧ μ a = muOf F I μ st) ∧ ∀ a, st = F a → I a → muOf F I μ st ≤ μ a := by
  obtain ⟨a, h1, h2⟩ := h
  have h' : ∃ k, ∃ a, st = F a ∧ I a ∧ μ a = k := ⟨_, a, h1, h2, rfl⟩
  have e : muOf F I μ st = Classical.choose (least h') := by unfold muOf; rw [dif_pos h']
  have hs := Classical.choose_spec (least h')
  rw [← e] at hs
  exact ⟨hs.1, fun b k1 k2 => hs.2 _ ⟨b, k1, k2, rfl⟩⟩
/-- A loop: at each head the state is one of a family's. -/
theorem g_for {c : Code} (F : α → St) (I : α → Prop) (μ : α → Nat) (a0 : α) (hE : Ent n st (F a0)) (h0 : I a0) (h : ∀ a, I a → kS P n Ds (lpF P n Ds Q s F I μ a) [.code c] .normal (F a)) : kS P n Ds Q (.code (.loop c) :: s) .normal st := by
  refine g_loop (fun st => ∃ a, st = F a ∧ I a) (muOf F I μ) (F a0) hE ⟨a0, rfl, h0⟩ fun st hst => ?_
  obtain ⟨⟨a, rfl, k1, k2⟩, _⟩ := muOf_spec (μ := μ) hst
  have e : lpF P n Ds Q s F I μ a = lpQ P n Ds Q s (fun st => ∃ a, st = F a ∧ I a) (muOf F I μ) (F a) := by
    funext e st'
    cases e with
    | normal =>
      rw [lpF_def, lp_normal]
      refine propext ⟨fun ⟨a', q1, q2, q3⟩ => ⟨F a', q1, ⟨a', rfl, q2⟩, ?_⟩, fun ⟨st'', q1, q2, q3⟩ => ?_⟩
      · have := (muOf_spec (F := F) (I := I) (μ := μ) (st := F a') ⟨a', rfl, q2⟩).2 a' rfl q2
        omega
      · obtain ⟨⟨a', rfl, r1, r2⟩, _⟩ := muOf_spec (μ := μ) q2
        exact ⟨a', q1, r1, by omega⟩
    | exit id => rw [lf_exit, lp_exit]
    | ret => rw [lf_ret, lp_ret]
    | _ => rw [lpF_def, lpQ_def]; simp only [Old.lpF, Old.lpQ, kS_def]
  rw [← e]
  exact h a k1
end
end Go.Awp

/- What a call's arguments say, as trees: out of their reading, by their types. -/
namespace Go.Awp
open Go.RowKit (Below)

def CelF (C : TypeId → List AVal → Prop) : List TypeId → List AVal → Prop
  | [], cs => cs = []
  | t :: ts, cs => ∃ a b, cs = a ++ b ∧ C t a ∧ CelF C ts b

def RowOf (P : Program) (C : TypeId → List AVal → Prop) (e : TypeId) (r : AVal) : Prop :=
  match tyAgg P e with
  | some true => ∃ cs, r = .agg cs ∧ C e cs
  | _ => C e [r]

/-- The cells of a value of a type. -/
def Cel (P : Program) : Nat → TypeId → List AVal → Prop
  | 0, _, _ => False
  | n + 1, t, cs => match P.underlying t with
    | some .bool => ∃ b, cs = [.bool b]
    | some (.int k) => ∃ i, cs = [.int k i] ∧ (Lit.int k i).wf = true
    | some .string => ∃ s, cs = [.str s] ∧ s.size ≤ reachBytes
    | some (.slice e) => ∃ rows, cs = [.imm (P.cellsOf e) rows] ∧ rows.length ≤ maxLen ∧ rows.length * P.bytesOf e ≤ reachBytes ∧ ∀ r ∈ rows, RowOf P (Cel P n) e r
    | some (.struct fs) => CelF (Cel P n) (fs.toList.map (·.type)) cs
    | some (.array k e) => CelF (Cel P n) (List.replicate k e) cs
    | _ => False

/-- Types that are read so: the fields one behind the other. -/
def fitsF (P : Program) : List (TypeId × Nat) → Nat → Nat → Bool
  | [], off, tot => off == tot
  | (t, o) :: r, off, tot => o == off && fitsF P r (off + P.cellsOf t) tot
def fits (P : Program) : Nat → TypeId → Bool
  | 0, _ => false
  | n + 1, t => match P.underlying t with
    | some .bool => P.cellsOf t == 1
    | some (.int _) => P.cellsOf t == 1
    | some .string => P.cellsOf t == 1
    | some (.slice e) => P.cellsOf t == 1 && fits P n e && decide (0 < P.cellsOf e)
    | some (.struct fs) => fitsF P (fs.toList.map fun f => (f.type, f.offset)) 0 (P.cellsOf t) && fs.toList.all fun f => fits P n f.type
    | some (.array k e) => fitsF P ((List.range k).map fun i => (e, i * P.cellsOf e)) 0 (P.cellsOf t) && (k == 0 || fits P n e)
    | _ => false

def CelsR (S : Nat → Prop) (w : World) (cs : List AVal) (ws : List Value) : Prop :=
  ws.length = cs.length ∧ ∀ (j : Nat) (y : AVal), cs[j]? = some y → ∃ v, ws[j]? = some v ∧ Rep S w noG y v ∧ v.oneCell' = true

theorem CelsR.one {S : Nat → Prop} {w : World} {x : AVal} {v : Value} (h : Rep S w noG x v) (h1 : v.oneCell' = true) : CelsR S w [x] [v] :=
  ⟨rfl, fun j y hj => by
    cases j with
    | zero => simp at hj; subst hj; exact ⟨v, rfl, h, h1⟩
    | succ j => simp at hj⟩

theorem CelsR.append {S : Nat → Prop} {w : World} {a b : List AVal} {u v : List Value} (h : CelsR S w a u) (k : CelsR S w b v) : CelsR S w (a ++ b) (u ++ v) := by
  refine ⟨by simp [h.1, k.1], fun j y hj => ?_⟩
  by_cases hl : j < a.length
  · rw [List.getElem?_append_left hl] at hj
    rw [List.getElem?_append_left (by rw [h.1]; exact hl)]
    exact h.2 j y hj
  · rw [List.getElem?_append_right (by omega)] at hj
    rw [List.getElem?_append_right (by rw [h.1]; omega), h.1]
    exact k.2 _ y hj

theorem cell_lt {w : World} {a : Addr} {v : Value} (h : w.cell? a = some v) : a.block < w.heap.size ∧ a.spot = none := by
  unfold World.cell? at h
  split at h
  · rename_i hb
    refine ⟨(Array.getElem?_eq_some_iff.1 hb).1, ?_⟩
    split at h
    · cases h
    · rename_i hs; simpa using hs
  · cases h

def w_cells (W : World) (base : Nat) (a : Addr) (P : Program) (e : TypeId) (i : Nat) : Option (List Value) := W.cells? base (a.add (i * P.cellsOf e)) (P.cellsOf e)
section
variable {H : Type} {enc : TypeId × Value → H} {P : Program} {W : World} {base : Nat} {sp : Nat → Bool} {held : Bool}

theorem trod_fields {n m : Nat} (ih : ∀ t, fits P n t = true → ∀ fuel ws d ps, DataW.trod enc P W base sp held fuel t ws = some (d, ps) → (d.weights P t).all (· ≤ reachBytes) = true →
      ∃ cs, Cel P n t cs ∧ CelsR (fun b => b < W.heap.size) W cs ws ∧ cs.length = P.cellsOf t) {tot : Nat} {ws : List Value} (hl : ws.length = tot) :
    ∀ (fs : List (TypeId × Nat)) (off : Nat) (xs : List (DataW H × List MemPlace)), fitsF P fs off tot = true → off ≤ tot → (∀ f ∈ fs, fits P n f.1 = true) → xs.length = fs.length →
      (∀ (i : Nat) (f : TypeId × Nat), fs[i]? = some f → DataW.trod enc P W base sp held m f.1 ((ws.drop f.2).take (P.cellsOf f.1)) = xs[i]?) →
      (DataW.weightsEach P (fs.map (·.1)) (xs.map (·.1))).all (· ≤ reachBytes) = true →
      ∃ cs, CelF (Cel P n) (fs.map (·.1)) cs ∧ CelsR (fun b => b < W.heap.size) W cs (ws.drop off) := by
  intro fs
  induction fs with
  | nil =>
    intro off xs hf _ _ hx _ _
    simp only [fitsF, beq_iff_eq] at hf
    refine ⟨[], rfl, ?_⟩
    rw [hf, ← hl, List.drop_length]
    exact ⟨rfl, fun j y hj => by simp at hj⟩
  | cons f fs ihf =>
    intro off xs hf ho hfit hx htr hw
    obtain ⟨t, o⟩ := f
    simp only [fitsF, Bool.and_eq_true, beq_iff_eq] at hf
    obtain ⟨rfl, hf⟩ := hf
    cases xs with
    | nil => simp at hx
    | cons x xs =>
      have h0 := htr 0 (t, o) rfl
      simp only [List.getElem?_cons_zero] at h0
      simp only [List.map_cons, DataW.weightsEach, List.all_append, Bool.and_eq_true] at hw
      obtain ⟨c0, k1, k2, k3⟩ := ih t (hfit (t, o) (List.mem_cons_self)) m _ x.1 x.2 h0 hw.1
      have hlen := k2.1
      rw [List.length_take, List.length_drop, k3] at hlen
      have hle : P.cellsOf t ≤ tot - o := by omega
      obtain ⟨c1, j1, j2⟩ := ihf (o + P.cellsOf t) xs hf (by omega) (fun f hf => hfit f (by simp [hf])) (by simpa using hx) (fun i f hi => by simpa using htr (i + 1) f (by simpa using hi)) hw.2
      refine ⟨c0 ++ c1, ⟨c0, c1, rfl, k1, j1⟩, ?_⟩
      have := k2.append j2
      rwa [← List.drop_drop, List.take_append_drop] at this

theorem weights_all {e : TypeId} : ∀ (ds : List (DataW H)), (DataW.weightsAll P e ds).all (· ≤ reachBytes) = true → ∀ d ∈ ds, (d.weights P e).all (· ≤ reachBytes) = true := by
  intro ds
  induction ds with
  | nil => intro _ d hd; simp at hd
  | cons x ds ih =>
    intro h d hd
    simp only [DataW.weightsAll, List.all_append, Bool.and_eq_true] at h
    rcases List.mem_cons.1 hd with rfl | hd
    · exact h.1
    · exact ih h.2 d hd
theorem weights_rep {e : TypeId} : ∀ (ds : List (DataW H)) (k : Nat), ds.length = k → DataW.weightsEach P (List.replicate k e) ds = DataW.weightsAll P e ds := by
  intro ds
  induction ds with
  | nil => intro k hk; subst hk; rfl
  | cons x ds ih =>
    intro k hk
    subst hk
    simp only [List.length_cons, List.replicate_succ, DataW.weightsEach, DataW.weightsAll]
    rw [ih _ rfl]

theorem trod_cel : ∀ (n : Nat) (t : TypeId), fits P n t = true → ∀ fuel ws d ps, DataW.trod enc P W base sp held fuel t ws = some (d, ps) → (d.weights P t).all (· ≤ reachBytes) = true →
    ∃ cs, Cel P n t cs ∧ CelsR (fun b => b < W.heap.size) W cs ws ∧ cs.length = P.cellsOf t := by
  intro n
  induction n with
  | zero => intro t h; simp [fits] at h
  | succ n ih =>
    intro t hf fuel ws d ps h hw
    simp only [fits] at hf
    split at hf
    · rename_i ht
      obtain ⟨b, rfl, hx⟩ := DataW.trod_bool ht h
      exact ⟨[.bool b], by simp [Cel, ht], .one (.bool _ _) rfl, by simpa using (beq_iff_eq.1 hf).symm⟩
    · rename_i k ht
      obtain ⟨i, rfl, hx, hwf⟩ := DataW.trod_int ht h
      exact ⟨[.int k i], by simp [Cel, ht, hwf], .one (.int _ _ _) rfl, by simpa using (beq_iff_eq.1 hf).symm⟩
    · rename_i ht
      obtain ⟨s, rfl, hx, hs⟩ := DataW.trod_string ht h
      cases hx
      refine ⟨[.str s], ?_, .one (.str _ _) rfl, by simpa using (beq_iff_eq.1 hf).symm⟩
      simp only [DataW.weights, List.all_cons, List.all_nil, Bool.and_true, decide_eq_true_eq] at hw
      simp [Cel, ht]
      exact hw
    · rename_i e ht
      simp only [Bool.and_eq_true, beq_iff_eq, decide_eq_true_eq] at hf
      obtain ⟨⟨h1, h2⟩, h3⟩ := hf
      rcases DataW.trod_slice ht h with ⟨rfl, hx⟩ | ⟨a, len, cap, elems, rest, m, rfl, rfl, hx, _, hlc, hcm, hlen, hel, _, _⟩
      · exact ⟨[.imm (P.cellsOf e) []], by simp [Cel, ht, maxLen, reachBytes], .one (.imm0 _ _ _ _) rfl, by simp [h1]⟩
      · cases hx
        simp only [DataW.weights, ht, List.all_cons, List.all_append, Bool.and_eq_true, decide_eq_true_eq, List.length_map] at hw
        obtain ⟨hw1, hw2, _⟩ := hw
        have each : ∀ i, i < len → ∃ cs ws', w_cells W base a P e i = some ws' ∧ Cel P n e cs ∧ CelsR (fun b => b < W.heap.size) W cs ws' ∧ cs.length = P.cellsOf e := by
          intro i hi
          have hel' := hel i hi
          have hlt : i < elems.length := by omega
          rw [List.getElem?_eq_getElem hlt] at hel'
          obtain ⟨ws', hc, htr⟩ := Option.bind_eq_some_iff.1 hel'
          obtain ⟨cs, k1, k2, k3⟩ := ih e h2 m ws' elems[i].1 elems[i].2 htr (weights_all _ hw2 _ (List.mem_map.2 ⟨_, List.getElem_mem hlt, rfl⟩))
          exact ⟨cs, ws', hc, k1, k2, k3⟩
        by_cases h0 : len = 0
        · subst h0
          exact ⟨[.imm (P.cellsOf e) []], by simp [Cel, ht, maxLen, reachBytes], .one (.imm0 _ _ _ _) rfl, by simp [h1]⟩
        have hch : ∃ F : Nat → List AVal, ∃ G : Nat → List Value, ∀ i, i < len → w_cells W base a P e i = some (G i) ∧ Cel P n e (F i) ∧ CelsR (fun b => b < W.heap.size) W (F i) (G i) ∧ (F i).length = P.cellsOf e := by
          refine ⟨fun i => if h : i < len then (each i h).choose else [], fun i => if h : i < len then (each i h).choose_spec.choose else [], fun i hi => ?_⟩
          simp only [dif_pos hi]
          exact (each i hi).choose_spec.choose_spec
        obtain ⟨F, G, hFG⟩ := hch
        let row : Nat → AVal := fun i => match tyAgg P e with | some true => .agg (F i) | _ => (F i).headD .dead
        have hrowc : ∀ i, i < len → (row i).cells = F i := by
          intro i hi
          obtain ⟨g1, g2, g3, g4⟩ := hFG i hi
          simp only [row]
          split
          · rfl
          · rename_i hna
            have hone : (F i).length = 1 ∧ ∀ x, F i = [x] → x.cells = [x] := by
              cases n with
              | zero => simp [fits] at h2
              | succ n =>
                simp only [Cel] at g2
                split at g2
                · obtain ⟨b, hb⟩ := g2; rw [hb]; exact ⟨rfl, fun x hx => by cases hx; rfl⟩
                · obtain ⟨b, hb, _⟩ := g2; rw [hb]; exact ⟨rfl, fun x hx => by cases hx; rfl⟩
                · obtain ⟨b, hb, _⟩ := g2; rw [hb]; exact ⟨rfl, fun x hx => by cases hx; rfl⟩
                · obtain ⟨b, hb, _⟩ := g2; rw [hb]; exact ⟨rfl, fun x hx => by cases hx; rfl⟩
                · rename_i hu; simp [tyAgg, hu] at hna
                · rename_i hu; simp [tyAgg, hu] at hna
                · exact g2.elim
            obtain ⟨x, hx⟩ := List.length_eq_one_iff.1 hone.1
            rw [hx]
            exact hone.2 x hx
        have hrow : ∀ i, i < len → RowOf P (Cel P n) e (row i) := by
          intro i hi
          obtain ⟨g1, g2, g3, g4⟩ := hFG i hi
          have hc := hrowc i hi
          simp only [RowOf, row] at hc ⊢
          split
          · rename_i hag; exact ⟨F i, rfl, g2⟩
          · rename_i hna
            have hone : ∃ x, F i = [x] := by
              cases n with
              | zero => simp [fits] at h2
              | succ n =>
                simp only [Cel] at g2
                split at g2
                · obtain ⟨b, hb⟩ := g2; exact ⟨_, hb⟩
                · obtain ⟨b, hb, _⟩ := g2; exact ⟨_, hb⟩
                · obtain ⟨b, hb, _⟩ := g2; exact ⟨_, hb⟩
                · obtain ⟨b, hb, _⟩ := g2; exact ⟨_, hb⟩
                · rename_i hu; simp [tyAgg, hu] at hna
                · rename_i hu; simp [tyAgg, hu] at hna
                · exact g2.elim
            obtain ⟨x, hx⟩ := hone
            have hx' : (match tyAgg P e with | some true => AVal.agg (F i) | _ => (F i).headD .dead) = x := by
              split
              · rename_i hag; exact absurd hag (by simpa using hna)
              · rw [hx]; rfl
            rw [hx', ← hx]; exact g2
        refine ⟨[.imm (P.cellsOf e) ((List.range len).map row)], ?_, .one ?_ rfl, by simp [h1]⟩
        · simp only [Cel, ht]
          refine ⟨_, rfl, by simp; omega, ?_, fun r hr => ?_⟩
          · have : len * P.bytesOf e ≤ (elems.length + rest.length) * P.bytesOf e := Nat.mul_le_mul_right _ (by omega)
            simp; omega
          · obtain ⟨i, hi, rfl⟩ := List.mem_map.1 hr
            exact hrow i (by simpa using hi)
        · have hspot : a.spot = none ∧ a.block < W.heap.size := by
            obtain ⟨g1, g2, g3, g4⟩ := hFG 0 (by omega)
            have hk := (World.cells?_some g1).2.2 0 h3
            have hlt : 0 < (G 0).length := by rw [g3.1]; omega
            rw [List.getElem?_eq_getElem hlt] at hk
            have := cell_lt hk
            simp [Addr.add] at this
            exact ⟨this.2, this.1⟩
          obtain ⟨blk, off, spot⟩ := a
          obtain ⟨rfl, hblk⟩ := hspot
          have hget : ∀ i r, ((List.range len).map row)[i]? = some r → i < len ∧ r = row i := by
            intro i r hr
            rw [List.getElem?_map] at hr
            obtain ⟨z, hz, rfl⟩ := Option.map_eq_some_iff.1 hr
            have := List.getElem?_eq_some_iff.1 hz
            obtain ⟨hz1, hz2⟩ := this
            simp at hz1 hz2
            subst hz2
            exact ⟨hz1, rfl⟩
          refine .imm _ _ _ blk off len cap (fun i j => if i < len ∧ j < P.cellsOf e then (G i).getD j (.bool false) else .bool false) hblk (by simp) hlc (fun i r hr => ?_) (fun i j => ?_) (fun i r j y hr hy => ?_) (fun i r j y hr hy => ?_)
          · obtain ⟨hi, rfl⟩ := hget i r hr
            rw [hrowc i hi]; exact (hFG i hi).2.2.2
          · show (if i < len ∧ j < P.cellsOf e then (G i).getD j (.bool false) else .bool false : Value).oneCell' = true
            split
            · rename_i hij
              obtain ⟨g1, g2, g3, g4⟩ := hFG i hij.1
              have hjl : j < (F i).length := by omega
              obtain ⟨v, hv, _, h1v⟩ := g3.2 j _ (List.getElem?_eq_getElem hjl)
              simp [hv, h1v]
            · rfl
          · obtain ⟨hi, rfl⟩ := hget i r hr
            rw [hrowc i hi] at hy
            obtain ⟨g1, g2, g3, g4⟩ := hFG i hi
            obtain ⟨v, hv, _, h1v⟩ := g3.2 j _ hy
            have hj : j < P.cellsOf e := by have := (List.getElem?_eq_some_iff.1 hy).1; omega
            have hk := (World.cells?_some g1).2.2 j hj
            rw [addr_add, addr_add, hv] at hk
            simp [hi, hj, hv]
            rw [← hk]
          · obtain ⟨hi, rfl⟩ := hget i r hr
            rw [hrowc i hi] at hy
            obtain ⟨g1, g2, g3, g4⟩ := hFG i hi
            obtain ⟨v, hv, hr, h1v⟩ := g3.2 j _ hy
            have hj : j < P.cellsOf e := by have := (List.getElem?_eq_some_iff.1 hy).1; omega
            simpa [hi, hj, hv] using hr
    · rename_i fs ht
      simp only [Bool.and_eq_true] at hf
      obtain ⟨xs, m, rfl, hx, hlen, hxl, htr⟩ := DataW.trod_struct ht h
      cases hx
      simp only [DataW.weights, ht] at hw
      have hmap : (fs.toList.map fun f => (f.type, f.offset)).map (·.1) = fs.toList.map (·.type) := by simp
      obtain ⟨cs, k1, k2⟩ := trod_fields (n := n) (m := m) ih hlen (fs.toList.map fun f => (f.type, f.offset)) 0 xs hf.1 (Nat.zero_le _) (fun f hf' => by
          obtain ⟨f0, hf0, rfl⟩ := List.mem_map.1 hf'
          exact List.all_eq_true.1 hf.2 f0 hf0) (by simp [hxl]) (fun i f hi => by
          rw [List.getElem?_map] at hi
          obtain ⟨f0, hf0, rfl⟩ := Option.map_eq_some_iff.1 hi
          exact htr i f0 (by simpa using hf0)) (by rw [hmap]; exact hw)
      rw [hmap] at k1
      rw [List.drop_zero] at k2
      exact ⟨cs, by simpa only [Cel, ht] using k1, k2, by rw [← k2.1, hlen]⟩
    · rename_i k e ht
      simp only [Bool.and_eq_true] at hf
      obtain ⟨xs, m, rfl, hx, hlen, hxl, htr⟩ := DataW.trod_array ht h
      cases hx
      simp only [DataW.weights, ht] at hw
      have hmap : ((List.range k).map fun i => (e, i * P.cellsOf e)).map (·.1) = List.replicate k e := by
        rw [List.map_map]
        apply List.ext_getElem
        · simp
        · intro i h1 h2; simp
      obtain ⟨cs, k1, k2⟩ := trod_fields (n := n) (m := m) ih hlen ((List.range k).map fun i => (e, i * P.cellsOf e)) 0 xs hf.1 (Nat.zero_le _) (fun f hf' => by
          obtain ⟨i, hi, rfl⟩ := List.mem_map.1 hf'
          have hk : k ≠ 0 := fun hk => by subst hk; simp at hi
          simpa [hk] using hf.2) (by simp [hxl]) (fun i f hi => by
          rw [List.getElem?_map] at hi
          obtain ⟨z, hz, rfl⟩ := Option.map_eq_some_iff.1 hi
          obtain ⟨hz1, hz2⟩ := List.getElem?_eq_some_iff.1 hz
          simp at hz1 hz2
          subst hz2
          exact htr i hz1) (by rw [hmap, weights_rep _ _ (by simp [hxl])]; exact hw)
      rw [hmap] at k1
      rw [List.drop_zero] at k2
      exact ⟨cs, by simpa only [Cel, ht] using k1, k2, by rw [← k2.1, hlen]⟩
    · cases hf
end
end Go.Awp

/- A law's row, out of its contract. -/
namespace Go.Awp
open Go.RowKit (Below)

/-- The arguments of a call, by their types. -/
def ArgsOk (P : Program) (n : Nat) : List TypeId → List AVal → Prop
  | [], xs => xs = []
  | t :: ts, xs => ∃ x xs', xs = x :: xs' ∧ RowOf P (Cel P n) t x ∧ ArgsOk P n ts xs'

def rowReads (P : Program) (n : Nat) (t : TypeId) : Bool := fits P n t && P.readableRec t && decide (t < P.types.size)

section
variable {H : Type} {enc : TypeId × Value → H} {P : Program} {W : World}

theorem one_cell {n : Nat} {t : TypeId} {cs : List AVal} (h : Cel P n t cs) (hna : tyAgg P t ≠ some true) : ∃ x, cs = [x] := by
  cases n with
  | zero => exact h.elim
  | succ n =>
    simp only [Cel] at h
    split at h
    · obtain ⟨b, hb⟩ := h; exact ⟨_, hb⟩
    · obtain ⟨b, hb, _⟩ := h; exact ⟨_, hb⟩
    · obtain ⟨b, hb, _⟩ := h; exact ⟨_, hb⟩
    · obtain ⟨b, hb, _⟩ := h; exact ⟨_, hb⟩
    · rename_i hu; simp [tyAgg, hu] at hna
    · rename_i hu; simp [tyAgg, hu] at hna
    · exact h.elim

theorem arg_rep {n : Nat} {t : TypeId} (hf : fits P n t = true) {v : Value} {d : DataW H} {ps : List MemPlace} (hd : DataW.Trod enc P W 0 (fun _ => true) true t v d ps) (hw : (d.weights P t).all (· ≤ reachBytes) = true) {base : Nat}
    (hok : Value.okWide P W .any base t v) : ∃ x, RowOf P (Cel P n) t x ∧ Rep (fun b => b < W.heap.size) W noG x v := by
  obtain ⟨fuel, h⟩ := hd
  obtain ⟨cs, h1, h2, h3⟩ := trod_cel n t hf fuel _ d ps h hw
  unfold Value.okWide at hok
  by_cases ha : tyAgg P t = some true
  · have hagg : ∃ arr, v = .agg arr := by
      unfold tyAgg at ha
      split at hok
      · obtain ⟨c, hc, _⟩ := hok; exact ⟨c, hc⟩
      · obtain ⟨c, hc, _⟩ := hok; exact ⟨c, hc⟩
      · rename_i hn1 hn2
        cases hu : P.underlying t with
        | none => rw [hu] at ha; cases ha
        | some u => cases u <;> simp_all
    obtain ⟨arr, rfl⟩ := hagg
    refine ⟨.agg cs, by simp only [RowOf, ha]; exact ⟨cs, rfl, h1⟩, .agg _ _ _ ?_ (fun u hu => ?_) (fun j y hj => ?_)⟩
    · simpa [Value.cells] using h2.1
    · obtain ⟨i, hi, rfl⟩ := Array.mem_iff_getElem.1 hu
      have hl : i < cs.length := by have := h2.1; simp [Value.cells] at this; omega
      obtain ⟨u, k1, k2, k3⟩ := h2.2 i _ (List.getElem?_eq_getElem hl)
      simp [Value.cells, hi] at k1
      rw [k1]; exact k3
    · obtain ⟨u, k1, k2, k3⟩ := h2.2 j y hj
      simp only [Value.cells, Array.getElem?_toList] at k1
      rw [Array.getD_eq_getD_getElem?, k1]; exact k2
  · obtain ⟨x, rfl⟩ := one_cell h1 ha
    obtain ⟨u, k1, k2, k3⟩ := h2.2 0 x rfl
    have hv : v.cells = #[v] := by
      cases v with
      | agg arr =>
        exfalso
        unfold tyAgg at ha
        cases hu : P.underlying t with
        | none => rw [hu] at hok; simp [Cell.okWide, Cell.ok, hu] at hok
        | some u => rw [hu] at hok ha; cases u <;> simp_all [Cell.okWide, Cell.ok]
      | _ => rfl
    rw [hv] at k1
    simp at k1
    subst k1
    refine ⟨x, ?_, k2⟩
    unfold RowOf
    split
    · rename_i hh; exact absurd hh ha
    · exact h1

theorem args_rep {n : Nat} {base : Nat} : ∀ (ts : List TypeId) (vs : List Value) (ds : List (DataW H)) (ps : List MemPlace), DataW.TrodAll enc P W 0 (fun _ => true) true ts vs ds ps → (∀ t ∈ ts, fits P n t = true) →
    (DataW.weightsEach P ts ds).all (· ≤ reachBytes) = true → (∀ (j : Nat) t v, ts[j]? = some t → vs[j]? = some v → Value.okWide P W .any base t v) →
    ∃ xs, ArgsOk P n ts xs ∧ vs.length = xs.length ∧ ∀ (j : Nat) (y : AVal), xs[j]? = some y → ∃ v, vs[j]? = some v ∧ Rep (fun b => b < W.heap.size) W noG y v
  | [], vs, ds, ps, h, _, _, _ => by
    obtain ⟨rfl, rfl, rfl⟩ := ChangeShapes.trodAll_nil h
    exact ⟨[], rfl, rfl, fun j y hj => by simp at hj⟩
  | t :: ts, vs, ds, ps, h, hf, hw, hok => by
    obtain ⟨v, vs', d, ds', p, q, rfl, rfl, rfl, hd, hr⟩ := ChangeShapes.trodAll_cons h
    simp only [DataW.weightsEach, List.all_append, Bool.and_eq_true] at hw
    obtain ⟨x, k1, k2⟩ := arg_rep (hf t (by simp)) hd hw.1 (hok 0 t v rfl rfl)
    obtain ⟨xs, j1, j2, j3⟩ := args_rep ts vs' ds' q hr (fun t ht => hf t (by simp [ht])) hw.2 (fun j t v h1 h2 => hok (j + 1) t v (by simpa using h1) (by simpa using h2))
    refine ⟨x :: xs, ⟨x, xs, rfl, k1, j1⟩, by simp [j2], fun j y hj => ?_⟩
    cases j with
    | zero => simp at hj; subst hj; exact ⟨v, rfl, k2⟩
    | succ j => exact j3 j y (by simpa using hj)

theorem args_back {W' : World} (hl : laidOutB P = true) (hb : Below W.heap.size W W') : ∀ (ts : List TypeId) (vs : List Value) (ds : List (DataW H)) (ps : List MemPlace), DataW.TrodAll enc P W 0 (fun _ => true) true ts vs ds ps →
    (∀ t ∈ ts, P.readableRec t = true ∧ t < P.types.size) → DataW.TrodAll enc P W' 0 (fun b => decide (b < W.heap.size)) true ts vs ds ps
  | [], vs, ds, ps, h, _ => by
    obtain ⟨rfl, rfl, rfl⟩ := ChangeShapes.trodAll_nil h
    exact ChangeShapes.trodAll_mk0
  | t :: ts, vs, ds, ps, h, hf => by
    obtain ⟨v, vs', d, ds', p, q, rfl, rfl, rfl, hd, hr⟩ := ChangeShapes.trodAll_cons h
    refine trodAll_cons_mk (Below.trod hl (hf t (by simp)).1 (hf t (by simp)).2 hd hb ?_) (args_back hl hb ts vs' ds' q hr fun t ht => hf t (by simp [ht]))
    obtain ⟨m, hm⟩ := hd
    exact DataW.trod_lt m _ _ _ hm

theorem trodAll_len : ∀ (ts : List TypeId) (vs : List Value) (ds : List (DataW H)) (ps : List MemPlace) {sp : Nat → Bool}, DataW.TrodAll enc P W 0 sp true ts vs ds ps → ds.length = ts.length
  | [], vs, ds, ps, _, h => by obtain ⟨rfl, rfl, rfl⟩ := ChangeShapes.trodAll_nil h; rfl
  | t :: ts, vs, ds, ps, _, h => by
    obtain ⟨v, vs', d, ds', p, q, rfl, rfl, rfl, hd, hr⟩ := ChangeShapes.trodAll_cons h
    simp [trodAll_len ts vs' ds' q hr]
end

/-- THE ROW. -/
theorem row_lifted {H : Type} {enc : TypeId × Value → H} {C : Checked} {os : Os} {f : FuncId} {fn : Func} {s : ChangeSpec} {conds : List PathCond} (n : Nat) (own : ownKnob C.prog.godebug = none) (started : os.Started) (noInit : C.prog.inits.idxOf? f = none) (hfn : C.prog.funcs[f]? = some fn)
    (laid : laidOutB C.prog = true) (hvars : s.vars = []) (hs : ∀ ds : List (DataW H), ds.length = fn.params.toList.length → s.fn H ds = { results := [.lit (.bool true)], args := ds })
    {rt : TypeId} (hres : fn.resultTypes = #[rt]) (hrt : C.prog.underlying rt = some .bool) (hfit : fn.params.toList.all (rowReads C.prog n) = true)
    (witness : ∃ (w : World) (tape : Tape) (i : Input), w.os = os ∧ (w.forCall tape i).Shaped C.prog ∧ i.vars = [] ∧ Input.okWide C.prog (w.forCall tape i) .any w.heap.size f i ∧
      s.pre6 enc C.prog fn conds false (w.forCall tape i).memory i.args ∧ ({} : Assume).holds C.prog (lone (Frame.enter C.prog f i.args .normal) [] (w.forCall tape i)))
    (h : ∀ xs, ArgsOk C.prog n fn.params.toList xs → Runs C.prog f xs [] (.bool true) []) :
    ReturnsInHanded {} C os f .any (s.pre6 enc C.prog fn conds false) (s.post enc C.prog fn false true false false) := by
  refine returnsInHanded_of_change_sized own started noInit hfn witness ?_
  intro W base args ds gs before hval hW _ hsz _
  have hW' := hW
  obtain ⟨p, q, hA, hV, rfl, hfz, hnd⟩ := hW
  rw [hvars] at hV
  obtain ⟨rfl, rfl⟩ := ChangeShapes.trodVars_none hV
  have hreads : ∀ t ∈ fn.params.toList, fits C.prog n t = true ∧ C.prog.readableRec t = true ∧ t < C.prog.types.size := fun t ht => by
    have := List.all_eq_true.1 hfit t ht
    simp only [rowReads, Bool.and_eq_true, decide_eq_true_eq] at this
    exact ⟨this.1.1, this.1.2, this.2⟩
  have hvt : s.plain.varTypes C.prog = [] := by
    have : s.plain.vars = [] := hvars
    simp [DataSpec.varTypes, this]
  have hsz' : (DataW.weightsEach C.prog fn.params.toList ds).all (· ≤ reachBytes) = true := by
    have := hsz
    rw [hvt, List.append_nil, List.append_nil] at this
    exact this
  obtain ⟨xs, h1, h2, h3⟩ := args_rep fn.params.toList args.toList ds p hA (fun t ht => (hreads t ht).1) hsz' (fun j t v k1 k2 => hval j t v (by simpa using k1) (by simpa using k2))
  refine (h xs h1 (fun b => b < W.heap.size) W noG args (Inv.nil fun c hc => hc) (by simpa using h2) (fun j y hj => ?_)).mono fun e W' ⟨u, S', g', he, hAf⟩ => ?_
  · obtain ⟨v, k1, k2⟩ := h3 j y hj
    rw [Array.getElem?_toList] at k1
    rw [Array.getD_eq_getD_getElem?, k1]; exact k2
  · have bel : Below W.heap.size W W' := ⟨hAf.chg.os, hAf.chg.tape, hAf.chg.output, hAf.chg.size, fun k hk => hAf.chg.keep k hk Open.nil⟩
    have hu : u = .bool true := rep_bool hAf.rep
    subst hu
    refine ⟨_, he, ds, [], p ++ [], [], p, [], hW', ?_, ?_, ?_, bel.frame _, fun h => by cases h⟩
    · rw [List.append_nil, hs ds (trodAll_len _ _ _ _ hA), hres]
      exact ChangeShapes.trodAll_mk1 (RowKit.shut_bool hrt _)
    · rw [List.append_nil, hs ds (trodAll_len _ _ _ _ hA)]
      exact args_back laid bel _ _ _ _ hA fun t ht => (hreads t ht).2
    · rw [List.append_nil, hs ds (trodAll_len _ _ _ _ hA), hvars]
      exact (rfl : [] = [])
end Go.Awp
namespace Go.Awp
section
variable {P : Program} {t : TypeId}
theorem row_agg {C : TypeId → List AVal → Prop} {r : AVal} (h : tyAgg P t = some true) : RowOf P C t r = (∃ cs, r = .agg cs ∧ C t cs) := by simp only [RowOf, h]
theorem row_one {C : TypeId → List AVal → Prop} {r : AVal} (h : tyAgg P t = some false) : RowOf P C t r = C t [r] := by simp only [RowOf, h]
def tyFs (P : Program) (t : TypeId) : Option (List TypeId) := match P.underlying t with
  | some (.struct fs) => some (fs.toList.map (·.type))
  | _ => none
theorem cel_bool {n : Nat} {cs : List AVal} (h : P.underlying t = some .bool) : Cel P (n + 1) t cs = ∃ b, cs = [.bool b] := by simp only [Cel, h]
theorem cel_int {n : Nat} {cs : List AVal} {k : IntKind} (h : tyInt P t = some k) : Cel P (n + 1) t cs = ∃ i, cs = [.int k i] ∧ (Lit.int k i).wf = true := by simp only [Cel, tyInt_und h]
theorem cel_str {n : Nat} {cs : List AVal} (h : tyStr P t = true) : Cel P (n + 1) t cs = ∃ b, cs = [.str b] ∧ b.size ≤ reachBytes := by simp only [Cel, tyStr_und h]
theorem cel_slice {n sz by_ : Nat} {cs : List AVal} {e : TypeId} (h : tyElem P t = some e) (h1 : P.cellsOf e = sz) (h2 : P.bytesOf e = by_) : Cel P (n + 1) t cs = ∃ rows, cs = [.imm sz rows] ∧ rows.length ≤ maxLen ∧ rows.length * by_ ≤ reachBytes ∧ ∀ r ∈ rows, RowOf P (Cel P n) e r := by
  simp only [Cel, tyElem_und h, h1, h2]
theorem cel_struct {n : Nat} {cs : List AVal} {ts : List TypeId} (h : tyFs P t = some ts) : Cel P (n + 1) t cs = CelF (Cel P n) ts cs := by
  unfold tyFs at h
  split at h
  · rename_i hu; cases h; simp only [Cel, hu]
  · cases h
theorem cel_array {n : Nat} {cs : List AVal} {ts : List TypeId} (h : (tyArr P t).map (fun x => List.replicate x.1 x.2) = some ts) : Cel P (n + 1) t cs = CelF (Cel P n) ts cs := by
  cases hq : tyArr P t with
  | none => simp [hq] at h
  | some x => simp [hq] at h; subst h; simp only [Cel, tyArr_und hq]
/-- Rows of one form are the forms of a list. -/
theorem rows_list {α : Type} {enc : α → AVal} {Q : α → Prop} : ∀ {rows : List AVal}, (∀ r ∈ rows, ∃ s, Q s ∧ r = enc s) → ∃ l : List α, rows = l.map enc ∧ ∀ s ∈ l, Q s
  | [], _ => ⟨[], rfl, fun s h => by simp at h⟩
  | r :: rows, h => by
    obtain ⟨s, hs, rfl⟩ := h r (by simp)
    obtain ⟨l, rfl, hl⟩ := rows_list (rows := rows) fun r hr => h r (by simp [hr])
    exact ⟨s :: l, rfl, fun t ht => by rcases List.mem_cons.1 ht with rfl | ht; exact hs; exact hl t ht⟩
end
end Go.Awp

/- Whole numbers: what the program's arithmetic says in plain numbers. -/
namespace Go.Awp
theorem wrap_u64 (n : Int) : IntKind.u64.wrap n = n % 18446744073709551616 := by
  simp [IntKind.wrap, IntKind.signed, IntKind.bits]
theorem wrap_i64 (n : Int) : IntKind.i64.wrap n = (n + 9223372036854775808) % 18446744073709551616 - 9223372036854775808 := by
  simp only [IntKind.wrap, IntKind.signed, IntKind.bits]
  simp
  split <;> omega
theorem wrap_u8 (n : Int) : IntKind.u8.wrap n = n % 256 := by
  simp [IntKind.wrap, IntKind.signed, IntKind.bits]
theorem wrap_u32 (n : Int) : IntKind.u32.wrap n = n % 4294967296 := by
  simp [IntKind.wrap, IntKind.signed, IntKind.bits]
theorem wrap_u64_id {n : Int} (h0 : 0 ≤ n) (h1 : n < 18446744073709551616) : IntKind.u64.wrap n = n := by rw [wrap_u64]; omega
theorem wrap_i64_id {n : Int} (h0 : -9223372036854775808 ≤ n) (h1 : n < 9223372036854775808) : IntKind.i64.wrap n = n := by rw [wrap_i64]; omega
theorem and_low {z : Int} (h0 : 0 ≤ z) (h1 : z < 18446744073709551616) : bits .and .u64 z 4294967295 = z % 4294967296 := and_low32 z h0 h1
theorem fdiv32 (x : Int) : x.fdiv 4294967296 = x / 4294967296 := Int.fdiv_eq_ediv_of_nonneg _ (by decide)
theorem fdiv64 (x : Int) : x.fdiv 18446744073709551616 = x / 18446744073709551616 := Int.fdiv_eq_ediv_of_nonneg _ (by decide)
theorem fdiv1 (x : Int) : x.fdiv 2 = x / 2 := Int.fdiv_eq_ediv_of_nonneg _ (by decide)
theorem fdiv_nn (x : Int) {y : Int} (h : 0 ≤ y) : x.fdiv y = x / y := Int.fdiv_eq_ediv_of_nonneg _ h
/-- Bits that do not meet are added. -/
theorem or_add {k : Nat} {a b : Nat} (hb : b < 2 ^ k) : (a * 2 ^ k) ||| b = a * 2 ^ k + b := by
  rw [Nat.mul_comm, Nat.two_pow_add_eq_or_of_lt hb]
theorem or_u64 {k a b : Nat} (hb : b < 2 ^ k) (h : a * 2 ^ k + b < 18446744073709551616) : bits .or .u64 ((a * 2 ^ k : Nat) : Int) (b : Int) = ((a * 2 ^ k + b : Nat) : Int) := by
  rw [bits_or_u64_nat _ _ (by omega) (by omega), or_add hb]
theorem or_u64' {k a b : Nat} (hb : b < 2 ^ k) (h : a * 2 ^ k + b < 18446744073709551616) : bits .or .u64 (b : Int) ((a * 2 ^ k : Nat) : Int) = ((a * 2 ^ k + b : Nat) : Int) := by
  rw [bits_or_u64_nat _ _ (by omega) (by omega), Nat.or_comm, or_add hb]
theorem or32 (a b : Int) (ha : 0 ≤ a) (ha' : a < 4294967296) (hb : 0 ≤ b) (hb' : b < 4294967296) : bits .or .u64 (a * 4294967296) b = a * 4294967296 + b := by
  obtain ⟨a, rfl⟩ := Int.eq_ofNat_of_zero_le ha
  obtain ⟨b, rfl⟩ := Int.eq_ofNat_of_zero_le hb
  have := or_u64 (k := 32) (a := a) (b := b) (by omega) (by omega)
  simpa using this
theorem or32' (a b : Int) (ha : 0 ≤ a) (ha' : a < 4294967296) (hb : 0 ≤ b) (hb' : b < 4294967296) : bits .or .u64 b (a * 4294967296) = b + a * 4294967296 := by
  obtain ⟨a, rfl⟩ := Int.eq_ofNat_of_zero_le ha
  obtain ⟨b, rfl⟩ := Int.eq_ofNat_of_zero_le hb
  have := or_u64' (k := 32) (a := a) (b := b) (by omega) (by omega)
  rw [show (b : Int) + a * 4294967296 = ((a * 2 ^ 32 + b : Nat) : Int) by simp; omega, ← this]
  simp
theorem or31 (a b : Int) (ha : 0 ≤ a) (ha' : a < 8589934592) (hb : 0 ≤ b) (hb' : b < 2147483648) : bits .or .u64 (a * 2147483648) b = a * 2147483648 + b := by
  obtain ⟨a, rfl⟩ := Int.eq_ofNat_of_zero_le ha
  obtain ⟨b, rfl⟩ := Int.eq_ofNat_of_zero_le hb
  have := or_u64 (k := 31) (a := a) (b := b) (by omega) (by omega)
  simpa using this
theorem or_zero (b : Int) (hb : 0 ≤ b) (hb' : b < 18446744073709551616) : bits .or .u64 0 b = b := by
  obtain ⟨b, rfl⟩ := Int.eq_ofNat_of_zero_le hb
  have := bits_or_u64_nat 0 b (by omega) (by omega)
  simpa using this
theorem zero_or (b : Int) (hb : 0 ≤ b) (hb' : b < 18446744073709551616) : bits .or .u64 b 0 = b := by
  obtain ⟨b, rfl⟩ := Int.eq_ofNat_of_zero_le hb
  have := bits_or_u64_nat b 0 (by omega) (by omega)
  simpa using this

theorem mul_bd {x y : Int} (h1 : 0 ≤ x) (h2 : x < 4294967296) (h3 : 0 ≤ y) (h4 : y < 4294967296) : 0 ≤ x * y ∧ x * y ≤ 18446744065119617025 :=
  ⟨Int.mul_nonneg h1 h3, Int.le_trans (Int.mul_le_mul (show x ≤ 4294967295 by omega) (show y ≤ 4294967295 by omega) h3 (by omega)) (by omega)⟩

/-- The product of two words, out of four halves' products. -/
theorem mul_words (x y : Int) (hx : 0 ≤ x) (hx' : x < 18446744073709551616) (hy : 0 ≤ y) (hy' : y < 18446744073709551616) :
    IntKind.u64.wrap (IntKind.u64.wrap (IntKind.u64.wrap (IntKind.u64.wrap (x / 4294967296 * (y / 4294967296)) + (IntKind.u64.wrap (x / 4294967296 * bits .and .u64 y 4294967295)) / 4294967296) + (IntKind.u64.wrap (bits .and .u64 x 4294967295 * (y / 4294967296))) / 4294967296) +
      (IntKind.u64.wrap (IntKind.u64.wrap ((IntKind.u64.wrap (bits .and .u64 x 4294967295 * bits .and .u64 y 4294967295)) / 4294967296 + bits .and .u64 (IntKind.u64.wrap (x / 4294967296 * bits .and .u64 y 4294967295)) 4294967295) +
        bits .and .u64 (IntKind.u64.wrap (bits .and .u64 x 4294967295 * (y / 4294967296))) 4294967295)) / 4294967296) = x * y / 18446744073709551616 ∧
    bits .or .u64 (IntKind.u64.wrap (IntKind.u64.wrap (IntKind.u64.wrap ((IntKind.u64.wrap (bits .and .u64 x 4294967295 * bits .and .u64 y 4294967295)) / 4294967296 + bits .and .u64 (IntKind.u64.wrap (x / 4294967296 * bits .and .u64 y 4294967295)) 4294967295) +
        bits .and .u64 (IntKind.u64.wrap (bits .and .u64 x 4294967295 * (y / 4294967296))) 4294967295) * 4294967296))
      (bits .and .u64 (IntKind.u64.wrap (bits .and .u64 x 4294967295 * bits .and .u64 y 4294967295)) 4294967295) = x * y % 18446744073709551616 := by
  rw [and_low hx hx', and_low hy hy']
  have ha : 0 ≤ x / 4294967296 ∧ x / 4294967296 < 4294967296 := by omega
  have hb : 0 ≤ x % 4294967296 ∧ x % 4294967296 < 4294967296 := by omega
  have hc : 0 ≤ y / 4294967296 ∧ y / 4294967296 < 4294967296 := by omega
  have hd : 0 ≤ y % 4294967296 ∧ y % 4294967296 < 4294967296 := by omega
  have hxy : x * y = (x / 4294967296 * (y / 4294967296)) * 18446744073709551616 + (x / 4294967296 * (y % 4294967296) + x % 4294967296 * (y / 4294967296)) * 4294967296 + x % 4294967296 * (y % 4294967296) := by
    have e1 : x = x / 4294967296 * 4294967296 + x % 4294967296 := by omega
    have e2 : y = y / 4294967296 * 4294967296 + y % 4294967296 := by omega
    generalize x / 4294967296 = a at *
    generalize x % 4294967296 = b at *
    generalize y / 4294967296 = c at *
    generalize y % 4294967296 = d at *
    subst e1 e2
    rw [Int.add_mul, Int.mul_add, Int.mul_add]
    have t1 : a * 4294967296 * (c * 4294967296) = a * c * 18446744073709551616 := by
      rw [Int.mul_assoc, ← Int.mul_assoc 4294967296 c, Int.mul_comm 4294967296 c, Int.mul_assoc c, ← Int.mul_assoc a c]; rfl
    have t2 : a * 4294967296 * d = a * d * 4294967296 := by rw [Int.mul_assoc, Int.mul_comm 4294967296 d, ← Int.mul_assoc]
    have t3 : b * (c * 4294967296) = b * c * 4294967296 := by rw [← Int.mul_assoc]
    rw [t1, t2, t3]; omega
  rw [hxy]
  have p1 := mul_bd ha.1 ha.2 hc.1 hc.2
  have p2 := mul_bd ha.1 ha.2 hd.1 hd.2
  have p3 := mul_bd hb.1 hb.2 hc.1 hc.2
  have p4 := mul_bd hb.1 hb.2 hd.1 hd.2
  generalize x / 4294967296 * (y / 4294967296) = p at *
  generalize x / 4294967296 * (y % 4294967296) = q at *
  generalize x % 4294967296 * (y / 4294967296) = r at *
  generalize x % 4294967296 * (y % 4294967296) = t at *
  clear ha hb hc hd hxy hx hx' hy hy'
  rw [wrap_u64_id p1.1 (by omega), wrap_u64_id p2.1 (by omega), wrap_u64_id p3.1 (by omega), wrap_u64_id p4.1 (by omega), and_low p2.1 (by omega), and_low p3.1 (by omega), and_low p4.1 (by omega)]
  simp only [wrap_u64]
  constructor
  · omega
  · have e : (((t / 4294967296 + q % 4294967296) % 18446744073709551616 + r % 4294967296) % 18446744073709551616 * 4294967296) % 18446744073709551616 = (((t / 4294967296 + q % 4294967296) + r % 4294967296) % 4294967296) * 4294967296 := by omega
    rw [e, or32 _ _ (by omega) (by omega) (by omega) (by omega)]
    omega

/-- A quotient, to the nearest one; of two that are as near the even one. -/
def rne (A d : Int) : Int := if 2 * (A % d) > d ∨ (2 * (A % d) = d ∧ A / d % 2 = 1) then A / d + 1 else A / d
/-- A fixed-point product. -/
def mulq (x y : Int) : Int := if (decide (x < 0) != decide (y < 0)) = true then -rne ((x.natAbs : Int) * (y.natAbs : Int)) 4294967296 else rne ((x.natAbs : Int) * (y.natAbs : Int)) 4294967296
theorem rne_le {A d k : Int} (hd : 0 < d) (h : A ≤ k * d) : rne A d ≤ k := by
  have h1 : A / d ≤ k := by
    have := Int.ediv_le_ediv hd h
    rwa [Int.mul_ediv_cancel _ (by omega)] at this
  unfold rne
  split
  · rename_i hc
    have h2 : A / d ≠ k := by
      intro e
      have e2 := Int.emod_def A d
      have e3 : d * (A / d) = k * d := by rw [e, Int.mul_comm]
      have : A % d ≤ 0 := by omega
      have := Int.emod_nonneg A (show d ≠ 0 by omega)
      omega
    omega
  · exact h1
theorem rne_ge {A d k : Int} (hd : 0 < d) (h : k * d ≤ A) : k ≤ rne A d := by
  have h1 : k ≤ A / d := by
    have := Int.ediv_le_ediv hd h
    rwa [Int.mul_ediv_cancel _ (by omega)] at this
  unfold rne
  split <;> omega
theorem rne_nonneg {A d : Int} (hd : 0 < d) (h : 0 ≤ A) : 0 ≤ rne A d := rne_ge hd (by omega)
theorem mulq_nn {x y : Int} (hx : 0 ≤ x) (hy : 0 ≤ y) : mulq x y = rne (x * y) 4294967296 := by
  unfold mulq
  rw [Int.natAbs_of_nonneg hx, Int.natAbs_of_nonneg hy, if_neg]
  have h1 : ¬ x < 0 := by omega
  have h2 : ¬ y < 0 := by omega
  simp [h1, h2]
theorem mulq_bd {x y : Int} (hx : 0 ≤ x) (hy : 0 ≤ y) (hy' : y ≤ 4294967296) : 0 ≤ mulq x y ∧ mulq x y ≤ x := by
  rw [mulq_nn hx hy]
  exact ⟨rne_nonneg (by decide) (Int.mul_nonneg hx hy), rne_le (by decide) (Int.mul_le_mul_of_nonneg_left hy' hx)⟩
theorem natAbs_nn {x : Int} (h : 0 ≤ x) : (x.natAbs : Int) = x := Int.natAbs_of_nonneg h
theorem and_one (n : Int) : bits .and .i64 n 1 = n % 2 := by
  have h1 : (BitVec.ofInt 64 1).toNat = 2 ^ 1 - 1 := by decide
  have key : (BitVec.ofInt 64 n &&& BitVec.ofInt 64 1).toNat = (n % ((2 ^ 64 : Nat) : Int)).toNat % 2 ^ 1 := by
    rw [BitVec.toNat_and, BitVec.toNat_ofInt, h1, Nat.and_two_pow_sub_one_eq_mod]
  show IntKind.i64.wrap ((BitVec.ofInt 64 n &&& BitVec.ofInt 64 1).toNat : Nat) = n % 2
  rw [key, wrap_i64]
  omega
theorem rne_cases (A d : Int) : rne A d = A / d ∨ rne A d = A / d + 1 := by unfold rne; split <;> simp

/- The values of curves. -/
def powGo (r x : Int) (n : Nat) : Int := if n = 0 then r else powGo (if n % 2 = 1 then mulq r x else r) (mulq x x) (n / 2)
termination_by n
decreasing_by omega
def powq (x n : Int) : Int := powGo 4294967296 x n.toNat
theorem powGo_bd : ∀ (n : Nat) (r x : Int), 0 ≤ r → r ≤ 4294967296 → 0 ≤ x → x ≤ 4294967296 → 0 ≤ powGo r x n ∧ powGo r x n ≤ 4294967296 := by
  intro n
  induction n using Nat.strongRecOn with
  | _ n ih =>
    intro r x hr hr' hx hx'
    unfold powGo
    split
    · exact ⟨hr, hr'⟩
    · have h1 := mulq_bd hr hx hx'
      have h2 := mulq_bd hx hx hx'
      refine ih (n / 2) (by omega) _ _ ?_ ?_ h2.1 (by omega) <;> split <;> omega
theorem powq_bd {x n : Int} (hx : 0 ≤ x) (hx' : x ≤ 4294967296) : 0 ≤ powq x n ∧ powq x n ≤ 4294967296 := powGo_bd _ _ _ (by decide) (by decide) hx hx'
def waveCo : Nat → Int
  | 0 => 2044063
  | 1 => 27198923
  | 2 => 245884610
  | 3 => 1372256329
  | 4 => 4014944880
  | _ => 4294967296
def wavePoly (u : Int) : Nat → Int
  | 0 => 0
  | k + 1 => waveCo k - mulq u (wavePoly u k)
theorem wavePoly_bd {u : Int} (hu : 0 ≤ u) (hu' : u ≤ 4294967296) : ∀ k, k ≤ 6 → 0 ≤ wavePoly u k ∧ wavePoly u k ≤ 4294967296 := by
  have step : ∀ s c : Int, 0 ≤ s → s ≤ c → 0 ≤ mulq u s ∧ mulq u s ≤ c := by
    intro s c h h'
    rw [mulq_nn hu h]
    exact ⟨rne_nonneg (by decide) (Int.mul_nonneg hu h), rne_le (by decide) (by rw [Int.mul_comm]; exact Int.mul_le_mul h' hu' hu (by omega))⟩
  have b0 := step 0 0 (by decide) (by decide)
  have e1 : wavePoly u 1 = 2044063 - mulq u 0 := rfl
  have b1 := step (wavePoly u 1) 2044063 (by omega) (by omega)
  have e2 : wavePoly u 2 = 27198923 - mulq u (wavePoly u 1) := rfl
  have b2 := step (wavePoly u 2) 27198923 (by omega) (by omega)
  have e3 : wavePoly u 3 = 245884610 - mulq u (wavePoly u 2) := rfl
  have b3 := step (wavePoly u 3) 245884610 (by omega) (by omega)
  have e4 : wavePoly u 4 = 1372256329 - mulq u (wavePoly u 3) := rfl
  have b4 := step (wavePoly u 4) 1372256329 (by omega) (by omega)
  have e5 : wavePoly u 5 = 4014944880 - mulq u (wavePoly u 4) := rfl
  have b5 := step (wavePoly u 5) 4014944880 (by omega) (by omega)
  have e6 : wavePoly u 6 = 4294967296 - mulq u (wavePoly u 5) := rfl
  intro k hk
  match k, hk with
  | 0, _ => exact ⟨Int.le_refl 0, show (0 : Int) ≤ 4294967296 by decide⟩
  | 1, _ => omega
  | 2, _ => omega
  | 3, _ => omega
  | 4, _ => omega
  | 5, _ => omega
  | 6, _ => omega
def waveCos (t : Int) : Int := mulq (4294967296 - mulq t t * 4) (wavePoly (mulq t t) 6)
theorem sq_bd {t : Int} (h : 0 ≤ t) (h' : t ≤ 2147483648) : 0 ≤ mulq t t ∧ mulq t t ≤ 1073741824 := by
  rw [mulq_nn h h]
  exact ⟨rne_nonneg (by decide) (Int.mul_nonneg h h), rne_le (by decide) (Int.le_trans (Int.mul_le_mul h' h' h (by decide)) (by decide))⟩
theorem waveCos_bd {t : Int} (h : 0 ≤ t) (h' : t ≤ 2147483648) : 0 ≤ waveCos t ∧ waveCos t ≤ 4294967296 := by
  have h1 := sq_bd h h'
  have h2 := wavePoly_bd h1.1 (by omega) 6 (by decide)
  have h3 := mulq_bd (x := 4294967296 - mulq t t * 4) (by omega) h2.1 h2.2
  unfold waveCos
  omega
def waveAt (t : Int) : Int := let c := if t > 2147483648 then -waveCos (4294967296 - t) else waveCos t
  if c < 0 then 4294967296 - (4294967296 - c) / 2 else (4294967296 + c) / 2
theorem waveAt_bd {t : Int} (h : 0 ≤ t) (h' : t ≤ 4294967296) : 0 ≤ waveAt t ∧ waveAt t ≤ 4294967296 := by
  unfold waveAt
  simp only []
  by_cases ht : t > 2147483648
  · rw [if_pos ht]
    have := waveCos_bd (t := 4294967296 - t) (by omega) (by omega)
    split <;> omega
  · rw [if_neg ht]
    have := waveCos_bd h (by omega)
    split <;> omega
/- Restarts: the span of a number, found span by span. -/
def cycGo : Nat → Int → Int → Int → Int → Int → Int × Int × Int
  | 0, _, _, lo, hi, n => (lo, hi, n)
  | k + 1, t, a, lo, hi, n => if hi ≤ a then cycGo k t a hi (hi + min ((hi - lo) * t) 1048576) (n + 1) else (lo, hi, n)
def cycOf (f t a : Int) : Int × Int × Int := if t = 1 then (a / f * f, a / f * f + f, a / f) else cycGo (a + 1).toNat t a 0 f 0
def cycF (f t a : Int) : Int := (cycOf f t a).1
def cycT (f t a : Int) : Int := (cycOf f t a).2.1
def cycN (f t a : Int) : Int := (cycOf f t a).2.2
theorem cycGo_end {k : Nat} {t a lo hi n : Int} (h : ¬ hi ≤ a) : cycGo k t a lo hi n = (lo, hi, n) := by
  cases k with
  | zero => rfl
  | succ k => rw [cycGo, if_neg h]
theorem cycGo_in : ∀ (k : Nat) (t a lo hi n : Int), 1 ≤ t → 0 ≤ lo → lo < hi → lo ≤ a → a < hi + k → a ≤ 1048576 → hi ≤ lo + 1048576 →
    lo ≤ (cycGo k t a lo hi n).1 ∧ (cycGo k t a lo hi n).1 ≤ a ∧ a < (cycGo k t a lo hi n).2.1 ∧ (cycGo k t a lo hi n).2.1 ≤ (cycGo k t a lo hi n).1 + 1048576 := by
  intro k
  induction k with
  | zero => intro t a lo hi n h1 h2 h3 h4 h5 h6 h7; simp only [cycGo]; omega
  | succ k ih =>
    intro t a lo hi n h1 h2 h3 h4 h5 h6 h7
    rw [cycGo]
    split
    · rename_i hc
      have hm : 1 ≤ (hi - lo) * t := by
        have := Int.mul_le_mul (show (1 : Int) ≤ hi - lo by omega) h1 (by omega) (by omega)
        omega
      have := ih t a hi (hi + min ((hi - lo) * t) 1048576) (n + 1) h1 (by omega) (by omega) hc (by omega) h6 (by omega)
      omega
    · simp only; omega
theorem cyc_in {f t a : Int} (hf : 1 ≤ f) (hf' : f ≤ 1048576) (ht : 1 ≤ t) (ha : 0 ≤ a) (ha' : a ≤ 1048576) : 0 ≤ cycF f t a ∧ cycF f t a ≤ a ∧ a < cycT f t a ∧ cycT f t a ≤ cycF f t a + 1048576 := by
  unfold cycF cycT cycOf
  split
  · have h1 := Int.emod_add_mul_ediv a f
    have h2 := Int.emod_nonneg a (show f ≠ 0 by omega)
    have h3 := Int.emod_lt_of_pos a (show 0 < f by omega)
    have h4 : 0 ≤ a / f * f := Int.mul_nonneg (Int.ediv_nonneg ha (by omega)) (by omega)
    rw [Int.mul_comm f] at h1
    simp only; omega
  · exact cycGo_in _ t a 0 f 0 ht (by omega) (by omega) ha (by omega) ha' (by omega)
def bentOk (k a b c : Int) : Prop := (k = 1 ∧ b = 0 ∧ c = 0) ∨ ((k = 2 ∨ k = 5) ∧ (0 ≤ b ∧ b ≤ 4503599627370496) ∧ c = 0) ∨ (k = 3 ∧ (0 ≤ b ∧ b ≤ 4503599627370496) ∧ 1 ≤ c ∧ c ≤ 16) ∨ (k = 4 ∧ (0 ≤ b ∧ b ≤ a) ∧ 0 ≤ c ∧ c ≤ 4294967296)
instance (k a b c : Int) : Decidable (bentOk k a b c) := by unfold bentOk; infer_instance
def curveOk (k a b c : Int) : Prop := (0 ≤ a ∧ a ≤ 4503599627370496) ∧ bentOk k a b c
instance (k a b c : Int) : Decidable (curveOk k a b c) := by unfold curveOk; infer_instance
def shareAt (i n : Int) : Int := if n = 1 then 0 else rne (i * 4294967296) (n - 1)
theorem shareAt_bd {i n : Int} (hi : 0 ≤ i) (hn : i < n) : 0 ≤ shareAt i n ∧ shareAt i n ≤ 4294967296 := by
  unfold shareAt
  split
  · omega
  · exact ⟨rne_nonneg (by omega) (by omega), rne_le (by omega) (by rw [Int.mul_comm]; exact Int.mul_le_mul_of_nonneg_left (by omega) (by decide))⟩
def lerpAt (a b t : Int) : Int := if a ≤ b then a + rne ((b - a) * t) 4294967296 else a - rne ((a - b) * t) 4294967296
theorem lerpAt_bd {a b t : Int} (ht : 0 ≤ t) (ht' : t ≤ 4294967296) : min a b ≤ lerpAt a b t ∧ lerpAt a b t ≤ max a b := by
  unfold lerpAt
  split
  · have r0 : 0 ≤ rne ((b - a) * t) 4294967296 := rne_nonneg (by decide) (Int.mul_nonneg (by omega) ht)
    have r1 : rne ((b - a) * t) 4294967296 ≤ b - a := rne_le (by decide) (Int.mul_le_mul_of_nonneg_left ht' (by omega))
    omega
  · have r0 : 0 ≤ rne ((a - b) * t) 4294967296 := rne_nonneg (by decide) (Int.mul_nonneg (by omega) ht)
    have r1 : rne ((a - b) * t) 4294967296 ≤ a - b := rne_le (by decide) (Int.mul_le_mul_of_nonneg_left ht' (by omega))
    omega
def weightAt (k c t : Int) : Int := if k = 3 then powq (4294967296 - t) c else if k = 5 then waveAt t else 4294967296
theorem weightAt_bd {k c t : Int} (ht : 0 ≤ t) (ht' : t ≤ 4294967296) : 0 ≤ weightAt k c t ∧ weightAt k c t ≤ 4294967296 := by
  unfold weightAt
  split
  · exact powq_bd (by omega) (by omega)
  · split
    · exact waveAt_bd ht ht'
    · omega
def curveAt (k a b c i n : Int) : Int := if k = 4 then max b (mulq a (powq c i)) else if k = 2 then lerpAt a b (shareAt i n) else lerpAt b a (weightAt k c (shareAt i n))
def curveLo (k a b : Int) : Int := if k = 1 then a else min a b
def curveHi (k a b : Int) : Int := if k = 1 then a else max a b
theorem curveAt_bd {k a b c i n : Int} (h : curveOk k a b c) (hi : 0 ≤ i) (hn : i < n) : curveLo k a b ≤ curveAt k a b c i n ∧ curveAt k a b c i n ≤ curveHi k a b := by
  have ht := shareAt_bd hi hn
  obtain ⟨h1, h2⟩ := h
  unfold bentOk at h2
  by_cases h4 : k = 4
  · have hp := powq_bd (x := c) (n := i) (by omega) (by omega)
    have hm := mulq_bd h1.1 hp.1 hp.2
    rw [curveAt, if_pos h4, curveLo, curveHi, if_neg (by omega), if_neg (by omega)]
    omega
  by_cases h3 : k = 2
  · have := lerpAt_bd (a := a) (b := b) ht.1 ht.2
    rw [curveAt, if_neg h4, if_pos h3, curveLo, curveHi, if_neg (by omega), if_neg (by omega)]
    exact this
  · have hw := weightAt_bd (k := k) (c := c) ht.1 ht.2
    have := lerpAt_bd (a := b) (b := a) hw.1 hw.2
    rw [curveAt, if_neg h4, if_neg h3, curveLo, curveHi]
    by_cases h5 : k = 1
    · rw [if_pos h5, if_pos h5]
      have hwe : weightAt k c (shareAt i n) = 4294967296 := by simp [weightAt, h5]
      rw [hwe]
      have hb : b = 0 := by omega
      subst hb
      unfold lerpAt
      have hd : ∀ x : Int, 0 ≤ x → rne (x * 4294967296) 4294967296 = x := fun x hx => Int.le_antisymm (rne_le (by decide) (Int.le_refl _)) (rne_ge (by decide) (Int.le_refl _))
      rw [if_pos h1.1, hd _ (by omega)]; omega
    · rw [if_neg h5, if_neg h5]; omega
end Go.Awp

/- Pieces: a piece's numbers, and when there may be such pieces. -/
namespace Go.Awp
structure SegV where
  fr : Int
  to : Int
  bg : Int
  n : Int
  k : Int
  a : Int
  b : Int
  c : Int
  fi : Int
  ti : Int
def SegV.enc (s : SegV) : AVal := .agg [.int .i64 s.fr, .int .i64 s.to, .int .i64 s.bg, .int .i64 s.n, .int .i64 s.k, .int .i64 s.a, .int .i64 s.b, .int .i64 s.c, .int .i64 s.fi, .int .i64 s.ti]
/-- All its numbers are ints. -/
def SegV.wf (s : SegV) : Prop := (Lit.int .i64 s.fr).wf = true ∧ (Lit.int .i64 s.to).wf = true ∧ (Lit.int .i64 s.bg).wf = true ∧ (Lit.int .i64 s.n).wf = true ∧ (Lit.int .i64 s.k).wf = true ∧ (Lit.int .i64 s.a).wf = true ∧ (Lit.int .i64 s.b).wf = true ∧ (Lit.int .i64 s.c).wf = true ∧ (Lit.int .i64 s.fi).wf = true ∧ (Lit.int .i64 s.ti).wf = true
theorem wf_i64 {n : Int} (h : (Lit.int .i64 n).wf = true) : -9223372036854775808 ≤ n ∧ n < 9223372036854775808 := by
  simp [Lit.wf, IntKind.min, IntKind.max, IntKind.signed, IntKind.bits] at h
  omega
def SegV.ok (s : SegV) : Prop := (0 ≤ s.fr ∧ s.fr < s.to ∧ s.to ≤ 1048576) ∧ (0 ≤ s.bg ∧ s.bg ≤ s.fr) ∧ curveOk s.k s.a s.b s.c ∧
  ((s.fi = 0 ∧ s.ti = 0 ∧ s.to - s.bg ≤ s.n ∧ s.n ≤ 1048576) ∨ (s.fi ≠ 0 ∧ (1 ≤ s.fi ∧ s.fi ≤ 1048576) ∧ (1 ≤ s.ti ∧ s.ti ≤ 16) ∧ s.n = 0))
instance (s : SegV) : Decidable s.ok := by unfold SegV.ok; infer_instance
/-- One behind the other. -/
def segsFrom : List SegV → Prop
  | [] => True
  | [s] => s.ok
  | s :: t :: r => s.ok ∧ s.to = t.fr ∧ segsFrom (t :: r)
def segsOk (l : List SegV) : Prop := l ≠ [] ∧ (∀ s ∈ l, s.ok) ∧ ∀ (i : Nat) (s t : SegV), l[i]? = some s → l[i + 1]? = some t → s.to = t.fr
theorem enc_get {l : List SegV} {i : Nat} {s : SegV} (h : l[i]? = some s) : (l.map SegV.enc).getD i .dead = s.enc := by
  simp [List.getD, h]
/-- The first ones are pieces one behind the other. -/
def segsTo (l : List SegV) (i : Nat) : Prop := (∀ (j : Nat) (s : SegV), j < i → l[j]? = some s → s.ok) ∧ ∀ (j : Nat) (s t : SegV), j + 1 < i → l[j]? = some s → l[j + 1]? = some t → s.to = t.fr
theorem segsTo_zero (l : List SegV) : segsTo l 0 := ⟨fun j s h => by omega, fun j s t h => by omega⟩
theorem segsTo_all (l : List SegV) : segsOk l ↔ l ≠ [] ∧ segsTo l l.length := by
  unfold segsOk segsTo
  constructor
  · rintro ⟨h1, h2, h3⟩
    exact ⟨h1, fun j s _ hs => h2 s (List.mem_of_getElem? hs), fun j s t _ hs ht => h3 j s t hs ht⟩
  · rintro ⟨h1, h2, h3⟩
    refine ⟨h1, fun s hs => ?_, fun i s t hs ht => h3 i s t (List.getElem?_eq_some_iff.1 ht).1 hs ht⟩
    obtain ⟨j, hj, rfl⟩ := List.mem_iff_getElem.1 hs
    exact h2 j _ hj (List.getElem?_eq_getElem hj)
theorem segsTo_succ {l : List SegV} {i : Nat} {s : SegV} (hs : l[i]? = some s) : segsTo l (i + 1) ↔ segsTo l i ∧ s.ok ∧ ∀ (j : Nat) (r : SegV), j + 1 = i → l[j]? = some r → r.to = s.fr := by
  unfold segsTo
  constructor
  · rintro ⟨h1, h2⟩
    exact ⟨⟨fun j r hj hr => h1 j r (by omega) hr, fun j r t hj hr ht => h2 j r t (by omega) hr ht⟩, h1 i s (by omega) hs, fun j r hj hr => h2 j r s (by omega) hr (by rw [hj]; exact hs)⟩
  · rintro ⟨⟨h1, h2⟩, h3, h4⟩
    refine ⟨fun j r hj hr => ?_, fun j r t hj hr ht => ?_⟩
    · by_cases e : j = i
      · subst e; rw [hs] at hr; cases hr; exact h3
      · exact h1 j r (by omega) hr
    · by_cases e : j + 1 = i
      · rw [e, hs] at ht; cases ht; exact h4 j r e hr
      · exact h2 j r t (by omega) hr ht
noncomputable instance (l : List SegV) : Decidable (segsOk l) := Classical.propDecidable _
/-- The least and the greatest of the pieces' bounds. -/
def loGo : Int → List SegV → Int
  | x, [] => x
  | x, s :: r => loGo (min x (curveLo s.k s.a s.b)) r
def hiGo : Int → List SegV → Int
  | x, [] => x
  | x, s :: r => hiGo (max x (curveHi s.k s.a s.b)) r
noncomputable def segsLo (l : List SegV) : Int := if segsOk l then (match l with
  | [] => 0
  | s :: r => loGo (curveLo s.k s.a s.b) (s :: r)) else 0
noncomputable def segsHi (l : List SegV) : Int := if segsOk l then (match l with
  | [] => 0
  | s :: r => hiGo (curveHi s.k s.a s.b) (s :: r)) else 0
/-- How many pieces at the front begin below a step. -/
def below : List SegV → Int → Nat
  | [], _ => 0
  | s :: r, x => if s.fr < x then below r x + 1 else 0
theorem below_le : ∀ (l : List SegV) (x : Int), below l x ≤ l.length
  | [], _ => Nat.le_refl 0
  | s :: r, x => by
    have := below_le r x
    simp only [below]
    split <;> simp <;> omega
theorem below_lt : ∀ {l : List SegV} {x : Int} {i : Nat} {s : SegV}, i < below l x → l[i]? = some s → s.fr < x
  | [], _, _, _, h, _ => by simp [below] at h
  | t :: r, x, i, s, h, hs => by
    simp only [below] at h
    split at h
    · cases i with
      | zero => simp at hs; subst hs; assumption
      | succ i => exact below_lt (l := r) (i := i) (by omega) (by simpa using hs)
    · omega
theorem below_ge {l : List SegV} {x : Int} : ∀ {s : SegV}, l[below l x]? = some s → x ≤ s.fr := by
  induction l with
  | nil => intro s h; simp [below] at h
  | cons t r ih =>
    intro s h
    simp only [below] at h
    split at h
    · exact ih (by simpa using h)
    · simp at h; subst h; omega
theorem below_gt {l : List SegV} {x : Int} {m : Nat} {s : SegV} (hs : ∀ (i j : Nat) (s t : SegV), i < j → l[i]? = some s → l[j]? = some t → s.fr < t.fr) (hm : l[m]? = some s) (h : s.fr < x) : m < below l x := by
  rcases Nat.lt_or_ge m (below l x) with h1 | h1
  · exact h1
  · exfalso
    have hlt : below l x < l.length := by have := (List.getElem?_eq_some_iff.1 hm).1; omega
    obtain ⟨t, ht⟩ : ∃ t, l[below l x]? = some t := ⟨_, List.getElem?_eq_getElem hlt⟩
    have hge := below_ge ht
    rcases Nat.lt_or_ge (below l x) m with h2 | h2
    · have := hs _ _ _ _ h2 ht hm; omega
    · have e : below l x = m := by omega
      rw [e, hm] at ht; cases ht; omega
noncomputable def segsIdx (l : List SegV) (x : Int) : Int := if ∃ s, l[below l x]? = some s ∧ s.fr = x then (below l x : Int) else (below l x : Int) - 1
noncomputable def segsFind (l : List SegV) (x : Int) : Int := if segsIdx l x < 0 then -1 else (match l[(segsIdx l x).toNat]? with
  | some s => if s.to ≤ x then -1 else segsIdx l x
  | none => -1)
def segVal (s : SegV) (x : Int) : Int := if s.fi = 0 then curveAt s.k s.a s.b s.c (x - s.bg) s.n else
  curveAt s.k s.a s.b s.c (x - s.bg - cycF s.fi s.ti (x - s.bg)) (cycT s.fi s.ti (x - s.bg) - cycF s.fi s.ti (x - s.bg))
theorem segsOk_sorted {l : List SegV} (h : segsOk l) : ∀ (i j : Nat) (s t : SegV), i < j → l[i]? = some s → l[j]? = some t → s.fr < t.fr := by
  intro i j
  induction j with
  | zero => intro s t h1; omega
  | succ j ih =>
    intro s t h1 h2 h3
    have hj : j < l.length := by have := (List.getElem?_eq_some_iff.1 h3).1; omega
    obtain ⟨r, hr⟩ : ∃ r, l[j]? = some r := ⟨_, List.getElem?_eq_getElem hj⟩
    have e := h.2.2 j r t hr h3
    have hok := h.2.1 r (List.mem_of_getElem? hr)
    have := hok.1.2.1
    by_cases hij : i = j
    · subst hij; rw [h2] at hr; cases hr; omega
    · have := ih s r (by omega) h2 hr; omega
theorem segsFind_cases {l : List SegV} {x : Int} : segsFind l x = -1 ∨ ∃ (i : Nat) (s : SegV), segsFind l x = i ∧ l[i]? = some s ∧ s.fr ≤ x ∧ x < s.to := by
  unfold segsFind
  split
  · exact .inl rfl
  · rename_i hn
    split
    · rename_i s hs
      split
      · exact .inl rfl
      · rename_i ht
        refine .inr ⟨(segsIdx l x).toNat, s, by omega, hs, ?_, by omega⟩
        by_cases h : ∃ s, l[below l x]? = some s ∧ s.fr = x
        · have e : segsIdx l x = below l x := by simp only [segsIdx, if_pos h]
          obtain ⟨r, h1, h2⟩ := h
          rw [e] at hs
          simp at hs
          rw [h1] at hs; cases hs; omega
        · have e : segsIdx l x = (below l x : Int) - 1 := by simp only [segsIdx, if_neg h]
          have : s.fr < x := below_lt (l := l) (i := (segsIdx l x).toNat) (by omega) hs
          omega
    · exact .inl rfl
noncomputable def segsAtV (l : List SegV) (x : Int) : Int := if segsOk l then (match (if segsFind l x < 0 then none else l[(segsFind l x).toNat]?) with
  | some s => segVal s x
  | none => 0) else 0
noncomputable def segsAtE (l : List SegV) (x : Int) : Int := if segsOk l then (if segsFind l x < 0 then 8 else 0) else 1
noncomputable def segsPlace (l : List SegV) (x : Int) : Int := if segsOk l then segsFind l x else -1
theorem segsAt_in {l : List SegV} {x : Int} {i : Nat} {s : SegV} (h : segsOk l) (hf : segsFind l x = i) (hs : l[i]? = some s) : segsAtV l x = segVal s x ∧ segsAtE l x = 0 := by
  have hn : ¬ (i : Int) < 0 := by omega
  simp [segsAtV, segsAtE, h, hf, hn, hs]
theorem segsAt_out {l : List SegV} {x : Int} (h : segsOk l) (hf : segsFind l x = -1) : segsAtV l x = 0 ∧ segsAtE l x = 8 := by
  simp [segsAtV, segsAtE, h, hf]
/-- Where a step's value is told, it is the value of the piece that has the step. -/
theorem segsAt_ok {l : List SegV} {x : Int} (h : segsAtE l x = 0) : segsOk l ∧ ∃ (i : Nat) (s : SegV), segsFind l x = i ∧ l[i]? = some s ∧ s.fr ≤ x ∧ x < s.to ∧ segsAtV l x = segVal s x := by
  by_cases hok : segsOk l
  · refine ⟨hok, ?_⟩
    rcases segsFind_cases (l := l) (x := x) with hf | ⟨i, s, hf, h1, h2, h3⟩
    · rw [(segsAt_out hok hf).2] at h; omega
    · exact ⟨i, s, hf, h1, h2, h3, (segsAt_in hok hf h1).1⟩
  · simp [segsAtE, hok] at h
theorem segsOk_one (s : SegV) : segsOk [s] ↔ s.ok := by
  unfold segsOk
  constructor
  · exact fun h => h.2.1 s (by simp)
  · refine fun h => ⟨by simp, fun t ht => by simp at ht; subst ht; exact h, fun i a b h1 h2 => ?_⟩
    simp at h2
theorem segsFind_one (s : SegV) (x : Int) : segsFind [s] x = if s.fr ≤ x ∧ x < s.to then 0 else -1 := by
  rcases segsFind_cases (l := [s]) (x := x) with hf | ⟨i, t, hf, h1, h2, h3⟩
  · rw [hf]
    rw [if_neg]
    rintro ⟨h1, h2⟩
    unfold segsFind segsIdx at hf
    by_cases h3 : s.fr = x
    · have hb : below [s] x = 0 := by simp [below, h3]
      simp [hb, h3] at hf
      omega
    · have hb : below [s] x = 1 := by simp [below]; omega
      simp [hb] at hf
      omega
  · have : i = 0 := by have := (List.getElem?_eq_some_iff.1 h1).1; simp at this; omega
    subst this
    simp at h1; subst h1
    rw [hf, if_pos ⟨h2, h3⟩]; rfl
theorem segsAtV_one {s : SegV} {x : Int} (h : s.ok) (h1 : s.fr ≤ x) (h2 : x < s.to) : segsAtV [s] x = segVal s x := by
  have hf := segsFind_one s x
  rw [if_pos ⟨h1, h2⟩] at hf
  exact (segsAt_in (i := 0) ((segsOk_one s).2 h) hf rfl).1
theorem segsAtE_one {s : SegV} {x : Int} (h : s.ok) : segsAtE [s] x = if s.fr ≤ x ∧ x < s.to then 0 else 8 := by
  rw [segsAtE, if_pos ((segsOk_one s).2 h), segsFind_one]
  split <;> simp
/-- A value lies within its pieces' bounds. -/
theorem segVal_bd {s : SegV} {x : Int} (h : s.ok) (h1 : s.fr ≤ x) (h2 : x < s.to) : curveLo s.k s.a s.b ≤ segVal s x ∧ segVal s x ≤ curveHi s.k s.a s.b := by
  obtain ⟨p1, p2, p3, p4⟩ := h
  unfold segVal
  split
  · exact curveAt_bd p3 (by omega) (by omega)
  · have hc := cyc_in (f := s.fi) (t := s.ti) (a := x - s.bg) (by omega) (by omega) (by omega) (by omega) (by omega)
    exact curveAt_bd p3 (by omega) (by omega)
theorem loGo_le : ∀ (l : List SegV) (x : Int), loGo x l ≤ x ∧ ∀ s ∈ l, loGo x l ≤ curveLo s.k s.a s.b
  | [], x => ⟨Int.le_refl _, fun s h => by simp at h⟩
  | t :: r, x => by
    obtain ⟨h1, h2⟩ := loGo_le r (min x (curveLo t.k t.a t.b))
    simp only [loGo]
    refine ⟨by omega, fun s hs => ?_⟩
    rcases List.mem_cons.1 hs with rfl | hs
    · omega
    · exact h2 s hs
theorem hiGo_le : ∀ (l : List SegV) (x : Int), x ≤ hiGo x l ∧ ∀ s ∈ l, curveHi s.k s.a s.b ≤ hiGo x l
  | [], x => ⟨Int.le_refl _, fun s h => by simp at h⟩
  | t :: r, x => by
    obtain ⟨h1, h2⟩ := hiGo_le r (max x (curveHi t.k t.a t.b))
    simp only [hiGo]
    refine ⟨by omega, fun s hs => ?_⟩
    rcases List.mem_cons.1 hs with rfl | hs
    · omega
    · exact h2 s hs
theorem loGo_at : ∀ (l : List SegV) (x : Int), loGo x l = x ∨ ∃ s ∈ l, loGo x l = curveLo s.k s.a s.b
  | [], x => .inl rfl
  | t :: r, x => by
    simp only [loGo]
    rcases loGo_at r (min x (curveLo t.k t.a t.b)) with h | ⟨s, hs, h⟩
    · rcases Int.le_total x (curveLo t.k t.a t.b) with h1 | h1
      · exact .inl (by omega)
      · exact .inr ⟨t, by simp, by omega⟩
    · exact .inr ⟨s, by simp [hs], h⟩
theorem hiGo_at : ∀ (l : List SegV) (x : Int), hiGo x l = x ∨ ∃ s ∈ l, hiGo x l = curveHi s.k s.a s.b
  | [], x => .inl rfl
  | t :: r, x => by
    simp only [hiGo]
    rcases hiGo_at r (max x (curveHi t.k t.a t.b)) with h | ⟨s, hs, h⟩
    · rcases Int.le_total x (curveHi t.k t.a t.b) with h1 | h1
      · exact .inr ⟨t, by simp, by omega⟩
      · exact .inl (by omega)
    · exact .inr ⟨s, by simp [hs], h⟩
/-- The bounds of pieces are met, and held. -/
theorem segsLo_spec {l : List SegV} (h : segsOk l) : (∀ s ∈ l, segsLo l ≤ curveLo s.k s.a s.b) ∧ ∃ s ∈ l, curveLo s.k s.a s.b = segsLo l := by
  cases l with
  | nil => exact absurd rfl h.1
  | cons t r =>
    simp only [segsLo, h, if_true]
    refine ⟨(loGo_le (t :: r) _).2, ?_⟩
    rcases loGo_at (t :: r) (curveLo t.k t.a t.b) with h1 | ⟨s, hs, h1⟩
    · exact ⟨t, by simp, h1.symm⟩
    · exact ⟨s, hs, h1.symm⟩
theorem segsHi_spec {l : List SegV} (h : segsOk l) : (∀ s ∈ l, curveHi s.k s.a s.b ≤ segsHi l) ∧ ∃ s ∈ l, curveHi s.k s.a s.b = segsHi l := by
  cases l with
  | nil => exact absurd rfl h.1
  | cons t r =>
    simp only [segsHi, h, if_true]
    refine ⟨(hiGo_le (t :: r) _).2, ?_⟩
    rcases hiGo_at (t :: r) (curveHi t.k t.a t.b) with h1 | ⟨s, hs, h1⟩
    · exact ⟨t, by simp, h1.symm⟩
    · exact ⟨s, hs, h1.symm⟩
end Go.Awp

/- Plans: a plan's numbers and lists, and when there may be such a plan. -/
namespace Go.Awp
structure SpanV where
  fr : Int
  to : Int
def SpanV.enc (s : SpanV) : AVal := .agg [.int .i64 s.fr, .int .i64 s.to]
structure TrackV where
  gr : Int
  pa : Int
  segs : List SegV
def TrackV.enc (t : TrackV) : AVal := .agg [.int .i64 t.gr, .int .i64 t.pa, .imm 10 (t.segs.map SegV.enc)]
def rowEnc (l : List Bool) : AVal := .imm 1 (l.map AVal.bool)
structure StopV where
  on : Bool
  me : ByteArray
  mx : Bool
  pat : Int
  dl : Int
  rel : Bool
structure PlatV where
  on : Bool
  me : ByteArray
  mx : Bool
  fac : Int
  pat : Int
  cool : Int
  flo : Int
  dl : Int
structure KeepV where
  on : Bool
  me : ByteArray
  mx : Bool
  cnt : Int
structure EmaV where
  on : Bool
  dec : Int
structure PlanV where
  steps : Int
  wei : Int
  met : Int
  gro : Int
  ev : Int
  spans : List SpanV
  fro : List (List Bool)
  tracks : List TrackV
  stop : StopV
  plat : PlatV
  keep : KeepV
  ema : EmaV
  stopOn : Int
  cutOn : Int
  keepOn : Int
  swaF : Int
  swaE : Int
def PlanV.cells (p : PlanV) : List AVal :=
  [.int .i64 p.steps, .int .i64 p.wei, .int .i64 p.met, .int .i64 p.gro, .int .i64 p.ev, .imm 2 (p.spans.map SpanV.enc), .imm 1 (p.fro.map rowEnc), .imm 3 (p.tracks.map TrackV.enc),
    .bool p.stop.on, .str p.stop.me, .bool p.stop.mx, .int .i64 p.stop.pat, .int .i64 p.stop.dl, .bool p.stop.rel,
    .bool p.plat.on, .str p.plat.me, .bool p.plat.mx, .int .i64 p.plat.fac, .int .i64 p.plat.pat, .int .i64 p.plat.cool, .int .i64 p.plat.flo, .int .i64 p.plat.dl,
    .bool p.keep.on, .str p.keep.me, .bool p.keep.mx, .int .i64 p.keep.cnt,
    .bool p.ema.on, .int .i64 p.ema.dec, .int .i64 p.stopOn, .int .i64 p.cutOn, .int .i64 p.keepOn, .int .i64 p.swaF, .int .i64 p.swaE]
def PlanV.enc (p : PlanV) : AVal := .agg p.cells
def i64 (n : Int) : Prop := (Lit.int .i64 n).wf = true
def PlanV.wf (p : PlanV) : Prop := i64 p.steps ∧ i64 p.wei ∧ i64 p.met ∧ i64 p.gro ∧ i64 p.ev ∧ (∀ s ∈ p.spans, i64 s.fr ∧ i64 s.to) ∧ (∀ t ∈ p.tracks, i64 t.gr ∧ i64 t.pa ∧ ∀ s ∈ t.segs, s.wf) ∧
  i64 p.stop.pat ∧ i64 p.stop.dl ∧ i64 p.plat.fac ∧ i64 p.plat.pat ∧ i64 p.plat.cool ∧ i64 p.plat.flo ∧ i64 p.plat.dl ∧ i64 p.keep.cnt ∧ i64 p.ema.dec ∧ i64 p.stopOn ∧ i64 p.cutOn ∧ i64 p.keepOn ∧ i64 p.swaF ∧ i64 p.swaE
/-- The lists are short. -/
def PlanV.light (p : PlanV) : Prop := (∀ t ∈ p.tracks, t.segs.length ≤ 60) ∧ (∀ r ∈ p.fro, r.length ≤ 60) ∧ p.tracks.length ≤ 30 ∧ p.fro.length ≤ 20 ∧ p.spans.length ≤ 20 ∧ p.stop.me.size + p.plat.me.size + p.keep.me.size ≤ 100
def spansGo : Int → List SpanV → Option Int
  | at_, [] => some at_
  | at_, s :: r => if s.fr = at_ ∧ at_ < s.to then spansGo s.to r else none
def spansOk (p : PlanV) : Prop := spansGo 0 p.spans = some p.steps ∧ p.spans.length ≤ 16
def frozenOk (p : PlanV) : Prop := (∀ r ∈ p.fro, (r.length : Int) = p.gro) ∧ p.fro.length = p.spans.length
noncomputable def wholeOk (l : List SegV) (steps : Int) : Bool := decide (segsOk l) && (match l.head?, l.getLast? with
  | some a, some b => decide (a.fr = 0 ∧ b.to = steps)
  | _, _ => false)
def trackOk (p : PlanV) (i : Nat) (t : TrackV) : Prop := t.gr = (i : Int) / 3 ∧ t.pa = (i : Int) % 3 ∧ wholeOk t.segs p.steps = true
def tracksOk (p : PlanV) : Prop := (∀ (i : Nat) (t : TrackV), p.tracks[i]? = some t → trackOk p i t) ∧ (p.tracks.length : Int) = p.gro * 3
def countOk (n : Int) : Prop := 1 ≤ n ∧ n ≤ 1099511627776
def valueOk (n : Int) : Prop := 0 ≤ n ∧ n ≤ 4503599627370496
def seenOk (p : PlanV) (at_ : Int) (me : ByteArray) : Prop := (0 ≤ at_ ∧ at_ < p.met) ∧ me = ByteArray.empty ∧ 0 < p.ev
def StopV.zero (s : StopV) : Prop := s.on = false ∧ s.me = ByteArray.empty ∧ s.mx = false ∧ s.pat = 0 ∧ s.dl = 0 ∧ s.rel = false
def PlatV.zero (s : PlatV) : Prop := s.on = false ∧ s.me = ByteArray.empty ∧ s.mx = false ∧ s.fac = 0 ∧ s.pat = 0 ∧ s.cool = 0 ∧ s.flo = 0 ∧ s.dl = 0
def KeepV.zero (s : KeepV) : Prop := s.on = false ∧ s.me = ByteArray.empty ∧ s.mx = false ∧ s.cnt = 0
def EmaV.zero (s : EmaV) : Prop := s.on = false ∧ s.dec = 0
def stopOk (p : PlanV) : Prop := if p.stopOn = -1 then p.stop.zero else seenOk p p.stopOn p.stop.me ∧ p.stop.on = true ∧ countOk p.stop.pat ∧ valueOk p.stop.dl
def cutOk (p : PlanV) : Prop := if p.cutOn = -1 then p.plat.zero else seenOk p p.cutOn p.plat.me ∧ p.plat.on = true ∧ countOk p.plat.pat ∧ valueOk p.plat.dl ∧ valueOk p.plat.flo ∧ (0 ≤ p.plat.fac ∧ p.plat.fac ≤ 4294967295) ∧ (0 ≤ p.plat.cool ∧ p.plat.cool ≤ 1099511627776)
def keepOk (p : PlanV) : Prop := if p.keepOn = -1 then p.keep.zero else seenOk p p.keepOn p.keep.me ∧ p.keep.on = true ∧ (1 ≤ p.keep.cnt ∧ p.keep.cnt ≤ 16)
def avgOk (p : PlanV) : Prop := (p.ema.zero ∨ p.ema.on = true ∧ 0 ≤ p.ema.dec ∧ p.ema.dec ≤ 4294967296) ∧ (if p.swaE = 0 then p.swaF = 0 else countOk p.swaE ∧ 0 ≤ p.swaF ∧ p.swaF ≤ p.steps)
def PlanV.ok (p : PlanV) : Prop := (1 ≤ p.steps ∧ p.steps ≤ 1000000) ∧ (0 ≤ p.wei ∧ p.wei ≤ 16) ∧ (0 ≤ p.met ∧ p.met ≤ 4) ∧ (1 ≤ p.gro ∧ p.gro ≤ 8) ∧ (0 ≤ p.ev ∧ p.ev ≤ p.steps) ∧ spansOk p ∧ frozenOk p ∧ tracksOk p ∧ stopOk p ∧ cutOk p ∧ keepOk p ∧ avgOk p
noncomputable instance (p : PlanV) : Decidable p.ok := Classical.propDecidable _
noncomputable instance (p : PlanV) : Decidable p.light := Classical.propDecidable _
noncomputable instance (p : PlanV) : Decidable (spansOk p) := Classical.propDecidable _
noncomputable instance (p : PlanV) : Decidable (frozenOk p) := Classical.propDecidable _
noncomputable instance (p : PlanV) : Decidable (tracksOk p) := Classical.propDecidable _
noncomputable instance (p : PlanV) : Decidable (stopOk p) := Classical.propDecidable _
noncomputable instance (p : PlanV) : Decidable (cutOk p) := Classical.propDecidable _
noncomputable instance (p : PlanV) : Decidable (keepOk p) := Classical.propDecidable _
noncomputable instance (p : PlanV) : Decidable (avgOk p) := Classical.propDecidable _
noncomputable instance (p : PlanV) (at_ : Int) (me : ByteArray) : Decidable (seenOk p at_ me) := Classical.propDecidable _
instance (n : Int) : Decidable (countOk n) := by unfold countOk; infer_instance
instance (n : Int) : Decidable (valueOk n) := by unfold valueOk; infer_instance
theorem strEq_eq (a b : ByteArray) : strEq a b = decide (a = b) := by
  rw [Bool.eq_iff_iff]
  simp only [strEq, ByteArray.toList_eq, beq_iff_eq, decide_eq_true_eq]
  exact ⟨fun h => WideShapes.bytes_inj h, fun h => by rw [h]⟩
attribute [simp] strEq_eq
@[simp] theorem beq_bytes (a b : ByteArray) : (a == b) = decide (a = b) := by
  rw [Bool.eq_iff_iff, MapKept.bytes_beq]; simp
@[simp] theorem mk_empty : (⟨#[]⟩ : ByteArray) = ByteArray.empty := rfl
/-- Spans one behind the other. -/
def chain (l : List SpanV) : Prop := (∀ (i : Nat) (s : SpanV), l[i]? = some s → s.fr < s.to) ∧ ∀ (i : Nat) (s t : SpanV), l[i]? = some s → l[i + 1]? = some t → s.to = t.fr
theorem spansGo_iff : ∀ (l : List SpanV) (a e : Int), spansGo a l = some e ↔ chain l ∧ (∀ s, l[0]? = some s → s.fr = a) ∧ ((l = [] ∧ a = e) ∨ ∃ s, l[l.length - 1]? = some s ∧ s.to = e)
  | [], a, e => by simp [spansGo, chain]
  | s :: r, a, e => by
    simp only [spansGo]
    have ih := spansGo_iff r s.to e
    constructor
    · intro h
      split at h
      · rename_i hc
        obtain ⟨⟨h1, h2⟩, h3, h4⟩ := ih.1 h
        refine ⟨⟨fun i t ht => ?_, fun i t u ht hu => ?_⟩, fun t ht => ?_, .inr ?_⟩
        · cases i with
          | zero => simp at ht; subst ht; omega
          | succ i => exact h1 i t (by simpa using ht)
        · cases i with
          | zero => simp at ht; subst ht; exact (h3 u (by simpa using hu)).symm
          | succ i => exact h2 i t u (by simpa using ht) (by simpa using hu)
        · simp at ht; subst ht; exact hc.1
        · rcases h4 with ⟨rfl, h4⟩ | ⟨t, ht, h4⟩
          · exact ⟨s, by simp, h4⟩
          · refine ⟨t, ?_, h4⟩
            have hl : 0 < r.length := by cases r with | nil => simp at ht | cons => simp
            rw [List.length_cons, Nat.add_sub_cancel]
            obtain ⟨k, hk⟩ : ∃ k, r.length = k + 1 := ⟨r.length - 1, by omega⟩
            rw [hk] at ht ⊢; simpa using ht
      · cases h
    · rintro ⟨⟨h1, h2⟩, h3, h4⟩
      have e0 := h3 s (by simp)
      have e1 := h1 0 s (by simp)
      rw [if_pos ⟨e0, by omega⟩, ih]
      refine ⟨⟨fun i t ht => h1 (i + 1) t (by simpa using ht), fun i t u ht hu => h2 (i + 1) t u (by simpa using ht) (by simpa using hu)⟩, fun t ht => (h2 0 s t (by simp) (by simpa using ht)).symm, ?_⟩
      rcases h4 with ⟨h4, _⟩ | ⟨t, ht, h4⟩
      · cases h4
      · cases r with
        | nil => simp at ht; subst ht; exact .inl ⟨rfl, h4⟩
        | cons x r => refine .inr ⟨t, ?_, h4⟩; simpa using ht
/-- What the reference asks of a plan's spans. -/
theorem spansOk_iff {p : PlanV} (hs : 1 ≤ p.steps) : spansOk p ↔ 1 ≤ p.spans.length ∧ p.spans.length ≤ 16 ∧ (∀ s, p.spans[0]? = some s → s.fr = 0) ∧ (∀ s, p.spans[p.spans.length - 1]? = some s → s.to = p.steps) ∧ chain p.spans := by
  unfold spansOk
  rw [spansGo_iff]
  constructor
  · rintro ⟨⟨h1, h2, h3⟩, h4⟩
    rcases h3 with ⟨_, h3⟩ | ⟨s, h3, h5⟩
    · omega
    · refine ⟨?_, h4, h2, fun t ht => by rw [h3] at ht; cases ht; exact h5, h1⟩
      have := (List.getElem?_eq_some_iff.1 h3).1; omega
  · rintro ⟨h1, h2, h3, h4, h5⟩
    refine ⟨⟨h5, h3, .inr ⟨p.spans[p.spans.length - 1], List.getElem?_eq_getElem (by omega), h4 _ (List.getElem?_eq_getElem (by omega))⟩⟩, h2⟩
noncomputable instance (s : StopV) : Decidable s.zero := Classical.propDecidable _
noncomputable instance (s : PlatV) : Decidable s.zero := Classical.propDecidable _
noncomputable instance (s : KeepV) : Decidable s.zero := Classical.propDecidable _
noncomputable instance (s : EmaV) : Decidable s.zero := Classical.propDecidable _
@[simp] theorem stop_eqA (s : StopV) : eqA [.bool s.on, .str s.me, .bool s.mx, .int .i64 s.pat, .int .i64 s.dl, .bool s.rel] [.bool false, .str ByteArray.empty, .bool false, .int .i64 0, .int .i64 0, .bool false] = decide s.zero := by
  rw [Bool.eq_iff_iff, decide_eq_true_eq]; simp [eqA, eqC, StopV.zero]
@[simp] theorem plat_eqA (s : PlatV) : eqA [.bool s.on, .str s.me, .bool s.mx, .int .i64 s.fac, .int .i64 s.pat, .int .i64 s.cool, .int .i64 s.flo, .int .i64 s.dl] [.bool false, .str ByteArray.empty, .bool false, .int .i64 0, .int .i64 0, .int .i64 0, .int .i64 0, .int .i64 0] = decide s.zero := by
  rw [Bool.eq_iff_iff, decide_eq_true_eq]; simp [eqA, eqC, PlatV.zero]
@[simp] theorem keep_eqA (s : KeepV) : eqA [.bool s.on, .str s.me, .bool s.mx, .int .i64 s.cnt] [.bool false, .str ByteArray.empty, .bool false, .int .i64 0] = decide s.zero := by
  rw [Bool.eq_iff_iff, decide_eq_true_eq]; simp [eqA, eqC, KeepV.zero]
@[simp] theorem ema_eqA (s : EmaV) : eqA [.bool s.on, .int .i64 s.dec] [.bool false, .int .i64 0] = decide s.zero := by
  rw [Bool.eq_iff_iff, decide_eq_true_eq]; simp [eqA, eqC, EmaV.zero]
theorem wholeOk_one {s : SegV} {n : Int} (h : s.ok) (h1 : s.fr = 0) (h2 : s.to = n) : wholeOk [s] n = true := by
  simp [wholeOk, (segsOk_one s).2 h, h1, h2]
/-- One group's three tracks of one piece. -/
theorem tracksOk_three {p : PlanV} {s : SegV} (hg : p.gro = 1) (ht : p.tracks = [⟨0, 0, [s]⟩, ⟨0, 1, [s]⟩, ⟨0, 2, [s]⟩]) (h : s.ok) (h1 : s.fr = 0) (h2 : s.to = p.steps) : tracksOk p := by
  refine ⟨fun i t hi => ?_, by rw [ht, hg]; rfl⟩
  rw [ht] at hi
  match i, hi with
  | 0, hi => simp at hi; subst hi; exact ⟨rfl, rfl, wholeOk_one h h1 h2⟩
  | 1, hi => simp at hi; subst hi; exact ⟨rfl, rfl, wholeOk_one h h1 h2⟩
  | 2, hi => simp at hi; subst hi; exact ⟨rfl, rfl, wholeOk_one h h1 h2⟩
  | i + 3, hi => simp at hi
def noStop : StopV := ⟨false, ByteArray.empty, false, 0, 0, false⟩
def noPlat : PlatV := ⟨false, ByteArray.empty, false, 0, 0, 0, 0, 0⟩
def noKeep : KeepV := ⟨false, ByteArray.empty, false, 0⟩
/-- A small plan of one group and one phase. -/
def small (n wei met ev : Int) (s : SegV) : PlanV := ⟨n, wei, met, 1, ev, [⟨0, n⟩], [[false]], [⟨0, 0, [s]⟩, ⟨0, 1, [s]⟩, ⟨0, 2, [s]⟩], noStop, noPlat, noKeep, ⟨false, 0⟩, -1, -1, -1, 0, 0⟩
theorem small_ok {n wei met ev : Int} {s : SegV} (hn : 1 ≤ n ∧ n ≤ 1000000) (hw : 0 ≤ wei ∧ wei ≤ 16) (hm : 0 ≤ met ∧ met ≤ 4) (he : 0 ≤ ev ∧ ev ≤ n) (h : s.ok) (h1 : s.fr = 0) (h2 : s.to = n) : (small n wei met ev s).ok := by
  refine ⟨hn, hw, hm, by simp [small], he, ⟨?_, by simp [small]⟩, ⟨by simp [small], by simp [small]⟩, tracksOk_three rfl rfl h h1 h2, ?_, ?_, ?_, ?_, ?_⟩
  · simp [small, spansGo]; omega
  · simp [stopOk, small, noStop, StopV.zero]
  · simp [cutOk, small, noPlat, PlatV.zero]
  · simp [keepOk, small, noKeep, KeepV.zero]
  · exact .inl ⟨rfl, rfl⟩
  · simp [small]
theorem small_light {n wei met ev : Int} {s : SegV} : (small n wei met ev s).light := by
  refine ⟨fun t ht => ?_, fun r hr => ?_, by simp [small], by simp [small], by simp [small], by simp [small, noStop, noPlat, noKeep]⟩
  · simp [small] at ht; rcases ht with rfl | rfl | rfl <;> simp
  · simp [small] at hr; subst hr; simp
theorem i64_of {n : Int} (h0 : -9223372036854775808 ≤ n) (h1 : n < 9223372036854775808) : i64 n := by
  unfold i64; simp [Lit.wf, IntKind.min, IntKind.max, IntKind.signed, IntKind.bits]; omega
theorem small_wf {n wei met ev : Int} {s : SegV} (hn : 1 ≤ n ∧ n ≤ 1000000) (hw : 0 ≤ wei ∧ wei ≤ 16) (hm : 0 ≤ met ∧ met ≤ 4) (he : 0 ≤ ev ∧ ev ≤ n) (h : s.wf) : (small n wei met ev s).wf := by
  have z : ∀ m : Int, -1 ≤ m → m ≤ 1000000 → i64 m := fun m a b => i64_of (by omega) (by omega)
  have h0 := z 0 (by omega) (by omega)
  have h1 := z (-1) (by omega) (by omega)
  refine ⟨z n (by omega) (by omega), z wei (by omega) (by omega), z met (by omega) (by omega), z 1 (by omega) (by omega), z ev (by omega) (by omega), fun t ht => ?_, fun t ht => ?_, h0, h0, h0, h0, h0, h0, h0, h0, h0, h1, h1, h1, h0, h0⟩
  · simp [small] at ht; subst ht; exact ⟨h0, z n (by omega) (by omega)⟩
  · simp [small] at ht; rcases ht with rfl | rfl | rfl
    · exact ⟨h0, h0, fun s hs => by simp at hs; subst hs; exact h⟩
    · exact ⟨h0, z 1 (by omega) (by omega), fun s hs => by simp at hs; subst hs; exact h⟩
    · exact ⟨h0, z 2 (by omega) (by omega), fun s hs => by simp at hs; subst hs; exact h⟩
end Go.Awp

/- States of runs: a state's numbers and lists, and when there may be such a state. -/
namespace Go.Awp
structure WatchV where
  has : Bool
  best : Int
  bad : Int
structure CutV where
  w : WatchV
  rest : Int
  scale : Int
structure KeptV where
  st : Int
  val : Int
def KeptV.enc (k : KeptV) : AVal := .agg [.int .i64 k.st, .int .i64 k.val]
structure StateV where
  step : Int
  status : Int
  ended : Int
  stop : WatchV
  cut : CutV
  kept : List KeptV
  ema : List Int
  cnt : Int
  sums : List Int
def WatchV.cells (w : WatchV) : List AVal := [.bool w.has, .int .i64 w.best, .int .i64 w.bad]
def CutV.cells (c : CutV) : List AVal := [.bool c.w.has, .int .i64 c.w.best, .int .i64 c.w.bad, .int .i64 c.rest, .int .i64 c.scale]
def StateV.cells (s : StateV) : List AVal := [.int .i64 s.step, .int .i64 s.status, .int .i64 s.ended, .bool s.stop.has, .int .i64 s.stop.best, .int .i64 s.stop.bad,
  .bool s.cut.w.has, .int .i64 s.cut.w.best, .int .i64 s.cut.w.bad, .int .i64 s.cut.rest, .int .i64 s.cut.scale, .imm 2 (s.kept.map KeptV.enc), .imm 1 (s.ema.map (AVal.int .i64)), .int .i64 s.cnt, .imm 1 (s.sums.map (AVal.int .i64))]
def WatchV.enc (w : WatchV) : AVal := .agg w.cells
def CutV.enc (c : CutV) : AVal := .agg c.cells
def StateV.enc (s : StateV) : AVal := .agg s.cells
def StateV.wf (s : StateV) : Prop := i64 s.step ∧ i64 s.status ∧ i64 s.ended ∧ i64 s.stop.best ∧ i64 s.stop.bad ∧ i64 s.cut.w.best ∧ i64 s.cut.w.bad ∧ i64 s.cut.rest ∧ i64 s.cut.scale ∧ (∀ k ∈ s.kept, i64 k.st ∧ i64 k.val) ∧ (∀ x ∈ s.ema, i64 x) ∧ i64 s.cnt ∧ ∀ x ∈ s.sums, i64 x
def StateV.light (s : StateV) : Prop := s.kept.length ≤ 30 ∧ s.ema.length ≤ 30 ∧ s.sums.length ≤ 30
noncomputable instance (s : StateV) : Decidable s.light := Classical.propDecidable _
def WatchV.zero (w : WatchV) : Prop := w.has = false ∧ w.best = 0 ∧ w.bad = 0
instance (w : WatchV) : Decidable w.zero := by unfold WatchV.zero; infer_instance
def CutV.new (c : CutV) : Prop := c.w.zero ∧ c.rest = 0 ∧ c.scale = 4294967296
instance (c : CutV) : Decidable c.new := by unfold CutV.new; infer_instance
def takenS (s : StateV) : Int := if s.status = 3 then IntKind.i64.wrap (s.step - 1) else s.step
def sumsN (p : PlanV) (n : Int) : Int := if p.swaE < 1 ∨ p.swaF < 0 ∨ n ≤ p.swaF then 0 else (n - 1 - p.swaF) / p.swaE + 1
def looksN (p : PlanV) (n : Int) : Int := n / p.ev
def swaAt (p : PlanV) (i : Int) : Prop := 0 < p.swaE ∧ p.swaF ≤ i ∧ (i - p.swaF) % p.swaE = 0
def lookAt (p : PlanV) (i : Int) : Prop := 0 < p.ev ∧ i % p.ev = p.ev - 1
instance (p : PlanV) (i : Int) : Decidable (swaAt p i) := by unfold swaAt; infer_instance
instance (p : PlanV) (i : Int) : Decidable (lookAt p i) := by unfold lookAt; infer_instance
def outOk (p : PlanV) (s : StateV) : Prop := 0 ≤ p.stopOn ∧ 1 ≤ p.stop.pat ∧ p.stop.pat ≤ s.stop.bad
instance (p : PlanV) (s : StateV) : Decidable (outOk p s) := by unfold outOk; infer_instance
def endOk (p : PlanV) (s : StateV) : Prop := (1 ≤ s.step ∧ s.step ≤ p.steps) ∧ s.ended = s.step - 1
instance (p : PlanV) (s : StateV) : Decidable (endOk p s) := by unfold endOk; infer_instance
def failOk (p : PlanV) (s : StateV) : Prop := 0 < p.swaE ∧ p.swaF < s.step - 1 ∧ (s.step - 1 - p.swaF) % p.swaE = 0
instance (p : PlanV) (s : StateV) : Decidable (failOk p s) := by unfold failOk; infer_instance
def statusOk (p : PlanV) (s : StateV) : Prop := (s.status = 0 ∧ (0 ≤ s.step ∧ s.step < p.steps) ∧ s.ended = 0 ∧ ¬ outOk p s) ∨ (s.status = 1 ∧ endOk p s ∧ s.step = p.steps ∧ ¬ outOk p s) ∨
  (s.status = 2 ∧ endOk p s ∧ outOk p s ∧ s.step % p.ev = 0) ∨ (s.status = 3 ∧ endOk p s ∧ ¬ outOk p s ∧ failOk p s)
instance (p : PlanV) (s : StateV) : Decidable (statusOk p s) := by unfold statusOk; infer_instance
def watchOk (w : WatchV) (looks : Int) : Prop := if w.has = false then w.best = 0 ∧ w.bad = 0 else 0 ≤ w.bad ∧ w.bad < looks ∧ w.bad ≤ 1099511627776
instance (w : WatchV) (n : Int) : Decidable (watchOk w n) := by unfold watchOk; infer_instance
def platOk (c : CutV) : Prop := (c.w.has = true ∨ c.w.best = 0 ∧ c.w.bad = 0) ∧ (0 ≤ c.rest ∧ c.rest ≤ 1099511627776) ∧ (0 ≤ c.w.bad ∧ c.w.bad ≤ 1099511627776) ∧ 0 ≤ c.scale ∧ c.scale ≤ 4294967296
instance (c : CutV) : Decidable (platOk c) := by unfold platOk; infer_instance
def stopSOk (p : PlanV) (s : StateV) : Prop := if p.stopOn < 0 then s.stop.zero else watchOk s.stop (looksN p (takenS s))
instance (p : PlanV) (s : StateV) : Decidable (stopSOk p s) := by unfold stopSOk; infer_instance
def cutSOk (p : PlanV) (s : StateV) : Prop := if p.cutOn < 0 then s.cut.new else platOk s.cut ∧ watchOk s.cut.w (looksN p (takenS s)) ∧ s.cut.w.bad < p.plat.pat ∧ s.cut.rest ≤ p.plat.cool
instance (p : PlanV) (s : StateV) : Decidable (cutSOk p s) := by unfold cutSOk; infer_instance
def aheadV (most : Bool) (a b : KeptV) : Prop := if most = true then b.val < a.val else a.val < b.val
instance (most : Bool) (a b : KeptV) : Decidable (aheadV most a b) := by unfold aheadV; infer_instance
/-- Kept steps: none twice, in order, not too many. -/
def bestOk (l : List KeptV) (count : Int) (most : Bool) : Prop := (∀ (i j : Nat) (a b : KeptV), i < j → l[i]? = some a → l[j]? = some b → a.st ≠ b.st) ∧
  (∀ (i : Nat) (a b : KeptV), l[i]? = some a → l[i + 1]? = some b → ¬ aheadV most b a ∧ ¬ (b.val = a.val ∧ b.st < a.st)) ∧ (l.length : Int) ≤ count
noncomputable instance (l : List KeptV) (n : Int) (b : Bool) : Decidable (bestOk l n b) := Classical.propDecidable _
def keptOk (p : PlanV) (s : StateV) : Prop := if p.keepOn < 0 then s.kept = [] else (s.kept.length : Int) ≤ looksN p (takenS s) ∧ bestOk s.kept p.keep.cnt p.keep.mx ∧ ∀ k ∈ s.kept, (0 ≤ k.st ∧ k.st < takenS s) ∧ (k.st + 1) % p.ev = 0
noncomputable instance (p : PlanV) (s : StateV) : Decidable (keptOk p s) := Classical.propDecidable _
def longN (p : PlanV) (b : Bool) : Int := if b = true then p.wei else 0
def avgSOk (p : PlanV) (s : StateV) : Prop := (s.ema.length : Int) = longN p (p.ema.on && decide (0 < takenS s)) ∧ s.cnt = sumsN p (takenS s) ∧ (s.sums.length : Int) = longN p (decide (0 < sumsN p (takenS s)))
instance (p : PlanV) (s : StateV) : Decidable (avgSOk p s) := by unfold avgSOk; infer_instance
def stateOk (p : PlanV) (s : StateV) : Prop := p.ok ∧ statusOk p s ∧ stopSOk p s ∧ cutSOk p s ∧ keptOk p s ∧ avgSOk p s
noncomputable instance (p : PlanV) (s : StateV) : Decidable (stateOk p s) := Classical.propDecidable _
@[simp] theorem watch_eqA (s : WatchV) : eqA [.bool s.has, .int .i64 s.best, .int .i64 s.bad] [.bool false, .int .i64 0, .int .i64 0] = decide s.zero := by
  rw [Bool.eq_iff_iff, decide_eq_true_eq]; simp [eqA, eqC, WatchV.zero]
@[simp] theorem cut_eqA (s : CutV) : eqA [.bool s.w.has, .int .i64 s.w.best, .int .i64 s.w.bad, .int .i64 s.rest, .int .i64 s.scale] [.bool false, .int .i64 0, .int .i64 0, .int .i64 0, .int .i64 4294967296] = decide s.new := by
  rw [Bool.eq_iff_iff, decide_eq_true_eq]; simp [eqA, eqC, CutV.new, WatchV.zero]; exact ⟨fun ⟨a, b, c, d, e⟩ => ⟨⟨a, b, c⟩, d, e⟩, fun ⟨⟨a, b, c⟩, d, e⟩ => ⟨a, b, c, d, e⟩⟩
/-- One more step: one more sum, where it is one of Swa. -/
theorem sumsN_succ {p : PlanV} {n : Int} (h0 : 0 ≤ p.swaF) : sumsN p (n + 1) = sumsN p n + if swaAt p n then 1 else 0 := by
  unfold sumsN
  by_cases h1 : p.swaE < 1
  · rw [if_pos (.inl h1), if_pos (.inl h1), if_neg (fun h : swaAt p n => by have := h.1; omega)]; omega
  · by_cases h2 : n + 1 ≤ p.swaF
    · rw [if_pos (.inr (.inr h2)), if_pos (.inr (.inr (by omega))), if_neg (fun h : swaAt p n => by have := h.2.1; omega)]; omega
    · rw [if_neg (by omega)]
      by_cases h3 : n ≤ p.swaF
      · have : n = p.swaF := by omega
        subst this
        rw [if_pos (.inr (.inr h3)), if_pos (show swaAt p p.swaF from ⟨by omega, by omega, by rw [Int.sub_self]; exact Int.zero_emod _⟩)]
        have : p.swaF + 1 - 1 - p.swaF = 0 := by omega
        rw [this, Int.zero_ediv]
      · rw [if_neg (by omega)]
        have he : 0 < p.swaE := by omega
        have e1 : n + 1 - 1 - p.swaF = n - p.swaF := by omega
        have e2 : n - 1 - p.swaF = n - p.swaF - 1 := by omega
        rw [e1, e2]
        have hswa : swaAt p n ↔ (n - p.swaF) % p.swaE = 0 := ⟨fun h => h.2.2, fun h => ⟨he, by omega, h⟩⟩
        generalize n - p.swaF = d at *
        have hd := Int.mul_ediv_add_emod d p.swaE
        have hr0 := Int.emod_nonneg d (by omega : p.swaE ≠ 0)
        have hr1 := Int.emod_lt_of_pos d he
        by_cases hr : d % p.swaE = 0
        · have hq : (d - 1) / p.swaE = d / p.swaE - 1 := by
            have h := Int.add_mul_ediv_right (p.swaE - 1) (d / p.swaE - 1) (by omega : p.swaE ≠ 0)
            have hc : d / p.swaE * p.swaE = p.swaE * (d / p.swaE) := Int.mul_comm _ _
            have e3 : p.swaE - 1 + (d / p.swaE - 1) * p.swaE = d - 1 := by
              rw [Int.sub_mul]; omega
            rw [e3, Int.ediv_eq_zero_of_lt (a := p.swaE - 1) (b := p.swaE) (by omega) (by omega)] at h
            omega
          rw [if_pos (hswa.2 hr), hq]; omega
        · have hq : (d - 1) / p.swaE = d / p.swaE := by
            have h := Int.add_mul_ediv_right (d % p.swaE - 1) (d / p.swaE) (by omega : p.swaE ≠ 0)
            have hc : d / p.swaE * p.swaE = p.swaE * (d / p.swaE) := Int.mul_comm _ _
            have e3 : d % p.swaE - 1 + (d / p.swaE) * p.swaE = d - 1 := by omega
            rw [e3, Int.ediv_eq_zero_of_lt (a := d % p.swaE - 1) (b := p.swaE) (by omega) (by omega)] at h
            omega
          rw [if_neg (fun h => hr (hswa.1 h)), hq]; omega
theorem looksN_succ {p : PlanV} {n : Int} (h0 : 0 ≤ p.ev) : looksN p (n + 1) = looksN p n + if lookAt p n then 1 else 0 := by
  unfold looksN
  by_cases h1 : p.ev = 0
  · simp [h1, lookAt]
  · have he : 0 < p.ev := by omega
    have hd := Int.mul_ediv_add_emod n p.ev
    have hr0 := Int.emod_nonneg n (by omega : p.ev ≠ 0)
    have hr1 := Int.emod_lt_of_pos n he
    by_cases hr : n % p.ev = p.ev - 1
    · have h := Int.add_mul_ediv_right 0 (n / p.ev + 1) (by omega : p.ev ≠ 0)
      have e3 : 0 + (n / p.ev + 1) * p.ev = n + 1 := by
        have hc : n / p.ev * p.ev = p.ev * (n / p.ev) := Int.mul_comm _ _
        rw [Int.add_mul]; omega
      rw [e3, Int.zero_ediv] at h
      rw [if_pos (show lookAt p n from ⟨he, hr⟩)]; omega
    · have h := Int.add_mul_ediv_right (n % p.ev + 1) (n / p.ev) (by omega : p.ev ≠ 0)
      have e3 : n % p.ev + 1 + (n / p.ev) * p.ev = n + 1 := by
        have hc : n / p.ev * p.ev = p.ev * (n / p.ev) := Int.mul_comm _ _
        omega
      rw [e3, Int.ediv_eq_zero_of_lt (a := n % p.ev + 1) (b := p.ev) (by omega) (by omega)] at h
      rw [if_neg (fun h : lookAt p n => hr h.2)]; omega
noncomputable instance (a b : StateV) : Decidable (a = b) := Classical.propDecidable _
noncomputable instance (a b : List KeptV) : Decidable (a = b) := Classical.propDecidable _
/-- Lists of one length that agree at each place are the same. -/
theorem list_same {α : Type} {a b : List α} (hl : a.length = b.length) (h : ∀ j, j < a.length → a[j]? = b[j]?) : a = b := by
  refine List.ext_getElem? fun j => ?_
  by_cases hj : j < a.length
  · exact h j hj
  · rw [List.getElem?_eq_none (by omega), List.getElem?_eq_none (by omega)]
theorem list_step {α : Type} {a b : List α} {i : Nat} {x : α} (h : ∀ j, j < i → a[j]? = b[j]?) (ha : a[i]? = some x) (hb : b[i]? = some x) : ∀ j, j < i + 1 → a[j]? = b[j]? := fun j hj => by
  by_cases e : j = i
  · subst e; rw [ha, hb]
  · exact h j (by omega)
noncomputable instance (a b : WatchV) : Decidable (a = b) := Classical.propDecidable _
noncomputable instance (a b : CutV) : Decidable (a = b) := Classical.propDecidable _
@[simp] theorem watch_eqA2 (a b : WatchV) : eqA [.bool a.has, .int .i64 a.best, .int .i64 a.bad] [.bool b.has, .int .i64 b.best, .int .i64 b.bad] = decide (a = b) := by
  obtain ⟨a1, a2, a3⟩ := a
  obtain ⟨b1, b2, b3⟩ := b
  rw [Bool.eq_iff_iff, decide_eq_true_eq]; simp [eqA, eqC]
@[simp] theorem cut_eqA2 (a b : CutV) : eqA [.bool a.w.has, .int .i64 a.w.best, .int .i64 a.w.bad, .int .i64 a.rest, .int .i64 a.scale] [.bool b.w.has, .int .i64 b.w.best, .int .i64 b.w.bad, .int .i64 b.rest, .int .i64 b.scale] = decide (a = b) := by
  obtain ⟨⟨a1, a2, a3⟩, a4, a5⟩ := a
  obtain ⟨⟨b1, b2, b3⟩, b4, b5⟩ := b
  rw [Bool.eq_iff_iff, decide_eq_true_eq]; simp [eqA, eqC]
  exact ⟨fun ⟨a, b, c, d, e⟩ => ⟨⟨a, b, c⟩, d, e⟩, fun ⟨⟨a, b, c⟩, d, e⟩ => ⟨a, b, c, d, e⟩⟩
theorem state_ext {a b : StateV} (h1 : a.step = b.step) (h2 : a.status = b.status) (h3 : a.ended = b.ended) (h4 : a.stop = b.stop) (h5 : a.cut = b.cut) (h6 : a.kept = b.kept) (h7 : a.ema = b.ema) (h8 : a.cnt = b.cnt) (h9 : a.sums = b.sums) : a = b := by
  cases a; cases b; simp_all
/-- A state at first. -/
def newS : StateV := ⟨0, 0, 0, ⟨false, 0, 0⟩, ⟨⟨false, 0, 0⟩, 0, 4294967296⟩, [], [], 0, []⟩
end Go.Awp

/- The steps of the walk, as rules. -/
namespace Go.Awp
attribute [simp] rg_none rg_cut List.idxOf_cons g_draw2 g_draw3 dA_nil dA_op dA_mk dA_mk' dA_ef dA_rd dA_ef0 dA_n dA_e dA_q dA_fin kAl kAllocAt kBuildSliceAt hasAl alOf efOf wOf wIds idA ovr lf_exit lf_ret g_end g_skip g_seq g_cond g_true g_false g_region g_nil g_op g_guard g_next g_block g_blk g_exit g_ret g_exit_code g_exit_ops g_exit_blk g_ret_code g_ret_ops g_ret_blk g_draw g_draw1 d_nil d_op d_guard d_fin d_next d_nextq kG1 g2_tt g2_ff g2_tf g2_ft g2_tup kDR kDG1 dg2_tt dg2_ff dg2_tf dg2_ft dg2_tup lp_exit lp_ret kop kopQ rdIds AVal.blkId St.enter St.ev lk St.put ofVal ofVal0 kPick pickA kAlloc kBox partA kLoad spliceA spliceRow AVal.cells AVal.okCells AVal.closed AVal.closedC kStore kFieldAddr kField kIndexAddr kIndex kExtract kUn kConv kNilCheck kBin kBinInt kBinStr kLen kMin bnd kSlice fillA kBuild okRow kBuildSlice kMake kAppend rowsOf kBuiltin kBuiltinQ gdst kRet kRes resV EndIs AVal.view AVal.viewL AVal.cl AVal.clL lfOk eqC IntKind.bits IntKind.signed kLookup kMakeMap mpAt mpKey mpZero kMapUpdate kMapEntry kEntryStore kDelete mpGet mpSet mpStore mpDel lkRes lkVal AVal.isAgg Wk_nils Wk_nilimm Wk_agg Wk_tup Wk_imm Wk_bool Wk_int Wk_str Wk_nil Wk_ptr Wk_sl Wk_fn Wk_nilfn Wk_nilif Wk_mp Wk_nilm Wk_ept Wk_ifc WkL_nil WkL_cons frzL frzB AVal.slIds AVal.slIdsL
@[simp] theorem range_eq2 : ([0, 1] = List.range 2) = True := eq_true rfl
@[simp] theorem range_eq3 : ([0, 1, 2] = List.range 3) = True := eq_true rfl
@[simp] theorem range_eq4 : ([0, 1, 2, 3] = List.range 4) = True := eq_true rfl
@[simp] theorem range_eq5 : ([0, 1, 2, 3, 4] = List.range 5) = True := eq_true rfl
@[simp] theorem range_eq6 : ([0, 1, 2, 3, 4, 5] = List.range 6) = True := eq_true rfl
@[simp] theorem range_eq7 : ([0, 1, 2, 3, 4, 5, 6] = List.range 7) = True := eq_true rfl
@[simp] theorem range_eq8 : ([0, 1, 2, 3, 4, 5, 6, 7] = List.range 8) = True := eq_true rfl
@[simp] theorem range_eq9 : ([0, 1, 2, 3, 4, 5, 6, 7, 8] = List.range 9) = True := eq_true rfl
@[simp] theorem range_eq10 : ([0, 1, 2, 3, 4, 5, 6, 7, 8, 9] = List.range 10) = True := eq_true rfl
@[simp] theorem range_eq11 : ([0, 1, 2, 3, 4, 5, 6, 7, 8, 9, 10] = List.range 11) = True := eq_true rfl
@[simp] theorem range_eq12 : ([0, 1, 2, 3, 4, 5, 6, 7, 8, 9, 10, 11] = List.range 12) = True := eq_true rfl
@[simp] theorem range_eq13 : ([0, 1, 2, 3, 4, 5, 6, 7, 8, 9, 10, 11, 12] = List.range 13) = True := eq_true rfl
end Go.Awp
