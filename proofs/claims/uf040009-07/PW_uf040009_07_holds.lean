import PyProof.Rows.All
import Wide.All
import OpenK.AllK
import Wide.FinOn
import PyProof.P3Statements
import PyProof.Lay0
import PyProof.Fits
import PySem.Entry
import PyProof.Rows.CellsFrame
import PyProof.Rows.RowHeap
import PyProof.Rows.Top
import PyProof.WalksMore
import PyProof.CompFree
import PyProof.Boot
import PyProof.TupleOps
import PyProof.ListOps
import PyProof.SeqRoads2
import PyProof.PureInt
import PyProof.Rows.RuleB_floordiv
import PyProof.Rows.RuleB_mod
import PyProof.Rows.RuleB_small
import PyProof.P3Eq
import PyProof.NeData
import PyProof.IsRules
import PyProof.ListIndexNeg
import PyProof.SliceList
import PyProof.SliceMore
import PyProof.Rows.StrTemp
import PyProof.Rows.TupSub
import PyProof.Rows.Own
import PyProof.Rules3
import PyProof.IsiPairs
import PyProof.IsiHeapPairs
import PyProof.IsiNone
import PyProof.WalkInts
import PyProof.SumWalkG
import PyProof.SeqI3
import PyProof.ListCopy
import PyProof.TupleOfSeq
import PyProof.TupleCall
import PyProof.Conv_int_bool
import PyProof.Rows.RuleN_abs
import PyProof.Rows.Lst
import PyProof.Rows.CallKwBuiltin
import PyProof.EnumMake
import PyProof.WalksEnum
import PyProof.RangeFor
import KE.KSliceW
import PyProof.CallRoads
import PyProof.Rows.TupMore
import PyProof.FactsAll.list_0
import PyProof.FactsAll.list_3
import KE.KItem
import PyProof.RulesTry
import Wide.Head
import PyProof.Rows.IntMath
import PyProof.Rows.Walk
import Open.Pieces
import PySem.Challenge.RW_uf040009_07

namespace Mine
section
set_option Elab.async false
set_option genInjectivity false
set_option genSizeOfSpec false
open PySem

/-- what is known of a list that a value is: nothing to rely on, new (nobody else holds it), or the frame's own list in a slot -/
inductive Tag where
  | old
  | fresh
  | var (i : Nat)
noncomputable def Tag.isVar : Tag → Bool
  | .var _ => true
  | _ => false

inductive Slot where
  | un
  | fz (d : PyData)
  | ow (l : List PyData)
abbrev Rho := List Slot

inductive Bi where
  | len | abs | sum | tuple | list | max1 | max1d | max2 | min2 | int | index
  | isi (t : String)
inductive IK where
  | plain | range | enum

inductive PE where
  | const (d : PyData)
  | var (i : Nat)
  | bin (op : Operator) (a b : PE)
  | neg (a : PE)
  | not (a : PE)
  | and (a b : PE)
  | or (a b : PE)
  | cmp (op : CmpOp) (a b : PE)
  | cmp2 (op op2 : CmpOp) (a b c : PE)
  | tup (l : List PE)
  | lst (l : List PE)
  | sub (a i : PE)
  | slice (a : PE) (lo hi : Option PE)
  | call (f : Str) (l : List PE)
  | bi (b : Bi) (l : List PE)
  | idx (i : Nat) (a : PE)
  | comp (elt : PE) (nt : Nat) (ik : IK) (it : PE) (cond : List PE) (caps : List Nat)

inductive PS where
  | assign (i : Nat) (own : Bool) (e : PE)
  | unpack (is : List Nat) (e : PE)
  | swap (i j : Nat) (a b : PE)
  | store (i : Nat) (ix e : PE)
  | app (i : Nat) (e : PE)
  | ex (e : PE)
  | ite (c : PE) (a b : List PS)
  | whl (c : PE) (b : List PS)
  | for (tg : List Nat) (ik : IK) (it : PE) (b : List PS)
  | ret (e : PE)

structure Fn where
  np : Nat
  ns : Nat
  body : List PS

abbrev Table := Str → Option Fn

inductive Out where
  | next (ρ : Rho)
  | ret (d : PyData) (t : Tag)

noncomputable def isInstP (t : String) (d : PyData) : Option Bool :=
  match t with
  | "int" => some (match d with | .int _ => true | .bool _ => true | _ => false)
  | "bool" => some (match d with | .bool _ => true | _ => false)
  | "tuple" => some (match d with | .tuple _ => true | _ => false)
  | "list" => some (match d with | .list _ => true | _ => false)
  | "str" => some (match d with | .str _ => true | _ => false)
  | _ => none

mutual
/-- no list anywhere in it -/
noncomputable def noL : PyData → Bool
  | .none | .bool _ | .int _ | .str _ => true
  | .tuple l => noLs l
  | .list _ => false
  | .dict _ => false
noncomputable def noLs : List PyData → Bool
  | [] => true
  | d :: r => noL d && noLs r
end
noncomputable def noList (d : PyData) : Bool := noL d

noncomputable def intsOf : List PyData → Option (List Int)
  | [] => some []
  | .int i :: r => (intsOf r).map (i :: ·)
  | _ :: _ => none

noncomputable def shapedP (d : PyData) : Bool := d.canLay0 && decide (d.depth ≤ 64)

/-! what a value is -/
noncomputable def onInt (d : PyData) (P : Int → Prop) : Prop := match d with
  | .int i => P i
  | _ => False
noncomputable def onBool (d : PyData) (P : Bool → Prop) : Prop := match d with
  | .bool i => P i
  | _ => False
noncomputable def onList (d : PyData) (P : List PyData → Prop) : Prop := match d with
  | .list i => P i
  | _ => False
noncomputable def onTuple (d : PyData) (P : List PyData → Prop) : Prop := match d with
  | .tuple i => P i
  | _ => False
noncomputable def onSeq (d : PyData) (P : List PyData → Prop) : Prop := match d with
  | .list i => P i
  | .tuple i => P i
  | _ => False
theorem onInt_of {d : PyData} {P : Int → Prop} (h : onInt d P) : ∃ i, d = .int i ∧ P i := by
  cases d with
  | int i => exact ⟨i, rfl, h⟩
  | _ => exact h.elim
theorem onBool_of {d : PyData} {P : Bool → Prop} (h : onBool d P) : ∃ i, d = .bool i ∧ P i := by
  cases d with
  | bool i => exact ⟨i, rfl, h⟩
  | _ => exact h.elim
theorem onList_of {d : PyData} {P : List PyData → Prop} (h : onList d P) : ∃ i, d = .list i ∧ P i := by
  cases d with
  | list i => exact ⟨i, rfl, h⟩
  | _ => exact h.elim
theorem onTuple_of {d : PyData} {P : List PyData → Prop} (h : onTuple d P) : ∃ i, d = .tuple i ∧ P i := by
  cases d with
  | tuple i => exact ⟨i, rfl, h⟩
  | _ => exact h.elim
theorem onSeq_of {d : PyData} {P : List PyData → Prop} (h : onSeq d P) : (∃ i, d = .list i ∧ P i) ∨ (∃ i, d = .tuple i ∧ P i) := by
  cases d with
  | list i => exact .inl ⟨i, rfl, h⟩
  | tuple i => exact .inr ⟨i, rfl, h⟩
  | _ => exact h.elim
noncomputable def onSome {α : Type} (o : Option α) (P : α → Prop) : Prop := match o with
  | some a => P a
  | none => False
theorem onSome_of {α : Type} {o : Option α} {P : α → Prop} (h : onSome o P) : ∃ a, o = some a ∧ P a := by
  cases o with
  | some a => exact ⟨a, rfl, h⟩
  | none => exact h.elim

noncomputable def addP (x y : PyData) (Q : PyData → Tag → Prop) : Prop :=
  match x with
  | .int i => onInt y fun j => Q (.int (i + j)) .old
  | .list a => onList y fun b => a.length + b.length ≤ sizeLine ∧ Q (.list (a ++ b)) .fresh
  | .tuple a => onTuple y fun b => a.length + b.length ≤ sizeLine ∧ Q (.tuple (a ++ b)) .old
  | _ => False
noncomputable def binP (op : Operator) (x y : PyData) (Q : PyData → Tag → Prop) : Prop :=
  match op with
  | .Add => addP x y Q
  | .Sub => onInt x fun i => onInt y fun j => Q (.int (i - j)) .old
  | .Mult => onInt x fun i => onInt y fun j => IntMulOk i j ∧ Q (.int (i * j)) .old
  | .FloorDiv => onInt x fun i => onInt y fun j => (j ≠ 0 ∧ j.natAbs.log2 < 9000) ∧ Q (.int (i.fdiv j)) .old
  | .Mod => onInt x fun i => onInt y fun j => j ≠ 0 ∧ Q (.int (i.fmod j)) .old
  | .Pow => onInt x fun i => onInt y fun j => (0 ≤ j ∧ j ≤ 1000000 ∧ i.natAbs < 2 ^ 64) ∧ Q (.int (i ^ j.toNat)) .old
  | _ => False

noncomputable def memP (x : PyData) (y : PyData) (Q : Bool → Prop) : Prop :=
  onInt x fun i => onSeq y fun l => ∃ ns, intsOf l = some ns ∧ Q (ns.contains i)

noncomputable def isP (x y : PyData) : Option Bool :=
  match y with
  | .none => some (match x with | .none => true | _ => false)
  | _ => none

noncomputable def cmpP (op : CmpOp) (x y : PyData) (Q : Bool → Prop) : Prop :=
  match op with
  | .Lt => onInt x fun i => onInt y fun j => Q (decide (i < j))
  | .LtE => onInt x fun i => onInt y fun j => Q (decide (i ≤ j))
  | .Gt => onInt x fun i => onInt y fun j => Q (decide (j < i))
  | .GtE => onInt x fun i => onInt y fun j => Q (decide (j ≤ i))
  | .Eq => (shapedP x = true ∧ shapedP y = true) ∧ Q (PyData.eqv x y)
  | .NotEq => (shapedP x = true ∧ shapedP y = true) ∧ Q (!PyData.eqv x y)
  | .Is => onSome (isP x y) Q
  | .IsNot => onSome (isP x y) fun b => Q (!b)
  | .In => memP x y Q
  | .NotIn => memP x y fun b => Q (!b)

noncomputable def brP (d : PyData) (P R : Prop) : Prop := onBool d fun b => (b = true → P) ∧ (b = false → R)

noncomputable def subP (x i : PyData) (Q : PyData → Tag → Prop) : Prop :=
  onSeq x fun l => onInt i fun k => ∃ j d, seqIndex? k l.length = some j ∧ l[j]? = some d ∧ (-(2 ^ 63) ≤ k ∧ k < 2 ^ 63) ∧ Q d .old

noncomputable def boundP (o : Option PyData) (Q : Option Nat → Prop) : Prop :=
  match o with
  | none => Q none
  | some (.int k) => (0 ≤ k ∧ k < 2 ^ 62) ∧ Q (some k.toNat)
  | some _ => False
noncomputable def cut {α : Type} (l : List α) (lo hi : Option Nat) : List α := (match hi with | some h => l.take h | none => l).drop (lo.getD 0)
noncomputable def sliceP (x : PyData) (lo hi : Option PyData) (Q : PyData → Tag → Prop) : Prop :=
  boundP lo fun a => boundP hi fun b =>
    match x with
    | .list l => l.length ≤ sizeLine ∧ Q (.list (cut l a b)) .fresh
    | .tuple l => l.length ≤ sizeLine ∧ Q (.tuple (cut l a b)) .old
    | _ => False

noncomputable def maxL : Int → List Int → Int
  | a, [] => a
  | a, b :: r => maxL (if a < b then b else a) r

noncomputable def idxOf (i : Int) : List Int → Option Nat
  | [] => none
  | a :: r => if a == i then some 0 else (idxOf i r).map (· + 1)

noncomputable def one1 (l : List (PyData × Tag)) (P : PyData → Prop) : Prop := match l with
  | [] => False
  | x :: r => (match r with
    | [] => P x.1
    | _ :: _ => False)
noncomputable def two2 (l : List (PyData × Tag)) (P : PyData → PyData → Prop) : Prop := match l with
  | [] => False
  | x :: r => one1 r fun y => P x.1 y
noncomputable def maxD (ns : List Int) : PyData := match ns with
  | [] => .none
  | a :: r => .int (maxL a r)
noncomputable def biP (b : Bi) (l : List (PyData × Tag)) (Q : PyData → Tag → Prop) : Prop :=
  match b with
  | .len => one1 l fun d => onSeq d fun x => x.length ≤ sizeLine ∧ Q (.int x.length) .old
  | .abs => one1 l fun d => onInt d fun i => Q (.int i.natAbs) .old
  | .sum => one1 l fun d => onSeq d fun x => ∃ ns, intsOf x = some ns ∧ Q (.int ns.sum) .old
  | .tuple => one1 l fun d => onSeq d fun x => x.length ≤ sizeLine ∧ Q (.tuple x) .old
  | .list => one1 l fun d => onSeq d fun x => x.length ≤ sizeLine ∧ Q (.list x) .fresh
  | .max1 => one1 l fun d => onList d fun x => ∃ a r, intsOf x = some (a :: r) ∧ Q (.int (maxL a r)) .old
  | .max1d => one1 l fun d => onList d fun x => ∃ ns, intsOf x = some ns ∧ Q (maxD ns) .old
  | .max2 => two2 l fun x y => onInt x fun i => onInt y fun j => Q (.int (if i < j then j else i)) .old
  | .min2 => two2 l fun x y => onInt x fun i => onInt y fun j => Q (.int (if j < i then j else i)) .old
  | .int => one1 l fun d => onBool d fun b => Q (.int (if b then 1 else 0)) .old
  | .index => False
  | .isi t => one1 l fun d => onSome (isInstP t d) fun b => Q (.bool b) .old

noncomputable def itemsP (ik : IK) (d : PyData) (Q : List PyData → Prop) : Prop :=
  match ik with
  | .plain => onSeq d fun l => l.length ≤ sizeLine ∧ Q l
  | .range => onInt d fun n => (-(2 ^ 62) ≤ n ∧ n ≤ 1000000) ∧ Q ((List.range n.toNat).map fun (i : Nat) => .int i)
  | .enum => onSeq d fun l => l.length ≤ sizeLine ∧ Q (l.zipIdx.map fun (d, i) => .tuple [.int (i : Nat), d])

/-- one item bound to the names of a loop's head -/
noncomputable def parts (nt : Nat) (d : PyData) : Option (List PyData) :=
  if nt = 1 then some [d] else match d with
    | .tuple l => if l.length = nt then some l else none
    | _ => none

noncomputable def setAll : Rho → List Nat → List PyData → Rho
  | ρ, i :: is, d :: ds => setAll (ρ.set i (.fz d)) is ds
  | ρ, _, _ => ρ

noncomputable def capsOf (ρ : Rho) : List Nat → Option Rho
  | [] => some []
  | i :: r => match ρ[i]? with
    | some (.fz d) => (capsOf ρ r).map (.fz d :: ·)
    | _ => none

abbrev EvE := Rho → PE → (PyData → Tag → Prop) → Prop
abbrev EvS := PS → Rho → (Out → Prop) → Prop

noncomputable def evs (ev : PE → (PyData → Tag → Prop) → Prop) : List PE → (List (PyData × Tag) → Prop) → Prop
  | [], Q => Q []
  | e :: r, Q => ev e fun d t => evs ev r fun l => Q ((d, t) :: l)

noncomputable def evo (ev : PE → (PyData → Tag → Prop) → Prop) : Option PE → (Option PyData → Prop) → Prop
  | none, Q => Q none
  | some e, Q => ev e fun d _ => Q (some d)

noncomputable def blk (S : EvS) : List PS → Rho → (Out → Prop) → Prop
  | [], ρ, Q => Q (.next ρ)
  | st :: r, ρ, Q => S st ρ fun o => match o with
    | .next ρ' => blk S r ρ' Q
    | .ret d t => Q (.ret d t)

noncomputable def conds (ev : PE → (PyData → Tag → Prop) → Prop) : List PE → Prop → Prop → Prop
  | [], P, _ => P
  | c :: r, P, R => ev c fun d _ => brP d (conds ev r P R) R

noncomputable def compGo (E : EvE) (nt : Nat) (cs : Rho) (elt : PE) (cond : List PE) : List PyData → (List PyData → Prop) → Prop
  | [], Q => Q []
  | d :: r, Q => ∃ ps, parts nt d = some ps ∧
      conds (E (ps.map Slot.fz ++ cs)) cond
        (E (ps.map Slot.fz ++ cs) elt fun y t => t.isVar = false ∧ compGo E nt cs elt cond r fun l => Q (y :: l))
        (compGo E nt cs elt cond r Q)

noncomputable def forGo (S : EvS) (tg : List Nat) (b : List PS) : List PyData → Rho → (Out → Prop) → Prop
  | [], ρ, Q => Q (.next ρ)
  | d :: r, ρ, Q => ∃ ps, parts tg.length d = some ps ∧ blk S b (setAll ρ tg ps) fun o => match o with
    | .next ρ' => forGo S tg b r ρ' Q
    | .ret d t => Q (.ret d t)

noncomputable def whlGo (E : EvE) (S : EvS) (c : PE) (b : List PS) : Nat → Rho → (Out → Prop) → Prop
  | 0, _, _ => False
  | k + 1, ρ, Q => E ρ c fun d _ => brP d
      (blk S b ρ fun o => match o with
        | .next ρ' => whlGo E S c b k ρ' Q
        | .ret d t => Q (.ret d t))
      (Q (.next ρ))

noncomputable def callP (S : EvS) (fn : Fn) (vs : List PyData) (Q : PyData → Tag → Prop) : Prop :=
  vs.length = fn.np ∧ blk S fn.body (vs.map Slot.fz ++ List.replicate (fn.ns - fn.np) Slot.un) fun o => match o with
    | .next _ => Q .none .old
    | .ret d .old => Q d .old
    | .ret d _ => Q d .fresh

structure Lv where
  E : EvE
  S : EvS

noncomputable def stepE (T : Table) (v : Lv) (ρ : Rho) (e : PE) (Q : PyData → Tag → Prop) : Prop :=
  match e with
  | .const d => Q d .old
  | .var i => (match ρ[i]? with
      | some (.fz d) => Q d .old
      | some (.ow l) => Q (.list l) (.var i)
      | _ => False)
  | .bin op a b => v.E ρ a fun x _ => v.E ρ b fun y _ => binP op x y Q
  | .neg a => v.E ρ a fun x _ => onInt x fun i => Q (.int (-i)) .old
  | .not a => v.E ρ a fun x _ => onBool x fun b => Q (.bool (!b)) .old
  | .and a b => v.E ρ a fun x _ => brP x (v.E ρ b Q) (Q (.bool false) .old)
  | .or a b => v.E ρ a fun x _ => brP x (Q (.bool true) .old) (v.E ρ b Q)
  | .cmp op a b => v.E ρ a fun x _ => v.E ρ b fun y _ => cmpP op x y fun b => Q (.bool b) .old
  | .cmp2 op op2 a b c => v.E ρ a fun x _ => v.E ρ b fun y _ => cmpP op x y fun r =>
      brP (.bool r) (v.E ρ c fun z _ => cmpP op2 y z fun b => Q (.bool b) .old) (Q (.bool false) .old)
  | .tup l => evs (v.E ρ) l fun r => (r.all fun x => !x.2.isVar) = true ∧ r.length ≤ sizeLine ∧ Q (.tuple (r.map (·.1))) .old
  | .lst l => evs (v.E ρ) l fun r => (r.all fun x => !x.2.isVar) = true ∧ r.length ≤ sizeLine ∧ Q (.list (r.map (·.1))) .fresh
  | .sub a i => v.E ρ a fun x _ => v.E ρ i fun y _ => subP x y Q
  | .slice a lo hi => v.E ρ a fun x _ => evo (v.E ρ) lo fun l => evo (v.E ρ) hi fun h => sliceP x l h Q
  | .call f l => ∃ fn, T f = some fn ∧ evs (v.E ρ) l fun r => callP v.S fn (r.map (·.1)) fun d t =>
      ((r.any fun x => x.2.isVar) = true → noList d = true) ∧ Q d t
  | .bi b l => evs (v.E ρ) l fun r => biP b r Q
  | .idx i a => (match ρ[i]? with
      | some (.fz (.list l)) | some (.ow l) => v.E ρ a fun y _ => ∃ j ns k, y = .int j ∧ intsOf l = some ns ∧ idxOf j ns = some k ∧ l.length ≤ sizeLine ∧ Q (.int (k : Nat)) .old
      | _ => False)
  | .comp elt nt ik it cond caps => ∃ cs, capsOf ρ caps = some cs ∧ v.E ρ it fun d _ => itemsP ik d fun items =>
      compGo v.E nt cs elt cond items fun l => Q (.list l) .fresh

/-- a list of the frame's own that is given back is one that a slot owns -/
noncomputable def retOk (ρ : Rho) : Tag → Prop
  | .var i => (match ρ[i]? with | some (.ow _) => True | _ => False)
  | _ => True

noncomputable def stepS (v : Lv) (st : PS) (ρ : Rho) (Q : Out → Prop) : Prop :=
  match st with
  | .assign i own e => v.E ρ e fun d t => (match t, own, d with
      | .var _, _, _ => False
      | .fresh, true, .list l => Q (.next (ρ.set i (.ow l)))
      | _, _, d => Q (.next (ρ.set i (.fz d))))
  | .unpack is e => v.E ρ e fun d t => t.isVar = false ∧ ∃ ps, parts is.length d = some ps ∧ Q (.next (setAll ρ is ps))
  | .swap i j a b => v.E ρ a fun x t => v.E ρ b fun y u => t.isVar = false ∧ u.isVar = false ∧ Q (.next ((ρ.set i (.fz x)).set j (.fz y)))
  | .store i ix e => (match ρ[i]? with
      | some (.ow l) => v.E ρ e fun d t => v.E ρ ix fun k _ => t.isVar = false ∧ onInt k fun k => ∃ j, seqIndex? k l.length = some j ∧ (-(2 ^ 63) ≤ k ∧ k < 2 ^ 63) ∧ Q (.next (ρ.set i (.ow (l.set j d))))
      | _ => False)
  | .app i e => (match ρ[i]? with
      | some (.ow l) => v.E ρ e fun d t => t.isVar = false ∧ l.length < sizeLine ∧ Q (.next (ρ.set i (.ow (l ++ [d]))))
      | _ => False)
  | .ex e => v.E ρ e fun d _ => (match d with | .none => Q (.next ρ) | _ => False)
  | .ite c a b => v.E ρ c fun d _ => brP d (blk v.S a ρ Q) (blk v.S b ρ Q)
  | .whl c b => ∃ k, whlGo v.E v.S c b k ρ Q
  | .for tg ik it b => v.E ρ it fun d t => t.isVar = false ∧ itemsP ik d fun items => forGo v.S tg b items ρ Q
  | .ret e => v.E ρ e fun d t => retOk ρ t ∧ Q (.ret d t)

noncomputable def lev (T : Table) : Nat → Lv
  | 0 => ⟨fun _ _ _ => False, fun _ _ _ => False⟩
  | n + 1 => ⟨stepE T (lev T n), stepS (lev T n)⟩
end

section
set_option Elab.async false
set_option genInjectivity false
set_option genSizeOfSpec false
open PySem

/-- the names that the top binds, and which of them are whole numbers -/
structure Fs where
  ns : List Str
  li : List (Str × Int)
noncomputable def Fs.contains (f : Fs) (x : Str) : Bool := f.ns.contains x

structure Cx where
  fs : Fs
  muts : List Str
  scope : Scope
  nms : List Str

noncomputable def slotOf (nms : List Str) (x : Str) : Option Nat := nms.findIdx? (· == x)
noncomputable def Cx.glob (cx : Cx) (x : Str) : Bool := cx.scope.names.lookup x == some .globalImplicit
noncomputable def Cx.isFn (cx : Cx) (x : Str) : Bool := cx.glob x && cx.fs.contains x && !(x == Str.ofString "__debug__")
/-- a built-in's name, read as such -/
noncomputable def Cx.isBi (cx : Cx) (x : Str) (n : Str) : Bool := x == n && cx.glob x && !cx.fs.contains x

noncomputable def gd {α : Type} (b : Bool) (x : Option α) : Option α := match b with
  | true => x
  | false => none
theorem gd_some {α : Type} {b : Bool} {x : Option α} {a : α} (h : gd b x = some a) : b = true ∧ x = some a := by
  cases b with
  | true => exact ⟨rfl, h⟩
  | false => cases h
theorem bind_some {α β : Type} {x : Option α} {f : α → Option β} {b : β} (h : x.bind f = some b) : ∃ a, x = some a ∧ f a = some b := Option.bind_eq_some_iff.mp h

noncomputable def one? {α : Type} : List α → Option α
  | [] => none
  | a :: r => (match r with
    | [] => some a
    | _ :: _ => none)
theorem one?_some {α : Type} {l : List α} {a : α} (h : one? l = some a) : l = [a] := by
  match l, h with
  | [_], h => cases h; rfl
noncomputable def two? {α : Type} : List α → Option (α × α)
  | [] => none
  | a :: r => (one? r).bind fun b => some (a, b)
theorem two?_some {α : Type} {l : List α} {a : α × α} (h : two? l = some a) : l = [a.1, a.2] := by
  match l, h with
  | a :: r, h =>
    obtain ⟨b, h1, h2⟩ := bind_some h
    cases h2
    rw [one?_some h1]
theorem nil_of {α : Type} {l : List α} (h : l.isEmpty = true) : l = [] := List.isEmpty_iff.mp h

/-- what an expression is, so far as it matters here -/
inductive EK where
  | const (c : Const)
  | name (x : Str)
  | bin (l : Expr) (op : Operator) (r : Expr)
  | un (op : UnaryOp) (x : Expr)
  | bool (op : BoolOp) (l : List Expr)
  | cmp (l : Expr) (ops : List CmpOp) (rs : List Expr)
  | tup (es : List Expr)
  | lst (es : List Expr)
  | sub (v i : Expr)
  | slice (lo hi st : Option Expr)
  | call (fn : Expr) (args : List Expr) (kws : List Keyword) (pos : Pos)
  | attr (o : Expr) (m : Str) (ap : Pos)
  | comp (elt : Expr) (gens : List Comprehension) (sc : Scope)
  | star
  | other
noncomputable def view : Expr → EK
  | .Constant c _ _ => .const c
  | .Name x _ => .name x
  | .BinOp l op r _ => .bin l op r
  | .UnaryOp op x _ => .un op x
  | .BoolOp op l _ => .bool op l
  | .Compare l ops rs _ => .cmp l ops rs
  | .Tuple es _ _ => .tup es
  | .List es _ => .lst es
  | .Subscript v i _ => .sub v i
  | .Slice lo hi st _ => .slice lo hi st
  | .Call fn args kws pos => .call fn args kws pos
  | .Attribute o m ap => .attr o m ap
  | .ListComp elt gens sc _ => .comp elt gens sc
  | .Starred _ _ => .star
  | _ => .other
noncomputable def EK.Is (e : Expr) : EK → Prop
  | .const c => ∃ k p, e = .Constant c k p
  | .name x => ∃ p, e = .Name x p
  | .bin l op r => ∃ p, e = .BinOp l op r p
  | .un op x => ∃ p, e = .UnaryOp op x p
  | .bool op l => ∃ p, e = .BoolOp op l p
  | .cmp l ops rs => ∃ p, e = .Compare l ops rs p
  | .tup es => ∃ k p, e = .Tuple es k p
  | .lst es => ∃ p, e = .List es p
  | .sub v i => ∃ p, e = .Subscript v i p
  | .slice lo hi st => ∃ p, e = .Slice lo hi st p
  | .call fn args kws pos => e = .Call fn args kws pos
  | .attr o m ap => e = .Attribute o m ap
  | .comp elt gens sc => ∃ p, e = .ListComp elt gens sc p
  | .star => True
  | .other => True
theorem view_is (e : Expr) : (view e).Is e := by cases e <;> first | exact trivial | exact rfl | exact ⟨_, rfl⟩ | exact ⟨_, _, rfl⟩

noncomputable def EK.name? : EK → Option Str
  | .name x => some x
  | _ => none
noncomputable def asName (e : Expr) : Option Str := (view e).name?
theorem asName_some {e : Expr} {x : Str} (h : asName e = some x) : ∃ p, e = .Name x p := by
  have hv := view_is e
  unfold asName at h
  generalize view e = v at h hv
  cases v with
  | name y => cases h; exact hv
  | _ => cases h
noncomputable def EK.star? : EK → Bool
  | .star => true
  | _ => false
noncomputable def isStar (e : Expr) : Bool := (view e).star?
theorem isStar_no {e : Expr} (h : isStar e = false) : ∀ a b, e ≠ .Starred a b := fun a b q => by subst q; cases h
noncomputable def EK.slice? : EK → Option (Option Expr × Option Expr × Option Expr)
  | .slice lo hi st => some (lo, hi, st)
  | _ => none
noncomputable def asSlice (e : Expr) : Option (Option Expr × Option Expr × Option Expr) := (view e).slice?
theorem asSlice_some {e : Expr} {x : Option Expr × Option Expr × Option Expr} (h : asSlice e = some x) : ∃ p, e = .Slice x.1 x.2.1 x.2.2 p := by
  have hv := view_is e
  unfold asSlice at h
  generalize view e = v at h hv
  cases v with
  | slice lo hi st => cases h; exact hv
  | _ => cases h
theorem asSlice_none {e : Expr} (h : asSlice e = none) : ∀ a b c d, e ≠ .Slice a b c d := fun a b c d q => by subst q; cases h
noncomputable def EK.tuple? : EK → Option (List Expr)
  | .tup es => some es
  | _ => none
noncomputable def asTuple (e : Expr) : Option (List Expr) := (view e).tuple?
theorem asTuple_some {e : Expr} {x : List Expr} (h : asTuple e = some x) : ∃ k p, e = .Tuple x k p := by
  have hv := view_is e
  unfold asTuple at h
  generalize view e = v at h hv
  cases v with
  | tup y => cases h; exact hv
  | _ => cases h
theorem asTuple_none {e : Expr} (h : asTuple e = none) : ∀ a b c, e ≠ .Tuple a b c := fun a b c q => by subst q; cases h
noncomputable def EK.none? : EK → Bool
  | .const c => (match c with | .none => true | _ => false)
  | _ => false
noncomputable def asNone (e : Expr) : Bool := (view e).none?
theorem asNone_some {e : Expr} (h : asNone e = true) : ∃ k p, e = .Constant .none k p := by
  have hv := view_is e
  unfold asNone at h
  generalize view e = v at h hv
  cases v with
  | const c => cases c with
    | none => exact hv
    | _ => cases h
  | _ => cases h
noncomputable def EK.callOne : EK → Option (Str × Expr)
  | .call fn args kws _ => gd kws.isEmpty ((one? args).bind fun e => (asName fn).bind fun f => some (f, e))
  | _ => none
/-- a call of a name with one argument -/
noncomputable def callOne (e : Expr) : Option (Str × Expr) := (view e).callOne
theorem callOne_some {e : Expr} {x : Str × Expr} (h : callOne e = some x) : ∃ p pos, e = .Call (.Name x.1 p) [x.2] [] pos := by
  have hv := view_is e
  unfold callOne at h
  generalize view e = v at h hv
  cases v with
  | call fn args kws pos =>
    obtain ⟨h0, h1⟩ := gd_some h
    obtain ⟨e1, h2, h3⟩ := bind_some h1
    obtain ⟨f, h4, h5⟩ := bind_some h3
    obtain ⟨p, rfl⟩ := asName_some h4
    cases h5
    rw [nil_of h0, one?_some h2] at hv
    exact ⟨p, pos, hv⟩
  | _ => cases h

noncomputable def cList (f : Expr → Option PE) : List Expr → Option (List PE)
  | [] => some []
  | e :: r => gd (!isStar e) ((f e).bind fun a => (cList f r).bind fun b => some (a :: b))
noncomputable def cOpt (f : Expr → Option PE) : Option Expr → Option (Option PE)
  | none => some none
  | some e => (f e).map some
noncomputable def mkBool : BoolOp → PE → PE → PE
  | .And, a, b => .and a b
  | .Or, a, b => .or a b
noncomputable def cBool (f : Expr → Option PE) (op : BoolOp) : List Expr → Option PE
  | [] => none
  | e :: r => (match r with
    | [] => f e
    | _ :: _ => (f e).bind fun a => (cBool f op r).bind fun b => some (mkBool op a b))

noncomputable def namesOf : List Expr → Option (List Str)
  | [] => some []
  | e :: r => (asName e).bind fun x => (namesOf r).bind fun l => some (x :: l)
/-- the names of a loop's head: one, or two and more in a tuple -/
noncomputable def targetOf (e : Expr) : Option (List Str) :=
  match asTuple e with
  | some es => gd (decide (2 ≤ es.length)) (namesOf es)
  | none => (asName e).bind fun x => some [x]

noncomputable def freeOf : List (Str × NameKind) → List Str
  | [] => []
  | (x, .free) :: r => x :: freeOf r
  | _ :: r => freeOf r
noncomputable def slotsOf (nms : List Str) : List Str → Option (List Nat)
  | [] => some []
  | x :: r => (slotOf nms x).bind fun i => (slotsOf nms r).bind fun l => some (i :: l)

noncomputable def okName (x : Str) : Bool := !(x == Str.ofString "__debug__") && !(x == Str.ofString "__classdict__")

noncomputable def distinct : List Str → Bool
  | [] => true
  | x :: r => !r.contains x && distinct r

/-- a comprehension's table is what the rules ask: its heads' names local, no cell, each name once -/
noncomputable def compScope (out sc : Scope) (tg : List Str) : Bool :=
  (sc.kind == .function) && (sc.names.all fun x => x.2 == .local || x.2 == .free || x.2 == .globalImplicit) && distinct (sc.names.map (·.1)) &&
  (tg.all fun x => sc.names.lookup x == some .local) && distinct tg && tg.all okName && (freeOf sc.names).all okName && (freeOf sc.names).all fun x => out.names.lookup x == some .cell

noncomputable def iterOf (cx : Cx) (e : Expr) : IK × Expr :=
  match callOne e with
  | some x => if cx.isBi x.1 (Str.ofString "range") then (.range, x.2) else if cx.isBi x.1 (Str.ofString "enumerate") then (.enum, x.2) else (.plain, e)
  | none => (.plain, e)

/-- pairs that enumerate gives are taken apart in the head -/
noncomputable def headOk : IK → List Str → Bool
  | .enum, tg => tg.length == 2
  | _, _ => true

noncomputable def biTab : List (String × Bi) := [("len", .len), ("abs", .abs), ("sum", .sum), ("tuple", .tuple), ("list", .list), ("int", .int), ("max", .max1)]
noncomputable def biTab2 : List (String × Bi) := [("max", .max2), ("min", .min2)]
noncomputable def inTab (cx : Cx) (f : Str) (p : String × Bi) : Option Bi := gd (cx.isBi f (Str.ofString p.1)) (some p.2)
noncomputable def biName (cx : Cx) (f : Str) : Option Bi := biTab.findSome? (inTab cx f)
noncomputable def biName2 (cx : Cx) (f : Str) : Option Bi := biTab2.findSome? (inTab cx f)
noncomputable def typeTab : List String := ["int", "bool", "tuple", "list", "str"]
noncomputable def typeName (cx : Cx) (f : Str) : Option String := typeTab.find? fun t => cx.isBi f (Str.ofString t)

noncomputable def cSub (f : Expr → Option PE) (v i : Expr) : Option PE :=
  match asSlice i with
  | some x => gd x.2.2.isNone ((f v).bind fun a => (cOpt f x.1).bind fun l => (cOpt f x.2.1).bind fun h => some (.slice a l h))
  | none => (f v).bind fun a => (f i).bind fun b => some (.sub a b)
noncomputable def cCmp (f : Expr → Option PE) (l : Expr) (ops : List CmpOp) (rs : List Expr) : Option PE :=
  match one? ops with
  | some op => (one? rs).bind fun r => gd (!behindInMarks op r) ((f l).bind fun a => (f r).bind fun b => some (.cmp op a b))
  | none => none
noncomputable def cBi (cx : Cx) (f : Expr → Option PE) (g : Str) (args : List Expr) : Option PE :=
  match one? args with
  | some e => (biName cx g).bind fun b => (f e).bind fun a => some (.bi b [a])
  | none => (two? args).bind fun e => (match cx.isBi g (Str.ofString "isinstance") with
      | true => (asName e.2).bind fun t => (typeName cx t).bind fun b => (f e.1).bind fun a => some (.bi (.isi b) [a])
      | false => (biName2 cx g).bind fun b => (f e.1).bind fun a => (f e.2).bind fun c => some (.bi b [a, c]))
noncomputable def cCallN (cx : Cx) (f : Expr → Option PE) (g : Str) (args : List Expr) (kws : List Keyword) : Option PE :=
  match kws.isEmpty with
  | true => (match cx.isFn g && !args.isEmpty with
      | true => (cList f args).map (.call g)
      | false => cBi cx f g args)
  | false => (one? kws).bind fun kw => (one? args).bind fun e =>
      gd (cx.isBi g (Str.ofString "max") && decide (kw.arg = some (Str.ofString "default")) && asNone kw.value) ((f e).map fun a => .bi .max1d [a])
noncomputable def cCallA (cx : Cx) (f : Expr → Option PE) (o : Expr) (m : Str) (ap : Pos) (args : List Expr) (kws : List Keyword) (pos : Pos) : Option PE :=
  gd (kws.isEmpty && (m == Str.ofString "index" && ap.endLine == pos.line)) ((one? args).bind fun e => (asName o).bind fun x => (slotOf cx.nms x).bind fun i => (f e).bind fun a => some (.idx i a))
noncomputable def cComp (cx : Cx) (f : Cx → Expr → Option PE) (elt : Expr) (gens : List Comprehension) (sc : Scope) : Option PE :=
  (one? gens).bind fun g => (targetOf g.target).bind fun tg => gd (decide (g.is_async = 0) && compScope cx.scope sc tg && headOk (iterOf cx g.iter).1 tg)
      ((slotsOf cx.nms (freeOf sc.names)).bind fun caps => (f cx (iterOf cx g.iter).2).bind fun i => (f { cx with scope := sc, nms := tg ++ freeOf sc.names } elt).bind fun a =>
        (cList (f { cx with scope := sc, nms := tg ++ freeOf sc.names }) g.ifs).bind fun cs => some (.comp a tg.length (iterOf cx g.iter).1 i cs caps))

noncomputable def cE1 (f : Cx → Expr → Option PE) (cx : Cx) (v : EK) : Option PE :=
  match v with
  | .const c => (match c with
        | .int i => some (.const (.int i))
        | .bool b => some (.const (.bool b))
        | .none => some (.const .none)
        | .str s => some (.const (.str s))
        | _ => none)
  | .name x => (slotOf cx.nms x).map .var
  | .bin l op r => (f cx l).bind fun a => (f cx r).bind fun b => some (.bin op a b)
  | .un op x => (match op with
        | .Not => (f cx x).map .not
        | .USub => (f cx x).map .neg
        | _ => none)
  | .bool op l => (match l with
        | a :: b :: r => cBool (f cx) op (a :: b :: r)
        | _ => none)
  | .cmp l ops rs => cCmp (f cx) l ops rs
  | .tup es => (cList (f cx) es).map .tup
  | .lst es => (cList (f cx) es).map .lst
  | .sub v i => cSub (f cx) v i
  | .call fn args kws pos => (match view fn with
        | .name g => cCallN cx (f cx) g args kws
        | .attr o m ap => cCallA cx (f cx) o m ap args kws pos
        | _ => none)
  | .comp elt gens sc => cComp cx f elt gens sc
  | _ => none

noncomputable def cE : Nat → Cx → Expr → Option PE
  | 0, _, _ => none
  | k + 1, cx, e => cE1 (cE k) cx (view e)

noncomputable def cB (f : Stmt → Option PS) : List Stmt → Option (List PS)
  | [] => some []
  | s :: r => (f s).bind fun a => (cB f r).bind fun b => some (a :: b)

noncomputable def cSwap (cx : Cx) (f : Expr → Option PE) (es vs : List Expr) : Option PS :=
  (two? es).bind fun e => (two? vs).bind fun v => (asName e.1).bind fun x => (asName e.2).bind fun y => gd (!(x == y || ([v.1, v.2].all (constantsAlone 8) && !([v.1, v.2].all (foldedForSure 8)))))
          ((slotOf cx.nms x).bind fun i => (slotOf cx.nms y).bind fun j => (cList f [v.1, v.2]).bind fun l => (two? l).bind fun l => some (.swap i j l.1 l.2))
noncomputable def cUnp (cx : Cx) (f : Expr → Option PE) (es : List Expr) (v : Expr) : Option PS :=
  gd (decide (2 ≤ es.length)) ((namesOf es).bind fun xs => (f v).bind fun a => (slotsOf cx.nms xs).bind fun is => gd (distinct xs) (some (.unpack is a)))
noncomputable def cApp (cx : Cx) (f : Expr → Option PE) (o : Expr) (m : Str) (ap : Pos) (args : List Expr) (kws : List Keyword) (pos : Pos) : Option PS :=
  gd (kws.isEmpty && (m == Str.ofString "append" && ap.endLine == pos.line)) ((one? args).bind fun e => (asName o).bind fun x => (slotOf cx.nms x).bind fun i => (f e).bind fun a => some (.app i a))
noncomputable def cFor (cx : Cx) (f : Expr → Option PE) (t iter : Expr) (b : Option (List PS)) : Option PS :=
  (targetOf t).bind fun tg => (slotsOf cx.nms tg).bind fun is => gd (distinct tg && headOk (iterOf cx iter).1 tg) ((f (iterOf cx iter).2).bind fun i => b.bind fun a => some (.for is (iterOf cx iter).1 i a))

/-- what a statement is, so far as it matters here -/
inductive SK where
  | asg (x : Str) (v : Expr)
  | swp (es vs : List Expr)
  | unp (es : List Expr) (v : Expr)
  | sto (o ix v : Expr)
  | app (o : Expr) (m : Str) (ap : Pos) (args : List Expr) (kws : List Keyword) (pos : Pos)
  | ex (f : Str) (e : Expr)
  | ite (c : Expr) (a b : List Stmt)
  | whl (c : Expr) (a : List Stmt)
  | for (t iter : Expr) (a : List Stmt)
  | ret (e : Expr)
  | other
noncomputable def viewA (v : Expr) : EK → SK
  | .name x => .asg x v
  | .tup es => (match asTuple v with | some vs => .swp es vs | none => .unp es v)
  | .sub o ix => .sto o ix v
  | _ => .other
noncomputable def viewF (e : Expr) (args : List Expr) (kws : List Keyword) (pos : Pos) : EK → SK
  | .attr o m ap => .app o m ap args kws pos
  | .name f => (match kws with | [] => .ex f e | _ :: _ => .other)
  | _ => .other
noncomputable def viewX (e : Expr) : EK → SK
  | .call fn args kws pos => viewF e args kws pos (view fn)
  | _ => .other
noncomputable def viewS : Stmt → SK
  | .Assign ts v _ => (match ts with | [t] => viewA v (view t) | _ => .other)
  | .Expr e _ => viewX e (view e)
  | .If c a b _ => .ite c a b
  | .While c a els _ => (match els with | [] => .whl c a | _ :: _ => .other)
  | .For t iter a els _ => (match els with | [] => .for t iter a | _ :: _ => .other)
  | .Return e _ => (match e with | some e => .ret e | none => .other)
  | _ => .other
noncomputable def SK.Is (s : Stmt) : SK → Prop
  | .asg x v => ∃ p q, s = .Assign [.Name x p] v q
  | .swp es vs => ∃ k p k' p' q, s = .Assign [.Tuple es k p] (.Tuple vs k' p') q
  | .unp es v => (∃ k p q, s = .Assign [.Tuple es k p] v q) ∧ ∀ a b c, v ≠ .Tuple a b c
  | .sto o ix v => ∃ p q, s = .Assign [.Subscript o ix p] v q
  | .app o m ap args kws pos => ∃ q, s = .Expr (.Call (.Attribute o m ap) args kws pos) q
  | .ex f e => ∃ fp args pos q, e = .Call (.Name f fp) args [] pos ∧ s = .Expr e q
  | .ite c a b => ∃ q, s = .If c a b q
  | .whl c a => ∃ q, s = .While c a [] q
  | .for t iter a => ∃ q, s = .For t iter a [] q
  | .ret e => ∃ q, s = .Return (some e) q
  | .other => True
theorem viewA_is {t v : Expr} {q : Pos} : SK.Is (.Assign [t] v q) (viewA v (view t)) := by
  have hv := view_is t
  generalize view t = w at hv
  cases w with
  | name x => obtain ⟨p, rfl⟩ := hv; exact ⟨p, q, rfl⟩
  | tup es =>
    obtain ⟨k, p, rfl⟩ := hv
    show SK.Is _ (match asTuple v with | some vs => .swp es vs | none => .unp es v)
    cases ht : asTuple v with
    | some vs => obtain ⟨k', p', rfl⟩ := asTuple_some ht; exact ⟨k, p, k', p', q, rfl⟩
    | none => exact ⟨⟨k, p, q, rfl⟩, asTuple_none ht⟩
  | sub o ix => obtain ⟨p, rfl⟩ := hv; exact ⟨p, q, rfl⟩
  | _ => exact trivial
theorem viewX_is {e : Expr} {q : Pos} : SK.Is (.Expr e q) (viewX e (view e)) := by
  have hv := view_is e
  generalize view e = w at hv
  cases w with
  | call fn args kws pos =>
    cases hv
    have hf := view_is fn
    show SK.Is _ (viewF _ args kws pos (view fn))
    generalize view fn = w at hf
    cases w with
    | attr o m ap => cases hf; exact ⟨q, rfl⟩
    | name f =>
      obtain ⟨fp, rfl⟩ := hf
      cases kws with
      | nil => exact ⟨fp, args, pos, q, rfl, rfl⟩
      | cons _ _ => exact trivial
    | _ => exact trivial
  | _ => exact trivial
theorem viewS_is (s : Stmt) : (viewS s).Is s := by
  cases s with
  | Assign ts v q =>
    match ts with
    | [t] => exact viewA_is
    | [] => exact trivial
    | _ :: _ :: _ => exact trivial
  | Expr e q => exact viewX_is
  | If c a b q => exact ⟨q, rfl⟩
  | While c a els q => cases els with
    | nil => exact ⟨q, rfl⟩
    | cons _ _ => exact trivial
  | For t iter a els q => cases els with
    | nil => exact ⟨q, rfl⟩
    | cons _ _ => exact trivial
  | Return e q => cases e with
    | some e => exact ⟨q, rfl⟩
    | none => exact trivial
  | _ => exact trivial

noncomputable def cS1 (f : Expr → Option PE) (g : List Stmt → Option (List PS)) (cx : Cx) (v : SK) : Option PS :=
  match v with
  | .asg x v => (slotOf cx.nms x).bind fun i => (f v).bind fun a => some (.assign i (cx.muts.contains x) a)
  | .swp es vs => cSwap cx f es vs
  | .unp es v => cUnp cx f es v
  | .sto _ _ _ => none
  | .app o m ap args kws pos => cApp cx f o m ap args kws pos
  | .ex _ _ => none
  | .ite c a b => (f c).bind fun c => (g a).bind fun a => (g b).bind fun b => some (.ite c a b)
  | .whl c a => (f c).bind fun c => (g a).bind fun a => some (.whl c a)
  | .for t iter a => cFor cx f t iter (g a)
  | .ret e => (f e).map .ret
  | .other => none
noncomputable def cS : Nat → Cx → Stmt → Option PS
  | 0, _, _ => none
  | k + 1, cx, s => cS1 (cE k cx) (cB (cS k cx)) cx (viewS s)

noncomputable def mutE : SK → List Str
  | .app o m _ _ _ _ => (match asName o, m == Str.ofString "append" with | some x, true => [x] | _, _ => [])
  | .sto o _ _ => (match asName o with | some x => [x] | none => [])
  | _ => []
noncomputable def mutsS : Nat → List Stmt → List Str
  | 0, _ => []
  | k + 1, l => l.flatMap fun s => match viewS s with
    | .ite _ a b => mutsS k a ++ mutsS k b
    | .whl _ a => mutsS k a
    | .for _ _ a => mutsS k a
    | v => mutE v

noncomputable def localsOf : List (Str × NameKind) → List Str
  | [] => []
  | (x, .local) :: r | (x, .cell) :: r => x :: localsOf r
  | _ :: r => localsOf r

noncomputable def nmsOf (args : List Arg) (sc : Scope) : List Str := args.map (·.arg) ++ (localsOf sc.names).filter fun x => !(args.map (·.arg)).contains x
noncomputable def plainArgs (p : Arguments) : Bool := p.posonlyargs.isEmpty && p.vararg.isNone && p.kwonlyargs.isEmpty && p.kw_defaults.isEmpty && p.kwarg.isNone && p.defaults.isEmpty
theorem plainArgs_is {p : Arguments} (h : plainArgs p = true) : p = ⟨[], p.args, none, [], [], none, []⟩ := by
  obtain ⟨a, b, c, d, e, f, g⟩ := p
  simp only [plainArgs, Bool.and_eq_true, List.isEmpty_iff, Option.isNone_iff_eq_none] at h
  obtain ⟨⟨⟨⟨⟨rfl, rfl⟩, rfl⟩, rfl⟩, rfl⟩, rfl⟩ := h
  rfl
/-- the whole of a def, if it is one of those that are served -/
noncomputable def compFn (fs : Fs) (params : Arguments) (body : List Stmt) (sc : Scope) : Option Fn :=
  gd (plainArgs params && ((sc.kind == .function) && !sc.isGenerator && !sc.isCoroutine && distinct (nmsOf params.args sc) && distinct (sc.names.map (·.1)) && ((params.args.map (·.arg)).all (localsOf sc.names).contains) && (nmsOf params.args sc).all okName &&
        (sc.names.all fun x => x.2 == .local || x.2 == .cell || x.2 == .globalImplicit)))
    ((cB (cS 24 ⟨fs, mutsS 12 body, sc, nmsOf params.args sc⟩) body).map fun b => ⟨(params.args.map (·.arg)).length, (nmsOf params.args sc).length, b⟩)

noncomputable def defsOf (p : Program) : List (Str × Arguments × List Stmt × Scope) := p.main.body.filterMap fun
  | .FunctionDef name a b _ _ _ sc _ _ _ => some (name, a, b, sc)
  | _ => none
noncomputable def litsT (p : Program) : List (Str × Int) := p.main.body.filterMap fun
  | .Assign [.Name x _] (.Constant (.int n) _ _) _ => some (x, n)
  | _ => none
noncomputable def tableOf (p : Program) (f : Str) : Option Fn :=
  match (defsOf p).find? (·.1 == f) with
  | some (_, a, b, sc) => compFn ⟨(defsOf p).map (·.1), litsT p⟩ a b sc
  | none => none
end

section
set_option Elab.async false
open PySem
section
variable {T : Table} {n : Nat} {ρ : Rho} {Q : PyData → Tag → Prop} {R : Out → Prop}
theorem E_idx {i a} : (lev T (n+1)).E ρ (.idx i a) Q = (match ρ[i]? with
      | some (.fz (.list l)) | some (.ow l) => (lev T n).E ρ a fun y _ => ∃ j ns k, y = .int j ∧ intsOf l = some ns ∧ idxOf j ns = some k ∧ l.length ≤ sizeLine ∧ Q (.int (k : Nat)) .old
      | _ => False) := rfl
theorem S_app {i e} : (lev T (n+1)).S (.app i e) ρ R = (match ρ[i]? with
      | some (.ow l) => (lev T n).E ρ e fun d t => t.isVar = false ∧ l.length < sizeLine ∧ R (.next (ρ.set i (.ow (l ++ [d]))))
      | _ => False) := rfl
end
end

section
set_option Elab.async false
open PySem PySem.Spec PyProof.Rows PySem.Calls

mutual
/-- a value and what it is: like the library's Reads, every list and tuple a plain object -/
inductive Rp (h : Heap) : Value → PyData → List Addr → Prop
  | none : Rp h .none .none []
  | bool (b) : Rp h (.bool b) (.bool b) []
  | int (i t) : Rp h (.int i t) (.int i) []
  | str (x t) : Rp h (.str x t) (.str x) []
  | list {a vs n xs as} : h.get? a = some { cls := .type "list", data := .seq vs n } → RpAll h vs.toList xs as → Rp h (.ref a) (.list xs) (a :: as)
  | tuple {a vs n xs as} : h.get? a = some { cls := .type "tuple", data := .seq vs n } → RpAll h vs.toList xs as → Rp h (.ref a) (.tuple xs) as
inductive RpAll (h : Heap) : List Value → List PyData → List Addr → Prop
  | nil : RpAll h [] [] []
  | cons {v vs d ds as bs} : Rp h v d as → RpAll h vs ds bs → RpAll h (v :: vs) (d :: ds) (as ++ bs)
end
theorem Rp.reads {h : Heap} {v : Value} {d : PyData} {as : List Addr} (r : Rp h v d as) : Reads h v d as :=
  Rp.rec (motive_1 := fun v d as _ => Reads h v d as) (motive_2 := fun v d as _ => ReadsAll h v d as) .none .bool .int .str (fun h1 _ ih => .list h1 rfl rfl ih) (fun h1 _ ih => .tuple h1 rfl rfl ih) .nil (fun _ _ i1 i2 => .cons i1 i2) r
theorem RpAll.reads {h : Heap} {v : List Value} {d : List PyData} {as : List Addr} (r : RpAll h v d as) : ReadsAll h v d as :=
  RpAll.rec (motive_1 := fun v d as _ => Reads h v d as) (motive_2 := fun v d as _ => ReadsAll h v d as) .none .bool .int .str (fun h1 _ ih => .list h1 rfl rfl ih) (fun h1 _ ih => .tuple h1 rfl rfl ih) .nil (fun _ _ i1 i2 => .cons i1 i2) r

noncomputable def IsT (o : Obj) : Prop := ∃ vs n, o = { cls := .type "tuple", data := .seq vs n }
noncomputable def Frz (h h' : Heap) (as : List Addr) : Prop := ∀ b o, h.get? b = some o → (IsT o ∨ b ∈ as) → h'.get? b = some o
noncomputable def KB (W : Addr → Prop) (h h' : Heap) : Prop := ∀ b o, h.get? b = some o → ¬ W b → h'.get? b = some o
noncomputable def KA (h h' : Heap) : Prop := ∀ b o, h.get? b = some o → h'.get? b = some o

theorem Frz.mono {h h' : Heap} {as bs : List Addr} (f : Frz h h' as) (hs : ∀ b ∈ bs, b ∈ as) : Frz h h' bs := fun b o e c => f b o e (c.imp id (hs b))

theorem reads_frz {h h' : Heap} {v : Value} {d : PyData} {as : List Addr} (r : Rp h v d as) (f : Frz h h' as) : Rp h' v d as :=
  Rp.rec (motive_1 := fun v d as _ => Frz h h' as → Rp h' v d as) (motive_2 := fun v d as _ => Frz h h' as → RpAll h' v d as) (fun _ => .none) (fun b _ => .bool b) (fun i t _ => .int i t) (fun x t _ => .str x t) (fun h1 _ ih f => .list (f _ _ h1 (.inr List.mem_cons_self)) (ih (f.mono fun _ hb => List.mem_cons_of_mem _ hb))) (fun h1 _ ih f => .tuple (f _ _ h1 (.inl ⟨_, _, rfl⟩)) (ih f)) (fun _ => .nil) (fun _ _ i1 i2 f => .cons (i1 (f.mono fun _ hb => List.mem_append_left _ hb)) (i2 (f.mono fun _ hb => List.mem_append_right _ hb))) r f
theorem readsAll_frz {h h' : Heap} {v : List Value} {d : List PyData} {as : List Addr} (r : RpAll h v d as) (f : Frz h h' as) : RpAll h' v d as :=
  RpAll.rec (motive_1 := fun v d as _ => Frz h h' as → Rp h' v d as) (motive_2 := fun v d as _ => Frz h h' as → RpAll h' v d as) (fun _ => .none) (fun b _ => .bool b) (fun i t _ => .int i t) (fun x t _ => .str x t) (fun h1 _ ih f => .list (f _ _ h1 (.inr List.mem_cons_self)) (ih (f.mono fun _ hb => List.mem_cons_of_mem _ hb))) (fun h1 _ ih f => .tuple (f _ _ h1 (.inl ⟨_, _, rfl⟩)) (ih f)) (fun _ => .nil) (fun _ _ i1 i2 f => .cons (i1 (f.mono fun _ hb => List.mem_append_left _ hb)) (i2 (f.mono fun _ hb => List.mem_append_right _ hb))) r f
theorem Rp.keeps {h h' : Heap} (k : KA h h') {v : Value} {d : PyData} {as : List Addr} (r : Rp h v d as) : Rp h' v d as := reads_frz r fun b o e _ => k b o e
theorem RpAll.keeps {h h' : Heap} (k : KA h h') {v : List Value} {d : List PyData} {as : List Addr} (r : RpAll h v d as) : RpAll h' v d as := readsAll_frz r fun b o e _ => k b o e

/-- the lists of a value are alive -/
theorem reads_alive {h : Heap} {v : Value} {d : PyData} {as : List Addr} (r : Rp h v d as) : ∀ b ∈ as, ∃ o, h.get? b = some o :=
  Rp.rec (motive_1 := fun _ _ as _ => ∀ b ∈ as, ∃ o, h.get? b = some o) (motive_2 := fun _ _ as _ => ∀ b ∈ as, ∃ o, h.get? b = some o) (fun _ m => nomatch m) (fun _ _ m => nomatch m) (fun _ _ _ m => nomatch m) (fun _ _ _ m => nomatch m) (fun h1 _ ih b m => (List.mem_cons.mp m).elim (fun e => e ▸ ⟨_, h1⟩) (ih b)) (fun _ _ ih => ih) (fun _ m => nomatch m) (fun _ _ i1 i2 b m => (List.mem_append.mp m).elim (i1 b) (i2 b)) r
theorem readsAll_alive {h : Heap} {v : List Value} {d : List PyData} {as : List Addr} (r : RpAll h v d as) : ∀ b ∈ as, ∃ o, h.get? b = some o :=
  RpAll.rec (motive_1 := fun _ _ as _ => ∀ b ∈ as, ∃ o, h.get? b = some o) (motive_2 := fun _ _ as _ => ∀ b ∈ as, ∃ o, h.get? b = some o) (fun _ m => nomatch m) (fun _ _ m => nomatch m) (fun _ _ _ m => nomatch m) (fun _ _ _ m => nomatch m) (fun h1 _ ih b m => (List.mem_cons.mp m).elim (fun e => e ▸ ⟨_, h1⟩) (ih b)) (fun _ _ ih => ih) (fun _ m => nomatch m) (fun _ _ i1 i2 b m => (List.mem_append.mp m).elim (i1 b) (i2 b)) r

theorem isList_of_rp {h : Heap} {v : Value} {xs : List PyData} {as : List Addr} (r : Rp h v (.list xs) as) :
    ∃ a vs bs, v = .ref a ∧ h.PlainList a vs ∧ RpAll h vs.toList xs bs ∧ as = a :: bs := by
  cases r with
  | list h1 h2 => exact ⟨_, _, _, rfl, ⟨_, h1⟩, h2, rfl⟩
noncomputable def PlainTup (h : Heap) (a : Addr) (items : Array Value) : Prop := ∃ n, h.get? a = some { cls := .type "tuple", data := .seq items n }

theorem KA.refl (h : Heap) : KA h h := fun _ _ e => e
theorem KA.trans {a b c : Heap} (x : KA a b) (y : KA b c) : KA a c := fun i o e => y i o (x i o e)
theorem KA.push (h : Heap) (o : Obj) : KA h (h.push o) := fun _ _ e => Heap.get?_push_of_some o e
theorem KA.kb {W : Addr → Prop} {h h' : Heap} (x : KA h h') : KB W h h' := fun b o e _ => x b o e
theorem KB.trans {W : Addr → Prop} {a b c : Heap} (x : KB W a b) (y : KB W b c) : KB W a c := fun i o e n => y i o (x i o e n) n
theorem KA.none {h h' : Heap} (x : KA h h') {a : Addr} (e : h'.get? a = none) : h.get? a = none := by
  cases q : h.get? a with
  | none => rfl
  | some o => rw [x a o q] at e; cases e

theorem kp_heap {s s' : Shared} (x : Keeps s s') : KA s.heap s'.heap := by obtain ⟨h', tk, rfl, k⟩ := x; exact k
theorem kp_refl {s : Shared} : Keeps s s := ⟨s.heap, s.toks, rfl, fun _ _ e => e⟩
theorem kp_trans {a b c : Shared} (x : Keeps a b) (y : Keeps b c) : Keeps a c := by
  obtain ⟨h, t, rfl, k⟩ := x
  obtain ⟨h', t', rfl, k'⟩ := y
  exact ⟨h', t', rfl, fun b o e => k' b o (k b o e)⟩
theorem kp_tok {s : Shared} {tk : Nat} : Keeps s { s with toks := tk } := ⟨s.heap, tk, rfl, fun _ _ e => e⟩
theorem kp_push {s : Shared} {o : Obj} : Keeps s { s with heap := s.heap.push o } := ⟨_, s.toks, rfl, KA.push _ _⟩

/-- what the value of an expression is: V are the addresses that nothing outside the frame may reach -/
noncomputable def Res (V : Addr → Prop) (oa : Nat → Addr) (h h' : Heap) (v : Value) (d : PyData) (t : Tag) : Prop :=
  match t with
  | .old => ∃ as, Rp h' v d as ∧ ∀ b ∈ as, ¬ V b
  | .fresh => ∃ a l vs as, v = .ref a ∧ d = .list l ∧ h.get? a = none ∧ h'.PlainList a vs ∧ RpAll h' vs.toList l as ∧ (∀ b ∈ as, ¬ V b) ∧ a ∉ as
  | .var i => ∃ l vs as, v = .ref (oa i) ∧ d = .list l ∧ h'.PlainList (oa i) vs ∧ RpAll h' vs.toList l as ∧ ∀ b ∈ as, ¬ V b

theorem Res.rp {V : Addr → Prop} {oa : Nat → Addr} {h h' : Heap} {v : Value} {d : PyData} {t : Tag} (r : Res V oa h h' v d t) : ∃ as, Rp h' v d as := by
  cases t with
  | old => obtain ⟨as, x, _⟩ := r; exact ⟨as, x⟩
  | fresh => obtain ⟨a, l, vs, as, rfl, rfl, _, ⟨n, hp⟩, hr, _⟩ := r; exact ⟨_, .list hp hr⟩
  | var i => obtain ⟨l, vs, as, rfl, rfl, ⟨n, hp⟩, hr, _⟩ := r; exact ⟨_, .list hp hr⟩

/-- the items of a list are never the frame's own lists -/
theorem Res.items {V : Addr → Prop} {oa : Nat → Addr} {h h' : Heap} {v : Value} {l : List PyData} {t : Tag} (r : Res V oa h h' v (.list l) t) :
    ∃ a vs as, v = .ref a ∧ h'.PlainList a vs ∧ RpAll h' vs.toList l as ∧ ∀ b ∈ as, ¬ V b := by
  cases t with
  | old =>
    obtain ⟨as, x, n⟩ := r
    obtain ⟨a, vs, bs, rfl, hl, hr, rfl⟩ := isList_of_rp x
    exact ⟨a, vs, bs, rfl, hl, hr, fun b hb => n b (List.mem_cons_of_mem _ hb)⟩
  | fresh => obtain ⟨a, l, vs, as, rfl, e, _, hp, hr, n, _⟩ := r; cases e; exact ⟨a, vs, as, rfl, hp, hr, n⟩
  | var i => obtain ⟨l, vs, as, rfl, e, hp, hr, n⟩ := r; cases e; exact ⟨_, vs, as, rfl, hp, hr, n⟩

theorem isTup_of_rp {h : Heap} {v : Value} {xs : List PyData} {as : List Addr} (r : Rp h v (.tuple xs) as) :
    ∃ a vs, v = .ref a ∧ PlainTup h a vs ∧ RpAll h vs.toList xs as := by
  cases r with
  | tuple h1 h2 => exact ⟨_, _, rfl, ⟨_, h1⟩, h2⟩

theorem Res.titems {V : Addr → Prop} {oa : Nat → Addr} {h h' : Heap} {v : Value} {l : List PyData} {t : Tag} (r : Res V oa h h' v (.tuple l) t) :
    ∃ a vs as, v = .ref a ∧ PlainTup h' a vs ∧ RpAll h' vs.toList l as ∧ ∀ b ∈ as, ¬ V b := by
  cases t with
  | old =>
    obtain ⟨as, x, n⟩ := r
    obtain ⟨a, vs, rfl, hl, hr⟩ := isTup_of_rp x
    exact ⟨a, vs, as, rfl, hl, hr, n⟩
  | fresh => obtain ⟨a, l, vs, as, rfl, e, _⟩ := r; cases e
  | var i => obtain ⟨l, vs, as, rfl, e, _⟩ := r; cases e

/-- it may be put into something else -/
theorem Res.old {V : Addr → Prop} {oa : Nat → Addr} {h h' : Heap} {v : Value} {d : PyData} {t : Tag} (r : Res V oa h h' v d t) (ht : t.isVar = false) (hV : ∀ b, V b → ∃ o, h.get? b = some o) :
    ∃ as, Rp h' v d as ∧ ∀ b ∈ as, ¬ V b := by
  cases t with
  | old => exact r
  | fresh =>
    obtain ⟨a, l, vs, as, rfl, rfl, hn, ⟨n, hp⟩, hr, nv, _⟩ := r
    refine ⟨_, .list hp hr, fun b hb hv => ?_⟩
    rcases List.mem_cons.mp hb with rfl | hb
    · obtain ⟨o, e⟩ := hV _ hv; rw [hn] at e; cases e
    · exact nv b hb hv
  | var i => cases ht
end

section
set_option Elab.async false
open PySem PySem.Spec PyProof.Rows PySem.Calls

/-- the addresses that the frame itself writes -/
noncomputable def Wr (env : Env) (ρ : Rho) (oa : Nat → Addr) (b : Addr) : Prop :=
  b = env.locals ∨ (∃ x, (x, b) ∈ env.cells) ∨ ∃ (i : Nat) (l : List PyData), ρ[i]? = some (.ow l) ∧ oa i = b

noncomputable def Bd (h : Heap) (env : Env) (x : Str) (v : Value) : Prop :=
  (env.kindOf x = some .local ∧ ∃ m, h.Ns env.locals m ∧ m x = some v) ∨
  ((env.kindOf x = some .cell ∨ env.kindOf x = some .free) ∧ ∃ c, env.cells.lookup x = some c ∧ h.IsCell c (some v))

noncomputable def SlotOK (V : Addr → Prop) (h : Heap) (env : Env) (x : Str) (a : Addr) : Slot → Prop
  | .un => True
  | .fz d => ∃ v as, Bd h env x v ∧ Rp h v d as ∧ ∀ b ∈ as, ¬ V b
  | .ow l => Bd h env x (.ref a) ∧ ∃ vs as, h.PlainList a vs ∧ RpAll h vs.toList l as ∧ ∀ b ∈ as, ¬ V b

structure Fm (g h : Heap) (cx : Cx) (env : Env) (ρ : Rho) (oa : Nat → Addr) (V : Addr → Prop) : Prop where
  top : KA g h
  hg : env.globals = mainGlobals
  hb : env.builtins = builtinsNs
  hk : env.scope.kind = .function
  gl : ∀ x, cx.scope.names.lookup x = some .globalImplicit → env.kindOf x = some .globalImplicit
  ce : ∀ x, cx.scope.names.lookup x = some .cell → env.kindOf x = some .cell
  nm : ∀ x ∈ cx.nms, okName x = true
  len : ρ.length = cx.nms.length
  dist : ∀ (i j : Nat) (x : Str), cx.nms[i]? = some x → cx.nms[j]? = some x → i = j
  kd : ∀ x ∈ cx.nms, env.kindOf x = some .local ∨ ((env.kindOf x = some .cell ∨ env.kindOf x = some .free) ∧ ∃ c, env.cells.lookup x = some c)
  ns : ∃ m, h.Ns env.locals m
  cel : ∀ x c, (x, c) ∈ env.cells → ∃ v, h.IsCell c v
  cap : env.cells.Pairwise fun x y => x.2 ≠ y.2
  new : ∀ b, Wr env ρ oa b → g.get? b = none
  od : ∀ (i j : Nat) (l l' : List PyData), i ≠ j → ρ[i]? = some (.ow l) → ρ[j]? = some (.ow l') → oa i ≠ oa j
  val : ∀ (i : Nat) (x : Str) (sl : Slot), cx.nms[i]? = some x → ρ[i]? = some sl → SlotOK V h env x (oa i) sl
  va : ∀ b, V b → ∃ o, h.get? b = some o
  wv : ∀ b, Wr env ρ oa b → V b

section
variable {g h h' : Heap} {cx : Cx} {env : Env} {ρ : Rho} {oa : Nat → Addr} {V : Addr → Prop}

theorem Bd.ka {x : Str} {v : Value} (b : Bd h env x v) (k : KA h h') : Bd h' env x v := by
  rcases b with ⟨a, m, n, e⟩ | ⟨a, c, e, i⟩
  · exact .inl ⟨a, m, n.keeps k, e⟩
  · exact .inr ⟨a, c, e, i.keeps k⟩

theorem SlotOK.ka {x : Str} {a : Addr} {sl : Slot} (s : SlotOK V h env x a sl) (k : KA h h') : SlotOK V h' env x a sl := by
  cases sl with
  | un => trivial
  | fz d => obtain ⟨v, as, b, r, n⟩ := s; exact ⟨v, as, b.ka k, Rp.keeps k r, n⟩
  | ow l => obtain ⟨b, vs, as, p, r, n⟩ := s; exact ⟨b.ka k, vs, as, p.at fun o e => k _ o e, RpAll.keeps k r, n⟩

theorem Fm.ka (F : Fm g h cx env ρ oa V) (k : KA h h') : Fm g h' cx env ρ oa V where
  top := F.top.trans k
  hg := F.hg
  hb := F.hb
  hk := F.hk
  gl := F.gl
  ce := F.ce
  nm := F.nm
  len := F.len
  dist := F.dist
  kd := F.kd
  ns := let ⟨m, n⟩ := F.ns; ⟨m, n.keeps k⟩
  cel := fun x c e => let ⟨v, i⟩ := F.cel x c e; ⟨v, i.keeps k⟩
  cap := F.cap
  new := F.new
  od := F.od
  val := fun i x sl e1 e2 => (F.val i x sl e1 e2).ka k
  va := fun b hb => let ⟨o, e⟩ := F.va b hb; ⟨o, k b o e⟩
  wv := F.wv

theorem Fm.wa (F : Fm g h cx env ρ oa V) (b : Addr) (w : Wr env ρ oa b) : ∃ o, h.get? b = some o ∧ ¬ IsT o := by
  rcases w with rfl | ⟨x, hx⟩ | ⟨i, l, e, rfl⟩
  · obtain ⟨m, o, es, ep, ho, hd, _⟩ := F.ns
    exact ⟨o, ho, fun ⟨vs, n, q⟩ => by rw [q] at hd; cases hd⟩
  · obtain ⟨v, o, ho, hd⟩ := F.cel x b hx
    exact ⟨o, ho, fun ⟨vs, n, q⟩ => by rw [q] at hd; cases hd⟩
  · have hi : i < ρ.length := by
      rcases Nat.lt_or_ge i ρ.length with q | q
      · exact q
      · rw [List.getElem?_eq_none q] at e; cases e
    rw [F.len] at hi
    obtain ⟨_, vs, as, ⟨n, hp⟩, _⟩ := F.val i _ _ (List.getElem?_eq_getElem hi) e
    exact ⟨_, hp, fun ⟨_, _, q⟩ => by simp at q⟩

theorem wpAny_slot {M : Model} {A : Around} {E : Value → Shared → Prop} {s : Shared} {i : Nat} {x : Str} {pos : Pos} {Q : Value → Shared → Prop} {v : Value}
    (F : Fm g s.heap cx env ρ oa V) (hx : cx.nms[i]? = some x) (b : Bd s.heap env x v) (hq : Q v s) : wpAny M A (eval (.Name x pos) env) Q E s := by
  have ok := F.nm x (List.mem_of_getElem? hx)
  unfold okName at ok
  simp only [Bool.and_eq_true, Bool.not_eq_true'] at ok
  refine wpAny_Name ?_ ok.1
  rcases b with ⟨k, m, n, e⟩ | ⟨k | k, c, e, ic⟩
  · exact wpAny_loadName_local F.hk k n e hq
  · exact wpAny_loadName_cell F.hk k e ic hq
  · exact wpAny_loadName_free F.hk k e ic hq ok.2

/-- a name of the frame read -/
theorem sound_var {M : Model} {A : Around} {E : Value → Shared → Prop} {s : Shared} {i : Nat} {x : Str} {pos : Pos} {Q : PyData → Tag → Prop}
    (F : Fm g s.heap cx env ρ oa V) (hx : cx.nms[i]? = some x)
    (h : match ρ[i]? with | some (.fz d) => Q d .old | some (.ow l) => Q (.list l) (.var i) | _ => False) :
    wpAny M A (eval (.Name x pos) env) (fun v s' => ∃ d t, Q d t ∧ Keeps s s' ∧ Res V oa s.heap s'.heap v d t) E s := by
  cases q : ρ[i]? with
  | none => rw [q] at h; exact h.elim
  | some sl =>
    have S := F.val i x sl hx q
    rw [q] at h
    cases sl with
    | un => exact h.elim
    | fz d =>
      obtain ⟨v, as, b, r, n⟩ := S
      exact wpAny_slot F hx b ⟨d, .old, h, kp_refl, as, r, n⟩
    | ow l =>
      obtain ⟨b, vs, as, p, r, n⟩ := S
      exact wpAny_slot F hx b ⟨_, .var i, h, kp_refl, l, vs, as, rfl, rfl, p, r, n⟩
end

theorem slotOf_get {nms : List Str} {x : Str} {i : Nat} (h : slotOf nms x = some i) : nms[i]? = some x := by
  unfold slotOf at h
  obtain ⟨hi, h1, _⟩ := List.findIdx?_eq_some_iff_getElem.mp h
  rw [List.getElem?_eq_getElem hi, beq_iff_eq.mp h1]

/-- what the world is at the heap g: the names of the text, of the built-ins -/
inductive FnAt (fs : Fs) (mg : Str → Option Value) (g : Heap) (f : Str) (F : Fn) : Prop
  | mk (a : Addr) (o : Obj) (params : Arguments) (body : List Stmt) (scope : Scope) (pm : _) (code : _) (doc : _) (h1 : mg f = some (.ref a)) (h2 : g.get? a = some o) (h3 : o.data = .func (docDef f params body scope pm code doc)) (h4 : g.CodeRec code f) (h5 : compFn fs params body scope = some F)
structure Gw (T : Table) (fs : Fs) (mg mb : Str → Option Value) (g : Heap) : Prop where
  ng : g.Ns mainGlobals mg
  nb : g.Ns builtinsNs mb
  lim : g.NoLimit
  fn : ∀ f F, T f = some F → FnAt fs mg g f F
  bi : ∀ x, fs.contains x = false → bootBuiltins x ≠ none → x ≠ Str.ofString "__name__" → mg x = none
  bb : ∀ x, x ≠ Str.ofString "__name__" → mb x = bootBuiltins x

theorem Gw.ka {T : Table} {fs : Fs} {mg mb : Str → Option Value} {g g' : Heap} (G : Gw T fs mg mb g) (k : KA g g') : Gw T fs mg mb g' where
  ng := G.ng.keeps k
  nb := G.nb.keeps k
  lim := G.lim.keeps k
  fn := fun f F e => let ⟨a, o, ps, b, sc, pm, c, d, h1, h2, h3, h4, h5⟩ := G.fn f F e; ⟨a, o, ps, b, sc, pm, c, d, h1, k _ _ h2, h3, h4.keeps k, h5⟩
  bi := G.bi
  bb := G.bb

theorem wpAny_glob {M : Model} {A : Around} {E : Value → Shared → Prop} {s : Shared} {env : Env} {mg mb : Str → Option Value} {x : Str} {pos : Pos} {v : Value} {Q : Value → Shared → Prop}
    (hk : env.scope.kind = .function) (hx : env.kindOf x = some .globalImplicit) (hg : env.globals = mainGlobals) (hb : env.builtins = builtinsNs) (ng : s.heap.Ns mainGlobals mg) (nb : s.heap.Ns builtinsNs mb)
    (e : mg x = some v ∨ (mg x = none ∧ mb x = some v)) (hd : (x == Str.ofString "__debug__") = false) (h : Q v s) : wpAny M A (eval (.Name x pos) env) Q E s := by
  refine wpAny_Name ?_ hd
  have : loadName env x = loadGlobal env x := by
    unfold loadName
    simp only [Env.blockKind, hk, hx, ScopeKind.isAnnotationScope, Bool.false_and, Bool.false_eq_true, if_false]

  rw [this]
  unfold loadGlobal
  rw [hg, hb]
  refine wpAny_bind (wpAny_nsGet ng ?_)
  rcases e with e | ⟨e, e'⟩
  · rw [e]; exact wpAny_pure h
  · rw [e]
    refine wpAny_bind (wpAny_nsGet nb ?_)
    rw [e']; exact wpAny_pure h
end

section
set_option Elab.async false
open PySem PySem.Spec PyProof.Rows PySem.Calls

theorem ns_unique {h : Heap} {a : Addr} {m m' : Str → Option Value} (x : h.Ns a m) (y : h.Ns a m') : m = m' := by
  obtain ⟨o, es, ep, ho, hd, _, hf⟩ := x
  obtain ⟨o', es', ep', ho', hd', _, hf'⟩ := y
  rw [ho] at ho'; cases ho'
  rw [hd] at hd'; cases hd'
  funext n; rw [← hf, ← hf']

noncomputable def upd (oa : Nat → Addr) (i : Nat) (a : Addr) : Nat → Addr := fun j => if j = i then a else oa j

noncomputable def SlotV (g h : Heap) (ρ : Rho) (oa : Nat → Addr) (V : Addr → Prop) (i : Nat) (v : Value) (a : Addr) : Slot → Prop
  | .un => False
  | .fz d => ∃ as, Rp h v d as ∧ ∀ b ∈ as, ¬ V b
  | .ow l => v = .ref a ∧ (∃ vs as, h.PlainList a vs ∧ RpAll h vs.toList l as ∧ ∀ b ∈ as, ¬ V b) ∧ V a ∧ g.get? a = none ∧ ∀ (j : Nat) (l' : List PyData), j ≠ i → ρ[j]? = some (.ow l') → oa j ≠ a

section
variable {g h h' : Heap} {cx : Cx} {env : Env} {ρ : Rho} {oa : Nat → Addr} {V : Addr → Prop}

theorem Fm.weak {V' : Addr → Prop} (F : Fm g h cx env ρ oa V) (hv : ∀ b, V' b → V b) (hw : ∀ b, Wr env ρ oa b → V' b) : Fm g h cx env ρ oa V' :=
  { F with
    val := fun i x sl e1 e2 => by
      have S := F.val i x sl e1 e2
      cases sl with
      | un => trivial
      | fz d => obtain ⟨v, as, b, r, n⟩ := S; exact ⟨v, as, b, r, fun c hc q => n c hc (hv c q)⟩
      | ow l => obtain ⟨b, vs, as, p, r, n⟩ := S; exact ⟨b, vs, as, p, r, fun c hc q => n c hc (hv c q)⟩
    va := fun b hb => F.va b (hv b hb)
    wv := hw }

/-- a list made since then is none that the frame's values hold -/
theorem Fm.avoid {a : Addr} (F : Fm g h cx env ρ oa V) (k : KA h h') (hn : h.get? a = none) (ha : ∃ o, h'.get? a = some o) : Fm g h' cx env ρ oa (fun b => V b ∨ b = a) :=
  { F.ka k with
    val := fun i x sl e1 e2 => by
      have S := F.val i x sl e1 e2
      cases sl with
      | un => trivial
      | fz d =>
        obtain ⟨v, as, b, r, n⟩ := S
        refine ⟨v, as, b.ka k, Rp.keeps k r, fun c hc q => ?_⟩
        rcases q with q | rfl
        · exact n c hc q
        · obtain ⟨o, e⟩ := reads_alive r _ hc; rw [hn] at e; cases e
      | ow l =>
        obtain ⟨b, vs, as, p, r, n⟩ := S
        refine ⟨b.ka k, vs, as, p.at fun o e => k _ o e, RpAll.keeps k r, fun c hc q => ?_⟩
        rcases q with q | rfl
        · exact n c hc q
        · obtain ⟨o, e⟩ := readsAll_alive r _ hc; rw [hn] at e; cases e
    va := fun b hb => by
      rcases hb with hb | rfl
      · obtain ⟨o, e⟩ := F.va b hb; exact ⟨o, k b o e⟩
      · exact ha
    wv := fun b w => .inl (F.wv b w) }

theorem frz_of {W : Addr → Prop} {as : List Addr} (k : KB W h h') (hw : ∀ b o, W b → h.get? b = some o → ¬ IsT o) (hn : ∀ b ∈ as, ¬ W b) : Frz h h' as := fun b o e c =>
  k b o e fun w => c.elim (hw b o w e) fun m => hn b m w

/-- the heap changed at one of the frame's own addresses (its names, a cell): what is left of the frame -/
theorem Fm.put {i : Nat} {x : Str} {v : Value} {a' : Addr} {sl : Slot} {c : Addr} (F : Fm g h cx env ρ oa V) (hx : cx.nms[i]? = some x) (hs : Heap.SameBut c h h')
    (hc : c = env.locals ∨ ∃ y, (y, c) ∈ env.cells) (hns : ∃ m, h'.Ns env.locals m) (hcel : ∀ x c, (x, c) ∈ env.cells → ∃ v, h'.IsCell c v)
    (hb : ∀ y w, y ≠ x → Bd h env y w → Bd h' env y w) (hbx : Bd h' env x v) (S : SlotV g h ρ oa V i v a' sl) : Fm g h' cx env (ρ.set i sl) (upd oa i a') V := by
  have hcw : Wr env ρ oa c := hc.elim .inl fun q => .inr (.inl q)
  have kb : KB (fun b => b = c) h h' := fun b o e n => (hs.2 b n).trans e
  have nt : ∀ b o, b = c → h.get? b = some o → ¬ IsT o := fun b o q e t => by
    subst q
    obtain ⟨o', e', n'⟩ := F.wa _ hcw
    rw [e] at e'; cases e'; exact n' t
  have fz : ∀ as : List Addr, (∀ b ∈ as, ¬ V b) → Frz h h' as := fun as n => frz_of kb nt fun b m q => n b m (q ▸ F.wv c hcw)
  have pl : ∀ a vs, h.PlainList a vs → h'.PlainList a vs := fun a vs p => p.at fun o e => (hs.2 a fun q => by
    subst q
    obtain ⟨n, hp⟩ := p
    rcases hc with rfl | ⟨y, hy⟩
    · obtain ⟨m, o', es, ep, ho, hd, _⟩ := F.ns
      rw [hp] at ho; cases ho; cases hd
    · obtain ⟨w, o', ho, hd⟩ := F.cel y _ hy
      rw [hp] at ho; cases ho; cases hd).trans e
  have hw : ∀ b, Wr env (ρ.set i sl) (upd oa i a') b → Wr env ρ oa b ∨ (∃ l, sl = .ow l ∧ b = a') := fun b w => by
    rcases w with q | q | ⟨j, l, e, rfl⟩
    · exact .inl (.inl q)
    · exact .inl (.inr (.inl q))
    · rw [List.getElem?_set] at e
      by_cases q : i = j
      · subst q
        simp only [if_true] at e
        split at e
        · cases e; exact .inr ⟨l, rfl, by simp [upd]⟩
        · cases e
      · rw [if_neg q] at e
        refine .inl (.inr (.inr ⟨j, l, e, ?_⟩))
        simp [upd, Ne.symm q]
  have owa : ∀ l, sl = .ow l → V a' ∧ g.get? a' = none := fun l e => by subst e; exact ⟨S.2.2.1, S.2.2.2.1⟩
  exact {
    top := fun b o e => (hs.2 b fun q => by subst q; rw [F.new _ hcw] at e; cases e).trans (F.top b o e)
    hg := F.hg
    hb := F.hb
    hk := F.hk
    gl := F.gl
    ce := F.ce
    nm := F.nm
    len := by rw [List.length_set]; exact F.len
    dist := F.dist
    kd := F.kd
    ns := hns
    cel := hcel
    cap := F.cap
    new := fun b w => by
      rcases hw b w with q | ⟨l, e, rfl⟩
      · exact F.new b q
      · exact (owa l e).2
    od := fun j k l l' hjk e1 e2 => by
      rw [List.getElem?_set] at e1 e2
      by_cases q1 : i = j
      · subst q1
        rw [if_neg hjk] at e2
        simp only [if_true] at e1
        split at e1
        · cases e1
          simp only [upd, if_true, Ne.symm hjk, if_false]
          exact (S.2.2.2.2 k l' (Ne.symm hjk) e2).symm
        · cases e1
      · rw [if_neg q1] at e1
        by_cases q2 : i = k
        · subst q2
          simp only [if_true] at e2
          split at e2
          · cases e2
            simp only [upd, hjk, if_false, if_true]
            exact S.2.2.2.2 j l hjk e1
          · cases e2
        · rw [if_neg q2] at e2
          simp only [upd, Ne.symm q1, Ne.symm q2, if_false]
          exact F.od j k l l' hjk e1 e2
    val := fun j y sl' e1 e2 => by
      rw [List.getElem?_set] at e2
      by_cases q : i = j
      · subst q
        rw [hx] at e1; cases e1
        simp only [if_true] at e2
        split at e2
        · cases e2
          cases sl with
          | un => trivial
          | fz d => obtain ⟨as, r, n⟩ := S; exact ⟨v, as, hbx, reads_frz r (fz as n), n⟩
          | ow l =>
            obtain ⟨rfl, ⟨vs, as, p, r, n⟩, _⟩ := S
            simp only [upd, if_true]
            exact ⟨hbx, vs, as, pl _ _ p, readsAll_frz r (fz as n), n⟩
        · cases e2
      · rw [if_neg q] at e2
        have hy : y ≠ x := fun e => q (F.dist i j x hx (e ▸ e1))
        have S' := F.val j y sl' e1 e2
        have ej : upd oa i a' j = oa j := by simp [upd, Ne.symm q]
        rw [ej]
        cases sl' with
        | un => trivial
        | fz d => obtain ⟨w, as, b, r, n⟩ := S'; exact ⟨w, as, hb y w hy b, reads_frz r (fz as n), n⟩
        | ow l => obtain ⟨b, vs, as, p, r, n⟩ := S'; exact ⟨hb y _ hy b, vs, as, pl _ _ p, readsAll_frz r (fz as n), n⟩
    va := fun b hv => by
      obtain ⟨o, e⟩ := F.va b hv
      by_cases q : b = c
      · subst q
        rcases hc with rfl | ⟨y, hy⟩
        · obtain ⟨m, o', es, ep, ho, _⟩ := hns; exact ⟨o', ho⟩
        · obtain ⟨w, o', ho, _⟩ := hcel y _ hy; exact ⟨o', ho⟩
      · exact ⟨o, (hs.2 b q).trans e⟩
    wv := fun b w => by
      rcases hw b w with q | ⟨l, e, rfl⟩
      · exact F.wv b q
      · exact (owa l e).1 }

/-- what a store to these names writes -/
noncomputable def Own (env : Env) (xs : List Str) (b : Addr) : Prop := b = env.locals ∨ ∃ x, x ∈ xs ∧ env.kindOf x = some .cell ∧ (x, b) ∈ env.cells

theorem wpAny_store {M : Model} {A : Around} {E : Value → Shared → Prop} {s : Shared} {i : Nat} {x : Str} {v : Value} {a' : Addr} {sl : Slot} {Q : Unit → Shared → Prop}
    (F : Fm g s.heap cx env ρ oa V) (hx : cx.nms[i]? = some x) (hf : env.kindOf x ≠ some .free) (S : SlotV g s.heap ρ oa V i v a' sl)
    (hq : ∀ h' tk, Fm g h' cx env (ρ.set i sl) (upd oa i a') V → KB (Own env [x]) s.heap h' → Q () { s with heap := h', toks := tk }) : wpAny M A (storeName env x v) Q E s := by
  rcases F.kd x (List.mem_of_getElem? hx) with k | ⟨k | k, c, e⟩
  · obtain ⟨m, hm⟩ := F.ns
    refine wpAny_storeName_local k hm (fun h' hn hs => ?_) (by rw [F.hk]; rfl)
    have lc : ∀ y c, (y, c) ∈ env.cells → c ≠ env.locals := fun y c hy q => by
      obtain ⟨w, o, ho, hd⟩ := F.cel y c hy
      obtain ⟨o', es, ep, ho', hd', _⟩ := hm
      rw [← q, ho] at ho'; cases ho'; rw [hd] at hd'; cases hd'
    refine hq h' _ (F.put hx hs (.inl rfl) ⟨_, hn⟩ (fun y c hy => ?_) (fun y w hy b => ?_) (.inl ⟨k, _, hn, by simp⟩) S) fun b o e n => hs.extBut b o (fun q => n (.inl q)) e
    · obtain ⟨w, ic⟩ := F.cel y c hy; exact ⟨w, ic.sameBut hs (lc y c hy)⟩
    · rcases b with ⟨ky, m', n', e'⟩ | ⟨ky, c, e', ic⟩
      · rw [ns_unique n' hm] at e'
        exact .inl ⟨ky, _, hn, by simpa [hy] using e'⟩
      · exact .inr ⟨ky, c, e', ic.sameBut hs (lc y c (mem_of_lookup e'))⟩
  · obtain ⟨w, ic⟩ := F.cel x c (mem_of_lookup e)
    refine wpAny_storeName_cell F.hk k e ic fun h' hv hs => ?_
    have lc : env.locals ≠ c := fun q => by
      obtain ⟨m, o', es, ep, ho', hd', _⟩ := F.ns
      obtain ⟨o, ho, hd⟩ := ic
      rw [q, ho] at ho'; cases ho'; rw [hd] at hd'; cases hd'
    refine hq h' s.toks (F.put hx hs (.inr ⟨x, mem_of_lookup e⟩) ?_ (fun y c' hy => ?_) (fun y w hy b => ?_) (.inr ⟨.inl k, c, e, hv⟩) S) fun b o e' n => hs.extBut b o (fun q => n (.inr ⟨x, by simp, k, q ▸ mem_of_lookup e⟩)) e'
    · obtain ⟨m, hm⟩ := F.ns; exact ⟨m, hm.sameBut hs lc⟩
    · by_cases q : c' = c
      · subst q; exact ⟨_, hv⟩
      · obtain ⟨w, ic'⟩ := F.cel y c' hy; exact ⟨w, ic'.sameBut hs q⟩
    · rcases b with ⟨ky, m', n', e'⟩ | ⟨ky, c', e', ic'⟩
      · exact .inl ⟨ky, m', n'.sameBut hs lc, e'⟩
      · refine .inr ⟨ky, c', e', ic'.sameBut hs fun q => hy ?_⟩
        exact name_of_addr F.cap (mem_of_lookup e') (q ▸ mem_of_lookup e)
  · exact (hf k).elim
end
end

section
set_option Elab.async false
open PySem PySem.Spec PyProof.Rows PySem.Calls

noncomputable def Post (V : Addr → Prop) (oa : Nat → Addr) (s : Shared) (Q : PyData → Tag → Prop) (v : Value) (s' : Shared) : Prop :=
  ∃ d t, Q d t ∧ Keeps s s' ∧ Res V oa s.heap s'.heap v d t

section
variable {V : Addr → Prop} {oa : Nat → Addr}

theorem Res.ka {h h' h'' : Heap} {v : Value} {d : PyData} {t : Tag} (r : Res V oa h h' v d t) (k : KA h' h'') : Res V oa h h'' v d t := by
  cases t with
  | old => obtain ⟨as, x, n⟩ := r; exact ⟨as, x.keeps k, n⟩
  | fresh => obtain ⟨a, l, vs, as, e1, e2, hn, p, r, n, q⟩ := r; exact ⟨a, l, vs, as, e1, e2, hn, p.at fun o e => k _ o e, r.keeps k, n, q⟩
  | var i => obtain ⟨l, vs, as, e1, e2, p, r, n⟩ := r; exact ⟨l, vs, as, e1, e2, p.at fun o e => k _ o e, r.keeps k, n⟩
theorem Res.base {h₀ h h' : Heap} {v : Value} {d : PyData} {t : Tag} (r : Res V oa h h' v d t) (k : KA h₀ h) : Res V oa h₀ h' v d t := by
  cases t with
  | old => exact r
  | fresh => obtain ⟨a, l, vs, as, e1, e2, hn, p, r, n, q⟩ := r; exact ⟨a, l, vs, as, e1, e2, k.none hn, p, r, n, q⟩
  | var i => exact r
theorem Post.base {s₀ s s' : Shared} {Q : PyData → Tag → Prop} {v : Value} (p : Post V oa s Q v s') (k : Keeps s₀ s) : Post V oa s₀ Q v s' := by
  obtain ⟨d, t, q, k', r⟩ := p
  exact ⟨d, t, q, kp_trans k k', r.base (kp_heap k)⟩

theorem Res.int {h h' : Heap} {v : Value} {i : Int} {t : Tag} (r : Res V oa h h' v (.int i) t) : ∃ u, v = .int i u := by
  obtain ⟨as, x⟩ := r.rp; cases x; exact ⟨_, rfl⟩
theorem Res.bool {h h' : Heap} {v : Value} {b : Bool} {t : Tag} (r : Res V oa h h' v (.bool b) t) : v = .bool b := by
  obtain ⟨as, x⟩ := r.rp; cases x; rfl
theorem Res.none {h h' : Heap} {v : Value} {t : Tag} (r : Res V oa h h' v .none t) : v = .none := by
  obtain ⟨as, x⟩ := r.rp; cases x; rfl
theorem res_int {h h' : Heap} (i : Int) (u : Tok) : Res V oa h h' (.int i u) (.int i) .old := ⟨[], .int i u, fun _ q => nomatch q⟩
theorem res_bool {h h' : Heap} (b : Bool) : Res V oa h h' (.bool b) (.bool b) .old := ⟨[], .bool b, fun _ q => nomatch q⟩
theorem res_none {h h' : Heap} : Res V oa h h' .none .none .old := ⟨[], .none, fun _ q => nomatch q⟩
theorem res_str {h h' : Heap} (x : Str) (u : Tok) : Res V oa h h' (.str x u) (.str x) .old := ⟨[], .str x u, fun _ q => nomatch q⟩

theorem post_int {s : Shared} {Q : PyData → Tag → Prop} {i : Int} {u : Tok} {tk : Nat} (h : Q (.int i) .old) : Post V oa s Q (.int i u) { s with toks := tk } := ⟨_, _, h, kp_tok, res_int i u⟩
theorem post_bool {s : Shared} {Q : PyData → Tag → Prop} {b : Bool} (h : Q (.bool b) .old) : Post V oa s Q (.bool b) s := ⟨_, _, h, kp_refl, res_bool b⟩

theorem RpAll.ind {h : Heap} {P : List Value → List PyData → List Addr → Prop} (h0 : P [] [] []) (h1 : ∀ {v vs d ds as bs}, Rp h v d as → RpAll h vs ds bs → P vs ds bs → P (v :: vs) (d :: ds) (as ++ bs)) {vs : List Value} {ds : List PyData} {as : List Addr} (r : RpAll h vs ds as) : P vs ds as :=
  RpAll.rec (motive_1 := fun _ _ _ _ => True) (motive_2 := fun v d a _ => P v d a) trivial (fun _ => trivial) (fun _ _ => trivial) (fun _ _ => trivial) (fun _ _ _ => trivial) (fun _ _ _ => trivial) h0 (fun a b _ ih => h1 a b ih) r
theorem RpAll.append {h : Heap} {vs ws : List Value} {xs ys : List PyData} {as bs : List Addr} (r : RpAll h vs xs as) (r' : RpAll h ws ys bs) : ∃ cs, RpAll h (vs ++ ws) (xs ++ ys) cs ∧ ∀ b ∈ cs, b ∈ as ∨ b ∈ bs :=
  RpAll.ind (P := fun vs xs as => ∃ cs, RpAll h (vs ++ ws) (xs ++ ys) cs ∧ ∀ b ∈ cs, b ∈ as ∨ b ∈ bs) ⟨bs, r', fun _ h => .inr h⟩ (fun h1 _ ⟨_, x, hx⟩ => ⟨_, .cons h1 x, fun b hb => (List.mem_append.mp hb).elim (fun q => .inl (List.mem_append_left _ q)) fun q => (hx b q).imp (List.mem_append_right _) id⟩) r

theorem RpAll.len {h : Heap} {vs : List Value} {xs : List PyData} {as : List Addr} (r : RpAll h vs xs as) : vs.length = xs.length :=
  RpAll.ind (P := fun vs xs _ => vs.length = xs.length) rfl (fun _ _ ih => congrArg (· + 1) ih) r

theorem RpAll.get {h : Heap} : ∀ {vs : List Value} {xs : List PyData} {as : List Addr} {j : Nat} {d : PyData}, RpAll h vs xs as → xs[j]? = some d → ∃ v bs, vs[j]? = some v ∧ Rp h v d bs ∧ ∀ b ∈ bs, b ∈ as
  | _, _, _, _, _, .nil, e => by simp at e
  | _, _, _, 0, _, .cons h1 _, e => by simp at e; subst e; exact ⟨_, _, by simp, h1, fun _ m => List.mem_append_left _ m⟩
  | _, _, _, j + 1, _, .cons _ h2, e => by
    rw [List.getElem?_cons_succ] at e
    obtain ⟨v, bs, e1, e2, e3⟩ := RpAll.get h2 e
    exact ⟨v, bs, by rw [List.getElem?_cons_succ]; exact e1, e2, fun b m => List.mem_append_right _ (e3 b m)⟩

/-- a tuple just made -/
theorem res_push_tuple {h : Heap} {vs : List Value} {xs : List PyData} {as : List Addr} (r : RpAll h vs xs as) (n : ∀ b ∈ as, ¬ V b) : Res V oa h (h.push { cls := .type "tuple", data := .seq vs.toArray }) (.ref h.objs.size) (.tuple xs) .old :=
  ⟨as, .tuple (Heap.get?_push_size _ rfl) (by simpa using r.keeps (KA.push _ _)), n⟩
theorem none_at_size (h : Heap) : h.get? h.objs.size = none := by
  cases q : h.get? h.objs.size with
  | none => rfl
  | some o => exact absurd (Heap.lt_size q) (Nat.lt_irrefl _)
theorem res_push_list {h : Heap} {vs : List Value} {xs : List PyData} {as : List Addr} (r : RpAll h vs xs as) (n : ∀ b ∈ as, ¬ V b) : Res V oa h (h.push { cls := .type "list", data := .seq vs.toArray }) (.ref h.objs.size) (.list xs) .fresh :=
  ⟨_, _, vs.toArray, as, rfl, rfl, none_at_size h, ⟨_, Heap.get?_push_size _ rfl⟩, by simpa using r.keeps (KA.push _ _), n, fun q => by
    obtain ⟨o, e⟩ := readsAll_alive r _ q; rw [none_at_size] at e; cases e⟩
end

section
variable {prog : Program} {w : World} {A : Around} {E : Value → Shared → Prop} {V : Addr → Prop} {oa : Nat → Addr} {s : Shared} {h₁ h₂ : Heap}

theorem sound_add_tuple {t b : Addr} {vs ws : Array Value} {Q : Value → Shared → Prop} (ht : PlainTup s.heap t vs) (hb : PlainTup s.heap b ws) (hz : vs.size + ws.size ≤ sizeLine)
    (h0 : vs.toList = [] → Q (.ref b) s) (h1 : ws.toList = [] → Q (.ref t) s) (h : Q (.ref s.heap.objs.size) { s with heap := s.heap.push { cls := .type "tuple", data := .seq (vs.toList ++ ws.toList).toArray } }) :
    wpAny (model prog w) A (binaryOp .Add (.ref t) (.ref b)) Q E s := by
  obtain ⟨n, ht⟩ := ht
  obtain ⟨m, hb⟩ := hb
  by_cases e0 : vs.isEmpty = true
  · have : vs.toList = [] := by simpa [Array.isEmpty_iff] using e0
    exact concat_meets ⟨_, ht, rfl⟩ ⟨_, hb, rfl⟩ noFill_tuple_add seq_tuple_add F.slot_tuple_add F.entry_tuple_add (F.args_tuple_add_2 _ _) (AutoSeq1.tuple___add___tuple_tuple_0 t vs n b ws m e0) ⟨ht, hb, h0 this⟩
  · by_cases e1 : ws.isEmpty = true
    · have : ws.toList = [] := by simpa [Array.isEmpty_iff] using e1
      exact concat_meets ⟨_, ht, rfl⟩ ⟨_, hb, rfl⟩ noFill_tuple_add seq_tuple_add F.slot_tuple_add F.entry_tuple_add (F.args_tuple_add_2 _ _) (AutoSeq1.tuple___add___tuple_tuple_1 t vs n b ws m e0 e1) ⟨ht, hb, h1 this⟩
    · refine PySem.P.add_tuple ht hb e0 e1 ?_ hz
      have : (vs.toList ++ ws.toList).toArray = vs ++ ws := by simp
      rw [← this]; exact h

theorem sound_binP {op : Operator} {v₁ v₂ : Value} {x y : PyData} {t u : Tag} {Q : PyData → Tag → Prop} (r1 : Res V oa h₁ s.heap v₁ x t) (r2 : Res V oa h₂ s.heap v₂ y u) (h : binP op x y Q) :
    wpAny (model prog w) A (binaryOp op v₁ v₂) (Post V oa s Q) E s := by
  have two : ∀ {P : Int → Int → Prop} (g : ∀ i j ti tj, P i j → wpAny (model prog w) A (binaryOp op (.int i ti) (.int j tj)) (Post V oa s Q) E s), (onInt x fun i => onInt y fun j => P i j) → wpAny (model prog w) A (binaryOp op v₁ v₂) (Post V oa s Q) E s := fun g h1 => by
    obtain ⟨i, rfl, h2⟩ := onInt_of h1
    obtain ⟨j, rfl, h3⟩ := onInt_of h2
    obtain ⟨_, rfl⟩ := r1.int; obtain ⟨_, rfl⟩ := r2.int
    exact g i j _ _ h3
  cases op with
  | Add =>
    cases x with
    | int i =>
      obtain ⟨j, rfl, h⟩ := onInt_of h
      obtain ⟨_, rfl⟩ := r1.int; obtain ⟨_, rfl⟩ := r2.int; exact PySem.P.add_int (post_int h)
    | list xs =>
      obtain ⟨ys, rfl, h⟩ := onList_of h
      obtain ⟨a, vs, as, rfl, ⟨n, p1⟩, q1, n1⟩ := r1.items
      obtain ⟨b, ws, bs, rfl, ⟨m, p2⟩, q2, n2⟩ := r2.items
      obtain ⟨cs, q3, hc⟩ := q1.append q2
      have l1 := q1.len; have l2 := q2.len
      refine PySem.P.add_list p1 p2 ⟨_, _, h.2, kp_push, ?_⟩ (by have := h.1; simp only [Array.length_toList] at l1 l2; omega)
      have := res_push_list (V := V) (oa := oa) q3 fun b hb => (hc b hb).elim (n1 b) (n2 b)
      rw [show (vs.toList ++ ws.toList).toArray = vs ++ ws by simp] at this
      exact this
    | tuple xs =>
      obtain ⟨ys, rfl, h⟩ := onTuple_of h
      obtain ⟨a, vs, as, rfl, p1, q1, n1⟩ := r1.titems
      obtain ⟨b, ws, bs, rfl, p2, q2, n2⟩ := r2.titems
      obtain ⟨cs, q3, hc⟩ := q1.append q2
      have l1 := q1.len; have l2 := q2.len
      have nc : ∀ b ∈ cs, ¬ V b := fun b hb => (hc b hb).elim (n1 b) (n2 b)
      refine sound_add_tuple p1 p2 (by have := h.1; simp only [Array.length_toList] at l1 l2; omega) (fun e => ?_) (fun e => ?_) ⟨_, _, h.2, kp_push, res_push_tuple q3 nc⟩
      · obtain ⟨m, p2⟩ := p2
        rw [e] at q3 l1
        have : xs = [] := List.eq_nil_of_length_eq_zero l1.symm
        subst this
        exact ⟨_, _, h.2, kp_refl, cs, .tuple p2 (by simpa using q3), nc⟩
      · obtain ⟨m, p1⟩ := p1
        rw [e] at q3 l2
        have : ys = [] := List.eq_nil_of_length_eq_zero l2.symm
        subst this
        exact ⟨_, _, h.2, kp_refl, cs, .tuple p1 (by simpa using q3), nc⟩
    | _ => exact h.elim
  | Sub => exact two (fun i j _ _ h => PySem.P.sub_int (post_int h)) h
  | Mult => exact two (fun i j _ _ h => PySem.P.mul_int (post_int h.2) h.1) h
  | FloorDiv => exact two (fun i j _ _ h => floordiv_int h.1.1 (post_int h.2) (.inl (PyProof.noPylong_of_log2 h.1.2))) h
  | Mod => exact two (fun i j _ _ h => mod_int' h.1 (post_int h.2)) h
  | Pow => exact two (fun i j _ _ h => pow_int_small h.1.1 h.1.2.1 h.1.2.2 (post_int h.2)) h
  | _ => exact h.elim
end
end

section
set_option Elab.async false
open PySem PySem.Spec PyProof.Rows PySem.Calls PySem.MeetsSeq

section
variable {prog : Program} {w : World} {A : Around} {E : Value → Shared → Prop} {V : Addr → Prop} {oa : Nat → Addr} {s : Shared} {h₁ h₂ : Heap}

theorem intsOf_rp {h : Heap} {vs : List Value} {xs : List PyData} {as : List Addr} {ns : List Int} (r : RpAll h vs xs as) (e : intsOf xs = some ns) : vs.length = ns.length ∧ ∀ (i : Nat) v, vs[i]? = some v → ∃ k t, v = .int k t ∧ ns[i]? = some k := by
  revert ns
  refine RpAll.ind (P := fun vs xs _ => ∀ {ns : List Int}, intsOf xs = some ns → vs.length = ns.length ∧ ∀ (i : Nat) v, vs[i]? = some v → ∃ k t, v = .int k t ∧ ns[i]? = some k) ?_ ?_ r
  · intro ns e; cases e; exact ⟨rfl, fun i v q => by simp at q⟩
  · intro v vs d ds as bs h1 h2 ih ns e
    cases d with
    | int k =>
      obtain ⟨ms, e1, rfl⟩ := Option.map_eq_some_iff.mp (show (intsOf ds).map (k :: ·) = some ns from e)
      obtain ⟨i1, i2⟩ := ih e1
      refine ⟨congrArg (· + 1) i1, fun i v q => ?_⟩
      cases i with
      | zero => cases q; cases h1; exact ⟨_, _, rfl, rfl⟩
      | succ i => exact i2 i v q
    | _ => cases e

noncomputable def eqI (i : Int) (v : Value) : Bool := match v with | .int j _ => j == i | _ => false
theorem any_eqI : ∀ {vs : List Value} {ns : List Int} (i : Int), vs.length = ns.length → (∀ (j : Nat) v, vs[j]? = some v → ∃ k t, v = .int k t ∧ ns[j]? = some k) → vs.any (eqI i) = ns.contains i
  | [], [], _, _, _ => rfl
  | v :: vs, n :: ns, i, hl, h => by
    obtain ⟨k, t, rfl, e⟩ := h 0 v rfl
    simp at e; subst e
    have ih := any_eqI (vs := vs) (ns := ns) i (by simpa using hl) fun j v q => by simpa using h (j + 1) v (by simpa using q)
    rw [List.any_cons, List.contains_cons, ih]
    have : eqI i (.int n t) = (i == n) := by
      show (n == i) = (i == n)
      by_cases q : n = i
      · subst q; rfl
      · rw [beq_eq_false_iff_ne.mpr q, beq_eq_false_iff_ne.mpr (Ne.symm q)]
    rw [this]
theorem eqGives_I {vs : List Value} {ns : List Int} (i : Int) (u : Tok) (h : ∀ (j : Nat) v, vs[j]? = some v → ∃ k t, v = .int k t ∧ ns[j]? = some k) : ∀ y ∈ vs.toArray, EqGives y (.int i u) (eqI i y) := fun y hy => by
  have hy' : y ∈ vs := by simpa using hy
  obtain ⟨j, hj, rfl⟩ := List.getElem_of_mem hy'
  obtain ⟨k, t, e, _⟩ := h j _ (List.getElem?_eq_getElem hj)
  rw [e]; exact EqGives.int k i t u

theorem sound_mem {v₁ v₂ : Value} {x y : PyData} {t u : Tag} {Qb : Bool → Prop} (r1 : Res V oa h₁ s.heap v₁ x t) (r2 : Res V oa h₂ s.heap v₂ y u) (h : memP x y Qb) :
    ∃ b, Qb b ∧ ∀ (Q : Value → Shared → Prop), (Q (.bool b) s → wpAny (model prog w) A (compareOp .In v₁ v₂) Q E s) ∧ (Q (.bool (!b)) s → wpAny (model prog w) A (compareOp .NotIn v₁ v₂) Q E s) := by
  cases x with
  | int i =>
    cases y with
    | list l =>
      obtain ⟨k, rfl⟩ := r1.int
      obtain ⟨ns, e, q⟩ := h
      obtain ⟨a, vs, as, rfl, ⟨n, p⟩, r, _⟩ := r2.items
      obtain ⟨l1, l2⟩ := intsOf_rp r e
      have en : vs.any (eqI i) = ns.contains i := by rw [← Array.any_toList]; exact any_eqI i l1 l2
      have eg : ∀ y ∈ vs, EqGives y (.int i k) (eqI i y) := by simpa using eqGives_I i k l2
      exact ⟨_, q, fun Q => ⟨fun hq => SeqRoads2.in_list (eqI i) eg p (by rw [en]; exact hq), fun hq => SeqRoads2.notIn_list (eqI i) eg p (by rw [en]; exact hq)⟩⟩
    | tuple l =>
      obtain ⟨k, rfl⟩ := r1.int
      obtain ⟨ns, e, q⟩ := h
      obtain ⟨a, vs, as, rfl, ⟨n, p⟩, r, _⟩ := r2.titems
      obtain ⟨l1, l2⟩ := intsOf_rp r e
      have en : vs.any (eqI i) = ns.contains i := by rw [← Array.any_toList]; exact any_eqI i l1 l2
      have eg : ∀ y ∈ vs, EqGives y (.int i k) (eqI i y) := by simpa using eqGives_I i k l2
      exact ⟨_, q, fun Q => ⟨fun hq => SeqRoads2.in_tuple (eqI i) eg p (by rw [en]; exact hq), fun hq => SeqRoads2.notIn_tuple (eqI i) eg p (by rw [en]; exact hq)⟩⟩
    | _ => exact h.elim
  | _ => exact h.elim

theorem sound_is {v₁ v₂ : Value} {x y : PyData} {b : Bool} {as bs : List Addr} (r1 : Rp s.heap v₁ x as) (r2 : Rp s.heap v₂ y bs) (h : isP x y = some b) : plainIs v₁ v₂ = true ∧ (v₁ == v₂) = b := by
  unfold isP at h
  split at h
  · cases r2
    cases h
    cases r1 <;> exact ⟨rfl, rfl⟩
  · cases h

theorem sound_cmpP {op : CmpOp} {v₁ v₂ : Value} {x y : PyData} {t u : Tag} {Qb : Bool → Prop} (hu : A.units + 64 < cLine) (r1 : Res V oa h₁ s.heap v₁ x t) (r2 : Res V oa h₂ s.heap v₂ y u) (h : cmpP op x y Qb) :
    ∃ b, Qb b ∧ ∀ (Q : Value → Shared → Prop), Q (.bool b) s → wpAny (model prog w) A (compareOp op v₁ v₂) Q E s := by
  have sh : ∀ {d e : PyData}, shapedP d = true → shapedP e = true → d.canLay0 = true ∧ e.canLay0 = true ∧ A.units + min d.depth e.depth < cLine := fun {d e} h1 h2 => by
    unfold shapedP at h1 h2
    simp only [Bool.and_eq_true, decide_eq_true_eq] at h1 h2
    exact ⟨h1.1, h2.1, by omega⟩
  have two : ∀ {f : Int → Int → Bool} (g : ∀ i j ti tj (Q : Value → Shared → Prop), Q (.bool (f i j)) s → wpAny (model prog w) A (compareOp op (.int i ti) (.int j tj)) Q E s), (onInt x fun i => onInt y fun j => Qb (f i j)) →
      ∃ b, Qb b ∧ ∀ (Q : Value → Shared → Prop), Q (.bool b) s → wpAny (model prog w) A (compareOp op v₁ v₂) Q E s := fun g h1 => by
    obtain ⟨i, rfl, h2⟩ := onInt_of h1
    obtain ⟨j, rfl, h3⟩ := onInt_of h2
    obtain ⟨_, rfl⟩ := r1.int; obtain ⟨_, rfl⟩ := r2.int
    exact ⟨_, h3, g i j _ _⟩
  cases op with
  | Lt => exact two (fun _ _ _ _ Q hq => PySem.P.lt_int hq) h
  | LtE => exact two (fun _ _ _ _ Q hq => PySem.P.le_int hq) h
  | Gt => exact two (fun _ _ _ _ Q hq => PySem.P.gt_int hq) h
  | GtE => exact two (fun _ _ _ _ Q hq => PySem.P.ge_int hq) h
  | Eq =>
    obtain ⟨as, x1⟩ := r1.rp; obtain ⟨bs, x2⟩ := r2.rp
    obtain ⟨c1, c2, c3⟩ := sh h.1.1 h.1.2
    exact ⟨_, h.2, fun Q hq => SeqAt.compareEq_reads x1.reads x2.reads c1 c2 c3 hq⟩
  | NotEq =>
    obtain ⟨as, x1⟩ := r1.rp; obtain ⟨bs, x2⟩ := r2.rp
    obtain ⟨c1, c2, c3⟩ := sh h.1.1 h.1.2
    exact ⟨_, h.2, fun Q hq => SeqAt.compareNe_reads x1.reads x2.reads c1 c2 c3 hq⟩
  | Is =>
    obtain ⟨as, x1⟩ := r1.rp; obtain ⟨bs, x2⟩ := r2.rp
    obtain ⟨b, e, q⟩ := onSome_of h
    obtain ⟨p1, rfl⟩ := sound_is x1 x2 e
    exact ⟨_, q, fun Q hq => wpAny_is_plain p1 hq⟩
  | IsNot =>
    obtain ⟨as, x1⟩ := r1.rp; obtain ⟨bs, x2⟩ := r2.rp
    obtain ⟨b, e, q⟩ := onSome_of h
    obtain ⟨p1, rfl⟩ := sound_is x1 x2 e
    exact ⟨_, q, fun Q hq => wpAny_isNot_plain p1 hq⟩
  | In =>
    obtain ⟨b, q, f⟩ := sound_mem r1 r2 h
    exact ⟨b, q, fun Q => (f Q).1⟩
  | NotIn =>
    obtain ⟨b, q, f⟩ := sound_mem (Qb := fun b => Qb (!b)) r1 r2 h
    exact ⟨_, q, fun Q => (f Q).2⟩

theorem seqIndex_some {k : Int} {n j : Nat} (h : seqIndex? k n = some j) : j < n ∧ (0 ≤ k → j = k.toNat) ∧ (k < 0 → -(n : Int) ≤ k ∧ j = (k + n).toNat) := by
  unfold seqIndex? at h
  by_cases hk : k < 0
  · simp only [hk, if_true, Bool.and_eq_true, decide_eq_true_eq, Option.ite_none_right_eq_some, Option.some.injEq] at h
    obtain ⟨⟨h1, h2⟩, rfl⟩ := h
    exact ⟨by omega, fun q => absurd hk (Int.not_lt.mpr q), fun _ => ⟨by omega, rfl⟩⟩
  · simp only [hk, if_false, Bool.and_eq_true, decide_eq_true_eq, Option.ite_none_right_eq_some, Option.some.injEq] at h
    obtain ⟨⟨h1, h2⟩, rfl⟩ := h
    exact ⟨by omega, fun _ => rfl, fun q => absurd q hk⟩

theorem getItem_seq {l : Addr} {items : Array Value} {k : Int} {u : Tok} {j : Nat} {x : Value} {Q : Value → Shared → Prop} (hl : s.heap.IsList l items) (hj : seqIndex? k items.size = some j) (hx : items[j]? = some x)
    (hlo : -(2 ^ 63) ≤ k) (hhi : k < 2 ^ 63) (h : Q x s) : wpAny (model prog w) A (getItem (.ref l) (.int k u)) Q E s := by
  obtain ⟨h1, h2, h3⟩ := seqIndex_some hj
  by_cases hk : 0 ≤ k
  · exact wpAny_getItem_list hl hk hhi (by rw [← h2 hk]; exact hx) h
  · have hk' : k < 0 := Int.not_le.mp hk
    exact wpAny_getItem_list_neg hl hk' (h3 hk').1 hlo (by rw [← (h3 hk').2]; exact hx) h

theorem sub_plain {slice : Expr} (h : ∀ a b c d, slice ≠ .Slice a b c d) (o i : Value) : subscripted slice false o i = operate [o, i] (getItem o i) := by
  cases slice <;> first | rfl | exact (h _ _ _ _ rfl).elim

theorem sound_subP {value slice : Expr} {v₁ v₂ : Value} {x y : PyData} {t u : Tag} {Q : PyData → Tag → Prop} (hs : ∀ a b c d, slice ≠ .Slice a b c d)
    (r1 : Res V oa h₁ s.heap v₁ x t) (r2 : Res V oa h₂ s.heap v₂ y u) (h : subP x y Q) :
    wpAny (model prog w) A (subscriptTail value slice v₁ v₂) (Post V oa s Q) E s := by
  rcases onSeq_of h with ⟨l, rfl, h1⟩ | ⟨l, rfl, h1⟩
  · obtain ⟨k, rfl, j, d, e1, e2, ⟨b1, b2⟩, q⟩ := onInt_of h1
    obtain ⟨tk, rfl⟩ := r2.int
    obtain ⟨a, vs, as, rfl, p, r, n⟩ := r1.items
    obtain ⟨v, bs, e3, r3, hb⟩ := r.get e2
    have hl := p.isList
    refine tail_any hl.typeIs slot_list_getitem.lookup (getItem_seq hl (by rw [← Array.length_toList, r.len]; exact e1) (by simpa using e3) b1 b2 ⟨d, .old, q, kp_refl, bs, r3, fun b m => n b (hb b m)⟩) (sub_plain hs _ _)
  · obtain ⟨k, rfl, j, d, e1, e2, ⟨b1, b2⟩, q⟩ := onInt_of h1
    obtain ⟨tk, rfl⟩ := r2.int
    obtain ⟨a, vs, as, rfl, ⟨m, p⟩, r, n⟩ := r1.titems
    obtain ⟨v, bs, e3, r3, hb⟩ := r.get e2
    refine tail_any (T := "tuple") ⟨_, p, rfl⟩ F.slot_tuple_getitem.lookup (PySem.P.getItem_tuple p b1 b2 (by rw [← Array.length_toList, r.len]; exact e1) (by simpa using e3) ⟨d, .old, q, kp_refl, bs, r3, fun b m => n b (hb b m)⟩) (sub_plain hs _ _)
end
end

section
set_option Elab.async false
open PySem PySem.Spec PyProof.Rows PySem.Calls

noncomputable def Room (A : Around) (n : Nat) : Prop := A.handled = none ∧ A.depth + n + 1 < recursionLimit ∧ A.units + 16 * n + 200 < cLine
theorem Room.le {A : Around} {n m : Nat} (r : Room A n) (h : m ≤ n) : Room A m := ⟨r.1, by have := r.2.1; omega, by have := r.2.2; omega⟩
theorem Room.u {A : Around} {n : Nat} (r : Room A n) : A.units + 64 < cLine := by have := r.2.2; omega

abbrev NoE : Value → Shared → Prop := fun _ _ => False

/-- the expressions of a level answer as the model does -/
noncomputable def SE (prog : Program) (w : World) (T : Table) (fs : Fs) (mg mb : Str → Option Value) (n : Nat) : Prop :=
  ∀ (k : Nat) (cx : Cx) (e : Expr) (pe : PE) (A : Around) (g : Heap) (s : Shared) (env : Env) (ρ : Rho) (oa : Nat → Addr) (V : Addr → Prop) (Q : PyData → Tag → Prop),
    cx.fs = fs → cE k cx e = some pe → Room A n → Gw T fs mg mb g → Fm g s.heap cx env ρ oa V → (lev T n).E ρ pe Q → wpAny (model prog w) A (eval e env) (Post V oa s Q) NoE s

noncomputable def ResAll (V : Addr → Prop) (oa : Nat → Addr) (h h' : Heap) : List Value → List (PyData × Tag) → Prop
  | [], [] => True
  | v :: vs, (d, t) :: r => Res V oa h h' v d t ∧ ResAll V oa h h' vs r
  | _, _ => False
theorem ResAll.base {V : Addr → Prop} {oa : Nat → Addr} {h₀ h h' : Heap} (k : KA h₀ h) : ∀ {vs : List Value} {r : List (PyData × Tag)}, ResAll V oa h h' vs r → ResAll V oa h₀ h' vs r
  | [], [], _ => trivial
  | _ :: _, (_, _) :: _, ⟨a, b⟩ => ⟨a.base k, ResAll.base k b⟩
  | [], _ :: _, h => h.elim
  | _ :: _, [], h => h.elim
theorem ResAll.ka {V : Addr → Prop} {oa : Nat → Addr} {h h' h'' : Heap} (k : KA h' h'') : ∀ {vs : List Value} {r : List (PyData × Tag)}, ResAll V oa h h' vs r → ResAll V oa h h'' vs r
  | [], [], _ => trivial
  | _ :: _, (_, _) :: _, ⟨a, b⟩ => ⟨a.ka k, ResAll.ka k b⟩
  | [], _ :: _, h => h.elim
  | _ :: _, [], h => h.elim
theorem ResAll.rp {V : Addr → Prop} {oa : Nat → Addr} {h h' : Heap} (hV : ∀ b, V b → ∃ o, h.get? b = some o) : ∀ {vs : List Value} {r : List (PyData × Tag)}, ResAll V oa h h' vs r → (r.all fun x => !x.2.isVar) = true →
    ∃ as, RpAll h' vs (r.map (·.1)) as ∧ ∀ b ∈ as, ¬ V b
  | [], [], _, _ => ⟨[], .nil, fun _ m => nomatch m⟩
  | _ :: _, (_, _) :: _, ⟨a, b⟩, hr => by
    simp only [List.all_cons, Bool.and_eq_true, Bool.not_eq_true'] at hr
    obtain ⟨as, x, n⟩ := a.old hr.1 hV
    obtain ⟨bs, y, m⟩ := ResAll.rp hV b hr.2
    exact ⟨_, .cons x y, fun c hc => (List.mem_append.mp hc).elim (n c) (m c)⟩
  | [], _ :: _, h, _ => h.elim
  | _ :: _, [], h, _ => h.elim
theorem ResAll.len {V : Addr → Prop} {oa : Nat → Addr} {h h' : Heap} : ∀ {vs : List Value} {r : List (PyData × Tag)}, ResAll V oa h h' vs r → vs.length = r.length
  | [], [], _ => rfl
  | _ :: _, (_, _) :: _, ⟨_, b⟩ => by simp [ResAll.len b]
  | [], _ :: _, h => h.elim
  | _ :: _, [], h => h.elim

section
variable {prog : Program} {w : World} {T : Table} {fs : Fs} {mg mb : Str → Option Value} {n : Nat}

theorem starEach_plain {e : Expr} (h : ∀ a b, e ≠ .Starred a b) (rest : List Expr) (env : Env) : starEach (e :: rest) env = (false, eval e env) :: starEach rest env := by
  cases e <;> first | rfl | exact (h _ _ rfl).elim

theorem cList_cons {f : Expr → Option PE} {e : Expr} {r : List Expr} {l : List PE} (h : cList f (e :: r) = some l) : (∀ a b, e ≠ .Starred a b) ∧ ∃ a b, f e = some a ∧ cList f r = some b ∧ l = a :: b := by
  obtain ⟨h0, h⟩ := gd_some h
  obtain ⟨a, h1, h⟩ := bind_some h
  obtain ⟨b, h2, h⟩ := bind_some h
  cases h
  exact ⟨isStar_no (by simpa using h0), a, b, h1, h2, rfl⟩

theorem sound_evs (hE : SE prog w T fs mg mb n) {k : Nat} {cx : Cx} {A : Around} {g : Heap} {env : Env} {ρ : Rho} {oa : Nat → Addr} {V : Addr → Prop} {pos : Pos} (hf : cx.fs = fs) (hR : Room A n) (G : Gw T fs mg mb g) :
    ∀ (es : List Expr) (pes : List PE) (s : Shared) (Q : List (PyData × Tag) → Prop), cList (cE k cx) es = some pes → Fm g s.heap cx env ρ oa V → evs ((lev T n).E ρ) pes Q →
      wpAny (model prog w) A (spliced (backTo pos (starEach es env))) (fun vs s' => ∃ r, Q r ∧ Keeps s s' ∧ ResAll V oa s.heap s'.heap vs r) NoE s
  | [], pes, s, Q, hc, F, h => by cases hc; exact spliced_none ⟨[], h, kp_refl, trivial⟩
  | e :: es, pes, s, Q, hc, F, h => by
    obtain ⟨hns, a, b, h1, h2, rfl⟩ := cList_cons hc
    refine spliced_more (wpAny_mono (hE k cx e a A g s env ρ oa V _ hf h1 hR G F h) (fun v s₁ p => ?_) fun _ _ x => x) (starEach_plain hns es env)
    obtain ⟨d, t, q, k1, r1⟩ := p
    refine wpAny_mono (sound_evs hE hf hR G es b s₁ _ h2 (F.ka (kp_heap k1)) q) (fun vs s₂ p => ?_) fun _ _ x => x
    obtain ⟨r, q', k2, r2⟩ := p
    exact ⟨_, q', kp_trans k1 k2, r1.ka (kp_heap k2), r2.base (kp_heap k1)⟩

theorem wpAny_boolOp_cons {M : Model} {A : Around} {E : Value → Shared → Prop} {s : Shared} {pos : Pos} {op : BoolOp} {x y : Sem Value} {rest : List (Sem Value)} {Q : Value → Shared → Prop}
    (h : wpAny M A x (fun v s₁ => ∃ b, v = .bool b ∧ ((op = .And ∧ b = false) ∨ (op = .Or ∧ b = true) → Q v s₁) ∧ ((op = .And ∧ b = true) ∨ (op = .Or ∧ b = false) → wpAny M A (boolOp pos op (y :: rest)) Q E s₁)) E s) :
    wpAny M A (boolOp pos op (x :: y :: rest)) Q E s := by
  unfold boolOp
  refine wpAny_bind (wpAny_mono h (fun v s₁ p => ?_) fun _ _ x => x)
  obtain ⟨b, rfl, p1, p2⟩ := p
  refine wpAny_bind (wpAny_standAt (wpAny_bind (wpAny_holding (wpAny_truthy_bool ?_))))
  cases op <;> cases b
  · exact wpAny_pure (p1 (.inl ⟨rfl, rfl⟩))
  · exact p2 (.inl ⟨rfl, rfl⟩)
  · exact p2 (.inr ⟨rfl, rfl⟩)
  · exact wpAny_pure (p1 (.inr ⟨rfl, rfl⟩))

theorem cBool_two {f : Expr → Option PE} {op : BoolOp} {e e' : Expr} {r : List Expr} {pe : PE} (h : cBool f op (e :: e' :: r) = some pe) :
    ∃ a b, f e = some a ∧ cBool f op (e' :: r) = some b ∧ pe = mkBool op a b := by
  obtain ⟨a, h1, h⟩ := bind_some h
  obtain ⟨b, h2, h⟩ := bind_some h
  cases h
  exact ⟨a, b, h1, h2, rfl⟩

theorem sound_bool {k : Nat} {cx : Cx} {A : Around} {g : Heap} {env : Env} {ρ : Rho} {oa : Nat → Addr} {V : Addr → Prop} {pos : Pos} {op : BoolOp} (hf : cx.fs = fs) (G : Gw T fs mg mb g) :
    ∀ (es : List Expr) (pe : PE) (n : Nat) (s : Shared) (Q : PyData → Tag → Prop), (∀ m, m ≤ n → SE prog w T fs mg mb m) → Room A n → cBool (cE k cx) op es = some pe → Fm g s.heap cx env ρ oa V → (lev T n).E ρ pe Q →
      wpAny (model prog w) A (boolOp pos op (evalEach es env)) (Post V oa s Q) NoE s
  | [], _, _, _, _, _, _, hc, _, _ => by cases hc
  | [e], pe, n, s, Q, IH, hR, hc, F, h => IH n (Nat.le_refl n) k cx e pe A g s env ρ oa V Q hf hc hR G F h
  | e :: e' :: r, pe, 0, s, Q, IH, hR, hc, F, h => h.elim
  | e :: e' :: r, pe, n + 1, s, Q, IH, hR, hc, F, h => by
    obtain ⟨a, b, h1, h2, rfl⟩ := cBool_two hc
    have IH' : ∀ m, m ≤ n → SE prog w T fs mg mb m := fun m hm => IH m (Nat.le_succ_of_le hm)
    have hR' := hR.le (Nat.le_succ n)
    cases op with
    | And =>
      refine wpAny_boolOp_cons (wpAny_mono (IH' n (Nat.le_refl n) k cx e a A g s env ρ oa V _ hf h1 hR' G F h) (fun v s₁ p => ?_) fun _ _ x => x)
      obtain ⟨d, t, q, k1, r1⟩ := p
      cases d with
      | bool c =>
        refine ⟨c, r1.bool, fun hc => ?_, fun hc => ?_⟩
        · rcases hc with ⟨_, rfl⟩ | ⟨hc, _⟩
          · rw [r1.bool]; exact ⟨_, _, q.2 rfl, k1, res_bool _⟩
          · cases hc
        · rcases hc with ⟨_, rfl⟩ | ⟨hc, _⟩
          · exact wpAny_mono (sound_bool hf G (e' :: r) b n s₁ Q IH' hR' h2 (F.ka (kp_heap k1)) (q.1 rfl)) (fun _ _ p => p.base k1) fun _ _ x => x
          · cases hc
      | _ => exact q.elim
    | Or =>
      refine wpAny_boolOp_cons (wpAny_mono (IH' n (Nat.le_refl n) k cx e a A g s env ρ oa V _ hf h1 hR' G F h) (fun v s₁ p => ?_) fun _ _ x => x)
      obtain ⟨d, t, q, k1, r1⟩ := p
      cases d with
      | bool c =>
        refine ⟨c, r1.bool, fun hc => ?_, fun hc => ?_⟩
        · rcases hc with ⟨hc, _⟩ | ⟨_, rfl⟩
          · cases hc
          · rw [r1.bool]; exact ⟨_, _, q.1 rfl, k1, res_bool _⟩
        · rcases hc with ⟨hc, _⟩ | ⟨_, rfl⟩
          · cases hc
          · exact wpAny_mono (sound_bool hf G (e' :: r) b n s₁ Q IH' hR' h2 (F.ka (kp_heap k1)) (q.2 rfl)) (fun _ _ p => p.base k1) fun _ _ x => x
      | _ => exact q.elim
end
end

section
set_option Elab.async false
open PySem PySem.Spec PyProof.Rows PySem.Calls

section
variable {prog : Program} {w : World} {A : Around} {E : Value → Shared → Prop} {V : Addr → Prop} {oa : Nat → Addr} {s : Shared} {h₀ : Heap}

theorem sound_isi {t : String} {d : PyData} {b : Bool} {v : Value} {as : List Addr} {Q : Value → Shared → Prop} (r : Rp s.heap v d as) (h : isInstP t d = some b) (h0 : Q (.bool b) s) (h1 : ∀ tk, Q (.bool b) { s with toks := tk }) :
    wpAny (model prog w) A (call (.builtin "isinstance") [v, .type t]) Q E s := by
  unfold isInstP at h
  split at h
  · cases h; cases r with
    | none => exact IsiPair.NoneType_int (h1 _)
    | bool b => exact IsiPair.bool_int h0
    | int i t => exact IsiPair.int_int h0
    | str x t => exact IsiPair.str_int (h1 _)
    | list p _ => exact IsiPair.list_int p rfl (h1 _)
    | tuple p _ => exact IsiPair.tuple_int p rfl (h1 _)
  · cases h; cases r with
    | none => exact IsiPair.NoneType_bool (h1 _)
    | bool b => exact IsiPair.bool_bool h0
    | int i t => exact IsiPair.int_bool (h1 _)
    | str x t => exact IsiPair.str_bool (h1 _)
    | list p _ => exact IsiPair.list_bool p rfl (h1 _)
    | tuple p _ => exact IsiPair.tuple_bool p rfl (h1 _)
  · cases h; cases r with
    | none => exact IsiPair.NoneType_tuple (h1 _)
    | bool b => exact IsiPair.bool_tuple (h1 _)
    | int i t => exact IsiPair.int_tuple (h1 _)
    | str x t => exact IsiPair.str_tuple (h1 _)
    | list p _ => exact IsiPair.list_tuple p rfl (h1 _)
    | tuple p _ => exact IsiPair.tuple_tuple p rfl h0
  · cases h; cases r with
    | none => exact IsiPair.NoneType_list (h1 _)
    | bool b => exact IsiPair.bool_list (h1 _)
    | int i t => exact IsiPair.int_list (h1 _)
    | str x t => exact IsiPair.str_list (h1 _)
    | list p _ => exact IsiPair.list_list p rfl h0
    | tuple p _ => exact IsiPair.tuple_list p rfl (h1 _)
  · cases h; cases r with
    | none => exact IsiPair.NoneType_str (h1 _)
    | bool b => exact IsiPair.bool_str (h1 _)
    | int i t => exact IsiPair.int_str (h1 _)
    | str x t => exact IsiPair.str_str h0
    | list p _ => exact IsiPair.list_str p rfl (h1 _)
    | tuple p _ => exact IsiPair.tuple_str p rfl (h1 _)
  · cases h

/-- a walk over a list or a tuple: what the iterator is -/
structure ItOf (prog : Program) (w : World) (A : Around) (s s₂ : Shared) (I ax : Addr) (items : Array Value) (St : Nat → Heap → Prop) : Prop where
  W : Walks prog w A I [I, ax] [I] items.size (fun i v => items[i]? = some v) St
  st : St 0 s₂.heap
  lt : ∀ b ∈ [I, ax], b < s₂.heap.objs.size
  new : s.heap.get? I = none
  kp : Keeps s s₂
  ne : ax ≠ I

theorem iter_list {a : Addr} {vs : Array Value} {Q : Value → Shared → Prop} (hh : A.handled = none) (p : s.heap.PlainList a vs)
    (h : ∀ I s₂ St, ItOf prog w A s s₂ I a vs St → Q (.ref I) s₂) : wpAny (model prog w) A (pyIter (.ref a)) Q E s := by
  have hl := p.isList
  have hlt : a < s.heap.objs.size := by obtain ⟨n, e⟩ := p; exact Heap.lt_size e
  refine wpAny_pyIter_list hl (h _ _ _ ⟨Walks.list hh _ _ (Nat.ne_of_lt hlt) vs, ⟨⟨_, Heap.get?_push_size _ rfl, rfl, rfl⟩, hl.push _⟩, ?_, none_at_size _, kp_push, Nat.ne_of_lt hlt⟩)
  intro b hb
  rw [Heap.size_push]
  rcases List.mem_cons.mp hb with rfl | hb
  · exact Nat.lt_succ_self _
  · rw [List.mem_singleton.mp hb]; exact Nat.lt_succ_of_lt hlt

theorem iter_tuple {a : Addr} {vs : Array Value} {Q : Value → Shared → Prop} (hh : A.handled = none) (p : PlainTup s.heap a vs)
    (h : ∀ I s₂ St, ItOf prog w A s s₂ I a vs St → Q (.ref I) s₂) : wpAny (model prog w) A (pyIter (.ref a)) Q E s := by
  obtain ⟨n, e⟩ := p
  have ht : s.heap.IsTuple a vs := ⟨_, e, rfl, n, rfl⟩
  have hlt : a < s.heap.objs.size := Heap.lt_size e
  refine wpAny_pyIter_tuple ht (h _ _ _ ⟨Walks.tuple hh _ _ (Nat.ne_of_lt hlt) vs, ⟨⟨_, Heap.get?_push_size _ rfl, rfl, rfl⟩, ht.push _⟩, ?_, none_at_size _, kp_push, Nat.ne_of_lt hlt⟩)
  intro b hb
  rw [Heap.size_push]
  rcases List.mem_cons.mp hb with rfl | hb
  · exact Nat.lt_succ_self _
  · rw [List.mem_singleton.mp hb]; exact Nat.lt_succ_of_lt hlt

/-- behind the walk all that was there before it stands -/
theorem ItOf.kept {s₂ : Shared} {I ax : Addr} {vs : Array Value} {St : Nat → Heap → Prop} (x : ItOf prog w A s s₂ I ax vs St) {h' : Heap} {tk : Nat} (hk : ∀ b o, b ∉ [I] → s₂.heap.get? b = some o → h'.get? b = some o) :
    Keeps s { s₂ with heap := h', toks := tk } := by
  obtain ⟨h2, t2, rfl, k⟩ := x.kp
  refine ⟨h', tk, rfl, fun b o e => hk b o (fun m => ?_) (k b o e)⟩
  rw [List.mem_singleton.mp m, x.new] at e; cases e

theorem preSum_ns (ns : List Int) : ∀ k, preSum (fun j => ns.getD j 0) k = (ns.take k).sum
  | 0 => by simp [preSum]
  | k + 1 => by rw [preSum, preSum_ns ns k, PySem.sum_take_succ]

theorem maxL_spec : ∀ (r : List Int) (a : Int), (maxL a r ∈ a :: r) ∧ ∀ x ∈ a :: r, x ≤ maxL a r
  | [], a => ⟨by simp [maxL], fun x hx => by simp at hx; subst hx; simp [maxL]⟩
  | b :: r, a => by
    obtain ⟨h1, h2⟩ := maxL_spec r (if a < b then b else a)
    rw [maxL]
    refine ⟨?_, fun x hx => ?_⟩
    · rcases List.mem_cons.mp h1 with e | m
      · rw [e]; split <;> simp
      · simp [m]
    · have hm := h2 (if a < b then b else a) (by simp)
      generalize maxL (if a < b then b else a) r = M at hm h2 ⊢
      rcases List.mem_cons.mp hx with rfl | hx
      · split at hm <;> omega
      · rcases List.mem_cons.mp hx with rfl | hx
        · split at hm <;> omega
        · exact h2 x (by simp [hx])

theorem max_is (ns : List Int) (a : Int) (r : List Int) (e : ns = a :: r) : ns.getD (argBest (fun i j => decide (ns.getD i 0 > ns.getD j 0)) (ns.length - 1)) 0 = maxL a r := by
  obtain ⟨h1, h2⟩ := argBest_gt (fun j => ns.getD j 0) (ns.length - 1)
  obtain ⟨m1, m2⟩ := maxL_spec r a
  rw [← e] at m1 m2
  have hl : 0 < ns.length := by rw [e]; simp
  generalize argBest (fun i j => decide (ns.getD i 0 > ns.getD j 0)) (ns.length - 1) = k at *
  have hk : k < ns.length := by omega
  have q1 := m2 _ (getD_mem hk)
  obtain ⟨j, hj, ej⟩ := mem_getD m1
  have q2 := h2 j (by omega)
  rw [ej] at q2
  omega
end
end

section
set_option Elab.async false
open PySem PySem.Spec PyProof.Rows PySem.Calls

section
variable {prog : Program} {w : World} {A : Around} {R : Result → Shared → Prop} {I : Addr} {fp wr : List Addr} {n : Nat} {P : Nat → Value → Prop} {St : Nat → Heap → Prop} {kw : List (Str × Value)}

theorem mx_loop (W : Walks prog w A.in1 I fp wr n P St) (bt : Nat → Nat → Bool) (hcmp : CmpOf prog w A.in1 .Gt P bt) (S : Addr) (hSf : S ∉ fp) :
    ∀ (k j : Nat) (s : Shared) (vb : Value) (c : Nat), n - (j + 1) = k → j + 1 ≤ n → St (j + 1) s.heap → P (argBest bt j) vb →
    s.heap.get? S = some { cls := .type "list", dict := none, data := .seq #[vb, vb] c, slots := #[] } →
    (∀ v h' tk, P (argBest bt (n - 1)) v → (∀ b o, b ∉ wr → b ≠ S → s.heap.get? b = some o → h'.get? b = some o) → R (.ok (.ret v)) { s with heap := h', toks := tk }) →
    codeAny (model prog w) A (.builtin "max.loop" ⟨[.ref I, .none, .ref S], kw⟩) R s := by
  have hSw : S ∉ wr := fun h => hSf (W.sub _ h)
  have hname : (toString "max" ++ toString ".loop" : String) = "max.loop" := by decide
  intro k
  induction k with
  | zero =>
    intro j s vb c hk hj hst hPb hS hR
    have hin : j + 1 = n := by omega
    refine codeAny_builtin F.entry_max_loop ?_
    rw [Around.under_plainId F.plain_max_loop _]
    show wpAny _ A.in1 (seqItems? (.ref S) >>= _) _ _ s
    refine wpAny_bind (wpAny_seqItems hS rfl ?_)
    show wpAny _ A.in1 (tryCatch (pyNext (.ref I)) _ >>= _) _ _ s
    refine wpAny_bind (wpAny_tryCatch (W.done s _ _ (hin ▸ hst) fun h' tk hk' => ?_))
    have hS' := hk' S _ hSw hS
    show wpAny _ A.in1 (updateSeq S (fun _ => #[]) >>= _) _ _ _
    refine wpAny_bind ?_
    refine wpAny_updateSeq hS' rfl (wpAny_bind (wpAny_letGo (wpAny_pure ?_)))
    refine hR vb _ tk (by rw [← hin]; exact hPb) fun b o hbw hbS e => (Heap.get?_update_other _ _ (Ne.symm hbS)).trans (hk' b o hbw e)
  | succ k ih =>
    intro j s vb c hk hj hst hPb hS hR
    have hlt : j + 1 < n := by omega
    refine codeAny_builtin F.entry_max_loop ?_
    rw [Around.under_plainId F.plain_max_loop _]
    show wpAny _ A.in1 (seqItems? (.ref S) >>= _) _ _ s
    refine wpAny_bind (wpAny_seqItems hS rfl ?_)
    show wpAny _ A.in1 (tryCatch (pyNext (.ref I)) _ >>= _) _ _ s
    refine wpAny_bind (wpAny_tryCatch (W.item (j + 1) s _ _ hlt hst fun v h' tk hP hst' hk' => ?_))
    have hS' := hk' S _ hSw hS
    show wpAny _ A.in1 (tryCatch (holding [v, v] (richCompare .Gt v vb >>= _)) _ >>= _) _ _ _
    refine wpAny_bind (wpAny_tryCatch (wpAny_holding (wpAny_bind (hcmp (j + 1) (argBest bt j) v vb _ _ _ hP hPb ?_))))
    refine wpAny_bind (wpAny_holding (wpAny_truthy_bool ?_))
    refine wpAny_bind (wpAny_letGo (wpAny_pure ?_))
    cases hb : bt (j + 1) (argBest bt j) with
    | true =>
      simp only [if_true]
      refine wpAny_bind ?_
      refine wpAny_updateSeq hS' rfl (wpAny_bind (wpAny_letGo ?_))
      rw [hname]
      refine wpAny_pure ⟨plainId_quiet F.plain_max_loop _, ih (j + 1) _ v _ (by omega) hlt (W.frame _ _ _ hst' fun b hbf o e => ?_) (by simp only [argBest, hb, if_true]; exact hP) (Heap.get?_update_self _ hS' rfl)
        fun v' h'' tk'' hP' hk'' => ?_⟩
      · exact (Heap.get?_update_other _ _ (fun h : S = b => hSf (by rw [h]; exact hbf))).trans e
      · exact hR v' h'' tk'' hP' fun b o hbw hbS e => hk'' b o hbw hbS ((Heap.get?_update_other _ _ (Ne.symm hbS)).trans (hk' b o hbw e))
    | false =>
      simp only [Bool.false_eq_true, if_false]
      refine wpAny_bind (wpAny_letGo ?_)
      rw [hname]
      refine wpAny_pure ⟨plainId_quiet F.plain_max_loop _, ih (j + 1) _ vb c (by omega) hlt hst' (by simp only [argBest, hb, Bool.false_eq_true, if_false]; exact hPb) hS' fun v' h'' tk'' hP' hk'' => ?_⟩
      exact hR v' h'' tk'' hP' fun b o hbw hbS e => hk'' b o hbw hbS (hk' b o hbw e)

theorem mx_first (W : Walks prog w A.in1 I fp wr n P St) (bt : Nat → Nat → Bool) (hcmp : CmpOf prog w A.in1 .Gt P bt) (S : Addr) (hSf : S ∉ fp) (hn : 0 < n) {s : Shared} {c : Nat} (hst : St 0 s.heap)
    (hS : s.heap.get? S = some { cls := .type "list", dict := none, data := .seq #[] c, slots := #[] })
    (hR : ∀ v h' tk, P (argBest bt (n - 1)) v → (∀ b o, b ∉ wr → b ≠ S → s.heap.get? b = some o → h'.get? b = some o) → R (.ok (.ret v)) { s with heap := h', toks := tk }) :
    codeAny (model prog w) A (.builtin "max.loop" ⟨[.ref I, .none, .ref S], kw⟩) R s := by
  have hSw : S ∉ wr := fun h => hSf (W.sub _ h)
  have hname : (toString "max" ++ toString ".loop" : String) = "max.loop" := by decide
  refine codeAny_builtin F.entry_max_loop ?_
  rw [Around.under_plainId F.plain_max_loop _]
  show wpAny _ A.in1 (seqItems? (.ref S) >>= _) _ _ s
  refine wpAny_bind (wpAny_seqItems hS rfl ?_)
  show wpAny _ A.in1 (tryCatch (pyNext (.ref I)) _ >>= _) _ _ s
  refine wpAny_bind (wpAny_tryCatch (W.item 0 s _ _ hn hst fun v h' tk hP hst' hk' => ?_))
  have hS' := hk' S _ hSw hS
  show wpAny _ A.in1 (updateSeq S (fun _ => #[v, v]) >>= _) _ _ _
  refine wpAny_bind ?_
  refine wpAny_updateSeq hS' rfl ?_
  rw [hname]
  refine wpAny_pure ⟨plainId_quiet F.plain_max_loop _, mx_loop W bt hcmp S hSf _ 0 _ v _ rfl hn (W.frame _ _ _ hst' fun b hbf o e => ?_) hP (Heap.get?_update_self _ hS' rfl) fun v' h'' tk'' hP' hk'' => ?_⟩
  · exact (Heap.get?_update_other _ _ (fun h : S = b => hSf (by rw [h]; exact hbf))).trans e
  · exact hR v' h'' tk'' hP' fun b o hbw hbS e => hk'' b o hbw hbS ((Heap.get?_update_other _ _ (Ne.symm hbS)).trans (hk' b o hbw e))

theorem mx_empty {x : Str} {d : Value} (W : Walks prog w A.in1 I fp wr n P St) (S : Addr) (hSf : S ∉ fp) (hn : n = 0) {s : Shared} {c : Nat} (hst : St 0 s.heap)
    (hS : s.heap.get? S = some { cls := .type "list", dict := none, data := .seq #[] c, slots := #[] })
    (hR : ∀ h' tk, (∀ b o, b ∉ wr → s.heap.get? b = some o → h'.get? b = some o) → R (.ok (.ret d)) { s with heap := h', toks := tk }) :
    codeAny (model prog w) A (.builtin "max.loop" ⟨[.ref I, .none, .ref S], [(x, d)]⟩) R s := by
  subst hn
  refine codeAny_builtin F.entry_max_loop ?_
  rw [Around.under_plainId F.plain_max_loop _]
  show wpAny _ A.in1 (seqItems? (.ref S) >>= _) _ _ s
  refine wpAny_bind (wpAny_seqItems hS rfl ?_)
  show wpAny _ A.in1 (tryCatch (pyNext (.ref I)) _ >>= _) _ _ s
  refine wpAny_bind (wpAny_tryCatch (W.done s _ _ hst fun h' tk hk' => ?_))
  exact wpAny_bind (wpAny_rule (wpAny_pure (hR h' tk hk')))
end

section
variable {prog : Program} {w : World} {A : Around} {E : Value → Shared → Prop} {s : Shared}
theorem args_max_d (a : Value) : argsOk "max" ⟨[a], [(Str.ofString "default", .none)]⟩ := by unfold argsOk; kernel_rfl

theorem call_tree_kw {id : String} {b : Builtin} {args : List Value} {kw : List (Str × Value)} {Q : Value → Shared → Prop} (hk : builtinKind id = none) (hp : plainId id = true)
    (hb : entryFor table id = some b) (ha : argsOk id ⟨args, kw⟩)
    (hc : wpAny (model prog w) A.in1 (b ⟨args, kw⟩) (fun fin s' => match fin with
      | .done f => (match (Except.ok f : Result) with | .ok (.ret v) => Q v s' | .ok _ => False | .error e => E e s')
      | .again c' => c'.quiet = true ∧ codeAny (model prog w) A c' (fun r s' => match r with | .ok (.ret v) => Q v s' | .ok _ => False | .error e => E e s') s') E s) :
    wpAny (model prog w) A (call (.builtin id) args kw) Q E s := by
  refine wpAny_call (codeAny_call_builtin hp hb ?_)
  simp only [checkBuiltinCall, hk]
  cases hsig : Manifest.signature? id with
  | none => exact wpAny_pure hc
  | some sig =>
    have ha' : Bind.checkArgs id sig ⟨args, kw⟩ = pure () := by simpa only [argsOk, hsig] using ha
    simp only [ha']
    exact wpAny_pure hc

theorem call_max_default {x : Value} {Q : Value → Shared → Prop}
    (h : wpAny (model prog w) A.in1 (pyIter x) (fun it s₂ => ∃ I fp wr n P St bt, it = .ref I ∧ Walks prog w A.in1 I fp wr n P St ∧ St 0 s₂.heap ∧ (∀ b ∈ fp, b < s₂.heap.objs.size) ∧ CmpOf prog w A.in1 .Gt P bt ∧
      (n = 0 → ∀ h' tk, (∀ b o, b ∉ wr → s₂.heap.get? b = some o → h'.get? b = some o) → Q .none { s₂ with heap := h', toks := tk }) ∧
      (0 < n → ∀ v h' tk, P (argBest bt (n - 1)) v → (∀ b o, b ∉ wr → s₂.heap.get? b = some o → h'.get? b = some o) → Q v { s₂ with heap := h', toks := tk })) E s) :
    wpAny (model prog w) A (call (.builtin "max") [x] [(Str.ofString "default", .none)]) Q E s := by
  have hname : (toString "max" ++ toString ".loop" : String) = "max.loop" := by decide
  refine call_tree_kw F.kind_max F.plain_max F.entry_max (args_max_d _) ?_
  show wpAny _ A.in1 (Builtin.Builtins.bindParams "max" ["key", "default"] 0 ⟨[], [(Str.ofString "default", .none)]⟩ >>= _) _ _ s
  refine wpAny_bind (wpAny_of_eq (show Builtin.Builtins.bindParams "max" ["key", "default"] 0 ⟨[], [(Str.ofString "default", .none)]⟩ = pure [none, some .none] from by kernel_rfl) ?_)
  refine wpAny_bind (wpAny_pure ?_)
  refine wpAny_bind (wpAny_mono h (fun it s₂ h₂ => ?_) fun _ _ e => e)
  obtain ⟨I, fp, wr, n, P, St, bt, rfl, W, hst, hfp, hcmp, hQ0, hQ⟩ := h₂
  refine wpAny_bind (wpAny_newObj_type ?_)
  have hSf : s₂.heap.objs.size ∉ fp := fun hm => Nat.lt_irrefl _ (hfp _ hm)
  rw [hname]
  have fr := W.frame 0 _ (s₂.heap.push { cls := .type "list", dict := none, data := .seq ([] : List Value).toArray }) hst fun b _ o e => Heap.get?_push_of_some _ e
  rcases Nat.eq_zero_or_pos n with hn | hn
  · refine wpAny_pure ⟨plainId_quiet F.plain_max_loop _, mx_empty W s₂.heap.objs.size hSf hn fr (Heap.get?_push_size _ rfl) fun h' tk hk => ?_⟩
    exact hQ0 hn h' tk fun b o hbw e => hk b o hbw (Heap.get?_push_of_some _ e)
  · refine wpAny_pure ⟨plainId_quiet F.plain_max_loop _, mx_first W bt hcmp s₂.heap.objs.size hSf hn fr (Heap.get?_push_size _ rfl) fun v h' tk hP hk => ?_⟩
    exact hQ hn v h' tk hP fun b o hbw e => hk b o hbw (Nat.ne_of_lt (Heap.lt_size e)) (Heap.get?_push_of_some _ e)
end
end

section
set_option Elab.async false
open PySem PySem.Spec PyProof.Rows PySem.Calls

/-- what the name of a built-in stands for -/
noncomputable def biV : Bi → Value
  | .len => .builtin "len"
  | .abs => .builtin "abs"
  | .sum => .builtin "sum"
  | .tuple => .type "tuple"
  | .list => .type "list"
  | .int => .type "int"
  | .max1 => .builtin "max"
  | .max1d => .builtin "max"
  | .max2 => .builtin "max"
  | .min2 => .builtin "min"
  | _ => .none

section
variable {prog : Program} {w : World} {A : Around} {E : Value → Shared → Prop} {V : Addr → Prop} {oa : Nat → Addr} {s : Shared} {h₀ : Heap}

theorem ints_val {vs : Array Value} {ns : List Int} (h : ∀ (i : Nat) v, vs.toList[i]? = some v → ∃ k t, v = .int k t ∧ ns[i]? = some k) : ∀ (i : Nat) v, vs[i]? = some v → ∃ t, v = .int (ns.getD i 0) t := fun i v e => by
  obtain ⟨k, t, e1, e2⟩ := h i v (by rw [Array.getElem?_toList]; exact e)
  exact ⟨t, by rw [e1, List.getD_eq_getElem?_getD, e2]; rfl⟩

theorem abs_eq (i : Int) : (if i < 0 then -i else i) = (i.natAbs : Int) := by split <;> omega

theorem sum_walk {s₂ : Shared} {I ax : Addr} {vs : Array Value} {St : Nat → Heap → Prop} {ns : List Int} {Q : PyData → Tag → Prop} (x : ItOf prog w A.in1 s s₂ I ax vs St) (hl : vs.size = ns.length)
    (hv : ∀ (i : Nat) v, vs[i]? = some v → ∃ t, v = .int (ns.getD i 0) t) (hq : Q (.int ns.sum) .old) :
    ∃ I' fp wr n P St val, Value.ref I = .ref I' ∧ Walks prog w A.in1 I' fp wr n P St ∧ St 0 s₂.heap ∧ (∀ b ∈ fp, b < s₂.heap.objs.size) ∧
      (∀ i v, P i v → ∃ t, v = .int (val i) t) ∧ ∀ h' tk t', (∀ b o, b ∉ wr → s₂.heap.get? b = some o → h'.get? b = some o) → Post V oa s Q (.int (preSum val n) t') { s₂ with heap := h', toks := tk } := by
  refine ⟨I, _, _, _, _, _, fun j => ns.getD j 0, rfl, x.W, x.st, x.lt, hv, fun h' tk t' hk => ?_⟩
  rw [preSum_ns, hl, List.take_length]
  exact ⟨_, _, hq, x.kept hk, res_int _ _⟩

theorem max_walk {s₂ : Shared} {I ax : Addr} {vs : Array Value} {St : Nat → Heap → Prop} {ns : List Int} {a : Int} {r : List Int} {Q : PyData → Tag → Prop} (x : ItOf prog w A s s₂ I ax vs St) (hl : vs.size = ns.length) (e : ns = a :: r)
    (hv : ∀ (i : Nat) v, vs[i]? = some v → ∃ t, v = .int (ns.getD i 0) t) (hq : Q (.int (maxL a r)) .old) {v : Value} {h' : Heap} {tk : Nat}
    (hP : vs[argBest (fun i j => decide (ns.getD i 0 > ns.getD j 0)) (vs.size - 1)]? = some v) (hk : ∀ b o, b ∉ [I] → s₂.heap.get? b = some o → h'.get? b = some o) : Post V oa s Q v { s₂ with heap := h', toks := tk } := by
  obtain ⟨t, rfl⟩ := hv _ _ hP
  rw [hl, max_is ns a r e]
  exact ⟨_, _, hq, x.kept hk, res_int _ _⟩

theorem sound_bi1 {b : Bi} {v : Value} {d : PyData} {t : Tag} {Q : PyData → Tag → Prop} (hh : A.handled = none) (hb : ∀ ty, b ≠ .isi ty) (hd : b ≠ .max1d) (r : Res V oa h₀ s.heap v d t) (h : biP b [(d, t)] Q) :
    wpAny (model prog w) A (call (biV b) [v]) (Post V oa s Q) E s := by
  have hh1 : A.in1.handled = none := hh
  cases b with
  | len =>
    rcases onSeq_of h with ⟨l, rfl, h⟩ | ⟨l, rfl, h⟩
    · obtain ⟨a, vs, as, rfl, p, q, _⟩ := r.items
      have := q.len
      rw [Array.length_toList] at this
      refine len_list p.isList (by rw [this]; have := h.1; have : sizeLine = 2 ^ 24 := rfl; omega) ?_
      rw [this]; exact post_int h.2
    · obtain ⟨a, vs, as, rfl, ⟨n, p⟩, q, _⟩ := r.titems
      have := q.len
      rw [Array.length_toList] at this
      refine PySem.P.len_tuple p (by rw [this]; have := h.1; have : sizeLine = 2 ^ 24 := rfl; omega) ?_
      rw [this]; exact post_int h.2
  | abs =>
    obtain ⟨i, rfl, h⟩ := onInt_of h
    obtain ⟨u, rfl⟩ := r.int
    refine call_abs_int fun u tk => ?_
    rw [abs_eq]; exact post_int h
  | sum =>
    rcases onSeq_of h with ⟨l, rfl, ns, e, hq⟩ | ⟨l, rfl, ns, e, hq⟩
    · obtain ⟨a, vs, as, rfl, p, q, _⟩ := r.items
      obtain ⟨l1, l2⟩ := intsOf_rp q e
      exact call_sum_walkG (iter_list hh1 p fun I s₂ St x => sum_walk x (by rw [← Array.length_toList]; exact l1) (ints_val l2) hq)
    · obtain ⟨a, vs, as, rfl, p, q, _⟩ := r.titems
      obtain ⟨l1, l2⟩ := intsOf_rp q e
      exact call_sum_walkG (iter_tuple hh1 p fun I s₂ St x => sum_walk x (by rw [← Array.length_toList]; exact l1) (ints_val l2) hq)
  | tuple =>
    rcases onSeq_of h with ⟨l, rfl, h⟩ | ⟨l, rfl, h⟩
    · obtain ⟨a, vs, as, rfl, p, q, n⟩ := r.items
      have := q.len
      rw [Array.length_toList] at this
      refine call_tuple_list p.isList (fun h' hk => ⟨_, _, h.2, ⟨_, s.toks, rfl, KA.trans hk (KA.push _ _)⟩, as, .tuple (Heap.get?_push_size _ rfl) (q.keeps (KA.trans hk (KA.push _ _))), n⟩) (by rw [this]; exact h.1)
    · obtain ⟨a, vs, as, rfl, ⟨m, p⟩, q, n⟩ := r.titems
      exact call_tuple_same ⟨_, p, rfl, m, rfl⟩ ⟨_, _, h.2, kp_refl, as, .tuple p q, n⟩
  | list =>
    rcases onSeq_of h with ⟨l, rfl, h⟩ | ⟨l, rfl, h⟩
    · obtain ⟨a, vs, as, rfl, ⟨m, p⟩, q, n⟩ := r.items
      have := q.len
      rw [Array.length_toList] at this
      refine call_list_seq a (.inl rfl) p rfl rfl (fun h' c hk hp => ⟨_, _, h.2, ⟨h', s.toks, rfl, hk⟩, _, _, vs, as, rfl, rfl, none_at_size _, ⟨c, hp⟩, q.keeps hk, n, fun m => ?_⟩) (by rw [this]; exact h.1)
      obtain ⟨o, e⟩ := readsAll_alive q _ m; rw [none_at_size] at e; cases e
    · obtain ⟨a, vs, as, rfl, ⟨m, p⟩, q, n⟩ := r.titems
      have := q.len
      rw [Array.length_toList] at this
      refine call_list_seq a (.inr rfl) p rfl rfl (fun h' c hk hp => ⟨_, _, h.2, ⟨h', s.toks, rfl, hk⟩, _, _, vs, as, rfl, rfl, none_at_size _, ⟨c, hp⟩, q.keeps hk, n, fun m => ?_⟩) (by rw [this]; exact h.1)
      obtain ⟨o, e⟩ := readsAll_alive q _ m; rw [none_at_size] at e; cases e
  | max1 =>
    obtain ⟨x, rfl, a, l, e, hq⟩ := onList_of h
    obtain ⟨ad, vs, as, rfl, p, q, _⟩ := r.items
    obtain ⟨l1, l2⟩ := intsOf_rp q e
    have hv := ints_val l2
    have hl : vs.size = (a :: l).length := by rw [← Array.length_toList]; exact l1
    exact call_max_walk (iter_list hh1 p fun I s₂ St x => ⟨I, _, _, _, _, _, _, rfl, x.W, x.st, x.lt, by rw [hl]; simp, CmpOf.ints_gt (fun j => (a :: l).getD j 0) hv, fun v h' tk hP hk => max_walk x hl rfl hv hq hP hk⟩)
  | max1d => exact (hd rfl).elim
  | int =>
    obtain ⟨c, rfl, h⟩ := onBool_of h
    rw [r.bool]
    exact call_int_bool (post_int h)
  | isi ty => exact (hb _ rfl).elim
  | _ => exact h.elim

theorem sound_max_d {v : Value} {d : PyData} {t : Tag} {Q : PyData → Tag → Prop} (hh : A.handled = none) (r : Res V oa h₀ s.heap v d t) (h : biP .max1d [(d, t)] Q) :
    wpAny (model prog w) A (call (.builtin "max") [v] [(Str.ofString "default", .none)]) (Post V oa s Q) E s := by
  have hh1 : A.in1.handled = none := hh
  obtain ⟨x, rfl, ns, e, hq⟩ := onList_of h
  obtain ⟨ad, vs, as, rfl, p, q, _⟩ := r.items
  obtain ⟨l1, l2⟩ := intsOf_rp q e
  have hv := ints_val l2
  have hl : vs.size = ns.length := by rw [← Array.length_toList]; exact l1
  refine call_max_default (iter_list hh1 p fun I s₂ St x => ⟨I, _, _, _, _, _, _, rfl, x.W, x.st, x.lt, CmpOf.ints_gt (fun j => ns.getD j 0) hv, fun hn h' tk hk => ?_, fun hn v h' tk hP hk => ?_⟩)
  · cases ns with
    | nil => exact ⟨_, _, hq, x.kept hk, res_none⟩
    | cons a l => rw [hl] at hn; cases hn
  · cases ns with
    | nil => rw [hl] at hn; exact absurd hn (Nat.lt_irrefl 0)
    | cons a l => exact max_walk x hl rfl hv hq hP hk

theorem sound_bi2 {b : Bi} {v₁ v₂ : Value} {x y : PyData} {t u : Tag} {Q : PyData → Tag → Prop} (hh : A.handled = none) (hb : b ≠ .index) (r1 : Res V oa h₀ s.heap v₁ x t) (r2 : Res V oa h₀ s.heap v₂ y u) (h : biP b [(x, t), (y, u)] Q) :
    wpAny (model prog w) A (call (biV b) [v₁, v₂]) (Post V oa s Q) E s := by
  cases b with
  | max2 =>
    obtain ⟨i, rfl, h1⟩ := onInt_of h
    obtain ⟨j, rfl, h2⟩ := onInt_of h1
    obtain ⟨k, rfl⟩ := r1.int; obtain ⟨k', rfl⟩ := r2.int
    refine max_two_ints hh fun h' tk hk => ?_
    by_cases c : i < j
    · rw [if_pos c] at h2
      rw [if_pos (show j > i from c)]
      exact ⟨_, _, h2, ⟨h', tk, rfl, hk⟩, res_int _ _⟩
    · rw [if_neg c] at h2
      rw [if_neg (show ¬ j > i from c)]
      exact ⟨_, _, h2, ⟨h', tk, rfl, hk⟩, res_int _ _⟩
  | min2 =>
    obtain ⟨i, rfl, h1⟩ := onInt_of h
    obtain ⟨j, rfl, h2⟩ := onInt_of h1
    obtain ⟨k, rfl⟩ := r1.int; obtain ⟨k', rfl⟩ := r2.int
    refine min_two_ints hh fun h' tk hk => ?_
    by_cases c : j < i
    · rw [if_pos c] at h2 ⊢
      exact ⟨_, _, h2, ⟨h', tk, rfl, hk⟩, res_int _ _⟩
    · rw [if_neg c] at h2 ⊢
      exact ⟨_, _, h2, ⟨h', tk, rfl, hk⟩, res_int _ _⟩
  | _ => exact h.elim
end
end

section
set_option Elab.async false
set_option maxRecDepth 100000
open PySem PySem.Spec PyProof.Rows PySem.Calls
open AutoSeq1 (wpAny_loadPart')

section
variable {prog : Program} {w : World} {A : Around} {E : Value → Shared → Prop} {s : Shared}

theorem nextOf_tuple_item {it l : Addr} {i : Nat} {items} {x : Value} {Q : Value → Shared → Prop} (hit : s.heap.IsTupleIter it l i)
    (hl : s.heap.IsTuple l items) (hx : items[i]? = some x)
    (hQ : ∀ h', h'.IsTupleIter it l (i + 1) → Heap.SameBut it s.heap h' → Q x { s with heap := h' }) :
    wpAny (model prog w) A (Builtin.SmallTypes.nextOf (.ref it)) Q E s := by
  obtain ⟨o, ho, hc, hd⟩ := id hit
  obtain ⟨ol, hol, _, nl, hdl⟩ := hl
  unfold Builtin.SmallTypes.nextOf
  refine wpAny_bind (wpAny_callSpecial?_slot (name := Str.ofString "__next__") hit.typeIs F.slot_tuple_iterator_next
    (wpAny_call_entry F.slot_tuple_iterator_next hit.typeIs F.entry_tuple_iterator_next ?_ (F.args_tuple_iterator_next_1 _)))
  show wpAny _ _ (field (.ref it) 0 >>= _) _ _ s
  refine wpAny_bind (wpAny_field ho hd (x := .ref l) rfl ?_)
  show wpAny _ _ (if (Value.ref l == Value.none) = true then _ else _) _ _ s
  rw [if_neg (show ¬ ((Value.ref l == Value.none) = true) from Bool.false_ne_true)]
  show wpAny _ _ (field (.ref it) 1 >>= _) _ _ s
  refine wpAny_bind (wpAny_field ho hd (x := .int i 0) rfl ?_)
  show wpAny _ _ (seqItems? (.ref l) >>= _) _ _ s
  refine wpAny_bind (wpAny_seqItems hol hdl ?_)
  simp only [Int.toNat_natCast, hx]
  refine wpAny_bind (wpAny_setField ho hd (by simp) (wpAny_pure ⟨x, rfl, wpAny_pure (hQ _ ?_ (Heap.SameBut.update ..))⟩))
  exact ⟨_, Heap.get?_update_self _ ho (Obj.isFreed_of_fields (Obj.data_mapFields hd _)), (Obj.cls_mapFields ..).trans hc, by
    rw [Obj.data_mapFields hd]; simp [rawInt]⟩

theorem nextOf_tuple_end {it l : Addr} {i : Nat} {items} {Q : Value → Shared → Prop} (hh : A.handled = none)
    (hit : s.heap.IsTupleIter it l i) (hl : s.heap.IsTuple l items) (hx : items[i]? = none)
    (hE : ∀ h' e, Heap.ExtBut it s.heap h' → (∃ o, h'.get? e = some o ∧ o.cls = .type "StopIteration") → E (.ref e) { s with heap := h' }) :
    wpAny (model prog w) A (Builtin.SmallTypes.nextOf (.ref it)) Q E s := by
  obtain ⟨o, ho, hc, hd⟩ := id hit
  obtain ⟨ol, hol, _, nl, hdl⟩ := hl
  unfold Builtin.SmallTypes.nextOf
  refine wpAny_bind (wpAny_callSpecial?_slot (name := Str.ofString "__next__") hit.typeIs F.slot_tuple_iterator_next
    (wpAny_call_entry F.slot_tuple_iterator_next hit.typeIs F.entry_tuple_iterator_next ?_ (F.args_tuple_iterator_next_1 _)))
  show wpAny _ _ (field (.ref it) 0 >>= _) _ _ s
  refine wpAny_bind (wpAny_field ho hd (x := .ref l) rfl ?_)
  show wpAny _ _ (if (Value.ref l == Value.none) = true then _ else _) _ _ s
  rw [if_neg (show ¬ ((Value.ref l == Value.none) = true) from Bool.false_ne_true)]
  show wpAny _ _ (field (.ref it) 1 >>= _) _ _ s
  refine wpAny_bind (wpAny_field ho hd (x := .int i 0) rfl ?_)
  show wpAny _ _ (seqItems? (.ref l) >>= _) _ _ s
  refine wpAny_bind (wpAny_seqItems hol hdl ?_)
  simp only [Int.toNat_natCast, hx]
  refine wpAny_bind (wpAny_rule (wpAny_bind (wpAny_setField ho hd (by simp) ?_)))
  show wpAny _ _ (newExc (.type "StopIteration") [] >>= _) _ _ _
  refine wpAny_bind ?_
  simp only [newExc, newTuple]
  refine wpAny_bind (wpAny_newObj_type ?_ (by size_fits))
  refine wpAny_bind (m := firstArgMember _ _) (wpAny_of_eq (a := Value.none) (by first | rfl | (simp only [firstArgMember]; rfl)) ?_)
  refine wpAny_newObj_type ?_ (by size_fits)
  simp only [raiseNew]
  refine wpAny_bind (wpAny_handled ?_)
  first | rw [show A.in1.handled = none from hh] | rw [hh]
  refine wpAny_bind (wpAny_pure (wpAny_throw ?_))
  exact hE _ _ (((Heap.SameBut.update ..).extBut.push _).push _) ⟨_, Heap.get?_push_size _ rfl, rfl⟩

theorem enumT_next {e it l : Addr} {i : Nat} {items : Array Value} {x old : Value} {Q : Value → Shared → Prop}
    (he : IsEnum s.heap e it i old) (hit : s.heap.IsTupleIter it l i) (hl : s.heap.IsTuple l items) (hx : items[i]? = some x) (hne : e ≠ it)
    (hQ : ∀ h', IsEnumOut h' e it ((i : Int) + 1) x s.heap.objs.size → h'.IsTupleIter it l (i + 1) →
      h'.get? s.heap.objs.size = some { cls := .type "tuple", data := .seq #[.int i s.toks, x] } → h'.objs.size = s.heap.objs.size + 1 →
      (∀ b o, b ≠ e → b ≠ it → s.heap.get? b = some o → h'.get? b = some o) → Q (.ref s.heap.objs.size) { s with heap := h', toks := s.toks + 1 }) :
    wpAny (model prog w) A (Builtin.«enumerate.__next__» ⟨[.ref e], []⟩) (fun fin s' => ∃ v, fin = .done (.ret v) ∧ Q v s') E s := by
  obtain ⟨hp, g, d, tk, os⟩ := s
  show wpAny _ _ (field (.ref e) 2 >>= _) _ _ _
  refine wpAny_bind (wpAny_field he rfl (x := .ref it) rfl ?_)
  refine wpAny_bind (nextOf_tuple_item hit hl hx fun h₁ hit₁ hs₁ => ?_)
  replace hs₁ : Heap.SameBut it hp h₁ := hs₁
  have he₁ : IsEnum h₁ e it i old := (hs₁.2 e hne).trans he
  show wpAny _ _ (field (.ref e) 3 >>= _) _ _ ⟨h₁, g, d, tk, os⟩
  refine wpAny_bind (wpAny_field he₁ rfl (x := rawInt i) rfl ?_)
  show wpAny _ _ (field (.ref e) 4 >>= _) _ _ ⟨h₁, g, d, tk, os⟩
  refine wpAny_bind (wpAny_field he₁ rfl (x := .none) rfl ?_)
  show wpAny _ _ (mkInt i >>= _) _ _ ⟨h₁, g, d, tk, os⟩
  refine wpAny_bind (wpAny_mkInt ?_)
  show wpAny _ _ (setField (.ref e) 3 (rawInt ((i : Int) + 1)) >>= _) _ _ ⟨h₁, g, d, tk + 1, os⟩
  refine wpAny_bind (wpAny_setField_rec he₁ (by simp) fun h₂ he₂ hs₂ => ?_)
  replace hs₂ : Heap.SameBut e h₁ h₂ := hs₂
  replace he₂ : IsEnum h₂ e it ((i : Int) + 1) old := he₂
  show wpAny _ _ (setField (.ref e) 4 .none >>= _) _ _ ⟨h₂, g, d, tk + 1, os⟩
  refine wpAny_bind (wpAny_setField_rec he₂ (by simp) fun h₃ he₃ hs₃ => ?_)
  replace hs₃ : Heap.SameBut e h₂ h₃ := hs₃
  replace he₃ : IsEnum h₃ e it ((i : Int) + 1) old := he₃
  show wpAny _ _ (newTuple [.int i tk, x] >>= _) _ _ ⟨h₃, g, d, tk + 1, os⟩
  refine wpAny_bind (wpAny_newTuple ?_)
  have he₄ : IsEnum (h₃.push { cls := .type "tuple", data := .seq #[.int i tk, x] }) e it ((i : Int) + 1) old := Heap.get?_push_of_some _ he₃
  generalize hh₄ : h₃.push { cls := .type "tuple", data := .seq #[.int i tk, x] } = h₄ at he₄
  have hsz : h₃.objs.size = hp.objs.size := by rw [hs₃.1, hs₂.1, hs₁.1]
  have hel : e < hp.objs.size := Heap.lt_size he
  have ht₄ : h₄.get? hp.objs.size = some { cls := .type "tuple", data := .seq #[.int i tk, x] } := by rw [← hh₄, ← hsz]; exact Heap.get?_push_size _ rfl
  have hz₄ : h₄.objs.size = hp.objs.size + 1 := by rw [← hh₄, Heap.size_push, hsz]
  have hk₄ : ∀ b o, b ≠ e → b ≠ it → hp.get? b = some o → h₄.get? b = some o := fun b o hbe hbi hb => by
    rw [← hh₄]; exact Heap.get?_push_of_some _ (hs₃.extBut b o hbe (hs₂.extBut b o hbe (hs₁.extBut b o hbi hb)))
  have hit₄ : h₄.IsTupleIter it l (i + 1) := by
    rw [← hh₄]; obtain ⟨o, ho, r⟩ := (hit₁.extBut hs₂.extBut (Ne.symm hne)).extBut hs₃.extBut (Ne.symm hne); exact ⟨o, Heap.get?_push_of_some _ ho, r⟩
  show wpAny _ _ (Builtin.SmallTypes.ownedTupleIsFree (.ref e) >>= _) _ _ ⟨h₄, g, d, tk + 1, os⟩
  rw [hsz]
  clear hh₄ he₃ hs₃ he₂ hs₂ he₁ hs₁ hit₁ hsz h₃ h₂ h₁
  refine wpAny_bind ?_
  · unfold Builtin.SmallTypes.ownedTupleIsFree
    refine wpAny_bind (wpAny_field he₄ rfl (x := .none) rfl (wpAny_pure ?_))
    simp only [if_true]
    refine wpAny_bind (wpAny_rule ?_)
    refine wpAny_bind (wpAny_field he₄ rfl (x := old) rfl ?_)
    refine wpAny_bind (wpAny_setField_rec he₄ (by simp) fun h₅ he₅ hs₅ => ?_)
    replace hs₅ : Heap.SameBut e h₄ h₅ := hs₅
    replace he₅ : IsEnum h₅ e it ((i : Int) + 1) x := he₅
    show wpAny _ _ (Builtin.SmallTypes.ownedTupleHandOut (.ref e) (.ref hp.objs.size) >>= _) _ _ ⟨h₅, g, d, tk + 1, os⟩
    refine wpAny_bind ?_
    · unfold Builtin.SmallTypes.ownedTupleHandOut
      refine wpAny_bind (wpAny_setField_rec he₅ (by simp) fun h₆ he₆ hs₆ => ?_)
      replace hs₆ : Heap.SameBut e h₅ h₆ := hs₆
      replace he₆ : IsEnumOut h₆ e it ((i : Int) + 1) x hp.objs.size := he₆
      refine wpAny_setField_rec he₆ (by simp) fun h₇ he₇ hs₇ => ?_
      replace hs₇ : Heap.SameBut e h₆ h₇ := hs₇
      replace he₇ : IsEnumOut h₇ e it ((i : Int) + 1) x hp.objs.size := he₇
      refine wpAny_bind (wpAny_letGo (wpAny_pure ⟨_, rfl, hQ h₇ he₇ ?_ ?_ ?_ ?_⟩))
      · exact ((hit₄.extBut hs₅.extBut (Ne.symm hne)).extBut hs₆.extBut (Ne.symm hne)).extBut hs₇.extBut (Ne.symm hne)
      · exact hs₇.extBut _ _ (Nat.ne_of_gt hel) (hs₆.extBut _ _ (Nat.ne_of_gt hel) (hs₅.extBut _ _ (Nat.ne_of_gt hel) ht₄))
      · rw [hs₇.1, hs₆.1, hs₅.1, hz₄]
      · exact fun b o hbe hbi hb => hs₇.extBut b o hbe (hs₆.extBut b o hbe (hs₅.extBut b o hbe (hk₄ b o hbe hbi hb)))

theorem pyNext_enumT_item {e it l : Addr} {i : Nat} {items : Array Value} {x old : Value} {Q : Option Value → Shared → Prop}
    (he : IsEnum s.heap e it i old) (hit : s.heap.IsTupleIter it l i) (hl : s.heap.IsTuple l items) (hx : items[i]? = some x) (hne : e ≠ it)
    (hQ : ∀ h', IsEnumOut h' e it ((i : Int) + 1) x s.heap.objs.size → h'.IsTupleIter it l (i + 1) →
      h'.get? s.heap.objs.size = some { cls := .type "tuple", data := .seq #[.int i s.toks, x] } → h'.objs.size = s.heap.objs.size + 1 →
      (∀ b o, b ≠ e → b ≠ it → s.heap.get? b = some o → h'.get? b = some o) → Q (some (.ref s.heap.objs.size)) { s with heap := h', toks := s.toks + 1 }) :
    wpAny (model prog w) A (pyNext (.ref e)) Q E s := by
  have hT : s.TypeIs (.ref e) "enumerate" := ⟨_, he, rfl⟩
  unfold pyNext
  exact wpAny_bind (wpAny_attempt (wpAny_callSpecial?_slot (name := Str.ofString "__next__") hT F.slot_enumerate_next
    (wpAny_call_entry F.slot_enumerate_next hT F.entry_enumerate_next
      (enumT_next he hit hl hx hne fun h' a b c d k => wpAny_pure (hQ h' a b c d k)) (F.args_enumerate_next_1 _))))

theorem pyNext_enumT_end {e it l : Addr} {i : Nat} {items : Array Value} {old : Value} {Q : Option Value → Shared → Prop} (hh : A.handled = none)
    (he : IsEnum s.heap e it i old) (hit : s.heap.IsTupleIter it l i) (hl : s.heap.IsTuple l items) (hx : items[i]? = none)
    (hQ : ∀ h', Heap.ExtBut it s.heap h' → Q none { s with heap := h' }) : wpAny (model prog w) A (pyNext (.ref e)) Q E s := by
  have hT : s.TypeIs (.ref e) "enumerate" := ⟨_, he, rfl⟩
  unfold pyNext
  refine wpAny_bind (wpAny_attempt (wpAny_callSpecial?_slot (name := Str.ofString "__next__") hT F.slot_enumerate_next
    (wpAny_call_entry F.slot_enumerate_next hT F.entry_enumerate_next ?_ (F.args_enumerate_next_1 _))))
  show wpAny _ _ (field (.ref e) 2 >>= _) _ _ _
  refine wpAny_bind (wpAny_field he rfl (x := .ref it) rfl ?_)
  refine wpAny_bind (nextOf_tuple_end hh hit hl hx fun h' x he' hx' => ?_)
  obtain ⟨o, ho, hc⟩ := hx'
  refine wpAny_bind (wpAny_isInstance (T := "StopIteration") (b := true) ⟨o, ho, hc⟩ isSubtype_stop ?_)
  exact wpAny_pure (hQ _ he')

theorem meets_enumT (l : Addr) (items : Array Value) (n : Nat) :
    Meets (Builtin.«enumerate.__new__» ⟨[.type "enumerate", .ref l], []⟩) (fun _ R s => s.heap.get? l = some { cls := .type "tuple", dict := none, data := .seq items n, slots := #[] } ∧
      R (.ok (.ret (.ref (s.heap.push { cls := .type "tuple_iterator", data := .fields #[.ref l, .int 0 0] }).objs.size)))
        { s with heap := (s.heap.push { cls := .type "tuple_iterator", data := .fields #[.ref l, .int 0 0] }).push { cls := .type "enumerate", data := .fields #[.none, .bool false, .ref s.heap.objs.size, rawInt 0, .none, .none] } }) :=
  .of_wp fun prog w A R s h => by
    obtain ⟨hp, g, d, tk, os⟩ := s; obtain ⟨hl, h⟩ := h
    have hsub := sub_enumerate
    have hL : Heap.IsTuple (Shared.heap ⟨hp, g, d, tk, os⟩) l items := ⟨_, hl, rfl, n, rfl⟩
    wp_walk using wpAny_loadPart' hl
    refine wpAny_stack_any fun st => wpAny_pure ?_
    split
    · rename_i c _ _ _ _ _
      cases (c == Value.type "enumerate")
      · wp_walk using wpAny_loadPart' hl, wpAny_pyIter_tuple hL
        exact ⟨_, rfl, h⟩
      · wp_walk using wpAny_loadPart' hl, wpAny_pyIter_tuple hL
        exact ⟨_, rfl, h⟩
    · wp_walk using wpAny_loadPart' hl, wpAny_pyIter_tuple hL
      exact ⟨_, rfl, h⟩

theorem call_enumT {l : Addr} {items : Array Value} {Q : Value → Shared → Prop} (hL : PlainTup s.heap l items)
    (h : ∀ h', IsEnum h' (s.heap.objs.size + 1) s.heap.objs.size 0 .none → h'.IsTupleIter s.heap.objs.size l 0 → h'.objs.size = s.heap.objs.size + 2 →
      (∀ b o, s.heap.get? b = some o → h'.get? b = some o) → Q (.ref (s.heap.objs.size + 1)) { s with heap := h' }) :
    wpAny (model prog w) A (call (.type "enumerate") [.ref l]) Q E s := by
  obtain ⟨n, hl⟩ := hL
  refine callType_new F.called_enumerate (by decide) (F.typeCall_enumerate_1 _) (F.newCall_enumerate_1 _) (fun obj => F.args_object_init_2 obj _) F.entry_enumerate_new
    (meets_enumT l items n) ⟨hl, ?_⟩
  have hz : (s.heap.push { cls := .type "tuple_iterator", data := .fields #[.ref l, .int 0 0] }).objs.size = s.heap.objs.size + 1 := Heap.size_push ..
  show _ ∧ _
  rw [hz]
  have he : IsEnum ((s.heap.push { cls := .type "tuple_iterator", data := .fields #[.ref l, .int 0 0] }).push
      { cls := .type "enumerate", data := .fields #[.none, .bool false, .ref s.heap.objs.size, rawInt 0, .none, .none] }) (s.heap.objs.size + 1) s.heap.objs.size 0 .none := by
    have := Heap.get?_push_size (s.heap.push { cls := .type "tuple_iterator", data := .fields #[.ref l, .int 0 0] })
      (o := { cls := .type "enumerate", data := .fields #[.none, .bool false, .ref s.heap.objs.size, rawInt 0, .none, .none] }) rfl
    rw [hz] at this; exact this
  refine ⟨⟨_, he, rfl⟩, h _ he ⟨_, Heap.get?_push_of_some _ (Heap.get?_push_size _ rfl), rfl, rfl⟩ (by rw [Heap.size_push, hz]) fun b o x => Heap.get?_push_of_some _ (Heap.get?_push_of_some _ x)⟩
end

theorem walksT_enumT {prog : Program} {w : World} {A : Around} (hh : A.handled = none) (e it l : Addr) (hei : e ≠ it) (hle : l ≠ e) (hli : l ≠ it) (items : Array Value) :
    WalksT prog w A e [e, it, l] [e, it] items.size
      (fun i vals => ∃ t x, items[i]? = some x ∧ vals = #[.int i t, x])
      (fun i h => (∃ old, IsEnum h e it i old) ∧ h.IsTupleIter it l i ∧ h.IsTuple l items)
      (fun i T h => (∃ x, IsEnumOut h e it ((i : Int) + 1) x T) ∧ h.IsTupleIter it l (i + 1) ∧ h.IsTuple l items ∧ T ≠ e ∧ T ≠ it) where
  sub := fun b hb => by
    rcases List.mem_cons.mp hb with rfl | hb
    · exact List.mem_cons_self ..
    · exact List.mem_cons_of_mem _ (by rcases List.mem_cons.mp hb with rfl | hb; exact List.mem_cons_self ..; cases hb)
  frame := fun i h h' hst hk => by
    obtain ⟨⟨old, he⟩, hit, hl⟩ := hst
    exact ⟨⟨old, hk e (by simp) _ he⟩, hit.at fun o x => hk it (by simp) o x, hl.at fun o x => hk l (by simp) o x⟩
  item := fun i s Q E hi hst hQ => by
    obtain ⟨⟨old, he⟩, hit, hl⟩ := hst
    have hx : items[i]? = some items[i] := Array.getElem?_eq_getElem hi
    refine pyNext_enumT_item he hit hl hx hei fun h' ho hit' hT hsz hk => ?_
    have helt : e < s.heap.objs.size := Heap.lt_size he
    have hilt : it < s.heap.objs.size := by obtain ⟨_, x, _⟩ := hit; exact Heap.lt_size x
    exact hQ s.heap.objs.size #[.int i s.toks, items[i]] h' (s.toks + 1) ⟨_, _, hx, rfl⟩ (Nat.le_refl _) ⟨_, hT, rfl, _, rfl⟩
      ⟨⟨_, ho⟩, hit', hl.at fun o x => hk l o hle hli x, Nat.ne_of_gt helt, Nat.ne_of_gt hilt⟩
      fun b o hb x => hk b o (fun e' => hb (by simp [e'])) (fun e' => hb (by simp [e'])) x
  go := fun elts k pos i T s Q E hm hQ => by
    obtain ⟨⟨x, ho⟩, hit, hl, hTe, hTi⟩ := hm
    refine wpAny_letOwnedTupleGo_enum ho fun h' he' hs' => hQ h' ⟨⟨x, by simpa using he'⟩, hit.at fun o y => (hs'.2 it hei.symm).trans y, hl.at fun o y => (hs'.2 l hle).trans y⟩ fun b o hb y => ?_
    exact (hs'.2 b fun e' => hb (by simp [e'])).trans y
  apart := fun i T h hm hT => by
    obtain ⟨_, _, _, hTe, hTi⟩ := hm
    rcases List.mem_cons.mp hT with rfl | hT
    · exact hTe rfl
    · rcases List.mem_cons.mp hT with rfl | hT
      · exact hTi rfl
      · cases hT
  done := fun s Q E hst hQ => by
    obtain ⟨⟨old, he⟩, hit, hl⟩ := hst
    exact pyNext_enumT_end hh he hit hl (Array.getElem?_eq_none (Nat.le_refl _)) fun h' hx => hQ h' s.toks fun b o hb y => hx b o (fun e' => hb (by simp [e'])) y
  self := fun i s Q E hst hQ => by
    obtain ⟨⟨old, he⟩, _, _⟩ := hst
    exact wpAny_pyIter_enum he hQ
end

section
set_option Elab.async false
open PySem PySem.Spec PyProof.Rows PySem.Calls

/-- the turns of a loop: the next item, taken apart, the end -/
structure Trn (prog : Program) (w : World) (A : Around) (target : Expr) (I : Addr) (fp wr : List Addr) (n : Nat) (P Md : Nat → Value → Heap → Prop) (St : Nat → Heap → Prop) : Prop where
  sub : ∀ b ∈ wr, b ∈ fp
  frame : ∀ i h h', St i h → (∀ b ∈ fp, ∀ o, h.get? b = some o → h'.get? b = some o) → St i h'
  item : ∀ i (s : Shared) (Q : Option Value → Shared → Prop) (E : Value → Shared → Prop), i < n → St i s.heap →
    (∀ v h' tk, Md i v h' → (∀ b o, b ∉ wr → s.heap.get? b = some o → h'.get? b = some o) → Q (some v) { s with heap := h', toks := tk }) → wpAny (model prog w) A (pyNext (.ref I)) Q E s
  go : ∀ i v (s : Shared) (Q : Unit → Shared → Prop) (E : Value → Shared → Prop), Md i v s.heap →
    (∀ h', P i v h' → St (i + 1) h' → (∀ b o, b ∉ wr → s.heap.get? b = some o → h'.get? b = some o) → Q () { s with heap := h' }) → wpAny (model prog w) A (letOwnedTupleGo target (.ref I) v) Q E s
  done : ∀ (s : Shared) (Q : Option Value → Shared → Prop) (E : Value → Shared → Prop), St n s.heap →
    (∀ h' tk, (∀ b o, b ∉ wr → s.heap.get? b = some o → h'.get? b = some o) → Q none { s with heap := h', toks := tk }) → wpAny (model prog w) A (pyNext (.ref I)) Q E s
  self : ∀ i (s : Shared) (Q : Value → Shared → Prop) (E : Value → Shared → Prop), St i s.heap → Q (.ref I) s → wpAny (model prog w) A (pyIter (.ref I)) Q E s
  al : ∀ i h, St i h → ∀ b ∈ wr, ∃ o, h.get? b = some o ∧ ¬ IsT o

section
variable {prog : Program} {w : World} {A : Around}

theorem go_plain {E : Value → Shared → Prop} {s : Shared} {target : Expr} {I : Addr} {v : Value} {o : Obj} {c : String} {Q : Unit → Shared → Prop} (ho : s.heap.get? I = some o) (hc : o.cls = .type c)
    (hn : (["enumerate", "zip", "dict_itemiterator", "dict_reverseitemiterator", "odict_iterator", "itertools.zip_longest", "itertools.pairwise"] : List String).contains c = false) (h : Q () s) :
    wpAny (model prog w) A (letOwnedTupleGo target (.ref I) v) Q E s := by
  have key : wpAny (model prog w) A (do
      let (.ref r, .ref a) := (Value.ref I, v) | return
      let o ← load r
      match o.cls, o.data with
      | .type n, .fields vs =>
        if ["enumerate", "zip", "dict_itemiterator", "dict_reverseitemiterator", "odict_iterator", "itertools.zip_longest", "itertools.pairwise"].contains n && vs[0]? == some (rawInt a) then
          rule "for.unpacks-the-owned-tuple"
          updateField r 0 .none
      | _, _ => pure ()) Q E s := by
    cases v with
    | ref a =>
      refine wpAny_bind (wpAny_load ho ?_)
      rw [hc]
      cases o.data <;> dsimp only <;> first | exact wpAny_pure h | (rw [hn]; exact wpAny_pure h)
    | _ => exact wpAny_pure h
  cases target <;> first | exact key | exact wpAny_pure h

theorem Trn.ofWalks {target : Expr} {I : Addr} {fp wr : List Addr} {n : Nat} {P : Nat → Value → Prop} {St : Nat → Heap → Prop} (W : Walks prog w A I fp wr n P St) {c : String}
    (hn : (["enumerate", "zip", "dict_itemiterator", "dict_reverseitemiterator", "odict_iterator", "itertools.zip_longest", "itertools.pairwise"] : List String).contains c = false)
    (hI : ∀ i h, St i h → ∃ o, h.get? I = some o ∧ o.cls = .type c) (hw : ∀ b ∈ wr, b = I) (ht : c ≠ "tuple") : Trn prog w A target I fp wr n (fun i v _ => P i v) (fun i v h => P i v ∧ St (i + 1) h) St where
  sub := W.sub
  frame := W.frame
  item := fun i s Q E hi st hQ => W.item i s Q E hi st fun v h' tk hP st' hk => hQ v h' tk ⟨hP, st'⟩ hk
  go := fun i v s Q E hm hQ => by
    obtain ⟨o, ho, hc⟩ := hI _ _ hm.2
    exact go_plain ho hc hn (hQ s.heap hm.1 hm.2 fun _ _ _ e => e)
  done := W.done
  self := W.self
  al := fun i h st b hb => by
    obtain ⟨o, ho, hc⟩ := hI i h st
    rw [hw b hb]
    refine ⟨o, ho, fun ⟨_, _, q⟩ => ?_⟩
    rw [q] at hc; exact ht (by simpa using hc.symm)

theorem Trn.ofT {elts : List Expr} {k : Nat} {pos : Pos} {I : Addr} {fp wr : List Addr} {n : Nat} {Pt : Nat → Array Value → Prop} {St : Nat → Heap → Prop} {Mid : Nat → Addr → Heap → Prop} (W : WalksT prog w A I fp wr n Pt St Mid) (al : ∀ i h, St i h → ∀ b ∈ wr, ∃ o, h.get? b = some o ∧ ¬ IsT o) :
    Trn prog w A (.Tuple elts k pos) I fp wr n (fun i v h => ∃ T vals, v = .ref T ∧ Pt i vals ∧ h.IsTuple T vals) (fun i v h => ∃ T vals, v = .ref T ∧ Pt i vals ∧ h.IsTuple T vals ∧ Mid i T h) St where
  sub := W.sub
  frame := W.frame
  item := fun i s Q E hi st hQ => W.item i s Q E hi st fun T vals h' tk hP _ hT hm hk => hQ (.ref T) h' tk ⟨T, vals, rfl, hP, hT, hm⟩ hk
  go := fun i v s Q E hm hQ => by
    obtain ⟨T, vals, rfl, hP, hT, hm⟩ := hm
    exact W.go elts k pos i T s Q E hm fun h' st hk => hQ h' ⟨T, vals, rfl, hP, hT.at fun o e => hk T o (W.apart i T _ hm) e⟩ st hk
  done := W.done
  self := W.self
  al := al

/-- what an item is: of a list or tuple with the values vs, of a range, of an enumerate over vs -/
noncomputable def ItemIs (ik : IK) (vs : List Value) (i : Nat) (v : Value) (h : Heap) : Prop :=
  match ik with
  | .plain => vs[i]? = some v
  | .range => ∃ t, v = .int (i : Int) t
  | .enum => ∃ T t x, v = .ref T ∧ h.IsTuple T #[.int (i : Int) t, x] ∧ vs[i]? = some x

/-- a loop's source: the turns over vs, the addresses it reads and writes -/
structure Src (prog : Program) (w : World) (A : Around) (target : Expr) (ik : IK) (vs : List Value) (n : Nat) (s s₂ : Shared) (I : Addr) (fp wr : List Addr) (Md : Nat → Value → Heap → Prop) (St : Nat → Heap → Prop) : Prop where
  T : Trn prog w A target I fp wr n (fun i v h => ItemIs ik vs i v h) Md St
  st : St 0 s₂.heap
  lt : ∀ b ∈ fp, b < s₂.heap.objs.size
  new : ∀ b ∈ wr, s.heap.get? b = none
  kp : Keeps s s₂

theorem Src.base {target : Expr} {ik : IK} {vs : List Value} {n : Nat} {s₀ s s₂ : Shared} {I : Addr} {fp wr : List Addr} {Md : Nat → Value → Heap → Prop} {St : Nat → Heap → Prop} (x : Src prog w A target ik vs n s s₂ I fp wr Md St) (k : Keeps s₀ s) :
    Src prog w A target ik vs n s₀ s₂ I fp wr Md St := ⟨x.T, x.st, x.lt, fun b hb => (kp_heap k).none (x.new b hb), kp_trans k x.kp⟩

theorem src_list {E : Value → Shared → Prop} {s : Shared} {target : Expr} {a : Addr} {vs : Array Value} {Q : Value → Shared → Prop} (hh : A.handled = none) (p : s.heap.PlainList a vs)
    (h : ∀ I s₂ fp wr Md St, Src prog w A target .plain vs.toList vs.size s s₂ I fp wr Md St → (∀ b ∈ fp, b ∈ wr ∨ b = a) → Q (.ref I) s₂) : wpAny (model prog w) A (pyIter (.ref a)) Q E s := by
  have hl := p.isList
  have hlt : a < s.heap.objs.size := by obtain ⟨n, e⟩ := p; exact Heap.lt_size e
  have W := Walks.list (prog := prog) (w := w) hh s.heap.objs.size a (Nat.ne_of_lt hlt) vs
  simp only [← Array.getElem?_toList] at W
  refine wpAny_pyIter_list hl (h _ _ _ _ _ _ ⟨Trn.ofWalks W (c := "list_iterator") (by decide) (fun i h st => let ⟨o, e, c, _⟩ := st.1; ⟨o, e, c⟩) (fun b hb => List.mem_singleton.mp hb) (by decide), ⟨⟨_, Heap.get?_push_size _ rfl, rfl, rfl⟩, hl.push _⟩, ?_, ?_, kp_push⟩ ?_)
  · intro b hb
    rw [Heap.size_push]
    rcases List.mem_cons.mp hb with rfl | hb
    · exact Nat.lt_succ_self _
    · rw [List.mem_singleton.mp hb]; exact Nat.lt_succ_of_lt hlt
  · intro b hb; rw [List.mem_singleton.mp hb]; exact none_at_size _
  · intro b hb
    rcases List.mem_cons.mp hb with rfl | hb
    · exact .inl (by simp)
    · exact .inr (List.mem_singleton.mp hb)

theorem src_tuple {E : Value → Shared → Prop} {s : Shared} {target : Expr} {a : Addr} {vs : Array Value} {Q : Value → Shared → Prop} (hh : A.handled = none) (p : PlainTup s.heap a vs)
    (h : ∀ I s₂ fp wr Md St, Src prog w A target .plain vs.toList vs.size s s₂ I fp wr Md St → (∀ b ∈ fp, b ∈ wr ∨ b = a) → Q (.ref I) s₂) : wpAny (model prog w) A (pyIter (.ref a)) Q E s := by
  obtain ⟨n, e⟩ := p
  have ht : s.heap.IsTuple a vs := ⟨_, e, rfl, n, rfl⟩
  have hlt : a < s.heap.objs.size := Heap.lt_size e
  have W := Walks.tuple (prog := prog) (w := w) hh s.heap.objs.size a (Nat.ne_of_lt hlt) vs
  simp only [← Array.getElem?_toList] at W
  refine wpAny_pyIter_tuple ht (h _ _ _ _ _ _ ⟨Trn.ofWalks W (c := "tuple_iterator") (by decide) (fun i h st => let ⟨o, e, c, _⟩ := st.1; ⟨o, e, c⟩) (fun b hb => List.mem_singleton.mp hb) (by decide), ⟨⟨_, Heap.get?_push_size _ rfl, rfl, rfl⟩, ht.push _⟩, ?_, ?_, kp_push⟩ ?_)
  · intro b hb
    rw [Heap.size_push]
    rcases List.mem_cons.mp hb with rfl | hb
    · exact Nat.lt_succ_self _
    · rw [List.mem_singleton.mp hb]; exact Nat.lt_succ_of_lt hlt
  · intro b hb; rw [List.mem_singleton.mp hb]; exact none_at_size _
  · intro b hb
    rcases List.mem_cons.mp hb with rfl | hb
    · exact .inl (by simp)
    · exact .inr (List.mem_singleton.mp hb)

theorem rangeSize_of (n : Int) : Builtin.Range.rangeSize 0 n 1 = (n.toNat : Int) := by
  unfold Builtin.Range.rangeSize
  simp
  omega

theorem src_range {E : Value → Shared → Prop} {s : Shared} {target : Expr} {k : Int} {t : Tok} {Q : Value → Shared → Prop} (hh : A.handled = none) (hk : k ≤ 1000000) (hlo : -(2 ^ 62) ≤ k)
    (h : ∀ I s₂ fp wr Md St, Src prog w A target .range [] k.toNat s s₂ I fp wr Md St → (∀ b ∈ fp, b ∈ wr) → Q (.ref I) s₂) :
    wpAny (model prog w) A (call (.type "range") [.int k t]) (fun x s₁ => wpAny (model prog w) A (pyIter x) Q E s₁) E s := by
  refine call_range_1 ?_
  refine wpAny_pyIter_range (Heap.get?_push_size _ rfl) ?_ ?_
  · have h1 : Builtin.Range.rangeFitsLong k = true := by unfold Builtin.Range.rangeFitsLong; simp only [Bool.and_eq_true, decide_eq_true_eq]; omega
    have h2 : Builtin.Range.rangeFitsLong (k.toNat : Int) = true := by unfold Builtin.Range.rangeFitsLong; simp only [Bool.and_eq_true, decide_eq_true_eq]; omega
    have h0 : Builtin.Range.rangeFitsLong 0 = true := by decide +kernel
    have h3 : Builtin.Range.rangeFitsLong 1 = true := by decide +kernel
    unfold Builtin.Range.small
    rw [rangeSize_of, h0, h1, h2, h3]
    simp only [Bool.true_and]
    rw [if_pos (by decide), show k + (1 - 1) = k by omega, h1, Bool.or_true]
  · rw [rangeSize_of]
    have W := Walks.range (prog := prog) (w := w) hh (s.heap.objs.size + 1) 0 1 k.toNat
    simp only [Int.zero_add, Int.mul_one] at W
    have hz : (s.heap.push { cls := .type "range", data := .fields #[.int 0 s.toks, .int k t, .int 1 (s.toks + 1)] }).objs.size = s.heap.objs.size + 1 := Heap.size_push ..
    dsimp only
    rw [hz]
    refine h _ _ _ _ _ _ ⟨Trn.ofWalks W (c := "range_iterator") (by decide) (fun i h st => ⟨_, st, rfl⟩) (fun b hb => List.mem_singleton.mp hb) (by decide), ?_, ?_, ?_, ?_⟩ (fun b hb => hb)
    · have := Heap.get?_push_size (s.heap.push { cls := .type "range", data := .fields #[.int 0 s.toks, .int k t, .int 1 (s.toks + 1)] }) (o := { cls := .type "range_iterator", data := .fields #[rawInt 0, rawInt (k.toNat : Int), rawInt 1] }) rfl
      rw [hz] at this
      simpa using this
    · intro b hb
      rw [List.mem_singleton.mp hb, Heap.size_push, hz]; exact Nat.lt_succ_self _
    · intro b hb
      rw [List.mem_singleton.mp hb]
      cases q : s.heap.get? (s.heap.objs.size + 1) with
      | none => rfl
      | some o => exact absurd (Heap.lt_size q) (Nat.not_lt.mpr (Nat.le_succ _))
    · exact ⟨_, _, rfl, (KA.push _ _).trans (KA.push _ _)⟩
end
end

section
set_option Elab.async false
open PySem PySem.Spec PyProof.Rows PySem.Calls

section
variable {prog : Program} {w : World} {A : Around} {E : Value → Shared → Prop} {s : Shared}

theorem trn_enum {elts : List Expr} {kk : Nat} {pos : Pos} {I : Addr} {fp wr : List Addr} {vs : Array Value} {St : Nat → Heap → Prop} {Mid : Nat → Addr → Heap → Prop}
    (W : WalksT prog w A I fp wr vs.size (fun i vals => ∃ t x, vs[i]? = some x ∧ vals = #[.int i t, x]) St Mid) (al : ∀ i h, St i h → ∀ b ∈ wr, ∃ o, h.get? b = some o ∧ ¬ IsT o) :
    ∃ Md, Trn prog w A (.Tuple elts kk pos) I fp wr vs.size (fun i v h => ItemIs .enum vs.toList i v h) Md St := by
  have X := Trn.ofT (elts := elts) (k := kk) (pos := pos) W al
  refine ⟨_, ⟨X.sub, X.frame, X.item, fun i v s Q E hm hQ => X.go i v s Q E hm fun h' hp st hk => hQ h' ?_ st hk, X.done, X.self, X.al⟩⟩
  obtain ⟨T, vals, rfl, ⟨t, x, e, rfl⟩, hT⟩ := hp
  exact ⟨T, t, x, rfl, hT, by rw [Array.getElem?_toList]; exact e⟩

theorem src_enumL {elts : List Expr} {kk : Nat} {pos : Pos} {a : Addr} {vs : Array Value} {Q : Value → Shared → Prop} (hh : A.handled = none) (p : s.heap.PlainList a vs)
    (h : ∀ I s₂ fp wr Md St, Src prog w A (.Tuple elts kk pos) .enum vs.toList vs.size s s₂ I fp wr Md St → (∀ b ∈ fp, b ∈ wr ∨ b = a) → Q (.ref I) s₂) :
    wpAny (model prog w) A (call (.type "enumerate") [.ref a]) (fun x s₁ => wpAny (model prog w) A (pyIter x) Q E s₁) E s := by
  have hl := p.isList
  have hlt : a < s.heap.objs.size := by obtain ⟨n, e⟩ := p; exact Heap.lt_size e
  refine call_enumerate_list hl fun h' he hit hz hk => ?_
  refine wpAny_pyIter_enum he ?_
  have W := WalksT.enumerate (prog := prog) (w := w) hh (s.heap.objs.size + 1) s.heap.objs.size a (Nat.succ_ne_self _) (Nat.ne_of_lt (Nat.lt_succ_of_lt hlt)) (Nat.ne_of_lt hlt) vs
  obtain ⟨Md, X⟩ := trn_enum (elts := elts) (kk := kk) (pos := pos) W (fun i h st b hb => by
    simp only [List.mem_cons, List.not_mem_nil, or_false] at hb
    rcases hb with rfl | rfl
    · obtain ⟨⟨old, e⟩, _⟩ := st; exact ⟨_, e, fun ⟨_, _, q⟩ => by simp at q⟩
    · obtain ⟨_, ⟨o, e, c, _⟩, _⟩ := st; exact ⟨o, e, fun ⟨_, _, q⟩ => by rw [q] at c; simp at c⟩)
  have hl' : h'.IsList a vs := let ⟨o, e, r⟩ := hl; ⟨o, hk _ _ e, r⟩
  refine h _ _ _ _ _ _ ⟨X, ⟨⟨_, he⟩, hit, hl'⟩, ?_, ?_, ⟨h', s.toks, rfl, hk⟩⟩ ?_
  · intro b hb
    show b < h'.objs.size
    rw [hz]
    simp only [List.mem_cons, List.not_mem_nil, or_false] at hb
    rcases hb with rfl | rfl | rfl
    · exact Nat.lt_succ_self _
    · exact Nat.lt_succ_of_lt (Nat.lt_succ_self _)
    · exact Nat.lt_succ_of_lt (Nat.lt_succ_of_lt hlt)
  · intro b hb
    cases q : s.heap.get? b with
    | none => rfl
    | some o =>
      have := Heap.lt_size q
      simp only [List.mem_cons, List.not_mem_nil, or_false] at hb
      rcases hb with rfl | rfl
      · exact absurd this (Nat.not_lt.mpr (Nat.le_succ _))
      · exact absurd this (Nat.lt_irrefl _)
  · intro b hb
    simp only [List.mem_cons, List.not_mem_nil, or_false] at hb ⊢
    rcases hb with rfl | rfl | rfl
    · exact .inl (.inl rfl)
    · exact .inl (.inr rfl)
    · exact .inr rfl

theorem src_enumT {elts : List Expr} {kk : Nat} {pos : Pos} {a : Addr} {vs : Array Value} {Q : Value → Shared → Prop} (hh : A.handled = none) (p : PlainTup s.heap a vs)
    (h : ∀ I s₂ fp wr Md St, Src prog w A (.Tuple elts kk pos) .enum vs.toList vs.size s s₂ I fp wr Md St → (∀ b ∈ fp, b ∈ wr ∨ b = a) → Q (.ref I) s₂) :
    wpAny (model prog w) A (call (.type "enumerate") [.ref a]) (fun x s₁ => wpAny (model prog w) A (pyIter x) Q E s₁) E s := by
  have hlt : a < s.heap.objs.size := by obtain ⟨n, e⟩ := p; exact Heap.lt_size e
  refine call_enumT p fun h' he hit hz hk => ?_
  refine wpAny_pyIter_enum he ?_
  have W := walksT_enumT (prog := prog) (w := w) hh (s.heap.objs.size + 1) s.heap.objs.size a (Nat.succ_ne_self _) (Nat.ne_of_lt (Nat.lt_succ_of_lt hlt)) (Nat.ne_of_lt hlt) vs
  obtain ⟨Md, X⟩ := trn_enum (elts := elts) (kk := kk) (pos := pos) W (fun i h st b hb => by
    simp only [List.mem_cons, List.not_mem_nil, or_false] at hb
    rcases hb with rfl | rfl
    · obtain ⟨⟨old, e⟩, _⟩ := st; exact ⟨_, e, fun ⟨_, _, q⟩ => by simp at q⟩
    · obtain ⟨_, ⟨o, e, c, _⟩, _⟩ := st; exact ⟨o, e, fun ⟨_, _, q⟩ => by rw [q] at c; simp at c⟩)
  have hl' : h'.IsTuple a vs := let ⟨n, e⟩ := p; ⟨_, hk _ _ e, rfl, n, rfl⟩
  refine h _ _ _ _ _ _ ⟨X, ⟨⟨_, he⟩, hit, hl'⟩, ?_, ?_, ⟨h', s.toks, rfl, hk⟩⟩ ?_
  · intro b hb
    show b < h'.objs.size
    rw [hz]
    simp only [List.mem_cons, List.not_mem_nil, or_false] at hb
    rcases hb with rfl | rfl | rfl
    · exact Nat.lt_succ_self _
    · exact Nat.lt_succ_of_lt (Nat.lt_succ_self _)
    · exact Nat.lt_succ_of_lt (Nat.lt_succ_of_lt hlt)
  · intro b hb
    cases q : s.heap.get? b with
    | none => rfl
    | some o =>
      have := Heap.lt_size q
      simp only [List.mem_cons, List.not_mem_nil, or_false] at hb
      rcases hb with rfl | rfl
      · exact absurd this (Nat.not_lt.mpr (Nat.le_succ _))
      · exact absurd this (Nat.lt_irrefl _)
  · intro b hb
    simp only [List.mem_cons, List.not_mem_nil, or_false] at hb ⊢
    rcases hb with rfl | rfl | rfl
    · exact .inl (.inl rfl)
    · exact .inl (.inr rfl)
    · exact .inr rfl
end

/-- the items of a loop, from the data of its source -/
noncomputable def ItemsRel (ik : IK) (ls : List PyData) (n : Nat) (items : List PyData) : Prop :=
  match ik with
  | .plain => items = ls ∧ n = ls.length
  | .range => items = (List.range n).map fun (i : Nat) => .int i
  | .enum => items = (ls.zipIdx.map fun (d, i) => .tuple [.int (i : Nat), d]) ∧ n = ls.length

theorem ItemsRel.len {ik : IK} {ls : List PyData} {n : Nat} {items : List PyData} (h : ItemsRel ik ls n items) : items.length = n := by
  cases ik with
  | plain => rw [h.1, h.2]
  | range => rw [show items = _ from h]; simp
  | enum => rw [h.1, h.2]; simp

/-- a value that may be bound to the names of a head -/
noncomputable def BindOK (V : Addr → Prop) (h : Heap) (v : Value) (nt : Nat) (ps : List PyData) : Prop :=
  ps.length = nt ∧ ((nt = 1 ∧ ∃ d as, ps = [d] ∧ Rp h v d as ∧ ∀ b ∈ as, ¬ V b) ∨ (nt ≠ 1 ∧ ∃ a ws as, v = .ref a ∧ h.IsTuple a ws ∧ RpAll h ws.toList ps as ∧ ∀ b ∈ as, ¬ V b))

theorem bindOK_rp {V : Addr → Prop} {h : Heap} {v : Value} {d : PyData} {as : List Addr} {nt : Nat} {ps : List PyData} (r : Rp h v d as) (n : ∀ b ∈ as, ¬ V b) (hp : parts nt d = some ps) : BindOK V h v nt ps := by
  unfold parts at hp
  split at hp
  · rename_i q; cases hp; exact ⟨q.symm, .inl ⟨q, d, as, rfl, r, n⟩⟩
  · rename_i q
    split at hp
    · split at hp
      · rename_i q2; cases hp
        obtain ⟨a, vs, rfl, ⟨m, p⟩, rr⟩ := isTup_of_rp r
        exact ⟨q2, .inr ⟨q, a, vs, as, rfl, ⟨_, p, rfl, m, rfl⟩, rr, n⟩⟩
      · cases hp
    · cases hp

theorem bindOK_item {V : Addr → Prop} {h : Heap} {ik : IK} {vs : List Value} {ls items : List PyData} {as : List Addr} {n i : Nat} {v : Value} {d : PyData} {nt : Nat} {ps : List PyData}
    (hi : ItemIs ik vs i v h) (r : RpAll h vs ls as) (nv : ∀ b ∈ as, ¬ V b) (hr : ItemsRel ik ls n items) (hd : items[i]? = some d) (hp : parts nt d = some ps) (ht : ik = .enum → nt = 2) : BindOK V h v nt ps := by
  cases ik with
  | plain =>
    rw [hr.1] at hd
    obtain ⟨v', bs, e1, r', hb⟩ := r.get hd
    rw [show vs[i]? = some v from hi] at e1; cases e1
    exact bindOK_rp r' (fun b m => nv b (hb b m)) hp
  | range =>
    obtain ⟨t, rfl⟩ := hi
    rw [show items = _ from hr] at hd
    rw [List.getElem?_map, Option.map_eq_some_iff] at hd
    obtain ⟨j, e1, rfl⟩ := hd
    rw [List.getElem?_range (by
      rcases Nat.lt_or_ge i n with q | q
      · exact q
      · rw [List.getElem?_eq_none (by simpa using q)] at e1; cases e1)] at e1
    cases e1
    exact bindOK_rp (.int _ t) (fun b m => nomatch m) hp
  | enum =>
    obtain ⟨T, t, x, rfl, hT, e⟩ := hi
    have := ht rfl
    subst this
    rw [hr.1, List.getElem?_map, Option.map_eq_some_iff] at hd
    obtain ⟨⟨d', j⟩, e1, rfl⟩ := hd
    have e2 : ls[i]? = some d' ∧ j = i := by
      rw [List.getElem?_zipIdx, Option.map_eq_some_iff] at e1
      obtain ⟨y, h1, h2⟩ := e1
      cases h2
      exact ⟨h1, by omega⟩
    obtain ⟨e2, rfl⟩ := e2
    obtain ⟨v', bs, e3, r', hb⟩ := r.get e2
    rw [e] at e3; cases e3
    simp only [parts, show ¬ (2 = 1) by decide, if_false, List.length_cons, List.length_nil, if_true, Option.some.injEq] at hp
    subst hp
    refine ⟨rfl, .inr ⟨by decide, T, _, _, rfl, hT, .cons (.int _ t) (.cons r' .nil), fun b m => ?_⟩⟩
    simp only [List.nil_append, List.append_nil] at m
    exact nv b (hb b m)

theorem upd_self (oa : Nat → Addr) (i : Nat) : upd oa i (oa i) = oa := by funext j; unfold upd; split <;> simp_all

section
variable {prog : Program} {w : World} {A : Around} {g : Heap} {cx : Cx} {env : Env} {oa : Nat → Addr} {V : Addr → Prop}

theorem KB.trans' {W : Addr → Prop} {a b c : Heap} (x : KA a b) (y : KB W b c) : KB W a c := fun i o e n => y i o (x i o e) n

theorem KB.own {xs ys : List Str} {a b : Heap} (k : KB (Own env xs) a b) (h : ∀ x ∈ xs, x ∈ ys) : KB (Own env ys) a b := fun i o e n => k i o e fun w => n (w.imp id fun ⟨x, m, r⟩ => ⟨x, h x m, r⟩)

theorem namesOf_cons {e : Expr} {r : List Expr} {tg : List Str} (h : namesOf (e :: r) = some tg) : ∃ x p t, e = .Name x p ∧ namesOf r = some t ∧ tg = x :: t := by
  obtain ⟨x, h1, h3⟩ := bind_some h
  obtain ⟨l, h2, h4⟩ := bind_some h3
  obtain ⟨p, rfl⟩ := asName_some h1
  cases h4
  exact ⟨x, p, l, rfl, h2, rfl⟩
theorem namesOf_len : ∀ {es : List Expr} {tg : List Str}, namesOf es = some tg → tg.length = es.length
  | [], _, h => by cases h; rfl
  | e :: r, _, h => by obtain ⟨_, _, t, _, h2, rfl⟩ := namesOf_cons h; rw [List.length_cons, List.length_cons, namesOf_len h2]
theorem targetOf_is {e : Expr} {tg : List Str} (h : targetOf e = some tg) : (∃ x p, e = .Name x p ∧ tg = [x]) ∨ (∃ es k p, e = .Tuple es k p ∧ 2 ≤ es.length ∧ namesOf es = some tg) := by
  unfold targetOf at h
  cases he : asTuple e with
  | some es =>
    rw [he] at h
    obtain ⟨h1, h2⟩ := gd_some h
    obtain ⟨k, p, rfl⟩ := asTuple_some he
    exact .inr ⟨es, k, p, rfl, by simpa using h1, h2⟩
  | none =>
    rw [he] at h
    obtain ⟨x, h1, h2⟩ := bind_some h
    obtain ⟨p, rfl⟩ := asName_some h1
    cases h2
    exact .inl ⟨x, p, rfl, rfl⟩

theorem slotsOf_cons {nms : List Str} {x : Str} {r : List Str} {l : List Nat} (h : slotsOf nms (x :: r) = some l) : ∃ i t, slotOf nms x = some i ∧ slotsOf nms r = some t ∧ l = i :: t := by
  obtain ⟨i, h1, h⟩ := bind_some h
  obtain ⟨t, h2, h⟩ := bind_some h
  cases h
  exact ⟨i, t, h1, h2, rfl⟩

theorem sound_name {s : Shared} {ρ : Rho} {i : Nat} {x : Str} {pos : Pos} {v : Value} {d : PyData} {as : List Addr} {E : Value → Shared → Prop} {Q : Unit → Shared → Prop} (F : Fm g s.heap cx env ρ oa V) (hx : cx.nms[i]? = some x) (hf : env.kindOf x ≠ some .free)
    (r : Rp s.heap v d as) (n : ∀ b ∈ as, ¬ V b) (hq : ∀ h' tk, Fm g h' cx env (ρ.set i (.fz d)) oa V → KB (Own env [x]) s.heap h' → Q () { s with heap := h', toks := tk }) :
    wpAny (model prog w) A (assign (.Name x pos) env v) Q E s := by
  refine wpAny_assign_Name (wpAny_store (a' := oa i) (sl := .fz d) F hx hf ⟨as, r, n⟩ fun h' tk F' k => ?_)
  rw [upd_self] at F'
  exact hq h' tk F' k

theorem sound_names : ∀ (elts : List Expr) (tg : List Str) (is : List Nat) (vs : List Value) (ps : List PyData) (as : List Addr) (s : Shared) (ρ : Rho) (E : Value → Shared → Prop) (Q : Unit → Shared → Prop),
    namesOf elts = some tg → slotsOf cx.nms tg = some is → (∀ x ∈ tg, env.kindOf x ≠ some .free) → Fm g s.heap cx env ρ oa V → RpAll s.heap vs ps as → (∀ b ∈ as, ¬ V b) →
    (∀ h' tk, Fm g h' cx env (setAll ρ is ps) oa V → KB (Own env tg) s.heap h' → Q () { s with heap := h', toks := tk }) →
    wpAny (model prog w) A (assignInOrder ((assignEach elts env).map (·.2)) vs) Q E s
  | [], tg, is, vs, ps, as, s, ρ, E, Q, h1, h2, hf, F, r, n, hq => by
    cases h1; cases h2
    refine wpAny_pure (hq s.heap s.toks ?_ fun b o e _ => e)
    cases ps <;> exact F
  | e :: elts, tg, is, vs, ps, as, s, ρ, E, Q, h1, h2, hf, F, r, n, hq => by
    obtain ⟨x, p, t, rfl, h5, rfl⟩ := namesOf_cons h1
    obtain ⟨i, it, h4, h3, rfl⟩ := slotsOf_cons h2
    cases r with
    | nil => exact wpAny_pure (hq s.heap s.toks F fun b o e _ => e)
    | cons r1 r2 =>
      rename_i v vs d ds as₁ as₂
      show wpAny (model prog w) A (holding _ (assign (.Name x p) env _) >>= fun _ => assignInOrder ((assignEach elts env).map (·.2)) _) _ _ _
      refine wpAny_bind (wpAny_holding (sound_name F (slotOf_get h4) (hf x (by simp)) r1 (fun b m => n b (List.mem_append_left _ m)) fun h' tk F' k => ?_))
      have r2' : RpAll h' vs ds as₂ := readsAll_frz r2 fun b o e c => k b o e fun w => by
        have hw : Wr env ρ oa b := w.elim .inl fun ⟨x, _, _, q⟩ => .inr (.inl ⟨x, q⟩)
        rcases c with c | c
        · obtain ⟨o', e', nt⟩ := F.wa b hw
          rw [e] at e'; cases e'; exact nt c
        · exact n b (List.mem_append_right _ c) (F.wv b hw)
      refine sound_names elts t it vs ds as₂ _ _ E Q h5 h3 (fun y hy => hf y (by simp [hy])) F' r2' (fun b m => n b (List.mem_append_right _ m)) fun h'' tk' F'' k' => ?_
      exact hq h'' tk' F'' (KB.trans (k.own (by simp)) (k'.own (by simp +contextual)))

theorem assignEach_len : ∀ (elts : List Expr) {tg : List Str}, namesOf elts = some tg → (assignEach elts env).length = tg.length ∧ (assignEach elts env).findIdx? (·.1) = none
  | [], _, h => by cases h; exact ⟨rfl, rfl⟩
  | e :: r, tg, h => by
    obtain ⟨x, p, t, rfl, h1, rfl⟩ := namesOf_cons h
    obtain ⟨i1, i2⟩ := assignEach_len r h1
    refine ⟨?_, ?_⟩
    · show (assignEach r env).length + 1 = t.length + 1
      rw [i1]
    · show ((false, assign (.Name x p) env) :: assignEach r env).findIdx? (·.1) = none
      rw [List.findIdx?_cons, i2]; rfl

theorem slotsOf_len {nms : List Str} : ∀ {tg : List Str} {is : List Nat}, slotsOf nms tg = some is → is.length = tg.length
  | [], _, h => by cases h; rfl
  | x :: r, _, h => by obtain ⟨i, t, _, h2, rfl⟩ := slotsOf_cons h; rw [List.length_cons, List.length_cons, slotsOf_len h2]

theorem sound_bind {target : Expr} {tg : List Str} {is : List Nat} {s : Shared} {ρ : Rho} {v : Value} {ps : List PyData} {E : Value → Shared → Prop} {Q : Unit → Shared → Prop} (hh : A.handled = none) (ht : targetOf target = some tg) (hs : slotsOf cx.nms tg = some is)
    (hf : ∀ x ∈ tg, env.kindOf x ≠ some .free) (F : Fm g s.heap cx env ρ oa V) (hb : BindOK V s.heap v is.length ps)
    (hq : ∀ h' tk, Fm g h' cx env (setAll ρ is ps) oa V → KB (Own env tg) s.heap h' → Q () { s with heap := h', toks := tk }) :
    wpAny (model prog w) A (assign target env v) Q E s := by
  rcases targetOf_is ht with ⟨x, p, rfl, rfl⟩ | ⟨es, kk, pos, rfl, h2l, ht⟩
  · obtain ⟨i, t, h2, h3, rfl⟩ := slotsOf_cons hs
    cases h3
    obtain ⟨_, ⟨_, d, as, rfl, r, n⟩ | ⟨q, _⟩⟩ := hb
    · exact sound_name F (slotOf_get h2) (hf _ (by simp)) r n hq
    · exact (q rfl).elim
  · have hl := slotsOf_len hs
    have hl2 := namesOf_len ht
    obtain ⟨e1, e2⟩ := assignEach_len (env := env) _ ht
    obtain ⟨hpl, ⟨q, _⟩ | ⟨_, ad, ws, as, rfl, hT, rr, n⟩⟩ := hb
    · omega
    · have hsz : (assignEach es env).length = ws.size := by
        have := rr.len
        rw [Array.length_toList] at this
        omega
      refine wpAny_assign_Tuple hh hT hsz e2 fun h' hx => ?_
      have k : KA s.heap h' := fun b o e => hx b o (Nat.ne_of_lt (Heap.lt_size e)) e
      refine sound_names _ tg is ws.toList ps as _ ρ E Q ht hs hf (F.ka k) (rr.keeps k) n fun h'' tk F'' k' => ?_
      exact hq h'' tk F'' (KB.trans' k k')
end
end

section
set_option Elab.async false
open PySem PySem.Spec PyProof.Rows PySem.Calls

theorem wpAny_CallName {M : Model} {A : Around} {E : Value → Shared → Prop} {s : Shared} {env : Env} {f : Str} {fp pos : Pos} {args : List Expr} {Q : Value → Shared → Prop}
    (h : wpAny M A (eval (.Name f fp) env) (fun fv s₁ => wpAny M A (callWith pos fv [] (backTo pos (starEach args env)) []) Q E s₁) E s) : wpAny M A (eval (.Call (.Name f fp) args [] pos) env) Q E s := by
  have e : eval (.Call (.Name f fp) args [] pos) env = (do callWith pos (← eval (.Name f fp) env) [] (backTo pos (starEach args env)) (backToKw pos (keywordEach [] env))) := rfl
  rw [e]
  exact wpAny_bind h

theorem callWith_val {M : Model} {A : Around} {E : Value → Shared → Prop} {s : Shared} {pos : Pos} {f : Value} (hf : ∀ a, f ≠ .ref a) {args : List (Bool × Sem Value)} {Q : Value → Shared → Prop} (hplain : args.any (·.1) = false)
    (h : wpAny M A (evalArgs f true args []) (fun a s₁ => wpAny M A (call f ([] ++ a.pos) a.kw) Q E s₁) E s) : wpAny M A (callWith pos f [] args []) Q E s := by
  unfold callWith
  refine wpAny_bind (wpAny_holding (wpAny_mono h (fun a s₁ h₁ => wpAny_bind (wpAny_standAt ?_)) fun _ _ x => x))
  simp only [hplain, List.any_nil, Bool.or_false]
  have hk : keeperOf f = pure .machine := by cases f <;> first | rfl | exact (hf _ rfl).elim
  rw [hk]
  refine wpAny_bind (wpAny_pure ?_)
  exact wpAny_bind (wpAny_mono h₁ (fun r s₂ hr => wpAny_bind (wpAny_holding (wpAny_point (wpAny_pure hr)))) fun _ _ x => x)

theorem backTo_any {k : Nat} {cx : Cx} {env : Env} {pos : Pos} : ∀ (es : List Expr) {pes : List PE}, cList (cE k cx) es = some pes → (backTo pos (starEach es env)).any (·.1) = false
  | [], _, _ => rfl
  | e :: r, _, h => by
    obtain ⟨hn, a, b, _, h2, _⟩ := cList_cons h
    have ih := backTo_any (env := env) (pos := pos) r h2
    unfold backTo at ih ⊢
    rw [starEach_plain hn, List.map_cons, List.any_cons, ih]
    rfl

section
variable {prog : Program} {w : World} {T : Table} {fs : Fs} {mg mb : Str → Option Value} {n : Nat}

/-- a built-in's name is that built-in -/
theorem sound_biName {A : Around} {g : Heap} {s : Shared} {cx : Cx} {env : Env} {ρ : Rho} {oa : Nat → Addr} {V : Addr → Prop} {x nm : Str} {pos : Pos} {v : Value} {E : Value → Shared → Prop} {Q : Value → Shared → Prop} (hf : cx.fs = fs) (G : Gw T fs mg mb g) (F : Fm g s.heap cx env ρ oa V)
    (hi : cx.isBi x nm = true) (hb : bootBuiltins nm = some v) (h1 : (nm == Str.ofString "__debug__") = false) (h2 : (nm == Str.ofString "__name__") = false) (hq : Q v s) :
    wpAny (model prog w) A (eval (.Name x pos) env) Q E s := by
  unfold Cx.isBi Cx.glob at hi
  simp only [Bool.and_eq_true, beq_iff_eq, Bool.not_eq_true'] at hi
  obtain ⟨⟨rfl, hg⟩, hn⟩ := hi
  rw [hf] at hn
  have hne : x ≠ Str.ofString "__name__" := fun e => by rw [e] at h2; simp at h2
  exact wpAny_glob F.hk (F.gl x hg) F.hg F.hb (G.ng.keeps F.top) (G.nb.keeps F.top) (.inr ⟨G.bi x hn (by rw [hb]; simp) hne, by rw [G.bb x hne, hb]⟩) h1 hq

/-- the arguments of a built-in, then its call -/
theorem sound_bcall (hE : SE prog w T fs mg mb n) {k : Nat} {cx : Cx} {A : Around} {g : Heap} {s : Shared} {env : Env} {ρ : Rho} {oa : Nat → Addr} {V : Addr → Prop} {f nm : Str} {fp pos : Pos} {fv : Value} {e : Expr} {es : List Expr} {pes : List PE} {R : List (PyData × Tag) → Prop} {Q : Value → Shared → Prop}
    (hf : cx.fs = fs) (hR : Room A n) (G : Gw T fs mg mb g) (F : Fm g s.heap cx env ρ oa V) (hi : cx.isBi f nm = true) (hb : bootBuiltins nm = some fv) (hv : ∀ a, fv ≠ .ref a) (h1 : (nm == Str.ofString "__debug__") = false) (h2 : (nm == Str.ofString "__name__") = false)
    (hc : cList (cE k cx) (e :: es) = some pes) (h : evs ((lev T n).E ρ) pes R)
    (hq : ∀ vs r s₁, R r → Keeps s s₁ → ResAll V oa s.heap s₁.heap vs r → wpAny (model prog w) A (call fv vs) Q NoE s₁) :
    wpAny (model prog w) A (eval (.Call (.Name f fp) (e :: es) [] pos) env) Q NoE s := by
  refine wpAny_CallName (sound_biName hf G F hi hb h1 h2 (callWith_val hv (backTo_any _ hc) ?_))
  have hs := sound_evs (pos := pos) hE hf hR G (e :: es) pes s R hc F h
  obtain ⟨hn, a, b, _, h2, _⟩ := cList_cons hc
  rw [starEach_plain hn] at hs ⊢
  refine evalArgs_plain (wpAny_mono hs (fun vs s₁ p => ?_) fun _ _ x => x)
  obtain ⟨r, q, k1, rr⟩ := p
  exact hq vs r s₁ q k1 rr

theorem iterOf_cases (cx : Cx) (iter : Expr) : (∃ f p e pos, iter = .Call (.Name f p) [e] [] pos ∧ cx.isBi f (Str.ofString "range") = true ∧ iterOf cx iter = (.range, e)) ∨
    (∃ f p e pos, iter = .Call (.Name f p) [e] [] pos ∧ cx.isBi f (Str.ofString "enumerate") = true ∧ iterOf cx iter = (.enum, e)) ∨ iterOf cx iter = (.plain, iter) := by
  unfold iterOf
  cases h : callOne iter with
  | none => exact .inr (.inr rfl)
  | some x =>
    obtain ⟨p, pos, rfl⟩ := callOne_some h
    dsimp only
    by_cases c : cx.isBi x.1 (Str.ofString "range") = true
    · rw [if_pos c]; exact .inl ⟨_, _, _, _, rfl, c, rfl⟩
    · rw [if_neg c]
      by_cases c : cx.isBi x.1 (Str.ofString "enumerate") = true
      · rw [if_pos c]; exact .inr (.inl ⟨_, _, _, _, rfl, c, rfl⟩)
      · rw [if_neg c]; exact .inr (.inr rfl)

theorem cE_noStar {k : Nat} {cx : Cx} {e : Expr} {pi : PE} (hc : cE k cx e = some pi) : isStar e = false := by
  cases k with
  | zero => cases hc
  | succ k =>
    replace hc : cE1 (cE k) cx (view e) = some pi := hc
    unfold isStar
    generalize view e = v at hc
    cases v with
    | star => cases hc
    | _ => rfl
theorem cList_one {k : Nat} {cx : Cx} {e : Expr} {pi : PE} (hc : cE k cx e = some pi) : cList (cE k cx) [e] = some [pi] := by
  show gd (!isStar e) ((cE k cx e).bind fun a => some [a]) = _
  rw [cE_noStar hc, hc]
  rfl

noncomputable def One (P : PyData → Tag → Prop) : List (PyData × Tag) → Prop
  | [(d, t)] => P d t
  | _ => False
theorem shape1 {V : Addr → Prop} {oa : Nat → Addr} {h h' : Heap} {P : PyData → Tag → Prop} : ∀ {vs : List Value} {r : List (PyData × Tag)}, ResAll V oa h h' vs r → One P r → ∃ v d t, vs = [v] ∧ Res V oa h h' v d t ∧ P d t
  | _, [], _, q => q.elim
  | _, _ :: _ :: _, _, q => q.elim
  | [], [_], rr, _ => rr.elim
  | _ :: _ :: _, [_], rr, _ => rr.2.elim
  | [v], [(d, t)], rr, q => ⟨v, d, t, rfl, rr.1, q⟩
/-- what a loop goes over -/
theorem sound_src (hE : SE prog w T fs mg mb n) {k : Nat} {cx : Cx} {A : Around} {g : Heap} {s : Shared} {env : Env} {ρ : Rho} {oa : Nat → Addr} {V : Addr → Prop} {target iter : Expr} {pi : PE} {C : Tag → Prop} {Qi : List PyData → Prop} {Q : Value → Shared → Prop}
    (hf : cx.fs = fs) (hR : Room A n) (G : Gw T fs mg mb g) (F : Fm g s.heap cx env ρ oa V) (hc : cE k cx (iterOf cx iter).2 = some pi) (ht : (iterOf cx iter).1 = .enum → ∃ elts kk p, target = .Tuple elts kk p)
    (h : (lev T n).E ρ pi (fun d t => C t ∧ itemsP (iterOf cx iter).1 d Qi))
    (hq : ∀ I s₂ vs n' fp wr Md St items ls as t, Src prog w A target (iterOf cx iter).1 vs n' s s₂ I fp wr Md St → Qi items → C t → ItemsRel (iterOf cx iter).1 ls n' items → items.length ≤ sizeLine → RpAll s₂.heap vs ls as → (∀ b ∈ as, ¬ V b) → (∀ b ∈ as, b ∉ wr) →
      (∀ b ∈ fp, b ∈ wr ∨ ∃ o, s₂.heap.get? b = some o ∧ (IsT o ∨ (t.isVar = false → ¬ V b))) → Q (.ref I) s₂) :
    wpAny (model prog w) A (eval iter env) (fun x s₁ => wpAny (model prog w) A (pyIter x) Q NoE s₁) NoE s := by
  have hh := hR.1
  -- a list or a tuple met, whatever goes over it
  have key : ∀ (v : Value) (d : PyData) (t : Tag) (s₁ : Shared), Keeps s s₁ → Res V oa s.heap s₁.heap v d t → C t → ∀ ik, ik ≠ .range → ik = (iterOf cx iter).1 → itemsP ik d Qi →
      (ik = .plain → wpAny (model prog w) A (pyIter v) Q NoE s₁) ∧ (ik = .enum → wpAny (model prog w) A (call (.type "enumerate") [v]) (fun x s₂ => wpAny (model prog w) A (pyIter x) Q NoE s₂) NoE s₁) := by
    intro v d t s₁ k1 r hC ik hik hie hi
    have va : ∀ b, V b → ∃ o, s.heap.get? b = some o := F.va
    cases d with
    | list l =>
      obtain ⟨a, vs, as, rfl, p, rr, nv⟩ := r.items
      have ha : t.isVar = false → ¬ V a := fun hv => by
        obtain ⟨bs, rp, nb⟩ := r.old hv va
        obtain ⟨a', vs', bs', e, _, _, rfl⟩ := isList_of_rp rp
        cases e; exact nb _ (by simp)
      have hal : ∃ o, s₁.heap.get? a = some o := let ⟨m, e⟩ := p; ⟨_, e⟩
      have hl := rr.len
      rw [Array.length_toList] at hl
      refine ⟨fun e => ?_, fun e => ?_⟩
      · subst e
        refine src_list (target := target) hh p fun I s₂ fp wr Md St x hfp => ?_
        refine hq I s₂ vs.toList vs.size fp wr Md St l l as t (hie ▸ x.base k1) hi.2 hC (hie ▸ ⟨rfl, hl⟩) hi.1 (rr.keeps (kp_heap x.kp)) nv (fun b m q => by obtain ⟨o, e⟩ := readsAll_alive rr b m; rw [x.new b q] at e; cases e) fun b hb => ?_
        rcases hfp b hb with q | rfl
        · exact .inl q
        · obtain ⟨o, e⟩ := hal; exact .inr ⟨o, kp_heap x.kp _ _ e, .inr ha⟩
      · subst e
        obtain ⟨elts, kk, pp, rfl⟩ := ht hie.symm
        refine src_enumL (elts := elts) (kk := kk) (pos := pp) hh p fun I s₂ fp wr Md St x hfp => ?_
        refine hq I s₂ vs.toList vs.size fp wr Md St _ l as t (hie ▸ x.base k1) hi.2 hC (hie ▸ ⟨rfl, hl⟩) (by simpa using hi.1) (rr.keeps (kp_heap x.kp)) nv (fun b m q => by obtain ⟨o, e⟩ := readsAll_alive rr b m; rw [x.new b q] at e; cases e) fun b hb => ?_
        rcases hfp b hb with q | rfl
        · exact .inl q
        · obtain ⟨o, e⟩ := hal; exact .inr ⟨o, kp_heap x.kp _ _ e, .inr ha⟩
    | tuple l =>
      obtain ⟨a, vs, as, rfl, p, rr, nv⟩ := r.titems
      have hal : ∃ o, s₁.heap.get? a = some o ∧ IsT o := let ⟨m, e⟩ := p; ⟨_, e, _, _, rfl⟩
      have hl := rr.len
      rw [Array.length_toList] at hl
      refine ⟨fun e => ?_, fun e => ?_⟩
      · subst e
        refine src_tuple (target := target) hh p fun I s₂ fp wr Md St x hfp => ?_
        refine hq I s₂ vs.toList vs.size fp wr Md St l l as t (hie ▸ x.base k1) hi.2 hC (hie ▸ ⟨rfl, hl⟩) hi.1 (rr.keeps (kp_heap x.kp)) nv (fun b m q => by obtain ⟨o, e⟩ := readsAll_alive rr b m; rw [x.new b q] at e; cases e) fun b hb => ?_
        rcases hfp b hb with q | rfl
        · exact .inl q
        · obtain ⟨o, e, ty⟩ := hal; exact .inr ⟨o, kp_heap x.kp _ _ e, .inl ty⟩
      · subst e
        obtain ⟨elts, kk, pp, rfl⟩ := ht hie.symm
        refine src_enumT (elts := elts) (kk := kk) (pos := pp) hh p fun I s₂ fp wr Md St x hfp => ?_
        refine hq I s₂ vs.toList vs.size fp wr Md St _ l as t (hie ▸ x.base k1) hi.2 hC (hie ▸ ⟨rfl, hl⟩) (by simpa using hi.1) (rr.keeps (kp_heap x.kp)) nv (fun b m q => by obtain ⟨o, e⟩ := readsAll_alive rr b m; rw [x.new b q] at e; cases e) fun b hb => ?_
        rcases hfp b hb with q | rfl
        · exact .inl q
        · obtain ⟨o, e, ty⟩ := hal; exact .inr ⟨o, kp_heap x.kp _ _ e, .inl ty⟩
    | _ => cases ik <;> first | exact hi.elim | exact (hik rfl).elim
  rcases iterOf_cases cx iter with ⟨f, p, e, pos, rfl, c1, ei⟩ | ⟨f, p, e, pos, rfl, c2, ei⟩ | ei
  · rw [ei] at hc h hq
    have hcl := cList_one hc
    refine sound_bcall hE hf hR G F c1 (by decide +kernel : bootBuiltins (Str.ofString "range") = some (.type "range")) (fun a q => by cases q) (by decide +kernel) (by decide +kernel) hcl (R := One fun d t => C t ∧ itemsP .range d Qi) h fun vs r s₁ hr k1 rr => ?_
    obtain ⟨v, d, t, rfl, r1, hC, hi⟩ := shape1 rr hr
    cases d with
    | int kk =>
      obtain ⟨u, rfl⟩ := r1.int
      refine src_range (target := target) hh hi.1.2 hi.1.1 fun I s₂ fp wr Md St x hfp => ?_
      refine hq I s₂ [] kk.toNat fp wr Md St _ [] [] t (x.base k1) hi.2 hC rfl ?_ .nil (fun _ m => (nomatch m)) (fun _ m => (nomatch m)) fun b hb => .inl (hfp b hb)
      simp only [List.length_map, List.length_range]
      have := hi.1.2
      have : sizeLine = 16777216 := rfl
      omega
    | _ => exact hi.elim
  · rw [ei] at hc h hq ht key
    have hcl := cList_one hc
    refine sound_bcall hE hf hR G F c2 (by decide +kernel : bootBuiltins (Str.ofString "enumerate") = some (.type "enumerate")) (fun a q => by cases q) (by decide +kernel) (by decide +kernel) hcl (R := One fun d t => C t ∧ itemsP .enum d Qi) h fun vs r s₁ hr k1 rr => ?_
    obtain ⟨v, d, t, rfl, r1, hC, hi⟩ := shape1 rr hr
    exact (key v d t s₁ k1 r1 hC .enum (fun q => by cases q) rfl hi).2 rfl
  · rw [ei] at hc h hq key
    refine wpAny_mono (hE k cx _ pi A g s env ρ oa V _ hf hc hR G F h) (fun v s₁ p => ?_) fun _ _ x => x
    obtain ⟨d, t, ⟨hC, hi⟩, k1, r⟩ := p
    exact (key v d t s₁ k1 r hC .plain (fun q => by cases q) rfl hi).1 rfl
end
end

section
set_option Elab.async false
open PySem PySem.Spec PyProof.Rows PySem.Calls

/-- tests that are not just the truth of a value -/
noncomputable def EK.condy : EK → Bool
  | .un op _ => (match op with | .Not => true | _ => false)
  | .bool _ _ => true
  | .cmp _ _ _ => true
  | .other => true
  | _ => false
theorem isTrue_plain {e : Expr} {env : Env} (h : (view e).condy = false) : isTrue e env (eval e env) = (do let v ← eval e env; standAt e.pos; holding [v] (truthy v)) := by
  cases e with
  | UnaryOp op x p => cases op <;> first | rfl | cases h
  | BoolOp => cases h
  | IfExp => cases h
  | Compare => cases h
  | _ => rfl
theorem wpAny_isTrue_other {M : Model} {A : Around} {E : Value → Shared → Prop} {s : Shared} {e : Expr} {env : Env} {Q : Bool → Shared → Prop} (he : (view e).condy = false)
    (h : wpAny M A (eval e env) (fun v s₁ => wpAny M A (truthy v) Q E s₁) E s) : wpAny M A (isTrue e env (eval e env)) Q E s := by
  rw [isTrue_plain he]
  exact wpAny_bind (wpAny_mono h (fun v s₁ p => wpAny_bind (wpAny_standAt (wpAny_holding p))) fun _ _ x => x)

section
variable {prog : Program} {w : World} {T : Table} {fs : Fs} {mg mb : Str → Option Value}

inductive CmpIs (f : Expr → Option PE) (l : Expr) (ops : List CmpOp) (rs : List Expr) (pe : PE) : Prop
  | one (op : CmpOp) (r : Expr) (a b : PE) (e1 : ops = [op]) (e2 : rs = [r]) (hm : behindInMarks op r = false) (h1 : f l = some a) (h2 : f r = some b) (e : pe = .cmp op a b)
theorem cE_cmp {f : Expr → Option PE} {l : Expr} {ops : List CmpOp} {rs : List Expr} {pe : PE} (h : cCmp f l ops rs = some pe) : CmpIs f l ops rs pe := by
  unfold cCmp at h
  cases ho : one? ops with
  | some op =>
    rw [ho] at h
    obtain ⟨r, hr, h⟩ := bind_some h
    obtain ⟨h0, h⟩ := gd_some h
    obtain ⟨a, h1, h⟩ := bind_some h
    obtain ⟨b, h2, h⟩ := bind_some h
    cases h
    exact .one op r a b (one?_some ho) (one?_some hr) (by simpa using h0) h1 h2 rfl
  | none =>
    rw [ho] at h; cases h

inductive TPost (s : Shared) (Q : PyData → Tag → Prop) (b : Bool) (s' : Shared) : Prop
  | mk (t : Tag) (q : Q (.bool b) t) (k : Keeps s s')
theorem sound_true {cx : Cx} {A : Around} {g : Heap} {env : Env} {ρ : Rho} {oa : Nat → Addr} {V : Addr → Prop} (hf : cx.fs = fs) (G : Gw T fs mg mb g) :
    ∀ (n : Nat) (k : Nat) (e : Expr) (pe : PE) (s : Shared) (Q : PyData → Tag → Prop), (∀ m, m ≤ n → SE prog w T fs mg mb m) → Room A n → cE k cx e = some pe → Fm g s.heap cx env ρ oa V → (lev T n).E ρ pe Q → (∀ d t, Q d t → ∃ b, d = .bool b) →
      wpAny (model prog w) A (isTrue e env (eval e env)) (TPost s Q) NoE s := by
  intro n
  induction n using Nat.strongRecOn with
  | ind n ihn =>
    intro k e pe s Q IH hR hc F h hb
    have plain : (view e).condy = false → wpAny (model prog w) A (isTrue e env (eval e env)) (TPost s Q) NoE s := fun he =>
      wpAny_isTrue_other he (wpAny_mono (IH n (Nat.le_refl _) k cx e pe A g s env ρ oa V Q hf hc hR G F h) (fun v s₁ p => by
        obtain ⟨d, t, q, k1, r⟩ := p
        obtain ⟨b, rfl⟩ := hb d t q
        rw [r.bool]
        exact wpAny_truthy_bool ⟨t, q, k1⟩) fun _ _ x => x)
    cases n with
    | zero => exact h.elim
    | succ n =>
    have IH' : ∀ m, m ≤ n → SE prog w T fs mg mb m := fun m hm => IH m (Nat.le_succ_of_le hm)
    have hR' := hR.le (Nat.le_succ n)
    have hEn := IH' n (Nat.le_refl n)
    cases k with
    | zero => cases hc
    | succ k =>
    have hc0 : cE1 (cE k) cx (view e) = some pe := hc
    have hv := view_is e
    generalize view e = v at hc0 hv plain
    cases v with
    | un op x =>
      obtain ⟨p, rfl⟩ := hv
      cases op with
      | Not =>
          obtain ⟨a, h1, rfl⟩ := Option.map_eq_some_iff.mp hc0
          refine wpAny_isTrue_Not (wpAny_mono (ihn n (Nat.lt_succ_self n) k x a s (fun d _ => match d with | .bool b => Q (.bool (!b)) .old | _ => False) IH' hR' h1 F h (fun d t q => by cases d <;> first | exact ⟨_, rfl⟩ | exact q.elim)) (fun b s₁ p => ?_) fun _ _ x => x)
          obtain ⟨t, q, k1⟩ := p
          exact ⟨.old, q, k1⟩
      | _ => exact plain rfl
    | bool op vs =>
        obtain ⟨p, rfl⟩ := hv
        obtain ⟨e1, e2, r, rfl⟩ : ∃ a b r, vs = a :: b :: r := by
          match vs, hc0 with
          | a :: b :: r, _ => exact ⟨a, b, r, rfl⟩
          | [], hc => cases hc
          | [_], hc => cases hc
        have hc : cBool (cE k cx) op (e1 :: e2 :: r) = some pe := hc0
        refine wpAny_isTrue_BoolOp ?_
        -- the list of a BoolOp, each at a level of its own
        have go : ∀ (es : List Expr) (pe : PE) (m : Nat) (s : Shared) (Q : PyData → Tag → Prop), m ≤ n + 1 → (es.length = 1 → m ≤ n) → cBool (cE k cx) op es = some pe → Fm g s.heap cx env ρ oa V → (lev T m).E ρ pe Q → (∀ d t, Q d t → ∃ b, d = .bool b) →
            wpAny (model prog w) A (allTrue op es env) (TPost s Q) NoE s := by
          intro es
          induction es with
          | nil => intro pe m s Q _ _ hc; cases hc
          | cons e r ih =>
            intro pe m s Q hm hm1 hc F h hb
            cases r with
            | nil =>
              have hmn := hm1 rfl
              have one : wpAny (model prog w) A (isTrue e env (eval e env)) (TPost s Q) NoE s :=
                ihn m (Nat.lt_succ_of_le hmn) k e pe s Q (fun j hj => IH j (Nat.le_trans hj hm)) (hR.le hm) hc F h hb
              cases op with
              | And => exact wpAny_allTrue_And_cons (wpAny_mono one (fun b s₁ p => by cases b <;> first | exact p | exact wpAny_allTrue_And_nil p) fun _ _ x => x)
              | Or => exact wpAny_allTrue_Or_cons (wpAny_mono one (fun b s₁ p => by cases b <;> first | exact p | exact wpAny_allTrue_Or_nil p) fun _ _ x => x)
            | cons e' r =>
              obtain ⟨a, b, h1, h2, rfl⟩ := cBool_two hc
              cases m with
              | zero => exact h.elim
              | succ m =>
                have hm' : m ≤ n := Nat.le_of_succ_le_succ hm
                have hlt : m < n + 1 := Nat.lt_succ_of_le hm'
                cases op with
                | And =>
                  refine wpAny_allTrue_And_cons (wpAny_mono (ihn m hlt k e a s _ (fun j hj => IH j (Nat.le_trans hj (Nat.le_of_lt hlt))) (hR.le (Nat.le_of_lt hlt)) h1 F h (fun d t q => by cases d <;> first | exact ⟨_, rfl⟩ | exact q.elim)) (fun c s₁ p => ?_) fun _ _ x => x)
                  obtain ⟨t, q, k1⟩ := p
                  cases c with
                  | false => exact ⟨.old, q.2 rfl, k1⟩
                  | true =>
                    simp only [if_true]
                    refine wpAny_mono (ih b m s₁ Q (Nat.le_of_lt hlt) (fun _ => hm') h2 (F.ka (kp_heap k1)) (q.1 rfl) hb) (fun b s₂ p => ?_) fun _ _ x => x
                    obtain ⟨t, q, k2⟩ := p
                    exact ⟨t, q, kp_trans k1 k2⟩
                | Or =>
                  refine wpAny_allTrue_Or_cons (wpAny_mono (ihn m hlt k e a s _ (fun j hj => IH j (Nat.le_trans hj (Nat.le_of_lt hlt))) (hR.le (Nat.le_of_lt hlt)) h1 F h (fun d t q => by cases d <;> first | exact ⟨_, rfl⟩ | exact q.elim)) (fun c s₁ p => ?_) fun _ _ x => x)
                  obtain ⟨t, q, k1⟩ := p
                  cases c with
                  | true => exact ⟨.old, q.1 rfl, k1⟩
                  | false =>
                    simp only [Bool.false_eq_true, if_false]
                    refine wpAny_mono (ih b m s₁ Q (Nat.le_of_lt hlt) (fun _ => hm') h2 (F.ka (kp_heap k1)) (q.2 rfl) hb) (fun b s₂ p => ?_) fun _ _ x => x
                    obtain ⟨t, q, k2⟩ := p
                    exact ⟨t, q, kp_trans k1 k2⟩
        exact go _ pe (n + 1) s Q (Nat.le_refl _) (fun q => by simp at q) hc F h hb
    | cmp l ops rs =>
      obtain ⟨p, rfl⟩ := hv
      cases cE_cmp hc0 with
      | one op r a b q1 q2 hm h1 h2 q3 =>
        subst q1 q2 q3
        refine wpAny_isTrue_Compare1 (wpAny_mono (hEn k cx l a A g s env ρ oa V _ hf h1 hR' G F h) (fun v s₁ p => ?_) fun _ _ x => x) hm
        obtain ⟨x, tx, q, k1, r1⟩ := p
        refine wpAny_mono (hEn k cx r b A g s₁ env ρ oa V _ hf h2 hR' G (F.ka (kp_heap k1)) q) (fun v' s₂ p => ?_) fun _ _ x => x
        obtain ⟨y, ty, q, k2, r2⟩ := p
        obtain ⟨c, q, hcmp⟩ := sound_cmpP (prog := prog) (w := w) (E := NoE) hR.u (r1.ka (kp_heap k2)) r2 q
        exact hcmp _ (wpAny_truthy_bool ⟨.old, q, kp_trans k1 k2⟩)
    | other => cases hc0
    | _ => exact plain rfl
end
end

section
set_option Elab.async false
open PySem PySem.Spec PyProof.Rows PySem.Calls

section
variable {g h h' : Heap} {cx : Cx} {env : Env} {ρ : Rho} {oa : Nat → Addr} {V : Addr → Prop}

/-- a change at addresses that nothing of the frame holds -/
theorem Fm.change {X : Addr → Prop} (F : Fm g h cx env ρ oa V) (k : KB X h h') (hx : ∀ b, X b → V b ∧ ¬ Wr env ρ oa b ∧ g.get? b = none) (hT : ∀ b o, X b → h.get? b = some o → ¬ IsT o) (hal : ∀ b, X b → ∃ o, h'.get? b = some o) : Fm g h' cx env ρ oa V := by
  have fz : ∀ as : List Addr, (∀ b ∈ as, ¬ V b) → Frz h h' as := fun as n => frz_of k hT fun b m q => n b m (hx b q).1
  have nw : ∀ b, Wr env ρ oa b → ¬ X b := fun b w q => (hx b q).2.1 w
  have ns' : ∀ m, h.Ns env.locals m → h'.Ns env.locals m := fun m n => n.at' fun o e => k _ o e (nw _ (.inl rfl))
  have ce' : ∀ x c v, (x, c) ∈ env.cells → h.IsCell c v → h'.IsCell c v := fun x c v m i => let ⟨o, e, d⟩ := i; ⟨o, k c o e (nw _ (.inr (.inl ⟨x, m⟩))), d⟩
  have bd : ∀ y v, Bd h env y v → Bd h' env y v := fun y v b => by
    rcases b with ⟨a, m, n, e⟩ | ⟨a, c, e, i⟩
    · exact .inl ⟨a, m, ns' m n, e⟩
    · exact .inr ⟨a, c, e, ce' y c _ (mem_of_lookup e) i⟩
  exact {
    top := fun b o e => k b o (F.top b o e) fun q => by rw [(hx b q).2.2] at e; cases e
    hg := F.hg
    hb := F.hb
    hk := F.hk
    gl := F.gl
    ce := F.ce
    nm := F.nm
    len := F.len
    dist := F.dist
    kd := F.kd
    ns := let ⟨m, n⟩ := F.ns; ⟨m, ns' m n⟩
    cel := fun x c e => let ⟨v, i⟩ := F.cel x c e; ⟨v, ce' x c v e i⟩
    cap := F.cap
    new := F.new
    od := F.od
    val := fun i x sl e1 e2 => by
      have S := F.val i x sl e1 e2
      cases sl with
      | un => trivial
      | fz d => obtain ⟨v, as, b, r, n⟩ := S; exact ⟨v, as, bd _ _ b, reads_frz r (fz as n), n⟩
      | ow l =>
        obtain ⟨b, vs, as, p, r, n⟩ := S
        exact ⟨bd _ _ b, vs, as, p.at fun o e => k _ o e (nw _ (.inr (.inr ⟨i, l, e2, rfl⟩))), readsAll_frz r (fz as n), n⟩
    va := fun b hv => by
      obtain ⟨o, e⟩ := F.va b hv
      by_cases q : X b
      · exact hal b q
      · exact ⟨o, k b o e q⟩
    wv := F.wv }
end

noncomputable def clOf (env : Env) : List (Str × NameKind) → List (Str × Addr) → List (Str × Addr)
  | [], acc => acc
  | (x, k) :: r, acc => if k == .free then clOf env r ((x, (env.cells.lookup x).getD 0) :: acc) else clOf env r acc

theorem freeOf_mem : ∀ {names : List (Str × NameKind)} {x : Str}, x ∈ freeOf names ↔ (x, NameKind.free) ∈ names
  | [], x => by simp [freeOf]
  | (y, k) :: r, x => by
    cases k <;> simp [freeOf, freeOf_mem (names := r)]

theorem forIn_clos {env : Env} (f : Str × NameKind → List (Str × Addr) → Sem (ForInStep (List (Str × Addr))))
    (hf : ∀ x k r, f (x, k) r = if k == .free then (do let a ← cellOf env x; pure (.yield ((x, a) :: r))) else pure (.yield r)) :
    ∀ (names : List (Str × NameKind)) (acc : List (Str × Addr)), (∀ x, x ∈ freeOf names → ∃ c, env.cells.lookup x = some c) → forIn names acc f = (pure (clOf env names acc) : Sem _)
  | [], acc, _ => by rw [List.forIn_nil]; rfl
  | (x, k) :: r, acc, h => by
    rw [List.forIn_cons, hf]
    unfold clOf
    by_cases q : k = .free
    · subst q
      obtain ⟨c, e⟩ := h x (by simp [freeOf])
      simp only [beq_self_eq_true, if_true]
      unfold cellOf
      rw [e]
      simp only [pure_bind, Option.getD_some]
      exact forIn_clos f hf r _ fun y hy => h y (by simp [freeOf, hy])
    · have q' : (k == NameKind.free) = false := beq_eq_false_iff_ne.mpr q
      simp only [q', Bool.false_eq_true, if_false, pure_bind]
      exact forIn_clos f hf r _ fun y hy => h y (by cases k <;> simp_all [freeOf])

theorem closureFor_eq {scope : Scope} {env : Env} (h : ∀ x, x ∈ freeOf scope.names → ∃ c, env.cells.lookup x = some c) : closureFor scope env = pure (clOf env scope.names []) := by
  have key := forIn_clos (env := env) (fun x r => match x with
      | (name, kind) => if (kind == NameKind.free) = true then do
          let a ← cellOf env name
          pure (ForInStep.yield ((name, a) :: r))
        else pure (ForInStep.yield r)) (fun x k r => rfl) scope.names [] h
  unfold closureFor
  show (forIn scope.names [] _ >>= fun s => pure s) = _
  exact (congrArg (fun m => m >>= fun s => pure s) key).trans rfl

theorem clOf_mem {env : Env} : ∀ (names : List (Str × NameKind)) (acc : List (Str × Addr)) {x : Str} {c : Addr}, (∀ x, x ∈ freeOf names → ∃ c, env.cells.lookup x = some c) → (x, c) ∈ clOf env names acc → (x, c) ∈ acc ∨ (x ∈ freeOf names ∧ env.cells.lookup x = some c)
  | [], acc, x, c, _, h => .inl h
  | (y, k) :: r, acc, x, c, hc, h => by
    unfold clOf at h
    by_cases q : k = .free
    · subst q
      simp only [beq_self_eq_true, if_true] at h
      rcases clOf_mem r _ (fun z hz => hc z (by simp [freeOf, hz])) h with m | ⟨m, e⟩
      · rcases List.mem_cons.mp m with e | m
        · cases e
          obtain ⟨c', e'⟩ := hc y (by simp [freeOf])
          exact .inr ⟨by simp [freeOf], by rw [e']; rfl⟩
        · exact .inl m
      · exact .inr ⟨by simp [freeOf, m], e⟩
    · have q' : (k == NameKind.free) = false := beq_eq_false_iff_ne.mpr q
      simp only [q', Bool.false_eq_true, if_false] at h
      rcases clOf_mem r _ (fun z hz => hc z (by cases k <;> simp_all [freeOf])) h with m | ⟨m, e⟩
      · exact .inl m
      · exact .inr ⟨by cases k <;> simp_all [freeOf], e⟩

theorem clOf_has {env : Env} : ∀ (names : List (Str × NameKind)) (acc : List (Str × Addr)), (∀ p ∈ acc, p ∈ clOf env names acc) ∧ ∀ x, x ∈ freeOf names → ∃ c, (x, c) ∈ clOf env names acc
  | [], acc => ⟨fun p h => h, fun x h => nomatch h⟩
  | (y, k) :: r, acc => by
    unfold clOf
    by_cases q : k = .free
    · subst q
      simp only [beq_self_eq_true, if_true]
      obtain ⟨i1, i2⟩ := clOf_has (env := env) r ((y, (env.cells.lookup y).getD 0) :: acc)
      refine ⟨fun p h => i1 p (List.mem_cons_of_mem _ h), fun x hx => ?_⟩
      simp only [freeOf, List.mem_cons] at hx
      rcases hx with rfl | hx
      · exact ⟨_, i1 _ List.mem_cons_self⟩
      · exact i2 x hx
    · have q' : (k == NameKind.free) = false := beq_eq_false_iff_ne.mpr q
      simp only [q', Bool.false_eq_true, if_false]
      obtain ⟨i1, i2⟩ := clOf_has (env := env) r acc
      exact ⟨i1, fun x hx => i2 x (by cases k <;> simp_all [freeOf])⟩

theorem lookup_of_all {l : List (Str × Addr)} {f : Str → Option Addr} (h : ∀ x c, (x, c) ∈ l → f x = some c) {x : Str} {c : Addr} (m : (x, c) ∈ l) : l.lookup x = some c := by
  induction l with
  | nil => cases m
  | cons p r ih =>
    obtain ⟨y, d⟩ := p
    rw [List.lookup_cons]
    cases q : x == y with
    | true =>
      rw [beq_iff_eq.mp q] at m
      have h1 := h y d List.mem_cons_self
      have h2 := h y c m
      rw [h1] at h2; cases h2; rfl
    | false =>
      rcases List.mem_cons.mp m with e | m
      · cases e; simp at q
      · exact ih (fun x c m => h x c (List.mem_cons_of_mem _ m)) m

theorem distinct_nodup : ∀ {l : List Str}, distinct l = true → l.Nodup
  | [], _ => List.nodup_nil
  | x :: r, h => by
    unfold distinct at h
    simp only [Bool.and_eq_true, Bool.not_eq_true', List.contains_eq_mem, decide_eq_false_iff_not] at h
    exact List.nodup_cons.mpr ⟨h.1, distinct_nodup h.2⟩

theorem clOf_names {env : Env} : ∀ (names : List (Str × NameKind)) (acc : List (Str × Addr)), (clOf env names acc).map (·.1) = (freeOf names).reverse ++ acc.map (·.1)
  | [], acc => by simp [clOf, freeOf]
  | (y, k) :: r, acc => by
    unfold clOf
    by_cases q : k = .free
    · subst q
      simp only [beq_self_eq_true, if_true]
      rw [clOf_names]; simp [freeOf]
    · have q' : (k == NameKind.free) = false := beq_eq_false_iff_ne.mpr q
      simp only [q', Bool.false_eq_true, if_false]
      rw [clOf_names]
      cases k <;> simp_all [freeOf]

theorem freeOf_sub : ∀ (names : List (Str × NameKind)), (freeOf names).Sublist (names.map (·.1))
  | [] => List.Sublist.slnil
  | (y, k) :: r => by
    cases k <;> simp only [freeOf, List.map_cons] <;> first | exact List.Sublist.cons_cons _ (freeOf_sub r) | exact List.Sublist.cons _ (freeOf_sub r)

theorem relabel_keep {env : Env} {k₀ : NameKind} (hk : k₀ ≠ .free) : ∀ {names : List (Str × NameKind)} {x : Str}, names.lookup x = some k₀ →
    (names.map fun (n, k) => if (k == NameKind.free && env.scope.kind == .function && env.kindOf n == some .cell) then (n, NameKind.cell) else (n, k)).lookup x = some k₀
  | [], _, h => by simp at h
  | (n, k) :: r, x, h => by
    have ih := @relabel_keep env k₀ hk r x
    show List.lookup x ((if (k == NameKind.free && env.scope.kind == .function && env.kindOf n == some .cell) = true then (n, NameKind.cell) else (n, k)) :: _) = _
    cases hx : x == n with
    | true =>
      simp only [List.lookup_cons, hx] at h
      cases h
      have : (k₀ == NameKind.free) = false := beq_eq_false_iff_ne.mpr hk
      simp [List.lookup_cons, hx, this]
    | false =>
      simp only [List.lookup_cons, hx] at h
      by_cases hc : (k == NameKind.free && env.scope.kind == .function && env.kindOf n == some .cell) = true
      · rw [if_pos hc]; simp only [List.lookup_cons, hx]; exact ih h
      · rw [if_neg hc]; simp only [List.lookup_cons, hx]; exact ih h

theorem relabel_free {env : Env} (hf : env.scope.kind = .function) : ∀ {names : List (Str × NameKind)} {x : Str}, names.lookup x = some .free → env.kindOf x = some .cell →
    (names.map fun (n, k) => if (k == NameKind.free && env.scope.kind == .function && env.kindOf n == some .cell) then (n, NameKind.cell) else (n, k)).lookup x = some .cell
  | [], _, h, _ => by simp at h
  | (n, k) :: r, x, h, hk => by
    have ih := @relabel_free env hf r x
    show List.lookup x ((if (k == NameKind.free && env.scope.kind == .function && env.kindOf n == some .cell) = true then (n, NameKind.cell) else (n, k)) :: _) = _
    cases hx : x == n with
    | true =>
      simp only [List.lookup_cons, hx] at h
      cases h
      have e : x = n := beq_iff_eq.mp hx
      subst e
      simp [List.lookup_cons, hk, hf]
    | false =>
      simp only [List.lookup_cons, hx] at h
      by_cases hc : (k == NameKind.free && env.scope.kind == .function && env.kindOf n == some .cell) = true
      · rw [if_pos hc]; simp only [List.lookup_cons, hx]; exact ih h hk
      · rw [if_neg hc]; simp only [List.lookup_cons, hx]; exact ih h hk

theorem lookup_of_mem : ∀ {l : List (Str × NameKind)} {x : Str} {k : NameKind}, (l.map (·.1)).Nodup → (x, k) ∈ l → l.lookup x = some k
  | (y, k') :: r, x, k, hn, hm => by
    rw [List.map_cons, List.nodup_cons] at hn
    rw [List.lookup_cons]
    rcases List.mem_cons.mp hm with e | hm
    · cases e; simp
    · have : x ≠ y := fun e => hn.1 (by rw [← e]; exact List.mem_map.mpr ⟨(x, k), hm, rfl⟩)
      rw [beq_eq_false_iff_ne.mpr this]
      exact lookup_of_mem hn.2 hm

theorem capsOf_get {ρ : Rho} : ∀ {caps : List Nat} {cs : Rho}, capsOf ρ caps = some cs → cs.length = caps.length ∧ ∀ (j : Nat) sl, cs[j]? = some sl → ∃ i d, caps[j]? = some i ∧ sl = .fz d ∧ ρ[i]? = some (.fz d)
  | [], cs, h => by cases h; exact ⟨rfl, fun j sl e => by simp at e⟩
  | i :: r, cs, h => by
    unfold capsOf at h
    split at h
    · rename_i d e
      obtain ⟨t, h1, rfl⟩ := Option.map_eq_some_iff.mp h
      obtain ⟨i1, i2⟩ := capsOf_get h1
      refine ⟨by simp [i1], fun j sl q => ?_⟩
      cases j with
      | zero => simp at q; subst q; exact ⟨i, d, rfl, rfl, e⟩
      | succ j => simpa using i2 j sl (by simpa using q)
    · cases h

theorem slotsOf_get {nms : List Str} : ∀ {xs : List Str} {is : List Nat}, slotsOf nms xs = some is → is.length = xs.length ∧ ∀ (j : Nat) x, xs[j]? = some x → ∃ i, is[j]? = some i ∧ nms[i]? = some x
  | [], _, h => by cases h; exact ⟨rfl, fun j x e => by simp at e⟩
  | x :: r, _, h => by
    obtain ⟨i, t, h1, h2, rfl⟩ := slotsOf_cons h
    obtain ⟨i1, i2⟩ := slotsOf_get h2
    refine ⟨by simp [i1], fun j y e => ?_⟩
    cases j with
    | zero => simp at e; subst e; exact ⟨i, rfl, slotOf_get h1⟩
    | succ j => simpa using i2 j y (by simpa using e)
end

section
set_option Elab.async false
open PySem PySem.Spec PyProof.Rows PySem.Calls

/-- what a comprehension's table must be -/
structure CompSc (out sc : Scope) (tg : List Str) : Prop where
  kind : sc.kind = .function
  kinds : ∀ x ∈ sc.names, x.2 = .local ∨ x.2 = .free ∨ x.2 = .globalImplicit
  nd : (sc.names.map (·.1)).Nodup
  loc : ∀ x ∈ tg, sc.names.lookup x = some .local
  ndt : tg.Nodup
  okt : ∀ x ∈ tg, okName x = true
  okf : ∀ x ∈ freeOf sc.names, okName x = true
  cel : ∀ x ∈ freeOf sc.names, out.names.lookup x = some .cell
theorem compSc_of {out sc : Scope} {tg : List Str} (h : compScope out sc tg = true) : CompSc out sc tg := by
  unfold compScope at h
  simp only [Bool.and_eq_true, List.all_eq_true, beq_iff_eq, Bool.or_eq_true] at h
  obtain ⟨⟨⟨⟨⟨⟨⟨h1, h2⟩, h3⟩, h4⟩, h5⟩, h6⟩, h7⟩, h8⟩ := h
  exact ⟨h1, fun x hx => by rcases h2 x hx with (a | a) | a <;> simp [a], distinct_nodup h3, h4, distinct_nodup h5, h6, h7, h8⟩

section
variable {g h h' : Heap} {cx : Cx} {env : Env} {ρ : Rho} {oa : Nat → Addr} {V : Addr → Prop}

theorem fm_comp {sc : Scope} {tg : List Str} {caps : List Nat} {cs : Rho} {C D : Addr} {wr : List Addr} (F : Fm g h cx env ρ oa V) (S : CompSc cx.scope sc tg) (hsl : slotsOf cx.nms (freeOf sc.names) = some caps) (hcap : capsOf ρ caps = some cs)
    (k : KA h h') (hC : h.get? C = none) (hD : h.get? D = none) (hwr : ∀ b ∈ wr, h.get? b = none) (hns : ∃ m, h'.Ns C m) (hal : ∀ b, b = C ∨ b = D ∨ b ∈ wr → ∃ o, h'.get? b = some o) :
    Fm g h' { cx with scope := sc, nms := tg ++ freeOf sc.names } (compEnvC sc (clOf env sc.names []) C env) (List.replicate tg.length .un ++ cs) oa (fun b => V b ∨ b = C ∨ b = D ∨ b ∈ wr) := by
  obtain ⟨c1, c2⟩ := capsOf_get hcap
  obtain ⟨s1, s2⟩ := slotsOf_get hsl
  have hkc : ∀ x ∈ freeOf sc.names, env.kindOf x = some .cell := fun x hx => F.ce x (S.cel x hx)
  have inn : ∀ x ∈ freeOf sc.names, x ∈ cx.nms := fun x hx => by
    obtain ⟨j, hj, e⟩ := List.getElem_of_mem hx
    obtain ⟨i, _, e2⟩ := s2 j x (by rw [List.getElem?_eq_getElem hj, e])
    exact List.mem_of_getElem? e2
  have hcl : ∀ x ∈ freeOf sc.names, ∃ c, env.cells.lookup x = some c := fun x hx => by
    rcases F.kd x (inn x hx) with q | ⟨_, c, e⟩
    · rw [hkc x hx] at q; cases q
    · exact ⟨c, e⟩
  have clm : ∀ x c, (x, c) ∈ clOf env sc.names [] → x ∈ freeOf sc.names ∧ env.cells.lookup x = some c := fun x c m => by
    rcases clOf_mem sc.names [] hcl m with q | q
    · cases q
    · exact q
  have lk : ∀ x ∈ freeOf sc.names, ∃ c, (clOf env sc.names []).lookup x = some c ∧ env.cells.lookup x = some c := fun x hx => by
    obtain ⟨c, m⟩ := (clOf_has (env := env) sc.names []).2 x hx
    exact ⟨c, lookup_of_all (f := fun y => env.cells.lookup y) (fun y d m => (clm y d m).2) m, (clm x c m).2⟩
  have kl : ∀ x, sc.names.lookup x = some .local → (compEnvC sc (clOf env sc.names []) C env).kindOf x = some .local := fun x e => relabel_keep (by decide) e
  have kf : ∀ x ∈ freeOf sc.names, (compEnvC sc (clOf env sc.names []) C env).kindOf x = some .cell := fun x hx =>
    relabel_free F.hk (lookup_of_mem S.nd (freeOf_mem.mp hx)) (hkc x hx)
  have disj : ∀ x ∈ tg, x ∉ freeOf sc.names := fun x h1 h2 => by
    have := lookup_of_mem S.nd (freeOf_mem.mp h2)
    rw [S.loc x h1] at this; cases this
  have ndf : (freeOf sc.names).Nodup := S.nd.sublist (freeOf_sub _)
  have nda : (tg ++ freeOf sc.names).Nodup := List.nodup_append.mpr ⟨S.ndt, ndf, fun x h1 y h2 e => disj x h1 (e ▸ h2)⟩
  have noOw : ∀ (i : Nat) (l : List PyData), (List.replicate tg.length Slot.un ++ cs)[i]? ≠ some (.ow l) := fun i l e => by
    rcases Nat.lt_or_ge i tg.length with q | q
    · rw [List.getElem?_append_left (by simpa using q), List.getElem?_replicate] at e
      simp [q] at e
    · rw [List.getElem?_append_right (by simpa using q)] at e
      obtain ⟨_, d, _, e', _⟩ := c2 _ _ e
      cases e'
  have wrC : ∀ b, Wr (compEnvC sc (clOf env sc.names []) C env) (List.replicate tg.length .un ++ cs) oa b → b = C ∨ Wr env ρ oa b := fun b w => by
    rcases w with q | ⟨x, q⟩ | ⟨i, l, e, _⟩
    · exact .inl q
    · exact .inr (.inr (.inl ⟨x, mem_of_lookup (clm x b q).2⟩))
    · exact (noOw i l e).elim
  exact {
    top := F.top.trans k
    hg := F.hg
    hb := F.hb
    hk := S.kind
    gl := fun x e => relabel_keep (by decide) e
    ce := fun x e => by
      have m : (x, NameKind.cell) ∈ sc.names := mem_of_lookup e
      rcases S.kinds _ m with q | q | q <;> cases q
    nm := fun x hx => (List.mem_append.mp hx).elim (S.okt x) (S.okf x)
    len := by simp [c1, s1]
    dist := fun i j x e1 e2 => by
      have h1 : i < (tg ++ freeOf sc.names).length := by
        rcases Nat.lt_or_ge i (tg ++ freeOf sc.names).length with q | q
        · exact q
        · rw [List.getElem?_eq_none q] at e1; cases e1
      exact (List.getElem?_inj h1 nda).mp (e1.trans e2.symm)
    kd := fun x hx => by
      rcases List.mem_append.mp hx with q | q
      · exact .inl (kl x (S.loc x q))
      · obtain ⟨c, e, _⟩ := lk x q; exact .inr ⟨.inl (kf x q), c, e⟩
    ns := hns
    cel := fun x c m => by
      obtain ⟨v, i⟩ := F.cel x c (mem_of_lookup (clm x c m).2)
      exact ⟨v, i.keeps k⟩
    cap := by
      have hn : ((clOf env sc.names []).map (·.1)).Nodup := by
        rw [clOf_names]; simp only [List.map_nil, List.append_nil]
        exact List.pairwise_reverse.mpr (ndf.imp fun h e => h e.symm)
      have hp : (clOf env sc.names []).Pairwise fun x y => x.1 ≠ y.1 := (List.pairwise_map.mp hn)
      refine List.Pairwise.imp_of_mem (fun {a b} ha hb hab e => hab ?_) hp
      obtain ⟨x, c⟩ := a
      obtain ⟨y, d⟩ := b
      have e' : c = d := e
      subst e'
      exact name_of_addr F.cap (mem_of_lookup (clm x c ha).2) (mem_of_lookup (clm y c hb).2)
    new := fun b w => by
      rcases wrC b w with rfl | q
      · exact F.top.none hC
      · exact F.new b q
    od := fun i j l l' _ e _ => (noOw i l e).elim
    val := fun i x sl e1 e2 => by
      rcases Nat.lt_or_ge i tg.length with q | q
      · rw [List.getElem?_append_left (by simpa using q), List.getElem?_replicate] at e2
        simp [q] at e2; subst e2; trivial
      · rw [List.getElem?_append_right (by simpa using q)] at e2
        simp only [List.length_replicate] at e2
        obtain ⟨i', d, e3, rfl, e4⟩ := c2 _ _ e2
        rw [List.getElem?_append_right q] at e1
        have hx : x ∈ freeOf sc.names := List.mem_of_getElem? e1
        obtain ⟨i'', e5, e6⟩ := s2 _ x e1
        rw [e3] at e5; cases e5
        obtain ⟨v, as, b, r, nv⟩ := F.val i' x _ e6 e4
        refine ⟨v, as, ?_, r.keeps k, fun b' m q' => ?_⟩
        · rcases b with ⟨kk, _⟩ | ⟨_, c, e, ic⟩
          · rw [hkc x hx] at kk; cases kk
          · obtain ⟨c', e', e''⟩ := lk x hx
            rw [e] at e''; cases e''
            exact .inr ⟨.inl (kf x hx), c, e', ic.keeps k⟩
        · obtain ⟨o, eo⟩ := reads_alive r b' m
          rcases q' with q' | rfl | rfl | q'
          · exact nv b' m q'
          · rw [hC] at eo; cases eo
          · rw [hD] at eo; cases eo
          · rw [hwr b' q'] at eo; cases eo
    va := fun b hb => by
      rcases hb with q | q
      · obtain ⟨o, e⟩ := F.va b q; exact ⟨o, k b o e⟩
      · exact hal b q
    wv := fun b w => by
      rcases wrC b w with rfl | q
      · exact .inr (.inl rfl)
      · exact .inl (F.wv b q) }

theorem range_slots : ∀ {tg rest : List Str}, (tg ++ rest).Nodup → ∀ (pre : List Str), (∀ x ∈ pre, x ∉ tg) → slotsOf (pre ++ tg ++ rest) tg = some ((List.range tg.length).map (pre.length + ·))
  | [], _, _, _, _ => rfl
  | x :: r, rest, hn, pre, hp => by
    have hn' := hn
    rw [List.cons_append, List.nodup_cons] at hn
    have h1 : slotOf (pre ++ x :: r ++ rest) x = some pre.length := by
      unfold slotOf
      rw [List.append_assoc, List.findIdx?_append]
      have : pre.findIdx? (· == x) = none := by
        rw [List.findIdx?_eq_none_iff]
        intro y hy
        have : y ≠ x := fun e => hp y hy (by rw [e]; simp)
        simpa using this
      rw [this]
      simp [List.findIdx?_cons]
    have h2 := range_slots (tg := r) (rest := rest) hn.2 (pre ++ [x]) (fun y hy => by
      rcases List.mem_append.mp hy with q | q
      · exact fun m => hp y q (by simp [m])
      · rw [List.mem_singleton.mp q]; exact fun m => hn.1 (List.mem_append_left _ m))
    have e : pre ++ [x] ++ r ++ rest = pre ++ x :: r ++ rest := by simp
    rw [e] at h2
    unfold slotsOf
    rw [h1, h2]
    simp only [Option.bind_some, List.length_cons, List.range_succ_eq_map, List.map_cons, List.map_map, Nat.add_zero, Option.some.injEq, List.cons.injEq, true_and]
    apply List.map_congr_left
    intro a _
    simp [Nat.succ_eq_add_one]; omega

theorem setAll_range : ∀ (xs : Rho) (ps : List PyData) (pre cs : Rho), xs.length = ps.length → setAll (pre ++ xs ++ cs) ((List.range ps.length).map (pre.length + ·)) ps = pre ++ ps.map Slot.fz ++ cs
  | [], [], pre, cs, _ => by simp [setAll]
  | x :: xs, p :: ps, pre, cs, h => by
    simp only [List.length_cons, List.range_succ_eq_map, List.map_cons, List.map_map, Nat.add_zero, setAll]
    have e : (pre ++ x :: xs ++ cs).set pre.length (.fz p) = (pre ++ [.fz p]) ++ xs ++ cs := by
      rw [List.append_assoc, List.set_append_right _ _ (Nat.le_refl _)]
      simp
    rw [e]
    have ih := setAll_range xs ps (pre ++ [.fz p]) cs (by simpa using h)
    have e2 : (List.range ps.length).map ((pre.length + ·) ∘ Nat.succ) = (List.range ps.length).map ((pre ++ [Slot.fz p]).length + ·) := by
      apply List.map_congr_left
      intro a _
      simp; omega
    rw [e2, ih]
    simp
end
end

section
set_option Elab.async false
open PySem PySem.Spec PyProof.Rows PySem.Calls

section
variable {prog : Program} {w : World} {A : Around} {R : Result → Shared → Prop} {s : Shared}
theorem codeAny_compLoop_go {elt target iter : Expr} {ifs : List Expr} {scope : Scope} {pos : Pos} {it acc : Value} {env : Env} (I : Nat → Shared → Prop)
    (turn : ∀ n s, I n s → wpAny (model prog w) A (pyNext it) (fun r s₁ => match r with
      | none => R (.ok .next) s₁
      | some v => wpAny (model prog w) A (letOwnedTupleGo target it v) (fun _ s₁' => wpAny (model prog w) A (assign target env v) (fun _ s₂ =>
          wpAny (model prog w) A (forIn ifs true fun c r => if r = true then do let ok ← isTrue c env (eval c env); pure (ForInStep.yield ok) else pure (ForInStep.yield r)) (fun ok s₃ =>
            if ok = true then wpAny (model prog w) A (eval elt env) (fun x s₄ =>
              wpAny (model prog w) A (call (.builtin "list.append") [acc, x]) (fun _ s₅ => ∃ m, m < n ∧ I m s₅) NoE s₄) NoE s₃
            else ∃ m, m < n ∧ I m s₃) NoE s₂) NoE s₁') NoE s₁) NoE s)
    (n : Nat) (h : I n s) :
    codeAny (model prog w) A (.compLoop (.ListComp elt [⟨target, iter, ifs, 0⟩] scope pos) 0 it acc env) R s := by
  refine codeAny_loop rfl I (fun n s hI => ?_) n h
  show wpAny _ A ((compTurn (.ListComp elt [⟨target, iter, ifs, 0⟩] scope pos) 0 it acc env).onRaise (fun x => do noteFrame x env; theTreesLotGoes x)) _ _ s
  refine wpAny_noted ?_
  rw [compTurn_list]
  have no : ∀ {E : Value → Shared → Prop} (e : Value) (s : Shared), NoE e s → E e s := fun _ _ x => x.elim
  refine wpAny_bind (wpAny_standAt (wpAny_bind (wpAny_mono (turn n s hI) (fun r s₁ h₁ => ?_) no)))
  cases r with
  | none => exact wpAny_pure h₁
  | some v =>
    refine wpAny_bind (wpAny_mono h₁ (fun _ s₁' h₁ => ?_) no)
    refine wpAny_bind (wpAny_mono h₁ (fun _ s₂ h₂ => wpAny_bind (wpAny_mono h₂ (fun ok s₃ h₃ => ?_) no)) no)
    cases ok with
    | false => exact wpAny_pure ⟨rfl, h₃⟩
    | true =>
      exact wpAny_bind (wpAny_bind (wpAny_mono h₃ (fun x s₄ h₄ => wpAny_bind (wpAny_mono h₄ (fun _ s₅ h₅ => wpAny_pure (wpAny_pure ⟨rfl, h₅⟩)) no)) no))
end

section
variable {prog : Program} {w : World} {T : Table} {fs : Fs} {mg mb : Str → Option Value} {n : Nat}

theorem wpAny_skip {M : Model} {A : Around} {E : Value → Shared → Prop} {s : Shared} {env : Env} {Q : Bool → Shared → Prop} : ∀ (ifs : List Expr), Q false s →
    wpAny M A (forIn ifs false fun c r => if r = true then do let ok ← isTrue c env (eval c env); pure (ForInStep.yield ok) else pure (ForInStep.yield r)) Q E s
  | [], h => by rw [List.forIn_nil]; exact wpAny_pure h
  | c :: r, h => by
    rw [List.forIn_cons]
    simp only [Bool.false_eq_true, if_false]
    exact wpAny_bind (wpAny_pure (wpAny_skip r h))

theorem sound_conds {k : Nat} {cx : Cx} {A : Around} {g : Heap} {env : Env} {ρ : Rho} {oa : Nat → Addr} {V : Addr → Prop} (hf : cx.fs = fs) (IH : ∀ m, m ≤ n → SE prog w T fs mg mb m) (hR : Room A n) (G : Gw T fs mg mb g) :
    ∀ (ifs : List Expr) (cs : List PE) (s : Shared) (P R : Prop), cList (cE k cx) ifs = some cs → Fm g s.heap cx env ρ oa V → conds ((lev T n).E ρ) cs P R →
      wpAny (model prog w) A (forIn ifs true fun c r => if r = true then do let ok ← isTrue c env (eval c env); pure (ForInStep.yield ok) else pure (ForInStep.yield r))
        (fun ok s' => Keeps s s' ∧ ((ok = true ∧ P) ∨ (ok = false ∧ R))) NoE s
  | [], cs, s, P, R, hc, F, h => by cases hc; rw [List.forIn_nil]; exact wpAny_pure ⟨kp_refl, .inl ⟨rfl, h⟩⟩
  | c :: r, cs, s, P, R, hc, F, h => by
    obtain ⟨_, a, b, h1, h2, rfl⟩ := cList_cons hc
    rw [List.forIn_cons]
    simp only [if_true]
    refine wpAny_bind (wpAny_bind (wpAny_mono (sound_true hf G n k c a s _ IH hR h1 F h (fun d t q => by cases d <;> first | exact ⟨_, rfl⟩ | exact q.elim)) (fun ok s₁ p => ?_) fun _ _ x => x))
    obtain ⟨t, q, k1⟩ := p
    refine wpAny_pure ?_
    cases ok with
    | false => exact wpAny_skip r ⟨k1, .inr ⟨rfl, q.2 rfl⟩⟩
    | true =>
      refine wpAny_mono (sound_conds hf IH hR G r b s₁ P R h2 (F.ka (kp_heap k1)) (q.1 rfl)) (fun ok s₂ p => ?_) fun _ _ x => x
      exact ⟨kp_trans k1 p.1, p.2⟩

/-- where a comprehension stands ahead of a turn -/
inductive CompInv (T : Table) (n : Nat) (cx : Cx) (g : Heap) (env : Env) (oa : Nat → Addr) (V : Addr → Prop) (tg : List Str) (pelt : PE) (pcs : List PE) (cs : Rho) (vs : List Value) (n' : Nat) (D : Addr) (wr : List Addr) (St : Nat → Heap → Prop) (items ls : List PyData) (Qf : List PyData → Prop) (asv : List Addr) (s : Shared) (kk : Nat) (s' : Shared) : Prop
  | mk (h' : Heap) (tk i : Nat) (xs : Rho) (ys : Array Value) (acc : List PyData) (as : List Addr) (e : s' = { s with heap := h', toks := tk }) (F : Fm g h' cx env (xs ++ cs) oa V) (hx : xs.length = tg.length) (ho : ∀ (i : Nat) l, xs[i]? ≠ some (.ow l)) (st : St i h') (hi : i ≤ n') (hk : kk = n' + 1 - i) (hD : h'.PlainList D ys)
      (ra : RpAll h' ys.toList acc as) (na : ∀ b ∈ as, ¬ V b) (rv : RpAll h' vs ls asv) (kb : KB (fun b => b = env.locals ∨ b = D ∨ b ∈ wr) s.heap h') (hys : ys.size ≤ i) (go : compGo (lev T n).E tg.length cs pelt pcs (items.drop i) (fun l => Qf (acc ++ l)))

/-- the turns of a comprehension -/
theorem comp_loop {k : Nat} {cx : Cx} {A : Around} {g : Heap} {env : Env} {oa : Nat → Addr} {V : Addr → Prop} (hf : cx.fs = fs) (IH : ∀ m, m ≤ n → SE prog w T fs mg mb m) (hR : Room A n) (G : Gw T fs mg mb g)
    {elt target iter : Expr} {ifs : List Expr} {scope : Scope} {pos : Pos} {tg : List Str} {is : List Nat} {pelt : PE} {pcs : List PE} {cs : Rho} {ik : IK} {vs : List Value} {n' : Nat} {I D : Addr} {fp wr : List Addr} {Md : Nat → Value → Heap → Prop} {St : Nat → Heap → Prop}
    {items ls : List PyData} {Qf : List PyData → Prop} {R : Result → Shared → Prop}
    (htg : targetOf target = some tg) (his : slotsOf cx.nms tg = some is) (hsa : ∀ (xs : Rho) (ps : List PyData), xs.length = tg.length → ps.length = tg.length → setAll (xs ++ cs) is ps = ps.map Slot.fz ++ cs) (hloc : ∀ x ∈ tg, env.kindOf x = some .local)
    (hke : cE k cx elt = some pelt) (hkc : cList (cE k cx) ifs = some pcs) (hik : ik = .enum → tg.length = 2) (hcs : ∀ (i : Nat) l, cs[i]? ≠ some (.ow l))
    (Tr : Trn prog w A target I fp wr n' (fun i v h => ItemIs ik vs i v h) Md St) (hrel : ItemsRel ik ls n' items) (hsz : items.length ≤ sizeLine)
    (hV : ∀ b, b = env.locals ∨ b = D ∨ b ∈ wr → V b) (hnw : ∀ b, b = D ∨ b ∈ wr → b ≠ env.locals ∧ (∀ x, (x, b) ∉ env.cells) ∧ g.get? b = none) (hDw : D ∉ wr) (hDf : D ∉ fp) (hLf : env.locals ∉ fp)
    (s : Shared) (hB : ∀ h' tk ys acc as m, h'.Ns env.locals m → h'.PlainList D ys → RpAll h' ys.toList acc as → (∀ b ∈ as, ¬ V b) → KB (fun b => b = env.locals ∨ b = D ∨ b ∈ wr) s.heap h' → Qf acc → R (.ok .next) { s with heap := h', toks := tk })
    (xs₀ : Rho) (hx0 : xs₀.length = tg.length) (hxo : ∀ (i : Nat) l, xs₀[i]? ≠ some (.ow l)) (F0 : Fm g s.heap cx env (xs₀ ++ cs) oa V) (st0 : St 0 s.heap) (hD0 : s.heap.PlainList D #[]) {asv : List Addr} (hv0 : RpAll s.heap vs ls asv) (hva : ∀ b ∈ asv, ¬ V b)
    (hgo : compGo (lev T n).E tg.length cs pelt pcs items Qf) :
    codeAny (model prog w) A (.compLoop (.ListComp elt [⟨target, iter, ifs, 0⟩] scope pos) 0 (.ref I) (.ref D) env) R s := by
  have hlen := hrel.len
  have noOw : ∀ (xs : Rho), (∀ (i : Nat) l, xs[i]? ≠ some (.ow l)) → ∀ (i : Nat) l, (xs ++ cs)[i]? ≠ some (.ow l) := fun xs hx i l e => by
    rcases Nat.lt_or_ge i xs.length with q | q
    · rw [List.getElem?_append_left q] at e; exact hx i l e
    · rw [List.getElem?_append_right q] at e; exact hcs _ l e
  have nWr : ∀ (xs : Rho), (∀ (i : Nat) l, xs[i]? ≠ some (.ow l)) → ∀ b, b = D ∨ b ∈ wr → ¬ Wr env (xs ++ cs) oa b := fun xs hx b hb w => by
    rcases w with q | ⟨x, q⟩ | ⟨i, l, e, _⟩
    · exact (hnw b hb).1 q
    · exact (hnw b hb).2.1 x q
    · exact noOw xs hx i l e
  refine codeAny_compLoop_go (CompInv T n cx g env oa V tg pelt pcs cs vs n' D wr St items ls Qf asv s) ?_ (n' + 1)
    ⟨s.heap, s.toks, 0, xs₀, #[], [], [], rfl, F0, hx0, hxo, st0, Nat.zero_le _, rfl, hD0, by simpa using RpAll.nil, (fun _ m => (nomatch m)), hv0, fun _ _ e _ => e, Nat.le_refl _, by simpa using hgo⟩
  rintro kk s' ⟨h1, tk1, i, xs, ys, acc, as, rfl, F1, hxl, hxo, st1, hi, rfl, hD1, ra1, na, rv1, kb1, hys, hgo⟩
  have alT : ∀ {j : Nat} {h : Heap}, St j h → ∀ b o, b ∈ wr → h.get? b = some o → ¬ IsT o := fun {j h} st b o hb e => by
    obtain ⟨o', e', nt⟩ := Tr.al j h st b hb
    rw [e] at e'; cases e'; exact nt
  by_cases hlt : i < n'
  · obtain ⟨d, hd⟩ : ∃ d, items[i]? = some d := ⟨_, List.getElem?_eq_getElem (by rw [hlen]; exact hlt)⟩
    have hdrop : items.drop i = d :: items.drop (i + 1) := by
      obtain ⟨hi', e⟩ := List.getElem?_eq_some_iff.mp hd
      rw [← e]; exact List.drop_eq_getElem_cons hi'
    rw [hdrop] at hgo
    obtain ⟨ps, hps, hcond⟩ := hgo
    refine Tr.item i _ _ _ hlt st1 fun v h2 tk2 hMd kw1 => ?_
    refine Tr.go i v _ _ _ hMd fun h3 hIs st3 kw2 => ?_
    have kw : KB (· ∈ wr) h1 h3 := fun b o e nb => kw2 b o nb (kw1 b o nb e)
    have F3 : Fm g h3 cx env (xs ++ cs) oa V := F1.change kw (fun b hb => ⟨hV b (.inr (.inr hb)), nWr xs hxo b (.inr hb), (hnw b (.inr hb)).2.2⟩) (fun b o hb e => alT st1 b o hb e) fun b hb => let ⟨o, e, _⟩ := Tr.al _ _ st3 b hb; ⟨o, e⟩
    have fz : ∀ as : List Addr, (∀ b ∈ as, ¬ V b) → Frz h1 h3 as := fun as n => frz_of kw (fun b o hb e => alT st1 b o hb e) fun b m q => n b m (hV b (.inr (.inr q)))
    have rv3 := readsAll_frz rv1 (fz asv hva)
    have ra3 := readsAll_frz ra1 (fz as na)
    have hD3 : h3.PlainList D ys := hD1.at fun o e => kw D o e hDw
    have hpl : ps.length = tg.length ∧ BindOK V h3 v tg.length ps := by
      have b := bindOK_item (V := V) hIs rv3 hva hrel hd hps hik
      exact ⟨b.1, b⟩
    refine sound_bind hR.1 htg his (fun x hx q => by rw [hloc x hx] at q; cases q) F3 (by rw [slotsOf_len his]; exact hpl.2) fun h4 tk4 F4 ko => ?_
    rw [hsa xs ps hxl hpl.1] at F4
    have kL : KB (· = env.locals) h3 h4 := fun b o e nb => ko b o e fun w => w.elim nb fun ⟨x, m, kk, _⟩ => by rw [hloc x m] at kk; cases kk
    have nTL : ∀ b o, b = env.locals → h3.get? b = some o → ¬ IsT o := fun b o hb e => by
      obtain ⟨o', e', nt⟩ := F3.wa b (.inl hb)
      rw [e] at e'; cases e'; exact nt
    have fzL : ∀ as : List Addr, (∀ b ∈ as, ¬ V b) → Frz h3 h4 as := fun as n => frz_of kL nTL fun b m q => n b m (hV b (.inl q))
    have st4 : St (i + 1) h4 := Tr.frame _ _ _ st3 fun b hb o e => kL b o e fun q => hLf (q ▸ hb)
    have rv4 := readsAll_frz rv3 (fzL asv hva)
    have ra4 := readsAll_frz ra3 (fzL as na)
    have hD4 : h4.PlainList D ys := hD3.at fun o e => kL D o e (hnw D (.inl rfl)).1
    have kb4 : KB (fun b => b = env.locals ∨ b = D ∨ b ∈ wr) s.heap h4 := fun b o e nb => kL b o (kw b o (kb1 b o e nb) fun q => nb (.inr (.inr q))) fun q => nb (.inl q)
    have hxo' : ∀ (j : Nat) l, (ps.map Slot.fz)[j]? ≠ some (.ow l) := fun j l e => by
      rw [List.getElem?_map, Option.map_eq_some_iff] at e
      obtain ⟨_, _, q⟩ := e; cases q
    refine wpAny_mono (sound_conds hf IH hR G ifs pcs _ _ _ hkc F4 hcond) (fun ok s5 p => ?_) fun _ _ x => x
    obtain ⟨k5, p⟩ := p
    obtain ⟨h5, tk5, rfl, k5⟩ := k5
    rcases p with ⟨rfl, helt⟩ | ⟨rfl, hrest⟩
    · simp only [if_true]
      have F5 := F4.ka k5
      refine wpAny_mono (IH n (Nat.le_refl n) k cx elt pelt A g _ env _ oa V _ hf hke hR G F5 helt) (fun y s6 p => ?_) fun _ _ x => x
      obtain ⟨d', t, ⟨ht, hrest⟩, k6, r6⟩ := p
      obtain ⟨h6, tk6, rfl, k6⟩ := k6
      obtain ⟨bs, rp, nb⟩ := r6.old ht F5.va
      have hD6 : h6.PlainList D ys := hD4.at fun o e => k6 _ o (k5 _ o e)
      have hyz : ys.size ≤ sizeLine := by omega
      refine wpAny_list_append_plain hD6 (fun h7 hD7 sb => ?_) hyz
      have F6 := F5.ka k6
      have kD : KB (· = D) h6 h7 := fun b o e nb => (sb.2 b nb).trans e
      have nTD : ∀ b o, b = D → h6.get? b = some o → ¬ IsT o := fun b o hb e ⟨_, _, q⟩ => by
        subst hb
        obtain ⟨m, e'⟩ := hD6
        rw [e] at e'; cases e'; simp at q
      have F7 : Fm g h7 cx env (ps.map Slot.fz ++ cs) oa V := F6.change kD (fun b hb => ⟨hV b (.inr (.inl hb)), nWr _ hxo' b (.inl hb), (hnw b (.inl hb)).2.2⟩) nTD fun b hb => by subst hb; obtain ⟨m, e⟩ := hD7; exact ⟨_, e⟩
      have fzD : ∀ as : List Addr, (∀ b ∈ as, ¬ V b) → Frz h6 h7 as := fun as n => frz_of kD nTD fun b m q => n b m (hV b (.inr (.inl q)))
      have k46 : KA h4 h6 := fun b o e => k6 b o (k5 b o e)
      obtain ⟨cs', rc, hc'⟩ := (readsAll_frz (ra4.keeps k46) (fzD as na)).append (.cons (reads_frz rp (fzD bs nb)) .nil)
      refine ⟨n' + 1 - (i + 1), by omega, h7, tk6, i + 1, _, ys.push y, acc ++ [d'], cs', rfl, F7, by simp [hpl.1], hxo', ?_, hlt, rfl, hD7, by simpa using rc, fun b m => ?_, readsAll_frz (rv4.keeps k46) (fzD asv hva), ?_, ?_, ?_⟩
      · exact Tr.frame _ _ _ st4 fun b hb o e => kD b o (k46 b o e) fun q => hDf (q ▸ hb)
      · rcases hc' b m with q | q
        · exact na b q
        · simp only [List.append_nil] at q; exact nb b q
      · exact fun b o e q => kD b o (k46 b o (kb4 b o e q)) fun z => q (.inr (.inl z))
      · rw [Array.size_push]; omega
      · simp only [List.append_assoc, List.singleton_append]; exact hrest
    · simp only [Bool.false_eq_true, if_false]
      refine ⟨n' + 1 - (i + 1), by omega, h5, tk5, i + 1, _, ys, acc, as, rfl, F4.ka k5, by simp [hpl.1], hxo', ?_, hlt, rfl, hD4.at fun o e => k5 _ o e, ra4.keeps k5, na, rv4.keeps k5, fun b o e q => k5 b o (kb4 b o e q), by omega, hrest⟩
      exact Tr.frame _ _ _ st4 fun b hb o e => k5 b o e
  · have : i = n' := by omega
    subst this
    have hnil : items.drop i = [] := List.drop_of_length_le (by rw [hlen]; exact Nat.le_refl _)
    rw [hnil] at hgo
    refine Tr.done _ _ _ st1 fun h2 tk2 kw => ?_
    obtain ⟨m, hm⟩ := F1.ns
    have fz : ∀ as : List Addr, (∀ b ∈ as, ¬ V b) → Frz h1 h2 as := fun as n => frz_of (fun b o e nb => kw b o nb e) (fun b o hb e => alT st1 b o hb e) fun b m q => n b m (hV b (.inr (.inr q)))
    refine hB h2 tk2 ys acc as m (hm.at' fun o e => kw _ o (fun q => (hnw _ (.inr q)).1 rfl) e) (hD1.at fun o e => kw _ o hDw e) (readsAll_frz ra1 (fz as na)) na (fun b o e nb => kw b o (fun q => nb (.inr (.inr q))) (kb1 b o e nb)) ?_
    have := hgo
    simpa [compGo] using this
end
end

section
set_option Elab.async false
open PySem PySem.Spec PyProof.Rows PySem.Calls

section
variable {prog : Program} {w : World} {T : Table} {fs : Fs} {mg mb : Str → Option Value} {n : Nat}

theorem iter_notSet {k : Nat} {cx : Cx} {iter : Expr} {pi : PE} (hc : cE k cx (iterOf cx iter).2 = some pi) (env : Env) : ∀ x, foldedSetIterable iter env x = pure x := by
  intro x
  cases iter with
  | Set a b c =>
    have : iterOf cx (.Set a b c) = (.plain, .Set a b c) := rfl
    rw [this] at hc
    cases k <;> cases hc
  | _ => rfl

theorem target_enum {cx : Cx} {iter target : Expr} {tg : List Str} (ht : targetOf target = some tg) (ho : headOk (iterOf cx iter).1 tg = true) : (iterOf cx iter).1 = .enum → tg.length = 2 ∧ ∃ elts kk p, target = .Tuple elts kk p := fun e => by
  rw [e] at ho
  have hl : tg.length = 2 := by simpa [headOk] using ho
  refine ⟨hl, ?_⟩
  rcases targetOf_is ht with ⟨x, p, rfl, rfl⟩ | ⟨es, kk, pos, rfl, _, _⟩
  · cases hl
  · exact ⟨_, _, _, rfl⟩

/-- a comprehension, whatever its value is used for -/
theorem sound_compr {k : Nat} {cx : Cx} {A : Around} {g : Heap} {s : Shared} {env : Env} {ρ : Rho} {oa : Nat → Addr} {V : Addr → Prop} (hf : cx.fs = fs) (IH : ∀ m, m ≤ n → SE prog w T fs mg mb m) (hR : Room A n) (G : Gw T fs mg mb g) (F : Fm g s.heap cx env ρ oa V)
    {elt target iter : Expr} {ifs : List Expr} {sc : Scope} {pos p' : Pos} {tg : List Str} {caps : List Nat} {cs : Rho} {pi pelt : PE} {pcs : List PE} {Qf : List PyData → Prop} {use : Option (Value → Sem Unit)} {Q : Value → Shared → Prop}
    (htg : targetOf target = some tg) (ho : headOk (iterOf cx iter).1 tg = true) (hsc : compScope cx.scope sc tg = true) (hsl : slotsOf cx.nms (freeOf sc.names) = some caps) (hcap : capsOf ρ caps = some cs) (hci : cE k cx (iterOf cx iter).2 = some pi)
    (hce : cE k { cx with scope := sc, nms := tg ++ freeOf sc.names } elt = some pelt) (hcc : cList (cE k { cx with scope := sc, nms := tg ++ freeOf sc.names }) ifs = some pcs)
    (h : (lev T n).E ρ pi (fun d _ => itemsP (iterOf cx iter).1 d fun items => compGo (lev T n).E tg.length cs pelt pcs items Qf))
    (hQ : ∀ D C h' tk ys acc as m, s.heap.get? D = none → s.heap.get? C = none → D ≠ C → KA s.heap h' → h'.Ns C m → h'.PlainList D ys → RpAll h' ys.toList acc as → (∀ b ∈ as, ¬ V b ∧ b ≠ C ∧ b ≠ D) → Qf acc →
      compPost (model prog w) A NoE use Q (.ref D) C (.ok .next) { s with heap := h', toks := tk }) :
    wpAny (model prog w) A (comprehension (.ListComp elt [⟨target, iter, ifs, 0⟩] sc pos) sc env p' (newList []) false (eval iter env) use) Q NoE s := by
  have S := compSc_of hsc
  have hcl : ∀ x ∈ freeOf sc.names, ∃ c, env.cells.lookup x = some c := fun x hx => by
    obtain ⟨_, s2⟩ := slotsOf_get hsl
    obtain ⟨j, hj, e⟩ := List.getElem_of_mem hx
    obtain ⟨i, _, e2⟩ := s2 j x (by rw [List.getElem?_eq_getElem hj, e])
    rcases F.kd x (List.mem_of_getElem? e2) with q | ⟨_, c, e⟩
    · rw [F.ce x (S.cel x hx)] at q; cases q
    · exact ⟨c, e⟩
  have hcell : ∀ y ∈ sc.names, y.2 ≠ .cell := fun y hy q => by rcases S.kinds y hy with e | e | e <;> rw [q] at e <;> cases e
  have te := target_enum htg ho
  refine wpAny_comprehension_free (g := ⟨target, iter, ifs, 0⟩) (gs := []) rfl (iter_notSet hci env) (closureFor_eq hcl) S.kind (fun x hx hl => lookup_of_mem S.nd (by rw [← hl]; exact hx)) ?_
  refine sound_src (target := target) (C := fun _ => True) (Qi := fun items => compGo (lev T n).E tg.length cs pelt pcs items Qf) (IH n (Nat.le_refl n)) hf hR G F hci (fun e => (te e).2) (by simpa using h) ?_
  intro I s₂ vs n' fp wr Md St items ls as t X hgo _ hrel hsz hrv hna hnwr _
  have k2 := kp_heap X.kp
  refine wpAny_newObj_type (wpAny_newFunctionEnv hcell (by intro y hy; simp at hy) (fun h₁ hns₁ hsb₁ => ?_) S.kind)
  dsimp only at hns₁ hsb₁ ⊢
  generalize hH2 : s₂.heap.push { cls := .type "list", dict := none, data := .seq ([] : List Value).toArray } = H2 at hns₁ hsb₁ ⊢
  have hC : H2.objs.size = s₂.heap.objs.size + 1 := by rw [← hH2, Heap.size_push]
  have hDC : s₂.heap.objs.size ≠ H2.objs.size := by rw [hC]; exact Nat.ne_of_lt (Nat.lt_succ_self _)
  have below : ∀ b, b < s₂.heap.objs.size → b ≠ H2.objs.size ∧ b ≠ s₂.heap.objs.size := fun b hb => ⟨by rw [hC]; exact Nat.ne_of_lt (Nat.lt_succ_of_lt hb), Nat.ne_of_lt hb⟩
  have fresh : ∀ a, s₂.heap.objs.size ≤ a → s₂.heap.get? a = none := fun a ha => by
    cases e : s₂.heap.get? a with
    | none => rfl
    | some o' => exact absurd (Heap.lt_size e) (Nat.not_lt.mpr ha)
  have hDn : s₂.heap.get? s₂.heap.objs.size = none := fresh _ (Nat.le_refl _)
  have hCn : s₂.heap.get? H2.objs.size = none := fresh _ (by rw [hC]; exact Nat.le_succ _)
  have old : KA s₂.heap h₁ := fun b o e => hsb₁.extBut b o (below b (Heap.lt_size e)).1 (Heap.get?_push_of_some _ (hH2 ▸ Heap.get?_push_of_some _ e))
  have hacc : h₁.PlainList s₂.heap.objs.size #[] := ⟨_, hsb₁.extBut _ _ hDC (Heap.get?_push_of_some _ (hH2 ▸ Heap.get?_push_size _ rfl))⟩
  have hDf : s₂.heap.objs.size ∉ fp := fun hm => Nat.lt_irrefl _ (X.lt _ hm)
  have hCf : H2.objs.size ∉ fp := fun hm => by have := X.lt _ hm; rw [hC] at this; exact Nat.lt_irrefl _ (Nat.lt_of_succ_lt this)
  have hDw : s₂.heap.objs.size ∉ wr := fun m => hDf (X.T.sub _ m)
  have hCw : H2.objs.size ∉ wr := fun m => hCf (X.T.sub _ m)
  have k1 : KA s.heap h₁ := k2.trans old
  have st₁ : St 0 h₁ := X.T.frame _ _ _ X.st fun b _ o e => old b o e
  have Fc := fm_comp (C := H2.objs.size) (D := s₂.heap.objs.size) (wr := wr) F S hsl hcap k1 (k2.none hCn) (k2.none hDn) X.new ⟨_, hns₁⟩ (fun b hb => by
    rcases hb with rfl | rfl | hb
    · obtain ⟨o, _, _, e, _⟩ := hns₁; exact ⟨o, e⟩
    · obtain ⟨m, e⟩ := hacc; exact ⟨_, e⟩
    · obtain ⟨o, e, _⟩ := X.T.al 0 _ st₁ b hb; exact ⟨o, e⟩)
  have ndt : (tg ++ freeOf sc.names).Nodup := List.nodup_append.mpr ⟨S.ndt, S.nd.sublist (freeOf_sub _), fun x h1 y h2 e => by
    have := lookup_of_mem S.nd (freeOf_mem.mp (e ▸ h2))
    rw [S.loc x h1] at this; cases this⟩
  have his : slotsOf (tg ++ freeOf sc.names) tg = some ((List.range tg.length).map (0 + ·)) := by
    have := range_slots (tg := tg) (rest := freeOf sc.names) ndt [] (fun x hx => by simp at hx)
    simpa using this
  obtain ⟨c1, c2⟩ := capsOf_get hcap
  have rv₁ := hrv.keeps old
  have loop : ∀ s₃ : Shared, s₃ = { s₂ with heap := h₁, toks := s₂.toks + ([] : List (Str × Value)).length } →
      codeAny (model prog w) A (.compLoop (.ListComp elt [⟨target, iter, ifs, 0⟩] sc pos) 0 (.ref I) (.ref s₂.heap.objs.size) (compEnvC sc (clOf env sc.names []) H2.objs.size env))
        (compPost (model prog w) A NoE use Q (.ref s₂.heap.objs.size) H2.objs.size) s₃ := by
    rintro s₃ rfl
    refine comp_loop (cx := { cx with scope := sc, nms := tg ++ freeOf sc.names }) (env := compEnvC sc (clOf env sc.names []) H2.objs.size env) (tg := tg) (cs := cs) (oa := oa) (Qf := Qf) hf IH hR G htg his (fun xs ps h1 h2 => ?_)
      (fun x hx => relabel_keep (by decide) (S.loc x hx)) hce hcc (fun e => (te e).1) (fun i l e => ?_) X.T hrel hsz (V := fun b => V b ∨ b = H2.objs.size ∨ b = s₂.heap.objs.size ∨ b ∈ wr) (fun b hb => .inr hb) (fun b hb => ?_) hDw hDf hCf _ ?_
      (List.replicate tg.length .un) (by simp) (fun i l e => ?_) Fc st₁ hacc rv₁ (fun b m q => ?_) hgo
    · have := setAll_range xs ps [] cs (by rw [h1, h2])
      rw [← h2]
      simpa using this
    · obtain ⟨_, _, _, q, _⟩ := c2 i _ e; cases q
    · refine ⟨?_, ?_, ?_⟩
      · rcases hb with rfl | hb
        · exact hDC
        · exact fun q => hCw ((show b = H2.objs.size from q) ▸ hb)
      · intro x m
        rcases clOf_mem sc.names [] hcl m with q | ⟨_, e⟩
        · cases q
        · obtain ⟨v, o, ho, _⟩ := F.cel x b (mem_of_lookup e)
          rcases hb with rfl | hb
          · rw [k2.none hDn] at ho; cases ho
          · rw [X.new b hb] at ho; cases ho
      · rcases hb with rfl | hb
        · exact F.top.none (k2.none hDn)
        · exact F.top.none (X.new b hb)
    · intro h' tk ys acc as' m hm hp hr hn kb hqf
      have kk : KA s.heap h' := fun b o e => kb b o (k1 b o e) fun q => by
        rcases q with q | q | q
        · rw [show b = H2.objs.size from q, k2.none hCn] at e; cases e
        · rw [q, k2.none hDn] at e; cases e
        · rw [X.new b q] at e; cases e
      obtain ⟨h2', tk2, e2, _⟩ := X.kp
      have := hQ _ H2.objs.size h' tk ys acc as' m (k2.none hDn) (k2.none hCn) hDC kk hm hp hr (fun b hb => ⟨fun q => hn b hb (.inl q), fun q => hn b hb (.inr (.inl q)), fun q => hn b hb (.inr (.inr (.inl q)))⟩) hqf
      rw [e2] at this ⊢
      exact this
    · rw [List.getElem?_replicate] at e
      split at e <;> cases e
    · rcases q with q | rfl | rfl | q
      · exact hna b m q
      · obtain ⟨o, e⟩ := readsAll_alive hrv _ m; rw [hCn] at e; cases e
      · obtain ⟨o, e⟩ := readsAll_alive hrv _ m; rw [hDn] at e; cases e
      · exact hnwr b m q
  exact codeAny_compStart_list (loop _ rfl) (X.T.self 0 _ _ _ st₁ (loop _ rfl))
end
end

section
set_option Elab.async false
open PySem PySem.Spec PyProof.Rows PySem.Calls

theorem zip_lookup : ∀ {names : List Str} {vals : List Value}, names.length = vals.length → names.Nodup → ∀ (i : Nat) x v, names[i]? = some x → vals[i]? = some v → (names.zip vals).lookup x = some v
  | [], _, _, _, i, x, v, e, _ => by simp at e
  | n :: ns, [], h, _, _, _, _, _, _ => by simp at h
  | n :: ns, u :: us, h, hn, i, x, v, e1, e2 => by
    rw [List.nodup_cons] at hn
    rw [List.zip_cons_cons, List.lookup_cons]
    cases i with
    | zero => simp at e1 e2; subst e1 e2; simp
    | succ i =>
      simp only [List.getElem?_cons_succ] at e1 e2
      have : x ≠ n := fun q => hn.1 (q ▸ List.mem_of_getElem? e1)
      rw [beq_eq_false_iff_ne.mpr this]
      exact zip_lookup (by simpa using h) hn.2 i x v e1 e2

theorem zip_some {names : List Str} {vals : List Value} (h : names.length = vals.length) (hn : names.Nodup) {x : Str} (hx : x ∈ names) : ∃ v, (names.zip vals).lookup x = some v := by
  obtain ⟨i, hi, e⟩ := List.getElem_of_mem hx
  exact ⟨_, zip_lookup h hn i x vals[i] (by rw [List.getElem?_eq_getElem hi, e]) (List.getElem?_eq_getElem (by omega))⟩

theorem zip_filterMap {names : List Str} {vals : List Value} (h : names.length = vals.length) (hn : names.Nodup) : names.filterMap (fun n => ((names.zip vals).lookup n).map (n, ·)) = names.zip vals := by
  apply List.ext_getElem?
  intro i
  have key : ∀ (ns : List Str) (l : List (Str × Value)), (∀ x ∈ ns, ∃ v, l.lookup x = some v) → ns.filterMap (fun n => (l.lookup n).map (n, ·)) = ns.map fun n => (n, (l.lookup n).getD .none) := by
    intro ns l hs
    induction ns with
    | nil => rfl
    | cons a r ih =>
      obtain ⟨v, e⟩ := hs a (by simp)
      rw [List.filterMap_cons, e]
      simp only [Option.map_some, List.map_cons, e, Option.getD_some]
      rw [ih fun x hx => hs x (by simp [hx])]
  rw [key _ _ fun x hx => zip_some h hn hx, List.getElem?_map]
  cases e : names[i]? with
  | none =>
    have : names.length ≤ i := List.getElem?_eq_none_iff.mp e
    rw [List.getElem?_eq_none (by simp; omega)]; rfl
  | some x =>
    obtain ⟨hi, _⟩ := List.getElem?_eq_some_iff.mp e
    have hv : vals[i]? = some vals[i] := List.getElem?_eq_getElem (by omega)
    rw [Option.map_some, zip_lookup h hn i x _ e hv, List.getElem?_zip_eq_some (z := (x, vals[i])) |>.mpr ⟨e, hv⟩]
    rfl

theorem bindArgs_plain {f : Str} {as : List Arg} {body : List Stmt} {scope : Scope} {pm code doc : Value} {vals : List Value} (hl : as.length = vals.length) (hn : (as.map (·.arg)).Nodup) :
    bindArgs (docDef f ⟨[], as, none, [], [], none, []⟩ body scope pm code doc) ⟨vals, []⟩ = pure ((as.map (·.arg)).zip vals) := by
  have h1 : (as.map (·.arg)).length = vals.length := by simpa using hl
  have hm : (as.map (·.arg)).filter (fun n => (((as.map (·.arg)).zip vals).lookup n).isNone) = [] := by
    rw [List.filter_eq_nil_iff]
    intro x hx
    obtain ⟨v, e⟩ := zip_some h1 hn hx
    rw [e]; simp
  have hng : ¬ (vals.length > (as.map (·.arg)).length) := by omega
  have hng' : (decide (vals.length > (as.map (·.arg)).length) && (none : Option Arg).isNone) = false := by rw [decide_eq_false hng]; rfl
  have hsi : seqItems? Value.none = pure none := rfl
  have hz := zip_filterMap h1 hn
  unfold bindArgs
  dsimp only [docDef]
  simp only [List.map_nil, List.nil_append, List.append_nil, List.forIn_nil, pure_bind, hsi, Option.getD_none, hng', Bool.false_eq_true, if_false]
  simp only [show (#[] : Array Value).toList = [] from rfl, List.length_nil, Nat.zero_sub, List.drop_nil, Nat.sub_zero, List.take_length, hm, List.isEmpty_nil, Bool.not_true, Bool.false_eq_true, if_false, List.zip_nil_right, List.forIn_nil, pure_bind, hz]
end

section
set_option Elab.async false
open PySem PySem.Spec PyProof.Rows PySem.Calls

noncomputable def cellNames : List (Str × NameKind) → List Str
  | [] => []
  | (x, k) :: r => if k == .cell then x :: cellNames r else cellNames r
theorem cellNames_mem : ∀ {names : List (Str × NameKind)} {x : Str}, x ∈ cellNames names ↔ (x, NameKind.cell) ∈ names
  | [], x => by simp [cellNames]
  | (y, k) :: r, x => by
    unfold cellNames
    cases k <;> simp [cellNames_mem (names := r)]
theorem cellNames_sub : ∀ (names : List (Str × NameKind)), (cellNames names).Sublist (names.map (·.1))
  | [] => List.Sublist.slnil
  | (y, k) :: r => by
    unfold cellNames
    cases k <;> simp only [List.map_cons] <;> first | exact List.Sublist.cons_cons _ (cellNames_sub r) | exact List.Sublist.cons _ (cellNames_sub r)
theorem cellsFrom_names : ∀ (names : List (Str × NameKind)) (n : Nat) (acc : List (Str × Addr)), (cellsFrom n names acc).map (·.1) = (cellNames names).reverse ++ acc.map (·.1)
  | [], n, acc => by simp [cellsFrom, cellNames]
  | (y, k) :: r, n, acc => by
    unfold cellsFrom cellNames
    cases q : k == .cell with
    | true => simp only [if_true]; rw [cellsFrom_names]; simp
    | false => simp only [Bool.false_eq_true, if_false]; rw [cellsFrom_names]

theorem lookup_nodup : ∀ {l : List (Str × Addr)} {x : Str} {c : Addr}, (l.map (·.1)).Nodup → (x, c) ∈ l → l.lookup x = some c
  | (y, d) :: r, x, c, hn, hm => by
    rw [List.map_cons, List.nodup_cons] at hn
    rw [List.lookup_cons]
    rcases List.mem_cons.mp hm with e | hm
    · cases e; simp
    · have : x ≠ y := fun e => hn.1 (by rw [← e]; exact List.mem_map.mpr ⟨(x, c), hm, rfl⟩)
      rw [beq_eq_false_iff_ne.mpr this]
      exact lookup_nodup hn.2 hm

theorem cellsFrom_facts {names : List (Str × NameKind)} (hn : (names.map (·.1)).Nodup) (n : Nat) :
    (∀ x, (x, NameKind.cell) ∈ names → ∃ c, (cellsFrom n names []).lookup x = some c) ∧ ∀ x c, (x, c) ∈ cellsFrom n names [] → (cellsFrom n names []).lookup x = some c := by
  have e := cellsFrom_names names n []
  simp only [List.map_nil, List.append_nil] at e
  have nd : ((cellsFrom n names []).map (·.1)).Nodup := by rw [e]; exact List.pairwise_reverse.mpr ((hn.sublist (cellNames_sub _)).imp fun h q => h q.symm)
  refine ⟨fun x hx => ?_, fun x c m => lookup_nodup nd m⟩
  have : x ∈ (cellsFrom n names []).map (·.1) := by rw [e, List.mem_reverse]; exact cellNames_mem.mpr hx
  obtain ⟨⟨y, c⟩, m, rfl⟩ := List.mem_map.mp this
  exact ⟨c, lookup_nodup nd m⟩

theorem bindL_other {kindOf : Str → Option NameKind} : ∀ {l : List (Str × Value)} {m : Str → Option Value} {x : Str}, x ∉ l.map (·.1) → bindL kindOf l m x = m x
  | [], _, _, _ => rfl
  | (y, v) :: r, m, x, h => by
    simp only [List.map_cons, List.mem_cons, not_or] at h
    rw [bindL, bindL_other h.2]
    split
    · simp [h.1]
    · rfl
theorem bindC_other {kindOf : Str → Option NameKind} : ∀ {l : List (Str × Value)} {m : Str → Option Value} {x : Str}, x ∉ l.map (·.1) → bindC kindOf l m x = m x
  | [], _, _, _ => rfl
  | (y, v) :: r, m, x, h => by
    simp only [List.map_cons, List.mem_cons, not_or] at h
    rw [bindC, bindC_other h.2]
    split
    · rfl
    · simp [h.1]
theorem zip_fst {names : List Str} {vals : List Value} (h : names.length = vals.length) : (names.zip vals).map (·.1) = names := List.map_fst_zip (by omega)

theorem bindL_at {kindOf : Str → Option NameKind} : ∀ {names : List Str} {vals : List Value} {m : Str → Option Value} {i : Nat} {x : Str} {v : Value}, names.length = vals.length → names.Nodup → names[i]? = some x → vals[i]? = some v → kindOf x = some .local →
    bindL kindOf (names.zip vals) m x = some v
  | [], _, _, _, _, _, _, _, e, _, _ => by simp at e
  | n :: ns, [], _, _, _, _, h, _, _, _, _ => by simp at h
  | n :: ns, u :: us, m, i, x, v, h, hn, e1, e2, hk => by
    rw [List.nodup_cons] at hn
    rw [List.zip_cons_cons, bindL]
    cases i with
    | zero =>
      simp at e1 e2; subst e1 e2
      rw [bindL_other (by rw [zip_fst (by simpa using h)]; exact hn.1), if_pos hk]; simp
    | succ i => exact bindL_at (by simpa using h) hn.2 (by simpa using e1) (by simpa using e2) hk
theorem bindC_at {kindOf : Str → Option NameKind} : ∀ {names : List Str} {vals : List Value} {m : Str → Option Value} {i : Nat} {x : Str} {v : Value}, names.length = vals.length → names.Nodup → names[i]? = some x → vals[i]? = some v → kindOf x ≠ some .local →
    bindC kindOf (names.zip vals) m x = some v
  | [], _, _, _, _, _, _, _, e, _, _ => by simp at e
  | n :: ns, [], _, _, _, _, h, _, _, _, _ => by simp at h
  | n :: ns, u :: us, m, i, x, v, h, hn, e1, e2, hk => by
    rw [List.nodup_cons] at hn
    rw [List.zip_cons_cons, bindC]
    cases i with
    | zero =>
      simp at e1 e2; subst e1 e2
      rw [bindC_other (by rw [zip_fst (by simpa using h)]; exact hn.1), if_neg hk]; simp
    | succ i => exact bindC_at (by simpa using h) hn.2 (by simpa using e1) (by simpa using e2) hk

/-- what a def that compiles is -/
structure FnOK (fs : Fs) (as : List Arg) (body : List Stmt) (sc : Scope) (F : Fn) (nms : List Str) : Prop where
  kind : sc.kind = .function
  gen : sc.isGenerator = false
  cor : sc.isCoroutine = false
  nd : nms.Nodup
  nds : (sc.names.map (·.1)).Nodup
  ok : ∀ x ∈ nms, okName x = true
  pre : ∃ r, nms = as.map (·.arg) ++ r
  lk : ∀ x ∈ nms, sc.names.lookup x = some .local ∨ sc.names.lookup x = some .cell
  bd : cB (cS 24 ⟨fs, mutsS 12 body, sc, nms⟩) body = some F.body
  np : F.np = as.length
  ns : F.ns = nms.length

theorem localsOf_mem : ∀ {names : List (Str × NameKind)} {x : Str}, x ∈ localsOf names ↔ (x, NameKind.local) ∈ names ∨ (x, NameKind.cell) ∈ names
  | [], x => by simp [localsOf]
  | (y, k) :: r, x => by
    cases k <;> simp [localsOf, localsOf_mem (names := r), or_or_or_comm, or_assoc, or_left_comm]

theorem fnOK_of {fs : Fs} {params : Arguments} {body : List Stmt} {sc : Scope} {F : Fn} (h : compFn fs params body sc = some F) : ∃ as nms, params = ⟨[], as, none, [], [], none, []⟩ ∧ FnOK fs as body sc F nms := by
  obtain ⟨hc, h⟩ := gd_some h
  obtain ⟨b, h1, rfl⟩ := Option.map_eq_some_iff.mp h
  simp only [Bool.and_eq_true, beq_iff_eq, Bool.not_eq_true', List.all_eq_true] at hc
  obtain ⟨c0, ⟨⟨⟨⟨⟨⟨c1, c2⟩, c3⟩, c4⟩, c5⟩, c6⟩, c7⟩, c8⟩ := hc
  refine ⟨params.args, _, plainArgs_is c0, ⟨c1, c2, c3, distinct_nodup c4, distinct_nodup c5, c7, ⟨_, rfl⟩, fun x hx => ?_, h1, by simp, by simp⟩⟩
  have hl : x ∈ localsOf sc.names := by
    rcases List.mem_append.mp hx with q | q
    · simpa using c6 x q
    · exact (List.mem_filter.mp q).1
  rcases localsOf_mem.mp hl with q | q
  · exact .inl (lookup_of_mem (distinct_nodup c5) q)
  · exact .inr (lookup_of_mem (distinct_nodup c5) q)
end

section
set_option Elab.async false
open PySem PySem.Spec PyProof.Rows PySem.Calls

noncomputable def VV (env : Env) (ρ : Rho) (oa : Nat → Addr) (V₀ : Addr → Prop) (b : Addr) : Prop := Wr env ρ oa b ∨ V₀ b
noncomputable def NF (cx : Cx) (env : Env) : Prop := ∀ x ∈ cx.nms, env.kindOf x ≠ some .free
noncomputable def retT : Tag → Tag
  | .old => .old
  | _ => .fresh

noncomputable def NextOK (g : Heap) (cx : Cx) (env : Env) (ρ : Rho) (oa : Nat → Addr) (V₀ : Addr → Prop) (h h' : Heap) (ρ' : Rho) : Prop :=
  ∃ oa', Fm g h' cx env ρ' oa' (VV env ρ' oa' V₀) ∧ KB (Wr env ρ oa) h h' ∧ ∀ b, Wr env ρ' oa' b → Wr env ρ oa b ∨ h.get? b = none

noncomputable def OutOK (g : Heap) (cx : Cx) (env : Env) (ρ : Rho) (oa : Nat → Addr) (V₀ : Addr → Prop) (s : Shared) (o : Out) (f : Flow) (s' : Shared) : Prop :=
  (∃ h' tk, s' = { s with heap := h', toks := tk }) ∧
  match o with
  | .next ρ' => f = .next ∧ NextOK g cx env ρ oa V₀ s.heap s'.heap ρ'
  | .ret d t => ∃ v, f = .ret v ∧ KA g s'.heap ∧ Res V₀ (fun _ => 0) g s'.heap v d (retT t)

noncomputable def OutP (g : Heap) (cx : Cx) (env : Env) (ρ : Rho) (oa : Nat → Addr) (V₀ : Addr → Prop) (s : Shared) (Q : Out → Prop) (f : Flow) (s' : Shared) : Prop :=
  ∃ o, Q o ∧ OutOK g cx env ρ oa V₀ s o f s'

theorem NextOK.trans {g : Heap} {cx : Cx} {env : Env} {ρ ρ' ρ'' : Rho} {oa oa' : Nat → Addr} {V₀ : Addr → Prop} {h h' h'' : Heap}
    (k : KB (Wr env ρ oa) h h') (hw : ∀ b, Wr env ρ' oa' b → Wr env ρ oa b ∨ h.get? b = none) (y : NextOK g cx env ρ' oa' V₀ h' h'' ρ'') : NextOK g cx env ρ oa V₀ h h'' ρ'' := by
  obtain ⟨oa'', F, k2, w2⟩ := y
  refine ⟨oa'', F, fun b o e n => k2 b o (k b o e n) fun q => ?_, fun b q => ?_⟩
  · rcases hw b q with x | x
    · exact n x
    · rw [x] at e; cases e
  · rcases w2 b q with x | x
    · exact hw b x
    · by_cases c : Wr env ρ oa b
      · exact .inl c
      · refine .inr ?_
        cases e : h.get? b with
        | none => rfl
        | some o => rw [k b o e c] at x; cases x

theorem OutOK.trans {g : Heap} {cx : Cx} {env : Env} {ρ ρ' : Rho} {oa oa' : Nat → Addr} {V₀ : Addr → Prop} {s s' s'' : Shared} {o : Out} {f : Flow}
    (e : ∃ h' tk, s' = { s with heap := h', toks := tk }) (k : KB (Wr env ρ oa) s.heap s'.heap) (hw : ∀ b, Wr env ρ' oa' b → Wr env ρ oa b ∨ s.heap.get? b = none) (y : OutOK g cx env ρ' oa' V₀ s' o f s'') : OutOK g cx env ρ oa V₀ s o f s'' := by
  obtain ⟨h', tk, rfl⟩ := e
  obtain ⟨⟨h'', tk', rfl⟩, y⟩ := y
  refine ⟨⟨h'', tk', rfl⟩, ?_⟩
  cases o with
  | next ρ'' => exact ⟨y.1, NextOK.trans k hw y.2⟩
  | ret d t => exact y

theorem OutOK.keeps {g : Heap} {cx : Cx} {env : Env} {ρ : Rho} {oa : Nat → Addr} {V₀ : Addr → Prop} {s s' s'' : Shared} {o : Out} {f : Flow} (k : Keeps s s') (y : OutOK g cx env ρ oa V₀ s' o f s'') : OutOK g cx env ρ oa V₀ s o f s'' := by
  obtain ⟨h', tk, rfl, k⟩ := k
  exact OutOK.trans ⟨h', tk, rfl⟩ (fun b o e _ => k b o e) (fun b q => .inl q) y
theorem OutP.keeps {g : Heap} {cx : Cx} {env : Env} {ρ : Rho} {oa : Nat → Addr} {V₀ : Addr → Prop} {s s' s'' : Shared} {Q : Out → Prop} {f : Flow} (k : Keeps s s') (y : OutP g cx env ρ oa V₀ s' Q f s'') : OutP g cx env ρ oa V₀ s Q f s'' := by
  obtain ⟨o, q, y⟩ := y; exact ⟨o, q, y.keeps k⟩

noncomputable def SS (prog : Program) (w : World) (T : Table) (fs : Fs) (mg mb : Str → Option Value) (n : Nat) : Prop :=
  ∀ (k : Nat) (cx : Cx) (st : Stmt) (ps : PS) (A : Around) (g : Heap) (s : Shared) (env : Env) (ρ : Rho) (oa : Nat → Addr) (V₀ : Addr → Prop) (Q : Out → Prop),
    cx.fs = fs → cS k cx st = some ps → Room A n → Gw T fs mg mb g → NF cx env → Fm g s.heap cx env ρ oa (VV env ρ oa V₀) → (lev T n).S ps ρ Q →
    wpAny (model prog w) A (exec st env) (OutP g cx env ρ oa V₀ s Q) NoE s

section
variable {prog : Program} {w : World} {T : Table} {fs : Fs} {mg mb : Str → Option Value} {n : Nat}

theorem cB_cons {f : Stmt → Option PS} {e : Stmt} {r : List Stmt} {l : List PS} (h : cB f (e :: r) = some l) : ∃ a b, f e = some a ∧ cB f r = some b ∧ l = a :: b := by
  obtain ⟨a, h1, h⟩ := bind_some h
  obtain ⟨b, h2, h⟩ := bind_some h
  cases h
  exact ⟨a, b, h1, h2, rfl⟩

theorem next_self {g : Heap} {cx : Cx} {env : Env} {ρ : Rho} {oa : Nat → Addr} {V₀ : Addr → Prop} {h : Heap} (F : Fm g h cx env ρ oa (VV env ρ oa V₀)) : NextOK g cx env ρ oa V₀ h h ρ := ⟨oa, F, (KA.refl h).kb, fun _ q => .inl q⟩

theorem sound_blk (hS : SS prog w T fs mg mb n) {k : Nat} {cx : Cx} {A : Around} {g : Heap} {env : Env} {V₀ : Addr → Prop} (hf : cx.fs = fs) (hR : Room A n) (G : Gw T fs mg mb g) (N : NF cx env) :
    ∀ (sts : List Stmt) (pss : List PS) (s : Shared) (ρ : Rho) (oa : Nat → Addr) (Q : Out → Prop), cB (cS k cx) sts = some pss → Fm g s.heap cx env ρ oa (VV env ρ oa V₀) → blk (lev T n).S pss ρ Q →
      wpAny (model prog w) A (execs sts env) (OutP g cx env ρ oa V₀ s Q) NoE s
  | [], pss, s, ρ, oa, Q, hc, F, h => by cases hc; exact wpAny_execs_nil ⟨_, h, ⟨s.heap, s.toks, rfl⟩, rfl, next_self F⟩
  | st :: r, pss, s, ρ, oa, Q, hc, F, h => by
    obtain ⟨a, b, h1, h2, rfl⟩ := cB_cons hc
    refine wpAny_execs_cons (wpAny_mono (hS k cx st a A g s env ρ oa V₀ _ hf h1 hR G N F h) (fun f s' p => ?_) fun _ _ x => x)
    obtain ⟨o, q, hs, ok⟩ := p
    cases o with
    | next ρ' =>
      obtain ⟨rfl, oa', F', kb, hw⟩ := ok
      refine wpAny_mono (sound_blk hS hf hR G N r b s' ρ' oa' Q h2 F' q) (fun f s'' p => ?_) fun _ _ x => x
      obtain ⟨o', q', ok'⟩ := p
      exact ⟨o', q', OutOK.trans hs kb hw ok'⟩
    | ret d t =>
      obtain ⟨v, rfl, ok⟩ := ok
      exact ⟨_, q, hs, v, rfl, ok⟩

theorem noList_rp {h : Heap} {v : Value} {d : PyData} {as : List Addr} (r : Rp h v d as) : noL d = true → as = [] :=
  Rp.rec (motive_1 := fun _ d as _ => noL d = true → as = []) (motive_2 := fun _ ds as _ => noLs ds = true → as = []) (fun _ => rfl) (fun _ _ => rfl) (fun _ _ _ => rfl) (fun _ _ _ => rfl) (fun _ _ _ e => Bool.noConfusion (e : false = true)) (fun _ _ ih => ih) (fun _ => rfl)
    (fun {_ _ d ds _ _} _ _ i1 i2 e => have x : noL d = true ∧ noLs ds = true := (Bool.and_eq_true_iff).mp e; by rw [i1 x.1, i2 x.2]; rfl) r

/-- a frame just entered -/
theorem fm_enter {s : Shared} {V₀ : Addr → Prop} {f : Str} {as' : List Arg} {body : List Stmt} {sc : Scope} {F : Fn} {nms : List Str} {a : Addr} {cd : Value} {vs : List Value} {ds : List PyData} {as : List Addr} {h₁ : Heap}
    (K : FnOK fs as' body sc F nms) (rv : RpAll s.heap vs ds as) (nv : ∀ b ∈ as, ¬ V₀ b) (va : ∀ b, V₀ b → ∃ o, s.heap.get? b = some o) (hl : ds.length = F.np)
    (R : Fr s.heap s.heap.objs.size h₁ (bindL (envOfC f sc s.heap.objs.size a cd).kindOf ((as'.map (·.arg)).zip vs) fun _ => none))
    (C : Cl s.heap.objs.size (cellsFrom (s.heap.objs.size + 1) sc.names []) h₁ (bindC (envOfC f sc s.heap.objs.size a cd).kindOf ((as'.map (·.arg)).zip vs) fun _ => none)) :
    Fm s.heap h₁ ⟨fs, mutsS 12 body, sc, nms⟩ (envOfC f sc s.heap.objs.size a cd) (ds.map Slot.fz ++ List.replicate (F.ns - F.np) Slot.un) (fun _ => 0)
      (VV (envOfC f sc s.heap.objs.size a cd) (ds.map Slot.fz ++ List.replicate (F.ns - F.np) Slot.un) (fun _ => 0) V₀) := by
  have hk : ∀ x, (envOfC f sc s.heap.objs.size a cd).kindOf x = sc.names.lookup x := fun _ => rfl
  obtain ⟨r, hpre⟩ := K.pre
  have hnl : nms.length = as'.length + r.length := by rw [hpre]; simp
  have hvl := rv.len
  have hnp := K.np
  have hns := K.ns
  have noow : ∀ (i : Nat) l, (ds.map Slot.fz ++ List.replicate (F.ns - F.np) Slot.un)[i]? ≠ some (.ow l) := fun i l e => by
    rcases List.mem_append.mp (List.mem_of_getElem? e) with q | q
    · obtain ⟨_, _, q⟩ := List.mem_map.mp q; cases q
    · have := (List.mem_replicate.mp q).2; cases this
  have fresh : ∀ b, s.heap.objs.size ≤ b → s.heap.get? b = none := fun b hb => by
    cases e : s.heap.get? b with
    | none => rfl
    | some o => exact absurd (Heap.lt_size e) (Nat.not_lt.mpr hb)
  obtain ⟨cf1, cf2⟩ := cellsFrom_facts K.nds (s.heap.objs.size + 1)
  have wnew : ∀ b, Wr (envOfC f sc s.heap.objs.size a cd) (ds.map Slot.fz ++ List.replicate (F.ns - F.np) Slot.un) (fun _ => 0) b → s.heap.get? b = none := fun b wb => by
    rcases wb with q | ⟨x, q⟩ | ⟨i, l, e, _⟩
    · exact fresh b (Nat.le_of_eq q.symm)
    · exact fresh b (Nat.le_of_lt (C.above x b q))
    · exact (noow i l e).elim
  refine {
    top := R.keep
    hg := rfl
    hb := rfl
    hk := K.kind
    gl := fun x e => e
    ce := fun x e => e
    nm := K.ok
    len := by simp only [List.length_append, List.length_map, List.length_replicate]; omega
    dist := fun i j x e1 e2 => ?_
    kd := fun x hx => ?_
    ns := ⟨_, R.ns⟩
    cel := fun x c m => ⟨_, C.cell x c (cf2 x c m)⟩
    cap := C.apart
    new := wnew
    od := fun i j l l' _ e _ => (noow i l e).elim
    val := fun i x sl e1 e2 => ?_
    va := fun b q => ?_
    wv := fun b q => .inl q }
  · have hi : i < nms.length := by
      rcases Nat.lt_or_ge i nms.length with q | q
      · exact q
      · rw [List.getElem?_eq_none q] at e1; cases e1
    exact (List.getElem?_inj hi K.nd).mp (e1.trans e2.symm)
  · rcases K.lk x hx with q | q
    · exact .inl q
    · obtain ⟨c, e⟩ := cf1 x (mem_of_lookup q)
      exact .inr ⟨.inl q, c, e⟩
  · rcases Nat.lt_or_ge i ds.length with hi | hi
    · rw [List.getElem?_append_left (by simpa using hi), List.getElem?_map] at e2
      obtain ⟨d, ed, rfl⟩ := Option.map_eq_some_iff.mp e2
      obtain ⟨v, bs, ev, rp, hb⟩ := rv.get ed
      have ex : (as'.map (·.arg))[i]? = some x := by
        rw [← e1, hpre, List.getElem?_append_left (by simp; omega)]
      have nd' : (as'.map (·.arg)).Nodup := by have := K.nd; rw [hpre] at this; exact (List.nodup_append.mp this).1
      have hll : (as'.map (·.arg)).length = vs.length := by simp; omega
      refine ⟨v, bs, ?_, rp.keeps R.keep, fun b m q => ?_⟩
      · rcases K.lk x (List.mem_of_getElem? e1) with q | q
        · exact .inl ⟨q, _, R.ns, bindL_at hll nd' ex ev q⟩
        · obtain ⟨c, e⟩ := cf1 x (mem_of_lookup q)
          refine .inr ⟨.inl q, c, e, ?_⟩
          have := C.cell x c e
          rwa [bindC_at hll nd' ex ev (by rw [hk, q]; simp)] at this
      · rcases q with q | q
        · obtain ⟨o, e⟩ := reads_alive rp b m; rw [wnew b q] at e; cases e
        · exact nv b (hb b m) q
    · rw [List.getElem?_append_right (by simpa using hi)] at e2
      have := (List.mem_replicate.mp (List.mem_of_getElem? e2)).2
      subst this; trivial
  · rcases q with (q | ⟨x, q⟩ | ⟨i, l, e, _⟩) | q
    · obtain ⟨o, _, _, e, _⟩ := R.ns; exact ⟨o, by rw [q]; exact e⟩
    · obtain ⟨o, e, _⟩ := C.cell x b (cf2 x b q); exact ⟨o, e⟩
    · exact (noow i l e).elim
    · obtain ⟨o, e⟩ := va b q; exact ⟨o, R.keep b o e⟩

theorem ResAll.any {V : Addr → Prop} {oa : Nat → Addr} {h h' : Heap} : ∀ {vs : List Value} {r : List (PyData × Tag)}, ResAll V oa h h' vs r → ∃ as, RpAll h' vs (r.map (·.1)) as
  | [], [], _ => ⟨[], .nil⟩
  | _ :: _, (_, _) :: _, ⟨a, b⟩ => by
    obtain ⟨as, x⟩ := a.rp
    obtain ⟨bs, y⟩ := ResAll.any b
    exact ⟨_, .cons x y⟩
  | [], _ :: _, h => h.elim
  | _ :: _, [], h => h.elim

/-- one of the text's own functions called on values -/
theorem sound_fn (hS : SS prog w T fs mg mb n) {A : Around} {s : Shared} {V₀ : Addr → Prop} {f : Str} {F : Fn} {a : Addr} {vs : List Value} {ds : List PyData} {as : List Addr} {Q : PyData → Tag → Prop} (hR : Room A (n + 1)) (G : Gw T fs mg mb s.heap)
    (ht : T f = some F) (ha : mg f = some (.ref a)) (rv : RpAll s.heap vs ds as) (nv : ∀ b ∈ as, ¬ V₀ b) (va : ∀ b, V₀ b → ∃ o, s.heap.get? b = some o) (h : callP (lev T n).S F ds Q) :
    wpAny (model prog w) A (call (.ref a) vs []) (fun v s' => ∃ d t, Q d t ∧ t.isVar = false ∧ Keeps s s' ∧ Res V₀ (fun _ => 0) s.heap s'.heap v d t) NoE s := by
  obtain ⟨a', o, params, body, sc, pm, code, doc, h1, h2, h3, h4, h5⟩ := G.fn f F ht
  rw [ha] at h1; cases h1
  obtain ⟨as', nms, rfl, K⟩ := fnOK_of h5
  have hvl := rv.len
  have hnp := K.np
  have nd' : (as'.map (·.arg)).Nodup := by have := K.nd; obtain ⟨r, hpre⟩ := K.pre; rw [hpre] at this; exact (List.nodup_append.mp this).1
  have hl : as'.length = vs.length := by have := h.1; omega
  refine wpAny_call (call_cells_ret (by have := hR.2.1; omega) h2 h3 G.lim h4 (bindArgs_plain hl nd') (fun x hx => ?_) (fun h₁ tk R C => ?_) K.cor K.gen K.kind)
  · have hx1 : x.1 ∈ as'.map (·.arg) := by rw [← zip_fst (names := as'.map (·.arg)) (vals := vs) (by simpa using hl)]; exact List.mem_map.mpr ⟨x, hx, rfl⟩
    obtain ⟨r, hpre⟩ := K.pre
    rcases K.lk x.1 (by rw [hpre]; exact List.mem_append_left _ hx1) with q | q
    · exact .inl q
    · obtain ⟨c, e⟩ := (cellsFrom_facts K.nds (s.heap.objs.size + 1)).1 x.1 (mem_of_lookup q)
      exact .inr ⟨q, by rw [e]; rfl⟩
  · have Fe := fm_enter (f := f) (a := a) (cd := code) K rv nv va h.1 R C
    have hR' : Room (A.deeper (envOfC f sc s.heap.objs.size a code)) n := ⟨hR.1, by have := hR.2.1; show A.depth + 1 + n + 1 < _; omega, by have := hR.2.2; show A.units + 3 + _ + _ < _; omega⟩
    have N : NF ⟨fs, mutsS 12 body, sc, nms⟩ (envOfC f sc s.heap.objs.size a code) := fun x hx q => by
      rcases K.lk x hx with e | e <;> rw [show (envOfC f sc s.heap.objs.size a code).kindOf x = sc.names.lookup x from rfl, e] at q <;> cases q
    refine wpAny_mono (sound_blk hS (cx := ⟨fs, mutsS 12 body, sc, nms⟩) rfl hR' G N body F.body _ _ _ _ K.bd Fe h.2) (fun fl s' p => ?_) fun _ _ x => x
    obtain ⟨ou, q, ⟨h', tk', rfl⟩, ok⟩ := p
    cases ou with
    | next ρ' =>
      obtain ⟨rfl, oa', F', _⟩ := ok
      exact ⟨.none, .old, q, rfl, ⟨h', tk', rfl, F'.top⟩, res_none⟩
    | ret d t =>
      obtain ⟨v, rfl, ka, r⟩ := ok
      cases t with
      | old => exact ⟨d, .old, q, rfl, ⟨h', tk', rfl, ka⟩, r⟩
      | fresh => exact ⟨d, .fresh, q, rfl, ⟨h', tk', rfl, ka⟩, r⟩
      | var i => exact ⟨d, .fresh, q, rfl, ⟨h', tk', rfl, ka⟩, r⟩

theorem sound_ucall (hE : SE prog w T fs mg mb n) (hS : SS prog w T fs mg mb n) {k : Nat} {cx : Cx} {A : Around} {g : Heap} {s : Shared} {env : Env} {ρ : Rho} {oa : Nat → Addr} {V : Addr → Prop} {f : Str} {fp pos : Pos} {e : Expr} {es : List Expr} {pes : List PE} {Q : PyData → Tag → Prop}
    (hf : cx.fs = fs) (hR : Room A (n + 1)) (G : Gw T fs mg mb g) (F : Fm g s.heap cx env ρ oa V) (hi : cx.isFn f = true) (hc : cList (cE k cx) (e :: es) = some pes)
    (h : ∃ fn, T f = some fn ∧ evs ((lev T n).E ρ) pes fun r => callP (lev T n).S fn (r.map (·.1)) fun d t => ((r.any fun x => x.2.isVar) = true → noList d = true) ∧ Q d t) :
    wpAny (model prog w) A (eval (.Call (.Name f fp) (e :: es) [] pos) env) (Post V oa s Q) NoE s := by
  have hR' := hR.le (Nat.le_succ n)
  unfold Cx.isFn Cx.glob at hi
  simp only [Bool.and_eq_true, beq_iff_eq, Bool.not_eq_true'] at hi
  obtain ⟨fn, ht, h⟩ := h
  obtain ⟨a, o, ps, bd, sc, pm, code, doc, ha, ho, hd, _⟩ := G.fn f fn ht
  refine wpAny_CallName (wpAny_glob F.hk (F.gl f hi.1.1) F.hg F.hb (G.ng.keeps F.top) (G.nb.keeps F.top) (.inl ha) hi.2 (callWith_function (o := o) (fd := docDef f ps bd sc pm code doc) ?_))
  have hs := sound_evs (pos := pos) hE hf hR' G (e :: es) pes s _ hc F h
  obtain ⟨hn, _, _, _, _, _⟩ := cList_cons hc
  rw [starEach_plain hn] at hs ⊢
  refine evalArgs_plain (wpAny_mono hs (fun vs s₁ p => ?_) fun _ _ x => x)
  obtain ⟨r, q, k1, rr⟩ := p
  have kh := kp_heap k1
  refine ⟨⟨kh _ _ (F.top _ _ ho), hd⟩, ?_⟩
  have G1 := (G.ka F.top).ka kh
  have va : ∀ b, V b → ∃ o, s₁.heap.get? b = some o := fun b hb => let ⟨o, e⟩ := F.va b hb; ⟨o, kh _ _ e⟩
  cases c : r.any fun x => x.2.isVar with
  | false =>
    have c' : (r.all fun x => !x.2.isVar) = true := by
      rw [List.all_eq_not_any_not, Bool.not_eq_true']
      simpa using c
    obtain ⟨as, rv, nv⟩ := rr.rp F.va c'
    refine wpAny_mono (sound_fn hS hR G1 ht ha rv nv va q) (fun v s₂ p => ?_) fun _ _ x => x
    obtain ⟨d, t, ⟨_, hq⟩, hv, k2, rs⟩ := p
    refine ⟨d, t, hq, kp_trans k1 k2, ?_⟩
    cases t with
    | old => exact rs
    | fresh => exact Res.base (oa := oa) (t := .fresh) rs kh
    | var i => cases hv
  | true =>
    obtain ⟨as, rv⟩ := rr.any
    refine wpAny_mono (sound_fn (V₀ := fun _ => False) hS hR G1 ht ha rv (fun _ _ x => x) (fun _ x => x.elim) q) (fun v s₂ p => ?_) fun _ _ x => x
    obtain ⟨d, t, ⟨hn', hq⟩, hv, k2, rs⟩ := p
    have nl := hn' c
    refine ⟨d, t, hq, kp_trans k1 k2, ?_⟩
    cases t with
    | old =>
      obtain ⟨as', rp, _⟩ := rs
      have := noList_rp rp nl
      subst this
      exact ⟨[], rp, fun _ m => nomatch m⟩
    | fresh =>
      obtain ⟨_, l, _, _, _, rfl, _⟩ := rs
      cases nl
    | var i => cases hv
end
end

section
set_option Elab.async false
open PySem PySem.Spec PyProof.Rows PySem.Calls

section
variable {prog : Program} {w : World} {T : Table} {fs : Fs} {mg mb : Str → Option Value} {n : Nat}

theorem RpAll.take {h : Heap} : ∀ {vs : List Value} {xs : List PyData} {as : List Addr} (k : Nat), RpAll h vs xs as → ∃ bs, RpAll h (vs.take k) (xs.take k) bs ∧ ∀ b ∈ bs, b ∈ as
  | _, _, _, 0, _ => ⟨[], by simpa using .nil, fun _ m => (nomatch m)⟩
  | _, _, _, _ + 1, .nil => ⟨[], by simpa using .nil, fun _ m => (nomatch m)⟩
  | _, _, _, k + 1, .cons h1 h2 => by
    obtain ⟨bs, x, hb⟩ := RpAll.take k h2
    exact ⟨_, by simpa using .cons h1 x, fun b m => (List.mem_append.mp m).elim (List.mem_append_left _) fun q => List.mem_append_right _ (hb b q)⟩
theorem RpAll.drop {h : Heap} : ∀ {vs : List Value} {xs : List PyData} {as : List Addr} (k : Nat), RpAll h vs xs as → ∃ bs, RpAll h (vs.drop k) (xs.drop k) bs ∧ ∀ b ∈ bs, b ∈ as
  | _, _, as, 0, r => ⟨as, by simpa using r, fun _ m => m⟩
  | _, _, _, _ + 1, .nil => ⟨[], by simpa using .nil, fun _ m => m⟩
  | _, _, _, k + 1, .cons _ h2 => by
    obtain ⟨bs, x, hb⟩ := RpAll.drop k h2
    exact ⟨bs, by simpa using x, fun b m => List.mem_append_right _ (hb b m)⟩
theorem RpAll.cut {h : Heap} {vs : List Value} {xs : List PyData} {as : List Addr} (r : RpAll h vs xs as) (lo hi : Option Nat) : ∃ bs, RpAll h (cut vs lo hi) (cut xs lo hi) bs ∧ ∀ b ∈ bs, b ∈ as := by
  unfold Mine.cut
  cases hi with
  | none => exact r.drop _
  | some k =>
    obtain ⟨bs, x, hb⟩ := r.take k
    obtain ⟨cs, y, hc⟩ := x.drop (lo.getD 0)
    exact ⟨cs, y, fun b m => hb b (hc b m)⟩

theorem cut_eq {α : Type} (l : List α) (lo hi : Option Nat) : cut l lo hi = (l.take (hi.getD l.length)).drop (lo.getD 0) := by
  unfold cut
  cases hi <;> simp
noncomputable def PartIs (V : Addr → Prop) (oa : Nat → Addr) (h h' : Heap) (v : Value) : Option PyData → Prop
  | none => v = .none
  | some d => ∃ t, Res V oa h h' v d t
theorem pick_cut (l : List Value) (lo hi : Option Int) (h1 : ∀ k, lo = some k → 0 ≤ k) (h2 : ∀ k, hi = some k → 0 ≤ k) : PySem.W.kms_pick l lo hi = cut l (lo.map Int.toNat) (hi.map Int.toNat) := by
  rw [cut_eq]
  unfold PySem.W.kms_pick
  have e1 : PySem.W.kms_lo lo l.length = min ((lo.map Int.toNat).getD 0) l.length := by
    cases lo with
    | none => simp [PySem.W.kms_lo]
    | some k => have := h1 k rfl; simp only [PySem.W.kms_lo, Option.map_some, Option.getD_some]; split <;> omega
  have e2 : PySem.W.kms_hi hi l.length = min ((hi.map Int.toNat).getD l.length) l.length := by
    cases hi with
    | none => simp [PySem.W.kms_hi]
    | some k => have := h2 k rfl; simp only [PySem.W.kms_hi, Option.map_some, Option.getD_some]; split <;> omega
  rw [e1, e2]
  generalize (lo.map Int.toNat).getD 0 = a
  generalize (hi.map Int.toNat).getD l.length = b
  apply List.ext_getElem?
  intro i
  simp only [List.getElem?_take, List.getElem?_drop]
  rcases Nat.lt_or_ge a l.length with ha | ha
  · rw [Nat.min_eq_left (Nat.le_of_lt ha)]
    by_cases hi : i < min b l.length - a
    · rw [if_pos hi, if_pos (by omega)]
    · rw [if_neg hi]
      split
      · rw [List.getElem?_eq_none (by omega)]
      · rfl
  · rw [Nat.min_eq_right ha, if_neg (by omega)]
    split
    · rw [List.getElem?_eq_none (by omega)]
    · rfl

theorem sound_part (hE : SE prog w T fs mg mb n) {k : Nat} {cx : Cx} {A : Around} {g : Heap} {s : Shared} {env : Env} {ρ : Rho} {oa : Nat → Addr} {V : Addr → Prop} {x : Option Expr} {px : Option PE} {Q : Option PyData → Prop} (hf : cx.fs = fs) (hR : Room A n) (G : Gw T fs mg mb g) (F : Fm g s.heap cx env ρ oa V)
    (hc : cOpt (cE k cx) x = some px) (h : evo ((lev T n).E ρ) px Q) :
    wpAny (model prog w) A (evalPart x env) (fun v s' => ∃ od, Q od ∧ Keeps s s' ∧ PartIs V oa s.heap s'.heap v od) NoE s := by
  cases x with
  | none => cases hc; rw [evalPart_none]; exact wpAny_pure ⟨none, h, kp_refl, rfl⟩
  | some e =>
    obtain ⟨pe, h1, rfl⟩ := Option.map_eq_some_iff.mp hc
    rw [evalPart_some]
    refine wpAny_mono (hE k cx e pe A g s env ρ oa V _ hf h1 hR G F h) (fun v s' p => ?_) fun _ _ x => x
    obtain ⟨d, t, q, k1, r⟩ := p
    exact ⟨some d, q, k1, t, r⟩

theorem part_of {V : Addr → Prop} {oa : Nat → Addr} {h h' : Heap} {v : Value} {od : Option PyData} {Q : Option Nat → Prop} (hb : boundP od Q) (r : PartIs V oa h h' v od) :
    ∃ oi : Option Int, IsPart v oi ∧ (∀ k, oi = some k → 0 ≤ k) ∧ Q (oi.map Int.toNat) := by
  cases od with
  | none => cases r; exact ⟨none, .none, fun _ e => (nomatch e), hb⟩
  | some d =>
    cases d with
    | int i =>
      obtain ⟨t, r⟩ := r
      obtain ⟨u, rfl⟩ := r.int
      exact ⟨some i, .int i u, fun k e => by cases e; exact hb.1.1, hb.2⟩
    | _ => exact hb.elim

theorem adjust_cut (lo hi : Option Int) (n : Nat) (h1 : ∀ k, lo = some k → 0 ≤ k) (h2 : ∀ k, hi = some k → 0 ≤ k) :
    Builtin.Slice.sliceAdjust lo hi 1 (n : Int) = (((min ((lo.map Int.toNat).getD 0) n : Nat) : Int), ((min ((hi.map Int.toNat).getD n) n : Nat) : Int)) := by
  unfold Builtin.Slice.sliceAdjust
  have q : ¬ ((1 : Int) < 0) := by omega
  simp only [q, if_false]
  refine Prod.ext ?_ ?_
  · cases lo with
    | none => simp
    | some k => have := h1 k rfl; simp only [Option.map_some, Option.getD_some]; rw [if_neg (by omega)]; omega
  · cases hi with
    | none => simp
    | some k => have := h2 k rfl; simp only [Option.map_some, Option.getD_some]; rw [if_neg (by omega)]; omega
theorem places_cut (a b : Nat) : Builtin.Slice.slicePlaces (a : Int) (b : Int) 1 = b - a := by
  unfold Builtin.Slice.slicePlaces
  rw [if_pos (by decide), Int.ediv_one]
  split <;> omega
theorem part_at {A : Around} {E : Value → Shared → Prop} {s : Shared} {v : Value} {o : Option Int} {Q : Option Int → Shared → Prop} (p : IsPart v o) (h : Q o s) : wpAny (model prog w) A (Builtin.Slice.slicePartIndex v) Q E s := by
  cases p with
  | none => exact slicePart_none h
  | int i t => exact slicePart_int h
theorem tup_pick (xs : Array Value) (a m : Nat) : ((List.range m).filterMap fun (k : Nat) => xs[((a : Int) + (k : Int) * 1).toNat]?).toArray = ((xs.toList.drop a).take m).toArray := by
  have e : (fun (k : Nat) => xs[((a : Int) + (k : Int) * 1).toNat]?) = (fun x => xs[x]?) ∘ fun x => a + x := by
    funext k
    have : ((a : Int) + (k : Int) * 1).toNat = a + k := by omega
    rw [this]; rfl
  rw [e, ← List.filterMap_map, pick_run xs a m]
theorem getItem_tup {A : Around} {E : Value → Shared → Prop} {s : Shared} {t sl : Addr} {items : Array Value} {vl vu : Value} {lo hi : Option Int} {Q : Value → Shared → Prop} (ht : IsTup s.heap t items) (hs : s.heap.IsSliceOf sl vl vu .none) (pl : IsPart vl lo) (pu : IsPart vu hi)
    (h1 : ∀ k, lo = some k → 0 ≤ k) (h2 : ∀ k, hi = some k → 0 ≤ k) (hq : cut items.toList (lo.map Int.toNat) (hi.map Int.toNat) = items.toList → Q (.ref t) s)
    (h : Q (.ref s.heap.objs.size) { s with heap := s.heap.push { cls := .type "tuple", data := .seq (cut items.toList (lo.map Int.toNat) (hi.map Int.toNat)).toArray } })
    (hsz : items.size ≤ sizeLine) : wpAny (model prog w) A (getItem (.ref t) (.ref sl)) Q E s := by
  have hcut := pick_cut items.toList lo hi h1 h2
  have hlo : PySem.W.kms_lo lo items.size = min ((lo.map Int.toNat).getD 0) items.size := by
    cases lo with
    | none => simp [PySem.W.kms_lo]
    | some k => have := h1 k rfl; simp only [PySem.W.kms_lo, Option.map_some, Option.getD_some]; split <;> omega
  have hhi : PySem.W.kms_hi hi items.size = min ((hi.map Int.toNat).getD items.size) items.size := by
    cases hi with
    | none => simp [PySem.W.kms_hi]
    | some k => have := h2 k rfl; simp only [PySem.W.kms_hi, Option.map_some, Option.getD_some]; split <;> omega
  unfold PySem.W.kms_pick at hcut
  rw [Array.length_toList, hlo, hhi] at hcut
  have hadj := adjust_cut lo hi items.size h1 h2
  generalize min ((lo.map Int.toNat).getD 0) items.size = a at hcut hadj
  generalize min ((hi.map Int.toNat).getD items.size) items.size = b at hcut hadj
  rw [← hcut] at hq h
  have hdrop : sizeOk (.seq ((items.toList.drop a).take (b - a)).toArray) := by
    show ((items.toList.drop a).take (b - a)).toArray.size ≤ sizeLine
    rw [List.size_toArray, List.length_take, List.length_drop, Array.length_toList]
    omega
  obtain ⟨os, hos, hcs, hds⟩ := id hs
  have hTs : s.TypeIs (.ref sl) "slice" := ⟨os, hos, hcs⟩
  unfold getItem
  try with_reducible refine wpAny_holding ?_
  first | refine wpAny_bind (wpAny_pure ?_) | skip
  refine wpAny_bind (wpAny_sequenceKey ht.typeIs (by decide) ?_)
  refine wpAny_bind (wpAny_callSpecial?_slot (name := Str.ofString "__getitem__") ht.typeIs slot_tuple_getitem
    (wpAny_call_entry slot_tuple_getitem ht.typeIs entry_tuple_getitem ?_ (args_tuple_getitem _ _)))
  show wpAny _ _ (Builtin.Tuple.tupleItemsOf (.ref t) >>= _) _ _ s
  refine wpAny_bind (tupleItemsOf_ ht ?_)
  refine wpAny_bind (wpAny_typeOf hTs ?_)
  rw [if_pos (by decide)]
  refine wpAny_bind ?_
  unfold Builtin.Slice.sliceApplied Builtin.Slice.sliceFields
  refine wpAny_bind (wpAny_bind (wpAny_field hos hds (x := vl) rfl (wpAny_bind (wpAny_field hos hds (x := vu) rfl (wpAny_bind (wpAny_field hos hds (x := .none) rfl (wpAny_pure ?_)))))))
  refine wpAny_bind (slicePart_none ?_)
  show wpAny _ _ (if ((1 : Int) == 0) = true then _ else _) _ _ s
  rw [if_neg (by decide)]
  refine wpAny_bind (part_at pl (wpAny_bind (part_at pu (wpAny_bind (wpAny_pure ?_)))))
  show wpAny _ _ (match Builtin.Slice.sliceAdjust lo hi 1 (items.size : Int) with | (lo, hi) => pure (lo, (1 : Int), Builtin.Slice.slicePlaces lo hi 1)) _ _ s
  rw [hadj]
  show wpAny _ _ (pure ((a : Int), (1 : Int), Builtin.Slice.slicePlaces (a : Int) (b : Int) 1)) _ _ s
  rw [places_cut]
  refine wpAny_pure ?_
  show wpAny _ _ (if ((a : Int) == 0 && (1 : Int) == 1 && (b - a) == items.size) = true then _ else _) _ _ s
  by_cases hc : ((a : Int) == 0 && (1 : Int) == 1 && (b - a) == items.size) = true
  · rw [if_pos hc]
    simp only [Bool.and_eq_true, beq_iff_eq] at hc
    obtain ⟨⟨ha, _⟩, hb⟩ := hc
    have ha : a = 0 := by omega
    subst ha
    have hq' := hq (by rw [hb, List.drop_zero, ← Array.length_toList, List.take_length])
    refine wpAny_bind ?_
    unfold Builtin.Tuple.tupleIsExact
    refine wpAny_bind (wpAny_typeOf ht.typeIs (wpAny_pure ?_))
    rw [if_pos (by decide)]
    exact wpAny_bind (wpAny_rule (wpAny_pure ⟨_, rfl, wpAny_pure hq'⟩))
  · rw [if_neg hc, tup_pick items a (b - a)]
    first
      | exact wpAny_bind (m := Builtin.Tuple.tupleExact _) (wpAny_newObj_type (wpAny_pure ⟨_, rfl, wpAny_pure h⟩) hdrop)
      | exact wpAny_bind (m := Builtin.Tuple.tupleExact _) (wpAny_newObj_type (wpAny_bind (wpAny_pure (wpAny_pure ⟨_, rfl, wpAny_pure h⟩))) hdrop)
      | exact wpAny_bind (wpAny_bind (m := Builtin.Tuple.tupleExact _) (wpAny_newObj_type (wpAny_pure (wpAny_pure ⟨_, rfl, wpAny_pure h⟩)) hdrop))
      | exact wpAny_bind (wpAny_bind (m := Builtin.Tuple.tupleExact _) (wpAny_newObj_type (wpAny_pure ⟨_, rfl, wpAny_pure h⟩) hdrop))

theorem sound_slice (hE : SE prog w T fs mg mb n) {k : Nat} {cx : Cx} {A : Around} {g : Heap} {s : Shared} {env : Env} {ρ : Rho} {oa : Nat → Addr} {V : Addr → Prop} {value : Expr} {lo hi : Option Expr} {p pos : Pos} {pv : PE} {pl ph : Option PE} {Q : PyData → Tag → Prop} (hf : cx.fs = fs) (hR : Room A n) (G : Gw T fs mg mb g) (F : Fm g s.heap cx env ρ oa V)
    (h1 : cE k cx value = some pv) (h2 : cOpt (cE k cx) lo = some pl) (h3 : cOpt (cE k cx) hi = some ph)
    (h : (lev T n).E ρ pv fun x _ => evo ((lev T n).E ρ) pl fun l => evo ((lev T n).E ρ) ph fun h => sliceP x l h Q) :
    wpAny (model prog w) A (eval (.Subscript value (.Slice lo hi none p) pos) env) (Post V oa s Q) NoE s := by
  refine Subscript_ (wpAny_mono (hE k cx value pv A g s env ρ oa V _ hf h1 hR G F h) (fun v s₁ p1 => ?_) fun _ _ x => x)
  obtain ⟨d, t, q, k1, r⟩ := p1
  have F1 := F.ka (kp_heap k1)
  refine wpAny_Slice (wpAny_mono (sound_part hE hf hR G F1 h2 q) (fun vl s₂ p2 => ?_) fun _ _ x => x)
  obtain ⟨ol, q, k2, rl⟩ := p2
  have F2 := F1.ka (kp_heap k2)
  refine wpAny_mono (sound_part hE hf hR G F2 h3 q) (fun vh s₃ p3 => ?_) fun _ _ x => x
  obtain ⟨oh, q, k3, rh⟩ := p3
  rw [evalPart_none]
  refine wpAny_pure ?_
  unfold sliceP at q
  obtain ⟨il, il1, il2, q⟩ := part_of q rl
  obtain ⟨ih, ih1, ih2, q⟩ := part_of q rh
  cases d with
  | list l =>
    obtain ⟨a, vs, as, rfl, pp, rr, nv⟩ := ((r.ka (kp_heap k2)).ka (kp_heap k3)).items
    obtain ⟨hz, q⟩ := q
    obtain ⟨bs, rc, hb⟩ := rr.cut (il.map Int.toNat) (ih.map Int.toNat)
    have hl := rr.len
    rw [Array.length_toList] at hl
    refine tail_any (Heap.IsList.typeIs (s := { s₃ with heap := s₃.heap.push _ }) (pp.isList.push _)) slot_list_getitem.lookup (wpAny_getItem_list_slice (pp.isList.push _) (Heap.IsSliceOf.new ..) il1 ih1 .none (by simp) ?_ (by omega)) rfl
    rw [PySem.W.kms_pick_eq, pick_cut _ _ _ il2 ih2]
    refine ⟨_, _, q, kp_trans (kp_trans (kp_trans k1 k2) k3) (kp_trans kp_push kp_push), ?_⟩
    have := res_push_list (V := V) (oa := oa) (rc.keeps (KA.push _ { cls := .type "slice", data := .fields #[vl, vh, .none] })) fun b m => nv b (hb b m)
    exact this.base (((kp_heap k1).trans (kp_heap k2)).trans ((kp_heap k3).trans (KA.push _ _)))
  | tuple l =>
    obtain ⟨a, vs, as, rfl, pp, rr, nv⟩ := ((r.ka (kp_heap k2)).ka (kp_heap k3)).titems
    obtain ⟨hz, q⟩ := q
    obtain ⟨bs, rc, hb⟩ := rr.cut (il.map Int.toNat) (ih.map Int.toNat)
    have hl := rr.len
    rw [Array.length_toList] at hl
    have k4 := kp_trans (kp_trans k1 k2) k3
    have it : IsTup (s₃.heap.push { cls := .type "slice", data := .fields #[vl, vh, .none] }) a vs := by
      obtain ⟨m, e⟩ := pp
      exact ⟨_, Heap.get?_push_of_some _ e, rfl, m, rfl⟩
    refine tail_any (s := { s₃ with heap := s₃.heap.push { cls := .type "slice", data := .fields #[vl, vh, .none] } }) it.typeIs slot_tuple_getitem.lookup (getItem_tup it (Heap.IsSliceOf.new ..) il1 ih1 il2 ih2 (fun e => ?_) ?_ (by omega)) rfl
    · refine ⟨_, _, q, kp_trans k4 kp_push, ?_⟩
      obtain ⟨m, e2⟩ := pp
      refine ⟨bs, ?_, fun b m => nv b (hb b m)⟩
      rw [e] at rc
      exact .tuple (Heap.get?_push_of_some _ e2) (rc.keeps (KA.push _ _))
    · refine ⟨_, _, q, kp_trans k4 (kp_trans kp_push kp_push), ?_⟩
      have := res_push_tuple (V := V) (oa := oa) (rc.keeps (KA.push _ { cls := .type "slice", data := .fields #[vl, vh, .none] })) fun b m => nv b (hb b m)
      exact this.base ((kp_heap k4).trans (KA.push _ _))
  | _ => exact q.elim

theorem idxOf_spec {i : Int} : ∀ {ns : List Int} {k : Nat}, idxOf i ns = some k → ns[k]? = some i ∧ ∀ m, m < k → ∀ j, ns[m]? = some j → j ≠ i
  | [], k, h => by simp [idxOf] at h
  | a :: r, k, h => by
    unfold idxOf at h
    split at h
    · rename_i c; cases h; refine ⟨by simpa using c, fun m hm => absurd hm (Nat.not_lt_zero _)⟩
    · rename_i c
      obtain ⟨k', e, rfl⟩ := Option.map_eq_some_iff.mp h
      obtain ⟨h1, h2⟩ := idxOf_spec e
      refine ⟨by simpa using h1, fun m hm j ej => ?_⟩
      cases m with
      | zero => simp at ej; subst ej; simpa using c
      | succ m => exact h2 m (by omega) j (by simpa using ej)

theorem plain_dict {h : Heap} {a : Addr} {vs : Array Value} (p : h.PlainList a vs) : ∃ ob, h.get? a = some ob ∧ ob.dict = none := let ⟨n, e⟩ := p; ⟨_, e, rfl⟩
end
end

section
set_option Elab.async false
open PySem PySem.Spec PyProof.Rows PySem.Calls

section
variable {prog : Program} {w : World} {T : Table} {fs : Fs} {mg mb : Str → Option Value} {n : Nat}

theorem backTo_one {k : Nat} {cx : Cx} {e : Expr} {pe : PE} {env : Env} {pos : Pos} (hc : cE k cx e = some pe) : backTo pos (starEach [e] env) = [(false, eval e env)] := by
  obtain ⟨hn, _⟩ := cList_cons (cList_one hc)
  rw [starEach_plain hn]; rfl

/-- a list's own method on a name -/
theorem wpAny_meth {A : Around} {E : Value → Shared → Prop} {s : Shared} {env : Env} {k : Nat} {cx : Cx} {x m : Str} {id : String} {px ap pos : Pos} {e : Expr} {pe : PE} {Q : Value → Shared → Prop} (hc : cE k cx e = some pe) (hl : (ap.endLine == pos.line) = true) (sl : PySem.Slot "list" m id)
    (hty : typeOf (.builtin id) = pure (.type "method_descriptor"))
    (h : wpAny (model prog w) A (eval (.Name x px) env) (fun ov s₁ => ∃ a vs, ov = .ref a ∧ s₁.heap.PlainList a vs ∧ wpAny (model prog w) A (callWith pos (.builtin id) [.ref a] [(false, eval e env)] []) Q E s₁) E s) :
    wpAny (model prog w) A (eval (.Call (.Attribute (.Name x px) m ap) [e] [] pos) env) Q E s := by
  refine wpAny_Call_method (T := "list") rfl (by rw [backTo_one hc]; rfl) hl PySem.F.plainAttrs_list sl hty (wpAny_mono h (fun ov s₁ p => ?_) fun _ _ x => x)
  obtain ⟨a, vs, rfl, p, q⟩ := p
  refine ⟨p.isList.typeIs, fun b e => ?_, by rw [backTo_one hc]; exact q⟩
  cases e; exact plain_dict p

theorem sound_index (hE : SE prog w T fs mg mb n) {k : Nat} {cx : Cx} {A : Around} {g : Heap} {s : Shared} {env : Env} {ρ : Rho} {oa : Nat → Addr} {V : Addr → Prop} {x : Str} {i : Nat} {px ap pos : Pos} {e : Expr} {pe : PE} {Q : PyData → Tag → Prop} (hf : cx.fs = fs) (hR : Room A n) (G : Gw T fs mg mb g) (F : Fm g s.heap cx env ρ oa V)
    (hx : slotOf cx.nms x = some i) (hc : cE k cx e = some pe) (hl : (ap.endLine == pos.line) = true) (h : (lev T (n + 1)).E ρ (.idx i pe) Q) :
    wpAny (model prog w) A (eval (.Call (.Attribute (.Name x px) (Str.ofString "index") ap) [e] [] pos) env) (Post V oa s Q) NoE s := by
  refine wpAny_meth (id := "list.index") hc hl PySem.F.slot_list_index PySem.F.type_list_index ?_
  have key : ∀ (l : List PyData) (t : Tag) (ov : Value) (s₁ : Shared), Keeps s s₁ → Res V oa s.heap s₁.heap ov (.list l) t → ((lev T n).E ρ pe fun y _ => ∃ j ns k, y = .int j ∧ intsOf l = some ns ∧ idxOf j ns = some k ∧ l.length ≤ sizeLine ∧ Q (.int (k : Nat)) .old) →
      ∃ a vs, ov = .ref a ∧ s₁.heap.PlainList a vs ∧ wpAny (model prog w) A (callWith pos (.builtin "list.index") [.ref a] [(false, eval e env)] []) (Post V oa s Q) NoE s₁ := by
    intro l t ov s₁ k1 r h
    obtain ⟨a, vs, as, rfl, p, rr, _⟩ := r.items
    refine ⟨a, vs, rfl, p, PySem.P.index_list (wpAny_mono (hE k cx e pe A g s₁ env ρ oa V _ hf hc hR G (F.ka (kp_heap k1)) h) (fun v s₂ p2 => ?_) fun _ _ x => x)⟩
    obtain ⟨d, u, ⟨j, ns, kk, rfl, en, ej, hz, q⟩, k2, r2⟩ := p2
    obtain ⟨tk, rfl⟩ := r2.int
    obtain ⟨m, pm⟩ := p
    obtain ⟨e1, e2⟩ := intsOf_rp rr en
    obtain ⟨i1, i2⟩ := idxOf_spec ej
    have hkk : kk < ns.length := by
      rcases Nat.lt_or_ge kk ns.length with c | c
      · exact c
      · rw [List.getElem?_eq_none c] at i1; cases i1
    have hv : vs.size = ns.length := by rw [← Array.length_toList]; exact e1
    have hl' := rr.len
    have at_ : ∀ (m : Nat) (hm : m < vs.size), ∃ z tz, vs[m] = .int z tz ∧ ns[m]? = some z := fun m hm => e2 m _ (by rw [Array.getElem?_toList]; exact Array.getElem?_eq_getElem hm)
    refine ⟨vs, m, eqI j, kk, by omega, kp_heap k2 _ _ pm, fun y hy => eqGives_I j tk e2 y (by simpa using hy), ?_, ?_, fun m hm hlt => ?_, ⟨_, _, q, kp_trans k1 (kp_trans k2 kp_tok), res_int _ _⟩⟩
    · have : sizeLine = 16777216 := rfl
      rw [Array.length_toList] at hl'
      omega
    · obtain ⟨z, tz, ez, ez'⟩ := at_ kk (by omega)
      rw [ez]; rw [i1] at ez'; cases ez'
      simp [eqI]
    · obtain ⟨z, tz, ez, ez'⟩ := at_ m hm
      rw [ez]
      simpa [eqI] using i2 m hlt z ez'
  rw [E_idx] at h
  cases c : ρ[i]? with
  | none => rw [c] at h; exact h.elim
  | some sl =>
    rw [c] at h
    cases sl with
    | un => exact h.elim
    | fz d =>
      cases d with
      | list l =>
        refine wpAny_mono (sound_var (Q := fun d t => d = .list l ∧ t = .old) F (slotOf_get hx) (by rw [c]; exact ⟨rfl, rfl⟩)) (fun ov s₁ p => ?_) fun _ _ x => x
        obtain ⟨d, t, ⟨rfl, rfl⟩, k1, r⟩ := p
        exact key l .old ov s₁ k1 r h
      | _ => exact h.elim
    | ow l =>
      refine wpAny_mono (sound_var (Q := fun d t => d = .list l ∧ t = .var i) F (slotOf_get hx) (by rw [c]; exact ⟨rfl, rfl⟩)) (fun ov s₁ p => ?_) fun _ _ x => x
      obtain ⟨d, t, ⟨rfl, rfl⟩, k1, r⟩ := p
      exact key l (.var i) ov s₁ k1 r h

theorem typeName_is {cx : Cx} {f : Str} {t : String} (h : typeName cx f = some t) : ∃ nm, cx.isBi f nm = true ∧ bootBuiltins nm = some (.type t) ∧ (nm == Str.ofString "__debug__") = false ∧ (nm == Str.ofString "__name__") = false := by
  have hm := List.mem_of_find?_eq_some h
  have hp := List.find?_some h
  have hall : ∀ t ∈ typeTab, bootBuiltins (Str.ofString t) = some (.type t) ∧ (Str.ofString t == Str.ofString "__debug__") = false ∧ (Str.ofString t == Str.ofString "__name__") = false := by decide +kernel
  exact ⟨_, hp, hall t hm⟩

theorem sound_isinst (hE : SE prog w T fs mg mb n) {k : Nat} {cx : Cx} {A : Around} {g : Heap} {s : Shared} {env : Env} {ρ : Rho} {oa : Nat → Addr} {V : Addr → Prop} {f ty : Str} {b : String} {fp tp pos : Pos} {e : Expr} {pe : PE} {Q : PyData → Tag → Prop} (hf : cx.fs = fs) (hR : Room A n) (G : Gw T fs mg mb g) (F : Fm g s.heap cx env ρ oa V)
    (hi : cx.isBi f (Str.ofString "isinstance") = true) (ht : typeName cx ty = some b) (hc : cE k cx e = some pe) (h : evs ((lev T n).E ρ) [pe] fun r => biP (.isi b) r Q) :
    wpAny (model prog w) A (eval (.Call (.Name f fp) [e, .Name ty tp] [] pos) env) (Post V oa s Q) NoE s := by
  have hcl := cList_one hc
  obtain ⟨hn, _⟩ := cList_cons hcl
  have hst : starEach [e, .Name ty tp] env = (false, eval e env) :: (false, eval (.Name ty tp) env) :: [] := by rw [starEach_plain hn]; rfl
  refine wpAny_CallName (sound_biName hf G F hi (by decide +kernel : bootBuiltins (Str.ofString "isinstance") = some (.builtin "isinstance")) (by decide +kernel) (by decide +kernel) (callWith_val (fun a q => by cases q) (by rw [hst]; rfl) ?_))
  have hs : wpAny (model prog w) A (spliced (backTo pos (starEach [e, .Name ty tp] env))) (fun vs s' => ∃ v d t, vs = [v, .type b] ∧ biP (.isi b) [(d, t)] Q ∧ Keeps s s' ∧ Res V oa s.heap s'.heap v d t) NoE s := by
    refine spliced_more (wpAny_mono (hE k cx e pe A g s env ρ oa V _ hf hc hR G F h) (fun v s₁ p => ?_) fun _ _ x => x) (starEach_plain hn _ env)
    obtain ⟨d, t, q, k1, r⟩ := p
    obtain ⟨nm, n1, n2, n3, n4⟩ := typeName_is ht
    refine spliced_more (sound_biName hf G (F.ka (kp_heap k1)) n1 n2 n3 n4 (spliced_none ?_)) (starEach_plain (fun _ _ q => by cases q) _ env)
    exact ⟨v, d, t, rfl, q, k1, r⟩
  rw [hst] at hs ⊢
  refine evalArgs_plain (wpAny_mono hs (fun vs s₁ p => ?_) fun _ _ x => x)
  obtain ⟨v, d, t, rfl, hb, k1, r⟩ := p
  obtain ⟨bb, e1, q⟩ := onSome_of hb
  obtain ⟨as, rp⟩ := r.rp
  exact sound_isi rp e1 ⟨_, _, q, k1, res_bool _⟩ fun tk => ⟨_, _, q, kp_trans k1 kp_tok, res_bool _⟩

noncomputable def biPlain : Bi → Bool
  | .isi _ => false
  | .max1d => false
  | .index => false
  | _ => true
theorem inTab_is {cx : Cx} {f : Str} {b : Bi} {l : List (String × Bi)} (h : l.findSome? (inTab cx f) = some b) : ∃ p ∈ l, cx.isBi f (Str.ofString p.1) = true ∧ p.2 = b := by
  obtain ⟨p, hp, e⟩ := List.exists_of_findSome?_eq_some h
  obtain ⟨h1, h2⟩ := gd_some e
  cases h2
  exact ⟨p, hp, h1, rfl⟩
theorem biName_is {cx : Cx} {f : Str} {b : Bi} (h : biName cx f = some b) : (∃ nm, cx.isBi f nm = true ∧ bootBuiltins nm = some (biV b) ∧ (nm == Str.ofString "__debug__") = false ∧ (nm == Str.ofString "__name__") = false) ∧ (∀ a, biV b ≠ .ref a) ∧ (∀ ty, b ≠ .isi ty) ∧ b ≠ .max1d := by
  obtain ⟨p, hp, hi, rfl⟩ := inTab_is h
  have hall : ∀ p ∈ biTab, bootBuiltins (Str.ofString p.1) = some (biV p.2) ∧ (Str.ofString p.1 == Str.ofString "__debug__") = false ∧ (Str.ofString p.1 == Str.ofString "__name__") = false := by decide +kernel
  refine ⟨⟨_, hi, hall p hp⟩, ?_⟩
  have hb : ∀ p ∈ biTab, biPlain p.2 = true := by decide
  have hb := hb p hp
  generalize p.2 = b at hb
  cases b with
  | isi _ => cases hb
  | max1d => cases hb
  | index => cases hb
  | _ => exact ⟨(fun a q => by cases q), (fun ty q => by cases q), (fun q => by cases q)⟩
theorem biName2_is {cx : Cx} {f : Str} {b : Bi} (h : biName2 cx f = some b) : (∃ nm, cx.isBi f nm = true ∧ bootBuiltins nm = some (biV b) ∧ (nm == Str.ofString "__debug__") = false ∧ (nm == Str.ofString "__name__") = false) ∧ (∀ a, biV b ≠ .ref a) ∧ b ≠ .index := by
  obtain ⟨p, hp, hi, rfl⟩ := inTab_is h
  have hall : ∀ p ∈ biTab2, bootBuiltins (Str.ofString p.1) = some (biV p.2) ∧ (Str.ofString p.1 == Str.ofString "__debug__") = false ∧ (Str.ofString p.1 == Str.ofString "__name__") = false := by decide +kernel
  refine ⟨⟨_, hi, hall p hp⟩, ?_⟩
  have hb : ∀ p ∈ biTab2, biPlain p.2 = true := by decide
  have hb := hb p hp
  generalize p.2 = b at hb
  cases b with
  | isi _ => cases hb
  | max1d => cases hb
  | index => cases hb
  | _ => exact ⟨(fun a q => by cases q), (fun q => by cases q)⟩

noncomputable def Two (P : PyData → Tag → PyData → Tag → Prop) : List (PyData × Tag) → Prop
  | [(d, t), (d2, t2)] => P d t d2 t2
  | _ => False
theorem shape2 {V : Addr → Prop} {oa : Nat → Addr} {h h' : Heap} {P : PyData → Tag → PyData → Tag → Prop} : ∀ {vs : List Value} {r : List (PyData × Tag)}, ResAll V oa h h' vs r → Two P r → ∃ v d t v2 d2 t2, vs = [v, v2] ∧ Res V oa h h' v d t ∧ Res V oa h h' v2 d2 t2 ∧ P d t d2 t2
  | _, [], _, q => q.elim
  | _, [_], _, q => q.elim
  | _, _ :: _ :: _ :: _, _, q => q.elim
  | [], [_, _], rr, _ => rr.elim
  | [_], [_, _], rr, _ => rr.2.elim
  | _ :: _ :: _ :: _, [_, _], rr, _ => rr.2.2.elim
  | [v, v2], [(d, t), (d2, t2)], rr, q => ⟨v, d, t, v2, d2, t2, rfl, rr.1, rr.2.1, q⟩

theorem sound_b1 (hE : SE prog w T fs mg mb n) {k : Nat} {cx : Cx} {A : Around} {g : Heap} {s : Shared} {env : Env} {ρ : Rho} {oa : Nat → Addr} {V : Addr → Prop} {f : Str} {b : Bi} {fp pos : Pos} {e : Expr} {pe : PE} {Q : PyData → Tag → Prop} (hf : cx.fs = fs) (hR : Room A n) (G : Gw T fs mg mb g) (F : Fm g s.heap cx env ρ oa V)
    (hb : biName cx f = some b) (hc : cE k cx e = some pe) (h : evs ((lev T n).E ρ) [pe] fun r => biP b r Q) :
    wpAny (model prog w) A (eval (.Call (.Name f fp) [e] [] pos) env) (Post V oa s Q) NoE s := by
  obtain ⟨⟨nm, n1, n2, n3, n4⟩, n5, n6, n7⟩ := biName_is hb
  refine sound_bcall hE hf hR G F n1 n2 n5 n3 n4 (cList_one hc) (R := One fun d t => biP b [(d, t)] Q) h fun vs r s₁ hr k1 rr => ?_
  obtain ⟨v, d, t, rfl, r1, q⟩ := shape1 rr hr
  exact wpAny_mono (sound_bi1 hR.1 n6 n7 r1 q) (fun _ _ p => p.base k1) fun _ _ x => x

theorem cList_two {k : Nat} {cx : Cx} {e e2 : Expr} {pi pj : PE} (hc : cE k cx e = some pi) (hc2 : cE k cx e2 = some pj) : cList (cE k cx) [e, e2] = some [pi, pj] := by
  show gd (!isStar e) ((cE k cx e).bind fun a => (cList (cE k cx) [e2]).bind fun b => some (a :: b)) = _
  rw [cE_noStar hc, hc, cList_one hc2]
  rfl

theorem sound_b2 (hE : SE prog w T fs mg mb n) {k : Nat} {cx : Cx} {A : Around} {g : Heap} {s : Shared} {env : Env} {ρ : Rho} {oa : Nat → Addr} {V : Addr → Prop} {f : Str} {b : Bi} {fp pos : Pos} {e e2 : Expr} {pe pe2 : PE} {Q : PyData → Tag → Prop} (hf : cx.fs = fs) (hR : Room A n) (G : Gw T fs mg mb g) (F : Fm g s.heap cx env ρ oa V)
    (hb : biName2 cx f = some b) (hc : cE k cx e = some pe) (hc2 : cE k cx e2 = some pe2) (h : evs ((lev T n).E ρ) [pe, pe2] fun r => biP b r Q) :
    wpAny (model prog w) A (eval (.Call (.Name f fp) [e, e2] [] pos) env) (Post V oa s Q) NoE s := by
  obtain ⟨⟨nm, n1, n2, n3, n4⟩, n5, n6⟩ := biName2_is hb
  refine sound_bcall hE hf hR G F n1 n2 n5 n3 n4 (cList_two hc hc2) (R := Two fun d t d2 t2 => biP b [(d, t), (d2, t2)] Q) h fun vs r s₁ hr k1 rr => ?_
  obtain ⟨v, d, t, v2, d2, t2, rfl, r1, r2, q⟩ := shape2 rr hr
  exact wpAny_mono (sound_bi2 hR.1 n6 r1 r2 q) (fun _ _ p => p.base k1) fun _ _ x => x

theorem sound_maxd (hE : SE prog w T fs mg mb n) {k : Nat} {cx : Cx} {A : Around} {g : Heap} {s : Shared} {env : Env} {ρ : Rho} {oa : Nat → Addr} {V : Addr → Prop} {f : Str} {fp pos p1 p2 : Pos} {e : Expr} {pe : PE} {kk : Nat} {Q : PyData → Tag → Prop} (hf : cx.fs = fs) (hR : Room A n) (G : Gw T fs mg mb g) (F : Fm g s.heap cx env ρ oa V)
    (hi : cx.isBi f (Str.ofString "max") = true) (hc : cE k cx e = some pe) (h : evs ((lev T n).E ρ) [pe] fun r => biP .max1d r Q) :
    wpAny (model prog w) A (eval (.Call (.Name f fp) [e] [⟨some (Str.ofString "default"), .Constant .none kk p1, p2⟩] pos) env) (Post V oa s Q) NoE s := by
  have e0 : eval (.Call (.Name f fp) [e] [⟨some (Str.ofString "default"), .Constant .none kk p1, p2⟩] pos) env = (do callWith pos (← eval (.Name f fp) env) [] (backTo pos (starEach [e] env)) (backToKw pos (keywordEach [⟨some (Str.ofString "default"), .Constant .none kk p1, p2⟩] env))) := rfl
  have hb1 := backTo_one (env := env) (pos := pos) hc
  rw [e0]
  refine wpAny_bind (sound_biName hf G F hi (by decide +kernel : bootBuiltins (Str.ofString "max") = some (.builtin "max")) (by decide +kernel) (by decide +kernel) (callWith_kw ?_ (by rw [hb1]; rfl) (by rw [hb1]; rfl)))
  refine wpAny_mono (sound_evs hE hf hR G [e] [pe] s (One fun d t => biP .max1d [(d, t)] Q) (cList_one hc) F h) (fun vs s₁ p => ?_) fun _ _ x => x
  obtain ⟨r, hr, k1, rr⟩ := p
  obtain ⟨v, d, t, rfl, r1, q⟩ := shape1 rr hr
  show wpAny _ _ (evalAll [do let v ← eval (.Constant .none kk p1) env; standAt pos; pure v]) _ _ _
  unfold evalAll
  refine wpAny_bind (wpAny_bind (wpAny_Constant_none (wpAny_bind (wpAny_standAt (wpAny_pure ?_)))))
  refine wpAny_bind (wpAny_holding (evalAll_nil (wpAny_pure ?_)))
  exact wpAny_mono (sound_max_d hR.1 r1 q) (fun _ _ p => p.base k1) fun _ _ x => x
end
end

section
set_option Elab.async false
open PySem PySem.Spec PyProof.Rows PySem.Calls

section
variable {prog : Program} {w : World} {T : Table} {fs : Fs} {mg mb : Str → Option Value} {n : Nat}

theorem sound_bool2 {k : Nat} {cx : Cx} {A : Around} {g : Heap} {env : Env} {ρ : Rho} {oa : Nat → Addr} {V : Addr → Prop} {pos : Pos} {op : BoolOp} {e e' : Expr} {r : List Expr} {pe : PE} {s : Shared} {Q : PyData → Tag → Prop} (hf : cx.fs = fs) (G : Gw T fs mg mb g) (IH' : ∀ m, m ≤ n → SE prog w T fs mg mb m) (hR' : Room A n)
    (hc : cBool (cE k cx) op (e :: e' :: r) = some pe) (F : Fm g s.heap cx env ρ oa V) (h : (lev T (n + 1)).E ρ pe Q) : wpAny (model prog w) A (boolOp pos op (evalEach (e :: e' :: r) env)) (Post V oa s Q) NoE s := by
  obtain ⟨a, b, h1, h2, rfl⟩ := cBool_two hc
  cases op with
  | And =>
    refine wpAny_boolOp_cons (wpAny_mono (IH' n (Nat.le_refl n) k cx e a A g s env ρ oa V _ hf h1 hR' G F h) (fun v s₁ p => ?_) fun _ _ x => x)
    obtain ⟨d, t, q, k1, r1⟩ := p
    cases d with
    | bool c =>
      refine ⟨c, r1.bool, fun hc => ?_, fun hc => ?_⟩
      · rcases hc with ⟨_, rfl⟩ | ⟨hc, _⟩
        · rw [r1.bool]; exact ⟨_, _, q.2 rfl, k1, res_bool _⟩
        · cases hc
      · rcases hc with ⟨_, rfl⟩ | ⟨hc, _⟩
        · exact wpAny_mono (sound_bool hf G (e' :: r) b n s₁ Q IH' hR' h2 (F.ka (kp_heap k1)) (q.1 rfl)) (fun _ _ p => p.base k1) fun _ _ x => x
        · cases hc
    | _ => exact q.elim
  | Or =>
    refine wpAny_boolOp_cons (wpAny_mono (IH' n (Nat.le_refl n) k cx e a A g s env ρ oa V _ hf h1 hR' G F h) (fun v s₁ p => ?_) fun _ _ x => x)
    obtain ⟨d, t, q, k1, r1⟩ := p
    cases d with
    | bool c =>
      refine ⟨c, r1.bool, fun hc => ?_, fun hc => ?_⟩
      · rcases hc with ⟨hc, _⟩ | ⟨_, rfl⟩
        · cases hc
        · rw [r1.bool]; exact ⟨_, _, q.1 rfl, k1, res_bool _⟩
      · rcases hc with ⟨hc, _⟩ | ⟨_, rfl⟩
        · cases hc
        · exact wpAny_mono (sound_bool hf G (e' :: r) b n s₁ Q IH' hR' h2 (F.ka (kp_heap k1)) (q.2 rfl)) (fun _ _ p => p.base k1) fun _ _ x => x
    | _ => exact q.elim

theorem ns_notT {h : Heap} {a : Addr} {m : Str → Option Value} (x : h.Ns a m) : ∀ o, h.get? a = some o → ¬ IsT o := fun o e ⟨_, _, q⟩ => by
  obtain ⟨o', es, ep, ho, hd, _⟩ := x
  rw [e] at ho; cases ho; rw [q] at hd; cases hd

/-- the names of a comprehension are let go: nothing else changes -/
theorem compr_fin {V : Addr → Prop} {oa : Nat → Addr} {h₀ h h' : Heap} {D C : Addr} {ys : Array Value} {acc : List PyData} {as : List Addr} {m : Str → Option Value} (hD : h₀.get? D = none) (hC : h₀.get? C = none) (hDC : D ≠ C) (ka : KA h₀ h) (hm : h.Ns C m) (hp : h.PlainList D ys) (hr : RpAll h ys.toList acc as) (hn : ∀ b ∈ as, ¬ V b ∧ b ≠ C ∧ b ≠ D)
    (hs : Heap.SameBut C h h') : KA h₀ h' ∧ Res V oa h₀ h' (.ref D) (.list acc) .fresh := by
  have ex : ∀ b o, b ≠ C → h.get? b = some o → h'.get? b = some o := fun b o n e => hs.extBut b o n e
  have fz : Frz h h' as := fun b o e c => ex b o (fun q => by
    subst q
    rcases c with c | c
    · exact ns_notT hm o e c
    · exact (hn _ c).2.1 rfl) e
  refine ⟨fun b o e => ex b o (fun q => by subst q; rw [hC] at e; cases e) (ka b o e), D, acc, ys, as, rfl, rfl, hD, hp.at fun o e => ex _ o hDC e, readsAll_frz hr fz, fun b m => (hn b m).1, fun q => (hn _ q).2.2 rfl⟩

inductive CompIs (cx : Cx) (f : Cx → Expr → Option PE) (elt : Expr) (gens : List Comprehension) (sc : Scope) (pe : PE) : Prop
  | mk (target iter : Expr) (ifs : List Expr) (tg : List Str) (caps : List Nat) (pi pelt : PE) (pcs : List PE) (e1 : gens = [⟨target, iter, ifs, 0⟩]) (h1 : targetOf target = some tg) (h2 : compScope cx.scope sc tg = true) (h3 : headOk (iterOf cx iter).1 tg = true) (h4 : slotsOf cx.nms (freeOf sc.names) = some caps) (h5 : f cx (iterOf cx iter).2 = some pi)
      (h6 : f { cx with scope := sc, nms := tg ++ freeOf sc.names } elt = some pelt) (h7 : cList (f { cx with scope := sc, nms := tg ++ freeOf sc.names }) ifs = some pcs) (e : pe = .comp pelt tg.length (iterOf cx iter).1 pi pcs caps)
theorem cComp_is {cx : Cx} {f : Cx → Expr → Option PE} {elt : Expr} {gens : List Comprehension} {sc : Scope} {pe : PE} (hc : cComp cx f elt gens sc = some pe) : CompIs cx f elt gens sc pe := by
  obtain ⟨⟨target, iter, ifs, y⟩, hg0, hc⟩ := bind_some hc
  obtain ⟨tg, htg, hc⟩ := bind_some hc
  obtain ⟨hg, hc⟩ := gd_some hc
  simp only [Bool.and_eq_true, decide_eq_true_eq] at hg
  obtain ⟨caps, h1, hc⟩ := bind_some hc
  obtain ⟨pi, h2, hc⟩ := bind_some hc
  obtain ⟨pelt, h3, hc⟩ := bind_some hc
  obtain ⟨pcs, h4, hc⟩ := bind_some hc
  cases hc
  obtain ⟨⟨rfl, g1⟩, g2⟩ := hg
  exact ⟨target, iter, ifs, tg, caps, pi, pelt, pcs, one?_some hg0, htg, g1, g2, h1, h2, h3, h4, rfl⟩

theorem sound_callN (hE : SE prog w T fs mg mb n) (IHS : SS prog w T fs mg mb n) {k : Nat} {cx : Cx} {A : Around} {g : Heap} {s : Shared} {env : Env} {ρ : Rho} {oa : Nat → Addr} {V : Addr → Prop} {f : Str} {fp pos : Pos} {args : List Expr} {kws : List Keyword} {pe : PE} {Q : PyData → Tag → Prop} (hf : cx.fs = fs) (hR : Room A (n + 1)) (hR' : Room A n) (G : Gw T fs mg mb g) (F : Fm g s.heap cx env ρ oa V)
    (hc : cCallN cx (cE k cx) f args kws = some pe) (h : (lev T (n + 1)).E ρ pe Q) : wpAny (model prog w) A (eval (.Call (.Name f fp) args kws pos) env) (Post V oa s Q) NoE s := by
  unfold cCallN at hc
  cases hk : kws.isEmpty with
  | true =>
    rw [hk] at hc
    dsimp only at hc
    have := nil_of hk
    subst this
    cases hfn : cx.isFn f && !args.isEmpty with
    | true =>
      rw [hfn] at hc
      simp only [Bool.and_eq_true, Bool.not_eq_true'] at hfn
      obtain ⟨l, h1, rfl⟩ := Option.map_eq_some_iff.mp hc
      cases args with
      | nil => cases hfn.2
      | cons e es => exact sound_ucall hE IHS hf hR G F hfn.1 h1 h
    | false =>
      rw [hfn] at hc
      replace hc : cBi cx (cE k cx) f args = some pe := hc
      unfold cBi at hc
      cases ho : one? args with
      | some e =>
        rw [ho] at hc
        obtain ⟨b, h1, hc⟩ := bind_some hc
        obtain ⟨a, h2, hc⟩ := bind_some hc
        cases hc
        rw [one?_some ho]
        exact sound_b1 hE hf hR' G F h1 h2 h
      | none =>
        rw [ho] at hc
        obtain ⟨e, he, hc⟩ := bind_some hc
        rw [two?_some he]
        cases hi : cx.isBi f (Str.ofString "isinstance") with
        | true =>
          rw [hi] at hc
          obtain ⟨t, h0, hc⟩ := bind_some hc
          obtain ⟨b, h1, hc⟩ := bind_some hc
          obtain ⟨a, h2, hc⟩ := bind_some hc
          cases hc
          obtain ⟨tp, h3⟩ := asName_some h0
          rw [h3]
          exact sound_isinst hE hf hR' G F hi h1 h2 h
        | false =>
          rw [hi] at hc
          obtain ⟨b, h1, hc⟩ := bind_some hc
          obtain ⟨a, h2, hc⟩ := bind_some hc
          obtain ⟨c, h3, hc⟩ := bind_some hc
          cases hc
          exact sound_b2 hE hf hR' G F h1 h2 h3 h
  | false =>
    rw [hk] at hc
    obtain ⟨⟨ka, kv, kp⟩, h1, hc⟩ := bind_some hc
    obtain ⟨e, h2, hc⟩ := bind_some hc
    obtain ⟨hg, hc1⟩ := gd_some hc
    simp only [Bool.and_eq_true, decide_eq_true_eq] at hg
    obtain ⟨⟨hi, rfl⟩, hn⟩ := hg
    obtain ⟨a, h3, rfl⟩ := Option.map_eq_some_iff.mp hc1
    obtain ⟨kk, p1, rfl⟩ := asNone_some hn
    rw [one?_some h1, one?_some h2]
    exact sound_maxd hE hf hR' G F hi h3 h

theorem se_step (IHE : ∀ m, m ≤ n → SE prog w T fs mg mb m) (IHS : SS prog w T fs mg mb n) : SE prog w T fs mg mb (n + 1) := by
  intro k cx e pe A g s env ρ oa V Q hf hc hR G F h
  have hE := IHE n (Nat.le_refl n)
  have hR' := hR.le (Nat.le_succ n)
  cases k with
  | zero => cases hc
  | succ k =>
    replace hc : cE1 (cE k) cx (view e) = some pe := hc
    have hv := view_is e
    generalize view e = v at hc hv
    cases v with
    | const c =>
      obtain ⟨kd, p, rfl⟩ := hv
      cases c with
      | int i => cases hc; exact wpAny_Constant_int (post_int h)
      | bool b => cases hc; exact wpAny_Constant_bool (post_bool h)
      | none => cases hc; exact wpAny_Constant_none ⟨_, _, h, kp_refl, res_none⟩
      | str x => cases hc; exact wpAny_Constant_str ⟨_, _, h, kp_tok, res_str _ _⟩
      | _ => cases hc
    | name x =>
      obtain ⟨p, rfl⟩ := hv
      obtain ⟨i, hi, rfl⟩ := Option.map_eq_some_iff.mp hc
      exact sound_var F (slotOf_get hi) h
    | bin l op r =>
      obtain ⟨p, rfl⟩ := hv
      obtain ⟨a, h1, hc1⟩ := bind_some hc
      obtain ⟨b, h2, hc2⟩ := bind_some hc1
      cases hc2
      refine wpAny_BinOp (wpAny_mono (hE k cx _ a A g s env ρ oa V _ hf h1 hR' G F h) (fun v s₁ p => ?_) fun _ _ x => x)
      obtain ⟨d, t, q, k1, r1⟩ := p
      refine wpAny_mono (hE k cx _ b A g s₁ env ρ oa V _ hf h2 hR' G (F.ka (kp_heap k1)) q) (fun v2 s₂ p => ?_) fun _ _ x => x
      obtain ⟨d2, t2, q, k2, r2⟩ := p
      exact wpAny_mono (sound_binP (r1.ka (kp_heap k2)) r2 q) (fun _ _ p => p.base (kp_trans k1 k2)) fun _ _ x => x
    | un op x =>
      obtain ⟨p, rfl⟩ := hv
      cases op with
      | Not =>
        obtain ⟨a, h1, rfl⟩ := Option.map_eq_some_iff.mp hc
        refine wpAny_UnaryOp (wpAny_mono (hE k cx _ a A g s env ρ oa V _ hf h1 hR' G F h) (fun v s₁ p => ?_) fun _ _ x => x)
        obtain ⟨d, t, q, k1, r1⟩ := p
        obtain ⟨b, rfl, q⟩ := onBool_of q
        rw [r1.bool]; exact not_of (wpAny_truthy_bool ⟨_, _, q, k1, res_bool _⟩)
      | USub =>
        obtain ⟨a, h1, rfl⟩ := Option.map_eq_some_iff.mp hc
        refine wpAny_UnaryOp (wpAny_mono (hE k cx _ a A g s env ρ oa V _ hf h1 hR' G F h) (fun v s₁ p => ?_) fun _ _ x => x)
        obtain ⟨d, t, q, k1, r1⟩ := p
        obtain ⟨i, rfl, q⟩ := onInt_of q
        obtain ⟨u, rfl⟩ := r1.int; exact PySem.P.neg_int ⟨_, _, q, kp_trans k1 kp_tok, res_int _ _⟩
      | _ => cases hc
    | bool op l =>
      obtain ⟨p, rfl⟩ := hv
      match l, hc with
      | e1 :: e2 :: r, hc =>
        rw [arm_eval_BoolOp]
        exact sound_bool2 hf G IHE hR' hc F h
      | [], hc => cases hc
      | [_], hc => cases hc
    | cmp l ops rs =>
      obtain ⟨p, rfl⟩ := hv
      cases cE_cmp hc with
      | one op r a b q1 q2 h0 h1 h2 q3 =>
        subst q1 q2 q3
        refine wpAny_Compare1 (wpAny_mono (hE k cx _ a A g s env ρ oa V _ hf h1 hR' G F h) (fun v s₁ p => ?_) fun _ _ x => x) h0
        obtain ⟨d, t, q, k1, r1⟩ := p
        refine wpAny_mono (hE k cx _ b A g s₁ env ρ oa V _ hf h2 hR' G (F.ka (kp_heap k1)) q) (fun v2 s₂ p => ?_) fun _ _ x => x
        obtain ⟨d2, t2, q, k2, r2⟩ := p
        obtain ⟨c, qc, hw⟩ := sound_cmpP hR.u (r1.ka (kp_heap k2)) r2 q
        exact hw _ ⟨_, _, qc, kp_trans k1 k2, res_bool c⟩
    | tup es =>
      obtain ⟨kk, p, rfl⟩ := hv
      obtain ⟨l, h1, rfl⟩ := Option.map_eq_some_iff.mp hc
      refine wpAny_Tuple_spliced (wpAny_mono (sound_evs hE hf hR' G _ l s _ h1 F h) (fun vs s₁ p => ?_) fun _ _ x => x)
      obtain ⟨r, ⟨q1, q2, q3⟩, k1, rr⟩ := p
      obtain ⟨as, rv, nv⟩ := rr.rp F.va q1
      refine ⟨by rw [rr.len]; exact q2, _, _, q3, kp_trans k1 kp_push, (res_push_tuple rv nv).base (kp_heap k1)⟩
    | lst es =>
      obtain ⟨p, rfl⟩ := hv
      obtain ⟨l, h1, rfl⟩ := Option.map_eq_some_iff.mp hc
      refine wpAny_List_spliced (wpAny_mono (sound_evs hE hf hR' G _ l s _ h1 F h) (fun vs s₁ p => ?_) fun _ _ x => x)
      obtain ⟨r, ⟨q1, q2, q3⟩, k1, rr⟩ := p
      obtain ⟨as, rv, nv⟩ := rr.rp F.va q1
      refine ⟨by rw [rr.len]; exact q2, _, _, q3, kp_trans k1 kp_push, (res_push_list rv nv).base (kp_heap k1)⟩
    | sub v i =>
      obtain ⟨p, rfl⟩ := hv
      replace hc : cSub (cE k cx) v i = some pe := hc
      unfold cSub at hc
      cases hi : asSlice i with
      | some x =>
        rw [hi] at hc
        obtain ⟨hst, hc1⟩ := gd_some hc
        obtain ⟨a, h1, hc2⟩ := bind_some hc1
        obtain ⟨l, h2, hc3⟩ := bind_some hc2
        obtain ⟨hh, h3, hc4⟩ := bind_some hc3
        cases hc4
        obtain ⟨p', rfl⟩ := asSlice_some hi
        obtain ⟨lo, hi', st⟩ := x
        cases st with
        | none => exact sound_slice hE hf hR' G F h1 h2 h3 h
        | some _ => cases hst
      | none =>
        rw [hi] at hc
        obtain ⟨a, h1, hc1⟩ := bind_some hc
        obtain ⟨b, h2, hc2⟩ := bind_some hc1
        cases hc2
        refine Subscript_ (wpAny_mono (hE k cx _ a A g s env ρ oa V _ hf h1 hR' G F h) (fun v s₁ p => ?_) fun _ _ x => x)
        obtain ⟨d, t, q, k1, r1⟩ := p
        refine wpAny_mono (hE k cx _ b A g s₁ env ρ oa V _ hf h2 hR' G (F.ka (kp_heap k1)) q) (fun v2 s₂ p => ?_) fun _ _ x => x
        obtain ⟨d2, t2, q, k2, r2⟩ := p
        exact wpAny_mono (sound_subP (asSlice_none hi) (r1.ka (kp_heap k2)) r2 q) (fun _ _ p => p.base (kp_trans k1 k2)) fun _ _ x => x
    | call fn args kws pos =>
      have hfn := view_is fn
      replace hc : (match view fn with
        | .name g => cCallN cx (cE k cx) g args kws
        | .attr o m ap => cCallA cx (cE k cx) o m ap args kws pos
        | _ => none) = some pe := hc
      generalize view fn = v at hc hfn
      cases v with
      | name f =>
        obtain ⟨fp, rfl⟩ := hfn
        cases hv
        exact sound_callN hE IHS hf hR hR' G F hc h
      | attr o m ap =>
        cases hfn
        cases hv
        obtain ⟨hm, hc1⟩ := gd_some hc
        obtain ⟨e, he, hc2⟩ := bind_some hc1
        obtain ⟨x, hx, hc3⟩ := bind_some hc2
        obtain ⟨i, h1, hc4⟩ := bind_some hc3
        obtain ⟨a, h2, hc5⟩ := bind_some hc4
        cases hc5
        obtain ⟨px, rfl⟩ := asName_some hx
        simp only [Bool.and_eq_true, beq_iff_eq] at hm
        obtain ⟨hk, rfl, hm⟩ := hm
        rw [nil_of hk, one?_some he]
        exact sound_index hE hf hR' G F h1 h2 (by simpa using hm) h
      | _ => cases hc
    | comp elt gens sc =>
      obtain ⟨p, rfl⟩ := hv
      obtain ⟨target, iter, ifs, tg, caps, pi, pelt, pcs, rfl, htg, hsc, ho, hsl, hci, hce, hcc, rfl⟩ := cComp_is hc
      obtain ⟨cs, hcap, h⟩ := h
      rw [eval_ListComp]
      refine sound_compr (p' := _) (use := none) (Qf := fun l => Q (.list l) .fresh) hf IHE hR' G F htg ho hsc hsl hcap hci hce hcc h ?_
      intro D C h' tk ys acc as m hD hC hDC ka hm hp hr hn hq
      refine ⟨m, hm, fun h'' hs => ?_⟩
      obtain ⟨k1, r1⟩ := compr_fin (V := V) (oa := oa) hD hC hDC ka hm hp hr hn hs
      exact ⟨_, _, hq, ⟨h'', tk, rfl, k1⟩, r1⟩
    | _ => cases hc
end
end

section
set_option Elab.async false
open PySem PySem.Spec PyProof.Rows PySem.Calls

section
variable {g h h' : Heap} {cx : Cx} {env : Env} {ρ : Rho} {oa : Nat → Addr} {V V₀ : Addr → Prop}

theorem Fm.avoidS {Y : Addr → Prop} (F : Fm g h cx env ρ oa V) (k : KA h h') (hn : ∀ b, Y b → h.get? b = none) (ha : ∀ b, Y b → ∃ o, h'.get? b = some o) : Fm g h' cx env ρ oa (fun b => V b ∨ Y b) :=
  { F.ka k with
    val := fun i x sl e1 e2 => by
      have S := F.val i x sl e1 e2
      cases sl with
      | un => trivial
      | fz d =>
        obtain ⟨v, as, b, r, n⟩ := S
        refine ⟨v, as, b.ka k, Rp.keeps k r, fun c hc q => ?_⟩
        rcases q with q | q
        · exact n c hc q
        · obtain ⟨o, e⟩ := reads_alive r _ hc; rw [hn _ q] at e; cases e
      | ow l =>
        obtain ⟨b, vs, as, p, r, n⟩ := S
        refine ⟨b.ka k, vs, as, p.at fun o e => k _ o e, RpAll.keeps k r, fun c hc q => ?_⟩
        rcases q with q | q
        · exact n c hc q
        · obtain ⟨o, e⟩ := readsAll_alive r _ hc; rw [hn _ q] at e; cases e
    va := fun b hb => by
      rcases hb with hb | hb
      · obtain ⟨o, e⟩ := F.va b hb; exact ⟨o, k b o e⟩
      · exact ha b hb
    wv := fun b w => .inl (F.wv b w) }

theorem Fm.change2 {X : Addr → Prop} (F : Fm g h cx env ρ oa V) (k : KB X h h') (hx : ∀ b, X b → V b ∧ ¬ Wr env ρ oa b ∧ g.get? b = none) (hT : ∀ b o, X b → h.get? b = some o → ¬ IsT o) : Fm g h' cx env ρ oa (fun b => V b ∧ ¬ X b) := by
  have fz : ∀ as : List Addr, (∀ b ∈ as, ¬ V b) → Frz h h' as := fun as n => frz_of k hT fun b m q => n b m (hx b q).1
  have nw : ∀ b, Wr env ρ oa b → ¬ X b := fun b w q => (hx b q).2.1 w
  have ns' : ∀ m, h.Ns env.locals m → h'.Ns env.locals m := fun m n => n.at' fun o e => k _ o e (nw _ (.inl rfl))
  have ce' : ∀ x c v, (x, c) ∈ env.cells → h.IsCell c v → h'.IsCell c v := fun x c v m i => let ⟨o, e, d⟩ := i; ⟨o, k c o e (nw _ (.inr (.inl ⟨x, m⟩))), d⟩
  have bd : ∀ y v, Bd h env y v → Bd h' env y v := fun y v b => by
    rcases b with ⟨a, m, n, e⟩ | ⟨a, c, e, i⟩
    · exact .inl ⟨a, m, ns' m n, e⟩
    · exact .inr ⟨a, c, e, ce' y c _ (mem_of_lookup e) i⟩
  exact {
    top := fun b o e => k b o (F.top b o e) fun q => by rw [(hx b q).2.2] at e; cases e
    hg := F.hg
    hb := F.hb
    hk := F.hk
    gl := F.gl
    ce := F.ce
    nm := F.nm
    len := F.len
    dist := F.dist
    kd := F.kd
    ns := let ⟨m, n⟩ := F.ns; ⟨m, ns' m n⟩
    cel := fun x c e => let ⟨v, i⟩ := F.cel x c e; ⟨v, ce' x c v e i⟩
    cap := F.cap
    new := F.new
    od := F.od
    val := fun i x sl e1 e2 => by
      have S := F.val i x sl e1 e2
      cases sl with
      | un => trivial
      | fz d => obtain ⟨v, as, b, r, n⟩ := S; exact ⟨v, as, bd _ _ b, reads_frz r (fz as n), fun c hc q => n c hc q.1⟩
      | ow l =>
        obtain ⟨b, vs, as, p, r, n⟩ := S
        exact ⟨bd _ _ b, vs, as, p.at fun o e => k _ o e (nw _ (.inr (.inr ⟨i, l, e2, rfl⟩))), readsAll_frz r (fz as n), fun c hc q => n c hc q.1⟩
    va := fun b hv => by
      obtain ⟨o, e⟩ := F.va b hv.1
      exact ⟨o, k b o e hv.2⟩
    wv := fun b w => ⟨F.wv b w, nw b w⟩ }

theorem wr_set {i : Nat} {a' : Addr} {sl : Slot} {b : Addr} (w : Wr env (ρ.set i sl) (upd oa i a') b) : Wr env ρ oa b ∨ (∃ l, sl = .ow l ∧ b = a') := by
  rcases w with q | q | ⟨j, l, e, rfl⟩
  · exact .inl (.inl q)
  · exact .inl (.inr (.inl q))
  · rw [List.getElem?_set] at e
    by_cases q : i = j
    · subst q
      simp only [if_true] at e
      split at e
      · cases e; exact .inr ⟨l, rfl, by simp [upd]⟩
      · cases e
    · rw [if_neg q] at e
      refine .inl (.inr (.inr ⟨j, l, e, ?_⟩))
      simp [upd, Ne.symm q]

theorem Own.wr {xs : List Str} {b : Addr} (o : Own env xs b) : Wr env ρ oa b := o.elim .inl fun ⟨x, _, _, q⟩ => .inr (.inl ⟨x, q⟩)

/-- the frame's own list changed -/
theorem Fm.own {i : Nat} {l l' : List PyData} {vs' : Array Value} {as' : List Addr} (F : Fm g h cx env ρ oa V) (hi : ρ[i]? = some (.ow l)) (hs : Heap.SameBut (oa i) h h') (hp : h'.PlainList (oa i) vs') (hr : RpAll h vs'.toList l' as') (hn : ∀ b ∈ as', ¬ V b) : Fm g h' cx env (ρ.set i (.ow l')) oa V := by
  have hil : i < ρ.length := by
    rcases Nat.lt_or_ge i ρ.length with q | q
    · exact q
    · rw [List.getElem?_eq_none q] at hi; cases hi
  have hiw : Wr env ρ oa (oa i) := .inr (.inr ⟨i, l, hi, rfl⟩)
  obtain ⟨o0, e0, nt0⟩ := F.wa _ hiw
  have hpl : ∃ vs, h.PlainList (oa i) vs := by
    obtain ⟨_, vs, as, p, _⟩ := F.val i _ _ (List.getElem?_eq_getElem (by rw [← F.len]; exact hil)) hi
    exact ⟨vs, p⟩
  obtain ⟨vs0, n0, p0⟩ := hpl
  have ex : ∀ b o, b ≠ oa i → h.get? b = some o → h'.get? b = some o := fun b o n e => hs.extBut b o n e
  have fz : ∀ as : List Addr, (∀ b ∈ as, ¬ V b) → Frz h h' as := fun as n b o e c => ex b o (fun q => by
    subst q
    rcases c with c | c
    · rw [e0] at e; cases e; exact nt0 c
    · exact n _ c (F.wv _ hiw)) e
  have nl : env.locals ≠ oa i := fun q => by
    obtain ⟨m, o, es, ep, ho, hd, _⟩ := F.ns
    rw [q, p0] at ho; cases ho; cases hd
  have nc : ∀ x c, (x, c) ∈ env.cells → c ≠ oa i := fun x c m q => by
    obtain ⟨v, o, ho, hd⟩ := F.cel x c m
    rw [q, p0] at ho; cases ho; cases hd
  have ns' : ∀ m, h.Ns env.locals m → h'.Ns env.locals m := fun m n => n.at' fun o e => ex _ o nl e
  have ce' : ∀ x c v, (x, c) ∈ env.cells → h.IsCell c v → h'.IsCell c v := fun x c v m i => let ⟨o, e, d⟩ := i; ⟨o, ex c o (nc x c m) e, d⟩
  have bd : ∀ y v, Bd h env y v → Bd h' env y v := fun y v b => by
    rcases b with ⟨a, m, n, e⟩ | ⟨a, c, e, i⟩
    · exact .inl ⟨a, m, ns' m n, e⟩
    · exact .inr ⟨a, c, e, ce' y c _ (mem_of_lookup e) i⟩
  have hw : ∀ b, Wr env (ρ.set i (.ow l')) oa b → Wr env ρ oa b := fun b w => by
    have w' : Wr env (ρ.set i (.ow l')) (upd oa i (oa i)) b := by rw [upd_self]; exact w
    rcases wr_set w' with q | ⟨_, _, rfl⟩
    · exact q
    · exact hiw
  have back : ∀ (j : Nat) l2, (ρ.set i (.ow l'))[j]? = some (.ow l2) → ∃ l3, ρ[j]? = some (.ow l3) := fun j l2 e => by
    rw [List.getElem?_set] at e
    by_cases q : i = j
    · subst q; exact ⟨l, hi⟩
    · rw [if_neg q] at e; exact ⟨l2, e⟩
  exact {
    top := fun b o e => ex b o (fun q => by subst q; rw [F.new _ hiw] at e; cases e) (F.top b o e)
    hg := F.hg
    hb := F.hb
    hk := F.hk
    gl := F.gl
    ce := F.ce
    nm := F.nm
    len := by rw [List.length_set]; exact F.len
    dist := F.dist
    kd := F.kd
    ns := let ⟨m, n⟩ := F.ns; ⟨m, ns' m n⟩
    cel := fun x c e => let ⟨v, i⟩ := F.cel x c e; ⟨v, ce' x c v e i⟩
    cap := F.cap
    new := fun b w => F.new b (hw b w)
    od := fun j j2 l2 l3 n e1 e2 => by
      obtain ⟨_, e1⟩ := back j l2 e1
      obtain ⟨_, e2⟩ := back j2 l3 e2
      exact F.od j j2 _ _ n e1 e2
    val := fun j x sl e1 e2 => by
      rw [List.getElem?_set] at e2
      by_cases q : i = j
      · subst q
        rw [if_pos rfl, if_pos hil] at e2
        cases e2
        obtain ⟨b, _⟩ := F.val i x _ e1 hi
        exact ⟨bd _ _ b, vs', as', hp, readsAll_frz hr (fz as' hn), hn⟩
      · rw [if_neg q] at e2
        have S := F.val j x sl e1 e2
        cases sl with
        | un => trivial
        | fz d => obtain ⟨v, as, b, r, n⟩ := S; exact ⟨v, as, bd _ _ b, reads_frz r (fz as n), n⟩
        | ow l2 =>
          obtain ⟨b, vs, as, p, r, n⟩ := S
          exact ⟨bd _ _ b, vs, as, p.at fun o e => ex _ o (F.od j i _ _ (Ne.symm q) e2 hi) e, readsAll_frz r (fz as n), n⟩
    va := fun b hv => by
      obtain ⟨o, e⟩ := F.va b hv
      by_cases q : b = oa i
      · subst q; obtain ⟨n, e⟩ := hp; exact ⟨_, e⟩
      · exact ⟨o, ex b o q e⟩
    wv := fun b w => F.wv b (hw b w) }
end

section
variable {prog : Program} {w : World} {A : Around} {g : Heap} {cx : Cx} {env : Env} {ρ : Rho} {oa : Nat → Addr} {V₀ : Addr → Prop} {E : Value → Shared → Prop}

noncomputable def NextP (g : Heap) (cx : Cx) (env : Env) (ρ : Rho) (oa : Nat → Addr) (V₀ : Addr → Prop) (s : Shared) (ρ' : Rho) (s' : Shared) : Prop :=
  (∃ h' tk, s' = { s with heap := h', toks := tk }) ∧ NextOK g cx env ρ oa V₀ s.heap s'.heap ρ'

/-- what an assignment to one name leaves -/
noncomputable def AsgOK (ρ : Rho) (i : Nat) (own : Bool) (Q : Out → Prop) (d : PyData) (t : Tag) : Prop :=
  match t, own, d with
  | .var _, _, _ => False
  | .fresh, true, .list l => Q (.next (ρ.set i (.ow l)))
  | _, _, d => Q (.next (ρ.set i (.fz d)))

theorem asg_cases {i : Nat} {own : Bool} {Q : Out → Prop} {d : PyData} {t : Tag} (h : AsgOK ρ i own Q d t) : (t.isVar = false ∧ Q (.next (ρ.set i (.fz d)))) ∨ (t = .fresh ∧ ∃ l, d = .list l ∧ Q (.next (ρ.set i (.ow l)))) := by
  unfold AsgOK at h
  split at h
  · exact h.elim
  · exact .inr ⟨rfl, _, rfl, h⟩
  · rename_i hn _
    cases t with
    | var j => exact (hn j rfl).elim
    | _ => exact .inl ⟨rfl, h⟩

theorem sound_put {s s₁ : Shared} {i : Nat} {x : Str} {own : Bool} {v : Value} {d : PyData} {t : Tag} {Q : Out → Prop} (F : Fm g s.heap cx env ρ oa (VV env ρ oa V₀)) (hx : cx.nms[i]? = some x) (N : env.kindOf x ≠ some .free) (k1 : Keeps s s₁)
    (r : Res (VV env ρ oa V₀) oa s.heap s₁.heap v d t) (h : AsgOK ρ i own Q d t) : wpAny (model prog w) A (storeName env x v) (fun _ s' => ∃ ρ', Q (.next ρ') ∧ NextP g cx env ρ oa V₀ s ρ' s') E s₁ := by
  have kh := kp_heap k1
  obtain ⟨h1, tk1, rfl, _⟩ := k1
  rcases asg_cases h with ⟨hv, q⟩ | ⟨rfl, l, rfl, q⟩
  · obtain ⟨as, rp, nv⟩ := r.old hv F.va
    refine wpAny_store (a' := oa i) (sl := .fz d) (F.ka kh) hx N ⟨as, rp, nv⟩ fun h' tk F' k => ?_
    have hw : ∀ b, Wr env (ρ.set i (.fz d)) (upd oa i (oa i)) b → Wr env ρ oa b := fun b w => (wr_set w).elim id fun ⟨_, q, _⟩ => by cases q
    exact ⟨_, q, ⟨h', tk, rfl⟩, _, F'.weak (fun b q => q.imp (hw b) id) (fun b q => .inl q), KB.trans' kh (fun b o e n => k b o e fun q => n q.wr), fun b q => .inl (hw b q)⟩
  · obtain ⟨a, l', vs, as, rfl, e, hn, p, rr, nv, na⟩ := r
    cases e
    have ha : ∃ o, h1.get? a = some o := let ⟨n, e⟩ := p; ⟨_, e⟩
    have Fa := F.avoid kh hn ha
    refine wpAny_store (a' := a) (sl := .ow l) Fa hx N ⟨rfl, ⟨vs, as, p, rr, fun b m q => ?_⟩, .inr rfl, F.top.none hn, fun j l' _ e q => ?_⟩ fun h' tk F' k => ?_
    · rcases q with q | rfl
      · exact nv b m q
      · exact na m
    · obtain ⟨o, e', _⟩ := F.wa (oa j) (.inr (.inr ⟨j, l', e, rfl⟩))
      rw [q, hn] at e'; cases e'
    · have hw : ∀ b, Wr env (ρ.set i (.ow l)) (upd oa i a) b → Wr env ρ oa b ∨ b = a := fun b w => (wr_set w).imp id fun ⟨_, _, q⟩ => q
      refine ⟨_, q, ⟨h', tk, rfl⟩, _, F'.weak (fun b q => ?_) (fun b q => .inl q), KB.trans' kh (fun b o e n => k b o e fun q => n q.wr), fun b q => (hw b q).imp id fun q' => by rw [q']; exact hn⟩
      rcases q with q | q
      · exact (hw b q).imp .inl id
      · exact .inl (.inr q)

/-- the same where the names of a comprehension are let go afterwards -/
theorem sound_put_use {s : Shared} {h1 : Heap} {tk1 : Nat} {i : Nat} {x : Str} {own : Bool} {D C : Addr} {ys : Array Value} {acc : List PyData} {as : List Addr} {m : Str → Option Value} {Q : Out → Prop} (F : Fm g s.heap cx env ρ oa (VV env ρ oa V₀)) (hx : cx.nms[i]? = some x) (N : env.kindOf x ≠ some .free)
    (hD : s.heap.get? D = none) (hC : s.heap.get? C = none) (hDC : D ≠ C) (ka : KA s.heap h1) (hm : h1.Ns C m) (hp : h1.PlainList D ys) (hr : RpAll h1 ys.toList acc as) (hn : ∀ b ∈ as, ¬ VV env ρ oa V₀ b ∧ b ≠ C ∧ b ≠ D) (h : AsgOK ρ i own Q (.list acc) .fresh) :
    wpAny (model prog w) A (storeName env x (.ref D)) (fun _ s'' => ∃ m, s''.heap.Ns C m ∧ ∀ h2, Heap.SameBut C s''.heap h2 → ∃ ρ', Q (.next ρ') ∧ NextP g cx env ρ oa V₀ s ρ' { s'' with heap := h2 }) E { s with heap := h1, toks := tk1 } := by
  have hCa : ∃ o, h1.get? C = some o := let ⟨o, _, _, e, _⟩ := hm; ⟨o, e⟩
  have hDa : ∃ o, h1.get? D = some o := let ⟨n, e⟩ := hp; ⟨_, e⟩
  have hV0C : ¬ VV env ρ oa V₀ C := fun q => by obtain ⟨o, e⟩ := F.va C q; rw [hC] at e; cases e
  have fin : ∀ (sl : Slot) (a' : Addr) (Y : Addr → Prop) (h' : Heap) (tk : Nat), (∀ b, Y b → b = C ∨ (b = D ∧ ∃ l, sl = .ow l)) → Y C → ((∃ l, sl = .ow l) → a' = D ∧ Y D) → Q (.next (ρ.set i sl)) →
      Fm g h' cx env (ρ.set i sl) (upd oa i a') (fun b => VV env ρ oa V₀ b ∨ Y b) → KB (Own env [x]) h1 h' →
      ∃ m, h'.Ns C m ∧ ∀ h2, Heap.SameBut C h' h2 → ∃ ρ', Q (.next ρ') ∧ NextP g cx env ρ oa V₀ s ρ' { s with heap := h2, toks := tk } := by
    intro sl a' Y h' tk hY hYC hYD q F' k
    have hw : ∀ b, Wr env (ρ.set i sl) (upd oa i a') b → Wr env ρ oa b ∨ (b = D ∧ ∃ l, sl = .ow l) := fun b w => (wr_set w).imp id fun ⟨l, e, q⟩ => ⟨q.trans (hYD ⟨l, e⟩).1, l, e⟩
    have nC : ¬ Wr env (ρ.set i sl) (upd oa i a') C := fun w => (hw C w).elim (fun q => hV0C (.inl q)) fun q => hDC q.1.symm
    have hm' : h'.Ns C m := hm.at' fun o e => k C o e fun q => hV0C (.inl q.wr)
    refine ⟨m, hm', fun h2 hs => ⟨_, q, ⟨h2, tk, rfl⟩, upd oa i a', ?_, ?_, ?_⟩⟩
    · have F2 := F'.change2 (X := fun b => b = C) (fun b o e n => hs.extBut b o n e) (fun b q => by subst q; exact ⟨.inr hYC, nC, F.top.none hC⟩) (fun b o q e => by subst q; exact ns_notT hm' o e)
      refine F2.weak (fun b q => ⟨?_, fun e => ?_⟩) (fun b q => .inl q)
      · rcases q with q | q
        · rcases hw b q with q | ⟨rfl, q⟩
          · exact .inl (.inl q)
          · exact .inr (hYD q).2
        · exact .inl (.inr q)
      · subst e
        rcases q with q | q
        · exact nC q
        · exact hV0C (.inr q)
    · exact fun b o e n => hs.extBut b o (fun q => by subst q; rw [hC] at e; cases e) (k b o (ka b o e) fun q => n q.wr)
    · exact fun b q => (hw b q).imp id fun q => by rw [q.1]; exact hD
  rcases asg_cases h with ⟨_, q⟩ | ⟨_, l, e, q⟩
  · have F1 := F.avoidS (Y := fun b => b = C) ka (fun b q => by rw [q]; exact hC) (fun b q => by rw [q]; exact hCa)
    obtain ⟨nn, hp'⟩ := id hp
    refine wpAny_store (a' := oa i) (sl := .fz (.list acc)) F1 hx N ⟨_, .list hp' hr, fun b mm q => ?_⟩ fun h' tk F' k => fin _ _ _ h' tk (fun b q => .inl q) rfl (fun ⟨l, e⟩ => by cases e) q F' k
    rcases List.mem_cons.mp mm with rfl | mm
    · rcases q with q | q
      · obtain ⟨o, e⟩ := F.va _ q; rw [hD] at e; cases e
      · exact hDC q
    · rcases q with q | q
      · exact (hn b mm).1 q
      · exact (hn b mm).2.1 q
  · cases e
    have F1 := F.avoidS (Y := fun b => b = C ∨ b = D) ka (fun b q => by rcases q with rfl | rfl <;> assumption) (fun b q => by rcases q with rfl | rfl <;> assumption)
    refine wpAny_store (a' := D) (sl := .ow acc) F1 hx N ⟨rfl, ⟨ys, as, hp, hr, fun b mm q => ?_⟩, .inr (.inr rfl), F.top.none hD, fun j l' _ e q => ?_⟩ fun h' tk F' k => fin _ _ _ h' tk (fun b q => q.imp id fun q => ⟨q, _, rfl⟩) (.inl rfl) (fun _ => ⟨rfl, .inr rfl⟩) q F' k
    · rcases q with q | q | q
      · exact (hn b mm).1 q
      · exact (hn b mm).2.1 q
      · exact (hn b mm).2.2 q
    · obtain ⟨o, e', _⟩ := F.wa (oa j) (.inr (.inr ⟨j, l', e, rfl⟩))
      rw [q, hD] at e'; cases e'
end
end

section
set_option Elab.async false
open PySem PySem.Spec PyProof.Rows PySem.Calls

section
variable {prog : Program} {w : World} {T : Table} {fs : Fs} {mg mb : Str → Option Value} {n : Nat}

theorem swaps_name {k : Nat} {cx : Cx} {v : Expr} {pe : PE} (hc : cE k cx v = some pe) (x : Str) (px : Pos) (line : Nat) (env : Env) :
    (∃ elt gens sc p, v = .ListComp elt gens sc p ∧ swapsWith v (some (.Name x px)) line env = pure true) ∨ swapsWith v (some (.Name x px)) line env = pure false := by
  cases v with
  | ListComp elt gens sc p =>
    cases b : (env.blockKind == .function && env.kindOf x == some .local && px.line == (Expr.ListComp elt gens sc p).pos.line && !(sc.names.any fun (n, k) => n == x && (k == .local || k == .cell))) with
    | true => exact .inl ⟨elt, gens, sc, p, rfl, by rw [← b]; rfl⟩
    | false => exact .inr (by rw [← b]; rfl)
  | SetComp => cases k <;> cases hc
  | DictComp => cases k <;> cases hc
  | _ => exact .inr rfl
theorem swaps_tup {v : Expr} (es : List Expr) (kk : Nat) (p : Pos) (line : Nat) (env : Env) : swapsWithSole [.Tuple es kk p] v line env = pure false := by cases v <;> rfl
theorem swapped_no {v : Expr} (es : List Expr) (kk : Nat) (p : Pos) (env : Env) (h : ∀ a b c, v ≠ .Tuple a b c) : swappedStores [.Tuple es kk p] v env = pure none := by
  cases v <;> first | rfl | exact (h _ _ _ rfl).elim

theorem wr_setAll {env : Env} {oa : Nat → Addr} {b : Addr} : ∀ {is : List Nat} {ps : List PyData} {ρ : Rho}, Wr env (setAll ρ is ps) oa b → Wr env ρ oa b
  | [], _, ρ, w => by unfold setAll at w; exact w
  | _ :: _, [], ρ, w => by unfold setAll at w; exact w
  | i :: is, d :: ds, ρ, w => by
    unfold setAll at w
    have w' := wr_setAll w
    have w'' : Wr env (ρ.set i (.fz d)) (upd oa i (oa i)) b := by rw [upd_self]; exact w'
    exact (wr_set w'').elim id fun ⟨_, q, _⟩ => by cases q

theorem Res.mono {V V' : Addr → Prop} {oa oa' : Nat → Addr} {h h' : Heap} {v : Value} {d : PyData} {t : Tag} (r : Res V oa h h' v d t) (ht : t.isVar = false) (hv : ∀ b, V' b → V b) : Res V' oa' h h' v d t := by
  cases t with
  | old => obtain ⟨as, x, n⟩ := r; exact ⟨as, x, fun b m q => n b m (hv b q)⟩
  | fresh => obtain ⟨a, l, vs, as, e1, e2, hn, p, r, n, q⟩ := r; exact ⟨a, l, vs, as, e1, e2, hn, p, r, fun b m q => n b m (hv b q), q⟩
  | var i => cases ht
theorem retT_var (t : Tag) : (retT t).isVar = false := by cases t <;> rfl

/-- a value just made, as a result of the frame -/
theorem res_ret {g h h' : Heap} {cx : Cx} {env : Env} {ρ : Rho} {oa : Nat → Addr} {V₀ : Addr → Prop} {v : Value} {d : PyData} {t : Tag} (F : Fm g h cx env ρ oa (VV env ρ oa V₀)) (hi : retOk ρ t) (r : Res (VV env ρ oa V₀) oa h h' v d t) : Res V₀ (fun _ => 0) g h' v d (retT t) := by
  cases t with
  | old => exact r.mono (t := .old) (oa' := fun _ => 0) rfl fun b q => .inr q
  | fresh => exact (r.base F.top).mono (t := .fresh) (oa' := fun _ => 0) rfl fun b q => .inr q
  | var i =>
    have hi' : ∃ l0, ρ[i]? = some (.ow l0) := by
      simp only [retOk] at hi
      split at hi
      · exact ⟨_, by assumption⟩
      · exact hi.elim
    obtain ⟨l0, hi⟩ := hi'
    obtain ⟨l, vs, as, rfl, rfl, p, rr, n⟩ := r
    have hw : Wr env ρ oa (oa i) := .inr (.inr ⟨i, l0, hi, rfl⟩)
    exact ⟨oa i, l, vs, as, rfl, rfl, F.new _ hw, p, rr, fun b m q => n b m (.inr q), fun m => n _ m (.inl hw)⟩

theorem brP_is {d : PyData} {P R : Prop} (h : brP d P R) : ∃ b, d = .bool b := by
  cases d <;> first | exact ⟨_, rfl⟩ | exact h.elim

section
variable {cx : Cx} {A : Around} {g : Heap} {env : Env} {ρ : Rho} {oa : Nat → Addr} {V₀ : Addr → Prop} {k : Nat} {s : Shared} {Q : Out → Prop}

theorem out_next {s' : Shared} {ρ' : Rho} (q : Q (.next ρ')) (p : NextP g cx env ρ oa V₀ s ρ' s') : OutP g cx env ρ oa V₀ s Q .next s' := ⟨_, q, p.1, rfl, p.2⟩

theorem sound_assign (IHE : ∀ m, m ≤ n → SE prog w T fs mg mb m) (hf : cx.fs = fs) (hR : Room A n) (G : Gw T fs mg mb g) (N : NF cx env) (F : Fm g s.heap cx env ρ oa (VV env ρ oa V₀)) {x : Str} {px pos : Pos} {v : Expr} {pe : PE} {i : Nat} {own : Bool}
    (hi : slotOf cx.nms x = some i) (hc : cE k cx v = some pe) (h : (lev T n).E ρ pe (AsgOK ρ i own Q)) : wpAny (model prog w) A (exec (.Assign [.Name x px] v pos) env) (OutP g cx env ρ oa V₀ s Q) NoE s := by
  have hx := slotOf_get hi
  have nf := N x (List.mem_of_getElem? hx)
  rcases swaps_name hc x px pos.line env with ⟨elt, gens, sc, p, rfl, hs⟩ | hs
  · rw [exec_Assign_Name_used _ _ _ _ hs]
    refine wpAny_bind (wpAny_standAt (wpAny_bind ?_))
    cases k with
    | zero => cases hc
    | succ k' =>
    obtain ⟨target, iter, ifs, tg, caps, pi, pelt, pcs, rfl, htg, hsc, ho, hsl, hci, hce, hcc, rfl⟩ := cComp_is (f := cE k') hc
    cases n with
    | zero => exact h.elim
    | succ n =>
      obtain ⟨cs, hcap, h⟩ := h
      show wpAny _ _ (do let _ ← comprehension (.ListComp elt [⟨target, iter, ifs, 0⟩] sc p) sc env iter.pos (newList []) false (eval iter env) (some (assign (.Name x px) env))) _ _ _
      refine wpAny_bind (wpAny_mono (sound_compr (p' := iter.pos) (pos := p) (use := some (assign (.Name x px) env)) (n := n) (Qf := fun l => AsgOK ρ i own Q (.list l) .fresh) (Q := fun _ s' => ∃ ρ', Q (.next ρ') ∧ NextP g cx env ρ oa V₀ s ρ' s') hf (fun m hm => IHE m (Nat.le_succ_of_le hm)) (hR.le (Nat.le_succ n)) G F htg ho hsc hsl hcap hci hce hcc h ?_) (fun _ s' p => ?_) fun _ _ x => x)
      · intro D C h' tk ys acc as m hD hC hDC ka hm hp hr hn hq
        exact wpAny_assign_Name (sound_put_use F hx nf hD hC hDC ka hm hp hr hn hq)
      · obtain ⟨ρ', q, p⟩ := p
        exact wpAny_pure (wpAny_pure (out_next q p))
  · refine wpAny_Assign_Name (wpAny_mono (IHE n (Nat.le_refl n) k cx v pe A g s env ρ oa _ _ hf hc hR G F h) (fun val s₁ p => ?_) fun _ _ x => x) hs
    obtain ⟨d, t, q, k1, r⟩ := p
    refine wpAny_mono (sound_put F hx nf k1 r q) (fun _ s' p => ?_) fun _ _ x => x
    obtain ⟨ρ', q, p⟩ := p
    exact out_next q p

theorem sound_unpack (IHE : SE prog w T fs mg mb n) (hf : cx.fs = fs) (hR : Room A n) (G : Gw T fs mg mb g) (N : NF cx env) (F : Fm g s.heap cx env ρ oa (VV env ρ oa V₀)) {t1 t2 : Expr} {ts : List Expr} {kk : Nat} {tp pos : Pos} {v : Expr} {pe : PE} {xs : List Str} {is : List Nat}
    (hv : ∀ a b c, v ≠ .Tuple a b c) (hn : namesOf (t1 :: t2 :: ts) = some xs) (hi : slotsOf cx.nms xs = some is) (hc : cE k cx v = some pe)
    (h : (lev T n).E ρ pe fun d t => t.isVar = false ∧ ∃ ps, parts is.length d = some ps ∧ Q (.next (setAll ρ is ps))) : wpAny (model prog w) A (exec (.Assign [.Tuple (t1 :: t2 :: ts) kk tp] v pos) env) (OutP g cx env ρ oa V₀ s Q) NoE s := by
  refine Assign_Tuple (wpAny_mono (IHE k cx v pe A g s env ρ oa _ _ hf hc hR G F h) (fun val s₁ p => ?_) fun _ _ x => x) (swaps_tup _ _ _ _ _) (swapped_no _ _ _ _ hv)
  obtain ⟨d, t, ⟨ht, ps, hp, q⟩, k1, r⟩ := p
  obtain ⟨as, rp, nv⟩ := r.old ht F.va
  have nf : ∀ x ∈ xs, env.kindOf x ≠ some .free := fun x hx => by
    obtain ⟨_, s2⟩ := slotsOf_get hi
    obtain ⟨j, hj, e⟩ := List.getElem_of_mem hx
    obtain ⟨i, _, e2⟩ := s2 j x (by rw [List.getElem?_eq_getElem hj, e])
    exact N x (List.mem_of_getElem? e2)
  have kh := kp_heap k1
  obtain ⟨h1, tk1, rfl, _⟩ := k1
  refine sound_bind (tg := xs) hR.1 hn hi nf (F.ka kh) (bindOK_rp rp nv hp) fun h' tk F' k' => ?_
  exact out_next q ⟨⟨h', tk, rfl⟩, oa, F'.weak (fun b q => q.imp wr_setAll id) (fun b q => .inl q), KB.trans' kh (fun b o e n => k' b o e fun q => n q.wr), fun b q => .inl (wr_setAll q)⟩

theorem bindName_two {s : Shared} {i j : Nat} {x y : Str} {v u : Value} {d e : PyData} {V : Addr → Prop} {as bs : List Addr} {E : Value → Shared → Prop} {R : Unit → Shared → Prop} (F : Fm g s.heap cx env ρ oa V) (hx : cx.nms[i]? = some x) (hy : cx.nms[j]? = some y) (nx : env.kindOf x ≠ some .free) (ny : env.kindOf y ≠ some .free)
    (r1 : Rp s.heap v d as) (n1 : ∀ b ∈ as, ¬ V b) (r2 : Rp s.heap u e bs) (n2 : ∀ b ∈ bs, ¬ V b)
    (hq : ∀ h' tk, Fm g h' cx env ((ρ.set i (.fz d)).set j (.fz e)) oa V → KB (Own env [x, y]) s.heap h' → R () { s with heap := h', toks := tk }) :
    wpAny (model prog w) A (assignInOrder [fun v => bindName env x v, fun v => bindName env y v] [v, u]) R E s := by
  show wpAny (model prog w) A (holding _ (bindName env x v) >>= fun _ => (holding _ (bindName env y u) >>= fun _ => pure ())) _ _ _
  refine wpAny_bind (wpAny_holding (bindName_ (wpAny_store (a' := oa i) (sl := .fz d) F hx nx ⟨as, r1, n1⟩ fun h' tk F' k => ?_)))
  rw [upd_self] at F'
  have r2' : Rp h' u e bs := reads_frz r2 fun b o e' c => k b o e' fun w => by
    have hw : Wr env ρ oa b := w.wr
    rcases c with c | c
    · obtain ⟨o', e'', nt⟩ := F.wa b hw
      rw [e'] at e''; cases e''; exact nt c
    · exact n2 b c (F.wv b hw)
  refine wpAny_bind (wpAny_holding (bindName_ (wpAny_store (a' := oa j) (sl := .fz e) F' hy ny ⟨bs, r2', n2⟩ fun h'' tk' F'' k' => wpAny_pure ?_)))
  rw [upd_self] at F''
  exact hq h'' tk' F'' (KB.trans (k.own (by simp)) (k'.own (by simp)))

theorem swapped_two {x y : Str} {p1 p2 p3 p4 : Pos} {k1 k2 : Nat} {a b : Expr} (env : Env) (hns : (∀ q r, a ≠ .Starred q r) ∧ ∀ q r, b ≠ .Starred q r) (hcon : ([a, b].all (constantsAlone 8) && !([a, b].all (foldedForSure 8))) = false) :
    ∃ r, swappedStores [.Tuple [.Name x p1, .Name y p2] k1 p3] (.Tuple [a, b] k2 p4) env = pure r ∧ (r = none ∨ r = some [x, y]) := by
  unfold swappedStores
  dsimp only
  split
  · exact ⟨none, rfl, .inl rfl⟩
  · split
    · exact ⟨none, rfl, .inl rfl⟩
    · split
      · exact ⟨none, rfl, .inl rfl⟩
      · rename_i c
        split
        · exact ⟨none, rfl, .inl rfl⟩
        · rename_i c4
          split
          · rename_i c5; rw [c5] at hcon; simp at hcon; simp at c4; exact absurd hcon.2 (by simpa [hcon.1] using c4)
          · refine ⟨_, rfl, .inr ?_⟩
            simp only [List.filterMap_cons, List.filterMap_nil] at c ⊢
            split at c
            · split at c <;> simp at c
            · split at c
              · simp at c
              · rename_i h1 _ _ h2
                split at h1
                · split at h2
                  · cases h1; cases h2; rfl
                  · cases h2
                · cases h1

theorem set_set_comm {ρ : Rho} {i j : Nat} {a b : Slot} (h : i ≠ j) : (ρ.set i a).set j b = (ρ.set j b).set i a := List.set_comm _ _ h

theorem sound_swap (IHE : SE prog w T fs mg mb n) (hf : cx.fs = fs) (hR : Room A n) (G : Gw T fs mg mb g) (N : NF cx env) (F : Fm g s.heap cx env ρ oa (VV env ρ oa V₀)) {x y : Str} {p1 p2 p3 p4 pos : Pos} {k1 k2 : Nat} {a b : Expr} {pa pb : PE} {i j : Nat}
    (hx : slotOf cx.nms x = some i) (hy : slotOf cx.nms y = some j) (hxy : x ≠ y) (hcon : ([a, b].all (constantsAlone 8) && !([a, b].all (foldedForSure 8))) = false) (hc : cList (cE k cx) [a, b] = some [pa, pb])
    (h : (lev T n).E ρ pa fun x t => (lev T n).E ρ pb fun y u => t.isVar = false ∧ u.isVar = false ∧ Q (.next ((ρ.set i (.fz x)).set j (.fz y)))) :
    wpAny (model prog w) A (exec (.Assign [.Tuple [.Name x p1, .Name y p2] k1 p3] (.Tuple [a, b] k2 p4) pos) env) (OutP g cx env ρ oa V₀ s Q) NoE s := by
  have hx' := slotOf_get hx
  have hy' := slotOf_get hy
  have nx := N x (List.mem_of_getElem? hx')
  have ny := N y (List.mem_of_getElem? hy')
  have hij : i ≠ j := fun e => by subst e; rw [hx'] at hy'; cases hy'; exact hxy rfl
  have hns : (∀ q r, a ≠ .Starred q r) ∧ ∀ q r, b ≠ .Starred q r := by
    obtain ⟨h1, _, _, _, h2, _⟩ := cList_cons hc
    exact ⟨h1, (cList_cons h2).1⟩
  -- the tuple made
  have ev : ∀ R : Value → Shared → Prop, (∀ (d e : PyData) (h1 : Heap) (tk : Nat) (v u : Value) (as bs : List Addr) (tp : Addr), Q (.next ((ρ.set i (.fz d)).set j (.fz e))) → KA s.heap h1 → Rp h1 v d as → (∀ b ∈ as, ¬ VV env ρ oa V₀ b) → Rp h1 u e bs → (∀ b ∈ bs, ¬ VV env ρ oa V₀ b) → h1.IsTuple tp #[v, u] → R (.ref tp) { s with heap := h1, toks := tk }) →
      wpAny (model prog w) A (eval (.Tuple [a, b] k2 p4) env) R NoE s := fun R hR' => by
    refine wpAny_Tuple_spliced (wpAny_mono (sound_evs IHE hf hR G [a, b] [pa, pb] s (Two fun x t y u => t.isVar = false ∧ u.isVar = false ∧ Q (.next ((ρ.set i (.fz x)).set j (.fz y)))) hc F h) (fun vs s₁ p => ?_) fun _ _ x => x)
    obtain ⟨r, hr, k1, rr⟩ := p
    obtain ⟨v, d, t, u, e, t2, rfl, r1, r2, h1, h2, q⟩ := shape2 rr hr
    obtain ⟨as, rp1, n1⟩ := r1.old h1 F.va
    obtain ⟨bs, rp2, n2⟩ := r2.old h2 F.va
    obtain ⟨hh, tk, rfl, kk⟩ := k1
    refine ⟨(show 2 ≤ sizeLine by decide), hR' d e _ tk v u as bs _ q (fun b o e => KA.push hh _ b o (kk b o e)) (rp1.keeps (KA.push _ _)) n1 (rp2.keeps (KA.push _ _)) n2 ⟨_, Heap.get?_push_size _ rfl, rfl, _, rfl⟩⟩
  have fin : ∀ (d e : PyData) (h1 h' : Heap) (tk : Nat) (V : Addr → Prop), V = VV env ρ oa V₀ → Q (.next ((ρ.set i (.fz d)).set j (.fz e))) → KA s.heap h1 → Fm g h' cx env ((ρ.set i (.fz d)).set j (.fz e)) oa V → KB (Own env [x, y]) h1 h' → OutP g cx env ρ oa V₀ s Q .next { s with heap := h', toks := tk } := by
    rintro d e h1 h' tk V rfl q ka F' kb
    have hw : ∀ b, Wr env ((ρ.set i (.fz d)).set j (.fz e)) oa b → Wr env ρ oa b := fun b w => wr_setAll (is := [i, j]) (ps := [d, e]) w
    exact out_next q ⟨⟨h', tk, rfl⟩, oa, F'.weak (fun b q => q.imp (hw b) id) (fun b q => .inl q), KB.trans' ka (fun b o e n => kb b o e fun q => n q.wr), fun b q => .inl (hw b q)⟩
  obtain ⟨r, hsw, hr⟩ := swapped_two (x := x) (y := y) (p1 := p1) (p2 := p2) (p3 := p3) (p4 := p4) (k1 := k1) (k2 := k2) env hns hcon
  rcases hr with rfl | rfl
  · refine Assign_Tuple (ev _ fun d e h1 tk v u as bs tp q ka rp1 n1 rp2 n2 hT => ?_) rfl hsw
    refine sound_bind (tg := [x, y]) (is := [i, j]) (ps := [d, e]) hR.1 rfl (by simp only [slotsOf, hx, hy, Option.bind_some]) (fun z hz => ?_) (F.ka ka) ⟨rfl, .inr ⟨(show 2 ≠ 1 by decide), tp, _, _, rfl, hT, .cons rp1 (.cons rp2 .nil), fun b m => ?_⟩⟩ fun h' tk' F' kb => fin d e h1 h' tk' _ rfl q ka F' kb
    · rcases List.mem_cons.mp hz with rfl | hz
      · exact nx
      · rw [List.mem_singleton.mp hz]; exact ny
    · simp only [List.append_nil] at m
      exact (List.mem_append.mp m).elim (n1 b) (n2 b)
  · refine Assign_Tuple_swapped (names := [x, y]) (ev _ fun d e h1 tk v u as bs tp q ka rp1 n1 rp2 n2 hT => ?_) rfl hsw
    show wpAny (model prog w) A (unpackItems (.ref tp) (#[v, u] : Array Value).size none) _ _ _
    refine wpAny_unpackItems_tuple (items := #[v, u]) hR.1 hT fun h2 hx2 => ?_
    show wpAny (model prog w) A (assignInOrder [fun v => bindName env y v, fun v => bindName env x v] [u, v]) _ _ _
    have k2 : KA h1 h2 := fun b o e => hx2 b o (Nat.ne_of_lt (Heap.lt_size e)) e
    refine bindName_two (x := y) (y := x) ((F.ka ka).ka k2) hy' hx' ny nx (rp2.keeps k2) n2 (rp1.keeps k2) n1 fun h' tk' F' kb => ?_
    rw [← set_set_comm hij] at F'
    exact fin d e h2 h' tk' _ rfl q (ka.trans k2) F' (kb.own (by simp))

/-- the frame's list at a slot, changed in place -/
theorem out_own {s₁ : Shared} {i : Nat} {l l' : List PyData} {h1 h' : Heap} {tk : Nat} {vs' : Array Value} {as' : List Addr} (F1 : Fm g h1 cx env ρ oa (VV env ρ oa V₀)) (ka : KA s.heap h1) (hi : ρ[i]? = some (.ow l)) (hs : Heap.SameBut (oa i) h1 h') (hp : h'.PlainList (oa i) vs') (hr : RpAll h1 vs'.toList l' as') (hn : ∀ b ∈ as', ¬ VV env ρ oa V₀ b)
    (q : Q (.next (ρ.set i (.ow l')))) (e : s₁ = { s with heap := h', toks := tk }) : OutP g cx env ρ oa V₀ s Q .next s₁ := by
  subst e
  have hw : ∀ b, Wr env (ρ.set i (.ow l')) oa b → Wr env ρ oa b := fun b w => by
    have w' : Wr env (ρ.set i (.ow l')) (upd oa i (oa i)) b := by rw [upd_self]; exact w
    rcases wr_set w' with q | ⟨_, _, rfl⟩
    · exact q
    · exact .inr (.inr ⟨i, l, hi, rfl⟩)
  exact out_next q ⟨⟨h', tk, rfl⟩, oa, (F1.own hi hs hp hr hn).weak (fun b q => q.imp (hw b) id) (fun b q => .inl q), fun b o e n => hs.extBut b o (fun q => n (q ▸ .inr (.inr ⟨i, l, hi, rfl⟩))) (ka b o e), fun b q => .inl (hw b q)⟩

theorem slot_get {h : Heap} {V : Addr → Prop} {i : Nat} {l : List PyData} (F : Fm g h cx env ρ oa V) (hi : ρ[i]? = some (.ow l)) : ∃ vs as, h.PlainList (oa i) vs ∧ RpAll h vs.toList l as ∧ ∀ b ∈ as, ¬ V b := by
  have hil : i < ρ.length := by
    rcases Nat.lt_or_ge i ρ.length with q | q
    · exact q
    · rw [List.getElem?_eq_none q] at hi; cases hi
  exact (F.val i _ _ (List.getElem?_eq_getElem (by rw [← F.len]; exact hil)) hi).2

theorem plain_update {h : Heap} {l : Addr} {vs : Array Value} {n : Nat} (f : Array Value → Array Value) (e : h.get? l = some { cls := .type "list", data := .seq vs n }) : (h.update l (Obj.mapSeq f)).PlainList l (f vs) := by
  obtain ⟨n', hd'⟩ := Obj.data_mapSeq (o := { cls := .type "list", data := .seq vs n }) rfl f
  refine ⟨n', (Heap.get?_update_self _ e (Obj.isFreed_of_seq hd')).trans ?_⟩
  unfold Obj.mapSeq at hd' ⊢
  simp only at hd' ⊢
  cases hd'
  rfl
end
end
end

section
set_option Elab.async false
open PySem PySem.Spec PyProof.Rows PySem.Calls

section
variable {prog : Program} {w : World} {T : Table} {fs : Fs} {mg mb : Str → Option Value} {n : Nat} {cx : Cx} {A : Around} {g : Heap} {env : Env} {ρ : Rho} {oa : Nat → Addr} {V₀ : Addr → Prop} {k : Nat} {s : Shared} {Q : Out → Prop}

theorem sound_app (IHE : SE prog w T fs mg mb n) (hf : cx.fs = fs) (hR : Room A n) (G : Gw T fs mg mb g) (F : Fm g s.heap cx env ρ oa (VV env ρ oa V₀)) {x : Str} {px ap cp pos : Pos} {e : Expr} {pe : PE} {i : Nat}
    (hx : slotOf cx.nms x = some i) (hc : cE k cx e = some pe) (hl : (ap.endLine == cp.line) = true) (h : (lev T (n + 1)).S (.app i pe) ρ Q) :
    wpAny (model prog w) A (exec (.Expr (.Call (.Attribute (.Name x px) (Str.ofString "append") ap) [e] [] cp) pos) env) (OutP g cx env ρ oa V₀ s Q) NoE s := by
  rw [S_app] at h
  cases c : ρ[i]? with
  | none => rw [c] at h; exact h.elim
  | some sl =>
    rw [c] at h
    cases sl with
    | un => exact h.elim
    | fz d => exact h.elim
    | ow l =>
      refine wpAny_Expr (wpAny_meth (id := "list.append") hc hl PySem.F.slot_list_append PySem.F.type_list_append ?_) (by simp [interactive, F.hk]) rfl
      refine wpAny_mono (sound_var (Q := fun d t => d = .list l ∧ t = .var i) F (slotOf_get hx) (by rw [c]; exact ⟨rfl, rfl⟩)) (fun ov s₁ p => ?_) fun _ _ x => x
      obtain ⟨d1, t1, ⟨rfl, rfl⟩, k1, r1⟩ := p
      have F1 := F.ka (kp_heap k1)
      obtain ⟨vs0, as0, p0, _, _⟩ := slot_get F1 c
      obtain ⟨_, _, _, rfl, _, _⟩ := r1
      refine ⟨oa i, vs0, rfl, p0, PySem.P.append_list (wpAny_mono (IHE k cx e pe A g s₁ env ρ oa _ _ hf hc hR G F1 h) (fun val s₂ p => ?_) fun _ _ x => x)⟩
      obtain ⟨d, t, ⟨ht, hz, q⟩, k2, r⟩ := p
      have F2 := F1.ka (kp_heap k2)
      obtain ⟨as, rp, nv⟩ := r.old ht F1.va
      obtain ⟨vs, as2, ⟨nn, pl⟩, rr, nv2⟩ := slot_get F2 c
      have hlen := rr.len
      rw [Array.length_toList] at hlen
      refine ⟨vs, nn, by omega, pl, ?_⟩
      obtain ⟨cs, rs, hcs⟩ := rr.append (.cons rp .nil)
      have kk2 := kp_trans k1 k2
      have ka2 := kp_heap kk2
      obtain ⟨h2, tk2, rfl, _⟩ := kk2
      refine out_own (s := s) (l' := l ++ [d]) (as' := cs) F2 ka2 c (Heap.SameBut.update ..) (plain_update (fun xs => xs.push val) pl) (by simpa using rs) (fun b m => (hcs b m).elim (nv2 b) fun q => nv b (by simpa using q)) q rfl

theorem sound_ret (IHE : SE prog w T fs mg mb n) (hf : cx.fs = fs) (hR : Room A n) (G : Gw T fs mg mb g) (F : Fm g s.heap cx env ρ oa (VV env ρ oa V₀)) {e : Expr} {pe : PE} {pos : Pos} (hc : cE k cx e = some pe) (h : (lev T n).E ρ pe fun d t => retOk ρ t ∧ Q (.ret d t)) :
    wpAny (model prog w) A (exec (.Return (some e) pos) env) (OutP g cx env ρ oa V₀ s Q) NoE s := by
  refine wpAny_Return_some (wpAny_mono (IHE k cx e pe A g s env ρ oa _ _ hf hc hR G F h) (fun v s₁ p => ?_) fun _ _ x => x)
  obtain ⟨d, t, ⟨ho, q⟩, k1, r⟩ := p
  obtain ⟨h1, tk1, rfl, ka⟩ := k1
  exact ⟨_, q, ⟨h1, tk1, rfl⟩, v, rfl, F.top.trans ka, res_ret F ho r⟩

theorem sound_if (IHE : ∀ m, m ≤ n → SE prog w T fs mg mb m) (hS : SS prog w T fs mg mb n) (hf : cx.fs = fs) (hR : Room A n) (G : Gw T fs mg mb g) (N : NF cx env) (F : Fm g s.heap cx env ρ oa (VV env ρ oa V₀)) {c : Expr} {pc : PE} {a b : List Stmt} {pa pb : List PS} {pos : Pos}
    (hc : cE k cx c = some pc) (ha : cB (cS k cx) a = some pa) (hb : cB (cS k cx) b = some pb) (h : (lev T n).E ρ pc fun d _ => brP d (blk (lev T n).S pa ρ Q) (blk (lev T n).S pb ρ Q)) :
    wpAny (model prog w) A (exec (.If c a b pos) env) (OutP g cx env ρ oa V₀ s Q) NoE s := by
  refine wpAny_If (wpAny_mono (sound_true hf G n k c pc s _ IHE hR hc F h fun d t q => brP_is q) (fun x s₁ p => ?_) fun _ _ x => x)
  obtain ⟨t, q, k1⟩ := p
  have F1 := F.ka (kp_heap k1)
  cases x with
  | true => exact wpAny_mono (sound_blk hS hf hR G N a pa s₁ ρ oa Q ha F1 (q.1 rfl)) (fun _ _ p => p.keeps k1) fun _ _ x => x
  | false => exact wpAny_mono (sound_blk hS hf hR G N b pb s₁ ρ oa Q hb F1 (q.2 rfl)) (fun _ _ p => p.keeps k1) fun _ _ x => x

inductive WhInv (T : Table) (n : Nat) (cx : Cx) (g : Heap) (env : Env) (ρ : Rho) (oa : Nat → Addr) (V₀ : Addr → Prop) (pc : PE) (pa : List PS) (Q : Out → Prop) (s : Shared) (m : Nat) (s' : Shared) : Prop
  | mk (ρ' : Rho) (oa' : Nat → Addr) (h : whlGo (lev T n).E (lev T n).S pc pa m ρ' Q) (F : Fm g s'.heap cx env ρ' oa' (VV env ρ' oa' V₀)) (hs : ∃ h' tk, s' = { s with heap := h', toks := tk }) (kb : KB (Wr env ρ oa) s.heap s'.heap) (hw : ∀ b, Wr env ρ' oa' b → Wr env ρ oa b ∨ s.heap.get? b = none)

theorem sound_while (IHE : ∀ m, m ≤ n → SE prog w T fs mg mb m) (hS : SS prog w T fs mg mb n) (hf : cx.fs = fs) (hR : Room A n) (G : Gw T fs mg mb g) (N : NF cx env) (F : Fm g s.heap cx env ρ oa (VV env ρ oa V₀)) {c : Expr} {pc : PE} {a : List Stmt} {pa : List PS} {pos : Pos}
    (hc : cE k cx c = some pc) (ha : cB (cS k cx) a = some pa) (h : ∃ kk, whlGo (lev T n).E (lev T n).S pc pa kk ρ Q) :
    wpAny (model prog w) A (exec (.While c a [] pos) env) (OutP g cx env ρ oa V₀ s Q) NoE s := by
  obtain ⟨kk, h⟩ := h
  refine wpAny_While (codeAny_whileLoop (WhInv T n cx g env ρ oa V₀ pc pa Q s) ?_ kk
    ⟨ρ, oa, h, F, ⟨s.heap, s.toks, rfl⟩, fun b o e _ => e, fun b q => .inl q⟩)
  rintro m s' ⟨ρ', oa', h, F', hs, kb, hw⟩
  cases m with
  | zero => exact h.elim
  | succ m =>
    refine wpAny_mono (sound_true hf G n k c pc s' _ IHE hR hc F' h fun d t q => brP_is q) (fun x s₁ p => ?_) fun _ _ x => x.elim
    obtain ⟨t, q, k1⟩ := p
    have F1 := F'.ka (kp_heap k1)
    cases x with
    | true =>
      refine wpAny_mono (sound_blk hS hf hR G N a pa s₁ ρ' oa' _ ha F1 (q.1 rfl)) (fun f s₂ p => ?_) fun _ _ x => x.elim
      obtain ⟨o, q, ok⟩ := p.keeps k1
      have ok' := OutOK.trans hs kb hw ok
      obtain ⟨hs', ok'⟩ := ok'
      cases o with
      | next ρ'' =>
        obtain ⟨rfl, oa'', F'', kb', hw'⟩ := ok'
        exact ⟨m, Nat.lt_succ_self m, ρ'', oa'', q, F'', hs', kb', hw'⟩
      | ret d t =>
        obtain ⟨v, rfl, ok'⟩ := ok'
        exact ⟨_, q, hs', v, rfl, ok'⟩
    | false =>
      refine wpAny_execs_nil ⟨_, q.2 rfl, OutOK.trans hs kb hw (OutOK.keeps k1 ⟨⟨s₁.heap, s₁.toks, rfl⟩, rfl, next_self F1⟩)⟩
end
end

section
set_option Elab.async false
open PySem PySem.Spec PyProof.Rows PySem.Calls

section
variable {prog : Program} {w : World} {T : Table} {fs : Fs} {mg mb : Str → Option Value} {n : Nat} {cx : Cx} {A : Around} {g : Heap} {env : Env} {ρ : Rho} {oa : Nat → Addr} {V₀ : Addr → Prop} {k : Nat} {s : Shared} {Q : Out → Prop}

inductive ForInv (T : Table) (n : Nat) (cx : Cx) (g : Heap) (env : Env) (ρ : Rho) (oa : Nat → Addr) (V₀ : Addr → Prop) (is : List Nat) (pa : List PS) (vs : List Value) (n' : Nat) (wr : List Addr) (St : Nat → Heap → Prop) (items ls : List PyData) (asv : List Addr) (Q : Out → Prop) (s₂ : Shared) (kk : Nat) (s' : Shared) : Prop
  | mk (h' : Heap) (tk i : Nat) (ρ' : Rho) (oa' : Nat → Addr) (e : s' = { s₂ with heap := h', toks := tk }) (F : Fm g h' cx env ρ' oa' (VV env ρ' oa' fun b => V₀ b ∨ b ∈ wr)) (st : St i h') (hi : i ≤ n') (hk : kk = n' + 1 - i) (rv : RpAll h' vs ls asv)
      (kb : KB (fun b => Wr env ρ oa b ∨ b ∈ wr) s₂.heap h') (hw : ∀ b, Wr env ρ' oa' b → Wr env ρ oa b ∨ s₂.heap.get? b = none) (go : forGo (lev T n).S is pa (items.drop i) ρ' Q)

theorem sound_for (IHE : SE prog w T fs mg mb n) (hS : SS prog w T fs mg mb n) (hf : cx.fs = fs) (hR : Room A n) (G : Gw T fs mg mb g) (N : NF cx env) (F : Fm g s.heap cx env ρ oa (VV env ρ oa V₀)) {target iter : Expr} {tg : List Str} {is : List Nat} {pi : PE} {a : List Stmt} {pa : List PS} {pos : Pos}
    (htg : targetOf target = some tg) (hsl : slotsOf cx.nms tg = some is) (ho : headOk (iterOf cx iter).1 tg = true) (hci : cE k cx (iterOf cx iter).2 = some pi) (ha : cB (cS k cx) a = some pa)
    (h : (lev T n).E ρ pi fun d t => t.isVar = false ∧ itemsP (iterOf cx iter).1 d fun items => forGo (lev T n).S is pa items ρ Q) :
    wpAny (model prog w) A (exec (.For target iter a [] pos) env) (OutP g cx env ρ oa V₀ s Q) NoE s := by
  have te := target_enum htg ho
  have nf : ∀ x ∈ tg, env.kindOf x ≠ some .free := fun x hx => by
    obtain ⟨_, s2⟩ := slotsOf_get hsl
    obtain ⟨j, hj, e⟩ := List.getElem_of_mem hx
    obtain ⟨i, _, e2⟩ := s2 j x (by rw [List.getElem?_eq_getElem hj, e])
    exact N x (List.mem_of_getElem? e2)
  refine wpAny_For (sound_src (target := target) (C := fun t => t.isVar = false) (Qi := fun items => forGo (lev T n).S is pa items ρ Q) IHE hf hR G F hci (fun e => (te e).2) h ?_) (iter_notSet hci env)
  intro I s₂ vs n' fp wr Md St items ls asv t X hgo htv hrel hsz hrv hna hnwr hfp
  have k2 := kp_heap X.kp
  have Tr := X.T
  have hlen := hrel.len
  -- the addresses the source reads are none that the frame writes
  have wrAl : ∀ b ∈ wr, ∃ o, s₂.heap.get? b = some o := fun b hb => let ⟨o, e, _⟩ := Tr.al 0 _ X.st b hb; ⟨o, e⟩
  have wrNW : ∀ b ∈ wr, ¬ Wr env ρ oa b := fun b hb q => by obtain ⟨o, e, _⟩ := F.wa b q; rw [X.new b hb] at e; cases e
  have fpAl : ∀ b ∈ fp, ∃ o, s₂.heap.get? b = some o := fun b hb => (hfp b hb).elim (wrAl b) fun ⟨o, e, _⟩ => ⟨o, e⟩
  have F2 := F.ka k2
  have fpNW : ∀ b ∈ fp, ¬ Wr env ρ oa b := fun b hb q => by
    rcases hfp b hb with c | ⟨o, e, c | c⟩
    · exact wrNW b c q
    · obtain ⟨o', e', nt⟩ := F2.wa b q; rw [e] at e'; cases e'; exact nt c
    · exact c htv (.inl q)
  have F0 : Fm g s₂.heap cx env ρ oa (VV env ρ oa fun b => V₀ b ∨ b ∈ wr) := (F.avoidS (Y := fun b => b ∈ wr) k2 X.new wrAl).weak (fun b q => q.elim (fun q => .inl (.inl q)) fun q => q.elim (fun q => .inl (.inr q)) .inr) (fun b q => .inl q)
  have later : ∀ {ρ' : Rho} {oa' : Nat → Addr}, (∀ b, Wr env ρ' oa' b → Wr env ρ oa b ∨ s₂.heap.get? b = none) → ∀ b o, s₂.heap.get? b = some o → ¬ Wr env ρ oa b → ¬ Wr env ρ' oa' b := fun hw b o e n q => (hw b q).elim n fun q => by rw [q] at e; cases e
  refine codeAny_forLoop_any (ForInv T n cx g env ρ oa V₀ is pa vs n' wr St items ls asv Q s₂) ?_ (n' + 1)
    ⟨s₂.heap, s₂.toks, 0, ρ, oa, rfl, F0, X.st, Nat.zero_le _, rfl, hrv, fun _ _ e _ => e, fun b q => .inl q, by simpa using hgo⟩
  rintro kk s' ⟨h1, tk1, i, ρ', oa', rfl, F1, st1, hi, rfl, rv1, kb1, hw1, hgo⟩
  have alT : ∀ {j : Nat} {h : Heap}, St j h → ∀ b o, b ∈ wr → h.get? b = some o → ¬ IsT o := fun {j h} st b o hb e => by
    obtain ⟨o', e', nt⟩ := Tr.al j h st b hb
    rw [e] at e'; cases e'; exact nt
  have out : ∀ {s3 : Shared} {o : Out} {f : Flow}, Q o → OutOK g cx env ρ oa V₀ s₂ o f s3 → OutP g cx env ρ oa V₀ s Q f s3 := fun q ok => OutP.keeps X.kp ⟨_, q, ok⟩
  have kbs : ∀ {h' : Heap}, KB (fun b => Wr env ρ oa b ∨ b ∈ wr) s₂.heap h' → KB (Wr env ρ oa) s.heap h' := fun k b o e n => k b o (k2 b o e) fun q => q.elim n fun q => by rw [X.new b q] at e; cases e
  have hws : ∀ {ρ' : Rho} {oa' : Nat → Addr}, (∀ b, Wr env ρ' oa' b → Wr env ρ oa b ∨ s₂.heap.get? b = none) → ∀ b, Wr env ρ' oa' b → Wr env ρ oa b ∨ s.heap.get? b = none := fun hw b q => (hw b q).imp id fun q => k2.none q
  by_cases hlt : i < n'
  · obtain ⟨d, hd⟩ : ∃ d, items[i]? = some d := ⟨_, List.getElem?_eq_getElem (by rw [hlen]; exact hlt)⟩
    have hdrop : items.drop i = d :: items.drop (i + 1) := by
      obtain ⟨hi', e⟩ := List.getElem?_eq_some_iff.mp hd
      rw [← e]; exact List.drop_eq_getElem_cons hi'
    rw [hdrop] at hgo
    obtain ⟨ps, hps, hbody⟩ := hgo
    refine Tr.item i _ _ _ hlt st1 fun v h2 tk2 hMd kw1 => ?_
    refine Tr.go i v _ _ _ hMd fun h3 hIs st3 kw2 => ?_
    have kw : KB (· ∈ wr) h1 h3 := fun b o e nb => kw2 b o nb (kw1 b o nb e)
    have wrNW' : ∀ b ∈ wr, ¬ Wr env ρ' oa' b := fun b hb => let ⟨o, e⟩ := wrAl b hb; later hw1 b o e (wrNW b hb)
    have F3 : Fm g h3 cx env ρ' oa' (VV env ρ' oa' fun b => V₀ b ∨ b ∈ wr) := F1.change kw (fun b hb => ⟨.inr (.inr hb), wrNW' b hb, F.top.none (X.new b hb)⟩) (fun b o hb e => alT st1 b o hb e) fun b hb => let ⟨o, e, _⟩ := Tr.al _ _ st3 b hb; ⟨o, e⟩
    have nav : ∀ b ∈ asv, ¬ VV env ρ' oa' (fun b => V₀ b ∨ b ∈ wr) b := fun b m q => by
      obtain ⟨o, e⟩ := readsAll_alive hrv b m
      rcases q with q | q | q
      · exact later hw1 b o e (fun q => hna b m (.inl q)) q
      · exact hna b m (.inr q)
      · exact hnwr b m q
    have rv3 := readsAll_frz rv1 (frz_of kw (fun b o hb e => alT st1 b o hb e) fun b m q => hnwr b m q)
    have hbo : BindOK (VV env ρ' oa' fun b => V₀ b ∨ b ∈ wr) h3 v tg.length ps := bindOK_item hIs rv3 nav hrel hd (by rw [← slotsOf_len hsl]; exact hps) fun e => (te e).1
    refine sound_bind hR.1 htg hsl nf F3 (by rw [slotsOf_len hsl]; exact hbo) fun h4 tk4 F4 ko => ?_
    have kL : KB (Wr env ρ' oa') h3 h4 := fun b o e nb => ko b o e fun w => nb w.wr
    have F4' : Fm g h4 cx env (setAll ρ' is ps) oa' (VV env (setAll ρ' is ps) oa' fun b => V₀ b ∨ b ∈ wr) := F4.weak (fun b q => q.imp wr_setAll id) (fun b q => .inl q)
    have hw4 : ∀ b, Wr env (setAll ρ' is ps) oa' b → Wr env ρ oa b ∨ s₂.heap.get? b = none := fun b q => hw1 b (wr_setAll q)
    have fpW : ∀ {ρ' : Rho} {oa' : Nat → Addr}, (∀ b, Wr env ρ' oa' b → Wr env ρ oa b ∨ s₂.heap.get? b = none) → ∀ b ∈ fp, ¬ Wr env ρ' oa' b := fun hw b hb => let ⟨o, e⟩ := fpAl b hb; later hw b o e (fpNW b hb)
    have st4 : St (i + 1) h4 := Tr.frame _ _ _ st3 fun b hb o e => kL b o e (fpW hw1 b hb)
    have nT : ∀ {h : Heap} {ρ' : Rho} {oa' : Nat → Addr} {V : Addr → Prop}, Fm g h cx env ρ' oa' V → ∀ b o, Wr env ρ' oa' b → h.get? b = some o → ¬ IsT o := fun F b o q e => by
      obtain ⟨o', e', nt⟩ := F.wa b q; rw [e] at e'; cases e'; exact nt
    have rv4 := readsAll_frz rv3 (frz_of kL (nT F3) fun b m q => nav b m (.inl q))
    have kb4 : KB (fun b => Wr env ρ oa b ∨ b ∈ wr) s₂.heap h4 := fun b o e nb => kL b o (kw b o (kb1 b o e nb) fun q => nb (.inr q)) fun q => later hw1 b o e (fun q => nb (.inl q)) q
    refine wpAny_mono (sound_blk hS hf hR G N a pa _ (setAll ρ' is ps) oa' _ ha F4' hbody) (fun f s5 p => ?_) fun _ _ x => x.elim
    obtain ⟨o, q, ⟨h5, tk5, rfl⟩, ok⟩ := p
    cases o with
    | next ρ'' =>
      obtain ⟨rfl, oa'', F5, kb5, hw5⟩ := ok
      have hw5' : ∀ b, Wr env ρ'' oa'' b → Wr env ρ oa b ∨ s₂.heap.get? b = none := fun b q => by
        rcases hw5 b q with q | q
        · exact hw4 b q
        · by_cases c : Wr env ρ oa b
          · exact .inl c
          · refine .inr ?_
            cases e : s₂.heap.get? b with
            | none => rfl
            | some o =>
              by_cases c2 : b ∈ wr
              · obtain ⟨o', e', _⟩ := Tr.al _ _ st4 b c2
                exact absurd (show h4.get? b = none from q) (by rw [e']; simp)
              · have := kb4 b o e fun q => q.elim c c2
                exact absurd (show h4.get? b = none from q) (by rw [this]; simp)
      have nav4 : ∀ b ∈ asv, ¬ Wr env (setAll ρ' is ps) oa' b := fun b m q => nav b m (.inl (wr_setAll q))
      refine ⟨n' + 1 - (i + 1), by omega, h5, tk5, i + 1, ρ'', oa'', rfl, F5, Tr.frame _ _ _ st4 fun b hb o e => kb5 b o e (fpW hw4 b hb), by omega, rfl, readsAll_frz rv4 (frz_of kb5 (nT F4') nav4), fun b o e nb => kb5 b o (kb4 b o e nb) fun q => later hw4 b o e (fun q => nb (.inl q)) q, hw5', q⟩
    | ret d t =>
      obtain ⟨v, rfl, ka, rs⟩ := ok
      exact out (o := .ret d t) q ⟨⟨h5, tk5, rfl⟩, v, rfl, ka, rs.mono (retT_var t) fun b q => .inl q⟩
  · have hin : i = n' := by omega
    subst hin
    refine Tr.done _ _ _ st1 fun h2 tk2 kw => wpAny_execs_nil ?_
    have kw' : KB (· ∈ wr) h1 h2 := fun b o e nb => kw b o nb e
    rw [List.drop_eq_nil_of_le (by omega)] at hgo
    have wrNW' : ∀ b ∈ wr, ¬ Wr env ρ' oa' b := fun b hb => let ⟨o, e⟩ := wrAl b hb; later hw1 b o e (wrNW b hb)
    have F3 := F1.change2 kw' (fun b hb => ⟨.inr (.inr hb), wrNW' b hb, F.top.none (X.new b hb)⟩) (fun b o hb e => alT st1 b o hb e)
    have hV0 : ∀ b, V₀ b → b ∉ wr := fun b q m => by obtain ⟨o, e⟩ := F.va b (.inr q); rw [X.new b m] at e; cases e
    have F4 : Fm g h2 cx env ρ' oa' (VV env ρ' oa' V₀) := F3.weak (fun b q => q.elim (fun q => ⟨.inl q, fun m => wrNW' b m q⟩) fun q => ⟨.inr (.inl q), hV0 b q⟩) (fun b q => .inl q)
    obtain ⟨h0, tk0, e0, _⟩ := X.kp
    refine ⟨_, hgo, ⟨h2, tk2, by rw [e0]⟩, rfl, oa', F4, kbs fun b o e nb => kw' b o (kb1 b o e nb) fun q => nb (.inr q), hws hw1⟩
end
end

section
set_option Elab.async false
open PySem PySem.Spec PyProof.Rows PySem.Calls

section
variable {prog : Program} {w : World} {T : Table} {fs : Fs} {mg mb : Str → Option Value} {n : Nat}

set_option maxHeartbeats 400000 in
theorem ss_step (IHE : ∀ m, m ≤ n → SE prog w T fs mg mb m) (hS : SS prog w T fs mg mb n) : SS prog w T fs mg mb (n + 1) := by
  intro k cx st ps A g s env ρ oa V₀ Q hf hc hR G N F h
  have hE := IHE n (Nat.le_refl n)
  have hR' := hR.le (Nat.le_succ n)
  cases k with
  | zero => cases hc
  | succ k =>
    replace hc : cS1 (cE k cx) (cB (cS k cx)) cx (viewS st) = some ps := hc
    have hv := viewS_is st
    generalize viewS st = v at hc hv
    cases v with
    | asg x v =>
      obtain ⟨px, pq, rfl⟩ := hv
      obtain ⟨i, h1, hc⟩ := bind_some hc
      obtain ⟨a, h2, hc⟩ := bind_some hc
      cases hc
      exact sound_assign IHE hf hR' G N F h1 h2 h
    | swp es vs =>
      obtain ⟨k1, p1, k2, p2, pq, rfl⟩ := hv
      obtain ⟨e, he, hc⟩ := bind_some hc
      obtain ⟨v, hv, hc⟩ := bind_some hc
      obtain ⟨x, hx, hc⟩ := bind_some hc
      obtain ⟨y, hy, hc⟩ := bind_some hc
      obtain ⟨hg, hc⟩ := gd_some hc
      obtain ⟨i, h1, hc⟩ := bind_some hc
      obtain ⟨j, h2, hc⟩ := bind_some hc
      obtain ⟨l, h3, hc⟩ := bind_some hc
      obtain ⟨l2, h4, hc⟩ := bind_some hc
      cases hc
      obtain ⟨px, ex⟩ := asName_some hx
      obtain ⟨py, ey⟩ := asName_some hy
      simp only [Bool.not_eq_true', Bool.or_eq_false_iff, beq_eq_false_iff_ne] at hg
      rw [two?_some h4] at h3
      rw [two?_some he, two?_some hv, ex, ey]
      exact sound_swap hE hf hR' G N F h1 h2 hg.1 hg.2 h3 h
    | unp es v =>
      obtain ⟨⟨k1, p1, pq, rfl⟩, hnt⟩ := hv
      obtain ⟨hl, hc⟩ := gd_some hc
      obtain ⟨xs, h1, hc⟩ := bind_some hc
      obtain ⟨a, h2, hc⟩ := bind_some hc
      obtain ⟨is, h3, hc⟩ := bind_some hc
      obtain ⟨h4, hc⟩ := gd_some hc
      cases hc
      match es, h1, hl with
      | t1 :: t2 :: ts, h1, _ => exact sound_unpack hE hf hR' G N F hnt h1 h3 h2 h
      | [], _, hl => cases hl
      | [_], _, hl => cases hl
    | sto o ix v => cases hc
    | app o m ap args kws pos =>
      obtain ⟨pq, rfl⟩ := hv
      obtain ⟨hm, hc⟩ := gd_some hc
      obtain ⟨e, he, hc⟩ := bind_some hc
      obtain ⟨x, hx, hc⟩ := bind_some hc
      obtain ⟨i, h1, hc⟩ := bind_some hc
      obtain ⟨a, h2, hc⟩ := bind_some hc
      cases hc
      obtain ⟨px, ex⟩ := asName_some hx
      simp only [Bool.and_eq_true, beq_iff_eq] at hm
      rw [ex, nil_of hm.1, one?_some he, hm.2.1]
      exact sound_app hE hf hR' G F h1 h2 (by simpa using hm.2.2) h
    | ex f e => cases hc
    | ite c a b =>
      obtain ⟨pq, rfl⟩ := hv
      obtain ⟨c', h1, hc⟩ := bind_some hc
      obtain ⟨a', h2, hc⟩ := bind_some hc
      obtain ⟨b', h3, hc⟩ := bind_some hc
      cases hc
      exact sound_if IHE hS hf hR' G N F h1 h2 h3 h
    | whl c a =>
      obtain ⟨pq, rfl⟩ := hv
      obtain ⟨c', h1, hc⟩ := bind_some hc
      obtain ⟨a', h2, hc⟩ := bind_some hc
      cases hc
      exact sound_while IHE hS hf hR' G N F h1 h2 h
    | «for» t iter a =>
      obtain ⟨pq, rfl⟩ := hv
      obtain ⟨tg, htg, hc⟩ := bind_some hc
      obtain ⟨is, h1, hc⟩ := bind_some hc
      obtain ⟨h2, hc⟩ := gd_some hc
      obtain ⟨i, h3, hc⟩ := bind_some hc
      obtain ⟨a', h4, hc⟩ := bind_some hc
      cases hc
      simp only [Bool.and_eq_true] at h2
      exact sound_for hE hS hf hR' G N F htg h1 h2.2 h3 h4 h
    | ret e =>
      obtain ⟨pq, rfl⟩ := hv
      obtain ⟨a, h1, rfl⟩ := Option.map_eq_some_iff.mp hc
      exact sound_ret hE hf hR' G F h1 h
    | other => cases hc

theorem sound_all : ∀ n, (∀ m, m ≤ n → SE prog w T fs mg mb m) ∧ SS prog w T fs mg mb n
  | 0 => ⟨fun m hm => by
      have : m = 0 := Nat.le_zero.mp hm
      subst this
      intro k cx e pe A g s env ρ oa V Q _ _ _ _ _ h; exact h.elim, fun k cx st ps A g s env ρ oa V₀ Q _ _ _ _ _ _ h => h.elim⟩
  | n + 1 => by
    obtain ⟨h1, h2⟩ := sound_all n
    refine ⟨fun m hm => ?_, ss_step h1 h2⟩
    rcases Nat.lt_or_ge m (n + 1) with q | q
    · exact h1 m (Nat.lt_succ_iff.mp q)
    · have : m = n + 1 := Nat.le_antisymm hm q
      subst this
      exact se_step h1 h2

end
end

section
set_option Elab.async false
open PySem
section
variable {Q : PyData → Tag → Prop} {Qb : Bool → Prop} {i j : Int} {x y a b c d e : PyData} {l m : List PyData} {t : Tag} {ρ : Rho}
theorem eqv_int : PyData.eqv (.int i) (.int j) = (i == j) := rfl
theorem sub_at {k : Int} {n : Nat} (hj : seqIndex? k l.length = some n) (hd : l[n]? = some d) (hk : -(2 ^ 63) ≤ k ∧ k < 2 ^ 63) : subP (.list l) (.int k) Q = Q d .old :=
  propext ⟨fun ⟨_, _, e1, e2, _, q⟩ => by rw [hj] at e1; cases e1; rw [hd] at e2; cases e2; exact q, fun q => ⟨n, d, hj, hd, hk, q⟩⟩
theorem subt_at {k : Int} {n : Nat} (hj : seqIndex? k l.length = some n) (hd : l[n]? = some d) (hk : -(2 ^ 63) ≤ k ∧ k < 2 ^ 63) : subP (.tuple l) (.int k) Q = Q d .old :=
  propext ⟨fun ⟨_, _, e1, e2, _, q⟩ => by rw [hj] at e1; cases e1; rw [hd] at e2; cases e2; exact q, fun q => ⟨n, d, hj, hd, hk, q⟩⟩
theorem seq_nat {k : Int} {n : Nat} (h0 : 0 ≤ k) (h : k < n) : seqIndex? k n = some k.toNat := by
  unfold seqIndex?
  simp only [Int.not_lt.mpr h0, if_false, Bool.and_eq_true, decide_eq_true_eq, h0, h, and_self, if_true]
theorem sub_l0 : subP (.list (a :: l)) (.int 0) Q = Q a .old := sub_at (n := 0) (seq_nat (by omega) (by simp only [List.length_cons]; omega)) rfl (by omega)
theorem sub_l1 : subP (.list (a :: b :: l)) (.int 1) Q = Q b .old := sub_at (n := 1) (seq_nat (by omega) (by simp only [List.length_cons]; omega)) rfl (by omega)
theorem sub_t0 : subP (.tuple (a :: l)) (.int 0) Q = Q a .old := subt_at (n := 0) (seq_nat (by omega) (by simp only [List.length_cons]; omega)) rfl (by omega)
theorem sub_t1 : subP (.tuple (a :: b :: l)) (.int 1) Q = Q b .old := subt_at (n := 1) (seq_nat (by omega) (by simp only [List.length_cons]; omega)) rfl (by omega)
theorem sub_t2 : subP (.tuple (a :: b :: c :: l)) (.int 2) Q = Q c .old := subt_at (n := 2) (seq_nat (by omega) (by simp only [List.length_cons]; omega)) rfl (by omega)
theorem sub_t3 : subP (.tuple (a :: b :: c :: d :: l)) (.int 3) Q = Q d .old := subt_at (n := 3) (seq_nat (by omega) (by simp only [List.length_cons]; omega)) rfl (by omega)
theorem sub_t4 : subP (.tuple (a :: b :: c :: d :: e :: l)) (.int 4) Q = Q e .old := subt_at (n := 4) (seq_nat (by omega) (by simp only [List.length_cons]; omega)) rfl (by omega)
end
end

section
set_option Elab.async false
open PySem PySem.Spec PyProof.Rows PySem.Calls

/-- every name that the text's top binds or may bind -/
noncomputable def litsI (p : Program) : List (Str × Int) := (valNames p).filterMap fun x => match valOf p x with | some (.int n) => some (x, n) | _ => none
noncomputable def fsOf (p : Program) (loose : List Str) : Fs := ⟨(recsOf p).map (·.name) ++ (startupNames ++ (loose ++ ((litsOf p).map (·.1) ++ (clssOf p loose).map (·.name)))), litsI p⟩
noncomputable def tabOf (p : Program) (loose : List Str) (f : Str) : Option Fn :=
  match (recsOf p).find? (·.name == f) with
  | some d => compFn (fsOf p loose) d.params d.body d.scope
  | none => none

theorem gw_of {p : Program} {loose : List Str} {mean : ExcName → Option Value} {mg mb : Str → Option Value} {h : Heap} (T : Top p loose mean mg mb h) : Gw (tabOf p loose) (fsOf p loose) mg mb h where
  ng := T.g
  nb := T.b
  lim := T.nolimit
  fn := fun f F e => by
    unfold tabOf at e
    split at e
    · rename_i d hd
      have hm := List.mem_of_find?_eq_some hd
      have hn := List.find?_some hd
      obtain ⟨a, o, pm, code, doc, h1, h2, h3, h4⟩ := T.fn d hm
      have : d.name = f := by simpa using hn
      subst this
      exact ⟨a, o, d.params, d.body, d.scope, pm, code, doc, h1, h2, h3, h4, e⟩
    · cases e
  bi := fun x hx _ _ => by
    have hx' : x ∉ (fsOf p loose).ns := by simpa [Fs.contains] using hx
    unfold fsOf at hx'
    simp only [List.mem_append, not_or] at hx'
    exact T.free x hx'.2.1 hx'.2.2.1 hx'.1 hx'.2.2.2.1 hx'.2.2.2.2
  bb := T.builtins

theorem rp_ints {h : Heap} : ∀ {vs : List Value} {ns : List Int}, IntsAre vs ns → RpAll h vs (ns.map PyData.int) []
  | _, _, .nil => .nil
  | _, _, .cons n t r => RpAll.cons (as := []) (.int n t) (rp_ints r)

end

section
set_option Elab.async false
open PySem PySem.Spec PyProof.Rows PySem.Calls

section
variable {prog : Program} {w : World} {T : Table} {fs : Fs} {mg mb : Str → Option Value} {n k : Nat} {cx : Cx} {A : Around} {g h h' : Heap} {env : Env} {ρ : Rho} {oa : Nat → Addr} {V V₀ : Addr → Prop} {s : Shared}

/-- no slot known -/
noncomputable def bare (cx : Cx) : Rho := List.replicate cx.nms.length .un
/-- a frame of which nothing is known but its names -/
theorem Fm.bare (F : Fm g h cx env ρ oa V) (hc : env.cells = []) (ka : KA g h') (hn : ∃ m, h'.Ns env.locals m) : Fm g h' cx env (bare cx) oa (fun b => b = env.locals) := by
  have noow : ∀ (i : Nat) l, (Mine.bare cx)[i]? ≠ some (.ow l) := fun i l e => by
    have := (List.mem_replicate.mp (List.mem_of_getElem? e)).2; cases this
  have wr : ∀ b, Wr env (Mine.bare cx) oa b → b = env.locals := fun b q => by
    rcases q with q | ⟨x, q⟩ | ⟨i, l, e, _⟩
    · exact q
    · rw [hc] at q; cases q
    · exact (noow i l e).elim
  exact {
    top := ka
    hg := F.hg
    hb := F.hb
    hk := F.hk
    gl := F.gl
    ce := F.ce
    nm := F.nm
    len := by simp [Mine.bare]
    dist := F.dist
    kd := F.kd
    ns := hn
    cel := fun x c m => by rw [hc] at m; cases m
    cap := F.cap
    new := fun b q => F.new b (.inl (wr b q))
    od := fun i j l l' _ e _ => (noow i l e).elim
    val := fun i x sl e1 e2 => by
      have := (List.mem_replicate.mp (List.mem_of_getElem? e2)).2
      subst this; trivial
    va := fun b q => by obtain ⟨m, o, _, _, e, _⟩ := hn; exact ⟨o, by rw [q]; exact e⟩
    wv := fun b q => wr b q }

theorem ns_ne_list {h : Heap} {a : Addr} {m : Str → Option Value} {vs : Array Value} (x : h.Ns a m) (p : h.PlainList b vs) : a ≠ b := fun q => by
  obtain ⟨o', es, ep, ho, hd, _⟩ := x
  obtain ⟨n, e⟩ := p
  rw [q, e] at ho; cases ho; cases hd

/-- what the middle of such a law leaves: the names but one as they were, the lists of X still lists -/
noncomputable def MidP (env : Env) (X : Addr → Prop) (r : Str) (m : Str → Option Value) (s s' : Shared) : Prop :=
  ∃ h' tk m', s' = { s with heap := h', toks := tk } ∧ KB (fun b => b = env.locals ∨ X b) s.heap h' ∧ h'.Ns env.locals m' ∧ (∀ y, y ≠ r → m' y = m y) ∧ ∀ a, X a → ∃ us, h'.PlainList a us ∧ us.size ≤ 2000

inductive MidInv (env : Env) (X : Addr → Prop) (r : Str) (m : Str → Option Value) (wr : List Addr) (St : Nat → Heap → Prop) (n' : Nat) (s₂ : Shared) (kk : Nat) (s' : Shared) : Prop
  | mk (h' : Heap) (tk i : Nat) (m' : Str → Option Value) (e : s' = { s₂ with heap := h', toks := tk }) (st : St i h') (hi : i ≤ n') (hk : kk = n' + 1 - i)
      (kb : KB (fun b => b = env.locals ∨ X b ∨ b ∈ wr) s₂.heap h') (ns : h'.Ns env.locals m') (ag : ∀ y, y ≠ r → m' y = m y) (li : ∀ a, X a → ∃ us, h'.PlainList a us ∧ us.size ≤ 1000 + i)

theorem mid_loop (hE : SE prog w T fs mg mb n) (hf : cx.fs = fs) (hR : Room A n) (G : Gw T fs mg mb g) (F : Fm g s.heap cx env ρ oa V) (hc : env.cells = [])
    {X : Addr → Prop} {r f : Str} {ir jf : Nat} (hr : cx.nms[ir]? = some r) (hfn : cx.nms[jf]? = some f) (kr : env.kindOf r = some .local) (kf : env.kindOf f = some .local)
    {m : Str → Option Value} (hm : s.heap.Ns env.locals m) {fa : Addr} {vs : Array Value} (hmf : m f = some (.ref fa)) (pf : s.heap.PlainList fa vs) (hvs : vs.size ≤ 1000)
    (hit : ∀ v ∈ vs.toList, ∃ t x y a, v = .ref t ∧ PlainTup s.heap t #[x, y, .ref a] ∧ X a)
    (hX : ∀ a, X a → g.get? a = none ∧ ∃ us, s.heap.PlainList a us ∧ us.size ≤ 1000) (hXf : ¬ X fa)
    {rp fp p1 p2 p3 ap cp pos q : Pos} {k2 : Nat} {e : Expr} {pe pi : PE} (hci : cE k cx (iterOf cx (.Name f fp)).2 = some pi) (hc2 : cE k cx (.Constant (.int 2) k2 p2) = some (.const (.int 2))) (hp2 : (lev T n).E (bare cx) (.const (.int 2)) fun d _ => d = .int 2)
    (hce : cE k cx e = some pe) (hpe : (lev T n).E (bare cx) pe fun _ _ => True) (hl : (ap.endLine == cp.line) = true) :
    wpAny (model prog w) A (exec (.For (.Name r rp) (.Name f fp) [.Expr (.Call (.Attribute (.Subscript (.Name r p1) (.Constant (.int 2) k2 p2) p3) (Str.ofString "append") ap) [e] [] cp) pos] [] q) env)
      (fun fl s' => fl = .next ∧ MidP env X r m s s') NoE s := by
  have Fb := F.bare hc F.top ⟨m, hm⟩
  refine wpAny_For (wpAny_slot Fb hfn (.inl ⟨kf, m, hm, hmf⟩) (src_list (target := .Name r rp) hR.1 pf fun I s₂ fpp wr Md St Y hfp => ?_)) (iter_notSet hci env)
  have k2 := kp_heap Y.kp
  have Tr := Y.T
  have nwr : ∀ b o, s.heap.get? b = some o → b ∉ wr := fun b o e m => by rw [Y.new b m] at e; cases e
  have lwr : env.locals ∉ wr := let ⟨o, _, _, e, _⟩ := hm; nwr _ o e
  have fawr : fa ∉ wr := let ⟨n, e⟩ := pf; nwr _ _ e
  have xwr : ∀ a, X a → a ∉ wr := fun a q => let ⟨_, _, ⟨_, e⟩, _⟩ := hX a q; nwr _ _ e
  have lX : ¬ X env.locals := fun q => let ⟨_, _, p, _⟩ := hX _ q; ns_ne_list hm p rfl
  have lf : env.locals ≠ fa := ns_ne_list hm pf
  have ka : ∀ {h' : Heap}, KB (fun b => b = env.locals ∨ X b ∨ b ∈ wr) s₂.heap h' → KA g h' := fun kb b o e => kb b o (k2 _ _ (F.top b o e)) fun q => by
    rcases q with q | q | q
    · rw [q, F.new _ (.inl rfl)] at e; cases e
    · rw [(hX b q).1] at e; cases e
    · exact nwr _ _ (F.top b o e) q
  refine codeAny_forLoop_any (MidInv env X r m wr St vs.size s₂) ?_ (vs.size + 1)
    ⟨s₂.heap, s₂.toks, 0, m, rfl, Y.st, Nat.zero_le _, rfl, fun _ _ e _ => e, hm.keeps k2, fun _ _ => rfl, fun a q => let ⟨_, us, ⟨n, e⟩, z⟩ := hX a q; ⟨us, ⟨n, k2 _ _ e⟩, by omega⟩⟩
  rintro kk s' ⟨h1, tk1, i, m1, rfl, st1, hi, rfl, kb1, ns1, ag1, li1⟩
  by_cases hlt : i < vs.size
  · refine Tr.item i _ _ _ hlt st1 fun v h2 tk2 hMd kw1 => ?_
    refine Tr.go i v _ _ _ hMd fun h3 hIs st3 kw2 => ?_
    have kw : KB (· ∈ wr) h1 h3 := fun b o e nb => kw2 b o nb (kw1 b o nb e)
    have ns3 : h3.Ns env.locals m1 := ns1.at' fun o e => kw _ o e lwr
    refine wpAny_assign_Name (wpAny_storeName_local kr ns3 (fun h4 ns4 hs4 => ?_) (by rw [F.hk]; rfl))
    have kb4 : KB (fun b => b = env.locals ∨ X b ∨ b ∈ wr) s₂.heap h4 := fun b o e nb => hs4.extBut b o (fun q => nb (.inl q)) (kw b o (kb1 b o e nb) fun q => nb (.inr (.inr q)))
    have li4 : ∀ a, X a → ∃ us, h4.PlainList a us ∧ us.size ≤ 1000 + i := fun a q => by
      obtain ⟨us, ⟨n, e⟩, z⟩ := li1 a q
      exact ⟨us, ⟨n, hs4.extBut a _ (fun c => lX (c ▸ q)) (kw _ _ e (xwr a q))⟩, z⟩
    have st4 : St (i + 1) h4 := Tr.frame _ _ _ st3 fun b hb o e => hs4.extBut b o (fun c => by
      rcases hfp b hb with q | q
      · exact lwr (c ▸ q)
      · exact lf (c.symm.trans q)) e
    obtain ⟨t, x, y, a, rfl, pt, Xa⟩ := hit v (List.mem_of_getElem? hIs)
    have keepT : ∀ {h' : Heap} {a vs}, KB (fun b => b = env.locals ∨ X b ∨ b ∈ wr) s₂.heap h' → PlainTup s.heap a vs → PlainTup h' a vs := fun {h' a vs} kb p => by
      obtain ⟨n, e⟩ := p
      refine ⟨n, kb _ _ (k2 _ _ e) fun q => ?_⟩
      rcases q with q | q | q
      · subst q; exact ns_notT hm _ e ⟨_, _, rfl⟩
      · obtain ⟨_, us, ⟨n', e'⟩, _⟩ := hX _ q
        rw [e] at e'; simp at e'
      · exact nwr _ _ e q
    have pt4 := keepT kb4 pt
    have F4 := F.bare hc (ka kb4) ⟨_, ns4⟩
    refine wpAny_execs_cons (wpAny_Expr (wpAny_Call_method (T := "list") (id := "list.append") rfl (by rw [backTo_one hce]; rfl) hl PySem.F.plainAttrs_list PySem.F.slot_list_append PySem.F.type_list_append ?_) (by simp [interactive, F.hk]) rfl)
    refine Subscript_ (wpAny_slot (v := .ref t) F4 hr (.inl ⟨kr, _, ns4, if_pos rfl⟩) ?_)
    refine wpAny_mono (hE k cx _ _ A g _ env (bare cx) oa _ _ hf hc2 hR G F4 hp2) (fun v2 s5 p => ?_) fun _ _ x => x.elim
    obtain ⟨d2, t2, rfl, k5, r5⟩ := p
    obtain ⟨tk5, rfl⟩ := r5.int
    have ka5 := kp_heap k5
    obtain ⟨nt, pt5⟩ : PlainTup s5.heap t #[x, y, .ref a] := let ⟨n, e⟩ := pt4; ⟨n, ka5 _ _ e⟩
    refine tail_any (T := "tuple") ⟨_, pt5, rfl⟩ PySem.F.slot_tuple_getitem.lookup (PySem.P.getItem_tuple (i := 2) pt5 (by decide) (by decide) rfl rfl ?_) (sub_plain (fun _ _ _ _ q => by cases q) _ _)
    obtain ⟨us, ⟨nu, pu⟩, zu⟩ := li4 a Xa
    have pu5 : s5.heap.PlainList a us := ⟨nu, ka5 _ _ pu⟩
    refine ⟨pu5.isList.typeIs, fun b e => by cases e; exact plain_dict pu5, ?_⟩
    rw [backTo_one hce]
    refine PySem.P.append_list (wpAny_mono (hE k cx e pe A g s5 env (bare cx) oa _ _ hf hce hR G (F4.ka ka5) hpe) (fun val s6 p => ?_) fun _ _ x => x.elim)
    obtain ⟨d6, t6, _, k6, r6⟩ := p
    have ka6 : KA h4 s6.heap := KA.trans ka5 (kp_heap k6)
    refine ⟨us, nu, by have : (2000 : Nat) ≤ sizeLine := by decide
                       omega, ka6 _ _ pu, ?_⟩
    have kk6 := kp_trans k5 k6
    obtain ⟨h6, tk6, rfl, _⟩ := kk6
    have sb : Heap.SameBut a h6 (h6.update a (Obj.mapSeq fun xs => xs.push val)) := Heap.SameBut.update ..
    have la : env.locals ≠ a := fun q => lX (q ▸ Xa)
    refine wpAny_execs_nil ⟨vs.size + 1 - (i + 1), by omega, _, tk6, i + 1, _, rfl, Tr.frame _ _ _ st4 fun b hb o e => sb.extBut b o (fun c => ?_) (ka6 _ _ e), by omega, rfl, fun b o e nb => sb.extBut b o (fun c => nb (.inr (.inl (c ▸ Xa)))) (ka6 _ _ (kb4 b o e nb)), (ns4.keeps ka6).sameBut sb la, fun y hy => ?_, fun b Xb => ?_⟩
    · rcases hfp b hb with q | q
      · exact xwr a Xa (c ▸ q)
      · exact hXf (q ▸ c ▸ Xa)
    · simp only [hy, if_false]; exact ag1 y hy
    · by_cases c : b = a
      · subst c
        refine ⟨us.push val, plain_update (fun xs => xs.push val) (ka6 _ _ pu), ?_⟩
        rw [Array.size_push]; omega
      · obtain ⟨ub, ⟨nb, pb⟩, zb⟩ := li4 b Xb
        exact ⟨ub, ⟨nb, sb.extBut b _ c (ka6 _ _ pb)⟩, by omega⟩
  · have hin : i = vs.size := by omega
    subst hin
    refine Tr.done _ _ _ st1 fun h2 tk2 kw => wpAny_execs_nil ⟨rfl, ?_⟩
    obtain ⟨h0, tk0, e0, _⟩ := Y.kp
    refine ⟨h2, tk2, m1, by rw [e0], fun b o e nb => kw b o (nwr b o e) (kb1 b o (k2 _ _ e) fun q => ?_), ns1.at' fun o e => kw _ o lwr e, ag1, fun a q => ?_⟩
    · rcases q with q | q | q
      · exact nb (.inl q)
      · exact nb (.inr q)
      · exact nwr b o e q
    · obtain ⟨us, ⟨n, e⟩, z⟩ := li1 a q
      exact ⟨us, ⟨n, kw _ _ (xwr a q) e⟩, by omega⟩
end
end

section
set_option Elab.async false
open PySem PySem.Spec PyProof.Rows PySem.Calls

section
variable {prog : Program} {w : World} {T : Table} {fs : Fs} {mg mb : Str → Option Value} {n k : Nat} {cx : Cx} {A : Around} {g h h' : Heap} {env : Env} {ρ : Rho} {oa : Nat → Addr} {V V₀ : Addr → Prop} {s : Shared}

theorem mid_app (hE : SE prog w T fs mg mb n) (hf : cx.fs = fs) (hR : Room A n) (G : Gw T fs mg mb g) (F : Fm g s.heap cx env ρ oa V) (hc : env.cells = [])
    {f : Str} {jf : Nat} (hfn : cx.nms[jf]? = some f) (kf : env.kindOf f = some .local) {m : Str → Option Value} (ka : KA g s.heap) (hm : s.heap.Ns env.locals m) {fa : Addr} {us : Array Value} (hmf : m f = some (.ref fa)) (pf : s.heap.PlainList fa us) (hz : us.size ≤ 2000)
    {px ap cp pos : Pos} {e : Expr} {pe : PE} (hce : cE k cx e = some pe) (hpe : (lev T n).E (bare cx) pe fun _ _ => True) (hl : (ap.endLine == cp.line) = true) :
    wpAny (model prog w) A (exec (.Expr (.Call (.Attribute (.Name f px) (Str.ofString "append") ap) [e] [] cp) pos) env)
      (fun fl s' => fl = .next ∧ ∃ h' tk, s' = { s with heap := h', toks := tk } ∧ KB (· = fa) s.heap h' ∧ h'.Ns env.locals m) NoE s := by
  have Fb := F.bare hc ka ⟨m, hm⟩
  refine wpAny_Expr (wpAny_meth (id := "list.append") hce hl PySem.F.slot_list_append PySem.F.type_list_append ?_) (by simp [interactive, F.hk]) rfl
  refine wpAny_slot Fb hfn (.inl ⟨kf, m, hm, hmf⟩) ⟨fa, us, rfl, pf, PySem.P.append_list (wpAny_mono (hE k cx e pe A g s env (bare cx) oa _ _ hf hce hR G Fb hpe) (fun val s₂ p => ?_) fun _ _ x => x)⟩
  obtain ⟨d6, t6, _, k6, r6⟩ := p
  have ka6 := kp_heap k6
  obtain ⟨nu, pu⟩ := id pf
  refine ⟨us, nu, by have : (2000 : Nat) ≤ sizeLine := by decide
                     omega, ka6 _ _ pu, ?_⟩
  obtain ⟨h6, tk6, rfl, _⟩ := k6
  have sb : Heap.SameBut fa h6 (h6.update fa (Obj.mapSeq fun xs => xs.push val)) := Heap.SameBut.update ..
  exact ⟨rfl, _, tk6, rfl, fun b o e nb => sb.extBut b o nb (ka6 _ _ e), (hm.keeps ka6).sameBut sb (ns_ne_list hm pf)⟩

theorem mid_clear (F : Fm g s.heap cx env ρ oa V) (hc : env.cells = [])
    {f : Str} {jf : Nat} (hfn : cx.nms[jf]? = some f) (kf : env.kindOf f = some .local) {m : Str → Option Value} (ka : KA g s.heap) (hm : s.heap.Ns env.locals m) {fa : Addr} {us : Array Value} (hmf : m f = some (.ref fa)) (pf : s.heap.PlainList fa us) (hz : us.size ≤ 2000)
    {px ap cp pos : Pos} (hl : (ap.endLine == cp.line) = true) :
    wpAny (model prog w) A (exec (.Expr (.Call (.Attribute (.Name f px) (Str.ofString "clear") ap) [] [] cp) pos) env)
      (fun fl s' => fl = .next ∧ ∃ h' tk, s' = { s with heap := h', toks := tk } ∧ KB (· = fa) s.heap h' ∧ h'.Ns env.locals m) NoE s := by
  have Fb := F.bare hc ka ⟨m, hm⟩
  refine wpAny_Expr (wpAny_Call_method (T := "list") (id := "list.clear") rfl rfl hl PySem.F.plainAttrs_list PySem.F.slot_list_clear PySem.F.type_list_clear ?_) (by simp [interactive, F.hk]) rfl
  refine wpAny_slot Fb hfn (.inl ⟨kf, m, hm, hmf⟩) ⟨pf.isList.typeIs, fun b e => by cases e; exact plain_dict pf, ?_⟩
  obtain ⟨nu, pu⟩ := id pf
  refine PySem.P.clear_list pu ?_ (by have : (2000 : Nat) ≤ sizeLine := by decide
                                      omega)
  have sb : Heap.SameBut fa s.heap (s.heap.update fa (Obj.mapSeq fun _ => #[])) := Heap.SameBut.update ..
  exact ⟨rfl, _, s.toks, rfl, fun b o e nb => sb.extBut b o nb e, hm.sameBut sb (ns_ne_list hm pf)⟩

theorem blk_then (hS : SS prog w T fs mg mb n) {E : Value → Shared → Prop} {R : Flow → Shared → Prop} {rest : List Stmt} (hf : cx.fs = fs) (hR : Room A n) (G : Gw T fs mg mb g) (N : NF cx env) :
    ∀ (sts : List Stmt) (pss : List PS) (s : Shared) (ρ : Rho) (oa : Nat → Addr) (Q : Out → Prop), cB (cS k cx) sts = some pss → Fm g s.heap cx env ρ oa (VV env ρ oa V₀) → blk (lev T n).S pss ρ Q →
      (∀ f s', OutP g cx env ρ oa V₀ s Q f s' → (match f with | .next => wpAny (model prog w) A (execs rest env) R E s' | f => R f s')) →
      wpAny (model prog w) A (execs (sts ++ rest) env) R E s
  | [], pss, s, ρ, oa, Q, hc, F, h, hq => by cases hc; exact hq .next s ⟨_, h, ⟨s.heap, s.toks, rfl⟩, rfl, next_self F⟩
  | st :: r, pss, s, ρ, oa, Q, hc, F, h, hq => by
    obtain ⟨a, b, h1, h2, rfl⟩ := cB_cons hc
    refine wpAny_execs_cons (wpAny_mono (hS k cx st a A g s env ρ oa V₀ _ hf h1 hR G N F h) (fun f s' p => ?_) fun _ _ x => x.elim)
    obtain ⟨o, q, hs, ok⟩ := p
    cases o with
    | next ρ' =>
      obtain ⟨rfl, oa', F', kb, hw⟩ := ok
      refine blk_then hS hf hR G N r b s' ρ' oa' Q h2 F' q fun f s'' p => hq f s'' ?_
      obtain ⟨o', q', ok'⟩ := p
      exact ⟨o', q', OutOK.trans hs kb hw ok'⟩
    | ret d t =>
      obtain ⟨v, rfl, ok⟩ := ok
      exact hq (.ret v) s' ⟨_, q, hs, v, rfl, ok⟩
end
end

section
set_option Elab.async false
open PySem PySem.Spec PyProof.Rows PySem.Calls

/-- the three statements that spoil what was told and what was handed over -/
noncomputable def midOf (r f hd : Str) : List Stmt → Option (Expr × Expr × Nat × Pos × Pos)
  | [.For (.Name r' _) (.Name f' fp) [.Expr (.Call (.Attribute (.Subscript (.Name r'' _) (.Constant (.int i) k2 p2) _) m ap) [e] [] cp) _] [] _, .Expr (.Call (.Attribute (.Name f'' _) m2 ap2) [e2] [] cp2) _, .Expr (.Call (.Attribute (.Name h' _) m3 ap3) [] [] cp3) _] =>
    gd ((r' == r && f' == f && r'' == r && i == 2 && m == Str.ofString "append" && f'' == f && m2 == Str.ofString "append" && h' == hd && m3 == Str.ofString "clear") && (ap.endLine == cp.line && ap2.endLine == cp2.line && ap3.endLine == cp3.line)) (some (e, e2, k2, p2, fp))
  | _ => none
theorem midOf_some {r f hd : Str} {l : List Stmt} {x : Expr × Expr × Nat × Pos × Pos} (h : midOf r f hd l = some x) :
    ∃ rp p1 p3 ap cp pos q px ap2 cp2 pos2 px3 ap3 cp3 pos3 : Pos, (ap.endLine == cp.line) = true ∧ (ap2.endLine == cp2.line) = true ∧ (ap3.endLine == cp3.line) = true ∧
      l = [.For (.Name r rp) (.Name f x.2.2.2.2) [.Expr (.Call (.Attribute (.Subscript (.Name r p1) (.Constant (.int 2) x.2.2.1 x.2.2.2.1) p3) (Str.ofString "append") ap) [x.1] [] cp) pos] [] q, .Expr (.Call (.Attribute (.Name f px) (Str.ofString "append") ap2) [x.2.1] [] cp2) pos2, .Expr (.Call (.Attribute (.Name hd px3) (Str.ofString "clear") ap3) [] [] cp3) pos3] := by
  unfold midOf at h
  split at h
  · obtain ⟨hb, h⟩ := gd_some h
    cases h
    simp only [Bool.and_eq_true] at hb
    obtain ⟨⟨⟨⟨⟨⟨⟨⟨⟨a1, a2⟩, a3⟩, a4⟩, a5⟩, a6⟩, a7⟩, a8⟩, a9⟩, ⟨b1, b2⟩, b3⟩ := hb
    cases eq_of_beq a1; cases eq_of_beq a2; cases eq_of_beq a3; cases eq_of_beq a4; cases eq_of_beq a5; cases eq_of_beq a6; cases eq_of_beq a7; cases eq_of_beq a8; cases eq_of_beq a9
    exact ⟨_, _, _, _, _, _, _, _, _, _, _, _, _, _, _, b1, b2, b3, rfl⟩
  · cases h

theorem noLs_rpAll {h : Heap} {vs : List Value} {ds : List PyData} {as : List Addr} (r : RpAll h vs ds as) : noLs ds = true → as = [] :=
  RpAll.rec (motive_1 := fun _ d as _ => noL d = true → as = []) (motive_2 := fun _ ds as _ => noLs ds = true → as = []) (fun _ => rfl) (fun _ _ => rfl) (fun _ _ _ => rfl) (fun _ _ _ => rfl) (fun _ _ _ e => Bool.noConfusion (e : false = true)) (fun _ _ ih => ih) (fun _ => rfl)
    (fun {_ _ d ds _ _} _ _ i1 i2 e => have x : noL d = true ∧ noLs ds = true := (Bool.and_eq_true_iff).mp e; by rw [i1 x.1, i2 x.2]; rfl) r

section
variable {prog : Program} {w : World} {T : Table} {fs : Fs} {mg mb : Str → Option Value} {n k : Nat} {cx : Cx} {A : Around} {g : Heap} {env : Env} {oa : Nat → Addr} {s : Shared}

noncomputable def oSlot : Option PyData → Slot
  | some d => .fz d
  | none => .un
/-- a frame of which the course alone is known -/
theorem Fm.only {h h' : Heap} {ρ : Rho} {V : Addr → Prop} {x0 x1 x2 x3 x4 : Str} (F : Fm g h cx env ρ oa V) (hc : env.cells = []) (hnms : cx.nms = [x0, x1, x2, x3, x4]) {C : List PyData} {D : Option PyData} {V₀ : Addr → Prop} {vs : Array Value}
    (ka : KA g h') (hn : ∃ m, h'.Ns env.locals m) (hg : g.get? (oa 1) = none) (bd : Bd h' env x1 (.ref (oa 1))) (pl : h'.PlainList (oa 1) vs) (rp : RpAll h' vs.toList C []) (hV : ∀ b, V₀ b → ∃ o, h'.get? b = some o)
    (hD : ∀ d, D = some d → SlotOK (fun b => (b = env.locals ∨ b = oa 1) ∨ V₀ b) h' env x2 (oa 2) (.fz d)) :
    Fm g h' cx env [.un, .ow C, oSlot D, .un, .un] oa (VV env [.un, .ow C, oSlot D, .un, .un] oa V₀) := by
  have wr : ∀ b, Wr env [.un, .ow C, oSlot D, .un, .un] oa b → b = env.locals ∨ b = oa 1 := fun b q => by
    rcases q with q | ⟨x, q⟩ | ⟨i, l, e, rfl⟩
    · exact .inl q
    · rw [hc] at q; cases q
    · match i, e with
      | 0, e => cases e
      | 1, e => exact .inr rfl
      | 2, e => cases D <;> cases e
      | 3, e => cases e
      | 4, e => cases e
      | _ + 5, e => simp at e
  have ow1 : ∀ (i : Nat) l, ([.un, .ow C, oSlot D, .un, .un] : Rho)[i]? = some (.ow l) → i = 1 := fun i l e => by
    match i, e with
    | 0, e => cases e
    | 1, e => rfl
    | 2, e => cases D <;> cases e
    | 3, e => cases e
    | 4, e => cases e
    | _ + 5, e => simp at e
  exact {
    top := ka
    hg := F.hg
    hb := F.hb
    hk := F.hk
    gl := F.gl
    ce := F.ce
    nm := F.nm
    len := by rw [hnms]; rfl
    dist := F.dist
    kd := F.kd
    ns := hn
    cel := fun x c m => by rw [hc] at m; cases m
    cap := F.cap
    new := fun b q => by
      rcases wr b q with q | q
      · exact F.new b (.inl q)
      · rw [q]; exact hg
    od := fun i j l l' hij e1 e2 => (hij ((ow1 i l e1).trans (ow1 j l' e2).symm)).elim
    val := fun i x sl e1 e2 => by
      rw [hnms] at e1
      match i, e1, e2 with
      | 0, e1, e2 => cases e2; trivial
      | 1, e1, e2 => cases e1; cases e2; exact ⟨bd, vs, [], pl, rp, fun _ m => nomatch m⟩
      | 2, e1, e2 =>
        cases e1
        cases D with
        | none => cases e2; trivial
        | some d =>
          cases e2
          obtain ⟨v, as, b, r, nv⟩ := hD d rfl
          exact ⟨v, as, b, r, fun c m q => nv c m (q.imp (wr c) id)⟩
      | 3, e1, e2 => cases e2; trivial
      | 4, e1, e2 => cases e2; trivial
      | _ + 5, e1, e2 => simp at e1
    va := fun b q => by
      rcases q with q | q
      · rcases wr b q with q | q
        · obtain ⟨m, o, _, _, e, _⟩ := hn; exact ⟨o, by rw [q]; exact e⟩
        · obtain ⟨n, e⟩ := pl; exact ⟨_, by rw [q]; exact e⟩
      · exact hV b q
    wv := fun b q => .inl q }

/-- what is to be known of the pieces after the first -/
structure Law7 (T : Table) (n : Nat) (p2 p3 : List PS) (C L : List PyData) : Prop where
  nl : noLs C = true
  cz : C.length ≤ 1000
  h2 : blk (lev T n).S p2 [.un, .ow C, .fz (.list C), .un, .un] fun o => o = .next [.un, .ow C, .fz (.list C), .ow L, .un]
  lz : L.length ≤ 1000
  li : ∀ d ∈ L, ∃ x y rows, d = .tuple [x, y, .list rows] ∧ rows.length ≤ 1000
  h3 : blk (lev T n).S p3 [.un, .ow C, .un, .un, .un] fun o => ∃ t, o = .ret (.bool true) t
theorem law7_body (hE : SE prog w T fs mg mb n) (hS : SS prog w T fs mg mb n) (hf : cx.fs = fs) (hR : Room A n) (G : Gw T fs mg mb g) (N : NF cx env) (hc : env.cells = []) {x0 x1 x2 x3 x4 : Str} (hnms : cx.nms = [x0, x1, x2, x3, x4]) (kl : ∀ x ∈ cx.nms, env.kindOf x = some .local)
    (hd23 : x2 ≠ x4) (hd34 : x3 ≠ x4) (hd14 : x1 ≠ x4) {d0 : PyData} (F : Fm g s.heap cx env [.fz d0, .un, .un, .un, .un] oa (VV env [.fz d0, .un, .un, .un, .un] oa fun _ => False))
    {b1 b2 bm b3 : List Stmt} {p1 p2 p3 : List PS} {x : Expr × Expr × Nat × Pos × Pos} {pe pe2 pi : PE}
    (hm : midOf x4 x3 x2 bm = some x) (c1 : cB (cS k cx) b1 = some p1) (c2 : cB (cS k cx) b2 = some p2) (c3 : cB (cS k cx) b3 = some p3) (ce : cE k cx x.1 = some pe) (ce2 : cE k cx x.2.1 = some pe2)
    (cei : cE k cx (iterOf cx (.Name x3 x.2.2.2.2)).2 = some pi) (cec : cE k cx (.Constant (.int 2) x.2.2.1 x.2.2.2.1) = some (.const (.int 2)))
    (hp2 : (lev T n).E (bare cx) (.const (.int 2)) fun d _ => d = .int 2) (hpe : (lev T n).E (bare cx) pe fun _ _ => True) (hpe2 : (lev T n).E (bare cx) pe2 fun _ _ => True)
    (h1 : blk (lev T n).S p1 [.fz d0, .un, .un, .un, .un] fun o => ∃ C L, o = .next [.fz d0, .ow C, .ow C, .un, .un] ∧ Law7 T n p2 p3 C L) :
    wpAny (model prog w) A (execs (b1 ++ (b2 ++ (bm ++ b3))) env) (fun fl s' => fl = .ret (.bool true) ∧ (∃ h' tk, s' = { s with heap := h', toks := tk }) ∧ KA g s'.heap) NoE s := by
  have m0 : ∀ {i : Nat} {y : Str}, ([x0, x1, x2, x3, x4] : List Str)[i]? = some y → cx.nms[i]? = some y := fun e => by rw [hnms]; exact e
  have kd : ∀ {i : Nat} {y : Str}, ([x0, x1, x2, x3, x4] : List Str)[i]? = some y → env.kindOf y = some .local := fun e => kl _ (List.mem_of_getElem? (m0 e))
  have bdm : ∀ {h : Heap} {y : Str} {v : Value}, env.kindOf y = some .local → Bd h env y v → ∃ m, h.Ns env.locals m ∧ m y = some v := fun ky b => by
    rcases b with ⟨_, m, a, e⟩ | ⟨q, _⟩
    · exact ⟨m, a, e⟩
    · rcases q with q | q <;> rw [ky] at q <;> cases q
  -- the first two statements
  refine blk_then hS hf hR G N b1 p1 s _ oa _ c1 F h1 fun f s1 p => ?_
  obtain ⟨o, ⟨C, L, rfl, hC, hCz, h2, hLz, hL, h3⟩, ⟨hh1, tk1, rfl⟩, rfl, oa1, F1, _⟩ := p
  show wpAny _ _ _ _ _ _
  obtain ⟨b11, vs1, as1, pl1, rp1, _⟩ := F1.val 1 x1 (.ow C) (m0 rfl) rfl
  obtain ⟨b12, vs2, as2, ⟨n2, pl2⟩, rp2, _⟩ := F1.val 2 x2 (.ow C) (m0 rfl) rfl
  have := noLs_rpAll rp1 hC
  subst this
  have := noLs_rpAll rp2 hC
  subst this
  have ne12 : oa1 1 ≠ oa1 2 := F1.od 1 2 C C (by decide) rfl rfl
  have g1 : g.get? (oa1 1) = none := F1.new _ (.inr (.inr ⟨1, C, rfl, rfl⟩))
  have g2 : g.get? (oa1 2) = none := F1.new _ (.inr (.inr ⟨2, C, rfl, rfl⟩))
  obtain ⟨mm1, ns1⟩ := id F1.ns
  have F1' : Fm g hh1 cx env [.un, .ow C, .fz (.list C), .un, .un] oa1 (VV env [.un, .ow C, .fz (.list C), .un, .un] oa1 fun b => (∃ o, hh1.get? b = some o) ∧ b ≠ oa1 2) :=
    F1.only (D := some (.list C)) (V₀ := fun b => (∃ o, hh1.get? b = some o) ∧ b ≠ oa1 2) hc hnms F1.top F1.ns g1 b11 pl1 rp1 (fun b q => q.1) fun d e => by
      cases e
      refine ⟨_, _, b12, .list pl2 rp2, fun b m q => ?_⟩
      have : b = oa1 2 := by simpa using m
      subst this
      rcases q with (q | q) | q
      · exact ns_ne_list ns1 ⟨n2, pl2⟩ q.symm
      · exact ne12 q.symm
      · exact q.2 rfl
  -- the next two
  refine blk_then hS hf hR G N b2 p2 _ _ oa1 _ c2 F1' h2 fun f s2 p => ?_
  obtain ⟨o, rfl, ⟨hh2, tk2, rfl⟩, rfl, oa2, F2, _⟩ := p
  show wpAny _ _ _ _ _ _
  obtain ⟨b21, us1, ds1, pu1, ru1, _⟩ := F2.val 1 x1 (.ow C) (m0 rfl) rfl
  have := noLs_rpAll ru1 hC
  subst this
  obtain ⟨v2, ds2, b22, r22, nv2⟩ := F2.val 2 x2 (.fz (.list C)) (m0 rfl) rfl
  obtain ⟨hb, us2, es2, rfl, ⟨nh, ph⟩, rh, rfl⟩ := isList_of_rp r22
  obtain ⟨b23, us3, ds3, ⟨n3, pu3⟩, ru3, nv3⟩ := F2.val 3 x3 (.ow L) (m0 rfl) rfl
  have notG : ∀ b, (¬ ((∃ o, hh1.get? b = some o) ∧ b ≠ oa1 2)) → g.get? b = none := fun b q => by
    by_cases c : b = oa1 2
    · rw [c]; exact g2
    · cases e : g.get? b with
      | none => rfl
      | some o => exact (q ⟨⟨o, F1.top b o e⟩, c⟩).elim
  have w1 : Wr env [.un, .ow C, .fz (.list C), .ow L, .un] oa2 (oa2 1) := .inr (.inr ⟨1, C, rfl, rfl⟩)
  have w3 : Wr env [.un, .ow C, .fz (.list C), .ow L, .un] oa2 (oa2 3) := .inr (.inr ⟨3, L, rfl, rfl⟩)
  have gh : g.get? hb = none := notG hb fun q => nv2 hb (by simp) (.inr q)
  have hb1 : hb ≠ oa2 1 := fun q => nv2 hb (by simp) (.inl (q ▸ w1))
  have hb3 : hb ≠ oa2 3 := fun q => nv2 hb (by simp) (.inl (q ▸ w3))
  have g21 : g.get? (oa2 1) = none := F2.new _ w1
  have g23 : g.get? (oa2 3) = none := F2.new _ w3
  have ne13 : oa2 1 ≠ oa2 3 := F2.od 1 3 C L (by decide) rfl rfl
  obtain ⟨mm2, ns2, e21⟩ := bdm (kd (i := 1) rfl) b21
  obtain ⟨mm2', ns2', e22⟩ := bdm (kd (i := 2) rfl) b22
  obtain ⟨mm2'', ns2'', e23⟩ := bdm (kd (i := 3) rfl) b23
  cases ns_unique ns2' ns2
  cases ns_unique ns2'' ns2
  have hlen3 := ru3.len
  rw [Array.length_toList] at hlen3
  have hlenh := rh.len
  rw [Array.length_toList] at hlenh
  -- the lists inside what was told
  have hX : ∀ a, (a ∈ ds3 ∧ ∃ us, hh2.PlainList a us ∧ us.size ≤ 1000) → g.get? a = none ∧ ∃ us, hh2.PlainList a us ∧ us.size ≤ 1000 := fun a q => ⟨notG a fun c => nv3 a q.1 (.inr c), q.2⟩
  have X1 : ∀ a, (a ∈ ds3 ∧ ∃ us, hh2.PlainList a us ∧ us.size ≤ 1000) → a ≠ oa2 1 := fun a q c => nv3 a q.1 (.inl (c ▸ w1))
  have X3 : ¬ (oa2 3 ∈ ds3 ∧ ∃ us, hh2.PlainList (oa2 3) us ∧ us.size ≤ 1000) := fun q => nv3 _ q.1 (.inl w3)
  have hit : ∀ v ∈ us3.toList, ∃ t x y a, v = .ref t ∧ PlainTup hh2 t #[x, y, .ref a] ∧ (a ∈ ds3 ∧ ∃ us, hh2.PlainList a us ∧ us.size ≤ 1000) := fun v hv => by
    obtain ⟨j, hj, e⟩ := List.getElem_of_mem hv
    have hj' : j < L.length := by rw [← ru3.len]; exact hj
    obtain ⟨v', bs, e1, r1, hbs⟩ := ru3.get (List.getElem?_eq_getElem hj')
    rw [List.getElem?_eq_getElem hj, e] at e1
    cases e1
    obtain ⟨x, y, rows, ed, hz⟩ := hL _ (List.getElem_mem hj')
    rw [ed] at r1
    obtain ⟨t, ws, rfl, pt, rw'⟩ := isTup_of_rp r1
    have hl3 := rw'.len
    obtain ⟨va, ba, ea, ra, hba⟩ := rw'.get (j := 2) (d := .list rows) rfl
    obtain ⟨a, us, cs, rfl, pa, rr, rfl⟩ := isList_of_rp ra
    have hus := rr.len
    rw [Array.length_toList] at hus
    have hws : ∃ vx vy, ws = #[vx, vy, .ref a] := by
      obtain ⟨wl⟩ := ws
      match wl, hl3, ea with
      | [vx, vy, vz], _, ea => cases ea; exact ⟨vx, vy, rfl⟩
      | [], hl3, _ => cases hl3
      | [_], hl3, _ => cases hl3
      | [_, _], hl3, _ => cases hl3
      | _ :: _ :: _ :: _ :: _, hl3, _ => simp at hl3
    obtain ⟨vx, vy, rfl⟩ := hws
    exact ⟨t, vx, vy, a, rfl, pt, hbs a (hba a (by simp)), us, pa, by omega⟩
  obtain ⟨rp, q1, q3, ap, cp, pos, q, px, ap2, cp2, pos2, px3, ap3, cp3, pos3, l1, l2, l3, rfl⟩ := midOf_some hm
  refine wpAny_execs_cons (wpAny_mono (mid_loop (X := fun a => a ∈ ds3 ∧ ∃ us, hh2.PlainList a us ∧ us.size ≤ 1000) hE hf hR G F2 hc (m0 (i := 4) rfl) (m0 (i := 3) rfl) (kd (i := 4) rfl) (kd (i := 3) rfl) ns2 e23 ⟨n3, pu3⟩ (by omega) hit hX X3 cei cec hp2 ce hpe l1) (fun fl s3 p => ?_) fun _ _ x => x.elim)
  obtain ⟨rfl, hh3, tk3, mm3, rfl, kb3, ns3, ag3, li3⟩ := p
  show wpAny _ _ _ _ _ _
  have lc3 : oa2 3 ≠ env.locals := fun c => ns_ne_list ns2 ⟨n3, pu3⟩ c.symm
  have pl3 : hh3.PlainList (oa2 3) us3 := ⟨n3, kb3 _ _ pu3 fun c => c.elim lc3 X3⟩
  have kg3 : KA g hh3 := fun b o e => kb3 b o (F2.top b o e) fun c => by
    rcases c with c | c
    · rw [c, F2.new _ (.inl rfl)] at e; cases e
    · rw [(hX b c).1] at e; cases e
  refine wpAny_execs_cons (wpAny_mono (mid_app hE hf hR G (F2.bare hc kg3 ⟨_, ns3⟩) hc (m0 (i := 3) rfl) (kd (i := 3) rfl) kg3 ns3 ((ag3 x3 hd34).trans e23) pl3 (by omega) ce2 hpe2 l2) (fun fl s4 p => ?_) fun _ _ x => x.elim)
  obtain ⟨rfl, hh4, tk4, rfl, kb4, ns4⟩ := p
  show wpAny _ _ _ _ _ _
  have kg4 : KA g hh4 := fun b o e => kb4 b o (kg3 b o e) fun c => by rw [c, g23] at e; cases e
  have plh : ∃ us, hh4.PlainList hb us ∧ us.size ≤ 2000 := by
    have : ∃ us, hh3.PlainList hb us ∧ us.size ≤ 2000 := by
      by_cases c : hb ∈ ds3
      · exact li3 hb ⟨c, us2, ⟨nh, ph⟩, by omega⟩
      · exact ⟨us2, ⟨nh, kb3 _ _ ph fun q => q.elim (fun q => ns_ne_list ns2 ⟨nh, ph⟩ q.symm) fun q => c q.1⟩, by omega⟩
    obtain ⟨us, ⟨nn, pp⟩, z⟩ := this
    exact ⟨us, ⟨nn, kb4 _ _ pp hb3⟩, z⟩
  obtain ⟨ush, plh, zh⟩ := plh
  refine wpAny_execs_cons (wpAny_mono (mid_clear (F2.bare hc kg4 ⟨_, ns4⟩) hc (m0 (i := 2) rfl) (kd (i := 2) rfl) kg4 ns4 ((ag3 x2 hd23).trans e22) plh zh l3) (fun fl s5 p => ?_) fun _ _ x => x.elim)
  obtain ⟨rfl, hh5, tk5, rfl, kb5, ns5⟩ := p
  show wpAny _ _ _ _ _ _
  have kg5 : KA g hh5 := fun b o e => kb5 b o (kg4 b o e) fun c => by rw [c, gh] at e; cases e
  have kbT : KB (fun b => ((b = env.locals ∨ (b ∈ ds3 ∧ ∃ us, hh2.PlainList b us ∧ us.size ≤ 1000)) ∨ b = oa2 3) ∨ b = hb) hh2 hh5 := fun b o e nb => kb5 b o (kb4 b o (kb3 b o e fun c => nb (.inl (.inl c))) fun c => nb (.inl (.inr c))) fun c => nb (.inr c)
  have nW1 : ¬ (((oa2 1 = env.locals ∨ (oa2 1 ∈ ds3 ∧ ∃ us, hh2.PlainList (oa2 1) us ∧ us.size ≤ 1000)) ∨ oa2 1 = oa2 3) ∨ oa2 1 = hb) := fun c => by
    rcases c with ((c | c) | c) | c
    · exact ns_ne_list ns2 pu1 c.symm
    · exact X1 _ c rfl
    · exact ne13 c
    · exact hb1 c.symm
  have ru5 : RpAll hh5 us1.toList C [] := readsAll_frz ru1 (frz_of kbT (fun b o c e ht => by
    rcases c with ((c | c) | c) | c
    · subst c; exact ns_notT ns2 _ e ht
    · obtain ⟨_, us, ⟨nn, pp⟩, _⟩ := c
      rw [e] at pp; cases pp
      obtain ⟨_, _, q⟩ := ht; simp at q
    · subst c; rw [e] at pu3; cases pu3
      obtain ⟨_, _, q⟩ := ht; simp at q
    · subst c; rw [e] at ph; cases ph
      obtain ⟨_, _, q⟩ := ht; simp at q) fun _ m => nomatch m)
  have pu5 : hh5.PlainList (oa2 1) us1 := let ⟨nn, pp⟩ := pu1; ⟨nn, kbT _ _ pp nW1⟩
  have F5 : Fm g hh5 cx env [.un, .ow C, .un, .un, .un] oa2 (VV env [.un, .ow C, .un, .un, .un] oa2 fun _ => False) :=
    F2.only (D := none) (V₀ := fun _ => False) hc hnms kg5 ⟨_, ns5⟩ g21 (.inl ⟨kd (i := 1) rfl, _, ns5, (ag3 x1 hd14).trans e21⟩) pu5 ru5 (fun _ q => q.elim) fun d e => by cases e
  refine wpAny_mono (sound_blk hS hf hR G N b3 p3 _ _ oa2 _ c3 F5 h3) (fun fl s6 p => ?_) fun _ _ x => x
  obtain ⟨o, ⟨t, rfl⟩, ⟨hh6, tk6, rfl⟩, v, rfl, ka6, r6⟩ := p
  obtain ⟨as6, r6⟩ := r6.rp
  cases r6
  exact ⟨rfl, ⟨hh6, tk6, rfl⟩, ka6⟩
end
end

section
set_option Elab.async false
open PySem PySem.Spec PyProof.Rows PySem.Calls

noncomputable def cx7 (p : Program) (loose : List Str) (c hd fn : Str) (d : DefRec) : Cx := ⟨fsOf p loose, [c, hd, fn], d.scope, nmsOf d.params.args d.scope⟩
/-- a law that spoils what it was told, in its pieces -/
noncomputable def law7Of (p : Program) (loose : List Str) (f x0 c hd fn r : Str) : Option (List PS × List PS × List PS × PE × PE) :=
  match (recsOf p).find? (·.name == f) with
  | some d => (compFn (fsOf p loose) d.params [] d.scope).bind fun _ =>
     gd (decide (nmsOf d.params.args d.scope = [x0, c, hd, fn, r]) && decide (d.params.args.length = 1) && (cellNames d.scope.names).isEmpty)
      ((midOf r fn hd ((d.body.drop 4).take 3)).bind fun es => (cB (cS 24 (cx7 p loose c hd fn d)) (d.body.take 2)).bind fun p1 => (cB (cS 24 (cx7 p loose c hd fn d)) ((d.body.drop 2).take 2)).bind fun p2 => (cB (cS 24 (cx7 p loose c hd fn d)) (d.body.drop 7)).bind fun p3 =>
        (cE 24 (cx7 p loose c hd fn d) es.1).bind fun e1 => (cE 24 (cx7 p loose c hd fn d) es.2.1).bind fun e2 => some (p1, p2, p3, e1, e2))
  | none => none

theorem split7 {α : Type} (l : List α) : l = l.take 2 ++ ((l.drop 2).take 2 ++ ((l.drop 4).take 3 ++ l.drop 7)) := by
  have e1 := (List.take_append_drop 2 l).symm
  have e2 := (List.take_append_drop 2 (l.drop 2)).symm
  have e3 := (List.take_append_drop 3 (l.drop 4)).symm
  rw [List.drop_drop] at e2 e3
  rw [← e3, ← e2, ← e1]

theorem fnOK_at {fs : Fs} {params : Arguments} {body : List Stmt} {sc : Scope} {F : Fn} (h : compFn fs params body sc = some F) : params = ⟨[], params.args, none, [], [], none, []⟩ ∧ FnOK fs params.args body sc F (nmsOf params.args sc) := by
  obtain ⟨hc, h⟩ := gd_some h
  obtain ⟨b, h1, rfl⟩ := Option.map_eq_some_iff.mp h
  simp only [Bool.and_eq_true, beq_iff_eq, Bool.not_eq_true', List.all_eq_true] at hc
  obtain ⟨c0, ⟨⟨⟨⟨⟨⟨c1, c2⟩, c3⟩, c4⟩, c5⟩, c6⟩, c7⟩, c8⟩ := hc
  refine ⟨plainArgs_is c0, ⟨c1, c2, c3, distinct_nodup c4, distinct_nodup c5, c7, ⟨_, rfl⟩, fun x hx => ?_, h1, by simp, by simp⟩⟩
  have hl : x ∈ localsOf sc.names := by
    rcases List.mem_append.mp hx with q | q
    · simpa using c6 x q
    · exact (List.mem_filter.mp q).1
  rcases localsOf_mem.mp hl with q | q
  · exact .inl (lookup_of_mem (distinct_nodup c5) q)
  · exact .inr (lookup_of_mem (distinct_nodup c5) q)

theorem Fm.cxm {g h : Heap} {cx cx' : Cx} {env : Env} {ρ : Rho} {oa : Nat → Addr} {V : Addr → Prop} (F : Fm g h cx env ρ oa V) (h1 : cx'.scope = cx.scope) (h2 : cx'.nms = cx.nms) : Fm g h cx' env ρ oa V where
  top := F.top
  hg := F.hg
  hb := F.hb
  hk := F.hk
  gl := by rw [h1]; exact F.gl
  ce := by rw [h1]; exact F.ce
  nm := by rw [h2]; exact F.nm
  len := by rw [h2]; exact F.len
  dist := by rw [h2]; exact F.dist
  kd := by rw [h2]; exact F.kd
  ns := F.ns
  cel := F.cel
  cap := F.cap
  new := F.new
  od := F.od
  val := by rw [h2]; exact F.val
  va := F.va
  wv := F.wv

/-- such a law called on its script -/
theorem run_law7 {prog : Program} {w : World} {p : Program} {loose : List Str} {mean : ExcName → Option Value} {mg mb : Str → Option Value} {s₁ : Shared} {f x0 c hd fn r : Str} {p1 p2 p3 : List PS} {e1 e2 : PE} {fa a : Addr} {vs : List Value} {ns : List Int} {m : Nat}
    (T : Top p loose mean mg mb s₁.heap) (hmg : mg f = some (.ref fa)) (ho : s₁.heap.get? a = some { cls := .type "list", data := .seq vs.toArray m }) (hI : IntsAre vs ns) (hT : law7Of p loose f x0 c hd fn r = some (p1, p2, p3, e1, e2)) (n : Nat) (hn : n ≤ 500)
    (hp2 : (lev (tabOf p loose) n).E (List.replicate 5 .un) (.const (.int 2)) fun d _ => d = .int 2) (hpe : (lev (tabOf p loose) n).E (List.replicate 5 .un) e1 fun _ _ => True) (hpe2 : (lev (tabOf p loose) n).E (List.replicate 5 .un) e2 fun _ _ => True)
    (h1 : blk (lev (tabOf p loose) n).S p1 [.fz (.list (ns.map .int)), .un, .un, .un, .un] fun o => ∃ C L, o = .next [.fz (.list (ns.map .int)), .ow C, .ow C, .un, .un] ∧ Law7 (tabOf p loose) n p2 p3 C L) :
    wpAny (model prog w) callerA (call (.ref fa) [.ref a] []) (fun v s' => v = .bool true ∧ Keeps s₁ s') NoE s₁ := by
  have G := gw_of T
  unfold law7Of at hT
  split at hT
  · rename_i d hfd
    obtain ⟨F0, hF0, hT⟩ := bind_some hT
    obtain ⟨hb, hT⟩ := gd_some hT
    simp only [Bool.and_eq_true, decide_eq_true_eq, List.isEmpty_iff] at hb
    obtain ⟨⟨hnms, hal⟩, hcn⟩ := hb
    obtain ⟨es, hmid, hT⟩ := bind_some hT
    obtain ⟨q1, hc1, hT⟩ := bind_some hT
    obtain ⟨q2, hc2, hT⟩ := bind_some hT
    obtain ⟨q3, hc3, hT⟩ := bind_some hT
    obtain ⟨r1, he1, hT⟩ := bind_some hT
    obtain ⟨r2, he2, hT⟩ := bind_some hT
    cases hT
    obtain ⟨hpar, K⟩ := fnOK_at hF0
    have hfm := List.mem_of_find?_eq_some hfd
    have hfn := List.find?_some hfd
    have : d.name = f := by simpa using hfn
    subst this
    obtain ⟨a', o, pm, code, doc, t1, t2, t3, t4⟩ := T.fn d hfm
    rw [hmg] at t1; cases t1
    rw [hpar] at t3
    have rv : RpAll s₁.heap [.ref a] [.list (ns.map PyData.int)] ([a] ++ []) := .cons (.list ho (by simpa using rp_ints hI)) .nil
    have hl : d.params.args.length = [Value.ref a].length := hal
    have nd' : (d.params.args.map (·.arg)).Nodup := by have := K.nd; obtain ⟨r, hpre⟩ := K.pre; rw [hpre] at this; exact (List.nodup_append.mp this).1
    have hcm : claimMargin = 300 := rfl
    refine wpAny_call (call_cells_ret (by show 1 + claimMargin < 1000; omega) t2 t3 G.lim t4 (bindArgs_plain hl nd') (fun x hx => ?_) (fun h₁ tk R Cl => ?_) K.cor K.gen K.kind)
    · have hx1 : x.1 ∈ d.params.args.map (·.arg) := by rw [← zip_fst (names := d.params.args.map (·.arg)) (vals := [Value.ref a]) (by simpa using hl)]; exact List.mem_map.mpr ⟨x, hx, rfl⟩
      obtain ⟨r, hpre⟩ := K.pre
      rcases K.lk x.1 (by rw [hpre]; exact List.mem_append_left _ hx1) with q | q
      · exact .inl q
      · obtain ⟨c, e⟩ := (cellsFrom_facts K.nds (s₁.heap.objs.size + 1)).1 x.1 (mem_of_lookup q)
        exact .inr ⟨q, by rw [e]; rfl⟩
    · have Fe := fm_enter (V₀ := fun _ => False) (f := d.name) (a := fa) (cd := code) K rv (fun _ _ q => q) (fun _ q => q.elim) (by rw [K.np, hal]; rfl) R Cl
      have hns : F0.ns - F0.np = 4 := by rw [K.ns, K.np, hnms, hal]; rfl
      rw [hns] at Fe
      have hcells : (envOfC d.name d.scope s₁.heap.objs.size fa code).cells = [] := by
        have e := cellsFrom_names d.scope.names (s₁.heap.objs.size + 1) []
        rw [hcn] at e
        show cellsFrom (s₁.heap.objs.size + 1) d.scope.names [] = []
        simpa using e
      have kl : ∀ x ∈ nmsOf d.params.args d.scope, d.scope.names.lookup x = some .local := fun x hx => by
        rcases K.lk x hx with q | q
        · exact q
        · have := cellNames_mem.mpr (mem_of_lookup q); rw [hcn] at this; cases this
      have ND := K.nd
      rw [hnms] at ND
      simp only [List.nodup_cons, List.mem_cons, List.not_mem_nil, or_false, not_or] at ND
      have hbare : bare (cx7 p loose c hd fn d) = List.replicate 5 .un := by unfold bare cx7; rw [hnms]; rfl
      have slots : slotOf (nmsOf d.params.args d.scope) fn = some 3 := by
        rw [hnms]
        unfold slotOf
        have n1 : (x0 == fn) = false := beq_eq_false_iff_ne.mpr ND.1.2.2.1
        have n2 : (c == fn) = false := beq_eq_false_iff_ne.mpr ND.2.1.2.1
        have n3 : (hd == fn) = false := beq_eq_false_iff_ne.mpr ND.2.2.1.1
        simp [List.findIdx?_cons, n1, n2, n3]
      have ci : cE 24 (cx7 p loose c hd fn d) (iterOf (cx7 p loose c hd fn d) (.Name fn es.2.2.2.2)).2 = some (.var 3) := by
        show (slotOf (cx7 p loose c hd fn d).nms fn).map PE.var = _
        rw [show slotOf (cx7 p loose c hd fn d).nms fn = some 3 from slots]; rfl
      have hb := split7 d.body
      rw [hb]
      refine wpAny_mono (law7_body (cx := cx7 p loose c hd fn d) (k := 24) (n := n) ((sound_all n).1 n (Nat.le_refl n)) (sound_all n).2 rfl ⟨rfl, ?_, ?_⟩ G (fun x hx q => ?_) hcells hnms (fun x hx => kl x hx) ND.2.2.1.2 ND.2.2.2.1 ND.2.1.2.2 (Fe.cxm (cx' := cx7 p loose c hd fn d) rfl rfl) hmid hc1 hc2 hc3 he1 he2 ci rfl (hbare ▸ hp2) (hbare ▸ hpe) (hbare ▸ hpe2) h1) (fun fl s' q => ?_) fun _ _ x => x
      · show 1 + claimMargin + 1 + n + 1 < 1000
        omega
      · show 4 + 3 + 16 * n + 200 < 9900
        omega
      · rw [show (envOfC d.name d.scope s₁.heap.objs.size fa code).kindOf x = d.scope.names.lookup x from rfl, kl x hx] at q; cases q
      · obtain ⟨rfl, ⟨h', tk', rfl⟩, ka⟩ := q
        exact ⟨rfl, h', tk', rfl, ka⟩
  · cases hT
end

section
set_option Elab.async false
set_option linter.all false
open PySem
theorem fmod_pos {a b : Int} (h : 0 < b) : a.fmod b = a % b := Int.fmod_eq_emod_of_nonneg _ (Int.le_of_lt h)
theorem fdiv_pos {a b : Int} (h : 0 < b) : a.fdiv b = a / b := Int.fdiv_eq_ediv_of_nonneg _ (Int.le_of_lt h)
noncomputable def notP (x : PyData) (Q : PyData → Tag → Prop) : Prop := onBool x fun b => Q (.bool (!b)) .old
noncomputable def contP (S : EvS) (r : List PS) (K : Out → Prop) (o : Out) : Prop := match o with | .next ρ' => blk S r ρ' K | .ret d t => K (.ret d t)
noncomputable def asgP (ρ : Rho) (i : Nat) (own : Bool) (R : Out → Prop) (d : PyData) (t : Tag) : Prop := match t, own, d with
      | .var _, _, _ => False
      | .fresh, true, .list l => R (.next (ρ.set i (.ow l)))
      | _, _, d => R (.next (ρ.set i (.fz d)))
noncomputable def appP (l : List PyData) (R : List PyData → Prop) (d : PyData) (t : Tag) : Prop := t.isVar = false ∧ l.length < sizeLine ∧ R (l ++ [d])
noncomputable def retP (ρ : Rho) (R : Out → Prop) (d : PyData) (t : Tag) : Prop := retOk ρ t ∧ R (.ret d t)
noncomputable def tupP (r : List (PyData × Tag)) (Q : PyData → Tag → Prop) : Prop := (r.all fun x => !x.2.isVar) = true ∧ r.length ≤ sizeLine ∧ Q (.tuple (r.map (·.1))) .old
noncomputable def lstP (r : List (PyData × Tag)) (Q : PyData → Tag → Prop) : Prop := (r.all fun x => !x.2.isVar) = true ∧ r.length ≤ sizeLine ∧ Q (.list (r.map (·.1))) .fresh
noncomputable def forP (ik : IK) (S : EvS) (tg : List Nat) (b : List PS) (ρ : Rho) (R : Out → Prop) (d : PyData) (t : Tag) : Prop := t.isVar = false ∧ itemsP ik d fun items => forGo S tg b items ρ R
noncomputable def callQ (r : List (PyData × Tag)) (Q : PyData → Tag → Prop) (d : PyData) (t : Tag) : Prop := ((r.any fun x => x.2.isVar) = true → noList d = true) ∧ Q d t
section
variable {T : Table} {n : Nat} {ρ : Rho} {Q : PyData → Tag → Prop} {R K : Out → Prop} {S : EvS} {i j : Int} {d : PyData} {t u : Tag} {l m : List PyData} {Qb : Bool → Prop} {P P' : Prop}
theorem Xa (h : Q d .old) : (lev T (n+1)).E ρ (.const d) Q := h
theorem Xb {k : Nat} (h0 : ρ[k]? = some (.fz d)) (h : Q d .old) : (lev T (n+1)).E ρ (.var k) Q := by show (match ρ[k]? with | some (.fz d) => Q d .old | some (.ow l) => Q (.list l) (.var k) | _ => False); rw [h0]; exact h
theorem Xc {k : Nat} (h0 : ρ[k]? = some (.ow l)) (h : Q (.list l) (.var k)) : (lev T (n+1)).E ρ (.var k) Q := by show (match ρ[k]? with | some (.fz d) => Q d .old | some (.ow l) => Q (.list l) (.var k) | _ => False); rw [h0]; exact h
theorem Xd {op : Operator} {a b : PE} (h : (lev T n).E ρ a fun x _ => (lev T n).E ρ b fun y _ => binP op x y Q) : (lev T (n+1)).E ρ (.bin op a b) Q := h
theorem Xf {a : PE} (h : (lev T n).E ρ a fun x _ => notP x Q) : (lev T (n+1)).E ρ (.not a) Q := h
theorem Xg {a b : PE} (h : (lev T n).E ρ a fun x _ => brP x ((lev T n).E ρ b Q) (Q (.bool false) .old)) : (lev T (n+1)).E ρ (.and a b) Q := h
theorem Xh {a b : PE} (h : (lev T n).E ρ a fun x _ => brP x (Q (.bool true) .old) ((lev T n).E ρ b Q)) : (lev T (n+1)).E ρ (.or a b) Q := h
theorem Xi {op : CmpOp} {a b : PE} (h : (lev T n).E ρ a fun x _ => (lev T n).E ρ b fun y _ => cmpP op x y fun c => Q (.bool c) .old) : (lev T (n+1)).E ρ (.cmp op a b) Q := h
theorem Xj {a : List PE} (h : evs ((lev T n).E ρ) a fun r => tupP r Q) : (lev T (n+1)).E ρ (.tup a) Q := h
theorem Xk {a : List PE} (h : evs ((lev T n).E ρ) a fun r => lstP r Q) : (lev T (n+1)).E ρ (.lst a) Q := h
theorem Xl {a b : PE} (h : (lev T n).E ρ a fun x _ => (lev T n).E ρ b fun y _ => subP x y Q) : (lev T (n+1)).E ρ (.sub a b) Q := h
theorem Xm {a : PE} {lo hi : Option PE} (h : (lev T n).E ρ a fun x _ => evo ((lev T n).E ρ) lo fun l => evo ((lev T n).E ρ) hi fun h => sliceP x l h Q) : (lev T (n+1)).E ρ (.slice a lo hi) Q := h
theorem Xn {f : Str} {fn : Fn} {a : List PE} (hT : T f = some fn) (h : evs ((lev T n).E ρ) a fun r => callP (lev T n).S fn (r.map (·.1)) (callQ r Q)) : (lev T (n+1)).E ρ (.call f a) Q := ⟨fn, hT, h⟩
theorem Xo {b : Bi} {a : List PE} (h : evs ((lev T n).E ρ) a fun r => biP b r Q) : (lev T (n+1)).E ρ (.bi b a) Q := h
theorem Xp {ev : PE → (PyData → Tag → Prop) → Prop} {Q : List (PyData × Tag) → Prop} (h : Q []) : evs ev [] Q := h
theorem Xq {ev : PE → (PyData → Tag → Prop) → Prop} {a : PE} {r : List PE} {Q : List (PyData × Tag) → Prop} (h : ev a fun d t => evs ev r fun l => Q ((d, t) :: l)) : evs ev (a :: r) Q := h
theorem Xr {ev : PE → (PyData → Tag → Prop) → Prop} {Q : Option PyData → Prop} (h : Q none) : evo ev none Q := h
theorem Xs {ev : PE → (PyData → Tag → Prop) → Prop} {a : PE} {Q : Option PyData → Prop} (h : ev a fun d _ => Q (some d)) : evo ev (some a) Q := h
theorem Xt (h : Q (.int (i + j)) .old) : binP .Add (.int i) (.int j) Q := h
theorem Xu (h : Q (.int (i - j)) .old) : binP .Sub (.int i) (.int j) Q := h
theorem Xv (h0 : IntMulOk i j) (h : Q (.int (i * j)) .old) : binP .Mult (.int i) (.int j) Q := ⟨h0, h⟩
theorem Xw (h0 : i.natAbs < 2 ^ 63) (h : Q (.int (i * j)) .old) : binP .Mult (.int i) (.int j) Q := ⟨IntMulOk.of_left (PyProof.Rows.intBits_le (k := 64) (Nat.lt_trans h0 (by decide))), h⟩
theorem Xx (h0 : 0 < j) (h1 : j.natAbs.log2 < 9000) (h : Q (.int (i / j)) .old) : binP .FloorDiv (.int i) (.int j) Q := ⟨⟨Int.ne_of_gt h0, h1⟩, by rw [fdiv_pos h0]; exact h⟩
theorem Xy (h0 : 0 < j) (h : Q (.int (i % j)) .old) : binP .Mod (.int i) (.int j) Q := ⟨Int.ne_of_gt h0, by rw [fmod_pos h0]; exact h⟩
theorem Ya (h : l.length + m.length ≤ sizeLine ∧ Q (.tuple (l ++ m)) .old) : binP .Add (.tuple l) (.tuple m) Q := h
theorem Yb (h : Qb (decide (i < j))) : cmpP .Lt (.int i) (.int j) Qb := h
theorem Yd (h : Qb (decide (j < i))) : cmpP .Gt (.int i) (.int j) Qb := h
theorem Yf (h : Qb (i == j)) : cmpP .Eq (.int i) (.int j) Qb := ⟨⟨rfl, rfl⟩, h⟩
theorem Yg (h : Qb (!(i == j))) : cmpP .NotEq (.int i) (.int j) Qb := ⟨⟨rfl, rfl⟩, h⟩
theorem Yh (h : Qb true) : cmpP .Is .none .none Qb := h
theorem Yi (h : Qb false) : cmpP .Is (.int i) .none Qb := h
theorem Yk (h : Qb false) : cmpP .IsNot .none .none Qb := h
theorem Yl (h : Qb true) : cmpP .IsNot (.int i) .none Qb := h
theorem Ym (h : Qb true) : cmpP .IsNot (.tuple l) .none Qb := h
theorem Yn (h : P) : brP (.bool true) P P' := ⟨fun _ => h, fun q => by cases q⟩
theorem Yo (h : P') : brP (.bool false) P P' := ⟨fun q => (by cases q), fun _ => h⟩
theorem Yp (h : Q (.bool false) .old) : notP (.bool true) Q := h
theorem Yq (h : Q (.bool true) .old) : notP (.bool false) Q := h
theorem Yt (h : l.length ≤ sizeLine ∧ Q (.int l.length) .old) : biP .len [(.list l, t)] Q := h
theorem Yu (h : l.length ≤ sizeLine ∧ Q (.int l.length) .old) : biP .len [(.tuple l, t)] Q := h
theorem Yv (h : Q (.int i.natAbs) .old) : biP .abs [(.int i, t)] Q := h
theorem Yw (h : l.length ≤ sizeLine ∧ Q (.tuple l) .old) : biP .tuple [(.list l, t)] Q := h
theorem Yy (h : l.length ≤ sizeLine ∧ Q (.list l) .fresh) : biP .list [(.list l, t)] Q := h
theorem Yz (h : l.length ≤ sizeLine ∧ Q (.list l) .fresh) : biP .list [(.tuple l, t)] Q := h
theorem Zb (h : Q (.int (if j < i then j else i)) .old) : biP .min2 [(.int i, t), (.int j, u)] Q := h
theorem Zc (h : Q (.bool true) .old) : biP (.isi "int") [(.int i, t)] Q := h
theorem Zd (h : Q (.bool false) .old) : biP (.isi "bool") [(.int i, t)] Q := h
theorem Ze (h : Q (.bool true) .old) : biP (.isi "tuple") [(.tuple l, t)] Q := h
theorem Zf (h : Q (.bool true) .old) : biP (.isi "list") [(.list l, t)] Q := h
theorem Zg {st : PS} {r : List PS} (h : S st ρ (contP S r K)) : blk S (st :: r) ρ K := h
theorem Zh (h : K (.next ρ)) : blk S [] ρ K := h
theorem Zi {r : List PS} (h : blk S r ρ K) : contP S r K (.next ρ) := h
theorem Zj {r : List PS} (h : K (.ret d t)) : contP S r K (.ret d t) := h
theorem Zk {k : Nat} {own : Bool} {a : PE} (h : (lev T n).E ρ a (asgP ρ k own R)) : (lev T (n+1)).S (.assign k own a) ρ R := h
theorem Zl {k : Nat} {own : Bool} (h : R (.next (ρ.set k (.fz d)))) : asgP ρ k own R d .old := h
theorem Zm {k : Nat} (h : R (.next (ρ.set k (.fz d)))) : asgP ρ k false R d .fresh := h
theorem Zn {k : Nat} (h : R (.next (ρ.set k (.ow l)))) : asgP ρ k true R (.list l) .fresh := h
theorem Zo {k : Nat} {a : PE} (h0 : ρ[k]? = some (.ow l)) (h : (lev T n).E ρ a (appP l fun l' => R (.next (ρ.set k (.ow l'))))) : (lev T (n+1)).S (.app k a) ρ R := by show (match ρ[k]? with | some (.ow l) => (lev T n).E ρ a fun d t => t.isVar = false ∧ l.length < sizeLine ∧ R (.next (ρ.set k (.ow (l ++ [d])))) | _ => False); rw [h0]; exact h
theorem Zp {k : Nat} (h0 : ρ[k]? = some (.ow l)) (h : R (.ret d (.var k))) : retP ρ R d (.var k) := ⟨(by show (match ρ[k]? with | some (.ow _) => True | _ => False); rw [h0]; trivial), h⟩
theorem Zq {R : List PyData → Prop} (h : l.length < sizeLine ∧ R (l ++ [d])) : appP l R d .old := ⟨rfl, h⟩
theorem Zr {R : List PyData → Prop} (h : l.length < sizeLine ∧ R (l ++ [d])) : appP l R d .fresh := ⟨rfl, h⟩
theorem Zs {c : PE} {a b : List PS} (h : (lev T n).E ρ c fun d _ => brP d (blk (lev T n).S a ρ R) (blk (lev T n).S b ρ R)) : (lev T (n+1)).S (.ite c a b) ρ R := h
theorem Zt {tg : List Nat} {ik : IK} {a : PE} {b : List PS} (h : (lev T n).E ρ a (forP ik (lev T n).S tg b ρ R)) : (lev T (n+1)).S (.for tg ik a b) ρ R := h
theorem Zu {tg : List Nat} {b : List PS} (h : (-(2 ^ 62) ≤ i ∧ i ≤ 1000000) ∧ forGo S tg b ((List.range i.toNat).map fun (i : Nat) => .int i) ρ R) : forP .range S tg b ρ R (.int i) .old := ⟨rfl, h⟩
theorem Zv {tg : List Nat} {b : List PS} (h : l.length ≤ sizeLine ∧ forGo S tg b l ρ R) : forP .plain S tg b ρ R (.list l) .old := ⟨rfl, h⟩
theorem Zw {tg : List Nat} {b : List PS} (h : l.length ≤ sizeLine ∧ forGo S tg b l ρ R) : forP .plain S tg b ρ R (.tuple l) .old := ⟨rfl, h⟩
theorem Zy {tg : List Nat} {b : List PS} (h : l.length ≤ sizeLine ∧ forGo S tg b l ρ R) : forP .plain S tg b ρ R (.list l) .fresh := ⟨rfl, h⟩
theorem Ja {a : PE} (h : (lev T n).E ρ a (retP ρ R)) : (lev T (n+1)).S (.ret a) ρ R := h
theorem Jb (h : R (.ret d .old)) : retP ρ R d .old := ⟨trivial, h⟩
theorem Jc (h : R (.ret d .fresh)) : retP ρ R d .fresh := ⟨trivial, h⟩
theorem Jd   (h : Q (.tuple []) .old) : tupP [] Q := ⟨by simp only [List.all_cons, List.all_nil, Bool.not_false, Bool.and_self], (by show 0 ≤ 16777216; decide), h⟩
theorem Je   (h : Q (.list []) .fresh) : lstP [] Q := ⟨by simp only [List.all_cons, List.all_nil, Bool.not_false, Bool.and_self], (by show 0 ≤ 16777216; decide), h⟩
theorem Jf {a0 : PyData} {t0 : Tag} (h0 : t0.isVar = false) (h : Q (.tuple [a0]) .old) : tupP [(a0, t0)] Q := ⟨by simp only [List.all_cons, List.all_nil, h0, Bool.not_false, Bool.and_self], (by show 1 ≤ 16777216; decide), h⟩
theorem Jg {a0 : PyData} {t0 : Tag} (h0 : t0.isVar = false) (h : Q (.list [a0]) .fresh) : lstP [(a0, t0)] Q := ⟨by simp only [List.all_cons, List.all_nil, h0, Bool.not_false, Bool.and_self], (by show 1 ≤ 16777216; decide), h⟩
theorem Jh {a0 : PyData} {t0 : Tag} {a1 : PyData} {t1 : Tag} (h0 : t0.isVar = false) (h1 : t1.isVar = false) (h : Q (.tuple [a0, a1]) .old) : tupP [(a0, t0), (a1, t1)] Q := ⟨by simp only [List.all_cons, List.all_nil, h0, h1, Bool.not_false, Bool.and_self], (by show 2 ≤ 16777216; decide), h⟩
theorem Ji {a0 : PyData} {t0 : Tag} {a1 : PyData} {t1 : Tag} (h0 : t0.isVar = false) (h1 : t1.isVar = false) (h : Q (.list [a0, a1]) .fresh) : lstP [(a0, t0), (a1, t1)] Q := ⟨by simp only [List.all_cons, List.all_nil, h0, h1, Bool.not_false, Bool.and_self], (by show 2 ≤ 16777216; decide), h⟩
theorem Jj {a0 : PyData} {t0 : Tag} {a1 : PyData} {t1 : Tag} {a2 : PyData} {t2 : Tag} (h0 : t0.isVar = false) (h1 : t1.isVar = false) (h2 : t2.isVar = false) (h : Q (.tuple [a0, a1, a2]) .old) : tupP [(a0, t0), (a1, t1), (a2, t2)] Q := ⟨by simp only [List.all_cons, List.all_nil, h0, h1, h2, Bool.not_false, Bool.and_self], (by show 3 ≤ 16777216; decide), h⟩
theorem Jl {a0 : PyData} {t0 : Tag} {a1 : PyData} {t1 : Tag} {a2 : PyData} {t2 : Tag} {a3 : PyData} {t3 : Tag} (h0 : t0.isVar = false) (h1 : t1.isVar = false) (h2 : t2.isVar = false) (h3 : t3.isVar = false) (h : Q (.tuple [a0, a1, a2, a3]) .old) : tupP [(a0, t0), (a1, t1), (a2, t2), (a3, t3)] Q := ⟨by simp only [List.all_cons, List.all_nil, h0, h1, h2, h3, Bool.not_false, Bool.and_self], (by show 4 ≤ 16777216; decide), h⟩
theorem Jm {a0 : PyData} {t0 : Tag} {a1 : PyData} {t1 : Tag} {a2 : PyData} {t2 : Tag} {a3 : PyData} {t3 : Tag} (h0 : t0.isVar = false) (h1 : t1.isVar = false) (h2 : t2.isVar = false) (h3 : t3.isVar = false) (h : Q (.list [a0, a1, a2, a3]) .fresh) : lstP [(a0, t0), (a1, t1), (a2, t2), (a3, t3)] Q := ⟨by simp only [List.all_cons, List.all_nil, h0, h1, h2, h3, Bool.not_false, Bool.and_self], (by show 4 ≤ 16777216; decide), h⟩
theorem Jn {a0 : PyData} {t0 : Tag} {a1 : PyData} {t1 : Tag} {a2 : PyData} {t2 : Tag} {a3 : PyData} {t3 : Tag} {a4 : PyData} {t4 : Tag} (h0 : t0.isVar = false) (h1 : t1.isVar = false) (h2 : t2.isVar = false) (h3 : t3.isVar = false) (h4 : t4.isVar = false) (h : Q (.tuple [a0, a1, a2, a3, a4]) .old) : tupP [(a0, t0), (a1, t1), (a2, t2), (a3, t3), (a4, t4)] Q := ⟨by simp only [List.all_cons, List.all_nil, h0, h1, h2, h3, h4, Bool.not_false, Bool.and_self], (by show 5 ≤ 16777216; decide), h⟩
theorem Jo {a0 : PyData} {t0 : Tag} {a1 : PyData} {t1 : Tag} {a2 : PyData} {t2 : Tag} {a3 : PyData} {t3 : Tag} {a4 : PyData} {t4 : Tag} (h0 : t0.isVar = false) (h1 : t1.isVar = false) (h2 : t2.isVar = false) (h3 : t3.isVar = false) (h4 : t4.isVar = false) (h : Q (.list [a0, a1, a2, a3, a4]) .fresh) : lstP [(a0, t0), (a1, t1), (a2, t2), (a3, t3), (a4, t4)] Q := ⟨by simp only [List.all_cons, List.all_nil, h0, h1, h2, h3, h4, Bool.not_false, Bool.and_self], (by show 5 ≤ 16777216; decide), h⟩
theorem Jq {a0 : PyData} {t0 : Tag} {a1 : PyData} {t1 : Tag} {a2 : PyData} {t2 : Tag} {a3 : PyData} {t3 : Tag} {a4 : PyData} {t4 : Tag} {a5 : PyData} {t5 : Tag} (h0 : t0.isVar = false) (h1 : t1.isVar = false) (h2 : t2.isVar = false) (h3 : t3.isVar = false) (h4 : t4.isVar = false) (h5 : t5.isVar = false) (h : Q (.list [a0, a1, a2, a3, a4, a5]) .fresh) : lstP [(a0, t0), (a1, t1), (a2, t2), (a3, t3), (a4, t4), (a5, t5)] Q := ⟨by simp only [List.all_cons, List.all_nil, h0, h1, h2, h3, h4, h5, Bool.not_false, Bool.and_self], (by show 6 ≤ 16777216; decide), h⟩
theorem Jr {a0 : PyData} {t0 : Tag} {a1 : PyData} {t1 : Tag} {a2 : PyData} {t2 : Tag} {a3 : PyData} {t3 : Tag} {a4 : PyData} {t4 : Tag} {a5 : PyData} {t5 : Tag} {a6 : PyData} {t6 : Tag} {a7 : PyData} {t7 : Tag} (h0 : t0.isVar = false) (h1 : t1.isVar = false) (h2 : t2.isVar = false) (h3 : t3.isVar = false) (h4 : t4.isVar = false) (h5 : t5.isVar = false) (h6 : t6.isVar = false) (h7 : t7.isVar = false) (h : Q (.list [a0, a1, a2, a3, a4, a5, a6, a7]) .fresh) : lstP [(a0, t0), (a1, t1), (a2, t2), (a3, t3), (a4, t4), (a5, t5), (a6, t6), (a7, t7)] Q := ⟨by simp only [List.all_cons, List.all_nil, h0, h1, h2, h3, h4, h5, h6, h7, Bool.not_false, Bool.and_self], (by show 8 ≤ 16777216; decide), h⟩
theorem Js {a0 : PyData} {t0 : Tag} {a1 : PyData} {t1 : Tag} {a2 : PyData} {t2 : Tag} {a3 : PyData} {t3 : Tag} {a4 : PyData} {t4 : Tag} {a5 : PyData} {t5 : Tag} {a6 : PyData} {t6 : Tag} {a7 : PyData} {t7 : Tag} {a8 : PyData} {t8 : Tag} (h0 : t0.isVar = false) (h1 : t1.isVar = false) (h2 : t2.isVar = false) (h3 : t3.isVar = false) (h4 : t4.isVar = false) (h5 : t5.isVar = false) (h6 : t6.isVar = false) (h7 : t7.isVar = false) (h8 : t8.isVar = false) (h : Q (.list [a0, a1, a2, a3, a4, a5, a6, a7, a8]) .fresh) : lstP [(a0, t0), (a1, t1), (a2, t2), (a3, t3), (a4, t4), (a5, t5), (a6, t6), (a7, t7), (a8, t8)] Q := ⟨by simp only [List.all_cons, List.all_nil, h0, h1, h2, h3, h4, h5, h6, h7, h8, Bool.not_false, Bool.and_self], (by show 9 ≤ 16777216; decide), h⟩
theorem Jt {r : List (PyData × Tag)} (hr : (r.any fun x => x.2.isVar) = false) (h : Q d t) : callQ r Q d t := ⟨fun q => (by rw [hr] at q; cases q), h⟩
theorem Ju {a : PyData} (h : Q a .old) : subP (.tuple (a :: l)) (.int 0) Q := by rw [sub_t0]; exact h
theorem Jv {a b : PyData} (h : Q b .old) : subP (.tuple (a :: b :: l)) (.int 1) Q := by rw [sub_t1]; exact h
theorem Jw {a b c : PyData} (h : Q c .old) : subP (.tuple (a :: b :: c :: l)) (.int 2) Q := by rw [sub_t2]; exact h
theorem Jx {a b c e : PyData} (h : Q e .old) : subP (.tuple (a :: b :: c :: e :: l)) (.int 3) Q := by rw [sub_t3]; exact h
theorem Jy {a b c e f : PyData} (h : Q f .old) : subP (.tuple (a :: b :: c :: e :: f :: l)) (.int 4) Q := by rw [sub_t4]; exact h
end
end

local macro_rules | `(tactic| walk_at "ga") => `(tactic| with_reducible (first | apply Xa | (apply Xb; with_unfolding_all exact rfl) | (apply Xc; with_unfolding_all exact rfl) | apply Xd | apply Xf | apply Xg | apply Xh | apply Xi | apply Xj | apply Xk | apply Xl | apply Xm | refine Xn (by assumption) ?_ | apply Xo | apply Xp | apply Xq | apply Xr | apply Xs | apply Xt | apply Xu | refine Xw (by decide) ?_ | refine Xx (by decide) (by decide) ?_ | refine Xy (by first | decide | omega) ?_ | apply Yb | apply Yd | apply Yf | apply Yh | apply Yi | apply Yk | apply Yl | apply Yn | apply Yo | apply Yp | apply Yq | apply Yt | apply Yu | apply Zg | apply Zh | apply Zi | apply Zj | apply Zk | apply Zl | apply Zm | apply Zn | (apply Zo; with_unfolding_all exact rfl) | (apply Zp; with_unfolding_all exact rfl) | apply Zq | apply Zr | apply Zs | apply Zt | apply Zu | apply Zv | apply Zw | apply Zy | apply Ja | apply Jb | apply Jc | apply Ju | apply Jv | apply Jw | apply Jx | apply Jy))
local macro_rules | `(tactic| walk_at "gb") => `(tactic| first | refine Je ?_ | refine Jf rfl ?_ | refine Jh rfl rfl ?_ | refine Jt rfl ?_ | dsimp only [List.set_cons_zero, List.set_cons_succ])
local macro_rules | `(tactic| walk_at "g") => `(tactic| repeat (first | walk_at "ga" | walk_at "gb"))


section
set_option Elab.async false
set_option linter.all false
set_option maxRecDepth 100000
open PySem
section
variable {T : Table} {n : Nat} {Q : PyData → Tag → Prop}

noncomputable def Tag.isOld : Tag → Bool
  | .old => true
  | _ => false
/-- a call, its end kept apart -/
theorem callP_r {S : EvS} {np ns : Nat} {b : List PS} {vs : List PyData} {ρ₀ : Rho} (h1 : vs.length = np) (h2 : vs.map Slot.fz ++ List.replicate (ns - np) Slot.un = ρ₀)
    (h : ∀ K : Out → Prop, (∀ d, Q d .old → K (.ret d .old)) → (∀ d t, Q d .fresh → t.isOld = false → K (.ret d t)) → (∀ ρ, Q .none .old → K (.next ρ)) → blk S b ρ₀ K) : callP S ⟨np, ns, b⟩ vs Q := by
  subst h2
  exact ⟨h1, h _ (fun d q => q) (fun d t q e => by cases t <;> first | exact q | cases e) fun ρ q => q⟩

theorem size_eq : sizeLine = 16777216 := rfl
theorem log2_le {a b : Nat} (h : a ≤ b) (h0 : a ≠ 0) : a.log2 ≤ b.log2 := by
  rw [Nat.le_log2 (by omega)]
  exact Nat.le_trans (Nat.log2_self_le h0) h
theorem log_of {b : Int} {k : Nat} (h0 : b ≠ 0) (h : b.natAbs < 2 ^ k) (hk : k ≤ 9000) : b.natAbs.log2 < 9000 := by
  have : b.natAbs.log2 < k := (Nat.log2_lt (by omega)).mpr h
  omega
/-! lists of whole numbers -/
theorem ints_map : ∀ (ns : List Int), intsOf (ns.map .int) = some ns
  | [] => rfl
  | i :: r => by show (intsOf (r.map .int)).map (i :: ·) = _; rw [ints_map r]; rfl
theorem canLay_ints : ∀ (ns : List Int), PyData.canLayAll0 (ns.map .int) = true
  | [] => rfl
  | i :: r => by show (true && PyData.canLayAll0 (r.map .int)) = true; rw [canLay_ints r]; rfl
theorem depth_ints : ∀ (ns : List Int), PyData.depthAll (ns.map .int) = 0
  | [] => rfl
  | i :: r => by show max 0 (PyData.depthAll (r.map .int)) = 0; rw [depth_ints r]; rfl
theorem shaped_ints (ns : List Int) : shapedP (.list (ns.map .int)) = true := by
  show (PyData.canLayAll0 (ns.map .int) && decide (PyData.depthAll (ns.map .int) + 1 ≤ 64)) = true
  rw [canLay_ints, depth_ints]
  rfl
theorem shaped_nil : shapedP (.list []) = true := rfl
theorem eqvAll_ints : ∀ (ns ms : List Int), PyData.eqvAll (ns.map .int) (ms.map .int) = (ns == ms)
  | [], [] => rfl
  | [], _ :: _ => rfl
  | _ :: _, [] => rfl
  | a :: r, b :: q => by show ((a == b) && PyData.eqvAll (r.map .int) (q.map .int)) = _; rw [eqvAll_ints r q]; rfl
theorem eqv_ints (ns ms : List Int) : PyData.eqv (.list (ns.map .int)) (.list (ms.map .int)) = (ns == ms) := eqvAll_ints ns ms

theorem Jz {ns : List Int} {k : Int} (h : 0 ≤ k ∧ k < ns.length ∧ ns.length ≤ 1000000) (hq : Q (.int (ns.getD k.toNat 0)) .old) : subP (.list (ns.map .int)) (.int k) Q := by
  have hlt : k.toNat < ns.length := by omega
  rw [sub_at (n := k.toNat) (d := .int (ns.getD k.toNat 0)) (seq_nat h.1 (by simpa using h.2.1)) (by rw [List.getElem?_map, List.getElem?_eq_getElem hlt]; simp [List.getD, hlt]) (by omega)]
  exact hq
theorem Ua {ns : List Int} {k : Int} (h : 0 ≤ k ∧ k < ns.length ∧ ns.length ≤ 1000000) (hq : Q (.int (ns.getD k.toNat 0)) .old) : subP (.tuple (ns.map .int)) (.int k) Q := by
  have hlt : k.toNat < ns.length := by omega
  rw [subt_at (n := k.toNat) (d := .int (ns.getD k.toNat 0)) (seq_nat h.1 (by simpa using h.2.1)) (by rw [List.getElem?_map, List.getElem?_eq_getElem hlt]; simp [List.getD, hlt]) (by omega)]
  exact hq
/-- some item of a list -/
theorem sub_any {l : List PyData} {k : Int} (h : 0 ≤ k ∧ k < l.length ∧ l.length ≤ 1000000) (hq : ∀ d ∈ l, Q d .old) : subP (.list l) (.int k) Q := by
  have hlt : k.toNat < l.length := by omega
  rw [sub_at (n := k.toNat) (seq_nat h.1 h.2.1) (List.getElem?_eq_getElem hlt) (by omega)]
  exact hq _ (List.getElem_mem hlt)

/-! loops -/
theorem for_go {S : EvS} {i : Nat} {b : List PS} {R : Out → Prop} (I : List PyData → Rho → Prop)
    (h : ∀ d r ρ, I (d :: r) ρ → ∀ K : Out → Prop, (∀ ρ', I r ρ' → K (.next ρ')) → (∀ d t, R (.ret d t) → K (.ret d t)) → blk S b (ρ.set i (.fz d)) K) (hR : ∀ ρ, I [] ρ → R (.next ρ)) :
    ∀ (items : List PyData) (ρ : Rho), I items ρ → forGo S [i] b items ρ R
  | [], ρ, h0 => hR ρ h0
  | d :: r, ρ, h0 => ⟨[d], rfl, h d r ρ h0 _ (fun ρ' h1 => for_go I h hR r ρ' h1) fun _ _ x => x⟩
theorem for_range {S : EvS} {i : Nat} {b : List PS} {R : Out → Prop} {N : Nat} (I : Nat → Rho → Prop)
    (h : ∀ k ρ, k < N → I k ρ → ∀ K : Out → Prop, (∀ ρ', I (k + 1) ρ' → K (.next ρ')) → (∀ d t, R (.ret d t) → K (.ret d t)) → blk S b (ρ.set i (.fz (.int (k : Nat)))) K) (hR : ∀ ρ, I N ρ → R (.next ρ)) {ρ : Rho} (h0 : I 0 ρ) :
    forGo S [i] b ((List.range N).map fun (i : Nat) => .int i) ρ R := by
  have key : ∀ (m s : Nat) (ρ : Rho), s + m = N → I s ρ → forGo S [i] b ((List.range' s m).map fun (i : Nat) => .int i) ρ R := by
    intro m
    induction m with
    | zero => intro s ρ e hI; subst e; exact hR ρ hI
    | succ m ih =>
      intro s ρ e hI
      rw [List.range'_succ, List.map_cons]
      exact ⟨[.int (s : Nat)], rfl, h s ρ (by omega) hI _ (fun ρ' h1 => ih (s + 1) ρ' (by omega) h1) fun _ _ x => x⟩
  rw [List.range_eq_range']
  exact key N 0 ρ (by omega) h0

/-! the laws' own helpers -/
noncomputable def f__law_cell_at : Fn := ⟨2, 2, [
  .ite (.cmp .Eq (.bi .len [(.var 0)]) (.const (.int 0))) [
    .ret (.var 1)] [],
  .ret (.bin .Add (.sub (.var 0) (.bin .Mod (.var 1) (.bi .len [(.var 0)]))) (.bin .Mult (.const (.int 3)) (.bin .FloorDiv (.var 1) (.bi .len [(.var 0)]))))]⟩
noncomputable def f__law_whole : Fn := ⟨1, 1, [
  .ret (.and (.bi (.isi "int") [(.var 0)]) (.not (.bi (.isi "bool") [(.var 0)])))]⟩

theorem sp_whole {i : Int} (h : Q (.bool true) .old) : callP (lev T (n + 5)).S f__law_whole [.int i] Q := by
  refine callP_r (ρ₀ := [.fz _]) rfl rfl fun K hK _ _ => ?_
  repeat (first | with_reducible (first | apply Zc | apply Zd) | walk_at "ga" | walk_at "gb")
  exact hK _ h

theorem sp_cell {ns : List Int} {k : Int} (hl : ns.length ≤ 63) (hk : 0 ≤ k) (h : ∀ c, Q (.int c) .old) : callP (lev T (n + 6)).S f__law_cell_at [.list (ns.map .int), .int k] Q := by
  refine callP_r (ρ₀ := [.fz _, .fz _]) rfl rfl fun K hK _ _ => ?_
  have hsz : (ns.map PyData.int).length ≤ sizeLine := by rw [List.length_map, size_eq]; omega
  repeat (first | with_reducible (first | apply Zc | apply Zd) | walk_at "ga" | walk_at "gb")
  refine ⟨hsz, ?_⟩
  repeat (first | with_reducible (first | apply Zc | apply Zd) | walk_at "ga" | walk_at "gb")
  refine ⟨fun q => ?_, fun q => ?_⟩
  · repeat (first | with_reducible (first | apply Zc | apply Zd) | walk_at "ga" | walk_at "gb")
    exact hK _ (h _)
  · have h0 : ns.length ≠ 0 := by simpa using q
    repeat (first | with_reducible (first | apply Zc | apply Zd) | walk_at "ga" | walk_at "gb")
    refine ⟨hsz, ?_⟩
    rw [List.length_map]
    have hp : (0 : Int) < ns.length := by omega
    have hm1 := Int.emod_nonneg k (by omega : (ns.length : Int) ≠ 0)
    have hm2 := Int.emod_lt_of_pos k hp
    repeat (first | with_reducible (first | apply Zc | apply Zd) | walk_at "ga" | walk_at "gb")
    refine Jz (by omega) ?_
    repeat (first | with_reducible (first | apply Zc | apply Zd) | walk_at "ga" | walk_at "gb")
    refine ⟨hsz, ?_⟩
    rw [List.length_map]
    refine Xx hp ?_ ?_
    · rw [Int.natAbs_natCast]
      exact Nat.lt_of_le_of_lt (log2_le hl h0) (by decide)
    repeat (first | with_reducible (first | apply Zc | apply Zd) | walk_at "ga" | walk_at "gb")
    exact hK _ (h _)

noncomputable def f__law_stream : Fn := ⟨2, 5, [
  .assign 2 true (.lst []),
  .assign 3 false (.bin .Add (.bin .Mod (.var 0) (.const (.int 2147483647))) (.const (.int 48271))),
  .for [4] .range (.bin .Add (.var 1) (.const (.int 1))) [
    .assign 3 false (.bin .Mod (.bin .Add (.bin .Add (.bin .Add (.bin .Mult (.var 3) (.var 3)) (.bin .Mult (.const (.int 48271)) (.var 3))) (.bin .Mult (.const (.int 7)) (.var 4))) (.const (.int 1))) (.const (.int 2147483647))),
    .app 2 (.var 3)],
  .ret (.slice (.var 2) (some (.const (.int 1))) none)]⟩
theorem slice_from1 {a : PyData} {l : List PyData} (h : l.length < sizeLine) (hq : Q (.list l) .fresh) : sliceP (.list (a :: l)) (some (.int 1)) none Q := ⟨by decide, h, hq⟩
theorem mod_bd (x : Int) {m : Int} (hm : 0 < m) : 0 ≤ x % m ∧ x % m < m := ⟨Int.emod_nonneg x (Int.ne_of_gt hm), Int.emod_lt_of_pos x hm⟩

theorem sp_stream {c : Int} {m : Nat} (hm : m ≤ 1000) (h : ∀ xs : List Int, xs.length = m → (∀ x ∈ xs, 0 ≤ x ∧ x < 2147483647) → Q (.list (xs.map .int)) .fresh) : callP (lev T (n + 9)).S f__law_stream [.int c, .int m] Q := by
  refine callP_r (ρ₀ := [.fz _, .fz _, .un, .un, .un]) rfl rfl fun K _ hK _ => ?_
  repeat (first | with_reducible (first | apply Zc | apply Zd) | walk_at "ga" | walk_at "gb")
  have e1 := mod_bd c (by decide : (0 : Int) < 2147483647)
  refine ⟨by omega, for_range (fun k ρ => ∃ (l : List Int) (x : Int) (y : Slot), ρ = [.fz (.int c), .fz (.int m), .ow (l.map .int), .fz (.int x), y] ∧ l.length = k ∧ (∀ x ∈ l, 0 ≤ x ∧ x < 2147483647) ∧ 0 ≤ x ∧ x < 2147600000) ?_ ?_ ⟨[], _, _, rfl, rfl, (fun _ m => (nomatch m)), by omega, by omega⟩⟩
  · rintro k ρ hk ⟨l, x, y, rfl, hl, hb, h1, h2⟩ K' hn _
    dsimp only [List.set_cons_zero, List.set_cons_succ]
    repeat (first | with_reducible (first | apply Zc | apply Zd) | walk_at "ga" | walk_at "gb")
    refine Xw (by omega) ?_
    repeat (first | with_reducible (first | apply Zc | apply Zd) | walk_at "ga" | walk_at "gb")
    generalize hz : (x * x + 48271 * x + 7 * (k : Int) + 1) % 2147483647 = z
    have z1 := mod_bd (x * x + 48271 * x + 7 * (k : Int) + 1) (by decide : (0 : Int) < 2147483647)
    rw [hz] at z1
    refine ⟨by rw [List.length_map, size_eq]; omega, ?_⟩
    repeat (first | with_reducible (first | apply Zc | apply Zd) | walk_at "ga" | walk_at "gb")
    refine hn _ ⟨l ++ [z], z, _, by rw [List.map_append]; rfl, by simp [hl], fun w hw => ?_, z1.1, by omega⟩
    rcases List.mem_append.mp hw with q | q
    · exact hb w q
    · cases List.mem_singleton.mp q; exact z1
  · rintro ρ ⟨l, x, y, rfl, hl, hb, h1, h2⟩
    repeat (first | with_reducible (first | apply Zc | apply Zd) | walk_at "ga" | walk_at "gb")
    have e : ((m : Int) + 1).toNat = m + 1 := by omega
    rw [e] at hl
    match l, hl, hb with
    | a :: r, hl, hb =>
      simp only [List.length_cons, Nat.add_right_cancel_iff] at hl
      refine slice_from1 (by rw [List.length_map, size_eq]; omega) ?_
      repeat (first | with_reducible (first | apply Zc | apply Zd) | walk_at "ga" | walk_at "gb")
      exact hK _ _ (h r hl fun w hw => hb w (by simp [hw])) rfl
end
end

section
set_option Elab.async false
set_option linter.all false
set_option maxRecDepth 100000
open PySem
section
variable {T : Table} {n : Nat} {Q : PyData → Tag → Prop}
noncomputable def f__law_task_by_8 : List PS := [.ret (.tup [(.var 1), (.var 2), (.var 3), (.bi .tuple [(.var 5)])])]
noncomputable def f__law_task_by_7f_1 : List PS := (.app 5 (.sub (.lst [(.bin .Mod (.bin .FloorDiv (.sub (.var 0) (.bin .Add (.const (.int 4)) (.var 6))) (.const (.int 5))) (.bin .Add (.var 2) (.const (.int 1)))), (.bin .Mod (.bin .FloorDiv (.sub (.var 0) (.bin .Add (.const (.int 4)) (.var 6))) (.const (.int 5))) (.bin .Add (.var 2) (.const (.int 1)))), (.const (.int 0)), (.var 2), (.var 3)]) (.bin .Mod (.sub (.var 0) (.bin .Add (.const (.int 4)) (.var 6))) (.const (.int 5)))) : PS) :: []
noncomputable def f__law_task_by_7 : List PS := (.for [6] .range (.var 4) f__law_task_by_7f_1 : PS) :: f__law_task_by_8
noncomputable def f__law_task_by_6 : List PS := (.assign 5 true (.lst []) : PS) :: f__law_task_by_7
noncomputable def f__law_task_by_5 : List PS := (.assign 4 false (.sub (.lst [(.const (.int 0)), (.const (.int 1)), (.const (.int 1)), (.const (.int 2)), (.const (.int 3)), (.const (.int 1)), (.const (.int 0)), (.const (.int 12)), (.const (.int 11))]) (.bin .Mod (.sub (.var 0) (.const (.int 3))) (.const (.int 9)))) : PS) :: f__law_task_by_6
noncomputable def f__law_task_by_4 : List PS := (.assign 3 false (.sub (.lst [(.var 2), (.const (.int 0)), (.bin .FloorDiv (.var 2) (.const (.int 2))), (.bin .Mod (.bin .FloorDiv (.sub (.var 0) (.const (.int 2))) (.const (.int 4))) (.bin .Add (.var 2) (.const (.int 1))))]) (.bin .Mod (.sub (.var 0) (.const (.int 2))) (.const (.int 4)))) : PS) :: f__law_task_by_5
noncomputable def f__law_task_by_3 : List PS := (.assign 2 false (.sub (.lst [(.const (.int 1)), (.const (.int 10)), (.const (.int 100)), (.bin .Add (.const (.int 1)) (.bin .Mod (.bin .FloorDiv (.sub (.var 0) (.const (.int 1))) (.const (.int 6))) (.const (.int 20)))), (.bin .Add (.const (.int 1)) (.bin .Mod (.bin .FloorDiv (.sub (.var 0) (.const (.int 1))) (.const (.int 6))) (.bin .Pow (.const (.int 10)) (.const (.int 6))))), (.bin .Pow (.const (.int 10)) (.const (.int 6)))]) (.bin .Mod (.sub (.var 0) (.const (.int 1))) (.const (.int 6)))) : PS) :: f__law_task_by_4
noncomputable def f__law_task_by_2a_1 : List PS := (.assign 1 false (.bin .Add (.const (.int 1)) (.bin .Mod (.bin .FloorDiv (.sub (.var 0) (.const (.int 0))) (.const (.int 25))) (.const (.int 1000)))) : PS) :: []
noncomputable def f__law_task_by_2 : List PS := (.ite (.cmp .Eq (.bin .Mod (.bin .FloorDiv (.sub (.var 0) (.const (.int 0))) (.const (.int 5))) (.const (.int 5))) (.const (.int 0))) f__law_task_by_2a_1 [] : PS) :: f__law_task_by_3
noncomputable def f__law_task_by_1 : List PS := (.assign 1 false (.bin .Add (.const (.int 1)) (.bin .Mod (.sub (.var 0) (.const (.int 0))) (.const (.int 5)))) : PS) :: f__law_task_by_2
noncomputable def f__law_task_by : Fn := ⟨1, 7, f__law_task_by_1⟩

/-- a task as the laws build it -/
structure TaskOk (w m c : Int) (ps : List Int) : Prop where
  w1 : 1 ≤ w
  w2 : w ≤ 1000
  m1 : 1 ≤ m
  m2 : m ≤ 1000000
  c1 : 0 ≤ c
  c2 : c ≤ m
  pl : ps.length ≤ 12
  pb : ∀ p ∈ ps, 0 ≤ p ∧ p ≤ m
noncomputable def taskD (w m c : Int) (ps : List Int) : PyData := .tuple [.int w, .int m, .int c, .tuple (ps.map .int)]


theorem tb_aux {k L : Nat} {j : Int} (hk : k < j.toNat) (hj : 0 ≤ j ∧ j ≤ 12) (hx : L = 16) : 0 ≤ 4 + (k : Int) ∧ 4 + (k : Int) < L ∧ L ≤ 1000000 := by omega
theorem tb_tail {K : Out → Prop} {xs : List Int} {w m c j : Int} {y z : Slot} (hx : xs.length = 16) (hj : 0 ≤ j ∧ j ≤ 12) (h1 : 1 ≤ m) (hc : 0 ≤ c ∧ c ≤ m)
    (hK : ∀ ps : List Int, ps.length ≤ 12 → (∀ p ∈ ps, 0 ≤ p ∧ p ≤ m) → K (.ret (taskD w m c ps) .old)) :
    blk (lev T (n + 9)).S f__law_task_by_6 [.fz (.list (xs.map .int)), .fz (.int w), .fz (.int m), .fz (.int c), .fz (.int j), y, z] K := by
  delta f__law_task_by_6
  repeat (first | with_reducible (first | apply Yw) | walk_at "ga" | refine Jm rfl rfl rfl rfl ?_ | refine Jo rfl rfl rfl rfl rfl ?_ | refine Jq rfl rfl rfl rfl rfl rfl ?_ | refine Js rfl rfl rfl rfl rfl rfl rfl rfl rfl ?_ | refine Jl rfl rfl rfl rfl ?_ | walk_at "gb")
  delta f__law_task_by_7
  repeat (first | with_reducible (first | apply Yw) | walk_at "ga" | refine Jm rfl rfl rfl rfl ?_ | refine Jo rfl rfl rfl rfl rfl ?_ | refine Jq rfl rfl rfl rfl rfl rfl ?_ | refine Js rfl rfl rfl rfl rfl rfl rfl rfl rfl ?_ | refine Jl rfl rfl rfl rfl ?_ | walk_at "gb")
  refine ⟨by omega, for_range (fun k ρ => ∃ (l : List Int) (z : Slot), ρ = [.fz (.list (xs.map .int)), .fz (.int w), .fz (.int m), .fz (.int c), .fz (.int j), .ow (l.map .int), z] ∧ l.length = k ∧ ∀ p ∈ l, 0 ≤ p ∧ p ≤ m) ?_ ?_ ⟨[], _, rfl, rfl, fun _ m => (nomatch m)⟩⟩
  · rintro k ρ hk ⟨l, z, rfl, hl, hb⟩ K' hn _
    have hi := tb_aux hk hj hx
    delta f__law_task_by_7f_1
    repeat (first | with_reducible (first | apply Yw) | walk_at "ga" | refine Jm rfl rfl rfl rfl ?_ | refine Jo rfl rfl rfl rfl rfl ?_ | refine Jq rfl rfl rfl rfl rfl rfl ?_ | refine Js rfl rfl rfl rfl rfl rfl rfl rfl rfl ?_ | refine Jl rfl rfl rfl rfl ?_ | walk_at "gb")
    refine Jz hi ?_
    repeat (first | with_reducible (first | apply Yw) | walk_at "ga" | refine Jm rfl rfl rfl rfl ?_ | refine Jo rfl rfl rfl rfl rfl ?_ | refine Jq rfl rfl rfl rfl rfl rfl ?_ | refine Js rfl rfl rfl rfl rfl rfl rfl rfl rfl ?_ | refine Jl rfl rfl rfl rfl ?_ | walk_at "gb")
    refine Jz hi ?_
    repeat (first | with_reducible (first | apply Yw) | walk_at "ga" | refine Jm rfl rfl rfl rfl ?_ | refine Jo rfl rfl rfl rfl rfl ?_ | refine Jq rfl rfl rfl rfl rfl rfl ?_ | refine Js rfl rfl rfl rfl rfl rfl rfl rfl rfl ?_ | refine Jl rfl rfl rfl rfl ?_ | walk_at "gb")
    refine Jz hi ?_
    repeat (first | with_reducible (first | apply Yw) | walk_at "ga" | refine Jm rfl rfl rfl rfl ?_ | refine Jo rfl rfl rfl rfl rfl ?_ | refine Jq rfl rfl rfl rfl rfl rfl ?_ | refine Js rfl rfl rfl rfl rfl rfl rfl rfl rfl ?_ | refine Jl rfl rfl rfl rfl ?_ | walk_at "gb")
    generalize xs.getD (4 + (k : Int)).toNat 0 = x
    have e1 := mod_bd x (by decide : (0 : Int) < 5)
    have e3 := mod_bd (x / 5) (by omega : 0 < m + 1)
    refine sub_any ⟨e1.1, e1.2, by show 5 ≤ 1000000; decide⟩ ?_
    have fin : ∀ p : Int, 0 ≤ p → p ≤ m → (l.map PyData.int).length < sizeLine ∧ K' (.next [.fz (.list (xs.map .int)), .fz (.int w), .fz (.int m), .fz (.int c), .fz (.int j), .ow (l.map .int ++ [.int p]), .fz (.int k)]) := fun p p1 p2 =>
      ⟨by rw [List.length_map, size_eq]; omega, hn _ ⟨l ++ [p], _, by rw [List.map_append]; rfl, by simp [hl], fun q hq => (List.mem_append.mp hq).elim (hb q) fun r => by cases List.mem_singleton.mp r; exact ⟨p1, p2⟩⟩⟩
    intro d hd
    have hd : ∃ p, d = .int p ∧ 0 ≤ p ∧ p ≤ m := by
      simp only [List.mem_cons, List.not_mem_nil, or_false] at hd
      rcases hd with rfl | rfl | rfl | rfl | rfl <;> exact ⟨_, rfl, by omega, by omega⟩
    obtain ⟨p, rfl, p1, p2⟩ := hd
    refine Zq ⟨(fin p p1 p2).1, ?_⟩
    repeat (first | with_reducible (first | apply Yw) | walk_at "ga" | refine Jm rfl rfl rfl rfl ?_ | refine Jo rfl rfl rfl rfl rfl ?_ | refine Jq rfl rfl rfl rfl rfl rfl ?_ | refine Js rfl rfl rfl rfl rfl rfl rfl rfl rfl ?_ | refine Jl rfl rfl rfl rfl ?_ | walk_at "gb")
    exact (fin p p1 p2).2
  · rintro ρ ⟨l, z, rfl, hl, hb⟩
    refine Zi ?_
    delta f__law_task_by_8
    repeat (first | with_reducible (first | apply Yw) | walk_at "ga" | refine Jm rfl rfl rfl rfl ?_ | refine Jo rfl rfl rfl rfl rfl ?_ | refine Jq rfl rfl rfl rfl rfl rfl ?_ | refine Js rfl rfl rfl rfl rfl rfl rfl rfl rfl ?_ | refine Jl rfl rfl rfl rfl ?_ | walk_at "gb")
    refine ⟨by rw [List.length_map, size_eq]; omega, ?_⟩
    repeat (first | with_reducible (first | apply Yw) | walk_at "ga" | refine Jm rfl rfl rfl rfl ?_ | refine Jo rfl rfl rfl rfl rfl ?_ | refine Jq rfl rfl rfl rfl rfl rfl ?_ | refine Js rfl rfl rfl rfl rfl rfl rfl rfl rfl ?_ | refine Jl rfl rfl rfl rfl ?_ | walk_at "gb")
    exact hK l (by omega) hb

theorem tb_mid {K : Out → Prop} {xs : List Int} {w : Int} {s2 s3 s4 y z : Slot} (hx : xs.length = 16)
    (hK : ∀ m c ps, 1 ≤ m → m ≤ 1000000 → 0 ≤ c → c ≤ m → ps.length ≤ 12 → (∀ p ∈ ps, 0 ≤ p ∧ p ≤ m) → K (.ret (taskD w m c ps) .old)) :
    blk (lev T (n + 9)).S f__law_task_by_3 [.fz (.list (xs.map .int)), .fz (.int w), s2, s3, s4, y, z] K := by
  have i1 : (0 : Int) ≤ 1 ∧ 1 < (xs.length : Int) ∧ xs.length ≤ 1000000 := by omega
  have i2 : (0 : Int) ≤ 2 ∧ 2 < (xs.length : Int) ∧ xs.length ≤ 1000000 := by omega
  have i3 : (0 : Int) ≤ 3 ∧ 3 < (xs.length : Int) ∧ xs.length ≤ 1000000 := by omega
  have fin : ∀ m : Int, 1 ≤ m ∧ m ≤ 1000000 → blk (lev T (n + 9)).S f__law_task_by_4 [.fz (.list (xs.map .int)), .fz (.int w), .fz (.int m), s3, s4, y, z] K := by
    intro m hm
    have fin2 : ∀ c : Int, 0 ≤ c ∧ c ≤ m → blk (lev T (n + 9)).S f__law_task_by_5 [.fz (.list (xs.map .int)), .fz (.int w), .fz (.int m), .fz (.int c), s4, y, z] K := by
      intro c hc
      delta f__law_task_by_5
      repeat (first | with_reducible (first | apply Yw) | walk_at "ga" | refine Jm rfl rfl rfl rfl ?_ | refine Jo rfl rfl rfl rfl rfl ?_ | refine Jq rfl rfl rfl rfl rfl rfl ?_ | refine Js rfl rfl rfl rfl rfl rfl rfl rfl rfl ?_ | refine Jl rfl rfl rfl rfl ?_ | walk_at "gb")
      refine Jz i3 ?_
      repeat (first | with_reducible (first | apply Yw) | walk_at "ga" | refine Jm rfl rfl rfl rfl ?_ | refine Jo rfl rfl rfl rfl rfl ?_ | refine Jq rfl rfl rfl rfl rfl rfl ?_ | refine Js rfl rfl rfl rfl rfl rfl rfl rfl rfl ?_ | refine Jl rfl rfl rfl rfl ?_ | walk_at "gb")
      generalize xs.getD (Int.toNat 3) 0 = x
      have d1 := mod_bd x (by decide : (0 : Int) < 9)
      refine sub_any ⟨d1.1, d1.2, by show 9 ≤ 1000000; decide⟩ ?_
      intro d hd
      have hd : ∃ j, d = .int j ∧ 0 ≤ j ∧ j ≤ 12 := by
        simp only [List.mem_cons, List.not_mem_nil, or_false] at hd
        rcases hd with rfl | rfl | rfl | rfl | rfl | rfl | rfl | rfl | rfl <;> exact ⟨_, rfl, by decide, by decide⟩
      obtain ⟨j, rfl, hj⟩ := hd
      repeat (first | with_reducible (first | apply Yw) | walk_at "ga" | refine Jm rfl rfl rfl rfl ?_ | refine Jo rfl rfl rfl rfl rfl ?_ | refine Jq rfl rfl rfl rfl rfl rfl ?_ | refine Js rfl rfl rfl rfl rfl rfl rfl rfl rfl ?_ | refine Jl rfl rfl rfl rfl ?_ | walk_at "gb")
      exact tb_tail hx hj hm.1 hc fun ps => hK m c ps hm.1 hm.2 hc.1 hc.2
    delta f__law_task_by_4
    repeat (first | with_reducible (first | apply Yw) | walk_at "ga" | refine Jm rfl rfl rfl rfl ?_ | refine Jo rfl rfl rfl rfl rfl ?_ | refine Jq rfl rfl rfl rfl rfl rfl ?_ | refine Js rfl rfl rfl rfl rfl rfl rfl rfl rfl ?_ | refine Jl rfl rfl rfl rfl ?_ | walk_at "gb")
    refine Jz i2 ?_
    repeat (first | with_reducible (first | apply Yw) | walk_at "ga" | refine Jm rfl rfl rfl rfl ?_ | refine Jo rfl rfl rfl rfl rfl ?_ | refine Jq rfl rfl rfl rfl rfl rfl ?_ | refine Js rfl rfl rfl rfl rfl rfl rfl rfl rfl ?_ | refine Jl rfl rfl rfl rfl ?_ | walk_at "gb")
    refine Jz i2 ?_
    repeat (first | with_reducible (first | apply Yw) | walk_at "ga" | refine Jm rfl rfl rfl rfl ?_ | refine Jo rfl rfl rfl rfl rfl ?_ | refine Jq rfl rfl rfl rfl rfl rfl ?_ | refine Js rfl rfl rfl rfl rfl rfl rfl rfl rfl ?_ | refine Jl rfl rfl rfl rfl ?_ | walk_at "gb")
    generalize xs.getD (Int.toNat 2) 0 = x
    have b1 := mod_bd x (by decide : (0 : Int) < 4)
    have b3 := mod_bd (x / 4) (by omega : (0 : Int) < m + 1)
    refine sub_any ⟨b1.1, b1.2, by show 4 ≤ 1000000; decide⟩ ?_
    intro d hd
    have hd : ∃ c, d = .int c ∧ 0 ≤ c ∧ c ≤ m := by
      simp only [List.mem_cons, List.not_mem_nil, or_false] at hd
      rcases hd with rfl | rfl | rfl | rfl <;> exact ⟨_, rfl, by omega, by omega⟩
    obtain ⟨c, rfl, hc⟩ := hd
    repeat (first | with_reducible (first | apply Yw) | walk_at "ga" | refine Jm rfl rfl rfl rfl ?_ | refine Jo rfl rfl rfl rfl rfl ?_ | refine Jq rfl rfl rfl rfl rfl rfl ?_ | refine Js rfl rfl rfl rfl rfl rfl rfl rfl rfl ?_ | refine Jl rfl rfl rfl rfl ?_ | walk_at "gb")
    exact fin2 c hc
  have p6 : (10 : Int) ^ (Int.toNat 6) = 1000000 := by decide
  have pw : ∀ {Q : PyData → Tag → Prop}, Q (.int 1000000) .old → binP .Pow (.int 10) (.int 6) Q := fun h => ⟨by decide, by rw [p6]; exact h⟩
  delta f__law_task_by_3
  repeat (first | with_reducible (first | apply Yw) | walk_at "ga" | refine Jm rfl rfl rfl rfl ?_ | refine Jo rfl rfl rfl rfl rfl ?_ | refine Jq rfl rfl rfl rfl rfl rfl ?_ | refine Js rfl rfl rfl rfl rfl rfl rfl rfl rfl ?_ | refine Jl rfl rfl rfl rfl ?_ | walk_at "gb")
  refine Jz i1 ?_
  repeat (first | with_reducible (first | apply Yw) | walk_at "ga" | refine Jm rfl rfl rfl rfl ?_ | refine Jo rfl rfl rfl rfl rfl ?_ | refine Jq rfl rfl rfl rfl rfl rfl ?_ | refine Js rfl rfl rfl rfl rfl rfl rfl rfl rfl ?_ | refine Jl rfl rfl rfl rfl ?_ | walk_at "gb")
  refine Jz i1 ?_
  repeat (first | with_reducible (first | apply Yw) | walk_at "ga" | refine Jm rfl rfl rfl rfl ?_ | refine Jo rfl rfl rfl rfl rfl ?_ | refine Jq rfl rfl rfl rfl rfl rfl ?_ | refine Js rfl rfl rfl rfl rfl rfl rfl rfl rfl ?_ | refine Jl rfl rfl rfl rfl ?_ | walk_at "gb")
  refine pw ?_
  repeat (first | with_reducible (first | apply Yw) | walk_at "ga" | refine Jm rfl rfl rfl rfl ?_ | refine Jo rfl rfl rfl rfl rfl ?_ | refine Jq rfl rfl rfl rfl rfl rfl ?_ | refine Js rfl rfl rfl rfl rfl rfl rfl rfl rfl ?_ | refine Jl rfl rfl rfl rfl ?_ | walk_at "gb")
  refine pw ?_
  repeat (first | with_reducible (first | apply Yw) | walk_at "ga" | refine Jm rfl rfl rfl rfl ?_ | refine Jo rfl rfl rfl rfl rfl ?_ | refine Jq rfl rfl rfl rfl rfl rfl ?_ | refine Js rfl rfl rfl rfl rfl rfl rfl rfl rfl ?_ | refine Jl rfl rfl rfl rfl ?_ | walk_at "gb")
  refine Jz i1 ?_
  repeat (first | with_reducible (first | apply Yw) | walk_at "ga" | refine Jm rfl rfl rfl rfl ?_ | refine Jo rfl rfl rfl rfl rfl ?_ | refine Jq rfl rfl rfl rfl rfl rfl ?_ | refine Js rfl rfl rfl rfl rfl rfl rfl rfl rfl ?_ | refine Jl rfl rfl rfl rfl ?_ | walk_at "gb")
  generalize xs.getD (Int.toNat 1) 0 = x
  have a1 := mod_bd x (by decide : (0 : Int) < 6)
  refine sub_any ⟨a1.1, a1.2, by show 6 ≤ 1000000; decide⟩ ?_
  intro d hd
  have hd : ∃ m, d = .int m ∧ 1 ≤ m ∧ m ≤ 1000000 := by
    simp only [List.mem_cons, List.not_mem_nil, or_false] at hd
    rcases hd with rfl | rfl | rfl | rfl | rfl | rfl <;> exact ⟨_, rfl, by omega, by omega⟩
  obtain ⟨m, rfl, hm⟩ := hd
  repeat (first | with_reducible (first | apply Yw) | walk_at "ga" | refine Jm rfl rfl rfl rfl ?_ | refine Jo rfl rfl rfl rfl rfl ?_ | refine Jq rfl rfl rfl rfl rfl rfl ?_ | refine Js rfl rfl rfl rfl rfl rfl rfl rfl rfl ?_ | refine Jl rfl rfl rfl rfl ?_ | walk_at "gb")
  exact fin m hm

theorem sp_taskby {xs : List Int} (hx : xs.length = 16) (h : ∀ w m c ps, TaskOk w m c ps → Q (taskD w m c ps) .old) : callP (lev T (n + 9)).S f__law_task_by [.list (xs.map .int)] Q := by
  refine callP_r (ρ₀ := [.fz _, .un, .un, .un, .un, .un, .un]) rfl rfl fun K hK _ _ => ?_
  have i0 : (0 : Int) ≤ 0 ∧ 0 < (xs.length : Int) ∧ xs.length ≤ 1000000 := by omega
  have fin : ∀ (w : Int) {s : Slot}, 1 ≤ w ∧ w ≤ 1000 → blk (lev T (n + 9)).S f__law_task_by_3 [.fz (.list (xs.map .int)), .fz (.int w), .un, .un, .un, .un, .un] K := fun w _ hw =>
    tb_mid hx fun m c ps m1 m2 c1 c2 p1 p2 => hK _ (h _ _ _ _ ⟨hw.1, hw.2, m1, m2, c1, c2, p1, p2⟩)
  delta f__law_task_by_1
  repeat (first | with_reducible (first | apply Yw) | walk_at "ga" | refine Jm rfl rfl rfl rfl ?_ | refine Jo rfl rfl rfl rfl rfl ?_ | refine Jq rfl rfl rfl rfl rfl rfl ?_ | refine Js rfl rfl rfl rfl rfl rfl rfl rfl rfl ?_ | refine Jl rfl rfl rfl rfl ?_ | walk_at "gb")
  refine Jz i0 ?_
  repeat (first | with_reducible (first | apply Yw) | walk_at "ga" | refine Jm rfl rfl rfl rfl ?_ | refine Jo rfl rfl rfl rfl rfl ?_ | refine Jq rfl rfl rfl rfl rfl rfl ?_ | refine Js rfl rfl rfl rfl rfl rfl rfl rfl rfl ?_ | refine Jl rfl rfl rfl rfl ?_ | walk_at "gb")
  delta f__law_task_by_2
  repeat (first | with_reducible (first | apply Yw) | walk_at "ga" | refine Jm rfl rfl rfl rfl ?_ | refine Jo rfl rfl rfl rfl rfl ?_ | refine Jq rfl rfl rfl rfl rfl rfl ?_ | refine Js rfl rfl rfl rfl rfl rfl rfl rfl rfl ?_ | refine Jl rfl rfl rfl rfl ?_ | walk_at "gb")
  refine Jz i0 ?_
  repeat (first | with_reducible (first | apply Yw) | walk_at "ga" | refine Jm rfl rfl rfl rfl ?_ | refine Jo rfl rfl rfl rfl rfl ?_ | refine Jq rfl rfl rfl rfl rfl rfl ?_ | refine Js rfl rfl rfl rfl rfl rfl rfl rfl rfl ?_ | refine Jl rfl rfl rfl rfl ?_ | walk_at "gb")
  generalize xs.getD (Int.toNat 0) 0 = x
  refine ⟨fun _ => ?_, fun _ => ?_⟩
  · delta f__law_task_by_2a_1
    repeat (first | with_reducible (first | apply Yw) | walk_at "ga" | refine Jm rfl rfl rfl rfl ?_ | refine Jo rfl rfl rfl rfl rfl ?_ | refine Jq rfl rfl rfl rfl rfl rfl ?_ | refine Js rfl rfl rfl rfl rfl rfl rfl rfl rfl ?_ | refine Jl rfl rfl rfl rfl ?_ | walk_at "gb")
    refine Jz i0 ?_
    repeat (first | with_reducible (first | apply Yw) | walk_at "ga" | refine Jm rfl rfl rfl rfl ?_ | refine Jo rfl rfl rfl rfl rfl ?_ | refine Jq rfl rfl rfl rfl rfl rfl ?_ | refine Js rfl rfl rfl rfl rfl rfl rfl rfl rfl ?_ | refine Jl rfl rfl rfl rfl ?_ | walk_at "gb")
    exact fin (s := .un) _ (by omega)
  · repeat (first | with_reducible (first | apply Yw) | walk_at "ga" | refine Jm rfl rfl rfl rfl ?_ | refine Jo rfl rfl rfl rfl rfl ?_ | refine Jq rfl rfl rfl rfl rfl rfl ?_ | refine Js rfl rfl rfl rfl rfl rfl rfl rfl rfl ?_ | refine Jl rfl rfl rfl rfl ?_ | walk_at "gb")
    exact fin (s := .un) _ (by omega)
end
end

section
set_option Elab.async false
set_option linter.all false
set_option maxRecDepth 100000
open PySem
section
variable {T : Table} {n : Nat} {Q : PyData → Tag → Prop}
structure Tk where
  w : Int
  m : Int
  c : Int
  ps : List Int
noncomputable def Tk.d (t : Tk) : PyData := taskD t.w t.m t.c t.ps
noncomputable def Tk.Ok (t : Tk) : Prop := TaskOk t.w t.m t.c t.ps
structure Pt where
  w : Int
  k : Int
  top : Int
  ts : List Tk
  ex : List Int
noncomputable def Pt.d (p : Pt) : PyData := .tuple [.int p.w, .int p.k, .int p.top, .tuple (p.ts.map Tk.d), .tuple (p.ex.map .int)]
structure Pt.Ok (M : Nat) (p : Pt) : Prop where
  w1 : 1 ≤ p.w
  w2 : p.w ≤ 1000
  k1 : 0 ≤ p.k
  k2 : p.k ≤ 3
  t1 : 0 ≤ p.top
  t2 : p.top ≤ 1000
  tl : p.ts.length ≤ M
  tk : ∀ t ∈ p.ts, t.Ok
  el : p.ex.length ≤ 12
  eb : ∀ x ∈ p.ex, 0 ≤ x ∧ x ≤ 1000

noncomputable def f__law_part_by_8 : List PS := [.ret (.tup [(.var 3), (.bin .Mod (.sub (.var 2) (.const (.int 1))) (.const (.int 4))), (.var 4), (.bi .tuple [(.var 5)]), (.bi .tuple [(.var 7)])])]
noncomputable def f__law_part_by_7 : List PS := (.assign 7 false (.comp (.bin .Mod (.sub (.var 1) (.bin .Add (.const (.int 5)) (.var 0))) (.sub (.lst [(.const (.int 1001)), (.const (.int 30))]) (.bin .Mod (.bin .FloorDiv (.sub (.var 1) (.const (.int 4))) (.const (.int 8))) (.const (.int 2))))) 1 .range (.sub (.lst [(.const (.int 0)), (.const (.int 0)), (.const (.int 1)), (.const (.int 1)), (.const (.int 2)), (.const (.int 3)), (.const (.int 4)), (.const (.int 12))]) (.bin .Mod (.sub (.var 2) (.const (.int 4))) (.const (.int 8)))) [] [2]) : PS) :: f__law_part_by_8
noncomputable def f__law_part_by_6f_1 : List PS := (.app 5 (.call (Str.ofString "_law_task_by") [(.slice (.var 2) (some (.bin .Add (.const (.int 20)) (.bin .Mult (.const (.int 16)) (.var 6)))) (some (.bin .Add (.const (.int 36)) (.bin .Mult (.const (.int 16)) (.var 6)))))]) : PS) :: []
noncomputable def f__law_part_by_6 : List PS := (.for [6] .range (.bin .Mod (.sub (.var 2) (.const (.int 3))) (.bin .Add (.var 1) (.const (.int 1)))) f__law_part_by_6f_1 : PS) :: f__law_part_by_7
noncomputable def f__law_part_by_5 : List PS := (.assign 5 true (.lst []) : PS) :: f__law_part_by_6
noncomputable def f__law_part_by_4 : List PS := (.assign 4 false (.sub (.lst [(.const (.int 0)), (.const (.int 50)), (.const (.int 1000)), (.bin .Mod (.bin .FloorDiv (.sub (.var 2) (.const (.int 2))) (.const (.int 4))) (.const (.int 1001)))]) (.bin .Mod (.sub (.var 2) (.const (.int 2))) (.const (.int 4)))) : PS) :: f__law_part_by_5
noncomputable def f__law_part_by_3a_1 : List PS := (.assign 3 false (.bin .Add (.const (.int 1)) (.bin .Mod (.bin .FloorDiv (.sub (.var 2) (.const (.int 0))) (.const (.int 25))) (.const (.int 1000)))) : PS) :: []
noncomputable def f__law_part_by_3 : List PS := (.ite (.cmp .Eq (.bin .Mod (.bin .FloorDiv (.sub (.var 2) (.const (.int 0))) (.const (.int 5))) (.const (.int 5))) (.const (.int 0))) f__law_part_by_3a_1 [] : PS) :: f__law_part_by_4
noncomputable def f__law_part_by_2 : List PS := (.assign 3 false (.bin .Add (.const (.int 1)) (.bin .Mod (.sub (.var 2) (.const (.int 0))) (.const (.int 5)))) : PS) :: f__law_part_by_3
noncomputable def f__law_part_by_1 : List PS := (.assign 2 false (.call (Str.ofString "_law_stream") [(.var 0), (.bin .Add (.const (.int 20)) (.bin .Mult (.const (.int 16)) (.var 1)))]) : PS) :: f__law_part_by_2
noncomputable def f__law_part_by : Fn := ⟨2, 8, f__law_part_by_1⟩

/-- a comprehension of whole numbers within bounds -/
theorem comp_ints {E : EvE} {cs : Rho} {elt : PE} {P : Int → Prop} : ∀ (items : List PyData) {R : List PyData → Prop}
    (_ : ∀ d ∈ items, ∀ K : PyData → Tag → Prop, (∀ i, P i → K (.int i) .old) → E (Slot.fz d :: cs) elt K), (∀ l : List Int, l.length = items.length → (∀ i ∈ l, P i) → R (l.map .int)) → compGo E 1 cs elt [] items R
  | [], _, _, hR => hR [] rfl (fun _ m => (nomatch m))
  | d :: r, _, h, hR => ⟨[d], rfl, h d (by simp) _ fun i hi => ⟨rfl, comp_ints r (fun d' m => h d' (by simp [m])) fun l e hl => hR (i :: l) (by simp [e]) fun j hj => (List.mem_cons.mp hj).elim (fun q => q ▸ hi) (hl j)⟩⟩

theorem cut_ints {xs : List Int} {a b : Nat} : cut (xs.map PyData.int) (some a) (some b) = (cut xs (some a) (some b)).map .int := by
  unfold cut
  simp

theorem slice_ints {xs : List Int} {a b : Int} (ha : 0 ≤ a ∧ a < 2 ^ 62) (hb : 0 ≤ b ∧ b < 2 ^ 62) (h : xs.length ≤ sizeLine) (hq : Q (.list ((cut xs (some a.toNat) (some b.toNat)).map .int)) .fresh) : sliceP (.list (xs.map .int)) (some (.int a)) (some (.int b)) Q :=
  ⟨ha, hb, by rw [List.length_map]; exact h, by rw [cut_ints]; exact hq⟩


theorem cut_len {α : Type} {xs : List α} {a b : Nat} (h : b ≤ xs.length) : (cut xs (some a) (some b)).length = b - a := by
  show ((xs.take b).drop a).length = b - a
  rw [List.length_drop, List.length_take, Nat.min_eq_left h]
theorem pb_a1 {k M : Nat} (h : k < M) (hM : M ≤ 50) : (0 ≤ 20 + 16 * (k : Int) ∧ 20 + 16 * (k : Int) < 2 ^ 62) ∧ (0 ≤ 36 + 16 * (k : Int) ∧ 36 + 16 * (k : Int) < 2 ^ 62) := by omega
theorem pb_a2 {M L : Nat} (hM : M ≤ 50) (hx : L = 20 + 16 * M) : L ≤ 16777216 := by omega
theorem pb_a3 {k M L : Nat} (h : k < M) (hx : L = 20 + 16 * M) : 36 + 16 * k ≤ L := by omega
theorem pb_a4 {k M : Nat} {y : Int} (hk : k < y.toNat) (b : 0 ≤ y ∧ y < (M : Int) + 1) : k < M := by omega
theorem pb_a5 {k : Nat} : 36 + 16 * k - (20 + 16 * k) = 16 := by omega
theorem pb_a6 {i L : Nat} {j : Int} (hi : i < j.toNat) (j2 : j ≤ 12) (hx : 20 ≤ L ∧ L ≤ 1000) : (0 : Int) ≤ 5 + (i : Int) ∧ 5 + (i : Int) < L ∧ L ≤ 1000000 := by omega
theorem pb_tail {K : Out → Prop} {xs : List Int} {w top : Int} {ts : List Tk} {c s6 s7 : Slot} {x1 : Slot} (hx : 20 ≤ xs.length ∧ xs.length ≤ 1000)
    (hK : ∀ (k : Int) (ex : List Int), 0 ≤ k → k ≤ 3 → ex.length ≤ 12 → (∀ x ∈ ex, 0 ≤ x ∧ x ≤ 1000) → K (.ret (Pt.d ⟨w, k, top, ts, ex⟩) .old)) (hts : ts.length ≤ 100) :
    blk (lev T (n + 9)).S f__law_part_by_7 [c, x1, .fz (.list (xs.map .int)), .fz (.int w), .fz (.int top), .ow (ts.map Tk.d), s6, s7] K := by
  have i1 : (0 : Int) ≤ 1 ∧ 1 < (xs.length : Int) ∧ xs.length ≤ 1000000 := by omega
  have i4 : (0 : Int) ≤ 4 ∧ 4 < (xs.length : Int) ∧ xs.length ≤ 1000000 := by omega
  delta f__law_part_by_7
  repeat (first | with_reducible (first | apply Yw) | walk_at "ga" | refine Ji rfl rfl ?_ | refine Jm rfl rfl rfl rfl ?_ | refine Jr rfl rfl rfl rfl rfl rfl rfl rfl ?_ | refine Jn rfl rfl rfl rfl rfl ?_ | walk_at "gb")
  refine ⟨[.fz (.list (xs.map .int))], rfl, ?_⟩
  repeat (first | with_reducible (first | apply Yw) | walk_at "ga" | refine Ji rfl rfl ?_ | refine Jm rfl rfl rfl rfl ?_ | refine Jr rfl rfl rfl rfl rfl rfl rfl rfl ?_ | refine Jn rfl rfl rfl rfl rfl ?_ | walk_at "gb")
  refine Jz i4 ?_
  repeat (first | with_reducible (first | apply Yw) | walk_at "ga" | refine Ji rfl rfl ?_ | refine Jm rfl rfl rfl rfl ?_ | refine Jr rfl rfl rfl rfl rfl rfl rfl rfl ?_ | refine Jn rfl rfl rfl rfl rfl ?_ | walk_at "gb")
  refine sub_any ⟨(mod_bd _ (by decide)).1, (mod_bd _ (by decide)).2, by show 8 ≤ 1000000; decide⟩ ?_
  intro d hd
  have hd : ∃ j, d = .int j ∧ 0 ≤ j ∧ j ≤ 12 := by
    simp only [List.mem_cons, List.not_mem_nil, or_false] at hd
    rcases hd with rfl | rfl | rfl | rfl | rfl | rfl | rfl | rfl <;> exact ⟨_, rfl, by decide, by decide⟩
  obtain ⟨j, rfl, j1, j2⟩ := hd
  refine ⟨by omega, comp_ints (P := fun x => 0 ≤ x ∧ x ≤ 1000) _ ?_ ?_⟩
  · intro d hd K' hK'
    obtain ⟨i, hi, rfl⟩ := List.mem_map.mp hd
    have hi := List.mem_range.mp hi
    have ii := pb_a6 hi j2 hx
    repeat (first | with_reducible (first | apply Yw) | walk_at "ga" | refine Ji rfl rfl ?_ | refine Jm rfl rfl rfl rfl ?_ | refine Jr rfl rfl rfl rfl rfl rfl rfl rfl ?_ | refine Jn rfl rfl rfl rfl rfl ?_ | walk_at "gb")
    refine Jz ii ?_
    repeat (first | with_reducible (first | apply Yw) | walk_at "ga" | refine Ji rfl rfl ?_ | refine Jm rfl rfl rfl rfl ?_ | refine Jr rfl rfl rfl rfl rfl rfl rfl rfl ?_ | refine Jn rfl rfl rfl rfl rfl ?_ | walk_at "gb")
    refine Jz i4 ?_
    repeat (first | with_reducible (first | apply Yw) | walk_at "ga" | refine Ji rfl rfl ?_ | refine Jm rfl rfl rfl rfl ?_ | refine Jr rfl rfl rfl rfl rfl rfl rfl rfl ?_ | refine Jn rfl rfl rfl rfl rfl ?_ | walk_at "gb")
    refine sub_any ⟨(mod_bd _ (by decide)).1, (mod_bd _ (by decide)).2, by show 2 ≤ 1000000; decide⟩ ?_
    intro d hd
    have hd : ∃ m, d = .int m ∧ 0 < m ∧ m ≤ 1001 := by
      simp only [List.mem_cons, List.not_mem_nil, or_false] at hd
      rcases hd with rfl | rfl <;> exact ⟨_, rfl, by decide, by decide⟩
    obtain ⟨m, rfl, m1, m2⟩ := hd
    refine Xy m1 (hK' _ ?_)
    have := mod_bd (xs.getD (5 + (i : Int)).toNat 0) m1
    omega
  · intro l hl hb
    simp only [List.length_map, List.length_range] at hl
    repeat (first | with_reducible (first | apply Yw) | walk_at "ga" | refine Ji rfl rfl ?_ | refine Jm rfl rfl rfl rfl ?_ | refine Jr rfl rfl rfl rfl rfl rfl rfl rfl ?_ | refine Jn rfl rfl rfl rfl rfl ?_ | walk_at "gb")
    delta f__law_part_by_8
    repeat (first | with_reducible (first | apply Yw) | walk_at "ga" | refine Ji rfl rfl ?_ | refine Jm rfl rfl rfl rfl ?_ | refine Jr rfl rfl rfl rfl rfl rfl rfl rfl ?_ | refine Jn rfl rfl rfl rfl rfl ?_ | walk_at "gb")
    refine Jz i1 ?_
    repeat (first | with_reducible (first | apply Yw) | walk_at "ga" | refine Ji rfl rfl ?_ | refine Jm rfl rfl rfl rfl ?_ | refine Jr rfl rfl rfl rfl rfl rfl rfl rfl ?_ | refine Jn rfl rfl rfl rfl rfl ?_ | walk_at "gb")
    refine ⟨by rw [List.length_map, size_eq]; omega, ?_⟩
    repeat (first | with_reducible (first | apply Yw) | walk_at "ga" | refine Ji rfl rfl ?_ | refine Jm rfl rfl rfl rfl ?_ | refine Jr rfl rfl rfl rfl rfl rfl rfl rfl ?_ | refine Jn rfl rfl rfl rfl rfl ?_ | walk_at "gb")
    refine ⟨by rw [List.length_map, size_eq]; omega, ?_⟩
    repeat (first | with_reducible (first | apply Yw) | walk_at "ga" | refine Ji rfl rfl ?_ | refine Jm rfl rfl rfl rfl ?_ | refine Jr rfl rfl rfl rfl rfl rfl rfl rfl ?_ | refine Jn rfl rfl rfl rfl rfl ?_ | walk_at "gb")
    have := mod_bd (xs.getD (Int.toNat 1) 0) (by decide : (0 : Int) < 4)
    exact hK _ _ this.1 (by omega) (by omega) hb

theorem pb_mid {K : Out → Prop} (hT : T (Str.ofString "_law_task_by") = some f__law_task_by) {xs : List Int} {w : Int} {M : Nat} {c s4 s5 s6 s7 : Slot} (hM : M ≤ 50) (hx : xs.length = 20 + 16 * M) (hw : 1 ≤ w ∧ w ≤ 1000)
    (hK : ∀ p, Pt.Ok M p → K (.ret p.d .old)) :
    blk (lev T (n + 13)).S f__law_part_by_4 [c, .fz (.int M), .fz (.list (xs.map .int)), .fz (.int w), s4, s5, s6, s7] K := by
  have i2 : (0 : Int) ≤ 2 ∧ 2 < (xs.length : Int) ∧ xs.length ≤ 1000000 := by omega
  have i3 : (0 : Int) ≤ 3 ∧ 3 < (xs.length : Int) ∧ xs.length ≤ 1000000 := by omega
  delta f__law_part_by_4
  repeat (first | with_reducible (first | apply Yw) | walk_at "ga" | refine Ji rfl rfl ?_ | refine Jm rfl rfl rfl rfl ?_ | refine Jr rfl rfl rfl rfl rfl rfl rfl rfl ?_ | refine Jn rfl rfl rfl rfl rfl ?_ | walk_at "gb")
  refine Jz i2 ?_
  repeat (first | with_reducible (first | apply Yw) | walk_at "ga" | refine Ji rfl rfl ?_ | refine Jm rfl rfl rfl rfl ?_ | refine Jr rfl rfl rfl rfl rfl rfl rfl rfl ?_ | refine Jn rfl rfl rfl rfl rfl ?_ | walk_at "gb")
  refine Jz i2 ?_
  repeat (first | with_reducible (first | apply Yw) | walk_at "ga" | refine Ji rfl rfl ?_ | refine Jm rfl rfl rfl rfl ?_ | refine Jr rfl rfl rfl rfl rfl rfl rfl rfl ?_ | refine Jn rfl rfl rfl rfl rfl ?_ | walk_at "gb")
  generalize xs.getD (Int.toNat 2) 0 = x
  have a3 := mod_bd (x / 4) (by decide : (0 : Int) < 1001)
  refine sub_any ⟨(mod_bd _ (by decide)).1, (mod_bd _ (by decide)).2, by show 4 ≤ 1000000; decide⟩ ?_
  intro d hd
  have hd : ∃ j, d = .int j ∧ 0 ≤ j ∧ j ≤ 1000 := by
    simp only [List.mem_cons, List.not_mem_nil, or_false] at hd
    rcases hd with rfl | rfl | rfl | rfl <;> exact ⟨_, rfl, by omega, by omega⟩
  obtain ⟨top, rfl, t1, t2⟩ := hd
  repeat (first | with_reducible (first | apply Yw) | walk_at "ga" | refine Ji rfl rfl ?_ | refine Jm rfl rfl rfl rfl ?_ | refine Jr rfl rfl rfl rfl rfl rfl rfl rfl ?_ | refine Jn rfl rfl rfl rfl rfl ?_ | walk_at "gb")
  delta f__law_part_by_5
  repeat (first | with_reducible (first | apply Yw) | walk_at "ga" | refine Ji rfl rfl ?_ | refine Jm rfl rfl rfl rfl ?_ | refine Jr rfl rfl rfl rfl rfl rfl rfl rfl ?_ | refine Jn rfl rfl rfl rfl rfl ?_ | walk_at "gb")
  delta f__law_part_by_6
  repeat (first | with_reducible (first | apply Yw) | walk_at "ga" | refine Ji rfl rfl ?_ | refine Jm rfl rfl rfl rfl ?_ | refine Jr rfl rfl rfl rfl rfl rfl rfl rfl ?_ | refine Jn rfl rfl rfl rfl rfl ?_ | walk_at "gb")
  refine Jz i3 ?_
  repeat (first | with_reducible (first | apply Yw) | walk_at "ga" | refine Ji rfl rfl ?_ | refine Jm rfl rfl rfl rfl ?_ | refine Jr rfl rfl rfl rfl rfl rfl rfl rfl ?_ | refine Jn rfl rfl rfl rfl rfl ?_ | walk_at "gb")
  have b := mod_bd (xs.getD (Int.toNat 3) 0) (by omega : (0 : Int) < M + 1)
  generalize xs.getD (Int.toNat 3) 0 % ((M : Int) + 1) = y at b
  refine ⟨by omega, for_range (fun k ρ => ∃ (ts : List Tk) (z : Slot), ρ = [c, .fz (.int M), .fz (.list (xs.map .int)), .fz (.int w), .fz (.int top), .ow (ts.map Tk.d), z, s7] ∧ ts.length = k ∧ ∀ t ∈ ts, t.Ok) ?_ ?_ ⟨[], _, rfl, rfl, fun _ m => (nomatch m)⟩⟩
  · rintro k ρ hk ⟨ts, z, rfl, hl, ht⟩ K' hn _
    delta f__law_part_by_6f_1
    repeat (first | with_reducible (first | apply Yw) | walk_at "ga" | refine Ji rfl rfl ?_ | refine Jm rfl rfl rfl rfl ?_ | refine Jr rfl rfl rfl rfl rfl rfl rfl rfl ?_ | refine Jn rfl rfl rfl rfl rfl ?_ | walk_at "gb")
    have hkM := pb_a4 hk b
    refine slice_ints (pb_a1 hkM hM).1 (pb_a1 hkM hM).2 (pb_a2 hM hx) ?_
    have e1 : (20 + 16 * (k : Int)).toNat = 20 + 16 * k := by omega
    have e2 : (36 + 16 * (k : Int)).toNat = 36 + 16 * k := by omega
    rw [e1, e2]
    repeat (first | with_reducible (first | apply Yw) | walk_at "ga" | refine Ji rfl rfl ?_ | refine Jm rfl rfl rfl rfl ?_ | refine Jr rfl rfl rfl rfl rfl rfl rfl rfl ?_ | refine Jn rfl rfl rfl rfl rfl ?_ | walk_at "gb")
    refine sp_taskby (by rw [cut_len (pb_a3 hkM hx)]; exact pb_a5) fun w m c ps hq => ?_
    repeat (first | with_reducible (first | apply Yw) | walk_at "ga" | refine Ji rfl rfl ?_ | refine Jm rfl rfl rfl rfl ?_ | refine Jr rfl rfl rfl rfl rfl rfl rfl rfl ?_ | refine Jn rfl rfl rfl rfl rfl ?_ | walk_at "gb")
    refine ⟨by rw [List.length_map, size_eq]; omega, ?_⟩
    repeat (first | with_reducible (first | apply Yw) | walk_at "ga" | refine Ji rfl rfl ?_ | refine Jm rfl rfl rfl rfl ?_ | refine Jr rfl rfl rfl rfl rfl rfl rfl rfl ?_ | refine Jn rfl rfl rfl rfl rfl ?_ | walk_at "gb")
    exact hn _ ⟨ts ++ [⟨w, m, c, ps⟩], _, by rw [List.map_append]; rfl, by simp [hl], fun t htm => (List.mem_append.mp htm).elim (ht t) fun q => by rw [List.mem_singleton.mp q]; exact hq⟩
  · rintro ρ ⟨ts, z, rfl, hl, ht⟩
    refine Zi (pb_tail (by omega) (fun k ex k1 k2 e1 e2 => hK _ ⟨hw.1, hw.2, k1, k2, t1, t2, ?_, ht, e1, e2⟩) (by omega))
    show ts.length ≤ M
    omega

theorem sp_partby (hT : T (Str.ofString "_law_task_by") = some f__law_task_by) (hT2 : T (Str.ofString "_law_stream") = some f__law_stream) {c : Int} {M : Nat} (hM : M ≤ 50) (h : ∀ p, Pt.Ok M p → Q p.d .old) : callP (lev T (n + 13)).S f__law_part_by [.int c, .int M] Q := by
  refine callP_r (ρ₀ := [.fz _, .fz _, .un, .un, .un, .un, .un, .un]) rfl rfl fun K hK _ _ => ?_
  delta f__law_part_by_1
  repeat (first | with_reducible (first | apply Yw) | walk_at "ga" | refine Ji rfl rfl ?_ | refine Jm rfl rfl rfl rfl ?_ | refine Jr rfl rfl rfl rfl rfl rfl rfl rfl ?_ | refine Jn rfl rfl rfl rfl rfl ?_ | walk_at "gb")
  have e : (20 : Int) + 16 * (M : Int) = ((20 + 16 * M : Nat) : Int) := by omega
  rw [e]
  refine sp_stream (by omega) fun xs hx hb => ?_
  have i0 : (0 : Int) ≤ 0 ∧ 0 < (xs.length : Int) ∧ xs.length ≤ 1000000 := by omega
  repeat (first | with_reducible (first | apply Yw) | walk_at "ga" | refine Ji rfl rfl ?_ | refine Jm rfl rfl rfl rfl ?_ | refine Jr rfl rfl rfl rfl rfl rfl rfl rfl ?_ | refine Jn rfl rfl rfl rfl rfl ?_ | walk_at "gb")
  delta f__law_part_by_2
  repeat (first | with_reducible (first | apply Yw) | walk_at "ga" | refine Ji rfl rfl ?_ | refine Jm rfl rfl rfl rfl ?_ | refine Jr rfl rfl rfl rfl rfl rfl rfl rfl ?_ | refine Jn rfl rfl rfl rfl rfl ?_ | walk_at "gb")
  refine Jz i0 ?_
  repeat (first | with_reducible (first | apply Yw) | walk_at "ga" | refine Ji rfl rfl ?_ | refine Jm rfl rfl rfl rfl ?_ | refine Jr rfl rfl rfl rfl rfl rfl rfl rfl ?_ | refine Jn rfl rfl rfl rfl rfl ?_ | walk_at "gb")
  delta f__law_part_by_3
  repeat (first | with_reducible (first | apply Yw) | walk_at "ga" | refine Ji rfl rfl ?_ | refine Jm rfl rfl rfl rfl ?_ | refine Jr rfl rfl rfl rfl rfl rfl rfl rfl ?_ | refine Jn rfl rfl rfl rfl rfl ?_ | walk_at "gb")
  refine Jz i0 ?_
  repeat (first | with_reducible (first | apply Yw) | walk_at "ga" | refine Ji rfl rfl ?_ | refine Jm rfl rfl rfl rfl ?_ | refine Jr rfl rfl rfl rfl rfl rfl rfl rfl ?_ | refine Jn rfl rfl rfl rfl rfl ?_ | walk_at "gb")
  generalize xs.getD (Int.toNat 0) 0 = x
  refine ⟨fun _ => ?_, fun _ => ?_⟩
  · delta f__law_part_by_3a_1
    repeat (first | with_reducible (first | apply Yw) | walk_at "ga" | refine Ji rfl rfl ?_ | refine Jm rfl rfl rfl rfl ?_ | refine Jr rfl rfl rfl rfl rfl rfl rfl rfl ?_ | refine Jn rfl rfl rfl rfl rfl ?_ | walk_at "gb")
    refine Jz i0 ?_
    repeat (first | with_reducible (first | apply Yw) | walk_at "ga" | refine Ji rfl rfl ?_ | refine Jm rfl rfl rfl rfl ?_ | refine Jr rfl rfl rfl rfl rfl rfl rfl rfl ?_ | refine Jn rfl rfl rfl rfl rfl ?_ | walk_at "gb")
    exact pb_mid hT hM hx (by omega) fun p hp => hK _ (h p hp)
  · repeat (first | with_reducible (first | apply Yw) | walk_at "ga" | refine Ji rfl rfl ?_ | refine Jm rfl rfl rfl rfl ?_ | refine Jr rfl rfl rfl rfl rfl rfl rfl rfl ?_ | refine Jn rfl rfl rfl rfl rfl ?_ | walk_at "gb")
    exact pb_mid hT hM hx (by omega) fun p hp => hK _ (h p hp)
end
end

section
set_option Elab.async false
set_option linter.all false
set_option maxRecDepth 100000
open PySem
section
variable {T : Table} {n : Nat} {Q : PyData → Tag → Prop}
noncomputable def f_divisor_of : Fn := ⟨2, 3, [
  .whl (.cmp .Gt (.var 1) (.const (.int 0))) [
    .assign 2 false (.bin .Mod (.var 0) (.var 1)),
    .assign 0 false (.var 1),
    .assign 1 false (.var 2)],
  .ret (.var 0)]⟩
noncomputable def f_share : Fn := ⟨2, 3, [
  .assign 2 false (.call (Str.ofString "divisor_of") [(.bi .abs [(.var 0)]), (.var 1)]),
  .ret (.tup [(.bin .FloorDiv (.var 0) (.var 2)), (.bin .FloorDiv (.var 1) (.var 2))])]⟩
noncomputable def f_plus : Fn := ⟨2, 2, [
  .ret (.call (Str.ofString "share") [(.bin .Add (.bin .Mult (.sub (.var 0) (.const (.int 0))) (.sub (.var 1) (.const (.int 1)))) (.bin .Mult (.sub (.var 1) (.const (.int 0))) (.sub (.var 0) (.const (.int 1))))), (.bin .Mult (.sub (.var 0) (.const (.int 1))) (.sub (.var 1) (.const (.int 1))))])]⟩
noncomputable def f_times : Fn := ⟨3, 3, [
  .ret (.call (Str.ofString "share") [(.bin .Mult (.sub (.var 0) (.const (.int 0))) (.var 1)), (.bin .Mult (.sub (.var 0) (.const (.int 1))) (.var 2))])]⟩
noncomputable def f_less : Fn := ⟨2, 2, [
  .ret (.cmp .Lt (.bin .Mult (.sub (.var 0) (.const (.int 0))) (.sub (.var 1) (.const (.int 1)))) (.bin .Mult (.sub (.var 1) (.const (.int 0))) (.sub (.var 0) (.const (.int 1)))))]⟩
noncomputable def f__law_share : Fn := ⟨1, 1, [
  .ite (.or (.not (.bi (.isi "tuple") [(.var 0)])) (.cmp .NotEq (.bi .len [(.var 0)]) (.const (.int 2)))) [
    .ret (.const (.bool false))] [],
  .ret (.and (.call (Str.ofString "_law_whole") [(.sub (.var 0) (.const (.int 0)))]) (.call (Str.ofString "_law_whole") [(.sub (.var 0) (.const (.int 1)))]))]⟩
noncomputable def f__law_low : Fn := ⟨2, 4, [
  .assign 2 false (.bi .abs [(.var 0)]),
  .assign 3 false (.var 1),
  .whl (.cmp .Gt (.var 3) (.const (.int 0))) [
    .swap 2 3 (.var 3) (.bin .Mod (.var 2) (.var 3))],
  .ret (.tup [(.bin .FloorDiv (.var 0) (.var 2)), (.bin .FloorDiv (.var 1) (.var 2))])]⟩

/-! sizes -/
noncomputable def Bz (k : Nat) (a : Int) : Prop := a.natAbs < 2 ^ k
theorem Bz.mono {k l : Nat} {a : Int} (h : Bz k a) (hkl : k ≤ l) : Bz l a := Nat.lt_of_lt_of_le h (Nat.pow_le_pow_right (by decide) hkl)
theorem Bz.mul {k l : Nat} {a b : Int} (ha : Bz k a) (hb : Bz l b) : Bz (k + l) (a * b) := by
  unfold Bz at *
  rw [Int.natAbs_mul, Nat.pow_add]
  exact Nat.mul_lt_mul'' ha hb
theorem Bz.add {k : Nat} {a b : Int} (ha : Bz k a) (hb : Bz k b) : Bz (k + 1) (a + b) := by
  unfold Bz at *
  rw [Nat.pow_succ]
  have := Int.natAbs_add_le a b
  omega
theorem Bz.le {k : Nat} {a b : Int} (hb : Bz k b) (h : a.natAbs ≤ b.natAbs) : Bz k a := Nat.lt_of_le_of_lt h hb
theorem Bz.of {k : Nat} {a : Int} (h : a.natAbs < 2 ^ k) : Bz k a := h
theorem mul_ok {k l : Nat} {a b : Int} (ha : Bz k a) (hb : Bz l b) (h : k + l ≤ 9000) : IntMulOk a b := by
  have h1 := PyProof.Rows.intBits_le ha
  have h2 := PyProof.Rows.intBits_le hb
  unfold IntMulOk
  have : Builtin.Int.intTooBig (Builtin.Int.intBits a + Builtin.Int.intBits b) = false := by
    unfold Builtin.Int.intTooBig
    have : ¬ ((Builtin.Int.intBits a : Int) + Builtin.Int.intBits b > bitsLine) := by
      have : (9000 : Int) ≤ bitsLine := by decide
      omega
    exact decide_eq_false this
  rw [this]
  simp
theorem log_ok {k : Nat} {a : Int} (h : Bz k a) (h0 : a ≠ 0) (hk : k ≤ 9000) : a.natAbs.log2 < 9000 := log_of h0 h hk

/-! fractions in lowest terms -/
theorem gcd_step {a b : Int} : Int.gcd b (a % b) = Int.gcd a b := by
  rw [show a % b = a - (a / b) * b by rw [Int.emod_def, Int.mul_comm], Int.gcd_sub_mul_right_right, Int.gcd_comm]
theorem gcd_pos {t b : Int} (hb : 0 < b) : 0 < (Int.gcd t b : Int) ∧ (Int.gcd t b : Int) ≤ b := by
  have h1 : Int.gcd t b ≠ 0 := fun e => by have := (Int.gcd_eq_zero_iff.mp e).2; omega
  have h2 : (Int.gcd t b : Int) ∣ b := Int.gcd_dvd_right ..
  have h3 := Int.le_of_dvd hb h2
  omega
noncomputable def low (t b : Int) : Int × Int := (t / (Int.gcd t b : Nat), b / (Int.gcd t b : Nat))
noncomputable def frD (p : Int × Int) : PyData := .tuple [.int p.1, .int p.2]
theorem low_scale {x y k : Int} (hk : 0 < k) : low (x * k) (y * k) = low x y := by
  have e : (Int.gcd (x * k) (y * k) : Int) = Int.gcd x y * k := by
    rw [Int.gcd_mul_right]
    have : (k.natAbs : Int) = k := by omega
    rw [Int.natCast_mul, this]
  unfold low
  rw [e, Int.mul_ediv_mul_of_pos_left _ _ hk, Int.mul_ediv_mul_of_pos_left _ _ hk]
theorem low_eq {t b c d : Int} (hb : 0 < b) (hd : 0 < d) (h : t * d = c * b) : low t b = low c d := by
  rw [← low_scale (x := t) (y := b) hd, ← low_scale (x := c) (y := d) hb, h, Int.mul_comm b d]
/-- p is the fraction t / b in lowest terms -/
structure Fr (p : Int × Int) (t b : Int) : Prop where
  eq : p = low t b
  pos : 0 < b
theorem Fr.mk' {t b : Int} (hb : 0 < b) : Fr (low t b) t b := ⟨rfl, hb⟩
theorem Fr.of {p : Int × Int} {t b : Int} (h : Fr p t b) : ∃ g : Int, 0 < g ∧ t = p.1 * g ∧ b = p.2 * g ∧ 0 < p.2 := by
  obtain ⟨rfl, hb⟩ := h
  obtain ⟨h1, h2⟩ := gcd_pos (t := t) hb
  have d1 : (Int.gcd t b : Int) ∣ t := Int.gcd_dvd_left ..
  have d2 : (Int.gcd t b : Int) ∣ b := Int.gcd_dvd_right ..
  exact ⟨_, h1, (Int.ediv_mul_cancel d1).symm, (Int.ediv_mul_cancel d2).symm, Int.ediv_pos_of_pos_of_dvd hb (Int.le_of_lt h1) d2⟩
theorem Fr.pos' {p : Int × Int} {t b : Int} (h : Fr p t b) : 0 < p.2 := let ⟨_, _, _, _, h⟩ := h.of; h
theorem Fr.conv {p : Int × Int} {t b c d : Int} (h : Fr p t b) (hd : 0 < d) (e : t * d = c * b) : Fr p c d := ⟨h.eq.trans (low_eq h.pos hd e), hd⟩
theorem Fr.self {p : Int × Int} {t b : Int} (h : Fr p t b) : Fr p p.1 p.2 := by
  obtain ⟨g, hg, e1, e2, hp⟩ := h.of
  refine h.conv hp ?_
  rw [e1, e2]
  grind
theorem Fr.plus {p q : Int × Int} {a b c d : Int} (hp : Fr p a b) (hq : Fr q c d) : Fr (low (p.1 * q.2 + q.1 * p.2) (p.2 * q.2)) (a * d + c * b) (b * d) := by
  obtain ⟨g, hg, e1, e2, h1⟩ := hp.of
  obtain ⟨k, hk, e3, e4, h2⟩ := hq.of
  refine ⟨?_, Int.mul_pos hp.pos hq.pos⟩
  rw [← low_scale (k := g * k) (Int.mul_pos hg hk), e1, e2, e3, e4]
  congr 1 <;> grind
theorem Fr.times {p : Int × Int} {a b : Int} (hp : Fr p a b) (x : Int) {y : Int} (hy : 0 < y) : Fr (low (p.1 * x) (p.2 * y)) (a * x) (b * y) := by
  obtain ⟨g, hg, e1, e2, h1⟩ := hp.of
  refine ⟨?_, Int.mul_pos hp.pos hy⟩
  rw [← low_scale (k := g) hg, e1, e2]
  congr 1 <;> grind
theorem Fr.less {p q : Int × Int} {a b c d : Int} (hp : Fr p a b) (hq : Fr q c d) : (p.1 * q.2 < q.1 * p.2) ↔ (a * d < c * b) := by
  obtain ⟨g, hg, e1, e2, h1⟩ := hp.of
  obtain ⟨k, hk, e3, e4, h2⟩ := hq.of
  have e5 : a * d = (p.1 * q.2) * (g * k) := by rw [e1, e4]; grind
  have e6 : c * b = (q.1 * p.2) * (g * k) := by rw [e2, e3]; grind
  rw [e5, e6]
  exact (Int.mul_lt_mul_right (Int.mul_pos hg hk)).symm
theorem Fr.bd {p : Int × Int} {a b : Int} {k : Nat} (h : Fr p a b) (ha : Bz k a) (hb : Bz k b) : Bz k p.1 ∧ Bz k p.2 := by
  rw [h.eq]
  exact ⟨ha.le (Int.natAbs_ediv_le_natAbs _ _), hb.le (Int.natAbs_ediv_le_natAbs _ _)⟩

/-! the code -/
theorem Up {c : PE} {b : List PS} {ρ : Rho} {R : Out → Prop} (k : Nat) (h : whlGo (lev T n).E (lev T n).S c b k ρ R) : (lev T (n+1)).S (.whl c b) ρ R := ⟨k, h⟩
theorem wh_step {E : EvE} {S : EvS} {c : PE} {b : List PS} {k : Nat} {ρ : Rho} {R : Out → Prop} (h : E ρ c fun d _ => brP d (blk S b ρ fun o => match o with | .next ρ' => whlGo E S c b k ρ' R | .ret d t => R (.ret d t)) (R (.next ρ))) : whlGo E S c b (k + 1) ρ R := h
theorem Uq {a b : PE} {i j : Nat} {ρ : Rho} {R : Out → Prop} (h : (lev T n).E ρ a fun x t => (lev T n).E ρ b fun y u => t.isVar = false ∧ u.isVar = false ∧ R (.next ((ρ.set i (.fz x)).set j (.fz y)))) : (lev T (n+1)).S (.swap i j a b) ρ R := h
theorem wh_div {R : Out → Prop} : ∀ (k : Nat) (a b : Int) (x : Slot), 0 ≤ a → 0 ≤ b → b.toNat < k → (∀ x', R (.next [.fz (.int (Int.gcd a b : Nat)), .fz (.int 0), x'])) →
    whlGo (lev T (n + 3)).E (lev T (n + 3)).S (.cmp .Gt (.var 1) (.const (.int 0))) [
    .assign 2 false (.bin .Mod (.var 0) (.var 1)),
    .assign 0 false (.var 1),
    .assign 1 false (.var 2)] k [.fz (.int a), .fz (.int b), x] R
  | 0, _, _, _, _, _, h, _ => absurd h (Nat.not_lt_zero _)
  | k + 1, a, b, x, ha, hb, hk, hR => by
    refine wh_step ?_
    repeat (first | with_reducible (first | apply Yv | apply Ze | apply Yg) | walk_at "ga" | walk_at "gb")
    by_cases hb0 : b = 0
    · subst hb0
      have := hR x
      rw [Int.gcd_zero_right] at this
      have e : ((a.natAbs : Nat) : Int) = a := by omega
      rw [e] at this
      exact ⟨fun q => by simp at q, fun _ => this⟩
    · have hp : 0 < b := by omega
      refine ⟨fun _ => ?_, fun q => by simp at q; omega⟩
      repeat (first | with_reducible (first | apply Yv | apply Ze | apply Yg) | walk_at "ga" | walk_at "gb")
      have h1 := mod_bd a hp
      refine wh_div k b (a % b) _ hb h1.1 (by omega) ?_
      rw [gcd_step]
      exact hR
theorem sp_div {a b : Int} (ha : 0 ≤ a) (hb : 0 ≤ b) (h : Q (.int (Int.gcd a b : Nat)) .old) : callP (lev T (n + 4)).S f_divisor_of [.int a, .int b] Q := by
  refine callP_r (ρ₀ := [.fz _, .fz _, .un]) rfl rfl fun K hK _ _ => ?_
  repeat (first | with_reducible (first | apply Yv | apply Ze | apply Yg) | walk_at "ga" | walk_at "gb")
  refine Up (b.toNat + 1) (wh_div _ a b _ ha hb (by omega) fun x' => ?_)
  repeat (first | with_reducible (first | apply Yv | apply Ze | apply Yg) | walk_at "ga" | walk_at "gb")
  exact hK _ h
theorem sp_share {t b : Int} (hT : T (Str.ofString "divisor_of") = some f_divisor_of) (hb : 0 < b) (hz : Bz 9000 b) (h : Q (frD (low t b)) .old) : callP (lev T (n + 7)).S f_share [.int t, .int b] Q := by
  refine callP_r (ρ₀ := [.fz _, .fz _, .un]) rfl rfl fun K hK _ _ => ?_
  repeat (first | with_reducible (first | apply Yv | apply Ze | apply Yg) | walk_at "ga" | walk_at "gb")
  refine sp_div (a := t.natAbs) (b := b) (by omega) (by omega) ?_
  have e : Int.gcd (t.natAbs : Nat) b = Int.gcd t b := by simp [Int.gcd_eq_natAbs_gcd_natAbs]
  obtain ⟨g1, g2⟩ := gcd_pos (t := t) hb
  rw [e]
  have hz' := log_ok (hz.le (a := (Int.gcd t b : Int)) (by omega)) (by omega) (Nat.le_refl _)
  repeat (first | with_reducible (first | apply Yv | apply Ze | apply Yg) | walk_at "ga" | walk_at "gb")
  refine Xx g1 hz' ?_
  repeat (first | with_reducible (first | apply Yv | apply Ze | apply Yg) | walk_at "ga" | walk_at "gb")
  refine Xx g1 hz' ?_
  repeat (first | with_reducible (first | apply Yv | apply Ze | apply Yg) | walk_at "ga" | walk_at "gb")
  exact hK _ h
theorem sp_less {p q : Int × Int} {k l : Nat} (hp : Bz k p.1 ∧ Bz k p.2) (hq : Bz l q.1 ∧ Bz l q.2) (hkl : k + l ≤ 9000) (h : Q (.bool (decide (p.1 * q.2 < q.1 * p.2))) .old) : callP (lev T (n + 6)).S f_less [frD p, frD q] Q := by
  refine callP_r (ρ₀ := [.fz (.tuple [.int p.1, .int p.2]), .fz (.tuple [.int q.1, .int q.2])]) rfl rfl fun K hK _ _ => ?_
  repeat (first | with_reducible (first | apply Yv | apply Ze | apply Yg) | walk_at "ga" | walk_at "gb")
  refine Xv (mul_ok hp.1 hq.2 hkl) ?_
  repeat (first | with_reducible (first | apply Yv | apply Ze | apply Yg) | walk_at "ga" | walk_at "gb")
  refine Xv (mul_ok hq.1 hp.2 (by omega)) ?_
  repeat (first | with_reducible (first | apply Yv | apply Ze | apply Yg) | walk_at "ga" | walk_at "gb")
  exact hK _ h
theorem sp_plus {p q : Int × Int} {k l : Nat} (hT1 : T (Str.ofString "divisor_of") = some f_divisor_of) (hT2 : T (Str.ofString "share") = some f_share) (hp : Bz k p.1 ∧ Bz k p.2) (hq : Bz l q.1 ∧ Bz l q.2) (hkl : k + l ≤ 9000) (p0 : 0 < p.2) (q0 : 0 < q.2)
    (h : Q (frD (low (p.1 * q.2 + q.1 * p.2) (p.2 * q.2))) .old) : callP (lev T (n + 9)).S f_plus [frD p, frD q] Q := by
  refine callP_r (ρ₀ := [.fz (.tuple [.int p.1, .int p.2]), .fz (.tuple [.int q.1, .int q.2])]) rfl rfl fun K hK _ _ => ?_
  repeat (first | with_reducible (first | apply Yv | apply Ze | apply Yg) | walk_at "ga" | walk_at "gb")
  refine Xv (mul_ok hp.1 hq.2 hkl) ?_
  repeat (first | with_reducible (first | apply Yv | apply Ze | apply Yg) | walk_at "ga" | walk_at "gb")
  refine Xv (mul_ok hq.1 hp.2 (by omega)) ?_
  repeat (first | with_reducible (first | apply Yv | apply Ze | apply Yg) | walk_at "ga" | walk_at "gb")
  refine Xv (mul_ok hp.2 hq.2 hkl) ?_
  repeat (first | with_reducible (first | apply Yv | apply Ze | apply Yg) | walk_at "ga" | walk_at "gb")
  refine sp_share hT1 (Int.mul_pos p0 q0) ((hp.2.mul hq.2).mono hkl) ?_
  repeat (first | with_reducible (first | apply Yv | apply Ze | apply Yg) | walk_at "ga" | walk_at "gb")
  exact hK _ h
theorem sp_times {p : Int × Int} {x y : Int} {k l : Nat} (hT1 : T (Str.ofString "divisor_of") = some f_divisor_of) (hT2 : T (Str.ofString "share") = some f_share) (hp : Bz k p.1 ∧ Bz k p.2) (hx : Bz l x) (hy : Bz l y) (hkl : k + l ≤ 9000) (p0 : 0 < p.2) (y0 : 0 < y)
    (h : Q (frD (low (p.1 * x) (p.2 * y))) .old) : callP (lev T (n + 9)).S f_times [frD p, .int x, .int y] Q := by
  refine callP_r (ρ₀ := [.fz (.tuple [.int p.1, .int p.2]), .fz (.int x), .fz (.int y)]) rfl rfl fun K hK _ _ => ?_
  repeat (first | with_reducible (first | apply Yv | apply Ze | apply Yg) | walk_at "ga" | walk_at "gb")
  refine Xv (mul_ok hp.1 hx hkl) ?_
  repeat (first | with_reducible (first | apply Yv | apply Ze | apply Yg) | walk_at "ga" | walk_at "gb")
  refine Xv (mul_ok hp.2 hy hkl) ?_
  repeat (first | with_reducible (first | apply Yv | apply Ze | apply Yg) | walk_at "ga" | walk_at "gb")
  refine sp_share hT1 (Int.mul_pos p0 y0) ((hp.2.mul hy).mono hkl) ?_
  repeat (first | with_reducible (first | apply Yv | apply Ze | apply Yg) | walk_at "ga" | walk_at "gb")
  exact hK _ h
theorem wh_low {R : Out → Prop} {y z : Slot} : ∀ (k : Nat) (a b : Int), 0 ≤ a → 0 ≤ b → b.toNat < k → R (.next [y, z, .fz (.int (Int.gcd a b : Nat)), .fz (.int 0)]) →
    whlGo (lev T (n + 3)).E (lev T (n + 3)).S (.cmp .Gt (.var 3) (.const (.int 0))) [
    .swap 2 3 (.var 3) (.bin .Mod (.var 2) (.var 3))] k [y, z, .fz (.int a), .fz (.int b)] R
  | 0, _, _, _, _, h, _ => absurd h (Nat.not_lt_zero _)
  | k + 1, a, b, ha, hb, hk, hR => by
    refine wh_step ?_
    repeat (first | with_reducible (first | apply Yv | apply Ze | apply Yg) | walk_at "ga" | walk_at "gb")
    by_cases hb0 : b = 0
    · subst hb0
      rw [Int.gcd_zero_right] at hR
      have e : ((a.natAbs : Nat) : Int) = a := by omega
      rw [e] at hR
      exact ⟨fun q => by simp at q, fun _ => hR⟩
    · have hp : 0 < b := by omega
      refine ⟨fun _ => ?_, fun q => by simp at q; omega⟩
      repeat (first | with_reducible (first | apply Yv | apply Ze | apply Yg) | walk_at "ga" | walk_at "gb")
      refine Uq ?_
      repeat (first | with_reducible (first | apply Yv | apply Ze | apply Yg) | walk_at "ga" | walk_at "gb")
      have h1 := mod_bd a hp
      refine ⟨rfl, rfl, ?_⟩
      repeat (first | with_reducible (first | apply Yv | apply Ze | apply Yg) | walk_at "ga" | walk_at "gb")
      refine wh_low k b (a % b) hb h1.1 (by omega) ?_
      rw [gcd_step]
      exact hR
end
end

section
set_option Elab.async false
set_option linter.all false
set_option maxRecDepth 100000
open PySem
section
variable {T : Table} {n : Nat} {Q : PyData → Tag → Prop}
theorem Ub {t : Tk} (h : Q (.int t.w) .old) : subP t.d (.int 0) Q := Ju h
theorem Uc {t : Tk} (h : Q (.int t.m) .old) : subP t.d (.int 1) Q := Jv h
theorem Ud {t : Tk} (h : Q (.int t.c) .old) : subP t.d (.int 2) Q := Jw h
theorem Ue {t : Tk} (h : Q (.tuple (t.ps.map .int)) .old) : subP t.d (.int 3) Q := Jx h
noncomputable def f_gives_4 : List PS := [.ret (.var 2)]
noncomputable def f_gives_3f_2 : List PS := (.app 2 (.var 3) : PS) :: []
noncomputable def f_gives_3f_1a_1 : List PS := (.assign 3 false (.bi .min2 [(.var 3), (.var 1)]) : PS) :: []
noncomputable def f_gives_3f_1 : List PS := (.ite (.cmp .Gt (.bi .len [(.var 2)]) (.const (.int 0))) f_gives_3f_1a_1 [] : PS) :: f_gives_3f_2
noncomputable def f_gives_3 : List PS := (.for [3] .plain (.sub (.var 0) (.const (.int 3))) f_gives_3f_1 : PS) :: f_gives_4
noncomputable def f_gives_2 : List PS := (.assign 2 true (.lst []) : PS) :: f_gives_3
noncomputable def f_gives_1 : List PS := (.assign 1 false (.sub (.var 0) (.const (.int 2))) : PS) :: f_gives_2
noncomputable def f_gives : Fn := ⟨1, 4, f_gives_1⟩
noncomputable def f_mark : Fn := ⟨1, 1, [.ret (.bi .max1d [(.call (Str.ofString "gives") [(.var 0)])])]⟩

/-- what the tries give -/
noncomputable def cp (c p : Int) : Int := if c < p then c else p
noncomputable def gv (c : Int) : List Int → List Int
  | [] => []
  | p :: r => p :: r.map (cp c)
theorem gv_len (c : Int) : ∀ ps, (gv c ps).length = ps.length
  | [] => rfl
  | p :: r => by simp [gv]
theorem gv_app (c : Int) (q : Int) : ∀ ps, ps ≠ [] → gv c (ps ++ [q]) = gv c ps ++ [cp c q]
  | [], h => (h rfl).elim
  | p :: r, _ => by simp [gv]


theorem sp_gives {t : Tk} (hp : t.ps.length ≤ 13) (h : Q (.list ((gv t.c t.ps).map .int)) .fresh) : callP (lev T (n + 9)).S f_gives [t.d] Q := by
  refine callP_r (ρ₀ := [.fz t.d, .un, .un, .un]) rfl rfl fun K _ hK _ => ?_
  delta f_gives_1
  repeat (first | with_reducible (first | apply Ub | apply Uc | apply Ud | apply Ue | apply Zb) | walk_at "ga" | walk_at "gb")
  delta f_gives_2
  repeat (first | with_reducible (first | apply Ub | apply Uc | apply Ud | apply Ue | apply Zb) | walk_at "ga" | walk_at "gb")
  delta f_gives_3
  repeat (first | with_reducible (first | apply Ub | apply Uc | apply Ud | apply Ue | apply Zb) | walk_at "ga" | walk_at "gb")
  refine ⟨by rw [List.length_map, size_eq]; omega, for_go (fun l ρ => ∃ (pre post : List Int) (z : Slot), l = post.map .int ∧ t.ps = pre ++ post ∧ ρ = [.fz t.d, .fz (.int t.c), .ow ((gv t.c pre).map .int), z]) ?_ ?_ _ _ ⟨[], t.ps, _, rfl, rfl, rfl⟩⟩
  · rintro d r ρ ⟨pre, post, z, e1, e2, rfl⟩ K' hn _
    match post, e1 with
    | p :: post, e1 =>
      cases e1
      have hl : pre.length ≤ 13 := by rw [e2, List.length_append] at hp; omega
      have hsz : ((gv t.c pre).map PyData.int).length < sizeLine := by rw [List.length_map, gv_len, size_eq]; omega
      have e3 : t.ps = (pre ++ [p]) ++ post := by rw [e2]; simp
      delta f_gives_3f_1
      repeat (first | with_reducible (first | apply Ub | apply Uc | apply Ud | apply Ue | apply Zb) | walk_at "ga" | walk_at "gb")
      refine ⟨Nat.le_of_lt hsz, ?_⟩
      repeat (first | with_reducible (first | apply Ub | apply Uc | apply Ud | apply Ue | apply Zb) | walk_at "ga" | walk_at "gb")
      refine ⟨fun q => ?_, fun q => ?_⟩
      · have : pre ≠ [] := fun e => by subst e; simp [gv] at q
        delta f_gives_3f_1a_1
        repeat (first | with_reducible (first | apply Ub | apply Uc | apply Ud | apply Ue | apply Zb) | walk_at "ga" | walk_at "gb")
        delta f_gives_3f_2
        repeat (first | with_reducible (first | apply Ub | apply Uc | apply Ud | apply Ue | apply Zb) | walk_at "ga" | walk_at "gb")
        refine ⟨hsz, ?_⟩
        repeat (first | with_reducible (first | apply Ub | apply Uc | apply Ud | apply Ue | apply Zb) | walk_at "ga" | walk_at "gb")
        have e4 : (gv t.c (pre ++ [p])).map PyData.int = (gv t.c pre).map .int ++ [.int (if t.c < p then t.c else p)] := by rw [gv_app t.c p pre this, List.map_append]; rfl
        rw [← e4]
        exact hn _ ⟨pre ++ [p], post, _, rfl, e3, rfl⟩
      · have : pre = [] := by cases pre with | nil => rfl | cons a b => simp [gv] at q
        subst this
        repeat (first | with_reducible (first | apply Ub | apply Uc | apply Ud | apply Ue | apply Zb) | walk_at "ga" | walk_at "gb")
        delta f_gives_3f_2
        repeat (first | with_reducible (first | apply Ub | apply Uc | apply Ud | apply Ue | apply Zb) | walk_at "ga" | walk_at "gb")
        refine ⟨hsz, ?_⟩
        repeat (first | with_reducible (first | apply Ub | apply Uc | apply Ud | apply Ue | apply Zb) | walk_at "ga" | walk_at "gb")
        exact hn _ ⟨[p], post, _, rfl, e3, rfl⟩
  · rintro ρ ⟨pre, post, z, e1, e2, rfl⟩
    have : post = [] := by cases post with | nil => rfl | cons a b => simp at e1
    subst this
    rw [List.append_nil] at e2
    rw [← e2]
    delta f_gives_4
    repeat (first | with_reducible (first | apply Ub | apply Uc | apply Ud | apply Ue | apply Zb) | walk_at "ga" | walk_at "gb")
    exact hK _ _ h rfl
theorem sp_mark (hT : T (Str.ofString "gives") = some f_gives) {t : Tk} (hp : t.ps.length ≤ 13) (h : Q (maxD (gv t.c t.ps)) .old) : callP (lev T (n + 12)).S f_mark [t.d] Q := by
  refine callP_r (ρ₀ := [.fz t.d]) rfl rfl fun K hK _ _ => ?_
  repeat (first | with_reducible (first | apply Ub | apply Uc | apply Ud | apply Ue | apply Zb) | walk_at "ga" | walk_at "gb")
  refine sp_gives hp ?_
  repeat (first | with_reducible (first | apply Ub | apply Uc | apply Ud | apply Ue | apply Zb) | walk_at "ga" | walk_at "gb")
  refine ⟨_, ints_map _, ?_⟩
  repeat (first | with_reducible (first | apply Ub | apply Uc | apply Ud | apply Ue | apply Zb) | walk_at "ga" | walk_at "gb")
  exact hK _ h
noncomputable def f__law_mark_3 : List PS := [.ret (.var 1)]
noncomputable def f__law_mark_2f_3a_1 : List PS := (.assign 1 false (.var 3) : PS) :: []
noncomputable def f__law_mark_2f_3 : List PS := (.ite (.or (.cmp .Is (.var 1) (.const .none)) (.cmp .Gt (.var 3) (.var 1))) f__law_mark_2f_3a_1 [] : PS) :: []
noncomputable def f__law_mark_2f_2a_1 : List PS := (.assign 3 false (.sub (.var 0) (.const (.int 2))) : PS) :: []
noncomputable def f__law_mark_2f_2 : List PS := (.ite (.and (.cmp .Gt (.var 2) (.const (.int 0))) (.cmp .Gt (.var 3) (.sub (.var 0) (.const (.int 2))))) f__law_mark_2f_2a_1 [] : PS) :: f__law_mark_2f_3
noncomputable def f__law_mark_2f_1 : List PS := (.assign 3 false (.sub (.sub (.var 0) (.const (.int 3))) (.var 2)) : PS) :: f__law_mark_2f_2
noncomputable def f__law_mark_2 : List PS := (.for [2] .range (.bi .len [(.sub (.var 0) (.const (.int 3)))]) f__law_mark_2f_1 : PS) :: f__law_mark_3
noncomputable def f__law_mark_1 : List PS := (.assign 1 false (.const .none) : PS) :: f__law_mark_2
noncomputable def f__law_mark : Fn := ⟨1, 4, f__law_mark_1⟩
theorem take_gv (c : Int) {ps : List Int} {k : Nat} (hk : k < ps.length) : gv c (ps.take (k + 1)) = gv c (ps.take k) ++ [if k = 0 then ps.getD k 0 else cp c (ps.getD k 0)] := by
  have e : ps.getD k 0 = ps[k] := by simp [List.getD, hk]
  rw [e, List.take_succ_eq_append_getElem hk]
  cases k with
  | zero => rfl
  | succ k =>
    rw [gv_app c _ _ (fun h => by have := congrArg List.length h; rw [List.length_take, List.length_nil] at this; omega), if_neg (by omega)]

theorem maxL_app : ∀ (r : List Int) (a x : Int), maxL a (r ++ [x]) = if maxL a r < x then x else maxL a r
  | [], a, x => rfl
  | b :: r, a, x => by rw [List.cons_append, maxL, maxL_app r, maxL]
theorem maxD_app {l : List Int} {x : Int} (h : l ≠ []) : ∃ b, maxD l = .int b ∧ maxD (l ++ [x]) = .int (if b < x then x else b) := by
  match l, h with
  | a :: r, _ => exact ⟨_, rfl, by rw [List.cons_append, maxD, maxL_app]⟩

theorem maxL_ge : ∀ (r : List Int) (a : Int), a ≤ maxL a r
  | [], a => Int.le_refl a
  | b :: r, a => Int.le_trans (by split <;> omega) (maxL_ge r _)
theorem maxL_mem : ∀ (r : List Int) (a : Int), maxL a r ∈ a :: r
  | [], a => by simp [maxL]
  | b :: r, a => by
    have := maxL_mem r (if a < b then b else a)
    rw [maxL]
    rcases List.mem_cons.mp this with q | q
    · rw [q]; split <;> simp
    · simp [q]

theorem sp_lmark {t : Tk} (hp : t.ps.length ≤ 13) (h : Q (maxD (gv t.c t.ps)) .old) : callP (lev T (n + 9)).S f__law_mark [t.d] Q := by
  refine callP_r (ρ₀ := [.fz t.d, .un, .un, .un]) rfl rfl fun K hK _ _ => ?_
  delta f__law_mark_1
  repeat (first | with_reducible (first | apply Ub | apply Uc | apply Ud | apply Ue | apply Zb) | walk_at "ga" | walk_at "gb")
  delta f__law_mark_2
  repeat (first | with_reducible (first | apply Ub | apply Uc | apply Ud | apply Ue | apply Zb) | walk_at "ga" | walk_at "gb")
  refine ⟨by rw [List.length_map, size_eq]; omega, ?_⟩
  repeat (first | with_reducible (first | apply Ub | apply Uc | apply Ud | apply Ue | apply Zb) | walk_at "ga" | walk_at "gb")
  rw [List.length_map]
  have e0 : ((t.ps.length : Int)).toNat = t.ps.length := Int.toNat_natCast _
  rw [e0]
  refine ⟨by omega, for_range (fun k ρ => ∃ (y z : Slot), ρ = [.fz t.d, .fz (maxD (gv t.c (t.ps.take k))), y, z]) ?_ ?_ ⟨_, _, rfl⟩⟩
  · rintro k ρ hk ⟨y, z, rfl⟩ K' hn _
    have tk := take_gv t.c hk
    have fin : ∀ x : Int, x = (if k = 0 then t.ps.getD k 0 else cp t.c (t.ps.getD k 0)) → blk (lev T (n + 8)).S f__law_mark_2f_3 [.fz t.d, .fz (maxD (gv t.c (t.ps.take k))), .fz (.int k), .fz (.int x)] K' := by
      intro x hx
      rw [← hx] at tk
      delta f__law_mark_2f_3
      cases k with
      | zero =>
        rw [tk] at hn
        show blk _ _ [.fz t.d, .fz .none, .fz (.int ((0 : Nat) : Int)), .fz (.int x)] K'
        repeat (first | with_reducible (first | apply Ub | apply Uc | apply Ud | apply Ue | apply Zb) | walk_at "ga" | walk_at "gb")
        delta f__law_mark_2f_3a_1
        repeat (first | with_reducible (first | apply Ub | apply Uc | apply Ud | apply Ue | apply Zb) | walk_at "ga" | walk_at "gb")
        exact hn _ ⟨_, _, rfl⟩
      | succ k =>
        obtain ⟨b, h1, h2⟩ := maxD_app (l := gv t.c (t.ps.take (k + 1))) (x := x) (fun h => by have := congrArg List.length h; rw [gv_len, List.length_take, List.length_nil] at this; omega)
        rw [← tk] at h2
        rw [h1]
        repeat (first | with_reducible (first | apply Ub | apply Uc | apply Ud | apply Ue | apply Zb) | walk_at "ga" | walk_at "gb")
        rw [h2] at hn
        refine ⟨fun q => ?_, fun q => ?_⟩
        · rw [if_pos (by simpa using q)] at hn
          delta f__law_mark_2f_3a_1
          repeat (first | with_reducible (first | apply Ub | apply Uc | apply Ud | apply Ue | apply Zb) | walk_at "ga" | walk_at "gb")
          exact hn _ ⟨_, _, rfl⟩
        · rw [if_neg (by simpa using q)] at hn
          repeat (first | with_reducible (first | apply Ub | apply Uc | apply Ud | apply Ue | apply Zb) | walk_at "ga" | walk_at "gb")
          exact hn _ ⟨_, _, rfl⟩
    have hki : 0 ≤ (k : Int) ∧ (k : Int) < t.ps.length ∧ t.ps.length ≤ 1000000 := by omega
    have e3 : ((k : Int)).toNat = k := Int.toNat_natCast _
    delta f__law_mark_2f_1
    repeat (first | with_reducible (first | apply Ub | apply Uc | apply Ud | apply Ue | apply Zb) | walk_at "ga" | walk_at "gb")
    refine Ua hki ?_
    rw [e3]
    generalize t.ps.getD k 0 = p at fin ⊢
    repeat (first | with_reducible (first | apply Ub | apply Uc | apply Ud | apply Ue | apply Zb) | walk_at "ga" | walk_at "gb")
    delta f__law_mark_2f_2
    repeat (first | with_reducible (first | apply Ub | apply Uc | apply Ud | apply Ue | apply Zb) | walk_at "ga" | walk_at "gb")
    refine ⟨fun q => ?_, fun q => ?_⟩
    · have hk0 : ¬ k = 0 := by have := of_decide_eq_true q; omega
      rw [if_neg hk0] at fin
      repeat (first | with_reducible (first | apply Ub | apply Uc | apply Ud | apply Ue | apply Zb) | walk_at "ga" | walk_at "gb")
      refine ⟨fun r => ?_, fun r => ?_⟩
      · delta f__law_mark_2f_2a_1
        repeat (first | with_reducible (first | apply Ub | apply Uc | apply Ud | apply Ue | apply Zb) | walk_at "ga" | walk_at "gb")
        exact fin _ (by unfold cp; rw [if_pos (of_decide_eq_true r)])
      · repeat (first | with_reducible (first | apply Ub | apply Uc | apply Ud | apply Ue | apply Zb) | walk_at "ga" | walk_at "gb")
        exact fin _ (by unfold cp; rw [if_neg (of_decide_eq_false r)])
    · have hk0 : k = 0 := by have := of_decide_eq_false q; omega
      rw [if_pos hk0] at fin
      repeat (first | with_reducible (first | apply Ub | apply Uc | apply Ud | apply Ue | apply Zb) | walk_at "ga" | walk_at "gb")
      exact fin _ rfl
  · rintro ρ ⟨y, z, rfl⟩
    rw [List.take_length]
    delta f__law_mark_3
    repeat (first | with_reducible (first | apply Ub | apply Uc | apply Ud | apply Ue | apply Zb) | walk_at "ga" | walk_at "gb")
    exact hK _ h
end
end

section
set_option Elab.async false
set_option linter.all false
set_option maxRecDepth 100000
open PySem
section
variable {T : Table} {n : Nat} {Q : PyData → Tag → Prop}
noncomputable def f_mean_5 : List PS := [.ret (.var 5)]
noncomputable def f_mean_4f_1 : List PS := (.assign 5 false (.call (Str.ofString "plus") [(.var 5), (.call (Str.ofString "times") [(.call (Str.ofString "share") [(.call (Str.ofString "mark") [(.var 3)]), (.sub (.var 3) (.const (.int 1)))]), (.sub (.var 3) (.const (.int 0))), (.var 4)])]) : PS) :: []
noncomputable def f_mean_4 : List PS := (.for [3] .plain (.var 2) f_mean_4f_1 : PS) :: f_mean_5
noncomputable def f_mean_3 : List PS := (.assign 5 false (.tup [(.const (.int 0)), (.const (.int 1))]) : PS) :: f_mean_4
noncomputable def f_mean_2 : List PS := (.assign 4 false (.bi .sum [(.comp (.sub (.var 0) (.const (.int 0))) 1 .plain (.var 2) [] [])]) : PS) :: f_mean_3
noncomputable def f_mean_1 : List PS := (.assign 2 false (.comp (.sub (.sub (.var 1) (.const (.int 3))) (.var 0)) 1 .plain (.var 1) [] [0]) : PS) :: f_mean_2
noncomputable def f_mean : Fn := ⟨2, 6, f_mean_1⟩

/-! what a task gave -/
noncomputable def mrk (t : Tk) : Int := match gv t.c t.ps with | [] => 0 | a :: r => maxL a r
theorem mk_eq {t : Tk} (h : t.ps ≠ []) : maxD (gv t.c t.ps) = .int (mrk t) := by
  unfold mrk maxD
  cases hg : gv t.c t.ps with
  | nil => have := gv_len t.c t.ps; rw [hg] at this; exact (h (List.eq_nil_of_length_eq_zero this.symm)).elim
  | cons a r => rfl
theorem gv_bd {t : Tk} (ht : t.Ok) : ∀ x ∈ gv t.c t.ps, 0 ≤ x ∧ x ≤ t.m := by
  obtain ⟨h1, h2, h3, h4, h5, h6, h7, h8⟩ := ht
  cases hp : t.ps with
  | nil => exact fun x hx => nomatch hx
  | cons p r =>
    rw [hp] at h8
    intro x hx
    rcases List.mem_cons.mp hx with rfl | hx
    · exact h8 x List.mem_cons_self
    · obtain ⟨y, hy, rfl⟩ := List.mem_map.mp hx
      have := h8 y (List.mem_cons_of_mem _ hy)
      unfold cp
      split
      · exact ⟨h5, h6⟩
      · exact this
theorem mk_bd {t : Tk} (ht : t.Ok) : 0 ≤ mrk t ∧ mrk t ≤ 1000000 := by
  have hb := gv_bd ht
  have hm := ht.m2
  unfold mrk
  cases hg : gv t.c t.ps with
  | nil => exact ⟨by decide, by decide⟩
  | cons a r => rw [hg] at hb; have := hb _ (maxL_mem r a); dsimp only; omega

/-- the sum of shares, over one bottom -/
noncomputable def nbS (s : Int × Int) (t : Tk) : Int × Int := (s.1 * t.m + t.w * mrk t * s.2, s.2 * t.m)
noncomputable def wSum (l : List Tk) : Int := (l.map Tk.w).sum
structure NB (k : Nat) (s : Int × Int) : Prop where
  n : Bz (30 + 21 * k) s.1
  b : Bz (1 + 20 * k) s.2
  p : 0 < s.2
theorem bd_of {a : Int} {k : Nat} (m : Nat) (h0 : 0 ≤ a) (h1 : a ≤ m) (h2 : m < 2 ^ k) : Bz k a := by
  refine Bz.of (Nat.lt_of_le_of_lt ?_ h2)
  omega
theorem NB.step {k : Nat} {s : Int × Int} {t : Tk} (h : NB k s) (ht : t.Ok) : NB (k + 1) (nbS s t) := by
  have hw := ht.w1; have hw2 := ht.w2; have hm := ht.m1; have hm2 := ht.m2
  have hk := mk_bd ht
  have bw : Bz 10 t.w := bd_of 1000 (by omega) (by omega) (by decide)
  have bm : Bz 20 t.m := bd_of 1000000 (by omega) (by omega) (by decide)
  have bk : Bz 20 (mrk t) := bd_of 1000000 hk.1 (by omega) (by decide)
  have e1 : Bz (50 + 21 * k) (s.1 * t.m) := (h.n.mul bm).mono (by omega)
  have e2 : Bz (50 + 21 * k) (t.w * mrk t * s.2) := ((bw.mul bk).mul h.b).mono (by omega)
  exact ⟨(e1.add e2).mono (by omega), (h.b.mul bm).mono (by omega), Int.mul_pos h.p (by omega)⟩
theorem NB.zero : NB 0 (0, 1) := ⟨Bz.of (by decide), Bz.of (by decide), by decide⟩
theorem NB.fold : ∀ (l : List Tk) {k : Nat} {s : Int × Int}, NB k s → (∀ t ∈ l, t.Ok) → NB (k + l.length) (l.foldl nbS s)
  | [], _, _, h, _ => h
  | t :: r, k, s, h, ht => by
    have := NB.fold r (h.step (ht t List.mem_cons_self)) fun u hu => ht u (List.mem_cons_of_mem _ hu)
    rw [List.length_cons, show k + (r.length + 1) = k + 1 + r.length by omega]
    exact this
theorem wSum_bd : ∀ (l : List Tk), (∀ t ∈ l, t.Ok) → (l.length : Int) ≤ wSum l ∧ wSum l ≤ 1000 * l.length
  | [], _ => by decide
  | t :: r, ht => by
    have := wSum_bd r fun u hu => ht u (List.mem_cons_of_mem _ hu)
    have h1 := (ht t List.mem_cons_self).w1
    have h2 := (ht t List.mem_cons_self).w2
    have e : wSum (t :: r) = t.w + wSum r := by unfold wSum; rw [List.map_cons, List.sum_cons]
    rw [e, List.length_cons]
    omega

/-- the mean of some tasks, as program and law tell it -/
noncomputable def meanOf (l : List Tk) : Int × Int := low (l.foldl nbS (0, 1)).1 ((l.foldl nbS (0, 1)).2 * wSum l)

theorem step_eq {N B m w x W : Int} : (N * (m * W) + (x * w) * (B * W)) * ((B * m) * W) = (N * m + w * x * B) * ((B * W) * (m * W)) := by grind
theorem fr_start {W : Int} (hW : 0 < W) : Fr (0, 1) 0 (1 * W) := by
  refine ⟨?_, by omega⟩
  unfold low
  rw [Int.one_mul, Int.gcd_zero_left]
  have e : ((W.natAbs : Nat) : Int) = W := by omega
  rw [e, Int.ediv_self (by omega), Int.zero_ediv]

theorem comp_get {E : EvE} {cs : Rho} {elt : PE} {α : Type} {g : α → PyData} {f : α → PyData} : ∀ (l : List α) {R : List PyData → Prop}
    (_ : ∀ a ∈ l, ∀ K : PyData → Tag → Prop, K (f a) .old → E (Slot.fz (g a) :: cs) elt K), R (l.map f) → compGo E 1 cs elt [] (l.map g) R
  | [], _, _, hR => hR
  | a :: r, _, h, hR => ⟨[g a], rfl, h a List.mem_cons_self _ ⟨rfl, comp_get r (fun d' m => h d' (List.mem_cons_of_mem _ m)) hR⟩⟩

noncomputable def pick (ts : List Tk) (k : Int) : Tk := ts.getD k.toNat ⟨0, 0, 0, []⟩
theorem Us {ts : List Tk} {k : Int} (h : 0 ≤ k ∧ k < ts.length) (hl : ts.length ≤ 1000000) (hq : Q (pick ts k).d .old) : subP (.tuple (ts.map Tk.d)) (.int k) Q := by
  have hlt : k.toNat < ts.length := by omega
  rw [subt_at (n := k.toNat) (d := (pick ts k).d) (seq_nat h.1 (by simpa using h.2)) (by rw [List.getElem?_map, List.getElem?_eq_getElem hlt]; unfold pick; simp [List.getD, hlt]) (by omega)]
  exact hq

/-- the numbers of tasks that were tried -/
noncomputable def Nums (ts : List Tk) (ks : List Int) : Prop := ∀ k ∈ ks, (0 ≤ k ∧ k < ts.length) ∧ (pick ts k).ps ≠ []
theorem pick_mem {ts : List Tk} {k : Int} (h : 0 ≤ k ∧ k < ts.length) : pick ts k ∈ ts := by
  have hlt : k.toNat < ts.length := by omega
  unfold pick
  rw [List.getD_eq_getElem?_getD, List.getElem?_eq_getElem hlt]
  exact List.getElem_mem hlt

theorem sp_mean {p : Pt} {M : Nat} (hp : p.Ok M) (hM : M ≤ 8) {ks : List Int} (hk : Nums p.ts ks) (hl : ks.length ≤ 8) (h0 : ks ≠ [])
    (hT1 : T (Str.ofString "divisor_of") = some f_divisor_of) (hT2 : T (Str.ofString "share") = some f_share) (hT3 : T (Str.ofString "plus") = some f_plus) (hT4 : T (Str.ofString "times") = some f_times) (hT5 : T (Str.ofString "gives") = some f_gives) (hT6 : T (Str.ofString "mark") = some f_mark)
    (h : Q (frD (meanOf (ks.map (pick p.ts)))) .old) : callP (lev T (n + 18)).S f_mean [p.d, .list (ks.map .int)] Q := by
  refine callP_r (ρ₀ := [.fz p.d, .fz (.list (ks.map .int)), .un, .un, .un, .un]) rfl rfl fun K hK _ _ => ?_
  have htl := hp.tl
  have hok : ∀ t ∈ ks.map (pick p.ts), t.Ok ∧ t.ps ≠ [] := fun t ht => by
    obtain ⟨k, hk', rfl⟩ := List.mem_map.mp ht
    exact ⟨hp.tk _ (pick_mem (hk k hk').1), (hk k hk').2⟩
  have hll : (ks.map (pick p.ts)).length = ks.length := List.length_map _
  have hne : 0 < ks.length := List.length_pos_iff.mpr h0
  have comp1 : ∀ R : List PyData → Prop, R ((ks.map (pick p.ts)).map Tk.d) → compGo (lev T (n + 16)).E 1 [.fz p.d] (.sub (.sub (.var 1) (.const (.int 3))) (.var 0)) [] (ks.map .int) R := fun R hR => by
    refine comp_get (f := fun k => (pick p.ts k).d) ks (fun k hk' K hK => ?_) (by rw [List.map_map] at hR; exact hR)
    repeat (first | with_reducible (first | apply Ub | apply Uc | apply Ud | apply Ue) | walk_at "ga" | walk_at "gb")
    refine Jx (a := .int p.w) (b := .int p.k) (c := .int p.top) ?_
    repeat (first | with_reducible (first | apply Ub | apply Uc | apply Ud | apply Ue) | walk_at "ga" | walk_at "gb")
    exact Us (hk k hk').1 (by omega) hK
  generalize ks.map (pick p.ts) = L at hok hll h comp1
  have hW := wSum_bd L fun t ht => (hok t ht).1
  delta f_mean_1
  repeat (first | with_reducible (first | apply Ub | apply Uc | apply Ud | apply Ue) | walk_at "ga" | walk_at "gb")
  refine ⟨[.fz p.d], rfl, ?_⟩
  repeat (first | with_reducible (first | apply Ub | apply Uc | apply Ud | apply Ue) | walk_at "ga" | walk_at "gb")
  refine ⟨by rw [List.length_map, size_eq]; omega, comp1 _ ?_⟩
  repeat (first | with_reducible (first | apply Ub | apply Uc | apply Ud | apply Ue) | walk_at "ga" | walk_at "gb")
  delta f_mean_2
  repeat (first | with_reducible (first | apply Ub | apply Uc | apply Ud | apply Ue) | walk_at "ga" | walk_at "gb")
  refine ⟨[], rfl, ?_⟩
  repeat (first | with_reducible (first | apply Ub | apply Uc | apply Ud | apply Ue) | walk_at "ga" | walk_at "gb")
  refine ⟨by rw [List.length_map, size_eq]; omega, comp_get (f := fun t => PyData.int t.w) L (fun t ht K hK => ?_) ?_⟩
  · repeat (first | with_reducible (first | apply Ub | apply Uc | apply Ud | apply Ue) | walk_at "ga" | walk_at "gb")
    exact hK
  refine ⟨L.map Tk.w, by rw [← ints_map (L.map Tk.w), List.map_map]; rfl, ?_⟩
  show asgP _ _ _ _ (.int (wSum L)) .old
  repeat (first | with_reducible (first | apply Ub | apply Uc | apply Ud | apply Ue) | walk_at "ga" | walk_at "gb")
  delta f_mean_3
  repeat (first | with_reducible (first | apply Ub | apply Uc | apply Ud | apply Ue) | walk_at "ga" | walk_at "gb")
  delta f_mean_4
  repeat (first | with_reducible (first | apply Ub | apply Uc | apply Ud | apply Ue) | walk_at "ga" | walk_at "gb")
  have W0 : 0 < wSum L := by omega
  have bW : Bz 13 (wSum L) := bd_of 8000 (by omega) (by omega) (by decide)
  refine ⟨by rw [List.length_map, size_eq]; omega, for_go (fun l ρ => ∃ (pre post : List Tk) (q : Int × Int) (z : Slot), l = post.map Tk.d ∧ L = pre ++ post ∧ Fr q (pre.foldl nbS (0, 1)).1 ((pre.foldl nbS (0, 1)).2 * wSum L) ∧ ρ = [.fz p.d, .fz (.list (ks.map .int)), .fz (.list (L.map Tk.d)), z, .fz (.int (wSum L)), .fz (frD q)]) ?_ ?_ _ _ ⟨[], L, (0, 1), _, rfl, rfl, fr_start W0, rfl⟩⟩
  · rintro d r ρ ⟨pre, post, q, z, e1, e2, fq, rfl⟩ K' hn _
    match post, e1 with
    | t :: post, e1 =>
      cases e1
      have ht : t ∈ L := by rw [e2]; simp
      have htk := hok t ht
      have hpl : pre.length ≤ 8 := by have := congrArg List.length e2; rw [List.length_append] at this; omega
      have nb := NB.fold pre NB.zero fun u hu => (hok u (by rw [e2]; simp [hu])).1
      have hmk := mk_bd htk.1
      have hw1 := htk.1.w1; have hw2 := htk.1.w2; have hm1 := htk.1.m1; have hm2 := htk.1.m2; have hpn := htk.1.pl
      have bq : Bz 300 q.1 ∧ Bz 300 q.2 := fq.bd (nb.n.mono (by omega)) ((nb.b.mul bW).mono (by omega))
      have bm : Bz 20 t.m := bd_of 1000000 (by omega) (by omega) (by decide)
      have bk : Bz 20 (mrk t) := bd_of 1000000 hmk.1 (by omega) (by decide)
      have f1 : Fr (low (mrk t) t.m) (mrk t) t.m := Fr.mk' (by omega)
      have f2 := f1.times t.w W0
      have f3 := fq.plus f2
      have b1 := f1.bd bk bm
      have b2 : Bz 40 (low ((low (mrk t) t.m).1 * t.w) ((low (mrk t) t.m).2 * wSum L)).1 ∧ Bz 40 (low ((low (mrk t) t.m).1 * t.w) ((low (mrk t) t.m).2 * wSum L)).2 :=
        f2.bd ((bk.mul (bd_of (k := 13) 1000 (by omega) (by omega) (by decide))).mono (by omega)) ((bm.mul bW).mono (by omega))
      delta f_mean_4f_1
      repeat (first | with_reducible (first | apply Ub | apply Uc | apply Ud | apply Ue) | walk_at "ga" | walk_at "gb")
      refine sp_mark hT5 (by omega) ?_
      rw [mk_eq htk.2]
      repeat (first | with_reducible (first | apply Ub | apply Uc | apply Ud | apply Ue) | walk_at "ga" | walk_at "gb")
      refine sp_share hT1 (by omega) (bm.mono (by omega)) ?_
      repeat (first | with_reducible (first | apply Ub | apply Uc | apply Ud | apply Ue) | walk_at "ga" | walk_at "gb")
      refine sp_times hT1 hT2 b1 (bd_of (k := 13) 1000 (by omega) (by omega) (by decide)) bW (by omega) f1.pos' W0 ?_
      repeat (first | with_reducible (first | apply Ub | apply Uc | apply Ud | apply Ue) | walk_at "ga" | walk_at "gb")
      refine sp_plus hT1 hT2 bq b2 (by omega) fq.pos' f2.pos' ?_
      repeat (first | with_reducible (first | apply Ub | apply Uc | apply Ud | apply Ue) | walk_at "ga" | walk_at "gb")
      refine hn _ ⟨pre ++ [t], post, _, _, rfl, by rw [e2]; simp, ?_, rfl⟩
      rw [List.foldl_append]
      exact f3.conv (Int.mul_pos (nb.step htk.1).p W0) step_eq
  · rintro ρ ⟨pre, post, q, z, e1, e2, fq, rfl⟩
    have : post = [] := by cases post with | nil => rfl | cons a b => simp at e1
    subst this
    rw [List.append_nil] at e2
    subst e2
    delta f_mean_5
    repeat (first | with_reducible (first | apply Ub | apply Uc | apply Ud | apply Ue) | walk_at "ga" | walk_at "gb")
    rw [fq.eq]
    exact hK _ h
end
end

section
set_option Elab.async false
set_option linter.all false
set_option maxRecDepth 100000
open PySem
section
variable {T : Table} {n : Nat} {Q : PyData → Tag → Prop}
noncomputable def f__law_mean_5 : List PS := [.ret (.call (Str.ofString "_law_low") [(.var 2), (.bin .Mult (.var 3) (.var 4))])]
noncomputable def f__law_mean_4f_5 : List PS := (.assign 4 false (.bin .Add (.var 4) (.sub (.var 6) (.const (.int 0)))) : PS) :: []
noncomputable def f__law_mean_4f_4 : List PS := (.unpack [2, 3] (.call (Str.ofString "_law_low") [(.var 2), (.var 3)]) : PS) :: f__law_mean_4f_5
noncomputable def f__law_mean_4f_3 : List PS := (.assign 3 false (.bin .Mult (.var 3) (.sub (.var 6) (.const (.int 1)))) : PS) :: f__law_mean_4f_4
noncomputable def f__law_mean_4f_2 : List PS := (.assign 2 false (.bin .Add (.bin .Mult (.var 2) (.sub (.var 6) (.const (.int 1)))) (.bin .Mult (.bin .Mult (.sub (.var 6) (.const (.int 0))) (.call (Str.ofString "_law_mark") [(.var 6)])) (.var 3))) : PS) :: f__law_mean_4f_3
noncomputable def f__law_mean_4f_1 : List PS := (.assign 6 false (.sub (.sub (.var 0) (.const (.int 3))) (.var 5)) : PS) :: f__law_mean_4f_2
noncomputable def f__law_mean_4 : List PS := (.for [5] .plain (.var 1) f__law_mean_4f_1 : PS) :: f__law_mean_5
noncomputable def f__law_mean_3 : List PS := (.assign 4 false (.const (.int 0)) : PS) :: f__law_mean_4
noncomputable def f__law_mean_2 : List PS := (.assign 3 false (.const (.int 1)) : PS) :: f__law_mean_3
noncomputable def f__law_mean_1 : List PS := (.assign 2 false (.const (.int 0)) : PS) :: f__law_mean_2
noncomputable def f__law_mean : Fn := ⟨2, 7, f__law_mean_1⟩
noncomputable def f_marked : Fn := ⟨1, 1, [.ret (.comp (.var 0) 2 .enum (.sub (.var 0) (.const (.int 3))) [(.cmp .Gt (.bi .len [(.sub (.var 1) (.const (.int 3)))]) (.const (.int 0)))] [])]⟩

/-! the tasks that were tried -/
noncomputable def thereFrom : Nat → List Tk → List Int
  | _, [] => []
  | i, t :: r => if t.ps = [] then thereFrom (i + 1) r else (i : Int) :: thereFrom (i + 1) r
noncomputable def there (ts : List Tk) : List Int := thereFrom 0 ts

theorem comp_marked {R : List PyData → Prop} : ∀ (ts : List Tk) (i : Nat) {R : List PyData → Prop}, (∀ t ∈ ts, t.ps.length ≤ 13) → R ((thereFrom i ts).map .int) →
    compGo (lev T (n + 6)).E 2 [] (.var 0) [(.cmp .Gt (.bi .len [(.sub (.var 1) (.const (.int 3)))]) (.const (.int 0)))] (((ts.map Tk.d).zipIdx i).map fun (d, i) => .tuple [.int (i : Nat), d]) R
  | [], _, _, _, hR => hR
  | t :: r, i, R, ht, hR => by
    refine ⟨[.int (i : Nat), t.d], rfl, ?_⟩
    show (lev T (n + 6)).E [.fz (.int (i : Nat)), .fz t.d] _ _
    have h1 := ht t List.mem_cons_self
    repeat (first | with_reducible (first | apply Ub | apply Uc | apply Ud | apply Ue) | walk_at "ga" | walk_at "gb")
    refine ⟨by rw [List.length_map, size_eq]; omega, ?_⟩
    rw [List.length_map]
    repeat (first | with_reducible (first | apply Ub | apply Uc | apply Ud | apply Ue) | walk_at "ga" | walk_at "gb")
    refine ⟨fun q => ?_, fun q => ?_⟩
    · have q := of_decide_eq_true q
      have hne : t.ps ≠ [] := fun e => by rw [e] at q; simp at q
      show (lev T (n + 6)).E [.fz (.int (i : Nat)), .fz t.d] _ _
      repeat (first | with_reducible (first | apply Ub | apply Uc | apply Ud | apply Ue) | walk_at "ga" | walk_at "gb")
      refine ⟨rfl, comp_marked (R := R) r (i + 1) (fun u hu => ht u (List.mem_cons_of_mem _ hu)) ?_⟩
      have e : thereFrom i (t :: r) = (i : Int) :: thereFrom (i + 1) r := if_neg hne
      rw [e] at hR
      exact hR
    · have q := of_decide_eq_false q
      have hne : t.ps = [] := List.eq_nil_of_length_eq_zero (by omega)
      refine comp_marked (R := R) r (i + 1) (fun u hu => ht u (List.mem_cons_of_mem _ hu)) ?_
      have e : thereFrom i (t :: r) = thereFrom (i + 1) r := if_pos hne
      rw [e] at hR
      exact hR

theorem sp_marked {p : Pt} {M : Nat} (hp : p.Ok M) (hM : M ≤ 8) (h : Q (.list ((there p.ts).map .int)) .fresh) : callP (lev T (n + 8)).S f_marked [p.d] Q := by
  refine callP_r (ρ₀ := [.fz p.d]) rfl rfl fun K _ hK _ => ?_
  have htl := hp.tl
  repeat (first | with_reducible (first | apply Ub | apply Uc | apply Ud | apply Ue) | walk_at "ga" | walk_at "gb")
  refine ⟨[], rfl, ?_⟩
  repeat (first | with_reducible (first | apply Ub | apply Uc | apply Ud | apply Ue) | walk_at "ga" | walk_at "gb")
  refine Jx (a := .int p.w) (b := .int p.k) (c := .int p.top) ?_
  refine ⟨by rw [List.length_map, size_eq]; omega, comp_marked (R := fun _ => True) p.ts 0 (fun t ht => by have := (hp.tk t ht).pl; omega) ?_⟩
  repeat (first | with_reducible (first | apply Ub | apply Uc | apply Ud | apply Ue) | walk_at "ga" | walk_at "gb")
  exact hK _ _ h rfl

theorem thereFrom_mem : ∀ (ts : List Tk) (i : Nat) (k : Int), k ∈ thereFrom i ts ↔ ∃ j : Nat, k = (i + j : Nat) ∧ ∃ t, ts[j]? = some t ∧ t.ps ≠ []
  | [], i, k => by simp [thereFrom]
  | t :: r, i, k => by
    have ih := thereFrom_mem r (i + 1) k
    have key : (∃ j : Nat, k = (i + j : Nat) ∧ ∃ u, (t :: r)[j]? = some u ∧ u.ps ≠ []) ↔ (k = (i : Nat) ∧ t.ps ≠ []) ∨ ∃ j : Nat, k = (i + 1 + j : Nat) ∧ ∃ u, r[j]? = some u ∧ u.ps ≠ [] := by
      constructor
      · rintro ⟨j, e, u, e2, hu⟩
        cases j with
        | zero => cases e2; exact .inl ⟨e, hu⟩
        | succ j => exact .inr ⟨j, by rw [e]; omega, u, e2, hu⟩
      · rintro (⟨e, hu⟩ | ⟨j, e, u, e2, hu⟩)
        · exact ⟨0, e, t, rfl, hu⟩
        · exact ⟨j + 1, by rw [e]; omega, u, e2, hu⟩
    rw [key, ← ih, thereFrom]
    split
    · rename_i h; simp [h]
    · rename_i h; simp [h]
theorem there_nums {ts : List Tk} : Nums ts (there ts) := fun k hk => by
  obtain ⟨j, e, t, e2, ht⟩ := (thereFrom_mem ts 0 k).mp hk
  obtain ⟨hj, e3⟩ := List.getElem?_eq_some_iff.mp e2
  have hp : pick ts k = t := by unfold pick; rw [e]; simp [List.getD, e2]
  exact ⟨by omega, hp ▸ ht⟩
theorem thereFrom_ge : ∀ (ts : List Tk) (i : Nat) (k : Int), k ∈ thereFrom i ts → (i : Int) ≤ k := fun ts i k hk => by
  obtain ⟨j, e, _⟩ := (thereFrom_mem ts i k).mp hk
  omega
theorem thereFrom_nodup : ∀ (ts : List Tk) (i : Nat), (thereFrom i ts).Nodup
  | [], _ => List.nodup_nil
  | t :: r, i => by
    rw [thereFrom]
    split
    · exact thereFrom_nodup r (i + 1)
    · refine List.nodup_cons.mpr ⟨fun q => ?_, thereFrom_nodup r (i + 1)⟩
      have := thereFrom_ge r (i + 1) _ q
      omega
theorem thereFrom_len : ∀ (ts : List Tk) (i : Nat), (thereFrom i ts).length ≤ ts.length
  | [], _ => Nat.le_refl 0
  | t :: r, i => by
    have := thereFrom_len r (i + 1)
    rw [thereFrom]
    split
    · exact Nat.le_succ_of_le this
    · exact Nat.succ_le_succ this
end
end

section
set_option Elab.async false
set_option linter.all false
set_option maxRecDepth 100000
open PySem
section
variable {T : Table} {n : Nat} {Q : PyData → Tag → Prop}
noncomputable def f_choices_of_4 : List PS := [.ret (.var 2)]
noncomputable def f_choices_of_3f_1f_1 : List PS := (.app 2 (.bin .Add (.tup [(.sub (.var 0) (.var 3))]) (.var 4)) : PS) :: []
noncomputable def f_choices_of_3f_1 : List PS := (.for [4] .plain (.call (Str.ofString "choices_of") [(.slice (.var 0) (some (.bin .Add (.var 3) (.const (.int 1)))) none), (.bin .Sub (.var 1) (.const (.int 1)))]) f_choices_of_3f_1f_1 : PS) :: []
noncomputable def f_choices_of_3 : List PS := (.for [3] .range (.bin .Add (.bin .Sub (.bi .len [(.var 0)]) (.var 1)) (.const (.int 1))) f_choices_of_3f_1 : PS) :: f_choices_of_4
noncomputable def f_choices_of_2 : List PS := (.assign 2 true (.lst []) : PS) :: f_choices_of_3
noncomputable def f_choices_of_1 : List PS := (.ite (.cmp .Eq (.var 1) (.const (.int 0))) [.ret (.lst [(.tup [])])] [] : PS) :: f_choices_of_2
noncomputable def f_choices_of : Fn := ⟨2, 5, f_choices_of_1⟩
theorem Uf {ns : List Int} {Qb : Bool → Prop} (h : Qb (ns == [])) : cmpP .Eq (.list (ns.map .int)) (.list []) Qb := ⟨⟨shaped_ints ns, shaped_nil⟩, by have e := eqv_ints ns []; rw [List.map_nil] at e; rw [e]; exact h⟩
theorem Ug {p : Pt} (h : Q (.int p.w) .old) : subP p.d (.int 0) Q := Ju h
theorem Uh {p : Pt} (h : Q (.int p.k) .old) : subP p.d (.int 1) Q := Jv h
theorem Ui {p : Pt} (h : Q (.int p.top) .old) : subP p.d (.int 2) Q := Jw h
theorem Uj {p : Pt} (h : Q (.tuple (p.ts.map Tk.d)) .old) : subP p.d (.int 3) Q := Jx h
theorem Uk {p : Pt} (h : Q (.tuple (p.ex.map .int)) .old) : subP p.d (.int 4) Q := Jy h

noncomputable def tupD (c : List Int) : PyData := .tuple (c.map .int)
theorem slice_from {ns : List Int} {a : Int} (ha : 0 ≤ a ∧ a < 2 ^ 62) (h : ns.length ≤ sizeLine) (hq : Q (.list ((ns.drop a.toNat).map .int)) .fresh) : sliceP (.list (ns.map .int)) (some (.int a)) none Q :=
  ⟨ha, by rw [List.length_map]; exact h, by show Q (.list ((ns.map PyData.int).drop a.toNat)) .fresh; rw [← List.map_drop]; exact hq⟩


/-- the choices, in the order of the program -/
noncomputable def choicesF : List Int → Nat → List (List Int)
  | _, 0 => [[]]
  | [], _ + 1 => []
  | x :: r, m + 1 => (choicesF r m).map (x :: ·) ++ choicesF r (m + 1)
theorem ch_short : ∀ (l : List Int) (m : Nat), l.length < m → choicesF l m = []
  | [], m + 1, _ => by unfold choicesF; rfl
  | x :: r, m + 1, h => by
    have h' : r.length < m := by simpa using h
    have e1 := ch_short r m h'
    have e2 := ch_short r (m + 1) (by omega)
    show (choicesF r m).map (x :: ·) ++ choicesF r (m + 1) = []
    rw [e1, e2]
    rfl
theorem ch_sub : ∀ (l : List Int) (m : Nat), ∀ c ∈ choicesF l m, c.length = m ∧ ∀ x ∈ c, x ∈ l
  | l, 0, c, h => by
    have h : c ∈ [[]] := by unfold choicesF at h; exact h
    rw [List.mem_singleton.mp h]
    exact ⟨rfl, fun _ m => nomatch m⟩
  | [], m + 1, c, h => by unfold choicesF at h; cases h
  | x :: r, m + 1, c, h => by
    have h : c ∈ (choicesF r m).map (x :: ·) ++ choicesF r (m + 1) := h
    rcases List.mem_append.mp h with q | q
    · obtain ⟨c', hc', rfl⟩ := List.mem_map.mp q
      have := ch_sub r m c' hc'
      exact ⟨congrArg (· + 1) this.1, fun y hy => (List.mem_cons.mp hy).elim (fun e => e ▸ List.mem_cons_self) fun hy => List.mem_cons_of_mem _ (this.2 y hy)⟩
    · have := ch_sub r (m + 1) c q
      exact ⟨this.1, fun y hy => List.mem_cons_of_mem _ (this.2 y hy)⟩
theorem ch_len : ∀ (l : List Int) (m : Nat), (choicesF l m).length ≤ 2 ^ l.length
  | l, 0 => by unfold choicesF; exact Nat.one_le_two_pow
  | [], m + 1 => by unfold choicesF; exact Nat.zero_le _
  | x :: r, m + 1 => by
    show ((choicesF r m).map (x :: ·) ++ choicesF r (m + 1)).length ≤ _
    have h1 := ch_len r m
    have h2 := ch_len r (m + 1)
    rw [List.length_append, List.length_map, List.length_cons, Nat.pow_succ]
    omega
theorem ch_ne : ∀ (l : List Int) (m : Nat), m ≤ l.length → choicesF l m ≠ []
  | l, 0, _ => by unfold choicesF; simp
  | x :: r, m + 1, h => by
    show (choicesF r m).map (x :: ·) ++ choicesF r (m + 1) ≠ []
    have := ch_ne r m (by simpa using h)
    intro q
    exact this (by simpa using (List.append_eq_nil_iff.mp q).1)

theorem sp_choices (hT : T (Str.ofString "choices_of") = some f_choices_of) : ∀ (m : Nat) (l : List Int), m ≤ l.length → l.length ≤ 8 →
    ∀ N, 10 * (m + 1) ≤ N → ∀ Q : PyData → Tag → Prop, Q (.list ((choicesF l m).map tupD)) .fresh → callP (lev T N).S f_choices_of [.list (l.map .int), .int m] Q
  | 0, l, _, _, N, hN, Q, h => by
    obtain ⟨n, rfl⟩ : ∃ n, N = n + 10 := ⟨N - 10, by omega⟩
    refine callP_r (ρ₀ := [.fz _, .fz _, .un, .un, .un]) rfl rfl fun K _ hK _ => ?_
    delta f_choices_of_1
    repeat (first | with_reducible (first | apply Ub | apply Uc | apply Ud | apply Ue | apply Uf | apply Ug | apply Uh | apply Ui | apply Uj | apply Uk) | walk_at "ga" | refine Jg rfl ?_ | refine Jd ?_ | walk_at "gb")
    refine ⟨fun _ => ?_, fun q => (by cases q)⟩
    repeat (first | with_reducible (first | apply Ub | apply Uc | apply Ud | apply Ue | apply Uf | apply Ug | apply Uh | apply Ui | apply Uj | apply Uk) | walk_at "ga" | refine Jg rfl ?_ | refine Jd ?_ | walk_at "gb")
    unfold choicesF at h
    exact hK _ _ h rfl
  | m + 1, l, hml, hl, N, hN, Q, h => by
    obtain ⟨n, rfl⟩ : ∃ n, N = n + 20 := ⟨N - 20, by omega⟩
    refine callP_r (ρ₀ := [.fz (.list (l.map .int)), .fz (.int ((m + 1 : Nat) : Int)), .un, .un, .un]) rfl rfl fun K _ hK _ => ?_
    have big := ch_len l (m + 1)
    have p8 : 2 ^ l.length ≤ 256 := Nat.le_trans (Nat.pow_le_pow_right (by decide) hl) (by decide)
    delta f_choices_of_1
    repeat (first | with_reducible (first | apply Ub | apply Uc | apply Ud | apply Ue | apply Uf | apply Ug | apply Uh | apply Ui | apply Uj | apply Uk) | walk_at "ga" | refine Jg rfl ?_ | refine Jd ?_ | walk_at "gb")
    refine ⟨fun q => ?_, fun _ => ?_⟩
    · have := eq_of_beq q
      omega
    repeat (first | with_reducible (first | apply Ub | apply Uc | apply Ud | apply Ue | apply Uf | apply Ug | apply Uh | apply Ui | apply Uj | apply Uk) | walk_at "ga" | refine Jg rfl ?_ | refine Jd ?_ | walk_at "gb")
    delta f_choices_of_2
    repeat (first | with_reducible (first | apply Ub | apply Uc | apply Ud | apply Ue | apply Uf | apply Ug | apply Uh | apply Ui | apply Uj | apply Uk) | walk_at "ga" | refine Jg rfl ?_ | refine Jd ?_ | walk_at "gb")
    delta f_choices_of_3
    repeat (first | with_reducible (first | apply Ub | apply Uc | apply Ud | apply Ue | apply Uf | apply Ug | apply Uh | apply Ui | apply Uj | apply Uk) | walk_at "ga" | refine Jg rfl ?_ | refine Jd ?_ | walk_at "gb")
    refine ⟨by rw [List.length_map, size_eq]; omega, ?_⟩
    repeat (first | with_reducible (first | apply Ub | apply Uc | apply Ud | apply Ue | apply Uf | apply Ug | apply Uh | apply Ui | apply Uj | apply Uk) | walk_at "ga" | refine Jg rfl ?_ | refine Jd ?_ | walk_at "gb")
    rw [List.length_map]
    have e6 : ((l.length : Int) - ((m + 1 : Nat) : Int) + 1).toNat = l.length - m := by omega
    rw [e6]
    refine ⟨by omega, for_range (fun k ρ => ∃ (cs : List (List Int)) (y z : Slot), cs ++ choicesF (l.drop k) (m + 1) = choicesF l (m + 1) ∧ ρ = [.fz (.list (l.map .int)), .fz (.int ((m + 1 : Nat) : Int)), .ow (cs.map tupD), y, z]) ?_ ?_ ⟨[], _, _, rfl, rfl⟩⟩
    · rintro k ρ hk ⟨cs, y, z, e, rfl⟩ K' hn _
      have hlk : k < l.length := by omega
      have hd : l.drop k = l.getD k 0 :: l.drop (k + 1) := by rw [List.drop_eq_getElem_cons hlk, List.getD_eq_getElem?_getD, List.getElem?_eq_getElem hlk]; rfl
      rw [hd] at e
      generalize hx : l.getD k 0 = x at *
      have e' : (cs ++ (choicesF (l.drop (k + 1)) m).map (x :: ·)) ++ choicesF (l.drop (k + 1)) (m + 1) = choicesF l (m + 1) := by rw [List.append_assoc]; exact e
      have hlen : cs.length + (choicesF (l.drop (k + 1)) m).length ≤ 256 := by
        have := congrArg List.length e'
        rw [List.length_append, List.length_append, List.length_map] at this
        omega
      have hn' := fun z2 => hn _ ⟨_, .fz (.int (k : Nat)), z2, e', rfl⟩
      have IH := sp_choices hT m (l.drop (k + 1)) (by rw [List.length_drop]; omega) (by rw [List.length_drop]; omega)
      have hs := ch_sub (l.drop (k + 1)) m
      generalize choicesF (l.drop (k + 1)) m = cs' at *
      delta f_choices_of_3f_1
      repeat (first | with_reducible (first | apply Ub | apply Uc | apply Ud | apply Ue | apply Uf | apply Ug | apply Uh | apply Ui | apply Uj | apply Uk) | walk_at "ga" | refine Jg rfl ?_ | refine Jd ?_ | walk_at "gb")
      refine slice_from (by omega) (by rw [size_eq]; omega) ?_
      repeat (first | with_reducible (first | apply Ub | apply Uc | apply Ud | apply Ue | apply Uf | apply Ug | apply Uh | apply Ui | apply Uj | apply Uk) | walk_at "ga" | refine Jg rfl ?_ | refine Jd ?_ | walk_at "gb")
      have e4 : ((k : Int) + 1).toNat = k + 1 := by omega
      have e5 : (((m + 1 : Nat) : Int) - 1) = (m : Int) := by omega
      rw [e4, e5]
      refine IH (n + 17) (by omega) _ ?_
      repeat (first | with_reducible (first | apply Ub | apply Uc | apply Ud | apply Ue | apply Uf | apply Ug | apply Uh | apply Ui | apply Uj | apply Uk) | walk_at "ga" | refine Jg rfl ?_ | refine Jd ?_ | walk_at "gb")
      refine ⟨by rw [List.length_map, size_eq]; omega, for_go (fun l' ρ => ∃ (pre post : List (List Int)) (z : Slot), l' = post.map tupD ∧ cs' = pre ++ post ∧ ρ = [.fz (.list (l.map .int)), .fz (.int ((m + 1 : Nat) : Int)), .ow ((cs ++ pre.map (x :: ·)).map tupD), .fz (.int (k : Nat)), z]) ?_ ?_ _ _ ⟨[], cs', z, rfl, rfl, by rw [List.map_nil, List.append_nil]⟩⟩
      · rintro d r ρ ⟨pre, post, z, e1, e2, rfl⟩ K2 hn2 _
        match post, e1 with
        | c :: post, e1 =>
          cases e1
          delta f_choices_of_3f_1f_1
          repeat (first | with_reducible (first | apply Ub | apply Uc | apply Ud | apply Ue | apply Uf | apply Ug | apply Uh | apply Ui | apply Uj | apply Uk) | walk_at "ga" | refine Jg rfl ?_ | refine Jd ?_ | walk_at "gb")
          refine Jz (by omega) ?_
          rw [Int.toNat_natCast, hx]
          repeat (first | with_reducible (first | apply Ub | apply Uc | apply Ud | apply Ue | apply Uf | apply Ug | apply Uh | apply Ui | apply Uj | apply Uk) | walk_at "ga" | refine Jg rfl ?_ | refine Jd ?_ | walk_at "gb")
          have hc := (hs c (by rw [e2]; simp)).1
          refine Ya (m := c.map .int) ⟨by rw [List.length_map, hc, size_eq, List.length_singleton]; omega, ?_⟩
          refine Zq ⟨by rw [List.length_map, List.length_append, List.length_map, size_eq]; have := congrArg List.length e2; rw [List.length_append] at this; omega, ?_⟩
          repeat (first | with_reducible (first | apply Ub | apply Uc | apply Ud | apply Ue | apply Uf | apply Ug | apply Uh | apply Ui | apply Uj | apply Uk) | walk_at "ga" | refine Jg rfl ?_ | refine Jd ?_ | walk_at "gb")
          have e : ((cs ++ pre.map (x :: ·)).map tupD) ++ [PyData.tuple ([PyData.int x] ++ c.map .int)] = (cs ++ (pre ++ [c]).map (x :: ·)).map tupD := by simp [tupD]
          rw [e]
          exact hn2 _ ⟨pre ++ [c], post, _, rfl, by rw [e2]; simp, rfl⟩
      · rintro ρ ⟨pre, post, z, e1, e2, rfl⟩
        have : post = [] := by cases post with | nil => rfl | cons a b => simp at e1
        subst this
        rw [List.append_nil] at e2
        subst e2
        repeat (first | with_reducible (first | apply Ub | apply Uc | apply Ud | apply Ue | apply Uf | apply Ug | apply Uh | apply Ui | apply Uj | apply Uk) | walk_at "ga" | refine Jg rfl ?_ | refine Jd ?_ | walk_at "gb")
        exact hn' z
    · rintro ρ ⟨cs, y, z, e, rfl⟩
      rw [ch_short (l.drop (l.length - m)) (m + 1) (by rw [List.length_drop]; omega), List.append_nil] at e
      subst e
      refine Zi ?_
      delta f_choices_of_4
      repeat (first | with_reducible (first | apply Ub | apply Uc | apply Ud | apply Ue | apply Uf | apply Ug | apply Uh | apply Ui | apply Uj | apply Uk) | walk_at "ga" | refine Jg rfl ?_ | refine Jd ?_ | walk_at "gb")
      exact hK _ _ h rfl
end
end

section
set_option Elab.async false
set_option linter.all false
set_option maxRecDepth 100000
open PySem
section
variable {T : Table} {n : Nat} {Q : PyData → Tag → Prop}
noncomputable def f_left_out_6 : List PS := [.ret (.var 2)]
noncomputable def f_left_out_5f_2a_2 : List PS := (.assign 3 false (.var 5) : PS) :: []
noncomputable def f_left_out_5f_2a_1 : List PS := (.assign 2 false (.var 4) : PS) :: f_left_out_5f_2a_2
noncomputable def f_left_out_5f_2 : List PS := (.ite (.or (.cmp .Is (.var 2) (.const .none)) (.call (Str.ofString "less") [(.var 3), (.var 5)])) f_left_out_5f_2a_1 [] : PS) :: []
noncomputable def f_left_out_5f_1 : List PS := (.assign 5 false (.call (Str.ofString "mean") [(.var 0), (.comp (.var 0) 1 .plain (.var 1) [(.cmp .NotIn (.var 0) (.var 1))] [4])]) : PS) :: f_left_out_5f_2
noncomputable def f_left_out_5 : List PS := (.for [4] .plain (.call (Str.ofString "choices_of") [(.var 1), (.bi .min2 [(.sub (.var 0) (.const (.int 1))), (.bin .Sub (.bi .len [(.var 1)]) (.const (.int 1)))])]) f_left_out_5f_1 : PS) :: f_left_out_6
noncomputable def f_left_out_4 : List PS := (.assign 3 false (.const .none) : PS) :: f_left_out_5
noncomputable def f_left_out_3 : List PS := (.assign 2 false (.const .none) : PS) :: f_left_out_4
noncomputable def f_left_out_2 : List PS := (.ite (.cmp .Eq (.var 1) (.lst [])) [.ret (.tup [])] [] : PS) :: f_left_out_3
noncomputable def f_left_out_1 : List PS := (.assign 1 false (.call (Str.ofString "marked") [(.var 0)]) : PS) :: f_left_out_2
noncomputable def f_left_out : Fn := ⟨1, 6, f_left_out_1⟩

theorem Ul {c : List Int} {Qb : Bool → Prop} (h : Qb false) : cmpP .Is (tupD c) .none Qb := h
theorem Um {p : Int × Int} {Qb : Bool → Prop} (h : Qb false) : cmpP .Is (frD p) .none Qb := h
/-- what is kept -/
noncomputable def kept (l c : List Int) : List Int := l.filter fun x => !c.contains x
theorem kept_mem {l c : List Int} {x : Int} (h : x ∈ kept l c) : x ∈ l := (List.mem_filter.mp h).1
theorem len_le_of_sub : ∀ (l m : List Int), l.Nodup → (∀ x ∈ l, x ∈ m) → l.length ≤ m.length
  | [], _, _, _ => Nat.zero_le _
  | a :: r, m, hn, h => by
    obtain ⟨h1, h2⟩ := List.nodup_cons.mp hn
    have ha := h a List.mem_cons_self
    have := len_le_of_sub r (m.erase a) h2 fun x hx => (List.mem_erase_of_ne (fun e : x = a => h1 (by rw [← e]; exact hx))).mpr (h x (List.mem_cons_of_mem _ hx))
    rw [List.length_erase_of_mem ha] at this
    have : 0 < m.length := List.length_pos_of_mem ha
    rw [List.length_cons]
    omega
theorem kept_ne {l c : List Int} (hn : l.Nodup) (h : c.length < l.length) : kept l c ≠ [] := fun e => by
  have := len_le_of_sub l c hn fun x hx => by
    cases hc : c.contains x with
    | true => simpa using hc
    | false => exact absurd (e ▸ List.mem_filter.mpr ⟨hx, by rw [hc]; rfl⟩ : x ∈ ([] : List Int)) (by simp)
  omega
theorem comp_kept {lf : List Int} : ∀ (ns : List Int) {R : List PyData → Prop}, R ((kept ns lf).map .int) → compGo (lev T (n + 4)).E 1 [.fz (tupD lf)] (.var 0) [(.cmp .NotIn (.var 0) (.var 1))] (ns.map .int) R
  | [], _, hR => hR
  | i :: r, R, hR => by
    refine ⟨[.int i], rfl, ?_⟩
    show (lev T (n + 4)).E [.fz (.int i), .fz (tupD lf)] _ _
    repeat (first | with_reducible (first | apply Ub | apply Uc | apply Ud | apply Ue | apply Uf | apply Ug | apply Uh | apply Ui | apply Uj | apply Uk | apply Ul | apply Um | apply Zb) | walk_at "ga" | refine Jd ?_ | walk_at "gb")
    refine ⟨lf, ints_map lf, ?_⟩
    show brP (.bool (!lf.contains i)) _ _
    cases hc : lf.contains i with
    | true =>
      have e : kept (i :: r) lf = kept r lf := by unfold kept; rw [List.filter_cons_of_neg (by rw [hc]; simp)]
      rw [e] at hR
      exact ⟨fun q => (by cases q), fun _ => comp_kept r hR⟩
    | false =>
      have e : kept (i :: r) lf = i :: kept r lf := by unfold kept; rw [List.filter_cons_of_pos (by rw [hc]; simp)]
      rw [e] at hR
      refine ⟨fun _ => ?_, fun q => (by cases q)⟩
      show (lev T (n + 4)).E [.fz (.int i), .fz (tupD lf)] _ _
      repeat (first | with_reducible (first | apply Ub | apply Uc | apply Ud | apply Ue | apply Uf | apply Ug | apply Uh | apply Ui | apply Uj | apply Uk | apply Ul | apply Um | apply Zb) | walk_at "ga" | refine Jd ?_ | walk_at "gb")
      exact ⟨rfl, comp_kept r hR⟩

theorem mean_fr {L : List Tk} (hok : ∀ t ∈ L, t.Ok) (hl : L.length ≤ 8) (h0 : 0 < L.length) : Fr (meanOf L) (meanOf L).1 (meanOf L).2 ∧ Bz 300 (meanOf L).1 ∧ Bz 300 (meanOf L).2 := by
  have nb := NB.fold L NB.zero hok
  have hW := wSum_bd _ hok
  have W0 : 0 < wSum L := by omega
  have bW : Bz 13 (wSum L) := bd_of 8000 (by omega) (by omega) (by decide)
  have f : Fr (meanOf L) _ _ := Fr.mk' (Int.mul_pos nb.p W0)
  exact ⟨f.self, f.bd (nb.n.mono (by omega)) ((nb.b.mul bW).mono (by omega))⟩

/-- the tables that the project's own functions stand in -/
structure Tabs (T : Table) : Prop where
  div : T (Str.ofString "divisor_of") = some f_divisor_of
  sh : T (Str.ofString "share") = some f_share
  pl : T (Str.ofString "plus") = some f_plus
  ti : T (Str.ofString "times") = some f_times
  le : T (Str.ofString "less") = some f_less
  gi : T (Str.ofString "gives") = some f_gives
  ma : T (Str.ofString "mark") = some f_mark
  md : T (Str.ofString "marked") = some f_marked
  ch : T (Str.ofString "choices_of") = some f_choices_of
  me : T (Str.ofString "mean") = some f_mean
  lo : T (Str.ofString "left_out") = some f_left_out


/-- the best choice so far and what it gives -/
noncomputable def better (val : List Int → Int × Int) (s : Option (List Int × Int × Int)) (c : List Int) : Option (List Int × Int × Int) :=
  match s with
  | none => some (c, val c)
  | some b => if b.2.1 * (val c).2 < (val c).1 * b.2.2 then some (c, val c) else some b
noncomputable def valOf (p : Pt) (c : List Int) : Int × Int := meanOf ((kept (there p.ts) c).map (pick p.ts))
noncomputable def manyOf (p : Pt) : Int := if ((there p.ts).length : Int) - 1 < p.k then ((there p.ts).length : Int) - 1 else p.k
noncomputable def bestOf (p : Pt) (cs : List (List Int)) : Option (List Int × Int × Int) := cs.foldl (better (valOf p)) none
noncomputable def leftF (p : Pt) : List Int := match there p.ts with
  | [] => []
  | _ :: _ => (match bestOf p (choicesF (there p.ts) (manyOf p).toNat) with | some b => b.1 | none => [])
noncomputable def bD1 : Option (List Int × Int × Int) → PyData
  | none => .none
  | some b => tupD b.1
noncomputable def bD2 : Option (List Int × Int × Int) → PyData
  | none => .none
  | some b => frD b.2
theorem best_app {p : Pt} (cs : List (List Int)) (c : List Int) : bestOf p (cs ++ [c]) = better (valOf p) (bestOf p cs) c := by unfold bestOf; rw [List.foldl_append]; rfl
theorem best_bd {p : Pt} : ∀ (cs : List (List Int)) (s : Option (List Int × Int × Int)), (∀ c ∈ cs, Bz 300 (valOf p c).1 ∧ Bz 300 (valOf p c).2) → (∀ b, s = some b → Bz 300 b.2.1 ∧ Bz 300 b.2.2) → ∀ b, cs.foldl (better (valOf p)) s = some b → Bz 300 b.2.1 ∧ Bz 300 b.2.2
  | [], s, _, h, b, e => h b e
  | c :: r, s, hc, h, b, e => by
    refine best_bd r (better (valOf p) s c) (fun c' hc' => hc c' (List.mem_cons_of_mem _ hc')) (fun b' e' => ?_) b e
    have h1 := hc c List.mem_cons_self
    unfold better at e'
    cases s with
    | none => cases e'; exact h1
    | some b0 =>
      dsimp only at e'
      split at e'
      · cases e'; exact h1
      · cases e'; exact h _ rfl
theorem best_some {p : Pt} (c : List Int) (cs : List (List Int)) : ∃ b, bestOf p (c :: cs) = some b := by
  have key : ∀ (cs : List (List Int)) (b : List Int × Int × Int), ∃ b', cs.foldl (better (valOf p)) (some b) = some b' := by
    intro cs
    induction cs with
    | nil => exact fun b => ⟨b, rfl⟩
    | cons c r ih =>
      intro b
      show ∃ b', r.foldl (better (valOf p)) (if b.2.1 * (valOf p c).2 < (valOf p c).1 * b.2.2 then some (c, valOf p c) else some b) = some b'
      split
      · exact ih _
      · exact ih _
  exact key cs (c, valOf p c)

theorem sp_left (B : Tabs T) {p : Pt} {M : Nat} (hp : p.Ok M) (hM : M ≤ 8) (h : Q (tupD (leftF p)) .old) : callP (lev T (n + 60)).S f_left_out [p.d] Q := by
  have hn := there_nums (ts := p.ts)
  have hnd := thereFrom_nodup p.ts 0
  have hlen := thereFrom_len p.ts 0
  have htl := hp.tl
  change (there p.ts).Nodup at hnd
  change (there p.ts).length ≤ p.ts.length at hlen
  obtain ⟨div, sh, pl, ti, le, gi, ma, md, ch, me, lo⟩ := B
  refine callP_r (ρ₀ := [.fz p.d, .un, .un, .un, .un, .un]) rfl rfl fun K hK _ _ => ?_
  delta f_left_out_1
  repeat (first | with_reducible (first | apply Ub | apply Uc | apply Ud | apply Ue | apply Uf | apply Ug | apply Uh | apply Ui | apply Uj | apply Uk | apply Ul | apply Um | apply Zb) | walk_at "ga" | refine Jd ?_ | walk_at "gb")
  refine sp_marked hp hM ?_
  repeat (first | with_reducible (first | apply Ub | apply Uc | apply Ud | apply Ue | apply Uf | apply Ug | apply Uh | apply Ui | apply Uj | apply Uk | apply Ul | apply Um | apply Zb) | walk_at "ga" | refine Jd ?_ | walk_at "gb")
  delta f_left_out_2
  repeat (first | with_reducible (first | apply Ub | apply Uc | apply Ud | apply Ue | apply Uf | apply Ug | apply Uh | apply Ui | apply Uj | apply Uk | apply Ul | apply Um | apply Zb) | walk_at "ga" | refine Jd ?_ | walk_at "gb")
  unfold leftF at h
  refine ⟨fun q => ?_, fun q => ?_⟩
  · have h0 : there p.ts = [] := by simpa using q
    rw [h0] at h
    repeat (first | with_reducible (first | apply Ub | apply Uc | apply Ud | apply Ue | apply Uf | apply Ug | apply Uh | apply Ui | apply Uj | apply Uk | apply Ul | apply Um | apply Zb) | walk_at "ga" | refine Jd ?_ | walk_at "gb")
    exact hK _ h
  have h0 : there p.ts ≠ [] := by simpa using q
  have hpos : 0 < (there p.ts).length := List.length_pos_iff.mpr h0
  have hk1 := hp.k1
  have hk2 := hp.k2
  have hmb : 0 ≤ manyOf p ∧ manyOf p < (there p.ts).length := by unfold manyOf; split <;> omega
  have hres : ∀ b, bestOf p (choicesF (there p.ts) (manyOf p).toNat) = some b → Q (tupD b.1) .old := fun b e => by
    cases hth : there p.ts with
    | nil => exact (h0 hth).elim
    | cons x r => rw [hth] at h e; rw [e] at h; exact h
  have hval : ∀ c ∈ choicesF (there p.ts) (manyOf p).toNat, (Nums p.ts (kept (there p.ts) c) ∧ (kept (there p.ts) c).length ≤ 8 ∧ kept (there p.ts) c ≠ []) ∧ Bz 300 (valOf p c).1 ∧ Bz 300 (valOf p c).2 := fun c hc => by
    have n1 : Nums p.ts (kept (there p.ts) c) := fun k hk => hn k (kept_mem hk)
    have n2 : (kept (there p.ts) c).length ≤ 8 := Nat.le_trans (List.length_filter_le _ _) (by omega)
    have n3 := kept_ne hnd (show c.length < (there p.ts).length by have := (ch_sub _ _ c hc).1; omega)
    refine ⟨⟨n1, n2, n3⟩, ?_⟩
    have hok : ∀ t ∈ (kept (there p.ts) c).map (pick p.ts), t.Ok := fun t ht => by
      obtain ⟨k, hk', rfl⟩ := List.mem_map.mp ht
      exact hp.tk _ (pick_mem (n1 k hk').1)
    exact (mean_fr hok (by rw [List.length_map]; exact n2) (by rw [List.length_map]; exact List.length_pos_iff.mpr n3)).2
  have ge := sp_choices ch (manyOf p).toNat (there p.ts) (by omega) (by omega)
  have hne := ch_ne (there p.ts) (manyOf p).toNat (by omega)
  have hcl := ch_len (there p.ts) (manyOf p).toNat
  have p8 : 2 ^ (there p.ts).length ≤ 256 := Nat.le_trans (Nat.pow_le_pow_right (by decide) (by omega : (there p.ts).length ≤ 8)) (by decide)
  have em : (((manyOf p).toNat : Nat) : Int) = manyOf p := by omega
  rw [em] at ge
  generalize choicesF (there p.ts) (manyOf p).toNat = cs at *
  repeat (first | with_reducible (first | apply Ub | apply Uc | apply Ud | apply Ue | apply Uf | apply Ug | apply Uh | apply Ui | apply Uj | apply Uk | apply Ul | apply Um | apply Zb) | walk_at "ga" | refine Jd ?_ | walk_at "gb")
  delta f_left_out_3
  repeat (first | with_reducible (first | apply Ub | apply Uc | apply Ud | apply Ue | apply Uf | apply Ug | apply Uh | apply Ui | apply Uj | apply Uk | apply Ul | apply Um | apply Zb) | walk_at "ga" | refine Jd ?_ | walk_at "gb")
  delta f_left_out_4
  repeat (first | with_reducible (first | apply Ub | apply Uc | apply Ud | apply Ue | apply Uf | apply Ug | apply Uh | apply Ui | apply Uj | apply Uk | apply Ul | apply Um | apply Zb) | walk_at "ga" | refine Jd ?_ | walk_at "gb")
  delta f_left_out_5
  repeat (first | with_reducible (first | apply Ub | apply Uc | apply Ud | apply Ue | apply Uf | apply Ug | apply Uh | apply Ui | apply Uj | apply Uk | apply Ul | apply Um | apply Zb) | walk_at "ga" | refine Jd ?_ | walk_at "gb")
  refine ⟨by rw [List.length_map, size_eq]; omega, ?_⟩
  rw [List.length_map]
  repeat (first | with_reducible (first | apply Ub | apply Uc | apply Ud | apply Ue | apply Uf | apply Ug | apply Uh | apply Ui | apply Uj | apply Uk | apply Ul | apply Um | apply Zb) | walk_at "ga" | refine Jd ?_ | walk_at "gb")
  change callP _ f_choices_of [.list ((there p.ts).map .int), .int (manyOf p)] _
  refine ge (n + 58) (by have : manyOf p ≤ 3 := by unfold manyOf; split <;> omega
                         omega) _ ?_
  repeat (first | with_reducible (first | apply Ub | apply Uc | apply Ud | apply Ue | apply Uf | apply Ug | apply Uh | apply Ui | apply Uj | apply Uk | apply Ul | apply Um | apply Zb) | walk_at "ga" | refine Jd ?_ | walk_at "gb")
  refine ⟨by rw [List.length_map, size_eq]; omega, for_go (fun l ρ => ∃ (pre post : List (List Int)) (y z : Slot), l = post.map tupD ∧ cs = pre ++ post ∧ ρ = [.fz p.d, .fz (.list ((there p.ts).map .int)), .fz (bD1 (bestOf p pre)), .fz (bD2 (bestOf p pre)), y, z]) ?_ ?_ _ _ ⟨[], cs, _, _, rfl, rfl, rfl⟩⟩
  · rintro d r ρ ⟨pre, post, y, z, e1, e2, rfl⟩ K' hnx _
    match post, e1 with
    | c :: post, e1 =>
      cases e1
      obtain ⟨⟨n1, n2, n3⟩, b1, b2⟩ := hval c (by rw [e2]; simp)
      have hn' := hnx _ ⟨pre ++ [c], post, .fz (tupD c), .fz (frD (valOf p c)), rfl, by rw [e2]; simp, rfl⟩
      rw [best_app] at hn'
      have hbb := best_bd pre none (fun c' hc' => (hval c' (by rw [e2]; simp [hc'])).2) (fun b e => by cases e)
      change ∀ b, bestOf p pre = some b → _ at hbb
      delta f_left_out_5f_1
      repeat (first | with_reducible (first | apply Ub | apply Uc | apply Ud | apply Ue | apply Uf | apply Ug | apply Uh | apply Ui | apply Uj | apply Uk | apply Ul | apply Um | apply Zb) | walk_at "ga" | refine Jd ?_ | walk_at "gb")
      refine ⟨[.fz (tupD c)], rfl, ?_⟩
      repeat (first | with_reducible (first | apply Ub | apply Uc | apply Ud | apply Ue | apply Uf | apply Ug | apply Uh | apply Ui | apply Uj | apply Uk | apply Ul | apply Um | apply Zb) | walk_at "ga" | refine Jd ?_ | walk_at "gb")
      refine ⟨by rw [List.length_map, size_eq]; omega, comp_kept _ ?_⟩
      repeat (first | with_reducible (first | apply Ub | apply Uc | apply Ud | apply Ue | apply Uf | apply Ug | apply Uh | apply Ui | apply Uj | apply Uk | apply Ul | apply Um | apply Zb) | walk_at "ga" | refine Jd ?_ | walk_at "gb")
      refine sp_mean hp hM n1 n2 n3 div sh pl ti gi ma ?_
      change callQ _ _ (frD (valOf p c)) .old
      repeat (first | with_reducible (first | apply Ub | apply Uc | apply Ud | apply Ue | apply Uf | apply Ug | apply Uh | apply Ui | apply Uj | apply Uk | apply Ul | apply Um | apply Zb) | walk_at "ga" | refine Jd ?_ | walk_at "gb")
      delta f_left_out_5f_2
      cases hb : bestOf p pre with
      | none =>
        rw [hb] at hn'
        show blk _ _ [_, _, .fz .none, .fz .none, _, _] _
        repeat (first | with_reducible (first | apply Ub | apply Uc | apply Ud | apply Ue | apply Uf | apply Ug | apply Uh | apply Ui | apply Uj | apply Uk | apply Ul | apply Um | apply Zb) | walk_at "ga" | refine Jd ?_ | walk_at "gb")
        delta f_left_out_5f_2a_1
        repeat (first | with_reducible (first | apply Ub | apply Uc | apply Ud | apply Ue | apply Uf | apply Ug | apply Uh | apply Ui | apply Uj | apply Uk | apply Ul | apply Um | apply Zb) | walk_at "ga" | refine Jd ?_ | walk_at "gb")
        delta f_left_out_5f_2a_2
        repeat (first | with_reducible (first | apply Ub | apply Uc | apply Ud | apply Ue | apply Uf | apply Ug | apply Uh | apply Ui | apply Uj | apply Uk | apply Ul | apply Um | apply Zb) | walk_at "ga" | refine Jd ?_ | walk_at "gb")
        exact hn'
      | some b =>
        obtain ⟨c1, c2⟩ := hbb b hb
        rw [hb] at hn'
        show blk _ _ [_, _, .fz (tupD b.1), .fz (frD b.2), _, _] _
        repeat (first | with_reducible (first | apply Ub | apply Uc | apply Ud | apply Ue | apply Uf | apply Ug | apply Uh | apply Ui | apply Uj | apply Uk | apply Ul | apply Um | apply Zb) | walk_at "ga" | refine Jd ?_ | walk_at "gb")
        refine sp_less ⟨c1, c2⟩ ⟨b1, b2⟩ (by omega) ?_
        repeat (first | with_reducible (first | apply Ub | apply Uc | apply Ud | apply Ue | apply Uf | apply Ug | apply Uh | apply Ui | apply Uj | apply Uk | apply Ul | apply Um | apply Zb) | walk_at "ga" | refine Jd ?_ | walk_at "gb")
        unfold better at hn'
        dsimp only at hn'
        refine ⟨fun q => ?_, fun q => ?_⟩
        · rw [if_pos (of_decide_eq_true q)] at hn'
          delta f_left_out_5f_2a_1
          repeat (first | with_reducible (first | apply Ub | apply Uc | apply Ud | apply Ue | apply Uf | apply Ug | apply Uh | apply Ui | apply Uj | apply Uk | apply Ul | apply Um | apply Zb) | walk_at "ga" | refine Jd ?_ | walk_at "gb")
          delta f_left_out_5f_2a_2
          repeat (first | with_reducible (first | apply Ub | apply Uc | apply Ud | apply Ue | apply Uf | apply Ug | apply Uh | apply Ui | apply Uj | apply Uk | apply Ul | apply Um | apply Zb) | walk_at "ga" | refine Jd ?_ | walk_at "gb")
          exact hn'
        · rw [if_neg (of_decide_eq_false q)] at hn'
          repeat (first | with_reducible (first | apply Ub | apply Uc | apply Ud | apply Ue | apply Uf | apply Ug | apply Uh | apply Ui | apply Uj | apply Uk | apply Ul | apply Um | apply Zb) | walk_at "ga" | refine Jd ?_ | walk_at "gb")
          exact hn'
  · rintro ρ ⟨pre, post, y, z, e1, e2, rfl⟩
    have : post = [] := by cases post with | nil => rfl | cons a b => simp at e1
    subst this
    rw [List.append_nil] at e2
    subst e2
    obtain ⟨b, hb⟩ : ∃ b, bestOf p cs = some b := by
      cases cs with
      | nil => exact (hne rfl).elim
      | cons c r => exact best_some c r
    rw [hb]
    delta f_left_out_6
    show contP _ _ _ (.next [_, _, .fz (tupD b.1), _, _, _])
    repeat (first | with_reducible (first | apply Ub | apply Uc | apply Ud | apply Ue | apply Uf | apply Ug | apply Uh | apply Ui | apply Uj | apply Uk | apply Ul | apply Um | apply Zb) | walk_at "ga" | refine Jd ?_ | walk_at "gb")
    exact hK _ (hres b hb)
end
end

section
set_option Elab.async false
set_option linter.all false
set_option maxRecDepth 100000
open PySem
section
variable {T : Table} {n : Nat} {Q : PyData → Tag → Prop}
noncomputable def f_part_share_7 : List PS := [.ret (.var 3)]
noncomputable def f_part_share_6 : List PS := (.ite (.call (Str.ofString "less") [(.tup [(.const (.int 1)), (.const (.int 1))]), (.var 3)]) [.ret (.tup [(.const (.int 1)), (.const (.int 1))])] [] : PS) :: f_part_share_7
noncomputable def f_part_share_5 : List PS := (.assign 3 false (.call (Str.ofString "plus") [(.var 3), (.call (Str.ofString "share") [(.bi .min2 [(.bi .sum [(.sub (.var 0) (.const (.int 4)))]), (.sub (.var 0) (.const (.int 2)))]), (.const (.int 1000))])]) : PS) :: f_part_share_6
noncomputable def f_part_share_4 : List PS := (.assign 3 false (.call (Str.ofString "mean") [(.var 0), (.comp (.var 0) 1 .plain (.var 1) [(.cmp .NotIn (.var 0) (.var 1))] [2])]) : PS) :: f_part_share_5
noncomputable def f_part_share_3 : List PS := (.assign 2 false (.call (Str.ofString "left_out") [(.var 0)]) : PS) :: f_part_share_4
noncomputable def f_part_share_2 : List PS := (.ite (.cmp .Eq (.var 1) (.lst [])) [.ret (.const .none)] [] : PS) :: f_part_share_3
noncomputable def f_part_share_1 : List PS := (.assign 1 false (.call (Str.ofString "marked") [(.var 0)]) : PS) :: f_part_share_2
noncomputable def f_part_share : Fn := ⟨1, 4, f_part_share_1⟩
noncomputable def exOf (p : Pt) : Int := if p.top < p.ex.sum then p.top else p.ex.sum
noncomputable def hereOf (p : Pt) (lf : List Int) : Int × Int := meanOf ((kept (there p.ts) lf).map (pick p.ts))
noncomputable def sumOf (p : Pt) (h : Int × Int) : Int × Int := low (h.1 * 1000 + exOf p * h.2) (h.2 * 1000)
noncomputable def capOf (f : Int × Int) : Int × Int := if f.2 < f.1 then (1, 1) else f
theorem sum_bd : ∀ (l : List Int), (∀ x ∈ l, 0 ≤ x ∧ x ≤ 1000) → 0 ≤ l.sum
  | [], _ => by decide
  | a :: r, h => by
    have := sum_bd r fun x hx => h x (List.mem_cons_of_mem _ hx)
    have := h a List.mem_cons_self
    rw [List.sum_cons]
    omega
theorem ex_bd {p : Pt} {M : Nat} (hp : p.Ok M) : 0 ≤ exOf p ∧ exOf p ≤ 1000 := by
  have h1 := sum_bd p.ex hp.eb
  have h2 := hp.t1
  have h3 := hp.t2
  unfold exOf
  split <;> omega

/-- what there is of a part with something to count -/
structure Here (p : Pt) (h : Int × Int) : Prop where
  fr : Fr h h.1 h.2
  b1 : Bz 300 h.1
  b2 : Bz 300 h.2
theorem here_of {p : Pt} {M : Nat} (hp : p.Ok M) (hM : M ≤ 8) {lf : List Int} (hlf : lf.length < (there p.ts).length) : Here p (hereOf p lf) ∧ Nums p.ts (kept (there p.ts) lf) ∧ (kept (there p.ts) lf).length ≤ 8 ∧ kept (there p.ts) lf ≠ [] := by
  have hn := there_nums (ts := p.ts)
  have hnd := thereFrom_nodup p.ts 0
  have hlen := thereFrom_len p.ts 0
  have htl := hp.tl
  change (there p.ts).Nodup at hnd
  change (there p.ts).length ≤ p.ts.length at hlen
  have n1 : Nums p.ts (kept (there p.ts) lf) := fun k hk => hn k (kept_mem hk)
  have n2 : (kept (there p.ts) lf).length ≤ 8 := Nat.le_trans (List.length_filter_le _ _) (by omega)
  have n3 := kept_ne hnd hlf
  obtain ⟨f, b1, b2⟩ := mean_fr (L := (kept (there p.ts) lf).map (pick p.ts)) (fun t ht => by
    obtain ⟨k, hk', rfl⟩ := List.mem_map.mp ht
    exact hp.tk _ (pick_mem (n1 k hk').1)) (by rw [List.length_map]; exact n2) (by rw [List.length_map]; exact List.length_pos_iff.mpr n3)
  exact ⟨⟨f, b1, b2⟩, n1, n2, n3⟩
theorem Here.sum {p : Pt} {M : Nat} {h : Int × Int} (H : Here p h) (hp : p.Ok M) : Fr (sumOf p h) (h.1 * 1000 + exOf p * h.2) (h.2 * 1000) ∧ Bz 320 (sumOf p h).1 ∧ Bz 320 (sumOf p h).2 := by
  have he := ex_bd hp
  have be : Bz 10 (exOf p) := bd_of 1000 (by omega) (by omega) (by decide)
  have bt : Bz 10 (1000 : Int) := Bz.of (by decide)
  have f : Fr (sumOf p h) _ _ := Fr.mk' (Int.mul_pos H.fr.pos (by decide))
  refine ⟨f, f.bd ?_ ((H.b2.mul bt).mono (by omega))⟩
  exact (((H.b1.mul bt).mono (l := 310) (by omega)).add ((be.mul H.b2).mono (l := 310) (by omega))).mono (by omega)


theorem best_in {p : Pt} : ∀ (cs : List (List Int)) (s : Option (List Int × Int × Int)) (b : List Int × Int × Int), cs.foldl (better (valOf p)) s = some b → b.1 ∈ cs ∨ s = some b
  | [], s, b, e => .inr e
  | c :: r, s, b, e => by
    rcases best_in r (better (valOf p) s c) b e with q | q
    · exact .inl (List.mem_cons_of_mem _ q)
    · unfold better at q
      cases s with
      | none => cases q; exact .inl List.mem_cons_self
      | some b0 =>
        dsimp only at q
        split at q
        · cases q; exact .inl List.mem_cons_self
        · exact .inr q
theorem left_in {p : Pt} (h0 : there p.ts ≠ []) (hk : 0 ≤ p.k) : leftF p ∈ choicesF (there p.ts) (manyOf p).toNat := by
  have hpos : 0 < (there p.ts).length := List.length_pos_iff.mpr h0
  have hmb : 0 ≤ manyOf p ∧ manyOf p < (there p.ts).length := by unfold manyOf; split <;> omega
  have hne := ch_ne (there p.ts) (manyOf p).toNat (by omega)
  have e : leftF p = (match bestOf p (choicesF (there p.ts) (manyOf p).toNat) with | some b => b.1 | none => []) := by
    unfold leftF
    cases hth : there p.ts with
    | nil => exact (h0 hth).elim
    | cons x r => rfl
  rw [e]
  cases hb : bestOf p (choicesF (there p.ts) (manyOf p).toNat) with
  | none =>
    cases hc : choicesF (there p.ts) (manyOf p).toNat with
    | nil => exact (hne hc).elim
    | cons c r => rw [hc] at hb; obtain ⟨b, e⟩ := best_some (p := p) c r; rw [e] at hb; cases hb
  | some b =>
    rcases best_in _ _ b hb with q | q
    · exact q
    · cases q
theorem left_len {p : Pt} (h0 : there p.ts ≠ []) (hk : 0 ≤ p.k) : (leftF p).length < (there p.ts).length := by
  have hpos : 0 < (there p.ts).length := List.length_pos_iff.mpr h0
  have hmb : 0 ≤ manyOf p ∧ manyOf p < (there p.ts).length := by unfold manyOf; split <;> omega
  rw [(ch_sub _ _ _ (left_in h0 hk)).1]
  omega
/-- what a part's share is -/
noncomputable def optD : Option (Int × Int) → PyData
  | none => .none
  | some q => frD q
noncomputable def partF (p : Pt) : Option (Int × Int) := if there p.ts = [] then none else some (capOf (sumOf p (hereOf p (leftF p))))
theorem partF_nil {p : Pt} (h : there p.ts = []) : partF p = none := if_pos h
theorem partF_ne {p : Pt} (h : there p.ts ≠ []) : partF p = some (capOf (sumOf p (hereOf p (leftF p)))) := if_neg h
structure Sh (r : Option (Int × Int)) : Prop where
  fr : ∀ q, r = some q → Fr q q.1 q.2
  bd : ∀ q, r = some q → Bz 330 q.1 ∧ Bz 330 q.2
theorem sp_part (B : Tabs T) {p : Pt} {M : Nat} (hp : p.Ok M) (hM : M ≤ 8) (h : Q (optD (partF p)) .old) : callP (lev T (n + 64)).S f_part_share [p.d] Q := by
  refine callP_r (ρ₀ := [.fz p.d, .un, .un, .un]) rfl rfl fun K hK _ _ => ?_
  have B' := B
  obtain ⟨div, sh, pl, ti, le, gi, ma, md, ch, me, lo⟩ := B
  have htl := hp.tl
  have hlen := thereFrom_len p.ts 0
  change (there p.ts).length ≤ p.ts.length at hlen
  delta f_part_share_1
  repeat (first | with_reducible (first | apply Ug | apply Uh | apply Ui | apply Uj | apply Uk | apply Uf | apply Ul | apply Um | apply Un | apply Uo | apply Zb) | walk_at "ga" | walk_at "gb")
  refine sp_marked hp hM ?_
  repeat (first | with_reducible (first | apply Ug | apply Uh | apply Ui | apply Uj | apply Uk | apply Uf | apply Ul | apply Um | apply Un | apply Uo | apply Zb) | walk_at "ga" | walk_at "gb")
  delta f_part_share_2
  repeat (first | with_reducible (first | apply Ug | apply Uh | apply Ui | apply Uj | apply Uk | apply Uf | apply Ul | apply Um | apply Un | apply Uo | apply Zb) | walk_at "ga" | walk_at "gb")
  refine ⟨fun q => ?_, fun q => ?_⟩
  · repeat (first | with_reducible (first | apply Ug | apply Uh | apply Ui | apply Uj | apply Uk | apply Uf | apply Ul | apply Um | apply Un | apply Uo | apply Zb) | walk_at "ga" | walk_at "gb")
    rw [partF_nil (by simpa using q)] at h
    exact hK _ h
  · have h0 : there p.ts ≠ [] := by simpa using q
    have hll := left_len h0 hp.k1
    rw [partF_ne h0] at h
    have hlo : ∀ Q : PyData → Tag → Prop, Q (tupD (leftF p)) .old → callP (lev T (n + 62)).S f_left_out [p.d] Q := fun Q h => sp_left B' hp hM h
    generalize leftF p = lf at *
    obtain ⟨H, n1, n2, n3⟩ := here_of hp hM hll
    obtain ⟨fs, s1, s2⟩ := H.sum hp
    have he := ex_bd hp
    have be : Bz 10 (exOf p) := bd_of 1000 (by omega) (by omega) (by decide)
    have bt : Bz 10 (1000 : Int) := Bz.of (by decide)
    have fe : Fr (low (exOf p) 1000) (exOf p) 1000 := Fr.mk' (by decide)
    have fp := H.fr.plus fe
    have e1 : low ((hereOf p lf).1 * (low (exOf p) 1000).2 + (low (exOf p) 1000).1 * (hereOf p lf).2) ((hereOf p lf).2 * (low (exOf p) 1000).2) = sumOf p (hereOf p lf) := fp.eq
    have hQ : Q (frD (capOf (sumOf p (hereOf p lf)))) .old := h
    clear h
    repeat (first | with_reducible (first | apply Ug | apply Uh | apply Ui | apply Uj | apply Uk | apply Uf | apply Ul | apply Um | apply Un | apply Uo | apply Zb) | walk_at "ga" | walk_at "gb")
    delta f_part_share_3
    repeat (first | with_reducible (first | apply Ug | apply Uh | apply Ui | apply Uj | apply Uk | apply Uf | apply Ul | apply Um | apply Un | apply Uo | apply Zb) | walk_at "ga" | walk_at "gb")
    refine hlo _ ?_
    repeat (first | with_reducible (first | apply Ug | apply Uh | apply Ui | apply Uj | apply Uk | apply Uf | apply Ul | apply Um | apply Un | apply Uo | apply Zb) | walk_at "ga" | walk_at "gb")
    delta f_part_share_4
    repeat (first | with_reducible (first | apply Ug | apply Uh | apply Ui | apply Uj | apply Uk | apply Uf | apply Ul | apply Um | apply Un | apply Uo | apply Zb) | walk_at "ga" | walk_at "gb")
    refine ⟨[.fz (tupD lf)], rfl, ?_⟩
    repeat (first | with_reducible (first | apply Ug | apply Uh | apply Ui | apply Uj | apply Uk | apply Uf | apply Ul | apply Um | apply Un | apply Uo | apply Zb) | walk_at "ga" | walk_at "gb")
    refine ⟨by rw [List.length_map, size_eq]; omega, comp_kept _ ?_⟩
    repeat (first | with_reducible (first | apply Ug | apply Uh | apply Ui | apply Uj | apply Uk | apply Uf | apply Ul | apply Um | apply Un | apply Uo | apply Zb) | walk_at "ga" | walk_at "gb")
    refine sp_mean hp hM n1 n2 n3 div sh pl ti gi ma ?_
    change callQ _ _ (frD (hereOf p lf)) .old
    generalize hereOf p lf = hh at *
    repeat (first | with_reducible (first | apply Ug | apply Uh | apply Ui | apply Uj | apply Uk | apply Uf | apply Ul | apply Um | apply Un | apply Uo | apply Zb) | walk_at "ga" | walk_at "gb")
    delta f_part_share_5
    repeat (first | with_reducible (first | apply Ug | apply Uh | apply Ui | apply Uj | apply Uk | apply Uf | apply Ul | apply Um | apply Un | apply Uo | apply Zb) | walk_at "ga" | walk_at "gb")
    refine ⟨p.ex, ints_map _, ?_⟩
    repeat (first | with_reducible (first | apply Ug | apply Uh | apply Ui | apply Uj | apply Uk | apply Uf | apply Ul | apply Um | apply Un | apply Uo | apply Zb) | walk_at "ga" | walk_at "gb")
    change callP _ f_share [.int (exOf p), .int 1000] _
    refine sp_share div (by decide) (Bz.of (Nat.lt_trans (by decide : 1000 < 2 ^ 10) (Nat.pow_lt_pow_right (by decide) (by decide)))) ?_
    repeat (first | with_reducible (first | apply Ug | apply Uh | apply Ui | apply Uj | apply Uk | apply Uf | apply Ul | apply Um | apply Un | apply Uo | apply Zb) | walk_at "ga" | walk_at "gb")
    refine sp_plus div sh ⟨H.b1, H.b2⟩ (fe.bd be bt) (by omega) H.fr.pos' fe.pos' ?_
    rw [e1]
    generalize sumOf p hh = f at *
    repeat (first | with_reducible (first | apply Ug | apply Uh | apply Ui | apply Uj | apply Uk | apply Uf | apply Ul | apply Um | apply Un | apply Uo | apply Zb) | walk_at "ga" | walk_at "gb")
    delta f_part_share_6
    repeat (first | with_reducible (first | apply Ug | apply Uh | apply Ui | apply Uj | apply Uk | apply Uf | apply Ul | apply Um | apply Un | apply Uo | apply Zb) | walk_at "ga" | walk_at "gb")
    refine sp_less (p := (1, 1)) (k := 10) ⟨Bz.of (by decide), Bz.of (by decide)⟩ ⟨s1, s2⟩ (by omega) ?_
    repeat (first | with_reducible (first | apply Ug | apply Uh | apply Ui | apply Uj | apply Uk | apply Uf | apply Ul | apply Um | apply Un | apply Uo | apply Zb) | walk_at "ga" | walk_at "gb")
    unfold capOf at hQ
    have e2 : ((1 : Int) * f.2 < f.1 * 1) ↔ f.2 < f.1 := by rw [Int.one_mul, Int.mul_one]
    refine ⟨fun q => ?_, fun q => ?_⟩
    · rw [if_pos (e2.mp (of_decide_eq_true q))] at hQ
      repeat (first | with_reducible (first | apply Ug | apply Uh | apply Ui | apply Uj | apply Uk | apply Uf | apply Ul | apply Um | apply Un | apply Uo | apply Zb) | walk_at "ga" | walk_at "gb")
      exact hK _ hQ
    · rw [if_neg fun c => of_decide_eq_false q (e2.mpr c)] at hQ
      repeat (first | with_reducible (first | apply Ug | apply Uh | apply Ui | apply Uj | apply Uk | apply Uf | apply Ul | apply Um | apply Un | apply Uo | apply Zb) | walk_at "ga" | walk_at "gb")
      delta f_part_share_7
      repeat (first | with_reducible (first | apply Ug | apply Uh | apply Ui | apply Uj | apply Uk | apply Uf | apply Ul | apply Um | apply Un | apply Uo | apply Zb) | walk_at "ga" | walk_at "gb")
      exact hK _ hQ
end
end

section
set_option Elab.async false
set_option linter.all false
set_option maxRecDepth 100000
open PySem
section
variable {T : Table} {n : Nat} {Q : PyData → Tag → Prop}
noncomputable def f__law_course_by_3 : List PS := [.ret (.comp (.call (Str.ofString "_law_part_by") [(.call (Str.ofString "_law_cell_at") [(.var 3), (.bin .Add (.var 1) (.var 0))]), (.var 2)]) 1 .range (.var 3) [] [1, 2, 0])]
noncomputable def f__law_course_by_2a_1 : List PS := (.assign 3 false (.bin .Add (.const (.int 4)) (.bin .Mod (.bin .FloorDiv (.call (Str.ofString "_law_cell_at") [(.var 0), (.const (.int 0))]) (.const (.int 36))) (.const (.int 3)))) : PS) :: []
noncomputable def f__law_course_by_2 : List PS := (.ite (.cmp .Eq (.bin .Mod (.bin .FloorDiv (.call (Str.ofString "_law_cell_at") [(.var 0), (.const (.int 0))]) (.const (.int 4))) (.const (.int 9))) (.const (.int 1))) f__law_course_by_2a_1 [] : PS) :: f__law_course_by_3
noncomputable def f__law_course_by_1 : List PS := (.assign 3 false (.bin .Mod (.call (Str.ofString "_law_cell_at") [(.var 0), (.const (.int 0))]) (.const (.int 4))) : PS) :: f__law_course_by_2
noncomputable def f__law_course_by : Fn := ⟨3, 4, f__law_course_by_1⟩
theorem nsfr {p : Int × Int} {Qb : Bool → Prop} (h : Qb true) : cmpP .IsNot (frD p) .none Qb := h
theorem comp_all {E : EvE} {cs : Rho} {elt : PE} {α : Type} {g : α → PyData} {P : α → Prop} : ∀ (items : List PyData) {R : List PyData → Prop}
    (_ : ∀ d ∈ items, ∀ K : PyData → Tag → Prop, (∀ a, P a → K (g a) .old) → E (Slot.fz d :: cs) elt K), (∀ l : List α, l.length = items.length → (∀ a ∈ l, P a) → R (l.map g)) → compGo E 1 cs elt [] items R
  | [], _, _, hR => hR [] rfl (fun _ m => (nomatch m))
  | d :: r, _, h, hR => ⟨[d], rfl, h d List.mem_cons_self _ fun a ha => ⟨rfl, comp_all r (fun d' m => h d' (List.mem_cons_of_mem _ m)) fun l e hl => hR (a :: l) (congrArg (· + 1) e) fun b hb => (List.mem_cons.mp hb).elim (fun q => q ▸ ha) (hl b)⟩⟩

theorem sp_course (hT0 : T (Str.ofString "_law_cell_at") = some f__law_cell_at) (hT1 : T (Str.ofString "_law_task_by") = some f__law_task_by) (hT2 : T (Str.ofString "_law_stream") = some f__law_stream) (hT3 : T (Str.ofString "_law_part_by") = some f__law_part_by) {ns : List Int} (hl : ns.length ≤ 63) {M F : Nat} (hM : M ≤ 50)
    (h : ∀ ps : List Pt, ps.length ≤ 6 → (∀ p ∈ ps, p.Ok M) → Q (.list (ps.map Pt.d)) .fresh) : callP (lev T (n + 20)).S f__law_course_by [.list (ns.map .int), .int F, .int M] Q := by
  refine callP_r (ρ₀ := [.fz _, .fz _, .fz _, .un]) rfl rfl fun K _ hK _ => ?_
  have fin : ∀ m : Int, 0 ≤ m ∧ m ≤ 6 → blk (lev T (n + 20)).S f__law_course_by_3 [.fz (.list (ns.map .int)), .fz (.int F), .fz (.int M), .fz (.int m)] K := fun m hm => by
    delta f__law_course_by_3
    repeat (first | with_reducible (first | apply nsfr | apply Yw | apply Yy | apply Yz | apply Ym) | walk_at "ga" | refine Ji rfl rfl ?_ | walk_at "gb")
    refine ⟨[.fz (.int F), .fz (.int M), .fz (.list (ns.map .int))], rfl, ?_⟩
    repeat (first | with_reducible (first | apply nsfr | apply Yw | apply Yy | apply Yz | apply Ym) | walk_at "ga" | refine Ji rfl rfl ?_ | walk_at "gb")
    refine ⟨by omega, comp_all (P := fun p : Pt => p.Ok M) (g := Pt.d) _ ?_ ?_⟩
    · intro d hd K' hK'
      obtain ⟨i, _, rfl⟩ := List.mem_map.mp hd
      repeat (first | with_reducible (first | apply nsfr | apply Yw | apply Yy | apply Yz | apply Ym) | walk_at "ga" | refine Ji rfl rfl ?_ | walk_at "gb")
      refine sp_cell hl (by omega) fun c => ?_
      repeat (first | with_reducible (first | apply nsfr | apply Yw | apply Yy | apply Yz | apply Ym) | walk_at "ga" | refine Ji rfl rfl ?_ | walk_at "gb")
      refine sp_partby hT1 hT2 hM fun p hp => ?_
      repeat (first | with_reducible (first | apply nsfr | apply Yw | apply Yy | apply Yz | apply Ym) | walk_at "ga" | refine Ji rfl rfl ?_ | walk_at "gb")
      exact hK' p hp
    · intro l hll hb
      simp only [List.length_map, List.length_range] at hll
      repeat (first | with_reducible (first | apply nsfr | apply Yw | apply Yy | apply Yz | apply Ym) | walk_at "ga" | refine Ji rfl rfl ?_ | walk_at "gb")
      exact hK _ _ (h l (by omega) hb) rfl
  delta f__law_course_by_1
  repeat (first | with_reducible (first | apply nsfr | apply Yw | apply Yy | apply Yz | apply Ym) | walk_at "ga" | refine Ji rfl rfl ?_ | walk_at "gb")
  refine sp_cell hl (by decide) fun c => ?_
  repeat (first | with_reducible (first | apply nsfr | apply Yw | apply Yy | apply Yz | apply Ym) | walk_at "ga" | refine Ji rfl rfl ?_ | walk_at "gb")
  have hc := mod_bd c (by decide : (0 : Int) < 4)
  delta f__law_course_by_2
  repeat (first | with_reducible (first | apply nsfr | apply Yw | apply Yy | apply Yz | apply Ym) | walk_at "ga" | refine Ji rfl rfl ?_ | walk_at "gb")
  refine sp_cell hl (by decide) fun c2 => ?_
  repeat (first | with_reducible (first | apply nsfr | apply Yw | apply Yy | apply Yz | apply Ym) | walk_at "ga" | refine Ji rfl rfl ?_ | walk_at "gb")
  refine ⟨fun _ => ?_, fun _ => ?_⟩
  · delta f__law_course_by_2a_1
    repeat (first | with_reducible (first | apply nsfr | apply Yw | apply Yy | apply Yz | apply Ym) | walk_at "ga" | refine Ji rfl rfl ?_ | walk_at "gb")
    refine sp_cell hl (by decide) fun c3 => ?_
    repeat (first | with_reducible (first | apply nsfr | apply Yw | apply Yy | apply Yz | apply Ym) | walk_at "ga" | refine Ji rfl rfl ?_ | walk_at "gb")
    have h3 := mod_bd (c3 / 36) (by decide : (0 : Int) < 3)
    exact fin _ (by omega)
  · repeat (first | with_reducible (first | apply nsfr | apply Yw | apply Yy | apply Yz | apply Ym) | walk_at "ga" | refine Ji rfl rfl ?_ | walk_at "gb")
    exact fin _ (by omega)

end
end

section
set_option Elab.async false
set_option linter.all false
set_option maxRecDepth 100000
open PySem
section
variable {T : Table} {n : Nat} {Q : PyData → Tag → Prop}
noncomputable def f_grade_7 : List PS := [.ret (.var 3)]
noncomputable def f_grade_6f_1 : List PS := (.assign 3 false (.call (Str.ofString "plus") [(.var 3), (.call (Str.ofString "times") [(.var 5), (.var 4), (.var 2)])]) : PS) :: []
noncomputable def f_grade_6 : List PS := (.for [4, 5] .plain (.var 1) f_grade_6f_1 : PS) :: f_grade_7
noncomputable def f_grade_5 : List PS := (.assign 3 false (.tup [(.const (.int 0)), (.const (.int 1))]) : PS) :: f_grade_6
noncomputable def f_grade_4 : List PS := (.assign 2 false (.bi .sum [(.comp (.sub (.var 0) (.const (.int 0))) 1 .plain (.var 1) [] [])]) : PS) :: f_grade_5
noncomputable def f_grade_3 : List PS := (.ite (.cmp .Eq (.var 1) (.lst [])) [.ret (.const .none)] [] : PS) :: f_grade_4
noncomputable def f_grade_2 : List PS := (.assign 1 false (.comp (.var 0) 1 .plain (.var 1) [(.cmp .IsNot (.sub (.var 0) (.const (.int 1))) (.const .none))] []) : PS) :: f_grade_3
noncomputable def f_grade_1 : List PS := (.assign 1 false (.comp (.tup [(.sub (.var 0) (.const (.int 0))), (.call (Str.ofString "part_share") [(.var 0)])]) 1 .plain (.var 0) [] []) : PS) :: f_grade_2
noncomputable def f_grade : Fn := ⟨1, 6, f_grade_1⟩

/-! pairs of a weight and a share -/
noncomputable def qD (x : Int × Int × Int) : PyData := .tuple [.int x.1, frD x.2]
noncomputable def pairs (r : Pt → Option (Int × Int)) : List Pt → List (Int × Int × Int)
  | [] => []
  | p :: l => match r p with
    | none => pairs r l
    | some q => (p.w, q) :: pairs r l
noncomputable def qS (s : Int × Int) (x : Int × Int × Int) : Int × Int := (s.1 * x.2.2 + x.1 * x.2.1 * s.2, s.2 * x.2.2)
noncomputable def qW (l : List (Int × Int × Int)) : Int := (l.map (·.1)).sum
structure QOk (x : Int × Int × Int) : Prop where
  w : 1 ≤ x.1 ∧ x.1 ≤ 1000
  fr : Fr x.2 x.2.1 x.2.2
  b : Bz 330 x.2.1 ∧ Bz 330 x.2.2
structure QB (k : Nat) (s : Int × Int) : Prop where
  n : Bz (341 + 331 * k) s.1
  b : Bz (1 + 330 * k) s.2
  p : 0 < s.2
theorem QB.zero : QB 0 (0, 1) := ⟨Bz.of (Nat.pos_of_ne_zero (by simp)), Bz.of (by decide), by decide⟩
theorem QB.step {k : Nat} {s : Int × Int} {x : Int × Int × Int} (h : QB k s) (hx : QOk x) : QB (k + 1) (qS s x) := by
  have hw := hx.w
  have bw : Bz 10 x.1 := bd_of 1000 (by omega) (by omega) (by decide)
  have e1 : Bz (671 + 331 * k) (s.1 * x.2.2) := (h.n.mul hx.b.2).mono (by omega)
  have e2 : Bz (671 + 331 * k) (x.1 * x.2.1 * s.2) := ((bw.mul hx.b.1).mul h.b).mono (by omega)
  exact ⟨(e1.add e2).mono (by omega), (h.b.mul hx.b.2).mono (by omega), Int.mul_pos h.p hx.fr.pos⟩
theorem QB.fold : ∀ (l : List (Int × Int × Int)) {k : Nat} {s : Int × Int}, QB k s → (∀ x ∈ l, QOk x) → QB (k + l.length) (l.foldl qS s)
  | [], _, _, h, _ => h
  | x :: r, k, s, h, hx => by
    have := QB.fold r (h.step (hx x List.mem_cons_self)) fun u hu => hx u (List.mem_cons_of_mem _ hu)
    rw [List.length_cons, show k + (r.length + 1) = k + 1 + r.length by omega]
    exact this
theorem qW_cons (x : Int × Int × Int) (l : List (Int × Int × Int)) : qW (x :: l) = x.1 + qW l := by unfold qW; rw [List.map_cons, List.sum_cons]
theorem qW_bd : ∀ (l : List (Int × Int × Int)), (∀ x ∈ l, QOk x) → (l.length : Int) ≤ qW l ∧ qW l ≤ 1000 * l.length
  | [], _ => by decide
  | x :: r, hx => by
    have := qW_bd r fun u hu => hx u (List.mem_cons_of_mem _ hu)
    have hw := (hx x List.mem_cons_self).w
    rw [qW_cons, List.length_cons]
    omega
theorem pairs_ok {M : Nat} {r : Pt → Option (Int × Int)} (hr : ∀ p, p.Ok M → Sh (r p)) : ∀ (ps : List Pt), (∀ p ∈ ps, p.Ok M) → (pairs r ps).length ≤ ps.length ∧ ∀ x ∈ pairs r ps, QOk x
  | [], _ => ⟨Nat.le_refl _, fun _ m => nomatch m⟩
  | p :: l, h => by
    obtain ⟨h1, h2⟩ := pairs_ok hr l fun u hu => h u (List.mem_cons_of_mem _ hu)
    have hp := h p List.mem_cons_self
    have hs := hr p hp
    unfold pairs
    cases hrp : r p with
    | none => exact ⟨Nat.le_succ_of_le h1, h2⟩
    | some q => exact ⟨Nat.succ_le_succ h1, fun x hx => (List.mem_cons.mp hx).elim (fun e => e ▸ ⟨⟨hp.w1, hp.w2⟩, hs.fr q hrp, hs.bd q hrp⟩) (h2 x)⟩

theorem canLay_map {α : Type} {g : α → PyData} : ∀ (l : List α), (∀ a ∈ l, (g a).canLay0 = true) → PyData.canLayAll0 (l.map g) = true
  | [], _ => rfl
  | a :: r, h => by
    show ((g a).canLay0 && PyData.canLayAll0 (r.map g)) = true
    rw [h a List.mem_cons_self, canLay_map r fun b hb => h b (List.mem_cons_of_mem _ hb)]
    rfl
theorem depth_map {α : Type} {g : α → PyData} {k : Nat} : ∀ (l : List α), (∀ a ∈ l, (g a).depth ≤ k) → PyData.depthAll (l.map g) ≤ k
  | [], _ => Nat.zero_le _
  | a :: r, h => Nat.max_le.mpr ⟨h a List.mem_cons_self, depth_map r fun b hb => h b (List.mem_cons_of_mem _ hb)⟩
theorem shaped_map {α : Type} {g : α → PyData} {l : List α} (h : ∀ a ∈ l, (g a).canLay0 = true ∧ (g a).depth ≤ 60) : shapedP (.list (l.map g)) = true := by
  show (PyData.canLayAll0 (l.map g) && decide (PyData.depthAll (l.map g) + 1 ≤ 64)) = true
  have h1 := canLay_map l fun a ha => (h a ha).1
  have h2 := depth_map l fun a ha => (h a ha).2
  rw [h1, decide_eq_true (by omega)]
  rfl
theorem Tk.shape (t : Tk) : t.d.canLay0 = true ∧ t.d.depth ≤ 5 := by
  have h1 := canLay_ints t.ps
  have h2 := depth_ints t.ps
  refine ⟨?_, ?_⟩
  · show (true && (true && (true && (PyData.canLayAll0 (t.ps.map .int) && true)))) = true
    rw [h1]; rfl
  · show max 0 (max 0 (max 0 (max (PyData.depthAll (t.ps.map .int) + 1) 0))) + 1 ≤ 5
    rw [h2]; decide
theorem Pt.shape (p : Pt) : p.d.canLay0 = true ∧ p.d.depth ≤ 60 := by
  have h1 := canLay_map (g := Tk.d) p.ts fun t _ => t.shape.1
  have h2 := depth_map (g := Tk.d) p.ts fun t _ => t.shape.2
  have h3 := canLay_ints p.ex
  have h4 := depth_ints p.ex
  refine ⟨?_, ?_⟩
  · show (true && (true && (true && (PyData.canLayAll0 (p.ts.map Tk.d) && (PyData.canLayAll0 (p.ex.map .int) && true))))) = true
    rw [h1, h3]; rfl
  · show max 0 (max 0 (max 0 (max (PyData.depthAll (p.ts.map Tk.d) + 1) (max (PyData.depthAll (p.ex.map .int) + 1) 0)))) + 1 ≤ 60
    rw [h4]
    omega

theorem for_go2 {S : EvS} {i j : Nat} {b : List PS} {R : Out → Prop} {α : Type} {g g' : α → PyData} {f : α → PyData} (hf : ∀ a, f a = .tuple [g a, g' a]) (I : List α → Rho → Prop)
    (h : ∀ a r ρ, I (a :: r) ρ → ∀ K : Out → Prop, (∀ ρ', I r ρ' → K (.next ρ')) → blk S b ((ρ.set i (.fz (g a))).set j (.fz (g' a))) K) (hR : ∀ ρ, I [] ρ → R (.next ρ)) :
    ∀ (items : List α) (ρ : Rho), I items ρ → forGo S [i, j] b (items.map f) ρ R
  | [], ρ, h0 => hR ρ h0
  | a :: r, ρ, h0 => by
    rw [List.map_cons, hf a]
    exact ⟨[g a, g' a], rfl, h a r ρ h0 _ fun ρ' h1 => for_go2 hf I h hR r ρ' h1⟩

noncomputable def grOf (l : List (Int × Int × Int)) : Option (Int × Int) := match l with
  | [] => none
  | _ :: _ => some (low (l.foldl qS (0, 1)).1 ((l.foldl qS (0, 1)).2 * qW l))

end
end

section
set_option Elab.async false
set_option linter.all false
set_option maxRecDepth 100000
open PySem
section
variable {T : Table} {n : Nat} {Q : PyData → Tag → Prop}
noncomputable def f_chosen_3 : List PS := [.ret (.idx 1 (.bi .max1 [(.var 1)]))]
noncomputable def f_chosen_2 : List PS := (.ite (.cmp .Eq (.var 1) (.lst [])) [.ret (.const .none)] [] : PS) :: f_chosen_3
noncomputable def f_chosen_1 : List PS := (.assign 1 false (.call (Str.ofString "gives") [(.var 0)]) : PS) :: f_chosen_2
noncomputable def f_chosen : Fn := ⟨1, 2, f_chosen_1⟩
noncomputable def f_row_of_4 : List PS := [.ret (.tup [(.var 2), (.call (Str.ofString "mark") [(.var 0)]), (.call (Str.ofString "chosen") [(.var 0)])])]
noncomputable def f_row_of_3a_1 : List PS := (.assign 2 false (.const (.str (Str.ofString "left out"))) : PS) :: []
noncomputable def f_row_of_3 : List PS := (.ite (.var 1) f_row_of_3a_1 [] : PS) :: f_row_of_4
noncomputable def f_row_of_2 : List PS := (.assign 2 false (.const (.str (Str.ofString "kept"))) : PS) :: f_row_of_3
noncomputable def f_row_of_1 : List PS := (.ite (.cmp .Eq (.bi .len [(.sub (.var 0) (.const (.int 3)))]) (.const (.int 0))) [.ret (.tup [(.const (.str (Str.ofString "open"))), (.const .none), (.const .none)])] [] : PS) :: f_row_of_2
noncomputable def f_row_of : Fn := ⟨2, 3, f_row_of_1⟩
theorem g_idx {ρ : Rho} {i : Nat} {a : PE} {l : List PyData} (hi : ρ[i]? = some (.fz (.list l))) (h : (lev T n).E ρ a fun y _ => ∃ j ns k, y = .int j ∧ intsOf l = some ns ∧ idxOf j ns = some k ∧ l.length ≤ sizeLine ∧ Q (.int (k : Nat)) .old) : (lev T (n+1)).E ρ (.idx i a) Q := by
  show (match ρ[i]? with
      | some (.fz (.list l)) | some (.ow l) => (lev T n).E ρ a fun y _ => ∃ j ns k, y = .int j ∧ intsOf l = some ns ∧ idxOf j ns = some k ∧ l.length ≤ sizeLine ∧ Q (.int (k : Nat)) .old
      | _ => False)
  rw [hi]; exact h
/-- the best of what the tries give, and where it stands -/
noncomputable def mxF (t : Tk) : Int := match gv t.c t.ps with
  | [] => 0
  | a :: r => maxL a r
noncomputable def atF (t : Tk) : Nat := (idxOf (mxF t) (gv t.c t.ps)).getD 0
theorem gv_ne {t : Tk} (h : t.ps ≠ []) : gv t.c t.ps ≠ [] := fun e => h (List.length_eq_zero_iff.mp (by rw [← gv_len t.c, e]; rfl))
theorem mx_d {t : Tk} (h : t.ps ≠ []) : maxD (gv t.c t.ps) = .int (mxF t) := by
  unfold mxF
  cases e : gv t.c t.ps with
  | nil => exact (gv_ne h e).elim
  | cons a r => rfl
theorem mx_mem {t : Tk} (h : t.ps ≠ []) : mxF t ∈ gv t.c t.ps := by
  unfold mxF
  cases e : gv t.c t.ps with
  | nil => exact (gv_ne h e).elim
  | cons a r => exact maxL_mem r a
theorem idx_mem : ∀ {l : List Int} {x : Int}, x ∈ l → ∃ k, idxOf x l = some k
  | a :: r, x, h => by
    unfold idxOf
    split
    · exact ⟨0, rfl⟩
    · rename_i c
      rcases List.mem_cons.mp h with q | q
      · subst q; simp at c
      · obtain ⟨k, e⟩ := idx_mem q; rw [e]; exact ⟨k + 1, rfl⟩
theorem at_some {t : Tk} (h : t.ps ≠ []) : idxOf (mxF t) (gv t.c t.ps) = some (atF t) := by
  obtain ⟨k, e⟩ := idx_mem (mx_mem h)
  unfold atF
  rw [e]; rfl
noncomputable def wordF (b : Bool) : Str := if b then Str.ofString "left out" else Str.ofString "kept"
noncomputable def openD : PyData := .tuple [.str (Str.ofString "open"), .none, .none]
noncomputable def rowD (t : Tk) (b : Bool) : PyData := if t.ps = [] then openD else .tuple [.str (wordF b), .int (mxF t), .int (atF t : Nat)]
theorem sp_chosen (hT : T (Str.ofString "gives") = some f_gives) {t : Tk} (hp : t.ps.length ≤ 13) (h0 : t.ps ≠ []) (h : Q (.int (atF t : Nat)) .old) : callP (lev T (n + 12)).S f_chosen [t.d] Q := by
  refine callP_r (ρ₀ := [.fz t.d, .un]) rfl rfl fun K hK _ _ => ?_
  delta f_chosen_1
  repeat (first | with_reducible (first | apply Ub | apply Uc | apply Ud | apply Ue | apply Uf) | walk_at "ga" | refine Jj rfl rfl rfl ?_ | walk_at "gb")
  refine sp_gives hp ?_
  repeat (first | with_reducible (first | apply Ub | apply Uc | apply Ud | apply Ue | apply Uf) | walk_at "ga" | refine Jj rfl rfl rfl ?_ | walk_at "gb")
  delta f_chosen_2
  repeat (first | with_reducible (first | apply Ub | apply Uc | apply Ud | apply Ue | apply Uf) | walk_at "ga" | refine Jj rfl rfl rfl ?_ | walk_at "gb")
  refine ⟨fun q => (gv_ne h0 (by simpa using q)).elim, fun _ => ?_⟩
  repeat (first | with_reducible (first | apply Ub | apply Uc | apply Ud | apply Ue | apply Uf) | walk_at "ga" | refine Jj rfl rfl rfl ?_ | walk_at "gb")
  delta f_chosen_3
  repeat (first | with_reducible (first | apply Ub | apply Uc | apply Ud | apply Ue | apply Uf) | walk_at "ga" | refine Jj rfl rfl rfl ?_ | walk_at "gb")
  refine g_idx rfl ?_
  repeat (first | with_reducible (first | apply Ub | apply Uc | apply Ud | apply Ue | apply Uf) | walk_at "ga" | refine Jj rfl rfl rfl ?_ | walk_at "gb")
  cases e : gv t.c t.ps with
  | nil => exact (gv_ne h0 e).elim
  | cons a r =>
    have hm : mxF t = maxL a r := by unfold mxF; rw [e]
    have ha := at_some h0
    rw [hm, e] at ha
    refine ⟨a, r, ints_map (a :: r), ?_⟩
    repeat (first | with_reducible (first | apply Ub | apply Uc | apply Ud | apply Ue | apply Uf) | walk_at "ga" | refine Jj rfl rfl rfl ?_ | walk_at "gb")
    refine ⟨_, _, _, rfl, ints_map (a :: r), ha, ?_, ?_⟩
    · have := gv_len t.c t.ps
      rw [e] at this
      rw [List.length_map, size_eq, this]; omega
    · repeat (first | with_reducible (first | apply Ub | apply Uc | apply Ud | apply Ue | apply Uf) | walk_at "ga" | refine Jj rfl rfl rfl ?_ | walk_at "gb")
      exact hK _ h
theorem sp_rowof (hT : T (Str.ofString "gives") = some f_gives) (hT1 : T (Str.ofString "mark") = some f_mark) (hT2 : T (Str.ofString "chosen") = some f_chosen) {t : Tk} {b : Bool} (hp : t.ps.length ≤ 13) (h : Q (rowD t b) .old) : callP (lev T (n + 16)).S f_row_of [t.d, .bool b] Q := by
  refine callP_r (ρ₀ := [.fz t.d, .fz (.bool b), .un]) rfl rfl fun K hK _ _ => ?_
  delta f_row_of_1
  repeat (first | with_reducible (first | apply Ub | apply Uc | apply Ud | apply Ue | apply Uf) | walk_at "ga" | refine Jj rfl rfl rfl ?_ | walk_at "gb")
  refine ⟨by rw [List.length_map, size_eq]; omega, ?_⟩
  repeat (first | with_reducible (first | apply Ub | apply Uc | apply Ud | apply Ue | apply Uf) | walk_at "ga" | refine Jj rfl rfl rfl ?_ | walk_at "gb")
  unfold rowD at h
  refine ⟨fun q => ?_, fun q => ?_⟩
  · have h0 : t.ps = [] := by simpa using q
    rw [if_pos h0] at h
    repeat (first | with_reducible (first | apply Ub | apply Uc | apply Ud | apply Ue | apply Uf) | walk_at "ga" | refine Jj rfl rfl rfl ?_ | walk_at "gb")
    exact hK _ h
  have h0 : t.ps ≠ [] := by simpa using q
  rw [if_neg h0] at h
  repeat (first | with_reducible (first | apply Ub | apply Uc | apply Ud | apply Ue | apply Uf) | walk_at "ga" | refine Jj rfl rfl rfl ?_ | walk_at "gb")
  delta f_row_of_2
  repeat (first | with_reducible (first | apply Ub | apply Uc | apply Ud | apply Ue | apply Uf) | walk_at "ga" | refine Jj rfl rfl rfl ?_ | walk_at "gb")
  delta f_row_of_3
  have fin : Q (.tuple [.str (wordF b), .int (mxF t), .int (atF t : Nat)]) .old → blk (lev T (n + 16)).S f_row_of_4 [.fz t.d, .fz (.bool b), .fz (.str (wordF b))] K := fun h => by
    delta f_row_of_4
    repeat (first | with_reducible (first | apply Ub | apply Uc | apply Ud | apply Ue | apply Uf) | walk_at "ga" | refine Jj rfl rfl rfl ?_ | walk_at "gb")
    refine sp_mark hT hp ?_
    rw [mx_d h0]
    repeat (first | with_reducible (first | apply Ub | apply Uc | apply Ud | apply Ue | apply Uf) | walk_at "ga" | refine Jj rfl rfl rfl ?_ | walk_at "gb")
    refine sp_chosen hT hp h0 ?_
    repeat (first | with_reducible (first | apply Ub | apply Uc | apply Ud | apply Ue | apply Uf) | walk_at "ga" | refine Jj rfl rfl rfl ?_ | walk_at "gb")
    exact hK _ h
  repeat (first | with_reducible (first | apply Ub | apply Uc | apply Ud | apply Ue | apply Uf) | walk_at "ga" | refine Jj rfl rfl rfl ?_ | walk_at "gb")
  refine ⟨fun q => ?_, fun q => ?_⟩
  · subst q
    delta f_row_of_3a_1
    repeat (first | with_reducible (first | apply Ub | apply Uc | apply Ud | apply Ue | apply Uf) | walk_at "ga" | refine Jj rfl rfl rfl ?_ | walk_at "gb")
    exact fin h
  · subst q
    repeat (first | with_reducible (first | apply Ub | apply Uc | apply Ud | apply Ue | apply Uf) | walk_at "ga" | refine Jj rfl rfl rfl ?_ | walk_at "gb")
    exact fin h
end
end

section
set_option Elab.async false
set_option linter.all false
set_option maxRecDepth 100000
open PySem
section
variable {T : Table} {n : Nat} {Q : PyData → Tag → Prop}
noncomputable def f_tale_3 : List PS := [.ret (.var 1)]
noncomputable def f_tale_2f_3 : List PS := (.app 1 (.tup [(.call (Str.ofString "part_share") [(.var 2)]), (.var 3), (.var 4)]) : PS) :: []
noncomputable def f_tale_2f_2 : List PS := (.assign 4 false (.comp (.call (Str.ofString "row_of") [(.var 1), (.cmp .In (.var 0) (.var 2))]) 2 .enum (.sub (.var 2) (.const (.int 3))) [] [3]) : PS) :: f_tale_2f_3
noncomputable def f_tale_2f_1 : List PS := (.assign 3 false (.call (Str.ofString "left_out") [(.var 2)]) : PS) :: f_tale_2f_2
noncomputable def f_tale_2 : List PS := (.for [2] .plain (.var 0) f_tale_2f_1 : PS) :: f_tale_3
noncomputable def f_tale_1 : List PS := (.assign 1 true (.lst []) : PS) :: f_tale_2
noncomputable def f_tale : Fn := ⟨1, 5, f_tale_1⟩
theorem g_inT {i : Int} {lf : List Int} {Qb : Bool → Prop} (h : Qb (lf.contains i)) : cmpP .In (.int i) (tupD lf) Qb := ⟨lf, ints_map lf, h⟩
/-- the rows of a part's tasks -/
noncomputable def rowsG (lf : List Int) : Nat → List Tk → List PyData
  | _, [] => []
  | i, t :: r => rowD t (lf.contains (i : Int)) :: rowsG lf (i + 1) r
noncomputable def rowsF (p : Pt) : List PyData := rowsG (leftF p) 0 p.ts
noncomputable def taleD (p : Pt) : PyData := .tuple [optD (partF p), tupD (leftF p), .list (rowsF p)]
theorem rows_len (lf : List Int) : ∀ (l : List Tk) (i : Nat), (rowsG lf i l).length = l.length
  | [], _ => rfl
  | t :: r, i => congrArg (· + 1) (rows_len lf r (i + 1))
noncomputable def Ic (ps : List Pt) (c : PyData) : Prop := c = .list (ps.map Pt.d) ∨ c = .tuple (ps.map Pt.d)
theorem comp_rows (hT : T (Str.ofString "gives") = some f_gives) (hT1 : T (Str.ofString "mark") = some f_mark) (hT2 : T (Str.ofString "chosen") = some f_chosen) (hT3 : T (Str.ofString "row_of") = some f_row_of) {lf : List Int} : ∀ (ts : List Tk) (i : Nat) {R : List PyData → Prop}, (∀ t ∈ ts, t.ps.length ≤ 13) → R (rowsG lf i ts) →
    compGo (lev T (n + 20)).E 2 [.fz (tupD lf)] (.call (Str.ofString "row_of") [(.var 1), (.cmp .In (.var 0) (.var 2))]) [] (((ts.map Tk.d).zipIdx i).map fun (d, i) => .tuple [.int (i : Nat), d]) R
  | [], _, _, _, hR => hR
  | t :: r, i, R, ht, hR => by
    refine ⟨[.int (i : Nat), t.d], rfl, ?_⟩
    show (lev T (n + 20)).E [.fz (.int (i : Nat)), .fz t.d, .fz (tupD lf)] _ _
    repeat (first | with_reducible (first | apply Ub | apply Uc | apply Ud | apply Ue | apply Ug | apply Uh | apply Ui | apply Uj | apply Uk | apply g_inT) | walk_at "ga" | refine Jj rfl rfl rfl ?_ | walk_at "gb")
    refine sp_rowof hT hT1 hT2 (ht t List.mem_cons_self) ?_
    repeat (first | with_reducible (first | apply Ub | apply Uc | apply Ud | apply Ue | apply Ug | apply Uh | apply Ui | apply Uj | apply Uk | apply g_inT) | walk_at "ga" | refine Jj rfl rfl rfl ?_ | walk_at "gb")
    exact ⟨rfl, comp_rows hT hT1 hT2 hT3 r (i + 1) (fun u hu => ht u (List.mem_cons_of_mem _ hu)) hR⟩
theorem sp_tale (B : Tabs T) (t1 : T (Str.ofString "part_share") = some f_part_share) (t2 : T (Str.ofString "row_of") = some f_row_of) (t3 : T (Str.ofString "chosen") = some f_chosen) {ps : List Pt} {M : Nat} (hM : M ≤ 8) (hl : ps.length ≤ 6) (hp : ∀ p ∈ ps, p.Ok M) {c : PyData} (hc : Ic ps c)
    (h : Q (.list (ps.map taleD)) .fresh) : callP (lev T (n + 68)).S f_tale [c] Q := by
  refine callP_r (ρ₀ := [.fz c, .un, .un, .un, .un]) rfl rfl fun K _ hK _ => ?_
  have B' := B
  obtain ⟨div, sh, pl, ti, le, gi, ma, md, ch, me, lo⟩ := B'
  delta f_tale_1
  repeat (first | with_reducible (first | apply Ub | apply Uc | apply Ud | apply Ue | apply Ug | apply Uh | apply Ui | apply Uj | apply Uk | apply g_inT) | walk_at "ga" | refine Jj rfl rfl rfl ?_ | walk_at "gb")
  delta f_tale_2
  have main : forGo (lev T (n + 67)).S [2] f_tale_2f_1 (ps.map Pt.d) [.fz c, .ow [], .un, .un, .un] fun o => match o with
    | .next ρ' => blk (lev T (n + 68)).S f_tale_3 ρ' K
    | .ret d t => K (.ret d t) := by
    refine for_go (fun l ρ => ∃ (pre post : List Pt) (x y z : Slot), l = post.map Pt.d ∧ ps = pre ++ post ∧ ρ = [.fz c, .ow (pre.map taleD), x, y, z]) ?_ ?_ _ _ ⟨[], ps, _, _, _, rfl, rfl, rfl⟩
    · rintro d r ρ ⟨pre, post, x, y, z, e1, e2, rfl⟩ K' hn _
      match post, e1 with
      | p :: post, e1 =>
        cases e1
        have hpp := hp p (by rw [e2]; simp)
        have htl := hpp.tl
        have hsz : (pre.map taleD).length < sizeLine := by rw [e2, List.length_append] at hl; rw [List.length_map, size_eq]; omega
        delta f_tale_2f_1
        repeat (first | with_reducible (first | apply Ub | apply Uc | apply Ud | apply Ue | apply Ug | apply Uh | apply Ui | apply Uj | apply Uk | apply g_inT) | walk_at "ga" | refine Jj rfl rfl rfl ?_ | walk_at "gb")
        refine sp_left B hpp hM ?_
        repeat (first | with_reducible (first | apply Ub | apply Uc | apply Ud | apply Ue | apply Ug | apply Uh | apply Ui | apply Uj | apply Uk | apply g_inT) | walk_at "ga" | refine Jj rfl rfl rfl ?_ | walk_at "gb")
        delta f_tale_2f_2
        repeat (first | with_reducible (first | apply Ub | apply Uc | apply Ud | apply Ue | apply Ug | apply Uh | apply Ui | apply Uj | apply Uk | apply g_inT) | walk_at "ga" | refine Jj rfl rfl rfl ?_ | walk_at "gb")
        refine ⟨[.fz (tupD (leftF p))], rfl, ?_⟩
        repeat (first | with_reducible (first | apply Ub | apply Uc | apply Ud | apply Ue | apply Ug | apply Uh | apply Ui | apply Uj | apply Uk | apply g_inT) | walk_at "ga" | refine Jj rfl rfl rfl ?_ | walk_at "gb")
        refine ⟨by rw [List.length_map, size_eq]; omega, comp_rows gi ma t3 t2 p.ts 0 (fun t ht => by have := (hpp.tk t ht).pl; omega) ?_⟩
        repeat (first | with_reducible (first | apply Ub | apply Uc | apply Ud | apply Ue | apply Ug | apply Uh | apply Ui | apply Uj | apply Uk | apply g_inT) | walk_at "ga" | refine Jj rfl rfl rfl ?_ | walk_at "gb")
        delta f_tale_2f_3
        repeat (first | with_reducible (first | apply Ub | apply Uc | apply Ud | apply Ue | apply Ug | apply Uh | apply Ui | apply Uj | apply Uk | apply g_inT) | walk_at "ga" | refine Jj rfl rfl rfl ?_ | walk_at "gb")
        refine sp_part B hpp hM ?_
        repeat (first | with_reducible (first | apply Ub | apply Uc | apply Ud | apply Ue | apply Ug | apply Uh | apply Ui | apply Uj | apply Uk | apply g_inT) | walk_at "ga" | refine Jj rfl rfl rfl ?_ | walk_at "gb")
        refine ⟨hsz, ?_⟩
        repeat (first | with_reducible (first | apply Ub | apply Uc | apply Ud | apply Ue | apply Ug | apply Uh | apply Ui | apply Uj | apply Uk | apply g_inT) | walk_at "ga" | refine Jj rfl rfl rfl ?_ | walk_at "gb")
        have e3 : (pre ++ [p]).map taleD = pre.map taleD ++ [taleD p] := by rw [List.map_append]; rfl
        have := hn [.fz c, .ow ((pre ++ [p]).map taleD), .fz p.d, .fz (tupD (leftF p)), .fz (.list (rowsF p))] ⟨pre ++ [p], post, _, _, _, rfl, by rw [e2]; simp, rfl⟩
        rw [e3] at this
        exact this
    · rintro ρ ⟨pre, post, x, y, z, e1, e2, rfl⟩
      have : post = [] := by cases post with | nil => rfl | cons a b => simp at e1
      subst this
      rw [List.append_nil] at e2
      subst e2
      delta f_tale_3
      repeat (first | with_reducible (first | apply Ub | apply Uc | apply Ud | apply Ue | apply Ug | apply Uh | apply Ui | apply Uj | apply Uk | apply g_inT) | walk_at "ga" | refine Jj rfl rfl rfl ?_ | walk_at "gb")
      exact hK _ _ h rfl
  rcases hc with rfl | rfl
  · repeat (first | with_reducible (first | apply Ub | apply Uc | apply Ud | apply Ue | apply Ug | apply Uh | apply Ui | apply Uj | apply Uk | apply g_inT) | walk_at "ga" | refine Jj rfl rfl rfl ?_ | walk_at "gb")
    exact ⟨by rw [List.length_map, size_eq]; omega, main⟩
  · repeat (first | with_reducible (first | apply Ub | apply Uc | apply Ud | apply Ue | apply Ug | apply Uh | apply Ui | apply Uj | apply Uk | apply g_inT) | walk_at "ga" | refine Jj rfl rfl rfl ?_ | walk_at "gb")
    exact ⟨by rw [List.length_map, size_eq]; omega, main⟩
end
end

section
set_option Elab.async false
set_option linter.all false
set_option maxRecDepth 100000
open PySem
section
variable {T : Table} {n : Nat} {Q : PyData → Tag → Prop}
noncomputable def f__law_row_5 : List PS := [.ret (.const .none)]
noncomputable def f__law_row_4f_1 : List PS := (.ite (.or (.cmp .Eq (.sub (.sub (.var 0) (.const (.int 3))) (.var 4)) (.var 2)) (.and (.cmp .Gt (.var 4) (.const (.int 0))) (.and (.cmp .Eq (.var 2) (.sub (.var 0) (.const (.int 2)))) (.cmp .Gt (.sub (.sub (.var 0) (.const (.int 3))) (.var 4)) (.var 2))))) [.ret (.tup [(.var 3), (.var 2), (.var 4)])] [] : PS) :: []
noncomputable def f__law_row_4 : List PS := (.for [4] .range (.bi .len [(.sub (.var 0) (.const (.int 3)))]) f__law_row_4f_1 : PS) :: f__law_row_5
noncomputable def f__law_row_3 : List PS := (.assign 3 false (.sub (.lst [(.const (.str (Str.ofString "kept"))), (.const (.str (Str.ofString "left out")))]) (.bi .int [(.var 1)])) : PS) :: f__law_row_4
noncomputable def f__law_row_2 : List PS := (.ite (.cmp .Is (.var 2) (.const .none)) [.ret (.tup [(.const (.str (Str.ofString "open"))), (.const .none), (.const .none)])] [] : PS) :: f__law_row_3
noncomputable def f__law_row_1 : List PS := (.assign 2 false (.call (Str.ofString "_law_mark") [(.var 0)]) : PS) :: f__law_row_2
noncomputable def f__law_row : Fn := ⟨2, 5, f__law_row_1⟩
theorem idx_facts : ∀ {l : List Int} {x : Int} {k : Nat}, idxOf x l = some k → k < l.length ∧ l.getD k 0 = x ∧ ∀ j, j < k → l.getD j 0 ≠ x
  | a :: r, x, k, h => by
    unfold idxOf at h
    split at h
    · rename_i c
      cases h
      exact ⟨by simp, by simpa using c, fun j hj => absurd hj (Nat.not_lt_zero j)⟩
    · rename_i c
      obtain ⟨k', e, rfl⟩ := Option.map_eq_some_iff.mp h
      obtain ⟨h1, h2, h3⟩ := idx_facts e
      refine ⟨by simp; omega, by simpa using h2, fun j hj => ?_⟩
      cases j with
      | zero => simpa using c
      | succ j => simpa using h3 j (by omega)
theorem gv_get (c : Int) : ∀ {ps : List Int} {k : Nat}, k < ps.length → (gv c ps).getD k 0 = if k = 0 then ps.getD k 0 else cp c (ps.getD k 0)
  | p :: r, 0, _ => rfl
  | p :: r, k + 1, h => by
    have hk : k < r.length := by simpa using h
    simp [gv, List.getD, hk]
theorem row_cond {t : Tk} (h0 : t.ps ≠ []) {k : Nat} (hk : k ≤ atF t) : (t.ps.getD k 0 = mxF t ∨ (0 < k ∧ mxF t = t.c ∧ mxF t < t.ps.getD k 0)) ↔ k = atF t := by
  obtain ⟨h1, h2, h3⟩ := idx_facts (at_some h0)
  rw [gv_len] at h1
  have key : (t.ps.getD k 0 = mxF t ∨ (0 < k ∧ mxF t = t.c ∧ mxF t < t.ps.getD k 0)) ↔ (gv t.c t.ps).getD k 0 = mxF t := by
    rw [gv_get t.c (by omega)]
    rw [gv_get t.c h1] at h2
    by_cases k0 : k = 0
    · subst k0; simp
    · have a0 : ¬ atF t = 0 := by omega
      rw [if_neg a0] at h2
      rw [if_neg k0]
      have hc : mxF t ≤ t.c := by rw [← h2]; unfold cp; split <;> omega
      unfold cp
      split <;> omega
  rw [key]
  constructor
  · intro e
    rcases Nat.lt_or_ge k (atF t) with q | q
    · exact (h3 k q e).elim
    · omega
  · rintro rfl; exact h2
theorem sp_lrow (hT : T (Str.ofString "_law_mark") = some f__law_mark) {t : Tk} {b : Bool} (hp : t.ps.length ≤ 13) (h : Q (rowD t b) .old) : callP (lev T (n + 16)).S f__law_row [t.d, .bool b] Q := by
  refine callP_r (ρ₀ := [.fz t.d, .fz (.bool b), .un, .un, .un]) rfl rfl fun K hK _ _ => ?_
  delta f__law_row_1
  repeat (first | with_reducible (first | apply Ub | apply Uc | apply Ud | apply Ue | apply Zc | apply Zd) | walk_at "ga" | refine Jj rfl rfl rfl ?_ | refine Ji rfl rfl ?_ | walk_at "gb")
  refine sp_lmark hp ?_
  unfold rowD at h
  by_cases h0 : t.ps = []
  · rw [if_pos h0] at h
    rw [show maxD (gv t.c t.ps) = .none by rw [h0]; rfl]
    repeat (first | with_reducible (first | apply Ub | apply Uc | apply Ud | apply Ue | apply Zc | apply Zd) | walk_at "ga" | refine Jj rfl rfl rfl ?_ | refine Ji rfl rfl ?_ | walk_at "gb")
    delta f__law_row_2
    repeat (first | with_reducible (first | apply Ub | apply Uc | apply Ud | apply Ue | apply Zc | apply Zd) | walk_at "ga" | refine Jj rfl rfl rfl ?_ | refine Ji rfl rfl ?_ | walk_at "gb")
    exact hK _ h
  rw [if_neg h0] at h
  rw [mx_d h0]
  repeat (first | with_reducible (first | apply Ub | apply Uc | apply Ud | apply Ue | apply Zc | apply Zd) | walk_at "ga" | refine Jj rfl rfl rfl ?_ | refine Ji rfl rfl ?_ | walk_at "gb")
  delta f__law_row_2
  repeat (first | with_reducible (first | apply Ub | apply Uc | apply Ud | apply Ue | apply Zc | apply Zd) | walk_at "ga" | refine Jj rfl rfl rfl ?_ | refine Ji rfl rfl ?_ | walk_at "gb")
  delta f__law_row_3
  have fin : blk (lev T (n + 16)).S f__law_row_4 [.fz t.d, .fz (.bool b), .fz (.int (mxF t)), .fz (.str (wordF b)), .un] K := by
    delta f__law_row_4
    repeat (first | with_reducible (first | apply Ub | apply Uc | apply Ud | apply Ue | apply Zc | apply Zd) | walk_at "ga" | refine Jj rfl rfl rfl ?_ | refine Ji rfl rfl ?_ | walk_at "gb")
    refine ⟨by rw [List.length_map, size_eq]; omega, ?_⟩
    repeat (first | with_reducible (first | apply Ub | apply Uc | apply Ud | apply Ue | apply Zc | apply Zd) | walk_at "ga" | refine Jj rfl rfl rfl ?_ | refine Ji rfl rfl ?_ | walk_at "gb")
    rw [List.length_map]
    have e0 : ((t.ps.length : Int)).toNat = t.ps.length := Int.toNat_natCast _
    rw [e0]
    obtain ⟨h1, _, _⟩ := idx_facts (at_some h0)
    rw [gv_len] at h1
    refine ⟨by omega, for_range (fun k ρ => k ≤ atF t ∧ ∃ z : Slot, ρ = [.fz t.d, .fz (.bool b), .fz (.int (mxF t)), .fz (.str (wordF b)), z]) ?_ ?_ ⟨Nat.zero_le _, _, rfl⟩⟩
    · rintro k ρ hk ⟨hka, z, rfl⟩ K' hn hret
      have hki : 0 ≤ (k : Int) ∧ (k : Int) < t.ps.length ∧ t.ps.length ≤ 1000000 := by omega
      have e3 : ((k : Int)).toNat = k := Int.toNat_natCast _
      have rc := row_cond h0 hka
      have yes : k = atF t → K' (.ret (.tuple [.str (wordF b), .int (mxF t), .int (k : Nat)]) .old) := fun e => by rw [e]; exact hret _ _ (hK _ h)
      have no : ¬ k = atF t → K' (.next [.fz t.d, .fz (.bool b), .fz (.int (mxF t)), .fz (.str (wordF b)), .fz (.int (k : Nat))]) := fun e => hn _ ⟨by omega, _, rfl⟩
      delta f__law_row_4f_1
      repeat (first | with_reducible (first | apply Ub | apply Uc | apply Ud | apply Ue | apply Zc | apply Zd) | walk_at "ga" | refine Jj rfl rfl rfl ?_ | refine Ji rfl rfl ?_ | walk_at "gb")
      refine Ua hki ?_
      rw [e3]
      generalize hpe : t.ps.getD k 0 = p at rc ⊢
      repeat (first | with_reducible (first | apply Ub | apply Uc | apply Ud | apply Ue | apply Zc | apply Zd) | walk_at "ga" | refine Jj rfl rfl rfl ?_ | refine Ji rfl rfl ?_ | walk_at "gb")
      refine ⟨fun q => ?_, fun q => ?_⟩
      · have q : p = mxF t := by simpa using q
        repeat (first | with_reducible (first | apply Ub | apply Uc | apply Ud | apply Ue | apply Zc | apply Zd) | walk_at "ga" | refine Jj rfl rfl rfl ?_ | refine Ji rfl rfl ?_ | walk_at "gb")
        exact yes (rc.mp (.inl q))
      have q : ¬ p = mxF t := by simpa using q
      repeat (first | with_reducible (first | apply Ub | apply Uc | apply Ud | apply Ue | apply Zc | apply Zd) | walk_at "ga" | refine Jj rfl rfl rfl ?_ | refine Ji rfl rfl ?_ | walk_at "gb")
      refine ⟨fun q2 => ?_, fun q2 => ?_⟩
      · have q2 : 0 < k := by have := of_decide_eq_true q2; omega
        repeat (first | with_reducible (first | apply Ub | apply Uc | apply Ud | apply Ue | apply Zc | apply Zd) | walk_at "ga" | refine Jj rfl rfl rfl ?_ | refine Ji rfl rfl ?_ | walk_at "gb")
        refine ⟨fun q3 => ?_, fun q3 => ?_⟩
        · have q3 : mxF t = t.c := by simpa using q3
          repeat (first | with_reducible (first | apply Ub | apply Uc | apply Ud | apply Ue | apply Zc | apply Zd) | walk_at "ga" | refine Jj rfl rfl rfl ?_ | refine Ji rfl rfl ?_ | walk_at "gb")
          refine Ua hki ?_
          rw [e3, hpe]
          repeat (first | with_reducible (first | apply Ub | apply Uc | apply Ud | apply Ue | apply Zc | apply Zd) | walk_at "ga" | refine Jj rfl rfl rfl ?_ | refine Ji rfl rfl ?_ | walk_at "gb")
          refine ⟨fun q4 => ?_, fun q4 => ?_⟩
          · have q4 := of_decide_eq_true q4
            repeat (first | with_reducible (first | apply Ub | apply Uc | apply Ud | apply Ue | apply Zc | apply Zd) | walk_at "ga" | refine Jj rfl rfl rfl ?_ | refine Ji rfl rfl ?_ | walk_at "gb")
            exact yes (rc.mp (.inr ⟨q2, q3, q4⟩))
          · have q4 := of_decide_eq_false q4
            repeat (first | with_reducible (first | apply Ub | apply Uc | apply Ud | apply Ue | apply Zc | apply Zd) | walk_at "ga" | refine Jj rfl rfl rfl ?_ | refine Ji rfl rfl ?_ | walk_at "gb")
            exact no fun e => by have := rc.mpr e; omega
        · have q3 : ¬ mxF t = t.c := by simpa using q3
          repeat (first | with_reducible (first | apply Ub | apply Uc | apply Ud | apply Ue | apply Zc | apply Zd) | walk_at "ga" | refine Jj rfl rfl rfl ?_ | refine Ji rfl rfl ?_ | walk_at "gb")
          exact no fun e => by have := rc.mpr e; omega
      · have q2 : ¬ 0 < k := by have := of_decide_eq_false q2; omega
        repeat (first | with_reducible (first | apply Ub | apply Uc | apply Ud | apply Ue | apply Zc | apply Zd) | walk_at "ga" | refine Jj rfl rfl rfl ?_ | refine Ji rfl rfl ?_ | walk_at "gb")
        exact no fun e => by have := rc.mpr e; omega
    · rintro ρ ⟨hka, z, rfl⟩
      omega
  repeat (first | with_reducible (first | apply Ub | apply Uc | apply Ud | apply Ue | apply Zc | apply Zd) | walk_at "ga" | refine Jj rfl rfl rfl ?_ | refine Ji rfl rfl ?_ | walk_at "gb")
  cases b with
  | true =>
    show subP (.list [_, _]) (.int 1) _
    rw [sub_l1]
    repeat (first | with_reducible (first | apply Ub | apply Uc | apply Ud | apply Ue | apply Zc | apply Zd) | walk_at "ga" | refine Jj rfl rfl rfl ?_ | refine Ji rfl rfl ?_ | walk_at "gb")
    exact fin
  | false =>
    show subP (.list [_, _]) (.int 0) _
    rw [sub_l0]
    repeat (first | with_reducible (first | apply Ub | apply Uc | apply Ud | apply Ue | apply Zc | apply Zd) | walk_at "ga" | refine Jj rfl rfl rfl ?_ | refine Ji rfl rfl ?_ | walk_at "gb")
    exact fin
end
end

section
set_option Elab.async false
set_option linter.all false
set_option maxRecDepth 100000
open PySem
section
variable {T : Table} {n : Nat} {Q : PyData → Tag → Prop}
noncomputable def f__law_kinds_3 : List PS := [.ret (.const (.bool true))]
noncomputable def f__law_kinds_2f_1 : List PS := (.ite (.and (.cmp .IsNot (.var 1) (.const .none)) (.not (.call (Str.ofString "_law_whole") [(.var 1)]))) [.ret (.const (.bool false))] [] : PS) :: []
noncomputable def f__law_kinds_2 : List PS := (.for [1] .plain (.slice (.var 0) (some (.const (.int 1))) none) f__law_kinds_2f_1 : PS) :: f__law_kinds_3
noncomputable def f__law_kinds_1 : List PS := (.ite (.or (.not (.bi (.isi "tuple") [(.var 0)])) (.or (.cmp .NotEq (.bi .len [(.var 0)]) (.const (.int 3))) (.not (.bi (.isi "str") [(.sub (.var 0) (.const (.int 0)))])))) [.ret (.const (.bool false))] [] : PS) :: f__law_kinds_2
noncomputable def f__law_kinds : Fn := ⟨1, 2, f__law_kinds_1⟩
noncomputable def f__law_told_3 : List PS := [.ret (.const (.bool true))]
noncomputable def f__law_told_2f_6 : List PS := (.ite (.or (.cmp .NotEq (.sub (.var 0) (.var 2)) (.tup [(.call (Str.ofString "part_share") [(.sub (.var 1) (.var 2))]), (.var 3), (.var 5)])) (.not (.bi (.isi "tuple") [(.sub (.sub (.var 0) (.var 2)) (.const (.int 1)))]))) [.ret (.const (.bool false))] [] : PS) :: []
noncomputable def f__law_told_2f_5 : List PS := (.assign 5 false (.comp (.call (Str.ofString "_law_row") [(.sub (.var 2) (.var 0)), (.cmp .In (.var 0) (.var 1))]) 1 .range (.bi .len [(.var 4)]) [] [3, 4]) : PS) :: f__law_told_2f_6
noncomputable def f__law_told_2f_4 : List PS := (.ite (.cmp .NotEq (.comp (.var 0) 1 .plain (.sub (.sub (.var 0) (.var 2)) (.const (.int 2))) [(.not (.call (Str.ofString "_law_kinds") [(.var 0)]))] []) (.lst [])) [.ret (.const (.bool false))] [] : PS) :: f__law_told_2f_5
noncomputable def f__law_told_2f_3 : List PS := (.assign 4 false (.sub (.sub (.var 1) (.var 2)) (.const (.int 3))) : PS) :: f__law_told_2f_4
noncomputable def f__law_told_2f_2 : List PS := (.assign 3 false (.call (Str.ofString "left_out") [(.sub (.var 1) (.var 2))]) : PS) :: f__law_told_2f_3
noncomputable def f__law_told_2f_1 : List PS := (.ite (.or (.not (.bi (.isi "tuple") [(.sub (.var 0) (.var 2))])) (.or (.cmp .NotEq (.bi .len [(.sub (.var 0) (.var 2))]) (.const (.int 3))) (.not (.bi (.isi "list") [(.sub (.sub (.var 0) (.var 2)) (.const (.int 2)))])))) [.ret (.const (.bool false))] [] : PS) :: f__law_told_2f_2
noncomputable def f__law_told_2 : List PS := (.for [2] .range (.bi .len [(.var 1)]) f__law_told_2f_1 : PS) :: f__law_told_3
noncomputable def f__law_told_1 : List PS := (.ite (.or (.not (.bi (.isi "list") [(.var 0)])) (.cmp .NotEq (.bi .len [(.var 0)]) (.bi .len [(.var 1)]))) [.ret (.const (.bool false))] [] : PS) :: f__law_told_2
noncomputable def f__law_told : Fn := ⟨2, 6, f__law_told_1⟩
theorem g_ss {w : Str} {t : Tag} (h : Q (.bool true) .old) : biP (.isi "str") [(.str w, t)] Q := h
theorem g_te0 {p : Pt} (h : Q (optD (partF p)) .old) : subP (taleD p) (.int 0) Q := Ju h
theorem g_te1 {p : Pt} (h : Q (tupD (leftF p)) .old) : subP (taleD p) (.int 1) Q := Jv h
theorem g_te2 {p : Pt} (h : Q (.list (rowsF p)) .old) : subP (taleD p) (.int 2) Q := Jw h
theorem g_tet {p : Pt} {t : Tag} (h : Q (.bool true) .old) : biP (.isi "tuple") [(taleD p, t)] Q := h
/-- nothing, or a whole number -/
noncomputable def Kd (a : PyData) : Prop := a = .none ∨ ∃ i, a = .int i
theorem sp_kinds (hT : T (Str.ofString "_law_whole") = some f__law_whole) {w : Str} {a b : PyData} (ha : Kd a) (hb : Kd b) (h : Q (.bool true) .old) : callP (lev T (n + 12)).S f__law_kinds [.tuple [.str w, a, b]] Q := by
  refine callP_r (ρ₀ := [.fz (.tuple [.str w, a, b]), .un]) rfl rfl fun K hK _ _ => ?_
  have h3 : ([.str w, a, b] : List PyData).length ≤ sizeLine := by rw [size_eq]; simp
  delta f__law_kinds_1
  repeat (first | with_reducible (first | apply Ub | apply Uc | apply Ud | apply Ue | apply Ug | apply Uh | apply Ui | apply Uj | apply Uk | apply g_inT | apply g_ss | apply g_te0 | apply g_te1 | apply g_te2 | apply g_tet | apply Ze | apply Zf) | walk_at "ga" | refine Jj rfl rfl rfl ?_ | refine Je ?_ | walk_at "gb")
  refine ⟨h3, ?_⟩
  repeat (first | with_reducible (first | apply Ub | apply Uc | apply Ud | apply Ue | apply Ug | apply Uh | apply Ui | apply Uj | apply Uk | apply g_inT | apply g_ss | apply g_te0 | apply g_te1 | apply g_te2 | apply g_tet | apply Ze | apply Zf) | walk_at "ga" | refine Jj rfl rfl rfl ?_ | refine Je ?_ | walk_at "gb")
  refine ⟨⟨rfl, rfl⟩, ?_⟩
  show brP (.bool false) _ _
  repeat (first | with_reducible (first | apply Ub | apply Uc | apply Ud | apply Ue | apply Ug | apply Uh | apply Ui | apply Uj | apply Uk | apply g_inT | apply g_ss | apply g_te0 | apply g_te1 | apply g_te2 | apply g_tet | apply Ze | apply Zf) | walk_at "ga" | refine Jj rfl rfl rfl ?_ | refine Je ?_ | walk_at "gb")
  delta f__law_kinds_2
  repeat (first | with_reducible (first | apply Ub | apply Uc | apply Ud | apply Ue | apply Ug | apply Uh | apply Ui | apply Uj | apply Uk | apply g_inT | apply g_ss | apply g_te0 | apply g_te1 | apply g_te2 | apply g_tet | apply Ze | apply Zf) | walk_at "ga" | refine Jj rfl rfl rfl ?_ | refine Je ?_ | walk_at "gb")
  refine ⟨⟨by decide, by decide⟩, h3, ?_⟩
  repeat (first | with_reducible (first | apply Ub | apply Uc | apply Ud | apply Ue | apply Ug | apply Uh | apply Ui | apply Uj | apply Uk | apply g_inT | apply g_ss | apply g_te0 | apply g_te1 | apply g_te2 | apply g_tet | apply Ze | apply Zf) | walk_at "ga" | refine Jj rfl rfl rfl ?_ | refine Je ?_ | walk_at "gb")
  refine ⟨by show ([a, b] : List PyData).length ≤ sizeLine; rw [size_eq]; simp, for_go (fun l ρ => (∀ x ∈ l, Kd x) ∧ ∃ z : Slot, ρ = [.fz (.tuple [.str w, a, b]), z]) ?_ ?_ [a, b] _ ⟨fun x hx => ?_, _, rfl⟩⟩
  · rintro d r ρ ⟨hk, z, rfl⟩ K' hn _
    have hk' : ∀ x ∈ r, Kd x := fun x hx => hk x (List.mem_cons_of_mem _ hx)
    delta f__law_kinds_2f_1
    rcases hk d List.mem_cons_self with rfl | ⟨i, rfl⟩
    · repeat (first | with_reducible (first | apply Ub | apply Uc | apply Ud | apply Ue | apply Ug | apply Uh | apply Ui | apply Uj | apply Uk | apply g_inT | apply g_ss | apply g_te0 | apply g_te1 | apply g_te2 | apply g_tet | apply Ze | apply Zf) | walk_at "ga" | refine Jj rfl rfl rfl ?_ | refine Je ?_ | walk_at "gb")
      exact hn _ ⟨hk', _, rfl⟩
    · repeat (first | with_reducible (first | apply Ub | apply Uc | apply Ud | apply Ue | apply Ug | apply Uh | apply Ui | apply Uj | apply Uk | apply g_inT | apply g_ss | apply g_te0 | apply g_te1 | apply g_te2 | apply g_tet | apply Ze | apply Zf) | walk_at "ga" | refine Jj rfl rfl rfl ?_ | refine Je ?_ | walk_at "gb")
      refine sp_whole ?_
      repeat (first | with_reducible (first | apply Ub | apply Uc | apply Ud | apply Ue | apply Ug | apply Uh | apply Ui | apply Uj | apply Uk | apply g_inT | apply g_ss | apply g_te0 | apply g_te1 | apply g_te2 | apply g_tet | apply Ze | apply Zf) | walk_at "ga" | refine Jj rfl rfl rfl ?_ | refine Je ?_ | walk_at "gb")
      exact hn _ ⟨hk', _, rfl⟩
  · rintro ρ ⟨_, z, rfl⟩
    delta f__law_kinds_3
    repeat (first | with_reducible (first | apply Ub | apply Uc | apply Ud | apply Ue | apply Ug | apply Uh | apply Ui | apply Uj | apply Uk | apply g_inT | apply g_ss | apply g_te0 | apply g_te1 | apply g_te2 | apply g_tet | apply Ze | apply Zf) | walk_at "ga" | refine Jj rfl rfl rfl ?_ | refine Je ?_ | walk_at "gb")
    exact hK _ h
  · rcases List.mem_cons.mp hx with rfl | hx
    · exact ha
    · rcases List.mem_cons.mp hx with rfl | hx
      · exact hb
      · cases hx
theorem row_kd (t : Tk) (b : Bool) : ∃ w x y, rowD t b = .tuple [.str w, x, y] ∧ Kd x ∧ Kd y := by
  unfold rowD
  split
  · exact ⟨_, _, _, rfl, .inl rfl, .inl rfl⟩
  · exact ⟨_, _, _, rfl, .inr ⟨_, rfl⟩, .inr ⟨_, rfl⟩⟩
end
end

section
set_option Elab.async false
set_option linter.all false
set_option maxRecDepth 100000
open PySem
section
variable {T : Table} {n : Nat} {Q : PyData → Tag → Prop}
theorem g_tdt {l : List Int} {t : Tag} (h : Q (.bool true) .old) : biP (.isi "tuple") [(tupD l, t)] Q := h
theorem row_shape (t : Tk) (b : Bool) : (rowD t b).canLay0 = true ∧ (rowD t b).depth ≤ 5 := by
  unfold rowD
  split
  · exact ⟨by decide +kernel, by decide +kernel⟩
  · cases b
    · exact ⟨(by decide +kernel : (PyData.strOk (Str.ofString "kept") && (true && (true && true))) = true), (by decide : max 0 (max 0 (max 0 0)) + 1 ≤ 5)⟩
    · exact ⟨(by decide +kernel : (PyData.strOk (Str.ofString "left out") && (true && (true && true))) = true), (by decide : max 0 (max 0 (max 0 0)) + 1 ≤ 5)⟩
theorem rows_shape (lf : List Int) : ∀ (l : List Tk) (i : Nat), PyData.canLayAll0 (rowsG lf i l) = true ∧ PyData.depthAll (rowsG lf i l) ≤ 5
  | [], _ => ⟨rfl, Nat.zero_le _⟩
  | t :: r, i => by
    obtain ⟨h1, h2⟩ := rows_shape lf r (i + 1)
    obtain ⟨h3, h4⟩ := row_shape t (lf.contains (i : Int))
    refine ⟨?_, Nat.max_le.mpr ⟨h4, h2⟩⟩
    show ((rowD t (lf.contains (i : Int))).canLay0 && PyData.canLayAll0 (rowsG lf (i + 1) r)) = true
    rw [h1, h3]; rfl
theorem opt_shape (o : Option (Int × Int)) : (optD o).canLay0 = true ∧ (optD o).depth ≤ 5 := by
  cases o with
  | none => exact ⟨rfl, Nat.zero_le _⟩
  | some q => exact ⟨rfl, (by decide : max 0 (max 0 0) + 1 ≤ 5)⟩
theorem tale_shape (p : Pt) : (taleD p).canLay0 = true ∧ (taleD p).depth ≤ 60 := by
  obtain ⟨o1, o2⟩ := opt_shape (partF p)
  obtain ⟨r1, r2⟩ := rows_shape (leftF p) p.ts 0
  have l1 := canLay_ints (leftF p)
  have l2 := depth_ints (leftF p)
  refine ⟨?_, ?_⟩
  · show ((optD (partF p)).canLay0 && (PyData.canLayAll0 ((leftF p).map .int) && (PyData.canLayAll0 (rowsG (leftF p) 0 p.ts) && true))) = true
    rw [o1, l1, r1]; rfl
  · show max (optD (partF p)).depth (max (PyData.depthAll ((leftF p).map .int) + 1) (max (PyData.depthAll (rowsG (leftF p) 0 p.ts) + 1) 0)) + 1 ≤ 60
    rw [l2]
    omega
theorem g_nett {p : Pt} {Qb : Bool → Prop} (h : Qb false) : cmpP .NotEq (taleD p) (.tuple [optD (partF p), tupD (leftF p), .list (rowsF p)]) Qb := by
  obtain ⟨h1, h2⟩ := tale_shape p
  have hs : shapedP (taleD p) = true := by unfold shapedP; rw [h1, decide_eq_true (by omega)]; rfl
  refine ⟨⟨hs, hs⟩, ?_⟩
  have e : PyData.eqv (taleD p) (taleD p) = true := SeqAt.eqv_refl _ h1
  show Qb (!PyData.eqv (taleD p) (taleD p))
  rw [e]; exact h
theorem sub_map {α : Type} {g : α → PyData} {l : List α} {k : Nat} {a : α} (e : l[k]? = some a) (hl : l.length ≤ 1000) (h : Q (g a) .old) : subP (.list (l.map g)) (.int (k : Nat)) Q := by
  have hk : k < l.length := (List.getElem?_eq_some_iff.mp e).1
  rw [sub_at (n := k) (d := g a) (by rw [List.length_map]; have := seq_nat (k := (k : Int)) (n := l.length) (by omega) (by omega); rwa [Int.toNat_natCast] at this) (by rw [List.getElem?_map, e]; rfl) (by omega)]
  exact h
theorem sub_mapt {α : Type} {g : α → PyData} {l : List α} {k : Nat} {a : α} (e : l[k]? = some a) (hl : l.length ≤ 1000) (h : Q (g a) .old) : subP (.tuple (l.map g)) (.int (k : Nat)) Q := by
  have hk : k < l.length := (List.getElem?_eq_some_iff.mp e).1
  rw [subt_at (n := k) (d := g a) (by rw [List.length_map]; have := seq_nat (k := (k : Int)) (n := l.length) (by omega) (by omega); rwa [Int.toNat_natCast] at this) (by rw [List.getElem?_map, e]; rfl) (by omega)]
  exact h
theorem comp_none (hT : T (Str.ofString "_law_kinds") = some f__law_kinds) (hT2 : T (Str.ofString "_law_whole") = some f__law_whole) : ∀ (l : List PyData) {R : List PyData → Prop}, (∀ d ∈ l, ∃ w x y, d = .tuple [.str w, x, y] ∧ Kd x ∧ Kd y) → R [] →
    compGo (lev T (n + 20)).E 1 [] (.var 0) [(.not (.call (Str.ofString "_law_kinds") [(.var 0)]))] l R
  | [], _, _, hR => hR
  | d :: r, R, h, hR => by
    obtain ⟨w, x, y, rfl, hx, hy⟩ := h d List.mem_cons_self
    refine ⟨[.tuple [.str w, x, y]], rfl, ?_⟩
    show (lev T (n + 20)).E [.fz (.tuple [.str w, x, y])] _ _
    repeat (first | with_reducible (first | apply Ug | apply Uh | apply Ui | apply Uj | apply Uk | apply g_inT | apply g_te0 | apply g_te1 | apply g_te2 | apply g_tet | apply g_tdt | apply g_nett | apply Ze | apply Zf) | walk_at "ga" | refine Jj rfl rfl rfl ?_ | refine Je ?_ | walk_at "gb")
    refine sp_kinds hT2 hx hy ?_
    repeat (first | with_reducible (first | apply Ug | apply Uh | apply Ui | apply Uj | apply Uk | apply g_inT | apply g_te0 | apply g_te1 | apply g_te2 | apply g_tet | apply g_tdt | apply g_nett | apply Ze | apply Zf) | walk_at "ga" | refine Jj rfl rfl rfl ?_ | refine Je ?_ | walk_at "gb")
    exact comp_none hT hT2 r (fun d hd => h d (List.mem_cons_of_mem _ hd)) hR
theorem comp_lrows (hT : T (Str.ofString "_law_mark") = some f__law_mark) (hT2 : T (Str.ofString "_law_row") = some f__law_row) {ts : List Tk} {lf : List Int} (hl : ts.length ≤ 1000) : ∀ (r pre : List Tk) {R : List PyData → Prop}, ts = pre ++ r → (∀ t ∈ ts, t.ps.length ≤ 13) → R (rowsG lf pre.length r) →
    compGo (lev T (n + 20)).E 1 [.fz (tupD lf), .fz (.tuple (ts.map Tk.d))] (.call (Str.ofString "_law_row") [(.sub (.var 2) (.var 0)), (.cmp .In (.var 0) (.var 1))]) [] ((List.range' pre.length r.length).map fun (i : Nat) => .int i) R
  | [], _, _, _, _, hR => hR
  | t :: r, pre, R, e, ht, hR => by
    have hk : ts[pre.length]? = some t := by rw [e]; simp
    refine ⟨[.int (pre.length : Nat)], rfl, ?_⟩
    show (lev T (n + 20)).E [.fz (.int (pre.length : Nat)), .fz (tupD lf), .fz (.tuple (ts.map Tk.d))] _ _
    repeat (first | with_reducible (first | apply Ug | apply Uh | apply Ui | apply Uj | apply Uk | apply g_inT | apply g_te0 | apply g_te1 | apply g_te2 | apply g_tet | apply g_tdt | apply g_nett | apply Ze | apply Zf) | walk_at "ga" | refine Jj rfl rfl rfl ?_ | refine Je ?_ | walk_at "gb")
    refine sub_mapt hk hl ?_
    repeat (first | with_reducible (first | apply Ug | apply Uh | apply Ui | apply Uj | apply Uk | apply g_inT | apply g_te0 | apply g_te1 | apply g_te2 | apply g_tet | apply g_tdt | apply g_nett | apply Ze | apply Zf) | walk_at "ga" | refine Jj rfl rfl rfl ?_ | refine Je ?_ | walk_at "gb")
    refine sp_lrow hT (ht t (by rw [e]; simp)) ?_
    repeat (first | with_reducible (first | apply Ug | apply Uh | apply Ui | apply Uj | apply Uk | apply g_inT | apply g_te0 | apply g_te1 | apply g_te2 | apply g_tet | apply g_tdt | apply g_nett | apply Ze | apply Zf) | walk_at "ga" | refine Jj rfl rfl rfl ?_ | refine Je ?_ | walk_at "gb")
    have e2 : ts = (pre ++ [t]) ++ r := by rw [e]; simp
    have := comp_lrows hT hT2 (lf := lf) hl r (pre ++ [t]) (R := fun l => R (rowD t (lf.contains (pre.length : Int)) :: l)) e2 ht (by rw [List.length_append]; exact hR)
    rw [List.length_append] at this
    exact ⟨rfl, this⟩
end
end

section
set_option Elab.async false
set_option linter.all false
set_option maxRecDepth 100000
open PySem
section
variable {T : Table} {n : Nat} {Q : PyData → Tag → Prop}
theorem g_tel {p : Pt} {t : Tag} (h : Q (.int 3) .old) : biP .len [(taleD p, t)] Q := ⟨(by decide : 3 ≤ sizeLine), h⟩
theorem g_ne3 {Qb : Bool → Prop} (h : Qb false) : cmpP .NotEq (.int 3) (.int 3) Qb := ⟨⟨rfl, rfl⟩, h⟩
theorem g_nenl {Qb : Bool → Prop} (h : Qb false) : cmpP .NotEq (.list []) (.list []) Qb := ⟨⟨rfl, rfl⟩, h⟩
theorem rowsG_kd (lf : List Int) : ∀ (l : List Tk) (i : Nat), ∀ d ∈ rowsG lf i l, ∃ w x y, d = .tuple [.str w, x, y] ∧ Kd x ∧ Kd y
  | [], _, _, h => nomatch h
  | t :: r, i, d, h => by
    rcases List.mem_cons.mp h with rfl | h
    · exact row_kd t _
    · exact rowsG_kd lf r (i + 1) d h
theorem sp_told (B : Tabs T) (t1 : T (Str.ofString "part_share") = some f_part_share) (t2 : T (Str.ofString "_law_mark") = some f__law_mark) (t3 : T (Str.ofString "_law_row") = some f__law_row) (t4 : T (Str.ofString "_law_kinds") = some f__law_kinds) (t5 : T (Str.ofString "_law_whole") = some f__law_whole)
    {ps : List Pt} {M : Nat} (hM : M ≤ 8) (hl : ps.length ≤ 6) (hp : ∀ p ∈ ps, p.Ok M) (h : Q (.bool true) .old) : callP (lev T (n + 70)).S f__law_told [.list (ps.map taleD), .list (ps.map Pt.d)] Q := by
  refine callP_r (ρ₀ := [.fz (.list (ps.map taleD)), .fz (.list (ps.map Pt.d)), .un, .un, .un, .un]) rfl rfl fun K hK _ _ => ?_
  have lo := B.lo
  have z1 : (ps.map taleD).length ≤ sizeLine := by rw [List.length_map, size_eq]; omega
  have z2 : (ps.map Pt.d).length ≤ sizeLine := by rw [List.length_map, size_eq]; omega
  delta f__law_told_1
  repeat (first | with_reducible (first | apply Ug | apply Uh | apply Ui | apply Uj | apply Uk | apply g_inT | apply g_te0 | apply g_te1 | apply g_te2 | apply g_tet | apply g_tdt | apply g_nett | apply g_tel | apply g_ne3 | apply g_nenl | apply Ze | apply Zf) | walk_at "ga" | refine Jj rfl rfl rfl ?_ | refine Je ?_ | walk_at "gb")
  refine ⟨z1, ?_⟩
  repeat (first | with_reducible (first | apply Ug | apply Uh | apply Ui | apply Uj | apply Uk | apply g_inT | apply g_te0 | apply g_te1 | apply g_te2 | apply g_tet | apply g_tdt | apply g_nett | apply g_tel | apply g_ne3 | apply g_nenl | apply Ze | apply Zf) | walk_at "ga" | refine Jj rfl rfl rfl ?_ | refine Je ?_ | walk_at "gb")
  refine ⟨z2, ?_⟩
  rw [List.length_map, List.length_map]
  repeat (first | with_reducible (first | apply Ug | apply Uh | apply Ui | apply Uj | apply Uk | apply g_inT | apply g_te0 | apply g_te1 | apply g_te2 | apply g_tet | apply g_tdt | apply g_nett | apply g_tel | apply g_ne3 | apply g_nenl | apply Ze | apply Zf) | walk_at "ga" | refine Jj rfl rfl rfl ?_ | refine Je ?_ | walk_at "gb")
  refine ⟨⟨rfl, rfl⟩, ?_⟩
  rw [eqv_int, BEq.rfl]
  show brP (.bool false) _ _
  repeat (first | with_reducible (first | apply Ug | apply Uh | apply Ui | apply Uj | apply Uk | apply g_inT | apply g_te0 | apply g_te1 | apply g_te2 | apply g_tet | apply g_tdt | apply g_nett | apply g_tel | apply g_ne3 | apply g_nenl | apply Ze | apply Zf) | walk_at "ga" | refine Jj rfl rfl rfl ?_ | refine Je ?_ | walk_at "gb")
  delta f__law_told_2
  repeat (first | with_reducible (first | apply Ug | apply Uh | apply Ui | apply Uj | apply Uk | apply g_inT | apply g_te0 | apply g_te1 | apply g_te2 | apply g_tet | apply g_tdt | apply g_nett | apply g_tel | apply g_ne3 | apply g_nenl | apply Ze | apply Zf) | walk_at "ga" | refine Jj rfl rfl rfl ?_ | refine Je ?_ | walk_at "gb")
  refine ⟨z2, ?_⟩
  rw [List.length_map]
  repeat (first | with_reducible (first | apply Ug | apply Uh | apply Ui | apply Uj | apply Uk | apply g_inT | apply g_te0 | apply g_te1 | apply g_te2 | apply g_tet | apply g_tdt | apply g_nett | apply g_tel | apply g_ne3 | apply g_nenl | apply Ze | apply Zf) | walk_at "ga" | refine Jj rfl rfl rfl ?_ | refine Je ?_ | walk_at "gb")
  have e0 : ((ps.length : Int)).toNat = ps.length := Int.toNat_natCast _
  rw [e0]
  refine ⟨by omega, for_range (fun k ρ => ∃ x y z u : Slot, ρ = [.fz (.list (ps.map taleD)), .fz (.list (ps.map Pt.d)), x, y, z, u]) ?_ ?_ ⟨_, _, _, _, rfl⟩⟩
  · rintro k ρ hk ⟨x, y, z, u, rfl⟩ K' hn _
    obtain ⟨p, e⟩ : ∃ p, ps[k]? = some p := ⟨_, List.getElem?_eq_getElem hk⟩
    have hpp := hp p (List.mem_of_getElem? e)
    have htl := hpp.tl
    have hpl : ∀ t ∈ p.ts, t.ps.length ≤ 13 := fun t ht => by have := (hpp.tk t ht).pl; omega
    have hl1 : ps.length ≤ 1000 := by omega
    have zr : (rowsF p).length ≤ sizeLine := by unfold rowsF; rw [rows_len, size_eq]; omega
    have zt : (p.ts.map Tk.d).length ≤ sizeLine := by rw [List.length_map, size_eq]; omega
    delta f__law_told_2f_1
    repeat (first | with_reducible (first | apply Ug | apply Uh | apply Ui | apply Uj | apply Uk | apply g_inT | apply g_te0 | apply g_te1 | apply g_te2 | apply g_tet | apply g_tdt | apply g_nett | apply g_tel | apply g_ne3 | apply g_nenl | apply Ze | apply Zf) | walk_at "ga" | refine Jj rfl rfl rfl ?_ | refine Je ?_ | walk_at "gb")
    refine sub_map e hl1 ?_
    repeat (first | with_reducible (first | apply Ug | apply Uh | apply Ui | apply Uj | apply Uk | apply g_inT | apply g_te0 | apply g_te1 | apply g_te2 | apply g_tet | apply g_tdt | apply g_nett | apply g_tel | apply g_ne3 | apply g_nenl | apply Ze | apply Zf) | walk_at "ga" | refine Jj rfl rfl rfl ?_ | refine Je ?_ | walk_at "gb")
    refine sub_map e hl1 ?_
    repeat (first | with_reducible (first | apply Ug | apply Uh | apply Ui | apply Uj | apply Uk | apply g_inT | apply g_te0 | apply g_te1 | apply g_te2 | apply g_tet | apply g_tdt | apply g_nett | apply g_tel | apply g_ne3 | apply g_nenl | apply Ze | apply Zf) | walk_at "ga" | refine Jj rfl rfl rfl ?_ | refine Je ?_ | walk_at "gb")
    refine sub_map e hl1 ?_
    repeat (first | with_reducible (first | apply Ug | apply Uh | apply Ui | apply Uj | apply Uk | apply g_inT | apply g_te0 | apply g_te1 | apply g_te2 | apply g_tet | apply g_tdt | apply g_nett | apply g_tel | apply g_ne3 | apply g_nenl | apply Ze | apply Zf) | walk_at "ga" | refine Jj rfl rfl rfl ?_ | refine Je ?_ | walk_at "gb")
    delta f__law_told_2f_2
    repeat (first | with_reducible (first | apply Ug | apply Uh | apply Ui | apply Uj | apply Uk | apply g_inT | apply g_te0 | apply g_te1 | apply g_te2 | apply g_tet | apply g_tdt | apply g_nett | apply g_tel | apply g_ne3 | apply g_nenl | apply Ze | apply Zf) | walk_at "ga" | refine Jj rfl rfl rfl ?_ | refine Je ?_ | walk_at "gb")
    refine sub_map e hl1 ?_
    repeat (first | with_reducible (first | apply Ug | apply Uh | apply Ui | apply Uj | apply Uk | apply g_inT | apply g_te0 | apply g_te1 | apply g_te2 | apply g_tet | apply g_tdt | apply g_nett | apply g_tel | apply g_ne3 | apply g_nenl | apply Ze | apply Zf) | walk_at "ga" | refine Jj rfl rfl rfl ?_ | refine Je ?_ | walk_at "gb")
    refine sp_left B hpp hM ?_
    repeat (first | with_reducible (first | apply Ug | apply Uh | apply Ui | apply Uj | apply Uk | apply g_inT | apply g_te0 | apply g_te1 | apply g_te2 | apply g_tet | apply g_tdt | apply g_nett | apply g_tel | apply g_ne3 | apply g_nenl | apply Ze | apply Zf) | walk_at "ga" | refine Jj rfl rfl rfl ?_ | refine Je ?_ | walk_at "gb")
    delta f__law_told_2f_3
    repeat (first | with_reducible (first | apply Ug | apply Uh | apply Ui | apply Uj | apply Uk | apply g_inT | apply g_te0 | apply g_te1 | apply g_te2 | apply g_tet | apply g_tdt | apply g_nett | apply g_tel | apply g_ne3 | apply g_nenl | apply Ze | apply Zf) | walk_at "ga" | refine Jj rfl rfl rfl ?_ | refine Je ?_ | walk_at "gb")
    refine sub_map e hl1 ?_
    repeat (first | with_reducible (first | apply Ug | apply Uh | apply Ui | apply Uj | apply Uk | apply g_inT | apply g_te0 | apply g_te1 | apply g_te2 | apply g_tet | apply g_tdt | apply g_nett | apply g_tel | apply g_ne3 | apply g_nenl | apply Ze | apply Zf) | walk_at "ga" | refine Jj rfl rfl rfl ?_ | refine Je ?_ | walk_at "gb")
    delta f__law_told_2f_4
    repeat (first | with_reducible (first | apply Ug | apply Uh | apply Ui | apply Uj | apply Uk | apply g_inT | apply g_te0 | apply g_te1 | apply g_te2 | apply g_tet | apply g_tdt | apply g_nett | apply g_tel | apply g_ne3 | apply g_nenl | apply Ze | apply Zf) | walk_at "ga" | refine Jj rfl rfl rfl ?_ | refine Je ?_ | walk_at "gb")
    refine ⟨[], rfl, ?_⟩
    repeat (first | with_reducible (first | apply Ug | apply Uh | apply Ui | apply Uj | apply Uk | apply g_inT | apply g_te0 | apply g_te1 | apply g_te2 | apply g_tet | apply g_tdt | apply g_nett | apply g_tel | apply g_ne3 | apply g_nenl | apply Ze | apply Zf) | walk_at "ga" | refine Jj rfl rfl rfl ?_ | refine Je ?_ | walk_at "gb")
    refine sub_map e hl1 ?_
    repeat (first | with_reducible (first | apply Ug | apply Uh | apply Ui | apply Uj | apply Uk | apply g_inT | apply g_te0 | apply g_te1 | apply g_te2 | apply g_tet | apply g_tdt | apply g_nett | apply g_tel | apply g_ne3 | apply g_nenl | apply Ze | apply Zf) | walk_at "ga" | refine Jj rfl rfl rfl ?_ | refine Je ?_ | walk_at "gb")
    refine ⟨zr, comp_none t4 t5 (rowsF p) (rowsG_kd _ _ _) ?_⟩
    repeat (first | with_reducible (first | apply Ug | apply Uh | apply Ui | apply Uj | apply Uk | apply g_inT | apply g_te0 | apply g_te1 | apply g_te2 | apply g_tet | apply g_tdt | apply g_nett | apply g_tel | apply g_ne3 | apply g_nenl | apply Ze | apply Zf) | walk_at "ga" | refine Jj rfl rfl rfl ?_ | refine Je ?_ | walk_at "gb")
    delta f__law_told_2f_5
    repeat (first | with_reducible (first | apply Ug | apply Uh | apply Ui | apply Uj | apply Uk | apply g_inT | apply g_te0 | apply g_te1 | apply g_te2 | apply g_tet | apply g_tdt | apply g_nett | apply g_tel | apply g_ne3 | apply g_nenl | apply Ze | apply Zf) | walk_at "ga" | refine Jj rfl rfl rfl ?_ | refine Je ?_ | walk_at "gb")
    refine ⟨[.fz (tupD (leftF p)), .fz (.tuple (p.ts.map Tk.d))], rfl, ?_⟩
    repeat (first | with_reducible (first | apply Ug | apply Uh | apply Ui | apply Uj | apply Uk | apply g_inT | apply g_te0 | apply g_te1 | apply g_te2 | apply g_tet | apply g_tdt | apply g_nett | apply g_tel | apply g_ne3 | apply g_nenl | apply Ze | apply Zf) | walk_at "ga" | refine Jj rfl rfl rfl ?_ | refine Je ?_ | walk_at "gb")
    refine ⟨zt, ?_⟩
    rw [List.length_map]
    repeat (first | with_reducible (first | apply Ug | apply Uh | apply Ui | apply Uj | apply Uk | apply g_inT | apply g_te0 | apply g_te1 | apply g_te2 | apply g_tet | apply g_tdt | apply g_nett | apply g_tel | apply g_ne3 | apply g_nenl | apply Ze | apply Zf) | walk_at "ga" | refine Jj rfl rfl rfl ?_ | refine Je ?_ | walk_at "gb")
    have e1 : ((p.ts.length : Int)).toNat = p.ts.length := Int.toNat_natCast _
    refine ⟨by omega, ?_⟩
    rw [e1, List.range_eq_range']
    refine comp_lrows t2 t3 (by omega) p.ts [] rfl hpl ?_
    repeat (first | with_reducible (first | apply Ug | apply Uh | apply Ui | apply Uj | apply Uk | apply g_inT | apply g_te0 | apply g_te1 | apply g_te2 | apply g_tet | apply g_tdt | apply g_nett | apply g_tel | apply g_ne3 | apply g_nenl | apply Ze | apply Zf) | walk_at "ga" | refine Jj rfl rfl rfl ?_ | refine Je ?_ | walk_at "gb")
    delta f__law_told_2f_6
    repeat (first | with_reducible (first | apply Ug | apply Uh | apply Ui | apply Uj | apply Uk | apply g_inT | apply g_te0 | apply g_te1 | apply g_te2 | apply g_tet | apply g_tdt | apply g_nett | apply g_tel | apply g_ne3 | apply g_nenl | apply Ze | apply Zf) | walk_at "ga" | refine Jj rfl rfl rfl ?_ | refine Je ?_ | walk_at "gb")
    refine sub_map e hl1 ?_
    repeat (first | with_reducible (first | apply Ug | apply Uh | apply Ui | apply Uj | apply Uk | apply g_inT | apply g_te0 | apply g_te1 | apply g_te2 | apply g_tet | apply g_tdt | apply g_nett | apply g_tel | apply g_ne3 | apply g_nenl | apply Ze | apply Zf) | walk_at "ga" | refine Jj rfl rfl rfl ?_ | refine Je ?_ | walk_at "gb")
    refine sub_map e hl1 ?_
    repeat (first | with_reducible (first | apply Ug | apply Uh | apply Ui | apply Uj | apply Uk | apply g_inT | apply g_te0 | apply g_te1 | apply g_te2 | apply g_tet | apply g_tdt | apply g_nett | apply g_tel | apply g_ne3 | apply g_nenl | apply Ze | apply Zf) | walk_at "ga" | refine Jj rfl rfl rfl ?_ | refine Je ?_ | walk_at "gb")
    refine sp_part B hpp hM ?_
    repeat (first | with_reducible (first | apply Ug | apply Uh | apply Ui | apply Uj | apply Uk | apply g_inT | apply g_te0 | apply g_te1 | apply g_te2 | apply g_tet | apply g_tdt | apply g_nett | apply g_tel | apply g_ne3 | apply g_nenl | apply Ze | apply Zf) | walk_at "ga" | refine Jj rfl rfl rfl ?_ | refine Je ?_ | walk_at "gb")
    refine g_nett ?_
    repeat (first | with_reducible (first | apply Ug | apply Uh | apply Ui | apply Uj | apply Uk | apply g_inT | apply g_te0 | apply g_te1 | apply g_te2 | apply g_tet | apply g_tdt | apply g_nett | apply g_tel | apply g_ne3 | apply g_nenl | apply Ze | apply Zf) | walk_at "ga" | refine Jj rfl rfl rfl ?_ | refine Je ?_ | walk_at "gb")
    refine sub_map e hl1 ?_
    repeat (first | with_reducible (first | apply Ug | apply Uh | apply Ui | apply Uj | apply Uk | apply g_inT | apply g_te0 | apply g_te1 | apply g_te2 | apply g_tet | apply g_tdt | apply g_nett | apply g_tel | apply g_ne3 | apply g_nenl | apply Ze | apply Zf) | walk_at "ga" | refine Jj rfl rfl rfl ?_ | refine Je ?_ | walk_at "gb")
    exact hn _ ⟨_, _, _, _, rfl⟩
  · rintro ρ ⟨x, y, z, u, rfl⟩
    delta f__law_told_3
    repeat (first | with_reducible (first | apply Ug | apply Uh | apply Ui | apply Uj | apply Uk | apply g_inT | apply g_te0 | apply g_te1 | apply g_te2 | apply g_tet | apply g_tdt | apply g_nett | apply g_tel | apply g_ne3 | apply g_nenl | apply Ze | apply Zf) | walk_at "ga" | refine Jj rfl rfl rfl ?_ | refine Je ?_ | walk_at "gb")
    exact hK _ h
end
end

section
set_option Elab.async false
set_option linter.all false
set_option maxRecDepth 100000
open PySem
section
variable {T : Table} {n : Nat} {Q : PyData → Tag → Prop}
noncomputable def f_law_p1b : List PS := (.assign 2 true (.bi .list [(.var 1)]) : PS) :: []
noncomputable def f_law_p1 : List PS := (.assign 1 true (.call (Str.ofString "_law_course_by") [(.var 0), (.const (.int 2)), (.const (.int 4))]) : PS) :: f_law_p1b
noncomputable def f_law_p2b : List PS := (.ite (.or (.not (.call (Str.ofString "_law_told") [(.var 3), (.var 1)])) (.cmp .NotEq (.var 2) (.var 1))) [.ret (.const (.bool false))] [] : PS) :: []
noncomputable def f_law_p2 : List PS := (.assign 3 true (.call (Str.ofString "tale") [(.var 2)]) : PS) :: f_law_p2b
noncomputable def f_law_p3 : List PS := [.ret (.call (Str.ofString "_law_told") [(.call (Str.ofString "tale") [(.bi .tuple [(.var 1)])]), (.var 1)])]
noncomputable def f_law_e1 : PE := .tup [(.const (.str (Str.ofString "open"))), (.const .none), (.const .none)]
noncomputable def f_law_e2 : PE := .const .none
theorem noLs_ints : ∀ (l : List Int), noLs (l.map .int) = true
  | [] => rfl
  | _ :: r => noLs_ints r
theorem noL_tk (t : Tk) : noL t.d = true := by
  show (true && (true && (true && (noLs (t.ps.map .int) && true)))) = true
  rw [noLs_ints]; rfl
theorem noLs_tks : ∀ (l : List Tk), noLs (l.map Tk.d) = true
  | [] => rfl
  | t :: r => by show (noL t.d && noLs (r.map Tk.d)) = true; rw [noL_tk, noLs_tks r]; rfl
theorem noL_pt (p : Pt) : noL p.d = true := by
  show (true && (true && (true && (noLs (p.ts.map Tk.d) && (noLs (p.ex.map .int) && true))))) = true
  rw [noLs_tks, noLs_ints]; rfl
theorem noLs_pts : ∀ (l : List Pt), noLs (l.map Pt.d) = true
  | [] => rfl
  | t :: r => by show (noL t.d && noLs (r.map Pt.d)) = true; rw [noL_pt, noLs_pts r]; rfl
theorem g_nec {ps : List Pt} {Qb : Bool → Prop} (h : Qb false) : cmpP .NotEq (.list (ps.map Pt.d)) (.list (ps.map Pt.d)) Qb := by
  have hs := shaped_map (l := ps) fun p _ => p.shape
  have e : PyData.eqv (.list (ps.map Pt.d)) (.list (ps.map Pt.d)) = true := SeqAt.eqv_refl _ (by show PyData.canLayAll0 (ps.map Pt.d) = true; exact canLay_map ps fun p _ => p.shape.1)
  refine ⟨⟨hs, hs⟩, ?_⟩
  rw [e]; exact h
theorem law_ok {ns : List Int} (hl : ns.length ≤ 63) (t1 : T (Str.ofString "divisor_of") = some f_divisor_of) (t2 : T (Str.ofString "share") = some f_share) (t3 : T (Str.ofString "plus") = some f_plus) (t4 : T (Str.ofString "times") = some f_times) (t5 : T (Str.ofString "less") = some f_less) (t6 : T (Str.ofString "gives") = some f_gives) (t7 : T (Str.ofString "mark") = some f_mark) (t8 : T (Str.ofString "marked") = some f_marked) (t9 : T (Str.ofString "choices_of") = some f_choices_of) (t10 : T (Str.ofString "mean") = some f_mean) (t11 : T (Str.ofString "left_out") = some f_left_out) (t12 : T (Str.ofString "part_share") = some f_part_share) (t13 : T (Str.ofString "chosen") = some f_chosen) (t14 : T (Str.ofString "row_of") = some f_row_of) (t15 : T (Str.ofString "tale") = some f_tale) (t16 : T (Str.ofString "_law_whole") = some f__law_whole) (t17 : T (Str.ofString "_law_mark") = some f__law_mark) (t18 : T (Str.ofString "_law_row") = some f__law_row) (t19 : T (Str.ofString "_law_kinds") = some f__law_kinds) (t20 : T (Str.ofString "_law_told") = some f__law_told) (t21 : T (Str.ofString "_law_cell_at") = some f__law_cell_at) (t22 : T (Str.ofString "_law_stream") = some f__law_stream) (t23 : T (Str.ofString "_law_task_by") = some f__law_task_by) (t24 : T (Str.ofString "_law_part_by") = some f__law_part_by) (t25 : T (Str.ofString "_law_course_by") = some f__law_course_by) :
    blk (lev T (n + 74)).S f_law_p1 [.fz (.list (ns.map .int)), .un, .un, .un, .un] fun o => ∃ C L, o = .next [.fz (.list (ns.map .int)), .ow C, .ow C, .un, .un] ∧ Law7 T (n + 74) f_law_p2 f_law_p3 C L := by
  have B : Tabs T := ⟨t1, t2, t3, t4, t5, t6, t7, t8, t9, t10, t11⟩
  have fin : ∀ ps : List Pt, ps.length ≤ 6 → (∀ p ∈ ps, p.Ok 4) → Law7 T (n + 74) f_law_p2 f_law_p3 (ps.map Pt.d) (ps.map taleD) := fun ps hl hp => by
    have hpt : ∀ p ∈ ps, p.ts.length ≤ 4 := fun p hm => (hp p hm).tl
    refine ⟨noLs_pts ps, by rw [List.length_map]; omega, ?_, by rw [List.length_map]; omega, fun d hd => ?_, ?_⟩
    · delta f_law_p2
      repeat (first | with_reducible (first | apply Ug | apply Uh | apply Ui | apply Uj | apply Uk | apply g_inT | apply g_te0 | apply g_te1 | apply g_te2 | apply g_tet | apply g_tdt | apply g_nett | apply g_nec | apply Ze | apply Zf) | walk_at "ga" | refine Jj rfl rfl rfl ?_ | refine Je ?_ | walk_at "gb")
      refine sp_tale B t12 t14 t13 (M := 4) (by decide) hl hp (.inl rfl) ?_
      repeat (first | with_reducible (first | apply Ug | apply Uh | apply Ui | apply Uj | apply Uk | apply g_inT | apply g_te0 | apply g_te1 | apply g_te2 | apply g_tet | apply g_tdt | apply g_nett | apply g_nec | apply Ze | apply Zf) | walk_at "ga" | refine Jj rfl rfl rfl ?_ | refine Je ?_ | walk_at "gb")
      delta f_law_p2b
      repeat (first | with_reducible (first | apply Ug | apply Uh | apply Ui | apply Uj | apply Uk | apply g_inT | apply g_te0 | apply g_te1 | apply g_te2 | apply g_tet | apply g_tdt | apply g_nett | apply g_nec | apply Ze | apply Zf) | walk_at "ga" | refine Jj rfl rfl rfl ?_ | refine Je ?_ | walk_at "gb")
      refine sp_told B t12 t17 t18 t19 t16 (M := 4) (by decide) hl hp ?_
      repeat (first | with_reducible (first | apply Ug | apply Uh | apply Ui | apply Uj | apply Uk | apply g_inT | apply g_te0 | apply g_te1 | apply g_te2 | apply g_tet | apply g_tdt | apply g_nett | apply g_nec | apply Ze | apply Zf) | walk_at "ga" | refine Jj rfl rfl rfl ?_ | refine Je ?_ | walk_at "gb")
      refine ⟨fun _ => rfl, ?_⟩
      repeat (first | with_reducible (first | apply Ug | apply Uh | apply Ui | apply Uj | apply Uk | apply g_inT | apply g_te0 | apply g_te1 | apply g_te2 | apply g_tet | apply g_tdt | apply g_nett | apply g_nec | apply Ze | apply Zf) | walk_at "ga" | refine Jj rfl rfl rfl ?_ | refine Je ?_ | walk_at "gb")
    · obtain ⟨p, hm, rfl⟩ := List.mem_map.mp hd
      exact ⟨_, _, _, rfl, by unfold rowsF; rw [rows_len]; have := hpt p hm; omega⟩
    · delta f_law_p3
      repeat (first | with_reducible (first | apply Ug | apply Uh | apply Ui | apply Uj | apply Uk | apply g_inT | apply g_te0 | apply g_te1 | apply g_te2 | apply g_tet | apply g_tdt | apply g_nett | apply g_nec | apply Ze | apply Zf) | walk_at "ga" | refine Jj rfl rfl rfl ?_ | refine Je ?_ | walk_at "gb")
      refine ⟨by rw [List.length_map, size_eq]; omega, ?_⟩
      repeat (first | with_reducible (first | apply Ug | apply Uh | apply Ui | apply Uj | apply Uk | apply g_inT | apply g_te0 | apply g_te1 | apply g_te2 | apply g_tet | apply g_tdt | apply g_nett | apply g_nec | apply Ze | apply Zf) | walk_at "ga" | refine Jj rfl rfl rfl ?_ | refine Je ?_ | walk_at "gb")
      refine sp_tale B t12 t14 t13 (M := 4) (by decide) hl hp (.inr rfl) ?_
      repeat (first | with_reducible (first | apply Ug | apply Uh | apply Ui | apply Uj | apply Uk | apply g_inT | apply g_te0 | apply g_te1 | apply g_te2 | apply g_tet | apply g_tdt | apply g_nett | apply g_nec | apply Ze | apply Zf) | walk_at "ga" | refine Jj rfl rfl rfl ?_ | refine Je ?_ | walk_at "gb")
      refine sp_told B t12 t17 t18 t19 t16 (M := 4) (by decide) hl hp ?_
      repeat (first | with_reducible (first | apply Ug | apply Uh | apply Ui | apply Uj | apply Uk | apply g_inT | apply g_te0 | apply g_te1 | apply g_te2 | apply g_tet | apply g_tdt | apply g_nett | apply g_nec | apply Ze | apply Zf) | walk_at "ga" | refine Jj rfl rfl rfl ?_ | refine Je ?_ | walk_at "gb")
      refine ⟨fun _ => rfl, ?_⟩
      repeat (first | with_reducible (first | apply Ug | apply Uh | apply Ui | apply Uj | apply Uk | apply g_inT | apply g_te0 | apply g_te1 | apply g_te2 | apply g_tet | apply g_tdt | apply g_nett | apply g_nec | apply Ze | apply Zf) | walk_at "ga" | refine Jj rfl rfl rfl ?_ | refine Je ?_ | walk_at "gb")
      exact ⟨_, rfl⟩
  delta f_law_p1
  repeat (first | with_reducible (first | apply Ug | apply Uh | apply Ui | apply Uj | apply Uk | apply g_inT | apply g_te0 | apply g_te1 | apply g_te2 | apply g_tet | apply g_tdt | apply g_nett | apply g_nec | apply Ze | apply Zf) | walk_at "ga" | refine Jj rfl rfl rfl ?_ | refine Je ?_ | walk_at "gb")
  refine sp_course t21 t23 t22 t24 hl (M := 4) (F := 2) (by decide) fun ps h1 h2 => ?_
  repeat (first | with_reducible (first | apply Ug | apply Uh | apply Ui | apply Uj | apply Uk | apply g_inT | apply g_te0 | apply g_te1 | apply g_te2 | apply g_tet | apply g_tdt | apply g_nett | apply g_nec | apply Ze | apply Zf) | walk_at "ga" | refine Jj rfl rfl rfl ?_ | refine Je ?_ | walk_at "gb")
  delta f_law_p1b
  repeat (first | with_reducible (first | apply Ug | apply Uh | apply Ui | apply Uj | apply Uk | apply g_inT | apply g_te0 | apply g_te1 | apply g_te2 | apply g_tet | apply g_tdt | apply g_nett | apply g_nec | apply Ze | apply Zf) | walk_at "ga" | refine Jj rfl rfl rfl ?_ | refine Je ?_ | walk_at "gb")
  refine ⟨by rw [List.length_map, size_eq]; omega, ?_⟩
  repeat (first | with_reducible (first | apply Ug | apply Uh | apply Ui | apply Uj | apply Uk | apply g_inT | apply g_te0 | apply g_te1 | apply g_te2 | apply g_tet | apply g_tdt | apply g_nett | apply g_nec | apply Ze | apply Zf) | walk_at "ga" | refine Jj rfl rfl rfl ?_ | refine Je ?_ | walk_at "gb")
  exact ⟨_, _, rfl, fin ps h1 h2⟩
theorem law_e1 : (lev T (n + 74)).E (List.replicate 5 .un) f_law_e1 fun _ _ => True := by
  delta f_law_e1
  repeat (first | with_reducible (first | apply Ug | apply Uh | apply Ui | apply Uj | apply Uk | apply g_inT | apply g_te0 | apply g_te1 | apply g_te2 | apply g_tet | apply g_tdt | apply g_nett | apply g_nec | apply Ze | apply Zf) | walk_at "ga" | refine Jj rfl rfl rfl ?_ | refine Je ?_ | walk_at "gb")
theorem law_e2 : (lev T (n + 74)).E (List.replicate 5 .un) f_law_e2 fun _ _ => True := by
  delta f_law_e2
  repeat (first | with_reducible (first | apply Ug | apply Uh | apply Ui | apply Uj | apply Uk | apply g_inT | apply g_te0 | apply g_te1 | apply g_te2 | apply g_tet | apply g_tdt | apply g_nett | apply g_nec | apply Ze | apply Zf) | walk_at "ga" | refine Jj rfl rfl rfl ?_ | refine Je ?_ | walk_at "gb")
theorem law_c2 : (lev T (n + 74)).E (List.replicate 5 .un) (.const (.int 2)) fun d _ => d = .int 2 := by
  repeat (first | with_reducible (first | apply Ug | apply Uh | apply Ui | apply Uj | apply Uk | apply g_inT | apply g_te0 | apply g_te1 | apply g_te2 | apply g_tet | apply g_tdt | apply g_nett | apply g_nec | apply Ze | apply Zf) | walk_at "ga" | refine Jj rfl rfl rfl ?_ | refine Je ?_ | walk_at "gb")
end
end

section
set_option Elab.async false
set_option maxRecDepth 100000
open PySem PySem.W PySem.Calls PyProof.Rows
noncomputable def hs (x : String) (t : Nat) : Value := .str (Str.ofString x) t
noncomputable def he (P : Params) (x : String) (t : Nat) (v : Value) : DictEntry := ⟨PyData.keyHash P (Str.ofString x), .str (Str.ofString x) t, v⟩
noncomputable def htu (l : List Value) : Obj := ⟨.type "tuple", none, .seq l.toArray 0, #[]⟩
noncomputable def hfl (l : List Value) : Obj := ⟨.none, none, .fields l.toArray, #[]⟩
noncomputable def hco (l : List Value) : Obj := ⟨.type "code", none, .fields l.toArray, #[]⟩
noncomputable def hd (i : Nat) : Arguments × List Stmt × Scope := match PySem.Challenge.pw_uf040009_07.main.body[i]? with | some (.FunctionDef _ a b _ _ _ s _ _ _) => (a, b, s) | _ => default
noncomputable def hf (i : Nat) (n m : String) (g : Nat) (cl : List (Str × Addr)) (d k doc pm : Value) (an : Option Addr) (cd ct : Value) (bi : Nat) : FuncData := ⟨Str.ofString n, Str.ofString m, (hd i).1, .stmts (hd i).2.1, (hd i).2.2, g, cl, d, k, doc, pm, an, cd, ct, bi⟩
noncomputable def hlife : Life := { }
noncomputable def hB : List Frame := [topFrame ⟨0, 0, 0, 0⟩]
noncomputable def hEnv : Env := { scope := PySem.Challenge.pw_uf040009_07.main.scope, locals := mainNs, globals := mainNs, cells := [], code := (.ref 13), frame := some 14 }
noncomputable def hC : Code := .body (behindTheImports PySem.Challenge.pw_uf040009_07) hEnv
noncomputable def k0 : Obj := htu []
noncomputable def k1 : Obj := hfl []
noncomputable def k2 : Obj := hco [(hs "<module>" 182), (hs "<module>" 183), (hs "/claim/cut.py" 184), (.int 1 0), (.int 0 0), (.int 0 0), (.int 0 0), (.int 0 0), (.ref 11), (.bool false), (.int 181 0), (.ref 12), .none, .none, .none, .none, (.int 185 0), (.int 1 0), (hs "/claim/cut.py" 186)]
noncomputable def k3 : Obj := ⟨(.type "frame"), none, .plain, #[(some (.ref 13)), (some (.ref 3)), (some (.ref 3)), none, (some (hs "__main__" 164)), none, (some (.ref 0))]⟩
noncomputable def sAH (P : Params) : Heap := ⟨#[(boot_o_0 P), (boot_o_1 P), (boot_o_2 P), (boot_o_3 P), (boot_o_4 P), (boot_o_5 P), (boot_o_6 P), (boot_o_7 P), (boot_o_8 P), (boot_o_9 P), (boot_o_10 P), k0, k1, k2, k3], hlife⟩
noncomputable def sA (w : World) (os : OsState) : Shared := ⟨sAH w.params, #[], ⟨0, 0, 0, 0⟩, 187, os⟩
theorem h_pre (w : World) : (fun os => topGo treeTable PySem.Challenge.pw_uf040009_07 w 11 (some (.ref 6)) 12 ⟨boot_heap w.params, #[], boot_drawn, boot_toks, os⟩ (topStub PySem.Challenge.pw_uf040009_07)) = fun os => some (sA w os, (⟨denote treeTable hC, hC, ⟨0, 0, 0, 0⟩, hB⟩ : Thread)) := by rw [PySem.W.Fast.te15667345088766844465, PySem.W.Fast.te14364793385576792824, PySem.W.Fast.te11892475500146522536]; kernel_rfl
noncomputable def sBT (P : Params) : BT := .node (boot_o_0 P) (.node (boot_o_1 P) (.node (boot_o_3 P) (.node (boot_o_7 P) .nil .nil) (.node k0 .nil .nil)) (.node (boot_o_5 P) (.node (boot_o_9 P) .nil .nil) (.node k2 .nil .nil))) (.node (boot_o_2 P) (.node (boot_o_4 P) (.node (boot_o_8 P) .nil .nil) (.node k1 .nil .nil)) (.node (boot_o_6 P) (.node (boot_o_10 P) .nil .nil) (.node k3 .nil .nil)))
noncomputable def sB (w : World) (os : OsState) : SharedT := ⟨sBT w.params, 15, hlife, #[], ⟨0, 0, 0, 0⟩, 187, os⟩
theorem h_blk (w : World) : (fun os => segRun treeTable PySem.Challenge.pw_uf040009_07 w 11 (some (.ref 6)) 1 1 (sA w os) ⟨(blockStart (behindTheImports PySem.Challenge.pw_uf040009_07) hEnv).wrap (fun _ => doneF .next) deadEnd id id, hC, ⟨0, 0, 0, 0⟩, hB⟩) = fun os => some (Flow.next, (sB w os).abs, hC, ⟨0, 0, 0, 0⟩) := by rw [PySem.W.Fast.te14374325043358763698, PySem.W.Fast.te14364793385576792824, PySem.W.Fast.te1066825118222455980]; kernel_rfl
noncomputable def hS1 : List Stmt := ((behindTheImports PySem.Challenge.pw_uf040009_07).drop 0).take 15
noncomputable def k4 (P : Params) : Obj := ⟨(.type "dict"), none, (.dict #[he P "__name__" 165 (hs "gradewish.parts" 259), he P "__doc__" 166 .none, he P "__package__" 167 .none, he P "__loader__" 168 (.builtin "__main__.__loader__#opaque"), he P "__spec__" 169 .none, he P "__annotations__" 170 (.ref 6), he P "__builtins__" 171 (.ref 4), he P "__file__" 173 (hs "/claim/cut.py" 172), he P "__cached__" 174 .none, he P "divisor_of" 197 (.ref 21), he P "share" 206 (.ref 28), he P "plus" 214 (.ref 35), he P "times" 223 (.ref 42), he P "less" 231 (.ref 49), he P "gives" 243 (.ref 56), he P "mark" 250 (.ref 63), he P "chosen" 258 (.ref 70), he P "marked" 266 (.ref 75), he P "choices_of" 277 (.ref 82), he P "mean" 283 (.ref 87), he P "left_out" 289 (.ref 92)] 21), #[]⟩
noncomputable def k5 : Obj := hfl [(.int 2 0), (.int 0 0), (.ref 20), (.int 8 0), (.int 0 0), (.ref 27), (.int 11 0), (.int 0 0), (.ref 34), (.int 13 0), (.int 0 0), (.ref 41), (.int 15 0), (.int 0 0), (.ref 48), (.int 18 0), (.int 0 0), (.ref 55), (.int 26 0), (.int 0 0), (.ref 62), (.int 28 0), (.int 0 0), (.ref 69), (.int 34 0), (.int 0 0), (.ref 74), (.int 36 0), (.int 0 0), (.ref 81), (.int 44 0), (.int 0 0), (.ref 86), (.int 51 0), (.int 0 0), (.ref 91)]
noncomputable def k6 : Obj := htu [(hs "one" 192), (hs "other" 193), (hs "rest" 194)]
noncomputable def k7 : Obj := ⟨.none, none, (.func (hf 1 "divisor_of" "divisor_of" 0 [] .none .none .none .none none .none .none 0)), #[]⟩
noncomputable def k8 : Obj := hco [(hs "divisor_of" 189), (hs "divisor_of" 190), (hs "/claim/cut.py" 191), (.int 2 0), (.int 2 0), (.int 0 0), (.int 0 0), (.int 3 0), (.ref 15), (.bool true), (.int 181 0), (.ref 16), .none, (.ref 17), (.ref 18), (.ref 19), (.int 195 0), (.int 2 0), (hs "/claim/cut.py" 196)]
noncomputable def k9 : Obj := ⟨(.type "function"), none, (.func (hf 1 "divisor_of" "divisor_of" 3 [] .none .none .none (hs "gradewish.shares" 187) none (.ref 20) .none 0)), #[]⟩
noncomputable def k10 : Obj := htu [(hs "top" 201), (hs "bottom" 202), (hs "many" 203)]
noncomputable def k11 : Obj := ⟨.none, none, (.func (hf 2 "share" "share" 0 [] .none .none .none .none none .none .none 0)), #[]⟩
noncomputable def k12 : Obj := hco [(hs "share" 198), (hs "share" 199), (hs "/claim/cut.py" 200), (.int 8 0), (.int 2 0), (.int 0 0), (.int 0 0), (.int 3 0), (.ref 22), (.bool true), (.int 181 0), (.ref 23), .none, (.ref 24), (.ref 25), (.ref 26), (.int 204 0), (.int 8 0), (hs "/claim/cut.py" 205)]
noncomputable def k13 : Obj := ⟨(.type "function"), none, (.func (hf 2 "share" "share" 3 [] .none .none .none (hs "gradewish.shares" 187) none (.ref 27) .none 0)), #[]⟩
noncomputable def k14 : Obj := htu [(hs "one" 210), (hs "other" 211)]
noncomputable def k15 : Obj := ⟨.none, none, (.func (hf 3 "plus" "plus" 0 [] .none .none .none .none none .none .none 0)), #[]⟩
noncomputable def k16 : Obj := hco [(hs "plus" 207), (hs "plus" 208), (hs "/claim/cut.py" 209), (.int 11 0), (.int 2 0), (.int 0 0), (.int 0 0), (.int 3 0), (.ref 29), (.bool true), (.int 181 0), (.ref 30), .none, (.ref 31), (.ref 32), (.ref 33), (.int 212 0), (.int 11 0), (hs "/claim/cut.py" 213)]
noncomputable def k17 : Obj := ⟨(.type "function"), none, (.func (hf 3 "plus" "plus" 3 [] .none .none .none (hs "gradewish.shares" 187) none (.ref 34) .none 0)), #[]⟩
noncomputable def k18 : Obj := htu [(hs "one" 218), (hs "number" 219), (hs "over" 220)]
noncomputable def k19 : Obj := ⟨.none, none, (.func (hf 4 "times" "times" 0 [] .none .none .none .none none .none .none 0)), #[]⟩
noncomputable def k20 : Obj := hco [(hs "times" 215), (hs "times" 216), (hs "/claim/cut.py" 217), (.int 13 0), (.int 3 0), (.int 0 0), (.int 0 0), (.int 3 0), (.ref 36), (.bool true), (.int 181 0), (.ref 37), .none, (.ref 38), (.ref 39), (.ref 40), (.int 221 0), (.int 13 0), (hs "/claim/cut.py" 222)]
noncomputable def k21 : Obj := ⟨(.type "function"), none, (.func (hf 4 "times" "times" 3 [] .none .none .none (hs "gradewish.shares" 187) none (.ref 41) .none 0)), #[]⟩
noncomputable def k22 : Obj := htu [(hs "one" 227), (hs "other" 228)]
noncomputable def k23 : Obj := ⟨.none, none, (.func (hf 5 "less" "less" 0 [] .none .none .none .none none .none .none 0)), #[]⟩
noncomputable def k24 : Obj := hco [(hs "less" 224), (hs "less" 225), (hs "/claim/cut.py" 226), (.int 15 0), (.int 2 0), (.int 0 0), (.int 0 0), (.int 3 0), (.ref 43), (.bool true), (.int 181 0), (.ref 44), .none, (.ref 45), (.ref 46), (.ref 47), (.int 229 0), (.int 15 0), (hs "/claim/cut.py" 230)]
noncomputable def k25 : Obj := ⟨(.type "function"), none, (.func (hf 5 "less" "less" 3 [] .none .none .none (hs "gradewish.shares" 187) none (.ref 48) .none 0)), #[]⟩
noncomputable def k26 : Obj := htu [(hs "task" 237), (hs "cap" 238), (hs "found" 239), (hs "points" 240)]
noncomputable def k27 : Obj := ⟨.none, none, (.func (hf 7 "gives" "gives" 0 [] .none .none .none .none none .none .none 0)), #[]⟩
noncomputable def k28 : Obj := hco [(hs "gives" 234), (hs "gives" 235), (hs "/claim/cut.py" 236), (.int 18 0), (.int 1 0), (.int 0 0), (.int 0 0), (.int 3 0), (.ref 50), (.bool true), (.int 181 0), (.ref 51), .none, (.ref 52), (.ref 53), (.ref 54), (.int 241 0), (.int 18 0), (hs "/claim/cut.py" 242)]
noncomputable def k29 : Obj := ⟨(.type "function"), none, (.func (hf 7 "gives" "gives" 3 [] .none .none .none (hs "gradewish.tasks" 232) none (.ref 55) .none 0)), #[]⟩
noncomputable def k30 : Obj := htu [(hs "task" 247)]
noncomputable def k31 : Obj := ⟨.none, none, (.func (hf 8 "mark" "mark" 0 [] .none .none .none .none none .none .none 0)), #[]⟩
noncomputable def k32 : Obj := hco [(hs "mark" 244), (hs "mark" 245), (hs "/claim/cut.py" 246), (.int 26 0), (.int 1 0), (.int 0 0), (.int 0 0), (.int 3 0), (.ref 57), (.bool true), (.int 181 0), (.ref 58), .none, (.ref 59), (.ref 60), (.ref 61), (.int 248 0), (.int 26 0), (hs "/claim/cut.py" 249)]
noncomputable def k33 : Obj := ⟨(.type "function"), none, (.func (hf 8 "mark" "mark" 3 [] .none .none .none (hs "gradewish.tasks" 232) none (.ref 62) .none 0)), #[]⟩
noncomputable def k34 : Obj := htu [(hs "task" 254), (hs "found" 255)]
noncomputable def k35 : Obj := ⟨.none, none, (.func (hf 9 "chosen" "chosen" 0 [] .none .none .none .none none .none .none 0)), #[]⟩
noncomputable def k36 : Obj := hco [(hs "chosen" 251), (hs "chosen" 252), (hs "/claim/cut.py" 253), (.int 28 0), (.int 1 0), (.int 0 0), (.int 0 0), (.int 3 0), (.ref 64), (.bool true), (.int 181 0), (.ref 65), .none, (.ref 66), (.ref 67), (.ref 68), (.int 256 0), (.int 28 0), (hs "/claim/cut.py" 257)]
noncomputable def k37 : Obj := ⟨(.type "function"), none, (.func (hf 9 "chosen" "chosen" 3 [] .none .none .none (hs "gradewish.tasks" 232) none (.ref 69) .none 0)), #[]⟩
noncomputable def k38 : Obj := ⟨.none, none, (.func (hf 11 "marked" "marked" 0 [] .none .none .none .none none .none .none 0)), #[]⟩
noncomputable def k39 : Obj := hco [(hs "marked" 261), (hs "marked" 262), (hs "/claim/cut.py" 263), (.int 34 0), (.int 1 0), (.int 0 0), (.int 0 0), (.int 3 0), (.ref 71), (.bool true), (.int 181 0), (.ref 72), .none, .none, .none, (.ref 73), (.int 264 0), (.int 34 0), (hs "/claim/cut.py" 265)]
noncomputable def k40 : Obj := ⟨(.type "function"), none, (.func (hf 11 "marked" "marked" 3 [] .none .none .none (hs "gradewish.parts" 259) none (.ref 74) .none 0)), #[]⟩
noncomputable def k41 : Obj := htu [(hs "numbers" 270), (hs "many" 271), (hs "found" 272), (hs "at" 273), (hs "rest" 274)]
noncomputable def k42 : Obj := ⟨.none, none, (.func (hf 12 "choices_of" "choices_of" 0 [] .none .none .none .none none .none .none 0)), #[]⟩
noncomputable def k43 : Obj := hco [(hs "choices_of" 267), (hs "choices_of" 268), (hs "/claim/cut.py" 269), (.int 36 0), (.int 2 0), (.int 0 0), (.int 0 0), (.int 3 0), (.ref 76), (.bool true), (.int 181 0), (.ref 77), .none, (.ref 78), (.ref 79), (.ref 80), (.int 275 0), (.int 36 0), (hs "/claim/cut.py" 276)]
noncomputable def k44 : Obj := ⟨(.type "function"), none, (.func (hf 12 "choices_of" "choices_of" 3 [] .none .none .none (hs "gradewish.parts" 259) none (.ref 81) .none 0)), #[]⟩
noncomputable def k45 : Obj := ⟨.none, none, (.func (hf 13 "mean" "mean" 0 [] .none .none .none .none none .none .none 0)), #[]⟩
noncomputable def k46 : Obj := hco [(hs "mean" 278), (hs "mean" 279), (hs "/claim/cut.py" 280), (.int 44 0), (.int 2 0), (.int 0 0), (.int 0 0), (.int 3 0), (.ref 83), (.bool true), (.int 181 0), (.ref 84), .none, .none, .none, (.ref 85), (.int 281 0), (.int 44 0), (hs "/claim/cut.py" 282)]
noncomputable def k47 : Obj := ⟨(.type "function"), none, (.func (hf 13 "mean" "mean" 3 [] .none .none .none (hs "gradewish.parts" 259) none (.ref 86) .none 0)), #[]⟩
noncomputable def k48 : Obj := ⟨.none, none, (.func (hf 14 "left_out" "left_out" 0 [] .none .none .none .none none .none .none 0)), #[]⟩
noncomputable def k49 : Obj := hco [(hs "left_out" 284), (hs "left_out" 285), (hs "/claim/cut.py" 286), (.int 51 0), (.int 1 0), (.int 0 0), (.int 0 0), (.int 3 0), (.ref 88), (.bool true), (.int 181 0), (.ref 89), .none, .none, .none, (.ref 90), (.int 287 0), (.int 51 0), (hs "/claim/cut.py" 288)]
noncomputable def k50 : Obj := ⟨(.type "function"), none, (.func (hf 14 "left_out" "left_out" 3 [] .none .none .none (hs "gradewish.parts" 259) none (.ref 91) .none 0)), #[]⟩
noncomputable def s1T (P : Params) : BT := .node (boot_o_0 P) (.node (boot_o_1 P) (.node (k4 P) (.node (boot_o_7 P) (.node k0 (.node k14 (.node k33 .nil .nil) .nil) (.node k23 (.node k0 .nil .nil) .nil)) (.node k1 (.node k0 (.node k0 .nil .nil) .nil) (.node k28 (.node k47 .nil .nil) .nil))) (.node k0 (.node k7 (.node k17 (.node k0 .nil .nil) .nil) (.node k1 (.node k0 .nil .nil) .nil)) (.node k12 (.node k0 (.node k40 .nil .nil) .nil) (.node k30 (.node k49 .nil .nil) .nil)))) (.node (boot_o_5 P) (.node (boot_o_9 P) (.node k6 (.node k15 (.node k1 .nil .nil) .nil) (.node k25 (.node k43 .nil .nil) .nil)) (.node k0 (.node k20 (.node k38 .nil .nil) .nil) (.node k0 (.node k1 .nil .nil) .nil))) (.node k2 (.node k9 (.node k1 (.node k36 .nil .nil) .nil) (.node k0 (.node k45 .nil .nil) .nil)) (.node k0 (.node k22 (.node k1 .nil .nil) .nil) (.node k31 .nil .nil))))) (.node (boot_o_2 P) (.node (boot_o_4 P) (.node (boot_o_8 P) (.node k1 (.node k0 (.node k0 .nil .nil) .nil) (.node k24 (.node k42 .nil .nil) .nil)) (.node k10 (.node k19 (.node k1 .nil .nil) .nil) (.node k29 (.node k0 .nil .nil) .nil))) (.node k5 (.node k8 (.node k0 (.node k35 .nil .nil) .nil) (.node k26 (.node k1 .nil .nil) .nil)) (.node k13 (.node k1 (.node k0 .nil .nil) .nil) (.node k0 (.node k50 .nil .nil) .nil)))) (.node (boot_o_6 P) (.node (boot_o_10 P) (.node k0 (.node k16 (.node k34 .nil .nil) .nil) (.node k0 (.node k44 .nil .nil) .nil)) (.node k11 (.node k21 (.node k39 .nil .nil) .nil) (.node k1 (.node k48 .nil .nil) .nil))) (.node k3 (.node k0 (.node k18 (.node k37 .nil .nil) .nil) (.node k27 (.node k46 .nil .nil) .nil)) (.node k1 (.node k0 (.node k41 .nil .nil) .nil) (.node k32 .nil .nil)))))
noncomputable def s1 (w : World) (os : OsState) : SharedT := ⟨s1T w.params, 93, hlife, #[], ⟨0, 0, 0, 0⟩, 290, os⟩
theorem h_g1 (w : World) : (fun os => segRunT treeTable PySem.Challenge.pw_uf040009_07 w 11 (some (.ref 6)) 1 383 (sB w os) ⟨(execs hS1 hEnv).wrap doneF deadEnd id id, hC, ⟨0, 0, 0, 0⟩, hB⟩) = fun os => some (Flow.next, s1 w os, hC, ⟨51, 0, 62, 15⟩) := by rw [PySem.W.Fast.te10110043849684766642, PySem.W.Fast.te14364793385576792824, PySem.W.Fast.te12563942051412417395]; kernel_rfl
noncomputable def hS2 : List Stmt := ((behindTheImports PySem.Challenge.pw_uf040009_07).drop 15).take 14
noncomputable def k51 (P : Params) : Obj := ⟨(.type "dict"), none, (.dict #[he P "__name__" 165 (hs "law_uf040009_07" 313), he P "__doc__" 166 .none, he P "__package__" 167 .none, he P "__loader__" 168 (.builtin "__main__.__loader__#opaque"), he P "__spec__" 169 .none, he P "__annotations__" 170 (.ref 6), he P "__builtins__" 171 (.ref 4), he P "__file__" 173 (hs "/claim/cut.py" 172), he P "__cached__" 174 .none, he P "divisor_of" 197 (.ref 21), he P "share" 206 (.ref 28), he P "plus" 214 (.ref 35), he P "times" 223 (.ref 42), he P "less" 231 (.ref 49), he P "gives" 243 (.ref 56), he P "mark" 250 (.ref 63), he P "chosen" 258 (.ref 70), he P "marked" 266 (.ref 75), he P "choices_of" 277 (.ref 82), he P "mean" 283 (.ref 87), he P "left_out" 289 (.ref 92), he P "part_share" 295 (.ref 97), he P "row_of" 306 (.ref 104), he P "tale" 312 (.ref 109), he P "_law_cell_at" 322 (.ref 116), he P "_law_stream" 333 (.ref 123), he P "_law_whole" 340 (.ref 130), he P "_law_task_by" 353 (.ref 137), he P "_law_part_by" 359 (.ref 142), he P "_law_course_by" 365 (.ref 147), he P "_law_mark" 375 (.ref 154), he P "_law_row" 386 (.ref 161), he P "_law_kinds" 394 (.ref 168)] 33), #[]⟩
noncomputable def k52 : Obj := hfl [(.int 2 0), (.int 0 0), (.ref 20), (.int 8 0), (.int 0 0), (.ref 27), (.int 11 0), (.int 0 0), (.ref 34), (.int 13 0), (.int 0 0), (.ref 41), (.int 15 0), (.int 0 0), (.ref 48), (.int 18 0), (.int 0 0), (.ref 55), (.int 26 0), (.int 0 0), (.ref 62), (.int 28 0), (.int 0 0), (.ref 69), (.int 34 0), (.int 0 0), (.ref 74), (.int 36 0), (.int 0 0), (.ref 81), (.int 44 0), (.int 0 0), (.ref 86), (.int 51 0), (.int 0 0), (.ref 91), (.int 63 0), (.int 0 0), (.ref 96), (.int 74 0), (.int 0 0), (.ref 103), (.int 81 0), (.int 0 0), (.ref 108), (.int 89 0), (.int 0 0), (.ref 115), (.int 93 0), (.int 0 0), (.ref 122), (.int 100 0), (.int 0 0), (.ref 129), (.int 102 0), (.int 0 0), (.ref 136), (.int 113 0), (.int 0 0), (.ref 141), (.int 124 0), (.int 0 0), (.ref 146), (.int 129 0), (.int 0 0), (.ref 153), (.int 138 0), (.int 0 0), (.ref 160), (.int 147 0), (.int 0 0), (.ref 167)]
noncomputable def k53 : Obj := ⟨.none, none, (.func (hf 15 "part_share" "part_share" 0 [] .none .none .none .none none .none .none 0)), #[]⟩
noncomputable def k54 : Obj := hco [(hs "part_share" 290), (hs "part_share" 291), (hs "/claim/cut.py" 292), (.int 63 0), (.int 1 0), (.int 0 0), (.int 0 0), (.int 3 0), (.ref 93), (.bool true), (.int 181 0), (.ref 94), .none, .none, .none, (.ref 95), (.int 293 0), (.int 63 0), (hs "/claim/cut.py" 294)]
noncomputable def k55 : Obj := ⟨(.type "function"), none, (.func (hf 15 "part_share" "part_share" 3 [] .none .none .none (hs "gradewish.parts" 259) none (.ref 96) .none 0)), #[]⟩
noncomputable def k56 : Obj := htu [(hs "task" 301), (hs "is_left" 302), (hs "word" 303)]
noncomputable def k57 : Obj := ⟨.none, none, (.func (hf 17 "row_of" "row_of" 0 [] .none .none .none .none none .none .none 0)), #[]⟩
noncomputable def k58 : Obj := hco [(hs "row_of" 298), (hs "row_of" 299), (hs "/claim/cut.py" 300), (.int 74 0), (.int 2 0), (.int 0 0), (.int 0 0), (.int 3 0), (.ref 98), (.bool true), (.int 181 0), (.ref 99), .none, (.ref 100), (.ref 101), (.ref 102), (.int 304 0), (.int 74 0), (hs "/claim/cut.py" 305)]
noncomputable def k59 : Obj := ⟨(.type "function"), none, (.func (hf 17 "row_of" "row_of" 3 [] .none .none .none (hs "gradewish.grades" 296) none (.ref 103) .none 0)), #[]⟩
noncomputable def k60 : Obj := ⟨.none, none, (.func (hf 18 "tale" "tale" 0 [] .none .none .none .none none .none .none 0)), #[]⟩
noncomputable def k61 : Obj := hco [(hs "tale" 307), (hs "tale" 308), (hs "/claim/cut.py" 309), (.int 81 0), (.int 1 0), (.int 0 0), (.int 0 0), (.int 3 0), (.ref 105), (.bool true), (.int 181 0), (.ref 106), .none, .none, .none, (.ref 107), (.int 310 0), (.int 81 0), (hs "/claim/cut.py" 311)]
noncomputable def k62 : Obj := ⟨(.type "function"), none, (.func (hf 18 "tale" "tale" 3 [] .none .none .none (hs "gradewish.grades" 296) none (.ref 108) .none 0)), #[]⟩
noncomputable def k63 : Obj := htu [(hs "_law_script" 318), (hs "_law_k" 319)]
noncomputable def k64 : Obj := ⟨.none, none, (.func (hf 20 "_law_cell_at" "_law_cell_at" 0 [] .none .none .none .none none .none .none 0)), #[]⟩
noncomputable def k65 : Obj := hco [(hs "_law_cell_at" 315), (hs "_law_cell_at" 316), (hs "/claim/cut.py" 317), (.int 89 0), (.int 2 0), (.int 0 0), (.int 0 0), (.int 3 0), (.ref 110), (.bool true), (.int 181 0), (.ref 111), .none, (.ref 112), (.ref 113), (.ref 114), (.int 320 0), (.int 89 0), (hs "/claim/cut.py" 321)]
noncomputable def k66 : Obj := ⟨(.type "function"), none, (.func (hf 20 "_law_cell_at" "_law_cell_at" 3 [] .none .none .none (hs "law_uf040009_07" 313) none (.ref 115) .none 0)), #[]⟩
noncomputable def k67 : Obj := htu [(hs "_law_cell" 326), (hs "_law_many" 327), (hs "_law_found" 328), (hs "_law_number" 329), (hs "_law_k" 330)]
noncomputable def k68 : Obj := ⟨.none, none, (.func (hf 21 "_law_stream" "_law_stream" 0 [] .none .none .none .none none .none .none 0)), #[]⟩
noncomputable def k69 : Obj := hco [(hs "_law_stream" 323), (hs "_law_stream" 324), (hs "/claim/cut.py" 325), (.int 93 0), (.int 2 0), (.int 0 0), (.int 0 0), (.int 3 0), (.ref 117), (.bool true), (.int 181 0), (.ref 118), .none, (.ref 119), (.ref 120), (.ref 121), (.int 331 0), (.int 93 0), (hs "/claim/cut.py" 332)]
noncomputable def k70 : Obj := ⟨(.type "function"), none, (.func (hf 21 "_law_stream" "_law_stream" 3 [] .none .none .none (hs "law_uf040009_07" 313) none (.ref 122) .none 0)), #[]⟩
noncomputable def k71 : Obj := htu [(hs "_law_found" 337)]
noncomputable def k72 : Obj := ⟨.none, none, (.func (hf 22 "_law_whole" "_law_whole" 0 [] .none .none .none .none none .none .none 0)), #[]⟩
noncomputable def k73 : Obj := hco [(hs "_law_whole" 334), (hs "_law_whole" 335), (hs "/claim/cut.py" 336), (.int 100 0), (.int 1 0), (.int 0 0), (.int 0 0), (.int 3 0), (.ref 124), (.bool true), (.int 181 0), (.ref 125), .none, (.ref 126), (.ref 127), (.ref 128), (.int 338 0), (.int 100 0), (hs "/claim/cut.py" 339)]
noncomputable def k74 : Obj := ⟨(.type "function"), none, (.func (hf 22 "_law_whole" "_law_whole" 3 [] .none .none .none (hs "law_uf040009_07" 313) none (.ref 129) .none 0)), #[]⟩
noncomputable def k75 : Obj := htu [(hs "_law_xs" 344), (hs "_law_weight" 345), (hs "_law_most" 346), (hs "_law_cap" 347), (hs "_law_many" 348), (hs "_law_tries" 349), (hs "_law_k" 350)]
noncomputable def k76 : Obj := ⟨.none, none, (.func (hf 23 "_law_task_by" "_law_task_by" 0 [] .none .none .none .none none .none .none 0)), #[]⟩
noncomputable def k77 : Obj := hco [(hs "_law_task_by" 341), (hs "_law_task_by" 342), (hs "/claim/cut.py" 343), (.int 102 0), (.int 1 0), (.int 0 0), (.int 0 0), (.int 3 0), (.ref 131), (.bool true), (.int 181 0), (.ref 132), .none, (.ref 133), (.ref 134), (.ref 135), (.int 351 0), (.int 102 0), (hs "/claim/cut.py" 352)]
noncomputable def k78 : Obj := ⟨(.type "function"), none, (.func (hf 23 "_law_task_by" "_law_task_by" 3 [] .none .none .none (hs "law_uf040009_07" 313) none (.ref 136) .none 0)), #[]⟩
noncomputable def k79 : Obj := ⟨.none, none, (.func (hf 24 "_law_part_by" "_law_part_by" 0 [] .none .none .none .none none .none .none 0)), #[]⟩
noncomputable def k80 : Obj := hco [(hs "_law_part_by" 354), (hs "_law_part_by" 355), (hs "/claim/cut.py" 356), (.int 113 0), (.int 2 0), (.int 0 0), (.int 0 0), (.int 3 0), (.ref 138), (.bool true), (.int 181 0), (.ref 139), .none, .none, .none, (.ref 140), (.int 357 0), (.int 113 0), (hs "/claim/cut.py" 358)]
noncomputable def k81 : Obj := ⟨(.type "function"), none, (.func (hf 24 "_law_part_by" "_law_part_by" 3 [] .none .none .none (hs "law_uf040009_07" 313) none (.ref 141) .none 0)), #[]⟩
noncomputable def k82 : Obj := ⟨.none, none, (.func (hf 25 "_law_course_by" "_law_course_by" 0 [] .none .none .none .none none .none .none 0)), #[]⟩
noncomputable def k83 : Obj := hco [(hs "_law_course_by" 360), (hs "_law_course_by" 361), (hs "/claim/cut.py" 362), (.int 124 0), (.int 3 0), (.int 0 0), (.int 0 0), (.int 3 0), (.ref 143), (.bool true), (.int 181 0), (.ref 144), .none, .none, .none, (.ref 145), (.int 363 0), (.int 124 0), (hs "/claim/cut.py" 364)]
noncomputable def k84 : Obj := ⟨(.type "function"), none, (.func (hf 25 "_law_course_by" "_law_course_by" 3 [] .none .none .none (hs "law_uf040009_07" 313) none (.ref 146) .none 0)), #[]⟩
noncomputable def k85 : Obj := htu [(hs "_law_task" 369), (hs "_law_best" 370), (hs "_law_k" 371), (hs "_law_points" 372)]
noncomputable def k86 : Obj := ⟨.none, none, (.func (hf 26 "_law_mark" "_law_mark" 0 [] .none .none .none .none none .none .none 0)), #[]⟩
noncomputable def k87 : Obj := hco [(hs "_law_mark" 366), (hs "_law_mark" 367), (hs "/claim/cut.py" 368), (.int 129 0), (.int 1 0), (.int 0 0), (.int 0 0), (.int 3 0), (.ref 148), (.bool true), (.int 181 0), (.ref 149), .none, (.ref 150), (.ref 151), (.ref 152), (.int 373 0), (.int 129 0), (hs "/claim/cut.py" 374)]
noncomputable def k88 : Obj := ⟨(.type "function"), none, (.func (hf 26 "_law_mark" "_law_mark" 3 [] .none .none .none (hs "law_uf040009_07" 313) none (.ref 153) .none 0)), #[]⟩
noncomputable def k89 : Obj := htu [(hs "_law_task" 379), (hs "_law_is_left" 380), (hs "_law_points" 381), (hs "_law_word" 382), (hs "_law_k" 383)]
noncomputable def k90 : Obj := ⟨.none, none, (.func (hf 27 "_law_row" "_law_row" 0 [] .none .none .none .none none .none .none 0)), #[]⟩
noncomputable def k91 : Obj := hco [(hs "_law_row" 376), (hs "_law_row" 377), (hs "/claim/cut.py" 378), (.int 138 0), (.int 2 0), (.int 0 0), (.int 0 0), (.int 3 0), (.ref 155), (.bool true), (.int 181 0), (.ref 156), .none, (.ref 157), (.ref 158), (.ref 159), (.int 384 0), (.int 138 0), (hs "/claim/cut.py" 385)]
noncomputable def k92 : Obj := ⟨(.type "function"), none, (.func (hf 27 "_law_row" "_law_row" 3 [] .none .none .none (hs "law_uf040009_07" 313) none (.ref 160) .none 0)), #[]⟩
noncomputable def k93 : Obj := htu [(hs "_law_row_here" 390), (hs "_law_thing" 391)]
noncomputable def k94 : Obj := ⟨.none, none, (.func (hf 28 "_law_kinds" "_law_kinds" 0 [] .none .none .none .none none .none .none 0)), #[]⟩
noncomputable def k95 : Obj := hco [(hs "_law_kinds" 387), (hs "_law_kinds" 388), (hs "/claim/cut.py" 389), (.int 147 0), (.int 1 0), (.int 0 0), (.int 0 0), (.int 3 0), (.ref 162), (.bool true), (.int 181 0), (.ref 163), .none, (.ref 164), (.ref 165), (.ref 166), (.int 392 0), (.int 147 0), (hs "/claim/cut.py" 393)]
noncomputable def k96 : Obj := ⟨(.type "function"), none, (.func (hf 28 "_law_kinds" "_law_kinds" 3 [] .none .none .none (hs "law_uf040009_07" 313) none (.ref 167) .none 0)), #[]⟩
noncomputable def s2T (P : Params) : BT := .node (boot_o_0 P) (.node (boot_o_1 P) (.node (k51 P) (.node (boot_o_7 P) (.node k0 (.node k14 (.node k33 (.node k0 .nil .nil) .nil) (.node k53 (.node k90 .nil .nil) .nil)) (.node k23 (.node k0 (.node k0 .nil .nil) .nil) (.node k1 .nil .nil))) (.node k1 (.node k0 (.node k0 (.node k76 .nil .nil) .nil) (.node k58 (.node k95 .nil .nil) .nil)) (.node k28 (.node k47 (.node k0 .nil .nil) .nil) (.node k67 .nil .nil)))) (.node k0 (.node k7 (.node k17 (.node k0 (.node k0 .nil .nil) .nil) (.node k1 (.node k1 .nil .nil) .nil)) (.node k1 (.node k0 (.node k84 .nil .nil) .nil) (.node k65 .nil .nil))) (.node k12 (.node k0 (.node k40 (.node k1 .nil .nil) .nil) (.node k60 .nil .nil)) (.node k30 (.node k49 (.node k0 .nil .nil) .nil) (.node k70 .nil .nil))))) (.node (boot_o_5 P) (.node (boot_o_9 P) (.node k6 (.node k15 (.node k1 (.node k73 .nil .nil) .nil) (.node k55 (.node k92 .nil .nil) .nil)) (.node k25 (.node k43 (.node k82 .nil .nil) .nil) (.node k0 .nil .nil))) (.node k0 (.node k20 (.node k38 (.node k78 .nil .nil) .nil) (.node k0 .nil .nil)) (.node k0 (.node k1 (.node k87 .nil .nil) .nil) (.node k68 .nil .nil)))) (.node k2 (.node k9 (.node k1 (.node k36 (.node k75 .nil .nil) .nil) (.node k0 (.node k0 .nil .nil) .nil)) (.node k0 (.node k45 (.node k1 .nil .nil) .nil) (.node k0 .nil .nil))) (.node k0 (.node k22 (.node k1 (.node k80 .nil .nil) .nil) (.node k62 .nil .nil)) (.node k31 (.node k0 (.node k89 .nil .nil) .nil) (.node k1 .nil .nil)))))) (.node (boot_o_2 P) (.node (boot_o_4 P) (.node (boot_o_8 P) (.node k1 (.node k0 (.node k0 (.node k72 .nil .nil) .nil) (.node k54 (.node k91 .nil .nil) .nil)) (.node k24 (.node k42 (.node k1 .nil .nil) .nil) (.node k63 .nil .nil))) (.node k10 (.node k19 (.node k1 (.node k77 .nil .nil) .nil) (.node k59 (.node k96 .nil .nil) .nil)) (.node k29 (.node k0 (.node k86 .nil .nil) .nil) (.node k0 .nil .nil)))) (.node k52 (.node k8 (.node k0 (.node k35 (.node k1 .nil .nil) .nil) (.node k56 (.node k93 .nil .nil) .nil)) (.node k26 (.node k1 (.node k0 .nil .nil) .nil) (.node k66 .nil .nil))) (.node k13 (.node k1 (.node k0 (.node k79 .nil .nil) .nil) (.node k61 .nil .nil)) (.node k0 (.node k50 (.node k1 .nil .nil) .nil) (.node k0 .nil .nil))))) (.node (boot_o_6 P) (.node (boot_o_10 P) (.node k0 (.node k16 (.node k34 (.node k74 .nil .nil) .nil) (.node k0 (.node k0 .nil .nil) .nil)) (.node k0 (.node k44 (.node k83 .nil .nil) .nil) (.node k64 .nil .nil))) (.node k11 (.node k21 (.node k39 (.node k0 .nil .nil) .nil) (.node k1 .nil .nil)) (.node k1 (.node k48 (.node k88 .nil .nil) .nil) (.node k69 .nil .nil)))) (.node k3 (.node k0 (.node k18 (.node k37 (.node k0 .nil .nil) .nil) (.node k57 (.node k94 .nil .nil) .nil)) (.node k27 (.node k46 (.node k85 .nil .nil) .nil) (.node k1 .nil .nil))) (.node k1 (.node k0 (.node k41 (.node k81 .nil .nil) .nil) (.node k0 .nil .nil)) (.node k32 (.node k1 (.node k0 .nil .nil) .nil) (.node k71 .nil .nil))))))
noncomputable def s2 (w : World) (os : OsState) : SharedT := ⟨s2T w.params, 169, hlife, #[], ⟨0, 0, 0, 0⟩, 395, os⟩
theorem h_g2 (w : World) : (fun os => segRunT treeTable PySem.Challenge.pw_uf040009_07 w 11 (some (.ref 6)) 1 376 (s1 w os) ⟨(execs hS2 hEnv).wrap doneF deadEnd id id, hC, ⟨51, 0, 62, 15⟩, hB⟩) = fun os => some (Flow.next, s2 w os, hC, ⟨147, 0, 153, 15⟩) := by rw [PySem.W.Fast.te10110043849684766642, PySem.W.Fast.te14364793385576792824, PySem.W.Fast.te12563942051412417395]; kernel_rfl
noncomputable def hS3 : List Stmt := ((behindTheImports PySem.Challenge.pw_uf040009_07).drop 29).take 2
noncomputable def k97 (P : Params) : Obj := ⟨(.type "dict"), none, (.dict #[he P "__name__" 165 (hs "law_uf040009_07" 313), he P "__doc__" 166 .none, he P "__package__" 167 .none, he P "__loader__" 168 (.builtin "__main__.__loader__#opaque"), he P "__spec__" 169 .none, he P "__annotations__" 170 (.ref 6), he P "__builtins__" 171 (.ref 4), he P "__file__" 173 (hs "/claim/cut.py" 172), he P "__cached__" 174 .none, he P "divisor_of" 197 (.ref 21), he P "share" 206 (.ref 28), he P "plus" 214 (.ref 35), he P "times" 223 (.ref 42), he P "less" 231 (.ref 49), he P "gives" 243 (.ref 56), he P "mark" 250 (.ref 63), he P "chosen" 258 (.ref 70), he P "marked" 266 (.ref 75), he P "choices_of" 277 (.ref 82), he P "mean" 283 (.ref 87), he P "left_out" 289 (.ref 92), he P "part_share" 295 (.ref 97), he P "row_of" 306 (.ref 104), he P "tale" 312 (.ref 109), he P "_law_cell_at" 322 (.ref 116), he P "_law_stream" 333 (.ref 123), he P "_law_whole" 340 (.ref 130), he P "_law_task_by" 353 (.ref 137), he P "_law_part_by" 359 (.ref 142), he P "_law_course_by" 365 (.ref 147), he P "_law_mark" 375 (.ref 154), he P "_law_row" 386 (.ref 161), he P "_law_kinds" 394 (.ref 168), he P "_law_told" 400 (.ref 173), he P "law" 411 (.ref 180)] 35), #[]⟩
noncomputable def k98 : Obj := hfl [(.int 2 0), (.int 0 0), (.ref 20), (.int 8 0), (.int 0 0), (.ref 27), (.int 11 0), (.int 0 0), (.ref 34), (.int 13 0), (.int 0 0), (.ref 41), (.int 15 0), (.int 0 0), (.ref 48), (.int 18 0), (.int 0 0), (.ref 55), (.int 26 0), (.int 0 0), (.ref 62), (.int 28 0), (.int 0 0), (.ref 69), (.int 34 0), (.int 0 0), (.ref 74), (.int 36 0), (.int 0 0), (.ref 81), (.int 44 0), (.int 0 0), (.ref 86), (.int 51 0), (.int 0 0), (.ref 91), (.int 63 0), (.int 0 0), (.ref 96), (.int 74 0), (.int 0 0), (.ref 103), (.int 81 0), (.int 0 0), (.ref 108), (.int 89 0), (.int 0 0), (.ref 115), (.int 93 0), (.int 0 0), (.ref 122), (.int 100 0), (.int 0 0), (.ref 129), (.int 102 0), (.int 0 0), (.ref 136), (.int 113 0), (.int 0 0), (.ref 141), (.int 124 0), (.int 0 0), (.ref 146), (.int 129 0), (.int 0 0), (.ref 153), (.int 138 0), (.int 0 0), (.ref 160), (.int 147 0), (.int 0 0), (.ref 167), (.int 154 0), (.int 0 0), (.ref 172), (.int 168 0), (.int 0 0), (.ref 179)]
noncomputable def k99 : Obj := ⟨.none, none, (.func (hf 29 "_law_told" "_law_told" 0 [] .none .none .none .none none .none .none 0)), #[]⟩
noncomputable def k100 : Obj := hco [(hs "_law_told" 395), (hs "_law_told" 396), (hs "/claim/cut.py" 397), (.int 154 0), (.int 2 0), (.int 0 0), (.int 0 0), (.int 3 0), (.ref 169), (.bool true), (.int 181 0), (.ref 170), .none, .none, .none, (.ref 171), (.int 398 0), (.int 154 0), (hs "/claim/cut.py" 399)]
noncomputable def k101 : Obj := ⟨(.type "function"), none, (.func (hf 29 "_law_told" "_law_told" 3 [] .none .none .none (hs "law_uf040009_07" 313) none (.ref 172) .none 0)), #[]⟩
noncomputable def k102 : Obj := htu [(hs "_law_script" 404), (hs "_law_course" 405), (hs "_law_handed" 406), (hs "_law_found" 407), (hs "_law_row_here" 408)]
noncomputable def k103 : Obj := ⟨.none, none, (.func (hf 30 "law" "law" 0 [] .none .none .none .none none .none .none 0)), #[]⟩
noncomputable def k104 : Obj := hco [(hs "law" 401), (hs "law" 402), (hs "/claim/cut.py" 403), (.int 168 0), (.int 1 0), (.int 0 0), (.int 0 0), (.int 3 0), (.ref 174), (.bool true), (.int 181 0), (.ref 175), .none, (.ref 176), (.ref 177), (.ref 178), (.int 409 0), (.int 168 0), (hs "/claim/cut.py" 410)]
noncomputable def k105 : Obj := ⟨(.type "function"), none, (.func (hf 30 "law" "law" 3 [] .none .none .none (hs "law_uf040009_07" 313) none (.ref 179) .none 0)), #[]⟩
noncomputable def s3T (P : Params) : BT := .node (boot_o_0 P) (.node (boot_o_1 P) (.node (k97 P) (.node (boot_o_7 P) (.node k0 (.node k14 (.node k33 (.node k0 .nil .nil) .nil) (.node k53 (.node k90 .nil .nil) .nil)) (.node k23 (.node k0 (.node k0 .nil .nil) .nil) (.node k1 (.node k1 .nil .nil) .nil))) (.node k1 (.node k0 (.node k0 (.node k76 .nil .nil) .nil) (.node k58 (.node k95 .nil .nil) .nil)) (.node k28 (.node k47 (.node k0 .nil .nil) .nil) (.node k67 .nil .nil)))) (.node k0 (.node k7 (.node k17 (.node k0 (.node k0 .nil .nil) .nil) (.node k1 (.node k1 .nil .nil) .nil)) (.node k1 (.node k0 (.node k84 .nil .nil) .nil) (.node k65 (.node k104 .nil .nil) .nil))) (.node k12 (.node k0 (.node k40 (.node k1 .nil .nil) .nil) (.node k60 (.node k99 .nil .nil) .nil)) (.node k30 (.node k49 (.node k0 .nil .nil) .nil) (.node k70 .nil .nil))))) (.node (boot_o_5 P) (.node (boot_o_9 P) (.node k6 (.node k15 (.node k1 (.node k73 .nil .nil) .nil) (.node k55 (.node k92 .nil .nil) .nil)) (.node k25 (.node k43 (.node k82 .nil .nil) .nil) (.node k0 (.node k0 .nil .nil) .nil))) (.node k0 (.node k20 (.node k38 (.node k78 .nil .nil) .nil) (.node k0 (.node k0 .nil .nil) .nil)) (.node k0 (.node k1 (.node k87 .nil .nil) .nil) (.node k68 .nil .nil)))) (.node k2 (.node k9 (.node k1 (.node k36 (.node k75 .nil .nil) .nil) (.node k0 (.node k0 .nil .nil) .nil)) (.node k0 (.node k45 (.node k1 .nil .nil) .nil) (.node k0 .nil .nil))) (.node k0 (.node k22 (.node k1 (.node k80 .nil .nil) .nil) (.node k62 (.node k101 .nil .nil) .nil)) (.node k31 (.node k0 (.node k89 .nil .nil) .nil) (.node k1 .nil .nil)))))) (.node (boot_o_2 P) (.node (boot_o_4 P) (.node (boot_o_8 P) (.node k1 (.node k0 (.node k0 (.node k72 .nil .nil) .nil) (.node k54 (.node k91 .nil .nil) .nil)) (.node k24 (.node k42 (.node k1 .nil .nil) .nil) (.node k63 (.node k102 .nil .nil) .nil))) (.node k10 (.node k19 (.node k1 (.node k77 .nil .nil) .nil) (.node k59 (.node k96 .nil .nil) .nil)) (.node k29 (.node k0 (.node k86 .nil .nil) .nil) (.node k0 .nil .nil)))) (.node k98 (.node k8 (.node k0 (.node k35 (.node k1 .nil .nil) .nil) (.node k56 (.node k93 .nil .nil) .nil)) (.node k26 (.node k1 (.node k0 .nil .nil) .nil) (.node k66 (.node k105 .nil .nil) .nil))) (.node k13 (.node k1 (.node k0 (.node k79 .nil .nil) .nil) (.node k61 (.node k100 .nil .nil) .nil)) (.node k0 (.node k50 (.node k1 .nil .nil) .nil) (.node k0 .nil .nil))))) (.node (boot_o_6 P) (.node (boot_o_10 P) (.node k0 (.node k16 (.node k34 (.node k74 .nil .nil) .nil) (.node k0 (.node k0 .nil .nil) .nil)) (.node k0 (.node k44 (.node k83 .nil .nil) .nil) (.node k64 (.node k103 .nil .nil) .nil))) (.node k11 (.node k21 (.node k39 (.node k0 .nil .nil) .nil) (.node k1 (.node k1 .nil .nil) .nil)) (.node k1 (.node k48 (.node k88 .nil .nil) .nil) (.node k69 .nil .nil)))) (.node k3 (.node k0 (.node k18 (.node k37 (.node k0 .nil .nil) .nil) (.node k57 (.node k94 .nil .nil) .nil)) (.node k27 (.node k46 (.node k85 .nil .nil) .nil) (.node k1 .nil .nil))) (.node k1 (.node k0 (.node k41 (.node k81 .nil .nil) .nil) (.node k0 (.node k0 .nil .nil) .nil)) (.node k32 (.node k1 (.node k0 .nil .nil) .nil) (.node k71 .nil .nil))))))
noncomputable def s3 (w : World) (os : OsState) : SharedT := ⟨s3T w.params, 181, hlife, #[], ⟨0, 0, 0, 0⟩, 412, os⟩
theorem h_g3 (w : World) : (fun os => segRunT treeTable PySem.Challenge.pw_uf040009_07 w 11 (some (.ref 6)) 1 60 (s2 w os) ⟨(execs hS3 hEnv).wrap doneF deadEnd id id, hC, ⟨147, 0, 153, 15⟩, hB⟩) = fun os => some (Flow.next, s3 w os, hC, ⟨168, 0, 178, 59⟩) := by rw [PySem.W.Fast.te10110043849684766642, PySem.W.Fast.te14364793385576792824, PySem.W.Fast.te12563942051412417395]; kernel_rfl
noncomputable def sFH (P : Params) : Heap := ⟨#[(boot_o_0 P), (boot_o_1 P), (boot_o_2 P), (k97 P), (boot_o_4 P), (boot_o_5 P), (boot_o_6 P), (boot_o_7 P), (boot_o_8 P), (boot_o_9 P), (boot_o_10 P), k0, k98, k2, k3, k0, k1, k6, k0, k7, k8, k9, k0, k1, k10, k0, k11, k12, k13, k0, k1, k14, k0, k15, k16, k17, k0, k1, k18, k0, k19, k20, k21, k0, k1, k22, k0, k23, k24, k25, k0, k1, k26, k0, k27, k28, k29, k0, k1, k30, k0, k31, k32, k33, k0, k1, k34, k0, k35, k36, k37, k0, k1, k38, k39, k40, k0, k1, k41, k0, k42, k43, k44, k0, k1, k45, k46, k47, k0, k1, k48, k49, k50, k0, k1, k53, k54, k55, k0, k1, k56, k0, k57, k58, k59, k0, k1, k60, k61, k62, k0, k1, k63, k0, k64, k65, k66, k0, k1, k67, k0, k68, k69, k70, k0, k1, k71, k0, k72, k73, k74, k0, k1, k75, k0, k76, k77, k78, k0, k1, k79, k80, k81, k0, k1, k82, k83, k84, k0, k1, k85, k0, k86, k87, k88, k0, k1, k89, k0, k90, k91, k92, k0, k1, k93, k0, k94, k95, k96, k0, k1, k99, k100, k101, k0, k1, k102, k0, k103, k104, k105], hlife⟩
noncomputable def sF (w : World) (os : OsState) : Shared := ⟨sFH w.params, #[], ⟨0, 0, 0, 0⟩, 412, os⟩
theorem h_fin (w : World) : (fun os => topRun treeTable PySem.Challenge.pw_uf040009_07 w 11 (some (.ref 6)) 2 (s3 w os).abs ⟨doneF .next, hC, ⟨168, 0, 178, 59⟩, hB⟩) = fun os => some (sF w os) := by rw [PySem.W.Fast.te14082659384304107361, PySem.W.Fast.te14364793385576792824]; kernel_rfl
theorem h_cat : hS1 ++ (hS2 ++ (hS3 ++ ([]))) = behindTheImports PySem.Challenge.pw_uf040009_07 := by kernel_rfl
theorem h_run (w : World) (os : OsState) : topRun treeTable PySem.Challenge.pw_uf040009_07 w 11 (some (.ref 6)) (12 + (1 + (383 + (376 + (60 + 2))))) ⟨boot_heap w.params, #[], boot_drawn, boot_toks, os⟩ (topStub PySem.Challenge.pw_uf040009_07) = some (sF w os) :=
  go_top (congrFun (h_pre w) os) (piece_block (env := hEnv) (congrFun (h_blk w) os) (h_cat ▸ (piece_app (l := hS1) (segRun_of (congrFun (h_g1 w) os)) (piece_app (l := hS2) (segRun_of (congrFun (h_g2 w) os)) (piece_app (l := hS3) (segRun_of (congrFun (h_g3 w) os)) (piece_nil (congrFun (h_fin w) os)))))))
noncomputable def hQ : Program := PySem.W.view PySem.Challenge.pw_uf040009_07 [1, 2, 3, 4, 5, 7, 8, 9, 11, 12, 13, 14, 15, 17, 18, 20, 21, 22, 23, 24, 25, 26, 27, 28, 29, 30]
noncomputable def hL : List Str := []
noncomputable def hMods : List Str := importedModules PySem.Challenge.pw_uf040009_07.main.body
theorem h_l0 (w : World) (os : OsState) : (staticsOk hMods (boot_heap w.params) (sFH w.params) && namesBound PySem.Challenge.pw_uf040009_07 (sFH w.params) && gensDone (sF w os) && laidKept (boot_heap w.params) (sFH w.params)) = true := by kernel_rfl
theorem h_l1 (w : World) (os : OsState) : seen ((recsOf hQ).map (·.name)) (ownsOf hQ) [] { sF w os with gens := #[] } = expectedOf hQ := by rw [PySem.W.Fast.te5160383126252970620, PySem.W.Fast.te3399658132070893891, PySem.W.Fast.te5991557255702980513, PySem.W.R.mapR_eq]; kernel_rfl
theorem h_l2 (w : World) (os : OsState) : (sF w os).heap.bltView = bltViewBooted := by kernel_rfl
theorem h_l3 (w : World) (os : OsState) : ((sF w os).heap.keysOk (looseW hQ hL) ((recsOf hQ).map (·.name)) ((litsOf hQ).map (·.1)) ((clssOf hQ (looseW hQ hL)).map (·.name)) && (sF w os).heap.accountedOkI hMods && (sF w os).heap.isNs mainGlobals && (sF w os).heap.isNs builtinsNs && tablesOk hQ (sF w os).heap && (fun s => xlAt hQ [] s && recOk [] s) (sF w os) && (if true then (sF w os).gens.size == 0 else !leftWithCleanup (sF w os).gens)) = true := by rw [PySem.W.Fast.te10880121769531294198, PySem.W.Fast.te821141287760084731, PySem.W.Fast.te3399658132070893891, PySem.W.Fast.te7409074990110511671, PySem.W.Fast.te13664370479719496447, PySem.W.Fast.te14722251495701143533, PySem.W.Fast.te10994771534591457954, PySem.W.R.mapR_eq]; kernel_rfl
theorem h_l4 (w : World) (os : OsState) : tabsOk hQ (sF w os) = true := by rw [PySem.W.Fast.te479339242167458305]; kernel_rfl
theorem h_l5 (w : World) (os : OsState) : pinSeenD hQ (drecsOf hQ) (sF w os) = pinGoodD (drecsOf hQ) := by rw [PySem.W.Fast.te16090120013241838585, PySem.W.Fast.te3247288618530077131]; kernel_rfl
theorem h_l6 (w : World) (os : OsState) : plainSeenE hQ (looseW hQ hL) (sF w os) = plainGoodE hQ (looseW hQ hL) := by rw [PySem.W.Fast.te2386780881361962483, PySem.W.Fast.te821141287760084731]; kernel_rfl
theorem h_l7 (w : World) (os : OsState) : plainSeenD hQ hL (sF w os) = plainGoodD hQ hL := by rw [PySem.W.Fast.te11698064438423848299]; kernel_rfl
theorem h_l8 (w : World) (os : OsState) : wideSeen hQ (sF w os) = wideGood hQ := by rw [PySem.W.Fast.te7317090234206586261]; kernel_rfl
theorem h_l9 (w : World) (os : OsState) : clsSeenW hQ hL (sF w os) = clsGoodW hQ hL := by rw [PySem.W.Fast.te7369524293546568484]; kernel_rfl
theorem h_size (w : World) : ((boot_heap w.params).isNs mainGlobals && (#[] : Array GenState).size == 0, (boot_heap w.params).objs.size, (boot_heap w.params).nsMap mainGlobals "__annotations__") = (true, 11, (some (.ref 6))) := by kernel_rfl
theorem h_said : OpenLaw.wellSaid PySem.Challenge.rw_uf040009_07 = true := by rw [PySem.W.Fast.te9446332074065402090]; kernel_rfl
theorem h_left : LeftO PySem.Challenge.pw_uf040009_07 hQ hL (fun s => xlAt hQ [] s && recOk [] s) (fun _ => ()) (fun _ => ()) 1758 :=
  LeftO.of_pieces (H₀ := boot_heap) (H₁ := sFH) (gs₀ := #[]) (gs₁ := #[]) (d₀ := boot_drawn) (d₁ := ⟨0, 0, 0, 0⟩) (k₀ := boot_toks) (k₁ := 412) (boot_open (by kernel_rfl) (by decide) (fun _ => rfl)) h_size h_run (by decide)
    fun w => funext fun os => looks_pair (h_l0 w os) (looks_pair (looks_pair (h_l1 w os) (looks_pair (h_l2 w os) (looks_pair (h_l3 w os) (looks_pair (h_l4 w os) (looks_pair (h_l5 w os) (looks_pair (h_l6 w os) (looks_pair (h_l7 w os) (looks_pair (h_l8 w os) (h_l9 w os))))))))) rfl)
noncomputable def hD : DefRec := ⟨Str.ofString "law", (hd 30).1, (hd 30).2.1, (hd 30).2.2, (match (PySem.Challenge.pw_uf040009_07.main.body : List Stmt)[30]? with | some (Stmt.FunctionDef _ _ _ _ _ _ _ _ _ q) => q | _ => default)⟩
theorem h_def : defOf hQ PySem.Challenge.rw_uf040009_07.row.name = some (hD, []) := by kernel_rfl
theorem h_the : PySem.Challenge.pw_uf040009_07.theDef PySem.Challenge.rw_uf040009_07.row.name = some (hD.params, hD.body, hD.scope) := by kernel_rfl
theorem h_kw : kwWritten? hD.params.kwonlyargs hD.params.kw_defaults = some [] := by kernel_rfl
theorem h_ok : (chainsOk hQ && opensWell PySem.Challenge.pw_uf040009_07 && (frees PySem.Challenge.rw_uf040009_07.row.toRowW && PySem.Challenge.rw_uf040009_07.row.within.isEmpty)) = true := by kernel_rfl
theorem h_tab : law7Of hQ (looseW hQ hL) (Str.ofString "law") (Str.ofString "_law_script") (Str.ofString "_law_course") (Str.ofString "_law_handed") (Str.ofString "_law_found") (Str.ofString "_law_row_here") = some (f_law_p1, f_law_p2, f_law_p3, f_law_e1, f_law_e2) := by kernel_rfl
end
end Mine
open PySem PySem.W PyProof.Rows
set_option maxRecDepth 100000 in
set_option maxHeartbeats 8000000 in
theorem PySem.Challenge.cw_uf040009_07_holds : PySem.Challenge.rw_uf040009_07.Holds := by
  refine holds_law Mine.h_said fun said => ?_
  refine holds_openX (q := Mine.hQ) (loose := Mine.hL) (Xt := fun s => xlAt Mine.hQ [] s && recOk [] s) (XP := XL Mine.hQ []) (Yf := fun _ => ()) (Ya := fun _ => ()) (d := Mine.hD) (kwd := []) (N := 1758) Mine.h_left (fun s e => xl_of s (Bool.and_eq_true_iff.mp e).1) XL.keeps Mine.h_def Mine.h_the Mine.h_kw (fun s e => recFacts_of (Bool.and_eq_true_iff.mp e).2) rfl said Mine.h_ok ⟨rfl, rfl, rfl, rfl, rfl, by decide +kernel⟩ ?hw ?hc
  case hw => w_witness2
  intro w s₀ s₁ mg mb G y fa o pm cd doc dV kV ho hd hcd hD hmg hg args vals as L hpre hlay hrd hwl hlo
  refine Ground.open G ?_
  intro T B D TE TW
  clear hd hcd hD ho
  wrow_args hpre hlay hrd hwl hlo
  rename_i ns _ _ _ _ _ _ _ a vs _ hL _ _ _ hI _ hlen _
  have hobj := X.script_obj L hL
  have hlen' : ns.length ≤ 63 := by omega
  refine wpAny_mono (Mine.run_law7 (f := Str.ofString "law") T hmg hobj hI Mine.h_tab 74 (by decide) (Mine.law_c2 (n := 0)) (Mine.law_e1 (n := 0)) (Mine.law_e2 (n := 0)) (Mine.law_ok (n := 0) hlen' (by kernel_rfl) (by kernel_rfl) (by kernel_rfl) (by kernel_rfl) (by kernel_rfl) (by kernel_rfl) (by kernel_rfl) (by kernel_rfl) (by kernel_rfl) (by kernel_rfl) (by kernel_rfl) (by kernel_rfl) (by kernel_rfl) (by kernel_rfl) (by kernel_rfl) (by kernel_rfl) (by kernel_rfl) (by kernel_rfl) (by kernel_rfl) (by kernel_rfl) (by kernel_rfl) (by kernel_rfl) (by kernel_rfl) (by kernel_rfl) (by kernel_rfl) )) (fun v s' q => ?_) fun _ _ x => x.elim
  obtain ⟨rfl, k⟩ := q
  obtain ⟨h', tk, rfl, kk⟩ := k
  refine GoodW.toG ⟨.inl ⟨.bool true, ofPy (.bool true), [], rfl, fun _ => rfl, .bool true, (by first | kernel_rfl | with_unfolding_all rfl), fun _ => ⟨List.nodup_nil, fun _ m => nomatch m⟩⟩, kk, rfl, hg⟩

