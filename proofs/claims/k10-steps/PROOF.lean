import PyProof.Rows.All
import HandS.ForExc
import HandS.Iter
import HandS.Dict
import HandS.DictComp
import HandS.Comp
import HandS.Deep
import HandS.NoneIn
import HandS.More
import HandS.IsInst
import HandS.Wide
import HandS.TupAny
import HandS.Strs
import HandS.SetKeys
import HandS.TryOnly
import HandS.ExcIs
import HandS.ExcInit
import HandS.ExcField
import KE.KDictKeyed
import PyProof.StrLawsRepr
import PyProof.FitsInt
import HandS.SortInts
import HandS.WordsDict
import HandS.Style
import HandS.ExcOwn
import HandS.Small
import KE.KExcIs
import HandS.Ends
import HandS.HeadEnd
import HandS.HeadHook1
import HandS.HeadHook2
import HandS.Head2
import HandS.HeadWalk
import HandS.Words
import PyProof.ExcBaseAll.ValueError
import PyProof.ReprRoads
import HandS.FStrTup
import HandS.Conv
import HandS.SetFor
import PyProof.DictUpdate
import PyProof.Rows.StrMeet
import PySem.Challenge.RW_flatsheaves_k10_rewriting_steps
/-! Fl: the mirror language: trees, cells, a small store; what a piece of the text computes, as plain functions. No library. -/
namespace Fl
/-- the longest list -/
abbrev L : Nat := 16777216
inductive Key where
  | i (n : Int)
  | s (x : String)
  deriving DecidableEq
/-- data: trees -/
inductive T where
  | non
  | bl (b : Bool)
  | int (i : Int)
  | str (x : String)
  | tup (xs : List T)
  | lst (xs : List T)
  | dct (kvs : List (Key × T))
  /-- the text repr(d) -/
  | rp (d : T)
  deriving Inhabited
structure Exc where
  cls : String
  at_ : Option T := none
inductive Val where
  | t (d : T)
  | loc (n : Nat)
  /-- the script -/
  | scr (ns : List Int)
  | ex (x : Exc)
  deriving Inhabited
inductive Cell where
  | lst (vs : List Val)
  | tup (vs : List Val)
  | dct (kvs : List (Key × Val))
  | ins (c : String) (fs : List (String × Val))
  | kd (kvs : List (T × Val))
abbrev Store := List (Option Cell)
abbrev Env := List (Option Val)
inductive R (α : Type) where
  | ok (a : α) (s : Store)
  | exc (x : Exc) (s : Store)
  | bad
abbrev M (α : Type) := Store → R α
/-- a piece that gives a, then k -/
@[inline] def R.bind {α β : Type} (r : R α) (k : α → M β) : R β := match r with
  | .ok a s => k a s
  | .exc x s => .exc x s
  | .bad => .bad
def M.bind {α β : Type} (m : M α) (k : α → M β) : M β := fun s => (m s).bind k
def M.pure {α : Type} (a : α) : M α := fun s => .ok a s
def bad {α : Type} : M α := fun _ => .bad
instance : Monad M where
  pure := M.pure
  bind := M.bind
theorem bind_eq {α β : Type} (m : M α) (k : α → M β) (s : Store) : (m >>= k) s = (m s).bind k := rfl
theorem pure_eq {α : Type} (a : α) (s : Store) : (pure a : M α) s = .ok a s := rfl
theorem bind_ok {α β : Type} (a : α) (s : Store) (k : α → M β) : (R.ok a s).bind k = k a s := rfl
/-! ### trees -/
mutual
def T.beq : T → T → Bool
  | .non, .non => true
  | .bl a, .bl b => a == b
  | .int a, .int b => a == b
  | .str a, .str b => a == b
  | .tup a, .tup b => T.beqs a b
  | .lst a, .lst b => T.beqs a b
  | .dct a, .dct b => T.beqk a b
  | .rp a, .rp b => T.beq a b
  | _, _ => false
def T.beqs : List T → List T → Bool
  | [], [] => true
  | a :: r, b :: q => T.beq a b && T.beqs r q
  | _, _ => false
def T.beqk : List (Key × T) → List (Key × T) → Bool
  | [], [] => true
  | a :: r, b :: q => T.beqp a b && T.beqk r q
  | _, _ => false
def T.beqp : Key × T → Key × T → Bool
  | (k, a), (l, b) => decide (k = l) && T.beq a b
end
/-- what == may be asked of: no dicts, no reprs, not too deep -/
def T.plain : Nat → T → Bool
  | _, .non => true
  | _, .bl _ => true
  | _, .int _ => true
  | _, .str _ => true
  | n + 1, .tup a => a.all (T.plain n)
  | n + 1, .lst a => a.all (T.plain n)
  | _, _ => false
def T.flat : T → Bool
  | .non => true
  | .bl _ => true
  | .int _ => true
  | .str _ => true
  | _ => false
mutual
/-- at least the length of the text repr(d) -/
def T.rlen : T → Nat
  | .non => 4
  | .bl _ => 5
  | .int i => if 0 ≤ i ∧ i < 1000000 then 6 else if i.natAbs < 2 ^ 64 then 70 else L + 1
  | .str x => 10 * x.length + 2
  | .tup a => T.rlens a + 3
  | .lst a => T.rlens a + 3
  | _ => L + 1
def T.rlens : List T → Nat
  | [] => 0
  | a :: r => T.rlen a + 2 + T.rlens r
end
mutual
def T.eqv : T → T → Bool
  | .non, .non => true
  | .bl a, .bl b => a == b
  | .bl a, .int j => (if a then 1 else 0) == j
  | .int i, .bl b => i == (if b then 1 else 0)
  | .int a, .int b => a == b
  | .str a, .str b => a == b
  | .tup a, .tup b => T.eqvs a b
  | .lst a, .lst b => T.eqvs a b
  | _, _ => false
def T.eqvs : List T → List T → Bool
  | [], [] => true
  | a :: r, b :: q => T.eqv a b && T.eqvs r q
  | _, _ => false
end
def T.eq? (a b : T) : Option Bool := match a, b with
  | .rp c, .rp d => if T.beq c d then some true else none
  | a, b => if T.plain 60 a && T.plain 60 b then some (T.eqv a b) else none
/-- the place that a Python index means -/
def pyIx (n : Nat) (i : Int) : Option Nat :=
  if 0 ≤ i then (if i < n then some i.toNat else none) else if -(n : Int) ≤ i then some (i + n).toNat else none
/-- a bound of a slice -/
def pyCut (n d : Nat) : Option Int → Nat
  | none => d
  | some i => if i < 0 then (i + n).toNat else min i.toNat n
def slice {α : Type} (xs : List α) (a b : Option Int) : List α := (xs.drop (pyCut xs.length 0 a)).take (pyCut xs.length xs.length b - pyCut xs.length 0 a)
/-! ### reading cells -/
def Store.cell (s : Store) (n : Nat) : Option Cell := (s[n]?).join
def items (v : Val) : M (List Val) := fun s => match v with
  | .scr ns => .ok (ns.map fun i => .t (.int i)) s
  | .t (.lst ts) => .ok (ts.map .t) s
  | .t (.tup ts) => .ok (ts.map .t) s
  | .loc n => match s.cell n with
    | some (.lst vs) => .ok vs s
    | some (.tup vs) => .ok vs s
    | _ => .bad
  | _ => .bad
/-- the items of a list alone -/
def itemsL (v : Val) : M (List Val) := fun s => match v with
  | .t (.lst ts) => .ok (ts.map .t) s
  | .loc n => match s.cell n with
    | some (.lst vs) => .ok vs s
    | _ => .bad
  | _ => .bad
def dictOf (v : Val) : M (List (Key × Val)) := fun s => match v with
  | .t (.dct kvs) => .ok (kvs.map fun p => (p.1, .t p.2)) s
  | .loc n => match s.cell n with
    | some (.dct kvs) => .ok kvs s
    | _ => .bad
  | _ => .bad
/-- the trees among values, if all are -/
def trees : List Val → Option (List T)
  | [] => some []
  | .t d :: r => match trees r with
    | some q => some (d :: q)
    | none => none
  | _ :: _ => none
def treesK : List (Key × Val) → Option (List (Key × T))
  | [] => some []
  | (k, .t d) :: r => match treesK r with
    | some q => some ((k, d) :: q)
    | none => none
  | _ :: _ => none
theorem trees_map (ts : List T) : trees (ts.map .t) = some ts := by
  induction ts with
  | nil => rfl
  | cons d r ih => simp [trees, ih]
/-- a new list: a tree, or a cell -/
def newL (cell : Bool) (vs : List Val) : M Val := fun s => match cell with
  | true => .ok (.loc s.length) (s ++ [some (.lst vs)])
  | false => match trees vs with
    | some ts => .ok (.t (.lst ts)) s
    | none => .bad
def newT (cell : Bool) (vs : List Val) : M Val := fun s => match cell with
  | true => .ok (.loc s.length) (s ++ [some (.tup vs)])
  | false => match trees vs with
    | some ts => .ok (.t (.tup ts)) s
    | none => .bad
def newD (cell : Bool) (kvs : List (Key × Val)) : M Val := fun s => match cell with
  | true => .ok (.loc s.length) (s ++ [some (.dct kvs)])
  | false => match treesK kvs with
    | some ts => .ok (.t (.dct ts)) s
    | none => .bad
/-- a cell becomes a tree; it is written no more -/
def freeze (v : Val) : M Val := fun s => match v with
  | .t d => .ok (.t d) s
  | .loc n => match s.cell n with
    | some (.lst vs) => match trees vs with
      | some ts => .ok (.t (.lst ts)) (s.set n none)
      | none => .bad
    | some (.tup vs) => match trees vs with
      | some ts => .ok (.t (.tup ts)) (s.set n none)
      | none => .bad
    | some (.dct kvs) => match treesK kvs with
      | some ts => .ok (.t (.dct ts)) (s.set n none)
      | none => .bad
    | _ => .bad
  | _ => .bad
def getInt (v : Val) : M Int := fun s => match v with
  | .t (.int i) => .ok i s
  | _ => .bad
def getB (v : Val) : M Bool := fun s => match v with
  | .t (.bl b) => .ok b s
  | _ => .bad
def vI (i : Int) : Val := .t (.int i)
def vB (b : Bool) : Val := .t (.bl b)
def vS (x : String) : Val := .t (.str x)
def vN : Val := .t .non
mutual
/-- the tree that a value stands for, through cells -/
def deep (s : Store) : Nat → Val → Option T
  | _, .t d => some d
  | 0, _ => none
  | f + 1, .loc n => match s.cell n with
    | some (.lst vs) => match deeps s f vs with
      | some ts => some (.lst ts)
      | none => none
    | some (.tup vs) => match deeps s f vs with
      | some ts => some (.tup ts)
      | none => none
    | _ => none
  | _, _ => none
def deeps (s : Store) : Nat → List Val → Option (List T)
  | _, [] => some []
  | 0, _ :: _ => none
  | f + 1, v :: r => match deep s f v with
    | some d => match deeps s f r with
      | some ts => some (d :: ts)
      | none => none
    | none => none
end
/-- deep enough -/
abbrev deepMax : Nat := 1000000000
def eqV (a b : Val) : M Bool := fun s => match a, b with
  | .t c, .t d => match T.eq? c d with
    | some r => .ok r s
    | none => .bad
  | a, b => match deep s deepMax a, deep s deepMax b with
    | some c, some d => match T.eq? c d with
      | some r => .ok r s
      | none => .bad
    | _, _ => .bad
/-! ### operators -/
def addV (cell : Bool) (a b : Val) : M Val := fun s => match a, b with
  | .t (.int i), .t (.int j) => .ok (vI (i + j)) s
  | .t (.str x), .t (.str y) => if x.length + y.length ≤ L then .ok (vS (x ++ y)) s else .bad
  | .t (.tup x), .t (.tup y) => if x.length + y.length ≤ L then .ok (.t (.tup (x ++ y))) s else .bad
  | a, b => ((itemsL a) >>= fun x => (itemsL b) >>= fun y => if x.length + y.length ≤ L then newL cell (x ++ y) else bad) s
def subV (a b : Val) : M Val := fun s => match a, b with
  | .t (.int i), .t (.int j) => .ok (vI (i - j)) s
  | _, _ => .bad
/-- a bound; the kernel does not reckon it -/
noncomputable def cdec (p : Prop) : Bool := @decide p (Classical.propDecidable p)
@[simp] theorem cdec_iff {p : Prop} : (cdec p = true) = p := by unfold cdec; simp
/-- products: one factor below 2 ^ 64 -/
noncomputable def mulOk (i j : Int) : Bool := (cdec (-(2 ^ 64) < i) && cdec (i < 2 ^ 64)) || (cdec (-(2 ^ 64) < j) && cdec (j < 2 ^ 64))
noncomputable def mulV (cell : Bool) (a b : Val) : M Val := fun s => match a, b with
  | .t (.int i), .t (.int j) => if mulOk i j then .ok (vI (i * j)) s else .bad
  | a, .t (.int k) => ((itemsL a) >>= fun x => if k < 2 ^ 62 ∧ -(2 ^ 62) < k ∧ x.length * k.toNat ≤ L then newL cell (List.replicate k.toNat x).flatten else bad) s
  | _, _ => .bad
noncomputable def fdivOk (i j : Int) : Bool := decide (j ≠ 0) && cdec (j.natAbs < 2 ^ 62)
noncomputable def fdivV (a b : Val) : M Val := fun s => match a, b with
  | .t (.int i), .t (.int j) => if fdivOk i j then .ok (vI (i.fdiv j)) s else .bad
  | _, _ => .bad
def modV (a b : Val) : M Val := fun s => match a, b with
  | .t (.int i), .t (.int j) => if j ≠ 0 then .ok (vI (i.fmod j)) s else .bad
  | _, _ => .bad
def negV (a : Val) : M Val := fun s => match a with
  | .t (.int i) => .ok (vI (-i)) s
  | _ => .bad
def ltV (f : Int → Int → Bool) (a b : Val) : M Bool := fun s => match a, b with
  | .t (.int i), .t (.int j) => .ok (f i j) s
  | _, _ => .bad
def isNone : Val → Bool
  | .t .non => true
  | _ => false
def keyOf : Val → Option Key
  | .t (.int i) => some (.i i)
  | .t (.str x) => some (.s x)
  | _ => none
def dget {α : Type} (kvs : List (Key × α)) (k : Key) : Option α := match kvs with
  | [] => none
  | (l, v) :: r => if l = k then some v else dget r k
def dput {α : Type} (kvs : List (Key × α)) (k : Key) (v : α) : List (Key × α) :=
  if kvs.any (fun p => decide (p.1 = k)) then kvs.map fun p => if p.1 = k then (p.1, v) else p else kvs ++ [(k, v)]
def dmerge {α : Type} (d more : List (Key × α)) : List (Key × α) := more.foldl (fun d p => dput d p.1 p.2) d
def dpop {α : Type} (kvs : List (Key × α)) (k : Key) : List (Key × α) := kvs.filter fun p => decide (p.1 ≠ k)
/-- in a dict with tuples as keys -/
def tget {α : Type} (kvs : List (T × α)) (k : T) : Option α := match kvs with
  | [] => none
  | (l, v) :: r => if T.eqv l k then some v else tget r k
def tput {α : Type} (kvs : List (T × α)) (k : T) (v : α) : List (T × α) :=
  if (tget kvs k).isSome then kvs.map fun p => if T.eqv p.1 k then (p.1, v) else p else kvs ++ [(k, v)]
mutual
/-- what may be such a key, no deeper than n -/
def T.hsh : Nat → T → Bool
  | _, .non => true
  | _, .bl _ => true
  | _, .int _ => true
  | _, .str _ => true
  | n + 1, .tup a => T.hshs n a
  | _, _ => false
def T.hshs : Nat → List T → Bool
  | _, [] => true
  | n, a :: r => T.hsh n a && T.hshs n r
end
def T.isTup : T → Bool
  | .tup _ => true
  | _ => false
/-- what stands in a list -/
def inT (x : T) (ts : List T) : Bool := ts.any fun y => T.eqv y x
def inV (x c : Val) : M Bool := fun s => match c with
  | .t (.dct kvs) => match keyOf x with
    | some k => .ok (dget kvs k).isSome s
    | none => .bad
  | .t (.lst ts) => match x with
    | .t d => if T.plain 60 d && ts.all (T.plain 60) then .ok (inT d ts) s else .bad
    | _ => .bad
  | .t (.tup ts) => match x with
    | .t d => if T.flat d && ts.all T.flat then .ok (inT d ts) s else .bad
    | _ => .bad
  | .loc n => match s.cell n with
    | some (.dct kvs) => match keyOf x with
      | some k => .ok (dget kvs k).isSome s
      | none => .bad
    | some (.lst vs) => match x, trees vs with
      | .t d, some ts => if T.plain 60 d && ts.all (T.plain 60) then .ok (inT d ts) s else .bad
      | _, _ => .bad
    | _ => .bad
  | _ => .bad
def subI (v i : Val) : M Val := fun s => match v with
  | .t (.str x) => match i with
    | .t (.int k) => match pyIx x.length k with
      | some n => match x.toList[n]? with
        | some c => if x.length ≤ L then .ok (vS (String.singleton c)) s else .bad
        | none => .bad
      | none => .bad
    | _ => .bad
  | .t (.dct kvs) => match keyOf i with
    | some k => match dget kvs k with
      | some d => .ok (.t d) s
      | none => .bad
    | none => .bad
  | .t (.lst ts) => match i with
    | .t (.int k) => match pyIx ts.length k with
      | some n => match ts[n]? with
        | some d => .ok (.t d) s
        | none => .bad
      | none => .bad
    | _ => .bad
  | .t (.tup ts) => match i with
    | .t (.int k) => match pyIx ts.length k with
      | some n => match ts[n]? with
        | some d => .ok (.t d) s
        | none => .bad
      | none => .bad
    | _ => .bad
  | .loc n => match s.cell n with
    | some (.dct kvs) => match keyOf i with
      | some k => match dget kvs k with
        | some d => .ok d s
        | none => .bad
      | none => .bad
    | some (.lst vs) => match i with
      | .t (.int k) => match pyIx vs.length k with
        | some n => match vs[n]? with
          | some d => .ok d s
          | none => .bad
        | none => .bad
      | _ => .bad
    | some (.tup vs) => match i with
      | .t (.int k) => match pyIx vs.length k with
        | some n => match vs[n]? with
          | some d => .ok d s
          | none => .bad
        | none => .bad
      | _ => .bad
    | _ => .bad
  | _ => .bad
/-- a slice of a list or a tuple; a new list's kind by cell -/
def sliceV (cell : Bool) (v : Val) (a b : Option Int) : M Val := fun s => match v with
  | .t (.tup ts) => if pyCut ts.length 0 a = 0 ∧ pyCut ts.length ts.length b = ts.length then .bad else .ok (.t (.tup (slice ts a b))) s
  | v => (itemsL v >>= fun vs => newL cell (slice vs a b)) s
def lenV (v : Val) : M Val := fun s => match v with
  | .t (.lst ts) => .ok (vI ts.length) s
  | .t (.tup ts) => .ok (vI ts.length) s
  | .t (.dct ts) => .ok (vI ts.length) s
  | .loc n => match s.cell n with
    | some (.lst vs) => .ok (vI vs.length) s
    | some (.tup vs) => .ok (vI vs.length) s
    | some (.dct vs) => .ok (vI vs.length) s
    | _ => .bad
  | _ => .bad
/-! ### built-ins -/
def intV (v : Val) : M Val := fun s => match v with
  | .t (.int i) => .ok (vI i) s
  | .t (.bl b) => .ok (vI (if b then 1 else 0)) s
  | _ => .bad
def absV (v : Val) : M Val := fun s => match v with
  | .t (.int i) => .ok (vI (if i < 0 then -i else i)) s
  | _ => .bad
def max2 (a b : Val) : M Val := fun s => match a, b with
  | .t (.int i), .t (.int j) => .ok (vI (if j > i then j else i)) s
  | _, _ => .bad
def min2 (a b : Val) : M Val := fun s => match a, b with
  | .t (.int i), .t (.int j) => .ok (vI (if j < i then j else i)) s
  | _, _ => .bad
def intsOf : List Val → Option (List Int)
  | [] => some []
  | .t (.int i) :: r => match intsOf r with
    | some q => some (i :: q)
    | none => none
  | _ :: _ => none
theorem ints_map (ns : List Int) : intsOf (ns.map vI) = some ns := by
  induction ns with
  | nil => rfl
  | cons d r ih => simp only [List.map_cons, vI] at *; simp only [intsOf, ih]
def sumV (v : Val) : M Val := (itemsL v) >>= fun vs s => match intsOf vs with
  | some ns => .ok (vI ns.sum) s
  | none => .bad
def maxL : List Int → Option Int
  | [] => none
  | x :: r => some (r.foldl (fun a b => if b > a then b else a) x)
def maxV (v : Val) : M Val := (itemsL v) >>= fun vs s => match intsOf vs with
  | some ns => match maxL ns with
    | some m => .ok (vI m) s
    | none => .bad
  | none => .bad
/-- what is walked: a tree, the script -/
def iterOf (v : Val) : M (List Val) := fun s => match v with
  | .scr ns => .ok (ns.map vI) s
  | .t (.lst ts) => .ok (ts.map .t) s
  | .t (.tup ts) => .ok (ts.map .t) s
  | _ => .bad
def enumT : Nat → List T → List Val
  | _, [] => []
  | n, d :: r => .t (.tup [.int n, d]) :: enumT (n + 1) r
def boolsOf : List Val → Option (List Bool)
  | [] => some []
  | .t (.bl b) :: r => match boolsOf r with
    | some q => some (b :: q)
    | none => none
  | _ :: _ => none
def anyV (v : Val) : M Val := (itemsL v) >>= fun vs s => match boolsOf vs with
  | some bs => .ok (vB (bs.any id)) s
  | none => .bad
def listV (cell : Bool) (v : Val) : M Val := (items v) >>= fun vs => newL cell vs
def tupleV (cell : Bool) (v : Val) : M Val := (itemsL v) >>= fun vs => newT cell vs
/-- repr: the text by its tree -/
def reprOk : T → Bool
  | .tup _ => true
  | .lst _ => true
  | .int _ => true
  | _ => false
def reprV (v : Val) : M Val := fun s => match deep s deepMax v with
  | some d => if reprOk d ∧ T.plain 60 d ∧ T.rlen d ≤ L then .ok (.t (.rp d)) s else .bad
  | none => .bad
/-- isinstance with a built-in class or one of the text's exceptions -/
def excSub (c d : String) : Bool := c == d || (d == "FlatError" && (c == "TrapError" || c == "KindError" || c == "PaperError")) ||
  ((d == "ValueError") && (c == "FlatError" || c == "TrapError" || c == "KindError" || c == "PaperError"))
def isiV (cls : String) (v : Val) : M Bool := fun s => match v with
  | .ex _ => .bad
  | .t .non => .ok false s
  | .t (.bl _) => .ok (cls == "bool" || cls == "int") s
  | .t (.int _) => .ok (cls == "int") s
  | .t (.str _) => .ok (cls == "str") s
  | .t (.rp _) => .ok (cls == "str") s
  | .t (.tup _) => .ok (cls == "tuple") s
  | .t (.lst _) => .ok (cls == "list") s
  | .t (.dct _) => .ok (cls == "dict") s
  | .scr _ => .ok (cls == "list") s
  | .loc n => match s.cell n with
    | some (.lst _) => .ok (cls == "list") s
    | some (.tup _) => .ok (cls == "tuple") s
    | some (.dct _) => .ok (cls == "dict") s
    | _ => .bad
/-- isinstance of an exception -/
def isiE (cls : String) (v : Val) : M Bool := fun s => match v with
  | .ex x => .ok (excSub x.cls cls) s
  | _ => .bad
/-- a list, a dict that can be changed -/
def lstC (v : Val) : M Unit := fun s => match v with
  | .loc n => match s.cell n with
    | some (.lst _) => .ok () s
    | _ => .bad
  | .t (.lst _) => .ok () s
  | _ => .bad
/-! ### lists and dicts changed -/
def appendV (l v : Val) : M Val := fun s => match l with
  | .loc n => match s.cell n with
    | some (.lst vs) => if vs.length < L then .ok vN (s.set n (some (.lst (vs ++ [v])))) else .bad
    | _ => .bad
  | _ => .bad
/-- l.pop(i) of a list -/
def popL (l i : Val) : M Val := fun s => match l, i with
  | .loc n, .t (.int k) => match s.cell n with
    | some (.lst vs) => match pyIx vs.length k with
      | some j => match vs[j]? with
        | some v => .ok v (s.set n (some (.lst (vs.eraseIdx j))))
        | none => .bad
      | none => .bad
    | _ => .bad
  | _, _ => .bad
def getD (d k e : Val) : M Val := (dictOf d) >>= fun kvs s => match keyOf k with
  | some k => .ok ((dget kvs k).getD e) s
  | none => .bad
/-- o[i] = v -/
def setI (o i v : Val) : M Unit := fun s => match o with
  | .loc n => match s.cell n with
    | some (.lst vs) => match i with
      | .t (.int k) => match pyIx vs.length k with
        | some j => .ok () (s.set n (some (.lst (vs.set j v))))
        | none => .bad
      | _ => .bad
    | some (.dct kvs) => match keyOf i with
      | some k => if kvs.length < L then .ok () (s.set n (some (.dct (dput kvs k v)))) else .bad
      | none => .bad
    | _ => .bad
  | _ => .bad
def fget (fs : List (String × Val)) (f : String) : Option Val := match fs with
  | [] => none
  | (g, v) :: r => if g = f then some v else fget r f
def fput (fs : List (String × Val)) (f : String) (v : Val) : List (String × Val) := match fs with
  | [] => [(f, v)]
  | (g, u) :: r => if g = f then (g, v) :: r else (g, u) :: fput r f v
def attrV (f : String) (v : Val) : M Val := fun s => match v with
  | .loc n => match s.cell n with
    | some (.ins _ fs) => match fget fs f with
      | some u => .ok u s
      | none => .bad
    | _ => .bad
  | .ex x => match x.at_ with
    | some d => if f = "at" then .ok (.t d) s else .bad
    | none => .bad
  | _ => .bad
def setAttr (f : String) (o v : Val) : M Unit := fun s => match o with
  | .loc n => match s.cell n with
    | some (.ins c fs) => if fs.length < 100 then .ok () (s.set n (some (.ins c (fput fs f v)))) else .bad
    | _ => .bad
  | _ => .bad
/-- dicts with tuples as keys: k in d, d[k], d[k] = v -/
def inK (x c : Val) : M Bool := fun s => match c, x with
  | .loc n, .t k => match s.cell n with
    | some (.kd kvs) => if k.isTup && T.hsh 6 k then .ok (tget kvs k).isSome s else .bad
    | _ => .bad
  | _, _ => .bad
def ixK (c x : Val) : M Val := fun s => match c, x with
  | .loc n, .t k => match s.cell n with
    | some (.kd kvs) => if k.isTup && T.hsh 6 k then (match tget kvs k with
      | some d => .ok d s
      | none => .bad) else .bad
    | _ => .bad
  | _, _ => .bad
def setK (o i v : Val) : M Unit := fun s => match o, i with
  | .loc n, .t k => match s.cell n with
    | some (.kd kvs) => if (k.isTup && T.hsh 6 k) && decide (kvs.length < L) then .ok () (s.set n (some (.kd (tput kvs k v)))) else .bad
    | _ => .bad
  | _, _ => .bad
/-! ### expressions, by the environment -/
abbrev CE := Env → M Val
abbrev CT := Env → M Bool
def eVar (i : Nat) : CE := fun ρ s => match ρ[i]? with
  | some (some v) => .ok v s
  | _ => .bad
def eC (d : T) : CE := fun _ s => .ok (.t d) s
def e1 (k : Val → M Val) (a : CE) : CE := fun ρ => a ρ >>= k
def e2 (k : Val → Val → M Val) (a b : CE) : CE := fun ρ => a ρ >>= fun x => b ρ >>= fun y => k x y
def e3 (k : Val → Val → Val → M Val) (a b c : CE) : CE := fun ρ => a ρ >>= fun x => b ρ >>= fun y => c ρ >>= fun z => k x y z
/-- o.m(..): what o is, is seen first -/
def e2c (c : Val → M Unit) (k : Val → Val → M Val) (a b : CE) : CE := fun ρ => a ρ >>= fun x => c x >>= fun _ => b ρ >>= fun y => k x y
def eVals : List CE → Env → M (List Val)
  | [], _ => pure []
  | a :: r, ρ => a ρ >>= fun x => eVals r ρ >>= fun xs => pure (x :: xs)
def eTup (cell : Bool) (as : List CE) : CE := fun ρ => eVals as ρ >>= newT cell
def eLst (cell : Bool) (as : List CE) : CE := fun ρ => eVals as ρ >>= newL cell
/-- the pairs of a display, one after the other -/
def ePairs : List (CE × CE) → Env → M (List (Key × Val))
  | [], _ => pure []
  | (a, b) :: r, ρ => a ρ >>= fun x => b ρ >>= fun y => ePairs r ρ >>= fun ps => match keyOf x with
    | some k => pure ((k, y) :: ps)
    | none => bad
def eDct (cell : Bool) (ps : List (CE × CE)) : CE := fun ρ => ePairs ps ρ >>= fun kvs => newD cell (dmerge [] kvs)
/-- {} whose keys will be tuples -/
def eKd : CE := fun _ s => .ok (.loc s.length) (s ++ [some (.kd [])])
def eB (t : CT) : CE := fun ρ => t ρ >>= fun b => pure (vB b)
def t2 (k : Val → Val → M Bool) (a b : CE) : CT := fun ρ => a ρ >>= fun x => b ρ >>= fun y => k x y
def tEq (a b : CE) : CT := t2 eqV a b
def tNe (a b : CE) : CT := t2 (fun x y => eqV x y >>= fun b => pure !b) a b
def tLt (a b : CE) : CT := t2 (ltV fun i j => decide (i < j)) a b
def tLe (a b : CE) : CT := t2 (ltV fun i j => decide (i ≤ j)) a b
def tGt (a b : CE) : CT := t2 (ltV fun i j => decide (j < i)) a b
def tGe (a b : CE) : CT := t2 (ltV fun i j => decide (j ≤ i)) a b
def tIn (a b : CE) : CT := t2 inV a b
def tInK (a b : CE) : CT := t2 inK a b
def eIxK (a b : CE) : CE := e2 ixK a b
def tNotIn (a b : CE) : CT := t2 (fun x y => inV x y >>= fun b => pure !b) a b
def tIsN (a : CE) : CT := fun ρ => a ρ >>= fun v => match v with
  | .ex _ => bad
  | v => pure (isNone v)
def tNotN (a : CE) : CT := fun ρ => a ρ >>= fun v => match v with
  | .ex _ => bad
  | v => pure !(isNone v)
def tIsi (cls : String) (a : CE) : CT := fun ρ => a ρ >>= isiV cls
def tIsE (cls : String) (a : CE) : CT := fun ρ => a ρ >>= isiE cls
def tAnd (a b : CT) : CT := fun ρ => a ρ >>= fun x => if x then b ρ else pure false
def tOr (a b : CT) : CT := fun ρ => a ρ >>= fun x => if x then pure true else b ρ
def tNot (a : CT) : CT := fun ρ => a ρ >>= fun x => pure !x
def eIf (c : CT) (a b : CE) : CE := fun ρ => c ρ >>= fun x => if x then a ρ else b ρ
def eSlice (cell : Bool) (a : CE) (lo hi : Option CE) : CE := fun ρ => a ρ >>= fun v =>
  (match lo with
    | none => pure none
    | some e => e ρ >>= fun x => getInt x >>= fun i => pure (some i)) >>= fun l =>
  (match hi with
    | none => pure none
    | some e => e ρ >>= fun x => getInt x >>= fun i => pure (some i)) >>= fun h => sliceV cell v l h
/-- truth of a bool, a list, a tuple, None -/
def truthV (v : Val) : M Bool := fun s => match v with
  | .t (.bl b) => .ok b s
  | .t .non => .ok false s
  | .t (.lst ts) => .ok (!ts.isEmpty) s
  | .t (.tup ts) => .ok (!ts.isEmpty) s
  | .loc n => match s.cell n with
    | some (.lst vs) => .ok (!vs.isEmpty) s
    | _ => .bad
  | _ => .bad
def tTruth (a : CE) : CT := fun ρ => a ρ >>= truthV
def eAnd (a b : CE) : CE := fun ρ => a ρ >>= fun x => getB x >>= fun c => if c then b ρ else pure (vB false)
def eOr (a b : CE) : CE := fun ρ => a ρ >>= fun x => getB x >>= fun c => if c then pure (vB true) else b ρ
def eNot (a : CE) : CE := fun ρ => a ρ >>= fun x => getB x >>= fun c => pure (vB !c)
/-! ### what is walked -/
abbrev CI := Env → M (List Val)
/-- a list, a tuple -/
def iV (a : CE) : CI := fun ρ => a ρ >>= iterOf
/-- enumerate of a list of trees -/
def iEnum (a : CE) : CI := fun ρ => a ρ >>= fun v => match v with
  | .t (.lst ts) => pure (enumT 0 ts)
  | _ => bad
def upto (lo : Int) (n : Nat) : List Val := (List.range n).map fun k => vI (lo + (k : Nat))
noncomputable def rangeOk (i : Int) : Bool := cdec (-(2 ^ 62) ≤ i) && cdec (i < 2 ^ 62)
noncomputable def iRange1 (b : CE) : CI := fun ρ => b ρ >>= fun y => getInt y >>= fun hi => if rangeOk hi then pure (upto 0 hi.toNat) else bad
/-- a walked item: one value, or the parts of a tuple -/
abbrev CG := Val → Env → M Env
def gVar (i : Nat) : CG := fun v ρ => pure (ρ.set i (some v))
def gSets : List Nat → List Val → Env → Option Env
  | [], [], ρ => some ρ
  | i :: r, v :: q, ρ => gSets r q (ρ.set i (some v))
  | _, _, _ => none
def gTup (is : List Nat) : CG := fun v ρ s => (items v >>= fun vs s => match gSets is vs ρ with
  | some ρ' => .ok ρ' s
  | none => .bad) s
def wipeE (ρ : Env) : List Nat → Env
  | [] => ρ
  | i :: r => (wipeE ρ r).set i none
def testM (c : Option CT) : CT := fun ρ => match c with
  | none => pure true
  | some c => c ρ
/-- walking items with an optional test -/
def compL (g : CG) (c : Option CT) (f : CE) (ρ : Env) : List Val → M (List Val)
  | [] => pure []
  | v :: r => g v ρ >>= fun ρ' => testM c ρ' >>= fun b => if b then f ρ' >>= fun x => compL g c f ρ r >>= fun xs => pure (x :: xs) else compL g c f ρ r
/-- .. what was made is handed along -/
def compK (g : CG) (c : Option CT) (f : CE) (ρ : Env) (acc : List Val) : List Val → M (List Val)
  | [] => pure acc
  | v :: r => g v ρ >>= fun ρ' => testM c ρ' >>= fun b => if b then f ρ' >>= fun x => compK g c f ρ (acc ++ [x]) r else compK g c f ρ acc r
theorem compK_eq (g : CG) (c : Option CT) (f : CE) (ρ : Env) : ∀ (vs acc : List Val) (s : Store), compK g c f ρ acc vs s = (compL g c f ρ vs s).bind fun xs s' => .ok (acc ++ xs) s'
  | [], acc, s => by simp [compK, compL, pure_eq, bind_ok]
  | v :: r, acc, s => by
    have ih := compK_eq g c f ρ r
    rw [compK, compL, bind_eq, bind_eq]
    cases g v ρ s with
    | exc x s1 => rfl
    | bad => rfl
    | ok ρ' s1 =>
      rw [bind_ok, bind_ok, bind_eq, bind_eq]
      cases testM c ρ' s1 with
      | exc x s2 => rfl
      | bad => rfl
      | ok b s2 =>
        rw [bind_ok, bind_ok]
        cases b with
        | false =>
          rw [if_neg (by decide), if_neg (by decide), ih]
        | true =>
          rw [if_pos rfl, if_pos rfl, bind_eq, bind_eq]
          cases f ρ' s2 with
          | exc x s3 => rfl
          | bad => rfl
          | ok x s3 =>
            rw [bind_ok, bind_ok, bind_eq, ih]
            cases compL g c f ρ r s3 with
            | exc y s4 => rfl
            | bad => rfl
            | ok xs s4 => simp [bind_ok, pure_eq]
def eComp (cell : Bool) (own : List Nat) (it : CI) (g : CG) (c : Option CT) (f : CE) : CE := fun ρ => it ρ >>= fun vs => compL g c f (wipeE ρ own) vs >>= newL cell
def eCompR (cell : Bool) (own : List Nat) (it : CI) (g : CG) (c : Option CT) (f : CE) : CE := fun ρ => it ρ >>= fun vs => if vs.length ≤ L then compL g c f (wipeE ρ own) vs >>= newL cell else bad
/-- .. no more than a list may hold -/
def compKc (g : CG) (c : Option CT) (f : CE) (ρ : Env) (acc : List Val) : List Val → M (List Val)
  | [] => pure acc
  | v :: r => g v ρ >>= fun ρ' => testM c ρ' >>= fun b => if b then f ρ' >>= fun x => if acc.length < L then compKc g c f ρ (acc ++ [x]) r else bad else compKc g c f ρ acc r
/-- two clauses -/
def comp2K (g : CG) (c : Option CT) (it1 : CI) (g1 : CG) (c1 : Option CT) (f : CE) (own1 : List Nat) (ρ : Env) (acc : List Val) : List Val → M (List Val)
  | [] => pure acc
  | v :: r => g v ρ >>= fun ρ' => testM c ρ' >>= fun b => if b then it1 ρ' >>= fun ws => compKc g1 c1 f (wipeE ρ' own1) acc ws >>= fun acc' => comp2K g c it1 g1 c1 f own1 ρ acc' r else comp2K g c it1 g1 c1 f own1 ρ acc r
def calmR {α : Type} (m : M α) : M α := fun s => match m s with
  | .ok a s' => .ok a s'
  | _ => .bad
/-- two clauses; nothing raised within -/
def eComp2 (cell : Bool) (own own1 : List Nat) (it : CI) (g : CG) (c : Option CT) (it1 : CI) (g1 : CG) (c1 : Option CT) (f : CE) : CE := fun ρ => it ρ >>= fun vs =>
  calmR (comp2K g c it1 g1 c1 f own1 (wipeE ρ own) [] vs >>= newL cell)
/-! ### statements -/
inductive SO where
  | nx (ρ : Env) (s : Store)
  | rt (v : Val) (s : Store)
  | bk (ρ : Env) (s : Store)
  | ct (ρ : Env) (s : Store)
  | ex (x : Exc) (ρ : Env) (s : Store)
  | bad
abbrev SM := Env → Store → SO
/-- an expression's end within a statement -/
def R.so {α : Type} (r : R α) (ρ : Env) (k : α → Store → SO) : SO := match r with
  | .ok a s => k a s
  | .exc x s => .ex x ρ s
  | .bad => .bad
def sNil : SM := fun ρ s => .nx ρ s
def sSeq (a b : SM) : SM := fun ρ s => match a ρ s with
  | .nx ρ' s' => b ρ' s'
  | o => o
def sAsg (e : CE) (g : CG) : SM := fun ρ s => (e ρ s).so ρ fun v s1 => (g v ρ s1).so ρ fun ρ' s2 => .nx ρ' s2
def sSub (e o i : CE) : SM := fun ρ s => (e ρ s).so ρ fun v s1 => (o ρ s1).so ρ fun ov s2 => (i ρ s2).so ρ fun iv s3 => (setI ov iv v s3).so ρ fun _ s4 => .nx ρ s4
def sSubK (e o i : CE) : SM := fun ρ s => (e ρ s).so ρ fun v s1 => (o ρ s1).so ρ fun ov s2 => (i ρ s2).so ρ fun iv s3 => (setK ov iv v s3).so ρ fun _ s4 => .nx ρ s4
def sAttr (f : String) (e o : CE) : SM := fun ρ s => (e ρ s).so ρ fun v s1 => (o ρ s1).so ρ fun ov s2 => (setAttr f ov v s2).so ρ fun _ s3 => .nx ρ s3
def sExpr (e : CE) : SM := fun ρ s => (e ρ s).so ρ fun _ s1 => .nx ρ s1
def sRet (e : CE) : SM := fun ρ s => (e ρ s).so ρ fun v s1 => .rt v s1
def sIf (c : CT) (a b : SM) : SM := fun ρ s => (c ρ s).so ρ fun x s1 => if x then a ρ s1 else b ρ s1
def sBreak : SM := fun ρ s => .bk ρ s
def sRaise (cls : String) : SM := fun ρ s => .ex ⟨cls, none⟩ ρ s
/-- raise cls(e), e a number that the exception keeps as at -/
def sRaiseA (cls : String) (e : CE) : SM := fun ρ s => (e ρ s).so ρ fun v s1 => match v with
  | .t (.int i) => .ex ⟨cls, some (.int i)⟩ ρ s1
  | _ => .bad
def forL (g : CG) (body : SM) : List Val → SM
  | [], ρ, s => .nx ρ s
  | v :: r, ρ, s => (g v ρ s).so ρ fun ρ1 s1 => match body ρ1 s1 with
    | .nx ρ2 s2 => forL g body r ρ2 s2
    | .ct ρ2 s2 => forL g body r ρ2 s2
    | .bk ρ2 s2 => .nx ρ2 s2
    | o => o
def sFor (it : CI) (g : CG) (body : SM) : SM := fun ρ s => (it ρ s).so ρ fun vs s1 => forL g body vs ρ s1
def whileN (c : CT) (body : SM) : Nat → SM
  | 0, _, _ => .bad
  | n + 1, ρ, s => (c ρ s).so ρ fun x s1 => if x then (match body ρ s1 with
      | .nx ρ2 s2 => whileN c body n ρ2 s2
      | .ct ρ2 s2 => whileN c body n ρ2 s2
      | .bk ρ2 s2 => .nx ρ2 s2
      | o => o) else .nx ρ s1
abbrev whileMax : Nat := 100000000
def sWhile (c : CT) (body : SM) : SM := whileN c body whileMax
/-- a suite that raises nothing -/
def calmO : SO → SO
  | .ex _ _ _ => .bad
  | o => o
/-- try: body, except cls [as slot i]: suite -/
def sTry (body : SM) (cls : String) (i : Option Nat) (suite : SM) : SM := fun ρ s => match body ρ s with
  | .ex x ρ1 s1 => if excSub x.cls cls then (match i with
      | none => calmO (suite ρ1 s1)
      | some i => if i < ρ1.length then (match suite (ρ1.set i (some (.ex x))) s1 with
        | .nx ρ2 s2 => .nx (ρ2.set i none) s2
        | .bk ρ2 s2 => .bk (ρ2.set i none) s2
        | .ct ρ2 s2 => .ct (ρ2.set i none) s2
        | .rt v s2 => .rt v s2
        | _ => .bad) else .bad) else .ex x ρ1 s1
  | o => o
/-! ### defs -/
/-- what stands below n -/
def Val.below (n : Nat) : Val → Bool
  | .t _ => true
  | .loc k => decide (k < n)
  | _ => false
def Cell.below (n : Nat) : Cell → Bool
  | .lst vs => vs.all (Val.below n)
  | .tup vs => vs.all (Val.below n)
  | .dct kvs => kvs.all fun p => p.2.below n
  | .ins _ fs => fs.all fun p => p.2.below n
  | .kd kvs => kvs.all fun p => p.2.below n
def Store.below (n : Nat) (s : Store) : Bool := s.all fun c => match c with
  | some c => c.below n
  | none => true
/-- what a def has made and let go is forgotten -/
def trim (n : Nat) (s : Store) : Store := if Store.below n (s.take n) then s.take n else s
def start (N : Nat) (args : List Val) : Env := args.map some ++ List.replicate (N - args.length) none
/-- a def of N names, the first ps are the parameters -/
def mkFn (N ps : Nat) (body : SM) (args : List Val) : M Val := fun s => if args.length = ps then (match body (start N args) s with
    | .nx _ s' => .ok vN (trim s.length s')
    | .rt v s' => if v.below s.length then .ok v (trim s.length s') else (match v with
      | .loc n => .ok (.loc n) s'
      | _ => .bad)
    | .ex x _ s' => .exc x (trim s.length s')
    | _ => .bad) else .bad
abbrev FEnv := Nat → List Val → M Val
def eCall (G : FEnv) (f : Nat) (as : List CE) : CE := fun ρ => eVals as ρ >>= fun vs => G f vs
end Fl
set_option Elab.async false
set_option linter.all false
set_option maxRecDepth 100000
set_option maxHeartbeats 2000000
/-! Fl over the layer: what stands for what. -/
namespace Fl
open PySem PySem.Spec L2
/-- a key of a dict -/
def kL : Key → L2.Key
  | .i n => .inl n
  | .s x => .inr (Str.ofString x)
theorem ofString_inj {a b : String} (h : Str.ofString a = Str.ofString b) : a = b := by
  rw [Str.ofString_eq_toList, Str.ofString_eq_toList] at h
  have h1 : (a.toList.map Char.toNat).toArray = (b.toList.map Char.toNat).toArray := congrArg Str.cps h
  have h2 : a.toList.map Char.toNat = b.toList.map Char.toNat := by simpa using congrArg Array.toList h1
  have h3 : a.toList = b.toList := by
    refine List.map_inj_right (f := Char.toNat) (fun x y e => ?_) |>.mp h2
    exact Char.ext (UInt32.toNat_inj.mp e)
  exact String.toList_inj.mp h3
theorem kL_inj {a b : Key} (h : kL a = kL b) : a = b := by
  cases a <;> cases b <;> simp only [kL, Sum.inl.injEq, Sum.inr.injEq, reduceCtorEq] at h
  · rw [h]
  · rw [ofString_inj h]
mutual
/-- the data of the library -/
def toPy : T → PyData
  | .non => .none
  | .bl b => .bool b
  | .int i => .int i
  | .str x => .str (Str.ofString x)
  | .tup xs => .tuple (toPys xs)
  | .lst xs => .list (toPys xs)
  | .dct _ => .none
  | .rp d => .str (PyData.shown (toPy d))
def toPys : List T → List PyData
  | [] => []
  | d :: r => toPy d :: toPys r
end
section
variable (K : PySem.W.Frag) (H : Hp) (lv : Addr → Prop)
mutual
/-- v stands for the tree d; lv: the cells' addresses -/
def Rep : T → V → Prop
  | .non, v => v = .non
  | .bl b, v => v = .bl b
  | .int i, v => v = .int i
  | .str x, v => v = .str (Str.ofString x)
  | .tup ts, v => ∃ a vs, v = .ref a ∧ ((H a = some (.tup vs) ∧ ¬ lv a) ∨ ∀ H1, SqT K H1 a vs) ∧ ts.length ≤ L ∧ Reps ts vs
  | .lst ts, v => ∃ a vs, v = .ref a ∧ (H a = some (.lst vs) ∧ ¬ lv a) ∧ ts.length ≤ L ∧ Reps ts vs
  | .dct kts, v => ∃ a kvs, v = .ref a ∧ (Rd H a (.dK kvs) ∧ ¬ lv a) ∧ kts.length ≤ L ∧ RepK kts kvs
  | .rp d, v => v = .str (PyData.shown (toPy d))
def Reps : List T → List V → Prop
  | [], vs => vs = []
  | d :: r, vs => ∃ v q, vs = v :: q ∧ Rep d v ∧ Reps r q
def RepK : List (Key × T) → List (L2.Key × V) → Prop
  | [], vs => vs = []
  | d :: r, vs => ∃ v q, vs = v :: q ∧ RepP d v ∧ RepK r q
def RepP : Key × T → L2.Key × V → Prop
  | (k, d), v => v.1 = kL k ∧ Rep d v.2
end
end
/-- where the cells stand -/
abbrev Mp := Nat → Addr
def live (m : Mp) (st : Store) (a : Addr) : Prop := ∃ n c, st.cell n = some c ∧ m n = a
def RepV (K : PySem.W.Frag) (m : Mp) (st : Store) (H : Hp) : Val → V → Prop
  | .t d, v => Rep K H (live m st) d v
  | .loc n, v => n < st.length ∧ v = .ref (m n)
  | .scr ns, v => ns.length ≤ L ∧ ∃ a, v = .ref a ∧ ((H a ≠ none ∧ ¬ live m st a ∧ SqL K H a (ns.map V.int)) ∨ ∀ H1, SqL K H1 a (ns.map V.int))
  | .ex _, _ => True
def RepVs (K : PySem.W.Frag) (m : Mp) (st : Store) (H : Hp) : List Val → List V → Prop
  | [], vs => vs = []
  | d :: r, vs => ∃ v q, vs = v :: q ∧ RepV K m st H d v ∧ RepVs K m st H r q
def RepVK (K : PySem.W.Frag) (m : Mp) (st : Store) (H : Hp) : List (Key × Val) → List (L2.Key × V) → Prop
  | [], vs => vs = []
  | d :: r, vs => ∃ v q, vs = v :: q ∧ (v.1 = kL d.1 ∧ RepV K m st H d.2 v.2) ∧ RepVK K m st H r q
def RepF (K : PySem.W.Frag) (m : Mp) (st : Store) (H : Hp) : List (String × Val) → List (Str × V) → Prop
  | [], vs => vs = []
  | d :: r, vs => ∃ v q, vs = v :: q ∧ (v.1 = Str.ofString d.1 ∧ RepV K m st H d.2 v.2) ∧ RepF K m st H r q
/-- a class's address by its tag -/
structure Tags where
  rel : String → Addr → Prop
  /-- the world, for the hashes of keys -/
  w : World
instance : CoeFun Tags fun _ => String → Addr → Prop := ⟨Tags.rel⟩
mutual
/-- a key that is a tuple -/
def nkOf : T → NestedKey
  | .non => .none
  | .bl b => .num (if b = true then 1 else 0)
  | .int i => .num i
  | .str x => .text (Str.ofString x)
  | .tup ts => .tup (nksOf ts)
  | _ => .none
def nksOf : List T → List NestedKey
  | [] => []
  | d :: r => nkOf d :: nksOf r
end
def kdE (w : World) (x : NestedKey × Addr × Value) : DictEntry := ⟨x.1.hash w, .ref x.2.1, x.2.2⟩
/-- a dict with tuples as keys, by its own object -/
def kdO (w : World) (a : Addr) (xs : List (NestedKey × Addr × Value)) : HO := .ext fun h => (a == sysModules) = false ∧ ∃ o es ep, h.get? a = some o ∧ o.ExactDict ∧ o.data = .dict es ep ∧ es.toList = xs.map (kdE w) ∧ (xs.map (·.1)).Nodup
/-- its entries -/
def RepKd (K : PySem.W.Frag) (m : Mp) (st : Store) (H : Hp) : List (T × Val) → List (NestedKey × Addr × Value) → Prop
  | [], xs => xs = []
  | d :: r, xs => ∃ x q, xs = x :: q ∧ (x.1 = nkOf d.1 ∧ (d.1.isTup && T.hsh 6 d.1) = true ∧ Rep K H (live m st) d.1 (.ref x.2.1) ∧ ∃ v, RepV K m st H d.2 v ∧ RelV v x.2.2) ∧ RepKd K m st H r q
def CellOk (K : PySem.W.Frag) (CA : Tags) (m : Mp) (st : Store) (H : Hp) (a : Addr) : Cell → Prop
  | .lst vs => ∃ us, H a = some (.lst us) ∧ vs.length ≤ L ∧ RepVs K m st H vs us
  | .tup vs => ∃ us, H a = some (.tup us) ∧ vs.length ≤ L ∧ RepVs K m st H vs us
  | .dct kvs => ∃ us, H a = some (.dK us) ∧ kvs.length ≤ L ∧ RepVK K m st H kvs us
  | .ins c fs => ∃ C dx us, CA c C ∧ H a = some (.ins C dx us) ∧ RepF K m st H fs us
  | .kd kvs => ∃ xs, H a = some (kdO CA.w a xs) ∧ kvs.length ≤ L ∧ RepKd K m st H kvs xs
structure SR (K : PySem.W.Frag) (CA : Tags) (m : Mp) (st : Store) (H : Hp) : Prop where
  cells : ∀ n c, st.cell n = some c → CellOk K CA m st H (m n) c
  inj : ∀ n n' c c', st.cell n = some c → st.cell n' = some c' → m n = m n' → n = n'
/-- as it was; a dict may have been locked -/
def Kp (H' : Hp) (a : Addr) (o : HO) : Prop := H' a = some o ∨ ∃ kvs od, o = .dK kvs ∧ H' a = some (.frz od o)
structure Step (m : Mp) (st : Store) (H : Hp) (m' : Mp) (st' : Store) (H' : Hp) : Prop where
  keep : ∀ a o, H a = some o → ¬ live m st a → Kp H' a o
  lv : ∀ a, live m' st' a → live m st a ∨ H a = none
  ag : ∀ n, n < st.length → m' n = m n
  len : st.length ≤ st'.length
def ER (K : PySem.W.Frag) (m : Mp) (st : Store) (H : Hp) (ρ : Env) (σ : L2.St) : Prop :=
  ρ.length = σ.length ∧ ∀ (i : Nat) (w : Val), ρ[i]? = some (some w) → ∃ v, σ[i]? = some (some v) ∧ RepV K m st H w v
section
variable {K : PySem.W.Frag} {CA : Tags} {m m' m2 : Mp} {st st' st2 : Store} {H H' H2 : Hp} {lv lv' : Addr → Prop}
theorem Kp.same {a : Addr} {o : HO} (h : Kp H' a o) (hn : ∀ kvs, o ≠ .dK kvs) : H' a = some o := h.elim id fun ⟨kvs, _, e, _⟩ => absurd e (hn kvs)
theorem Kp.ne {a : Addr} {o : HO} (h : Kp H' a o) : H' a ≠ none := by
  rcases h with h | ⟨_, _, _, h⟩ <;> (rw [h]; simp)
theorem Kp.rd {a : Addr} {kvs : List (L2.Key × V)} (h : Kp H' a (.dK kvs)) : Rd H' a (.dK kvs) := h.elim .inl fun ⟨_, od, _, e⟩ => .inr ⟨od, e⟩
theorem Step.same (s : Step m st H m' st' H') {a : Addr} {o : HO} (h : H a = some o) (n : ¬ live m st a) (hn : ∀ kvs, o ≠ .dK kvs) : H' a = some o := (s.keep a o h n).same hn
theorem Step.refl : Step m st H m st H := ⟨fun _ _ h _ => .inl h, fun _ h => .inl h, fun _ _ => rfl, Nat.le_refl _⟩
theorem Step.trans (a : Step m st H m' st' H') (b : Step m' st' H' m2 st2 H2) : Step m st H m2 st2 H2 where
  keep := fun x o h n => by
    have nl : ¬ live m' st' x := fun l => (a.lv x l).elim n fun z => by rw [h] at z; cases z
    rcases a.keep x o h n with q | ⟨kvs, od, e, q⟩
    · exact b.keep x o q nl
    · exact .inr ⟨kvs, od, e, (b.keep x _ q nl).same fun _ z => by cases z⟩
  lv := fun x h => by
    rcases b.lv x h with q | q
    · exact a.lv x q
    · by_cases l : live m st x
      · exact .inl l
      · refine .inr ?_
        cases e : H x with
        | none => rfl
        | some o => exact absurd q (a.keep x o e l).ne
  ag := fun n h => (b.ag n (Nat.lt_of_lt_of_le h a.len)).trans (a.ag n h)
  len := Nat.le_trans a.len b.len
mutual
theorem Rep.mono (k : ∀ a o, H a = some o → ¬ lv a → Kp H' a o) (l : ∀ a, lv' a → lv a ∨ H a = none) : ∀ (d : T) (v : V), Rep K H lv d v → Rep K H' lv' d v
  | .non, _, h => h
  | .bl _, _, h => h
  | .int _, _, h => h
  | .str _, _, h => h
  | .rp _, _, h => h
  | .tup ts, v, h => by
    obtain ⟨a, vs, e, q, z, r⟩ := h
    refine ⟨a, vs, e, ?_, z, Reps.mono k l ts vs r⟩
    rcases q with ⟨q, n⟩ | q
    · exact .inl ⟨(k a _ q n).same (fun _ z => nomatch z), fun z => (l a z).elim n fun z => by rw [q] at z; cases z⟩
    · exact .inr q
  | .lst ts, v, h => by
    obtain ⟨a, vs, e, ⟨q, n⟩, z, r⟩ := h
    exact ⟨a, vs, e, ⟨(k a _ q n).same (fun _ z => nomatch z), fun z => (l a z).elim n fun z => by rw [q] at z; cases z⟩, z, Reps.mono k l ts vs r⟩
  | .dct kts, v, h => by
    obtain ⟨a, vs, e, ⟨q, n⟩, z, r⟩ := h
    refine ⟨a, vs, e, ⟨?_, fun z => (l a z).elim n fun z => by rcases q with q | ⟨_, q⟩ <;> (rw [q] at z; cases z)⟩, z, RepK.mono k l kts vs r⟩
    rcases q with q | ⟨o, q⟩
    · exact (k a _ q n).rd
    · exact .inr ⟨o, (k a _ q n).same fun _ z => by cases z⟩
theorem Reps.mono (k : ∀ a o, H a = some o → ¬ lv a → Kp H' a o) (l : ∀ a, lv' a → lv a ∨ H a = none) : ∀ (d : List T) (v : List V), Reps K H lv d v → Reps K H' lv' d v
  | [], _, h => h
  | d :: r, _, h => by
    obtain ⟨v, q, e, h1, h2⟩ := h
    exact ⟨v, q, e, Rep.mono k l d v h1, Reps.mono k l r q h2⟩
theorem RepK.mono (k : ∀ a o, H a = some o → ¬ lv a → Kp H' a o) (l : ∀ a, lv' a → lv a ∨ H a = none) : ∀ (d : List (Key × T)) (v : List (L2.Key × V)), RepK K H lv d v → RepK K H' lv' d v
  | [], _, h => h
  | d :: r, _, h => by
    obtain ⟨v, q, e, h1, h2⟩ := h
    exact ⟨v, q, e, RepP.mono k l d v h1, RepK.mono k l r q h2⟩
theorem RepP.mono (k : ∀ a o, H a = some o → ¬ lv a → Kp H' a o) (l : ∀ a, lv' a → lv a ∨ H a = none) : ∀ (d : Key × T) (v : L2.Key × V), RepP K H lv d v → RepP K H' lv' d v
  | (_, d), (_, v), h => ⟨h.1, Rep.mono k l d v h.2⟩
end
theorem RepV.mono (s : Step m st H m' st' H') : ∀ (w : Val) (v : V), RepV K m st H w v → RepV K m' st' H' w v
  | .t d, v, h => Rep.mono s.keep s.lv d v h
  | .loc n, v, h => ⟨Nat.lt_of_lt_of_le h.1 s.len, by rw [s.ag n h.1]; exact h.2⟩
  | .scr ns, v, h => by
    obtain ⟨zl, a, e, q⟩ := h
    refine ⟨zl, a, e, ?_⟩
    rcases q with ⟨q1, q2, q3⟩ | q
    · cases z : H a with
      | none => exact absurd z q1
      | some o =>
        refine .inl ⟨(s.keep a o z q2).ne, fun l => (s.lv a l).elim q2 q1, ?_⟩
        rcases q3 with q3 | q3
        · refine .inl ?_
          rcases q3 with q3 | ⟨o', q3⟩
          · exact .inl (s.same q3 q2 fun _ z => nomatch z)
          · exact .inr ⟨o', s.same q3 q2 fun _ z => nomatch z⟩
        · exact .inr q3
    · exact .inr q
  | .ex _, _, _ => trivial
theorem RepVs.mono (s : Step m st H m' st' H') : ∀ (w : List Val) (v : List V), RepVs K m st H w v → RepVs K m' st' H' w v
  | [], _, h => h
  | d :: r, _, h => by
    obtain ⟨v, q, e, h1, h2⟩ := h
    exact ⟨v, q, e, RepV.mono s d v h1, RepVs.mono s r q h2⟩
theorem RepVK.mono (s : Step m st H m' st' H') : ∀ (w : List (Key × Val)) (v : List (L2.Key × V)), RepVK K m st H w v → RepVK K m' st' H' w v
  | [], _, h => h
  | d :: r, _, h => by
    obtain ⟨v, q, e, h1, h2⟩ := h
    exact ⟨v, q, e, ⟨h1.1, RepV.mono s d.2 v.2 h1.2⟩, RepVK.mono s r q h2⟩
theorem RepF.mono (s : Step m st H m' st' H') : ∀ (w : List (String × Val)) (v : List (Str × V)), RepF K m st H w v → RepF K m' st' H' w v
  | [], _, h => h
  | d :: r, _, h => by
    obtain ⟨v, q, e, h1, h2⟩ := h
    exact ⟨v, q, e, ⟨h1.1, RepV.mono s d.2 v.2 h1.2⟩, RepF.mono s r q h2⟩
theorem RepKd.mono (s : Step m st H m' st' H') : ∀ (w : List (T × Val)) (v : List (NestedKey × Addr × Value)), RepKd K m st H w v → RepKd K m' st' H' w v
  | [], _, h => h
  | d :: r, _, h => by
    obtain ⟨v, q, e, ⟨h1, h2, h3, u, h4, h5⟩, h6⟩ := h
    exact ⟨v, q, e, ⟨h1, h2, Rep.mono s.keep s.lv d.1 _ h3, u, RepV.mono s d.2 u h4, h5⟩, RepKd.mono s r q h6⟩
theorem ER.mono {ρ : Env} {σ : L2.St} (s : Step m st H m' st' H') (h : ER K m st H ρ σ) : ER K m' st' H' ρ σ :=
  ⟨h.1, fun i w e => let ⟨v, e1, r⟩ := h.2 i w e; ⟨v, e1, RepV.mono s w v r⟩⟩
end
/-- how an exception's object is told: its class, its own dict -/
abbrev XRel := Exc → Value → Option Addr → Hp → Prop
/-- a result, what may be said of it -/
def PR {α : Type} (K : PySem.W.Frag) (CA : Tags) (XR : XRel) (W : WX) (σ : L2.St) (r : R α) (m : Mp) (st : Store) (H : Hp) (ok : α → Mp → Store → Hp → Prop) : Prop := match r with
  | .ok a st' => ∀ m' H', SR K CA m' st' H' → Step m st H m' st' H' → ok a m' st' H'
  | .exc x st' => ∀ m' H' cls d, SR K CA m' st' H' → Step m st H m' st' H' → XR x cls d H' → W cls d σ H'
  | .bad => False
section
variable {α β : Type} {K : PySem.W.Frag} {CA : Tags} {XR : XRel} {W : WX} {σ : L2.St} {r : R α} {m m1 : Mp} {st st1 : Store} {H H1 : Hp} {ok ok' : α → Mp → Store → Hp → Prop}
theorem PR.step (h : PR K CA XR W σ r m st H ok) (s : Step m st H m1 st1 H1) : PR K CA XR W σ r m1 st1 H1 ok := by
  cases r with
  | ok a s' => exact fun m' H' S T => h m' H' S (s.trans T)
  | exc x s' => exact fun m' H' c d S T => h m' H' c d S (s.trans T)
  | bad => exact h
theorem PR.bind_of {k : α → M β} {ok : β → Mp → Store → Hp → Prop} (h : PR K CA XR W σ (r.bind k) m st H ok) : PR K CA XR W σ r m st H fun a m1 st1 H1 => PR K CA XR W σ (k a st1) m1 st1 H1 ok := by
  cases r with
  | ok a s' => exact fun m' H' S T => PR.step h T
  | exc x s' => exact h
  | bad => exact h
theorem PR.mono (h : PR K CA XR W σ r m st H ok) (k : ∀ a m' st' H', SR K CA m' st' H' → Step m st H m' st' H' → ok a m' st' H' → ok' a m' st' H') : PR K CA XR W σ r m st H ok' := by
  cases r with
  | ok a s' => exact fun m' H' S T => k a m' s' H' S T (h m' H' S T)
  | exc x s' => exact h
  | bad => exact h
/-- a plain result here -/
theorem PR.here {a : α} (S : SR K CA m st H) (h : PR K CA XR W σ (.ok a st) m st H ok) : ok a m st H := h m H S Step.refl
end
end Fl
set_option Elab.async false
set_option linter.all false
set_option maxRecDepth 100000
set_option maxHeartbeats 2000000
/-! Fl over the layer: contexts, expressions. -/
namespace Fl
open PySem PySem.Spec L2
/-- room for k calls, one in another; no repr under way -/
structure Room1 (k : Nat) (A : Around) : Prop where
  hd : A.handled = none
  dp : A.depth + k + 12 < recursionLimit
  un : A.units + 14 * k + 400 < cLine
  gd : A.guards = some []
theorem Room1.mono {j k : Nat} {A : Around} (r : Room1 k A) (h : j ≤ k) : Room1 j A :=
  ⟨r.hd, by have := r.dp; omega, by have := r.un; omega, r.gd⟩
theorem Room1.u64 {k : Nat} {A : Around} (r : Room1 k A) : A.units + 64 < cLine := by have := r.un; omega
theorem Room1.u65 {k : Nat} {A : Around} (r : Room1 k A) : A.units + 65 < cLine := by have := r.un; omega
theorem Room1.u1 {k : Nat} {A : Around} (r : Room1 k A) : A.units + 1 < cLine := by have := r.un; omega
theorem Room1.u0 {k : Nat} {A : Around} (r : Room1 k A) : A.units < cLine := by have := r.un; omega
theorem Room1.deeper {k : Nat} {A : Around} (r : Room1 (k + 1) A) (env : L2.Cx → PySem.Env := fun X => X.env) (e : PySem.Env) : Room1 k (A.deeper e) :=
  ⟨r.hd, by have := r.dp; show A.depth + 1 + k + 12 < _; omega, by have := r.un; show A.units + 3 + 14 * k + 400 < _; omega, r.gd⟩
/-- what is fixed through a law's text -/
structure Tab where
  /-- defs: name, id, number of parameters -/
  fns : List (Str × Nat × Nat)
  /-- classes: name, tag, its __init__'s id, number of parameters with self -/
  cls : List (Str × String × Nat × Nat)
  /-- methods: tag, name, id, number of parameters with self -/
  mts : List (String × Str × Nat × Nat)
  consts : List (Str × T)
  /-- exception classes made of a text: name, tag -/
  excs : List (Str × String)
  ats : List (Str × String)
  free : List Str
  /-- names of classes that isinstance asks of exceptions, that except clauses name; the tags -/
  exIs : List (Str × String)
  exMs : List (Str × String)
  /-- exception classes made of a number, which they keep as at -/
  oxs : List (Str × String) := []
def spOf (K : PySem.W.Frag) (CA : Tags) (XR : XRel) (f : List Val → M Val) (n : Nat) : Sp := fun vs H Q E => vs.length = n ∧ ∃ m st as, SR K CA m st H ∧ RepVs K m st H as vs ∧
  PR K CA XR (fun c d _ H' => E c d H') [] (f as st) m st H fun a m' st' H' => ∀ v, RepV K m' st' H' a v → Q v H'
/-- the __init__ of the class at C, which keeps a number as at -/
def spAt (C : Addr) : Sp := fun vs H Q _ => ∃ (a : Addr) (i : Int), vs = [.ref a, .int i] ∧ H a = some (exo a C none) ∧ ∀ dx, H dx = none → dx ≠ a → Q .non (upd (upd H dx (exd dx [(("at" : Str), V.int i)])) a (exo a C (some dx)))
section
variable (P : Program) (w : World) (K : PySem.W.Frag) (mg : Str → Option Value) (base : Heap)
/-- a def's promise, its room counted by calls -/
structure FnOk1 (k : Nat) (f : Addr) (fd : FuncData) (ps : List Str) (sp : Sp) : Prop where
  len : ∀ vs H Q E, sp vs H Q E → vs.length = ps.length
  run : ∀ (A : Around) (outer : List PySem.Env) (s : Shared) (H : Hp) (args : Args) (us : List Value) (vs : List V) (Q : VK) (E : XK),
    Room1 k A → Env0 P w K mg base A outer s H → BindsTo s fd args (ps.zip us) → Vals vs us → sp vs H Q E →
    codeAny (model P w) A (.call (.ref f) args) (CR (CX P w) outer P w H s Q E) s
end
/-- the text's own objects -/
structure GlobOk (T : Tab) (G : FEnv) (CA : Tags) (XR : XRel) (P : Program) (w : World) (K : PySem.W.Frag) (mg : Str → Option Value) (base : Heap) (k : Nat) : Prop where
  fns : ∀ x i n, (x, i, n) ∈ T.fns → ∃ f fd ps, mg x = some (.ref f) ∧ PySem.W.keepIn K (.ref f) = true ∧ Binds K fd ps [] ∧ FnOk1 P w K mg base k f fd ps (spOf K CA XR (G i) n)
  cls : ∀ x t i n, (x, t, i, n) ∈ T.cls → ∃ C fI fd ps, CA t C ∧ mg x = some (.ref C) ∧ Cls K C ∧ Mk K C fI ∧ Binds K fd ps [] ∧ ((∀ as s, G i as s = .bad) ∨ ∃ j, j + 1 = k ∧ FnOk1 P w K mg base j fI fd ps (spOf K CA XR (G i) n))
  mts : ∀ t x i n, (t, x, i, n) ∈ T.mts → ∃ C f fd ps, CA t C ∧ Cls K C ∧ Meth K C x f ∧ Binds K fd ps [] ∧ FnOk1 P w K mg base k f fd ps (spOf K CA XR (G i) n)
  tag : ∀ t C C', CA t C → CA t C' → C = C'
  ats : ∀ x s t C, (x, s) ∈ T.ats → CA t C → x = Str.ofString s ∧ Cls K C ∧ NoAttr K C x
  consts : ∀ x d, (x, d) ∈ T.consts → ∃ u v, mg x = some u ∧ RelV v u ∧ ∀ (H : Hp) lv, Rep K H lv d v
  excs : ∀ x t, (x, t) ∈ T.excs → ∃ C bmB newId initId B, mg x = some (.ref C) ∧ ∃ (F : ExcBaseFacts B newId initId bmB), PySem.W.excIn K C bmB newId = true ∧ PySem.W.keepIn K (.ref C) = true ∧
    PySem.W.subIn K (.ref C) (.type "BaseException") = some true ∧ PySem.W.typeIn K (.ref C) = some (.type "type") ∧ ∀ H, XR ⟨t, none⟩ (.ref C) none H
  free : ∀ x ∈ T.free, mg x = none
  exIs : ∀ x t, (x, t) ∈ T.exIs → ∃ (u : V) (uv : Value), (mg x = some uv ∨ (mg x = none ∧ bootBuiltins x = some uv)) ∧ RelV u uv ∧ (∀ w, RelV u w → w = uv) ∧
    ∀ y c d H, XR y c d H → (∀ dd, d = some dd → ∃ fs, H dd = some (.xd fs)) ∧ ∃ C, c = .ref C ∧ ExcC K C ∧ PySem.W.kitOne K (.ref C) uv = some (excSub y.cls t)
  exMs : ∀ x t, (x, t) ∈ T.exMs → ∃ uv : Value, (mg x = some uv ∨ (mg x = none ∧ bootBuiltins x = some uv)) ∧ ∀ y c d H, XR y c d H → PySem.W.exmOne K c uv = some (excSub y.cls t)
  oxs : ∀ x t, (x, t) ∈ T.oxs → ∃ C fI fd ps, mg x = some (.ref C) ∧ OexC K C ∧ PySem.W.findIn K (.ref C) "__init__" = some (some (.ref fI)) ∧ PySem.W.typeIn K (.ref fI) = some (.type "function") ∧ Binds K fd ps [] ∧
    L2.FnOk P w K mg base L2.CX0 1 fI fd ps (spAt C) ∧ ∀ (i : Int) dx H, H dx = some (.xd [(("at" : Str), V.int i)]) → XR ⟨t, some (.int i)⟩ (.ref C) (some dx) H
  oxr : ∀ y c d H v, XR y c d H → y.at_ = some v → ∃ i C dd fs, v = .int i ∧ c = .ref C ∧ XfC K C ∧ PySem.W.findIn K (.ref C) "at" = some none ∧ d = some dd ∧ H dd = some (.xd fs) ∧ fs.lookup ("at" : Str) = some (V.int i)
  pw : CA.w = w
/-- where a piece of syntax stands: its names, its scope, what it may store -/
structure Cw (tb : Tab) (G : FEnv) (CA : Tags) (XR : XRel) (k : Nat) (N : List Str) (sc : Scope) (own : Str → Bool) (X : Cx) (W : WX) : Prop where
  nm : X.N = N
  nd : N.Nodup
  sc : X.env.scope = sc
  own : X.fn = own
  un : X.A.units + 400 < cLine
  glob : GlobOk tb G CA XR X.prog X.w X.K X.mg X.base k
theorem Cw.u64 {tb : Tab} {G : FEnv} {CA : Tags} {XR : XRel} {k : Nat} {N : List Str} {sc : Scope} {own : Str → Bool} {X : Cx} {W : WX} (C : Cw tb G CA XR k N sc own X W) : X.A.units + 64 < cLine := by have := C.un; omega
theorem Cw.u65 {tb : Tab} {G : FEnv} {CA : Tags} {XR : XRel} {k : Nat} {N : List Str} {sc : Scope} {own : Str → Bool} {X : Cx} {W : WX} (C : Cw tb G CA XR k N sc own X W) : X.A.units + 65 < cLine := by have := C.un; omega
theorem Cw.u1 {tb : Tab} {G : FEnv} {CA : Tags} {XR : XRel} {k : Nat} {N : List Str} {sc : Scope} {own : Str → Bool} {X : Cx} {W : WX} (C : Cw tb G CA XR k N sc own X W) : X.A.units + 1 < cLine := by have := C.un; omega
/-- an exception in the air of X, over a frame's own address -/
def XEL (X : Cx) (F : Addr) (W : WX) (u : Value) (s' : Shared) : Prop :=
  ∃ (a : Addr) (B : Heap) (sI : Shared) (pins : List (Addr × Obj)) (σ : L2.St) (H : Hp) (cls : Value) (d : Option Addr), (u = .ref a ∧ W cls d σ H) ∧ Inv X pins σ H sI ∧ (Sky B X.stack a (Zc cls d) F s'.heap ∧ H a = none) ∧
    (∀ b o, sI.heap.get? b = some o → b ∉ frs X.stack → B.get? b = some o) ∧ sI.heap.UpToSlots s'.heap ∧ s'.os = sI.os ∧ PyProof.Rows.AllBare s'.gens
/-- .. where calls may be made, exceptions let out -/
structure Cq (tb : Tab) (G : FEnv) (CA : Tags) (XR : XRel) (k : Nat) (N : List Str) (sc : Scope) (own : Str → Bool) (X : Cx) (W : WX) : Prop extends Cw tb G CA XR k N sc own X W where
  calm : X.calm = true
  takes : ∃ F, X.env.frame = some F ∧ (∃ e0 r, X.stack = e0 :: r ∧ e0.frame = some F) ∧ ∀ u s', XEL X F W u s' → X.xe u s'
  room : Room1 k X.A
/-! ### readings -/
def tM (K : PySem.W.Frag) (CA : Tags) (XR : XRel) (W : WX) (f : CE) : TE := fun σ H Q => ∃ m st ρ, SR K CA m st H ∧ ER K m st H ρ σ ∧
  PR K CA XR W σ (f ρ st) m st H fun a m' st' H' => ∀ v, RepV K m' st' H' a v → Q v H'
def tMT (K : PySem.W.Frag) (CA : Tags) (XR : XRel) (W : WX) (f : CT) : TT := fun σ H Q => ∃ m st ρ, SR K CA m st H ∧ ER K m st H ρ σ ∧
  PR K CA XR W σ (f ρ st) m st H fun b m' st' H' => Q b H'
def tMA (K : PySem.W.Frag) (CA : Tags) (XR : XRel) (W : WX) (f : Env → M (List Val)) : TA := fun σ H Q => ∃ m st ρ, SR K CA m st H ∧ ER K m st H ρ σ ∧
  PR K CA XR W σ (f ρ st) m st H fun a m' st' H' => ∀ vs, RepVs K m' st' H' a vs → Q vs H'
abbrev SE (CA : Tags) (XR : XRel) (X : Cx) (W : WX) (e : Expr) (f : CE) : Prop := PE X e (tM X.K CA XR W f)
abbrev STt (CA : Tags) (XR : XRel) (X : Cx) (W : WX) (e : Expr) (f : CT) : Prop := PT X e (tMT X.K CA XR W f)
abbrev SA (CA : Tags) (XR : XRel) (X : Cx) (W : WX) (es : List Expr) (f : Env → M (List Val)) : Prop := PA X es (tMA X.K CA XR W f)
theorem PE.weak {X : Cx} {e : Expr} {t t' : TE} (h : PE X e t) (k : ∀ σ H Q, t' σ H Q → t σ H Q) : PE X e t' := ⟨fun pins s σ H Q I q => h.run pins s σ H Q I (k σ H Q q)⟩
theorem PT.weak {X : Cx} {e : Expr} {t t' : TT} (h : PT X e t) (k : ∀ σ H Q, t' σ H Q → t σ H Q) : PT X e t' := ⟨fun pins s σ H Q I q => h.run pins s σ H Q I (k σ H Q q)⟩
theorem PA.weak {X : Cx} {e : List Expr} {t t' : TA} (h : PA X e t) (k : ∀ σ H Q, t' σ H Q → t σ H Q) : PA X e t' := ⟨fun pos pins s σ H Q I q => h.run pos pins s σ H Q I (k σ H Q q)⟩
section
variable {tb : Tab} {G : FEnv} {CA : Tags} {XR : XRel} {k : Nat} {N : List Str} {sc : Scope} {own : Str → Bool} {X : Cx} {W : WX}
variable {a b c e : Expr} {es : List Expr} {pos pos' : Pos} {f g h : CE}
theorem look_vis {sc : Scope} {x : Str} (h : (match sc.names.lookup x with
    | some .local => true
    | some .cell => true
    | some .free => true
    | _ => false) = true) : Vis sc x := by
  unfold Vis
  cases e : sc.names.lookup x with
  | none => rw [e] at h; cases h
  | some k => rw [e] at h; cases k <;> first | exact .inl rfl | exact .inr (.inl rfl) | exact .inr (.inr rfl) | cases h
def visB (sc : Scope) (x : Str) : Bool := (match sc.names.lookup x with
    | some .local => true
    | some .cell => true
    | some .free => true
    | _ => false) && !(x == ("__debug__" : Str)) && !(x == ("__classdict__" : Str))
def glbB (sc : Scope) (x : Str) : Bool := decide (sc.names.lookup x = some .globalImplicit) && !(x == ("__debug__" : Str)) && !(x == ("__name__" : Str))
theorem ER.get {K : PySem.W.Frag} {m : Mp} {st : Store} {H : Hp} {ρ : Env} {σ : L2.St} (E : ER K m st H ρ σ) {i : Nat} {w : Val} (e : ρ[i]? = some (some w)) : ∃ v, σ[i]? = some (some v) ∧ RepV K m st H w v := E.2 i w e
theorem se_var (C : Cw tb G CA XR k N sc own X W) (i : Nat) {x : Str} (hi : N[i]? = some x := by rfl) (hv : visB sc x = true := by rfl) : SE CA XR X W (.Name x pos) (eVar i) := by
  unfold visB at hv
  simp only [Bool.and_eq_true, Bool.not_eq_true'] at hv
  refine PE.weak (pe_var (i := i) (by rw [C.nm]; exact hi) (by rw [C.sc]; exact look_vis hv.1.1) hv.1.2 hv.2) fun σ H Q => ?_
  rintro ⟨m, st, ρ, S, E, q⟩
  unfold eVar at q
  cases e : ρ[i]? with
  | none => rw [e] at q; exact q.elim
  | some o =>
    rw [e] at q
    cases o with
    | none => exact q.elim
    | some w =>
      obtain ⟨v, e1, r⟩ := E.get e
      exact ⟨v, e1, PR.here S q v r⟩
theorem se_int {i : Int} {j : Nat} : SE CA XR X W (.Constant (.int i) j pos) (eC (.int i)) := PE.weak pe_int fun σ H Q ⟨m, st, ρ, S, E, q⟩ => PR.here S q (.int i) rfl
theorem se_bl {i : Bool} {j : Nat} : SE CA XR X W (.Constant (.bool i) j pos) (eC (.bl i)) := PE.weak pe_bl fun σ H Q ⟨m, st, ρ, S, E, q⟩ => PR.here S q (.bl i) rfl
theorem se_non {j : Nat} : SE CA XR X W (.Constant .none j pos) (eC .non) := PE.weak pe_non fun σ H Q ⟨m, st, ρ, S, E, q⟩ => PR.here S q .non rfl
theorem se_str {i : String} {j : Nat} : SE CA XR X W (.Constant (.str (Str.ofString i)) j pos) (eC (.str i)) := PE.weak pe_str fun σ H Q ⟨m, st, ρ, S, E, q⟩ => PR.here S q (.str i) rfl
/-! two values, one -/
theorem tM.bind {k' : Val → CE} {σ : L2.St} {H : Hp} {Q : VK} (h : tM X.K CA XR W (fun ρ => f ρ >>= fun x => k' x ρ) σ H Q) :
    ∃ m st ρ, SR X.K CA m st H ∧ ER X.K m st H ρ σ ∧ tM X.K CA XR W f σ H fun v H1 => ∃ x m1 st1, SR X.K CA m1 st1 H1 ∧ Step m st H m1 st1 H1 ∧ RepV X.K m1 st1 H1 x v ∧ ER X.K m1 st1 H1 ρ σ ∧
      PR X.K CA XR W σ (k' x ρ st1) m1 st1 H1 fun a m' st' H' => ∀ v, RepV X.K m' st' H' a v → Q v H' := by
  obtain ⟨m, st, ρ, S, E, q⟩ := h
  refine ⟨m, st, ρ, S, E, m, st, ρ, S, E, (PR.bind_of q).mono fun x m1 st1 H1 S1 T1 h1 v r => ⟨x, m1, st1, S1, T1, r, E.mono T1, h1⟩⟩
/-- a two-place operator by values -/
theorem two {k2 : Val → Val → M Val} {r : R2} {σ : L2.St} {H : Hp} {Q : VK} (hk : ∀ x y m st H v w Q, SR X.K CA m st H → RepV X.K m st H x v → RepV X.K m st H y w →
      PR X.K CA XR W σ (k2 x y st) m st H (fun a m' st' H' => ∀ u, RepV X.K m' st' H' a u → Q u H') → r v w H Q) (h : tM X.K CA XR W (e2 k2 f g) σ H Q) : tOp r (tM X.K CA XR W f) (tM X.K CA XR W g) σ H Q := by
  obtain ⟨m, st, ρ, S, E, q⟩ := h
  refine ⟨m, st, ρ, S, E, (PR.bind_of q).mono fun x m1 st1 H1 S1 T1 h1 v rv => ⟨m1, st1, ρ, S1, E.mono T1, (PR.bind_of h1).mono fun y m2 st2 H2 S2 T2 h2 w rw => ?_⟩⟩
  exact hk x y m2 st2 H2 v w Q S2 (RepV.mono T2 x v rv) rw h2
theorem se_bin {op : Operator} {k2 : Val → Val → M Val} {r : R2} (ho : OpR X (binaryOp op) r) (hk : ∀ σ x y m st H v w Q, SR X.K CA m st H → RepV X.K m st H x v → RepV X.K m st H y w →
      PR X.K CA XR W σ (k2 x y st) m st H (fun a m' st' H' => ∀ u, RepV X.K m' st' H' a u → Q u H') → r v w H Q) (ha : SE CA XR X W a f) (hb : SE CA XR X W b g) : SE CA XR X W (.BinOp a op b pos) (e2 k2 f g) :=
  PE.weak (pe_op ho ha hb) fun σ H Q q => two (hk σ) q
theorem se_sub (ha : SE CA XR X W a f) (hb : SE CA XR X W b g) : SE CA XR X W (.BinOp a .Sub b pos) (e2 subV f g) := by
  refine se_bin op_sub (fun σ x y m st H v w Q S rx ry q => ?_) ha hb
  unfold subV at q
  split at q
  · cases rx; cases ry
    exact ⟨_, _, rfl, rfl, PR.here S q _ rfl⟩
  · exact q.elim
theorem se_mod (ha : SE CA XR X W a f) (hb : SE CA XR X W b g) : SE CA XR X W (.BinOp a .Mod b pos) (e2 modV f g) := by
  refine se_bin op_modN (fun σ x y m st H v w Q S rx ry q => ?_) ha hb
  unfold modV at q
  split at q
  · cases rx; cases ry
    split at q
    · rename_i hj
      exact ⟨_, _, rfl, rfl, hj, PR.here S q _ rfl⟩
    · exact q.elim
  · exact q.elim
end
end Fl
set_option Elab.async false
set_option linter.all false
set_option maxRecDepth 100000
set_option maxHeartbeats 2000000
/-! Fl over the layer: new objects, cells written. -/
namespace Fl
open PySem PySem.Spec L2
theorem L_eq : sizeLine = L := by rw [sizeLine_eq]
theorem lineOf {n : Nat} (h : n ≤ L) : n ≤ sizeLine := by rw [L_eq]; exact h
theorem lineLt {n : Nat} (h : n < L) : n < sizeLine := by rw [L_eq]; exact h
theorem cell_app {st : Store} {c : Option Cell} {n : Nat} : (st ++ [c]).cell n = if n = st.length then c else st.cell n := by
  unfold Store.cell
  by_cases h : n = st.length
  · subst h; simp
  · rw [if_neg h]
    by_cases h2 : n < st.length
    · rw [List.getElem?_append_left h2]
    · rw [List.getElem?_eq_none (by simp; omega), List.getElem?_eq_none (by omega)]
theorem cell_set {st : Store} {c : Option Cell} {n k : Nat} (h : n < st.length) : Store.cell (st.set n c) k = if k = n then c else st.cell k := by
  unfold Store.cell
  by_cases e : k = n
  · subst e; rw [List.getElem?_set_self h, if_pos rfl]; rfl
  · rw [List.getElem?_set_ne (Ne.symm e), if_neg e]
theorem cell_lt {st : Store} {n : Nat} {c : Cell} (h : st.cell n = some c) : n < st.length := by
  unfold Store.cell at h
  by_cases e : n < st.length
  · exact e
  · rw [List.getElem?_eq_none (by omega)] at h; cases h
section
variable {K : PySem.W.Frag} {CA : Tags} {m : Mp} {st : Store} {H : Hp} {p : Addr} {o : HO}
theorem CellOk.mono {m' : Mp} {st' : Store} {H' : Hp} {a : Addr} (s : Step m st H m' st' H') (e : H' a = H a) : ∀ c, CellOk K CA m st H a c → CellOk K CA m' st' H' a c
  | .lst _, ⟨us, h, z, r⟩ => ⟨us, e.trans h, z, RepVs.mono s _ _ r⟩
  | .tup _, ⟨us, h, z, r⟩ => ⟨us, e.trans h, z, RepVs.mono s _ _ r⟩
  | .dct _, ⟨us, h, z, r⟩ => ⟨us, e.trans h, z, RepVK.mono s _ _ r⟩
  | .ins _ _, ⟨C, dx, us, ca, h, r⟩ => ⟨C, dx, us, ca, e.trans h, RepF.mono s _ _ r⟩
  | .kd _, ⟨us, h, z, r⟩ => ⟨us, e.trans h, z, RepKd.mono s _ _ r⟩
theorem CellOk.there {a : Addr} : ∀ {c}, CellOk K CA m st H a c → ∃ o, H a = some o
  | .lst _, ⟨us, h, _⟩ => ⟨_, h⟩
  | .tup _, ⟨us, h, _⟩ => ⟨_, h⟩
  | .dct _, ⟨us, h, _⟩ => ⟨_, h⟩
  | .ins _ _, ⟨C, dx, us, ca, h, r⟩ => ⟨_, h⟩
  | .kd _, ⟨us, h, _⟩ => ⟨_, h⟩
theorem SR.there (S : SR K CA m st H) {a : Addr} (h : live m st a) : ∃ o, H a = some o := by
  obtain ⟨n, c, e, rfl⟩ := h
  exact (S.cells n c e).there
/-- a new object that is no cell -/
theorem SR.fresh (S : SR K CA m st H) (hp : H p = none) : Step m st H m st (upd H p o) ∧ SR K CA m st (upd H p o) := by
  have T : Step m st H m st (upd H p o) := ⟨fun a u h _ => .inl (by rw [upd_ne (ne_of_none h hp)]; exact h), fun _ h => .inl h, fun _ _ => rfl, Nat.le_refl _⟩
  refine ⟨T, fun n c e => ?_, S.inj⟩
  have q := S.cells n c e
  obtain ⟨u, hu⟩ := q.there
  exact q.mono T (upd_ne (ne_of_none hu hp))
theorem SR.not_live (S : SR K CA m st H) (hp : H p = none) : ¬ live m st p := fun z => by
  obtain ⟨o, e⟩ := S.there z
  rw [hp] at e; cases e
/-- a new cell -/
def mNew (m : Mp) (st : Store) (p : Addr) : Mp := fun n => if n = st.length then p else m n
theorem mNew_same : mNew m st p st.length = p := if_pos rfl
theorem SR.cellStep (S : SR K CA m st H) (hp : H p = none) (c : Cell) : Step m st H (mNew m st p) (st ++ [some c]) (upd H p o) := by
  refine ⟨fun a u h _ => .inl (by rw [upd_ne (ne_of_none h hp)]; exact h), fun a h => ?_, fun n h => if_neg (Nat.ne_of_lt h), by simp⟩
  obtain ⟨n, d, e, rfl⟩ := h
  rw [cell_app] at e
  by_cases hn : n = st.length
  · subst hn; rw [mNew_same]; exact .inr hp
  · rw [if_neg hn] at e
    exact .inl ⟨n, d, e, (if_neg hn).symm⟩
theorem SR.newCell (S : SR K CA m st H) (hp : H p = none) {c : Cell} (h : CellOk K CA (mNew m st p) (st ++ [some c]) (upd H p o) p c) : SR K CA (mNew m st p) (st ++ [some c]) (upd H p o) := by
  have T := S.cellStep (o := o) hp c
  refine ⟨fun n d e => ?_, fun n n' d d' e e' q => ?_⟩
  · rw [cell_app] at e
    by_cases hn : n = st.length
    · subst hn; rw [if_pos rfl] at e; cases e; rw [mNew_same]; exact h
    · rw [if_neg hn] at e
      have z := S.cells n d e
      obtain ⟨u, hu⟩ := z.there
      have en : mNew m st p n = m n := if_neg hn
      rw [en]
      exact z.mono T (upd_ne (ne_of_none hu hp))
  · have key : ∀ {i : Nat} {d : Cell}, (st ++ [some c]).cell i = some d → i ≠ st.length → mNew m st p i ≠ p := fun {i d} e hi z => by
      rw [cell_app, if_neg hi] at e
      obtain ⟨u, hu⟩ := (S.cells i d e).there
      have : mNew m st p i = m i := if_neg hi
      rw [this] at z
      rw [z, hp] at hu; cases hu
    by_cases hn : n = st.length
    · by_cases hn' : n' = st.length
      · rw [hn, hn']
      · exact absurd (by rw [← q, hn, mNew_same]) (key e' hn')
    · by_cases hn' : n' = st.length
      · exact absurd (by rw [q, hn', mNew_same]) (key e hn)
      · rw [cell_app, if_neg hn] at e
        rw [cell_app, if_neg hn'] at e'
        have e1 : mNew m st p n = m n := if_neg hn
        have e2 : mNew m st p n' = m n' := if_neg hn'
        exact S.inj n n' d d' e e' (by rw [← e1, ← e2]; exact q)
/-- a cell is written -/
theorem SR.setStep (S : SR K CA m st H) {n : Nat} {c c' : Cell} (e : st.cell n = some c) : Step m st H m (st.set n (some c')) (upd H (m n) o) := by
  refine ⟨fun a u h l => ?_, fun a h => ?_, fun _ _ => rfl, by simp⟩
  · exact .inl (by rw [upd_ne fun z => l ⟨n, c, e, z.symm⟩]; exact h)
  · obtain ⟨k, d, q, rfl⟩ := h
    rw [cell_set (cell_lt e)] at q
    by_cases hk : k = n
    · subst hk; exact .inl ⟨k, c, e, rfl⟩
    · rw [if_neg hk] at q; exact .inl ⟨k, d, q, rfl⟩
theorem SR.setCell (S : SR K CA m st H) {n : Nat} {c c' : Cell} (e : st.cell n = some c) (h : CellOk K CA m (st.set n (some c')) (upd H (m n) o) (m n) c') : SR K CA m (st.set n (some c')) (upd H (m n) o) := by
  have T := S.setStep (o := o) (c' := c') e
  refine ⟨fun k d q => ?_, fun k k' d d' q q' z => ?_⟩
  · rw [cell_set (cell_lt e)] at q
    by_cases hk : k = n
    · subst hk; rw [if_pos rfl] at q; cases q; exact h
    · rw [if_neg hk] at q
      refine (S.cells k d q).mono T (upd_ne fun z => hk (S.inj k n d c q e z))
  · have key : ∀ {i : Nat} {d : Cell}, Store.cell (st.set n (some c')) i = some d → ∃ d', st.cell i = some d' := fun {i d} q => by
      rw [cell_set (cell_lt e)] at q
      by_cases hi : i = n
      · subst hi; exact ⟨c, e⟩
      · rw [if_neg hi] at q; exact ⟨d, q⟩
    obtain ⟨_, q1⟩ := key q
    obtain ⟨_, q2⟩ := key q'
    exact S.inj k k' _ _ q1 q2 z
/-- a cell is forgotten -/
theorem cell_none {n k : Nat} : Store.cell (st.set n none) k = if k = n then none else st.cell k := by
  by_cases h : n < st.length
  · exact cell_set h
  · rw [List.set_eq_of_length_le (by omega)]
    by_cases e : k = n
    · subst e; unfold Store.cell; rw [List.getElem?_eq_none (by omega), if_pos rfl]; rfl
    · rw [if_neg e]
theorem SR.drop (S : SR K CA m st H) (n : Nat) : Step m st H m (st.set n none) H ∧ SR K CA m (st.set n none) H := by
  have sub : ∀ {k d}, Store.cell (st.set n none) k = some d → st.cell k = some d := fun {k d} q => by
    rw [cell_none] at q
    by_cases hk : k = n
    · rw [if_pos hk] at q; cases q
    · rw [if_neg hk] at q; exact q
  have T : Step m st H m (st.set n none) H := ⟨fun _ _ h _ => .inl h, fun a ⟨k, d, q, e⟩ => .inl ⟨k, d, sub q, e⟩, fun _ _ => rfl, by simp⟩
  exact ⟨T, fun k d q => (S.cells k d (sub q)).mono T rfl, fun k k' d d' q q' => S.inj k k' d d' (sub q) (sub q')⟩
/-! ### lists of trees -/
theorem Reps.length {lv : Addr → Prop} : ∀ {ts : List T} {vs : List V}, Reps K H lv ts vs → ts.length = vs.length
  | [], _, h => by rw [show _ = _ from h]; rfl
  | _ :: r, _, ⟨v, q, e, _, h⟩ => by rw [e, List.length_cons, List.length_cons, Reps.length h]
theorem RepVs.length : ∀ {ts : List Val} {vs : List V}, RepVs K m st H ts vs → ts.length = vs.length
  | [], _, h => by rw [show _ = _ from h]; rfl
  | _ :: r, _, ⟨v, q, e, _, h⟩ => by rw [e, List.length_cons, List.length_cons, RepVs.length h]
theorem RepVK.length : ∀ {ts : List (Key × Val)} {vs : List (L2.Key × V)}, RepVK K m st H ts vs → ts.length = vs.length
  | [], _, h => by rw [show _ = _ from h]; rfl
  | _ :: r, _, ⟨v, q, e, _, h⟩ => by rw [e, List.length_cons, List.length_cons, RepVK.length h]
theorem RepVs.of_trees : ∀ {ws : List Val} {ts : List T} {vs : List V}, trees ws = some ts → RepVs K m st H ws vs → Reps K H (live m st) ts vs
  | [], ts, vs, h, r => by simp only [trees, Option.some.injEq] at h; subst h; exact r
  | .t d :: q, ts, vs, h, ⟨v, vr, e, r1, r2⟩ => by
    simp only [trees] at h
    cases e2 : trees q with
    | none => rw [e2] at h; cases h
    | some tq =>
      rw [e2] at h
      simp only [Option.some.injEq] at h
      subst h
      exact ⟨v, vr, e, r1, RepVs.of_trees e2 r2⟩
  | .loc n :: q, ts, vs, h, r => by simp [trees] at h
  | .scr n :: q, ts, vs, h, r => by simp [trees] at h
  | .ex n :: q, ts, vs, h, r => by simp [trees] at h
theorem trees_eq : ∀ {ws : List Val} {ts : List T}, trees ws = some ts → ws = ts.map .t
  | [], ts, h => by simp only [trees, Option.some.injEq] at h; subst h; rfl
  | .t d :: q, ts, h => by
    simp only [trees] at h
    cases e2 : trees q with
    | none => rw [e2] at h; cases h
    | some tq =>
      rw [e2] at h
      simp only [Option.some.injEq] at h
      subst h
      rw [trees_eq e2]; rfl
  | .loc n :: q, ts, h => by simp [trees] at h
  | .scr n :: q, ts, h => by simp [trees] at h
  | .ex n :: q, ts, h => by simp [trees] at h
theorem trees_length {ws : List Val} {ts : List T} (h : trees ws = some ts) : ts.length = ws.length := by rw [trees_eq h, List.length_map]
theorem RepVs.of_reps : ∀ {ts : List T} {vs : List V}, Reps K H (live m st) ts vs → RepVs K m st H (ts.map .t) vs
  | [], _, h => h
  | d :: r, _, ⟨v, q, e, h1, h2⟩ => ⟨v, q, e, h1, RepVs.of_reps h2⟩
theorem RepVs.get : ∀ {ws : List Val} {vs : List V} {i : Nat} {w : Val}, RepVs K m st H ws vs → ws[i]? = some w → ∃ v, vs[i]? = some v ∧ RepV K m st H w v
  | [], _, _, _, _, h => by simp at h
  | w :: q, _, 0, _, ⟨v, vr, e, r1, _⟩, h => by simp only [List.getElem?_cons_zero, Option.some.injEq] at h; subst h; exact ⟨v, by rw [e]; rfl, r1⟩
  | w :: q, _, i + 1, _, ⟨v, vr, e, _, r2⟩, h => by
    obtain ⟨u, h1, h2⟩ := RepVs.get (i := i) r2 (by simpa using h)
    exact ⟨u, by rw [e]; simpa using h1, h2⟩
theorem Reps.get {lv : Addr → Prop} : ∀ {ws : List T} {vs : List V} {i : Nat} {w : T}, Reps K H lv ws vs → ws[i]? = some w → ∃ v, vs[i]? = some v ∧ Rep K H lv w v
  | [], _, _, _, _, h => by simp at h
  | w :: q, _, 0, _, ⟨v, vr, e, r1, _⟩, h => by simp only [List.getElem?_cons_zero, Option.some.injEq] at h; subst h; exact ⟨v, by rw [e]; rfl, r1⟩
  | w :: q, _, i + 1, _, ⟨v, vr, e, _, r2⟩, h => by
    obtain ⟨u, h1, h2⟩ := Reps.get (i := i) r2 (by simpa using h)
    exact ⟨u, by rw [e]; simpa using h1, h2⟩
theorem RepVs.append : ∀ {ws us : List Val} {vs xs : List V}, RepVs K m st H ws vs → RepVs K m st H us xs → RepVs K m st H (ws ++ us) (vs ++ xs)
  | [], us, vs, xs, h, r => by rw [show vs = [] from h]; exact r
  | w :: q, us, _, xs, ⟨v, vr, e, r1, r2⟩, r => ⟨v, vr ++ xs, by rw [e]; rfl, r1, RepVs.append r2 r⟩
theorem RepVs.drop : ∀ {ws : List Val} {vs : List V} (n : Nat), RepVs K m st H ws vs → RepVs K m st H (ws.drop n) (vs.drop n)
  | _, _, 0, h => h
  | [], _, n + 1, h => by rw [show _ = _ from h]; exact rfl
  | w :: q, _, n + 1, ⟨v, vr, e, r1, r2⟩ => by rw [e]; exact RepVs.drop n r2
theorem RepVs.take : ∀ {ws : List Val} {vs : List V} (n : Nat), RepVs K m st H ws vs → RepVs K m st H (ws.take n) (vs.take n)
  | _, _, 0, h => rfl
  | [], _, n + 1, h => by rw [show _ = _ from h]; exact rfl
  | w :: q, _, n + 1, ⟨v, vr, e, r1, r2⟩ => by rw [e]; exact ⟨v, vr.take n, rfl, r1, RepVs.take n r2⟩
theorem RepVs.set {x : Val} {y : V} (r : RepV K m st H x y) : ∀ {ws : List Val} {vs : List V} (n : Nat), RepVs K m st H ws vs → RepVs K m st H (ws.set n x) (vs.set n y)
  | [], _, n, h => by rw [show _ = _ from h]; exact rfl
  | w :: q, _, 0, ⟨v, vr, e, r1, r2⟩ => by rw [e]; exact ⟨y, vr, rfl, r, r2⟩
  | w :: q, _, n + 1, ⟨v, vr, e, r1, r2⟩ => by rw [e]; exact ⟨v, vr.set n y, rfl, r1, RepVs.set r n r2⟩
theorem RepVs.eraseIdx : ∀ {ws : List Val} {vs : List V} (n : Nat), RepVs K m st H ws vs → RepVs K m st H (ws.eraseIdx n) (vs.eraseIdx n)
  | [], _, n, h => by rw [show _ = _ from h]; exact rfl
  | w :: q, _, 0, ⟨v, vr, e, r1, r2⟩ => by rw [e]; exact r2
  | w :: q, _, n + 1, ⟨v, vr, e, r1, r2⟩ => by rw [e]; exact ⟨v, vr.eraseIdx n, rfl, r1, RepVs.eraseIdx n r2⟩
theorem RepVs.toInts {ns : List Int} : ∀ {ws : List Val} {ns : List Int} {vs : List V}, intsOf ws = some ns → RepVs K m st H ws vs → vs = ns.map V.int
  | [], ns, vs, h, r => by simp only [intsOf, Option.some.injEq] at h; subst h; exact r
  | .t (.int d) :: q, ns, vs, h, ⟨v, vr, e, r1, r2⟩ => by
    simp only [intsOf] at h
    cases e2 : Fl.intsOf q with
    | none => rw [e2] at h; cases h
    | some tq =>
      rw [e2] at h
      simp only [Option.some.injEq] at h
      subst h
      rw [e, List.map_cons, RepVs.toInts (ns := []) e2 r2, show v = .int d from r1]
  | .t .non :: q, ns, vs, h, r => by simp [intsOf] at h
  | .t (.bl _) :: q, ns, vs, h, r => by simp [intsOf] at h
  | .t (.str _) :: q, ns, vs, h, r => by simp [intsOf] at h
  | .t (.tup _) :: q, ns, vs, h, r => by simp [intsOf] at h
  | .t (.lst _) :: q, ns, vs, h, r => by simp [intsOf] at h
  | .t (.dct _) :: q, ns, vs, h, r => by simp [intsOf] at h
  | .t (.rp _) :: q, ns, vs, h, r => by simp [intsOf] at h
  | .loc n :: q, ns, vs, h, r => by simp [intsOf] at h
  | .scr n :: q, ns, vs, h, r => by simp [intsOf] at h
  | .ex n :: q, ns, vs, h, r => by simp [intsOf] at h
end
/-! ### what a new list gives -/
section
variable {K : PySem.W.Frag} {CA : Tags} {XR : XRel} {W : WX} {σ : L2.St} {m : Mp} {st : Store} {H : Hp} {Q : VK} {cell : Bool} {ws : List Val} {vs : List V}
theorem newL_ok (S : SR K CA m st H) (r : RepVs K m st H ws vs) (z : ws.length ≤ L) (q : PR K CA XR W σ (newL cell ws st) m st H fun a m' st' H' => ∀ v, RepV K m' st' H' a v → Q v H') :
    ∀ p, H p = none → Q (.ref p) (upd H p (.lst vs)) := fun p hp => by
  cases cell with
  | true =>
    have T := S.cellStep (o := .lst vs) hp (.lst ws)
    refine q (mNew m st p) _ (S.newCell hp ⟨vs, upd_same, z, RepVs.mono T _ _ r⟩) T (.ref p) ⟨by simp, ?_⟩
    rw [mNew_same]
  | false =>
    unfold newL at q
    dsimp only at q
    cases e : trees ws with
    | none => rw [e] at q; exact q.elim
    | some ts =>
      rw [e] at q
      obtain ⟨T, S'⟩ := S.fresh (o := .lst vs) hp
      refine q m _ S' T (.ref p) ⟨p, vs, rfl, ⟨upd_same, S.not_live hp⟩, by rw [trees_length e]; exact z, ?_⟩
      exact RepVs.of_trees (m := m) (st := st) e (RepVs.mono T _ _ r)
theorem newT_ok (S : SR K CA m st H) (r : RepVs K m st H ws vs) (z : ws.length ≤ L) (q : PR K CA XR W σ (newT cell ws st) m st H fun a m' st' H' => ∀ v, RepV K m' st' H' a v → Q v H') :
    ∀ p, H p = none → Q (.ref p) (upd H p (.tup vs)) := fun p hp => by
  cases cell with
  | true =>
    have T := S.cellStep (o := .tup vs) hp (.tup ws)
    refine q (mNew m st p) _ (S.newCell hp ⟨vs, upd_same, z, RepVs.mono T _ _ r⟩) T (.ref p) ⟨by simp, ?_⟩
    rw [mNew_same]
  | false =>
    unfold newT at q
    dsimp only at q
    cases e : trees ws with
    | none => rw [e] at q; exact q.elim
    | some ts =>
      rw [e] at q
      obtain ⟨T, S'⟩ := S.fresh (o := .tup vs) hp
      refine q m _ S' T (.ref p) ⟨p, vs, rfl, .inl ⟨upd_same, S.not_live hp⟩, by rw [trees_length e]; exact z, ?_⟩
      exact RepVs.of_trees (m := m) (st := st) e (RepVs.mono T _ _ r)
end
end Fl
set_option Elab.async false
set_option linter.all false
set_option maxRecDepth 100000
set_option maxHeartbeats 2000000
/-! Fl over the layer: expressions. -/
namespace Fl
open PySem PySem.Spec L2
theorem ofStr_app (a b : String) : Str.ofString a ++ Str.ofString b = Str.ofString (a ++ b) := by
  show (⟨(Str.ofString a).cps ++ (Str.ofString b).cps⟩ : Str) = _
  rw [Str.ofString_eq_toList, Str.ofString_eq_toList, Str.ofString_eq_toList]
  simp
theorem ofStr_len (a : String) : (Str.ofString a).length = a.length := by
  show (Str.ofString a).cps.size = _
  rw [Str.ofString_eq_toList]
  simp only [List.size_toArray, List.length_map]
  exact String.length_toList
theorem ofStr_ok (a : String) : PyData.strOk (Str.ofString a) = true := by
  rw [Str.ofString_eq_toList]
  unfold PyData.strOk
  simp only [Array.all_eq_true', List.mem_toArray, List.mem_map, decide_eq_true_eq]
  rintro n ⟨c, _, rfl⟩
  have h := c.valid
  simp only [UInt32.isValidChar, Nat.isValidChar] at h
  show c.val.toNat < _
  omega
/-! ### data of the library -/
mutual
theorem depth_le : ∀ (n : Nat) (d : T), T.plain n d = true → (toPy d).depth ≤ n
  | n, .non, _ => by simp [toPy, PyData.depth]
  | n, .bl _, _ => by simp [toPy, PyData.depth]
  | n, .int _, _ => by simp [toPy, PyData.depth]
  | n, .str _, _ => by simp [toPy, PyData.depth]
  | 0, .tup a, h => by simp [T.plain] at h
  | 0, .lst a, h => by simp [T.plain] at h
  | n + 1, .tup a, h => by
    simp only [T.plain] at h
    simp only [toPy, PyData.depth]
    have := depths_le n a h
    omega
  | n + 1, .lst a, h => by
    simp only [T.plain] at h
    simp only [toPy, PyData.depth]
    have := depths_le n a h
    omega
  | n, .dct _, h => by cases n <;> simp [T.plain] at h
  | n, .rp _, h => by cases n <;> simp [T.plain] at h
theorem depths_le : ∀ (n : Nat) (ds : List T), ds.all (T.plain n) = true → PyData.depthAll (toPys ds) ≤ n
  | n, [], _ => by simp [toPys, PyData.depthAll]
  | n, d :: r, h => by
    simp only [List.all_cons, Bool.and_eq_true] at h
    simp only [toPys, PyData.depthAll]
    have h1 := depth_le n d h.1
    have h2 := depths_le n r h.2
    omega
end
mutual
theorem canLay_plain : ∀ (n : Nat) (d : T), T.plain n d = true → (toPy d).canLay0 = true
  | n, .non, _ => by simp [toPy, PyData.canLay0]
  | n, .bl _, _ => by simp [toPy, PyData.canLay0]
  | n, .int _, _ => by simp [toPy, PyData.canLay0]
  | n, .str x, _ => by simp [toPy, PyData.canLay0, ofStr_ok]
  | 0, .tup a, h => by simp [T.plain] at h
  | 0, .lst a, h => by simp [T.plain] at h
  | n + 1, .tup a, h => by
    simp only [T.plain] at h
    simp only [toPy, PyData.canLay0]
    exact canLays_plain n a h
  | n + 1, .lst a, h => by
    simp only [T.plain] at h
    simp only [toPy, PyData.canLay0]
    exact canLays_plain n a h
  | n, .dct _, h => by cases n <;> simp [T.plain] at h
  | n, .rp _, h => by cases n <;> simp [T.plain] at h
theorem canLays_plain : ∀ (n : Nat) (ds : List T), ds.all (T.plain n) = true → PyData.canLayAll0 (toPys ds) = true
  | n, [], _ => by simp [toPys, PyData.canLayAll0]
  | n, d :: r, h => by
    simp only [List.all_cons, Bool.and_eq_true] at h
    simp only [toPys, PyData.canLayAll0, Bool.and_eq_true]
    exact ⟨canLay_plain n d h.1, canLays_plain n r h.2⟩
end
theorem shaped_plain {d : T} (h : T.plain 60 d = true) : SeqAt.shaped (toPy d) = true := by
  unfold SeqAt.shaped
  rw [canLay_plain 60 d h]
  have := depth_le 60 d h
  simp only [Bool.true_and, decide_eq_true_eq]
  omega
theorem ofStr_beq (a b : String) : (Str.ofString a == Str.ofString b) = (a == b) := by
  by_cases e : a = b
  · subst e; simp
  · have e' : Str.ofString a ≠ Str.ofString b := fun z => e (ofString_inj z)
    rw [beq_eq_false_iff_ne.mpr e, beq_eq_false_iff_ne.mpr e']
mutual
theorem eqv_eq : ∀ (n k : Nat) (a b : T), T.plain n a = true → T.plain k b = true → PyData.eqv (toPy a) (toPy b) = T.eqv a b
  | n, k, a, b, ha, hb => by
    cases a <;> cases b <;> first
      | (simp only [toPy, PyData.eqv, T.eqv]; done)
      | (simp only [toPy, PyData.eqv, T.eqv, ofStr_beq]; done)
      | (exfalso; revert hb; cases k <;> simp [T.plain]; done)
      | (exfalso; revert ha; cases n <;> simp [T.plain]; done)
      | skip
    · cases n with
      | zero => simp [T.plain] at ha
      | succ n =>
        cases k with
        | zero => simp [T.plain] at hb
        | succ k =>
          simp only [T.plain] at ha hb
          simp only [toPy, PyData.eqv, T.eqv]
          exact eqvs_eq n k _ _ ha hb
    · cases n with
      | zero => simp [T.plain] at ha
      | succ n =>
        cases k with
        | zero => simp [T.plain] at hb
        | succ k =>
          simp only [T.plain] at ha hb
          simp only [toPy, PyData.eqv, T.eqv]
          exact eqvs_eq n k _ _ ha hb
theorem eqvs_eq : ∀ (n k : Nat) (a b : List T), a.all (T.plain n) = true → b.all (T.plain k) = true → PyData.eqvAll (toPys a) (toPys b) = T.eqvs a b
  | _, _, [], [], _, _ => by simp only [toPys, PyData.eqvAll, T.eqvs]
  | _, _, [], _ :: _, _, _ => by simp only [toPys, PyData.eqvAll, T.eqvs]
  | _, _, _ :: _, [], _, _ => by simp only [toPys, PyData.eqvAll, T.eqvs]
  | n, k, a :: r, b :: q, ha, hb => by
    simp only [List.all_cons, Bool.and_eq_true] at ha hb
    simp only [toPys, PyData.eqvAll, T.eqvs]
    rw [eqv_eq n k a b ha.1 hb.1, eqvs_eq n k r q ha.2 hb.2]
end
section
variable {K : PySem.W.Frag} {CA : Tags} {m : Mp} {st : Store} {H : Hp}
mutual
theorem Rep.dp {lv : Addr → Prop} : ∀ (n : Nat) (d : T) (v : V), T.plain n d = true → Rep K H lv d v → Dp K H v (toPy d)
  | n, .non, v, _, h => by rw [show v = .non from h]; simp only [toPy]; exact .non
  | n, .bl b, v, _, h => by rw [show v = .bl b from h]; simp only [toPy]; exact .bl b
  | n, .int b, v, _, h => by rw [show v = .int b from h]; simp only [toPy]; exact .int b
  | n, .str b, v, _, h => by rw [show v = .str (Str.ofString b) from h]; simp only [toPy]; exact .str _
  | 0, .tup a, _, h, _ => by simp [T.plain] at h
  | 0, .lst a, _, h, _ => by simp [T.plain] at h
  | n + 1, .tup ts, v, h, r => by
    simp only [T.plain] at h
    obtain ⟨a, vs, rfl, q, z, rs⟩ := r
    simp only [toPy]
    refine .tup ?_ (Reps.dp n ts vs h rs)
    rcases q with q | q
    · exact .of q.1
    · exact q H
  | n + 1, .lst ts, v, h, r => by
    simp only [T.plain] at h
    obtain ⟨a, vs, rfl, q, z, rs⟩ := r
    simp only [toPy]
    exact .lst (.of q.1) (Reps.dp n ts vs h rs)
  | n, .dct _, _, h, _ => by cases n <;> simp [T.plain] at h
  | n, .rp _, _, h, _ => by cases n <;> simp [T.plain] at h
theorem Reps.dp {lv : Addr → Prop} : ∀ (n : Nat) (ds : List T) (vs : List V), ds.all (T.plain n) = true → Reps K H lv ds vs → DpAll K H vs (toPys ds)
  | n, [], vs, _, h => by rw [show vs = [] from h]; simp only [toPys]; exact .nil
  | n, d :: r, vs, h, q => by
    simp only [List.all_cons, Bool.and_eq_true] at h
    obtain ⟨v, vr, rfl, r1, r2⟩ := q
    simp only [toPys]
    exact .cons (Rep.dp n d v h.1 r1) (Reps.dp n r vr h.2 r2)
end
/-- through cells too -/
theorem deep_dp (S : SR K CA m st H) : ∀ (f : Nat), (∀ (w : Val) (v : V) (d : T) (n : Nat), deep st f w = some d → T.plain n d = true → RepV K m st H w v → Dp K H v (toPy d)) ∧
    (∀ (ws : List Val) (vs : List V) (ds : List T) (n : Nat), deeps st f ws = some ds → ds.all (T.plain n) = true → RepVs K m st H ws vs → DpAll K H vs (toPys ds))
  | 0 => by
    refine ⟨fun w v d n h hp r => ?_, fun ws vs ds n h hp r => ?_⟩
    · cases w with
      | t c => simp only [deep, Option.some.injEq] at h; subst h; exact Rep.dp n c v hp r
      | loc k => simp [deep] at h
      | scr k => simp [deep] at h
      | ex k => simp [deep] at h
    · cases ws with
      | nil => simp only [deeps, Option.some.injEq] at h; subst h; rw [show vs = [] from r]; simp only [toPys]; exact .nil
      | cons w q => simp [deeps] at h
  | f + 1 => by
    obtain ⟨ih1, ih2⟩ := deep_dp S f
    refine ⟨fun w v d n h hp r => ?_, fun ws vs ds n h hp r => ?_⟩
    · cases w with
      | t c => simp only [deep, Option.some.injEq] at h; subst h; exact Rep.dp n c v hp r
      | scr k => simp [deep] at h
      | ex k => simp [deep] at h
      | loc k =>
        obtain ⟨_, rfl⟩ := r
        simp only [deep] at h
        cases e : st.cell k with
        | none => rw [e] at h; cases h
        | some c =>
          have q := S.cells k c e
          rw [e] at h
          cases c with
          | lst ws =>
            dsimp only at h
            cases e2 : deeps st f ws with
            | none => rw [e2] at h; cases h
            | some ts =>
              rw [e2] at h
              simp only [Option.some.injEq] at h
              subst h
              obtain ⟨us, hH, _, rs⟩ := q
              cases n with
              | zero => simp [T.plain] at hp
              | succ n =>
                simp only [T.plain] at hp
                simp only [toPy]
                exact .lst (.of hH) (ih2 ws us ts n e2 hp rs)
          | tup ws =>
            dsimp only at h
            cases e2 : deeps st f ws with
            | none => rw [e2] at h; cases h
            | some ts =>
              rw [e2] at h
              simp only [Option.some.injEq] at h
              subst h
              obtain ⟨us, hH, _, rs⟩ := q
              cases n with
              | zero => simp [T.plain] at hp
              | succ n =>
                simp only [T.plain] at hp
                simp only [toPy]
                exact .tup (.of hH) (ih2 ws us ts n e2 hp rs)
          | dct _ => cases h
          | ins _ _ => cases h
          | kd _ => cases h
    · cases ws with
      | nil => simp only [deeps, Option.some.injEq] at h; subst h; rw [show vs = [] from r]; simp only [toPys]; exact .nil
      | cons w q =>
        simp only [deeps] at h
        cases e1 : deep st f w with
        | none => rw [e1] at h; cases h
        | some d =>
          rw [e1] at h
          dsimp only at h
          cases e2 : deeps st f q with
          | none => rw [e2] at h; cases h
          | some ts =>
            rw [e2] at h
            simp only [Option.some.injEq] at h
            subst h
            obtain ⟨v, vr, rfl, r1, r2⟩ := r
            simp only [List.all_cons, Bool.and_eq_true] at hp
            simp only [toPys]
            exact .cons (ih1 w v d n e1 hp.1 r1) (ih2 q vr ts n e2 hp.2 r2)
end
end Fl
namespace Fl
mutual
theorem T_beq : ∀ {a b : T}, T.beq a b = true → a = b
  | a, b, h => by
    cases a <;> cases b <;> simp only [T.beq, Bool.false_eq_true, beq_iff_eq] at h <;> first | rfl | (subst h; rfl) | (rw [T_beqs h]) | (rw [T_beqk h]) | (rw [T_beq h])
theorem T_beqs : ∀ {a b : List T}, T.beqs a b = true → a = b
  | [], [], _ => rfl
  | [], _ :: _, h => by simp [T.beqs] at h
  | _ :: _, [], h => by simp [T.beqs] at h
  | a :: r, b :: q, h => by
    simp only [T.beqs, Bool.and_eq_true] at h
    rw [T_beq h.1, T_beqs h.2]
theorem T_beqk : ∀ {a b : List (Key × T)}, T.beqk a b = true → a = b
  | [], [], _ => rfl
  | [], _ :: _, h => by simp [T.beqk] at h
  | _ :: _, [], h => by simp [T.beqk] at h
  | a :: r, b :: q, h => by
    simp only [T.beqk, Bool.and_eq_true] at h
    rw [T_beqp h.1, T_beqk h.2]
theorem T_beqp : ∀ {a b : Key × T}, T.beqp a b = true → a = b
  | (k, a), (l, b), h => by
    simp only [T.beqp, Bool.and_eq_true, decide_eq_true_eq] at h
    rw [h.1, T_beq h.2]
end
end Fl
set_option Elab.async false
set_option linter.all false
set_option maxRecDepth 100000
set_option maxHeartbeats 2000000
/-! Fl over the layer: operators, comparisons, tests. -/
namespace Fl
open PySem PySem.Spec L2
/-! ### a value's parts, known -/
section
variable {α : Type} {K : PySem.W.Frag} {CA : Tags} {XR : XRel} {W : WX} {σ : L2.St} {m : Mp} {st : Store} {H : Hp} {x : Val} {v : V} {ok : α → Mp → Store → Hp → Prop}
theorem getInt_ok {k : Int → M α} (r : RepV K m st H x v) (q : PR K CA XR W σ ((getInt x st).bind k) m st H ok) : ∃ i, x = .t (.int i) ∧ v = .int i ∧ PR K CA XR W σ (k i st) m st H ok := by
  unfold getInt at q
  split at q
  · exact ⟨_, rfl, r, q⟩
  · exact q.elim
theorem getB_ok {k : Bool → M α} (r : RepV K m st H x v) (q : PR K CA XR W σ ((getB x st).bind k) m st H ok) : ∃ b, x = .t (.bl b) ∧ v = .bl b ∧ PR K CA XR W σ (k b st) m st H ok := by
  unfold getB at q
  split at q
  · exact ⟨_, rfl, r, q⟩
  · exact q.elim
theorem itemsL_ok {k : List Val → M α} (S : SR K CA m st H) (r : RepV K m st H x v) (q : PR K CA XR W σ ((itemsL x st).bind k) m st H ok) :
    ∃ ws a us, v = .ref a ∧ H a = some (.lst us) ∧ RepVs K m st H ws us ∧ ws.length ≤ L ∧ PR K CA XR W σ (k ws st) m st H ok := by
  unfold itemsL at q
  split at q
  · obtain ⟨a, us, e, ⟨h, _⟩, z, rs⟩ := r
    exact ⟨_, a, us, e, h, RepVs.of_reps rs, by rw [List.length_map]; exact z, q⟩
  · rename_i n
    obtain ⟨_, e⟩ := r
    cases c : st.cell n with
    | none => rw [c] at q; exact q.elim
    | some d =>
      rw [c] at q
      cases d with
      | lst ws =>
        obtain ⟨us, h, z, rs⟩ := S.cells n _ c
        exact ⟨ws, m n, us, e, h, rs, z, q⟩
      | _ => exact q.elim
  · exact q.elim
theorem scr_reps : ∀ ns : List Int, RepVs K m st H (ns.map fun i => Val.t (.int i)) (ns.map V.int)
  | [] => rfl
  | n :: r => ⟨.int n, r.map V.int, rfl, rfl, scr_reps r⟩
/-- a list, a tuple, the script -/
theorem items_ok {k : List Val → M α} (S : SR K CA m st H) (r : RepV K m st H x v) (q : PR K CA XR W σ ((items x st).bind k) m st H ok) :
    ∃ ws a us, v = .ref a ∧ (SqL K H a us ∨ SqT K H a us) ∧ RepVs K m st H ws us ∧ ws.length ≤ L ∧ PR K CA XR W σ (k ws st) m st H ok := by
  unfold items at q
  split at q
  · obtain ⟨z, a, e, h⟩ := r
    refine ⟨_, a, _, e, .inl ?_, scr_reps _, by rw [List.length_map]; exact z, q⟩
    rcases h with h | h
    · exact h.2.2
    · exact h H
  · obtain ⟨a, us, e, ⟨h, _⟩, z, rs⟩ := r
    exact ⟨_, a, us, e, .inl (.of h), RepVs.of_reps rs, by rw [List.length_map]; exact z, q⟩
  · obtain ⟨a, us, e, h, z, rs⟩ := r
    refine ⟨_, a, us, e, .inr ?_, RepVs.of_reps rs, by rw [List.length_map]; exact z, q⟩
    rcases h with h | h
    · exact .of h.1
    · exact h H
  · rename_i n
    obtain ⟨_, e⟩ := r
    cases c : st.cell n with
    | none => rw [c] at q; exact q.elim
    | some d =>
      rw [c] at q
      cases d with
      | lst ws =>
        obtain ⟨us, h, z, rs⟩ := S.cells n _ c
        exact ⟨ws, m n, us, e, .inl (.of h), rs, z, q⟩
      | tup ws =>
        obtain ⟨us, h, z, rs⟩ := S.cells n _ c
        exact ⟨ws, m n, us, e, .inr (.of h), rs, z, q⟩
      | _ => exact q.elim
  · exact q.elim
end
section
variable {tb : Tab} {G : FEnv} {CA : Tags} {XR : XRel} {k : Nat} {N : List Str} {sc : Scope} {own : Str → Bool} {X : Cx} {W : WX}
variable {a b c e : Expr} {es : List Expr} {pos pos' : Pos} {f g h : CE} {t u : CT}
/-! ### arithmetic -/
theorem RepVs.rep {K : PySem.W.Frag} {m : Mp} {st : Store} {H : Hp} {ws : List Val} {us : List V} (r : RepVs K m st H ws us) : ∀ n : Nat, RepVs K m st H (List.replicate n ws).flatten (List.replicate n us).flatten
  | 0 => rfl
  | n + 1 => by
    rw [List.replicate_succ, List.replicate_succ, List.flatten_cons, List.flatten_cons]
    exact r.append (RepVs.rep r n)
theorem se_add (cell : Bool) (ha : SE CA XR X W a f) (hb : SE CA XR X W b g) : SE CA XR X W (.BinOp a .Add b pos) (e2 (addV cell) f g) := by
  refine se_bin (op_add.or (op_add_str.or (op_cat.or op_catA))) (fun σ x y m st H v w Q S rx ry q => ?_) ha hb
  unfold addV at q
  split at q
  · cases rx; cases ry
    exact .inl ⟨_, _, rfl, rfl, PR.here S q _ rfl⟩
  · rename_i p p'
    cases rx; cases ry
    split at q
    · rename_i hz
      refine .inr (.inl ⟨_, _, rfl, rfl, ?_, ?_⟩)
      · rw [ofStr_len, ofStr_len]; exact lineOf hz
      · rw [ofStr_app]; exact PR.here S q _ rfl
    · exact q.elim
  · rename_i ts us
    obtain ⟨ad, vs, rfl, h1, z1, r1⟩ := rx
    obtain ⟨bd, ws, rfl, h2, z2, r2⟩ := ry
    split at q
    · rename_i hz
      refine .inr (.inr (.inr ⟨ad, bd, vs, ws, rfl, rfl, ?_, ?_, ?_, ?_, ?_, ?_⟩))
      · rcases h1 with h | h
        · exact .of h.1
        · exact h H
      · rcases h2 with h | h
        · exact .of h.1
        · exact h H
      · rw [← r1.length, ← r2.length]; exact lineOf hz
      · intro e1
        have : ts = [] := by
          have := r1.length
          rw [e1] at this
          exact List.length_eq_zero_iff.mp this
        subst this
        exact PR.here S q _ ⟨bd, ws, rfl, h2, by simpa using z2, by simpa using r2⟩
      · intro _ e1
        have : us = [] := by
          have := r2.length
          rw [e1] at this
          exact List.length_eq_zero_iff.mp this
        subst this
        exact PR.here S q _ ⟨ad, vs, rfl, h1, by simpa using z1, by simpa using r1⟩
      · intro _ _ p hp
        obtain ⟨T, S'⟩ := S.fresh (o := .tup (vs ++ ws)) hp
        refine q m _ S' T _ ⟨p, vs ++ ws, rfl, .inl ⟨upd_same, S.not_live hp⟩, by rw [List.length_append]; exact hz, ?_⟩
        have rr := RepVs.append (RepVs.of_reps (Reps.mono T.keep T.lv _ _ r1)) (RepVs.of_reps (Reps.mono T.keep T.lv _ _ r2))
        rw [← List.map_append] at rr
        exact RepVs.of_trees (trees_map _) rr
    · exact q.elim
  · obtain ⟨ws, ad, us, rfl, h1, r1, z1, q⟩ := itemsL_ok S rx q
    obtain ⟨ws2, bd, us2, rfl, h2, r2, z2, q⟩ := itemsL_ok S ry q
    split at q
    · rename_i hz
      refine .inr (.inr (.inl ⟨ad, bd, us, us2, rfl, rfl, h1, h2, ?_, ?_⟩))
      · rw [← r1.length, ← r2.length]; exact lineOf hz
      · exact newL_ok S (r1.append r2) (by rw [List.length_append]; exact hz) q
    · exact q.elim
theorem se_mul (cell : Bool) (ha : SE CA XR X W a f) (hb : SE CA XR X W b g) : SE CA XR X W (.BinOp a .Mult b pos) (e2 (mulV cell) f g) := by
  refine se_bin (op_mul.or op_rep) (fun σ x y m st H v w Q S rx ry q => ?_) ha hb
  unfold mulV at q
  split at q
  · cases rx; cases ry
    split at q
    · rename_i hm
      refine .inl ⟨_, _, rfl, rfl, ?_, PR.here S q _ rfl⟩
      unfold mulOk at hm
      simpa [CMul] using hm
    · exact q.elim
  · cases ry
    obtain ⟨ws, ad, us, rfl, h1, r1, z1, q⟩ := itemsL_ok S rx q
    split at q
    · rename_i hz
      refine .inr ⟨ad, _, us, rfl, rfl, h1, by omega, by omega, by rw [← r1.length]; exact lineOf hz.2.2, ?_⟩
      refine newL_ok S ?_ ?_ q
      · exact RepVs.rep r1 _
      · rw [List.length_flatten, List.map_replicate, List.sum_replicate_nat, Nat.mul_comm]
        exact hz.2.2
    · exact q.elim
  · exact q.elim
theorem op_fdivB : OpR X (binaryOp .FloorDiv) (rI (fun _ j => j ≠ 0 ∧ j.natAbs < 2 ^ 62) fun i j => .int (i.fdiv j)) := opI fun i j _ _ _ _ _ hc q => by
  have hl : j.natAbs.log2 < 9000 := by
    have := PySem.Flt.log2_lt_of (k := 62) (by decide) hc.2
    omega
  exact PyProof.Rows.floordiv_int hc.1 q (.inl (PyProof.noPylong_of_log2 hl))
theorem se_fdiv (ha : SE CA XR X W a f) (hb : SE CA XR X W b g) : SE CA XR X W (.BinOp a .FloorDiv b pos) (e2 fdivV f g) := by
  refine se_bin op_fdivB (fun σ x y m st H v w Q S rx ry q => ?_) ha hb
  unfold fdivV at q
  split at q
  · cases rx; cases ry
    split at q
    · rename_i hj
      unfold fdivOk at hj
      simp only [Bool.and_eq_true, decide_eq_true_eq, cdec_iff] at hj
      exact ⟨_, _, rfl, rfl, hj, PR.here S q _ rfl⟩
    · exact q.elim
  · exact q.elim
/-- one value, then what is done with it -/
theorem one {k1 : Val → M Val} {r : V → Hp → VK → Prop} {σ : L2.St} {H : Hp} {Q : VK} (hk : ∀ x m st H v Q, SR X.K CA m st H → RepV X.K m st H x v →
      PR X.K CA XR W σ (k1 x st) m st H (fun a m' st' H' => ∀ u, RepV X.K m' st' H' a u → Q u H') → r v H Q) (h : tM X.K CA XR W (e1 k1 f) σ H Q) : tM X.K CA XR W f σ H (fun v H1 => r v H1 Q) := by
  obtain ⟨m, st, ρ, S, E, q⟩ := h
  exact ⟨m, st, ρ, S, E, (PR.bind_of q).mono fun x m1 st1 H1 S1 T1 h1 v rv => hk x m1 st1 H1 v Q S1 rv h1⟩
theorem se_neg (ha : SE CA XR X W a f) : SE CA XR X W (.UnaryOp .USub a pos) (e1 negV f) := by
  refine PE.weak (pe_un un_neg ha) fun σ H Q q => one (r := rU fun i => .int (-i)) (fun x m st H v Q S rx q => ?_) q
  unfold negV at q
  split at q
  · cases rx
    exact ⟨_, rfl, PR.here S q _ rfl⟩
  · exact q.elim
/-! ### comparisons: as values, as tests -/
/-- by values: a bool -/
def CmpOk (CA : Tags) (XR : XRel) (X : Cx) (W : WX) (r : R2) (k2 : Val → Val → M Bool) : Prop := ∀ σ x y m st H v w (Q : Bool → Hp → Prop), SR X.K CA m st H → RepV X.K m st H x v → RepV X.K m st H y w →
  PR X.K CA XR W σ (k2 x y st) m st H (fun b m' st' H' => Q b H') → r v w H fun z H' => ∃ b, z = .bl b ∧ Q b H'
theorem cmp_two {k2 : Val → Val → M Bool} {r : R2} {σ : L2.St} {H : Hp} {Q : Bool → Hp → Prop} (hk : CmpOk CA XR X W r k2) (h : tMT X.K CA XR W (t2 k2 f g) σ H Q) :
    tOp r (tM X.K CA XR W f) (tM X.K CA XR W g) σ H fun z H' => ∃ b, z = .bl b ∧ Q b H' := by
  obtain ⟨m, st, ρ, S, E, q⟩ := h
  refine ⟨m, st, ρ, S, E, (PR.bind_of q).mono fun x m1 st1 H1 S1 T1 h1 v rv => ⟨m1, st1, ρ, S1, E.mono T1, (PR.bind_of h1).mono fun y m2 st2 H2 S2 T2 h2 w rw => ?_⟩⟩
  exact hk σ x y m2 st2 H2 v w Q S2 (RepV.mono T2 x v rv) rw h2
theorem tMT_eB {σ : L2.St} {H : Hp} {Q : VK} (h : tM X.K CA XR W (eB t) σ H Q) : tMT X.K CA XR W t σ H fun b H' => Q (.bl b) H' := by
  obtain ⟨m, st, ρ, S, E, q⟩ := h
  exact ⟨m, st, ρ, S, E, (PR.bind_of q).mono fun b m1 st1 H1 S1 T1 h1 => PR.here S1 h1 _ rfl⟩
theorem st_cmp {op : CmpOp} {k2 : Val → Val → M Bool} {r : R2} (ho : OpR X (compareOp op) r) (hk : CmpOk CA XR X W r k2) (ha : SE CA XR X W a f) (hb : SE CA XR X W b g) (hm : behindInMarks op b = false) :
    STt CA XR X W (.Compare a [op] [b] pos) (t2 k2 f g) := PT.weak (pt_cmpR ho ha hb hm) fun σ H Q q => cmp_two hk q
theorem se_cmp {op : CmpOp} {k2 : Val → Val → M Bool} {r : R2} (ho : OpR X (compareOp op) r) (hr : ∀ x y H Q Q', (∀ z H', Q z H' → Q' z H') → r x y H Q → r x y H Q') (hk : CmpOk CA XR X W r k2) (ha : SE CA XR X W a f) (hb : SE CA XR X W b g) (hm : behindInMarks op b = false) :
    SE CA XR X W (.Compare a [op] [b] pos) (eB (t2 k2 f g)) := PE.weak (pe_cmpR ho ha hb hm) fun σ H Q q => by
  have z := cmp_two hk (tMT_eB q)
  obtain ⟨m, st, ρ, S, E, q1⟩ := z
  refine ⟨m, st, ρ, S, E, q1.mono fun x m1 st1 H1 S1 T1 h1 v rv => ?_⟩
  obtain ⟨m2, st2, ρ2, S2, E2, q2⟩ := h1 v rv
  refine ⟨m2, st2, ρ2, S2, E2, q2.mono fun y m3 st3 H3 S3 T3 h3 w rw => ?_⟩
  refine hr _ _ _ _ _ (fun z H' ⟨b, e, hq⟩ => ?_) (h3 w rw)
  rw [e]; exact hq
theorem ofOr {r r' : R2} (h : ∀ x y H Q Q', (∀ z H', Q z H' → Q' z H') → r x y H Q → r x y H Q') (h' : ∀ x y H Q Q', (∀ z H', Q z H' → Q' z H') → r' x y H Q → r' x y H Q') :
    ∀ x y H Q Q', (∀ z H', Q z H' → Q' z H') → (r x y H Q ∨ r' x y H Q) → (r x y H Q' ∨ r' x y H Q') := fun x y H Q Q' k q => q.imp (h x y H Q Q' k) (h' x y H Q Q' k)
/-- what == tells: of flat values, or of data -/
theorem eqV_facts {m : Mp} {st : Store} {H : Hp} {x y : Val} {v w : V} (S : SR X.K CA m st H) (rx : RepV X.K m st H x v) (ry : RepV X.K m st H y w) : eqV x y st = .bad ∨ ∃ b, eqV x y st = .ok b st ∧
    ((scal v w = true ∧ decide (v = w) = b) ∨ ∃ d e, Dp X.K H v d ∧ Dp X.K H w e ∧ SeqAt.shaped d = true ∧ SeqAt.shaped e = true ∧ PyData.eqv d e = b) := by
  -- the answer of two trees
  have key : ∀ (c d : Fl.T), (∀ n, T.plain n c = true → Dp X.K H v (toPy c)) → (∀ n, T.plain n d = true → Dp X.K H w (toPy d)) → ((∃ c', c = .rp c') → Rep X.K H (live m st) c v) → ((∃ d', d = .rp d') → Rep X.K H (live m st) d w) →
      ∀ r, T.eq? c d = some r → ((scal v w = true ∧ decide (v = w) = r) ∨ ∃ d e, Dp X.K H v d ∧ Dp X.K H w e ∧ SeqAt.shaped d = true ∧ SeqAt.shaped e = true ∧ PyData.eqv d e = r) := by
    intro c d hc hd rc rd r e
    unfold T.eq? at e
    split at e
    · rename_i c d
      split at e
      · rename_i hb
        have e' : true = r := by simpa using e
        subst e'
        have h1 : v = .str (PyData.shown (toPy c)) := rc ⟨_, rfl⟩
        have h2 : w = .str (PyData.shown (toPy d)) := rd ⟨_, rfl⟩
        have h3 : c = d := T_beq hb
        exact .inl ⟨by rw [h1, h2]; rfl, by rw [h1, h2, h3]; exact decide_eq_true rfl⟩
      · cases e
    · split at e
      · rename_i hp
        simp only [Bool.and_eq_true] at hp
        simp only [Option.some.injEq] at e
        exact .inr ⟨toPy c, toPy d, hc 60 hp.1, hd 60 hp.2, shaped_plain hp.1, shaped_plain hp.2, by rw [eqv_eq 60 60 c d hp.1 hp.2, e]⟩
      · cases e
  have dd := deep_dp S deepMax
  have dp : ∀ {z : Val} {u : V} {d : Fl.T}, RepV X.K m st H z u → deep st deepMax z = some d → ∀ n, T.plain n d = true → Dp X.K H u (toPy d) := fun {z u d} r e n hp => dd.1 z u d n e hp r
  have rpv : ∀ {z : Val} {u : V} {d : Fl.T}, RepV X.K m st H z u → deep st deepMax z = some d → (∃ d', d = .rp d') → Rep X.K H (live m st) d u := fun {z u d} r e ⟨d', ed⟩ => by
    subst ed
    cases z with
    | t c =>
      have : c = .rp d' := by
        have e' := e
        unfold deep at e'
        simpa using e'
      rw [← this]; exact r
    | loc n =>
      exfalso
      rw [show deepMax = 999999999 + 1 from rfl] at e
      unfold deep at e
      dsimp only at e
      split at e
      · split at e <;> simp at e
      · split at e <;> simp at e
      · cases e
    | scr n => unfold deep at e; simp at e
    | ex n => unfold deep at e; simp at e
  unfold eqV
  split
  · rename_i c d
    cases e : T.eq? c d with
    | none => exact .inl rfl
    | some r => exact .inr ⟨r, rfl, key c d (fun n hp => Rep.dp n _ v hp rx) (fun n hp => Rep.dp n _ w hp ry) (fun _ => rx) (fun _ => ry) r e⟩
  · split
    · rename_i c d e1 e2
      cases e : T.eq? c d with
      | none => exact .inl rfl
      | some r => exact .inr ⟨r, rfl, key c d (dp rx e1) (dp ry e2) (rpv rx e1) (rpv ry e2) r e⟩
    · exact .inl rfl
theorem eq_ok : CmpOk CA XR X W (fun x y H Q => rEq x y H Q ∨ rEqD X.K x y H Q) eqV := by
  intro σ x y m st H v w Q S rx ry q
  rcases eqV_facts S rx ry with e | ⟨b, e, h⟩
  · rw [e] at q; exact q.elim
  · rw [e] at q
    rcases h with ⟨h1, h2⟩ | ⟨d, c, h1, h2, h3, h4, h5⟩
    · exact .inl ⟨h1, b, by rw [h2], PR.here S q⟩
    · exact .inr ⟨d, c, h1, h2, h3, h4, b, by rw [h5], PR.here S q⟩
theorem ne_ok : CmpOk CA XR X W (fun x y H Q => rNe x y H Q ∨ rNeD X.K x y H Q) (fun x y => eqV x y >>= fun b => pure !b) := by
  intro σ x y m st H v w Q S rx ry q
  have q' : PR X.K CA XR W σ ((eqV x y st).bind fun b => (pure !b : M Bool)) m st H (fun b m' st' H' => Q b H') := q
  rcases eqV_facts S rx ry with e | ⟨b, e, h⟩
  · rw [e] at q'; exact q'.elim
  · rw [e] at q'
    rcases h with ⟨h1, h2⟩ | ⟨d, c, h1, h2, h3, h4, h5⟩
    · exact .inl ⟨h1, !b, by rw [h2], PR.here S q'⟩
    · exact .inr ⟨d, c, h1, h2, h3, h4, !b, by rw [h5], PR.here S q'⟩
theorem mono_rEq : ∀ x y H (Q Q' : VK), (∀ z H', Q z H' → Q' z H') → rEq x y H Q → rEq x y H Q' := fun _ _ _ _ _ k q => ⟨q.1, k _ _ q.2⟩
theorem mono_rEqD {K : PySem.W.Frag} : ∀ x y H (Q Q' : VK), (∀ z H', Q z H' → Q' z H') → rEqD K x y H Q → rEqD K x y H Q' := fun _ _ _ _ _ k ⟨d, e, h1, h2, h3, h4, q⟩ => ⟨d, e, h1, h2, h3, h4, k _ _ q⟩
theorem st_eq (C : Cw tb G CA XR k N sc own X W) (ha : SE CA XR X W a f) (hb : SE CA XR X W b g) : STt CA XR X W (.Compare a [.Eq] [b] pos) (tEq f g) := st_cmp (op_eq.or (op_eqD C.u64)) eq_ok ha hb (nomark _)
theorem st_ne (C : Cw tb G CA XR k N sc own X W) (ha : SE CA XR X W a f) (hb : SE CA XR X W b g) : STt CA XR X W (.Compare a [.NotEq] [b] pos) (tNe f g) := st_cmp (op_ne.or (op_neD C.u64)) ne_ok ha hb (nomark _)
theorem se_eq (C : Cw tb G CA XR k N sc own X W) (ha : SE CA XR X W a f) (hb : SE CA XR X W b g) : SE CA XR X W (.Compare a [.Eq] [b] pos) (eB (tEq f g)) := se_cmp (op_eq.or (op_eqD C.u64)) (ofOr mono_rEq mono_rEqD) eq_ok ha hb (nomark _)
theorem lt_ok {p : Int → Int → Bool} : CmpOk CA XR X W (rI0 fun i j => .bl (p i j)) (ltV p) := by
  intro σ x y m st H v w Q S rx ry q
  unfold ltV at q
  split at q
  · cases rx; cases ry
    exact ⟨_, _, rfl, rfl, _, rfl, PR.here S q⟩
  · exact q.elim
theorem st_lt (ha : SE CA XR X W a f) (hb : SE CA XR X W b g) : STt CA XR X W (.Compare a [.Lt] [b] pos) (tLt f g) := st_cmp op_lt lt_ok ha hb (nomark _)
theorem st_gt (ha : SE CA XR X W a f) (hb : SE CA XR X W b g) : STt CA XR X W (.Compare a [.Gt] [b] pos) (tGt f g) := st_cmp op_gt lt_ok ha hb (nomark _)
theorem st_ge (ha : SE CA XR X W a f) (hb : SE CA XR X W b g) : STt CA XR X W (.Compare a [.GtE] [b] pos) (tGe f g) := st_cmp op_ge lt_ok ha hb (nomark _)
/-! ### is None, is True -/
theorem none_iff {K : PySem.W.Frag} {m : Mp} {st : Store} {H : Hp} {x : Val} {v : V} (r : RepV K m st H x v) (hx : ∀ e, x ≠ .ex e) : decide (v = .non) = isNone x := by
  cases x with
  | ex e => exact absurd rfl (hx e)
  | loc n => rw [r.2]; rfl
  | scr ns => obtain ⟨_, a, e, _⟩ := r; rw [e]; rfl
  | t d =>
    cases d with
    | non => rw [show v = .non from r]; rfl
    | bl b => rw [show v = _ from r]; rfl
    | int b => rw [show v = _ from r]; rfl
    | str b => rw [show v = _ from r]; rfl
    | rp b => rw [show v = _ from r]; rfl
    | tup b => obtain ⟨a, _, e, _⟩ := r; rw [e]; rfl
    | lst b => obtain ⟨a, _, e, _⟩ := r; rw [e]; rfl
    | dct b => obtain ⟨a, _, e, _⟩ := r; rw [e]; rfl
theorem isN_read {σ : L2.St} {H : Hp} {Q : Bool → Hp → Prop} (h : tMT X.K CA XR W (tIsN f) σ H Q) : L2.tIsN (tM X.K CA XR W f) σ H fun z H' => ∃ b, z = .bl b ∧ Q b H' := by
  obtain ⟨m, st, ρ, S, E, q⟩ := h
  refine ⟨m, st, ρ, S, E, (PR.bind_of q).mono fun x m1 st1 H1 S1 T1 h1 v rv => ⟨_, rfl, ?_⟩⟩
  split at h1
  · exact h1.elim
  · rename_i hx
    rw [none_iff rv (fun e z => hx e z)]
    exact PR.here S1 h1
theorem notN_read {σ : L2.St} {H : Hp} {Q : Bool → Hp → Prop} (h : tMT X.K CA XR W (tNotN f) σ H Q) : L2.tNotN (tM X.K CA XR W f) σ H fun z H' => ∃ b, z = .bl b ∧ Q b H' := by
  obtain ⟨m, st, ρ, S, E, q⟩ := h
  refine ⟨m, st, ρ, S, E, (PR.bind_of q).mono fun x m1 st1 H1 S1 T1 h1 v rv => ⟨_, rfl, ?_⟩⟩
  split at h1
  · exact h1.elim
  · rename_i hx
    rw [none_iff rv (fun e z => hx e z)]
    exact PR.here S1 h1
theorem st_isN {j : Nat} (ha : SE CA XR X W a f) : STt CA XR X W (.Compare a [.Is] [.Constant .none j pos'] pos) (tIsN f) := PT.weak (pt_cmp (pc_isN ha)) fun σ H Q q => isN_read q
theorem st_notN {j : Nat} (ha : SE CA XR X W a f) : STt CA XR X W (.Compare a [.IsNot] [.Constant .none j pos'] pos) (tNotN f) := PT.weak (pt_cmp (pc_notN ha)) fun σ H Q q => notN_read q
/-! ### and, or, not: tests -/
theorem and_read {σ : L2.St} {H : Hp} {Q : Bool → Hp → Prop} (h : tMT X.K CA XR W (tAnd t u) σ H Q) : L2.tAnd (tMT X.K CA XR W t) (tMT X.K CA XR W u) σ H Q := by
  obtain ⟨m, st, ρ, S, E, q⟩ := h
  refine ⟨m, st, ρ, S, E, (PR.bind_of q).mono fun x m1 st1 H1 S1 T1 h1 => ?_⟩
  cases x with
  | true => exact ⟨m1, st1, ρ, S1, E.mono T1, h1⟩
  | false => exact PR.here S1 h1
theorem or_read {σ : L2.St} {H : Hp} {Q : Bool → Hp → Prop} (h : tMT X.K CA XR W (tOr t u) σ H Q) : L2.tOr (tMT X.K CA XR W t) (tMT X.K CA XR W u) σ H Q := by
  obtain ⟨m, st, ρ, S, E, q⟩ := h
  refine ⟨m, st, ρ, S, E, (PR.bind_of q).mono fun x m1 st1 H1 S1 T1 h1 => ?_⟩
  cases x with
  | true => exact PR.here S1 h1
  | false => exact ⟨m1, st1, ρ, S1, E.mono T1, h1⟩
abbrev SW (CA : Tags) (XR : XRel) (X : Cx) (W : WX) (e : Expr) (f : CT) : Prop := PW X e (tMT X.K CA XR W f)
theorem PW.weak {X : Cx} {e : Expr} {t t' : TT} (h : PW X e t) (k : ∀ σ H Q, t' σ H Q → t σ H Q) : PW X e t' := ⟨fun wh pins s σ H Q I q => h.run wh pins s σ H Q I (k σ H Q q)⟩
theorem sw_and1 (ha : STt CA XR X W a t) : SW CA XR X W (.BoolOp .And [a] pos) t := pw_and1 ha
theorem sw_or1 (ha : STt CA XR X W a t) : SW CA XR X W (.BoolOp .Or [a] pos) t := pw_or1 ha
theorem sw_and (ha : STt CA XR X W a t) (hb : SW CA XR X W (.BoolOp .And (b :: es) pos) u) : SW CA XR X W (.BoolOp .And (a :: b :: es) pos) (tAnd t u) := PW.weak (pw_and ha hb) fun σ H Q q => and_read q
theorem sw_or (ha : STt CA XR X W a t) (hb : SW CA XR X W (.BoolOp .Or (b :: es) pos) u) : SW CA XR X W (.BoolOp .Or (a :: b :: es) pos) (tOr t u) := PW.weak (pw_or ha hb) fun σ H Q q => or_read q
theorem st_bool (h : SW CA XR X W e t) : STt CA XR X W e t := h.pt
theorem st_not (ha : STt CA XR X W a t) : STt CA XR X W (.UnaryOp .Not a pos) (tNot t) := PT.weak (pt_not ha) fun σ H Q ⟨m, st, ρ, S, E, q⟩ =>
  ⟨m, st, ρ, S, E, (PR.bind_of q).mono fun x m1 st1 H1 S1 T1 h1 => PR.here S1 h1⟩
theorem se_if (hc : STt CA XR X W c t) (ha : SE CA XR X W a f) (hb : SE CA XR X W b g) : SE CA XR X W (.IfExp c a b pos) (eIf t f g) := PE.weak (pe_ifExp hc ha hb) fun σ H Q ⟨m, st, ρ, S, E, q⟩ => by
  refine ⟨m, st, ρ, S, E, (PR.bind_of q).mono fun x m1 st1 H1 S1 T1 h1 => ?_⟩
  cases x with
  | true => exact ⟨m1, st1, ρ, S1, E.mono T1, h1⟩
  | false => exact ⟨m1, st1, ρ, S1, E.mono T1, h1⟩
end
end Fl
set_option Elab.async false
set_option linter.all false
set_option maxRecDepth 100000
set_option maxHeartbeats 2000000
/-! Fl over the layer: in, truth, subscripts, displays. -/
namespace Fl
open PySem PySem.Spec L2
section
variable {tb : Tab} {G : FEnv} {CA : Tags} {XR : XRel} {k : Nat} {N : List Str} {sc : Scope} {own : Str → Bool} {X : Cx} {W : WX}
variable {a b c e o : Expr} {es : List Expr} {pos pos' p2 : Pos} {f g h : CE} {t u : CT}
/-! ### bools as values -/
theorem se_and1 {op : BoolOp} (ha : SE CA XR X W a f) : SE CA XR X W (.BoolOp op [a] pos) f := pe_one ha
theorem se_and (ha : SE CA XR X W a f) (hb : SE CA XR X W (.BoolOp .And (b :: es) pos) g) : SE CA XR X W (.BoolOp .And (a :: b :: es) pos) (eAnd f g) := PE.weak (pe_and ha hb) fun σ H Q ⟨m, st, ρ, S, E, q⟩ => by
  refine ⟨m, st, ρ, S, E, (PR.bind_of q).mono fun x m1 st1 H1 S1 T1 h1 v rv => ?_⟩
  obtain ⟨c, rfl, rfl, h1⟩ := getB_ok rv h1
  refine ⟨c, rfl, ?_⟩
  cases c with
  | true => exact ⟨m1, st1, ρ, S1, E.mono T1, h1⟩
  | false => exact PR.here S1 h1 _ rfl
theorem se_or (ha : SE CA XR X W a f) (hb : SE CA XR X W (.BoolOp .Or (b :: es) pos) g) : SE CA XR X W (.BoolOp .Or (a :: b :: es) pos) (eOr f g) := PE.weak (pe_or ha hb) fun σ H Q ⟨m, st, ρ, S, E, q⟩ => by
  refine ⟨m, st, ρ, S, E, (PR.bind_of q).mono fun x m1 st1 H1 S1 T1 h1 v rv => ?_⟩
  obtain ⟨c, rfl, rfl, h1⟩ := getB_ok rv h1
  refine ⟨c, rfl, ?_⟩
  cases c with
  | true => exact PR.here S1 h1 _ rfl
  | false => exact ⟨m1, st1, ρ, S1, E.mono T1, h1⟩
/-! ### truth -/
theorem isEmpty_len {α β : Type} {xs : List α} {ys : List β} (h : xs.length = ys.length) : xs.isEmpty = ys.isEmpty := by
  cases xs <;> cases ys <;> first | rfl | (simp at h)
theorem st_truth (ha : SE CA XR X W a f) (he : ∀ whole, isTrue a X.env whole = (do let v ← whole; standAt a.pos; holding [v] (truthy v)) := by intro _; rfl) : STt CA XR X W a (tTruth f) := PT.weak (pt_truth ha he) fun σ H Q ⟨m, st, ρ, S, E, q⟩ => by
  refine ⟨m, st, ρ, S, E, (PR.bind_of q).mono fun x m1 st1 H1 S1 T1 h1 v rv => ?_⟩
  unfold truthV at h1
  split at h1
  · cases rv; exact ⟨_, rfl, PR.here S1 h1⟩
  · cases rv; exact ⟨_, rfl, PR.here S1 h1⟩
  · obtain ⟨p, vs, rfl, ⟨hh, _⟩, z, rs⟩ := rv
    exact ⟨_, .inl ⟨vs, .of hh, by rw [← isEmpty_len rs.length]⟩, PR.here S1 h1⟩
  · obtain ⟨p, vs, rfl, hh, z, rs⟩ := rv
    refine ⟨_, .inr (.inl ⟨vs, ?_, by rw [← isEmpty_len rs.length]⟩), PR.here S1 h1⟩
    rcases hh with hh | hh
    · exact .of hh.1
    · exact hh H1
  · rename_i n
    obtain ⟨_, rfl⟩ := rv
    cases ec : st1.cell n with
    | none => rw [ec] at h1; exact h1.elim
    | some d =>
      rw [ec] at h1
      cases d with
      | lst ws =>
        obtain ⟨us, hh, z, rs⟩ := S1.cells n _ ec
        exact ⟨_, .inl ⟨us, .of hh, by rw [← isEmpty_len rs.length]⟩, PR.here S1 h1⟩
      | _ => exact h1.elim
  · exact h1.elim
/-! ### in -/
theorem RepK.val {K : PySem.W.Frag} {H : Hp} {lv : Addr → Prop} : ∀ {kts : List (Key × T)} {us : List (L2.Key × V)} (k : Key), RepK K H lv kts us → match dget kts k with
    | some d => ∃ v, valV us (kL k) = some v ∧ Rep K H lv d v
    | none => valV us (kL k) = none
  | [], us, k, r => by rw [show us = [] from r]; rfl
  | (l, d) :: q, us, k, r => by
    obtain ⟨p, ur, rfl, r1, r2⟩ := r
    unfold dget
    by_cases e : l = k
    · rw [if_pos e]
      exact ⟨p.2, valV_pos (by rw [r1.1, e]), r1.2⟩
    · rw [if_neg e]
      have hne : ¬ p.1 = kL k := fun z => e (kL_inj (r1.1.symm.trans z))
      rw [valV_neg hne]
      exact RepK.val k r2
theorem RepVK.val {K : PySem.W.Frag} {m : Mp} {st : Store} {H : Hp} : ∀ {kts : List (Key × Val)} {us : List (L2.Key × V)} (k : Key), RepVK K m st H kts us → match dget kts k with
    | some d => ∃ v, valV us (kL k) = some v ∧ RepV K m st H d v
    | none => valV us (kL k) = none
  | [], us, k, r => by rw [show us = [] from r]; rfl
  | (l, d) :: q, us, k, r => by
    obtain ⟨p, ur, rfl, r1, r2⟩ := r
    unfold dget
    by_cases e : l = k
    · rw [if_pos e]
      exact ⟨p.2, valV_pos (by rw [r1.1, e]), r1.2⟩
    · rw [if_neg e]
      have hne : ¬ p.1 = kL k := fun z => e (kL_inj (r1.1.symm.trans z))
      rw [valV_neg hne]
      exact RepVK.val k r2
theorem keyOf_rep {K : PySem.W.Frag} {m : Mp} {st : Store} {H : Hp} {x : Val} {v : V} {k : Key} (r : RepV K m st H x v) (e : keyOf x = some k) : v = kV (kL k) := by
  unfold keyOf at e
  split at e
  · cases e; exact r
  · cases e; exact r
  · cases e
def rDin (f : Bool → Bool) : R2 := fun y x H Q => ∃ a o, x = .ref a ∧ DGet H a y o ∧ Q (.bl (f o.isSome)) H
theorem op_din (hu : X.A.units + 1 < cLine) : OpR X (compareOp .In) (rDin fun b => b) := by
  intro pins s σ H y x v u Q I ry rx h
  obtain ⟨a, o, rfl, g, q⟩ := h
  obtain rfl : u = Value.ref a := rx
  exact d_in hu I g ry fun s3 I3 => ⟨.bl o.isSome, H, I3, rfl, q⟩
theorem flat_V {K : PySem.W.Frag} {H : Hp} {lv : Addr → Prop} {d : T} {v : V} (r : Rep K H lv d v) (hf : T.flat d = true) : flatV v = true := by
  cases d <;> first | (rw [show v = _ from r]; rfl) | (simp [T.flat] at hf)
theorem flats_V {K : PySem.W.Frag} {H : Hp} {lv : Addr → Prop} : ∀ {ds : List T} {vs : List V}, Reps K H lv ds vs → ds.all T.flat = true → vs.all flatV = true
  | [], vs, r, _ => by rw [show vs = [] from r]; rfl
  | d :: q, vs, r, h => by
    obtain ⟨v, vr, rfl, r1, r2⟩ := r
    simp only [List.all_cons, Bool.and_eq_true] at h ⊢
    exact ⟨flat_V r1 h.1, flats_V r2 h.2⟩
theorem eqV_flat {K : PySem.W.Frag} {H : Hp} {lv : Addr → Prop} {d c : T} {v w : V} (r : Rep K H lv d v) (r' : Rep K H lv c w) (h : T.flat d = true) (h' : T.flat c = true) : L2.eqV v w = T.eqv d c := by
  cases d <;> cases c <;> first
    | (simp [T.flat] at h; done)
    | (simp [T.flat] at h'; done)
    | (rw [show v = _ from r, show w = _ from r']; simp only [L2.eqV, T.eqv]; done)
    | (rw [show v = _ from r, show w = _ from r']; simp only [L2.eqV, T.eqv, ofStr_beq]; done)
theorem inT_flat {K : PySem.W.Frag} {H : Hp} {lv : Addr → Prop} {d : T} {v : V} (r : Rep K H lv d v) (h : T.flat d = true) : ∀ {ds : List T} {vs : List V}, Reps K H lv ds vs → ds.all T.flat = true → L2.inV v vs = inT d ds
  | [], vs, q, _ => by rw [show vs = [] from q]; rfl
  | c :: ds, vs, q, h' => by
    obtain ⟨w, wr, rfl, r1, r2⟩ := q
    simp only [List.all_cons, Bool.and_eq_true] at h'
    have ih := inT_flat r h r2 h'.2
    unfold L2.inV inT at ih ⊢
    rw [List.any_cons, List.any_cons, eqV_flat r1 r h'.1 h, ih]
theorem any_py {d : T} : ∀ {ds : List T}, T.plain 60 d = true → ds.all (T.plain 60) = true → ((toPys ds).any fun z => PyData.eqv z (toPy d)) = inT d ds
  | [], _, _ => by simp [toPys, inT]
  | c :: ds, h, h' => by
    simp only [List.all_cons, Bool.and_eq_true] at h'
    have ih := any_py (ds := ds) h h'.2
    unfold inT at ih ⊢
    simp only [toPys]
    rw [List.any_cons, List.any_cons, eqv_eq 60 60 c d h'.1 h, ih]
/-- what in tells -/
theorem inV_facts {m : Mp} {st : Store} {H : Hp} {x y : Val} {v w : V} (S : SR X.K CA m st H) (rx : RepV X.K m st H x v) (ry : RepV X.K m st H y w) : inV x y st = .bad ∨ ∃ b, inV x y st = .ok b st ∧
    ((∃ a o, w = .ref a ∧ DGet H a v o ∧ o.isSome = b) ∨ (∃ p xs, w = .ref p ∧ (SqL X.K H p xs ∨ SqT X.K H p xs) ∧ flatV v = true ∧ xs.all flatV = true ∧ L2.inV v xs = b) ∨
      ∃ d ds, Dp X.K H v d ∧ Dp X.K H w (.list ds) ∧ SeqAt.shaped d = true ∧ SeqAt.shaped (.list ds) = true ∧ (ds.any fun z => PyData.eqv z d) = b) := by
  have dl : ∀ {d : T} {ds : List T} {xs : List V} {p : Addr}, T.plain 60 d = true → ds.all (T.plain 60) = true → Rep X.K H (live m st) d v → Reps X.K H (live m st) ds xs → H p = some (.lst xs) →
      ∃ d' ds', Dp X.K H v d' ∧ Dp X.K H (.ref p) (.list ds') ∧ SeqAt.shaped d' = true ∧ SeqAt.shaped (.list ds') = true ∧ (ds'.any fun z => PyData.eqv z d') = inT d ds := fun {d ds xs p} h1 h2 r1 r2 hp => by
    refine ⟨toPy d, toPys ds, Rep.dp 60 d v h1 r1, .lst (.of hp) (Reps.dp 60 ds xs h2 r2), shaped_plain h1, ?_, any_py h1 h2⟩
    have hc := canLays_plain 60 ds h2
    have hd := depths_le 60 ds h2
    have e1 : PyData.canLay0 (.list (toPys ds)) = true := by simpa only [PyData.canLay0] using hc
    unfold SeqAt.shaped
    rw [e1, Bool.true_and]
    exact decide_eq_true (by simp only [PyData.depth]; omega)
  unfold inV
  split
  · -- a dict
    rename_i kvs
    obtain ⟨p, us, rfl, ⟨hp, _⟩, z, rk⟩ := ry
    cases e : keyOf x with
    | none => exact .inl rfl
    | some kk =>
      refine .inr ⟨_, rfl, .inl ⟨p, valV us (kL kk), rfl, ?_, ?_⟩⟩
      · rw [keyOf_rep rx e]; exact .inl ⟨_, _, hp, rfl, rfl⟩
      · have := RepK.val kk rk
        split at this
        · rename_i d ed
          obtain ⟨v', e', _⟩ := this
          rw [e', ed]; rfl
        · rename_i ed
          rw [this, ed]; rfl
  · -- a list
    rename_i ts
    obtain ⟨p, us, rfl, ⟨hp, _⟩, z, rk⟩ := ry
    split
    · rename_i d
      split
      · rename_i hh
        simp only [Bool.and_eq_true] at hh
        exact .inr ⟨_, rfl, .inr (.inr (dl hh.1 hh.2 rx rk hp))⟩
      · exact .inl rfl
    · exact .inl rfl
  · -- a tuple
    rename_i ts
    obtain ⟨p, us, rfl, hp, z, rk⟩ := ry
    split
    · rename_i d
      split
      · rename_i hh
        simp only [Bool.and_eq_true] at hh
        refine .inr ⟨_, rfl, .inr (.inl ⟨p, us, rfl, .inr ?_, flat_V rx hh.1, flats_V rk hh.2, inT_flat rx hh.1 rk hh.2⟩)⟩
        rcases hp with hp | hp
        · exact .of hp.1
        · exact hp H
      · exact .inl rfl
    · exact .inl rfl
  · rename_i n
    obtain ⟨_, rfl⟩ := ry
    cases ec : st.cell n with
    | none => exact .inl rfl
    | some d =>
      cases d with
      | dct kvs =>
        obtain ⟨us, hp, z, rk⟩ := S.cells n _ ec
        dsimp only
        cases e : keyOf x with
        | none => exact .inl rfl
        | some kk =>
          refine .inr ⟨_, rfl, .inl ⟨m n, valV us (kL kk), rfl, ?_, ?_⟩⟩
          · rw [keyOf_rep rx e]; exact .k hp
          · have := RepVK.val kk rk
            split at this
            · rename_i d ed
              obtain ⟨v', e', _⟩ := this
              rw [e', ed]; rfl
            · rename_i ed
              rw [this, ed]; rfl
      | lst ws =>
        obtain ⟨us, hp, z, rk⟩ := S.cells n _ ec
        dsimp only
        split
        · rename_i d ts et
          split
          · rename_i hh
            simp only [Bool.and_eq_true] at hh
            exact .inr ⟨_, rfl, .inr (.inr (dl hh.1 hh.2 rx (RepVs.of_trees et rk) hp))⟩
          · exact .inl rfl
        · exact .inl rfl
      | _ => exact .inl rfl
  · exact .inl rfl
abbrev rIn3 (K : PySem.W.Frag) : R2 := fun x y H Q => rDin (fun b => b) x y H Q ∨ rIn K false x y H Q ∨ rInD K x y H Q
theorem in_ok : CmpOk CA XR X W (rIn3 X.K) inV := by
  intro σ x y m st H v w Q S rx ry q
  rcases inV_facts S rx ry with e | ⟨b, e, h⟩
  · rw [e] at q; exact q.elim
  · rw [e] at q
    have q' := PR.here S q
    rcases h with ⟨a, o, h1, h2, h3⟩ | ⟨p, xs, h1, h2, h3, h4, h5⟩ | ⟨d, ds, h1, h2, h3, h4, h5⟩
    · exact .inl ⟨a, o, h1, h2, b, by rw [h3], q'⟩
    · exact .inr (.inl ⟨p, xs, h1, h2, h3, h4, b, by rw [h5]; rfl, q'⟩)
    · exact .inr (.inr ⟨d, ds, h1, h2, h3, h4, b, by rw [h5], q'⟩)
theorem mono_rDin {ff : Bool → Bool} : ∀ x y H (Q Q' : VK), (∀ z H', Q z H' → Q' z H') → rDin ff x y H Q → rDin ff x y H Q' := fun _ _ _ _ _ k ⟨a, o, h1, h2, q⟩ => ⟨a, o, h1, h2, k _ _ q⟩
theorem mono_rIn {K : PySem.W.Frag} {n : Bool} : ∀ x y H (Q Q' : VK), (∀ z H', Q z H' → Q' z H') → rIn K n x y H Q → rIn K n x y H Q' := fun _ _ _ _ _ k ⟨a, o, h1, h2, h3, h4, q⟩ => ⟨a, o, h1, h2, h3, h4, k _ _ q⟩
theorem mono_rInD {K : PySem.W.Frag} : ∀ x y H (Q Q' : VK), (∀ z H', Q z H' → Q' z H') → rInD K x y H Q → rInD K x y H Q' := fun _ _ _ _ _ k ⟨a, o, h1, h2, h3, h4, q⟩ => ⟨a, o, h1, h2, h3, h4, k _ _ q⟩
theorem st_in (C : Cw tb G CA XR k N sc own X W) (ha : SE CA XR X W a f) (hb : SE CA XR X W b g) (hm : behindInMarks .In b = false := by rfl) : STt CA XR X W (.Compare a [.In] [b] pos) (tIn f g) :=
  st_cmp ((op_din C.u1).or (op_in_seq.or (op_inD C.u65))) in_ok ha hb hm
theorem se_in (C : Cw tb G CA XR k N sc own X W) (ha : SE CA XR X W a f) (hb : SE CA XR X W b g) (hm : behindInMarks .In b = false := by rfl) : SE CA XR X W (.Compare a [.In] [b] pos) (eB (tIn f g)) :=
  se_cmp ((op_din C.u1).or (op_in_seq.or (op_inD C.u65))) (ofOr mono_rDin (ofOr mono_rIn mono_rInD)) in_ok ha hb hm
/-! ### displays, arguments -/
theorem sa_nil : SA CA XR X W [] (eVals []) := PA.weak pa_nil fun σ H Q ⟨m, st, ρ, S, E, q⟩ => PR.here S q [] rfl
theorem sa_cons {fs : List CE} (ha : SE CA XR X W a f) (hr : SA CA XR X W es (eVals fs)) (hs : starEach (a :: es) X.env = (false, eval a X.env) :: starEach es X.env := by rfl) : SA CA XR X W (a :: es) (eVals (f :: fs)) :=
  PA.weak (pa_cons ha hr hs) fun σ H Q ⟨m, st, ρ, S, E, q⟩ => by
    refine ⟨m, st, ρ, S, E, (PR.bind_of q).mono fun x m1 st1 H1 S1 T1 h1 v rv => ?_⟩
    refine ⟨m1, st1, ρ, S1, E.mono T1, (PR.bind_of h1).mono fun xs m2 st2 H2 S2 T2 h2 vs rvs => ?_⟩
    exact PR.here S2 h2 (v :: vs) ⟨v, vs, rfl, RepV.mono T2 x v rv, rvs⟩
theorem eVals_length : ∀ {fs : List CE} {ρ : Env} {st st' : Store} {ws : List Val}, eVals fs ρ st = .ok ws st' → ws.length = fs.length
  | [], ρ, st, st', ws, h => by cases h; rfl
  | f :: fs, ρ, st, st', ws, h => by
    have h' : (f ρ st).bind (fun x => eVals fs ρ >>= fun xs => pure (x :: xs)) = .ok ws st' := h
    cases e : f ρ st with
    | bad => rw [e] at h'; cases h'
    | exc x s => rw [e] at h'; cases h'
    | ok x s =>
      rw [e] at h'
      have h2 : (eVals fs ρ s).bind (fun xs => pure (x :: xs)) = .ok ws st' := h'
      cases e2 : eVals fs ρ s with
      | bad => rw [e2] at h2; cases h2
      | exc x s => rw [e2] at h2; cases h2
      | ok xs s2 =>
        rw [e2] at h2
        cases h2
        rw [List.length_cons, List.length_cons, eVals_length e2]
/-- a result's list has so many items -/
theorem PR.lenOf {K : PySem.W.Frag} {σ : L2.St} {m : Mp} {st : Store} {H : Hp} {fs : List CE} {ρ : Env} {ok : List Val → Mp → Store → Hp → Prop} (h : PR K CA XR W σ (eVals fs ρ st) m st H ok) :
    PR K CA XR W σ (eVals fs ρ st) m st H fun ws m' st' H' => ws.length = fs.length ∧ ok ws m' st' H' := by
  cases e : eVals fs ρ st with
  | bad => rw [e] at h; exact h
  | exc x s => rw [e] at h; exact h
  | ok ws s => rw [e] at h; exact fun m' H' S T => ⟨eVals_length e, h m' H' S T⟩
theorem se_lst (cell : Bool) {fs : List CE} (h : SA CA XR X W es (eVals fs)) (hz : fs.length ≤ L := by first | decide | (simp only [List.length_cons, List.length_nil]; decide)) : SE CA XR X W (.List es pos) (eLst cell fs) := PE.weak (pe_lst h) fun σ H Q ⟨m, st, ρ, S, E, q⟩ => by
  refine ⟨m, st, ρ, S, E, (PR.bind_of q).lenOf.mono fun ws m1 st1 H1 S1 T1 h1 vs rs => ?_⟩
  have hl : ws.length ≤ L := by rw [h1.1]; exact hz
  exact ⟨by rw [← rs.length]; exact lineOf hl, newL_ok S1 rs hl h1.2⟩
theorem se_tup (cell : Bool) {fs : List CE} {x1 : Nat} (h : SA CA XR X W es (eVals fs)) (hz : fs.length ≤ L := by first | decide | (simp only [List.length_cons, List.length_nil]; decide)) : SE CA XR X W (.Tuple es x1 pos) (eTup cell fs) := PE.weak (pe_tup h) fun σ H Q ⟨m, st, ρ, S, E, q⟩ => by
  refine ⟨m, st, ρ, S, E, (PR.bind_of q).lenOf.mono fun ws m1 st1 H1 S1 T1 h1 vs rs => ?_⟩
  have hl : ws.length ≤ L := by rw [h1.1]; exact hz
  exact ⟨by rw [← rs.length]; exact lineOf hl, newT_ok S1 rs hl h1.2⟩
end
end Fl
set_option Elab.async false
set_option linter.all false
set_option maxRecDepth 100000
set_option maxHeartbeats 2000000
/-! Fl over the layer: subscripts, slices, dicts, built-ins. -/
namespace Fl
open PySem PySem.Spec L2
section
variable {tb : Tab} {G : FEnv} {CA : Tags} {XR : XRel} {k : Nat} {N : List Str} {sc : Scope} {own : Str → Bool} {X : Cx} {W : WX}
variable {a b c e o : Expr} {es : List Expr} {pos pos' p2 p1 : Pos} {f g h : CE} {t u : CT}
/-! ### subscripts -/
def rDgt : R2 := fun x y H Q => ∃ a v, x = .ref a ∧ DGet H a y (some v) ∧ Q v H
theorem ix_dict (hu : X.A.units + 1 < cLine) : IxR X rDgt := by
  intro value slice pins s σ H x y v u Q I rx ry h hs
  obtain ⟨a, w, rfl, g, q⟩ := h
  obtain rfl : v = Value.ref a := rx
  exact PyProof.Rows.tail_any (dict_typeIs I g) PySem.F.slot_dict_getitem.lookup (d_getItem hu I g ry fun w' s3 I3 rw' => ⟨w, H, I3, rw', q⟩) hs
theorem at_of {α β : Type} {xs : List α} {ys : List β} {i : Int} {j : Nat} {y : β} (hl : xs.length = ys.length) (h : pyIx xs.length i = some j) (hy : ys[j]? = some y) : atI ys i = some y := by
  unfold atI
  have e : ixN ys.length i = some j := by rw [← hl]; exact h
  rw [e]; exact hy
theorem chr_at {x : String} {n : Nat} {c : Char} (h : x.toList[n]? = some c) : (Str.ofString x).cps.toList[n]? = some c.toNat := by
  rw [Str.ofString_eq_toList]
  simp only [List.getElem?_map, h, Option.map_some]
theorem chr_one (c : Char) : (⟨#[c.toNat]⟩ : Str) = Str.ofString (String.singleton c) := by
  rw [Str.ofString_eq_toList]
  simp
theorem se_ix (C : Cw tb G CA XR k N sc own X W) (ha : SE CA XR X W a f) (hb : SE CA XR X W b g) (hs : PlainIx b := by intro _ _; rfl) : SE CA XR X W (.Subscript a b pos) (e2 subI f g) := by
  refine PE.weak (pe_ix ((ix_dict C.u1).or (ix_seq (X := X))) ha hb hs) fun σ H Q q => two (fun x y m st H v w Q S rx ry q => ?_) q
  unfold subI at q
  split at q
  · -- a text
    split at q
    · rename_i kk
      cases rx; cases ry
      split at q
      · rename_i n en
        split at q
        · rename_i c ec
          split at q
          · rename_i hz
            refine .inr (.inr (.inr ⟨_, _, c.toNat, rfl, rfl, by rw [ofStr_len]; exact lineOf hz, ?_, by rw [chr_one]; exact PR.here S q _ rfl⟩))
            refine at_of (xs := (Str.ofString _).cps.toList) rfl ?_ (chr_at ec)
            rw [Str.ofString_eq_toList]
            simp only [List.length_map]
            rw [String.length_toList]
            exact en
          · exact q.elim
        · exact q.elim
      · exact q.elim
    · exact q.elim
  · rename_i kvs
    obtain ⟨p, us, rfl, ⟨hp, _⟩, z, rk⟩ := rx
    split at q
    · rename_i kk ek
      split at q
      · rename_i d ed
        have := RepK.val kk rk
        rw [ed] at this
        obtain ⟨v', e', r'⟩ := this
        refine .inl ⟨p, v', rfl, ?_, PR.here S q _ r'⟩
        rw [keyOf_rep ry ek, ← e']; exact (.inl ⟨_, _, hp, rfl, rfl⟩)
      · exact q.elim
    · exact q.elim
  · rename_i ts
    obtain ⟨p, us, rfl, ⟨hp, _⟩, z, rk⟩ := rx
    split at q
    · rename_i kk
      cases ry
      split at q
      · rename_i n en
        split at q
        · rename_i d ed
          obtain ⟨v', e', r'⟩ := rk.get ed
          exact .inr (.inl ⟨p, us, _, v', rfl, rfl, .of hp, at_of rk.length en e', PR.here S q _ r'⟩)
        · exact q.elim
      · exact q.elim
    · exact q.elim
  · rename_i ts
    obtain ⟨p, us, rfl, hp, z, rk⟩ := rx
    split at q
    · rename_i kk
      cases ry
      split at q
      · rename_i n en
        split at q
        · rename_i d ed
          obtain ⟨v', e', r'⟩ := rk.get ed
          refine .inr (.inr (.inl ⟨p, us, _, v', rfl, rfl, ?_, at_of rk.length en e', PR.here S q _ r'⟩))
          rcases hp with hp | hp
          · exact .of hp.1
          · exact hp H
        · exact q.elim
      · exact q.elim
    · exact q.elim
  · rename_i n
    obtain ⟨_, rfl⟩ := rx
    cases ec : st.cell n with
    | none => rw [ec] at q; exact q.elim
    | some d =>
      rw [ec] at q
      cases d with
      | dct kvs =>
        obtain ⟨us, hp, z, rk⟩ := S.cells n _ ec
        dsimp only at q
        split at q
        · rename_i kk ek
          split at q
          · rename_i d ed
            have := RepVK.val kk rk
            rw [ed] at this
            obtain ⟨v', e', r'⟩ := this
            refine .inl ⟨m n, v', rfl, ?_, PR.here S q _ r'⟩
            rw [keyOf_rep ry ek, ← e']; exact .k hp
          · exact q.elim
        · exact q.elim
      | lst ws =>
        obtain ⟨us, hp, z, rk⟩ := S.cells n _ ec
        dsimp only at q
        split at q
        · rename_i kk
          cases ry
          split at q
          · rename_i j en
            split at q
            · rename_i d ed
              obtain ⟨v', e', r'⟩ := rk.get ed
              exact .inr (.inl ⟨m n, us, _, v', rfl, rfl, .of hp, at_of rk.length en e', PR.here S q _ r'⟩)
            · exact q.elim
          · exact q.elim
        · exact q.elim
      | tup ws =>
        obtain ⟨us, hp, z, rk⟩ := S.cells n _ ec
        dsimp only at q
        split at q
        · rename_i kk
          cases ry
          split at q
          · rename_i j en
            split at q
            · rename_i d ed
              obtain ⟨v', e', r'⟩ := rk.get ed
              exact .inr (.inr (.inl ⟨m n, us, _, v', rfl, rfl, .of hp, at_of rk.length en e', PR.here S q _ r'⟩))
            · exact q.elim
          · exact q.elim
        · exact q.elim
      | kd _ => exact q.elim
      | ins _ _ => exact q.elim
  · exact q.elim
/-! ### slices -/
theorem RepVs.slice {K : PySem.W.Frag} {m : Mp} {st : Store} {H : Hp} {ws : List Val} {us : List V} (r : RepVs K m st H ws us) (lo hi : Option Int) : RepVs K m st H (slice ws lo hi) (slice us lo hi) := by
  unfold Fl.slice
  rw [r.length]
  exact (r.drop _).take _
theorem slice_len {α : Type} (xs : List α) (lo hi : Option Int) : (slice xs lo hi).length ≤ xs.length := by
  unfold slice
  rw [List.length_take, List.length_drop]
  omega
def partM (e : Option CE) (ρ : Env) : M (Option Int) := match e with
  | none => pure none
  | some e => e ρ >>= fun x => getInt x >>= fun i => pure (some i)
def tMO (K : PySem.W.Frag) (CA : Tags) (XR : XRel) (W : WX) (f : Option CE) : TO := fun σ H Q => ∃ m st ρ, SR K CA m st H ∧ ER K m st H ρ σ ∧ PR K CA XR W σ (partM f ρ st) m st H fun b m' st' H' => Q b H'
abbrev SO' (CA : Tags) (XR : XRel) (X : Cx) (W : WX) (e : Option Expr) (f : Option CE) : Prop := PO X e (tMO X.K CA XR W f)
theorem PO.weak {X : Cx} {e : Option Expr} {t t' : TO} (h : PO X e t) (k : ∀ σ H Q, t' σ H Q → t σ H Q) : PO X e t' := ⟨fun pins s σ H Q I q => h.run pins s σ H Q I (k σ H Q q)⟩
theorem so_none : SO' CA XR X W none none := PO.weak po_none fun σ H Q ⟨m, st, ρ, S, E, q⟩ => PR.here S q
theorem so_some (ha : SE CA XR X W a f) : SO' CA XR X W (some a) (some f) := PO.weak (po_some ha) fun σ H Q ⟨m, st, ρ, S, E, q⟩ => by
  refine ⟨m, st, ρ, S, E, (PR.bind_of q).mono fun x m1 st1 H1 S1 T1 h1 v rv => ?_⟩
  obtain ⟨i, rfl, rfl, h1⟩ := getInt_ok rv h1
  exact ⟨i, rfl, PR.here S1 h1⟩
theorem se_slice (cell : Bool) {lo hi : Option Expr} {fl fh : Option CE} (ha : SE CA XR X W a f) (hl : SO' CA XR X W lo fl) (hh : SO' CA XR X W hi fh) : SE CA XR X W (.Subscript a (.Slice lo hi none p2) pos) (eSlice cell f fl fh) := by
  refine PE.weak (pe_slice (sl_list.or sl_tup) ha hl hh) fun σ H Q ⟨m, st, ρ, S, E, q⟩ => ?_
  refine ⟨m, st, ρ, S, E, (PR.bind_of q).mono fun x m1 st1 H1 S1 T1 h1 v rv => ?_⟩
  refine ⟨m1, st1, ρ, S1, E.mono T1, (PR.bind_of h1).mono fun l m2 st2 H2 S2 T2 h2 => ?_⟩
  refine ⟨m2, st2, ρ, S2, (E.mono T1).mono T2, (PR.bind_of h2).mono fun u m3 st3 H3 S3 T3 h3 => ?_⟩
  have rv3 := RepV.mono T3 x v (RepV.mono T2 x v rv)
  unfold sliceV at h3
  split at h3
  · rename_i ts
    obtain ⟨p, us, rfl, hp, z, rk⟩ := rv3
    split at h3
    · exact h3.elim
    · rename_i hne
      refine .inr ⟨p, us, rfl, ?_, ?_, fun q hq => ?_⟩
      · rcases hp with hp | hp
        · exact .of hp.1
        · exact hp H3
      · rw [← rk.length]; exact hne
      · obtain ⟨T, S'⟩ := S3.fresh (o := .tup (cutV us l u)) hq
        refine h3 m3 _ S' T _ ⟨q, cutV us l u, rfl, .inl ⟨upd_same, S3.not_live hq⟩, Nat.le_trans (slice_len _ _ _) z, ?_⟩
        have rr := RepVs.slice (RepVs.of_reps (Reps.mono T.keep T.lv _ _ rk)) l u
        rw [show Fl.slice (ts.map Val.t) l u = (Fl.slice ts l u).map Val.t from by unfold Fl.slice; rw [List.length_map, ← List.map_drop, ← List.map_take]] at rr
        exact RepVs.of_trees (trees_map _) rr
  · obtain ⟨ws, p, us, rfl, hp, rk, z, h3⟩ := itemsL_ok S3 rv3 h3
    exact .inl ⟨p, us, rfl, .of hp, newL_ok S3 (rk.slice l u) (Nat.le_trans (slice_len _ _ _) z) h3⟩
end
end Fl
set_option Elab.async false
set_option linter.all false
set_option maxRecDepth 100000
set_option maxHeartbeats 2000000
/-! Fl over the layer: names of the module, built-ins. -/
namespace Fl
open PySem PySem.Spec L2
section
variable {tb : Tab} {G : FEnv} {CA : Tags} {XR : XRel} {k : Nat} {N : List Str} {sc : Scope} {own : Str → Bool} {X : Cx} {W : WX}
variable {a b c e : Expr} {es : List Expr} {pos pos' p p2 p3 : Pos} {f g h : CE} {t u : CT}
theorem gl_of (C : Cw tb G CA XR k N sc own X W) {x : Str} (h : glbB sc x = true) : Gl X x := by
  unfold glbB at h
  simp only [Bool.and_eq_true, decide_eq_true_eq] at h
  show X.env.scope.names.lookup x = _
  rw [C.sc]; exact h.1.1
theorem gl_dbg {x : Str} (h : glbB sc x = true) : (x == ("__debug__" : Str)) = false := by
  unfold glbB at h
  simp only [Bool.and_eq_true, Bool.not_eq_true'] at h
  exact h.1.2
theorem gl_nm {x : Str} (h : glbB sc x = true) : x ≠ "__name__" := fun e => by
  unfold glbB at h
  simp only [Bool.and_eq_true, Bool.not_eq_true'] at h
  have := h.2
  rw [e] at this
  simp at this
/-- a name of a built-in, here -/
def bltB (tb : Tab) (sc : Scope) (x : Str) : Bool := glbB sc x && tb.free.contains x
theorem blt_gl {x : Str} (h : bltB tb sc x = true) : glbB sc x = true := by unfold bltB at h; simp only [Bool.and_eq_true] at h; exact h.1
theorem blt_mg (C : Cw tb G CA XR k N sc own X W) {x : Str} (h : bltB tb sc x = true) : X.mg x = none := by
  unfold bltB at h
  simp only [Bool.and_eq_true] at h
  exact C.glob.free x (by simpa using h.2)
theorem se_glob (C : Cw tb G CA XR k N sc own X W) {x : Str} {d : T} (h : glbB sc x = true) (hm : (x, d) ∈ tb.consts) : SE CA XR X W (.Name x pos) (eC d) := by
  obtain ⟨u, v, h1, h2, h3⟩ := C.glob.consts x d hm
  exact PE.weak (pe_glob (gl_of C h) h1 h2 (gl_dbg h)) fun σ H Q ⟨m, st, ρ, S, E, q⟩ => PR.here S q v (h3 H _)
theorem RepK.length {K : PySem.W.Frag} {H : Hp} {lv : Addr → Prop} : ∀ {ts : List (Key × T)} {vs : List (L2.Key × V)}, RepK K H lv ts vs → ts.length = vs.length
  | [], _, h => by rw [show _ = _ from h]; rfl
  | _ :: r, _, ⟨v, q, e, _, h⟩ => by rw [e, List.length_cons, List.length_cons, RepK.length h]
/-! ### one argument, two -/
theorem call1 {id : String} {x : Str} {k1 : Val → M Val} {r : List V → Hp → VK → Prop} (C : Cw tb G CA XR k N sc own X W) (h : bltB tb sc x = true) (hc : CallR X (.builtin id) r) (hv : bootBuiltins x = some (.builtin id))
    (hk : ∀ σ y m st H v Q, SR X.K CA m st H → RepV X.K m st H y v → PR X.K CA XR W σ (k1 y st) m st H (fun a m' st' H' => ∀ u, RepV X.K m' st' H' a u → Q u H') → r [v] H Q)
    (ha : SE CA XR X W a f) (hs : starEach [a] X.env = (false, eval a X.env) :: starEach [] X.env := by rfl) : SE CA XR X W (.Call (.Name x p) [a] [] pos) (e1 k1 f) :=
  PE.weak (pe_callB hc (gl_of C (blt_gl h)) (blt_mg C h) hv (pa_cons ha pa_nil hs) (gl_nm (blt_gl h)) (gl_dbg (blt_gl h)) hs rfl) fun σ H Q q => one (r := fun v H Q => r [v] H Q) (hk σ) q
theorem callT1 {id : String} {x : Str} {k1 : Val → M Val} {r : List V → Hp → VK → Prop} (C : Cw tb G CA XR k N sc own X W) (h : bltB tb sc x = true) (hc : CallR X (.type id) r) (hv : bootBuiltins x = some (.type id))
    (hk : ∀ σ y m st H v Q, SR X.K CA m st H → RepV X.K m st H y v → PR X.K CA XR W σ (k1 y st) m st H (fun a m' st' H' => ∀ u, RepV X.K m' st' H' a u → Q u H') → r [v] H Q)
    (ha : SE CA XR X W a f) (hs : starEach [a] X.env = (false, eval a X.env) :: starEach [] X.env := by rfl) : SE CA XR X W (.Call (.Name x p) [a] [] pos) (e1 k1 f) :=
  PE.weak (pe_callTy hc (gl_of C (blt_gl h)) (blt_mg C h) hv (pa_cons ha pa_nil hs) (gl_nm (blt_gl h)) (gl_dbg (blt_gl h)) hs rfl) fun σ H Q q => one (r := fun v H Q => r [v] H Q) (hk σ) q
/-! ### the built-ins -/
theorem se_abs (C : Cw tb G CA XR k N sc own X W) (h : bltB tb sc "abs" = true) (ha : SE CA XR X W a f) (hs : starEach [a] X.env = (false, eval a X.env) :: starEach [] X.env := by rfl) : SE CA XR X W (.Call (.Name "abs" p) [a] [] pos) (e1 absV f) := by
  refine call1 C h call_abs PyProof.Rows.boot_abs (fun σ x m st H v Q S r q => ?_) ha hs
  unfold absV at q
  split at q
  · cases r; exact ⟨_, rfl, PR.here S q _ rfl⟩
  · exact q.elim
theorem se_intT (C : Cw tb G CA XR k N sc own X W) (h : bltB tb sc "int" = true) (ha : SE CA XR X W a f) (hs : starEach [a] X.env = (false, eval a X.env) :: starEach [] X.env := by rfl) : SE CA XR X W (.Call (.Name "int" p) [a] [] pos) (e1 intV f) := by
  refine callT1 C h call_int1 PyProof.Rows.boot_int (fun σ x m st H v Q S r q => ?_) ha hs
  unfold intV at q
  split at q
  · cases r; exact .inl ⟨_, rfl, PR.here S q _ rfl⟩
  · cases r; exact .inr ⟨_, rfl, PR.here S q _ rfl⟩
  · exact q.elim
/-- len of a dict, locked or not -/
theorem len_rdD : CallR X (.builtin "len") (fun xs H Q => ∃ a kvs, xs = [V.ref a] ∧ Rd H a (.dK kvs) ∧ Q (.int kvs.length) H) := by
  rintro pins s σ H xs us Q I r ⟨a, kvs, rfl, ha, q⟩
  obtain ⟨u, rfl, ru⟩ := vals1 r
  cases ru
  exact d_len I ha fun t s' I' => ⟨V.int kvs.length, _, I', ⟨t, rfl⟩, q⟩
theorem se_len (C : Cw tb G CA XR k N sc own X W) (h : bltB tb sc "len" = true) (ha : SE CA XR X W a f) (hs : starEach [a] X.env = (false, eval a X.env) :: starEach [] X.env := by rfl) : SE CA XR X W (.Call (.Name "len" p) [a] [] pos) (e1 lenV f) := by
  refine call1 C h (call_len_seq.or len_rdD) boot_len (fun σ x m st H v Q S r q => ?_) ha hs
  unfold lenV at q
  split at q
  · obtain ⟨a, us, rfl, ⟨h, _⟩, z, rs⟩ := r
    exact .inl ⟨a, us, rfl, .inl (.of h), PR.here S q _ (by rw [rs.length]; rfl)⟩
  · obtain ⟨a, us, rfl, h, z, rs⟩ := r
    refine .inl ⟨a, us, rfl, .inr ?_, PR.here S q _ (by rw [rs.length]; rfl)⟩
    rcases h with h | h
    · exact .of h.1
    · exact h H
  · obtain ⟨a, us, rfl, h, z, rs⟩ := r
    refine .inr ⟨a, us, rfl, h.1, PR.here S q _ ?_⟩
    rw [RepK.length rs]; rfl
  · rename_i n
    obtain ⟨_, rfl⟩ := r
    cases e : st.cell n with
    | none => rw [e] at q; exact q.elim
    | some d =>
      rw [e] at q
      cases d with
      | lst ws =>
        obtain ⟨us, h, z, rs⟩ := S.cells n _ e
        exact .inl ⟨m n, us, rfl, .inl (.of h), PR.here S q _ (by rw [rs.length]; rfl)⟩
      | tup ws =>
        obtain ⟨us, h, z, rs⟩ := S.cells n _ e
        exact .inl ⟨m n, us, rfl, .inr (.of h), PR.here S q _ (by rw [rs.length]; rfl)⟩
      | dct ws =>
        obtain ⟨us, h, z, rs⟩ := S.cells n _ e
        exact .inr ⟨m n, us, rfl, .inl h, PR.here S q _ (by rw [rs.length]; rfl)⟩
      | _ => exact q.elim
  · exact q.elim
theorem maxL_max : ∀ {ns : List Int} {m x : Int}, m ∈ (x :: ns) → (∀ y, y ∈ (x :: ns) → y ≤ m) → ns.foldl (fun a b => if b > a then b else a) x = m
  | [], m, x, h, _ => by simp at h; exact h.symm
  | y :: r, m, x, h, k => by
    rw [List.foldl_cons]
    refine maxL_max ?_ ?_
    · by_cases z : y > x
      · rw [if_pos z]
        rcases List.mem_cons.mp h with e | e
        · exact absurd (k y (by simp)) (by omega)
        · exact e
      · rw [if_neg z]
        rcases List.mem_cons.mp h with e | e
        · simp [e]
        · rcases List.mem_cons.mp e with e | e
          · have := k x (by simp)
            have : m = x := by omega
            simp [this]
          · exact List.mem_cons_of_mem _ e
    · intro w hw
      rcases List.mem_cons.mp hw with e | e
      · by_cases z : y > x
        · rw [if_pos z] at e; exact k w (by simp [e])
        · rw [if_neg z] at e; exact k w (by simp [e])
      · exact k w (by simp [e])
theorem se_max (C : Cq tb G CA XR k N sc own X W) (h : bltB tb sc "max" = true) (ha : SE CA XR X W a f) (hs : starEach [a] X.env = (false, eval a X.env) :: starEach [] X.env := by rfl) : SE CA XR X W (.Call (.Name "max" p) [a] [] pos) (e1 maxV f) := by
  refine call1 C.toCw h (cr_max C.calm) PyProof.Rows.boot_max (fun σ x m st H v Q S r q => ?_) ha hs
  obtain ⟨ws, ad, us, rfl, h1, r1, z1, q⟩ := itemsL_ok S r q
  cases e : Fl.intsOf ws with
  | none => rw [e] at q; exact q.elim
  | some ns =>
    rw [e] at q
    have := RepVs.toInts (ns := ns) e r1
    subst this
    cases ns with
    | nil => exact q.elim
    | cons y r =>
      refine ⟨ad, y :: r, rfl, .of h1, by simp, fun mx hm hmx => ?_⟩
      have e2 : maxL (y :: r) = some mx := congrArg some (maxL_max hm hmx)
      dsimp only at q
      rw [e2] at q
      exact PR.here S q _ rfl
theorem se_list (C : Cw tb G CA XR k N sc own X W) (cell : Bool) (h : bltB tb sc "list" = true) (ha : SE CA XR X W a f) (hs : starEach [a] X.env = (false, eval a X.env) :: starEach [] X.env := by rfl) : SE CA XR X W (.Call (.Name "list" p) [a] [] pos) (e1 (listV cell) f) := by
  refine callT1 C h call_list_of PyProof.Rows.boot_list (fun σ x m st H v Q S r q => ?_) ha hs
  obtain ⟨ws, ad, us, rfl, h1, r1, z1, q⟩ := items_ok S r q
  exact ⟨ad, us, rfl, h1, newL_ok S r1 z1 q⟩
theorem se_tuple (C : Cw tb G CA XR k N sc own X W) (cell : Bool) (h : bltB tb sc "tuple" = true) (ha : SE CA XR X W a f) (hs : starEach [a] X.env = (false, eval a X.env) :: starEach [] X.env := by rfl) : SE CA XR X W (.Call (.Name "tuple" p) [a] [] pos) (e1 (tupleV cell) f) := by
  refine callT1 C h call_tuple_of PyProof.Rows.boot_tuple (fun σ x m st H v Q S r q => ?_) ha hs
  obtain ⟨ws, ad, us, rfl, h1, r1, z1, q⟩ := itemsL_ok S r q
  exact ⟨ad, us, rfl, .inl ⟨.of h1, newT_ok S r1 z1 q⟩⟩
theorem RepVs.toBls {K : PySem.W.Frag} {m : Mp} {st : Store} {H : Hp} : ∀ {ws : List Val} {bs : List Bool} {vs : List V}, boolsOf ws = some bs → RepVs K m st H ws vs → vs = bs.map V.bl
  | [], ns, vs, h, r => by simp only [boolsOf, Option.some.injEq] at h; subst h; exact r
  | .t (.bl d) :: q, ns, vs, h, ⟨v, vr, e, r1, r2⟩ => by
    simp only [boolsOf] at h
    cases e2 : boolsOf q with
    | none => rw [e2] at h; cases h
    | some tq =>
      rw [e2] at h
      simp only [Option.some.injEq] at h
      subst h
      rw [e, List.map_cons, RepVs.toBls e2 r2, show v = .bl d from r1]
  | .t .non :: q, ns, vs, h, r => by simp [boolsOf] at h
  | .t (.int _) :: q, ns, vs, h, r => by simp [boolsOf] at h
  | .t (.str _) :: q, ns, vs, h, r => by simp [boolsOf] at h
  | .t (.tup _) :: q, ns, vs, h, r => by simp [boolsOf] at h
  | .t (.lst _) :: q, ns, vs, h, r => by simp [boolsOf] at h
  | .t (.dct _) :: q, ns, vs, h, r => by simp [boolsOf] at h
  | .t (.rp _) :: q, ns, vs, h, r => by simp [boolsOf] at h
  | .loc n :: q, ns, vs, h, r => by simp [boolsOf] at h
  | .scr n :: q, ns, vs, h, r => by simp [boolsOf] at h
  | .ex n :: q, ns, vs, h, r => by simp [boolsOf] at h
theorem se_any (C : Cq tb G CA XR k N sc own X W) (h : bltB tb sc "any" = true) (ha : SE CA XR X W a f) (hs : starEach [a] X.env = (false, eval a X.env) :: starEach [] X.env := by rfl) : SE CA XR X W (.Call (.Name "any" p) [a] [] pos) (e1 anyV f) := by
  refine call1 C.toCw h (cr_any C.calm) (by decide +kernel) (fun σ x m st H v Q S r q => ?_) ha hs
  obtain ⟨ws, ad, us, rfl, h1, r1, z1, q⟩ := itemsL_ok S r q
  cases e : boolsOf ws with
  | none => rw [e] at q; exact q.elim
  | some ns =>
    rw [e] at q
    have := RepVs.toBls e r1
    subst this
    exact ⟨ad, ns, rfl, .of h1, PR.here S q _ rfl⟩
end
end Fl
set_option Elab.async false
set_option linter.all false
set_option maxRecDepth 100000
set_option maxHeartbeats 2000000
/-! Fl over the layer: isinstance, methods of lists. -/
namespace Fl
open PySem PySem.Spec L2
def isiT (a c : String) : Bool := a == c || (a == "bool" && c == "int")
def dataTys : List String := ["NoneType", "bool", "int", "str", "tuple", "list", "dict"]
theorem kit_tab : ∀ a ∈ dataTys, ∀ c ∈ ["bool", "int", "str", "tuple", "list", "dict"], kitB a c = some (isiT a c) := by decide +kernel
theorem boot_tab : ∀ c ∈ ["bool", "int", "str", "tuple", "list", "dict"], bootBuiltins (Str.ofString c) = some (.type c) := by decide +kernel
section
variable {tb : Tab} {G : FEnv} {CA : Tags} {XR : XRel} {k : Nat} {N : List Str} {sc : Scope} {own : Str → Bool} {X : Cx} {W : WX}
variable {a b c d e : Expr} {es : List Expr} {pos pos' apos cpos p p2 p3 : Pos} {f g h : CE} {t u : CT}
/-- a value's type, its answer -/
theorem isi_facts {m : Mp} {st : Store} {H : Hp} {x : Val} {v : V} (S : SR X.K CA m st H) (r : RepV X.K m st H x v) : (∀ c, isiV c x st = .bad) ∨ ∃ ty, ty ∈ dataTys ∧ TyX X.K H v (.type ty) ∧ ∀ c ∈ ["bool", "int", "str", "tuple", "list", "dict"], isiV c x st = .ok (isiT ty c) st := by
  cases x with
  | ex y => exact .inl fun _ => rfl
  | t d =>
    cases d with
    | non => cases r; exact .inr ⟨"NoneType", by decide, .base .non, fun c hc => congrArg (fun b => R.ok b st) (show false = isiT "NoneType" c by revert c; decide)⟩
    | bl b => cases r; exact .inr ⟨"bool", by decide, .base (.bl b), fun c hc => congrArg (fun b => R.ok b st) (show (c == "bool" || c == "int") = isiT "bool" c by revert c; decide)⟩
    | int b => cases r; exact .inr ⟨"int", by decide, .base (.int b), fun c hc => congrArg (fun b => R.ok b st) (show (c == "int") = isiT "int" c by revert c; decide)⟩
    | str b => cases r; exact .inr ⟨"str", by decide, .base (.str _), fun c hc => congrArg (fun b => R.ok b st) (show (c == "str") = isiT "str" c by revert c; decide)⟩
    | rp b => cases r; exact .inr ⟨"str", by decide, .base (.str _), fun c hc => congrArg (fun b => R.ok b st) (show (c == "str") = isiT "str" c by revert c; decide)⟩
    | tup ts =>
      obtain ⟨a, us, rfl, h, z, rs⟩ := r
      refine .inr ⟨"tuple", by decide, ?_, fun c hc => congrArg (fun b => R.ok b st) (show (c == "tuple") = isiT "tuple" c by revert c; decide)⟩
      rcases h with h | h
      · exact .base (.tup h.1)
      · rcases h (fun _ => none) with z | ⟨o, its, n, hk, hc, _⟩
        · rcases z with z | ⟨_, z⟩ <;> cases z
        · exact .kTuple hk hc
    | lst ts =>
      obtain ⟨a, us, rfl, h, z, rs⟩ := r
      exact .inr ⟨"list", by decide, .base (.lst h.1), fun c hc => congrArg (fun b => R.ok b st) (show (c == "list") = isiT "list" c by revert c; decide)⟩
    | dct ts =>
      obtain ⟨a, us, rfl, h, z, rs⟩ := r
      exact .inr ⟨"dict", by decide, (h.1.elim (fun z => .base (.dK z)) fun ⟨_, z⟩ => .fDict z), fun c hc => congrArg (fun b => R.ok b st) (show (c == "dict") = isiT "dict" c by revert c; decide)⟩
  | scr ns =>
    obtain ⟨zl, a, rfl, h⟩ := r
    refine .inr ⟨"list", by decide, ?_, fun c hc => congrArg (fun b => R.ok b st) (show (c == "list") = isiT "list" c by revert c; decide)⟩
    have key : SqL X.K H a (ns.map V.int) := by
      rcases h with h | h
      · exact h.2.2
      · exact h H
    rcases key with (z | ⟨_, z⟩) | ⟨o, its, n, hk, hc, _⟩
    · exact .base (.lst z)
    · exact .base (.frz z)
    · exact .kList hk hc
  | loc n =>
    obtain ⟨_, rfl⟩ := r
    cases q : st.cell n with
    | none => exact .inl fun c => by simp only [isiV, q]
    | some y =>
      have z := S.cells n y q
      cases y with
      | lst ws =>
        obtain ⟨us, h, z, rs⟩ := z
        exact .inr ⟨"list", by decide, .base (.lst h), fun c hc => by
          simp only [isiV, q]
          exact congrArg (fun b => R.ok b st) (show (c == "list") = isiT "list" c by revert c; decide)⟩
      | tup ws =>
        obtain ⟨us, h, z, rs⟩ := z
        exact .inr ⟨"tuple", by decide, .base (.tup h), fun c hc => by
          simp only [isiV, q]
          exact congrArg (fun b => R.ok b st) (show (c == "tuple") = isiT "tuple" c by revert c; decide)⟩
      | dct ws =>
        obtain ⟨us, h, z, rs⟩ := z
        exact .inr ⟨"dict", by decide, .base (.dK h), fun c hc => by
          simp only [isiV, q]
          exact congrArg (fun b => R.ok b st) (show (c == "dict") = isiT "dict" c by revert c; decide)⟩
      | ins _ _ => exact .inl fun c => by simp only [isiV, q]
      | kd _ => exact .inl fun c => by simp only [isiV, q]
/-- isinstance(x, T), T a built-in type -/
theorem se_isi (C : Cw tb G CA XR k N sc own X W) (ty : String) (h : bltB tb sc "isinstance" = true) (h2 : bltB tb sc (Str.ofString ty) = true) (ht : ty ∈ ["bool", "int", "str", "tuple", "list", "dict"]) (ha : SE CA XR X W a f)
    (hs : starEach [a, .Name (Str.ofString ty) p2] X.env = (false, eval a X.env) :: starEach [.Name (Str.ofString ty) p2] X.env := by rfl) : SE CA XR X W (.Call (.Name "isinstance" p) [a, .Name (Str.ofString ty) p2] [] pos) (eB (tIsi ty f)) := by
  have hb : PE X (.Name (Str.ofString ty) p2) (tC (.ty ty)) := pe_bltn (gl_of C (blt_gl h2)) (blt_mg C h2) (boot_tab ty ht) rfl (gl_nm (blt_gl h2)) (gl_dbg (blt_gl h2))
  refine PE.weak (pe_callB call_isi (gl_of C (blt_gl h)) (blt_mg C h) PyProof.Rows.boot_isinstance (pa_cons ha (pa_cons hb pa_nil rfl) hs) (gl_nm (blt_gl h)) (gl_dbg (blt_gl h)) hs rfl) fun σ H Q ⟨m, st, ρ, S, E, q⟩ => ?_
  refine ⟨m, st, ρ, S, E, (PR.bind_of (PR.bind_of q)).mono fun x m1 st1 H1 S1 T1 h1 v rv => ?_⟩
  rcases isi_facts S1 rv with z | ⟨tn, hm, hty, z⟩
  · have : PR X.K CA XR W σ (isiV ty x st1) m1 st1 H1 _ := h1
    rw [z ty] at this; exact this.elim
  · have h3 : PR X.K CA XR W σ (isiV ty x st1) m1 st1 H1 _ := h1
    rw [z ty ht] at h3
    refine ⟨v, .ty ty, .type tn, .type ty, isiT tn ty, rfl, .ty ty, hty, kit_ty (kit_tab tn hm ty ht), ?_⟩
    exact PR.here S1 (PR.here S1 h3) _ rfl
/-- .. as a test -/
theorem st_of {t : CT} (h : SE CA XR X W e (eB t)) (he : ∀ whole, isTrue e X.env whole = (do let v ← whole; standAt e.pos; holding [v] (truthy v)) := by intro _; rfl) : STt CA XR X W e t :=
  PT.weak (pt_val h he) fun σ H Q ⟨m, st, ρ, S, E, q⟩ => ⟨m, st, ρ, S, E, by
    have key : ∀ r : R Bool, PR X.K CA XR W σ r m st H (fun b m' st' H' => Q b H') → PR X.K CA XR W σ (r.bind fun b => pure (vB b)) m st H fun x m' st' H' => ∀ v, RepV X.K m' st' H' x v → ∃ c, v = .bl c ∧ Q c H' := fun r hr => by
      cases r with
      | ok b s' => exact fun m' H' S' T v rv => ⟨b, rv, hr m' H' S' T⟩
      | exc y s' => exact hr
      | bad => exact hr
    exact key _ q⟩
/-! ### x is True -/
/-! ### methods of lists -/
theorem lstC_ok {α : Type} {σ : L2.St} {m : Mp} {st : Store} {H : Hp} {x : Val} {v : V} {k : Unit → M α} {ok : α → Mp → Store → Hp → Prop} (S : SR X.K CA m st H) (r : RepV X.K m st H x v) (q : PR X.K CA XR W σ ((lstC x st).bind k) m st H ok) :
    tyV X.K "list" v H ∧ PR X.K CA XR W σ (k () st) m st H ok := by
  unfold lstC at q
  split at q
  · rename_i n
    obtain ⟨_, rfl⟩ := r
    cases e : st.cell n with
    | none => rw [e] at q; exact q.elim
    | some y =>
      rw [e] at q
      cases y with
      | lst ws =>
        obtain ⟨us, h, z, rs⟩ := S.cells n _ e
        exact ⟨.inl ⟨rfl, us, .of h⟩, q⟩
      | _ => exact q.elim
  · obtain ⟨a, us, rfl, h, z, rs⟩ := r
    exact ⟨.inl ⟨rfl, us, .of h.1⟩, q⟩
  · exact q.elim
/-- o.m(x) of a list -/
theorem lm1 {id : String} {name : Str} {k2 : Val → Val → M Val} {r : V → List V → Hp → VK → Prop} (slot : Slot "list" name id) (hty : typeOf (.builtin id) = pure (.type "method_descriptor")) (hm : MtR X id r)
    (hk : ∀ σ x y m st H v w Q, SR X.K CA m st H → RepV X.K m st H x v → RepV X.K m st H y w → PR X.K CA XR W σ (k2 x y st) m st H (fun a m' st' H' => ∀ u, RepV X.K m' st' H' a u → Q u H') → r v [w] H Q)
    (ha : SE CA XR X W a f) (hb : SE CA XR X W b g) (hbase : attributeBase a name X.env (eval a X.env) = eval a X.env := by rfl)
    (hs : starEach [b] X.env = (false, eval b X.env) :: starEach [] X.env := by rfl) (hline : (apos.endLine == cpos.line) = true := by rfl) :
    SE CA XR X W (.Call (.Attribute a name apos) [b] [] cpos) (e2c lstC k2 f g) := by
  have hfew : ((backTo cpos (starEach [b] X.env)).all (fun x => !x.1) && (backToKw cpos (keywordEach [] X.env)).all (fun x => x.1.isSome)
      && decide (([b] : List Expr).length + ([] : List Keyword).length + (if ([] : List Keyword).isEmpty then 0 else 1) < 30)) = true := by rw [hs] <;> rfl
  refine PE.weak (pe_bm PySem.F.plainAttrs_list slot hty hm ha (pa_cons hb pa_nil hs) hbase hfew hline hs rfl) fun σ H Q ⟨m, st, ρ, S, E, q⟩ => ?_
  refine ⟨m, st, ρ, S, E, (PR.bind_of q).mono fun x m1 st1 H1 S1 T1 h1 v rv => ?_⟩
  obtain ⟨ty, h2⟩ := lstC_ok S1 rv h1
  refine ⟨ty, m1, st1, ρ, S1, E.mono T1, (PR.bind_of h2).mono fun y m2 st2 H2 S2 T2 h3 w rw => ?_⟩
  exact hk σ x y m2 st2 H2 v w Q S2 (RepV.mono T2 x v rv) rw h3
end
end Fl
set_option Elab.async false
set_option linter.all false
set_option maxRecDepth 100000
set_option maxHeartbeats 2000000
/-! Fl over the layer: lists and dicts that change. -/
namespace Fl
open PySem PySem.Spec L2
section
variable {tb : Tab} {G : FEnv} {CA : Tags} {XR : XRel} {k : Nat} {N : List Str} {sc : Scope} {own : Str → Bool} {X : Cx} {W : WX}
variable {a b c d e : Expr} {es : List Expr} {pos pos' apos cpos p p2 p3 : Pos} {f g h : CE} {t u : CT}
/-- a list's cell is written -/
theorem setL_ok {α : Type} {σ : L2.St} {m : Mp} {st : Store} {H : Hp} {n : Nat} {ws ws' : List Val} {us' : List V} {a : α} {ok : α → Mp → Store → Hp → Prop} (S : SR X.K CA m st H) (e : st.cell n = some (.lst ws)) (r : RepVs X.K m st H ws' us') (z : ws'.length ≤ L)
    (q : PR X.K CA XR W σ (.ok a (st.set n (some (.lst ws')))) m st H ok) : ok a m (st.set n (some (.lst ws'))) (upd H (m n) (.lst us')) := by
  have T := S.setStep (o := .lst us') (c' := .lst ws') e
  exact q m _ (S.setCell e ⟨us', upd_same, z, RepVs.mono T _ _ r⟩) T
theorem se_append (ha : SE CA XR X W a f) (hb : SE CA XR X W b g) (hbase : attributeBase a "append" X.env (eval a X.env) = eval a X.env := by rfl)
    (hs : starEach [b] X.env = (false, eval b X.env) :: starEach [] X.env := by rfl) (hline : (apos.endLine == cpos.line) = true := by rfl) : SE CA XR X W (.Call (.Attribute a "append" apos) [b] [] cpos) (e2c lstC appendV f g) := by
  refine lm1 PySem.F.slot_list_append PySem.F.type_list_append mt_append (fun σ x y m st H v w Q S rx ry q => ?_) ha hb hbase hs hline
  unfold appendV at q
  split at q
  · rename_i n
    obtain ⟨_, rfl⟩ := rx
    cases e : st.cell n with
    | none => rw [e] at q; exact q.elim
    | some cc =>
      rw [e] at q
      cases cc with
      | lst ws =>
        dsimp only at q
        split at q
        · rename_i hz
          obtain ⟨us, hh, z, rs⟩ := S.cells n _ e
          refine ⟨m n, us, w, rfl, rfl, hh, by rw [← rs.length]; exact lineLt hz, ?_⟩
          exact setL_ok S e (RepVs.append rs (show RepVs X.K m st H [y] [w] from ⟨w, [], rfl, ry, rfl⟩)) (by rw [List.length_append, List.length_singleton]; omega) q .non rfl
        · exact q.elim
      | _ => exact q.elim
  · exact q.elim
theorem pyIx_seq {n j : Nat} {i : Int} (h : pyIx n i = some j) : seqIndex? i n = some j ∧ (n ≤ L → -(2 ^ 63) ≤ i ∧ i < 2 ^ 63) := by
  unfold pyIx at h
  have hb : n ≤ L → (n : Int) ≤ 16777216 := fun z => by have z2 : n ≤ 16777216 := z; omega
  split at h
  · rename_i h1
    split at h
    · rename_i h2
      cases h
      have e1 : (if i < 0 then i + (n : Int) else i) = i := if_neg (by omega)
      have e2 : (decide (0 ≤ i) && decide (i < (n : Int))) = true := by rw [decide_eq_true h1, decide_eq_true h2]; rfl
      refine ⟨?_, fun z => ?_⟩
      · show (if (decide (0 ≤ (if i < 0 then i + (n : Int) else i)) && decide ((if i < 0 then i + (n : Int) else i) < n)) = true then some (if i < 0 then i + (n : Int) else i).toNat else none) = _
        rw [e1, if_pos e2]
      · have := hb z
        omega
    · cases h
  · rename_i h1
    split at h
    · rename_i h2
      cases h
      have e1 : (if i < 0 then i + (n : Int) else i) = i + n := if_pos (by omega)
      have e2 : (decide (0 ≤ i + (n : Int)) && decide (i + (n : Int) < (n : Int))) = true := by rw [decide_eq_true (show 0 ≤ i + (n : Int) by omega), decide_eq_true (show i + (n : Int) < n by omega)]; rfl
      refine ⟨?_, fun z => ?_⟩
      · show (if (decide (0 ≤ (if i < 0 then i + (n : Int) else i)) && decide ((if i < 0 then i + (n : Int) else i) < n)) = true then some (if i < 0 then i + (n : Int) else i).toNat else none) = _
        rw [e1, if_pos e2]
      · have := hb z
        omega
    · cases h
theorem se_pop (ha : SE CA XR X W a f) (hb : SE CA XR X W b g) (hbase : attributeBase a "pop" X.env (eval a X.env) = eval a X.env := by rfl)
    (hs : starEach [b] X.env = (false, eval b X.env) :: starEach [] X.env := by rfl) (hline : (apos.endLine == cpos.line) = true := by rfl) : SE CA XR X W (.Call (.Attribute a "pop" apos) [b] [] cpos) (e2c lstC popL f g) := by
  refine lm1 PySem.F.slot_list_pop PySem.F.type_list_pop mt_popAt (fun σ x y m st H v w Q S rx ry q => ?_) ha hb hbase hs hline
  unfold popL at q
  split at q
  · rename_i n i
    obtain ⟨_, rfl⟩ := rx
    cases ry
    cases e : st.cell n with
    | none => rw [e] at q; exact q.elim
    | some cc =>
      rw [e] at q
      cases cc with
      | lst ws =>
        dsimp only at q
        cases e1 : pyIx ws.length i with
        | none => rw [e1] at q; exact q.elim
        | some j =>
          rw [e1] at q
          dsimp only at q
          cases e2 : ws[j]? with
          | none => rw [e2] at q; exact q.elim
          | some y =>
            rw [e2] at q
            dsimp only at q
            obtain ⟨us, hh, z, rs⟩ := S.cells n _ e
            obtain ⟨h1, h2⟩ := pyIx_seq e1
            obtain ⟨h3, h4⟩ := h2 z
            obtain ⟨y', e3, ry⟩ := rs.get e2
            refine ⟨m n, us, i, j, y', rfl, rfl, hh, h3, h4, by rw [← rs.length]; exact h1, e3, ?_⟩
            have T := S.setStep (o := .lst (us.eraseIdx j)) (c' := .lst (ws.eraseIdx j)) e
            exact setL_ok S e (rs.eraseIdx j) (Nat.le_trans (len_erase _ _) z) q y' (RepV.mono T _ _ ry)
      | _ => exact q.elim
  · exact q.elim
end
end Fl
set_option Elab.async false
set_option linter.all false
set_option maxRecDepth 100000
set_option maxHeartbeats 2000000
/-! Fl over the layer: calls of the text's defs. -/
namespace Fl
open PySem PySem.Spec L2
theorem TracedZ.one {h B B' : Heap} {a : Addr} {Z Z' : Obj → Prop} {fl fl' : Value} (x : HandSPX.TracedZ h B a Z fl) (y : HandSPX.TracedZ h B' a Z' fl') : fl = fl' := by
  obtain ⟨oe, vs, T, oT, ts, e1, _, e2, e3, _, _, e4, e5, e6⟩ := x
  obtain ⟨oe', vs', T', oT', ts', f1, _, f2, f3, _, _, f4, f5, f6⟩ := y
  have h1 : oe = oe' := Option.some.inj (e1.symm.trans f1)
  subst h1
  have h2 : vs = vs' := by
    have := e2.symm.trans f2
    injection this
  subst h2
  have h3 : T = T' := by
    have := Option.some.inj (e3.symm.trans f3)
    injection this
  subst h3
  have h4 : oT = oT' := Option.some.inj (e4.symm.trans f4)
  subst h4
  have h5 : ts = ts' := by
    have := e5.symm.trans f5
    injection this
  subst h5
  exact Option.some.inj (e6.symm.trans f6)
theorem TracedZ.noted {h B : Heap} {a : Addr} {Z : Obj → Prop} {fl : Value} {oe : Obj} {vs : Array Value} (x : HandSPX.TracedZ h B a Z fl) (e : h.get? a = some oe) (d : oe.data = .fields vs) : vs[1]? ≠ some .none := fun z => by
  obtain ⟨oe', vs', T, oT, ts, f1, _, f2, f3, _⟩ := x
  have h1 : oe = oe' := Option.some.inj (e.symm.trans f1)
  subst h1
  have h2 : vs = vs' := by
    have := d.symm.trans f2
    injection this
  subst h2
  have := Option.some.inj (z.symm.trans f3)
  injection this
section
variable {tb : Tab} {G : FEnv} {CA : Tags} {XR : XRel} {k : Nat} {N : List Str} {sc : Scope} {own : Str → Bool} {X : Cx} {W : WX}
variable {a b c d e : Expr} {es : List Expr} {pos pos' apos cpos p p2 p3 : Pos} {f g h : CE} {t u : CT}
/-- what a call lets out is in the air, whichever frame we stand in -/
theorem air_call {pins : List (Addr × Obj)} {σ : L2.St} {H : Hp} {s s' : Shared} {u : Value} {F : Addr} (I : Inv X pins σ H s) (c : L2.CX X.prog X.w X.stack H s (fun c d H' => W c d σ H') u s') : XEL X F W u s' := by
  have c2 := c
  obtain ⟨a0, B0, H0, cls0, d0, e0, fl0, _⟩ := c2
  obtain ⟨a1, B, sI, pins', σ', H', cls, dd, e1, J, nb, up, sky, na, os, ag, w⟩ := XE.of_call (W := W) I (fun _ _ _ z => z) c
  subst e1
  obtain rfl : a1 = a0 := Value.ref.inj e0
  refine ⟨a1, B, sI, pins', σ', H', cls, dd, ⟨rfl, w⟩, J, ⟨?_, na⟩, nb, up, os, ag⟩
  rcases sky with z | z | z
  · exact .inl z
  · exact .inr (.inl z)
  · have q := TracedZ.one fl0.2.2.2 z.2.2.2
    exact absurd q (by simp [rawInt])
theorem PR.flat {α : Type} {K : PySem.W.Frag} {σ : L2.St} {r : R α} {m : Mp} {st : Store} {H : Hp} {ok : α → Mp → Store → Hp → Prop} (h : PR K CA XR W σ r m st H ok) : PR K CA XR (fun c d _ H' => W c d σ H') [] r m st H ok := by
  cases r with
  | ok a s' => exact h
  | exc x s' => exact h
  | bad => exact h
/-- the callee runs -/
theorem run1 {fa : Addr} {fd : FuncData} {ps : List Str} {sp : Sp} {pins : List (Addr × Obj)} {σ : L2.St} {H : Hp} {s : Shared} {Q : VK} {us : List Value} {vs : List V} (C : Cq tb G CA XR k N sc own X W)
    (F : FnOk1 X.prog X.w X.K X.mg X.base k fa fd ps sp) (hb : Binds X.K fd ps []) (I : Inv X pins σ H s) (r : Vals vs us) (q : sp vs H Q fun c d H' => W c d σ H') :
    wpAny (model X.prog X.w) X.A (call (.ref fa) us) (EP X pins σ Q) X.xe s := by
  have hl : us.length = ps.length := r.length.symm.trans (F.len _ _ _ _ q)
  have bd : BindsTo s fd ⟨us, []⟩ (ps.zip us) := by
    have z := hb s us I.kIn (by rw [List.append_nil]; exact hl)
    rw [List.append_nil] at z
    exact z
  obtain ⟨A0, hA, _, tk⟩ := C.takes
  refine wpAny_call (codeAny_mono (F.run X.A X.stack s H ⟨us, []⟩ us vs Q _ C.room I.env0 bd r q) fun rr s' hq => ?_)
  cases rr with
  | ok fl =>
    cases fl with
    | ret u => exact I.after hq
    | next => exact (show False from hq).elim
    | brk => exact (show False from hq).elim
    | cont => exact (show False from hq).elim
  | error e => exact tk e s' (air_call I hq)
theorem spOf_of {K : PySem.W.Frag} {σ : L2.St} {F : List Val → M Val} {n : Nat} {as : List Val} {vs : List V} {m : Mp} {st : Store} {H : Hp} {Q : VK} (S : SR K CA m st H) (r : RepVs K m st H as vs) (hn : as.length = n)
    (q : PR K CA XR W σ (F as st) m st H fun a m' st' H' => ∀ v, RepV K m' st' H' a v → Q v H') : spOf K CA XR F n vs H Q fun c d H' => W c d σ H' :=
  ⟨by rw [← r.length]; exact hn, m, st, as, S, r, q.flat⟩
theorem se_call (C : Cq tb G CA XR k N sc own X W) {x : Str} (i n : Nat) {fs : List CE} (hg : glbB sc x = true) (hm : (x, i, n) ∈ tb.fns) (hn : fs.length = n) (ha : SA CA XR X W (a :: es) (eVals fs))
    (he : starEach (a :: es) X.env = (false, eval a X.env) :: starEach es X.env := by rfl) (hpl : (backTo pos (starEach es X.env)).any (·.1) = false := by rfl) :
    SE CA XR X W (.Call (.Name x p) (a :: es) [] pos) (eCall G i fs) := by
  obtain ⟨fa, fd, ps, h1, h2, h3, h4⟩ := C.glob.fns x i n hm
  refine ⟨fun pins s σ H Q I ⟨m, st, ρ, S, E, q⟩ => ?_⟩
  refine wpAny_Call_Name_kw (ld_glob I (gl_of C.toCw hg) h1 ?_ (gl_dbg hg))
  refine PySem.W.callWith_K (h₀ := X.base) I.ok.mod.kin h2 (thn (ha.run pos pins s σ H (fun vs H1 => spOf X.K CA XR (G i) n vs H1 Q fun c d H' => W c d σ H') I ⟨m, st, ρ, S, E, (PR.bind_of q).lenOf.mono fun ws m1 st1 H1 S1 T1 h1 vs rs => spOf_of S1 rs (h1.1.trans hn) h1.2⟩) fun us s1 ⟨vs, H1, I1, rv, q1⟩ => ⟨I1.kIn, ?_⟩) he hpl
  exact run1 C h4 h3 I1 rv q1
end
end Fl
set_option Elab.async false
set_option linter.all false
set_option maxRecDepth 100000
set_option maxHeartbeats 2000000
/-! Fl over the layer: statements, defs. -/
namespace Fl
open PySem PySem.Spec L2
open PyProof.Rows (envOfC)
/-- what a statement's end means -/
def PO (K : PySem.W.Frag) (CA : Tags) (XR : XRel) (W : WX) (D : Ends) (m : Mp) (st : Store) (H : Hp) : SO → Prop
  | .nx ρ s' => ∀ m' H' σ', SR K CA m' s' H' → Step m st H m' s' H' → ER K m' s' H' ρ σ' → D.nx σ' H'
  | .bk ρ s' => ∀ m' H' σ', SR K CA m' s' H' → Step m st H m' s' H' → ER K m' s' H' ρ σ' → D.bk σ' H'
  | .ct ρ s' => ∀ m' H' σ', SR K CA m' s' H' → Step m st H m' s' H' → ER K m' s' H' ρ σ' → D.ct σ' H'
  | .rt v s' => ∀ m' H' u, SR K CA m' s' H' → Step m st H m' s' H' → RepV K m' s' H' v u → D.rt u H'
  | .ex x ρ s' => ∀ m' H' σ' cls d, SR K CA m' s' H' → Step m st H m' s' H' → ER K m' s' H' ρ σ' → XR x cls d H' → W cls d σ' H'
  | .bad => False
def tS (K : PySem.W.Frag) (CA : Tags) (XR : XRel) (W : WX) (f : SM) : TS := fun D σ H => ∃ m st ρ, SR K CA m st H ∧ ER K m st H ρ σ ∧ PO K CA XR W D m st H (f ρ st)
section
variable {K : PySem.W.Frag} {CA : Tags} {XR : XRel} {W : WX} {D D' : Ends} {m m1 : Mp} {st st1 : Store} {H H1 : Hp} {o : SO} {σ : L2.St} {ρ : Env}
theorem PO.step (h : PO K CA XR W D m st H o) (s : Step m st H m1 st1 H1) : PO K CA XR W D m1 st1 H1 o := by
  cases o with
  | nx ρ s' => exact fun m' H' σ' S T => h m' H' σ' S (s.trans T)
  | bk ρ s' => exact fun m' H' σ' S T => h m' H' σ' S (s.trans T)
  | ct ρ s' => exact fun m' H' σ' S T => h m' H' σ' S (s.trans T)
  | rt v s' => exact fun m' H' u S T => h m' H' u S (s.trans T)
  | ex x ρ s' => exact fun m' H' σ' c d S T => h m' H' σ' c d S (s.trans T)
  | bad => exact h
/-- an expression, then the rest -/
theorem PO.expr {α : Type} {r : R α} {k : α → Store → SO} (E : ER K m st H ρ σ) (h : PO K CA XR W D m st H (r.so ρ k)) : PR K CA XR W σ r m st H fun a m1 st1 H1 => PO K CA XR W D m1 st1 H1 (k a st1) := by
  cases r with
  | ok a s' => exact fun m' H' S T => PO.step h T
  | exc x s' => exact fun m' H' c d S T xr => h m' H' σ c d S T (E.mono T) xr
  | bad => exact h
end
/-! ### names told -/
theorem ER.set {K : PySem.W.Frag} {m : Mp} {st : Store} {H : Hp} {ρ : Env} {σ : L2.St} {w : Val} {v : V} (E : ER K m st H ρ σ) (r : RepV K m st H w v) (i : Nat) : ER K m st H (ρ.set i (some w)) (σ.set i (some v)) := by
  refine ⟨by rw [List.length_set, List.length_set]; exact E.1, fun j x e => ?_⟩
  by_cases h : i = j
  · subst h
    by_cases hl : i < ρ.length
    · rw [List.getElem?_set_self hl] at e
      cases e
      exact ⟨v, by rw [List.getElem?_set_self (by rw [← E.1]; exact hl)], r⟩
    · rw [List.getElem?_eq_none (by rw [List.length_set]; omega)] at e; cases e
  · rw [List.getElem?_set_ne h] at e
    obtain ⟨u, e1, r1⟩ := E.2 j x e
    exact ⟨u, by rw [List.getElem?_set_ne h]; exact e1, r1⟩
theorem ER.drop {K : PySem.W.Frag} {m : Mp} {st : Store} {H : Hp} {ρ : Env} {σ : L2.St} (E : ER K m st H ρ σ) (i : Nat) : ER K m st H (ρ.set i none) (σ.set i none) := by
  refine ⟨by rw [List.length_set, List.length_set]; exact E.1, fun j x e => ?_⟩
  by_cases h : i = j
  · subst h
    by_cases hl : i < ρ.length
    · rw [List.getElem?_set_self hl] at e; cases e
    · rw [List.getElem?_eq_none (by rw [List.length_set]; omega)] at e; cases e
  · rw [List.getElem?_set_ne h] at e
    obtain ⟨u, e1, r1⟩ := E.2 j x e
    exact ⟨u, by rw [List.getElem?_set_ne h]; exact e1, r1⟩
/-! ### a def's end: what it let go is forgotten -/
section
variable {K : PySem.W.Frag} {CA : Tags} {XR : XRel} {m m' : Mp} {st st' : Store} {H H' : Hp} {n : Nat}
theorem cell_take {s : Store} {n k : Nat} {c : Cell} (h : Store.cell (s.take n) k = some c) : s.cell k = some c ∧ k < n := by
  unfold Store.cell at *
  rw [List.getElem?_take] at h
  split at h
  · exact ⟨h, by assumption⟩
  · cases h
theorem live_take {a : Addr} (h : live m (st.take n) a) : live m st a := by
  obtain ⟨k, c, e, z⟩ := h
  exact ⟨k, c, (cell_take e).1, z⟩
theorem RepV.trim (hn : n ≤ st.length) : ∀ {w : Val} {v : V}, w.below n = true → RepV K m st H w v → RepV K m (st.take n) H w v
  | .t d, v, _, h => Rep.mono (fun _ _ h _ => .inl h) (fun a l => .inl (live_take l)) d v h
  | .loc k, v, b, h => by
    have b' : k < n := by simpa [Val.below] using b
    exact ⟨by rw [List.length_take]; omega, h.2⟩
  | .scr _, _, b, _ => by simp [Val.below] at b
  | .ex _, _, b, _ => by simp [Val.below] at b
theorem RepVs.trim (hn : n ≤ st.length) : ∀ {w : List Val} {v : List V}, (w.all fun x => x.below n) = true → RepVs K m st H w v → RepVs K m (st.take n) H w v
  | [], _, _, h => h
  | x :: r, _, b, ⟨v, q, e, h1, h2⟩ => by
    rw [List.all_cons, Bool.and_eq_true] at b
    exact ⟨v, q, e, RepV.trim hn b.1 h1, RepVs.trim hn b.2 h2⟩
theorem RepVK.trim (hn : n ≤ st.length) : ∀ {w : List (Key × Val)} {v : List (L2.Key × V)}, (w.all fun x => x.2.below n) = true → RepVK K m st H w v → RepVK K m (st.take n) H w v
  | [], _, _, h => h
  | x :: r, _, b, ⟨v, q, e, h1, h2⟩ => by
    rw [List.all_cons, Bool.and_eq_true] at b
    exact ⟨v, q, e, ⟨h1.1, RepV.trim hn b.1 h1.2⟩, RepVK.trim hn b.2 h2⟩
theorem RepF.trim (hn : n ≤ st.length) : ∀ {w : List (String × Val)} {v : List (Str × V)}, (w.all fun x => x.2.below n) = true → RepF K m st H w v → RepF K m (st.take n) H w v
  | [], _, _, h => h
  | x :: r, _, b, ⟨v, q, e, h1, h2⟩ => by
    rw [List.all_cons, Bool.and_eq_true] at b
    exact ⟨v, q, e, ⟨h1.1, RepV.trim hn b.1 h1.2⟩, RepF.trim hn b.2 h2⟩
theorem RepKd.trim (hn : n ≤ st.length) : ∀ {w : List (T × Val)} {v : List (NestedKey × Addr × Value)}, (w.all fun x => x.2.below n) = true → RepKd K m st H w v → RepKd K m (st.take n) H w v
  | [], _, _, h => h
  | x :: r, _, b, ⟨v, q, e, ⟨h1, h2, h3, u, h4, h5⟩, h6⟩ => by
    rw [List.all_cons, Bool.and_eq_true] at b
    refine ⟨v, q, e, ⟨h1, h2, ?_, u, RepV.trim hn b.1 h4, h5⟩, RepKd.trim hn b.2 h6⟩
    have z := RepV.trim (K := K) (m := m) (H := H) (w := .t x.1) (v := .ref v.2.1) hn rfl h3
    exact z
theorem CellOk.trim (hn : n ≤ st.length) {a : Addr} : ∀ {c : Cell}, c.below n = true → CellOk K CA m st H a c → CellOk K CA m (st.take n) H a c
  | .lst _, b, ⟨us, h, z, r⟩ => ⟨us, h, z, RepVs.trim hn b r⟩
  | .tup _, b, ⟨us, h, z, r⟩ => ⟨us, h, z, RepVs.trim hn b r⟩
  | .dct _, b, ⟨us, h, z, r⟩ => ⟨us, h, z, RepVK.trim hn b r⟩
  | .ins _ _, b, ⟨C, dx, us, ca, h, r⟩ => ⟨C, dx, us, ca, h, RepF.trim hn b r⟩
  | .kd _, b, ⟨us, h, z, r⟩ => ⟨us, h, z, RepKd.trim hn b r⟩
/-- the end of a def, back in its caller -/
theorem trim_ok (S : SR K CA m' st' H') (T : Step m st H m' st' H') : SR K CA m' (trim st.length st') H' ∧ Step m st H m' (trim st.length st') H' ∧
    ∀ {w : Val} {v : V}, w.below st.length = true → RepV K m' st' H' w v → RepV K m' (trim st.length st') H' w v := by
  unfold Fl.trim
  by_cases hb : Store.below st.length (st'.take st.length) = true
  · rw [if_pos hb]
    refine ⟨⟨fun k c e => ?_, fun k k' c c' e e' q => S.inj k k' c c' (cell_take e).1 (cell_take e').1 q⟩, ⟨T.keep, fun a l => T.lv a (live_take l), T.ag, by rw [List.length_take]; have := T.len; omega⟩, fun {w v} b r => RepV.trim T.len b r⟩
    have z := (cell_take e)
    refine CellOk.trim T.len ?_ (S.cells k c z.1)
    have hm : some c ∈ st'.take st.length := by
      unfold Store.cell at e
      cases q : (List.take st.length st')[k]? with
      | none => rw [q] at e; cases e
      | some x =>
        rw [q] at e
        have : x = some c := by simpa using e
        rw [this] at q
        exact List.mem_of_getElem? q
    exact List.all_eq_true.mp hb _ hm
  · rw [if_neg hb]
    exact ⟨S, T, fun _ r => r⟩
end
/-- the entry's names -/
theorem ER.start {K : PySem.W.Frag} {m : Mp} {st : Store} {H : Hp} {N : List Str} {as : List Val} {vs : List V} (r : RepVs K m st H as vs) (hn : as.length ≤ N.length) : ER K m st H (start N.length as) (L2.start N vs) := by
  have hl := r.length
  refine ⟨?_, fun i w e => ?_⟩
  · unfold Fl.start L2.start
    rw [List.length_append, List.length_append, List.length_map, List.length_map, List.length_replicate, List.length_replicate, hl]
  · unfold Fl.start at e
    by_cases hi : i < as.length
    · rw [List.getElem?_append_left (by rw [List.length_map]; exact hi), List.getElem?_map] at e
      cases q : as[i]? with
      | none => rw [q] at e; cases e
      | some x =>
        rw [q] at e
        cases e
        obtain ⟨v, e1, r1⟩ := r.get q
        refine ⟨v, ?_, r1⟩
        unfold L2.start
        rw [List.getElem?_append_left (by rw [List.length_map]; omega), List.getElem?_map, e1]
        rfl
    · rw [List.getElem?_append_right (by rw [List.length_map]; omega), List.getElem?_replicate] at e
      split at e <;> cases e
/-- the place of a statement -/
structure Cs (tb : Tab) (G : FEnv) (CA : Tags) (XR : XRel) (k : Nat) (N : List Str) (sc : Scope) (X : Cx) (W : WX) : Prop where
  q : Cq tb G CA XR k N sc (fun _ => true) X W
  hs : X.stack = X.env :: X.outer
  hf : X.env.frame = some X.env.locals
  hp : PassesOwn (model X.prog X.w) X.A X.env X.xe
  tk : Takes X W
  kind : sc.kind = .function
abbrev SS (CA : Tags) (XR : XRel) (X : Cx) (W : WX) (b : List Stmt) (f : SM) : Prop := PSs X b (tS X.K CA XR W f)
abbrev S1 (CA : Tags) (XR : XRel) (X : Cx) (W : WX) (b : Stmt) (f : SM) : Prop := PS X b (tS X.K CA XR W f)
section
variable {P : Program} {w : World} {K : PySem.W.Frag} {mg : Str → Option Value} {base : Heap} {k : Nat} {fa : Addr} {name qual : Str} {params : Arguments} {body : List Stmt} {scope : Scope} {dV kV doc pm cdv ct oc : Value} {an od : Option Addr}
  {osl : Array (Option Value)} {N ps : List Str} {tb : Tab} {G : FEnv} {CA : Tags} {XR : XRel} {sm : SM}
/-- a def by its mirror -/
theorem fn1 (lk : K.lookup fa = some ⟨oc, od, .func (PySem.W.fnOf name qual params body scope dV kV doc pm an cdv ct), osl⟩) (hcd : PySem.W.codeIn K cdv qual = true) (S : FnScope N ps scope)
    (gl : GlobOk tb G CA XR P w K mg base k) (hb : ∀ X W, Cs tb G CA XR k N scope X W → SS CA XR X W body sm) :
    FnOk1 P w K mg base (k + 1) fa (PySem.W.fnOf name qual params body scope dV kV doc pm an cdv ct) ps (spOf K CA XR (mkFn N.length ps.length sm) ps.length) := by
  refine ⟨fun vs H Q E h => h.1, fun A outer s H args us vs Q E hr e0 hbd r hsp => ?_⟩
  obtain ⟨hl, m, st, as, SR0, rs, q⟩ := hsp
  have KX : K.In s.heap := e0.mod.kin.keeps fun b o e => (e0.bs b o e).1
  have kinds : ∀ y ∈ ps.zip us, scope.names.lookup y.1 = some .local ∨ (scope.names.lookup y.1 = some .cell ∧ ((cellsFrom (s.heap.objs.size + 1) scope.names []).lookup y.1).isSome = true) := by
    rintro ⟨n, v⟩ hy
    rcases S.par n (List.of_mem_zip hy).1 with z | z
    · exact .inl z
    · exact .inr ⟨z, PySem.W.cellsFrom_some _ _ _ (.inl z)⟩
  have hdep : A.depth < recursionLimit := by have := hr.dp; omega
  refine codeAny_call_function hdep (KX _ _ lk) rfl S.co S.gen rfl (PySem.W.codeRec_of KX hcd) (hbd _ _ _ _ ?_)
  refine wpAny_newFunctionEnv_cells S.kind kinds fun env he s1 x => ?_
  subst he
  refine ⟨(e0.mod.nolimit.keeps fun b o e => (e0.bs b o e).1).keeps x.toInCall.keep, codeAny_func ?_⟩
  generalize hX : cxOf (L2.CX P w) P w K mg base N qual scope fa cdv A outer s H E = X
  have I : Inv X [] (L2.start N vs) H s1 := by
    rw [← hX]
    exact inv_start S hr.hd e0 hl r x
  have hE : X.env = envOfC qual scope s.heap.objs.size fa cdv := by rw [← hX]; rfl
  have hst : X.stack = X.env :: X.outer := by rw [← hX]; rfl
  have hfr : X.env.frame = some X.env.locals := by rw [← hX]; rfl
  have hxe : X.xe = fun e s' => wpAny (model X.prog X.w) X.A (leaving X.env e) (fun _ s'' => L2.CX X.prog X.w X.outer X.H_0 X.s_0 E e s'') (fun e' s'' => L2.CX X.prog X.w X.outer X.H_0 X.s_0 E e' s'') s' := by rw [← hX]; rfl
  have tk : Takes X fun cls d _ H => E cls d H := takes_of hst hfr (by rw [← hX]; rfl) hxe
  have C : Cs tb G CA XR k N scope X fun cls d _ H => E cls d H := by
    have room : Room1 k X.A := by rw [← hX]; exact hr.deeper (fun _ => envOfC qual scope s.heap.objs.size fa cdv) _
    refine ⟨⟨⟨by rw [← hX]; rfl, S.nd, by rw [← hX]; rfl, by rw [← hX]; rfl, by have := room.un; omega, by rw [← hX]; exact gl⟩, by rw [← hX]; rfl, ⟨_, hfr, ⟨_, _, hst, hfr⟩, ?_⟩, room⟩, hst, hfr, passes_of hxe, tk, S.kind⟩
    rintro u s' ⟨a, B, sI, pins, σ, H', cls, d, ⟨h1, h2⟩, h3, ⟨h4, h5⟩, h6, h7, h8, h9⟩
    exact tk u s' ⟨a, B, sI, pins, σ, H', cls, d, h1, h3, h6, h7, h4, h5, h8, h9, h2⟩
  have hnp : ps.length ≤ N.length := by have z := congrArg List.length S.pre; rw [List.length_take] at z; omega
  have hal : as.length = ps.length := rs.length.trans hl
  have hK : X.K = K := by rw [← hX] <;> rfl
  have pre : tS X.K CA XR (fun cls d _ H => E cls d H) sm { nx := fun _ H' => Q .non H', rt := Q } (L2.start N vs) H := by
    rw [hK]
    refine ⟨m, st, start N.length as, SR0, ER.start rs (by omega), ?_⟩
    have q' : PR K CA XR (fun c d _ H' => E c d H') [] (mkFn N.length ps.length sm as st) m st H fun a m' st' H' => ∀ v, RepV K m' st' H' a v → Q v H' := q
    unfold mkFn at q'
    rw [if_pos hal] at q'
    cases e : sm (start N.length as) st with
    | nx ρ s' =>
      rw [e] at q'
      intro m' H' σ' S' T _
      obtain ⟨t1, t2, _⟩ := trim_ok S' T
      exact q' m' H' t1 t2 .non rfl
    | rt v s' =>
      rw [e] at q'
      dsimp only at q'
      intro m' H' u S' T ru
      split at q'
      · rename_i hbl
        obtain ⟨t1, t2, t3⟩ := trim_ok S' T
        exact q' m' H' t1 t2 u (t3 hbl ru)
      · split at q'
        · exact q' m' H' S' T u ru
        · exact (show False from q').elim
    | ex x ρ s' =>
      rw [e] at q'
      intro m' H' σ' cls d S' T _ xr
      obtain ⟨t1, t2, _⟩ := trim_ok S' T
      exact q' m' H' cls d t1 t2 xr
    | bk ρ s' => rw [e] at q'; exact (show False from q').elim
    | ct ρ s' => rw [e] at q'; exact (show False from q').elim
    | bad => rw [e] at q'; exact (show False from q').elim
  have run := (hb X _ C).run [] s1 (L2.start N vs) H _ I pre
  have fin : ∀ {σ' : L2.St} {H' : Hp} {v : V} {u : Value} {s' : Shared}, Inv X [] σ' H' s' → RelV v u → Q v H' → L2.CE outer P w H s Q u s' := by
    intro σ' H' v u s' J rv qv
    rw [← hX] at J
    exact ⟨v, H', J.os, J.bare, J.base, J.hok, rv, qv⟩
  rw [← hX] at run
  refine wpAny_mono run (fun fl s' hs => ?_) fun e s' hs => hs
  rw [hX] at hs
  cases fl with
  | next =>
    obtain ⟨σ', H', J, qv⟩ := hs
    exact fin (v := V.non) (u := Value.none) J rfl qv
  | ret u =>
    obtain ⟨v, σ', H', J, rv, qv⟩ := hs
    exact fin J rv qv
  | brk => obtain ⟨_, _, _, z⟩ := hs; exact (show False from z).elim
  | cont => obtain ⟨_, _, _, z⟩ := hs; exact (show False from z).elim
end
end Fl
set_option Elab.async false
set_option linter.all false
set_option maxRecDepth 100000
set_option maxHeartbeats 2000000
/-! Fl over the layer: what is walked; targets. -/
namespace Fl
open PySem PySem.Spec L2
/-- vs is what J gives, whatever is done meanwhile -/
structure Wk (K : PySem.W.Frag) (CA : Tags) (J : It) (vs : List Val) (m : Mp) (st : Store) (H : Hp) : Prop where
  go : ∀ i w, vs[i]? = some w → ∀ m' st' H', SR K CA m' st' H' → Step m st H m' st' H' → J.go i H' ∧ ∀ x H2, J.yld i H' x H2 → SR K CA m' st' H2 ∧ Step m' st' H' m' st' H2 ∧ RepV K m' st' H2 w x
  stop : ∀ i m' st' H', vs.length ≤ i → SR K CA m' st' H' → Step m st H m' st' H' → J.stop i H'
def tI (K : PySem.W.Frag) (CA : Tags) (XR : XRel) (W : WX) (f : CI) : TI := fun σ H R => ∃ m st ρ, SR K CA m st H ∧ ER K m st H ρ σ ∧
  PR K CA XR W σ (f ρ st) m st H fun vs m1 st1 H1 => ∀ J, Wk K CA J vs m1 st1 H1 → R J H1
abbrev SI (CA : Tags) (XR : XRel) (X : Cx) (W : WX) (tg it : Expr) (f : CI) : Prop := PI X tg it (tI X.K CA XR W f)
/-- .. no longer than a list may be -/
def tIL (K : PySem.W.Frag) (CA : Tags) (XR : XRel) (W : WX) (f : CI) : TI := fun σ H R => ∃ m st ρ, SR K CA m st H ∧ ER K m st H ρ σ ∧
  PR K CA XR W σ (f ρ st) m st H fun vs m1 st1 H1 => ∀ J, Wk K CA J vs m1 st1 H1 → vs.length ≤ L → R J H1
abbrev SIL (CA : Tags) (XR : XRel) (X : Cx) (W : WX) (tg it : Expr) (f : CI) : Prop := PI X tg it (tIL X.K CA XR W f)
def tG (K : PySem.W.Frag) (CA : Tags) (XR : XRel) (W : WX) (g : CG) : TG := fun v σ H Q => ∃ m st ρ w, SR K CA m st H ∧ ER K m st H ρ σ ∧ RepV K m st H w v ∧
  PR K CA XR W σ (g w ρ st) m st H fun ρ' m' st' H' => ∀ σ', ER K m' st' H' ρ' σ' → Q σ' H'
abbrev SG (CA : Tags) (XR : XRel) (X : Cx) (W : WX) (tg : Expr) (g : CG) : Prop := PG X tg (tG X.K CA XR W g)
theorem PG.weak {X : Cx} {tg : Expr} {t t' : TG} (h : PG X tg t) (k : ∀ v σ H Q, t' v σ H Q → t v σ H Q) : PG X tg t' := ⟨fun pins s σ H v u Q I r q => h.run pins s σ H v u Q I r (k v σ H Q q)⟩
theorem PI.weak {X : Cx} {tg it : Expr} {t t' : TI} (h : PI X tg it t) (k : ∀ σ H R, t' σ H R → t σ H R) : PI X tg it t' := ⟨fun pins s σ H R I q => h.run pins s σ H R I (k σ H R q)⟩
theorem si_of {X : Cx} {CA : Tags} {XR : XRel} {W : WX} {tg it : Expr} {f : CI} (h : SIL CA XR X W tg it f) : SI CA XR X W tg it f := PI.weak h fun σ H R ⟨m, st, ρ, S, E, q⟩ => ⟨m, st, ρ, S, E, by
  cases e : f ρ st with
  | ok a s' => rw [e] at q; exact fun m' H' S' T J wk _ => q m' H' S' T J wk
  | exc x s' => rw [e] at q; exact q
  | bad => rw [e] at q; exact q⟩
section
variable {K : PySem.W.Frag} {CA : Tags} {m : Mp} {st : Store} {H : Hp} {a : Addr} {us : List V} {ws : List Val}
end
section
variable {K : PySem.W.Frag} {CA : Tags} {m : Mp} {st : Store} {H : Hp} {a : Addr} {us : List V} {ws : List Val}
theorem wkl (hq : ∀ m' st' H', Step m st H m' st' H' → SqL K H' a us) (rs : RepVs K m st H ws us) : Wk K CA (Itl K a) ws m st H where
  go := fun i w e m' st' H' S T => by
    obtain ⟨v, e1, r⟩ := rs.get e
    refine ⟨⟨us, v, hq _ _ _ T, e1⟩, fun x H2 y => ?_⟩
    obtain ⟨rfl, y⟩ := y
    have e2 := y us (hq _ _ _ T)
    rw [e1] at e2
    cases e2
    exact ⟨S, Step.refl, RepV.mono T w v r⟩
  stop := fun i m' st' H' hi S T => ⟨us, hq _ _ _ T, by rw [← rs.length]; exact hi⟩
theorem wkt (hq : ∀ m' st' H', Step m st H m' st' H' → SqT K H' a us) (rs : RepVs K m st H ws us) : Wk K CA (Itt K a) ws m st H where
  go := fun i w e m' st' H' S T => by
    obtain ⟨v, e1, r⟩ := rs.get e
    refine ⟨⟨us, v, hq _ _ _ T, e1⟩, fun x H2 y => ?_⟩
    obtain ⟨rfl, y⟩ := y
    have e2 := y us (hq _ _ _ T)
    rw [e1] at e2
    cases e2
    exact ⟨S, Step.refl, RepV.mono T w v r⟩
  stop := fun i m' st' H' hi S T => ⟨us, hq _ _ _ T, by rw [← rs.length]; exact hi⟩
theorem upto_get {lo : Int} {n i : Nat} {w : Val} (e : (upto lo n)[i]? = some w) : i < n ∧ w = vI (lo + (i : Nat)) := by
  unfold upto at e
  rw [List.getElem?_map] at e
  by_cases h : i < n
  · rw [List.getElem?_range h] at e
    cases e
    exact ⟨h, rfl⟩
  · rw [List.getElem?_eq_none (by rw [List.length_range]; omega)] at e; cases e
theorem upto_len {lo : Int} {n : Nat} : (upto lo n).length = n := by unfold upto; rw [List.length_map, List.length_range]
theorem wkr {lo : Int} {n : Nat} : Wk K CA (Itr lo n) (upto lo n) m st H where
  go := fun i w e m' st' H' S T => by
    obtain ⟨h1, rfl⟩ := upto_get e
    refine ⟨h1, fun x H2 y => ?_⟩
    obtain ⟨rfl, rfl⟩ := y
    exact ⟨S, Step.refl, rfl⟩
  stop := fun i m' st' H' hi S T => by rw [upto_len] at hi; exact hi
theorem enumT_get : ∀ {ts : List T} {n i : Nat} {w : Val}, (enumT n ts)[i]? = some w → ∃ d, ts[i]? = some d ∧ w = .t (.tup [.int (n + i : Nat), d])
  | [], n, i, w, e => by simp [enumT] at e
  | d :: r, n, 0, w, e => by simp [enumT] at e; exact ⟨d, rfl, by rw [← e]; rfl⟩
  | d :: r, n, i + 1, w, e => by
    have e' : (enumT (n + 1) r)[i]? = some w := by simpa [enumT] using e
    obtain ⟨d', h1, h2⟩ := enumT_get e'
    exact ⟨d', by simpa using h1, by rw [h2, show n + 1 + i = n + (i + 1) by omega]⟩
theorem enumT_len : ∀ {ts : List T} {n : Nat}, (enumT n ts).length = ts.length
  | [], n => rfl
  | d :: r, n => by rw [enumT, List.length_cons, List.length_cons, enumT_len]
theorem wke {ts : List T} (hq : ∀ m' st' H', Step m st H m' st' H' → SqL K H' a us ∧ H' a ≠ none) (rs : Reps K H (live m st) ts us) (z : ts.length ≤ L) : Wk K CA (Ite K a) (enumT 0 ts) m st H where
  go := fun i w e m' st' H' S T => by
    obtain ⟨d, e0, rfl⟩ := enumT_get e
    obtain ⟨v, e1, r⟩ := rs.get e0
    refine ⟨⟨us, v, (hq _ _ _ T).1, e1⟩, fun x H2 y => ?_⟩
    obtain ⟨tp, x0, rfl, hn, rfl, y⟩ := y
    have e2 := y us (hq _ _ _ T).1
    rw [e1] at e2
    cases e2
    obtain ⟨T2, S2⟩ := S.fresh (o := .tup [.int (i : Nat), v]) hn
    refine ⟨S2, T2, tp, [.int (i : Nat), v], rfl, .inl ⟨upd_same, S.not_live hn⟩, by show 2 ≤ L; decide, ⟨.int (i : Nat), [v], rfl, ?_, v, [], rfl, ?_, rfl⟩⟩
    · show V.int _ = V.int _
      rw [Nat.zero_add]
    · exact Rep.mono (T.trans T2).keep (T.trans T2).lv d v r
  stop := fun i m' st' H' hi S T => ⟨us, (hq _ _ _ T).1, by rw [enumT_len] at hi; rw [← rs.length]; exact hi⟩
end
section
variable {tb : Tab} {G : FEnv} {CA : Tags} {XR : XRel} {k : Nat} {N : List Str} {sc : Scope} {own : Str → Bool} {X : Cx} {W : WX}
variable {a b c d e tg : Expr} {es : List Expr} {pos pos' apos cpos p p2 p3 : Pos} {f g h : CE} {t u : CT}
/-- a list, a tuple -/
def iSeq (K : PySem.W.Frag) (tl : TE) : TI := fun σ H R => tl σ H fun x H1 => ∃ a, x = .ref a ∧ (((∃ xs, SqL K H1 a xs) ∧ R (Itl K a) H1) ∨ ((∃ xs, SqT K H1 a xs) ∧ R (Itt K a) H1))
theorem pi_seq {l : Expr} {tl : TE} (hl : PE X l tl) : PI X tg l (iSeq X.K tl) := by
  refine ⟨fun pins s σ H R I h => thn (hl.run pins s σ H _ I h) ?_⟩
  rintro v s1 ⟨x, H1, I1, r1, a, rfl, q1⟩
  cases r1
  have fp : ∀ b ∈ [s1.heap.objs.size], FpOk X pins H1 b := fun b hb => by
    obtain rfl : b = s1.heap.objs.size := by simpa using hb
    exact I1.fpOk (Nat.le_refl _) (I1.hok.fresh (Nat.le_refl _))
  rcases q1 with ⟨⟨xs, hq⟩, q⟩ | ⟨⟨xs, hq⟩, q⟩
  · obtain ⟨its, rv, pl, hz⟩ := I1.list hq
    exact wpAny_pyIter_list pl.isList ⟨_, _, _, _, H1, rfl, I1.kept (t' := s1.toks) fun b o e => Heap.get?_push_of_some _ e, turn_list a _, ⟨_, Heap.get?_push_size _ rfl, rfl, rfl⟩, fp, q⟩
  · obtain ⟨its, rv, pl, hz⟩ := I1.tuple hq
    exact wpAny_pyIter_tuple (show s1.heap.IsTuple a its.toArray from pl) ⟨_, _, _, _, H1, rfl, I1.kept (t' := s1.toks) fun b o e => Heap.get?_push_of_some _ e, turn_tuple a _, ⟨_, Heap.get?_push_size _ rfl, rfl, rfl⟩, fp, q⟩
theorem sl_seq (ha : SE CA XR X W a f) : SIL CA XR X W tg a (iV f) := by
  refine PI.weak (pi_seq ha) fun σ H R ⟨m, st, ρ, S, E, q⟩ => ⟨m, st, ρ, S, E, (PR.bind_of q).mono fun x m1 st1 H1 S1 T1 h1 v rv => ?_⟩
  unfold iterOf at h1
  split at h1
  · rename_i ns
    obtain ⟨zl, ad, rfl, hq⟩ := rv
    have key : ∀ m' st' H', Step m1 st1 H1 m' st' H' → SqL X.K H' ad (ns.map V.int) := fun m' st' H' T => by
      rcases hq with ⟨h2, h3, h4⟩ | h2
      · rcases h4 with (z | ⟨o, z⟩) | z
        · exact .inl (.inl (T.same z h3 fun _ e => nomatch e))
        · exact .inl (.inr ⟨o, T.same z h3 fun _ e => nomatch e⟩)
        · exact .inr z
      · exact h2 H'
    refine ⟨ad, rfl, .inl ⟨⟨_, key _ _ _ Step.refl⟩, PR.here S1 h1 _ (wkl key (scr_reps ns)) (by rw [List.length_map]; exact zl)⟩⟩
  · obtain ⟨ad, us, rfl, ⟨h2, h3⟩, z, rs⟩ := rv
    have key : ∀ m' st' H', Step m1 st1 H1 m' st' H' → SqL X.K H' ad us := fun m' st' H' T => .of (T.same h2 h3 fun _ e => nomatch e)
    exact ⟨ad, rfl, .inl ⟨⟨_, key _ _ _ Step.refl⟩, PR.here S1 h1 _ (wkl key (RepVs.of_reps rs)) (by rw [List.length_map]; exact z)⟩⟩
  · obtain ⟨ad, us, rfl, h2, z, rs⟩ := rv
    have key : ∀ m' st' H', Step m1 st1 H1 m' st' H' → SqT X.K H' ad us := fun m' st' H' T => by
      rcases h2 with ⟨h2, h3⟩ | h2
      · exact .of (T.same h2 h3 fun _ e => nomatch e)
      · exact h2 H'
    exact ⟨ad, rfl, .inr ⟨⟨_, key _ _ _ Step.refl⟩, PR.here S1 h1 _ (wkt key (RepVs.of_reps rs)) (by rw [List.length_map]; exact z)⟩⟩
  · exact h1.elim
theorem rangeOk_iff {i : Int} (h : rangeOk i = true) : -(2 ^ 62) ≤ i ∧ i < 2 ^ 62 := by
  unfold rangeOk at h
  simpa using h
theorem si_range1 (C : Cw tb G CA XR k N sc own X W) (hg : bltB tb sc "range" = true) (ha : SE CA XR X W a f) (hs : starEach [a] X.env = (false, eval a X.env) :: starEach [] X.env := by rfl) : SI CA XR X W tg (.Call (.Name "range" p) [a] [] pos) (iRange1 f) := by
  refine PI.weak (pi_range1 (gl_of C (blt_gl hg)) (blt_mg C hg) (pa_cons ha pa_nil hs) hs) fun σ H R ⟨m, st, ρ, S, E, q⟩ => ⟨m, st, ρ, S, E, (PR.bind_of q).mono fun x m1 st1 H1 S1 T1 h1 v rv => ?_⟩
  obtain ⟨i, rfl, rfl, h2⟩ := getInt_ok rv h1
  split at h2
  · rename_i hr
    obtain ⟨h3, h4⟩ := rangeOk_iff hr
    exact ⟨i, rfl, h3, h4, PR.here S1 h2 _ wkr⟩
  · exact h2.elim
theorem sl_enum (C : Cw tb G CA XR k N sc own X W) {elts : List Expr} {kk : Nat} (hg : bltB tb sc "enumerate" = true) (ha : SE CA XR X W a f) (hs : starEach [a] X.env = (false, eval a X.env) :: starEach [] X.env := by rfl) :
    SIL CA XR X W (.Tuple elts kk p2) (.Call (.Name "enumerate" p) [a] [] pos) (iEnum f) := by
  refine PI.weak (pi_enum (gl_of C (blt_gl hg)) (blt_mg C hg) (pa_cons ha pa_nil hs) hs) fun σ H R ⟨m, st, ρ, S, E, q⟩ => ⟨m, st, ρ, S, E, (PR.bind_of q).mono fun x m1 st1 H1 S1 T1 h1 v rv => ?_⟩
  split at h1
  · obtain ⟨ad, us, rfl, ⟨h2, h3⟩, z, rs⟩ := rv
    exact ⟨ad, us, rfl, .of h2, PR.here S1 h1 _ (wke (fun m' st' H' T => ⟨.of (T.same h2 h3 fun _ e => nomatch e), by rw [T.same h2 h3 fun _ e => nomatch e]; simp⟩) rs z) (by rw [enumT_len]; exact z)⟩
  · exact h1.elim
/-! ### targets -/
/-- a name that may be stored here -/
def stoB (sc : Scope) (own : Str → Bool) (x : Str) : Bool := match sc.names.lookup x with
    | some .local => true
    | some .cell => own x
    | _ => false
theorem sto_loc {sc : Scope} {own : Str → Bool} {x : Str} (h : stoB sc own x = true) : L2.Loc sc x ∧ (own x = true ∨ sc.names.lookup x = some .local) := by
  unfold stoB at h
  unfold L2.Loc
  cases e : sc.names.lookup x with
  | none => rw [e] at h; cases h
  | some k =>
    rw [e] at h
    cases k with
    | «local» => exact ⟨.inl rfl, .inr rfl⟩
    | cell => exact ⟨.inr rfl, .inl h⟩
    | _ => cases h
theorem sg_var (C : Cw tb G CA XR k N sc own X W) (i : Nat) {x : Str} (hi : N[i]? = some x) (hx : stoB sc own x = true) : SG CA XR X W (.Name x pos) (gVar i) := by
  obtain ⟨h1, h2⟩ := sto_loc hx
  refine PG.weak (pg_name (i := i) (by rw [C.nm]; exact C.nd) (by rw [C.nm]; exact hi) (by rw [C.sc]; exact h1) (by rw [C.sc, C.own]; exact h2)) fun v σ H Q ⟨m, st, ρ, w, S, E, r, q⟩ => ?_
  exact PR.here S q _ (E.set r i)
/-- several targets in a row -/
def tGs (K : PySem.W.Frag) (CA : Tags) (is : List Nat) : TGs := fun vs σ H Q => ∃ m st ρ ws ρ', SR K CA m st H ∧ ER K m st H ρ σ ∧ RepVs K m st H ws vs ∧ gSets is ws ρ = some ρ' ∧ ∀ σ', ER K m st H ρ' σ' → Q σ' H
theorem PGs.weak {X : Cx} {tg : List Expr} {t t' : TGs} (h : PGs X tg t) (k : ∀ v σ H Q, t' v σ H Q → t v σ H Q) : PGs X tg t' := ⟨fun pins s σ H v u Q I r q => h.run pins s σ H v u Q I r (k v σ H Q q)⟩
theorem sgs_nil : PGs X [] (tGs X.K CA []) := PGs.weak pgs_nil fun vs σ H Q ⟨m, st, ρ, ws, ρ', S, E, r, e, q⟩ => by
  cases ws with
  | nil => cases e; exact ⟨r, q σ E⟩
  | cons w q => simp [gSets] at e
theorem sgs_cons (C : Cw tb G CA XR k N sc own X W) (i : Nat) {is : List Nat} {x : Str} {tgs : List Expr} (hi : N[i]? = some x) (hx : stoB sc own x = true) (hr : PGs X tgs (tGs X.K CA is))
    (hs : (assignEach (.Name x pos :: tgs) X.env).map (·.2) = assign (.Name x pos) X.env :: (assignEach tgs X.env).map (·.2) := by rfl) : PGs X (.Name x pos :: tgs) (tGs X.K CA (i :: is)) := by
  obtain ⟨h1, h2⟩ := sto_loc hx
  refine PGs.weak (pgs_cons (pg_name (i := i) (by rw [C.nm]; exact C.nd) (by rw [C.nm]; exact hi) (by rw [C.sc]; exact h1) (by rw [C.sc, C.own]; exact h2)) hr hs) fun vs σ H Q ⟨m, st, ρ, ws, ρ', S, E, r, e, q⟩ => ?_
  cases ws with
  | nil => simp [gSets] at e
  | cons w ws =>
    obtain ⟨v, vr, rfl, r1, r2⟩ := r
    exact ⟨v, vr, rfl, m, st, ρ.set i (some w), ws, ρ', S, E.set r1 i, r2, e, q⟩
theorem gSets_len : ∀ {is : List Nat} {ws : List Val} {ρ ρ' : Env}, gSets is ws ρ = some ρ' → ws.length = is.length
  | [], [], _, _, _ => rfl
  | [], _ :: _, _, _, h => by simp [gSets] at h
  | _ :: _, [], _, _, h => by simp [gSets] at h
  | i :: is, w :: ws, ρ, ρ', h => by rw [List.length_cons, List.length_cons, gSets_len (is := is) (ws := ws) h]
theorem PG.or {X : Cx} {tg : Expr} {t t' : TG} (h : PG X tg t) (h' : PG X tg t') : PG X tg fun v σ H Q => t v σ H Q ∨ t' v σ H Q := ⟨fun pins s σ H v u Q I r q => q.elim (h.run pins s σ H v u Q I r) (h'.run pins s σ H v u Q I r)⟩
theorem sg_tup (C : Cq tb G CA XR k N sc own X W) {is : List Nat} {tgs : List Expr} {kk : Nat} (h : PGs X tgs (tGs X.K CA is)) (hn : (assignEach tgs X.env).length = is.length := by rfl)
    (hst : (assignEach tgs X.env).findIdx? (·.1) = none := by rfl) : SG CA XR X W (.Tuple tgs kk pos) (gTup is) := by
  refine PG.weak (PG.or (pg_tup (n := is.length) C.calm h hn hst) (pg_lst (n := is.length) C.calm h hn hst)) fun v σ H Q ⟨m, st, ρ, w, S, E, r, q⟩ => ?_
  obtain ⟨ws, ad, us, rfl, h1, rs, z, q1⟩ := items_ok S r (q : PR X.K CA XR W σ ((items w st).bind _) m st H _)
  cases e : gSets is ws ρ with
  | none => rw [e] at q1; exact q1.elim
  | some ρ' =>
    rw [e] at q1
    have hl : us.length = is.length := by rw [← rs.length]; exact gSets_len e
    have fin : tGs X.K CA is us σ H Q := ⟨m, st, ρ, ws, ρ', S, E, rs, e, PR.here S q1⟩
    rcases h1 with h1 | h1
    · exact .inr ⟨ad, us, rfl, h1, hl, fin⟩
    · exact .inl ⟨ad, us, rfl, h1, hl, fin⟩
end
end Fl
set_option Elab.async false
set_option linter.all false
set_option maxRecDepth 100000
set_option maxHeartbeats 2000000
/-! Fl over the layer: statements, loops. -/
namespace Fl
open PySem PySem.Spec L2
theorem PS.weak {X : Cx} {b : Stmt} {t t' : TS} (h : PS X b t) (k : ∀ D σ H, t' D σ H → t D σ H) : PS X b t' := ⟨fun pins s σ H D I q => h.run pins s σ H D I (k D σ H q)⟩
theorem PSs.weak {X : Cx} {b : List Stmt} {t t' : TS} (h : PSs X b t) (k : ∀ D σ H, t' D σ H → t D σ H) : PSs X b t' := ⟨fun pins s σ H D I q => h.run pins s σ H D I (k D σ H q)⟩
section
variable {tb : Tab} {G : FEnv} {CA : Tags} {XR : XRel} {k : Nat} {N : List Str} {sc : Scope} {own : Str → Bool} {X : Cx} {W : WX}
variable {a b c d e tg it : Expr} {es : List Expr} {pos pos' apos cpos p p2 p3 : Pos} {f g h : CE} {t u : CT} {s1 : Stmt} {ss bb : List Stmt} {fs gs : SM} {gm : CG} {im : CI}
theorem sw_nil : SS CA XR X W [] sNil := PSs.weak pss_nil fun D σ H ⟨m, st, ρ, S, E, q⟩ => q m H σ S Step.refl E
theorem sw_cons (h1 : S1 CA XR X W s1 fs) (h2 : SS CA XR X W ss gs) : SS CA XR X W (s1 :: ss) (sSeq fs gs) := PSs.weak (pss_cons h1 h2) fun D σ H ⟨m, st, ρ, S, E, q⟩ => by
  refine ⟨m, st, ρ, S, E, ?_⟩
  unfold sSeq at q
  cases e : fs ρ st with
  | nx ρ' s' =>
    rw [e] at q
    exact fun m' H' σ' S' T E' => ⟨m', s', ρ', S', E', PO.step q T⟩
  | rt v s' => rw [e] at q; exact q
  | bk v s' => rw [e] at q; exact q
  | ct v s' => rw [e] at q; exact q
  | ex x v s' => rw [e] at q; exact q
  | bad => rw [e] at q; exact q
theorem sw_one (h1 : S1 CA XR X W s1 fs) : SS CA XR X W [s1] fs := pss_one h1
theorem ss_expr (ha : SE CA XR X W a f) (hs : swapsWith a none pos.line X.env = pure false := by rfl) : S1 CA XR X W (.Expr a pos) (sExpr f) := PS.weak (ps_expr ha hs) fun D σ H ⟨m, st, ρ, S, E, q⟩ =>
  ⟨m, st, ρ, S, E, (PO.expr E q).mono fun x m1 st1 H1 S1 T1 h1 v rv => h1 m1 H1 σ S1 Step.refl (E.mono T1)⟩
theorem ss_ret (ha : SE CA XR X W a f) : S1 CA XR X W (.Return (some a) pos) (sRet f) := PS.weak (ps_ret ha) fun D σ H ⟨m, st, ρ, S, E, q⟩ =>
  ⟨m, st, ρ, S, E, (PO.expr E q).mono fun x m1 st1 H1 S1 T1 h1 v rv => h1 m1 H1 v S1 Step.refl rv⟩
theorem ss_if (hc : STt CA XR X W c t) (ha : SS CA XR X W ss fs) (hb : SS CA XR X W bb gs) : S1 CA XR X W (.If c ss bb pos) (sIf t fs gs) := PS.weak (ps_if hc ha hb) fun D σ H ⟨m, st, ρ, S, E, q⟩ =>
  ⟨m, st, ρ, S, E, (PO.expr E q).mono fun x m1 st1 H1 S1 T1 h1 => by
    cases x with
    | true => exact ⟨m1, st1, ρ, S1, E.mono T1, h1⟩
    | false => exact ⟨m1, st1, ρ, S1, E.mono T1, h1⟩⟩
/-! ### assignments -/
theorem ss_set (C : Cw tb G CA XR k N sc own X W) (i : Nat) {x : Str} (hi : N[i]? = some x) (hx : stoB sc own x = true) (ha : SE CA XR X W a f) (hs : swapsWith a (some (.Name x p)) pos.line X.env = pure false := by rfl) :
    S1 CA XR X W (.Assign [.Name x p] a pos) (sAsg f (gVar i)) := by
  obtain ⟨h1, h2⟩ := sto_loc hx
  refine PS.weak (ps_set (i := i) (by rw [C.nm]; exact C.nd) (by rw [C.nm]; exact hi) (by rw [C.sc]; exact h1) ha hs (by rw [C.sc, C.own]; exact h2)) fun D σ H ⟨m, st, ρ, S, E, q⟩ => ?_
  exact ⟨m, st, ρ, S, E, (PO.expr E q).mono fun x m1 st1 H1 S1 T1 h1 v rv => h1 m1 H1 _ S1 Step.refl ((E.mono T1).set rv i)⟩
theorem ss_asg (ha : SE CA XR X W a f) (hg : SG CA XR X W tg gm) (hs : swapsWithSole [tg] a pos.line X.env = pure false := by rfl) (hw : swappedStores [tg] a X.env = pure none := by rfl)
    (h1 : (assignEach [tg] X.env).map (·.2) = [assign tg X.env] := by rfl) : S1 CA XR X W (.Assign [tg] a pos) (sAsg f gm) := by
  refine PS.weak (ps_asg ha hg hs hw h1) fun D σ H ⟨m, st, ρ, S, E, q⟩ => ?_
  refine ⟨m, st, ρ, S, E, (PO.expr E q).mono fun x m1 st1 H1 S1 T1 h1 v rv => ⟨m1, st1, ρ, x, S1, E.mono T1, rv, (PO.expr (E.mono T1) h1).mono fun ρ' m2 st2 H2 S2 T2 h2 σ' E' => h2 m2 H2 σ' S2 Step.refl E'⟩⟩
/-! ### loops -/
theorem PR.some {α : Type} {K : PySem.W.Frag} {CA : Tags} {XR : XRel} {W : WX} {σ : L2.St} {r : R α} {m : Mp} {st : Store} {H : Hp} {ok ok' : α → Mp → Store → Hp → Prop} (h : PR K CA XR W σ r m st H ok) (hh : ∀ a s', r = .ok a s' → ∀ m' H', SR K CA m' s' H' → Step m st H m' s' H' → ok a m' s' H' → ok' a m' s' H') : PR K CA XR W σ r m st H ok' := by
  cases r with
  | ok a s' => exact fun m' H' S T => hh a s' rfl m' H' S T (h m' H' S T)
  | exc x s' => exact h
  | bad => exact h
theorem drop_at {α : Type} {xs : List α} {i : Nat} (h : i < xs.length) : xs.drop i = xs[i] :: xs.drop (i + 1) := (List.drop_eq_getElem_cons h)
/-- the turns of a loop -/
theorem for_read {K : PySem.W.Frag} {D : Ends} {σ : L2.St} {m : Mp} {st : Store} {H : Hp} {ρ : Env} {J : It} {vs : List Val} (wk : Wk K CA J vs m st H) (S : SR K CA m st H) (E : ER K m st H ρ σ) (q : PO K CA XR W D m st H (forL gm fs vs ρ st)) :
    ∃ V : Nat → Nat → L2.St → Hp → Prop, (∃ μ, V 0 μ σ H) ∧ ∀ i μ σ H, V i μ σ H → (J.stop i H ∧ D.nx σ H) ∨ (J.go i H ∧ ∃ Nx : L2.St → Hp → Prop, (∀ σ' H', Nx σ' H' → ∃ μ', μ' < μ ∧ V (i + 1) μ' σ' H') ∧
      ∀ x H', J.yld i H x H' → tG K CA XR W gm x σ H' fun σ2 H2 => tS K CA XR W fs { D with nx := Nx, ct := Nx, bk := D.nx } σ2 H2) := by
  have key : ∀ i m' st' H', SR K CA m' st' H' → Step m st H m' st' H' → ∀ ρ' σ', ER K m' st' H' ρ' σ' → i ≤ vs.length → PO K CA XR W D m' st' H' (forL gm fs (vs.drop i) ρ' st') → True := fun _ _ _ _ _ _ _ _ _ _ _ => trivial
  refine ⟨fun i μ σ' H' => i ≤ vs.length ∧ μ = vs.length - i ∧ ∃ m' st' ρ', SR K CA m' st' H' ∧ Step m st H m' st' H' ∧ ER K m' st' H' ρ' σ' ∧ PO K CA XR W D m' st' H' (forL gm fs (vs.drop i) ρ' st'), ⟨vs.length, Nat.zero_le _, rfl, m, st, ρ, S, Step.refl, E, q⟩, ?_⟩
  rintro i μ σ' H' ⟨hi, rfl, m', st', ρ', S', T', E', q'⟩
  by_cases hl : i < vs.length
  · refine .inr ⟨(wk.go i _ (List.getElem?_eq_getElem hl) m' st' H' S' T').1, fun σ2 H2 => ∃ m2 st2 ρ2, SR K CA m2 st2 H2 ∧ Step m st H m2 st2 H2 ∧ ER K m2 st2 H2 ρ2 σ2 ∧ PO K CA XR W D m2 st2 H2 (forL gm fs (vs.drop (i + 1)) ρ2 st2), fun σ2 H2 hh => ⟨vs.length - (i + 1), by omega, by omega, rfl, hh⟩, fun x H2 y => ?_⟩
    obtain ⟨S2, T2, r2⟩ := (wk.go i _ (List.getElem?_eq_getElem hl) m' st' H' S' T').2 x H2 y
    rw [drop_at hl] at q'
    have q2 : PO K CA XR W D m' st' H' ((gm vs[i] ρ' st').so ρ' fun ρ1 s1 => match fs ρ1 s1 with
      | .nx ρ2 s2 => forL gm fs (vs.drop (i + 1)) ρ2 s2
      | .ct ρ2 s2 => forL gm fs (vs.drop (i + 1)) ρ2 s2
      | .bk ρ2 s2 => .nx ρ2 s2
      | o => o) := q'
    have E2 := E'.mono T2
    refine ⟨m', st', ρ', vs[i], S2, E2, r2, (PO.expr E2 (q2.step T2)).mono fun ρ1 m3 st3 H3 S3 T3 h3 σ3 E3 => ⟨m3, st3, ρ1, S3, E3, ?_⟩⟩
    have T0 := (T'.trans T2).trans T3
    cases e : fs ρ1 st3 with
    | nx ρ2 s2 => rw [e] at h3; exact fun m4 H4 σ4 S4 T4 E4 => ⟨m4, s2, ρ2, S4, T0.trans T4, E4, PO.step h3 T4⟩
    | ct ρ2 s2 => rw [e] at h3; exact fun m4 H4 σ4 S4 T4 E4 => ⟨m4, s2, ρ2, S4, T0.trans T4, E4, PO.step h3 T4⟩
    | bk ρ2 s2 => rw [e] at h3; exact h3
    | rt v s2 => rw [e] at h3; exact h3
    | ex x v s2 => rw [e] at h3; exact h3
    | bad => rw [e] at h3; exact h3
  · have e : i = vs.length := by omega
    subst e
    rw [List.drop_length] at q'
    exact .inl ⟨wk.stop _ m' st' H' (Nat.le_refl _) S' T', q' m' H' σ' S' Step.refl E'⟩
theorem ss_for (C : Cs tb G CA XR k N sc X W) (hi : SI CA XR X W tg it im) (hg : SG CA XR X W tg gm) (hb : SS CA XR X W bb fs) (hs : ∀ x, foldedSetIterable it X.env x = pure x := by intro _; rfl) : S1 CA XR X W (.For tg it bb [] pos) (sFor im gm fs) :=
  PS.weak (ps_for C.hp C.q.calm hi hg hb hs) fun D σ H ⟨m, st, ρ, S, E, q⟩ => ⟨m, st, ρ, S, E, (PO.expr E q).mono fun vs m1 st1 H1 S1 T1 h1 J wk => for_read wk S1 (E.mono T1) h1⟩
theorem ss_while (C : Cs tb G CA XR k N sc X W) (hc : STt CA XR X W c t) (hb : SS CA XR X W bb fs) : S1 CA XR X W (.While c bb [] pos) (sWhile t fs) :=
  PS.weak (ps_while C.hp hc hb) fun D σ H ⟨m, st, ρ, S, E, q⟩ => by
    refine ⟨fun μ σ' H' => ∃ m' st' ρ', SR X.K CA m' st' H' ∧ ER X.K m' st' H' ρ' σ' ∧ PO X.K CA XR W D m' st' H' (whileN t fs μ ρ' st'), ⟨whileMax, m, st, ρ, S, E, q⟩, ?_⟩
    rintro μ σ' H' ⟨m', st', ρ', S', E', q'⟩
    cases μ with
    | zero => exact (show False from q').elim
    | succ μ =>
      refine ⟨m', st', ρ', S', E', (PO.expr E' (q' : PO X.K CA XR W D m' st' H' ((t ρ' st').so ρ' _))).mono fun x m1 st1 H1 S1 T1 h1 => ?_⟩
      cases x with
      | false => exact h1 m1 H1 σ' S1 Step.refl (E'.mono T1)
      | true =>
        rw [if_pos rfl]
        refine ⟨fun σ2 H2 => ∃ m2 st2 ρ2, SR X.K CA m2 st2 H2 ∧ ER X.K m2 st2 H2 ρ2 σ2 ∧ PO X.K CA XR W D m2 st2 H2 (whileN t fs μ ρ2 st2), fun σ2 H2 hh => ⟨μ, Nat.lt_succ_self _, hh⟩, m1, st1, ρ', S1, E'.mono T1, ?_⟩
        simp only [if_true] at h1
        cases e : fs ρ' st1 with
        | nx ρ2 s2 => rw [e] at h1; exact fun m4 H4 σ4 S4 T4 E4 => ⟨m4, s2, ρ2, S4, E4, PO.step h1 T4⟩
        | ct ρ2 s2 => rw [e] at h1; exact fun m4 H4 σ4 S4 T4 E4 => ⟨m4, s2, ρ2, S4, E4, PO.step h1 T4⟩
        | bk ρ2 s2 => rw [e] at h1; exact h1
        | rt v s2 => rw [e] at h1; exact h1
        | ex x v s2 => rw [e] at h1; exact h1
        | bad => rw [e] at h1; exact h1
end
end Fl
set_option Elab.async false
set_option linter.all false
set_option maxRecDepth 100000
set_option maxHeartbeats 2000000
/-! Fl over the layer: items stored, exceptions raised. -/
namespace Fl
open PySem PySem.Spec L2
section
variable {tb : Tab} {G : FEnv} {CA : Tags} {XR : XRel} {k : Nat} {N : List Str} {sc : Scope} {own : Str → Bool} {X : Cx} {W : WX}
variable {a b c d e tg it : Expr} {es : List Expr} {pos pos' apos cpos p p2 p3 : Pos} {f g h : CE} {t u : CT} {s1 : Stmt} {ss bb : List Stmt} {fs gs : SM} {gm : CG} {im : CI}
theorem RepVK.any {K : PySem.W.Frag} {m : Mp} {st : Store} {H : Hp} (kk : Key) : ∀ {kvs : List (Key × Val)} {us : List (L2.Key × V)}, RepVK K m st H kvs us → (us.any fun kv => decide (kv.1 = kL kk)) = kvs.any fun p => decide (p.1 = kk)
  | [], us, h => by rw [show us = [] from h]; rfl
  | (l, x) :: r, _, ⟨v, q, rfl, ⟨h1, _⟩, h2⟩ => by
    rw [List.any_cons, List.any_cons, RepVK.any kk h2, h1]
    by_cases e : l = kk
    · subst e; simp
    · rw [decide_eq_false e, decide_eq_false (fun z => e (kL_inj z))]
theorem RepVK.put {K : PySem.W.Frag} {m : Mp} {st : Store} {H : Hp} {kk : Key} {w : Val} {v : V} (rv : RepV K m st H w v) {kvs : List (Key × Val)} {us : List (L2.Key × V)} (h : RepVK K m st H kvs us) : RepVK K m st H (dput kvs kk w) (putK us (kL kk) v) := by
  have app : ∀ {kvs : List (Key × Val)} {us : List (L2.Key × V)}, RepVK K m st H kvs us → RepVK K m st H (kvs ++ [(kk, w)]) (us ++ [(kL kk, v)]) := by
    intro kvs
    induction kvs with
    | nil => intro us h; rw [show us = [] from h]; exact ⟨_, [], rfl, ⟨rfl, rv⟩, rfl⟩
    | cons p r ih =>
      rintro us ⟨x, q, rfl, h1, h2⟩
      exact ⟨x, q ++ [(kL kk, v)], rfl, h1, ih h2⟩
  have map : ∀ {kvs : List (Key × Val)} {us : List (L2.Key × V)}, RepVK K m st H kvs us → RepVK K m st H (kvs.map fun p => if p.1 = kk then (p.1, w) else p) (us.map fun kv => if kv.1 = kL kk then (kv.1, v) else kv) := by
    intro kvs
    induction kvs with
    | nil => intro us h; rw [show us = [] from h]; exact rfl
    | cons p r ih =>
      rintro us ⟨x, q, rfl, h1, h2⟩
      refine ⟨_, _, rfl, ?_, ih h2⟩
      dsimp only
      by_cases e : p.1 = kk
      · rw [if_pos e, if_pos (show x.1 = kL kk by rw [h1.1, e])]; exact ⟨h1.1, rv⟩
      · rw [if_neg e, if_neg (fun z => e (kL_inj (h1.1.symm.trans z)))]; exact h1
  unfold dput putK
  rw [h.any kk]
  split
  · exact map h
  · exact app h
theorem dput_len (kvs : List (Key × Val)) (kk : Key) (w : Val) : (dput kvs kk w).length ≤ kvs.length + 1 := by
  unfold dput
  split
  · rw [List.length_map]; exact Nat.le_succ _
  · rw [List.length_append]; exact Nat.le_refl _
theorem ixN_of {n j : Nat} {i : Int} (h : pyIx n i = some j) : ixN n i = some j := h
theorem setI_ok {σ : L2.St} {m : Mp} {st : Store} {H : Hp} {x y z : Val} {vx vy vz : V} {Q : Hp → Prop} {ok : Unit → Mp → Store → Hp → Prop} (S : SR X.K CA m st H) (rx : RepV X.K m st H x vx) (ry : RepV X.K m st H y vy) (rz : RepV X.K m st H z vz)
    (q : PR X.K CA XR W σ (setI x y z st) m st H ok) (hQ : ∀ m' st' H', ok () m' st' H' → Q H') : rSetL vx vy vz H Q ∨ rSetD vx vy vz H Q := by
  unfold setI at q
  split at q
  · rename_i n
    obtain ⟨_, rfl⟩ := rx
    cases e : st.cell n with
    | none => rw [e] at q; exact q.elim
    | some cc =>
      rw [e] at q
      cases cc with
      | lst ws =>
        dsimp only at q
        split at q
        · rename_i i
          cases ry
          cases e1 : pyIx ws.length i with
          | none => rw [e1] at q; exact q.elim
          | some j =>
            rw [e1] at q
            obtain ⟨us, hh, zz, rs⟩ := S.cells n _ e
            obtain ⟨h1, h2⟩ := pyIx_seq e1
            refine .inl ⟨m n, us, i, j, rfl, rfl, hh, ?_, ?_⟩
            · rw [← rs.length]; exact ixN_of e1
            · exact hQ _ _ _ (setL_ok S e (RepVs.set rz j rs) (by rw [List.length_set]; exact zz) q)
        · exact q.elim
      | dct kvs =>
        dsimp only at q
        cases e1 : keyOf y with
        | none => rw [e1] at q; exact q.elim
        | some kk =>
          rw [e1] at q
          dsimp only at q
          split at q
          · rename_i hz
            obtain ⟨us, hh, zz, rs⟩ := S.cells n _ e
            have T := S.setStep (o := .dK (putK us (kL kk) vz)) (c' := .dct (dput kvs kk z)) e
            refine .inr ⟨m n, _, rfl, .inl ⟨us, kL kk, hh, keyOf_rep ry e1, by rw [← rs.length]; exact lineLt hz, rfl⟩, ?_⟩
            refine hQ _ _ _ (q m _ (S.setCell e ⟨putK us (kL kk) vz, upd_same, ?_, RepVK.mono T _ _ (RepVK.put rz rs)⟩) T)
            have := dput_len kvs kk z
            omega
          · exact q.elim
      | _ => exact q.elim
  · exact q.elim
theorem PSet.or {X : Cx} {t t' : TSet} (h : PSet X t) (h' : PSet X t') : PSet X fun o i v H Q => t o i v H Q ∨ t' o i v H Q := fun pins s σ H o i v ov iv u Q I ro ri rv q =>
  q.elim (h pins s σ H o i v ov iv u Q I ro ri rv) (h' pins s σ H o i v ov iv u Q I ro ri rv)
/-- o[i] = e -/
theorem ss_sub (C : Cw tb G CA XR k N sc own X W) (he : SE CA XR X W e f) (ho : SE CA XR X W a g) (hi : SE CA XR X W b h) (hs : swapsWithSole [.Subscript a b p] e pos.line X.env = pure false := by rfl)
    (hw : swappedStores [.Subscript a b p] e X.env = pure none := by rfl) (h1 : (assignEach [.Subscript a b p] X.env).map (·.2) = [assign (.Subscript a b p) X.env] := by rfl)
    (ha : ∀ v, assign (.Subscript a b p) X.env v = (do
      let ov ← holding [v] (eval a X.env)
      let iv ← holding [v, ov] (eval b X.env)
      standAt p
      holding [v, ov, iv] (setItem ov iv v)
      release [v, ov, iv] []) := by intro _; rfl) : S1 CA XR X W (.Assign [.Subscript a b p] e pos) (sSub f g h) := by
  refine PS.weak (ps_asg he (pg_sub ho hi (PSet.or set_list (set_dict C.u1)) ha) hs hw h1) fun D σ H ⟨m, st, ρ, S, E, q⟩ => ?_
  refine ⟨m, st, ρ, S, E, (PO.expr E q).mono fun x m1 st1 H1 S1 T1 h1 v rv => ?_⟩
  refine ⟨m1, st1, ρ, S1, E.mono T1, (PO.expr (E.mono T1) h1).mono fun y m2 st2 H2 S2 T2 h2 o ro => ?_⟩
  refine ⟨m2, st2, ρ, S2, (E.mono T1).mono T2, (PO.expr ((E.mono T1).mono T2) h2).mono fun z m3 st3 H3 S3 T3 h3 i ri => ?_⟩
  have E3 := ((E.mono T1).mono T2).mono T3
  exact setI_ok (W := W) (σ := σ) S3 (RepV.mono T3 _ _ ro) ri (RepV.mono (T2.trans T3) _ _ rv) ((PO.expr E3 h3).mono fun _ m4 st4 H4 S4 T4 h4 => show D.nx σ H4 from h4 m4 H4 σ S4 Step.refl (E3.mono T4)) fun _ _ _ z => z
end
end Fl
set_option Elab.async false
set_option linter.all false
set_option maxRecDepth 100000
set_option maxHeartbeats 2000000
/-! Fl over the layer: comprehensions that may raise. -/
namespace Fl
open PySem PySem.Spec L2
/-- the end of a comprehension's block, its own names let go -/
def cpost (M : Model) (A : Around) (E : Value → Shared → Prop) (use : Option (Value → Sem Unit)) (Q : Value → Shared → Prop) (acc : Value) (ce : PySem.Env) (r : Result) (s' : Shared) : Prop :=
  match r with
  | .ok _ => (match use with
    | none => ∃ m, s'.heap.Ns ce.locals m ∧ ∀ h', Heap.SameBut ce.locals s'.heap h' → Q acc { s' with heap := h' }
    | some u => wpAny M A (u acc) (fun _ t => ∃ m, t.heap.Ns ce.locals m ∧ ∀ h', Heap.SameBut ce.locals t.heap h' → Q .none { t with heap := h' }) E s')
  | .error x => ∃ m, s'.heap.Ns ce.locals m ∧ ∀ h', Heap.SameBut ce.locals s'.heap h' →
      wpAny M A (passOn "comprehension.variables-let-go" x ce : Sem Value) (fun _ _ => False) E { s' with heap := h' }
section
variable {M : Model} {A : Around} {E : Value → Shared → Prop} {s : Shared} {env : PySem.Env}
theorem comp_free {e : Expr} {sc : Scope} {pos : Pos} {newAcc first : Sem Value} {g : Comprehension} {gs : List Comprehension} {cl : List (Str × Addr)} {use : Option (Value → Sem Unit)} {Q : Value → Shared → Prop}
    (h1 : clausesOf e = g :: gs) (h2 : ∀ x, foldedSetIterable g.iter env x = pure x) (h3 : closureFor sc env = pure cl) (h4 : sc.kind = .function) (h5 : ∀ x ∈ sc.names, x.2 = .local → sc.names.lookup x.1 = some .local)
    (h : wpAny M A first (fun x s1 => wpAny M A (pyIter x) (fun it s2 => wpAny M A newAcc (fun acc s3 => wpAny M A (newFunctionEnv sc env.globals cl [] env.qual none .none (some env))
      (fun ce s4 => codeAny M A (.compStart e 0 it acc { ce with scope := relabel sc env }) (cpost M A E use Q acc { ce with scope := relabel sc env }) s4) E s3) E s2) E s1) E s) :
    wpAny M A (comprehension e sc env pos newAcc false first use) Q E s := by
  unfold comprehension
  rw [h3, h1]
  refine wpAny_bind (wpAny_mono h (fun x s1 q1 => ?_) fun _ _ z => z)
  refine wpAny_bind (wpAny_standAt (wpAny_bind (wpAny_of_eq (h2 x) (wpAny_bind (wpAny_holding (wpAny_mono q1 (fun it s2 q2 => ?_) fun _ _ z => z))))))
  refine wpAny_standIf (wpAny_bind (wpAny_mono q2 (fun acc s3 q3 => ?_) fun _ _ z => z))
  refine wpAny_bind (wpAny_pure (wpAny_bind (wpAny_mono q3 (fun ce s4 q4 => ?_) fun _ _ z => z)))
  dsimp only
  have k1 : ∀ x ∈ (sc.names.filter fun x => (x.2 == .local || x.2 == .cell) && x.1 != (".0" : Str)).reverse, x.2 = .local → Env.kindOf { ce with scope := relabel sc env } x.1 = some .local :=
    fun x hx hl => lookup_relabel_local (h5 x (List.mem_filter.mp (List.mem_reverse.mp hx)).1 hl)
  have k2 : ∀ x ∈ (sc.names.filter fun x => (x.2 == .local || x.2 == .cell) && x.1 != (".0" : Str)).reverse.drop 1 ++ (sc.names.filter fun x => (x.2 == .local || x.2 == .cell) && x.1 != (".0" : Str)).reverse.take 1,
      x.2 = .local → Env.kindOf { ce with scope := relabel sc env } x.1 = some .local := by
    intro x hx hl
    rcases List.mem_append.mp hx with z | z
    · exact k1 x (List.mem_of_mem_drop z) hl
    · exact k1 x (List.mem_of_mem_take z) hl
  refine wpAny_holding (wpAny_bind (wpAny_attempt (wpAny_holding (wpAny_run (codeAny_mono q4 fun r t hr => ?_)))))
  cases r with
  | error x =>
    obtain ⟨m, hn, hr⟩ := hr
    refine wpAny_bind (wpAny_holding (wpAny_comp_letGo (cenv := { ce with scope := relabel sc env }) h4 _ t m k1 hn fun h' m' _ sb => ?_))
    exact wpAny_mono (hr h' sb) (fun _ _ f => f.elim) fun _ _ y => y
  | ok f =>
    cases use with
    | none =>
      obtain ⟨m, hn, hr⟩ := hr
      exact wpAny_bind (wpAny_holding (wpAny_comp_letGo (cenv := { ce with scope := relabel sc env }) h4 _ t m k1 hn fun h' m' _ sb => wpAny_pure (hr h' sb)))
    | some u =>
      refine wpAny_bind (wpAny_rule (wpAny_bind (wpAny_holding (wpAny_mono hr (fun _ t2 hr2 => ?_) fun _ _ z => z))))
      obtain ⟨m, hn, hr2⟩ := hr2
      exact wpAny_bind (wpAny_comp_letGo (cenv := { ce with scope := relabel sc env }) h4 _ t2 m k2 hn fun h' m' _ sb => wpAny_pure (hr2 h' sb))
end
end Fl
set_option Elab.async false
set_option linter.all false
set_option maxRecDepth 100000
set_option maxHeartbeats 2000000
/-! Fl over the layer: an exception leaves a comprehension's block; the new list, kept aside. -/
namespace Fl
open PySem PySem.Spec L2
theorem note_eq {a b : PySem.Env} (h : a.frame = b.frame) (e : Value) : noteFrame e a = noteFrame e b := by
  unfold noteFrame frameOf
  rw [h]
theorem frames_base {h B B' : Heap} : ∀ {l : List PySem.Env}, h.FunFrames B l → (∀ b, B.get? b = none → B'.get? b = none) → h.FunFrames B' l
  | [], _, _ => trivial
  | env :: r, hl, k => by
    obtain ⟨h1, ⟨F, o, h2, h3, h4, h5⟩, h6⟩ := hl
    exact ⟨h1, ⟨F, o, h2, k F h3, h4, h5⟩, frames_base h6 k⟩
section
variable {X : Cx} {W : WX} {pins : List (Addr × Obj)} {σ : L2.St} {H2 : Hp} {s3 : Shared} {scope : Scope} {ce : PySem.Env} {fp : List Addr} {F : Addr}
/-- an exception in the block's air, noted and passed on, is in the def's air -/
theorem block_air (I3 : Inv X pins σ H2 s3) (hF : X.env.frame = some F) (hst : ∃ e0 r, X.stack = e0 :: r ∧ e0.frame = some F) (tk : ∀ u s', XEL X F W u s' → X.xe u s')
    (hL : ce.locals = s3.heap.objs.size) (hcf : ce.frame = X.env.frame) (hfp : ∀ b ∈ fp, FpOk X pins H2 b) {use : Option (Value → Sem Unit)} {Qf : Value → Shared → Prop} {acc : Value} {e : Value} {s' : Shared}
    (x : XEL (X.blk s3 H2 scope ce fp) F (fun c d _ H => W c d σ H) e s') :
    notedBy (model X.prog X.w) X.A ce (fun e s'' => cpost (model X.prog X.w) X.A X.xe use Qf acc ce (.error e) s'') e s' := by
  obtain ⟨a, B, sI, pI, σI, HI, cls, d, ⟨rfl, w⟩, J, ⟨sky, na⟩, nb, up, os, ag⟩ := x
  obtain ⟨e0, r0, hs, h0⟩ := hst
  have hfr : X.A.frames = some (e0 :: r0) := by rw [← hs]; exact J.ok.frames
  have hceF : ce.frame = some F := hcf.trans hF
  have nC : HI ce.locals = none := J.free
  have cst : ce.locals ∉ frs X.stack := fun hm => by
    obtain ⟨_, o, ho, _⟩ := I3.stack.mem hm
    rw [hL] at ho
    exact absurd (Heap.lt_size ho) (Nat.lt_irrefl _)
  have sky' : Sky B (e0 :: r0) a (Zc cls d) F s'.heap := by rw [← hs]; exact sky
  -- behind the note
  have step : ∀ h1, HandSPX.HeldZ B (e0 :: r0) a (Zc cls d) F h1 → s'.heap.UpToSlots h1 → cpost (model X.prog X.w) X.A X.xe use Qf acc ce (.error (.ref a)) { s' with heap := h1 } := by
    intro h1 held up1
    have J1 : Inv (X.blk s3 H2 scope ce fp) pI σI HI { s' with heap := h1 } := J.landed nb held.1 (up.trans up1) os ag
    obtain ⟨mm, hns, _⟩ := J1.loc
    refine ⟨mm, hns, fun h2 sb => ?_⟩
    have oth : ∀ b, b ≠ ce.locals → h2.get? b = h1.get? b := fun b hb => sb.2 b hb
    obtain ⟨oC, _, _, hoC, hdC, _⟩ := id hns
    have notC : ∀ {b : Addr} {o : Obj} {vs : Array Value}, h1.get? b = some o → o.data = .fields vs → b ≠ ce.locals := fun {b o vs} e1 e2 z => by
      have hoC' : h1.get? ce.locals = some oC := hoC
      rw [z, hoC'] at e1
      cases e1
      rw [hdC] at e2
      cases e2
    obtain ⟨B', g1, g2⟩ := restrict B fun b => decide (b ≠ ce.locals)
    have gs : ∀ {b : Addr} {o : Obj}, B'.get? b = some o → b ≠ ce.locals ∧ B.get? b = some o := fun {b o} e1 => by
      by_cases z : b = ce.locals
      · rw [g2 b (by simp [z])] at e1; cases e1
      · exact ⟨z, by rw [← g1 b (by simp [z])]; exact e1⟩
    have gn : ∀ b, B.get? b = none → B'.get? b = none := fun b e1 => by
      cases z : B'.get? b with
      | none => rfl
      | some o => rw [(gs z).2] at e1; cases e1
    obtain ⟨hB, hna, hff, oe, vs, T, oT, ts, t1, t2, t3, t4, t5, t6, t7, t8, t9⟩ := id held
    have held2 : HandSPX.HeldZ B' (e0 :: r0) a (Zc cls d) F h2 := by
      refine ⟨fun b o e1 => ?_, gn a hna, ?_, oe, vs, T, oT, ts, ?_, t2, t3, t4, gn T t5, t6, ?_, t8, t9⟩
      · obtain ⟨z1, z2⟩ := gs e1
        exact (oth b z1).trans (hB b o z2)
      · have fr2 : ∀ {l : List PySem.Env}, (∀ b ∈ frs l, b ≠ ce.locals) → h1.FunFrames B l → h2.FunFrames B l := by
          intro l
          induction l with
          | nil => intro _ _; trivial
          | cons en r ih =>
            intro hm hl
            obtain ⟨k1, ⟨F1, o1, k2, k3, k4, k5⟩, k6⟩ := hl
            refine ⟨k1, ⟨F1, o1, k2, k3, ?_, k5⟩, ih (fun b hb => hm b ?_) k6⟩
            · exact (oth F1 (hm F1 (List.mem_filterMap.mpr ⟨en, List.mem_cons_self, k2⟩))).trans k4
            · obtain ⟨e1, e2, e3⟩ := List.mem_filterMap.mp hb
              exact List.mem_filterMap.mpr ⟨e1, List.mem_cons_of_mem _ e2, e3⟩
        exact frames_base (fr2 (fun b hb z => cst (by rw [hs, ← z]; exact hb)) hff) gn
      · exact (oth a (notC t1 t3)).trans t1
      · exact (oth T (notC t7 t8)).trans t7
    -- the state without the exception and without the block's names
    obtain ⟨Gr, k1, k2⟩ := restrict sI.heap fun b => decide (b ≠ ce.locals)
    have ks : ∀ {b : Addr} {o : Obj}, Gr.get? b = some o → b ≠ ce.locals ∧ sI.heap.get? b = some o := fun {b o} e1 => by
      by_cases z : b = ce.locals
      · rw [k2 b (by simp [z])] at e1; cases e1
      · exact ⟨z, by rw [← k1 b (by simp [z])]; exact e1⟩
    have kk : ∀ b, b ≠ ce.locals → Gr.get? b = sI.heap.get? b := fun b hb => k1 b (by simp [hb])
    have old : ∀ {b : Addr} {o : Obj}, s3.heap.get? b = some o → b ≠ ce.locals := fun {b o} e1 z => by
      rw [z, hL] at e1
      exact absurd (Heap.lt_size e1) (Nat.lt_irrefl _)
    have U := J.base
    have IG : Inv X pins σ HI { sI with heap := Gr } := by
      refine I3.call' (ch := fp) J.os ⟨fun b o e1 n hb hc => ?_, fun b o e1 n hb hc => ?_, fun b o e1 n hc => U.free b o e1 n hc, fun b o e1 hc => ?_, U.tups, U.frzs, U.tbls⟩ (fun b o q => ?_) J.bare fun b hb => ⟨(hfp b hb).2.2.2.1, (hfp b hb).2.1, (hfp b hb).2.2.2.2.1, (hfp b hb).2.2.2.2.2⟩
      · exact (kk b (old e1)).trans (U.keep b o e1 n hb hc)
      · obtain ⟨sl, z⟩ := U.slot b o e1 n hb hc
        exact ⟨sl, (kk b (old e1)).trans z⟩
      · obtain ⟨o', z⟩ := U.there b o e1 hc
        exact ⟨o', (kk b (old e1)).trans z⟩
      · refine (J.hok b o q).stay (fun c u hc z => (kk c fun zz => ?_).trans z) (fun _ z => z) fun _ _ z => z
        rcases hc with hc | hc
        · rw [← hc, zz, nC] at q; cases q
        · rw [zz, nC] at hc; cases hc
    have fin : ∀ h3, HandSPX.HeldZ B' (e0 :: r0) a (Zc cls d) F h3 → h2.UpToSlots h3 → X.xe (.ref a) { s' with heap := h3 } := by
      intro h3 held3 up3
      refine tk _ _ ⟨a, B', { sI with heap := Gr }, pins, σ, HI, cls, d, ⟨rfl, w⟩, IG, ⟨.inr (.inr (by rw [hs]; exact held3)), na⟩, fun b o e1 hb => ?_, fun b o e1 nf => ?_, os, ag⟩
      · obtain ⟨z1, z2⟩ := ks e1
        rw [g1 b (by simp [z1])]
        exact nb b o z2 hb
      · obtain ⟨z1, z2⟩ := ks e1
        obtain ⟨sl1, q1⟩ := (up.trans up1) b o z2 nf
        obtain ⟨sl3, q3⟩ := up3 b _ ((oth b z1).trans q1) nf
        exact ⟨sl3, q3⟩
    have he2 : h2.get? a = some oe := (oth a (notC t1 t3)).trans t1
    unfold PySem.passOn
    refine wpAny_bind (wpAny_field he2 t3 t4 ?_)
    rw [if_neg (show ¬ ((Value.ref T == Value.none) = true) from by simp)]
    have last : wpAny (model X.prog X.w) X.A (setFlight (.ref a) ce.frame) (fun _ s4 => wpAny (model X.prog X.w) X.A (throw (.ref a) : Sem Value) (fun _ _ => False) X.xe s4) X.xe { s' with heap := h2 } := by
      rw [hceF]
      exact HandSPX.setFlight_onZ held2 fun h3 held3 up3 => wpAny_throw (fin h3 held3 up3)
    first
      | exact wpAny_bind (wpAny_pure (wpAny_bind last))
      | exact wpAny_bind last
  show wpAny (model X.prog X.w) X.A (noteFrame (.ref a) ce) _ _ _
  rw [note_eq (hceF.trans h0.symm)]
  rcases sky' with ⟨hB, hn, hl, oe, vs, he, hz, hd, h1⟩ | fl | held
  · exact HandSPX.look_newZ Zc.steady hfr hl h0 he hB hn hd h1 hz step
  · exact HandSPX.looks_onZ Zc.steady hfr h0 fl step
  · exact HandSPX.againZ h0 held.2.2.2 (step s'.heap held (Heap.UpToSlots.refl _))
end
/-! ### an object kept aside is taken in, is let out -/
section
variable {X : Cx} {pins : List (Addr × Obj)} {σ : L2.St} {H : Hp} {s : Shared} {D : Addr} {o : HO}
theorem take_in (I : Inv X pins σ H s) (hn : H D = none) (new : ObjOk X.prog X.w (upd H D o) s.heap D o) (h1 : D ∈ X.ex ∨ X.s_0.heap.objs.size ≤ D) (h2 : D ≠ X.env.locals) (h3 : ∀ x c, X.env.cells.lookup x = some c → c ≠ D) (h4 : ∀ p ∈ X.pn ++ pins, p.1 ≠ D) :
    Inv X pins σ (upd H D o) s := by
  have ne : ∀ {b u}, H b = some u → b ≠ D := fun {b u} e z => by rw [z, hn] at e; cases e
  refine I.step (ch := [D]) (h' := s.heap) (g' := s.gens) (t' := s.toks) (d' := s.drawn) (fun b hb => ?_) (fun _ _ _ _ _ e _ => e) (fun b u _ _ _ e _ => ⟨u.slots, e⟩) (fun b u hc e n => ?_) (fun b u _ e => ⟨u, e⟩) (fun b xs e => ?_) (fun b u v e => ?_) (fun b ps e => ⟨#[], ?_⟩) (fun _ z => z) (fun b u e => ?_) I.bare
  · obtain rfl : b = D := by simpa using hb
    exact ⟨h1, h2, h3, h4⟩
  · rw [upd_ne (fun z => hc (by simp [z]))]; exact n
  · rw [upd_ne (ne e)]; exact e
  · rw [upd_ne (ne e)]; exact e
  · rw [upd_ne (ne e)]; simpa using e
  · by_cases z : b = D
    · subst z
      rw [upd_same] at e
      cases e
      exact new
    · rw [upd_ne z] at e
      exact (I.hok b u e).stay (fun _ _ _ q => q) (fun c q => by rw [upd_ne (ne q)]; exact q) fun c xs q => by rw [upd_ne (ne q)]; exact q
theorem let_out (I : Inv X pins σ (upd H D o) s) (hn : H D = none) (hl : (∃ xs, o = .lst xs) ∨ ∃ kvs, o = .dK kvs) : Inv X pins σ H s := by
  have nown : ∀ {b x}, upd H D o b = some (.own x) → H b = some (.own x) := fun {b x} e => by
    by_cases z : b = D
    · subst z
      rw [upd_same] at e
      rcases hl with ⟨xs, h⟩ | ⟨xs, h⟩ <;> (rw [h] at e; cases e)
    · rwa [upd_ne z] at e
  have ntup : ∀ {b x}, upd H D o b = some (.tup x) → H b = some (.tup x) := fun {b x} e => by
    by_cases z : b = D
    · subst z
      rw [upd_same] at e
      rcases hl with ⟨xs, h⟩ | ⟨xs, h⟩ <;> (rw [h] at e; cases e)
    · rwa [upd_ne z] at e
  refine I.step (ch := []) (h' := s.heap) (g' := s.gens) (t' := s.toks) (d' := s.drawn) (fun b hb => nomatch hb) (fun _ _ _ _ _ e _ => e) (fun b u _ _ _ e _ => ⟨u.slots, e⟩) (fun b u hc e n => ?_) (fun b u _ e => ⟨u, e⟩) (fun b xs e => ntup e) (fun b u v e => ?_) (fun b ps e => ⟨#[], ?_⟩) (fun _ z => z) (fun b u e => ?_) I.bare
  · by_cases z : b = D
    · subst z; exact hn
    · rwa [upd_ne z] at n
  · by_cases z : b = D
    · subst z
      rw [upd_same] at e
      rcases hl with ⟨xs, h⟩ | ⟨xs, h⟩ <;> (rw [h] at e; cases e)
    · rwa [upd_ne z] at e
  · by_cases z : b = D
    · subst z
      rw [upd_same] at e
      rcases hl with ⟨xs, h⟩ | ⟨xs, h⟩ <;> (rw [h] at e; cases e)
    · rw [upd_ne z] at e; simpa using e
  · have z : b ≠ D := fun z => by rw [z, hn] at e; cases e
    have e' : upd H D o b = some u := by rw [upd_ne z]; exact e
    exact (I.hok b u e').stay (fun _ _ _ q => q) (fun c q => nown q) fun c xs q => ntup q
end
end Fl
set_option Elab.async false
set_option linter.all false
set_option maxRecDepth 100000
set_option maxHeartbeats 4000000
/-! Fl over the layer: list comprehensions. -/
namespace Fl
open PySem PySem.Spec L2
theorem ER.wipe {K : PySem.W.Frag} {m : Mp} {st : Store} {H : Hp} {ρ : Env} {σ : L2.St} (E : ER K m st H ρ σ) : ∀ vs : List Nat, ER K m st H (wipeE ρ vs) (wipe σ vs)
  | [] => E
  | v :: vs => ER.drop (ER.wipe E vs) v
abbrev blkOwn (scope : Scope) : Str → Bool := fun x => scope.names.lookup x == some .cell
theorem PR.reW {α : Type} {K : PySem.W.Frag} {CA : Tags} {XR : XRel} {W W' : WX} {σ σ' : L2.St} {r : R α} {m : Mp} {st : Store} {H : Hp} {ok : α → Mp → Store → Hp → Prop} (h : PR K CA XR W σ r m st H ok) (k : ∀ c d H, W c d σ H → W' c d σ' H) : PR K CA XR W' σ' r m st H ok := by
  cases r with
  | ok a s' => exact h
  | exc x s' => exact fun m' H' c d S T xr => k c d H' (h m' H' c d S T xr)
  | bad => exact h
theorem wipeE_len (ρ : Env) : ∀ own : List Nat, (wipeE ρ own).length = ρ.length
  | [] => rfl
  | v :: vs => by rw [wipeE, List.length_set, wipeE_len ρ vs]
theorem wipeE_get (ρ : Env) (i : Nat) : ∀ own : List Nat, (wipeE ρ own)[i]? = if i ∈ own then (if i < ρ.length then some none else none) else ρ[i]?
  | [] => by simp [wipeE]
  | v :: vs => by
    rw [wipeE]
    by_cases h : v = i
    · subst h
      rw [if_pos List.mem_cons_self]
      by_cases hl : v < ρ.length
      · rw [if_pos hl, List.getElem?_set_self (by rw [wipeE_len]; exact hl)]
      · rw [if_neg hl, List.getElem?_eq_none (by rw [List.length_set, wipeE_len]; omega)]
    · rw [List.getElem?_set_ne h, wipeE_get ρ i vs]
      have : (i ∈ v :: vs) ↔ i ∈ vs := by simp [Ne.symm h]
      simp only [this]
/-- the target stores own names alone -/
def GIn (own : List Nat) (g : CG) : Prop := ∀ w ρ s ρ' s', g w ρ s = .ok ρ' s' → ρ'.length = ρ.length ∧ ∀ i, i ∉ own → ρ'[i]? = ρ[i]?
theorem wipe_back {own : List Nat} {g : CG} (h : GIn own g) {w : Val} {ρ ρ' : Env} {s s' : Store} (e : g w (wipeE ρ own) s = .ok ρ' s') : wipeE ρ' own = wipeE ρ own := by
  obtain ⟨h1, h2⟩ := h _ _ _ _ _ e
  rw [wipeE_len] at h1
  refine List.ext_getElem? fun i => ?_
  rw [wipeE_get, wipeE_get]
  by_cases hi : i ∈ own
  · rw [if_pos hi, if_pos hi, h1]
  · rw [if_neg hi, if_neg hi, h2 i hi, wipeE_get, if_neg hi]
theorem gin_var {own : List Nat} {i : Nat} (h : i ∈ own) : GIn own (gVar i) := by
  intro w ρ s ρ' s' e
  cases e
  refine ⟨List.length_set, fun j hj => List.getElem?_set_ne fun z => hj (by rw [← z]; exact h)⟩
theorem gSets_in {own : List Nat} : ∀ {is : List Nat} {ws : List Val} {ρ ρ' : Env}, (∀ i ∈ is, i ∈ own) → gSets is ws ρ = some ρ' → ρ'.length = ρ.length ∧ ∀ i, i ∉ own → ρ'[i]? = ρ[i]?
  | [], [], ρ, ρ', _, e => by cases e; exact ⟨rfl, fun _ _ => rfl⟩
  | [], _ :: _, _, _, _, e => by simp [gSets] at e
  | _ :: _, [], _, _, _, e => by simp [gSets] at e
  | i :: is, w :: ws, ρ, ρ', h, e => by
    obtain ⟨h1, h2⟩ := gSets_in (ρ := ρ.set i (some w)) (fun j hj => h j (List.mem_cons_of_mem _ hj)) e
    refine ⟨h1.trans List.length_set, fun j hj => (h2 j hj).trans (List.getElem?_set_ne fun z => hj (by rw [← z]; exact h i List.mem_cons_self))⟩
theorem gin_tup {own is : List Nat} (h : ∀ i ∈ is, i ∈ own) : GIn own (gTup is) := by
  intro w ρ s ρ' s' e
  have e' : ((items w s).bind fun vs s => match gSets is vs ρ with
    | some ρ' => .ok ρ' s
    | none => .bad) = .ok ρ' s' := e
  cases q : items w s with
  | exc x t => rw [q] at e'; cases e'
  | bad => rw [q] at e'; cases e'
  | ok vs t =>
    rw [q, bind_ok] at e'
    cases q2 : gSets is vs ρ with
    | none => rw [q2] at e'; cases e'
    | some ρ2 =>
      rw [q2] at e'
      cases e'
      exact gSets_in h q2
section
variable {tb : Tab} {G : FEnv} {CA : Tags} {XR : XRel} {k : Nat} {N : List Str} {sc : Scope} {own : Str → Bool} {X : Cx} {W : WX}
theorem block_ctx (C : Cq tb G CA XR k N sc own X W) {F : Addr} (hF : X.env.frame = some F) (hst : ∃ e0 r, X.stack = e0 :: r ∧ e0.frame = some F) (s : Shared) (H : Hp) (σ : L2.St) (scope : Scope) (cl : List (Str × Addr)) (A : Addr) (fp : List Addr) :
    Cq tb G CA XR k N (relS scope sc) (blkOwn scope) ((X.blk s H scope (compEnvC scope cl A X.env) fp).wish fun u s' => XEL (X.blk s H scope (compEnvC scope cl A X.env) fp) F (fun c d _ H => W c d σ H) u s') (fun c d _ H => W c d σ H) := by
  refine ⟨⟨C.nm, C.nd, ?_, rfl, C.un, C.glob⟩, C.calm, ⟨F, hF, hst, ?_⟩, C.room⟩
  · show relS scope X.env.scope = _
    rw [C.sc]
  · rintro u s' ⟨a, B, sI, pI, σI, HI, cls, d, h1, J, h2⟩
    exact ⟨a, B, sI, pI, σI, HI, cls, d, h1, J.unwish, h2⟩
theorem lc_core1 (C : Cq tb G CA XR k N sc own X W) {pins : List (Addr × Obj)} {s : Shared} {σ : L2.St} {H : Hp} {Q : VK} {elt tg iter : Expr} {ifs : List Expr} {scope : Scope} {ownL : List (Str × Nat)} {pos pos' : Pos} {wi : TI} {use : Option (Value → Sem Unit)} {Qf : Value → Shared → Prop}
    {cell : Bool} {gm : CG} {tt : Option CT} {fm : CE} (hin : GIn (ownL.map (·.2)) gm) (I : Inv X pins σ H s) (hi : PI X tg iter wi) (ok : BlkOk N sc scope ownL)
    (hg : ∀ X' W', Cq tb G CA XR k N (relS scope sc) (blkOwn scope) X' W' → SG CA XR X' W' tg gm)
    (ht : ∀ X' W', Cq tb G CA XR k N (relS scope sc) (blkOwn scope) X' W' → PTs X' ifs (tMT X'.K CA XR W' (testM tt)))
    (he : ∀ X' W', Cq tb G CA XR k N (relS scope sc) (blkOwn scope) X' W' → SE CA XR X' W' elt fm) (hs : ∀ x, foldedSetIterable iter X.env x = pure x)
    (h : wi σ H fun J H1 => ∃ vs m st ρ, Wk X.K CA J vs m st H1 ∧ vs.length ≤ L ∧ SR X.K CA m st H1 ∧ ER X.K m st H1 ρ σ ∧
      PR X.K CA XR W σ ((compK gm tt fm (wipeE ρ (ownL.map (·.2))) [] vs >>= newL cell) st) m st H1 fun a m' st' H' => ∀ v, RepV X.K m' st' H' a v → Q v H')
    (hRR : ∀ D (ce : PySem.Env) s' m H', Inv X pins σ H' s' → Q (.ref D) H' → s'.heap.Ns ce.locals m → FpOk X pins H' ce.locals → cpost (model X.prog X.w) X.A X.xe use Qf (.ref D) ce (.ok .next) s') :
    wpAny (model X.prog X.w) X.A (comprehension (.ListComp elt [⟨tg, iter, ifs, 0⟩] scope pos) scope X.env pos' (newList []) false (eval iter X.env) use) Qf X.xe s := by
  obtain ⟨F, hF, hst, tk⟩ := C.takes
  have okX : BlkOk X.N X.env.scope scope ownL := by rw [C.nm, C.sc]; exact ok
  have ndX : X.N.Nodup := by rw [C.nm]; exact C.nd
  have free : ∀ y ∈ scope.names, y.2 = .free → ∃ c, X.env.cells.lookup y.1 = some c := by
    intro y hy e
    rcases okX.free y hy e with z | z
    · exact I.ok.has _ (.inl z)
    · exact I.ok.has _ (.inr z)
  refine comp_free (use := use) rfl hs (closure_ok free) ok.kind (fun y hy e => by rw [ok.uniq y hy, e]) (thn (hi.run pins s σ H _ I h) fun xv s1 hx => thn hx ?_)
  rintro itv s2 ⟨it, fp, tn, J, H2, rfl, I2, T, st2, f2, vs, m0, st0, ρ0, wk, hz, S0, E0, q0⟩
  refine wpAny_newObj_type (newEnv_comp ?_) (by show 0 ≤ sizeLine; decide)
  obtain ⟨D, hD⟩ : ∃ D, D = s2.heap.objs.size := ⟨_, rfl⟩
  rw [← hD]
  have hDn : H2 D = none := I2.hok.fresh (Nat.le_of_eq hD.symm)
  obtain ⟨s3, hs3⟩ : ∃ s3 : Shared, s3 = { s2 with heap := s2.heap.push { cls := .type "list", data := .seq ([] : List Value).toArray } } := ⟨_, rfl⟩
  rw [← hs3]
  have h3 : s3.heap = s2.heap.push { cls := .type "list", data := .seq ([] : List Value).toArray } := by rw [hs3]
  have D3 : s3.heap.get? D = some { cls := .type "list", data := .seq ([] : List Value).toArray } := by rw [h3, hD]; exact Heap.get?_push_size _ rfl
  have I3 : Inv X pins σ H2 s3 := by rw [hs3]; exact I2.kept (t' := s2.toks) fun b o e => Heap.get?_push_of_some _ e
  have fD : FpOk X pins H2 D := I2.fpOk (Nat.le_of_eq hD.symm) hDn
  have sz : ∀ b ∈ fp, b < s2.heap.objs.size := fun b hb => by
    obtain ⟨o, e, _⟩ := T.obj _ _ st2 b hb
    exact Heap.lt_size e
  have fpD : ∀ b ∈ D :: fp, FpOk X pins H2 b ∧ b < s3.heap.objs.size := fun b hb => by
    rcases List.mem_cons.mp hb with z | z
    · subst z; exact ⟨fD, Heap.lt_size D3⟩
    · exact ⟨f2 b z, by rw [h3, Heap.size_push]; exact Nat.lt_succ_of_lt (sz b z)⟩
  have Dfp : ∀ b ∈ fp, D ≠ b := fun b hb z => by have := sz b hb; rw [← z, hD] at this; exact absurd this (Nat.lt_irrefl _)
  have st3 : tn 0 s3.heap := T.keep _ _ _ st2 fun b _ o e => by rw [h3]; exact Heap.get?_push_of_some _ e
  have I4 := block_start I3 okX ndX fpD
  have Cb := fun cl A => block_ctx C hF hst s3 H2 σ scope cl A (D :: fp)
  obtain ⟨cl, hcl⟩ : ∃ cl, cl = cellsFrom (s3.heap.objs.size + 1) scope.names (cloFrom X.env.cells scope.names []) := ⟨_, rfl⟩
  rw [← hcl] at I4 ⊢
  obtain ⟨ce, hce⟩ : ∃ ce, ce = compEnvC scope cl s3.heap.objs.size X.env := ⟨_, rfl⟩
  have Cb := Cb cl s3.heap.objs.size
  rw [← hce] at I4 Cb
  have cL : ce.locals = s3.heap.objs.size := by rw [hce]; rfl
  have cF : ce.frame = X.env.frame := by rw [hce]; rfl
  have air := fun (acc : Value) (e : Value) (s' : Shared) => block_air (W := W) (scope := scope) (acc := acc) (use := use) (Qf := Qf) I3 hF hst tk cL cF (fun b hb => (fpD b hb).1) (e := e) (s' := s')
  obtain ⟨Y, hY⟩ : ∃ Y : Cx, Y = X.blk s3 H2 scope ce (D :: fp) := ⟨_, rfl⟩
  rw [← hY] at I4 Cb air
  show codeAny (model X.prog X.w) X.A (.compStart (.ListComp elt [⟨tg, iter, ifs, 0⟩] scope pos) 0 (.ref it) (.ref D) (compEnvC scope cl s3.heap.objs.size X.env)) (cpost (model X.prog X.w) X.A X.xe use Qf (.ref D) (compEnvC scope cl s3.heap.objs.size X.env)) { s3 with heap := pushCells (s3.heap.push { cls := .type "dict", data := .dict #[] }) scope.names }
  rw [← hce]
  obtain ⟨s4, hs4⟩ : ∃ s4 : Shared, s4 = { s3 with heap := pushCells (s3.heap.push { cls := .type "dict", data := .dict #[] }) scope.names } := ⟨_, rfl⟩
  rw [← hs4] at I4 ⊢
  have keep4 : ∀ b o, s3.heap.get? b = some o → s4.heap.get? b = some o := fun b o e => by rw [hs4]; exact pushCells_keeps _ _ _ _ (Heap.get?_push_of_some _ e)
  have st4 : tn 0 s4.heap := T.keep _ _ _ st3 fun b _ o e => keep4 b o e
  -- the context with its wish
  obtain ⟨Z, hZ⟩ : ∃ Z : Cx, Z = Y.wish fun u s' => XEL Y F (fun c d _ H => W c d σ H) u s' := ⟨_, rfl⟩
  rw [← hZ] at Cb
  have I4 : Inv Z [] (wipe σ (ownL.map (·.2))) H2 s4 := by rw [hZ]; exact I4.wish _
  have zP : Z.prog = X.prog := by rw [hZ, hY]
  have zw : Z.w = X.w := by rw [hZ, hY]
  have zK : Z.K = X.K := by rw [hZ, hY]
  have zA : Z.A = X.A := by rw [hZ, hY]
  have zx : Z.ex = D :: fp := by rw [hZ, hY]
  have zn : Z.pn = [] := by rw [hZ, hY]
  have ze : Z.env = ce := by rw [hZ, hY]
  have hc : Z.calm = true := Cb.calm
  have zair : ∀ (e : Value) (s' : Shared), Z.xe e s' → notedBy (model X.prog X.w) X.A ce (fun e s'' => cpost (model X.prog X.w) X.A X.xe use Qf (.ref D) ce (.error e) s'') e s' := fun e s' x => air _ e s' (by rw [hZ] at x; exact x)
  have stat : ∀ {pl : List (Addr × Obj)} {σ' : L2.St} {H' : Hp} {s' : Shared}, Inv Z [] σ' H' s' → (∀ p ∈ pl, p.1 = D) → (∀ b ∈ fp, H' b = none) → ∀ b ∈ fp, FpOk Z pl H' b := by
    intro pl σ' H' s' I' hpl hn b hb
    have hb' : b ∈ Z.ex := by rw [zx]; exact List.mem_cons_of_mem _ hb
    refine ⟨hn b hb, (I'.ok.exf b hb').1, I'.ok.exfs b hb', .inl hb', fun x c e => (I'.ok.exf b hb').2 x c e, fun p hp => ?_⟩
    rw [zn, List.nil_append] at hp
    rw [hpl p hp]
    exact Dfp b hb
  have pg := hg Z _ Cb
  have pt := ht Z _ Cb
  have pe := he Z _ Cb
  have q0' : PR X.K CA XR (fun c d _ H => W c d σ H) (wipe σ (ownL.map (·.2))) ((compK gm tt fm (wipeE ρ0 (ownL.map (·.2))) [] vs >>= newL cell) st0) m0 st0 H2 fun a m' st' H' => ∀ v, RepV X.K m' st' H' a v → Q v H' := q0.reW fun _ _ _ z => z
  have Ew := ER.wipe E0 (ownL.map (·.2))
  -- what holds at each turn
  let V : Nat → Nat → Hp → List L2.V → L2.St → Prop := fun i n H' av σi => i ≤ vs.length ∧ n = vs.length - i ∧ ∃ m st acc, SR X.K CA m st H' ∧ ER X.K m st H' (wipeE ρ0 (ownL.map (·.2))) σi ∧ Step m0 st0 H2 m st H' ∧ RepVs X.K m st H' acc av ∧ acc.length ≤ i ∧
    PR X.K CA XR (fun c d _ H => W c d σ H) (wipe σ (ownL.map (·.2))) ((compK gm tt fm (wipeE ρ0 (ownL.map (·.2))) acc (vs.drop i) >>= newL cell) st) m st H' fun a m' st' H' => ∀ v, RepV X.K m' st' H' a v → Q v H'
  have loop : codeAny (model X.prog X.w) X.A (.compLoop (.ListComp elt [⟨tg, iter, ifs, 0⟩] scope pos) 0 (.ref it) (.ref D) ce) (cpost (model X.prog X.w) X.A X.xe use Qf (.ref D) ce) s4 := by
    refine compLoop_any (fun n s' => ∃ i H' its av c0 σi, Inv Z [] σi H' s' ∧ tn i s'.heap ∧ (∀ b ∈ fp, H' b = none) ∧ H' D = none ∧ s'.heap.get? D = some { cls := .type "list", data := .seq (its : List Value).toArray c0 } ∧ Vals av its ∧ V i n H' av σi) ?_ vs.length
      ⟨0, H2, [], [], 0, _, I4, st4, fun b hb => (f2 b hb).1, hDn, keep4 _ _ D3, .nil, Nat.zero_le _, rfl, m0, st0, [], S0, Ew, Step.refl, rfl, Nat.zero_le _, q0'⟩
    rintro n s5 ⟨i, H5, its, av, c0, σi, I5, st5, n5, nD5, D5, va, hi5, rfl, m5, st5', acc, S5, E5, T5, ra, hacc, q5⟩
    have hDZ : D ∈ Z.ex := by rw [zx]; exact List.mem_cons_self
    have pinD : Inv Z [(D, { cls := .type "list", data := .seq its.toArray c0 })] σi H5 s5 := by
      refine I5.pins_of fun p hp => ?_
      obtain rfl : p = (D, { cls := .type "list", data := .seq its.toArray c0 }) := by simpa using hp
      exact ⟨D5, nD5, (I5.ok.exf D hDZ).1, I5.ok.exfs D hDZ, fun v z => by have z' : Data.seq its.toArray c0 = .cell v := z; cases z'⟩
    have pD : ∀ p ∈ [(D, ({ cls := .type "list", data := .seq its.toArray c0 } : Obj))], p.1 = D := fun p hp => by
      obtain rfl : p = (D, { cls := .type "list", data := .seq its.toArray c0 }) := by simpa using hp
      rfl
    by_cases hlt : i < vs.length
    · obtain ⟨go, yl⟩ := wk.go i _ (List.getElem?_eq_getElem hlt) m5 st5' H5 S5 T5
      have ti := T.item Z zP zw zK hc i _ s5 _ H5 (fun _ _ => False) pinD (stat I5 pD n5) st5 go
      rw [zA] at ti
      refine thnF ti ?_
      rintro r s6 ⟨u, rfl, h6⟩
      refine thnF h6 ?_
      rintro _ s7 ⟨x, H7, I7, r7, y7, st7, n7⟩
      obtain ⟨S7, T7, rx⟩ := yl x H7 y7
      have I7' := I7.pinned (stat (I7.pins_of fun p hp => absurd hp (by simp)) pD n7) (T.obj _ _ st7)
      rw [drop_at hlt] at q5
      have E7 := E5.mono T7
      let rest : Env → Store → R Val := fun ρ' s => (testM tt ρ' s).bind fun b s => ((if b then fm ρ' >>= fun x => compK gm tt fm (wipeE ρ0 (ownL.map (·.2))) (acc ++ [x]) (vs.drop (i + 1)) else compK gm tt fm (wipeE ρ0 (ownL.map (·.2))) acc (vs.drop (i + 1))) s).bind (newL cell)
      have e : (compK gm tt fm (wipeE ρ0 (ownL.map (·.2))) acc (vs[i] :: vs.drop (i + 1)) >>= newL cell) st5' = (gm vs[i] (wipeE ρ0 (ownL.map (·.2))) st5').bind rest := by
        rw [compK, bind_eq, bind_eq]
        cases gm vs[i] (wipeE ρ0 (ownL.map (·.2))) st5' with
        | exc y t => rfl
        | bad => rfl
        | ok ρ' t =>
          show ((testM tt ρ' t).bind _).bind _ = rest ρ' t
          show _ = (testM tt ρ' t).bind _
          cases testM tt ρ' t with
          | exc y t => rfl
          | bad => rfl
          | ok b t => rfl
      rw [e] at q5
      have q7 := q5.step T7
      have g7 : tG Z.K CA XR (fun c d _ H => W c d σ H) gm x σi H7 fun σ8 H8 => ∃ m8 st8 ρ8, SR X.K CA m8 st8 H8 ∧ Step m5 st5' H7 m8 st8 H8 ∧ ER X.K m8 st8 H8 ρ8 σ8 ∧ wipeE ρ8 (ownL.map (·.2)) = wipeE ρ0 (ownL.map (·.2)) ∧
          PR X.K CA XR (fun c d _ H => W c d σ H) (wipe σ (ownL.map (·.2))) (rest ρ8 st8) m8 st8 H8 fun a m' st' H' => ∀ v, RepV X.K m' st' H' a v → Q v H' := by
        rw [zK]
        exact ⟨m5, st5', _, vs[i], S7, E7, rx, ((PR.bind_of q7).reW fun _ _ _ z => z).some fun ρ8 st8 e8 m8 H8 S8 T8 h8 σ8 E8 => ⟨m8, st8, ρ8, S8, T8, E8, wipe_back hin e8, h8⟩⟩
      have run1 := pg.run _ s7 _ H7 x u _ I7' r7 g7
      rw [zP, zw, zA, ze] at run1
      refine wpAny_mono run1 (fun _ s8 hq => ?_) fun e s' x => zair e s' x
      obtain ⟨σ8, H8, I8, m8, st8, ρ8, S8, T8, E8, w8, q8⟩ := hq
      have t8 : tMT Z.K CA XR (fun c d _ H => W c d σ H) (testM tt) σ8 H8 fun b H9 => ∃ m9 st9, SR X.K CA m9 st9 H9 ∧ Step m5 st5' H7 m9 st9 H9 ∧ ER X.K m9 st9 H9 ρ8 σ8 ∧
          PR X.K CA XR (fun c d _ H => W c d σ H) (wipe σ (ownL.map (·.2))) (((if b then fm ρ8 >>= fun x => compK gm tt fm (wipeE ρ0 (ownL.map (·.2))) (acc ++ [x]) (vs.drop (i + 1)) else compK gm tt fm (wipeE ρ0 (ownL.map (·.2))) acc (vs.drop (i + 1))) st9).bind (newL cell)) m9 st9 H9 fun a m' st' H' => ∀ v, RepV X.K m' st' H' a v → Q v H' := by
        rw [zK]
        exact ⟨m8, st8, ρ8, S8, E8, ((PR.bind_of q8).reW fun _ _ _ z => z).mono fun b m9 st9 H9 S9 T9 h9 => ⟨m9, st9, S9, T8.trans T9, E8.mono T9, h9⟩⟩
      have run2 := pt.run _ s8 σ8 H8 _ I8 t8
      rw [zP, zw, zA, ze] at run2
      refine wpAny_mono run2 (fun b s9 hq => ?_) fun e s' x => zair e s' x
      obtain ⟨H9, I9, m9, st9, S9, T9, E9, q9⟩ := hq
      have T5' := T5.trans T7
      -- a turn's end
      have fin : ∀ {s' : Shared} {H' : Hp} {its' : List Value} {av' : List L2.V} {c' : Nat}, Inv Z (pinsAt fp s7.heap) σ8 H' s' → H' D = none → s'.heap.get? D = some { cls := .type "list", data := .seq its'.toArray c' } → Vals av' its' → V (i + 1) (vs.length - (i + 1)) H' av' (wipe σ8 (ownL.map (·.2))) →
          ∃ n', n' < vs.length - i ∧ ∃ i H' its av c0 σi, Inv Z [] σi H' s' ∧ tn i s'.heap ∧ (∀ b ∈ fp, H' b = none) ∧ H' D = none ∧ s'.heap.get? D = some { cls := .type "list", data := .seq (its : List Value).toArray c0 } ∧ Vals av its ∧ V i n' H' av σi := by
        intro s' H' its' av' c' I' nD gD va' hV
        have pin' : ∀ b ∈ fp, ∀ o, s7.heap.get? b = some o → s'.heap.get? b = some o ∧ H' b = none := fun b hb o e =>
          let z := I'.pin (b, o) (List.mem_append_right _ (mem_pinsAt hb e))
          ⟨z.1, z.2.1⟩
        refine ⟨vs.length - (i + 1), by omega, i + 1, H', its', av', c', _, (I'.pins_of fun p hp => absurd hp (by simp)).weak (wipe_length _ _) (fun j v e => (wipe_some e).1), T.keep _ _ _ st7 fun b hb o e => (pin' b hb o e).1, fun b hb => ?_, nD, gD, va', hV⟩
        obtain ⟨o, e, _⟩ := T.obj _ _ st7 b hb
        exact (pin' b hb o e).2
      have dpin : ∀ {σ' : L2.St} {H' : Hp} {s' : Shared}, Inv Z ([(D, { cls := .type "list", data := .seq its.toArray c0 })] ++ pinsAt fp s7.heap) σ' H' s' → s'.heap.get? D = some { cls := .type "list", data := .seq its.toArray c0 } ∧ H' D = none ∧ Inv Z (pinsAt fp s7.heap) σ' H' s' := fun I' =>
        let z := I'.pin (D, { cls := .type "list", data := .seq its.toArray c0 }) (List.mem_append_right _ (List.mem_append_left _ (by simp)))
        ⟨z.1, z.2.1, I'.pins_of fun p hp => I'.pin p (List.mem_append_right _ (List.mem_append_right _ hp))⟩
      cases b with
      | false =>
        simp only [Bool.false_eq_true, if_false] at q9 ⊢
        obtain ⟨d1, d2, d3⟩ := dpin I9
        refine fin d3 d2 d1 va ⟨by omega, rfl, m9, st9, acc, S9, ?_, T5'.trans T9, RepVs.mono (T7.trans T9) _ _ ra, by omega, q9⟩
        have := ER.wipe E9 (ownL.map (·.2))
        rwa [w8] at this
      | true =>
        simp only [if_true] at q9 ⊢
        have t10 : tM Z.K CA XR (fun c d _ H => W c d σ H) fm σ8 H9 fun y H10 => ∃ m10 st10 x, SR X.K CA m10 st10 H10 ∧ Step m5 st5' H7 m10 st10 H10 ∧ ER X.K m10 st10 H10 ρ8 σ8 ∧ RepV X.K m10 st10 H10 x y ∧
            PR X.K CA XR (fun c d _ H => W c d σ H) (wipe σ (ownL.map (·.2))) ((compK gm tt fm (wipeE ρ0 (ownL.map (·.2))) (acc ++ [x]) (vs.drop (i + 1)) >>= newL cell) st10) m10 st10 H10 fun a m' st' H' => ∀ v, RepV X.K m' st' H' a v → Q v H' := by
          rw [zK]
          have e10 : ((fm ρ8 >>= fun x => compK gm tt fm (wipeE ρ0 (ownL.map (·.2))) (acc ++ [x]) (vs.drop (i + 1))) st9).bind (newL cell) = (fm ρ8 st9).bind fun x => compK gm tt fm (wipeE ρ0 (ownL.map (·.2))) (acc ++ [x]) (vs.drop (i + 1)) >>= newL cell := by
            rw [bind_eq]
            cases fm ρ8 st9 with
            | exc y t => rfl
            | bad => rfl
            | ok b t => rfl
          rw [e10] at q9
          exact ⟨m9, st9, ρ8, S9, E9, ((PR.bind_of q9).reW fun _ _ _ z => z).mono fun x m10 st10 H10 S10 T10 h10 v rv => ⟨m10, st10, x, S10, T9.trans T10, E9.mono T10, rv, h10⟩⟩
        have run3 := pe.run _ s9 σ8 H9 _ I9 t10
        rw [zP, zw, zA, ze] at run3
        refine wpAny_mono run3 (fun y s10 hq => ?_) fun e s' x => zair e s' x
        obtain ⟨yv, H10, I10, ry, m10, st10, xw, S10, T10, E10, rx10, q10⟩ := hq
        obtain ⟨d1, d2, d3⟩ := dpin I10
        have hav : av.length < vs.length := by rw [← ra.length]; omega
        have tr : Inv Z (pinsAt fp s7.heap) σ8 (upd H10 D (.lst av)) s10 := by
          refine take_in d3 d2 ⟨lineOf (by omega), its, c0, va, d1⟩ (.inl hDZ) (d3.ok.exf D hDZ).1 (fun x c e => (d3.ok.exf D hDZ).2 x c e) fun p hp => ?_
          rw [zn, List.nil_append] at hp
          exact fun z => Dfp p.1 (of_pinsAt hp).1 z.symm
        have ap := app_ok (X := Z) (E := notedBy (model X.prog X.w) X.A ce fun e s'' => cpost (model X.prog X.w) X.A X.xe use Qf (.ref D) ce (.error e) s'') (v := y) (y := yv) (Q := fun _ s' => ∃ n', n' < vs.length - i ∧ ∃ i H' its av c0 σi, Inv Z [] σi H' s' ∧ tn i s'.heap ∧ (∀ b ∈ fp, H' b = none) ∧ H' D = none ∧
          s'.heap.get? D = some { cls := .type "list", data := .seq (its : List Value).toArray c0 } ∧ Vals av its ∧ V i n' H' av σi) tr upd_same (lineLt (by omega)) ry fun s11 I11 => ?_
        · rw [zP, zw, zA] at ap
          exact ap
        · rw [upd_upd] at I11
          obtain ⟨_, its2, c2, va2, g2⟩ := (show ObjOk Z.prog Z.w _ s11.heap D (.lst (av ++ [yv])) from I11.hok D _ upd_same)
          refine fin (let_out I11 d2 (.inl ⟨_, rfl⟩)) d2 g2 va2 ⟨by omega, rfl, m10, st10, acc ++ [xw], S10, ?_, T5'.trans T10, RepVs.append (RepVs.mono (T7.trans T10) _ _ ra) (show RepVs X.K m10 st10 H10 [xw] [yv] from ⟨yv, [], rfl, rx10, rfl⟩), by rw [List.length_append, List.length_singleton]; omega, q10⟩
          have := ER.wipe E10 (ownL.map (·.2))
          rwa [w8] at this
    · have hie : i = vs.length := by omega
      subst hie
      rw [List.drop_length] at q5
      have stop := wk.stop _ m5 st5' H5 (Nat.le_refl _) S5 T5
      have td := T.done Z zP zw zK hc vs.length _ s5 _ H5 (fun _ _ => False) pinD (stat I5 pD n5) st5 stop
      rw [zA] at td
      refine thnF td ?_
      rintro r s6 ⟨rfl, I6⟩
      have dp := I6.pin (D, { cls := .type "list", data := .seq its.toArray c0 }) (List.mem_append_right _ (by simp))
      rw [hZ, hY] at I6
      have I6 := I6.unwish
      have I7 : Inv X pins σ H5 s6 := I3.call' (ch := D :: fp) I6.os I6.base I6.hok I6.bare fun b hb => ⟨(fpD b hb).1.2.2.2.1, (fpD b hb).1.2.1, (fpD b hb).1.2.2.2.2.1, (fpD b hb).1.2.2.2.2.2⟩
      have nC : H5 ce.locals = none := I6.free
      obtain ⟨mm, hns, _⟩ := I6.loc
      have hav : av.length ≤ L := by rw [← ra.length]; omega
      have I8 : Inv X pins σ (upd H5 D (.lst av)) s6 := take_in I7 dp.2.1 ⟨lineOf hav, its, c0, va, dp.1⟩ fD.2.2.2.1 fD.2.1 fD.2.2.2.2.1 fD.2.2.2.2.2
      have qq : Q (.ref D) (upd H5 D (.lst av)) := newL_ok (W := fun c d _ H => W c d σ H) (σ := wipe σ (ownL.map (·.2))) S5 ra (by omega) q5 D dp.2.1
      have neD : ce.locals ≠ D := by
        rw [cL]
        exact Nat.ne_of_gt (Heap.lt_size D3)
      refine hRR D ce s6 mm _ I8 qq hns ?_
      rw [cL] at nC neD ⊢
      exact I3.fpOk (Nat.le_refl _) (by rw [upd_ne neD]; exact nC)
  exact codeAny_compStart_list loop (T.self X.A 0 _ _ _ st4 loop)
end
end Fl
set_option Elab.async false
set_option linter.all false
set_option maxRecDepth 100000
set_option maxHeartbeats 4000000
/-! Fl over the layer: list comprehensions as values, and stored. -/
namespace Fl
open PySem PySem.Spec L2
/-- BlkOk, looked at -/
def blkB (N : List Str) (sc scope : Scope) (own : List (Str × Nat)) : Bool :=
  decide (scope.kind = .function) && (scope.names.all (fun y => decide (scope.names.lookup y.1 = some y.2)) && (own.all (fun p => decide (N[p.2]? = some p.1)) &&
    (scope.names.all (fun y => !decide (y.2 = .free) || (decide (sc.names.lookup y.1 = some .cell) || decide (sc.names.lookup y.1 = some .free))) &&
      scope.names.all (fun y => !(decide (y.2 = .local) || decide (y.2 = .cell)) || (decide (y.1 ∈ own.map (·.1)) || !decide (y.1 ∈ N))))))
theorem blk_of {N : List Str} {sc scope : Scope} {own : List (Str × Nat)} (h : blkB N sc scope own = true) : BlkOk N sc scope own := by
  unfold blkB at h
  simp only [Bool.and_eq_true, decide_eq_true_eq, List.all_eq_true, Bool.or_eq_true, Bool.not_eq_true', decide_eq_false_iff_not] at h
  obtain ⟨h1, h2, h3, h4, h5⟩ := h
  refine ⟨h1, h2, h3, fun y hy e => ?_, fun y hy e => ?_⟩
  · rcases h4 y hy with z | z
    · exact absurd e z
    · exact z
  · rcases h5 y hy with z | z
    · rcases e with e | e
      · rw [e] at z; simp at z
      · rw [e] at z; simp at z
    · exact z
section
variable {tb : Tab} {G : FEnv} {CA : Tags} {XR : XRel} {k : Nat} {N : List Str} {sc : Scope} {own : Str → Bool} {X : Cx} {W : WX}
variable {elt tg iter : Expr} {ifs : List Expr} {scope : Scope} {ownL : List (Str × Nat)} {pos spos py : Pos} {im : CI} {gm : CG} {tt : Option CT} {fm : CE}
theorem compK_L {cell : Bool} {ρ : Env} {vs : List Val} {s : Store} : (compK gm tt fm ρ [] vs >>= newL cell) s = (compL gm tt fm ρ vs >>= newL cell) s := by
  rw [bind_eq, bind_eq, compK_eq]
  cases compL gm tt fm ρ vs s with
  | exc x t => rfl
  | bad => rfl
  | ok xs t => rfl
/-- the tests of a clause -/
theorem sts_nil : PTs X [] (tMT X.K CA XR W (testM none)) := ⟨fun pins s σ H Q I ⟨m, st, ρ, S, E, q⟩ => pts_nil.run pins s σ H Q I (PR.here S (q : PR X.K CA XR W σ (.ok true st) m st H fun b m' st' H' => Q b H'))⟩
theorem sts_one {c : Expr} {t : CT} (h : STt CA XR X W c t) : PTs X [c] (tMT X.K CA XR W (testM (some t))) := pts_one h
/-- what the clause's walk hands on -/
theorem lc_list {σ : L2.St} {H : Hp} {Q : VK} {cell : Bool} (h : tM X.K CA XR W (eComp cell (ownL.map (·.2)) im gm tt fm) σ H Q) : tIL X.K CA XR W im σ H fun J H1 => ∃ vs m st ρ, Wk X.K CA J vs m st H1 ∧ vs.length ≤ L ∧ SR X.K CA m st H1 ∧ ER X.K m st H1 ρ σ ∧
    PR X.K CA XR W σ ((compK gm tt fm (wipeE ρ (ownL.map (·.2))) [] vs >>= newL cell) st) m st H1 fun a m' st' H' => ∀ v, RepV X.K m' st' H' a v → Q v H' := by
  obtain ⟨m, st, ρ, S, E, q⟩ := h
  exact ⟨m, st, ρ, S, E, (PR.bind_of q).mono fun vs m1 st1 H1 S1 T1 h1 J wk hz => ⟨vs, m1, st1, ρ, wk, hz, S1, E.mono T1, by rw [compK_L]; exact h1⟩⟩
theorem lc_any {σ : L2.St} {H : Hp} {Q : VK} {cell : Bool} (h : tM X.K CA XR W (eCompR cell (ownL.map (·.2)) im gm tt fm) σ H Q) : tI X.K CA XR W im σ H fun J H1 => ∃ vs m st ρ, Wk X.K CA J vs m st H1 ∧ vs.length ≤ L ∧ SR X.K CA m st H1 ∧ ER X.K m st H1 ρ σ ∧
    PR X.K CA XR W σ ((compK gm tt fm (wipeE ρ (ownL.map (·.2))) [] vs >>= newL cell) st) m st H1 fun a m' st' H' => ∀ v, RepV X.K m' st' H' a v → Q v H' := by
  obtain ⟨m, st, ρ, S, E, q⟩ := h
  refine ⟨m, st, ρ, S, E, (PR.bind_of q).mono fun vs m1 st1 H1 S1 T1 h1 J wk => ?_⟩
  split at h1
  · rename_i hz
    exact ⟨vs, m1, st1, ρ, wk, hz, S1, E.mono T1, by rw [compK_L]; exact h1⟩
  · exact h1.elim
/-- [elt for tg in iter if ..] -/
theorem lc_val {wi : TI} {te : TE} {cell : Bool} (C : Cq tb G CA XR k N sc own X W) (hin : GIn (ownL.map (·.2)) gm) (ok : BlkOk N sc scope ownL) (hi : PI X tg iter wi)
    (hw : ∀ σ H Q, te σ H Q → wi σ H fun J H1 => ∃ vs m st ρ, Wk X.K CA J vs m st H1 ∧ vs.length ≤ L ∧ SR X.K CA m st H1 ∧ ER X.K m st H1 ρ σ ∧
      PR X.K CA XR W σ ((compK gm tt fm (wipeE ρ (ownL.map (·.2))) [] vs >>= newL cell) st) m st H1 fun a m' st' H' => ∀ v, RepV X.K m' st' H' a v → Q v H')
    (hg : ∀ X' W', Cq tb G CA XR k N (relS scope sc) (blkOwn scope) X' W' → SG CA XR X' W' tg gm)
    (ht : ∀ X' W', Cq tb G CA XR k N (relS scope sc) (blkOwn scope) X' W' → PTs X' ifs (tMT X'.K CA XR W' (testM tt)))
    (he : ∀ X' W', Cq tb G CA XR k N (relS scope sc) (blkOwn scope) X' W' → SE CA XR X' W' elt fm) (hs : ∀ x, foldedSetIterable iter X.env x = pure x) :
    PE X (.ListComp elt [⟨tg, iter, ifs, 0⟩] scope pos) te := by
  refine ⟨fun pins s σ H Q I q => ?_⟩
  rw [eval_ListComp]
  refine lc_core1 C hin I hi ok hg ht he hs (hw σ H Q q) fun D ce s' m H' J q hn fo => ⟨m, hn, fun h2 sb => ?_⟩
  exact ⟨.ref D, H', J.turned (t' := s'.toks) (fun b o hb e => (sb.2 b hb).trans e) fo.1 fo.2.1 fo.2.2.2.1 fo.2.2.2.2.1 fo.2.2.2.2.2, rfl, q⟩
/-- name = [..], on the name's own line -/
theorem lc_set {wi : TI} {te : TE} {cell : Bool} (C : Cq tb G CA XR k N sc own X W) (i : Nat) {y : Str} (hy : N[i]? = some y) (hyl : sc.names.lookup y = some .local) (hk : sc.kind = .function) (hl : (py.line == pos.line) = true)
    (ha : (scope.names.any fun (n, k) => n == y && (k == .local || k == .cell)) = false) (hin : GIn (ownL.map (·.2)) gm) (ok : BlkOk N sc scope ownL) (hi : PI X tg iter wi)
    (hw : ∀ σ H Q, te σ H Q → wi σ H fun J H1 => ∃ vs m st ρ, Wk X.K CA J vs m st H1 ∧ vs.length ≤ L ∧ SR X.K CA m st H1 ∧ ER X.K m st H1 ρ σ ∧
      PR X.K CA XR W σ ((compK gm tt fm (wipeE ρ (ownL.map (·.2))) [] vs >>= newL cell) st) m st H1 fun a m' st' H' => ∀ v, RepV X.K m' st' H' a v → Q v H')
    (hg : ∀ X' W', Cq tb G CA XR k N (relS scope sc) (blkOwn scope) X' W' → SG CA XR X' W' tg gm)
    (ht : ∀ X' W', Cq tb G CA XR k N (relS scope sc) (blkOwn scope) X' W' → PTs X' ifs (tMT X'.K CA XR W' (testM tt)))
    (he : ∀ X' W', Cq tb G CA XR k N (relS scope sc) (blkOwn scope) X' W' → SE CA XR X' W' elt fm) (hs : ∀ x, foldedSetIterable iter X.env x = pure x) :
    PS X (.Assign [.Name y py] (.ListComp elt [⟨tg, iter, ifs, 0⟩] scope pos) spos) (tAsg te (gName i)) := by
  have hyl' : X.env.scope.names.lookup y = some .local := by rw [C.sc]; exact hyl
  have sw : swapsWith (.ListComp elt [⟨tg, iter, ifs, 0⟩] scope pos) (some (.Name y py)) spos.line X.env = pure true := sw_true (by rw [C.sc]; exact hk) hyl' hl ha
  refine ⟨fun pins s σ H D I q => ?_⟩
  rw [exec_Assign_Name_used _ _ _ _ sw]
  refine wpAny_bind (wpAny_standAt (wpAny_bind ?_))
  show wpAny _ X.A (do let _ ← comprehension (.ListComp elt [⟨tg, iter, ifs, 0⟩] scope pos) scope X.env (firstIterPos [⟨tg, iter, ifs, 0⟩] pos) (newList []) false (eval iter X.env) (some (assign (.Name y py) X.env)); pure _) _ _ s
  have q' : te σ H fun x H1 => gName i x σ H1 D.nx := q
  refine wpAny_bind (thn (lc_core1 (Qf := fun _ s' => SP X pins D .next s') C hin I hi ok hg ht he hs (hw σ H _ q') fun A ce s' m H' J q hn fo => ?_) fun _ s' hq => wpAny_pure (wpAny_pure hq))
  show wpAny _ _ (assign (.Name y py) X.env (.ref A)) _ _ _
  refine wpAny_assign_Name (store_ok2 (v := V.ref A) J (by rw [C.nm]; exact C.nd) (by rw [C.nm]; exact hy) (.inl hyl') rfl (fun s2 I2 hh => ?_) (.inr hyl'))
  obtain ⟨b, sb, hb⟩ := hh
  have ne : ce.locals ≠ b := by
    rcases hb with z | z
    · rw [z]; exact fo.2.1
    · exact fun e => fo.2.2.2.2.1 y b z e.symm
  refine ⟨m, hn.sameBut sb ne, fun h3 sb3 => ?_⟩
  exact ⟨_, H', I2.turned (t' := s2.toks) (fun b o hb e => (sb3.2 b hb).trans e) fo.1 fo.2.1 fo.2.2.2.1 fo.2.2.2.2.1 fo.2.2.2.2.2, q⟩
theorem se_lc (cell : Bool) (C : Cq tb G CA XR k N sc own X W) (hin : GIn (ownL.map (·.2)) gm) (ok : BlkOk N sc scope ownL) (hi : SIL CA XR X W tg iter im)
    (hg : ∀ X' W', Cq tb G CA XR k N (relS scope sc) (blkOwn scope) X' W' → SG CA XR X' W' tg gm)
    (ht : ∀ X' W', Cq tb G CA XR k N (relS scope sc) (blkOwn scope) X' W' → PTs X' ifs (tMT X'.K CA XR W' (testM tt)))
    (he : ∀ X' W', Cq tb G CA XR k N (relS scope sc) (blkOwn scope) X' W' → SE CA XR X' W' elt fm) (hs : ∀ x, foldedSetIterable iter X.env x = pure x := by intro _; rfl) :
    SE CA XR X W (.ListComp elt [⟨tg, iter, ifs, 0⟩] scope pos) (eComp cell (ownL.map (·.2)) im gm tt fm) := lc_val C hin ok hi (fun σ H Q q => lc_list q) hg ht he hs
theorem asg_read {f : CE} (i : Nat) : ∀ D σ H, tS X.K CA XR W (sAsg f (gVar i)) D σ H → tAsg (tM X.K CA XR W f) (gName i) D σ H := fun D σ H ⟨m, st, ρ, S, E, q⟩ =>
  ⟨m, st, ρ, S, E, (PO.expr E q).mono fun x m1 st1 H1 S1 T1 h1 v rv => h1 m1 H1 _ S1 Step.refl ((E.mono T1).set rv i)⟩
theorem ss_lc (cell : Bool) (C : Cq tb G CA XR k N sc own X W) (i : Nat) {y : Str} (hy : N[i]? = some y) (hyl : sc.names.lookup y = some .local) (hk : sc.kind = .function) (hl : (py.line == pos.line) = true)
    (ha : (scope.names.any fun (n, k) => n == y && (k == .local || k == .cell)) = false) (hin : GIn (ownL.map (·.2)) gm) (ok : BlkOk N sc scope ownL) (hi : SIL CA XR X W tg iter im)
    (hg : ∀ X' W', Cq tb G CA XR k N (relS scope sc) (blkOwn scope) X' W' → SG CA XR X' W' tg gm)
    (ht : ∀ X' W', Cq tb G CA XR k N (relS scope sc) (blkOwn scope) X' W' → PTs X' ifs (tMT X'.K CA XR W' (testM tt)))
    (he : ∀ X' W', Cq tb G CA XR k N (relS scope sc) (blkOwn scope) X' W' → SE CA XR X' W' elt fm) (hs : ∀ x, foldedSetIterable iter X.env x = pure x := by intro _; rfl) :
    S1 CA XR X W (.Assign [.Name y py] (.ListComp elt [⟨tg, iter, ifs, 0⟩] scope pos) spos) (sAsg (eComp cell (ownL.map (·.2)) im gm tt fm) (gVar i)) :=
  PS.weak (lc_set C i hy hyl hk hl ha hin ok hi (fun σ H Q q => lc_list q) hg ht he hs) (asg_read i)
theorem ss_lcR (cell : Bool) (C : Cq tb G CA XR k N sc own X W) (i : Nat) {y : Str} (hy : N[i]? = some y) (hyl : sc.names.lookup y = some .local) (hk : sc.kind = .function) (hl : (py.line == pos.line) = true)
    (ha : (scope.names.any fun (n, k) => n == y && (k == .local || k == .cell)) = false) (hin : GIn (ownL.map (·.2)) gm) (ok : BlkOk N sc scope ownL) (hi : SI CA XR X W tg iter im)
    (hg : ∀ X' W', Cq tb G CA XR k N (relS scope sc) (blkOwn scope) X' W' → SG CA XR X' W' tg gm)
    (ht : ∀ X' W', Cq tb G CA XR k N (relS scope sc) (blkOwn scope) X' W' → PTs X' ifs (tMT X'.K CA XR W' (testM tt)))
    (he : ∀ X' W', Cq tb G CA XR k N (relS scope sc) (blkOwn scope) X' W' → SE CA XR X' W' elt fm) (hs : ∀ x, foldedSetIterable iter X.env x = pure x := by intro _; rfl) :
    S1 CA XR X W (.Assign [.Name y py] (.ListComp elt [⟨tg, iter, ifs, 0⟩] scope pos) spos) (sAsg (eCompR cell (ownL.map (·.2)) im gm tt fm) (gVar i)) :=
  PS.weak (lc_set C i hy hyl hk hl ha hin ok hi (fun σ H Q q => lc_any q) hg ht he hs) (asg_read i)
end
end Fl
set_option Elab.async false
set_option linter.all false
set_option maxRecDepth 100000
set_option maxHeartbeats 4000000
/-! Fl over the layer: try. -/
namespace Fl
open PySem PySem.Spec L2
abbrev wNo : WX := fun _ _ _ _ => False
/-- a suite that has the exception in slot i -/
def tX (K : PySem.W.Frag) (CA : Tags) (XR : XRel) (i : Nat) (f : SM) (a : Addr) (cls : Value) (d : Option Addr) : TS := fun D σ H => σ[i]? = some (some (.ref a)) ∧
  ∃ m st ρ x, SR K CA m st H ∧ ER K m st H ρ σ ∧ ρ[i]? = some (some (.ex x)) ∧ XR x cls d H ∧ PO K CA XR wNo D m st H (calmO (f ρ st))
section
variable {tb : Tab} {G : FEnv} {CA : Tags} {XR : XRel} {k : Nat} {N : List Str} {sc : Scope} {own : Str → Bool} {X : Cx} {W : WX}
variable {body suite : List Stmt} {b0 : Stmt} {fs gs : SM} {np pos pos' : Pos} {x n : Str}
theorem names_of (C : Cw tb G CA XR k N sc own X W) {uv : Value} (hg : glbB sc x = true) (h : X.mg x = some uv ∨ (X.mg x = none ∧ bootBuiltins x = some uv)) : Names X x uv :=
  ⟨gl_of C hg, gl_dbg hg, h.imp id fun z => ⟨z.1, z.2, gl_nm hg⟩⟩
theorem Cs.tr (C : Cs tb G CA XR k N sc X W) {W' : WX} (pn : List (Addr × Obj)) (xe : Value → Shared → Prop) (tk : Takes (X.tr pn xe) W') (hp : PassesOwn (model X.prog X.w) X.A X.env xe) : Cs tb G CA XR k N sc (X.tr pn xe) W' := by
  refine ⟨⟨⟨C.q.nm, C.q.nd, C.q.sc, C.q.own, C.q.un, C.q.glob⟩, C.q.calm, ⟨_, C.hf, ⟨_, _, C.hs, C.hf⟩, ?_⟩, C.q.room⟩, C.hs, C.hf, hp, tk, C.kind⟩
  rintro u s' ⟨a, B, sI, pins, σ, H', cls, d, ⟨h1, h2⟩, h3, ⟨h4, h5⟩, h6, h7, h8, h9⟩
  exact tk u s' ⟨a, B, sI, pins, σ, H', cls, d, h1, h3, h6, h7, h4, h5, h8, h9, h2⟩
theorem Cs.inSuite (C : Cs tb G CA XR k N sc X W) (a : Addr) (pn : List (Addr × Obj)) : Cw tb G CA XR k N sc (fun _ => true) (X.suite a pn) wNo := by
  refine ⟨C.q.nm, C.q.nd, C.q.sc, C.q.own, ?_, C.q.glob⟩
  have := C.q.un
  exact this
theorem PO.no {K : PySem.W.Frag} {D : Ends} {m : Mp} {st : Store} {H : Hp} {o : SO} (h : PO K CA XR W D m st H (calmO o)) : PO K CA XR wNo D m st H (calmO o) := by
  cases o with
  | ex x ρ s => exact h
  | nx ρ s => exact h
  | rt ρ s => exact h
  | bk ρ s => exact h
  | ct ρ s => exact h
  | bad => exact h
theorem PO.unc {K : PySem.W.Frag} {D : Ends} {m : Mp} {st : Store} {H : Hp} {o : SO} (h : PO K CA XR wNo D m st H (calmO o)) : PO K CA XR wNo D m st H o := by
  cases o with
  | ex x ρ s => exact (show False from h).elim
  | nx ρ s => exact h
  | rt ρ s => exact h
  | bk ρ s => exact h
  | ct ρ s => exact h
  | bad => exact h
/-- except X as n: -/
theorem ss_try_as (C : Cs tb G CA XR k N sc X W) (i : Nat) (t : String) (hi : N[i]? = some n) (hl : sc.names.lookup n = some .local) (hg : glbB sc x = true) (hm : (x, t) ∈ tb.exMs) (hb : ∀ X' W', Cs tb G CA XR k N sc X' W' → SS CA XR X' W' body fs)
    (hsu : ∀ a oe cls d pn, Zc cls d oe → (∃ vs, oe.data = .fields vs) → Cw tb G CA XR k N sc (fun _ => true) (X.suite a ((a, oe) :: pn)) wNo → PSs (X.suite a ((a, oe) :: pn)) (b0 :: suite) (tX X.K CA XR i gs a cls d)) :
    S1 CA XR X W (.Try body [.ExceptHandler (some (.Name x np)) (some n) (b0 :: suite) pos'] [] [] pos) (sTry fs t (some i) gs) := by
  obtain ⟨uv, hn, hx⟩ := C.q.glob.exMs x t hm
  refine PS.weak (ps_try_as (Wout := W) (tb := fun W' => tS X.K CA XR W' fs) (ts := fun a cls d => tX X.K CA XR i gs a cls d) C.hs C.hf (by rw [C.q.nm]; exact C.q.nd) (by rw [C.q.nm]; exact hi) (by show X.env.scope.names.lookup n = _; rw [C.q.sc]; exact hl)
    (names_of C.q.toCw hg hn) C.tk (fun W' pn xe tk hp => hb _ _ (C.tr pn xe tk hp)) fun a oe cls d pn z1 z2 => hsu a oe cls d pn z1 z2 (C.inSuite a _)) ?_
  rintro D σ H ⟨m, st, ρ, S, E, q⟩
  refine ⟨m, st, ρ, S, E, ?_⟩
  unfold sTry at q
  cases e : fs ρ st with
  | nx ρ' s' => rw [e] at q; exact q
  | rt v s' => rw [e] at q; exact q
  | bk v s' => rw [e] at q; exact q
  | ct v s' => rw [e] at q; exact q
  | bad => rw [e] at q; exact q
  | ex y ρ1 s1 =>
    rw [e] at q
    intro m' H' σ' cls d S' T' E' xr
    dsimp only at q
    refine ⟨excSub y.cls t, hx y cls d H' xr, fun hb a na => ?_, fun hb => ?_⟩
    · rw [if_pos hb] at q
      split at q
      · rename_i hlt
        refine ⟨List.getElem?_set_self (by rw [← E'.1]; exact hlt), m', s1, ρ1.set i (some (.ex y)), y, S', E'.set (w := .ex y) trivial i, List.getElem?_set_self hlt, xr, ?_⟩
        cases e2 : gs (ρ1.set i (some (.ex y))) s1 with
        | nx ρ2 s2 => rw [e2] at q; exact fun m4 H4 σ4 S4 T4 E4 => q m4 H4 _ S4 (T'.trans T4) (E4.drop i)
        | bk ρ2 s2 => rw [e2] at q; exact fun m4 H4 σ4 S4 T4 E4 => q m4 H4 _ S4 (T'.trans T4) (E4.drop i)
        | ct ρ2 s2 => rw [e2] at q; exact fun m4 H4 σ4 S4 T4 E4 => q m4 H4 _ S4 (T'.trans T4) (E4.drop i)
        | rt v s2 => rw [e2] at q; exact fun m4 H4 u S4 T4 r4 => q m4 H4 u S4 (T'.trans T4) r4
        | ex x2 ρ2 s2 => rw [e2] at q; exact q
        | bad => rw [e2] at q; exact q
      · exact (show False from q).elim
    · rw [if_neg (by rw [hb]; decide)] at q
      exact q m' H' σ' cls d S' T' E' xr
/-! ### what a suite asks of its exception -/
/-- what is known of the exception at a: it stands in slot i -/
abbrev Kn (XR : XRel) (i : Nat) (a : Addr) (y : Exc) (cls : Value) (d : Option Addr) (σ : L2.St) (H : Hp) : Prop := σ[i]? = some (some (.ref a)) ∧ XR y cls d H
/-- a value that is known -/
def cst (P : L2.St → Hp → Prop) (v : V) : TE := fun σ H Q => P σ H ∧ Q v H
variable {a : Addr} {oe : Obj} {pn : List (Addr × Obj)} {cls : Value} {d : Option Addr} {i : Nat} {p p2 p3 : Pos} {e1 e2 : Expr} {P : L2.St → Hp → Prop}
/-- isinstance(e, c), e the exception that the suite holds, with or without a dict -/
def rIsF (K : PySem.W.Frag) (D a : Addr) (d : Option Addr) : List V → Hp → VK → Prop := fun xs H Q => ∃ (c : V) (cv : Value) (b : Bool), xs = [.ref a, c] ∧ (∀ u, RelV c u → u = cv) ∧ PySem.W.kitOne K (.ref D) cv = some b ∧ (∀ dd, d = some dd → ∃ fs, H dd = some (.xd fs)) ∧ Q (.bl b) H
theorem call_isF {D : Addr} (C : ExcC X.K D) (hz : Zc (.ref D) d oe) (hf : ∃ vs, oe.data = .fields vs) : CallR (X.suite a ((a, oe) :: pn)) (.builtin "isinstance") (rIsF X.K D a d) := by
  intro pins s σ H xs us Q I r h
  obtain ⟨c, cv, b, rfl, hcv, e, hd, q⟩ := h
  cases r with
  | cons rx rr =>
    cases rr with
    | cons rt rr =>
      cases rr
      cases rx
      have ec := hcv _ rt
      subst ec
      obtain ⟨hget, _⟩ := I.pin (a, oe) (List.mem_append.mpr (.inl List.mem_cons_self))
      obtain ⟨vs, hv⟩ := hf
      have J : ∃ od, PySem.W.InstAt s.heap a oe D od := by
        cases d with
        | none =>
          obtain ⟨oc, od, oda, osl⟩ := oe
          obtain ⟨h1, h2⟩ := hz
          dsimp only at h1 h2 hv
          subst h1 h2 hv
          exact ⟨none, hget, rfl, rfl, trivial⟩
        | some dd =>
          obtain ⟨fs, ed⟩ := hd dd rfl
          obtain ⟨mA, ⟨od, _, _, ho, _⟩, _⟩ := (show ObjOk X.prog X.w H s.heap dd (.xd fs) from I.hok dd _ ed)
          exact ⟨some od, hget, hz.1, by unfold PySem.W.notCls; rw [hv] <;> rfl, by rw [hz.2]; exact ho⟩
      obtain ⟨od, J⟩ := J
      have hcl : (PySem.W.clsIn X.K D).isSome = true := by
        obtain ⟨cd, hcd, _⟩ := PySem.W.any_some C.hd
        rw [hcd]; rfl
      exact PySem.W.kia_one (PySem.W.kitx_exc hcl C.hg C.hk C.hs C.ha C.hn C.ht C.hm) I.kIn J e (fun z => nomatch z) fun tk => ⟨.bl b, H, I.kept (t' := tk) fun _ _ z => z, rfl, q⟩
theorem kx_is (C : Cw tb G CA XR k N sc (fun _ => true) (X.suite a ((a, oe) :: pn)) wNo) (hz : Zc cls d oe) (hf : ∃ vs, oe.data = .fields vs) {y : Exc} {H0 : Hp} (xr : XR y cls d H0) (hi : N[i]? = some n) (hl : visB sc n = true)
    (hb : bltB tb sc "isinstance" = true) (t : String) (hg : glbB sc x = true) (hm : (x, t) ∈ tb.exIs) : PE (X.suite a ((a, oe) :: pn)) (.Call (.Name "isinstance" p) [.Name n p2, .Name x p3] [] pos) (cst (Kn XR i a y cls d) (.bl (excSub y.cls t))) := by
  obtain ⟨u, uv, hn, hr, hu, hx⟩ := C.glob.exIs x t hm
  obtain ⟨_, A, rfl, hA, hk⟩ := hx y cls d H0 xr
  unfold visB at hl
  simp only [Bool.and_eq_true, Bool.not_eq_true'] at hl
  have v1 : PE (X.suite a ((a, oe) :: pn)) (.Name n p2) (tVar i) := pe_var (i := i) (by rw [C.nm]; exact hi) (by rw [C.sc]; exact look_vis hl.1.1) hl.1.2 hl.2
  have v2 : PE (X.suite a ((a, oe) :: pn)) (.Name x p3) (tC u) := by
    rcases hn with z | ⟨z, z2⟩
    · exact pe_glob (gl_of C hg) z hr (gl_dbg hg)
    · exact pe_bltn (gl_of C hg) z z2 hr (gl_nm hg) (gl_dbg hg)
  refine PE.weak (pe_callB (call_isF hA hz hf) (gl_of C (blt_gl hb)) (blt_mg C hb) PyProof.Rows.boot_isinstance (pa_cons v1 (pa_cons v2 pa_nil rfl) rfl) (gl_nm (blt_gl hb)) (gl_dbg (blt_gl hb)) rfl rfl) ?_
  rintro σ H Q ⟨⟨h1, h3⟩, h2⟩
  exact ⟨_, h1, u, uv, _, rfl, hu, hk, (hx y _ d H h3).1, h2⟩
/-- e.at -/
theorem kx_at (C : Cw tb G CA XR k N sc (fun _ => true) (X.suite a ((a, oe) :: pn)) wNo) (hz : Zc cls d oe) (hf : ∃ vs, oe.data = .fields vs) {y : Exc} {H0 : Hp} {v : T} (xr : XR y cls d H0) (ha : y.at_ = some v) (hi : N[i]? = some n) (hl : visB sc n = true)
    (hb : attributeBase (.Name n p2) "at" (X.suite a ((a, oe) :: pn)).env (eval (.Name n p2) (X.suite a ((a, oe) :: pn)).env) = eval (.Name n p2) (X.suite a ((a, oe) :: pn)).env := by rfl) :
    ∃ j, v = .int j ∧ PE (X.suite a ((a, oe) :: pn)) (.Attribute (.Name n p2) "at" pos) (cst (Kn XR i a y cls d) (.int j)) := by
  obtain ⟨j, D, dd, fs, rfl, rfl, T, hno, rfl, _⟩ := C.glob.oxr y cls d H0 v xr ha
  refine ⟨j, rfl, ?_⟩
  unfold visB at hl
  simp only [Bool.and_eq_true, Bool.not_eq_true'] at hl
  have v1 : PE (X.suite a ((a, oe) :: pn)) (.Name n p2) (tVar i) := pe_var (i := i) (by rw [C.nm]; exact hi) (by rw [C.sc]; exact look_vis hl.1.1) hl.1.2 hl.2
  refine PE.weak (pe_xf T hno hz hf v1 hb) ?_
  rintro σ H Q ⟨⟨h1, h3⟩, h2⟩
  obtain ⟨j', D', dd', fs', e1, e2, _, _, e3, e4, e5⟩ := C.glob.oxr y _ _ H _ h3 ha
  cases e1
  cases e2
  cases e3
  exact ⟨_, h1, rfl, rfl, dd, fs', _, rfl, e4, e5, h2⟩
/-- .. as tests -/
def cstT (P : L2.St → Hp → Prop) (b : Bool) : TT := fun σ H Q => P σ H ∧ Q b H
theorem kt_val {b : Bool} (h1 : PE X e1 (cst P (.bl b))) (he : ∀ whole, isTrue e1 X.env whole = (do let v ← whole; standAt e1.pos; holding [v] (truthy v)) := by intro _; rfl) : PT X e1 (cstT P b) := PT.weak (pt_val h1 he) fun σ H Q ⟨z, q⟩ => ⟨z, b, rfl, q⟩
/-- the mirror's test of the exception in slot i -/
def XM (i : Nat) (t : CT) (b : Exc → Bool) : Prop := ∀ (ρ : Env) (st : Store) (y : Exc), ρ[i]? = some (some (.ex y)) → t ρ st = .ok (b y) st
theorem xm_is {i : Nat} {c : String} : XM i (tIsE c (eVar i)) fun y => excSub y.cls c := fun ρ st y h => by
  unfold tIsE eVar
  rw [bind_eq, h]
  rfl
end
end Fl
set_option Elab.async false
set_option linter.all false
set_option maxRecDepth 100000
set_option maxHeartbeats 2000000
/-! Fl over the layer: dicts with tuples as keys. -/
namespace Fl
open PySem PySem.Spec L2 PyProof.Rows
/-! ### keys -/
mutual
theorem nk_eqv : ∀ {n : Nat} {a b : T}, T.hsh n a = true → T.hsh n b = true → (T.eqv a b = true ↔ nkOf a = nkOf b) := by
  intro n a b ha hb
  cases a with
  | tup xs =>
    cases n with
    | zero => simp [T.hsh] at ha
    | succ n =>
      cases b with
      | tup ys =>
        simp only [T.hsh] at ha hb
        have := nks_eqv (n := n) (xs := xs) (ys := ys) ha hb
        simp only [T.eqv, nkOf, NestedKey.tup.injEq]
        exact this
      | _ => simp [T.eqv, nkOf, T.hsh] at hb ⊢
  | lst _ => simp [T.hsh] at ha
  | dct _ => simp [T.hsh] at ha
  | rp _ => simp [T.hsh] at ha
  | _ =>
    cases b with
    | lst _ => simp [T.hsh] at hb
    | dct _ => simp [T.hsh] at hb
    | rp _ => simp [T.hsh] at hb
    | tup ys => simp [T.eqv, nkOf]
    | bl c => first | (simp [T.eqv, nkOf]; done) | (rename_i z; cases z <;> cases c <;> simp [T.eqv, nkOf])
    | str c => first
      | (simp [T.eqv, nkOf]; done)
      | (simp only [T.eqv, nkOf, NestedKey.text.injEq, beq_iff_eq]; exact ⟨fun h => by rw [h], fun h => ofString_inj h⟩)
    | _ => simp [T.eqv, nkOf]
theorem nks_eqv : ∀ {n : Nat} {xs ys : List T}, T.hshs n xs = true → T.hshs n ys = true → (T.eqvs xs ys = true ↔ nksOf xs = nksOf ys) := by
  intro n xs ys hx hy
  cases xs with
  | nil => cases ys <;> simp [T.eqvs, nksOf]
  | cons x r =>
    cases ys with
    | nil => simp [T.eqvs, nksOf]
    | cons y q =>
      simp only [T.hshs, Bool.and_eq_true] at hx hy
      have h1 := nk_eqv (n := n) hx.1 hy.1
      have h2 := nks_eqv (n := n) hx.2 hy.2
      simp only [T.eqvs, nksOf, Bool.and_eq_true, List.cons.injEq, h1, h2]
end
mutual
theorem nk_depth : ∀ {n : Nat} {a : T}, T.hsh n a = true → (nkOf a).depth ≤ n := by
  intro n a ha
  cases a with
  | tup xs =>
    cases n with
    | zero => simp [T.hsh] at ha
    | succ n =>
      simp only [T.hsh] at ha
      have := nks_depth (n := n) ha
      simp only [nkOf, NestedKey.depth]
      omega
  | _ => simp [T.hsh, nkOf, NestedKey.depth] at ha ⊢
theorem nks_depth : ∀ {n : Nat} {xs : List T}, T.hshs n xs = true → NestedKey.depthAll (nksOf xs) ≤ n := by
  intro n xs hx
  cases xs with
  | nil => simp [nksOf, NestedKey.depthAll]
  | cons x r =>
    simp only [T.hshs, Bool.and_eq_true] at hx
    have h1 := nk_depth (n := n) hx.1
    have h2 := nks_depth (n := n) hx.2
    simp only [nksOf, NestedKey.depthAll]
    omega
end
section
variable {P : Program} {w : World} {K : PySem.W.Frag} {H : Hp} {h : Heap} {lv : Addr → Prop}
mutual
/-- a tree's value is that key -/
theorem nk_is (KX : K.In h) (ok : HOk P w H h) : ∀ {n : Nat} {d : T} {v : V} {u : Value}, T.hsh n d = true → Rep K H lv d v → RelV v u → NestedIs h (nkOf d) u := by
  intro n d v u hd r rv
  cases d with
  | non => rw [show v = _ from r] at rv; rw [show u = Value.none from rv]; exact .none
  | bl b => rw [show v = _ from r] at rv; rw [show u = Value.bool b from rv]; exact .bool rfl
  | int i => rw [show v = _ from r] at rv; obtain ⟨t, rfl⟩ := (show ∃ t, u = Value.int i t from rv); exact .int i t
  | str x => rw [show v = _ from r] at rv; obtain ⟨t, rfl⟩ := (show ∃ t, u = Value.str (Str.ofString x) t from rv); exact .text _ t
  | tup ts =>
    cases n with
    | zero => simp [T.hsh] at hd
    | succ n =>
      simp only [T.hsh] at hd
      obtain ⟨a, vs, rfl, q, _, rs⟩ := r
      obtain rfl : u = Value.ref a := rv
      have key : ∃ its : Array Value, Vals vs its.toList ∧ ∃ (o : Obj) (k : Nat), h.get? a = some o ∧ o.cls = .type "tuple" ∧ o.data = .seq its k := by
        have sq : SqT K H a vs := by
          rcases q with ⟨q, _⟩ | q
          · exact .inl (.of q)
          · exact q H
        rcases sq with sq | ⟨o, its, k, e1, e2, e3, _, e5⟩
        · obtain ⟨_, its, rv2, ob, e, c, n', d'⟩ := (show ObjOk P w H h a (.tup vs) from Rd.ok sq ok)
          exact ⟨its.toArray, by simpa using rv2, ob, _, e, c, d'⟩
        · exact ⟨its, e5, o, k, KX _ _ e1, e2, e3⟩
      obtain ⟨its, rv2, o, k, e1, e2, e3⟩ := key
      exact .tup e1 e2 e3 (nks_is KX ok hd rs rv2)
  | _ => simp [T.hsh] at hd
theorem nks_is (KX : K.In h) (ok : HOk P w H h) : ∀ {n : Nat} {ds : List T} {vs : List V} {us : List Value}, T.hshs n ds = true → Reps K H lv ds vs → Vals vs us → NestedAll h (nksOf ds) us := by
  intro n ds vs us hd r rv
  cases ds with
  | nil =>
    rw [show vs = [] from r] at rv
    cases rv
    exact .nil
  | cons d q =>
    obtain ⟨v, vr, rfl, r1, r2⟩ := r
    simp only [T.hshs, Bool.and_eq_true] at hd
    cases rv with
    | cons x y => exact .cons (nk_is KX ok hd.1 r1 x) (nks_is KX ok hd.2 r2 y)
end
end
/-! ### the dict, with no mirror -/
/-- v is the key k -/
def NkV (K : PySem.W.Frag) (H : Hp) (v : V) (k : NestedKey) : Prop := ∀ (P : Program) (w : World) (h : Heap) (u : Value), K.In h → HOk P w H h → RelV v u → NestedIs h k u
structure KdAt (K : PySem.W.Frag) (w : World) (H : Hp) (a : Addr) (xs : List (NestedKey × Addr × Value)) : Prop where
  at_ : H a = some (kdO w a xs)
  keys : ∀ x ∈ xs, NkV K H (.ref x.2.1) x.1 ∧ x.1.depth ≤ 8
section
variable {X : Cx} {pins : List (Addr × Obj)} {σ : L2.St} {H : Hp} {s : Shared} {a b : Addr} {xs : List (NestedKey × Addr × Value)} {k : NestedKey}
theorem KdAt.dict (I : Inv X pins σ H s) (z : KdAt X.K X.w H a xs) : (a == sysModules) = false ∧ s.heap.DictOfH (nestedKind X.prog X.w) a xs := by
  have y := I.hok a _ z.at_
  obtain ⟨⟨y1, o, es, ep, e1, e2, e3, e4, e5⟩, _⟩ := (show ObjOk X.prog X.w H s.heap a (.ext _) from y)
  exact ⟨y1, o, es, ep, e1, e2, e3, e4, fun x hx => ⟨(z.keys x hx).1 X.prog X.w s.heap _ I.kIn I.hok rfl, (z.keys x hx).2⟩, e5⟩
theorem room_kd (hu : X.A.units + 400 < cLine) : (nestedKind X.prog X.w).room X.A.in1 := by
  show X.A.in1.units + 8 < cLine
  have : X.A.in1.units = X.A.units + 1 := rfl
  omega
/-- k in d -/
def rKin (K : PySem.W.Frag) (w : World) : R2 := fun y x H Q => ∃ a b xs k, x = .ref a ∧ y = .ref b ∧ KdAt K w H a xs ∧ NkV K H (.ref b) k ∧ k.depth ≤ 8 ∧ Q (.bl (atKey xs k).isSome) H
theorem op_kin (hu : X.A.units + 400 < cLine) : OpR X (compareOp .In) (rKin X.K X.w) := by
  intro pins s σ H y x v u Q I ry rx h
  obtain ⟨a, b, xs, k, rfl, rfl, z, nk, hd, q⟩ := h
  obtain rfl : u = Value.ref a := rx
  obtain rfl : v = Value.ref b := ry
  obtain ⟨z1, z2⟩ := z.dict I
  exact wpAny_in_heap (knd := nestedKind X.prog X.w) (room_kd hu) ⟨nk _ _ _ _ I.kIn I.hok rfl, hd⟩ z1 z2 ⟨.bl _, H, I.tok _, rfl, q⟩
/-- d[k] -/
def rKix (K : PySem.W.Frag) (w : World) : R2 := fun x y H Q => ∃ a b xs k p v, x = .ref a ∧ y = .ref b ∧ KdAt K w H a xs ∧ NkV K H (.ref b) k ∧ k.depth ≤ 8 ∧ atKey xs k = some p ∧ RelV v p.2 ∧ Q v H
theorem ix_kd (hu : X.A.units + 400 < cLine) : IxR X (rKix X.K X.w) := by
  intro value slice pins s σ H x y v u Q I rx ry h hs
  obtain ⟨a, b, xs, k, p, z, rfl, rfl, kd, nk, hd, hp, rz, q⟩ := h
  obtain rfl : v = Value.ref a := rx
  obtain rfl : u = Value.ref b := ry
  obtain ⟨z1, z2⟩ := kd.dict I
  exact PyProof.Rows.tail_any z2.typeIs PySem.F.slot_dict_getitem.lookup (wpAny_getItem_heap (knd := nestedKind X.prog X.w) (room_kd hu) ⟨nk _ _ _ _ I.kIn I.hok rfl, hd⟩ z2 hp ⟨z, H, I.tok _, rz, q⟩) hs
/-- d[k] = v -/
def rKset (K : PySem.W.Frag) (w : World) : TSet := fun o i v H Q => ∃ a b xs k, o = .ref a ∧ i = .ref b ∧ KdAt K w H a xs ∧ NkV K H (.ref b) k ∧ k.depth ≤ 8 ∧ xs.length ≤ sizeLine ∧ ∀ u, RelV v u → Q (upd H a (kdO w a (storedH xs k b u)))
theorem kd_ok {P : Program} {w : World} {H : Hp} {h : Heap} (e1 : (a == sysModules) = false) (e2 : ∃ o es ep, h.get? a = some o ∧ o.ExactDict ∧ o.data = .dict es ep ∧ es.toList = xs.map (kdE w) ∧ (xs.map (·.1)).Nodup) : ObjOk P w H h a (kdO w a xs) := by
  refine ⟨⟨e1, e2⟩, ?_, ?_⟩
  · obtain ⟨o, es, ep, e, _⟩ := e2
    exact ⟨o, e⟩
  · rintro h1 h2 ⟨f1, o, es, ep, e, r⟩ hk
    exact ⟨f1, o, es, ep, hk o e, r⟩
theorem set_kd (hu : X.A.units + 400 < cLine) : PSet X (rKset X.K X.w) := by
  intro pins s σ H o i v ov iv u Q I ro ri rv h
  obtain ⟨a, b, xs, k, rfl, rfl, kd, nk, hd, hz, q⟩ := h
  obtain rfl : ov = Value.ref a := ro
  obtain rfl : iv = Value.ref b := ri
  obtain ⟨z1, z2⟩ := kd.dict I
  refine wpAny_setItem_heap (knd := nestedKind X.prog X.w) (hsz := hz) (room_kd hu) ⟨nk _ _ _ _ I.kIn I.hok rfl, hd⟩ z2 fun h' hm' hs' => ?_
  obtain ⟨o, es, ep, e1, e2, e3, e4, e5, e6⟩ := hm'
  refine ⟨_, I.write (t' := s.toks + (nestedKind X.prog X.w).draws k) (x := a) (e := a) (o := kdO X.w a (storedH xs k b u)) (by rw [kd.at_]; exact True.intro) (.inl rfl) (fun c w hc hw => (hs'.2 c hc).trans hw) ⟨o, e1⟩ (kd_ok z1 ⟨o, es, ep, e1, e2, e3, e4, e6⟩), q u rv⟩
end
/-! ### the dict and its mirror -/
section
variable {K : PySem.W.Frag} {CA : Tags} {m : Mp} {st : Store} {H : Hp} {w : World} {a : Addr} {kvs : List (T × Val)} {xs : List (NestedKey × Addr × Value)} {d : T} {v : V}
theorem nkV_of (hd : T.hsh 6 d = true) (r : Rep K H (live m st) d v) : NkV K H v (nkOf d) := fun P w h u KX ok rv => nk_is KX ok hd r rv
theorem isTup_ref (h : d.isTup = true) (r : Rep K H (live m st) d v) : ∃ b, v = .ref b := by
  cases d with
  | tup ts => obtain ⟨b, vs, e, _⟩ := r; exact ⟨b, e⟩
  | _ => simp [T.isTup] at h
theorem kdAt_of (h : H a = some (kdO w a xs)) (r : RepKd K m st H kvs xs) : KdAt K w H a xs := by
  refine ⟨h, ?_⟩
  clear h
  induction kvs generalizing xs with
  | nil => rw [show xs = [] from r]; intro x hx; cases hx
  | cons p q ih =>
    obtain ⟨x, l, rfl, ⟨h1, h2, h3, u, h4, h5⟩, h6⟩ := r
    simp only [Bool.and_eq_true] at h2
    intro y hy
    rcases List.mem_cons.mp hy with rfl | hy
    · rw [h1]
      have := nk_depth h2.2
      exact ⟨nkV_of h2.2 h3, by omega⟩
    · exact ih h6 y hy
theorem kd_get (r : RepKd K m st H kvs xs) (hd : T.hsh 6 d = true) : (tget kvs d = none ∧ atKey xs (nkOf d) = none) ∨ ∃ x p, tget kvs d = some x ∧ atKey xs (nkOf d) = some p ∧ ∃ u, RepV K m st H x u ∧ RelV u p.2 := by
  induction kvs generalizing xs with
  | nil => rw [show xs = [] from r]; exact .inl ⟨rfl, rfl⟩
  | cons p q ih =>
    obtain ⟨x, l, rfl, ⟨h1, h2, h3, u, h4, h5⟩, h6⟩ := r
    simp only [Bool.and_eq_true] at h2
    have e := nk_eqv h2.2 hd
    by_cases hb : T.eqv p.1 d = true
    · refine .inr ⟨p.2, x.2, ?_, ?_, u, h4, h5⟩
      · obtain ⟨k, y⟩ := p
        unfold tget
        rw [if_pos hb]
      · have : x.1 = nkOf d := h1.trans (e.mp hb)
        unfold atKey
        simp [List.find?_cons, this]
    · have hn : x.1 ≠ nkOf d := fun z => hb (e.mpr (h1.symm.trans z))
      have t1 : tget (p :: q) d = tget q d := by
        obtain ⟨k, y⟩ := p
        show (if T.eqv k d = true then _ else _) = _
        rw [if_neg hb]
      have t2 : atKey (x :: l) (nkOf d) = atKey l (nkOf d) := by
        unfold atKey
        simp [List.find?_cons, hn]
      rw [t1, t2]
      exact ih h6
theorem kd_map (r : RepKd K m st H kvs xs) (hd : T.hsh 6 d = true) {y : Val} {z : V} {u : Value} (ry : RepV K m st H y z) (rz : RelV z u) : RepKd K m st H (kvs.map fun p => if T.eqv p.1 d then (p.1, y) else p) (xs.map (putAt (nkOf d) u)) := by
  induction kvs generalizing xs with
  | nil => rw [show xs = [] from r]; rfl
  | cons p q ih =>
    obtain ⟨x, l, rfl, ⟨h1, h2, h3, u', h4, h5⟩, h6⟩ := r
    have h2' := h2
    simp only [Bool.and_eq_true] at h2
    have e := nk_eqv h2.2 hd
    refine ⟨_, _, rfl, ?_, ih h6⟩
    by_cases hb : T.eqv p.1 d = true
    · have hx : x.1 = nkOf d := h1.trans (e.mp hb)
      dsimp only
      rw [if_pos hb]
      unfold putAt
      rw [if_pos hx]
      exact ⟨h1, h2', h3, z, ry, rz⟩
    · have hn : x.1 ≠ nkOf d := fun z => hb (e.mpr (h1.symm.trans z))
      dsimp only
      rw [if_neg hb]
      unfold putAt
      rw [if_neg hn]
      exact ⟨h1, h2', h3, u', h4, h5⟩
theorem kd_app (r : RepKd K m st H kvs xs) (hd : (d.isTup && T.hsh 6 d) = true) {b : Addr} (rd : Rep K H (live m st) d (.ref b)) {y : Val} {z : V} {u : Value} (ry : RepV K m st H y z) (rz : RelV z u) : RepKd K m st H (kvs ++ [(d, y)]) (xs ++ [(nkOf d, b, u)]) := by
  induction kvs generalizing xs with
  | nil => rw [show xs = [] from r]; exact ⟨_, [], rfl, ⟨rfl, hd, rd, z, ry, rz⟩, rfl⟩
  | cons p q ih =>
    obtain ⟨x, l, rfl, h1, h6⟩ := r
    exact ⟨x, l ++ [(nkOf d, b, u)], rfl, h1, ih h6⟩
theorem kd_put (r : RepKd K m st H kvs xs) (hd : (d.isTup && T.hsh 6 d) = true) {b : Addr} (rd : Rep K H (live m st) d (.ref b)) {y : Val} {z : V} {u : Value} (ry : RepV K m st H y z) (rz : RelV z u) : RepKd K m st H (tput kvs d y) (storedH xs (nkOf d) b u) := by
  have h2 := hd
  simp only [Bool.and_eq_true] at h2
  unfold tput storedH
  rcases kd_get (d := d) r h2.2 with ⟨e1, e2⟩ | ⟨x, p, e1, e2, _⟩
  · rw [e1, e2]
    exact kd_app r hd rd ry rz
  · rw [e1, e2]
    exact kd_map r h2.2 ry rz
theorem kd_len (r : RepKd K m st H kvs xs) : kvs.length = xs.length := by
  induction kvs generalizing xs with
  | nil => rw [show xs = [] from r]; rfl
  | cons p q ih =>
    obtain ⟨x, l, rfl, _, h6⟩ := r
    simp [ih h6]
theorem tput_len (kvs : List (T × Val)) (d : T) (y : Val) : (tput kvs d y).length ≤ kvs.length + 1 := by
  unfold tput
  split
  · rw [List.length_map]; omega
  · simp
end
section
variable {tb : Tab} {G : FEnv} {CA : Tags} {XR : XRel} {k : Nat} {N : List Str} {sc : Scope} {own : Str → Bool} {X : Cx} {W : WX}
variable {a b c d e : Expr} {pos p p2 p3 : Pos} {f g h : CE}
/-- k in d -/
theorem inK_ok (hw : CA.w = X.w) : CmpOk CA XR X W (rKin X.K X.w) inK := by
  intro σ x y m st H v w Q S rx ry q
  unfold inK at q
  split at q
  · rename_i n kk
    obtain ⟨_, rfl⟩ := ry
    cases e : st.cell n with
    | none => rw [e] at q; exact q.elim
    | some cc =>
      rw [e] at q
      cases cc with
      | kd kvs =>
        dsimp only at q
        split at q
        · rename_i hk
          obtain ⟨xs, hh, zz, rk⟩ := S.cells n _ e
          rw [hw] at hh
          have hk2 := hk
          simp only [Bool.and_eq_true] at hk2
          obtain ⟨b, rfl⟩ := isTup_ref hk2.1 (show Rep _ _ (live m st) kk v from rx)
          have := nk_depth hk2.2
          refine ⟨m n, b, xs, nkOf kk, rfl, rfl, kdAt_of hh rk, nkV_of hk2.2 rx, by omega, _, rfl, ?_⟩
          have q1 := PR.here S q
          rcases kd_get (d := kk) rk hk2.2 with ⟨e1, e2⟩ | ⟨_, _, e1, e2, _⟩
          · rw [e1] at q1; rw [e2]; exact q1
          · rw [e1] at q1; rw [e2]; exact q1
        · exact q.elim
      | _ => exact q.elim
  · exact q.elim
theorem st_inK (C : Cw tb G CA XR k N sc own X W) (ha : SE CA XR X W a f) (hb : SE CA XR X W b g) (hm : behindInMarks .In b = false := by rfl) : STt CA XR X W (.Compare a [.In] [b] pos) (tInK f g) :=
  st_cmp (op_kin C.un) (inK_ok C.glob.pw) ha hb hm
/-- d[k] -/
theorem se_ixK (C : Cw tb G CA XR k N sc own X W) (ha : SE CA XR X W a f) (hb : SE CA XR X W b g) (hs : PlainIx b := by intro _ _; rfl) : SE CA XR X W (.Subscript a b pos) (eIxK f g) := by
  refine PE.weak (pe_ix (ix_kd C.un) ha hb hs) fun σ H Q q => two (fun x y m st H v w Q S rx ry q => ?_) q
  unfold ixK at q
  split at q
  · rename_i n kk
    obtain ⟨_, rfl⟩ := rx
    cases e : st.cell n with
    | none => rw [e] at q; exact q.elim
    | some cc =>
      rw [e] at q
      cases cc with
      | kd kvs =>
        dsimp only at q
        split at q
        · rename_i hk
          obtain ⟨xs, hh, zz, rk⟩ := S.cells n _ e
          rw [C.glob.pw] at hh
          have hk2 := hk
          simp only [Bool.and_eq_true] at hk2
          obtain ⟨b, rfl⟩ := isTup_ref hk2.1 (show Rep _ _ (live m st) kk w from ry)
          have := nk_depth hk2.2
          rcases kd_get (d := kk) rk hk2.2 with ⟨e1, e2⟩ | ⟨x, p, e1, e2, u, r1, r2⟩
          · rw [e1] at q; exact q.elim
          · rw [e1] at q
            exact ⟨m n, b, xs, nkOf kk, p, u, rfl, rfl, kdAt_of hh rk, nkV_of hk2.2 ry, by omega, e2, r2, PR.here S q u r1⟩
        · exact q.elim
      | _ => exact q.elim
  · exact q.elim
/-- d[k] = v -/
theorem setK_ok {σ : L2.St} {m : Mp} {st : Store} {H : Hp} {x y z : Val} {vx vy vz : V} {Q : Hp → Prop} {ok : Unit → Mp → Store → Hp → Prop} (hw : CA.w = X.w) (S : SR X.K CA m st H) (rx : RepV X.K m st H x vx) (ry : RepV X.K m st H y vy) (rz : RepV X.K m st H z vz)
    (q : PR X.K CA XR W σ (setK x y z st) m st H ok) (hQ : ∀ m' st' H', ok () m' st' H' → Q H') : rKset X.K X.w vx vy vz H Q := by
  unfold setK at q
  split at q
  · rename_i n kk
    obtain ⟨_, rfl⟩ := rx
    cases e : st.cell n with
    | none => rw [e] at q; exact q.elim
    | some cc =>
      rw [e] at q
      cases cc with
      | kd kvs =>
        dsimp only at q
        split at q
        · rename_i hk0
          obtain ⟨hk, hl⟩ := Bool.and_eq_true_iff.mp hk0
          have hl := of_decide_eq_true hl
          obtain ⟨xs, hh, zz, rk⟩ := S.cells n _ e
          rw [hw] at hh
          have hk2 := hk
          simp only [Bool.and_eq_true] at hk2
          obtain ⟨b, rfl⟩ := isTup_ref hk2.1 (show Rep _ _ (live m st) kk vy from ry)
          have := nk_depth hk2.2
          refine ⟨m n, b, xs, nkOf kk, rfl, rfl, kdAt_of hh rk, nkV_of hk2.2 ry, by omega, by rw [← kd_len rk, sizeLine_eq]; exact Nat.le_of_lt hl, fun u ru => ?_⟩
          have T := S.setStep (o := kdO X.w (m n) (storedH xs (nkOf kk) b u)) (c' := .kd (tput kvs kk z)) e
          refine hQ _ _ _ (q m _ (S.setCell e ⟨storedH xs (nkOf kk) b u, by rw [hw]; exact upd_same, ?_, RepKd.mono T _ _ (kd_put rk hk ry rz ru)⟩) T)
          have := tput_len kvs kk z
          omega
        · exact q.elim
      | _ => exact q.elim
  · exact q.elim
theorem ss_subK (C : Cw tb G CA XR k N sc own X W) (he : SE CA XR X W e f) (ho : SE CA XR X W a g) (hi : SE CA XR X W b h) (hs : swapsWithSole [.Subscript a b p] e pos.line X.env = pure false := by rfl)
    (hw : swappedStores [.Subscript a b p] e X.env = pure none := by rfl) (h1 : (assignEach [.Subscript a b p] X.env).map (·.2) = [assign (.Subscript a b p) X.env] := by rfl)
    (ha : ∀ v, assign (.Subscript a b p) X.env v = (do
      let ov ← holding [v] (eval a X.env)
      let iv ← holding [v, ov] (eval b X.env)
      standAt p
      holding [v, ov, iv] (setItem ov iv v)
      release [v, ov, iv] []) := by intro _; rfl) : S1 CA XR X W (.Assign [.Subscript a b p] e pos) (sSubK f g h) := by
  refine PS.weak (ps_asg he (pg_sub ho hi (set_kd C.un) ha) hs hw h1) fun D σ H ⟨m, st, ρ, S, E, q⟩ => ?_
  refine ⟨m, st, ρ, S, E, (PO.expr E q).mono fun x m1 st1 H1 S1 T1 h1 v rv => ?_⟩
  refine ⟨m1, st1, ρ, S1, E.mono T1, (PO.expr (E.mono T1) h1).mono fun y m2 st2 H2 S2 T2 h2 o ro => ?_⟩
  refine ⟨m2, st2, ρ, S2, (E.mono T1).mono T2, (PO.expr ((E.mono T1).mono T2) h2).mono fun z m3 st3 H3 S3 T3 h3 i ri => ?_⟩
  have E3 := ((E.mono T1).mono T2).mono T3
  exact setK_ok (W := W) (σ := σ) C.glob.pw S3 (RepV.mono T3 _ _ ro) ri (RepV.mono (T2.trans T3) _ _ rv) ((PO.expr E3 h3).mono fun _ m4 st4 H4 S4 T4 h4 => show D.nx σ H4 from h4 m4 H4 σ S4 Step.refl (E3.mono T4)) fun _ _ _ z => z
/-- {} -/
theorem kd_new {P : Program} {w : World} {H : Hp} (h : Heap) (hb : sysModules < h.objs.size) : ObjOk P w H (h.push { cls := .type "dict", data := .dict #[] }) h.objs.size (kdO w h.objs.size []) :=
  kd_ok (beq_eq_false_iff_ne.mpr (Ne.symm (Nat.ne_of_lt hb))) ⟨_, #[], 0, Heap.get?_push_size _ rfl, ⟨rfl, rfl, rfl⟩, rfl, rfl, List.nodup_nil⟩
theorem se_kd (C : Cw tb G CA XR k N sc own X W) : SE CA XR X W (.Dict [] [] pos) eKd := by
  refine ⟨fun pins s σ H Q I ⟨m, st, ρ, S, E, q⟩ => ?_⟩
  have hn : H s.heap.objs.size = none := I.hok.fresh (Nat.le_refl _)
  refine wpAny_Dict_empty ⟨.ref s.heap.objs.size, _, I.laid (a := s.heap.objs.size) (o := kdO X.w s.heap.objs.size []) (t' := s.toks) (fun _ _ q => Heap.get?_push_of_some _ q) (Nat.le_refl _) (kd_new s.heap I.big), rfl, ?_⟩
  have S2 := S.newCell (o := kdO X.w s.heap.objs.size []) hn (c := .kd []) ⟨[], by rw [C.glob.pw]; exact upd_same, Nat.zero_le _, rfl⟩
  refine q _ _ S2 (S.cellStep hn (.kd [])) _ ⟨by simp, ?_⟩
  rw [mNew_same]
end
end Fl
set_option Elab.async false
set_option linter.all false
set_option maxRecDepth 100000
set_option maxHeartbeats 4000000
/-! Fl over the layer: dict displays, methods of dicts. -/
namespace Fl
open PySem PySem.Spec L2
section
variable {K : PySem.W.Frag} {CA : Tags} {XR : XRel} {W : WX} {σ : L2.St} {m : Mp} {st : Store} {H : Hp} {Q : VK} {cell : Bool}
theorem RepVK.of_trees : ∀ {ws : List (Key × Val)} {ts : List (Key × T)} {vs : List (L2.Key × V)}, treesK ws = some ts → RepVK K m st H ws vs → RepK K H (live m st) ts vs
  | [], ts, vs, h, r => by simp only [treesK, Option.some.injEq] at h; subst h; exact r
  | (kk, .t d) :: q, ts, vs, h, ⟨v, vr, e, r1, r2⟩ => by
    simp only [treesK] at h
    cases e2 : treesK q with
    | none => rw [e2] at h; cases h
    | some tq =>
      rw [e2] at h
      simp only [Option.some.injEq] at h
      subst h
      exact ⟨v, vr, e, ⟨r1.1, r1.2⟩, RepVK.of_trees e2 r2⟩
  | (_, .loc n) :: q, ts, vs, h, r => by simp [treesK] at h
  | (_, .scr n) :: q, ts, vs, h, r => by simp [treesK] at h
  | (_, .ex n) :: q, ts, vs, h, r => by simp [treesK] at h
theorem treesK_len : ∀ {ws : List (Key × Val)} {ts : List (Key × T)}, treesK ws = some ts → ts.length = ws.length
  | [], ts, h => by simp only [treesK, Option.some.injEq] at h; subst h; rfl
  | (kk, .t d) :: q, ts, h => by
    simp only [treesK] at h
    cases e2 : treesK q with
    | none => rw [e2] at h; cases h
    | some tq =>
      rw [e2] at h
      simp only [Option.some.injEq] at h
      subst h
      rw [List.length_cons, List.length_cons, treesK_len e2]
  | (_, .loc n) :: q, ts, h => by simp [treesK] at h
  | (_, .scr n) :: q, ts, h => by simp [treesK] at h
  | (_, .ex n) :: q, ts, h => by simp [treesK] at h
end
section
variable {tb : Tab} {G : FEnv} {CA : Tags} {XR : XRel} {k : Nat} {N : List Str} {sc : Scope} {own : Str → Bool} {X : Cx} {W : WX}
variable {a b c d e : Expr} {es : List Expr} {pos pos' apos cpos p p2 p3 : Pos} {f g h : CE} {t u : CT} {keys : List (Option Expr)} {values : List Expr} {fs : List (CE × CE)}
end
end Fl
set_option Elab.async false
set_option linter.all false
set_option maxRecDepth 100000
set_option maxHeartbeats 4000000
/-! Fl over the layer: the head's facts, the law's end. -/
namespace Fl
open PySem PySem.Spec L2
/-! ### the facts that a head tells -/
def asS (g : Addr → Option Obj) (n : Nat) : List Addr := He.asD g n ++ [cStatics]
def hkF (n : Nat) (fa : List He.Fa) (fn : List He.DefD) (ex : PySem.W.Frag → Bool) : PySem.W.Hook where
  α := He.AlD × Bool
  obs := fun s => (He.obsD fa fn (He.frG s.heap.get? (asS s.heap.get? n)), ex (He.frG s.heap.get? (asS s.heap.get? n)))
  val := fun _ => (He.valD fn, true)
  says := fun _ h => ∃ K : PySem.W.Frag, K.In h ∧ He.SaysD fa fn K ∧ ex K = true
  of := fun _ _ e => ⟨_, He.frG_in, congrArg (fun z : He.AlD × Bool => z.1) e, congrArg (fun z : He.AlD × Bool => z.2) e⟩
  keeps := fun _ _ _ ⟨K, hK, c⟩ k => ⟨K, PySem.W.Frag.In.keeps hK k, c⟩
def obF (n : Nat) (fa : List He.Fa) (fn : List He.DefD) (ex : PySem.W.Frag → Bool) (s : PySem.W.SharedT) : He.AlD × Bool := (He.obsD fa fn (He.frG (HandSHeadRun.getT s) (asS (HandSHeadRun.getT s) n)), ex (He.frG (HandSHeadRun.getT s) (asS (HandSHeadRun.getT s) n)))
theorem obF_eq (n : Nat) (fa : List He.Fa) (fn : List He.DefD) (ex : PySem.W.Frag → Bool) (s : PySem.W.SharedT) : obF n fa fn ex s = (hkF n fa fn ex).obs s.abs := by
  have e : HandSHeadRun.getT s = s.abs.heap.get? := funext (HandSHeadRun.getT_eq s)
  unfold obF
  rw [e]
  rfl
/-- the classes and exceptions of the text, by their names -/
def CAof (K : PySem.W.Frag) (w : World) (ts : List String) : Tags := ⟨fun t C => t ∈ ts ∧ C = He.ga K (Str.ofString t), w⟩
def XRof (K : PySem.W.Frag) (ts os : List String) : XRel := fun x cls d H => (x.at_ = none ∧ d = none ∧ x.cls ∈ ts ∧ cls = .ref (He.ga K (Str.ofString x.cls))) ∨
  ∃ (i : Int) (dd : Addr), x.at_ = some (.int i) ∧ d = some dd ∧ x.cls ∈ os ∧ cls = .ref (He.ga K (Str.ofString x.cls)) ∧ H dd = some (.xd [(("at" : Str), V.int i)])
def excCB (K : PySem.W.Frag) (D : Addr) : Bool :=
  decide (PySem.W.findIn K (.ref D) "__getattribute__" = some (some (.builtin "BaseException.__getattribute__"))) && (decide (PySem.W.findIn K (.ref D) "__getattr__" = some none) && (decide (PySem.W.subIn K (.ref D) (.type "BaseException") = some true) &&
  (PySem.W.hasDictIn K D && (decide (PySem.W.findIn K (.ref D) "__class__" = some (some (.builtin "object.__class__"))) && (decide (PySem.W.specialIn K (.builtin "object.__class__") "__get__" = some (some (.builtin "getset_descriptor.__get__"))) &&
  (decide (PySem.W.takesIn K (.builtin "object.__class__") = some true) && decide (PySem.W.mroIn K D (.type "object") = some true)))))))
theorem excCB_ok {K : PySem.W.Frag} {D : Addr} (h : excCB K D = true) : ExcC K D := by
  unfold excCB at h
  simp only [Bool.and_eq_true, decide_eq_true_eq] at h
  obtain ⟨h1, h2, h3, h4, h5, h6, h7, h8⟩ := h
  exact ⟨h1, h2, h3, h4, h5, h6, h7, h8⟩
/-- a name: a class of the text, or a built-in one -/
def uvOf (K : PySem.W.Frag) (ts : List String) (t : String) : Value := if ts.contains t then .ref (He.ga K (Str.ofString t)) else .type t
/-- an exception class that keeps a number as at: what pmk_oex asks -/
def oexB (K : PySem.W.Frag) (C : Addr) : Bool := match K.lookup C with
  | some ⟨.type "type", _, .cls cd, sl⟩ => (match cd.mro, sl.toList with
    | .ref C' :: bm, [_, _, _, _, some (.builtin n), _] => C' == C && n == "ValueError.__new__" && !cd.hasDel && cd.hasDict && PySem.HandSPX.refsVE bm
    | _, _ => false)
  | _ => false
def oexB2 (K : PySem.W.Frag) (C : Addr) : Bool := decide (PySem.W.findIn K (.ref C) "__setattr__" = some (some (.builtin "object.__setattr__"))) && (decide (PySem.W.subIn K (.ref C) (.type "BaseException") = some true) && (decide (PySem.W.typeIn K (.ref C) = some (.type "type")) &&
  (PySem.W.keepIn K (.ref C) && (decide (PySem.W.findIn K (.ref C) "__init__" = some (some (.ref (He.ma K C "__init__")))) && (decide (PySem.W.typeIn K (.ref (He.ma K C "__init__")) = some (.type "function")) &&
  (xfB K C && (decide (PySem.W.findIn K (.ref C) "at" = some none) && excCB K C)))))))
theorem oex_ok {K : PySem.W.Frag} {C : Addr} (h1 : oexB K C = true) (h2 : oexB2 K C = true) : OexC K C ∧ PySem.W.findIn K (.ref C) "__init__" = some (some (.ref (He.ma K C "__init__"))) ∧ PySem.W.typeIn K (.ref (He.ma K C "__init__")) = some (.type "function") ∧ XfC K C ∧ PySem.W.findIn K (.ref C) "at" = some none ∧ ExcC K C := by
  unfold oexB2 at h2
  simp only [Bool.and_eq_true, decide_eq_true_eq] at h2
  obtain ⟨z1, z2, z3, z4, z5, z6, z7, z8, z9⟩ := h2
  refine ⟨⟨?_, z1, z2, z3, z4⟩, z5, z6, xfB_ok z7, z8, excCB_ok z9⟩
  unfold oexB at h1
  split at h1
  · rename_i dd cd sl ho
    split at h1
    · rename_i C' bm k0 k1 k2 k3 n k5 hm hs
      simp only [Bool.and_eq_true, beq_iff_eq, Bool.not_eq_true'] at h1
      obtain ⟨⟨⟨⟨rfl, rfl⟩, hdel⟩, hdi⟩, ht⟩ := h1
      obtain ⟨nm, bs, mro, ns, qn, hd, sn, sub, ab, col, del⟩ := cd
      dsimp only at hm hdel hdi
      subst hm hdel hdi
      have hsl : sl = #[k0, k1, k2, k3, some (.builtin "ValueError.__new__"), k5] := by
        obtain ⟨l⟩ := sl
        simp only at hs
        rw [hs]
      subst hsl
      exact ⟨nm, qn, ns, bs, bm, sn, sub, ab, col, dd, k0, k1, k2, k3, k5, ho, ht⟩
    · cases h1
  · cases h1
/-- FlatError.__init__ can be read -/
def feB (K : PySem.W.Frag) (C : Addr) : Bool := decide (PySem.W.specialIn K (.ref C) "__getattribute__" = some (some (.builtin "type.__getattribute__"))) && (PySem.W.readsIn K C (.type "type") &&
  match PySem.W.findCls K (.ref C) (.type "type") "__init__" with
  | some (.val v) => decide (v = .builtin "ValueError.__init__")
  | _ => false)
structure FeC (K : PySem.W.Frag) (C : Addr) : Prop where
  ga : PySem.W.specialIn K (.ref C) "__getattribute__" = some (some (.builtin "type.__getattribute__"))
  rd : PySem.W.readsIn K C (.type "type") = true
  at_ : PySem.W.findCls K (.ref C) (.type "type") "__init__" = some (.val (.builtin "ValueError.__init__"))
theorem feB_ok {K : PySem.W.Frag} {C : Addr} (h : feB K C = true) : FeC K C := by
  unfold feB at h
  simp only [Bool.and_eq_true, decide_eq_true_eq] at h
  obtain ⟨h1, h2, h3⟩ := h
  refine ⟨h1, h2, ?_⟩
  split at h3
  · rename_i v e
    rw [e, of_decide_eq_true h3]
  · cases h3
def exB (ts0 os : List String) (is ms : List (Str × String)) (K : PySem.W.Frag) : Bool :=
  let ts := ts0 ++ os
  ((ts0.all fun t => (He.Fa.exc (Str.ofString t)).ok K && excCB K (He.ga K (Str.ofString t))) && ((os.all fun t => oexB K (He.ga K (Str.ofString t)) && oexB2 K (He.ga K (Str.ofString t))) && (os.isEmpty || feB K (He.ga K "FlatError")))) && ((is.all fun p => ts.all fun y => decide (PySem.W.kitOne K (.ref (He.ga K (Str.ofString y))) (uvOf K ts p.2) = some (excSub y p.2))) &&
    ms.all fun p => ts.all fun y => decide (PySem.W.exmOne K (.ref (He.ga K (Str.ofString y))) (uvOf K ts p.2) = some (excSub y p.2)))
/-- a constant of the module; a tuple's items -/
def litB : T → Value → Bool
  | .int i, .int j _ => decide (i = j)
  | .str z, .str y _ => decide (y = Str.ofString z)
  | _, _ => false
def litsB : List T → List Value → Bool
  | [], [] => true
  | d :: r, u :: q => litB d u && litsB r q
  | _, _ => false
def litV : T → V
  | .int i => .int i
  | .str z => .str (Str.ofString z)
  | _ => .non
def tupB (ts : List T) : Option Obj → Bool
  | some o => decide (o.cls = .type "tuple") && (match o.data with
    | .seq its _ => litsB ts its.toList && decide (ts.length ≤ 1000)
    | _ => false)
  | none => false
theorem lit_ok {K : PySem.W.Frag} {H : Hp} {lv : Addr → Prop} : ∀ {d : T} {u : Value}, litB d u = true → RelV (litV d) u ∧ Rep K H lv d (litV d) := by
  intro d u h
  cases d <;> cases u <;> simp only [litB, decide_eq_true_eq, Bool.false_eq_true] at h
  · subst h; exact ⟨⟨_, rfl⟩, rfl⟩
  · subst h; exact ⟨⟨_, rfl⟩, rfl⟩
theorem lits_ok {K : PySem.W.Frag} {H : Hp} {lv : Addr → Prop} : ∀ {ts : List T} {us : List Value}, litsB ts us = true → Vals (ts.map litV) us ∧ Reps K H lv ts (ts.map litV) ∧ us.length = ts.length
  | [], [], _ => ⟨.nil, rfl, rfl⟩
  | d :: r, u :: q, h => by
    obtain ⟨h1, h2⟩ := Bool.and_eq_true_iff.mp h
    obtain ⟨a, b⟩ := lit_ok (K := K) (H := H) (lv := lv) h1
    obtain ⟨c, d', e⟩ := lits_ok (K := K) (H := H) (lv := lv) h2
    exact ⟨.cons a c, ⟨_, _, rfl, b, d'⟩, by rw [List.length_cons, List.length_cons, e]⟩
  | [], _ :: _, h => by cases h
  | _ :: _, [], h => by cases h
def constB (K : PySem.W.Frag) (x : Str) : T → Bool
  | .int i => (He.Fa.int x i).ok K
  | .str z => (He.Fa.str x (Str.ofString z)).ok K
  | .tup ts => (He.Fa.glo x).ok K && tupB ts (K.lookup (He.ga K x))
  | _ => false
theorem const_ok {K : PySem.W.Frag} {h : Heap} {mg : Str → Option Value} (X : K.In h) (G : h.Ns mainGlobals mg) {x : Str} {d : T} (c : constB K x d = true) : ∃ u v, mg x = some u ∧ RelV v u ∧ ∀ (H : Hp) lv, Rep K H lv d v := by
  cases d with
  | int i =>
    obtain ⟨t, e⟩ := He.int_ok X G (show (He.Fa.int x i).ok K = true from c)
    exact ⟨_, .int i, e, ⟨t, rfl⟩, fun _ _ => rfl⟩
  | str z =>
    obtain ⟨t, e⟩ := He.str_ok X G (show (He.Fa.str x (Str.ofString z)).ok K = true from c)
    exact ⟨_, .str (Str.ofString z), e, ⟨t, rfl⟩, fun _ _ => rfl⟩
  | tup ts =>
    obtain ⟨c1, c3⟩ := Bool.and_eq_true_iff.mp (show ((He.Fa.glo x).ok K && tupB ts (K.lookup (He.ga K x))) = true from c)
    refine ⟨_, .ref (He.ga K x), He.glo_ok X G c1, rfl, fun H lv => ?_⟩
    cases e : K.lookup (He.ga K x) with
    | none => rw [e] at c3; cases c3
    | some o =>
      rw [e] at c3
      obtain ⟨z1, z2⟩ := Bool.and_eq_true_iff.mp c3
      have z1 : o.cls = .type "tuple" := of_decide_eq_true z1
      cases ed : o.data with
      | seq its n =>
        rw [ed] at z2
        obtain ⟨z3, z4⟩ := Bool.and_eq_true_iff.mp z2
        have z4 : ts.length ≤ 1000 := of_decide_eq_true z4
        obtain ⟨y1, y2, y3⟩ := lits_ok (K := K) (H := H) (lv := lv) z3
        refine ⟨He.ga K x, ts.map litV, rfl, .inr fun H1 => .inr ⟨o, its, n, e, z1, ed, ?_, (lits_ok (K := K) (H := H) (lv := lv) z3).1⟩, by show _ ≤ 16777216; omega, y2⟩
        rw [← Array.length_toList, y3, sizeLine_eq]; omega
      | _ => rw [ed] at z2; cases z2
  | _ => cases c
/-! ### the defs of a text -/
structure FD where
  d : He.DefD
  ps : List Str
  N : List Str
  sm : FEnv → SM
  /-- an __init__: it calls nothing of the text -/
  ini : Bool
/-- the defs' mirrors; n calls deep -/
def Gam (fds : List (Nat × FD)) : Nat → FEnv
  | 0 => fun _ _ => bad
  | n + 1 => fun i => match fds.lookup i with
    | some fd => if (fd.ini && n == 0) = true then fun _ => bad else mkFn fd.N.length fd.ps.length (fd.sm (Gam fds n))
    | none => fun _ => bad
theorem Gam_succ {fds : List (Nat × FD)} {i n : Nat} {fd : FD} (e : fds.lookup i = some fd) (h : fd.ini = false) : Gam fds (n + 1) i = mkFn fd.N.length fd.ps.length (fd.sm (Gam fds n)) := by
  show (match fds.lookup i with
    | some fd => if (fd.ini && n == 0) = true then fun _ => bad else mkFn fd.N.length fd.ps.length (fd.sm (Gam fds n))
    | none => fun _ => bad) = _
  rw [e]
  dsimp only
  rw [h]
  rfl
theorem Gam_ini1 {fds : List (Nat × FD)} {i : Nat} {fd : FD} (e : fds.lookup i = some fd) (h : fd.ini = true) (as : List Val) (s : Store) : Gam fds 1 i as s = .bad := by
  show (match fds.lookup i with
    | some fd => if (fd.ini && 0 == 0) = true then fun _ => bad else mkFn fd.N.length fd.ps.length (fd.sm (Gam fds 0))
    | none => fun _ => bad) as s = _
  rw [e]
  dsimp only
  rw [h]
  rfl
theorem Gam_ini2 {fds : List (Nat × FD)} {i n : Nat} {fd : FD} (e : fds.lookup i = some fd) : Gam fds (n + 2) i = mkFn fd.N.length fd.ps.length (fd.sm (Gam fds (n + 1))) := by
  show (match fds.lookup i with
    | some fd => if (fd.ini && (n + 1) == 0) = true then fun _ => bad else mkFn fd.N.length fd.ps.length (fd.sm (Gam fds (n + 1)))
    | none => fun _ => bad) = _
  rw [e]
  dsimp only
  have : (n + 1 == 0) = false := by simp
  rw [this, Bool.and_false]
  rfl
structure FDok (T : Tab) (fd : FD) : Prop where
  scope : FnScope fd.N fd.ps fd.d.scope
  dfl : fd.d.dfl = []
  kwd : fd.d.kwd = []
  bind : ∀ (kV doc pm : Value) (an : Option Addr) (cdv ct : Value) (us : List Value), us.length = fd.ps.length → bindArgs (PySem.W.fnOf fd.d.name fd.d.qual fd.d.params fd.d.body fd.d.scope .none kV doc pm an cdv ct) ⟨us, []⟩ = pure (fd.ps.zip us)
  body : ∀ (G : FEnv) (CA : Tags) (XR : XRel) (k : Nat) (X : Cx) (W : WX), Cs T G CA XR k fd.N fd.d.scope X W → SS CA XR X W fd.d.body (fd.sm G)
section
variable {X : Cx} {e : Expr} {es : List Expr} {ta : TA} {pos p1 p2 p3 p4 p5 p6 p7 pos' pos2 : Pos} {CF : Addr}
/-- FlatError.__init__(self, ..): nothing of it is told -/
theorem pe_feinit {pl : Sem Bool} (hg : Gl X "FlatError") (hm : X.mg "FlatError" = some (.ref CF)) (T : FeC X.K CF) (ha : PA X (e :: es) ta)
    (hc : eval (.Call (.Attribute (.Name "FlatError" p1) "__init__" p2) (e :: es) [] pos) X.env = (do
      let ov ← eval (.Name "FlatError" p1) X.env
      standAt p2.atName
      let (f, first) ← holding [ov] (getMethod ov "__init__" pl)
      callWith pos f first (backTo pos (starEach (e :: es) X.env)) (backToKw pos (keywordEach [] X.env))) := by rfl)
    (he : starEach (e :: es) X.env = (false, eval e X.env) :: starEach es X.env := by rfl) (hpl : (backTo pos (starEach es X.env)).any (·.1) = false := by rfl) :
    PE X (.Call (.Attribute (.Name "FlatError" p1) "__init__" p2) (e :: es) [] pos) (tVeI X.K ta) := by
  refine ⟨fun pins s σ H Q I h => ?_⟩
  refine PySem.W.methodCall_KW (ld_glob I hg hm ?_ (by decide)) hc
  refine PySem.W.method_cls I.kIn T.ga (PySem.W.cls_value I.kIn T.rd T.at_ (by decide +kernel) ?_)
  show wpAny _ _ (callWith pos (Value.builtin "ValueError.__init__") [] (backTo pos (starEach (e :: es) X.env)) []) _ _ _
  refine PyProof.Rows.callWith_method1 (thn (ha.run pos pins _ σ H _ (I.tok _) h) fun us s1 ⟨vs, H1, I1, r1, a, C, ws, ev, hl, T, ea, q⟩ => ?_) he hpl
  subst ev
  cases r1 with
  | @cons _ u0 _ ur ra rw' =>
    obtain rfl : u0 = Value.ref a := ra
    have hlen : ur.length ≤ sizeLine := by
      rw [← Paired.length rw', sizeLine_eq]
      omega
    exact oinit_ok T I1 ea hlen fun s' J => ⟨.non, H1, J, rfl, q⟩
/-- such an __init__ -/
def OxBody (fd : FD) : Prop := ∀ (X : Cx) (C CF : Addr) (a : Addr) (i : Int) (H : Hp) (Q : VK), X.N = fd.N → X.env.scope = fd.d.scope → X.mg "FlatError" = some (.ref CF) → OexC X.K C → PySem.W.findIn X.K (.ref C) "at" = some none → FeC X.K CF →
  H a = some (exo a C none) → (∀ dx, H dx = none → dx ≠ a → Q .non (upd (upd H dx (exd dx [(("at" : Str), V.int i)])) a (exo a C (some dx)))) →
  ∃ t, PSs X fd.d.body t ∧ t { nx := fun _ H' => Q .non H', rt := Q } (L2.start fd.N [.ref a, .int i]) H
theorem ox_body {sc : Scope} {ss : Str} {j : Nat} {X : Cx} {C CF : Addr} {a : Addr} {i : Int} {H : Hp} {Q : VK}
    (hc : ∃ pl, eval (.Call (.Attribute (.Name "FlatError" p1) "__init__" p2) [.Name "self" p3, .Constant (.str ss) j p4] [] pos) X.env = (do
      let ov ← eval (.Name "FlatError" p1) X.env
      standAt p2.atName
      let (f, first) ← holding [ov] (getMethod ov "__init__" pl)
      callWith pos f first (backTo pos (starEach [.Name "self" p3, .Constant (.str ss) j p4] X.env)) (backToKw pos (keywordEach [] X.env))))
    (hs1 : swapsWith (.Call (.Attribute (.Name "FlatError" p1) "__init__" p2) [.Name "self" p3, .Constant (.str ss) j p4] [] pos) none pos'.line X.env = pure false)
    (hs2 : swapsWith (.Name "at" p7) (some (.Attribute (.Name "self" p5) "at" p6)) pos2.line X.env = pure false)
    (hN : X.N = [("self" : Str), ("at" : Str)]) (hs : X.env.scope = sc) (h1 : visB sc "self" = true) (h2 : visB sc "at" = true) (h3 : glbB sc "FlatError" = true)
    (hm : X.mg "FlatError" = some (.ref CF)) (T : OexC X.K C) (hno : PySem.W.findIn X.K (.ref C) "at" = some none) (F : FeC X.K CF) (ea : H a = some (exo a C none)) (q : ∀ dx, H dx = none → dx ≠ a → Q .non (upd (upd H dx (exd dx [(("at" : Str), V.int i)])) a (exo a C (some dx)))) :
    ∃ t, PSs X [.Expr (.Call (.Attribute (.Name "FlatError" p1) "__init__" p2) [.Name "self" p3, .Constant (.str ss) j p4] [] pos) pos', .Assign [.Attribute (.Name "self" p5) "at" p6] (.Name "at" p7) pos2] t ∧
      t { nx := fun _ H' => Q .non H', rt := Q } (L2.start [("self" : Str), ("at" : Str)] [.ref a, .int i]) H := by
  unfold visB at h1 h2
  simp only [Bool.and_eq_true, Bool.not_eq_true'] at h1 h2
  have v1 : ∀ {p : Pos}, PE X (.Name "self" p) (tVar 0) := pe_var (i := 0) (by rw [hN]; rfl) (by rw [hs]; exact look_vis h1.1.1) h1.1.2 h1.2
  have v2 : ∀ {p : Pos}, PE X (.Name "at" p) (tVar 1) := pe_var (i := 1) (by rw [hN]; rfl) (by rw [hs]; exact look_vis h2.1.1) h2.1.2 h2.2
  have hg : Gl X "FlatError" := by
    unfold glbB at h3
    simp only [Bool.and_eq_true, decide_eq_true_eq] at h3
    show X.env.scope.names.lookup ("FlatError" : Str) = _
    rw [hs]; exact h3.1.1
  obtain ⟨pl, hc⟩ := hc
  refine ⟨_, pss_cons (ps_expr (pe_feinit hg hm F (pa_cons v1 (pa_cons pe_str pa_nil rfl) rfl) hc) hs1) (pss_one (ps_ost v1 v2 hs2)), ?_⟩
  refine ⟨_, rfl, a, C, [.str ss], rfl, (by show 1 ≤ 1000; decide), T, ea, ?_⟩
  refine ⟨_, rfl, _, rfl, a, C, rfl, T, hno, .inl ⟨ea, fun dx hd hne => q dx hd hne⟩⟩
end
theorem ox_ok {fd : FD} (hb : OxBody fd) (h2 : fd.ps.length = 2) (S : FnScope fd.N fd.ps fd.d.scope) {P : Program} {w : World} {K : PySem.W.Frag} {mg : Str → Option Value} {base : Heap} {C CF f : Addr} {fu : FuncData} {dvs : List V} {kws : List (Str × V)}
    (F : FunD K fd.d.name fd.d.qual fd.d.params fd.d.body fd.d.scope dvs kws f fu) (hm : mg "FlatError" = some (.ref CF)) (T : OexC K C) (hno : PySem.W.findIn K (.ref C) "at" = some none) (E : FeC K CF) : L2.FnOk P w K mg base L2.CX0 1 f fu fd.ps (spAt C) := by
  refine F.ok (k := 0) (N := fd.N) S (fun vs H Q E z => by obtain ⟨a, i, rfl, _⟩ := z; rw [h2]; rfl) fun cdv A outer s H vs Q E' _ z => ?_
  obtain ⟨a, i, rfl, ea, q⟩ := z
  exact hb _ C CF a i H Q rfl rfl hm T hno E ea q
def fnsB (T : Tab) (fds : List (Nat × FD)) : Bool := T.fns.all fun e => match fds.lookup e.2.1 with
  | some fd => (decide (fd.d.at_ = (e.1, none)) && fd.ps.length == e.2.2) && !fd.ini
  | none => false
def faB : He.Fa → He.Fa → Bool
  | .glo x, .glo y => decide (x = y)
  | .cls x, .cls y => decide (x = y)
  | .mkr x, .mkr y => decide (x = y)
  | .meth x m, .meth y n => decide (x = y) && decide (m = n)
  | .noat x m, .noat y n => decide (x = y) && decide (m = n)
  | _, _ => false
theorem faB_eq : ∀ {a b : He.Fa}, faB a b = true → a = b := by
  intro a b h
  cases a <;> cases b <;> simp only [faB, Bool.and_eq_true, decide_eq_true_eq, Bool.false_eq_true] at h
  all_goals first
    | (subst h; rfl)
    | (obtain ⟨rfl, rfl⟩ := h; rfl)
/-- a fact is among the head's -/
def hasB (fa : List He.Fa) (f : He.Fa) : Bool := fa.any fun g => faB g f
abbrev Tab.os (T : Tab) : List String := T.oxs.map fun e => e.2
abbrev Tab.tags (T : Tab) : List String := T.cls.map fun e => e.2.1
def clsB (T : Tab) (fds : List (Nat × FD)) (fa : List He.Fa) : Bool := T.cls.all fun e => (decide (e.1 = Str.ofString e.2.1) && (hasB fa (.glo e.1) && (hasB fa (.cls e.1) && hasB fa (.mkr e.1)))) && match fds.lookup e.2.2.1 with
  | some fd => (decide (fd.d.at_ = (e.1, some ("__init__" : Str))) && fd.ps.length == e.2.2.2) && fd.ini
  | none => false
def mtsB (T : Tab) (fds : List (Nat × FD)) (fa : List He.Fa) : Bool := T.mts.all fun e => (T.tags.contains e.1 && (hasB fa (.cls (Str.ofString e.1)) && hasB fa (.meth (Str.ofString e.1) e.2.1))) && match fds.lookup e.2.2.1 with
  | some fd => (decide (fd.d.at_ = (Str.ofString e.1, some e.2.1)) && fd.ps.length == e.2.2.2) && !fd.ini
  | none => false
def atsB (T : Tab) (fa : List He.Fa) : Bool := T.ats.all fun e => decide (e.1 = Str.ofString e.2) && T.tags.all fun t => hasB fa (.cls (Str.ofString t)) && hasB fa (.noat (Str.ofString t) e.1)
theorem fa_has {fa : List He.Fa} {fn : List He.DefD} {K : PySem.W.Frag} {f : He.Fa} (c : He.SaysD fa fn K) (q : hasB fa f = true) : f.ok K = true := by
  obtain ⟨g, hg, e⟩ := List.any_eq_true.mp q
  obtain ⟨i, hi⟩ := List.mem_iff_getElem?.mp hg
  have e : g = f := faB_eq e
  subst e
  exact c.fact i hi
/-- a text -/
structure TabOk (T : Tab) (fds : List (Nat × FD)) (fa : List He.Fa) (ts : List String) : Prop where
  fns : fnsB T fds = true
  glo : (T.fns.all fun e => fa.any fun f => match f with
    | .glo x => decide (x = e.1)
    | _ => false) = true
  ok : ∀ e ∈ fds, FDok T e.2
  cls : clsB T fds fa = true
  mts : mtsB T fds fa = true
  ats : atsB T fa = true
  inis : ∀ e ∈ fds, e.2.ini = true → ∀ G G', e.2.sm G = e.2.sm G'
  excs : (T.excs.all fun e => decide (e.1 = Str.ofString e.2) && ts.contains e.2) = true
  exg : (ts.all fun t => fa.any fun f => match f with
    | .glo x => decide (x = Str.ofString t)
    | _ => false) = true
  free : (T.free.all fun e => fa.any fun f => match f with
    | .free x => decide (x = e)
    | _ => false) = true
  isN : (T.exIs.all fun e => decide (e.1 = Str.ofString e.2) && ((ts ++ T.os).contains e.2 || (decide (bootBuiltins e.1 = some (.type e.2)) && T.free.contains e.1))) = true
  msN : (T.exMs.all fun e => decide (e.1 = Str.ofString e.2) && (ts ++ T.os).contains e.2) = true
  oxg : (T.oxs.all fun e => decide (e.1 = Str.ofString e.2) && (hasB fa (.glo e.1) && hasB fa (.glo "FlatError"))) = true
  oxd : ∀ e ∈ T.oxs, ∃ i fd, (i, fd) ∈ fds ∧ fd.d.at_ = (e.1, some ("__init__" : Str)) ∧ fd.ps.length = 2 ∧ OxBody fd
/-- what the head's own Bool tells -/
def exAll (T : Tab) (ts : List String) (K : PySem.W.Frag) : Bool := exB ts T.os T.exIs T.exMs K && T.consts.all fun e => constB K e.1 e.2
theorem fa_glo {fa : List He.Fa} {fn : List He.DefD} {K : PySem.W.Frag} {h : Heap} {mg : Str → Option Value} {x : Str} (c : He.SaysD fa fn K) (X : K.In h) (G : h.Ns mainGlobals mg) (q : (fa.any fun f => match f with
    | .glo y => decide (y = x)
    | _ => false) = true) : mg x = some (.ref (He.ga K x)) := by
  obtain ⟨f, hf, e⟩ := List.any_eq_true.mp q
  obtain ⟨i, hi⟩ := List.mem_iff_getElem?.mp hf
  cases f with
  | glo y =>
    have e : y = x := of_decide_eq_true e
    subst e
    exact He.glo_ok X G (c.fact i hi)
  | _ => cases e
theorem fa_free {fa : List He.Fa} {fn : List He.DefD} {K : PySem.W.Frag} {h : Heap} {mg : Str → Option Value} {x : Str} (c : He.SaysD fa fn K) (X : K.In h) (G : h.Ns mainGlobals mg) (q : (fa.any fun f => match f with
    | .free y => decide (y = x)
    | _ => false) = true) : mg x = none := by
  obtain ⟨f, hf, e⟩ := List.any_eq_true.mp q
  obtain ⟨i, hi⟩ := List.mem_iff_getElem?.mp hf
  cases f with
  | free y =>
    have e : y = x := of_decide_eq_true e
    subst e
    exact He.free_ok X G (c.fact i hi)
  | _ => cases e
theorem lookup_in {α : Type} {i : Nat} {a : α} : ∀ {l : List (Nat × α)}, l.lookup i = some a → (i, a) ∈ l
  | [], h => by cases h
  | (j, b) :: r, h => by
    rw [List.lookup_cons] at h
    cases e : i == j with
    | true =>
      rw [e] at h
      cases h
      rw [beq_iff_eq.mp e]
      exact List.mem_cons_self
    | false =>
      rw [e] at h
      exact List.mem_cons_of_mem _ (lookup_in h)
section
variable {T : Tab} {fds : List (Nat × FD)} {fa : List He.Fa} {ts : List String} {P : Program} {w : World} {K : PySem.W.Frag} {mg : Str → Option Value} {h base : Heap}
theorem Binds.of {fd : FD} (ok : FDok T fd) {f : Addr} {fu : FuncData} (F : FunD K fd.d.name fd.d.qual fd.d.params fd.d.body fd.d.scope (fd.d.dvs K) (fd.d.kws K) f fu) : Binds K fu fd.ps [] := by
  have e : fd.d.dvs K = [] := by unfold He.DefD.dvs; rw [ok.dfl]; rfl
  rw [e] at F
  exact F.bindsN ok.bind
theorem fn_of_fd {fd : FD} (ok : FDok T fd) {f : Addr} {fu : FuncData} (F : FunD K fd.d.name fd.d.qual fd.d.params fd.d.body fd.d.scope (fd.d.dvs K) (fd.d.kws K) f fu) {G : FEnv} {CA : Tags} {XR : XRel} {k : Nat} (gl : GlobOk T G CA XR P w K mg base k) :
    FnOk1 P w K mg base (k + 1) f fu fd.ps (spOf K CA XR (mkFn fd.N.length fd.ps.length (fd.sm G)) fd.ps.length) := by
  obtain ⟨oc, od, dV, kV, doc, pm, an, cdv, ct, osl, rfl, lk, hcd, _, _⟩ := F.ex
  exact fn1 lk hcd ok.scope gl fun X W C => ok.body G CA XR k X W C
theorem glob_all (ok : TabOk T fds fa ts) (X : K.In h) (Gm : h.Ns mainGlobals mg) (c : He.SaysD fa (fds.map (·.2.d)) K) (ex : exAll T ts K = true) : ∀ k, GlobOk T (Gam fds k) (CAof K w T.tags) (XRof K ts T.os) P w K mg base k := by
  obtain ⟨ex1, ex2⟩ := Bool.and_eq_true_iff.mp ex
  obtain ⟨x1, x2⟩ := Bool.and_eq_true_iff.mp ex1
  obtain ⟨x3, x4⟩ := Bool.and_eq_true_iff.mp x2
  obtain ⟨x1, x5⟩ := Bool.and_eq_true_iff.mp x1
  obtain ⟨x5, x6⟩ := Bool.and_eq_true_iff.mp x5
  have own : ∀ t, (ts ++ T.os).contains t = true → mg (Str.ofString t) = some (.ref (He.ga K (Str.ofString t))) := fun t ht => by
    have ht : t ∈ ts ++ T.os := by simpa using ht
    rcases List.mem_append.mp ht with ht | ht
    · exact fa_glo c X Gm (List.all_eq_true.mp ok.exg t ht)
    · obtain ⟨e, he, rfl⟩ := List.mem_map.mp ht
      obtain ⟨z1, z2⟩ := Bool.and_eq_true_iff.mp (List.all_eq_true.mp ok.oxg e he)
      obtain ⟨z3, z4⟩ := Bool.and_eq_true_iff.mp z2
      rw [← of_decide_eq_true z1]
      exact He.glo_ok X Gm (fa_has c z3)
  have obas : ∀ t, t ∈ T.os → _ := fun t ht => by
    obtain ⟨z1, z2⟩ := Bool.and_eq_true_iff.mp (List.all_eq_true.mp x5 t ht)
    exact oex_ok z1 z2
  have frees : ∀ x ∈ T.free, mg x = none := fun x hx => fa_free c X Gm (List.all_eq_true.mp ok.free x hx)
  have bas : ∀ t, t ∈ ts → PySem.W.excIn K (He.ga K (Str.ofString t)) He.veBase "ValueError.__new__" = true ∧ PySem.W.keepIn K (.ref (He.ga K (Str.ofString t))) = true ∧ PySem.W.subIn K (.ref (He.ga K (Str.ofString t))) (.type "BaseException") = some true ∧
      PySem.W.typeIn K (.ref (He.ga K (Str.ofString t))) = some (.type "type") ∧ ExcC K (He.ga K (Str.ofString t)) := fun t ht => by
    obtain ⟨z1, z2⟩ := Bool.and_eq_true_iff.mp (List.all_eq_true.mp x1 t ht)
    obtain ⟨h1, h2, h3, h4⟩ := He.exc_ok z1
    exact ⟨h1, h2, h3, h4, excCB_ok z2⟩
  have rest : ∀ k G, (∀ x i n, (x, i, n) ∈ T.fns → ∃ f fd ps, mg x = some (.ref f) ∧ PySem.W.keepIn K (.ref f) = true ∧ Binds K fd ps [] ∧ FnOk1 P w K mg base k f fd ps (spOf K (CAof K w T.tags) (XRof K ts T.os) (G i) n)) →
      (∀ x t i n, (x, t, i, n) ∈ T.cls → ∃ C fI fd ps, CAof K w T.tags t C ∧ mg x = some (.ref C) ∧ Cls K C ∧ Mk K C fI ∧ Binds K fd ps [] ∧ ((∀ as s, G i as s = .bad) ∨ ∃ j, j + 1 = k ∧ FnOk1 P w K mg base j fI fd ps (spOf K (CAof K w T.tags) (XRof K ts T.os) (G i) n))) →
      (∀ t x i n, (t, x, i, n) ∈ T.mts → ∃ C f fd ps, CAof K w T.tags t C ∧ Cls K C ∧ Meth K C x f ∧ Binds K fd ps [] ∧ FnOk1 P w K mg base k f fd ps (spOf K (CAof K w T.tags) (XRof K ts T.os) (G i) n)) → GlobOk T G (CAof K w T.tags) (XRof K ts T.os) P w K mg base k := by
    intro k G hf hcl hmt
    have clsOf : ∀ y cl d H, XRof K ts T.os y cl d H → y.cls ∈ ts ++ T.os ∧ cl = .ref (He.ga K (Str.ofString y.cls)) ∧ (∀ dd, d = some dd → ∃ fs, H dd = some (.xd fs)) ∧ ExcC K (He.ga K (Str.ofString y.cls)) := by
      rintro y cl d H (⟨_, h2, h3, rfl⟩ | ⟨i, dd, _, h2, h3, rfl, h4⟩)
      · exact ⟨List.mem_append_left _ h3, rfl, (fun dd e => by rw [h2] at e; cases e), (bas y.cls h3).2.2.2.2⟩
      · exact ⟨List.mem_append_right _ h3, rfl, (fun dd' e => by rw [h2] at e; cases e; exact ⟨_, h4⟩), (obas y.cls h3).2.2.2.2.2⟩
    refine ⟨hf, hcl, hmt, fun t C C' hC hC' => hC.2.trans hC'.2.symm, fun x s t C hm hC => ?_, fun x d hm => const_ok X Gm (List.all_eq_true.mp ex2 (x, d) hm), fun x t hm => ?_, frees, fun x t hm => ?_, fun x t hm => ?_, fun x t hm => ?_, ?_, rfl⟩
    · obtain ⟨z1, z2⟩ := Bool.and_eq_true_iff.mp (List.all_eq_true.mp ok.ats (x, s) hm)
      obtain ⟨ht, rfl⟩ := hC
      obtain ⟨z3, z4⟩ := Bool.and_eq_true_iff.mp (List.all_eq_true.mp z2 t ht)
      exact ⟨of_decide_eq_true z1, He.cls_ok (fa_has c z3), He.noat_ok (fa_has c z4)⟩
    · obtain ⟨z1, z2⟩ := Bool.and_eq_true_iff.mp (List.all_eq_true.mp ok.excs (x, t) hm)
      have e : x = Str.ofString t := of_decide_eq_true z1
      have ht : t ∈ ts := by simpa using z2
      obtain ⟨h1, h2, h3, h4, _⟩ := bas t ht
      subst e
      exact ⟨_, He.veBase, "ValueError.__new__", "ValueError.__init__", "ValueError", own t (by simp [ht]), PySem.F.excBase_ValueError, h1, h2, h3, h4, fun H => .inl ⟨rfl, rfl, ht, rfl⟩⟩
    · obtain ⟨z1, z2⟩ := Bool.and_eq_true_iff.mp (List.all_eq_true.mp ok.isN (x, t) hm)
      have e : x = Str.ofString t := of_decide_eq_true z1
      have key : ∀ y cl d H, XRof K ts T.os y cl d H → (∀ dd, d = some dd → ∃ fs, H dd = some (.xd fs)) ∧ ∃ C, cl = .ref C ∧ ExcC K C ∧ PySem.W.kitOne K (.ref C) (uvOf K (ts ++ T.os) t) = some (excSub y.cls t) := by
        intro y cl d H hh
        obtain ⟨g1, rfl, g2, g3⟩ := clsOf y cl d H hh
        exact ⟨g2, _, rfl, g3, of_decide_eq_true (List.all_eq_true.mp (List.all_eq_true.mp x3 (x, t) hm) y.cls g1)⟩
      cases hc : (ts ++ T.os).contains t with
      | true =>
        have eu : uvOf K (ts ++ T.os) t = .ref (He.ga K (Str.ofString t)) := by unfold uvOf; rw [if_pos hc]
        refine ⟨.ref (He.ga K (Str.ofString t)), uvOf K (ts ++ T.os) t, .inl (by rw [e, eu]; exact own t hc), by rw [eu]; rfl, fun w hw => by rw [eu]; exact hw, key⟩
      | false =>
        have eu : uvOf K (ts ++ T.os) t = .type t := by unfold uvOf; rw [if_neg (by rw [hc]; decide)]
        rw [hc, Bool.false_or] at z2
        obtain ⟨z3, z4⟩ := Bool.and_eq_true_iff.mp z2
        refine ⟨.ty t, uvOf K (ts ++ T.os) t, .inr ⟨frees x (by simpa using z4), by rw [eu]; exact of_decide_eq_true z3⟩, by rw [eu]; rfl, fun w hw => by rw [eu]; exact hw, key⟩
    · obtain ⟨z1, z2⟩ := Bool.and_eq_true_iff.mp (List.all_eq_true.mp ok.msN (x, t) hm)
      have e : x = Str.ofString t := of_decide_eq_true z1
      have eu : uvOf K (ts ++ T.os) t = .ref (He.ga K (Str.ofString t)) := by unfold uvOf; rw [if_pos z2]
      refine ⟨uvOf K (ts ++ T.os) t, .inl (by rw [e, eu]; exact own t z2), ?_⟩
      intro y cl d H hh
      obtain ⟨g1, rfl, _⟩ := clsOf y cl d H hh
      exact of_decide_eq_true (List.all_eq_true.mp (List.all_eq_true.mp x4 (x, t) hm) y.cls g1)
    · obtain ⟨z1, z2⟩ := Bool.and_eq_true_iff.mp (List.all_eq_true.mp ok.oxg (x, t) hm)
      obtain ⟨z3, z4⟩ := Bool.and_eq_true_iff.mp z2
      have e : x = Str.ofString t := of_decide_eq_true z1
      subst e
      have ht : t ∈ T.os := List.mem_map.mpr ⟨_, hm, rfl⟩
      obtain ⟨y1, y2, y3, y4, y5, y6⟩ := obas t ht
      have hfe : feB K (He.ga K "FlatError") = true := by
        cases hos : T.os with
        | nil => rw [hos] at ht; cases ht
        | cons a r =>
          rw [hos] at x6
          simpa using x6
      obtain ⟨i, fd, hin, hat, h2, hbd⟩ := ok.oxd _ hm
      have fok := ok.ok (i, fd) hin
      obtain ⟨j, hj⟩ := List.mem_iff_getElem?.mp hin
      obtain ⟨fu, F⟩ := c.def_ j (d := fd.d) (by rw [List.getElem?_map, hj]; rfl)
      have e5 : He.fAd K fd.d.at_ = He.ma K (He.ga K (Str.ofString t)) "__init__" := by rw [hat]; rfl
      rw [e5] at F
      exact ⟨_, _, fu, fd.ps, He.glo_ok X Gm (fa_has c z3), y1, y2, y3, Binds.of fok F, ox_ok hbd h2 fok.scope F (He.glo_ok X Gm (fa_has c z4)) y1 y5 (feB_ok hfe), fun i dx H hh => .inr ⟨i, dx, rfl, rfl, ht, rfl, hh⟩⟩
    · rintro y cl d H v (⟨h1, _⟩ | ⟨i, dd, h1, h2, h3, rfl, h4⟩) hv
      · rw [h1] at hv; cases hv
      · rw [h1] at hv
        cases hv
        obtain ⟨y1, y2, y3, y4, y5, y6⟩ := obas y.cls h3
        exact ⟨i, _, dd, _, rfl, rfl, y4, y5, h2, h4, rfl⟩
  have get : ∀ (x : Str) (i n : Nat), (x, i, n) ∈ T.fns → ∃ fd, fds.lookup i = some fd ∧ fd.d.at_ = (x, none) ∧ fd.ps.length = n ∧ fd.ini = false := fun x i n hm => by
    have z := List.all_eq_true.mp ok.fns (x, i, n) hm
    dsimp only at z
    cases e : fds.lookup i with
    | none => rw [e] at z; cases z
    | some fd =>
      rw [e] at z
      obtain ⟨z0, z3⟩ := Bool.and_eq_true_iff.mp z
      obtain ⟨z1, z2⟩ := Bool.and_eq_true_iff.mp z0
      exact ⟨fd, rfl, of_decide_eq_true z1, by simpa using z2, by simpa using z3⟩
  have getD : ∀ (i : Nat) (fd : FD), fds.lookup i = some fd → FDok T fd ∧ ∃ fu, FunD K fd.d.name fd.d.qual fd.d.params fd.d.body fd.d.scope (fd.d.dvs K) (fd.d.kws K) (He.fAd K fd.d.at_) fu := fun i fd e => by
    obtain ⟨j, hj⟩ := List.mem_iff_getElem?.mp (lookup_in e)
    exact ⟨ok.ok (i, fd) (lookup_in e), c.def_ j (d := fd.d) (by rw [List.getElem?_map, hj]; rfl)⟩
  intro k
  induction k using Nat.strongRecOn with
  | ind k ih =>
    have lvl : ∀ (i : Nat) (fd : FD), fds.lookup i = some fd → fd.ini = false → FDok T fd → ∀ fu, FunD K fd.d.name fd.d.qual fd.d.params fd.d.body fd.d.scope (fd.d.dvs K) (fd.d.kws K) (He.fAd K fd.d.at_) fu →
        FnOk1 P w K mg base k (He.fAd K fd.d.at_) fu fd.ps (spOf K (CAof K w T.tags) (XRof K ts T.os) (Gam fds k i) fd.ps.length) := fun i fd e hi fok fu F => by
      cases k with
      | zero =>
        refine ⟨fun vs H Q E z => z.1, ?_⟩
        rintro A outer s H args us vs Q E _ _ _ _ ⟨_, m, st, as, _, _, q⟩
        exact (show False from q).elim
      | succ k =>
        have z := fn_of_fd (P := P) (w := w) (mg := mg) (base := base) fok F (ih k (Nat.lt_succ_self k))
        rw [Gam_succ e hi]
        exact z
    refine rest k _ (fun x i n hm => ?_) (fun x t i n hm => ?_) fun t x i n hm => ?_
    · obtain ⟨fd, e1, e2, e3, e4⟩ := get x i n hm
      obtain ⟨fok, fu, F⟩ := getD i fd e1
      have L := lvl i fd e1 e4 fok fu F
      have e5 : He.fAd K fd.d.at_ = He.ga K x := by rw [e2]; rfl
      rw [e5] at F L
      rw [← e3]
      exact ⟨_, fu, fd.ps, fa_glo c X Gm (List.all_eq_true.mp ok.glo (x, i, n) hm), F.kp, Binds.of fok F, L⟩
    · have z := List.all_eq_true.mp ok.cls (x, t, i, n) hm
      dsimp only at z
      obtain ⟨z1, z2⟩ := Bool.and_eq_true_iff.mp z
      obtain ⟨z3, z4⟩ := Bool.and_eq_true_iff.mp z1
      obtain ⟨z5, z6⟩ := Bool.and_eq_true_iff.mp z4
      obtain ⟨z7, z8⟩ := Bool.and_eq_true_iff.mp z6
      have ex : x = Str.ofString t := of_decide_eq_true z3
      cases e : fds.lookup i with
      | none => rw [e] at z2; cases z2
      | some fd =>
        rw [e] at z2
        obtain ⟨z9, hi⟩ := Bool.and_eq_true_iff.mp z2
        obtain ⟨za, zb⟩ := Bool.and_eq_true_iff.mp z9
        have za : fd.d.at_ = (x, some ("__init__" : Str)) := of_decide_eq_true za
        have zb : fd.ps.length = n := by simpa using zb
        obtain ⟨fok, fu, F⟩ := getD i fd e
        have e5 : He.fAd K fd.d.at_ = He.ma K (He.ga K x) "__init__" := by rw [za]; rfl
        have ht : t ∈ T.tags := List.mem_map.mpr ⟨(x, t, i, n), hm, rfl⟩
        refine ⟨He.ga K x, He.ma K (He.ga K x) "__init__", fu, fd.ps, ⟨ht, by rw [ex]⟩, He.glo_ok X Gm (fa_has c z5), He.cls_ok (fa_has c z7), He.mkr_ok (fa_has c z8), Binds.of fok F, ?_⟩
        match k, ih with
        | 0, _ => exact .inl fun as s => rfl
        | 1, _ => exact .inl fun as s => Gam_ini1 e hi as s
        | k + 2, ih =>
          refine .inr ⟨k + 1, rfl, ?_⟩
          have z := fn_of_fd (P := P) (w := w) (mg := mg) (base := base) fok F (ih k (by omega))
          rw [e5, ok.inis (i, fd) (lookup_in e) hi (Gam fds k) (Gam fds (k + 1)), ← Gam_ini2 e, zb] at z
          exact z
    · have z := List.all_eq_true.mp ok.mts (t, x, i, n) hm
      dsimp only at z
      obtain ⟨z1, z2⟩ := Bool.and_eq_true_iff.mp z
      obtain ⟨z3, z4⟩ := Bool.and_eq_true_iff.mp z1
      obtain ⟨z5, z6⟩ := Bool.and_eq_true_iff.mp z4
      cases e : fds.lookup i with
      | none => rw [e] at z2; cases z2
      | some fd =>
        rw [e] at z2
        obtain ⟨z9, hi⟩ := Bool.and_eq_true_iff.mp z2
        obtain ⟨za, zb⟩ := Bool.and_eq_true_iff.mp z9
        have za : fd.d.at_ = (Str.ofString t, some x) := of_decide_eq_true za
        have zb : fd.ps.length = n := by simpa using zb
        have hi : fd.ini = false := by simpa using hi
        obtain ⟨fok, fu, F⟩ := getD i fd e
        have L := lvl i fd e hi fok fu F
        have e5 : He.fAd K fd.d.at_ = He.ma K (He.ga K (Str.ofString t)) x := by rw [za]; rfl
        rw [e5] at F L
        rw [← zb]
        exact ⟨He.ga K (Str.ofString t), _, fu, fd.ps, ⟨by simpa using z3, rfl⟩, He.cls_ok (fa_has c z5), He.meth_ok (fa_has c z6), Binds.of fok F, L⟩
end
end Fl
set_option Elab.async false
set_option linter.all false
set_option maxRecDepth 100000
set_option maxHeartbeats 4000000
/-! Fl over the layer: a law's end. -/
namespace Fl
open PySem PySem.Spec L2 PyProof.Rows
theorem caller1 {k : Nat} (h : k ≤ 600) : Room1 k callerA := ⟨rfl, by
  have h1 : callerA.depth = 301 := by kernel_rfl
  have h2 : recursionLimit = 1000 := by kernel_rfl
  rw [h1, h2]; omega, by
  have h1 : callerA.units = 4 := by kernel_rfl
  have h2 : cLine = 9900 := by kernel_rfl
  rw [h1, h2]; omega, by kernel_rfl⟩
/-- the promise of the law's def, at the heap behind the top -/
theorem law1 {P : Program} {w : World} {K : PySem.W.Frag} {mg mb : Str → Option Value} {k : Nat} {fa a : Addr} {fd : FuncData} {x : Str} {sp : Sp} {s1 : Shared} {vs : List Value} {ns : List Int}
    (KX : K.In s1.heap) (h1 : s1.heap.Ns mainGlobals mg) (h2 : s1.heap.Ns builtinsNs mb) (h3 : ∀ x : Str, x ≠ "__name__" → mb x = bootBuiltins x) (h4 : s1.heap.NoLimit) (h5 : s1.gens = #[])
    (h6 : s1.heap.get? a = some { cls := .type "list", data := .seq vs.toArray }) (h7 : IntsAre vs ns) (h8 : ns.length ≤ sizeLine) (hr : Room1 k callerA)
    (F : ∀ base : Heap, K.In base → base.Ns mainGlobals mg → FnOk1 P w K mg base k fa fd [x] sp) (hb : ∀ (s : Shared) (u : Value), BindsTo s fd ⟨[u], []⟩ [(x, u)])
    (hs : ∀ H : Hp, Only H → SqL K H a (ns.map V.int) → sp [.ref a] H (fun v _ => v = .bl true) fun _ _ _ => False) :
    codeAny (model P w) callerA (.call (.ref fa) ⟨[.ref a], []⟩) (fun r s' => r = .ok (.ret (.bool true)) ∧ OldK s1.heap s'.heap ∧ s'.os = s1.os ∧ AllBare s'.gens) s1 := by
  have rv := vals_ints h7
  have hlen := h7.length
  have go : ∀ H : Hp, Only H → SqL K H a (ns.map V.int) → HOk P w H s1.heap → (∀ b, H b ≠ none → b = a ∧ K.lookup a = none) →
      codeAny (model P w) callerA (.call (.ref fa) ⟨[.ref a], []⟩) (fun r s' => r = .ok (.ret (.bool true)) ∧ OldK s1.heap s'.heap ∧ s'.os = s1.os ∧ AllBare s'.gens) s1 := by
    intro H hO hS hok hA
    have free : ∀ {b : Addr}, (b = a → K.lookup a = none → False) → H b = none := fun {b} hne => by
      cases q : H b with
      | none => rfl
      | some u =>
        obtain ⟨e1, e2⟩ := hA b (by rw [q]; simp)
        exact (hne e1 e2).elim
    have nsK : ∀ {b : Addr} {m : Str → Option Value}, s1.heap.Ns b m → (hidT s1.heap H).Ns b m := by
      rintro b m ⟨o, es, ep, e, d, r⟩
      refine ⟨o, es, ep, hidT_get e (free fun hba _ => ?_), d, r⟩
      subst hba
      rw [h6] at e
      cases e
      have d' : Data.seq vs.toArray _ = Data.dict es ep := d
      cases d'
    have hKb : K.In (hidT s1.heap H) := fun b o e => hidT_get (KX b o e) (free fun hba hn => by
      subst hba
      rw [hn] at e; cases e)
    obtain ⟨mc, l1, l2⟩ := h4
    have e0 : Env0 P w K mg (hidT s1.heap H) callerA [] s1 H :=
      ⟨rfl, ⟨hKb, nsK h1, ⟨mb, nsK h2, h3⟩, mc, nsK l1, l2⟩, fun b o e => of_hidT e, Nat.le_of_eq (hidT_size _ _), trivial, fun b z => absurd (show b ∈ ([] : List Addr) from z) (by simp), hok, .of_eq h5⟩
    refine codeAny_mono ((F _ hKb (nsK h1)).run callerA [] s1 H ⟨[.ref a], []⟩ [.ref a] [.ref a] _ _ hr e0 (hb s1 (.ref a)) (.cons rfl .nil) (hs H hO hS)) fun r s' q => ?_
    cases r with
    | error e =>
      obtain ⟨_, _, _, _, _, _, _, _, _, _, _, _, z⟩ := q
      exact z.elim
    | ok fl =>
      cases fl with
      | next => exact (show False from q).elim
      | brk => exact (show False from q).elim
      | cont => exact (show False from q).elim
      | ret u =>
        obtain ⟨v, H', os, bare, un, hok', r', qv⟩ := q
        have qv : v = .bl true := qv
        subst qv
        obtain rfl : u = Value.bool true := r'
        refine ⟨rfl, OldK.of_keep fun b o e => ?_, os, bare⟩
        rcases hO b with z | ⟨ob, xs, z⟩
        · exact un.keep b o e z (fun y => absurd (show b ∈ ([] : List Addr) from y) (by simp)) (by simp)
        · obtain ⟨e1, _⟩ := hok b _ z
          obtain ⟨e2, _⟩ := hok' b _ (un.frzs b ob _ z)
          rw [e] at e1
          cases e1
          exact e2
  cases hk : K.lookup a with
  | some o =>
    have e := KX a o hk
    rw [h6] at e
    cases e
    have sq : SqL K (fun _ => none) a (ns.map V.int) := .inr ⟨_, vs.toArray, _, hk, rfl, rfl, rfl, by rw [List.size_toArray, hlen]; exact h8, by simpa using rv⟩
    exact go (fun _ => none) (fun _ => .inl rfl) sq (fun b u z => by cases z) fun b z => absurd rfl z
  | none =>
    have at_ : ∀ {b : Addr} {u : HO}, (if b = a then some (HO.frz { cls := .type "list", data := .seq vs.toArray } (.lst (ns.map V.int))) else none) = some u → b = a ∧ u = .frz { cls := .type "list", data := .seq vs.toArray } (.lst (ns.map V.int)) := fun {b u} z => by
      by_cases hb : b = a
      · rw [if_pos hb] at z
        exact ⟨hb, (Option.some.inj z).symm⟩
      · rw [if_neg hb] at z; cases z
    refine go (fun b => if b = a then some (.frz { cls := .type "list", data := .seq vs.toArray } (.lst (ns.map V.int))) else none) (fun b => ?_) (.inl (.inr ⟨_, if_pos rfl⟩)) (fun b u z => ?_) fun b z => ⟨?_, hk⟩
    · by_cases hb : b = a
      · exact .inr ⟨_, _, if_pos hb⟩
      · exact .inl (if_neg hb)
    · obtain ⟨rfl, rfl⟩ := at_ z
      exact ⟨h6, by rw [List.length_map]; exact h8, vs, _, rv, h6⟩
    · by_cases hb : b = a
      · exact hb
      · exact absurd (if_neg hb) z
/-- what the mirror of the law must say -/
theorem law_sp {K : PySem.W.Frag} {CA : Tags} {XR : XRel} {F : List Val → M Val} {H : Hp} {a : Addr} {ns : List Int} (hl : ns.length ≤ L) (hO : Only H) (hS : SqL K H a (ns.map V.int)) (h : ∃ s, F [.scr ns] [] = .ok (vB true) s) :
    spOf K CA XR F 1 [.ref a] H (fun v _ => v = .bl true) fun _ _ _ => False := by
  obtain ⟨s, h⟩ := h
  refine ⟨rfl, fun _ => 0, [], [.scr ns], ⟨fun n c e => by simp [Store.cell] at e, fun n n' c c' e => by simp [Store.cell] at e⟩, ⟨.ref a, [], rfl, ⟨hl, a, rfl, ?_⟩, rfl⟩, ?_⟩
  · rcases hO a with z | ⟨o, xs, z⟩
    · refine .inr fun H1 => ?_
      rcases hS with (q | ⟨_, q⟩) | q
      · rw [z] at q; cases q
      · rw [z] at q; cases q
      · exact .inr q
    · exact .inl ⟨by rw [z]; simp, fun ⟨n, c, e, _⟩ => by simp [Store.cell] at e, hS⟩
  · rw [h]
    intro m' H' _ _ v r
    exact r
section
variable {T : Tab} {fds : List (Nat × FD)} {fa : List He.Fa} {ts : List String}
/-- a law over a head by facts -/
theorem law_end {l : PySem.W.OpenLaw} {q : Program} {loose : List Str} {XP : (Str → Option Value) → Heap → Prop} {d : DefRec} {nh : Nat} {x : Str} (hn : l.most = some 63) (hdf : d.params.defaults = []) (ok : TabOk T fds fa ts)
    (i k : Nat) (hk : k + 1 ≤ 600) (hi : (d.name, i, 1) ∈ T.fns) (hx : ∀ (fd : FD), fds.lookup i = some fd → fd.ps = [x]) (plain : ∀ ns : List Int, ns.length ≤ 63 → ∃ s, Gam fds (k + 1) i [.scr ns] [] = .ok (vB true) s) :
    PySem.W.WalkO q loose XP (hkF nh fa (fds.map (·.2.d)) (exAll T ts)).says l.row.toRowW d [] (fun f vs => PySem.call f vs) := by
  refine Att.attach_call hn hdf fun w s0 s1 mg mb f o pm cd doc a vs ns G Y ho hd hcd hmg hobj hints hlen hg => ?_
  obtain ⟨K, KX, c, ex⟩ := Y
  have gl := fun (base : Heap) => glob_all (P := l.prog) (w := w) (base := base) ok KX G.T.g c ex (k + 1)
  obtain ⟨f1, fu, ps, e1, e2, e3, e4⟩ := (gl s1.heap).fns d.name i 1 hi
  have ef : f1 = f := by
    rw [hmg] at e1
    injection e1 with e1
    injection e1 with e1
    exact e1.symm
  subst ef
  -- its parameter
  have z := List.all_eq_true.mp ok.fns (d.name, i, 1) hi
  dsimp only at z
  cases e : fds.lookup i with
  | none => rw [e] at z; cases z
  | some fd =>
    rw [e] at z
    obtain ⟨z0, z3⟩ := Bool.and_eq_true_iff.mp z
    obtain ⟨z1, z2⟩ := Bool.and_eq_true_iff.mp z0
    have z1 : fd.d.at_ = (d.name, none) := of_decide_eq_true z1
    obtain ⟨j, hj⟩ := List.mem_iff_getElem?.mp (lookup_in e)
    obtain ⟨fu, F⟩ := c.def_ j (d := fd.d) (by rw [List.getElem?_map, hj]; rfl)
    have e5 : He.fAd K fd.d.at_ = He.ga K d.name := by rw [z1]; rfl
    rw [e5] at F
    have hgl := fa_glo c KX G.T.g (List.all_eq_true.mp ok.glo (d.name, i, 1) hi)
    have ef : He.ga K d.name = f1 := by
      rw [hmg] at hgl
      injection hgl with hgl
      injection hgl with hgl
      exact hgl.symm
    rw [ef] at F
    have fok := ok.ok (i, fd) (lookup_in e)
    have hp := hx fd e
    have bd : Binds K fu fd.ps [] := Binds.of fok F
    have eG : ∀ k, Gam fds (k + 1) i = mkFn fd.N.length fd.ps.length (fd.sm (Gam fds k)) := fun k => Gam_succ e (by simpa using z3)
    refine law1 (x := x) KX G.T.g G.T.b G.T.builtins G.T.nolimit hg hobj hints (Nat.le_trans hlen (by rw [sizeLine_eq]; decide)) (caller1 hk) (fd := fu) (fun base hb1 hb2 => ?_) (fun s u => ?_) fun H hO hS => law_sp (XR := XRof K ts T.os) (CA := CAof K w T.tags) (Nat.le_trans hlen (by decide)) hO hS (plain ns hlen)
    · have gk := glob_all (P := l.prog) (w := w) (base := base) ok KX G.T.g c ex k
      have r := fn_of_fd (P := l.prog) (w := w) (mg := mg) (base := base) fok F gk
      rw [← eG k, hp] at r
      exact r
    · have ed : fd.d.dvs K = [] := by unfold He.DefD.dvs; rw [fok.dfl]; rfl
      rw [ed] at F
      have r := F.bindsA (ps := fd.ps) fok.bind s [u] (by rw [hp]; rfl)
      rw [hp] at r
      exact r
end
end Fl
set_option Elab.async false
set_option linter.all false
set_option maxRecDepth 100000
set_option maxHeartbeats 2000000
/-! Fl over the layer: a cell becomes a tree; repr. -/
namespace Fl
open PySem PySem.Spec L2
section
variable {tb : Tab} {G : FEnv} {CA : Tags} {XR : XRel} {k : Nat} {N : List Str} {sc : Scope} {own : Str → Bool} {X : Cx} {W : WX}
variable {a b c e : Expr} {es : List Expr} {pos pos' p : Pos} {f g h : CE}
theorem frz_core {K : PySem.W.Frag} {m : Mp} {st : Store} {H : Hp} (S : SR K CA m st H) (n : Nat) : freeze (.loc n) st = .bad ∨ ∃ d, freeze (.loc n) st = .ok (.t d) (st.set n none) ∧ Rep K H (live m (st.set n none)) d (.ref (m n)) := by
  unfold freeze
  dsimp only
  cases e : st.cell n with
  | none => exact .inl rfl
  | some c =>
    obtain ⟨T, S'⟩ := S.drop n
    have nl : ¬ live m (st.set n none) (m n) := fun ⟨j, d, h1, h2⟩ => by
      rw [cell_none] at h1
      by_cases hj : j = n
      · rw [if_pos hj] at h1; cases h1
      · rw [if_neg hj] at h1
        exact hj (S.inj j n d c h1 e h2)
    have lv : ∀ x, live m (st.set n none) x → live m st x ∨ H x = none := T.lv
    have kp : ∀ x o, H x = some o → ¬ live m st x → Kp H x o := fun _ _ h _ => .inl h
    cases c with
    | lst vs =>
      dsimp only
      cases e2 : trees vs with
      | none => exact .inl rfl
      | some ts =>
        obtain ⟨us, h1, z, rs⟩ := S.cells n _ e
        exact .inr ⟨_, rfl, m n, us, rfl, ⟨h1, nl⟩, by rw [trees_length e2]; exact z, Reps.mono kp lv _ _ (RepVs.of_trees e2 rs)⟩
    | tup vs =>
      dsimp only
      cases e2 : trees vs with
      | none => exact .inl rfl
      | some ts =>
        obtain ⟨us, h1, z, rs⟩ := S.cells n _ e
        exact .inr ⟨_, rfl, m n, us, rfl, .inl ⟨h1, nl⟩, by rw [trees_length e2]; exact z, Reps.mono kp lv _ _ (RepVs.of_trees e2 rs)⟩
    | dct vs =>
      dsimp only
      cases e2 : treesK vs with
      | none => exact .inl rfl
      | some ts =>
        obtain ⟨us, h1, z, rs⟩ := S.cells n _ e
        exact .inr ⟨_, rfl, m n, us, rfl, ⟨.inl h1, nl⟩, by rw [treesK_len e2]; exact z, RepK.mono kp lv _ _ (RepVK.of_trees e2 rs)⟩
    | ins _ _ => exact .inl rfl
    | kd _ => exact .inl rfl
theorem frz_ok {K : PySem.W.Frag} {σ : L2.St} {m : Mp} {st : Store} {H : Hp} {x : Val} {v : V} {Q : VK} (S : SR K CA m st H) (r : RepV K m st H x v)
    (q : PR K CA XR W σ (freeze x st) m st H fun a m' st' H' => ∀ u, RepV K m' st' H' a u → Q u H') : Q v H := by
  cases x with
  | t d => exact PR.here (a := Val.t d) (K := K) (CA := CA) (XR := XR) (W := W) (σ := σ) S q v r
  | loc n =>
    obtain ⟨hn, rfl⟩ := r
    rcases frz_core S n with e | ⟨d, e, rd⟩
    · rw [e] at q; exact q.elim
    · rw [e] at q
      obtain ⟨T, S'⟩ := S.drop n
      exact q m H S' T _ rd
  | scr ns => exact (show False from q).elim
  | ex y => exact (show False from q).elim
/-- a list that is written no more, from here on a tree -/
theorem se_frz (ha : SE CA XR X W a f) : SE CA XR X W a (e1 freeze f) := PE.weak ha fun σ H Q ⟨m, st, ρ, S, E, q⟩ =>
  ⟨m, st, ρ, S, E, (PR.bind_of q).mono fun x m1 st1 H1 S1 T1 h1 v rv => frz_ok S1 rv h1⟩
/-! ### repr -/
theorem call_reprD (hg : X.A.guards = some []) : CallR X (.builtin "repr") (fun xs H Q => ∃ a d, xs = [.ref a] ∧ Dp X.K H (.ref a) d ∧ d.showable = true ∧ d.hasDict = false ∧ X.A.units + (d.depth + 1) < cLine ∧ d.shown.length ≤ sizeLine ∧ Q (.str d.shown) H) := by
  intro pins s σ H xs us Q I r h
  obtain ⟨a, d, rfl, hD, h1, h2, h3, h4, q⟩ := h
  obtain ⟨u, rfl, r1⟩ := vals1 r
  obtain ⟨as, hr⟩ := Dp.reads I d (.ref a) u hD r1
  have e : u = .ref a := r1
  subst e
  exact repr_of_reads' (prog := X.prog) (w := X.w) (s := s) (E := X.xe) (Q := EP X pins σ Q) hr h1 (fun z => by rw [h2] at z; cases z) hg h3 (fun _ _ h => h) (fun h' u tk k => ⟨.str d.shown, H, I.kept k, ⟨_, rfl⟩, q⟩) h4
theorem call_reprI : CallR X (.builtin "repr") (fun xs H Q => ∃ i, xs = [.int i] ∧ i.natAbs.log2 < 1920 ∧ Q (.str (toString i)) H) := by
  intro pins s σ H xs us Q I r h
  obtain ⟨i, rfl, hz, q⟩ := h
  obtain ⟨u, rfl, t, rfl⟩ := vals1 r
  exact PySem.P.repr_of_int hz ⟨.str _, H, I.tok _, ⟨_, rfl⟩, q⟩
end
/-! ### how long the text is -/
theorem list_text (ts : List Str) : (listText ts).length ≤ piled ts + 2 := by
  unfold listText
  rw [strLen_append]
  cases ts with
  | nil => show (textFrom 0 "[" []).length + _ ≤ _; simp only [piled_nil]; decide
  | cons t r =>
    show (textFrom 1 ((("[" : String) : Str) ++ (("" : String) : Str) ++ t) r).length + _ ≤ _
    rw [textFrom_length_pos _ _ _ (by decide), strLen_append, strLen_append, piled_cons]
    have e1 : ((("[" : String) : Str)).length = 1 := rfl
    have e2 : ((("" : String) : Str)).length = 0 := rfl
    have e3 : ((("]" : String) : Str)).length = 1 := rfl
    rw [e1, e2, e3]; omega
theorem log2_64 {i : Int} (h : i.natAbs < 2 ^ 64) : i.natAbs.log2 < 64 := by
  by_cases z : i.natAbs = 0
  · rw [z]; decide
  · exact (Nat.log2_lt z).mpr h
theorem small_len {i : Int} (h : 0 ≤ i ∧ i < 1000000) : (toString i).length ≤ 6 := by
  obtain ⟨n, rfl⟩ : ∃ n : Nat, i = n := ⟨i.toNat, by omega⟩
  show (String.ofList (Nat.toDigits 10 n)).length ≤ 6
  rw [String.length_ofList, Nat.length_toDigits_le_iff (by decide) (by decide)]
  have : n < 1000000 := by omega
  exact this
mutual
theorem shown_rlen : ∀ (d : T), T.rlen d ≤ L → (toPy d).shown.length ≤ T.rlen d ∧ (toPy d).showable = true ∧ (toPy d).hasDict = false
  | .non, _ => by simp only [toPy, T.rlen]; exact ⟨by decide, rfl, rfl⟩
  | .bl b, _ => by simp only [toPy, T.rlen]; cases b <;> exact ⟨by decide, rfl, rfl⟩
  | .int i, h => by
    simp only [toPy, T.rlen] at *
    by_cases y : 0 ≤ i ∧ i < 1000000
    · rw [if_pos y]
      refine ⟨?_, ?_, rfl⟩
      · have := small_len y
        have e : (Str.ofString (toString i)).length = (toString i).length := ofStr_len _
        show (Str.ofString (toString i)).length ≤ _
        omega
      · simp only [PyData.showable, decide_eq_true_eq]
        have z : i.natAbs < 2 ^ 64 := by have : (2 : Nat) ^ 64 = 18446744073709551616 := rfl; omega
        have := log2_64 z
        omega
    rw [if_neg y] at h ⊢
    by_cases z : i.natAbs < 2 ^ 64
    · rw [if_pos z]
      refine ⟨?_, ?_, rfl⟩
      · have := int_text_length_le (a := i) (k := 64) (by decide) (log2_64 z)
        have e : (Str.ofString (toString i)).length = (toString i).length := ofStr_len _
        show (Str.ofString (toString i)).length ≤ _
        omega
      · simp only [PyData.showable, decide_eq_true_eq]
        have := log2_64 z
        omega
    · rw [if_neg z] at h; simp [L] at h
  | .str x, _ => by
    simp only [toPy, T.rlen]
    refine ⟨?_, rfl, rfl⟩
    have h := StrLaws.reprText_len (Str.ofString x) fun c hc => by
      have := ofStr_ok x
      unfold PyData.strOk at this
      simp only [Array.all_eq_true', decide_eq_true_eq] at this
      have := this c (by simpa using hc)
      omega
    rw [ofStr_len] at h
    exact h
  | .tup a, h => by
    simp only [toPy, T.rlen] at *
    obtain ⟨h1, h2, h3⟩ := showns_rlen a (by omega)
    refine ⟨?_, h2, h3⟩
    have := fmt_text (PyData.shownAll (toPys a))
    simp only [PyData.shown]
    omega
  | .lst a, h => by
    simp only [toPy, T.rlen] at *
    obtain ⟨h1, h2, h3⟩ := showns_rlen a (by omega)
    refine ⟨?_, h2, h3⟩
    have := list_text (PyData.shownAll (toPys a))
    simp only [PyData.shown]
    omega
  | .dct _, h => by simp [T.rlen, L] at h
  | .rp _, h => by simp [T.rlen, L] at h
theorem showns_rlen : ∀ (ds : List T), T.rlens ds ≤ L → piled (PyData.shownAll (toPys ds)) ≤ T.rlens ds ∧ PyData.showableAll (toPys ds) = true ∧ PyData.hasDictAll (toPys ds) = false
  | [], _ => ⟨by simp [toPys, PyData.shownAll, piled_nil, T.rlens], rfl, rfl⟩
  | d :: r, h => by
    simp only [T.rlens] at h
    obtain ⟨a1, a2, a3⟩ := shown_rlen d (by omega)
    obtain ⟨b1, b2, b3⟩ := showns_rlen r (by omega)
    refine ⟨?_, ?_, ?_⟩
    · simp only [toPys, PyData.shownAll, piled_cons, T.rlens]; omega
    · simp only [toPys, PyData.showableAll, a2, b2, Bool.and_self]
    · simp only [toPys, PyData.hasDictAll, a3, b3, Bool.or_self]
end
section
variable {tb : Tab} {G : FEnv} {CA : Tags} {XR : XRel} {k : Nat} {N : List Str} {sc : Scope} {own : Str → Bool} {X : Cx} {W : WX}
variable {a b c e : Expr} {es : List Expr} {pos pos' p : Pos} {f g h : CE}
theorem se_repr (C : Cq tb G CA XR k N sc own X W) (h : bltB tb sc "repr" = true) (ha : SE CA XR X W a f) (hs : starEach [a] X.env = (false, eval a X.env) :: starEach [] X.env := by rfl) : SE CA XR X W (.Call (.Name "repr" p) [a] [] pos) (e1 reprV f) := by
  refine call1 C.toCw h (CallR.or (call_reprD C.room.gd) call_reprI) (by decide +kernel) (fun σ x m st H v Q S r q => ?_) ha hs
  unfold reprV at q
  cases e : deep st deepMax x with
  | none => rw [e] at q; exact q.elim
  | some d =>
    rw [e] at q
    dsimp only at q
    split at q
    · rename_i hz
      obtain ⟨h1, h2, h3⟩ := hz
      obtain ⟨a1, a2, a3⟩ := shown_rlen d h3
      have hD := (deep_dp S deepMax).1 x v d 60 e h2 r
      have hdp := depth_le 60 d h2
      have hu := C.un
      have z : (toPy d).shown.length ≤ sizeLine := lineOf (by omega)
      have qq : Q (.str (PyData.shown (toPy d))) H := PR.here S q _ rfl
      cases d with
      | tup ts =>
        have hv : ∃ a, v = .ref a := by
          simp only [toPy] at hD
          cases hD with
          | tup _ _ => exact ⟨_, rfl⟩
        obtain ⟨a, rfl⟩ := hv
        exact .inl ⟨a, _, rfl, hD, a2, a3, by omega, z, qq⟩
      | lst ts =>
        have hv : ∃ a, v = .ref a := by
          simp only [toPy] at hD
          cases hD with
          | lst _ _ => exact ⟨_, rfl⟩
        obtain ⟨a, rfl⟩ := hv
        exact .inl ⟨a, _, rfl, hD, a2, a3, by omega, z, qq⟩
      | int i =>
        have hv : v = .int i := by
          simp only [toPy] at hD
          cases hD; rfl
        subst hv
        refine .inr ⟨i, rfl, ?_, ?_⟩
        · simp only [toPy, PyData.showable, decide_eq_true_eq] at a2; exact a2
        · simpa only [toPy, PyData.shown] using qq
      | _ => simp [reprOk] at h1
    · exact q.elim
end
end Fl
set_option Elab.async false
set_option linter.all false
set_option maxRecDepth 100000
set_option maxHeartbeats 4000000
/-! Fl over the layer: list comprehensions of two clauses; nothing raised within. -/
namespace Fl
open PySem PySem.Spec L2
abbrev W0 : WX := fun _ _ _ _ => False
theorem PR.calm {α : Type} {K : PySem.W.Frag} {CA : Tags} {XR : XRel} {W : WX} {σ σ' : L2.St} {f : M α} {m : Mp} {st : Store} {H : Hp} {ok : α → Mp → Store → Hp → Prop} (h : PR K CA XR W σ (calmR f st) m st H ok) : PR K CA XR W0 σ' (f st) m st H ok := by
  unfold calmR at h
  cases e : f st with
  | ok a s => rw [e] at h; exact h
  | exc x s => rw [e] at h; exact h.elim
  | bad => rw [e] at h; exact h.elim
section
variable {tb : Tab} {G : FEnv} {CA : Tags} {XR : XRel} {k : Nat} {N : List Str} {sc : Scope} {own : Str → Bool} {X : Cx} {W : WX}
end
end Fl
set_option Elab.async false
set_option linter.all false
set_option maxRecDepth 100000
set_option maxHeartbeats 4000000
/-! Fl over the layer: comprehensions of two clauses as values, and stored. -/
namespace Fl
open PySem PySem.Spec L2
section
variable {tb : Tab} {G : FEnv} {CA : Tags} {XR : XRel} {k : Nat} {N : List Str} {sc : Scope} {own : Str → Bool} {X : Cx} {W : WX}
variable {elt tg iter tg1 iter1 : Expr} {ifs ifs1 : List Expr} {scope : Scope} {ownL : List (Str × Nat)} {own1 : List Nat} {pos spos py : Pos} {im im1 : CI} {gm gm1 : CG} {tt tt1 : Option CT} {fm : CE}
end
end Fl
set_option Elab.async false
set_option linter.all false
set_option maxRecDepth 100000
set_option maxHeartbeats 2000000
/-! Fl: a name's cell becomes a tree behind a statement; two names stored at once. -/
namespace Fl
/-- the name's list is written no more -/
def sFz (i : Nat) : SM := fun ρ s => match ρ[i]? with
  | some (some (.loc n)) => match freeze (.loc n) s with
    | .ok v s' => .nx (ρ.set i (some v)) s'
    | _ => .nx ρ s
  | _ => .nx ρ s
open PySem PySem.Spec L2
section
variable {tb : Tab} {G : FEnv} {CA : Tags} {XR : XRel} {k : Nat} {N : List Str} {sc : Scope} {own : Str → Bool} {X : Cx} {W : WX}
variable {a b : Expr} {s : Stmt} {f : SM} {fa fb : CE}
theorem fz_ok {K : PySem.W.Frag} {D : Ends} {m : Mp} {st : Store} {H : Hp} {ρ : Env} {σ : L2.St} {i : Nat} (S : SR K CA m st H) (E : ER K m st H ρ σ) (h : PO K CA XR W D m st H (sFz i ρ st)) : D.nx σ H := by
  unfold sFz at h
  have no : PO K CA XR W D m st H (.nx ρ st) → D.nx σ H := fun q => q m H σ S Step.refl E
  split at h
  · rename_i n en
    rcases frz_core S n with e | ⟨d, e, rd⟩
    · rw [e] at h
      exact no h
    · rw [e] at h
      obtain ⟨v, ev, rv⟩ := E.get en
      obtain ⟨n1, rfl⟩ := rv
      obtain ⟨T, S'⟩ := S.drop n
      have E2 := ER.set (E.mono T) (w := .t d) rd i
      have hs : σ.set i (some (.ref (m n))) = σ := by
        refine List.ext_getElem? fun j => ?_
        by_cases hj : i = j
        · subst hj
          rw [List.getElem?_set_self (List.getElem?_eq_some_iff.mp ev).1, ev]
        · rw [List.getElem?_set_ne hj]
      rw [hs] at E2
      exact h m H σ S' T E2
  · exact no h
/-- .. behind a statement -/
theorem ss_fz (i : Nat) (h : S1 CA XR X W s f) : S1 CA XR X W s (sSeq f (sFz i)) := by
  refine PS.weak h fun D σ H ⟨m, st, ρ, S, E, q⟩ => ⟨m, st, ρ, S, E, ?_⟩
  unfold sSeq at q
  cases e : f ρ st with
  | nx ρ' s' =>
    rw [e] at q
    intro m' H' σ' S' T' E'
    exact fz_ok S' E' (PO.step (st1 := s') q T')
  | _ => rw [e] at q; exact q
end
end Fl
set_option Elab.async false
set_option linter.all false
set_option maxRecDepth 100000
set_option maxHeartbeats 4000000
/-! Fl over the layer: walks of lists that may be written meanwhile. -/
namespace Fl
/-- what comes at i: none: not told; some none: the end -/
abbrev Nxt := Nat → Store → Option (Option (Val × Store))
def nxtS (vs : List Val) : Nxt := fun i s => some (vs[i]?.map fun v => (v, s))
/-- enumerate -/
def nxtE (n : Nat) : Nxt := fun i s => match s.cell n with
  | some (.lst vs) => some (vs[i]?.map fun v => match v with
    | .t d => (.t (.tup [.int i, d]), s)
    | v => (.loc s.length, s ++ [some (.tup [vI i, v])]))
  | _ => none
abbrev CN := Env → M Nxt
def nE (a : CE) : CN := fun ρ => a ρ >>= fun v s => match v with
  | .t (.lst ts) => .ok (nxtS (enumT 0 ts)) s
  | .loc n => match s.cell n with
    | some (.lst _) => .ok (nxtE n) s
    | _ => .bad
  | _ => .bad
def compN (nxt : Nxt) (g : CG) (c : Option CT) (f : CE) (ρ : Env) : Nat → Nat → List Val → M (List Val)
  | 0, _, _ => bad
  | k + 1, i, acc => fun s => match nxt i s with
    | none => .bad
    | some none => .ok acc s
    | some (some (v, s')) => (g v ρ s').bind fun ρ' => testM c ρ' >>= fun b => if b then f ρ' >>= fun x => compN nxt g c f ρ k (i + 1) (acc ++ [x]) else compN nxt g c f ρ k (i + 1) acc
def eCompN (cell : Bool) (own : List Nat) (it : CN) (g : CG) (c : Option CT) (f : CE) : CE := fun ρ => it ρ >>= fun nxt => compN nxt g c f (wipeE ρ own) L 0 [] >>= newL cell
open PySem PySem.Spec L2
def WkN (K : PySem.W.Frag) (CA : Tags) (J : It) (nxt : Nxt) (m : Mp) (st : Store) (H : Hp) : Prop := ∀ i m' st' H', SR K CA m' st' H' → Step m st H m' st' H' → match nxt i st' with
  | none => True
  | some none => J.stop i H'
  | some (some (w, st2)) => J.go i H' ∧ ∀ x H2, J.yld i H' x H2 → ∃ m2, SR K CA m2 st2 H2 ∧ Step m' st' H' m2 st2 H2 ∧ RepV K m2 st2 H2 w x
section
variable {tb : Tab} {G : FEnv} {CA : Tags} {XR : XRel} {k : Nat} {N : List Str} {sc : Scope} {own : Str → Bool} {X : Cx} {W : WX}
theorem lc_coreN (C : Cq tb G CA XR k N sc own X W) {pins : List (Addr × Obj)} {s : Shared} {σ : L2.St} {H : Hp} {Q : VK} {elt tg iter : Expr} {ifs : List Expr} {scope : Scope} {ownL : List (Str × Nat)} {pos pos' : Pos} {wi : TI} {use : Option (Value → Sem Unit)} {Qf : Value → Shared → Prop}
    {cell : Bool} {gm : CG} {tt : Option CT} {fm : CE} (hin : GIn (ownL.map (·.2)) gm) (I : Inv X pins σ H s) (hi : PI X tg iter wi) (ok : BlkOk N sc scope ownL)
    (hg : ∀ X' W', Cq tb G CA XR k N (relS scope sc) (blkOwn scope) X' W' → SG CA XR X' W' tg gm)
    (ht : ∀ X' W', Cq tb G CA XR k N (relS scope sc) (blkOwn scope) X' W' → PTs X' ifs (tMT X'.K CA XR W' (testM tt)))
    (he : ∀ X' W', Cq tb G CA XR k N (relS scope sc) (blkOwn scope) X' W' → SE CA XR X' W' elt fm) (hs : ∀ x, foldedSetIterable iter X.env x = pure x)
    (h : wi σ H fun J H1 => ∃ nxt m st ρ, WkN X.K CA J nxt m st H1 ∧ SR X.K CA m st H1 ∧ ER X.K m st H1 ρ σ ∧
      PR X.K CA XR W σ ((compN nxt gm tt fm (wipeE ρ (ownL.map (·.2))) L 0 [] >>= newL cell) st) m st H1 fun a m' st' H' => ∀ v, RepV X.K m' st' H' a v → Q v H')
    (hRR : ∀ D (ce : PySem.Env) s' m H', Inv X pins σ H' s' → Q (.ref D) H' → s'.heap.Ns ce.locals m → FpOk X pins H' ce.locals → cpost (model X.prog X.w) X.A X.xe use Qf (.ref D) ce (.ok .next) s') :
    wpAny (model X.prog X.w) X.A (comprehension (.ListComp elt [⟨tg, iter, ifs, 0⟩] scope pos) scope X.env pos' (newList []) false (eval iter X.env) use) Qf X.xe s := by
  obtain ⟨F, hF, hst, tk⟩ := C.takes
  have okX : BlkOk X.N X.env.scope scope ownL := by rw [C.nm, C.sc]; exact ok
  have ndX : X.N.Nodup := by rw [C.nm]; exact C.nd
  have free : ∀ y ∈ scope.names, y.2 = .free → ∃ c, X.env.cells.lookup y.1 = some c := by
    intro y hy e
    rcases okX.free y hy e with z | z
    · exact I.ok.has _ (.inl z)
    · exact I.ok.has _ (.inr z)
  refine comp_free (use := use) rfl hs (closure_ok free) ok.kind (fun y hy e => by rw [ok.uniq y hy, e]) (thn (hi.run pins s σ H _ I h) fun xv s1 hx => thn hx ?_)
  rintro itv s2 ⟨it, fp, tn, J, H2, rfl, I2, T, st2, f2, nxt, m0, st0, ρ0, wk, S0, E0, q0⟩
  refine wpAny_newObj_type (newEnv_comp ?_) (by show 0 ≤ sizeLine; decide)
  obtain ⟨D, hD⟩ : ∃ D, D = s2.heap.objs.size := ⟨_, rfl⟩
  rw [← hD]
  have hDn : H2 D = none := I2.hok.fresh (Nat.le_of_eq hD.symm)
  obtain ⟨s3, hs3⟩ : ∃ s3 : Shared, s3 = { s2 with heap := s2.heap.push { cls := .type "list", data := .seq ([] : List Value).toArray } } := ⟨_, rfl⟩
  rw [← hs3]
  have h3 : s3.heap = s2.heap.push { cls := .type "list", data := .seq ([] : List Value).toArray } := by rw [hs3]
  have D3 : s3.heap.get? D = some { cls := .type "list", data := .seq ([] : List Value).toArray } := by rw [h3, hD]; exact Heap.get?_push_size _ rfl
  have I3 : Inv X pins σ H2 s3 := by rw [hs3]; exact I2.kept (t' := s2.toks) fun b o e => Heap.get?_push_of_some _ e
  have fD : FpOk X pins H2 D := I2.fpOk (Nat.le_of_eq hD.symm) hDn
  have sz : ∀ b ∈ fp, b < s2.heap.objs.size := fun b hb => by
    obtain ⟨o, e, _⟩ := T.obj _ _ st2 b hb
    exact Heap.lt_size e
  have fpD : ∀ b ∈ D :: fp, FpOk X pins H2 b ∧ b < s3.heap.objs.size := fun b hb => by
    rcases List.mem_cons.mp hb with z | z
    · subst z; exact ⟨fD, Heap.lt_size D3⟩
    · exact ⟨f2 b z, by rw [h3, Heap.size_push]; exact Nat.lt_succ_of_lt (sz b z)⟩
  have Dfp : ∀ b ∈ fp, D ≠ b := fun b hb z => by have := sz b hb; rw [← z, hD] at this; exact absurd this (Nat.lt_irrefl _)
  have st3 : tn 0 s3.heap := T.keep _ _ _ st2 fun b _ o e => by rw [h3]; exact Heap.get?_push_of_some _ e
  have I4 := block_start I3 okX ndX fpD
  have Cb := fun cl A => block_ctx C hF hst s3 H2 σ scope cl A (D :: fp)
  obtain ⟨cl, hcl⟩ : ∃ cl, cl = cellsFrom (s3.heap.objs.size + 1) scope.names (cloFrom X.env.cells scope.names []) := ⟨_, rfl⟩
  rw [← hcl] at I4 ⊢
  obtain ⟨ce, hce⟩ : ∃ ce, ce = compEnvC scope cl s3.heap.objs.size X.env := ⟨_, rfl⟩
  have Cb := Cb cl s3.heap.objs.size
  rw [← hce] at I4 Cb
  have cL : ce.locals = s3.heap.objs.size := by rw [hce]; rfl
  have cF : ce.frame = X.env.frame := by rw [hce]; rfl
  have air := fun (acc : Value) (e : Value) (s' : Shared) => block_air (W := W) (scope := scope) (acc := acc) (use := use) (Qf := Qf) I3 hF hst tk cL cF (fun b hb => (fpD b hb).1) (e := e) (s' := s')
  obtain ⟨Y, hY⟩ : ∃ Y : Cx, Y = X.blk s3 H2 scope ce (D :: fp) := ⟨_, rfl⟩
  rw [← hY] at I4 Cb air
  show codeAny (model X.prog X.w) X.A (.compStart (.ListComp elt [⟨tg, iter, ifs, 0⟩] scope pos) 0 (.ref it) (.ref D) (compEnvC scope cl s3.heap.objs.size X.env)) (cpost (model X.prog X.w) X.A X.xe use Qf (.ref D) (compEnvC scope cl s3.heap.objs.size X.env)) { s3 with heap := pushCells (s3.heap.push { cls := .type "dict", data := .dict #[] }) scope.names }
  rw [← hce]
  obtain ⟨s4, hs4⟩ : ∃ s4 : Shared, s4 = { s3 with heap := pushCells (s3.heap.push { cls := .type "dict", data := .dict #[] }) scope.names } := ⟨_, rfl⟩
  rw [← hs4] at I4 ⊢
  have keep4 : ∀ b o, s3.heap.get? b = some o → s4.heap.get? b = some o := fun b o e => by rw [hs4]; exact pushCells_keeps _ _ _ _ (Heap.get?_push_of_some _ e)
  have st4 : tn 0 s4.heap := T.keep _ _ _ st3 fun b _ o e => keep4 b o e
  -- the context with its wish
  obtain ⟨Z, hZ⟩ : ∃ Z : Cx, Z = Y.wish fun u s' => XEL Y F (fun c d _ H => W c d σ H) u s' := ⟨_, rfl⟩
  rw [← hZ] at Cb
  have I4 : Inv Z [] (wipe σ (ownL.map (·.2))) H2 s4 := by rw [hZ]; exact I4.wish _
  have zP : Z.prog = X.prog := by rw [hZ, hY]
  have zw : Z.w = X.w := by rw [hZ, hY]
  have zK : Z.K = X.K := by rw [hZ, hY]
  have zA : Z.A = X.A := by rw [hZ, hY]
  have zx : Z.ex = D :: fp := by rw [hZ, hY]
  have zn : Z.pn = [] := by rw [hZ, hY]
  have ze : Z.env = ce := by rw [hZ, hY]
  have hc : Z.calm = true := Cb.calm
  have zair : ∀ (e : Value) (s' : Shared), Z.xe e s' → notedBy (model X.prog X.w) X.A ce (fun e s'' => cpost (model X.prog X.w) X.A X.xe use Qf (.ref D) ce (.error e) s'') e s' := fun e s' x => air _ e s' (by rw [hZ] at x; exact x)
  have stat : ∀ {pl : List (Addr × Obj)} {σ' : L2.St} {H' : Hp} {s' : Shared}, Inv Z [] σ' H' s' → (∀ p ∈ pl, p.1 = D) → (∀ b ∈ fp, H' b = none) → ∀ b ∈ fp, FpOk Z pl H' b := by
    intro pl σ' H' s' I' hpl hn b hb
    have hb' : b ∈ Z.ex := by rw [zx]; exact List.mem_cons_of_mem _ hb
    refine ⟨hn b hb, (I'.ok.exf b hb').1, I'.ok.exfs b hb', .inl hb', fun x c e => (I'.ok.exf b hb').2 x c e, fun p hp => ?_⟩
    rw [zn, List.nil_append] at hp
    rw [hpl p hp]
    exact Dfp b hb
  have pg := hg Z _ Cb
  have pt := ht Z _ Cb
  have pe := he Z _ Cb
  have q0' : PR X.K CA XR (fun c d _ H => W c d σ H) (wipe σ (ownL.map (·.2))) ((compN nxt gm tt fm (wipeE ρ0 (ownL.map (·.2))) L 0 [] >>= newL cell) st0) m0 st0 H2 fun a m' st' H' => ∀ v, RepV X.K m' st' H' a v → Q v H' := q0.reW fun _ _ _ z => z
  have Ew := ER.wipe E0 (ownL.map (·.2))
  -- what holds at each turn
  let V : Nat → Nat → Hp → List L2.V → L2.St → Prop := fun i n H' av σi => n + i = L ∧ ∃ m st acc, SR X.K CA m st H' ∧ ER X.K m st H' (wipeE ρ0 (ownL.map (·.2))) σi ∧ Step m0 st0 H2 m st H' ∧ RepVs X.K m st H' acc av ∧ acc.length ≤ i ∧
    PR X.K CA XR (fun c d _ H => W c d σ H) (wipe σ (ownL.map (·.2))) ((compN nxt gm tt fm (wipeE ρ0 (ownL.map (·.2))) n i acc >>= newL cell) st) m st H' fun a m' st' H' => ∀ v, RepV X.K m' st' H' a v → Q v H'
  have loop : codeAny (model X.prog X.w) X.A (.compLoop (.ListComp elt [⟨tg, iter, ifs, 0⟩] scope pos) 0 (.ref it) (.ref D) ce) (cpost (model X.prog X.w) X.A X.xe use Qf (.ref D) ce) s4 := by
    refine compLoop_any (fun n s' => ∃ i H' its av c0 σi, Inv Z [] σi H' s' ∧ tn i s'.heap ∧ (∀ b ∈ fp, H' b = none) ∧ H' D = none ∧ s'.heap.get? D = some { cls := .type "list", data := .seq (its : List Value).toArray c0 } ∧ Vals av its ∧ V i n H' av σi) ?_ L
      ⟨0, H2, [], [], 0, _, I4, st4, fun b hb => (f2 b hb).1, hDn, keep4 _ _ D3, .nil, rfl, m0, st0, [], S0, Ew, Step.refl, rfl, Nat.zero_le _, q0'⟩
    rintro n s5 ⟨i, H5, its, av, c0, σi, I5, st5, n5, nD5, D5, va, hni, m5, st5', acc, S5, E5, T5, ra, hacc, q5⟩
    have hDZ : D ∈ Z.ex := by rw [zx]; exact List.mem_cons_self
    have pinD : Inv Z [(D, { cls := .type "list", data := .seq its.toArray c0 })] σi H5 s5 := by
      refine I5.pins_of fun p hp => ?_
      obtain rfl : p = (D, { cls := .type "list", data := .seq its.toArray c0 }) := by simpa using hp
      exact ⟨D5, nD5, (I5.ok.exf D hDZ).1, I5.ok.exfs D hDZ, fun v z => by have z' : Data.seq its.toArray c0 = .cell v := z; cases z'⟩
    have pD : ∀ p ∈ [(D, ({ cls := .type "list", data := .seq its.toArray c0 } : Obj))], p.1 = D := fun p hp => by
      obtain rfl : p = (D, { cls := .type "list", data := .seq its.toArray c0 }) := by simpa using hp
      rfl
    have wk5 := wk i m5 st5' H5 S5 T5
    cases n with
    | zero => exact (show False from q5).elim
    | succ n =>
    rw [bind_eq, compN] at q5
    dsimp only at q5
    cases en : nxt i st5' with
    | none => rw [en] at q5; exact (show False from q5).elim
    | some o => cases o with
    | some wst =>
      obtain ⟨w, stY⟩ := wst
      rw [en] at q5 wk5
      obtain ⟨go, yl⟩ := wk5
      have ti := T.item Z zP zw zK hc i _ s5 _ H5 (fun _ _ => False) pinD (stat I5 pD n5) st5 go
      rw [zA] at ti
      refine thnF ti ?_
      rintro r s6 ⟨u, rfl, h6⟩
      refine thnF h6 ?_
      rintro _ s7 ⟨x, H7, I7, r7, y7, st7, n7⟩
      obtain ⟨m7, S7, T7, rx⟩ := yl x H7 y7
      have I7' := I7.pinned (stat (I7.pins_of fun p hp => absurd hp (by simp)) pD n7) (T.obj _ _ st7)
      have E7 := E5.mono T7
      let rest : Env → Store → R Val := fun ρ' s => (testM tt ρ' s).bind fun b s => ((if b then fm ρ' >>= fun x => compN nxt gm tt fm (wipeE ρ0 (ownL.map (·.2))) n (i + 1) (acc ++ [x]) else compN nxt gm tt fm (wipeE ρ0 (ownL.map (·.2))) n (i + 1) acc) s).bind (newL cell)
      have q5 : PR X.K CA XR (fun c d _ H => W c d σ H) (wipe σ (ownL.map (·.2))) (((gm w (wipeE ρ0 (ownL.map (·.2))) stY).bind fun ρ' => testM tt ρ' >>= fun b => if b then fm ρ' >>= fun x => compN nxt gm tt fm (wipeE ρ0 (ownL.map (·.2))) n (i + 1) (acc ++ [x]) else compN nxt gm tt fm (wipeE ρ0 (ownL.map (·.2))) n (i + 1) acc).bind (newL cell)) m5 st5' H5 fun a m' st' H' => ∀ v, RepV X.K m' st' H' a v → Q v H' := q5
      have e : ((gm w (wipeE ρ0 (ownL.map (·.2))) stY).bind fun ρ' => testM tt ρ' >>= fun b => if b then fm ρ' >>= fun x => compN nxt gm tt fm (wipeE ρ0 (ownL.map (·.2))) n (i + 1) (acc ++ [x]) else compN nxt gm tt fm (wipeE ρ0 (ownL.map (·.2))) n (i + 1) acc).bind (newL cell) = (gm w (wipeE ρ0 (ownL.map (·.2))) stY).bind rest := by
        cases gm w (wipeE ρ0 (ownL.map (·.2))) stY with
        | exc y t => rfl
        | bad => rfl
        | ok ρ' t =>
          show ((testM tt ρ' t).bind _).bind _ = rest ρ' t
          show _ = (testM tt ρ' t).bind _
          cases testM tt ρ' t with
          | exc y t => rfl
          | bad => rfl
          | ok b t => rfl
      rw [e] at q5
      have q7 := q5.step T7
      have g7 : tG Z.K CA XR (fun c d _ H => W c d σ H) gm x σi H7 fun σ8 H8 => ∃ m8 st8 ρ8, SR X.K CA m8 st8 H8 ∧ Step m7 stY H7 m8 st8 H8 ∧ ER X.K m8 st8 H8 ρ8 σ8 ∧ wipeE ρ8 (ownL.map (·.2)) = wipeE ρ0 (ownL.map (·.2)) ∧
          PR X.K CA XR (fun c d _ H => W c d σ H) (wipe σ (ownL.map (·.2))) (rest ρ8 st8) m8 st8 H8 fun a m' st' H' => ∀ v, RepV X.K m' st' H' a v → Q v H' := by
        rw [zK]
        exact ⟨m7, stY, _, w, S7, E7, rx, ((PR.bind_of q7).reW fun _ _ _ z => z).some fun ρ8 st8 e8 m8 H8 S8 T8 h8 σ8 E8 => ⟨m8, st8, ρ8, S8, T8, E8, wipe_back hin e8, h8⟩⟩
      have run1 := pg.run _ s7 _ H7 x u _ I7' r7 g7
      rw [zP, zw, zA, ze] at run1
      refine wpAny_mono run1 (fun _ s8 hq => ?_) fun e s' x => zair e s' x
      obtain ⟨σ8, H8, I8, m8, st8, ρ8, S8, T8, E8, w8, q8⟩ := hq
      have t8 : tMT Z.K CA XR (fun c d _ H => W c d σ H) (testM tt) σ8 H8 fun b H9 => ∃ m9 st9, SR X.K CA m9 st9 H9 ∧ Step m7 stY H7 m9 st9 H9 ∧ ER X.K m9 st9 H9 ρ8 σ8 ∧
          PR X.K CA XR (fun c d _ H => W c d σ H) (wipe σ (ownL.map (·.2))) (((if b then fm ρ8 >>= fun x => compN nxt gm tt fm (wipeE ρ0 (ownL.map (·.2))) n (i + 1) (acc ++ [x]) else compN nxt gm tt fm (wipeE ρ0 (ownL.map (·.2))) n (i + 1) acc) st9).bind (newL cell)) m9 st9 H9 fun a m' st' H' => ∀ v, RepV X.K m' st' H' a v → Q v H' := by
        rw [zK]
        exact ⟨m8, st8, ρ8, S8, E8, ((PR.bind_of q8).reW fun _ _ _ z => z).mono fun b m9 st9 H9 S9 T9 h9 => ⟨m9, st9, S9, T8.trans T9, E8.mono T9, h9⟩⟩
      have run2 := pt.run _ s8 σ8 H8 _ I8 t8
      rw [zP, zw, zA, ze] at run2
      refine wpAny_mono run2 (fun b s9 hq => ?_) fun e s' x => zair e s' x
      obtain ⟨H9, I9, m9, st9, S9, T9, E9, q9⟩ := hq
      have T5' := T5.trans T7
      -- a turn's end
      have fin : ∀ {s' : Shared} {H' : Hp} {its' : List Value} {av' : List L2.V} {c' : Nat}, Inv Z (pinsAt fp s7.heap) σ8 H' s' → H' D = none → s'.heap.get? D = some { cls := .type "list", data := .seq its'.toArray c' } → Vals av' its' → V (i + 1) n H' av' (wipe σ8 (ownL.map (·.2))) →
          ∃ n', n' < n + 1 ∧ ∃ i H' its av c0 σi, Inv Z [] σi H' s' ∧ tn i s'.heap ∧ (∀ b ∈ fp, H' b = none) ∧ H' D = none ∧ s'.heap.get? D = some { cls := .type "list", data := .seq (its : List Value).toArray c0 } ∧ Vals av its ∧ V i n' H' av σi := by
        intro s' H' its' av' c' I' nD gD va' hV
        have pin' : ∀ b ∈ fp, ∀ o, s7.heap.get? b = some o → s'.heap.get? b = some o ∧ H' b = none := fun b hb o e =>
          let z := I'.pin (b, o) (List.mem_append_right _ (mem_pinsAt hb e))
          ⟨z.1, z.2.1⟩
        refine ⟨n, by omega, i + 1, H', its', av', c', _, (I'.pins_of fun p hp => absurd hp (by simp)).weak (wipe_length _ _) (fun j v e => (wipe_some e).1), T.keep _ _ _ st7 fun b hb o e => (pin' b hb o e).1, fun b hb => ?_, nD, gD, va', hV⟩
        obtain ⟨o, e, _⟩ := T.obj _ _ st7 b hb
        exact (pin' b hb o e).2
      have dpin : ∀ {σ' : L2.St} {H' : Hp} {s' : Shared}, Inv Z ([(D, { cls := .type "list", data := .seq its.toArray c0 })] ++ pinsAt fp s7.heap) σ' H' s' → s'.heap.get? D = some { cls := .type "list", data := .seq its.toArray c0 } ∧ H' D = none ∧ Inv Z (pinsAt fp s7.heap) σ' H' s' := fun I' =>
        let z := I'.pin (D, { cls := .type "list", data := .seq its.toArray c0 }) (List.mem_append_right _ (List.mem_append_left _ (by simp)))
        ⟨z.1, z.2.1, I'.pins_of fun p hp => I'.pin p (List.mem_append_right _ (List.mem_append_right _ hp))⟩
      cases b with
      | false =>
        simp only [Bool.false_eq_true, if_false] at q9 ⊢
        obtain ⟨d1, d2, d3⟩ := dpin I9
        refine fin d3 d2 d1 va ⟨by omega, m9, st9, acc, S9, ?_, T5'.trans T9, RepVs.mono (T7.trans T9) _ _ ra, by omega, q9⟩
        have := ER.wipe E9 (ownL.map (·.2))
        rwa [w8] at this
      | true =>
        simp only [if_true] at q9 ⊢
        have t10 : tM Z.K CA XR (fun c d _ H => W c d σ H) fm σ8 H9 fun y H10 => ∃ m10 st10 x, SR X.K CA m10 st10 H10 ∧ Step m7 stY H7 m10 st10 H10 ∧ ER X.K m10 st10 H10 ρ8 σ8 ∧ RepV X.K m10 st10 H10 x y ∧
            PR X.K CA XR (fun c d _ H => W c d σ H) (wipe σ (ownL.map (·.2))) ((compN nxt gm tt fm (wipeE ρ0 (ownL.map (·.2))) n (i + 1) (acc ++ [x]) >>= newL cell) st10) m10 st10 H10 fun a m' st' H' => ∀ v, RepV X.K m' st' H' a v → Q v H' := by
          rw [zK]
          have e10 : ((fm ρ8 >>= fun x => compN nxt gm tt fm (wipeE ρ0 (ownL.map (·.2))) n (i + 1) (acc ++ [x])) st9).bind (newL cell) = (fm ρ8 st9).bind fun x => compN nxt gm tt fm (wipeE ρ0 (ownL.map (·.2))) n (i + 1) (acc ++ [x]) >>= newL cell := by
            rw [bind_eq]
            cases fm ρ8 st9 with
            | exc y t => rfl
            | bad => rfl
            | ok b t => rfl
          rw [e10] at q9
          exact ⟨m9, st9, ρ8, S9, E9, ((PR.bind_of q9).reW fun _ _ _ z => z).mono fun x m10 st10 H10 S10 T10 h10 v rv => ⟨m10, st10, x, S10, T9.trans T10, E9.mono T10, rv, h10⟩⟩
        have run3 := pe.run _ s9 σ8 H9 _ I9 t10
        rw [zP, zw, zA, ze] at run3
        refine wpAny_mono run3 (fun y s10 hq => ?_) fun e s' x => zair e s' x
        obtain ⟨yv, H10, I10, ry, m10, st10, xw, S10, T10, E10, rx10, q10⟩ := hq
        obtain ⟨d1, d2, d3⟩ := dpin I10
        have hav : av.length < L := by rw [← ra.length]; omega
        have tr : Inv Z (pinsAt fp s7.heap) σ8 (upd H10 D (.lst av)) s10 := by
          refine take_in d3 d2 ⟨lineOf (Nat.le_of_lt hav), its, c0, va, d1⟩ (.inl hDZ) (d3.ok.exf D hDZ).1 (fun x c e => (d3.ok.exf D hDZ).2 x c e) fun p hp => ?_
          rw [zn, List.nil_append] at hp
          exact fun z => Dfp p.1 (of_pinsAt hp).1 z.symm
        have ap := app_ok (X := Z) (E := notedBy (model X.prog X.w) X.A ce fun e s'' => cpost (model X.prog X.w) X.A X.xe use Qf (.ref D) ce (.error e) s'') (v := y) (y := yv) (Q := fun _ s' => ∃ n', n' < n + 1 ∧ ∃ i H' its av c0 σi, Inv Z [] σi H' s' ∧ tn i s'.heap ∧ (∀ b ∈ fp, H' b = none) ∧ H' D = none ∧
          s'.heap.get? D = some { cls := .type "list", data := .seq (its : List Value).toArray c0 } ∧ Vals av its ∧ V i n' H' av σi) tr upd_same (lineLt hav) ry fun s11 I11 => ?_
        · rw [zP, zw, zA] at ap
          exact ap
        · rw [upd_upd] at I11
          obtain ⟨_, its2, c2, va2, g2⟩ := (show ObjOk Z.prog Z.w _ s11.heap D (.lst (av ++ [yv])) from I11.hok D _ upd_same)
          refine fin (let_out I11 d2 (.inl ⟨_, rfl⟩)) d2 g2 va2 ⟨by omega, m10, st10, acc ++ [xw], S10, ?_, T5'.trans T10, RepVs.append (RepVs.mono (T7.trans T10) _ _ ra) (show RepVs X.K m10 st10 H10 [xw] [yv] from ⟨yv, [], rfl, rx10, rfl⟩), by rw [List.length_append, List.length_singleton]; omega, q10⟩
          have := ER.wipe E10 (ownL.map (·.2))
          rwa [w8] at this
    | none =>
      rw [en] at q5 wk5
      have stop : J.stop i H5 := wk5
      have q5 : PR X.K CA XR (fun c d _ H => W c d σ H) (wipe σ (ownL.map (·.2))) (newL cell acc st5') m5 st5' H5 fun a m' st' H' => ∀ v, RepV X.K m' st' H' a v → Q v H' := q5
      have td := T.done Z zP zw zK hc i _ s5 _ H5 (fun _ _ => False) pinD (stat I5 pD n5) st5 stop
      rw [zA] at td
      refine thnF td ?_
      rintro r s6 ⟨rfl, I6⟩
      have dp := I6.pin (D, { cls := .type "list", data := .seq its.toArray c0 }) (List.mem_append_right _ (by simp))
      rw [hZ, hY] at I6
      have I6 := I6.unwish
      have I7 : Inv X pins σ H5 s6 := I3.call' (ch := D :: fp) I6.os I6.base I6.hok I6.bare fun b hb => ⟨(fpD b hb).1.2.2.2.1, (fpD b hb).1.2.1, (fpD b hb).1.2.2.2.2.1, (fpD b hb).1.2.2.2.2.2⟩
      have nC : H5 ce.locals = none := I6.free
      obtain ⟨mm, hns, _⟩ := I6.loc
      have hav : av.length ≤ L := by rw [← ra.length]; omega
      have I8 : Inv X pins σ (upd H5 D (.lst av)) s6 := take_in I7 dp.2.1 ⟨lineOf hav, its, c0, va, dp.1⟩ fD.2.2.2.1 fD.2.1 fD.2.2.2.2.1 fD.2.2.2.2.2
      have qq : Q (.ref D) (upd H5 D (.lst av)) := newL_ok (W := fun c d _ H => W c d σ H) (σ := wipe σ (ownL.map (·.2))) S5 ra (by omega) q5 D dp.2.1
      have neD : ce.locals ≠ D := by
        rw [cL]
        exact Nat.ne_of_gt (Heap.lt_size D3)
      refine hRR D ce s6 mm _ I8 qq hns ?_
      rw [cL] at nC neD ⊢
      exact I3.fpOk (Nat.le_refl _) (by rw [upd_ne neD]; exact nC)
  exact codeAny_compStart_list loop (T.self X.A 0 _ _ _ st4 loop)
end
end Fl
set_option Elab.async false
set_option linter.all false
set_option maxRecDepth 100000
set_option maxHeartbeats 4000000
/-! Fl over the layer: walks of lists that may be written meanwhile: their sources, comprehensions, loops. -/
namespace Fl
open PySem PySem.Spec L2
def tN (K : PySem.W.Frag) (CA : Tags) (XR : XRel) (W : WX) (f : CN) : TI := fun σ H R => ∃ m st ρ, SR K CA m st H ∧ ER K m st H ρ σ ∧
  PR K CA XR W σ (f ρ st) m st H fun nxt m1 st1 H1 => ∀ J, WkN K CA J nxt m1 st1 H1 → R J H1
abbrev SN (CA : Tags) (XR : XRel) (X : Cx) (W : WX) (tg it : Expr) (f : CN) : Prop := PI X tg it (tN X.K CA XR W f)
section
variable {K : PySem.W.Frag} {CA : Tags} {m : Mp} {st : Store} {H : Hp} {a : Addr} {us : List V} {ws : List Val} {J : It}
theorem Wk.n {vs : List Val} (w : Wk K CA J vs m st H) : WkN K CA J (nxtS vs) m st H := fun i m' st' H' S T => by
  unfold nxtS
  cases e : vs[i]? with
  | none =>
    exact w.stop i m' st' H' (by rw [List.getElem?_eq_none_iff] at e; exact e) S T
  | some v =>
    obtain ⟨h1, h2⟩ := w.go i v e m' st' H' S T
    exact ⟨h1, fun x H2 y => ⟨m', h2 x H2 y⟩⟩
theorem wkne {n : Nat} (hn : n < st.length) : WkN K CA (Ite K (m n)) (nxtE n) m st H := fun i m' st' H' S T => by
  unfold nxtE
  rw [← T.ag n hn]
  cases e : st'.cell n with
  | none => exact trivial
  | some c =>
    cases c with
    | lst vs =>
      obtain ⟨us, h, z, rs⟩ := S.cells n _ e
      dsimp only
      cases ei : vs[i]? with
      | none => exact ⟨us, .of h, by rw [← rs.length]; rw [List.getElem?_eq_none_iff] at ei; exact ei⟩
      | some v =>
        obtain ⟨u, e1, r⟩ := rs.get ei
        have go : (Ite K (m' n)).go i H' := ⟨us, u, .of h, e1⟩
        have new : ∀ tp, H' tp = none → ∃ m2, SR K CA m2 (st' ++ [some (.tup [vI i, v])]) (upd H' tp (.tup [.int (i : Nat), u])) ∧ Step m' st' H' m2 (st' ++ [some (.tup [vI i, v])]) (upd H' tp (.tup [.int (i : Nat), u])) ∧ RepV K m2 (st' ++ [some (.tup [vI i, v])]) (upd H' tp (.tup [.int (i : Nat), u])) (.loc st'.length) (.ref tp) := fun tp hp => by
          have T2 := S.cellStep (o := .tup [.int (i : Nat), u]) hp (.tup [vI i, v])
          refine ⟨mNew m' st' tp, S.newCell hp ⟨[.int (i : Nat), u], upd_same, by show 2 ≤ L; decide, .int (i : Nat), [u], rfl, rfl, u, [], rfl, RepV.mono T2 v u r, rfl⟩, T2, by simp, ?_⟩
          rw [mNew_same]
        cases v with
        | t d =>
          refine ⟨go, fun x H2 y => ?_⟩
          obtain ⟨tp, x0, rfl, hp, rfl, y⟩ := y
          have e2 := y us (.of h)
          rw [e1] at e2
          cases e2
          obtain ⟨T2, S2⟩ := S.fresh (o := .tup [.int (i : Nat), u]) hp
          exact ⟨m', S2, T2, tp, [.int (i : Nat), u], rfl, .inl ⟨upd_same, S.not_live hp⟩, by show 2 ≤ L; decide, .int (i : Nat), [u], rfl, rfl, u, [], rfl, Rep.mono T2.keep T2.lv d u r, rfl⟩
        | loc k =>
          refine ⟨go, fun x H2 y => ?_⟩
          obtain ⟨tp, x0, rfl, hp, rfl, y⟩ := y
          have e2 := y us (.of h)
          rw [e1] at e2
          cases e2
          exact new tp hp
        | scr k =>
          refine ⟨go, fun x H2 y => ?_⟩
          obtain ⟨tp, x0, rfl, hp, rfl, y⟩ := y
          have e2 := y us (.of h)
          rw [e1] at e2
          cases e2
          exact new tp hp
        | ex k =>
          refine ⟨go, fun x H2 y => ?_⟩
          obtain ⟨tp, x0, rfl, hp, rfl, y⟩ := y
          have e2 := y us (.of h)
          rw [e1] at e2
          cases e2
          exact new tp hp
    | _ => exact trivial
end
section
variable {tb : Tab} {G : FEnv} {CA : Tags} {XR : XRel} {k : Nat} {N : List Str} {sc : Scope} {own : Str → Bool} {X : Cx} {W : WX}
variable {a tg it elt iter : Expr} {ifs : List Expr} {scope : Scope} {ownL : List (Str × Nat)} {pos spos py p p2 : Pos} {im : CN} {gm : CG} {tt : Option CT} {fm f : CE} {bb : List Stmt} {fs : SM}
theorem sn_enum (C : Cw tb G CA XR k N sc own X W) {elts : List Expr} {kk : Nat} (hg : bltB tb sc "enumerate" = true) (ha : SE CA XR X W a f) (hs : starEach [a] X.env = (false, eval a X.env) :: starEach [] X.env := by rfl) :
    SN CA XR X W (.Tuple elts kk p2) (.Call (.Name "enumerate" p) [a] [] pos) (nE f) := by
  refine PI.weak (pi_enum (gl_of C (blt_gl hg)) (blt_mg C hg) (pa_cons ha pa_nil hs) hs) fun σ H R ⟨m, st, ρ, S, E, q⟩ => ⟨m, st, ρ, S, E, (PR.bind_of q).mono fun x m1 st1 H1 S1 T1 h1 v rv => ?_⟩
  split at h1
  · obtain ⟨ad, us, rfl, ⟨h2, h3⟩, z, rs⟩ := rv
    exact ⟨ad, us, rfl, .of h2, PR.here S1 h1 _ (wke (fun m' st' H' T => ⟨.of (T.same h2 h3 fun _ e => nomatch e), by rw [T.same h2 h3 fun _ e => nomatch e]; simp⟩) rs z).n⟩
  · rename_i n
    obtain ⟨hn, rfl⟩ := rv
    split at h1
    · rename_i vs e
      obtain ⟨us, h, z, rs⟩ := S1.cells n _ e
      exact ⟨m1 n, us, rfl, .of h, PR.here S1 h1 _ (wkne hn)⟩
    · exact h1.elim
  · exact h1.elim
theorem lcN_read {σ : L2.St} {H : Hp} {Q : VK} {cell : Bool} (h : tM X.K CA XR W (eCompN cell (ownL.map (·.2)) im gm tt fm) σ H Q) : tN X.K CA XR W im σ H fun J H1 => ∃ nxt m st ρ, WkN X.K CA J nxt m st H1 ∧ SR X.K CA m st H1 ∧ ER X.K m st H1 ρ σ ∧
    PR X.K CA XR W σ ((compN nxt gm tt fm (wipeE ρ (ownL.map (·.2))) L 0 [] >>= newL cell) st) m st H1 fun a m' st' H' => ∀ v, RepV X.K m' st' H' a v → Q v H' := by
  obtain ⟨m, st, ρ, S, E, q⟩ := h
  exact ⟨m, st, ρ, S, E, (PR.bind_of q).mono fun nxt m1 st1 H1 S1 T1 h1 J wk => ⟨nxt, m1, st1, ρ, wk, S1, E.mono T1, h1⟩⟩
theorem ss_lcN (cell : Bool) (C : Cq tb G CA XR k N sc own X W) (i : Nat) {y : Str} (hy : N[i]? = some y) (hyl : sc.names.lookup y = some .local) (hk : sc.kind = .function) (hl : (py.line == pos.line) = true)
    (ha : (scope.names.any fun (n, k) => n == y && (k == .local || k == .cell)) = false) (hin : GIn (ownL.map (·.2)) gm) (ok : BlkOk N sc scope ownL) (hi : SN CA XR X W tg iter im)
    (hg : ∀ X' W', Cq tb G CA XR k N (relS scope sc) (blkOwn scope) X' W' → SG CA XR X' W' tg gm)
    (ht : ∀ X' W', Cq tb G CA XR k N (relS scope sc) (blkOwn scope) X' W' → PTs X' ifs (tMT X'.K CA XR W' (testM tt)))
    (he : ∀ X' W', Cq tb G CA XR k N (relS scope sc) (blkOwn scope) X' W' → SE CA XR X' W' elt fm) (hs : ∀ x, foldedSetIterable iter X.env x = pure x := by intro _; rfl) :
    S1 CA XR X W (.Assign [.Name y py] (.ListComp elt [⟨tg, iter, ifs, 0⟩] scope pos) spos) (sAsg (eCompN cell (ownL.map (·.2)) im gm tt fm) (gVar i)) := by
  have hyl' : X.env.scope.names.lookup y = some .local := by rw [C.sc]; exact hyl
  have sw : swapsWith (.ListComp elt [⟨tg, iter, ifs, 0⟩] scope pos) (some (.Name y py)) spos.line X.env = pure true := sw_true (by rw [C.sc]; exact hk) hyl' hl ha
  refine PS.weak (t := tAsg (tM X.K CA XR W (eCompN cell (ownL.map (·.2)) im gm tt fm)) (gName i)) ?_ (asg_read i)
  refine ⟨fun pins s σ H D I q => ?_⟩
  rw [exec_Assign_Name_used _ _ _ _ sw]
  refine wpAny_bind (wpAny_standAt (wpAny_bind ?_))
  show wpAny _ X.A (do let _ ← comprehension (.ListComp elt [⟨tg, iter, ifs, 0⟩] scope pos) scope X.env (firstIterPos [⟨tg, iter, ifs, 0⟩] pos) (newList []) false (eval iter X.env) (some (assign (.Name y py) X.env)); pure _) _ _ s
  have q' : tM X.K CA XR W (eCompN cell (ownL.map (·.2)) im gm tt fm) σ H fun x H1 => gName i x σ H1 D.nx := q
  refine wpAny_bind (thn (lc_coreN (Qf := fun _ s' => SP X pins D .next s') C hin I hi ok hg ht he hs (lcN_read q') fun A ce s' m H' J q hn fo => ?_) fun _ s' hq => wpAny_pure (wpAny_pure hq))
  show wpAny _ _ (assign (.Name y py) X.env (.ref A)) _ _ _
  refine wpAny_assign_Name (store_ok2 (v := V.ref A) J (by rw [C.nm]; exact C.nd) (by rw [C.nm]; exact hy) (.inl hyl') rfl (fun s2 I2 hh => ?_) (.inr hyl'))
  obtain ⟨b, sb, hb⟩ := hh
  have ne : ce.locals ≠ b := by
    rcases hb with z | z
    · rw [z]; exact fo.2.1
    · exact fun e => fo.2.2.2.2.1 y b z e.symm
  refine ⟨m, hn.sameBut sb ne, fun h3 sb3 => ?_⟩
  exact ⟨_, H', I2.turned (t' := s2.toks) (fun b o hb e => (sb3.2 b hb).trans e) fo.1 fo.2.1 fo.2.2.2.1 fo.2.2.2.2.1 fo.2.2.2.2.2, q⟩
end
end Fl
set_option Elab.async false
set_option linter.all false
set_option maxRecDepth 100000
set_option maxHeartbeats 4000000
/-! Fl: instances: their attributes, methods, new ones. -/
namespace Fl
/-- o.f of an instance -/
def attrI (f : String) (v : Val) : M Val := fun s => match v with
  | .loc n => match s.cell n with
    | some (.ins _ fs) => match fget fs f with
      | some u => .ok u s
      | none => .bad
    | _ => .bad
  | _ => .bad
/-- o.m(..); m is no attribute of the instance -/
def eMethI (G : FEnv) (c m : String) (f : Nat) (o : CE) (as : List CE) : CE := fun ρ => o ρ >>= fun x s => match x with
  | .loc n => match s.cell n with
    | some (.ins d fs) => if d = c ∧ (fget fs m).isNone = true then (eVals as ρ >>= fun vs => G f (x :: vs)) s else .bad
    | _ => .bad
  | _ => .bad
/-- C(..) -/
def eNew (G : FEnv) (c : String) (f : Nat) (as : List CE) : CE := fun ρ => eVals as ρ >>= fun vs (s : Store) =>
  (G f (.loc s.length :: vs) (s ++ [some (.ins c [])])).bind fun v s' => match v with
    | .t .non => .ok (.loc s.length) s'
    | _ => .bad
open PySem PySem.Spec L2
section
variable {K : PySem.W.Frag} {m : Mp} {st : Store} {H : Hp}
theorem RepF.get : ∀ {fs : List (String × Val)} {us : List (Str × V)} {f : String} {u : Val}, RepF K m st H fs us → fget fs f = some u → ∃ v, us.lookup (Str.ofString f) = some v ∧ RepV K m st H u v
  | [], _, f, u, _, e => by simp [fget] at e
  | (g, x) :: r, _, f, u, h, e => by
    obtain ⟨⟨k, v⟩, q, rfl, ⟨rfl, r1⟩, r2⟩ := h
    unfold fget at e
    by_cases c : g = f
    · rw [if_pos c] at e
      cases e
      subst c
      exact ⟨v, by rw [List.lookup_cons, beq_self_eq_true], r1⟩
    · rw [if_neg c] at e
      obtain ⟨w, e2, r3⟩ := RepF.get r2 e
      refine ⟨w, ?_, r3⟩
      rw [List.lookup_cons]
      have : (Str.ofString f == Str.ofString g) = false := by
        refine beq_eq_false_iff_ne.mpr fun z => c (ofString_inj z).symm
      rw [this]
      exact e2
theorem RepF.no : ∀ {fs : List (String × Val)} {us : List (Str × V)} {f : String}, RepF K m st H fs us → (fget fs f).isNone = true → us.lookup (Str.ofString f) = none
  | [], _, f, h, e => by
    have : _ = [] := h
    rw [this]; rfl
  | (g, x) :: r, _, f, h, e => by
    obtain ⟨⟨k, v⟩, q, rfl, ⟨rfl, r1⟩, r2⟩ := h
    unfold fget at e
    by_cases c : g = f
    · rw [if_pos c] at e; cases e
    · rw [if_neg c] at e
      rw [List.lookup_cons]
      have : (Str.ofString f == Str.ofString g) = false := by
        refine beq_eq_false_iff_ne.mpr fun z => c (ofString_inj z).symm
      rw [this]
      exact RepF.no r2 e
theorem RepF.put {f : String} {y : Val} {w : V} (ry : RepV K m st H y w) : ∀ {fs : List (String × Val)} {us : List (Str × V)}, RepF K m st H fs us → RepF K m st H (fput fs f y) (putF (Str.ofString f) w us)
  | [], _, h => by
    have : _ = [] := h
    subst this
    exact ⟨(Str.ofString f, w), [], rfl, ⟨rfl, ry⟩, rfl⟩
  | (g, x) :: r, _, h => by
    obtain ⟨⟨k, v⟩, q, rfl, ⟨rfl, r1⟩, r2⟩ := h
    unfold fput putF
    by_cases c : g = f
    · subst c
      rw [if_pos rfl, if_pos rfl]
      exact ⟨_, _, rfl, ⟨rfl, ry⟩, r2⟩
    · rw [if_neg c, if_neg fun z => c (ofString_inj z)]
      exact ⟨_, _, rfl, ⟨rfl, r1⟩, RepF.put ry r2⟩
theorem RepF.len : ∀ {fs : List (String × Val)} {us : List (Str × V)}, RepF K m st H fs us → fs.length = us.length
  | [], _, h => by
    have : _ = [] := h
    rw [this]; rfl
  | (g, x) :: r, _, h => by
    obtain ⟨v, q, rfl, _, r2⟩ := h
    rw [List.length_cons, List.length_cons, RepF.len r2]
end
section
variable {tb : Tab} {G : FEnv} {CA : Tags} {XR : XRel} {k : Nat} {N : List Str} {sc : Scope} {own : Str → Bool} {X : Cx} {W : WX}
variable {a b c d e o : Expr} {es : List Expr} {pos pos' apos cpos p p2 p3 : Pos} {f g h : CE} {t u : CT}
end
end Fl
set_option Elab.async false
set_option linter.all false
set_option maxRecDepth 100000
set_option maxHeartbeats 4000000
/-! Fl: list(range(n)). -/
namespace Fl
noncomputable def rangeL (cell : Bool) (v : Val) : M Val := getInt v >>= fun i => if cdec (0 ≤ i ∧ i ≤ 16777216) = true then newL cell (upto 0 i.toNat) else bad
open PySem PySem.Spec L2
section
variable {tb : Tab} {G : FEnv} {CA : Tags} {XR : XRel} {k : Nat} {N : List Str} {sc : Scope} {own : Str → Bool} {X : Cx} {W : WX}
variable {a b c d e o : Expr} {es : List Expr} {pos pos' apos cpos p p2 p3 : Pos} {f g h : CE} {t u : CT}
end
end Fl
set_option Elab.async false
set_option linter.all false
set_option maxRecDepth 100000
set_option maxHeartbeats 4000000
/-! Fl: sets of the numbers of a list; sorted. -/
namespace L2
open PySem PySem.Spec PyProof.Rows
section
variable {P : Program} {w : World} {A : Around} {E : Value → Shared → Prop} {s : Shared}
end
end L2
set_option Elab.async false
set_option linter.all false
set_option maxRecDepth 100000
set_option maxHeartbeats 4000000
/-! Fl: sorted, sets of numbers. -/
namespace L2
open PySem PySem.Spec PyProof.Rows
section
variable {X : Cx}
end
end L2
set_option Elab.async false
set_option linter.all false
set_option maxRecDepth 100000
set_option maxHeartbeats 4000000
/-! Fl: sorted, sets, dict.get, dict.pop. -/
namespace Fl
noncomputable section
end
open PySem PySem.Spec L2
section
variable {tb : Tab} {G : FEnv} {CA : Tags} {XR : XRel} {k : Nat} {N : List Str} {sc : Scope} {own : Str → Bool} {X : Cx} {W : WX}
variable {a b c d e o : Expr} {es : List Expr} {pos pos' apos cpos p p2 p3 : Pos} {f g h : CE} {t u : CT}
end
end Fl
set_option Elab.async false
set_option linter.all false
set_option maxRecDepth 100000
set_option maxHeartbeats 4000000
/-! Fl: dict.get, dict.pop. -/
namespace Fl
open PySem PySem.Spec L2
section
variable {tb : Tab} {G : FEnv} {CA : Tags} {XR : XRel} {k : Nat} {N : List Str} {sc : Scope} {own : Str → Bool} {X : Cx} {W : WX}
variable {a b c d e o : Expr} {es : List Expr} {pos pos' apos cpos p p2 p3 : Pos} {f g h : CE} {t u : CT}
theorem RepVK.drop {K : PySem.W.Frag} {m : Mp} {st : Store} {H : Hp} {kk : Key} : ∀ {kvs : List (Key × Val)} {us : List (L2.Key × V)}, RepVK K m st H kvs us → RepVK K m st H (dpop kvs kk) (dropK us (kL kk))
  | [], us, h => by rw [show us = [] from h]; rfl
  | (l, x) :: r, _, ⟨v, q, rfl, h1, h2⟩ => by
    have ih := RepVK.drop (kk := kk) h2
    unfold dpop dropK at *
    by_cases e : l = kk
    · have e2 : v.1 = kL kk := by rw [← e]; exact h1.1
      simp only [List.filter_cons, e, e2, ne_eq, not_true, decide_false, Bool.false_eq_true, if_false]
      exact ih
    · have e2 : ¬ v.1 = kL kk := fun z => e (kL_inj (h1.1.symm.trans z))
      simp only [List.filter_cons, e, e2, ne_eq, not_false_eq_true, decide_true, if_true]
      exact ⟨v, _, rfl, h1, ih⟩
end
end Fl
set_option Elab.async false
set_option linter.all false
set_option maxRecDepth 100000
set_option maxHeartbeats 4000000
/-! Fl: x is not True. -/
namespace Fl
open PySem PySem.Spec L2
section
variable {tb : Tab} {G : FEnv} {CA : Tags} {XR : XRel} {k : Nat} {N : List Str} {sc : Scope} {own : Str → Bool} {X : Cx} {W : WX}
variable {a b c d e o : Expr} {pos p2 : Pos} {f g h : CE}
end
end Fl
set_option Elab.async false
set_option linter.all false
set_option maxRecDepth 100000
set_option maxHeartbeats 4000000
/-! Fl: range(a, -1, -1). -/
namespace Fl
open PySem PySem.Spec L2
def downto (hi : Int) : List Val := (List.range (hi + 1).toNat).map fun k => vI (hi - (k : Nat))
noncomputable def iDownC (a b c : CE) : CI := fun ρ => a ρ >>= fun x => b ρ >>= fun y => c ρ >>= fun z => getInt x >>= fun hi => getInt y >>= fun lo => getInt z >>= fun st => if rangeOk hi && (lo == -1 && st == -1) then pure (downto hi) else bad
section
variable {tb : Tab} {G : FEnv} {CA : Tags} {XR : XRel} {k : Nat} {N : List Str} {sc : Scope} {own : Str → Bool} {X : Cx} {W : WX}
variable {a b c d e tg : Expr} {es : List Expr} {pos pos' apos cpos p p2 p3 : Pos} {f g h : CE} {t u : CT}
theorem wkdn {K : PySem.W.Frag} {m : Mp} {st : Store} {H : Hp} {hi : Int} : Wk K CA (Itc hi (-1) (hi + 1).toNat) (downto hi) m st H where
  go := fun i w e m' st' H' S T => by
    unfold downto at e
    rw [List.getElem?_map] at e
    by_cases h : i < (hi + 1).toNat
    · rw [List.getElem?_range h] at e
      cases e
      refine ⟨h, fun x H2 y => ?_⟩
      obtain ⟨rfl, rfl⟩ := y
      refine ⟨S, Step.refl, ?_⟩
      show V.int _ = V.int _
      congr 1; omega
    · rw [List.getElem?_eq_none (by rw [List.length_range]; omega)] at e; cases e
  stop := fun i m' st' H' hi S T => by
    unfold downto at hi
    rw [List.length_map, List.length_range] at hi; exact hi
theorem si_down (C : Cw tb G CA XR k N sc own X W) (hg : bltB tb sc "range" = true) (ha : SE CA XR X W a f) (hb : SE CA XR X W b g) (hc : SE CA XR X W c h) (hs : starEach [a, b, c] X.env = (false, eval a X.env) :: starEach [b, c] X.env := by rfl)
    (hs2 : starEach [b, c] X.env = (false, eval b X.env) :: starEach [c] X.env := by rfl) (hs3 : starEach [c] X.env = (false, eval c X.env) :: starEach [] X.env := by rfl) :
    SI CA XR X W tg (.Call (.Name "range" p) [a, b, c] [] pos) (iDownC f g h) := by
  refine PI.weak (pi_range3 (gl_of C (blt_gl hg)) (blt_mg C hg) (pa_cons ha (pa_cons hb (pa_cons hc pa_nil hs3) hs2) hs) hs (by rw [hs2, hs3]; rfl)) fun σ H R ⟨m, st, ρ, S, E, q⟩ => ?_
  refine ⟨m, st, ρ, S, E, (PR.bind_of q).mono fun x m1 st1 H1 S1 T1 h1 v rv => ⟨m1, st1, ρ, S1, E.mono T1, (PR.bind_of h1).mono fun y m2 st2 H2 S2 T2 h2 w rw' => ?_⟩⟩
  refine ⟨m2, st2, ρ, S2, (E.mono T1).mono T2, (PR.bind_of h2).mono fun z m3 st3 H3 S3 T3 h3 u ru => ?_⟩
  obtain ⟨i, rfl, rfl, h4⟩ := getInt_ok (RepV.mono T3 _ _ (RepV.mono T2 _ _ rv)) h3
  obtain ⟨j, rfl, rfl, h5⟩ := getInt_ok (RepV.mono T3 _ _ rw') h4
  obtain ⟨s, rfl, rfl, h6⟩ := getInt_ok ru h5
  split at h6
  · rename_i hr
    rw [Bool.and_eq_true, Bool.and_eq_true, beq_iff_eq, beq_iff_eq] at hr
    obtain ⟨hr, rfl, rfl⟩ := hr
    obtain ⟨r1, r2⟩ := rangeOk_iff hr
    have hR := RgC.neg (i := i) (j := -1) r1 r2 (by decide) (by decide)
    rw [show i - -1 = i + 1 by omega] at hR
    exact ⟨i, -1, -1, _, rfl, hR, PR.here S3 h6 _ wkdn⟩
  · exact h6.elim
end
end Fl
set_option Elab.async false
set_option linter.all false
set_option maxRecDepth 100000
set_option maxHeartbeats 4000000
/-! Fl: a dict that is walked: locked from then on. -/
namespace Fl
open PySem PySem.Spec L2
section
variable {tb : Tab} {G : FEnv} {CA : Tags} {XR : XRel} {k : Nat} {N : List Str} {sc : Scope} {own : Str → Bool} {X : Cx} {W : WX}
variable {a b c d e tg : Expr} {es : List Expr} {pos pos' apos cpos p p2 p3 : Pos} {f g h : CE} {t u : CT}
theorem RepK.at {K : PySem.W.Frag} {H : Hp} {lv : Addr → Prop} : ∀ {kts : List (Key × T)} {us : List (L2.Key × V)} {i : Nat} {p : Key × T}, RepK K H lv kts us → kts[i]? = some p → ∃ v, us[i]? = some (kL p.1, v)
  | [], _, _, _, _, e => by cases e
  | (kk, t) :: q, _, i, p, ⟨v, r, rfl, h1, h2⟩, e => by
    cases i with
    | zero =>
      cases e
      exact ⟨v.2, by rw [List.getElem?_cons_zero, show v = (v.1, v.2) from rfl, h1.1]⟩
    | succ i =>
      rw [List.getElem?_cons_succ] at e ⊢
      exact RepK.at (i := i) h2 e
end
end Fl
set_option Elab.async false
set_option linter.all false
set_option maxRecDepth 100000
set_option maxHeartbeats 4000000
/-! Fl: dict comprehensions; nothing raised within. -/
namespace Fl
open PySem PySem.Spec L2
section
variable {tb : Tab} {G : FEnv} {CA : Tags} {XR : XRel} {k : Nat} {N : List Str} {sc : Scope} {own : Str → Bool} {X : Cx} {W : WX}
variable {kx vx tg iter : Expr} {ifs : List Expr} {scope : Scope} {ownL : List (Str × Nat)} {pos spos py : Pos} {im : CI} {gm : CG} {tt : Option CT} {fk fv : CE}
end
end Fl
set_option Elab.async false
set_option linter.all false
set_option maxRecDepth 100000
set_option maxHeartbeats 4000000
/-! Fl: dict.update with a dict that is a tree. -/
namespace Fl
open PySem PySem.Spec L2
section
variable {X : Cx}
end
section
variable {tb : Tab} {G : FEnv} {CA : Tags} {XR : XRel} {k : Nat} {N : List Str} {sc : Scope} {own : Str → Bool} {X : Cx} {W : WX}
variable {a b c d e : Expr} {es : List Expr} {pos pos' apos cpos p p2 p3 : Pos} {f g h : CE} {t u : CT}
end
end Fl
set_option Elab.async false
set_option linter.all false
set_option maxRecDepth 100000
set_option maxHeartbeats 4000000
/-! Fl: sorted of texts: of a list, of a dict's keys. -/
namespace Fl
open PySem PySem.Spec L2
/-! ### one order -/
section
variable {tb : Tab} {G : FEnv} {CA : Tags} {XR : XRel} {k : Nat} {N : List Str} {sc : Scope} {own : Str → Bool} {X : Cx} {W : WX}
variable {a b c d e : Expr} {es : List Expr} {pos pos' apos cpos p p2 p3 : Pos} {f g h : CE} {t u : CT}
end
end Fl
set_option Elab.async false
set_option linter.all false
set_option maxRecDepth 100000
set_option maxHeartbeats 4000000
/-! Fl: sets of the texts of a list; sorted, len. -/
namespace L2
open PySem PySem.Spec PyProof.Rows
/-- the text of a member -/
def txOf (c : Int × Value) : Str := match c.2 with | .str x _ => x | _ => ⟨#[]⟩
def GoodT (w : World) (c : Int × Value) : Prop := ∃ x u, c.2 = Value.str x u ∧ c.1 = hashStr w x
/-- a set of texts -/
def SetT (w : World) (h : Heap) (a : Addr) (M : Str → Bool) (n : Nat) : Prop :=
  ∃ ob ms ep tb, h.get? a = some ob ∧ ob.ExactSet ∧ ob.data = .set ms ep tb ∧ (∀ c ∈ ms.toList, GoodT w c) ∧ (ms.toList.map txOf).Nodup ∧ (∀ x, M x = true ↔ x ∈ ms.toList.map txOf) ∧
    ms.size < scanBound ∧ tb.fits ms.size = true ∧ ms.size = n ∧ Ris tb.place.toList ∧ (w.params.followText "set-order" = true ∨ tb.led = true)
section
variable {P : Program} {w : World} {h h' : Heap} {a : Addr} {M : Str → Bool} {n : Nat}
theorem SetT.at (Z : SetT w h a M n) (k : ∀ o, h.get? a = some o → h'.get? a = some o) : SetT w h' a M n := by
  obtain ⟨ob, ms, ep, tb, q, z⟩ := Z
  exact ⟨ob, ms, ep, tb, k ob q, z⟩
theorem SetT.congr {M' : Str → Bool} (Z : SetT w h a M n) (e : ∀ x, M' x = M x) : SetT w h a M' n := by rw [show M' = M from funext e]; exact Z
end
section
variable {P : Program} {w : World} {A : Around} {E : Value → Shared → Prop} {s : Shared} {a : Addr} {M : Str → Bool} {n : Nat}
end
end L2
set_option Elab.async false
set_option linter.all false
set_option maxRecDepth 100000
set_option maxHeartbeats 4000000
/-! Fl: sets of the texts of a list: the calls. -/
namespace L2
open PySem PySem.Spec PyProof.Rows
section
variable {P : Program} {w : World} {A : Around} {E : Value → Shared → Prop} {s : Shared}
end
section
variable {X : Cx}
end
end L2
namespace Fl
open PySem PySem.Spec L2 PyProof.Rows
section
variable {tb : Tab} {G : FEnv} {CA : Tags} {XR : XRel} {k : Nat} {N : List Str} {sc : Scope} {own : Str → Bool} {X : Cx} {W : WX}
variable {a b c d e : Expr} {es : List Expr} {pos pos' apos cpos p p2 p3 : Pos} {f g h : CE} {t u : CT}
end
end Fl
set_option Elab.async false
set_option linter.all false
set_option maxRecDepth 100000
set_option maxHeartbeats 1000000
/-! Fl: except X as n: return (text, isinstance(n, Y)). -/
namespace Fl
open PySem PySem.Spec L2 PyProof.Rows
section
variable {CA : Tags} {XR : XRel} {X : Cx} {a : Addr} {cls : Value} {d : Option Addr} {i : Nat} {p p2 p3 : Pos} {e2 : Expr}
end
end Fl
set_option Elab.async false
set_option linter.all false
set_option maxRecDepth 100000
set_option maxHeartbeats 2000000
/-! Fl over the layer: an exception that keeps a number: raised, caught, its number read. -/
namespace Fl
open PySem PySem.Spec L2 PyProof.Rows
section
variable {tb : Tab} {G : FEnv} {CA : Tags} {XR : XRel} {k : Nat} {N : List Str} {sc : Scope} {own : Str → Bool} {X : Cx} {W : WX}
variable {a b c e : Expr} {pos p p2 p3 p4 : Pos} {f g h : CE}
/-- raise X(e) -/
theorem ss_raiseA (C : Cs tb G CA XR k N sc X W) {x : Str} (t : String) (hg : glbB sc x = true) (hm : (x, t) ∈ tb.oxs) (ha : SE CA XR X W a f) (he : starEach [a] X.env = (false, eval a X.env) :: starEach [] X.env := by rfl) :
    S1 CA XR X W (.Raise (some (.Call (.Name x p) [a] [] p3)) none pos) (sRaiseA t f) := by
  obtain ⟨Cc, fI, fd, ps, h1, T, h2, h3, h4, F, h5⟩ := C.q.glob.oxs x t hm
  have hr : L2.Room 2 X.A := by
    have r := C.q.room
    refine ⟨r.hd, ?_, ?_⟩
    · have := r.dp; omega
    · have := r.un; omega
  refine PS.weak (ps_raise C.q.calm C.tk (pmk_oex (dvs := []) T h2 h3 F hr h4 .nil (fun _ _ _ _ _ _ _ z => z.elim) (gl_of C.q.toCw hg) h1 (pa_cons ha pa_nil he) (gl_dbg hg) he rfl)) fun D σ H ⟨m, st, ρ, S, E, q⟩ => ?_
  refine ⟨m, st, ρ, S, E, (PO.expr E q).mono fun w m1 st1 H1 S1 T1 h1 v rv => ?_⟩
  refine ⟨by show 1 ≤ 1000; decide, fun ad hn => ?_⟩
  split at h1
  · rename_i i
    obtain rfl : v = V.int i := rv
    refine ⟨ad, i, rfl, upd_same, fun dx hd hne => ⟨rfl, dx, [(("at" : Str), V.int i)], upd_same, by rw [upd_ne hne, upd_same], by rw [upd_ne hne] at hd; exact hd, ?_⟩⟩
    have hd1 : H1 dx = none := by rw [upd_ne hne] at hd; exact hd
    have eH : upd (del (upd (upd (upd H1 ad (exo ad Cc none)) dx (exd dx [(("at" : Str), V.int i)])) ad (exo ad Cc (some dx))) ad) dx (.xd [(("at" : Str), V.int i)]) = upd H1 dx (.xd [(("at" : Str), V.int i)]) := by
      funext y
      by_cases e1 : y = dx
      · rw [e1, upd_same, upd_same]
      · rw [upd_ne e1, upd_ne e1]
        by_cases e2 : y = ad
        · rw [e2, del_same, hn]
        · rw [del_ne e2, upd_ne e2, upd_ne e1, upd_ne e2]
    rw [eH]
    obtain ⟨T2, S2⟩ := S1.fresh (o := .xd [(("at" : Str), V.int i)]) hd1
    exact h1 m1 _ σ (.ref Cc) (some dx) S2 T2 ((E.mono T1).mono T2) (h5 i dx _ upd_same)
  · exact h1.elim
/-- except X as n: if what is asked of it: return (text, n.at) -/
theorem kx_suite4 {d : Option Addr} {cls : Value} {ad : Addr} {oe : Obj} {pn : List (Addr × Obj)} {i : Nat} {n : Str} {s0 : String} {t : CT} {j x1 : Nat} {e1 : Expr} {p5 : Pos} (C : Cw tb G CA XR k N sc (fun _ => true) (X.suite ad ((ad, oe) :: pn)) wNo) (hz : Zc cls d oe) (hf : ∃ vs, oe.data = .fields vs)
    (bb : Exc → Bool) (ht : ∀ y H0, XR y cls d H0 → PT (X.suite ad ((ad, oe) :: pn)) e1 (cstT (Kn XR i ad y cls d) (bb y))) (hm : XM i t bb) (hi : N[i]? = some n) (hl : visB sc n = true)
    (hb : attributeBase (.Name n p2) "at" (X.suite ad ((ad, oe) :: pn)).env (eval (.Name n p2) (X.suite ad ((ad, oe) :: pn)).env) = eval (.Name n p2) (X.suite ad ((ad, oe) :: pn)).env := by rfl)
    (na : starEach [.Attribute (.Name n p2) "at" p3] (X.suite ad ((ad, oe) :: pn)).env = (false, eval (.Attribute (.Name n p2) "at" p3) (X.suite ad ((ad, oe) :: pn)).env) :: starEach [] (X.suite ad ((ad, oe) :: pn)).env := by rfl) :
    PSs (X.suite ad ((ad, oe) :: pn)) [.If e1 [.Return (some (.Tuple [.Constant (.str (Str.ofString s0)) j p, .Attribute (.Name n p2) "at" p3] x1 p4)) pos] [] p5]
      (tX X.K CA XR i (sIf t (sRet (eTup false [eC (.str s0), Fl.e1 (attrV "at") (eVar i)])) sNil) ad cls d) := by
  refine ⟨fun pins s σ H D I ⟨h1, m, st, ρ, y, S, E, e, xr, q⟩ => ?_⟩
  have q1 : PO X.K CA XR wNo D m st H (sIf t (sRet (eTup false [eC (.str s0), Fl.e1 (attrV "at") (eVar i)])) sNil ρ st) := q.unc
  have e3 : sIf t (sRet (eTup false [eC (.str s0), Fl.e1 (attrV "at") (eVar i)])) sNil ρ st = if bb y then sRet (eTup false [eC (.str s0), Fl.e1 (attrV "at") (eVar i)]) ρ st else .nx ρ st := by
    unfold sIf
    rw [hm ρ st y e]
    rfl
  rw [e3] at q1
  cases hb2 : bb y with
  | false =>
    rw [hb2, if_neg (by decide)] at q1
    refine (pss_one (ps_if (ht y H xr) (pss_never (sts := _)) pss_nil)).run pins s σ H D I ⟨⟨h1, xr⟩, ?_⟩
    rw [hb2]
    exact q1 m H σ S Step.refl E
  | true =>
    rw [hb2, if_pos rfl] at q1
    cases ha : y.at_ with
    | none =>
      have : sRet (eTup false [eC (.str s0), Fl.e1 (attrV "at") (eVar i)]) ρ st = .bad := by
        simp [sRet, eTup, eVals, eC, Fl.e1, eVar, attrV, bind_eq, bind_ok, R.bind, R.so, e, ha]
      rw [this] at q1
      exact q1.elim
    | some v =>
      obtain ⟨i', rfl, hAt⟩ := kx_at (p2 := p2) (pos := p3) C hz hf xr ha hi hl hb
      have : sRet (eTup false [eC (.str s0), Fl.e1 (attrV "at") (eVar i)]) ρ st = .rt (.t (.tup [.str s0, .int i'])) st := by
        simp [sRet, eTup, eVals, eC, Fl.e1, eVar, attrV, bind_eq, bind_ok, R.bind, R.so, e, ha, newT, trees, pure_eq]
      rw [this] at q1
      refine (pss_one (ps_if (ht y H xr) (pss_one (ps_ret (pe_tup (pa_cons pe_str (pa_cons hAt pa_nil na) rfl)))) pss_nil)).run pins s σ H D I ⟨⟨h1, xr⟩, ?_⟩
      rw [hb2]
      have q2 : ∀ m' H' u, SR X.K CA m' st H' → Step m st H m' st H' → RepV X.K m' st H' (.t (.tup [.str s0, .int i'])) u → D.rt u H' := q1
      refine ⟨⟨h1, xr⟩, ?_⟩
      have hr : RepVs X.K m st H [.t (.str s0), .t (.int i')] [V.str (Str.ofString s0), V.int i'] := ⟨_, _, rfl, rfl, _, _, rfl, rfl, rfl⟩
      exact ⟨by show 2 ≤ sizeLine; rw [sizeLine_eq]; decide, newT_ok (XR := XR) (σ := σ) (W := wNo) (cell := false) S hr (by show 2 ≤ 16777216; decide) (fun m' H' S' T' u hu => q2 m' H' u S' T' hu)⟩
end
end Fl
set_option Elab.async false
set_option linter.all false
set_option maxRecDepth 100000
set_option maxHeartbeats 0
namespace Fl.k10
noncomputable section
open L2 (inClass defBody defScope defArgs)
def top (i : Nat) : PySem.Stmt := PySem.Challenge.pw_flatsheaves_k10_rewriting_steps.main.body.getD i (.Pass ⟨0, 0, 0, 0⟩)
/-- PaperError.__init__ -/
def f_PaperError___init__ (G : FEnv) : SM := fun _ _ => .bad
/-- may_trap -/
def f_may_trap (G : FEnv) : SM := sRet (eOr (eB (tIn (e2 subI (eVar 0) (eC (.int 0))) (eC (.tup [(.str "place"), (.str "range"), (.str "same"), (.str "call")])))) (eAnd (eB (tEq (e2 subI (eVar 0) (eC (.int 0))) (eC (.str "calc")))) (eB (tIn (e2 subI (eVar 0) (eC (.int 1))) (eTup false [eC (.str "/"), eC (.str "mod")])))))
/-- is_used -/
def f_is_used (G : FEnv) : SM := sSeq (sAsg (e2 subI (e2 subI (e2 subI (eVar 0) (eC (.int 4))) (eVar 1)) (eC (.int 3))) (gVar 2)) (sSeq (sFor (iV (eSlice false (e2 subI (eVar 0) (eC (.int 4))) (some (e2 (addV false) (eVar 1) (eC (.int 1)))) none)) (gVar 3) (sIf (tTruth (e1 anyV (eComp false [4] (iV (e2 subI (eVar 3) (eC (.int 2)))) (gVar 4) none (eB (tIn (eVar 4) (eVar 2)))))) (sRet (eC (.bl true))) (sNil))) (sRet (e1 anyV (eComp false [4] (iV (e2 subI (eVar 0) (eC (.int 5)))) (gVar 4) none (eB (tIn (eVar 4) (eVar 2)))))))
/-- without -/
def f_without (G : FEnv) : SM := sRet (e2 (addV false) (eSlice false (eVar 0) none (some (eC (.int 4)))) (eTup false [e2 (addV false) (eSlice false (e2 subI (eVar 0) (eC (.int 4))) none (some (eVar 1))) (eSlice false (e2 subI (eVar 0) (eC (.int 4))) (some (e2 (addV false) (eVar 1) (eC (.int 1)))) none), e2 subI (eVar 0) (eC (.int 5))]))
/-- renamed -/
def f_renamed (G : FEnv) : SM := sRet (eComp false [3] (iV (eVar 0)) (gVar 3) none (eIf (tEq (eVar 3) (eVar 1)) (eVar 2) (eVar 3)))
/-- shared -/
def f_shared (G : FEnv) : SM := sSeq (sAsg (e2 subI (e2 subI (e2 subI (e2 subI (eVar 0) (eC (.int 4))) (eVar 1)) (eC (.int 3))) (eC (.int 0))) (gVar 3)) (sSeq (sAsg (e2 subI (e2 subI (e2 subI (e2 subI (eVar 0) (eC (.int 4))) (eVar 2)) (eC (.int 3))) (eC (.int 0))) (gVar 4)) (sSeq (sAsg (eSlice false (e2 subI (eVar 0) (eC (.int 4))) none (some (eVar 1))) (gVar 5)) (sSeq (sFor (iV (eSlice false (e2 subI (eVar 0) (eC (.int 4))) (some (e2 (addV false) (eVar 1) (eC (.int 1)))) none)) (gTup [6, 7, 8, 9]) (sAsg (e2 (addV false) (eVar 5) (eLst false [eTup false [eVar 6, eVar 7, eCall G 57 [eVar 8, eVar 3, eVar 4], e1 (listV false) (eVar 9)]])) (gVar 5))) (sRet (e2 (addV false) (eSlice false (eVar 0) none (some (eC (.int 4)))) (eTup false [eVar 5, eCall G 57 [e2 subI (eVar 0) (eC (.int 5)), eVar 3, eVar 4]]))))))
/-- step_applied -/
def f_step_applied (G : FEnv) : SM := sSeq (sAsg (e2 subI (eVar 0) (eC (.int 4))) (gVar 2)) (sSeq (sAsg (e2 subI (eVar 1) (eC (.int 2))) (gVar 3)) (sSeq (sIf (tOr (tLt (eVar 3) (eC (.int 0))) (tGe (eVar 3) (e1 lenV (eVar 2)))) (sRet (eC .non)) (sNil)) (sSeq (sIf (tEq (e2 subI (eVar 1) (eC (.int 0))) (eC (.str "drop"))) (sSeq (sIf (tOr (tTruth (eCall G 54 [e2 subI (eVar 2) (eVar 3)])) (tTruth (eCall G 55 [eVar 0, eVar 3]))) (sRet (eC .non)) (sNil)) (sRet (eCall G 56 [eVar 0, eVar 3]))) (sNil)) (sSeq (sAsg (e2 subI (eVar 1) (eC (.int 3))) (gVar 4)) (sSeq (sIf (tOr (tNe (e2 subI (eVar 1) (eC (.int 0))) (eC (.str "share"))) (tOr (tLt (eVar 4) (eC (.int 0))) (tGe (eVar 4) (eVar 3)))) (sRet (eC .non)) (sNil)) (sSeq (sIf (tOr (tEq (e2 subI (e2 subI (eVar 2) (eVar 3)) (eC (.int 0))) (eC (.str "call"))) (tNe (eSlice false (e2 subI (eVar 2) (eVar 3)) none (some (eC (.int 3)))) (eSlice false (e2 subI (eVar 2) (eVar 4)) none (some (eC (.int 3)))))) (sRet (eC .non)) (sNil)) (sRet (eCall G 58 [eVar 0, eVar 3, eVar 4]))))))))
/-- duplicate -/
def f_duplicate (G : FEnv) : SM := sSeq (sAsg (eComp false [2, 3, 4, 5] (iV (e2 subI (eVar 0) (eC (.int 4)))) (gTup [2, 3, 4, 5]) none (eTup false [eVar 2, eVar 3, e1 (listV false) (eVar 4), e1 (listV false) (eVar 5)])) (gVar 1)) (sRet (e2 (addV false) (eSlice false (eVar 0) none (some (eC (.int 4)))) (eTup false [eVar 1, e1 (listV false) (e2 subI (eVar 0) (eC (.int 5)))])))
/-- rewrite -/
def f_rewrite (G : FEnv) : SM := sSeq (sAsg (eComp true [3] (iV (eVar 0)) (gVar 3) none (eCall G 20 [eVar 3])) (gVar 2)) (sSeq (sSeq (sFor (iEnum (eVar 1)) (gTup [4, 5]) (sSeq (sAsg (eCompN false [8, 3] (nE (eVar 2)) (gTup [8, 3]) (some (tEq (e2 subI (eVar 3) (eC (.int 1))) (e2 subI (eVar 5) (eC (.int 1))))) (eVar 8)) (gVar 6)) (sSeq (sAsg (eIf (tTruth (eVar 6)) (eCall G 59 [e2 subI (eVar 2) (e2 subI (eVar 6) (eC (.int 0))), eVar 5]) (eC .non)) (gVar 7)) (sSeq (sIf (tIsN (eVar 7)) (sRaiseA "PaperError" (eVar 4)) (sNil)) (sSub (eVar 7) (eVar 2) (e2 subI (eVar 6) (eC (.int 0)))))))) (sFz 2)) (sRet (e1 freeze (eVar 2))))
/-- share_all -/
def f_share_all (G : FEnv) : SM := sSeq (sAsg (eKd) (gVar 2)) (sSeq (sAsg (eC (.int 0)) (gVar 3)) (sSeq (sWhile (tLt (eVar 3) (e1 lenV (e2 subI (eVar 0) (eC (.int 4))))) (sSeq (sAsg (e2 subI (e2 subI (eVar 0) (eC (.int 4))) (eVar 3)) (gTup [5, 6, 7, 8])) (sSeq (sAsg (eTup false [eVar 5, eVar 6, e1 (tupleV false) (eVar 7)]) (gVar 4)) (sIf (tAnd (tNe (eVar 5) (eC (.str "call"))) (tInK (eVar 4) (eVar 2))) (sSeq (sAsg (eTup false [eC (.str "share"), e2 subI (eVar 0) (eC (.int 1)), eVar 3, eIxK (eVar 2) (eVar 4)]) (gVar 9)) (sSeq (sExpr (e2c lstC appendV (eVar 1) (eVar 9))) (sAsg (eCall G 59 [eVar 0, eVar 9]) (gVar 0)))) (sSeq (sSubK (eVar 3) (eVar 2) (eVar 4)) (sAsg (e2 (addV false) (eVar 3) (eC (.int 1))) (gVar 3))))))) (sRet (eVar 0))))
/-- drop_all -/
def f_drop_all (G : FEnv) : SM := sFor (iDownC (e2 subV (e1 lenV (e2 subI (eVar 0) (eC (.int 4)))) (eC (.int 1))) (e1 negV (eC (.int 1))) (e1 negV (eC (.int 1)))) (gVar 2) (sSeq (sAsg (eTup false [eC (.str "drop"), e2 subI (eVar 0) (eC (.int 1)), eVar 2]) (gVar 3)) (sSeq (sAsg (eCall G 59 [eVar 0, eVar 3]) (gVar 4)) (sIf (tNotN (eVar 4)) (sSeq (sExpr (e2c lstC appendV (eVar 1) (eVar 3))) (sAsg (eVar 4) (gVar 0))) (sNil))))
/-- improve -/
def f_improve (G : FEnv) : SM := sSeq (sAsg (eLst true []) (gVar 1)) (sSeq (sFor (iV (eVar 0)) (gVar 2) (sExpr (eCall G 62 [eCall G 61 [eVar 2, eVar 1], eVar 1]))) (sRet (e1 freeze (eVar 1))))
/-- _law_state -/
def f_w_state (G : FEnv) : SM := sSeq (sAsg (eC (.int 7)) (gVar 1)) (sSeq (sFor (iV (eVar 0)) (gVar 2) (sAsg (e2 modV (e1 intV (e2 (addV false) (e2 (mulV false) (eVar 1) (eC (.int 31))) (eVar 2))) (eC (.int 1000003))) (gVar 1))) (sRet (eLst true [eComp true [2] (iV (eVar 0)) (gVar 2) none (e1 absV (e1 intV (eVar 2))), e2 (addV false) (eVar 1) (eC (.int 1))])))
/-- _law_draw -/
def f_w_draw (G : FEnv) : SM := sSeq (sAsg (e2 subI (eVar 0) (eC (.int 0))) (gVar 2)) (sSeq (sWhile (tAnd (tGt (e1 lenV (eVar 2)) (eC (.int 0))) (tEq (e2 subI (eVar 2) (eC (.int 0))) (eC (.int 0)))) (sExpr (e2c lstC popL (eVar 2) (eC (.int 0))))) (sSeq (sIf (tGt (e1 lenV (eVar 2)) (eC (.int 0))) (sSeq (sAsg (e2 subI (eVar 2) (eC (.int 0))) (gVar 3)) (sSeq (sSub (e2 fdivV (eVar 3) (eVar 1)) (eVar 2) (eC (.int 0))) (sRet (e2 modV (e1 intV (eVar 3)) (eVar 1))))) (sNil)) (sSeq (sAsg (e2 modV (e1 intV (e2 (addV false) (e2 (mulV false) (e2 subI (eVar 0) (eC (.int 1))) (eC (.int 48271))) (eC (.int 12345)))) (eC (.int 2147483647))) (gVar 4)) (sSeq (sSub (eVar 4) (eVar 0) (eC (.int 1))) (sRet (e2 modV (e1 intV (e2 fdivV (eVar 4) (eC (.int 64)))) (eVar 1)))))))
/-- _law_pick -/
def f_w_pick (G : FEnv) : SM := sRet (e2 subI (eVar 1) (eCall G 75 [eVar 0, e1 lenV (eVar 1)]))
/-- _law_number -/
def f_w_number (G : FEnv) : SM := sSeq (sAsg (eLst false [eC (.int 0), e1 negV (eC (.int 1)), eC (.int 2147483647), e1 negV (eC (.int 2147483648)), eC (.int 65536)]) (gVar 1)) (sSeq (sIf (tEq (eCall G 75 [eVar 0, eC (.int 6)]) (eC (.int 0))) (sRet (eCall G 76 [eVar 0, eVar 1])) (sNil)) (sRet (e2 subV (eCall G 75 [eVar 0, eC (.int 7)]) (eC (.int 2)))))
/-- _law_code -/
def f_w_code (G : FEnv) : SM := sSeq (sAsg (eLst true []) (gVar 2)) (sSeq (sAsg (eCompR true [4] (iRange1 (eVar 1)) (gVar 4) none (eVar 4)) (gVar 3)) (sSeq (sAsg (eVar 1) (gVar 5)) (sSeq (sSeq (sSeq (sFor (iRange1 (eCall G 75 [eVar 0, eC (.int 12)])) (gVar 4) (sSeq (sAsg (eCall G 76 [eVar 0, eLst false [eC (.str "fill"), eC (.str "calc"), eC (.str "calc"), eC (.str "flags"), eC (.str "range"), eC (.str "same"), eC (.str "join"), eC (.str "calc"), eC (.str "div")]]) (gVar 6)) (sSeq (sAsg (eCall G 76 [eVar 0, eVar 3]) (gVar 7)) (sSeq (sAsg (eCall G 76 [eVar 0, eVar 3]) (gVar 8)) (sSeq (sIf (tEq (eVar 6) (eC (.str "fill"))) (sExpr (e2c lstC appendV (eVar 2) (eTup false [eC (.str "fill"), eCall G 75 [eVar 0, eC (.int 3)], eLst false [eVar 7], eLst false [eVar 5]]))) (sIf (tEq (eVar 6) (eC (.str "calc"))) (sExpr (e2c lstC appendV (eVar 2) (eTup false [eC (.str "calc"), eCall G 76 [eVar 0, eLst false [eC (.str "+"), eC (.str "-"), eC (.str "*"), eC (.str "<"), eC (.str "=")]], eLst false [eVar 7, eVar 8], eLst false [eVar 5]]))) (sIf (tEq (eVar 6) (eC (.str "div"))) (sExpr (e2c lstC appendV (eVar 2) (eTup false [eC (.str "calc"), eCall G 76 [eVar 0, eLst false [eC (.str "/"), eC (.str "mod")]], eLst false [eVar 7, eVar 8], eLst false [eVar 5]]))) (sIf (tEq (eVar 6) (eC (.str "join"))) (sSeq (sExpr (e2c lstC appendV (eVar 2) (eTup false [eC (.str "join"), eC .non, eLst false [eVar 7, eVar 8], eLst false [eVar 5]]))) (sSeq (sExpr (e2c lstC appendV (eVar 2) (eTup false [eC (.str "fill"), eC (.int 1), eLst false [eVar 7], eLst false [e2 (addV false) (eVar 5) (eC (.int 1))]]))) (sAsg (e2 (addV false) (eVar 5) (eC (.int 1))) (gVar 5)))) (sIf (tEq (eVar 6) (eC (.str "same"))) (sExpr (e2c lstC appendV (eVar 2) (eTup false [eC (.str "same"), eC .non, eLst false [eVar 7, eVar 8], eLst false [eVar 5]]))) (sExpr (e2c lstC appendV (eVar 2) (eTup false [eVar 6, eC .non, eLst false [eVar 7], eLst false [eVar 5]])))))))) (sSeq (sExpr (e2c lstC appendV (eVar 3) (eVar 5))) (sSeq (sAsg (e2 (addV false) (eVar 5) (eC (.int 1))) (gVar 5)) (sIf (tAnd (tEq (eCall G 75 [eVar 0, eC (.int 4)]) (eC (.int 0))) (tGt (e1 lenV (eVar 2)) (eC (.int 0)))) (sSeq (sAsg (eCall G 76 [eVar 0, eVar 2]) (gVar 9)) (sSeq (sExpr (e2c lstC appendV (eVar 2) (eTup false [e2 subI (eVar 9) (eC (.int 0)), e2 subI (eVar 9) (eC (.int 1)), e1 (listV false) (e2 subI (eVar 9) (eC (.int 2))), eLst false [eVar 5]]))) (sAsg (e2 (addV false) (eVar 5) (eC (.int 1))) (gVar 5)))) (sNil))))))))) (sFz 2)) (sFz 3)) (sRet (eLst false [eVar 2, eVar 3])))))
/-- _law_blocks -/
def f_w_blocks (G : FEnv) : SM := sSeq (sAsg (eCall G 112 [eVar 0, eC (.int 3)]) (gTup [1, 2])) (sSeq (sAsg (eLst false [eCall G 76 [eVar 0, eVar 2]]) (gVar 3)) (sSeq (sAsg (eTup false [eC (.str "pair"), eTup false [eC (.str "num")], eTup false [eC (.str "num")]]) (gVar 4)) (sSeq (sAsg (eTup false [eC (.str "block"), eC (.str "main"), eVar 4, eTup false [eC (.str "num")], eVar 1, eVar 3]) (gVar 5)) (sSeq (sAsg (eCall G 112 [eVar 0, eC (.int 3)]) (gVar 6)) (sSeq (sAsg (eTup false [eC (.str "block"), eC (.str "other"), eVar 4, eTup false [eC (.str "num")], e2 subI (eVar 6) (eC (.int 0)), eLst false [eCall G 76 [eVar 0, e2 subI (eVar 6) (eC (.int 1))]]]) (gVar 7)) (sSeq (sAsg (e2 (addV false) (eC (.int 1)) (e1 maxV (e2 (addV false) (e2 (addV false) (eLst false [eC (.int 0)]) (eComp false [9] (iV (eVar 1)) (gVar 9) none (e2 subI (e2 subI (eVar 9) (eC (.int 3))) (eC (.int 0))))) (eLst false [eC (.int 2)])))) (gVar 8)) (sSeq (sIf (tEq (eCall G 75 [eVar 0, eC (.int 2)]) (eC (.int 0))) (sSeq (sAsg (eTup false [eC (.str "call"), eC (.str "other"), eLst false [eC (.int 0), eCall G 76 [eVar 0, eVar 2], eCall G 76 [eVar 0, eVar 2]], eLst false [eVar 8]]) (gVar 10)) (sAsg (eTup false [eC (.str "block"), eC (.str "main"), eVar 4, eTup false [eC (.str "num")], e2 (addV false) (eVar 1) (eLst false [eVar 10]), eLst false [eCall G 76 [eVar 0, eLst false [eVar 8, e2 subI (eVar 3) (eC (.int 0))]]]]) (gVar 5))) (sNil)) (sRet (eLst false [eVar 5, eVar 7])))))))))
/-- _law_step -/
def f_w_step (G : FEnv) : SM := sSeq (sAsg (eCall G 76 [eVar 0, eVar 1]) (gVar 2)) (sSeq (sAsg (e2 subV (eCall G 75 [eVar 0, e2 (addV false) (e1 lenV (e2 subI (eVar 2) (eC (.int 4)))) (eC (.int 2))]) (eC (.int 1))) (gVar 3)) (sSeq (sIf (tEq (eCall G 75 [eVar 0, eC (.int 2)]) (eC (.int 0))) (sRet (eTup false [eC (.str "drop"), eCall G 76 [eVar 0, eLst false [e2 subI (eVar 2) (eC (.int 1)), e2 subI (eVar 2) (eC (.int 1)), eC (.str "nobody")]], eVar 3])) (sNil)) (sSeq (sAsg (eLst true [eTup false [eC (.str "share"), e2 subI (eVar 2) (eC (.int 1)), eVar 3, e2 subV (eCall G 75 [eVar 0, e2 (addV false) (e1 lenV (e2 subI (eVar 2) (eC (.int 4)))) (eC (.int 1))]) (eC (.int 1))]]) (gVar 4)) (sSeq (sSeq (sFor (iRange1 (e1 lenV (e2 subI (eVar 2) (eC (.int 4))))) (gVar 5) (sFor (iRange1 (eVar 5)) (gVar 6) (sIf (tEq (eSlice false (e2 subI (e2 subI (eVar 2) (eC (.int 4))) (eVar 5)) none (some (eC (.int 3)))) (eSlice false (e2 subI (e2 subI (eVar 2) (eC (.int 4))) (eVar 6)) none (some (eC (.int 3))))) (sExpr (e2c lstC appendV (eVar 4) (eTup false [eC (.str "share"), e2 subI (eVar 2) (eC (.int 1)), eVar 5, eVar 6]))) (sNil)))) (sFz 4)) (sRet (eCall G 76 [eVar 0, eVar 4]))))))
/-- _law_applied -/
def f_w_applied (G : FEnv) : SM := sSeq (sAsg (eLst true []) (gVar 2)) (sSeq (sAsg (eC (.bl false)) (gVar 3)) (sSeq (sSeq (sFor (iV (eVar 0)) (gVar 4) (sSeq (sIf (tEq (e2 subI (eVar 4) (eC (.int 1))) (e2 subI (eVar 1) (eC (.int 1)))) (sSeq (sAsg (eCall G 116 [eVar 4, eVar 1]) (gVar 4)) (sSeq (sIf (tIsN (eVar 4)) (sRet (eC .non)) (sNil)) (sAsg (eC (.bl true)) (gVar 3)))) (sNil)) (sExpr (e2c lstC appendV (eVar 2) (eVar 4))))) (sFz 2)) (sSeq (sIf (tTruth (eVar 3)) (sRet (e1 freeze (eVar 2))) (sNil)) (sRet (eC .non)))))
/-- _law_block_after -/
def f_w_block_after (G : FEnv) : SM := sSeq (sAsg (e2 subI (eVar 0) (eC (.int 4))) (gVar 2)) (sSeq (sAsg (e2 subI (eVar 1) (eC (.int 2))) (gVar 3)) (sSeq (sIf (tOr (tLt (eVar 3) (eC (.int 0))) (tGe (eVar 3) (e1 lenV (eVar 2)))) (sRet (eC .non)) (sNil)) (sSeq (sAsg (e2 subI (e2 subI (e2 subI (eVar 2) (eVar 3)) (eC (.int 3))) (eC (.int 0))) (gVar 4)) (sSeq (sAsg (e1 (listV false) (e2 subI (eVar 0) (eC (.int 5)))) (gVar 5)) (sSeq (sFor (iV (eSlice false (eVar 2) (some (e2 (addV false) (eVar 3) (eC (.int 1)))) none)) (gVar 6) (sAsg (e2 (addV false) (eVar 5) (e2 subI (eVar 6) (eC (.int 2)))) (gVar 5))) (sSeq (sAsg (eOr (eB (tIn (e2 subI (e2 subI (eVar 2) (eVar 3)) (eC (.int 0))) (eTup false [eC (.str "place"), eC (.str "range"), eC (.str "same"), eC (.str "call")]))) (eAnd (eB (tEq (e2 subI (e2 subI (eVar 2) (eVar 3)) (eC (.int 0))) (eC (.str "calc")))) (eB (tIn (e2 subI (e2 subI (eVar 2) (eVar 3)) (eC (.int 1))) (eTup false [eC (.str "/"), eC (.str "mod")]))))) (gVar 7)) (sSeq (sIf (tEq (e2 subI (eVar 1) (eC (.int 0))) (eC (.str "drop"))) (sSeq (sIf (tOr (tTruth (eVar 7)) (tIn (eVar 4) (eVar 5))) (sRet (eC .non)) (sNil)) (sRet (e2 (addV false) (eSlice false (eVar 0) none (some (eC (.int 4)))) (eTup false [e2 (addV false) (eSlice false (eVar 2) none (some (eVar 3))) (eSlice false (eVar 2) (some (e2 (addV false) (eVar 3) (eC (.int 1)))) none), e2 subI (eVar 0) (eC (.int 5))])))) (sNil)) (sSeq (sAsg (e2 subI (eVar 1) (eC (.int 3))) (gVar 8)) (sSeq (sIf (tOr (tLt (eVar 8) (eC (.int 0))) (tOr (tGe (eVar 8) (eVar 3)) (tOr (tEq (e2 subI (e2 subI (eVar 2) (eVar 3)) (eC (.int 0))) (eC (.str "call"))) (tNe (eSlice false (e2 subI (eVar 2) (eVar 3)) none (some (eC (.int 3)))) (eSlice false (e2 subI (eVar 2) (eVar 8)) none (some (eC (.int 3)))))))) (sRet (eC .non)) (sNil)) (sSeq (sAsg (e2 subI (e2 subI (e2 subI (eVar 2) (eVar 8)) (eC (.int 3))) (eC (.int 0))) (gVar 9)) (sSeq (sAsg (eLst true []) (gVar 10)) (sSeq (sSeq (sFor (iV (eSlice false (eVar 2) (some (e2 (addV false) (eVar 3) (eC (.int 1)))) none)) (gTup [11, 12, 13, 14]) (sExpr (e2c lstC appendV (eVar 10) (eTup false [eVar 11, eVar 12, eComp false [15] (iV (eVar 13)) (gVar 15) none (e2 subI (eLst false [eVar 15, eVar 9]) (e1 intV (eB (tEq (eVar 15) (eVar 4))))), eVar 14])))) (sFz 10)) (sRet (e2 (addV false) (eSlice false (eVar 0) none (some (eC (.int 4)))) (eTup false [e2 (addV false) (eSlice false (eVar 2) none (some (eVar 3))) (eVar 10), eComp false [15] (iV (e2 subI (eVar 0) (eC (.int 5)))) (gVar 15) none (e2 subI (eLst false [eVar 15, eVar 9]) (e1 intV (eB (tEq (eVar 15) (eVar 4)))))])))))))))))))))
/-- _law_mixed -/
def f_w_mixed (G : FEnv) : SM := sSeq (sAsg (eLst true []) (gVar 2)) (sSeq (sSeq (sFor (iV (eVar 1)) (gVar 3) (sSeq (sAsg (eLst true []) (gVar 4)) (sSeq (sFor (iV (e2 subI (eVar 3) (eC (.int 4)))) (gTup [6, 7, 8, 9]) (sSeq (sIf (tAnd (tNe (eVar 6) (eC (.str "call"))) (tAnd (tEq (e1 lenV (eVar 8)) (eC (.int 1))) (tEq (eCall G 75 [eVar 0, eC (.int 2)]) (eC (.int 0))))) (sSeq (sAsg (eCall G 76 [eVar 0, eLst false [eC (.str "repeat"), eC (.str "count"), eC (.str "weave"), eC (.str "where")]]) (gVar 6)) (sAsg (e2 subI (eLst false [eC .non, eB (tEq (eCall G 75 [eVar 0, eC (.int 2)]) (eC (.int 0)))]) (e1 intV (eB (tEq (eVar 6) (eC (.str "where")))))) (gVar 7))) (sIf (tAnd (tNe (eVar 6) (eC (.str "call"))) (tAnd (tEq (e1 lenV (eVar 8)) (eC (.int 2))) (tEq (eCall G 75 [eVar 0, eC (.int 2)]) (eC (.int 0))))) (sSeq (sAsg (eCall G 76 [eVar 0, eLst false [eC (.str "take"), eC (.str "pick"), eC (.str "sums"), eC (.str "zip"), eC (.str "place"), eC (.str "take"), eC (.str "pick")]]) (gVar 6)) (sAsg (eC .non) (gVar 7))) (sNil))) (sExpr (e2c lstC appendV (eVar 4) (eTup false [eVar 6, eVar 7, eVar 8, eVar 9]))))) (sSeq (sSeq (sFor (iRange1 (e1 lenV (eVar 4))) (gVar 5) (sIf (tAnd (tEq (eCall G 75 [eVar 0, eC (.int 4)]) (eC (.int 0))) (tNe (e2 subI (e2 subI (eVar 4) (eVar 5)) (eC (.int 0))) (eC (.str "call")))) (sSeq (sAsg (eCall G 76 [eVar 0, eSlice false (eVar 4) none (some (e2 (addV false) (eVar 5) (eC (.int 1))))]) (gVar 10)) (sIf (tNe (e2 subI (eVar 10) (eC (.int 0))) (eC (.str "call"))) (sSub (e2 (addV false) (eSlice false (eVar 10) none (some (eC (.int 3)))) (eTup false [e2 subI (e2 subI (eVar 4) (eVar 5)) (eC (.int 3))])) (eVar 4) (eVar 5)) (sNil))) (sNil))) (sFz 4)) (sExpr (e2c lstC appendV (eVar 2) (e2 (addV false) (eSlice false (eVar 3) none (some (eC (.int 4)))) (eTup false [eVar 4, e2 subI (eVar 3) (eC (.int 5))])))))))) (sFz 2)) (sRet (e1 freeze (eVar 2))))
/-- _law_told -/
def f_w_told (G : FEnv) : SM := sSeq (sTry (sRet (eCall G 60 [eVar 0, eVar 1])) "PaperError" (some 2) (sIf (tIsE "FlatError" (eVar 2)) (sRet (eTup false [eC (.str "refused"), e1 (attrV "at") (eVar 2)])) sNil)) (sRet (eTup false [eC (.str "refused"), e1 negV (eC (.int 2))]))
/-- _law_none_left -/
def f_w_none_left (G : FEnv) : SM := sSeq (sFor (iV (eVar 0)) (gVar 1) (sFor (iRange1 (e1 lenV (e2 subI (eVar 1) (eC (.int 4))))) (gVar 2) (sSeq (sIf (tNotN (eCall G 116 [eVar 1, eTup false [eC (.str "drop"), e2 subI (eVar 1) (eC (.int 1)), eVar 2]])) (sRet (eC (.bl false))) (sNil)) (sFor (iRange1 (eVar 2)) (gVar 3) (sIf (tNotN (eCall G 116 [eVar 1, eTup false [eC (.str "share"), e2 subI (eVar 1) (eC (.int 1)), eVar 2, eVar 3]])) (sRet (eC (.bl false))) (sNil)))))) (sRet (eC (.bl true)))
/-- law -/
def f_law (G : FEnv) : SM := sSeq (sAsg (eCall G 74 [eVar 0]) (gVar 1)) (sSeq (sAsg (eCall G 117 [eVar 1, eCall G 113 [eVar 1]]) (gVar 2)) (sSeq (sAsg (e1 reprV (eVar 2)) (gVar 3)) (sSeq (sAsg (eVar 2) (gVar 4)) (sSeq (sAsg (eC .non) (gVar 5)) (sSeq (sAsg (eLst true []) (gVar 6)) (sSeq (sSeq (sFor (iRange1 (eCall G 75 [eVar 1, eC (.int 14)])) (gVar 7) (sSeq (sAsg (eCall G 114 [eVar 1, eVar 4]) (gVar 8)) (sSeq (sExpr (e2c lstC appendV (eVar 6) (eVar 8))) (sIf (tIsN (eVar 5)) (sSeq (sAsg (eCall G 115 [eVar 4, eVar 8]) (gVar 9)) (sIf (tIsN (eVar 9)) (sAsg (eTup false [eC (.str "refused"), eVar 7]) (gVar 5)) (sAsg (eVar 9) (gVar 4)))) (sNil))))) (sFz 6)) (sSeq (sIf (tIsN (eVar 5)) (sAsg (eVar 4) (gVar 5)) (sNil)) (sSeq (sIf (tOr (tNe (eCall G 78 [eVar 2, eVar 6]) (eVar 5)) (tNe (e1 reprV (eVar 2)) (eVar 3))) (sRet (eC (.bl false))) (sNil)) (sSeq (sAsg (eCall G 63 [eVar 2]) (gVar 10)) (sSeq (sAsg (eCall G 78 [eVar 2, eVar 10]) (gVar 11)) (sSeq (sIf (tOr (tNot (tIsi "list" (eVar 10))) (tOr (tNot (tIsi "list" (eVar 11))) (tNe (e1 reprV (eVar 2)) (eVar 3)))) (sRet (eC (.bl false))) (sNil)) (sRet (eCall G 118 [eVar 11])))))))))))))
def tb : Tab := { fns := [(("may_trap" : PySem.Str), 54, 1), (("is_used" : PySem.Str), 55, 2), (("without" : PySem.Str), 56, 2), (("renamed" : PySem.Str), 57, 3), (("shared" : PySem.Str), 58, 3), (("step_applied" : PySem.Str), 59, 2), (("duplicate" : PySem.Str), 20, 1), (("rewrite" : PySem.Str), 60, 2), (("share_all" : PySem.Str), 61, 2), (("drop_all" : PySem.Str), 62, 2), (("improve" : PySem.Str), 63, 1), (("_law_state" : PySem.Str), 74, 1), (("_law_draw" : PySem.Str), 75, 2), (("_law_pick" : PySem.Str), 76, 2), (("_law_number" : PySem.Str), 77, 1), (("_law_code" : PySem.Str), 112, 2), (("_law_blocks" : PySem.Str), 113, 1), (("_law_step" : PySem.Str), 114, 2), (("_law_applied" : PySem.Str), 115, 2), (("_law_block_after" : PySem.Str), 116, 2), (("_law_mixed" : PySem.Str), 117, 2), (("_law_told" : PySem.Str), 78, 2), (("_law_none_left" : PySem.Str), 118, 1), (("law" : PySem.Str), 80, 1)], cls := [], mts := [], consts := [("TRAPS", (.tup [(.str "place"), (.str "range"), (.str "same"), (.str "call")]))], excs := [("FlatError", "FlatError")], ats := [], free := ["abs", "any", "enumerate", "int", "isinstance", "len", "list", "max", "range", "repr", "tuple"], exIs := [("FlatError", "FlatError")], exMs := [("PaperError", "PaperError")], oxs := [("PaperError", "PaperError")] }
def ets : List String := ["FlatError"]
def N_f_PaperError___init__ : List PySem.Str := [("self" : PySem.Str), ("at" : PySem.Str)]
abbrev sc_f_PaperError___init__ : PySem.Scope := L2.defScope (inClass (top 2) 0)
theorem ok_f_PaperError___init__ {G : FEnv} {CA : Tags} {XR : XRel} {k : Nat} {X : L2.Cx} {W : L2.WX} (C : Cs tb G CA XR k N_f_PaperError___init__ sc_f_PaperError___init__ X W) : SS CA XR X W (L2.defBody (inClass (top 2) 0)) (f_PaperError___init__ G) := ⟨fun _ _ _ _ _ _ ⟨_, _, _, _, _, q⟩ => q.elim⟩
def N_f_may_trap : List PySem.Str := [("instruction" : PySem.Str)]
abbrev sc_f_may_trap : PySem.Scope := L2.defScope (top 5)
theorem ok_f_may_trap {G : FEnv} {CA : Tags} {XR : XRel} {k : Nat} {X : L2.Cx} {W : L2.WX} (C : Cs tb G CA XR k N_f_may_trap sc_f_may_trap X W) : SS CA XR X W (L2.defBody (top 5)) (f_may_trap G) := sw_one (ss_ret (se_or (se_in C.q.toCw (se_ix C.q.toCw (se_var C.q.toCw 0) (se_int)) (se_glob C.q.toCw (by decide +kernel) (List.mem_of_getElem? (i := 0) rfl))) (se_and1 (se_and (se_eq C.q.toCw (se_ix C.q.toCw (se_var C.q.toCw 0) (se_int)) (se_str)) (se_and1 (se_in C.q.toCw (se_ix C.q.toCw (se_var C.q.toCw 0) (se_int)) (se_tup false (sa_cons (se_str) (sa_cons (se_str) (sa_nil))))))))))
def N_f_is_used : List PySem.Str := [("block" : PySem.Str), ("at" : PySem.Str), ("outputs" : PySem.Str), ("instruction" : PySem.Str), ("slot" : PySem.Str)]
abbrev sc_f_is_used : PySem.Scope := L2.defScope (top 6)
theorem ok_f_is_used {G : FEnv} {CA : Tags} {XR : XRel} {k : Nat} {X : L2.Cx} {W : L2.WX} (C : Cs tb G CA XR k N_f_is_used sc_f_is_used X W) : SS CA XR X W (L2.defBody (top 6)) (f_is_used G) := sw_cons (ss_set C.q.toCw 2 rfl (by decide +kernel) (se_ix C.q.toCw (se_ix C.q.toCw (se_ix C.q.toCw (se_var C.q.toCw 0) (se_int)) (se_var C.q.toCw 1)) (se_int))) (sw_cons (ss_for C (si_of (sl_seq (se_slice false (se_ix C.q.toCw (se_var C.q.toCw 0) (se_int)) (so_some (se_add false (se_var C.q.toCw 1) (se_int))) so_none))) (sg_var C.q.toCw 3 rfl (by decide +kernel)) (sw_one (ss_if (st_truth (se_any C.q (by decide +kernel) (se_lc (ownL := [(("slot" : PySem.Str), 4)]) false C.q (gin_var (by decide)) (blk_of (by decide +kernel)) (sl_seq (se_ix C.q.toCw (se_var C.q.toCw 3) (se_int))) (fun _ _ C1 => sg_var C1.toCw 4 rfl (by decide +kernel)) (fun _ _ C1 => sts_nil) (fun _ _ C1 => se_in C1.toCw (se_var C1.toCw 4) (se_var C1.toCw 2))))) (sw_one (ss_ret (se_bl))) (sw_nil)))) (sw_one (ss_ret (se_any C.q (by decide +kernel) (se_lc (ownL := [(("slot" : PySem.Str), 4)]) false C.q (gin_var (by decide)) (blk_of (by decide +kernel)) (sl_seq (se_ix C.q.toCw (se_var C.q.toCw 0) (se_int))) (fun _ _ C1 => sg_var C1.toCw 4 rfl (by decide +kernel)) (fun _ _ C1 => sts_nil) (fun _ _ C1 => se_in C1.toCw (se_var C1.toCw 4) (se_var C1.toCw 2)))))))
def N_f_without : List PySem.Str := [("block" : PySem.Str), ("at" : PySem.Str)]
abbrev sc_f_without : PySem.Scope := L2.defScope (top 7)
theorem ok_f_without {G : FEnv} {CA : Tags} {XR : XRel} {k : Nat} {X : L2.Cx} {W : L2.WX} (C : Cs tb G CA XR k N_f_without sc_f_without X W) : SS CA XR X W (L2.defBody (top 7)) (f_without G) := sw_one (ss_ret (se_add false (se_slice false (se_var C.q.toCw 0) so_none (so_some (se_int))) (se_tup false (sa_cons (se_add false (se_slice false (se_ix C.q.toCw (se_var C.q.toCw 0) (se_int)) so_none (so_some (se_var C.q.toCw 1))) (se_slice false (se_ix C.q.toCw (se_var C.q.toCw 0) (se_int)) (so_some (se_add false (se_var C.q.toCw 1) (se_int))) so_none)) (sa_cons (se_ix C.q.toCw (se_var C.q.toCw 0) (se_int)) (sa_nil))))))
def N_f_renamed : List PySem.Str := [("row" : PySem.Str), ("old" : PySem.Str), ("new" : PySem.Str), ("slot" : PySem.Str)]
abbrev sc_f_renamed : PySem.Scope := L2.defScope (top 8)
theorem ok_f_renamed {G : FEnv} {CA : Tags} {XR : XRel} {k : Nat} {X : L2.Cx} {W : L2.WX} (C : Cs tb G CA XR k N_f_renamed sc_f_renamed X W) : SS CA XR X W (L2.defBody (top 8)) (f_renamed G) := sw_one (ss_ret (se_lc (ownL := [(("slot" : PySem.Str), 3)]) false C.q (gin_var (by decide)) (blk_of (by decide +kernel)) (sl_seq (se_var C.q.toCw 0)) (fun _ _ C1 => sg_var C1.toCw 3 rfl (by decide +kernel)) (fun _ _ C1 => sts_nil) (fun _ _ C1 => se_if (st_eq C1.toCw (se_var C1.toCw 3) (se_var C1.toCw 1)) (se_var C1.toCw 2) (se_var C1.toCw 3))))
def N_f_shared : List PySem.Str := [("block" : PySem.Str), ("at" : PySem.Str), ("earlier" : PySem.Str), ("old" : PySem.Str), ("new" : PySem.Str), ("code" : PySem.Str), ("name" : PySem.Str), ("extra" : PySem.Str), ("inputs" : PySem.Str), ("outputs" : PySem.Str)]
abbrev sc_f_shared : PySem.Scope := L2.defScope (top 9)
theorem ok_f_shared {G : FEnv} {CA : Tags} {XR : XRel} {k : Nat} {X : L2.Cx} {W : L2.WX} (C : Cs tb G CA XR k N_f_shared sc_f_shared X W) : SS CA XR X W (L2.defBody (top 9)) (f_shared G) := sw_cons (ss_set C.q.toCw 3 rfl (by decide +kernel) (se_ix C.q.toCw (se_ix C.q.toCw (se_ix C.q.toCw (se_ix C.q.toCw (se_var C.q.toCw 0) (se_int)) (se_var C.q.toCw 1)) (se_int)) (se_int))) (sw_cons (ss_set C.q.toCw 4 rfl (by decide +kernel) (se_ix C.q.toCw (se_ix C.q.toCw (se_ix C.q.toCw (se_ix C.q.toCw (se_var C.q.toCw 0) (se_int)) (se_var C.q.toCw 2)) (se_int)) (se_int))) (sw_cons (ss_set C.q.toCw 5 rfl (by decide +kernel) (se_slice false (se_ix C.q.toCw (se_var C.q.toCw 0) (se_int)) so_none (so_some (se_var C.q.toCw 1)))) (sw_cons (ss_for C (si_of (sl_seq (se_slice false (se_ix C.q.toCw (se_var C.q.toCw 0) (se_int)) (so_some (se_add false (se_var C.q.toCw 1) (se_int))) so_none))) (sg_tup C.q (sgs_cons C.q.toCw 6 rfl (by decide +kernel) (sgs_cons C.q.toCw 7 rfl (by decide +kernel) (sgs_cons C.q.toCw 8 rfl (by decide +kernel) (sgs_cons C.q.toCw 9 rfl (by decide +kernel) (sgs_nil)))))) (sw_one (ss_set C.q.toCw 5 rfl (by decide +kernel) (se_add false (se_var C.q.toCw 5) (se_lst false (sa_cons (se_tup false (sa_cons (se_var C.q.toCw 6) (sa_cons (se_var C.q.toCw 7) (sa_cons (se_call C.q 57 3 (by decide +kernel) (List.mem_of_getElem? (i := 3) rfl) rfl (sa_cons (se_var C.q.toCw 8) (sa_cons (se_var C.q.toCw 3) (sa_cons (se_var C.q.toCw 4) (sa_nil))))) (sa_cons (se_list C.q.toCw false (by decide +kernel) (se_var C.q.toCw 9)) (sa_nil)))))) (sa_nil))))))) (sw_one (ss_ret (se_add false (se_slice false (se_var C.q.toCw 0) so_none (so_some (se_int))) (se_tup false (sa_cons (se_var C.q.toCw 5) (sa_cons (se_call C.q 57 3 (by decide +kernel) (List.mem_of_getElem? (i := 3) rfl) rfl (sa_cons (se_ix C.q.toCw (se_var C.q.toCw 0) (se_int)) (sa_cons (se_var C.q.toCw 3) (sa_cons (se_var C.q.toCw 4) (sa_nil))))) (sa_nil))))))))))
def N_f_step_applied : List PySem.Str := [("block" : PySem.Str), ("step" : PySem.Str), ("code" : PySem.Str), ("at" : PySem.Str), ("earlier" : PySem.Str)]
abbrev sc_f_step_applied : PySem.Scope := L2.defScope (top 10)
theorem ok_f_step_applied {G : FEnv} {CA : Tags} {XR : XRel} {k : Nat} {X : L2.Cx} {W : L2.WX} (C : Cs tb G CA XR k N_f_step_applied sc_f_step_applied X W) : SS CA XR X W (L2.defBody (top 10)) (f_step_applied G) := sw_cons (ss_set C.q.toCw 2 rfl (by decide +kernel) (se_ix C.q.toCw (se_var C.q.toCw 0) (se_int))) (sw_cons (ss_set C.q.toCw 3 rfl (by decide +kernel) (se_ix C.q.toCw (se_var C.q.toCw 1) (se_int))) (sw_cons (ss_if (st_bool (sw_or (st_lt (se_var C.q.toCw 3) (se_int)) (sw_or1 (st_ge (se_var C.q.toCw 3) (se_len C.q.toCw (by decide +kernel) (se_var C.q.toCw 2)))))) (sw_one (ss_ret (se_non))) (sw_nil)) (sw_cons (ss_if (st_eq C.q.toCw (se_ix C.q.toCw (se_var C.q.toCw 1) (se_int)) (se_str)) (sw_cons (ss_if (st_bool (sw_or (st_truth (se_call C.q 54 1 (by decide +kernel) (List.mem_of_getElem? (i := 0) rfl) rfl (sa_cons (se_ix C.q.toCw (se_var C.q.toCw 2) (se_var C.q.toCw 3)) (sa_nil)))) (sw_or1 (st_truth (se_call C.q 55 2 (by decide +kernel) (List.mem_of_getElem? (i := 1) rfl) rfl (sa_cons (se_var C.q.toCw 0) (sa_cons (se_var C.q.toCw 3) (sa_nil)))))))) (sw_one (ss_ret (se_non))) (sw_nil)) (sw_one (ss_ret (se_call C.q 56 2 (by decide +kernel) (List.mem_of_getElem? (i := 2) rfl) rfl (sa_cons (se_var C.q.toCw 0) (sa_cons (se_var C.q.toCw 3) (sa_nil))))))) (sw_nil)) (sw_cons (ss_set C.q.toCw 4 rfl (by decide +kernel) (se_ix C.q.toCw (se_var C.q.toCw 1) (se_int))) (sw_cons (ss_if (st_bool (sw_or (st_ne C.q.toCw (se_ix C.q.toCw (se_var C.q.toCw 1) (se_int)) (se_str)) (sw_or (st_lt (se_var C.q.toCw 4) (se_int)) (sw_or1 (st_ge (se_var C.q.toCw 4) (se_var C.q.toCw 3)))))) (sw_one (ss_ret (se_non))) (sw_nil)) (sw_cons (ss_if (st_bool (sw_or (st_eq C.q.toCw (se_ix C.q.toCw (se_ix C.q.toCw (se_var C.q.toCw 2) (se_var C.q.toCw 3)) (se_int)) (se_str)) (sw_or1 (st_ne C.q.toCw (se_slice false (se_ix C.q.toCw (se_var C.q.toCw 2) (se_var C.q.toCw 3)) so_none (so_some (se_int))) (se_slice false (se_ix C.q.toCw (se_var C.q.toCw 2) (se_var C.q.toCw 4)) so_none (so_some (se_int))))))) (sw_one (ss_ret (se_non))) (sw_nil)) (sw_one (ss_ret (se_call C.q 58 3 (by decide +kernel) (List.mem_of_getElem? (i := 4) rfl) rfl (sa_cons (se_var C.q.toCw 0) (sa_cons (se_var C.q.toCw 3) (sa_cons (se_var C.q.toCw 4) (sa_nil)))))))))))))
def N_f_duplicate : List PySem.Str := [("block" : PySem.Str), ("code" : PySem.Str), ("name" : PySem.Str), ("extra" : PySem.Str), ("inputs" : PySem.Str), ("outputs" : PySem.Str)]
abbrev sc_f_duplicate : PySem.Scope := L2.defScope (top 11)
theorem ok_f_duplicate {G : FEnv} {CA : Tags} {XR : XRel} {k : Nat} {X : L2.Cx} {W : L2.WX} (C : Cs tb G CA XR k N_f_duplicate sc_f_duplicate X W) : SS CA XR X W (L2.defBody (top 11)) (f_duplicate G) := sw_cons (ss_lc (ownL := [(("name" : PySem.Str), 2), (("extra" : PySem.Str), 3), (("inputs" : PySem.Str), 4), (("outputs" : PySem.Str), 5)]) false C.q 1 rfl (by decide +kernel) rfl rfl (by decide +kernel) (gin_tup (by decide)) (blk_of (by decide +kernel)) (sl_seq (se_ix C.q.toCw (se_var C.q.toCw 0) (se_int))) (fun _ _ C1 => sg_tup C1 (sgs_cons C1.toCw 2 rfl (by decide +kernel) (sgs_cons C1.toCw 3 rfl (by decide +kernel) (sgs_cons C1.toCw 4 rfl (by decide +kernel) (sgs_cons C1.toCw 5 rfl (by decide +kernel) (sgs_nil)))))) (fun _ _ C1 => sts_nil) (fun _ _ C1 => se_tup false (sa_cons (se_var C1.toCw 2) (sa_cons (se_var C1.toCw 3) (sa_cons (se_list C1.toCw false (by decide +kernel) (se_var C1.toCw 4)) (sa_cons (se_list C1.toCw false (by decide +kernel) (se_var C1.toCw 5)) (sa_nil))))))) (sw_one (ss_ret (se_add false (se_slice false (se_var C.q.toCw 0) so_none (so_some (se_int))) (se_tup false (sa_cons (se_var C.q.toCw 1) (sa_cons (se_list C.q.toCw false (by decide +kernel) (se_ix C.q.toCw (se_var C.q.toCw 0) (se_int))) (sa_nil)))))))
def N_f_rewrite : List PySem.Str := [("blocks" : PySem.Str), ("paper" : PySem.Str), ("result" : PySem.Str), ("block" : PySem.Str), ("number" : PySem.Str), ("step" : PySem.Str), ("found" : PySem.Str), ("changed" : PySem.Str), ("at" : PySem.Str)]
abbrev sc_f_rewrite : PySem.Scope := L2.defScope (top 12)
theorem ok_f_rewrite {G : FEnv} {CA : Tags} {XR : XRel} {k : Nat} {X : L2.Cx} {W : L2.WX} (C : Cs tb G CA XR k N_f_rewrite sc_f_rewrite X W) : SS CA XR X W (L2.defBody (top 12)) (f_rewrite G) := sw_cons (ss_lc (ownL := [(("block" : PySem.Str), 3)]) true C.q 2 rfl (by decide +kernel) rfl rfl (by decide +kernel) (gin_var (by decide)) (blk_of (by decide +kernel)) (sl_seq (se_var C.q.toCw 0)) (fun _ _ C1 => sg_var C1.toCw 3 rfl (by decide +kernel)) (fun _ _ C1 => sts_nil) (fun _ _ C1 => se_call C1 20 1 (by decide +kernel) (List.mem_of_getElem? (i := 6) rfl) rfl (sa_cons (se_var C1.toCw 3) (sa_nil)))) (sw_cons (ss_fz 2 (ss_for C (si_of (sl_enum C.q.toCw (by decide +kernel) (se_var C.q.toCw 1))) (sg_tup C.q (sgs_cons C.q.toCw 4 rfl (by decide +kernel) (sgs_cons C.q.toCw 5 rfl (by decide +kernel) (sgs_nil)))) (sw_cons (ss_lcN (ownL := [(("at" : PySem.Str), 8), (("block" : PySem.Str), 3)]) false C.q 6 rfl (by decide +kernel) rfl rfl (by decide +kernel) (gin_tup (by decide)) (blk_of (by decide +kernel)) (sn_enum C.q.toCw (by decide +kernel) (se_var C.q.toCw 2)) (fun _ _ C1 => sg_tup C1 (sgs_cons C1.toCw 8 rfl (by decide +kernel) (sgs_cons C1.toCw 3 rfl (by decide +kernel) (sgs_nil)))) (fun _ _ C1 => sts_one (st_eq C1.toCw (se_ix C1.toCw (se_var C1.toCw 3) (se_int)) (se_ix C1.toCw (se_var C1.toCw 5) (se_int)))) (fun _ _ C1 => se_var C1.toCw 8)) (sw_cons (ss_set C.q.toCw 7 rfl (by decide +kernel) (se_if (st_truth (se_var C.q.toCw 6)) (se_call C.q 59 2 (by decide +kernel) (List.mem_of_getElem? (i := 5) rfl) rfl (sa_cons (se_ix C.q.toCw (se_var C.q.toCw 2) (se_ix C.q.toCw (se_var C.q.toCw 6) (se_int))) (sa_cons (se_var C.q.toCw 5) (sa_nil)))) (se_non))) (sw_cons (ss_if (st_isN (se_var C.q.toCw 7)) (sw_one (ss_raiseA C "PaperError" (by decide +kernel) (List.mem_of_getElem? (i := 0) rfl) (se_var C.q.toCw 4))) (sw_nil)) (sw_one (ss_sub C.q.toCw (se_var C.q.toCw 7) (se_var C.q.toCw 2) (se_ix C.q.toCw (se_var C.q.toCw 6) (se_int))))))))) (sw_one (ss_ret (se_frz (se_var C.q.toCw 2)))))
def N_f_share_all : List PySem.Str := [("block" : PySem.Str), ("paper" : PySem.Str), ("seen" : PySem.Str), ("at" : PySem.Str), ("key" : PySem.Str), ("name" : PySem.Str), ("extra" : PySem.Str), ("inputs" : PySem.Str), ("_" : PySem.Str), ("step" : PySem.Str)]
abbrev sc_f_share_all : PySem.Scope := L2.defScope (top 13)
theorem ok_f_share_all {G : FEnv} {CA : Tags} {XR : XRel} {k : Nat} {X : L2.Cx} {W : L2.WX} (C : Cs tb G CA XR k N_f_share_all sc_f_share_all X W) : SS CA XR X W (L2.defBody (top 13)) (f_share_all G) := sw_cons (ss_set C.q.toCw 2 rfl (by decide +kernel) (se_kd C.q.toCw)) (sw_cons (ss_set C.q.toCw 3 rfl (by decide +kernel) (se_int)) (sw_cons (ss_while C (st_lt (se_var C.q.toCw 3) (se_len C.q.toCw (by decide +kernel) (se_ix C.q.toCw (se_var C.q.toCw 0) (se_int)))) (sw_cons (ss_asg (se_ix C.q.toCw (se_ix C.q.toCw (se_var C.q.toCw 0) (se_int)) (se_var C.q.toCw 3)) (sg_tup C.q (sgs_cons C.q.toCw 5 rfl (by decide +kernel) (sgs_cons C.q.toCw 6 rfl (by decide +kernel) (sgs_cons C.q.toCw 7 rfl (by decide +kernel) (sgs_cons C.q.toCw 8 rfl (by decide +kernel) (sgs_nil))))))) (sw_cons (ss_set C.q.toCw 4 rfl (by decide +kernel) (se_tup false (sa_cons (se_var C.q.toCw 5) (sa_cons (se_var C.q.toCw 6) (sa_cons (se_tuple C.q.toCw false (by decide +kernel) (se_var C.q.toCw 7)) (sa_nil)))))) (sw_one (ss_if (st_bool (sw_and (st_ne C.q.toCw (se_var C.q.toCw 5) (se_str)) (sw_and1 (st_inK C.q.toCw (se_var C.q.toCw 4) (se_var C.q.toCw 2))))) (sw_cons (ss_set C.q.toCw 9 rfl (by decide +kernel) (se_tup false (sa_cons (se_str) (sa_cons (se_ix C.q.toCw (se_var C.q.toCw 0) (se_int)) (sa_cons (se_var C.q.toCw 3) (sa_cons (se_ixK C.q.toCw (se_var C.q.toCw 2) (se_var C.q.toCw 4)) (sa_nil))))))) (sw_cons (ss_expr (se_append (se_var C.q.toCw 1) (se_var C.q.toCw 9))) (sw_one (ss_set C.q.toCw 0 rfl (by decide +kernel) (se_call C.q 59 2 (by decide +kernel) (List.mem_of_getElem? (i := 5) rfl) rfl (sa_cons (se_var C.q.toCw 0) (sa_cons (se_var C.q.toCw 9) (sa_nil)))))))) (sw_cons (ss_subK C.q.toCw (se_var C.q.toCw 3) (se_var C.q.toCw 2) (se_var C.q.toCw 4)) (sw_one (ss_set C.q.toCw 3 rfl (by decide +kernel) (se_add false (se_var C.q.toCw 3) (se_int)))))))))) (sw_one (ss_ret (se_var C.q.toCw 0)))))
def N_f_drop_all : List PySem.Str := [("block" : PySem.Str), ("paper" : PySem.Str), ("at" : PySem.Str), ("step" : PySem.Str), ("after" : PySem.Str)]
abbrev sc_f_drop_all : PySem.Scope := L2.defScope (top 14)
theorem ok_f_drop_all {G : FEnv} {CA : Tags} {XR : XRel} {k : Nat} {X : L2.Cx} {W : L2.WX} (C : Cs tb G CA XR k N_f_drop_all sc_f_drop_all X W) : SS CA XR X W (L2.defBody (top 14)) (f_drop_all G) := sw_one (ss_for C (si_down C.q.toCw (by decide +kernel) (se_sub (se_len C.q.toCw (by decide +kernel) (se_ix C.q.toCw (se_var C.q.toCw 0) (se_int))) (se_int)) (se_neg (se_int)) (se_neg (se_int))) (sg_var C.q.toCw 2 rfl (by decide +kernel)) (sw_cons (ss_set C.q.toCw 3 rfl (by decide +kernel) (se_tup false (sa_cons (se_str) (sa_cons (se_ix C.q.toCw (se_var C.q.toCw 0) (se_int)) (sa_cons (se_var C.q.toCw 2) (sa_nil)))))) (sw_cons (ss_set C.q.toCw 4 rfl (by decide +kernel) (se_call C.q 59 2 (by decide +kernel) (List.mem_of_getElem? (i := 5) rfl) rfl (sa_cons (se_var C.q.toCw 0) (sa_cons (se_var C.q.toCw 3) (sa_nil))))) (sw_one (ss_if (st_notN (se_var C.q.toCw 4)) (sw_cons (ss_expr (se_append (se_var C.q.toCw 1) (se_var C.q.toCw 3))) (sw_one (ss_set C.q.toCw 0 rfl (by decide +kernel) (se_var C.q.toCw 4)))) (sw_nil))))))
def N_f_improve : List PySem.Str := [("blocks" : PySem.Str), ("paper" : PySem.Str), ("block" : PySem.Str)]
abbrev sc_f_improve : PySem.Scope := L2.defScope (top 15)
theorem ok_f_improve {G : FEnv} {CA : Tags} {XR : XRel} {k : Nat} {X : L2.Cx} {W : L2.WX} (C : Cs tb G CA XR k N_f_improve sc_f_improve X W) : SS CA XR X W (L2.defBody (top 15)) (f_improve G) := sw_cons (ss_set C.q.toCw 1 rfl (by decide +kernel) (se_lst true (sa_nil))) (sw_cons (ss_for C (si_of (sl_seq (se_var C.q.toCw 0))) (sg_var C.q.toCw 2 rfl (by decide +kernel)) (sw_one (ss_expr (se_call C.q 62 2 (by decide +kernel) (List.mem_of_getElem? (i := 9) rfl) rfl (sa_cons (se_call C.q 61 2 (by decide +kernel) (List.mem_of_getElem? (i := 8) rfl) rfl (sa_cons (se_var C.q.toCw 2) (sa_cons (se_var C.q.toCw 1) (sa_nil)))) (sa_cons (se_var C.q.toCw 1) (sa_nil))))))) (sw_one (ss_ret (se_frz (se_var C.q.toCw 1)))))
def N_f_w_state : List PySem.Str := [("_law_script" : PySem.Str), ("_law_seed" : PySem.Str), ("_law_cell" : PySem.Str)]
abbrev sc_f_w_state : PySem.Scope := L2.defScope (top 17)
theorem ok_f_w_state {G : FEnv} {CA : Tags} {XR : XRel} {k : Nat} {X : L2.Cx} {W : L2.WX} (C : Cs tb G CA XR k N_f_w_state sc_f_w_state X W) : SS CA XR X W (L2.defBody (top 17)) (f_w_state G) := sw_cons (ss_set C.q.toCw 1 rfl (by decide +kernel) (se_int)) (sw_cons (ss_for C (si_of (sl_seq (se_var C.q.toCw 0))) (sg_var C.q.toCw 2 rfl (by decide +kernel)) (sw_one (ss_set C.q.toCw 1 rfl (by decide +kernel) (se_mod (se_intT C.q.toCw (by decide +kernel) (se_add false (se_mul false (se_var C.q.toCw 1) (se_int)) (se_var C.q.toCw 2))) (se_int))))) (sw_one (ss_ret (se_lst true (sa_cons (se_lc (ownL := [(("_law_cell" : PySem.Str), 2)]) true C.q (gin_var (by decide)) (blk_of (by decide +kernel)) (sl_seq (se_var C.q.toCw 0)) (fun _ _ C1 => sg_var C1.toCw 2 rfl (by decide +kernel)) (fun _ _ C1 => sts_nil) (fun _ _ C1 => se_abs C1.toCw (by decide +kernel) (se_intT C1.toCw (by decide +kernel) (se_var C1.toCw 2)))) (sa_cons (se_add false (se_var C.q.toCw 1) (se_int)) (sa_nil)))))))
def N_f_w_draw : List PySem.Str := [("_law_state_here" : PySem.Str), ("_law_many" : PySem.Str), ("_law_cells" : PySem.Str), ("_law_value" : PySem.Str), ("_law_mixed_here" : PySem.Str)]
abbrev sc_f_w_draw : PySem.Scope := L2.defScope (top 18)
theorem ok_f_w_draw {G : FEnv} {CA : Tags} {XR : XRel} {k : Nat} {X : L2.Cx} {W : L2.WX} (C : Cs tb G CA XR k N_f_w_draw sc_f_w_draw X W) : SS CA XR X W (L2.defBody (top 18)) (f_w_draw G) := sw_cons (ss_set C.q.toCw 2 rfl (by decide +kernel) (se_ix C.q.toCw (se_var C.q.toCw 0) (se_int))) (sw_cons (ss_while C (st_bool (sw_and (st_gt (se_len C.q.toCw (by decide +kernel) (se_var C.q.toCw 2)) (se_int)) (sw_and1 (st_eq C.q.toCw (se_ix C.q.toCw (se_var C.q.toCw 2) (se_int)) (se_int))))) (sw_one (ss_expr (se_pop (se_var C.q.toCw 2) (se_int))))) (sw_cons (ss_if (st_gt (se_len C.q.toCw (by decide +kernel) (se_var C.q.toCw 2)) (se_int)) (sw_cons (ss_set C.q.toCw 3 rfl (by decide +kernel) (se_ix C.q.toCw (se_var C.q.toCw 2) (se_int))) (sw_cons (ss_sub C.q.toCw (se_fdiv (se_var C.q.toCw 3) (se_var C.q.toCw 1)) (se_var C.q.toCw 2) (se_int)) (sw_one (ss_ret (se_mod (se_intT C.q.toCw (by decide +kernel) (se_var C.q.toCw 3)) (se_var C.q.toCw 1)))))) (sw_nil)) (sw_cons (ss_set C.q.toCw 4 rfl (by decide +kernel) (se_mod (se_intT C.q.toCw (by decide +kernel) (se_add false (se_mul false (se_ix C.q.toCw (se_var C.q.toCw 0) (se_int)) (se_int)) (se_int))) (se_int))) (sw_cons (ss_sub C.q.toCw (se_var C.q.toCw 4) (se_var C.q.toCw 0) (se_int)) (sw_one (ss_ret (se_mod (se_intT C.q.toCw (by decide +kernel) (se_fdiv (se_var C.q.toCw 4) (se_int))) (se_var C.q.toCw 1))))))))
def N_f_w_pick : List PySem.Str := [("_law_state_here" : PySem.Str), ("_law_row" : PySem.Str)]
abbrev sc_f_w_pick : PySem.Scope := L2.defScope (top 19)
theorem ok_f_w_pick {G : FEnv} {CA : Tags} {XR : XRel} {k : Nat} {X : L2.Cx} {W : L2.WX} (C : Cs tb G CA XR k N_f_w_pick sc_f_w_pick X W) : SS CA XR X W (L2.defBody (top 19)) (f_w_pick G) := sw_one (ss_ret (se_ix C.q.toCw (se_var C.q.toCw 1) (se_call C.q 75 2 (by decide +kernel) (List.mem_of_getElem? (i := 12) rfl) rfl (sa_cons (se_var C.q.toCw 0) (sa_cons (se_len C.q.toCw (by decide +kernel) (se_var C.q.toCw 1)) (sa_nil))))))
def N_f_w_number : List PySem.Str := [("_law_state_here" : PySem.Str), ("_law_edges" : PySem.Str)]
abbrev sc_f_w_number : PySem.Scope := L2.defScope (top 20)
theorem ok_f_w_number {G : FEnv} {CA : Tags} {XR : XRel} {k : Nat} {X : L2.Cx} {W : L2.WX} (C : Cs tb G CA XR k N_f_w_number sc_f_w_number X W) : SS CA XR X W (L2.defBody (top 20)) (f_w_number G) := sw_cons (ss_set C.q.toCw 1 rfl (by decide +kernel) (se_lst false (sa_cons (se_int) (sa_cons (se_neg (se_int)) (sa_cons (se_int) (sa_cons (se_neg (se_int)) (sa_cons (se_int) (sa_nil)))))))) (sw_cons (ss_if (st_eq C.q.toCw (se_call C.q 75 2 (by decide +kernel) (List.mem_of_getElem? (i := 12) rfl) rfl (sa_cons (se_var C.q.toCw 0) (sa_cons (se_int) (sa_nil)))) (se_int)) (sw_one (ss_ret (se_call C.q 76 2 (by decide +kernel) (List.mem_of_getElem? (i := 13) rfl) rfl (sa_cons (se_var C.q.toCw 0) (sa_cons (se_var C.q.toCw 1) (sa_nil)))))) (sw_nil)) (sw_one (ss_ret (se_sub (se_call C.q 75 2 (by decide +kernel) (List.mem_of_getElem? (i := 12) rfl) rfl (sa_cons (se_var C.q.toCw 0) (sa_cons (se_int) (sa_nil)))) (se_int)))))
def N_f_w_code : List PySem.Str := [("_law_state_here" : PySem.Str), ("_law_many" : PySem.Str), ("_law_code_here" : PySem.Str), ("_law_safe" : PySem.Str), ("_law_k" : PySem.Str), ("_law_out" : PySem.Str), ("_law_name" : PySem.Str), ("_law_first" : PySem.Str), ("_law_second" : PySem.Str), ("_law_again" : PySem.Str)]
abbrev sc_f_w_code : PySem.Scope := L2.defScope (top 21)
theorem ok_f_w_code {G : FEnv} {CA : Tags} {XR : XRel} {k : Nat} {X : L2.Cx} {W : L2.WX} (C : Cs tb G CA XR k N_f_w_code sc_f_w_code X W) : SS CA XR X W (L2.defBody (top 21)) (f_w_code G) := sw_cons (ss_set C.q.toCw 2 rfl (by decide +kernel) (se_lst true (sa_nil))) (sw_cons (ss_lcR (ownL := [(("_law_k" : PySem.Str), 4)]) true C.q 3 rfl (by decide +kernel) rfl rfl (by decide +kernel) (gin_var (by decide)) (blk_of (by decide +kernel)) (si_range1 C.q.toCw (by decide +kernel) (se_var C.q.toCw 1)) (fun _ _ C1 => sg_var C1.toCw 4 rfl (by decide +kernel)) (fun _ _ C1 => sts_nil) (fun _ _ C1 => se_var C1.toCw 4)) (sw_cons (ss_set C.q.toCw 5 rfl (by decide +kernel) (se_var C.q.toCw 1)) (sw_cons (ss_fz 3 (ss_fz 2 (ss_for C (si_range1 C.q.toCw (by decide +kernel) (se_call C.q 75 2 (by decide +kernel) (List.mem_of_getElem? (i := 12) rfl) rfl (sa_cons (se_var C.q.toCw 0) (sa_cons (se_int) (sa_nil))))) (sg_var C.q.toCw 4 rfl (by decide +kernel)) (sw_cons (ss_set C.q.toCw 6 rfl (by decide +kernel) (se_call C.q 76 2 (by decide +kernel) (List.mem_of_getElem? (i := 13) rfl) rfl (sa_cons (se_var C.q.toCw 0) (sa_cons (se_lst false (sa_cons (se_str) (sa_cons (se_str) (sa_cons (se_str) (sa_cons (se_str) (sa_cons (se_str) (sa_cons (se_str) (sa_cons (se_str) (sa_cons (se_str) (sa_cons (se_str) (sa_nil))))))))))) (sa_nil))))) (sw_cons (ss_set C.q.toCw 7 rfl (by decide +kernel) (se_call C.q 76 2 (by decide +kernel) (List.mem_of_getElem? (i := 13) rfl) rfl (sa_cons (se_var C.q.toCw 0) (sa_cons (se_var C.q.toCw 3) (sa_nil))))) (sw_cons (ss_set C.q.toCw 8 rfl (by decide +kernel) (se_call C.q 76 2 (by decide +kernel) (List.mem_of_getElem? (i := 13) rfl) rfl (sa_cons (se_var C.q.toCw 0) (sa_cons (se_var C.q.toCw 3) (sa_nil))))) (sw_cons (ss_if (st_eq C.q.toCw (se_var C.q.toCw 6) (se_str)) (sw_one (ss_expr (se_append (se_var C.q.toCw 2) (se_tup false (sa_cons (se_str) (sa_cons (se_call C.q 75 2 (by decide +kernel) (List.mem_of_getElem? (i := 12) rfl) rfl (sa_cons (se_var C.q.toCw 0) (sa_cons (se_int) (sa_nil)))) (sa_cons (se_lst false (sa_cons (se_var C.q.toCw 7) (sa_nil))) (sa_cons (se_lst false (sa_cons (se_var C.q.toCw 5) (sa_nil))) (sa_nil))))))))) (sw_one (ss_if (st_eq C.q.toCw (se_var C.q.toCw 6) (se_str)) (sw_one (ss_expr (se_append (se_var C.q.toCw 2) (se_tup false (sa_cons (se_str) (sa_cons (se_call C.q 76 2 (by decide +kernel) (List.mem_of_getElem? (i := 13) rfl) rfl (sa_cons (se_var C.q.toCw 0) (sa_cons (se_lst false (sa_cons (se_str) (sa_cons (se_str) (sa_cons (se_str) (sa_cons (se_str) (sa_cons (se_str) (sa_nil))))))) (sa_nil)))) (sa_cons (se_lst false (sa_cons (se_var C.q.toCw 7) (sa_cons (se_var C.q.toCw 8) (sa_nil)))) (sa_cons (se_lst false (sa_cons (se_var C.q.toCw 5) (sa_nil))) (sa_nil))))))))) (sw_one (ss_if (st_eq C.q.toCw (se_var C.q.toCw 6) (se_str)) (sw_one (ss_expr (se_append (se_var C.q.toCw 2) (se_tup false (sa_cons (se_str) (sa_cons (se_call C.q 76 2 (by decide +kernel) (List.mem_of_getElem? (i := 13) rfl) rfl (sa_cons (se_var C.q.toCw 0) (sa_cons (se_lst false (sa_cons (se_str) (sa_cons (se_str) (sa_nil)))) (sa_nil)))) (sa_cons (se_lst false (sa_cons (se_var C.q.toCw 7) (sa_cons (se_var C.q.toCw 8) (sa_nil)))) (sa_cons (se_lst false (sa_cons (se_var C.q.toCw 5) (sa_nil))) (sa_nil))))))))) (sw_one (ss_if (st_eq C.q.toCw (se_var C.q.toCw 6) (se_str)) (sw_cons (ss_expr (se_append (se_var C.q.toCw 2) (se_tup false (sa_cons (se_str) (sa_cons (se_non) (sa_cons (se_lst false (sa_cons (se_var C.q.toCw 7) (sa_cons (se_var C.q.toCw 8) (sa_nil)))) (sa_cons (se_lst false (sa_cons (se_var C.q.toCw 5) (sa_nil))) (sa_nil)))))))) (sw_cons (ss_expr (se_append (se_var C.q.toCw 2) (se_tup false (sa_cons (se_str) (sa_cons (se_int) (sa_cons (se_lst false (sa_cons (se_var C.q.toCw 7) (sa_nil))) (sa_cons (se_lst false (sa_cons (se_add false (se_var C.q.toCw 5) (se_int)) (sa_nil))) (sa_nil)))))))) (sw_one (ss_set C.q.toCw 5 rfl (by decide +kernel) (se_add false (se_var C.q.toCw 5) (se_int)))))) (sw_one (ss_if (st_eq C.q.toCw (se_var C.q.toCw 6) (se_str)) (sw_one (ss_expr (se_append (se_var C.q.toCw 2) (se_tup false (sa_cons (se_str) (sa_cons (se_non) (sa_cons (se_lst false (sa_cons (se_var C.q.toCw 7) (sa_cons (se_var C.q.toCw 8) (sa_nil)))) (sa_cons (se_lst false (sa_cons (se_var C.q.toCw 5) (sa_nil))) (sa_nil))))))))) (sw_one (ss_expr (se_append (se_var C.q.toCw 2) (se_tup false (sa_cons (se_var C.q.toCw 6) (sa_cons (se_non) (sa_cons (se_lst false (sa_cons (se_var C.q.toCw 7) (sa_nil))) (sa_cons (se_lst false (sa_cons (se_var C.q.toCw 5) (sa_nil))) (sa_nil)))))))))))))))))) (sw_cons (ss_expr (se_append (se_var C.q.toCw 3) (se_var C.q.toCw 5))) (sw_cons (ss_set C.q.toCw 5 rfl (by decide +kernel) (se_add false (se_var C.q.toCw 5) (se_int))) (sw_one (ss_if (st_bool (sw_and (st_eq C.q.toCw (se_call C.q 75 2 (by decide +kernel) (List.mem_of_getElem? (i := 12) rfl) rfl (sa_cons (se_var C.q.toCw 0) (sa_cons (se_int) (sa_nil)))) (se_int)) (sw_and1 (st_gt (se_len C.q.toCw (by decide +kernel) (se_var C.q.toCw 2)) (se_int))))) (sw_cons (ss_set C.q.toCw 9 rfl (by decide +kernel) (se_call C.q 76 2 (by decide +kernel) (List.mem_of_getElem? (i := 13) rfl) rfl (sa_cons (se_var C.q.toCw 0) (sa_cons (se_var C.q.toCw 2) (sa_nil))))) (sw_cons (ss_expr (se_append (se_var C.q.toCw 2) (se_tup false (sa_cons (se_ix C.q.toCw (se_var C.q.toCw 9) (se_int)) (sa_cons (se_ix C.q.toCw (se_var C.q.toCw 9) (se_int)) (sa_cons (se_list C.q.toCw false (by decide +kernel) (se_ix C.q.toCw (se_var C.q.toCw 9) (se_int))) (sa_cons (se_lst false (sa_cons (se_var C.q.toCw 5) (sa_nil))) (sa_nil)))))))) (sw_one (ss_set C.q.toCw 5 rfl (by decide +kernel) (se_add false (se_var C.q.toCw 5) (se_int)))))) (sw_nil)))))))))))) (sw_one (ss_ret (se_lst false (sa_cons (se_var C.q.toCw 2) (sa_cons (se_var C.q.toCw 3) (sa_nil)))))))))
def N_f_w_blocks : List PySem.Str := [("_law_state_here" : PySem.Str), ("_law_code_here" : PySem.Str), ("_law_safe" : PySem.Str), ("_law_results" : PySem.Str), ("_law_pair" : PySem.Str), ("_law_main" : PySem.Str), ("_law_inner" : PySem.Str), ("_law_other" : PySem.Str), ("_law_number_here" : PySem.Str), ("_law_part" : PySem.Str), ("_law_call" : PySem.Str)]
abbrev sc_f_w_blocks : PySem.Scope := L2.defScope (top 22)
theorem ok_f_w_blocks {G : FEnv} {CA : Tags} {XR : XRel} {k : Nat} {X : L2.Cx} {W : L2.WX} (C : Cs tb G CA XR k N_f_w_blocks sc_f_w_blocks X W) : SS CA XR X W (L2.defBody (top 22)) (f_w_blocks G) := sw_cons (ss_asg (se_call C.q 112 2 (by decide +kernel) (List.mem_of_getElem? (i := 15) rfl) rfl (sa_cons (se_var C.q.toCw 0) (sa_cons (se_int) (sa_nil)))) (sg_tup C.q (sgs_cons C.q.toCw 1 rfl (by decide +kernel) (sgs_cons C.q.toCw 2 rfl (by decide +kernel) (sgs_nil))))) (sw_cons (ss_set C.q.toCw 3 rfl (by decide +kernel) (se_lst false (sa_cons (se_call C.q 76 2 (by decide +kernel) (List.mem_of_getElem? (i := 13) rfl) rfl (sa_cons (se_var C.q.toCw 0) (sa_cons (se_var C.q.toCw 2) (sa_nil)))) (sa_nil)))) (sw_cons (ss_set C.q.toCw 4 rfl (by decide +kernel) (se_tup false (sa_cons (se_str) (sa_cons (se_tup false (sa_cons (se_str) (sa_nil))) (sa_cons (se_tup false (sa_cons (se_str) (sa_nil))) (sa_nil)))))) (sw_cons (ss_set C.q.toCw 5 rfl (by decide +kernel) (se_tup false (sa_cons (se_str) (sa_cons (se_str) (sa_cons (se_var C.q.toCw 4) (sa_cons (se_tup false (sa_cons (se_str) (sa_nil))) (sa_cons (se_var C.q.toCw 1) (sa_cons (se_var C.q.toCw 3) (sa_nil))))))))) (sw_cons (ss_set C.q.toCw 6 rfl (by decide +kernel) (se_call C.q 112 2 (by decide +kernel) (List.mem_of_getElem? (i := 15) rfl) rfl (sa_cons (se_var C.q.toCw 0) (sa_cons (se_int) (sa_nil))))) (sw_cons (ss_set C.q.toCw 7 rfl (by decide +kernel) (se_tup false (sa_cons (se_str) (sa_cons (se_str) (sa_cons (se_var C.q.toCw 4) (sa_cons (se_tup false (sa_cons (se_str) (sa_nil))) (sa_cons (se_ix C.q.toCw (se_var C.q.toCw 6) (se_int)) (sa_cons (se_lst false (sa_cons (se_call C.q 76 2 (by decide +kernel) (List.mem_of_getElem? (i := 13) rfl) rfl (sa_cons (se_var C.q.toCw 0) (sa_cons (se_ix C.q.toCw (se_var C.q.toCw 6) (se_int)) (sa_nil)))) (sa_nil))) (sa_nil))))))))) (sw_cons (ss_set C.q.toCw 8 rfl (by decide +kernel) (se_add false (se_int) (se_max C.q (by decide +kernel) (se_add false (se_add false (se_lst false (sa_cons (se_int) (sa_nil))) (se_lc (ownL := [(("_law_part" : PySem.Str), 9)]) false C.q (gin_var (by decide)) (blk_of (by decide +kernel)) (sl_seq (se_var C.q.toCw 1)) (fun _ _ C1 => sg_var C1.toCw 9 rfl (by decide +kernel)) (fun _ _ C1 => sts_nil) (fun _ _ C1 => se_ix C1.toCw (se_ix C1.toCw (se_var C1.toCw 9) (se_int)) (se_int)))) (se_lst false (sa_cons (se_int) (sa_nil))))))) (sw_cons (ss_if (st_eq C.q.toCw (se_call C.q 75 2 (by decide +kernel) (List.mem_of_getElem? (i := 12) rfl) rfl (sa_cons (se_var C.q.toCw 0) (sa_cons (se_int) (sa_nil)))) (se_int)) (sw_cons (ss_set C.q.toCw 10 rfl (by decide +kernel) (se_tup false (sa_cons (se_str) (sa_cons (se_str) (sa_cons (se_lst false (sa_cons (se_int) (sa_cons (se_call C.q 76 2 (by decide +kernel) (List.mem_of_getElem? (i := 13) rfl) rfl (sa_cons (se_var C.q.toCw 0) (sa_cons (se_var C.q.toCw 2) (sa_nil)))) (sa_cons (se_call C.q 76 2 (by decide +kernel) (List.mem_of_getElem? (i := 13) rfl) rfl (sa_cons (se_var C.q.toCw 0) (sa_cons (se_var C.q.toCw 2) (sa_nil)))) (sa_nil))))) (sa_cons (se_lst false (sa_cons (se_var C.q.toCw 8) (sa_nil))) (sa_nil))))))) (sw_one (ss_set C.q.toCw 5 rfl (by decide +kernel) (se_tup false (sa_cons (se_str) (sa_cons (se_str) (sa_cons (se_var C.q.toCw 4) (sa_cons (se_tup false (sa_cons (se_str) (sa_nil))) (sa_cons (se_add false (se_var C.q.toCw 1) (se_lst false (sa_cons (se_var C.q.toCw 10) (sa_nil)))) (sa_cons (se_lst false (sa_cons (se_call C.q 76 2 (by decide +kernel) (List.mem_of_getElem? (i := 13) rfl) rfl (sa_cons (se_var C.q.toCw 0) (sa_cons (se_lst false (sa_cons (se_var C.q.toCw 8) (sa_cons (se_ix C.q.toCw (se_var C.q.toCw 3) (se_int)) (sa_nil)))) (sa_nil)))) (sa_nil))) (sa_nil))))))))))) (sw_nil)) (sw_one (ss_ret (se_lst false (sa_cons (se_var C.q.toCw 5) (sa_cons (se_var C.q.toCw 7) (sa_nil)))))))))))))
def N_f_w_step : List PySem.Str := [("_law_state_here" : PySem.Str), ("_law_blocks_here" : PySem.Str), ("_law_block" : PySem.Str), ("_law_at" : PySem.Str), ("_law_rows" : PySem.Str), ("_law_k" : PySem.Str), ("_law_j" : PySem.Str)]
abbrev sc_f_w_step : PySem.Scope := L2.defScope (top 23)
theorem ok_f_w_step {G : FEnv} {CA : Tags} {XR : XRel} {k : Nat} {X : L2.Cx} {W : L2.WX} (C : Cs tb G CA XR k N_f_w_step sc_f_w_step X W) : SS CA XR X W (L2.defBody (top 23)) (f_w_step G) := sw_cons (ss_set C.q.toCw 2 rfl (by decide +kernel) (se_call C.q 76 2 (by decide +kernel) (List.mem_of_getElem? (i := 13) rfl) rfl (sa_cons (se_var C.q.toCw 0) (sa_cons (se_var C.q.toCw 1) (sa_nil))))) (sw_cons (ss_set C.q.toCw 3 rfl (by decide +kernel) (se_sub (se_call C.q 75 2 (by decide +kernel) (List.mem_of_getElem? (i := 12) rfl) rfl (sa_cons (se_var C.q.toCw 0) (sa_cons (se_add false (se_len C.q.toCw (by decide +kernel) (se_ix C.q.toCw (se_var C.q.toCw 2) (se_int))) (se_int)) (sa_nil)))) (se_int))) (sw_cons (ss_if (st_eq C.q.toCw (se_call C.q 75 2 (by decide +kernel) (List.mem_of_getElem? (i := 12) rfl) rfl (sa_cons (se_var C.q.toCw 0) (sa_cons (se_int) (sa_nil)))) (se_int)) (sw_one (ss_ret (se_tup false (sa_cons (se_str) (sa_cons (se_call C.q 76 2 (by decide +kernel) (List.mem_of_getElem? (i := 13) rfl) rfl (sa_cons (se_var C.q.toCw 0) (sa_cons (se_lst false (sa_cons (se_ix C.q.toCw (se_var C.q.toCw 2) (se_int)) (sa_cons (se_ix C.q.toCw (se_var C.q.toCw 2) (se_int)) (sa_cons (se_str) (sa_nil))))) (sa_nil)))) (sa_cons (se_var C.q.toCw 3) (sa_nil))))))) (sw_nil)) (sw_cons (ss_set C.q.toCw 4 rfl (by decide +kernel) (se_lst true (sa_cons (se_tup false (sa_cons (se_str) (sa_cons (se_ix C.q.toCw (se_var C.q.toCw 2) (se_int)) (sa_cons (se_var C.q.toCw 3) (sa_cons (se_sub (se_call C.q 75 2 (by decide +kernel) (List.mem_of_getElem? (i := 12) rfl) rfl (sa_cons (se_var C.q.toCw 0) (sa_cons (se_add false (se_len C.q.toCw (by decide +kernel) (se_ix C.q.toCw (se_var C.q.toCw 2) (se_int))) (se_int)) (sa_nil)))) (se_int)) (sa_nil)))))) (sa_nil)))) (sw_cons (ss_fz 4 (ss_for C (si_range1 C.q.toCw (by decide +kernel) (se_len C.q.toCw (by decide +kernel) (se_ix C.q.toCw (se_var C.q.toCw 2) (se_int)))) (sg_var C.q.toCw 5 rfl (by decide +kernel)) (sw_one (ss_for C (si_range1 C.q.toCw (by decide +kernel) (se_var C.q.toCw 5)) (sg_var C.q.toCw 6 rfl (by decide +kernel)) (sw_one (ss_if (st_eq C.q.toCw (se_slice false (se_ix C.q.toCw (se_ix C.q.toCw (se_var C.q.toCw 2) (se_int)) (se_var C.q.toCw 5)) so_none (so_some (se_int))) (se_slice false (se_ix C.q.toCw (se_ix C.q.toCw (se_var C.q.toCw 2) (se_int)) (se_var C.q.toCw 6)) so_none (so_some (se_int)))) (sw_one (ss_expr (se_append (se_var C.q.toCw 4) (se_tup false (sa_cons (se_str) (sa_cons (se_ix C.q.toCw (se_var C.q.toCw 2) (se_int)) (sa_cons (se_var C.q.toCw 5) (sa_cons (se_var C.q.toCw 6) (sa_nil))))))))) (sw_nil))))))) (sw_one (ss_ret (se_call C.q 76 2 (by decide +kernel) (List.mem_of_getElem? (i := 13) rfl) rfl (sa_cons (se_var C.q.toCw 0) (sa_cons (se_var C.q.toCw 4) (sa_nil))))))))))
def N_f_w_applied : List PySem.Str := [("_law_blocks_here" : PySem.Str), ("_law_step_here" : PySem.Str), ("_law_out" : PySem.Str), ("_law_done" : PySem.Str), ("_law_block" : PySem.Str)]
abbrev sc_f_w_applied : PySem.Scope := L2.defScope (top 24)
theorem ok_f_w_applied {G : FEnv} {CA : Tags} {XR : XRel} {k : Nat} {X : L2.Cx} {W : L2.WX} (C : Cs tb G CA XR k N_f_w_applied sc_f_w_applied X W) : SS CA XR X W (L2.defBody (top 24)) (f_w_applied G) := sw_cons (ss_set C.q.toCw 2 rfl (by decide +kernel) (se_lst true (sa_nil))) (sw_cons (ss_set C.q.toCw 3 rfl (by decide +kernel) (se_bl)) (sw_cons (ss_fz 2 (ss_for C (si_of (sl_seq (se_var C.q.toCw 0))) (sg_var C.q.toCw 4 rfl (by decide +kernel)) (sw_cons (ss_if (st_eq C.q.toCw (se_ix C.q.toCw (se_var C.q.toCw 4) (se_int)) (se_ix C.q.toCw (se_var C.q.toCw 1) (se_int))) (sw_cons (ss_set C.q.toCw 4 rfl (by decide +kernel) (se_call C.q 116 2 (by decide +kernel) (List.mem_of_getElem? (i := 19) rfl) rfl (sa_cons (se_var C.q.toCw 4) (sa_cons (se_var C.q.toCw 1) (sa_nil))))) (sw_cons (ss_if (st_isN (se_var C.q.toCw 4)) (sw_one (ss_ret (se_non))) (sw_nil)) (sw_one (ss_set C.q.toCw 3 rfl (by decide +kernel) (se_bl))))) (sw_nil)) (sw_one (ss_expr (se_append (se_var C.q.toCw 2) (se_var C.q.toCw 4))))))) (sw_cons (ss_if (st_truth (se_var C.q.toCw 3)) (sw_one (ss_ret (se_frz (se_var C.q.toCw 2)))) (sw_nil)) (sw_one (ss_ret (se_non))))))
def N_f_w_block_after : List PySem.Str := [("_law_block" : PySem.Str), ("_law_step_here" : PySem.Str), ("_law_code_here" : PySem.Str), ("_law_at" : PySem.Str), ("_law_old" : PySem.Str), ("_law_used" : PySem.Str), ("_law_part" : PySem.Str), ("_law_trap" : PySem.Str), ("_law_early" : PySem.Str), ("_law_new" : PySem.Str), ("_law_rest" : PySem.Str), ("_law_name" : PySem.Str), ("_law_extra" : PySem.Str), ("_law_inputs" : PySem.Str), ("_law_outputs" : PySem.Str), ("_law_k" : PySem.Str)]
abbrev sc_f_w_block_after : PySem.Scope := L2.defScope (top 25)
theorem ok_f_w_block_after {G : FEnv} {CA : Tags} {XR : XRel} {k : Nat} {X : L2.Cx} {W : L2.WX} (C : Cs tb G CA XR k N_f_w_block_after sc_f_w_block_after X W) : SS CA XR X W (L2.defBody (top 25)) (f_w_block_after G) := sw_cons (ss_set C.q.toCw 2 rfl (by decide +kernel) (se_ix C.q.toCw (se_var C.q.toCw 0) (se_int))) (sw_cons (ss_set C.q.toCw 3 rfl (by decide +kernel) (se_ix C.q.toCw (se_var C.q.toCw 1) (se_int))) (sw_cons (ss_if (st_bool (sw_or (st_lt (se_var C.q.toCw 3) (se_int)) (sw_or1 (st_ge (se_var C.q.toCw 3) (se_len C.q.toCw (by decide +kernel) (se_var C.q.toCw 2)))))) (sw_one (ss_ret (se_non))) (sw_nil)) (sw_cons (ss_set C.q.toCw 4 rfl (by decide +kernel) (se_ix C.q.toCw (se_ix C.q.toCw (se_ix C.q.toCw (se_var C.q.toCw 2) (se_var C.q.toCw 3)) (se_int)) (se_int))) (sw_cons (ss_set C.q.toCw 5 rfl (by decide +kernel) (se_list C.q.toCw false (by decide +kernel) (se_ix C.q.toCw (se_var C.q.toCw 0) (se_int)))) (sw_cons (ss_for C (si_of (sl_seq (se_slice false (se_var C.q.toCw 2) (so_some (se_add false (se_var C.q.toCw 3) (se_int))) so_none))) (sg_var C.q.toCw 6 rfl (by decide +kernel)) (sw_one (ss_set C.q.toCw 5 rfl (by decide +kernel) (se_add false (se_var C.q.toCw 5) (se_ix C.q.toCw (se_var C.q.toCw 6) (se_int)))))) (sw_cons (ss_set C.q.toCw 7 rfl (by decide +kernel) (se_or (se_in C.q.toCw (se_ix C.q.toCw (se_ix C.q.toCw (se_var C.q.toCw 2) (se_var C.q.toCw 3)) (se_int)) (se_tup false (sa_cons (se_str) (sa_cons (se_str) (sa_cons (se_str) (sa_cons (se_str) (sa_nil))))))) (se_and1 (se_and (se_eq C.q.toCw (se_ix C.q.toCw (se_ix C.q.toCw (se_var C.q.toCw 2) (se_var C.q.toCw 3)) (se_int)) (se_str)) (se_and1 (se_in C.q.toCw (se_ix C.q.toCw (se_ix C.q.toCw (se_var C.q.toCw 2) (se_var C.q.toCw 3)) (se_int)) (se_tup false (sa_cons (se_str) (sa_cons (se_str) (sa_nil)))))))))) (sw_cons (ss_if (st_eq C.q.toCw (se_ix C.q.toCw (se_var C.q.toCw 1) (se_int)) (se_str)) (sw_cons (ss_if (st_bool (sw_or (st_truth (se_var C.q.toCw 7)) (sw_or1 (st_in C.q.toCw (se_var C.q.toCw 4) (se_var C.q.toCw 5))))) (sw_one (ss_ret (se_non))) (sw_nil)) (sw_one (ss_ret (se_add false (se_slice false (se_var C.q.toCw 0) so_none (so_some (se_int))) (se_tup false (sa_cons (se_add false (se_slice false (se_var C.q.toCw 2) so_none (so_some (se_var C.q.toCw 3))) (se_slice false (se_var C.q.toCw 2) (so_some (se_add false (se_var C.q.toCw 3) (se_int))) so_none)) (sa_cons (se_ix C.q.toCw (se_var C.q.toCw 0) (se_int)) (sa_nil)))))))) (sw_nil)) (sw_cons (ss_set C.q.toCw 8 rfl (by decide +kernel) (se_ix C.q.toCw (se_var C.q.toCw 1) (se_int))) (sw_cons (ss_if (st_bool (sw_or (st_lt (se_var C.q.toCw 8) (se_int)) (sw_or (st_ge (se_var C.q.toCw 8) (se_var C.q.toCw 3)) (sw_or (st_eq C.q.toCw (se_ix C.q.toCw (se_ix C.q.toCw (se_var C.q.toCw 2) (se_var C.q.toCw 3)) (se_int)) (se_str)) (sw_or1 (st_ne C.q.toCw (se_slice false (se_ix C.q.toCw (se_var C.q.toCw 2) (se_var C.q.toCw 3)) so_none (so_some (se_int))) (se_slice false (se_ix C.q.toCw (se_var C.q.toCw 2) (se_var C.q.toCw 8)) so_none (so_some (se_int))))))))) (sw_one (ss_ret (se_non))) (sw_nil)) (sw_cons (ss_set C.q.toCw 9 rfl (by decide +kernel) (se_ix C.q.toCw (se_ix C.q.toCw (se_ix C.q.toCw (se_var C.q.toCw 2) (se_var C.q.toCw 8)) (se_int)) (se_int))) (sw_cons (ss_set C.q.toCw 10 rfl (by decide +kernel) (se_lst true (sa_nil))) (sw_cons (ss_fz 10 (ss_for C (si_of (sl_seq (se_slice false (se_var C.q.toCw 2) (so_some (se_add false (se_var C.q.toCw 3) (se_int))) so_none))) (sg_tup C.q (sgs_cons C.q.toCw 11 rfl (by decide +kernel) (sgs_cons C.q.toCw 12 rfl (by decide +kernel) (sgs_cons C.q.toCw 13 rfl (by decide +kernel) (sgs_cons C.q.toCw 14 rfl (by decide +kernel) (sgs_nil)))))) (sw_one (ss_expr (se_append (se_var C.q.toCw 10) (se_tup false (sa_cons (se_var C.q.toCw 11) (sa_cons (se_var C.q.toCw 12) (sa_cons (se_lc (ownL := [(("_law_k" : PySem.Str), 15)]) false C.q (gin_var (by decide)) (blk_of (by decide +kernel)) (sl_seq (se_var C.q.toCw 13)) (fun _ _ C1 => sg_var C1.toCw 15 rfl (by decide +kernel)) (fun _ _ C1 => sts_nil) (fun _ _ C1 => se_ix C1.toCw (se_lst false (sa_cons (se_var C1.toCw 15) (sa_cons (se_var C1.toCw 9) (sa_nil)))) (se_intT C1.toCw (by decide +kernel) (se_eq C1.toCw (se_var C1.toCw 15) (se_var C1.toCw 4))))) (sa_cons (se_var C.q.toCw 14) (sa_nil))))))))))) (sw_one (ss_ret (se_add false (se_slice false (se_var C.q.toCw 0) so_none (so_some (se_int))) (se_tup false (sa_cons (se_add false (se_slice false (se_var C.q.toCw 2) so_none (so_some (se_var C.q.toCw 3))) (se_var C.q.toCw 10)) (sa_cons (se_lc (ownL := [(("_law_k" : PySem.Str), 15)]) false C.q (gin_var (by decide)) (blk_of (by decide +kernel)) (sl_seq (se_ix C.q.toCw (se_var C.q.toCw 0) (se_int))) (fun _ _ C1 => sg_var C1.toCw 15 rfl (by decide +kernel)) (fun _ _ C1 => sts_nil) (fun _ _ C1 => se_ix C1.toCw (se_lst false (sa_cons (se_var C1.toCw 15) (sa_cons (se_var C1.toCw 9) (sa_nil)))) (se_intT C1.toCw (by decide +kernel) (se_eq C1.toCw (se_var C1.toCw 15) (se_var C1.toCw 4))))) (sa_nil)))))))))))))))))))
def N_f_w_mixed : List PySem.Str := [("_law_state_here" : PySem.Str), ("_law_blocks_here" : PySem.Str), ("_law_out" : PySem.Str), ("_law_block" : PySem.Str), ("_law_code_here" : PySem.Str), ("_law_k" : PySem.Str), ("_law_name" : PySem.Str), ("_law_extra" : PySem.Str), ("_law_inputs" : PySem.Str), ("_law_outputs" : PySem.Str), ("_law_other" : PySem.Str)]
abbrev sc_f_w_mixed : PySem.Scope := L2.defScope (top 26)
theorem ok_f_w_mixed {G : FEnv} {CA : Tags} {XR : XRel} {k : Nat} {X : L2.Cx} {W : L2.WX} (C : Cs tb G CA XR k N_f_w_mixed sc_f_w_mixed X W) : SS CA XR X W (L2.defBody (top 26)) (f_w_mixed G) := sw_cons (ss_set C.q.toCw 2 rfl (by decide +kernel) (se_lst true (sa_nil))) (sw_cons (ss_fz 2 (ss_for C (si_of (sl_seq (se_var C.q.toCw 1))) (sg_var C.q.toCw 3 rfl (by decide +kernel)) (sw_cons (ss_set C.q.toCw 4 rfl (by decide +kernel) (se_lst true (sa_nil))) (sw_cons (ss_for C (si_of (sl_seq (se_ix C.q.toCw (se_var C.q.toCw 3) (se_int)))) (sg_tup C.q (sgs_cons C.q.toCw 6 rfl (by decide +kernel) (sgs_cons C.q.toCw 7 rfl (by decide +kernel) (sgs_cons C.q.toCw 8 rfl (by decide +kernel) (sgs_cons C.q.toCw 9 rfl (by decide +kernel) (sgs_nil)))))) (sw_cons (ss_if (st_bool (sw_and (st_ne C.q.toCw (se_var C.q.toCw 6) (se_str)) (sw_and (st_eq C.q.toCw (se_len C.q.toCw (by decide +kernel) (se_var C.q.toCw 8)) (se_int)) (sw_and1 (st_eq C.q.toCw (se_call C.q 75 2 (by decide +kernel) (List.mem_of_getElem? (i := 12) rfl) rfl (sa_cons (se_var C.q.toCw 0) (sa_cons (se_int) (sa_nil)))) (se_int)))))) (sw_cons (ss_set C.q.toCw 6 rfl (by decide +kernel) (se_call C.q 76 2 (by decide +kernel) (List.mem_of_getElem? (i := 13) rfl) rfl (sa_cons (se_var C.q.toCw 0) (sa_cons (se_lst false (sa_cons (se_str) (sa_cons (se_str) (sa_cons (se_str) (sa_cons (se_str) (sa_nil)))))) (sa_nil))))) (sw_one (ss_set C.q.toCw 7 rfl (by decide +kernel) (se_ix C.q.toCw (se_lst false (sa_cons (se_non) (sa_cons (se_eq C.q.toCw (se_call C.q 75 2 (by decide +kernel) (List.mem_of_getElem? (i := 12) rfl) rfl (sa_cons (se_var C.q.toCw 0) (sa_cons (se_int) (sa_nil)))) (se_int)) (sa_nil)))) (se_intT C.q.toCw (by decide +kernel) (se_eq C.q.toCw (se_var C.q.toCw 6) (se_str))))))) (sw_one (ss_if (st_bool (sw_and (st_ne C.q.toCw (se_var C.q.toCw 6) (se_str)) (sw_and (st_eq C.q.toCw (se_len C.q.toCw (by decide +kernel) (se_var C.q.toCw 8)) (se_int)) (sw_and1 (st_eq C.q.toCw (se_call C.q 75 2 (by decide +kernel) (List.mem_of_getElem? (i := 12) rfl) rfl (sa_cons (se_var C.q.toCw 0) (sa_cons (se_int) (sa_nil)))) (se_int)))))) (sw_cons (ss_set C.q.toCw 6 rfl (by decide +kernel) (se_call C.q 76 2 (by decide +kernel) (List.mem_of_getElem? (i := 13) rfl) rfl (sa_cons (se_var C.q.toCw 0) (sa_cons (se_lst false (sa_cons (se_str) (sa_cons (se_str) (sa_cons (se_str) (sa_cons (se_str) (sa_cons (se_str) (sa_cons (se_str) (sa_cons (se_str) (sa_nil))))))))) (sa_nil))))) (sw_one (ss_set C.q.toCw 7 rfl (by decide +kernel) (se_non)))) (sw_nil)))) (sw_one (ss_expr (se_append (se_var C.q.toCw 4) (se_tup false (sa_cons (se_var C.q.toCw 6) (sa_cons (se_var C.q.toCw 7) (sa_cons (se_var C.q.toCw 8) (sa_cons (se_var C.q.toCw 9) (sa_nil))))))))))) (sw_cons (ss_fz 4 (ss_for C (si_range1 C.q.toCw (by decide +kernel) (se_len C.q.toCw (by decide +kernel) (se_var C.q.toCw 4))) (sg_var C.q.toCw 5 rfl (by decide +kernel)) (sw_one (ss_if (st_bool (sw_and (st_eq C.q.toCw (se_call C.q 75 2 (by decide +kernel) (List.mem_of_getElem? (i := 12) rfl) rfl (sa_cons (se_var C.q.toCw 0) (sa_cons (se_int) (sa_nil)))) (se_int)) (sw_and1 (st_ne C.q.toCw (se_ix C.q.toCw (se_ix C.q.toCw (se_var C.q.toCw 4) (se_var C.q.toCw 5)) (se_int)) (se_str))))) (sw_cons (ss_set C.q.toCw 10 rfl (by decide +kernel) (se_call C.q 76 2 (by decide +kernel) (List.mem_of_getElem? (i := 13) rfl) rfl (sa_cons (se_var C.q.toCw 0) (sa_cons (se_slice false (se_var C.q.toCw 4) so_none (so_some (se_add false (se_var C.q.toCw 5) (se_int)))) (sa_nil))))) (sw_one (ss_if (st_ne C.q.toCw (se_ix C.q.toCw (se_var C.q.toCw 10) (se_int)) (se_str)) (sw_one (ss_sub C.q.toCw (se_add false (se_slice false (se_var C.q.toCw 10) so_none (so_some (se_int))) (se_tup false (sa_cons (se_ix C.q.toCw (se_ix C.q.toCw (se_var C.q.toCw 4) (se_var C.q.toCw 5)) (se_int)) (sa_nil)))) (se_var C.q.toCw 4) (se_var C.q.toCw 5))) (sw_nil)))) (sw_nil))))) (sw_one (ss_expr (se_append (se_var C.q.toCw 2) (se_add false (se_slice false (se_var C.q.toCw 3) so_none (so_some (se_int))) (se_tup false (sa_cons (se_var C.q.toCw 4) (sa_cons (se_ix C.q.toCw (se_var C.q.toCw 3) (se_int)) (sa_nil))))))))))))) (sw_one (ss_ret (se_frz (se_var C.q.toCw 2)))))
def N_f_w_told : List PySem.Str := [("_law_blocks_here" : PySem.Str), ("_law_paper" : PySem.Str), ("e" : PySem.Str)]
abbrev sc_f_w_told : PySem.Scope := L2.defScope (top 27)
theorem ok_f_w_told {G : FEnv} {CA : Tags} {XR : XRel} {k : Nat} {X : L2.Cx} {W : L2.WX} (C : Cs tb G CA XR k N_f_w_told sc_f_w_told X W) : SS CA XR X W (L2.defBody (top 27)) (f_w_told G) := sw_cons (ss_try_as C 2 "PaperError" rfl (by decide +kernel) (by decide +kernel) (List.mem_of_getElem? (i := 0) rfl) (fun _ _ T1 => sw_one (ss_ret (se_call T1.q 60 2 (by decide +kernel) (List.mem_of_getElem? (i := 7) rfl) rfl (sa_cons (se_var T1.q.toCw 0) (sa_cons (se_var T1.q.toCw 1) (sa_nil)))))) (fun a oe cls d pn z1 z2 D => kx_suite4 (s0 := "refused") D z1 z2 (fun y => excSub y.cls "FlatError") (fun y H0 xr => kt_val (kx_is D z1 z2 xr rfl (by decide +kernel) (by decide +kernel) "FlatError" (by decide +kernel) (List.mem_of_getElem? (i := 0) rfl))) (xm_is) rfl (by decide +kernel))) (sw_one (ss_ret (se_tup false (sa_cons (se_str) (sa_cons (se_neg (se_int)) (sa_nil))))))
def N_f_w_none_left : List PySem.Str := [("_law_blocks_here" : PySem.Str), ("_law_block" : PySem.Str), ("_law_at" : PySem.Str), ("_law_early" : PySem.Str)]
abbrev sc_f_w_none_left : PySem.Scope := L2.defScope (top 28)
theorem ok_f_w_none_left {G : FEnv} {CA : Tags} {XR : XRel} {k : Nat} {X : L2.Cx} {W : L2.WX} (C : Cs tb G CA XR k N_f_w_none_left sc_f_w_none_left X W) : SS CA XR X W (L2.defBody (top 28)) (f_w_none_left G) := sw_cons (ss_for C (si_of (sl_seq (se_var C.q.toCw 0))) (sg_var C.q.toCw 1 rfl (by decide +kernel)) (sw_one (ss_for C (si_range1 C.q.toCw (by decide +kernel) (se_len C.q.toCw (by decide +kernel) (se_ix C.q.toCw (se_var C.q.toCw 1) (se_int)))) (sg_var C.q.toCw 2 rfl (by decide +kernel)) (sw_cons (ss_if (st_notN (se_call C.q 116 2 (by decide +kernel) (List.mem_of_getElem? (i := 19) rfl) rfl (sa_cons (se_var C.q.toCw 1) (sa_cons (se_tup false (sa_cons (se_str) (sa_cons (se_ix C.q.toCw (se_var C.q.toCw 1) (se_int)) (sa_cons (se_var C.q.toCw 2) (sa_nil))))) (sa_nil))))) (sw_one (ss_ret (se_bl))) (sw_nil)) (sw_one (ss_for C (si_range1 C.q.toCw (by decide +kernel) (se_var C.q.toCw 2)) (sg_var C.q.toCw 3 rfl (by decide +kernel)) (sw_one (ss_if (st_notN (se_call C.q 116 2 (by decide +kernel) (List.mem_of_getElem? (i := 19) rfl) rfl (sa_cons (se_var C.q.toCw 1) (sa_cons (se_tup false (sa_cons (se_str) (sa_cons (se_ix C.q.toCw (se_var C.q.toCw 1) (se_int)) (sa_cons (se_var C.q.toCw 2) (sa_cons (se_var C.q.toCw 3) (sa_nil)))))) (sa_nil))))) (sw_one (ss_ret (se_bl))) (sw_nil))))))))) (sw_one (ss_ret (se_bl)))
def N_f_law : List PySem.Str := [("_law_script" : PySem.Str), ("_law_state_here" : PySem.Str), ("_law_blocks_here" : PySem.Str), ("_law_before" : PySem.Str), ("_law_now" : PySem.Str), ("_law_due" : PySem.Str), ("_law_paper" : PySem.Str), ("_law_k" : PySem.Str), ("_law_step_here" : PySem.Str), ("_law_after" : PySem.Str), ("_law_better" : PySem.Str), ("_law_last" : PySem.Str)]
abbrev sc_f_law : PySem.Scope := L2.defScope (top 29)
theorem ok_f_law {G : FEnv} {CA : Tags} {XR : XRel} {k : Nat} {X : L2.Cx} {W : L2.WX} (C : Cs tb G CA XR k N_f_law sc_f_law X W) : SS CA XR X W (L2.defBody (top 29)) (f_law G) := sw_cons (ss_set C.q.toCw 1 rfl (by decide +kernel) (se_call C.q 74 1 (by decide +kernel) (List.mem_of_getElem? (i := 11) rfl) rfl (sa_cons (se_var C.q.toCw 0) (sa_nil)))) (sw_cons (ss_set C.q.toCw 2 rfl (by decide +kernel) (se_call C.q 117 2 (by decide +kernel) (List.mem_of_getElem? (i := 20) rfl) rfl (sa_cons (se_var C.q.toCw 1) (sa_cons (se_call C.q 113 1 (by decide +kernel) (List.mem_of_getElem? (i := 16) rfl) rfl (sa_cons (se_var C.q.toCw 1) (sa_nil))) (sa_nil))))) (sw_cons (ss_set C.q.toCw 3 rfl (by decide +kernel) (se_repr C.q (by decide +kernel) (se_var C.q.toCw 2))) (sw_cons (ss_set C.q.toCw 4 rfl (by decide +kernel) (se_var C.q.toCw 2)) (sw_cons (ss_set C.q.toCw 5 rfl (by decide +kernel) (se_non)) (sw_cons (ss_set C.q.toCw 6 rfl (by decide +kernel) (se_lst true (sa_nil))) (sw_cons (ss_fz 6 (ss_for C (si_range1 C.q.toCw (by decide +kernel) (se_call C.q 75 2 (by decide +kernel) (List.mem_of_getElem? (i := 12) rfl) rfl (sa_cons (se_var C.q.toCw 1) (sa_cons (se_int) (sa_nil))))) (sg_var C.q.toCw 7 rfl (by decide +kernel)) (sw_cons (ss_set C.q.toCw 8 rfl (by decide +kernel) (se_call C.q 114 2 (by decide +kernel) (List.mem_of_getElem? (i := 17) rfl) rfl (sa_cons (se_var C.q.toCw 1) (sa_cons (se_var C.q.toCw 4) (sa_nil))))) (sw_cons (ss_expr (se_append (se_var C.q.toCw 6) (se_var C.q.toCw 8))) (sw_one (ss_if (st_isN (se_var C.q.toCw 5)) (sw_cons (ss_set C.q.toCw 9 rfl (by decide +kernel) (se_call C.q 115 2 (by decide +kernel) (List.mem_of_getElem? (i := 18) rfl) rfl (sa_cons (se_var C.q.toCw 4) (sa_cons (se_var C.q.toCw 8) (sa_nil))))) (sw_one (ss_if (st_isN (se_var C.q.toCw 9)) (sw_one (ss_set C.q.toCw 5 rfl (by decide +kernel) (se_tup false (sa_cons (se_str) (sa_cons (se_var C.q.toCw 7) (sa_nil)))))) (sw_one (ss_set C.q.toCw 4 rfl (by decide +kernel) (se_var C.q.toCw 9)))))) (sw_nil))))))) (sw_cons (ss_if (st_isN (se_var C.q.toCw 5)) (sw_one (ss_set C.q.toCw 5 rfl (by decide +kernel) (se_var C.q.toCw 4))) (sw_nil)) (sw_cons (ss_if (st_bool (sw_or (st_ne C.q.toCw (se_call C.q 78 2 (by decide +kernel) (List.mem_of_getElem? (i := 21) rfl) rfl (sa_cons (se_var C.q.toCw 2) (sa_cons (se_var C.q.toCw 6) (sa_nil)))) (se_var C.q.toCw 5)) (sw_or1 (st_ne C.q.toCw (se_repr C.q (by decide +kernel) (se_var C.q.toCw 2)) (se_var C.q.toCw 3))))) (sw_one (ss_ret (se_bl))) (sw_nil)) (sw_cons (ss_set C.q.toCw 10 rfl (by decide +kernel) (se_call C.q 63 1 (by decide +kernel) (List.mem_of_getElem? (i := 10) rfl) rfl (sa_cons (se_var C.q.toCw 2) (sa_nil)))) (sw_cons (ss_set C.q.toCw 11 rfl (by decide +kernel) (se_call C.q 78 2 (by decide +kernel) (List.mem_of_getElem? (i := 21) rfl) rfl (sa_cons (se_var C.q.toCw 2) (sa_cons (se_var C.q.toCw 10) (sa_nil))))) (sw_cons (ss_if (st_bool (sw_or (st_not (st_of (se_isi C.q.toCw "list" (by decide +kernel) (by decide +kernel) (by decide) (se_var C.q.toCw 10)))) (sw_or (st_not (st_of (se_isi C.q.toCw "list" (by decide +kernel) (by decide +kernel) (by decide) (se_var C.q.toCw 11)))) (sw_or1 (st_ne C.q.toCw (se_repr C.q (by decide +kernel) (se_var C.q.toCw 2)) (se_var C.q.toCw 3)))))) (sw_one (ss_ret (se_bl))) (sw_nil)) (sw_one (ss_ret (se_call C.q 118 1 (by decide +kernel) (List.mem_of_getElem? (i := 22) rfl) rfl (sa_cons (se_var C.q.toCw 11) (sa_nil))))))))))))))))
def fd_f_PaperError___init__ : FD := ⟨⟨("PaperError", some "__init__"), "__init__", "PaperError.__init__", L2.defArgs (inClass (top 2) 0), L2.defBody (inClass (top 2) 0), L2.defScope (inClass (top 2) 0), [], []⟩, [("self" : PySem.Str), ("at" : PySem.Str)], N_f_PaperError___init__, f_PaperError___init__, false⟩
def fd_f_may_trap : FD := ⟨⟨("may_trap", none), "may_trap", "may_trap", L2.defArgs (top 5), L2.defBody (top 5), L2.defScope (top 5), [], []⟩, [("instruction" : PySem.Str)], N_f_may_trap, f_may_trap, false⟩
def fd_f_is_used : FD := ⟨⟨("is_used", none), "is_used", "is_used", L2.defArgs (top 6), L2.defBody (top 6), L2.defScope (top 6), [], []⟩, [("block" : PySem.Str), ("at" : PySem.Str)], N_f_is_used, f_is_used, false⟩
def fd_f_without : FD := ⟨⟨("without", none), "without", "without", L2.defArgs (top 7), L2.defBody (top 7), L2.defScope (top 7), [], []⟩, [("block" : PySem.Str), ("at" : PySem.Str)], N_f_without, f_without, false⟩
def fd_f_renamed : FD := ⟨⟨("renamed", none), "renamed", "renamed", L2.defArgs (top 8), L2.defBody (top 8), L2.defScope (top 8), [], []⟩, [("row" : PySem.Str), ("old" : PySem.Str), ("new" : PySem.Str)], N_f_renamed, f_renamed, false⟩
def fd_f_shared : FD := ⟨⟨("shared", none), "shared", "shared", L2.defArgs (top 9), L2.defBody (top 9), L2.defScope (top 9), [], []⟩, [("block" : PySem.Str), ("at" : PySem.Str), ("earlier" : PySem.Str)], N_f_shared, f_shared, false⟩
def fd_f_step_applied : FD := ⟨⟨("step_applied", none), "step_applied", "step_applied", L2.defArgs (top 10), L2.defBody (top 10), L2.defScope (top 10), [], []⟩, [("block" : PySem.Str), ("step" : PySem.Str)], N_f_step_applied, f_step_applied, false⟩
def fd_f_duplicate : FD := ⟨⟨("duplicate", none), "duplicate", "duplicate", L2.defArgs (top 11), L2.defBody (top 11), L2.defScope (top 11), [], []⟩, [("block" : PySem.Str)], N_f_duplicate, f_duplicate, false⟩
def fd_f_rewrite : FD := ⟨⟨("rewrite", none), "rewrite", "rewrite", L2.defArgs (top 12), L2.defBody (top 12), L2.defScope (top 12), [], []⟩, [("blocks" : PySem.Str), ("paper" : PySem.Str)], N_f_rewrite, f_rewrite, false⟩
def fd_f_share_all : FD := ⟨⟨("share_all", none), "share_all", "share_all", L2.defArgs (top 13), L2.defBody (top 13), L2.defScope (top 13), [], []⟩, [("block" : PySem.Str), ("paper" : PySem.Str)], N_f_share_all, f_share_all, false⟩
def fd_f_drop_all : FD := ⟨⟨("drop_all", none), "drop_all", "drop_all", L2.defArgs (top 14), L2.defBody (top 14), L2.defScope (top 14), [], []⟩, [("block" : PySem.Str), ("paper" : PySem.Str)], N_f_drop_all, f_drop_all, false⟩
def fd_f_improve : FD := ⟨⟨("improve", none), "improve", "improve", L2.defArgs (top 15), L2.defBody (top 15), L2.defScope (top 15), [], []⟩, [("blocks" : PySem.Str)], N_f_improve, f_improve, false⟩
def fd_f_w_state : FD := ⟨⟨("_law_state", none), "_law_state", "_law_state", L2.defArgs (top 17), L2.defBody (top 17), L2.defScope (top 17), [], []⟩, [("_law_script" : PySem.Str)], N_f_w_state, f_w_state, false⟩
def fd_f_w_draw : FD := ⟨⟨("_law_draw", none), "_law_draw", "_law_draw", L2.defArgs (top 18), L2.defBody (top 18), L2.defScope (top 18), [], []⟩, [("_law_state_here" : PySem.Str), ("_law_many" : PySem.Str)], N_f_w_draw, f_w_draw, false⟩
def fd_f_w_pick : FD := ⟨⟨("_law_pick", none), "_law_pick", "_law_pick", L2.defArgs (top 19), L2.defBody (top 19), L2.defScope (top 19), [], []⟩, [("_law_state_here" : PySem.Str), ("_law_row" : PySem.Str)], N_f_w_pick, f_w_pick, false⟩
def fd_f_w_number : FD := ⟨⟨("_law_number", none), "_law_number", "_law_number", L2.defArgs (top 20), L2.defBody (top 20), L2.defScope (top 20), [], []⟩, [("_law_state_here" : PySem.Str)], N_f_w_number, f_w_number, false⟩
def fd_f_w_code : FD := ⟨⟨("_law_code", none), "_law_code", "_law_code", L2.defArgs (top 21), L2.defBody (top 21), L2.defScope (top 21), [], []⟩, [("_law_state_here" : PySem.Str), ("_law_many" : PySem.Str)], N_f_w_code, f_w_code, false⟩
def fd_f_w_blocks : FD := ⟨⟨("_law_blocks", none), "_law_blocks", "_law_blocks", L2.defArgs (top 22), L2.defBody (top 22), L2.defScope (top 22), [], []⟩, [("_law_state_here" : PySem.Str)], N_f_w_blocks, f_w_blocks, false⟩
def fd_f_w_step : FD := ⟨⟨("_law_step", none), "_law_step", "_law_step", L2.defArgs (top 23), L2.defBody (top 23), L2.defScope (top 23), [], []⟩, [("_law_state_here" : PySem.Str), ("_law_blocks_here" : PySem.Str)], N_f_w_step, f_w_step, false⟩
def fd_f_w_applied : FD := ⟨⟨("_law_applied", none), "_law_applied", "_law_applied", L2.defArgs (top 24), L2.defBody (top 24), L2.defScope (top 24), [], []⟩, [("_law_blocks_here" : PySem.Str), ("_law_step_here" : PySem.Str)], N_f_w_applied, f_w_applied, false⟩
def fd_f_w_block_after : FD := ⟨⟨("_law_block_after", none), "_law_block_after", "_law_block_after", L2.defArgs (top 25), L2.defBody (top 25), L2.defScope (top 25), [], []⟩, [("_law_block" : PySem.Str), ("_law_step_here" : PySem.Str)], N_f_w_block_after, f_w_block_after, false⟩
def fd_f_w_mixed : FD := ⟨⟨("_law_mixed", none), "_law_mixed", "_law_mixed", L2.defArgs (top 26), L2.defBody (top 26), L2.defScope (top 26), [], []⟩, [("_law_state_here" : PySem.Str), ("_law_blocks_here" : PySem.Str)], N_f_w_mixed, f_w_mixed, false⟩
def fd_f_w_told : FD := ⟨⟨("_law_told", none), "_law_told", "_law_told", L2.defArgs (top 27), L2.defBody (top 27), L2.defScope (top 27), [], []⟩, [("_law_blocks_here" : PySem.Str), ("_law_paper" : PySem.Str)], N_f_w_told, f_w_told, false⟩
def fd_f_w_none_left : FD := ⟨⟨("_law_none_left", none), "_law_none_left", "_law_none_left", L2.defArgs (top 28), L2.defBody (top 28), L2.defScope (top 28), [], []⟩, [("_law_blocks_here" : PySem.Str)], N_f_w_none_left, f_w_none_left, false⟩
def fd_f_law : FD := ⟨⟨("law", none), "law", "law", L2.defArgs (top 29), L2.defBody (top 29), L2.defScope (top 29), [], []⟩, [("_law_script" : PySem.Str)], N_f_law, f_law, false⟩
def fds : List (Nat × FD) := [(53, fd_f_PaperError___init__), (54, fd_f_may_trap), (55, fd_f_is_used), (56, fd_f_without), (57, fd_f_renamed), (58, fd_f_shared), (59, fd_f_step_applied), (20, fd_f_duplicate), (60, fd_f_rewrite), (61, fd_f_share_all), (62, fd_f_drop_all), (63, fd_f_improve), (74, fd_f_w_state), (75, fd_f_w_draw), (76, fd_f_w_pick), (77, fd_f_w_number), (112, fd_f_w_code), (113, fd_f_w_blocks), (114, fd_f_w_step), (115, fd_f_w_applied), (116, fd_f_w_block_after), (117, fd_f_w_mixed), (78, fd_f_w_told), (118, fd_f_w_none_left), (80, fd_f_law)]
def fa : List He.Fa := [.glo "may_trap", .glo "is_used", .glo "without", .glo "renamed", .glo "shared", .glo "step_applied", .glo "duplicate", .glo "rewrite", .glo "share_all", .glo "drop_all", .glo "improve", .glo "_law_state", .glo "_law_draw", .glo "_law_pick", .glo "_law_number", .glo "_law_code", .glo "_law_blocks", .glo "_law_step", .glo "_law_applied", .glo "_law_block_after", .glo "_law_mixed", .glo "_law_told", .glo "_law_none_left", .glo "law", .glo "FlatError", .glo "PaperError", .free "abs", .free "any", .free "enumerate", .free "int", .free "isinstance", .free "len", .free "list", .free "max", .free "range", .free "repr", .free "tuple"]
theorem fok_f_PaperError___init__ : FDok tb fd_f_PaperError___init__ := ⟨⟨rfl, rfl, rfl, by decide +kernel, rfl, by decide +kernel, by decide +kernel⟩, rfl, rfl, fun _ _ _ _ _ _ us hl => match us, hl with | [_, _], _ => rfl, fun _ _ _ _ _ _ C => ok_f_PaperError___init__ C⟩
theorem fok_f_may_trap : FDok tb fd_f_may_trap := ⟨⟨rfl, rfl, rfl, by decide +kernel, rfl, by decide +kernel, by decide +kernel⟩, rfl, rfl, fun _ _ _ _ _ _ us hl => match us, hl with | [_], _ => rfl, fun _ _ _ _ _ _ C => ok_f_may_trap C⟩
theorem fok_f_is_used : FDok tb fd_f_is_used := ⟨⟨rfl, rfl, rfl, by decide +kernel, rfl, by decide +kernel, by decide +kernel⟩, rfl, rfl, fun _ _ _ _ _ _ us hl => match us, hl with | [_, _], _ => rfl, fun _ _ _ _ _ _ C => ok_f_is_used C⟩
theorem fok_f_without : FDok tb fd_f_without := ⟨⟨rfl, rfl, rfl, by decide +kernel, rfl, by decide +kernel, by decide +kernel⟩, rfl, rfl, fun _ _ _ _ _ _ us hl => match us, hl with | [_, _], _ => rfl, fun _ _ _ _ _ _ C => ok_f_without C⟩
theorem fok_f_renamed : FDok tb fd_f_renamed := ⟨⟨rfl, rfl, rfl, by decide +kernel, rfl, by decide +kernel, by decide +kernel⟩, rfl, rfl, fun _ _ _ _ _ _ us hl => match us, hl with | [_, _, _], _ => rfl, fun _ _ _ _ _ _ C => ok_f_renamed C⟩
theorem fok_f_shared : FDok tb fd_f_shared := ⟨⟨rfl, rfl, rfl, by decide +kernel, rfl, by decide +kernel, by decide +kernel⟩, rfl, rfl, fun _ _ _ _ _ _ us hl => match us, hl with | [_, _, _], _ => rfl, fun _ _ _ _ _ _ C => ok_f_shared C⟩
theorem fok_f_step_applied : FDok tb fd_f_step_applied := ⟨⟨rfl, rfl, rfl, by decide +kernel, rfl, by decide +kernel, by decide +kernel⟩, rfl, rfl, fun _ _ _ _ _ _ us hl => match us, hl with | [_, _], _ => rfl, fun _ _ _ _ _ _ C => ok_f_step_applied C⟩
theorem fok_f_duplicate : FDok tb fd_f_duplicate := ⟨⟨rfl, rfl, rfl, by decide +kernel, rfl, by decide +kernel, by decide +kernel⟩, rfl, rfl, fun _ _ _ _ _ _ us hl => match us, hl with | [_], _ => rfl, fun _ _ _ _ _ _ C => ok_f_duplicate C⟩
theorem fok_f_rewrite : FDok tb fd_f_rewrite := ⟨⟨rfl, rfl, rfl, by decide +kernel, rfl, by decide +kernel, by decide +kernel⟩, rfl, rfl, fun _ _ _ _ _ _ us hl => match us, hl with | [_, _], _ => rfl, fun _ _ _ _ _ _ C => ok_f_rewrite C⟩
theorem fok_f_share_all : FDok tb fd_f_share_all := ⟨⟨rfl, rfl, rfl, by decide +kernel, rfl, by decide +kernel, by decide +kernel⟩, rfl, rfl, fun _ _ _ _ _ _ us hl => match us, hl with | [_, _], _ => rfl, fun _ _ _ _ _ _ C => ok_f_share_all C⟩
theorem fok_f_drop_all : FDok tb fd_f_drop_all := ⟨⟨rfl, rfl, rfl, by decide +kernel, rfl, by decide +kernel, by decide +kernel⟩, rfl, rfl, fun _ _ _ _ _ _ us hl => match us, hl with | [_, _], _ => rfl, fun _ _ _ _ _ _ C => ok_f_drop_all C⟩
theorem fok_f_improve : FDok tb fd_f_improve := ⟨⟨rfl, rfl, rfl, by decide +kernel, rfl, by decide +kernel, by decide +kernel⟩, rfl, rfl, fun _ _ _ _ _ _ us hl => match us, hl with | [_], _ => rfl, fun _ _ _ _ _ _ C => ok_f_improve C⟩
theorem fok_f_w_state : FDok tb fd_f_w_state := ⟨⟨rfl, rfl, rfl, by decide +kernel, rfl, by decide +kernel, by decide +kernel⟩, rfl, rfl, fun _ _ _ _ _ _ us hl => match us, hl with | [_], _ => rfl, fun _ _ _ _ _ _ C => ok_f_w_state C⟩
theorem fok_f_w_draw : FDok tb fd_f_w_draw := ⟨⟨rfl, rfl, rfl, by decide +kernel, rfl, by decide +kernel, by decide +kernel⟩, rfl, rfl, fun _ _ _ _ _ _ us hl => match us, hl with | [_, _], _ => rfl, fun _ _ _ _ _ _ C => ok_f_w_draw C⟩
theorem fok_f_w_pick : FDok tb fd_f_w_pick := ⟨⟨rfl, rfl, rfl, by decide +kernel, rfl, by decide +kernel, by decide +kernel⟩, rfl, rfl, fun _ _ _ _ _ _ us hl => match us, hl with | [_, _], _ => rfl, fun _ _ _ _ _ _ C => ok_f_w_pick C⟩
theorem fok_f_w_number : FDok tb fd_f_w_number := ⟨⟨rfl, rfl, rfl, by decide +kernel, rfl, by decide +kernel, by decide +kernel⟩, rfl, rfl, fun _ _ _ _ _ _ us hl => match us, hl with | [_], _ => rfl, fun _ _ _ _ _ _ C => ok_f_w_number C⟩
theorem fok_f_w_code : FDok tb fd_f_w_code := ⟨⟨rfl, rfl, rfl, by decide +kernel, rfl, by decide +kernel, by decide +kernel⟩, rfl, rfl, fun _ _ _ _ _ _ us hl => match us, hl with | [_, _], _ => rfl, fun _ _ _ _ _ _ C => ok_f_w_code C⟩
theorem fok_f_w_blocks : FDok tb fd_f_w_blocks := ⟨⟨rfl, rfl, rfl, by decide +kernel, rfl, by decide +kernel, by decide +kernel⟩, rfl, rfl, fun _ _ _ _ _ _ us hl => match us, hl with | [_], _ => rfl, fun _ _ _ _ _ _ C => ok_f_w_blocks C⟩
theorem fok_f_w_step : FDok tb fd_f_w_step := ⟨⟨rfl, rfl, rfl, by decide +kernel, rfl, by decide +kernel, by decide +kernel⟩, rfl, rfl, fun _ _ _ _ _ _ us hl => match us, hl with | [_, _], _ => rfl, fun _ _ _ _ _ _ C => ok_f_w_step C⟩
theorem fok_f_w_applied : FDok tb fd_f_w_applied := ⟨⟨rfl, rfl, rfl, by decide +kernel, rfl, by decide +kernel, by decide +kernel⟩, rfl, rfl, fun _ _ _ _ _ _ us hl => match us, hl with | [_, _], _ => rfl, fun _ _ _ _ _ _ C => ok_f_w_applied C⟩
theorem fok_f_w_block_after : FDok tb fd_f_w_block_after := ⟨⟨rfl, rfl, rfl, by decide +kernel, rfl, by decide +kernel, by decide +kernel⟩, rfl, rfl, fun _ _ _ _ _ _ us hl => match us, hl with | [_, _], _ => rfl, fun _ _ _ _ _ _ C => ok_f_w_block_after C⟩
theorem fok_f_w_mixed : FDok tb fd_f_w_mixed := ⟨⟨rfl, rfl, rfl, by decide +kernel, rfl, by decide +kernel, by decide +kernel⟩, rfl, rfl, fun _ _ _ _ _ _ us hl => match us, hl with | [_, _], _ => rfl, fun _ _ _ _ _ _ C => ok_f_w_mixed C⟩
theorem fok_f_w_told : FDok tb fd_f_w_told := ⟨⟨rfl, rfl, rfl, by decide +kernel, rfl, by decide +kernel, by decide +kernel⟩, rfl, rfl, fun _ _ _ _ _ _ us hl => match us, hl with | [_, _], _ => rfl, fun _ _ _ _ _ _ C => ok_f_w_told C⟩
theorem fok_f_w_none_left : FDok tb fd_f_w_none_left := ⟨⟨rfl, rfl, rfl, by decide +kernel, rfl, by decide +kernel, by decide +kernel⟩, rfl, rfl, fun _ _ _ _ _ _ us hl => match us, hl with | [_], _ => rfl, fun _ _ _ _ _ _ C => ok_f_w_none_left C⟩
theorem fok_f_law : FDok tb fd_f_law := ⟨⟨rfl, rfl, rfl, by decide +kernel, rfl, by decide +kernel, by decide +kernel⟩, rfl, rfl, fun _ _ _ _ _ _ us hl => match us, hl with | [_], _ => rfl, fun _ _ _ _ _ _ C => ok_f_law C⟩
theorem tabok : TabOk tb fds fa ets := ⟨by decide +kernel, by decide +kernel, by
  intro e he
  simp only [fds, List.mem_cons, List.not_mem_nil, or_false] at he
  rcases he with rfl | rfl | rfl | rfl | rfl | rfl | rfl | rfl | rfl | rfl | rfl | rfl | rfl | rfl | rfl | rfl | rfl | rfl | rfl | rfl | rfl | rfl | rfl | rfl | rfl
  · exact fok_f_PaperError___init__
  · exact fok_f_may_trap
  · exact fok_f_is_used
  · exact fok_f_without
  · exact fok_f_renamed
  · exact fok_f_shared
  · exact fok_f_step_applied
  · exact fok_f_duplicate
  · exact fok_f_rewrite
  · exact fok_f_share_all
  · exact fok_f_drop_all
  · exact fok_f_improve
  · exact fok_f_w_state
  · exact fok_f_w_draw
  · exact fok_f_w_pick
  · exact fok_f_w_number
  · exact fok_f_w_code
  · exact fok_f_w_blocks
  · exact fok_f_w_step
  · exact fok_f_w_applied
  · exact fok_f_w_block_after
  · exact fok_f_w_mixed
  · exact fok_f_w_told
  · exact fok_f_w_none_left
  · exact fok_f_law, by decide +kernel, by decide +kernel, by decide +kernel, by
  intro e he
  simp only [fds, List.mem_cons, List.not_mem_nil, or_false] at he
  rcases he with rfl | rfl | rfl | rfl | rfl | rfl | rfl | rfl | rfl | rfl | rfl | rfl | rfl | rfl | rfl | rfl | rfl | rfl | rfl | rfl | rfl | rfl | rfl | rfl | rfl
  · exact fun h => Bool.noConfusion (show false = true from h)
  · exact fun h => Bool.noConfusion (show false = true from h)
  · exact fun h => Bool.noConfusion (show false = true from h)
  · exact fun h => Bool.noConfusion (show false = true from h)
  · exact fun h => Bool.noConfusion (show false = true from h)
  · exact fun h => Bool.noConfusion (show false = true from h)
  · exact fun h => Bool.noConfusion (show false = true from h)
  · exact fun h => Bool.noConfusion (show false = true from h)
  · exact fun h => Bool.noConfusion (show false = true from h)
  · exact fun h => Bool.noConfusion (show false = true from h)
  · exact fun h => Bool.noConfusion (show false = true from h)
  · exact fun h => Bool.noConfusion (show false = true from h)
  · exact fun h => Bool.noConfusion (show false = true from h)
  · exact fun h => Bool.noConfusion (show false = true from h)
  · exact fun h => Bool.noConfusion (show false = true from h)
  · exact fun h => Bool.noConfusion (show false = true from h)
  · exact fun h => Bool.noConfusion (show false = true from h)
  · exact fun h => Bool.noConfusion (show false = true from h)
  · exact fun h => Bool.noConfusion (show false = true from h)
  · exact fun h => Bool.noConfusion (show false = true from h)
  · exact fun h => Bool.noConfusion (show false = true from h)
  · exact fun h => Bool.noConfusion (show false = true from h)
  · exact fun h => Bool.noConfusion (show false = true from h)
  · exact fun h => Bool.noConfusion (show false = true from h)
  · exact fun h => Bool.noConfusion (show false = true from h), by decide +kernel, by decide +kernel, by decide +kernel, by decide +kernel, by decide +kernel, by decide +kernel, by
  intro e he
  obtain rfl : e = (("PaperError" : PySem.Str), "PaperError") := List.mem_singleton.mp he
  exact ⟨53, fd_f_PaperError___init__, List.mem_of_getElem? (i := 0) rfl, rfl, rfl, fun X C CF a i H Q hN hs hm T hno F ea q => ox_body ⟨_, rfl⟩ rfl rfl hN hs rfl rfl rfl hm T hno F ea q⟩⟩
def loose0 : List PySem.Str := [("FlatError" : PySem.Str), ("PaperError" : PySem.Str), ("TRAPS" : PySem.Str), ("may_trap" : PySem.Str), ("is_used" : PySem.Str), ("without" : PySem.Str), ("renamed" : PySem.Str), ("shared" : PySem.Str), ("step_applied" : PySem.Str), ("duplicate" : PySem.Str), ("rewrite" : PySem.Str), ("share_all" : PySem.Str), ("drop_all" : PySem.Str), ("improve" : PySem.Str), ("_law_state" : PySem.Str), ("_law_draw" : PySem.Str), ("_law_pick" : PySem.Str), ("_law_number" : PySem.Str), ("_law_code" : PySem.Str), ("_law_blocks" : PySem.Str), ("_law_step" : PySem.Str), ("_law_applied" : PySem.Str), ("_law_block_after" : PySem.Str), ("_law_mixed" : PySem.Str), ("_law_told" : PySem.Str), ("_law_none_left" : PySem.Str)]
def loose : List PySem.Str := loose0
abbrev Rw : PySem.W.OpenRow := PySem.W.OpenLaw.row PySem.Challenge.rw_flatsheaves_k10_rewriting_steps
abbrev hkL : PySem.W.Hook := hkF 5 fa (fds.map (·.2.d)) (exAll tb ets)
theorem run (w : PySem.World) : HandSHeadRun.RunEq Rw (PySem.W.view Rw.prog [29]) hkL (obF 5 fa (fds.map (·.2.d)) (exAll tb ets)) 20000 loose w := by
  intro os
  kernel_rfl
end
end Fl.k10
set_option Elab.async false
set_option linter.all false
set_option maxRecDepth 100000
/-! Fl: how the mirrors run, in plain Lean. -/
namespace Fl
/-- no proof by the kernel's own reckoning -/
theorem nrfl {α : Sort _} {a b : α} (h : a = b) : a = b := h
/-! ### one step -/
@[simp] theorem p_bind {α β : Type} (m : M α) (k : α → M β) (s : Store) : (m >>= k) s = (m s).bind k := nrfl rfl
@[simp] theorem p_pure {α : Type} (a : α) (s : Store) : (pure a : M α) s = .ok a s := nrfl rfl
@[simp] theorem p_ok {α β : Type} (a : α) (s : Store) (k : α → M β) : (R.ok a s).bind k = k a s := nrfl rfl
@[simp] theorem p_exc {α β : Type} (x : Exc) (s : Store) (k : α → M β) : (R.exc x s : R α).bind k = .exc x s := nrfl rfl
@[simp] theorem p_bad {α β : Type} (k : α → M β) : (R.bad : R α).bind k = .bad := nrfl rfl
@[simp] theorem p_badM {α : Type} (s : Store) : (bad : M α) s = .bad := nrfl rfl
@[simp] theorem p_sok {α : Type} (a : α) (s : Store) (ρ : Env) (k : α → Store → SO) : (R.ok a s).so ρ k = k a s := nrfl rfl
@[simp] theorem p_sexc {α : Type} (x : Exc) (s : Store) (ρ : Env) (k : α → Store → SO) : (R.exc x s : R α).so ρ k = .ex x ρ s := nrfl rfl
@[simp] theorem p_eC (d : T) (ρ : Env) (s : Store) : eC d ρ s = .ok (.t d) s := nrfl rfl
theorem p_eVar {i : Nat} {ρ : Env} {v : Val} {s : Store} (h : ρ[i]? = some (some v)) : eVar i ρ s = .ok v s := by unfold eVar; rw [h]
@[simp] theorem p_var0 (v : Val) (r : Env) (s : Store) : eVar 0 (some v :: r) s = .ok v s := nrfl rfl
@[simp] theorem p_var1 (x0 : Option Val) (v : Val) (r : Env) (s : Store) : eVar 1 (x0 :: some v :: r) s = .ok v s := nrfl rfl
@[simp] theorem p_var2 (x0 x1 : Option Val) (v : Val) (r : Env) (s : Store) : eVar 2 (x0 :: x1 :: some v :: r) s = .ok v s := nrfl rfl
@[simp] theorem p_var3 (x0 x1 x2 : Option Val) (v : Val) (r : Env) (s : Store) : eVar 3 (x0 :: x1 :: x2 :: some v :: r) s = .ok v s := nrfl rfl
@[simp] theorem p_var4 (x0 x1 x2 x3 : Option Val) (v : Val) (r : Env) (s : Store) : eVar 4 (x0 :: x1 :: x2 :: x3 :: some v :: r) s = .ok v s := nrfl rfl
@[simp] theorem p_var5 (x0 x1 x2 x3 x4 : Option Val) (v : Val) (r : Env) (s : Store) : eVar 5 (x0 :: x1 :: x2 :: x3 :: x4 :: some v :: r) s = .ok v s := nrfl rfl
@[simp] theorem p_var6 (x0 x1 x2 x3 x4 x5 : Option Val) (v : Val) (r : Env) (s : Store) : eVar 6 (x0 :: x1 :: x2 :: x3 :: x4 :: x5 :: some v :: r) s = .ok v s := nrfl rfl
@[simp] theorem p_var7 (x0 x1 x2 x3 x4 x5 x6 : Option Val) (v : Val) (r : Env) (s : Store) : eVar 7 (x0 :: x1 :: x2 :: x3 :: x4 :: x5 :: x6 :: some v :: r) s = .ok v s := nrfl rfl
@[simp] theorem p_var8 (x0 x1 x2 x3 x4 x5 x6 x7 : Option Val) (v : Val) (r : Env) (s : Store) : eVar 8 (x0 :: x1 :: x2 :: x3 :: x4 :: x5 :: x6 :: x7 :: some v :: r) s = .ok v s := nrfl rfl
@[simp] theorem p_var9 (x0 x1 x2 x3 x4 x5 x6 x7 x8 : Option Val) (v : Val) (r : Env) (s : Store) : eVar 9 (x0 :: x1 :: x2 :: x3 :: x4 :: x5 :: x6 :: x7 :: x8 :: some v :: r) s = .ok v s := nrfl rfl
@[simp] theorem p_e1 (k : Val → M Val) (a : CE) (ρ : Env) (s : Store) : e1 k a ρ s = (a ρ s).bind k := nrfl rfl
@[simp] theorem p_e2 (k : Val → Val → M Val) (a b : CE) (ρ : Env) (s : Store) : e2 k a b ρ s = (a ρ s).bind fun x s => (b ρ s).bind fun y s => k x y s := nrfl rfl
@[simp] theorem p_e2c (c : Val → M Unit) (k : Val → Val → M Val) (a b : CE) (ρ : Env) (s : Store) : e2c c k a b ρ s = (a ρ s).bind fun x s => (c x s).bind fun _ s => (b ρ s).bind fun y s => k x y s := nrfl rfl
@[simp] theorem p_vals0 (ρ : Env) (s : Store) : eVals [] ρ s = .ok [] s := nrfl rfl
@[simp] theorem p_vals (a : CE) (r : List CE) (ρ : Env) (s : Store) : eVals (a :: r) ρ s = (a ρ s).bind fun x s => (eVals r ρ s).bind fun xs s => .ok (x :: xs) s := nrfl rfl
@[simp] theorem p_tup (c : Bool) (as : List CE) (ρ : Env) (s : Store) : eTup c as ρ s = (eVals as ρ s).bind (newT c) := nrfl rfl
@[simp] theorem p_lst (c : Bool) (as : List CE) (ρ : Env) (s : Store) : eLst c as ρ s = (eVals as ρ s).bind (newL c) := nrfl rfl
@[simp] theorem p_prs0 (ρ : Env) (s : Store) : ePairs [] ρ s = .ok [] s := nrfl rfl
@[simp] theorem p_prs (a b : CE) (r : List (CE × CE)) (ρ : Env) (s : Store) : ePairs ((a, b) :: r) ρ s = (a ρ s).bind fun x s => (b ρ s).bind fun y s => (ePairs r ρ s).bind fun ps s => (match keyOf x with
    | some k => pure ((k, y) :: ps)
    | none => bad : M _) s := rfl
@[simp] theorem p_dct (c : Bool) (as : List (CE × CE)) (ρ : Env) (s : Store) : eDct c as ρ s = (ePairs as ρ s).bind fun kvs => newD c (dmerge [] kvs) := nrfl rfl
@[simp] theorem p_eB (t : CT) (ρ : Env) (s : Store) : eB t ρ s = (t ρ s).bind fun b s => .ok (vB b) s := nrfl rfl
@[simp] theorem p_t2 (k : Val → Val → M Bool) (a b : CE) (ρ : Env) (s : Store) : t2 k a b ρ s = (a ρ s).bind fun x s => (b ρ s).bind fun y s => k x y s := nrfl rfl
@[simp] theorem p_tEq (a b : CE) (ρ : Env) (s : Store) : tEq a b ρ s = (a ρ s).bind fun x s => (b ρ s).bind fun y s => eqV x y s := nrfl rfl
@[simp] theorem p_tNe (a b : CE) (ρ : Env) (s : Store) : tNe a b ρ s = (a ρ s).bind fun x s => (b ρ s).bind fun y s => (eqV x y s).bind fun b s => .ok (!b) s := nrfl rfl
@[simp] theorem p_tLt (a b : CE) (ρ : Env) (s : Store) : tLt a b ρ s = (a ρ s).bind fun x s => (b ρ s).bind fun y s => ltV (fun i j => decide (i < j)) x y s := nrfl rfl
@[simp] theorem p_tLe (a b : CE) (ρ : Env) (s : Store) : tLe a b ρ s = (a ρ s).bind fun x s => (b ρ s).bind fun y s => ltV (fun i j => decide (i ≤ j)) x y s := nrfl rfl
@[simp] theorem p_tGt (a b : CE) (ρ : Env) (s : Store) : tGt a b ρ s = (a ρ s).bind fun x s => (b ρ s).bind fun y s => ltV (fun i j => decide (j < i)) x y s := nrfl rfl
@[simp] theorem p_tGe (a b : CE) (ρ : Env) (s : Store) : tGe a b ρ s = (a ρ s).bind fun x s => (b ρ s).bind fun y s => ltV (fun i j => decide (j ≤ i)) x y s := nrfl rfl
@[simp] theorem p_tIn (a b : CE) (ρ : Env) (s : Store) : tIn a b ρ s = (a ρ s).bind fun x s => (b ρ s).bind fun y s => inV x y s := nrfl rfl
@[simp] theorem p_tNotIn (a b : CE) (ρ : Env) (s : Store) : tNotIn a b ρ s = (a ρ s).bind fun x s => (b ρ s).bind fun y s => (inV x y s).bind fun b s => .ok (!b) s := nrfl rfl
@[simp] theorem p_tIsi (c : String) (a : CE) (ρ : Env) (s : Store) : tIsi c a ρ s = (a ρ s).bind (isiV c) := nrfl rfl
@[simp] theorem p_tIsE (c : String) (a : CE) (ρ : Env) (s : Store) : tIsE c a ρ s = (a ρ s).bind (isiE c) := nrfl rfl
@[simp] theorem p_tAnd (a b : CT) (ρ : Env) (s : Store) : tAnd a b ρ s = (a ρ s).bind fun x s => if x then b ρ s else .ok false s := by
  show ((a ρ s).bind fun x => if x then b ρ else pure false) = _
  congr 1
  funext x t
  cases x <;> rfl
@[simp] theorem p_tOr (a b : CT) (ρ : Env) (s : Store) : tOr a b ρ s = (a ρ s).bind fun x s => if x then .ok true s else b ρ s := by
  show ((a ρ s).bind fun x => if x then pure true else b ρ) = _
  congr 1
  funext x t
  cases x <;> rfl
@[simp] theorem p_tNot (a : CT) (ρ : Env) (s : Store) : tNot a ρ s = (a ρ s).bind fun x s => .ok (!x) s := nrfl rfl
@[simp] theorem p_eIf (c : CT) (a b : CE) (ρ : Env) (s : Store) : eIf c a b ρ s = (c ρ s).bind fun x s => if x then a ρ s else b ρ s := by
  show ((c ρ s).bind fun x => if x then a ρ else b ρ) = _
  congr 1
  funext x t
  cases x <;> rfl
@[simp] theorem p_eAnd (a b : CE) (ρ : Env) (s : Store) : eAnd a b ρ s = (a ρ s).bind fun x s => (getB x s).bind fun c s => if c then b ρ s else .ok (vB false) s := by
  show ((a ρ s).bind fun x => getB x >>= fun c => if c then b ρ else pure (vB false)) = _
  congr 1
  funext x t
  show (getB x t).bind _ = _
  congr 1
  funext c u
  cases c <;> rfl
@[simp] theorem p_eOr (a b : CE) (ρ : Env) (s : Store) : eOr a b ρ s = (a ρ s).bind fun x s => (getB x s).bind fun c s => if c then .ok (vB true) s else b ρ s := by
  show ((a ρ s).bind fun x => getB x >>= fun c => if c then pure (vB true) else b ρ) = _
  congr 1
  funext x t
  show (getB x t).bind _ = _
  congr 1
  funext c u
  cases c <;> rfl
@[simp] theorem p_eNot (a : CE) (ρ : Env) (s : Store) : eNot a ρ s = (a ρ s).bind fun x s => (getB x s).bind fun c s => .ok (vB !c) s := nrfl rfl
@[simp] theorem p_call (G : FEnv) (f : Nat) (as : List CE) (ρ : Env) (s : Store) : eCall G f as ρ s = (eVals as ρ s).bind (G f) := nrfl rfl
@[simp] theorem p_iV (a : CE) (ρ : Env) (s : Store) : iV a ρ s = (a ρ s).bind iterOf := nrfl rfl
@[simp] theorem p_tTruth (a : CE) (ρ : Env) (s : Store) : tTruth a ρ s = (a ρ s).bind truthV := nrfl rfl
/-! values -/
@[simp] theorem p_getB (b : Bool) (s : Store) : getB (vB b) s = .ok b s := nrfl rfl
@[simp] theorem p_getB' (b : Bool) (s : Store) : getB (.t (.bl b)) s = .ok b s := nrfl rfl
@[simp] theorem p_getI (b : Int) (s : Store) : getInt (.t (.int b)) s = .ok b s := nrfl rfl
@[simp] theorem p_vI (i : Int) : vI i = .t (.int i) := nrfl rfl
@[simp] theorem p_vB (i : Bool) : vB i = .t (.bl i) := nrfl rfl
@[simp] theorem p_vS (i : String) : vS i = .t (.str i) := nrfl rfl
@[simp] theorem p_add (c : Bool) (i j : Int) (s : Store) : addV c (.t (.int i)) (.t (.int j)) s = .ok (.t (.int (i + j))) s := nrfl rfl
@[simp] theorem p_sub (i j : Int) (s : Store) : subV (.t (.int i)) (.t (.int j)) s = .ok (.t (.int (i - j))) s := nrfl rfl
theorem p_mul (c : Bool) {i j : Int} (h : mulOk i j = true) (s : Store) : mulV c (.t (.int i)) (.t (.int j)) s = .ok (.t (.int (i * j))) s := by
  show (if mulOk i j = true then _ else _) = _
  rw [if_pos h]
  rfl
theorem p_fdiv {i j : Int} (h : fdivOk i j = true) (s : Store) : fdivV (.t (.int i)) (.t (.int j)) s = .ok (.t (.int (i.fdiv j))) s := by
  show (if fdivOk i j = true then _ else _) = _
  rw [if_pos h]
  rfl
theorem p_mod {i j : Int} (h : j ≠ 0) (s : Store) : modV (.t (.int i)) (.t (.int j)) s = .ok (.t (.int (i.fmod j))) s := by
  show (if j ≠ 0 then _ else _) = _
  rw [if_pos h]
  rfl
@[simp] theorem p_neg (i : Int) (s : Store) : negV (.t (.int i)) s = .ok (.t (.int (-i))) s := nrfl rfl
@[simp] theorem p_lt (f : Int → Int → Bool) (i j : Int) (s : Store) : ltV f (.t (.int i)) (.t (.int j)) s = .ok (f i j) s := nrfl rfl
@[simp] theorem p_intV (i : Int) (s : Store) : intV (.t (.int i)) s = .ok (.t (.int i)) s := nrfl rfl
@[simp] theorem p_intB (i : Bool) (s : Store) : intV (.t (.bl i)) s = .ok (.t (.int (if i then 1 else 0))) s := nrfl rfl
@[simp] theorem p_absV (i : Int) (s : Store) : absV (.t (.int i)) s = .ok (.t (.int (if i < 0 then -i else i))) s := nrfl rfl
@[simp] theorem p_max2 (i j : Int) (s : Store) : max2 (.t (.int i)) (.t (.int j)) s = .ok (.t (.int (if j > i then j else i))) s := nrfl rfl
@[simp] theorem p_min2 (i j : Int) (s : Store) : min2 (.t (.int i)) (.t (.int j)) s = .ok (.t (.int (if j < i then j else i))) s := nrfl rfl
@[simp] theorem p_eqI (i j : Int) (s : Store) : eqV (.t (.int i)) (.t (.int j)) s = .ok (i == j) s := by
  show (match T.eq? (.int i) (.int j) with | some r => R.ok r s | none => .bad) = _
  have : T.eq? (.int i) (.int j) = some (i == j) := by
    show (if T.plain 60 (.int i) && T.plain 60 (.int j) then some (T.eqv (.int i) (.int j)) else none) = _
    rw [T.eqv]; rfl
  rw [this]
@[simp] theorem p_eqS (i j : String) (s : Store) : eqV (.t (.str i)) (.t (.str j)) s = .ok (i == j) s := by
  show (match T.eq? (.str i) (.str j) with | some r => R.ok r s | none => .bad) = _
  have : T.eq? (.str i) (.str j) = some (i == j) := by
    show (if T.plain 60 (.str i) && T.plain 60 (.str j) then some (T.eqv (.str i) (.str j)) else none) = _
    rw [T.eqv]; rfl
  rw [this]
@[simp] theorem p_newL (vs : List Val) (s : Store) : newL true vs s = .ok (.loc s.length) (s ++ [some (.lst vs)]) := nrfl rfl
theorem p_newLf {vs : List Val} {ts : List T} (h : trees vs = some ts) (s : Store) : newL false vs s = .ok (.t (.lst ts)) s := by
  show (match trees vs with | some ts => R.ok (Val.t (.lst ts)) s | none => .bad) = _
  rw [h]
theorem p_newTf {vs : List Val} {ts : List T} (h : trees vs = some ts) (s : Store) : newT false vs s = .ok (.t (.tup ts)) s := by
  show (match trees vs with | some ts => R.ok (Val.t (.tup ts)) s | none => .bad) = _
  rw [h]
@[simp] theorem p_trees0 : trees [] = some [] := nrfl rfl
/-! statements -/
/-- .. then, if it runs through -/
def SO.then (o : SO) (k : SM) : SO := match o with
  | .nx ρ s => k ρ s
  | o => o
@[simp] theorem p_seq2 (a b : SM) (ρ : Env) (s : Store) : sSeq a b ρ s = (a ρ s).then b := nrfl rfl
@[simp] theorem then_nx (ρ : Env) (s : Store) (k : SM) : (SO.nx ρ s).then k = k ρ s := nrfl rfl
@[simp] theorem then_rt (v : Val) (s : Store) (k : SM) : (SO.rt v s).then k = .rt v s := nrfl rfl
@[simp] theorem then_ex (x : Exc) (ρ : Env) (s : Store) (k : SM) : (SO.ex x ρ s).then k = .ex x ρ s := nrfl rfl
@[simp] theorem then_bad (k : SM) : SO.bad.then k = .bad := nrfl rfl
@[simp] theorem then_bk (ρ : Env) (s : Store) (k : SM) : (SO.bk ρ s).then k = .bk ρ s := nrfl rfl
@[simp] theorem then_ct (ρ : Env) (s : Store) (k : SM) : (SO.ct ρ s).then k = .ct ρ s := nrfl rfl
@[simp] theorem p_nil (ρ : Env) (s : Store) : sNil ρ s = .nx ρ s := nrfl rfl
@[simp] theorem p_brk (ρ : Env) (s : Store) : sBreak ρ s = .bk ρ s := nrfl rfl
@[simp] theorem p_asgV (e : CE) (i : Nat) (ρ : Env) (s : Store) : sAsg e (gVar i) ρ s = (e ρ s).so ρ fun v s => .nx (ρ.set i (some v)) s := nrfl rfl
@[simp] theorem p_asgT (e : CE) (is : List Nat) (ρ : Env) (s : Store) : sAsg e (gTup is) ρ s = (e ρ s).so ρ fun v s => (gTup is v ρ s).so ρ fun ρ' s => .nx ρ' s := nrfl rfl
@[simp] theorem p_ssub (e o i : CE) (ρ : Env) (s : Store) : sSub e o i ρ s = (e ρ s).so ρ fun v s1 => (o ρ s1).so ρ fun ov s2 => (i ρ s2).so ρ fun iv s3 => (setI ov iv v s3).so ρ fun _ s4 => .nx ρ s4 := nrfl rfl
@[simp] theorem p_sexpr (e : CE) (ρ : Env) (s : Store) : sExpr e ρ s = (e ρ s).so ρ fun _ s => .nx ρ s := nrfl rfl
@[simp] theorem p_ret (e : CE) (ρ : Env) (s : Store) : sRet e ρ s = (e ρ s).so ρ fun v s => .rt v s := nrfl rfl
@[simp] theorem p_if (c : CT) (a b : SM) (ρ : Env) (s : Store) : sIf c a b ρ s = (c ρ s).so ρ fun x s => if x then a ρ s else b ρ s := nrfl rfl
@[simp] theorem p_raise (c : String) (ρ : Env) (s : Store) : sRaise c ρ s = .ex ⟨c, none⟩ ρ s := nrfl rfl
@[simp] theorem p_for (it : CI) (g : CG) (b : SM) (ρ : Env) (s : Store) : sFor it g b ρ s = (it ρ s).so ρ fun vs s => forL g b vs ρ s := nrfl rfl
@[simp] theorem p_forL0 (g : CG) (b : SM) (ρ : Env) (s : Store) : forL g b [] ρ s = .nx ρ s := nrfl rfl
theorem p_forL (i : Nat) (b : SM) (v : Val) (r : List Val) (ρ : Env) (s : Store) : forL (gVar i) b (v :: r) ρ s = (match b (ρ.set i (some v)) s with
    | .nx ρ2 s2 => forL (gVar i) b r ρ2 s2
    | .ct ρ2 s2 => forL (gVar i) b r ρ2 s2
    | .bk ρ2 s2 => .nx ρ2 s2
    | o => o) := rfl
/-- a loop whose turns all run through, by an invariant of what is left -/
theorem for_inv {g : CG} {b : SM} (P : List Val → Env → Store → Prop) (hs : ∀ v r ρ s, P (v :: r) ρ s → ∃ ρ1 s1 ρ2 s2, g v ρ s = .ok ρ1 s1 ∧ b ρ1 s1 = .nx ρ2 s2 ∧ P r ρ2 s2) : ∀ vs ρ s, P vs ρ s → ∃ ρ' s', forL g b vs ρ s = .nx ρ' s' ∧ P [] ρ' s'
  | [], ρ, s, h => ⟨ρ, s, rfl, h⟩
  | v :: r, ρ, s, h => by
    obtain ⟨ρ1, s1, ρ2, s2, h1, h2, h3⟩ := hs v r ρ s h
    obtain ⟨ρ', s', h4, h5⟩ := for_inv P hs r ρ2 s2 h3
    refine ⟨ρ', s', ?_, h5⟩
    show (g v ρ s).so ρ _ = _
    rw [h1]
    show (match b ρ1 s1 with
      | .nx ρ2 s2 => forL g b r ρ2 s2
      | .ct ρ2 s2 => forL g b r ρ2 s2
      | .bk ρ2 s2 => .nx ρ2 s2
      | o => o) = _
    rw [h2]
    exact h4
/-! defs -/
theorem trim_same {n : Nat} {s : Store} (h : s.length = n) : trim n s = s := by
  unfold trim
  have e : s.take n = s := List.take_of_length_le (by omega)
  rw [e]
  split <;> rfl
/-- a def that returns, the store's length kept -/
theorem fn_rt {N ps : Nat} {b : SM} {args : List Val} {s s' : Store} {v : Val} (h : b (start N args) s = .rt v s') (hl : args.length = ps) (hv : v.below s.length = true) (hs : s'.length = s.length) : mkFn N ps b args s = .ok v s' := by
  unfold mkFn
  rw [if_pos hl, h]
  dsimp only
  rw [if_pos hv, trim_same hs]
theorem fn_new {N ps : Nat} {b : SM} {args : List Val} {s s' : Store} {n : Nat} (h : b (start N args) s = .rt (.loc n) s') (hl : args.length = ps) (hv : ¬ n < s.length) : mkFn N ps b args s = .ok (.loc n) s' := by
  unfold mkFn
  rw [if_pos hl, h]
  dsimp only
  rw [if_neg (by simpa [Val.below] using hv)]
end Fl
namespace Fl
theorem compL_map {g : CG} {f : CE} {ρ : Env} {s : Store} (h : Val → Val) : ∀ vs : List Val, (∀ v ∈ vs, ∃ ρ', g v ρ s = .ok ρ' s ∧ f ρ' s = .ok (h v) s) → compL g none f ρ vs s = .ok (vs.map h) s
  | [], _ => rfl
  | v :: r, hh => by
    obtain ⟨ρ', h1, h2⟩ := hh v List.mem_cons_self
    have ih := compL_map (g := g) (f := f) (ρ := ρ) (s := s) h r fun w hw => hh w (List.mem_cons_of_mem _ hw)
    show (g v ρ s).bind _ = _
    rw [h1]
    show (f ρ' s).bind _ = _
    rw [h2]
    show (compL g none f ρ r s).bind _ = _
    rw [ih]
    rfl
@[simp] theorem p_comp (c : Bool) (own : List Nat) (it : CI) (g : CG) (t : Option CT) (f : CE) (ρ : Env) (s : Store) : eComp c own it g t f ρ s = (it ρ s).bind fun vs s => (compL g t f (wipeE ρ own) vs s).bind (newL c) := nrfl rfl
end Fl
namespace Fl
/-- .. where the caller's store is empty -/
theorem fn_long {N ps : Nat} {b : SM} {args : List Val} {s s' : Store} {d : T} (h : b (start N args) s = .rt (.t d) s') (hl : args.length = ps) (hs : s = []) (hb : True) : mkFn N ps b args s = .ok (.t d) [] := by
  subst hs
  unfold mkFn
  rw [if_pos hl, h]
  rfl
end Fl
set_option Elab.async false
set_option linter.all false
set_option maxRecDepth 100000
/-! Fl: how the mirrors run, in plain Lean: lists of numbers, walks, local lists. -/
namespace Fl
@[simp] theorem p_varS (i : Nat) (x : Option Val) (r : Env) (s : Store) : eVar (i + 1) (x :: r) s = eVar i r s := nrfl rfl
abbrev iv (i : Int) : Val := .t (.int i)
/-- a tree: a list of numbers -/
abbrev li (xs : List Int) : T := .lst (xs.map .int)
/-- nothing points out of the store -/
def Wf (s : Store) : Prop := Store.below s.length s = true
theorem fn_t {N ps : Nat} {b : SM} {args : List Val} {s s' : Store} {d : T} (h : b (start N args) s = .rt (.t d) s') (hl : args.length = ps) (hw : Wf s) (hs : s'.take s.length = s) : mkFn N ps b args s = .ok (.t d) s := by
  unfold mkFn
  rw [if_pos hl, h]
  show R.ok (Val.t d) (trim s.length s') = _
  unfold trim
  rw [hs, if_pos (show Store.below s.length s = true from hw)]
theorem fn_x {N ps : Nat} {b : SM} {args : List Val} {s s' : Store} {x : Exc} {ρ : Env} (h : b (start N args) s = .ex x ρ s') (hl : args.length = ps) (hw : Wf s) (hs : s'.take s.length = s) : mkFn N ps b args s = .exc x s := by
  unfold mkFn
  rw [if_pos hl, h]
  show R.exc x (trim s.length s') = _
  unfold trim
  rw [hs, if_pos (show Store.below s.length s = true from hw)]
theorem Wf.app {s : Store} {j : Store} (h : Wf s) (hj : ∀ c ∈ j, match c with | some c => c.below (s.length + j.length) = true | none => True) : Wf (s ++ j) := by
  unfold Wf Store.below at *
  rw [List.all_append, Bool.and_eq_true]
  have up : ∀ v : Val, v.below s.length = true → v.below (s ++ j).length = true := fun v hv => by
    cases v with
    | loc k => simp only [Val.below, decide_eq_true_eq, List.length_append] at *; omega
    | _ => exact hv
  constructor
  · rw [List.all_eq_true] at *
    intro c hc
    have := h c hc
    cases c with
    | none => rfl
    | some c =>
      dsimp only at *
      cases c <;> simp only [Cell.below, List.all_eq_true] at * <;> (intro x hx; exact up _ (this x hx))
  · rw [List.all_eq_true]
    intro c hc
    have := hj c hc
    cases c with
    | none => rfl
    | some c => rw [List.length_append]; exact this
/-! ### the cell at the store's end -/
section
variable {s : Store} {vs : List Val} {v : Val}
theorem e_cell (c : Option Cell) : Store.cell (s ++ [c]) s.length = c := by unfold Store.cell; simp
@[simp] theorem e_lstC : lstC (.loc s.length) (s ++ [some (.lst vs)]) = .ok () (s ++ [some (.lst vs)]) := by
  unfold lstC; dsimp only; rw [e_cell]
theorem e_app (h : vs.length < L) : appendV (.loc s.length) v (s ++ [some (.lst vs)]) = .ok (.t .non) (s ++ [some (.lst (vs ++ [v]))]) := by
  unfold appendV; dsimp only; rw [e_cell]; dsimp only; rw [if_pos h]; simp [vN]
@[simp] theorem e_len : lenV (.loc s.length) (s ++ [some (.lst vs)]) = .ok (iv vs.length) (s ++ [some (.lst vs)]) := by
  unfold lenV; dsimp only; rw [e_cell]; rfl
theorem e_frz {ts : List T} (h : trees vs = some ts) : freeze (.loc s.length) (s ++ [some (.lst vs)]) = .ok (.t (.lst ts)) (s ++ [none]) := by
  unfold freeze; dsimp only; rw [e_cell]; dsimp only; rw [h]; simp
end
@[simp] theorem p_frzT (d : T) (s : Store) : freeze (.t d) s = .ok (.t d) s := nrfl rfl
/-! ### lists of numbers -/
theorem li_trees (xs : List Int) : trees (xs.map iv) = some (xs.map .int) := by
  rw [show xs.map iv = (xs.map T.int).map .t by rw [List.map_map]; rfl, trees_map]
@[simp] theorem li_items (xs : List Int) : (xs.map T.int).map Val.t = xs.map iv := by rw [List.map_map]; rfl
@[simp] theorem li_new (xs : List Int) (s : Store) : newL false (xs.map iv) s = .ok (.t (li xs)) s := p_newLf (li_trees xs) s
@[simp] theorem li_iter (xs : List Int) (s : Store) : iterOf (.t (.lst (xs.map .int))) s = .ok (xs.map iv) s := by
  show R.ok ((xs.map T.int).map Val.t) s = _
  rw [li_items]
@[simp] theorem li_itemsL (xs : List Int) (s : Store) : itemsL (.t (.lst (xs.map .int))) s = .ok (xs.map iv) s := by
  show R.ok ((xs.map T.int).map Val.t) s = _
  rw [li_items]
@[simp] theorem li_itms (xs : List Int) (s : Store) : items (.t (.lst (xs.map .int))) s = .ok (xs.map iv) s := by
  show R.ok ((xs.map T.int).map Val.t) s = _
  rw [li_items]
@[simp] theorem li_len (xs : List Int) (s : Store) : lenV (.t (.lst (xs.map .int))) s = .ok (iv xs.length) s := by
  show R.ok (vI ((xs.map T.int).length)) s = _
  rw [List.length_map]; rfl
@[simp] theorem li_ints (xs : List Int) : intsOf (xs.map iv) = some xs := ints_map xs
theorem px_nat {n k : Nat} (h : k < n) : pyIx n (k : Int) = some k := by
  unfold pyIx
  rw [if_pos (by omega), if_pos (by omega)]
  simp
theorem lst_get {xs : List T} {k : Nat} {d : T} (h : xs[k]? = some d) (s : Store) : subI (.t (.lst xs)) (iv k) s = .ok (.t d) s := by
  have hk : k < xs.length := (List.getElem?_eq_some_iff.mp h).1
  show (match pyIx xs.length (k : Int) with
    | some n => match xs[n]? with
      | some d => R.ok (Val.t d) s
      | none => .bad
    | none => .bad) = _
  rw [px_nat hk]
  dsimp only
  rw [h]
theorem li_plain (xs : List Int) : T.plain 60 (li xs) = true := by
  show (xs.map T.int).all (T.plain 59) = true
  simp [T.plain]
theorem li_eqvs : ∀ xs ys : List Int, T.eqvs (xs.map .int) (ys.map .int) = decide (xs = ys)
  | [], [] => by simp [T.eqvs]
  | [], _ :: _ => by simp [T.eqvs]
  | _ :: _, [] => by simp [T.eqvs]
  | a :: r, b :: q => by
    simp only [List.map_cons, T.eqvs, T.eqv, li_eqvs r q]
    by_cases h : a = b
    · subst h; simp
    · simp [h]
@[simp] theorem li_eq (xs ys : List Int) (s : Store) : eqV (.t (.lst (xs.map .int))) (.t (.lst (ys.map .int))) s = .ok (decide (xs = ys)) s := by
  show (match (if T.plain 60 (li xs) && T.plain 60 (li ys) then some (T.eqv (li xs) (li ys)) else none) with | some r => R.ok r s | none => .bad) = _
  rw [li_plain, li_plain]
  show R.ok (T.eqv (li xs) (li ys)) s = _
  rw [T.eqv, li_eqvs]
/-! ### walks -/
/-- a comprehension whose element is told by the item -/
theorem comp_map {β : Type} {g : CG} {f : CE} {ρ : Env} {s : Store} (iw : β → Val) (h : β → Val) : ∀ vs : List β, (∀ v ∈ vs, ∃ ρ', g (iw v) ρ s = .ok ρ' s ∧ f ρ' s = .ok (h v) s) → compL g none f ρ (vs.map iw) s = .ok (vs.map h) s
  | [], _ => rfl
  | v :: r, hh => by
    obtain ⟨ρ', h1, h2⟩ := hh v List.mem_cons_self
    have ih := comp_map (g := g) (f := f) (ρ := ρ) (s := s) iw h r fun w hw => hh w (List.mem_cons_of_mem _ hw)
    show (g (iw v) ρ s).bind _ = _
    rw [h1]
    show (f ρ' s).bind _ = _
    rw [h2]
    show (compL g none f ρ (r.map iw) s).bind _ = _
    rw [ih]
    rfl
theorem p_compR (c : Bool) (own : List Nat) (it : CI) (g : CG) (t : Option CT) (f : CE) (ρ : Env) (s : Store) : eCompR c own it g t f ρ s = (it ρ s).bind fun vs s => (if vs.length ≤ L then (fun s => (compL g t f (wipeE ρ own) vs s).bind (newL c)) else bad) s := rfl
theorem p_compRn {c : Bool} {own : List Nat} {it : CI} {g : CG} {t : Option CT} {f : CE} {ρ : Env} {s s' : Store} {n : Nat} {iw : Nat → Val} (h : it ρ s = .ok ((List.range n).map iw) s') (hn : n ≤ 16777216) : eCompR c own it g t f ρ s = (compL g t f (wipeE ρ own) ((List.range n).map iw) s').bind (newL c) := by
  rw [p_compR, h, p_ok, if_pos (by rw [List.length_map, List.length_range]; exact hn)]
/-- what range(n) gives -/
theorem upto_eq (lo : Int) (n : Nat) : upto lo n = (List.range n).map fun (k : Nat) => iv (lo + (k : Int)) := rfl
end Fl
set_option Elab.async false
set_option linter.all false
set_option maxRecDepth 100000
/-! Fl: the drawing that all laws share. -/
namespace Fl
noncomputable def g_state (G : FEnv) : SM := sSeq (sAsg (eC (.int 7)) (gVar 1)) (sSeq (sFor (iV (eVar 0)) (gVar 2) (sAsg (e2 modV (e1 intV (e2 (addV false) (e2 (mulV false) (eVar 1) (eC (.int 31))) (eVar 2))) (eC (.int 1000003))) (gVar 1))) (sRet (eLst true [eComp true [2] (iV (eVar 0)) (gVar 2) none (e1 absV (e1 intV (eVar 2))), e2 (addV false) (eVar 1) (eC (.int 1))])))
noncomputable def g_draw (G : FEnv) : SM := sSeq (sAsg (e2 subI (eVar 0) (eC (.int 0))) (gVar 2)) (sSeq (sWhile (tAnd (tGt (e1 lenV (eVar 2)) (eC (.int 0))) (tEq (e2 subI (eVar 2) (eC (.int 0))) (eC (.int 0)))) (sExpr (e2c lstC popL (eVar 2) (eC (.int 0))))) (sSeq (sIf (tGt (e1 lenV (eVar 2)) (eC (.int 0))) (sSeq (sAsg (e2 subI (eVar 2) (eC (.int 0))) (gVar 3)) (sSeq (sSub (e2 fdivV (eVar 3) (eVar 1)) (eVar 2) (eC (.int 0))) (sRet (e2 modV (e1 intV (eVar 3)) (eVar 1))))) (sNil)) (sSeq (sAsg (e2 modV (e1 intV (e2 (addV false) (e2 (mulV false) (e2 subI (eVar 0) (eC (.int 1))) (eC (.int 48271))) (eC (.int 12345)))) (eC (.int 2147483647))) (gVar 4)) (sSeq (sSub (eVar 4) (eVar 0) (eC (.int 1))) (sRet (e2 modV (e1 intV (e2 fdivV (eVar 4) (eC (.int 64)))) (eVar 1)))))))
def g_pick (G : FEnv) : SM := sRet (e2 subI (eVar 1) (eCall G 75 [eVar 0, e1 lenV (eVar 1)]))
def g_number (G : FEnv) : SM := sSeq (sAsg (eLst false [eC (.int 0), e1 negV (eC (.int 1)), eC (.int 2147483647), e1 negV (eC (.int 2147483648)), eC (.int 65536)]) (gVar 1)) (sSeq (sIf (tEq (eCall G 75 [eVar 0, eC (.int 6)]) (eC (.int 0))) (sRet (eCall G 76 [eVar 0, eVar 1])) (sNil)) (sRet (e2 subV (eCall G 75 [eVar 0, eC (.int 7)]) (eC (.int 2)))))
/-- the state of a drawing: what is left of the script, the seed -/
def St (c : List Int) (m : Int) (r : Store) : Store := some (.lst (c.map vI)) :: some (.lst [.loc 0, vI m]) :: r
theorem St_len {c : List Int} {m : Int} {r : Store} : (St c m r).length = r.length + 2 := rfl
@[simp] theorem sub_st0 (c : List Int) (m : Int) (r : Store) : subI (.loc 1) (.t (.int 0)) (St c m r) = .ok (.loc 0) (St c m r) := nrfl rfl
@[simp] theorem sub_st1 (c : List Int) (m : Int) (r : Store) : subI (.loc 1) (.t (.int 1)) (St c m r) = .ok (.t (.int m)) (St c m r) := nrfl rfl
@[simp] theorem len_st (c : List Int) (m : Int) (r : Store) : lenV (.loc 0) (St c m r) = .ok (.t (.int c.length)) (St c m r) := by
  show R.ok (vI ((c.map vI).length)) _ = _
  rw [List.length_map]; rfl
@[simp] theorem sub_c0 (a : Int) (c : List Int) (m : Int) (r : Store) : subI (.loc 0) (.t (.int 0)) (St (a :: c) m r) = .ok (.t (.int a)) (St (a :: c) m r) := by
  show (match pyIx ((a :: c).map vI).length 0 with
    | some n => match ((a :: c).map vI)[n]? with
      | some d => R.ok d (St (a :: c) m r)
      | none => .bad
    | none => .bad) = _
  have : pyIx ((a :: c).map vI).length 0 = some 0 := by
    unfold pyIx
    rw [if_pos (by decide), if_pos (by simp)]
    rfl
  rw [this]
  rfl
@[simp] theorem pop_c0 (a : Int) (c : List Int) (m : Int) (r : Store) : popL (.loc 0) (.t (.int 0)) (St (a :: c) m r) = .ok (.t (.int a)) (St c m r) := by
  show (match pyIx ((a :: c).map vI).length 0 with
    | some j => match ((a :: c).map vI)[j]? with
      | some v => R.ok v ((St (a :: c) m r).set 0 (some (.lst (((a :: c).map vI).eraseIdx j))))
      | none => .bad
    | none => .bad) = _
  have : pyIx ((a :: c).map vI).length 0 = some 0 := by
    unfold pyIx
    rw [if_pos (by decide), if_pos (by simp)]
    rfl
  rw [this]
  rfl
@[simp] theorem set_c0 (a v : Int) (c : List Int) (m : Int) (r : Store) : setI (.loc 0) (.t (.int 0)) (.t (.int v)) (St (a :: c) m r) = .ok () (St (v :: c) m r) := by
  show (match pyIx ((a :: c).map vI).length 0 with
    | some j => R.ok () ((St (a :: c) m r).set 0 (some (.lst (((a :: c).map vI).set j (.t (.int v))))))
    | none => .bad) = _
  have : pyIx ((a :: c).map vI).length 0 = some 0 := by
    unfold pyIx
    rw [if_pos (by decide), if_pos (by simp)]
    rfl
  rw [this]
  rfl
@[simp] theorem set_m (v : Int) (c : List Int) (m : Int) (r : Store) : setI (.loc 1) (.t (.int 1)) (.t (.int v)) (St c m r) = .ok () (St c v r) := nrfl rfl
@[simp] theorem lstC_st (c : List Int) (m : Int) (r : Store) : lstC (.loc 0) (St c m r) = .ok () (St c m r) := nrfl rfl
theorem fm (i : Int) {k : Int} (h : 0 < k) : i.fmod k = i % k := Int.fmod_eq_emod_of_nonneg i (by omega)
theorem draw_while (m : Int) (r : Store) (x0 x1 : Option Val) (ρ : Env) : ∀ (c : List Int) (n : Nat), c.length < n → whileN (tAnd (tGt (e1 lenV (eVar 2)) (eC (.int 0))) (tEq (e2 subI (eVar 2) (eC (.int 0))) (eC (.int 0)))) (sExpr (e2c lstC popL (eVar 2) (eC (.int 0)))) n
    (x0 :: x1 :: some (.loc 0) :: ρ) (St c m r) = .nx (x0 :: x1 :: some (.loc 0) :: ρ) (St (c.dropWhile (· == 0)) m r)
  | [], n + 1, _ => by simp [whileN]
  | a :: c, n + 1, h => by
    by_cases ha : a = 0
    · subst ha
      have ih := draw_while m r x0 x1 ρ c n (by simp at h; omega)
      simp only [whileN]
      simp
      exact ih
    · have e : (a == 0) = false := by simpa using ha
      simp [whileN, e]
/-- a draw -/
theorem draw (G : FEnv) (c : List Int) (m : Int) (r : Store) {k : Int} (hk : 0 < k) (hk2 : k < 2 ^ 60) (hc : c.length ≤ 63) : ∃ (v : Nat) (c' : List Int) (m' : Int), (v : Int) < k ∧ c'.length ≤ 63 ∧ mkFn 5 2 (g_draw G) [.loc 1, vI k] (St c m r) = .ok (vI v) (St c' m' r) := by
  have hk0 : k ≠ 0 := by omega
  have hw := fun x0 x1 ρ => draw_while m r x0 x1 ρ c whileMax (by show c.length < 100000000; omega)
  have hf : ∀ a, fdivOk a k = true := fun a => by unfold fdivOk; simp; omega
  have h64 : ∀ a, fdivOk a 64 = true := fun a => by unfold fdivOk; simp
  have hm : mulOk m 48271 = true := by unfold mulOk; simp
  have key : ∀ x : Int, ∃ v : Nat, (v : Int) < k ∧ x.fmod k = v := fun x => by
    rw [fm x hk]
    refine ⟨(x % k).toNat, ?_, ?_⟩
    · have := Int.emod_nonneg x hk0
      have := Int.emod_lt_of_pos x hk
      omega
    · have := Int.emod_nonneg x hk0
      omega
  cases e : c.dropWhile (· == 0) with
  | nil =>
    obtain ⟨v, hv, ev⟩ := key (((m * 48271 + 12345).fmod 2147483647).fdiv 64)
    refine ⟨v, [], (m * 48271 + 12345).fmod 2147483647, hv, by simp, fn_rt ?_ rfl rfl rfl⟩
    simp [g_draw, start, sWhile, hw, e, p_mul _ hm, p_mod, p_fdiv (h64 _), hk0, ev]
  | cons a d =>
    obtain ⟨v, hv, ev⟩ := key a
    have hl : (a :: d).length ≤ 63 := by
      rw [← e]
      exact Nat.le_trans (List.Sublist.length_le (List.dropWhile_sublist _)) hc
    refine ⟨v, a.fdiv k :: d, m, hv, by simpa using hl, fn_rt ?_ rfl rfl rfl⟩
    simp [g_draw, start, sWhile, hw, e, p_fdiv (hf _), p_mod, hk0, ev]
theorem state (G : FEnv) (ns : List Int) : ∃ m, mkFn 3 1 (g_state G) [.scr ns] [] = .ok (.loc 1) (St (ns.map fun i => if i < 0 then -i else i) m []) := by
  have hl := for_inv (g := gVar 2) (b := sAsg (e2 modV (e1 intV (e2 (addV false) (e2 (mulV false) (eVar 1) (eC (.int 31))) (eVar 2))) (eC (.int 1000003))) (gVar 1))
    (fun r ρ s => s = [] ∧ (∀ v ∈ r, ∃ i : Int, v = .t (.int i)) ∧ ∃ (a : Int) (x : Option Val), ρ = [some (.scr ns), some (.t (.int a)), x]) (by
    rintro v r ρ s ⟨rfl, hv, a, x, rfl⟩
    obtain ⟨i, rfl⟩ := hv v List.mem_cons_self
    refine ⟨_, [], _, [], rfl, ?_, rfl, fun w hw => hv w (List.mem_cons_of_mem _ hw), (a * 31 + i).fmod 1000003, some (.t (.int i)), rfl⟩
    have hm : mulOk a 31 = true := by unfold mulOk; simp
    simp [p_mul _ hm, p_mod]) (ns.map vI) [some (.scr ns), some (.t (.int 7)), none] [] ⟨rfl, fun v hv => by
      obtain ⟨i, _, rfl⟩ := List.mem_map.mp hv
      exact ⟨i, rfl⟩, 7, none, rfl⟩
  obtain ⟨ρ', s', h1, rfl, _, a, x, rfl⟩ := hl
  refine ⟨a + 1, fn_new (n := 1) ?_ rfl (by decide)⟩
  have hc : compL (gVar 2) none (e1 absV (e1 intV (eVar 2))) [some (.scr ns), some (.t (.int a)), none] (ns.map vI) [] = .ok ((ns.map vI).map fun v => match v with
      | .t (.int i) => .t (.int (if i < 0 then -i else i))
      | v => v) [] := by
    refine compL_map _ _ fun v hv => ?_
    obtain ⟨i, _, rfl⟩ := List.mem_map.mp hv
    exact ⟨_, rfl, rfl⟩
  have e1 : iterOf (.scr ns) [] = .ok (ns.map vI) [] := rfl
  simp [g_state, start, e1, h1, wipeE, hc, -p_vI]
  simp [St]
def Inr (i : Int) : Prop := -2147483648 ≤ i ∧ i ≤ 2147483647
/-- the shared defs of a law's text -/
structure Base (Γ : Nat → FEnv) : Prop where
  e74 : ∀ n, Γ (n + 1) 74 = mkFn 3 1 (g_state (Γ n))
  e75 : ∀ n, Γ (n + 1) 75 = mkFn 5 2 (g_draw (Γ n))
  e76 : ∀ n, Γ (n + 1) 76 = mkFn 2 2 (g_pick (Γ n))
  e77 : ∀ n, Γ (n + 1) 77 = mkFn 2 1 (g_number (Γ n))
/-- a store under way: a drawing's state, then r -/
def IsSt (r : Store) (s : Store) : Prop := ∃ c m, c.length ≤ 63 ∧ s = St c m r
section
variable {Γ : Nat → FEnv}
theorem b_draw (B : Base Γ) (n : Nat) {r s : Store} (h : IsSt r s) {k : Int} (hk : 0 < k) (hk2 : k < 2 ^ 60) : ∃ (v : Nat) (s' : Store), (v : Int) < k ∧ IsSt r s' ∧ Γ (n + 1) 75 [.loc 1, .t (.int k)] s = .ok (.t (.int v)) s' := by
  obtain ⟨c, m, hc, rfl⟩ := h
  obtain ⟨v, c', m', h1, h2, h3⟩ := draw (Γ n) c m r hk hk2 hc
  rw [B.e75]
  exact ⟨v, _, h1, ⟨c', m', h2, rfl⟩, h3⟩
theorem st_len {r s s' : Store} (h : IsSt r s) (h' : IsSt r s') : s'.length = s.length := by
  obtain ⟨c, m, hc, rfl⟩ := h
  obtain ⟨c', m', hc', rfl⟩ := h'
  rfl
theorem b_pick (B : Base Γ) (n : Nat) {r s : Store} (h : IsSt r s) {xs : List T} (h0 : xs ≠ []) (hl : xs.length ≤ L) : ∃ (d : T) (s' : Store), d ∈ xs ∧ IsSt r s' ∧ Γ (n + 2) 76 [.loc 1, .t (.lst xs)] s = .ok (.t d) s' := by
  have hp : 0 < xs.length := List.length_pos_iff.mpr h0
  obtain ⟨v, s', h1, h2, h3⟩ := b_draw B n h (k := xs.length) (by omega) (by simp [L] at hl; omega)
  have hv : v < xs.length := by omega
  refine ⟨xs[v], s', List.getElem_mem hv, h2, ?_⟩
  rw [B.e76]
  refine fn_rt ?_ rfl rfl (st_len h h2)
  have e5 : lenV (.t (.lst xs)) s = .ok (.t (.int xs.length)) s := rfl
  simp only [g_pick, start, p_ret, p_e2, p_call, p_vals, p_vals0, p_e1, List.map, List.cons_append, List.nil_append, p_var0, p_var1, p_ok, e5, h3]
  rw [lst_get (List.getElem?_eq_getElem hv)]
  rfl
theorem b_state (B : Base Γ) (n : Nat) {ns : List Int} (h : ns.length ≤ 63) : ∃ s, IsSt [] s ∧ Γ (n + 1) 74 [.scr ns] [] = .ok (.loc 1) s := by
  obtain ⟨m, h1⟩ := state (Γ n) ns
  rw [B.e74]
  exact ⟨_, ⟨_, m, by rw [List.length_map]; exact h, rfl⟩, h1⟩
end
end Fl
set_option Elab.async false
set_option linter.all false
set_option maxRecDepth 100000
/-! Fl: plain lemmas by what is met: what runs next, loops by an invariant, local lists that are made. -/
namespace Fl
/-- how a def's body ends: a tree; the caller's cells as they were -/
def Rt (s0 : Store) (d : T) (o : SO) : Prop := ∃ s', o = .rt (.t d) s' ∧ s'.take s0.length = s0
def Rx (s0 : Store) (x : Exc) (o : SO) : Prop := ∃ ρ s', o = .ex x ρ s' ∧ s'.take s0.length = s0
theorem fn_Rt {N ps : Nat} {b : SM} {args : List Val} {s : Store} {d : T} (hl : args.length = ps) (hw : Wf s) (h : Rt s d (b (start N args) s)) : mkFn N ps b args s = .ok (.t d) s := by
  obtain ⟨s', h1, h2⟩ := h
  exact fn_t h1 hl hw h2
theorem fn_Rx {N ps : Nat} {b : SM} {args : List Val} {s : Store} {x : Exc} (hl : args.length = ps) (hw : Wf s) (h : Rx s x (b (start N args) s)) : mkFn N ps b args s = .exc x s := by
  obtain ⟨ρ, s', h1, h2⟩ := h
  exact fn_x h1 hl hw h2
theorem Rt.mk {s0 s : Store} {d : T} (h : s.take s0.length = s0) : Rt s0 d (.rt (.t d) s) := ⟨s, rfl, h⟩
theorem Rt.self {s0 : Store} {d : T} : Rt s0 d (.rt (.t d) s0) := ⟨s0, rfl, List.take_length⟩
theorem Rx.mk {s0 s : Store} {x : Exc} {ρ : Env} (h : s.take s0.length = s0) : Rx s0 x (.ex x ρ s) := ⟨ρ, s, rfl, h⟩
theorem Rx.self {s0 : Store} {x : Exc} {ρ : Env} : Rx s0 x (.ex x ρ s0) := ⟨ρ, s0, rfl, List.take_length⟩
/-! ### loops -/
theorem for_ix {g : CG} {b : SM} {iw : Nat → Val} {n : Nat} {ρ : Env} {s : Store} {o : SO} (hc : forL g b ((List.range n).map iw) ρ s = o) (P : Nat → Env → Store → Prop) (h0 : P 0 ρ s)
    (hs : ∀ j, j < n → ∀ ρ s, P j ρ s → ∃ ρ1 s1 ρ2 s2, g (iw j) ρ s = .ok ρ1 s1 ∧ b ρ1 s1 = .nx ρ2 s2 ∧ P (j + 1) ρ2 s2) : ∃ ρ' s', o = .nx ρ' s' ∧ P n ρ' s' := by
  have key : ∀ (m j : Nat) (ρ : Env) (s : Store), j + m ≤ n → P j ρ s → ∃ ρ' s', forL g b ((List.range' j m).map iw) ρ s = .nx ρ' s' ∧ P (j + m) ρ' s' := by
    intro m
    induction m with
    | zero => intro j ρ s _ h; exact ⟨ρ, s, rfl, h⟩
    | succ m ih =>
      intro j ρ s hj h
      obtain ⟨ρ1, s1, ρ2, s2, h1, h2, h3⟩ := hs j (by omega) ρ s h
      obtain ⟨ρ', s', h4, h5⟩ := ih (j + 1) ρ2 s2 (by omega) h3
      refine ⟨ρ', s', ?_, by rw [show j + (m + 1) = j + 1 + m by omega]; exact h5⟩
      rw [List.range'_succ, List.map_cons]
      show (g (iw j) ρ s).so _ _ = _
      rw [h1]
      show (match b ρ1 s1 with
        | .nx ρ2 s2 => forL g b ((List.range' (j + 1) m).map iw) ρ2 s2
        | .ct ρ2 s2 => forL g b ((List.range' (j + 1) m).map iw) ρ2 s2
        | .bk ρ2 s2 => .nx ρ2 s2
        | o => o) = _
      rw [h2]
      exact h4
  obtain ⟨ρ', s', h1, h2⟩ := key n 0 ρ s (by omega) h0
  rw [← List.range_eq_range', hc] at h1
  rw [Nat.zero_add] at h2
  exact ⟨ρ', s', h1, h2⟩
/-- a loop over items, by the part walked -/
theorem for_pre {β : Type} {g : CG} {b : SM} {iw : β → Val} {xs : List β} {ρ : Env} {s : Store} {o : SO} (hc : forL g b (xs.map iw) ρ s = o) (P : List β → Env → Store → Prop) (h0 : P [] ρ s)
    (hs : ∀ p x q, xs = p ++ x :: q → ∀ ρ s, P p ρ s → ∃ ρ1 s1 ρ2 s2, g (iw x) ρ s = .ok ρ1 s1 ∧ b ρ1 s1 = .nx ρ2 s2 ∧ P (p ++ [x]) ρ2 s2) : ∃ ρ' s', o = .nx ρ' s' ∧ P xs ρ' s' := by
  have key : ∀ (q p : List β) (ρ : Env) (s : Store), xs = p ++ q → P p ρ s → ∃ ρ' s', forL g b (q.map iw) ρ s = .nx ρ' s' ∧ P xs ρ' s' := by
    intro q
    induction q with
    | nil => intro p ρ s e h; rw [List.append_nil] at e; subst e; exact ⟨ρ, s, rfl, h⟩
    | cons x q ih =>
      intro p ρ s e h
      obtain ⟨ρ1, s1, ρ2, s2, h1, h2, h3⟩ := hs p x q e ρ s h
      obtain ⟨ρ', s', h4, h5⟩ := ih (p ++ [x]) ρ2 s2 (by rw [e]; simp) h3
      refine ⟨ρ', s', ?_, h5⟩
      show (g (iw x) ρ s).so _ _ = _
      rw [h1]
      show (match b ρ1 s1 with
        | .nx ρ2 s2 => forL g b (q.map iw) ρ2 s2
        | .ct ρ2 s2 => forL g b (q.map iw) ρ2 s2
        | .bk ρ2 s2 => .nx ρ2 s2
        | o => o) = _
      rw [h2]
      exact h4
  obtain ⟨ρ', s', h1, h2⟩ := key xs [] ρ s rfl h0
  exact ⟨ρ', s', hc ▸ h1, h2⟩
/-! ### local lists -/
theorem Wf.set {s : Store} {n : Nat} {c : Option Cell} (h : Wf s) (hc : ∀ k, c = some k → k.below s.length = true) : Wf (s.set n c) := by
  unfold Wf Store.below at *
  rw [List.length_set, List.all_eq_true] at *
  intro x hx
  rcases List.mem_or_eq_of_mem_set hx with hx | rfl
  · exact h x hx
  · cases x with
    | none => rfl
    | some k => exact hc k rfl
theorem below_t (n : Nat) (ts : List T) : (Cell.lst (ts.map Val.t)).below n = true := by
  simp [Cell.below, Val.below]
theorem Wf.app1 {s : Store} {ts : List T} (h : Wf s) : Wf (s ++ [some (.lst (ts.map Val.t))]) := by
  refine h.app fun c hc => ?_
  simp only [List.mem_singleton] at hc
  subst hc
  exact below_t _ ts
/-- a list of trees made behind s0, in the cell v -/
structure Own (s0 s : Store) (v : Val) (ts : List T) : Prop where
  ex : ∃ n, v = .loc n ∧ s0.length ≤ n ∧ s.cell n = some (.lst (ts.map Val.t))
  tk : s.take s0.length = s0
  wf : Wf s
theorem take_set {s s0 : Store} {n : Nat} {c : Option Cell} (h : s.take s0.length = s0) (hn : s0.length ≤ n) : (s.set n c).take s0.length = s0 := by
  rw [List.take_set_of_le hn, h]
theorem take_app {s s0 t : Store} (h : s.take s0.length = s0) : (s ++ t).take s0.length = s0 := by
  have hl : s0.length ≤ s.length := by
    have := congrArg List.length h
    rw [List.length_take] at this
    omega
  rw [List.take_append_of_le_length hl, h]
theorem take_len {s s0 : Store} (h : s.take s0.length = s0) : s0.length ≤ s.length := by
  have := congrArg List.length h
  rw [List.length_take] at this
  omega
section
variable {s0 s : Store} {v : Val} {ts us : List T} {d : T}
theorem own_new (hw : Wf s) (ht : s.take s0.length = s0) (ts : List T) : Own s0 (s ++ [some (.lst (ts.map Val.t))]) (.loc s.length) ts :=
  ⟨⟨s.length, rfl, take_len ht, e_cell _⟩, take_app ht, hw.app1⟩
theorem own_app (h : Own s0 s v ts) (hl : ts.length < L) (d : T) : ∃ s', appendV v (.t d) s = .ok (.t .non) s' ∧ Own s0 s' v (ts ++ [d]) := by
  obtain ⟨⟨n, rfl, hn, hc⟩, ht, hw⟩ := h
  have hlt := cell_lt hc
  refine ⟨s.set n (some (.lst (ts.map Val.t ++ [.t d]))), ?_, ⟨n, rfl, hn, ?_⟩, take_set ht hn, hw.set ?_⟩
  · unfold appendV
    dsimp only
    rw [hc]
    dsimp only
    rw [if_pos (by rw [List.length_map]; exact hl)]
    rfl
  · rw [cell_set hlt, if_pos rfl, List.map_append]; rfl
  · rintro k hk
    injection hk with hk
    subst hk
    have := below_t s.length (ts ++ [d])
    rw [List.map_append] at this
    exact this
theorem own_lstC (h : Own s0 s v ts) : lstC v s = .ok () s := by
  obtain ⟨⟨n, rfl, hn, hc⟩, ht, hw⟩ := h
  unfold lstC
  dsimp only
  rw [hc]
theorem own_items (h : Own s0 s v ts) : itemsL v s = .ok (ts.map .t) s := by
  obtain ⟨⟨n, rfl, hn, hc⟩, ht, hw⟩ := h
  unfold itemsL
  dsimp only
  rw [hc]
theorem own_len (h : Own s0 s v ts) : lenV v s = .ok (iv ts.length) s := by
  obtain ⟨⟨n, rfl, hn, hc⟩, ht, hw⟩ := h
  unfold lenV
  dsimp only
  rw [hc]
  dsimp only
  rw [List.length_map]; rfl
theorem addV_eq {c : Bool} {s : Store} {v : Val} {us xs : List Val} {t : List T} (h1 : itemsL v s = .ok xs s) (hv : ∀ t, v = .t t → ∃ q, t = .lst q) : addV c v (.t (.lst t)) s = (if xs.length + t.length ≤ L then newL c (xs ++ t.map .t) else bad) s := by
  have e2 : itemsL (.t (.lst t)) s = .ok (t.map .t) s := rfl
  cases v with
  | t d =>
    obtain ⟨q, rfl⟩ := hv d rfl
    show (itemsL (.t (.lst q)) >>= fun x => itemsL (.t (.lst t)) >>= fun y => if x.length + y.length ≤ L then newL c (x ++ y) else bad) s = _
    rw [bind_eq, h1, bind_ok, bind_eq, e2, bind_ok, List.length_map]
  | loc n =>
    show (itemsL (.loc n) >>= fun x => itemsL (.t (.lst t)) >>= fun y => if x.length + y.length ≤ L then newL c (x ++ y) else bad) s = _
    rw [bind_eq, h1, bind_ok, bind_eq, e2, bind_ok, List.length_map]
  | scr n =>
    show (itemsL (.scr n) >>= fun x => itemsL (.t (.lst t)) >>= fun y => if x.length + y.length ≤ L then newL c (x ++ y) else bad) s = _
    rw [bind_eq, h1, bind_ok, bind_eq, e2, bind_ok, List.length_map]
  | ex x =>
    show (itemsL (.ex x) >>= fun x => itemsL (.t (.lst t)) >>= fun y => if x.length + y.length ≤ L then newL c (x ++ y) else bad) s = _
    rw [bind_eq, h1, bind_ok, bind_eq, e2, bind_ok, List.length_map]
theorem add_tt (c : Bool) (s : Store) (ts us : List T) (hl : ts.length + us.length ≤ L) : addV c (.t (.lst ts)) (.t (.lst us)) s = newL c ((ts ++ us).map .t) s := by
  rw [addV_eq (us := []) (xs := ts.map .t) rfl (fun t h => by injection h with h; exact ⟨ts, h.symm⟩), if_pos (by rw [List.length_map]; exact hl), List.map_append]
@[simp] theorem newL_t (ts : List T) (s : Store) : newL false (ts.map Val.t) s = .ok (.t (.lst ts)) s := p_newLf (trees_map ts) s
theorem own_set (h : Own s0 s v ts) {j : Nat} (hj : j < ts.length) (d : T) : ∃ s', setI v (iv (j : Nat)) (.t d) s = .ok () s' ∧ Own s0 s' v (ts.set j d) := by
  obtain ⟨⟨n, rfl, hn, hc⟩, ht, hw⟩ := h
  have hlt := cell_lt hc
  refine ⟨s.set n (some (.lst ((ts.map Val.t).set j (.t d)))), ?_, ⟨n, rfl, hn, ?_⟩, take_set ht hn, hw.set ?_⟩
  · unfold setI
    dsimp only
    rw [hc]
    dsimp only
    rw [px_nat (by rw [List.length_map]; exact hj)]
  · rw [cell_set hlt, if_pos rfl, List.map_set]
  · rintro k hk
    injection hk with hk
    subst hk
    have := below_t s.length (ts.set j d)
    rw [List.map_set] at this
    exact this
theorem own_get (h : Own s0 s v ts) {j : Nat} {d : T} (hj : ts[j]? = some d) : subI v (iv (j : Nat)) s = .ok (.t d) s := by
  obtain ⟨⟨n, rfl, hn, hc⟩, ht, hw⟩ := h
  have hl : j < ts.length := (List.getElem?_eq_some_iff.mp hj).1
  unfold subI
  dsimp only
  rw [hc]
  dsimp only
  rw [px_nat (by rw [List.length_map]; exact hl)]
  dsimp only
  rw [List.getElem?_map, hj]
  rfl
theorem own_frz (h : Own s0 s v ts) : ∃ s', freeze v s = .ok (.t (.lst ts)) s' ∧ s'.take s0.length = s0 ∧ Wf s' := by
  obtain ⟨⟨n, rfl, hn, hc⟩, ht, hw⟩ := h
  refine ⟨s.set n none, ?_, take_set ht hn, hw.set (fun k hk => by simp at hk)⟩
  unfold freeze
  dsimp only
  rw [hc]
  dsimp only
  rw [trees_map]
theorem own_sfz {i : Nat} {ρ : Env} (h : Own s0 s v ts) (hi : ρ[i]? = some (some v)) : ∃ s', sFz i ρ s = .nx (ρ.set i (some (.t (.lst ts)))) s' ∧ s'.take s0.length = s0 ∧ Wf s' := by
  obtain ⟨s', h1, h2, h3⟩ := own_frz h
  refine ⟨s', ?_, h2, h3⟩
  obtain ⟨⟨n, rfl, hn, hc⟩, ht, hw⟩ := h
  unfold sFz
  rw [hi]
  dsimp only
  rw [h1]
end
theorem own_sfz2 {s0 s : Store} {v : Val} {ts : List T} {i : Nat} {ρ : Env} {o : SO} (hz : sFz i ρ s = o) (h : Own s0 s v ts) (hi : ρ[i]? = some (some v)) : ∃ s', o = .nx (ρ.set i (some (.t (.lst ts)))) s' ∧ s'.take s0.length = s0 ∧ Wf s' := by
  obtain ⟨s', h1, h2⟩ := own_sfz h hi
  exact ⟨s', by rw [← hz, h1], h2⟩
/-! ### comprehensions that draw -/
theorem b_drawN {Γ : Nat → FEnv} (B : Base Γ) (n : Nat) {r s : Store} (h : IsSt r s) {k : Nat} (hk : 0 < k) (hk2 : k ≤ 100000000) : ∃ (v : Nat) (s' : Store), v < k ∧ IsSt r s' ∧ Γ (n + 1) 75 [.loc 1, .t (.int (k : Nat))] s = .ok (.t (.int (v : Nat))) s' := by
  have h60 : (2:Int)^60 = 1152921504606846976 := by decide
  obtain ⟨v, s', a, b, c⟩ := b_draw B n h (k := (k : Nat)) (by omega) (by omega)
  exact ⟨v, s', by omega, b, c⟩
theorem p_rangeS {b : CE} {ρ : Env} {s s' : Store} {n : Nat} (h : b ρ s = .ok (iv (n : Nat)) s') (hn : n ≤ 100000000) : iRange1 b ρ s = .ok ((List.range n).map fun (k : Nat) => iv k) s' := by
  have h62 : (2:Int)^62 = 4611686018427387904 := by decide
  show (b ρ s).bind _ = _
  rw [h]
  show (if rangeOk (n : Int) = true then pure (upto 0 ((n : Int).toNat)) else bad : M (List Val)) s' = _
  rw [if_pos (by unfold rangeOk; simp; omega)]
  show R.ok (upto 0 ((n : Int).toNat)) s' = _
  rw [upto_eq, Int.toNat_natCast]
  simp only [Int.zero_add]
/-! ### displays of trees -/
@[simp] theorem newL0 (s : Store) : newL false [] s = .ok (.t (.lst [])) s := nrfl rfl
@[simp] theorem newL1 (a : T) (s : Store) : newL false [.t a] s = .ok (.t (.lst [a])) s := nrfl rfl
@[simp] theorem newT1 (a : T) (s : Store) : newT false [.t a] s = .ok (.t (.tup [a])) s := nrfl rfl
@[simp] theorem newL2 (a b : T) (s : Store) : newL false [.t a, .t b] s = .ok (.t (.lst [a, b])) s := nrfl rfl
@[simp] theorem newT2 (a b : T) (s : Store) : newT false [.t a, .t b] s = .ok (.t (.tup [a, b])) s := nrfl rfl
@[simp] theorem newL3 (a b c : T) (s : Store) : newL false [.t a, .t b, .t c] s = .ok (.t (.lst [a, b, c])) s := nrfl rfl
@[simp] theorem newT3 (a b c : T) (s : Store) : newT false [.t a, .t b, .t c] s = .ok (.t (.tup [a, b, c])) s := nrfl rfl
@[simp] theorem newL4 (a b c d : T) (s : Store) : newL false [.t a, .t b, .t c, .t d] s = .ok (.t (.lst [a, b, c, d])) s := nrfl rfl
@[simp] theorem newT4 (a b c d : T) (s : Store) : newT false [.t a, .t b, .t c, .t d] s = .ok (.t (.tup [a, b, c, d])) s := nrfl rfl
@[simp] theorem newL5 (a b c d e : T) (s : Store) : newL false [.t a, .t b, .t c, .t d, .t e] s = .ok (.t (.lst [a, b, c, d, e])) s := nrfl rfl
@[simp] theorem newT5 (a b c d e : T) (s : Store) : newT false [.t a, .t b, .t c, .t d, .t e] s = .ok (.t (.tup [a, b, c, d, e])) s := nrfl rfl
@[simp] theorem newL6 (a b c d e f : T) (s : Store) : newL false [.t a, .t b, .t c, .t d, .t e, .t f] s = .ok (.t (.lst [a, b, c, d, e, f])) s := nrfl rfl
@[simp] theorem newT6 (a b c d e f : T) (s : Store) : newT false [.t a, .t b, .t c, .t d, .t e, .t f] s = .ok (.t (.tup [a, b, c, d, e, f])) s := nrfl rfl
@[simp] theorem newL7 (a b c d e f g : T) (s : Store) : newL false [.t a, .t b, .t c, .t d, .t e, .t f, .t g] s = .ok (.t (.lst [a, b, c, d, e, f, g])) s := nrfl rfl
@[simp] theorem newT7 (a b c d e f g : T) (s : Store) : newT false [.t a, .t b, .t c, .t d, .t e, .t f, .t g] s = .ok (.t (.tup [a, b, c, d, e, f, g])) s := nrfl rfl
@[simp] theorem newL8 (a b c d e f g h : T) (s : Store) : newL false [.t a, .t b, .t c, .t d, .t e, .t f, .t g, .t h] s = .ok (.t (.lst [a, b, c, d, e, f, g, h])) s := nrfl rfl
@[simp] theorem newT8 (a b c d e f g h : T) (s : Store) : newT false [.t a, .t b, .t c, .t d, .t e, .t f, .t g, .t h] s = .ok (.t (.tup [a, b, c, d, e, f, g, h])) s := nrfl rfl
@[simp] theorem newL9 (a b c d e f g h i : T) (s : Store) : newL false [.t a, .t b, .t c, .t d, .t e, .t f, .t g, .t h, .t i] s = .ok (.t (.lst [a, b, c, d, e, f, g, h, i])) s := nrfl rfl
@[simp] theorem newT9 (a b c d e f g h i : T) (s : Store) : newT false [.t a, .t b, .t c, .t d, .t e, .t f, .t g, .t h, .t i] s = .ok (.t (.tup [a, b, c, d, e, f, g, h, i])) s := nrfl rfl
@[simp] theorem p_gTup3 (i j k : Nat) (a b c : T) (ρ : Env) (s : Store) : gTup [i, j, k] (.t (.tup [a, b, c])) ρ s = .ok (((ρ.set i (some (.t a))).set j (some (.t b))).set k (some (.t c))) s := nrfl rfl
@[simp] theorem p_gTup4 (i j k l : Nat) (a b c d : T) (ρ : Env) (s : Store) : gTup [i, j, k, l] (.t (.tup [a, b, c, d])) ρ s = .ok ((((ρ.set i (some (.t a))).set j (some (.t b))).set k (some (.t c))).set l (some (.t d))) s := nrfl rfl
/-! ### a local list beside a drawing -/
theorem wf_St {c : List Int} {m : Int} {r : Store} (h : ∀ x ∈ r, ∀ k, x = some k → k.below (r.length + 2) = true) : Wf (St c m r) := by
  unfold Wf Store.below
  rw [List.all_eq_true, St_len]
  intro x hx
  unfold St at hx
  rcases List.mem_cons.mp hx with rfl | hx
  · have := below_t (r.length + 2) (c.map .int)
    rw [List.map_map] at this
    exact this
  rcases List.mem_cons.mp hx with rfl | hx
  · simp [Cell.below, Val.below]
  · cases x with
    | none => rfl
    | some k => exact h _ hx k rfl
theorem Wf.st {c : List Int} {m : Int} {r : Store} (h : Wf (St c m r)) : ∀ x ∈ r, ∀ k, x = some k → k.below (r.length + 2) = true := by
  unfold Wf Store.below at h
  rw [List.all_eq_true, St_len] at h
  rintro x hx k rfl
  exact h (some k) (List.mem_cons_of_mem _ (List.mem_cons_of_mem _ hx))
theorem St_app {c : List Int} {m : Int} {r t : Store} : St c m r ++ t = St c m (r ++ t) := rfl
theorem take_St {c : List Int} {m : Int} {s : Store} (h : s.take (St c m []).length = St c m []) : s = St c m (s.drop 2) := by
  rw [St_len] at h
  conv => lhs; rw [← List.take_append_drop 2 s]
  have h2 : s.take 2 = St c m [] := h
  rw [h2]; rfl
end Fl
set_option Elab.async false
set_option linter.all false
set_option maxRecDepth 100000
/-! Fl: the numbers of the program. -/
namespace Fl
noncomputable section
end
/-- wrapped -/
def wrp (n : Int) : Int := (n + 2147483648).fmod 4294967296 - 2147483648
/-- a sign's number -/
def cal (x : String) (a b : Int) : Int :=
  if x = "+" then wrp (a + b) else if x = "-" then wrp (a - b) else if x = "*" then wrp (a * b) else if x = "/" then wrp (a.fdiv b) else if x = "mod" then a.fmod b
  else if x = "min" then (if b < a then b else a) else if x = "max" then (if b > a then b else a) else if x = "<" then (if a < b then 1 else 0) else (if a = b then 1 else 0)
def signs : List String := ["+", "-", "*", "/", "mod", "min", "max", "<", "="]
def calT (x : String) (b : Int) : Bool := (x == "/" || x == "mod") && b == 0
abbrev trap : Exc := ⟨"TrapError", none⟩
section
variable {Γ : Nat → FEnv}
end
end Fl
set_option Elab.async false
set_option linter.all false
set_option maxRecDepth 100000
/-! Fl: the vector instructions of the program, trees alone. -/
namespace Fl
noncomputable section
end
abbrev ni (ls : List Nat) : List Int := ls.map fun (k : Nat) => (k : Int)
theorem ni_iv (ls : List Nat) : (ls.map fun (k : Nat) => iv k) = (ni ls).map iv := by rw [List.map_map]; rfl
def rg (n : Nat) : List Int := (List.range n).map fun (k : Nat) => (k : Int)
@[simp] theorem p_gTup2 (i j : Nat) (a b : T) (ρ : Env) (s : Store) : gTup [i, j] (.t (.tup [a, b])) ρ s = .ok ((ρ.set i (some (.t a))).set j (some (.t b))) s := nrfl rfl
theorem r_assoc {α β γ : Type} (r : R α) (f : α → M β) (g : β → M γ) : (r.bind f).bind g = r.bind fun a s => (f a s).bind g := by cases r <;> rfl
@[simp] theorem p_slice2 (c : Bool) (a lo hi : CE) (ρ : Env) (s : Store) : eSlice c a (some lo) (some hi) ρ s = (a ρ s).bind fun v s => (lo ρ s).bind fun x s => (getInt x s).bind fun i s => (hi ρ s).bind fun y s => (getInt y s).bind fun j s => sliceV c v (some i) (some j) s := by
  show ((a ρ s).bind fun v s => (((lo ρ s).bind fun x s => (getInt x s).bind fun i s => R.ok (some i) s).bind fun l s => (((hi ρ s).bind fun x s => (getInt x s).bind fun i s => R.ok (some i) s).bind fun h s => sliceV c v l h s))) = _
  simp only [r_assoc, p_ok]
@[simp] theorem p_slice10 (c : Bool) (a lo : CE) (ρ : Env) (s : Store) : eSlice c a (some lo) none ρ s = (a ρ s).bind fun v s => (lo ρ s).bind fun x s => (getInt x s).bind fun i s => sliceV c v (some i) none s := by
  show ((a ρ s).bind fun v s => (((lo ρ s).bind fun x s => (getInt x s).bind fun i s => R.ok (some i) s).bind fun l s => sliceV c v l none s)) = _
  simp only [r_assoc, p_ok]
@[simp] theorem p_slice01 (c : Bool) (a hi : CE) (ρ : Env) (s : Store) : eSlice c a none (some hi) ρ s = (a ρ s).bind fun v s => (hi ρ s).bind fun x s => (getInt x s).bind fun i s => sliceV c v none (some i) s := by
  show ((a ρ s).bind fun v s => (((hi ρ s).bind fun x s => (getInt x s).bind fun i s => R.ok (some i) s).bind fun l s => sliceV c v none l s)) = _
  simp only [r_assoc, p_ok]
theorem slice_drop {α : Type} {xs : List α} {a : Nat} (h : a ≤ xs.length) : slice xs (some (a : Int)) none = xs.drop a := by
  unfold slice pyCut
  dsimp only
  rw [if_neg (by omega), show min (a : Int).toNat xs.length = a by simp; omega]
  exact List.take_of_length_le (by rw [List.length_drop]; omega)
theorem slice_take {α : Type} {xs : List α} {a : Nat} (h : a ≤ xs.length) : slice xs none (some (a : Int)) = xs.take a := by
  unfold slice pyCut
  dsimp only
  rw [if_neg (by omega), show min (a : Int).toNat xs.length = a by simp; omega]
  simp
theorem lst_sliceV (a b : Option Int) (xs : List T) (s : Store) : sliceV false (.t (.lst xs)) a b s = .ok (.t (.lst (slice xs a b))) s := by
  show (itemsL (.t (.lst xs)) >>= fun vs => newL false (slice vs a b)) s = _
  have e : itemsL (.t (.lst xs)) s = .ok (xs.map .t) s := rfl
  rw [bind_eq, e, bind_ok]
  have : slice (xs.map Val.t) a b = (slice xs a b).map Val.t := by unfold slice; rw [List.length_map, ← List.map_drop, ← List.map_take]
  rw [this, newL_t]
@[simp] theorem li_sum (xs : List Int) (s : Store) : sumV (.t (.lst (xs.map .int))) s = .ok (iv xs.sum) s := by
  show (itemsL (.t (.lst (xs.map .int))) >>= _) s = _
  rw [bind_eq, li_itemsL, bind_ok]
  show (match intsOf (xs.map iv) with | some ns => R.ok (vI ns.sum) s | none => .bad) = _
  rw [li_ints]
  rfl
/-! ### segments -/
/-- a segment's start -/
def sta (ls : List Nat) (k : Nat) : Nat := (ls.take k).sum
def countF (ls : List Nat) : List Int := ls.flatMap rg
def rep (ls : List Nat) : List Int := (List.range ls.length).flatMap fun k => (rg (ls.getD k 0)).map fun _ => (k : Int)
def pickF (ls idx : List Nat) : List Int := idx.flatMap fun i => (rg (ls.getD i 0)).map fun a => (sta ls i : Int) + a
def seg (ls : List Nat) (ns : List Int) (k : Nat) : List Int := (ns.drop (sta ls k)).take (ls.getD k 0)
def sumF (ls : List Nat) (ns : List Int) : List Int := (List.range ls.length).map fun k => wrp (seg ls ns k).sum
def plOk (ls : List Nat) (ix : List Int) : Bool := (List.range ls.length).all fun k => decide (0 ≤ ix.getD k 0) && decide (ix.getD k 0 < (ls.getD k 0 : Nat))
def placeF (ls : List Nat) (ix : List Int) : List Int := (List.range ls.length).map fun k => (sta ls k : Int) + ix.getD k 0
def zA (ls : List Nat) (k : Nat) : List Int := (rg (ls.getD k 0)).map fun a => (sta ls k : Int) + a
def zB (ls os : List Nat) (k : Nat) : List Int := (rg (os.getD k 0)).map fun a => (ls.sum : Int) + (sta os k : Int) + a
def zipF (ls os : List Nat) : List Int := (List.range ls.length).flatMap fun k => zA ls k ++ zB ls os k
def nz (x : Int) : Bool := !(x == 0)
def cnt (fl : List Int) (k : Nat) : Nat := ((fl.take k).filter nz).length
def wv (fl : List Int) (k : Nat) : Int := if nz (fl.getD k 0) = true then (cnt fl k : Nat) else (cnt fl fl.length : Nat) + (k : Int) - (cnt fl k : Nat)
def weaveF (fl : List Int) : List Int := (List.range fl.length).map (wv fl)
def calF (x : String) (a b : List Int) : List Int := (List.range a.length).map fun k => cal x (a.getD k 0) (b.getD k 0)
section
variable {Γ : Nat → FEnv}
end
end Fl
set_option Elab.async false
set_option linter.all false
set_option maxRecDepth 100000
/-! Fl: placed, woven, zipped, checked. -/
namespace Fl
section
variable {Γ : Nat → FEnv}
def rangeOkF (a : List Int) : Bool := a.all fun x => decide (0 ≤ x) && decide (x ≤ 1000)
end
end Fl
set_option Elab.async false
set_option linter.all false
set_option maxRecDepth 100000
/-! Fl: execute, by what it gives. -/
namespace Fl
/-- what a run ends in: told, a trap, not told -/
inductive Out (α : Type) where
  | ok (a : α)
  | trap
  | bad
def Out.bind {α β : Type} (o : Out α) (k : α → Out β) : Out β := match o with
  | .ok a => k a
  | .trap => .trap
  | .bad => .bad
abbrev Vec := List Int
/-- numbers that are not negative -/
def nats (a : Vec) : Option (List Nat) := if a.all (fun x => decide (0 ≤ x)) = true then some (a.map Int.toNat) else none
def inrs (a : Vec) : Bool := a.all fun i => decide (-2147483648 ≤ i) && decide (i ≤ 2147483647)
def gd (c : Bool) (o : Out Vec) : Out Vec := if c = true then o else .bad
def sh (a : Vec) : Bool := decide (a.length ≤ 8000000)
def fillX (d : T) (i : List Vec) : Out Vec := match d, i with
  | .int c, [a] => gd (sh a) (.ok (List.replicate a.length c))
  | _, _ => .bad
def calcX (d : T) (i : List Vec) : Out Vec := match d, i with
  | .str x, [a, b] => gd (decide (x ∈ signs) && (inrs a && (inrs b && decide (b.length = a.length)))) (if (List.range a.length).all (fun k => !calT x (b.getD k 0)) = true then .ok (calF x a b) else .trap)
  | _, _ => .bad
def takeX (d : T) (i : List Vec) : Out Vec := match d, i with
  | .non, [a, b] => match nats b with
    | some ix => gd (ix.all fun k => decide (k < a.length)) (.ok (ix.map fun k => a.getD k 0))
    | none => .bad
  | _, _ => .bad
def pickX (d : T) (i : List Vec) : Out Vec := match d, i with
  | .non, [a, b] => match nats a, nats b with
    | some ls, some ix => gd (decide (ls.length ≤ 8000000) && (decide (ls.sum ≤ 8000000) && ((ix.all fun k => decide (k < ls.length)) && decide ((pickF ls ix).length ≤ 8000000)))) (.ok (pickF ls ix))
    | _, _ => .bad
  | _, _ => .bad
def repX (d : T) (i : List Vec) : Out Vec := match d, i with
  | .non, [a] => match nats a with
    | some ls => gd (decide (ls.sum ≤ 8000000)) (.ok (rep ls))
    | none => .bad
  | _, _ => .bad
def countX (d : T) (i : List Vec) : Out Vec := match d, i with
  | .non, [a] => match nats a with
    | some ls => gd (decide (ls.sum ≤ 8000000)) (.ok (countF ls))
    | none => .bad
  | _, _ => .bad
def whF (t : Bool) (a : Vec) : Vec := ((List.range a.length).filter fun k => nz (a.getD k 0) == t).map fun (k : Nat) => (k : Int)
def whereX (d : T) (i : List Vec) : Out Vec := match d, i with
  | .bl t, [a] => .ok (whF t a)
  | _, _ => .bad
def weaveX (d : T) (i : List Vec) : Out Vec := match d, i with
  | .non, [a] => gd (sh a) (.ok (weaveF a))
  | _, _ => .bad
def joinX (d : T) (i : List Vec) : Out Vec := match d, i with
  | .non, [a, b] => gd (sh a && sh b) (.ok (a ++ b))
  | _, _ => .bad
def sumsX (d : T) (i : List Vec) : Out Vec := match d, i with
  | .non, [a, b] => match nats a with
    | some ls => gd (decide (ls.length ≤ 8000000) && decide (b.length = ls.sum)) (.ok (sumF ls b))
    | none => .bad
  | _, _ => .bad
def zipX (d : T) (i : List Vec) : Out Vec := match d, i with
  | .non, [a, b] => match nats a, nats b with
    | some ls, some os => gd (decide (ls.length ≤ 8000000) && (decide (ls.sum ≤ 8000000) && (decide (os.sum ≤ 8000000) && decide (os.length = ls.length)))) (.ok (zipF ls os))
    | _, _ => .bad
  | _, _ => .bad
def placeX (d : T) (i : List Vec) : Out Vec := match d, i with
  | .non, [a, b] => match nats a with
    | some ls => gd (decide (ls.length ≤ 8000000) && decide (b.length = ls.length)) (if plOk ls b = true then .ok (placeF ls b) else .trap)
    | none => .bad
  | _, _ => .bad
def rangeX (d : T) (i : List Vec) : Out Vec := match d, i with
  | .non, [a] => if rangeOkF a = true then .ok a else .trap
  | _, _ => .bad
def sameX (d : T) (i : List Vec) : Out Vec := match d, i with
  | .non, [a, b] => if a = b then .ok a else .trap
  | _, _ => .bad
def flF (a : Vec) : Vec := a.map fun x => if nz x = true then 1 else 0
def flagsX (d : T) (i : List Vec) : Out Vec := match d, i with
  | .non, [a] => .ok (flF a)
  | _, _ => .bad
/-- an instruction by its name -/
def exec (x : String) (d : T) (i : List Vec) : Out Vec :=
  if x = "fill" then fillX d i else if x = "calc" then calcX d i else if x = "take" then takeX d i else if x = "pick" then pickX d i else if x = "repeat" then repX d i else if x = "count" then countX d i
  else if x = "where" then whereX d i else if x = "weave" then weaveX d i else if x = "join" then joinX d i else if x = "sums" then sumsX d i else if x = "zip" then zipX d i else if x = "place" then placeX d i
  else if x = "flags" then flagsX d i else if x = "range" then rangeX d i else if x = "same" then sameX d i else .bad
abbrev lv (i : List Vec) : T := .lst (i.map li)
section
variable {Γ : Nat → FEnv}
theorem i1 (a : Vec) (s : Store) : subI (.t (.lst [li a])) (.t (.int 0)) s = .ok (.t (li a)) s := rfl
end
end Fl
set_option Elab.async false
set_option linter.all false
set_option maxRecDepth 100000
/-! Fl: execute does what exec tells. -/
namespace Fl
section
variable {Γ : Nat → FEnv}
end
end Fl
set_option Elab.async false
set_option linter.all false
set_option maxRecDepth 100000
/-! Fl: kinds, values, layouts of the program. -/
namespace Fl
noncomputable section
def g_vectors_of (G : FEnv) : SM := sSeq (sIf (tEq (e2 subI (eVar 0) (eC (.int 0))) (eC (.str "num"))) (sRet (eLst false [e1 (listV false) (eVar 1)])) (sNil)) (sSeq (sIf (tEq (e2 subI (eVar 0) (eC (.int 0))) (eC (.str "pair"))) (sRet (e2 (addV false) (eCall G 22 [e2 subI (eVar 0) (eC (.int 1)), eComp false [2] (iV (eVar 1)) (gVar 2) none (e2 subI (eVar 2) (eC (.int 0)))]) (eCall G 22 [e2 subI (eVar 0) (eC (.int 2)), eComp false [2] (iV (eVar 1)) (gVar 2) none (e2 subI (eVar 2) (eC (.int 1)))]))) (sNil)) (sRet (e2 (addV false) (eLst false [eComp false [3] (iV (eVar 1)) (gVar 3) none (e1 lenV (eVar 3))]) (eCall G 22 [e2 subI (eVar 0) (eC (.int 1)), eComp2 false [3, 4] [4] (iV (eVar 1)) (gVar 3) none (iV (eVar 3)) (gVar 4) none (eVar 4)]))))
def g_width (G : FEnv) : SM := sSeq (sIf (tEq (e2 subI (eVar 0) (eC (.int 0))) (eC (.str "num"))) (sRet (eC (.int 1))) (sNil)) (sSeq (sIf (tEq (e2 subI (eVar 0) (eC (.int 0))) (eC (.str "pair"))) (sRet (e2 (addV false) (eCall G 23 [e2 subI (eVar 0) (eC (.int 1))]) (eCall G 23 [e2 subI (eVar 0) (eC (.int 2))]))) (sNil)) (sRet (e2 (addV false) (eC (.int 1)) (eCall G 23 [e2 subI (eVar 0) (eC (.int 1))]))))
def g_values_of (G : FEnv) : SM := sSeq (sIf (tEq (e2 subI (eVar 0) (eC (.int 0))) (eC (.str "num"))) (sRet (e1 (listV false) (e2 subI (eVar 1) (eC (.int 0))))) (sNil)) (sSeq (sIf (tEq (e2 subI (eVar 0) (eC (.int 0))) (eC (.str "pair"))) (sSeq (sAsg (eCall G 23 [e2 subI (eVar 0) (eC (.int 1))]) (gVar 2)) (sSeq (sAsg (eCall G 24 [e2 subI (eVar 0) (eC (.int 2)), eSlice false (eVar 1) (some (eVar 2)) none]) (gVar 3)) (sRet (eComp false [4, 5] (iEnum (eCall G 24 [e2 subI (eVar 0) (eC (.int 1)), eSlice false (eVar 1) none (some (eVar 2))])) (gTup [4, 5]) none (eTup false [eVar 5, e2 subI (eVar 3) (eVar 4)]))))) (sNil)) (sSeq (sAsg (eCall G 24 [e2 subI (eVar 0) (eC (.int 1)), eSlice false (eVar 1) (some (eC (.int 1))) none]) (gVar 6)) (sSeq (sAsg (eLst true []) (gVar 7)) (sSeq (sAsg (eC (.int 0)) (gVar 4)) (sSeq (sSeq (sFor (iV (e2 subI (eVar 1) (eC (.int 0)))) (gVar 8) (sSeq (sExpr (e2c lstC appendV (eVar 7) (eSlice false (eVar 6) (some (eVar 4)) (some (e2 (addV false) (eVar 4) (eVar 8)))))) (sAsg (e2 (addV false) (eVar 4) (eVar 8)) (gVar 4)))) (sFz 7)) (sRet (e1 freeze (eVar 7))))))))
end
structure BaseLv (Γ : Nat → FEnv) : Prop where
  vectors_of : ∀ n, Γ (n + 1) 22 = mkFn 5 2 (g_vectors_of (Γ n))
  width : ∀ n, Γ (n + 1) 23 = mkFn 1 1 (g_width (Γ n))
structure BaseL (Γ : Nat → FEnv) : Prop where
  vectors_of : ∀ n, Γ (n + 1) 22 = mkFn 5 2 (g_vectors_of (Γ n))
  width : ∀ n, Γ (n + 1) 23 = mkFn 1 1 (g_width (Γ n))
  values_of : ∀ n, Γ (n + 1) 24 = mkFn 9 2 (g_values_of (Γ n))
theorem BaseL.lv {Γ : Nat → FEnv} (B : BaseL Γ) : BaseLv Γ := ⟨B.vectors_of, B.width⟩
inductive Kd where
  | num
  | pair (a b : Kd)
  | seq (a : Kd)
  deriving DecidableEq
namespace Kd
def t : Kd → T
  | num => .tup [.str "num"]
  | pair a b => .tup [.str "pair", a.t, b.t]
  | seq a => .tup [.str "seq", a.t]
/-- the values of a kind -/
@[reducible] def V : Kd → Type
  | num => Int
  | pair a b => a.V × b.V
  | seq a => List a.V
/-- .. as trees -/
def e : (k : Kd) → k.V → T
  | num, i => .int i
  | pair a b, p => .tup [a.e p.1, b.e p.2]
  | seq a, xs => .lst (List.map a.e xs)
def vecs : (k : Kd) → List k.V → List Vec
  | num, xs => [xs]
  | pair a b, xs => a.vecs (xs.map Prod.fst) ++ b.vecs (xs.map Prod.snd)
  | seq a, xs => ni (List.map List.length xs) :: a.vecs (List.flatten xs)
theorem vecs_hd : ∀ (k : Kd) (xs : List k.V), ∃ v r, k.vecs xs = v :: r ∧ v.length = xs.length
  | num, xs => ⟨xs, [], rfl, rfl⟩
  | pair a b, xs => by
    obtain ⟨v, r, h1, h2⟩ := vecs_hd a (xs.map Prod.fst)
    exact ⟨v, r ++ b.vecs (xs.map Prod.snd), by simp only [vecs, h1, List.cons_append], by rw [h2, List.length_map]⟩
  | seq a, xs => ⟨_, _, rfl, by simp [ni]⟩
/-- no vector is too long -/
def Fit (k : Kd) (xs : List k.V) : Prop := ∀ v ∈ k.vecs xs, v.length ≤ 8000000
theorem Fit.len {k : Kd} {xs : List k.V} (h : k.Fit xs) : xs.length ≤ 8000000 := by
  obtain ⟨v, r, h1, h2⟩ := k.vecs_hd xs
  rw [← h2]
  exact h v (by rw [h1]; exact List.mem_cons_self)
theorem Fit.fst {a b : Kd} {xs : List (pair a b).V} (h : (pair a b).Fit xs) : a.Fit (xs.map Prod.fst) := fun v hv => h v (List.mem_append_left _ hv)
theorem Fit.snd {a b : Kd} {xs : List (pair a b).V} (h : (pair a b).Fit xs) : b.Fit (xs.map Prod.snd) := fun v hv => h v (List.mem_append_right _ hv)
end Kd
@[simp] theorem k_num (s : Store) : subI (.t (Kd.num.t)) (.t (.int 0)) s = .ok (.t (.str "num")) s := nrfl rfl
@[simp] theorem k_pair (a b : Kd) (s : Store) : subI (.t ((Kd.pair a b).t)) (.t (.int 0)) s = .ok (.t (.str "pair")) s := nrfl rfl
@[simp] theorem k_pair1 (a b : Kd) (s : Store) : subI (.t ((Kd.pair a b).t)) (.t (.int 1)) s = .ok (.t a.t) s := nrfl rfl
@[simp] theorem k_pair2 (a b : Kd) (s : Store) : subI (.t ((Kd.pair a b).t)) (.t (.int 2)) s = .ok (.t b.t) s := nrfl rfl
@[simp] theorem k_seq (a : Kd) (s : Store) : subI (.t ((Kd.seq a).t)) (.t (.int 0)) s = .ok (.t (.str "seq")) s := nrfl rfl
@[simp] theorem k_seq1 (a : Kd) (s : Store) : subI (.t ((Kd.seq a).t)) (.t (.int 1)) s = .ok (.t a.t) s := nrfl rfl
theorem lst_items (ts : List T) (s : Store) : items (.t (.lst ts)) s = .ok (ts.map .t) s := rfl
theorem listV_t (ts : List T) (s : Store) : listV false (.t (.lst ts)) s = .ok (.t (.lst ts)) s := by
  show (items (.t (.lst ts)) >>= fun vs => newL false vs) s = _
  rw [bind_eq, lst_items, bind_ok, newL_t]
theorem lst_iter (ts : List T) (s : Store) : iterOf (.t (.lst ts)) s = .ok (ts.map .t) s := rfl
/-- a comprehension over trees that gives trees -/
theorem comp_tt {β : Type} {i : Nat} {f : CE} {ρ : Env} {s : Store} (ew : β → T) (h : β → T) (vs : List β) (hh : ∀ v ∈ vs, f (ρ.set i (some (.t (ew v)))) s = .ok (.t (h v)) s) : (compL (gVar i) none f ρ ((vs.map ew).map .t) s).bind (newL false) = .ok (.t (.lst (vs.map h))) s := by
  rw [List.map_map, comp_map (s := s) (Val.t ∘ ew) (fun v => .t (h v)) vs (fun v hv => ⟨_, rfl, hh v hv⟩), p_ok, show (vs.map fun v => Val.t (h v)) = (vs.map h).map .t by rw [List.map_map]; rfl, newL_t]
section
variable {Γ : Nat → FEnv}
def Kd.dflt : (k : Kd) → k.V
  | .num => (0 : Int)
  | .pair a b => (a.dflt, b.dflt)
  | .seq _ => ([] : List _)
instance (k : Kd) : Inhabited k.V := ⟨k.dflt⟩
end
end Fl
set_option Elab.async false
set_option linter.all false
set_option maxRecDepth 100000
/-! Fl: the machine of the program. -/
namespace Fl
noncomputable section
end
noncomputable section
def g_Machine___init__ (G : FEnv) : SM := sSeq (sAttr "blocks" (eVar 1) (eVar 0)) (sSeq (sAttr "steps" (eC (.int 0)) (eVar 0)) (sSeq (sAttr "touches" (eC (.int 0)) (eVar 0)) (sAttr "depth" (eC (.int 0)) (eVar 0))))
def g_Machine_call (G : FEnv) : SM := sSeq (sAsg (eCall G 3 [e1 (attrI "blocks") (eVar 0), eVar 1]) (gVar 4)) (sSeq (sAttr "depth" (e2 (addV false) (e1 (attrI "depth") (eVar 0)) (eC (.int 1))) (eVar 0)) (sSeq (sIf (tGt (e1 (attrI "depth") (eVar 0)) (eC (.int 40))) (sRaise "TrapError") (sNil)) (sSeq (sAsg (eDct true [(eC (.int 0), e1 (listV false) (eVar 2))]) (gVar 5)) (sSeq (sFor (iEnum (eVar 3)) (gTup [6, 7]) (sSub (e1 (listV false) (eVar 7)) (eVar 5) (e2 (addV false) (eVar 6) (eC (.int 1))))) (sSeq (sSeq (sFor (iV (e2 subI (eVar 4) (eC (.int 4)))) (gTup [8, 9, 10, 11]) (sSeq (sAsg (eComp false [14] (iV (eVar 10)) (gVar 14) none (e2 subI (eVar 5) (eVar 14))) (gVar 12)) (sSeq (sAttr "steps" (e2 (addV false) (e1 (attrI "steps") (eVar 0)) (eC (.int 1))) (eVar 0)) (sIf (tEq (eVar 8) (eC (.str "call"))) (sFor (iEnum (eMethI G "Machine" "nested" 51 (eVar 0) [eVar 9, eVar 12])) (gTup [6, 7]) (sSub (eVar 7) (eVar 5) (e2 subI (eVar 11) (eVar 6)))) (sSeq (sAsg (eCall G 34 [eVar 8, eVar 9, eVar 12]) (gVar 13)) (sSeq (sAttr "touches" (e2 (addV false) (e2 (addV false) (e1 (attrI "touches") (eVar 0)) (e1 sumV (eComp false [7] (iV (eVar 12)) (gVar 7) none (e1 lenV (eVar 7))))) (e1 lenV (eVar 13))) (eVar 0)) (sSub (eVar 13) (eVar 5) (e2 subI (eVar 11) (eC (.int 0)))))))))) (sFz 5)) (sSeq (sAttr "depth" (e2 subV (e1 (attrI "depth") (eVar 0)) (eC (.int 1))) (eVar 0)) (sRet (eComp false [14] (iV (e2 subI (eVar 4) (eC (.int 5)))) (gVar 14) none (e1 (listV false) (e2 subI (eVar 5) (eVar 14)))))))))))
def g_Machine_nested (G : FEnv) : SM := sSeq (sIf (tNot (tTruth (e2 subI (eVar 2) (eC (.int 0))))) (sRet (eCompR false [3] (iRange1 (eCall G 23 [e2 subI (eCall G 3 [e1 (attrI "blocks") (eVar 0), eVar 1]) (eC (.int 3))])) (gVar 3) none (eLst false []))) (sNil)) (sRet (eMethI G "Machine" "call" 50 (eVar 0) [eVar 1, e2 subI (eVar 2) (eC (.int 0)), eSlice false (eVar 2) (some (eC (.int 1))) none]))
def g_run (G : FEnv) : SM := sSeq (sAsg (eCall G 3 [eVar 0, eVar 1]) (gVar 3)) (sSeq (sAsg (eNew G "Machine" 49 [eVar 0]) (gVar 4)) (sSeq (sAsg (eCall G 22 [e2 subI (eVar 3) (eC (.int 2)), eVar 2]) (gVar 5)) (sSeq (sAsg (eMethI G "Machine" "nested" 51 (eVar 4) [eVar 1, e2 (addV false) (eLst false [e1 (rangeL false) (e1 lenV (eVar 2))]) (eVar 5)]) (gVar 6)) (sRet (eTup false [eCall G 24 [e2 subI (eVar 3) (eC (.int 3)), eVar 6], e1 (attrI "steps") (eVar 4), e1 (attrI "touches") (eVar 4)])))))
end
structure BaseMi (Γ : Nat → FEnv) : Prop where
  Machine___init__ : ∀ n, Γ (n + 2) 49 = mkFn 2 2 (g_Machine___init__ (Γ (n + 1)))
  Machine_call : ∀ n, Γ (n + 1) 50 = mkFn 15 4 (g_Machine_call (Γ n))
  Machine_nested : ∀ n, Γ (n + 1) 51 = mkFn 4 3 (g_Machine_nested (Γ n))
structure BaseMc (Γ : Nat → FEnv) : Prop where
  Machine___init__ : ∀ n, Γ (n + 2) 49 = mkFn 2 2 (g_Machine___init__ (Γ (n + 1)))
  Machine_call : ∀ n, Γ (n + 1) 50 = mkFn 15 4 (g_Machine_call (Γ n))
  Machine_nested : ∀ n, Γ (n + 1) 51 = mkFn 4 3 (g_Machine_nested (Γ n))
  run : ∀ n, Γ (n + 1) 52 = mkFn 7 3 (g_run (Γ n))
theorem BaseMc.mi {Γ : Nat → FEnv} (M : BaseMc Γ) : BaseMi Γ := ⟨M.Machine___init__, M.Machine_call, M.Machine_nested⟩
structure Ins where
  nm : String
  ex : T
  ins : List Nat
  outs : List Nat
def Ins.t (i : Ins) : T := .tup [.str i.nm, i.ex, li (ni i.ins), li (ni i.outs)]
structure Blk where
  nm : String
  giv : Kd
  res : Kd
  code : List Ins
  outs : List Nat
def Blk.t (b : Blk) : T := .tup [.str "block", .str b.nm, b.giv.t, b.res.t, .lst (b.code.map Ins.t), li (ni b.outs)]
abbrev Regs := List (Nat × Vec)
def rget : Regs → Nat → Option Vec
  | [], _ => none
  | (j, v) :: r, k => if j = k then some v else rget r k
def rput (kv : Regs) (k : Nat) (v : Vec) : Regs := if kv.any (fun p => decide (p.1 = k)) then kv.map fun p => if p.1 = k then (p.1, v) else p else kv ++ [(k, v)]
def rv (kv : Regs) : List (Key × Val) := kv.map fun p => (Key.i (p.1 : Nat), Val.t (li p.2))
theorem rput_len (kv : Regs) (k : Nat) (v : Vec) : (rput kv k v).length ≤ kv.length + 1 := by
  unfold rput
  split
  · rw [List.length_map]; omega
  · rw [List.length_append]; simp
/-! ### loops that may stop -/
/-! ### find -/
/-! ### the instance -/
section
variable {s : Store} {q : Nat} {bT : T} {st tc dp : Int}
end
/-- a def that changes one cell of the caller -/
theorem fn_tS {N ps : Nat} {b : SM} {args : List Val} {s s' s1 : Store} {d : T} (h : b (start N args) s = .rt (.t d) s') (hl : args.length = ps) (hw : Wf s1) (h1 : s1.length = s.length) (hs : s'.take s.length = s1) : mkFn N ps b args s = .ok (.t d) s1 := by
  unfold mkFn
  rw [if_pos hl, h]
  show R.ok (Val.t d) (trim s.length s') = _
  unfold trim
  rw [hs, if_pos (by rw [← h1]; exact hw)]
end Fl
set_option Elab.async false
set_option linter.all false
set_option maxRecDepth 100000
/-! Fl: a run of the machine. -/
namespace Fl
abbrev bsT (bs : List Blk) : T := .lst (bs.map Blk.t)
@[simp] theorem b_nm (b : Blk) (s : Store) : subI (.t b.t) (.t (.int 1)) s = .ok (.t (.str b.nm)) s := nrfl rfl
@[simp] theorem b_giv (b : Blk) (s : Store) : subI (.t b.t) (.t (.int 2)) s = .ok (.t b.giv.t) s := nrfl rfl
@[simp] theorem b_res (b : Blk) (s : Store) : subI (.t b.t) (.t (.int 3)) s = .ok (.t b.res.t) s := nrfl rfl
@[simp] theorem b_code (b : Blk) (s : Store) : subI (.t b.t) (.t (.int 4)) s = .ok (.t (.lst (b.code.map Ins.t))) s := nrfl rfl
@[simp] theorem b_outs (b : Blk) (s : Store) : subI (.t b.t) (.t (.int 5)) s = .ok (.t (li (ni b.outs))) s := nrfl rfl
section
variable {Γ : Nat → FEnv}
end
end Fl
set_option Elab.async false
set_option linter.all false
set_option maxRecDepth 100000
/-! Fl: a run of the machine. -/
namespace Fl
section
variable {Γ : Nat → FEnv}
end
end Fl
set_option Elab.async false
set_option linter.all false
set_option maxRecDepth 100000
/-! Fl: a call of the machine, a whole run. -/
namespace Fl
section
variable {Γ : Nat → FEnv}
end
end Fl
set_option Elab.async false
set_option linter.all false
set_option maxRecDepth 100000
/-! Fl: run. -/
namespace Fl
section
variable {Γ : Nat → FEnv}
end
end Fl
set_option Elab.async false
set_option linter.all false
set_option maxRecDepth 100000
/-! Fl: the drawing of code and of blocks. -/
namespace Fl
noncomputable section
def g_w_code (G : FEnv) : SM := sSeq (sAsg (eLst true []) (gVar 2)) (sSeq (sAsg (eCompR true [4] (iRange1 (eVar 1)) (gVar 4) none (eVar 4)) (gVar 3)) (sSeq (sAsg (eVar 1) (gVar 5)) (sSeq (sSeq (sSeq (sFor (iRange1 (eCall G 75 [eVar 0, eC (.int 12)])) (gVar 4) (sSeq (sAsg (eCall G 76 [eVar 0, eLst false [eC (.str "fill"), eC (.str "calc"), eC (.str "calc"), eC (.str "flags"), eC (.str "range"), eC (.str "same"), eC (.str "join"), eC (.str "calc"), eC (.str "div")]]) (gVar 6)) (sSeq (sAsg (eCall G 76 [eVar 0, eVar 3]) (gVar 7)) (sSeq (sAsg (eCall G 76 [eVar 0, eVar 3]) (gVar 8)) (sSeq (sIf (tEq (eVar 6) (eC (.str "fill"))) (sExpr (e2c lstC appendV (eVar 2) (eTup false [eC (.str "fill"), eCall G 75 [eVar 0, eC (.int 3)], eLst false [eVar 7], eLst false [eVar 5]]))) (sIf (tEq (eVar 6) (eC (.str "calc"))) (sExpr (e2c lstC appendV (eVar 2) (eTup false [eC (.str "calc"), eCall G 76 [eVar 0, eLst false [eC (.str "+"), eC (.str "-"), eC (.str "*"), eC (.str "<"), eC (.str "=")]], eLst false [eVar 7, eVar 8], eLst false [eVar 5]]))) (sIf (tEq (eVar 6) (eC (.str "div"))) (sExpr (e2c lstC appendV (eVar 2) (eTup false [eC (.str "calc"), eCall G 76 [eVar 0, eLst false [eC (.str "/"), eC (.str "mod")]], eLst false [eVar 7, eVar 8], eLst false [eVar 5]]))) (sIf (tEq (eVar 6) (eC (.str "join"))) (sSeq (sExpr (e2c lstC appendV (eVar 2) (eTup false [eC (.str "join"), eC .non, eLst false [eVar 7, eVar 8], eLst false [eVar 5]]))) (sSeq (sExpr (e2c lstC appendV (eVar 2) (eTup false [eC (.str "fill"), eC (.int 1), eLst false [eVar 7], eLst false [e2 (addV false) (eVar 5) (eC (.int 1))]]))) (sAsg (e2 (addV false) (eVar 5) (eC (.int 1))) (gVar 5)))) (sIf (tEq (eVar 6) (eC (.str "same"))) (sExpr (e2c lstC appendV (eVar 2) (eTup false [eC (.str "same"), eC .non, eLst false [eVar 7, eVar 8], eLst false [eVar 5]]))) (sExpr (e2c lstC appendV (eVar 2) (eTup false [eVar 6, eC .non, eLst false [eVar 7], eLst false [eVar 5]])))))))) (sSeq (sExpr (e2c lstC appendV (eVar 3) (eVar 5))) (sSeq (sAsg (e2 (addV false) (eVar 5) (eC (.int 1))) (gVar 5)) (sIf (tAnd (tEq (eCall G 75 [eVar 0, eC (.int 4)]) (eC (.int 0))) (tGt (e1 lenV (eVar 2)) (eC (.int 0)))) (sSeq (sAsg (eCall G 76 [eVar 0, eVar 2]) (gVar 9)) (sSeq (sExpr (e2c lstC appendV (eVar 2) (eTup false [e2 subI (eVar 9) (eC (.int 0)), e2 subI (eVar 9) (eC (.int 1)), e1 (listV false) (e2 subI (eVar 9) (eC (.int 2))), eLst false [eVar 5]]))) (sAsg (e2 (addV false) (eVar 5) (eC (.int 1))) (gVar 5)))) (sNil))))))))) (sFz 2)) (sFz 3)) (sRet (eLst false [eVar 2, eVar 3])))))
def g_w_blocks (G : FEnv) : SM := sSeq (sAsg (eCall G 112 [eVar 0, eC (.int 3)]) (gTup [1, 2])) (sSeq (sAsg (eLst false [eCall G 76 [eVar 0, eVar 2]]) (gVar 3)) (sSeq (sAsg (eTup false [eC (.str "pair"), eTup false [eC (.str "num")], eTup false [eC (.str "num")]]) (gVar 4)) (sSeq (sAsg (eTup false [eC (.str "block"), eC (.str "main"), eVar 4, eTup false [eC (.str "num")], eVar 1, eVar 3]) (gVar 5)) (sSeq (sAsg (eCall G 112 [eVar 0, eC (.int 3)]) (gVar 6)) (sSeq (sAsg (eTup false [eC (.str "block"), eC (.str "other"), eVar 4, eTup false [eC (.str "num")], e2 subI (eVar 6) (eC (.int 0)), eLst false [eCall G 76 [eVar 0, e2 subI (eVar 6) (eC (.int 1))]]]) (gVar 7)) (sSeq (sAsg (e2 (addV false) (eC (.int 1)) (e1 maxV (e2 (addV false) (e2 (addV false) (eLst false [eC (.int 0)]) (eComp false [9] (iV (eVar 1)) (gVar 9) none (e2 subI (e2 subI (eVar 9) (eC (.int 3))) (eC (.int 0))))) (eLst false [eC (.int 2)])))) (gVar 8)) (sSeq (sIf (tEq (eCall G 75 [eVar 0, eC (.int 2)]) (eC (.int 0))) (sSeq (sAsg (eTup false [eC (.str "call"), eC (.str "other"), eLst false [eC (.int 0), eCall G 76 [eVar 0, eVar 2], eCall G 76 [eVar 0, eVar 2]], eLst false [eVar 8]]) (gVar 10)) (sAsg (eTup false [eC (.str "block"), eC (.str "main"), eVar 4, eTup false [eC (.str "num")], e2 (addV false) (eVar 1) (eLst false [eVar 10]), eLst false [eCall G 76 [eVar 0, eLst false [eVar 8, e2 subI (eVar 3) (eC (.int 0))]]]]) (gVar 5))) (sNil)) (sRet (eLst false [eVar 5, eVar 7])))))))))
end
structure BaseC (Γ : Nat → FEnv) : Prop where
  w_code : ∀ n, Γ (n + 1) 112 = mkFn 10 2 (g_w_code (Γ n))
  w_blocks : ∀ n, Γ (n + 1) 113 = mkFn 11 1 (g_w_blocks (Γ n))
/-- the instructions that are drawn -/
inductive Frm : Ins → Prop
  | fill (k : Nat) (h : k < 3) (a : Nat) (os : List Nat) : Frm ⟨"fill", .int (k : Nat), [a], os⟩
  | flags (a : Nat) (os : List Nat) : Frm ⟨"flags", .non, [a], os⟩
  | range (a : Nat) (os : List Nat) : Frm ⟨"range", .non, [a], os⟩
  | calc (x : String) (h : x ∈ ["+", "-", "*", "<", "=", "/", "mod"]) (a b : Nat) (os : List Nat) : Frm ⟨"calc", .str x, [a, b], os⟩
  | same (a b : Nat) (os : List Nat) : Frm ⟨"same", .non, [a, b], os⟩
  | join (a b : Nat) (os : List Nat) : Frm ⟨"join", .non, [a, b], os⟩
theorem Frm.outs {i : Ins} (h : Frm i) (os : List Nat) : Frm { i with outs := os } := by
  cases h
  · exact .fill _ ‹_› _ _
  · exact .flags _ _
  · exact .range _ _
  · exact .calc _ ‹_› _ _ _
  · exact .same _ _ _
  · exact .join _ _ _
structure Cok (code : List Ins) (safe : List Nat) : Prop where
  frm : ∀ i ∈ code, Frm i
  out : ∀ k i, code[k]? = some i → i.outs = [3 + k]
  ins : ∀ k i, code[k]? = some i → ∀ r ∈ i.ins, r ∈ safe ∧ r < 3 + k
  saf : ∀ r ∈ safe, r < 3 + code.length
  nj : ∀ k i, code[k]? = some i → 3 + k ∈ safe → i.nm ≠ "join"
  z : 0 ∈ safe ∧ 1 ∈ safe ∧ 2 ∈ safe
theorem Cok.add {code : List Ins} {safe : List Nat} (h : Cok code safe) {i : Ins} (hf : Frm i) (ho : i.outs = [3 + code.length]) (hi : ∀ r ∈ i.ins, r ∈ safe) : Cok (code ++ [i]) safe := by
  have get : ∀ k j, (code ++ [i])[k]? = some j → code[k]? = some j ∨ (k = code.length ∧ j = i) := fun k j e => by
    rcases Nat.lt_or_ge k code.length with hk | hk
    · rw [List.getElem?_append_left hk] at e
      exact .inl e
    · rw [List.getElem?_append_right hk] at e
      obtain ⟨hlt, e⟩ := List.getElem?_eq_some_iff.mp e
      have : k - code.length = 0 := by simpa using hlt
      refine .inr ⟨by omega, ?_⟩
      rw [← e]
      simp
  refine ⟨fun j hj => ?_, fun k j e => ?_, fun k j e r hr => ?_, fun r hr => ?_, fun k j e hs => ?_, h.z⟩
  · rcases List.mem_append.mp hj with hj | hj
    · exact h.frm j hj
    · rw [List.mem_singleton.mp hj]; exact hf
  · rcases get k j e with e | ⟨rfl, rfl⟩
    · exact h.out k j e
    · exact ho
  · rcases get k j e with e | ⟨rfl, rfl⟩
    · exact h.ins k j e r hr
    · exact ⟨hi r hr, h.saf r (hi r hr)⟩
  · have := h.saf r hr
    rw [List.length_append, List.length_singleton]; omega
  · rcases get k j e with e | ⟨rfl, rfl⟩
    · exact h.nj k j e hs
    · have := h.saf _ hs
      omega
theorem Cok.safe {code : List Ins} {safe : List Nat} (h : Cok code safe) {n : Nat} (hn : code.length = n + 1) (hj : ∀ i, code[n]? = some i → i.nm ≠ "join") : Cok code (safe ++ [3 + n]) := by
  refine ⟨h.frm, h.out, fun k j e r hr => ?_, fun r hr => ?_, fun k j e hs => ?_, by simp [h.z]⟩
  · obtain ⟨a, b⟩ := h.ins k j e r hr
    exact ⟨List.mem_append_left _ a, b⟩
  · rcases List.mem_append.mp hr with hr | hr
    · exact h.saf r hr
    · rw [List.mem_singleton.mp hr]; omega
  · rcases List.mem_append.mp hs with hs | hs
    · exact h.nj k j e hs
    · have : k = n := by have := List.mem_singleton.mp hs; omega
      subst this
      exact hj j e
theorem Cok.init : Cok [] [0, 1, 2] := ⟨fun _ h => absurd h (by simp), fun _ _ h => by simp at h, fun _ _ h => by simp at h, fun r h => by simp at h ⊢; omega, fun _ _ h => by simp at h, by simp⟩
/-- two local lists under way: the code, the registers -/
abbrev Cd (r : Store) (code : List Ins) (safe : List Nat) : Store := r ++ [some (.lst ((code.map Ins.t).map .t)), some (.lst (safe.map fun k => iv (k : Nat)))]
theorem cd_c0 {r s : Store} {code : List Ins} {safe : List Nat} (h : IsSt (Cd r code safe) s) : s.cell (r.length + 2) = some (.lst ((code.map Ins.t).map .t)) := by
  obtain ⟨c, m, _, rfl⟩ := h
  unfold Store.cell
  show (Cd r code safe)[r.length]?.join = _
  rw [List.getElem?_append_right (Nat.le_refl _), Nat.sub_self]
  rfl
theorem cd_c1 {r s : Store} {code : List Ins} {safe : List Nat} (h : IsSt (Cd r code safe) s) : s.cell (r.length + 3) = some (.lst (safe.map fun k => iv (k : Nat))) := by
  obtain ⟨c, m, _, rfl⟩ := h
  unfold Store.cell
  show (Cd r code safe)[r.length + 1]?.join = _
  rw [List.getElem?_append_right (by omega), show r.length + 1 - r.length = 1 by omega]
  rfl
theorem cd_len0 {r s : Store} {code : List Ins} {safe : List Nat} (h : IsSt (Cd r code safe) s) : lenV (.loc (r.length + 2)) s = .ok (iv (code.length : Nat)) s := by
  unfold lenV; dsimp only; rw [cd_c0 h]; dsimp only; rw [List.length_map, List.length_map]; rfl
theorem cd_lstC0 {r s : Store} {code : List Ins} {safe : List Nat} (h : IsSt (Cd r code safe) s) : lstC (.loc (r.length + 2)) s = .ok () s := by
  unfold lstC; dsimp only; rw [cd_c0 h]
theorem cd_lstC1 {r s : Store} {code : List Ins} {safe : List Nat} (h : IsSt (Cd r code safe) s) : lstC (.loc (r.length + 3)) s = .ok () s := by
  unfold lstC; dsimp only; rw [cd_c1 h]
theorem cd_app0 {r s : Store} {code : List Ins} {safe : List Nat} (h : IsSt (Cd r code safe) s) (hl : code.length < 16777216) (i : Ins) : ∃ s', appendV (.loc (r.length + 2)) (.t i.t) s = .ok (.t .non) s' ∧ IsSt (Cd r (code ++ [i]) safe) s' := by
  have hc := cd_c0 h
  obtain ⟨c, m, h1, rfl⟩ := h
  refine ⟨St c m (Cd r (code ++ [i]) safe), ?_, ⟨c, m, h1, rfl⟩⟩
  unfold appendV
  dsimp only
  rw [hc]
  dsimp only
  rw [if_pos (by rw [List.length_map, List.length_map]; exact hl)]
  show R.ok vN ((St c m (Cd r code safe)).set (r.length + 2) _) = _
  unfold St
  rw [List.set_cons_succ, List.set_cons_succ, List.set_append_right _ _ (Nat.le_refl _), Nat.sub_self]
  simp only [Cd, List.map_append, List.set_cons_zero]
  rfl
theorem cd_app1 {r s : Store} {code : List Ins} {safe : List Nat} (h : IsSt (Cd r code safe) s) (hl : safe.length < 16777216) (k : Nat) : ∃ s', appendV (.loc (r.length + 3)) (iv (k : Nat)) s = .ok (.t .non) s' ∧ IsSt (Cd r code (safe ++ [k])) s' := by
  have hc := cd_c1 h
  obtain ⟨c, m, h1, rfl⟩ := h
  refine ⟨St c m (Cd r code (safe ++ [k])), ?_, ⟨c, m, h1, rfl⟩⟩
  unfold appendV
  dsimp only
  rw [hc]
  dsimp only
  rw [if_pos (by rw [List.length_map]; exact hl)]
  show R.ok vN ((St c m (Cd r code safe)).set (r.length + 3) _) = _
  unfold St
  rw [List.set_cons_succ, List.set_cons_succ, List.set_append_right _ _ (by omega), show r.length + 1 - r.length = 1 by omega]
  simp only [Cd, List.map_append, List.set_cons_zero, List.set_cons_succ]
  rfl
section
variable {Γ : Nat → FEnv}
/-- a pick from a cell of trees -/
theorem b_pickC (B : Base Γ) (n : Nat) {r s : Store} (h : IsSt r s) {q : Nat} {β : Type} (f : β → T) (xs : List β) (hq : ∀ s, IsSt r s → s.cell q = some (.lst (xs.map fun b => .t (f b)))) (h0 : xs ≠ []) (hl : xs.length ≤ 100000000) (hw : ∀ c, r.length + 2 = c → q < c) : ∃ (b : β) (s' : Store), b ∈ xs ∧ IsSt r s' ∧ Γ (n + 2) 76 [.loc 1, .loc q] s = .ok (.t (f b)) s' := by
  have hp : 0 < xs.length := List.length_pos_iff.mpr h0
  obtain ⟨v, s', h1, h2, h3⟩ := b_drawN B n h (k := xs.length) hp hl
  refine ⟨xs[v], s', List.getElem_mem h1, h2, ?_⟩
  rw [B.e76]
  refine fn_rt ?_ rfl rfl (st_len h h2)
  have e5 : lenV (.loc q) s = .ok (.t (.int xs.length)) s := by
    unfold lenV; dsimp only; rw [hq s h]; dsimp only; rw [List.length_map]; rfl
  have e6 : subI (.loc q) (iv (v : Nat)) s' = .ok (.t (f xs[v])) s' := by
    unfold subI; dsimp only; rw [hq s' h2]; dsimp only
    rw [px_nat (by rw [List.length_map]; exact h1)]
    dsimp only
    rw [List.getElem?_map, List.getElem?_eq_getElem h1]; rfl
  simp only [g_pick, start, p_ret, p_e2, p_call, p_vals, p_vals0, p_e1, List.map, List.cons_append, List.nil_append, p_var0, p_var1, p_ok, e5, h3, e6, p_sok]
theorem c_pick0 (B : Base Γ) (n : Nat) {r s : Store} {code : List Ins} {safe : List Nat} (h : IsSt (Cd r code safe) s) (h0 : code ≠ []) (hl : code.length ≤ 100000000) : ∃ (i : Ins) (s' : Store), i ∈ code ∧ IsSt (Cd r code safe) s' ∧ Γ (n + 2) 76 [.loc 1, .loc (r.length + 2)] s = .ok (.t i.t) s' :=
  b_pickC B n h Ins.t code (fun s h => by rw [cd_c0 h, List.map_map]; rfl) h0 hl fun c hc => by rw [← hc, List.length_append]; simp
theorem c_pick1 (B : Base Γ) (n : Nat) {r s : Store} {code : List Ins} {safe : List Nat} (h : IsSt (Cd r code safe) s) (h0 : safe ≠ []) (hl : safe.length ≤ 100000000) : ∃ (i : Nat) (s' : Store), i ∈ safe ∧ IsSt (Cd r code safe) s' ∧ Γ (n + 2) 76 [.loc 1, .loc (r.length + 3)] s = .ok (iv (i : Nat)) s' :=
  b_pickC B n h (fun (k : Nat) => .int (k : Nat)) safe (fun s h => cd_c1 h) h0 hl fun c hc => by rw [← hc, List.length_append]; simp
end
end Fl
set_option Elab.async false
set_option linter.all false
set_option maxRecDepth 100000
/-! Fl: the drawing of code. -/
namespace Fl
section
variable {Γ : Nat → FEnv}
/-- what a turn adds -/
inductive Add (o : Nat) (safe : List Nat) : List Ins → Prop
  | one (i : Ins) (h : Frm i) (ho : i.outs = [o]) (hs : ∀ r ∈ i.ins, r ∈ safe) (hj : i.nm ≠ "join") : Add o safe [i]
  | two (a b : Nat) (ha : a ∈ safe) (hb : b ∈ safe) : Add o safe [⟨"join", .non, [a, b], [o]⟩, ⟨"fill", .int 1, [a], [o + 1]⟩]
theorem code_put (B : Base Γ) (n : Nat) (r : Store) (code : List Ins) (safe : List Nat) (o a b : Nat) (ha : a ∈ safe) (hb : b ∈ safe) (hl : code.length ≤ 100) (x : String) (hx : x ∈ ["fill", "calc", "calc", "flags", "range", "same", "join", "calc", "div"]) (x0 x1 x4 x9 : Option Val) (s : Store) (h : IsSt (Cd r code safe) s)
    (body : SM) (hb : body = sIf (tEq (eVar 6) (eC (.str "fill"))) (sExpr (e2c lstC appendV (eVar 2) (eTup false [eC (.str "fill"), eCall (Γ (n + 2)) 75 [eVar 0, eC (.int 3)], eLst false [eVar 7], eLst false [eVar 5]]))) (sIf (tEq (eVar 6) (eC (.str "calc"))) (sExpr (e2c lstC appendV (eVar 2) (eTup false [eC (.str "calc"), eCall (Γ (n + 2)) 76 [eVar 0, eLst false [eC (.str "+"), eC (.str "-"), eC (.str "*"), eC (.str "<"), eC (.str "=")]], eLst false [eVar 7, eVar 8], eLst false [eVar 5]]))) (sIf (tEq (eVar 6) (eC (.str "div"))) (sExpr (e2c lstC appendV (eVar 2) (eTup false [eC (.str "calc"), eCall (Γ (n + 2)) 76 [eVar 0, eLst false [eC (.str "/"), eC (.str "mod")]], eLst false [eVar 7, eVar 8], eLst false [eVar 5]]))) (sIf (tEq (eVar 6) (eC (.str "join"))) (sSeq (sExpr (e2c lstC appendV (eVar 2) (eTup false [eC (.str "join"), eC .non, eLst false [eVar 7, eVar 8], eLst false [eVar 5]]))) (sSeq (sExpr (e2c lstC appendV (eVar 2) (eTup false [eC (.str "fill"), eC (.int 1), eLst false [eVar 7], eLst false [e2 (addV false) (eVar 5) (eC (.int 1))]]))) (sAsg (e2 (addV false) (eVar 5) (eC (.int 1))) (gVar 5)))) (sIf (tEq (eVar 6) (eC (.str "same"))) (sExpr (e2c lstC appendV (eVar 2) (eTup false [eC (.str "same"), eC .non, eLst false [eVar 7, eVar 8], eLst false [eVar 5]]))) (sExpr (e2c lstC appendV (eVar 2) (eTup false [eVar 6, eC .non, eLst false [eVar 7], eLst false [eVar 5]])))))))) :
    ∃ add s', body [some (.loc 1), x1, some (.loc (r.length + 2)), some (.loc (r.length + 3)), x4, some (iv (o : Nat)), some (.t (.str x)), some (iv (a : Nat)), some (iv (b : Nat)), x9] s = .nx [some (.loc 1), x1, some (.loc (r.length + 2)), some (.loc (r.length + 3)), x4, some (iv ((o + add.length - 1 : Nat) : Nat)), some (.t (.str x)), some (iv (a : Nat)), some (iv (b : Nat)), x9] s' ∧
      Add o safe add ∧ IsSt (Cd r (code ++ add) safe) s' := by
  subst hb
  have c0 := cd_lstC0 h
  simp only [List.mem_cons, List.not_mem_nil, or_false] at hx
  have one : ∀ (i : Ins) (s : Store), Frm i → i.outs = [o] → (∀ r ∈ i.ins, r ∈ safe) → i.nm ≠ "join" → IsSt (Cd r code safe) s → ∃ s', appendV (.loc (r.length + 2)) (.t i.t) s = .ok (.t .non) s' ∧ Add o safe [i] ∧ IsSt (Cd r (code ++ [i]) safe) s' := fun i s hi ho hs hj h => by
    obtain ⟨s', h1, h2⟩ := cd_app0 h (by omega) i
    exact ⟨s', h1, .one i hi ho hs hj, h2⟩
  have eo : o + 1 - 1 = o := rfl
  rcases hx with rfl | rfl | rfl | rfl | rfl | rfl | rfl | rfl | rfl
  · obtain ⟨v, s1, hv, h1, e1⟩ := b_drawN B (n + 1) h (k := 3) (by decide) (by decide)
    have e1 : Γ (n + 2) 75 [.loc 1, .t (.int 3)] s = .ok (iv (v : Nat)) s1 := e1
    obtain ⟨s2, h2, h3, h4⟩ := one ⟨"fill", .int (v : Nat), [a], [o]⟩ s1 (.fill v hv a _) rfl (by simpa using ha) (by simp) h1
    refine ⟨_, s2, ?_, h3, h4⟩
    simp [Ins.t, li] at h2
    simp [c0, e1, h2]
  iterate 2
    obtain ⟨d, s1, hd, h1, e1⟩ := b_pick B n h (xs := [.str "+", .str "-", .str "*", .str "<", .str "="]) (by simp) (by simp [L])
    obtain ⟨y, hy, rfl⟩ : ∃ y, y ∈ ["+", "-", "*", "<", "="] ∧ d = .str y := by
      simp only [List.mem_cons, List.not_mem_nil, or_false] at hd
      rcases hd with rfl | rfl | rfl | rfl | rfl <;> exact ⟨_, by simp, rfl⟩
    obtain ⟨s2, h2, h3, h4⟩ := one ⟨"calc", .str y, [a, b], [o]⟩ s1 (.calc y (List.mem_append_left ["/", "mod"] hy) a b _) rfl (by simp [ha, hb]) (by simp) h1
    refine ⟨_, s2, ?_, h3, h4⟩
    simp [Ins.t, li] at h2
    simp [c0, e1, h2]
  · obtain ⟨s2, h2, h3, h4⟩ := one ⟨"flags", .non, [a], [o]⟩ s (.flags a _) rfl (by simpa using ha) (by simp) h
    refine ⟨_, s2, ?_, h3, h4⟩
    simp [Ins.t, li] at h2
    simp [c0, h2]
  · obtain ⟨s2, h2, h3, h4⟩ := one ⟨"range", .non, [a], [o]⟩ s (.range a _) rfl (by simpa using ha) (by simp) h
    refine ⟨_, s2, ?_, h3, h4⟩
    simp [Ins.t, li] at h2
    simp [c0, h2]
  · obtain ⟨s2, h2, h3, h4⟩ := one ⟨"same", .non, [a, b], [o]⟩ s (.same a b _) rfl (by simp [ha, hb]) (by simp) h
    refine ⟨_, s2, ?_, h3, h4⟩
    simp [Ins.t, li] at h2
    simp [c0, h2]
  · obtain ⟨s1, h1, h2⟩ := cd_app0 h (by omega) ⟨"join", .non, [a, b], [o]⟩
    obtain ⟨s2, h3, h4⟩ := cd_app0 h2 (by rw [List.length_append]; simp; omega) ⟨"fill", .int 1, [a], [o + 1]⟩
    refine ⟨_, s2, ?_, .two a b ha hb, by rw [List.append_assoc] at h4; exact h4⟩
    have c1 := cd_lstC0 h2
    simp [Ins.t, li] at h1 h3
    simp [c0, h1, c1, h3]
  · obtain ⟨d, s1, hd, h1, e1⟩ := b_pick B n h (xs := [.str "+", .str "-", .str "*", .str "<", .str "="]) (by simp) (by simp [L])
    obtain ⟨y, hy, rfl⟩ : ∃ y, y ∈ ["+", "-", "*", "<", "="] ∧ d = .str y := by
      simp only [List.mem_cons, List.not_mem_nil, or_false] at hd
      rcases hd with rfl | rfl | rfl | rfl | rfl <;> exact ⟨_, by simp, rfl⟩
    obtain ⟨s2, h2, h3, h4⟩ := one ⟨"calc", .str y, [a, b], [o]⟩ s1 (.calc y (List.mem_append_left ["/", "mod"] hy) a b _) rfl (by simp [ha, hb]) (by simp) h1
    refine ⟨_, s2, ?_, h3, h4⟩
    simp [Ins.t, li] at h2
    simp [c0, e1, h2]
  · obtain ⟨d, s1, hd, h1, e1⟩ := b_pick B n h (xs := [.str "/", .str "mod"]) (by simp) (by simp [L])
    obtain ⟨y, hy, rfl⟩ : ∃ y, y ∈ ["/", "mod"] ∧ d = .str y := by
      simp only [List.mem_cons, List.not_mem_nil, or_false] at hd
      rcases hd with rfl | rfl <;> exact ⟨_, by simp, rfl⟩
    obtain ⟨s2, h2, h3, h4⟩ := one ⟨"calc", .str y, [a, b], [o]⟩ s1 (.calc y (List.mem_append_right ["+", "-", "*", "<", "="] hy) a b _) rfl (by simp [ha, hb]) (by simp) h1
    refine ⟨_, s2, ?_, h3, h4⟩
    simp [Ins.t, li] at h2
    simp [c0, e1, h2]
end
end Fl
set_option Elab.async false
set_option linter.all false
set_option maxRecDepth 100000
/-! Fl: the drawing of code. -/
namespace Fl
theorem Add.ok {code : List Ins} {safe : List Nat} {add : List Ins} (h : Cok code safe) (ha : Add (3 + code.length) safe add) : Cok (code ++ add) (safe ++ [3 + code.length + add.length - 1]) ∧ 1 ≤ add.length ∧ add.length ≤ 2 := by
  cases ha with
  | one i hf ho hs hj =>
    refine ⟨?_, by simp, by simp⟩
    rw [List.length_singleton, Nat.add_sub_cancel]
    exact (h.add hf ho hs).safe (by simp) fun j e => by
      rw [List.getElem?_append_right (Nat.le_refl _), Nat.sub_self] at e
      injection e with e
      rw [← e]; exact hj
  | two a b ha hb =>
    refine ⟨?_, by simp, by simp⟩
    have h1 := h.add (i := ⟨"join", .non, [a, b], [3 + code.length]⟩) (.join a b _) rfl (by simp [ha, hb])
    have h2 := h1.add (i := ⟨"fill", .int 1, [a], [3 + code.length + 1]⟩) (.fill 1 (by decide) a _) (by rw [List.length_append]; rfl) (by simp [ha])
    have h3 := h2.safe (n := code.length + 1) (by simp) fun j e => by
      rw [List.append_assoc, List.getElem?_append_right (by omega), show code.length + 1 - code.length = 1 by omega] at e
      injection e with e
      rw [← e]; simp
    rw [List.append_assoc] at h3
    exact h3
theorem ins_0 (i : Ins) (s : Store) : subI (.t i.t) (.t (.int 0)) s = .ok (.t (.str i.nm)) s := nrfl rfl
theorem ins_1 (i : Ins) (s : Store) : subI (.t i.t) (.t (.int 1)) s = .ok (.t i.ex) s := nrfl rfl
theorem ins_2 (i : Ins) (s : Store) : subI (.t i.t) (.t (.int 2)) s = .ok (.t (li (ni i.ins))) s := nrfl rfl
theorem ins_3 (i : Ins) (s : Store) : subI (.t i.t) (.t (.int 3)) s = .ok (.t (li (ni i.outs))) s := nrfl rfl
theorem sfz_cell {s : Store} {q i : Nat} {ρ : Env} {ts : List T} (h : s.cell q = some (.lst (ts.map .t))) (hi : ρ[i]? = some (some (.loc q))) : sFz i ρ s = .nx (ρ.set i (some (.t (.lst ts)))) (s.set q none) := by
  have h1 : freeze (.loc q) s = .ok (.t (.lst ts)) (s.set q none) := by
    unfold freeze; dsimp only; rw [h]; dsimp only; rw [trees_map]
  unfold sFz
  rw [hi]
  dsimp only
  rw [h1]
section
variable {Γ : Nat → FEnv}
theorem code_run (B : Base Γ) (C : BaseC Γ) (n : Nat) {r s : Store} (h : IsSt r s) (hw : Wf s) : ∃ code safe s', Cok code safe ∧ code.length ≤ 33 ∧ safe.length ≤ 14 ∧ IsSt r s' ∧ Γ (n + 3) 112 [.loc 1, .t (.int 3)] s = .ok (.t (.lst [.lst (code.map Ins.t), li (ni safe)])) s' := by
  have hl : s.length = r.length + 2 := by obtain ⟨c, m, _, rfl⟩ := h; rfl
  rw [C.w_code]
  have h0 : IsSt (Cd r [] [0, 1, 2]) (s ++ [some (.lst []), some (.lst [iv 0, iv 1, iv 2])]) := by
    obtain ⟨c, m, h1, rfl⟩ := h
    exact ⟨c, m, h1, rfl⟩
  obtain ⟨v, s1, hv, h1, e1⟩ := b_drawN B (n + 1) h0 (k := 12) (by decide) (by decide)
  have e1 : Γ (n + 2) 75 [.loc 1, .t (.int 12)] (s ++ [some (.lst []), some (.lst [iv 0, iv 1, iv 2])]) = .ok (iv (v : Nat)) s1 := e1
  have hr := p_rangeS (b := eCall (Γ (n + 2)) 75 [eVar 0, eC (.int 12)]) (ρ := [some (.loc 1), some (.t (.int 3)), some (.loc (r.length + 2)), some (.loc (r.length + 3)), none, some (.t (.int 3)), none, none, none, none]) (s := s ++ [some (.lst []), some (.lst [iv 0, iv 1, iv 2])]) (s' := s1) (n := v) (by simp [e1]) (by omega)
  have e2 : eCompR true [4] (iRange1 (eVar 1)) (gVar 4) none (eVar 4) [some (.loc 1), some (.t (.int 3)), some (.loc (r.length + 2)), none, none, none, none, none, none, none] (s ++ [some (.lst [])]) = .ok (.loc (r.length + 3)) (s ++ [some (.lst []), some (.lst [iv 0, iv 1, iv 2])]) := by
    have : s ++ [some (.lst []), some (.lst [iv 0, iv 1, iv 2])] = (s ++ [some (.lst [])]) ++ [some (.lst [iv 0, iv 1, iv 2])] := by rw [List.append_assoc]; rfl
    rw [this, p_compRn (p_rangeS (n := 3) (s' := s ++ [some (.lst [])]) rfl (by decide)) (by decide)]
    have hlen : (s ++ [some (Cell.lst [])]).length = r.length + 3 := by rw [List.length_append, hl]; rfl
    rw [← hlen]
    rfl
  have key : ∃ ρ' s' code safe x4 x6 x7 x8 x9, g_w_code (Γ (n + 2)) (start 10 [.loc 1, .t (.int 3)]) s = ((sSeq (sSeq (sFz 2) (sFz 3)) (sRet (eLst false [eVar 2, eVar 3]))) ρ' s') ∧ ρ' = [some (.loc 1), some (.t (.int 3)), some (.loc (r.length + 2)), some (.loc (r.length + 3)), x4, some (iv ((3 + code.length : Nat) : Nat)), x6, x7, x8, x9] ∧ IsSt (Cd r code safe) s' ∧ Cok code safe ∧ code.length ≤ 33 ∧ safe.length ≤ 14 := by
    generalize hg : g_w_code (Γ (n + 2)) (start 10 [.loc 1, .t (.int 3)]) s = og
    simp [g_w_code, start, hl, e2, hr] at hg
    subst hg
    generalize hc : forL _ _ _ _ _ = o
    obtain ⟨ρ', s', rfl, code, safe, x4, x6, x7, x8, x9, rfl, h3, h4, h5, h6⟩ := for_ix hc (fun j ρ s => ∃ code safe x4 x6 x7 x8 x9, ρ = [some (.loc 1), some (.t (.int 3)), some (.loc (r.length + 2)), some (.loc (r.length + 3)), x4, some (iv ((3 + code.length : Nat) : Nat)), x6, x7, x8, x9] ∧ IsSt (Cd r code safe) s ∧ Cok code safe ∧ code.length ≤ 3 * j ∧ safe.length ≤ 3 + j) ⟨[], [0, 1, 2], none, none, none, none, none, rfl, h1, .init, by simp, by simp⟩ (by
      rintro j hj ρ s ⟨code, safe, x4, x6, x7, x8, x9, rfl, h, hk, hl1, hl2⟩
      obtain ⟨d, s1, hd, h1, e1⟩ := b_pick B n h (xs := [.str "fill", .str "calc", .str "calc", .str "flags", .str "range", .str "same", .str "join", .str "calc", .str "div"]) (by simp) (by simp [L])
      obtain ⟨x, hx, rfl⟩ : ∃ x, x ∈ ["fill", "calc", "calc", "flags", "range", "same", "join", "calc", "div"] ∧ d = .str x := by
        simp only [List.mem_cons, List.not_mem_nil, or_false] at hd
        rcases hd with rfl | rfl | rfl | rfl | rfl | rfl | rfl | rfl | rfl <;> exact ⟨_, by simp, rfl⟩
      have hs0 : safe ≠ [] := fun e => by have := hk.z.1; rw [e] at this; exact absurd this (by simp)
      obtain ⟨a, s2, ha, h2, e2⟩ := c_pick1 B n h1 hs0 (by omega)
      obtain ⟨b, s3, hb, h3, e3⟩ := c_pick1 B n h2 hs0 (by omega)
      obtain ⟨add, s4, e4, ad, h4⟩ := code_put B n r code safe (3 + code.length) a b ha hb (by omega) x hx none (some (.t (.int 3))) (some (iv (j : Nat))) x9 s3 h3 _ rfl
      obtain ⟨hk4, ad1, ad2⟩ := ad.ok hk
      obtain ⟨s5, e5, h5⟩ := cd_app1 h4 (by omega) (3 + code.length + add.length - 1)
      obtain ⟨v4, s6, hv4, h6, e6⟩ := b_drawN B (n + 1) h5 (k := 4) (by decide) (by decide)
      have e6 : Γ (n + 2) 75 [.loc 1, .t (.int 4)] s5 = .ok (iv (v4 : Nat)) s6 := e6
      have c4 := cd_lstC1 h4
      have eo : ((3 + code.length + add.length - 1 : Nat) : Int) + 1 = ((3 + (code ++ add).length : Nat) : Int) := by rw [List.length_append]; omega
      have lc := cd_len0 h6
      have lp : ((0 : Int) < ((code ++ add).length : Nat)) := by rw [List.length_append]; omega
      by_cases hv0 : v4 = 0
      · subst hv0
        obtain ⟨i, s7, hi, h7, e7⟩ := c_pick0 B n h6 (fun e => by rw [e] at lp; simp at lp) (by rw [List.length_append]; omega)
        obtain ⟨s8, e8, h8⟩ := cd_app0 h7 (by rw [List.length_append]; omega) { i with outs := [3 + (code ++ add).length] }
        obtain ⟨ki, hki⟩ := List.getElem?_of_mem hi
        have hk8 := hk4.add (i := { i with outs := [3 + (code ++ add).length] }) ((hk4.frm i hi).outs _) rfl fun r hr => (hk4.ins ki i hki r hr).1
        refine ⟨_, _, _, s8, rfl, ?_, code ++ add ++ [{ i with outs := [3 + (code ++ add).length] }], safe ++ [3 + code.length + add.length - 1], some (iv (j : Nat)), some (.t (.str x)), some (iv (a : Nat)), some (iv (b : Nat)), some (.t i.t), rfl, h8, hk8, by simp only [List.length_append, List.length_singleton]; omega, by simp only [List.length_append, List.length_singleton]; omega⟩
        have c7 := cd_lstC0 h7
        have e8' : appendV (.loc (r.length + 2)) (.t (.tup [.str i.nm, i.ex, li (ni i.ins), .lst [.int (3 + (code ++ add).length : Nat)]])) s7 = .ok (.t .non) s8 := e8
        have eo2 : ((3 + (code ++ add).length : Nat) : Int) + 1 = ((3 + (code ++ add ++ [{ i with outs := [3 + (code ++ add).length] }]).length : Nat) : Int) := by rw [List.length_append (as := code ++ add), List.length_singleton]; omega
        simp only [p_seq2, p_asgV, p_call, p_vals, p_vals0, p_lst, p_eC, p_varS, p_var0, p_ok, p_sok, newL9, e1, e2, e3, List.set, then_nx]
        rw [e4, then_nx]
        simp only [p_seq2, p_sexpr, p_e2c, p_varS, p_var0, p_ok, p_sok, c4, e5, then_nx, p_asgV, p_e2, p_eC, p_add, eo, List.set, p_if, p_tAnd, p_tEq, p_tGt, p_call, p_vals, p_vals0, e6, p_eqI, p_lt, p_e1, lc, lp, decide_true, Int.natCast_zero, beq_self_eq_true, if_true, e7, p_tup, c7, ins_0, ins_1, ins_2, p_lst, newL1, newT4, listV_t, e8', eo2]
      · refine ⟨_, _, _, s6, rfl, ?_, code ++ add, safe ++ [3 + code.length + add.length - 1], some (iv (j : Nat)), some (.t (.str x)), some (iv (a : Nat)), some (iv (b : Nat)), x9, rfl, h6, hk4, by simp only [List.length_append]; omega, by simp only [List.length_append, List.length_singleton]; omega⟩
        have hvb : (((v4 : Nat) : Int) == 0) = false := by simpa using hv0
        simp only [p_seq2, p_asgV, p_call, p_vals, p_vals0, p_lst, p_eC, p_varS, p_var0, p_ok, p_sok, newL9, e1, e2, e3, List.set, then_nx]
        rw [e4, then_nx]
        simp only [p_seq2, p_sexpr, p_e2c, p_varS, p_var0, p_ok, p_sok, c4, e5, then_nx, p_asgV, p_e2, p_eC, p_add, eo, List.set, p_if, p_tAnd, p_tEq, p_tGt, p_call, p_vals, p_vals0, e6, p_eqI, hvb, if_false, Bool.false_eq_true, p_nil])
    exact ⟨_, s', code, safe, x4, x6, x7, x8, x9, by simp [-p_seq2]; rfl, rfl, h3, h4, by omega, by omega⟩
  obtain ⟨ρ', s', code, safe, x4, x6, x7, x8, x9, e4, rfl, h3, h4, h5, h6⟩ := key
  obtain ⟨c, m, hcm, rfl⟩ := h3
  have h3 : IsSt (Cd r code safe) (St c m (Cd r code safe)) := ⟨c, m, hcm, rfl⟩
  refine ⟨code, safe, St c m r, h4, h5, h6, ⟨c, m, hcm, rfl⟩, ?_⟩
  have z1 := sfz_cell (i := 2) (ρ := [some (.loc 1), some (.t (.int 3)), some (.loc (r.length + 2)), some (.loc (r.length + 3)), x4, some (iv ((3 + code.length : Nat) : Nat)), x6, x7, x8, x9]) (cd_c0 h3) rfl
  have c3 : Store.cell ((St c m (Cd r code safe)).set (r.length + 2) none) (r.length + 3) = some (.lst (((ni safe).map T.int).map .t)) := by
    have := cd_c1 h3
    unfold Store.cell at this ⊢
    rw [List.getElem?_set_ne (by omega), this, List.map_map, List.map_map]
    rfl
  have z2 := sfz_cell (i := 3) (ρ := [some (.loc 1), some (.t (.int 3)), some (.t (.lst (code.map Ins.t))), some (.loc (r.length + 3)), x4, some (iv ((3 + code.length : Nat) : Nat)), x6, x7, x8, x9]) c3 rfl
  have hl2 : s.length = (St c m r).length := hl
  refine fn_tS (s' := ((St c m (Cd r code safe)).set (r.length + 2) none).set (r.length + 3) none) ?_ rfl ?_ hl2.symm ?_
  · rw [e4]
    simp only [p_seq2, z1, then_nx, List.set, z2, p_ret, p_lst, p_vals, p_vals0, p_varS, p_var0, p_ok, p_sok, newL2]
  · obtain ⟨c1, m1, _, rfl⟩ := h
    exact wf_St hw.st
  · rw [hl2]
    refine take_set (take_set ?_ (by rw [St_len]; exact Nat.le_refl _)) (by rw [St_len]; omega)
    rw [← St_app, List.take_append_of_le_length (Nat.le_refl _), List.take_length]
end
end Fl
set_option Elab.async false
set_option linter.all false
set_option maxRecDepth 100000
/-! Fl: the drawing of blocks. -/
namespace Fl
/-- a block's kinds here: pairs of numbers to numbers -/
abbrev kPair : Kd := .pair .num .num
/-- the first block -/
inductive Mok (code : List Ins) (safe : List Nat) : List Ins → Nat → Prop
  | flat (r : Nat) (h : r ∈ safe) : Mok code safe code r
  | call (a b r : Nat) (ha : a ∈ safe) (hb : b ∈ safe) (h : r ∈ safe ∨ r = 3 + code.length) : Mok code safe (code ++ [⟨"call", .str "other", [0, a, b], [3 + code.length]⟩]) r
def mainB (code : List Ins) (r : Nat) : Blk := ⟨"main", kPair, .num, code, [r]⟩
def otherB (code : List Ins) (r : Nat) : Blk := ⟨"other", kPair, .num, code, [r]⟩
@[simp] theorem sub_l0 (a : T) (r : List T) (s : Store) : subI (.t (.lst (a :: r))) (.t (.int 0)) s = .ok (.t a) s := lst_get (k := 0) rfl s
@[simp] theorem sub_l1 (a b : T) (r : List T) (s : Store) : subI (.t (.lst (a :: b :: r))) (.t (.int 1)) s = .ok (.t b) s := lst_get (k := 1) rfl s
@[simp] theorem sub_l2 (a b c : T) (r : List T) (s : Store) : subI (.t (.lst (a :: b :: c :: r))) (.t (.int 2)) s = .ok (.t c) s := lst_get (k := 2) rfl s
@[simp] theorem p_gTupL2 (i j : Nat) (a b : T) (ρ : Env) (s : Store) : gTup [i, j] (.t (.lst [a, b])) ρ s = .ok ((ρ.set i (some (.t a))).set j (some (.t b))) s := nrfl rfl
theorem max_fold : ∀ (r : List Int) (x m : Int), (∀ y ∈ x :: r, y ≤ m) → m ∈ x :: r → r.foldl (fun a b => if b > a then b else a) x = m
  | [], x, m, _, h => (List.mem_singleton.mp h).symm
  | y :: r, x, m, h1, h2 => by
    rw [List.foldl_cons]
    have hx := h1 x List.mem_cons_self
    have hy := h1 y (List.mem_cons_of_mem _ List.mem_cons_self)
    refine max_fold r _ m (fun z hz => ?_) ?_
    · rcases List.mem_cons.mp hz with rfl | hz
      · split <;> assumption
      · exact h1 z (List.mem_cons_of_mem _ (List.mem_cons_of_mem _ hz))
    · by_cases c : y > x
      · rw [if_pos c]
        rcases List.mem_cons.mp h2 with rfl | h2
        · omega
        · exact h2
      · rw [if_neg c]
        rcases List.mem_cons.mp h2 with rfl | h2
        · exact List.mem_cons_self
        · rcases List.mem_cons.mp h2 with rfl | h2
          · rw [show x = m by omega]; exact List.mem_cons_self
          · exact List.mem_cons_of_mem _ h2
theorem max_run {x : Int} {r : List Int} {m : Int} (h1 : ∀ y ∈ x :: r, y ≤ m) (h2 : m ∈ x :: r) (s : Store) : maxV (.t (li (x :: r))) s = .ok (iv m) s := by
  show (itemsL (.t (.lst ((x :: r).map .int))) >>= _) s = _
  rw [bind_eq, li_itemsL, bind_ok]
  show (match intsOf ((x :: r).map iv) with
    | some ns => match maxL ns with
      | some m => R.ok (vI m) s
      | none => .bad
    | none => .bad) = _
  rw [li_ints]
  show R.ok (vI (r.foldl (fun a b => if b > a then b else a) x)) s = _
  rw [max_fold r x m h1 h2]; rfl
def outN (i : Ins) : Int := ((i.outs.getD 0 0 : Nat) : Int)
theorem out_nums {code : List Ins} {safe : List Nat} (h : Cok code safe) : (∀ y ∈ (0 : Int) :: (code.map outN ++ [2]), y ≤ 2 + code.length) ∧ (2 + code.length : Int) ∈ (0 : Int) :: (code.map outN ++ [2]) := by
  have ho : ∀ (k : Nat) (i : Ins), code[k]? = some i → outN i = 3 + (k : Int) := fun k i e => by unfold outN; rw [h.out k i e]; simp
  refine ⟨fun y hy => ?_, ?_⟩
  · simp only [List.mem_cons, List.mem_append, List.mem_map, List.not_mem_nil, or_false] at hy
    rcases hy with rfl | ⟨i, hi, rfl⟩ | rfl
    · omega
    · obtain ⟨k, e⟩ := List.getElem?_of_mem hi
      rw [ho k i e]
      have := (List.getElem?_eq_some_iff.mp e).1
      omega
    · omega
  · by_cases h0 : code.length = 0
    · rw [h0]; simp
    · have hk : code.length - 1 < code.length := by omega
      have e := ho (code.length - 1) _ (List.getElem?_eq_getElem hk)
      refine List.mem_cons_of_mem _ (List.mem_append_left _ (List.mem_map.mpr ⟨_, List.getElem_mem hk, ?_⟩))
      rw [e]; omega
section
variable {Γ : Nat → FEnv}
theorem blocks_run (B : Base Γ) (C : BaseC Γ) (n : Nat) {r s : Store} (h : IsSt r s) (hw : Wf s) : ∃ code safe mc mr code2 safe2 r2 s', Cok code safe ∧ code.length ≤ 33 ∧ safe.length ≤ 14 ∧ Mok code safe mc mr ∧ Cok code2 safe2 ∧ code2.length ≤ 33 ∧ safe2.length ≤ 14 ∧ r2 ∈ safe2 ∧ IsSt r s' ∧ Γ (n + 4) 113 [.loc 1] s = .ok (.t (bsT [mainB mc mr, otherB code2 r2])) s' := by
  have wfs : ∀ s', IsSt r s' → Wf s' := by
    rintro s' ⟨c', m', _, rfl⟩
    obtain ⟨c, m, _, rfl⟩ := h
    exact wf_St hw.st
  obtain ⟨code, safe, s1, k1, l1, n1, h1, e1⟩ := code_run B C n h hw
  have ne : ∀ {code : List Ins} {safe : List Nat}, Cok code safe → safe ≠ [] := fun k e => by have := k.z.1; rw [e] at this; exact absurd this (by simp)
  have pk : ∀ (safe : List Nat), safe ≠ [] → safe.length ≤ 14 → ∀ s, IsSt r s → ∃ (k : Nat) (s' : Store), k ∈ safe ∧ IsSt r s' ∧ Γ (n + 3) 76 [.loc 1, .t (li (ni safe))] s = .ok (iv (k : Nat)) s' := fun safe h0 hl s h => by
    obtain ⟨d, s', hd, h', e⟩ := b_pick B (n + 1) h (xs := (ni safe).map T.int) (by simpa using h0) (by rw [List.length_map, List.length_map]; show safe.length ≤ 16777216; omega)
    simp only [List.mem_map] at hd
    obtain ⟨_, ⟨k, hk, rfl⟩, rfl⟩ := hd
    exact ⟨k, s', hk, h', e⟩
  obtain ⟨mr, s2, hmr, h2, e2⟩ := pk safe (ne k1) n1 s1 h1
  obtain ⟨code2, safe2, s3, k2, l2, n2, h3, e3⟩ := code_run B C n h2 (wfs _ h2)
  obtain ⟨r2, s4, hr2, h4, e4⟩ := pk safe2 (ne k2) n2 s3 h3
  rw [C.w_blocks]
  generalize hg0 : g_w_blocks (Γ (n + 3)) (start 11 [.loc 1]) s = og
  have hg := hg0
  simp [-p_comp, g_w_blocks, start, e1, e2, e3, e4] at hg
  have hc : ∀ x3 x4 x5 x6 x7 x8 x10, eComp false [9] (iV (eVar 1)) (gVar 9) none (Fl.e2 subI (Fl.e2 subI (eVar 9) (eC (.int 3))) (eC (.int 0))) [some (.loc 1), some (.t (.lst (code.map Ins.t))), some (.t (li (ni safe))), x3, x4, x5, x6, x7, x8, none, x10] s4 = .ok (.t (li (code.map outN))) s4 := fun x3 x4 x5 x6 x7 x8 x10 => by
    have := comp_tt (i := 9) (f := Fl.e2 subI (Fl.e2 subI (eVar 9) (eC (.int 3))) (eC (.int 0))) (ρ := [some (.loc 1), some (.t (.lst (code.map Ins.t))), some (.t (li (ni safe))), x3, x4, x5, x6, x7, x8, none, x10]) (s := s4) Ins.t (fun i => .int (outN i)) code (fun i hi => by
      obtain ⟨k, e⟩ := List.getElem?_of_mem hi
      have ho := k1.out k i e
      have : subI (.t (li (ni i.outs))) (.t (.int 0)) s4 = .ok (.t (.int (outN i))) s4 := lst_get (k := 0) (by unfold outN; rw [ho]; rfl) s4
      simp [ins_3, this])
    simp only [p_comp, p_iV, p_varS, p_var0, p_ok, lst_iter, wipeE, List.set]
    rw [this]; simp [li]
  obtain ⟨m1, m2⟩ := out_nums k1
  have hm := fun s => max_run m1 m2 s
  have a1 : ∀ s, addV false (.t (.lst [.int 0])) (.t (li (code.map outN))) s = .ok (.t (li (0 :: code.map outN))) s := fun s => by
    rw [add_tt _ _ _ _ (by rw [List.length_map, List.length_map]; show 1 + _ ≤ 16777216; omega), newL_t]; rfl
  have a2 : ∀ s, addV false (.t (li (0 :: code.map outN))) (.t (.lst [.int 2])) s = .ok (.t (li (0 :: (code.map outN ++ [2])))) s := fun s => by
    rw [add_tt _ _ _ _ (by rw [List.length_map, List.length_cons, List.length_map]; show _ + 1 ≤ 16777216; omega), newL_t]
    simp [li]
  obtain ⟨v, s5, hv, h5, e5⟩ := b_drawN B (n + 2) h4 (k := 2) (by decide) (by decide)
  have e5 : Γ (n + 3) 75 [.loc 1, .t (.int 2)] s4 = .ok (iv (v : Nat)) s5 := e5
  simp [-p_comp, hc, a1, a2, hm, e5] at hg
  by_cases hv0 : v = 0
  · subst hv0
    obtain ⟨a, s6, ha, h6, e6⟩ := pk safe (ne k1) n1 s5 h5
    obtain ⟨b, s7, hb, h7, e7⟩ := pk safe (ne k1) n1 s6 h6
    obtain ⟨d, s8, hd, h8, e8⟩ := b_pick B (n + 1) h7 (xs := [.int (1 + (2 + (code.length : Int))), .int (mr : Nat)]) (by simp) (by simp [L])
    obtain ⟨r', hr', rfl⟩ : ∃ r' : Nat, (r' ∈ safe ∨ r' = 3 + code.length) ∧ d = .int (r' : Nat) := by
      simp only [List.mem_cons, List.not_mem_nil, or_false] at hd
      rcases hd with rfl | rfl
      · exact ⟨3 + code.length, .inr rfl, by congr 1; omega⟩
      · exact ⟨mr, .inl hmr, rfl⟩
    have a3 : ∀ (t : T) s, addV false (.t (.lst (code.map Ins.t))) (.t (.lst [t])) s = .ok (.t (.lst (code.map Ins.t ++ [t]))) s := fun t s => by
      rw [add_tt _ _ _ _ (by rw [List.length_map]; show _ + 1 ≤ 16777216; omega), newL_t]
    simp [e6, e7, e8, a3] at hg
    refine ⟨code, safe, _, r', code2, safe2, r2, s8, k1, l1, n1, .call a b r' ha hb hr', k2, l2, n2, hr2, h8, ?_⟩
    refine fn_rt (s' := s8) ?_ rfl rfl (st_len h h8)
    rw [hg0, ← hg, show (1 + (2 + (code.length : Int))) = ((3 + code.length : Nat) : Int) by omega]
    simp only [mainB, otherB, bsT, Blk.t, Ins.t, List.map, List.map_append]
    rfl
  · refine ⟨code, safe, code, mr, code2, safe2, r2, s5, k1, l1, n1, .flat mr hmr, k2, l2, n2, hr2, h5, ?_⟩
    refine fn_rt (s' := s5) ?_ rfl rfl (st_len h h5)
    simp [hv0] at hg
    rw [hg0, ← hg]
    rfl
end
end Fl
set_option Elab.async false
set_option linter.all false
set_option maxRecDepth 100000
/-! Fl: drawn code, run: registers that are safe. -/
namespace Fl
theorem rget_rput : ∀ (kv : Regs) (k : Nat) (v : Vec) (r : Nat), rget (rput kv k v) r = if r = k then some v else rget kv r := by
  have fnd : ∀ (kv : Regs) (k : Nat) (v : Vec) (r : Nat), (kv.any fun p => decide (p.1 = k)) = true → rget (kv.map fun p => if p.1 = k then (p.1, v) else p) r = if r = k then some v else rget kv r := by
    intro kv
    induction kv with
    | nil => intro k v r h; simp at h
    | cons p q ih =>
      intro k v r h
      obtain ⟨j, w⟩ := p
      by_cases hj : j = k
      · subst hj
        simp only [List.map_cons, if_true]
        unfold rget
        by_cases hr : j = r
        · subst hr; simp
        · simp only [hr, if_false]
          have hr' : ¬ r = j := fun e => hr e.symm
          by_cases hq : (q.any fun p => decide (p.1 = j)) = true
          · exact ih j v r hq
          · simp only [hr', if_false]
            have : (q.map fun p => if p.1 = j then (p.1, v) else p) = q := by
              conv => rhs; rw [← List.map_id q]
              refine List.map_congr_left fun p hp => ?_
              have : ¬ p.1 = j := fun e => hq (List.any_eq_true.mpr ⟨p, hp, by simpa using e⟩)
              simp [this]
            rw [this]
      · have hq : (q.any fun p => decide (p.1 = k)) = true := by simpa [List.any_cons, hj] using h
        simp only [List.map_cons, hj, if_false]
        unfold rget
        by_cases hr : j = r
        · subst hr; simp [hj]
        · simp only [hr, if_false]
          exact ih k v r hq
  have app : ∀ (kv : Regs) (k : Nat) (v : Vec) (r : Nat), ¬ (kv.any fun p => decide (p.1 = k)) = true → rget (kv ++ [(k, v)]) r = if r = k then some v else rget kv r := by
    intro kv
    induction kv with
    | nil =>
      intro k v r h
      show rget [(k, v)] r = _
      unfold rget
      by_cases hr : k = r
      · subst hr; simp
      · have : ¬ r = k := fun e => hr e.symm
        simp [hr, this]
        rfl
    | cons p q ih =>
      intro k v r h
      obtain ⟨j, w⟩ := p
      rw [List.any_cons, Bool.or_eq_true, not_or] at h
      have hj : ¬ j = k := by simpa using h.1
      rw [List.cons_append]
      unfold rget
      by_cases hr : j = r
      · subst hr; simp [hj]
      · simp only [hr, if_false]
        exact ih k v r h.2
  intro kv k v r
  unfold rput
  split
  · rename_i h; exact fnd kv k v r h
  · rename_i h; exact app kv k v r h
def GoodV (n : Nat) (v : Vec) : Prop := v.length = n ∧ ∀ x ∈ v, Inr x
structure Inv (n : Nat) (safe : List Nat) (j : Nat) (kv : Regs) : Prop where
  has : ∀ r, r < 3 + j → ∃ v, rget kv r = some v ∧ (r ∈ safe → GoodV n v)
  len : kv.length ≤ 3 + j
theorem Inv.put {n : Nat} {safe : List Nat} {j : Nat} {kv : Regs} (h : Inv n safe j kv) {v : Vec} (hv : 3 + j ∈ safe → GoodV n v) : Inv n safe (j + 1) (rput kv (3 + j) v) := by
  refine ⟨fun r hr => ?_, ?_⟩
  · rw [rget_rput]
    by_cases hj : r = 3 + j
    · rw [if_pos hj]
      exact ⟨v, rfl, fun hs => hv (hj ▸ hs)⟩
    · rw [if_neg hj]
      exact h.has r (by omega)
  · have := rput_len kv (3 + j) v
    have := h.len
    omega
end Fl
set_option Elab.async false
set_option linter.all false
set_option maxRecDepth 100000
/-! Fl: repr of trees; equality of trees. -/
namespace Fl
mutual
theorem T_refl : ∀ d : T, T.beq d d = true
  | .non => by simp [T.beq]
  | .bl b => by simp [T.beq]
  | .int b => by simp [T.beq]
  | .str b => by simp [T.beq]
  | .tup b => by simp only [T.beq]; exact T_refls b
  | .lst b => by simp only [T.beq]; exact T_refls b
  | .dct b => by simp only [T.beq]; exact T_reflk b
  | .rp b => by simp only [T.beq]; exact T_refl b
theorem T_refls : ∀ d : List T, T.beqs d d = true
  | [] => by simp [T.beqs]
  | a :: r => by simp only [T.beqs, Bool.and_eq_true]; exact ⟨T_refl a, T_refls r⟩
theorem T_reflk : ∀ d : List (Key × T), T.beqk d d = true
  | [] => by simp [T.beqk]
  | a :: r => by simp only [T.beqk, Bool.and_eq_true]; exact ⟨T_reflp a, T_reflk r⟩
theorem T_reflp : ∀ d : Key × T, T.beqp d d = true
  | (k, a) => by rw [T.beqp, T_refl a]; simp
end
theorem rp_eq (d : T) (s : Store) : eqV (.t (.rp d)) (.t (.rp d)) s = .ok true s := by
  show (match (if T.beq d d then some true else none) with | some r => R.ok r s | none => .bad) = _
  rw [T_refl]; rfl
theorem rp_run {d : T} (h1 : reprOk d = true) (h2 : T.plain 60 d = true) (h3 : T.rlen d ≤ L) (s : Store) : reprV (.t d) s = .ok (.t (.rp d)) s := by
  have e : deep s deepMax (.t d) = some d := by unfold deepMax; rw [deep]
  unfold reprV
  rw [e]
  dsimp only
  rw [if_pos ⟨h1, h2, h3⟩]
theorem rlens_le (K : Nat) : ∀ l : List T, (∀ d ∈ l, T.rlen d ≤ K) → T.rlens l ≤ (K + 2) * l.length
  | [], _ => by simp [T.rlens]
  | a :: r, h => by
    have ih := rlens_le K r fun d hd => h d (List.mem_cons_of_mem _ hd)
    have := h a List.mem_cons_self
    rw [T.rlens, List.length_cons, Nat.mul_succ]
    omega
theorem rlen_lst (K : Nat) (l : List T) (h : ∀ d ∈ l, T.rlen d ≤ K) : T.rlen (.lst l) ≤ (K + 2) * l.length + 3 := by
  have := rlens_le K l h
  rw [T.rlen]; omega
theorem rlen_tup (K : Nat) (l : List T) (h : ∀ d ∈ l, T.rlen d ≤ K) : T.rlen (.tup l) ≤ (K + 2) * l.length + 3 := by
  have := rlens_le K l h
  rw [T.rlen]; omega
theorem rlen_int {i : Int} (h : i.natAbs < 2 ^ 64) : T.rlen (.int i) ≤ 70 := by
  rw [T.rlen, if_pos h]
  split <;> omega
theorem plain_mono : ∀ (n : Nat) (d : T), T.plain n d = true → T.plain (n + 1) d = true
  | n, .non, _ => by rw [T.plain]
  | n, .bl _, _ => by rw [T.plain]
  | n, .int _, _ => by rw [T.plain]
  | n, .str _, _ => by rw [T.plain]
  | n + 1, .tup a, h => by
    rw [T.plain, List.all_eq_true] at h ⊢
    exact fun d hd => plain_mono n d (h d hd)
  | n + 1, .lst a, h => by
    rw [T.plain, List.all_eq_true] at h ⊢
    exact fun d hd => plain_mono n d (h d hd)
  | 0, .tup a, h => by simp [T.plain] at h
  | 0, .lst a, h => by simp [T.plain] at h
  | n, .dct _, h => by cases n <;> simp [T.plain] at h
  | n, .rp _, h => by cases n <;> simp [T.plain] at h
theorem plain_le {n m : Nat} (h : n ≤ m) {d : T} (hd : T.plain n d = true) : T.plain m d = true := by
  induction m with
  | zero => rw [show n = 0 by omega] at hd; exact hd
  | succ m ih =>
    by_cases c : n = m + 1
    · rw [← c]; exact hd
    · exact plain_mono m d (ih (by omega))
theorem plain_lst {n : Nat} {l : List T} (h : ∀ d ∈ l, T.plain n d = true) : T.plain (n + 1) (.lst l) = true := by
  rw [T.plain, List.all_eq_true]; exact h
theorem plain_tup {n : Nat} {l : List T} (h : ∀ d ∈ l, T.plain n d = true) : T.plain (n + 1) (.tup l) = true := by
  rw [T.plain, List.all_eq_true]; exact h
theorem plain_li (n : Nat) (xs : List Int) : T.plain (n + 1) (li xs) = true := plain_lst fun d hd => by
  obtain ⟨i, _, rfl⟩ := List.mem_map.mp hd
  rw [T.plain]
theorem eqvs_refl_of {l : List T} (h : ∀ d ∈ l, T.eqv d d = true) : T.eqvs l l = true := by
  induction l with
  | nil => simp [T.eqvs]
  | cons a r ih =>
    rw [T.eqvs, h a List.mem_cons_self, ih fun d hd => h d (List.mem_cons_of_mem _ hd)]
    rfl
theorem eqv_refl : ∀ (n : Nat) (d : T), T.plain n d = true → T.eqv d d = true
  | n, .non, _ => by simp [T.eqv]
  | n, .bl _, _ => by simp [T.eqv]
  | n, .int _, _ => by simp [T.eqv]
  | n, .str _, _ => by simp [T.eqv]
  | n + 1, .tup a, h => by
    rw [T.plain, List.all_eq_true] at h
    rw [T.eqv]
    exact eqvs_refl_of fun d hd => eqv_refl n d (h d hd)
  | n + 1, .lst a, h => by
    rw [T.plain, List.all_eq_true] at h
    rw [T.eqv]
    exact eqvs_refl_of fun d hd => eqv_refl n d (h d hd)
  | 0, .tup a, h => by simp [T.plain] at h
  | 0, .lst a, h => by simp [T.plain] at h
  | n, .dct _, h => by cases n <;> simp [T.plain] at h
  | n, .rp _, h => by cases n <;> simp [T.plain] at h
/-- equal trees are told equal -/
theorem eq_refl {d : T} (h : T.plain 60 d = true) (s : Store) : eqV (.t d) (.t d) s = .ok true s := by
  have hn : ∀ e, d ≠ .rp e := fun e he => by rw [he] at h; simp [T.plain] at h
  have e1 : T.eq? d d = some true := by
    unfold T.eq?
    split
    · exact absurd rfl (hn _)
    · rw [h, eqv_refl 60 d h]; rfl
  show (match T.eq? d d with | some r => R.ok r s | none => .bad) = _
  rw [e1]
end Fl
set_option Elab.async false
set_option linter.all false
set_option maxRecDepth 100000
/-! Fl: drawn blocks as texts. -/
namespace Fl
/-- an instruction that is short as a text -/
def InsSm (i : Ins) : Prop := i.nm.length ≤ 10 ∧ (i.ex = .non ∨ (∃ k : Nat, k < 3 ∧ i.ex = .int (k : Nat)) ∨ ∃ x : String, x.length ≤ 10 ∧ i.ex = .str x) ∧ i.ins.length ≤ 5 ∧ i.outs.length ≤ 5 ∧ (∀ r ∈ i.ins, r ≤ 1000) ∧ ∀ r ∈ i.outs, r ≤ 1000
theorem rlen_ni {l : List Nat} (h : ∀ r ∈ l, r ≤ 1000) : T.rlen (li (ni l)) ≤ 72 * l.length + 3 := by
  have := rlen_lst 70 ((ni l).map T.int) fun d hd => by
    simp only [List.mem_map] at hd
    obtain ⟨_, ⟨k, hk, rfl⟩, rfl⟩ := hd
    have := h k hk
    have e : (2:Nat)^64 = 18446744073709551616 := rfl
    exact rlen_int (by omega)
  rw [List.length_map, List.length_map] at this
  exact this
theorem InsSm.rlen {i : Ins} (h : InsSm i) : T.rlen i.t ≤ 4011 := by
  obtain ⟨h1, h2, h3, h4, h5, h6⟩ := h
  have := rlen_tup 1000 [.str i.nm, i.ex, li (ni i.ins), li (ni i.outs)] fun d hd => by
    simp only [List.mem_cons, List.not_mem_nil, or_false] at hd
    rcases hd with rfl | rfl | rfl | rfl
    · rw [T.rlen]; omega
    · rcases h2 with e | ⟨k, hk, e⟩ | ⟨x, hx, e⟩
      · rw [e, T.rlen]; omega
      · have e2 : (2:Nat)^64 = 18446744073709551616 := rfl
        rw [e]; exact Nat.le_trans (rlen_int (by omega)) (by decide)
      · rw [e, T.rlen]; omega
    · have := rlen_ni h5; omega
    · have := rlen_ni h6; omega
  exact this
theorem InsSm.plain {i : Ins} (h : InsSm i) (n : Nat) : T.plain (n + 2) i.t = true := plain_tup fun d hd => by
  obtain ⟨h1, h2, h3, h4, h5, h6⟩ := h
  simp only [List.mem_cons, List.not_mem_nil, or_false] at hd
  rcases hd with rfl | rfl | rfl | rfl
  · rw [T.plain]
  · rcases h2 with e | ⟨k, hk, e⟩ | ⟨x, hx, e⟩ <;> rw [e, T.plain]
  · exact plain_li n _
  · exact plain_li n _
theorem frm_sm {i : Ins} (hf : Frm i) (hi : ∀ r ∈ i.ins, r ≤ 1000) (ho : i.outs.length ≤ 5 ∧ ∀ r ∈ i.outs, r ≤ 1000) : InsSm i := by
  cases hf with
  | fill k hk a os => exact ⟨show "fill".length ≤ 10 by decide, .inr (.inl ⟨k, hk, rfl⟩), by simp, ho.1, hi, ho.2⟩
  | flags a os => exact ⟨show "flags".length ≤ 10 by decide, .inl rfl, by simp, ho.1, hi, ho.2⟩
  | range a os => exact ⟨show "range".length ≤ 10 by decide, .inl rfl, by simp, ho.1, hi, ho.2⟩
  | «calc» x hx a b os => exact ⟨show "calc".length ≤ 10 by decide, .inr (.inr ⟨x, by
      simp only [List.mem_cons, List.not_mem_nil, or_false] at hx
      rcases hx with rfl | rfl | rfl | rfl | rfl | rfl | rfl <;> decide, rfl⟩), by simp, ho.1, hi, ho.2⟩
  | same a b os => exact ⟨show "same".length ≤ 10 by decide, .inl rfl, by simp, ho.1, hi, ho.2⟩
  | join a b os => exact ⟨show "join".length ≤ 10 by decide, .inl rfl, by simp, ho.1, hi, ho.2⟩
theorem Cok.sm {code : List Ins} {safe : List Nat} (h : Cok code safe) (hl : code.length ≤ 33) : ∀ i ∈ code, InsSm i := fun i hi => by
  obtain ⟨k, e⟩ := List.getElem?_of_mem hi
  have hk := (List.getElem?_eq_some_iff.mp e).1
  refine frm_sm (h.frm i hi) (fun r hr => by have := (h.ins k i e r hr).2; omega) ?_
  rw [h.out k i e]
  exact ⟨by simp, fun r hr => by rw [List.mem_singleton.mp hr]; omega⟩
theorem Mok.sm {code : List Ins} {safe : List Nat} (h : Cok code safe) (hl : code.length ≤ 33) {mc : List Ins} {mr : Nat} (hm : Mok code safe mc mr) : (∀ i ∈ mc, InsSm i) ∧ mc.length ≤ 34 ∧ mr ≤ 1000 := by
  cases hm with
  | flat r hr => exact ⟨h.sm hl, by omega, by have := h.saf mr hr; omega⟩
  | call a b r ha hb hr =>
    refine ⟨fun i hi => ?_, by rw [List.length_append]; simp; omega, ?_⟩
    · rcases List.mem_append.mp hi with hi | hi
      · exact h.sm hl i hi
      · rw [List.mem_singleton.mp hi]
        have h1 := h.saf a ha
        have h2 := h.saf b hb
        refine ⟨by show "call".length ≤ 10; decide, .inr (.inr ⟨"other", by decide, rfl⟩), by simp, by simp, ?_, ?_⟩
        · intro r hr; simp only [List.mem_cons, List.not_mem_nil, or_false] at hr; rcases hr with rfl | rfl | rfl <;> omega
        · intro r hr; simp only [List.mem_cons, List.not_mem_nil, or_false] at hr; omega
    · rcases hr with hr | rfl
      · have := h.saf mr hr; omega
      · omega
end Fl
set_option Elab.async false
set_option linter.all false
set_option maxRecDepth 100000
/-! Fl: rewriting blocks step by step; no program in sight. -/
namespace Fl
/-- an instruction that can trap or call -/
def trapB (i : Ins) : Bool := inT (.str i.nm) [.str "place", .str "range", .str "same", .str "call"] || ((i.nm == "calc") && inT i.ex [.str "/", .str "mod"])
def outI (i : Ins) : Nat := i.outs.headD 0
def usedB (o : Nat) (rest : List Ins) (outs : List Nat) : Bool := (rest.any fun i => i.ins.any fun k => decide (k = o)) || outs.any fun k => decide (k = o)
/-- name, extra and inputs are equal -/
def keyEq (i j : Ins) : Bool := (i.nm == j.nm) && (T.eqv i.ex j.ex && decide (i.ins = j.ins))
def ren (o n : Nat) (l : List Nat) : List Nat := l.map fun k => if k = o then n else k
def renI (o n : Nat) (i : Ins) : Ins := ⟨i.nm, i.ex, ren o n i.ins, i.outs⟩
def dropA (b : Blk) (k : Nat) : Option Blk := match b.code[k]? with
  | none => none
  | some i => if trapB i || usedB (outI i) (b.code.drop (k + 1)) b.outs then none else some ⟨b.nm, b.giv, b.res, b.code.take k ++ b.code.drop (k + 1), b.outs⟩
def shareA (b : Blk) (k e : Nat) : Option Blk := match b.code[k]?, b.code[e]? with
  | some i, some j => if e < k ∧ i.nm ≠ "call" ∧ keyEq i j = true then some ⟨b.nm, b.giv, b.res, b.code.take k ++ (b.code.drop (k + 1)).map (renI (outI i) (outI j)), ren (outI i) (outI j) b.outs⟩ else none
  | _, _ => none
inductive RSt where
  | drop (nm : String) (k : Int)
  | share (nm : String) (k e : Int)
  | swap (nm : String) (k e : Int)
def RSt.nm : RSt → String
  | .drop x _ => x
  | .share x _ _ => x
  | .swap x _ _ => x
def RSt.t : RSt → T
  | .drop x k => .tup [.str "drop", .str x, .int k]
  | .share x k e => .tup [.str "share", .str x, .int k, .int e]
  | .swap x k e => .tup [.str "swap", .str x, .int k, .int e]
def stepA (b : Blk) : RSt → Option Blk
  | .drop _ k => if 0 ≤ k then dropA b k.toNat else none
  | .share _ k e => if 0 ≤ k ∧ 0 ≤ e then shareA b k.toNat e.toNat else none
  | .swap _ _ _ => none
structure InsG (i : Ins) : Prop where
  flat : T.flat i.ex = true
  out : i.nm ≠ "call" → ∃ o, i.outs = [o]
  ne : i.outs ≠ []
  len : i.ins.length ≤ 60
structure GB (b : Blk) : Prop where
  ins : ∀ i ∈ b.code, InsG i
  len : b.code.length ≤ 90000
  outs : b.outs.length ≤ 60
theorem InsG.ren {i : Ins} (h : InsG i) (o n : Nat) : InsG (renI o n i) := ⟨h.flat, h.out, h.ne, by unfold renI Fl.ren; rw [List.length_map]; exact h.len⟩
theorem dropA_some {b b' : Blk} {k : Nat} (h : dropA b k = some b') : ∃ i, b.code[k]? = some i ∧ trapB i = false ∧ usedB (outI i) (b.code.drop (k + 1)) b.outs = false ∧ b' = ⟨b.nm, b.giv, b.res, b.code.take k ++ b.code.drop (k + 1), b.outs⟩ := by
  unfold dropA at h
  split at h
  · cases h
  · rename_i i e
    split at h
    · cases h
    · rename_i hn
      simp only [Bool.or_eq_true, not_or, Bool.not_eq_true] at hn
      exact ⟨i, e, hn.1, hn.2, (Option.some.inj h).symm⟩
theorem shareA_some {b b' : Blk} {k e : Nat} (h : shareA b k e = some b') : ∃ i j, b.code[k]? = some i ∧ b.code[e]? = some j ∧ e < k ∧ i.nm ≠ "call" ∧ keyEq i j = true ∧
    b' = ⟨b.nm, b.giv, b.res, b.code.take k ++ (b.code.drop (k + 1)).map (renI (outI i) (outI j)), ren (outI i) (outI j) b.outs⟩ := by
  unfold shareA at h
  split at h
  · rename_i i j e1 e2
    split at h
    · rename_i hn
      exact ⟨i, j, e1, e2, hn.1, hn.2.1, hn.2.2, (Option.some.inj h).symm⟩
    · cases h
  · cases h
theorem len_cut {α : Type} {l : List α} {k : Nat} (hk : k < l.length) : (l.take k ++ l.drop (k + 1)).length + 1 = l.length := by
  rw [List.length_append, List.length_take, List.length_drop]; omega
theorem lt_of_get {α : Type} {l : List α} {k : Nat} {x : α} (h : l[k]? = some x) : k < l.length := (List.getElem?_eq_some_iff.mp h).1
theorem GB.drop {b b' : Blk} (g : GB b) {k : Nat} (h : dropA b k = some b') : GB b' ∧ b'.nm = b.nm ∧ b'.code.length + 1 = b.code.length := by
  obtain ⟨i, e, _, _, rfl⟩ := dropA_some h
  have hk := lt_of_get e
  have hl := len_cut hk
  refine ⟨⟨fun i hi => ?_, by have := g.len; show (b.code.take k ++ b.code.drop (k + 1)).length ≤ 90000; omega, g.outs⟩, rfl, hl⟩
  rcases List.mem_append.mp (show i ∈ b.code.take k ++ b.code.drop (k + 1) from hi) with hi | hi
  · exact g.ins i (List.mem_of_mem_take hi)
  · exact g.ins i (List.mem_of_mem_drop hi)
theorem GB.share {b b' : Blk} (g : GB b) {k e : Nat} (h : shareA b k e = some b') : GB b' ∧ b'.nm = b.nm ∧ b'.code.length + 1 = b.code.length := by
  obtain ⟨i, j, e1, e2, _, _, _, rfl⟩ := shareA_some h
  have hk := lt_of_get e1
  have hl := len_cut hk
  have hl2 : (b.code.take k ++ (b.code.drop (k + 1)).map (renI (outI i) (outI j))).length + 1 = b.code.length := by
    rw [List.length_append, List.length_map, ← List.length_append]; exact hl
  refine ⟨⟨fun x hx => ?_, by have := g.len; show (b.code.take k ++ (b.code.drop (k + 1)).map (renI (outI i) (outI j))).length ≤ 90000; omega, by unfold ren; rw [List.length_map]; exact g.outs⟩, rfl, hl2⟩
  rcases List.mem_append.mp (show x ∈ b.code.take k ++ (b.code.drop (k + 1)).map (renI (outI i) (outI j)) from hx) with hi | hi
  · exact g.ins x (List.mem_of_mem_take hi)
  · obtain ⟨y, hy, rfl⟩ := List.mem_map.mp hi
    exact (g.ins y (List.mem_of_mem_drop hy)).ren _ _
theorem GB.step {b b' : Blk} (g : GB b) {st : RSt} (h : stepA b st = some b') : GB b' ∧ b'.nm = b.nm ∧ b'.code.length + 1 = b.code.length := by
  cases st with
  | drop x k =>
    simp only [stepA] at h
    by_cases c : 0 ≤ k
    · rw [if_pos c] at h; exact g.drop h
    · rw [if_neg c] at h; cases h
  | share x k e =>
    simp only [stepA] at h
    by_cases c : 0 ≤ k ∧ 0 ≤ e
    · rw [if_pos c] at h; exact g.share h
    · rw [if_neg c] at h; cases h
  | swap x k e => cases h
/-! ### keys -/
theorem flat_symm {a b : T} (ha : T.flat a = true) (hb : T.flat b = true) : T.eqv a b = T.eqv b a := by
  cases a <;> cases b <;> simp [T.flat] at ha hb <;> simp only [T.eqv] <;> first | rfl | exact BEq.comm
theorem keyEq_symm {i j : Ins} (hi : InsG i) (hj : InsG j) : keyEq i j = keyEq j i := by
  unfold keyEq
  rw [flat_symm hi.flat hj.flat, show (i.nm == j.nm) = (j.nm == i.nm) from BEq.comm]
  congr 2
  exact decide_eq_decide.mpr ⟨Eq.symm, Eq.symm⟩
theorem keyEq_nm {i j : Ins} (h : keyEq i j = true) : i.nm = j.nm := by
  unfold keyEq at h
  simp only [Bool.and_eq_true, beq_iff_eq] at h
  exact h.1
/-- an earlier one, a later one: nothing to share -/
def Dis (j i : Ins) : Prop := i.nm = "call" ∨ keyEq i j = false
theorem share_none {b : Blk} (h : b.code.Pairwise Dis) (k e : Nat) : shareA b k e = none := by
  cases hh : shareA b k e with
  | none => rfl
  | some b' =>
    obtain ⟨i, j, e1, e2, hlt, hn, hk, _⟩ := shareA_some hh
    obtain ⟨h1, e1⟩ := List.getElem?_eq_some_iff.mp e1
    obtain ⟨h2, e2⟩ := List.getElem?_eq_some_iff.mp e2
    have := List.pairwise_iff_getElem.mp h e k h2 h1 hlt
    rw [e1, e2] at this
    rcases this with z | z
    · exact absurd z hn
    · rw [hk] at z; cases z
theorem cut_pair {b : Blk} (h : b.code.Pairwise Dis) (k : Nat) : (b.code.take k ++ b.code.drop (k + 1)).Pairwise Dis := by
  refine h.sublist ?_
  have e := List.take_append_drop k b.code
  refine List.Sublist.trans ?_ (by rw [e]; exact List.Sublist.refl _ : (b.code.take k ++ b.code.drop k).Sublist b.code)
  refine List.Sublist.append (List.Sublist.refl _) ?_
  rw [show b.code.drop (k + 1) = (b.code.drop k).drop 1 by rw [List.drop_drop]]
  exact List.drop_sublist _ _
/-- from k on nothing can be dropped -/
def NDf (b : Blk) (k : Nat) : Prop := ∀ k', k ≤ k' → dropA b k' = none
theorem NDf.full (b : Blk) : NDf b b.code.length := fun k' h => by
  unfold dropA
  rw [List.getElem?_eq_none h]
theorem NDf.keep {b : Blk} {k : Nat} (h : NDf b (k + 1)) (hn : dropA b k = none) : NDf b k := fun k' hk => by
  by_cases e : k' = k
  · rw [e]; exact hn
  · exact h k' (by omega)
theorem NDf.cut {b b' : Blk} {k : Nat} (h : NDf b (k + 1)) (hd : dropA b k = some b') : NDf b' k := fun k' hk => by
  obtain ⟨i, e, _, _, rfl⟩ := dropA_some hd
  have hl := lt_of_get e
  have z := h (k' + 1) (by omega)
  have tl : (b.code.take k).length = k := by rw [List.length_take]; omega
  have g : (b.code.take k ++ b.code.drop (k + 1))[k']? = b.code[k' + 1]? := by
    rw [List.getElem?_append_right (by omega), tl, List.getElem?_drop]
    congr 1; omega
  have d : (b.code.take k ++ b.code.drop (k + 1)).drop (k' + 1) = b.code.drop (k' + 1 + 1) := by
    rw [List.drop_append, tl, List.drop_drop, List.drop_eq_nil_of_le (by omega), List.nil_append]
    congr 1; omega
  have nn : ∀ (b : Blk) (k : Nat), dropA b k = none ↔ ∀ i, b.code[k]? = some i → (trapB i || usedB (outI i) (b.code.drop (k + 1)) b.outs) = true := fun b k => by
    unfold dropA
    cases b.code[k]? with
    | none => simp
    | some i =>
      dsimp only
      by_cases c : (trapB i || usedB (outI i) (b.code.drop (k + 1)) b.outs) = true
      · rw [if_pos c]; exact ⟨fun _ j e => by cases e; exact c, fun _ => rfl⟩
      · rw [if_neg c]; exact ⟨(fun h => by cases h), fun h => absurd (h i rfl) c⟩
  rw [nn] at z ⊢
  intro x hx
  dsimp only at hx ⊢
  rw [g] at hx
  rw [d]
  exact z x hx
/-! ### a list of steps -/
/-- steps of one block, one after the other -/
def runA (b : Blk) : List RSt → Option Blk
  | [] => some b
  | st :: r => match stepA b st with
    | some b' => runA b' r
    | none => none
theorem runA_app {b1 b2 : Blk} : ∀ {l r : List RSt} {b : Blk}, runA b l = some b1 → runA b1 r = some b2 → runA b (l ++ r) = some b2
  | [], r, b, h, h2 => by cases h; exact h2
  | st :: l, r, b, h, h2 => by
    rw [List.cons_append]
    unfold runA at h ⊢
    split at h
    · rename_i b' e
      exact runA_app h h2
    · cases h
/-- the blocks' places by name -/
def fndB (p : List Blk) (x : String) : List Nat := (List.range p.length).filter fun i => (p[i]?.map (·.nm)) == some x
/-- the steps by their names; the number of the first one that is not accepted -/
def appL (p : List Blk) (st : RSt) : Option (List Blk) := match fndB p st.nm with
  | [] => none
  | j :: _ => match p[j]? with
    | some b => (stepA b st).map fun b' => p.set j b'
    | none => none
inductive RW where
  | ok (p : List Blk)
  | no (k : Nat)
def rew (p : List Blk) : Nat → List RSt → RW
  | _, [] => .ok p
  | k, st :: r => match appL p st with
    | some q => rew q (k + 1) r
    | none => .no k
def nmsB (p : List Blk) : List String := p.map (·.nm)
structure GL (p : List Blk) : Prop where
  all : ∀ b ∈ p, GB b
  len : p.length ≤ 50
theorem fndB_mem {p : List Blk} {x : String} {j : Nat} (h : j ∈ fndB p x) : ∃ b, p[j]? = some b ∧ b.nm = x := by
  unfold fndB at h
  rw [List.mem_filter] at h
  have h2 := h.2
  rw [beq_iff_eq] at h2
  exact Option.map_eq_some_iff.mp h2
theorem appL_some {p q : List Blk} {st : RSt} (h : appL p st = some q) : ∃ j b b', p[j]? = some b ∧ b.nm = st.nm ∧ stepA b st = some b' ∧ q = p.set j b' := by
  unfold appL at h
  split at h
  · cases h
  · rename_i j r e
    split at h
    · rename_i b eb
      obtain ⟨b', hb, rfl⟩ := Option.map_eq_some_iff.mp h
      obtain ⟨b2, e2, hn⟩ := fndB_mem (p := p) (x := st.nm) (j := j) (by rw [e]; exact List.mem_cons_self)
      rw [eb] at e2
      cases e2
      exact ⟨j, b, b', eb, hn, hb, rfl⟩
    · cases h
theorem GL.set {p : List Blk} (g : GL p) (j : Nat) {b : Blk} (hb : GB b) : GL (p.set j b) := ⟨fun x hx => by
  rcases List.mem_or_eq_of_mem_set hx with h | h
  · exact g.all x h
  · rw [h]; exact hb, by rw [List.length_set]; exact g.len⟩
theorem nms_set {p : List Blk} {j : Nat} {b b' : Blk} (h : p[j]? = some b) (hn : b'.nm = b.nm) : nmsB (p.set j b') = nmsB p := by
  unfold nmsB
  rw [List.map_set]
  apply List.ext_getElem?
  intro i
  by_cases c : j = i
  · subst c
    rw [List.getElem?_set_self (by rw [List.length_map]; exact lt_of_get h), List.getElem?_map, h, hn]
    rfl
  · rw [List.getElem?_set_ne c]
theorem GL.app {p q : List Blk} (g : GL p) {st : RSt} (h : appL p st = some q) : GL q ∧ nmsB q = nmsB p := by
  obtain ⟨j, b, b', h1, _, h3, rfl⟩ := appL_some h
  obtain ⟨g1, n1, _⟩ := (g.all b (List.mem_of_getElem? h1)).step h3
  exact ⟨g.set j g1, nms_set h1 n1⟩
theorem rew_snoc : ∀ {l : List RSt} {p : List Blk} {k : Nat} {st : RSt}, rew p k (l ++ [st]) = match rew p k l with
    | .no j => .no j
    | .ok q => match appL q st with
      | some q' => .ok q'
      | none => .no (k + l.length)
  | [], p, k, st => by
    show rew p k [st] = _
    simp only [rew, List.length_nil, Nat.add_zero]
  | x :: l, p, k, st => by
    rw [List.cons_append]
    simp only [rew]
    cases h : appL p x with
    | none => rfl
    | some q =>
      dsimp only
      rw [rew_snoc]
      rw [List.length_cons, show k + 1 + l.length = k + (l.length + 1) by omega]
theorem rew_app : ∀ {l r : List RSt} {p q : List Blk} {k : Nat}, rew p k l = .ok q → rew p k (l ++ r) = rew q (k + l.length) r
  | [], r, p, q, k, h => by cases h; rfl
  | x :: l, r, p, q, k, h => by
    rw [List.cons_append]
    simp only [rew] at h ⊢
    cases e : appL p x with
    | none => rw [e] at h; cases h
    | some q' =>
      rw [e] at h
      dsimp only at h ⊢
      rw [rew_app h, List.length_cons, show k + 1 + l.length = k + (l.length + 1) by omega]
theorem GL.rew : ∀ {l : List RSt} {p q : List Blk} {k : Nat}, GL p → Fl.rew p k l = .ok q → GL q ∧ nmsB q = nmsB p
  | [], p, q, k, g, h => by cases h; exact ⟨g, rfl⟩
  | x :: l, p, q, k, g, h => by
    simp only [Fl.rew] at h
    cases e : appL p x with
    | none => rw [e] at h; cases h
    | some q' =>
      rw [e] at h
      obtain ⟨g1, n1⟩ := g.app e
      obtain ⟨g2, n2⟩ := GL.rew g1 h
      exact ⟨g2, n2.trans n1⟩
/-- names that differ: a name's only place -/
theorem fnd_one {p : List Blk} (h : (nmsB p).Nodup) {j : Nat} {b : Blk} (hb : p[j]? = some b) : fndB p b.nm = [j] := by
  have hj := lt_of_get hb
  have e : ∀ i, i < p.length → (((p[i]?.map (·.nm)) == some b.nm) = decide (i = j)) := fun i hi => by
    rw [Bool.eq_iff_iff, beq_iff_eq, decide_eq_true_eq]
    constructor
    · intro h1
      obtain ⟨hx, e1⟩ := List.getElem?_eq_some_iff.mp hb
      rw [List.getElem?_eq_getElem hi, Option.map_some] at h1
      have h1' := Option.some.inj h1
      have nl : (nmsB p).length = p.length := by unfold nmsB; rw [List.length_map]
      have key := List.pairwise_iff_getElem.mp h
      have g : ∀ a (ha : a < (nmsB p).length), (nmsB p)[a] = (p[a]'(by omega)).nm := fun a ha => by simp [nmsB]
      rcases Nat.lt_trichotomy i j with c | c | c
      · have := key i j (by omega) (by omega) c
        rw [g, g, e1] at this
        exact absurd h1' this
      · exact c
      · have := key j i (by omega) (by omega) c
        rw [g, g, e1] at this
        exact absurd h1'.symm this
    · rintro rfl
      rw [hb]; rfl
  unfold fndB
  rw [List.filter_congr (q := fun i => decide (i = j)) fun i hi => e i (List.mem_range.mp hi)]
  have z : ∀ n, j < n → (List.range n).filter (fun i => decide (i = j)) = [j] := by
    intro n
    induction n with
    | zero => intro h; omega
    | succ n ih =>
      intro h
      rw [List.range_succ, List.filter_append]
      by_cases c : j = n
      · subst c
        rw [List.filter_eq_nil_iff.mpr (fun a ha => by have := List.mem_range.mp ha; simp; omega)]
        simp
      · rw [ih (by omega)]
        simp
        omega
  exact z _ hj
theorem rew_at : ∀ {l : List RSt} {p : List Blk} {j : Nat} {b b' : Blk} {k : Nat}, (nmsB p).Nodup → p[j]? = some b → GB b → (∀ st ∈ l, st.nm = b.nm) → runA b l = some b' → rew p k l = .ok (p.set j b')
  | [], p, j, b, b', k, _, hb, _, _, h => by
    cases h
    have : p.set j b = p := by
      apply List.ext_getElem?
      intro i
      by_cases c : j = i
      · subst c; rw [List.getElem?_set_self (lt_of_get hb), hb]
      · rw [List.getElem?_set_ne c]
    rw [this]; rfl
  | st :: l, p, j, b, b', k, hd, hb, g, hn, h => by
    unfold runA at h
    split at h
    · rename_i b1 e
      have h1 := hn st List.mem_cons_self
      obtain ⟨g1, n1, _⟩ := g.step e
      have : appL p st = some (p.set j b1) := by
        unfold appL
        rw [h1, fnd_one hd hb]
        dsimp only
        rw [hb]
        dsimp only
        rw [e]; rfl
      unfold rew
      rw [this]
      dsimp only
      have hb1 : (p.set j b1)[j]? = some b1 := List.getElem?_set_self (lt_of_get hb)
      rw [rew_at (by rw [nms_set hb n1]; exact hd) hb1 g1 (fun st hs => (hn st (List.mem_cons_of_mem _ hs)).trans n1.symm) h, List.set_set]
    · cases h
end Fl
set_option Elab.async false
set_option linter.all false
set_option maxRecDepth 100000
/-! Fl: the passes of the program: one step. -/
namespace Fl
noncomputable section
def g_may_trap (G : FEnv) : SM := sRet (eOr (eB (tIn (e2 subI (eVar 0) (eC (.int 0))) (eC (.tup [(.str "place"), (.str "range"), (.str "same"), (.str "call")])))) (eAnd (eB (tEq (e2 subI (eVar 0) (eC (.int 0))) (eC (.str "calc")))) (eB (tIn (e2 subI (eVar 0) (eC (.int 1))) (eTup false [eC (.str "/"), eC (.str "mod")])))))
def g_is_used (G : FEnv) : SM := sSeq (sAsg (e2 subI (e2 subI (e2 subI (eVar 0) (eC (.int 4))) (eVar 1)) (eC (.int 3))) (gVar 2)) (sSeq (sFor (iV (eSlice false (e2 subI (eVar 0) (eC (.int 4))) (some (e2 (addV false) (eVar 1) (eC (.int 1)))) none)) (gVar 3) (sIf (tTruth (e1 anyV (eComp false [4] (iV (e2 subI (eVar 3) (eC (.int 2)))) (gVar 4) none (eB (tIn (eVar 4) (eVar 2)))))) (sRet (eC (.bl true))) (sNil))) (sRet (e1 anyV (eComp false [4] (iV (e2 subI (eVar 0) (eC (.int 5)))) (gVar 4) none (eB (tIn (eVar 4) (eVar 2)))))))
def g_without (G : FEnv) : SM := sRet (e2 (addV false) (eSlice false (eVar 0) none (some (eC (.int 4)))) (eTup false [e2 (addV false) (eSlice false (e2 subI (eVar 0) (eC (.int 4))) none (some (eVar 1))) (eSlice false (e2 subI (eVar 0) (eC (.int 4))) (some (e2 (addV false) (eVar 1) (eC (.int 1)))) none), e2 subI (eVar 0) (eC (.int 5))]))
def g_renamed (G : FEnv) : SM := sRet (eComp false [3] (iV (eVar 0)) (gVar 3) none (eIf (tEq (eVar 3) (eVar 1)) (eVar 2) (eVar 3)))
def g_shared (G : FEnv) : SM := sSeq (sAsg (e2 subI (e2 subI (e2 subI (e2 subI (eVar 0) (eC (.int 4))) (eVar 1)) (eC (.int 3))) (eC (.int 0))) (gVar 3)) (sSeq (sAsg (e2 subI (e2 subI (e2 subI (e2 subI (eVar 0) (eC (.int 4))) (eVar 2)) (eC (.int 3))) (eC (.int 0))) (gVar 4)) (sSeq (sAsg (eSlice false (e2 subI (eVar 0) (eC (.int 4))) none (some (eVar 1))) (gVar 5)) (sSeq (sFor (iV (eSlice false (e2 subI (eVar 0) (eC (.int 4))) (some (e2 (addV false) (eVar 1) (eC (.int 1)))) none)) (gTup [6, 7, 8, 9]) (sAsg (e2 (addV false) (eVar 5) (eLst false [eTup false [eVar 6, eVar 7, eCall G 57 [eVar 8, eVar 3, eVar 4], e1 (listV false) (eVar 9)]])) (gVar 5))) (sRet (e2 (addV false) (eSlice false (eVar 0) none (some (eC (.int 4)))) (eTup false [eVar 5, eCall G 57 [e2 subI (eVar 0) (eC (.int 5)), eVar 3, eVar 4]]))))))
def g_step_applied (G : FEnv) : SM := sSeq (sAsg (e2 subI (eVar 0) (eC (.int 4))) (gVar 2)) (sSeq (sAsg (e2 subI (eVar 1) (eC (.int 2))) (gVar 3)) (sSeq (sIf (tOr (tLt (eVar 3) (eC (.int 0))) (tGe (eVar 3) (e1 lenV (eVar 2)))) (sRet (eC .non)) (sNil)) (sSeq (sIf (tEq (e2 subI (eVar 1) (eC (.int 0))) (eC (.str "drop"))) (sSeq (sIf (tOr (tTruth (eCall G 54 [e2 subI (eVar 2) (eVar 3)])) (tTruth (eCall G 55 [eVar 0, eVar 3]))) (sRet (eC .non)) (sNil)) (sRet (eCall G 56 [eVar 0, eVar 3]))) (sNil)) (sSeq (sAsg (e2 subI (eVar 1) (eC (.int 3))) (gVar 4)) (sSeq (sIf (tOr (tNe (e2 subI (eVar 1) (eC (.int 0))) (eC (.str "share"))) (tOr (tLt (eVar 4) (eC (.int 0))) (tGe (eVar 4) (eVar 3)))) (sRet (eC .non)) (sNil)) (sSeq (sIf (tOr (tEq (e2 subI (e2 subI (eVar 2) (eVar 3)) (eC (.int 0))) (eC (.str "call"))) (tNe (eSlice false (e2 subI (eVar 2) (eVar 3)) none (some (eC (.int 3)))) (eSlice false (e2 subI (eVar 2) (eVar 4)) none (some (eC (.int 3)))))) (sRet (eC .non)) (sNil)) (sRet (eCall G 58 [eVar 0, eVar 3, eVar 4]))))))))
def ga_duplicate (G : FEnv) : SM := sSeq (sAsg (eComp false [2, 3, 4, 5] (iV (e2 subI (eVar 0) (eC (.int 4)))) (gTup [2, 3, 4, 5]) none (eTup false [eVar 2, eVar 3, e1 (listV false) (eVar 4), e1 (listV false) (eVar 5)])) (gVar 1)) (sRet (e2 (addV false) (eSlice false (eVar 0) none (some (eC (.int 4)))) (eTup false [eVar 1, e1 (listV false) (e2 subI (eVar 0) (eC (.int 5)))])))
def g_rewrite (G : FEnv) : SM := sSeq (sAsg (eComp true [3] (iV (eVar 0)) (gVar 3) none (eCall G 20 [eVar 3])) (gVar 2)) (sSeq (sSeq (sFor (iEnum (eVar 1)) (gTup [4, 5]) (sSeq (sAsg (eCompN false [8, 3] (nE (eVar 2)) (gTup [8, 3]) (some (tEq (e2 subI (eVar 3) (eC (.int 1))) (e2 subI (eVar 5) (eC (.int 1))))) (eVar 8)) (gVar 6)) (sSeq (sAsg (eIf (tTruth (eVar 6)) (eCall G 59 [e2 subI (eVar 2) (e2 subI (eVar 6) (eC (.int 0))), eVar 5]) (eC .non)) (gVar 7)) (sSeq (sIf (tIsN (eVar 7)) (sRaiseA "PaperError" (eVar 4)) (sNil)) (sSub (eVar 7) (eVar 2) (e2 subI (eVar 6) (eC (.int 0)))))))) (sFz 2)) (sRet (e1 freeze (eVar 2))))
def g_share_all (G : FEnv) : SM := sSeq (sAsg (eKd) (gVar 2)) (sSeq (sAsg (eC (.int 0)) (gVar 3)) (sSeq (sWhile (tLt (eVar 3) (e1 lenV (e2 subI (eVar 0) (eC (.int 4))))) (sSeq (sAsg (e2 subI (e2 subI (eVar 0) (eC (.int 4))) (eVar 3)) (gTup [5, 6, 7, 8])) (sSeq (sAsg (eTup false [eVar 5, eVar 6, e1 (tupleV false) (eVar 7)]) (gVar 4)) (sIf (tAnd (tNe (eVar 5) (eC (.str "call"))) (tInK (eVar 4) (eVar 2))) (sSeq (sAsg (eTup false [eC (.str "share"), e2 subI (eVar 0) (eC (.int 1)), eVar 3, eIxK (eVar 2) (eVar 4)]) (gVar 9)) (sSeq (sExpr (e2c lstC appendV (eVar 1) (eVar 9))) (sAsg (eCall G 59 [eVar 0, eVar 9]) (gVar 0)))) (sSeq (sSubK (eVar 3) (eVar 2) (eVar 4)) (sAsg (e2 (addV false) (eVar 3) (eC (.int 1))) (gVar 3))))))) (sRet (eVar 0))))
def g_drop_all (G : FEnv) : SM := sFor (iDownC (e2 subV (e1 lenV (e2 subI (eVar 0) (eC (.int 4)))) (eC (.int 1))) (e1 negV (eC (.int 1))) (e1 negV (eC (.int 1)))) (gVar 2) (sSeq (sAsg (eTup false [eC (.str "drop"), e2 subI (eVar 0) (eC (.int 1)), eVar 2]) (gVar 3)) (sSeq (sAsg (eCall G 59 [eVar 0, eVar 3]) (gVar 4)) (sIf (tNotN (eVar 4)) (sSeq (sExpr (e2c lstC appendV (eVar 1) (eVar 3))) (sAsg (eVar 4) (gVar 0))) (sNil))))
def g_improve (G : FEnv) : SM := sSeq (sAsg (eLst true []) (gVar 1)) (sSeq (sFor (iV (eVar 0)) (gVar 2) (sExpr (eCall G 62 [eCall G 61 [eVar 2, eVar 1], eVar 1]))) (sRet (e1 freeze (eVar 1))))
end
structure BaseA (Γ : Nat → FEnv) : Prop where
  may_trap : ∀ n, Γ (n + 1) 54 = mkFn 1 1 (g_may_trap (Γ n))
  is_used : ∀ n, Γ (n + 1) 55 = mkFn 5 2 (g_is_used (Γ n))
  without : ∀ n, Γ (n + 1) 56 = mkFn 2 2 (g_without (Γ n))
  renamed : ∀ n, Γ (n + 1) 57 = mkFn 4 3 (g_renamed (Γ n))
  shared : ∀ n, Γ (n + 1) 58 = mkFn 10 3 (g_shared (Γ n))
  step_applied : ∀ n, Γ (n + 1) 59 = mkFn 5 2 (g_step_applied (Γ n))
  duplicate : ∀ n, Γ (n + 1) 20 = mkFn 6 1 (ga_duplicate (Γ n))
  rewrite : ∀ n, Γ (n + 1) 60 = mkFn 9 2 (g_rewrite (Γ n))
  share_all : ∀ n, Γ (n + 1) 61 = mkFn 10 2 (g_share_all (Γ n))
  drop_all : ∀ n, Γ (n + 1) 62 = mkFn 5 2 (g_drop_all (Γ n))
  improve : ∀ n, Γ (n + 1) 63 = mkFn 3 1 (g_improve (Γ n))
theorem for_find {β : Type} {g : CG} {b : SM} {iw : β → Val} {s : Store} (t : β → Option Val) (P : Env → Prop) : ∀ (xs : List β) (ρ : Env), P ρ →
    (∀ x ∈ xs, ∀ ρ, P ρ → ∃ ρ1, g (iw x) ρ s = .ok ρ1 s ∧ ((t x = none ∧ ∃ ρ2, b ρ1 s = .nx ρ2 s ∧ P ρ2) ∨ ∃ v, t x = some v ∧ b ρ1 s = .rt v s)) →
    (∃ v, xs.findSome? t = some v ∧ forL g b (xs.map iw) ρ s = .rt v s) ∨ (xs.findSome? t = none ∧ ∃ ρ', forL g b (xs.map iw) ρ s = .nx ρ' s ∧ P ρ')
  | [], ρ, h0, _ => .inr ⟨rfl, ρ, rfl, h0⟩
  | x :: r, ρ, h0, hs => by
    obtain ⟨ρ1, h1, h2⟩ := hs x List.mem_cons_self ρ h0
    have e : forL g b ((x :: r).map iw) ρ s = (match b ρ1 s with
        | .nx ρ2 s2 => forL g b (r.map iw) ρ2 s2
        | .ct ρ2 s2 => forL g b (r.map iw) ρ2 s2
        | .bk ρ2 s2 => .nx ρ2 s2
        | o => o) := by
      rw [List.map_cons]
      show (g (iw x) ρ s).so _ _ = _
      rw [h1]
      rfl
    rw [e]
    rcases h2 with ⟨h2, ρ2, h3, h4⟩ | ⟨v, h2, h3⟩
    · rw [h3, List.findSome?_cons, h2]
      exact for_find t P r ρ2 h4 fun y hy => hs y (List.mem_cons_of_mem _ hy)
    · rw [h3, List.findSome?_cons, h2]
      exact .inl ⟨v, rfl, rfl⟩
theorem in_tup {d : T} {ts : List T} (h1 : T.flat d = true) (h2 : ts.all T.flat = true) (s : Store) : inV (.t d) (.t (.tup ts)) s = .ok (inT d ts) s := by
  show (if T.flat d && ts.all T.flat then R.ok (inT d ts) s else .bad) = _
  rw [h1, h2]; rfl
theorem inT_ni (k : Nat) (l : List Nat) : inT (.int (k : Nat)) ((ni l).map .int) = l.any fun o => decide (o = k) := by
  unfold inT ni
  rw [List.any_map, List.any_map]
  congr 1
  funext o
  simp only [Function.comp, T.eqv]
  rw [Bool.eq_iff_iff]
  simp only [beq_iff_eq, decide_eq_true_eq]
  omega
theorem in_ni (k : Nat) (l : List Nat) (s : Store) : inV (iv (k : Nat)) (.t (li (ni l))) s = .ok (l.any fun o => decide (o = k)) s := by
  show (if T.plain 60 (.int (k : Nat)) && ((ni l).map T.int).all (T.plain 60) then R.ok (inT (.int (k : Nat)) ((ni l).map .int)) s else .bad) = _
  rw [inT_ni, if_pos]
  rw [Bool.and_eq_true, List.all_eq_true]
  refine ⟨by rw [T.plain], fun d hd => ?_⟩
  obtain ⟨i, _, rfl⟩ := List.mem_map.mp hd
  rw [T.plain]
theorem bools_any (bs : List Bool) (s : Store) : anyV (.t (.lst (bs.map .bl))) s = .ok (.t (.bl (bs.any id))) s := by
  have : boolsOf ((bs.map T.bl).map Val.t) = some bs := by
    induction bs with
    | nil => rfl
    | cons b r ih => simp only [List.map_cons, boolsOf, ih]
  show ((itemsL (.t (.lst (bs.map T.bl))) s).bind fun vs s => match boolsOf vs with
  | some bs => .ok (vB (bs.any id)) s
  | none => .bad) = _
  show (match boolsOf ((bs.map T.bl).map Val.t) with
  | some bs => R.ok (vB (bs.any id)) s
  | none => .bad) = _
  rw [this]; rfl
theorem blk_get4 (b : Blk) (s : Store) : subI (.t b.t) (.t (.int 4)) s = .ok (.t (.lst (b.code.map Ins.t))) s := nrfl rfl
theorem blk_get5 (b : Blk) (s : Store) : subI (.t b.t) (.t (.int 5)) s = .ok (.t (li (ni b.outs))) s := nrfl rfl
theorem blk_get1 (b : Blk) (s : Store) : subI (.t b.t) (.t (.int 1)) s = .ok (.t (.str b.nm)) s := nrfl rfl
theorem code_get {b : Blk} {k : Nat} {i : Ins} (h : b.code[k]? = some i) (s : Store) : subI (.t (.lst (b.code.map Ins.t))) (iv (k : Nat)) s = .ok (.t i.t) s := lst_get (by rw [List.getElem?_map, h]; rfl) s
theorem one_out {i : Ins} (g : InsG i) (hn : i.nm ≠ "call") : i.outs = [outI i] := by
  obtain ⟨o, e⟩ := g.out hn
  unfold outI
  rw [e]; rfl
theorem li_get0 (o : Nat) (s : Store) : subI (.t (li (ni [o]))) (.t (.int 0)) s = .ok (iv (o : Nat)) s := nrfl rfl
theorem code_tail (b : Blk) {k : Nat} (hk : k < b.code.length) (s : Store) : sliceV false (.t (.lst (b.code.map Ins.t))) (some ((k : Nat) + 1)) none s = .ok (.t (.lst ((b.code.drop (k + 1)).map Ins.t))) s := by
  rw [lst_sliceV, show ((k : Nat) : Int) + 1 = ((k + 1 : Nat) : Int) by omega, slice_drop (a := k + 1) (xs := b.code.map Ins.t) (by rw [List.length_map]; omega), ← List.map_drop]
theorem code_head (b : Blk) {k : Nat} (hk : k < b.code.length) (s : Store) : sliceV false (.t (.lst (b.code.map Ins.t))) none (some ((k : Nat) : Int)) s = .ok (.t (.lst ((b.code.take k).map Ins.t))) s := by
  rw [lst_sliceV, slice_take (a := k) (xs := b.code.map Ins.t) (by rw [List.length_map]; omega), ← List.map_take]
theorem blk_head (b : Blk) (s : Store) : sliceV false (.t b.t) none (some 4) s = .ok (.t (.tup [.str "block", .str b.nm, b.giv.t, b.res.t])) s := by
  have e : ∀ (a b c d e f : T), sliceV false (.t (.tup [a, b, c, d, e, f])) none (some 4) s = .ok (.t (.tup [a, b, c, d])) s := fun a b c d e f => by
    show (if pyCut 6 0 none = 0 ∧ pyCut 6 6 (some 4) = 6 then R.bad else R.ok (Val.t (T.tup (slice [a, b, c, d, e, f] none (some 4)))) s) = _
    rw [if_neg (by decide)]
    rfl
  exact e _ _ _ _ _ _
theorem blk_join (x g r c o : T) (s : Store) : addV false (.t (.tup [.str "block", x, g, r])) (.t (.tup [c, o])) s = .ok (.t (.tup [.str "block", x, g, r, c, o])) s := nrfl rfl
theorem add_code {a b : List Ins} (h : a.length + b.length ≤ 16000000) (s : Store) : addV false (.t (.lst (a.map Ins.t))) (.t (.lst (b.map Ins.t))) s = .ok (.t (.lst ((a ++ b).map Ins.t))) s := by
  rw [add_tt _ _ _ _ (by rw [List.length_map, List.length_map]; show _ ≤ 16777216; omega), newL_t, List.map_append]
section
variable {Γ : Nat → FEnv}
theorem a_trap (B : BaseA Γ) (n : Nat) {i : Ins} (g : InsG i) (s : Store) (hw : Wf s) : Γ (n + 1) 54 [.t i.t] s = .ok (.t (.bl (trapB i))) s := by
  rw [B.may_trap]
  refine fn_Rt rfl hw ?_
  have h1 := in_tup (d := .str i.nm) (ts := [.str "place", .str "range", .str "same", .str "call"]) rfl rfl s
  have h2 := in_tup (d := i.ex) (ts := [.str "/", .str "mod"]) g.flat rfl s
  simp only [g_may_trap, start, List.map_cons, List.map_nil, List.length_cons, List.length_nil, List.replicate, List.cons_append, List.nil_append, p_ret, p_eOr, p_eAnd, p_eB, p_tIn, p_tEq, p_e2, p_var0, p_ok, p_eC, ins_0, ins_1, p_tup, p_vals, p_vals0, newT2, h1, h2, p_getB, p_eqS]
  unfold trapB
  cases inT (.str i.nm) [.str "place", .str "range", .str "same", .str "call"] with
  | true => exact Rt.self
  | false =>
    rw [if_neg (by decide)]
    cases (i.nm == "calc") with
    | false => exact Rt.self
    | true => rw [if_pos rfl]; exact Rt.self
theorem any_run {o : Nat} (l : List Nat) (f : CE) (v : Nat → Val) (ρ : Env) (s : Store) (hf : ∀ k, f (ρ.set 4 (some (iv (k : Nat)))) s = .ok (iv (k : Nat)) s) (h2 : ∀ k : Nat, eVar 2 (ρ.set 4 (some (iv (k : Nat)))) s = .ok (.t (li (ni [o]))) s) :
    compL (gVar 4) none (eB (tIn f (eVar 2))) ρ ((ni l).map iv) s = .ok ((l.map fun k => decide (k = o)).map fun b => Val.t (.bl b)) s := by
  have := comp_map (g := gVar 4) (f := eB (tIn f (eVar 2))) (ρ := ρ) (s := s) (fun k : Nat => iv (k : Nat)) (fun k : Nat => Val.t (.bl (decide (k = o)))) l fun k _ => ⟨ρ.set 4 (some (iv (k : Nat))), rfl, by
    simp only [p_eB, p_tIn, hf, h2, p_ok, in_ni]
    simp [eq_comm]⟩
  rw [← ni_iv]
  rw [this, List.map_map]; rfl
end
end Fl
set_option Elab.async false
set_option linter.all false
set_option maxRecDepth 100000
/-! Fl: the passes of the program: is_used, without, shared. -/
namespace Fl
section
variable {Γ : Nat → FEnv}
theorem a_used (B : BaseA Γ) (n : Nat) {b : Blk} (g : GB b) {k : Nat} {i : Ins} (hi : b.code[k]? = some i) (hn : i.nm ≠ "call") (s : Store) (hw : Wf s) : Γ (n + 1) 55 [.t b.t, iv (k : Nat)] s = .ok (.t (.bl (usedB (outI i) (b.code.drop (k + 1)) b.outs))) s := by
  have hk := lt_of_get hi
  have gi := g.ins i (List.mem_of_getElem? hi)
  have ho := one_out gi hn
  rw [B.is_used]
  refine fn_Rt rfl hw ?_
  rw [show start 5 [.t b.t, iv (k : Nat)] = [some (.t b.t), some (iv (k : Nat)), none, none, none] from rfl]
  have h1 := blk_get4 b s
  have h2 := code_get hi s
  have h3 := ins_3 i s
  rw [ho] at h3
  have h4 := code_tail b hk s
  have h5 := blk_get5 b s
  have hin : ∀ (l : List Nat) (ρ : Env), ρ.length = 5 → (ρ[2]? = some (some (.t (li (ni [outI i]))))) → compL (gVar 4) none (eB (tIn (eVar 4) (eVar 2))) ρ ((ni l).map iv) s = .ok ((l.map fun k => decide (k = outI i)).map fun b => Val.t (.bl b)) s := fun l ρ hl h2 => by
    refine any_run l (eVar 4) (fun k => iv k) ρ s (fun k => ?_) fun k => ?_
    · refine p_eVar ?_
      rw [List.getElem?_set_self (by omega)]
    · refine p_eVar ?_
      rw [List.getElem?_set_ne (by omega)]
      exact h2
  have hcomp : ∀ (l : List Nat) (a : CE) (ρ : Env), ρ.length = 5 → ρ[2]? = some (some (.t (li (ni [outI i])))) → a ρ s = .ok (.t (li (ni l))) s → eComp false [4] (iV a) (gVar 4) none (eB (tIn (eVar 4) (eVar 2))) ρ s = .ok (.t (.lst ((l.map fun k => decide (k = outI i)).map .bl))) s := fun l a ρ hl h2 ha => by
    rw [p_comp, p_iV, ha, p_ok, li_iter, p_ok]
    rw [hin l (wipeE ρ [4]) (by simp [wipeE, hl]) (by simp only [wipeE]; rw [List.getElem?_set_ne (by omega)]; exact h2), p_ok]
    rw [show ((l.map fun k => decide (k = outI i)).map fun b => Val.t (.bl b)) = ((l.map fun k => decide (k = outI i)).map T.bl).map Val.t by rw [List.map_map (g := Val.t)]; rfl]
    exact newL_t _ s
  simp only [g_is_used, p_seq2, p_asgV, p_e2, p_var0, p_varS, p_ok, p_eC, h1, h2, h3, p_sok, then_nx, List.set, p_for, p_iV, p_slice10, p_add, p_getI, h4]
  rw [show (.t (.lst ((b.code.drop (k + 1)).map Ins.t)) : Val) = .t (.lst ((b.code.drop (k + 1)).map Ins.t)) from rfl, lst_iter, p_sok]
  rw [show ((b.code.drop (k + 1)).map Ins.t).map Val.t = (b.code.drop (k + 1)).map fun i => .t i.t by rw [List.map_map]; rfl]
  generalize hb : b.code.drop (k + 1) = rest
  have any_eq : ∀ l : List Nat, ((l.map fun k => decide (k = outI i)).any id) = l.any fun k => decide (k = outI i) := fun l => by rw [List.any_map]; rfl
  rcases for_find (g := gVar 3) (b := sIf (tTruth (e1 anyV (eComp false [4] (iV (e2 subI (eVar 3) (eC (.int 2)))) (gVar 4) none (eB (tIn (eVar 4) (eVar 2)))))) (sRet (eC (.bl true))) sNil) (iw := fun i : Ins => .t i.t) (s := s)
      (fun x : Ins => if (x.ins.any fun k => decide (k = outI i)) = true then some (Val.t (.bl true)) else none) (fun ρ => ∃ x3, ρ = [some (.t b.t), some (iv (k : Nat)), some (.t (li (ni [outI i]))), x3, none]) rest
      [some (.t b.t), some (iv (k : Nat)), some (.t (li (ni [outI i]))), none, none] ⟨_, rfl⟩ (by
      rintro x hx ρ ⟨x3, rfl⟩
      refine ⟨_, rfl, ?_⟩
      have hc := hcomp x.ins (e2 subI (eVar 3) (eC (.int 2))) [some (.t b.t), some (iv (k : Nat)), some (.t (li (ni [outI i]))), some (.t x.t), none] rfl rfl (by simp only [p_e2, p_var0, p_varS, p_ok, p_eC, ins_2])
      simp only [List.set, p_if, p_tTruth, p_e1, hc, p_ok, bools_any, any_eq]
      show (_ ∧ ∃ ρ2, (truthV (.t (.bl _)) s).so _ _ = _ ∧ _) ∨ ∃ v, _ ∧ (truthV (.t (.bl _)) s).so _ _ = _
      cases (x.ins.any fun k => decide (k = outI i)) with
      | true => exact .inr ⟨_, rfl, rfl⟩
      | false => exact .inl ⟨rfl, _, rfl, _, rfl⟩) with ⟨v, hf, e⟩ | ⟨hf, ρ', e, x3, rfl⟩
  · rw [e, then_rt]
    obtain ⟨x, hx, hv⟩ := List.exists_of_findSome?_eq_some hf
    split at hv
    · rename_i hc
      cases hv
      have : usedB (outI i) rest b.outs = true := by
        unfold usedB
        rw [Bool.or_eq_true]
        exact .inl (List.any_eq_true.mpr ⟨x, hx, hc⟩)
      rw [this]
      exact Rt.self
    · cases hv
  · rw [e, then_nx]
    have hn : (rest.any fun i' => i'.ins.any fun k => decide (k = outI i)) = false := by
      rw [List.any_eq_false]
      intro x hx hc
      have := List.findSome?_eq_none_iff.mp hf x hx
      rw [if_pos hc] at this
      cases this
    have hc := hcomp b.outs (e2 subI (eVar 0) (eC (.int 5))) [some (.t b.t), some (iv (k : Nat)), some (.t (li (ni [outI i]))), x3, none] rfl rfl (by simp only [p_e2, p_var0, p_varS, p_ok, p_eC, h5])
    simp only [p_ret, p_e1, hc, p_ok, bools_any, any_eq, p_sok]
    unfold usedB
    rw [hn, Bool.false_or]
    exact Rt.self
theorem a_without (B : BaseA Γ) (n : Nat) {b : Blk} (g : GB b) {k : Nat} (hk : k < b.code.length) (s : Store) (hw : Wf s) : Γ (n + 1) 56 [.t b.t, iv (k : Nat)] s = .ok (.t (Blk.t ⟨b.nm, b.giv, b.res, b.code.take k ++ b.code.drop (k + 1), b.outs⟩)) s := by
  rw [B.without]
  refine fn_Rt rfl hw ?_
  rw [show start 2 [.t b.t, iv (k : Nat)] = [some (.t b.t), some (iv (k : Nat))] from rfl]
  have hl := g.len
  have ha := add_code (a := b.code.take k) (b := b.code.drop (k + 1)) (by rw [List.length_take, List.length_drop]; omega) s
  simp only [g_without, p_ret, p_e2, p_var0, p_varS, p_ok, p_eC, p_slice01, p_slice10, p_getI, p_add, blk_head, blk_get4, blk_get5, code_head b hk, code_tail b hk, p_tup, p_vals, p_vals0, ha, newT2, blk_join, p_sok]
  exact Rt.self
theorem a_renamed (B : BaseA Γ) (n : Nat) (l : List Nat) (o m : Nat) (s : Store) (hw : Wf s) : Γ (n + 1) 57 [.t (li (ni l)), iv (o : Nat), iv (m : Nat)] s = .ok (.t (li (ni (ren o m l)))) s := by
  rw [B.renamed]
  refine fn_Rt rfl hw ?_
  rw [show start 4 [.t (li (ni l)), iv (o : Nat), iv (m : Nat)] = [some (.t (li (ni l))), some (iv (o : Nat)), some (iv (m : Nat)), none] from rfl]
  simp only [g_renamed, p_ret, p_comp, p_iV, p_var0, p_ok, li_iter, wipeE, List.set]
  rw [← ni_iv]
  have := comp_map (g := gVar 3) (f := eIf (tEq (eVar 3) (eVar 1)) (eVar 2) (eVar 3)) (ρ := [some (.t (li (ni l))), some (iv (o : Nat)), some (iv (m : Nat)), none]) (s := s) (fun k : Nat => iv (k : Nat)) (fun k : Nat => iv ((if k = o then m else k : Nat) : Nat)) l fun k _ => ⟨_, rfl, by
    simp only [List.set, p_eIf, p_tEq, p_varS, p_var0, p_ok, p_eqI]
    by_cases c : k = o
    · subst c; simp
    · rw [if_neg c, if_neg (by simp; omega)]⟩
  rw [this, p_ok]
  rw [show (l.map fun k : Nat => iv ((if k = o then m else k : Nat) : Nat)) = (ni (ren o m l)).map iv by unfold ren ni; rw [List.map_map, List.map_map]; rfl, li_new, p_sok]
  exact Rt.self
theorem list_li (l : List Nat) (s : Store) : listV false (.t (li (ni l))) s = .ok (.t (li (ni l))) s := by
  show ((items (.t (.lst ((ni l).map .int))) s).bind fun vs => newL false vs) = _
  rw [li_itms, p_ok, li_new]
theorem ins_g4 (i : Ins) (a b c d : Nat) (ρ : Env) (s : Store) : gTup [a, b, c, d] (.t i.t) ρ s = .ok ((((ρ.set a (some (.t (.str i.nm)))).set b (some (.t i.ex))).set c (some (.t (li (ni i.ins))))).set d (some (.t (li (ni i.outs))))) s := nrfl rfl
theorem a_shared (B : BaseA Γ) (n : Nat) {b : Blk} (g : GB b) {k e : Nat} {i j : Ins} (hi : b.code[k]? = some i) (hj : b.code[e]? = some j) (hn : i.nm ≠ "call") (hn2 : j.nm ≠ "call") (s : Store) (hw : Wf s) :
    Γ (n + 2) 58 [.t b.t, iv (k : Nat), iv (e : Nat)] s = .ok (.t (Blk.t ⟨b.nm, b.giv, b.res, b.code.take k ++ (b.code.drop (k + 1)).map (renI (outI i) (outI j)), ren (outI i) (outI j) b.outs⟩)) s := by
  have hk := lt_of_get hi
  have ho := one_out (g.ins i (List.mem_of_getElem? hi)) hn
  have ho2 := one_out (g.ins j (List.mem_of_getElem? hj)) hn2
  have hl := g.len
  rw [B.shared]
  refine fn_Rt rfl hw ?_
  rw [show start 10 [.t b.t, iv (k : Nat), iv (e : Nat)] = [some (.t b.t), some (iv (k : Nat)), some (iv (e : Nat)), none, none, none, none, none, none, none] from rfl]
  have h3 := ins_3 i s
  rw [ho] at h3
  have h4 := ins_3 j s
  rw [ho2] at h4
  simp only [g_shared, p_seq2, p_asgV, p_e2, p_var0, p_varS, p_ok, p_eC, blk_get4, code_get hi, code_get hj, h3, h4, li_get0, p_sok, then_nx, List.set, p_slice01, p_getI, code_head b hk, p_for, p_iV, p_slice10, p_add, code_tail b hk]
  rw [lst_iter, p_sok]
  rw [show ((b.code.drop (k + 1)).map Ins.t).map Val.t = (b.code.drop (k + 1)).map fun i => .t i.t by rw [List.map_map]; rfl]
  generalize hc : forL _ _ _ _ _ = o
  obtain ⟨ρ', s', rfl, rfl, x6, x7, x8, x9, rfl⟩ := for_pre hc (fun p ρ s1 => s1 = s ∧ ∃ x6 x7 x8 x9, ρ = [some (.t b.t), some (iv (k : Nat)), some (iv (e : Nat)), some (iv (outI i : Nat)), some (iv (outI j : Nat)), some (.t (.lst ((b.code.take k ++ p.map (renI (outI i) (outI j))).map Ins.t))), x6, x7, x8, x9]) ⟨rfl, none, none, none, none, by simp⟩ (by
    rintro p x q eq ρ s1 ⟨rfl, x6, x7, x8, x9, rfl⟩
    have hp : (b.code.take k ++ p.map (renI (outI i) (outI j))).length ≤ 200000 := by
      have := congrArg List.length eq
      rw [List.length_drop, List.length_append] at this
      rw [List.length_append, List.length_take, List.length_map]; omega
    have ha := add_code (a := b.code.take k ++ p.map (renI (outI i) (outI j))) (b := [renI (outI i) (outI j) x]) (by rw [List.length_singleton]; omega) s1
    have hr := a_renamed B n x.ins (outI i) (outI j) s1 hw
    refine ⟨_, _, [some (.t b.t), some (iv (k : Nat)), some (iv (e : Nat)), some (iv (outI i : Nat)), some (iv (outI j : Nat)), some (.t (.lst ((b.code.take k ++ (p ++ [x]).map (renI (outI i) (outI j))).map Ins.t))), some (.t (.str x.nm)), some (.t x.ex), some (.t (li (ni x.ins))), some (.t (li (ni x.outs)))], s1, ins_g4 x 6 7 8 9 _ s1, ?_, rfl, _, _, _, _, rfl⟩
    simp only [List.set, p_asgV, p_e2, p_e1, p_var0, p_varS, p_ok, p_lst, p_vals, p_vals0, p_tup, p_call, hr, list_li, newT4, newL1]
    rw [show ([.tup [.str x.nm, x.ex, li (ni (ren (outI i) (outI j) x.ins)), li (ni x.outs)]] : List T) = [renI (outI i) (outI j) x].map Ins.t from rfl, ha, p_sok]
    simp only [List.set, List.map_append, List.append_assoc, List.map_cons, List.map_nil])
  have hr := a_renamed B n b.outs (outI i) (outI j) s' hw
  simp only [then_nx, p_ret, p_e2, p_var0, p_varS, p_ok, p_eC, p_slice01, p_getI, blk_head, blk_get5, p_tup, p_vals, p_vals0, p_call, hr, newT2, blk_join, p_sok]
  exact Rt.self
end
end Fl
set_option Elab.async false
set_option linter.all false
set_option maxRecDepth 100000
/-! Fl: the passes of the program: a step. -/
namespace Fl
theorem drop_0 (x : String) (k : Int) (s : Store) : subI (.t (RSt.drop x k).t) (.t (.int 0)) s = .ok (.t (.str "drop")) s := nrfl rfl
theorem drop_2 (x : String) (k : Int) (s : Store) : subI (.t (RSt.drop x k).t) (.t (.int 2)) s = .ok (iv k) s := nrfl rfl
theorem share_0 (x : String) (k e : Int) (s : Store) : subI (.t (RSt.share x k e).t) (.t (.int 0)) s = .ok (.t (.str "share")) s := nrfl rfl
theorem share_2 (x : String) (k e : Int) (s : Store) : subI (.t (RSt.share x k e).t) (.t (.int 2)) s = .ok (iv k) s := nrfl rfl
theorem share_3 (x : String) (k e : Int) (s : Store) : subI (.t (RSt.share x k e).t) (.t (.int 3)) s = .ok (iv e) s := nrfl rfl
theorem swap_0 (x : String) (k e : Int) (s : Store) : subI (.t (RSt.swap x k e).t) (.t (.int 0)) s = .ok (.t (.str "swap")) s := nrfl rfl
theorem swap_2 (x : String) (k e : Int) (s : Store) : subI (.t (RSt.swap x k e).t) (.t (.int 2)) s = .ok (iv k) s := nrfl rfl
theorem swap_3 (x : String) (k e : Int) (s : Store) : subI (.t (RSt.swap x k e).t) (.t (.int 3)) s = .ok (iv e) s := nrfl rfl
theorem trap_call {i : Ins} (h : trapB i = false) : i.nm ≠ "call" := fun z => by
  unfold trapB at h
  rw [z, show inT (.str "call") [.str "place", .str "range", .str "same", .str "call"] = true from by decide +kernel, Bool.true_or] at h
  cases h
theorem stp_1 (st : RSt) (s : Store) : subI (.t st.t) (.t (.int 1)) s = .ok (.t (.str st.nm)) s := by cases st <;> exact nrfl rfl
theorem ins_cut3 (i : Ins) (s : Store) : sliceV false (.t i.t) none (some 3) s = .ok (.t (.tup [.str i.nm, i.ex, li (ni i.ins)])) s := by
  have e : ∀ (a b c d : T), sliceV false (.t (.tup [a, b, c, d])) none (some 3) s = .ok (.t (.tup [a, b, c])) s := fun a b c d => by
    show (if pyCut 4 0 none = 0 ∧ pyCut 4 4 (some 3) = 4 then R.bad else R.ok (Val.t (T.tup (slice [a, b, c, d] none (some 3)))) s) = _
    rw [if_neg (by decide)]
    rfl
  exact e _ _ _ _
theorem flat_plain {d : T} (h : T.flat d = true) (n : Nat) : T.plain n d = true := by
  cases d <;> simp [T.flat] at h <;> cases n <;> rw [T.plain]
theorem ni_inj {a b : List Nat} : ni a = ni b ↔ a = b := by
  constructor
  · intro h
    refine List.map_inj_right (f := fun k : Nat => (k : Int)) (fun x y e => by omega) |>.mp h
  · intro h; rw [h]
theorem key_eqv (i j : Ins) : T.eqv (.tup [.str i.nm, i.ex, li (ni i.ins)]) (.tup [.str j.nm, j.ex, li (ni j.ins)]) = keyEq i j := by
  unfold keyEq
  simp only [T.eqv, T.eqvs, li_eqvs, Bool.and_true]
  congr 2
  exact decide_eq_decide.mpr ni_inj
theorem key_eqV {i j : Ins} (hi : InsG i) (hj : InsG j) (s : Store) : eqV (.t (.tup [.str i.nm, i.ex, li (ni i.ins)])) (.t (.tup [.str j.nm, j.ex, li (ni j.ins)])) s = .ok (keyEq i j) s := by
  have pl : ∀ i : Ins, InsG i → T.plain 60 (.tup [.str i.nm, i.ex, li (ni i.ins)]) = true := fun i hi => plain_tup (n := 59) fun d hd => by
    simp only [List.mem_cons, List.not_mem_nil, or_false] at hd
    rcases hd with rfl | rfl | rfl
    · rw [T.plain]
    · exact flat_plain hi.flat 59
    · exact plain_li 58 _
  show (match (if T.plain 60 (.tup [.str i.nm, i.ex, li (ni i.ins)]) && T.plain 60 (.tup [.str j.nm, j.ex, li (ni j.ins)]) then some (T.eqv (.tup [.str i.nm, i.ex, li (ni i.ins)]) (.tup [.str j.nm, j.ex, li (ni j.ins)])) else none) with | some r => R.ok r s | none => .bad) = _
  rw [pl i hi, pl j hj, key_eqv]
  rfl
theorem blk_len (b : Blk) (s : Store) : lenV (.t (.lst (b.code.map Ins.t))) s = .ok (iv (b.code.length : Nat)) s := by
  show R.ok (iv ((b.code.map Ins.t).length : Nat)) s = _
  rw [List.length_map]
def oT : Option Blk → T
  | some b => b.t
  | none => .non
section
variable {Γ : Nat → FEnv}
theorem a_step (B : BaseA Γ) (n : Nat) {b : Blk} (g : GB b) (st : RSt) (s : Store) (hw : Wf s) : Γ (n + 3) 59 [.t b.t, .t st.t] s = .ok (.t (oT (stepA b st))) s := by
  rw [B.step_applied]
  refine fn_Rt rfl hw ?_
  rw [show start 5 [.t b.t, .t st.t] = [some (.t b.t), some (.t st.t), none, none, none] from rfl]
  cases st with
  | drop x k =>
    simp only [g_step_applied, p_seq2, p_asgV, p_e2, p_e1, p_var0, p_varS, p_ok, p_eC, blk_get4, drop_2, p_sok, then_nx, List.set, p_if, p_tOr, p_tLt, p_tGe, p_lt, blk_len]
    by_cases h0 : k < 0
    · rw [decide_eq_true h0]
      simp only [if_true, p_sok, p_ret, p_eC, then_rt]
      rw [show stepA b (.drop x k) = none by simp only [stepA]; rw [if_neg (by omega)]]
      exact Rt.self
    · rw [decide_eq_false h0]
      simp only [Bool.false_eq_true, if_false]
      by_cases h1 : (b.code.length : Nat) ≤ k
      · rw [decide_eq_true h1]
        simp only [p_sok, if_true, p_ret, p_eC, then_rt]
        have : stepA b (.drop x k) = none := by
          simp only [stepA]
          rw [if_pos (by omega)]
          unfold dropA
          rw [List.getElem?_eq_none (by omega)]
        rw [this]
        exact Rt.self
      · rw [decide_eq_false h1]
        obtain ⟨m, rfl⟩ : ∃ m : Nat, k = (m : Nat) := ⟨k.toNat, by omega⟩
        have hm : m < b.code.length := by omega
        have hi : b.code[m]? = some b.code[m] := List.getElem?_eq_getElem hm
        have gi := g.ins _ (List.mem_of_getElem? hi)
        have h2 := a_trap B (n + 1) gi s hw
        have h3 := fun hn => a_used B (n + 1) g hi hn s hw
        have h4 := a_without B (n + 1) g hm s hw
        simp only [p_sok, Bool.false_eq_true, if_false, p_nil, then_nx, p_seq2, p_if, p_tEq, p_e2, p_var0, p_varS, p_ok, p_eC, drop_0, p_eqS, p_sok, beq_self_eq_true, if_true, p_tOr, p_tTruth, p_call, p_vals, p_vals0, code_get hi, h2]
        rw [show stepA b (.drop x (m : Nat)) = dropA b m by simp only [stepA]; rw [if_pos (by omega)]; rfl]
        unfold dropA
        rw [hi]
        dsimp only
        cases ht : trapB b.code[m] with
        | true =>
          show Rt s _ (((truthV (.t (.bl true)) s).bind _).so _ _ |>.then _ |>.then _)
          exact Rt.self
        | false =>
          have e1 : truthV (.t (.bl false)) s = .ok false s := rfl
          simp only [e1, p_ok, Bool.false_eq_true, if_false, p_vals, p_vals0, p_var0, p_varS, h3 (trap_call ht)]
          cases hu : usedB (outI b.code[m]) (b.code.drop (m + 1)) b.outs with
          | true => exact Rt.self
          | false =>
            have e1 : truthV (.t (.bl false)) s = .ok false s := rfl
            simp only [e1, p_sok, Bool.false_eq_true, if_false, p_nil, then_nx, p_ret, p_call, p_vals, p_vals0, p_var0, p_varS, p_ok, h4, then_rt, Bool.or_self]
            exact Rt.self
  | share x k e =>
    simp only [g_step_applied, p_seq2, p_asgV, p_e2, p_e1, p_var0, p_varS, p_ok, p_eC, blk_get4, share_2, p_sok, then_nx, List.set, p_if, p_tOr, p_tLt, p_tGe, p_lt, blk_len]
    by_cases h0 : k < 0
    · rw [decide_eq_true h0]
      simp only [if_true, p_sok, p_ret, p_eC, then_rt]
      rw [show stepA b (.share x k e) = none by simp only [stepA]; rw [if_neg (by omega)]]
      exact Rt.self
    · rw [decide_eq_false h0]
      simp only [Bool.false_eq_true, if_false]
      by_cases h1 : (b.code.length : Nat) ≤ k
      · rw [decide_eq_true h1]
        simp only [p_sok, if_true, p_ret, p_eC, then_rt]
        have : stepA b (.share x k e) = none := by
          simp only [stepA]
          split
          · unfold shareA
            rw [List.getElem?_eq_none (by omega)]
          · rfl
        rw [this]
        exact Rt.self
      · rw [decide_eq_false h1]
        obtain ⟨m, rfl⟩ : ∃ m : Nat, k = (m : Nat) := ⟨k.toNat, by omega⟩
        have hm : m < b.code.length := by omega
        have hi : b.code[m]? = some b.code[m] := List.getElem?_eq_getElem hm
        have gi := g.ins _ (List.mem_of_getElem? hi)
        simp only [p_sok, Bool.false_eq_true, if_false, p_nil, then_nx, p_seq2, p_if, p_tEq, p_tNe, p_e2, p_var0, p_varS, p_ok, p_eC, share_0, share_3, p_eqS, p_sok, show (("share" : String) == "drop") = false by decide, p_asgV, List.set, p_tOr, beq_self_eq_true, Bool.not_true, p_tLt, p_tGe, p_lt]
        by_cases h2 : e < 0
        · rw [decide_eq_true h2]
          simp only [if_true, p_sok, p_ret, p_eC, then_rt]
          rw [show stepA b (.share x (m : Nat) e) = none by simp only [stepA]; rw [if_neg (by omega)]]
          exact Rt.self
        · rw [decide_eq_false h2]
          simp only [Bool.false_eq_true, if_false]
          obtain ⟨q, rfl⟩ : ∃ q : Nat, e = (q : Nat) := ⟨e.toNat, by omega⟩
          rw [show stepA b (.share x (m : Nat) (q : Nat)) = shareA b m q by simp only [stepA]; rw [if_pos (by omega)]; rfl]
          by_cases h3 : ((m : Nat) : Int) ≤ (q : Nat)
          · rw [decide_eq_true h3]
            simp only [p_sok, if_true, p_ret, p_eC, then_rt]
            have : shareA b m q = none := by
              cases hh : shareA b m q with
              | none => rfl
              | some b' =>
                obtain ⟨_, _, _, _, hlt, _⟩ := shareA_some hh
                omega
            rw [this]
            exact Rt.self
          · rw [decide_eq_false h3]
            have hq : q < b.code.length := by omega
            have hj : b.code[q]? = some b.code[q] := List.getElem?_eq_getElem hq
            have gj := g.ins _ (List.mem_of_getElem? hj)
            have hk := key_eqV gi gj s
            have h5 := fun hn hn2 => a_shared B n g hi hj hn hn2 s hw
            simp only [p_sok, Bool.false_eq_true, if_false, p_nil, then_nx, p_seq2, p_if, p_tOr, p_tEq, p_tNe, p_e2, p_var0, p_varS, p_ok, p_eC, code_get hi, code_get hj, ins_0, p_eqS, p_slice01, p_getI, ins_cut3, hk]
            unfold shareA
            rw [hi, hj]
            dsimp only
            by_cases hc : b.code[m].nm = "call"
            · rw [hc]
              simp only [beq_self_eq_true, if_true, p_sok, p_ret, p_eC, then_rt]
              rw [if_neg (fun z => z.2.1 rfl)]
              exact Rt.self
            · rw [show (b.code[m].nm == "call") = false by simpa using hc]
              simp only [Bool.false_eq_true, if_false, p_sok]
              cases hke : keyEq b.code[m] b.code[q] with
              | false =>
                simp only [Bool.not_false, if_true, p_ret, p_eC, p_sok, then_rt]
                rw [if_neg (fun z => by simp at z)]
                exact Rt.self
              | true =>
                simp only [Bool.not_true, Bool.false_eq_true, if_false, p_nil, then_nx, p_ret, p_call, p_vals, p_vals0, p_var0, p_varS, p_ok, h5 hc (by rw [← keyEq_nm hke]; exact hc), p_sok]
                rw [if_pos ⟨by omega, hc, trivial⟩]
                exact Rt.self
  | swap x k e =>
    rw [show stepA b (.swap x k e) = none from rfl]
    simp only [g_step_applied, p_seq2, p_asgV, p_e2, p_e1, p_var0, p_varS, p_ok, p_eC, blk_get4, swap_2, p_sok, then_nx, List.set, p_if, p_tOr, p_tLt, p_tGe, p_lt, blk_len]
    by_cases h0 : k < 0
    · rw [decide_eq_true h0]
      simp only [if_true, p_sok, p_ret, p_eC, then_rt]
      exact Rt.self
    · rw [decide_eq_false h0]
      simp only [Bool.false_eq_true, if_false]
      by_cases h1 : (b.code.length : Nat) ≤ k
      · rw [decide_eq_true h1]
        simp only [p_sok, if_true, p_ret, p_eC, then_rt]
        exact Rt.self
      · rw [decide_eq_false h1]
        simp only [p_sok, Bool.false_eq_true, if_false, p_nil, then_nx, p_seq2, p_if, p_tEq, p_tNe, p_e2, p_var0, p_varS, p_ok, p_eC, swap_0, swap_3, p_eqS, p_sok, show (("swap" : String) == "drop") = false by decide, p_asgV, List.set, p_tOr, show (("swap" : String) == "share") = false by decide, Bool.not_false, if_true, p_ret, then_rt]
        exact Rt.self
end
end Fl
set_option Elab.async false
set_option linter.all false
set_option maxRecDepth 100000
/-! Fl: the steps as the laws reckon them. -/
namespace Fl
noncomputable section
def g_w_applied (G : FEnv) : SM := sSeq (sAsg (eLst true []) (gVar 2)) (sSeq (sAsg (eC (.bl false)) (gVar 3)) (sSeq (sSeq (sFor (iV (eVar 0)) (gVar 4) (sSeq (sIf (tEq (e2 subI (eVar 4) (eC (.int 1))) (e2 subI (eVar 1) (eC (.int 1)))) (sSeq (sAsg (eCall G 116 [eVar 4, eVar 1]) (gVar 4)) (sSeq (sIf (tIsN (eVar 4)) (sRet (eC .non)) (sNil)) (sAsg (eC (.bl true)) (gVar 3)))) (sNil)) (sExpr (e2c lstC appendV (eVar 2) (eVar 4))))) (sFz 2)) (sSeq (sIf (tTruth (eVar 3)) (sRet (e1 freeze (eVar 2))) (sNil)) (sRet (eC .non)))))
def g_w_block_after (G : FEnv) : SM := sSeq (sAsg (e2 subI (eVar 0) (eC (.int 4))) (gVar 2)) (sSeq (sAsg (e2 subI (eVar 1) (eC (.int 2))) (gVar 3)) (sSeq (sIf (tOr (tLt (eVar 3) (eC (.int 0))) (tGe (eVar 3) (e1 lenV (eVar 2)))) (sRet (eC .non)) (sNil)) (sSeq (sAsg (e2 subI (e2 subI (e2 subI (eVar 2) (eVar 3)) (eC (.int 3))) (eC (.int 0))) (gVar 4)) (sSeq (sAsg (e1 (listV false) (e2 subI (eVar 0) (eC (.int 5)))) (gVar 5)) (sSeq (sFor (iV (eSlice false (eVar 2) (some (e2 (addV false) (eVar 3) (eC (.int 1)))) none)) (gVar 6) (sAsg (e2 (addV false) (eVar 5) (e2 subI (eVar 6) (eC (.int 2)))) (gVar 5))) (sSeq (sAsg (eOr (eB (tIn (e2 subI (e2 subI (eVar 2) (eVar 3)) (eC (.int 0))) (eTup false [eC (.str "place"), eC (.str "range"), eC (.str "same"), eC (.str "call")]))) (eAnd (eB (tEq (e2 subI (e2 subI (eVar 2) (eVar 3)) (eC (.int 0))) (eC (.str "calc")))) (eB (tIn (e2 subI (e2 subI (eVar 2) (eVar 3)) (eC (.int 1))) (eTup false [eC (.str "/"), eC (.str "mod")]))))) (gVar 7)) (sSeq (sIf (tEq (e2 subI (eVar 1) (eC (.int 0))) (eC (.str "drop"))) (sSeq (sIf (tOr (tTruth (eVar 7)) (tIn (eVar 4) (eVar 5))) (sRet (eC .non)) (sNil)) (sRet (e2 (addV false) (eSlice false (eVar 0) none (some (eC (.int 4)))) (eTup false [e2 (addV false) (eSlice false (eVar 2) none (some (eVar 3))) (eSlice false (eVar 2) (some (e2 (addV false) (eVar 3) (eC (.int 1)))) none), e2 subI (eVar 0) (eC (.int 5))])))) (sNil)) (sSeq (sAsg (e2 subI (eVar 1) (eC (.int 3))) (gVar 8)) (sSeq (sIf (tOr (tLt (eVar 8) (eC (.int 0))) (tOr (tGe (eVar 8) (eVar 3)) (tOr (tEq (e2 subI (e2 subI (eVar 2) (eVar 3)) (eC (.int 0))) (eC (.str "call"))) (tNe (eSlice false (e2 subI (eVar 2) (eVar 3)) none (some (eC (.int 3)))) (eSlice false (e2 subI (eVar 2) (eVar 8)) none (some (eC (.int 3)))))))) (sRet (eC .non)) (sNil)) (sSeq (sAsg (e2 subI (e2 subI (e2 subI (eVar 2) (eVar 8)) (eC (.int 3))) (eC (.int 0))) (gVar 9)) (sSeq (sAsg (eLst true []) (gVar 10)) (sSeq (sSeq (sFor (iV (eSlice false (eVar 2) (some (e2 (addV false) (eVar 3) (eC (.int 1)))) none)) (gTup [11, 12, 13, 14]) (sExpr (e2c lstC appendV (eVar 10) (eTup false [eVar 11, eVar 12, eComp false [15] (iV (eVar 13)) (gVar 15) none (e2 subI (eLst false [eVar 15, eVar 9]) (e1 intV (eB (tEq (eVar 15) (eVar 4))))), eVar 14])))) (sFz 10)) (sRet (e2 (addV false) (eSlice false (eVar 0) none (some (eC (.int 4)))) (eTup false [e2 (addV false) (eSlice false (eVar 2) none (some (eVar 3))) (eVar 10), eComp false [15] (iV (e2 subI (eVar 0) (eC (.int 5)))) (gVar 15) none (e2 subI (eLst false [eVar 15, eVar 9]) (e1 intV (eB (tEq (eVar 15) (eVar 4)))))])))))))))))))))
def g_w_none_left (G : FEnv) : SM := sSeq (sFor (iV (eVar 0)) (gVar 1) (sFor (iRange1 (e1 lenV (e2 subI (eVar 1) (eC (.int 4))))) (gVar 2) (sSeq (sIf (tNotN (eCall G 116 [eVar 1, eTup false [eC (.str "drop"), e2 subI (eVar 1) (eC (.int 1)), eVar 2]])) (sRet (eC (.bl false))) (sNil)) (sFor (iRange1 (eVar 2)) (gVar 3) (sIf (tNotN (eCall G 116 [eVar 1, eTup false [eC (.str "share"), e2 subI (eVar 1) (eC (.int 1)), eVar 2, eVar 3]])) (sRet (eC (.bl false))) (sNil)))))) (sRet (eC (.bl true)))
end
structure BaseB (Γ : Nat → FEnv) : Prop where
  w_applied : ∀ n, Γ (n + 1) 115 = mkFn 5 2 (g_w_applied (Γ n))
  w_block_after : ∀ n, Γ (n + 1) 116 = mkFn 16 2 (g_w_block_after (Γ n))
  w_none_left : ∀ n, Γ (n + 1) 118 = mkFn 4 1 (g_w_none_left (Γ n))
theorem ren_pick (k o m : Nat) (ρ : Env) (s : Store) (h1 : eVar 15 ρ s = .ok (iv (k : Nat)) s) (h2 : eVar 9 ρ s = .ok (iv (m : Nat)) s) (h3 : eVar 4 ρ s = .ok (iv (o : Nat)) s) :
    e2 subI (eLst false [eVar 15, eVar 9]) (e1 intV (eB (tEq (eVar 15) (eVar 4)))) ρ s = .ok (iv ((if k = o then m else k : Nat) : Nat)) s := by
  simp only [p_e2, p_e1, p_lst, p_vals, p_vals0, h1, h2, h3, p_ok, newL2, p_eB, p_tEq, p_eqI]
  by_cases c : k = o
  · subst c
    rw [if_pos rfl]
    simp only [beq_self_eq_true]
    exact nrfl rfl
  · rw [if_neg c, show (((k : Nat) : Int) == ((o : Nat) : Int)) = false by simp; omega]
    exact nrfl rfl
theorem ren_comp (l : List Nat) (o m : Nat) (a : CE) (ρ : Env) (s : Store) (hl : ρ.length = 16) (ha : a ρ s = .ok (.t (li (ni l))) s) (h2 : ρ[9]? = some (some (iv (m : Nat)))) (h3 : ρ[4]? = some (some (iv (o : Nat)))) :
    eComp false [15] (iV a) (gVar 15) none (e2 subI (eLst false [eVar 15, eVar 9]) (e1 intV (eB (tEq (eVar 15) (eVar 4))))) ρ s = .ok (.t (li (ni (ren o m l)))) s := by
  rw [p_comp, p_iV, ha, p_ok, li_iter, p_ok, ← ni_iv]
  have := comp_map (g := gVar 15) (f := e2 subI (eLst false [eVar 15, eVar 9]) (e1 intV (eB (tEq (eVar 15) (eVar 4))))) (ρ := wipeE ρ [15]) (s := s) (fun k : Nat => iv (k : Nat)) (fun k : Nat => iv ((if k = o then m else k : Nat) : Nat)) l fun k _ => ⟨(wipeE ρ [15]).set 15 (some (iv (k : Nat))), rfl,
    ren_pick k o m _ s (p_eVar (by simp only [wipeE]; rw [List.getElem?_set_self (by rw [List.length_set]; omega)])) (p_eVar (by simp only [wipeE]; rw [List.getElem?_set_ne (by omega), List.getElem?_set_ne (by omega)]; exact h2)) (p_eVar (by simp only [wipeE]; rw [List.getElem?_set_ne (by omega), List.getElem?_set_ne (by omega)]; exact h3))⟩
  rw [this, p_ok, show (l.map fun k : Nat => iv ((if k = o then m else k : Nat) : Nat)) = (ni (ren o m l)).map iv by unfold ren ni; rw [List.map_map, List.map_map]; rfl, li_new]
theorem used_mem (o : Nat) (rest : List Ins) (outs : List Nat) : ((outs ++ rest.flatMap fun i => i.ins).any fun k => decide (k = o)) = usedB o rest outs := by
  unfold usedB
  rw [List.any_append, List.any_flatMap, Bool.or_comm]
section
variable {Γ : Nat → FEnv}
theorem add_nis {a b : List Nat} (h : a.length + b.length ≤ 16000000) (s : Store) : addV false (.t (li (ni a))) (.t (li (ni b))) s = .ok (.t (li (ni (a ++ b)))) s := by
  rw [add_tt _ _ _ _ (by rw [List.length_map, List.length_map, List.length_map, List.length_map]; show _ ≤ 16777216; omega), newL_t]
  simp [li, ni]
theorem flat_len (p : List Ins) (hp : ∀ i ∈ p, i.ins.length ≤ 60) : (p.flatMap fun i => i.ins).length ≤ 60 * p.length := by
  induction p with
  | nil => simp
  | cons x r ih =>
    have := ih fun i hi => hp i (List.mem_cons_of_mem _ hi)
    have := hp x List.mem_cons_self
    rw [List.flatMap_cons, List.length_append, List.length_cons]; omega
theorem b_after (B : BaseB Γ) (n : Nat) {b : Blk} (g : GB b) (h1o : ∀ i ∈ b.code, ∃ o, i.outs = [o]) (st : RSt) (hsw : ∀ x k e, st ≠ .swap x k e) (s : Store) (hw : Wf s) : Γ (n + 1) 116 [.t b.t, .t st.t] s = .ok (.t (oT (stepA b st))) s := by
  rw [B.w_block_after]
  refine fn_Rt rfl hw ?_
  rw [show start 16 [.t b.t, .t st.t] = [some (.t b.t), some (.t st.t), none, none, none, none, none, none, none, none, none, none, none, none, none, none] from rfl]
  have hk2 : ∃ k, subI (.t st.t) (.t (.int 2)) s = .ok (iv k) s ∧ ((k < 0 ∨ (b.code.length : Nat) ≤ k) → stepA b st = none) := by
    cases st with
    | drop x k =>
      refine ⟨k, drop_2 x k s, fun h => ?_⟩
      simp only [stepA]
      split
      · unfold dropA
        rw [List.getElem?_eq_none (by omega)]
      · rfl
    | share x k e =>
      refine ⟨k, share_2 x k e s, fun h => ?_⟩
      simp only [stepA]
      split
      · unfold shareA
        rw [List.getElem?_eq_none (by omega)]
      · rfl
    | swap x k e => exact absurd rfl (hsw x k e)
  obtain ⟨k, hk, hno⟩ := hk2
  simp only [g_w_block_after, p_seq2, p_asgV, p_e2, p_e1, p_var0, p_varS, p_ok, p_eC, blk_get4, hk, p_sok, then_nx, List.set, p_if, p_tOr, p_tLt, p_tGe, p_lt, blk_len]
  by_cases h0 : k < 0
  · rw [decide_eq_true h0]
    simp only [if_true, p_sok, p_ret, p_eC, then_rt]
    rw [hno (.inl h0)]
    exact Rt.self
  rw [decide_eq_false h0]
  simp only [Bool.false_eq_true, if_false]
  by_cases h1 : (b.code.length : Nat) ≤ k
  · rw [decide_eq_true h1]
    simp only [p_sok, if_true, p_ret, p_eC, then_rt]
    rw [hno (.inr h1)]
    exact Rt.self
  rw [decide_eq_false h1]
  obtain ⟨m, rfl⟩ : ∃ m : Nat, k = (m : Nat) := ⟨k.toNat, by omega⟩
  have hm : m < b.code.length := by omega
  have hi : b.code[m]? = some b.code[m] := List.getElem?_eq_getElem hm
  generalize hii : b.code[m] = i at hi
  have gi := g.ins _ (List.mem_of_getElem? hi)
  have one_out' : ∀ {i : Ins}, i ∈ b.code → i.outs = [outI i] := fun h => by
    obtain ⟨o, e⟩ := h1o _ h
    unfold outI
    rw [e]; rfl
  have ho := one_out' (List.mem_of_getElem? hi)
  have h3 := ins_3 i s
  rw [ho] at h3
  have hl := g.len
  have hlo := g.outs
  simp only [p_sok, Bool.false_eq_true, if_false, p_nil, then_nx, p_seq2, p_asgV, p_e2, p_e1, p_var0, p_varS, p_ok, p_eC, code_get hi, h3, li_get0, blk_get5, list_li, List.set, p_for, p_iV, p_slice10, p_add, p_getI, code_tail b hm]
  rw [lst_iter, p_sok]
  rw [show ((b.code.drop (m + 1)).map Ins.t).map Val.t = (b.code.drop (m + 1)).map fun i => .t i.t by rw [List.map_map]; rfl]
  generalize hc : forL _ _ _ _ _ = o
  obtain ⟨ρ', s', rfl, rfl, x6, rfl⟩ := for_pre hc (fun p ρ s1 => s1 = s ∧ ∃ x6, ρ = [some (.t b.t), some (.t st.t), some (.t (.lst (b.code.map Ins.t))), some (iv (m : Nat)), some (iv (outI i : Nat)), some (.t (li (ni (b.outs ++ p.flatMap fun i => i.ins)))), x6, none, none, none, none, none, none, none, none, none]) ⟨rfl, none, by simp⟩ (by
    rintro p x q eq ρ s1 ⟨rfl, x6, rfl⟩
    have hsub : ∀ y ∈ p ++ x :: q, y ∈ b.code := fun y hy => List.mem_of_mem_drop (by rw [eq]; exact hy)
    have hpl := flat_len p fun y hy => (g.ins y (hsub y (by simp [hy]))).len
    have hxl := (g.ins x (hsub x (by simp))).len
    have hpn : p.length ≤ 90000 := by
      have := congrArg List.length eq
      rw [List.length_drop, List.length_append] at this
      omega
    have ha := add_nis (a := b.outs ++ p.flatMap fun i => i.ins) (b := x.ins) (by rw [List.length_append]; omega) s1
    refine ⟨_, _, [some (.t b.t), some (.t st.t), some (.t (.lst (b.code.map Ins.t))), some (iv (m : Nat)), some (iv (outI i : Nat)), some (.t (li (ni (b.outs ++ (p ++ [x]).flatMap fun i => i.ins)))), some (.t x.t), none, none, none, none, none, none, none, none, none], s1, rfl, ?_, rfl, _, rfl⟩
    simp only [List.set, p_asgV, p_e2, p_varS, p_var0, p_ok, p_eC, ins_2, ha, p_sok]
    rw [List.flatMap_append, List.append_assoc]
    simp)
  have t1 := in_tup (d := .str i.nm) (ts := [.str "place", .str "range", .str "same", .str "call"]) rfl rfl s'
  have t2 := in_tup (d := i.ex) (ts := [.str "/", .str "mod"]) gi.flat rfl s'
  have ht : eOr (eB (tIn (e2 subI (e2 subI (eVar 2) (eVar 3)) (eC (.int 0))) (eTup false [eC (.str "place"), eC (.str "range"), eC (.str "same"), eC (.str "call")]))) (eAnd (eB (tEq (e2 subI (e2 subI (eVar 2) (eVar 3)) (eC (.int 0))) (eC (.str "calc")))) (eB (tIn (e2 subI (e2 subI (eVar 2) (eVar 3)) (eC (.int 1))) (eTup false [eC (.str "/"), eC (.str "mod")]))))
      [some (.t b.t), some (.t st.t), some (.t (.lst (b.code.map Ins.t))), some (iv (m : Nat)), some (iv (outI i : Nat)), some (.t (li (ni (b.outs ++ (b.code.drop (m + 1)).flatMap fun i => i.ins)))), x6, none, none, none, none, none, none, none, none, none] s' = .ok (.t (.bl (trapB i))) s' := by
    simp only [p_eOr, p_eAnd, p_eB, p_tIn, p_tEq, p_e2, p_var0, p_varS, p_ok, p_eC, code_get hi, ins_0, ins_1, p_tup, p_vals, p_vals0, newT2, newT4, t1, t2, p_getB, p_eqS]
    unfold trapB
    cases inT (.str i.nm) [.str "place", .str "range", .str "same", .str "call"] with
    | true => rfl
    | false =>
      rw [if_neg (by decide)]
      cases (i.nm == "calc") with
      | false => rfl
      | true => rw [if_pos rfl]; rfl
  simp only [then_nx, p_seq2, p_asgV, ht, p_sok, List.set, p_if, p_tEq, p_e2, p_var0, p_varS, p_ok, p_eC]
  cases st with
  | drop x k =>
    have hkk := hk
    rw [drop_2] at hkk
    obtain rfl : k = (m : Nat) := by injection hkk with h _; injection h with h; injection h
    have hin := in_ni (outI i) (b.outs ++ (b.code.drop (m + 1)).flatMap fun i => i.ins) s'
    rw [used_mem] at hin
    rw [show stepA b (.drop x (m : Nat)) = dropA b m by simp only [stepA]; rw [if_pos (by omega)]; rfl]
    unfold dropA
    rw [hi]
    dsimp only
    simp only [drop_0, p_ok, p_eqS, beq_self_eq_true, p_sok, if_true, p_seq2, p_if, p_tOr, p_tTruth, p_tIn, p_var0, p_varS, hin]
    have ha := add_code (a := b.code.take m) (b := b.code.drop (m + 1)) (by rw [List.length_take, List.length_drop]; omega) s'
    cases trapB i with
    | true => exact Rt.self
    | false =>
      have e1 : truthV (.t (.bl false)) s' = .ok false s' := rfl
      simp only [e1, p_ok, Bool.false_eq_true, if_false, Bool.false_or, p_tIn, p_var0, p_varS, hin]
      cases usedB (outI i) (b.code.drop (m + 1)) b.outs with
      | true => exact Rt.self
      | false =>
        simp only [p_sok, Bool.false_eq_true, if_false, p_nil, then_nx, p_ret, p_e2, p_var0, p_varS, p_ok, p_eC, p_slice01, p_slice10, p_getI, p_add, blk_head, blk_get5, code_head b hm, code_tail b hm, p_tup, p_vals, p_vals0, ha, newT2, blk_join, then_rt]
        exact Rt.self
  | share x k e =>
    have hkk := hk
    rw [share_2] at hkk
    obtain rfl : k = (m : Nat) := by injection hkk with h _; injection h with h; injection h
    simp only [share_0, share_3, p_ok, p_eqS, p_sok, show (("share" : String) == "drop") = false by decide, Bool.false_eq_true, if_false, p_nil, then_nx, p_seq2, p_asgV, p_e2, p_var0, p_varS, p_eC, List.set, p_if, p_tOr, p_tLt, p_tGe, p_lt, p_tEq, p_tNe]
    by_cases h2 : e < 0
    · rw [decide_eq_true h2]
      simp only [if_true, p_sok, p_ret, p_eC, then_rt]
      rw [show stepA b (.share x (m : Nat) e) = none by simp only [stepA]; rw [if_neg (by omega)]]
      exact Rt.self
    rw [decide_eq_false h2]
    simp only [Bool.false_eq_true, if_false]
    obtain ⟨q, rfl⟩ : ∃ q : Nat, e = (q : Nat) := ⟨e.toNat, by omega⟩
    rw [show stepA b (.share x (m : Nat) (q : Nat)) = shareA b m q by simp only [stepA]; rw [if_pos (by omega)]; rfl]
    by_cases h3' : ((m : Nat) : Int) ≤ (q : Nat)
    · rw [decide_eq_true h3']
      simp only [p_sok, if_true, p_ret, p_eC, then_rt]
      have : shareA b m q = none := by
        cases hh : shareA b m q with
        | none => rfl
        | some b' =>
          obtain ⟨_, _, _, _, hlt, _⟩ := shareA_some hh
          omega
      rw [this]
      exact Rt.self
    rw [decide_eq_false h3']
    have hq : q < b.code.length := by omega
    have hj : b.code[q]? = some b.code[q] := List.getElem?_eq_getElem hq
    generalize b.code[q] = j at hj
    have gj := g.ins _ (List.mem_of_getElem? hj)
    have hke := key_eqV gi gj s'
    simp only [p_sok, Bool.false_eq_true, if_false, p_nil, then_nx, p_seq2, p_if, p_tOr, p_tEq, p_tNe, p_e2, p_var0, p_varS, p_ok, p_eC, code_get hi, code_get hj, ins_0, p_eqS, p_slice01, p_getI, ins_cut3, hke]
    unfold shareA
    rw [hi, hj]
    dsimp only
    by_cases hc : i.nm = "call"
    · rw [hc]
      simp only [beq_self_eq_true, if_true, p_sok, p_ret, p_eC, then_rt]
      rw [if_neg (fun z => z.2.1 rfl)]
      exact Rt.self
    rw [show (i.nm == "call") = false by simpa using hc]
    simp only [Bool.false_eq_true, if_false, p_sok]
    cases hkq : keyEq i j with
    | false =>
      simp only [Bool.not_false, if_true, p_ret, p_eC, p_sok, then_rt]
      rw [if_neg (fun z => by simp at z)]
      exact Rt.self
    | true =>
      rw [if_pos ⟨by omega, hc, rfl⟩]
      have ho2 := one_out' (List.mem_of_getElem? hj)
      have h4 := ins_3 j s'
      rw [ho2] at h4
      simp only [Bool.not_true, Bool.false_eq_true, if_false, p_nil, then_nx, p_sok, p_seq2, p_asgV, p_e2, p_var0, p_varS, p_ok, p_eC, code_get hj, h4, li_get0, List.set, p_lst, p_vals0, p_newL]
      have own0 := own_new hw (List.take_length (l := s')) ([] : List T)
      rw [List.map_nil] at own0
      generalize hz : s' ++ [some (Cell.lst [])] = s1 at own0
      generalize hv : (Val.loc s'.length) = v at own0 ⊢
      simp only [p_for, p_iV, p_slice10, p_e2, p_var0, p_varS, p_ok, p_eC, p_getI, p_add, code_tail b hm]
      rw [lst_iter, p_sok]
      rw [show ((b.code.drop (m + 1)).map Ins.t).map Val.t = (b.code.drop (m + 1)).map fun i => .t i.t by rw [List.map_map]; rfl]
      generalize hc2 : forL _ _ _ _ _ = o
      obtain ⟨ρ', s2, rfl, own2, y0, y1, y2, y3, rfl⟩ := for_pre hc2 (fun p ρ s1 => Own s' s1 v ((p.map (renI (outI i) (outI j))).map Ins.t) ∧ ∃ y0 y1 y2 y3, ρ = [some (.t b.t), some (.t (RSt.share x (m : Nat) (q : Nat)).t), some (.t (.lst (b.code.map Ins.t))), some (iv (m : Nat)), some (iv (outI i : Nat)), some (.t (li (ni (b.outs ++ (b.code.drop (m + 1)).flatMap fun i => i.ins)))), x6, some (.t (.bl (trapB i))), some (iv (q : Nat)), some (iv (outI j : Nat)), some v, y0, y1, y2, y3, none]) ⟨own0, none, none, none, none, rfl⟩ (by
        rintro p y r eq ρ s1 ⟨own, y0, y1, y2, y3, rfl⟩
        have hpn : p.length ≤ 90000 := by
          have := congrArg List.length eq
          rw [List.length_drop, List.length_append] at this
          omega
        obtain ⟨s3, ha, own3⟩ := own_app own (by rw [List.length_map, List.length_map]; show _ < 16777216; omega) (renI (outI i) (outI j) y).t
        refine ⟨_, _, [some (.t b.t), some (.t (RSt.share x (m : Nat) (q : Nat)).t), some (.t (.lst (b.code.map Ins.t))), some (iv (m : Nat)), some (iv (outI i : Nat)), some (.t (li (ni (b.outs ++ (b.code.drop (m + 1)).flatMap fun i => i.ins)))), x6, some (.t (.bl (trapB i))), some (iv (q : Nat)), some (iv (outI j : Nat)), some v, some (.t (.str y.nm)), some (.t y.ex), some (.t (li (ni y.ins))), some (.t (li (ni y.outs))), none], s3, ins_g4 y 11 12 13 14 _ s1, ?_, by rw [List.map_append, List.map_append]; exact own3, _, _, _, _, rfl⟩
        have hr := ren_comp y.ins (outI i) (outI j) (eVar 13) [some (.t b.t), some (.t (RSt.share x (m : Nat) (q : Nat)).t), some (.t (.lst (b.code.map Ins.t))), some (iv (m : Nat)), some (iv (outI i : Nat)), some (.t (li (ni (b.outs ++ (b.code.drop (m + 1)).flatMap fun i => i.ins)))), x6, some (.t (.bl (trapB i))), some (iv (q : Nat)), some (iv (outI j : Nat)), some v, some (.t (.str y.nm)), some (.t y.ex), some (.t (li (ni y.ins))), some (.t (li (ni y.outs))), none] s1 rfl rfl rfl rfl
        have ha' : appendV v (.t (.tup [.str y.nm, y.ex, li (ni (ren (outI i) (outI j) y.ins)), li (ni y.outs)])) s1 = .ok (.t .non) s3 := ha
        simp only [List.set, p_sexpr, p_e2c, p_var0, p_varS, p_ok, own_lstC own, p_tup, p_vals, p_vals0, hr, newT4, ha', p_sok])
      rw [then_nx]
      generalize hz : sFz 10 _ _ = oz
      obtain ⟨s4, rfl, ht4, hw4⟩ := own_sfz2 hz own2 rfl
      have hr := ren_comp b.outs (outI i) (outI j) (e2 subI (eVar 0) (eC (.int 5))) [some (.t b.t), some (.t (RSt.share x (m : Nat) (q : Nat)).t), some (.t (.lst (b.code.map Ins.t))), some (iv (m : Nat)), some (iv (outI i : Nat)), some (.t (li (ni (b.outs ++ (b.code.drop (m + 1)).flatMap fun i => i.ins)))), x6, some (.t (.bl (trapB i))), some (iv (q : Nat)), some (iv (outI j : Nat)), some (.t (.lst (((b.code.drop (m + 1)).map (renI (outI i) (outI j))).map Ins.t))), y0, y1, y2, y3, none] s4 rfl (by simp only [p_e2, p_var0, p_ok, p_eC, blk_get5]) rfl rfl
      have ha := add_code (a := b.code.take m) (b := (b.code.drop (m + 1)).map (renI (outI i) (outI j))) (by rw [List.length_take, List.length_map, List.length_drop]; omega) s4
      simp only [then_nx, List.set, p_ret, p_e2, p_var0, p_varS, p_ok, p_eC, p_slice01, p_getI, blk_head, code_head b hm, p_tup, p_vals, p_vals0, ha, hr, newT2, blk_join, p_sok]
      exact Rt.mk ht4
  | swap x k e => exact absurd rfl (hsw x k e)
end
end Fl
set_option Elab.async false
set_option linter.all false
set_option maxRecDepth 100000
/-! Fl: rewrite. -/
namespace Fl
theorem compE_filter {g : CG} {c : CT} {f : CE} {ρ : Env} {s : Store} {n : Nat} {ts : List T} (hc : s.cell n = some (.lst (ts.map .t))) (p : Nat → Bool)
    (hh : ∀ i d, ts[i]? = some d → ∃ ρ', g (.t (.tup [.int (i : Nat), d])) ρ s = .ok ρ' s ∧ c ρ' s = .ok (p i) s ∧ f ρ' s = .ok (iv (i : Nat)) s) : ∀ (k i : Nat) (acc : List Val), i ≤ ts.length → ts.length < k + i →
    compN (nxtE n) g (some c) f ρ k i acc s = .ok (acc ++ (((List.range' i (ts.length - i)).filter p).map fun j => iv (j : Nat))) s
  | 0, i, acc, hz, hk => by omega
  | k + 1, i, acc, hz, hk => by
    have e : nxtE n i s = some ((ts.map Val.t)[i]?.map fun v => match v with
      | .t d => (.t (.tup [.int i, d]), s)
      | v => (.loc s.length, s ++ [some (.tup [vI i, v])])) := by unfold nxtE; rw [hc]; all_goals rfl
    unfold compN
    rw [e, List.getElem?_map]
    by_cases hi : i < ts.length
    · rw [List.getElem?_eq_getElem hi]
      obtain ⟨ρ', h1, h2, h3⟩ := hh i ts[i] (List.getElem?_eq_getElem hi)
      have ih := compE_filter hc p hh k (i + 1)
      show (g (.t (.tup [.int i, ts[i]])) ρ s).bind _ = _
      rw [h1]
      show (c ρ' s).bind _ = _
      rw [h2, show ts.length - i = (ts.length - (i + 1)) + 1 by omega, List.range'_succ, List.filter_cons]
      cases hp : p i with
      | true =>
        show (f ρ' s).bind _ = _
        rw [h3]
        show compN (nxtE n) g (some c) f ρ k (i + 1) (acc ++ [iv (i : Nat)]) s = _
        rw [ih _ (by omega) (by omega), if_pos rfl, List.map_cons, List.append_assoc]
        rfl
      | false =>
        show compN (nxtE n) g (some c) f ρ k (i + 1) acc s = _
        rw [ih _ (by omega) (by omega), if_neg (by decide)]
    · rw [List.getElem?_eq_none (by omega), show ts.length - i = 0 by omega]
      show R.ok acc s = _
      simp
theorem found_run {s s0 : Store} {v : Val} {p : List Blk} {st : RSt} {ρ : Env} (h : Own s0 s v (p.map Blk.t)) (hlen : p.length ≤ 50) (hl : ρ.length = 9) (h2 : ρ[2]? = some (some v)) (h5 : ρ[5]? = some (some (.t st.t))) :
    eCompN false [8, 3] (nE (eVar 2)) (gTup [8, 3]) (some (tEq (e2 subI (eVar 3) (eC (.int 1))) (e2 subI (eVar 5) (eC (.int 1))))) (eVar 8) ρ s = .ok (.t (li (ni (fndB p st.nm)))) s := by
  obtain ⟨n, rfl, _, hc⟩ := h.ex
  have hE : nE (eVar 2) ρ s = .ok (nxtE n) s := by
    show ((eVar 2 ρ s).bind _) = _
    rw [p_eVar h2, p_ok]
    dsimp only
    rw [hc]
  show ((nE (eVar 2) ρ s).bind fun nxt s => (compN nxt _ _ _ _ L 0 [] s).bind (newL false)) = _
  rw [hE, p_ok]
  have hw : (wipeE ρ [8, 3]).length = 9 := by simp [wipeE, hl]
  rw [compE_filter (ts := p.map Blk.t) hc (fun i => (p[i]?.map (·.nm)) == some st.nm) (by
    intro i d hd
    refine ⟨((wipeE ρ [8, 3]).set 8 (some (iv (i : Nat)))).set 3 (some (.t d)), rfl, ?_, p_eVar (by rw [List.getElem?_set_ne (by omega), List.getElem?_set_self (by omega)])⟩
    have e3 : eVar 3 (((wipeE ρ [8, 3]).set 8 (some (iv (i : Nat)))).set 3 (some (.t d))) s = .ok (.t d) s := p_eVar (by rw [List.getElem?_set_self (by rw [List.length_set]; omega)])
    have e5 : eVar 5 (((wipeE ρ [8, 3]).set 8 (some (iv (i : Nat)))).set 3 (some (.t d))) s = .ok (.t st.t) s := p_eVar (by
      simp only [wipeE]
      rw [List.getElem?_set_ne (by omega), List.getElem?_set_ne (by omega), List.getElem?_set_ne (by omega), List.getElem?_set_ne (by omega)]
      exact h5)
    rw [List.getElem?_map] at hd
    obtain ⟨b, hb, rfl⟩ := Option.map_eq_some_iff.mp hd
    simp only [p_tEq, p_e2, e3, e5, p_ok, p_eC, blk_get1, stp_1, p_eqS, hb, Option.map_some]
    rfl) L 0 [] (by simp) (by rw [List.length_map]; show p.length < 16777216 + 0; omega), p_ok]
  have : (((List.range' 0 ((p.map Blk.t).length - 0)).filter fun i => (p[i]?.map (·.nm)) == some st.nm).map fun j => iv (j : Nat)) = (ni (fndB p st.nm)).map iv := by
    rw [List.length_map, Nat.sub_zero, ← List.range_eq_range']
    unfold fndB ni
    rw [List.map_map]
    rfl
  rw [List.nil_append, this, li_new]
section
variable {Γ : Nat → FEnv}
theorem a_dup (B : BaseA Γ) (n : Nat) (b : Blk) (s : Store) (hw : Wf s) : Γ (n + 1) 20 [.t b.t] s = .ok (.t b.t) s := by
  rw [B.duplicate]
  refine fn_Rt rfl hw ?_
  rw [show start 6 [.t b.t] = [some (.t b.t), none, none, none, none, none] from rfl]
  have hc := comp_map (g := gTup [2, 3, 4, 5]) (f := eTup false [eVar 2, eVar 3, e1 (listV false) (eVar 4), e1 (listV false) (eVar 5)]) (ρ := [some (.t b.t), none, none, none, none, none]) (s := s) (fun i : Ins => Val.t i.t) (fun i : Ins => Val.t i.t) b.code fun i _ =>
    ⟨_, ins_g4 i 2 3 4 5 _ s, by
      simp only [List.set, p_tup, p_vals, p_vals0, p_var0, p_varS, p_ok, p_e1, list_li, newT4]
      rfl⟩
  simp only [ga_duplicate, p_seq2, p_asgV, p_comp, p_iV, p_e2, p_var0, p_ok, p_eC, blk_get4, lst_iter, wipeE, List.set]
  rw [show (b.code.map Ins.t).map Val.t = b.code.map fun i => .t i.t by rw [List.map_map]; rfl, hc, p_ok]
  rw [show (b.code.map fun i => Val.t i.t) = (b.code.map Ins.t).map Val.t by rw [List.map_map]; rfl, newL_t]
  simp only [p_sok, List.set, then_nx, p_ret, p_e2, p_e1, p_var0, p_varS, p_ok, p_eC, p_slice01, p_getI, blk_head, blk_get5, p_tup, p_vals, p_vals0, list_li, newT2, blk_join]
  exact Rt.self
theorem steps_enum (k : Nat) (l : List RSt) (g : CG) (b : SM) (ρ : Env) (s : Store) : forL g b (enumT k (l.map RSt.t)) ρ s = match l with
    | [] => .nx ρ s
    | st :: r => (g (.t (.tup [.int (k : Nat), st.t])) ρ s).so ρ fun ρ1 s1 => match b ρ1 s1 with
      | .nx ρ2 s2 => forL g b (enumT (k + 1) (r.map RSt.t)) ρ2 s2
      | .ct ρ2 s2 => forL g b (enumT (k + 1) (r.map RSt.t)) ρ2 s2
      | .bk ρ2 s2 => .nx ρ2 s2
      | o => o := by cases l <;> rfl
abbrev rwB (G : FEnv) : SM := (sSeq (sAsg (eCompN false [8, 3] (nE (eVar 2)) (gTup [8, 3]) (some (tEq (e2 subI (eVar 3) (eC (.int 1))) (e2 subI (eVar 5) (eC (.int 1))))) (eVar 8)) (gVar 6)) (sSeq (sAsg (eIf (tTruth (eVar 6)) (eCall G 59 [e2 subI (eVar 2) (e2 subI (eVar 6) (eC (.int 0))), eVar 5]) (eC .non)) (gVar 7)) (sSeq (sIf (tIsN (eVar 7)) (sRaiseA "PaperError" (eVar 4)) (sNil)) (sSub (eVar 7) (eVar 2) (e2 subI (eVar 6) (eC (.int 0)))))))
theorem tisn_non (a : CE) (ρ : Env) (s s' : Store) (h : a ρ s = .ok (.t .non) s') : tIsN a ρ s = .ok true s' := by
  show (a ρ s).bind _ = _
  rw [h]; rfl
theorem tisn_blk (a : CE) (ρ : Env) (s s' : Store) (b : Blk) (h : a ρ s = .ok (.t b.t) s') : tIsN a ρ s = .ok false s' := by
  show (a ρ s).bind _ = _
  rw [h]; rfl
abbrev rwT : SM := (sSeq (sIf (tIsN (eVar 7)) (sRaiseA "PaperError" (eVar 4)) (sNil)) (sSub (eVar 7) (eVar 2) (e2 subI (eVar 6) (eC (.int 0)))))
theorem rwt_none (d1 d2 v : Val) (k : Nat) (d5 x6 : Option Val) (s : Store) : rwT [some d1, some d2, some v, none, some (iv (k : Nat)), d5, x6, some (.t .non), none] s = .ex ⟨"PaperError", some (.int (k : Nat))⟩ [some d1, some d2, some v, none, some (iv (k : Nat)), d5, x6, some (.t .non), none] s := rfl
theorem rwt_some (d1 d2 v : Val) (k : Nat) (d5 : Option Val) (b : Blk) (j : Nat) (r : List Nat) (s s' : Store) (h : setI v (iv (j : Nat)) (.t b.t) s = .ok () s') :
    rwT [some d1, some d2, some v, none, some (iv (k : Nat)), d5, some (.t (li (ni (j :: r)))), some (.t b.t), none] s = .nx [some d1, some d2, some v, none, some (iv (k : Nat)), d5, some (.t (li (ni (j :: r)))), some (.t b.t), none] s' := by
  unfold rwT
  rw [p_seq2, p_if, tisn_blk _ _ s s b rfl, p_sok]
  simp only [Bool.false_eq_true, if_false, p_nil, then_nx, p_ssub, p_e2, p_var0, p_varS, p_ok, p_eC, p_sok]
  rw [show subI (.t (li (ni (j :: r)))) (.t (.int 0)) s = .ok (iv (j : Nat)) s from lst_get (k := 0) (xs := (ni (j :: r)).map T.int) rfl s, p_sok, h]
  rfl
theorem rw_turn (B : BaseA Γ) (n : Nat) {s0 s : Store} {v : Val} {p : List Blk} (g : GL p) (h : Own s0 s v (p.map Blk.t)) (st : RSt) (k : Nat) (d1 d2 : Val) (x6 x7 : Option Val) :
    match appL p st with
    | some q => ∃ y6 y7 s', rwB (Γ (n + 3)) [some d1, some d2, some v, none, some (iv (k : Nat)), some (.t st.t), x6, x7, none] s = .nx [some d1, some d2, some v, none, some (iv (k : Nat)), some (.t st.t), y6, y7, none] s' ∧ Own s0 s' v (q.map Blk.t)
    | none => ∃ ρ' s', rwB (Γ (n + 3)) [some d1, some d2, some v, none, some (iv (k : Nat)), some (.t st.t), x6, x7, none] s = .ex ⟨"PaperError", some (.int (k : Nat))⟩ ρ' s' ∧ s'.take s0.length = s0 := by
  have hf := found_run (ρ := [some d1, some d2, some v, none, some (iv (k : Nat)), some (.t st.t), x6, x7, none]) h g.len rfl rfl rfl (st := st)
  have e : ∀ ρ s, rwB (Γ (n + 3)) ρ s = ((sAsg (eCompN false [8, 3] (nE (eVar 2)) (gTup [8, 3]) (some (tEq (e2 subI (eVar 3) (eC (.int 1))) (e2 subI (eVar 5) (eC (.int 1))))) (eVar 8)) (gVar 6)) ρ s).then fun ρ s => ((sAsg (eIf (tTruth (eVar 6)) (eCall (Γ (n + 3)) 59 [e2 subI (eVar 2) (e2 subI (eVar 6) (eC (.int 0))), eVar 5]) (eC .non)) (gVar 7)) ρ s).then rwT := fun _ _ => rfl
  rw [e]
  simp only [p_asgV, hf, p_sok, List.set, then_nx]
  unfold appL
  cases hfd : fndB p st.nm with
  | nil =>
    have t0 : truthV (.t (li (ni []))) s = .ok false s := rfl
    simp only [p_eIf, p_tTruth, p_var0, p_varS, p_ok, t0, Bool.false_eq_true, if_false, p_eC, p_sok, List.set, then_nx, p_if]
    exact ⟨_, s, rwt_none _ _ _ _ _ _ s, h.tk⟩
  | cons j r =>
    obtain ⟨b, hb, _⟩ := fndB_mem (p := p) (x := st.nm) (j := j) (by rw [hfd]; exact List.mem_cons_self)
    have hs1 := a_step B n (g.all b (List.mem_of_getElem? hb)) st s h.wf
    have g0 : subI v (iv ((j : Nat) : Int)) s = .ok (.t b.t) s := own_get h (j := j) (by rw [List.getElem?_map, hb]; rfl)
    have e0 : ∀ s, subI (.t (li (ni (j :: r)))) (.t (.int 0)) s = .ok (iv ((j : Nat) : Int)) s := fun s => lst_get (k := 0) (xs := (ni (j :: r)).map T.int) rfl s
    have t0 : truthV (.t (li (ni (j :: r)))) s = .ok true s := rfl
    dsimp only
    rw [hb]
    simp only [p_eIf, p_tTruth, p_var0, p_varS, p_ok, t0, if_true, p_call, p_vals, p_vals0, p_e2, p_eC, e0, g0, hs1, p_sok, List.set, then_nx, p_if]
    cases hst : stepA b st with
    | none =>
      exact ⟨_, s, rwt_none _ _ _ _ _ _ s, h.tk⟩
    | some b' =>
      obtain ⟨s', h1, h2⟩ := own_set h (j := j) (by rw [List.length_map]; exact lt_of_get hb) b'.t
      rw [← List.map_set] at h2
      exact ⟨_, _, s', rwt_some _ _ _ _ _ b' j r s s' h1, h2⟩
theorem rw_loop (B : BaseA Γ) (n : Nat) {s0 : Store} {v : Val} (d1 d2 : Val) : ∀ (l : List RSt) (k : Nat) (p : List Blk) (s : Store) (x4 x5 x6 x7 : Option Val), GL p → Own s0 s v (p.map Blk.t) →
    match rew p k l with
    | .ok q => ∃ y4 y5 y6 y7 s', forL (gTup [4, 5]) (rwB (Γ (n + 3))) (enumT k (l.map RSt.t)) [some d1, some d2, some v, none, x4, x5, x6, x7, none] s = .nx [some d1, some d2, some v, none, y4, y5, y6, y7, none] s' ∧ Own s0 s' v (q.map Blk.t)
    | .no j => ∃ ρ' s', forL (gTup [4, 5]) (rwB (Γ (n + 3))) (enumT k (l.map RSt.t)) [some d1, some d2, some v, none, x4, x5, x6, x7, none] s = .ex ⟨"PaperError", some (.int (j : Nat))⟩ ρ' s' ∧ s'.take s0.length = s0
  | [], k, p, s, x4, x5, x6, x7, g, h => ⟨x4, x5, x6, x7, s, rfl, h⟩
  | st :: r, k, p, s, x4, x5, x6, x7, g, h => by
    rw [steps_enum]
    dsimp only
    rw [p_gTup2, p_sok]
    simp only [List.set]
    have ht := rw_turn B n g h st k d1 d2 x6 x7
    simp only [rew]
    cases ha : appL p st with
    | none =>
      rw [ha] at ht
      obtain ⟨ρ', s', e, h'⟩ := ht
      rw [e]
      exact ⟨ρ', s', rfl, h'⟩
    | some q =>
      rw [ha] at ht
      obtain ⟨y6, y7, s', e, h'⟩ := ht
      rw [e]
      exact rw_loop B n d1 d2 r (k + 1) q s' _ _ _ _ (g.app ha).1 h'
theorem a_rewrite (B : BaseA Γ) (n : Nat) {p : List Blk} (g : GL p) (l : List RSt) (s : Store) (hw : Wf s) :
    match rew p 0 l with
    | .ok q => Γ (n + 4) 60 [.t (bsT p), .t (.lst (l.map RSt.t))] s = .ok (.t (bsT q)) s
    | .no j => Γ (n + 4) 60 [.t (bsT p), .t (.lst (l.map RSt.t))] s = .exc ⟨"PaperError", some (.int (j : Nat))⟩ s := by
  rw [B.rewrite]
  have hst : start 9 [.t (bsT p), .t (.lst (l.map RSt.t))] = [some (.t (bsT p)), some (.t (.lst (l.map RSt.t))), none, none, none, none, none, none, none] := rfl
  have own0 := own_new hw (List.take_length (l := s)) (p.map Blk.t)
  have hc : eComp true [3] (iV (eVar 0)) (gVar 3) none (eCall (Γ (n + 3)) 20 [eVar 3]) [some (.t (bsT p)), some (.t (.lst (l.map RSt.t))), none, none, none, none, none, none, none] s = .ok (.loc s.length) (s ++ [some (.lst ((p.map Blk.t).map Val.t))]) := by
    have hm := comp_map (g := gVar 3) (f := eCall (Γ (n + 3)) 20 [eVar 3]) (ρ := [some (.t (bsT p)), some (.t (.lst (l.map RSt.t))), none, none, none, none, none, none, none]) (s := s) (fun b : Blk => Val.t b.t) (fun b : Blk => Val.t b.t) p fun b _ => ⟨_, rfl, by
      simp only [List.set, p_call, p_vals, p_vals0, p_var0, p_varS, p_ok, a_dup B (n + 2) b s hw]⟩
    rw [p_comp, p_iV, p_var0, p_ok, lst_iter, p_ok]
    rw [show (p.map Blk.t).map Val.t = p.map fun b => Val.t b.t by rw [List.map_map]; rfl]
    show ((compL _ _ _ [some (.t (bsT p)), some (.t (.lst (l.map RSt.t))), none, none, none, none, none, none, none] _ s).bind _) = _
    rw [hm]
    rfl
  have hl := rw_loop B n (.t (bsT p)) (.t (.lst (l.map RSt.t))) l 0 p _ none none none none g own0
  have hi : ∀ s1, iEnum (eVar 1) [some (.t (bsT p)), some (.t (.lst (l.map RSt.t))), some (.loc s.length), none, none, none, none, none, none] s1 = .ok (enumT 0 (l.map RSt.t)) s1 := fun s1 => rfl
  cases hr : rew p 0 l with
  | ok q =>
    rw [hr] at hl
    obtain ⟨x4, x5, x6, x7, s1, e, own1⟩ := hl
    refine fn_Rt rfl hw ?_
    rw [hst]
    simp only [g_rewrite, p_seq2, p_asgV, hc, p_sok, List.set, then_nx, p_for, hi]
    rw [e, then_nx]
    generalize hz : sFz 2 _ _ = oz
    obtain ⟨s2, rfl, ht2, _⟩ := own_sfz2 hz own1 rfl
    simp only [then_nx, List.set, p_ret, p_e1, p_var0, p_varS, p_ok, p_frzT, p_sok]
    exact Rt.mk ht2
  | no j =>
    rw [hr] at hl
    obtain ⟨ρ', s1, e, ht⟩ := hl
    dsimp only
    refine fn_Rx rfl hw ?_
    rw [hst]
    simp only [g_rewrite, p_seq2, p_asgV, hc, p_sok, List.set, then_nx, p_for, hi]
    rw [e]
    simp only [then_ex]
    exact Rx.mk ht
end
end Fl
set_option Elab.async false
set_option linter.all false
set_option maxRecDepth 100000
/-! Fl: share_all, drop_all, improve. -/
namespace Fl
theorem while_run {c : CT} {b : SM} (P : Nat → Env → Store → Prop) (hs : ∀ k ρ s, P (k + 1) ρ s → ∃ s1 ρ2 s2, c ρ s = .ok true s1 ∧ b ρ s1 = .nx ρ2 s2 ∧ P k ρ2 s2) (hz : ∀ ρ s, P 0 ρ s → c ρ s = .ok false s) :
    ∀ (k F : Nat) (ρ : Env) (s : Store), k < F → P k ρ s → ∃ ρ' s', whileN c b F ρ s = .nx ρ' s' ∧ P 0 ρ' s'
  | k, 0, ρ, s, hF, _ => by omega
  | 0, F + 1, ρ, s, _, h => by
    refine ⟨ρ, s, ?_, h⟩
    show (c ρ s).so ρ _ = _
    rw [hz ρ s h]
    rfl
  | k + 1, F + 1, ρ, s, hF, h => by
    obtain ⟨s1, ρ2, s2, h1, h2, h3⟩ := hs k ρ s h
    obtain ⟨ρ', s', h4, h5⟩ := while_run P hs hz k F ρ2 s2 (by omega) h3
    refine ⟨ρ', s', ?_, h5⟩
    show (c ρ s).so ρ _ = _
    rw [h1]
    show (match b ρ s1 with
      | .nx ρ2 s2 => whileN c b F ρ2 s2
      | .ct ρ2 s2 => whileN c b F ρ2 s2
      | .bk ρ2 s2 => .nx ρ2 s2
      | o => o) = _
    rw [h2]
    exact h4
theorem fn_tk {N ps : Nat} {b : SM} {args : List Val} {s s' s1 : Store} {d : T} (h : b (start N args) s = .rt (.t d) s') (hl : args.length = ps) (ht : s'.take s.length = s1) (hw : Store.below s.length s1 = true) : mkFn N ps b args s = .ok (.t d) s1 := by
  unfold mkFn
  rw [if_pos hl, h]
  dsimp only
  rw [show (Val.t d).below s.length = true from rfl, if_pos rfl]
  unfold trim
  rw [ht, if_pos hw]
theorem fn_nxP {N ps : Nat} {b : SM} {args : List Val} {s s' : Store} {ρ : Env} (h : b (start N args) s = .nx ρ s') (hl : args.length = ps) (ht : s'.length = s.length) : mkFn N ps b args s = .ok (.t .non) s' := by
  unfold mkFn
  rw [if_pos hl, h]
  dsimp only
  rw [trim_same ht]
  rfl
/-! ### the instructions that were seen -/
def keyT (i : Ins) : T := .tup [.str i.nm, i.ex, .tup ((ni i.ins).map .int)]
theorem key_eqT (i j : Ins) : T.eqv (keyT i) (keyT j) = keyEq i j := by
  have e : T.eqv (keyT i) (keyT j) = T.eqv (.tup [.str i.nm, i.ex, li (ni i.ins)]) (.tup [.str j.nm, j.ex, li (ni j.ins)]) := by
    unfold keyT
    simp only [T.eqv, T.eqvs]
  rw [e, key_eqv]
theorem key_hsh {i : Ins} (h : InsG i) : ((keyT i).isTup && T.hsh 6 (keyT i)) = true := by
  have hx : T.hsh 5 i.ex = true := by
    have := h.flat
    cases e : i.ex <;> rw [e] at this <;> simp [T.flat] at this <;> rw [T.hsh]
  have hn : ∀ l : List Int, T.hshs 4 (l.map .int) = true := fun l => by
    induction l with
    | nil => rfl
    | cons a r ih => rw [List.map_cons, T.hshs, ih, T.hsh]; rfl
  show (true && T.hsh 6 (.tup [.str i.nm, i.ex, .tup ((ni i.ins).map .int)])) = true
  rw [Bool.true_and, T.hsh, T.hshs, T.hsh, T.hshs, hx, T.hshs, T.hsh, hn, T.hshs]
  rfl
abbrev Seen := List (Ins × Nat)
def kget (es : Seen) (i : Ins) : Option Nat := (es.find? fun e => keyEq e.1 i).map (·.2)
def kput (es : Seen) (i : Ins) (m : Nat) : Seen := if (kget es i).isSome then es.map fun e => if keyEq e.1 i then (e.1, m) else e else es ++ [(i, m)]
def kvT (es : Seen) : List (T × Val) := es.map fun e => (keyT e.1, iv (e.2 : Nat))
theorem tget_kv (i : Ins) : ∀ es : Seen, tget (kvT es) (keyT i) = (kget es i).map fun m => iv (m : Nat)
  | [] => rfl
  | e :: r => by
    have ih := tget_kv i r
    show (if T.eqv (keyT e.1) (keyT i) then some (iv (e.2 : Nat)) else tget (kvT r) (keyT i)) = _
    rw [key_eqT, ih]
    unfold kget
    rw [List.find?_cons]
    cases keyEq e.1 i with
    | true => rfl
    | false => rfl
theorem tput_kv (es : Seen) (i : Ins) (m : Nat) : tput (kvT es) (keyT i) (iv (m : Nat)) = kvT (kput es i m) := by
  unfold tput kput
  rw [tget_kv, Option.isSome_map]
  by_cases c : (kget es i).isSome = true
  · rw [if_pos c, if_pos c]
    unfold kvT
    rw [List.map_map, List.map_map]
    refine List.map_congr_left fun e _ => ?_
    simp only [Function.comp, key_eqT]
    by_cases d : keyEq e.1 i = true
    · rw [if_pos d, if_pos d]
    · rw [if_neg d, if_neg d]
  · rw [if_neg c, if_neg c]
    unfold kvT
    rw [List.map_append]
    rfl
theorem kput_len (es : Seen) (i : Ins) (m : Nat) : (kput es i m).length ≤ es.length + 1 := by
  unfold kput
  split
  · rw [List.length_map]; omega
  · simp
structure SeenOk (es : Seen) (b : Blk) (m : Nat) : Prop where
  ins : ∀ e ∈ es, InsG e.1
  len : es.length ≤ m
  yes : ∀ i e, InsG i → i.nm ≠ "call" → kget es i = some e → e < m ∧ ∃ j, b.code[e]? = some j ∧ keyEq i j = true
  no : ∀ i, InsG i → i.nm ≠ "call" → kget es i = none → ∀ e j, e < m → b.code[e]? = some j → keyEq i j = false
theorem SeenOk.init (b : Blk) : SeenOk [] b 0 := ⟨fun e h => absurd h (by simp), Nat.le_refl _, fun i e _ _ h => by simp [kget] at h, fun i _ _ _ e j h => by omega⟩
theorem SeenOk.same {es : Seen} {b b' : Blk} {m : Nat} (h : SeenOk es b m) (hc : ∀ e, e < m → b'.code[e]? = b.code[e]?) : SeenOk es b' m :=
  ⟨h.ins, h.len, fun i e g n q => by
    obtain ⟨h1, j, h2, h3⟩ := h.yes i e g n q
    exact ⟨h1, j, by rw [hc e h1]; exact h2, h3⟩, fun i g n q e j he hj => h.no i g n q e j he (by rw [← hc e he]; exact hj)⟩
theorem sput_new {es : Seen} {i : Ins} {m : Nat} (c : kget es i = Option.none) {q : Ins} : kget (kput es i m) q = match kget es q with
    | Option.some e => Option.some e
    | Option.none => if keyEq i q then Option.some m else Option.none := by
  have e1 : kput es i m = es ++ [(i, m)] := by unfold kput; rw [c]; rfl
  rw [e1]
  unfold kget
  rw [List.find?_append]
  cases es.find? fun e => keyEq e.1 q with
  | some x => rfl
  | none =>
    simp only [Option.none_or, Option.map_none, List.find?_cons, List.find?_nil]
    cases keyEq i q <;> rfl
theorem sput_old {es : Seen} {i : Ins} {m x0 : Nat} (c : kget es i = Option.some x0) (hc : i.nm = "call") {q : Ins} (n : q.nm ≠ "call") : kget (kput es i m) q = kget es q := by
  have e1 : kput es i m = es.map fun e => if keyEq e.1 i then (e.1, m) else e := by unfold kput; rw [c]; rfl
  rw [e1]
  unfold kget
  rw [List.find?_map]
  have e3 : ((fun e : Ins × Nat => keyEq e.1 q) ∘ fun e : Ins × Nat => if keyEq e.1 i then (e.1, m) else e) = fun e : Ins × Nat => keyEq e.1 q := by
    funext e
    simp only [Function.comp]
    split <;> rfl
  rw [e3]
  cases d : es.find? fun e => keyEq e.1 q with
  | none => rfl
  | some x =>
    have hx := List.find?_some d
    have : ¬ keyEq x.1 i = true := fun z => n ((keyEq_nm hx).symm.trans ((keyEq_nm z).trans hc))
    simp only [Option.map_some]
    rw [if_neg this]
theorem SeenOk.put {es : Seen} {b : Blk} {m : Nat} {i : Ins} (h : SeenOk es b m) (hi : b.code[m]? = Option.some i) (gi : InsG i) (hn : i.nm = "call" ∨ kget es i = Option.none) : SeenOk (kput es i m) b (m + 1) := by
  refine ⟨fun e he => ?_, by have := kput_len es i m; have := h.len; omega, ?_, ?_⟩
  · unfold kput at he
    split at he
    · obtain ⟨x, hx, rfl⟩ := List.mem_map.mp he
      split
      · exact h.ins x hx
      · exact h.ins x hx
    · rcases List.mem_append.mp he with he | he
      · exact h.ins e he
      · rw [List.mem_singleton.mp he]; exact gi
  · cases c : kget es i with
    | none =>
      intro q e g n hq
      rw [sput_new c] at hq
      cases d : kget es q with
      | some x =>
        rw [d] at hq
        cases hq
        obtain ⟨h1, j, h2, h3⟩ := h.yes q _ g n d
        exact ⟨by omega, j, h2, h3⟩
      | none =>
        rw [d] at hq
        dsimp only at hq
        split at hq
        · rename_i hk
          cases hq
          exact ⟨by omega, i, hi, by rw [keyEq_symm g gi]; exact hk⟩
        · cases hq
    | some x0 =>
      have hc : i.nm = "call" := by
        rcases hn with z | z
        · exact z
        · rw [c] at z; cases z
      intro q e g n hq
      rw [sput_old c hc n] at hq
      obtain ⟨h1, j, h2, h3⟩ := h.yes q e g n hq
      exact ⟨by omega, j, h2, h3⟩
  · cases c : kget es i with
    | none =>
      intro q g n hq e j he hj
      rw [sput_new c] at hq
      cases d : kget es q with
      | some x => rw [d] at hq; cases hq
      | none =>
        rw [d] at hq
        dsimp only at hq
        by_cases he2 : e = m
        · subst he2
          rw [hi] at hj
          cases hj
          split at hq
          · cases hq
          · rename_i hk
            rw [keyEq_symm g gi]
            simpa using hk
        · exact h.no q g n d e j (by omega) hj
    | some x0 =>
      have hc : i.nm = "call" := by
        rcases hn with z | z
        · exact z
        · rw [c] at z; cases z
      intro q g n hq e j he hj
      rw [sput_old c hc n] at hq
      by_cases he2 : e = m
      · subst he2
        rw [hi] at hj
        cases hj
        cases hk : keyEq q i with
        | false => rfl
        | true => exact absurd ((keyEq_nm hk).trans hc) n
      · exact h.no q g n hq e j (by omega) hj
theorem take_next {α : Type} {R : α → α → Prop} {l : List α} {m : Nat} {x : α} (h : (l.take m).Pairwise R) (hx : l[m]? = some x) (hr : ∀ e y, e < m → l[e]? = some y → R y x) : (l.take (m + 1)).Pairwise R := by
  have hm := lt_of_get hx
  rw [List.take_succ, hx]
  show (l.take m ++ [x]).Pairwise R
  rw [List.pairwise_append]
  refine ⟨h, List.pairwise_singleton _ _, fun y hy z hz => ?_⟩
  rw [List.mem_singleton.mp hz]
  obtain ⟨e, he⟩ := List.getElem?_of_mem hy
  have hlt := lt_of_get he
  rw [List.length_take] at hlt
  rw [List.getElem?_take_of_lt (by omega)] at he
  exact hr e y (by omega) he
end Fl
set_option Elab.async false
set_option linter.all false
set_option maxRecDepth 100000
/-! Fl: share_all, drop_all, improve: the program. -/
namespace Fl
abbrev Pa1 (s : Store) (ts : List T) : Store := s ++ [some (Cell.lst (ts.map Val.t))]
abbrev Pa2 (s : Store) (ts : List T) (es : Seen) : Store := s ++ [some (Cell.lst (ts.map Val.t)), some (Cell.kd (kvT es))]
section
variable {s : Store} {ts : List T} {es : Seen}
theorem s2_c0 : Store.cell (Pa2 s ts es) s.length = some (.lst (ts.map Val.t)) := by unfold Store.cell; simp
theorem s2_c1 : Store.cell (Pa2 s ts es) (s.length + 1) = some (.kd (kvT es)) := by
  unfold Store.cell
  rw [List.getElem?_append_right (by omega)]
  simp
theorem s2_set0 (us : List T) : (Pa2 s ts es).set s.length (some (.lst (us.map Val.t))) = Pa2 s us es := by
  rw [List.set_append_right _ _ (Nat.le_refl _)]
  simp
theorem s2_set1 (fs : Seen) : (Pa2 s ts es).set (s.length + 1) (some (.kd (kvT fs))) = Pa2 s ts fs := by
  rw [List.set_append_right _ _ (by omega)]
  simp
theorem s2_take : (Pa2 s ts es).take (Pa1 s ts).length = Pa1 s ts := by
  have e : Pa2 s ts es = Pa1 s ts ++ [some (Cell.kd (kvT es))] := by simp
  rw [e, List.take_left]
theorem s2_wf (h : Wf s) : Wf (Pa2 s ts es) := by
  refine h.app fun c hc => ?_
  simp only [List.mem_cons, List.not_mem_nil, or_false] at hc
  rcases hc with rfl | rfl
  · exact below_t _ _
  · show ((kvT es).all fun p => p.2.below _) = true
    unfold kvT
    rw [List.all_map]
    exact List.all_eq_true.mpr fun e _ => rfl
theorem s1_wf (h : Wf s) : Wf (Pa1 s ts) := h.app1
theorem s2_app (hl : ts.length < 16000000) (d : T) : appendV (.loc s.length) (.t d) (Pa2 s ts es) = .ok (.t .non) (Pa2 s (ts ++ [d]) es) := by
  unfold appendV
  dsimp only
  rw [s2_c0]
  dsimp only
  rw [if_pos (by rw [List.length_map]; show _ < 16777216; omega), show (ts.map Val.t ++ [Val.t d]) = (ts ++ [d]).map Val.t by simp, s2_set0]
  rfl
theorem s2_lstC : lstC (.loc s.length) (Pa2 s ts es) = .ok () (Pa2 s ts es) := by
  unfold lstC; dsimp only; rw [s2_c0]
theorem s1_app (hl : ts.length < 16000000) (d : T) : appendV (.loc s.length) (.t d) (Pa1 s ts) = .ok (.t .non) (Pa1 s (ts ++ [d])) := by
  have := e_app (s := s) (vs := ts.map Val.t) (v := .t d) (by rw [List.length_map]; show _ < 16777216; omega)
  rw [this]
  simp
theorem s1_lstC : lstC (.loc s.length) (Pa1 s ts) = .ok () (Pa1 s ts) := e_lstC
theorem s2_in {i : Ins} (h : InsG i) : inK (.t (keyT i)) (.loc (s.length + 1)) (Pa2 s ts es) = .ok (kget es i).isSome (Pa2 s ts es) := by
  unfold inK
  dsimp only
  rw [s2_c1]
  dsimp only
  rw [key_hsh h, if_pos rfl, tget_kv, Option.isSome_map]
theorem s2_ix {i : Ins} (h : InsG i) {m : Nat} (hm : kget es i = some m) : ixK (.loc (s.length + 1)) (.t (keyT i)) (Pa2 s ts es) = .ok (iv (m : Nat)) (Pa2 s ts es) := by
  unfold ixK
  dsimp only
  rw [s2_c1]
  dsimp only
  rw [key_hsh h, if_pos rfl, tget_kv, hm]
  rfl
theorem s2_put {i : Ins} (h : InsG i) (hl : es.length < 1000000) (m : Nat) : setK (.loc (s.length + 1)) (.t (keyT i)) (iv (m : Nat)) (Pa2 s ts es) = .ok () (Pa2 s ts (kput es i m)) := by
  unfold setK
  dsimp only
  rw [s2_c1]
  dsimp only
  have hk : (kvT es).length < L := by
    unfold kvT
    rw [List.length_map]; show _ < 16777216; omega
  rw [key_hsh h, decide_eq_true hk, tput_kv, s2_set1]
  rfl
theorem tup_li (l : List Nat) (s : Store) : tupleV false (.t (li (ni l))) s = .ok (.t (.tup ((ni l).map .int))) s := by
  show ((itemsL (.t (.lst ((ni l).map .int))) s).bind fun vs => newT false vs) = _
  rw [li_itemsL, p_ok]
  exact p_newTf (li_trees _) s
end
section
variable {Γ : Nat → FEnv}
abbrev shB (G : FEnv) : SM := (sSeq (sAsg (e2 subI (e2 subI (eVar 0) (eC (.int 4))) (eVar 3)) (gTup [5, 6, 7, 8])) (sSeq (sAsg (eTup false [eVar 5, eVar 6, e1 (tupleV false) (eVar 7)]) (gVar 4)) (sIf (tAnd (tNe (eVar 5) (eC (.str "call"))) (tInK (eVar 4) (eVar 2))) (sSeq (sAsg (eTup false [eC (.str "share"), e2 subI (eVar 0) (eC (.int 1)), eVar 3, eIxK (eVar 2) (eVar 4)]) (gVar 9)) (sSeq (sExpr (e2c lstC appendV (eVar 1) (eVar 9))) (sAsg (eCall G 59 [eVar 0, eVar 9]) (gVar 0)))) (sSeq (sSubK (eVar 3) (eVar 2) (eVar 4)) (sAsg (e2 (addV false) (eVar 3) (eC (.int 1))) (gVar 3))))))
@[simp] theorem p_tInK (a b : CE) (ρ : Env) (s : Store) : tInK a b ρ s = (a ρ s).bind fun x s => (b ρ s).bind fun y s => inK x y s := rfl
@[simp] theorem p_ixK (a b : CE) (ρ : Env) (s : Store) : eIxK a b ρ s = (a ρ s).bind fun x s => (b ρ s).bind fun y s => ixK x y s := rfl
@[simp] theorem p_ssubK (e o i : CE) (ρ : Env) (s : Store) : sSubK e o i ρ s = (e ρ s).so ρ fun v s1 => (o ρ s1).so ρ fun ov s2 => (i ρ s2).so ρ fun iv s3 => (setK ov iv v s3).so ρ fun _ s4 => .nx ρ s4 := rfl
/-- what share_all has done, k instructions to go -/
def ShP (s : Store) (b0 : Blk) (ts : List T) (k : Nat) (ρ : Env) (s1 : Store) : Prop := ∃ (b : Blk) (m : Nat) (l : List RSt) (es : Seen) (x4 x5 x6 x7 x8 x9 : Option Val), k + m = b.code.length ∧ GB b ∧ b.nm = b0.nm ∧ runA b0 l = some b ∧ (∀ st ∈ l, st.nm = b0.nm) ∧ l.length + b.code.length = b0.code.length ∧
  SeenOk es b m ∧ (b.code.take m).Pairwise Dis ∧ ρ = [some (.t b.t), some (.loc s.length), some (.loc (s.length + 1)), some (iv (m : Nat)), x4, x5, x6, x7, x8, x9] ∧ s1 = Pa2 s (ts ++ l.map RSt.t) es
theorem sh_turn (B : BaseA Γ) (n : Nat) {s : Store} (hw : Wf s) {b0 : Blk} (g0 : GB b0) {ts : List T} (hts : ts.length < 14000000) (k : Nat) (ρ : Env) (s1 : Store) (h : ShP s b0 ts (k + 1) ρ s1) :
    ∃ s1' ρ2 s2, tLt (eVar 3) (e1 lenV (e2 subI (eVar 0) (eC (.int 4)))) ρ s1 = .ok true s1' ∧ shB (Γ (n + 3)) ρ s1' = .nx ρ2 s2 ∧ ShP s b0 ts k ρ2 s2 := by
  obtain ⟨b, m, l, es, x4, x5, x6, x7, x8, x9, hk, gb, hn, hr, hl, hlen, hs, hp, rfl, rfl⟩ := h
  have hm : m < b.code.length := by omega
  have hi : b.code[m]? = some b.code[m] := List.getElem?_eq_getElem hm
  generalize b.code[m] = i at hi
  have gi := gb.ins _ (List.mem_of_getElem? hi)
  have g0l := g0.len
  have htl : (ts ++ l.map RSt.t).length < 16000000 := by rw [List.length_append, List.length_map]; omega
  refine ⟨Pa2 s (ts ++ l.map RSt.t) es, ?_⟩
  have hc : tLt (eVar 3) (e1 lenV (e2 subI (eVar 0) (eC (.int 4)))) [some (.t b.t), some (.loc s.length), some (.loc (s.length + 1)), some (iv (m : Nat)), x4, x5, x6, x7, x8, x9] (Pa2 s (ts ++ l.map RSt.t) es) = .ok true (Pa2 s (ts ++ l.map RSt.t) es) := by
    simp only [p_tLt, p_e1, p_e2, p_var0, p_varS, p_ok, p_eC, blk_get4, blk_len, p_lt]
    rw [decide_eq_true (by omega)]
  rw [hc]
  have hin := s2_in (s := s) (ts := ts ++ l.map RSt.t) (es := es) gi
  have hkey : ∀ s, newT false [.t (.str i.nm), .t i.ex, .t (.tup ((ni i.ins).map .int))] s = .ok (.t (keyT i)) s := fun s => rfl
  have eB : ∀ ρ s, shB (Γ (n + 3)) ρ s = ((sAsg (e2 subI (e2 subI (eVar 0) (eC (.int 4))) (eVar 3)) (gTup [5, 6, 7, 8])) ρ s).then (sSeq (sAsg (eTup false [eVar 5, eVar 6, e1 (tupleV false) (eVar 7)]) (gVar 4)) (sIf (tAnd (tNe (eVar 5) (eC (.str "call"))) (tInK (eVar 4) (eVar 2))) (sSeq (sAsg (eTup false [eC (.str "share"), e2 subI (eVar 0) (eC (.int 1)), eVar 3, eIxK (eVar 2) (eVar 4)]) (gVar 9)) (sSeq (sExpr (e2c lstC appendV (eVar 1) (eVar 9))) (sAsg (eCall (Γ (n + 3)) 59 [eVar 0, eVar 9]) (gVar 0)))) (sSeq (sSubK (eVar 3) (eVar 2) (eVar 4)) (sAsg (e2 (addV false) (eVar 3) (eC (.int 1))) (gVar 3))))) := fun ρ s => rfl
  have body : ∀ (o : SO), shB (Γ (n + 3)) [some (.t b.t), some (.loc s.length), some (.loc (s.length + 1)), some (iv (m : Nat)), x4, x5, x6, x7, x8, x9] (Pa2 s (ts ++ l.map RSt.t) es) = o →
      (((tAnd (tNe (eVar 5) (eC (.str "call"))) (tInK (eVar 4) (eVar 2))) [some (.t b.t), some (.loc s.length), some (.loc (s.length + 1)), some (iv (m : Nat)), some (.t (keyT i)), some (.t (.str i.nm)), some (.t i.ex), some (.t (li (ni i.ins))), some (.t (li (ni i.outs))), x9] (Pa2 s (ts ++ l.map RSt.t) es)).so [some (.t b.t), some (.loc s.length), some (.loc (s.length + 1)), some (iv (m : Nat)), some (.t (keyT i)), some (.t (.str i.nm)), some (.t i.ex), some (.t (li (ni i.ins))), some (.t (li (ni i.outs))), x9] fun x s2 => if x then (sSeq (sAsg (eTup false [eC (.str "share"), e2 subI (eVar 0) (eC (.int 1)), eVar 3, eIxK (eVar 2) (eVar 4)]) (gVar 9)) (sSeq (sExpr (e2c lstC appendV (eVar 1) (eVar 9))) (sAsg (eCall (Γ (n + 3)) 59 [eVar 0, eVar 9]) (gVar 0)))) [some (.t b.t), some (.loc s.length), some (.loc (s.length + 1)), some (iv (m : Nat)), some (.t (keyT i)), some (.t (.str i.nm)), some (.t i.ex), some (.t (li (ni i.ins))), some (.t (li (ni i.outs))), x9] s2 else (sSeq (sSubK (eVar 3) (eVar 2) (eVar 4)) (sAsg (e2 (addV false) (eVar 3) (eC (.int 1))) (gVar 3))) [some (.t b.t), some (.loc s.length), some (.loc (s.length + 1)), some (iv (m : Nat)), some (.t (keyT i)), some (.t (.str i.nm)), some (.t i.ex), some (.t (li (ni i.ins))), some (.t (li (ni i.outs))), x9] s2) = o := fun o ho => by
    rw [eB] at ho
    simp only [p_asgT, p_e2, p_var0, p_varS, p_ok, p_eC, blk_get4, code_get hi, p_sok, ins_g4, List.set, then_nx, p_seq2, p_asgV, p_tup, p_vals, p_vals0, p_e1, tup_li, hkey, p_if] at ho
    exact ho
  by_cases hcond : i.nm ≠ "call" ∧ (kget es i).isSome = true
  · obtain ⟨e, he⟩ := Option.isSome_iff_exists.mp hcond.2
    obtain ⟨hem, j, hj, hkq⟩ := hs.yes i e gi hcond.1 he
    have hsa : shareA b m e = some ⟨b.nm, b.giv, b.res, b.code.take m ++ (b.code.drop (m + 1)).map (renI (outI i) (outI j)), ren (outI i) (outI j) b.outs⟩ := by
      unfold shareA
      rw [hi, hj]
      dsimp only
      rw [if_pos ⟨hem, hcond.1, hkq⟩]
    generalize hb' : (⟨b.nm, b.giv, b.res, b.code.take m ++ (b.code.drop (m + 1)).map (renI (outI i) (outI j)), ren (outI i) (outI j) b.outs⟩ : Blk) = b' at hsa
    obtain ⟨gb', hn', hl'⟩ := gb.share hsa
    have hst : stepA b (.share b.nm (m : Nat) (e : Nat)) = some b' := by
      simp only [stepA]
      rw [if_pos (by omega)]
      exact hsa
    have hsame : ∀ q, q < m → b'.code[q]? = b.code[q]? := fun q hq => by
      rw [← hb']
      show (b.code.take m ++ _)[q]? = _
      rw [List.getElem?_append_left (by rw [List.length_take]; omega), List.getElem?_take_of_lt hq]
    have htk : b'.code.take m = b.code.take m := by
      rw [← hb']
      show (b.code.take m ++ _).take m = _
      rw [List.take_append_of_le_length (by rw [List.length_take]; omega), List.take_take, Nat.min_self]
    have hix := s2_ix (s := s) (ts := ts ++ l.map RSt.t) gi he
    have happ := s2_app (s := s) (es := es) htl (RSt.share b.nm (m : Nat) (e : Nat)).t
    have h59 := a_step B n gb (.share b.nm (m : Nat) (e : Nat)) (Pa2 s (ts ++ l.map RSt.t ++ [(RSt.share b.nm (m : Nat) (e : Nat)).t]) es) (s2_wf hw)
    rw [hst] at h59
    refine ⟨[some (.t b'.t), some (.loc s.length), some (.loc (s.length + 1)), some (iv (m : Nat)), some (.t (keyT i)), some (.t (.str i.nm)), some (.t i.ex), some (.t (li (ni i.ins))), some (.t (li (ni i.outs))), some (.t (RSt.share b.nm (m : Nat) (e : Nat)).t)], Pa2 s (ts ++ l.map RSt.t ++ [(RSt.share b.nm (m : Nat) (e : Nat)).t]) es, rfl, ?_, ?_⟩
    · refine (body _ rfl).symm.trans ?_
      have hT : ∀ s, newT false [.t (.str "share"), .t (.str b.nm), iv (m : Nat), iv (e : Nat)] s = .ok (.t (RSt.share b.nm (m : Nat) (e : Nat)).t) s := fun s => rfl
      simp only [p_tAnd, p_tNe, p_var0, p_varS, p_ok, p_eC, p_eqS, show (i.nm == "call") = false by simpa using hcond.1, Bool.not_false, if_true, p_tInK, hin, hcond.2, p_sok, p_seq2, p_asgV, p_tup, p_vals, p_vals0, p_e2, blk_get1, p_ixK, hix, hT, List.set, then_nx, p_sexpr, p_e2c, s2_lstC, happ, p_call, h59, oT]
    · refine ⟨b', m, l ++ [.share b.nm (m : Nat) (e : Nat)], es, _, _, _, _, _, _, by omega, gb', hn'.trans hn, runA_app hr (by unfold runA; rw [hst]; rfl), fun st hst => ?_, by rw [List.length_append, List.length_singleton]; omega, hs.same hsame, by rw [htk]; exact hp, rfl, by rw [List.map_append, List.append_assoc]; rfl⟩
      rcases List.mem_append.mp hst with h | h
      · exact hl st h
      · rw [List.mem_singleton.mp h]; exact hn
  · have hno : i.nm = "call" ∨ kget es i = none := by
      by_cases c : i.nm = "call"
      · exact .inl c
      · refine .inr ?_
        cases d : kget es i with
        | none => rfl
        | some x => exact absurd ⟨c, by rw [d]; rfl⟩ hcond
    have hput := s2_put (s := s) (ts := ts ++ l.map RSt.t) (es := es) gi (by have := hs.len; have := gb.len; omega) m
    refine ⟨[some (.t b.t), some (.loc s.length), some (.loc (s.length + 1)), some (iv ((m + 1 : Nat) : Nat)), some (.t (keyT i)), some (.t (.str i.nm)), some (.t i.ex), some (.t (li (ni i.ins))), some (.t (li (ni i.outs))), x9], Pa2 s (ts ++ l.map RSt.t) (kput es i m), rfl, ?_, ?_⟩
    · refine (body _ rfl).symm.trans ?_
      have hcv : (tAnd (tNe (eVar 5) (eC (.str "call"))) (tInK (eVar 4) (eVar 2))) [some (.t b.t), some (.loc s.length), some (.loc (s.length + 1)), some (iv (m : Nat)), some (.t (keyT i)), some (.t (.str i.nm)), some (.t i.ex), some (.t (li (ni i.ins))), some (.t (li (ni i.outs))), x9] (Pa2 s (ts ++ l.map RSt.t) es) = .ok false (Pa2 s (ts ++ l.map RSt.t) es) := by
        simp only [p_tAnd, p_tNe, p_var0, p_varS, p_ok, p_eC, p_eqS, p_tInK, hin]
        rcases hno with c | c
        · rw [c]; rfl
        · rw [c]
          cases (i.nm == "call") <;> rfl
      rw [hcv]
      simp only [p_sok, Bool.false_eq_true, if_false, p_seq2, p_ssubK, p_var0, p_varS, hput, then_nx, p_asgV, p_e2, p_ok, p_eC, p_add, List.set]
      rfl
    · refine ⟨b, m + 1, l, kput es i m, _, _, _, _, _, _, by omega, gb, hn, hr, hl, hlen, hs.put hi gi hno, take_next hp hi fun e y he hy => ?_, rfl, rfl⟩
      rcases hno with c | c
      · exact .inl c
      · by_cases c2 : i.nm = "call"
        · exact .inl c2
        · have := hs.no i gi c2 c e y he hy
          exact .inr this
theorem a_share_all (B : BaseA Γ) (n : Nat) {b : Blk} (g : GB b) (s : Store) (hw : Wf s) (ts : List T) (hts : ts.length < 14000000) : ∃ (l : List RSt) (b' : Blk), runA b l = some b' ∧ (∀ st ∈ l, st.nm = b.nm) ∧ GB b' ∧ b'.nm = b.nm ∧ l.length ≤ 90000 ∧ b'.code.Pairwise Dis ∧
    Γ (n + 4) 61 [.t b.t, .loc s.length] (Pa1 s ts) = .ok (.t b'.t) (Pa1 s (ts ++ l.map RSt.t)) := by
  have hP : ShP s b ts b.code.length [some (.t b.t), some (.loc s.length), some (.loc (s.length + 1)), some (iv ((0 : Nat) : Int)), none, none, none, none, none, none] (Pa2 s ts []) :=
    ⟨b, 0, [], [], _, _, _, _, _, _, by omega, g, rfl, rfl, fun st h => absurd h (by simp), by simp, SeenOk.init b, by simp, rfl, by simp⟩
  obtain ⟨ρ', s', hwh, b', m, l, es, x4, x5, x6, x7, x8, x9, hk, gb, hn, hr, hl, hlen, hs, hp, rfl, rfl⟩ := while_run (ShP s b ts) (fun k ρ s1 h => sh_turn B n hw g hts k ρ s1 h) (by
    rintro ρ s1 ⟨b', m, l, es, x4, x5, x6, x7, x8, x9, hk, gb, hn, hr, hl, hlen, hs, hp, rfl, rfl⟩
    simp only [p_tLt, p_e1, p_e2, p_var0, p_varS, p_ok, p_eC, blk_get4, blk_len, p_lt]
    rw [decide_eq_false (by omega)]) b.code.length whileMax _ _ (by have := g.len; show _ < 100000000; omega) hP
  refine ⟨l, b', hr, hl, gb, hn, by have := g.len; omega, by rw [List.take_of_length_le (by omega)] at hp; exact hp, ?_⟩
  rw [B.share_all]
  refine fn_tk (s' := Pa2 s (ts ++ l.map RSt.t) es) ?_ rfl (by
    have := s2_take (s := s) (ts := ts ++ l.map RSt.t) (es := es)
    have e : (Pa1 s ts).length = (Pa1 s (ts ++ l.map RSt.t)).length := by simp
    rw [e]; exact this) (by
    have := s1_wf (s := s) (ts := ts ++ l.map RSt.t) hw
    have e : (Pa1 s ts).length = (Pa1 s (ts ++ l.map RSt.t)).length := by simp
    rw [e]; exact this)
  rw [show start 10 [.t b.t, .loc s.length] = [some (.t b.t), some (.loc s.length), none, none, none, none, none, none, none, none] from rfl]
  have hkd : ∀ ρ, eKd ρ (Pa1 s ts) = .ok (.loc (s.length + 1)) (Pa2 s ts []) := fun ρ => by
    show R.ok (Val.loc (Pa1 s ts).length) (Pa1 s ts ++ [some (Cell.kd [])]) = _
    have e : (Pa1 s ts).length = s.length + 1 := by simp
    rw [e]
    congr 1
    simp [kvT]
  simp only [g_share_all, p_seq2, p_asgV, hkd, p_sok, List.set, then_nx, p_eC]
  have : sWhile (tLt (eVar 3) (e1 lenV (e2 subI (eVar 0) (eC (.int 4))))) (shB (Γ (n + 3))) [some (.t b.t), some (.loc s.length), some (.loc (s.length + 1)), some (iv ((0 : Nat) : Int)), none, none, none, none, none, none] (Pa2 s ts []) = _ := hwh
  rw [show (sWhile (tLt (eVar 3) (e1 lenV (e2 subI (eVar 0) (eC (.int 4))))) _ [some (.t b.t), some (.loc s.length), some (.loc (s.length + 1)), some (.t (.int 0)), none, none, none, none, none, none] (Pa2 s ts [])) = _ from this]
  rfl
end
end Fl
set_option Elab.async false
set_option linter.all false
set_option maxRecDepth 100000
/-! Fl: drop_all, improve. -/
namespace Fl
section
variable {Γ : Nat → FEnv}
theorem down_len {ρ : Env} {s : Store} {n : Nat} (hn : n ≤ 1000000) (a : CE) (ha : a ρ s = .ok (iv ((n : Nat) : Int)) s) :
    iDownC (e2 subV a (eC (.int 1))) (e1 negV (eC (.int 1))) (e1 negV (eC (.int 1))) ρ s = .ok ((List.range n).map fun k : Nat => iv ((n : Nat) - 1 - (k : Nat))) s := by
  have e1' : e2 subV a (eC (.int 1)) ρ s = .ok (iv ((n : Nat) - 1)) s := by simp only [p_e2, ha, p_ok, p_eC, p_sub]
  have e2' : e1 negV (eC (.int 1)) ρ s = .ok (iv (-1)) s := rfl
  show ((e2 subV a (eC (.int 1)) ρ s).bind _) = _
  rw [e1', p_ok, p_bind, e2', p_ok, p_bind, e2', p_ok]
  show (if rangeOk ((n : Nat) - 1) && ((-1 : Int) == -1 && (-1 : Int) == -1) then (pure (downto ((n : Nat) - 1)) : M (List Val)) else bad) s = _
  have hr : rangeOk ((n : Nat) - 1 : Int) = true := by
    unfold rangeOk
    rw [Bool.and_eq_true, cdec_iff, cdec_iff]
    have h1 : (2 : Int) ^ 62 = 4611686018427387904 := rfl
    rw [h1]
    constructor <;> omega
  rw [hr]
  show R.ok (downto ((n : Nat) - 1)) s = _
  unfold downto
  rw [show (((n : Nat) : Int) - 1 + 1).toNat = n by omega]
  rfl
theorem tnotn_non (a : CE) (ρ : Env) (s s' : Store) (h : a ρ s = .ok (.t .non) s') : tNotN a ρ s = .ok false s' := by
  show (a ρ s).bind _ = _
  rw [h]; rfl
theorem tnotn_blk (a : CE) (ρ : Env) (s s' : Store) (b : Blk) (h : a ρ s = .ok (.t b.t) s') : tNotN a ρ s = .ok true s' := by
  show (a ρ s).bind _ = _
  rw [h]; rfl
theorem a_drop_all (B : BaseA Γ) (n : Nat) {b : Blk} (g : GB b) (hd : b.code.Pairwise Dis) (s : Store) (hw : Wf s) (ts : List T) (hts : ts.length < 14000000) : ∃ (l : List RSt) (b' : Blk), runA b l = some b' ∧ (∀ st ∈ l, st.nm = b.nm) ∧ GB b' ∧ b'.nm = b.nm ∧ l.length ≤ 90000 ∧ b'.code.Pairwise Dis ∧ NDf b' 0 ∧
    Γ (n + 4) 62 [.t b.t, .loc s.length] (Pa1 s ts) = .ok (.t .non) (Pa1 s (ts ++ l.map RSt.t)) := by
  have gl := g.len
  have hit : iDownC (e2 subV (e1 lenV (e2 subI (eVar 0) (eC (.int 4)))) (eC (.int 1))) (e1 negV (eC (.int 1))) (e1 negV (eC (.int 1))) [some (.t b.t), some (.loc s.length), none, none, none] (Pa1 s ts) = .ok ((List.range b.code.length).map fun k : Nat => iv ((b.code.length : Nat) - 1 - (k : Nat))) (Pa1 s ts) :=
    down_len (by omega) _ (by simp only [p_e1, p_e2, p_var0, p_ok, p_eC, blk_get4, blk_len])
  rw [B.drop_all]
  generalize hc : forL (gVar 2) (sSeq (sAsg (eTup false [eC (.str "drop"), e2 subI (eVar 0) (eC (.int 1)), eVar 2]) (gVar 3)) (sSeq (sAsg (eCall (Γ (n + 3)) 59 [eVar 0, eVar 3]) (gVar 4)) (sIf (tNotN (eVar 4)) (sSeq (sExpr (e2c lstC appendV (eVar 1) (eVar 3))) (sAsg (eVar 4) (gVar 0))) (sNil)))) ((List.range b.code.length).map fun k : Nat => iv ((b.code.length : Nat) - 1 - (k : Nat))) [some (.t b.t), some (.loc s.length), none, none, none] (Pa1 s ts) = o
  obtain ⟨ρ', s', rfl, b', l, x2, x3, x4, h1, h2, h3, h4, h5, h6, h7, h8, rfl, rfl⟩ := for_ix hc (fun k ρ s1 => ∃ (b1 : Blk) (l : List RSt) (x2 x3 x4 : Option Val), runA b l = some b1 ∧ (∀ st ∈ l, st.nm = b.nm) ∧ GB b1 ∧ b1.nm = b.nm ∧ l.length ≤ k ∧ b1.code.Pairwise Dis ∧ NDf b1 (b.code.length - k) ∧ b.code.length - k ≤ b1.code.length ∧
      ρ = [some (.t b1.t), some (.loc s.length), x2, x3, x4] ∧ s1 = Pa1 s (ts ++ l.map RSt.t)) ⟨b, [], _, _, _, rfl, fun st h => absurd h (by simp), g, rfl, Nat.le_refl _, hd, NDf.full b, Nat.le_refl _, rfl, by simp⟩ (by
    rintro k hk ρ s1 ⟨b1, l, x2, x3, x4, h1, h2, h3, h4, h5, h6, h7, h8, rfl, rfl⟩
    obtain ⟨m, hm⟩ : ∃ m, b.code.length = m + 1 + k := ⟨b.code.length - 1 - k, by omega⟩
    rw [show b.code.length - k = m + 1 by omega] at h7 h8
    rw [show b.code.length - (k + 1) = m by omega]
    have hiv : iv ((b.code.length : Nat) - 1 - (k : Nat)) = iv (m : Nat) := by
      congr 2; omega
    rw [hiv]
    have h59 := a_step B n h3 (.drop b1.nm (m : Nat)) (Pa1 s (ts ++ l.map RSt.t)) (s1_wf hw)
    have hT : ∀ s, newT false [.t (.str "drop"), .t (.str b1.nm), iv (m : Nat)] s = .ok (.t (RSt.drop b1.nm (m : Nat)).t) s := fun s => rfl
    have hst : stepA b1 (.drop b1.nm (m : Nat)) = dropA b1 m := by
      simp only [stepA]
      rw [if_pos (by omega)]
      rfl
    rw [hst] at h59
    have happ := s1_app (s := s) (ts := ts ++ l.map RSt.t) (by rw [List.length_append, List.length_map]; omega) (RSt.drop b1.nm (m : Nat)).t
    cases hda : dropA b1 m with
    | none =>
      rw [hda] at h59
      refine ⟨_, _, [some (.t b1.t), some (.loc s.length), some (iv (m : Nat)), some (.t (RSt.drop b1.nm (m : Nat)).t), some (.t .non)], Pa1 s (ts ++ l.map RSt.t), rfl, ?_, b1, l, _, _, _, h1, h2, h3, h4, by omega, h6, h7.keep hda, by omega, rfl, rfl⟩
      simp only [List.set, p_seq2, p_asgV, p_tup, p_vals, p_vals0, p_eC, p_ok, p_e2, p_var0, p_varS, blk_get1, hT, p_sok, then_nx, p_call, h59, p_if]
      rw [tnotn_non _ _ _ _ rfl]
      rfl
    | some b2 =>
      rw [hda] at h59
      obtain ⟨g2, n2, l2⟩ := h3.drop hda
      obtain ⟨i, e, _, _, eb⟩ := dropA_some hda
      have hp2 : b2.code.Pairwise Dis := by
        rw [eb]
        exact cut_pair h6 m
      refine ⟨_, _, [some (.t b2.t), some (.loc s.length), some (iv (m : Nat)), some (.t (RSt.drop b1.nm (m : Nat)).t), some (.t b2.t)], Pa1 s (ts ++ l.map RSt.t ++ [(RSt.drop b1.nm (m : Nat)).t]), rfl, ?_, b2, l ++ [.drop b1.nm (m : Nat)], _, _, _, runA_app h1 (by unfold runA; rw [hst, hda]; rfl), fun st hs => ?_, g2, n2.trans h4, by rw [List.length_append, List.length_singleton]; omega, hp2, h7.cut hda, by omega, rfl, by rw [List.map_append, List.append_assoc]; rfl⟩
      · simp only [List.set, p_seq2, p_asgV, p_tup, p_vals, p_vals0, p_eC, p_ok, p_e2, p_var0, p_varS, blk_get1, hT, p_sok, then_nx, p_call, h59, p_if, oT]
        rw [tnotn_blk _ _ _ _ b2 rfl]
        simp only [p_sok, if_true, p_seq2, p_sexpr, p_e2c, p_var0, p_varS, p_ok, s1_lstC, happ, then_nx, p_asgV, List.set]
      · rcases List.mem_append.mp hs with h | h
        · exact h2 st h
        · rw [List.mem_singleton.mp h]; exact h4)
  refine ⟨l, b', h1, h2, h3, h4, by omega, h6, by rw [Nat.sub_self] at h7; exact h7, ?_⟩
  refine fn_nxP (ρ := [some (.t b'.t), some (.loc s.length), x2, x3, x4]) ?_ rfl (by simp)
  rw [show start 5 [.t b.t, .loc s.length] = [some (.t b.t), some (.loc s.length), none, none, none] from rfl]
  simp only [g_drop_all, p_for, hit, p_sok]
  exact hc
/-- nothing is left to be done -/
def Done (b : Blk) : Prop := b.code.Pairwise Dis ∧ NDf b 0
theorem one_block (B : BaseA Γ) (n : Nat) {b : Blk} (g : GB b) (s : Store) (hw : Wf s) (ts : List T) (hts : ts.length < 10000000) (d0 : Val) : ∃ (l : List RSt) (b' : Blk), runA b l = some b' ∧ (∀ st ∈ l, st.nm = b.nm) ∧ GB b' ∧ b'.nm = b.nm ∧ l.length ≤ 180000 ∧ Done b' ∧
    sExpr (eCall (Γ (n + 4)) 62 [eCall (Γ (n + 4)) 61 [eVar 2, eVar 1], eVar 1]) [some d0, some (.loc s.length), some (.t b.t)] (Pa1 s ts) = .nx [some d0, some (.loc s.length), some (.t b.t)] (Pa1 s (ts ++ l.map RSt.t)) := by
  obtain ⟨l1, b1, a1, a2, a3, a4, a5, a6, a7⟩ := a_share_all B n g s hw ts (by omega)
  obtain ⟨l2, b2, c1, c2, c3, c4, c5, c6, c7, c8⟩ := a_drop_all B n a3 a6 s hw (ts ++ l1.map RSt.t) (by rw [List.length_append, List.length_map]; omega)
  refine ⟨l1 ++ l2, b2, runA_app a1 c1, fun st hs => ?_, c3, c4.trans a4, by rw [List.length_append]; omega, ⟨c6, c7⟩, ?_⟩
  · rcases List.mem_append.mp hs with h | h
    · exact a2 st h
    · exact (c2 st h).trans a4
  · simp only [p_sexpr, p_call, p_vals, p_vals0, p_var0, p_varS, p_ok, a7, c8, p_sok]
    rw [List.map_append, List.append_assoc]
theorem a_improve (B : BaseA Γ) (n : Nat) {p : List Blk} (g : GL p) (hd : (nmsB p).Nodup) (s : Store) (hw : Wf s) : ∃ (l : List RSt) (q : List Blk), rew p 0 l = .ok q ∧ l.length ≤ 9000000 ∧ (∀ b ∈ q, Done b) ∧ (∀ st ∈ l, st.nm ∈ nmsB p) ∧ Γ (n + 5) 63 [.t (bsT p)] s = .ok (.t (.lst (l.map RSt.t))) s := by
  have hi : ∀ s1, iV (eVar 0) [some (.t (bsT p)), some (.loc s.length), none] s1 = .ok (p.map fun b => .t b.t) s1 := fun s1 => by
    rw [p_iV, p_var0, p_ok, lst_iter, List.map_map]; rfl
  generalize hc : forL (gVar 2) (sExpr (eCall (Γ (n + 4)) 62 [eCall (Γ (n + 4)) 61 [eVar 2, eVar 1], eVar 1])) (p.map fun b => .t b.t) [some (.t (bsT p)), some (.loc s.length), none] (Pa1 s []) = o
  have gl := g.len
  obtain ⟨ρ', s', rfl, l, q, x2, h1, h2, h3, h4, h5, rfl, rfl⟩ := for_pre hc (fun pre ρ s1 => ∃ (l : List RSt) (q : List Blk) (x2 : Option Val), rew p 0 l = .ok (q ++ p.drop pre.length) ∧ q.length = pre.length ∧ l.length ≤ 180000 * pre.length ∧ (∀ b ∈ q, Done b) ∧ (∀ st ∈ l, st.nm ∈ nmsB p) ∧
      ρ = [some (.t (bsT p)), some (.loc s.length), x2] ∧ s1 = Pa1 s (l.map RSt.t)) ⟨[], [], none, rfl, rfl, by simp, by simp, by simp, rfl, rfl⟩ (by
    rintro pre x suf eq ρ s1 ⟨l, q, x2, h1, h2, h3, h4, h5, rfl, rfl⟩
    have hpl : pre.length < p.length := by rw [eq]; simp
    have hx : p.drop pre.length = x :: suf := by rw [eq, List.drop_left]
    have hx1 : p.drop (pre ++ [x]).length = suf := by rw [eq, List.length_append, ← List.drop_drop, List.drop_left]; rfl
    rw [hx] at h1
    obtain ⟨g1, n1⟩ := g.rew h1
    have hxm : (q ++ x :: suf)[pre.length]? = some x := by
      rw [List.getElem?_append_right (by omega), h2, Nat.sub_self]; rfl
    have gx := g1.all x (List.mem_of_getElem? hxm)
    obtain ⟨l1, b', a1, a2, a3, a4, a5, a6, a7⟩ := one_block B n gx s hw (l.map RSt.t) (by rw [List.length_map]; omega) (.t (bsT p))
    refine ⟨_, _, _, _, rfl, by simp only [List.set]; exact a7, l ++ l1, q ++ [b'], _, ?_, by simp [h2], by rw [List.length_append, List.length_append, List.length_singleton]; omega, fun b hb => ?_, fun st hs => ?_, rfl, by rw [List.map_append]⟩
    · rw [rew_app h1, rew_at (by rw [n1]; exact hd) hxm gx a2 a1, hx1]
      congr 1
      rw [List.set_append_right _ _ (by omega), h2, Nat.sub_self, List.append_assoc]
      rfl
    · rcases List.mem_append.mp hb with h | h
      · exact h4 b h
      · rw [List.mem_singleton.mp h]; exact a6
    · rcases List.mem_append.mp hs with h | h
      · exact h5 st h
      · rw [a2 st h, ← n1]
        exact List.mem_map_of_mem (List.mem_of_getElem? hxm))
  have hdn : p.drop p.length = [] := List.drop_length
  rw [hdn, List.append_nil] at h1
  refine ⟨l, q, h1, by omega, h4, h5, ?_⟩
  rw [B.improve]
  refine fn_Rt rfl hw ?_
  rw [show start 3 [.t (bsT p)] = [some (.t (bsT p)), none, none] from rfl]
  have hl : ∀ ρ, eLst true [] ρ s = .ok (.loc s.length) (Pa1 s []) := fun ρ => rfl
  simp only [g_improve, p_seq2, p_asgV, hl, p_sok, List.set, then_nx, p_for, hi]
  rw [hc]
  have hz : freeze (.loc s.length) (Pa1 s (l.map RSt.t)) = .ok (.t (.lst (l.map RSt.t))) (s ++ [none]) := e_frz (trees_map _)
  simp only [then_nx, p_ret, p_e1, p_var0, p_varS, p_ok, hz, p_sok]
  exact Rt.mk (by simp)
end
end Fl
set_option Elab.async false
set_option linter.all false
set_option maxRecDepth 100000
/-! Fl: drawn code, mixed. -/
namespace Fl
noncomputable section
abbrev mx1 (G : FEnv) : SM := (sSeq (sIf (tAnd (tNe (eVar 6) (eC (.str "call"))) (tAnd (tEq (e1 lenV (eVar 8)) (eC (.int 1))) (tEq (eCall G 75 [eVar 0, eC (.int 2)]) (eC (.int 0))))) (sSeq (sAsg (eCall G 76 [eVar 0, eLst false [eC (.str "repeat"), eC (.str "count"), eC (.str "weave"), eC (.str "where")]]) (gVar 6)) (sAsg (e2 subI (eLst false [eC .non, eB (tEq (eCall G 75 [eVar 0, eC (.int 2)]) (eC (.int 0)))]) (e1 intV (eB (tEq (eVar 6) (eC (.str "where")))))) (gVar 7))) (sIf (tAnd (tNe (eVar 6) (eC (.str "call"))) (tAnd (tEq (e1 lenV (eVar 8)) (eC (.int 2))) (tEq (eCall G 75 [eVar 0, eC (.int 2)]) (eC (.int 0))))) (sSeq (sAsg (eCall G 76 [eVar 0, eLst false [eC (.str "take"), eC (.str "pick"), eC (.str "sums"), eC (.str "zip"), eC (.str "place"), eC (.str "take"), eC (.str "pick")]]) (gVar 6)) (sAsg (eC .non) (gVar 7))) (sNil))) (sExpr (e2c lstC appendV (eVar 4) (eTup false [eVar 6, eVar 7, eVar 8, eVar 9]))))
abbrev mx2 (G : FEnv) : SM := (sIf (tAnd (tEq (eCall G 75 [eVar 0, eC (.int 4)]) (eC (.int 0))) (tNe (e2 subI (e2 subI (eVar 4) (eVar 5)) (eC (.int 0))) (eC (.str "call")))) (sSeq (sAsg (eCall G 76 [eVar 0, eSlice false (eVar 4) none (some (e2 (addV false) (eVar 5) (eC (.int 1))))]) (gVar 10)) (sIf (tNe (e2 subI (eVar 10) (eC (.int 0))) (eC (.str "call"))) (sSub (e2 (addV false) (eSlice false (eVar 10) none (some (eC (.int 3)))) (eTup false [e2 subI (e2 subI (eVar 4) (eVar 5)) (eC (.int 3))])) (eVar 4) (eVar 5)) (sNil))) (sNil))
abbrev mxE : SM := (sExpr (e2c lstC appendV (eVar 2) (e2 (addV false) (eSlice false (eVar 3) none (some (eC (.int 4)))) (eTup false [eVar 4, e2 subI (eVar 3) (eC (.int 5))]))))
def mx3 (G : FEnv) : SM := (sSeq (sAsg (eLst true []) (gVar 4)) (sSeq (sFor (iV (e2 subI (eVar 3) (eC (.int 4)))) (gTup [6, 7, 8, 9]) (mx1 G)) (sSeq (sSeq (sFor (iRange1 (e1 lenV (eVar 4))) (gVar 5) (mx2 G)) (sFz 4)) mxE)))
def g_w_mixed (G : FEnv) : SM := sSeq (sAsg (eLst true []) (gVar 2)) (sSeq (sSeq (sFor (iV (eVar 1)) (gVar 3) (mx3 G)) (sFz 2)) (sRet (e1 freeze (eVar 2))))
def g_w_step (G : FEnv) : SM := sSeq (sAsg (eCall G 76 [eVar 0, eVar 1]) (gVar 2)) (sSeq (sAsg (e2 subV (eCall G 75 [eVar 0, e2 (addV false) (e1 lenV (e2 subI (eVar 2) (eC (.int 4)))) (eC (.int 2))]) (eC (.int 1))) (gVar 3)) (sSeq (sIf (tEq (eCall G 75 [eVar 0, eC (.int 2)]) (eC (.int 0))) (sRet (eTup false [eC (.str "drop"), eCall G 76 [eVar 0, eLst false [e2 subI (eVar 2) (eC (.int 1)), e2 subI (eVar 2) (eC (.int 1)), eC (.str "nobody")]], eVar 3])) (sNil)) (sSeq (sAsg (eLst true [eTup false [eC (.str "share"), e2 subI (eVar 2) (eC (.int 1)), eVar 3, e2 subV (eCall G 75 [eVar 0, e2 (addV false) (e1 lenV (e2 subI (eVar 2) (eC (.int 4)))) (eC (.int 1))]) (eC (.int 1))]]) (gVar 4)) (sSeq (sSeq (sFor (iRange1 (e1 lenV (e2 subI (eVar 2) (eC (.int 4))))) (gVar 5) (sFor (iRange1 (eVar 5)) (gVar 6) (sIf (tEq (eSlice false (e2 subI (e2 subI (eVar 2) (eC (.int 4))) (eVar 5)) none (some (eC (.int 3)))) (eSlice false (e2 subI (e2 subI (eVar 2) (eC (.int 4))) (eVar 6)) none (some (eC (.int 3))))) (sExpr (e2c lstC appendV (eVar 4) (eTup false [eC (.str "share"), e2 subI (eVar 2) (eC (.int 1)), eVar 5, eVar 6]))) (sNil)))) (sFz 4)) (sRet (eCall G 76 [eVar 0, eVar 4]))))))
def gk_told (G : FEnv) : SM := sSeq (sTry (sRet (eCall G 60 [eVar 0, eVar 1])) "PaperError" (some 2) (sIf (tIsE "FlatError" (eVar 2)) (sRet (eTup false [eC (.str "refused"), e1 (attrV "at") (eVar 2)])) sNil)) (sRet (eTup false [eC (.str "refused"), e1 negV (eC (.int 2))]))
end
structure BaseM (Γ : Nat → FEnv) : Prop where
  w_mixed : ∀ n, Γ (n + 1) 117 = mkFn 11 2 (g_w_mixed (Γ n))
  w_step : ∀ n, Γ (n + 1) 114 = mkFn 7 2 (g_w_step (Γ n))
  w_told : ∀ n, Γ (n + 1) 78 = mkFn 3 2 (gk_told (Γ n))
theorem own_stR {c : List Int} {m : Int} {R s : Store} {v : Val} {ts : List T} (h : Own (St c m R) s v ts) (hc : c.length ≤ 63) : ∃ r, IsSt r s ∧ ∀ s', IsSt r s' → ∃ c' m', c'.length ≤ 63 ∧ Own (St c' m' R) s' v ts := by
  obtain ⟨⟨n, rfl, hn, he⟩, ht, hw⟩ := h
  have h2 : s.take (St c m []).length = St c m [] := by
    have := congrArg (List.take 2) ht
    rw [List.take_take, St_len, Nat.min_eq_left (by omega)] at this
    exact this
  have e := take_St h2
  generalize s.drop 2 = r at e
  subst e
  refine ⟨r, ⟨c, m, hc, rfl⟩, ?_⟩
  rintro s' ⟨c', m', hc', rfl⟩
  have hr : r.take R.length = R := by
    have := congrArg (List.drop 2) ht
    rw [St_len] at this
    exact this
  refine ⟨c', m', hc', ⟨n, rfl, hn, ?_⟩, ?_, wf_St hw.st⟩
  · rw [St_len] at hn
    obtain ⟨k, rfl⟩ : ∃ k, n = k + 2 := ⟨n - 2, by omega⟩
    exact he
  · show some _ :: some _ :: r.take R.length = _
    rw [hr]; rfl
/-- an instruction of the blocks that are drawn and mixed -/
structure MI (i : Ins) : Prop where
  nm : i.nm.length ≤ 10
  ex : i.ex = .non ∨ (∃ b, i.ex = .bl b) ∨ (∃ k : Nat, k < 3 ∧ i.ex = .int (k : Nat)) ∨ ∃ x : String, x.length ≤ 10 ∧ i.ex = .str x
  len : i.ins.length ≤ 5
  ins : ∀ r ∈ i.ins, r ≤ 1000
  out : ∃ o, o ≤ 1000 ∧ i.outs = [o]
/-- an own list beside a drawing -/
def OwnD (R s : Store) (v : Val) (ts : List T) : Prop := ∃ c m, c.length ≤ 63 ∧ Own (St c m R) s v ts
section
variable {R s : Store} {v : Val} {ts : List T}
theorem OwnD.app (h : OwnD R s v ts) (hl : ts.length < L) (d : T) : ∃ s', appendV v (.t d) s = .ok (.t .non) s' ∧ OwnD R s' v (ts ++ [d]) := by
  obtain ⟨c, m, hc, h⟩ := h
  obtain ⟨s', e, h'⟩ := own_app h hl d
  exact ⟨s', e, c, m, hc, h'⟩
theorem OwnD.set (h : OwnD R s v ts) {j : Nat} (hj : j < ts.length) (d : T) : ∃ s', setI v (iv (j : Nat)) (.t d) s = .ok () s' ∧ OwnD R s' v (ts.set j d) := by
  obtain ⟨c, m, hc, h⟩ := h
  obtain ⟨s', e, h'⟩ := own_set h hj d
  exact ⟨s', e, c, m, hc, h'⟩
theorem OwnD.lstC (h : OwnD R s v ts) : Fl.lstC v s = .ok () s := by
  obtain ⟨c, m, hc, h⟩ := h
  exact own_lstC h
theorem OwnD.get (h : OwnD R s v ts) {j : Nat} {d : T} (hj : ts[j]? = some d) : subI v (iv (j : Nat)) s = .ok (.t d) s := by
  obtain ⟨c, m, hc, h⟩ := h
  exact own_get h hj
theorem OwnD.len (h : OwnD R s v ts) : lenV v s = .ok (iv ts.length) s := by
  obtain ⟨c, m, hc, h⟩ := h
  exact own_len h
theorem OwnD.head (h : OwnD R s v ts) (k : Nat) (hk : k ≤ ts.length) : sliceV false v none (some (k : Nat)) s = .ok (.t (.lst (ts.take k))) s := by
  obtain ⟨c, m, hc, h⟩ := h
  have hi := own_items h
  obtain ⟨⟨n, rfl, hn, he⟩, ht, hw⟩ := h
  show (itemsL (.loc n) s).bind (fun vs => newL false (slice vs none (some (k : Nat)))) = _
  rw [hi, p_ok, slice_take (a := k) (by rw [List.length_map]; exact hk), ← List.map_take, newL_t]
variable {Γ : Nat → FEnv}
theorem OwnD.draw (B : Base Γ) (n : Nat) (h : OwnD R s v ts) {k : Nat} (hk : 0 < k) (hk2 : k ≤ 100000000) : ∃ (d : Nat) (s' : Store), d < k ∧ OwnD R s' v ts ∧ Γ (n + 1) 75 [.loc 1, .t (.int (k : Nat))] s = .ok (iv (d : Nat)) s' := by
  obtain ⟨c, m, hc, h⟩ := h
  obtain ⟨r, h1, h2⟩ := own_stR h hc
  obtain ⟨d, s', hd, h3, e⟩ := b_drawN B n h1 hk hk2
  exact ⟨d, s', hd, h2 s' h3, e⟩
theorem OwnD.pick (B : Base Γ) (n : Nat) (h : OwnD R s v ts) {xs : List T} (h0 : xs ≠ []) (hl : xs.length ≤ L) : ∃ (d : T) (s' : Store), d ∈ xs ∧ OwnD R s' v ts ∧ Γ (n + 2) 76 [.loc 1, .t (.lst xs)] s = .ok (.t d) s' := by
  obtain ⟨c, m, hc, h⟩ := h
  obtain ⟨r, h1, h2⟩ := own_stR h hc
  obtain ⟨d, s', hd, h3, e⟩ := b_pick B n h1 h0 hl
  exact ⟨d, s', hd, h2 s' h3, e⟩
theorem lni_len (l : List Nat) (s : Store) : lenV (.t (li (ni l))) s = .ok (iv (l.length : Nat)) s := by
  show R.ok (iv (((ni l).map T.int).length : Nat)) s = _
  rw [List.length_map, List.length_map]
theorem pick2 (a b : T) (c : Bool) (s : Store) : subI (.t (.lst [a, b])) (.t (.int (if c then 1 else 0))) s = .ok (.t (if c then b else a)) s := by
  cases c <;> exact nrfl rfl
theorem mx_one (B : Base Γ) (n : Nat) (h : OwnD R s v ts) (hl : ts.length < 1000) {x : Ins} (hx : MI x) (d1 vo vb x5 x10 : Option Val) :
    ∃ (y : Ins) (y6 y7 : Option Val) (s' : Store), MI y ∧ OwnD R s' v (ts ++ [y.t]) ∧ mx1 (Γ (n + 2)) [some (.loc 1), d1, vo, vb, some v, x5, some (.t (.str x.nm)), some (.t x.ex), some (.t (li (ni x.ins))), some (.t (li (ni x.outs))), x10] s =
      .nx [some (.loc 1), d1, vo, vb, some v, x5, y6, y7, some (.t (li (ni x.ins))), some (.t (li (ni x.outs))), x10] s' := by
  have put : ∀ (y : Ins) (s : Store), OwnD R s v ts → ∃ s', appendV v (.t (.tup [.str y.nm, y.ex, li (ni y.ins), li (ni y.outs)])) s = .ok (.t .non) s' ∧ OwnD R s' v (ts ++ [y.t]) := fun y s h => h.app (by show _ < 16777216; omega) y.t
  by_cases hc : x.nm = "call"
  · obtain ⟨s', e, h'⟩ := put x s h
    refine ⟨x, some (.t (.str x.nm)), some (.t x.ex), s', hx, h', ?_⟩
    have ec : (x.nm == "call") = true := by simpa using hc
    simp only [p_seq2, p_if, p_tAnd, p_tNe, p_varS, p_var0, p_ok, p_eC, p_eqS, ec, Bool.not_true, Bool.false_eq_true, if_false, p_sok, p_nil, then_nx, p_sexpr, p_e2c, h.lstC, p_tup, p_vals, p_vals0, newT4, e]
  have ec : (x.nm == "call") = false := by simpa using hc
  by_cases h1 : x.ins.length = 1
  · obtain ⟨d, s1, hd, o1, e1⟩ := h.draw B (n + 1) (k := 2) (by decide) (by decide)
    have e1 : Γ (n + 2) 75 [.loc 1, .t (.int 2)] s = .ok (iv (d : Nat)) s1 := e1
    by_cases hd0 : d = 0
    · subst hd0
      obtain ⟨t, s2, ht, o2, e2⟩ := o1.pick B n (xs := [.str "repeat", .str "count", .str "weave", .str "where"]) (by simp) (by simp [L])
      obtain ⟨z, hz, rfl⟩ : ∃ z, z.length ≤ 10 ∧ t = .str z := by
        simp only [List.mem_cons, List.not_mem_nil, or_false] at ht
        rcases ht with rfl | rfl | rfl | rfl <;> exact ⟨_, by decide, rfl⟩
      obtain ⟨q, s3, hq, o3, e3⟩ := o2.draw B (n + 1) (k := 2) (by decide) (by decide)
      have e3 : Γ (n + 2) 75 [.loc 1, .t (.int 2)] s2 = .ok (iv (q : Nat)) s3 := e3
      obtain ⟨s4, e4, o4⟩ := put ⟨z, if (z == "where") then .bl (((q : Nat) : Int) == 0) else .non, x.ins, x.outs⟩ s3 o3
      refine ⟨⟨z, if (z == "where") then .bl (((q : Nat) : Int) == 0) else .non, x.ins, x.outs⟩, some (.t (.str z)), some (.t (if (z == "where") then .bl (((q : Nat) : Int) == 0) else .non)), s4, ⟨hz, ?_, hx.len, hx.ins, hx.out⟩, o4, ?_⟩
      · dsimp only
        split
        · exact .inr (.inl ⟨_, rfl⟩)
        · exact .inl rfl
      · simp only [p_seq2, p_if, p_tAnd, p_tNe, p_tEq, p_e1, p_varS, p_var0, p_ok, p_eC, p_eqS, ec, Bool.not_false, if_true, lni_len, h1, p_eqI, p_call, p_vals, p_vals0, e1, Int.natCast_zero, beq_self_eq_true, p_sok, p_asgV, p_lst, newL4, e2, List.set, then_nx, p_e2, p_eB, e3, newL2, p_intB, p_vB, pick2, p_sexpr, p_e2c, o3.lstC, p_tup, newT4, e4, Int.natCast_one]
    · have hdb : (((d : Nat) : Int) == 0) = false := by simpa using hd0
      obtain ⟨s', e, h'⟩ := put x s1 o1
      refine ⟨x, some (.t (.str x.nm)), some (.t x.ex), s', hx, h', ?_⟩
      simp only [p_seq2, p_if, p_tAnd, p_tNe, p_tEq, p_e1, p_varS, p_var0, p_ok, p_eC, p_eqS, ec, Bool.not_false, if_true, lni_len, h1, p_eqI, p_call, p_vals, p_vals0, e1, Int.natCast_one, beq_self_eq_true, hdb, Bool.false_eq_true, if_false, p_sok, show ((1 : Int) == 2) = false by decide, p_nil, then_nx, p_sexpr, p_e2c, o1.lstC, p_tup, newT4, e]
  · have n1 : (((x.ins.length : Nat) : Int) == 1) = false := by simp; omega
    by_cases h2 : x.ins.length = 2
    · have n2 : (((x.ins.length : Nat) : Int) == 2) = true := by simp; omega
      obtain ⟨d, s1, hd, o1, e1⟩ := h.draw B (n + 1) (k := 2) (by decide) (by decide)
      have e1 : Γ (n + 2) 75 [.loc 1, .t (.int 2)] s = .ok (iv (d : Nat)) s1 := e1
      by_cases hd0 : d = 0
      · subst hd0
        obtain ⟨t, s2, ht, o2, e2⟩ := o1.pick B n (xs := [.str "take", .str "pick", .str "sums", .str "zip", .str "place", .str "take", .str "pick"]) (by simp) (by simp [L])
        obtain ⟨z, hz, rfl⟩ : ∃ z, z.length ≤ 10 ∧ t = .str z := by
          simp only [List.mem_cons, List.not_mem_nil, or_false] at ht
          rcases ht with rfl | rfl | rfl | rfl | rfl | rfl | rfl <;> exact ⟨_, by decide, rfl⟩
        obtain ⟨s4, e4, o4⟩ := put ⟨z, .non, x.ins, x.outs⟩ s2 o2
        refine ⟨⟨z, .non, x.ins, x.outs⟩, some (.t (.str z)), some (.t .non), s4, ⟨hz, .inl rfl, hx.len, hx.ins, hx.out⟩, o4, ?_⟩
        simp only [p_seq2, p_if, p_tAnd, p_tNe, p_tEq, p_e1, p_varS, p_var0, p_ok, p_eC, p_eqS, ec, Bool.not_false, if_true, lni_len, n1, n2, p_eqI, p_call, p_vals, p_vals0, e1, Int.natCast_zero, beq_self_eq_true, Bool.false_eq_true, if_false, p_sok, p_asgV, p_lst, newL7, e2, List.set, then_nx, p_sexpr, p_e2c, o2.lstC, p_tup, newT4, e4]
      · have hdb : (((d : Nat) : Int) == 0) = false := by simpa using hd0
        obtain ⟨s', e, h'⟩ := put x s1 o1
        refine ⟨x, some (.t (.str x.nm)), some (.t x.ex), s', hx, h', ?_⟩
        simp only [p_seq2, p_if, p_tAnd, p_tNe, p_tEq, p_e1, p_varS, p_var0, p_ok, p_eC, p_eqS, ec, Bool.not_false, if_true, lni_len, n1, n2, p_eqI, p_call, p_vals, p_vals0, e1, hdb, Bool.false_eq_true, if_false, p_sok, p_nil, then_nx, p_sexpr, p_e2c, o1.lstC, p_tup, newT4, e]
    · have n2 : (((x.ins.length : Nat) : Int) == 2) = false := by simp; omega
      obtain ⟨s', e, h'⟩ := put x s h
      refine ⟨x, some (.t (.str x.nm)), some (.t x.ex), s', hx, h', ?_⟩
      simp only [p_seq2, p_if, p_tAnd, p_tNe, p_tEq, p_e1, p_varS, p_var0, p_ok, p_eC, p_eqS, ec, Bool.not_false, if_true, lni_len, n1, n2, p_eqI, Bool.false_eq_true, if_false, p_sok, p_nil, then_nx, p_sexpr, p_e2c, h.lstC, p_tup, p_vals, p_vals0, newT4, e]
theorem cut3_join (i : Ins) (o : T) (s : Store) : addV false (.t (.tup [.str i.nm, i.ex, li (ni i.ins)])) (.t (.tup [o])) s = .ok (.t (.tup [.str i.nm, i.ex, li (ni i.ins), o])) s := nrfl rfl
theorem mx_two (B : Base Γ) (n : Nat) {code : List Ins} (h : OwnD R s v (code.map Ins.t)) (hl : code.length < 1000) (hm : ∀ i ∈ code, MI i) {k : Nat} (hk : k < code.length) (d1 vo vb x6 x7 x8 x9 x10 : Option Val) :
    ∃ (code' : List Ins) (y10 : Option Val) (s' : Store), (∀ i ∈ code', MI i) ∧ code'.length = code.length ∧ OwnD R s' v (code'.map Ins.t) ∧ mx2 (Γ (n + 2)) [some (.loc 1), d1, vo, vb, some v, some (iv (k : Nat)), x6, x7, x8, x9, x10] s =
      .nx [some (.loc 1), d1, vo, vb, some v, some (iv (k : Nat)), x6, x7, x8, x9, y10] s' := by
  obtain ⟨d, s1, hd, o1, e1⟩ := h.draw B (n + 1) (k := 4) (by decide) (by decide)
  have e1 : Γ (n + 2) 75 [.loc 1, .t (.int 4)] s = .ok (iv (d : Nat)) s1 := e1
  have hi : code[k]? = some code[k] := List.getElem?_eq_getElem hk
  generalize code[k] = i at hi
  have hmi := hm i (List.mem_of_getElem? hi)
  by_cases hd0 : ¬ d = 0
  · have hdb : (((d : Nat) : Int) == 0) = false := by simpa using hd0
    refine ⟨code, x10, s1, hm, rfl, o1, ?_⟩
    simp only [p_if, p_tAnd, p_tEq, p_call, p_vals, p_vals0, p_var0, p_varS, p_ok, p_eC, e1, p_eqI, hdb, Bool.false_eq_true, if_false, p_sok, p_nil]
  obtain rfl : d = 0 := Classical.not_not.mp hd0
  have g1 := o1.get (j := k) (d := i.t) (by rw [List.getElem?_map, hi]; rfl)
  by_cases hc : i.nm = "call"
  · have ec : (i.nm == "call") = true := by simpa using hc
    refine ⟨code, x10, s1, hm, rfl, o1, ?_⟩
    simp only [p_if, p_tAnd, p_tEq, p_tNe, p_e2, p_call, p_vals, p_vals0, p_var0, p_varS, p_ok, p_eC, e1, p_eqI, Int.natCast_zero, beq_self_eq_true, if_true, g1, ins_0, p_eqS, ec, Bool.not_true, Bool.false_eq_true, if_false, p_sok, p_nil]
  have ec : (i.nm == "call") = false := by simpa using hc
  have hh := o1.head (k + 1) (by rw [List.length_map]; omega)
  obtain ⟨t, s2, ht, o2, e2⟩ := o1.pick B n (xs := (code.map Ins.t).take (k + 1)) (fun e => by
    have := congrArg List.length e
    rw [List.length_take, List.length_map, List.length_nil] at this
    omega) (by rw [List.length_take, List.length_map]; show _ ≤ 16777216; omega)
  obtain ⟨j, hj, rfl⟩ := List.mem_map.mp (List.mem_of_mem_take ht)
  have hmj := hm j hj
  have ek : ((k : Nat) : Int) + 1 = ((k + 1 : Nat) : Int) := rfl
  by_cases hc2 : j.nm = "call"
  · have ec2 : (j.nm == "call") = true := by simpa using hc2
    refine ⟨code, some (.t j.t), s2, hm, rfl, o2, ?_⟩
    simp only [p_if, p_tAnd, p_tEq, p_tNe, p_e2, p_call, p_vals, p_vals0, p_var0, p_varS, p_ok, p_eC, e1, p_eqI, Int.natCast_zero, beq_self_eq_true, if_true, g1, ins_0, p_eqS, ec, Bool.not_false, p_sok, p_seq2, p_asgV, p_slice01, p_add, p_getI, ek, hh, e2, List.set, then_nx, ec2, Bool.not_true, Bool.false_eq_true, if_false, p_nil]
  have ec2 : (j.nm == "call") = false := by simpa using hc2
  have g2 := o2.get (j := k) (d := i.t) (by rw [List.getElem?_map, hi]; rfl)
  obtain ⟨s3, e3, o3⟩ := o2.set (j := k) (by rw [List.length_map]; exact hk) (Ins.t ⟨j.nm, j.ex, j.ins, i.outs⟩)
  refine ⟨code.set k ⟨j.nm, j.ex, j.ins, i.outs⟩, some (.t j.t), s3, fun y hy => ?_, by rw [List.length_set], by rw [List.map_set]; exact o3, ?_⟩
  · rcases List.mem_or_eq_of_mem_set hy with h | h
    · exact hm y h
    · rw [h]; exact ⟨hmj.nm, hmj.ex, hmj.len, hmj.ins, hmi.out⟩
  · have e3' : setI v (iv (k : Nat)) (.t (.tup [.str j.nm, j.ex, li (ni j.ins), li (ni i.outs)])) s2 = .ok () s3 := e3
    simp only [p_if, p_tAnd, p_tEq, p_tNe, p_e2, p_call, p_vals, p_vals0, p_var0, p_varS, p_ok, p_eC, e1, p_eqI, Int.natCast_zero, beq_self_eq_true, if_true, g1, ins_0, p_eqS, ec, Bool.not_false, p_sok, p_seq2, p_asgV, p_slice01, p_add, p_getI, ek, hh, e2, List.set, then_nx, ec2, p_ssub, ins_cut3, g2, ins_3, p_tup, newT1, cut3_join, e3']
end
end Fl
set_option Elab.async false
set_option linter.all false
set_option maxRecDepth 100000
/-! Fl: drawn blocks, mixed. -/
namespace Fl
/-- the blocks of the law -/
structure BI (b : Blk) : Prop where
  code : ∀ i ∈ b.code, MI i
  len : b.code.length ≤ 34
  outs : b.outs.length ≤ 5 ∧ ∀ r ∈ b.outs, r ≤ 1000
  kd : b.giv = kPair ∧ b.res = .num
  nm : b.nm.length ≤ 10
section
variable {Γ : Nat → FEnv} {R s : Store} {v : Val} {ts : List T}
theorem OwnD.new (h : IsSt R s) (hw : Wf s) : OwnD R (s ++ [some (.lst [])]) (.loc s.length) [] := by
  obtain ⟨c, m, hc, rfl⟩ := h
  exact ⟨c, m, hc, own_new hw List.take_length []⟩
theorem OwnD.sfz {i : Nat} {ρ : Env} {o : SO} (h : OwnD R s v ts) (hz : sFz i ρ s = o) (hi : ρ[i]? = some (some v)) : ∃ c m s', c.length ≤ 63 ∧ o = .nx (ρ.set i (some (.t (.lst ts)))) s' ∧ s'.take (St c m R).length = St c m R ∧ Wf s' := by
  obtain ⟨c, m, hc, h⟩ := h
  obtain ⟨s', e, ht, hw⟩ := own_sfz2 hz h hi
  exact ⟨c, m, s', hc, e, ht, hw⟩
/-- what stands behind the state stays while draws are made: a list in there is still there -/
theorem OwnD.back {R0 s1 : Store} {c0 : List Int} {m0 : Int} {c : List Int} {m : Int} (h : Own (St c0 m0 R0) s v ts) (hR : s = St c0 m0 R) (hc : c.length ≤ 63) (ht : s1.take (St c m R).length = St c m R) (hw : Wf s1) : OwnD R0 s1 v ts := by
  subst hR
  obtain ⟨⟨n, rfl, hn, he⟩, ht0, hw0⟩ := h
  have hlt := cell_lt he
  have hl : (St c m R).length = (St c0 m0 R).length := rfl
  refine ⟨c, m, hc, ⟨n, rfl, hn, ?_⟩, ?_, hw⟩
  · rw [St_len] at hn
    obtain ⟨k, rfl⟩ : ∃ k, n = k + 2 := ⟨n - 2, by omega⟩
    have e1 : s1[k + 2]? = (St c m R)[k + 2]? := by
      rw [← ht, List.getElem?_take_of_lt (by rw [hl]; exact hlt)]
    have e2 : (St c m R)[k + 2]? = (St c0 m0 R)[k + 2]? := rfl
    unfold Store.cell at he ⊢
    rw [e1, e2]
    exact he
  · have hr : R.take R0.length = R0 := by
      have := congrArg (List.drop 2) ht0
      rw [St_len] at this
      exact this
    have hle : R0.length ≤ R.length := by
      have := congrArg List.length hr
      rw [List.length_take] at this
      omega
    have : s1.take (St c m R0).length = (s1.take (St c m R).length).take (St c m R0).length := by
      rw [List.take_take, St_len, St_len, Nat.min_eq_left (by omega)]
    rw [this, ht]
    show some _ :: some _ :: R.take R0.length = _
    rw [hr]; rfl
theorem OwnD.inst (h : OwnD R s v ts) : ∃ c m R1, c.length ≤ 63 ∧ s = St c m R1 ∧ Own (St c m R) s v ts := by
  obtain ⟨c, m, hc, h⟩ := h
  have h2 : s.take (St c m []).length = St c m [] := by
    have := congrArg (List.take 2) h.tk
    rw [List.take_take, St_len, Nat.min_eq_left (by omega)] at this
    exact this
  exact ⟨c, m, s.drop 2, hc, take_St h2, h⟩
theorem mx_block (B : Base Γ) (n : Nat) (h : OwnD R s v ts) (hl : ts.length < 1000) {b : Blk} (hb : BI b) (d1 x4 x5 x6 x7 x8 x9 x10 : Option Val) :
    ∃ (b' : Blk) (y4 y5 y6 y7 y8 y9 y10 : Option Val) (s' : Store), BI b' ∧ b'.nm = b.nm ∧ OwnD R s' v (ts ++ [b'.t]) ∧ mx3 (Γ (n + 2)) [some (.loc 1), d1, some v, some (.t b.t), x4, x5, x6, x7, x8, x9, x10] s =
      .nx [some (.loc 1), d1, some v, some (.t b.t), y4, y5, y6, y7, y8, y9, y10] s' := by
  obtain ⟨c, m, R1, hc, hs, ho⟩ := h.inst
  have i1 : IsSt R1 s := ⟨c, m, hc, hs⟩
  have o0 := OwnD.new i1 ho.wf
  have hnew : ∀ ρ, eLst true [] ρ s = .ok (.loc s.length) (s ++ [some (.lst [])]) := fun ρ => rfl
  unfold mx3
  simp only [p_seq2, p_asgV, hnew, p_sok, List.set, then_nx, p_for, p_iV, p_e2, p_varS, p_var0, p_ok, p_eC, blk_get4]
  rw [lst_iter, p_sok, show (b.code.map Ins.t).map Val.t = b.code.map fun i => .t i.t by rw [List.map_map]; rfl]
  generalize hv : (Val.loc s.length) = w at o0 ⊢
  generalize (s ++ [some (Cell.lst [])]) = s1 at o0 ⊢
  generalize hc1 : forL _ _ _ _ _ = oo
  have hbl := hb.len
  obtain ⟨ρ', s2, rfl, code, x6', x7', x8', x9', h1, h2, h3, rfl⟩ := for_pre hc1 (fun p ρ s => ∃ (code : List Ins) (y6 y7 y8 y9 : Option Val), (∀ i ∈ code, MI i) ∧ code.length = p.length ∧ OwnD R1 s w (code.map Ins.t) ∧ ρ = [some (.loc 1), d1, some v, some (.t b.t), some w, x5, y6, y7, y8, y9, x10]) ⟨[], x6, x7, x8, x9, by simp, rfl, o0, rfl⟩ (by
    rintro p x q eq ρ s ⟨code, y6, y7, y8, y9, h1, h2, h3, rfl⟩
    have hpl := congrArg List.length eq
    rw [List.length_append, List.length_cons] at hpl
    obtain ⟨y, z6, z7, s', hy, o', e⟩ := mx_one B n h3 (by rw [List.length_map]; omega) (hb.code x (by rw [eq]; simp)) d1 (some v) (some (.t b.t)) x5 x10
    refine ⟨_, _, _, s', ins_g4 x 6 7 8 9 _ s, by simp only [List.set]; exact e, code ++ [y], _, _, _, _, fun i hi => ?_, by rw [List.length_append, List.length_append, h2]; rfl, by rw [List.map_append]; exact o', rfl⟩
    rcases List.mem_append.mp hi with h | h
    · exact h1 i h
    · rw [List.mem_singleton.mp h]; exact hy)
  rw [then_nx]
  have hlen := h3.len
  rw [List.length_map] at hlen
  have hr := p_rangeS (b := e1 lenV (eVar 4)) (ρ := [some (.loc 1), d1, some v, some (.t b.t), some w, x5, x6', x7', x8', x9', x10]) (s := s2) (s' := s2) (n := code.length) (by simp only [p_e1, p_varS, p_var0, p_ok, hlen]) (by omega)
  simp only [p_seq2, p_for, hr, p_sok]
  generalize hc2 : forL _ _ _ _ _ = oo
  obtain ⟨ρ', s3, rfl, code2, y5, y10, g1, g2, g3, rfl⟩ := for_ix hc2 (fun k ρ s => ∃ (code2 : List Ins) (y5 y10 : Option Val), (∀ i ∈ code2, MI i) ∧ code2.length = code.length ∧ OwnD R1 s w (code2.map Ins.t) ∧ ρ = [some (.loc 1), d1, some v, some (.t b.t), some w, y5, x6', x7', x8', x9', y10]) ⟨code, x5, x10, h1, rfl, h3, rfl⟩ (by
    rintro k hk ρ s ⟨code2, y5, y10, g1, g2, g3, rfl⟩
    obtain ⟨code3, z10, s', k1, k2, k3, e⟩ := mx_two B n g3 (by omega) g1 (by rw [g2]; exact hk) d1 (some v) (some (.t b.t)) x6' x7' x8' x9' y10
    exact ⟨_, _, _, s', rfl, by simp only [List.set]; exact e, code3, _, _, k1, k2.trans g2, k3, rfl⟩)
  rw [then_nx]
  generalize hz : sFz 4 _ _ = oz
  obtain ⟨c4, m4, s4, hc4, rfl, ht4, hw4⟩ := g3.sfz hz rfl
  have oB := OwnD.back ho hs hc4 ht4 hw4
  obtain ⟨s5, e5, o5⟩ := oB.app (by show _ < 16777216; omega) (Blk.t ⟨b.nm, b.giv, b.res, code2, b.outs⟩)
  refine ⟨⟨b.nm, b.giv, b.res, code2, b.outs⟩, some (.t (.lst (code2.map Ins.t))), y5, x6', x7', x8', x9', y10, s5, ⟨g1, by show code2.length ≤ 34; omega, hb.outs, hb.kd, hb.nm⟩, rfl, o5, ?_⟩
  have e5' : appendV v (.t (.tup [.str "block", .str b.nm, b.giv.t, b.res.t, .lst (code2.map Ins.t), li (ni b.outs)])) s4 = .ok (.t .non) s5 := e5
  simp only [then_nx, List.set, p_sexpr, p_e2c, p_varS, p_var0, p_ok, oB.lstC, p_e2, p_eC, p_slice01, p_getI, blk_head, blk_get5, p_tup, p_vals, p_vals0, newT2, blk_join, e5', p_sok]
theorem b_mixed (B : Base Γ) (M : BaseM Γ) (n : Nat) (h : IsSt R s) (hw : Wf s) {bs : List Blk} (hl : bs.length ≤ 100) (hb : ∀ b ∈ bs, BI b) : ∃ (bs' : List Blk) (s' : Store), (∀ b ∈ bs', BI b) ∧ nmsB bs' = nmsB bs ∧ IsSt R s' ∧ Γ (n + 3) 117 [.loc 1, .t (bsT bs)] s = .ok (.t (bsT bs')) s' := by
  have o0 := OwnD.new h hw
  have hsl : s.length = R.length + 2 := by obtain ⟨c, m, _, rfl⟩ := h; rfl
  generalize hc1 : forL (gVar 3) (mx3 (Γ (n + 2))) (bs.map fun b => .t b.t) [some (.loc 1), some (.t (bsT bs)), some (.loc s.length), none, none, none, none, none, none, none, none] (s ++ [some (.lst [])]) = oo
  obtain ⟨ρ', s2, rfl, bs', x3, x4, x5, x6, x7, x8, x9, x10, h1, h2, h3, rfl⟩ := for_pre hc1 (fun p ρ s1 => ∃ (bs' : List Blk) (x3 x4 x5 x6 x7 x8 x9 x10 : Option Val), (∀ b ∈ bs', BI b) ∧ nmsB bs' = nmsB p ∧ OwnD R s1 (.loc s.length) (bs'.map Blk.t) ∧ ρ = [some (.loc 1), some (.t (bsT bs)), some (.loc s.length), x3, x4, x5, x6, x7, x8, x9, x10]) ⟨[], none, none, none, none, none, none, none, none, by simp, rfl, o0, rfl⟩ (by
    rintro p x q eq ρ s1 ⟨bs', x3, x4, x5, x6, x7, x8, x9, x10, h1, h2, h3, rfl⟩
    have hpl := congrArg List.length eq
    rw [List.length_append, List.length_cons] at hpl
    have hbl : bs'.length = p.length := by
      have := congrArg List.length h2
      unfold nmsB at this
      rw [List.length_map, List.length_map] at this
      exact this
    obtain ⟨b', y4, y5, y6, y7, y8, y9, y10, s', hb', hn, o', e⟩ := mx_block B n h3 (by rw [List.length_map]; omega) (hb x (by rw [eq]; simp)) (some (.t (bsT bs))) x4 x5 x6 x7 x8 x9 x10
    refine ⟨_, _, _, s', rfl, by simp only [List.set]; exact e, bs' ++ [b'], _, _, _, _, _, _, _, _, fun b hb => ?_, ?_, by rw [List.map_append]; exact o', rfl⟩
    · rcases List.mem_append.mp hb with h | h
      · exact h1 b h
      · rw [List.mem_singleton.mp h]; exact hb'
    · unfold nmsB at h2 ⊢
      rw [List.map_append, List.map_append, h2, List.map_cons, List.map_nil, List.map_cons, List.map_nil, hn])
  have hfz := fun o hz => h3.sfz (i := 2) (ρ := [some (.loc 1), some (.t (bsT bs)), some (.loc s.length), x3, x4, x5, x6, x7, x8, x9, x10]) (o := o) hz rfl
  obtain ⟨c4, m4, s4, hc4, e4, ht4, hw4⟩ := hfz _ rfl
  refine ⟨bs', St c4 m4 R, h1, h2, ⟨c4, m4, hc4, rfl⟩, ?_⟩
  rw [M.w_mixed]
  have wf4 : Wf (St c4 m4 R) := by
    obtain ⟨c, m, _, rfl⟩ := h
    exact wf_St hw.st
  refine fn_tS (s' := s4) ?_ rfl wf4 (by rw [St_len, hsl]) (by rw [hsl]; exact ht4)
  rw [show start 11 [.loc 1, .t (bsT bs)] = [some (.loc 1), some (.t (bsT bs)), none, none, none, none, none, none, none, none, none] from rfl]
  have hi : ∀ s1, iV (eVar 1) [some (.loc 1), some (.t (bsT bs)), some (.loc s.length), none, none, none, none, none, none, none, none] s1 = .ok (bs.map fun b => .t b.t) s1 := fun s1 => by
    rw [p_iV, p_varS, p_var0, p_ok, lst_iter, List.map_map]; rfl
  have hnew : ∀ ρ, eLst true [] ρ s = .ok (.loc s.length) (s ++ [some (.lst [])]) := fun ρ => rfl
  simp only [g_w_mixed, p_seq2, p_asgV, hnew, p_sok, List.set, then_nx, p_for, hi]
  rw [hc1]
  simp only [then_nx, e4, List.set, p_ret, p_e1, p_varS, p_var0, p_ok, p_frzT, p_sok]
end
end Fl
set_option Elab.async false
set_option linter.all false
set_option maxRecDepth 100000
/-! Fl: steps: drawn, reckoned, none left. -/
namespace Fl
noncomputable section
abbrev apB (G : FEnv) : SM := (sSeq (sIf (tEq (e2 subI (eVar 4) (eC (.int 1))) (e2 subI (eVar 1) (eC (.int 1)))) (sSeq (sAsg (eCall G 116 [eVar 4, eVar 1]) (gVar 4)) (sSeq (sIf (tIsN (eVar 4)) (sRet (eC .non)) (sNil)) (sAsg (eC (.bl true)) (gVar 3)))) (sNil)) (sExpr (e2c lstC appendV (eVar 2) (eVar 4))))
abbrev stB : SM := (sIf (tEq (eSlice false (e2 subI (e2 subI (eVar 2) (eC (.int 4))) (eVar 5)) none (some (eC (.int 3)))) (eSlice false (e2 subI (e2 subI (eVar 2) (eC (.int 4))) (eVar 6)) none (some (eC (.int 3))))) (sExpr (e2c lstC appendV (eVar 4) (eTup false [eC (.str "share"), e2 subI (eVar 2) (eC (.int 1)), eVar 5, eVar 6]))) (sNil))
abbrev nlB (G : FEnv) : SM := (sIf (tNotN (eCall G 116 [eVar 1, eTup false [eC (.str "share"), e2 subI (eVar 1) (eC (.int 1)), eVar 2, eVar 3]])) (sRet (eC (.bl false))) (sNil))
abbrev nlC (G : FEnv) : SM := (sSeq (sIf (tNotN (eCall G 116 [eVar 1, eTup false [eC (.str "drop"), e2 subI (eVar 1) (eC (.int 1)), eVar 2]])) (sRet (eC (.bl false))) (sNil)) (sFor (iRange1 (eVar 2)) (gVar 3) (nlB G)))
end
/-- a block of the law -/
structure K1 (b : Blk) : Prop where
  gb : GB b
  one : ∀ i ∈ b.code, ∃ o, i.outs = [o]
  kd : b.giv = kPair ∧ b.res = .num
theorem K1.step {b b' : Blk} (k : K1 b) {st : RSt} (h : stepA b st = some b') : K1 b' ∧ b'.nm = b.nm := by
  obtain ⟨g, hn, _⟩ := k.gb.step h
  have key : (∀ i ∈ b'.code, ∃ o, i.outs = [o]) ∧ b'.giv = b.giv ∧ b'.res = b.res := by
    cases st with
    | drop x q =>
      simp only [stepA] at h
      split at h
      · obtain ⟨i, e, _, _, rfl⟩ := dropA_some h
        refine ⟨fun y hy => ?_, rfl, rfl⟩
        rcases List.mem_append.mp hy with hy | hy
        · exact k.one y (List.mem_of_mem_take hy)
        · exact k.one y (List.mem_of_mem_drop hy)
      · cases h
    | share x q e =>
      simp only [stepA] at h
      split at h
      · obtain ⟨i, j, _, _, _, _, _, rfl⟩ := shareA_some h
        refine ⟨fun y hy => ?_, rfl, rfl⟩
        rcases List.mem_append.mp hy with hy | hy
        · exact k.one y (List.mem_of_mem_take hy)
        · obtain ⟨z, hz, rfl⟩ := List.mem_map.mp hy
          exact k.one z (List.mem_of_mem_drop hz)
      · cases h
    | swap x q e => cases h
  exact ⟨⟨g, key.1, by rw [key.2.1, key.2.2]; exact k.kd⟩, hn⟩
structure K2 (p : List Blk) : Prop where
  all : ∀ b ∈ p, K1 b
  nms : nmsB p = ["main", "other"]
theorem K2.app {p q : List Blk} (k : K2 p) {st : RSt} (h : appL p st = some q) : K2 q := by
  obtain ⟨j, b, b', h1, _, h3, rfl⟩ := appL_some h
  obtain ⟨k1, n1⟩ := (k.all b (List.mem_of_getElem? h1)).step h3
  refine ⟨fun x hx => ?_, (nms_set h1 n1).trans k.nms⟩
  rcases List.mem_or_eq_of_mem_set hx with h | h
  · exact k.all x h
  · rw [h]; exact k1
theorem K2.rew : ∀ {l : List RSt} {p q : List Blk} {k : Nat}, K2 p → Fl.rew p k l = .ok q → K2 q
  | [], p, q, k, g, h => by cases h; exact g
  | x :: l, p, q, k, g, h => by
    simp only [Fl.rew] at h
    cases e : appL p x with
    | none => rw [e] at h; cases h
    | some q' =>
      rw [e] at h
      exact K2.rew (g.app e) h
theorem K2.two {p : List Blk} (k : K2 p) : ∃ a b, p = [a, b] ∧ a.nm = "main" ∧ b.nm = "other" := by
  have h := k.nms
  rcases p with _ | ⟨a, _ | ⟨b, _ | ⟨c, r⟩⟩⟩
  · simp [nmsB] at h
  · simp [nmsB] at h
  · simp only [nmsB, List.map_cons, List.map_nil, List.cons.injEq, and_true] at h
    exact ⟨a, b, rfl, h.1, h.2⟩
  · simp [nmsB] at h
theorem K2.nd {p : List Blk} (k : K2 p) : (nmsB p).Nodup := by rw [k.nms]; decide
theorem K2.gl {p : List Blk} (k : K2 p) : GL p := ⟨fun b hb => (k.all b hb).gb, by
  obtain ⟨a, b, rfl, _⟩ := k.two
  show 2 ≤ 50; decide⟩
theorem app_a {a b : Blk} {st : RSt} (h : a.nm = st.nm) : appL [a, b] st = (stepA a st).map fun a' => [a', b] := by
  have e : ∃ r, fndB [a, b] st.nm = 0 :: r := by
    unfold fndB
    show ∃ r, List.filter _ [0, 1] = 0 :: r
    rw [List.filter_cons_of_pos (by simp [h])]
    exact ⟨_, rfl⟩
  obtain ⟨r, e⟩ := e
  unfold appL
  rw [e]
  rfl
theorem app_b {a b : Blk} {st : RSt} (h1 : a.nm ≠ st.nm) (h : b.nm = st.nm) : appL [a, b] st = (stepA b st).map fun b' => [a, b'] := by
  have e : fndB [a, b] st.nm = [1] := by
    unfold fndB
    show List.filter _ [0, 1] = [1]
    rw [List.filter_cons_of_neg (by simp [h1]), List.filter_cons_of_pos (by simp [h])]
    rfl
  unfold appL
  rw [e]
  rfl
theorem app_n {a b : Blk} {st : RSt} (h1 : a.nm ≠ st.nm) (h : b.nm ≠ st.nm) : appL [a, b] st = none := by
  have e : fndB [a, b] st.nm = [] := by
    unfold fndB
    show List.filter _ [0, 1] = []
    rw [List.filter_cons_of_neg (by simp [h1]), List.filter_cons_of_neg (by simp [h])]
    rfl
  unfold appL
  rw [e]
section
variable {Γ : Nat → FEnv} {s0 s : Store} {v : Val} {ts : List T}
def ApR (s0 s : Store) (v : Val) (ts : List T) (d0 : Val) (st : RSt) (b : Blk) (fl : Bool) (o : SO) : Prop :=
  (b.nm ≠ st.nm ∧ ∃ s', o = .nx [some d0, some (.t st.t), some v, some (.t (.bl fl)), some (.t b.t)] s' ∧ Own s0 s' v (ts ++ [b.t])) ∨
  (b.nm = st.nm ∧ stepA b st = none ∧ o = .rt (.t .non) s) ∨
  (b.nm = st.nm ∧ ∃ b' s', stepA b st = some b' ∧ o = .nx [some d0, some (.t st.t), some v, some (.t (.bl true)), some (.t b'.t)] s' ∧ Own s0 s' v (ts ++ [b'.t]))
theorem ap_turn (B : BaseB Γ) (n : Nat) {b : Blk} (k : K1 b) (st : RSt) (hsw : ∀ x k e, st ≠ .swap x k e) (h : Own s0 s v ts) (hl : ts.length < 1000) (d0 : Val) (fl : Bool) :
    ApR s0 s v ts d0 st b fl (apB (Γ (n + 1)) [some d0, some (.t st.t), some v, some (.t (.bl fl)), some (.t b.t)] s) := by
  have h1 := b_after B n k.gb k.one st hsw s h.wf
  by_cases c : b.nm = st.nm
  · have ec : (b.nm == st.nm) = true := by simpa using c
    cases hs : stepA b st with
    | none =>
      refine .inr (.inl ⟨c, hs, ?_⟩)
      rw [hs] at h1
      simp only [p_seq2, p_if, p_tEq, p_e2, p_varS, p_var0, p_ok, p_eC, blk_get1, stp_1, p_eqS, ec, p_sok, if_true, p_asgV, p_call, p_vals, p_vals0, h1, List.set, then_nx]
      rw [tisn_non (eVar 4) _ s s rfl]
      rfl
    | some b' =>
      obtain ⟨s', e, h'⟩ := own_app h (by show _ < 16777216; omega) b'.t
      refine .inr (.inr ⟨c, b', s', hs, ?_, h'⟩)
      rw [hs] at h1
      simp only [p_seq2, p_if, p_tEq, p_e2, p_varS, p_var0, p_ok, p_eC, blk_get1, stp_1, p_eqS, ec, p_sok, if_true, p_asgV, p_call, p_vals, p_vals0, h1, List.set, then_nx, oT]
      rw [tisn_blk (eVar 4) _ s s b' rfl]
      simp only [p_sok, Bool.false_eq_true, if_false, p_nil, then_nx, p_asgV, p_eC, p_ok, List.set, p_sexpr, p_e2c, p_varS, p_var0, own_lstC h, e]
  · have ec : (b.nm == st.nm) = false := by simpa using c
    obtain ⟨s', e, h'⟩ := own_app h (by show _ < 16777216; omega) b.t
    refine .inl ⟨c, s', ?_, h'⟩
    simp only [p_seq2, p_if, p_tEq, p_e2, p_varS, p_var0, p_ok, p_eC, blk_get1, stp_1, p_eqS, ec, p_sok, Bool.false_eq_true, if_false, p_nil, then_nx, p_sexpr, p_e2c, own_lstC h, e]
def oL : Option (List Blk) → T
  | some q => bsT q
  | none => .non
theorem b_applied (B : BaseB Γ) (n : Nat) {p : List Blk} (k : K2 p) (st : RSt) (hsw : ∀ x k e, st ≠ .swap x k e) (hw : Wf s) : Γ (n + 2) 115 [.t (bsT p), .t st.t] s = .ok (.t (oL (appL p st))) s := by
  obtain ⟨a, b, rfl, na, nb⟩ := k.two
  have ka := k.all a (by simp)
  have kb := k.all b (by simp)
  rw [B.w_applied]
  refine fn_Rt rfl hw ?_
  rw [show start 5 [.t (bsT [a, b]), .t st.t] = [some (.t (bsT [a, b])), some (.t st.t), none, none, none] from rfl]
  have own0 := own_new hw (List.take_length (l := s)) ([] : List T)
  rw [List.map_nil] at own0
  have hnew : ∀ ρ, eLst true [] ρ s = .ok (.loc s.length) (s ++ [some (.lst [])]) := fun ρ => rfl
  have hi : ∀ s1, iV (eVar 0) [some (.t (bsT [a, b])), some (.t st.t), some (.loc s.length), some (.t (.bl false)), none] s1 = .ok [.t a.t, .t b.t] s1 := fun s1 => rfl
  simp only [g_w_applied, p_seq2, p_asgV, hnew, p_sok, List.set, then_nx, p_eC, p_for, hi]
  generalize (Val.loc s.length) = v at own0 ⊢
  generalize s ++ [some (Cell.lst [])] = s1 at own0 ⊢
  rw [p_forL]
  simp only [List.set]
  have fin : ∀ (q : List Blk) (fl : Bool) (s4 : Store) (x4 : Option Val) (d : T), Own s s4 v (q.map Blk.t) → d = (if fl then bsT q else .non) → Rt s d (((sFz 2 [some (.t (bsT [a, b])), some (.t st.t), some v, some (.t (.bl fl)), x4] s4)).then (sSeq (sIf (tTruth (eVar 3)) (sRet (e1 freeze (eVar 2))) sNil) (sRet (eC .non)))) := fun q fl s4 x4 d own hd => by
    generalize hz : sFz 2 _ _ = oz
    obtain ⟨s5, rfl, ht, _⟩ := own_sfz2 hz own rfl
    have tt : truthV (.t (.bl fl)) s5 = .ok fl s5 := rfl
    simp only [then_nx, List.set, p_seq2, p_if, p_tTruth, p_varS, p_var0, p_ok, tt, p_sok]
    rw [hd]
    cases fl with
    | true =>
      simp only [if_true, p_ret, p_e1, p_varS, p_var0, p_ok, p_frzT, p_sok, then_rt]
      exact Rt.mk ht
    | false =>
      simp only [Bool.false_eq_true, if_false, p_nil, then_nx, p_ret, p_eC, p_sok]
      exact Rt.mk ht
  have hne : a.nm = st.nm → ¬ b.nm = st.nm := fun h1 h2 => by rw [← h1, na, nb] at h2; exact absurd h2 (by decide)
  have tt := ap_turn B n ka st hsw own0 (by simp) (.t (bsT [a, b])) false
  dsimp only [apB] at tt
  rcases tt with ⟨c1, s2, e1, o1⟩ | ⟨c1, hs, e1⟩ | ⟨c1, a', s2, hs, e1, o1⟩
  · rw [e1]
    dsimp only
    rw [p_forL]
    simp only [List.set]
    have tt := ap_turn B n kb st hsw o1 (by simp) (.t (bsT [a, b])) false
    dsimp only [apB] at tt
    rcases tt with ⟨c2, s3, e2, o2⟩ | ⟨c2, hs2, e2⟩ | ⟨c2, b', s3, hs2, e2, o2⟩
    · rw [e2]
      dsimp only
      simp only [p_forL0, then_nx]
      exact fin [a, b] false s3 _ _ o2 (by rw [app_n c1 c2]; rfl)
    · rw [e2]
      simp only [then_rt]
      rw [app_b c1 c2, hs2]
      exact Rt.mk o1.tk
    · rw [e2]
      dsimp only
      simp only [p_forL0, then_nx]
      exact fin [a, b'] true s3 _ _ o2 (by rw [app_b c1 c2, hs2]; rfl)
  · rw [e1]
    simp only [then_rt]
    rw [app_a c1, hs]
    exact Rt.mk own0.tk
  · rw [e1]
    dsimp only
    rw [p_forL]
    simp only [List.set]
    have tt := ap_turn B n kb st hsw o1 (by simp) (.t (bsT [a, b])) true
    dsimp only [apB] at tt
    rcases tt with ⟨c2, s3, e2, o2⟩ | ⟨c2, hs2, e2⟩ | ⟨c2, b', s3, hs2, e2, o2⟩
    · rw [e2]
      dsimp only
      simp only [p_forL0, then_nx]
      exact fin [a', b] true s3 _ _ o2 (by rw [app_a c1, hs]; rfl)
    · exact absurd c2 (hne c1)
    · exact absurd c2 (hne c1)
theorem b_none (B : BaseB Γ) (n : Nat) {p : List Blk} (k : K2 p) (hd : ∀ b ∈ p, Done b) (hw : Wf s) : Γ (n + 2) 118 [.t (bsT p)] s = .ok (.t (.bl true)) s := by
  rw [B.w_none_left]
  refine fn_Rt rfl hw ?_
  rw [show start 4 [.t (bsT p)] = [some (.t (bsT p)), none, none, none] from rfl]
  have hi : ∀ s1, iV (eVar 0) [some (.t (bsT p)), none, none, none] s1 = .ok (p.map fun b => .t b.t) s1 := fun s1 => by
    rw [p_iV, p_var0, p_ok, lst_iter, List.map_map]; rfl
  generalize hc : forL (gVar 1) (sFor (iRange1 (e1 lenV (e2 subI (eVar 1) (eC (.int 4))))) (gVar 2) (nlC (Γ (n + 1)))) (p.map fun b => .t b.t) [some (.t (bsT p)), none, none, none] s = o
  obtain ⟨ρ', s', rfl, rfl, x1, x2, x3, rfl⟩ := for_pre hc (fun pre ρ s1 => s1 = s ∧ ∃ x1 x2 x3, ρ = [some (.t (bsT p)), x1, x2, x3]) ⟨rfl, _, _, _, rfl⟩ (by
    rintro pre b q eq ρ s1 ⟨rfl, x1, x2, x3, rfl⟩
    have hb : b ∈ p := by rw [eq]; simp
    have kb := k.all b hb
    have gl := kb.gb.len
    obtain ⟨d1, d2⟩ := hd b hb
    have hr := p_rangeS (b := e1 lenV (e2 subI (eVar 1) (eC (.int 4)))) (ρ := [some (.t (bsT p)), some (.t b.t), x2, x3]) (s := s1) (s' := s1) (n := b.code.length) (by simp only [p_e1, p_e2, p_varS, p_var0, p_ok, p_eC, blk_get4, blk_len]) (by omega)
    generalize hc2 : forL (gVar 2) (nlC (Γ (n + 1))) ((List.range b.code.length).map fun (k : Nat) => iv k) [some (.t (bsT p)), some (.t b.t), x2, x3] s1 = o2
    obtain ⟨ρ2, s2, rfl, rfl, y2, y3, rfl⟩ := for_ix hc2 (fun j ρ s2 => s2 = s1 ∧ ∃ y2 y3, ρ = [some (.t (bsT p)), some (.t b.t), y2, y3]) ⟨rfl, _, _, rfl⟩ (by
      rintro j hj ρ s2 ⟨rfl, y2, y3, rfl⟩
      have h1 := b_after B n kb.gb kb.one (.drop b.nm (j : Nat)) (fun x k e h => by cases h) s2 hw
      have z1 : stepA b (.drop b.nm (j : Nat)) = none := by
        simp only [stepA]
        split
        · exact d2 _ (Nat.zero_le _)
        · rfl
      rw [z1] at h1
      have hT : ∀ s, newT false [.t (.str "drop"), .t (.str b.nm), iv (j : Nat)] s = .ok (.t (RSt.drop b.nm (j : Nat)).t) s := fun s => rfl
      have hr2 := p_rangeS (b := eVar 2) (ρ := [some (.t (bsT p)), some (.t b.t), some (iv (j : Nat)), y3]) (s := s2) (s' := s2) (n := j) rfl (by omega)
      generalize hc3 : forL (gVar 3) (nlB (Γ (n + 1))) ((List.range j).map fun (k : Nat) => iv k) [some (.t (bsT p)), some (.t b.t), some (iv (j : Nat)), y3] s2 = o3
      obtain ⟨ρ3, s3, rfl, rfl, z3, rfl⟩ := for_ix hc3 (fun e ρ s3 => s3 = s2 ∧ ∃ z3, ρ = [some (.t (bsT p)), some (.t b.t), some (iv (j : Nat)), z3]) ⟨rfl, _, rfl⟩ (by
        rintro e he ρ s3 ⟨rfl, z3, rfl⟩
        have h2 := b_after B n kb.gb kb.one (.share b.nm (j : Nat) (e : Nat)) (fun x k e h => by cases h) s3 hw
        have z2 : stepA b (.share b.nm (j : Nat) (e : Nat)) = none := by
          simp only [stepA]
          split
          · exact share_none d1 _ _
          · rfl
        rw [z2] at h2
        have hT : ∀ s, newT false [.t (.str "share"), .t (.str b.nm), iv (j : Nat), iv (e : Nat)] s = .ok (.t (RSt.share b.nm (j : Nat) (e : Nat)).t) s := fun s => rfl
        refine ⟨_, _, [some (.t (bsT p)), some (.t b.t), some (iv (j : Nat)), some (iv (e : Nat))], s3, rfl, ?_, rfl, _, rfl⟩
        simp only [List.set, p_if]
        rw [tnotn_non _ _ s3 s3 (by simp only [p_call, p_vals, p_vals0, p_varS, p_var0, p_ok, p_tup, p_eC, p_e2, blk_get1, hT, h2, oT])]
        rfl)
      refine ⟨_, _, [some (.t (bsT p)), some (.t b.t), some (iv (j : Nat)), z3], s3, rfl, ?_, rfl, _, _, rfl⟩
      simp only [List.set, p_seq2, p_if]
      rw [tnotn_non _ _ s3 s3 (by simp only [p_call, p_vals, p_vals0, p_varS, p_var0, p_ok, p_tup, p_eC, p_e2, blk_get1, hT, h1, oT])]
      simp only [p_sok, Bool.false_eq_true, if_false, p_nil, then_nx, p_for, hr2]
      exact hc3)
    refine ⟨_, _, [some (.t (bsT p)), some (.t b.t), y2, y3], s2, rfl, ?_, rfl, _, _, _, rfl⟩
    simp only [List.set, p_for, hr, p_sok]
    exact hc2)
  simp only [g_w_none_left, p_seq2, p_for, hi, p_sok]
  rw [hc]
  exact Rt.self
end
end Fl
set_option Elab.async false
set_option linter.all false
set_option maxRecDepth 100000
/-! Fl: steps drawn; what rewrite tells. -/
namespace Fl
section
variable {Γ : Nat → FEnv} {R s : Store} {v : Val} {ts : List T}
theorem OwnD.newL (h : IsSt R s) (hw : Wf s) (ts : List T) : OwnD R (s ++ [some (.lst (ts.map .t))]) (.loc s.length) ts := by
  obtain ⟨c, m, hc, rfl⟩ := h
  exact ⟨c, m, hc, own_new hw List.take_length ts⟩
theorem wf_is {s' : Store} (h : IsSt R s) (hw : Wf s) (h' : IsSt R s') : Wf s' := by
  obtain ⟨c, m, _, rfl⟩ := h
  obtain ⟨c', m', _, rfl⟩ := h'
  exact wf_St hw.st
theorem stp_pick (bs : List Blk) (hb : bs ≠ []) (hl : bs.length ≤ 50) (B : Base Γ) (n : Nat) (h : IsSt R s) : ∃ b s', b ∈ bs ∧ IsSt R s' ∧ Γ (n + 2) 76 [.loc 1, .t (bsT bs)] s = .ok (.t b.t) s' := by
  obtain ⟨d, s', hd, h', e⟩ := b_pick B n h (xs := bs.map Blk.t) (by simpa using hb) (by rw [List.length_map]; show _ ≤ 16777216; omega)
  obtain ⟨b, hb, rfl⟩ := List.mem_map.mp hd
  exact ⟨b, s', hb, h', e⟩
/-- steps of the law: no swap -/
def NSw (l : List RSt) : Prop := ∀ st ∈ l, ∀ x k e, st ≠ .swap x k e
theorem NSw.snoc {l : List RSt} (h : NSw l) {st : RSt} (hs : ∀ x k e, st ≠ .swap x k e) : NSw (l ++ [st]) := fun y hy => by
  rcases List.mem_append.mp hy with hy | hy
  · exact h y hy
  · rw [List.mem_singleton.mp hy]; exact hs
theorem st_inner (b : Blk) (g : GB b) (d0 d1 d3 : Option Val) {j : Nat} (hj : j < b.code.length) {l : List RSt} (h : OwnD R s v (l.map RSt.t)) (hs : NSw l) (h0 : l ≠ []) (y6 : Option Val) (hl : l.length + j ≤ 16000000) :
    ∃ (l' : List RSt) (z6 : Option Val) (s' : Store), NSw l' ∧ l' ≠ [] ∧ l'.length ≤ l.length + j ∧ OwnD R s' v (l'.map RSt.t) ∧
      forL (gVar 6) stB ((List.range j).map fun (k : Nat) => iv k) [d0, d1, some (.t b.t), d3, some v, some (iv (j : Nat)), y6] s = .nx [d0, d1, some (.t b.t), d3, some v, some (iv (j : Nat)), z6] s' := by
  generalize hc : forL (gVar 6) stB ((List.range j).map fun (k : Nat) => iv k) [d0, d1, some (.t b.t), d3, some v, some (iv (j : Nat)), y6] s = o
  obtain ⟨ρ', s', rfl, l', z6, h1, h2, h3, h4, rfl⟩ := for_ix hc (fun k ρ s => ∃ (l' : List RSt) (z6 : Option Val), NSw l' ∧ l' ≠ [] ∧ l'.length ≤ l.length + k ∧ OwnD R s v (l'.map RSt.t) ∧ ρ = [d0, d1, some (.t b.t), d3, some v, some (iv (j : Nat)), z6]) ⟨l, y6, hs, h0, Nat.le_refl _, h, rfl⟩ (by
    rintro k hk ρ s ⟨l', z6, h1, h2, h3, h4, rfl⟩
    have hi : b.code[j]? = some b.code[j] := List.getElem?_eq_getElem hj
    have hq : b.code[k]? = some (b.code[k]'(by omega)) := List.getElem?_eq_getElem (by omega)
    generalize b.code[j] = x at hi
    generalize b.code[k]'_ = y at hq
    have hk := key_eqV (g.ins _ (List.mem_of_getElem? hi)) (g.ins _ (List.mem_of_getElem? hq)) s
    have hT : ∀ s, newT false [.t (.str "share"), .t (.str b.nm), iv (j : Nat), iv (k : Nat)] s = .ok (.t (RSt.share b.nm (j : Nat) (k : Nat)).t) s := fun s => rfl
    cases hke : keyEq x y with
    | false =>
      refine ⟨_, _, [d0, d1, some (.t b.t), d3, some v, some (iv (j : Nat)), some (iv (k : Nat))], s, rfl, ?_, l', _, h1, h2, by omega, h4, rfl⟩
      simp only [List.set, p_if, p_tEq, p_slice01, p_e2, p_varS, p_var0, p_ok, p_eC, blk_get4, code_get hi, code_get hq, p_getI, ins_cut3, hk, hke, p_sok, Bool.false_eq_true, if_false, p_nil]
    | true =>
      obtain ⟨s', e, o'⟩ := h4.app (by rw [List.length_map]; show _ < 16777216; omega) (RSt.share b.nm (j : Nat) (k : Nat)).t
      refine ⟨_, _, [d0, d1, some (.t b.t), d3, some v, some (iv (j : Nat)), some (iv (k : Nat))], s', rfl, ?_, l' ++ [.share b.nm (j : Nat) (k : Nat)], _, h1.snoc (fun x k e h => by cases h), by simp, by rw [List.length_append, List.length_singleton]; omega, by rw [List.map_append]; exact o', rfl⟩
      simp only [List.set, p_if, p_tEq, p_slice01, p_e2, p_varS, p_var0, p_ok, p_eC, blk_get4, code_get hi, code_get hq, p_getI, ins_cut3, hk, hke, p_sok, if_true, p_sexpr, p_e2c, h4.lstC, p_tup, p_vals, p_vals0, blk_get1, hT, e])
  exact ⟨l', z6, s', h1, h2, h3, h4, rfl⟩
theorem b_step (B : Base Γ) (M : BaseM Γ) (n : Nat) (h : IsSt R s) (hw : Wf s) {bs : List Blk} (h0 : bs ≠ []) (hl : bs.length ≤ 50) (hg : ∀ b ∈ bs, GB b) (hlc : ∀ b ∈ bs, b.code.length ≤ 3000) : ∃ (st : RSt) (s' : Store), (∀ x k e, st ≠ .swap x k e) ∧ IsSt R s' ∧ Γ (n + 3) 114 [.loc 1, .t (bsT bs)] s = .ok (.t st.t) s' := by
  have hsl : s.length = R.length + 2 := by obtain ⟨c, m, _, rfl⟩ := h; rfl
  obtain ⟨b, s1, hb, i1, e1'⟩ := stp_pick bs h0 hl B n h
  have g := hg b hb
  have gl := hlc b hb
  obtain ⟨d, s2, hd, i2, e2'⟩ := b_drawN B (n + 1) i1 (k := b.code.length + 2) (by omega) (by omega)
  have e2' : Γ (n + 2) 75 [.loc 1, .t (.int ((b.code.length : Nat) + 2))] s1 = .ok (iv (d : Nat)) s2 := e2'
  obtain ⟨q, s3, hq, i3, e3'⟩ := b_drawN B (n + 1) i2 (k := 2) (by decide) (by decide)
  have e3' : Γ (n + 2) 75 [.loc 1, .t (.int 2)] s2 = .ok (iv (q : Nat)) s3 := e3'
  rw [M.w_step]
  by_cases hq0 : q = 0
  · subst hq0
    obtain ⟨t, s4, ht, i4, e4'⟩ := b_pick B n i3 (xs := [.str b.nm, .str b.nm, .str "nobody"]) (by simp) (by simp [L])
    obtain ⟨x, rfl⟩ : ∃ x, t = .str x := by
      simp only [List.mem_cons, List.not_mem_nil, or_false] at ht
      rcases ht with rfl | rfl | rfl <;> exact ⟨_, rfl⟩
    refine ⟨.drop x ((d : Nat) - 1), s4, (fun x k e h => by cases h), i4, ?_⟩
    have hT : ∀ s, newT false [.t (.str "drop"), .t (.str x), iv ((d : Nat) - 1)] s = .ok (.t (RSt.drop x ((d : Nat) - 1)).t) s := fun s => rfl
    refine fn_tS (s' := s4) ?_ rfl (wf_is h hw i4) (st_len h i4) (by rw [← st_len h i4]; exact List.take_length)
    rw [show start 7 [.loc 1, .t (bsT bs)] = [some (.loc 1), some (.t (bsT bs)), none, none, none, none, none] from rfl]
    simp only [g_w_step, p_seq2, p_asgV, p_call, p_vals, p_vals0, p_var0, p_varS, p_ok, e1', p_sok, List.set, then_nx, p_e2, p_e1, p_eC, blk_get4, blk_len, p_add, e2', p_sub, p_if, p_tEq, e3', p_eqI, Int.natCast_zero, beq_self_eq_true, if_true, p_ret, p_tup, p_lst, blk_get1, newL3, e4', hT, then_rt]
  · have hqb : (((q : Nat) : Int) == 0) = false := by simpa using hq0
    obtain ⟨r, s4, hr, i4, e4'⟩ := b_drawN B (n + 1) i3 (k := b.code.length + 1) (by omega) (by omega)
    have e4' : Γ (n + 2) 75 [.loc 1, .t (.int ((b.code.length : Nat) + 1))] s3 = .ok (iv (r : Nat)) s4 := e4'
    have o0 := OwnD.newL i4 (wf_is h hw i4) [(RSt.share b.nm ((d : Nat) - 1) ((r : Nat) - 1)).t]
    have hnew : ∀ s, Fl.newL true [.t (RSt.share b.nm ((d : Nat) - 1) ((r : Nat) - 1)).t] s = .ok (.loc s.length) (s ++ [some (.lst ([(RSt.share b.nm ((d : Nat) - 1) ((r : Nat) - 1)).t].map .t))]) := fun s => rfl
    have hT : ∀ s, newT false [.t (.str "share"), .t (.str b.nm), iv ((d : Nat) - 1), iv ((r : Nat) - 1)] s = .ok (.t (RSt.share b.nm ((d : Nat) - 1) ((r : Nat) - 1)).t) s := fun s => rfl
    generalize hv : (Val.loc s4.length) = v at o0
    generalize hs5 : (s4 ++ [some (Cell.lst ([(RSt.share b.nm ((d : Nat) - 1) ((r : Nat) - 1)).t].map Val.t))]) = s5 at o0
    generalize hc : forL (gVar 5) (sFor (iRange1 (eVar 5)) (gVar 6) stB) ((List.range b.code.length).map fun (k : Nat) => iv k) [some (.loc 1), some (.t (bsT bs)), some (.t b.t), some (iv ((d : Nat) - 1)), some v, none, none] s5 = o
    obtain ⟨ρ', s6, rfl, l, y5, y6, h1, h2, h3, h4, rfl⟩ := for_ix hc (fun k ρ s => ∃ (l : List RSt) (y5 y6 : Option Val), NSw l ∧ l ≠ [] ∧ l.length ≤ 1 + k * b.code.length ∧ OwnD R s v (l.map RSt.t) ∧ ρ = [some (.loc 1), some (.t (bsT bs)), some (.t b.t), some (iv ((d : Nat) - 1)), some v, y5, y6]) ⟨[.share b.nm ((d : Nat) - 1) ((r : Nat) - 1)], none, none, (fun st hst x k e hh => by rw [List.mem_singleton.mp hst] at hh; cases hh), by simp, by simp, o0, rfl⟩ (by
      rintro k hk ρ s ⟨l, y5, y6, h1, h2, h3, h4, rfl⟩
      have hkk : k * b.code.length ≤ 3000 * 3000 := Nat.mul_le_mul (by omega) gl
      obtain ⟨l', z6, s', k1, k2, k3, k4, e⟩ := st_inner b g (some (.loc 1)) (some (.t (bsT bs))) (some (iv ((d : Nat) - 1))) hk h4 h1 h2 y6 (by omega)
      have hr2 := p_rangeS (b := eVar 5) (ρ := [some (.loc 1), some (.t (bsT bs)), some (.t b.t), some (iv ((d : Nat) - 1)), some v, some (iv (k : Nat)), y6]) (s := s) (s' := s) (n := k) rfl (by omega)
      refine ⟨_, _, _, s', rfl, by simp only [List.set, p_for, hr2, p_sok]; exact e, l', _, _, k1, k2, ?_, k4, rfl⟩
      rw [Nat.succ_mul]; omega)
    have hfz := fun o hz => h4.sfz (i := 4) (ρ := [some (.loc 1), some (.t (bsT bs)), some (.t b.t), some (iv ((d : Nat) - 1)), some v, y5, y6]) (o := o) hz rfl
    obtain ⟨c7, m7, s7, hc7, e7, ht7, hw7⟩ := hfz _ rfl
    obtain ⟨R7, i7, b7⟩ : ∃ R7, IsSt R7 s7 ∧ ∀ s', IsSt R7 s' → ∃ c m, c.length ≤ 63 ∧ s'.take (R.length + 2) = St c m R := by
      have h2' : s7.take (St c7 m7 []).length = St c7 m7 [] := by
        have := congrArg (List.take 2) ht7
        rw [List.take_take, St_len, Nat.min_eq_left (by omega)] at this
        exact this
      have e := take_St h2'
      generalize s7.drop 2 = r at e
      subst e
      refine ⟨r, ⟨c7, m7, hc7, rfl⟩, ?_⟩
      rintro s' ⟨c', m', hc', rfl⟩
      refine ⟨c', m', hc', ?_⟩
      have hr : r.take R.length = R := by
        have := congrArg (List.drop 2) ht7
        rw [St_len] at this
        exact this
      show some _ :: some _ :: r.take R.length = _
      rw [hr]; rfl
    have hkk : b.code.length * b.code.length ≤ 3000 * 3000 := Nat.mul_le_mul gl gl
    obtain ⟨t, s8, ht, i8, e8⟩ := b_pick B n i7 (xs := l.map RSt.t) (by simpa using h2) (by rw [List.length_map]; show _ ≤ 16777216; omega)
    obtain ⟨st, hst, rfl⟩ := List.mem_map.mp ht
    obtain ⟨c8, m8, hc8, ht8⟩ := b7 s8 i8
    refine ⟨st, St c8 m8 R, h1 st hst, ⟨c8, m8, hc8, rfl⟩, ?_⟩
    refine fn_tS (s' := s8) ?_ rfl (wf_is h hw ⟨c8, m8, hc8, rfl⟩) (by rw [St_len, hsl]) (by rw [hsl]; exact ht8)
    rw [show start 7 [.loc 1, .t (bsT bs)] = [some (.loc 1), some (.t (bsT bs)), none, none, none, none, none] from rfl]
    have hr := p_rangeS (b := e1 lenV (e2 subI (eVar 2) (eC (.int 4)))) (ρ := [some (.loc 1), some (.t (bsT bs)), some (.t b.t), some (iv ((d : Nat) - 1)), some v, none, none]) (s := s5) (s' := s5) (n := b.code.length) (by simp only [p_e1, p_e2, p_varS, p_var0, p_ok, p_eC, blk_get4, blk_len]) (by omega)
    simp only [g_w_step, p_seq2, p_asgV, p_call, p_vals, p_vals0, p_var0, p_varS, p_ok, e1', p_sok, List.set, then_nx, p_e2, p_e1, p_eC, blk_get4, blk_len, p_add, e2', p_sub, p_if, p_tEq, e3', p_eqI, hqb, Bool.false_eq_true, if_false, p_nil, p_lst, p_tup, blk_get1, e4', hT, hnew, hv, hs5, p_for, hr]
    rw [hc]
    simp only [then_nx, e7, List.set, p_ret, p_call, p_vals, p_vals0, p_var0, p_varS, p_ok, e8, p_sok]
def refT (j : Nat) : T := .tup [.str "refused", .int (j : Nat)]
def rwT' : RW → T
  | .ok q => bsT q
  | .no j => refT j
theorem b_told (A : BaseA Γ) (M : BaseM Γ) (n : Nat) {p : List Blk} (g : GL p) (l : List RSt) (hw : Wf s) : Γ (n + 5) 78 [.t (bsT p), .t (.lst (l.map RSt.t))] s = .ok (.t (rwT' (rew p 0 l))) s := by
  rw [M.w_told]
  refine fn_Rt rfl hw ?_
  have h1 := a_rewrite A n g l s hw
  have e : ∀ ρ s, sTry (sRet (eCall (Γ (n + 4)) 60 [eVar 0, eVar 1])) "PaperError" (some 2) (sIf (tIsE "FlatError" (eVar 2)) (sRet (eTup false [eC (.str "refused"), e1 (attrV "at") (eVar 2)])) sNil) ρ s = sTry (sRet (eCall (Γ (n + 4)) 60 [eVar 0, eVar 1])) "PaperError" (some 2) (sIf (tIsE "FlatError" (eVar 2)) (sRet (eTup false [eC (.str "refused"), e1 (attrV "at") (eVar 2)])) sNil) ρ s := fun ρ s => rfl
  rw [show start 3 [.t (bsT p), .t (.lst (l.map RSt.t))] = [some (.t (bsT p)), some (.t (.lst (l.map RSt.t))), none] from rfl]
  unfold gk_told
  rw [p_seq2]
  unfold sTry
  have hb : ∀ o, Γ (n + 4) 60 [.t (bsT p), .t (.lst (l.map RSt.t))] s = o → sRet (eCall (Γ (n + 4)) 60 [eVar 0, eVar 1]) [some (.t (bsT p)), some (.t (.lst (l.map RSt.t))), none] s = o.so [some (.t (bsT p)), some (.t (.lst (l.map RSt.t))), none] fun v s => .rt v s := fun o ho => by
    rw [← ho]
    simp only [p_ret, p_call, p_vals, p_vals0, p_var0, p_varS, p_ok]
  cases hr : rew p 0 l with
  | ok q =>
    rw [hr] at h1
    rw [hb _ h1]
    exact Rt.self
  | no j =>
    rw [hr] at h1
    rw [hb _ h1]
    exact Rt.self
end
end Fl
set_option Elab.async false
set_option linter.all false
set_option maxRecDepth 100000
namespace Fl.k10
noncomputable abbrev Γ : Nat → FEnv := Gam fds
theorem base : Base Γ := ⟨fun _ => rfl, fun _ => rfl, fun _ => rfl, fun _ => rfl⟩
theorem baseC : BaseC Γ := ⟨fun _ => rfl, fun _ => rfl⟩
theorem baseA : BaseA Γ := ⟨fun _ => rfl, fun _ => rfl, fun _ => rfl, fun _ => rfl, fun _ => rfl, fun _ => rfl, fun _ => rfl, fun _ => rfl, fun _ => rfl, fun _ => rfl, fun _ => rfl⟩
theorem baseB : BaseB Γ := ⟨fun _ => rfl, fun _ => rfl, fun _ => rfl⟩
theorem baseM : BaseM Γ := ⟨fun _ => rfl, fun _ => rfl, fun _ => rfl⟩
noncomputable abbrev lwT (G : FEnv) : SM := (sSeq (sAsg (eCall G 114 [eVar 1, eVar 4]) (gVar 8)) (sSeq (sExpr (e2c lstC appendV (eVar 6) (eVar 8))) (sIf (tIsN (eVar 5)) (sSeq (sAsg (eCall G 115 [eVar 4, eVar 8]) (gVar 9)) (sIf (tIsN (eVar 9)) (sAsg (eTup false [eC (.str "refused"), eVar 7]) (gVar 5)) (sAsg (eVar 9) (gVar 4)))) (sNil))))
end Fl.k10
set_option Elab.async false
set_option linter.all false
set_option maxRecDepth 100000
namespace Fl
theorem MI.rlen {i : Ins} (h : MI i) : T.rlen i.t ≤ 4011 := by
  obtain ⟨h1, h2, h3, h4, o, ho, h5⟩ := h
  have := rlen_tup 1000 [.str i.nm, i.ex, li (ni i.ins), li (ni i.outs)] fun d hd => by
    simp only [List.mem_cons, List.not_mem_nil, or_false] at hd
    rcases hd with rfl | rfl | rfl | rfl
    · rw [T.rlen]; omega
    · rcases h2 with e | ⟨b, e⟩ | ⟨k, hk, e⟩ | ⟨x, hx, e⟩
      · rw [e, T.rlen]; omega
      · rw [e, T.rlen]; omega
      · have e2 : (2:Nat)^64 = 18446744073709551616 := rfl
        rw [e]; exact Nat.le_trans (rlen_int (by omega)) (by decide)
      · rw [e, T.rlen]; omega
    · have := rlen_ni h4; omega
    · rw [h5]
      have := rlen_ni (l := [o]) fun r hr => by rw [List.mem_singleton.mp hr]; exact ho
      simp only [List.length_singleton] at this
      omega
  exact this
theorem MI.g {i : Ins} (h : MI i) : InsG i := by
  obtain ⟨h1, h2, h3, h4, o, ho, h5⟩ := h
  refine ⟨?_, fun _ => ⟨o, h5⟩, by rw [h5]; simp, by omega⟩
  rcases h2 with e | ⟨b, e⟩ | ⟨k, hk, e⟩ | ⟨x, hx, e⟩ <;> rw [e] <;> rfl
theorem BI.k1 {b : Blk} (h : BI b) : K1 b := ⟨⟨fun i hi => (h.code i hi).g, by have := h.len; omega, by have := h.outs.1; omega⟩, fun i hi => by
  obtain ⟨o, _, e⟩ := (h.code i hi).out
  exact ⟨o, e⟩, h.kd⟩
theorem k1_plain {b : Blk} (k : K1 b) (n : Nat) : T.plain (n + 4) b.t = true := plain_tup fun d hd => by
  simp only [List.mem_cons, List.not_mem_nil, or_false] at hd
  rcases hd with rfl | rfl | rfl | rfl | rfl | rfl
  · rw [T.plain]
  · rw [T.plain]
  · rw [k.kd.1]
    exact plain_le (n := 2) (by omega) rfl
  · rw [k.kd.2]
    exact plain_le (n := 2) (by omega) rfl
  · exact plain_lst fun d hd => by
      obtain ⟨i, hi, rfl⟩ := List.mem_map.mp hd
      refine plain_tup fun d hd => ?_
      simp only [List.mem_cons, List.not_mem_nil, or_false] at hd
      rcases hd with rfl | rfl | rfl | rfl
      · rw [T.plain]
      · exact flat_plain (k.gb.ins i hi).flat _
      · exact plain_li n _
      · exact plain_li n _
  · exact plain_li _ _
theorem bi_rlen {b : Blk} (h : BI b) : T.rlen b.t ≤ 3000000 := by
  have hc := rlen_lst 4011 (b.code.map Ins.t) fun d hd => by
    obtain ⟨i, hi, rfl⟩ := List.mem_map.mp hd
    exact (h.code i hi).rlen
  rw [List.length_map] at hc
  have ho := rlen_ni h.outs.2
  have hl := h.len
  have hol := h.outs.1
  have hn := h.nm
  have hg : T.rlen kPair.t ≤ 1000 := by
    show T.rlen (.tup [.str "pair", .tup [.str "num"], .tup [.str "num"]]) ≤ _
    simp only [T.rlen, T.rlens, show "pair".length = 4 from rfl, show "num".length = 3 from rfl]; omega
  have hr : T.rlen Kd.num.t ≤ 1000 := by
    show T.rlen (.tup [.str "num"]) ≤ _
    simp only [T.rlen, T.rlens, show "num".length = 3 from rfl]; omega
  have := rlen_tup 499900 [.str "block", .str b.nm, b.giv.t, b.res.t, .lst (b.code.map Ins.t), li (ni b.outs)] fun d hd => by
    simp only [List.mem_cons, List.not_mem_nil, or_false] at hd
    rcases hd with rfl | rfl | rfl | rfl | rfl | rfl
    · rw [T.rlen, show "block".length = 5 from rfl]; omega
    · rw [T.rlen]; omega
    · rw [h.kd.1]; omega
    · rw [h.kd.2]; omega
    · omega
    · omega
  have e : T.rlen b.t = T.rlen (.tup [.str "block", .str b.nm, b.giv.t, b.res.t, .lst (b.code.map Ins.t), li (ni b.outs)]) := rfl
  rw [e]
  simp only [List.length_cons, List.length_nil] at this
  omega
theorem InsSm.mi {i : Ins} (h : InsSm i) (ho : ∃ o, i.outs = [o]) : MI i := by
  obtain ⟨o, e⟩ := ho
  refine ⟨h.1, ?_, h.2.2.1, h.2.2.2.2.1, o, h.2.2.2.2.2 o (by rw [e]; simp), e⟩
  rcases h.2.1 with e | e | e
  · exact .inl e
  · exact .inr (.inr (.inl e))
  · exact .inr (.inr (.inr e))
/-- what holds while steps are made -/
structure K3 (p : List Blk) : Prop where
  k : K2 p
  len : ∀ b ∈ p, b.code.length ≤ 34
theorem K3.app {p q : List Blk} (k : K3 p) {st : RSt} (h : appL p st = some q) : K3 q := by
  refine ⟨k.k.app h, ?_⟩
  obtain ⟨j, b, b', h1, _, h3, rfl⟩ := appL_some h
  have hb := List.mem_of_getElem? h1
  obtain ⟨_, _, hl⟩ := (k.k.all b hb).gb.step h3
  have := k.len b hb
  intro x hx
  rcases List.mem_or_eq_of_mem_set hx with h | h
  · exact k.len x h
  · rw [h]; omega
theorem bst_plain {p : List Blk} (h : ∀ b ∈ p, K1 b) : T.plain 60 (bsT p) = true := plain_lst (n := 59) fun d hd => by
  obtain ⟨b, hb, rfl⟩ := List.mem_map.mp hd
  exact k1_plain (h b hb) 55
theorem ref_plain (j : Nat) : T.plain 60 (refT j) = true := plain_tup (n := 59) fun d hd => by
  simp only [List.mem_cons, List.not_mem_nil, or_false] at hd
  rcases hd with rfl | rfl <;> rw [T.plain]
section
variable {R s : Store} {v : Val} {ts : List T}
theorem OwnD.via (h : OwnD R s v ts) : ∃ r, IsSt r s ∧ Wf s ∧ ∀ s', IsSt r s' → OwnD R s' v ts := by
  obtain ⟨c, m, hc, h⟩ := h
  obtain ⟨r, h1, h2⟩ := own_stR h hc
  exact ⟨r, h1, h.wf, h2⟩
end
theorem tisn_T (a : CE) (ρ : Env) (s s' : Store) (d : T) (hd : d ≠ .non) (h : a ρ s = .ok (.t d) s') : tIsN a ρ s = .ok false s' := by
  show (a ρ s).bind _ = _
  rw [h]
  cases d <;> first | rfl | exact absurd rfl hd
end Fl
namespace Fl.k10
/-- a turn of the law's loop -/
theorem lw_turn {s : Store} {v : Val} {p q : List Blk} (kq : K3 q) {l : List RSt} (hs : NSw l) (h : OwnD [] s v (l.map RSt.t)) (hl : l.length ≤ 1000) {due : T} (hd : (rew p 0 l = .ok q ∧ due = .non) ∨ ∃ j, rew p 0 l = .no j ∧ due = refT j) (d0 d2 d3 x8 x9 : Option Val) :
    ∃ (st : RSt) (q' : List Blk) (due' : T) (y8 y9 : Option Val) (s' : Store), K3 q' ∧ NSw (l ++ [st]) ∧ OwnD [] s' v ((l ++ [st]).map RSt.t) ∧ ((rew p 0 (l ++ [st]) = .ok q' ∧ due' = .non) ∨ ∃ j, rew p 0 (l ++ [st]) = .no j ∧ due' = refT j) ∧
      lwT (Γ 590) [d0, some (.loc 1), d2, d3, some (.t (bsT q)), some (.t due), some v, some (iv (l.length : Nat)), x8, x9, none, none] s =
        .nx [d0, some (.loc 1), d2, d3, some (.t (bsT q')), some (.t due'), some v, some (iv (l.length : Nat)), y8, y9, none, none] s' := by
  obtain ⟨r, i1, w1, back⟩ := h.via
  obtain ⟨a, b, hab, _, _⟩ := kq.k.two
  obtain ⟨st, s1, hsw, i2, e1'⟩ := b_step base baseM 587 i1 w1 (bs := q) (by rw [hab]; simp) (by rw [hab]; show 2 ≤ 50; decide) (fun b hb => (kq.k.all b hb).gb) (fun b hb => by have := kq.len b hb; omega)
  have e1' : Γ 590 114 [.loc 1, .t (bsT q)] s = .ok (.t st.t) s1 := e1'
  have o1 := back s1 i2
  obtain ⟨s2, e2', o2⟩ := o1.app (by rw [List.length_map]; show _ < 16777216; omega) st.t
  have o3 : OwnD [] s2 v ((l ++ [st]).map RSt.t) := by rw [List.map_append]; exact o2
  have ns := hs.snoc hsw
  rcases hd with ⟨hr, rfl⟩ | ⟨j, hr, rfl⟩
  · obtain ⟨_, _, w2, _⟩ := o2.via
    have e3' := b_applied baseB 588 kq.k st hsw w2
    have e3' : Γ 590 115 [.t (bsT q), .t st.t] s2 = .ok (.t (oL (appL q st))) s2 := e3'
    cases ha : appL q st with
    | none =>
      rw [ha] at e3'
      refine ⟨st, q, refT l.length, some (.t st.t), some (.t .non), s2, kq, ns, o3, .inr ⟨l.length, ?_, rfl⟩, ?_⟩
      · rw [rew_snoc, hr]
        dsimp only
        rw [ha]
        dsimp only
        rw [Nat.zero_add]
      · simp only [p_seq2, p_asgV, p_call, p_vals, p_vals0, p_varS, p_var0, p_ok, e1', p_sok, List.set, then_nx, p_sexpr, p_e2c, o1.lstC, e2', p_if]
        rw [tisn_non (eVar 5) _ s2 s2 rfl]
        simp only [p_sok, if_true, p_call, p_vals, p_vals0, p_varS, p_var0, p_ok, e3', List.set, then_nx]
        rw [p_if, tisn_non (eVar 9) _ s2 s2 rfl]
        rfl
    | some q' =>
      rw [ha] at e3'
      refine ⟨st, q', .non, some (.t st.t), some (.t (bsT q')), s2, kq.app ha, ns, o3, .inl ⟨?_, rfl⟩, ?_⟩
      · rw [rew_snoc, hr]
        dsimp only
        rw [ha]
      · simp only [p_seq2, p_asgV, p_call, p_vals, p_vals0, p_varS, p_var0, p_ok, e1', p_sok, List.set, then_nx, p_sexpr, p_e2c, o1.lstC, e2', p_if]
        rw [tisn_non (eVar 5) _ s2 s2 rfl]
        simp only [p_sok, if_true, p_call, p_vals, p_vals0, p_varS, p_var0, p_ok, e3', List.set, then_nx, oL]
        rw [p_if, tisn_T (eVar 9) _ s2 s2 (bsT q') (by intro h; cases h) rfl]
        rfl
  · refine ⟨st, q, refT j, some (.t st.t), x9, s2, kq, ns, o3, .inr ⟨j, ?_, rfl⟩, ?_⟩
    · rw [rew_snoc, hr]
    · simp only [p_seq2, p_asgV, p_call, p_vals, p_vals0, p_varS, p_var0, p_ok, e1', p_sok, List.set, then_nx, p_sexpr, p_e2c, o1.lstC, e2', p_if]
      rw [tisn_T (eVar 5) _ s2 s2 (refT j) (by intro h; cases h) rfl]
      rfl
theorem law1 (ns : List Int) (h : ns.length ≤ 63) : ∃ s', f_law (Γ 590) (start 12 [.scr ns]) [] = .rt (.t (.bl true)) s' := by
  obtain ⟨s0, hs0, h0⟩ := b_state base 589 h
  have w0 : Wf s0 := by obtain ⟨c, m, _, rfl⟩ := hs0; exact wf_St (by simp)
  obtain ⟨code, safe, mc, mr, code2, safe2, r2, s1, hk, hl, _, hm, hk2, hl2, _, hr2, hs1, h1⟩ := blocks_run base baseC 586 hs0 w0
  have h1 : Γ 590 113 [.loc 1] s0 = .ok (.t (bsT [mainB mc mr, otherB code2 r2])) s1 := h1
  obtain ⟨hm1, hm2, hm3⟩ := hm.sm hk hl
  have r2l := hk2.saf r2 hr2
  have one : ∀ {code : List Ins} {safe : List Nat}, Cok code safe → ∀ i ∈ code, ∃ o, i.outs = [o] := fun k i hi => by
    obtain ⟨j, e⟩ := List.getElem?_of_mem hi
    exact ⟨_, k.out j i e⟩
  have onem : ∀ i ∈ mc, ∃ o, i.outs = [o] := by
    cases hm with
    | flat r hr => exact one hk
    | call a b r ha hb hr =>
      intro i hi
      rcases List.mem_append.mp hi with hi | hi
      · exact one hk i hi
      · rw [List.mem_singleton.mp hi]; exact ⟨_, rfl⟩
  have hbi : ∀ b ∈ [mainB mc mr, otherB code2 r2], BI b := fun b hb => by
    simp only [List.mem_cons, List.not_mem_nil, or_false] at hb
    rcases hb with rfl | rfl
    · exact ⟨fun i hi => (hm1 i hi).mi (onem i hi), hm2, ⟨by simp [mainB], fun r hr => by rw [List.mem_singleton.mp hr]; omega⟩, ⟨rfl, rfl⟩, by show "main".length ≤ 10; decide⟩
    · exact ⟨fun i hi => (hk2.sm hl2 i hi).mi (one hk2 i hi), by show code2.length ≤ 34; omega, ⟨by simp [otherB], fun r hr => by rw [List.mem_singleton.mp hr]; omega⟩, ⟨rfl, rfl⟩, by show "other".length ≤ 10; decide⟩
  obtain ⟨p, s2, hp, hn, hs2, h2⟩ := b_mixed base baseM 587 hs1 (wf_is hs0 w0 hs1) (bs := [mainB mc mr, otherB code2 r2]) (by show 2 ≤ 100; decide) hbi
  have h2 : Γ 590 117 [.loc 1, .t (bsT [mainB mc mr, otherB code2 r2])] s1 = .ok (.t (bsT p)) s2 := h2
  have k2 : K2 p := ⟨fun b hb => (hp b hb).k1, hn⟩
  have k3 : K3 p := ⟨k2, fun b hb => (hp b hb).len⟩
  have hrp : ∀ s, reprV (.t (bsT p)) s = .ok (.t (.rp (bsT p))) s := fun s => rp_run rfl (bst_plain k2.all) (by
    have := rlen_lst 3000000 (p.map Blk.t) fun d hd => by
      obtain ⟨b, hb, rfl⟩ := List.mem_map.mp hd
      exact bi_rlen (hp b hb)
    obtain ⟨a, b, rfl, _⟩ := k2.two
    simp only [List.map_cons, List.map_nil, List.length_cons, List.length_nil] at this
    show T.rlen (.lst [a.t, b.t]) ≤ 16777216
    omega) s
  have w2 := wf_is hs0 w0 hs2
  have o2 := OwnD.newL hs2 w2 ([] : List T)
  rw [List.map_nil] at o2
  have hnew : ∀ ρ, eLst true [] ρ s2 = .ok (.loc s2.length) (s2 ++ [some (.lst [])]) := fun ρ => rfl
  generalize hs3 : s2 ++ [some (Cell.lst [])] = s3 at o2 hnew
  generalize hv : (Val.loc s2.length) = v at o2 hnew
  obtain ⟨r3, i3, w3, back3⟩ := o2.via
  obtain ⟨d, s4, hd, i4, e4⟩ := b_drawN base 589 i3 (k := 14) (by decide) (by decide)
  have e4 : Γ 590 75 [.loc 1, .t (.int 14)] s3 = .ok (iv (d : Nat)) s4 := e4
  have o4 := back3 s4 i4
  have hr := p_rangeS (b := eCall (Γ 590) 75 [eVar 1, eC (.int 14)]) (ρ := [some (.scr ns), some (.loc 1), some (.t (bsT p)), some (.t (.rp (bsT p))), some (.t (bsT p)), some (.t .non), some v, none, none, none, none, none]) (s := s3) (s' := s4) (n := d) (by simp only [p_call, p_vals, p_vals0, p_varS, p_var0, p_ok, p_eC, e4]) (by omega)
  generalize hc : forL (gVar 7) (lwT (Γ 590)) ((List.range d).map fun (k : Nat) => iv k) [some (.scr ns), some (.loc 1), some (.t (bsT p)), some (.t (.rp (bsT p))), some (.t (bsT p)), some (.t .non), some v, none, none, none, none, none] s4 = o
  obtain ⟨ρ', s5, rfl, l, q, due, x7, x8, x9, g1, g2, g3, g4, g5, rfl⟩ := for_ix hc (fun k ρ s => ∃ (l : List RSt) (q : List Blk) (due : T) (x7 x8 x9 : Option Val), NSw l ∧ l.length = k ∧ K3 q ∧ OwnD [] s v (l.map RSt.t) ∧ ((rew p 0 l = .ok q ∧ due = .non) ∨ ∃ j, rew p 0 l = .no j ∧ due = refT j) ∧
      ρ = [some (.scr ns), some (.loc 1), some (.t (bsT p)), some (.t (.rp (bsT p))), some (.t (bsT q)), some (.t due), some v, x7, x8, x9, none, none]) ⟨[], p, .non, none, none, none, fun st h => absurd h (by simp), rfl, k3, o4, .inl ⟨rfl, rfl⟩, rfl⟩ (by
    rintro k hk ρ s ⟨l, q, due, x7, x8, x9, g1, rfl, g3, g4, g5, rfl⟩
    obtain ⟨st, q', due', y8, y9, s', f1, f2, f3, f4, e⟩ := lw_turn g3 g1 g4 (by omega) g5 (some (.scr ns)) (some (.t (bsT p))) (some (.t (.rp (bsT p)))) x8 x9
    exact ⟨_, _, _, s', rfl, by simp only [List.set]; exact e, l ++ [st], q', due', _, _, _, f2, by rw [List.length_append]; rfl, f1, f3, f4, rfl⟩)
  have hfz := fun o hz => g4.sfz (i := 6) (ρ := [some (.scr ns), some (.loc 1), some (.t (bsT p)), some (.t (.rp (bsT p))), some (.t (bsT q)), some (.t due), some v, x7, x8, x9, none, none]) (o := o) hz rfl
  obtain ⟨c6, m6, s6, hc6, e6, ht6, w6⟩ := hfz _ rfl
  have ht := b_told baseA baseM 585 k2.gl l w6
  have ht : Γ 590 78 [.t (bsT p), .t (.lst (l.map RSt.t))] s6 = .ok (.t (rwT' (rew p 0 l))) s6 := ht
  obtain ⟨l2, q2, z1, _, z3, _, z5⟩ := a_improve baseA 585 k2.gl k2.nd s6 w6
  have z5 : Γ 590 63 [.t (bsT p)] s6 = .ok (.t (.lst (l2.map RSt.t))) s6 := z5
  have ht2 := b_told baseA baseM 585 k2.gl l2 w6
  rw [z1] at ht2
  have ht2 : Γ 590 78 [.t (bsT p), .t (.lst (l2.map RSt.t))] s6 = .ok (.t (bsT q2)) s6 := ht2
  have hno := b_none baseB 588 (k2.rew z1) z3 w6
  have hno : Γ 590 118 [.t (bsT q2)] s6 = .ok (.t (.bl true)) s6 := hno
  have pl : T.plain 60 (rwT' (rew p 0 l)) = true := by
    rcases g5 with ⟨hr, _⟩ | ⟨j, hr, _⟩
    · rw [hr]; exact bst_plain g3.k.all
    · rw [hr]; exact ref_plain j
  have heq := eq_refl pl s6
  refine ⟨s6, ?_⟩
  have mid : ∀ (x7 x8 x9 : Option Val), (sIf (tIsN (eVar 5)) (sAsg (eVar 4) (gVar 5)) sNil) [some (.scr ns), some (.loc 1), some (.t (bsT p)), some (.t (.rp (bsT p))), some (.t (bsT q)), some (.t due), some (.t (.lst (l.map RSt.t))), x7, x8, x9, none, none] s6 =
      .nx [some (.scr ns), some (.loc 1), some (.t (bsT p)), some (.t (.rp (bsT p))), some (.t (bsT q)), some (.t (rwT' (rew p 0 l))), some (.t (.lst (l.map RSt.t))), x7, x8, x9, none, none] s6 := fun x7 x8 x9 => by
    rw [p_if]
    rcases g5 with ⟨hr, rfl⟩ | ⟨j, hr, rfl⟩
    · rw [tisn_non (eVar 5) _ s6 s6 rfl, hr]; rfl
    · rw [tisn_T (eVar 5) _ s6 s6 (refT j) (by intro h; cases h) rfl, hr]; rfl
  have hli : ∀ (d : List T) (s : Store), isiV "list" (.t (.lst d)) s = .ok true s := fun d s => rfl
  rw [show start 12 [.scr ns] = [some (.scr ns), none, none, none, none, none, none, none, none, none, none, none] from rfl]
  unfold f_law
  simp only [p_seq2, p_asgV, p_call, p_vals, p_vals0, p_varS, p_var0, p_ok, h0, p_sok, List.set, then_nx, h1, h2, p_e1, hrp, p_eC, hnew, p_for, hr]
  rw [hc]
  simp only [then_nx, e6, List.set]
  rw [p_seq2, mid]
  simp only [then_nx, p_seq2, p_if, p_tOr, p_tNot, p_tNe, p_call, p_vals, p_vals0, p_varS, p_var0, p_ok, ht, heq, Bool.not_true, Bool.false_eq_true, if_false, p_e1, hrp, rp_eq, p_sok, p_nil, p_asgV, z5, List.set, ht2, p_tIsi, hli, p_ret, hno]
theorem plain (ns : List Int) (h : ns.length ≤ 63) : ∃ s, Gam fds 591 80 [.scr ns] [] = .ok (vB true) s := by
  obtain ⟨s', h1⟩ := law1 ns h
  exact ⟨[], fn_long h1 rfl rfl trivial⟩
end Fl.k10
set_option Elab.async false
set_option linter.all false
set_option maxRecDepth 100000
set_option maxHeartbeats 0
namespace Fl.k10
theorem lx (fd : FD) (h : fds.lookup 80 = some fd) : fd.ps = [("_law_script" : PySem.Str)] := by
  have e : fds.lookup 80 = some fd_f_law := rfl
  rw [e] at h
  injection h with h
  subst h
  rfl
theorem lmem : ((HandSHeadRun.topDef Rw.prog 29).name, 80, 1) ∈ tb.fns := List.mem_of_getElem? (i := 23) (by kernel_rfl)
theorem ldf : (HandSHeadRun.topDef Rw.prog 29).params.defaults = [] := by kernel_rfl
end Fl.k10
set_option Elab.async false
set_option linter.all false
set_option maxRecDepth 100000
set_option maxHeartbeats 0
open PySem PySem.W PySem.Calls PyProof.Rows
theorem Fl.k10.walk : PySem.W.WalkO (view Fl.k10.Rw.prog [29]) Fl.k10.loose (XL (view Fl.k10.Rw.prog [29]) []) Fl.k10.hkL.says (PySem.Challenge.rw_flatsheaves_k10_rewriting_steps).row.toRowW (HandSHeadRun.topDef Fl.k10.Rw.prog 29) [] (fun f vs => PySem.call f vs) :=
  Fl.law_end (l := PySem.Challenge.rw_flatsheaves_k10_rewriting_steps) (x := ("_law_script" : PySem.Str)) rfl Fl.k10.ldf Fl.k10.tabok 80 590 (by decide) Fl.k10.lmem Fl.k10.lx Fl.k10.plain
set_option Elab.async false
set_option linter.all false
set_option maxRecDepth 100000
set_option maxHeartbeats 0
namespace Fl.k10
noncomputable def ob (s : PySem.W.SharedT) : He.AlD × Bool := obF 5 fa (fds.map (·.2.d)) (exAll tb ets) s
theorem ob_eq (s : PySem.W.SharedT) : ob s = hkL.obs s.abs := obF_eq _ _ _ _ s
end Fl.k10
open PySem PySem.W PySem.Calls PyProof.Rows
theorem PySem.Challenge.cw_flatsheaves_k10_rewriting_steps_holds : PySem.Challenge.rw_flatsheaves_k10_rewriting_steps.Holds := by
  w_on; o_law
  refine HandSHeadRun.head_any (r := OpenLaw.row PySem.Challenge.rw_flatsheaves_k10_rewriting_steps) (q := view Fl.k10.Rw.prog [29]) (H := Fl.k10.hkL) (ob := Fl.k10.ob) (M := 20000) (loose := Fl.k10.loose) (d := HandSHeadRun.topDef Fl.k10.Rw.prog 29) (kwd := [])
    Fl.k10.ob_eq ?a1 ?a2 Fl.k10.run ?a3 ?a4 ?a5 ?a6 ?a7 ?a8 ?a9 ?hw Fl.k10.walk
  case a1 => kernel_rfl
  case a2 => exact fun s => by kernel_rfl
  case a3 => kernel_rfl
  case a4 => kernel_rfl
  case a5 => kernel_rfl
  case a6 => kernel_rfl
  case a7 => first | assumption | decide +kernel
  case a8 => decide +kernel
  case a9 => exact ⟨rfl, rfl, rfl, rfl, rfl, by decide +kernel⟩
  case hw => w_witness2
