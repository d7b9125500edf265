import PyProof.Rows.All
import HandS.ForExc
import HandS.Iter
import HandS.Dict
import HandS.DictComp
import HandS.Comp
import HandS.Deep
import HandS.NoneIn
import HandS.More
import HandS.IsInst
import HandS.Wide
import HandS.TupAny
import HandS.Strs
import HandS.SetKeys
import HandS.TryOnly
import HandS.ExcIs
import HandS.ExcInit
import PyProof.StrLawsRepr
import PyProof.FitsInt
import HandS.SortInts
import HandS.WordsDict
import HandS.Style
import HandS.ExcOwn
import HandS.Small
import HandS.Ends
import HandS.HeadEnd
import HandS.HeadHook1
import HandS.HeadHook2
import HandS.Head2
import HandS.HeadWalk
import HandS.Words
import PyProof.ExcBaseAll.ValueError
import PySem.Challenge.RW_flatsheaves_k01_numbers
/-! Fl: the mirror language: trees, cells, a small store; what a piece of the text computes, as plain functions. No library. -/
namespace Fl
/-- the longest list -/
abbrev L : Nat := 16777216

inductive Key where
  | i (n : Int)
  | s (x : String)
  deriving DecidableEq

/-- data: trees -/
inductive T where
  | non
  | bl (b : Bool)
  | int (i : Int)
  | str (x : String)
  | tup (xs : List T)
  | lst (xs : List T)
  | dct (kvs : List (Key × T))
  /-- the text repr(d) -/
  | rp (d : T)
  deriving Inhabited

structure Exc where
  cls : String
  at_ : Option T := none

inductive Val where
  | t (d : T)
  | loc (n : Nat)
  /-- the script -/
  | scr (ns : List Int)
  | ex (x : Exc)
  deriving Inhabited

inductive Cell where
  | lst (vs : List Val)
  | tup (vs : List Val)
  | dct (kvs : List (Key × Val))
  | ins (c : String) (fs : List (String × Val))
  | kd (kvs : List (T × Val))

abbrev Store := List (Option Cell)
abbrev Env := List (Option Val)

inductive R (α : Type) where
  | ok (a : α) (s : Store)
  | exc (x : Exc) (s : Store)
  | bad

abbrev M (α : Type) := Store → R α

/-- a piece that gives a, then k -/
@[inline] def R.bind {α β : Type} (r : R α) (k : α → M β) : R β := match r with
  | .ok a s => k a s
  | .exc x s => .exc x s
  | .bad => .bad
def M.bind {α β : Type} (m : M α) (k : α → M β) : M β := fun s => (m s).bind k
def M.pure {α : Type} (a : α) : M α := fun s => .ok a s
def bad {α : Type} : M α := fun _ => .bad
instance : Monad M where
  pure := M.pure
  bind := M.bind
theorem bind_eq {α β : Type} (m : M α) (k : α → M β) (s : Store) : (m >>= k) s = (m s).bind k := rfl
theorem pure_eq {α : Type} (a : α) (s : Store) : (pure a : M α) s = .ok a s := rfl
theorem bind_ok {α β : Type} (a : α) (s : Store) (k : α → M β) : (R.ok a s).bind k = k a s := rfl
theorem bind_exc {α β : Type} (x : Exc) (s : Store) (k : α → M β) : (R.exc x s : R α).bind k = .exc x s := rfl
theorem bind_bad {α β : Type} (k : α → M β) : (R.bad : R α).bind k = .bad := rfl

/-! ### trees -/
mutual
def T.beq : T → T → Bool
  | .non, .non => true
  | .bl a, .bl b => a == b
  | .int a, .int b => a == b
  | .str a, .str b => a == b
  | .tup a, .tup b => T.beqs a b
  | .lst a, .lst b => T.beqs a b
  | .dct a, .dct b => T.beqk a b
  | .rp a, .rp b => T.beq a b
  | _, _ => false
def T.beqs : List T → List T → Bool
  | [], [] => true
  | a :: r, b :: q => T.beq a b && T.beqs r q
  | _, _ => false
def T.beqk : List (Key × T) → List (Key × T) → Bool
  | [], [] => true
  | a :: r, b :: q => T.beqp a b && T.beqk r q
  | _, _ => false
def T.beqp : Key × T → Key × T → Bool
  | (k, a), (l, b) => decide (k = l) && T.beq a b
end
/-- Python's ==; none: not told -/
def optAnd (a b : Option Bool) : Option Bool := match a, b with
  | some x, some y => some (x && y)
  | _, _ => none
/-- what == may be asked of: no dicts, no reprs, not too deep -/
def T.plain : Nat → T → Bool
  | _, .non => true
  | _, .bl _ => true
  | _, .int _ => true
  | _, .str _ => true
  | n + 1, .tup a => a.all (T.plain n)
  | n + 1, .lst a => a.all (T.plain n)
  | _, _ => false
def T.flat : T → Bool
  | .non => true
  | .bl _ => true
  | .int _ => true
  | .str _ => true
  | _ => false
mutual
/-- at least the length of the text repr(d) -/
def T.rlen : T → Nat
  | .non => 4
  | .bl _ => 5
  | .int i => if i.natAbs < 2 ^ 64 then 22 else L + 1
  | .str x => 10 * x.length + 2
  | .tup a => T.rlens a + 3
  | .lst a => T.rlens a + 3
  | _ => L + 1
def T.rlens : List T → Nat
  | [] => 0
  | a :: r => T.rlen a + 2 + T.rlens r
end
mutual
def T.eqv : T → T → Bool
  | .non, .non => true
  | .bl a, .bl b => a == b
  | .bl a, .int j => (if a then 1 else 0) == j
  | .int i, .bl b => i == (if b then 1 else 0)
  | .int a, .int b => a == b
  | .str a, .str b => a == b
  | .tup a, .tup b => T.eqvs a b
  | .lst a, .lst b => T.eqvs a b
  | _, _ => false
def T.eqvs : List T → List T → Bool
  | [], [] => true
  | a :: r, b :: q => T.eqv a b && T.eqvs r q
  | _, _ => false
end
def T.eq? (a b : T) : Option Bool := match a, b with
  | .rp c, .rp d => if T.beq c d then some true else none
  | a, b => if T.plain 60 a && T.plain 60 b then some (T.eqv a b) else none

/-- the place that a Python index means -/
def pyIx (n : Nat) (i : Int) : Option Nat :=
  if 0 ≤ i then (if i < n then some i.toNat else none) else if -(n : Int) ≤ i then some (i + n).toNat else none
/-- a bound of a slice -/
def pyCut (n d : Nat) : Option Int → Nat
  | none => d
  | some i => if i < 0 then (i + n).toNat else min i.toNat n
def slice {α : Type} (xs : List α) (a b : Option Int) : List α := (xs.drop (pyCut xs.length 0 a)).take (pyCut xs.length xs.length b - pyCut xs.length 0 a)

/-! ### reading cells -/
def Store.cell (s : Store) (n : Nat) : Option Cell := (s[n]?).join
def items (v : Val) : M (List Val) := fun s => match v with
  | .scr ns => .ok (ns.map fun i => .t (.int i)) s
  | .t (.lst ts) => .ok (ts.map .t) s
  | .t (.tup ts) => .ok (ts.map .t) s
  | .loc n => match s.cell n with
    | some (.lst vs) => .ok vs s
    | some (.tup vs) => .ok vs s
    | _ => .bad
  | _ => .bad
/-- the items of a list alone -/
def itemsL (v : Val) : M (List Val) := fun s => match v with
  | .t (.lst ts) => .ok (ts.map .t) s
  | .loc n => match s.cell n with
    | some (.lst vs) => .ok vs s
    | _ => .bad
  | _ => .bad
def dictOf (v : Val) : M (List (Key × Val)) := fun s => match v with
  | .t (.dct kvs) => .ok (kvs.map fun p => (p.1, .t p.2)) s
  | .loc n => match s.cell n with
    | some (.dct kvs) => .ok kvs s
    | _ => .bad
  | _ => .bad
/-- the trees among values, if all are -/
def trees : List Val → Option (List T)
  | [] => some []
  | .t d :: r => match trees r with
    | some q => some (d :: q)
    | none => none
  | _ :: _ => none
def treesK : List (Key × Val) → Option (List (Key × T))
  | [] => some []
  | (k, .t d) :: r => match treesK r with
    | some q => some ((k, d) :: q)
    | none => none
  | _ :: _ => none
theorem trees_map (ts : List T) : trees (ts.map .t) = some ts := by
  induction ts with
  | nil => rfl
  | cons d r ih => simp [trees, ih]
/-- a new list: a tree, or a cell -/
def newL (cell : Bool) (vs : List Val) : M Val := fun s => match cell with
  | true => .ok (.loc s.length) (s ++ [some (.lst vs)])
  | false => match trees vs with
    | some ts => .ok (.t (.lst ts)) s
    | none => .bad
def newT (cell : Bool) (vs : List Val) : M Val := fun s => match cell with
  | true => .ok (.loc s.length) (s ++ [some (.tup vs)])
  | false => match trees vs with
    | some ts => .ok (.t (.tup ts)) s
    | none => .bad
def newD (cell : Bool) (kvs : List (Key × Val)) : M Val := fun s => match cell with
  | true => .ok (.loc s.length) (s ++ [some (.dct kvs)])
  | false => match treesK kvs with
    | some ts => .ok (.t (.dct ts)) s
    | none => .bad
/-- a cell becomes a tree; it is written no more -/
def freeze (v : Val) : M Val := fun s => match v with
  | .t d => .ok (.t d) s
  | .loc n => match s.cell n with
    | some (.lst vs) => match trees vs with
      | some ts => .ok (.t (.lst ts)) (s.set n none)
      | none => .bad
    | some (.dct kvs) => match treesK kvs with
      | some ts => .ok (.t (.dct ts)) (s.set n none)
      | none => .bad
    | _ => .bad
  | _ => .bad
def getInt (v : Val) : M Int := fun s => match v with
  | .t (.int i) => .ok i s
  | _ => .bad
def getB (v : Val) : M Bool := fun s => match v with
  | .t (.bl b) => .ok b s
  | _ => .bad
def vI (i : Int) : Val := .t (.int i)
def vB (b : Bool) : Val := .t (.bl b)
def vS (x : String) : Val := .t (.str x)
def vN : Val := .t .non

mutual
/-- the tree that a value stands for, through cells -/
def deep (s : Store) : Nat → Val → Option T
  | _, .t d => some d
  | 0, _ => none
  | f + 1, .loc n => match s.cell n with
    | some (.lst vs) => match deeps s f vs with
      | some ts => some (.lst ts)
      | none => none
    | some (.tup vs) => match deeps s f vs with
      | some ts => some (.tup ts)
      | none => none
    | _ => none
  | _, _ => none
def deeps (s : Store) : Nat → List Val → Option (List T)
  | _, [] => some []
  | 0, _ :: _ => none
  | f + 1, v :: r => match deep s f v with
    | some d => match deeps s f r with
      | some ts => some (d :: ts)
      | none => none
    | none => none
end
/-- deep enough -/
abbrev deepMax : Nat := 100000
def eqV (a b : Val) : M Bool := fun s => match a, b with
  | .t c, .t d => match T.eq? c d with
    | some r => .ok r s
    | none => .bad
  | a, b => match deep s deepMax a, deep s deepMax b with
    | some c, some d => match T.eq? c d with
      | some r => .ok r s
      | none => .bad
    | _, _ => .bad

/-! ### operators -/
def addV (cell : Bool) (a b : Val) : M Val := fun s => match a, b with
  | .t (.int i), .t (.int j) => .ok (vI (i + j)) s
  | .t (.str x), .t (.str y) => if x.length + y.length ≤ L then .ok (vS (x ++ y)) s else .bad
  | .t (.tup x), .t (.tup y) => if x.length + y.length ≤ L then .ok (.t (.tup (x ++ y))) s else .bad
  | a, b => ((itemsL a) >>= fun x => (itemsL b) >>= fun y => if x.length + y.length ≤ L then newL cell (x ++ y) else bad) s
def subV (a b : Val) : M Val := fun s => match a, b with
  | .t (.int i), .t (.int j) => .ok (vI (i - j)) s
  | _, _ => .bad
/-- products: one factor below 2 ^ 64 -/
def mulOk (i j : Int) : Bool := (decide (-(2 ^ 64) < i) && decide (i < 2 ^ 64)) || (decide (-(2 ^ 64) < j) && decide (j < 2 ^ 64))
def mulV (cell : Bool) (a b : Val) : M Val := fun s => match a, b with
  | .t (.int i), .t (.int j) => if mulOk i j then .ok (vI (i * j)) s else .bad
  | a, .t (.int k) => ((itemsL a) >>= fun x => if k < 2 ^ 62 ∧ -(2 ^ 62) < k ∧ x.length * k.toNat ≤ L then newL cell (List.replicate k.toNat x).flatten else bad) s
  | _, _ => .bad
def fdivOk (i j : Int) : Bool := decide (j ≠ 0) && decide (j.natAbs < 2 ^ 62)
def fdivV (a b : Val) : M Val := fun s => match a, b with
  | .t (.int i), .t (.int j) => if fdivOk i j then .ok (vI (i.fdiv j)) s else .bad
  | _, _ => .bad
def modV (a b : Val) : M Val := fun s => match a, b with
  | .t (.int i), .t (.int j) => if j ≠ 0 then .ok (vI (i.fmod j)) s else .bad
  | _, _ => .bad
def powV (a b : Val) : M Val := fun s => match a, b with
  | .t (.int i), .t (.int j) => if 0 ≤ j ∧ j ≤ 1000 ∧ i.natAbs < 2 ^ 60 then .ok (vI (i ^ j.toNat)) s else .bad
  | _, _ => .bad
def negV (a : Val) : M Val := fun s => match a with
  | .t (.int i) => .ok (vI (-i)) s
  | _ => .bad
def ltV (f : Int → Int → Bool) (a b : Val) : M Bool := fun s => match a, b with
  | .t (.int i), .t (.int j) => .ok (f i j) s
  | _, _ => .bad
def isNone : Val → Bool
  | .t .non => true
  | _ => false
/-- x is b, for boolsOf -/
def isB (b : Bool) (a : Val) : M Bool := fun s => match a with
  | .t (.bl c) => .ok (c == b) s
  | _ => .bad
def keyOf : Val → Option Key
  | .t (.int i) => some (.i i)
  | .t (.str x) => some (.s x)
  | _ => none
def dget {α : Type} (kvs : List (Key × α)) (k : Key) : Option α := match kvs with
  | [] => none
  | (l, v) :: r => if l = k then some v else dget r k
def dput {α : Type} (kvs : List (Key × α)) (k : Key) (v : α) : List (Key × α) :=
  if kvs.any (fun p => decide (p.1 = k)) then kvs.map fun p => if p.1 = k then (p.1, v) else p else kvs ++ [(k, v)]
def dmerge {α : Type} (d more : List (Key × α)) : List (Key × α) := more.foldl (fun d p => dput d p.1 p.2) d
def dpop {α : Type} (kvs : List (Key × α)) (k : Key) : List (Key × α) := kvs.filter fun p => decide (p.1 ≠ k)
def tget {α : Type} (kvs : List (T × α)) (k : T) : Option α := match kvs with
  | [] => none
  | (l, v) :: r => if T.beq l k then some v else tget r k
/-- what stands in a list -/
def inT (x : T) (ts : List T) : Bool := ts.any fun y => T.eqv y x
def inV (x c : Val) : M Bool := fun s => match c with
  | .t (.dct kvs) => match keyOf x with
    | some k => .ok (dget kvs k).isSome s
    | none => .bad
  | .t (.lst ts) => match x with
    | .t d => if T.plain 60 d && ts.all (T.plain 60) then .ok (inT d ts) s else .bad
    | _ => .bad
  | .t (.tup ts) => match x with
    | .t d => if T.flat d && ts.all T.flat then .ok (inT d ts) s else .bad
    | _ => .bad
  | .loc n => match s.cell n with
    | some (.dct kvs) => match keyOf x with
      | some k => .ok (dget kvs k).isSome s
      | none => .bad
    | some (.lst vs) => match x, trees vs with
      | .t d, some ts => if T.plain 60 d && ts.all (T.plain 60) then .ok (inT d ts) s else .bad
      | _, _ => .bad
    | some (.kd kvs) => match x with
      | .t d => .ok (tget kvs d).isSome s
      | _ => .bad
    | _ => .bad
  | _ => .bad
def subI (v i : Val) : M Val := fun s => match v with
  | .t (.str x) => match i with
    | .t (.int k) => match pyIx x.length k with
      | some n => match x.toList[n]? with
        | some c => if x.length ≤ L then .ok (vS (String.singleton c)) s else .bad
        | none => .bad
      | none => .bad
    | _ => .bad
  | .t (.dct kvs) => match keyOf i with
    | some k => match dget kvs k with
      | some d => .ok (.t d) s
      | none => .bad
    | none => .bad
  | .t (.lst ts) => match i with
    | .t (.int k) => match pyIx ts.length k with
      | some n => match ts[n]? with
        | some d => .ok (.t d) s
        | none => .bad
      | none => .bad
    | _ => .bad
  | .t (.tup ts) => match i with
    | .t (.int k) => match pyIx ts.length k with
      | some n => match ts[n]? with
        | some d => .ok (.t d) s
        | none => .bad
      | none => .bad
    | _ => .bad
  | .loc n => match s.cell n with
    | some (.dct kvs) => match keyOf i with
      | some k => match dget kvs k with
        | some d => .ok d s
        | none => .bad
      | none => .bad
    | some (.kd kvs) => match i with
      | .t k => match tget kvs k with
        | some d => .ok d s
        | none => .bad
      | _ => .bad
    | some (.lst vs) => match i with
      | .t (.int k) => match pyIx vs.length k with
        | some n => match vs[n]? with
          | some d => .ok d s
          | none => .bad
        | none => .bad
      | _ => .bad
    | some (.tup vs) => match i with
      | .t (.int k) => match pyIx vs.length k with
        | some n => match vs[n]? with
          | some d => .ok d s
          | none => .bad
        | none => .bad
      | _ => .bad
    | _ => .bad
  | _ => .bad
/-- a slice of a list or a tuple; a new list's kind by cell -/
def sliceV (cell : Bool) (v : Val) (a b : Option Int) : M Val := fun s => match v with
  | .t (.tup ts) => if pyCut ts.length 0 a = 0 ∧ pyCut ts.length ts.length b = ts.length then .bad else .ok (.t (.tup (slice ts a b))) s
  | v => (itemsL v >>= fun vs => newL cell (slice vs a b)) s
def lenV (v : Val) : M Val := fun s => match v with
  | .t (.lst ts) => .ok (vI ts.length) s
  | .t (.tup ts) => .ok (vI ts.length) s
  | .t (.dct ts) => .ok (vI ts.length) s
  | .loc n => match s.cell n with
    | some (.lst vs) => .ok (vI vs.length) s
    | some (.tup vs) => .ok (vI vs.length) s
    | some (.dct vs) => .ok (vI vs.length) s
    | _ => .bad
  | _ => .bad

/-! ### built-ins -/
def intV (v : Val) : M Val := fun s => match v with
  | .t (.int i) => .ok (vI i) s
  | .t (.bl b) => .ok (vI (if b then 1 else 0)) s
  | _ => .bad
def absV (v : Val) : M Val := fun s => match v with
  | .t (.int i) => .ok (vI (if i < 0 then -i else i)) s
  | _ => .bad
def strV (v : Val) : M Val := fun s => match v with
  | .t (.int i) => if i.natAbs < 2 ^ 64 then .ok (vS (toString i)) s else .bad
  | _ => .bad
def max2 (a b : Val) : M Val := fun s => match a, b with
  | .t (.int i), .t (.int j) => .ok (vI (if j > i then j else i)) s
  | _, _ => .bad
def min2 (a b : Val) : M Val := fun s => match a, b with
  | .t (.int i), .t (.int j) => .ok (vI (if j < i then j else i)) s
  | _, _ => .bad
def intsOf : List Val → Option (List Int)
  | [] => some []
  | .t (.int i) :: r => match intsOf r with
    | some q => some (i :: q)
    | none => none
  | _ :: _ => none
theorem ints_map (ns : List Int) : intsOf (ns.map vI) = some ns := by
  induction ns with
  | nil => rfl
  | cons d r ih => simp only [List.map_cons, vI] at *; simp only [intsOf, ih]
theorem ints_mapT (ns : List Int) : intsOf ((ns.map T.int).map Val.t) = some ns := by
  rw [List.map_map]; exact ints_map ns
def sumV (v : Val) : M Val := (itemsL v) >>= fun vs s => match intsOf vs with
  | some ns => .ok (vI ns.sum) s
  | none => .bad
def maxL : List Int → Option Int
  | [] => none
  | x :: r => some (r.foldl (fun a b => if b > a then b else a) x)
def maxV (v : Val) : M Val := (itemsL v) >>= fun vs s => match intsOf vs with
  | some ns => match maxL ns with
    | some m => .ok (vI m) s
    | none => .bad
  | none => .bad
def insI (x : Int) : List Int → List Int
  | [] => [x]
  | y :: r => if x ≤ y then x :: y :: r else y :: insI x r
def sortI (xs : List Int) : List Int := xs.foldr insI []
def strLe (a b : String) : Bool := !decide ((b.toList.map Char.toNat) < (a.toList.map Char.toNat))
def insS (x : String) : List String → List String
  | [] => [x]
  | y :: r => if strLe x y then x :: y :: r else y :: insS x r
def sortS (xs : List String) : List String := xs.foldr insS []
def dedup {α : Type} [DecidableEq α] : List α → List α
  | [] => []
  | x :: r => if x ∈ r then dedup r else x :: dedup r
def strsOf : List Val → Option (List String)
  | [] => some []
  | .t (.str x) :: r => match strsOf r with
    | some q => some (x :: q)
    | none => none
  | _ :: _ => none
/-- sorted of a list, the keys of a dict; with set: each once -/
def sortVs (uniq cell : Bool) (vs : List Val) : M Val := fun s => match intsOf vs with
  | some ns => newL cell ((sortI (if uniq then dedup ns else ns)).map vI) s
  | none => match strsOf vs with
    | some xs => newL cell ((sortS (if uniq then dedup xs else xs)).map vS) s
    | none => .bad
def keyV : Key → Val
  | .i n => vI n
  | .s x => vS x
/-- what is walked: a tree, the script -/
def iterOf (v : Val) : M (List Val) := fun s => match v with
  | .scr ns => .ok (ns.map vI) s
  | .t (.lst ts) => .ok (ts.map .t) s
  | .t (.tup ts) => .ok (ts.map .t) s
  | _ => .bad
/-- the keys of a dict, the items of a list -/
def keysOf (v : Val) : M (List Val) := fun s => match v with
  | .t (.dct kvs) => .ok (kvs.map fun p => keyV p.1) s
  | .loc n => match s.cell n with
    | some (.dct kvs) => .ok (kvs.map fun p => keyV p.1) s
    | some (.lst vs) => .ok vs s
    | _ => .bad
  | .t (.lst ts) => .ok (ts.map .t) s
  | _ => .bad
def enumT : Nat → List T → List Val
  | _, [] => []
  | n, d :: r => .t (.tup [.int n, d]) :: enumT (n + 1) r
def sortedV (uniq cell : Bool) (v : Val) : M Val := (if uniq then itemsL v else keysOf v) >>= fun vs => sortVs uniq cell vs
/-- len(set(xs)) -/
def lenSet (v : Val) : M Val := (itemsL v) >>= fun vs s => match intsOf vs with
  | some ns => .ok (vI (dedup ns).length) s
  | none => match strsOf vs with
    | some xs => .ok (vI (dedup xs).length) s
    | none => .bad
def boolsOf : List Val → Option (List Bool)
  | [] => some []
  | .t (.bl b) :: r => match boolsOf r with
    | some q => some (b :: q)
    | none => none
  | _ :: _ => none
def anyV (v : Val) : M Val := (itemsL v) >>= fun vs s => match boolsOf vs with
  | some bs => .ok (vB (bs.any id)) s
  | none => .bad
def allV (v : Val) : M Val := (itemsL v) >>= fun vs s => match boolsOf vs with
  | some bs => .ok (vB (bs.all id)) s
  | none => .bad
def listV (cell : Bool) (v : Val) : M Val := (items v) >>= fun vs => newL cell vs
def tupleV (cell : Bool) (v : Val) : M Val := (itemsL v) >>= fun vs => newT cell vs
/-- repr: the text by its tree -/
def reprV (v : Val) : M Val := fun s => match deep s deepMax v with
  | some d => if T.plain 60 d ∧ T.rlen d ≤ L then .ok (.t (.rp d)) s else .bad
  | none => .bad
/-- isinstance with a built-in class or one of the text's exceptions -/
def excSub (c d : String) : Bool := c == d || (d == "FlatError" && (c == "TrapError" || c == "KindError" || c == "PaperError")) ||
  ((d == "ValueError") && (c == "FlatError" || c == "TrapError" || c == "KindError" || c == "PaperError"))
def isiV (cls : String) (v : Val) : M Bool := fun s => match v with
  | .ex _ => .bad
  | .t .non => .ok false s
  | .t (.bl _) => .ok (cls == "bool" || cls == "int") s
  | .t (.int _) => .ok (cls == "int") s
  | .t (.str _) => .ok (cls == "str") s
  | .t (.rp _) => .ok (cls == "str") s
  | .t (.tup _) => .ok (cls == "tuple") s
  | .t (.lst _) => .ok (cls == "list") s
  | .t (.dct _) => .ok (cls == "dict") s
  | .scr _ => .ok (cls == "list") s
  | .loc n => match s.cell n with
    | some (.lst _) => .ok (cls == "list") s
    | some (.tup _) => .ok (cls == "tuple") s
    | some (.dct _) => .ok (cls == "dict") s
    | _ => .bad

/-- isinstance of an exception -/
def isiE (cls : String) (v : Val) : M Bool := fun s => match v with
  | .ex x => .ok (excSub x.cls cls) s
  | _ => .bad
/-- a list, a dict that can be changed -/
def lstC (v : Val) : M Unit := fun s => match v with
  | .loc n => match s.cell n with
    | some (.lst _) => .ok () s
    | _ => .bad
  | .t (.lst _) => .ok () s
  | _ => .bad
def dctC (v : Val) : M Unit := fun s => match v with
  | .loc n => match s.cell n with
    | some (.dct _) => .ok () s
    | _ => .bad
  | .t (.dct _) => .ok () s
  | _ => .bad

/-! ### lists and dicts changed -/
def appendV (l v : Val) : M Val := fun s => match l with
  | .loc n => match s.cell n with
    | some (.lst vs) => if vs.length < L then .ok vN (s.set n (some (.lst (vs ++ [v])))) else .bad
    | _ => .bad
  | _ => .bad
def extendV (l v : Val) : M Val := fun s => match l with
  | .loc n => (itemsL v >>= fun us s => match s.cell n with
    | some (.lst vs) => if vs.length + us.length ≤ L then .ok vN (s.set n (some (.lst (vs ++ us)))) else .bad
    | _ => .bad) s
  | _ => .bad
/-- l.pop(i) of a list -/
def popL (l i : Val) : M Val := fun s => match l, i with
  | .loc n, .t (.int k) => match s.cell n with
    | some (.lst vs) => match pyIx vs.length k with
      | some j => match vs[j]? with
        | some v => .ok v (s.set n (some (.lst (vs.eraseIdx j))))
        | none => .bad
      | none => .bad
    | _ => .bad
  | _, _ => .bad
/-- d.pop(k) of a dict -/
def popD (l i : Val) : M Val := fun s => match l with
  | .loc n => match s.cell n with
    | some (.dct kvs) => match keyOf i with
      | some k => match dget kvs k with
        | some v => .ok v (s.set n (some (.dct (dpop kvs k))))
        | none => .bad
      | none => .bad
    | _ => .bad
  | _ => .bad
def findT (x : T) : List T → Nat → Option Nat
  | [], _ => none
  | y :: r, n => if T.eqv y x then some n else findT x r (n + 1)
def indexV (l x : Val) : M Val := (itemsL l) >>= fun vs s => match intsOf vs, x with
  | some ns, .t (.int k) => match findT (.int k) (ns.map .int) 0 with
    | some n => .ok (vI n) s
    | none => .bad
  | _, _ => .bad
def getD (d k e : Val) : M Val := (dictOf d) >>= fun kvs s => match keyOf k with
  | some k => .ok ((dget kvs k).getD e) s
  | none => .bad
def updateV (l v : Val) : M Val := fun s => match l with
  | .loc n => (dictOf v >>= fun us s => match s.cell n with
    | some (.dct kvs) => if kvs.length + us.length ≤ L then .ok vN (s.set n (some (.dct (dmerge kvs us)))) else .bad
    | _ => .bad) s
  | _ => .bad
def valuesV (cell : Bool) (v : Val) : M Val := (dictOf v) >>= fun kvs => newL cell (kvs.map (·.2))
/-- o[i] = v -/
def setI (o i v : Val) : M Unit := fun s => match o with
  | .loc n => match s.cell n with
    | some (.lst vs) => match i with
      | .t (.int k) => match pyIx vs.length k with
        | some j => .ok () (s.set n (some (.lst (vs.set j v))))
        | none => .bad
      | _ => .bad
    | some (.dct kvs) => match keyOf i with
      | some k => if kvs.length < L then .ok () (s.set n (some (.dct (dput kvs k v)))) else .bad
      | none => .bad
    | some (.kd kvs) => match i with
      | .t k => if kvs.length < L ∧ (tget kvs k).isNone then .ok () (s.set n (some (.kd (kvs ++ [(k, v)])))) else .bad
      | _ => .bad
    | _ => .bad
  | _ => .bad
def fget (fs : List (String × Val)) (f : String) : Option Val := match fs with
  | [] => none
  | (g, v) :: r => if g = f then some v else fget r f
def fput (fs : List (String × Val)) (f : String) (v : Val) : List (String × Val) := match fs with
  | [] => [(f, v)]
  | (g, u) :: r => if g = f then (g, v) :: r else (g, u) :: fput r f v
def attrV (f : String) (v : Val) : M Val := fun s => match v with
  | .loc n => match s.cell n with
    | some (.ins _ fs) => match fget fs f with
      | some u => .ok u s
      | none => .bad
    | _ => .bad
  | .ex x => match x.at_ with
    | some d => if f = "at" then .ok (.t d) s else .bad
    | none => .bad
  | _ => .bad
def setAttr (f : String) (o v : Val) : M Unit := fun s => match o with
  | .loc n => match s.cell n with
    | some (.ins c fs) => if fs.length < 100 then .ok () (s.set n (some (.ins c (fput fs f v)))) else .bad
    | _ => .bad
  | _ => .bad

/-! ### expressions, by the environment -/
abbrev CE := Env → M Val
abbrev CT := Env → M Bool
def eVar (i : Nat) : CE := fun ρ s => match ρ[i]? with
  | some (some v) => .ok v s
  | _ => .bad
def eC (d : T) : CE := fun _ s => .ok (.t d) s
def e1 (k : Val → M Val) (a : CE) : CE := fun ρ => a ρ >>= k
def e2 (k : Val → Val → M Val) (a b : CE) : CE := fun ρ => a ρ >>= fun x => b ρ >>= fun y => k x y
def e3 (k : Val → Val → Val → M Val) (a b c : CE) : CE := fun ρ => a ρ >>= fun x => b ρ >>= fun y => c ρ >>= fun z => k x y z
/-- o.m(..): what o is, is seen first -/
def e2c (c : Val → M Unit) (k : Val → Val → M Val) (a b : CE) : CE := fun ρ => a ρ >>= fun x => c x >>= fun _ => b ρ >>= fun y => k x y
def e3c (c : Val → M Unit) (k : Val → Val → Val → M Val) (a b d : CE) : CE := fun ρ => a ρ >>= fun x => c x >>= fun _ => b ρ >>= fun y => d ρ >>= fun z => k x y z
def eVals : List CE → Env → M (List Val)
  | [], _ => pure []
  | a :: r, ρ => a ρ >>= fun x => eVals r ρ >>= fun xs => pure (x :: xs)
def eTup (cell : Bool) (as : List CE) : CE := fun ρ => eVals as ρ >>= newT cell
def eLst (cell : Bool) (as : List CE) : CE := fun ρ => eVals as ρ >>= newL cell
/-- the pairs of a display, one after the other -/
def ePairs : List (CE × CE) → Env → M (List (Key × Val))
  | [], _ => pure []
  | (a, b) :: r, ρ => a ρ >>= fun x => b ρ >>= fun y => ePairs r ρ >>= fun ps => match keyOf x with
    | some k => pure ((k, y) :: ps)
    | none => bad
def eDct (cell : Bool) (ps : List (CE × CE)) : CE := fun ρ => ePairs ps ρ >>= fun kvs => newD cell (dmerge [] kvs)
def eB (t : CT) : CE := fun ρ => t ρ >>= fun b => pure (vB b)
/-- an expression that gives a bool, as a test -/
def tV (a : CE) : CT := fun ρ => a ρ >>= getB
/-- truth of a list, a tuple -/
def tSeq (a : CE) : CT := fun ρ => a ρ >>= fun v => items v >>= fun vs => pure !vs.isEmpty
def t2 (k : Val → Val → M Bool) (a b : CE) : CT := fun ρ => a ρ >>= fun x => b ρ >>= fun y => k x y
def tEq (a b : CE) : CT := t2 eqV a b
def tNe (a b : CE) : CT := t2 (fun x y => eqV x y >>= fun b => pure !b) a b
def tLt (a b : CE) : CT := t2 (ltV fun i j => decide (i < j)) a b
def tLe (a b : CE) : CT := t2 (ltV fun i j => decide (i ≤ j)) a b
def tGt (a b : CE) : CT := t2 (ltV fun i j => decide (j < i)) a b
def tGe (a b : CE) : CT := t2 (ltV fun i j => decide (j ≤ i)) a b
def tIn (a b : CE) : CT := t2 inV a b
def tNotIn (a b : CE) : CT := t2 (fun x y => inV x y >>= fun b => pure !b) a b
def tIsN (a : CE) : CT := fun ρ => a ρ >>= fun v => match v with
  | .ex _ => bad
  | v => pure (isNone v)
def tNotN (a : CE) : CT := fun ρ => a ρ >>= fun v => match v with
  | .ex _ => bad
  | v => pure !(isNone v)
def tIsB (c : Bool) (a : CE) : CT := fun ρ => a ρ >>= isB c
def tNotB (c : Bool) (a : CE) : CT := fun ρ => a ρ >>= fun v => isB c v >>= fun b => pure !b
def tIsi (cls : String) (a : CE) : CT := fun ρ => a ρ >>= isiV cls
def tIsE (cls : String) (a : CE) : CT := fun ρ => a ρ >>= isiE cls
def tIsi2 (c d : String) (a : CE) : CT := fun ρ => a ρ >>= fun v => isiV c v >>= fun x => isiV d v >>= fun y => pure (x || y)
def tAnd (a b : CT) : CT := fun ρ => a ρ >>= fun x => if x then b ρ else pure false
def tOr (a b : CT) : CT := fun ρ => a ρ >>= fun x => if x then pure true else b ρ
def tNot (a : CT) : CT := fun ρ => a ρ >>= fun x => pure !x
def eIf (c : CT) (a b : CE) : CE := fun ρ => c ρ >>= fun x => if x then a ρ else b ρ
def eSlice (cell : Bool) (a : CE) (lo hi : Option CE) : CE := fun ρ => a ρ >>= fun v =>
  (match lo with
    | none => pure none
    | some e => e ρ >>= fun x => getInt x >>= fun i => pure (some i)) >>= fun l =>
  (match hi with
    | none => pure none
    | some e => e ρ >>= fun x => getInt x >>= fun i => pure (some i)) >>= fun h => sliceV cell v l h

/-- truth of a bool, a list, a tuple, None -/
def truthV (v : Val) : M Bool := fun s => match v with
  | .t (.bl b) => .ok b s
  | .t .non => .ok false s
  | .t (.lst ts) => .ok (!ts.isEmpty) s
  | .t (.tup ts) => .ok (!ts.isEmpty) s
  | .loc n => match s.cell n with
    | some (.lst vs) => .ok (!vs.isEmpty) s
    | _ => .bad
  | _ => .bad
def tTruth (a : CE) : CT := fun ρ => a ρ >>= truthV
def eAnd (a b : CE) : CE := fun ρ => a ρ >>= fun x => getB x >>= fun c => if c then b ρ else pure (vB false)
def eOr (a b : CE) : CE := fun ρ => a ρ >>= fun x => getB x >>= fun c => if c then pure (vB true) else b ρ
def eNot (a : CE) : CE := fun ρ => a ρ >>= fun x => getB x >>= fun c => pure (vB !c)

/-! ### what is walked -/
abbrev CI := Env → M (List Val)
/-- a list, a tuple -/
def iV (a : CE) : CI := fun ρ => a ρ >>= iterOf
/-- enumerate of a list of trees -/
def iEnum (a : CE) : CI := fun ρ => a ρ >>= fun v => match v with
  | .t (.lst ts) => pure (enumT 0 ts)
  | _ => bad
def upto (lo : Int) (n : Nat) : List Val := (List.range n).map fun k => vI (lo + (k : Nat))
def rangeOk (i : Int) : Bool := decide (-(2 ^ 62) ≤ i) && decide (i < 2 ^ 62)
def iRange1 (b : CE) : CI := fun ρ => b ρ >>= fun y => getInt y >>= fun hi => if rangeOk hi then pure (upto 0 hi.toNat) else bad
def iRange2 (a b : CE) : CI := fun ρ => a ρ >>= fun x => b ρ >>= fun y => getInt x >>= fun lo => getInt y >>= fun hi => if rangeOk lo && rangeOk hi then pure (upto lo (hi - lo).toNat) else bad
/-- range(a, -1, -1) -/
def iDown (a : CE) : CI := fun ρ => a ρ >>= getInt >>= fun hi => if -(2 ^ 62) ≤ hi ∧ hi < 2 ^ 62 then pure ((List.range (hi + 1).toNat).map fun k => vI (hi - (k : Nat))) else bad
/-- a walked item: one value, or the parts of a tuple -/
abbrev CG := Val → Env → M Env
def gVar (i : Nat) : CG := fun v ρ => pure (ρ.set i (some v))
def gSets : List Nat → List Val → Env → Option Env
  | [], [], ρ => some ρ
  | i :: r, v :: q, ρ => gSets r q (ρ.set i (some v))
  | _, _, _ => none
def gTup (is : List Nat) : CG := fun v ρ s => (items v >>= fun vs s => match gSets is vs ρ with
  | some ρ' => .ok ρ' s
  | none => .bad) s
def wipeE (ρ : Env) : List Nat → Env
  | [] => ρ
  | i :: r => (wipeE ρ r).set i none
def testM (c : Option CT) : CT := fun ρ => match c with
  | none => pure true
  | some c => c ρ
/-- walking items with an optional test -/
def compL (g : CG) (c : Option CT) (f : CE) (ρ : Env) : List Val → M (List Val)
  | [] => pure []
  | v :: r => g v ρ >>= fun ρ' => testM c ρ' >>= fun b => if b then f ρ' >>= fun x => compL g c f ρ r >>= fun xs => pure (x :: xs) else compL g c f ρ r
/-- .. what was made is handed along -/
def compK (g : CG) (c : Option CT) (f : CE) (ρ : Env) (acc : List Val) : List Val → M (List Val)
  | [] => pure acc
  | v :: r => g v ρ >>= fun ρ' => testM c ρ' >>= fun b => if b then f ρ' >>= fun x => compK g c f ρ (acc ++ [x]) r else compK g c f ρ acc r
theorem compK_eq (g : CG) (c : Option CT) (f : CE) (ρ : Env) : ∀ (vs acc : List Val) (s : Store), compK g c f ρ acc vs s = (compL g c f ρ vs s).bind fun xs s' => .ok (acc ++ xs) s'
  | [], acc, s => by simp [compK, compL, pure_eq, bind_ok]
  | v :: r, acc, s => by
    have ih := compK_eq g c f ρ r
    rw [compK, compL, bind_eq, bind_eq]
    cases g v ρ s with
    | exc x s1 => rfl
    | bad => rfl
    | ok ρ' s1 =>
      rw [bind_ok, bind_ok, bind_eq, bind_eq]
      cases testM c ρ' s1 with
      | exc x s2 => rfl
      | bad => rfl
      | ok b s2 =>
        rw [bind_ok, bind_ok]
        cases b with
        | false =>
          rw [if_neg (by decide), if_neg (by decide), ih]
        | true =>
          rw [if_pos rfl, if_pos rfl, bind_eq, bind_eq]
          cases f ρ' s2 with
          | exc x s3 => rfl
          | bad => rfl
          | ok x s3 =>
            rw [bind_ok, bind_ok, bind_eq, ih]
            cases compL g c f ρ r s3 with
            | exc y s4 => rfl
            | bad => rfl
            | ok xs s4 => simp [bind_ok, pure_eq]
def eComp (cell : Bool) (own : List Nat) (it : CI) (g : CG) (c : Option CT) (f : CE) : CE := fun ρ => it ρ >>= fun vs => compL g c f (wipeE ρ own) vs >>= newL cell
def eCompR (cell : Bool) (own : List Nat) (it : CI) (g : CG) (c : Option CT) (f : CE) : CE := fun ρ => it ρ >>= fun vs => if vs.length ≤ L then compL g c f (wipeE ρ own) vs >>= newL cell else bad
/-- two clauses; nothing raised -/
def inner (it1 : CI) (g1 : CG) (c1 : Option CT) (f : CE) (own1 : List Nat) (ρ : Env) : M (List Val) := it1 ρ >>= fun ws => if ws.length ≤ L then compL g1 c1 f (wipeE ρ own1) ws else bad
def comp2 (g : CG) (c : Option CT) (it1 : CI) (g1 : CG) (c1 : Option CT) (f : CE) (own1 : List Nat) (ρ : Env) : List Val → M (List Val)
  | [] => pure []
  | v :: r => g v ρ >>= fun ρ' => testM c ρ' >>= fun b => if b then inner it1 g1 c1 f own1 ρ' >>= fun xs => comp2 g c it1 g1 c1 f own1 ρ r >>= fun ys => pure (xs ++ ys) else comp2 g c it1 g1 c1 f own1 ρ r
def calmR {α : Type} (m : M α) : M α := fun s => match m s with
  | .ok a s' => .ok a s'
  | _ => .bad
def eComp2 (cell : Bool) (own own1 : List Nat) (it : CI) (g : CG) (c : Option CT) (it1 : CI) (g1 : CG) (c1 : Option CT) (f : CE) : CE := fun ρ => it ρ >>= fun vs =>
  calmR (comp2 g c it1 g1 c1 f own1 (wipeE ρ own) vs) >>= fun xs => if xs.length ≤ L then newL cell xs else bad
/-! ### statements -/
inductive SO where
  | nx (ρ : Env) (s : Store)
  | rt (v : Val) (s : Store)
  | bk (ρ : Env) (s : Store)
  | ct (ρ : Env) (s : Store)
  | ex (x : Exc) (ρ : Env) (s : Store)
  | bad
abbrev SM := Env → Store → SO
/-- an expression's end within a statement -/
def R.so {α : Type} (r : R α) (ρ : Env) (k : α → Store → SO) : SO := match r with
  | .ok a s => k a s
  | .exc x s => .ex x ρ s
  | .bad => .bad
def sNil : SM := fun ρ s => .nx ρ s
def sSeq (a b : SM) : SM := fun ρ s => match a ρ s with
  | .nx ρ' s' => b ρ' s'
  | o => o
def sAsg (e : CE) (g : CG) : SM := fun ρ s => (e ρ s).so ρ fun v s1 => (g v ρ s1).so ρ fun ρ' s2 => .nx ρ' s2
def sSub (e o i : CE) : SM := fun ρ s => (e ρ s).so ρ fun v s1 => (o ρ s1).so ρ fun ov s2 => (i ρ s2).so ρ fun iv s3 => (setI ov iv v s3).so ρ fun _ s4 => .nx ρ s4
def sAttr (f : String) (e o : CE) : SM := fun ρ s => (e ρ s).so ρ fun v s1 => (o ρ s1).so ρ fun ov s2 => (setAttr f ov v s2).so ρ fun _ s3 => .nx ρ s3
/-- x, o.f = a pair -/
def sVarAttr (i : Nat) (f : String) (e o : CE) : SM := fun ρ s => (e ρ s).so ρ fun v s1 => (items v s1).so ρ fun vs s2 => match vs with
  | [a, b] => (o (ρ.set i (some a)) s2).so ρ fun ov s3 => (setAttr f ov b s3).so ρ fun _ s4 => .nx (ρ.set i (some a)) s4
  | _ => .bad
def sExpr (e : CE) : SM := fun ρ s => (e ρ s).so ρ fun _ s1 => .nx ρ s1
def sRet (e : CE) : SM := fun ρ s => (e ρ s).so ρ fun v s1 => .rt v s1
def sIf (c : CT) (a b : SM) : SM := fun ρ s => (c ρ s).so ρ fun x s1 => if x then a ρ s1 else b ρ s1
def sBreak : SM := fun ρ s => .bk ρ s
def sCont : SM := fun ρ s => .ct ρ s
def sRaise (cls : String) : SM := fun ρ s => .ex ⟨cls, none⟩ ρ s
def sRaiseA (cls : String) (e : CE) : SM := fun ρ s => (e ρ s).so ρ fun v s1 => match v with
  | .t d => .ex ⟨cls, some d⟩ ρ s1
  | _ => .bad
def forL (g : CG) (body : SM) : List Val → SM
  | [], ρ, s => .nx ρ s
  | v :: r, ρ, s => (g v ρ s).so ρ fun ρ1 s1 => match body ρ1 s1 with
    | .nx ρ2 s2 => forL g body r ρ2 s2
    | .ct ρ2 s2 => forL g body r ρ2 s2
    | .bk ρ2 s2 => .nx ρ2 s2
    | o => o
def sFor (it : CI) (g : CG) (body : SM) : SM := fun ρ s => (it ρ s).so ρ fun vs s1 => forL g body vs ρ s1
def whileN (c : CT) (body : SM) : Nat → SM
  | 0, _, _ => .bad
  | n + 1, ρ, s => (c ρ s).so ρ fun x s1 => if x then (match body ρ s1 with
      | .nx ρ2 s2 => whileN c body n ρ2 s2
      | .ct ρ2 s2 => whileN c body n ρ2 s2
      | .bk ρ2 s2 => .nx ρ2 s2
      | o => o) else .nx ρ s1
abbrev whileMax : Nat := 100000000
def sWhile (c : CT) (body : SM) : SM := whileN c body whileMax
/-- a suite that raises nothing -/
def calmO : SO → SO
  | .ex _ _ _ => .bad
  | o => o
/-- try: body, except cls [as slot i]: suite -/
def sTry (body : SM) (cls : String) (i : Option Nat) (suite : SM) : SM := fun ρ s => match body ρ s with
  | .ex x ρ1 s1 => if excSub x.cls cls then (match i with
      | none => calmO (suite ρ1 s1)
      | some i => if i < ρ1.length then (match suite (ρ1.set i (some (.ex x))) s1 with
        | .nx ρ2 s2 => .nx (ρ2.set i none) s2
        | .bk ρ2 s2 => .bk (ρ2.set i none) s2
        | .ct ρ2 s2 => .ct (ρ2.set i none) s2
        | .rt v s2 => .rt v s2
        | _ => .bad) else .bad) else .ex x ρ1 s1
  | o => o

/-! ### defs -/
/-- what stands below n -/
def Val.below (n : Nat) : Val → Bool
  | .t _ => true
  | .loc k => decide (k < n)
  | _ => false
def Cell.below (n : Nat) : Cell → Bool
  | .lst vs => vs.all (Val.below n)
  | .tup vs => vs.all (Val.below n)
  | .dct kvs => kvs.all fun p => p.2.below n
  | .ins _ fs => fs.all fun p => p.2.below n
  | .kd kvs => kvs.all fun p => p.2.below n
def Store.below (n : Nat) (s : Store) : Bool := s.all fun c => match c with
  | some c => c.below n
  | none => true
/-- what a def has made and let go is forgotten -/
def trim (n : Nat) (s : Store) : Store := if Store.below n (s.take n) then s.take n else s
def start (N : Nat) (args : List Val) : Env := args.map some ++ List.replicate (N - args.length) none
/-- a def of N names, the first ps are the parameters -/
def mkFn (N ps : Nat) (body : SM) (args : List Val) : M Val := fun s => if args.length = ps then (match body (start N args) s with
    | .nx _ s' => .ok vN (trim s.length s')
    | .rt v s' => if v.below s.length then .ok v (trim s.length s') else (match v with
      | .loc n => .ok (.loc n) s'
      | _ => .bad)
    | .ex x _ s' => .exc x (trim s.length s')
    | _ => .bad) else .bad
abbrev FEnv := Nat → List Val → M Val
def eCall (G : FEnv) (f : Nat) (as : List CE) : CE := fun ρ => eVals as ρ >>= fun vs => G f vs
/-- o.m(..) -/
def eMeth (G : FEnv) (c : String) (f : Nat) (o : CE) (as : List CE) : CE := fun ρ => o ρ >>= fun x s => match x with
  | .loc n => match s.cell n with
    | some (.ins d _) => if d = c then (eVals as ρ >>= fun vs => G f (x :: vs)) s else .bad
    | _ => .bad
  | _ => .bad
/-- C(..): a new instance, then its __init__ -/
def eMake (c : String) (f : List Val → M Val) (as : List CE) : CE := fun ρ => eVals as ρ >>= fun vs (s : Store) =>
  (f (.loc s.length :: vs) (s ++ [some (.ins c [])])).bind fun v s' => match v with
    | .t .non => .ok (.loc s.length) s'
    | _ => .bad
end Fl
set_option Elab.async false
set_option linter.all false
set_option maxRecDepth 100000
set_option maxHeartbeats 2000000
/-! Fl over the layer: what stands for what. -/
namespace Fl
open PySem PySem.Spec L2

/-- a key of a dict -/
def kL : Key → L2.Key
  | .i n => .inl n
  | .s x => .inr (Str.ofString x)
theorem ofString_inj {a b : String} (h : Str.ofString a = Str.ofString b) : a = b := by
  rw [Str.ofString_eq_toList, Str.ofString_eq_toList] at h
  have h1 : (a.toList.map Char.toNat).toArray = (b.toList.map Char.toNat).toArray := congrArg Str.cps h
  have h2 : a.toList.map Char.toNat = b.toList.map Char.toNat := by simpa using congrArg Array.toList h1
  have h3 : a.toList = b.toList := by
    refine List.map_inj_right (f := Char.toNat) (fun x y e => ?_) |>.mp h2
    exact Char.ext (UInt32.toNat_inj.mp e)
  exact String.toList_inj.mp h3
theorem kL_inj {a b : Key} (h : kL a = kL b) : a = b := by
  cases a <;> cases b <;> simp only [kL, Sum.inl.injEq, Sum.inr.injEq, reduceCtorEq] at h
  · rw [h]
  · rw [ofString_inj h]

mutual
/-- the data of the library -/
def toPy : T → PyData
  | .non => .none
  | .bl b => .bool b
  | .int i => .int i
  | .str x => .str (Str.ofString x)
  | .tup xs => .tuple (toPys xs)
  | .lst xs => .list (toPys xs)
  | .dct _ => .none
  | .rp d => .str (PyData.shown (toPy d))
def toPys : List T → List PyData
  | [] => []
  | d :: r => toPy d :: toPys r
end

section
variable (K : PySem.W.Frag) (H : Hp) (lv : Addr → Prop)
mutual
/-- v stands for the tree d; lv: the cells' addresses -/
def Rep : T → V → Prop
  | .non, v => v = .non
  | .bl b, v => v = .bl b
  | .int i, v => v = .int i
  | .str x, v => v = .str (Str.ofString x)
  | .tup ts, v => ∃ a vs, v = .ref a ∧ ((H a = some (.tup vs) ∧ ¬ lv a) ∨ ∀ H1, SqT K H1 a vs) ∧ ts.length ≤ L ∧ Reps ts vs
  | .lst ts, v => ∃ a vs, v = .ref a ∧ (H a = some (.lst vs) ∧ ¬ lv a) ∧ ts.length ≤ L ∧ Reps ts vs
  | .dct kts, v => ∃ a kvs, v = .ref a ∧ (H a = some (.dK kvs) ∧ ¬ lv a) ∧ kts.length ≤ L ∧ RepK kts kvs
  | .rp d, v => v = .str (PyData.shown (toPy d))
def Reps : List T → List V → Prop
  | [], vs => vs = []
  | d :: r, vs => ∃ v q, vs = v :: q ∧ Rep d v ∧ Reps r q
def RepK : List (Key × T) → List (L2.Key × V) → Prop
  | [], vs => vs = []
  | d :: r, vs => ∃ v q, vs = v :: q ∧ RepP d v ∧ RepK r q
def RepP : Key × T → L2.Key × V → Prop
  | (k, d), v => v.1 = kL k ∧ Rep d v.2
end
end

/-- where the cells stand -/
abbrev Mp := Nat → Addr
def live (m : Mp) (st : Store) (a : Addr) : Prop := ∃ n c, st.cell n = some c ∧ m n = a
def RepV (K : PySem.W.Frag) (m : Mp) (st : Store) (H : Hp) : Val → V → Prop
  | .t d, v => Rep K H (live m st) d v
  | .loc n, v => n < st.length ∧ v = .ref (m n)
  | .scr ns, v => ns.length ≤ L ∧ ∃ a, v = .ref a ∧ ((H a ≠ none ∧ ¬ live m st a ∧ SqL K H a (ns.map V.int)) ∨ ∀ H1, SqL K H1 a (ns.map V.int))
  | .ex _, _ => True
def RepVs (K : PySem.W.Frag) (m : Mp) (st : Store) (H : Hp) : List Val → List V → Prop
  | [], vs => vs = []
  | d :: r, vs => ∃ v q, vs = v :: q ∧ RepV K m st H d v ∧ RepVs K m st H r q
def RepVK (K : PySem.W.Frag) (m : Mp) (st : Store) (H : Hp) : List (Key × Val) → List (L2.Key × V) → Prop
  | [], vs => vs = []
  | d :: r, vs => ∃ v q, vs = v :: q ∧ (v.1 = kL d.1 ∧ RepV K m st H d.2 v.2) ∧ RepVK K m st H r q
def RepF (K : PySem.W.Frag) (m : Mp) (st : Store) (H : Hp) : List (String × Val) → List (Str × V) → Prop
  | [], vs => vs = []
  | d :: r, vs => ∃ v q, vs = v :: q ∧ (v.1 = Str.ofString d.1 ∧ RepV K m st H d.2 v.2) ∧ RepF K m st H r q

/-- a class's address by its tag -/
abbrev Tags := String → Addr → Prop
def CellOk (K : PySem.W.Frag) (CA : Tags) (m : Mp) (st : Store) (H : Hp) (a : Addr) : Cell → Prop
  | .lst vs => ∃ us, H a = some (.lst us) ∧ vs.length ≤ L ∧ RepVs K m st H vs us
  | .tup vs => ∃ us, H a = some (.tup us) ∧ vs.length ≤ L ∧ RepVs K m st H vs us
  | .dct kvs => ∃ us, H a = some (.dK us) ∧ kvs.length ≤ L ∧ RepVK K m st H kvs us
  | .ins c fs => ∃ C dx us, CA c C ∧ H a = some (.ins C dx us) ∧ RepF K m st H fs us
  | .kd _ => False
structure SR (K : PySem.W.Frag) (CA : Tags) (m : Mp) (st : Store) (H : Hp) : Prop where
  cells : ∀ n c, st.cell n = some c → CellOk K CA m st H (m n) c
  inj : ∀ n n' c c', st.cell n = some c → st.cell n' = some c' → m n = m n' → n = n'
structure Step (m : Mp) (st : Store) (H : Hp) (m' : Mp) (st' : Store) (H' : Hp) : Prop where
  keep : ∀ a o, H a = some o → ¬ live m st a → H' a = some o
  lv : ∀ a, live m' st' a → live m st a ∨ H a = none
  ag : ∀ n, n < st.length → m' n = m n
  len : st.length ≤ st'.length
def ER (K : PySem.W.Frag) (m : Mp) (st : Store) (H : Hp) (ρ : Env) (σ : L2.St) : Prop :=
  ρ.length = σ.length ∧ ∀ (i : Nat) (w : Val), ρ[i]? = some (some w) → ∃ v, σ[i]? = some (some v) ∧ RepV K m st H w v

section
variable {K : PySem.W.Frag} {CA : Tags} {m m' m2 : Mp} {st st' st2 : Store} {H H' H2 : Hp} {lv lv' : Addr → Prop}
theorem Step.refl : Step m st H m st H := ⟨fun _ _ h _ => h, fun _ h => .inl h, fun _ _ => rfl, Nat.le_refl _⟩
theorem Step.trans (a : Step m st H m' st' H') (b : Step m' st' H' m2 st2 H2) : Step m st H m2 st2 H2 where
  keep := fun x o h n => b.keep x o (a.keep x o h n) fun l => (a.lv x l).elim n fun z => by rw [h] at z; cases z
  lv := fun x h => by
    rcases b.lv x h with q | q
    · exact a.lv x q
    · by_cases l : live m st x
      · exact .inl l
      · refine .inr ?_
        cases e : H x with
        | none => rfl
        | some o => rw [a.keep x o e l] at q; cases q
  ag := fun n h => (b.ag n (Nat.lt_of_lt_of_le h a.len)).trans (a.ag n h)
  len := Nat.le_trans a.len b.len
mutual
theorem Rep.mono (k : ∀ a o, H a = some o → ¬ lv a → H' a = some o) (l : ∀ a, lv' a → lv a ∨ H a = none) : ∀ (d : T) (v : V), Rep K H lv d v → Rep K H' lv' d v
  | .non, _, h => h
  | .bl _, _, h => h
  | .int _, _, h => h
  | .str _, _, h => h
  | .rp _, _, h => h
  | .tup ts, v, h => by
    obtain ⟨a, vs, e, q, z, r⟩ := h
    refine ⟨a, vs, e, ?_, z, Reps.mono k l ts vs r⟩
    rcases q with ⟨q, n⟩ | q
    · exact .inl ⟨k a _ q n, fun z => (l a z).elim n fun z => by rw [q] at z; cases z⟩
    · exact .inr q
  | .lst ts, v, h => by
    obtain ⟨a, vs, e, ⟨q, n⟩, z, r⟩ := h
    exact ⟨a, vs, e, ⟨k a _ q n, fun z => (l a z).elim n fun z => by rw [q] at z; cases z⟩, z, Reps.mono k l ts vs r⟩
  | .dct kts, v, h => by
    obtain ⟨a, vs, e, ⟨q, n⟩, z, r⟩ := h
    exact ⟨a, vs, e, ⟨k a _ q n, fun z => (l a z).elim n fun z => by rw [q] at z; cases z⟩, z, RepK.mono k l kts vs r⟩
theorem Reps.mono (k : ∀ a o, H a = some o → ¬ lv a → H' a = some o) (l : ∀ a, lv' a → lv a ∨ H a = none) : ∀ (d : List T) (v : List V), Reps K H lv d v → Reps K H' lv' d v
  | [], _, h => h
  | d :: r, _, h => by
    obtain ⟨v, q, e, h1, h2⟩ := h
    exact ⟨v, q, e, Rep.mono k l d v h1, Reps.mono k l r q h2⟩
theorem RepK.mono (k : ∀ a o, H a = some o → ¬ lv a → H' a = some o) (l : ∀ a, lv' a → lv a ∨ H a = none) : ∀ (d : List (Key × T)) (v : List (L2.Key × V)), RepK K H lv d v → RepK K H' lv' d v
  | [], _, h => h
  | d :: r, _, h => by
    obtain ⟨v, q, e, h1, h2⟩ := h
    exact ⟨v, q, e, RepP.mono k l d v h1, RepK.mono k l r q h2⟩
theorem RepP.mono (k : ∀ a o, H a = some o → ¬ lv a → H' a = some o) (l : ∀ a, lv' a → lv a ∨ H a = none) : ∀ (d : Key × T) (v : L2.Key × V), RepP K H lv d v → RepP K H' lv' d v
  | (_, d), (_, v), h => ⟨h.1, Rep.mono k l d v h.2⟩
end
theorem sqL_keep {a : Addr} {xs : List V} (h : SqL K H a xs) (e : H' a = H a) : SqL K H' a xs := by
  rcases h with h | h
  · refine .inl ?_
    rcases h with h | ⟨o, h⟩
    · exact .inl (e.trans h)
    · exact .inr ⟨o, e.trans h⟩
  · exact .inr h
theorem RepV.mono (s : Step m st H m' st' H') : ∀ (w : Val) (v : V), RepV K m st H w v → RepV K m' st' H' w v
  | .t d, v, h => Rep.mono s.keep s.lv d v h
  | .loc n, v, h => ⟨Nat.lt_of_lt_of_le h.1 s.len, by rw [s.ag n h.1]; exact h.2⟩
  | .scr ns, v, h => by
    obtain ⟨zl, a, e, q⟩ := h
    refine ⟨zl, a, e, ?_⟩
    rcases q with ⟨q1, q2, q3⟩ | q
    · cases z : H a with
      | none => exact absurd z q1
      | some o =>
        have z' := s.keep a o z q2
        exact .inl ⟨by rw [z']; simp, fun l => (s.lv a l).elim q2 q1, sqL_keep q3 (z'.trans z.symm)⟩
    · exact .inr q
  | .ex _, _, _ => trivial
theorem RepVs.mono (s : Step m st H m' st' H') : ∀ (w : List Val) (v : List V), RepVs K m st H w v → RepVs K m' st' H' w v
  | [], _, h => h
  | d :: r, _, h => by
    obtain ⟨v, q, e, h1, h2⟩ := h
    exact ⟨v, q, e, RepV.mono s d v h1, RepVs.mono s r q h2⟩
theorem RepVK.mono (s : Step m st H m' st' H') : ∀ (w : List (Key × Val)) (v : List (L2.Key × V)), RepVK K m st H w v → RepVK K m' st' H' w v
  | [], _, h => h
  | d :: r, _, h => by
    obtain ⟨v, q, e, h1, h2⟩ := h
    exact ⟨v, q, e, ⟨h1.1, RepV.mono s d.2 v.2 h1.2⟩, RepVK.mono s r q h2⟩
theorem RepF.mono (s : Step m st H m' st' H') : ∀ (w : List (String × Val)) (v : List (Str × V)), RepF K m st H w v → RepF K m' st' H' w v
  | [], _, h => h
  | d :: r, _, h => by
    obtain ⟨v, q, e, h1, h2⟩ := h
    exact ⟨v, q, e, ⟨h1.1, RepV.mono s d.2 v.2 h1.2⟩, RepF.mono s r q h2⟩
theorem ER.mono {ρ : Env} {σ : L2.St} (s : Step m st H m' st' H') (h : ER K m st H ρ σ) : ER K m' st' H' ρ σ :=
  ⟨h.1, fun i w e => let ⟨v, e1, r⟩ := h.2 i w e; ⟨v, e1, RepV.mono s w v r⟩⟩
end

/-- how an exception's object is told: its class, its own dict -/
abbrev XRel := Exc → Value → Option Addr → Hp → Prop
/-- a result, what may be said of it -/
def PR {α : Type} (K : PySem.W.Frag) (CA : Tags) (XR : XRel) (W : WX) (σ : L2.St) (r : R α) (m : Mp) (st : Store) (H : Hp) (ok : α → Mp → Store → Hp → Prop) : Prop := match r with
  | .ok a st' => ∀ m' H', SR K CA m' st' H' → Step m st H m' st' H' → ok a m' st' H'
  | .exc x st' => ∀ m' H' cls d, SR K CA m' st' H' → Step m st H m' st' H' → XR x cls d H' → W cls d σ H'
  | .bad => False
section
variable {α β : Type} {K : PySem.W.Frag} {CA : Tags} {XR : XRel} {W : WX} {σ : L2.St} {r : R α} {m m1 : Mp} {st st1 : Store} {H H1 : Hp} {ok ok' : α → Mp → Store → Hp → Prop}
theorem PR.step (h : PR K CA XR W σ r m st H ok) (s : Step m st H m1 st1 H1) : PR K CA XR W σ r m1 st1 H1 ok := by
  cases r with
  | ok a s' => exact fun m' H' S T => h m' H' S (s.trans T)
  | exc x s' => exact fun m' H' c d S T => h m' H' c d S (s.trans T)
  | bad => exact h
theorem PR.bind_of {k : α → M β} {ok : β → Mp → Store → Hp → Prop} (h : PR K CA XR W σ (r.bind k) m st H ok) : PR K CA XR W σ r m st H fun a m1 st1 H1 => PR K CA XR W σ (k a st1) m1 st1 H1 ok := by
  cases r with
  | ok a s' => exact fun m' H' S T => PR.step h T
  | exc x s' => exact h
  | bad => exact h
theorem PR.mono (h : PR K CA XR W σ r m st H ok) (k : ∀ a m' st' H', SR K CA m' st' H' → Step m st H m' st' H' → ok a m' st' H' → ok' a m' st' H') : PR K CA XR W σ r m st H ok' := by
  cases r with
  | ok a s' => exact fun m' H' S T => k a m' s' H' S T (h m' H' S T)
  | exc x s' => exact h
  | bad => exact h
/-- a plain result here -/
theorem PR.here {a : α} (S : SR K CA m st H) (h : PR K CA XR W σ (.ok a st) m st H ok) : ok a m st H := h m H S Step.refl
end
end Fl
set_option Elab.async false
set_option linter.all false
set_option maxRecDepth 100000
set_option maxHeartbeats 2000000
/-! Fl over the layer: contexts, expressions. -/
namespace Fl
open PySem PySem.Spec L2

/-- room for k calls, one in another; no repr under way -/
structure Room1 (k : Nat) (A : Around) : Prop where
  hd : A.handled = none
  dp : A.depth + k + 8 < recursionLimit
  un : A.units + 14 * k + 400 < cLine
  gd : A.guards = some []
theorem Room1.mono {j k : Nat} {A : Around} (r : Room1 k A) (h : j ≤ k) : Room1 j A :=
  ⟨r.hd, by have := r.dp; omega, by have := r.un; omega, r.gd⟩
theorem Room1.u64 {k : Nat} {A : Around} (r : Room1 k A) : A.units + 64 < cLine := by have := r.un; omega
theorem Room1.u65 {k : Nat} {A : Around} (r : Room1 k A) : A.units + 65 < cLine := by have := r.un; omega
theorem Room1.u1 {k : Nat} {A : Around} (r : Room1 k A) : A.units + 1 < cLine := by have := r.un; omega
theorem Room1.u0 {k : Nat} {A : Around} (r : Room1 k A) : A.units < cLine := by have := r.un; omega
theorem Room1.deeper {k : Nat} {A : Around} (r : Room1 (k + 1) A) (env : L2.Cx → PySem.Env := fun X => X.env) (e : PySem.Env) : Room1 k (A.deeper e) :=
  ⟨r.hd, by have := r.dp; show A.depth + 1 + k + 8 < _; omega, by have := r.un; show A.units + 3 + 14 * k + 400 < _; omega, r.gd⟩

/-- what is fixed through a law's text -/
structure Tab where
  /-- defs: name, id, number of parameters -/
  fns : List (Str × Nat × Nat)
  /-- classes: name, tag, its __init__ as a mirror, number of parameters with self -/
  cls : List (Str × String × (List Val → M Val) × Nat)
  /-- methods: tag, name, id, number of parameters with self -/
  mts : List (String × Str × Nat × Nat)
  consts : List (Str × T)
  /-- exception classes made of a text: name, tag -/
  excs : List (Str × String)
  ats : List (Str × String)
  free : List Str
  /-- names of classes that isinstance asks of exceptions, that except clauses name; the tags -/
  exIs : List (Str × String)
  exMs : List (Str × String)

def spOf (K : PySem.W.Frag) (CA : Tags) (XR : XRel) (f : List Val → M Val) (n : Nat) : Sp := fun vs H Q E => vs.length = n ∧ ∃ m st as, SR K CA m st H ∧ RepVs K m st H as vs ∧
  PR K CA XR (fun c d _ H' => E c d H') [] (f as st) m st H fun a m' st' H' => ∀ v, RepV K m' st' H' a v → Q v H'

section
variable (P : Program) (w : World) (K : PySem.W.Frag) (mg : Str → Option Value) (base : Heap)
/-- a def's promise, its room counted by calls -/
structure FnOk1 (k : Nat) (f : Addr) (fd : FuncData) (ps : List Str) (sp : Sp) : Prop where
  len : ∀ vs H Q E, sp vs H Q E → vs.length = ps.length
  run : ∀ (A : Around) (outer : List PySem.Env) (s : Shared) (H : Hp) (args : Args) (us : List Value) (vs : List V) (Q : VK) (E : XK),
    Room1 k A → Env0 P w K mg base A outer s H → BindsTo s fd args (ps.zip us) → Vals vs us → sp vs H Q E →
    codeAny (model P w) A (.call (.ref f) args) (CR (CX P w) outer P w H s Q E) s
end
/-- the text's own objects -/
structure GlobOk (T : Tab) (G : FEnv) (CA : Tags) (XR : XRel) (P : Program) (w : World) (K : PySem.W.Frag) (mg : Str → Option Value) (base : Heap) (k : Nat) : Prop where
  fns : ∀ x i n, (x, i, n) ∈ T.fns → ∃ f fd ps, mg x = some (.ref f) ∧ PySem.W.keepIn K (.ref f) = true ∧ Binds K fd ps [] ∧ FnOk1 P w K mg base k f fd ps (spOf K CA XR (G i) n)
  cls : ∀ x t f n, (x, t, f, n) ∈ T.cls → ∃ C fI fd ps, CA t C ∧ mg x = some (.ref C) ∧ Cls K C ∧ Mk K C fI ∧ Binds K fd ps [] ∧ FnOk1 P w K mg base 1 fI fd ps (spOf K CA XR f n)
  mts : ∀ t x i n, (t, x, i, n) ∈ T.mts → ∃ C f fd ps, CA t C ∧ Cls K C ∧ Meth K C x f ∧ Binds K fd ps [] ∧ FnOk1 P w K mg base k f fd ps (spOf K CA XR (G i) n)
  tag : ∀ t C C', CA t C → CA t C' → C = C'
  ats : ∀ x s t C, (x, s) ∈ T.ats → CA t C → x = Str.ofString s ∧ Cls K C ∧ NoAttr K C x
  consts : ∀ x d, (x, d) ∈ T.consts → ∃ u v, mg x = some u ∧ RelV v u ∧ ∀ (H : Hp) lv, Rep K H lv d v
  excs : ∀ x t, (x, t) ∈ T.excs → ∃ C bmB newId initId B, mg x = some (.ref C) ∧ ∃ (F : ExcBaseFacts B newId initId bmB), PySem.W.excIn K C bmB newId = true ∧ PySem.W.keepIn K (.ref C) = true ∧
    PySem.W.subIn K (.ref C) (.type "BaseException") = some true ∧ PySem.W.typeIn K (.ref C) = some (.type "type") ∧ ∀ H, XR ⟨t, none⟩ (.ref C) none H
  free : ∀ x ∈ T.free, mg x = none
  exIs : ∀ x t, (x, t) ∈ T.exIs → ∃ (u : V) (uv : Value), (mg x = some uv ∨ (mg x = none ∧ bootBuiltins x = some uv)) ∧ RelV u uv ∧ (∀ w, RelV u w → w = uv) ∧
    ∀ y c d H, XR y c d H → d = none ∧ ∃ C, c = .ref C ∧ ExcC K C ∧ PySem.W.kitOne K (.ref C) uv = some (excSub y.cls t)
  exMs : ∀ x t, (x, t) ∈ T.exMs → ∃ uv : Value, (mg x = some uv ∨ (mg x = none ∧ bootBuiltins x = some uv)) ∧ ∀ y c d H, XR y c d H → PySem.W.exmOne K c uv = some (excSub y.cls t)

/-- where a piece of syntax stands: its names, its scope, what it may store -/
structure Cw (tb : Tab) (G : FEnv) (CA : Tags) (XR : XRel) (k : Nat) (N : List Str) (sc : Scope) (own : Str → Bool) (X : Cx) (W : WX) : Prop where
  nm : X.N = N
  nd : N.Nodup
  sc : X.env.scope = sc
  own : X.fn = own
  un : X.A.units + 400 < cLine
  glob : GlobOk tb G CA XR X.prog X.w X.K X.mg X.base k
theorem Cw.u64 {tb : Tab} {G : FEnv} {CA : Tags} {XR : XRel} {k : Nat} {N : List Str} {sc : Scope} {own : Str → Bool} {X : Cx} {W : WX} (C : Cw tb G CA XR k N sc own X W) : X.A.units + 64 < cLine := by have := C.un; omega
theorem Cw.u65 {tb : Tab} {G : FEnv} {CA : Tags} {XR : XRel} {k : Nat} {N : List Str} {sc : Scope} {own : Str → Bool} {X : Cx} {W : WX} (C : Cw tb G CA XR k N sc own X W) : X.A.units + 65 < cLine := by have := C.un; omega
theorem Cw.u1 {tb : Tab} {G : FEnv} {CA : Tags} {XR : XRel} {k : Nat} {N : List Str} {sc : Scope} {own : Str → Bool} {X : Cx} {W : WX} (C : Cw tb G CA XR k N sc own X W) : X.A.units + 1 < cLine := by have := C.un; omega
/-- an exception in the air of X, over a frame's own address -/
def XEL (X : Cx) (F : Addr) (W : WX) (u : Value) (s' : Shared) : Prop :=
  ∃ (a : Addr) (B : Heap) (sI : Shared) (pins : List (Addr × Obj)) (σ : L2.St) (H : Hp) (cls : Value) (d : Option Addr), (u = .ref a ∧ W cls d σ H) ∧ Inv X pins σ H sI ∧ (Sky B X.stack a (Zc cls d) F s'.heap ∧ H a = none) ∧
    (∀ b o, sI.heap.get? b = some o → b ∉ frs X.stack → B.get? b = some o) ∧ sI.heap.UpToSlots s'.heap ∧ s'.os = sI.os ∧ PyProof.Rows.AllBare s'.gens
/-- .. where calls may be made, exceptions let out -/
structure Cq (tb : Tab) (G : FEnv) (CA : Tags) (XR : XRel) (k : Nat) (N : List Str) (sc : Scope) (own : Str → Bool) (X : Cx) (W : WX) : Prop extends Cw tb G CA XR k N sc own X W where
  calm : X.calm = true
  takes : ∃ F, X.env.frame = some F ∧ (∃ e0 r, X.stack = e0 :: r ∧ e0.frame = some F) ∧ ∀ u s', XEL X F W u s' → X.xe u s'
  room : Room1 k X.A

/-! ### readings -/
def tM (K : PySem.W.Frag) (CA : Tags) (XR : XRel) (W : WX) (f : CE) : TE := fun σ H Q => ∃ m st ρ, SR K CA m st H ∧ ER K m st H ρ σ ∧
  PR K CA XR W σ (f ρ st) m st H fun a m' st' H' => ∀ v, RepV K m' st' H' a v → Q v H'
def tMT (K : PySem.W.Frag) (CA : Tags) (XR : XRel) (W : WX) (f : CT) : TT := fun σ H Q => ∃ m st ρ, SR K CA m st H ∧ ER K m st H ρ σ ∧
  PR K CA XR W σ (f ρ st) m st H fun b m' st' H' => Q b H'
def tMA (K : PySem.W.Frag) (CA : Tags) (XR : XRel) (W : WX) (f : Env → M (List Val)) : TA := fun σ H Q => ∃ m st ρ, SR K CA m st H ∧ ER K m st H ρ σ ∧
  PR K CA XR W σ (f ρ st) m st H fun a m' st' H' => ∀ vs, RepVs K m' st' H' a vs → Q vs H'
abbrev SE (CA : Tags) (XR : XRel) (X : Cx) (W : WX) (e : Expr) (f : CE) : Prop := PE X e (tM X.K CA XR W f)
abbrev STt (CA : Tags) (XR : XRel) (X : Cx) (W : WX) (e : Expr) (f : CT) : Prop := PT X e (tMT X.K CA XR W f)
abbrev SA (CA : Tags) (XR : XRel) (X : Cx) (W : WX) (es : List Expr) (f : Env → M (List Val)) : Prop := PA X es (tMA X.K CA XR W f)
theorem PE.weak {X : Cx} {e : Expr} {t t' : TE} (h : PE X e t) (k : ∀ σ H Q, t' σ H Q → t σ H Q) : PE X e t' := ⟨fun pins s σ H Q I q => h.run pins s σ H Q I (k σ H Q q)⟩
theorem PT.weak {X : Cx} {e : Expr} {t t' : TT} (h : PT X e t) (k : ∀ σ H Q, t' σ H Q → t σ H Q) : PT X e t' := ⟨fun pins s σ H Q I q => h.run pins s σ H Q I (k σ H Q q)⟩
theorem PA.weak {X : Cx} {e : List Expr} {t t' : TA} (h : PA X e t) (k : ∀ σ H Q, t' σ H Q → t σ H Q) : PA X e t' := ⟨fun pos pins s σ H Q I q => h.run pos pins s σ H Q I (k σ H Q q)⟩

section
variable {tb : Tab} {G : FEnv} {CA : Tags} {XR : XRel} {k : Nat} {N : List Str} {sc : Scope} {own : Str → Bool} {X : Cx} {W : WX}
variable {a b c e : Expr} {es : List Expr} {pos pos' : Pos} {f g h : CE}

theorem look_vis {sc : Scope} {x : Str} (h : (match sc.names.lookup x with
    | some .local => true
    | some .cell => true
    | some .free => true
    | _ => false) = true) : Vis sc x := by
  unfold Vis
  cases e : sc.names.lookup x with
  | none => rw [e] at h; cases h
  | some k => rw [e] at h; cases k <;> first | exact .inl rfl | exact .inr (.inl rfl) | exact .inr (.inr rfl) | cases h
def visB (sc : Scope) (x : Str) : Bool := (match sc.names.lookup x with
    | some .local => true
    | some .cell => true
    | some .free => true
    | _ => false) && !(x == ("__debug__" : Str)) && !(x == ("__classdict__" : Str))
def glbB (sc : Scope) (x : Str) : Bool := decide (sc.names.lookup x = some .globalImplicit) && !(x == ("__debug__" : Str)) && !(x == ("__name__" : Str))

theorem ER.get {K : PySem.W.Frag} {m : Mp} {st : Store} {H : Hp} {ρ : Env} {σ : L2.St} (E : ER K m st H ρ σ) {i : Nat} {w : Val} (e : ρ[i]? = some (some w)) : ∃ v, σ[i]? = some (some v) ∧ RepV K m st H w v := E.2 i w e

theorem se_var (C : Cw tb G CA XR k N sc own X W) (i : Nat) {x : Str} (hi : N[i]? = some x := by rfl) (hv : visB sc x = true := by rfl) : SE CA XR X W (.Name x pos) (eVar i) := by
  unfold visB at hv
  simp only [Bool.and_eq_true, Bool.not_eq_true'] at hv
  refine PE.weak (pe_var (i := i) (by rw [C.nm]; exact hi) (by rw [C.sc]; exact look_vis hv.1.1) hv.1.2 hv.2) fun σ H Q => ?_
  rintro ⟨m, st, ρ, S, E, q⟩
  unfold eVar at q
  cases e : ρ[i]? with
  | none => rw [e] at q; exact q.elim
  | some o =>
    rw [e] at q
    cases o with
    | none => exact q.elim
    | some w =>
      obtain ⟨v, e1, r⟩ := E.get e
      exact ⟨v, e1, PR.here S q v r⟩
theorem se_int {i : Int} {j : Nat} : SE CA XR X W (.Constant (.int i) j pos) (eC (.int i)) := PE.weak pe_int fun σ H Q ⟨m, st, ρ, S, E, q⟩ => PR.here S q (.int i) rfl
theorem se_bl {i : Bool} {j : Nat} : SE CA XR X W (.Constant (.bool i) j pos) (eC (.bl i)) := PE.weak pe_bl fun σ H Q ⟨m, st, ρ, S, E, q⟩ => PR.here S q (.bl i) rfl
theorem se_non {j : Nat} : SE CA XR X W (.Constant .none j pos) (eC .non) := PE.weak pe_non fun σ H Q ⟨m, st, ρ, S, E, q⟩ => PR.here S q .non rfl
theorem se_str {i : String} {j : Nat} : SE CA XR X W (.Constant (.str (Str.ofString i)) j pos) (eC (.str i)) := PE.weak pe_str fun σ H Q ⟨m, st, ρ, S, E, q⟩ => PR.here S q (.str i) rfl

/-! two values, one -/
theorem tM.bind {k' : Val → CE} {σ : L2.St} {H : Hp} {Q : VK} (h : tM X.K CA XR W (fun ρ => f ρ >>= fun x => k' x ρ) σ H Q) :
    ∃ m st ρ, SR X.K CA m st H ∧ ER X.K m st H ρ σ ∧ tM X.K CA XR W f σ H fun v H1 => ∃ x m1 st1, SR X.K CA m1 st1 H1 ∧ Step m st H m1 st1 H1 ∧ RepV X.K m1 st1 H1 x v ∧ ER X.K m1 st1 H1 ρ σ ∧
      PR X.K CA XR W σ (k' x ρ st1) m1 st1 H1 fun a m' st' H' => ∀ v, RepV X.K m' st' H' a v → Q v H' := by
  obtain ⟨m, st, ρ, S, E, q⟩ := h
  refine ⟨m, st, ρ, S, E, m, st, ρ, S, E, (PR.bind_of q).mono fun x m1 st1 H1 S1 T1 h1 v r => ⟨x, m1, st1, S1, T1, r, E.mono T1, h1⟩⟩
/-- a two-place operator by values -/
theorem two {k2 : Val → Val → M Val} {r : R2} {σ : L2.St} {H : Hp} {Q : VK} (hk : ∀ x y m st H v w Q, SR X.K CA m st H → RepV X.K m st H x v → RepV X.K m st H y w →
      PR X.K CA XR W σ (k2 x y st) m st H (fun a m' st' H' => ∀ u, RepV X.K m' st' H' a u → Q u H') → r v w H Q) (h : tM X.K CA XR W (e2 k2 f g) σ H Q) : tOp r (tM X.K CA XR W f) (tM X.K CA XR W g) σ H Q := by
  obtain ⟨m, st, ρ, S, E, q⟩ := h
  refine ⟨m, st, ρ, S, E, (PR.bind_of q).mono fun x m1 st1 H1 S1 T1 h1 v rv => ⟨m1, st1, ρ, S1, E.mono T1, (PR.bind_of h1).mono fun y m2 st2 H2 S2 T2 h2 w rw => ?_⟩⟩
  exact hk x y m2 st2 H2 v w Q S2 (RepV.mono T2 x v rv) rw h2
theorem se_bin {op : Operator} {k2 : Val → Val → M Val} {r : R2} (ho : OpR X (binaryOp op) r) (hk : ∀ σ x y m st H v w Q, SR X.K CA m st H → RepV X.K m st H x v → RepV X.K m st H y w →
      PR X.K CA XR W σ (k2 x y st) m st H (fun a m' st' H' => ∀ u, RepV X.K m' st' H' a u → Q u H') → r v w H Q) (ha : SE CA XR X W a f) (hb : SE CA XR X W b g) : SE CA XR X W (.BinOp a op b pos) (e2 k2 f g) :=
  PE.weak (pe_op ho ha hb) fun σ H Q q => two (hk σ) q

theorem se_sub (ha : SE CA XR X W a f) (hb : SE CA XR X W b g) : SE CA XR X W (.BinOp a .Sub b pos) (e2 subV f g) := by
  refine se_bin op_sub (fun σ x y m st H v w Q S rx ry q => ?_) ha hb
  unfold subV at q
  split at q
  · cases rx; cases ry
    exact ⟨_, _, rfl, rfl, PR.here S q _ rfl⟩
  · exact q.elim
theorem se_mod (ha : SE CA XR X W a f) (hb : SE CA XR X W b g) : SE CA XR X W (.BinOp a .Mod b pos) (e2 modV f g) := by
  refine se_bin op_modN (fun σ x y m st H v w Q S rx ry q => ?_) ha hb
  unfold modV at q
  split at q
  · cases rx; cases ry
    split at q
    · rename_i hj
      exact ⟨_, _, rfl, rfl, hj, PR.here S q _ rfl⟩
    · exact q.elim
  · exact q.elim
end
end Fl
set_option Elab.async false
set_option linter.all false
set_option maxRecDepth 100000
set_option maxHeartbeats 2000000
/-! Fl over the layer: new objects, cells written. -/
namespace Fl
open PySem PySem.Spec L2

theorem L_eq : sizeLine = L := by rw [sizeLine_eq]
theorem lineOf {n : Nat} (h : n ≤ L) : n ≤ sizeLine := by rw [L_eq]; exact h
theorem lineLt {n : Nat} (h : n < L) : n < sizeLine := by rw [L_eq]; exact h

theorem cell_app {st : Store} {c : Option Cell} {n : Nat} : (st ++ [c]).cell n = if n = st.length then c else st.cell n := by
  unfold Store.cell
  by_cases h : n = st.length
  · subst h; simp
  · rw [if_neg h]
    by_cases h2 : n < st.length
    · rw [List.getElem?_append_left h2]
    · rw [List.getElem?_eq_none (by simp; omega), List.getElem?_eq_none (by omega)]
theorem cell_set {st : Store} {c : Option Cell} {n k : Nat} (h : n < st.length) : Store.cell (st.set n c) k = if k = n then c else st.cell k := by
  unfold Store.cell
  by_cases e : k = n
  · subst e; rw [List.getElem?_set_self h, if_pos rfl]; rfl
  · rw [List.getElem?_set_ne (Ne.symm e), if_neg e]
theorem cell_lt {st : Store} {n : Nat} {c : Cell} (h : st.cell n = some c) : n < st.length := by
  unfold Store.cell at h
  by_cases e : n < st.length
  · exact e
  · rw [List.getElem?_eq_none (by omega)] at h; cases h

section
variable {K : PySem.W.Frag} {CA : Tags} {m : Mp} {st : Store} {H : Hp} {p : Addr} {o : HO}
theorem CellOk.mono {m' : Mp} {st' : Store} {H' : Hp} {a : Addr} (s : Step m st H m' st' H') (e : H' a = H a) : ∀ c, CellOk K CA m st H a c → CellOk K CA m' st' H' a c
  | .lst _, ⟨us, h, z, r⟩ => ⟨us, e.trans h, z, RepVs.mono s _ _ r⟩
  | .tup _, ⟨us, h, z, r⟩ => ⟨us, e.trans h, z, RepVs.mono s _ _ r⟩
  | .dct _, ⟨us, h, z, r⟩ => ⟨us, e.trans h, z, RepVK.mono s _ _ r⟩
  | .ins _ _, ⟨C, dx, us, ca, h, r⟩ => ⟨C, dx, us, ca, e.trans h, RepF.mono s _ _ r⟩
  | .kd _, h => h.elim
theorem CellOk.there {a : Addr} : ∀ {c}, CellOk K CA m st H a c → ∃ o, H a = some o
  | .lst _, ⟨us, h, _⟩ => ⟨_, h⟩
  | .tup _, ⟨us, h, _⟩ => ⟨_, h⟩
  | .dct _, ⟨us, h, _⟩ => ⟨_, h⟩
  | .ins _ _, ⟨C, dx, us, ca, h, r⟩ => ⟨_, h⟩
  | .kd _, h => h.elim
theorem SR.there (S : SR K CA m st H) {a : Addr} (h : live m st a) : ∃ o, H a = some o := by
  obtain ⟨n, c, e, rfl⟩ := h
  exact (S.cells n c e).there
/-- a new object that is no cell -/
theorem SR.fresh (S : SR K CA m st H) (hp : H p = none) : Step m st H m st (upd H p o) ∧ SR K CA m st (upd H p o) := by
  have T : Step m st H m st (upd H p o) := ⟨fun a u h _ => by rw [upd_ne (ne_of_none h hp)]; exact h, fun _ h => .inl h, fun _ _ => rfl, Nat.le_refl _⟩
  refine ⟨T, fun n c e => ?_, S.inj⟩
  have q := S.cells n c e
  obtain ⟨u, hu⟩ := q.there
  exact q.mono T (upd_ne (ne_of_none hu hp))
theorem SR.not_live (S : SR K CA m st H) (hp : H p = none) : ¬ live m st p := fun z => by
  obtain ⟨o, e⟩ := S.there z
  rw [hp] at e; cases e
/-- a new cell -/
def mNew (m : Mp) (st : Store) (p : Addr) : Mp := fun n => if n = st.length then p else m n
theorem mNew_same : mNew m st p st.length = p := if_pos rfl
theorem SR.cellStep (S : SR K CA m st H) (hp : H p = none) (c : Cell) : Step m st H (mNew m st p) (st ++ [some c]) (upd H p o) := by
  refine ⟨fun a u h _ => by rw [upd_ne (ne_of_none h hp)]; exact h, fun a h => ?_, fun n h => if_neg (Nat.ne_of_lt h), by simp⟩
  obtain ⟨n, d, e, rfl⟩ := h
  rw [cell_app] at e
  by_cases hn : n = st.length
  · subst hn; rw [mNew_same]; exact .inr hp
  · rw [if_neg hn] at e
    exact .inl ⟨n, d, e, (if_neg hn).symm⟩
theorem SR.newCell (S : SR K CA m st H) (hp : H p = none) {c : Cell} (h : CellOk K CA (mNew m st p) (st ++ [some c]) (upd H p o) p c) : SR K CA (mNew m st p) (st ++ [some c]) (upd H p o) := by
  have T := S.cellStep (o := o) hp c
  refine ⟨fun n d e => ?_, fun n n' d d' e e' q => ?_⟩
  · rw [cell_app] at e
    by_cases hn : n = st.length
    · subst hn; rw [if_pos rfl] at e; cases e; rw [mNew_same]; exact h
    · rw [if_neg hn] at e
      have z := S.cells n d e
      obtain ⟨u, hu⟩ := z.there
      have en : mNew m st p n = m n := if_neg hn
      rw [en]
      exact z.mono T (upd_ne (ne_of_none hu hp))
  · have key : ∀ {i : Nat} {d : Cell}, (st ++ [some c]).cell i = some d → i ≠ st.length → mNew m st p i ≠ p := fun {i d} e hi z => by
      rw [cell_app, if_neg hi] at e
      obtain ⟨u, hu⟩ := (S.cells i d e).there
      have : mNew m st p i = m i := if_neg hi
      rw [this] at z
      rw [z, hp] at hu; cases hu
    by_cases hn : n = st.length
    · by_cases hn' : n' = st.length
      · rw [hn, hn']
      · exact absurd (by rw [← q, hn, mNew_same]) (key e' hn')
    · by_cases hn' : n' = st.length
      · exact absurd (by rw [q, hn', mNew_same]) (key e hn)
      · rw [cell_app, if_neg hn] at e
        rw [cell_app, if_neg hn'] at e'
        have e1 : mNew m st p n = m n := if_neg hn
        have e2 : mNew m st p n' = m n' := if_neg hn'
        exact S.inj n n' d d' e e' (by rw [← e1, ← e2]; exact q)
/-- a cell is written -/
theorem SR.setStep (S : SR K CA m st H) {n : Nat} {c c' : Cell} (e : st.cell n = some c) : Step m st H m (st.set n (some c')) (upd H (m n) o) := by
  refine ⟨fun a u h l => ?_, fun a h => ?_, fun _ _ => rfl, by simp⟩
  · rw [upd_ne fun z => l ⟨n, c, e, z.symm⟩]; exact h
  · obtain ⟨k, d, q, rfl⟩ := h
    rw [cell_set (cell_lt e)] at q
    by_cases hk : k = n
    · subst hk; exact .inl ⟨k, c, e, rfl⟩
    · rw [if_neg hk] at q; exact .inl ⟨k, d, q, rfl⟩
theorem SR.setCell (S : SR K CA m st H) {n : Nat} {c c' : Cell} (e : st.cell n = some c) (h : CellOk K CA m (st.set n (some c')) (upd H (m n) o) (m n) c') : SR K CA m (st.set n (some c')) (upd H (m n) o) := by
  have T := S.setStep (o := o) (c' := c') e
  refine ⟨fun k d q => ?_, fun k k' d d' q q' z => ?_⟩
  · rw [cell_set (cell_lt e)] at q
    by_cases hk : k = n
    · subst hk; rw [if_pos rfl] at q; cases q; exact h
    · rw [if_neg hk] at q
      refine (S.cells k d q).mono T (upd_ne fun z => hk (S.inj k n d c q e z))
  · have key : ∀ {i : Nat} {d : Cell}, Store.cell (st.set n (some c')) i = some d → ∃ d', st.cell i = some d' := fun {i d} q => by
      rw [cell_set (cell_lt e)] at q
      by_cases hi : i = n
      · subst hi; exact ⟨c, e⟩
      · rw [if_neg hi] at q; exact ⟨d, q⟩
    obtain ⟨_, q1⟩ := key q
    obtain ⟨_, q2⟩ := key q'
    exact S.inj k k' _ _ q1 q2 z
/-- a cell is forgotten -/
theorem cell_none {n k : Nat} : Store.cell (st.set n none) k = if k = n then none else st.cell k := by
  by_cases h : n < st.length
  · exact cell_set h
  · rw [List.set_eq_of_length_le (by omega)]
    by_cases e : k = n
    · subst e; unfold Store.cell; rw [List.getElem?_eq_none (by omega), if_pos rfl]; rfl
    · rw [if_neg e]
theorem SR.drop (S : SR K CA m st H) (n : Nat) : Step m st H m (st.set n none) H ∧ SR K CA m (st.set n none) H := by
  have sub : ∀ {k d}, Store.cell (st.set n none) k = some d → st.cell k = some d := fun {k d} q => by
    rw [cell_none] at q
    by_cases hk : k = n
    · rw [if_pos hk] at q; cases q
    · rw [if_neg hk] at q; exact q
  have T : Step m st H m (st.set n none) H := ⟨fun _ _ h _ => h, fun a ⟨k, d, q, e⟩ => .inl ⟨k, d, sub q, e⟩, fun _ _ => rfl, by simp⟩
  exact ⟨T, fun k d q => (S.cells k d (sub q)).mono T rfl, fun k k' d d' q q' => S.inj k k' d d' (sub q) (sub q')⟩

/-! ### lists of trees -/
theorem Reps.length {lv : Addr → Prop} : ∀ {ts : List T} {vs : List V}, Reps K H lv ts vs → ts.length = vs.length
  | [], _, h => by rw [show _ = _ from h]; rfl
  | _ :: r, _, ⟨v, q, e, _, h⟩ => by rw [e, List.length_cons, List.length_cons, Reps.length h]
theorem RepVs.length : ∀ {ts : List Val} {vs : List V}, RepVs K m st H ts vs → ts.length = vs.length
  | [], _, h => by rw [show _ = _ from h]; rfl
  | _ :: r, _, ⟨v, q, e, _, h⟩ => by rw [e, List.length_cons, List.length_cons, RepVs.length h]
theorem RepVK.length : ∀ {ts : List (Key × Val)} {vs : List (L2.Key × V)}, RepVK K m st H ts vs → ts.length = vs.length
  | [], _, h => by rw [show _ = _ from h]; rfl
  | _ :: r, _, ⟨v, q, e, _, h⟩ => by rw [e, List.length_cons, List.length_cons, RepVK.length h]
theorem RepVs.of_trees : ∀ {ws : List Val} {ts : List T} {vs : List V}, trees ws = some ts → RepVs K m st H ws vs → Reps K H (live m st) ts vs
  | [], ts, vs, h, r => by simp only [trees, Option.some.injEq] at h; subst h; exact r
  | .t d :: q, ts, vs, h, ⟨v, vr, e, r1, r2⟩ => by
    simp only [trees] at h
    cases e2 : trees q with
    | none => rw [e2] at h; cases h
    | some tq =>
      rw [e2] at h
      simp only [Option.some.injEq] at h
      subst h
      exact ⟨v, vr, e, r1, RepVs.of_trees e2 r2⟩
  | .loc n :: q, ts, vs, h, r => by simp [trees] at h
  | .scr n :: q, ts, vs, h, r => by simp [trees] at h
  | .ex n :: q, ts, vs, h, r => by simp [trees] at h
theorem trees_eq : ∀ {ws : List Val} {ts : List T}, trees ws = some ts → ws = ts.map .t
  | [], ts, h => by simp only [trees, Option.some.injEq] at h; subst h; rfl
  | .t d :: q, ts, h => by
    simp only [trees] at h
    cases e2 : trees q with
    | none => rw [e2] at h; cases h
    | some tq =>
      rw [e2] at h
      simp only [Option.some.injEq] at h
      subst h
      rw [trees_eq e2]; rfl
  | .loc n :: q, ts, h => by simp [trees] at h
  | .scr n :: q, ts, h => by simp [trees] at h
  | .ex n :: q, ts, h => by simp [trees] at h
theorem trees_length {ws : List Val} {ts : List T} (h : trees ws = some ts) : ts.length = ws.length := by rw [trees_eq h, List.length_map]
theorem RepVs.of_reps : ∀ {ts : List T} {vs : List V}, Reps K H (live m st) ts vs → RepVs K m st H (ts.map .t) vs
  | [], _, h => h
  | d :: r, _, ⟨v, q, e, h1, h2⟩ => ⟨v, q, e, h1, RepVs.of_reps h2⟩
theorem RepVs.get : ∀ {ws : List Val} {vs : List V} {i : Nat} {w : Val}, RepVs K m st H ws vs → ws[i]? = some w → ∃ v, vs[i]? = some v ∧ RepV K m st H w v
  | [], _, _, _, _, h => by simp at h
  | w :: q, _, 0, _, ⟨v, vr, e, r1, _⟩, h => by simp only [List.getElem?_cons_zero, Option.some.injEq] at h; subst h; exact ⟨v, by rw [e]; rfl, r1⟩
  | w :: q, _, i + 1, _, ⟨v, vr, e, _, r2⟩, h => by
    obtain ⟨u, h1, h2⟩ := RepVs.get (i := i) r2 (by simpa using h)
    exact ⟨u, by rw [e]; simpa using h1, h2⟩
theorem RepVs.get' : ∀ {ws : List Val} {vs : List V} {i : Nat} {v : V}, RepVs K m st H ws vs → vs[i]? = some v → ∃ w, ws[i]? = some w ∧ RepV K m st H w v
  | [], _, _, _, h, e => by rw [show _ = _ from h] at e; simp at e
  | w :: q, _, 0, _, ⟨v, vr, e, r1, _⟩, h => by rw [e] at h; simp only [List.getElem?_cons_zero, Option.some.injEq] at h; subst h; exact ⟨w, rfl, r1⟩
  | w :: q, _, i + 1, _, ⟨v, vr, e, _, r2⟩, h => by
    rw [e] at h
    obtain ⟨u, h1, h2⟩ := RepVs.get' (i := i) r2 (by simpa using h)
    exact ⟨u, by simpa using h1, h2⟩
theorem Reps.get {lv : Addr → Prop} : ∀ {ws : List T} {vs : List V} {i : Nat} {w : T}, Reps K H lv ws vs → ws[i]? = some w → ∃ v, vs[i]? = some v ∧ Rep K H lv w v
  | [], _, _, _, _, h => by simp at h
  | w :: q, _, 0, _, ⟨v, vr, e, r1, _⟩, h => by simp only [List.getElem?_cons_zero, Option.some.injEq] at h; subst h; exact ⟨v, by rw [e]; rfl, r1⟩
  | w :: q, _, i + 1, _, ⟨v, vr, e, _, r2⟩, h => by
    obtain ⟨u, h1, h2⟩ := Reps.get (i := i) r2 (by simpa using h)
    exact ⟨u, by rw [e]; simpa using h1, h2⟩
theorem RepVs.append : ∀ {ws us : List Val} {vs xs : List V}, RepVs K m st H ws vs → RepVs K m st H us xs → RepVs K m st H (ws ++ us) (vs ++ xs)
  | [], us, vs, xs, h, r => by rw [show vs = [] from h]; exact r
  | w :: q, us, _, xs, ⟨v, vr, e, r1, r2⟩, r => ⟨v, vr ++ xs, by rw [e]; rfl, r1, RepVs.append r2 r⟩
theorem RepVs.drop : ∀ {ws : List Val} {vs : List V} (n : Nat), RepVs K m st H ws vs → RepVs K m st H (ws.drop n) (vs.drop n)
  | _, _, 0, h => h
  | [], _, n + 1, h => by rw [show _ = _ from h]; exact rfl
  | w :: q, _, n + 1, ⟨v, vr, e, r1, r2⟩ => by rw [e]; exact RepVs.drop n r2
theorem RepVs.take : ∀ {ws : List Val} {vs : List V} (n : Nat), RepVs K m st H ws vs → RepVs K m st H (ws.take n) (vs.take n)
  | _, _, 0, h => rfl
  | [], _, n + 1, h => by rw [show _ = _ from h]; exact rfl
  | w :: q, _, n + 1, ⟨v, vr, e, r1, r2⟩ => by rw [e]; exact ⟨v, vr.take n, rfl, r1, RepVs.take n r2⟩
theorem RepVs.set {x : Val} {y : V} (r : RepV K m st H x y) : ∀ {ws : List Val} {vs : List V} (n : Nat), RepVs K m st H ws vs → RepVs K m st H (ws.set n x) (vs.set n y)
  | [], _, n, h => by rw [show _ = _ from h]; exact rfl
  | w :: q, _, 0, ⟨v, vr, e, r1, r2⟩ => by rw [e]; exact ⟨y, vr, rfl, r, r2⟩
  | w :: q, _, n + 1, ⟨v, vr, e, r1, r2⟩ => by rw [e]; exact ⟨v, vr.set n y, rfl, r1, RepVs.set r n r2⟩
theorem RepVs.eraseIdx : ∀ {ws : List Val} {vs : List V} (n : Nat), RepVs K m st H ws vs → RepVs K m st H (ws.eraseIdx n) (vs.eraseIdx n)
  | [], _, n, h => by rw [show _ = _ from h]; exact rfl
  | w :: q, _, 0, ⟨v, vr, e, r1, r2⟩ => by rw [e]; exact r2
  | w :: q, _, n + 1, ⟨v, vr, e, r1, r2⟩ => by rw [e]; exact ⟨v, vr.eraseIdx n, rfl, r1, RepVs.eraseIdx n r2⟩
theorem RepVs.toInts {ns : List Int} : ∀ {ws : List Val} {ns : List Int} {vs : List V}, intsOf ws = some ns → RepVs K m st H ws vs → vs = ns.map V.int
  | [], ns, vs, h, r => by simp only [intsOf, Option.some.injEq] at h; subst h; exact r
  | .t (.int d) :: q, ns, vs, h, ⟨v, vr, e, r1, r2⟩ => by
    simp only [intsOf] at h
    cases e2 : Fl.intsOf q with
    | none => rw [e2] at h; cases h
    | some tq =>
      rw [e2] at h
      simp only [Option.some.injEq] at h
      subst h
      rw [e, List.map_cons, RepVs.toInts (ns := []) e2 r2, show v = .int d from r1]
  | .t .non :: q, ns, vs, h, r => by simp [intsOf] at h
  | .t (.bl _) :: q, ns, vs, h, r => by simp [intsOf] at h
  | .t (.str _) :: q, ns, vs, h, r => by simp [intsOf] at h
  | .t (.tup _) :: q, ns, vs, h, r => by simp [intsOf] at h
  | .t (.lst _) :: q, ns, vs, h, r => by simp [intsOf] at h
  | .t (.dct _) :: q, ns, vs, h, r => by simp [intsOf] at h
  | .t (.rp _) :: q, ns, vs, h, r => by simp [intsOf] at h
  | .loc n :: q, ns, vs, h, r => by simp [intsOf] at h
  | .scr n :: q, ns, vs, h, r => by simp [intsOf] at h
  | .ex n :: q, ns, vs, h, r => by simp [intsOf] at h
end

/-! ### what a new list gives -/
section
variable {K : PySem.W.Frag} {CA : Tags} {XR : XRel} {W : WX} {σ : L2.St} {m : Mp} {st : Store} {H : Hp} {Q : VK} {cell : Bool} {ws : List Val} {vs : List V}
theorem newL_ok (S : SR K CA m st H) (r : RepVs K m st H ws vs) (z : ws.length ≤ L) (q : PR K CA XR W σ (newL cell ws st) m st H fun a m' st' H' => ∀ v, RepV K m' st' H' a v → Q v H') :
    ∀ p, H p = none → Q (.ref p) (upd H p (.lst vs)) := fun p hp => by
  cases cell with
  | true =>
    have T := S.cellStep (o := .lst vs) hp (.lst ws)
    refine q (mNew m st p) _ (S.newCell hp ⟨vs, upd_same, z, RepVs.mono T _ _ r⟩) T (.ref p) ⟨by simp, ?_⟩
    rw [mNew_same]
  | false =>
    unfold newL at q
    dsimp only at q
    cases e : trees ws with
    | none => rw [e] at q; exact q.elim
    | some ts =>
      rw [e] at q
      obtain ⟨T, S'⟩ := S.fresh (o := .lst vs) hp
      refine q m _ S' T (.ref p) ⟨p, vs, rfl, ⟨upd_same, S.not_live hp⟩, by rw [trees_length e]; exact z, ?_⟩
      exact RepVs.of_trees (m := m) (st := st) e (RepVs.mono T _ _ r)
theorem newT_ok (S : SR K CA m st H) (r : RepVs K m st H ws vs) (z : ws.length ≤ L) (q : PR K CA XR W σ (newT cell ws st) m st H fun a m' st' H' => ∀ v, RepV K m' st' H' a v → Q v H') :
    ∀ p, H p = none → Q (.ref p) (upd H p (.tup vs)) := fun p hp => by
  cases cell with
  | true =>
    have T := S.cellStep (o := .tup vs) hp (.tup ws)
    refine q (mNew m st p) _ (S.newCell hp ⟨vs, upd_same, z, RepVs.mono T _ _ r⟩) T (.ref p) ⟨by simp, ?_⟩
    rw [mNew_same]
  | false =>
    unfold newT at q
    dsimp only at q
    cases e : trees ws with
    | none => rw [e] at q; exact q.elim
    | some ts =>
      rw [e] at q
      obtain ⟨T, S'⟩ := S.fresh (o := .tup vs) hp
      refine q m _ S' T (.ref p) ⟨p, vs, rfl, .inl ⟨upd_same, S.not_live hp⟩, by rw [trees_length e]; exact z, ?_⟩
      exact RepVs.of_trees (m := m) (st := st) e (RepVs.mono T _ _ r)
end
end Fl
set_option Elab.async false
set_option linter.all false
set_option maxRecDepth 100000
set_option maxHeartbeats 2000000
/-! Fl over the layer: expressions. -/
namespace Fl
open PySem PySem.Spec L2

theorem ofStr_app (a b : String) : Str.ofString a ++ Str.ofString b = Str.ofString (a ++ b) := by
  show (⟨(Str.ofString a).cps ++ (Str.ofString b).cps⟩ : Str) = _
  rw [Str.ofString_eq_toList, Str.ofString_eq_toList, Str.ofString_eq_toList]
  simp
theorem ofStr_len (a : String) : (Str.ofString a).length = a.length := by
  show (Str.ofString a).cps.size = _
  rw [Str.ofString_eq_toList]
  simp only [List.size_toArray, List.length_map]
  exact String.length_toList
theorem ofStr_ok (a : String) : PyData.strOk (Str.ofString a) = true := by
  rw [Str.ofString_eq_toList]
  unfold PyData.strOk
  simp only [Array.all_eq_true', List.mem_toArray, List.mem_map, decide_eq_true_eq]
  rintro n ⟨c, _, rfl⟩
  have h := c.valid
  simp only [UInt32.isValidChar, Nat.isValidChar] at h
  show c.val.toNat < _
  omega

/-! ### data of the library -/
mutual
theorem depth_le : ∀ (n : Nat) (d : T), T.plain n d = true → (toPy d).depth ≤ n
  | n, .non, _ => by simp [toPy, PyData.depth]
  | n, .bl _, _ => by simp [toPy, PyData.depth]
  | n, .int _, _ => by simp [toPy, PyData.depth]
  | n, .str _, _ => by simp [toPy, PyData.depth]
  | 0, .tup a, h => by simp [T.plain] at h
  | 0, .lst a, h => by simp [T.plain] at h
  | n + 1, .tup a, h => by
    simp only [T.plain] at h
    simp only [toPy, PyData.depth]
    have := depths_le n a h
    omega
  | n + 1, .lst a, h => by
    simp only [T.plain] at h
    simp only [toPy, PyData.depth]
    have := depths_le n a h
    omega
  | n, .dct _, h => by cases n <;> simp [T.plain] at h
  | n, .rp _, h => by cases n <;> simp [T.plain] at h
theorem depths_le : ∀ (n : Nat) (ds : List T), ds.all (T.plain n) = true → PyData.depthAll (toPys ds) ≤ n
  | n, [], _ => by simp [toPys, PyData.depthAll]
  | n, d :: r, h => by
    simp only [List.all_cons, Bool.and_eq_true] at h
    simp only [toPys, PyData.depthAll]
    have h1 := depth_le n d h.1
    have h2 := depths_le n r h.2
    omega
end
mutual
theorem canLay_plain : ∀ (n : Nat) (d : T), T.plain n d = true → (toPy d).canLay0 = true
  | n, .non, _ => by simp [toPy, PyData.canLay0]
  | n, .bl _, _ => by simp [toPy, PyData.canLay0]
  | n, .int _, _ => by simp [toPy, PyData.canLay0]
  | n, .str x, _ => by simp [toPy, PyData.canLay0, ofStr_ok]
  | 0, .tup a, h => by simp [T.plain] at h
  | 0, .lst a, h => by simp [T.plain] at h
  | n + 1, .tup a, h => by
    simp only [T.plain] at h
    simp only [toPy, PyData.canLay0]
    exact canLays_plain n a h
  | n + 1, .lst a, h => by
    simp only [T.plain] at h
    simp only [toPy, PyData.canLay0]
    exact canLays_plain n a h
  | n, .dct _, h => by cases n <;> simp [T.plain] at h
  | n, .rp _, h => by cases n <;> simp [T.plain] at h
theorem canLays_plain : ∀ (n : Nat) (ds : List T), ds.all (T.plain n) = true → PyData.canLayAll0 (toPys ds) = true
  | n, [], _ => by simp [toPys, PyData.canLayAll0]
  | n, d :: r, h => by
    simp only [List.all_cons, Bool.and_eq_true] at h
    simp only [toPys, PyData.canLayAll0, Bool.and_eq_true]
    exact ⟨canLay_plain n d h.1, canLays_plain n r h.2⟩
end
theorem shaped_plain {d : T} (h : T.plain 60 d = true) : SeqAt.shaped (toPy d) = true := by
  unfold SeqAt.shaped
  rw [canLay_plain 60 d h]
  have := depth_le 60 d h
  simp only [Bool.true_and, decide_eq_true_eq]
  omega
theorem ofStr_beq (a b : String) : (Str.ofString a == Str.ofString b) = (a == b) := by
  by_cases e : a = b
  · subst e; simp
  · have e' : Str.ofString a ≠ Str.ofString b := fun z => e (ofString_inj z)
    rw [beq_eq_false_iff_ne.mpr e, beq_eq_false_iff_ne.mpr e']
mutual
theorem eqv_eq : ∀ (n k : Nat) (a b : T), T.plain n a = true → T.plain k b = true → PyData.eqv (toPy a) (toPy b) = T.eqv a b
  | n, k, a, b, ha, hb => by
    cases a <;> cases b <;> first
      | (simp only [toPy, PyData.eqv, T.eqv]; done)
      | (simp only [toPy, PyData.eqv, T.eqv, ofStr_beq]; done)
      | (exfalso; revert hb; cases k <;> simp [T.plain]; done)
      | (exfalso; revert ha; cases n <;> simp [T.plain]; done)
      | skip
    · cases n with
      | zero => simp [T.plain] at ha
      | succ n =>
        cases k with
        | zero => simp [T.plain] at hb
        | succ k =>
          simp only [T.plain] at ha hb
          simp only [toPy, PyData.eqv, T.eqv]
          exact eqvs_eq n k _ _ ha hb
    · cases n with
      | zero => simp [T.plain] at ha
      | succ n =>
        cases k with
        | zero => simp [T.plain] at hb
        | succ k =>
          simp only [T.plain] at ha hb
          simp only [toPy, PyData.eqv, T.eqv]
          exact eqvs_eq n k _ _ ha hb
theorem eqvs_eq : ∀ (n k : Nat) (a b : List T), a.all (T.plain n) = true → b.all (T.plain k) = true → PyData.eqvAll (toPys a) (toPys b) = T.eqvs a b
  | _, _, [], [], _, _ => by simp only [toPys, PyData.eqvAll, T.eqvs]
  | _, _, [], _ :: _, _, _ => by simp only [toPys, PyData.eqvAll, T.eqvs]
  | _, _, _ :: _, [], _, _ => by simp only [toPys, PyData.eqvAll, T.eqvs]
  | n, k, a :: r, b :: q, ha, hb => by
    simp only [List.all_cons, Bool.and_eq_true] at ha hb
    simp only [toPys, PyData.eqvAll, T.eqvs]
    rw [eqv_eq n k a b ha.1 hb.1, eqvs_eq n k r q ha.2 hb.2]
end

section
variable {K : PySem.W.Frag} {CA : Tags} {m : Mp} {st : Store} {H : Hp}
mutual
theorem Rep.dp {lv : Addr → Prop} : ∀ (n : Nat) (d : T) (v : V), T.plain n d = true → Rep K H lv d v → Dp K H v (toPy d)
  | n, .non, v, _, h => by rw [show v = .non from h]; simp only [toPy]; exact .non
  | n, .bl b, v, _, h => by rw [show v = .bl b from h]; simp only [toPy]; exact .bl b
  | n, .int b, v, _, h => by rw [show v = .int b from h]; simp only [toPy]; exact .int b
  | n, .str b, v, _, h => by rw [show v = .str (Str.ofString b) from h]; simp only [toPy]; exact .str _
  | 0, .tup a, _, h, _ => by simp [T.plain] at h
  | 0, .lst a, _, h, _ => by simp [T.plain] at h
  | n + 1, .tup ts, v, h, r => by
    simp only [T.plain] at h
    obtain ⟨a, vs, rfl, q, z, rs⟩ := r
    simp only [toPy]
    refine .tup ?_ (Reps.dp n ts vs h rs)
    rcases q with q | q
    · exact .of q.1
    · exact q H
  | n + 1, .lst ts, v, h, r => by
    simp only [T.plain] at h
    obtain ⟨a, vs, rfl, q, z, rs⟩ := r
    simp only [toPy]
    exact .lst (.of q.1) (Reps.dp n ts vs h rs)
  | n, .dct _, _, h, _ => by cases n <;> simp [T.plain] at h
  | n, .rp _, _, h, _ => by cases n <;> simp [T.plain] at h
theorem Reps.dp {lv : Addr → Prop} : ∀ (n : Nat) (ds : List T) (vs : List V), ds.all (T.plain n) = true → Reps K H lv ds vs → DpAll K H vs (toPys ds)
  | n, [], vs, _, h => by rw [show vs = [] from h]; simp only [toPys]; exact .nil
  | n, d :: r, vs, h, q => by
    simp only [List.all_cons, Bool.and_eq_true] at h
    obtain ⟨v, vr, rfl, r1, r2⟩ := q
    simp only [toPys]
    exact .cons (Rep.dp n d v h.1 r1) (Reps.dp n r vr h.2 r2)
end
/-- through cells too -/
theorem deep_dp (S : SR K CA m st H) : ∀ (f : Nat), (∀ (w : Val) (v : V) (d : T) (n : Nat), deep st f w = some d → T.plain n d = true → RepV K m st H w v → Dp K H v (toPy d)) ∧
    (∀ (ws : List Val) (vs : List V) (ds : List T) (n : Nat), deeps st f ws = some ds → ds.all (T.plain n) = true → RepVs K m st H ws vs → DpAll K H vs (toPys ds))
  | 0 => by
    refine ⟨fun w v d n h hp r => ?_, fun ws vs ds n h hp r => ?_⟩
    · cases w with
      | t c => simp only [deep, Option.some.injEq] at h; subst h; exact Rep.dp n c v hp r
      | loc k => simp [deep] at h
      | scr k => simp [deep] at h
      | ex k => simp [deep] at h
    · cases ws with
      | nil => simp only [deeps, Option.some.injEq] at h; subst h; rw [show vs = [] from r]; simp only [toPys]; exact .nil
      | cons w q => simp [deeps] at h
  | f + 1 => by
    obtain ⟨ih1, ih2⟩ := deep_dp S f
    refine ⟨fun w v d n h hp r => ?_, fun ws vs ds n h hp r => ?_⟩
    · cases w with
      | t c => simp only [deep, Option.some.injEq] at h; subst h; exact Rep.dp n c v hp r
      | scr k => simp [deep] at h
      | ex k => simp [deep] at h
      | loc k =>
        obtain ⟨_, rfl⟩ := r
        simp only [deep] at h
        cases e : st.cell k with
        | none => rw [e] at h; cases h
        | some c =>
          have q := S.cells k c e
          rw [e] at h
          cases c with
          | lst ws =>
            dsimp only at h
            cases e2 : deeps st f ws with
            | none => rw [e2] at h; cases h
            | some ts =>
              rw [e2] at h
              simp only [Option.some.injEq] at h
              subst h
              obtain ⟨us, hH, _, rs⟩ := q
              cases n with
              | zero => simp [T.plain] at hp
              | succ n =>
                simp only [T.plain] at hp
                simp only [toPy]
                exact .lst (.of hH) (ih2 ws us ts n e2 hp rs)
          | tup ws =>
            dsimp only at h
            cases e2 : deeps st f ws with
            | none => rw [e2] at h; cases h
            | some ts =>
              rw [e2] at h
              simp only [Option.some.injEq] at h
              subst h
              obtain ⟨us, hH, _, rs⟩ := q
              cases n with
              | zero => simp [T.plain] at hp
              | succ n =>
                simp only [T.plain] at hp
                simp only [toPy]
                exact .tup (.of hH) (ih2 ws us ts n e2 hp rs)
          | dct _ => cases h
          | ins _ _ => cases h
          | kd _ => cases h
    · cases ws with
      | nil => simp only [deeps, Option.some.injEq] at h; subst h; rw [show vs = [] from r]; simp only [toPys]; exact .nil
      | cons w q =>
        simp only [deeps] at h
        cases e1 : deep st f w with
        | none => rw [e1] at h; cases h
        | some d =>
          rw [e1] at h
          dsimp only at h
          cases e2 : deeps st f q with
          | none => rw [e2] at h; cases h
          | some ts =>
            rw [e2] at h
            simp only [Option.some.injEq] at h
            subst h
            obtain ⟨v, vr, rfl, r1, r2⟩ := r
            simp only [List.all_cons, Bool.and_eq_true] at hp
            simp only [toPys]
            exact .cons (ih1 w v d n e1 hp.1 r1) (ih2 q vr ts n e2 hp.2 r2)
end
end Fl
namespace Fl
mutual
theorem T_beq : ∀ {a b : T}, T.beq a b = true → a = b
  | a, b, h => by
    cases a <;> cases b <;> simp only [T.beq, Bool.false_eq_true, beq_iff_eq] at h <;> first | rfl | (subst h; rfl) | (rw [T_beqs h]) | (rw [T_beqk h]) | (rw [T_beq h])
theorem T_beqs : ∀ {a b : List T}, T.beqs a b = true → a = b
  | [], [], _ => rfl
  | [], _ :: _, h => by simp [T.beqs] at h
  | _ :: _, [], h => by simp [T.beqs] at h
  | a :: r, b :: q, h => by
    simp only [T.beqs, Bool.and_eq_true] at h
    rw [T_beq h.1, T_beqs h.2]
theorem T_beqk : ∀ {a b : List (Key × T)}, T.beqk a b = true → a = b
  | [], [], _ => rfl
  | [], _ :: _, h => by simp [T.beqk] at h
  | _ :: _, [], h => by simp [T.beqk] at h
  | a :: r, b :: q, h => by
    simp only [T.beqk, Bool.and_eq_true] at h
    rw [T_beqp h.1, T_beqk h.2]
theorem T_beqp : ∀ {a b : Key × T}, T.beqp a b = true → a = b
  | (k, a), (l, b), h => by
    simp only [T.beqp, Bool.and_eq_true, decide_eq_true_eq] at h
    rw [h.1, T_beq h.2]
end
end Fl
set_option Elab.async false
set_option linter.all false
set_option maxRecDepth 100000
set_option maxHeartbeats 2000000
/-! Fl over the layer: operators, comparisons, tests. -/
namespace Fl
open PySem PySem.Spec L2

/-! ### a value's parts, known -/
section
variable {α : Type} {K : PySem.W.Frag} {CA : Tags} {XR : XRel} {W : WX} {σ : L2.St} {m : Mp} {st : Store} {H : Hp} {x : Val} {v : V} {ok : α → Mp → Store → Hp → Prop}
theorem getInt_ok {k : Int → M α} (r : RepV K m st H x v) (q : PR K CA XR W σ ((getInt x st).bind k) m st H ok) : ∃ i, x = .t (.int i) ∧ v = .int i ∧ PR K CA XR W σ (k i st) m st H ok := by
  unfold getInt at q
  split at q
  · exact ⟨_, rfl, r, q⟩
  · exact q.elim
theorem getB_ok {k : Bool → M α} (r : RepV K m st H x v) (q : PR K CA XR W σ ((getB x st).bind k) m st H ok) : ∃ b, x = .t (.bl b) ∧ v = .bl b ∧ PR K CA XR W σ (k b st) m st H ok := by
  unfold getB at q
  split at q
  · exact ⟨_, rfl, r, q⟩
  · exact q.elim
theorem itemsL_ok {k : List Val → M α} (S : SR K CA m st H) (r : RepV K m st H x v) (q : PR K CA XR W σ ((itemsL x st).bind k) m st H ok) :
    ∃ ws a us, v = .ref a ∧ H a = some (.lst us) ∧ RepVs K m st H ws us ∧ ws.length ≤ L ∧ PR K CA XR W σ (k ws st) m st H ok := by
  unfold itemsL at q
  split at q
  · obtain ⟨a, us, e, ⟨h, _⟩, z, rs⟩ := r
    exact ⟨_, a, us, e, h, RepVs.of_reps rs, by rw [List.length_map]; exact z, q⟩
  · rename_i n
    obtain ⟨_, e⟩ := r
    cases c : st.cell n with
    | none => rw [c] at q; exact q.elim
    | some d =>
      rw [c] at q
      cases d with
      | lst ws =>
        obtain ⟨us, h, z, rs⟩ := S.cells n _ c
        exact ⟨ws, m n, us, e, h, rs, z, q⟩
      | _ => exact q.elim
  · exact q.elim
theorem scr_reps : ∀ ns : List Int, RepVs K m st H (ns.map fun i => Val.t (.int i)) (ns.map V.int)
  | [] => rfl
  | n :: r => ⟨.int n, r.map V.int, rfl, rfl, scr_reps r⟩
/-- a list, a tuple, the script -/
theorem items_ok {k : List Val → M α} (S : SR K CA m st H) (r : RepV K m st H x v) (q : PR K CA XR W σ ((items x st).bind k) m st H ok) :
    ∃ ws a us, v = .ref a ∧ (SqL K H a us ∨ SqT K H a us) ∧ RepVs K m st H ws us ∧ ws.length ≤ L ∧ PR K CA XR W σ (k ws st) m st H ok := by
  unfold items at q
  split at q
  · obtain ⟨z, a, e, h⟩ := r
    refine ⟨_, a, _, e, .inl ?_, scr_reps _, by rw [List.length_map]; exact z, q⟩
    rcases h with h | h
    · exact h.2.2
    · exact h H
  · obtain ⟨a, us, e, ⟨h, _⟩, z, rs⟩ := r
    exact ⟨_, a, us, e, .inl (.of h), RepVs.of_reps rs, by rw [List.length_map]; exact z, q⟩
  · obtain ⟨a, us, e, h, z, rs⟩ := r
    refine ⟨_, a, us, e, .inr ?_, RepVs.of_reps rs, by rw [List.length_map]; exact z, q⟩
    rcases h with h | h
    · exact .of h.1
    · exact h H
  · rename_i n
    obtain ⟨_, e⟩ := r
    cases c : st.cell n with
    | none => rw [c] at q; exact q.elim
    | some d =>
      rw [c] at q
      cases d with
      | lst ws =>
        obtain ⟨us, h, z, rs⟩ := S.cells n _ c
        exact ⟨ws, m n, us, e, .inl (.of h), rs, z, q⟩
      | tup ws =>
        obtain ⟨us, h, z, rs⟩ := S.cells n _ c
        exact ⟨ws, m n, us, e, .inr (.of h), rs, z, q⟩
      | _ => exact q.elim
  · exact q.elim
end

section
variable {tb : Tab} {G : FEnv} {CA : Tags} {XR : XRel} {k : Nat} {N : List Str} {sc : Scope} {own : Str → Bool} {X : Cx} {W : WX}
variable {a b c e : Expr} {es : List Expr} {pos pos' : Pos} {f g h : CE} {t u : CT}

/-! ### arithmetic -/
theorem RepVs.rep {K : PySem.W.Frag} {m : Mp} {st : Store} {H : Hp} {ws : List Val} {us : List V} (r : RepVs K m st H ws us) : ∀ n : Nat, RepVs K m st H (List.replicate n ws).flatten (List.replicate n us).flatten
  | 0 => rfl
  | n + 1 => by
    rw [List.replicate_succ, List.replicate_succ, List.flatten_cons, List.flatten_cons]
    exact r.append (RepVs.rep r n)
theorem se_add (cell : Bool) (ha : SE CA XR X W a f) (hb : SE CA XR X W b g) : SE CA XR X W (.BinOp a .Add b pos) (e2 (addV cell) f g) := by
  refine se_bin (op_add.or (op_add_str.or (op_cat.or op_catA))) (fun σ x y m st H v w Q S rx ry q => ?_) ha hb
  unfold addV at q
  split at q
  · cases rx; cases ry
    exact .inl ⟨_, _, rfl, rfl, PR.here S q _ rfl⟩
  · rename_i p p'
    cases rx; cases ry
    split at q
    · rename_i hz
      refine .inr (.inl ⟨_, _, rfl, rfl, ?_, ?_⟩)
      · rw [ofStr_len, ofStr_len]; exact lineOf hz
      · rw [ofStr_app]; exact PR.here S q _ rfl
    · exact q.elim
  · rename_i ts us
    obtain ⟨ad, vs, rfl, h1, z1, r1⟩ := rx
    obtain ⟨bd, ws, rfl, h2, z2, r2⟩ := ry
    split at q
    · rename_i hz
      refine .inr (.inr (.inr ⟨ad, bd, vs, ws, rfl, rfl, ?_, ?_, ?_, ?_, ?_, ?_⟩))
      · rcases h1 with h | h
        · exact .of h.1
        · exact h H
      · rcases h2 with h | h
        · exact .of h.1
        · exact h H
      · rw [← r1.length, ← r2.length]; exact lineOf hz
      · intro e1
        have : ts = [] := by
          have := r1.length
          rw [e1] at this
          exact List.length_eq_zero_iff.mp this
        subst this
        exact PR.here S q _ ⟨bd, ws, rfl, h2, by simpa using z2, by simpa using r2⟩
      · intro _ e1
        have : us = [] := by
          have := r2.length
          rw [e1] at this
          exact List.length_eq_zero_iff.mp this
        subst this
        exact PR.here S q _ ⟨ad, vs, rfl, h1, by simpa using z1, by simpa using r1⟩
      · intro _ _ p hp
        obtain ⟨T, S'⟩ := S.fresh (o := .tup (vs ++ ws)) hp
        refine q m _ S' T _ ⟨p, vs ++ ws, rfl, .inl ⟨upd_same, S.not_live hp⟩, by rw [List.length_append]; exact hz, ?_⟩
        have rr := RepVs.append (RepVs.of_reps (Reps.mono T.keep T.lv _ _ r1)) (RepVs.of_reps (Reps.mono T.keep T.lv _ _ r2))
        rw [← List.map_append] at rr
        exact RepVs.of_trees (trees_map _) rr
    · exact q.elim
  · obtain ⟨ws, ad, us, rfl, h1, r1, z1, q⟩ := itemsL_ok S rx q
    obtain ⟨ws2, bd, us2, rfl, h2, r2, z2, q⟩ := itemsL_ok S ry q
    split at q
    · rename_i hz
      refine .inr (.inr (.inl ⟨ad, bd, us, us2, rfl, rfl, h1, h2, ?_, ?_⟩))
      · rw [← r1.length, ← r2.length]; exact lineOf hz
      · exact newL_ok S (r1.append r2) (by rw [List.length_append]; exact hz) q
    · exact q.elim
theorem se_mul (cell : Bool) (ha : SE CA XR X W a f) (hb : SE CA XR X W b g) : SE CA XR X W (.BinOp a .Mult b pos) (e2 (mulV cell) f g) := by
  refine se_bin (op_mul.or op_rep) (fun σ x y m st H v w Q S rx ry q => ?_) ha hb
  unfold mulV at q
  split at q
  · cases rx; cases ry
    split at q
    · rename_i hm
      refine .inl ⟨_, _, rfl, rfl, ?_, PR.here S q _ rfl⟩
      unfold mulOk at hm
      simpa [CMul] using hm
    · exact q.elim
  · cases ry
    obtain ⟨ws, ad, us, rfl, h1, r1, z1, q⟩ := itemsL_ok S rx q
    split at q
    · rename_i hz
      refine .inr ⟨ad, _, us, rfl, rfl, h1, by omega, by omega, by rw [← r1.length]; exact lineOf hz.2.2, ?_⟩
      refine newL_ok S ?_ ?_ q
      · exact RepVs.rep r1 _
      · rw [List.length_flatten, List.map_replicate, List.sum_replicate_nat, Nat.mul_comm]
        exact hz.2.2
    · exact q.elim
  · exact q.elim
theorem op_fdivB : OpR X (binaryOp .FloorDiv) (rI (fun _ j => j ≠ 0 ∧ j.natAbs < 2 ^ 62) fun i j => .int (i.fdiv j)) := opI fun i j _ _ _ _ _ hc q => by
  have hl : j.natAbs.log2 < 9000 := by
    have := PySem.Flt.log2_lt_of (k := 62) (by decide) hc.2
    omega
  exact PyProof.Rows.floordiv_int hc.1 q (.inl (PyProof.noPylong_of_log2 hl))
theorem se_fdiv (ha : SE CA XR X W a f) (hb : SE CA XR X W b g) : SE CA XR X W (.BinOp a .FloorDiv b pos) (e2 fdivV f g) := by
  refine se_bin op_fdivB (fun σ x y m st H v w Q S rx ry q => ?_) ha hb
  unfold fdivV at q
  split at q
  · cases rx; cases ry
    split at q
    · rename_i hj
      unfold fdivOk at hj
      simp only [Bool.and_eq_true, decide_eq_true_eq] at hj
      exact ⟨_, _, rfl, rfl, hj, PR.here S q _ rfl⟩
    · exact q.elim
  · exact q.elim
theorem se_pow (ha : SE CA XR X W a f) (hb : SE CA XR X W b g) : SE CA XR X W (.BinOp a .Pow b pos) (e2 powV f g) := by
  refine se_bin op_pow (fun σ x y m st H v w Q S rx ry q => ?_) ha hb
  unfold powV at q
  split at q
  · cases rx; cases ry
    split at q
    · rename_i hj
      refine ⟨_, _, rfl, rfl, ⟨hj.1, by omega, by omega⟩, PR.here S q _ rfl⟩
    · exact q.elim
  · exact q.elim
/-- one value, then what is done with it -/
theorem one {k1 : Val → M Val} {r : V → Hp → VK → Prop} {σ : L2.St} {H : Hp} {Q : VK} (hk : ∀ x m st H v Q, SR X.K CA m st H → RepV X.K m st H x v →
      PR X.K CA XR W σ (k1 x st) m st H (fun a m' st' H' => ∀ u, RepV X.K m' st' H' a u → Q u H') → r v H Q) (h : tM X.K CA XR W (e1 k1 f) σ H Q) : tM X.K CA XR W f σ H (fun v H1 => r v H1 Q) := by
  obtain ⟨m, st, ρ, S, E, q⟩ := h
  exact ⟨m, st, ρ, S, E, (PR.bind_of q).mono fun x m1 st1 H1 S1 T1 h1 v rv => hk x m1 st1 H1 v Q S1 rv h1⟩
theorem se_neg (ha : SE CA XR X W a f) : SE CA XR X W (.UnaryOp .USub a pos) (e1 negV f) := by
  refine PE.weak (pe_un un_neg ha) fun σ H Q q => one (r := rU fun i => .int (-i)) (fun x m st H v Q S rx q => ?_) q
  unfold negV at q
  split at q
  · cases rx
    exact ⟨_, rfl, PR.here S q _ rfl⟩
  · exact q.elim

/-! ### comparisons: as values, as tests -/
/-- by values: a bool -/
def CmpOk (CA : Tags) (XR : XRel) (X : Cx) (W : WX) (r : R2) (k2 : Val → Val → M Bool) : Prop := ∀ σ x y m st H v w (Q : Bool → Hp → Prop), SR X.K CA m st H → RepV X.K m st H x v → RepV X.K m st H y w →
  PR X.K CA XR W σ (k2 x y st) m st H (fun b m' st' H' => Q b H') → r v w H fun z H' => ∃ b, z = .bl b ∧ Q b H'
theorem cmp_two {k2 : Val → Val → M Bool} {r : R2} {σ : L2.St} {H : Hp} {Q : Bool → Hp → Prop} (hk : CmpOk CA XR X W r k2) (h : tMT X.K CA XR W (t2 k2 f g) σ H Q) :
    tOp r (tM X.K CA XR W f) (tM X.K CA XR W g) σ H fun z H' => ∃ b, z = .bl b ∧ Q b H' := by
  obtain ⟨m, st, ρ, S, E, q⟩ := h
  refine ⟨m, st, ρ, S, E, (PR.bind_of q).mono fun x m1 st1 H1 S1 T1 h1 v rv => ⟨m1, st1, ρ, S1, E.mono T1, (PR.bind_of h1).mono fun y m2 st2 H2 S2 T2 h2 w rw => ?_⟩⟩
  exact hk σ x y m2 st2 H2 v w Q S2 (RepV.mono T2 x v rv) rw h2
theorem tMT_eB {σ : L2.St} {H : Hp} {Q : VK} (h : tM X.K CA XR W (eB t) σ H Q) : tMT X.K CA XR W t σ H fun b H' => Q (.bl b) H' := by
  obtain ⟨m, st, ρ, S, E, q⟩ := h
  exact ⟨m, st, ρ, S, E, (PR.bind_of q).mono fun b m1 st1 H1 S1 T1 h1 => PR.here S1 h1 _ rfl⟩
theorem st_cmp {op : CmpOp} {k2 : Val → Val → M Bool} {r : R2} (ho : OpR X (compareOp op) r) (hk : CmpOk CA XR X W r k2) (ha : SE CA XR X W a f) (hb : SE CA XR X W b g) (hm : behindInMarks op b = false) :
    STt CA XR X W (.Compare a [op] [b] pos) (t2 k2 f g) := PT.weak (pt_cmpR ho ha hb hm) fun σ H Q q => cmp_two hk q
theorem se_cmp {op : CmpOp} {k2 : Val → Val → M Bool} {r : R2} (ho : OpR X (compareOp op) r) (hr : ∀ x y H Q Q', (∀ z H', Q z H' → Q' z H') → r x y H Q → r x y H Q') (hk : CmpOk CA XR X W r k2) (ha : SE CA XR X W a f) (hb : SE CA XR X W b g) (hm : behindInMarks op b = false) :
    SE CA XR X W (.Compare a [op] [b] pos) (eB (t2 k2 f g)) := PE.weak (pe_cmpR ho ha hb hm) fun σ H Q q => by
  have z := cmp_two hk (tMT_eB q)
  obtain ⟨m, st, ρ, S, E, q1⟩ := z
  refine ⟨m, st, ρ, S, E, q1.mono fun x m1 st1 H1 S1 T1 h1 v rv => ?_⟩
  obtain ⟨m2, st2, ρ2, S2, E2, q2⟩ := h1 v rv
  refine ⟨m2, st2, ρ2, S2, E2, q2.mono fun y m3 st3 H3 S3 T3 h3 w rw => ?_⟩
  refine hr _ _ _ _ _ (fun z H' ⟨b, e, hq⟩ => ?_) (h3 w rw)
  rw [e]; exact hq
theorem ofOr {r r' : R2} (h : ∀ x y H Q Q', (∀ z H', Q z H' → Q' z H') → r x y H Q → r x y H Q') (h' : ∀ x y H Q Q', (∀ z H', Q z H' → Q' z H') → r' x y H Q → r' x y H Q') :
    ∀ x y H Q Q', (∀ z H', Q z H' → Q' z H') → (r x y H Q ∨ r' x y H Q) → (r x y H Q' ∨ r' x y H Q') := fun x y H Q Q' k q => q.imp (h x y H Q Q' k) (h' x y H Q Q' k)

theorem plain_sum {d : T} {c : Option Bool} (x : T) : True := trivial
/-- what == tells: of flat values, or of data -/
theorem eqV_facts {m : Mp} {st : Store} {H : Hp} {x y : Val} {v w : V} (S : SR X.K CA m st H) (rx : RepV X.K m st H x v) (ry : RepV X.K m st H y w) : eqV x y st = .bad ∨ ∃ b, eqV x y st = .ok b st ∧
    ((scal v w = true ∧ decide (v = w) = b) ∨ ∃ d e, Dp X.K H v d ∧ Dp X.K H w e ∧ SeqAt.shaped d = true ∧ SeqAt.shaped e = true ∧ PyData.eqv d e = b) := by
  -- the answer of two trees
  have key : ∀ (c d : Fl.T), (∀ n, T.plain n c = true → Dp X.K H v (toPy c)) → (∀ n, T.plain n d = true → Dp X.K H w (toPy d)) → ((∃ c', c = .rp c') → Rep X.K H (live m st) c v) → ((∃ d', d = .rp d') → Rep X.K H (live m st) d w) →
      ∀ r, T.eq? c d = some r → ((scal v w = true ∧ decide (v = w) = r) ∨ ∃ d e, Dp X.K H v d ∧ Dp X.K H w e ∧ SeqAt.shaped d = true ∧ SeqAt.shaped e = true ∧ PyData.eqv d e = r) := by
    intro c d hc hd rc rd r e
    unfold T.eq? at e
    split at e
    · rename_i c d
      split at e
      · rename_i hb
        have e' : true = r := by simpa using e
        subst e'
        have h1 : v = .str (PyData.shown (toPy c)) := rc ⟨_, rfl⟩
        have h2 : w = .str (PyData.shown (toPy d)) := rd ⟨_, rfl⟩
        have h3 : c = d := T_beq hb
        exact .inl ⟨by rw [h1, h2]; rfl, by rw [h1, h2, h3]; exact decide_eq_true rfl⟩
      · cases e
    · split at e
      · rename_i hp
        simp only [Bool.and_eq_true] at hp
        simp only [Option.some.injEq] at e
        exact .inr ⟨toPy c, toPy d, hc 60 hp.1, hd 60 hp.2, shaped_plain hp.1, shaped_plain hp.2, by rw [eqv_eq 60 60 c d hp.1 hp.2, e]⟩
      · cases e
  have dd := deep_dp S deepMax
  have dp : ∀ {z : Val} {u : V} {d : Fl.T}, RepV X.K m st H z u → deep st deepMax z = some d → ∀ n, T.plain n d = true → Dp X.K H u (toPy d) := fun {z u d} r e n hp => dd.1 z u d n e hp r
  have rpv : ∀ {z : Val} {u : V} {d : Fl.T}, RepV X.K m st H z u → deep st deepMax z = some d → (∃ d', d = .rp d') → Rep X.K H (live m st) d u := fun {z u d} r e ⟨d', ed⟩ => by
    subst ed
    cases z with
    | t c =>
      have : c = .rp d' := by
        have e' := e
        unfold deep at e'
        simpa using e'
      rw [← this]; exact r
    | loc n =>
      exfalso
      rw [show deepMax = 99999 + 1 from rfl] at e
      unfold deep at e
      dsimp only at e
      split at e
      · split at e <;> simp at e
      · split at e <;> simp at e
      · cases e
    | scr n => unfold deep at e; simp at e
    | ex n => unfold deep at e; simp at e
  unfold eqV
  split
  · rename_i c d
    cases e : T.eq? c d with
    | none => exact .inl rfl
    | some r => exact .inr ⟨r, rfl, key c d (fun n hp => Rep.dp n _ v hp rx) (fun n hp => Rep.dp n _ w hp ry) (fun _ => rx) (fun _ => ry) r e⟩
  · split
    · rename_i c d e1 e2
      cases e : T.eq? c d with
      | none => exact .inl rfl
      | some r => exact .inr ⟨r, rfl, key c d (dp rx e1) (dp ry e2) (rpv rx e1) (rpv ry e2) r e⟩
    · exact .inl rfl
theorem eq_ok : CmpOk CA XR X W (fun x y H Q => rEq x y H Q ∨ rEqD X.K x y H Q) eqV := by
  intro σ x y m st H v w Q S rx ry q
  rcases eqV_facts S rx ry with e | ⟨b, e, h⟩
  · rw [e] at q; exact q.elim
  · rw [e] at q
    rcases h with ⟨h1, h2⟩ | ⟨d, c, h1, h2, h3, h4, h5⟩
    · exact .inl ⟨h1, b, by rw [h2], PR.here S q⟩
    · exact .inr ⟨d, c, h1, h2, h3, h4, b, by rw [h5], PR.here S q⟩
theorem ne_ok : CmpOk CA XR X W (fun x y H Q => rNe x y H Q ∨ rNeD X.K x y H Q) (fun x y => eqV x y >>= fun b => pure !b) := by
  intro σ x y m st H v w Q S rx ry q
  have q' : PR X.K CA XR W σ ((eqV x y st).bind fun b => (pure !b : M Bool)) m st H (fun b m' st' H' => Q b H') := q
  rcases eqV_facts S rx ry with e | ⟨b, e, h⟩
  · rw [e] at q'; exact q'.elim
  · rw [e] at q'
    rcases h with ⟨h1, h2⟩ | ⟨d, c, h1, h2, h3, h4, h5⟩
    · exact .inl ⟨h1, !b, by rw [h2], PR.here S q'⟩
    · exact .inr ⟨d, c, h1, h2, h3, h4, !b, by rw [h5], PR.here S q'⟩
theorem mono_rEq : ∀ x y H (Q Q' : VK), (∀ z H', Q z H' → Q' z H') → rEq x y H Q → rEq x y H Q' := fun _ _ _ _ _ k q => ⟨q.1, k _ _ q.2⟩
theorem mono_rNe : ∀ x y H (Q Q' : VK), (∀ z H', Q z H' → Q' z H') → rNe x y H Q → rNe x y H Q' := fun _ _ _ _ _ k q => ⟨q.1, k _ _ q.2⟩
theorem mono_rEqD {K : PySem.W.Frag} : ∀ x y H (Q Q' : VK), (∀ z H', Q z H' → Q' z H') → rEqD K x y H Q → rEqD K x y H Q' := fun _ _ _ _ _ k ⟨d, e, h1, h2, h3, h4, q⟩ => ⟨d, e, h1, h2, h3, h4, k _ _ q⟩
theorem mono_rNeD {K : PySem.W.Frag} : ∀ x y H (Q Q' : VK), (∀ z H', Q z H' → Q' z H') → rNeD K x y H Q → rNeD K x y H Q' := fun _ _ _ _ _ k ⟨d, e, h1, h2, h3, h4, q⟩ => ⟨d, e, h1, h2, h3, h4, k _ _ q⟩
theorem mono_rI0 {g : Int → Int → V} : ∀ x y H (Q Q' : VK), (∀ z H', Q z H' → Q' z H') → rI0 g x y H Q → rI0 g x y H Q' := fun _ _ _ _ _ k ⟨i, j, h1, h2, q⟩ => ⟨i, j, h1, h2, k _ _ q⟩
theorem st_eq (C : Cw tb G CA XR k N sc own X W) (ha : SE CA XR X W a f) (hb : SE CA XR X W b g) : STt CA XR X W (.Compare a [.Eq] [b] pos) (tEq f g) := st_cmp (op_eq.or (op_eqD C.u64)) eq_ok ha hb (nomark _)
theorem st_ne (C : Cw tb G CA XR k N sc own X W) (ha : SE CA XR X W a f) (hb : SE CA XR X W b g) : STt CA XR X W (.Compare a [.NotEq] [b] pos) (tNe f g) := st_cmp (op_ne.or (op_neD C.u64)) ne_ok ha hb (nomark _)
theorem se_eq (C : Cw tb G CA XR k N sc own X W) (ha : SE CA XR X W a f) (hb : SE CA XR X W b g) : SE CA XR X W (.Compare a [.Eq] [b] pos) (eB (tEq f g)) := se_cmp (op_eq.or (op_eqD C.u64)) (ofOr mono_rEq mono_rEqD) eq_ok ha hb (nomark _)
theorem se_ne (C : Cw tb G CA XR k N sc own X W) (ha : SE CA XR X W a f) (hb : SE CA XR X W b g) : SE CA XR X W (.Compare a [.NotEq] [b] pos) (eB (tNe f g)) := se_cmp (op_ne.or (op_neD C.u64)) (ofOr mono_rNe mono_rNeD) ne_ok ha hb (nomark _)
theorem lt_ok {p : Int → Int → Bool} : CmpOk CA XR X W (rI0 fun i j => .bl (p i j)) (ltV p) := by
  intro σ x y m st H v w Q S rx ry q
  unfold ltV at q
  split at q
  · cases rx; cases ry
    exact ⟨_, _, rfl, rfl, _, rfl, PR.here S q⟩
  · exact q.elim
theorem st_lt (ha : SE CA XR X W a f) (hb : SE CA XR X W b g) : STt CA XR X W (.Compare a [.Lt] [b] pos) (tLt f g) := st_cmp op_lt lt_ok ha hb (nomark _)
theorem st_le (ha : SE CA XR X W a f) (hb : SE CA XR X W b g) : STt CA XR X W (.Compare a [.LtE] [b] pos) (tLe f g) := st_cmp op_le lt_ok ha hb (nomark _)
theorem st_gt (ha : SE CA XR X W a f) (hb : SE CA XR X W b g) : STt CA XR X W (.Compare a [.Gt] [b] pos) (tGt f g) := st_cmp op_gt lt_ok ha hb (nomark _)
theorem st_ge (ha : SE CA XR X W a f) (hb : SE CA XR X W b g) : STt CA XR X W (.Compare a [.GtE] [b] pos) (tGe f g) := st_cmp op_ge lt_ok ha hb (nomark _)
theorem se_lt (ha : SE CA XR X W a f) (hb : SE CA XR X W b g) : SE CA XR X W (.Compare a [.Lt] [b] pos) (eB (tLt f g)) := se_cmp op_lt mono_rI0 lt_ok ha hb (nomark _)
theorem se_le (ha : SE CA XR X W a f) (hb : SE CA XR X W b g) : SE CA XR X W (.Compare a [.LtE] [b] pos) (eB (tLe f g)) := se_cmp op_le mono_rI0 lt_ok ha hb (nomark _)
theorem se_gt (ha : SE CA XR X W a f) (hb : SE CA XR X W b g) : SE CA XR X W (.Compare a [.Gt] [b] pos) (eB (tGt f g)) := se_cmp op_gt mono_rI0 lt_ok ha hb (nomark _)
theorem se_ge (ha : SE CA XR X W a f) (hb : SE CA XR X W b g) : SE CA XR X W (.Compare a [.GtE] [b] pos) (eB (tGe f g)) := se_cmp op_ge mono_rI0 lt_ok ha hb (nomark _)

/-! ### is None, is True -/
theorem none_iff {K : PySem.W.Frag} {m : Mp} {st : Store} {H : Hp} {x : Val} {v : V} (r : RepV K m st H x v) (hx : ∀ e, x ≠ .ex e) : decide (v = .non) = isNone x := by
  cases x with
  | ex e => exact absurd rfl (hx e)
  | loc n => rw [r.2]; rfl
  | scr ns => obtain ⟨_, a, e, _⟩ := r; rw [e]; rfl
  | t d =>
    cases d with
    | non => rw [show v = .non from r]; rfl
    | bl b => rw [show v = _ from r]; rfl
    | int b => rw [show v = _ from r]; rfl
    | str b => rw [show v = _ from r]; rfl
    | rp b => rw [show v = _ from r]; rfl
    | tup b => obtain ⟨a, _, e, _⟩ := r; rw [e]; rfl
    | lst b => obtain ⟨a, _, e, _⟩ := r; rw [e]; rfl
    | dct b => obtain ⟨a, _, e, _⟩ := r; rw [e]; rfl
theorem isN_read {σ : L2.St} {H : Hp} {Q : Bool → Hp → Prop} (h : tMT X.K CA XR W (tIsN f) σ H Q) : L2.tIsN (tM X.K CA XR W f) σ H fun z H' => ∃ b, z = .bl b ∧ Q b H' := by
  obtain ⟨m, st, ρ, S, E, q⟩ := h
  refine ⟨m, st, ρ, S, E, (PR.bind_of q).mono fun x m1 st1 H1 S1 T1 h1 v rv => ⟨_, rfl, ?_⟩⟩
  split at h1
  · exact h1.elim
  · rename_i hx
    rw [none_iff rv (fun e z => hx e z)]
    exact PR.here S1 h1
theorem notN_read {σ : L2.St} {H : Hp} {Q : Bool → Hp → Prop} (h : tMT X.K CA XR W (tNotN f) σ H Q) : L2.tNotN (tM X.K CA XR W f) σ H fun z H' => ∃ b, z = .bl b ∧ Q b H' := by
  obtain ⟨m, st, ρ, S, E, q⟩ := h
  refine ⟨m, st, ρ, S, E, (PR.bind_of q).mono fun x m1 st1 H1 S1 T1 h1 v rv => ⟨_, rfl, ?_⟩⟩
  split at h1
  · exact h1.elim
  · rename_i hx
    rw [none_iff rv (fun e z => hx e z)]
    exact PR.here S1 h1
theorem st_isN {j : Nat} (ha : SE CA XR X W a f) : STt CA XR X W (.Compare a [.Is] [.Constant .none j pos'] pos) (tIsN f) := PT.weak (pt_cmp (pc_isN ha)) fun σ H Q q => isN_read q
theorem st_notN {j : Nat} (ha : SE CA XR X W a f) : STt CA XR X W (.Compare a [.IsNot] [.Constant .none j pos'] pos) (tNotN f) := PT.weak (pt_cmp (pc_notN ha)) fun σ H Q q => notN_read q
theorem se_isN {j : Nat} (ha : SE CA XR X W a f) : SE CA XR X W (.Compare a [.Is] [.Constant .none j pos'] pos) (eB (tIsN f)) := PE.weak (pe_cmp (pc_isN ha)) fun σ H Q q => by
  obtain ⟨m, st, ρ, S, E, q1⟩ := isN_read (tMT_eB q)
  exact ⟨m, st, ρ, S, E, q1.mono fun x m1 st1 H1 S1 T1 h1 v rv => by obtain ⟨b, e, z⟩ := h1 v rv; rw [e]; exact z⟩
theorem se_notN {j : Nat} (ha : SE CA XR X W a f) : SE CA XR X W (.Compare a [.IsNot] [.Constant .none j pos'] pos) (eB (tNotN f)) := PE.weak (pe_cmp (pc_notN ha)) fun σ H Q q => by
  obtain ⟨m, st, ρ, S, E, q1⟩ := notN_read (tMT_eB q)
  exact ⟨m, st, ρ, S, E, q1.mono fun x m1 st1 H1 S1 T1 h1 v rv => by obtain ⟨b, e, z⟩ := h1 v rv; rw [e]; exact z⟩

/-! ### and, or, not: tests -/
theorem and_read {σ : L2.St} {H : Hp} {Q : Bool → Hp → Prop} (h : tMT X.K CA XR W (tAnd t u) σ H Q) : L2.tAnd (tMT X.K CA XR W t) (tMT X.K CA XR W u) σ H Q := by
  obtain ⟨m, st, ρ, S, E, q⟩ := h
  refine ⟨m, st, ρ, S, E, (PR.bind_of q).mono fun x m1 st1 H1 S1 T1 h1 => ?_⟩
  cases x with
  | true => exact ⟨m1, st1, ρ, S1, E.mono T1, h1⟩
  | false => exact PR.here S1 h1
theorem or_read {σ : L2.St} {H : Hp} {Q : Bool → Hp → Prop} (h : tMT X.K CA XR W (tOr t u) σ H Q) : L2.tOr (tMT X.K CA XR W t) (tMT X.K CA XR W u) σ H Q := by
  obtain ⟨m, st, ρ, S, E, q⟩ := h
  refine ⟨m, st, ρ, S, E, (PR.bind_of q).mono fun x m1 st1 H1 S1 T1 h1 => ?_⟩
  cases x with
  | true => exact PR.here S1 h1
  | false => exact ⟨m1, st1, ρ, S1, E.mono T1, h1⟩
abbrev SW (CA : Tags) (XR : XRel) (X : Cx) (W : WX) (e : Expr) (f : CT) : Prop := PW X e (tMT X.K CA XR W f)
theorem PW.weak {X : Cx} {e : Expr} {t t' : TT} (h : PW X e t) (k : ∀ σ H Q, t' σ H Q → t σ H Q) : PW X e t' := ⟨fun wh pins s σ H Q I q => h.run wh pins s σ H Q I (k σ H Q q)⟩
theorem sw_and1 (ha : STt CA XR X W a t) : SW CA XR X W (.BoolOp .And [a] pos) t := pw_and1 ha
theorem sw_or1 (ha : STt CA XR X W a t) : SW CA XR X W (.BoolOp .Or [a] pos) t := pw_or1 ha
theorem sw_and (ha : STt CA XR X W a t) (hb : SW CA XR X W (.BoolOp .And (b :: es) pos) u) : SW CA XR X W (.BoolOp .And (a :: b :: es) pos) (tAnd t u) := PW.weak (pw_and ha hb) fun σ H Q q => and_read q
theorem sw_or (ha : STt CA XR X W a t) (hb : SW CA XR X W (.BoolOp .Or (b :: es) pos) u) : SW CA XR X W (.BoolOp .Or (a :: b :: es) pos) (tOr t u) := PW.weak (pw_or ha hb) fun σ H Q q => or_read q
theorem st_bool (h : SW CA XR X W e t) : STt CA XR X W e t := h.pt
theorem st_not (ha : STt CA XR X W a t) : STt CA XR X W (.UnaryOp .Not a pos) (tNot t) := PT.weak (pt_not ha) fun σ H Q ⟨m, st, ρ, S, E, q⟩ =>
  ⟨m, st, ρ, S, E, (PR.bind_of q).mono fun x m1 st1 H1 S1 T1 h1 => PR.here S1 h1⟩
theorem se_if (hc : STt CA XR X W c t) (ha : SE CA XR X W a f) (hb : SE CA XR X W b g) : SE CA XR X W (.IfExp c a b pos) (eIf t f g) := PE.weak (pe_ifExp hc ha hb) fun σ H Q ⟨m, st, ρ, S, E, q⟩ => by
  refine ⟨m, st, ρ, S, E, (PR.bind_of q).mono fun x m1 st1 H1 S1 T1 h1 => ?_⟩
  cases x with
  | true => exact ⟨m1, st1, ρ, S1, E.mono T1, h1⟩
  | false => exact ⟨m1, st1, ρ, S1, E.mono T1, h1⟩
end
end Fl
set_option Elab.async false
set_option linter.all false
set_option maxRecDepth 100000
set_option maxHeartbeats 2000000
/-! Fl over the layer: in, truth, subscripts, displays. -/
namespace Fl
open PySem PySem.Spec L2

section
variable {tb : Tab} {G : FEnv} {CA : Tags} {XR : XRel} {k : Nat} {N : List Str} {sc : Scope} {own : Str → Bool} {X : Cx} {W : WX}
variable {a b c e o : Expr} {es : List Expr} {pos pos' p2 : Pos} {f g h : CE} {t u : CT}

/-! ### bools as values -/
theorem se_and1 {op : BoolOp} (ha : SE CA XR X W a f) : SE CA XR X W (.BoolOp op [a] pos) f := pe_one ha
theorem se_and (ha : SE CA XR X W a f) (hb : SE CA XR X W (.BoolOp .And (b :: es) pos) g) : SE CA XR X W (.BoolOp .And (a :: b :: es) pos) (eAnd f g) := PE.weak (pe_and ha hb) fun σ H Q ⟨m, st, ρ, S, E, q⟩ => by
  refine ⟨m, st, ρ, S, E, (PR.bind_of q).mono fun x m1 st1 H1 S1 T1 h1 v rv => ?_⟩
  obtain ⟨c, rfl, rfl, h1⟩ := getB_ok rv h1
  refine ⟨c, rfl, ?_⟩
  cases c with
  | true => exact ⟨m1, st1, ρ, S1, E.mono T1, h1⟩
  | false => exact PR.here S1 h1 _ rfl
theorem se_or (ha : SE CA XR X W a f) (hb : SE CA XR X W (.BoolOp .Or (b :: es) pos) g) : SE CA XR X W (.BoolOp .Or (a :: b :: es) pos) (eOr f g) := PE.weak (pe_or ha hb) fun σ H Q ⟨m, st, ρ, S, E, q⟩ => by
  refine ⟨m, st, ρ, S, E, (PR.bind_of q).mono fun x m1 st1 H1 S1 T1 h1 v rv => ?_⟩
  obtain ⟨c, rfl, rfl, h1⟩ := getB_ok rv h1
  refine ⟨c, rfl, ?_⟩
  cases c with
  | true => exact PR.here S1 h1 _ rfl
  | false => exact ⟨m1, st1, ρ, S1, E.mono T1, h1⟩
theorem se_not (ha : SE CA XR X W a f) : SE CA XR X W (.UnaryOp .Not a pos) (eNot f) := PE.weak (pe_not ha) fun σ H Q ⟨m, st, ρ, S, E, q⟩ => by
  refine ⟨m, st, ρ, S, E, (PR.bind_of q).mono fun x m1 st1 H1 S1 T1 h1 v rv => ?_⟩
  obtain ⟨c, rfl, rfl, h1⟩ := getB_ok rv h1
  exact ⟨c, rfl, PR.here S1 h1 _ rfl⟩

/-! ### truth -/
theorem isEmpty_len {α β : Type} {xs : List α} {ys : List β} (h : xs.length = ys.length) : xs.isEmpty = ys.isEmpty := by
  cases xs <;> cases ys <;> first | rfl | (simp at h)
theorem st_truth (ha : SE CA XR X W a f) (he : ∀ whole, isTrue a X.env whole = (do let v ← whole; standAt a.pos; holding [v] (truthy v)) := by intro _; rfl) : STt CA XR X W a (tTruth f) := PT.weak (pt_truth ha he) fun σ H Q ⟨m, st, ρ, S, E, q⟩ => by
  refine ⟨m, st, ρ, S, E, (PR.bind_of q).mono fun x m1 st1 H1 S1 T1 h1 v rv => ?_⟩
  unfold truthV at h1
  split at h1
  · cases rv; exact ⟨_, rfl, PR.here S1 h1⟩
  · cases rv; exact ⟨_, rfl, PR.here S1 h1⟩
  · obtain ⟨p, vs, rfl, ⟨hh, _⟩, z, rs⟩ := rv
    exact ⟨_, .inl ⟨vs, .of hh, by rw [← isEmpty_len rs.length]⟩, PR.here S1 h1⟩
  · obtain ⟨p, vs, rfl, hh, z, rs⟩ := rv
    refine ⟨_, .inr (.inl ⟨vs, ?_, by rw [← isEmpty_len rs.length]⟩), PR.here S1 h1⟩
    rcases hh with hh | hh
    · exact .of hh.1
    · exact hh H1
  · rename_i n
    obtain ⟨_, rfl⟩ := rv
    cases ec : st1.cell n with
    | none => rw [ec] at h1; exact h1.elim
    | some d =>
      rw [ec] at h1
      cases d with
      | lst ws =>
        obtain ⟨us, hh, z, rs⟩ := S1.cells n _ ec
        exact ⟨_, .inl ⟨us, .of hh, by rw [← isEmpty_len rs.length]⟩, PR.here S1 h1⟩
      | _ => exact h1.elim
  · exact h1.elim

/-! ### in -/
theorem dget_val {α : Type} : ∀ {kvs : List (Key × α)} {us : List (L2.Key × V)} (P : α → V → Prop), True → True := fun _ _ => trivial
theorem RepK.val {K : PySem.W.Frag} {H : Hp} {lv : Addr → Prop} : ∀ {kts : List (Key × T)} {us : List (L2.Key × V)} (k : Key), RepK K H lv kts us → match dget kts k with
    | some d => ∃ v, valV us (kL k) = some v ∧ Rep K H lv d v
    | none => valV us (kL k) = none
  | [], us, k, r => by rw [show us = [] from r]; rfl
  | (l, d) :: q, us, k, r => by
    obtain ⟨p, ur, rfl, r1, r2⟩ := r
    unfold dget
    by_cases e : l = k
    · rw [if_pos e]
      exact ⟨p.2, valV_pos (by rw [r1.1, e]), r1.2⟩
    · rw [if_neg e]
      have hne : ¬ p.1 = kL k := fun z => e (kL_inj (r1.1.symm.trans z))
      rw [valV_neg hne]
      exact RepK.val k r2
theorem RepVK.val {K : PySem.W.Frag} {m : Mp} {st : Store} {H : Hp} : ∀ {kts : List (Key × Val)} {us : List (L2.Key × V)} (k : Key), RepVK K m st H kts us → match dget kts k with
    | some d => ∃ v, valV us (kL k) = some v ∧ RepV K m st H d v
    | none => valV us (kL k) = none
  | [], us, k, r => by rw [show us = [] from r]; rfl
  | (l, d) :: q, us, k, r => by
    obtain ⟨p, ur, rfl, r1, r2⟩ := r
    unfold dget
    by_cases e : l = k
    · rw [if_pos e]
      exact ⟨p.2, valV_pos (by rw [r1.1, e]), r1.2⟩
    · rw [if_neg e]
      have hne : ¬ p.1 = kL k := fun z => e (kL_inj (r1.1.symm.trans z))
      rw [valV_neg hne]
      exact RepVK.val k r2
theorem keyOf_rep {K : PySem.W.Frag} {m : Mp} {st : Store} {H : Hp} {x : Val} {v : V} {k : Key} (r : RepV K m st H x v) (e : keyOf x = some k) : v = kV (kL k) := by
  unfold keyOf at e
  split at e
  · cases e; exact r
  · cases e; exact r
  · cases e
def rDin (f : Bool → Bool) : R2 := fun y x H Q => ∃ a o, x = .ref a ∧ DGet H a y o ∧ Q (.bl (f o.isSome)) H
theorem op_din (hu : X.A.units + 1 < cLine) : OpR X (compareOp .In) (rDin fun b => b) := by
  intro pins s σ H y x v u Q I ry rx h
  obtain ⟨a, o, rfl, g, q⟩ := h
  obtain rfl : u = Value.ref a := rx
  exact d_in hu I g ry fun s3 I3 => ⟨.bl o.isSome, H, I3, rfl, q⟩
theorem op_dnin (hu : X.A.units + 1 < cLine) : OpR X (compareOp .NotIn) (rDin fun b => !b) := by
  intro pins s σ H y x v u Q I ry rx h
  obtain ⟨a, o, rfl, g, q⟩ := h
  obtain rfl : u = Value.ref a := rx
  exact d_notIn hu I g ry fun s3 I3 => ⟨.bl (!o.isSome), H, I3, rfl, q⟩
theorem flat_V {K : PySem.W.Frag} {H : Hp} {lv : Addr → Prop} {d : T} {v : V} (r : Rep K H lv d v) (hf : T.flat d = true) : flatV v = true := by
  cases d <;> first | (rw [show v = _ from r]; rfl) | (simp [T.flat] at hf)
theorem flats_V {K : PySem.W.Frag} {H : Hp} {lv : Addr → Prop} : ∀ {ds : List T} {vs : List V}, Reps K H lv ds vs → ds.all T.flat = true → vs.all flatV = true
  | [], vs, r, _ => by rw [show vs = [] from r]; rfl
  | d :: q, vs, r, h => by
    obtain ⟨v, vr, rfl, r1, r2⟩ := r
    simp only [List.all_cons, Bool.and_eq_true] at h ⊢
    exact ⟨flat_V r1 h.1, flats_V r2 h.2⟩
theorem eqV_flat {K : PySem.W.Frag} {H : Hp} {lv : Addr → Prop} {d c : T} {v w : V} (r : Rep K H lv d v) (r' : Rep K H lv c w) (h : T.flat d = true) (h' : T.flat c = true) : L2.eqV v w = T.eqv d c := by
  cases d <;> cases c <;> first
    | (simp [T.flat] at h; done)
    | (simp [T.flat] at h'; done)
    | (rw [show v = _ from r, show w = _ from r']; simp only [L2.eqV, T.eqv]; done)
    | (rw [show v = _ from r, show w = _ from r']; simp only [L2.eqV, T.eqv, ofStr_beq]; done)
theorem inT_flat {K : PySem.W.Frag} {H : Hp} {lv : Addr → Prop} {d : T} {v : V} (r : Rep K H lv d v) (h : T.flat d = true) : ∀ {ds : List T} {vs : List V}, Reps K H lv ds vs → ds.all T.flat = true → L2.inV v vs = inT d ds
  | [], vs, q, _ => by rw [show vs = [] from q]; rfl
  | c :: ds, vs, q, h' => by
    obtain ⟨w, wr, rfl, r1, r2⟩ := q
    simp only [List.all_cons, Bool.and_eq_true] at h'
    have ih := inT_flat r h r2 h'.2
    unfold L2.inV inT at ih ⊢
    rw [List.any_cons, List.any_cons, eqV_flat r1 r h'.1 h, ih]
theorem any_py {d : T} : ∀ {ds : List T}, T.plain 60 d = true → ds.all (T.plain 60) = true → ((toPys ds).any fun z => PyData.eqv z (toPy d)) = inT d ds
  | [], _, _ => by simp [toPys, inT]
  | c :: ds, h, h' => by
    simp only [List.all_cons, Bool.and_eq_true] at h'
    have ih := any_py (ds := ds) h h'.2
    unfold inT at ih ⊢
    simp only [toPys]
    rw [List.any_cons, List.any_cons, eqv_eq 60 60 c d h'.1 h, ih]
/-- what in tells -/
theorem inV_facts {m : Mp} {st : Store} {H : Hp} {x y : Val} {v w : V} (S : SR X.K CA m st H) (rx : RepV X.K m st H x v) (ry : RepV X.K m st H y w) : inV x y st = .bad ∨ ∃ b, inV x y st = .ok b st ∧
    ((∃ a o, w = .ref a ∧ DGet H a v o ∧ o.isSome = b) ∨ (∃ p xs, w = .ref p ∧ (SqL X.K H p xs ∨ SqT X.K H p xs) ∧ flatV v = true ∧ xs.all flatV = true ∧ L2.inV v xs = b) ∨
      ∃ d ds, Dp X.K H v d ∧ Dp X.K H w (.list ds) ∧ SeqAt.shaped d = true ∧ SeqAt.shaped (.list ds) = true ∧ (ds.any fun z => PyData.eqv z d) = b) := by
  have dl : ∀ {d : T} {ds : List T} {xs : List V} {p : Addr}, T.plain 60 d = true → ds.all (T.plain 60) = true → Rep X.K H (live m st) d v → Reps X.K H (live m st) ds xs → H p = some (.lst xs) →
      ∃ d' ds', Dp X.K H v d' ∧ Dp X.K H (.ref p) (.list ds') ∧ SeqAt.shaped d' = true ∧ SeqAt.shaped (.list ds') = true ∧ (ds'.any fun z => PyData.eqv z d') = inT d ds := fun {d ds xs p} h1 h2 r1 r2 hp => by
    refine ⟨toPy d, toPys ds, Rep.dp 60 d v h1 r1, .lst (.of hp) (Reps.dp 60 ds xs h2 r2), shaped_plain h1, ?_, any_py h1 h2⟩
    have hc := canLays_plain 60 ds h2
    have hd := depths_le 60 ds h2
    have e1 : PyData.canLay0 (.list (toPys ds)) = true := by simpa only [PyData.canLay0] using hc
    unfold SeqAt.shaped
    rw [e1, Bool.true_and]
    exact decide_eq_true (by simp only [PyData.depth]; omega)
  unfold inV
  split
  · -- a dict
    rename_i kvs
    obtain ⟨p, us, rfl, ⟨hp, _⟩, z, rk⟩ := ry
    cases e : keyOf x with
    | none => exact .inl rfl
    | some kk =>
      refine .inr ⟨_, rfl, .inl ⟨p, valV us (kL kk), rfl, ?_, ?_⟩⟩
      · rw [keyOf_rep rx e]; exact .k hp
      · have := RepK.val kk rk
        split at this
        · rename_i d ed
          obtain ⟨v', e', _⟩ := this
          rw [e', ed]; rfl
        · rename_i ed
          rw [this, ed]; rfl
  · -- a list
    rename_i ts
    obtain ⟨p, us, rfl, ⟨hp, _⟩, z, rk⟩ := ry
    split
    · rename_i d
      split
      · rename_i hh
        simp only [Bool.and_eq_true] at hh
        exact .inr ⟨_, rfl, .inr (.inr (dl hh.1 hh.2 rx rk hp))⟩
      · exact .inl rfl
    · exact .inl rfl
  · -- a tuple
    rename_i ts
    obtain ⟨p, us, rfl, hp, z, rk⟩ := ry
    split
    · rename_i d
      split
      · rename_i hh
        simp only [Bool.and_eq_true] at hh
        refine .inr ⟨_, rfl, .inr (.inl ⟨p, us, rfl, .inr ?_, flat_V rx hh.1, flats_V rk hh.2, inT_flat rx hh.1 rk hh.2⟩)⟩
        rcases hp with hp | hp
        · exact .of hp.1
        · exact hp H
      · exact .inl rfl
    · exact .inl rfl
  · rename_i n
    obtain ⟨_, rfl⟩ := ry
    cases ec : st.cell n with
    | none => exact .inl rfl
    | some d =>
      cases d with
      | dct kvs =>
        obtain ⟨us, hp, z, rk⟩ := S.cells n _ ec
        dsimp only
        cases e : keyOf x with
        | none => exact .inl rfl
        | some kk =>
          refine .inr ⟨_, rfl, .inl ⟨m n, valV us (kL kk), rfl, ?_, ?_⟩⟩
          · rw [keyOf_rep rx e]; exact .k hp
          · have := RepVK.val kk rk
            split at this
            · rename_i d ed
              obtain ⟨v', e', _⟩ := this
              rw [e', ed]; rfl
            · rename_i ed
              rw [this, ed]; rfl
      | lst ws =>
        obtain ⟨us, hp, z, rk⟩ := S.cells n _ ec
        dsimp only
        split
        · rename_i d ts et
          split
          · rename_i hh
            simp only [Bool.and_eq_true] at hh
            exact .inr ⟨_, rfl, .inr (.inr (dl hh.1 hh.2 rx (RepVs.of_trees et rk) hp))⟩
          · exact .inl rfl
        · exact .inl rfl
      | kd _ => exact (S.cells n _ ec).elim
      | _ => exact .inl rfl
  · exact .inl rfl
abbrev rIn3 (K : PySem.W.Frag) : R2 := fun x y H Q => rDin (fun b => b) x y H Q ∨ rIn K false x y H Q ∨ rInD K x y H Q
abbrev rNotIn3 (K : PySem.W.Frag) : R2 := fun x y H Q => rDin (fun b => !b) x y H Q ∨ rIn K true x y H Q ∨ rNotInD K x y H Q
theorem in_ok : CmpOk CA XR X W (rIn3 X.K) inV := by
  intro σ x y m st H v w Q S rx ry q
  rcases inV_facts S rx ry with e | ⟨b, e, h⟩
  · rw [e] at q; exact q.elim
  · rw [e] at q
    have q' := PR.here S q
    rcases h with ⟨a, o, h1, h2, h3⟩ | ⟨p, xs, h1, h2, h3, h4, h5⟩ | ⟨d, ds, h1, h2, h3, h4, h5⟩
    · exact .inl ⟨a, o, h1, h2, b, by rw [h3], q'⟩
    · exact .inr (.inl ⟨p, xs, h1, h2, h3, h4, b, by rw [h5]; rfl, q'⟩)
    · exact .inr (.inr ⟨d, ds, h1, h2, h3, h4, b, by rw [h5], q'⟩)
theorem notIn_ok : CmpOk CA XR X W (rNotIn3 X.K) (fun x y => inV x y >>= fun b => pure !b) := by
  intro σ x y m st H v w Q S rx ry q
  have q' : PR X.K CA XR W σ ((inV x y st).bind fun b => (pure !b : M Bool)) m st H (fun b m' st' H' => Q b H') := q
  rcases inV_facts S rx ry with e | ⟨b, e, h⟩
  · rw [e] at q'; exact q'.elim
  · rw [e] at q'
    have q2 := PR.here S q'
    rcases h with ⟨a, o, h1, h2, h3⟩ | ⟨p, xs, h1, h2, h3, h4, h5⟩ | ⟨d, ds, h1, h2, h3, h4, h5⟩
    · exact .inl ⟨a, o, h1, h2, !b, by rw [h3], q2⟩
    · exact .inr (.inl ⟨p, xs, h1, h2, h3, h4, !b, by rw [h5]; rfl, q2⟩)
    · exact .inr (.inr ⟨d, ds, h1, h2, h3, h4, !b, by rw [h5], q2⟩)
theorem mono_rDin {ff : Bool → Bool} : ∀ x y H (Q Q' : VK), (∀ z H', Q z H' → Q' z H') → rDin ff x y H Q → rDin ff x y H Q' := fun _ _ _ _ _ k ⟨a, o, h1, h2, q⟩ => ⟨a, o, h1, h2, k _ _ q⟩
theorem mono_rIn {K : PySem.W.Frag} {n : Bool} : ∀ x y H (Q Q' : VK), (∀ z H', Q z H' → Q' z H') → rIn K n x y H Q → rIn K n x y H Q' := fun _ _ _ _ _ k ⟨a, o, h1, h2, h3, h4, q⟩ => ⟨a, o, h1, h2, h3, h4, k _ _ q⟩
theorem mono_rInD {K : PySem.W.Frag} : ∀ x y H (Q Q' : VK), (∀ z H', Q z H' → Q' z H') → rInD K x y H Q → rInD K x y H Q' := fun _ _ _ _ _ k ⟨a, o, h1, h2, h3, h4, q⟩ => ⟨a, o, h1, h2, h3, h4, k _ _ q⟩
theorem mono_rNotInD {K : PySem.W.Frag} : ∀ x y H (Q Q' : VK), (∀ z H', Q z H' → Q' z H') → rNotInD K x y H Q → rNotInD K x y H Q' := fun _ _ _ _ _ k ⟨a, o, h1, h2, h3, h4, q⟩ => ⟨a, o, h1, h2, h3, h4, k _ _ q⟩
theorem st_in (C : Cw tb G CA XR k N sc own X W) (ha : SE CA XR X W a f) (hb : SE CA XR X W b g) (hm : behindInMarks .In b = false := by rfl) : STt CA XR X W (.Compare a [.In] [b] pos) (tIn f g) :=
  st_cmp ((op_din C.u1).or (op_in_seq.or (op_inD C.u65))) in_ok ha hb hm
theorem st_notIn (C : Cw tb G CA XR k N sc own X W) (ha : SE CA XR X W a f) (hb : SE CA XR X W b g) (hm : behindInMarks .NotIn b = false := by rfl) : STt CA XR X W (.Compare a [.NotIn] [b] pos) (tNotIn f g) :=
  st_cmp ((op_dnin C.u1).or (op_notIn_seq.or (op_notInD C.u65))) notIn_ok ha hb hm
theorem se_in (C : Cw tb G CA XR k N sc own X W) (ha : SE CA XR X W a f) (hb : SE CA XR X W b g) (hm : behindInMarks .In b = false := by rfl) : SE CA XR X W (.Compare a [.In] [b] pos) (eB (tIn f g)) :=
  se_cmp ((op_din C.u1).or (op_in_seq.or (op_inD C.u65))) (ofOr mono_rDin (ofOr mono_rIn mono_rInD)) in_ok ha hb hm
theorem se_notIn (C : Cw tb G CA XR k N sc own X W) (ha : SE CA XR X W a f) (hb : SE CA XR X W b g) (hm : behindInMarks .NotIn b = false := by rfl) : SE CA XR X W (.Compare a [.NotIn] [b] pos) (eB (tNotIn f g)) :=
  se_cmp ((op_dnin C.u1).or (op_notIn_seq.or (op_notInD C.u65))) (ofOr mono_rDin (ofOr mono_rIn mono_rNotInD)) notIn_ok ha hb hm

/-! ### displays, arguments -/
theorem sa_nil : SA CA XR X W [] (eVals []) := PA.weak pa_nil fun σ H Q ⟨m, st, ρ, S, E, q⟩ => PR.here S q [] rfl
theorem sa_cons {fs : List CE} (ha : SE CA XR X W a f) (hr : SA CA XR X W es (eVals fs)) (hs : starEach (a :: es) X.env = (false, eval a X.env) :: starEach es X.env := by rfl) : SA CA XR X W (a :: es) (eVals (f :: fs)) :=
  PA.weak (pa_cons ha hr hs) fun σ H Q ⟨m, st, ρ, S, E, q⟩ => by
    refine ⟨m, st, ρ, S, E, (PR.bind_of q).mono fun x m1 st1 H1 S1 T1 h1 v rv => ?_⟩
    refine ⟨m1, st1, ρ, S1, E.mono T1, (PR.bind_of h1).mono fun xs m2 st2 H2 S2 T2 h2 vs rvs => ?_⟩
    exact PR.here S2 h2 (v :: vs) ⟨v, vs, rfl, RepV.mono T2 x v rv, rvs⟩
theorem eVals_length : ∀ {fs : List CE} {ρ : Env} {st st' : Store} {ws : List Val}, eVals fs ρ st = .ok ws st' → ws.length = fs.length
  | [], ρ, st, st', ws, h => by cases h; rfl
  | f :: fs, ρ, st, st', ws, h => by
    have h' : (f ρ st).bind (fun x => eVals fs ρ >>= fun xs => pure (x :: xs)) = .ok ws st' := h
    cases e : f ρ st with
    | bad => rw [e] at h'; cases h'
    | exc x s => rw [e] at h'; cases h'
    | ok x s =>
      rw [e] at h'
      have h2 : (eVals fs ρ s).bind (fun xs => pure (x :: xs)) = .ok ws st' := h'
      cases e2 : eVals fs ρ s with
      | bad => rw [e2] at h2; cases h2
      | exc x s => rw [e2] at h2; cases h2
      | ok xs s2 =>
        rw [e2] at h2
        cases h2
        rw [List.length_cons, List.length_cons, eVals_length e2]
/-- a result's list has so many items -/
theorem PR.lenOf {K : PySem.W.Frag} {σ : L2.St} {m : Mp} {st : Store} {H : Hp} {fs : List CE} {ρ : Env} {ok : List Val → Mp → Store → Hp → Prop} (h : PR K CA XR W σ (eVals fs ρ st) m st H ok) :
    PR K CA XR W σ (eVals fs ρ st) m st H fun ws m' st' H' => ws.length = fs.length ∧ ok ws m' st' H' := by
  cases e : eVals fs ρ st with
  | bad => rw [e] at h; exact h
  | exc x s => rw [e] at h; exact h
  | ok ws s => rw [e] at h; exact fun m' H' S T => ⟨eVals_length e, h m' H' S T⟩
theorem se_lst (cell : Bool) {fs : List CE} (h : SA CA XR X W es (eVals fs)) (hz : fs.length ≤ L := by first | decide | (simp only [List.length_cons, List.length_nil]; decide)) : SE CA XR X W (.List es pos) (eLst cell fs) := PE.weak (pe_lst h) fun σ H Q ⟨m, st, ρ, S, E, q⟩ => by
  refine ⟨m, st, ρ, S, E, (PR.bind_of q).lenOf.mono fun ws m1 st1 H1 S1 T1 h1 vs rs => ?_⟩
  have hl : ws.length ≤ L := by rw [h1.1]; exact hz
  exact ⟨by rw [← rs.length]; exact lineOf hl, newL_ok S1 rs hl h1.2⟩
theorem se_tup (cell : Bool) {fs : List CE} {x1 : Nat} (h : SA CA XR X W es (eVals fs)) (hz : fs.length ≤ L := by first | decide | (simp only [List.length_cons, List.length_nil]; decide)) : SE CA XR X W (.Tuple es x1 pos) (eTup cell fs) := PE.weak (pe_tup h) fun σ H Q ⟨m, st, ρ, S, E, q⟩ => by
  refine ⟨m, st, ρ, S, E, (PR.bind_of q).lenOf.mono fun ws m1 st1 H1 S1 T1 h1 vs rs => ?_⟩
  have hl : ws.length ≤ L := by rw [h1.1]; exact hz
  exact ⟨by rw [← rs.length]; exact lineOf hl, newT_ok S1 rs hl h1.2⟩
end
end Fl
set_option Elab.async false
set_option linter.all false
set_option maxRecDepth 100000
set_option maxHeartbeats 2000000
/-! Fl over the layer: subscripts, slices, dicts, built-ins. -/
namespace Fl
open PySem PySem.Spec L2

section
variable {tb : Tab} {G : FEnv} {CA : Tags} {XR : XRel} {k : Nat} {N : List Str} {sc : Scope} {own : Str → Bool} {X : Cx} {W : WX}
variable {a b c e o : Expr} {es : List Expr} {pos pos' p2 p1 : Pos} {f g h : CE} {t u : CT}

/-! ### subscripts -/
def rDgt : R2 := fun x y H Q => ∃ a v, x = .ref a ∧ DGet H a y (some v) ∧ Q v H
theorem ix_dict (hu : X.A.units + 1 < cLine) : IxR X rDgt := by
  intro value slice pins s σ H x y v u Q I rx ry h hs
  obtain ⟨a, w, rfl, g, q⟩ := h
  obtain rfl : v = Value.ref a := rx
  exact PyProof.Rows.tail_any (dict_typeIs I g) PySem.F.slot_dict_getitem.lookup (d_getItem hu I g ry fun w' s3 I3 rw' => ⟨w, H, I3, rw', q⟩) hs
theorem at_of {α β : Type} {xs : List α} {ys : List β} {i : Int} {j : Nat} {y : β} (hl : xs.length = ys.length) (h : pyIx xs.length i = some j) (hy : ys[j]? = some y) : atI ys i = some y := by
  unfold atI
  have e : ixN ys.length i = some j := by rw [← hl]; exact h
  rw [e]; exact hy
theorem chr_at {x : String} {n : Nat} {c : Char} (h : x.toList[n]? = some c) : (Str.ofString x).cps.toList[n]? = some c.toNat := by
  rw [Str.ofString_eq_toList]
  simp only [List.getElem?_map, h, Option.map_some]
theorem chr_one (c : Char) : (⟨#[c.toNat]⟩ : Str) = Str.ofString (String.singleton c) := by
  rw [Str.ofString_eq_toList]
  simp
theorem se_ix (C : Cw tb G CA XR k N sc own X W) (ha : SE CA XR X W a f) (hb : SE CA XR X W b g) (hs : PlainIx b := by intro _ _; rfl) : SE CA XR X W (.Subscript a b pos) (e2 subI f g) := by
  refine PE.weak (pe_ix ((ix_dict C.u1).or (ix_seq (X := X))) ha hb hs) fun σ H Q q => two (fun x y m st H v w Q S rx ry q => ?_) q
  unfold subI at q
  split at q
  · -- a text
    split at q
    · rename_i kk
      cases rx; cases ry
      split at q
      · rename_i n en
        split at q
        · rename_i c ec
          split at q
          · rename_i hz
            refine .inr (.inr (.inr ⟨_, _, c.toNat, rfl, rfl, by rw [ofStr_len]; exact lineOf hz, ?_, by rw [chr_one]; exact PR.here S q _ rfl⟩))
            refine at_of (xs := (Str.ofString _).cps.toList) rfl ?_ (chr_at ec)
            rw [Str.ofString_eq_toList]
            simp only [List.length_map]
            rw [String.length_toList]
            exact en
          · exact q.elim
        · exact q.elim
      · exact q.elim
    · exact q.elim
  · rename_i kvs
    obtain ⟨p, us, rfl, ⟨hp, _⟩, z, rk⟩ := rx
    split at q
    · rename_i kk ek
      split at q
      · rename_i d ed
        have := RepK.val kk rk
        rw [ed] at this
        obtain ⟨v', e', r'⟩ := this
        refine .inl ⟨p, v', rfl, ?_, PR.here S q _ r'⟩
        rw [keyOf_rep ry ek, ← e']; exact .k hp
      · exact q.elim
    · exact q.elim
  · rename_i ts
    obtain ⟨p, us, rfl, ⟨hp, _⟩, z, rk⟩ := rx
    split at q
    · rename_i kk
      cases ry
      split at q
      · rename_i n en
        split at q
        · rename_i d ed
          obtain ⟨v', e', r'⟩ := rk.get ed
          exact .inr (.inl ⟨p, us, _, v', rfl, rfl, .of hp, at_of rk.length en e', PR.here S q _ r'⟩)
        · exact q.elim
      · exact q.elim
    · exact q.elim
  · rename_i ts
    obtain ⟨p, us, rfl, hp, z, rk⟩ := rx
    split at q
    · rename_i kk
      cases ry
      split at q
      · rename_i n en
        split at q
        · rename_i d ed
          obtain ⟨v', e', r'⟩ := rk.get ed
          refine .inr (.inr (.inl ⟨p, us, _, v', rfl, rfl, ?_, at_of rk.length en e', PR.here S q _ r'⟩))
          rcases hp with hp | hp
          · exact .of hp.1
          · exact hp H
        · exact q.elim
      · exact q.elim
    · exact q.elim
  · rename_i n
    obtain ⟨_, rfl⟩ := rx
    cases ec : st.cell n with
    | none => rw [ec] at q; exact q.elim
    | some d =>
      rw [ec] at q
      cases d with
      | dct kvs =>
        obtain ⟨us, hp, z, rk⟩ := S.cells n _ ec
        dsimp only at q
        split at q
        · rename_i kk ek
          split at q
          · rename_i d ed
            have := RepVK.val kk rk
            rw [ed] at this
            obtain ⟨v', e', r'⟩ := this
            refine .inl ⟨m n, v', rfl, ?_, PR.here S q _ r'⟩
            rw [keyOf_rep ry ek, ← e']; exact .k hp
          · exact q.elim
        · exact q.elim
      | lst ws =>
        obtain ⟨us, hp, z, rk⟩ := S.cells n _ ec
        dsimp only at q
        split at q
        · rename_i kk
          cases ry
          split at q
          · rename_i j en
            split at q
            · rename_i d ed
              obtain ⟨v', e', r'⟩ := rk.get ed
              exact .inr (.inl ⟨m n, us, _, v', rfl, rfl, .of hp, at_of rk.length en e', PR.here S q _ r'⟩)
            · exact q.elim
          · exact q.elim
        · exact q.elim
      | tup ws =>
        obtain ⟨us, hp, z, rk⟩ := S.cells n _ ec
        dsimp only at q
        split at q
        · rename_i kk
          cases ry
          split at q
          · rename_i j en
            split at q
            · rename_i d ed
              obtain ⟨v', e', r'⟩ := rk.get ed
              exact .inr (.inr (.inl ⟨m n, us, _, v', rfl, rfl, .of hp, at_of rk.length en e', PR.here S q _ r'⟩))
            · exact q.elim
          · exact q.elim
        · exact q.elim
      | kd _ => exact (S.cells n _ ec).elim
      | ins _ _ => exact q.elim
  · exact q.elim

/-! ### slices -/
theorem cut_eq (vs : List V) (lo hi : Option Int) : cutV vs lo hi = slice vs lo hi := rfl
theorem RepVs.slice {K : PySem.W.Frag} {m : Mp} {st : Store} {H : Hp} {ws : List Val} {us : List V} (r : RepVs K m st H ws us) (lo hi : Option Int) : RepVs K m st H (slice ws lo hi) (slice us lo hi) := by
  unfold Fl.slice
  rw [r.length]
  exact (r.drop _).take _
theorem slice_len {α : Type} (xs : List α) (lo hi : Option Int) : (slice xs lo hi).length ≤ xs.length := by
  unfold slice
  rw [List.length_take, List.length_drop]
  omega
def partM (e : Option CE) (ρ : Env) : M (Option Int) := match e with
  | none => pure none
  | some e => e ρ >>= fun x => getInt x >>= fun i => pure (some i)
def tMO (K : PySem.W.Frag) (CA : Tags) (XR : XRel) (W : WX) (f : Option CE) : TO := fun σ H Q => ∃ m st ρ, SR K CA m st H ∧ ER K m st H ρ σ ∧ PR K CA XR W σ (partM f ρ st) m st H fun b m' st' H' => Q b H'
abbrev SO' (CA : Tags) (XR : XRel) (X : Cx) (W : WX) (e : Option Expr) (f : Option CE) : Prop := PO X e (tMO X.K CA XR W f)
theorem PO.weak {X : Cx} {e : Option Expr} {t t' : TO} (h : PO X e t) (k : ∀ σ H Q, t' σ H Q → t σ H Q) : PO X e t' := ⟨fun pins s σ H Q I q => h.run pins s σ H Q I (k σ H Q q)⟩
theorem so_none : SO' CA XR X W none none := PO.weak po_none fun σ H Q ⟨m, st, ρ, S, E, q⟩ => PR.here S q
theorem so_some (ha : SE CA XR X W a f) : SO' CA XR X W (some a) (some f) := PO.weak (po_some ha) fun σ H Q ⟨m, st, ρ, S, E, q⟩ => by
  refine ⟨m, st, ρ, S, E, (PR.bind_of q).mono fun x m1 st1 H1 S1 T1 h1 v rv => ?_⟩
  obtain ⟨i, rfl, rfl, h1⟩ := getInt_ok rv h1
  exact ⟨i, rfl, PR.here S1 h1⟩
theorem eSlice_eq (cell : Bool) (f : CE) (lo hi : Option CE) (ρ : Env) : eSlice cell f lo hi ρ = (f ρ >>= fun v => partM lo ρ >>= fun l => partM hi ρ >>= fun h => sliceV cell v l h) := rfl
theorem se_slice (cell : Bool) {lo hi : Option Expr} {fl fh : Option CE} (ha : SE CA XR X W a f) (hl : SO' CA XR X W lo fl) (hh : SO' CA XR X W hi fh) : SE CA XR X W (.Subscript a (.Slice lo hi none p2) pos) (eSlice cell f fl fh) := by
  refine PE.weak (pe_slice (sl_list.or sl_tup) ha hl hh) fun σ H Q ⟨m, st, ρ, S, E, q⟩ => ?_
  refine ⟨m, st, ρ, S, E, (PR.bind_of q).mono fun x m1 st1 H1 S1 T1 h1 v rv => ?_⟩
  refine ⟨m1, st1, ρ, S1, E.mono T1, (PR.bind_of h1).mono fun l m2 st2 H2 S2 T2 h2 => ?_⟩
  refine ⟨m2, st2, ρ, S2, (E.mono T1).mono T2, (PR.bind_of h2).mono fun u m3 st3 H3 S3 T3 h3 => ?_⟩
  have rv3 := RepV.mono T3 x v (RepV.mono T2 x v rv)
  unfold sliceV at h3
  split at h3
  · rename_i ts
    obtain ⟨p, us, rfl, hp, z, rk⟩ := rv3
    split at h3
    · exact h3.elim
    · rename_i hne
      refine .inr ⟨p, us, rfl, ?_, ?_, fun q hq => ?_⟩
      · rcases hp with hp | hp
        · exact .of hp.1
        · exact hp H3
      · rw [← rk.length]; exact hne
      · obtain ⟨T, S'⟩ := S3.fresh (o := .tup (cutV us l u)) hq
        refine h3 m3 _ S' T _ ⟨q, cutV us l u, rfl, .inl ⟨upd_same, S3.not_live hq⟩, Nat.le_trans (slice_len _ _ _) z, ?_⟩
        have rr := RepVs.slice (RepVs.of_reps (Reps.mono T.keep T.lv _ _ rk)) l u
        rw [show Fl.slice (ts.map Val.t) l u = (Fl.slice ts l u).map Val.t from by unfold Fl.slice; rw [List.length_map, ← List.map_drop, ← List.map_take]] at rr
        exact RepVs.of_trees (trees_map _) rr
  · obtain ⟨ws, p, us, rfl, hp, rk, z, h3⟩ := itemsL_ok S3 rv3 h3
    exact .inl ⟨p, us, rfl, .of hp, newL_ok S3 (rk.slice l u) (Nat.le_trans (slice_len _ _ _) z) h3⟩
end
end Fl
set_option Elab.async false
set_option linter.all false
set_option maxRecDepth 100000
set_option maxHeartbeats 2000000
/-! Fl over the layer: names of the module, built-ins. -/
namespace Fl
open PySem PySem.Spec L2

section
variable {tb : Tab} {G : FEnv} {CA : Tags} {XR : XRel} {k : Nat} {N : List Str} {sc : Scope} {own : Str → Bool} {X : Cx} {W : WX}
variable {a b c e : Expr} {es : List Expr} {pos pos' p p2 p3 : Pos} {f g h : CE} {t u : CT}

theorem gl_of (C : Cw tb G CA XR k N sc own X W) {x : Str} (h : glbB sc x = true) : Gl X x := by
  unfold glbB at h
  simp only [Bool.and_eq_true, decide_eq_true_eq] at h
  show X.env.scope.names.lookup x = _
  rw [C.sc]; exact h.1.1
theorem gl_dbg {x : Str} (h : glbB sc x = true) : (x == ("__debug__" : Str)) = false := by
  unfold glbB at h
  simp only [Bool.and_eq_true, Bool.not_eq_true'] at h
  exact h.1.2
theorem gl_nm {x : Str} (h : glbB sc x = true) : x ≠ "__name__" := fun e => by
  unfold glbB at h
  simp only [Bool.and_eq_true, Bool.not_eq_true'] at h
  have := h.2
  rw [e] at this
  simp at this
/-- a name of a built-in, here -/
def bltB (tb : Tab) (sc : Scope) (x : Str) : Bool := glbB sc x && tb.free.contains x
theorem blt_gl {x : Str} (h : bltB tb sc x = true) : glbB sc x = true := by unfold bltB at h; simp only [Bool.and_eq_true] at h; exact h.1
theorem blt_mg (C : Cw tb G CA XR k N sc own X W) {x : Str} (h : bltB tb sc x = true) : X.mg x = none := by
  unfold bltB at h
  simp only [Bool.and_eq_true] at h
  exact C.glob.free x (by simpa using h.2)
theorem se_glob (C : Cw tb G CA XR k N sc own X W) {x : Str} {d : T} (h : glbB sc x = true) (hm : (x, d) ∈ tb.consts) : SE CA XR X W (.Name x pos) (eC d) := by
  obtain ⟨u, v, h1, h2, h3⟩ := C.glob.consts x d hm
  exact PE.weak (pe_glob (gl_of C h) h1 h2 (gl_dbg h)) fun σ H Q ⟨m, st, ρ, S, E, q⟩ => PR.here S q v (h3 H _)

theorem RepK.length {K : PySem.W.Frag} {H : Hp} {lv : Addr → Prop} : ∀ {ts : List (Key × T)} {vs : List (L2.Key × V)}, RepK K H lv ts vs → ts.length = vs.length
  | [], _, h => by rw [show _ = _ from h]; rfl
  | _ :: r, _, ⟨v, q, e, _, h⟩ => by rw [e, List.length_cons, List.length_cons, RepK.length h]

/-! ### one argument, two -/
theorem call1 {id : String} {x : Str} {k1 : Val → M Val} {r : List V → Hp → VK → Prop} (C : Cw tb G CA XR k N sc own X W) (h : bltB tb sc x = true) (hc : CallR X (.builtin id) r) (hv : bootBuiltins x = some (.builtin id))
    (hk : ∀ σ y m st H v Q, SR X.K CA m st H → RepV X.K m st H y v → PR X.K CA XR W σ (k1 y st) m st H (fun a m' st' H' => ∀ u, RepV X.K m' st' H' a u → Q u H') → r [v] H Q)
    (ha : SE CA XR X W a f) (hs : starEach [a] X.env = (false, eval a X.env) :: starEach [] X.env := by rfl) : SE CA XR X W (.Call (.Name x p) [a] [] pos) (e1 k1 f) :=
  PE.weak (pe_callB hc (gl_of C (blt_gl h)) (blt_mg C h) hv (pa_cons ha pa_nil hs) (gl_nm (blt_gl h)) (gl_dbg (blt_gl h)) hs rfl) fun σ H Q q => one (r := fun v H Q => r [v] H Q) (hk σ) q
theorem callT1 {id : String} {x : Str} {k1 : Val → M Val} {r : List V → Hp → VK → Prop} (C : Cw tb G CA XR k N sc own X W) (h : bltB tb sc x = true) (hc : CallR X (.type id) r) (hv : bootBuiltins x = some (.type id))
    (hk : ∀ σ y m st H v Q, SR X.K CA m st H → RepV X.K m st H y v → PR X.K CA XR W σ (k1 y st) m st H (fun a m' st' H' => ∀ u, RepV X.K m' st' H' a u → Q u H') → r [v] H Q)
    (ha : SE CA XR X W a f) (hs : starEach [a] X.env = (false, eval a X.env) :: starEach [] X.env := by rfl) : SE CA XR X W (.Call (.Name x p) [a] [] pos) (e1 k1 f) :=
  PE.weak (pe_callTy hc (gl_of C (blt_gl h)) (blt_mg C h) hv (pa_cons ha pa_nil hs) (gl_nm (blt_gl h)) (gl_dbg (blt_gl h)) hs rfl) fun σ H Q q => one (r := fun v H Q => r [v] H Q) (hk σ) q
theorem call2 {id : String} {x : Str} {k2 : Val → Val → M Val} {r : List V → Hp → VK → Prop} (C : Cw tb G CA XR k N sc own X W) (h : bltB tb sc x = true) (hc : CallR X (.builtin id) r) (hv : bootBuiltins x = some (.builtin id))
    (hk : ∀ σ y z m st H v w Q, SR X.K CA m st H → RepV X.K m st H y v → RepV X.K m st H z w → PR X.K CA XR W σ (k2 y z st) m st H (fun a m' st' H' => ∀ u, RepV X.K m' st' H' a u → Q u H') → r [v, w] H Q)
    (ha : SE CA XR X W a f) (hb : SE CA XR X W b g) (hs : starEach [a, b] X.env = (false, eval a X.env) :: starEach [b] X.env := by rfl) (hs2 : starEach [b] X.env = (false, eval b X.env) :: starEach [] X.env := by rfl) :
    SE CA XR X W (.Call (.Name x p) [a, b] [] pos) (e2 k2 f g) :=
  PE.weak (pe_callB hc (gl_of C (blt_gl h)) (blt_mg C h) hv (pa_cons ha (pa_cons hb pa_nil hs2) hs) (gl_nm (blt_gl h)) (gl_dbg (blt_gl h)) hs (by rw [hs2] <;> rfl)) fun σ H Q q => two (r := fun v w H Q => r [v, w] H Q) (hk σ) q

/-! ### the built-ins -/
theorem se_abs (C : Cw tb G CA XR k N sc own X W) (h : bltB tb sc "abs" = true) (ha : SE CA XR X W a f) (hs : starEach [a] X.env = (false, eval a X.env) :: starEach [] X.env := by rfl) : SE CA XR X W (.Call (.Name "abs" p) [a] [] pos) (e1 absV f) := by
  refine call1 C h call_abs PyProof.Rows.boot_abs (fun σ x m st H v Q S r q => ?_) ha hs
  unfold absV at q
  split at q
  · cases r; exact ⟨_, rfl, PR.here S q _ rfl⟩
  · exact q.elim
theorem se_intT (C : Cw tb G CA XR k N sc own X W) (h : bltB tb sc "int" = true) (ha : SE CA XR X W a f) (hs : starEach [a] X.env = (false, eval a X.env) :: starEach [] X.env := by rfl) : SE CA XR X W (.Call (.Name "int" p) [a] [] pos) (e1 intV f) := by
  refine callT1 C h call_int1 PyProof.Rows.boot_int (fun σ x m st H v Q S r q => ?_) ha hs
  unfold intV at q
  split at q
  · cases r; exact .inl ⟨_, rfl, PR.here S q _ rfl⟩
  · cases r; exact .inr ⟨_, rfl, PR.here S q _ rfl⟩
  · exact q.elim
theorem se_strT (C : Cw tb G CA XR k N sc own X W) (h : bltB tb sc "str" = true) (ha : SE CA XR X W a f) (hs : starEach [a] X.env = (false, eval a X.env) :: starEach [] X.env := by rfl) : SE CA XR X W (.Call (.Name "str" p) [a] [] pos) (e1 strV f) := by
  refine callT1 C h call_str_int PyProof.Rows.boot_str (fun σ x m st H v Q S r q => ?_) ha hs
  unfold strV at q
  split at q
  · cases r
    split at q
    · rename_i i hi
      refine ⟨_, rfl, ?_, PR.here S q _ rfl⟩
      by_cases z : i.natAbs = 0
      · rw [z]; decide
      · exact Nat.lt_trans ((Nat.log2_lt z).mpr hi) (by decide)
    · exact q.elim
  · exact q.elim
theorem se_max2 (C : Cq tb G CA XR k N sc own X W) (h : bltB tb sc "max" = true) (ha : SE CA XR X W a f) (hb : SE CA XR X W b g) (hs : starEach [a, b] X.env = (false, eval a X.env) :: starEach [b] X.env := by rfl) (hs2 : starEach [b] X.env = (false, eval b X.env) :: starEach [] X.env := by rfl) :
    SE CA XR X W (.Call (.Name "max" p) [a, b] [] pos) (e2 max2 f g) := by
  refine call2 C.toCw h (call_max2 C.calm) PyProof.Rows.boot_max (fun σ x y m st H v w Q S r r' q => ?_) ha hb hs hs2
  unfold max2 at q
  split at q
  · cases r; cases r'; exact ⟨_, _, rfl, PR.here S q _ rfl⟩
  · exact q.elim
theorem se_min2 (C : Cq tb G CA XR k N sc own X W) (h : bltB tb sc "min" = true) (ha : SE CA XR X W a f) (hb : SE CA XR X W b g) (hs : starEach [a, b] X.env = (false, eval a X.env) :: starEach [b] X.env := by rfl) (hs2 : starEach [b] X.env = (false, eval b X.env) :: starEach [] X.env := by rfl) :
    SE CA XR X W (.Call (.Name "min" p) [a, b] [] pos) (e2 min2 f g) := by
  refine call2 C.toCw h (call_min2 C.calm) (by decide +kernel) (fun σ x y m st H v w Q S r r' q => ?_) ha hb hs hs2
  unfold min2 at q
  split at q
  · cases r; cases r'; exact ⟨_, _, rfl, PR.here S q _ rfl⟩
  · exact q.elim
theorem se_len (C : Cw tb G CA XR k N sc own X W) (h : bltB tb sc "len" = true) (ha : SE CA XR X W a f) (hs : starEach [a] X.env = (false, eval a X.env) :: starEach [] X.env := by rfl) : SE CA XR X W (.Call (.Name "len" p) [a] [] pos) (e1 lenV f) := by
  refine call1 C h (call_len_seq.or call_lenD) boot_len (fun σ x m st H v Q S r q => ?_) ha hs
  unfold lenV at q
  split at q
  · obtain ⟨a, us, rfl, ⟨h, _⟩, z, rs⟩ := r
    exact .inl ⟨a, us, rfl, .inl (.of h), PR.here S q _ (by rw [rs.length]; rfl)⟩
  · obtain ⟨a, us, rfl, h, z, rs⟩ := r
    refine .inl ⟨a, us, rfl, .inr ?_, PR.here S q _ (by rw [rs.length]; rfl)⟩
    rcases h with h | h
    · exact .of h.1
    · exact h H
  · obtain ⟨a, us, rfl, h, z, rs⟩ := r
    refine .inr ⟨a, us, rfl, h.1, PR.here S q _ ?_⟩
    rw [RepK.length rs]; rfl
  · rename_i n
    obtain ⟨_, rfl⟩ := r
    cases e : st.cell n with
    | none => rw [e] at q; exact q.elim
    | some d =>
      rw [e] at q
      cases d with
      | lst ws =>
        obtain ⟨us, h, z, rs⟩ := S.cells n _ e
        exact .inl ⟨m n, us, rfl, .inl (.of h), PR.here S q _ (by rw [rs.length]; rfl)⟩
      | tup ws =>
        obtain ⟨us, h, z, rs⟩ := S.cells n _ e
        exact .inl ⟨m n, us, rfl, .inr (.of h), PR.here S q _ (by rw [rs.length]; rfl)⟩
      | dct ws =>
        obtain ⟨us, h, z, rs⟩ := S.cells n _ e
        exact .inr ⟨m n, us, rfl, h, PR.here S q _ (by rw [rs.length]; rfl)⟩
      | _ => exact q.elim
  · exact q.elim
theorem se_sum (C : Cq tb G CA XR k N sc own X W) (h : bltB tb sc "sum" = true) (ha : SE CA XR X W a f) (hs : starEach [a] X.env = (false, eval a X.env) :: starEach [] X.env := by rfl) : SE CA XR X W (.Call (.Name "sum" p) [a] [] pos) (e1 sumV f) := by
  refine call1 C.toCw h (cr_sum C.calm) (by decide +kernel) (fun σ x m st H v Q S r q => ?_) ha hs
  obtain ⟨ws, ad, us, rfl, h1, r1, z1, q⟩ := itemsL_ok S r q
  cases e : Fl.intsOf ws with
  | none => rw [e] at q; exact q.elim
  | some ns =>
    rw [e] at q
    have := RepVs.toInts (ns := ns) e r1
    subst this
    exact ⟨ad, ns, rfl, .of h1, PR.here S q _ rfl⟩
theorem maxL_max : ∀ {ns : List Int} {m x : Int}, m ∈ (x :: ns) → (∀ y, y ∈ (x :: ns) → y ≤ m) → ns.foldl (fun a b => if b > a then b else a) x = m
  | [], m, x, h, _ => by simp at h; exact h.symm
  | y :: r, m, x, h, k => by
    rw [List.foldl_cons]
    refine maxL_max ?_ ?_
    · by_cases z : y > x
      · rw [if_pos z]
        rcases List.mem_cons.mp h with e | e
        · exact absurd (k y (by simp)) (by omega)
        · exact e
      · rw [if_neg z]
        rcases List.mem_cons.mp h with e | e
        · simp [e]
        · rcases List.mem_cons.mp e with e | e
          · have := k x (by simp)
            have : m = x := by omega
            simp [this]
          · exact List.mem_cons_of_mem _ e
    · intro w hw
      rcases List.mem_cons.mp hw with e | e
      · by_cases z : y > x
        · rw [if_pos z] at e; exact k w (by simp [e])
        · rw [if_neg z] at e; exact k w (by simp [e])
      · exact k w (by simp [e])
theorem se_max (C : Cq tb G CA XR k N sc own X W) (h : bltB tb sc "max" = true) (ha : SE CA XR X W a f) (hs : starEach [a] X.env = (false, eval a X.env) :: starEach [] X.env := by rfl) : SE CA XR X W (.Call (.Name "max" p) [a] [] pos) (e1 maxV f) := by
  refine call1 C.toCw h (cr_max C.calm) PyProof.Rows.boot_max (fun σ x m st H v Q S r q => ?_) ha hs
  obtain ⟨ws, ad, us, rfl, h1, r1, z1, q⟩ := itemsL_ok S r q
  cases e : Fl.intsOf ws with
  | none => rw [e] at q; exact q.elim
  | some ns =>
    rw [e] at q
    have := RepVs.toInts (ns := ns) e r1
    subst this
    cases ns with
    | nil => exact q.elim
    | cons y r =>
      refine ⟨ad, y :: r, rfl, .of h1, by simp, fun mx hm hmx => ?_⟩
      have e2 : maxL (y :: r) = some mx := congrArg some (maxL_max hm hmx)
      dsimp only at q
      rw [e2] at q
      exact PR.here S q _ rfl
theorem se_list (C : Cw tb G CA XR k N sc own X W) (cell : Bool) (h : bltB tb sc "list" = true) (ha : SE CA XR X W a f) (hs : starEach [a] X.env = (false, eval a X.env) :: starEach [] X.env := by rfl) : SE CA XR X W (.Call (.Name "list" p) [a] [] pos) (e1 (listV cell) f) := by
  refine callT1 C h call_list_of PyProof.Rows.boot_list (fun σ x m st H v Q S r q => ?_) ha hs
  obtain ⟨ws, ad, us, rfl, h1, r1, z1, q⟩ := items_ok S r q
  exact ⟨ad, us, rfl, h1, newL_ok S r1 z1 q⟩
theorem se_tuple (C : Cw tb G CA XR k N sc own X W) (cell : Bool) (h : bltB tb sc "tuple" = true) (ha : SE CA XR X W a f) (hs : starEach [a] X.env = (false, eval a X.env) :: starEach [] X.env := by rfl) : SE CA XR X W (.Call (.Name "tuple" p) [a] [] pos) (e1 (tupleV cell) f) := by
  refine callT1 C h call_tuple_of PyProof.Rows.boot_tuple (fun σ x m st H v Q S r q => ?_) ha hs
  obtain ⟨ws, ad, us, rfl, h1, r1, z1, q⟩ := itemsL_ok S r q
  exact ⟨ad, us, rfl, .inl ⟨.of h1, newT_ok S r1 z1 q⟩⟩
theorem RepVs.toBls {K : PySem.W.Frag} {m : Mp} {st : Store} {H : Hp} : ∀ {ws : List Val} {bs : List Bool} {vs : List V}, boolsOf ws = some bs → RepVs K m st H ws vs → vs = bs.map V.bl
  | [], ns, vs, h, r => by simp only [boolsOf, Option.some.injEq] at h; subst h; exact r
  | .t (.bl d) :: q, ns, vs, h, ⟨v, vr, e, r1, r2⟩ => by
    simp only [boolsOf] at h
    cases e2 : boolsOf q with
    | none => rw [e2] at h; cases h
    | some tq =>
      rw [e2] at h
      simp only [Option.some.injEq] at h
      subst h
      rw [e, List.map_cons, RepVs.toBls e2 r2, show v = .bl d from r1]
  | .t .non :: q, ns, vs, h, r => by simp [boolsOf] at h
  | .t (.int _) :: q, ns, vs, h, r => by simp [boolsOf] at h
  | .t (.str _) :: q, ns, vs, h, r => by simp [boolsOf] at h
  | .t (.tup _) :: q, ns, vs, h, r => by simp [boolsOf] at h
  | .t (.lst _) :: q, ns, vs, h, r => by simp [boolsOf] at h
  | .t (.dct _) :: q, ns, vs, h, r => by simp [boolsOf] at h
  | .t (.rp _) :: q, ns, vs, h, r => by simp [boolsOf] at h
  | .loc n :: q, ns, vs, h, r => by simp [boolsOf] at h
  | .scr n :: q, ns, vs, h, r => by simp [boolsOf] at h
  | .ex n :: q, ns, vs, h, r => by simp [boolsOf] at h
theorem RepVs.toStrs {K : PySem.W.Frag} {m : Mp} {st : Store} {H : Hp} : ∀ {ws : List Val} {bs : List String} {vs : List V}, strsOf ws = some bs → RepVs K m st H ws vs → vs = (bs.map Str.ofString).map V.str
  | [], ns, vs, h, r => by simp only [strsOf, Option.some.injEq] at h; subst h; exact r
  | .t (.str d) :: q, ns, vs, h, ⟨v, vr, e, r1, r2⟩ => by
    simp only [strsOf] at h
    cases e2 : strsOf q with
    | none => rw [e2] at h; cases h
    | some tq =>
      rw [e2] at h
      simp only [Option.some.injEq] at h
      subst h
      rw [e, List.map_cons, List.map_cons, RepVs.toStrs e2 r2, show v = .str (Str.ofString d) from r1]
  | .t .non :: q, ns, vs, h, r => by simp [strsOf] at h
  | .t (.int _) :: q, ns, vs, h, r => by simp [strsOf] at h
  | .t (.bl _) :: q, ns, vs, h, r => by simp [strsOf] at h
  | .t (.tup _) :: q, ns, vs, h, r => by simp [strsOf] at h
  | .t (.lst _) :: q, ns, vs, h, r => by simp [strsOf] at h
  | .t (.dct _) :: q, ns, vs, h, r => by simp [strsOf] at h
  | .t (.rp _) :: q, ns, vs, h, r => by simp [strsOf] at h
  | .loc n :: q, ns, vs, h, r => by simp [strsOf] at h
  | .scr n :: q, ns, vs, h, r => by simp [strsOf] at h
  | .ex n :: q, ns, vs, h, r => by simp [strsOf] at h
theorem se_any (C : Cq tb G CA XR k N sc own X W) (h : bltB tb sc "any" = true) (ha : SE CA XR X W a f) (hs : starEach [a] X.env = (false, eval a X.env) :: starEach [] X.env := by rfl) : SE CA XR X W (.Call (.Name "any" p) [a] [] pos) (e1 anyV f) := by
  refine call1 C.toCw h (cr_any C.calm) (by decide +kernel) (fun σ x m st H v Q S r q => ?_) ha hs
  obtain ⟨ws, ad, us, rfl, h1, r1, z1, q⟩ := itemsL_ok S r q
  cases e : boolsOf ws with
  | none => rw [e] at q; exact q.elim
  | some ns =>
    rw [e] at q
    have := RepVs.toBls e r1
    subst this
    exact ⟨ad, ns, rfl, .of h1, PR.here S q _ rfl⟩
theorem se_all (C : Cq tb G CA XR k N sc own X W) (h : bltB tb sc "all" = true) (ha : SE CA XR X W a f) (hs : starEach [a] X.env = (false, eval a X.env) :: starEach [] X.env := by rfl) : SE CA XR X W (.Call (.Name "all" p) [a] [] pos) (e1 allV f) := by
  refine call1 C.toCw h (cr_all C.calm) (by decide +kernel) (fun σ x m st H v Q S r q => ?_) ha hs
  obtain ⟨ws, ad, us, rfl, h1, r1, z1, q⟩ := itemsL_ok S r q
  cases e : boolsOf ws with
  | none => rw [e] at q; exact q.elim
  | some ns =>
    rw [e] at q
    have := RepVs.toBls e r1
    subst this
    exact ⟨ad, ns, rfl, .of h1, PR.here S q _ rfl⟩
end
end Fl
set_option Elab.async false
set_option linter.all false
set_option maxRecDepth 100000
set_option maxHeartbeats 2000000
/-! Fl over the layer: isinstance, methods of lists. -/
namespace Fl
open PySem PySem.Spec L2

def isiT (a c : String) : Bool := a == c || (a == "bool" && c == "int")
def dataTys : List String := ["NoneType", "bool", "int", "str", "tuple", "list", "dict"]
theorem kit_tab : ∀ a ∈ dataTys, ∀ c ∈ ["bool", "int", "str", "tuple", "list", "dict"], kitB a c = some (isiT a c) := by decide +kernel
theorem boot_tab : ∀ c ∈ ["bool", "int", "str", "tuple", "list", "dict"], bootBuiltins (Str.ofString c) = some (.type c) := by decide +kernel

section
variable {tb : Tab} {G : FEnv} {CA : Tags} {XR : XRel} {k : Nat} {N : List Str} {sc : Scope} {own : Str → Bool} {X : Cx} {W : WX}
variable {a b c d e : Expr} {es : List Expr} {pos pos' apos cpos p p2 p3 : Pos} {f g h : CE} {t u : CT}

/-- a value's type, its answer -/
theorem isi_facts {m : Mp} {st : Store} {H : Hp} {x : Val} {v : V} (S : SR X.K CA m st H) (r : RepV X.K m st H x v) : (∀ c, isiV c x st = .bad) ∨ ∃ ty, ty ∈ dataTys ∧ TyX X.K H v (.type ty) ∧ ∀ c ∈ ["bool", "int", "str", "tuple", "list", "dict"], isiV c x st = .ok (isiT ty c) st := by
  cases x with
  | ex y => exact .inl fun _ => rfl
  | t d =>
    cases d with
    | non => cases r; exact .inr ⟨"NoneType", by decide, .base .non, fun c hc => congrArg (fun b => R.ok b st) (show false = isiT "NoneType" c by revert c; decide)⟩
    | bl b => cases r; exact .inr ⟨"bool", by decide, .base (.bl b), fun c hc => congrArg (fun b => R.ok b st) (show (c == "bool" || c == "int") = isiT "bool" c by revert c; decide)⟩
    | int b => cases r; exact .inr ⟨"int", by decide, .base (.int b), fun c hc => congrArg (fun b => R.ok b st) (show (c == "int") = isiT "int" c by revert c; decide)⟩
    | str b => cases r; exact .inr ⟨"str", by decide, .base (.str _), fun c hc => congrArg (fun b => R.ok b st) (show (c == "str") = isiT "str" c by revert c; decide)⟩
    | rp b => cases r; exact .inr ⟨"str", by decide, .base (.str _), fun c hc => congrArg (fun b => R.ok b st) (show (c == "str") = isiT "str" c by revert c; decide)⟩
    | tup ts =>
      obtain ⟨a, us, rfl, h, z, rs⟩ := r
      refine .inr ⟨"tuple", by decide, ?_, fun c hc => congrArg (fun b => R.ok b st) (show (c == "tuple") = isiT "tuple" c by revert c; decide)⟩
      rcases h with h | h
      · exact .base (.tup h.1)
      · rcases h (fun _ => none) with z | ⟨o, its, n, hk, hc, _⟩
        · rcases z with z | ⟨_, z⟩ <;> cases z
        · exact .kTuple hk hc
    | lst ts =>
      obtain ⟨a, us, rfl, h, z, rs⟩ := r
      exact .inr ⟨"list", by decide, .base (.lst h.1), fun c hc => congrArg (fun b => R.ok b st) (show (c == "list") = isiT "list" c by revert c; decide)⟩
    | dct ts =>
      obtain ⟨a, us, rfl, h, z, rs⟩ := r
      exact .inr ⟨"dict", by decide, .base (.dK h.1), fun c hc => congrArg (fun b => R.ok b st) (show (c == "dict") = isiT "dict" c by revert c; decide)⟩
  | scr ns =>
    obtain ⟨zl, a, rfl, h⟩ := r
    refine .inr ⟨"list", by decide, ?_, fun c hc => congrArg (fun b => R.ok b st) (show (c == "list") = isiT "list" c by revert c; decide)⟩
    have key : SqL X.K H a (ns.map V.int) := by
      rcases h with h | h
      · exact h.2.2
      · exact h H
    rcases key with (z | ⟨_, z⟩) | ⟨o, its, n, hk, hc, _⟩
    · exact .base (.lst z)
    · exact .base (.frz z)
    · exact .kList hk hc
  | loc n =>
    obtain ⟨_, rfl⟩ := r
    cases q : st.cell n with
    | none => exact .inl fun c => by simp only [isiV, q]
    | some y =>
      have z := S.cells n y q
      cases y with
      | lst ws =>
        obtain ⟨us, h, z, rs⟩ := z
        exact .inr ⟨"list", by decide, .base (.lst h), fun c hc => by
          simp only [isiV, q]
          exact congrArg (fun b => R.ok b st) (show (c == "list") = isiT "list" c by revert c; decide)⟩
      | tup ws =>
        obtain ⟨us, h, z, rs⟩ := z
        exact .inr ⟨"tuple", by decide, .base (.tup h), fun c hc => by
          simp only [isiV, q]
          exact congrArg (fun b => R.ok b st) (show (c == "tuple") = isiT "tuple" c by revert c; decide)⟩
      | dct ws =>
        obtain ⟨us, h, z, rs⟩ := z
        exact .inr ⟨"dict", by decide, .base (.dK h), fun c hc => by
          simp only [isiV, q]
          exact congrArg (fun b => R.ok b st) (show (c == "dict") = isiT "dict" c by revert c; decide)⟩
      | ins _ _ => exact .inl fun c => by simp only [isiV, q]
      | kd _ => exact .inl fun c => by simp only [isiV, q]
/-- isinstance(x, T), T a built-in type -/
theorem se_isi (C : Cw tb G CA XR k N sc own X W) (ty : String) (h : bltB tb sc "isinstance" = true) (h2 : bltB tb sc (Str.ofString ty) = true) (ht : ty ∈ ["bool", "int", "str", "tuple", "list", "dict"]) (ha : SE CA XR X W a f)
    (hs : starEach [a, .Name (Str.ofString ty) p2] X.env = (false, eval a X.env) :: starEach [.Name (Str.ofString ty) p2] X.env := by rfl) : SE CA XR X W (.Call (.Name "isinstance" p) [a, .Name (Str.ofString ty) p2] [] pos) (eB (tIsi ty f)) := by
  have hb : PE X (.Name (Str.ofString ty) p2) (tC (.ty ty)) := pe_bltn (gl_of C (blt_gl h2)) (blt_mg C h2) (boot_tab ty ht) rfl (gl_nm (blt_gl h2)) (gl_dbg (blt_gl h2))
  refine PE.weak (pe_callB call_isi (gl_of C (blt_gl h)) (blt_mg C h) PyProof.Rows.boot_isinstance (pa_cons ha (pa_cons hb pa_nil rfl) hs) (gl_nm (blt_gl h)) (gl_dbg (blt_gl h)) hs rfl) fun σ H Q ⟨m, st, ρ, S, E, q⟩ => ?_
  refine ⟨m, st, ρ, S, E, (PR.bind_of (PR.bind_of q)).mono fun x m1 st1 H1 S1 T1 h1 v rv => ?_⟩
  rcases isi_facts S1 rv with z | ⟨tn, hm, hty, z⟩
  · have : PR X.K CA XR W σ (isiV ty x st1) m1 st1 H1 _ := h1
    rw [z ty] at this; exact this.elim
  · have h3 : PR X.K CA XR W σ (isiV ty x st1) m1 st1 H1 _ := h1
    rw [z ty ht] at h3
    refine ⟨v, .ty ty, .type tn, .type ty, isiT tn ty, rfl, .ty ty, hty, kit_ty (kit_tab tn hm ty ht), ?_⟩
    exact PR.here S1 (PR.here S1 h3) _ rfl
/-- .. as a test -/
theorem st_of {t : CT} (h : SE CA XR X W e (eB t)) (he : ∀ whole, isTrue e X.env whole = (do let v ← whole; standAt e.pos; holding [v] (truthy v)) := by intro _; rfl) : STt CA XR X W e t :=
  PT.weak (pt_val h he) fun σ H Q ⟨m, st, ρ, S, E, q⟩ => ⟨m, st, ρ, S, E, by
    have key : ∀ r : R Bool, PR X.K CA XR W σ r m st H (fun b m' st' H' => Q b H') → PR X.K CA XR W σ (r.bind fun b => pure (vB b)) m st H fun x m' st' H' => ∀ v, RepV X.K m' st' H' x v → ∃ c, v = .bl c ∧ Q c H' := fun r hr => by
      cases r with
      | ok b s' => exact fun m' H' S' T v rv => ⟨b, rv, hr m' H' S' T⟩
      | exc y s' => exact hr
      | bad => exact hr
    exact key _ q⟩

/-! ### x is True -/
theorem isB_read {σ : L2.St} {H : Hp} {Q : Bool → Hp → Prop} {bb : Bool} (h : tMT X.K CA XR W (tIsB bb f) σ H Q) : tOp rIsB (tM X.K CA XR W f) (tC (.bl bb)) σ H fun z H' => ∃ b, z = .bl b ∧ Q b H' := by
  obtain ⟨m, st, ρ, S, E, q⟩ := h
  refine ⟨m, st, ρ, S, E, (PR.bind_of q).mono fun x m1 st1 H1 S1 T1 h1 v rv => ?_⟩
  unfold isB at h1
  split at h1
  · rename_i cc
    cases rv
    show ∃ a b : Bool, V.bl cc = V.bl a ∧ V.bl bb = V.bl b ∧ ∃ b_1, V.bl (decide (a = b)) = V.bl b_1 ∧ Q b_1 H1
    refine ⟨_, _, rfl, rfl, _, rfl, ?_⟩
    have := PR.here S1 h1
    rw [show decide (cc = bb) = (cc == bb) by cases cc <;> cases bb <;> rfl]
    exact this
  · exact h1.elim

theorem st_isB {bb : Bool} {j : Nat} (ha : SE CA XR X W a f) : STt CA XR X W (.Compare a [.Is] [.Constant (.bool bb) j p2] pos) (tIsB bb f) := PT.weak (pt_cmpR op_isBl ha pe_bl (nomark _)) fun σ H Q q => isB_read q
theorem se_isB {bb : Bool} {j : Nat} (ha : SE CA XR X W a f) : SE CA XR X W (.Compare a [.Is] [.Constant (.bool bb) j p2] pos) (eB (tIsB bb f)) := PE.weak (pe_cmpR op_isBl ha pe_bl (nomark _)) fun σ H Q q => by
  have z := isB_read (tMT_eB q)
  obtain ⟨m, st, ρ, S, E, q1⟩ := z
  exact ⟨m, st, ρ, S, E, q1.mono fun x m1 st1 H1 S1 T1 h1 v rv => by
    obtain ⟨a, b, e1, e2, c, e3, q2⟩ := h1 v rv
    exact ⟨a, b, e1, e2, by rw [e3]; exact q2⟩⟩

/-! ### methods of lists -/
theorem lstC_ok {α : Type} {σ : L2.St} {m : Mp} {st : Store} {H : Hp} {x : Val} {v : V} {k : Unit → M α} {ok : α → Mp → Store → Hp → Prop} (S : SR X.K CA m st H) (r : RepV X.K m st H x v) (q : PR X.K CA XR W σ ((lstC x st).bind k) m st H ok) :
    tyV X.K "list" v H ∧ PR X.K CA XR W σ (k () st) m st H ok := by
  unfold lstC at q
  split at q
  · rename_i n
    obtain ⟨_, rfl⟩ := r
    cases e : st.cell n with
    | none => rw [e] at q; exact q.elim
    | some y =>
      rw [e] at q
      cases y with
      | lst ws =>
        obtain ⟨us, h, z, rs⟩ := S.cells n _ e
        exact ⟨.inl ⟨rfl, us, .of h⟩, q⟩
      | _ => exact q.elim
  · obtain ⟨a, us, rfl, h, z, rs⟩ := r
    exact ⟨.inl ⟨rfl, us, .of h.1⟩, q⟩
  · exact q.elim
theorem dctC_ok {α : Type} {σ : L2.St} {m : Mp} {st : Store} {H : Hp} {x : Val} {v : V} {k : Unit → M α} {ok : α → Mp → Store → Hp → Prop} (S : SR X.K CA m st H) (r : RepV X.K m st H x v) (q : PR X.K CA XR W σ ((dctC x st).bind k) m st H ok) :
    (∃ a us, v = .ref a ∧ H a = some (.dK us)) ∧ PR X.K CA XR W σ (k () st) m st H ok := by
  unfold dctC at q
  split at q
  · rename_i n
    obtain ⟨_, rfl⟩ := r
    cases e : st.cell n with
    | none => rw [e] at q; exact q.elim
    | some y =>
      rw [e] at q
      cases y with
      | dct ws =>
        obtain ⟨us, h, z, rs⟩ := S.cells n _ e
        exact ⟨⟨_, us, rfl, h⟩, q⟩
      | _ => exact q.elim
  · obtain ⟨a, us, rfl, h, z, rs⟩ := r
    exact ⟨⟨_, us, rfl, h.1⟩, q⟩
  · exact q.elim
/-- o.m(x) of a list -/
theorem lm1 {id : String} {name : Str} {k2 : Val → Val → M Val} {r : V → List V → Hp → VK → Prop} (slot : Slot "list" name id) (hty : typeOf (.builtin id) = pure (.type "method_descriptor")) (hm : MtR X id r)
    (hk : ∀ σ x y m st H v w Q, SR X.K CA m st H → RepV X.K m st H x v → RepV X.K m st H y w → PR X.K CA XR W σ (k2 x y st) m st H (fun a m' st' H' => ∀ u, RepV X.K m' st' H' a u → Q u H') → r v [w] H Q)
    (ha : SE CA XR X W a f) (hb : SE CA XR X W b g) (hbase : attributeBase a name X.env (eval a X.env) = eval a X.env := by rfl)
    (hs : starEach [b] X.env = (false, eval b X.env) :: starEach [] X.env := by rfl) (hline : (apos.endLine == cpos.line) = true := by rfl) :
    SE CA XR X W (.Call (.Attribute a name apos) [b] [] cpos) (e2c lstC k2 f g) := by
  have hfew : ((backTo cpos (starEach [b] X.env)).all (fun x => !x.1) && (backToKw cpos (keywordEach [] X.env)).all (fun x => x.1.isSome)
      && decide (([b] : List Expr).length + ([] : List Keyword).length + (if ([] : List Keyword).isEmpty then 0 else 1) < 30)) = true := by rw [hs] <;> rfl
  refine PE.weak (pe_bm PySem.F.plainAttrs_list slot hty hm ha (pa_cons hb pa_nil hs) hbase hfew hline hs rfl) fun σ H Q ⟨m, st, ρ, S, E, q⟩ => ?_
  refine ⟨m, st, ρ, S, E, (PR.bind_of q).mono fun x m1 st1 H1 S1 T1 h1 v rv => ?_⟩
  obtain ⟨ty, h2⟩ := lstC_ok S1 rv h1
  refine ⟨ty, m1, st1, ρ, S1, E.mono T1, (PR.bind_of h2).mono fun y m2 st2 H2 S2 T2 h3 w rw => ?_⟩
  exact hk σ x y m2 st2 H2 v w Q S2 (RepV.mono T2 x v rv) rw h3
end
end Fl
set_option Elab.async false
set_option linter.all false
set_option maxRecDepth 100000
set_option maxHeartbeats 2000000
/-! Fl over the layer: lists and dicts that change. -/
namespace Fl
open PySem PySem.Spec L2

section
variable {tb : Tab} {G : FEnv} {CA : Tags} {XR : XRel} {k : Nat} {N : List Str} {sc : Scope} {own : Str → Bool} {X : Cx} {W : WX}
variable {a b c d e : Expr} {es : List Expr} {pos pos' apos cpos p p2 p3 : Pos} {f g h : CE} {t u : CT}

/-- a list's cell is written -/
theorem setL_ok {α : Type} {σ : L2.St} {m : Mp} {st : Store} {H : Hp} {n : Nat} {ws ws' : List Val} {us' : List V} {a : α} {ok : α → Mp → Store → Hp → Prop} (S : SR X.K CA m st H) (e : st.cell n = some (.lst ws)) (r : RepVs X.K m st H ws' us') (z : ws'.length ≤ L)
    (q : PR X.K CA XR W σ (.ok a (st.set n (some (.lst ws')))) m st H ok) : ok a m (st.set n (some (.lst ws'))) (upd H (m n) (.lst us')) := by
  have T := S.setStep (o := .lst us') (c' := .lst ws') e
  exact q m _ (S.setCell e ⟨us', upd_same, z, RepVs.mono T _ _ r⟩) T
theorem se_append (ha : SE CA XR X W a f) (hb : SE CA XR X W b g) (hbase : attributeBase a "append" X.env (eval a X.env) = eval a X.env := by rfl)
    (hs : starEach [b] X.env = (false, eval b X.env) :: starEach [] X.env := by rfl) (hline : (apos.endLine == cpos.line) = true := by rfl) : SE CA XR X W (.Call (.Attribute a "append" apos) [b] [] cpos) (e2c lstC appendV f g) := by
  refine lm1 PySem.F.slot_list_append PySem.F.type_list_append mt_append (fun σ x y m st H v w Q S rx ry q => ?_) ha hb hbase hs hline
  unfold appendV at q
  split at q
  · rename_i n
    obtain ⟨_, rfl⟩ := rx
    cases e : st.cell n with
    | none => rw [e] at q; exact q.elim
    | some cc =>
      rw [e] at q
      cases cc with
      | lst ws =>
        dsimp only at q
        split at q
        · rename_i hz
          obtain ⟨us, hh, z, rs⟩ := S.cells n _ e
          refine ⟨m n, us, w, rfl, rfl, hh, by rw [← rs.length]; exact lineLt hz, ?_⟩
          exact setL_ok S e (RepVs.append rs (show RepVs X.K m st H [y] [w] from ⟨w, [], rfl, ry, rfl⟩)) (by rw [List.length_append, List.length_singleton]; omega) q .non rfl
        · exact q.elim
      | _ => exact q.elim
  · exact q.elim
theorem pyIx_seq {n j : Nat} {i : Int} (h : pyIx n i = some j) : seqIndex? i n = some j ∧ (n ≤ L → -(2 ^ 63) ≤ i ∧ i < 2 ^ 63) := by
  unfold pyIx at h
  have hb : n ≤ L → (n : Int) ≤ 16777216 := fun z => by have z2 : n ≤ 16777216 := z; omega
  split at h
  · rename_i h1
    split at h
    · rename_i h2
      cases h
      have e1 : (if i < 0 then i + (n : Int) else i) = i := if_neg (by omega)
      have e2 : (decide (0 ≤ i) && decide (i < (n : Int))) = true := by rw [decide_eq_true h1, decide_eq_true h2]; rfl
      refine ⟨?_, fun z => ?_⟩
      · show (if (decide (0 ≤ (if i < 0 then i + (n : Int) else i)) && decide ((if i < 0 then i + (n : Int) else i) < n)) = true then some (if i < 0 then i + (n : Int) else i).toNat else none) = _
        rw [e1, if_pos e2]
      · have := hb z
        omega
    · cases h
  · rename_i h1
    split at h
    · rename_i h2
      cases h
      have e1 : (if i < 0 then i + (n : Int) else i) = i + n := if_pos (by omega)
      have e2 : (decide (0 ≤ i + (n : Int)) && decide (i + (n : Int) < (n : Int))) = true := by rw [decide_eq_true (show 0 ≤ i + (n : Int) by omega), decide_eq_true (show i + (n : Int) < n by omega)]; rfl
      refine ⟨?_, fun z => ?_⟩
      · show (if (decide (0 ≤ (if i < 0 then i + (n : Int) else i)) && decide ((if i < 0 then i + (n : Int) else i) < n)) = true then some (if i < 0 then i + (n : Int) else i).toNat else none) = _
        rw [e1, if_pos e2]
      · have := hb z
        omega
    · cases h
theorem se_pop (ha : SE CA XR X W a f) (hb : SE CA XR X W b g) (hbase : attributeBase a "pop" X.env (eval a X.env) = eval a X.env := by rfl)
    (hs : starEach [b] X.env = (false, eval b X.env) :: starEach [] X.env := by rfl) (hline : (apos.endLine == cpos.line) = true := by rfl) : SE CA XR X W (.Call (.Attribute a "pop" apos) [b] [] cpos) (e2c lstC popL f g) := by
  refine lm1 PySem.F.slot_list_pop PySem.F.type_list_pop mt_popAt (fun σ x y m st H v w Q S rx ry q => ?_) ha hb hbase hs hline
  unfold popL at q
  split at q
  · rename_i n i
    obtain ⟨_, rfl⟩ := rx
    cases ry
    cases e : st.cell n with
    | none => rw [e] at q; exact q.elim
    | some cc =>
      rw [e] at q
      cases cc with
      | lst ws =>
        dsimp only at q
        cases e1 : pyIx ws.length i with
        | none => rw [e1] at q; exact q.elim
        | some j =>
          rw [e1] at q
          dsimp only at q
          cases e2 : ws[j]? with
          | none => rw [e2] at q; exact q.elim
          | some y =>
            rw [e2] at q
            dsimp only at q
            obtain ⟨us, hh, z, rs⟩ := S.cells n _ e
            obtain ⟨h1, h2⟩ := pyIx_seq e1
            obtain ⟨h3, h4⟩ := h2 z
            obtain ⟨y', e3, ry⟩ := rs.get e2
            refine ⟨m n, us, i, j, y', rfl, rfl, hh, h3, h4, by rw [← rs.length]; exact h1, e3, ?_⟩
            have T := S.setStep (o := .lst (us.eraseIdx j)) (c' := .lst (ws.eraseIdx j)) e
            exact setL_ok S e (rs.eraseIdx j) (Nat.le_trans (len_erase _ _) z) q y' (RepV.mono T _ _ ry)
      | _ => exact q.elim
  · exact q.elim
theorem se_extend (ha : SE CA XR X W a f) (hb : SE CA XR X W b g) (hbase : attributeBase a "extend" X.env (eval a X.env) = eval a X.env := by rfl)
    (hs : starEach [b] X.env = (false, eval b X.env) :: starEach [] X.env := by rfl) (hline : (apos.endLine == cpos.line) = true := by rfl) : SE CA XR X W (.Call (.Attribute a "extend" apos) [b] [] cpos) (e2c lstC extendV f g) := by
  refine lm1 PySem.F.slot_list_extend PySem.F.type_list_extend mt_extend (fun σ x y m st H v w Q S rx ry q => ?_) ha hb hbase hs hline
  unfold extendV at q
  split at q
  · rename_i n
    obtain ⟨_, rfl⟩ := rx
    obtain ⟨vs, ad, us2, rfl, h2, r2, z2, q⟩ := itemsL_ok S ry q
    cases e : st.cell n with
    | none => rw [e] at q; exact q.elim
    | some cc =>
      rw [e] at q
      cases cc with
      | lst ws =>
        dsimp only at q
        split at q
        · rename_i hz
          obtain ⟨us, hh, z, rs⟩ := S.cells n _ e
          refine ⟨m n, ad, us, us2, rfl, rfl, hh, h2, by rw [← rs.length, ← r2.length]; exact lineOf hz, ?_⟩
          exact setL_ok S e (rs.append r2) (by rw [List.length_append]; exact hz) q .non rfl
        · exact q.elim
      | _ => exact q.elim
  · exact q.elim
theorem findT_at : ∀ {ns : List Int} {k : Int} {n r : Nat}, findT (.int k) (ns.map .int) n = some r → ∃ j, r = n + j ∧ ns[j]? = some k ∧ ∀ i z, i < j → ns[i]? = some z → z ≠ k
  | [], k, n, r, h => by simp [findT] at h
  | y :: q, k, n, r, h => by
    rw [List.map_cons, findT] at h
    have e : T.eqv (.int y) (.int k) = (y == k) := by rw [T.eqv]
    rw [e] at h
    by_cases hy : y = k
    · rw [if_pos (beq_iff_eq.mpr hy)] at h
      cases h
      exact ⟨0, rfl, by simp [hy], fun i z hi => absurd hi (Nat.not_lt_zero _)⟩
    · rw [if_neg (by simpa using hy)] at h
      obtain ⟨j, h1, h2, h3⟩ := findT_at h
      refine ⟨j + 1, by omega, by simpa using h2, fun i z hi hz => ?_⟩
      cases i with
      | zero => simp at hz; rw [← hz]; exact hy
      | succ i => exact h3 i z (by omega) (by simpa using hz)
theorem se_index (ha : SE CA XR X W a f) (hb : SE CA XR X W b g) (hbase : attributeBase a "index" X.env (eval a X.env) = eval a X.env := by rfl)
    (hs : starEach [b] X.env = (false, eval b X.env) :: starEach [] X.env := by rfl) (hline : (apos.endLine == cpos.line) = true := by rfl) : SE CA XR X W (.Call (.Attribute a "index" apos) [b] [] cpos) (e2c lstC indexV f g) := by
  refine lm1 PySem.F.slot_list_index PySem.F.type_list_index mt_index (fun σ x y m st H v w Q S rx ry q => ?_) ha hb hbase hs hline
  obtain ⟨vs, ad, us, rfl, h2, r2, z2, q⟩ := itemsL_ok S rx q
  cases e : Fl.intsOf vs with
  | none => rw [e] at q; exact q.elim
  | some ns =>
    rw [e] at q
    have := RepVs.toInts (ns := ns) e r2
    subst this
    split at q
    · rename_i ns' kk e1 e2
      cases e1
      cases ry
      cases e3 : findT (.int kk) (ns.map .int) 0 with
      | none => rw [e3] at q; exact q.elim
      | some j =>
        rw [e3] at q
        obtain ⟨j', h1, h4, h5⟩ := findT_at e3
        have hj : j = j' := by omega
        subst hj
        refine ⟨ad, ns.map V.int, .int kk, j, .int kk, rfl, rfl, .of h2, rfl, List.all_eq_true.mpr fun y hy => ?_, by rw [List.getElem?_map, h4]; rfl, ?_, fun i z hi hz => ?_, PR.here S q _ rfl⟩
        · obtain ⟨z, _, rfl⟩ := List.mem_map.mp hy; rfl
        · show L2.eqV (.int kk) (.int kk) = true
          simp [L2.eqV]
        · rw [List.getElem?_map] at hz
          cases e5 : ns[i]? with
          | none => rw [e5] at hz; cases hz
          | some zz =>
            rw [e5] at hz
            cases hz
            have := h5 i zz hi e5
            show L2.eqV (.int zz) (.int kk) = false
            simp [L2.eqV, this]
    · exact q.elim
end
end Fl
set_option Elab.async false
set_option linter.all false
set_option maxRecDepth 100000
set_option maxHeartbeats 2000000
/-! Fl over the layer: calls of the text's defs. -/
namespace Fl
open PySem PySem.Spec L2

theorem TracedZ.one {h B B' : Heap} {a : Addr} {Z Z' : Obj → Prop} {fl fl' : Value} (x : HandSPX.TracedZ h B a Z fl) (y : HandSPX.TracedZ h B' a Z' fl') : fl = fl' := by
  obtain ⟨oe, vs, T, oT, ts, e1, _, e2, e3, _, _, e4, e5, e6⟩ := x
  obtain ⟨oe', vs', T', oT', ts', f1, _, f2, f3, _, _, f4, f5, f6⟩ := y
  have h1 : oe = oe' := Option.some.inj (e1.symm.trans f1)
  subst h1
  have h2 : vs = vs' := by
    have := e2.symm.trans f2
    injection this
  subst h2
  have h3 : T = T' := by
    have := Option.some.inj (e3.symm.trans f3)
    injection this
  subst h3
  have h4 : oT = oT' := Option.some.inj (e4.symm.trans f4)
  subst h4
  have h5 : ts = ts' := by
    have := e5.symm.trans f5
    injection this
  subst h5
  exact Option.some.inj (e6.symm.trans f6)
theorem TracedZ.noted {h B : Heap} {a : Addr} {Z : Obj → Prop} {fl : Value} {oe : Obj} {vs : Array Value} (x : HandSPX.TracedZ h B a Z fl) (e : h.get? a = some oe) (d : oe.data = .fields vs) : vs[1]? ≠ some .none := fun z => by
  obtain ⟨oe', vs', T, oT, ts, f1, _, f2, f3, _⟩ := x
  have h1 : oe = oe' := Option.some.inj (e.symm.trans f1)
  subst h1
  have h2 : vs = vs' := by
    have := d.symm.trans f2
    injection this
  subst h2
  have := Option.some.inj (z.symm.trans f3)
  injection this

section
variable {tb : Tab} {G : FEnv} {CA : Tags} {XR : XRel} {k : Nat} {N : List Str} {sc : Scope} {own : Str → Bool} {X : Cx} {W : WX}
variable {a b c d e : Expr} {es : List Expr} {pos pos' apos cpos p p2 p3 : Pos} {f g h : CE} {t u : CT}

/-- what a call lets out is in the air, whichever frame we stand in -/
theorem air_call {pins : List (Addr × Obj)} {σ : L2.St} {H : Hp} {s s' : Shared} {u : Value} {F : Addr} (I : Inv X pins σ H s) (c : L2.CX X.prog X.w X.stack H s (fun c d H' => W c d σ H') u s') : XEL X F W u s' := by
  have c2 := c
  obtain ⟨a0, B0, H0, cls0, d0, e0, fl0, _⟩ := c2
  obtain ⟨a1, B, sI, pins', σ', H', cls, dd, e1, J, nb, up, sky, na, os, ag, w⟩ := XE.of_call (W := W) I (fun _ _ _ z => z) c
  subst e1
  obtain rfl : a1 = a0 := Value.ref.inj e0
  refine ⟨a1, B, sI, pins', σ', H', cls, dd, ⟨rfl, w⟩, J, ⟨?_, na⟩, nb, up, os, ag⟩
  rcases sky with z | z | z
  · exact .inl z
  · exact .inr (.inl z)
  · have q := TracedZ.one fl0.2.2.2 z.2.2.2
    exact absurd q (by simp [rawInt])
theorem PR.flat {α : Type} {K : PySem.W.Frag} {σ : L2.St} {r : R α} {m : Mp} {st : Store} {H : Hp} {ok : α → Mp → Store → Hp → Prop} (h : PR K CA XR W σ r m st H ok) : PR K CA XR (fun c d _ H' => W c d σ H') [] r m st H ok := by
  cases r with
  | ok a s' => exact h
  | exc x s' => exact h
  | bad => exact h

/-- the callee runs -/
theorem run1 {fa : Addr} {fd : FuncData} {ps : List Str} {sp : Sp} {pins : List (Addr × Obj)} {σ : L2.St} {H : Hp} {s : Shared} {Q : VK} {us : List Value} {vs : List V} (C : Cq tb G CA XR k N sc own X W)
    (F : FnOk1 X.prog X.w X.K X.mg X.base k fa fd ps sp) (hb : Binds X.K fd ps []) (I : Inv X pins σ H s) (r : Vals vs us) (q : sp vs H Q fun c d H' => W c d σ H') :
    wpAny (model X.prog X.w) X.A (call (.ref fa) us) (EP X pins σ Q) X.xe s := by
  have hl : us.length = ps.length := r.length.symm.trans (F.len _ _ _ _ q)
  have bd : BindsTo s fd ⟨us, []⟩ (ps.zip us) := by
    have z := hb s us I.kIn (by rw [List.append_nil]; exact hl)
    rw [List.append_nil] at z
    exact z
  obtain ⟨A0, hA, _, tk⟩ := C.takes
  refine wpAny_call (codeAny_mono (F.run X.A X.stack s H ⟨us, []⟩ us vs Q _ C.room I.env0 bd r q) fun rr s' hq => ?_)
  cases rr with
  | ok fl =>
    cases fl with
    | ret u => exact I.after hq
    | next => exact (show False from hq).elim
    | brk => exact (show False from hq).elim
    | cont => exact (show False from hq).elim
  | error e => exact tk e s' (air_call I hq)

theorem spOf_of {K : PySem.W.Frag} {σ : L2.St} {F : List Val → M Val} {n : Nat} {as : List Val} {vs : List V} {m : Mp} {st : Store} {H : Hp} {Q : VK} (S : SR K CA m st H) (r : RepVs K m st H as vs) (hn : as.length = n)
    (q : PR K CA XR W σ (F as st) m st H fun a m' st' H' => ∀ v, RepV K m' st' H' a v → Q v H') : spOf K CA XR F n vs H Q fun c d H' => W c d σ H' :=
  ⟨by rw [← r.length]; exact hn, m, st, as, S, r, q.flat⟩

theorem se_call (C : Cq tb G CA XR k N sc own X W) {x : Str} (i n : Nat) {fs : List CE} (hg : glbB sc x = true) (hm : (x, i, n) ∈ tb.fns) (hn : fs.length = n) (ha : SA CA XR X W (a :: es) (eVals fs))
    (he : starEach (a :: es) X.env = (false, eval a X.env) :: starEach es X.env := by rfl) (hpl : (backTo pos (starEach es X.env)).any (·.1) = false := by rfl) :
    SE CA XR X W (.Call (.Name x p) (a :: es) [] pos) (eCall G i fs) := by
  obtain ⟨fa, fd, ps, h1, h2, h3, h4⟩ := C.glob.fns x i n hm
  refine ⟨fun pins s σ H Q I ⟨m, st, ρ, S, E, q⟩ => ?_⟩
  refine wpAny_Call_Name_kw (ld_glob I (gl_of C.toCw hg) h1 ?_ (gl_dbg hg))
  refine PySem.W.callWith_K (h₀ := X.base) I.ok.mod.kin h2 (thn (ha.run pos pins s σ H (fun vs H1 => spOf X.K CA XR (G i) n vs H1 Q fun c d H' => W c d σ H') I ⟨m, st, ρ, S, E, (PR.bind_of q).lenOf.mono fun ws m1 st1 H1 S1 T1 h1 vs rs => spOf_of S1 rs (h1.1.trans hn) h1.2⟩) fun us s1 ⟨vs, H1, I1, rv, q1⟩ => ⟨I1.kIn, ?_⟩) he hpl
  exact run1 C h4 h3 I1 rv q1
theorem se_call0 (C : Cq tb G CA XR k N sc own X W) {x : Str} (i : Nat) (hg : glbB sc x = true) (hm : (x, i, 0) ∈ tb.fns) : SE CA XR X W (.Call (.Name x p) [] [] pos) (eCall G i []) := by
  obtain ⟨fa, fd, ps, h1, h2, h3, h4⟩ := C.glob.fns x i 0 hm
  refine ⟨fun pins s σ H Q I ⟨m, st, ρ, S, E, q⟩ => ?_⟩
  refine wpAny_Call_Name_kw (ld_glob I (gl_of C.toCw hg) h1 ?_ (gl_dbg hg))
  refine PySem.W.callWith_K0 I.kIn h2 (run1 (us := []) (vs := []) C h4 h3 I .nil ?_)
  exact spOf_of (as := []) S rfl rfl q
end
end Fl
set_option Elab.async false
set_option linter.all false
set_option maxRecDepth 100000
set_option maxHeartbeats 2000000
/-! Fl over the layer: statements, defs. -/
namespace Fl
open PySem PySem.Spec L2
open PyProof.Rows (envOfC)

/-- what a statement's end means -/
def PO (K : PySem.W.Frag) (CA : Tags) (XR : XRel) (W : WX) (D : Ends) (m : Mp) (st : Store) (H : Hp) : SO → Prop
  | .nx ρ s' => ∀ m' H' σ', SR K CA m' s' H' → Step m st H m' s' H' → ER K m' s' H' ρ σ' → D.nx σ' H'
  | .bk ρ s' => ∀ m' H' σ', SR K CA m' s' H' → Step m st H m' s' H' → ER K m' s' H' ρ σ' → D.bk σ' H'
  | .ct ρ s' => ∀ m' H' σ', SR K CA m' s' H' → Step m st H m' s' H' → ER K m' s' H' ρ σ' → D.ct σ' H'
  | .rt v s' => ∀ m' H' u, SR K CA m' s' H' → Step m st H m' s' H' → RepV K m' s' H' v u → D.rt u H'
  | .ex x ρ s' => ∀ m' H' σ' cls d, SR K CA m' s' H' → Step m st H m' s' H' → ER K m' s' H' ρ σ' → XR x cls d H' → W cls d σ' H'
  | .bad => False
def tS (K : PySem.W.Frag) (CA : Tags) (XR : XRel) (W : WX) (f : SM) : TS := fun D σ H => ∃ m st ρ, SR K CA m st H ∧ ER K m st H ρ σ ∧ PO K CA XR W D m st H (f ρ st)
section
variable {K : PySem.W.Frag} {CA : Tags} {XR : XRel} {W : WX} {D D' : Ends} {m m1 : Mp} {st st1 : Store} {H H1 : Hp} {o : SO} {σ : L2.St} {ρ : Env}
theorem PO.step (h : PO K CA XR W D m st H o) (s : Step m st H m1 st1 H1) : PO K CA XR W D m1 st1 H1 o := by
  cases o with
  | nx ρ s' => exact fun m' H' σ' S T => h m' H' σ' S (s.trans T)
  | bk ρ s' => exact fun m' H' σ' S T => h m' H' σ' S (s.trans T)
  | ct ρ s' => exact fun m' H' σ' S T => h m' H' σ' S (s.trans T)
  | rt v s' => exact fun m' H' u S T => h m' H' u S (s.trans T)
  | ex x ρ s' => exact fun m' H' σ' c d S T => h m' H' σ' c d S (s.trans T)
  | bad => exact h
/-- an expression, then the rest -/
theorem PO.expr {α : Type} {r : R α} {k : α → Store → SO} (E : ER K m st H ρ σ) (h : PO K CA XR W D m st H (r.so ρ k)) : PR K CA XR W σ r m st H fun a m1 st1 H1 => PO K CA XR W D m1 st1 H1 (k a st1) := by
  cases r with
  | ok a s' => exact fun m' H' S T => PO.step h T
  | exc x s' => exact fun m' H' c d S T xr => h m' H' σ c d S T (E.mono T) xr
  | bad => exact h
end

/-! ### names told -/
theorem ER.set {K : PySem.W.Frag} {m : Mp} {st : Store} {H : Hp} {ρ : Env} {σ : L2.St} {w : Val} {v : V} (E : ER K m st H ρ σ) (r : RepV K m st H w v) (i : Nat) : ER K m st H (ρ.set i (some w)) (σ.set i (some v)) := by
  refine ⟨by rw [List.length_set, List.length_set]; exact E.1, fun j x e => ?_⟩
  by_cases h : i = j
  · subst h
    by_cases hl : i < ρ.length
    · rw [List.getElem?_set_self hl] at e
      cases e
      exact ⟨v, by rw [List.getElem?_set_self (by rw [← E.1]; exact hl)], r⟩
    · rw [List.getElem?_eq_none (by rw [List.length_set]; omega)] at e; cases e
  · rw [List.getElem?_set_ne h] at e
    obtain ⟨u, e1, r1⟩ := E.2 j x e
    exact ⟨u, by rw [List.getElem?_set_ne h]; exact e1, r1⟩
theorem ER.drop {K : PySem.W.Frag} {m : Mp} {st : Store} {H : Hp} {ρ : Env} {σ : L2.St} (E : ER K m st H ρ σ) (i : Nat) : ER K m st H (ρ.set i none) (σ.set i none) := by
  refine ⟨by rw [List.length_set, List.length_set]; exact E.1, fun j x e => ?_⟩
  by_cases h : i = j
  · subst h
    by_cases hl : i < ρ.length
    · rw [List.getElem?_set_self hl] at e; cases e
    · rw [List.getElem?_eq_none (by rw [List.length_set]; omega)] at e; cases e
  · rw [List.getElem?_set_ne h] at e
    obtain ⟨u, e1, r1⟩ := E.2 j x e
    exact ⟨u, by rw [List.getElem?_set_ne h]; exact e1, r1⟩

/-! ### a def's end: what it let go is forgotten -/
section
variable {K : PySem.W.Frag} {CA : Tags} {XR : XRel} {m m' : Mp} {st st' : Store} {H H' : Hp} {n : Nat}
theorem cell_take {s : Store} {n k : Nat} {c : Cell} (h : Store.cell (s.take n) k = some c) : s.cell k = some c ∧ k < n := by
  unfold Store.cell at *
  rw [List.getElem?_take] at h
  split at h
  · exact ⟨h, by assumption⟩
  · cases h
theorem live_take {a : Addr} (h : live m (st.take n) a) : live m st a := by
  obtain ⟨k, c, e, z⟩ := h
  exact ⟨k, c, (cell_take e).1, z⟩
theorem RepV.trim (hn : n ≤ st.length) : ∀ {w : Val} {v : V}, w.below n = true → RepV K m st H w v → RepV K m (st.take n) H w v
  | .t d, v, _, h => Rep.mono (fun _ _ h _ => h) (fun a l => .inl (live_take l)) d v h
  | .loc k, v, b, h => by
    have b' : k < n := by simpa [Val.below] using b
    exact ⟨by rw [List.length_take]; omega, h.2⟩
  | .scr _, _, b, _ => by simp [Val.below] at b
  | .ex _, _, b, _ => by simp [Val.below] at b
theorem RepVs.trim (hn : n ≤ st.length) : ∀ {w : List Val} {v : List V}, (w.all fun x => x.below n) = true → RepVs K m st H w v → RepVs K m (st.take n) H w v
  | [], _, _, h => h
  | x :: r, _, b, ⟨v, q, e, h1, h2⟩ => by
    rw [List.all_cons, Bool.and_eq_true] at b
    exact ⟨v, q, e, RepV.trim hn b.1 h1, RepVs.trim hn b.2 h2⟩
theorem RepVK.trim (hn : n ≤ st.length) : ∀ {w : List (Key × Val)} {v : List (L2.Key × V)}, (w.all fun x => x.2.below n) = true → RepVK K m st H w v → RepVK K m (st.take n) H w v
  | [], _, _, h => h
  | x :: r, _, b, ⟨v, q, e, h1, h2⟩ => by
    rw [List.all_cons, Bool.and_eq_true] at b
    exact ⟨v, q, e, ⟨h1.1, RepV.trim hn b.1 h1.2⟩, RepVK.trim hn b.2 h2⟩
theorem RepF.trim (hn : n ≤ st.length) : ∀ {w : List (String × Val)} {v : List (Str × V)}, (w.all fun x => x.2.below n) = true → RepF K m st H w v → RepF K m (st.take n) H w v
  | [], _, _, h => h
  | x :: r, _, b, ⟨v, q, e, h1, h2⟩ => by
    rw [List.all_cons, Bool.and_eq_true] at b
    exact ⟨v, q, e, ⟨h1.1, RepV.trim hn b.1 h1.2⟩, RepF.trim hn b.2 h2⟩
theorem CellOk.trim (hn : n ≤ st.length) {a : Addr} : ∀ {c : Cell}, c.below n = true → CellOk K CA m st H a c → CellOk K CA m (st.take n) H a c
  | .lst _, b, ⟨us, h, z, r⟩ => ⟨us, h, z, RepVs.trim hn b r⟩
  | .tup _, b, ⟨us, h, z, r⟩ => ⟨us, h, z, RepVs.trim hn b r⟩
  | .dct _, b, ⟨us, h, z, r⟩ => ⟨us, h, z, RepVK.trim hn b r⟩
  | .ins _ _, b, ⟨C, dx, us, ca, h, r⟩ => ⟨C, dx, us, ca, h, RepF.trim hn b r⟩
  | .kd _, _, h => h.elim
/-- the end of a def, back in its caller -/
theorem trim_ok (S : SR K CA m' st' H') (T : Step m st H m' st' H') : SR K CA m' (trim st.length st') H' ∧ Step m st H m' (trim st.length st') H' ∧
    ∀ {w : Val} {v : V}, w.below st.length = true → RepV K m' st' H' w v → RepV K m' (trim st.length st') H' w v := by
  unfold Fl.trim
  by_cases hb : Store.below st.length (st'.take st.length) = true
  · rw [if_pos hb]
    refine ⟨⟨fun k c e => ?_, fun k k' c c' e e' q => S.inj k k' c c' (cell_take e).1 (cell_take e').1 q⟩, ⟨T.keep, fun a l => T.lv a (live_take l), T.ag, by rw [List.length_take]; have := T.len; omega⟩, fun {w v} b r => RepV.trim T.len b r⟩
    have z := (cell_take e)
    refine CellOk.trim T.len ?_ (S.cells k c z.1)
    have hm : some c ∈ st'.take st.length := by
      unfold Store.cell at e
      cases q : (List.take st.length st')[k]? with
      | none => rw [q] at e; cases e
      | some x =>
        rw [q] at e
        have : x = some c := by simpa using e
        rw [this] at q
        exact List.mem_of_getElem? q
    exact List.all_eq_true.mp hb _ hm
  · rw [if_neg hb]
    exact ⟨S, T, fun _ r => r⟩
end

/-- the entry's names -/
theorem ER.start {K : PySem.W.Frag} {m : Mp} {st : Store} {H : Hp} {N : List Str} {as : List Val} {vs : List V} (r : RepVs K m st H as vs) (hn : as.length ≤ N.length) : ER K m st H (start N.length as) (L2.start N vs) := by
  have hl := r.length
  refine ⟨?_, fun i w e => ?_⟩
  · unfold Fl.start L2.start
    rw [List.length_append, List.length_append, List.length_map, List.length_map, List.length_replicate, List.length_replicate, hl]
  · unfold Fl.start at e
    by_cases hi : i < as.length
    · rw [List.getElem?_append_left (by rw [List.length_map]; exact hi), List.getElem?_map] at e
      cases q : as[i]? with
      | none => rw [q] at e; cases e
      | some x =>
        rw [q] at e
        cases e
        obtain ⟨v, e1, r1⟩ := r.get q
        refine ⟨v, ?_, r1⟩
        unfold L2.start
        rw [List.getElem?_append_left (by rw [List.length_map]; omega), List.getElem?_map, e1]
        rfl
    · rw [List.getElem?_append_right (by rw [List.length_map]; omega), List.getElem?_replicate] at e
      split at e <;> cases e

/-- the place of a statement -/
structure Cs (tb : Tab) (G : FEnv) (CA : Tags) (XR : XRel) (k : Nat) (N : List Str) (sc : Scope) (X : Cx) (W : WX) : Prop where
  q : Cq tb G CA XR k N sc (fun _ => true) X W
  hs : X.stack = X.env :: X.outer
  hf : X.env.frame = some X.env.locals
  hp : PassesOwn (model X.prog X.w) X.A X.env X.xe
  tk : Takes X W
  kind : sc.kind = .function
abbrev SS (CA : Tags) (XR : XRel) (X : Cx) (W : WX) (b : List Stmt) (f : SM) : Prop := PSs X b (tS X.K CA XR W f)
abbrev S1 (CA : Tags) (XR : XRel) (X : Cx) (W : WX) (b : Stmt) (f : SM) : Prop := PS X b (tS X.K CA XR W f)

section
variable {P : Program} {w : World} {K : PySem.W.Frag} {mg : Str → Option Value} {base : Heap} {k : Nat} {fa : Addr} {name qual : Str} {params : Arguments} {body : List Stmt} {scope : Scope} {dV kV doc pm cdv ct oc : Value} {an od : Option Addr}
  {osl : Array (Option Value)} {N ps : List Str} {tb : Tab} {G : FEnv} {CA : Tags} {XR : XRel} {sm : SM}
/-- a def by its mirror -/
theorem fn1 (lk : K.lookup fa = some ⟨oc, od, .func (PySem.W.fnOf name qual params body scope dV kV doc pm an cdv ct), osl⟩) (hcd : PySem.W.codeIn K cdv qual = true) (S : FnScope N ps scope)
    (gl : GlobOk tb G CA XR P w K mg base k) (hb : ∀ X W, Cs tb G CA XR k N scope X W → SS CA XR X W body sm) :
    FnOk1 P w K mg base (k + 1) fa (PySem.W.fnOf name qual params body scope dV kV doc pm an cdv ct) ps (spOf K CA XR (mkFn N.length ps.length sm) ps.length) := by
  refine ⟨fun vs H Q E h => h.1, fun A outer s H args us vs Q E hr e0 hbd r hsp => ?_⟩
  obtain ⟨hl, m, st, as, SR0, rs, q⟩ := hsp
  have KX : K.In s.heap := e0.mod.kin.keeps fun b o e => (e0.bs b o e).1
  have kinds : ∀ y ∈ ps.zip us, scope.names.lookup y.1 = some .local ∨ (scope.names.lookup y.1 = some .cell ∧ ((cellsFrom (s.heap.objs.size + 1) scope.names []).lookup y.1).isSome = true) := by
    rintro ⟨n, v⟩ hy
    rcases S.par n (List.of_mem_zip hy).1 with z | z
    · exact .inl z
    · exact .inr ⟨z, PySem.W.cellsFrom_some _ _ _ (.inl z)⟩
  have hdep : A.depth < recursionLimit := by have := hr.dp; omega
  refine codeAny_call_function hdep (KX _ _ lk) rfl S.co S.gen rfl (PySem.W.codeRec_of KX hcd) (hbd _ _ _ _ ?_)
  refine wpAny_newFunctionEnv_cells S.kind kinds fun env he s1 x => ?_
  subst he
  refine ⟨(e0.mod.nolimit.keeps fun b o e => (e0.bs b o e).1).keeps x.toInCall.keep, codeAny_func ?_⟩
  generalize hX : cxOf (L2.CX P w) P w K mg base N qual scope fa cdv A outer s H E = X
  have I : Inv X [] (L2.start N vs) H s1 := by
    rw [← hX]
    exact inv_start S hr.hd e0 hl r x
  have hE : X.env = envOfC qual scope s.heap.objs.size fa cdv := by rw [← hX]; rfl
  have hst : X.stack = X.env :: X.outer := by rw [← hX]; rfl
  have hfr : X.env.frame = some X.env.locals := by rw [← hX]; rfl
  have hxe : X.xe = fun e s' => wpAny (model X.prog X.w) X.A (leaving X.env e) (fun _ s'' => L2.CX X.prog X.w X.outer X.H_0 X.s_0 E e s'') (fun e' s'' => L2.CX X.prog X.w X.outer X.H_0 X.s_0 E e' s'') s' := by rw [← hX]; rfl
  have tk : Takes X fun cls d _ H => E cls d H := takes_of hst hfr (by rw [← hX]; rfl) hxe
  have C : Cs tb G CA XR k N scope X fun cls d _ H => E cls d H := by
    have room : Room1 k X.A := by rw [← hX]; exact hr.deeper (fun _ => envOfC qual scope s.heap.objs.size fa cdv) _
    refine ⟨⟨⟨by rw [← hX]; rfl, S.nd, by rw [← hX]; rfl, by rw [← hX]; rfl, by have := room.un; omega, by rw [← hX]; exact gl⟩, by rw [← hX]; rfl, ⟨_, hfr, ⟨_, _, hst, hfr⟩, ?_⟩, room⟩, hst, hfr, passes_of hxe, tk, S.kind⟩
    rintro u s' ⟨a, B, sI, pins, σ, H', cls, d, ⟨h1, h2⟩, h3, ⟨h4, h5⟩, h6, h7, h8, h9⟩
    exact tk u s' ⟨a, B, sI, pins, σ, H', cls, d, h1, h3, h6, h7, h4, h5, h8, h9, h2⟩
  have hnp : ps.length ≤ N.length := by have z := congrArg List.length S.pre; rw [List.length_take] at z; omega
  have hal : as.length = ps.length := rs.length.trans hl
  have hK : X.K = K := by rw [← hX] <;> rfl
  have pre : tS X.K CA XR (fun cls d _ H => E cls d H) sm { nx := fun _ H' => Q .non H', rt := Q } (L2.start N vs) H := by
    rw [hK]
    refine ⟨m, st, start N.length as, SR0, ER.start rs (by omega), ?_⟩
    have q' : PR K CA XR (fun c d _ H' => E c d H') [] (mkFn N.length ps.length sm as st) m st H fun a m' st' H' => ∀ v, RepV K m' st' H' a v → Q v H' := q
    unfold mkFn at q'
    rw [if_pos hal] at q'
    cases e : sm (start N.length as) st with
    | nx ρ s' =>
      rw [e] at q'
      intro m' H' σ' S' T _
      obtain ⟨t1, t2, _⟩ := trim_ok S' T
      exact q' m' H' t1 t2 .non rfl
    | rt v s' =>
      rw [e] at q'
      dsimp only at q'
      intro m' H' u S' T ru
      split at q'
      · rename_i hbl
        obtain ⟨t1, t2, t3⟩ := trim_ok S' T
        exact q' m' H' t1 t2 u (t3 hbl ru)
      · split at q'
        · exact q' m' H' S' T u ru
        · exact (show False from q').elim
    | ex x ρ s' =>
      rw [e] at q'
      intro m' H' σ' cls d S' T _ xr
      obtain ⟨t1, t2, _⟩ := trim_ok S' T
      exact q' m' H' cls d t1 t2 xr
    | bk ρ s' => rw [e] at q'; exact (show False from q').elim
    | ct ρ s' => rw [e] at q'; exact (show False from q').elim
    | bad => rw [e] at q'; exact (show False from q').elim
  have run := (hb X _ C).run [] s1 (L2.start N vs) H _ I pre
  have fin : ∀ {σ' : L2.St} {H' : Hp} {v : V} {u : Value} {s' : Shared}, Inv X [] σ' H' s' → RelV v u → Q v H' → L2.CE outer P w H s Q u s' := by
    intro σ' H' v u s' J rv qv
    rw [← hX] at J
    exact ⟨v, H', J.os, J.bare, J.base, J.hok, rv, qv⟩
  rw [← hX] at run
  refine wpAny_mono run (fun fl s' hs => ?_) fun e s' hs => hs
  rw [hX] at hs
  cases fl with
  | next =>
    obtain ⟨σ', H', J, qv⟩ := hs
    exact fin (v := V.non) (u := Value.none) J rfl qv
  | ret u =>
    obtain ⟨v, σ', H', J, rv, qv⟩ := hs
    exact fin J rv qv
  | brk => obtain ⟨_, _, _, z⟩ := hs; exact (show False from z).elim
  | cont => obtain ⟨_, _, _, z⟩ := hs; exact (show False from z).elim
end
end Fl
set_option Elab.async false
set_option linter.all false
set_option maxRecDepth 100000
set_option maxHeartbeats 2000000
/-! Fl over the layer: what is walked; targets. -/
namespace Fl
open PySem PySem.Spec L2

/-- vs is what J gives, whatever is done meanwhile -/
structure Wk (K : PySem.W.Frag) (CA : Tags) (J : It) (vs : List Val) (m : Mp) (st : Store) (H : Hp) : Prop where
  go : ∀ i w, vs[i]? = some w → ∀ m' st' H', SR K CA m' st' H' → Step m st H m' st' H' → J.go i H' ∧ ∀ x H2, J.yld i H' x H2 → SR K CA m' st' H2 ∧ Step m' st' H' m' st' H2 ∧ RepV K m' st' H2 w x
  stop : ∀ i m' st' H', vs.length ≤ i → SR K CA m' st' H' → Step m st H m' st' H' → J.stop i H'
def tI (K : PySem.W.Frag) (CA : Tags) (XR : XRel) (W : WX) (f : CI) : TI := fun σ H R => ∃ m st ρ, SR K CA m st H ∧ ER K m st H ρ σ ∧
  PR K CA XR W σ (f ρ st) m st H fun vs m1 st1 H1 => ∀ J, Wk K CA J vs m1 st1 H1 → R J H1
abbrev SI (CA : Tags) (XR : XRel) (X : Cx) (W : WX) (tg it : Expr) (f : CI) : Prop := PI X tg it (tI X.K CA XR W f)
/-- .. no longer than a list may be -/
def tIL (K : PySem.W.Frag) (CA : Tags) (XR : XRel) (W : WX) (f : CI) : TI := fun σ H R => ∃ m st ρ, SR K CA m st H ∧ ER K m st H ρ σ ∧
  PR K CA XR W σ (f ρ st) m st H fun vs m1 st1 H1 => ∀ J, Wk K CA J vs m1 st1 H1 → vs.length ≤ L → R J H1
abbrev SIL (CA : Tags) (XR : XRel) (X : Cx) (W : WX) (tg it : Expr) (f : CI) : Prop := PI X tg it (tIL X.K CA XR W f)
def tG (K : PySem.W.Frag) (CA : Tags) (XR : XRel) (W : WX) (g : CG) : TG := fun v σ H Q => ∃ m st ρ w, SR K CA m st H ∧ ER K m st H ρ σ ∧ RepV K m st H w v ∧
  PR K CA XR W σ (g w ρ st) m st H fun ρ' m' st' H' => ∀ σ', ER K m' st' H' ρ' σ' → Q σ' H'
abbrev SG (CA : Tags) (XR : XRel) (X : Cx) (W : WX) (tg : Expr) (g : CG) : Prop := PG X tg (tG X.K CA XR W g)
theorem PG.weak {X : Cx} {tg : Expr} {t t' : TG} (h : PG X tg t) (k : ∀ v σ H Q, t' v σ H Q → t v σ H Q) : PG X tg t' := ⟨fun pins s σ H v u Q I r q => h.run pins s σ H v u Q I r (k v σ H Q q)⟩
theorem PI.weak {X : Cx} {tg it : Expr} {t t' : TI} (h : PI X tg it t) (k : ∀ σ H R, t' σ H R → t σ H R) : PI X tg it t' := ⟨fun pins s σ H R I q => h.run pins s σ H R I (k σ H R q)⟩

theorem si_of {X : Cx} {CA : Tags} {XR : XRel} {W : WX} {tg it : Expr} {f : CI} (h : SIL CA XR X W tg it f) : SI CA XR X W tg it f := PI.weak h fun σ H R ⟨m, st, ρ, S, E, q⟩ => ⟨m, st, ρ, S, E, by
  cases e : f ρ st with
  | ok a s' => rw [e] at q; exact fun m' H' S' T J wk _ => q m' H' S' T J wk
  | exc x s' => rw [e] at q; exact q
  | bad => rw [e] at q; exact q⟩
section
variable {K : PySem.W.Frag} {CA : Tags} {m : Mp} {st : Store} {H : Hp} {a : Addr} {us : List V} {ws : List Val}
end
section
variable {K : PySem.W.Frag} {CA : Tags} {m : Mp} {st : Store} {H : Hp} {a : Addr} {us : List V} {ws : List Val}
theorem wkl (hq : ∀ m' st' H', Step m st H m' st' H' → SqL K H' a us) (rs : RepVs K m st H ws us) : Wk K CA (Itl K a) ws m st H where
  go := fun i w e m' st' H' S T => by
    obtain ⟨v, e1, r⟩ := rs.get e
    refine ⟨⟨us, v, hq _ _ _ T, e1⟩, fun x H2 y => ?_⟩
    obtain ⟨rfl, y⟩ := y
    have e2 := y us (hq _ _ _ T)
    rw [e1] at e2
    cases e2
    exact ⟨S, Step.refl, RepV.mono T w v r⟩
  stop := fun i m' st' H' hi S T => ⟨us, hq _ _ _ T, by rw [← rs.length]; exact hi⟩
theorem wkt (hq : ∀ m' st' H', Step m st H m' st' H' → SqT K H' a us) (rs : RepVs K m st H ws us) : Wk K CA (Itt K a) ws m st H where
  go := fun i w e m' st' H' S T => by
    obtain ⟨v, e1, r⟩ := rs.get e
    refine ⟨⟨us, v, hq _ _ _ T, e1⟩, fun x H2 y => ?_⟩
    obtain ⟨rfl, y⟩ := y
    have e2 := y us (hq _ _ _ T)
    rw [e1] at e2
    cases e2
    exact ⟨S, Step.refl, RepV.mono T w v r⟩
  stop := fun i m' st' H' hi S T => ⟨us, hq _ _ _ T, by rw [← rs.length]; exact hi⟩
theorem upto_get {lo : Int} {n i : Nat} {w : Val} (e : (upto lo n)[i]? = some w) : i < n ∧ w = vI (lo + (i : Nat)) := by
  unfold upto at e
  rw [List.getElem?_map] at e
  by_cases h : i < n
  · rw [List.getElem?_range h] at e
    cases e
    exact ⟨h, rfl⟩
  · rw [List.getElem?_eq_none (by rw [List.length_range]; omega)] at e; cases e
theorem upto_len {lo : Int} {n : Nat} : (upto lo n).length = n := by unfold upto; rw [List.length_map, List.length_range]
theorem wkr {lo : Int} {n : Nat} : Wk K CA (Itr lo n) (upto lo n) m st H where
  go := fun i w e m' st' H' S T => by
    obtain ⟨h1, rfl⟩ := upto_get e
    refine ⟨h1, fun x H2 y => ?_⟩
    obtain ⟨rfl, rfl⟩ := y
    exact ⟨S, Step.refl, rfl⟩
  stop := fun i m' st' H' hi S T => by rw [upto_len] at hi; exact hi
theorem enumT_get : ∀ {ts : List T} {n i : Nat} {w : Val}, (enumT n ts)[i]? = some w → ∃ d, ts[i]? = some d ∧ w = .t (.tup [.int (n + i : Nat), d])
  | [], n, i, w, e => by simp [enumT] at e
  | d :: r, n, 0, w, e => by simp [enumT] at e; exact ⟨d, rfl, by rw [← e]; rfl⟩
  | d :: r, n, i + 1, w, e => by
    have e' : (enumT (n + 1) r)[i]? = some w := by simpa [enumT] using e
    obtain ⟨d', h1, h2⟩ := enumT_get e'
    exact ⟨d', by simpa using h1, by rw [h2, show n + 1 + i = n + (i + 1) by omega]⟩
theorem enumT_len : ∀ {ts : List T} {n : Nat}, (enumT n ts).length = ts.length
  | [], n => rfl
  | d :: r, n => by rw [enumT, List.length_cons, List.length_cons, enumT_len]
theorem wke {ts : List T} (hq : ∀ m' st' H', Step m st H m' st' H' → SqL K H' a us ∧ H' a ≠ none) (rs : Reps K H (live m st) ts us) (z : ts.length ≤ L) : Wk K CA (Ite K a) (enumT 0 ts) m st H where
  go := fun i w e m' st' H' S T => by
    obtain ⟨d, e0, rfl⟩ := enumT_get e
    obtain ⟨v, e1, r⟩ := rs.get e0
    refine ⟨⟨us, v, (hq _ _ _ T).1, e1⟩, fun x H2 y => ?_⟩
    obtain ⟨tp, x0, rfl, hn, rfl, y⟩ := y
    have e2 := y us (hq _ _ _ T).1
    rw [e1] at e2
    cases e2
    obtain ⟨T2, S2⟩ := S.fresh (o := .tup [.int (i : Nat), v]) hn
    refine ⟨S2, T2, tp, [.int (i : Nat), v], rfl, .inl ⟨upd_same, S.not_live hn⟩, by show 2 ≤ L; decide, ⟨.int (i : Nat), [v], rfl, ?_, v, [], rfl, ?_, rfl⟩⟩
    · show V.int _ = V.int _
      rw [Nat.zero_add]
    · exact Rep.mono (T.trans T2).keep (T.trans T2).lv d v r
  stop := fun i m' st' H' hi S T => ⟨us, (hq _ _ _ T).1, by rw [enumT_len] at hi; rw [← rs.length]; exact hi⟩
end

section
variable {tb : Tab} {G : FEnv} {CA : Tags} {XR : XRel} {k : Nat} {N : List Str} {sc : Scope} {own : Str → Bool} {X : Cx} {W : WX}
variable {a b c d e tg : Expr} {es : List Expr} {pos pos' apos cpos p p2 p3 : Pos} {f g h : CE} {t u : CT}

/-- a list, a tuple -/
def iSeq (K : PySem.W.Frag) (tl : TE) : TI := fun σ H R => tl σ H fun x H1 => ∃ a, x = .ref a ∧ (((∃ xs, SqL K H1 a xs) ∧ R (Itl K a) H1) ∨ ((∃ xs, SqT K H1 a xs) ∧ R (Itt K a) H1))
theorem pi_seq {l : Expr} {tl : TE} (hl : PE X l tl) : PI X tg l (iSeq X.K tl) := by
  refine ⟨fun pins s σ H R I h => thn (hl.run pins s σ H _ I h) ?_⟩
  rintro v s1 ⟨x, H1, I1, r1, a, rfl, q1⟩
  cases r1
  have fp : ∀ b ∈ [s1.heap.objs.size], FpOk X pins H1 b := fun b hb => by
    obtain rfl : b = s1.heap.objs.size := by simpa using hb
    exact I1.fpOk (Nat.le_refl _) (I1.hok.fresh (Nat.le_refl _))
  rcases q1 with ⟨⟨xs, hq⟩, q⟩ | ⟨⟨xs, hq⟩, q⟩
  · obtain ⟨its, rv, pl, hz⟩ := I1.list hq
    exact wpAny_pyIter_list pl.isList ⟨_, _, _, _, H1, rfl, I1.kept (t' := s1.toks) fun b o e => Heap.get?_push_of_some _ e, turn_list a _, ⟨_, Heap.get?_push_size _ rfl, rfl, rfl⟩, fp, q⟩
  · obtain ⟨its, rv, pl, hz⟩ := I1.tuple hq
    exact wpAny_pyIter_tuple (show s1.heap.IsTuple a its.toArray from pl) ⟨_, _, _, _, H1, rfl, I1.kept (t' := s1.toks) fun b o e => Heap.get?_push_of_some _ e, turn_tuple a _, ⟨_, Heap.get?_push_size _ rfl, rfl, rfl⟩, fp, q⟩
theorem sl_seq (ha : SE CA XR X W a f) : SIL CA XR X W tg a (iV f) := by
  refine PI.weak (pi_seq ha) fun σ H R ⟨m, st, ρ, S, E, q⟩ => ⟨m, st, ρ, S, E, (PR.bind_of q).mono fun x m1 st1 H1 S1 T1 h1 v rv => ?_⟩
  unfold iterOf at h1
  split at h1
  · rename_i ns
    obtain ⟨zl, ad, rfl, hq⟩ := rv
    have key : ∀ m' st' H', Step m1 st1 H1 m' st' H' → SqL X.K H' ad (ns.map V.int) := fun m' st' H' T => by
      rcases hq with ⟨h2, h3, h4⟩ | h2
      · cases z : H1 ad with
        | none => exact absurd z h2
        | some o => exact sqL_keep h4 ((T.keep ad o z h3).trans z.symm)
      · exact h2 H'
    refine ⟨ad, rfl, .inl ⟨⟨_, key _ _ _ Step.refl⟩, PR.here S1 h1 _ (wkl key (scr_reps ns)) (by rw [List.length_map]; exact zl)⟩⟩
  · obtain ⟨ad, us, rfl, ⟨h2, h3⟩, z, rs⟩ := rv
    have key : ∀ m' st' H', Step m1 st1 H1 m' st' H' → SqL X.K H' ad us := fun m' st' H' T => .of (T.keep ad _ h2 h3)
    exact ⟨ad, rfl, .inl ⟨⟨_, key _ _ _ Step.refl⟩, PR.here S1 h1 _ (wkl key (RepVs.of_reps rs)) (by rw [List.length_map]; exact z)⟩⟩
  · obtain ⟨ad, us, rfl, h2, z, rs⟩ := rv
    have key : ∀ m' st' H', Step m1 st1 H1 m' st' H' → SqT X.K H' ad us := fun m' st' H' T => by
      rcases h2 with ⟨h2, h3⟩ | h2
      · exact .of (T.keep ad _ h2 h3)
      · exact h2 H'
    exact ⟨ad, rfl, .inr ⟨⟨_, key _ _ _ Step.refl⟩, PR.here S1 h1 _ (wkt key (RepVs.of_reps rs)) (by rw [List.length_map]; exact z)⟩⟩
  · exact h1.elim
theorem rangeOk_iff {i : Int} (h : rangeOk i = true) : -(2 ^ 62) ≤ i ∧ i < 2 ^ 62 := by
  unfold rangeOk at h
  simpa using h
theorem si_range1 (C : Cw tb G CA XR k N sc own X W) (hg : bltB tb sc "range" = true) (ha : SE CA XR X W a f) (hs : starEach [a] X.env = (false, eval a X.env) :: starEach [] X.env := by rfl) : SI CA XR X W tg (.Call (.Name "range" p) [a] [] pos) (iRange1 f) := by
  refine PI.weak (pi_range1 (gl_of C (blt_gl hg)) (blt_mg C hg) (pa_cons ha pa_nil hs) hs) fun σ H R ⟨m, st, ρ, S, E, q⟩ => ⟨m, st, ρ, S, E, (PR.bind_of q).mono fun x m1 st1 H1 S1 T1 h1 v rv => ?_⟩
  obtain ⟨i, rfl, rfl, h2⟩ := getInt_ok rv h1
  split at h2
  · rename_i hr
    obtain ⟨h3, h4⟩ := rangeOk_iff hr
    exact ⟨i, rfl, h3, h4, PR.here S1 h2 _ wkr⟩
  · exact h2.elim
theorem si_range2 (C : Cw tb G CA XR k N sc own X W) (hg : bltB tb sc "range" = true) (ha : SE CA XR X W a f) (hb : SE CA XR X W b g) (hs : starEach [a, b] X.env = (false, eval a X.env) :: starEach [b] X.env := by rfl) (hs2 : starEach [b] X.env = (false, eval b X.env) :: starEach [] X.env := by rfl) :
    SI CA XR X W tg (.Call (.Name "range" p) [a, b] [] pos) (iRange2 f g) := by
  refine PI.weak (pi_range2 (gl_of C (blt_gl hg)) (blt_mg C hg) (pa_cons ha (pa_cons hb pa_nil hs2) hs) (by rw [hs, hs2] <;> rfl) hs2) fun σ H R ⟨m, st, ρ, S, E, q⟩ => ?_
  refine ⟨m, st, ρ, S, E, (PR.bind_of q).mono fun x m1 st1 H1 S1 T1 h1 v rv => ⟨m1, st1, ρ, S1, E.mono T1, (PR.bind_of h1).mono fun y m2 st2 H2 S2 T2 h2 w rw => ?_⟩⟩
  obtain ⟨i, rfl, rfl, h3⟩ := getInt_ok (RepV.mono T2 _ _ rv) h2
  obtain ⟨j, rfl, rfl, h4⟩ := getInt_ok rw h3
  split at h4
  · rename_i hr
    rw [Bool.and_eq_true] at hr
    obtain ⟨r1, r2⟩ := rangeOk_iff hr.1
    obtain ⟨r3, r4⟩ := rangeOk_iff hr.2
    exact ⟨i, j, rfl, ⟨r1, r2, r3, r4⟩, PR.here S2 h4 _ wkr⟩
  · exact h4.elim
theorem sl_enum (C : Cw tb G CA XR k N sc own X W) {elts : List Expr} {kk : Nat} (hg : bltB tb sc "enumerate" = true) (ha : SE CA XR X W a f) (hs : starEach [a] X.env = (false, eval a X.env) :: starEach [] X.env := by rfl) :
    SIL CA XR X W (.Tuple elts kk p2) (.Call (.Name "enumerate" p) [a] [] pos) (iEnum f) := by
  refine PI.weak (pi_enum (gl_of C (blt_gl hg)) (blt_mg C hg) (pa_cons ha pa_nil hs) hs) fun σ H R ⟨m, st, ρ, S, E, q⟩ => ⟨m, st, ρ, S, E, (PR.bind_of q).mono fun x m1 st1 H1 S1 T1 h1 v rv => ?_⟩
  split at h1
  · obtain ⟨ad, us, rfl, ⟨h2, h3⟩, z, rs⟩ := rv
    exact ⟨ad, us, rfl, .of h2, PR.here S1 h1 _ (wke (fun m' st' H' T => ⟨.of (T.keep ad _ h2 h3), by rw [T.keep ad _ h2 h3]; simp⟩) rs z) (by rw [enumT_len]; exact z)⟩
  · exact h1.elim

/-! ### targets -/
theorem loc_of {sc : Scope} {x : Str} (h : (match sc.names.lookup x with
    | some .local => true
    | some .cell => true
    | _ => false) = true) : L2.Loc sc x := by
  unfold L2.Loc
  cases e : sc.names.lookup x with
  | none => rw [e] at h; cases h
  | some k => rw [e] at h; cases k <;> first | exact .inl rfl | exact .inr rfl | cases h
/-- a name that may be stored here -/
def stoB (sc : Scope) (own : Str → Bool) (x : Str) : Bool := match sc.names.lookup x with
    | some .local => true
    | some .cell => own x
    | _ => false
theorem sto_loc {sc : Scope} {own : Str → Bool} {x : Str} (h : stoB sc own x = true) : L2.Loc sc x ∧ (own x = true ∨ sc.names.lookup x = some .local) := by
  unfold stoB at h
  unfold L2.Loc
  cases e : sc.names.lookup x with
  | none => rw [e] at h; cases h
  | some k =>
    rw [e] at h
    cases k with
    | «local» => exact ⟨.inl rfl, .inr rfl⟩
    | cell => exact ⟨.inr rfl, .inl h⟩
    | _ => cases h
theorem sg_var (C : Cw tb G CA XR k N sc own X W) (i : Nat) {x : Str} (hi : N[i]? = some x) (hx : stoB sc own x = true) : SG CA XR X W (.Name x pos) (gVar i) := by
  obtain ⟨h1, h2⟩ := sto_loc hx
  refine PG.weak (pg_name (i := i) (by rw [C.nm]; exact C.nd) (by rw [C.nm]; exact hi) (by rw [C.sc]; exact h1) (by rw [C.sc, C.own]; exact h2)) fun v σ H Q ⟨m, st, ρ, w, S, E, r, q⟩ => ?_
  exact PR.here S q _ (E.set r i)
/-- several targets in a row -/
def tGs (K : PySem.W.Frag) (CA : Tags) (is : List Nat) : TGs := fun vs σ H Q => ∃ m st ρ ws ρ', SR K CA m st H ∧ ER K m st H ρ σ ∧ RepVs K m st H ws vs ∧ gSets is ws ρ = some ρ' ∧ ∀ σ', ER K m st H ρ' σ' → Q σ' H
theorem PGs.weak {X : Cx} {tg : List Expr} {t t' : TGs} (h : PGs X tg t) (k : ∀ v σ H Q, t' v σ H Q → t v σ H Q) : PGs X tg t' := ⟨fun pins s σ H v u Q I r q => h.run pins s σ H v u Q I r (k v σ H Q q)⟩
theorem sgs_nil : PGs X [] (tGs X.K CA []) := PGs.weak pgs_nil fun vs σ H Q ⟨m, st, ρ, ws, ρ', S, E, r, e, q⟩ => by
  cases ws with
  | nil => cases e; exact ⟨r, q σ E⟩
  | cons w q => simp [gSets] at e
theorem sgs_cons (C : Cw tb G CA XR k N sc own X W) (i : Nat) {is : List Nat} {x : Str} {tgs : List Expr} (hi : N[i]? = some x) (hx : stoB sc own x = true) (hr : PGs X tgs (tGs X.K CA is))
    (hs : (assignEach (.Name x pos :: tgs) X.env).map (·.2) = assign (.Name x pos) X.env :: (assignEach tgs X.env).map (·.2) := by rfl) : PGs X (.Name x pos :: tgs) (tGs X.K CA (i :: is)) := by
  obtain ⟨h1, h2⟩ := sto_loc hx
  refine PGs.weak (pgs_cons (pg_name (i := i) (by rw [C.nm]; exact C.nd) (by rw [C.nm]; exact hi) (by rw [C.sc]; exact h1) (by rw [C.sc, C.own]; exact h2)) hr hs) fun vs σ H Q ⟨m, st, ρ, ws, ρ', S, E, r, e, q⟩ => ?_
  cases ws with
  | nil => simp [gSets] at e
  | cons w ws =>
    obtain ⟨v, vr, rfl, r1, r2⟩ := r
    exact ⟨v, vr, rfl, m, st, ρ.set i (some w), ws, ρ', S, E.set r1 i, r2, e, q⟩
theorem gSets_len : ∀ {is : List Nat} {ws : List Val} {ρ ρ' : Env}, gSets is ws ρ = some ρ' → ws.length = is.length
  | [], [], _, _, _ => rfl
  | [], _ :: _, _, _, h => by simp [gSets] at h
  | _ :: _, [], _, _, h => by simp [gSets] at h
  | i :: is, w :: ws, ρ, ρ', h => by rw [List.length_cons, List.length_cons, gSets_len (is := is) (ws := ws) h]
theorem PG.or {X : Cx} {tg : Expr} {t t' : TG} (h : PG X tg t) (h' : PG X tg t') : PG X tg fun v σ H Q => t v σ H Q ∨ t' v σ H Q := ⟨fun pins s σ H v u Q I r q => q.elim (h.run pins s σ H v u Q I r) (h'.run pins s σ H v u Q I r)⟩
theorem sg_tup (C : Cq tb G CA XR k N sc own X W) {is : List Nat} {tgs : List Expr} {kk : Nat} (h : PGs X tgs (tGs X.K CA is)) (hn : (assignEach tgs X.env).length = is.length := by rfl)
    (hst : (assignEach tgs X.env).findIdx? (·.1) = none := by rfl) : SG CA XR X W (.Tuple tgs kk pos) (gTup is) := by
  refine PG.weak (PG.or (pg_tup (n := is.length) C.calm h hn hst) (pg_lst (n := is.length) C.calm h hn hst)) fun v σ H Q ⟨m, st, ρ, w, S, E, r, q⟩ => ?_
  obtain ⟨ws, ad, us, rfl, h1, rs, z, q1⟩ := items_ok S r (q : PR X.K CA XR W σ ((items w st).bind _) m st H _)
  cases e : gSets is ws ρ with
  | none => rw [e] at q1; exact q1.elim
  | some ρ' =>
    rw [e] at q1
    have hl : us.length = is.length := by rw [← rs.length]; exact gSets_len e
    have fin : tGs X.K CA is us σ H Q := ⟨m, st, ρ, ws, ρ', S, E, rs, e, PR.here S q1⟩
    rcases h1 with h1 | h1
    · exact .inr ⟨ad, us, rfl, h1, hl, fin⟩
    · exact .inl ⟨ad, us, rfl, h1, hl, fin⟩
end
end Fl
set_option Elab.async false
set_option linter.all false
set_option maxRecDepth 100000
set_option maxHeartbeats 2000000
/-! Fl over the layer: statements, loops. -/
namespace Fl
open PySem PySem.Spec L2

theorem PS.weak {X : Cx} {b : Stmt} {t t' : TS} (h : PS X b t) (k : ∀ D σ H, t' D σ H → t D σ H) : PS X b t' := ⟨fun pins s σ H D I q => h.run pins s σ H D I (k D σ H q)⟩
theorem PSs.weak {X : Cx} {b : List Stmt} {t t' : TS} (h : PSs X b t) (k : ∀ D σ H, t' D σ H → t D σ H) : PSs X b t' := ⟨fun pins s σ H D I q => h.run pins s σ H D I (k D σ H q)⟩
section
variable {tb : Tab} {G : FEnv} {CA : Tags} {XR : XRel} {k : Nat} {N : List Str} {sc : Scope} {own : Str → Bool} {X : Cx} {W : WX}
variable {a b c d e tg it : Expr} {es : List Expr} {pos pos' apos cpos p p2 p3 : Pos} {f g h : CE} {t u : CT} {s1 : Stmt} {ss bb : List Stmt} {fs gs : SM} {gm : CG} {im : CI}

theorem sw_nil : SS CA XR X W [] sNil := PSs.weak pss_nil fun D σ H ⟨m, st, ρ, S, E, q⟩ => q m H σ S Step.refl E
theorem sw_cons (h1 : S1 CA XR X W s1 fs) (h2 : SS CA XR X W ss gs) : SS CA XR X W (s1 :: ss) (sSeq fs gs) := PSs.weak (pss_cons h1 h2) fun D σ H ⟨m, st, ρ, S, E, q⟩ => by
  refine ⟨m, st, ρ, S, E, ?_⟩
  unfold sSeq at q
  cases e : fs ρ st with
  | nx ρ' s' =>
    rw [e] at q
    exact fun m' H' σ' S' T E' => ⟨m', s', ρ', S', E', PO.step q T⟩
  | rt v s' => rw [e] at q; exact q
  | bk v s' => rw [e] at q; exact q
  | ct v s' => rw [e] at q; exact q
  | ex x v s' => rw [e] at q; exact q
  | bad => rw [e] at q; exact q
theorem sw_one (h1 : S1 CA XR X W s1 fs) : SS CA XR X W [s1] fs := pss_one h1
theorem ss_pass : S1 CA XR X W (.Pass pos) sNil := PS.weak ps_pass fun D σ H ⟨m, st, ρ, S, E, q⟩ => q m H σ S Step.refl E
theorem ss_break : S1 CA XR X W (.Break pos) sBreak := PS.weak ps_break fun D σ H ⟨m, st, ρ, S, E, q⟩ => q m H σ S Step.refl E
theorem ss_cont : S1 CA XR X W (.Continue pos) sCont := PS.weak ps_continue fun D σ H ⟨m, st, ρ, S, E, q⟩ => q m H σ S Step.refl E
theorem ss_doc {x : Str} {j : Nat} : S1 CA XR X W (.Expr (.Constant (.str x) j pos) pos') sNil := PS.weak ps_doc fun D σ H ⟨m, st, ρ, S, E, q⟩ => q m H σ S Step.refl E
theorem ss_expr (ha : SE CA XR X W a f) (hs : swapsWith a none pos.line X.env = pure false := by rfl) : S1 CA XR X W (.Expr a pos) (sExpr f) := PS.weak (ps_expr ha hs) fun D σ H ⟨m, st, ρ, S, E, q⟩ =>
  ⟨m, st, ρ, S, E, (PO.expr E q).mono fun x m1 st1 H1 S1 T1 h1 v rv => h1 m1 H1 σ S1 Step.refl (E.mono T1)⟩
theorem ss_ret (ha : SE CA XR X W a f) : S1 CA XR X W (.Return (some a) pos) (sRet f) := PS.weak (ps_ret ha) fun D σ H ⟨m, st, ρ, S, E, q⟩ =>
  ⟨m, st, ρ, S, E, (PO.expr E q).mono fun x m1 st1 H1 S1 T1 h1 v rv => h1 m1 H1 v S1 Step.refl rv⟩
theorem ss_retN : S1 CA XR X W (.Return none pos) (sRet (eC .non)) := PS.weak ps_retN fun D σ H ⟨m, st, ρ, S, E, q⟩ => q m H .non S Step.refl rfl
theorem ss_if (hc : STt CA XR X W c t) (ha : SS CA XR X W ss fs) (hb : SS CA XR X W bb gs) : S1 CA XR X W (.If c ss bb pos) (sIf t fs gs) := PS.weak (ps_if hc ha hb) fun D σ H ⟨m, st, ρ, S, E, q⟩ =>
  ⟨m, st, ρ, S, E, (PO.expr E q).mono fun x m1 st1 H1 S1 T1 h1 => by
    cases x with
    | true => exact ⟨m1, st1, ρ, S1, E.mono T1, h1⟩
    | false => exact ⟨m1, st1, ρ, S1, E.mono T1, h1⟩⟩

/-! ### assignments -/
theorem gVar_eq {i : Nat} {v : Val} {ρ : Env} {s : Store} : gVar i v ρ s = .ok (ρ.set i (some v)) s := rfl
theorem ss_set (C : Cw tb G CA XR k N sc own X W) (i : Nat) {x : Str} (hi : N[i]? = some x) (hx : stoB sc own x = true) (ha : SE CA XR X W a f) (hs : swapsWith a (some (.Name x p)) pos.line X.env = pure false := by rfl) :
    S1 CA XR X W (.Assign [.Name x p] a pos) (sAsg f (gVar i)) := by
  obtain ⟨h1, h2⟩ := sto_loc hx
  refine PS.weak (ps_set (i := i) (by rw [C.nm]; exact C.nd) (by rw [C.nm]; exact hi) (by rw [C.sc]; exact h1) ha hs (by rw [C.sc, C.own]; exact h2)) fun D σ H ⟨m, st, ρ, S, E, q⟩ => ?_
  exact ⟨m, st, ρ, S, E, (PO.expr E q).mono fun x m1 st1 H1 S1 T1 h1 v rv => h1 m1 H1 _ S1 Step.refl ((E.mono T1).set rv i)⟩
theorem ss_asg (ha : SE CA XR X W a f) (hg : SG CA XR X W tg gm) (hs : swapsWithSole [tg] a pos.line X.env = pure false := by rfl) (hw : swappedStores [tg] a X.env = pure none := by rfl)
    (h1 : (assignEach [tg] X.env).map (·.2) = [assign tg X.env] := by rfl) : S1 CA XR X W (.Assign [tg] a pos) (sAsg f gm) := by
  refine PS.weak (ps_asg ha hg hs hw h1) fun D σ H ⟨m, st, ρ, S, E, q⟩ => ?_
  refine ⟨m, st, ρ, S, E, (PO.expr E q).mono fun x m1 st1 H1 S1 T1 h1 v rv => ⟨m1, st1, ρ, x, S1, E.mono T1, rv, (PO.expr (E.mono T1) h1).mono fun ρ' m2 st2 H2 S2 T2 h2 σ' E' => h2 m2 H2 σ' S2 Step.refl E'⟩⟩

/-! ### loops -/
theorem PR.some {α : Type} {K : PySem.W.Frag} {CA : Tags} {XR : XRel} {W : WX} {σ : L2.St} {r : R α} {m : Mp} {st : Store} {H : Hp} {ok ok' : α → Mp → Store → Hp → Prop} (h : PR K CA XR W σ r m st H ok) (hh : ∀ a s', r = .ok a s' → ∀ m' H', SR K CA m' s' H' → Step m st H m' s' H' → ok a m' s' H' → ok' a m' s' H') : PR K CA XR W σ r m st H ok' := by
  cases r with
  | ok a s' => exact fun m' H' S T => hh a s' rfl m' H' S T (h m' H' S T)
  | exc x s' => exact h
  | bad => exact h
theorem drop_at {α : Type} {xs : List α} {i : Nat} (h : i < xs.length) : xs.drop i = xs[i] :: xs.drop (i + 1) := (List.drop_eq_getElem_cons h)
/-- the turns of a loop -/
theorem for_read {K : PySem.W.Frag} {D : Ends} {σ : L2.St} {m : Mp} {st : Store} {H : Hp} {ρ : Env} {J : It} {vs : List Val} (wk : Wk K CA J vs m st H) (S : SR K CA m st H) (E : ER K m st H ρ σ) (q : PO K CA XR W D m st H (forL gm fs vs ρ st)) :
    ∃ V : Nat → Nat → L2.St → Hp → Prop, (∃ μ, V 0 μ σ H) ∧ ∀ i μ σ H, V i μ σ H → (J.stop i H ∧ D.nx σ H) ∨ (J.go i H ∧ ∃ Nx : L2.St → Hp → Prop, (∀ σ' H', Nx σ' H' → ∃ μ', μ' < μ ∧ V (i + 1) μ' σ' H') ∧
      ∀ x H', J.yld i H x H' → tG K CA XR W gm x σ H' fun σ2 H2 => tS K CA XR W fs { D with nx := Nx, ct := Nx, bk := D.nx } σ2 H2) := by
  have key : ∀ i m' st' H', SR K CA m' st' H' → Step m st H m' st' H' → ∀ ρ' σ', ER K m' st' H' ρ' σ' → i ≤ vs.length → PO K CA XR W D m' st' H' (forL gm fs (vs.drop i) ρ' st') → True := fun _ _ _ _ _ _ _ _ _ _ _ => trivial
  refine ⟨fun i μ σ' H' => i ≤ vs.length ∧ μ = vs.length - i ∧ ∃ m' st' ρ', SR K CA m' st' H' ∧ Step m st H m' st' H' ∧ ER K m' st' H' ρ' σ' ∧ PO K CA XR W D m' st' H' (forL gm fs (vs.drop i) ρ' st'), ⟨vs.length, Nat.zero_le _, rfl, m, st, ρ, S, Step.refl, E, q⟩, ?_⟩
  rintro i μ σ' H' ⟨hi, rfl, m', st', ρ', S', T', E', q'⟩
  by_cases hl : i < vs.length
  · refine .inr ⟨(wk.go i _ (List.getElem?_eq_getElem hl) m' st' H' S' T').1, fun σ2 H2 => ∃ m2 st2 ρ2, SR K CA m2 st2 H2 ∧ Step m st H m2 st2 H2 ∧ ER K m2 st2 H2 ρ2 σ2 ∧ PO K CA XR W D m2 st2 H2 (forL gm fs (vs.drop (i + 1)) ρ2 st2), fun σ2 H2 hh => ⟨vs.length - (i + 1), by omega, by omega, rfl, hh⟩, fun x H2 y => ?_⟩
    obtain ⟨S2, T2, r2⟩ := (wk.go i _ (List.getElem?_eq_getElem hl) m' st' H' S' T').2 x H2 y
    rw [drop_at hl] at q'
    have q2 : PO K CA XR W D m' st' H' ((gm vs[i] ρ' st').so ρ' fun ρ1 s1 => match fs ρ1 s1 with
      | .nx ρ2 s2 => forL gm fs (vs.drop (i + 1)) ρ2 s2
      | .ct ρ2 s2 => forL gm fs (vs.drop (i + 1)) ρ2 s2
      | .bk ρ2 s2 => .nx ρ2 s2
      | o => o) := q'
    have E2 := E'.mono T2
    refine ⟨m', st', ρ', vs[i], S2, E2, r2, (PO.expr E2 (q2.step T2)).mono fun ρ1 m3 st3 H3 S3 T3 h3 σ3 E3 => ⟨m3, st3, ρ1, S3, E3, ?_⟩⟩
    have T0 := (T'.trans T2).trans T3
    cases e : fs ρ1 st3 with
    | nx ρ2 s2 => rw [e] at h3; exact fun m4 H4 σ4 S4 T4 E4 => ⟨m4, s2, ρ2, S4, T0.trans T4, E4, PO.step h3 T4⟩
    | ct ρ2 s2 => rw [e] at h3; exact fun m4 H4 σ4 S4 T4 E4 => ⟨m4, s2, ρ2, S4, T0.trans T4, E4, PO.step h3 T4⟩
    | bk ρ2 s2 => rw [e] at h3; exact h3
    | rt v s2 => rw [e] at h3; exact h3
    | ex x v s2 => rw [e] at h3; exact h3
    | bad => rw [e] at h3; exact h3
  · have e : i = vs.length := by omega
    subst e
    rw [List.drop_length] at q'
    exact .inl ⟨wk.stop _ m' st' H' (Nat.le_refl _) S' T', q' m' H' σ' S' Step.refl E'⟩
theorem ss_for (C : Cs tb G CA XR k N sc X W) (hi : SI CA XR X W tg it im) (hg : SG CA XR X W tg gm) (hb : SS CA XR X W bb fs) (hs : ∀ x, foldedSetIterable it X.env x = pure x := by intro _; rfl) : S1 CA XR X W (.For tg it bb [] pos) (sFor im gm fs) :=
  PS.weak (ps_for C.hp C.q.calm hi hg hb hs) fun D σ H ⟨m, st, ρ, S, E, q⟩ => ⟨m, st, ρ, S, E, (PO.expr E q).mono fun vs m1 st1 H1 S1 T1 h1 J wk => for_read wk S1 (E.mono T1) h1⟩
theorem ss_while (C : Cs tb G CA XR k N sc X W) (hc : STt CA XR X W c t) (hb : SS CA XR X W bb fs) : S1 CA XR X W (.While c bb [] pos) (sWhile t fs) :=
  PS.weak (ps_while C.hp hc hb) fun D σ H ⟨m, st, ρ, S, E, q⟩ => by
    refine ⟨fun μ σ' H' => ∃ m' st' ρ', SR X.K CA m' st' H' ∧ ER X.K m' st' H' ρ' σ' ∧ PO X.K CA XR W D m' st' H' (whileN t fs μ ρ' st'), ⟨whileMax, m, st, ρ, S, E, q⟩, ?_⟩
    rintro μ σ' H' ⟨m', st', ρ', S', E', q'⟩
    cases μ with
    | zero => exact (show False from q').elim
    | succ μ =>
      refine ⟨m', st', ρ', S', E', (PO.expr E' (q' : PO X.K CA XR W D m' st' H' ((t ρ' st').so ρ' _))).mono fun x m1 st1 H1 S1 T1 h1 => ?_⟩
      cases x with
      | false => exact h1 m1 H1 σ' S1 Step.refl (E'.mono T1)
      | true =>
        rw [if_pos rfl]
        refine ⟨fun σ2 H2 => ∃ m2 st2 ρ2, SR X.K CA m2 st2 H2 ∧ ER X.K m2 st2 H2 ρ2 σ2 ∧ PO X.K CA XR W D m2 st2 H2 (whileN t fs μ ρ2 st2), fun σ2 H2 hh => ⟨μ, Nat.lt_succ_self _, hh⟩, m1, st1, ρ', S1, E'.mono T1, ?_⟩
        simp only [if_true] at h1
        cases e : fs ρ' st1 with
        | nx ρ2 s2 => rw [e] at h1; exact fun m4 H4 σ4 S4 T4 E4 => ⟨m4, s2, ρ2, S4, E4, PO.step h1 T4⟩
        | ct ρ2 s2 => rw [e] at h1; exact fun m4 H4 σ4 S4 T4 E4 => ⟨m4, s2, ρ2, S4, E4, PO.step h1 T4⟩
        | bk ρ2 s2 => rw [e] at h1; exact h1
        | rt v s2 => rw [e] at h1; exact h1
        | ex x v s2 => rw [e] at h1; exact h1
        | bad => rw [e] at h1; exact h1
end
end Fl
set_option Elab.async false
set_option linter.all false
set_option maxRecDepth 100000
set_option maxHeartbeats 2000000
/-! Fl over the layer: items stored, exceptions raised. -/
namespace Fl
open PySem PySem.Spec L2

section
variable {tb : Tab} {G : FEnv} {CA : Tags} {XR : XRel} {k : Nat} {N : List Str} {sc : Scope} {own : Str → Bool} {X : Cx} {W : WX}
variable {a b c d e tg it : Expr} {es : List Expr} {pos pos' apos cpos p p2 p3 : Pos} {f g h : CE} {t u : CT} {s1 : Stmt} {ss bb : List Stmt} {fs gs : SM} {gm : CG} {im : CI}

theorem RepVK.any {K : PySem.W.Frag} {m : Mp} {st : Store} {H : Hp} (kk : Key) : ∀ {kvs : List (Key × Val)} {us : List (L2.Key × V)}, RepVK K m st H kvs us → (us.any fun kv => decide (kv.1 = kL kk)) = kvs.any fun p => decide (p.1 = kk)
  | [], us, h => by rw [show us = [] from h]; rfl
  | (l, x) :: r, _, ⟨v, q, rfl, ⟨h1, _⟩, h2⟩ => by
    rw [List.any_cons, List.any_cons, RepVK.any kk h2, h1]
    by_cases e : l = kk
    · subst e; simp
    · rw [decide_eq_false e, decide_eq_false (fun z => e (kL_inj z))]
theorem RepVK.put {K : PySem.W.Frag} {m : Mp} {st : Store} {H : Hp} {kk : Key} {w : Val} {v : V} (rv : RepV K m st H w v) {kvs : List (Key × Val)} {us : List (L2.Key × V)} (h : RepVK K m st H kvs us) : RepVK K m st H (dput kvs kk w) (putK us (kL kk) v) := by
  have app : ∀ {kvs : List (Key × Val)} {us : List (L2.Key × V)}, RepVK K m st H kvs us → RepVK K m st H (kvs ++ [(kk, w)]) (us ++ [(kL kk, v)]) := by
    intro kvs
    induction kvs with
    | nil => intro us h; rw [show us = [] from h]; exact ⟨_, [], rfl, ⟨rfl, rv⟩, rfl⟩
    | cons p r ih =>
      rintro us ⟨x, q, rfl, h1, h2⟩
      exact ⟨x, q ++ [(kL kk, v)], rfl, h1, ih h2⟩
  have map : ∀ {kvs : List (Key × Val)} {us : List (L2.Key × V)}, RepVK K m st H kvs us → RepVK K m st H (kvs.map fun p => if p.1 = kk then (p.1, w) else p) (us.map fun kv => if kv.1 = kL kk then (kv.1, v) else kv) := by
    intro kvs
    induction kvs with
    | nil => intro us h; rw [show us = [] from h]; exact rfl
    | cons p r ih =>
      rintro us ⟨x, q, rfl, h1, h2⟩
      refine ⟨_, _, rfl, ?_, ih h2⟩
      dsimp only
      by_cases e : p.1 = kk
      · rw [if_pos e, if_pos (show x.1 = kL kk by rw [h1.1, e])]; exact ⟨h1.1, rv⟩
      · rw [if_neg e, if_neg (fun z => e (kL_inj (h1.1.symm.trans z)))]; exact h1
  unfold dput putK
  rw [h.any kk]
  split
  · exact map h
  · exact app h
theorem dput_len (kvs : List (Key × Val)) (kk : Key) (w : Val) : (dput kvs kk w).length ≤ kvs.length + 1 := by
  unfold dput
  split
  · rw [List.length_map]; exact Nat.le_succ _
  · rw [List.length_append]; exact Nat.le_refl _
theorem ixN_of {n j : Nat} {i : Int} (h : pyIx n i = some j) : ixN n i = some j := h
theorem setI_ok {σ : L2.St} {m : Mp} {st : Store} {H : Hp} {x y z : Val} {vx vy vz : V} {Q : Hp → Prop} {ok : Unit → Mp → Store → Hp → Prop} (S : SR X.K CA m st H) (rx : RepV X.K m st H x vx) (ry : RepV X.K m st H y vy) (rz : RepV X.K m st H z vz)
    (q : PR X.K CA XR W σ (setI x y z st) m st H ok) (hQ : ∀ m' st' H', ok () m' st' H' → Q H') : rSetL vx vy vz H Q ∨ rSetD vx vy vz H Q := by
  unfold setI at q
  split at q
  · rename_i n
    obtain ⟨_, rfl⟩ := rx
    cases e : st.cell n with
    | none => rw [e] at q; exact q.elim
    | some cc =>
      rw [e] at q
      cases cc with
      | lst ws =>
        dsimp only at q
        split at q
        · rename_i i
          cases ry
          cases e1 : pyIx ws.length i with
          | none => rw [e1] at q; exact q.elim
          | some j =>
            rw [e1] at q
            obtain ⟨us, hh, zz, rs⟩ := S.cells n _ e
            obtain ⟨h1, h2⟩ := pyIx_seq e1
            refine .inl ⟨m n, us, i, j, rfl, rfl, hh, ?_, ?_⟩
            · rw [← rs.length]; exact ixN_of e1
            · exact hQ _ _ _ (setL_ok S e (RepVs.set rz j rs) (by rw [List.length_set]; exact zz) q)
        · exact q.elim
      | dct kvs =>
        dsimp only at q
        cases e1 : keyOf y with
        | none => rw [e1] at q; exact q.elim
        | some kk =>
          rw [e1] at q
          dsimp only at q
          split at q
          · rename_i hz
            obtain ⟨us, hh, zz, rs⟩ := S.cells n _ e
            have T := S.setStep (o := .dK (putK us (kL kk) vz)) (c' := .dct (dput kvs kk z)) e
            refine .inr ⟨m n, _, rfl, .inl ⟨us, kL kk, hh, keyOf_rep ry e1, by rw [← rs.length]; exact lineLt hz, rfl⟩, ?_⟩
            refine hQ _ _ _ (q m _ (S.setCell e ⟨putK us (kL kk) vz, upd_same, ?_, RepVK.mono T _ _ (RepVK.put rz rs)⟩) T)
            have := dput_len kvs kk z
            omega
          · exact q.elim
      | kd kvs => exact (show False from S.cells n _ e).elim
      | _ => exact q.elim
  · exact q.elim
theorem PSet.or {X : Cx} {t t' : TSet} (h : PSet X t) (h' : PSet X t') : PSet X fun o i v H Q => t o i v H Q ∨ t' o i v H Q := fun pins s σ H o i v ov iv u Q I ro ri rv q =>
  q.elim (h pins s σ H o i v ov iv u Q I ro ri rv) (h' pins s σ H o i v ov iv u Q I ro ri rv)
/-- o[i] = e -/
theorem ss_sub (C : Cw tb G CA XR k N sc own X W) (he : SE CA XR X W e f) (ho : SE CA XR X W a g) (hi : SE CA XR X W b h) (hs : swapsWithSole [.Subscript a b p] e pos.line X.env = pure false := by rfl)
    (hw : swappedStores [.Subscript a b p] e X.env = pure none := by rfl) (h1 : (assignEach [.Subscript a b p] X.env).map (·.2) = [assign (.Subscript a b p) X.env] := by rfl)
    (ha : ∀ v, assign (.Subscript a b p) X.env v = (do
      let ov ← holding [v] (eval a X.env)
      let iv ← holding [v, ov] (eval b X.env)
      standAt p
      holding [v, ov, iv] (setItem ov iv v)
      release [v, ov, iv] []) := by intro _; rfl) : S1 CA XR X W (.Assign [.Subscript a b p] e pos) (sSub f g h) := by
  refine PS.weak (ps_asg he (pg_sub ho hi (PSet.or set_list (set_dict C.u1)) ha) hs hw h1) fun D σ H ⟨m, st, ρ, S, E, q⟩ => ?_
  refine ⟨m, st, ρ, S, E, (PO.expr E q).mono fun x m1 st1 H1 S1 T1 h1 v rv => ?_⟩
  refine ⟨m1, st1, ρ, S1, E.mono T1, (PO.expr (E.mono T1) h1).mono fun y m2 st2 H2 S2 T2 h2 o ro => ?_⟩
  refine ⟨m2, st2, ρ, S2, (E.mono T1).mono T2, (PO.expr ((E.mono T1).mono T2) h2).mono fun z m3 st3 H3 S3 T3 h3 i ri => ?_⟩
  have E3 := ((E.mono T1).mono T2).mono T3
  exact setI_ok (W := W) (σ := σ) S3 (RepV.mono T3 _ _ ro) ri (RepV.mono (T2.trans T3) _ _ rv) ((PO.expr E3 h3).mono fun _ m4 st4 H4 S4 T4 h4 => show D.nx σ H4 from h4 m4 H4 σ S4 Step.refl (E3.mono T4)) fun _ _ _ z => z
/-- raise X('m') -/
theorem ss_raise (C : Cs tb G CA XR k N sc X W) {x m : Str} (t : String) {j : Nat} (hg : glbB sc x = true) (hm : (x, t) ∈ tb.excs) : S1 CA XR X W (.Raise (some (.Call (.Name x p) [.Constant (.str m) j p2] [] p3)) none pos) (sRaise t) := by
  obtain ⟨A, bmB, newId, initId, B, h1, F, h2, h3, h4, h5, h6⟩ := C.q.glob.excs x t hm
  refine PS.weak (ps_raise C.q.calm C.tk (pmk_own F h2 h1 h3 (raises_own h4 h5) (gl_of C.q.toCw hg) (gl_dbg hg))) fun D σ H ⟨m, st, ρ, S, E, q⟩ => ?_
  exact q m H σ _ _ S Step.refl E (h6 H)
end
end Fl
set_option Elab.async false
set_option linter.all false
set_option maxRecDepth 100000
set_option maxHeartbeats 2000000
/-! Fl over the layer: comprehensions that may raise. -/
namespace Fl
open PySem PySem.Spec L2

/-- the end of a comprehension's block, its own names let go -/
def cpost (M : Model) (A : Around) (E : Value → Shared → Prop) (use : Option (Value → Sem Unit)) (Q : Value → Shared → Prop) (acc : Value) (ce : PySem.Env) (r : Result) (s' : Shared) : Prop :=
  match r with
  | .ok _ => (match use with
    | none => ∃ m, s'.heap.Ns ce.locals m ∧ ∀ h', Heap.SameBut ce.locals s'.heap h' → Q acc { s' with heap := h' }
    | some u => wpAny M A (u acc) (fun _ t => ∃ m, t.heap.Ns ce.locals m ∧ ∀ h', Heap.SameBut ce.locals t.heap h' → Q .none { t with heap := h' }) E s')
  | .error x => ∃ m, s'.heap.Ns ce.locals m ∧ ∀ h', Heap.SameBut ce.locals s'.heap h' →
      wpAny M A (passOn "comprehension.variables-let-go" x ce : Sem Value) (fun _ _ => False) E { s' with heap := h' }
section
variable {M : Model} {A : Around} {E : Value → Shared → Prop} {s : Shared} {env : PySem.Env}
theorem comp_free {e : Expr} {sc : Scope} {pos : Pos} {newAcc first : Sem Value} {g : Comprehension} {gs : List Comprehension} {cl : List (Str × Addr)} {use : Option (Value → Sem Unit)} {Q : Value → Shared → Prop}
    (h1 : clausesOf e = g :: gs) (h2 : ∀ x, foldedSetIterable g.iter env x = pure x) (h3 : closureFor sc env = pure cl) (h4 : sc.kind = .function) (h5 : ∀ x ∈ sc.names, x.2 = .local → sc.names.lookup x.1 = some .local)
    (h : wpAny M A first (fun x s1 => wpAny M A (pyIter x) (fun it s2 => wpAny M A newAcc (fun acc s3 => wpAny M A (newFunctionEnv sc env.globals cl [] env.qual none .none (some env))
      (fun ce s4 => codeAny M A (.compStart e 0 it acc { ce with scope := relabel sc env }) (cpost M A E use Q acc { ce with scope := relabel sc env }) s4) E s3) E s2) E s1) E s) :
    wpAny M A (comprehension e sc env pos newAcc false first use) Q E s := by
  unfold comprehension
  rw [h3, h1]
  refine wpAny_bind (wpAny_mono h (fun x s1 q1 => ?_) fun _ _ z => z)
  refine wpAny_bind (wpAny_standAt (wpAny_bind (wpAny_of_eq (h2 x) (wpAny_bind (wpAny_holding (wpAny_mono q1 (fun it s2 q2 => ?_) fun _ _ z => z))))))
  refine wpAny_standIf (wpAny_bind (wpAny_mono q2 (fun acc s3 q3 => ?_) fun _ _ z => z))
  refine wpAny_bind (wpAny_pure (wpAny_bind (wpAny_mono q3 (fun ce s4 q4 => ?_) fun _ _ z => z)))
  dsimp only
  have k1 : ∀ x ∈ (sc.names.filter fun x => (x.2 == .local || x.2 == .cell) && x.1 != (".0" : Str)).reverse, x.2 = .local → Env.kindOf { ce with scope := relabel sc env } x.1 = some .local :=
    fun x hx hl => lookup_relabel_local (h5 x (List.mem_filter.mp (List.mem_reverse.mp hx)).1 hl)
  have k2 : ∀ x ∈ (sc.names.filter fun x => (x.2 == .local || x.2 == .cell) && x.1 != (".0" : Str)).reverse.drop 1 ++ (sc.names.filter fun x => (x.2 == .local || x.2 == .cell) && x.1 != (".0" : Str)).reverse.take 1,
      x.2 = .local → Env.kindOf { ce with scope := relabel sc env } x.1 = some .local := by
    intro x hx hl
    rcases List.mem_append.mp hx with z | z
    · exact k1 x (List.mem_of_mem_drop z) hl
    · exact k1 x (List.mem_of_mem_take z) hl
  refine wpAny_holding (wpAny_bind (wpAny_attempt (wpAny_holding (wpAny_run (codeAny_mono q4 fun r t hr => ?_)))))
  cases r with
  | error x =>
    obtain ⟨m, hn, hr⟩ := hr
    refine wpAny_bind (wpAny_holding (wpAny_comp_letGo (cenv := { ce with scope := relabel sc env }) h4 _ t m k1 hn fun h' m' _ sb => ?_))
    exact wpAny_mono (hr h' sb) (fun _ _ f => f.elim) fun _ _ y => y
  | ok f =>
    cases use with
    | none =>
      obtain ⟨m, hn, hr⟩ := hr
      exact wpAny_bind (wpAny_holding (wpAny_comp_letGo (cenv := { ce with scope := relabel sc env }) h4 _ t m k1 hn fun h' m' _ sb => wpAny_pure (hr h' sb)))
    | some u =>
      refine wpAny_bind (wpAny_rule (wpAny_bind (wpAny_holding (wpAny_mono hr (fun _ t2 hr2 => ?_) fun _ _ z => z))))
      obtain ⟨m, hn, hr2⟩ := hr2
      exact wpAny_bind (wpAny_comp_letGo (cenv := { ce with scope := relabel sc env }) h4 _ t2 m k2 hn fun h' m' _ sb => wpAny_pure (hr2 h' sb))
end
end Fl
set_option Elab.async false
set_option linter.all false
set_option maxRecDepth 100000
set_option maxHeartbeats 2000000
/-! Fl over the layer: an exception leaves a comprehension's block; the new list, kept aside. -/
namespace Fl
open PySem PySem.Spec L2

theorem note_eq {a b : PySem.Env} (h : a.frame = b.frame) (e : Value) : noteFrame e a = noteFrame e b := by
  unfold noteFrame frameOf
  rw [h]
theorem frames_base {h B B' : Heap} : ∀ {l : List PySem.Env}, h.FunFrames B l → (∀ b, B.get? b = none → B'.get? b = none) → h.FunFrames B' l
  | [], _, _ => trivial
  | env :: r, hl, k => by
    obtain ⟨h1, ⟨F, o, h2, h3, h4, h5⟩, h6⟩ := hl
    exact ⟨h1, ⟨F, o, h2, k F h3, h4, h5⟩, frames_base h6 k⟩

section
variable {X : Cx} {W : WX} {pins : List (Addr × Obj)} {σ : L2.St} {H2 : Hp} {s3 : Shared} {scope : Scope} {ce : PySem.Env} {fp : List Addr} {F : Addr}
/-- an exception in the block's air, noted and passed on, is in the def's air -/
theorem block_air (I3 : Inv X pins σ H2 s3) (hF : X.env.frame = some F) (hst : ∃ e0 r, X.stack = e0 :: r ∧ e0.frame = some F) (tk : ∀ u s', XEL X F W u s' → X.xe u s')
    (hL : ce.locals = s3.heap.objs.size) (hcf : ce.frame = X.env.frame) (hfp : ∀ b ∈ fp, FpOk X pins H2 b) {use : Option (Value → Sem Unit)} {Qf : Value → Shared → Prop} {acc : Value} {e : Value} {s' : Shared}
    (x : XEL (X.blk s3 H2 scope ce fp) F (fun c d _ H => W c d σ H) e s') :
    notedBy (model X.prog X.w) X.A ce (fun e s'' => cpost (model X.prog X.w) X.A X.xe use Qf acc ce (.error e) s'') e s' := by
  obtain ⟨a, B, sI, pI, σI, HI, cls, d, ⟨rfl, w⟩, J, ⟨sky, na⟩, nb, up, os, ag⟩ := x
  obtain ⟨e0, r0, hs, h0⟩ := hst
  have hfr : X.A.frames = some (e0 :: r0) := by rw [← hs]; exact J.ok.frames
  have hceF : ce.frame = some F := hcf.trans hF
  have nC : HI ce.locals = none := J.free
  have cst : ce.locals ∉ frs X.stack := fun hm => by
    obtain ⟨_, o, ho, _⟩ := I3.stack.mem hm
    rw [hL] at ho
    exact absurd (Heap.lt_size ho) (Nat.lt_irrefl _)
  have sky' : Sky B (e0 :: r0) a (Zc cls d) F s'.heap := by rw [← hs]; exact sky
  -- behind the note
  have step : ∀ h1, HandSPX.HeldZ B (e0 :: r0) a (Zc cls d) F h1 → s'.heap.UpToSlots h1 → cpost (model X.prog X.w) X.A X.xe use Qf acc ce (.error (.ref a)) { s' with heap := h1 } := by
    intro h1 held up1
    have J1 : Inv (X.blk s3 H2 scope ce fp) pI σI HI { s' with heap := h1 } := J.landed nb held.1 (up.trans up1) os ag
    obtain ⟨mm, hns, _⟩ := J1.loc
    refine ⟨mm, hns, fun h2 sb => ?_⟩
    have oth : ∀ b, b ≠ ce.locals → h2.get? b = h1.get? b := fun b hb => sb.2 b hb
    obtain ⟨oC, _, _, hoC, hdC, _⟩ := id hns
    have notC : ∀ {b : Addr} {o : Obj} {vs : Array Value}, h1.get? b = some o → o.data = .fields vs → b ≠ ce.locals := fun {b o vs} e1 e2 z => by
      have hoC' : h1.get? ce.locals = some oC := hoC
      rw [z, hoC'] at e1
      cases e1
      rw [hdC] at e2
      cases e2
    obtain ⟨B', g1, g2⟩ := restrict B fun b => decide (b ≠ ce.locals)
    have gs : ∀ {b : Addr} {o : Obj}, B'.get? b = some o → b ≠ ce.locals ∧ B.get? b = some o := fun {b o} e1 => by
      by_cases z : b = ce.locals
      · rw [g2 b (by simp [z])] at e1; cases e1
      · exact ⟨z, by rw [← g1 b (by simp [z])]; exact e1⟩
    have gn : ∀ b, B.get? b = none → B'.get? b = none := fun b e1 => by
      cases z : B'.get? b with
      | none => rfl
      | some o => rw [(gs z).2] at e1; cases e1
    obtain ⟨hB, hna, hff, oe, vs, T, oT, ts, t1, t2, t3, t4, t5, t6, t7, t8, t9⟩ := id held
    have held2 : HandSPX.HeldZ B' (e0 :: r0) a (Zc cls d) F h2 := by
      refine ⟨fun b o e1 => ?_, gn a hna, ?_, oe, vs, T, oT, ts, ?_, t2, t3, t4, gn T t5, t6, ?_, t8, t9⟩
      · obtain ⟨z1, z2⟩ := gs e1
        exact (oth b z1).trans (hB b o z2)
      · have fr2 : ∀ {l : List PySem.Env}, (∀ b ∈ frs l, b ≠ ce.locals) → h1.FunFrames B l → h2.FunFrames B l := by
          intro l
          induction l with
          | nil => intro _ _; trivial
          | cons en r ih =>
            intro hm hl
            obtain ⟨k1, ⟨F1, o1, k2, k3, k4, k5⟩, k6⟩ := hl
            refine ⟨k1, ⟨F1, o1, k2, k3, ?_, k5⟩, ih (fun b hb => hm b ?_) k6⟩
            · exact (oth F1 (hm F1 (List.mem_filterMap.mpr ⟨en, List.mem_cons_self, k2⟩))).trans k4
            · obtain ⟨e1, e2, e3⟩ := List.mem_filterMap.mp hb
              exact List.mem_filterMap.mpr ⟨e1, List.mem_cons_of_mem _ e2, e3⟩
        exact frames_base (fr2 (fun b hb z => cst (by rw [hs, ← z]; exact hb)) hff) gn
      · exact (oth a (notC t1 t3)).trans t1
      · exact (oth T (notC t7 t8)).trans t7
    -- the state without the exception and without the block's names
    obtain ⟨Gr, k1, k2⟩ := restrict sI.heap fun b => decide (b ≠ ce.locals)
    have ks : ∀ {b : Addr} {o : Obj}, Gr.get? b = some o → b ≠ ce.locals ∧ sI.heap.get? b = some o := fun {b o} e1 => by
      by_cases z : b = ce.locals
      · rw [k2 b (by simp [z])] at e1; cases e1
      · exact ⟨z, by rw [← k1 b (by simp [z])]; exact e1⟩
    have kk : ∀ b, b ≠ ce.locals → Gr.get? b = sI.heap.get? b := fun b hb => k1 b (by simp [hb])
    have old : ∀ {b : Addr} {o : Obj}, s3.heap.get? b = some o → b ≠ ce.locals := fun {b o} e1 z => by
      rw [z, hL] at e1
      exact absurd (Heap.lt_size e1) (Nat.lt_irrefl _)
    have U := J.base
    have IG : Inv X pins σ HI { sI with heap := Gr } := by
      refine I3.call' (ch := fp) J.os ⟨fun b o e1 n hb hc => ?_, fun b o e1 n hb hc => ?_, fun b o e1 n hc => U.free b o e1 n hc, fun b o e1 hc => ?_, U.tups, U.frzs, U.tbls⟩ (fun b o q => ?_) J.bare fun b hb => ⟨(hfp b hb).2.2.2.1, (hfp b hb).2.1, (hfp b hb).2.2.2.2.1, (hfp b hb).2.2.2.2.2⟩
      · exact (kk b (old e1)).trans (U.keep b o e1 n hb hc)
      · obtain ⟨sl, z⟩ := U.slot b o e1 n hb hc
        exact ⟨sl, (kk b (old e1)).trans z⟩
      · obtain ⟨o', z⟩ := U.there b o e1 hc
        exact ⟨o', (kk b (old e1)).trans z⟩
      · refine (J.hok b o q).stay (fun c u hc z => (kk c fun zz => ?_).trans z) (fun _ z => z) fun _ _ z => z
        rcases hc with hc | hc
        · rw [← hc, zz, nC] at q; cases q
        · rw [zz, nC] at hc; cases hc
    have fin : ∀ h3, HandSPX.HeldZ B' (e0 :: r0) a (Zc cls d) F h3 → h2.UpToSlots h3 → X.xe (.ref a) { s' with heap := h3 } := by
      intro h3 held3 up3
      refine tk _ _ ⟨a, B', { sI with heap := Gr }, pins, σ, HI, cls, d, ⟨rfl, w⟩, IG, ⟨.inr (.inr (by rw [hs]; exact held3)), na⟩, fun b o e1 hb => ?_, fun b o e1 nf => ?_, os, ag⟩
      · obtain ⟨z1, z2⟩ := ks e1
        rw [g1 b (by simp [z1])]
        exact nb b o z2 hb
      · obtain ⟨z1, z2⟩ := ks e1
        obtain ⟨sl1, q1⟩ := (up.trans up1) b o z2 nf
        obtain ⟨sl3, q3⟩ := up3 b _ ((oth b z1).trans q1) nf
        exact ⟨sl3, q3⟩
    have he2 : h2.get? a = some oe := (oth a (notC t1 t3)).trans t1
    unfold PySem.passOn
    refine wpAny_bind (wpAny_field he2 t3 t4 ?_)
    rw [if_neg (show ¬ ((Value.ref T == Value.none) = true) from by simp)]
    have last : wpAny (model X.prog X.w) X.A (setFlight (.ref a) ce.frame) (fun _ s4 => wpAny (model X.prog X.w) X.A (throw (.ref a) : Sem Value) (fun _ _ => False) X.xe s4) X.xe { s' with heap := h2 } := by
      rw [hceF]
      exact HandSPX.setFlight_onZ held2 fun h3 held3 up3 => wpAny_throw (fin h3 held3 up3)
    first
      | exact wpAny_bind (wpAny_pure (wpAny_bind last))
      | exact wpAny_bind last
  show wpAny (model X.prog X.w) X.A (noteFrame (.ref a) ce) _ _ _
  rw [note_eq (hceF.trans h0.symm)]
  rcases sky' with ⟨hB, hn, hl, oe, vs, he, hz, hd, h1⟩ | fl | held
  · exact HandSPX.look_newZ Zc.steady hfr hl h0 he hB hn hd h1 hz step
  · exact HandSPX.looks_onZ Zc.steady hfr h0 fl step
  · exact HandSPX.againZ h0 held.2.2.2 (step s'.heap held (Heap.UpToSlots.refl _))
end

/-! ### an object kept aside is taken in, is let out -/
section
variable {X : Cx} {pins : List (Addr × Obj)} {σ : L2.St} {H : Hp} {s : Shared} {D : Addr} {o : HO}
theorem take_in (I : Inv X pins σ H s) (hn : H D = none) (new : ObjOk X.prog X.w (upd H D o) s.heap D o) (h1 : D ∈ X.ex ∨ X.s_0.heap.objs.size ≤ D) (h2 : D ≠ X.env.locals) (h3 : ∀ x c, X.env.cells.lookup x = some c → c ≠ D) (h4 : ∀ p ∈ X.pn ++ pins, p.1 ≠ D) :
    Inv X pins σ (upd H D o) s := by
  have ne : ∀ {b u}, H b = some u → b ≠ D := fun {b u} e z => by rw [z, hn] at e; cases e
  refine I.step (ch := [D]) (h' := s.heap) (g' := s.gens) (t' := s.toks) (d' := s.drawn) (fun b hb => ?_) (fun _ _ _ _ _ e _ => e) (fun b u _ _ _ e _ => ⟨u.slots, e⟩) (fun b u hc e n => ?_) (fun b u _ e => ⟨u, e⟩) (fun b xs e => ?_) (fun b u v e => ?_) (fun b ps e => ⟨#[], ?_⟩) (fun _ z => z) (fun b u e => ?_) I.bare
  · obtain rfl : b = D := by simpa using hb
    exact ⟨h1, h2, h3, h4⟩
  · rw [upd_ne (fun z => hc (by simp [z]))]; exact n
  · rw [upd_ne (ne e)]; exact e
  · rw [upd_ne (ne e)]; exact e
  · rw [upd_ne (ne e)]; simpa using e
  · by_cases z : b = D
    · subst z
      rw [upd_same] at e
      cases e
      exact new
    · rw [upd_ne z] at e
      exact (I.hok b u e).stay (fun _ _ _ q => q) (fun c q => by rw [upd_ne (ne q)]; exact q) fun c xs q => by rw [upd_ne (ne q)]; exact q
theorem let_out (I : Inv X pins σ (upd H D o) s) (hn : H D = none) (hl : (∃ xs, o = .lst xs) ∨ ∃ kvs, o = .dK kvs) : Inv X pins σ H s := by
  have nown : ∀ {b x}, upd H D o b = some (.own x) → H b = some (.own x) := fun {b x} e => by
    by_cases z : b = D
    · subst z
      rw [upd_same] at e
      rcases hl with ⟨xs, h⟩ | ⟨xs, h⟩ <;> (rw [h] at e; cases e)
    · rwa [upd_ne z] at e
  have ntup : ∀ {b x}, upd H D o b = some (.tup x) → H b = some (.tup x) := fun {b x} e => by
    by_cases z : b = D
    · subst z
      rw [upd_same] at e
      rcases hl with ⟨xs, h⟩ | ⟨xs, h⟩ <;> (rw [h] at e; cases e)
    · rwa [upd_ne z] at e
  refine I.step (ch := []) (h' := s.heap) (g' := s.gens) (t' := s.toks) (d' := s.drawn) (fun b hb => nomatch hb) (fun _ _ _ _ _ e _ => e) (fun b u _ _ _ e _ => ⟨u.slots, e⟩) (fun b u hc e n => ?_) (fun b u _ e => ⟨u, e⟩) (fun b xs e => ntup e) (fun b u v e => ?_) (fun b ps e => ⟨#[], ?_⟩) (fun _ z => z) (fun b u e => ?_) I.bare
  · by_cases z : b = D
    · subst z; exact hn
    · rwa [upd_ne z] at n
  · by_cases z : b = D
    · subst z
      rw [upd_same] at e
      rcases hl with ⟨xs, h⟩ | ⟨xs, h⟩ <;> (rw [h] at e; cases e)
    · rwa [upd_ne z] at e
  · by_cases z : b = D
    · subst z
      rw [upd_same] at e
      rcases hl with ⟨xs, h⟩ | ⟨xs, h⟩ <;> (rw [h] at e; cases e)
    · rw [upd_ne z] at e; simpa using e
  · have z : b ≠ D := fun z => by rw [z, hn] at e; cases e
    have e' : upd H D o b = some u := by rw [upd_ne z]; exact e
    exact (I.hok b u e').stay (fun _ _ _ q => q) (fun c q => nown q) fun c xs q => ntup q
end
end Fl
set_option Elab.async false
set_option linter.all false
set_option maxRecDepth 100000
set_option maxHeartbeats 4000000
/-! Fl over the layer: list comprehensions. -/
namespace Fl
open PySem PySem.Spec L2

theorem ER.wipe {K : PySem.W.Frag} {m : Mp} {st : Store} {H : Hp} {ρ : Env} {σ : L2.St} (E : ER K m st H ρ σ) : ∀ vs : List Nat, ER K m st H (wipeE ρ vs) (wipe σ vs)
  | [] => E
  | v :: vs => ER.drop (ER.wipe E vs) v
abbrev blkOwn (scope : Scope) : Str → Bool := fun x => scope.names.lookup x == some .cell
theorem PR.reW {α : Type} {K : PySem.W.Frag} {CA : Tags} {XR : XRel} {W W' : WX} {σ σ' : L2.St} {r : R α} {m : Mp} {st : Store} {H : Hp} {ok : α → Mp → Store → Hp → Prop} (h : PR K CA XR W σ r m st H ok) (k : ∀ c d H, W c d σ H → W' c d σ' H) : PR K CA XR W' σ' r m st H ok := by
  cases r with
  | ok a s' => exact h
  | exc x s' => exact fun m' H' c d S T xr => k c d H' (h m' H' c d S T xr)
  | bad => exact h

theorem wipeE_len (ρ : Env) : ∀ own : List Nat, (wipeE ρ own).length = ρ.length
  | [] => rfl
  | v :: vs => by rw [wipeE, List.length_set, wipeE_len ρ vs]
theorem wipeE_get (ρ : Env) (i : Nat) : ∀ own : List Nat, (wipeE ρ own)[i]? = if i ∈ own then (if i < ρ.length then some none else none) else ρ[i]?
  | [] => by simp [wipeE]
  | v :: vs => by
    rw [wipeE]
    by_cases h : v = i
    · subst h
      rw [if_pos List.mem_cons_self]
      by_cases hl : v < ρ.length
      · rw [if_pos hl, List.getElem?_set_self (by rw [wipeE_len]; exact hl)]
      · rw [if_neg hl, List.getElem?_eq_none (by rw [List.length_set, wipeE_len]; omega)]
    · rw [List.getElem?_set_ne h, wipeE_get ρ i vs]
      have : (i ∈ v :: vs) ↔ i ∈ vs := by simp [Ne.symm h]
      simp only [this]
/-- the target stores own names alone -/
def GIn (own : List Nat) (g : CG) : Prop := ∀ w ρ s ρ' s', g w ρ s = .ok ρ' s' → ρ'.length = ρ.length ∧ ∀ i, i ∉ own → ρ'[i]? = ρ[i]?
theorem wipe_back {own : List Nat} {g : CG} (h : GIn own g) {w : Val} {ρ ρ' : Env} {s s' : Store} (e : g w (wipeE ρ own) s = .ok ρ' s') : wipeE ρ' own = wipeE ρ own := by
  obtain ⟨h1, h2⟩ := h _ _ _ _ _ e
  rw [wipeE_len] at h1
  refine List.ext_getElem? fun i => ?_
  rw [wipeE_get, wipeE_get]
  by_cases hi : i ∈ own
  · rw [if_pos hi, if_pos hi, h1]
  · rw [if_neg hi, if_neg hi, h2 i hi, wipeE_get, if_neg hi]
theorem gin_var {own : List Nat} {i : Nat} (h : i ∈ own) : GIn own (gVar i) := by
  intro w ρ s ρ' s' e
  cases e
  refine ⟨List.length_set, fun j hj => List.getElem?_set_ne fun z => hj (by rw [← z]; exact h)⟩
theorem gSets_in {own : List Nat} : ∀ {is : List Nat} {ws : List Val} {ρ ρ' : Env}, (∀ i ∈ is, i ∈ own) → gSets is ws ρ = some ρ' → ρ'.length = ρ.length ∧ ∀ i, i ∉ own → ρ'[i]? = ρ[i]?
  | [], [], ρ, ρ', _, e => by cases e; exact ⟨rfl, fun _ _ => rfl⟩
  | [], _ :: _, _, _, _, e => by simp [gSets] at e
  | _ :: _, [], _, _, _, e => by simp [gSets] at e
  | i :: is, w :: ws, ρ, ρ', h, e => by
    obtain ⟨h1, h2⟩ := gSets_in (ρ := ρ.set i (some w)) (fun j hj => h j (List.mem_cons_of_mem _ hj)) e
    refine ⟨h1.trans List.length_set, fun j hj => (h2 j hj).trans (List.getElem?_set_ne fun z => hj (by rw [← z]; exact h i List.mem_cons_self))⟩
theorem gin_tup {own is : List Nat} (h : ∀ i ∈ is, i ∈ own) : GIn own (gTup is) := by
  intro w ρ s ρ' s' e
  have e' : ((items w s).bind fun vs s => match gSets is vs ρ with
    | some ρ' => .ok ρ' s
    | none => .bad) = .ok ρ' s' := e
  cases q : items w s with
  | exc x t => rw [q] at e'; cases e'
  | bad => rw [q] at e'; cases e'
  | ok vs t =>
    rw [q, bind_ok] at e'
    cases q2 : gSets is vs ρ with
    | none => rw [q2] at e'; cases e'
    | some ρ2 =>
      rw [q2] at e'
      cases e'
      exact gSets_in h q2

section
variable {tb : Tab} {G : FEnv} {CA : Tags} {XR : XRel} {k : Nat} {N : List Str} {sc : Scope} {own : Str → Bool} {X : Cx} {W : WX}
theorem block_ctx (C : Cq tb G CA XR k N sc own X W) {F : Addr} (hF : X.env.frame = some F) (hst : ∃ e0 r, X.stack = e0 :: r ∧ e0.frame = some F) (s : Shared) (H : Hp) (σ : L2.St) (scope : Scope) (cl : List (Str × Addr)) (A : Addr) (fp : List Addr) :
    Cq tb G CA XR k N (relS scope sc) (blkOwn scope) ((X.blk s H scope (compEnvC scope cl A X.env) fp).wish fun u s' => XEL (X.blk s H scope (compEnvC scope cl A X.env) fp) F (fun c d _ H => W c d σ H) u s') (fun c d _ H => W c d σ H) := by
  refine ⟨⟨C.nm, C.nd, ?_, rfl, C.un, C.glob⟩, C.calm, ⟨F, hF, hst, ?_⟩, C.room⟩
  · show relS scope X.env.scope = _
    rw [C.sc]
  · rintro u s' ⟨a, B, sI, pI, σI, HI, cls, d, h1, J, h2⟩
    exact ⟨a, B, sI, pI, σI, HI, cls, d, h1, J.unwish, h2⟩

theorem lc_core1 (C : Cq tb G CA XR k N sc own X W) {pins : List (Addr × Obj)} {s : Shared} {σ : L2.St} {H : Hp} {Q : VK} {elt tg iter : Expr} {ifs : List Expr} {scope : Scope} {ownL : List (Str × Nat)} {pos pos' : Pos} {wi : TI} {use : Option (Value → Sem Unit)} {Qf : Value → Shared → Prop}
    {cell : Bool} {gm : CG} {tt : Option CT} {fm : CE} (hin : GIn (ownL.map (·.2)) gm) (I : Inv X pins σ H s) (hi : PI X tg iter wi) (ok : BlkOk N sc scope ownL)
    (hg : ∀ X' W', Cq tb G CA XR k N (relS scope sc) (blkOwn scope) X' W' → SG CA XR X' W' tg gm)
    (ht : ∀ X' W', Cq tb G CA XR k N (relS scope sc) (blkOwn scope) X' W' → PTs X' ifs (tMT X'.K CA XR W' (testM tt)))
    (he : ∀ X' W', Cq tb G CA XR k N (relS scope sc) (blkOwn scope) X' W' → SE CA XR X' W' elt fm) (hs : ∀ x, foldedSetIterable iter X.env x = pure x)
    (h : wi σ H fun J H1 => ∃ vs m st ρ, Wk X.K CA J vs m st H1 ∧ vs.length ≤ L ∧ SR X.K CA m st H1 ∧ ER X.K m st H1 ρ σ ∧
      PR X.K CA XR W σ ((compK gm tt fm (wipeE ρ (ownL.map (·.2))) [] vs >>= newL cell) st) m st H1 fun a m' st' H' => ∀ v, RepV X.K m' st' H' a v → Q v H')
    (hRR : ∀ D (ce : PySem.Env) s' m H', Inv X pins σ H' s' → Q (.ref D) H' → s'.heap.Ns ce.locals m → FpOk X pins H' ce.locals → cpost (model X.prog X.w) X.A X.xe use Qf (.ref D) ce (.ok .next) s') :
    wpAny (model X.prog X.w) X.A (comprehension (.ListComp elt [⟨tg, iter, ifs, 0⟩] scope pos) scope X.env pos' (newList []) false (eval iter X.env) use) Qf X.xe s := by
  obtain ⟨F, hF, hst, tk⟩ := C.takes
  have okX : BlkOk X.N X.env.scope scope ownL := by rw [C.nm, C.sc]; exact ok
  have ndX : X.N.Nodup := by rw [C.nm]; exact C.nd
  have free : ∀ y ∈ scope.names, y.2 = .free → ∃ c, X.env.cells.lookup y.1 = some c := by
    intro y hy e
    rcases okX.free y hy e with z | z
    · exact I.ok.has _ (.inl z)
    · exact I.ok.has _ (.inr z)
  refine comp_free (use := use) rfl hs (closure_ok free) ok.kind (fun y hy e => by rw [ok.uniq y hy, e]) (thn (hi.run pins s σ H _ I h) fun xv s1 hx => thn hx ?_)
  rintro itv s2 ⟨it, fp, tn, J, H2, rfl, I2, T, st2, f2, vs, m0, st0, ρ0, wk, hz, S0, E0, q0⟩
  refine wpAny_newObj_type (newEnv_comp ?_) (by show 0 ≤ sizeLine; decide)
  obtain ⟨D, hD⟩ : ∃ D, D = s2.heap.objs.size := ⟨_, rfl⟩
  rw [← hD]
  have hDn : H2 D = none := I2.hok.fresh (Nat.le_of_eq hD.symm)
  obtain ⟨s3, hs3⟩ : ∃ s3 : Shared, s3 = { s2 with heap := s2.heap.push { cls := .type "list", data := .seq ([] : List Value).toArray } } := ⟨_, rfl⟩
  rw [← hs3]
  have h3 : s3.heap = s2.heap.push { cls := .type "list", data := .seq ([] : List Value).toArray } := by rw [hs3]
  have D3 : s3.heap.get? D = some { cls := .type "list", data := .seq ([] : List Value).toArray } := by rw [h3, hD]; exact Heap.get?_push_size _ rfl
  have I3 : Inv X pins σ H2 s3 := by rw [hs3]; exact I2.kept (t' := s2.toks) fun b o e => Heap.get?_push_of_some _ e
  have fD : FpOk X pins H2 D := I2.fpOk (Nat.le_of_eq hD.symm) hDn
  have sz : ∀ b ∈ fp, b < s2.heap.objs.size := fun b hb => by
    obtain ⟨o, e, _⟩ := T.obj _ _ st2 b hb
    exact Heap.lt_size e
  have fpD : ∀ b ∈ D :: fp, FpOk X pins H2 b ∧ b < s3.heap.objs.size := fun b hb => by
    rcases List.mem_cons.mp hb with z | z
    · subst z; exact ⟨fD, Heap.lt_size D3⟩
    · exact ⟨f2 b z, by rw [h3, Heap.size_push]; exact Nat.lt_succ_of_lt (sz b z)⟩
  have Dfp : ∀ b ∈ fp, D ≠ b := fun b hb z => by have := sz b hb; rw [← z, hD] at this; exact absurd this (Nat.lt_irrefl _)
  have st3 : tn 0 s3.heap := T.keep _ _ _ st2 fun b _ o e => by rw [h3]; exact Heap.get?_push_of_some _ e
  have I4 := block_start I3 okX ndX fpD
  have Cb := fun cl A => block_ctx C hF hst s3 H2 σ scope cl A (D :: fp)
  obtain ⟨cl, hcl⟩ : ∃ cl, cl = cellsFrom (s3.heap.objs.size + 1) scope.names (cloFrom X.env.cells scope.names []) := ⟨_, rfl⟩
  rw [← hcl] at I4 ⊢
  obtain ⟨ce, hce⟩ : ∃ ce, ce = compEnvC scope cl s3.heap.objs.size X.env := ⟨_, rfl⟩
  have Cb := Cb cl s3.heap.objs.size
  rw [← hce] at I4 Cb
  have cL : ce.locals = s3.heap.objs.size := by rw [hce]; rfl
  have cF : ce.frame = X.env.frame := by rw [hce]; rfl
  have air := fun (acc : Value) (e : Value) (s' : Shared) => block_air (W := W) (scope := scope) (acc := acc) (use := use) (Qf := Qf) I3 hF hst tk cL cF (fun b hb => (fpD b hb).1) (e := e) (s' := s')
  obtain ⟨Y, hY⟩ : ∃ Y : Cx, Y = X.blk s3 H2 scope ce (D :: fp) := ⟨_, rfl⟩
  rw [← hY] at I4 Cb air
  show codeAny (model X.prog X.w) X.A (.compStart (.ListComp elt [⟨tg, iter, ifs, 0⟩] scope pos) 0 (.ref it) (.ref D) (compEnvC scope cl s3.heap.objs.size X.env)) (cpost (model X.prog X.w) X.A X.xe use Qf (.ref D) (compEnvC scope cl s3.heap.objs.size X.env)) { s3 with heap := pushCells (s3.heap.push { cls := .type "dict", data := .dict #[] }) scope.names }
  rw [← hce]
  obtain ⟨s4, hs4⟩ : ∃ s4 : Shared, s4 = { s3 with heap := pushCells (s3.heap.push { cls := .type "dict", data := .dict #[] }) scope.names } := ⟨_, rfl⟩
  rw [← hs4] at I4 ⊢
  have keep4 : ∀ b o, s3.heap.get? b = some o → s4.heap.get? b = some o := fun b o e => by rw [hs4]; exact pushCells_keeps _ _ _ _ (Heap.get?_push_of_some _ e)
  have st4 : tn 0 s4.heap := T.keep _ _ _ st3 fun b _ o e => keep4 b o e
  -- the context with its wish
  obtain ⟨Z, hZ⟩ : ∃ Z : Cx, Z = Y.wish fun u s' => XEL Y F (fun c d _ H => W c d σ H) u s' := ⟨_, rfl⟩
  rw [← hZ] at Cb
  have I4 : Inv Z [] (wipe σ (ownL.map (·.2))) H2 s4 := by rw [hZ]; exact I4.wish _
  have zP : Z.prog = X.prog := by rw [hZ, hY]
  have zw : Z.w = X.w := by rw [hZ, hY]
  have zK : Z.K = X.K := by rw [hZ, hY]
  have zA : Z.A = X.A := by rw [hZ, hY]
  have zx : Z.ex = D :: fp := by rw [hZ, hY]
  have zn : Z.pn = [] := by rw [hZ, hY]
  have ze : Z.env = ce := by rw [hZ, hY]
  have hc : Z.calm = true := Cb.calm
  have zair : ∀ (e : Value) (s' : Shared), Z.xe e s' → notedBy (model X.prog X.w) X.A ce (fun e s'' => cpost (model X.prog X.w) X.A X.xe use Qf (.ref D) ce (.error e) s'') e s' := fun e s' x => air _ e s' (by rw [hZ] at x; exact x)
  have stat : ∀ {pl : List (Addr × Obj)} {σ' : L2.St} {H' : Hp} {s' : Shared}, Inv Z [] σ' H' s' → (∀ p ∈ pl, p.1 = D) → (∀ b ∈ fp, H' b = none) → ∀ b ∈ fp, FpOk Z pl H' b := by
    intro pl σ' H' s' I' hpl hn b hb
    have hb' : b ∈ Z.ex := by rw [zx]; exact List.mem_cons_of_mem _ hb
    refine ⟨hn b hb, (I'.ok.exf b hb').1, I'.ok.exfs b hb', .inl hb', fun x c e => (I'.ok.exf b hb').2 x c e, fun p hp => ?_⟩
    rw [zn, List.nil_append] at hp
    rw [hpl p hp]
    exact Dfp b hb
  have pg := hg Z _ Cb
  have pt := ht Z _ Cb
  have pe := he Z _ Cb
  have q0' : PR X.K CA XR (fun c d _ H => W c d σ H) (wipe σ (ownL.map (·.2))) ((compK gm tt fm (wipeE ρ0 (ownL.map (·.2))) [] vs >>= newL cell) st0) m0 st0 H2 fun a m' st' H' => ∀ v, RepV X.K m' st' H' a v → Q v H' := q0.reW fun _ _ _ z => z
  have Ew := ER.wipe E0 (ownL.map (·.2))
  -- what holds at each turn
  let V : Nat → Nat → Hp → List L2.V → L2.St → Prop := fun i n H' av σi => i ≤ vs.length ∧ n = vs.length - i ∧ ∃ m st acc, SR X.K CA m st H' ∧ ER X.K m st H' (wipeE ρ0 (ownL.map (·.2))) σi ∧ Step m0 st0 H2 m st H' ∧ RepVs X.K m st H' acc av ∧ acc.length ≤ i ∧
    PR X.K CA XR (fun c d _ H => W c d σ H) (wipe σ (ownL.map (·.2))) ((compK gm tt fm (wipeE ρ0 (ownL.map (·.2))) acc (vs.drop i) >>= newL cell) st) m st H' fun a m' st' H' => ∀ v, RepV X.K m' st' H' a v → Q v H'
  have loop : codeAny (model X.prog X.w) X.A (.compLoop (.ListComp elt [⟨tg, iter, ifs, 0⟩] scope pos) 0 (.ref it) (.ref D) ce) (cpost (model X.prog X.w) X.A X.xe use Qf (.ref D) ce) s4 := by
    refine compLoop_any (fun n s' => ∃ i H' its av c0 σi, Inv Z [] σi H' s' ∧ tn i s'.heap ∧ (∀ b ∈ fp, H' b = none) ∧ H' D = none ∧ s'.heap.get? D = some { cls := .type "list", data := .seq (its : List Value).toArray c0 } ∧ Vals av its ∧ V i n H' av σi) ?_ vs.length
      ⟨0, H2, [], [], 0, _, I4, st4, fun b hb => (f2 b hb).1, hDn, keep4 _ _ D3, .nil, Nat.zero_le _, rfl, m0, st0, [], S0, Ew, Step.refl, rfl, Nat.zero_le _, q0'⟩
    rintro n s5 ⟨i, H5, its, av, c0, σi, I5, st5, n5, nD5, D5, va, hi5, rfl, m5, st5', acc, S5, E5, T5, ra, hacc, q5⟩
    have hDZ : D ∈ Z.ex := by rw [zx]; exact List.mem_cons_self
    have pinD : Inv Z [(D, { cls := .type "list", data := .seq its.toArray c0 })] σi H5 s5 := by
      refine I5.pins_of fun p hp => ?_
      obtain rfl : p = (D, { cls := .type "list", data := .seq its.toArray c0 }) := by simpa using hp
      exact ⟨D5, nD5, (I5.ok.exf D hDZ).1, I5.ok.exfs D hDZ, fun v z => by have z' : Data.seq its.toArray c0 = .cell v := z; cases z'⟩
    have pD : ∀ p ∈ [(D, ({ cls := .type "list", data := .seq its.toArray c0 } : Obj))], p.1 = D := fun p hp => by
      obtain rfl : p = (D, { cls := .type "list", data := .seq its.toArray c0 }) := by simpa using hp
      rfl
    by_cases hlt : i < vs.length
    · obtain ⟨go, yl⟩ := wk.go i _ (List.getElem?_eq_getElem hlt) m5 st5' H5 S5 T5
      have ti := T.item Z zP zw zK hc i _ s5 _ H5 (fun _ _ => False) pinD (stat I5 pD n5) st5 go
      rw [zA] at ti
      refine thnF ti ?_
      rintro r s6 ⟨u, rfl, h6⟩
      refine thnF h6 ?_
      rintro _ s7 ⟨x, H7, I7, r7, y7, st7, n7⟩
      obtain ⟨S7, T7, rx⟩ := yl x H7 y7
      have I7' := I7.pinned (stat (I7.pins_of fun p hp => absurd hp (by simp)) pD n7) (T.obj _ _ st7)
      rw [drop_at hlt] at q5
      have E7 := E5.mono T7
      let rest : Env → Store → R Val := fun ρ' s => (testM tt ρ' s).bind fun b s => ((if b then fm ρ' >>= fun x => compK gm tt fm (wipeE ρ0 (ownL.map (·.2))) (acc ++ [x]) (vs.drop (i + 1)) else compK gm tt fm (wipeE ρ0 (ownL.map (·.2))) acc (vs.drop (i + 1))) s).bind (newL cell)
      have e : (compK gm tt fm (wipeE ρ0 (ownL.map (·.2))) acc (vs[i] :: vs.drop (i + 1)) >>= newL cell) st5' = (gm vs[i] (wipeE ρ0 (ownL.map (·.2))) st5').bind rest := by
        rw [compK, bind_eq, bind_eq]
        cases gm vs[i] (wipeE ρ0 (ownL.map (·.2))) st5' with
        | exc y t => rfl
        | bad => rfl
        | ok ρ' t =>
          show ((testM tt ρ' t).bind _).bind _ = rest ρ' t
          show _ = (testM tt ρ' t).bind _
          cases testM tt ρ' t with
          | exc y t => rfl
          | bad => rfl
          | ok b t => rfl
      rw [e] at q5
      have q7 := q5.step T7
      have g7 : tG Z.K CA XR (fun c d _ H => W c d σ H) gm x σi H7 fun σ8 H8 => ∃ m8 st8 ρ8, SR X.K CA m8 st8 H8 ∧ Step m5 st5' H7 m8 st8 H8 ∧ ER X.K m8 st8 H8 ρ8 σ8 ∧ wipeE ρ8 (ownL.map (·.2)) = wipeE ρ0 (ownL.map (·.2)) ∧
          PR X.K CA XR (fun c d _ H => W c d σ H) (wipe σ (ownL.map (·.2))) (rest ρ8 st8) m8 st8 H8 fun a m' st' H' => ∀ v, RepV X.K m' st' H' a v → Q v H' := by
        rw [zK]
        exact ⟨m5, st5', _, vs[i], S7, E7, rx, ((PR.bind_of q7).reW fun _ _ _ z => z).some fun ρ8 st8 e8 m8 H8 S8 T8 h8 σ8 E8 => ⟨m8, st8, ρ8, S8, T8, E8, wipe_back hin e8, h8⟩⟩
      have run1 := pg.run _ s7 _ H7 x u _ I7' r7 g7
      rw [zP, zw, zA, ze] at run1
      refine wpAny_mono run1 (fun _ s8 hq => ?_) fun e s' x => zair e s' x
      obtain ⟨σ8, H8, I8, m8, st8, ρ8, S8, T8, E8, w8, q8⟩ := hq
      have t8 : tMT Z.K CA XR (fun c d _ H => W c d σ H) (testM tt) σ8 H8 fun b H9 => ∃ m9 st9, SR X.K CA m9 st9 H9 ∧ Step m5 st5' H7 m9 st9 H9 ∧ ER X.K m9 st9 H9 ρ8 σ8 ∧
          PR X.K CA XR (fun c d _ H => W c d σ H) (wipe σ (ownL.map (·.2))) (((if b then fm ρ8 >>= fun x => compK gm tt fm (wipeE ρ0 (ownL.map (·.2))) (acc ++ [x]) (vs.drop (i + 1)) else compK gm tt fm (wipeE ρ0 (ownL.map (·.2))) acc (vs.drop (i + 1))) st9).bind (newL cell)) m9 st9 H9 fun a m' st' H' => ∀ v, RepV X.K m' st' H' a v → Q v H' := by
        rw [zK]
        exact ⟨m8, st8, ρ8, S8, E8, ((PR.bind_of q8).reW fun _ _ _ z => z).mono fun b m9 st9 H9 S9 T9 h9 => ⟨m9, st9, S9, T8.trans T9, E8.mono T9, h9⟩⟩
      have run2 := pt.run _ s8 σ8 H8 _ I8 t8
      rw [zP, zw, zA, ze] at run2
      refine wpAny_mono run2 (fun b s9 hq => ?_) fun e s' x => zair e s' x
      obtain ⟨H9, I9, m9, st9, S9, T9, E9, q9⟩ := hq
      have T5' := T5.trans T7
      -- a turn's end
      have fin : ∀ {s' : Shared} {H' : Hp} {its' : List Value} {av' : List L2.V} {c' : Nat}, Inv Z (pinsAt fp s7.heap) σ8 H' s' → H' D = none → s'.heap.get? D = some { cls := .type "list", data := .seq its'.toArray c' } → Vals av' its' → V (i + 1) (vs.length - (i + 1)) H' av' (wipe σ8 (ownL.map (·.2))) →
          ∃ n', n' < vs.length - i ∧ ∃ i H' its av c0 σi, Inv Z [] σi H' s' ∧ tn i s'.heap ∧ (∀ b ∈ fp, H' b = none) ∧ H' D = none ∧ s'.heap.get? D = some { cls := .type "list", data := .seq (its : List Value).toArray c0 } ∧ Vals av its ∧ V i n' H' av σi := by
        intro s' H' its' av' c' I' nD gD va' hV
        have pin' : ∀ b ∈ fp, ∀ o, s7.heap.get? b = some o → s'.heap.get? b = some o ∧ H' b = none := fun b hb o e =>
          let z := I'.pin (b, o) (List.mem_append_right _ (mem_pinsAt hb e))
          ⟨z.1, z.2.1⟩
        refine ⟨vs.length - (i + 1), by omega, i + 1, H', its', av', c', _, (I'.pins_of fun p hp => absurd hp (by simp)).weak (wipe_length _ _) (fun j v e => (wipe_some e).1), T.keep _ _ _ st7 fun b hb o e => (pin' b hb o e).1, fun b hb => ?_, nD, gD, va', hV⟩
        obtain ⟨o, e, _⟩ := T.obj _ _ st7 b hb
        exact (pin' b hb o e).2
      have dpin : ∀ {σ' : L2.St} {H' : Hp} {s' : Shared}, Inv Z ([(D, { cls := .type "list", data := .seq its.toArray c0 })] ++ pinsAt fp s7.heap) σ' H' s' → s'.heap.get? D = some { cls := .type "list", data := .seq its.toArray c0 } ∧ H' D = none ∧ Inv Z (pinsAt fp s7.heap) σ' H' s' := fun I' =>
        let z := I'.pin (D, { cls := .type "list", data := .seq its.toArray c0 }) (List.mem_append_right _ (List.mem_append_left _ (by simp)))
        ⟨z.1, z.2.1, I'.pins_of fun p hp => I'.pin p (List.mem_append_right _ (List.mem_append_right _ hp))⟩
      cases b with
      | false =>
        simp only [Bool.false_eq_true, if_false] at q9 ⊢
        obtain ⟨d1, d2, d3⟩ := dpin I9
        refine fin d3 d2 d1 va ⟨by omega, rfl, m9, st9, acc, S9, ?_, T5'.trans T9, RepVs.mono (T7.trans T9) _ _ ra, by omega, q9⟩
        have := ER.wipe E9 (ownL.map (·.2))
        rwa [w8] at this
      | true =>
        simp only [if_true] at q9 ⊢
        have t10 : tM Z.K CA XR (fun c d _ H => W c d σ H) fm σ8 H9 fun y H10 => ∃ m10 st10 x, SR X.K CA m10 st10 H10 ∧ Step m5 st5' H7 m10 st10 H10 ∧ ER X.K m10 st10 H10 ρ8 σ8 ∧ RepV X.K m10 st10 H10 x y ∧
            PR X.K CA XR (fun c d _ H => W c d σ H) (wipe σ (ownL.map (·.2))) ((compK gm tt fm (wipeE ρ0 (ownL.map (·.2))) (acc ++ [x]) (vs.drop (i + 1)) >>= newL cell) st10) m10 st10 H10 fun a m' st' H' => ∀ v, RepV X.K m' st' H' a v → Q v H' := by
          rw [zK]
          have e10 : ((fm ρ8 >>= fun x => compK gm tt fm (wipeE ρ0 (ownL.map (·.2))) (acc ++ [x]) (vs.drop (i + 1))) st9).bind (newL cell) = (fm ρ8 st9).bind fun x => compK gm tt fm (wipeE ρ0 (ownL.map (·.2))) (acc ++ [x]) (vs.drop (i + 1)) >>= newL cell := by
            rw [bind_eq]
            cases fm ρ8 st9 with
            | exc y t => rfl
            | bad => rfl
            | ok b t => rfl
          rw [e10] at q9
          exact ⟨m9, st9, ρ8, S9, E9, ((PR.bind_of q9).reW fun _ _ _ z => z).mono fun x m10 st10 H10 S10 T10 h10 v rv => ⟨m10, st10, x, S10, T9.trans T10, E9.mono T10, rv, h10⟩⟩
        have run3 := pe.run _ s9 σ8 H9 _ I9 t10
        rw [zP, zw, zA, ze] at run3
        refine wpAny_mono run3 (fun y s10 hq => ?_) fun e s' x => zair e s' x
        obtain ⟨yv, H10, I10, ry, m10, st10, xw, S10, T10, E10, rx10, q10⟩ := hq
        obtain ⟨d1, d2, d3⟩ := dpin I10
        have hav : av.length < vs.length := by rw [← ra.length]; omega
        have tr : Inv Z (pinsAt fp s7.heap) σ8 (upd H10 D (.lst av)) s10 := by
          refine take_in d3 d2 ⟨lineOf (by omega), its, c0, va, d1⟩ (.inl hDZ) (d3.ok.exf D hDZ).1 (fun x c e => (d3.ok.exf D hDZ).2 x c e) fun p hp => ?_
          rw [zn, List.nil_append] at hp
          exact fun z => Dfp p.1 (of_pinsAt hp).1 z.symm
        have ap := app_ok (X := Z) (E := notedBy (model X.prog X.w) X.A ce fun e s'' => cpost (model X.prog X.w) X.A X.xe use Qf (.ref D) ce (.error e) s'') (v := y) (y := yv) (Q := fun _ s' => ∃ n', n' < vs.length - i ∧ ∃ i H' its av c0 σi, Inv Z [] σi H' s' ∧ tn i s'.heap ∧ (∀ b ∈ fp, H' b = none) ∧ H' D = none ∧
          s'.heap.get? D = some { cls := .type "list", data := .seq (its : List Value).toArray c0 } ∧ Vals av its ∧ V i n' H' av σi) tr upd_same (lineLt (by omega)) ry fun s11 I11 => ?_
        · rw [zP, zw, zA] at ap
          exact ap
        · rw [upd_upd] at I11
          obtain ⟨_, its2, c2, va2, g2⟩ := (show ObjOk Z.prog Z.w _ s11.heap D (.lst (av ++ [yv])) from I11.hok D _ upd_same)
          refine fin (let_out I11 d2 (.inl ⟨_, rfl⟩)) d2 g2 va2 ⟨by omega, rfl, m10, st10, acc ++ [xw], S10, ?_, T5'.trans T10, RepVs.append (RepVs.mono (T7.trans T10) _ _ ra) (show RepVs X.K m10 st10 H10 [xw] [yv] from ⟨yv, [], rfl, rx10, rfl⟩), by rw [List.length_append, List.length_singleton]; omega, q10⟩
          have := ER.wipe E10 (ownL.map (·.2))
          rwa [w8] at this
    · have hie : i = vs.length := by omega
      subst hie
      rw [List.drop_length] at q5
      have stop := wk.stop _ m5 st5' H5 (Nat.le_refl _) S5 T5
      have td := T.done Z zP zw zK hc vs.length _ s5 _ H5 (fun _ _ => False) pinD (stat I5 pD n5) st5 stop
      rw [zA] at td
      refine thnF td ?_
      rintro r s6 ⟨rfl, I6⟩
      have dp := I6.pin (D, { cls := .type "list", data := .seq its.toArray c0 }) (List.mem_append_right _ (by simp))
      rw [hZ, hY] at I6
      have I6 := I6.unwish
      have I7 : Inv X pins σ H5 s6 := I3.call' (ch := D :: fp) I6.os I6.base I6.hok I6.bare fun b hb => ⟨(fpD b hb).1.2.2.2.1, (fpD b hb).1.2.1, (fpD b hb).1.2.2.2.2.1, (fpD b hb).1.2.2.2.2.2⟩
      have nC : H5 ce.locals = none := I6.free
      obtain ⟨mm, hns, _⟩ := I6.loc
      have hav : av.length ≤ L := by rw [← ra.length]; omega
      have I8 : Inv X pins σ (upd H5 D (.lst av)) s6 := take_in I7 dp.2.1 ⟨lineOf hav, its, c0, va, dp.1⟩ fD.2.2.2.1 fD.2.1 fD.2.2.2.2.1 fD.2.2.2.2.2
      have qq : Q (.ref D) (upd H5 D (.lst av)) := newL_ok (W := fun c d _ H => W c d σ H) (σ := wipe σ (ownL.map (·.2))) S5 ra (by omega) q5 D dp.2.1
      have neD : ce.locals ≠ D := by
        rw [cL]
        exact Nat.ne_of_gt (Heap.lt_size D3)
      refine hRR D ce s6 mm _ I8 qq hns ?_
      rw [cL] at nC neD ⊢
      exact I3.fpOk (Nat.le_refl _) (by rw [upd_ne neD]; exact nC)
  exact codeAny_compStart_list loop (T.self X.A 0 _ _ _ st4 loop)
end
end Fl
set_option Elab.async false
set_option linter.all false
set_option maxRecDepth 100000
set_option maxHeartbeats 4000000
/-! Fl over the layer: list comprehensions as values, and stored. -/
namespace Fl
open PySem PySem.Spec L2

/-- BlkOk, looked at -/
def blkB (N : List Str) (sc scope : Scope) (own : List (Str × Nat)) : Bool :=
  decide (scope.kind = .function) && (scope.names.all (fun y => decide (scope.names.lookup y.1 = some y.2)) && (own.all (fun p => decide (N[p.2]? = some p.1)) &&
    (scope.names.all (fun y => !decide (y.2 = .free) || (decide (sc.names.lookup y.1 = some .cell) || decide (sc.names.lookup y.1 = some .free))) &&
      scope.names.all (fun y => !(decide (y.2 = .local) || decide (y.2 = .cell)) || (decide (y.1 ∈ own.map (·.1)) || !decide (y.1 ∈ N))))))
theorem blk_of {N : List Str} {sc scope : Scope} {own : List (Str × Nat)} (h : blkB N sc scope own = true) : BlkOk N sc scope own := by
  unfold blkB at h
  simp only [Bool.and_eq_true, decide_eq_true_eq, List.all_eq_true, Bool.or_eq_true, Bool.not_eq_true', decide_eq_false_iff_not] at h
  obtain ⟨h1, h2, h3, h4, h5⟩ := h
  refine ⟨h1, h2, h3, fun y hy e => ?_, fun y hy e => ?_⟩
  · rcases h4 y hy with z | z
    · exact absurd e z
    · exact z
  · rcases h5 y hy with z | z
    · rcases e with e | e
      · rw [e] at z; simp at z
      · rw [e] at z; simp at z
    · exact z

section
variable {tb : Tab} {G : FEnv} {CA : Tags} {XR : XRel} {k : Nat} {N : List Str} {sc : Scope} {own : Str → Bool} {X : Cx} {W : WX}
variable {elt tg iter : Expr} {ifs : List Expr} {scope : Scope} {ownL : List (Str × Nat)} {pos spos py : Pos} {im : CI} {gm : CG} {tt : Option CT} {fm : CE}
theorem compK_L {cell : Bool} {ρ : Env} {vs : List Val} {s : Store} : (compK gm tt fm ρ [] vs >>= newL cell) s = (compL gm tt fm ρ vs >>= newL cell) s := by
  rw [bind_eq, bind_eq, compK_eq]
  cases compL gm tt fm ρ vs s with
  | exc x t => rfl
  | bad => rfl
  | ok xs t => rfl
/-- the tests of a clause -/
theorem sts_nil : PTs X [] (tMT X.K CA XR W (testM none)) := ⟨fun pins s σ H Q I ⟨m, st, ρ, S, E, q⟩ => pts_nil.run pins s σ H Q I (PR.here S (q : PR X.K CA XR W σ (.ok true st) m st H fun b m' st' H' => Q b H'))⟩
theorem sts_one {c : Expr} {t : CT} (h : STt CA XR X W c t) : PTs X [c] (tMT X.K CA XR W (testM (some t))) := pts_one h
/-- what the clause's walk hands on -/
theorem lc_list {σ : L2.St} {H : Hp} {Q : VK} {cell : Bool} (h : tM X.K CA XR W (eComp cell (ownL.map (·.2)) im gm tt fm) σ H Q) : tIL X.K CA XR W im σ H fun J H1 => ∃ vs m st ρ, Wk X.K CA J vs m st H1 ∧ vs.length ≤ L ∧ SR X.K CA m st H1 ∧ ER X.K m st H1 ρ σ ∧
    PR X.K CA XR W σ ((compK gm tt fm (wipeE ρ (ownL.map (·.2))) [] vs >>= newL cell) st) m st H1 fun a m' st' H' => ∀ v, RepV X.K m' st' H' a v → Q v H' := by
  obtain ⟨m, st, ρ, S, E, q⟩ := h
  exact ⟨m, st, ρ, S, E, (PR.bind_of q).mono fun vs m1 st1 H1 S1 T1 h1 J wk hz => ⟨vs, m1, st1, ρ, wk, hz, S1, E.mono T1, by rw [compK_L]; exact h1⟩⟩
theorem lc_any {σ : L2.St} {H : Hp} {Q : VK} {cell : Bool} (h : tM X.K CA XR W (eCompR cell (ownL.map (·.2)) im gm tt fm) σ H Q) : tI X.K CA XR W im σ H fun J H1 => ∃ vs m st ρ, Wk X.K CA J vs m st H1 ∧ vs.length ≤ L ∧ SR X.K CA m st H1 ∧ ER X.K m st H1 ρ σ ∧
    PR X.K CA XR W σ ((compK gm tt fm (wipeE ρ (ownL.map (·.2))) [] vs >>= newL cell) st) m st H1 fun a m' st' H' => ∀ v, RepV X.K m' st' H' a v → Q v H' := by
  obtain ⟨m, st, ρ, S, E, q⟩ := h
  refine ⟨m, st, ρ, S, E, (PR.bind_of q).mono fun vs m1 st1 H1 S1 T1 h1 J wk => ?_⟩
  split at h1
  · rename_i hz
    exact ⟨vs, m1, st1, ρ, wk, hz, S1, E.mono T1, by rw [compK_L]; exact h1⟩
  · exact h1.elim
/-- [elt for tg in iter if ..] -/
theorem lc_val {wi : TI} {te : TE} {cell : Bool} (C : Cq tb G CA XR k N sc own X W) (hin : GIn (ownL.map (·.2)) gm) (ok : BlkOk N sc scope ownL) (hi : PI X tg iter wi)
    (hw : ∀ σ H Q, te σ H Q → wi σ H fun J H1 => ∃ vs m st ρ, Wk X.K CA J vs m st H1 ∧ vs.length ≤ L ∧ SR X.K CA m st H1 ∧ ER X.K m st H1 ρ σ ∧
      PR X.K CA XR W σ ((compK gm tt fm (wipeE ρ (ownL.map (·.2))) [] vs >>= newL cell) st) m st H1 fun a m' st' H' => ∀ v, RepV X.K m' st' H' a v → Q v H')
    (hg : ∀ X' W', Cq tb G CA XR k N (relS scope sc) (blkOwn scope) X' W' → SG CA XR X' W' tg gm)
    (ht : ∀ X' W', Cq tb G CA XR k N (relS scope sc) (blkOwn scope) X' W' → PTs X' ifs (tMT X'.K CA XR W' (testM tt)))
    (he : ∀ X' W', Cq tb G CA XR k N (relS scope sc) (blkOwn scope) X' W' → SE CA XR X' W' elt fm) (hs : ∀ x, foldedSetIterable iter X.env x = pure x) :
    PE X (.ListComp elt [⟨tg, iter, ifs, 0⟩] scope pos) te := by
  refine ⟨fun pins s σ H Q I q => ?_⟩
  rw [eval_ListComp]
  refine lc_core1 C hin I hi ok hg ht he hs (hw σ H Q q) fun D ce s' m H' J q hn fo => ⟨m, hn, fun h2 sb => ?_⟩
  exact ⟨.ref D, H', J.turned (t' := s'.toks) (fun b o hb e => (sb.2 b hb).trans e) fo.1 fo.2.1 fo.2.2.2.1 fo.2.2.2.2.1 fo.2.2.2.2.2, rfl, q⟩
/-- name = [..], on the name's own line -/
theorem lc_set {wi : TI} {te : TE} {cell : Bool} (C : Cq tb G CA XR k N sc own X W) (i : Nat) {y : Str} (hy : N[i]? = some y) (hyl : sc.names.lookup y = some .local) (hk : sc.kind = .function) (hl : (py.line == pos.line) = true)
    (ha : (scope.names.any fun (n, k) => n == y && (k == .local || k == .cell)) = false) (hin : GIn (ownL.map (·.2)) gm) (ok : BlkOk N sc scope ownL) (hi : PI X tg iter wi)
    (hw : ∀ σ H Q, te σ H Q → wi σ H fun J H1 => ∃ vs m st ρ, Wk X.K CA J vs m st H1 ∧ vs.length ≤ L ∧ SR X.K CA m st H1 ∧ ER X.K m st H1 ρ σ ∧
      PR X.K CA XR W σ ((compK gm tt fm (wipeE ρ (ownL.map (·.2))) [] vs >>= newL cell) st) m st H1 fun a m' st' H' => ∀ v, RepV X.K m' st' H' a v → Q v H')
    (hg : ∀ X' W', Cq tb G CA XR k N (relS scope sc) (blkOwn scope) X' W' → SG CA XR X' W' tg gm)
    (ht : ∀ X' W', Cq tb G CA XR k N (relS scope sc) (blkOwn scope) X' W' → PTs X' ifs (tMT X'.K CA XR W' (testM tt)))
    (he : ∀ X' W', Cq tb G CA XR k N (relS scope sc) (blkOwn scope) X' W' → SE CA XR X' W' elt fm) (hs : ∀ x, foldedSetIterable iter X.env x = pure x) :
    PS X (.Assign [.Name y py] (.ListComp elt [⟨tg, iter, ifs, 0⟩] scope pos) spos) (tAsg te (gName i)) := by
  have hyl' : X.env.scope.names.lookup y = some .local := by rw [C.sc]; exact hyl
  have sw : swapsWith (.ListComp elt [⟨tg, iter, ifs, 0⟩] scope pos) (some (.Name y py)) spos.line X.env = pure true := sw_true (by rw [C.sc]; exact hk) hyl' hl ha
  refine ⟨fun pins s σ H D I q => ?_⟩
  rw [exec_Assign_Name_used _ _ _ _ sw]
  refine wpAny_bind (wpAny_standAt (wpAny_bind ?_))
  show wpAny _ X.A (do let _ ← comprehension (.ListComp elt [⟨tg, iter, ifs, 0⟩] scope pos) scope X.env (firstIterPos [⟨tg, iter, ifs, 0⟩] pos) (newList []) false (eval iter X.env) (some (assign (.Name y py) X.env)); pure _) _ _ s
  have q' : te σ H fun x H1 => gName i x σ H1 D.nx := q
  refine wpAny_bind (thn (lc_core1 (Qf := fun _ s' => SP X pins D .next s') C hin I hi ok hg ht he hs (hw σ H _ q') fun A ce s' m H' J q hn fo => ?_) fun _ s' hq => wpAny_pure (wpAny_pure hq))
  show wpAny _ _ (assign (.Name y py) X.env (.ref A)) _ _ _
  refine wpAny_assign_Name (store_ok2 (v := V.ref A) J (by rw [C.nm]; exact C.nd) (by rw [C.nm]; exact hy) (.inl hyl') rfl (fun s2 I2 hh => ?_) (.inr hyl'))
  obtain ⟨b, sb, hb⟩ := hh
  have ne : ce.locals ≠ b := by
    rcases hb with z | z
    · rw [z]; exact fo.2.1
    · exact fun e => fo.2.2.2.2.1 y b z e.symm
  refine ⟨m, hn.sameBut sb ne, fun h3 sb3 => ?_⟩
  exact ⟨_, H', I2.turned (t' := s2.toks) (fun b o hb e => (sb3.2 b hb).trans e) fo.1 fo.2.1 fo.2.2.2.1 fo.2.2.2.2.1 fo.2.2.2.2.2, q⟩
theorem se_lc (cell : Bool) (C : Cq tb G CA XR k N sc own X W) (hin : GIn (ownL.map (·.2)) gm) (ok : BlkOk N sc scope ownL) (hi : SIL CA XR X W tg iter im)
    (hg : ∀ X' W', Cq tb G CA XR k N (relS scope sc) (blkOwn scope) X' W' → SG CA XR X' W' tg gm)
    (ht : ∀ X' W', Cq tb G CA XR k N (relS scope sc) (blkOwn scope) X' W' → PTs X' ifs (tMT X'.K CA XR W' (testM tt)))
    (he : ∀ X' W', Cq tb G CA XR k N (relS scope sc) (blkOwn scope) X' W' → SE CA XR X' W' elt fm) (hs : ∀ x, foldedSetIterable iter X.env x = pure x := by intro _; rfl) :
    SE CA XR X W (.ListComp elt [⟨tg, iter, ifs, 0⟩] scope pos) (eComp cell (ownL.map (·.2)) im gm tt fm) := lc_val C hin ok hi (fun σ H Q q => lc_list q) hg ht he hs
theorem se_lcR (cell : Bool) (C : Cq tb G CA XR k N sc own X W) (hin : GIn (ownL.map (·.2)) gm) (ok : BlkOk N sc scope ownL) (hi : SI CA XR X W tg iter im)
    (hg : ∀ X' W', Cq tb G CA XR k N (relS scope sc) (blkOwn scope) X' W' → SG CA XR X' W' tg gm)
    (ht : ∀ X' W', Cq tb G CA XR k N (relS scope sc) (blkOwn scope) X' W' → PTs X' ifs (tMT X'.K CA XR W' (testM tt)))
    (he : ∀ X' W', Cq tb G CA XR k N (relS scope sc) (blkOwn scope) X' W' → SE CA XR X' W' elt fm) (hs : ∀ x, foldedSetIterable iter X.env x = pure x := by intro _; rfl) :
    SE CA XR X W (.ListComp elt [⟨tg, iter, ifs, 0⟩] scope pos) (eCompR cell (ownL.map (·.2)) im gm tt fm) := lc_val C hin ok hi (fun σ H Q q => lc_any q) hg ht he hs
theorem asg_read {f : CE} (i : Nat) : ∀ D σ H, tS X.K CA XR W (sAsg f (gVar i)) D σ H → tAsg (tM X.K CA XR W f) (gName i) D σ H := fun D σ H ⟨m, st, ρ, S, E, q⟩ =>
  ⟨m, st, ρ, S, E, (PO.expr E q).mono fun x m1 st1 H1 S1 T1 h1 v rv => h1 m1 H1 _ S1 Step.refl ((E.mono T1).set rv i)⟩
theorem ss_lc (cell : Bool) (C : Cq tb G CA XR k N sc own X W) (i : Nat) {y : Str} (hy : N[i]? = some y) (hyl : sc.names.lookup y = some .local) (hk : sc.kind = .function) (hl : (py.line == pos.line) = true)
    (ha : (scope.names.any fun (n, k) => n == y && (k == .local || k == .cell)) = false) (hin : GIn (ownL.map (·.2)) gm) (ok : BlkOk N sc scope ownL) (hi : SIL CA XR X W tg iter im)
    (hg : ∀ X' W', Cq tb G CA XR k N (relS scope sc) (blkOwn scope) X' W' → SG CA XR X' W' tg gm)
    (ht : ∀ X' W', Cq tb G CA XR k N (relS scope sc) (blkOwn scope) X' W' → PTs X' ifs (tMT X'.K CA XR W' (testM tt)))
    (he : ∀ X' W', Cq tb G CA XR k N (relS scope sc) (blkOwn scope) X' W' → SE CA XR X' W' elt fm) (hs : ∀ x, foldedSetIterable iter X.env x = pure x := by intro _; rfl) :
    S1 CA XR X W (.Assign [.Name y py] (.ListComp elt [⟨tg, iter, ifs, 0⟩] scope pos) spos) (sAsg (eComp cell (ownL.map (·.2)) im gm tt fm) (gVar i)) :=
  PS.weak (lc_set C i hy hyl hk hl ha hin ok hi (fun σ H Q q => lc_list q) hg ht he hs) (asg_read i)
theorem ss_lcR (cell : Bool) (C : Cq tb G CA XR k N sc own X W) (i : Nat) {y : Str} (hy : N[i]? = some y) (hyl : sc.names.lookup y = some .local) (hk : sc.kind = .function) (hl : (py.line == pos.line) = true)
    (ha : (scope.names.any fun (n, k) => n == y && (k == .local || k == .cell)) = false) (hin : GIn (ownL.map (·.2)) gm) (ok : BlkOk N sc scope ownL) (hi : SI CA XR X W tg iter im)
    (hg : ∀ X' W', Cq tb G CA XR k N (relS scope sc) (blkOwn scope) X' W' → SG CA XR X' W' tg gm)
    (ht : ∀ X' W', Cq tb G CA XR k N (relS scope sc) (blkOwn scope) X' W' → PTs X' ifs (tMT X'.K CA XR W' (testM tt)))
    (he : ∀ X' W', Cq tb G CA XR k N (relS scope sc) (blkOwn scope) X' W' → SE CA XR X' W' elt fm) (hs : ∀ x, foldedSetIterable iter X.env x = pure x := by intro _; rfl) :
    S1 CA XR X W (.Assign [.Name y py] (.ListComp elt [⟨tg, iter, ifs, 0⟩] scope pos) spos) (sAsg (eCompR cell (ownL.map (·.2)) im gm tt fm) (gVar i)) :=
  PS.weak (lc_set C i hy hyl hk hl ha hin ok hi (fun σ H Q q => lc_any q) hg ht he hs) (asg_read i)
/-- a captured name takes no part in the exchange -/
theorem sw_cell {a : Expr} {gs : List Comprehension} {env : PySem.Env} {y : Str} {l : Nat} (h : env.scope.names.lookup y ≠ some .local) : swapsWith (.ListComp a gs scope pos) (some (.Name y py)) l env = pure false := by
  have e : (env.kindOf y == some NameKind.local) = false := beq_eq_false_iff_ne.mpr h
  unfold swapsWith
  simp only [e, Bool.and_false, Bool.false_and]
end
end Fl
set_option Elab.async false
set_option linter.all false
set_option maxRecDepth 100000
set_option maxHeartbeats 4000000
/-! Fl over the layer: try. -/
namespace Fl
open PySem PySem.Spec L2

abbrev wNo : WX := fun _ _ _ _ => False
/-- a suite that has the exception in slot i -/
def tX (K : PySem.W.Frag) (CA : Tags) (XR : XRel) (i : Nat) (f : SM) (a : Addr) (cls : Value) (d : Option Addr) : TS := fun D σ H => σ[i]? = some (some (.ref a)) ∧
  ∃ m st ρ x, SR K CA m st H ∧ ER K m st H ρ σ ∧ ρ[i]? = some (some (.ex x)) ∧ XR x cls d H ∧ PO K CA XR wNo D m st H (calmO (f ρ st))
section
variable {tb : Tab} {G : FEnv} {CA : Tags} {XR : XRel} {k : Nat} {N : List Str} {sc : Scope} {own : Str → Bool} {X : Cx} {W : WX}
variable {body suite : List Stmt} {b0 : Stmt} {fs gs : SM} {np pos pos' : Pos} {x n : Str}

theorem names_of (C : Cw tb G CA XR k N sc own X W) {uv : Value} (hg : glbB sc x = true) (h : X.mg x = some uv ∨ (X.mg x = none ∧ bootBuiltins x = some uv)) : Names X x uv :=
  ⟨gl_of C hg, gl_dbg hg, h.imp id fun z => ⟨z.1, z.2, gl_nm hg⟩⟩
theorem Cs.tr (C : Cs tb G CA XR k N sc X W) {W' : WX} (pn : List (Addr × Obj)) (xe : Value → Shared → Prop) (tk : Takes (X.tr pn xe) W') (hp : PassesOwn (model X.prog X.w) X.A X.env xe) : Cs tb G CA XR k N sc (X.tr pn xe) W' := by
  refine ⟨⟨⟨C.q.nm, C.q.nd, C.q.sc, C.q.own, C.q.un, C.q.glob⟩, C.q.calm, ⟨_, C.hf, ⟨_, _, C.hs, C.hf⟩, ?_⟩, C.q.room⟩, C.hs, C.hf, hp, tk, C.kind⟩
  rintro u s' ⟨a, B, sI, pins, σ, H', cls, d, ⟨h1, h2⟩, h3, ⟨h4, h5⟩, h6, h7, h8, h9⟩
  exact tk u s' ⟨a, B, sI, pins, σ, H', cls, d, h1, h3, h6, h7, h4, h5, h8, h9, h2⟩
theorem Cs.inSuite (C : Cs tb G CA XR k N sc X W) (a : Addr) (pn : List (Addr × Obj)) : Cw tb G CA XR k N sc (fun _ => true) (X.suite a pn) wNo := by
  refine ⟨C.q.nm, C.q.nd, C.q.sc, C.q.own, ?_, C.q.glob⟩
  have := C.q.un
  exact this
theorem PO.no {K : PySem.W.Frag} {D : Ends} {m : Mp} {st : Store} {H : Hp} {o : SO} (h : PO K CA XR W D m st H (calmO o)) : PO K CA XR wNo D m st H (calmO o) := by
  cases o with
  | ex x ρ s => exact h
  | nx ρ s => exact h
  | rt ρ s => exact h
  | bk ρ s => exact h
  | ct ρ s => exact h
  | bad => exact h
theorem PO.unc {K : PySem.W.Frag} {D : Ends} {m : Mp} {st : Store} {H : Hp} {o : SO} (h : PO K CA XR wNo D m st H (calmO o)) : PO K CA XR wNo D m st H o := by
  cases o with
  | ex x ρ s => exact (show False from h).elim
  | nx ρ s => exact h
  | rt ρ s => exact h
  | bk ρ s => exact h
  | ct ρ s => exact h
  | bad => exact h
/-- except X: -/
theorem ss_try (C : Cs tb G CA XR k N sc X W) (t : String) (hg : glbB sc x = true) (hm : (x, t) ∈ tb.exMs) (hb : ∀ X' W', Cs tb G CA XR k N sc X' W' → SS CA XR X' W' body fs)
    (hsu : ∀ X', Cw tb G CA XR k N sc (fun _ => true) X' wNo → SS CA XR X' wNo (b0 :: suite) gs) :
    S1 CA XR X W (.Try body [.ExceptHandler (some (.Name x np)) none (b0 :: suite) pos'] [] [] pos) (sTry fs t none gs) := by
  obtain ⟨uv, hn, hx⟩ := C.q.glob.exMs x t hm
  refine PS.weak (ps_try_only (Wout := W) (tb := fun W' => tS X.K CA XR W' fs) (ts := fun _ _ _ => tS X.K CA XR wNo gs) C.hs C.hf (names_of C.q.toCw hg hn) C.tk (fun W' pn xe tk hp => hb _ _ (C.tr pn xe tk hp)) fun a oe cls d pn _ _ => hsu _ (C.inSuite a _)) ?_
  rintro D σ H ⟨m, st, ρ, S, E, q⟩
  refine ⟨m, st, ρ, S, E, ?_⟩
  unfold sTry at q
  cases e : fs ρ st with
  | nx ρ' s' => rw [e] at q; exact q
  | rt v s' => rw [e] at q; exact q
  | bk v s' => rw [e] at q; exact q
  | ct v s' => rw [e] at q; exact q
  | bad => rw [e] at q; exact q
  | ex y ρ1 s1 =>
    rw [e] at q
    intro m' H' σ' cls d S' T' E' xr
    dsimp only at q
    refine ⟨excSub y.cls t, hx y cls d H' xr, fun hb _ _ => ?_, fun hb => ?_⟩
    · rw [if_pos hb] at q
      exact ⟨m', s1, ρ1, S', E', (PO.no (q.step T')).unc⟩
    · rw [if_neg (by rw [hb]; decide)] at q
      exact q m' H' σ' cls d S' T' E' xr
/-- except X as n: -/
theorem ss_try_as (C : Cs tb G CA XR k N sc X W) (i : Nat) (t : String) (hi : N[i]? = some n) (hl : sc.names.lookup n = some .local) (hg : glbB sc x = true) (hm : (x, t) ∈ tb.exMs) (hb : ∀ X' W', Cs tb G CA XR k N sc X' W' → SS CA XR X' W' body fs)
    (hsu : ∀ a oe cls d pn, Zc cls d oe → (∃ vs, oe.data = .fields vs) → Cw tb G CA XR k N sc (fun _ => true) (X.suite a ((a, oe) :: pn)) wNo → PSs (X.suite a ((a, oe) :: pn)) (b0 :: suite) (tX X.K CA XR i gs a cls d)) :
    S1 CA XR X W (.Try body [.ExceptHandler (some (.Name x np)) (some n) (b0 :: suite) pos'] [] [] pos) (sTry fs t (some i) gs) := by
  obtain ⟨uv, hn, hx⟩ := C.q.glob.exMs x t hm
  refine PS.weak (ps_try_as (Wout := W) (tb := fun W' => tS X.K CA XR W' fs) (ts := fun a cls d => tX X.K CA XR i gs a cls d) C.hs C.hf (by rw [C.q.nm]; exact C.q.nd) (by rw [C.q.nm]; exact hi) (by show X.env.scope.names.lookup n = _; rw [C.q.sc]; exact hl)
    (names_of C.q.toCw hg hn) C.tk (fun W' pn xe tk hp => hb _ _ (C.tr pn xe tk hp)) fun a oe cls d pn z1 z2 => hsu a oe cls d pn z1 z2 (C.inSuite a _)) ?_
  rintro D σ H ⟨m, st, ρ, S, E, q⟩
  refine ⟨m, st, ρ, S, E, ?_⟩
  unfold sTry at q
  cases e : fs ρ st with
  | nx ρ' s' => rw [e] at q; exact q
  | rt v s' => rw [e] at q; exact q
  | bk v s' => rw [e] at q; exact q
  | ct v s' => rw [e] at q; exact q
  | bad => rw [e] at q; exact q
  | ex y ρ1 s1 =>
    rw [e] at q
    intro m' H' σ' cls d S' T' E' xr
    dsimp only at q
    refine ⟨excSub y.cls t, hx y cls d H' xr, fun hb a na => ?_, fun hb => ?_⟩
    · rw [if_pos hb] at q
      split at q
      · rename_i hlt
        refine ⟨List.getElem?_set_self (by rw [← E'.1]; exact hlt), m', s1, ρ1.set i (some (.ex y)), y, S', E'.set (w := .ex y) trivial i, List.getElem?_set_self hlt, xr, ?_⟩
        cases e2 : gs (ρ1.set i (some (.ex y))) s1 with
        | nx ρ2 s2 => rw [e2] at q; exact fun m4 H4 σ4 S4 T4 E4 => q m4 H4 _ S4 (T'.trans T4) (E4.drop i)
        | bk ρ2 s2 => rw [e2] at q; exact fun m4 H4 σ4 S4 T4 E4 => q m4 H4 _ S4 (T'.trans T4) (E4.drop i)
        | ct ρ2 s2 => rw [e2] at q; exact fun m4 H4 σ4 S4 T4 E4 => q m4 H4 _ S4 (T'.trans T4) (E4.drop i)
        | rt v s2 => rw [e2] at q; exact fun m4 H4 u S4 T4 r4 => q m4 H4 u S4 (T'.trans T4) r4
        | ex x2 ρ2 s2 => rw [e2] at q; exact q
        | bad => rw [e2] at q; exact q
      · exact (show False from q).elim
    · rw [if_neg (by rw [hb]; decide)] at q
      exact q m' H' σ' cls d S' T' E' xr

/-! ### what a suite asks of its exception -/
/-- a value that is known, slot i being a -/
def cst (i : Nat) (a : Addr) (v : V) : TE := fun σ H Q => σ[i]? = some (some (.ref a)) ∧ Q v H
variable {a : Addr} {oe : Obj} {pn : List (Addr × Obj)} {cls : Value} {d : Option Addr} {i : Nat} {p p2 p3 : Pos} {e1 e2 : Expr}
theorem kx_is (C : Cw tb G CA XR k N sc (fun _ => true) (X.suite a ((a, oe) :: pn)) wNo) (hz : Zc cls d oe) (hf : ∃ vs, oe.data = .fields vs) {y : Exc} {H0 : Hp} (xr : XR y cls d H0) (hi : N[i]? = some n) (hl : visB sc n = true)
    (hb : bltB tb sc "isinstance" = true) (t : String) (hg : glbB sc x = true) (hm : (x, t) ∈ tb.exIs) : PE (X.suite a ((a, oe) :: pn)) (.Call (.Name "isinstance" p) [.Name n p2, .Name x p3] [] pos) (cst i a (.bl (excSub y.cls t))) := by
  obtain ⟨u, uv, hn, hr, hu, hx⟩ := C.glob.exIs x t hm
  obtain ⟨rfl, A, rfl, hA, hk⟩ := hx y cls d H0 xr
  unfold visB at hl
  simp only [Bool.and_eq_true, Bool.not_eq_true'] at hl
  have v1 : PE (X.suite a ((a, oe) :: pn)) (.Name n p2) (tVar i) := pe_var (i := i) (by rw [C.nm]; exact hi) (by rw [C.sc]; exact look_vis hl.1.1) hl.1.2 hl.2
  have v2 : PE (X.suite a ((a, oe) :: pn)) (.Name x p3) (tC u) := by
    rcases hn with z | ⟨z, z2⟩
    · exact pe_glob (gl_of C hg) z hr (gl_dbg hg)
    · exact pe_bltn (gl_of C hg) z z2 hr (gl_nm hg) (gl_dbg hg)
  refine PE.weak (pe_callB (call_isE hA hz hf) (gl_of C (blt_gl hb)) (blt_mg C hb) PyProof.Rows.boot_isinstance (pa_cons v1 (pa_cons v2 pa_nil rfl) rfl) (gl_nm (blt_gl hb)) (gl_dbg (blt_gl hb)) rfl rfl) ?_
  rintro σ H Q ⟨h1, h2⟩
  exact ⟨_, h1, u, uv, _, rfl, hu, hk, h2⟩
theorem kx_and {b c : Bool} {es : List Expr} (h1 : PE X e1 (cst i a (.bl b))) (h2 : PE X (.BoolOp .And (e2 :: es) pos) (cst i a (.bl c))) : PE X (.BoolOp .And (e1 :: e2 :: es) pos) (cst i a (.bl (b && c))) := PE.weak (pe_and h1 h2) fun σ H Q ⟨z, q⟩ => by
  refine ⟨z, b, rfl, ?_⟩
  cases b with
  | true => exact ⟨z, q⟩
  | false => exact q
theorem kx_and1 {v : V} (h1 : PE X e1 (cst i a v)) : PE X (.BoolOp .And [e1] pos) (cst i a v) := pe_one h1
theorem kx_not {b : Bool} (h1 : PE X e1 (cst i a (.bl b))) : PE X (.UnaryOp .Not e1 pos) (cst i a (.bl (!b))) := PE.weak (pe_not h1) fun σ H Q ⟨z, q⟩ => ⟨z, b, rfl, q⟩
/-- .. as tests -/
def cstT (i : Nat) (a : Addr) (b : Bool) : TT := fun σ H Q => σ[i]? = some (some (.ref a)) ∧ Q b H
theorem kt_val {b : Bool} (h1 : PE X e1 (cst i a (.bl b))) (he : ∀ whole, isTrue e1 X.env whole = (do let v ← whole; standAt e1.pos; holding [v] (truthy v)) := by intro _; rfl) : PT X e1 (cstT i a b) := PT.weak (pt_val h1 he) fun σ H Q ⟨z, q⟩ => ⟨z, b, rfl, q⟩
theorem kt_and {b c : Bool} {es : List Expr} (h1 : PT X e1 (cstT i a b)) (h2 : L2.PW X (.BoolOp .And (e2 :: es) pos) (cstT i a c)) : L2.PW X (.BoolOp .And (e1 :: e2 :: es) pos) (cstT i a (b && c)) := PW.weak (pw_and h1 h2) fun σ H Q ⟨z, q⟩ => by
  refine ⟨z, ?_⟩
  cases b with
  | true => exact ⟨z, q⟩
  | false => exact q
theorem kt_and1 {b : Bool} (h1 : PT X e1 (cstT i a b)) : L2.PW X (.BoolOp .And [e1] pos) (cstT i a b) := pw_and1 h1
/-- the mirror's test of the exception in slot i -/
def XM (i : Nat) (t : CT) (b : Exc → Bool) : Prop := ∀ (ρ : Env) (st : Store) (y : Exc), ρ[i]? = some (some (.ex y)) → t ρ st = .ok (b y) st
theorem xm_is {i : Nat} {c : String} : XM i (tIsE c (eVar i)) fun y => excSub y.cls c := fun ρ st y h => by
  unfold tIsE eVar
  rw [bind_eq, h]
  rfl
theorem xm_not {i : Nat} {t : CT} {b : Exc → Bool} (h : XM i t b) : XM i (tNot t) fun y => !(b y) := fun ρ st y e => by
  unfold tNot
  rw [bind_eq, h ρ st y e]
  rfl
theorem xm_and {i : Nat} {t u : CT} {b c : Exc → Bool} (h : XM i t b) (h' : XM i u c) : XM i (tAnd t u) fun y => (b y) && (c y) := fun ρ st y e => by
  unfold tAnd
  rw [bind_eq, h ρ st y e, bind_ok]
  show (if b y = true then u ρ else pure false) st = .ok (b y && c y) st
  cases hb : b y with
  | true => rw [if_pos rfl, h' ρ st y e, Bool.true_and]
  | false => rw [if_neg (by decide), Bool.false_and]; rfl
/-- if what is asked of it: return .. -/
theorem kx_suite1 {CA : Tags} {XR : XRel} {X : Cx} {e1 e2 : Expr} {t : CT} {r : CE} (b : Exc → Bool) (ht : ∀ y H0, XR y cls d H0 → PT X e1 (cstT i a (b y))) (hr : SE CA XR X wNo e2 r) (hm : XM i t b) :
    PSs X [.If e1 [.Return (some e2) p2] [] p3] (tX X.K CA XR i (sIf t (sRet r) sNil) a cls d) := by
  refine ⟨fun pins s σ H D I ⟨h1, m, st, ρ, y, S, E, e, xr, q⟩ => (pss_one (ps_if (ht y H xr) (pss_one (ps_ret hr)) pss_nil)).run pins s σ H D I ⟨h1, ?_⟩⟩
  have q1 : PO X.K CA XR wNo D m st H (sIf t (sRet r) sNil ρ st) := q.unc
  have e3 : sIf t (sRet r) sNil ρ st = if b y then sRet r ρ st else .nx ρ st := by
    unfold sIf
    rw [hm ρ st y e]
    rfl
  rw [e3] at q1
  cases hb : b y with
  | true =>
    rw [hb, if_pos rfl] at q1
    exact ⟨m, st, ρ, S, E, (PO.expr E q1).mono fun x m1 st1 H1 S1 T1 h1 v rv => h1 m1 H1 v S1 Step.refl rv⟩
  | false =>
    rw [hb, if_neg (by decide)] at q1
    exact q1 m H σ S Step.refl E
theorem kt_not {b : Bool} (h1 : PT X e1 (cstT i a b)) : PT X (.UnaryOp .Not e1 pos) (cstT i a (!b)) := PT.weak (pt_not h1) fun σ H Q ⟨z, q⟩ => ⟨z, q⟩
end
end Fl
set_option Elab.async false
set_option linter.all false
set_option maxRecDepth 100000
set_option maxHeartbeats 4000000
/-! Fl over the layer: dict displays, methods of dicts. -/
namespace Fl
open PySem PySem.Spec L2

section
variable {K : PySem.W.Frag} {CA : Tags} {XR : XRel} {W : WX} {σ : L2.St} {m : Mp} {st : Store} {H : Hp} {Q : VK} {cell : Bool}
theorem RepVK.of_trees : ∀ {ws : List (Key × Val)} {ts : List (Key × T)} {vs : List (L2.Key × V)}, treesK ws = some ts → RepVK K m st H ws vs → RepK K H (live m st) ts vs
  | [], ts, vs, h, r => by simp only [treesK, Option.some.injEq] at h; subst h; exact r
  | (kk, .t d) :: q, ts, vs, h, ⟨v, vr, e, r1, r2⟩ => by
    simp only [treesK] at h
    cases e2 : treesK q with
    | none => rw [e2] at h; cases h
    | some tq =>
      rw [e2] at h
      simp only [Option.some.injEq] at h
      subst h
      exact ⟨v, vr, e, ⟨r1.1, r1.2⟩, RepVK.of_trees e2 r2⟩
  | (_, .loc n) :: q, ts, vs, h, r => by simp [treesK] at h
  | (_, .scr n) :: q, ts, vs, h, r => by simp [treesK] at h
  | (_, .ex n) :: q, ts, vs, h, r => by simp [treesK] at h
theorem treesK_len : ∀ {ws : List (Key × Val)} {ts : List (Key × T)}, treesK ws = some ts → ts.length = ws.length
  | [], ts, h => by simp only [treesK, Option.some.injEq] at h; subst h; rfl
  | (kk, .t d) :: q, ts, h => by
    simp only [treesK] at h
    cases e2 : treesK q with
    | none => rw [e2] at h; cases h
    | some tq =>
      rw [e2] at h
      simp only [Option.some.injEq] at h
      subst h
      rw [List.length_cons, List.length_cons, treesK_len e2]
  | (_, .loc n) :: q, ts, h => by simp [treesK] at h
  | (_, .scr n) :: q, ts, h => by simp [treesK] at h
  | (_, .ex n) :: q, ts, h => by simp [treesK] at h
theorem newD_ok {ws : List (Key × Val)} {vs : List (L2.Key × V)} (S : SR K CA m st H) (r : RepVK K m st H ws vs) (z : ws.length ≤ L) (q : PR K CA XR W σ (newD cell ws st) m st H fun a m' st' H' => ∀ v, RepV K m' st' H' a v → Q v H') :
    ∀ p, H p = none → Q (.ref p) (upd H p (.dK vs)) := fun p hp => by
  cases cell with
  | true =>
    have T := S.cellStep (o := .dK vs) hp (.dct ws)
    refine q (mNew m st p) _ (S.newCell hp ⟨vs, upd_same, z, RepVK.mono T _ _ r⟩) T (.ref p) ⟨by simp, ?_⟩
    rw [mNew_same]
  | false =>
    unfold newD at q
    dsimp only at q
    cases e : treesK ws with
    | none => rw [e] at q; exact q.elim
    | some ts =>
      rw [e] at q
      obtain ⟨T, S'⟩ := S.fresh (o := .dK vs) hp
      refine q m _ S' T (.ref p) ⟨p, vs, rfl, ⟨upd_same, S.not_live hp⟩, by rw [treesK_len e]; exact z, ?_⟩
      exact RepVK.of_trees (m := m) (st := st) e (RepVK.mono T _ _ r)
theorem RepVK.merge : ∀ {more : List (Key × Val)} {mv : List (L2.Key × V)} {ks : List (Key × Val)} {vs : List (L2.Key × V)}, RepVK K m st H more mv → RepVK K m st H ks vs → RepVK K m st H (dmerge ks more) (mergeK vs mv)
  | [], mv, ks, vs, h, r => by rw [show mv = [] from h]; exact r
  | p :: q, _, ks, vs, ⟨v, qv, rfl, h1, h2⟩, r => by
    obtain ⟨vk, vv⟩ := v
    obtain ⟨e, h1⟩ := h1
    dsimp only at e h1
    subst e
    show RepVK K m st H (dmerge (dput ks p.1 p.2) q) (mergeK (putK vs (kL p.1) vv) qv)
    exact RepVK.merge h2 (RepVK.put h1 r)
theorem dmerge_len : ∀ (more ks : List (Key × Val)), (dmerge ks more).length ≤ ks.length + more.length
  | [], ks => by show ks.length ≤ ks.length + 0; omega
  | p :: r, ks => by
    have h1 := dmerge_len r (dput ks p.1 p.2)
    have h2 := dput_len ks p.1 p.2
    show (dmerge (dput ks p.1 p.2) r).length ≤ _
    rw [List.length_cons]; omega
end

section
variable {tb : Tab} {G : FEnv} {CA : Tags} {XR : XRel} {k : Nat} {N : List Str} {sc : Scope} {own : Str → Bool} {X : Cx} {W : WX}
variable {a b c d e : Expr} {es : List Expr} {pos pos' apos cpos p p2 p3 : Pos} {f g h : CE} {t u : CT} {keys : List (Option Expr)} {values : List Expr} {fs : List (CE × CE)}

abbrev SPs (CA : Tags) (XR : XRel) (X : Cx) (W : WX) (pos : Pos) (keys : List (Option Expr)) (values : List Expr) (fs : List (CE × CE)) : Prop := PPs X pos keys values (fs.map fun p => (tM X.K CA XR W p.1, tM X.K CA XR W p.2))
theorem sp_nil : SPs CA XR X W pos [] [] [] := pps_nil
theorem sp_cons (ha : SE CA XR X W a f) (hb : SE CA XR X W b g) (hr : SPs CA XR X W pos keys values fs) : SPs CA XR X W pos (some a :: keys) (b :: values) ((f, g) :: fs) := pps_cons ha hb hr
theorem pairs_read {σ : L2.St} {ρ : Env} : ∀ {fs : List (CE × CE)} {m : Mp} {st : Store} {H : Hp} {Q : List (V × V) → Hp → Prop}, SR X.K CA m st H → ER X.K m st H ρ σ →
    PR X.K CA XR W σ (ePairs fs ρ st) m st H (fun kvs m' st' H' => kvs.length = fs.length → ∀ us, RepVK X.K m' st' H' kvs us → Q (us.map fun kv => (kV kv.1, kv.2)) H') → tPairs (fs.map fun p => (tM X.K CA XR W p.1, tM X.K CA XR W p.2)) σ H Q
  | [], m, st, H, Q, S, E, q => PR.here S q rfl [] rfl
  | (f, g) :: r, m, st, H, Q, S, E, q => by
    refine ⟨m, st, ρ, S, E, (PR.bind_of (r := f ρ st) q).mono fun x m1 st1 H1 S1 T1 h1 v rv => ⟨m1, st1, ρ, S1, E.mono T1, (PR.bind_of (r := g ρ st1) h1).mono fun y m2 st2 H2 S2 T2 h2 w rw => ?_⟩⟩
    refine pairs_read S2 ((E.mono T1).mono T2) ((PR.bind_of (r := ePairs r ρ st2) h2).mono fun kvs m3 st3 H3 S3 T3 h3 hl us rus => ?_)
    cases ek : keyOf x with
    | none => rw [ek] at h3; exact h3.elim
    | some kk =>
      rw [ek] at h3
      have e : v = kV (kL kk) := keyOf_rep rv ek
      subst e
      exact PR.here S3 h3 (by rw [List.length_cons, List.length_cons, hl]) ((kL kk, w) :: us) ⟨_, us, rfl, ⟨rfl, RepV.mono T3 _ _ rw⟩, rus⟩
/-- a display: the new dict stands aside while the pairs are made -/
theorem pe_dispU {trs : List (TE × TE)} (h : PPs X pos keys values trs) (hall : keys.all (·.isSome) = true) (hl : keys.length = values.length) (h0 : keys ≠ []) (h15 : keys.length ≤ 15) :
    PE X (.Dict keys values pos) fun σ H Q => tPairs trs σ H fun ps H2 => ∃ kvs : List (L2.Key × V), ps = kvs.map (fun kv => (kV kv.1, kv.2)) ∧ kvs.length ≤ 15 ∧ ∀ p, H2 p = none → Q (.ref p) (upd H2 p (.dK (mergeK [] kvs))) := by
  refine ⟨fun pins s σ H Q I q => ?_⟩
  obtain ⟨D, hD⟩ : ∃ D, D = s.heap.objs.size := ⟨_, rfl⟩
  have fD : FpOk X pins H D := I.fpOk (Nat.le_of_eq hD.symm) (I.hok.fresh (Nat.le_of_eq hD.symm))
  have I1 : Inv X pins σ H { s with heap := s.heap.push { cls := .type "dict", data := .dict #[] } } := I.kept (t' := s.toks) fun _ _ z => Heap.get?_push_of_some _ z
  have gD : (s.heap.push { cls := .type "dict", data := .dict #[] }).get? D = some { cls := .type "dict", data := .dict #[] } := by rw [hD]; exact Heap.get?_push_size _ rfl
  have I2 : Inv X ((D, { cls := .type "dict", data := .dict #[] }) :: pins) σ H { s with heap := s.heap.push { cls := .type "dict", data := .dict #[] } } := by
    refine I1.pins_of fun p hp => ?_
    rcases List.mem_cons.mp hp with z | z
    · subst z
      exact ⟨gD, fD.1, fD.2.1, fD.2.2.1, fun v z => by have z' : Data.dict #[] = .cell v := z; cases z'⟩
    · exact I1.pin p (List.mem_append_right _ z)
  refine wpAny_Dict_walk (knd := mixKind X.prog X.w) hall hl h0 h15 (thn (h.run _ _ σ _ _ I2 q) ?_)
  rintro ws s2 ⟨ps, H2, I3, rel, kvs, rfl, hk, q2⟩
  obtain ⟨rs, cr, rk⟩ := carries_of (P := X.prog) (w := X.w) rel
  have pD := I3.pin (D, { cls := .type "dict", data := .dict #[] }) (List.mem_append_right _ List.mem_cons_self)
  have I4 : Inv X pins σ H2 s2 := I3.pins_of fun p hp => I3.pin p (List.mem_append_right _ (List.mem_cons_of_mem _ hp))
  have hsm : (D == sysModules) = false := by rw [hD]; exact beq_eq_false_iff_ne.mpr (Ne.symm (Nat.ne_of_lt I.big))
  have nD := pD.2.1
  have Dd : s2.heap.DictOf (mixKind X.prog X.w) D [] := by
    have z : (s.heap.push { cls := .type "dict", data := .dict #[] }).DictOf (mixKind X.prog X.w) s.heap.objs.size [] := Heap.DictOf.new s.heap
    rw [← hD] at z
    obtain ⟨o, es, ep, e1, e2⟩ := z
    rw [gD] at e1
    cases e1
    exact ⟨_, es, ep, pD.1, e2⟩
  rw [← hD]
  refine ⟨rs, cr, Dd, fun h' dd' sb => ⟨.ref D, upd H2 D (.dK (mergeK [] kvs)), ?_, rfl, q2 D nD⟩⟩
  have I5 : Inv X pins σ H2 { s2 with heap := h', toks := s2.toks + ws.length } := I4.turned (fun b o hb e => (sb.2 b hb).trans e) nD fD.2.1 fD.2.2.2.1 fD.2.2.2.2.1 fD.2.2.2.2.2
  have hz : (mergeK [] kvs).length ≤ sizeLine := by
    have h1 := length_mergeK kvs []
    rw [List.length_nil] at h1
    rw [sizeLine_eq]; omega
  exact take_in I5 nD (dk_new hz hsm (rk.merge .nil) dd') fD.2.2.2.1 fD.2.1 fD.2.2.2.2.1 fD.2.2.2.2.2
theorem se_dct (cell : Bool) (hp : SPs CA XR X W pos keys values fs) (hall : keys.all (·.isSome) = true := by rfl) (hl : keys.length = values.length := by rfl) (h0 : keys ≠ [] := by intro e; cases e) (h15 : keys.length ≤ 15 := by decide) (hf : fs.length ≤ 15 := by first | decide | (simp only [List.length_cons, List.length_nil]; decide)) :
    SE CA XR X W (.Dict keys values pos) (eDct cell fs) := by
  refine PE.weak (pe_dispU hp hall hl h0 h15) fun σ H Q ⟨m, st, ρ, S, E, q⟩ => ?_
  refine pairs_read S E ((PR.bind_of (r := ePairs fs ρ st) q).mono fun kvs m1 st1 H1 S1 T1 h1 hlen us rus => ?_)
  have hz : kvs.length ≤ 15 := by omega
  have hz2 : us.length ≤ 15 := by rw [← rus.length]; exact hz
  refine ⟨us, rfl, hz2, newD_ok S1 (RepVK.merge rus (show RepVK X.K m1 st1 H1 [] [] from rfl)) ?_ h1⟩
  have := dmerge_len kvs []
  rw [List.length_nil] at this
  show _ ≤ 16777216
  omega
theorem se_dct0 (cell : Bool) : SE CA XR X W (.Dict [] [] pos) (eDct cell []) := PE.weak pe_dnewK fun σ H Q ⟨m, st, ρ, S, E, q⟩ => newD_ok S (show RepVK X.K m st H [] [] from rfl) (by decide) q
end
end Fl
set_option Elab.async false
set_option linter.all false
set_option maxRecDepth 100000
set_option maxHeartbeats 4000000
/-! Fl over the layer: the head's facts, the law's end. -/
namespace Fl
open PySem PySem.Spec L2

/-! ### the facts that a head tells -/
def hkF (n : Nat) (fa : List He.Fa) (fn : List He.DefD) (ex : PySem.W.Frag → Bool) : PySem.W.Hook where
  α := He.AlD × Bool
  obs := fun s => (He.obsDG n fa fn s.heap.get?, ex (He.frG s.heap.get? (He.asD s.heap.get? n)))
  val := fun _ => (He.valD fn, true)
  says := fun _ h => ∃ K : PySem.W.Frag, K.In h ∧ He.SaysD fa fn K ∧ ex K = true
  of := fun _ _ e => ⟨_, He.frG_in, congrArg (fun z : He.AlD × Bool => z.1) e, congrArg (fun z : He.AlD × Bool => z.2) e⟩
  keeps := fun _ _ _ ⟨K, hK, c⟩ k => ⟨K, PySem.W.Frag.In.keeps hK k, c⟩
def obF (n : Nat) (fa : List He.Fa) (fn : List He.DefD) (ex : PySem.W.Frag → Bool) (s : PySem.W.SharedT) : He.AlD × Bool := (He.obsDG n fa fn (HandSHeadRun.getT s), ex (He.frG (HandSHeadRun.getT s) (He.asD (HandSHeadRun.getT s) n)))
theorem obF_eq (n : Nat) (fa : List He.Fa) (fn : List He.DefD) (ex : PySem.W.Frag → Bool) (s : PySem.W.SharedT) : obF n fa fn ex s = (hkF n fa fn ex).obs s.abs := by
  have e : HandSHeadRun.getT s = s.abs.heap.get? := funext (HandSHeadRun.getT_eq s)
  unfold obF
  rw [e]
  rfl

/-- the classes and exceptions of the text, by their names -/
def CAof (K : PySem.W.Frag) (ts : List String) : Tags := fun t C => t ∈ ts ∧ C = He.ga K (Str.ofString t)
def XRof (K : PySem.W.Frag) (ts : List String) : XRel := fun x cls d _ => x.at_ = none ∧ d = none ∧ x.cls ∈ ts ∧ cls = .ref (He.ga K (Str.ofString x.cls))
def excCB (K : PySem.W.Frag) (D : Addr) : Bool :=
  decide (PySem.W.findIn K (.ref D) "__getattribute__" = some (some (.builtin "BaseException.__getattribute__"))) && (decide (PySem.W.findIn K (.ref D) "__getattr__" = some none) && (decide (PySem.W.subIn K (.ref D) (.type "BaseException") = some true) &&
  (PySem.W.hasDictIn K D && (decide (PySem.W.findIn K (.ref D) "__class__" = some (some (.builtin "object.__class__"))) && (decide (PySem.W.specialIn K (.builtin "object.__class__") "__get__" = some (some (.builtin "getset_descriptor.__get__"))) &&
  (decide (PySem.W.takesIn K (.builtin "object.__class__") = some true) && decide (PySem.W.mroIn K D (.type "object") = some true)))))))
theorem excCB_ok {K : PySem.W.Frag} {D : Addr} (h : excCB K D = true) : ExcC K D := by
  unfold excCB at h
  simp only [Bool.and_eq_true, decide_eq_true_eq] at h
  obtain ⟨h1, h2, h3, h4, h5, h6, h7, h8⟩ := h
  exact ⟨h1, h2, h3, h4, h5, h6, h7, h8⟩
/-- a name: a class of the text, or a built-in one -/
def uvOf (K : PySem.W.Frag) (ts : List String) (t : String) : Value := if ts.contains t then .ref (He.ga K (Str.ofString t)) else .type t
def exB (ts : List String) (is ms : List (Str × String)) (K : PySem.W.Frag) : Bool :=
  (ts.all fun t => (He.Fa.exc (Str.ofString t)).ok K && excCB K (He.ga K (Str.ofString t))) && ((is.all fun p => ts.all fun y => decide (PySem.W.kitOne K (.ref (He.ga K (Str.ofString y))) (uvOf K ts p.2) = some (excSub y p.2))) &&
    ms.all fun p => ts.all fun y => decide (PySem.W.exmOne K (.ref (He.ga K (Str.ofString y))) (uvOf K ts p.2) = some (excSub y p.2)))

/-- a constant of the module -/
def constB (K : PySem.W.Frag) (x : Str) : T → Bool
  | .int i => (He.Fa.int x i).ok K
  | .str z => (He.Fa.str x (Str.ofString z)).ok K
  | _ => false
theorem const_ok {K : PySem.W.Frag} {h : Heap} {mg : Str → Option Value} (X : K.In h) (G : h.Ns mainGlobals mg) {x : Str} {d : T} (c : constB K x d = true) : ∃ u v, mg x = some u ∧ RelV v u ∧ ∀ (H : Hp) lv, Rep K H lv d v := by
  cases d with
  | int i =>
    obtain ⟨t, e⟩ := He.int_ok X G (show (He.Fa.int x i).ok K = true from c)
    exact ⟨_, .int i, e, ⟨t, rfl⟩, fun _ _ => rfl⟩
  | str z =>
    obtain ⟨t, e⟩ := He.str_ok X G (show (He.Fa.str x (Str.ofString z)).ok K = true from c)
    exact ⟨_, .str (Str.ofString z), e, ⟨t, rfl⟩, fun _ _ => rfl⟩
  | _ => cases c

/-! ### the defs of a text -/
structure FD where
  d : He.DefD
  ps : List Str
  N : List Str
  sm : FEnv → SM
/-- the defs' mirrors; n calls deep -/
def Gam (fds : List (Nat × FD)) : Nat → FEnv
  | 0 => fun _ _ => bad
  | n + 1 => fun i => match fds.lookup i with
    | some fd => mkFn fd.N.length fd.ps.length (fd.sm (Gam fds n))
    | none => fun _ => bad
structure FDok (T : Tab) (fd : FD) : Prop where
  scope : FnScope fd.N fd.ps fd.d.scope
  dfl : fd.d.dfl = []
  kwd : fd.d.kwd = []
  bind : ∀ (kV doc pm : Value) (an : Option Addr) (cdv ct : Value) (us : List Value), us.length = fd.ps.length → bindArgs (PySem.W.fnOf fd.d.name fd.d.qual fd.d.params fd.d.body fd.d.scope .none kV doc pm an cdv ct) ⟨us, []⟩ = pure (fd.ps.zip us)
  body : ∀ (G : FEnv) (CA : Tags) (XR : XRel) (k : Nat) (X : Cx) (W : WX), Cs T G CA XR k fd.N fd.d.scope X W → SS CA XR X W fd.d.body (fd.sm G)
def fnsB (T : Tab) (fds : List (Nat × FD)) : Bool := T.fns.all fun e => match fds.lookup e.2.1 with
  | some fd => decide (fd.d.at_ = (e.1, none)) && fd.ps.length == e.2.2
  | none => false
/-- a text without classes to be made -/
structure TabOk (T : Tab) (fds : List (Nat × FD)) (fa : List He.Fa) (ts : List String) : Prop where
  fns : fnsB T fds = true
  glo : (T.fns.all fun e => fa.any fun f => match f with
    | .glo x => decide (x = e.1)
    | _ => false) = true
  ok : ∀ e ∈ fds, FDok T e.2
  cls : T.cls = []
  mts : T.mts = []
  ats : T.ats = []
  excs : (T.excs.all fun e => decide (e.1 = Str.ofString e.2) && ts.contains e.2) = true
  exg : (ts.all fun t => fa.any fun f => match f with
    | .glo x => decide (x = Str.ofString t)
    | _ => false) = true
  free : (T.free.all fun e => fa.any fun f => match f with
    | .free x => decide (x = e)
    | _ => false) = true
  isN : (T.exIs.all fun e => decide (e.1 = Str.ofString e.2) && (ts.contains e.2 || (decide (bootBuiltins e.1 = some (.type e.2)) && T.free.contains e.1))) = true
  msN : (T.exMs.all fun e => decide (e.1 = Str.ofString e.2) && ts.contains e.2) = true
/-- what the head's own Bool tells -/
def exAll (T : Tab) (ts : List String) (K : PySem.W.Frag) : Bool := exB ts T.exIs T.exMs K && T.consts.all fun e => constB K e.1 e.2
theorem fa_glo {fa : List He.Fa} {fn : List He.DefD} {K : PySem.W.Frag} {h : Heap} {mg : Str → Option Value} {x : Str} (c : He.SaysD fa fn K) (X : K.In h) (G : h.Ns mainGlobals mg) (q : (fa.any fun f => match f with
    | .glo y => decide (y = x)
    | _ => false) = true) : mg x = some (.ref (He.ga K x)) := by
  obtain ⟨f, hf, e⟩ := List.any_eq_true.mp q
  obtain ⟨i, hi⟩ := List.mem_iff_getElem?.mp hf
  cases f with
  | glo y =>
    have e : y = x := of_decide_eq_true e
    subst e
    exact He.glo_ok X G (c.fact i hi)
  | _ => cases e
theorem fa_free {fa : List He.Fa} {fn : List He.DefD} {K : PySem.W.Frag} {h : Heap} {mg : Str → Option Value} {x : Str} (c : He.SaysD fa fn K) (X : K.In h) (G : h.Ns mainGlobals mg) (q : (fa.any fun f => match f with
    | .free y => decide (y = x)
    | _ => false) = true) : mg x = none := by
  obtain ⟨f, hf, e⟩ := List.any_eq_true.mp q
  obtain ⟨i, hi⟩ := List.mem_iff_getElem?.mp hf
  cases f with
  | free y =>
    have e : y = x := of_decide_eq_true e
    subst e
    exact He.free_ok X G (c.fact i hi)
  | _ => cases e
theorem lookup_in {α : Type} {i : Nat} {a : α} : ∀ {l : List (Nat × α)}, l.lookup i = some a → (i, a) ∈ l
  | [], h => by cases h
  | (j, b) :: r, h => by
    rw [List.lookup_cons] at h
    cases e : i == j with
    | true =>
      rw [e] at h
      cases h
      rw [beq_iff_eq.mp e]
      exact List.mem_cons_self
    | false =>
      rw [e] at h
      exact List.mem_cons_of_mem _ (lookup_in h)
section
variable {T : Tab} {fds : List (Nat × FD)} {fa : List He.Fa} {ts : List String} {P : Program} {w : World} {K : PySem.W.Frag} {mg : Str → Option Value} {h base : Heap}
theorem Binds.of {fd : FD} (ok : FDok T fd) {f : Addr} {fu : FuncData} (F : FunD K fd.d.name fd.d.qual fd.d.params fd.d.body fd.d.scope (fd.d.dvs K) (fd.d.kws K) f fu) : Binds K fu fd.ps [] := by
  have e : fd.d.dvs K = [] := by unfold He.DefD.dvs; rw [ok.dfl]; rfl
  rw [e] at F
  exact F.bindsN ok.bind
theorem fn_of_fd {fd : FD} (ok : FDok T fd) {f : Addr} {fu : FuncData} (F : FunD K fd.d.name fd.d.qual fd.d.params fd.d.body fd.d.scope (fd.d.dvs K) (fd.d.kws K) f fu) {G : FEnv} {CA : Tags} {XR : XRel} {k : Nat} (gl : GlobOk T G CA XR P w K mg base k) :
    FnOk1 P w K mg base (k + 1) f fu fd.ps (spOf K CA XR (mkFn fd.N.length fd.ps.length (fd.sm G)) fd.ps.length) := by
  obtain ⟨oc, od, dV, kV, doc, pm, an, cdv, ct, osl, rfl, lk, hcd, _, _⟩ := F.ex
  exact fn1 lk hcd ok.scope gl fun X W C => ok.body G CA XR k X W C
theorem glob_all (ok : TabOk T fds fa ts) (X : K.In h) (Gm : h.Ns mainGlobals mg) (c : He.SaysD fa (fds.map (·.2.d)) K) (ex : exAll T ts K = true) : ∀ k, GlobOk T (Gam fds k) (CAof K []) (XRof K ts) P w K mg base k := by
  obtain ⟨ex1, ex2⟩ := Bool.and_eq_true_iff.mp ex
  obtain ⟨x1, x2⟩ := Bool.and_eq_true_iff.mp ex1
  obtain ⟨x3, x4⟩ := Bool.and_eq_true_iff.mp x2
  have own : ∀ t, ts.contains t = true → mg (Str.ofString t) = some (.ref (He.ga K (Str.ofString t))) := fun t ht => fa_glo c X Gm (List.all_eq_true.mp ok.exg t (by simpa using ht))
  have frees : ∀ x ∈ T.free, mg x = none := fun x hx => fa_free c X Gm (List.all_eq_true.mp ok.free x hx)
  have bas : ∀ t, t ∈ ts → PySem.W.excIn K (He.ga K (Str.ofString t)) He.veBase "ValueError.__new__" = true ∧ PySem.W.keepIn K (.ref (He.ga K (Str.ofString t))) = true ∧ PySem.W.subIn K (.ref (He.ga K (Str.ofString t))) (.type "BaseException") = some true ∧
      PySem.W.typeIn K (.ref (He.ga K (Str.ofString t))) = some (.type "type") ∧ ExcC K (He.ga K (Str.ofString t)) := fun t ht => by
    obtain ⟨z1, z2⟩ := Bool.and_eq_true_iff.mp (List.all_eq_true.mp x1 t ht)
    obtain ⟨h1, h2, h3, h4⟩ := He.exc_ok z1
    exact ⟨h1, h2, h3, h4, excCB_ok z2⟩
  have rest : ∀ k G, (∀ x i n, (x, i, n) ∈ T.fns → ∃ f fd ps, mg x = some (.ref f) ∧ PySem.W.keepIn K (.ref f) = true ∧ Binds K fd ps [] ∧ FnOk1 P w K mg base k f fd ps (spOf K (CAof K []) (XRof K ts) (G i) n)) → GlobOk T G (CAof K []) (XRof K ts) P w K mg base k := by
    intro k G hf
    refine ⟨hf, fun x t f n hm => ?_, fun t x i n hm => ?_, fun t C C' hC => ?_, fun x s t C hm => ?_, fun x d hm => const_ok X Gm (List.all_eq_true.mp ex2 (x, d) hm), fun x t hm => ?_, frees, fun x t hm => ?_, fun x t hm => ?_⟩
    · rw [ok.cls] at hm; cases hm
    · rw [ok.mts] at hm; cases hm
    · exact absurd hC.1 (by simp)
    · rw [ok.ats] at hm; cases hm
    · obtain ⟨z1, z2⟩ := Bool.and_eq_true_iff.mp (List.all_eq_true.mp ok.excs (x, t) hm)
      have e : x = Str.ofString t := of_decide_eq_true z1
      have ht : t ∈ ts := by simpa using z2
      obtain ⟨h1, h2, h3, h4, _⟩ := bas t ht
      subst e
      exact ⟨_, He.veBase, "ValueError.__new__", "ValueError.__init__", "ValueError", own t z2, PySem.F.excBase_ValueError, h1, h2, h3, h4, fun H => ⟨rfl, rfl, ht, rfl⟩⟩
    · obtain ⟨z1, z2⟩ := Bool.and_eq_true_iff.mp (List.all_eq_true.mp ok.isN (x, t) hm)
      have e : x = Str.ofString t := of_decide_eq_true z1
      have key : ∀ y cl d H, XRof K ts y cl d H → d = none ∧ ∃ C, cl = .ref C ∧ ExcC K C ∧ PySem.W.kitOne K (.ref C) (uvOf K ts t) = some (excSub y.cls t) := by
        rintro y cl d H ⟨_, h2, h3, rfl⟩
        exact ⟨h2, _, rfl, (bas y.cls h3).2.2.2.2, of_decide_eq_true (List.all_eq_true.mp (List.all_eq_true.mp x3 (x, t) hm) y.cls h3)⟩
      cases hc : ts.contains t with
      | true =>
        have eu : uvOf K ts t = .ref (He.ga K (Str.ofString t)) := by unfold uvOf; rw [if_pos hc]
        refine ⟨.ref (He.ga K (Str.ofString t)), uvOf K ts t, .inl (by rw [e, eu]; exact own t hc), by rw [eu]; rfl, fun w hw => by rw [eu]; exact hw, key⟩
      | false =>
        have eu : uvOf K ts t = .type t := by unfold uvOf; rw [if_neg (by rw [hc]; decide)]
        rw [hc, Bool.false_or] at z2
        obtain ⟨z3, z4⟩ := Bool.and_eq_true_iff.mp z2
        refine ⟨.ty t, uvOf K ts t, .inr ⟨frees x (by simpa using z4), by rw [eu]; exact of_decide_eq_true z3⟩, by rw [eu]; rfl, fun w hw => by rw [eu]; exact hw, key⟩
    · obtain ⟨z1, z2⟩ := Bool.and_eq_true_iff.mp (List.all_eq_true.mp ok.msN (x, t) hm)
      have e : x = Str.ofString t := of_decide_eq_true z1
      have eu : uvOf K ts t = .ref (He.ga K (Str.ofString t)) := by unfold uvOf; rw [if_pos z2]
      refine ⟨uvOf K ts t, .inl (by rw [e, eu]; exact own t z2), ?_⟩
      rintro y cl d H ⟨_, h2, h3, rfl⟩
      exact of_decide_eq_true (List.all_eq_true.mp (List.all_eq_true.mp x4 (x, t) hm) y.cls h3)
  have get : ∀ (x : Str) (i n : Nat), (x, i, n) ∈ T.fns → ∃ fd, fds.lookup i = some fd ∧ fd.d.at_ = (x, none) ∧ fd.ps.length = n := fun x i n hm => by
    have z := List.all_eq_true.mp ok.fns (x, i, n) hm
    dsimp only at z
    cases e : fds.lookup i with
    | none => rw [e] at z; cases z
    | some fd =>
      rw [e] at z
      obtain ⟨z1, z2⟩ := Bool.and_eq_true_iff.mp z
      exact ⟨fd, rfl, of_decide_eq_true z1, by simpa using z2⟩
  have fun_ : ∀ (x : Str) (i n : Nat), (x, i, n) ∈ T.fns → ∃ fd fu, fds.lookup i = some fd ∧ fd.ps.length = n ∧ FDok T fd ∧ mg x = some (.ref (He.ga K x)) ∧ FunD K fd.d.name fd.d.qual fd.d.params fd.d.body fd.d.scope (fd.d.dvs K) (fd.d.kws K) (He.ga K x) fu := fun x i n hm => by
    obtain ⟨fd, e1, e2, e3⟩ := get x i n hm
    obtain ⟨j, hj⟩ := List.mem_iff_getElem?.mp (lookup_in e1)
    obtain ⟨fu, F⟩ := c.def_ j (d := fd.d) (by rw [List.getElem?_map, hj]; rfl)
    have e4 : He.fAd K fd.d.at_ = He.ga K x := by rw [e2]; rfl
    rw [e4] at F
    exact ⟨fd, fu, e1, e3, ok.ok (i, fd) (lookup_in e1), fa_glo c X Gm (List.all_eq_true.mp ok.glo (x, i, n) hm), F⟩
  intro k
  induction k with
  | zero =>
    refine rest 0 _ fun x i n hm => ?_
    obtain ⟨fd, fu, e1, e3, fok, hmg, F⟩ := fun_ x i n hm
    refine ⟨_, fu, fd.ps, hmg, F.kp, Binds.of fok F, ⟨fun vs H Q E z => z.1.trans e3.symm, ?_⟩⟩
    rintro A outer s H args us vs Q E _ _ _ _ ⟨_, m, st, as, _, _, q⟩
    exact (show False from q).elim
  | succ k ih =>
    refine rest (k + 1) _ fun x i n hm => ?_
    obtain ⟨fd, fu, e1, e3, fok, hmg, F⟩ := fun_ x i n hm
    refine ⟨_, fu, fd.ps, hmg, F.kp, Binds.of fok F, ?_⟩
    have z := fn_of_fd (P := P) (w := w) (mg := mg) (base := base) fok F ih
    have eG : Gam fds (k + 1) i = mkFn fd.N.length fd.ps.length (fd.sm (Gam fds k)) := by
      show (match fds.lookup i with
        | some fd => mkFn fd.N.length fd.ps.length (fd.sm (Gam fds k))
        | none => fun _ => bad) = _
      rw [e1]
    rw [eG, ← e3]
    exact z
end
end Fl
set_option Elab.async false
set_option linter.all false
set_option maxRecDepth 100000
set_option maxHeartbeats 4000000
/-! Fl over the layer: a law's end. -/
namespace Fl
open PySem PySem.Spec L2 PyProof.Rows

theorem caller1 {k : Nat} (h : k ≤ 600) : Room1 k callerA := ⟨rfl, by
  have h1 : callerA.depth = 301 := by kernel_rfl
  have h2 : recursionLimit = 1000 := by kernel_rfl
  rw [h1, h2]; omega, by
  have h1 : callerA.units = 4 := by kernel_rfl
  have h2 : cLine = 9900 := by kernel_rfl
  rw [h1, h2]; omega, by kernel_rfl⟩
/-- the promise of the law's def, at the heap behind the top -/
theorem law1 {P : Program} {w : World} {K : PySem.W.Frag} {mg mb : Str → Option Value} {k : Nat} {fa a : Addr} {fd : FuncData} {x : Str} {sp : Sp} {s1 : Shared} {vs : List Value} {ns : List Int}
    (KX : K.In s1.heap) (h1 : s1.heap.Ns mainGlobals mg) (h2 : s1.heap.Ns builtinsNs mb) (h3 : ∀ x : Str, x ≠ "__name__" → mb x = bootBuiltins x) (h4 : s1.heap.NoLimit) (h5 : s1.gens = #[])
    (h6 : s1.heap.get? a = some { cls := .type "list", data := .seq vs.toArray }) (h7 : IntsAre vs ns) (h8 : ns.length ≤ sizeLine) (hr : Room1 k callerA)
    (F : ∀ base : Heap, K.In base → base.Ns mainGlobals mg → FnOk1 P w K mg base k fa fd [x] sp) (hb : ∀ (s : Shared) (u : Value), BindsTo s fd ⟨[u], []⟩ [(x, u)])
    (hs : ∀ H : Hp, Only H → SqL K H a (ns.map V.int) → sp [.ref a] H (fun v _ => v = .bl true) fun _ _ _ => False) :
    codeAny (model P w) callerA (.call (.ref fa) ⟨[.ref a], []⟩) (fun r s' => r = .ok (.ret (.bool true)) ∧ OldK s1.heap s'.heap ∧ s'.os = s1.os ∧ AllBare s'.gens) s1 := by
  have rv := vals_ints h7
  have hlen := h7.length
  have go : ∀ H : Hp, Only H → SqL K H a (ns.map V.int) → HOk P w H s1.heap → (∀ b, H b ≠ none → b = a ∧ K.lookup a = none) →
      codeAny (model P w) callerA (.call (.ref fa) ⟨[.ref a], []⟩) (fun r s' => r = .ok (.ret (.bool true)) ∧ OldK s1.heap s'.heap ∧ s'.os = s1.os ∧ AllBare s'.gens) s1 := by
    intro H hO hS hok hA
    have free : ∀ {b : Addr}, (b = a → K.lookup a = none → False) → H b = none := fun {b} hne => by
      cases q : H b with
      | none => rfl
      | some u =>
        obtain ⟨e1, e2⟩ := hA b (by rw [q]; simp)
        exact (hne e1 e2).elim
    have nsK : ∀ {b : Addr} {m : Str → Option Value}, s1.heap.Ns b m → (hidT s1.heap H).Ns b m := by
      rintro b m ⟨o, es, ep, e, d, r⟩
      refine ⟨o, es, ep, hidT_get e (free fun hba _ => ?_), d, r⟩
      subst hba
      rw [h6] at e
      cases e
      have d' : Data.seq vs.toArray _ = Data.dict es ep := d
      cases d'
    have hKb : K.In (hidT s1.heap H) := fun b o e => hidT_get (KX b o e) (free fun hba hn => by
      subst hba
      rw [hn] at e; cases e)
    obtain ⟨mc, l1, l2⟩ := h4
    have e0 : Env0 P w K mg (hidT s1.heap H) callerA [] s1 H :=
      ⟨rfl, ⟨hKb, nsK h1, ⟨mb, nsK h2, h3⟩, mc, nsK l1, l2⟩, fun b o e => of_hidT e, Nat.le_of_eq (hidT_size _ _), trivial, fun b z => absurd (show b ∈ ([] : List Addr) from z) (by simp), hok, .of_eq h5⟩
    refine codeAny_mono ((F _ hKb (nsK h1)).run callerA [] s1 H ⟨[.ref a], []⟩ [.ref a] [.ref a] _ _ hr e0 (hb s1 (.ref a)) (.cons rfl .nil) (hs H hO hS)) fun r s' q => ?_
    cases r with
    | error e =>
      obtain ⟨_, _, _, _, _, _, _, _, _, _, _, _, z⟩ := q
      exact z.elim
    | ok fl =>
      cases fl with
      | next => exact (show False from q).elim
      | brk => exact (show False from q).elim
      | cont => exact (show False from q).elim
      | ret u =>
        obtain ⟨v, H', os, bare, un, hok', r', qv⟩ := q
        have qv : v = .bl true := qv
        subst qv
        obtain rfl : u = Value.bool true := r'
        refine ⟨rfl, OldK.of_keep fun b o e => ?_, os, bare⟩
        rcases hO b with z | ⟨ob, xs, z⟩
        · exact un.keep b o e z (fun y => absurd (show b ∈ ([] : List Addr) from y) (by simp)) (by simp)
        · obtain ⟨e1, _⟩ := hok b _ z
          obtain ⟨e2, _⟩ := hok' b _ (un.frzs b ob _ z)
          rw [e] at e1
          cases e1
          exact e2
  cases hk : K.lookup a with
  | some o =>
    have e := KX a o hk
    rw [h6] at e
    cases e
    have sq : SqL K (fun _ => none) a (ns.map V.int) := .inr ⟨_, vs.toArray, _, hk, rfl, rfl, rfl, by rw [List.size_toArray, hlen]; exact h8, by simpa using rv⟩
    exact go (fun _ => none) (fun _ => .inl rfl) sq (fun b u z => by cases z) fun b z => absurd rfl z
  | none =>
    have at_ : ∀ {b : Addr} {u : HO}, (if b = a then some (HO.frz { cls := .type "list", data := .seq vs.toArray } (.lst (ns.map V.int))) else none) = some u → b = a ∧ u = .frz { cls := .type "list", data := .seq vs.toArray } (.lst (ns.map V.int)) := fun {b u} z => by
      by_cases hb : b = a
      · rw [if_pos hb] at z
        exact ⟨hb, (Option.some.inj z).symm⟩
      · rw [if_neg hb] at z; cases z
    refine go (fun b => if b = a then some (.frz { cls := .type "list", data := .seq vs.toArray } (.lst (ns.map V.int))) else none) (fun b => ?_) (.inl (.inr ⟨_, if_pos rfl⟩)) (fun b u z => ?_) fun b z => ⟨?_, hk⟩
    · by_cases hb : b = a
      · exact .inr ⟨_, _, if_pos hb⟩
      · exact .inl (if_neg hb)
    · obtain ⟨rfl, rfl⟩ := at_ z
      exact ⟨h6, by rw [List.length_map]; exact h8, vs, _, rv, h6⟩
    · by_cases hb : b = a
      · exact hb
      · exact absurd (if_neg hb) z
/-- what the mirror of the law must say -/
theorem law_sp {K : PySem.W.Frag} {CA : Tags} {XR : XRel} {F : List Val → M Val} {H : Hp} {a : Addr} {ns : List Int} (hl : ns.length ≤ L) (hO : Only H) (hS : SqL K H a (ns.map V.int)) (h : ∃ s, F [.scr ns] [] = .ok (vB true) s) :
    spOf K CA XR F 1 [.ref a] H (fun v _ => v = .bl true) fun _ _ _ => False := by
  obtain ⟨s, h⟩ := h
  refine ⟨rfl, fun _ => 0, [], [.scr ns], ⟨fun n c e => by simp [Store.cell] at e, fun n n' c c' e => by simp [Store.cell] at e⟩, ⟨.ref a, [], rfl, ⟨hl, a, rfl, ?_⟩, rfl⟩, ?_⟩
  · rcases hO a with z | ⟨o, xs, z⟩
    · refine .inr fun H1 => ?_
      rcases hS with (q | ⟨_, q⟩) | q
      · rw [z] at q; cases q
      · rw [z] at q; cases q
      · exact .inr q
    · exact .inl ⟨by rw [z]; simp, fun ⟨n, c, e, _⟩ => by simp [Store.cell] at e, hS⟩
  · rw [h]
    intro m' H' _ _ v r
    exact r
section
variable {T : Tab} {fds : List (Nat × FD)} {fa : List He.Fa} {ts : List String}
/-- a law over a head by facts -/
theorem law_end {l : PySem.W.OpenLaw} {q : Program} {loose : List Str} {XP : (Str → Option Value) → Heap → Prop} {d : DefRec} {nh : Nat} {x : Str} (hn : l.most = some 63) (hdf : d.params.defaults = []) (ok : TabOk T fds fa ts)
    (i k : Nat) (hk : k + 1 ≤ 600) (hi : (d.name, i, 1) ∈ T.fns) (hx : ∀ (fd : FD), fds.lookup i = some fd → fd.ps = [x]) (plain : ∀ ns : List Int, ns.length ≤ 63 → ∃ s, Gam fds (k + 1) i [.scr ns] [] = .ok (vB true) s) :
    PySem.W.WalkO q loose XP (hkF nh fa (fds.map (·.2.d)) (exAll T ts)).says l.row.toRowW d [] (fun f vs => PySem.call f vs) := by
  refine Att.attach_call hn hdf fun w s0 s1 mg mb f o pm cd doc a vs ns G Y ho hd hcd hmg hobj hints hlen hg => ?_
  obtain ⟨K, KX, c, ex⟩ := Y
  have gl := fun (base : Heap) => glob_all (P := l.prog) (w := w) (base := base) ok KX G.T.g c ex (k + 1)
  obtain ⟨f1, fu, ps, e1, e2, e3, e4⟩ := (gl s1.heap).fns d.name i 1 hi
  have ef : f1 = f := by
    rw [hmg] at e1
    injection e1 with e1
    injection e1 with e1
    exact e1.symm
  subst ef
  -- its parameter
  have z := List.all_eq_true.mp ok.fns (d.name, i, 1) hi
  dsimp only at z
  cases e : fds.lookup i with
  | none => rw [e] at z; cases z
  | some fd =>
    rw [e] at z
    obtain ⟨z1, z2⟩ := Bool.and_eq_true_iff.mp z
    have z1 : fd.d.at_ = (d.name, none) := of_decide_eq_true z1
    obtain ⟨j, hj⟩ := List.mem_iff_getElem?.mp (lookup_in e)
    obtain ⟨fu, F⟩ := c.def_ j (d := fd.d) (by rw [List.getElem?_map, hj]; rfl)
    have e5 : He.fAd K fd.d.at_ = He.ga K d.name := by rw [z1]; rfl
    rw [e5] at F
    have hgl := fa_glo c KX G.T.g (List.all_eq_true.mp ok.glo (d.name, i, 1) hi)
    have ef : He.ga K d.name = f1 := by
      rw [hmg] at hgl
      injection hgl with hgl
      injection hgl with hgl
      exact hgl.symm
    rw [ef] at F
    have fok := ok.ok (i, fd) (lookup_in e)
    have hp := hx fd e
    have bd : Binds K fu fd.ps [] := Binds.of fok F
    have eG : ∀ k, Gam fds (k + 1) i = mkFn fd.N.length fd.ps.length (fd.sm (Gam fds k)) := fun k => by
      show (match fds.lookup i with
        | some fd => mkFn fd.N.length fd.ps.length (fd.sm (Gam fds k))
        | none => fun _ => bad) = _
      rw [e]
    refine law1 (x := x) KX G.T.g G.T.b G.T.builtins G.T.nolimit hg hobj hints (Nat.le_trans hlen (by rw [sizeLine_eq]; decide)) (caller1 hk) (fd := fu) (fun base hb1 hb2 => ?_) (fun s u => ?_) fun H hO hS => law_sp (XR := XRof K ts) (CA := CAof K []) (Nat.le_trans hlen (by decide)) hO hS (plain ns hlen)
    · have gk := glob_all (P := l.prog) (w := w) (base := base) ok KX G.T.g c ex k
      have r := fn_of_fd (P := l.prog) (w := w) (mg := mg) (base := base) fok F gk
      rw [← eG k, hp] at r
      exact r
    · have ed : fd.d.dvs K = [] := by unfold He.DefD.dvs; rw [fok.dfl]; rfl
      rw [ed] at F
      have r := F.bindsA (ps := fd.ps) fok.bind s [u] (by rw [hp]; rfl)
      rw [hp] at r
      exact r
end
end Fl
set_option Elab.async false
set_option linter.all false
set_option maxRecDepth 100000
/-! Fl: how the mirrors run, in plain Lean. -/
namespace Fl
/-! ### one step -/
@[simp] theorem p_bind {α β : Type} (m : M α) (k : α → M β) (s : Store) : (m >>= k) s = (m s).bind k := rfl
@[simp] theorem p_pure {α : Type} (a : α) (s : Store) : (pure a : M α) s = .ok a s := rfl
@[simp] theorem p_ok {α β : Type} (a : α) (s : Store) (k : α → M β) : (R.ok a s).bind k = k a s := rfl
@[simp] theorem p_exc {α β : Type} (x : Exc) (s : Store) (k : α → M β) : (R.exc x s : R α).bind k = .exc x s := rfl
@[simp] theorem p_bad {α β : Type} (k : α → M β) : (R.bad : R α).bind k = .bad := rfl
@[simp] theorem p_badM {α : Type} (s : Store) : (bad : M α) s = .bad := rfl
@[simp] theorem p_sok {α : Type} (a : α) (s : Store) (ρ : Env) (k : α → Store → SO) : (R.ok a s).so ρ k = k a s := rfl
@[simp] theorem p_sexc {α : Type} (x : Exc) (s : Store) (ρ : Env) (k : α → Store → SO) : (R.exc x s : R α).so ρ k = .ex x ρ s := rfl
@[simp] theorem p_eC (d : T) (ρ : Env) (s : Store) : eC d ρ s = .ok (.t d) s := rfl
theorem p_eVar {i : Nat} {ρ : Env} {v : Val} {s : Store} (h : ρ[i]? = some (some v)) : eVar i ρ s = .ok v s := by unfold eVar; rw [h]
@[simp] theorem p_var0 (v : Val) (r : Env) (s : Store) : eVar 0 (some v :: r) s = .ok v s := rfl
@[simp] theorem p_var1 (x0 : Option Val) (v : Val) (r : Env) (s : Store) : eVar 1 (x0 :: some v :: r) s = .ok v s := rfl
@[simp] theorem p_var2 (x0 x1 : Option Val) (v : Val) (r : Env) (s : Store) : eVar 2 (x0 :: x1 :: some v :: r) s = .ok v s := rfl
@[simp] theorem p_var3 (x0 x1 x2 : Option Val) (v : Val) (r : Env) (s : Store) : eVar 3 (x0 :: x1 :: x2 :: some v :: r) s = .ok v s := rfl
@[simp] theorem p_var4 (x0 x1 x2 x3 : Option Val) (v : Val) (r : Env) (s : Store) : eVar 4 (x0 :: x1 :: x2 :: x3 :: some v :: r) s = .ok v s := rfl
@[simp] theorem p_var5 (x0 x1 x2 x3 x4 : Option Val) (v : Val) (r : Env) (s : Store) : eVar 5 (x0 :: x1 :: x2 :: x3 :: x4 :: some v :: r) s = .ok v s := rfl
@[simp] theorem p_var6 (x0 x1 x2 x3 x4 x5 : Option Val) (v : Val) (r : Env) (s : Store) : eVar 6 (x0 :: x1 :: x2 :: x3 :: x4 :: x5 :: some v :: r) s = .ok v s := rfl
@[simp] theorem p_var7 (x0 x1 x2 x3 x4 x5 x6 : Option Val) (v : Val) (r : Env) (s : Store) : eVar 7 (x0 :: x1 :: x2 :: x3 :: x4 :: x5 :: x6 :: some v :: r) s = .ok v s := rfl
@[simp] theorem p_var8 (x0 x1 x2 x3 x4 x5 x6 x7 : Option Val) (v : Val) (r : Env) (s : Store) : eVar 8 (x0 :: x1 :: x2 :: x3 :: x4 :: x5 :: x6 :: x7 :: some v :: r) s = .ok v s := rfl
@[simp] theorem p_var9 (x0 x1 x2 x3 x4 x5 x6 x7 x8 : Option Val) (v : Val) (r : Env) (s : Store) : eVar 9 (x0 :: x1 :: x2 :: x3 :: x4 :: x5 :: x6 :: x7 :: x8 :: some v :: r) s = .ok v s := rfl
@[simp] theorem p_e1 (k : Val → M Val) (a : CE) (ρ : Env) (s : Store) : e1 k a ρ s = (a ρ s).bind k := rfl
@[simp] theorem p_e2 (k : Val → Val → M Val) (a b : CE) (ρ : Env) (s : Store) : e2 k a b ρ s = (a ρ s).bind fun x s => (b ρ s).bind fun y s => k x y s := rfl
@[simp] theorem p_e2c (c : Val → M Unit) (k : Val → Val → M Val) (a b : CE) (ρ : Env) (s : Store) : e2c c k a b ρ s = (a ρ s).bind fun x s => (c x s).bind fun _ s => (b ρ s).bind fun y s => k x y s := rfl
@[simp] theorem p_vals0 (ρ : Env) (s : Store) : eVals [] ρ s = .ok [] s := rfl
@[simp] theorem p_vals (a : CE) (r : List CE) (ρ : Env) (s : Store) : eVals (a :: r) ρ s = (a ρ s).bind fun x s => (eVals r ρ s).bind fun xs s => .ok (x :: xs) s := rfl
@[simp] theorem p_tup (c : Bool) (as : List CE) (ρ : Env) (s : Store) : eTup c as ρ s = (eVals as ρ s).bind (newT c) := rfl
@[simp] theorem p_lst (c : Bool) (as : List CE) (ρ : Env) (s : Store) : eLst c as ρ s = (eVals as ρ s).bind (newL c) := rfl
@[simp] theorem p_prs0 (ρ : Env) (s : Store) : ePairs [] ρ s = .ok [] s := rfl
@[simp] theorem p_prs (a b : CE) (r : List (CE × CE)) (ρ : Env) (s : Store) : ePairs ((a, b) :: r) ρ s = (a ρ s).bind fun x s => (b ρ s).bind fun y s => (ePairs r ρ s).bind fun ps s => (match keyOf x with
    | some k => pure ((k, y) :: ps)
    | none => bad : M _) s := rfl
@[simp] theorem p_dct (c : Bool) (as : List (CE × CE)) (ρ : Env) (s : Store) : eDct c as ρ s = (ePairs as ρ s).bind fun kvs => newD c (dmerge [] kvs) := rfl
@[simp] theorem p_eB (t : CT) (ρ : Env) (s : Store) : eB t ρ s = (t ρ s).bind fun b s => .ok (vB b) s := rfl
@[simp] theorem p_t2 (k : Val → Val → M Bool) (a b : CE) (ρ : Env) (s : Store) : t2 k a b ρ s = (a ρ s).bind fun x s => (b ρ s).bind fun y s => k x y s := rfl
@[simp] theorem p_tEq (a b : CE) (ρ : Env) (s : Store) : tEq a b ρ s = (a ρ s).bind fun x s => (b ρ s).bind fun y s => eqV x y s := rfl
@[simp] theorem p_tNe (a b : CE) (ρ : Env) (s : Store) : tNe a b ρ s = (a ρ s).bind fun x s => (b ρ s).bind fun y s => (eqV x y s).bind fun b s => .ok (!b) s := rfl
@[simp] theorem p_tLt (a b : CE) (ρ : Env) (s : Store) : tLt a b ρ s = (a ρ s).bind fun x s => (b ρ s).bind fun y s => ltV (fun i j => decide (i < j)) x y s := rfl
@[simp] theorem p_tLe (a b : CE) (ρ : Env) (s : Store) : tLe a b ρ s = (a ρ s).bind fun x s => (b ρ s).bind fun y s => ltV (fun i j => decide (i ≤ j)) x y s := rfl
@[simp] theorem p_tGt (a b : CE) (ρ : Env) (s : Store) : tGt a b ρ s = (a ρ s).bind fun x s => (b ρ s).bind fun y s => ltV (fun i j => decide (j < i)) x y s := rfl
@[simp] theorem p_tGe (a b : CE) (ρ : Env) (s : Store) : tGe a b ρ s = (a ρ s).bind fun x s => (b ρ s).bind fun y s => ltV (fun i j => decide (j ≤ i)) x y s := rfl
@[simp] theorem p_tIn (a b : CE) (ρ : Env) (s : Store) : tIn a b ρ s = (a ρ s).bind fun x s => (b ρ s).bind fun y s => inV x y s := rfl
@[simp] theorem p_tNotIn (a b : CE) (ρ : Env) (s : Store) : tNotIn a b ρ s = (a ρ s).bind fun x s => (b ρ s).bind fun y s => (inV x y s).bind fun b s => .ok (!b) s := rfl
@[simp] theorem p_tIsi (c : String) (a : CE) (ρ : Env) (s : Store) : tIsi c a ρ s = (a ρ s).bind (isiV c) := rfl
@[simp] theorem p_tIsE (c : String) (a : CE) (ρ : Env) (s : Store) : tIsE c a ρ s = (a ρ s).bind (isiE c) := rfl
@[simp] theorem p_tAnd (a b : CT) (ρ : Env) (s : Store) : tAnd a b ρ s = (a ρ s).bind fun x s => if x then b ρ s else .ok false s := by
  show ((a ρ s).bind fun x => if x then b ρ else pure false) = _
  congr 1
  funext x t
  cases x <;> rfl
@[simp] theorem p_tOr (a b : CT) (ρ : Env) (s : Store) : tOr a b ρ s = (a ρ s).bind fun x s => if x then .ok true s else b ρ s := by
  show ((a ρ s).bind fun x => if x then pure true else b ρ) = _
  congr 1
  funext x t
  cases x <;> rfl
@[simp] theorem p_tNot (a : CT) (ρ : Env) (s : Store) : tNot a ρ s = (a ρ s).bind fun x s => .ok (!x) s := rfl
@[simp] theorem p_eIf (c : CT) (a b : CE) (ρ : Env) (s : Store) : eIf c a b ρ s = (c ρ s).bind fun x s => if x then a ρ s else b ρ s := by
  show ((c ρ s).bind fun x => if x then a ρ else b ρ) = _
  congr 1
  funext x t
  cases x <;> rfl
@[simp] theorem p_eAnd (a b : CE) (ρ : Env) (s : Store) : eAnd a b ρ s = (a ρ s).bind fun x s => (getB x s).bind fun c s => if c then b ρ s else .ok (vB false) s := by
  show ((a ρ s).bind fun x => getB x >>= fun c => if c then b ρ else pure (vB false)) = _
  congr 1
  funext x t
  show (getB x t).bind _ = _
  congr 1
  funext c u
  cases c <;> rfl
@[simp] theorem p_eOr (a b : CE) (ρ : Env) (s : Store) : eOr a b ρ s = (a ρ s).bind fun x s => (getB x s).bind fun c s => if c then .ok (vB true) s else b ρ s := by
  show ((a ρ s).bind fun x => getB x >>= fun c => if c then pure (vB true) else b ρ) = _
  congr 1
  funext x t
  show (getB x t).bind _ = _
  congr 1
  funext c u
  cases c <;> rfl
@[simp] theorem p_eNot (a : CE) (ρ : Env) (s : Store) : eNot a ρ s = (a ρ s).bind fun x s => (getB x s).bind fun c s => .ok (vB !c) s := rfl
@[simp] theorem p_call (G : FEnv) (f : Nat) (as : List CE) (ρ : Env) (s : Store) : eCall G f as ρ s = (eVals as ρ s).bind (G f) := rfl
@[simp] theorem p_iV (a : CE) (ρ : Env) (s : Store) : iV a ρ s = (a ρ s).bind iterOf := rfl
@[simp] theorem p_tTruth (a : CE) (ρ : Env) (s : Store) : tTruth a ρ s = (a ρ s).bind truthV := rfl
/-! values -/
@[simp] theorem p_getB (b : Bool) (s : Store) : getB (vB b) s = .ok b s := rfl
@[simp] theorem p_getB' (b : Bool) (s : Store) : getB (.t (.bl b)) s = .ok b s := rfl
@[simp] theorem p_getI (b : Int) (s : Store) : getInt (.t (.int b)) s = .ok b s := rfl
@[simp] theorem p_vI (i : Int) : vI i = .t (.int i) := rfl
@[simp] theorem p_vB (i : Bool) : vB i = .t (.bl i) := rfl
@[simp] theorem p_vS (i : String) : vS i = .t (.str i) := rfl
@[simp] theorem p_add (c : Bool) (i j : Int) (s : Store) : addV c (.t (.int i)) (.t (.int j)) s = .ok (.t (.int (i + j))) s := rfl
@[simp] theorem p_sub (i j : Int) (s : Store) : subV (.t (.int i)) (.t (.int j)) s = .ok (.t (.int (i - j))) s := rfl
theorem p_mul (c : Bool) {i j : Int} (h : mulOk i j = true) (s : Store) : mulV c (.t (.int i)) (.t (.int j)) s = .ok (.t (.int (i * j))) s := by
  show (if mulOk i j = true then _ else _) = _
  rw [if_pos h]
  rfl
theorem p_fdiv {i j : Int} (h : fdivOk i j = true) (s : Store) : fdivV (.t (.int i)) (.t (.int j)) s = .ok (.t (.int (i.fdiv j))) s := by
  show (if fdivOk i j = true then _ else _) = _
  rw [if_pos h]
  rfl
theorem p_mod {i j : Int} (h : j ≠ 0) (s : Store) : modV (.t (.int i)) (.t (.int j)) s = .ok (.t (.int (i.fmod j))) s := by
  show (if j ≠ 0 then _ else _) = _
  rw [if_pos h]
  rfl
@[simp] theorem p_neg (i : Int) (s : Store) : negV (.t (.int i)) s = .ok (.t (.int (-i))) s := rfl
@[simp] theorem p_lt (f : Int → Int → Bool) (i j : Int) (s : Store) : ltV f (.t (.int i)) (.t (.int j)) s = .ok (f i j) s := rfl
@[simp] theorem p_intV (i : Int) (s : Store) : intV (.t (.int i)) s = .ok (.t (.int i)) s := rfl
@[simp] theorem p_intB (i : Bool) (s : Store) : intV (.t (.bl i)) s = .ok (.t (.int (if i then 1 else 0))) s := rfl
@[simp] theorem p_absV (i : Int) (s : Store) : absV (.t (.int i)) s = .ok (.t (.int (if i < 0 then -i else i))) s := rfl
@[simp] theorem p_max2 (i j : Int) (s : Store) : max2 (.t (.int i)) (.t (.int j)) s = .ok (.t (.int (if j > i then j else i))) s := rfl
@[simp] theorem p_min2 (i j : Int) (s : Store) : min2 (.t (.int i)) (.t (.int j)) s = .ok (.t (.int (if j < i then j else i))) s := rfl
@[simp] theorem p_eqI (i j : Int) (s : Store) : eqV (.t (.int i)) (.t (.int j)) s = .ok (i == j) s := by
  show (match T.eq? (.int i) (.int j) with | some r => R.ok r s | none => .bad) = _
  have : T.eq? (.int i) (.int j) = some (i == j) := by
    show (if T.plain 60 (.int i) && T.plain 60 (.int j) then some (T.eqv (.int i) (.int j)) else none) = _
    rw [T.eqv]; rfl
  rw [this]
@[simp] theorem p_eqS (i j : String) (s : Store) : eqV (.t (.str i)) (.t (.str j)) s = .ok (i == j) s := by
  show (match T.eq? (.str i) (.str j) with | some r => R.ok r s | none => .bad) = _
  have : T.eq? (.str i) (.str j) = some (i == j) := by
    show (if T.plain 60 (.str i) && T.plain 60 (.str j) then some (T.eqv (.str i) (.str j)) else none) = _
    rw [T.eqv]; rfl
  rw [this]
@[simp] theorem p_newL (vs : List Val) (s : Store) : newL true vs s = .ok (.loc s.length) (s ++ [some (.lst vs)]) := rfl
theorem p_newLf {vs : List Val} {ts : List T} (h : trees vs = some ts) (s : Store) : newL false vs s = .ok (.t (.lst ts)) s := by
  show (match trees vs with | some ts => R.ok (Val.t (.lst ts)) s | none => .bad) = _
  rw [h]
theorem p_newTf {vs : List Val} {ts : List T} (h : trees vs = some ts) (s : Store) : newT false vs s = .ok (.t (.tup ts)) s := by
  show (match trees vs with | some ts => R.ok (Val.t (.tup ts)) s | none => .bad) = _
  rw [h]
@[simp] theorem p_trees0 : trees [] = some [] := rfl
theorem p_trees1 {d : T} {r : List Val} {q : List T} (h : trees r = some q) : trees (.t d :: r) = some (d :: q) := by
  show (match trees r with | some q => some (d :: q) | none => none) = _
  rw [h]
/-! statements -/
theorem p_seq {a b : SM} {ρ ρ' : Env} {s s' : Store} (h : a ρ s = .nx ρ' s') : sSeq a b ρ s = b ρ' s' := by unfold sSeq; rw [h]
@[simp] theorem p_seq' (a b : SM) (ρ : Env) (s : Store) : sSeq a b ρ s = (match a ρ s with
  | .nx ρ' s' => b ρ' s'
  | o => o) := rfl
@[simp] theorem p_nil (ρ : Env) (s : Store) : sNil ρ s = .nx ρ s := rfl
@[simp] theorem p_brk (ρ : Env) (s : Store) : sBreak ρ s = .bk ρ s := rfl
@[simp] theorem p_asgV (e : CE) (i : Nat) (ρ : Env) (s : Store) : sAsg e (gVar i) ρ s = (e ρ s).so ρ fun v s => .nx (ρ.set i (some v)) s := rfl
@[simp] theorem p_asgT (e : CE) (is : List Nat) (ρ : Env) (s : Store) : sAsg e (gTup is) ρ s = (e ρ s).so ρ fun v s => (gTup is v ρ s).so ρ fun ρ' s => .nx ρ' s := rfl
@[simp] theorem p_ssub (e o i : CE) (ρ : Env) (s : Store) : sSub e o i ρ s = (e ρ s).so ρ fun v s1 => (o ρ s1).so ρ fun ov s2 => (i ρ s2).so ρ fun iv s3 => (setI ov iv v s3).so ρ fun _ s4 => .nx ρ s4 := rfl
@[simp] theorem p_sexpr (e : CE) (ρ : Env) (s : Store) : sExpr e ρ s = (e ρ s).so ρ fun _ s => .nx ρ s := rfl
@[simp] theorem p_ret (e : CE) (ρ : Env) (s : Store) : sRet e ρ s = (e ρ s).so ρ fun v s => .rt v s := rfl
@[simp] theorem p_if (c : CT) (a b : SM) (ρ : Env) (s : Store) : sIf c a b ρ s = (c ρ s).so ρ fun x s => if x then a ρ s else b ρ s := rfl
@[simp] theorem p_raise (c : String) (ρ : Env) (s : Store) : sRaise c ρ s = .ex ⟨c, none⟩ ρ s := rfl
@[simp] theorem p_for (it : CI) (g : CG) (b : SM) (ρ : Env) (s : Store) : sFor it g b ρ s = (it ρ s).so ρ fun vs s => forL g b vs ρ s := rfl
@[simp] theorem p_forL0 (g : CG) (b : SM) (ρ : Env) (s : Store) : forL g b [] ρ s = .nx ρ s := rfl
theorem p_forL (i : Nat) (b : SM) (v : Val) (r : List Val) (ρ : Env) (s : Store) : forL (gVar i) b (v :: r) ρ s = (match b (ρ.set i (some v)) s with
    | .nx ρ2 s2 => forL (gVar i) b r ρ2 s2
    | .ct ρ2 s2 => forL (gVar i) b r ρ2 s2
    | .bk ρ2 s2 => .nx ρ2 s2
    | o => o) := rfl
/-- a loop whose turns all run through, by an invariant of what is left -/
theorem for_inv {g : CG} {b : SM} (P : List Val → Env → Store → Prop) (hs : ∀ v r ρ s, P (v :: r) ρ s → ∃ ρ1 s1 ρ2 s2, g v ρ s = .ok ρ1 s1 ∧ b ρ1 s1 = .nx ρ2 s2 ∧ P r ρ2 s2) : ∀ vs ρ s, P vs ρ s → ∃ ρ' s', forL g b vs ρ s = .nx ρ' s' ∧ P [] ρ' s'
  | [], ρ, s, h => ⟨ρ, s, rfl, h⟩
  | v :: r, ρ, s, h => by
    obtain ⟨ρ1, s1, ρ2, s2, h1, h2, h3⟩ := hs v r ρ s h
    obtain ⟨ρ', s', h4, h5⟩ := for_inv P hs r ρ2 s2 h3
    refine ⟨ρ', s', ?_, h5⟩
    show (g v ρ s).so ρ _ = _
    rw [h1]
    show (match b ρ1 s1 with
      | .nx ρ2 s2 => forL g b r ρ2 s2
      | .ct ρ2 s2 => forL g b r ρ2 s2
      | .bk ρ2 s2 => .nx ρ2 s2
      | o => o) = _
    rw [h2]
    exact h4
/-! defs -/
theorem trim_same {n : Nat} {s : Store} (h : s.length = n) : trim n s = s := by
  unfold trim
  have e : s.take n = s := List.take_of_length_le (by omega)
  rw [e]
  split <;> rfl
/-- a def that returns, the store's length kept -/
theorem fn_rt {N ps : Nat} {b : SM} {args : List Val} {s s' : Store} {v : Val} (h : b (start N args) s = .rt v s') (hl : args.length = ps) (hv : v.below s.length = true) (hs : s'.length = s.length) : mkFn N ps b args s = .ok v s' := by
  unfold mkFn
  rw [if_pos hl, h]
  dsimp only
  rw [if_pos hv, trim_same hs]
theorem fn_ex {N ps : Nat} {b : SM} {args : List Val} {s s' : Store} {x : Exc} {ρ : Env} (h : b (start N args) s = .ex x ρ s') (hl : args.length = ps) (hs : s'.length = s.length) : mkFn N ps b args s = .exc x s' := by
  unfold mkFn
  rw [if_pos hl, h]
  dsimp only
  rw [trim_same hs]
theorem fn_new {N ps : Nat} {b : SM} {args : List Val} {s s' : Store} {n : Nat} (h : b (start N args) s = .rt (.loc n) s') (hl : args.length = ps) (hv : ¬ n < s.length) : mkFn N ps b args s = .ok (.loc n) s' := by
  unfold mkFn
  rw [if_pos hl, h]
  dsimp only
  rw [if_neg (by simpa [Val.below] using hv)]
theorem comp_ok {g : CG} {c : Option CT} {f : CE} {ρ : Env} {s : Store} : ∀ {vs ws : List Val}, (∀ v ∈ vs, ∃ ρ', g v ρ s = .ok ρ' s) → True → True := fun _ _ => trivial
end Fl
namespace Fl
theorem compL_map {g : CG} {f : CE} {ρ : Env} {s : Store} (h : Val → Val) : ∀ vs : List Val, (∀ v ∈ vs, ∃ ρ', g v ρ s = .ok ρ' s ∧ f ρ' s = .ok (h v) s) → compL g none f ρ vs s = .ok (vs.map h) s
  | [], _ => rfl
  | v :: r, hh => by
    obtain ⟨ρ', h1, h2⟩ := hh v List.mem_cons_self
    have ih := compL_map (g := g) (f := f) (ρ := ρ) (s := s) h r fun w hw => hh w (List.mem_cons_of_mem _ hw)
    show (g v ρ s).bind _ = _
    rw [h1]
    show (f ρ' s).bind _ = _
    rw [h2]
    show (compL g none f ρ r s).bind _ = _
    rw [ih]
    rfl
@[simp] theorem p_comp (c : Bool) (own : List Nat) (it : CI) (g : CG) (t : Option CT) (f : CE) (ρ : Env) (s : Store) : eComp c own it g t f ρ s = (it ρ s).bind fun vs s => (compL g t f (wipeE ρ own) vs s).bind (newL c) := rfl
theorem p_try_ok {b : SM} {c : String} {i : Option Nat} {g : SM} {ρ : Env} {s : Store} {o : SO} (h : b ρ s = o) (hn : ∀ x ρ' s', o ≠ .ex x ρ' s') : sTry b c i g ρ s = o := by
  unfold sTry
  rw [h]
  cases o with
  | ex x ρ' s' => exact absurd rfl (hn x ρ' s')
  | _ => rfl
end Fl

namespace Fl
/-- .. where the caller's store is empty -/
theorem fn_long {N ps : Nat} {b : SM} {args : List Val} {s s' : Store} {d : T} (h : b (start N args) s = .rt (.t d) s') (hl : args.length = ps) (hs : s = []) (hb : True) : mkFn N ps b args s = .ok (.t d) [] := by
  subst hs
  unfold mkFn
  rw [if_pos hl, h]
  rfl
end Fl
set_option Elab.async false
set_option linter.all false
set_option maxRecDepth 100000
set_option maxHeartbeats 0
namespace Fl.k01
open L2 (inClass defBody defScope defArgs)
def top (i : Nat) : PySem.Stmt := PySem.Challenge.pw_flatsheaves_k01_numbers.main.body.getD i (.Pass ⟨0, 0, 0, 0⟩)
/-- wrapped -/
def f_wrapped (G : FEnv) : SM := sRet (e2 subV (e2 modV (e2 (addV false) (eVar 0) (eC (.int 2147483648))) (eC (.int 4294967296))) (eC (.int 2147483648)))
/-- calculate -/
def f_calculate (G : FEnv) : SM := sSeq (sIf (tIn (eVar 0) (eTup false [eC (.str "/"), eC (.str "mod")])) (sSeq (sIf (tEq (eVar 2) (eC (.int 0))) (sRaise "TrapError") (sNil)) (sRet (eIf (tEq (eVar 0) (eC (.str "/"))) (eCall G 0 [e2 fdivV (eVar 1) (eVar 2)]) (e2 modV (eVar 1) (eVar 2))))) (sNil)) (sSeq (sIf (tEq (eVar 0) (eC (.str "+"))) (sRet (eCall G 0 [e2 (addV false) (eVar 1) (eVar 2)])) (sNil)) (sSeq (sIf (tEq (eVar 0) (eC (.str "-"))) (sRet (eCall G 0 [e2 subV (eVar 1) (eVar 2)])) (sNil)) (sSeq (sIf (tEq (eVar 0) (eC (.str "*"))) (sRet (eCall G 0 [e2 (mulV false) (eVar 1) (eVar 2)])) (sNil)) (sSeq (sIf (tEq (eVar 0) (eC (.str "min"))) (sRet (e2 min2 (eVar 1) (eVar 2))) (sNil)) (sSeq (sIf (tEq (eVar 0) (eC (.str "max"))) (sRet (e2 max2 (eVar 1) (eVar 2))) (sNil)) (sRet (eIf (tEq (eVar 0) (eC (.str "<"))) (e1 intV (eB (tLt (eVar 1) (eVar 2)))) (e1 intV (eB (tEq (eVar 1) (eVar 2)))))))))))
/-- _law_state -/
def f_w_state (G : FEnv) : SM := sSeq (sAsg (eC (.int 7)) (gVar 1)) (sSeq (sFor (iV (eVar 0)) (gVar 2) (sAsg (e2 modV (e1 intV (e2 (addV false) (e2 (mulV false) (eVar 1) (eC (.int 31))) (eVar 2))) (eC (.int 1000003))) (gVar 1))) (sRet (eLst true [eComp true [2] (iV (eVar 0)) (gVar 2) none (e1 absV (e1 intV (eVar 2))), e2 (addV false) (eVar 1) (eC (.int 1))])))
/-- _law_draw -/
def f_w_draw (G : FEnv) : SM := sSeq (sAsg (e2 subI (eVar 0) (eC (.int 0))) (gVar 2)) (sSeq (sWhile (tAnd (tGt (e1 lenV (eVar 2)) (eC (.int 0))) (tEq (e2 subI (eVar 2) (eC (.int 0))) (eC (.int 0)))) (sExpr (e2c lstC popL (eVar 2) (eC (.int 0))))) (sSeq (sIf (tGt (e1 lenV (eVar 2)) (eC (.int 0))) (sSeq (sAsg (e2 subI (eVar 2) (eC (.int 0))) (gVar 3)) (sSeq (sSub (e2 fdivV (eVar 3) (eVar 1)) (eVar 2) (eC (.int 0))) (sRet (e2 modV (e1 intV (eVar 3)) (eVar 1))))) (sNil)) (sSeq (sAsg (e2 modV (e1 intV (e2 (addV false) (e2 (mulV false) (e2 subI (eVar 0) (eC (.int 1))) (eC (.int 48271))) (eC (.int 12345)))) (eC (.int 2147483647))) (gVar 4)) (sSeq (sSub (eVar 4) (eVar 0) (eC (.int 1))) (sRet (e2 modV (e1 intV (e2 fdivV (eVar 4) (eC (.int 64)))) (eVar 1)))))))
/-- _law_pick -/
def f_w_pick (G : FEnv) : SM := sRet (e2 subI (eVar 1) (eCall G 75 [eVar 0, e1 lenV (eVar 1)]))
/-- _law_number -/
def f_w_number (G : FEnv) : SM := sSeq (sAsg (eLst false [eC (.int 0), e1 negV (eC (.int 1)), eC (.int 2147483647), e1 negV (eC (.int 2147483648)), eC (.int 65536)]) (gVar 1)) (sSeq (sIf (tEq (eCall G 75 [eVar 0, eC (.int 6)]) (eC (.int 0))) (sRet (eCall G 76 [eVar 0, eVar 1])) (sNil)) (sRet (e2 subV (eCall G 75 [eVar 0, eC (.int 7)]) (eC (.int 2)))))
/-- _law_told -/
def f_w_told (G : FEnv) : SM := sSeq (sTry (sRet (eCall G 1 [eVar 0, eVar 1, eVar 2])) "TrapError" (some 3) (sIf (tAnd (tIsE "FlatError" (eVar 3)) (tAnd (tIsE "ValueError" (eVar 3)) (tNot (tIsE "KindError" (eVar 3))))) (sRet (eC (.str "trap"))) sNil)) (sRet (eC (.str "wrong")))
/-- _law_due -/
def f_w_due (G : FEnv) : SM := sSeq (sIf (tIn (eVar 0) (eTup false [eC (.str "/"), eC (.str "mod")])) (sSeq (sIf (tEq (eVar 2) (eC (.int 0))) (sRet (eC (.str "trap"))) (sNil)) (sSeq (sIf (tEq (eVar 0) (eC (.str "mod"))) (sRet (e2 modV (e1 intV (eVar 1)) (eVar 2))) (sNil)) (sSeq (sIf (tAnd (tEq (eVar 1) (e1 negV (eC (.int 2147483648)))) (tEq (eVar 2) (e1 negV (eC (.int 1))))) (sRet (e1 negV (eC (.int 2147483648)))) (sNil)) (sRet (e2 fdivV (eVar 1) (eVar 2)))))) (sNil)) (sSeq (sIf (tOr (tEq (eVar 0) (eC (.str "min"))) (tEq (eVar 0) (eC (.str "max")))) (sRet (e2 subI (eLst false [e2 min2 (eVar 1) (eVar 2), e2 max2 (eVar 1) (eVar 2)]) (e1 intV (eB (tEq (eVar 0) (eC (.str "max"))))))) (sNil)) (sSeq (sIf (tIn (eVar 0) (eTup false [eC (.str "<"), eC (.str "=")])) (sRet (e1 intV (eOr (eAnd (eB (tEq (eVar 0) (eC (.str "<")))) (eB (tLt (eVar 1) (eVar 2)))) (eAnd (eB (tEq (eVar 0) (eC (.str "=")))) (eB (tEq (eVar 1) (eVar 2))))))) (sNil)) (sSeq (sAsg (e2 subI (eDct false [(eC (.str "+"), e2 (addV false) (eVar 1) (eVar 2)), (eC (.str "-"), e2 subV (eVar 1) (eVar 2)), (eC (.str "*"), e2 (mulV false) (eVar 1) (eVar 2))]) (eVar 0)) (gVar 3)) (sRet (e2 subV (e2 modV (e1 intV (e2 (addV false) (eVar 3) (eC (.int 2147483648)))) (eC (.int 4294967296))) (eC (.int 2147483648)))))))
/-- law -/
def f_law (G : FEnv) : SM := sSeq (sAsg (eCall G 74 [eVar 0]) (gVar 1)) (sSeq (sAsg (eLst false [eCall G 77 [eVar 1], eCall G 77 [eVar 1], e2 subV (eCall G 75 [eVar 1, eC (.int 4294967296)]) (eC (.int 2147483648))]) (gVar 2)) (sSeq (sFor (iV (eLst false [eC (.str "+"), eC (.str "-"), eC (.str "*"), eC (.str "/"), eC (.str "mod"), eC (.str "min"), eC (.str "max"), eC (.str "<"), eC (.str "=")])) (gVar 3) (sFor (iV (eVar 2)) (gVar 4) (sFor (iV (eVar 2)) (gVar 5) (sSeq (sAsg (eCall G 78 [eVar 3, eVar 4, eVar 5]) (gVar 6)) (sIf (tOr (tIsi "bool" (eVar 6)) (tNe (eVar 6) (eCall G 79 [eVar 3, eVar 4, eVar 5]))) (sRet (eC (.bl false))) (sNil)))))) (sSeq (sFor (iV (e2 (addV false) (eVar 2) (eLst false [e2 (addV false) (e2 (mulV false) (e2 subI (eVar 2) (eC (.int 0))) (eC (.int 4294967296))) (eC (.int 5)), e2 (mulV false) (e2 subI (eVar 2) (eC (.int 2))) (e2 subI (eVar 2) (eC (.int 2))), e2 subV (eC (.int 0)) (e2 (mulV false) (e2 subI (eVar 2) (eC (.int 1))) (eC (.int 3000000000)))]))) (gVar 7) (sSeq (sAsg (eCall G 0 [eVar 7]) (gVar 6)) (sIf (tOr (tIsi "bool" (eVar 6)) (tOr (tLt (eVar 6) (e1 negV (eC (.int 2147483648)))) (tOr (tGt (eVar 6) (eC (.int 2147483647))) (tNe (e2 modV (e1 intV (e2 subV (eVar 6) (eVar 7))) (eC (.int 4294967296))) (eC (.int 0)))))) (sRet (eC (.bl false))) (sNil)))) (sRet (eC (.bl true))))))
def tb : Tab := { fns := [("wrapped", 0, 1), ("calculate", 1, 3), ("_law_state", 74, 1), ("_law_draw", 75, 2), ("_law_pick", 76, 2), ("_law_number", 77, 1), ("_law_told", 78, 3), ("_law_due", 79, 3), ("law", 80, 1)], cls := [], mts := [], consts := [("MODULUS", (.int 4294967296)), ("HALF", (.int 2147483648))], excs := [("FlatError", "FlatError"), ("KindError", "KindError"), ("TrapError", "TrapError")], ats := [], free := ["ValueError", "abs", "bool", "int", "isinstance", "len", "max", "min"], exIs := [("FlatError", "FlatError"), ("KindError", "KindError"), ("ValueError", "ValueError")], exMs := [("TrapError", "TrapError")] }
def ets : List String := ["FlatError", "KindError", "TrapError"]
def N_f_wrapped : List PySem.Str := [("n" : PySem.Str)]
abbrev sc_f_wrapped : PySem.Scope := L2.defScope (top 7)
theorem ok_f_wrapped {G : FEnv} {CA : Tags} {XR : XRel} {k : Nat} {X : L2.Cx} {W : L2.WX} (C : Cs tb G CA XR k N_f_wrapped sc_f_wrapped X W) : SS CA XR X W (L2.defBody (top 7)) (f_wrapped G) := sw_one (ss_ret (se_sub (se_mod (se_add false (se_var C.q.toCw 0) (se_glob C.q.toCw (by decide +kernel) (List.mem_of_getElem? (i := 1) rfl))) (se_glob C.q.toCw (by decide +kernel) (List.mem_of_getElem? (i := 0) rfl))) (se_glob C.q.toCw (by decide +kernel) (List.mem_of_getElem? (i := 1) rfl))))
def N_f_calculate : List PySem.Str := [("sign" : PySem.Str), ("a" : PySem.Str), ("b" : PySem.Str)]
abbrev sc_f_calculate : PySem.Scope := L2.defScope (top 8)
theorem ok_f_calculate {G : FEnv} {CA : Tags} {XR : XRel} {k : Nat} {X : L2.Cx} {W : L2.WX} (C : Cs tb G CA XR k N_f_calculate sc_f_calculate X W) : SS CA XR X W (L2.defBody (top 8)) (f_calculate G) := sw_cons (ss_if (st_in C.q.toCw (se_var C.q.toCw 0) (se_tup false (sa_cons (se_str) (sa_cons (se_str) (sa_nil))))) (sw_cons (ss_if (st_eq C.q.toCw (se_var C.q.toCw 2) (se_int)) (sw_one (ss_raise C "TrapError" (by decide +kernel) (List.mem_of_getElem? (i := 2) rfl))) (sw_nil)) (sw_one (ss_ret (se_if (st_eq C.q.toCw (se_var C.q.toCw 0) (se_str)) (se_call C.q 0 1 (by decide +kernel) (List.mem_of_getElem? (i := 0) rfl) rfl (sa_cons (se_fdiv (se_var C.q.toCw 1) (se_var C.q.toCw 2)) (sa_nil))) (se_mod (se_var C.q.toCw 1) (se_var C.q.toCw 2)))))) (sw_nil)) (sw_cons (ss_if (st_eq C.q.toCw (se_var C.q.toCw 0) (se_str)) (sw_one (ss_ret (se_call C.q 0 1 (by decide +kernel) (List.mem_of_getElem? (i := 0) rfl) rfl (sa_cons (se_add false (se_var C.q.toCw 1) (se_var C.q.toCw 2)) (sa_nil))))) (sw_nil)) (sw_cons (ss_if (st_eq C.q.toCw (se_var C.q.toCw 0) (se_str)) (sw_one (ss_ret (se_call C.q 0 1 (by decide +kernel) (List.mem_of_getElem? (i := 0) rfl) rfl (sa_cons (se_sub (se_var C.q.toCw 1) (se_var C.q.toCw 2)) (sa_nil))))) (sw_nil)) (sw_cons (ss_if (st_eq C.q.toCw (se_var C.q.toCw 0) (se_str)) (sw_one (ss_ret (se_call C.q 0 1 (by decide +kernel) (List.mem_of_getElem? (i := 0) rfl) rfl (sa_cons (se_mul false (se_var C.q.toCw 1) (se_var C.q.toCw 2)) (sa_nil))))) (sw_nil)) (sw_cons (ss_if (st_eq C.q.toCw (se_var C.q.toCw 0) (se_str)) (sw_one (ss_ret (se_min2 C.q (by decide +kernel) (se_var C.q.toCw 1) (se_var C.q.toCw 2)))) (sw_nil)) (sw_cons (ss_if (st_eq C.q.toCw (se_var C.q.toCw 0) (se_str)) (sw_one (ss_ret (se_max2 C.q (by decide +kernel) (se_var C.q.toCw 1) (se_var C.q.toCw 2)))) (sw_nil)) (sw_one (ss_ret (se_if (st_eq C.q.toCw (se_var C.q.toCw 0) (se_str)) (se_intT C.q.toCw (by decide +kernel) (se_lt (se_var C.q.toCw 1) (se_var C.q.toCw 2))) (se_intT C.q.toCw (by decide +kernel) (se_eq C.q.toCw (se_var C.q.toCw 1) (se_var C.q.toCw 2)))))))))))
def N_f_w_state : List PySem.Str := [("_law_script" : PySem.Str), ("_law_seed" : PySem.Str), ("_law_cell" : PySem.Str)]
abbrev sc_f_w_state : PySem.Scope := L2.defScope (top 10)
theorem ok_f_w_state {G : FEnv} {CA : Tags} {XR : XRel} {k : Nat} {X : L2.Cx} {W : L2.WX} (C : Cs tb G CA XR k N_f_w_state sc_f_w_state X W) : SS CA XR X W (L2.defBody (top 10)) (f_w_state G) := sw_cons (ss_set C.q.toCw 1 rfl (by decide +kernel) (se_int)) (sw_cons (ss_for C (si_of (sl_seq (se_var C.q.toCw 0))) (sg_var C.q.toCw 2 rfl (by decide +kernel)) (sw_one (ss_set C.q.toCw 1 rfl (by decide +kernel) (se_mod (se_intT C.q.toCw (by decide +kernel) (se_add false (se_mul false (se_var C.q.toCw 1) (se_int)) (se_var C.q.toCw 2))) (se_int))))) (sw_one (ss_ret (se_lst true (sa_cons (se_lc (ownL := [(("_law_cell" : PySem.Str), 2)]) true C.q (gin_var (by decide)) (blk_of (by decide +kernel)) (sl_seq (se_var C.q.toCw 0)) (fun _ _ C1 => sg_var C1.toCw 2 rfl (by decide +kernel)) (fun _ _ C1 => sts_nil) (fun _ _ C1 => se_abs C1.toCw (by decide +kernel) (se_intT C1.toCw (by decide +kernel) (se_var C1.toCw 2)))) (sa_cons (se_add false (se_var C.q.toCw 1) (se_int)) (sa_nil)))))))
def N_f_w_draw : List PySem.Str := [("_law_state_here" : PySem.Str), ("_law_many" : PySem.Str), ("_law_cells" : PySem.Str), ("_law_value" : PySem.Str), ("_law_mixed" : PySem.Str)]
abbrev sc_f_w_draw : PySem.Scope := L2.defScope (top 11)
theorem ok_f_w_draw {G : FEnv} {CA : Tags} {XR : XRel} {k : Nat} {X : L2.Cx} {W : L2.WX} (C : Cs tb G CA XR k N_f_w_draw sc_f_w_draw X W) : SS CA XR X W (L2.defBody (top 11)) (f_w_draw G) := sw_cons (ss_set C.q.toCw 2 rfl (by decide +kernel) (se_ix C.q.toCw (se_var C.q.toCw 0) (se_int))) (sw_cons (ss_while C (st_bool (sw_and (st_gt (se_len C.q.toCw (by decide +kernel) (se_var C.q.toCw 2)) (se_int)) (sw_and1 (st_eq C.q.toCw (se_ix C.q.toCw (se_var C.q.toCw 2) (se_int)) (se_int))))) (sw_one (ss_expr (se_pop (se_var C.q.toCw 2) (se_int))))) (sw_cons (ss_if (st_gt (se_len C.q.toCw (by decide +kernel) (se_var C.q.toCw 2)) (se_int)) (sw_cons (ss_set C.q.toCw 3 rfl (by decide +kernel) (se_ix C.q.toCw (se_var C.q.toCw 2) (se_int))) (sw_cons (ss_sub C.q.toCw (se_fdiv (se_var C.q.toCw 3) (se_var C.q.toCw 1)) (se_var C.q.toCw 2) (se_int)) (sw_one (ss_ret (se_mod (se_intT C.q.toCw (by decide +kernel) (se_var C.q.toCw 3)) (se_var C.q.toCw 1)))))) (sw_nil)) (sw_cons (ss_set C.q.toCw 4 rfl (by decide +kernel) (se_mod (se_intT C.q.toCw (by decide +kernel) (se_add false (se_mul false (se_ix C.q.toCw (se_var C.q.toCw 0) (se_int)) (se_int)) (se_int))) (se_int))) (sw_cons (ss_sub C.q.toCw (se_var C.q.toCw 4) (se_var C.q.toCw 0) (se_int)) (sw_one (ss_ret (se_mod (se_intT C.q.toCw (by decide +kernel) (se_fdiv (se_var C.q.toCw 4) (se_int))) (se_var C.q.toCw 1))))))))
def N_f_w_pick : List PySem.Str := [("_law_state_here" : PySem.Str), ("_law_row" : PySem.Str)]
abbrev sc_f_w_pick : PySem.Scope := L2.defScope (top 12)
theorem ok_f_w_pick {G : FEnv} {CA : Tags} {XR : XRel} {k : Nat} {X : L2.Cx} {W : L2.WX} (C : Cs tb G CA XR k N_f_w_pick sc_f_w_pick X W) : SS CA XR X W (L2.defBody (top 12)) (f_w_pick G) := sw_one (ss_ret (se_ix C.q.toCw (se_var C.q.toCw 1) (se_call C.q 75 2 (by decide +kernel) (List.mem_of_getElem? (i := 3) rfl) rfl (sa_cons (se_var C.q.toCw 0) (sa_cons (se_len C.q.toCw (by decide +kernel) (se_var C.q.toCw 1)) (sa_nil))))))
def N_f_w_number : List PySem.Str := [("_law_state_here" : PySem.Str), ("_law_edges" : PySem.Str)]
abbrev sc_f_w_number : PySem.Scope := L2.defScope (top 13)
theorem ok_f_w_number {G : FEnv} {CA : Tags} {XR : XRel} {k : Nat} {X : L2.Cx} {W : L2.WX} (C : Cs tb G CA XR k N_f_w_number sc_f_w_number X W) : SS CA XR X W (L2.defBody (top 13)) (f_w_number G) := sw_cons (ss_set C.q.toCw 1 rfl (by decide +kernel) (se_lst false (sa_cons (se_int) (sa_cons (se_neg (se_int)) (sa_cons (se_int) (sa_cons (se_neg (se_int)) (sa_cons (se_int) (sa_nil)))))))) (sw_cons (ss_if (st_eq C.q.toCw (se_call C.q 75 2 (by decide +kernel) (List.mem_of_getElem? (i := 3) rfl) rfl (sa_cons (se_var C.q.toCw 0) (sa_cons (se_int) (sa_nil)))) (se_int)) (sw_one (ss_ret (se_call C.q 76 2 (by decide +kernel) (List.mem_of_getElem? (i := 4) rfl) rfl (sa_cons (se_var C.q.toCw 0) (sa_cons (se_var C.q.toCw 1) (sa_nil)))))) (sw_nil)) (sw_one (ss_ret (se_sub (se_call C.q 75 2 (by decide +kernel) (List.mem_of_getElem? (i := 3) rfl) rfl (sa_cons (se_var C.q.toCw 0) (sa_cons (se_int) (sa_nil)))) (se_int)))))
def N_f_w_told : List PySem.Str := [("_law_sign" : PySem.Str), ("_law_a" : PySem.Str), ("_law_b" : PySem.Str), ("e" : PySem.Str)]
abbrev sc_f_w_told : PySem.Scope := L2.defScope (top 14)
theorem ok_f_w_told {G : FEnv} {CA : Tags} {XR : XRel} {k : Nat} {X : L2.Cx} {W : L2.WX} (C : Cs tb G CA XR k N_f_w_told sc_f_w_told X W) : SS CA XR X W (L2.defBody (top 14)) (f_w_told G) := sw_cons (ss_try_as C 3 "TrapError" rfl (by decide +kernel) (by decide +kernel) (List.mem_of_getElem? (i := 0) rfl) (fun _ _ T1 => sw_one (ss_ret (se_call T1.q 1 3 (by decide +kernel) (List.mem_of_getElem? (i := 1) rfl) rfl (sa_cons (se_var T1.q.toCw 0) (sa_cons (se_var T1.q.toCw 1) (sa_cons (se_var T1.q.toCw 2) (sa_nil))))))) (fun a oe cls d pn z1 z2 D => kx_suite1 (fun y => (excSub y.cls "FlatError") && ((excSub y.cls "ValueError") && (!(excSub y.cls "KindError")))) (fun y H0 xr => (kt_and (kt_val (kx_is D z1 z2 xr rfl (by decide +kernel) (by decide +kernel) "FlatError" (by decide +kernel) (List.mem_of_getElem? (i := 0) rfl))) (kt_and (kt_val (kx_is D z1 z2 xr rfl (by decide +kernel) (by decide +kernel) "ValueError" (by decide +kernel) (List.mem_of_getElem? (i := 2) rfl))) (kt_and1 (kt_not (kt_val (kx_is D z1 z2 xr rfl (by decide +kernel) (by decide +kernel) "KindError" (by decide +kernel) (List.mem_of_getElem? (i := 1) rfl))))))).pt) (se_str) (xm_and (xm_is) (xm_and (xm_is) (xm_not (xm_is)))))) (sw_one (ss_ret (se_str)))
def N_f_w_due : List PySem.Str := [("_law_sign" : PySem.Str), ("_law_a" : PySem.Str), ("_law_b" : PySem.Str), ("_law_n" : PySem.Str)]
abbrev sc_f_w_due : PySem.Scope := L2.defScope (top 15)
theorem ok_f_w_due {G : FEnv} {CA : Tags} {XR : XRel} {k : Nat} {X : L2.Cx} {W : L2.WX} (C : Cs tb G CA XR k N_f_w_due sc_f_w_due X W) : SS CA XR X W (L2.defBody (top 15)) (f_w_due G) := sw_cons (ss_if (st_in C.q.toCw (se_var C.q.toCw 0) (se_tup false (sa_cons (se_str) (sa_cons (se_str) (sa_nil))))) (sw_cons (ss_if (st_eq C.q.toCw (se_var C.q.toCw 2) (se_int)) (sw_one (ss_ret (se_str))) (sw_nil)) (sw_cons (ss_if (st_eq C.q.toCw (se_var C.q.toCw 0) (se_str)) (sw_one (ss_ret (se_mod (se_intT C.q.toCw (by decide +kernel) (se_var C.q.toCw 1)) (se_var C.q.toCw 2)))) (sw_nil)) (sw_cons (ss_if (st_bool (sw_and (st_eq C.q.toCw (se_var C.q.toCw 1) (se_neg (se_int))) (sw_and1 (st_eq C.q.toCw (se_var C.q.toCw 2) (se_neg (se_int)))))) (sw_one (ss_ret (se_neg (se_int)))) (sw_nil)) (sw_one (ss_ret (se_fdiv (se_var C.q.toCw 1) (se_var C.q.toCw 2))))))) (sw_nil)) (sw_cons (ss_if (st_bool (sw_or (st_eq C.q.toCw (se_var C.q.toCw 0) (se_str)) (sw_or1 (st_eq C.q.toCw (se_var C.q.toCw 0) (se_str))))) (sw_one (ss_ret (se_ix C.q.toCw (se_lst false (sa_cons (se_min2 C.q (by decide +kernel) (se_var C.q.toCw 1) (se_var C.q.toCw 2)) (sa_cons (se_max2 C.q (by decide +kernel) (se_var C.q.toCw 1) (se_var C.q.toCw 2)) (sa_nil)))) (se_intT C.q.toCw (by decide +kernel) (se_eq C.q.toCw (se_var C.q.toCw 0) (se_str)))))) (sw_nil)) (sw_cons (ss_if (st_in C.q.toCw (se_var C.q.toCw 0) (se_tup false (sa_cons (se_str) (sa_cons (se_str) (sa_nil))))) (sw_one (ss_ret (se_intT C.q.toCw (by decide +kernel) (se_or (se_and (se_eq C.q.toCw (se_var C.q.toCw 0) (se_str)) (se_and1 (se_lt (se_var C.q.toCw 1) (se_var C.q.toCw 2)))) (se_and1 (se_and (se_eq C.q.toCw (se_var C.q.toCw 0) (se_str)) (se_and1 (se_eq C.q.toCw (se_var C.q.toCw 1) (se_var C.q.toCw 2))))))))) (sw_nil)) (sw_cons (ss_set C.q.toCw 3 rfl (by decide +kernel) (se_ix C.q.toCw (se_dct false (sp_cons (se_str) (se_add false (se_var C.q.toCw 1) (se_var C.q.toCw 2)) (sp_cons (se_str) (se_sub (se_var C.q.toCw 1) (se_var C.q.toCw 2)) (sp_cons (se_str) (se_mul false (se_var C.q.toCw 1) (se_var C.q.toCw 2)) (sp_nil))))) (se_var C.q.toCw 0))) (sw_one (ss_ret (se_sub (se_mod (se_intT C.q.toCw (by decide +kernel) (se_add false (se_var C.q.toCw 3) (se_int))) (se_int)) (se_int)))))))
def N_f_law : List PySem.Str := [("_law_script" : PySem.Str), ("_law_state_here" : PySem.Str), ("_law_rows" : PySem.Str), ("_law_sign" : PySem.Str), ("_law_a" : PySem.Str), ("_law_b" : PySem.Str), ("_law_told_here" : PySem.Str), ("_law_n" : PySem.Str)]
abbrev sc_f_law : PySem.Scope := L2.defScope (top 16)
theorem ok_f_law {G : FEnv} {CA : Tags} {XR : XRel} {k : Nat} {X : L2.Cx} {W : L2.WX} (C : Cs tb G CA XR k N_f_law sc_f_law X W) : SS CA XR X W (L2.defBody (top 16)) (f_law G) := sw_cons (ss_set C.q.toCw 1 rfl (by decide +kernel) (se_call C.q 74 1 (by decide +kernel) (List.mem_of_getElem? (i := 2) rfl) rfl (sa_cons (se_var C.q.toCw 0) (sa_nil)))) (sw_cons (ss_set C.q.toCw 2 rfl (by decide +kernel) (se_lst false (sa_cons (se_call C.q 77 1 (by decide +kernel) (List.mem_of_getElem? (i := 5) rfl) rfl (sa_cons (se_var C.q.toCw 1) (sa_nil))) (sa_cons (se_call C.q 77 1 (by decide +kernel) (List.mem_of_getElem? (i := 5) rfl) rfl (sa_cons (se_var C.q.toCw 1) (sa_nil))) (sa_cons (se_sub (se_call C.q 75 2 (by decide +kernel) (List.mem_of_getElem? (i := 3) rfl) rfl (sa_cons (se_var C.q.toCw 1) (sa_cons (se_int) (sa_nil)))) (se_int)) (sa_nil)))))) (sw_cons (ss_for C (si_of (sl_seq (se_lst false (sa_cons (se_str) (sa_cons (se_str) (sa_cons (se_str) (sa_cons (se_str) (sa_cons (se_str) (sa_cons (se_str) (sa_cons (se_str) (sa_cons (se_str) (sa_cons (se_str) (sa_nil))))))))))))) (sg_var C.q.toCw 3 rfl (by decide +kernel)) (sw_one (ss_for C (si_of (sl_seq (se_var C.q.toCw 2))) (sg_var C.q.toCw 4 rfl (by decide +kernel)) (sw_one (ss_for C (si_of (sl_seq (se_var C.q.toCw 2))) (sg_var C.q.toCw 5 rfl (by decide +kernel)) (sw_cons (ss_set C.q.toCw 6 rfl (by decide +kernel) (se_call C.q 78 3 (by decide +kernel) (List.mem_of_getElem? (i := 6) rfl) rfl (sa_cons (se_var C.q.toCw 3) (sa_cons (se_var C.q.toCw 4) (sa_cons (se_var C.q.toCw 5) (sa_nil)))))) (sw_one (ss_if (st_bool (sw_or (st_of (se_isi C.q.toCw "bool" (by decide +kernel) (by decide +kernel) (by decide) (se_var C.q.toCw 6))) (sw_or1 (st_ne C.q.toCw (se_var C.q.toCw 6) (se_call C.q 79 3 (by decide +kernel) (List.mem_of_getElem? (i := 7) rfl) rfl (sa_cons (se_var C.q.toCw 3) (sa_cons (se_var C.q.toCw 4) (sa_cons (se_var C.q.toCw 5) (sa_nil))))))))) (sw_one (ss_ret (se_bl))) (sw_nil))))))))) (sw_cons (ss_for C (si_of (sl_seq (se_add false (se_var C.q.toCw 2) (se_lst false (sa_cons (se_add false (se_mul false (se_ix C.q.toCw (se_var C.q.toCw 2) (se_int)) (se_int)) (se_int)) (sa_cons (se_mul false (se_ix C.q.toCw (se_var C.q.toCw 2) (se_int)) (se_ix C.q.toCw (se_var C.q.toCw 2) (se_int))) (sa_cons (se_sub (se_int) (se_mul false (se_ix C.q.toCw (se_var C.q.toCw 2) (se_int)) (se_int))) (sa_nil)))))))) (sg_var C.q.toCw 7 rfl (by decide +kernel)) (sw_cons (ss_set C.q.toCw 6 rfl (by decide +kernel) (se_call C.q 0 1 (by decide +kernel) (List.mem_of_getElem? (i := 0) rfl) rfl (sa_cons (se_var C.q.toCw 7) (sa_nil)))) (sw_one (ss_if (st_bool (sw_or (st_of (se_isi C.q.toCw "bool" (by decide +kernel) (by decide +kernel) (by decide) (se_var C.q.toCw 6))) (sw_or (st_lt (se_var C.q.toCw 6) (se_neg (se_int))) (sw_or (st_gt (se_var C.q.toCw 6) (se_int)) (sw_or1 (st_ne C.q.toCw (se_mod (se_intT C.q.toCw (by decide +kernel) (se_sub (se_var C.q.toCw 6) (se_var C.q.toCw 7))) (se_int)) (se_int))))))) (sw_one (ss_ret (se_bl))) (sw_nil))))) (sw_one (ss_ret (se_bl))))))
def fd_f_wrapped : FD := ⟨⟨("wrapped", none), "wrapped", "wrapped", L2.defArgs (top 7), L2.defBody (top 7), L2.defScope (top 7), [], []⟩, [("n" : PySem.Str)], N_f_wrapped, f_wrapped⟩
def fd_f_calculate : FD := ⟨⟨("calculate", none), "calculate", "calculate", L2.defArgs (top 8), L2.defBody (top 8), L2.defScope (top 8), [], []⟩, [("sign" : PySem.Str), ("a" : PySem.Str), ("b" : PySem.Str)], N_f_calculate, f_calculate⟩
def fd_f_w_state : FD := ⟨⟨("_law_state", none), "_law_state", "_law_state", L2.defArgs (top 10), L2.defBody (top 10), L2.defScope (top 10), [], []⟩, [("_law_script" : PySem.Str)], N_f_w_state, f_w_state⟩
def fd_f_w_draw : FD := ⟨⟨("_law_draw", none), "_law_draw", "_law_draw", L2.defArgs (top 11), L2.defBody (top 11), L2.defScope (top 11), [], []⟩, [("_law_state_here" : PySem.Str), ("_law_many" : PySem.Str)], N_f_w_draw, f_w_draw⟩
def fd_f_w_pick : FD := ⟨⟨("_law_pick", none), "_law_pick", "_law_pick", L2.defArgs (top 12), L2.defBody (top 12), L2.defScope (top 12), [], []⟩, [("_law_state_here" : PySem.Str), ("_law_row" : PySem.Str)], N_f_w_pick, f_w_pick⟩
def fd_f_w_number : FD := ⟨⟨("_law_number", none), "_law_number", "_law_number", L2.defArgs (top 13), L2.defBody (top 13), L2.defScope (top 13), [], []⟩, [("_law_state_here" : PySem.Str)], N_f_w_number, f_w_number⟩
def fd_f_w_told : FD := ⟨⟨("_law_told", none), "_law_told", "_law_told", L2.defArgs (top 14), L2.defBody (top 14), L2.defScope (top 14), [], []⟩, [("_law_sign" : PySem.Str), ("_law_a" : PySem.Str), ("_law_b" : PySem.Str)], N_f_w_told, f_w_told⟩
def fd_f_w_due : FD := ⟨⟨("_law_due", none), "_law_due", "_law_due", L2.defArgs (top 15), L2.defBody (top 15), L2.defScope (top 15), [], []⟩, [("_law_sign" : PySem.Str), ("_law_a" : PySem.Str), ("_law_b" : PySem.Str)], N_f_w_due, f_w_due⟩
def fd_f_law : FD := ⟨⟨("law", none), "law", "law", L2.defArgs (top 16), L2.defBody (top 16), L2.defScope (top 16), [], []⟩, [("_law_script" : PySem.Str)], N_f_law, f_law⟩
def fds : List (Nat × FD) := [(0, fd_f_wrapped), (1, fd_f_calculate), (74, fd_f_w_state), (75, fd_f_w_draw), (76, fd_f_w_pick), (77, fd_f_w_number), (78, fd_f_w_told), (79, fd_f_w_due), (80, fd_f_law)]
def fa : List He.Fa := [.glo "wrapped", .glo "calculate", .glo "_law_state", .glo "_law_draw", .glo "_law_pick", .glo "_law_number", .glo "_law_told", .glo "_law_due", .glo "law", .glo "FlatError", .glo "KindError", .glo "TrapError", .free "ValueError", .free "abs", .free "bool", .free "int", .free "isinstance", .free "len", .free "max", .free "min"]
theorem fok_f_wrapped : FDok tb fd_f_wrapped := ⟨⟨rfl, rfl, rfl, by decide +kernel, rfl, by decide +kernel, by decide +kernel⟩, rfl, rfl, fun _ _ _ _ _ _ us hl => match us, hl with | [_], _ => rfl, fun _ _ _ _ _ _ C => ok_f_wrapped C⟩
theorem fok_f_calculate : FDok tb fd_f_calculate := ⟨⟨rfl, rfl, rfl, by decide +kernel, rfl, by decide +kernel, by decide +kernel⟩, rfl, rfl, fun _ _ _ _ _ _ us hl => match us, hl with | [_, _, _], _ => rfl, fun _ _ _ _ _ _ C => ok_f_calculate C⟩
theorem fok_f_w_state : FDok tb fd_f_w_state := ⟨⟨rfl, rfl, rfl, by decide +kernel, rfl, by decide +kernel, by decide +kernel⟩, rfl, rfl, fun _ _ _ _ _ _ us hl => match us, hl with | [_], _ => rfl, fun _ _ _ _ _ _ C => ok_f_w_state C⟩
theorem fok_f_w_draw : FDok tb fd_f_w_draw := ⟨⟨rfl, rfl, rfl, by decide +kernel, rfl, by decide +kernel, by decide +kernel⟩, rfl, rfl, fun _ _ _ _ _ _ us hl => match us, hl with | [_, _], _ => rfl, fun _ _ _ _ _ _ C => ok_f_w_draw C⟩
theorem fok_f_w_pick : FDok tb fd_f_w_pick := ⟨⟨rfl, rfl, rfl, by decide +kernel, rfl, by decide +kernel, by decide +kernel⟩, rfl, rfl, fun _ _ _ _ _ _ us hl => match us, hl with | [_, _], _ => rfl, fun _ _ _ _ _ _ C => ok_f_w_pick C⟩
theorem fok_f_w_number : FDok tb fd_f_w_number := ⟨⟨rfl, rfl, rfl, by decide +kernel, rfl, by decide +kernel, by decide +kernel⟩, rfl, rfl, fun _ _ _ _ _ _ us hl => match us, hl with | [_], _ => rfl, fun _ _ _ _ _ _ C => ok_f_w_number C⟩
theorem fok_f_w_told : FDok tb fd_f_w_told := ⟨⟨rfl, rfl, rfl, by decide +kernel, rfl, by decide +kernel, by decide +kernel⟩, rfl, rfl, fun _ _ _ _ _ _ us hl => match us, hl with | [_, _, _], _ => rfl, fun _ _ _ _ _ _ C => ok_f_w_told C⟩
theorem fok_f_w_due : FDok tb fd_f_w_due := ⟨⟨rfl, rfl, rfl, by decide +kernel, rfl, by decide +kernel, by decide +kernel⟩, rfl, rfl, fun _ _ _ _ _ _ us hl => match us, hl with | [_, _, _], _ => rfl, fun _ _ _ _ _ _ C => ok_f_w_due C⟩
theorem fok_f_law : FDok tb fd_f_law := ⟨⟨rfl, rfl, rfl, by decide +kernel, rfl, by decide +kernel, by decide +kernel⟩, rfl, rfl, fun _ _ _ _ _ _ us hl => match us, hl with | [_], _ => rfl, fun _ _ _ _ _ _ C => ok_f_law C⟩
theorem tabok : TabOk tb fds fa ets := ⟨by decide +kernel, by decide +kernel, by
  intro e he
  simp only [fds, List.mem_cons, List.not_mem_nil, or_false] at he
  rcases he with rfl | rfl | rfl | rfl | rfl | rfl | rfl | rfl | rfl
  · exact fok_f_wrapped
  · exact fok_f_calculate
  · exact fok_f_w_state
  · exact fok_f_w_draw
  · exact fok_f_w_pick
  · exact fok_f_w_number
  · exact fok_f_w_told
  · exact fok_f_w_due
  · exact fok_f_law, rfl, rfl, rfl, by decide +kernel, by decide +kernel, by decide +kernel, by decide +kernel, by decide +kernel⟩
def loose0 : List PySem.Str := [("FlatError" : PySem.Str), ("KindError" : PySem.Str), ("TrapError" : PySem.Str), ("MODULUS" : PySem.Str), ("HALF" : PySem.Str), ("wrapped" : PySem.Str), ("calculate" : PySem.Str), ("_law_state" : PySem.Str), ("_law_draw" : PySem.Str), ("_law_pick" : PySem.Str), ("_law_number" : PySem.Str), ("_law_told" : PySem.Str), ("_law_due" : PySem.Str)]
def loose : List PySem.Str := loose0
abbrev Rw : PySem.W.OpenRow := PySem.W.OpenLaw.row PySem.Challenge.rw_flatsheaves_k01_numbers
abbrev hkL : PySem.W.Hook := hkF 5 fa (fds.map (·.2.d)) (exAll tb ets)
theorem run (w : PySem.World) : HandSHeadRun.RunEq Rw (PySem.W.view Rw.prog [16]) hkL (obF 5 fa (fds.map (·.2.d)) (exAll tb ets)) 20000 loose w := by
  intro os
  kernel_rfl
end Fl.k01
set_option Elab.async false
set_option linter.all false
set_option maxRecDepth 100000
namespace Fl.k01
/-- the state of a drawing: what is left of the script, the seed -/
def St (c : List Int) (m : Int) (r : Store) : Store := some (.lst (c.map vI)) :: some (.lst [.loc 0, vI m]) :: r
theorem St_len {c : List Int} {m : Int} {r : Store} : (St c m r).length = r.length + 2 := rfl
@[simp] theorem sub_st0 (c : List Int) (m : Int) (r : Store) : subI (.loc 1) (.t (.int 0)) (St c m r) = .ok (.loc 0) (St c m r) := rfl
@[simp] theorem sub_st1 (c : List Int) (m : Int) (r : Store) : subI (.loc 1) (.t (.int 1)) (St c m r) = .ok (.t (.int m)) (St c m r) := rfl
@[simp] theorem len_st (c : List Int) (m : Int) (r : Store) : lenV (.loc 0) (St c m r) = .ok (.t (.int c.length)) (St c m r) := by
  show R.ok (vI ((c.map vI).length)) _ = _
  rw [List.length_map]; rfl
@[simp] theorem sub_c0 (a : Int) (c : List Int) (m : Int) (r : Store) : subI (.loc 0) (.t (.int 0)) (St (a :: c) m r) = .ok (.t (.int a)) (St (a :: c) m r) := by
  show (match pyIx ((a :: c).map vI).length 0 with
    | some n => match ((a :: c).map vI)[n]? with
      | some d => R.ok d (St (a :: c) m r)
      | none => .bad
    | none => .bad) = _
  have : pyIx ((a :: c).map vI).length 0 = some 0 := by
    unfold pyIx
    rw [if_pos (by decide), if_pos (by simp)]
    rfl
  rw [this]
  rfl
@[simp] theorem pop_c0 (a : Int) (c : List Int) (m : Int) (r : Store) : popL (.loc 0) (.t (.int 0)) (St (a :: c) m r) = .ok (.t (.int a)) (St c m r) := by
  show (match pyIx ((a :: c).map vI).length 0 with
    | some j => match ((a :: c).map vI)[j]? with
      | some v => R.ok v ((St (a :: c) m r).set 0 (some (.lst (((a :: c).map vI).eraseIdx j))))
      | none => .bad
    | none => .bad) = _
  have : pyIx ((a :: c).map vI).length 0 = some 0 := by
    unfold pyIx
    rw [if_pos (by decide), if_pos (by simp)]
    rfl
  rw [this]
  rfl
@[simp] theorem set_c0 (a v : Int) (c : List Int) (m : Int) (r : Store) : setI (.loc 0) (.t (.int 0)) (.t (.int v)) (St (a :: c) m r) = .ok () (St (v :: c) m r) := by
  show (match pyIx ((a :: c).map vI).length 0 with
    | some j => R.ok () ((St (a :: c) m r).set 0 (some (.lst (((a :: c).map vI).set j (.t (.int v))))))
    | none => .bad) = _
  have : pyIx ((a :: c).map vI).length 0 = some 0 := by
    unfold pyIx
    rw [if_pos (by decide), if_pos (by simp)]
    rfl
  rw [this]
  rfl
@[simp] theorem set_m (v : Int) (c : List Int) (m : Int) (r : Store) : setI (.loc 1) (.t (.int 1)) (.t (.int v)) (St c m r) = .ok () (St c v r) := rfl
@[simp] theorem lstC_st (c : List Int) (m : Int) (r : Store) : lstC (.loc 0) (St c m r) = .ok () (St c m r) := rfl
theorem fm (i : Int) {k : Int} (h : 0 < k) : i.fmod k = i % k := Int.fmod_eq_emod_of_nonneg i (by omega)
theorem draw_while (m : Int) (r : Store) (x0 x1 : Option Val) (ρ : Env) : ∀ (c : List Int) (n : Nat), c.length < n → whileN (tAnd (tGt (e1 lenV (eVar 2)) (eC (.int 0))) (tEq (e2 subI (eVar 2) (eC (.int 0))) (eC (.int 0)))) (sExpr (e2c lstC popL (eVar 2) (eC (.int 0)))) n
    (x0 :: x1 :: some (.loc 0) :: ρ) (St c m r) = .nx (x0 :: x1 :: some (.loc 0) :: ρ) (St (c.dropWhile (· == 0)) m r)
  | [], n + 1, _ => by simp [whileN]
  | a :: c, n + 1, h => by
    by_cases ha : a = 0
    · subst ha
      have ih := draw_while m r x0 x1 ρ c n (by simp at h; omega)
      simp only [whileN]
      simp
      exact ih
    · have e : (a == 0) = false := by simpa using ha
      simp [whileN, e]
/-- a draw -/
theorem draw (G : FEnv) (c : List Int) (m : Int) (r : Store) {k : Int} (hk : 0 < k) (hk2 : k < 2 ^ 60) (hc : c.length ≤ 63) : ∃ (v : Nat) (c' : List Int) (m' : Int), (v : Int) < k ∧ c'.length ≤ 63 ∧ mkFn 5 2 (f_w_draw G) [.loc 1, vI k] (St c m r) = .ok (vI v) (St c' m' r) := by
  have hk0 : k ≠ 0 := by omega
  have hw := fun x0 x1 ρ => draw_while m r x0 x1 ρ c whileMax (by show c.length < 100000000; omega)
  have hf : ∀ a, fdivOk a k = true := fun a => by unfold fdivOk; simp; omega
  have h64 : ∀ a, fdivOk a 64 = true := fun a => by unfold fdivOk; simp
  have hm : mulOk m 48271 = true := by unfold mulOk; simp
  have key : ∀ x : Int, ∃ v : Nat, (v : Int) < k ∧ x.fmod k = v := fun x => by
    rw [fm x hk]
    refine ⟨(x % k).toNat, ?_, ?_⟩
    · have := Int.emod_nonneg x hk0
      have := Int.emod_lt_of_pos x hk
      omega
    · have := Int.emod_nonneg x hk0
      omega
  cases e : c.dropWhile (· == 0) with
  | nil =>
    obtain ⟨v, hv, ev⟩ := key (((m * 48271 + 12345).fmod 2147483647).fdiv 64)
    refine ⟨v, [], (m * 48271 + 12345).fmod 2147483647, hv, by simp, fn_rt ?_ rfl rfl rfl⟩
    simp [f_w_draw, start, sWhile, hw, e, p_mul _ hm, p_mod, p_fdiv (h64 _), hk0, ev]
  | cons a d =>
    obtain ⟨v, hv, ev⟩ := key a
    have hl : (a :: d).length ≤ 63 := by
      rw [← e]
      exact Nat.le_trans (List.Sublist.length_le (List.dropWhile_sublist _)) hc
    refine ⟨v, a.fdiv k :: d, m, hv, by simpa using hl, fn_rt ?_ rfl rfl rfl⟩
    simp [f_w_draw, start, sWhile, hw, e, p_fdiv (hf _), p_mod, hk0, ev]
end Fl.k01
namespace Fl.k01
theorem e_state (n : Nat) : Gam fds (n + 1) 74 = mkFn 3 1 (f_w_state (Gam fds n)) := rfl
theorem e_draw (n : Nat) : Gam fds (n + 1) 75 = mkFn 5 2 (f_w_draw (Gam fds n)) := rfl
theorem e_pick (n : Nat) : Gam fds (n + 1) 76 = mkFn 2 2 (f_w_pick (Gam fds n)) := rfl
theorem e_number (n : Nat) : Gam fds (n + 1) 77 = mkFn 2 1 (f_w_number (Gam fds n)) := rfl
theorem e_told (n : Nat) : Gam fds (n + 1) 78 = mkFn 4 3 (f_w_told (Gam fds n)) := rfl
theorem e_due (n : Nat) : Gam fds (n + 1) 79 = mkFn 4 3 (f_w_due (Gam fds n)) := rfl
theorem e_wrapped (n : Nat) : Gam fds (n + 1) 0 = mkFn 1 1 (f_wrapped (Gam fds n)) := rfl
theorem e_calculate (n : Nat) : Gam fds (n + 1) 1 = mkFn 3 3 (f_calculate (Gam fds n)) := rfl
theorem e_law (n : Nat) : Gam fds (n + 1) 80 = mkFn 8 1 (f_law (Gam fds n)) := rfl
theorem state (G : FEnv) (ns : List Int) : ∃ m, mkFn 3 1 (f_w_state G) [.scr ns] [] = .ok (.loc 1) (St (ns.map fun i => if i < 0 then -i else i) m []) := by
  have hl := for_inv (g := gVar 2) (b := sAsg (e2 modV (e1 intV (e2 (addV false) (e2 (mulV false) (eVar 1) (eC (.int 31))) (eVar 2))) (eC (.int 1000003))) (gVar 1))
    (fun r ρ s => s = [] ∧ (∀ v ∈ r, ∃ i : Int, v = .t (.int i)) ∧ ∃ (a : Int) (x : Option Val), ρ = [some (.scr ns), some (.t (.int a)), x]) (by
    rintro v r ρ s ⟨rfl, hv, a, x, rfl⟩
    obtain ⟨i, rfl⟩ := hv v List.mem_cons_self
    refine ⟨_, [], _, [], rfl, ?_, rfl, fun w hw => hv w (List.mem_cons_of_mem _ hw), (a * 31 + i).fmod 1000003, some (.t (.int i)), rfl⟩
    have hm : mulOk a 31 = true := by unfold mulOk; simp
    simp [p_mul _ hm, p_mod]) (ns.map vI) [some (.scr ns), some (.t (.int 7)), none] [] ⟨rfl, fun v hv => by
      obtain ⟨i, _, rfl⟩ := List.mem_map.mp hv
      exact ⟨i, rfl⟩, 7, none, rfl⟩
  obtain ⟨ρ', s', h1, rfl, _, a, x, rfl⟩ := hl
  refine ⟨a + 1, fn_new (n := 1) ?_ rfl (by decide)⟩
  have hc : compL (gVar 2) none (e1 absV (e1 intV (eVar 2))) [some (.scr ns), some (.t (.int a)), none] (ns.map vI) [] = .ok ((ns.map vI).map fun v => match v with
      | .t (.int i) => .t (.int (if i < 0 then -i else i))
      | v => v) [] := by
    refine compL_map _ _ fun v hv => ?_
    obtain ⟨i, _, rfl⟩ := List.mem_map.mp hv
    exact ⟨_, rfl, rfl⟩
  have e1 : iterOf (.scr ns) [] = .ok (ns.map vI) [] := rfl
  simp [f_w_state, start, e1, h1, wipeE, hc, -p_vI]
  simp [St]
theorem wr_run (G : FEnv) (n : Int) (s : Store) : mkFn 1 1 (f_wrapped G) [.t (.int n)] s = .ok (.t (.int ((n + 2147483648).fmod 4294967296 - 2147483648))) s := by
  refine fn_rt ?_ rfl rfl rfl
  simp [f_wrapped, start, p_mod]
end Fl.k01
namespace Fl.k01
def Inr (i : Int) : Prop := -2147483648 ≤ i ∧ i ≤ 2147483647
theorem draw_at (n : Nat) (c : List Int) (m : Int) (r : Store) {k : Int} (hk : 0 < k) (hk2 : k < 2 ^ 60) (hc : c.length ≤ 63) : ∃ (v : Nat) (c' : List Int) (m' : Int), (v : Int) < k ∧ c'.length ≤ 63 ∧ Gam fds (n + 1) 75 [.loc 1, .t (.int k)] (St c m r) = .ok (.t (.int v)) (St c' m' r) := by
  rw [e_draw]
  exact draw _ c m r hk hk2 hc
theorem number (n : Nat) (c : List Int) (m : Int) (r : Store) (hc : c.length ≤ 63) : ∃ (v : Int) (c' : List Int) (m' : Int), Inr v ∧ c'.length ≤ 63 ∧ Gam fds (n + 3) 77 [.loc 1] (St c m r) = .ok (.t (.int v)) (St c' m' r) := by
  rw [e_number]
  obtain ⟨v, c1, m1, hv, hc1, h1⟩ := draw_at (n + 1) c m r (k := 6) (by decide) (by decide) hc
  have et : trees [Val.t (.int 0), .t (.int (-1)), .t (.int 2147483647), .t (.int (-2147483648)), .t (.int 65536)] = some [.int 0, .int (-1), .int 2147483647, .int (-2147483648), .int 65536] := rfl
  by_cases h0 : v = 0
  · obtain ⟨u, c2, m2, hu, hc2, h2⟩ := draw_at n c1 m1 r (k := 5) (by decide) (by decide) hc1
    have hp : ∃ w, Inr w ∧ Gam fds (n + 2) 76 [.loc 1, .t (.lst [.int 0, .int (-1), .int 2147483647, .int (-2147483648), .int 65536])] (St c1 m1 r) = .ok (.t (.int w)) (St c2 m2 r) := by
      rw [e_pick]
      have hu' : u < 5 := by omega
      have e5 : lenV (.t (.lst [.int 0, .int (-1), .int 2147483647, .int (-2147483648), .int 65536])) (St c1 m1 r) = .ok (.t (.int 5)) (St c1 m1 r) := rfl
      match u, hu' with
      | 0, _ => exact ⟨0, by unfold Inr; omega, fn_rt (by simp [f_w_pick, start, e5, h2]; rfl) rfl rfl rfl⟩
      | 1, _ => exact ⟨-1, by unfold Inr; omega, fn_rt (by simp [f_w_pick, start, e5, h2]; rfl) rfl rfl rfl⟩
      | 2, _ => exact ⟨2147483647, by unfold Inr; omega, fn_rt (by simp [f_w_pick, start, e5, h2]; rfl) rfl rfl rfl⟩
      | 3, _ => exact ⟨-2147483648, by unfold Inr; omega, fn_rt (by simp [f_w_pick, start, e5, h2]; rfl) rfl rfl rfl⟩
      | 4, _ => exact ⟨65536, by unfold Inr; omega, fn_rt (by simp [f_w_pick, start, e5, h2]; rfl) rfl rfl rfl⟩
    obtain ⟨w, hw, h3⟩ := hp
    refine ⟨w, c2, m2, hw, hc2, fn_rt ?_ rfl rfl rfl⟩
    subst h0
    simp [f_w_number, start, p_newLf et, h1, h3]
  · obtain ⟨u, c2, m2, hu, hc2, h2⟩ := draw_at (n + 1) c1 m1 r (k := 7) (by decide) (by decide) hc1
    refine ⟨u - 2, c2, m2, by unfold Inr; omega, hc2, fn_rt ?_ rfl rfl rfl⟩
    have : ((v : Int) == 0) = false := by simpa using h0
    simp [f_w_number, start, p_newLf et, h1, this, h2]
/-! ### what is told, what is due -/
abbrev wr (n : Int) : Int := (n + 2147483648).fmod 4294967296 - 2147483648
theorem wr_at (n : Nat) (x : Int) (s : Store) : Gam fds (n + 1) 0 [.t (.int x)] s = .ok (.t (.int (wr x))) s := by
  rw [e_wrapped]
  exact wr_run _ x s
theorem fm' (i k : Int) (h : 0 < k) : i.fmod k = i % k := Int.fmod_eq_emod_of_nonneg i (by omega)
theorem wr_in {x : Int} (h : Inr x) : wr x = x := by
  unfold Inr at h
  unfold wr
  rw [fm' _ _ (by decide)]
  omega
theorem wr_rng (x : Int) : Inr (wr x) := by
  unfold Inr wr
  rw [fm' _ _ (by decide)]
  omega
theorem wr_diff (x : Int) : (wr x - x).fmod 4294967296 = 0 := by
  unfold wr
  rw [fm' _ _ (by decide), fm' _ _ (by decide)]
  omega
theorem div_rng {x y : Int} (hx : -2147483648 ≤ x ∧ x ≤ 2147483648) (hy : 0 < y) (h : x = 2147483648 → y ≠ 1) : Inr (x / y) := by
  unfold Inr
  have h1 := Int.mul_ediv_add_emod x y
  have h2 := Int.emod_nonneg x (show y ≠ 0 by omega)
  have h3 := Int.emod_lt_of_pos x hy
  generalize x / y = z at *
  generalize x % y = t at *
  constructor
  · by_cases hz : z < -2147483648
    · have : y * z ≤ 1 * z := Int.mul_le_mul_of_nonpos_right (by omega) (by omega)
      have h5 : y * (z + 2147483649) ≤ 0 := Int.mul_nonpos_of_nonneg_of_nonpos (by omega) (by omega)
      rw [Int.mul_add] at h5
      have : y * 2147483649 ≥ y * 1 := Int.mul_le_mul_of_nonneg_left (by decide) (by omega)
      omega
    · omega
  · by_cases hz : 2147483647 < z
    · have : y * z ≥ 1 * z := Int.mul_le_mul_of_nonneg_right (by omega) (by omega)
      have hx' : x = 2147483648 := by omega
      have hy1 : y = 1 := by
        have h6 := h hx'
        have : y * z ≥ 2 * z := Int.mul_le_mul_of_nonneg_right (by omega) (by omega)
        omega
      exact absurd hy1 (h hx')
    · omega
theorem fdiv_rng {a b : Int} (ha : Inr a) (hb : b ≠ 0) (h : ¬ (a = -2147483648 ∧ b = -1)) : Inr (a.fdiv b) := by
  unfold Inr at ha
  by_cases hp : 0 < b
  · rw [Int.fdiv_eq_ediv_of_nonneg a (by omega)]
    exact div_rng ⟨ha.1, by omega⟩ hp fun e => by omega
  · have e : a.fdiv b = (-a).fdiv (-b) := by rw [Int.neg_fdiv_neg]
    rw [e, Int.fdiv_eq_ediv_of_nonneg _ (by omega)]
    refine div_rng ⟨by omega, by omega⟩ (by omega) fun e1 e2 => h ⟨by omega, by omega⟩
theorem mul_in {a b : Int} (h : Inr a) : mulOk a b = true := by
  unfold Inr at h
  unfold mulOk
  simp
  left
  omega
theorem fdiv_in {a b : Int} (h : Inr b) (h0 : b ≠ 0) : fdivOk a b = true := by
  unfold Inr at h
  unfold fdivOk
  simp
  omega
end Fl.k01
namespace Fl.k01
theorem in2 (x a b : String) (s : Store) : inV (.t (.str x)) (.t (.tup [.str a, .str b])) s = .ok (a == x || b == x) s := by
  show (if (T.flat (.str x) && [T.str a, T.str b].all T.flat) = true then R.ok (inT (.str x) [.str a, .str b]) s else .bad) = _
  rw [if_pos (show (T.flat (.str x) && [T.str a, T.str b].all T.flat) = true from rfl)]
  show R.ok (T.eqv (.str a) (.str x) || (T.eqv (.str b) (.str x) || false)) s = _
  rw [T.eqv, T.eqv, Bool.or_false]
theorem tup2 (a b : String) (s : Store) : newT false [.t (.str a), .t (.str b)] s = .ok (.t (.tup [.str a, .str b])) s := rfl
/-- calculate, by its sign -/
theorem calcs (n : Nat) (a b : Int) (s : Store) (ha : Inr a) (hb : Inr b) :
    (b ≠ 0 → Gam fds (n + 2) 1 [.t (.str "/"), .t (.int a), .t (.int b)] s = .ok (.t (.int (wr (a.fdiv b)))) s ∧ Gam fds (n + 2) 1 [.t (.str "mod"), .t (.int a), .t (.int b)] s = .ok (.t (.int (a.fmod b))) s) ∧
    (b = 0 → Gam fds (n + 2) 1 [.t (.str "/"), .t (.int a), .t (.int b)] s = .exc ⟨"TrapError", none⟩ s ∧ Gam fds (n + 2) 1 [.t (.str "mod"), .t (.int a), .t (.int b)] s = .exc ⟨"TrapError", none⟩ s) ∧
    Gam fds (n + 2) 1 [.t (.str "+"), .t (.int a), .t (.int b)] s = .ok (.t (.int (wr (a + b)))) s ∧ Gam fds (n + 2) 1 [.t (.str "-"), .t (.int a), .t (.int b)] s = .ok (.t (.int (wr (a - b)))) s ∧
    Gam fds (n + 2) 1 [.t (.str "*"), .t (.int a), .t (.int b)] s = .ok (.t (.int (wr (a * b)))) s ∧ Gam fds (n + 2) 1 [.t (.str "min"), .t (.int a), .t (.int b)] s = .ok (.t (.int (if b < a then b else a))) s ∧
    Gam fds (n + 2) 1 [.t (.str "max"), .t (.int a), .t (.int b)] s = .ok (.t (.int (if b > a then b else a))) s ∧ Gam fds (n + 2) 1 [.t (.str "<"), .t (.int a), .t (.int b)] s = .ok (.t (.int (if a < b then 1 else 0))) s ∧
    Gam fds (n + 2) 1 [.t (.str "="), .t (.int a), .t (.int b)] s = .ok (.t (.int (if a = b then 1 else 0))) s := by
  rw [e_calculate]
  refine ⟨fun h0 => ⟨fn_rt ?_ rfl rfl rfl, fn_rt ?_ rfl rfl rfl⟩, fun h0 => ⟨fn_ex (ρ := [some (.t (.str "/")), some (.t (.int a)), some (.t (.int b))]) ?_ rfl rfl, fn_ex (ρ := [some (.t (.str "mod")), some (.t (.int a)), some (.t (.int b))]) ?_ rfl rfl⟩, fn_rt ?_ rfl rfl rfl, fn_rt ?_ rfl rfl rfl, fn_rt ?_ rfl rfl rfl, fn_rt ?_ rfl rfl rfl, fn_rt ?_ rfl rfl rfl, fn_rt ?_ rfl rfl rfl, fn_rt ?_ rfl rfl rfl⟩
  · simp [f_calculate, start, tup2, in2, h0, p_fdiv (fdiv_in hb h0), wr_at]
  · simp [f_calculate, start, tup2, in2, h0, p_mod]
  · simp [f_calculate, start, tup2, in2, h0]
  · simp [f_calculate, start, tup2, in2, h0]
  · simp [f_calculate, start, tup2, in2, wr_at]
  · simp [f_calculate, start, tup2, in2, wr_at]
  · simp [f_calculate, start, tup2, in2, wr_at, p_mul _ (mul_in ha)]
  · simp [f_calculate, start, tup2, in2]
  · simp [f_calculate, start, tup2, in2]
  · simp [f_calculate, start, tup2, in2]
  · simp [f_calculate, start, tup2, in2]
/-- an int, a text -/
def Flat1 (d : T) : Prop := (∃ i, d = .int i) ∨ ∃ x, d = .str x
theorem eq_self {d : T} (h : Flat1 d) (s : Store) : eqV (.t d) (.t d) s = .ok true s := by
  rcases h with ⟨i, rfl⟩ | ⟨x, rfl⟩ <;> simp
theorem isb_flat {d : T} (h : Flat1 d) (s : Store) : isiV "bool" (.t d) s = .ok false s := by
  rcases h with ⟨i, rfl⟩ | ⟨x, rfl⟩ <;> rfl
theorem told_ok {n : Nat} {x : String} {a b : Int} {s : Store} {d : T} (h : Gam fds (n + 1) 1 [.t (.str x), .t (.int a), .t (.int b)] s = .ok (.t d) s) : Gam fds (n + 2) 78 [.t (.str x), .t (.int a), .t (.int b)] s = .ok (.t d) s := by
  rw [e_told]
  refine fn_rt ?_ rfl rfl rfl
  simp only [f_w_told, p_seq', sTry, p_ret, p_call, p_vals, p_vals0, start, List.map, List.cons_append, List.nil_append, p_var0, p_var1, p_var2, p_ok, h, p_sok]
theorem told_trap {n : Nat} {x : String} {a b : Int} {s : Store} (h : Gam fds (n + 1) 1 [.t (.str x), .t (.int a), .t (.int b)] s = .exc ⟨"TrapError", none⟩ s) : Gam fds (n + 2) 78 [.t (.str x), .t (.int a), .t (.int b)] s = .ok (.t (.str "trap")) s := by
  rw [e_told]
  refine fn_rt ?_ rfl rfl rfl
  simp [f_w_told, sTry, start, h, excSub, isiE]
theorem due_tail (G : FEnv) (x : String) (a b : Int) (s : Store) (hx : x = "+" ∨ x = "-" ∨ x = "*") (ha : Inr a) : mkFn 4 3 (f_w_due G) [.t (.str x), .t (.int a), .t (.int b)] s = .ok (.t (.int (wr (if x = "+" then a + b else if x = "-" then a - b else a * b)))) s := by
  have e3 : ∀ y z w : T, newD false (dmerge [] [(Key.s "+", .t y), (Key.s "-", .t z), (Key.s "*", .t w)]) s = .ok (.t (.dct [(.s "+", y), (.s "-", z), (.s "*", w)])) s := fun _ _ _ => rfl
  have g1 : ∀ y z w : T, subI (.t (.dct [(.s "+", y), (.s "-", z), (.s "*", w)])) (.t (.str "+")) s = .ok (.t y) s := fun _ _ _ => rfl
  have g2 : ∀ y z w : T, subI (.t (.dct [(.s "+", y), (.s "-", z), (.s "*", w)])) (.t (.str "-")) s = .ok (.t z) s := fun _ _ _ => rfl
  have g3 : ∀ y z w : T, subI (.t (.dct [(.s "+", y), (.s "-", z), (.s "*", w)])) (.t (.str "*")) s = .ok (.t w) s := fun _ _ _ => rfl
  refine fn_rt ?_ rfl rfl rfl
  rcases hx with rfl | rfl | rfl
  · simp [f_w_due, start, tup2, in2, p_mul _ (mul_in ha), keyOf, e3, g1, p_mod]
  · simp [f_w_due, start, tup2, in2, p_mul _ (mul_in ha), keyOf, e3, g2, p_mod]
  · simp [f_w_due, start, tup2, in2, p_mul _ (mul_in ha), keyOf, e3, g3, p_mod]
def signs : List String := ["+", "-", "*", "/", "mod", "min", "max", "<", "="]
theorem both (n : Nat) (x : String) (hx : x ∈ signs) (a b : Int) (s : Store) (ha : Inr a) (hb : Inr b) : ∃ d, Flat1 d ∧ Gam fds (n + 3) 78 [.t (.str x), .t (.int a), .t (.int b)] s = .ok (.t d) s ∧ Gam fds (n + 3) 79 [.t (.str x), .t (.int a), .t (.int b)] s = .ok (.t d) s := by
  obtain ⟨c1, c2, c3, c4, c5, c6, c7, c8, c9⟩ := calcs n a b s ha hb
  have e2 : ∀ y z : Int, newL false [.t (.int y), .t (.int z)] s = .ok (.t (.lst [.int y, .int z])) s := fun _ _ => rfl
  have l0 : ∀ y z : Int, subI (.t (.lst [.int y, .int z])) (.t (.int 0)) s = .ok (.t (.int y)) s := fun _ _ => rfl
  have l1 : ∀ y z : Int, subI (.t (.lst [.int y, .int z])) (.t (.int 1)) s = .ok (.t (.int z)) s := fun _ _ => rfl
  simp only [signs, List.mem_cons, List.not_mem_nil, or_false] at hx
  rcases hx with rfl | rfl | rfl | rfl | rfl | rfl | rfl | rfl | rfl
  · exact ⟨_, .inl ⟨_, rfl⟩, told_ok c3, by rw [e_due, due_tail _ "+" a b s (by simp) ha]; rfl⟩
  · exact ⟨_, .inl ⟨_, rfl⟩, told_ok c4, by rw [e_due, due_tail _ "-" a b s (by simp) ha]; rfl⟩
  · exact ⟨_, .inl ⟨_, rfl⟩, told_ok c5, by rw [e_due, due_tail _ "*" a b s (by simp) ha]; rfl⟩
  · by_cases h0 : b = 0
    · refine ⟨.str "trap", .inr ⟨_, rfl⟩, told_trap (c2 h0).1, ?_⟩
      rw [e_due]
      refine fn_rt ?_ rfl rfl rfl
      simp [f_w_due, start, tup2, in2, h0]
    · by_cases hs : a = -2147483648 ∧ b = -1
      · refine ⟨_, .inl ⟨_, rfl⟩, told_ok (c1 h0).1, ?_⟩
        obtain ⟨rfl, rfl⟩ := hs
        rw [e_due]
        refine fn_rt ?_ rfl rfl rfl
        simp [f_w_due, start, tup2, in2]
        decide
      · refine ⟨_, .inl ⟨_, rfl⟩, told_ok (c1 h0).1, ?_⟩
        rw [wr_in (fdiv_rng ha h0 hs), e_due]
        refine fn_rt ?_ rfl rfl rfl
        by_cases h1 : a = -2147483648
        · have h2 : ¬ b = -1 := fun z => hs ⟨h1, z⟩
          simp [f_w_due, start, tup2, in2, h0, h1, h2]
          rw [h1] at *
          simp [p_fdiv (fdiv_in hb h0)]
        · simp [f_w_due, start, tup2, in2, h0, h1, p_fdiv (fdiv_in hb h0)]
  · by_cases h0 : b = 0
    · refine ⟨.str "trap", .inr ⟨_, rfl⟩, told_trap (c2 h0).2, ?_⟩
      rw [e_due]
      refine fn_rt ?_ rfl rfl rfl
      simp [f_w_due, start, tup2, in2, h0]
    · refine ⟨_, .inl ⟨_, rfl⟩, told_ok (c1 h0).2, ?_⟩
      rw [e_due]
      refine fn_rt ?_ rfl rfl rfl
      simp [f_w_due, start, tup2, in2, h0, p_mod]
  · refine ⟨_, .inl ⟨_, rfl⟩, told_ok c6, ?_⟩
    rw [e_due]
    refine fn_rt ?_ rfl rfl rfl
    simp [f_w_due, start, tup2, in2, e2, l0]
  · refine ⟨_, .inl ⟨_, rfl⟩, told_ok c7, ?_⟩
    rw [e_due]
    refine fn_rt ?_ rfl rfl rfl
    simp [f_w_due, start, tup2, in2, e2, l1]
  · refine ⟨_, .inl ⟨_, rfl⟩, told_ok c8, ?_⟩
    rw [e_due]
    refine fn_rt ?_ rfl rfl rfl
    by_cases h : a < b <;> simp [f_w_due, start, tup2, in2, h]
  · refine ⟨_, .inl ⟨_, rfl⟩, told_ok c9, ?_⟩
    rw [e_due]
    refine fn_rt ?_ rfl rfl rfl
    by_cases h : a = b <;> simp [f_w_due, start, tup2, in2, h]
end Fl.k01
namespace Fl.k01
abbrev iv (i : Int) : Val := .t (.int i)
def Rw3 (ns : List Int) (a b c : Int) (x3 x4 x5 x6 x7 : Option Val) : Env := [some (.scr ns), some (.loc 1), some (.t (.lst [.int a, .int b, .int c])), x3, x4, x5, x6, x7]
def Ints (r : List Val) : Prop := ∀ v ∈ r, ∃ i, v = iv i ∧ Inr i
theorem rows_ints {a b c : Int} (ha : Inr a) (hb : Inr b) (hc : Inr c) : Ints [iv a, iv b, iv c] := by
  intro v hv
  simp only [List.mem_cons, List.not_mem_nil, or_false] at hv
  rcases hv with rfl | rfl | rfl
  · exact ⟨a, rfl, ha⟩
  · exact ⟨b, rfl, hb⟩
  · exact ⟨c, rfl, hc⟩
section
variable {ns : List Int} {a b c : Int} {n : Nat} {s : Store}
def body1 (G : FEnv) : SM := sSeq (sAsg (eCall G 78 [eVar 3, eVar 4, eVar 5]) (gVar 6)) (sIf (tOr (tIsi "bool" (eVar 6)) (tNe (eVar 6) (eCall G 79 [eVar 3, eVar 4, eVar 5]))) (sRet (eC (.bl false))) (sNil))
theorem b1 (x : String) (hx : x ∈ signs) {i j : Int} (hi : Inr i) (hj : Inr j) (x6 x7 : Option Val) : ∃ y, body1 (Gam fds (n + 3)) (Rw3 ns a b c (some (.t (.str x))) (some (iv i)) (some (iv j)) x6 x7) s = .nx (Rw3 ns a b c (some (.t (.str x))) (some (iv i)) (some (iv j)) y x7) s := by
  obtain ⟨d, hd, h1, h2⟩ := both n x hx i j s hi hj
  refine ⟨some (.t d), ?_⟩
  simp [body1, Rw3, h1, h2, isb_flat hd, eq_self hd]
theorem b2 (ha : Inr a) (hb : Inr b) (hc : Inr c) (x : String) (hx : x ∈ signs) {i : Int} (hi : Inr i) (x5 x6 x7 : Option Val) :
    ∃ y z, sFor (iV (eVar 2)) (gVar 5) (body1 (Gam fds (n + 3))) (Rw3 ns a b c (some (.t (.str x))) (some (iv i)) x5 x6 x7) s = .nx (Rw3 ns a b c (some (.t (.str x))) (some (iv i)) y z x7) s := by
  obtain ⟨ρ, s', h1, rfl, _, y, z, rfl⟩ := for_inv (g := gVar 5) (b := body1 (Gam fds (n + 3))) (fun r ρ s' => s' = s ∧ Ints r ∧ ∃ y z, ρ = Rw3 ns a b c (some (.t (.str x))) (some (iv i)) y z x7) (by
    rintro v r ρ s' ⟨rfl, hr, y, z, rfl⟩
    obtain ⟨j, rfl, hj⟩ := hr v List.mem_cons_self
    obtain ⟨w, hw⟩ := b1 (ns := ns) (a := a) (b := b) (c := c) (n := n) (s := s') x hx hi hj z x7
    exact ⟨_, _, _, _, rfl, hw, rfl, fun u hu => hr u (List.mem_cons_of_mem _ hu), _, _, rfl⟩) [iv a, iv b, iv c] _ s ⟨rfl, rows_ints ha hb hc, x5, x6, rfl⟩
  exact ⟨y, z, h1⟩
theorem b3 (ha : Inr a) (hb : Inr b) (hc : Inr c) (x : String) (hx : x ∈ signs) (x4 x5 x6 x7 : Option Val) :
    ∃ x4 y z, sFor (iV (eVar 2)) (gVar 4) (sFor (iV (eVar 2)) (gVar 5) (body1 (Gam fds (n + 3)))) (Rw3 ns a b c (some (.t (.str x))) x4 x5 x6 x7) s = .nx (Rw3 ns a b c (some (.t (.str x))) x4 y z x7) s := by
  obtain ⟨ρ, s', h1, rfl, _, w, y, z, rfl⟩ := for_inv (g := gVar 4) (b := sFor (iV (eVar 2)) (gVar 5) (body1 (Gam fds (n + 3)))) (fun r ρ s' => s' = s ∧ Ints r ∧ ∃ w y z, ρ = Rw3 ns a b c (some (.t (.str x))) w y z x7) (by
    rintro v r ρ s' ⟨rfl, hr, w, y, z, rfl⟩
    obtain ⟨j, rfl, hj⟩ := hr v List.mem_cons_self
    obtain ⟨y', z', hw⟩ := b2 (ns := ns) (a := a) (b := b) (c := c) (n := n) (s := s') ha hb hc x hx hj y z x7
    exact ⟨_, _, _, _, rfl, hw, rfl, fun u hu => hr u (List.mem_cons_of_mem _ hu), _, _, _, rfl⟩) [iv a, iv b, iv c] _ s ⟨rfl, rows_ints ha hb hc, x4, x5, x6, rfl⟩
  exact ⟨w, y, z, h1⟩
theorem b4 (ha : Inr a) (hb : Inr b) (hc : Inr c) (it : CI) (hit : ∀ ρ s, it ρ s = .ok (signs.map fun x => .t (.str x)) s) :
    ∃ x3 x4 y z, sFor it (gVar 3) (sFor (iV (eVar 2)) (gVar 4) (sFor (iV (eVar 2)) (gVar 5) (body1 (Gam fds (n + 3))))) (Rw3 ns a b c none none none none none) s = .nx (Rw3 ns a b c x3 x4 y z none) s := by
  obtain ⟨ρ, s', h1, rfl, _, x3, w, y, z, rfl⟩ := for_inv (g := gVar 3) (b := sFor (iV (eVar 2)) (gVar 4) (sFor (iV (eVar 2)) (gVar 5) (body1 (Gam fds (n + 3))))) (fun r ρ s' => s' = s ∧ (∀ v ∈ r, ∃ x, v = .t (.str x) ∧ x ∈ signs) ∧ ∃ x3 w y z, ρ = Rw3 ns a b c x3 w y z none) (by
    rintro v r ρ s' ⟨rfl, hr, x3, w, y, z, rfl⟩
    obtain ⟨x, rfl, hx⟩ := hr v List.mem_cons_self
    obtain ⟨w', y', z', hw⟩ := b3 (ns := ns) (a := a) (b := b) (c := c) (n := n) (s := s') ha hb hc x hx w y z none
    exact ⟨_, _, _, _, rfl, hw, rfl, fun u hu => hr u (List.mem_cons_of_mem _ hu), _, _, _, _, rfl⟩) (signs.map fun x => .t (.str x)) _ s ⟨rfl, fun v hv => by
      obtain ⟨x, hx, rfl⟩ := List.mem_map.mp hv
      exact ⟨x, rfl, hx⟩, none, none, none, none, rfl⟩
  refine ⟨x3, w, y, z, ?_⟩
  rw [p_for, hit]
  exact h1
def body2 (G : FEnv) : SM := sSeq (sAsg (eCall G 0 [eVar 7]) (gVar 6)) (sIf (tOr (tIsi "bool" (eVar 6)) (tOr (tLt (eVar 6) (e1 negV (eC (.int 2147483648)))) (tOr (tGt (eVar 6) (eC (.int 2147483647))) (tNe (e2 modV (e1 intV (e2 subV (eVar 6) (eVar 7))) (eC (.int 4294967296))) (eC (.int 0)))))) (sRet (eC (.bl false))) (sNil))
theorem b5 (it : CI) (hit : ∀ x3 x4 x5 x6, ∃ vs : List Int, it (Rw3 ns a b c x3 x4 x5 x6 none) s = .ok (vs.map iv) s) (x3 x4 x5 x6 : Option Val) : ∃ y z, sFor it (gVar 7) (body2 (Gam fds (n + 3))) (Rw3 ns a b c x3 x4 x5 x6 none) s = .nx (Rw3 ns a b c x3 x4 x5 y z) s := by
  obtain ⟨vs, hv⟩ := hit x3 x4 x5 x6
  obtain ⟨ρ, s', h1, rfl, _, y, z, rfl⟩ := for_inv (g := gVar 7) (b := body2 (Gam fds (n + 3))) (fun r ρ s' => s' = s ∧ (∀ v ∈ r, ∃ x, v = iv x) ∧ ∃ y z, ρ = Rw3 ns a b c x3 x4 x5 y z) (by
    rintro v r ρ s' ⟨rfl, hr, y, z, rfl⟩
    obtain ⟨x, rfl⟩ := hr v List.mem_cons_self
    refine ⟨_, _, Rw3 ns a b c x3 x4 x5 (some (iv (wr x))) (some (iv x)), s', rfl, ?_, rfl, fun u hu => hr u (List.mem_cons_of_mem _ hu), _, _, rfl⟩
    obtain ⟨r1, r2⟩ := wr_rng x
    have q1 : ¬ wr x < -2147483648 := by omega
    have q2 : ¬ 2147483647 < wr x := by omega
    have q3 := wr_diff x
    have q4 := wr_at (n + 2) x s'
    have q5 : isiV "bool" (.t (.int (wr x))) s' = .ok false s' := rfl
    simp only [body2, Rw3, p_seq', p_asgV, p_call, p_vals, p_vals0, p_var7, p_ok, q4, p_sok, List.set, p_if, p_tOr, p_tIsi, p_var6, q5, p_tLt, p_tGt, p_tNe, p_e1, p_e2, p_eC, p_neg, p_lt, p_sub, p_intV, p_mod (show (4294967296 : Int) ≠ 0 by decide), q3, p_eqI]
    simp [q1, q2]) (vs.map iv) _ s ⟨rfl, fun v hv => by
      obtain ⟨x, hx, rfl⟩ := List.mem_map.mp hv
      exact ⟨x, rfl⟩, x6, none, rfl⟩
  refine ⟨y, z, ?_⟩
  rw [p_for, hv]
  exact h1
end
theorem plain (ns : List Int) (h : ns.length ≤ 63) : ∃ s, Gam fds 591 80 [.scr ns] [] = .ok (vB true) s := by
  rw [show 591 = 590 + 1 from rfl, e_law]
  obtain ⟨m, h0⟩ := state (Gam fds 589) ns
  have hl : (ns.map fun i => if i < 0 then -i else i).length ≤ 63 := by rw [List.length_map]; exact h
  obtain ⟨a, c1, m1, ha, hc1, h1⟩ := number 587 _ m [] hl
  obtain ⟨b, c2, m2, hb, hc2, h2⟩ := number 587 c1 m1 [] hc1
  obtain ⟨v, c3, m3, hv, hc3, h3⟩ := draw_at 589 c2 m2 [] (k := 4294967296) (by decide) (by decide) hc2
  have hc : Inr (v - 2147483648) := by unfold Inr; omega
  obtain ⟨x3, x4, x5, x6, h4⟩ := b4 (ns := ns) (n := 587) (s := St c3 m3 []) ha hb hc (iV (eLst false [eC (.str "+"), eC (.str "-"), eC (.str "*"), eC (.str "/"), eC (.str "mod"), eC (.str "min"), eC (.str "max"), eC (.str "<"), eC (.str "=")])) fun ρ s => rfl
  have q1 : mulOk a 4294967296 = true := mul_in ha
  have q2 : mulOk (v - 2147483648) (v - 2147483648) = true := mul_in hc
  have q3 : mulOk b 3000000000 = true := mul_in hb
  have l0 : ∀ s, subI (.t (.lst [.int a, .int b, .int (v - 2147483648)])) (.t (.int 0)) s = .ok (.t (.int a)) s := fun _ => rfl
  have l1 : ∀ s, subI (.t (.lst [.int a, .int b, .int (v - 2147483648)])) (.t (.int 1)) s = .ok (.t (.int b)) s := fun _ => rfl
  have l2 : ∀ s, subI (.t (.lst [.int a, .int b, .int (v - 2147483648)])) (.t (.int 2)) s = .ok (.t (.int (v - 2147483648))) s := fun _ => rfl
  have hit : ∀ x3 x4 x5 x6, ∃ vs : List Int, (iV (e2 (addV false) (eVar 2) (eLst false [e2 (addV false) (e2 (mulV false) (e2 subI (eVar 2) (eC (.int 0))) (eC (.int 4294967296))) (eC (.int 5)), e2 (mulV false) (e2 subI (eVar 2) (eC (.int 2))) (e2 subI (eVar 2) (eC (.int 2))), e2 subV (eC (.int 0)) (e2 (mulV false) (e2 subI (eVar 2) (eC (.int 1))) (eC (.int 3000000000)))])))
      (Rw3 ns a b (v - 2147483648) x3 x4 x5 x6 none) (St c3 m3 []) = .ok (vs.map iv) (St c3 m3 []) := fun x3 x4 x5 x6 => by
    refine ⟨[a, b, v - 2147483648, a * 4294967296 + 5, (v - 2147483648) * (v - 2147483648), 0 - b * 3000000000], ?_⟩
    simp [Rw3, l0, l1, l2, p_mul _ q1, p_mul _ q2, p_mul _ q3]
    rfl
  obtain ⟨y6, y7, h5⟩ := b5 (n := 587) _ hit x3 x4 x5 x6
  refine ⟨[], fn_long (s' := St c3 m3 []) ?_ rfl rfl trivial⟩
  have e0 : start 8 [.scr ns] = [some (.scr ns), none, none, none, none, none, none, none] := rfl
  have s1 : sAsg (eCall (Gam fds 590) 74 [eVar 0]) (gVar 1) [some (.scr ns), none, none, none, none, none, none, none] [] = .nx [some (.scr ns), some (.loc 1), none, none, none, none, none, none] (St (ns.map fun i => if i < 0 then -i else i) m []) := by
    rw [← e_state] at h0
    simp [h0]
  have s2 : sAsg (eLst false [eCall (Gam fds 590) 77 [eVar 1], eCall (Gam fds 590) 77 [eVar 1], e2 subV (eCall (Gam fds 590) 75 [eVar 1, eC (.int 4294967296)]) (eC (.int 2147483648))]) (gVar 2) [some (.scr ns), some (.loc 1), none, none, none, none, none, none] (St (ns.map fun i => if i < 0 then -i else i) m []) = .nx (Rw3 ns a b (v - 2147483648) none none none none none) (St c3 m3 []) := by
    simp [h1, h2, h3, Rw3]
    rfl
  rw [e0]
  unfold f_law
  exact (p_seq s1).trans ((p_seq s2).trans ((p_seq h4).trans ((p_seq h5).trans rfl)))
end Fl.k01
set_option Elab.async false
set_option linter.all false
set_option maxRecDepth 100000
set_option maxHeartbeats 0
namespace Fl.k01
theorem lx (fd : FD) (h : fds.lookup 80 = some fd) : fd.ps = [("_law_script" : PySem.Str)] := by
  have e : fds.lookup 80 = some fd_f_law := rfl
  rw [e] at h
  injection h with h
  subst h
  rfl
theorem lname : (HandSHeadRun.topDef Rw.prog 16).name = ("law" : PySem.Str) := by kernel_rfl
theorem lmem : ((HandSHeadRun.topDef Rw.prog 16).name, 80, 1) ∈ tb.fns := List.mem_of_getElem? (i := 8) (by kernel_rfl)
theorem ldf : (HandSHeadRun.topDef Rw.prog 16).params.defaults = [] := by kernel_rfl
end Fl.k01
set_option Elab.async false
set_option linter.all false
set_option maxRecDepth 100000
set_option maxHeartbeats 0
open PySem PySem.W PySem.Calls PyProof.Rows
theorem Fl.k01.walk : PySem.W.WalkO (view Fl.k01.Rw.prog [16]) Fl.k01.loose (XL (view Fl.k01.Rw.prog [16]) []) Fl.k01.hkL.says (PySem.Challenge.rw_flatsheaves_k01_numbers).row.toRowW (HandSHeadRun.topDef Fl.k01.Rw.prog 16) [] (fun f vs => PySem.call f vs) :=
  Fl.law_end (l := PySem.Challenge.rw_flatsheaves_k01_numbers) (x := ("_law_script" : PySem.Str)) rfl Fl.k01.ldf Fl.k01.tabok 80 590 (by decide) Fl.k01.lmem Fl.k01.lx Fl.k01.plain
set_option Elab.async false
set_option linter.all false
set_option maxRecDepth 100000
set_option maxHeartbeats 0
namespace Fl.k01
def ob (s : PySem.W.SharedT) : He.AlD × Bool := obF 5 fa (fds.map (·.2.d)) (exAll tb ets) s
theorem ob_eq (s : PySem.W.SharedT) : ob s = hkL.obs s.abs := obF_eq _ _ _ _ s
end Fl.k01
open PySem PySem.W PySem.Calls PyProof.Rows
theorem PySem.Challenge.cw_flatsheaves_k01_numbers_holds : PySem.Challenge.rw_flatsheaves_k01_numbers.Holds := by
  w_on; o_law
  refine HandSHeadRun.head_any (r := OpenLaw.row PySem.Challenge.rw_flatsheaves_k01_numbers) (q := view Fl.k01.Rw.prog [16]) (H := Fl.k01.hkL) (ob := Fl.k01.ob) (M := 20000) (loose := Fl.k01.loose) (d := HandSHeadRun.topDef Fl.k01.Rw.prog 16) (kwd := [])
    Fl.k01.ob_eq ?a1 ?a2 Fl.k01.run ?a3 ?a4 ?a5 ?a6 ?a7 ?a8 ?a9 ?hw Fl.k01.walk
  case a1 => kernel_rfl
  case a2 => exact fun s => by kernel_rfl
  case a3 => kernel_rfl
  case a4 => kernel_rfl
  case a5 => kernel_rfl
  case a6 => kernel_rfl
  case a7 => first | assumption | decide +kernel
  case a8 => decide +kernel
  case a9 => exact ⟨rfl, rfl, rfl, rfl, rfl, by decide +kernel⟩
  case hw => w_witness2
