import PyProof.Rows.All
import HandS.ForExc
import HandS.Iter
import HandS.Dict
import HandS.DictComp
import HandS.Comp
import HandS.Deep
import HandS.NoneIn
import HandS.More
import HandS.IsInst
import HandS.Wide
import HandS.TupAny
import HandS.Strs
import HandS.SetKeys
import HandS.TryOnly
import HandS.ExcIs
import HandS.ExcInit
import PyProof.StrLawsRepr
import PyProof.FitsInt
import HandS.SortInts
import HandS.WordsDict
import HandS.Style
import HandS.ExcOwn
import HandS.Small
import HandS.Ends
import HandS.HeadEnd
import HandS.HeadHook1
import HandS.HeadHook2
import HandS.Head2
import HandS.HeadWalk
import HandS.Words
import PyProof.ExcBaseAll.ValueError
import PyProof.ReprRoads
import HandS.FStrTup
import HandS.Conv
import HandS.SetFor
import PySem.Challenge.RW_flatsheaves_k05_layouts
/-! Fl: the mirror language: trees, cells, a small store; what a piece of the text computes, as plain functions. No library. -/
namespace Fl
/-- the longest list -/
abbrev L : Nat := 16777216

inductive Key where
  | i (n : Int)
  | s (x : String)
  deriving DecidableEq

/-- data: trees -/
inductive T where
  | non
  | bl (b : Bool)
  | int (i : Int)
  | str (x : String)
  | tup (xs : List T)
  | lst (xs : List T)
  | dct (kvs : List (Key × T))
  /-- the text repr(d) -/
  | rp (d : T)
  deriving Inhabited

structure Exc where
  cls : String
  at_ : Option T := none

inductive Val where
  | t (d : T)
  | loc (n : Nat)
  /-- the script -/
  | scr (ns : List Int)
  | ex (x : Exc)
  deriving Inhabited

inductive Cell where
  | lst (vs : List Val)
  | tup (vs : List Val)
  | dct (kvs : List (Key × Val))
  | ins (c : String) (fs : List (String × Val))
  | kd (kvs : List (T × Val))

abbrev Store := List (Option Cell)
abbrev Env := List (Option Val)

inductive R (α : Type) where
  | ok (a : α) (s : Store)
  | exc (x : Exc) (s : Store)
  | bad

abbrev M (α : Type) := Store → R α

/-- a piece that gives a, then k -/
@[inline] def R.bind {α β : Type} (r : R α) (k : α → M β) : R β := match r with
  | .ok a s => k a s
  | .exc x s => .exc x s
  | .bad => .bad
def M.bind {α β : Type} (m : M α) (k : α → M β) : M β := fun s => (m s).bind k
def M.pure {α : Type} (a : α) : M α := fun s => .ok a s
def bad {α : Type} : M α := fun _ => .bad
instance : Monad M where
  pure := M.pure
  bind := M.bind
theorem bind_eq {α β : Type} (m : M α) (k : α → M β) (s : Store) : (m >>= k) s = (m s).bind k := rfl
theorem pure_eq {α : Type} (a : α) (s : Store) : (pure a : M α) s = .ok a s := rfl
theorem bind_ok {α β : Type} (a : α) (s : Store) (k : α → M β) : (R.ok a s).bind k = k a s := rfl
theorem bind_exc {α β : Type} (x : Exc) (s : Store) (k : α → M β) : (R.exc x s : R α).bind k = .exc x s := rfl
theorem bind_bad {α β : Type} (k : α → M β) : (R.bad : R α).bind k = .bad := rfl

/-! ### trees -/
mutual
def T.beq : T → T → Bool
  | .non, .non => true
  | .bl a, .bl b => a == b
  | .int a, .int b => a == b
  | .str a, .str b => a == b
  | .tup a, .tup b => T.beqs a b
  | .lst a, .lst b => T.beqs a b
  | .dct a, .dct b => T.beqk a b
  | .rp a, .rp b => T.beq a b
  | _, _ => false
def T.beqs : List T → List T → Bool
  | [], [] => true
  | a :: r, b :: q => T.beq a b && T.beqs r q
  | _, _ => false
def T.beqk : List (Key × T) → List (Key × T) → Bool
  | [], [] => true
  | a :: r, b :: q => T.beqp a b && T.beqk r q
  | _, _ => false
def T.beqp : Key × T → Key × T → Bool
  | (k, a), (l, b) => decide (k = l) && T.beq a b
end
/-- Python's ==; none: not told -/
def optAnd (a b : Option Bool) : Option Bool := match a, b with
  | some x, some y => some (x && y)
  | _, _ => none
/-- what == may be asked of: no dicts, no reprs, not too deep -/
def T.plain : Nat → T → Bool
  | _, .non => true
  | _, .bl _ => true
  | _, .int _ => true
  | _, .str _ => true
  | n + 1, .tup a => a.all (T.plain n)
  | n + 1, .lst a => a.all (T.plain n)
  | _, _ => false
def T.flat : T → Bool
  | .non => true
  | .bl _ => true
  | .int _ => true
  | .str _ => true
  | _ => false
mutual
/-- at least the length of the text repr(d) -/
def T.rlen : T → Nat
  | .non => 4
  | .bl _ => 5
  | .int i => if i.natAbs < 2 ^ 64 then 70 else L + 1
  | .str x => 10 * x.length + 2
  | .tup a => T.rlens a + 3
  | .lst a => T.rlens a + 3
  | _ => L + 1
def T.rlens : List T → Nat
  | [] => 0
  | a :: r => T.rlen a + 2 + T.rlens r
end
mutual
def T.eqv : T → T → Bool
  | .non, .non => true
  | .bl a, .bl b => a == b
  | .bl a, .int j => (if a then 1 else 0) == j
  | .int i, .bl b => i == (if b then 1 else 0)
  | .int a, .int b => a == b
  | .str a, .str b => a == b
  | .tup a, .tup b => T.eqvs a b
  | .lst a, .lst b => T.eqvs a b
  | _, _ => false
def T.eqvs : List T → List T → Bool
  | [], [] => true
  | a :: r, b :: q => T.eqv a b && T.eqvs r q
  | _, _ => false
end
def T.eq? (a b : T) : Option Bool := match a, b with
  | .rp c, .rp d => if T.beq c d then some true else none
  | a, b => if T.plain 60 a && T.plain 60 b then some (T.eqv a b) else none

/-- the place that a Python index means -/
def pyIx (n : Nat) (i : Int) : Option Nat :=
  if 0 ≤ i then (if i < n then some i.toNat else none) else if -(n : Int) ≤ i then some (i + n).toNat else none
/-- a bound of a slice -/
def pyCut (n d : Nat) : Option Int → Nat
  | none => d
  | some i => if i < 0 then (i + n).toNat else min i.toNat n
def slice {α : Type} (xs : List α) (a b : Option Int) : List α := (xs.drop (pyCut xs.length 0 a)).take (pyCut xs.length xs.length b - pyCut xs.length 0 a)

/-! ### reading cells -/
def Store.cell (s : Store) (n : Nat) : Option Cell := (s[n]?).join
def items (v : Val) : M (List Val) := fun s => match v with
  | .scr ns => .ok (ns.map fun i => .t (.int i)) s
  | .t (.lst ts) => .ok (ts.map .t) s
  | .t (.tup ts) => .ok (ts.map .t) s
  | .loc n => match s.cell n with
    | some (.lst vs) => .ok vs s
    | some (.tup vs) => .ok vs s
    | _ => .bad
  | _ => .bad
/-- the items of a list alone -/
def itemsL (v : Val) : M (List Val) := fun s => match v with
  | .t (.lst ts) => .ok (ts.map .t) s
  | .loc n => match s.cell n with
    | some (.lst vs) => .ok vs s
    | _ => .bad
  | _ => .bad
def dictOf (v : Val) : M (List (Key × Val)) := fun s => match v with
  | .t (.dct kvs) => .ok (kvs.map fun p => (p.1, .t p.2)) s
  | .loc n => match s.cell n with
    | some (.dct kvs) => .ok kvs s
    | _ => .bad
  | _ => .bad
/-- the trees among values, if all are -/
def trees : List Val → Option (List T)
  | [] => some []
  | .t d :: r => match trees r with
    | some q => some (d :: q)
    | none => none
  | _ :: _ => none
def treesK : List (Key × Val) → Option (List (Key × T))
  | [] => some []
  | (k, .t d) :: r => match treesK r with
    | some q => some ((k, d) :: q)
    | none => none
  | _ :: _ => none
theorem trees_map (ts : List T) : trees (ts.map .t) = some ts := by
  induction ts with
  | nil => rfl
  | cons d r ih => simp [trees, ih]
/-- a new list: a tree, or a cell -/
def newL (cell : Bool) (vs : List Val) : M Val := fun s => match cell with
  | true => .ok (.loc s.length) (s ++ [some (.lst vs)])
  | false => match trees vs with
    | some ts => .ok (.t (.lst ts)) s
    | none => .bad
def newT (cell : Bool) (vs : List Val) : M Val := fun s => match cell with
  | true => .ok (.loc s.length) (s ++ [some (.tup vs)])
  | false => match trees vs with
    | some ts => .ok (.t (.tup ts)) s
    | none => .bad
def newD (cell : Bool) (kvs : List (Key × Val)) : M Val := fun s => match cell with
  | true => .ok (.loc s.length) (s ++ [some (.dct kvs)])
  | false => match treesK kvs with
    | some ts => .ok (.t (.dct ts)) s
    | none => .bad
/-- a cell becomes a tree; it is written no more -/
def freeze (v : Val) : M Val := fun s => match v with
  | .t d => .ok (.t d) s
  | .loc n => match s.cell n with
    | some (.lst vs) => match trees vs with
      | some ts => .ok (.t (.lst ts)) (s.set n none)
      | none => .bad
    | some (.tup vs) => match trees vs with
      | some ts => .ok (.t (.tup ts)) (s.set n none)
      | none => .bad
    | some (.dct kvs) => match treesK kvs with
      | some ts => .ok (.t (.dct ts)) (s.set n none)
      | none => .bad
    | _ => .bad
  | _ => .bad
def getInt (v : Val) : M Int := fun s => match v with
  | .t (.int i) => .ok i s
  | _ => .bad
def getB (v : Val) : M Bool := fun s => match v with
  | .t (.bl b) => .ok b s
  | _ => .bad
def vI (i : Int) : Val := .t (.int i)
def vB (b : Bool) : Val := .t (.bl b)
def vS (x : String) : Val := .t (.str x)
def vN : Val := .t .non

mutual
/-- the tree that a value stands for, through cells -/
def deep (s : Store) : Nat → Val → Option T
  | _, .t d => some d
  | 0, _ => none
  | f + 1, .loc n => match s.cell n with
    | some (.lst vs) => match deeps s f vs with
      | some ts => some (.lst ts)
      | none => none
    | some (.tup vs) => match deeps s f vs with
      | some ts => some (.tup ts)
      | none => none
    | _ => none
  | _, _ => none
def deeps (s : Store) : Nat → List Val → Option (List T)
  | _, [] => some []
  | 0, _ :: _ => none
  | f + 1, v :: r => match deep s f v with
    | some d => match deeps s f r with
      | some ts => some (d :: ts)
      | none => none
    | none => none
end
/-- deep enough -/
abbrev deepMax : Nat := 100000
def eqV (a b : Val) : M Bool := fun s => match a, b with
  | .t c, .t d => match T.eq? c d with
    | some r => .ok r s
    | none => .bad
  | a, b => match deep s deepMax a, deep s deepMax b with
    | some c, some d => match T.eq? c d with
      | some r => .ok r s
      | none => .bad
    | _, _ => .bad

/-! ### operators -/
def addV (cell : Bool) (a b : Val) : M Val := fun s => match a, b with
  | .t (.int i), .t (.int j) => .ok (vI (i + j)) s
  | .t (.str x), .t (.str y) => if x.length + y.length ≤ L then .ok (vS (x ++ y)) s else .bad
  | .t (.tup x), .t (.tup y) => if x.length + y.length ≤ L then .ok (.t (.tup (x ++ y))) s else .bad
  | a, b => ((itemsL a) >>= fun x => (itemsL b) >>= fun y => if x.length + y.length ≤ L then newL cell (x ++ y) else bad) s
def subV (a b : Val) : M Val := fun s => match a, b with
  | .t (.int i), .t (.int j) => .ok (vI (i - j)) s
  | _, _ => .bad
/-- a bound; the kernel does not reckon it -/
noncomputable def cdec (p : Prop) : Bool := @decide p (Classical.propDecidable p)
@[simp] theorem cdec_iff {p : Prop} : (cdec p = true) = p := by unfold cdec; simp
/-- products: one factor below 2 ^ 64 -/
noncomputable def mulOk (i j : Int) : Bool := (cdec (-(2 ^ 64) < i) && cdec (i < 2 ^ 64)) || (cdec (-(2 ^ 64) < j) && cdec (j < 2 ^ 64))
noncomputable def mulV (cell : Bool) (a b : Val) : M Val := fun s => match a, b with
  | .t (.int i), .t (.int j) => if mulOk i j then .ok (vI (i * j)) s else .bad
  | a, .t (.int k) => ((itemsL a) >>= fun x => if k < 2 ^ 62 ∧ -(2 ^ 62) < k ∧ x.length * k.toNat ≤ L then newL cell (List.replicate k.toNat x).flatten else bad) s
  | _, _ => .bad
noncomputable def fdivOk (i j : Int) : Bool := decide (j ≠ 0) && cdec (j.natAbs < 2 ^ 62)
noncomputable def fdivV (a b : Val) : M Val := fun s => match a, b with
  | .t (.int i), .t (.int j) => if fdivOk i j then .ok (vI (i.fdiv j)) s else .bad
  | _, _ => .bad
def modV (a b : Val) : M Val := fun s => match a, b with
  | .t (.int i), .t (.int j) => if j ≠ 0 then .ok (vI (i.fmod j)) s else .bad
  | _, _ => .bad
def powV (a b : Val) : M Val := fun s => match a, b with
  | .t (.int i), .t (.int j) => if 0 ≤ j ∧ j ≤ 1000 ∧ i.natAbs < 2 ^ 60 then .ok (vI (i ^ j.toNat)) s else .bad
  | _, _ => .bad
def negV (a : Val) : M Val := fun s => match a with
  | .t (.int i) => .ok (vI (-i)) s
  | _ => .bad
def ltV (f : Int → Int → Bool) (a b : Val) : M Bool := fun s => match a, b with
  | .t (.int i), .t (.int j) => .ok (f i j) s
  | _, _ => .bad
def isNone : Val → Bool
  | .t .non => true
  | _ => false
/-- x is b, for boolsOf -/
def isB (b : Bool) (a : Val) : M Bool := fun s => match a with
  | .t (.bl c) => .ok (c == b) s
  | _ => .bad
def keyOf : Val → Option Key
  | .t (.int i) => some (.i i)
  | .t (.str x) => some (.s x)
  | _ => none
def dget {α : Type} (kvs : List (Key × α)) (k : Key) : Option α := match kvs with
  | [] => none
  | (l, v) :: r => if l = k then some v else dget r k
def dput {α : Type} (kvs : List (Key × α)) (k : Key) (v : α) : List (Key × α) :=
  if kvs.any (fun p => decide (p.1 = k)) then kvs.map fun p => if p.1 = k then (p.1, v) else p else kvs ++ [(k, v)]
def dmerge {α : Type} (d more : List (Key × α)) : List (Key × α) := more.foldl (fun d p => dput d p.1 p.2) d
def dpop {α : Type} (kvs : List (Key × α)) (k : Key) : List (Key × α) := kvs.filter fun p => decide (p.1 ≠ k)
def tget {α : Type} (kvs : List (T × α)) (k : T) : Option α := match kvs with
  | [] => none
  | (l, v) :: r => if T.beq l k then some v else tget r k
/-- what stands in a list -/
def inT (x : T) (ts : List T) : Bool := ts.any fun y => T.eqv y x
def inV (x c : Val) : M Bool := fun s => match c with
  | .t (.dct kvs) => match keyOf x with
    | some k => .ok (dget kvs k).isSome s
    | none => .bad
  | .t (.lst ts) => match x with
    | .t d => if T.plain 60 d && ts.all (T.plain 60) then .ok (inT d ts) s else .bad
    | _ => .bad
  | .t (.tup ts) => match x with
    | .t d => if T.flat d && ts.all T.flat then .ok (inT d ts) s else .bad
    | _ => .bad
  | .loc n => match s.cell n with
    | some (.dct kvs) => match keyOf x with
      | some k => .ok (dget kvs k).isSome s
      | none => .bad
    | some (.lst vs) => match x, trees vs with
      | .t d, some ts => if T.plain 60 d && ts.all (T.plain 60) then .ok (inT d ts) s else .bad
      | _, _ => .bad
    | some (.kd kvs) => match x with
      | .t d => .ok (tget kvs d).isSome s
      | _ => .bad
    | _ => .bad
  | _ => .bad
def subI (v i : Val) : M Val := fun s => match v with
  | .t (.str x) => match i with
    | .t (.int k) => match pyIx x.length k with
      | some n => match x.toList[n]? with
        | some c => if x.length ≤ L then .ok (vS (String.singleton c)) s else .bad
        | none => .bad
      | none => .bad
    | _ => .bad
  | .t (.dct kvs) => match keyOf i with
    | some k => match dget kvs k with
      | some d => .ok (.t d) s
      | none => .bad
    | none => .bad
  | .t (.lst ts) => match i with
    | .t (.int k) => match pyIx ts.length k with
      | some n => match ts[n]? with
        | some d => .ok (.t d) s
        | none => .bad
      | none => .bad
    | _ => .bad
  | .t (.tup ts) => match i with
    | .t (.int k) => match pyIx ts.length k with
      | some n => match ts[n]? with
        | some d => .ok (.t d) s
        | none => .bad
      | none => .bad
    | _ => .bad
  | .loc n => match s.cell n with
    | some (.dct kvs) => match keyOf i with
      | some k => match dget kvs k with
        | some d => .ok d s
        | none => .bad
      | none => .bad
    | some (.kd kvs) => match i with
      | .t k => match tget kvs k with
        | some d => .ok d s
        | none => .bad
      | _ => .bad
    | some (.lst vs) => match i with
      | .t (.int k) => match pyIx vs.length k with
        | some n => match vs[n]? with
          | some d => .ok d s
          | none => .bad
        | none => .bad
      | _ => .bad
    | some (.tup vs) => match i with
      | .t (.int k) => match pyIx vs.length k with
        | some n => match vs[n]? with
          | some d => .ok d s
          | none => .bad
        | none => .bad
      | _ => .bad
    | _ => .bad
  | _ => .bad
/-- a slice of a list or a tuple; a new list's kind by cell -/
def sliceV (cell : Bool) (v : Val) (a b : Option Int) : M Val := fun s => match v with
  | .t (.tup ts) => if pyCut ts.length 0 a = 0 ∧ pyCut ts.length ts.length b = ts.length then .bad else .ok (.t (.tup (slice ts a b))) s
  | v => (itemsL v >>= fun vs => newL cell (slice vs a b)) s
def lenV (v : Val) : M Val := fun s => match v with
  | .t (.lst ts) => .ok (vI ts.length) s
  | .t (.tup ts) => .ok (vI ts.length) s
  | .t (.dct ts) => .ok (vI ts.length) s
  | .loc n => match s.cell n with
    | some (.lst vs) => .ok (vI vs.length) s
    | some (.tup vs) => .ok (vI vs.length) s
    | some (.dct vs) => .ok (vI vs.length) s
    | _ => .bad
  | _ => .bad

/-! ### built-ins -/
def intV (v : Val) : M Val := fun s => match v with
  | .t (.int i) => .ok (vI i) s
  | .t (.bl b) => .ok (vI (if b then 1 else 0)) s
  | _ => .bad
def absV (v : Val) : M Val := fun s => match v with
  | .t (.int i) => .ok (vI (if i < 0 then -i else i)) s
  | _ => .bad
def strV (v : Val) : M Val := fun s => match v with
  | .t (.int i) => if i.natAbs < 2 ^ 64 then .ok (vS (toString i)) s else .bad
  | _ => .bad
def max2 (a b : Val) : M Val := fun s => match a, b with
  | .t (.int i), .t (.int j) => .ok (vI (if j > i then j else i)) s
  | _, _ => .bad
def min2 (a b : Val) : M Val := fun s => match a, b with
  | .t (.int i), .t (.int j) => .ok (vI (if j < i then j else i)) s
  | _, _ => .bad
def intsOf : List Val → Option (List Int)
  | [] => some []
  | .t (.int i) :: r => match intsOf r with
    | some q => some (i :: q)
    | none => none
  | _ :: _ => none
theorem ints_map (ns : List Int) : intsOf (ns.map vI) = some ns := by
  induction ns with
  | nil => rfl
  | cons d r ih => simp only [List.map_cons, vI] at *; simp only [intsOf, ih]
theorem ints_mapT (ns : List Int) : intsOf ((ns.map T.int).map Val.t) = some ns := by
  rw [List.map_map]; exact ints_map ns
def sumV (v : Val) : M Val := (itemsL v) >>= fun vs s => match intsOf vs with
  | some ns => .ok (vI ns.sum) s
  | none => .bad
def maxL : List Int → Option Int
  | [] => none
  | x :: r => some (r.foldl (fun a b => if b > a then b else a) x)
def maxV (v : Val) : M Val := (itemsL v) >>= fun vs s => match intsOf vs with
  | some ns => match maxL ns with
    | some m => .ok (vI m) s
    | none => .bad
  | none => .bad
def insI (x : Int) : List Int → List Int
  | [] => [x]
  | y :: r => if x ≤ y then x :: y :: r else y :: insI x r
def sortI (xs : List Int) : List Int := xs.foldr insI []
def strLe (a b : String) : Bool := !decide ((b.toList.map Char.toNat) < (a.toList.map Char.toNat))
def insS (x : String) : List String → List String
  | [] => [x]
  | y :: r => if strLe x y then x :: y :: r else y :: insS x r
def sortS (xs : List String) : List String := xs.foldr insS []
def dedup {α : Type} [DecidableEq α] : List α → List α
  | [] => []
  | x :: r => if x ∈ r then dedup r else x :: dedup r
def strsOf : List Val → Option (List String)
  | [] => some []
  | .t (.str x) :: r => match strsOf r with
    | some q => some (x :: q)
    | none => none
  | _ :: _ => none
/-- sorted of a list, the keys of a dict; with set: each once -/
def sortVs (uniq cell : Bool) (vs : List Val) : M Val := fun s => match intsOf vs with
  | some ns => newL cell ((sortI (if uniq then dedup ns else ns)).map vI) s
  | none => match strsOf vs with
    | some xs => newL cell ((sortS (if uniq then dedup xs else xs)).map vS) s
    | none => .bad
def keyV : Key → Val
  | .i n => vI n
  | .s x => vS x
/-- what is walked: a tree, the script -/
def iterOf (v : Val) : M (List Val) := fun s => match v with
  | .scr ns => .ok (ns.map vI) s
  | .t (.lst ts) => .ok (ts.map .t) s
  | .t (.tup ts) => .ok (ts.map .t) s
  | _ => .bad
/-- the keys of a dict, the items of a list -/
def keysOf (v : Val) : M (List Val) := fun s => match v with
  | .t (.dct kvs) => .ok (kvs.map fun p => keyV p.1) s
  | .loc n => match s.cell n with
    | some (.dct kvs) => .ok (kvs.map fun p => keyV p.1) s
    | some (.lst vs) => .ok vs s
    | _ => .bad
  | .t (.lst ts) => .ok (ts.map .t) s
  | _ => .bad
def enumT : Nat → List T → List Val
  | _, [] => []
  | n, d :: r => .t (.tup [.int n, d]) :: enumT (n + 1) r
def sortedV (uniq cell : Bool) (v : Val) : M Val := (if uniq then itemsL v else keysOf v) >>= fun vs => sortVs uniq cell vs
/-- len(set(xs)) -/
def lenSet (v : Val) : M Val := (itemsL v) >>= fun vs s => match intsOf vs with
  | some ns => .ok (vI (dedup ns).length) s
  | none => match strsOf vs with
    | some xs => .ok (vI (dedup xs).length) s
    | none => .bad
def boolsOf : List Val → Option (List Bool)
  | [] => some []
  | .t (.bl b) :: r => match boolsOf r with
    | some q => some (b :: q)
    | none => none
  | _ :: _ => none
def anyV (v : Val) : M Val := (itemsL v) >>= fun vs s => match boolsOf vs with
  | some bs => .ok (vB (bs.any id)) s
  | none => .bad
def allV (v : Val) : M Val := (itemsL v) >>= fun vs s => match boolsOf vs with
  | some bs => .ok (vB (bs.all id)) s
  | none => .bad
def listV (cell : Bool) (v : Val) : M Val := (items v) >>= fun vs => newL cell vs
def tupleV (cell : Bool) (v : Val) : M Val := (itemsL v) >>= fun vs => newT cell vs
/-- repr: the text by its tree -/
def reprOk : T → Bool
  | .tup _ => true
  | .lst _ => true
  | .int _ => true
  | _ => false
def reprV (v : Val) : M Val := fun s => match deep s deepMax v with
  | some d => if reprOk d ∧ T.plain 60 d ∧ T.rlen d ≤ L then .ok (.t (.rp d)) s else .bad
  | none => .bad
/-- isinstance with a built-in class or one of the text's exceptions -/
def excSub (c d : String) : Bool := c == d || (d == "FlatError" && (c == "TrapError" || c == "KindError" || c == "PaperError")) ||
  ((d == "ValueError") && (c == "FlatError" || c == "TrapError" || c == "KindError" || c == "PaperError"))
def isiV (cls : String) (v : Val) : M Bool := fun s => match v with
  | .ex _ => .bad
  | .t .non => .ok false s
  | .t (.bl _) => .ok (cls == "bool" || cls == "int") s
  | .t (.int _) => .ok (cls == "int") s
  | .t (.str _) => .ok (cls == "str") s
  | .t (.rp _) => .ok (cls == "str") s
  | .t (.tup _) => .ok (cls == "tuple") s
  | .t (.lst _) => .ok (cls == "list") s
  | .t (.dct _) => .ok (cls == "dict") s
  | .scr _ => .ok (cls == "list") s
  | .loc n => match s.cell n with
    | some (.lst _) => .ok (cls == "list") s
    | some (.tup _) => .ok (cls == "tuple") s
    | some (.dct _) => .ok (cls == "dict") s
    | _ => .bad

/-- isinstance of an exception -/
def isiE (cls : String) (v : Val) : M Bool := fun s => match v with
  | .ex x => .ok (excSub x.cls cls) s
  | _ => .bad
/-- a list, a dict that can be changed -/
def lstC (v : Val) : M Unit := fun s => match v with
  | .loc n => match s.cell n with
    | some (.lst _) => .ok () s
    | _ => .bad
  | .t (.lst _) => .ok () s
  | _ => .bad
def dctC (v : Val) : M Unit := fun s => match v with
  | .loc n => match s.cell n with
    | some (.dct _) => .ok () s
    | _ => .bad
  | .t (.dct _) => .ok () s
  | _ => .bad

/-! ### lists and dicts changed -/
def appendV (l v : Val) : M Val := fun s => match l with
  | .loc n => match s.cell n with
    | some (.lst vs) => if vs.length < L then .ok vN (s.set n (some (.lst (vs ++ [v])))) else .bad
    | _ => .bad
  | _ => .bad
def extendV (l v : Val) : M Val := fun s => match l with
  | .loc n => (itemsL v >>= fun us s => match s.cell n with
    | some (.lst vs) => if vs.length + us.length ≤ L then .ok vN (s.set n (some (.lst (vs ++ us)))) else .bad
    | _ => .bad) s
  | _ => .bad
/-- l.pop(i) of a list -/
def popL (l i : Val) : M Val := fun s => match l, i with
  | .loc n, .t (.int k) => match s.cell n with
    | some (.lst vs) => match pyIx vs.length k with
      | some j => match vs[j]? with
        | some v => .ok v (s.set n (some (.lst (vs.eraseIdx j))))
        | none => .bad
      | none => .bad
    | _ => .bad
  | _, _ => .bad
/-- d.pop(k) of a dict -/
def popD (l i : Val) : M Val := fun s => match l with
  | .loc n => match s.cell n with
    | some (.dct kvs) => match keyOf i with
      | some k => match dget kvs k with
        | some v => .ok v (s.set n (some (.dct (dpop kvs k))))
        | none => .bad
      | none => .bad
    | _ => .bad
  | _ => .bad
def findT (x : T) : List T → Nat → Option Nat
  | [], _ => none
  | y :: r, n => if T.eqv y x then some n else findT x r (n + 1)
def indexV (l x : Val) : M Val := (itemsL l) >>= fun vs s => match intsOf vs, x with
  | some ns, .t (.int k) => match findT (.int k) (ns.map .int) 0 with
    | some n => .ok (vI n) s
    | none => .bad
  | _, _ => .bad
def getD (d k e : Val) : M Val := (dictOf d) >>= fun kvs s => match keyOf k with
  | some k => .ok ((dget kvs k).getD e) s
  | none => .bad
def updateV (l v : Val) : M Val := fun s => match l with
  | .loc n => (dictOf v >>= fun us s => match s.cell n with
    | some (.dct kvs) => if kvs.length + us.length ≤ L then .ok vN (s.set n (some (.dct (dmerge kvs us)))) else .bad
    | _ => .bad) s
  | _ => .bad
def valuesV (cell : Bool) (v : Val) : M Val := (dictOf v) >>= fun kvs => newL cell (kvs.map (·.2))
/-- o[i] = v -/
def setI (o i v : Val) : M Unit := fun s => match o with
  | .loc n => match s.cell n with
    | some (.lst vs) => match i with
      | .t (.int k) => match pyIx vs.length k with
        | some j => .ok () (s.set n (some (.lst (vs.set j v))))
        | none => .bad
      | _ => .bad
    | some (.dct kvs) => match keyOf i with
      | some k => if kvs.length < L then .ok () (s.set n (some (.dct (dput kvs k v)))) else .bad
      | none => .bad
    | some (.kd kvs) => match i with
      | .t k => if kvs.length < L ∧ (tget kvs k).isNone then .ok () (s.set n (some (.kd (kvs ++ [(k, v)])))) else .bad
      | _ => .bad
    | _ => .bad
  | _ => .bad
def fget (fs : List (String × Val)) (f : String) : Option Val := match fs with
  | [] => none
  | (g, v) :: r => if g = f then some v else fget r f
def fput (fs : List (String × Val)) (f : String) (v : Val) : List (String × Val) := match fs with
  | [] => [(f, v)]
  | (g, u) :: r => if g = f then (g, v) :: r else (g, u) :: fput r f v
def attrV (f : String) (v : Val) : M Val := fun s => match v with
  | .loc n => match s.cell n with
    | some (.ins _ fs) => match fget fs f with
      | some u => .ok u s
      | none => .bad
    | _ => .bad
  | .ex x => match x.at_ with
    | some d => if f = "at" then .ok (.t d) s else .bad
    | none => .bad
  | _ => .bad
def setAttr (f : String) (o v : Val) : M Unit := fun s => match o with
  | .loc n => match s.cell n with
    | some (.ins c fs) => if fs.length < 100 then .ok () (s.set n (some (.ins c (fput fs f v)))) else .bad
    | _ => .bad
  | _ => .bad

/-! ### expressions, by the environment -/
abbrev CE := Env → M Val
abbrev CT := Env → M Bool
def eVar (i : Nat) : CE := fun ρ s => match ρ[i]? with
  | some (some v) => .ok v s
  | _ => .bad
def eC (d : T) : CE := fun _ s => .ok (.t d) s
def e1 (k : Val → M Val) (a : CE) : CE := fun ρ => a ρ >>= k
def e2 (k : Val → Val → M Val) (a b : CE) : CE := fun ρ => a ρ >>= fun x => b ρ >>= fun y => k x y
def e3 (k : Val → Val → Val → M Val) (a b c : CE) : CE := fun ρ => a ρ >>= fun x => b ρ >>= fun y => c ρ >>= fun z => k x y z
/-- o.m(..): what o is, is seen first -/
def e2c (c : Val → M Unit) (k : Val → Val → M Val) (a b : CE) : CE := fun ρ => a ρ >>= fun x => c x >>= fun _ => b ρ >>= fun y => k x y
def e3c (c : Val → M Unit) (k : Val → Val → Val → M Val) (a b d : CE) : CE := fun ρ => a ρ >>= fun x => c x >>= fun _ => b ρ >>= fun y => d ρ >>= fun z => k x y z
def eVals : List CE → Env → M (List Val)
  | [], _ => pure []
  | a :: r, ρ => a ρ >>= fun x => eVals r ρ >>= fun xs => pure (x :: xs)
def eTup (cell : Bool) (as : List CE) : CE := fun ρ => eVals as ρ >>= newT cell
def eLst (cell : Bool) (as : List CE) : CE := fun ρ => eVals as ρ >>= newL cell
/-- the pairs of a display, one after the other -/
def ePairs : List (CE × CE) → Env → M (List (Key × Val))
  | [], _ => pure []
  | (a, b) :: r, ρ => a ρ >>= fun x => b ρ >>= fun y => ePairs r ρ >>= fun ps => match keyOf x with
    | some k => pure ((k, y) :: ps)
    | none => bad
def eDct (cell : Bool) (ps : List (CE × CE)) : CE := fun ρ => ePairs ps ρ >>= fun kvs => newD cell (dmerge [] kvs)
def eB (t : CT) : CE := fun ρ => t ρ >>= fun b => pure (vB b)
/-- an expression that gives a bool, as a test -/
def tV (a : CE) : CT := fun ρ => a ρ >>= getB
/-- truth of a list, a tuple -/
def tSeq (a : CE) : CT := fun ρ => a ρ >>= fun v => items v >>= fun vs => pure !vs.isEmpty
def t2 (k : Val → Val → M Bool) (a b : CE) : CT := fun ρ => a ρ >>= fun x => b ρ >>= fun y => k x y
def tEq (a b : CE) : CT := t2 eqV a b
def tNe (a b : CE) : CT := t2 (fun x y => eqV x y >>= fun b => pure !b) a b
def tLt (a b : CE) : CT := t2 (ltV fun i j => decide (i < j)) a b
def tLe (a b : CE) : CT := t2 (ltV fun i j => decide (i ≤ j)) a b
def tGt (a b : CE) : CT := t2 (ltV fun i j => decide (j < i)) a b
def tGe (a b : CE) : CT := t2 (ltV fun i j => decide (j ≤ i)) a b
def tIn (a b : CE) : CT := t2 inV a b
def tNotIn (a b : CE) : CT := t2 (fun x y => inV x y >>= fun b => pure !b) a b
def tIsN (a : CE) : CT := fun ρ => a ρ >>= fun v => match v with
  | .ex _ => bad
  | v => pure (isNone v)
def tNotN (a : CE) : CT := fun ρ => a ρ >>= fun v => match v with
  | .ex _ => bad
  | v => pure !(isNone v)
def tIsB (c : Bool) (a : CE) : CT := fun ρ => a ρ >>= isB c
def tNotB (c : Bool) (a : CE) : CT := fun ρ => a ρ >>= fun v => isB c v >>= fun b => pure !b
def tIsi (cls : String) (a : CE) : CT := fun ρ => a ρ >>= isiV cls
def tIsE (cls : String) (a : CE) : CT := fun ρ => a ρ >>= isiE cls
def tIsi2 (c d : String) (a : CE) : CT := fun ρ => a ρ >>= fun v => isiV c v >>= fun x => isiV d v >>= fun y => pure (x || y)
def tAnd (a b : CT) : CT := fun ρ => a ρ >>= fun x => if x then b ρ else pure false
def tOr (a b : CT) : CT := fun ρ => a ρ >>= fun x => if x then pure true else b ρ
def tNot (a : CT) : CT := fun ρ => a ρ >>= fun x => pure !x
def eIf (c : CT) (a b : CE) : CE := fun ρ => c ρ >>= fun x => if x then a ρ else b ρ
def eSlice (cell : Bool) (a : CE) (lo hi : Option CE) : CE := fun ρ => a ρ >>= fun v =>
  (match lo with
    | none => pure none
    | some e => e ρ >>= fun x => getInt x >>= fun i => pure (some i)) >>= fun l =>
  (match hi with
    | none => pure none
    | some e => e ρ >>= fun x => getInt x >>= fun i => pure (some i)) >>= fun h => sliceV cell v l h

/-- truth of a bool, a list, a tuple, None -/
def truthV (v : Val) : M Bool := fun s => match v with
  | .t (.bl b) => .ok b s
  | .t .non => .ok false s
  | .t (.lst ts) => .ok (!ts.isEmpty) s
  | .t (.tup ts) => .ok (!ts.isEmpty) s
  | .loc n => match s.cell n with
    | some (.lst vs) => .ok (!vs.isEmpty) s
    | _ => .bad
  | _ => .bad
def tTruth (a : CE) : CT := fun ρ => a ρ >>= truthV
def eAnd (a b : CE) : CE := fun ρ => a ρ >>= fun x => getB x >>= fun c => if c then b ρ else pure (vB false)
def eOr (a b : CE) : CE := fun ρ => a ρ >>= fun x => getB x >>= fun c => if c then pure (vB true) else b ρ
def eNot (a : CE) : CE := fun ρ => a ρ >>= fun x => getB x >>= fun c => pure (vB !c)

/-! ### what is walked -/
abbrev CI := Env → M (List Val)
/-- a list, a tuple -/
def iV (a : CE) : CI := fun ρ => a ρ >>= iterOf
/-- enumerate of a list of trees -/
def iEnum (a : CE) : CI := fun ρ => a ρ >>= fun v => match v with
  | .t (.lst ts) => pure (enumT 0 ts)
  | _ => bad
def upto (lo : Int) (n : Nat) : List Val := (List.range n).map fun k => vI (lo + (k : Nat))
noncomputable def rangeOk (i : Int) : Bool := cdec (-(2 ^ 62) ≤ i) && cdec (i < 2 ^ 62)
noncomputable def iRange1 (b : CE) : CI := fun ρ => b ρ >>= fun y => getInt y >>= fun hi => if rangeOk hi then pure (upto 0 hi.toNat) else bad
noncomputable def iRange2 (a b : CE) : CI := fun ρ => a ρ >>= fun x => b ρ >>= fun y => getInt x >>= fun lo => getInt y >>= fun hi => if rangeOk lo && rangeOk hi then pure (upto lo (hi - lo).toNat) else bad
/-- range(a, -1, -1) -/
def iDown (a : CE) : CI := fun ρ => a ρ >>= getInt >>= fun hi => if -(2 ^ 62) ≤ hi ∧ hi < 2 ^ 62 then pure ((List.range (hi + 1).toNat).map fun k => vI (hi - (k : Nat))) else bad
/-- a walked item: one value, or the parts of a tuple -/
abbrev CG := Val → Env → M Env
def gVar (i : Nat) : CG := fun v ρ => pure (ρ.set i (some v))
def gSets : List Nat → List Val → Env → Option Env
  | [], [], ρ => some ρ
  | i :: r, v :: q, ρ => gSets r q (ρ.set i (some v))
  | _, _, _ => none
def gTup (is : List Nat) : CG := fun v ρ s => (items v >>= fun vs s => match gSets is vs ρ with
  | some ρ' => .ok ρ' s
  | none => .bad) s
def wipeE (ρ : Env) : List Nat → Env
  | [] => ρ
  | i :: r => (wipeE ρ r).set i none
def testM (c : Option CT) : CT := fun ρ => match c with
  | none => pure true
  | some c => c ρ
/-- walking items with an optional test -/
def compL (g : CG) (c : Option CT) (f : CE) (ρ : Env) : List Val → M (List Val)
  | [] => pure []
  | v :: r => g v ρ >>= fun ρ' => testM c ρ' >>= fun b => if b then f ρ' >>= fun x => compL g c f ρ r >>= fun xs => pure (x :: xs) else compL g c f ρ r
/-- .. what was made is handed along -/
def compK (g : CG) (c : Option CT) (f : CE) (ρ : Env) (acc : List Val) : List Val → M (List Val)
  | [] => pure acc
  | v :: r => g v ρ >>= fun ρ' => testM c ρ' >>= fun b => if b then f ρ' >>= fun x => compK g c f ρ (acc ++ [x]) r else compK g c f ρ acc r
theorem compK_eq (g : CG) (c : Option CT) (f : CE) (ρ : Env) : ∀ (vs acc : List Val) (s : Store), compK g c f ρ acc vs s = (compL g c f ρ vs s).bind fun xs s' => .ok (acc ++ xs) s'
  | [], acc, s => by simp [compK, compL, pure_eq, bind_ok]
  | v :: r, acc, s => by
    have ih := compK_eq g c f ρ r
    rw [compK, compL, bind_eq, bind_eq]
    cases g v ρ s with
    | exc x s1 => rfl
    | bad => rfl
    | ok ρ' s1 =>
      rw [bind_ok, bind_ok, bind_eq, bind_eq]
      cases testM c ρ' s1 with
      | exc x s2 => rfl
      | bad => rfl
      | ok b s2 =>
        rw [bind_ok, bind_ok]
        cases b with
        | false =>
          rw [if_neg (by decide), if_neg (by decide), ih]
        | true =>
          rw [if_pos rfl, if_pos rfl, bind_eq, bind_eq]
          cases f ρ' s2 with
          | exc x s3 => rfl
          | bad => rfl
          | ok x s3 =>
            rw [bind_ok, bind_ok, bind_eq, ih]
            cases compL g c f ρ r s3 with
            | exc y s4 => rfl
            | bad => rfl
            | ok xs s4 => simp [bind_ok, pure_eq]
def eComp (cell : Bool) (own : List Nat) (it : CI) (g : CG) (c : Option CT) (f : CE) : CE := fun ρ => it ρ >>= fun vs => compL g c f (wipeE ρ own) vs >>= newL cell
def eCompR (cell : Bool) (own : List Nat) (it : CI) (g : CG) (c : Option CT) (f : CE) : CE := fun ρ => it ρ >>= fun vs => if vs.length ≤ L then compL g c f (wipeE ρ own) vs >>= newL cell else bad
/-- .. no more than a list may hold -/
def compKc (g : CG) (c : Option CT) (f : CE) (ρ : Env) (acc : List Val) : List Val → M (List Val)
  | [] => pure acc
  | v :: r => g v ρ >>= fun ρ' => testM c ρ' >>= fun b => if b then f ρ' >>= fun x => if acc.length < L then compKc g c f ρ (acc ++ [x]) r else bad else compKc g c f ρ acc r
/-- two clauses -/
def comp2K (g : CG) (c : Option CT) (it1 : CI) (g1 : CG) (c1 : Option CT) (f : CE) (own1 : List Nat) (ρ : Env) (acc : List Val) : List Val → M (List Val)
  | [] => pure acc
  | v :: r => g v ρ >>= fun ρ' => testM c ρ' >>= fun b => if b then it1 ρ' >>= fun ws => compKc g1 c1 f (wipeE ρ' own1) acc ws >>= fun acc' => comp2K g c it1 g1 c1 f own1 ρ acc' r else comp2K g c it1 g1 c1 f own1 ρ acc r
def calmR {α : Type} (m : M α) : M α := fun s => match m s with
  | .ok a s' => .ok a s'
  | _ => .bad
/-- two clauses; nothing raised within -/
def eComp2 (cell : Bool) (own own1 : List Nat) (it : CI) (g : CG) (c : Option CT) (it1 : CI) (g1 : CG) (c1 : Option CT) (f : CE) : CE := fun ρ => it ρ >>= fun vs =>
  calmR (comp2K g c it1 g1 c1 f own1 (wipeE ρ own) [] vs >>= newL cell)
/-! ### statements -/
inductive SO where
  | nx (ρ : Env) (s : Store)
  | rt (v : Val) (s : Store)
  | bk (ρ : Env) (s : Store)
  | ct (ρ : Env) (s : Store)
  | ex (x : Exc) (ρ : Env) (s : Store)
  | bad
abbrev SM := Env → Store → SO
/-- an expression's end within a statement -/
def R.so {α : Type} (r : R α) (ρ : Env) (k : α → Store → SO) : SO := match r with
  | .ok a s => k a s
  | .exc x s => .ex x ρ s
  | .bad => .bad
def sNil : SM := fun ρ s => .nx ρ s
def sSeq (a b : SM) : SM := fun ρ s => match a ρ s with
  | .nx ρ' s' => b ρ' s'
  | o => o
def sAsg (e : CE) (g : CG) : SM := fun ρ s => (e ρ s).so ρ fun v s1 => (g v ρ s1).so ρ fun ρ' s2 => .nx ρ' s2
def sSub (e o i : CE) : SM := fun ρ s => (e ρ s).so ρ fun v s1 => (o ρ s1).so ρ fun ov s2 => (i ρ s2).so ρ fun iv s3 => (setI ov iv v s3).so ρ fun _ s4 => .nx ρ s4
def sAttr (f : String) (e o : CE) : SM := fun ρ s => (e ρ s).so ρ fun v s1 => (o ρ s1).so ρ fun ov s2 => (setAttr f ov v s2).so ρ fun _ s3 => .nx ρ s3
/-- x, o.f = a pair -/
def sVarAttr (i : Nat) (f : String) (e o : CE) : SM := fun ρ s => (e ρ s).so ρ fun v s1 => (items v s1).so ρ fun vs s2 => match vs with
  | [a, b] => (o (ρ.set i (some a)) s2).so ρ fun ov s3 => (setAttr f ov b s3).so ρ fun _ s4 => .nx (ρ.set i (some a)) s4
  | _ => .bad
def sExpr (e : CE) : SM := fun ρ s => (e ρ s).so ρ fun _ s1 => .nx ρ s1
def sRet (e : CE) : SM := fun ρ s => (e ρ s).so ρ fun v s1 => .rt v s1
def sIf (c : CT) (a b : SM) : SM := fun ρ s => (c ρ s).so ρ fun x s1 => if x then a ρ s1 else b ρ s1
def sBreak : SM := fun ρ s => .bk ρ s
def sCont : SM := fun ρ s => .ct ρ s
def sRaise (cls : String) : SM := fun ρ s => .ex ⟨cls, none⟩ ρ s
def sRaiseA (cls : String) (e : CE) : SM := fun ρ s => (e ρ s).so ρ fun v s1 => match v with
  | .t d => .ex ⟨cls, some d⟩ ρ s1
  | _ => .bad
def forL (g : CG) (body : SM) : List Val → SM
  | [], ρ, s => .nx ρ s
  | v :: r, ρ, s => (g v ρ s).so ρ fun ρ1 s1 => match body ρ1 s1 with
    | .nx ρ2 s2 => forL g body r ρ2 s2
    | .ct ρ2 s2 => forL g body r ρ2 s2
    | .bk ρ2 s2 => .nx ρ2 s2
    | o => o
def sFor (it : CI) (g : CG) (body : SM) : SM := fun ρ s => (it ρ s).so ρ fun vs s1 => forL g body vs ρ s1
def whileN (c : CT) (body : SM) : Nat → SM
  | 0, _, _ => .bad
  | n + 1, ρ, s => (c ρ s).so ρ fun x s1 => if x then (match body ρ s1 with
      | .nx ρ2 s2 => whileN c body n ρ2 s2
      | .ct ρ2 s2 => whileN c body n ρ2 s2
      | .bk ρ2 s2 => .nx ρ2 s2
      | o => o) else .nx ρ s1
abbrev whileMax : Nat := 100000000
def sWhile (c : CT) (body : SM) : SM := whileN c body whileMax
/-- a suite that raises nothing -/
def calmO : SO → SO
  | .ex _ _ _ => .bad
  | o => o
/-- try: body, except cls [as slot i]: suite -/
def sTry (body : SM) (cls : String) (i : Option Nat) (suite : SM) : SM := fun ρ s => match body ρ s with
  | .ex x ρ1 s1 => if excSub x.cls cls then (match i with
      | none => calmO (suite ρ1 s1)
      | some i => if i < ρ1.length then (match suite (ρ1.set i (some (.ex x))) s1 with
        | .nx ρ2 s2 => .nx (ρ2.set i none) s2
        | .bk ρ2 s2 => .bk (ρ2.set i none) s2
        | .ct ρ2 s2 => .ct (ρ2.set i none) s2
        | .rt v s2 => .rt v s2
        | _ => .bad) else .bad) else .ex x ρ1 s1
  | o => o

/-! ### defs -/
/-- what stands below n -/
def Val.below (n : Nat) : Val → Bool
  | .t _ => true
  | .loc k => decide (k < n)
  | _ => false
def Cell.below (n : Nat) : Cell → Bool
  | .lst vs => vs.all (Val.below n)
  | .tup vs => vs.all (Val.below n)
  | .dct kvs => kvs.all fun p => p.2.below n
  | .ins _ fs => fs.all fun p => p.2.below n
  | .kd kvs => kvs.all fun p => p.2.below n
def Store.below (n : Nat) (s : Store) : Bool := s.all fun c => match c with
  | some c => c.below n
  | none => true
/-- what a def has made and let go is forgotten -/
def trim (n : Nat) (s : Store) : Store := if Store.below n (s.take n) then s.take n else s
def start (N : Nat) (args : List Val) : Env := args.map some ++ List.replicate (N - args.length) none
/-- a def of N names, the first ps are the parameters -/
def mkFn (N ps : Nat) (body : SM) (args : List Val) : M Val := fun s => if args.length = ps then (match body (start N args) s with
    | .nx _ s' => .ok vN (trim s.length s')
    | .rt v s' => if v.below s.length then .ok v (trim s.length s') else (match v with
      | .loc n => .ok (.loc n) s'
      | _ => .bad)
    | .ex x _ s' => .exc x (trim s.length s')
    | _ => .bad) else .bad
abbrev FEnv := Nat → List Val → M Val
def eCall (G : FEnv) (f : Nat) (as : List CE) : CE := fun ρ => eVals as ρ >>= fun vs => G f vs
/-- o.m(..) -/
def eMeth (G : FEnv) (c : String) (f : Nat) (o : CE) (as : List CE) : CE := fun ρ => o ρ >>= fun x s => match x with
  | .loc n => match s.cell n with
    | some (.ins d _) => if d = c then (eVals as ρ >>= fun vs => G f (x :: vs)) s else .bad
    | _ => .bad
  | _ => .bad
/-- C(..): a new instance, then its __init__ -/
def eMake (c : String) (f : List Val → M Val) (as : List CE) : CE := fun ρ => eVals as ρ >>= fun vs (s : Store) =>
  (f (.loc s.length :: vs) (s ++ [some (.ins c [])])).bind fun v s' => match v with
    | .t .non => .ok (.loc s.length) s'
    | _ => .bad
end Fl
set_option Elab.async false
set_option linter.all false
set_option maxRecDepth 100000
/-! Fl: how the mirrors run, in plain Lean. -/
namespace Fl
/-- no proof by the kernel's own reckoning -/
theorem nrfl {α : Sort _} {a b : α} (h : a = b) : a = b := h
/-! ### one step -/
@[simp] theorem p_bind {α β : Type} (m : M α) (k : α → M β) (s : Store) : (m >>= k) s = (m s).bind k := nrfl rfl
@[simp] theorem p_pure {α : Type} (a : α) (s : Store) : (pure a : M α) s = .ok a s := nrfl rfl
@[simp] theorem p_ok {α β : Type} (a : α) (s : Store) (k : α → M β) : (R.ok a s).bind k = k a s := nrfl rfl
@[simp] theorem p_exc {α β : Type} (x : Exc) (s : Store) (k : α → M β) : (R.exc x s : R α).bind k = .exc x s := nrfl rfl
@[simp] theorem p_bad {α β : Type} (k : α → M β) : (R.bad : R α).bind k = .bad := nrfl rfl
@[simp] theorem p_badM {α : Type} (s : Store) : (bad : M α) s = .bad := nrfl rfl
@[simp] theorem p_sok {α : Type} (a : α) (s : Store) (ρ : Env) (k : α → Store → SO) : (R.ok a s).so ρ k = k a s := nrfl rfl
@[simp] theorem p_sexc {α : Type} (x : Exc) (s : Store) (ρ : Env) (k : α → Store → SO) : (R.exc x s : R α).so ρ k = .ex x ρ s := nrfl rfl
@[simp] theorem p_eC (d : T) (ρ : Env) (s : Store) : eC d ρ s = .ok (.t d) s := nrfl rfl
theorem p_eVar {i : Nat} {ρ : Env} {v : Val} {s : Store} (h : ρ[i]? = some (some v)) : eVar i ρ s = .ok v s := by unfold eVar; rw [h]
@[simp] theorem p_var0 (v : Val) (r : Env) (s : Store) : eVar 0 (some v :: r) s = .ok v s := nrfl rfl
@[simp] theorem p_var1 (x0 : Option Val) (v : Val) (r : Env) (s : Store) : eVar 1 (x0 :: some v :: r) s = .ok v s := nrfl rfl
@[simp] theorem p_var2 (x0 x1 : Option Val) (v : Val) (r : Env) (s : Store) : eVar 2 (x0 :: x1 :: some v :: r) s = .ok v s := nrfl rfl
@[simp] theorem p_var3 (x0 x1 x2 : Option Val) (v : Val) (r : Env) (s : Store) : eVar 3 (x0 :: x1 :: x2 :: some v :: r) s = .ok v s := nrfl rfl
@[simp] theorem p_var4 (x0 x1 x2 x3 : Option Val) (v : Val) (r : Env) (s : Store) : eVar 4 (x0 :: x1 :: x2 :: x3 :: some v :: r) s = .ok v s := nrfl rfl
@[simp] theorem p_var5 (x0 x1 x2 x3 x4 : Option Val) (v : Val) (r : Env) (s : Store) : eVar 5 (x0 :: x1 :: x2 :: x3 :: x4 :: some v :: r) s = .ok v s := nrfl rfl
@[simp] theorem p_var6 (x0 x1 x2 x3 x4 x5 : Option Val) (v : Val) (r : Env) (s : Store) : eVar 6 (x0 :: x1 :: x2 :: x3 :: x4 :: x5 :: some v :: r) s = .ok v s := nrfl rfl
@[simp] theorem p_var7 (x0 x1 x2 x3 x4 x5 x6 : Option Val) (v : Val) (r : Env) (s : Store) : eVar 7 (x0 :: x1 :: x2 :: x3 :: x4 :: x5 :: x6 :: some v :: r) s = .ok v s := nrfl rfl
@[simp] theorem p_var8 (x0 x1 x2 x3 x4 x5 x6 x7 : Option Val) (v : Val) (r : Env) (s : Store) : eVar 8 (x0 :: x1 :: x2 :: x3 :: x4 :: x5 :: x6 :: x7 :: some v :: r) s = .ok v s := nrfl rfl
@[simp] theorem p_var9 (x0 x1 x2 x3 x4 x5 x6 x7 x8 : Option Val) (v : Val) (r : Env) (s : Store) : eVar 9 (x0 :: x1 :: x2 :: x3 :: x4 :: x5 :: x6 :: x7 :: x8 :: some v :: r) s = .ok v s := nrfl rfl
@[simp] theorem p_e1 (k : Val → M Val) (a : CE) (ρ : Env) (s : Store) : e1 k a ρ s = (a ρ s).bind k := nrfl rfl
@[simp] theorem p_e2 (k : Val → Val → M Val) (a b : CE) (ρ : Env) (s : Store) : e2 k a b ρ s = (a ρ s).bind fun x s => (b ρ s).bind fun y s => k x y s := nrfl rfl
@[simp] theorem p_e2c (c : Val → M Unit) (k : Val → Val → M Val) (a b : CE) (ρ : Env) (s : Store) : e2c c k a b ρ s = (a ρ s).bind fun x s => (c x s).bind fun _ s => (b ρ s).bind fun y s => k x y s := nrfl rfl
@[simp] theorem p_vals0 (ρ : Env) (s : Store) : eVals [] ρ s = .ok [] s := nrfl rfl
@[simp] theorem p_vals (a : CE) (r : List CE) (ρ : Env) (s : Store) : eVals (a :: r) ρ s = (a ρ s).bind fun x s => (eVals r ρ s).bind fun xs s => .ok (x :: xs) s := nrfl rfl
@[simp] theorem p_tup (c : Bool) (as : List CE) (ρ : Env) (s : Store) : eTup c as ρ s = (eVals as ρ s).bind (newT c) := nrfl rfl
@[simp] theorem p_lst (c : Bool) (as : List CE) (ρ : Env) (s : Store) : eLst c as ρ s = (eVals as ρ s).bind (newL c) := nrfl rfl
@[simp] theorem p_prs0 (ρ : Env) (s : Store) : ePairs [] ρ s = .ok [] s := nrfl rfl
@[simp] theorem p_prs (a b : CE) (r : List (CE × CE)) (ρ : Env) (s : Store) : ePairs ((a, b) :: r) ρ s = (a ρ s).bind fun x s => (b ρ s).bind fun y s => (ePairs r ρ s).bind fun ps s => (match keyOf x with
    | some k => pure ((k, y) :: ps)
    | none => bad : M _) s := rfl
@[simp] theorem p_dct (c : Bool) (as : List (CE × CE)) (ρ : Env) (s : Store) : eDct c as ρ s = (ePairs as ρ s).bind fun kvs => newD c (dmerge [] kvs) := nrfl rfl
@[simp] theorem p_eB (t : CT) (ρ : Env) (s : Store) : eB t ρ s = (t ρ s).bind fun b s => .ok (vB b) s := nrfl rfl
@[simp] theorem p_t2 (k : Val → Val → M Bool) (a b : CE) (ρ : Env) (s : Store) : t2 k a b ρ s = (a ρ s).bind fun x s => (b ρ s).bind fun y s => k x y s := nrfl rfl
@[simp] theorem p_tEq (a b : CE) (ρ : Env) (s : Store) : tEq a b ρ s = (a ρ s).bind fun x s => (b ρ s).bind fun y s => eqV x y s := nrfl rfl
@[simp] theorem p_tNe (a b : CE) (ρ : Env) (s : Store) : tNe a b ρ s = (a ρ s).bind fun x s => (b ρ s).bind fun y s => (eqV x y s).bind fun b s => .ok (!b) s := nrfl rfl
@[simp] theorem p_tLt (a b : CE) (ρ : Env) (s : Store) : tLt a b ρ s = (a ρ s).bind fun x s => (b ρ s).bind fun y s => ltV (fun i j => decide (i < j)) x y s := nrfl rfl
@[simp] theorem p_tLe (a b : CE) (ρ : Env) (s : Store) : tLe a b ρ s = (a ρ s).bind fun x s => (b ρ s).bind fun y s => ltV (fun i j => decide (i ≤ j)) x y s := nrfl rfl
@[simp] theorem p_tGt (a b : CE) (ρ : Env) (s : Store) : tGt a b ρ s = (a ρ s).bind fun x s => (b ρ s).bind fun y s => ltV (fun i j => decide (j < i)) x y s := nrfl rfl
@[simp] theorem p_tGe (a b : CE) (ρ : Env) (s : Store) : tGe a b ρ s = (a ρ s).bind fun x s => (b ρ s).bind fun y s => ltV (fun i j => decide (j ≤ i)) x y s := nrfl rfl
@[simp] theorem p_tIn (a b : CE) (ρ : Env) (s : Store) : tIn a b ρ s = (a ρ s).bind fun x s => (b ρ s).bind fun y s => inV x y s := nrfl rfl
@[simp] theorem p_tNotIn (a b : CE) (ρ : Env) (s : Store) : tNotIn a b ρ s = (a ρ s).bind fun x s => (b ρ s).bind fun y s => (inV x y s).bind fun b s => .ok (!b) s := nrfl rfl
@[simp] theorem p_tIsi (c : String) (a : CE) (ρ : Env) (s : Store) : tIsi c a ρ s = (a ρ s).bind (isiV c) := nrfl rfl
@[simp] theorem p_tIsE (c : String) (a : CE) (ρ : Env) (s : Store) : tIsE c a ρ s = (a ρ s).bind (isiE c) := nrfl rfl
@[simp] theorem p_tAnd (a b : CT) (ρ : Env) (s : Store) : tAnd a b ρ s = (a ρ s).bind fun x s => if x then b ρ s else .ok false s := by
  show ((a ρ s).bind fun x => if x then b ρ else pure false) = _
  congr 1
  funext x t
  cases x <;> rfl
@[simp] theorem p_tOr (a b : CT) (ρ : Env) (s : Store) : tOr a b ρ s = (a ρ s).bind fun x s => if x then .ok true s else b ρ s := by
  show ((a ρ s).bind fun x => if x then pure true else b ρ) = _
  congr 1
  funext x t
  cases x <;> rfl
@[simp] theorem p_tNot (a : CT) (ρ : Env) (s : Store) : tNot a ρ s = (a ρ s).bind fun x s => .ok (!x) s := nrfl rfl
@[simp] theorem p_eIf (c : CT) (a b : CE) (ρ : Env) (s : Store) : eIf c a b ρ s = (c ρ s).bind fun x s => if x then a ρ s else b ρ s := by
  show ((c ρ s).bind fun x => if x then a ρ else b ρ) = _
  congr 1
  funext x t
  cases x <;> rfl
@[simp] theorem p_eAnd (a b : CE) (ρ : Env) (s : Store) : eAnd a b ρ s = (a ρ s).bind fun x s => (getB x s).bind fun c s => if c then b ρ s else .ok (vB false) s := by
  show ((a ρ s).bind fun x => getB x >>= fun c => if c then b ρ else pure (vB false)) = _
  congr 1
  funext x t
  show (getB x t).bind _ = _
  congr 1
  funext c u
  cases c <;> rfl
@[simp] theorem p_eOr (a b : CE) (ρ : Env) (s : Store) : eOr a b ρ s = (a ρ s).bind fun x s => (getB x s).bind fun c s => if c then .ok (vB true) s else b ρ s := by
  show ((a ρ s).bind fun x => getB x >>= fun c => if c then pure (vB true) else b ρ) = _
  congr 1
  funext x t
  show (getB x t).bind _ = _
  congr 1
  funext c u
  cases c <;> rfl
@[simp] theorem p_eNot (a : CE) (ρ : Env) (s : Store) : eNot a ρ s = (a ρ s).bind fun x s => (getB x s).bind fun c s => .ok (vB !c) s := nrfl rfl
@[simp] theorem p_call (G : FEnv) (f : Nat) (as : List CE) (ρ : Env) (s : Store) : eCall G f as ρ s = (eVals as ρ s).bind (G f) := nrfl rfl
@[simp] theorem p_iV (a : CE) (ρ : Env) (s : Store) : iV a ρ s = (a ρ s).bind iterOf := nrfl rfl
@[simp] theorem p_tTruth (a : CE) (ρ : Env) (s : Store) : tTruth a ρ s = (a ρ s).bind truthV := nrfl rfl
/-! values -/
@[simp] theorem p_getB (b : Bool) (s : Store) : getB (vB b) s = .ok b s := nrfl rfl
@[simp] theorem p_getB' (b : Bool) (s : Store) : getB (.t (.bl b)) s = .ok b s := nrfl rfl
@[simp] theorem p_getI (b : Int) (s : Store) : getInt (.t (.int b)) s = .ok b s := nrfl rfl
@[simp] theorem p_vI (i : Int) : vI i = .t (.int i) := nrfl rfl
@[simp] theorem p_vB (i : Bool) : vB i = .t (.bl i) := nrfl rfl
@[simp] theorem p_vS (i : String) : vS i = .t (.str i) := nrfl rfl
@[simp] theorem p_add (c : Bool) (i j : Int) (s : Store) : addV c (.t (.int i)) (.t (.int j)) s = .ok (.t (.int (i + j))) s := nrfl rfl
@[simp] theorem p_sub (i j : Int) (s : Store) : subV (.t (.int i)) (.t (.int j)) s = .ok (.t (.int (i - j))) s := nrfl rfl
theorem p_mul (c : Bool) {i j : Int} (h : mulOk i j = true) (s : Store) : mulV c (.t (.int i)) (.t (.int j)) s = .ok (.t (.int (i * j))) s := by
  show (if mulOk i j = true then _ else _) = _
  rw [if_pos h]
  rfl
theorem p_fdiv {i j : Int} (h : fdivOk i j = true) (s : Store) : fdivV (.t (.int i)) (.t (.int j)) s = .ok (.t (.int (i.fdiv j))) s := by
  show (if fdivOk i j = true then _ else _) = _
  rw [if_pos h]
  rfl
theorem p_mod {i j : Int} (h : j ≠ 0) (s : Store) : modV (.t (.int i)) (.t (.int j)) s = .ok (.t (.int (i.fmod j))) s := by
  show (if j ≠ 0 then _ else _) = _
  rw [if_pos h]
  rfl
@[simp] theorem p_neg (i : Int) (s : Store) : negV (.t (.int i)) s = .ok (.t (.int (-i))) s := nrfl rfl
@[simp] theorem p_lt (f : Int → Int → Bool) (i j : Int) (s : Store) : ltV f (.t (.int i)) (.t (.int j)) s = .ok (f i j) s := nrfl rfl
@[simp] theorem p_intV (i : Int) (s : Store) : intV (.t (.int i)) s = .ok (.t (.int i)) s := nrfl rfl
@[simp] theorem p_intB (i : Bool) (s : Store) : intV (.t (.bl i)) s = .ok (.t (.int (if i then 1 else 0))) s := nrfl rfl
@[simp] theorem p_absV (i : Int) (s : Store) : absV (.t (.int i)) s = .ok (.t (.int (if i < 0 then -i else i))) s := nrfl rfl
@[simp] theorem p_max2 (i j : Int) (s : Store) : max2 (.t (.int i)) (.t (.int j)) s = .ok (.t (.int (if j > i then j else i))) s := nrfl rfl
@[simp] theorem p_min2 (i j : Int) (s : Store) : min2 (.t (.int i)) (.t (.int j)) s = .ok (.t (.int (if j < i then j else i))) s := nrfl rfl
@[simp] theorem p_eqI (i j : Int) (s : Store) : eqV (.t (.int i)) (.t (.int j)) s = .ok (i == j) s := by
  show (match T.eq? (.int i) (.int j) with | some r => R.ok r s | none => .bad) = _
  have : T.eq? (.int i) (.int j) = some (i == j) := by
    show (if T.plain 60 (.int i) && T.plain 60 (.int j) then some (T.eqv (.int i) (.int j)) else none) = _
    rw [T.eqv]; rfl
  rw [this]
@[simp] theorem p_eqS (i j : String) (s : Store) : eqV (.t (.str i)) (.t (.str j)) s = .ok (i == j) s := by
  show (match T.eq? (.str i) (.str j) with | some r => R.ok r s | none => .bad) = _
  have : T.eq? (.str i) (.str j) = some (i == j) := by
    show (if T.plain 60 (.str i) && T.plain 60 (.str j) then some (T.eqv (.str i) (.str j)) else none) = _
    rw [T.eqv]; rfl
  rw [this]
@[simp] theorem p_newL (vs : List Val) (s : Store) : newL true vs s = .ok (.loc s.length) (s ++ [some (.lst vs)]) := nrfl rfl
theorem p_newLf {vs : List Val} {ts : List T} (h : trees vs = some ts) (s : Store) : newL false vs s = .ok (.t (.lst ts)) s := by
  show (match trees vs with | some ts => R.ok (Val.t (.lst ts)) s | none => .bad) = _
  rw [h]
theorem p_newTf {vs : List Val} {ts : List T} (h : trees vs = some ts) (s : Store) : newT false vs s = .ok (.t (.tup ts)) s := by
  show (match trees vs with | some ts => R.ok (Val.t (.tup ts)) s | none => .bad) = _
  rw [h]
@[simp] theorem p_trees0 : trees [] = some [] := nrfl rfl
theorem p_trees1 {d : T} {r : List Val} {q : List T} (h : trees r = some q) : trees (.t d :: r) = some (d :: q) := by
  show (match trees r with | some q => some (d :: q) | none => none) = _
  rw [h]
/-! statements -/
theorem p_seq {a b : SM} {ρ ρ' : Env} {s s' : Store} (h : a ρ s = .nx ρ' s') : sSeq a b ρ s = b ρ' s' := by unfold sSeq; rw [h]
theorem p_seq' (a b : SM) (ρ : Env) (s : Store) : sSeq a b ρ s = (match a ρ s with
  | .nx ρ' s' => b ρ' s'
  | o => o) := rfl
/-- .. then, if it runs through -/
def SO.then (o : SO) (k : SM) : SO := match o with
  | .nx ρ s => k ρ s
  | o => o
@[simp] theorem p_seq2 (a b : SM) (ρ : Env) (s : Store) : sSeq a b ρ s = (a ρ s).then b := nrfl rfl
@[simp] theorem then_nx (ρ : Env) (s : Store) (k : SM) : (SO.nx ρ s).then k = k ρ s := nrfl rfl
@[simp] theorem then_rt (v : Val) (s : Store) (k : SM) : (SO.rt v s).then k = .rt v s := nrfl rfl
@[simp] theorem then_ex (x : Exc) (ρ : Env) (s : Store) (k : SM) : (SO.ex x ρ s).then k = .ex x ρ s := nrfl rfl
@[simp] theorem then_bad (k : SM) : SO.bad.then k = .bad := nrfl rfl
@[simp] theorem then_bk (ρ : Env) (s : Store) (k : SM) : (SO.bk ρ s).then k = .bk ρ s := nrfl rfl
@[simp] theorem then_ct (ρ : Env) (s : Store) (k : SM) : (SO.ct ρ s).then k = .ct ρ s := nrfl rfl
@[simp] theorem p_nil (ρ : Env) (s : Store) : sNil ρ s = .nx ρ s := nrfl rfl
@[simp] theorem p_brk (ρ : Env) (s : Store) : sBreak ρ s = .bk ρ s := nrfl rfl
@[simp] theorem p_asgV (e : CE) (i : Nat) (ρ : Env) (s : Store) : sAsg e (gVar i) ρ s = (e ρ s).so ρ fun v s => .nx (ρ.set i (some v)) s := nrfl rfl
@[simp] theorem p_asgT (e : CE) (is : List Nat) (ρ : Env) (s : Store) : sAsg e (gTup is) ρ s = (e ρ s).so ρ fun v s => (gTup is v ρ s).so ρ fun ρ' s => .nx ρ' s := nrfl rfl
@[simp] theorem p_ssub (e o i : CE) (ρ : Env) (s : Store) : sSub e o i ρ s = (e ρ s).so ρ fun v s1 => (o ρ s1).so ρ fun ov s2 => (i ρ s2).so ρ fun iv s3 => (setI ov iv v s3).so ρ fun _ s4 => .nx ρ s4 := nrfl rfl
@[simp] theorem p_sexpr (e : CE) (ρ : Env) (s : Store) : sExpr e ρ s = (e ρ s).so ρ fun _ s => .nx ρ s := nrfl rfl
@[simp] theorem p_ret (e : CE) (ρ : Env) (s : Store) : sRet e ρ s = (e ρ s).so ρ fun v s => .rt v s := nrfl rfl
@[simp] theorem p_if (c : CT) (a b : SM) (ρ : Env) (s : Store) : sIf c a b ρ s = (c ρ s).so ρ fun x s => if x then a ρ s else b ρ s := nrfl rfl
@[simp] theorem p_raise (c : String) (ρ : Env) (s : Store) : sRaise c ρ s = .ex ⟨c, none⟩ ρ s := nrfl rfl
@[simp] theorem p_for (it : CI) (g : CG) (b : SM) (ρ : Env) (s : Store) : sFor it g b ρ s = (it ρ s).so ρ fun vs s => forL g b vs ρ s := nrfl rfl
@[simp] theorem p_forL0 (g : CG) (b : SM) (ρ : Env) (s : Store) : forL g b [] ρ s = .nx ρ s := nrfl rfl
theorem p_forL (i : Nat) (b : SM) (v : Val) (r : List Val) (ρ : Env) (s : Store) : forL (gVar i) b (v :: r) ρ s = (match b (ρ.set i (some v)) s with
    | .nx ρ2 s2 => forL (gVar i) b r ρ2 s2
    | .ct ρ2 s2 => forL (gVar i) b r ρ2 s2
    | .bk ρ2 s2 => .nx ρ2 s2
    | o => o) := rfl
/-- a loop whose turns all run through, by an invariant of what is left -/
theorem for_inv {g : CG} {b : SM} (P : List Val → Env → Store → Prop) (hs : ∀ v r ρ s, P (v :: r) ρ s → ∃ ρ1 s1 ρ2 s2, g v ρ s = .ok ρ1 s1 ∧ b ρ1 s1 = .nx ρ2 s2 ∧ P r ρ2 s2) : ∀ vs ρ s, P vs ρ s → ∃ ρ' s', forL g b vs ρ s = .nx ρ' s' ∧ P [] ρ' s'
  | [], ρ, s, h => ⟨ρ, s, rfl, h⟩
  | v :: r, ρ, s, h => by
    obtain ⟨ρ1, s1, ρ2, s2, h1, h2, h3⟩ := hs v r ρ s h
    obtain ⟨ρ', s', h4, h5⟩ := for_inv P hs r ρ2 s2 h3
    refine ⟨ρ', s', ?_, h5⟩
    show (g v ρ s).so ρ _ = _
    rw [h1]
    show (match b ρ1 s1 with
      | .nx ρ2 s2 => forL g b r ρ2 s2
      | .ct ρ2 s2 => forL g b r ρ2 s2
      | .bk ρ2 s2 => .nx ρ2 s2
      | o => o) = _
    rw [h2]
    exact h4
/-! defs -/
theorem trim_same {n : Nat} {s : Store} (h : s.length = n) : trim n s = s := by
  unfold trim
  have e : s.take n = s := List.take_of_length_le (by omega)
  rw [e]
  split <;> rfl
/-- a def that returns, the store's length kept -/
theorem fn_rt {N ps : Nat} {b : SM} {args : List Val} {s s' : Store} {v : Val} (h : b (start N args) s = .rt v s') (hl : args.length = ps) (hv : v.below s.length = true) (hs : s'.length = s.length) : mkFn N ps b args s = .ok v s' := by
  unfold mkFn
  rw [if_pos hl, h]
  dsimp only
  rw [if_pos hv, trim_same hs]
theorem fn_ex {N ps : Nat} {b : SM} {args : List Val} {s s' : Store} {x : Exc} {ρ : Env} (h : b (start N args) s = .ex x ρ s') (hl : args.length = ps) (hs : s'.length = s.length) : mkFn N ps b args s = .exc x s' := by
  unfold mkFn
  rw [if_pos hl, h]
  dsimp only
  rw [trim_same hs]
theorem fn_new {N ps : Nat} {b : SM} {args : List Val} {s s' : Store} {n : Nat} (h : b (start N args) s = .rt (.loc n) s') (hl : args.length = ps) (hv : ¬ n < s.length) : mkFn N ps b args s = .ok (.loc n) s' := by
  unfold mkFn
  rw [if_pos hl, h]
  dsimp only
  rw [if_neg (by simpa [Val.below] using hv)]
theorem comp_ok {g : CG} {c : Option CT} {f : CE} {ρ : Env} {s : Store} : ∀ {vs ws : List Val}, (∀ v ∈ vs, ∃ ρ', g v ρ s = .ok ρ' s) → True → True := fun _ _ => trivial
end Fl
namespace Fl
theorem compL_map {g : CG} {f : CE} {ρ : Env} {s : Store} (h : Val → Val) : ∀ vs : List Val, (∀ v ∈ vs, ∃ ρ', g v ρ s = .ok ρ' s ∧ f ρ' s = .ok (h v) s) → compL g none f ρ vs s = .ok (vs.map h) s
  | [], _ => rfl
  | v :: r, hh => by
    obtain ⟨ρ', h1, h2⟩ := hh v List.mem_cons_self
    have ih := compL_map (g := g) (f := f) (ρ := ρ) (s := s) h r fun w hw => hh w (List.mem_cons_of_mem _ hw)
    show (g v ρ s).bind _ = _
    rw [h1]
    show (f ρ' s).bind _ = _
    rw [h2]
    show (compL g none f ρ r s).bind _ = _
    rw [ih]
    rfl
@[simp] theorem p_comp (c : Bool) (own : List Nat) (it : CI) (g : CG) (t : Option CT) (f : CE) (ρ : Env) (s : Store) : eComp c own it g t f ρ s = (it ρ s).bind fun vs s => (compL g t f (wipeE ρ own) vs s).bind (newL c) := nrfl rfl
theorem p_try_ok {b : SM} {c : String} {i : Option Nat} {g : SM} {ρ : Env} {s : Store} {o : SO} (h : b ρ s = o) (hn : ∀ x ρ' s', o ≠ .ex x ρ' s') : sTry b c i g ρ s = o := by
  unfold sTry
  rw [h]
  cases o with
  | ex x ρ' s' => exact absurd rfl (hn x ρ' s')
  | _ => rfl
end Fl

namespace Fl
/-- .. where the caller's store is empty -/
theorem fn_long {N ps : Nat} {b : SM} {args : List Val} {s s' : Store} {d : T} (h : b (start N args) s = .rt (.t d) s') (hl : args.length = ps) (hs : s = []) (hb : True) : mkFn N ps b args s = .ok (.t d) [] := by
  subst hs
  unfold mkFn
  rw [if_pos hl, h]
  rfl
end Fl
set_option Elab.async false
set_option linter.all false
set_option maxRecDepth 100000
set_option maxHeartbeats 2000000
/-! Fl over the layer: what stands for what. -/
namespace Fl
open PySem PySem.Spec L2

/-- a key of a dict -/
def kL : Key → L2.Key
  | .i n => .inl n
  | .s x => .inr (Str.ofString x)
theorem ofString_inj {a b : String} (h : Str.ofString a = Str.ofString b) : a = b := by
  rw [Str.ofString_eq_toList, Str.ofString_eq_toList] at h
  have h1 : (a.toList.map Char.toNat).toArray = (b.toList.map Char.toNat).toArray := congrArg Str.cps h
  have h2 : a.toList.map Char.toNat = b.toList.map Char.toNat := by simpa using congrArg Array.toList h1
  have h3 : a.toList = b.toList := by
    refine List.map_inj_right (f := Char.toNat) (fun x y e => ?_) |>.mp h2
    exact Char.ext (UInt32.toNat_inj.mp e)
  exact String.toList_inj.mp h3
theorem kL_inj {a b : Key} (h : kL a = kL b) : a = b := by
  cases a <;> cases b <;> simp only [kL, Sum.inl.injEq, Sum.inr.injEq, reduceCtorEq] at h
  · rw [h]
  · rw [ofString_inj h]

mutual
/-- the data of the library -/
def toPy : T → PyData
  | .non => .none
  | .bl b => .bool b
  | .int i => .int i
  | .str x => .str (Str.ofString x)
  | .tup xs => .tuple (toPys xs)
  | .lst xs => .list (toPys xs)
  | .dct _ => .none
  | .rp d => .str (PyData.shown (toPy d))
def toPys : List T → List PyData
  | [] => []
  | d :: r => toPy d :: toPys r
end

section
variable (K : PySem.W.Frag) (H : Hp) (lv : Addr → Prop)
mutual
/-- v stands for the tree d; lv: the cells' addresses -/
def Rep : T → V → Prop
  | .non, v => v = .non
  | .bl b, v => v = .bl b
  | .int i, v => v = .int i
  | .str x, v => v = .str (Str.ofString x)
  | .tup ts, v => ∃ a vs, v = .ref a ∧ ((H a = some (.tup vs) ∧ ¬ lv a) ∨ ∀ H1, SqT K H1 a vs) ∧ ts.length ≤ L ∧ Reps ts vs
  | .lst ts, v => ∃ a vs, v = .ref a ∧ (H a = some (.lst vs) ∧ ¬ lv a) ∧ ts.length ≤ L ∧ Reps ts vs
  | .dct kts, v => ∃ a kvs, v = .ref a ∧ (Rd H a (.dK kvs) ∧ ¬ lv a) ∧ kts.length ≤ L ∧ RepK kts kvs
  | .rp d, v => v = .str (PyData.shown (toPy d))
def Reps : List T → List V → Prop
  | [], vs => vs = []
  | d :: r, vs => ∃ v q, vs = v :: q ∧ Rep d v ∧ Reps r q
def RepK : List (Key × T) → List (L2.Key × V) → Prop
  | [], vs => vs = []
  | d :: r, vs => ∃ v q, vs = v :: q ∧ RepP d v ∧ RepK r q
def RepP : Key × T → L2.Key × V → Prop
  | (k, d), v => v.1 = kL k ∧ Rep d v.2
end
end

/-- where the cells stand -/
abbrev Mp := Nat → Addr
def live (m : Mp) (st : Store) (a : Addr) : Prop := ∃ n c, st.cell n = some c ∧ m n = a
def RepV (K : PySem.W.Frag) (m : Mp) (st : Store) (H : Hp) : Val → V → Prop
  | .t d, v => Rep K H (live m st) d v
  | .loc n, v => n < st.length ∧ v = .ref (m n)
  | .scr ns, v => ns.length ≤ L ∧ ∃ a, v = .ref a ∧ ((H a ≠ none ∧ ¬ live m st a ∧ SqL K H a (ns.map V.int)) ∨ ∀ H1, SqL K H1 a (ns.map V.int))
  | .ex _, _ => True
def RepVs (K : PySem.W.Frag) (m : Mp) (st : Store) (H : Hp) : List Val → List V → Prop
  | [], vs => vs = []
  | d :: r, vs => ∃ v q, vs = v :: q ∧ RepV K m st H d v ∧ RepVs K m st H r q
def RepVK (K : PySem.W.Frag) (m : Mp) (st : Store) (H : Hp) : List (Key × Val) → List (L2.Key × V) → Prop
  | [], vs => vs = []
  | d :: r, vs => ∃ v q, vs = v :: q ∧ (v.1 = kL d.1 ∧ RepV K m st H d.2 v.2) ∧ RepVK K m st H r q
def RepF (K : PySem.W.Frag) (m : Mp) (st : Store) (H : Hp) : List (String × Val) → List (Str × V) → Prop
  | [], vs => vs = []
  | d :: r, vs => ∃ v q, vs = v :: q ∧ (v.1 = Str.ofString d.1 ∧ RepV K m st H d.2 v.2) ∧ RepF K m st H r q

/-- a class's address by its tag -/
abbrev Tags := String → Addr → Prop
def CellOk (K : PySem.W.Frag) (CA : Tags) (m : Mp) (st : Store) (H : Hp) (a : Addr) : Cell → Prop
  | .lst vs => ∃ us, H a = some (.lst us) ∧ vs.length ≤ L ∧ RepVs K m st H vs us
  | .tup vs => ∃ us, H a = some (.tup us) ∧ vs.length ≤ L ∧ RepVs K m st H vs us
  | .dct kvs => ∃ us, H a = some (.dK us) ∧ kvs.length ≤ L ∧ RepVK K m st H kvs us
  | .ins c fs => ∃ C dx us, CA c C ∧ H a = some (.ins C dx us) ∧ RepF K m st H fs us
  | .kd _ => False
structure SR (K : PySem.W.Frag) (CA : Tags) (m : Mp) (st : Store) (H : Hp) : Prop where
  cells : ∀ n c, st.cell n = some c → CellOk K CA m st H (m n) c
  inj : ∀ n n' c c', st.cell n = some c → st.cell n' = some c' → m n = m n' → n = n'
/-- as it was; a dict may have been locked -/
def Kp (H' : Hp) (a : Addr) (o : HO) : Prop := H' a = some o ∨ ∃ kvs od, o = .dK kvs ∧ H' a = some (.frz od o)
structure Step (m : Mp) (st : Store) (H : Hp) (m' : Mp) (st' : Store) (H' : Hp) : Prop where
  keep : ∀ a o, H a = some o → ¬ live m st a → Kp H' a o
  lv : ∀ a, live m' st' a → live m st a ∨ H a = none
  ag : ∀ n, n < st.length → m' n = m n
  len : st.length ≤ st'.length
def ER (K : PySem.W.Frag) (m : Mp) (st : Store) (H : Hp) (ρ : Env) (σ : L2.St) : Prop :=
  ρ.length = σ.length ∧ ∀ (i : Nat) (w : Val), ρ[i]? = some (some w) → ∃ v, σ[i]? = some (some v) ∧ RepV K m st H w v

section
variable {K : PySem.W.Frag} {CA : Tags} {m m' m2 : Mp} {st st' st2 : Store} {H H' H2 : Hp} {lv lv' : Addr → Prop}
theorem Kp.same {a : Addr} {o : HO} (h : Kp H' a o) (hn : ∀ kvs, o ≠ .dK kvs) : H' a = some o := h.elim id fun ⟨kvs, _, e, _⟩ => absurd e (hn kvs)
theorem Kp.ne {a : Addr} {o : HO} (h : Kp H' a o) : H' a ≠ none := by
  rcases h with h | ⟨_, _, _, h⟩ <;> (rw [h]; simp)
theorem Kp.rd {a : Addr} {kvs : List (L2.Key × V)} (h : Kp H' a (.dK kvs)) : Rd H' a (.dK kvs) := h.elim .inl fun ⟨_, od, _, e⟩ => .inr ⟨od, e⟩
theorem Step.same (s : Step m st H m' st' H') {a : Addr} {o : HO} (h : H a = some o) (n : ¬ live m st a) (hn : ∀ kvs, o ≠ .dK kvs) : H' a = some o := (s.keep a o h n).same hn
theorem Step.refl : Step m st H m st H := ⟨fun _ _ h _ => .inl h, fun _ h => .inl h, fun _ _ => rfl, Nat.le_refl _⟩
theorem Step.trans (a : Step m st H m' st' H') (b : Step m' st' H' m2 st2 H2) : Step m st H m2 st2 H2 where
  keep := fun x o h n => by
    have nl : ¬ live m' st' x := fun l => (a.lv x l).elim n fun z => by rw [h] at z; cases z
    rcases a.keep x o h n with q | ⟨kvs, od, e, q⟩
    · exact b.keep x o q nl
    · exact .inr ⟨kvs, od, e, (b.keep x _ q nl).same fun _ z => by cases z⟩
  lv := fun x h => by
    rcases b.lv x h with q | q
    · exact a.lv x q
    · by_cases l : live m st x
      · exact .inl l
      · refine .inr ?_
        cases e : H x with
        | none => rfl
        | some o => exact absurd q (a.keep x o e l).ne
  ag := fun n h => (b.ag n (Nat.lt_of_lt_of_le h a.len)).trans (a.ag n h)
  len := Nat.le_trans a.len b.len
mutual
theorem Rep.mono (k : ∀ a o, H a = some o → ¬ lv a → Kp H' a o) (l : ∀ a, lv' a → lv a ∨ H a = none) : ∀ (d : T) (v : V), Rep K H lv d v → Rep K H' lv' d v
  | .non, _, h => h
  | .bl _, _, h => h
  | .int _, _, h => h
  | .str _, _, h => h
  | .rp _, _, h => h
  | .tup ts, v, h => by
    obtain ⟨a, vs, e, q, z, r⟩ := h
    refine ⟨a, vs, e, ?_, z, Reps.mono k l ts vs r⟩
    rcases q with ⟨q, n⟩ | q
    · exact .inl ⟨(k a _ q n).same (fun _ z => nomatch z), fun z => (l a z).elim n fun z => by rw [q] at z; cases z⟩
    · exact .inr q
  | .lst ts, v, h => by
    obtain ⟨a, vs, e, ⟨q, n⟩, z, r⟩ := h
    exact ⟨a, vs, e, ⟨(k a _ q n).same (fun _ z => nomatch z), fun z => (l a z).elim n fun z => by rw [q] at z; cases z⟩, z, Reps.mono k l ts vs r⟩
  | .dct kts, v, h => by
    obtain ⟨a, vs, e, ⟨q, n⟩, z, r⟩ := h
    refine ⟨a, vs, e, ⟨?_, fun z => (l a z).elim n fun z => by rcases q with q | ⟨_, q⟩ <;> (rw [q] at z; cases z)⟩, z, RepK.mono k l kts vs r⟩
    rcases q with q | ⟨o, q⟩
    · exact (k a _ q n).rd
    · exact .inr ⟨o, (k a _ q n).same fun _ z => by cases z⟩
theorem Reps.mono (k : ∀ a o, H a = some o → ¬ lv a → Kp H' a o) (l : ∀ a, lv' a → lv a ∨ H a = none) : ∀ (d : List T) (v : List V), Reps K H lv d v → Reps K H' lv' d v
  | [], _, h => h
  | d :: r, _, h => by
    obtain ⟨v, q, e, h1, h2⟩ := h
    exact ⟨v, q, e, Rep.mono k l d v h1, Reps.mono k l r q h2⟩
theorem RepK.mono (k : ∀ a o, H a = some o → ¬ lv a → Kp H' a o) (l : ∀ a, lv' a → lv a ∨ H a = none) : ∀ (d : List (Key × T)) (v : List (L2.Key × V)), RepK K H lv d v → RepK K H' lv' d v
  | [], _, h => h
  | d :: r, _, h => by
    obtain ⟨v, q, e, h1, h2⟩ := h
    exact ⟨v, q, e, RepP.mono k l d v h1, RepK.mono k l r q h2⟩
theorem RepP.mono (k : ∀ a o, H a = some o → ¬ lv a → Kp H' a o) (l : ∀ a, lv' a → lv a ∨ H a = none) : ∀ (d : Key × T) (v : L2.Key × V), RepP K H lv d v → RepP K H' lv' d v
  | (_, d), (_, v), h => ⟨h.1, Rep.mono k l d v h.2⟩
end
theorem sqL_keep {a : Addr} {xs : List V} (h : SqL K H a xs) (e : H' a = H a) : SqL K H' a xs := by
  rcases h with h | h
  · refine .inl ?_
    rcases h with h | ⟨o, h⟩
    · exact .inl (e.trans h)
    · exact .inr ⟨o, e.trans h⟩
  · exact .inr h
theorem RepV.mono (s : Step m st H m' st' H') : ∀ (w : Val) (v : V), RepV K m st H w v → RepV K m' st' H' w v
  | .t d, v, h => Rep.mono s.keep s.lv d v h
  | .loc n, v, h => ⟨Nat.lt_of_lt_of_le h.1 s.len, by rw [s.ag n h.1]; exact h.2⟩
  | .scr ns, v, h => by
    obtain ⟨zl, a, e, q⟩ := h
    refine ⟨zl, a, e, ?_⟩
    rcases q with ⟨q1, q2, q3⟩ | q
    · cases z : H a with
      | none => exact absurd z q1
      | some o =>
        refine .inl ⟨(s.keep a o z q2).ne, fun l => (s.lv a l).elim q2 q1, ?_⟩
        rcases q3 with q3 | q3
        · refine .inl ?_
          rcases q3 with q3 | ⟨o', q3⟩
          · exact .inl (s.same q3 q2 fun _ z => nomatch z)
          · exact .inr ⟨o', s.same q3 q2 fun _ z => nomatch z⟩
        · exact .inr q3
    · exact .inr q
  | .ex _, _, _ => trivial
theorem RepVs.mono (s : Step m st H m' st' H') : ∀ (w : List Val) (v : List V), RepVs K m st H w v → RepVs K m' st' H' w v
  | [], _, h => h
  | d :: r, _, h => by
    obtain ⟨v, q, e, h1, h2⟩ := h
    exact ⟨v, q, e, RepV.mono s d v h1, RepVs.mono s r q h2⟩
theorem RepVK.mono (s : Step m st H m' st' H') : ∀ (w : List (Key × Val)) (v : List (L2.Key × V)), RepVK K m st H w v → RepVK K m' st' H' w v
  | [], _, h => h
  | d :: r, _, h => by
    obtain ⟨v, q, e, h1, h2⟩ := h
    exact ⟨v, q, e, ⟨h1.1, RepV.mono s d.2 v.2 h1.2⟩, RepVK.mono s r q h2⟩
theorem RepF.mono (s : Step m st H m' st' H') : ∀ (w : List (String × Val)) (v : List (Str × V)), RepF K m st H w v → RepF K m' st' H' w v
  | [], _, h => h
  | d :: r, _, h => by
    obtain ⟨v, q, e, h1, h2⟩ := h
    exact ⟨v, q, e, ⟨h1.1, RepV.mono s d.2 v.2 h1.2⟩, RepF.mono s r q h2⟩
theorem ER.mono {ρ : Env} {σ : L2.St} (s : Step m st H m' st' H') (h : ER K m st H ρ σ) : ER K m' st' H' ρ σ :=
  ⟨h.1, fun i w e => let ⟨v, e1, r⟩ := h.2 i w e; ⟨v, e1, RepV.mono s w v r⟩⟩
end

/-- how an exception's object is told: its class, its own dict -/
abbrev XRel := Exc → Value → Option Addr → Hp → Prop
/-- a result, what may be said of it -/
def PR {α : Type} (K : PySem.W.Frag) (CA : Tags) (XR : XRel) (W : WX) (σ : L2.St) (r : R α) (m : Mp) (st : Store) (H : Hp) (ok : α → Mp → Store → Hp → Prop) : Prop := match r with
  | .ok a st' => ∀ m' H', SR K CA m' st' H' → Step m st H m' st' H' → ok a m' st' H'
  | .exc x st' => ∀ m' H' cls d, SR K CA m' st' H' → Step m st H m' st' H' → XR x cls d H' → W cls d σ H'
  | .bad => False
section
variable {α β : Type} {K : PySem.W.Frag} {CA : Tags} {XR : XRel} {W : WX} {σ : L2.St} {r : R α} {m m1 : Mp} {st st1 : Store} {H H1 : Hp} {ok ok' : α → Mp → Store → Hp → Prop}
theorem PR.step (h : PR K CA XR W σ r m st H ok) (s : Step m st H m1 st1 H1) : PR K CA XR W σ r m1 st1 H1 ok := by
  cases r with
  | ok a s' => exact fun m' H' S T => h m' H' S (s.trans T)
  | exc x s' => exact fun m' H' c d S T => h m' H' c d S (s.trans T)
  | bad => exact h
theorem PR.bind_of {k : α → M β} {ok : β → Mp → Store → Hp → Prop} (h : PR K CA XR W σ (r.bind k) m st H ok) : PR K CA XR W σ r m st H fun a m1 st1 H1 => PR K CA XR W σ (k a st1) m1 st1 H1 ok := by
  cases r with
  | ok a s' => exact fun m' H' S T => PR.step h T
  | exc x s' => exact h
  | bad => exact h
theorem PR.mono (h : PR K CA XR W σ r m st H ok) (k : ∀ a m' st' H', SR K CA m' st' H' → Step m st H m' st' H' → ok a m' st' H' → ok' a m' st' H') : PR K CA XR W σ r m st H ok' := by
  cases r with
  | ok a s' => exact fun m' H' S T => k a m' s' H' S T (h m' H' S T)
  | exc x s' => exact h
  | bad => exact h
/-- a plain result here -/
theorem PR.here {a : α} (S : SR K CA m st H) (h : PR K CA XR W σ (.ok a st) m st H ok) : ok a m st H := h m H S Step.refl
end
end Fl
set_option Elab.async false
set_option linter.all false
set_option maxRecDepth 100000
set_option maxHeartbeats 2000000
/-! Fl over the layer: contexts, expressions. -/
namespace Fl
open PySem PySem.Spec L2

/-- room for k calls, one in another; no repr under way -/
structure Room1 (k : Nat) (A : Around) : Prop where
  hd : A.handled = none
  dp : A.depth + k + 8 < recursionLimit
  un : A.units + 14 * k + 400 < cLine
  gd : A.guards = some []
theorem Room1.mono {j k : Nat} {A : Around} (r : Room1 k A) (h : j ≤ k) : Room1 j A :=
  ⟨r.hd, by have := r.dp; omega, by have := r.un; omega, r.gd⟩
theorem Room1.u64 {k : Nat} {A : Around} (r : Room1 k A) : A.units + 64 < cLine := by have := r.un; omega
theorem Room1.u65 {k : Nat} {A : Around} (r : Room1 k A) : A.units + 65 < cLine := by have := r.un; omega
theorem Room1.u1 {k : Nat} {A : Around} (r : Room1 k A) : A.units + 1 < cLine := by have := r.un; omega
theorem Room1.u0 {k : Nat} {A : Around} (r : Room1 k A) : A.units < cLine := by have := r.un; omega
theorem Room1.deeper {k : Nat} {A : Around} (r : Room1 (k + 1) A) (env : L2.Cx → PySem.Env := fun X => X.env) (e : PySem.Env) : Room1 k (A.deeper e) :=
  ⟨r.hd, by have := r.dp; show A.depth + 1 + k + 8 < _; omega, by have := r.un; show A.units + 3 + 14 * k + 400 < _; omega, r.gd⟩

/-- what is fixed through a law's text -/
structure Tab where
  /-- defs: name, id, number of parameters -/
  fns : List (Str × Nat × Nat)
  /-- classes: name, tag, its __init__'s id, number of parameters with self -/
  cls : List (Str × String × Nat × Nat)
  /-- methods: tag, name, id, number of parameters with self -/
  mts : List (String × Str × Nat × Nat)
  consts : List (Str × T)
  /-- exception classes made of a text: name, tag -/
  excs : List (Str × String)
  ats : List (Str × String)
  free : List Str
  /-- names of classes that isinstance asks of exceptions, that except clauses name; the tags -/
  exIs : List (Str × String)
  exMs : List (Str × String)

def spOf (K : PySem.W.Frag) (CA : Tags) (XR : XRel) (f : List Val → M Val) (n : Nat) : Sp := fun vs H Q E => vs.length = n ∧ ∃ m st as, SR K CA m st H ∧ RepVs K m st H as vs ∧
  PR K CA XR (fun c d _ H' => E c d H') [] (f as st) m st H fun a m' st' H' => ∀ v, RepV K m' st' H' a v → Q v H'

section
variable (P : Program) (w : World) (K : PySem.W.Frag) (mg : Str → Option Value) (base : Heap)
/-- a def's promise, its room counted by calls -/
structure FnOk1 (k : Nat) (f : Addr) (fd : FuncData) (ps : List Str) (sp : Sp) : Prop where
  len : ∀ vs H Q E, sp vs H Q E → vs.length = ps.length
  run : ∀ (A : Around) (outer : List PySem.Env) (s : Shared) (H : Hp) (args : Args) (us : List Value) (vs : List V) (Q : VK) (E : XK),
    Room1 k A → Env0 P w K mg base A outer s H → BindsTo s fd args (ps.zip us) → Vals vs us → sp vs H Q E →
    codeAny (model P w) A (.call (.ref f) args) (CR (CX P w) outer P w H s Q E) s
end
/-- the text's own objects -/
structure GlobOk (T : Tab) (G : FEnv) (CA : Tags) (XR : XRel) (P : Program) (w : World) (K : PySem.W.Frag) (mg : Str → Option Value) (base : Heap) (k : Nat) : Prop where
  fns : ∀ x i n, (x, i, n) ∈ T.fns → ∃ f fd ps, mg x = some (.ref f) ∧ PySem.W.keepIn K (.ref f) = true ∧ Binds K fd ps [] ∧ FnOk1 P w K mg base k f fd ps (spOf K CA XR (G i) n)
  cls : ∀ x t i n, (x, t, i, n) ∈ T.cls → ∃ C fI fd ps, CA t C ∧ mg x = some (.ref C) ∧ Cls K C ∧ Mk K C fI ∧ Binds K fd ps [] ∧ ((∀ as s, G i as s = .bad) ∨ ∃ j, j + 1 = k ∧ FnOk1 P w K mg base j fI fd ps (spOf K CA XR (G i) n))
  mts : ∀ t x i n, (t, x, i, n) ∈ T.mts → ∃ C f fd ps, CA t C ∧ Cls K C ∧ Meth K C x f ∧ Binds K fd ps [] ∧ FnOk1 P w K mg base k f fd ps (spOf K CA XR (G i) n)
  tag : ∀ t C C', CA t C → CA t C' → C = C'
  ats : ∀ x s t C, (x, s) ∈ T.ats → CA t C → x = Str.ofString s ∧ Cls K C ∧ NoAttr K C x
  consts : ∀ x d, (x, d) ∈ T.consts → ∃ u v, mg x = some u ∧ RelV v u ∧ ∀ (H : Hp) lv, Rep K H lv d v
  excs : ∀ x t, (x, t) ∈ T.excs → ∃ C bmB newId initId B, mg x = some (.ref C) ∧ ∃ (F : ExcBaseFacts B newId initId bmB), PySem.W.excIn K C bmB newId = true ∧ PySem.W.keepIn K (.ref C) = true ∧
    PySem.W.subIn K (.ref C) (.type "BaseException") = some true ∧ PySem.W.typeIn K (.ref C) = some (.type "type") ∧ ∀ H, XR ⟨t, none⟩ (.ref C) none H
  free : ∀ x ∈ T.free, mg x = none
  exIs : ∀ x t, (x, t) ∈ T.exIs → ∃ (u : V) (uv : Value), (mg x = some uv ∨ (mg x = none ∧ bootBuiltins x = some uv)) ∧ RelV u uv ∧ (∀ w, RelV u w → w = uv) ∧
    ∀ y c d H, XR y c d H → d = none ∧ ∃ C, c = .ref C ∧ ExcC K C ∧ PySem.W.kitOne K (.ref C) uv = some (excSub y.cls t)
  exMs : ∀ x t, (x, t) ∈ T.exMs → ∃ uv : Value, (mg x = some uv ∨ (mg x = none ∧ bootBuiltins x = some uv)) ∧ ∀ y c d H, XR y c d H → PySem.W.exmOne K c uv = some (excSub y.cls t)

/-- where a piece of syntax stands: its names, its scope, what it may store -/
structure Cw (tb : Tab) (G : FEnv) (CA : Tags) (XR : XRel) (k : Nat) (N : List Str) (sc : Scope) (own : Str → Bool) (X : Cx) (W : WX) : Prop where
  nm : X.N = N
  nd : N.Nodup
  sc : X.env.scope = sc
  own : X.fn = own
  un : X.A.units + 400 < cLine
  glob : GlobOk tb G CA XR X.prog X.w X.K X.mg X.base k
theorem Cw.u64 {tb : Tab} {G : FEnv} {CA : Tags} {XR : XRel} {k : Nat} {N : List Str} {sc : Scope} {own : Str → Bool} {X : Cx} {W : WX} (C : Cw tb G CA XR k N sc own X W) : X.A.units + 64 < cLine := by have := C.un; omega
theorem Cw.u65 {tb : Tab} {G : FEnv} {CA : Tags} {XR : XRel} {k : Nat} {N : List Str} {sc : Scope} {own : Str → Bool} {X : Cx} {W : WX} (C : Cw tb G CA XR k N sc own X W) : X.A.units + 65 < cLine := by have := C.un; omega
theorem Cw.u1 {tb : Tab} {G : FEnv} {CA : Tags} {XR : XRel} {k : Nat} {N : List Str} {sc : Scope} {own : Str → Bool} {X : Cx} {W : WX} (C : Cw tb G CA XR k N sc own X W) : X.A.units + 1 < cLine := by have := C.un; omega
/-- an exception in the air of X, over a frame's own address -/
def XEL (X : Cx) (F : Addr) (W : WX) (u : Value) (s' : Shared) : Prop :=
  ∃ (a : Addr) (B : Heap) (sI : Shared) (pins : List (Addr × Obj)) (σ : L2.St) (H : Hp) (cls : Value) (d : Option Addr), (u = .ref a ∧ W cls d σ H) ∧ Inv X pins σ H sI ∧ (Sky B X.stack a (Zc cls d) F s'.heap ∧ H a = none) ∧
    (∀ b o, sI.heap.get? b = some o → b ∉ frs X.stack → B.get? b = some o) ∧ sI.heap.UpToSlots s'.heap ∧ s'.os = sI.os ∧ PyProof.Rows.AllBare s'.gens
/-- .. where calls may be made, exceptions let out -/
structure Cq (tb : Tab) (G : FEnv) (CA : Tags) (XR : XRel) (k : Nat) (N : List Str) (sc : Scope) (own : Str → Bool) (X : Cx) (W : WX) : Prop extends Cw tb G CA XR k N sc own X W where
  calm : X.calm = true
  takes : ∃ F, X.env.frame = some F ∧ (∃ e0 r, X.stack = e0 :: r ∧ e0.frame = some F) ∧ ∀ u s', XEL X F W u s' → X.xe u s'
  room : Room1 k X.A

/-! ### readings -/
def tM (K : PySem.W.Frag) (CA : Tags) (XR : XRel) (W : WX) (f : CE) : TE := fun σ H Q => ∃ m st ρ, SR K CA m st H ∧ ER K m st H ρ σ ∧
  PR K CA XR W σ (f ρ st) m st H fun a m' st' H' => ∀ v, RepV K m' st' H' a v → Q v H'
def tMT (K : PySem.W.Frag) (CA : Tags) (XR : XRel) (W : WX) (f : CT) : TT := fun σ H Q => ∃ m st ρ, SR K CA m st H ∧ ER K m st H ρ σ ∧
  PR K CA XR W σ (f ρ st) m st H fun b m' st' H' => Q b H'
def tMA (K : PySem.W.Frag) (CA : Tags) (XR : XRel) (W : WX) (f : Env → M (List Val)) : TA := fun σ H Q => ∃ m st ρ, SR K CA m st H ∧ ER K m st H ρ σ ∧
  PR K CA XR W σ (f ρ st) m st H fun a m' st' H' => ∀ vs, RepVs K m' st' H' a vs → Q vs H'
abbrev SE (CA : Tags) (XR : XRel) (X : Cx) (W : WX) (e : Expr) (f : CE) : Prop := PE X e (tM X.K CA XR W f)
abbrev STt (CA : Tags) (XR : XRel) (X : Cx) (W : WX) (e : Expr) (f : CT) : Prop := PT X e (tMT X.K CA XR W f)
abbrev SA (CA : Tags) (XR : XRel) (X : Cx) (W : WX) (es : List Expr) (f : Env → M (List Val)) : Prop := PA X es (tMA X.K CA XR W f)
theorem PE.weak {X : Cx} {e : Expr} {t t' : TE} (h : PE X e t) (k : ∀ σ H Q, t' σ H Q → t σ H Q) : PE X e t' := ⟨fun pins s σ H Q I q => h.run pins s σ H Q I (k σ H Q q)⟩
theorem PT.weak {X : Cx} {e : Expr} {t t' : TT} (h : PT X e t) (k : ∀ σ H Q, t' σ H Q → t σ H Q) : PT X e t' := ⟨fun pins s σ H Q I q => h.run pins s σ H Q I (k σ H Q q)⟩
theorem PA.weak {X : Cx} {e : List Expr} {t t' : TA} (h : PA X e t) (k : ∀ σ H Q, t' σ H Q → t σ H Q) : PA X e t' := ⟨fun pos pins s σ H Q I q => h.run pos pins s σ H Q I (k σ H Q q)⟩

section
variable {tb : Tab} {G : FEnv} {CA : Tags} {XR : XRel} {k : Nat} {N : List Str} {sc : Scope} {own : Str → Bool} {X : Cx} {W : WX}
variable {a b c e : Expr} {es : List Expr} {pos pos' : Pos} {f g h : CE}

theorem look_vis {sc : Scope} {x : Str} (h : (match sc.names.lookup x with
    | some .local => true
    | some .cell => true
    | some .free => true
    | _ => false) = true) : Vis sc x := by
  unfold Vis
  cases e : sc.names.lookup x with
  | none => rw [e] at h; cases h
  | some k => rw [e] at h; cases k <;> first | exact .inl rfl | exact .inr (.inl rfl) | exact .inr (.inr rfl) | cases h
def visB (sc : Scope) (x : Str) : Bool := (match sc.names.lookup x with
    | some .local => true
    | some .cell => true
    | some .free => true
    | _ => false) && !(x == ("__debug__" : Str)) && !(x == ("__classdict__" : Str))
def glbB (sc : Scope) (x : Str) : Bool := decide (sc.names.lookup x = some .globalImplicit) && !(x == ("__debug__" : Str)) && !(x == ("__name__" : Str))

theorem ER.get {K : PySem.W.Frag} {m : Mp} {st : Store} {H : Hp} {ρ : Env} {σ : L2.St} (E : ER K m st H ρ σ) {i : Nat} {w : Val} (e : ρ[i]? = some (some w)) : ∃ v, σ[i]? = some (some v) ∧ RepV K m st H w v := E.2 i w e

theorem se_var (C : Cw tb G CA XR k N sc own X W) (i : Nat) {x : Str} (hi : N[i]? = some x := by rfl) (hv : visB sc x = true := by rfl) : SE CA XR X W (.Name x pos) (eVar i) := by
  unfold visB at hv
  simp only [Bool.and_eq_true, Bool.not_eq_true'] at hv
  refine PE.weak (pe_var (i := i) (by rw [C.nm]; exact hi) (by rw [C.sc]; exact look_vis hv.1.1) hv.1.2 hv.2) fun σ H Q => ?_
  rintro ⟨m, st, ρ, S, E, q⟩
  unfold eVar at q
  cases e : ρ[i]? with
  | none => rw [e] at q; exact q.elim
  | some o =>
    rw [e] at q
    cases o with
    | none => exact q.elim
    | some w =>
      obtain ⟨v, e1, r⟩ := E.get e
      exact ⟨v, e1, PR.here S q v r⟩
theorem se_int {i : Int} {j : Nat} : SE CA XR X W (.Constant (.int i) j pos) (eC (.int i)) := PE.weak pe_int fun σ H Q ⟨m, st, ρ, S, E, q⟩ => PR.here S q (.int i) rfl
theorem se_bl {i : Bool} {j : Nat} : SE CA XR X W (.Constant (.bool i) j pos) (eC (.bl i)) := PE.weak pe_bl fun σ H Q ⟨m, st, ρ, S, E, q⟩ => PR.here S q (.bl i) rfl
theorem se_non {j : Nat} : SE CA XR X W (.Constant .none j pos) (eC .non) := PE.weak pe_non fun σ H Q ⟨m, st, ρ, S, E, q⟩ => PR.here S q .non rfl
theorem se_str {i : String} {j : Nat} : SE CA XR X W (.Constant (.str (Str.ofString i)) j pos) (eC (.str i)) := PE.weak pe_str fun σ H Q ⟨m, st, ρ, S, E, q⟩ => PR.here S q (.str i) rfl

/-! two values, one -/
theorem tM.bind {k' : Val → CE} {σ : L2.St} {H : Hp} {Q : VK} (h : tM X.K CA XR W (fun ρ => f ρ >>= fun x => k' x ρ) σ H Q) :
    ∃ m st ρ, SR X.K CA m st H ∧ ER X.K m st H ρ σ ∧ tM X.K CA XR W f σ H fun v H1 => ∃ x m1 st1, SR X.K CA m1 st1 H1 ∧ Step m st H m1 st1 H1 ∧ RepV X.K m1 st1 H1 x v ∧ ER X.K m1 st1 H1 ρ σ ∧
      PR X.K CA XR W σ (k' x ρ st1) m1 st1 H1 fun a m' st' H' => ∀ v, RepV X.K m' st' H' a v → Q v H' := by
  obtain ⟨m, st, ρ, S, E, q⟩ := h
  refine ⟨m, st, ρ, S, E, m, st, ρ, S, E, (PR.bind_of q).mono fun x m1 st1 H1 S1 T1 h1 v r => ⟨x, m1, st1, S1, T1, r, E.mono T1, h1⟩⟩
/-- a two-place operator by values -/
theorem two {k2 : Val → Val → M Val} {r : R2} {σ : L2.St} {H : Hp} {Q : VK} (hk : ∀ x y m st H v w Q, SR X.K CA m st H → RepV X.K m st H x v → RepV X.K m st H y w →
      PR X.K CA XR W σ (k2 x y st) m st H (fun a m' st' H' => ∀ u, RepV X.K m' st' H' a u → Q u H') → r v w H Q) (h : tM X.K CA XR W (e2 k2 f g) σ H Q) : tOp r (tM X.K CA XR W f) (tM X.K CA XR W g) σ H Q := by
  obtain ⟨m, st, ρ, S, E, q⟩ := h
  refine ⟨m, st, ρ, S, E, (PR.bind_of q).mono fun x m1 st1 H1 S1 T1 h1 v rv => ⟨m1, st1, ρ, S1, E.mono T1, (PR.bind_of h1).mono fun y m2 st2 H2 S2 T2 h2 w rw => ?_⟩⟩
  exact hk x y m2 st2 H2 v w Q S2 (RepV.mono T2 x v rv) rw h2
theorem se_bin {op : Operator} {k2 : Val → Val → M Val} {r : R2} (ho : OpR X (binaryOp op) r) (hk : ∀ σ x y m st H v w Q, SR X.K CA m st H → RepV X.K m st H x v → RepV X.K m st H y w →
      PR X.K CA XR W σ (k2 x y st) m st H (fun a m' st' H' => ∀ u, RepV X.K m' st' H' a u → Q u H') → r v w H Q) (ha : SE CA XR X W a f) (hb : SE CA XR X W b g) : SE CA XR X W (.BinOp a op b pos) (e2 k2 f g) :=
  PE.weak (pe_op ho ha hb) fun σ H Q q => two (hk σ) q

theorem se_sub (ha : SE CA XR X W a f) (hb : SE CA XR X W b g) : SE CA XR X W (.BinOp a .Sub b pos) (e2 subV f g) := by
  refine se_bin op_sub (fun σ x y m st H v w Q S rx ry q => ?_) ha hb
  unfold subV at q
  split at q
  · cases rx; cases ry
    exact ⟨_, _, rfl, rfl, PR.here S q _ rfl⟩
  · exact q.elim
theorem se_mod (ha : SE CA XR X W a f) (hb : SE CA XR X W b g) : SE CA XR X W (.BinOp a .Mod b pos) (e2 modV f g) := by
  refine se_bin op_modN (fun σ x y m st H v w Q S rx ry q => ?_) ha hb
  unfold modV at q
  split at q
  · cases rx; cases ry
    split at q
    · rename_i hj
      exact ⟨_, _, rfl, rfl, hj, PR.here S q _ rfl⟩
    · exact q.elim
  · exact q.elim
end
end Fl
set_option Elab.async false
set_option linter.all false
set_option maxRecDepth 100000
set_option maxHeartbeats 2000000
/-! Fl over the layer: new objects, cells written. -/
namespace Fl
open PySem PySem.Spec L2

theorem L_eq : sizeLine = L := by rw [sizeLine_eq]
theorem lineOf {n : Nat} (h : n ≤ L) : n ≤ sizeLine := by rw [L_eq]; exact h
theorem lineLt {n : Nat} (h : n < L) : n < sizeLine := by rw [L_eq]; exact h

theorem cell_app {st : Store} {c : Option Cell} {n : Nat} : (st ++ [c]).cell n = if n = st.length then c else st.cell n := by
  unfold Store.cell
  by_cases h : n = st.length
  · subst h; simp
  · rw [if_neg h]
    by_cases h2 : n < st.length
    · rw [List.getElem?_append_left h2]
    · rw [List.getElem?_eq_none (by simp; omega), List.getElem?_eq_none (by omega)]
theorem cell_set {st : Store} {c : Option Cell} {n k : Nat} (h : n < st.length) : Store.cell (st.set n c) k = if k = n then c else st.cell k := by
  unfold Store.cell
  by_cases e : k = n
  · subst e; rw [List.getElem?_set_self h, if_pos rfl]; rfl
  · rw [List.getElem?_set_ne (Ne.symm e), if_neg e]
theorem cell_lt {st : Store} {n : Nat} {c : Cell} (h : st.cell n = some c) : n < st.length := by
  unfold Store.cell at h
  by_cases e : n < st.length
  · exact e
  · rw [List.getElem?_eq_none (by omega)] at h; cases h

section
variable {K : PySem.W.Frag} {CA : Tags} {m : Mp} {st : Store} {H : Hp} {p : Addr} {o : HO}
theorem CellOk.mono {m' : Mp} {st' : Store} {H' : Hp} {a : Addr} (s : Step m st H m' st' H') (e : H' a = H a) : ∀ c, CellOk K CA m st H a c → CellOk K CA m' st' H' a c
  | .lst _, ⟨us, h, z, r⟩ => ⟨us, e.trans h, z, RepVs.mono s _ _ r⟩
  | .tup _, ⟨us, h, z, r⟩ => ⟨us, e.trans h, z, RepVs.mono s _ _ r⟩
  | .dct _, ⟨us, h, z, r⟩ => ⟨us, e.trans h, z, RepVK.mono s _ _ r⟩
  | .ins _ _, ⟨C, dx, us, ca, h, r⟩ => ⟨C, dx, us, ca, e.trans h, RepF.mono s _ _ r⟩
  | .kd _, h => h.elim
theorem CellOk.there {a : Addr} : ∀ {c}, CellOk K CA m st H a c → ∃ o, H a = some o
  | .lst _, ⟨us, h, _⟩ => ⟨_, h⟩
  | .tup _, ⟨us, h, _⟩ => ⟨_, h⟩
  | .dct _, ⟨us, h, _⟩ => ⟨_, h⟩
  | .ins _ _, ⟨C, dx, us, ca, h, r⟩ => ⟨_, h⟩
  | .kd _, h => h.elim
theorem SR.there (S : SR K CA m st H) {a : Addr} (h : live m st a) : ∃ o, H a = some o := by
  obtain ⟨n, c, e, rfl⟩ := h
  exact (S.cells n c e).there
/-- a new object that is no cell -/
theorem SR.fresh (S : SR K CA m st H) (hp : H p = none) : Step m st H m st (upd H p o) ∧ SR K CA m st (upd H p o) := by
  have T : Step m st H m st (upd H p o) := ⟨fun a u h _ => .inl (by rw [upd_ne (ne_of_none h hp)]; exact h), fun _ h => .inl h, fun _ _ => rfl, Nat.le_refl _⟩
  refine ⟨T, fun n c e => ?_, S.inj⟩
  have q := S.cells n c e
  obtain ⟨u, hu⟩ := q.there
  exact q.mono T (upd_ne (ne_of_none hu hp))
theorem SR.not_live (S : SR K CA m st H) (hp : H p = none) : ¬ live m st p := fun z => by
  obtain ⟨o, e⟩ := S.there z
  rw [hp] at e; cases e
/-- a new cell -/
def mNew (m : Mp) (st : Store) (p : Addr) : Mp := fun n => if n = st.length then p else m n
theorem mNew_same : mNew m st p st.length = p := if_pos rfl
theorem SR.cellStep (S : SR K CA m st H) (hp : H p = none) (c : Cell) : Step m st H (mNew m st p) (st ++ [some c]) (upd H p o) := by
  refine ⟨fun a u h _ => .inl (by rw [upd_ne (ne_of_none h hp)]; exact h), fun a h => ?_, fun n h => if_neg (Nat.ne_of_lt h), by simp⟩
  obtain ⟨n, d, e, rfl⟩ := h
  rw [cell_app] at e
  by_cases hn : n = st.length
  · subst hn; rw [mNew_same]; exact .inr hp
  · rw [if_neg hn] at e
    exact .inl ⟨n, d, e, (if_neg hn).symm⟩
theorem SR.newCell (S : SR K CA m st H) (hp : H p = none) {c : Cell} (h : CellOk K CA (mNew m st p) (st ++ [some c]) (upd H p o) p c) : SR K CA (mNew m st p) (st ++ [some c]) (upd H p o) := by
  have T := S.cellStep (o := o) hp c
  refine ⟨fun n d e => ?_, fun n n' d d' e e' q => ?_⟩
  · rw [cell_app] at e
    by_cases hn : n = st.length
    · subst hn; rw [if_pos rfl] at e; cases e; rw [mNew_same]; exact h
    · rw [if_neg hn] at e
      have z := S.cells n d e
      obtain ⟨u, hu⟩ := z.there
      have en : mNew m st p n = m n := if_neg hn
      rw [en]
      exact z.mono T (upd_ne (ne_of_none hu hp))
  · have key : ∀ {i : Nat} {d : Cell}, (st ++ [some c]).cell i = some d → i ≠ st.length → mNew m st p i ≠ p := fun {i d} e hi z => by
      rw [cell_app, if_neg hi] at e
      obtain ⟨u, hu⟩ := (S.cells i d e).there
      have : mNew m st p i = m i := if_neg hi
      rw [this] at z
      rw [z, hp] at hu; cases hu
    by_cases hn : n = st.length
    · by_cases hn' : n' = st.length
      · rw [hn, hn']
      · exact absurd (by rw [← q, hn, mNew_same]) (key e' hn')
    · by_cases hn' : n' = st.length
      · exact absurd (by rw [q, hn', mNew_same]) (key e hn)
      · rw [cell_app, if_neg hn] at e
        rw [cell_app, if_neg hn'] at e'
        have e1 : mNew m st p n = m n := if_neg hn
        have e2 : mNew m st p n' = m n' := if_neg hn'
        exact S.inj n n' d d' e e' (by rw [← e1, ← e2]; exact q)
/-- a cell is written -/
theorem SR.setStep (S : SR K CA m st H) {n : Nat} {c c' : Cell} (e : st.cell n = some c) : Step m st H m (st.set n (some c')) (upd H (m n) o) := by
  refine ⟨fun a u h l => ?_, fun a h => ?_, fun _ _ => rfl, by simp⟩
  · exact .inl (by rw [upd_ne fun z => l ⟨n, c, e, z.symm⟩]; exact h)
  · obtain ⟨k, d, q, rfl⟩ := h
    rw [cell_set (cell_lt e)] at q
    by_cases hk : k = n
    · subst hk; exact .inl ⟨k, c, e, rfl⟩
    · rw [if_neg hk] at q; exact .inl ⟨k, d, q, rfl⟩
theorem SR.setCell (S : SR K CA m st H) {n : Nat} {c c' : Cell} (e : st.cell n = some c) (h : CellOk K CA m (st.set n (some c')) (upd H (m n) o) (m n) c') : SR K CA m (st.set n (some c')) (upd H (m n) o) := by
  have T := S.setStep (o := o) (c' := c') e
  refine ⟨fun k d q => ?_, fun k k' d d' q q' z => ?_⟩
  · rw [cell_set (cell_lt e)] at q
    by_cases hk : k = n
    · subst hk; rw [if_pos rfl] at q; cases q; exact h
    · rw [if_neg hk] at q
      refine (S.cells k d q).mono T (upd_ne fun z => hk (S.inj k n d c q e z))
  · have key : ∀ {i : Nat} {d : Cell}, Store.cell (st.set n (some c')) i = some d → ∃ d', st.cell i = some d' := fun {i d} q => by
      rw [cell_set (cell_lt e)] at q
      by_cases hi : i = n
      · subst hi; exact ⟨c, e⟩
      · rw [if_neg hi] at q; exact ⟨d, q⟩
    obtain ⟨_, q1⟩ := key q
    obtain ⟨_, q2⟩ := key q'
    exact S.inj k k' _ _ q1 q2 z
/-- a cell is forgotten -/
theorem cell_none {n k : Nat} : Store.cell (st.set n none) k = if k = n then none else st.cell k := by
  by_cases h : n < st.length
  · exact cell_set h
  · rw [List.set_eq_of_length_le (by omega)]
    by_cases e : k = n
    · subst e; unfold Store.cell; rw [List.getElem?_eq_none (by omega), if_pos rfl]; rfl
    · rw [if_neg e]
theorem SR.drop (S : SR K CA m st H) (n : Nat) : Step m st H m (st.set n none) H ∧ SR K CA m (st.set n none) H := by
  have sub : ∀ {k d}, Store.cell (st.set n none) k = some d → st.cell k = some d := fun {k d} q => by
    rw [cell_none] at q
    by_cases hk : k = n
    · rw [if_pos hk] at q; cases q
    · rw [if_neg hk] at q; exact q
  have T : Step m st H m (st.set n none) H := ⟨fun _ _ h _ => .inl h, fun a ⟨k, d, q, e⟩ => .inl ⟨k, d, sub q, e⟩, fun _ _ => rfl, by simp⟩
  exact ⟨T, fun k d q => (S.cells k d (sub q)).mono T rfl, fun k k' d d' q q' => S.inj k k' d d' (sub q) (sub q')⟩

/-! ### lists of trees -/
theorem Reps.length {lv : Addr → Prop} : ∀ {ts : List T} {vs : List V}, Reps K H lv ts vs → ts.length = vs.length
  | [], _, h => by rw [show _ = _ from h]; rfl
  | _ :: r, _, ⟨v, q, e, _, h⟩ => by rw [e, List.length_cons, List.length_cons, Reps.length h]
theorem RepVs.length : ∀ {ts : List Val} {vs : List V}, RepVs K m st H ts vs → ts.length = vs.length
  | [], _, h => by rw [show _ = _ from h]; rfl
  | _ :: r, _, ⟨v, q, e, _, h⟩ => by rw [e, List.length_cons, List.length_cons, RepVs.length h]
theorem RepVK.length : ∀ {ts : List (Key × Val)} {vs : List (L2.Key × V)}, RepVK K m st H ts vs → ts.length = vs.length
  | [], _, h => by rw [show _ = _ from h]; rfl
  | _ :: r, _, ⟨v, q, e, _, h⟩ => by rw [e, List.length_cons, List.length_cons, RepVK.length h]
theorem RepVs.of_trees : ∀ {ws : List Val} {ts : List T} {vs : List V}, trees ws = some ts → RepVs K m st H ws vs → Reps K H (live m st) ts vs
  | [], ts, vs, h, r => by simp only [trees, Option.some.injEq] at h; subst h; exact r
  | .t d :: q, ts, vs, h, ⟨v, vr, e, r1, r2⟩ => by
    simp only [trees] at h
    cases e2 : trees q with
    | none => rw [e2] at h; cases h
    | some tq =>
      rw [e2] at h
      simp only [Option.some.injEq] at h
      subst h
      exact ⟨v, vr, e, r1, RepVs.of_trees e2 r2⟩
  | .loc n :: q, ts, vs, h, r => by simp [trees] at h
  | .scr n :: q, ts, vs, h, r => by simp [trees] at h
  | .ex n :: q, ts, vs, h, r => by simp [trees] at h
theorem trees_eq : ∀ {ws : List Val} {ts : List T}, trees ws = some ts → ws = ts.map .t
  | [], ts, h => by simp only [trees, Option.some.injEq] at h; subst h; rfl
  | .t d :: q, ts, h => by
    simp only [trees] at h
    cases e2 : trees q with
    | none => rw [e2] at h; cases h
    | some tq =>
      rw [e2] at h
      simp only [Option.some.injEq] at h
      subst h
      rw [trees_eq e2]; rfl
  | .loc n :: q, ts, h => by simp [trees] at h
  | .scr n :: q, ts, h => by simp [trees] at h
  | .ex n :: q, ts, h => by simp [trees] at h
theorem trees_length {ws : List Val} {ts : List T} (h : trees ws = some ts) : ts.length = ws.length := by rw [trees_eq h, List.length_map]
theorem RepVs.of_reps : ∀ {ts : List T} {vs : List V}, Reps K H (live m st) ts vs → RepVs K m st H (ts.map .t) vs
  | [], _, h => h
  | d :: r, _, ⟨v, q, e, h1, h2⟩ => ⟨v, q, e, h1, RepVs.of_reps h2⟩
theorem RepVs.get : ∀ {ws : List Val} {vs : List V} {i : Nat} {w : Val}, RepVs K m st H ws vs → ws[i]? = some w → ∃ v, vs[i]? = some v ∧ RepV K m st H w v
  | [], _, _, _, _, h => by simp at h
  | w :: q, _, 0, _, ⟨v, vr, e, r1, _⟩, h => by simp only [List.getElem?_cons_zero, Option.some.injEq] at h; subst h; exact ⟨v, by rw [e]; rfl, r1⟩
  | w :: q, _, i + 1, _, ⟨v, vr, e, _, r2⟩, h => by
    obtain ⟨u, h1, h2⟩ := RepVs.get (i := i) r2 (by simpa using h)
    exact ⟨u, by rw [e]; simpa using h1, h2⟩
theorem RepVs.get' : ∀ {ws : List Val} {vs : List V} {i : Nat} {v : V}, RepVs K m st H ws vs → vs[i]? = some v → ∃ w, ws[i]? = some w ∧ RepV K m st H w v
  | [], _, _, _, h, e => by rw [show _ = _ from h] at e; simp at e
  | w :: q, _, 0, _, ⟨v, vr, e, r1, _⟩, h => by rw [e] at h; simp only [List.getElem?_cons_zero, Option.some.injEq] at h; subst h; exact ⟨w, rfl, r1⟩
  | w :: q, _, i + 1, _, ⟨v, vr, e, _, r2⟩, h => by
    rw [e] at h
    obtain ⟨u, h1, h2⟩ := RepVs.get' (i := i) r2 (by simpa using h)
    exact ⟨u, by simpa using h1, h2⟩
theorem Reps.get {lv : Addr → Prop} : ∀ {ws : List T} {vs : List V} {i : Nat} {w : T}, Reps K H lv ws vs → ws[i]? = some w → ∃ v, vs[i]? = some v ∧ Rep K H lv w v
  | [], _, _, _, _, h => by simp at h
  | w :: q, _, 0, _, ⟨v, vr, e, r1, _⟩, h => by simp only [List.getElem?_cons_zero, Option.some.injEq] at h; subst h; exact ⟨v, by rw [e]; rfl, r1⟩
  | w :: q, _, i + 1, _, ⟨v, vr, e, _, r2⟩, h => by
    obtain ⟨u, h1, h2⟩ := Reps.get (i := i) r2 (by simpa using h)
    exact ⟨u, by rw [e]; simpa using h1, h2⟩
theorem RepVs.append : ∀ {ws us : List Val} {vs xs : List V}, RepVs K m st H ws vs → RepVs K m st H us xs → RepVs K m st H (ws ++ us) (vs ++ xs)
  | [], us, vs, xs, h, r => by rw [show vs = [] from h]; exact r
  | w :: q, us, _, xs, ⟨v, vr, e, r1, r2⟩, r => ⟨v, vr ++ xs, by rw [e]; rfl, r1, RepVs.append r2 r⟩
theorem RepVs.drop : ∀ {ws : List Val} {vs : List V} (n : Nat), RepVs K m st H ws vs → RepVs K m st H (ws.drop n) (vs.drop n)
  | _, _, 0, h => h
  | [], _, n + 1, h => by rw [show _ = _ from h]; exact rfl
  | w :: q, _, n + 1, ⟨v, vr, e, r1, r2⟩ => by rw [e]; exact RepVs.drop n r2
theorem RepVs.take : ∀ {ws : List Val} {vs : List V} (n : Nat), RepVs K m st H ws vs → RepVs K m st H (ws.take n) (vs.take n)
  | _, _, 0, h => rfl
  | [], _, n + 1, h => by rw [show _ = _ from h]; exact rfl
  | w :: q, _, n + 1, ⟨v, vr, e, r1, r2⟩ => by rw [e]; exact ⟨v, vr.take n, rfl, r1, RepVs.take n r2⟩
theorem RepVs.set {x : Val} {y : V} (r : RepV K m st H x y) : ∀ {ws : List Val} {vs : List V} (n : Nat), RepVs K m st H ws vs → RepVs K m st H (ws.set n x) (vs.set n y)
  | [], _, n, h => by rw [show _ = _ from h]; exact rfl
  | w :: q, _, 0, ⟨v, vr, e, r1, r2⟩ => by rw [e]; exact ⟨y, vr, rfl, r, r2⟩
  | w :: q, _, n + 1, ⟨v, vr, e, r1, r2⟩ => by rw [e]; exact ⟨v, vr.set n y, rfl, r1, RepVs.set r n r2⟩
theorem RepVs.eraseIdx : ∀ {ws : List Val} {vs : List V} (n : Nat), RepVs K m st H ws vs → RepVs K m st H (ws.eraseIdx n) (vs.eraseIdx n)
  | [], _, n, h => by rw [show _ = _ from h]; exact rfl
  | w :: q, _, 0, ⟨v, vr, e, r1, r2⟩ => by rw [e]; exact r2
  | w :: q, _, n + 1, ⟨v, vr, e, r1, r2⟩ => by rw [e]; exact ⟨v, vr.eraseIdx n, rfl, r1, RepVs.eraseIdx n r2⟩
theorem RepVs.toInts {ns : List Int} : ∀ {ws : List Val} {ns : List Int} {vs : List V}, intsOf ws = some ns → RepVs K m st H ws vs → vs = ns.map V.int
  | [], ns, vs, h, r => by simp only [intsOf, Option.some.injEq] at h; subst h; exact r
  | .t (.int d) :: q, ns, vs, h, ⟨v, vr, e, r1, r2⟩ => by
    simp only [intsOf] at h
    cases e2 : Fl.intsOf q with
    | none => rw [e2] at h; cases h
    | some tq =>
      rw [e2] at h
      simp only [Option.some.injEq] at h
      subst h
      rw [e, List.map_cons, RepVs.toInts (ns := []) e2 r2, show v = .int d from r1]
  | .t .non :: q, ns, vs, h, r => by simp [intsOf] at h
  | .t (.bl _) :: q, ns, vs, h, r => by simp [intsOf] at h
  | .t (.str _) :: q, ns, vs, h, r => by simp [intsOf] at h
  | .t (.tup _) :: q, ns, vs, h, r => by simp [intsOf] at h
  | .t (.lst _) :: q, ns, vs, h, r => by simp [intsOf] at h
  | .t (.dct _) :: q, ns, vs, h, r => by simp [intsOf] at h
  | .t (.rp _) :: q, ns, vs, h, r => by simp [intsOf] at h
  | .loc n :: q, ns, vs, h, r => by simp [intsOf] at h
  | .scr n :: q, ns, vs, h, r => by simp [intsOf] at h
  | .ex n :: q, ns, vs, h, r => by simp [intsOf] at h
end

/-! ### what a new list gives -/
section
variable {K : PySem.W.Frag} {CA : Tags} {XR : XRel} {W : WX} {σ : L2.St} {m : Mp} {st : Store} {H : Hp} {Q : VK} {cell : Bool} {ws : List Val} {vs : List V}
theorem newL_ok (S : SR K CA m st H) (r : RepVs K m st H ws vs) (z : ws.length ≤ L) (q : PR K CA XR W σ (newL cell ws st) m st H fun a m' st' H' => ∀ v, RepV K m' st' H' a v → Q v H') :
    ∀ p, H p = none → Q (.ref p) (upd H p (.lst vs)) := fun p hp => by
  cases cell with
  | true =>
    have T := S.cellStep (o := .lst vs) hp (.lst ws)
    refine q (mNew m st p) _ (S.newCell hp ⟨vs, upd_same, z, RepVs.mono T _ _ r⟩) T (.ref p) ⟨by simp, ?_⟩
    rw [mNew_same]
  | false =>
    unfold newL at q
    dsimp only at q
    cases e : trees ws with
    | none => rw [e] at q; exact q.elim
    | some ts =>
      rw [e] at q
      obtain ⟨T, S'⟩ := S.fresh (o := .lst vs) hp
      refine q m _ S' T (.ref p) ⟨p, vs, rfl, ⟨upd_same, S.not_live hp⟩, by rw [trees_length e]; exact z, ?_⟩
      exact RepVs.of_trees (m := m) (st := st) e (RepVs.mono T _ _ r)
theorem newT_ok (S : SR K CA m st H) (r : RepVs K m st H ws vs) (z : ws.length ≤ L) (q : PR K CA XR W σ (newT cell ws st) m st H fun a m' st' H' => ∀ v, RepV K m' st' H' a v → Q v H') :
    ∀ p, H p = none → Q (.ref p) (upd H p (.tup vs)) := fun p hp => by
  cases cell with
  | true =>
    have T := S.cellStep (o := .tup vs) hp (.tup ws)
    refine q (mNew m st p) _ (S.newCell hp ⟨vs, upd_same, z, RepVs.mono T _ _ r⟩) T (.ref p) ⟨by simp, ?_⟩
    rw [mNew_same]
  | false =>
    unfold newT at q
    dsimp only at q
    cases e : trees ws with
    | none => rw [e] at q; exact q.elim
    | some ts =>
      rw [e] at q
      obtain ⟨T, S'⟩ := S.fresh (o := .tup vs) hp
      refine q m _ S' T (.ref p) ⟨p, vs, rfl, .inl ⟨upd_same, S.not_live hp⟩, by rw [trees_length e]; exact z, ?_⟩
      exact RepVs.of_trees (m := m) (st := st) e (RepVs.mono T _ _ r)
end
end Fl
set_option Elab.async false
set_option linter.all false
set_option maxRecDepth 100000
set_option maxHeartbeats 2000000
/-! Fl over the layer: expressions. -/
namespace Fl
open PySem PySem.Spec L2

theorem ofStr_app (a b : String) : Str.ofString a ++ Str.ofString b = Str.ofString (a ++ b) := by
  show (⟨(Str.ofString a).cps ++ (Str.ofString b).cps⟩ : Str) = _
  rw [Str.ofString_eq_toList, Str.ofString_eq_toList, Str.ofString_eq_toList]
  simp
theorem ofStr_len (a : String) : (Str.ofString a).length = a.length := by
  show (Str.ofString a).cps.size = _
  rw [Str.ofString_eq_toList]
  simp only [List.size_toArray, List.length_map]
  exact String.length_toList
theorem ofStr_ok (a : String) : PyData.strOk (Str.ofString a) = true := by
  rw [Str.ofString_eq_toList]
  unfold PyData.strOk
  simp only [Array.all_eq_true', List.mem_toArray, List.mem_map, decide_eq_true_eq]
  rintro n ⟨c, _, rfl⟩
  have h := c.valid
  simp only [UInt32.isValidChar, Nat.isValidChar] at h
  show c.val.toNat < _
  omega

/-! ### data of the library -/
mutual
theorem depth_le : ∀ (n : Nat) (d : T), T.plain n d = true → (toPy d).depth ≤ n
  | n, .non, _ => by simp [toPy, PyData.depth]
  | n, .bl _, _ => by simp [toPy, PyData.depth]
  | n, .int _, _ => by simp [toPy, PyData.depth]
  | n, .str _, _ => by simp [toPy, PyData.depth]
  | 0, .tup a, h => by simp [T.plain] at h
  | 0, .lst a, h => by simp [T.plain] at h
  | n + 1, .tup a, h => by
    simp only [T.plain] at h
    simp only [toPy, PyData.depth]
    have := depths_le n a h
    omega
  | n + 1, .lst a, h => by
    simp only [T.plain] at h
    simp only [toPy, PyData.depth]
    have := depths_le n a h
    omega
  | n, .dct _, h => by cases n <;> simp [T.plain] at h
  | n, .rp _, h => by cases n <;> simp [T.plain] at h
theorem depths_le : ∀ (n : Nat) (ds : List T), ds.all (T.plain n) = true → PyData.depthAll (toPys ds) ≤ n
  | n, [], _ => by simp [toPys, PyData.depthAll]
  | n, d :: r, h => by
    simp only [List.all_cons, Bool.and_eq_true] at h
    simp only [toPys, PyData.depthAll]
    have h1 := depth_le n d h.1
    have h2 := depths_le n r h.2
    omega
end
mutual
theorem canLay_plain : ∀ (n : Nat) (d : T), T.plain n d = true → (toPy d).canLay0 = true
  | n, .non, _ => by simp [toPy, PyData.canLay0]
  | n, .bl _, _ => by simp [toPy, PyData.canLay0]
  | n, .int _, _ => by simp [toPy, PyData.canLay0]
  | n, .str x, _ => by simp [toPy, PyData.canLay0, ofStr_ok]
  | 0, .tup a, h => by simp [T.plain] at h
  | 0, .lst a, h => by simp [T.plain] at h
  | n + 1, .tup a, h => by
    simp only [T.plain] at h
    simp only [toPy, PyData.canLay0]
    exact canLays_plain n a h
  | n + 1, .lst a, h => by
    simp only [T.plain] at h
    simp only [toPy, PyData.canLay0]
    exact canLays_plain n a h
  | n, .dct _, h => by cases n <;> simp [T.plain] at h
  | n, .rp _, h => by cases n <;> simp [T.plain] at h
theorem canLays_plain : ∀ (n : Nat) (ds : List T), ds.all (T.plain n) = true → PyData.canLayAll0 (toPys ds) = true
  | n, [], _ => by simp [toPys, PyData.canLayAll0]
  | n, d :: r, h => by
    simp only [List.all_cons, Bool.and_eq_true] at h
    simp only [toPys, PyData.canLayAll0, Bool.and_eq_true]
    exact ⟨canLay_plain n d h.1, canLays_plain n r h.2⟩
end
theorem shaped_plain {d : T} (h : T.plain 60 d = true) : SeqAt.shaped (toPy d) = true := by
  unfold SeqAt.shaped
  rw [canLay_plain 60 d h]
  have := depth_le 60 d h
  simp only [Bool.true_and, decide_eq_true_eq]
  omega
theorem ofStr_beq (a b : String) : (Str.ofString a == Str.ofString b) = (a == b) := by
  by_cases e : a = b
  · subst e; simp
  · have e' : Str.ofString a ≠ Str.ofString b := fun z => e (ofString_inj z)
    rw [beq_eq_false_iff_ne.mpr e, beq_eq_false_iff_ne.mpr e']
mutual
theorem eqv_eq : ∀ (n k : Nat) (a b : T), T.plain n a = true → T.plain k b = true → PyData.eqv (toPy a) (toPy b) = T.eqv a b
  | n, k, a, b, ha, hb => by
    cases a <;> cases b <;> first
      | (simp only [toPy, PyData.eqv, T.eqv]; done)
      | (simp only [toPy, PyData.eqv, T.eqv, ofStr_beq]; done)
      | (exfalso; revert hb; cases k <;> simp [T.plain]; done)
      | (exfalso; revert ha; cases n <;> simp [T.plain]; done)
      | skip
    · cases n with
      | zero => simp [T.plain] at ha
      | succ n =>
        cases k with
        | zero => simp [T.plain] at hb
        | succ k =>
          simp only [T.plain] at ha hb
          simp only [toPy, PyData.eqv, T.eqv]
          exact eqvs_eq n k _ _ ha hb
    · cases n with
      | zero => simp [T.plain] at ha
      | succ n =>
        cases k with
        | zero => simp [T.plain] at hb
        | succ k =>
          simp only [T.plain] at ha hb
          simp only [toPy, PyData.eqv, T.eqv]
          exact eqvs_eq n k _ _ ha hb
theorem eqvs_eq : ∀ (n k : Nat) (a b : List T), a.all (T.plain n) = true → b.all (T.plain k) = true → PyData.eqvAll (toPys a) (toPys b) = T.eqvs a b
  | _, _, [], [], _, _ => by simp only [toPys, PyData.eqvAll, T.eqvs]
  | _, _, [], _ :: _, _, _ => by simp only [toPys, PyData.eqvAll, T.eqvs]
  | _, _, _ :: _, [], _, _ => by simp only [toPys, PyData.eqvAll, T.eqvs]
  | n, k, a :: r, b :: q, ha, hb => by
    simp only [List.all_cons, Bool.and_eq_true] at ha hb
    simp only [toPys, PyData.eqvAll, T.eqvs]
    rw [eqv_eq n k a b ha.1 hb.1, eqvs_eq n k r q ha.2 hb.2]
end

section
variable {K : PySem.W.Frag} {CA : Tags} {m : Mp} {st : Store} {H : Hp}
mutual
theorem Rep.dp {lv : Addr → Prop} : ∀ (n : Nat) (d : T) (v : V), T.plain n d = true → Rep K H lv d v → Dp K H v (toPy d)
  | n, .non, v, _, h => by rw [show v = .non from h]; simp only [toPy]; exact .non
  | n, .bl b, v, _, h => by rw [show v = .bl b from h]; simp only [toPy]; exact .bl b
  | n, .int b, v, _, h => by rw [show v = .int b from h]; simp only [toPy]; exact .int b
  | n, .str b, v, _, h => by rw [show v = .str (Str.ofString b) from h]; simp only [toPy]; exact .str _
  | 0, .tup a, _, h, _ => by simp [T.plain] at h
  | 0, .lst a, _, h, _ => by simp [T.plain] at h
  | n + 1, .tup ts, v, h, r => by
    simp only [T.plain] at h
    obtain ⟨a, vs, rfl, q, z, rs⟩ := r
    simp only [toPy]
    refine .tup ?_ (Reps.dp n ts vs h rs)
    rcases q with q | q
    · exact .of q.1
    · exact q H
  | n + 1, .lst ts, v, h, r => by
    simp only [T.plain] at h
    obtain ⟨a, vs, rfl, q, z, rs⟩ := r
    simp only [toPy]
    exact .lst (.of q.1) (Reps.dp n ts vs h rs)
  | n, .dct _, _, h, _ => by cases n <;> simp [T.plain] at h
  | n, .rp _, _, h, _ => by cases n <;> simp [T.plain] at h
theorem Reps.dp {lv : Addr → Prop} : ∀ (n : Nat) (ds : List T) (vs : List V), ds.all (T.plain n) = true → Reps K H lv ds vs → DpAll K H vs (toPys ds)
  | n, [], vs, _, h => by rw [show vs = [] from h]; simp only [toPys]; exact .nil
  | n, d :: r, vs, h, q => by
    simp only [List.all_cons, Bool.and_eq_true] at h
    obtain ⟨v, vr, rfl, r1, r2⟩ := q
    simp only [toPys]
    exact .cons (Rep.dp n d v h.1 r1) (Reps.dp n r vr h.2 r2)
end
/-- through cells too -/
theorem deep_dp (S : SR K CA m st H) : ∀ (f : Nat), (∀ (w : Val) (v : V) (d : T) (n : Nat), deep st f w = some d → T.plain n d = true → RepV K m st H w v → Dp K H v (toPy d)) ∧
    (∀ (ws : List Val) (vs : List V) (ds : List T) (n : Nat), deeps st f ws = some ds → ds.all (T.plain n) = true → RepVs K m st H ws vs → DpAll K H vs (toPys ds))
  | 0 => by
    refine ⟨fun w v d n h hp r => ?_, fun ws vs ds n h hp r => ?_⟩
    · cases w with
      | t c => simp only [deep, Option.some.injEq] at h; subst h; exact Rep.dp n c v hp r
      | loc k => simp [deep] at h
      | scr k => simp [deep] at h
      | ex k => simp [deep] at h
    · cases ws with
      | nil => simp only [deeps, Option.some.injEq] at h; subst h; rw [show vs = [] from r]; simp only [toPys]; exact .nil
      | cons w q => simp [deeps] at h
  | f + 1 => by
    obtain ⟨ih1, ih2⟩ := deep_dp S f
    refine ⟨fun w v d n h hp r => ?_, fun ws vs ds n h hp r => ?_⟩
    · cases w with
      | t c => simp only [deep, Option.some.injEq] at h; subst h; exact Rep.dp n c v hp r
      | scr k => simp [deep] at h
      | ex k => simp [deep] at h
      | loc k =>
        obtain ⟨_, rfl⟩ := r
        simp only [deep] at h
        cases e : st.cell k with
        | none => rw [e] at h; cases h
        | some c =>
          have q := S.cells k c e
          rw [e] at h
          cases c with
          | lst ws =>
            dsimp only at h
            cases e2 : deeps st f ws with
            | none => rw [e2] at h; cases h
            | some ts =>
              rw [e2] at h
              simp only [Option.some.injEq] at h
              subst h
              obtain ⟨us, hH, _, rs⟩ := q
              cases n with
              | zero => simp [T.plain] at hp
              | succ n =>
                simp only [T.plain] at hp
                simp only [toPy]
                exact .lst (.of hH) (ih2 ws us ts n e2 hp rs)
          | tup ws =>
            dsimp only at h
            cases e2 : deeps st f ws with
            | none => rw [e2] at h; cases h
            | some ts =>
              rw [e2] at h
              simp only [Option.some.injEq] at h
              subst h
              obtain ⟨us, hH, _, rs⟩ := q
              cases n with
              | zero => simp [T.plain] at hp
              | succ n =>
                simp only [T.plain] at hp
                simp only [toPy]
                exact .tup (.of hH) (ih2 ws us ts n e2 hp rs)
          | dct _ => cases h
          | ins _ _ => cases h
          | kd _ => cases h
    · cases ws with
      | nil => simp only [deeps, Option.some.injEq] at h; subst h; rw [show vs = [] from r]; simp only [toPys]; exact .nil
      | cons w q =>
        simp only [deeps] at h
        cases e1 : deep st f w with
        | none => rw [e1] at h; cases h
        | some d =>
          rw [e1] at h
          dsimp only at h
          cases e2 : deeps st f q with
          | none => rw [e2] at h; cases h
          | some ts =>
            rw [e2] at h
            simp only [Option.some.injEq] at h
            subst h
            obtain ⟨v, vr, rfl, r1, r2⟩ := r
            simp only [List.all_cons, Bool.and_eq_true] at hp
            simp only [toPys]
            exact .cons (ih1 w v d n e1 hp.1 r1) (ih2 q vr ts n e2 hp.2 r2)
end
end Fl
namespace Fl
mutual
theorem T_beq : ∀ {a b : T}, T.beq a b = true → a = b
  | a, b, h => by
    cases a <;> cases b <;> simp only [T.beq, Bool.false_eq_true, beq_iff_eq] at h <;> first | rfl | (subst h; rfl) | (rw [T_beqs h]) | (rw [T_beqk h]) | (rw [T_beq h])
theorem T_beqs : ∀ {a b : List T}, T.beqs a b = true → a = b
  | [], [], _ => rfl
  | [], _ :: _, h => by simp [T.beqs] at h
  | _ :: _, [], h => by simp [T.beqs] at h
  | a :: r, b :: q, h => by
    simp only [T.beqs, Bool.and_eq_true] at h
    rw [T_beq h.1, T_beqs h.2]
theorem T_beqk : ∀ {a b : List (Key × T)}, T.beqk a b = true → a = b
  | [], [], _ => rfl
  | [], _ :: _, h => by simp [T.beqk] at h
  | _ :: _, [], h => by simp [T.beqk] at h
  | a :: r, b :: q, h => by
    simp only [T.beqk, Bool.and_eq_true] at h
    rw [T_beqp h.1, T_beqk h.2]
theorem T_beqp : ∀ {a b : Key × T}, T.beqp a b = true → a = b
  | (k, a), (l, b), h => by
    simp only [T.beqp, Bool.and_eq_true, decide_eq_true_eq] at h
    rw [h.1, T_beq h.2]
end
end Fl
set_option Elab.async false
set_option linter.all false
set_option maxRecDepth 100000
set_option maxHeartbeats 2000000
/-! Fl over the layer: operators, comparisons, tests. -/
namespace Fl
open PySem PySem.Spec L2

/-! ### a value's parts, known -/
section
variable {α : Type} {K : PySem.W.Frag} {CA : Tags} {XR : XRel} {W : WX} {σ : L2.St} {m : Mp} {st : Store} {H : Hp} {x : Val} {v : V} {ok : α → Mp → Store → Hp → Prop}
theorem getInt_ok {k : Int → M α} (r : RepV K m st H x v) (q : PR K CA XR W σ ((getInt x st).bind k) m st H ok) : ∃ i, x = .t (.int i) ∧ v = .int i ∧ PR K CA XR W σ (k i st) m st H ok := by
  unfold getInt at q
  split at q
  · exact ⟨_, rfl, r, q⟩
  · exact q.elim
theorem getB_ok {k : Bool → M α} (r : RepV K m st H x v) (q : PR K CA XR W σ ((getB x st).bind k) m st H ok) : ∃ b, x = .t (.bl b) ∧ v = .bl b ∧ PR K CA XR W σ (k b st) m st H ok := by
  unfold getB at q
  split at q
  · exact ⟨_, rfl, r, q⟩
  · exact q.elim
theorem itemsL_ok {k : List Val → M α} (S : SR K CA m st H) (r : RepV K m st H x v) (q : PR K CA XR W σ ((itemsL x st).bind k) m st H ok) :
    ∃ ws a us, v = .ref a ∧ H a = some (.lst us) ∧ RepVs K m st H ws us ∧ ws.length ≤ L ∧ PR K CA XR W σ (k ws st) m st H ok := by
  unfold itemsL at q
  split at q
  · obtain ⟨a, us, e, ⟨h, _⟩, z, rs⟩ := r
    exact ⟨_, a, us, e, h, RepVs.of_reps rs, by rw [List.length_map]; exact z, q⟩
  · rename_i n
    obtain ⟨_, e⟩ := r
    cases c : st.cell n with
    | none => rw [c] at q; exact q.elim
    | some d =>
      rw [c] at q
      cases d with
      | lst ws =>
        obtain ⟨us, h, z, rs⟩ := S.cells n _ c
        exact ⟨ws, m n, us, e, h, rs, z, q⟩
      | _ => exact q.elim
  · exact q.elim
theorem scr_reps : ∀ ns : List Int, RepVs K m st H (ns.map fun i => Val.t (.int i)) (ns.map V.int)
  | [] => rfl
  | n :: r => ⟨.int n, r.map V.int, rfl, rfl, scr_reps r⟩
/-- a list, a tuple, the script -/
theorem items_ok {k : List Val → M α} (S : SR K CA m st H) (r : RepV K m st H x v) (q : PR K CA XR W σ ((items x st).bind k) m st H ok) :
    ∃ ws a us, v = .ref a ∧ (SqL K H a us ∨ SqT K H a us) ∧ RepVs K m st H ws us ∧ ws.length ≤ L ∧ PR K CA XR W σ (k ws st) m st H ok := by
  unfold items at q
  split at q
  · obtain ⟨z, a, e, h⟩ := r
    refine ⟨_, a, _, e, .inl ?_, scr_reps _, by rw [List.length_map]; exact z, q⟩
    rcases h with h | h
    · exact h.2.2
    · exact h H
  · obtain ⟨a, us, e, ⟨h, _⟩, z, rs⟩ := r
    exact ⟨_, a, us, e, .inl (.of h), RepVs.of_reps rs, by rw [List.length_map]; exact z, q⟩
  · obtain ⟨a, us, e, h, z, rs⟩ := r
    refine ⟨_, a, us, e, .inr ?_, RepVs.of_reps rs, by rw [List.length_map]; exact z, q⟩
    rcases h with h | h
    · exact .of h.1
    · exact h H
  · rename_i n
    obtain ⟨_, e⟩ := r
    cases c : st.cell n with
    | none => rw [c] at q; exact q.elim
    | some d =>
      rw [c] at q
      cases d with
      | lst ws =>
        obtain ⟨us, h, z, rs⟩ := S.cells n _ c
        exact ⟨ws, m n, us, e, .inl (.of h), rs, z, q⟩
      | tup ws =>
        obtain ⟨us, h, z, rs⟩ := S.cells n _ c
        exact ⟨ws, m n, us, e, .inr (.of h), rs, z, q⟩
      | _ => exact q.elim
  · exact q.elim
end

section
variable {tb : Tab} {G : FEnv} {CA : Tags} {XR : XRel} {k : Nat} {N : List Str} {sc : Scope} {own : Str → Bool} {X : Cx} {W : WX}
variable {a b c e : Expr} {es : List Expr} {pos pos' : Pos} {f g h : CE} {t u : CT}

/-! ### arithmetic -/
theorem RepVs.rep {K : PySem.W.Frag} {m : Mp} {st : Store} {H : Hp} {ws : List Val} {us : List V} (r : RepVs K m st H ws us) : ∀ n : Nat, RepVs K m st H (List.replicate n ws).flatten (List.replicate n us).flatten
  | 0 => rfl
  | n + 1 => by
    rw [List.replicate_succ, List.replicate_succ, List.flatten_cons, List.flatten_cons]
    exact r.append (RepVs.rep r n)
theorem se_add (cell : Bool) (ha : SE CA XR X W a f) (hb : SE CA XR X W b g) : SE CA XR X W (.BinOp a .Add b pos) (e2 (addV cell) f g) := by
  refine se_bin (op_add.or (op_add_str.or (op_cat.or op_catA))) (fun σ x y m st H v w Q S rx ry q => ?_) ha hb
  unfold addV at q
  split at q
  · cases rx; cases ry
    exact .inl ⟨_, _, rfl, rfl, PR.here S q _ rfl⟩
  · rename_i p p'
    cases rx; cases ry
    split at q
    · rename_i hz
      refine .inr (.inl ⟨_, _, rfl, rfl, ?_, ?_⟩)
      · rw [ofStr_len, ofStr_len]; exact lineOf hz
      · rw [ofStr_app]; exact PR.here S q _ rfl
    · exact q.elim
  · rename_i ts us
    obtain ⟨ad, vs, rfl, h1, z1, r1⟩ := rx
    obtain ⟨bd, ws, rfl, h2, z2, r2⟩ := ry
    split at q
    · rename_i hz
      refine .inr (.inr (.inr ⟨ad, bd, vs, ws, rfl, rfl, ?_, ?_, ?_, ?_, ?_, ?_⟩))
      · rcases h1 with h | h
        · exact .of h.1
        · exact h H
      · rcases h2 with h | h
        · exact .of h.1
        · exact h H
      · rw [← r1.length, ← r2.length]; exact lineOf hz
      · intro e1
        have : ts = [] := by
          have := r1.length
          rw [e1] at this
          exact List.length_eq_zero_iff.mp this
        subst this
        exact PR.here S q _ ⟨bd, ws, rfl, h2, by simpa using z2, by simpa using r2⟩
      · intro _ e1
        have : us = [] := by
          have := r2.length
          rw [e1] at this
          exact List.length_eq_zero_iff.mp this
        subst this
        exact PR.here S q _ ⟨ad, vs, rfl, h1, by simpa using z1, by simpa using r1⟩
      · intro _ _ p hp
        obtain ⟨T, S'⟩ := S.fresh (o := .tup (vs ++ ws)) hp
        refine q m _ S' T _ ⟨p, vs ++ ws, rfl, .inl ⟨upd_same, S.not_live hp⟩, by rw [List.length_append]; exact hz, ?_⟩
        have rr := RepVs.append (RepVs.of_reps (Reps.mono T.keep T.lv _ _ r1)) (RepVs.of_reps (Reps.mono T.keep T.lv _ _ r2))
        rw [← List.map_append] at rr
        exact RepVs.of_trees (trees_map _) rr
    · exact q.elim
  · obtain ⟨ws, ad, us, rfl, h1, r1, z1, q⟩ := itemsL_ok S rx q
    obtain ⟨ws2, bd, us2, rfl, h2, r2, z2, q⟩ := itemsL_ok S ry q
    split at q
    · rename_i hz
      refine .inr (.inr (.inl ⟨ad, bd, us, us2, rfl, rfl, h1, h2, ?_, ?_⟩))
      · rw [← r1.length, ← r2.length]; exact lineOf hz
      · exact newL_ok S (r1.append r2) (by rw [List.length_append]; exact hz) q
    · exact q.elim
theorem se_mul (cell : Bool) (ha : SE CA XR X W a f) (hb : SE CA XR X W b g) : SE CA XR X W (.BinOp a .Mult b pos) (e2 (mulV cell) f g) := by
  refine se_bin (op_mul.or op_rep) (fun σ x y m st H v w Q S rx ry q => ?_) ha hb
  unfold mulV at q
  split at q
  · cases rx; cases ry
    split at q
    · rename_i hm
      refine .inl ⟨_, _, rfl, rfl, ?_, PR.here S q _ rfl⟩
      unfold mulOk at hm
      simpa [CMul] using hm
    · exact q.elim
  · cases ry
    obtain ⟨ws, ad, us, rfl, h1, r1, z1, q⟩ := itemsL_ok S rx q
    split at q
    · rename_i hz
      refine .inr ⟨ad, _, us, rfl, rfl, h1, by omega, by omega, by rw [← r1.length]; exact lineOf hz.2.2, ?_⟩
      refine newL_ok S ?_ ?_ q
      · exact RepVs.rep r1 _
      · rw [List.length_flatten, List.map_replicate, List.sum_replicate_nat, Nat.mul_comm]
        exact hz.2.2
    · exact q.elim
  · exact q.elim
theorem op_fdivB : OpR X (binaryOp .FloorDiv) (rI (fun _ j => j ≠ 0 ∧ j.natAbs < 2 ^ 62) fun i j => .int (i.fdiv j)) := opI fun i j _ _ _ _ _ hc q => by
  have hl : j.natAbs.log2 < 9000 := by
    have := PySem.Flt.log2_lt_of (k := 62) (by decide) hc.2
    omega
  exact PyProof.Rows.floordiv_int hc.1 q (.inl (PyProof.noPylong_of_log2 hl))
theorem se_fdiv (ha : SE CA XR X W a f) (hb : SE CA XR X W b g) : SE CA XR X W (.BinOp a .FloorDiv b pos) (e2 fdivV f g) := by
  refine se_bin op_fdivB (fun σ x y m st H v w Q S rx ry q => ?_) ha hb
  unfold fdivV at q
  split at q
  · cases rx; cases ry
    split at q
    · rename_i hj
      unfold fdivOk at hj
      simp only [Bool.and_eq_true, decide_eq_true_eq, cdec_iff] at hj
      exact ⟨_, _, rfl, rfl, hj, PR.here S q _ rfl⟩
    · exact q.elim
  · exact q.elim
theorem se_pow (ha : SE CA XR X W a f) (hb : SE CA XR X W b g) : SE CA XR X W (.BinOp a .Pow b pos) (e2 powV f g) := by
  refine se_bin op_pow (fun σ x y m st H v w Q S rx ry q => ?_) ha hb
  unfold powV at q
  split at q
  · cases rx; cases ry
    split at q
    · rename_i hj
      refine ⟨_, _, rfl, rfl, ⟨hj.1, by omega, by omega⟩, PR.here S q _ rfl⟩
    · exact q.elim
  · exact q.elim
/-- one value, then what is done with it -/
theorem one {k1 : Val → M Val} {r : V → Hp → VK → Prop} {σ : L2.St} {H : Hp} {Q : VK} (hk : ∀ x m st H v Q, SR X.K CA m st H → RepV X.K m st H x v →
      PR X.K CA XR W σ (k1 x st) m st H (fun a m' st' H' => ∀ u, RepV X.K m' st' H' a u → Q u H') → r v H Q) (h : tM X.K CA XR W (e1 k1 f) σ H Q) : tM X.K CA XR W f σ H (fun v H1 => r v H1 Q) := by
  obtain ⟨m, st, ρ, S, E, q⟩ := h
  exact ⟨m, st, ρ, S, E, (PR.bind_of q).mono fun x m1 st1 H1 S1 T1 h1 v rv => hk x m1 st1 H1 v Q S1 rv h1⟩
theorem se_neg (ha : SE CA XR X W a f) : SE CA XR X W (.UnaryOp .USub a pos) (e1 negV f) := by
  refine PE.weak (pe_un un_neg ha) fun σ H Q q => one (r := rU fun i => .int (-i)) (fun x m st H v Q S rx q => ?_) q
  unfold negV at q
  split at q
  · cases rx
    exact ⟨_, rfl, PR.here S q _ rfl⟩
  · exact q.elim

/-! ### comparisons: as values, as tests -/
/-- by values: a bool -/
def CmpOk (CA : Tags) (XR : XRel) (X : Cx) (W : WX) (r : R2) (k2 : Val → Val → M Bool) : Prop := ∀ σ x y m st H v w (Q : Bool → Hp → Prop), SR X.K CA m st H → RepV X.K m st H x v → RepV X.K m st H y w →
  PR X.K CA XR W σ (k2 x y st) m st H (fun b m' st' H' => Q b H') → r v w H fun z H' => ∃ b, z = .bl b ∧ Q b H'
theorem cmp_two {k2 : Val → Val → M Bool} {r : R2} {σ : L2.St} {H : Hp} {Q : Bool → Hp → Prop} (hk : CmpOk CA XR X W r k2) (h : tMT X.K CA XR W (t2 k2 f g) σ H Q) :
    tOp r (tM X.K CA XR W f) (tM X.K CA XR W g) σ H fun z H' => ∃ b, z = .bl b ∧ Q b H' := by
  obtain ⟨m, st, ρ, S, E, q⟩ := h
  refine ⟨m, st, ρ, S, E, (PR.bind_of q).mono fun x m1 st1 H1 S1 T1 h1 v rv => ⟨m1, st1, ρ, S1, E.mono T1, (PR.bind_of h1).mono fun y m2 st2 H2 S2 T2 h2 w rw => ?_⟩⟩
  exact hk σ x y m2 st2 H2 v w Q S2 (RepV.mono T2 x v rv) rw h2
theorem tMT_eB {σ : L2.St} {H : Hp} {Q : VK} (h : tM X.K CA XR W (eB t) σ H Q) : tMT X.K CA XR W t σ H fun b H' => Q (.bl b) H' := by
  obtain ⟨m, st, ρ, S, E, q⟩ := h
  exact ⟨m, st, ρ, S, E, (PR.bind_of q).mono fun b m1 st1 H1 S1 T1 h1 => PR.here S1 h1 _ rfl⟩
theorem st_cmp {op : CmpOp} {k2 : Val → Val → M Bool} {r : R2} (ho : OpR X (compareOp op) r) (hk : CmpOk CA XR X W r k2) (ha : SE CA XR X W a f) (hb : SE CA XR X W b g) (hm : behindInMarks op b = false) :
    STt CA XR X W (.Compare a [op] [b] pos) (t2 k2 f g) := PT.weak (pt_cmpR ho ha hb hm) fun σ H Q q => cmp_two hk q
theorem se_cmp {op : CmpOp} {k2 : Val → Val → M Bool} {r : R2} (ho : OpR X (compareOp op) r) (hr : ∀ x y H Q Q', (∀ z H', Q z H' → Q' z H') → r x y H Q → r x y H Q') (hk : CmpOk CA XR X W r k2) (ha : SE CA XR X W a f) (hb : SE CA XR X W b g) (hm : behindInMarks op b = false) :
    SE CA XR X W (.Compare a [op] [b] pos) (eB (t2 k2 f g)) := PE.weak (pe_cmpR ho ha hb hm) fun σ H Q q => by
  have z := cmp_two hk (tMT_eB q)
  obtain ⟨m, st, ρ, S, E, q1⟩ := z
  refine ⟨m, st, ρ, S, E, q1.mono fun x m1 st1 H1 S1 T1 h1 v rv => ?_⟩
  obtain ⟨m2, st2, ρ2, S2, E2, q2⟩ := h1 v rv
  refine ⟨m2, st2, ρ2, S2, E2, q2.mono fun y m3 st3 H3 S3 T3 h3 w rw => ?_⟩
  refine hr _ _ _ _ _ (fun z H' ⟨b, e, hq⟩ => ?_) (h3 w rw)
  rw [e]; exact hq
theorem ofOr {r r' : R2} (h : ∀ x y H Q Q', (∀ z H', Q z H' → Q' z H') → r x y H Q → r x y H Q') (h' : ∀ x y H Q Q', (∀ z H', Q z H' → Q' z H') → r' x y H Q → r' x y H Q') :
    ∀ x y H Q Q', (∀ z H', Q z H' → Q' z H') → (r x y H Q ∨ r' x y H Q) → (r x y H Q' ∨ r' x y H Q') := fun x y H Q Q' k q => q.imp (h x y H Q Q' k) (h' x y H Q Q' k)

theorem plain_sum {d : T} {c : Option Bool} (x : T) : True := trivial
/-- what == tells: of flat values, or of data -/
theorem eqV_facts {m : Mp} {st : Store} {H : Hp} {x y : Val} {v w : V} (S : SR X.K CA m st H) (rx : RepV X.K m st H x v) (ry : RepV X.K m st H y w) : eqV x y st = .bad ∨ ∃ b, eqV x y st = .ok b st ∧
    ((scal v w = true ∧ decide (v = w) = b) ∨ ∃ d e, Dp X.K H v d ∧ Dp X.K H w e ∧ SeqAt.shaped d = true ∧ SeqAt.shaped e = true ∧ PyData.eqv d e = b) := by
  -- the answer of two trees
  have key : ∀ (c d : Fl.T), (∀ n, T.plain n c = true → Dp X.K H v (toPy c)) → (∀ n, T.plain n d = true → Dp X.K H w (toPy d)) → ((∃ c', c = .rp c') → Rep X.K H (live m st) c v) → ((∃ d', d = .rp d') → Rep X.K H (live m st) d w) →
      ∀ r, T.eq? c d = some r → ((scal v w = true ∧ decide (v = w) = r) ∨ ∃ d e, Dp X.K H v d ∧ Dp X.K H w e ∧ SeqAt.shaped d = true ∧ SeqAt.shaped e = true ∧ PyData.eqv d e = r) := by
    intro c d hc hd rc rd r e
    unfold T.eq? at e
    split at e
    · rename_i c d
      split at e
      · rename_i hb
        have e' : true = r := by simpa using e
        subst e'
        have h1 : v = .str (PyData.shown (toPy c)) := rc ⟨_, rfl⟩
        have h2 : w = .str (PyData.shown (toPy d)) := rd ⟨_, rfl⟩
        have h3 : c = d := T_beq hb
        exact .inl ⟨by rw [h1, h2]; rfl, by rw [h1, h2, h3]; exact decide_eq_true rfl⟩
      · cases e
    · split at e
      · rename_i hp
        simp only [Bool.and_eq_true] at hp
        simp only [Option.some.injEq] at e
        exact .inr ⟨toPy c, toPy d, hc 60 hp.1, hd 60 hp.2, shaped_plain hp.1, shaped_plain hp.2, by rw [eqv_eq 60 60 c d hp.1 hp.2, e]⟩
      · cases e
  have dd := deep_dp S deepMax
  have dp : ∀ {z : Val} {u : V} {d : Fl.T}, RepV X.K m st H z u → deep st deepMax z = some d → ∀ n, T.plain n d = true → Dp X.K H u (toPy d) := fun {z u d} r e n hp => dd.1 z u d n e hp r
  have rpv : ∀ {z : Val} {u : V} {d : Fl.T}, RepV X.K m st H z u → deep st deepMax z = some d → (∃ d', d = .rp d') → Rep X.K H (live m st) d u := fun {z u d} r e ⟨d', ed⟩ => by
    subst ed
    cases z with
    | t c =>
      have : c = .rp d' := by
        have e' := e
        unfold deep at e'
        simpa using e'
      rw [← this]; exact r
    | loc n =>
      exfalso
      rw [show deepMax = 99999 + 1 from rfl] at e
      unfold deep at e
      dsimp only at e
      split at e
      · split at e <;> simp at e
      · split at e <;> simp at e
      · cases e
    | scr n => unfold deep at e; simp at e
    | ex n => unfold deep at e; simp at e
  unfold eqV
  split
  · rename_i c d
    cases e : T.eq? c d with
    | none => exact .inl rfl
    | some r => exact .inr ⟨r, rfl, key c d (fun n hp => Rep.dp n _ v hp rx) (fun n hp => Rep.dp n _ w hp ry) (fun _ => rx) (fun _ => ry) r e⟩
  · split
    · rename_i c d e1 e2
      cases e : T.eq? c d with
      | none => exact .inl rfl
      | some r => exact .inr ⟨r, rfl, key c d (dp rx e1) (dp ry e2) (rpv rx e1) (rpv ry e2) r e⟩
    · exact .inl rfl
theorem eq_ok : CmpOk CA XR X W (fun x y H Q => rEq x y H Q ∨ rEqD X.K x y H Q) eqV := by
  intro σ x y m st H v w Q S rx ry q
  rcases eqV_facts S rx ry with e | ⟨b, e, h⟩
  · rw [e] at q; exact q.elim
  · rw [e] at q
    rcases h with ⟨h1, h2⟩ | ⟨d, c, h1, h2, h3, h4, h5⟩
    · exact .inl ⟨h1, b, by rw [h2], PR.here S q⟩
    · exact .inr ⟨d, c, h1, h2, h3, h4, b, by rw [h5], PR.here S q⟩
theorem ne_ok : CmpOk CA XR X W (fun x y H Q => rNe x y H Q ∨ rNeD X.K x y H Q) (fun x y => eqV x y >>= fun b => pure !b) := by
  intro σ x y m st H v w Q S rx ry q
  have q' : PR X.K CA XR W σ ((eqV x y st).bind fun b => (pure !b : M Bool)) m st H (fun b m' st' H' => Q b H') := q
  rcases eqV_facts S rx ry with e | ⟨b, e, h⟩
  · rw [e] at q'; exact q'.elim
  · rw [e] at q'
    rcases h with ⟨h1, h2⟩ | ⟨d, c, h1, h2, h3, h4, h5⟩
    · exact .inl ⟨h1, !b, by rw [h2], PR.here S q'⟩
    · exact .inr ⟨d, c, h1, h2, h3, h4, !b, by rw [h5], PR.here S q'⟩
theorem mono_rEq : ∀ x y H (Q Q' : VK), (∀ z H', Q z H' → Q' z H') → rEq x y H Q → rEq x y H Q' := fun _ _ _ _ _ k q => ⟨q.1, k _ _ q.2⟩
theorem mono_rNe : ∀ x y H (Q Q' : VK), (∀ z H', Q z H' → Q' z H') → rNe x y H Q → rNe x y H Q' := fun _ _ _ _ _ k q => ⟨q.1, k _ _ q.2⟩
theorem mono_rEqD {K : PySem.W.Frag} : ∀ x y H (Q Q' : VK), (∀ z H', Q z H' → Q' z H') → rEqD K x y H Q → rEqD K x y H Q' := fun _ _ _ _ _ k ⟨d, e, h1, h2, h3, h4, q⟩ => ⟨d, e, h1, h2, h3, h4, k _ _ q⟩
theorem mono_rNeD {K : PySem.W.Frag} : ∀ x y H (Q Q' : VK), (∀ z H', Q z H' → Q' z H') → rNeD K x y H Q → rNeD K x y H Q' := fun _ _ _ _ _ k ⟨d, e, h1, h2, h3, h4, q⟩ => ⟨d, e, h1, h2, h3, h4, k _ _ q⟩
theorem mono_rI0 {g : Int → Int → V} : ∀ x y H (Q Q' : VK), (∀ z H', Q z H' → Q' z H') → rI0 g x y H Q → rI0 g x y H Q' := fun _ _ _ _ _ k ⟨i, j, h1, h2, q⟩ => ⟨i, j, h1, h2, k _ _ q⟩
theorem st_eq (C : Cw tb G CA XR k N sc own X W) (ha : SE CA XR X W a f) (hb : SE CA XR X W b g) : STt CA XR X W (.Compare a [.Eq] [b] pos) (tEq f g) := st_cmp (op_eq.or (op_eqD C.u64)) eq_ok ha hb (nomark _)
theorem st_ne (C : Cw tb G CA XR k N sc own X W) (ha : SE CA XR X W a f) (hb : SE CA XR X W b g) : STt CA XR X W (.Compare a [.NotEq] [b] pos) (tNe f g) := st_cmp (op_ne.or (op_neD C.u64)) ne_ok ha hb (nomark _)
theorem se_eq (C : Cw tb G CA XR k N sc own X W) (ha : SE CA XR X W a f) (hb : SE CA XR X W b g) : SE CA XR X W (.Compare a [.Eq] [b] pos) (eB (tEq f g)) := se_cmp (op_eq.or (op_eqD C.u64)) (ofOr mono_rEq mono_rEqD) eq_ok ha hb (nomark _)
theorem se_ne (C : Cw tb G CA XR k N sc own X W) (ha : SE CA XR X W a f) (hb : SE CA XR X W b g) : SE CA XR X W (.Compare a [.NotEq] [b] pos) (eB (tNe f g)) := se_cmp (op_ne.or (op_neD C.u64)) (ofOr mono_rNe mono_rNeD) ne_ok ha hb (nomark _)
theorem lt_ok {p : Int → Int → Bool} : CmpOk CA XR X W (rI0 fun i j => .bl (p i j)) (ltV p) := by
  intro σ x y m st H v w Q S rx ry q
  unfold ltV at q
  split at q
  · cases rx; cases ry
    exact ⟨_, _, rfl, rfl, _, rfl, PR.here S q⟩
  · exact q.elim
theorem st_lt (ha : SE CA XR X W a f) (hb : SE CA XR X W b g) : STt CA XR X W (.Compare a [.Lt] [b] pos) (tLt f g) := st_cmp op_lt lt_ok ha hb (nomark _)
theorem st_le (ha : SE CA XR X W a f) (hb : SE CA XR X W b g) : STt CA XR X W (.Compare a [.LtE] [b] pos) (tLe f g) := st_cmp op_le lt_ok ha hb (nomark _)
theorem st_gt (ha : SE CA XR X W a f) (hb : SE CA XR X W b g) : STt CA XR X W (.Compare a [.Gt] [b] pos) (tGt f g) := st_cmp op_gt lt_ok ha hb (nomark _)
theorem st_ge (ha : SE CA XR X W a f) (hb : SE CA XR X W b g) : STt CA XR X W (.Compare a [.GtE] [b] pos) (tGe f g) := st_cmp op_ge lt_ok ha hb (nomark _)
theorem se_lt (ha : SE CA XR X W a f) (hb : SE CA XR X W b g) : SE CA XR X W (.Compare a [.Lt] [b] pos) (eB (tLt f g)) := se_cmp op_lt mono_rI0 lt_ok ha hb (nomark _)
theorem se_le (ha : SE CA XR X W a f) (hb : SE CA XR X W b g) : SE CA XR X W (.Compare a [.LtE] [b] pos) (eB (tLe f g)) := se_cmp op_le mono_rI0 lt_ok ha hb (nomark _)
theorem se_gt (ha : SE CA XR X W a f) (hb : SE CA XR X W b g) : SE CA XR X W (.Compare a [.Gt] [b] pos) (eB (tGt f g)) := se_cmp op_gt mono_rI0 lt_ok ha hb (nomark _)
theorem se_ge (ha : SE CA XR X W a f) (hb : SE CA XR X W b g) : SE CA XR X W (.Compare a [.GtE] [b] pos) (eB (tGe f g)) := se_cmp op_ge mono_rI0 lt_ok ha hb (nomark _)

/-! ### is None, is True -/
theorem none_iff {K : PySem.W.Frag} {m : Mp} {st : Store} {H : Hp} {x : Val} {v : V} (r : RepV K m st H x v) (hx : ∀ e, x ≠ .ex e) : decide (v = .non) = isNone x := by
  cases x with
  | ex e => exact absurd rfl (hx e)
  | loc n => rw [r.2]; rfl
  | scr ns => obtain ⟨_, a, e, _⟩ := r; rw [e]; rfl
  | t d =>
    cases d with
    | non => rw [show v = .non from r]; rfl
    | bl b => rw [show v = _ from r]; rfl
    | int b => rw [show v = _ from r]; rfl
    | str b => rw [show v = _ from r]; rfl
    | rp b => rw [show v = _ from r]; rfl
    | tup b => obtain ⟨a, _, e, _⟩ := r; rw [e]; rfl
    | lst b => obtain ⟨a, _, e, _⟩ := r; rw [e]; rfl
    | dct b => obtain ⟨a, _, e, _⟩ := r; rw [e]; rfl
theorem isN_read {σ : L2.St} {H : Hp} {Q : Bool → Hp → Prop} (h : tMT X.K CA XR W (tIsN f) σ H Q) : L2.tIsN (tM X.K CA XR W f) σ H fun z H' => ∃ b, z = .bl b ∧ Q b H' := by
  obtain ⟨m, st, ρ, S, E, q⟩ := h
  refine ⟨m, st, ρ, S, E, (PR.bind_of q).mono fun x m1 st1 H1 S1 T1 h1 v rv => ⟨_, rfl, ?_⟩⟩
  split at h1
  · exact h1.elim
  · rename_i hx
    rw [none_iff rv (fun e z => hx e z)]
    exact PR.here S1 h1
theorem notN_read {σ : L2.St} {H : Hp} {Q : Bool → Hp → Prop} (h : tMT X.K CA XR W (tNotN f) σ H Q) : L2.tNotN (tM X.K CA XR W f) σ H fun z H' => ∃ b, z = .bl b ∧ Q b H' := by
  obtain ⟨m, st, ρ, S, E, q⟩ := h
  refine ⟨m, st, ρ, S, E, (PR.bind_of q).mono fun x m1 st1 H1 S1 T1 h1 v rv => ⟨_, rfl, ?_⟩⟩
  split at h1
  · exact h1.elim
  · rename_i hx
    rw [none_iff rv (fun e z => hx e z)]
    exact PR.here S1 h1
theorem st_isN {j : Nat} (ha : SE CA XR X W a f) : STt CA XR X W (.Compare a [.Is] [.Constant .none j pos'] pos) (tIsN f) := PT.weak (pt_cmp (pc_isN ha)) fun σ H Q q => isN_read q
theorem st_notN {j : Nat} (ha : SE CA XR X W a f) : STt CA XR X W (.Compare a [.IsNot] [.Constant .none j pos'] pos) (tNotN f) := PT.weak (pt_cmp (pc_notN ha)) fun σ H Q q => notN_read q
theorem se_isN {j : Nat} (ha : SE CA XR X W a f) : SE CA XR X W (.Compare a [.Is] [.Constant .none j pos'] pos) (eB (tIsN f)) := PE.weak (pe_cmp (pc_isN ha)) fun σ H Q q => by
  obtain ⟨m, st, ρ, S, E, q1⟩ := isN_read (tMT_eB q)
  exact ⟨m, st, ρ, S, E, q1.mono fun x m1 st1 H1 S1 T1 h1 v rv => by obtain ⟨b, e, z⟩ := h1 v rv; rw [e]; exact z⟩
theorem se_notN {j : Nat} (ha : SE CA XR X W a f) : SE CA XR X W (.Compare a [.IsNot] [.Constant .none j pos'] pos) (eB (tNotN f)) := PE.weak (pe_cmp (pc_notN ha)) fun σ H Q q => by
  obtain ⟨m, st, ρ, S, E, q1⟩ := notN_read (tMT_eB q)
  exact ⟨m, st, ρ, S, E, q1.mono fun x m1 st1 H1 S1 T1 h1 v rv => by obtain ⟨b, e, z⟩ := h1 v rv; rw [e]; exact z⟩

/-! ### and, or, not: tests -/
theorem and_read {σ : L2.St} {H : Hp} {Q : Bool → Hp → Prop} (h : tMT X.K CA XR W (tAnd t u) σ H Q) : L2.tAnd (tMT X.K CA XR W t) (tMT X.K CA XR W u) σ H Q := by
  obtain ⟨m, st, ρ, S, E, q⟩ := h
  refine ⟨m, st, ρ, S, E, (PR.bind_of q).mono fun x m1 st1 H1 S1 T1 h1 => ?_⟩
  cases x with
  | true => exact ⟨m1, st1, ρ, S1, E.mono T1, h1⟩
  | false => exact PR.here S1 h1
theorem or_read {σ : L2.St} {H : Hp} {Q : Bool → Hp → Prop} (h : tMT X.K CA XR W (tOr t u) σ H Q) : L2.tOr (tMT X.K CA XR W t) (tMT X.K CA XR W u) σ H Q := by
  obtain ⟨m, st, ρ, S, E, q⟩ := h
  refine ⟨m, st, ρ, S, E, (PR.bind_of q).mono fun x m1 st1 H1 S1 T1 h1 => ?_⟩
  cases x with
  | true => exact PR.here S1 h1
  | false => exact ⟨m1, st1, ρ, S1, E.mono T1, h1⟩
abbrev SW (CA : Tags) (XR : XRel) (X : Cx) (W : WX) (e : Expr) (f : CT) : Prop := PW X e (tMT X.K CA XR W f)
theorem PW.weak {X : Cx} {e : Expr} {t t' : TT} (h : PW X e t) (k : ∀ σ H Q, t' σ H Q → t σ H Q) : PW X e t' := ⟨fun wh pins s σ H Q I q => h.run wh pins s σ H Q I (k σ H Q q)⟩
theorem sw_and1 (ha : STt CA XR X W a t) : SW CA XR X W (.BoolOp .And [a] pos) t := pw_and1 ha
theorem sw_or1 (ha : STt CA XR X W a t) : SW CA XR X W (.BoolOp .Or [a] pos) t := pw_or1 ha
theorem sw_and (ha : STt CA XR X W a t) (hb : SW CA XR X W (.BoolOp .And (b :: es) pos) u) : SW CA XR X W (.BoolOp .And (a :: b :: es) pos) (tAnd t u) := PW.weak (pw_and ha hb) fun σ H Q q => and_read q
theorem sw_or (ha : STt CA XR X W a t) (hb : SW CA XR X W (.BoolOp .Or (b :: es) pos) u) : SW CA XR X W (.BoolOp .Or (a :: b :: es) pos) (tOr t u) := PW.weak (pw_or ha hb) fun σ H Q q => or_read q
theorem st_bool (h : SW CA XR X W e t) : STt CA XR X W e t := h.pt
theorem st_not (ha : STt CA XR X W a t) : STt CA XR X W (.UnaryOp .Not a pos) (tNot t) := PT.weak (pt_not ha) fun σ H Q ⟨m, st, ρ, S, E, q⟩ =>
  ⟨m, st, ρ, S, E, (PR.bind_of q).mono fun x m1 st1 H1 S1 T1 h1 => PR.here S1 h1⟩
theorem se_if (hc : STt CA XR X W c t) (ha : SE CA XR X W a f) (hb : SE CA XR X W b g) : SE CA XR X W (.IfExp c a b pos) (eIf t f g) := PE.weak (pe_ifExp hc ha hb) fun σ H Q ⟨m, st, ρ, S, E, q⟩ => by
  refine ⟨m, st, ρ, S, E, (PR.bind_of q).mono fun x m1 st1 H1 S1 T1 h1 => ?_⟩
  cases x with
  | true => exact ⟨m1, st1, ρ, S1, E.mono T1, h1⟩
  | false => exact ⟨m1, st1, ρ, S1, E.mono T1, h1⟩
end
end Fl
set_option Elab.async false
set_option linter.all false
set_option maxRecDepth 100000
set_option maxHeartbeats 2000000
/-! Fl over the layer: in, truth, subscripts, displays. -/
namespace Fl
open PySem PySem.Spec L2

section
variable {tb : Tab} {G : FEnv} {CA : Tags} {XR : XRel} {k : Nat} {N : List Str} {sc : Scope} {own : Str → Bool} {X : Cx} {W : WX}
variable {a b c e o : Expr} {es : List Expr} {pos pos' p2 : Pos} {f g h : CE} {t u : CT}

/-! ### bools as values -/
theorem se_and1 {op : BoolOp} (ha : SE CA XR X W a f) : SE CA XR X W (.BoolOp op [a] pos) f := pe_one ha
theorem se_and (ha : SE CA XR X W a f) (hb : SE CA XR X W (.BoolOp .And (b :: es) pos) g) : SE CA XR X W (.BoolOp .And (a :: b :: es) pos) (eAnd f g) := PE.weak (pe_and ha hb) fun σ H Q ⟨m, st, ρ, S, E, q⟩ => by
  refine ⟨m, st, ρ, S, E, (PR.bind_of q).mono fun x m1 st1 H1 S1 T1 h1 v rv => ?_⟩
  obtain ⟨c, rfl, rfl, h1⟩ := getB_ok rv h1
  refine ⟨c, rfl, ?_⟩
  cases c with
  | true => exact ⟨m1, st1, ρ, S1, E.mono T1, h1⟩
  | false => exact PR.here S1 h1 _ rfl
theorem se_or (ha : SE CA XR X W a f) (hb : SE CA XR X W (.BoolOp .Or (b :: es) pos) g) : SE CA XR X W (.BoolOp .Or (a :: b :: es) pos) (eOr f g) := PE.weak (pe_or ha hb) fun σ H Q ⟨m, st, ρ, S, E, q⟩ => by
  refine ⟨m, st, ρ, S, E, (PR.bind_of q).mono fun x m1 st1 H1 S1 T1 h1 v rv => ?_⟩
  obtain ⟨c, rfl, rfl, h1⟩ := getB_ok rv h1
  refine ⟨c, rfl, ?_⟩
  cases c with
  | true => exact PR.here S1 h1 _ rfl
  | false => exact ⟨m1, st1, ρ, S1, E.mono T1, h1⟩
theorem se_not (ha : SE CA XR X W a f) : SE CA XR X W (.UnaryOp .Not a pos) (eNot f) := PE.weak (pe_not ha) fun σ H Q ⟨m, st, ρ, S, E, q⟩ => by
  refine ⟨m, st, ρ, S, E, (PR.bind_of q).mono fun x m1 st1 H1 S1 T1 h1 v rv => ?_⟩
  obtain ⟨c, rfl, rfl, h1⟩ := getB_ok rv h1
  exact ⟨c, rfl, PR.here S1 h1 _ rfl⟩

/-! ### truth -/
theorem isEmpty_len {α β : Type} {xs : List α} {ys : List β} (h : xs.length = ys.length) : xs.isEmpty = ys.isEmpty := by
  cases xs <;> cases ys <;> first | rfl | (simp at h)
theorem st_truth (ha : SE CA XR X W a f) (he : ∀ whole, isTrue a X.env whole = (do let v ← whole; standAt a.pos; holding [v] (truthy v)) := by intro _; rfl) : STt CA XR X W a (tTruth f) := PT.weak (pt_truth ha he) fun σ H Q ⟨m, st, ρ, S, E, q⟩ => by
  refine ⟨m, st, ρ, S, E, (PR.bind_of q).mono fun x m1 st1 H1 S1 T1 h1 v rv => ?_⟩
  unfold truthV at h1
  split at h1
  · cases rv; exact ⟨_, rfl, PR.here S1 h1⟩
  · cases rv; exact ⟨_, rfl, PR.here S1 h1⟩
  · obtain ⟨p, vs, rfl, ⟨hh, _⟩, z, rs⟩ := rv
    exact ⟨_, .inl ⟨vs, .of hh, by rw [← isEmpty_len rs.length]⟩, PR.here S1 h1⟩
  · obtain ⟨p, vs, rfl, hh, z, rs⟩ := rv
    refine ⟨_, .inr (.inl ⟨vs, ?_, by rw [← isEmpty_len rs.length]⟩), PR.here S1 h1⟩
    rcases hh with hh | hh
    · exact .of hh.1
    · exact hh H1
  · rename_i n
    obtain ⟨_, rfl⟩ := rv
    cases ec : st1.cell n with
    | none => rw [ec] at h1; exact h1.elim
    | some d =>
      rw [ec] at h1
      cases d with
      | lst ws =>
        obtain ⟨us, hh, z, rs⟩ := S1.cells n _ ec
        exact ⟨_, .inl ⟨us, .of hh, by rw [← isEmpty_len rs.length]⟩, PR.here S1 h1⟩
      | _ => exact h1.elim
  · exact h1.elim

/-! ### in -/
theorem dget_val {α : Type} : ∀ {kvs : List (Key × α)} {us : List (L2.Key × V)} (P : α → V → Prop), True → True := fun _ _ => trivial
theorem RepK.val {K : PySem.W.Frag} {H : Hp} {lv : Addr → Prop} : ∀ {kts : List (Key × T)} {us : List (L2.Key × V)} (k : Key), RepK K H lv kts us → match dget kts k with
    | some d => ∃ v, valV us (kL k) = some v ∧ Rep K H lv d v
    | none => valV us (kL k) = none
  | [], us, k, r => by rw [show us = [] from r]; rfl
  | (l, d) :: q, us, k, r => by
    obtain ⟨p, ur, rfl, r1, r2⟩ := r
    unfold dget
    by_cases e : l = k
    · rw [if_pos e]
      exact ⟨p.2, valV_pos (by rw [r1.1, e]), r1.2⟩
    · rw [if_neg e]
      have hne : ¬ p.1 = kL k := fun z => e (kL_inj (r1.1.symm.trans z))
      rw [valV_neg hne]
      exact RepK.val k r2
theorem RepVK.val {K : PySem.W.Frag} {m : Mp} {st : Store} {H : Hp} : ∀ {kts : List (Key × Val)} {us : List (L2.Key × V)} (k : Key), RepVK K m st H kts us → match dget kts k with
    | some d => ∃ v, valV us (kL k) = some v ∧ RepV K m st H d v
    | none => valV us (kL k) = none
  | [], us, k, r => by rw [show us = [] from r]; rfl
  | (l, d) :: q, us, k, r => by
    obtain ⟨p, ur, rfl, r1, r2⟩ := r
    unfold dget
    by_cases e : l = k
    · rw [if_pos e]
      exact ⟨p.2, valV_pos (by rw [r1.1, e]), r1.2⟩
    · rw [if_neg e]
      have hne : ¬ p.1 = kL k := fun z => e (kL_inj (r1.1.symm.trans z))
      rw [valV_neg hne]
      exact RepVK.val k r2
theorem keyOf_rep {K : PySem.W.Frag} {m : Mp} {st : Store} {H : Hp} {x : Val} {v : V} {k : Key} (r : RepV K m st H x v) (e : keyOf x = some k) : v = kV (kL k) := by
  unfold keyOf at e
  split at e
  · cases e; exact r
  · cases e; exact r
  · cases e
def rDin (f : Bool → Bool) : R2 := fun y x H Q => ∃ a o, x = .ref a ∧ DGet H a y o ∧ Q (.bl (f o.isSome)) H
theorem op_din (hu : X.A.units + 1 < cLine) : OpR X (compareOp .In) (rDin fun b => b) := by
  intro pins s σ H y x v u Q I ry rx h
  obtain ⟨a, o, rfl, g, q⟩ := h
  obtain rfl : u = Value.ref a := rx
  exact d_in hu I g ry fun s3 I3 => ⟨.bl o.isSome, H, I3, rfl, q⟩
theorem op_dnin (hu : X.A.units + 1 < cLine) : OpR X (compareOp .NotIn) (rDin fun b => !b) := by
  intro pins s σ H y x v u Q I ry rx h
  obtain ⟨a, o, rfl, g, q⟩ := h
  obtain rfl : u = Value.ref a := rx
  exact d_notIn hu I g ry fun s3 I3 => ⟨.bl (!o.isSome), H, I3, rfl, q⟩
theorem flat_V {K : PySem.W.Frag} {H : Hp} {lv : Addr → Prop} {d : T} {v : V} (r : Rep K H lv d v) (hf : T.flat d = true) : flatV v = true := by
  cases d <;> first | (rw [show v = _ from r]; rfl) | (simp [T.flat] at hf)
theorem flats_V {K : PySem.W.Frag} {H : Hp} {lv : Addr → Prop} : ∀ {ds : List T} {vs : List V}, Reps K H lv ds vs → ds.all T.flat = true → vs.all flatV = true
  | [], vs, r, _ => by rw [show vs = [] from r]; rfl
  | d :: q, vs, r, h => by
    obtain ⟨v, vr, rfl, r1, r2⟩ := r
    simp only [List.all_cons, Bool.and_eq_true] at h ⊢
    exact ⟨flat_V r1 h.1, flats_V r2 h.2⟩
theorem eqV_flat {K : PySem.W.Frag} {H : Hp} {lv : Addr → Prop} {d c : T} {v w : V} (r : Rep K H lv d v) (r' : Rep K H lv c w) (h : T.flat d = true) (h' : T.flat c = true) : L2.eqV v w = T.eqv d c := by
  cases d <;> cases c <;> first
    | (simp [T.flat] at h; done)
    | (simp [T.flat] at h'; done)
    | (rw [show v = _ from r, show w = _ from r']; simp only [L2.eqV, T.eqv]; done)
    | (rw [show v = _ from r, show w = _ from r']; simp only [L2.eqV, T.eqv, ofStr_beq]; done)
theorem inT_flat {K : PySem.W.Frag} {H : Hp} {lv : Addr → Prop} {d : T} {v : V} (r : Rep K H lv d v) (h : T.flat d = true) : ∀ {ds : List T} {vs : List V}, Reps K H lv ds vs → ds.all T.flat = true → L2.inV v vs = inT d ds
  | [], vs, q, _ => by rw [show vs = [] from q]; rfl
  | c :: ds, vs, q, h' => by
    obtain ⟨w, wr, rfl, r1, r2⟩ := q
    simp only [List.all_cons, Bool.and_eq_true] at h'
    have ih := inT_flat r h r2 h'.2
    unfold L2.inV inT at ih ⊢
    rw [List.any_cons, List.any_cons, eqV_flat r1 r h'.1 h, ih]
theorem any_py {d : T} : ∀ {ds : List T}, T.plain 60 d = true → ds.all (T.plain 60) = true → ((toPys ds).any fun z => PyData.eqv z (toPy d)) = inT d ds
  | [], _, _ => by simp [toPys, inT]
  | c :: ds, h, h' => by
    simp only [List.all_cons, Bool.and_eq_true] at h'
    have ih := any_py (ds := ds) h h'.2
    unfold inT at ih ⊢
    simp only [toPys]
    rw [List.any_cons, List.any_cons, eqv_eq 60 60 c d h'.1 h, ih]
/-- what in tells -/
theorem inV_facts {m : Mp} {st : Store} {H : Hp} {x y : Val} {v w : V} (S : SR X.K CA m st H) (rx : RepV X.K m st H x v) (ry : RepV X.K m st H y w) : inV x y st = .bad ∨ ∃ b, inV x y st = .ok b st ∧
    ((∃ a o, w = .ref a ∧ DGet H a v o ∧ o.isSome = b) ∨ (∃ p xs, w = .ref p ∧ (SqL X.K H p xs ∨ SqT X.K H p xs) ∧ flatV v = true ∧ xs.all flatV = true ∧ L2.inV v xs = b) ∨
      ∃ d ds, Dp X.K H v d ∧ Dp X.K H w (.list ds) ∧ SeqAt.shaped d = true ∧ SeqAt.shaped (.list ds) = true ∧ (ds.any fun z => PyData.eqv z d) = b) := by
  have dl : ∀ {d : T} {ds : List T} {xs : List V} {p : Addr}, T.plain 60 d = true → ds.all (T.plain 60) = true → Rep X.K H (live m st) d v → Reps X.K H (live m st) ds xs → H p = some (.lst xs) →
      ∃ d' ds', Dp X.K H v d' ∧ Dp X.K H (.ref p) (.list ds') ∧ SeqAt.shaped d' = true ∧ SeqAt.shaped (.list ds') = true ∧ (ds'.any fun z => PyData.eqv z d') = inT d ds := fun {d ds xs p} h1 h2 r1 r2 hp => by
    refine ⟨toPy d, toPys ds, Rep.dp 60 d v h1 r1, .lst (.of hp) (Reps.dp 60 ds xs h2 r2), shaped_plain h1, ?_, any_py h1 h2⟩
    have hc := canLays_plain 60 ds h2
    have hd := depths_le 60 ds h2
    have e1 : PyData.canLay0 (.list (toPys ds)) = true := by simpa only [PyData.canLay0] using hc
    unfold SeqAt.shaped
    rw [e1, Bool.true_and]
    exact decide_eq_true (by simp only [PyData.depth]; omega)
  unfold inV
  split
  · -- a dict
    rename_i kvs
    obtain ⟨p, us, rfl, ⟨hp, _⟩, z, rk⟩ := ry
    cases e : keyOf x with
    | none => exact .inl rfl
    | some kk =>
      refine .inr ⟨_, rfl, .inl ⟨p, valV us (kL kk), rfl, ?_, ?_⟩⟩
      · rw [keyOf_rep rx e]; exact .inl ⟨_, _, hp, rfl, rfl⟩
      · have := RepK.val kk rk
        split at this
        · rename_i d ed
          obtain ⟨v', e', _⟩ := this
          rw [e', ed]; rfl
        · rename_i ed
          rw [this, ed]; rfl
  · -- a list
    rename_i ts
    obtain ⟨p, us, rfl, ⟨hp, _⟩, z, rk⟩ := ry
    split
    · rename_i d
      split
      · rename_i hh
        simp only [Bool.and_eq_true] at hh
        exact .inr ⟨_, rfl, .inr (.inr (dl hh.1 hh.2 rx rk hp))⟩
      · exact .inl rfl
    · exact .inl rfl
  · -- a tuple
    rename_i ts
    obtain ⟨p, us, rfl, hp, z, rk⟩ := ry
    split
    · rename_i d
      split
      · rename_i hh
        simp only [Bool.and_eq_true] at hh
        refine .inr ⟨_, rfl, .inr (.inl ⟨p, us, rfl, .inr ?_, flat_V rx hh.1, flats_V rk hh.2, inT_flat rx hh.1 rk hh.2⟩)⟩
        rcases hp with hp | hp
        · exact .of hp.1
        · exact hp H
      · exact .inl rfl
    · exact .inl rfl
  · rename_i n
    obtain ⟨_, rfl⟩ := ry
    cases ec : st.cell n with
    | none => exact .inl rfl
    | some d =>
      cases d with
      | dct kvs =>
        obtain ⟨us, hp, z, rk⟩ := S.cells n _ ec
        dsimp only
        cases e : keyOf x with
        | none => exact .inl rfl
        | some kk =>
          refine .inr ⟨_, rfl, .inl ⟨m n, valV us (kL kk), rfl, ?_, ?_⟩⟩
          · rw [keyOf_rep rx e]; exact .k hp
          · have := RepVK.val kk rk
            split at this
            · rename_i d ed
              obtain ⟨v', e', _⟩ := this
              rw [e', ed]; rfl
            · rename_i ed
              rw [this, ed]; rfl
      | lst ws =>
        obtain ⟨us, hp, z, rk⟩ := S.cells n _ ec
        dsimp only
        split
        · rename_i d ts et
          split
          · rename_i hh
            simp only [Bool.and_eq_true] at hh
            exact .inr ⟨_, rfl, .inr (.inr (dl hh.1 hh.2 rx (RepVs.of_trees et rk) hp))⟩
          · exact .inl rfl
        · exact .inl rfl
      | kd _ => exact (S.cells n _ ec).elim
      | _ => exact .inl rfl
  · exact .inl rfl
abbrev rIn3 (K : PySem.W.Frag) : R2 := fun x y H Q => rDin (fun b => b) x y H Q ∨ rIn K false x y H Q ∨ rInD K x y H Q
abbrev rNotIn3 (K : PySem.W.Frag) : R2 := fun x y H Q => rDin (fun b => !b) x y H Q ∨ rIn K true x y H Q ∨ rNotInD K x y H Q
theorem in_ok : CmpOk CA XR X W (rIn3 X.K) inV := by
  intro σ x y m st H v w Q S rx ry q
  rcases inV_facts S rx ry with e | ⟨b, e, h⟩
  · rw [e] at q; exact q.elim
  · rw [e] at q
    have q' := PR.here S q
    rcases h with ⟨a, o, h1, h2, h3⟩ | ⟨p, xs, h1, h2, h3, h4, h5⟩ | ⟨d, ds, h1, h2, h3, h4, h5⟩
    · exact .inl ⟨a, o, h1, h2, b, by rw [h3], q'⟩
    · exact .inr (.inl ⟨p, xs, h1, h2, h3, h4, b, by rw [h5]; rfl, q'⟩)
    · exact .inr (.inr ⟨d, ds, h1, h2, h3, h4, b, by rw [h5], q'⟩)
theorem notIn_ok : CmpOk CA XR X W (rNotIn3 X.K) (fun x y => inV x y >>= fun b => pure !b) := by
  intro σ x y m st H v w Q S rx ry q
  have q' : PR X.K CA XR W σ ((inV x y st).bind fun b => (pure !b : M Bool)) m st H (fun b m' st' H' => Q b H') := q
  rcases inV_facts S rx ry with e | ⟨b, e, h⟩
  · rw [e] at q'; exact q'.elim
  · rw [e] at q'
    have q2 := PR.here S q'
    rcases h with ⟨a, o, h1, h2, h3⟩ | ⟨p, xs, h1, h2, h3, h4, h5⟩ | ⟨d, ds, h1, h2, h3, h4, h5⟩
    · exact .inl ⟨a, o, h1, h2, !b, by rw [h3], q2⟩
    · exact .inr (.inl ⟨p, xs, h1, h2, h3, h4, !b, by rw [h5]; rfl, q2⟩)
    · exact .inr (.inr ⟨d, ds, h1, h2, h3, h4, !b, by rw [h5], q2⟩)
theorem mono_rDin {ff : Bool → Bool} : ∀ x y H (Q Q' : VK), (∀ z H', Q z H' → Q' z H') → rDin ff x y H Q → rDin ff x y H Q' := fun _ _ _ _ _ k ⟨a, o, h1, h2, q⟩ => ⟨a, o, h1, h2, k _ _ q⟩
theorem mono_rIn {K : PySem.W.Frag} {n : Bool} : ∀ x y H (Q Q' : VK), (∀ z H', Q z H' → Q' z H') → rIn K n x y H Q → rIn K n x y H Q' := fun _ _ _ _ _ k ⟨a, o, h1, h2, h3, h4, q⟩ => ⟨a, o, h1, h2, h3, h4, k _ _ q⟩
theorem mono_rInD {K : PySem.W.Frag} : ∀ x y H (Q Q' : VK), (∀ z H', Q z H' → Q' z H') → rInD K x y H Q → rInD K x y H Q' := fun _ _ _ _ _ k ⟨a, o, h1, h2, h3, h4, q⟩ => ⟨a, o, h1, h2, h3, h4, k _ _ q⟩
theorem mono_rNotInD {K : PySem.W.Frag} : ∀ x y H (Q Q' : VK), (∀ z H', Q z H' → Q' z H') → rNotInD K x y H Q → rNotInD K x y H Q' := fun _ _ _ _ _ k ⟨a, o, h1, h2, h3, h4, q⟩ => ⟨a, o, h1, h2, h3, h4, k _ _ q⟩
theorem st_in (C : Cw tb G CA XR k N sc own X W) (ha : SE CA XR X W a f) (hb : SE CA XR X W b g) (hm : behindInMarks .In b = false := by rfl) : STt CA XR X W (.Compare a [.In] [b] pos) (tIn f g) :=
  st_cmp ((op_din C.u1).or (op_in_seq.or (op_inD C.u65))) in_ok ha hb hm
theorem st_notIn (C : Cw tb G CA XR k N sc own X W) (ha : SE CA XR X W a f) (hb : SE CA XR X W b g) (hm : behindInMarks .NotIn b = false := by rfl) : STt CA XR X W (.Compare a [.NotIn] [b] pos) (tNotIn f g) :=
  st_cmp ((op_dnin C.u1).or (op_notIn_seq.or (op_notInD C.u65))) notIn_ok ha hb hm
theorem se_in (C : Cw tb G CA XR k N sc own X W) (ha : SE CA XR X W a f) (hb : SE CA XR X W b g) (hm : behindInMarks .In b = false := by rfl) : SE CA XR X W (.Compare a [.In] [b] pos) (eB (tIn f g)) :=
  se_cmp ((op_din C.u1).or (op_in_seq.or (op_inD C.u65))) (ofOr mono_rDin (ofOr mono_rIn mono_rInD)) in_ok ha hb hm
theorem se_notIn (C : Cw tb G CA XR k N sc own X W) (ha : SE CA XR X W a f) (hb : SE CA XR X W b g) (hm : behindInMarks .NotIn b = false := by rfl) : SE CA XR X W (.Compare a [.NotIn] [b] pos) (eB (tNotIn f g)) :=
  se_cmp ((op_dnin C.u1).or (op_notIn_seq.or (op_notInD C.u65))) (ofOr mono_rDin (ofOr mono_rIn mono_rNotInD)) notIn_ok ha hb hm

/-! ### displays, arguments -/
theorem sa_nil : SA CA XR X W [] (eVals []) := PA.weak pa_nil fun σ H Q ⟨m, st, ρ, S, E, q⟩ => PR.here S q [] rfl
theorem sa_cons {fs : List CE} (ha : SE CA XR X W a f) (hr : SA CA XR X W es (eVals fs)) (hs : starEach (a :: es) X.env = (false, eval a X.env) :: starEach es X.env := by rfl) : SA CA XR X W (a :: es) (eVals (f :: fs)) :=
  PA.weak (pa_cons ha hr hs) fun σ H Q ⟨m, st, ρ, S, E, q⟩ => by
    refine ⟨m, st, ρ, S, E, (PR.bind_of q).mono fun x m1 st1 H1 S1 T1 h1 v rv => ?_⟩
    refine ⟨m1, st1, ρ, S1, E.mono T1, (PR.bind_of h1).mono fun xs m2 st2 H2 S2 T2 h2 vs rvs => ?_⟩
    exact PR.here S2 h2 (v :: vs) ⟨v, vs, rfl, RepV.mono T2 x v rv, rvs⟩
theorem eVals_length : ∀ {fs : List CE} {ρ : Env} {st st' : Store} {ws : List Val}, eVals fs ρ st = .ok ws st' → ws.length = fs.length
  | [], ρ, st, st', ws, h => by cases h; rfl
  | f :: fs, ρ, st, st', ws, h => by
    have h' : (f ρ st).bind (fun x => eVals fs ρ >>= fun xs => pure (x :: xs)) = .ok ws st' := h
    cases e : f ρ st with
    | bad => rw [e] at h'; cases h'
    | exc x s => rw [e] at h'; cases h'
    | ok x s =>
      rw [e] at h'
      have h2 : (eVals fs ρ s).bind (fun xs => pure (x :: xs)) = .ok ws st' := h'
      cases e2 : eVals fs ρ s with
      | bad => rw [e2] at h2; cases h2
      | exc x s => rw [e2] at h2; cases h2
      | ok xs s2 =>
        rw [e2] at h2
        cases h2
        rw [List.length_cons, List.length_cons, eVals_length e2]
/-- a result's list has so many items -/
theorem PR.lenOf {K : PySem.W.Frag} {σ : L2.St} {m : Mp} {st : Store} {H : Hp} {fs : List CE} {ρ : Env} {ok : List Val → Mp → Store → Hp → Prop} (h : PR K CA XR W σ (eVals fs ρ st) m st H ok) :
    PR K CA XR W σ (eVals fs ρ st) m st H fun ws m' st' H' => ws.length = fs.length ∧ ok ws m' st' H' := by
  cases e : eVals fs ρ st with
  | bad => rw [e] at h; exact h
  | exc x s => rw [e] at h; exact h
  | ok ws s => rw [e] at h; exact fun m' H' S T => ⟨eVals_length e, h m' H' S T⟩
theorem se_lst (cell : Bool) {fs : List CE} (h : SA CA XR X W es (eVals fs)) (hz : fs.length ≤ L := by first | decide | (simp only [List.length_cons, List.length_nil]; decide)) : SE CA XR X W (.List es pos) (eLst cell fs) := PE.weak (pe_lst h) fun σ H Q ⟨m, st, ρ, S, E, q⟩ => by
  refine ⟨m, st, ρ, S, E, (PR.bind_of q).lenOf.mono fun ws m1 st1 H1 S1 T1 h1 vs rs => ?_⟩
  have hl : ws.length ≤ L := by rw [h1.1]; exact hz
  exact ⟨by rw [← rs.length]; exact lineOf hl, newL_ok S1 rs hl h1.2⟩
theorem se_tup (cell : Bool) {fs : List CE} {x1 : Nat} (h : SA CA XR X W es (eVals fs)) (hz : fs.length ≤ L := by first | decide | (simp only [List.length_cons, List.length_nil]; decide)) : SE CA XR X W (.Tuple es x1 pos) (eTup cell fs) := PE.weak (pe_tup h) fun σ H Q ⟨m, st, ρ, S, E, q⟩ => by
  refine ⟨m, st, ρ, S, E, (PR.bind_of q).lenOf.mono fun ws m1 st1 H1 S1 T1 h1 vs rs => ?_⟩
  have hl : ws.length ≤ L := by rw [h1.1]; exact hz
  exact ⟨by rw [← rs.length]; exact lineOf hl, newT_ok S1 rs hl h1.2⟩
end
end Fl
set_option Elab.async false
set_option linter.all false
set_option maxRecDepth 100000
set_option maxHeartbeats 2000000
/-! Fl over the layer: subscripts, slices, dicts, built-ins. -/
namespace Fl
open PySem PySem.Spec L2

section
variable {tb : Tab} {G : FEnv} {CA : Tags} {XR : XRel} {k : Nat} {N : List Str} {sc : Scope} {own : Str → Bool} {X : Cx} {W : WX}
variable {a b c e o : Expr} {es : List Expr} {pos pos' p2 p1 : Pos} {f g h : CE} {t u : CT}

/-! ### subscripts -/
def rDgt : R2 := fun x y H Q => ∃ a v, x = .ref a ∧ DGet H a y (some v) ∧ Q v H
theorem ix_dict (hu : X.A.units + 1 < cLine) : IxR X rDgt := by
  intro value slice pins s σ H x y v u Q I rx ry h hs
  obtain ⟨a, w, rfl, g, q⟩ := h
  obtain rfl : v = Value.ref a := rx
  exact PyProof.Rows.tail_any (dict_typeIs I g) PySem.F.slot_dict_getitem.lookup (d_getItem hu I g ry fun w' s3 I3 rw' => ⟨w, H, I3, rw', q⟩) hs
theorem at_of {α β : Type} {xs : List α} {ys : List β} {i : Int} {j : Nat} {y : β} (hl : xs.length = ys.length) (h : pyIx xs.length i = some j) (hy : ys[j]? = some y) : atI ys i = some y := by
  unfold atI
  have e : ixN ys.length i = some j := by rw [← hl]; exact h
  rw [e]; exact hy
theorem chr_at {x : String} {n : Nat} {c : Char} (h : x.toList[n]? = some c) : (Str.ofString x).cps.toList[n]? = some c.toNat := by
  rw [Str.ofString_eq_toList]
  simp only [List.getElem?_map, h, Option.map_some]
theorem chr_one (c : Char) : (⟨#[c.toNat]⟩ : Str) = Str.ofString (String.singleton c) := by
  rw [Str.ofString_eq_toList]
  simp
theorem se_ix (C : Cw tb G CA XR k N sc own X W) (ha : SE CA XR X W a f) (hb : SE CA XR X W b g) (hs : PlainIx b := by intro _ _; rfl) : SE CA XR X W (.Subscript a b pos) (e2 subI f g) := by
  refine PE.weak (pe_ix ((ix_dict C.u1).or (ix_seq (X := X))) ha hb hs) fun σ H Q q => two (fun x y m st H v w Q S rx ry q => ?_) q
  unfold subI at q
  split at q
  · -- a text
    split at q
    · rename_i kk
      cases rx; cases ry
      split at q
      · rename_i n en
        split at q
        · rename_i c ec
          split at q
          · rename_i hz
            refine .inr (.inr (.inr ⟨_, _, c.toNat, rfl, rfl, by rw [ofStr_len]; exact lineOf hz, ?_, by rw [chr_one]; exact PR.here S q _ rfl⟩))
            refine at_of (xs := (Str.ofString _).cps.toList) rfl ?_ (chr_at ec)
            rw [Str.ofString_eq_toList]
            simp only [List.length_map]
            rw [String.length_toList]
            exact en
          · exact q.elim
        · exact q.elim
      · exact q.elim
    · exact q.elim
  · rename_i kvs
    obtain ⟨p, us, rfl, ⟨hp, _⟩, z, rk⟩ := rx
    split at q
    · rename_i kk ek
      split at q
      · rename_i d ed
        have := RepK.val kk rk
        rw [ed] at this
        obtain ⟨v', e', r'⟩ := this
        refine .inl ⟨p, v', rfl, ?_, PR.here S q _ r'⟩
        rw [keyOf_rep ry ek, ← e']; exact (.inl ⟨_, _, hp, rfl, rfl⟩)
      · exact q.elim
    · exact q.elim
  · rename_i ts
    obtain ⟨p, us, rfl, ⟨hp, _⟩, z, rk⟩ := rx
    split at q
    · rename_i kk
      cases ry
      split at q
      · rename_i n en
        split at q
        · rename_i d ed
          obtain ⟨v', e', r'⟩ := rk.get ed
          exact .inr (.inl ⟨p, us, _, v', rfl, rfl, .of hp, at_of rk.length en e', PR.here S q _ r'⟩)
        · exact q.elim
      · exact q.elim
    · exact q.elim
  · rename_i ts
    obtain ⟨p, us, rfl, hp, z, rk⟩ := rx
    split at q
    · rename_i kk
      cases ry
      split at q
      · rename_i n en
        split at q
        · rename_i d ed
          obtain ⟨v', e', r'⟩ := rk.get ed
          refine .inr (.inr (.inl ⟨p, us, _, v', rfl, rfl, ?_, at_of rk.length en e', PR.here S q _ r'⟩))
          rcases hp with hp | hp
          · exact .of hp.1
          · exact hp H
        · exact q.elim
      · exact q.elim
    · exact q.elim
  · rename_i n
    obtain ⟨_, rfl⟩ := rx
    cases ec : st.cell n with
    | none => rw [ec] at q; exact q.elim
    | some d =>
      rw [ec] at q
      cases d with
      | dct kvs =>
        obtain ⟨us, hp, z, rk⟩ := S.cells n _ ec
        dsimp only at q
        split at q
        · rename_i kk ek
          split at q
          · rename_i d ed
            have := RepVK.val kk rk
            rw [ed] at this
            obtain ⟨v', e', r'⟩ := this
            refine .inl ⟨m n, v', rfl, ?_, PR.here S q _ r'⟩
            rw [keyOf_rep ry ek, ← e']; exact .k hp
          · exact q.elim
        · exact q.elim
      | lst ws =>
        obtain ⟨us, hp, z, rk⟩ := S.cells n _ ec
        dsimp only at q
        split at q
        · rename_i kk
          cases ry
          split at q
          · rename_i j en
            split at q
            · rename_i d ed
              obtain ⟨v', e', r'⟩ := rk.get ed
              exact .inr (.inl ⟨m n, us, _, v', rfl, rfl, .of hp, at_of rk.length en e', PR.here S q _ r'⟩)
            · exact q.elim
          · exact q.elim
        · exact q.elim
      | tup ws =>
        obtain ⟨us, hp, z, rk⟩ := S.cells n _ ec
        dsimp only at q
        split at q
        · rename_i kk
          cases ry
          split at q
          · rename_i j en
            split at q
            · rename_i d ed
              obtain ⟨v', e', r'⟩ := rk.get ed
              exact .inr (.inr (.inl ⟨m n, us, _, v', rfl, rfl, .of hp, at_of rk.length en e', PR.here S q _ r'⟩))
            · exact q.elim
          · exact q.elim
        · exact q.elim
      | kd _ => exact (S.cells n _ ec).elim
      | ins _ _ => exact q.elim
  · exact q.elim

/-! ### slices -/
theorem cut_eq (vs : List V) (lo hi : Option Int) : cutV vs lo hi = slice vs lo hi := rfl
theorem RepVs.slice {K : PySem.W.Frag} {m : Mp} {st : Store} {H : Hp} {ws : List Val} {us : List V} (r : RepVs K m st H ws us) (lo hi : Option Int) : RepVs K m st H (slice ws lo hi) (slice us lo hi) := by
  unfold Fl.slice
  rw [r.length]
  exact (r.drop _).take _
theorem slice_len {α : Type} (xs : List α) (lo hi : Option Int) : (slice xs lo hi).length ≤ xs.length := by
  unfold slice
  rw [List.length_take, List.length_drop]
  omega
def partM (e : Option CE) (ρ : Env) : M (Option Int) := match e with
  | none => pure none
  | some e => e ρ >>= fun x => getInt x >>= fun i => pure (some i)
def tMO (K : PySem.W.Frag) (CA : Tags) (XR : XRel) (W : WX) (f : Option CE) : TO := fun σ H Q => ∃ m st ρ, SR K CA m st H ∧ ER K m st H ρ σ ∧ PR K CA XR W σ (partM f ρ st) m st H fun b m' st' H' => Q b H'
abbrev SO' (CA : Tags) (XR : XRel) (X : Cx) (W : WX) (e : Option Expr) (f : Option CE) : Prop := PO X e (tMO X.K CA XR W f)
theorem PO.weak {X : Cx} {e : Option Expr} {t t' : TO} (h : PO X e t) (k : ∀ σ H Q, t' σ H Q → t σ H Q) : PO X e t' := ⟨fun pins s σ H Q I q => h.run pins s σ H Q I (k σ H Q q)⟩
theorem so_none : SO' CA XR X W none none := PO.weak po_none fun σ H Q ⟨m, st, ρ, S, E, q⟩ => PR.here S q
theorem so_some (ha : SE CA XR X W a f) : SO' CA XR X W (some a) (some f) := PO.weak (po_some ha) fun σ H Q ⟨m, st, ρ, S, E, q⟩ => by
  refine ⟨m, st, ρ, S, E, (PR.bind_of q).mono fun x m1 st1 H1 S1 T1 h1 v rv => ?_⟩
  obtain ⟨i, rfl, rfl, h1⟩ := getInt_ok rv h1
  exact ⟨i, rfl, PR.here S1 h1⟩
theorem eSlice_eq (cell : Bool) (f : CE) (lo hi : Option CE) (ρ : Env) : eSlice cell f lo hi ρ = (f ρ >>= fun v => partM lo ρ >>= fun l => partM hi ρ >>= fun h => sliceV cell v l h) := rfl
theorem se_slice (cell : Bool) {lo hi : Option Expr} {fl fh : Option CE} (ha : SE CA XR X W a f) (hl : SO' CA XR X W lo fl) (hh : SO' CA XR X W hi fh) : SE CA XR X W (.Subscript a (.Slice lo hi none p2) pos) (eSlice cell f fl fh) := by
  refine PE.weak (pe_slice (sl_list.or sl_tup) ha hl hh) fun σ H Q ⟨m, st, ρ, S, E, q⟩ => ?_
  refine ⟨m, st, ρ, S, E, (PR.bind_of q).mono fun x m1 st1 H1 S1 T1 h1 v rv => ?_⟩
  refine ⟨m1, st1, ρ, S1, E.mono T1, (PR.bind_of h1).mono fun l m2 st2 H2 S2 T2 h2 => ?_⟩
  refine ⟨m2, st2, ρ, S2, (E.mono T1).mono T2, (PR.bind_of h2).mono fun u m3 st3 H3 S3 T3 h3 => ?_⟩
  have rv3 := RepV.mono T3 x v (RepV.mono T2 x v rv)
  unfold sliceV at h3
  split at h3
  · rename_i ts
    obtain ⟨p, us, rfl, hp, z, rk⟩ := rv3
    split at h3
    · exact h3.elim
    · rename_i hne
      refine .inr ⟨p, us, rfl, ?_, ?_, fun q hq => ?_⟩
      · rcases hp with hp | hp
        · exact .of hp.1
        · exact hp H3
      · rw [← rk.length]; exact hne
      · obtain ⟨T, S'⟩ := S3.fresh (o := .tup (cutV us l u)) hq
        refine h3 m3 _ S' T _ ⟨q, cutV us l u, rfl, .inl ⟨upd_same, S3.not_live hq⟩, Nat.le_trans (slice_len _ _ _) z, ?_⟩
        have rr := RepVs.slice (RepVs.of_reps (Reps.mono T.keep T.lv _ _ rk)) l u
        rw [show Fl.slice (ts.map Val.t) l u = (Fl.slice ts l u).map Val.t from by unfold Fl.slice; rw [List.length_map, ← List.map_drop, ← List.map_take]] at rr
        exact RepVs.of_trees (trees_map _) rr
  · obtain ⟨ws, p, us, rfl, hp, rk, z, h3⟩ := itemsL_ok S3 rv3 h3
    exact .inl ⟨p, us, rfl, .of hp, newL_ok S3 (rk.slice l u) (Nat.le_trans (slice_len _ _ _) z) h3⟩
end
end Fl
set_option Elab.async false
set_option linter.all false
set_option maxRecDepth 100000
set_option maxHeartbeats 2000000
/-! Fl over the layer: names of the module, built-ins. -/
namespace Fl
open PySem PySem.Spec L2

section
variable {tb : Tab} {G : FEnv} {CA : Tags} {XR : XRel} {k : Nat} {N : List Str} {sc : Scope} {own : Str → Bool} {X : Cx} {W : WX}
variable {a b c e : Expr} {es : List Expr} {pos pos' p p2 p3 : Pos} {f g h : CE} {t u : CT}

theorem gl_of (C : Cw tb G CA XR k N sc own X W) {x : Str} (h : glbB sc x = true) : Gl X x := by
  unfold glbB at h
  simp only [Bool.and_eq_true, decide_eq_true_eq] at h
  show X.env.scope.names.lookup x = _
  rw [C.sc]; exact h.1.1
theorem gl_dbg {x : Str} (h : glbB sc x = true) : (x == ("__debug__" : Str)) = false := by
  unfold glbB at h
  simp only [Bool.and_eq_true, Bool.not_eq_true'] at h
  exact h.1.2
theorem gl_nm {x : Str} (h : glbB sc x = true) : x ≠ "__name__" := fun e => by
  unfold glbB at h
  simp only [Bool.and_eq_true, Bool.not_eq_true'] at h
  have := h.2
  rw [e] at this
  simp at this
/-- a name of a built-in, here -/
def bltB (tb : Tab) (sc : Scope) (x : Str) : Bool := glbB sc x && tb.free.contains x
theorem blt_gl {x : Str} (h : bltB tb sc x = true) : glbB sc x = true := by unfold bltB at h; simp only [Bool.and_eq_true] at h; exact h.1
theorem blt_mg (C : Cw tb G CA XR k N sc own X W) {x : Str} (h : bltB tb sc x = true) : X.mg x = none := by
  unfold bltB at h
  simp only [Bool.and_eq_true] at h
  exact C.glob.free x (by simpa using h.2)
theorem se_glob (C : Cw tb G CA XR k N sc own X W) {x : Str} {d : T} (h : glbB sc x = true) (hm : (x, d) ∈ tb.consts) : SE CA XR X W (.Name x pos) (eC d) := by
  obtain ⟨u, v, h1, h2, h3⟩ := C.glob.consts x d hm
  exact PE.weak (pe_glob (gl_of C h) h1 h2 (gl_dbg h)) fun σ H Q ⟨m, st, ρ, S, E, q⟩ => PR.here S q v (h3 H _)

theorem RepK.length {K : PySem.W.Frag} {H : Hp} {lv : Addr → Prop} : ∀ {ts : List (Key × T)} {vs : List (L2.Key × V)}, RepK K H lv ts vs → ts.length = vs.length
  | [], _, h => by rw [show _ = _ from h]; rfl
  | _ :: r, _, ⟨v, q, e, _, h⟩ => by rw [e, List.length_cons, List.length_cons, RepK.length h]

/-! ### one argument, two -/
theorem call1 {id : String} {x : Str} {k1 : Val → M Val} {r : List V → Hp → VK → Prop} (C : Cw tb G CA XR k N sc own X W) (h : bltB tb sc x = true) (hc : CallR X (.builtin id) r) (hv : bootBuiltins x = some (.builtin id))
    (hk : ∀ σ y m st H v Q, SR X.K CA m st H → RepV X.K m st H y v → PR X.K CA XR W σ (k1 y st) m st H (fun a m' st' H' => ∀ u, RepV X.K m' st' H' a u → Q u H') → r [v] H Q)
    (ha : SE CA XR X W a f) (hs : starEach [a] X.env = (false, eval a X.env) :: starEach [] X.env := by rfl) : SE CA XR X W (.Call (.Name x p) [a] [] pos) (e1 k1 f) :=
  PE.weak (pe_callB hc (gl_of C (blt_gl h)) (blt_mg C h) hv (pa_cons ha pa_nil hs) (gl_nm (blt_gl h)) (gl_dbg (blt_gl h)) hs rfl) fun σ H Q q => one (r := fun v H Q => r [v] H Q) (hk σ) q
theorem callT1 {id : String} {x : Str} {k1 : Val → M Val} {r : List V → Hp → VK → Prop} (C : Cw tb G CA XR k N sc own X W) (h : bltB tb sc x = true) (hc : CallR X (.type id) r) (hv : bootBuiltins x = some (.type id))
    (hk : ∀ σ y m st H v Q, SR X.K CA m st H → RepV X.K m st H y v → PR X.K CA XR W σ (k1 y st) m st H (fun a m' st' H' => ∀ u, RepV X.K m' st' H' a u → Q u H') → r [v] H Q)
    (ha : SE CA XR X W a f) (hs : starEach [a] X.env = (false, eval a X.env) :: starEach [] X.env := by rfl) : SE CA XR X W (.Call (.Name x p) [a] [] pos) (e1 k1 f) :=
  PE.weak (pe_callTy hc (gl_of C (blt_gl h)) (blt_mg C h) hv (pa_cons ha pa_nil hs) (gl_nm (blt_gl h)) (gl_dbg (blt_gl h)) hs rfl) fun σ H Q q => one (r := fun v H Q => r [v] H Q) (hk σ) q
theorem call2 {id : String} {x : Str} {k2 : Val → Val → M Val} {r : List V → Hp → VK → Prop} (C : Cw tb G CA XR k N sc own X W) (h : bltB tb sc x = true) (hc : CallR X (.builtin id) r) (hv : bootBuiltins x = some (.builtin id))
    (hk : ∀ σ y z m st H v w Q, SR X.K CA m st H → RepV X.K m st H y v → RepV X.K m st H z w → PR X.K CA XR W σ (k2 y z st) m st H (fun a m' st' H' => ∀ u, RepV X.K m' st' H' a u → Q u H') → r [v, w] H Q)
    (ha : SE CA XR X W a f) (hb : SE CA XR X W b g) (hs : starEach [a, b] X.env = (false, eval a X.env) :: starEach [b] X.env := by rfl) (hs2 : starEach [b] X.env = (false, eval b X.env) :: starEach [] X.env := by rfl) :
    SE CA XR X W (.Call (.Name x p) [a, b] [] pos) (e2 k2 f g) :=
  PE.weak (pe_callB hc (gl_of C (blt_gl h)) (blt_mg C h) hv (pa_cons ha (pa_cons hb pa_nil hs2) hs) (gl_nm (blt_gl h)) (gl_dbg (blt_gl h)) hs (by rw [hs2] <;> rfl)) fun σ H Q q => two (r := fun v w H Q => r [v, w] H Q) (hk σ) q

/-! ### the built-ins -/
theorem se_abs (C : Cw tb G CA XR k N sc own X W) (h : bltB tb sc "abs" = true) (ha : SE CA XR X W a f) (hs : starEach [a] X.env = (false, eval a X.env) :: starEach [] X.env := by rfl) : SE CA XR X W (.Call (.Name "abs" p) [a] [] pos) (e1 absV f) := by
  refine call1 C h call_abs PyProof.Rows.boot_abs (fun σ x m st H v Q S r q => ?_) ha hs
  unfold absV at q
  split at q
  · cases r; exact ⟨_, rfl, PR.here S q _ rfl⟩
  · exact q.elim
theorem se_intT (C : Cw tb G CA XR k N sc own X W) (h : bltB tb sc "int" = true) (ha : SE CA XR X W a f) (hs : starEach [a] X.env = (false, eval a X.env) :: starEach [] X.env := by rfl) : SE CA XR X W (.Call (.Name "int" p) [a] [] pos) (e1 intV f) := by
  refine callT1 C h call_int1 PyProof.Rows.boot_int (fun σ x m st H v Q S r q => ?_) ha hs
  unfold intV at q
  split at q
  · cases r; exact .inl ⟨_, rfl, PR.here S q _ rfl⟩
  · cases r; exact .inr ⟨_, rfl, PR.here S q _ rfl⟩
  · exact q.elim
theorem se_strT (C : Cw tb G CA XR k N sc own X W) (h : bltB tb sc "str" = true) (ha : SE CA XR X W a f) (hs : starEach [a] X.env = (false, eval a X.env) :: starEach [] X.env := by rfl) : SE CA XR X W (.Call (.Name "str" p) [a] [] pos) (e1 strV f) := by
  refine callT1 C h call_str_int PyProof.Rows.boot_str (fun σ x m st H v Q S r q => ?_) ha hs
  unfold strV at q
  split at q
  · cases r
    split at q
    · rename_i i hi
      refine ⟨_, rfl, ?_, PR.here S q _ rfl⟩
      by_cases z : i.natAbs = 0
      · rw [z]; decide
      · exact Nat.lt_trans ((Nat.log2_lt z).mpr hi) (by decide)
    · exact q.elim
  · exact q.elim
theorem se_max2 (C : Cq tb G CA XR k N sc own X W) (h : bltB tb sc "max" = true) (ha : SE CA XR X W a f) (hb : SE CA XR X W b g) (hs : starEach [a, b] X.env = (false, eval a X.env) :: starEach [b] X.env := by rfl) (hs2 : starEach [b] X.env = (false, eval b X.env) :: starEach [] X.env := by rfl) :
    SE CA XR X W (.Call (.Name "max" p) [a, b] [] pos) (e2 max2 f g) := by
  refine call2 C.toCw h (call_max2 C.calm) PyProof.Rows.boot_max (fun σ x y m st H v w Q S r r' q => ?_) ha hb hs hs2
  unfold max2 at q
  split at q
  · cases r; cases r'; exact ⟨_, _, rfl, PR.here S q _ rfl⟩
  · exact q.elim
theorem se_min2 (C : Cq tb G CA XR k N sc own X W) (h : bltB tb sc "min" = true) (ha : SE CA XR X W a f) (hb : SE CA XR X W b g) (hs : starEach [a, b] X.env = (false, eval a X.env) :: starEach [b] X.env := by rfl) (hs2 : starEach [b] X.env = (false, eval b X.env) :: starEach [] X.env := by rfl) :
    SE CA XR X W (.Call (.Name "min" p) [a, b] [] pos) (e2 min2 f g) := by
  refine call2 C.toCw h (call_min2 C.calm) (by decide +kernel) (fun σ x y m st H v w Q S r r' q => ?_) ha hb hs hs2
  unfold min2 at q
  split at q
  · cases r; cases r'; exact ⟨_, _, rfl, PR.here S q _ rfl⟩
  · exact q.elim
/-- len of a dict, locked or not -/
theorem len_rdD : CallR X (.builtin "len") (fun xs H Q => ∃ a kvs, xs = [V.ref a] ∧ Rd H a (.dK kvs) ∧ Q (.int kvs.length) H) := by
  rintro pins s σ H xs us Q I r ⟨a, kvs, rfl, ha, q⟩
  obtain ⟨u, rfl, ru⟩ := vals1 r
  cases ru
  exact d_len I ha fun t s' I' => ⟨V.int kvs.length, _, I', ⟨t, rfl⟩, q⟩
theorem se_len (C : Cw tb G CA XR k N sc own X W) (h : bltB tb sc "len" = true) (ha : SE CA XR X W a f) (hs : starEach [a] X.env = (false, eval a X.env) :: starEach [] X.env := by rfl) : SE CA XR X W (.Call (.Name "len" p) [a] [] pos) (e1 lenV f) := by
  refine call1 C h (call_len_seq.or len_rdD) boot_len (fun σ x m st H v Q S r q => ?_) ha hs
  unfold lenV at q
  split at q
  · obtain ⟨a, us, rfl, ⟨h, _⟩, z, rs⟩ := r
    exact .inl ⟨a, us, rfl, .inl (.of h), PR.here S q _ (by rw [rs.length]; rfl)⟩
  · obtain ⟨a, us, rfl, h, z, rs⟩ := r
    refine .inl ⟨a, us, rfl, .inr ?_, PR.here S q _ (by rw [rs.length]; rfl)⟩
    rcases h with h | h
    · exact .of h.1
    · exact h H
  · obtain ⟨a, us, rfl, h, z, rs⟩ := r
    refine .inr ⟨a, us, rfl, h.1, PR.here S q _ ?_⟩
    rw [RepK.length rs]; rfl
  · rename_i n
    obtain ⟨_, rfl⟩ := r
    cases e : st.cell n with
    | none => rw [e] at q; exact q.elim
    | some d =>
      rw [e] at q
      cases d with
      | lst ws =>
        obtain ⟨us, h, z, rs⟩ := S.cells n _ e
        exact .inl ⟨m n, us, rfl, .inl (.of h), PR.here S q _ (by rw [rs.length]; rfl)⟩
      | tup ws =>
        obtain ⟨us, h, z, rs⟩ := S.cells n _ e
        exact .inl ⟨m n, us, rfl, .inr (.of h), PR.here S q _ (by rw [rs.length]; rfl)⟩
      | dct ws =>
        obtain ⟨us, h, z, rs⟩ := S.cells n _ e
        exact .inr ⟨m n, us, rfl, .inl h, PR.here S q _ (by rw [rs.length]; rfl)⟩
      | _ => exact q.elim
  · exact q.elim
theorem se_sum (C : Cq tb G CA XR k N sc own X W) (h : bltB tb sc "sum" = true) (ha : SE CA XR X W a f) (hs : starEach [a] X.env = (false, eval a X.env) :: starEach [] X.env := by rfl) : SE CA XR X W (.Call (.Name "sum" p) [a] [] pos) (e1 sumV f) := by
  refine call1 C.toCw h (cr_sum C.calm) (by decide +kernel) (fun σ x m st H v Q S r q => ?_) ha hs
  obtain ⟨ws, ad, us, rfl, h1, r1, z1, q⟩ := itemsL_ok S r q
  cases e : Fl.intsOf ws with
  | none => rw [e] at q; exact q.elim
  | some ns =>
    rw [e] at q
    have := RepVs.toInts (ns := ns) e r1
    subst this
    exact ⟨ad, ns, rfl, .of h1, PR.here S q _ rfl⟩
theorem maxL_max : ∀ {ns : List Int} {m x : Int}, m ∈ (x :: ns) → (∀ y, y ∈ (x :: ns) → y ≤ m) → ns.foldl (fun a b => if b > a then b else a) x = m
  | [], m, x, h, _ => by simp at h; exact h.symm
  | y :: r, m, x, h, k => by
    rw [List.foldl_cons]
    refine maxL_max ?_ ?_
    · by_cases z : y > x
      · rw [if_pos z]
        rcases List.mem_cons.mp h with e | e
        · exact absurd (k y (by simp)) (by omega)
        · exact e
      · rw [if_neg z]
        rcases List.mem_cons.mp h with e | e
        · simp [e]
        · rcases List.mem_cons.mp e with e | e
          · have := k x (by simp)
            have : m = x := by omega
            simp [this]
          · exact List.mem_cons_of_mem _ e
    · intro w hw
      rcases List.mem_cons.mp hw with e | e
      · by_cases z : y > x
        · rw [if_pos z] at e; exact k w (by simp [e])
        · rw [if_neg z] at e; exact k w (by simp [e])
      · exact k w (by simp [e])
theorem se_max (C : Cq tb G CA XR k N sc own X W) (h : bltB tb sc "max" = true) (ha : SE CA XR X W a f) (hs : starEach [a] X.env = (false, eval a X.env) :: starEach [] X.env := by rfl) : SE CA XR X W (.Call (.Name "max" p) [a] [] pos) (e1 maxV f) := by
  refine call1 C.toCw h (cr_max C.calm) PyProof.Rows.boot_max (fun σ x m st H v Q S r q => ?_) ha hs
  obtain ⟨ws, ad, us, rfl, h1, r1, z1, q⟩ := itemsL_ok S r q
  cases e : Fl.intsOf ws with
  | none => rw [e] at q; exact q.elim
  | some ns =>
    rw [e] at q
    have := RepVs.toInts (ns := ns) e r1
    subst this
    cases ns with
    | nil => exact q.elim
    | cons y r =>
      refine ⟨ad, y :: r, rfl, .of h1, by simp, fun mx hm hmx => ?_⟩
      have e2 : maxL (y :: r) = some mx := congrArg some (maxL_max hm hmx)
      dsimp only at q
      rw [e2] at q
      exact PR.here S q _ rfl
theorem se_list (C : Cw tb G CA XR k N sc own X W) (cell : Bool) (h : bltB tb sc "list" = true) (ha : SE CA XR X W a f) (hs : starEach [a] X.env = (false, eval a X.env) :: starEach [] X.env := by rfl) : SE CA XR X W (.Call (.Name "list" p) [a] [] pos) (e1 (listV cell) f) := by
  refine callT1 C h call_list_of PyProof.Rows.boot_list (fun σ x m st H v Q S r q => ?_) ha hs
  obtain ⟨ws, ad, us, rfl, h1, r1, z1, q⟩ := items_ok S r q
  exact ⟨ad, us, rfl, h1, newL_ok S r1 z1 q⟩
theorem se_tuple (C : Cw tb G CA XR k N sc own X W) (cell : Bool) (h : bltB tb sc "tuple" = true) (ha : SE CA XR X W a f) (hs : starEach [a] X.env = (false, eval a X.env) :: starEach [] X.env := by rfl) : SE CA XR X W (.Call (.Name "tuple" p) [a] [] pos) (e1 (tupleV cell) f) := by
  refine callT1 C h call_tuple_of PyProof.Rows.boot_tuple (fun σ x m st H v Q S r q => ?_) ha hs
  obtain ⟨ws, ad, us, rfl, h1, r1, z1, q⟩ := itemsL_ok S r q
  exact ⟨ad, us, rfl, .inl ⟨.of h1, newT_ok S r1 z1 q⟩⟩
theorem RepVs.toBls {K : PySem.W.Frag} {m : Mp} {st : Store} {H : Hp} : ∀ {ws : List Val} {bs : List Bool} {vs : List V}, boolsOf ws = some bs → RepVs K m st H ws vs → vs = bs.map V.bl
  | [], ns, vs, h, r => by simp only [boolsOf, Option.some.injEq] at h; subst h; exact r
  | .t (.bl d) :: q, ns, vs, h, ⟨v, vr, e, r1, r2⟩ => by
    simp only [boolsOf] at h
    cases e2 : boolsOf q with
    | none => rw [e2] at h; cases h
    | some tq =>
      rw [e2] at h
      simp only [Option.some.injEq] at h
      subst h
      rw [e, List.map_cons, RepVs.toBls e2 r2, show v = .bl d from r1]
  | .t .non :: q, ns, vs, h, r => by simp [boolsOf] at h
  | .t (.int _) :: q, ns, vs, h, r => by simp [boolsOf] at h
  | .t (.str _) :: q, ns, vs, h, r => by simp [boolsOf] at h
  | .t (.tup _) :: q, ns, vs, h, r => by simp [boolsOf] at h
  | .t (.lst _) :: q, ns, vs, h, r => by simp [boolsOf] at h
  | .t (.dct _) :: q, ns, vs, h, r => by simp [boolsOf] at h
  | .t (.rp _) :: q, ns, vs, h, r => by simp [boolsOf] at h
  | .loc n :: q, ns, vs, h, r => by simp [boolsOf] at h
  | .scr n :: q, ns, vs, h, r => by simp [boolsOf] at h
  | .ex n :: q, ns, vs, h, r => by simp [boolsOf] at h
theorem RepVs.toStrs {K : PySem.W.Frag} {m : Mp} {st : Store} {H : Hp} : ∀ {ws : List Val} {bs : List String} {vs : List V}, strsOf ws = some bs → RepVs K m st H ws vs → vs = (bs.map Str.ofString).map V.str
  | [], ns, vs, h, r => by simp only [strsOf, Option.some.injEq] at h; subst h; exact r
  | .t (.str d) :: q, ns, vs, h, ⟨v, vr, e, r1, r2⟩ => by
    simp only [strsOf] at h
    cases e2 : strsOf q with
    | none => rw [e2] at h; cases h
    | some tq =>
      rw [e2] at h
      simp only [Option.some.injEq] at h
      subst h
      rw [e, List.map_cons, List.map_cons, RepVs.toStrs e2 r2, show v = .str (Str.ofString d) from r1]
  | .t .non :: q, ns, vs, h, r => by simp [strsOf] at h
  | .t (.int _) :: q, ns, vs, h, r => by simp [strsOf] at h
  | .t (.bl _) :: q, ns, vs, h, r => by simp [strsOf] at h
  | .t (.tup _) :: q, ns, vs, h, r => by simp [strsOf] at h
  | .t (.lst _) :: q, ns, vs, h, r => by simp [strsOf] at h
  | .t (.dct _) :: q, ns, vs, h, r => by simp [strsOf] at h
  | .t (.rp _) :: q, ns, vs, h, r => by simp [strsOf] at h
  | .loc n :: q, ns, vs, h, r => by simp [strsOf] at h
  | .scr n :: q, ns, vs, h, r => by simp [strsOf] at h
  | .ex n :: q, ns, vs, h, r => by simp [strsOf] at h
theorem se_any (C : Cq tb G CA XR k N sc own X W) (h : bltB tb sc "any" = true) (ha : SE CA XR X W a f) (hs : starEach [a] X.env = (false, eval a X.env) :: starEach [] X.env := by rfl) : SE CA XR X W (.Call (.Name "any" p) [a] [] pos) (e1 anyV f) := by
  refine call1 C.toCw h (cr_any C.calm) (by decide +kernel) (fun σ x m st H v Q S r q => ?_) ha hs
  obtain ⟨ws, ad, us, rfl, h1, r1, z1, q⟩ := itemsL_ok S r q
  cases e : boolsOf ws with
  | none => rw [e] at q; exact q.elim
  | some ns =>
    rw [e] at q
    have := RepVs.toBls e r1
    subst this
    exact ⟨ad, ns, rfl, .of h1, PR.here S q _ rfl⟩
theorem se_all (C : Cq tb G CA XR k N sc own X W) (h : bltB tb sc "all" = true) (ha : SE CA XR X W a f) (hs : starEach [a] X.env = (false, eval a X.env) :: starEach [] X.env := by rfl) : SE CA XR X W (.Call (.Name "all" p) [a] [] pos) (e1 allV f) := by
  refine call1 C.toCw h (cr_all C.calm) (by decide +kernel) (fun σ x m st H v Q S r q => ?_) ha hs
  obtain ⟨ws, ad, us, rfl, h1, r1, z1, q⟩ := itemsL_ok S r q
  cases e : boolsOf ws with
  | none => rw [e] at q; exact q.elim
  | some ns =>
    rw [e] at q
    have := RepVs.toBls e r1
    subst this
    exact ⟨ad, ns, rfl, .of h1, PR.here S q _ rfl⟩
end
end Fl
set_option Elab.async false
set_option linter.all false
set_option maxRecDepth 100000
set_option maxHeartbeats 2000000
/-! Fl over the layer: isinstance, methods of lists. -/
namespace Fl
open PySem PySem.Spec L2

def isiT (a c : String) : Bool := a == c || (a == "bool" && c == "int")
def dataTys : List String := ["NoneType", "bool", "int", "str", "tuple", "list", "dict"]
theorem kit_tab : ∀ a ∈ dataTys, ∀ c ∈ ["bool", "int", "str", "tuple", "list", "dict"], kitB a c = some (isiT a c) := by decide +kernel
theorem boot_tab : ∀ c ∈ ["bool", "int", "str", "tuple", "list", "dict"], bootBuiltins (Str.ofString c) = some (.type c) := by decide +kernel

section
variable {tb : Tab} {G : FEnv} {CA : Tags} {XR : XRel} {k : Nat} {N : List Str} {sc : Scope} {own : Str → Bool} {X : Cx} {W : WX}
variable {a b c d e : Expr} {es : List Expr} {pos pos' apos cpos p p2 p3 : Pos} {f g h : CE} {t u : CT}

/-- a value's type, its answer -/
theorem isi_facts {m : Mp} {st : Store} {H : Hp} {x : Val} {v : V} (S : SR X.K CA m st H) (r : RepV X.K m st H x v) : (∀ c, isiV c x st = .bad) ∨ ∃ ty, ty ∈ dataTys ∧ TyX X.K H v (.type ty) ∧ ∀ c ∈ ["bool", "int", "str", "tuple", "list", "dict"], isiV c x st = .ok (isiT ty c) st := by
  cases x with
  | ex y => exact .inl fun _ => rfl
  | t d =>
    cases d with
    | non => cases r; exact .inr ⟨"NoneType", by decide, .base .non, fun c hc => congrArg (fun b => R.ok b st) (show false = isiT "NoneType" c by revert c; decide)⟩
    | bl b => cases r; exact .inr ⟨"bool", by decide, .base (.bl b), fun c hc => congrArg (fun b => R.ok b st) (show (c == "bool" || c == "int") = isiT "bool" c by revert c; decide)⟩
    | int b => cases r; exact .inr ⟨"int", by decide, .base (.int b), fun c hc => congrArg (fun b => R.ok b st) (show (c == "int") = isiT "int" c by revert c; decide)⟩
    | str b => cases r; exact .inr ⟨"str", by decide, .base (.str _), fun c hc => congrArg (fun b => R.ok b st) (show (c == "str") = isiT "str" c by revert c; decide)⟩
    | rp b => cases r; exact .inr ⟨"str", by decide, .base (.str _), fun c hc => congrArg (fun b => R.ok b st) (show (c == "str") = isiT "str" c by revert c; decide)⟩
    | tup ts =>
      obtain ⟨a, us, rfl, h, z, rs⟩ := r
      refine .inr ⟨"tuple", by decide, ?_, fun c hc => congrArg (fun b => R.ok b st) (show (c == "tuple") = isiT "tuple" c by revert c; decide)⟩
      rcases h with h | h
      · exact .base (.tup h.1)
      · rcases h (fun _ => none) with z | ⟨o, its, n, hk, hc, _⟩
        · rcases z with z | ⟨_, z⟩ <;> cases z
        · exact .kTuple hk hc
    | lst ts =>
      obtain ⟨a, us, rfl, h, z, rs⟩ := r
      exact .inr ⟨"list", by decide, .base (.lst h.1), fun c hc => congrArg (fun b => R.ok b st) (show (c == "list") = isiT "list" c by revert c; decide)⟩
    | dct ts =>
      obtain ⟨a, us, rfl, h, z, rs⟩ := r
      exact .inr ⟨"dict", by decide, (h.1.elim (fun z => .base (.dK z)) fun ⟨_, z⟩ => .fDict z), fun c hc => congrArg (fun b => R.ok b st) (show (c == "dict") = isiT "dict" c by revert c; decide)⟩
  | scr ns =>
    obtain ⟨zl, a, rfl, h⟩ := r
    refine .inr ⟨"list", by decide, ?_, fun c hc => congrArg (fun b => R.ok b st) (show (c == "list") = isiT "list" c by revert c; decide)⟩
    have key : SqL X.K H a (ns.map V.int) := by
      rcases h with h | h
      · exact h.2.2
      · exact h H
    rcases key with (z | ⟨_, z⟩) | ⟨o, its, n, hk, hc, _⟩
    · exact .base (.lst z)
    · exact .base (.frz z)
    · exact .kList hk hc
  | loc n =>
    obtain ⟨_, rfl⟩ := r
    cases q : st.cell n with
    | none => exact .inl fun c => by simp only [isiV, q]
    | some y =>
      have z := S.cells n y q
      cases y with
      | lst ws =>
        obtain ⟨us, h, z, rs⟩ := z
        exact .inr ⟨"list", by decide, .base (.lst h), fun c hc => by
          simp only [isiV, q]
          exact congrArg (fun b => R.ok b st) (show (c == "list") = isiT "list" c by revert c; decide)⟩
      | tup ws =>
        obtain ⟨us, h, z, rs⟩ := z
        exact .inr ⟨"tuple", by decide, .base (.tup h), fun c hc => by
          simp only [isiV, q]
          exact congrArg (fun b => R.ok b st) (show (c == "tuple") = isiT "tuple" c by revert c; decide)⟩
      | dct ws =>
        obtain ⟨us, h, z, rs⟩ := z
        exact .inr ⟨"dict", by decide, .base (.dK h), fun c hc => by
          simp only [isiV, q]
          exact congrArg (fun b => R.ok b st) (show (c == "dict") = isiT "dict" c by revert c; decide)⟩
      | ins _ _ => exact .inl fun c => by simp only [isiV, q]
      | kd _ => exact .inl fun c => by simp only [isiV, q]
/-- isinstance(x, T), T a built-in type -/
theorem se_isi (C : Cw tb G CA XR k N sc own X W) (ty : String) (h : bltB tb sc "isinstance" = true) (h2 : bltB tb sc (Str.ofString ty) = true) (ht : ty ∈ ["bool", "int", "str", "tuple", "list", "dict"]) (ha : SE CA XR X W a f)
    (hs : starEach [a, .Name (Str.ofString ty) p2] X.env = (false, eval a X.env) :: starEach [.Name (Str.ofString ty) p2] X.env := by rfl) : SE CA XR X W (.Call (.Name "isinstance" p) [a, .Name (Str.ofString ty) p2] [] pos) (eB (tIsi ty f)) := by
  have hb : PE X (.Name (Str.ofString ty) p2) (tC (.ty ty)) := pe_bltn (gl_of C (blt_gl h2)) (blt_mg C h2) (boot_tab ty ht) rfl (gl_nm (blt_gl h2)) (gl_dbg (blt_gl h2))
  refine PE.weak (pe_callB call_isi (gl_of C (blt_gl h)) (blt_mg C h) PyProof.Rows.boot_isinstance (pa_cons ha (pa_cons hb pa_nil rfl) hs) (gl_nm (blt_gl h)) (gl_dbg (blt_gl h)) hs rfl) fun σ H Q ⟨m, st, ρ, S, E, q⟩ => ?_
  refine ⟨m, st, ρ, S, E, (PR.bind_of (PR.bind_of q)).mono fun x m1 st1 H1 S1 T1 h1 v rv => ?_⟩
  rcases isi_facts S1 rv with z | ⟨tn, hm, hty, z⟩
  · have : PR X.K CA XR W σ (isiV ty x st1) m1 st1 H1 _ := h1
    rw [z ty] at this; exact this.elim
  · have h3 : PR X.K CA XR W σ (isiV ty x st1) m1 st1 H1 _ := h1
    rw [z ty ht] at h3
    refine ⟨v, .ty ty, .type tn, .type ty, isiT tn ty, rfl, .ty ty, hty, kit_ty (kit_tab tn hm ty ht), ?_⟩
    exact PR.here S1 (PR.here S1 h3) _ rfl
/-- .. as a test -/
theorem st_of {t : CT} (h : SE CA XR X W e (eB t)) (he : ∀ whole, isTrue e X.env whole = (do let v ← whole; standAt e.pos; holding [v] (truthy v)) := by intro _; rfl) : STt CA XR X W e t :=
  PT.weak (pt_val h he) fun σ H Q ⟨m, st, ρ, S, E, q⟩ => ⟨m, st, ρ, S, E, by
    have key : ∀ r : R Bool, PR X.K CA XR W σ r m st H (fun b m' st' H' => Q b H') → PR X.K CA XR W σ (r.bind fun b => pure (vB b)) m st H fun x m' st' H' => ∀ v, RepV X.K m' st' H' x v → ∃ c, v = .bl c ∧ Q c H' := fun r hr => by
      cases r with
      | ok b s' => exact fun m' H' S' T v rv => ⟨b, rv, hr m' H' S' T⟩
      | exc y s' => exact hr
      | bad => exact hr
    exact key _ q⟩

/-! ### x is True -/
theorem isB_read {σ : L2.St} {H : Hp} {Q : Bool → Hp → Prop} {bb : Bool} (h : tMT X.K CA XR W (tIsB bb f) σ H Q) : tOp rIsB (tM X.K CA XR W f) (tC (.bl bb)) σ H fun z H' => ∃ b, z = .bl b ∧ Q b H' := by
  obtain ⟨m, st, ρ, S, E, q⟩ := h
  refine ⟨m, st, ρ, S, E, (PR.bind_of q).mono fun x m1 st1 H1 S1 T1 h1 v rv => ?_⟩
  unfold isB at h1
  split at h1
  · rename_i cc
    cases rv
    show ∃ a b : Bool, V.bl cc = V.bl a ∧ V.bl bb = V.bl b ∧ ∃ b_1, V.bl (decide (a = b)) = V.bl b_1 ∧ Q b_1 H1
    refine ⟨_, _, rfl, rfl, _, rfl, ?_⟩
    have := PR.here S1 h1
    rw [show decide (cc = bb) = (cc == bb) by cases cc <;> cases bb <;> rfl]
    exact this
  · exact h1.elim

theorem st_isB {bb : Bool} {j : Nat} (ha : SE CA XR X W a f) : STt CA XR X W (.Compare a [.Is] [.Constant (.bool bb) j p2] pos) (tIsB bb f) := PT.weak (pt_cmpR op_isBl ha pe_bl (nomark _)) fun σ H Q q => isB_read q
theorem se_isB {bb : Bool} {j : Nat} (ha : SE CA XR X W a f) : SE CA XR X W (.Compare a [.Is] [.Constant (.bool bb) j p2] pos) (eB (tIsB bb f)) := PE.weak (pe_cmpR op_isBl ha pe_bl (nomark _)) fun σ H Q q => by
  have z := isB_read (tMT_eB q)
  obtain ⟨m, st, ρ, S, E, q1⟩ := z
  exact ⟨m, st, ρ, S, E, q1.mono fun x m1 st1 H1 S1 T1 h1 v rv => by
    obtain ⟨a, b, e1, e2, c, e3, q2⟩ := h1 v rv
    exact ⟨a, b, e1, e2, by rw [e3]; exact q2⟩⟩

/-! ### methods of lists -/
theorem lstC_ok {α : Type} {σ : L2.St} {m : Mp} {st : Store} {H : Hp} {x : Val} {v : V} {k : Unit → M α} {ok : α → Mp → Store → Hp → Prop} (S : SR X.K CA m st H) (r : RepV X.K m st H x v) (q : PR X.K CA XR W σ ((lstC x st).bind k) m st H ok) :
    tyV X.K "list" v H ∧ PR X.K CA XR W σ (k () st) m st H ok := by
  unfold lstC at q
  split at q
  · rename_i n
    obtain ⟨_, rfl⟩ := r
    cases e : st.cell n with
    | none => rw [e] at q; exact q.elim
    | some y =>
      rw [e] at q
      cases y with
      | lst ws =>
        obtain ⟨us, h, z, rs⟩ := S.cells n _ e
        exact ⟨.inl ⟨rfl, us, .of h⟩, q⟩
      | _ => exact q.elim
  · obtain ⟨a, us, rfl, h, z, rs⟩ := r
    exact ⟨.inl ⟨rfl, us, .of h.1⟩, q⟩
  · exact q.elim
theorem dctC_ok {α : Type} {σ : L2.St} {m : Mp} {st : Store} {H : Hp} {x : Val} {v : V} {k : Unit → M α} {ok : α → Mp → Store → Hp → Prop} (S : SR X.K CA m st H) (r : RepV X.K m st H x v) (q : PR X.K CA XR W σ ((dctC x st).bind k) m st H ok) :
    (∃ a us, v = .ref a ∧ Rd H a (.dK us)) ∧ PR X.K CA XR W σ (k () st) m st H ok := by
  unfold dctC at q
  split at q
  · rename_i n
    obtain ⟨_, rfl⟩ := r
    cases e : st.cell n with
    | none => rw [e] at q; exact q.elim
    | some y =>
      rw [e] at q
      cases y with
      | dct ws =>
        obtain ⟨us, h, z, rs⟩ := S.cells n _ e
        exact ⟨⟨_, us, rfl, .inl h⟩, q⟩
      | _ => exact q.elim
  · obtain ⟨a, us, rfl, h, z, rs⟩ := r
    exact ⟨⟨_, us, rfl, h.1⟩, q⟩
  · exact q.elim
/-- o.m(x) of a list -/
theorem lm1 {id : String} {name : Str} {k2 : Val → Val → M Val} {r : V → List V → Hp → VK → Prop} (slot : Slot "list" name id) (hty : typeOf (.builtin id) = pure (.type "method_descriptor")) (hm : MtR X id r)
    (hk : ∀ σ x y m st H v w Q, SR X.K CA m st H → RepV X.K m st H x v → RepV X.K m st H y w → PR X.K CA XR W σ (k2 x y st) m st H (fun a m' st' H' => ∀ u, RepV X.K m' st' H' a u → Q u H') → r v [w] H Q)
    (ha : SE CA XR X W a f) (hb : SE CA XR X W b g) (hbase : attributeBase a name X.env (eval a X.env) = eval a X.env := by rfl)
    (hs : starEach [b] X.env = (false, eval b X.env) :: starEach [] X.env := by rfl) (hline : (apos.endLine == cpos.line) = true := by rfl) :
    SE CA XR X W (.Call (.Attribute a name apos) [b] [] cpos) (e2c lstC k2 f g) := by
  have hfew : ((backTo cpos (starEach [b] X.env)).all (fun x => !x.1) && (backToKw cpos (keywordEach [] X.env)).all (fun x => x.1.isSome)
      && decide (([b] : List Expr).length + ([] : List Keyword).length + (if ([] : List Keyword).isEmpty then 0 else 1) < 30)) = true := by rw [hs] <;> rfl
  refine PE.weak (pe_bm PySem.F.plainAttrs_list slot hty hm ha (pa_cons hb pa_nil hs) hbase hfew hline hs rfl) fun σ H Q ⟨m, st, ρ, S, E, q⟩ => ?_
  refine ⟨m, st, ρ, S, E, (PR.bind_of q).mono fun x m1 st1 H1 S1 T1 h1 v rv => ?_⟩
  obtain ⟨ty, h2⟩ := lstC_ok S1 rv h1
  refine ⟨ty, m1, st1, ρ, S1, E.mono T1, (PR.bind_of h2).mono fun y m2 st2 H2 S2 T2 h3 w rw => ?_⟩
  exact hk σ x y m2 st2 H2 v w Q S2 (RepV.mono T2 x v rv) rw h3
end
end Fl
set_option Elab.async false
set_option linter.all false
set_option maxRecDepth 100000
set_option maxHeartbeats 2000000
/-! Fl over the layer: lists and dicts that change. -/
namespace Fl
open PySem PySem.Spec L2

section
variable {tb : Tab} {G : FEnv} {CA : Tags} {XR : XRel} {k : Nat} {N : List Str} {sc : Scope} {own : Str → Bool} {X : Cx} {W : WX}
variable {a b c d e : Expr} {es : List Expr} {pos pos' apos cpos p p2 p3 : Pos} {f g h : CE} {t u : CT}

/-- a list's cell is written -/
theorem setL_ok {α : Type} {σ : L2.St} {m : Mp} {st : Store} {H : Hp} {n : Nat} {ws ws' : List Val} {us' : List V} {a : α} {ok : α → Mp → Store → Hp → Prop} (S : SR X.K CA m st H) (e : st.cell n = some (.lst ws)) (r : RepVs X.K m st H ws' us') (z : ws'.length ≤ L)
    (q : PR X.K CA XR W σ (.ok a (st.set n (some (.lst ws')))) m st H ok) : ok a m (st.set n (some (.lst ws'))) (upd H (m n) (.lst us')) := by
  have T := S.setStep (o := .lst us') (c' := .lst ws') e
  exact q m _ (S.setCell e ⟨us', upd_same, z, RepVs.mono T _ _ r⟩) T
theorem se_append (ha : SE CA XR X W a f) (hb : SE CA XR X W b g) (hbase : attributeBase a "append" X.env (eval a X.env) = eval a X.env := by rfl)
    (hs : starEach [b] X.env = (false, eval b X.env) :: starEach [] X.env := by rfl) (hline : (apos.endLine == cpos.line) = true := by rfl) : SE CA XR X W (.Call (.Attribute a "append" apos) [b] [] cpos) (e2c lstC appendV f g) := by
  refine lm1 PySem.F.slot_list_append PySem.F.type_list_append mt_append (fun σ x y m st H v w Q S rx ry q => ?_) ha hb hbase hs hline
  unfold appendV at q
  split at q
  · rename_i n
    obtain ⟨_, rfl⟩ := rx
    cases e : st.cell n with
    | none => rw [e] at q; exact q.elim
    | some cc =>
      rw [e] at q
      cases cc with
      | lst ws =>
        dsimp only at q
        split at q
        · rename_i hz
          obtain ⟨us, hh, z, rs⟩ := S.cells n _ e
          refine ⟨m n, us, w, rfl, rfl, hh, by rw [← rs.length]; exact lineLt hz, ?_⟩
          exact setL_ok S e (RepVs.append rs (show RepVs X.K m st H [y] [w] from ⟨w, [], rfl, ry, rfl⟩)) (by rw [List.length_append, List.length_singleton]; omega) q .non rfl
        · exact q.elim
      | _ => exact q.elim
  · exact q.elim
theorem pyIx_seq {n j : Nat} {i : Int} (h : pyIx n i = some j) : seqIndex? i n = some j ∧ (n ≤ L → -(2 ^ 63) ≤ i ∧ i < 2 ^ 63) := by
  unfold pyIx at h
  have hb : n ≤ L → (n : Int) ≤ 16777216 := fun z => by have z2 : n ≤ 16777216 := z; omega
  split at h
  · rename_i h1
    split at h
    · rename_i h2
      cases h
      have e1 : (if i < 0 then i + (n : Int) else i) = i := if_neg (by omega)
      have e2 : (decide (0 ≤ i) && decide (i < (n : Int))) = true := by rw [decide_eq_true h1, decide_eq_true h2]; rfl
      refine ⟨?_, fun z => ?_⟩
      · show (if (decide (0 ≤ (if i < 0 then i + (n : Int) else i)) && decide ((if i < 0 then i + (n : Int) else i) < n)) = true then some (if i < 0 then i + (n : Int) else i).toNat else none) = _
        rw [e1, if_pos e2]
      · have := hb z
        omega
    · cases h
  · rename_i h1
    split at h
    · rename_i h2
      cases h
      have e1 : (if i < 0 then i + (n : Int) else i) = i + n := if_pos (by omega)
      have e2 : (decide (0 ≤ i + (n : Int)) && decide (i + (n : Int) < (n : Int))) = true := by rw [decide_eq_true (show 0 ≤ i + (n : Int) by omega), decide_eq_true (show i + (n : Int) < n by omega)]; rfl
      refine ⟨?_, fun z => ?_⟩
      · show (if (decide (0 ≤ (if i < 0 then i + (n : Int) else i)) && decide ((if i < 0 then i + (n : Int) else i) < n)) = true then some (if i < 0 then i + (n : Int) else i).toNat else none) = _
        rw [e1, if_pos e2]
      · have := hb z
        omega
    · cases h
theorem se_pop (ha : SE CA XR X W a f) (hb : SE CA XR X W b g) (hbase : attributeBase a "pop" X.env (eval a X.env) = eval a X.env := by rfl)
    (hs : starEach [b] X.env = (false, eval b X.env) :: starEach [] X.env := by rfl) (hline : (apos.endLine == cpos.line) = true := by rfl) : SE CA XR X W (.Call (.Attribute a "pop" apos) [b] [] cpos) (e2c lstC popL f g) := by
  refine lm1 PySem.F.slot_list_pop PySem.F.type_list_pop mt_popAt (fun σ x y m st H v w Q S rx ry q => ?_) ha hb hbase hs hline
  unfold popL at q
  split at q
  · rename_i n i
    obtain ⟨_, rfl⟩ := rx
    cases ry
    cases e : st.cell n with
    | none => rw [e] at q; exact q.elim
    | some cc =>
      rw [e] at q
      cases cc with
      | lst ws =>
        dsimp only at q
        cases e1 : pyIx ws.length i with
        | none => rw [e1] at q; exact q.elim
        | some j =>
          rw [e1] at q
          dsimp only at q
          cases e2 : ws[j]? with
          | none => rw [e2] at q; exact q.elim
          | some y =>
            rw [e2] at q
            dsimp only at q
            obtain ⟨us, hh, z, rs⟩ := S.cells n _ e
            obtain ⟨h1, h2⟩ := pyIx_seq e1
            obtain ⟨h3, h4⟩ := h2 z
            obtain ⟨y', e3, ry⟩ := rs.get e2
            refine ⟨m n, us, i, j, y', rfl, rfl, hh, h3, h4, by rw [← rs.length]; exact h1, e3, ?_⟩
            have T := S.setStep (o := .lst (us.eraseIdx j)) (c' := .lst (ws.eraseIdx j)) e
            exact setL_ok S e (rs.eraseIdx j) (Nat.le_trans (len_erase _ _) z) q y' (RepV.mono T _ _ ry)
      | _ => exact q.elim
  · exact q.elim
theorem se_extend (ha : SE CA XR X W a f) (hb : SE CA XR X W b g) (hbase : attributeBase a "extend" X.env (eval a X.env) = eval a X.env := by rfl)
    (hs : starEach [b] X.env = (false, eval b X.env) :: starEach [] X.env := by rfl) (hline : (apos.endLine == cpos.line) = true := by rfl) : SE CA XR X W (.Call (.Attribute a "extend" apos) [b] [] cpos) (e2c lstC extendV f g) := by
  refine lm1 PySem.F.slot_list_extend PySem.F.type_list_extend mt_extend (fun σ x y m st H v w Q S rx ry q => ?_) ha hb hbase hs hline
  unfold extendV at q
  split at q
  · rename_i n
    obtain ⟨_, rfl⟩ := rx
    obtain ⟨vs, ad, us2, rfl, h2, r2, z2, q⟩ := itemsL_ok S ry q
    cases e : st.cell n with
    | none => rw [e] at q; exact q.elim
    | some cc =>
      rw [e] at q
      cases cc with
      | lst ws =>
        dsimp only at q
        split at q
        · rename_i hz
          obtain ⟨us, hh, z, rs⟩ := S.cells n _ e
          refine ⟨m n, ad, us, us2, rfl, rfl, hh, h2, by rw [← rs.length, ← r2.length]; exact lineOf hz, ?_⟩
          exact setL_ok S e (rs.append r2) (by rw [List.length_append]; exact hz) q .non rfl
        · exact q.elim
      | _ => exact q.elim
  · exact q.elim
theorem findT_at : ∀ {ns : List Int} {k : Int} {n r : Nat}, findT (.int k) (ns.map .int) n = some r → ∃ j, r = n + j ∧ ns[j]? = some k ∧ ∀ i z, i < j → ns[i]? = some z → z ≠ k
  | [], k, n, r, h => by simp [findT] at h
  | y :: q, k, n, r, h => by
    rw [List.map_cons, findT] at h
    have e : T.eqv (.int y) (.int k) = (y == k) := by rw [T.eqv]
    rw [e] at h
    by_cases hy : y = k
    · rw [if_pos (beq_iff_eq.mpr hy)] at h
      cases h
      exact ⟨0, rfl, by simp [hy], fun i z hi => absurd hi (Nat.not_lt_zero _)⟩
    · rw [if_neg (by simpa using hy)] at h
      obtain ⟨j, h1, h2, h3⟩ := findT_at h
      refine ⟨j + 1, by omega, by simpa using h2, fun i z hi hz => ?_⟩
      cases i with
      | zero => simp at hz; rw [← hz]; exact hy
      | succ i => exact h3 i z (by omega) (by simpa using hz)
theorem se_index (ha : SE CA XR X W a f) (hb : SE CA XR X W b g) (hbase : attributeBase a "index" X.env (eval a X.env) = eval a X.env := by rfl)
    (hs : starEach [b] X.env = (false, eval b X.env) :: starEach [] X.env := by rfl) (hline : (apos.endLine == cpos.line) = true := by rfl) : SE CA XR X W (.Call (.Attribute a "index" apos) [b] [] cpos) (e2c lstC indexV f g) := by
  refine lm1 PySem.F.slot_list_index PySem.F.type_list_index mt_index (fun σ x y m st H v w Q S rx ry q => ?_) ha hb hbase hs hline
  obtain ⟨vs, ad, us, rfl, h2, r2, z2, q⟩ := itemsL_ok S rx q
  cases e : Fl.intsOf vs with
  | none => rw [e] at q; exact q.elim
  | some ns =>
    rw [e] at q
    have := RepVs.toInts (ns := ns) e r2
    subst this
    split at q
    · rename_i ns' kk e1 e2
      cases e1
      cases ry
      cases e3 : findT (.int kk) (ns.map .int) 0 with
      | none => rw [e3] at q; exact q.elim
      | some j =>
        rw [e3] at q
        obtain ⟨j', h1, h4, h5⟩ := findT_at e3
        have hj : j = j' := by omega
        subst hj
        refine ⟨ad, ns.map V.int, .int kk, j, .int kk, rfl, rfl, .of h2, rfl, List.all_eq_true.mpr fun y hy => ?_, by rw [List.getElem?_map, h4]; rfl, ?_, fun i z hi hz => ?_, PR.here S q _ rfl⟩
        · obtain ⟨z, _, rfl⟩ := List.mem_map.mp hy; rfl
        · show L2.eqV (.int kk) (.int kk) = true
          simp [L2.eqV]
        · rw [List.getElem?_map] at hz
          cases e5 : ns[i]? with
          | none => rw [e5] at hz; cases hz
          | some zz =>
            rw [e5] at hz
            cases hz
            have := h5 i zz hi e5
            show L2.eqV (.int zz) (.int kk) = false
            simp [L2.eqV, this]
    · exact q.elim
end
end Fl
set_option Elab.async false
set_option linter.all false
set_option maxRecDepth 100000
set_option maxHeartbeats 2000000
/-! Fl over the layer: calls of the text's defs. -/
namespace Fl
open PySem PySem.Spec L2

theorem TracedZ.one {h B B' : Heap} {a : Addr} {Z Z' : Obj → Prop} {fl fl' : Value} (x : HandSPX.TracedZ h B a Z fl) (y : HandSPX.TracedZ h B' a Z' fl') : fl = fl' := by
  obtain ⟨oe, vs, T, oT, ts, e1, _, e2, e3, _, _, e4, e5, e6⟩ := x
  obtain ⟨oe', vs', T', oT', ts', f1, _, f2, f3, _, _, f4, f5, f6⟩ := y
  have h1 : oe = oe' := Option.some.inj (e1.symm.trans f1)
  subst h1
  have h2 : vs = vs' := by
    have := e2.symm.trans f2
    injection this
  subst h2
  have h3 : T = T' := by
    have := Option.some.inj (e3.symm.trans f3)
    injection this
  subst h3
  have h4 : oT = oT' := Option.some.inj (e4.symm.trans f4)
  subst h4
  have h5 : ts = ts' := by
    have := e5.symm.trans f5
    injection this
  subst h5
  exact Option.some.inj (e6.symm.trans f6)
theorem TracedZ.noted {h B : Heap} {a : Addr} {Z : Obj → Prop} {fl : Value} {oe : Obj} {vs : Array Value} (x : HandSPX.TracedZ h B a Z fl) (e : h.get? a = some oe) (d : oe.data = .fields vs) : vs[1]? ≠ some .none := fun z => by
  obtain ⟨oe', vs', T, oT, ts, f1, _, f2, f3, _⟩ := x
  have h1 : oe = oe' := Option.some.inj (e.symm.trans f1)
  subst h1
  have h2 : vs = vs' := by
    have := d.symm.trans f2
    injection this
  subst h2
  have := Option.some.inj (z.symm.trans f3)
  injection this

section
variable {tb : Tab} {G : FEnv} {CA : Tags} {XR : XRel} {k : Nat} {N : List Str} {sc : Scope} {own : Str → Bool} {X : Cx} {W : WX}
variable {a b c d e : Expr} {es : List Expr} {pos pos' apos cpos p p2 p3 : Pos} {f g h : CE} {t u : CT}

/-- what a call lets out is in the air, whichever frame we stand in -/
theorem air_call {pins : List (Addr × Obj)} {σ : L2.St} {H : Hp} {s s' : Shared} {u : Value} {F : Addr} (I : Inv X pins σ H s) (c : L2.CX X.prog X.w X.stack H s (fun c d H' => W c d σ H') u s') : XEL X F W u s' := by
  have c2 := c
  obtain ⟨a0, B0, H0, cls0, d0, e0, fl0, _⟩ := c2
  obtain ⟨a1, B, sI, pins', σ', H', cls, dd, e1, J, nb, up, sky, na, os, ag, w⟩ := XE.of_call (W := W) I (fun _ _ _ z => z) c
  subst e1
  obtain rfl : a1 = a0 := Value.ref.inj e0
  refine ⟨a1, B, sI, pins', σ', H', cls, dd, ⟨rfl, w⟩, J, ⟨?_, na⟩, nb, up, os, ag⟩
  rcases sky with z | z | z
  · exact .inl z
  · exact .inr (.inl z)
  · have q := TracedZ.one fl0.2.2.2 z.2.2.2
    exact absurd q (by simp [rawInt])
theorem PR.flat {α : Type} {K : PySem.W.Frag} {σ : L2.St} {r : R α} {m : Mp} {st : Store} {H : Hp} {ok : α → Mp → Store → Hp → Prop} (h : PR K CA XR W σ r m st H ok) : PR K CA XR (fun c d _ H' => W c d σ H') [] r m st H ok := by
  cases r with
  | ok a s' => exact h
  | exc x s' => exact h
  | bad => exact h

/-- the callee runs -/
theorem run1 {fa : Addr} {fd : FuncData} {ps : List Str} {sp : Sp} {pins : List (Addr × Obj)} {σ : L2.St} {H : Hp} {s : Shared} {Q : VK} {us : List Value} {vs : List V} (C : Cq tb G CA XR k N sc own X W)
    (F : FnOk1 X.prog X.w X.K X.mg X.base k fa fd ps sp) (hb : Binds X.K fd ps []) (I : Inv X pins σ H s) (r : Vals vs us) (q : sp vs H Q fun c d H' => W c d σ H') :
    wpAny (model X.prog X.w) X.A (call (.ref fa) us) (EP X pins σ Q) X.xe s := by
  have hl : us.length = ps.length := r.length.symm.trans (F.len _ _ _ _ q)
  have bd : BindsTo s fd ⟨us, []⟩ (ps.zip us) := by
    have z := hb s us I.kIn (by rw [List.append_nil]; exact hl)
    rw [List.append_nil] at z
    exact z
  obtain ⟨A0, hA, _, tk⟩ := C.takes
  refine wpAny_call (codeAny_mono (F.run X.A X.stack s H ⟨us, []⟩ us vs Q _ C.room I.env0 bd r q) fun rr s' hq => ?_)
  cases rr with
  | ok fl =>
    cases fl with
    | ret u => exact I.after hq
    | next => exact (show False from hq).elim
    | brk => exact (show False from hq).elim
    | cont => exact (show False from hq).elim
  | error e => exact tk e s' (air_call I hq)

theorem spOf_of {K : PySem.W.Frag} {σ : L2.St} {F : List Val → M Val} {n : Nat} {as : List Val} {vs : List V} {m : Mp} {st : Store} {H : Hp} {Q : VK} (S : SR K CA m st H) (r : RepVs K m st H as vs) (hn : as.length = n)
    (q : PR K CA XR W σ (F as st) m st H fun a m' st' H' => ∀ v, RepV K m' st' H' a v → Q v H') : spOf K CA XR F n vs H Q fun c d H' => W c d σ H' :=
  ⟨by rw [← r.length]; exact hn, m, st, as, S, r, q.flat⟩

theorem se_call (C : Cq tb G CA XR k N sc own X W) {x : Str} (i n : Nat) {fs : List CE} (hg : glbB sc x = true) (hm : (x, i, n) ∈ tb.fns) (hn : fs.length = n) (ha : SA CA XR X W (a :: es) (eVals fs))
    (he : starEach (a :: es) X.env = (false, eval a X.env) :: starEach es X.env := by rfl) (hpl : (backTo pos (starEach es X.env)).any (·.1) = false := by rfl) :
    SE CA XR X W (.Call (.Name x p) (a :: es) [] pos) (eCall G i fs) := by
  obtain ⟨fa, fd, ps, h1, h2, h3, h4⟩ := C.glob.fns x i n hm
  refine ⟨fun pins s σ H Q I ⟨m, st, ρ, S, E, q⟩ => ?_⟩
  refine wpAny_Call_Name_kw (ld_glob I (gl_of C.toCw hg) h1 ?_ (gl_dbg hg))
  refine PySem.W.callWith_K (h₀ := X.base) I.ok.mod.kin h2 (thn (ha.run pos pins s σ H (fun vs H1 => spOf X.K CA XR (G i) n vs H1 Q fun c d H' => W c d σ H') I ⟨m, st, ρ, S, E, (PR.bind_of q).lenOf.mono fun ws m1 st1 H1 S1 T1 h1 vs rs => spOf_of S1 rs (h1.1.trans hn) h1.2⟩) fun us s1 ⟨vs, H1, I1, rv, q1⟩ => ⟨I1.kIn, ?_⟩) he hpl
  exact run1 C h4 h3 I1 rv q1
theorem se_call0 (C : Cq tb G CA XR k N sc own X W) {x : Str} (i : Nat) (hg : glbB sc x = true) (hm : (x, i, 0) ∈ tb.fns) : SE CA XR X W (.Call (.Name x p) [] [] pos) (eCall G i []) := by
  obtain ⟨fa, fd, ps, h1, h2, h3, h4⟩ := C.glob.fns x i 0 hm
  refine ⟨fun pins s σ H Q I ⟨m, st, ρ, S, E, q⟩ => ?_⟩
  refine wpAny_Call_Name_kw (ld_glob I (gl_of C.toCw hg) h1 ?_ (gl_dbg hg))
  refine PySem.W.callWith_K0 I.kIn h2 (run1 (us := []) (vs := []) C h4 h3 I .nil ?_)
  exact spOf_of (as := []) S rfl rfl q
end
end Fl
set_option Elab.async false
set_option linter.all false
set_option maxRecDepth 100000
set_option maxHeartbeats 2000000
/-! Fl over the layer: statements, defs. -/
namespace Fl
open PySem PySem.Spec L2
open PyProof.Rows (envOfC)

/-- what a statement's end means -/
def PO (K : PySem.W.Frag) (CA : Tags) (XR : XRel) (W : WX) (D : Ends) (m : Mp) (st : Store) (H : Hp) : SO → Prop
  | .nx ρ s' => ∀ m' H' σ', SR K CA m' s' H' → Step m st H m' s' H' → ER K m' s' H' ρ σ' → D.nx σ' H'
  | .bk ρ s' => ∀ m' H' σ', SR K CA m' s' H' → Step m st H m' s' H' → ER K m' s' H' ρ σ' → D.bk σ' H'
  | .ct ρ s' => ∀ m' H' σ', SR K CA m' s' H' → Step m st H m' s' H' → ER K m' s' H' ρ σ' → D.ct σ' H'
  | .rt v s' => ∀ m' H' u, SR K CA m' s' H' → Step m st H m' s' H' → RepV K m' s' H' v u → D.rt u H'
  | .ex x ρ s' => ∀ m' H' σ' cls d, SR K CA m' s' H' → Step m st H m' s' H' → ER K m' s' H' ρ σ' → XR x cls d H' → W cls d σ' H'
  | .bad => False
def tS (K : PySem.W.Frag) (CA : Tags) (XR : XRel) (W : WX) (f : SM) : TS := fun D σ H => ∃ m st ρ, SR K CA m st H ∧ ER K m st H ρ σ ∧ PO K CA XR W D m st H (f ρ st)
section
variable {K : PySem.W.Frag} {CA : Tags} {XR : XRel} {W : WX} {D D' : Ends} {m m1 : Mp} {st st1 : Store} {H H1 : Hp} {o : SO} {σ : L2.St} {ρ : Env}
theorem PO.step (h : PO K CA XR W D m st H o) (s : Step m st H m1 st1 H1) : PO K CA XR W D m1 st1 H1 o := by
  cases o with
  | nx ρ s' => exact fun m' H' σ' S T => h m' H' σ' S (s.trans T)
  | bk ρ s' => exact fun m' H' σ' S T => h m' H' σ' S (s.trans T)
  | ct ρ s' => exact fun m' H' σ' S T => h m' H' σ' S (s.trans T)
  | rt v s' => exact fun m' H' u S T => h m' H' u S (s.trans T)
  | ex x ρ s' => exact fun m' H' σ' c d S T => h m' H' σ' c d S (s.trans T)
  | bad => exact h
/-- an expression, then the rest -/
theorem PO.expr {α : Type} {r : R α} {k : α → Store → SO} (E : ER K m st H ρ σ) (h : PO K CA XR W D m st H (r.so ρ k)) : PR K CA XR W σ r m st H fun a m1 st1 H1 => PO K CA XR W D m1 st1 H1 (k a st1) := by
  cases r with
  | ok a s' => exact fun m' H' S T => PO.step h T
  | exc x s' => exact fun m' H' c d S T xr => h m' H' σ c d S T (E.mono T) xr
  | bad => exact h
end

/-! ### names told -/
theorem ER.set {K : PySem.W.Frag} {m : Mp} {st : Store} {H : Hp} {ρ : Env} {σ : L2.St} {w : Val} {v : V} (E : ER K m st H ρ σ) (r : RepV K m st H w v) (i : Nat) : ER K m st H (ρ.set i (some w)) (σ.set i (some v)) := by
  refine ⟨by rw [List.length_set, List.length_set]; exact E.1, fun j x e => ?_⟩
  by_cases h : i = j
  · subst h
    by_cases hl : i < ρ.length
    · rw [List.getElem?_set_self hl] at e
      cases e
      exact ⟨v, by rw [List.getElem?_set_self (by rw [← E.1]; exact hl)], r⟩
    · rw [List.getElem?_eq_none (by rw [List.length_set]; omega)] at e; cases e
  · rw [List.getElem?_set_ne h] at e
    obtain ⟨u, e1, r1⟩ := E.2 j x e
    exact ⟨u, by rw [List.getElem?_set_ne h]; exact e1, r1⟩
theorem ER.drop {K : PySem.W.Frag} {m : Mp} {st : Store} {H : Hp} {ρ : Env} {σ : L2.St} (E : ER K m st H ρ σ) (i : Nat) : ER K m st H (ρ.set i none) (σ.set i none) := by
  refine ⟨by rw [List.length_set, List.length_set]; exact E.1, fun j x e => ?_⟩
  by_cases h : i = j
  · subst h
    by_cases hl : i < ρ.length
    · rw [List.getElem?_set_self hl] at e; cases e
    · rw [List.getElem?_eq_none (by rw [List.length_set]; omega)] at e; cases e
  · rw [List.getElem?_set_ne h] at e
    obtain ⟨u, e1, r1⟩ := E.2 j x e
    exact ⟨u, by rw [List.getElem?_set_ne h]; exact e1, r1⟩

/-! ### a def's end: what it let go is forgotten -/
section
variable {K : PySem.W.Frag} {CA : Tags} {XR : XRel} {m m' : Mp} {st st' : Store} {H H' : Hp} {n : Nat}
theorem cell_take {s : Store} {n k : Nat} {c : Cell} (h : Store.cell (s.take n) k = some c) : s.cell k = some c ∧ k < n := by
  unfold Store.cell at *
  rw [List.getElem?_take] at h
  split at h
  · exact ⟨h, by assumption⟩
  · cases h
theorem live_take {a : Addr} (h : live m (st.take n) a) : live m st a := by
  obtain ⟨k, c, e, z⟩ := h
  exact ⟨k, c, (cell_take e).1, z⟩
theorem RepV.trim (hn : n ≤ st.length) : ∀ {w : Val} {v : V}, w.below n = true → RepV K m st H w v → RepV K m (st.take n) H w v
  | .t d, v, _, h => Rep.mono (fun _ _ h _ => .inl h) (fun a l => .inl (live_take l)) d v h
  | .loc k, v, b, h => by
    have b' : k < n := by simpa [Val.below] using b
    exact ⟨by rw [List.length_take]; omega, h.2⟩
  | .scr _, _, b, _ => by simp [Val.below] at b
  | .ex _, _, b, _ => by simp [Val.below] at b
theorem RepVs.trim (hn : n ≤ st.length) : ∀ {w : List Val} {v : List V}, (w.all fun x => x.below n) = true → RepVs K m st H w v → RepVs K m (st.take n) H w v
  | [], _, _, h => h
  | x :: r, _, b, ⟨v, q, e, h1, h2⟩ => by
    rw [List.all_cons, Bool.and_eq_true] at b
    exact ⟨v, q, e, RepV.trim hn b.1 h1, RepVs.trim hn b.2 h2⟩
theorem RepVK.trim (hn : n ≤ st.length) : ∀ {w : List (Key × Val)} {v : List (L2.Key × V)}, (w.all fun x => x.2.below n) = true → RepVK K m st H w v → RepVK K m (st.take n) H w v
  | [], _, _, h => h
  | x :: r, _, b, ⟨v, q, e, h1, h2⟩ => by
    rw [List.all_cons, Bool.and_eq_true] at b
    exact ⟨v, q, e, ⟨h1.1, RepV.trim hn b.1 h1.2⟩, RepVK.trim hn b.2 h2⟩
theorem RepF.trim (hn : n ≤ st.length) : ∀ {w : List (String × Val)} {v : List (Str × V)}, (w.all fun x => x.2.below n) = true → RepF K m st H w v → RepF K m (st.take n) H w v
  | [], _, _, h => h
  | x :: r, _, b, ⟨v, q, e, h1, h2⟩ => by
    rw [List.all_cons, Bool.and_eq_true] at b
    exact ⟨v, q, e, ⟨h1.1, RepV.trim hn b.1 h1.2⟩, RepF.trim hn b.2 h2⟩
theorem CellOk.trim (hn : n ≤ st.length) {a : Addr} : ∀ {c : Cell}, c.below n = true → CellOk K CA m st H a c → CellOk K CA m (st.take n) H a c
  | .lst _, b, ⟨us, h, z, r⟩ => ⟨us, h, z, RepVs.trim hn b r⟩
  | .tup _, b, ⟨us, h, z, r⟩ => ⟨us, h, z, RepVs.trim hn b r⟩
  | .dct _, b, ⟨us, h, z, r⟩ => ⟨us, h, z, RepVK.trim hn b r⟩
  | .ins _ _, b, ⟨C, dx, us, ca, h, r⟩ => ⟨C, dx, us, ca, h, RepF.trim hn b r⟩
  | .kd _, _, h => h.elim
/-- the end of a def, back in its caller -/
theorem trim_ok (S : SR K CA m' st' H') (T : Step m st H m' st' H') : SR K CA m' (trim st.length st') H' ∧ Step m st H m' (trim st.length st') H' ∧
    ∀ {w : Val} {v : V}, w.below st.length = true → RepV K m' st' H' w v → RepV K m' (trim st.length st') H' w v := by
  unfold Fl.trim
  by_cases hb : Store.below st.length (st'.take st.length) = true
  · rw [if_pos hb]
    refine ⟨⟨fun k c e => ?_, fun k k' c c' e e' q => S.inj k k' c c' (cell_take e).1 (cell_take e').1 q⟩, ⟨T.keep, fun a l => T.lv a (live_take l), T.ag, by rw [List.length_take]; have := T.len; omega⟩, fun {w v} b r => RepV.trim T.len b r⟩
    have z := (cell_take e)
    refine CellOk.trim T.len ?_ (S.cells k c z.1)
    have hm : some c ∈ st'.take st.length := by
      unfold Store.cell at e
      cases q : (List.take st.length st')[k]? with
      | none => rw [q] at e; cases e
      | some x =>
        rw [q] at e
        have : x = some c := by simpa using e
        rw [this] at q
        exact List.mem_of_getElem? q
    exact List.all_eq_true.mp hb _ hm
  · rw [if_neg hb]
    exact ⟨S, T, fun _ r => r⟩
end

/-- the entry's names -/
theorem ER.start {K : PySem.W.Frag} {m : Mp} {st : Store} {H : Hp} {N : List Str} {as : List Val} {vs : List V} (r : RepVs K m st H as vs) (hn : as.length ≤ N.length) : ER K m st H (start N.length as) (L2.start N vs) := by
  have hl := r.length
  refine ⟨?_, fun i w e => ?_⟩
  · unfold Fl.start L2.start
    rw [List.length_append, List.length_append, List.length_map, List.length_map, List.length_replicate, List.length_replicate, hl]
  · unfold Fl.start at e
    by_cases hi : i < as.length
    · rw [List.getElem?_append_left (by rw [List.length_map]; exact hi), List.getElem?_map] at e
      cases q : as[i]? with
      | none => rw [q] at e; cases e
      | some x =>
        rw [q] at e
        cases e
        obtain ⟨v, e1, r1⟩ := r.get q
        refine ⟨v, ?_, r1⟩
        unfold L2.start
        rw [List.getElem?_append_left (by rw [List.length_map]; omega), List.getElem?_map, e1]
        rfl
    · rw [List.getElem?_append_right (by rw [List.length_map]; omega), List.getElem?_replicate] at e
      split at e <;> cases e

/-- the place of a statement -/
structure Cs (tb : Tab) (G : FEnv) (CA : Tags) (XR : XRel) (k : Nat) (N : List Str) (sc : Scope) (X : Cx) (W : WX) : Prop where
  q : Cq tb G CA XR k N sc (fun _ => true) X W
  hs : X.stack = X.env :: X.outer
  hf : X.env.frame = some X.env.locals
  hp : PassesOwn (model X.prog X.w) X.A X.env X.xe
  tk : Takes X W
  kind : sc.kind = .function
abbrev SS (CA : Tags) (XR : XRel) (X : Cx) (W : WX) (b : List Stmt) (f : SM) : Prop := PSs X b (tS X.K CA XR W f)
abbrev S1 (CA : Tags) (XR : XRel) (X : Cx) (W : WX) (b : Stmt) (f : SM) : Prop := PS X b (tS X.K CA XR W f)

section
variable {P : Program} {w : World} {K : PySem.W.Frag} {mg : Str → Option Value} {base : Heap} {k : Nat} {fa : Addr} {name qual : Str} {params : Arguments} {body : List Stmt} {scope : Scope} {dV kV doc pm cdv ct oc : Value} {an od : Option Addr}
  {osl : Array (Option Value)} {N ps : List Str} {tb : Tab} {G : FEnv} {CA : Tags} {XR : XRel} {sm : SM}
/-- a def by its mirror -/
theorem fn1 (lk : K.lookup fa = some ⟨oc, od, .func (PySem.W.fnOf name qual params body scope dV kV doc pm an cdv ct), osl⟩) (hcd : PySem.W.codeIn K cdv qual = true) (S : FnScope N ps scope)
    (gl : GlobOk tb G CA XR P w K mg base k) (hb : ∀ X W, Cs tb G CA XR k N scope X W → SS CA XR X W body sm) :
    FnOk1 P w K mg base (k + 1) fa (PySem.W.fnOf name qual params body scope dV kV doc pm an cdv ct) ps (spOf K CA XR (mkFn N.length ps.length sm) ps.length) := by
  refine ⟨fun vs H Q E h => h.1, fun A outer s H args us vs Q E hr e0 hbd r hsp => ?_⟩
  obtain ⟨hl, m, st, as, SR0, rs, q⟩ := hsp
  have KX : K.In s.heap := e0.mod.kin.keeps fun b o e => (e0.bs b o e).1
  have kinds : ∀ y ∈ ps.zip us, scope.names.lookup y.1 = some .local ∨ (scope.names.lookup y.1 = some .cell ∧ ((cellsFrom (s.heap.objs.size + 1) scope.names []).lookup y.1).isSome = true) := by
    rintro ⟨n, v⟩ hy
    rcases S.par n (List.of_mem_zip hy).1 with z | z
    · exact .inl z
    · exact .inr ⟨z, PySem.W.cellsFrom_some _ _ _ (.inl z)⟩
  have hdep : A.depth < recursionLimit := by have := hr.dp; omega
  refine codeAny_call_function hdep (KX _ _ lk) rfl S.co S.gen rfl (PySem.W.codeRec_of KX hcd) (hbd _ _ _ _ ?_)
  refine wpAny_newFunctionEnv_cells S.kind kinds fun env he s1 x => ?_
  subst he
  refine ⟨(e0.mod.nolimit.keeps fun b o e => (e0.bs b o e).1).keeps x.toInCall.keep, codeAny_func ?_⟩
  generalize hX : cxOf (L2.CX P w) P w K mg base N qual scope fa cdv A outer s H E = X
  have I : Inv X [] (L2.start N vs) H s1 := by
    rw [← hX]
    exact inv_start S hr.hd e0 hl r x
  have hE : X.env = envOfC qual scope s.heap.objs.size fa cdv := by rw [← hX]; rfl
  have hst : X.stack = X.env :: X.outer := by rw [← hX]; rfl
  have hfr : X.env.frame = some X.env.locals := by rw [← hX]; rfl
  have hxe : X.xe = fun e s' => wpAny (model X.prog X.w) X.A (leaving X.env e) (fun _ s'' => L2.CX X.prog X.w X.outer X.H_0 X.s_0 E e s'') (fun e' s'' => L2.CX X.prog X.w X.outer X.H_0 X.s_0 E e' s'') s' := by rw [← hX]; rfl
  have tk : Takes X fun cls d _ H => E cls d H := takes_of hst hfr (by rw [← hX]; rfl) hxe
  have C : Cs tb G CA XR k N scope X fun cls d _ H => E cls d H := by
    have room : Room1 k X.A := by rw [← hX]; exact hr.deeper (fun _ => envOfC qual scope s.heap.objs.size fa cdv) _
    refine ⟨⟨⟨by rw [← hX]; rfl, S.nd, by rw [← hX]; rfl, by rw [← hX]; rfl, by have := room.un; omega, by rw [← hX]; exact gl⟩, by rw [← hX]; rfl, ⟨_, hfr, ⟨_, _, hst, hfr⟩, ?_⟩, room⟩, hst, hfr, passes_of hxe, tk, S.kind⟩
    rintro u s' ⟨a, B, sI, pins, σ, H', cls, d, ⟨h1, h2⟩, h3, ⟨h4, h5⟩, h6, h7, h8, h9⟩
    exact tk u s' ⟨a, B, sI, pins, σ, H', cls, d, h1, h3, h6, h7, h4, h5, h8, h9, h2⟩
  have hnp : ps.length ≤ N.length := by have z := congrArg List.length S.pre; rw [List.length_take] at z; omega
  have hal : as.length = ps.length := rs.length.trans hl
  have hK : X.K = K := by rw [← hX] <;> rfl
  have pre : tS X.K CA XR (fun cls d _ H => E cls d H) sm { nx := fun _ H' => Q .non H', rt := Q } (L2.start N vs) H := by
    rw [hK]
    refine ⟨m, st, start N.length as, SR0, ER.start rs (by omega), ?_⟩
    have q' : PR K CA XR (fun c d _ H' => E c d H') [] (mkFn N.length ps.length sm as st) m st H fun a m' st' H' => ∀ v, RepV K m' st' H' a v → Q v H' := q
    unfold mkFn at q'
    rw [if_pos hal] at q'
    cases e : sm (start N.length as) st with
    | nx ρ s' =>
      rw [e] at q'
      intro m' H' σ' S' T _
      obtain ⟨t1, t2, _⟩ := trim_ok S' T
      exact q' m' H' t1 t2 .non rfl
    | rt v s' =>
      rw [e] at q'
      dsimp only at q'
      intro m' H' u S' T ru
      split at q'
      · rename_i hbl
        obtain ⟨t1, t2, t3⟩ := trim_ok S' T
        exact q' m' H' t1 t2 u (t3 hbl ru)
      · split at q'
        · exact q' m' H' S' T u ru
        · exact (show False from q').elim
    | ex x ρ s' =>
      rw [e] at q'
      intro m' H' σ' cls d S' T _ xr
      obtain ⟨t1, t2, _⟩ := trim_ok S' T
      exact q' m' H' cls d t1 t2 xr
    | bk ρ s' => rw [e] at q'; exact (show False from q').elim
    | ct ρ s' => rw [e] at q'; exact (show False from q').elim
    | bad => rw [e] at q'; exact (show False from q').elim
  have run := (hb X _ C).run [] s1 (L2.start N vs) H _ I pre
  have fin : ∀ {σ' : L2.St} {H' : Hp} {v : V} {u : Value} {s' : Shared}, Inv X [] σ' H' s' → RelV v u → Q v H' → L2.CE outer P w H s Q u s' := by
    intro σ' H' v u s' J rv qv
    rw [← hX] at J
    exact ⟨v, H', J.os, J.bare, J.base, J.hok, rv, qv⟩
  rw [← hX] at run
  refine wpAny_mono run (fun fl s' hs => ?_) fun e s' hs => hs
  rw [hX] at hs
  cases fl with
  | next =>
    obtain ⟨σ', H', J, qv⟩ := hs
    exact fin (v := V.non) (u := Value.none) J rfl qv
  | ret u =>
    obtain ⟨v, σ', H', J, rv, qv⟩ := hs
    exact fin J rv qv
  | brk => obtain ⟨_, _, _, z⟩ := hs; exact (show False from z).elim
  | cont => obtain ⟨_, _, _, z⟩ := hs; exact (show False from z).elim
end
end Fl
set_option Elab.async false
set_option linter.all false
set_option maxRecDepth 100000
set_option maxHeartbeats 2000000
/-! Fl over the layer: what is walked; targets. -/
namespace Fl
open PySem PySem.Spec L2

/-- vs is what J gives, whatever is done meanwhile -/
structure Wk (K : PySem.W.Frag) (CA : Tags) (J : It) (vs : List Val) (m : Mp) (st : Store) (H : Hp) : Prop where
  go : ∀ i w, vs[i]? = some w → ∀ m' st' H', SR K CA m' st' H' → Step m st H m' st' H' → J.go i H' ∧ ∀ x H2, J.yld i H' x H2 → SR K CA m' st' H2 ∧ Step m' st' H' m' st' H2 ∧ RepV K m' st' H2 w x
  stop : ∀ i m' st' H', vs.length ≤ i → SR K CA m' st' H' → Step m st H m' st' H' → J.stop i H'
def tI (K : PySem.W.Frag) (CA : Tags) (XR : XRel) (W : WX) (f : CI) : TI := fun σ H R => ∃ m st ρ, SR K CA m st H ∧ ER K m st H ρ σ ∧
  PR K CA XR W σ (f ρ st) m st H fun vs m1 st1 H1 => ∀ J, Wk K CA J vs m1 st1 H1 → R J H1
abbrev SI (CA : Tags) (XR : XRel) (X : Cx) (W : WX) (tg it : Expr) (f : CI) : Prop := PI X tg it (tI X.K CA XR W f)
/-- .. no longer than a list may be -/
def tIL (K : PySem.W.Frag) (CA : Tags) (XR : XRel) (W : WX) (f : CI) : TI := fun σ H R => ∃ m st ρ, SR K CA m st H ∧ ER K m st H ρ σ ∧
  PR K CA XR W σ (f ρ st) m st H fun vs m1 st1 H1 => ∀ J, Wk K CA J vs m1 st1 H1 → vs.length ≤ L → R J H1
abbrev SIL (CA : Tags) (XR : XRel) (X : Cx) (W : WX) (tg it : Expr) (f : CI) : Prop := PI X tg it (tIL X.K CA XR W f)
def tG (K : PySem.W.Frag) (CA : Tags) (XR : XRel) (W : WX) (g : CG) : TG := fun v σ H Q => ∃ m st ρ w, SR K CA m st H ∧ ER K m st H ρ σ ∧ RepV K m st H w v ∧
  PR K CA XR W σ (g w ρ st) m st H fun ρ' m' st' H' => ∀ σ', ER K m' st' H' ρ' σ' → Q σ' H'
abbrev SG (CA : Tags) (XR : XRel) (X : Cx) (W : WX) (tg : Expr) (g : CG) : Prop := PG X tg (tG X.K CA XR W g)
theorem PG.weak {X : Cx} {tg : Expr} {t t' : TG} (h : PG X tg t) (k : ∀ v σ H Q, t' v σ H Q → t v σ H Q) : PG X tg t' := ⟨fun pins s σ H v u Q I r q => h.run pins s σ H v u Q I r (k v σ H Q q)⟩
theorem PI.weak {X : Cx} {tg it : Expr} {t t' : TI} (h : PI X tg it t) (k : ∀ σ H R, t' σ H R → t σ H R) : PI X tg it t' := ⟨fun pins s σ H R I q => h.run pins s σ H R I (k σ H R q)⟩

theorem si_of {X : Cx} {CA : Tags} {XR : XRel} {W : WX} {tg it : Expr} {f : CI} (h : SIL CA XR X W tg it f) : SI CA XR X W tg it f := PI.weak h fun σ H R ⟨m, st, ρ, S, E, q⟩ => ⟨m, st, ρ, S, E, by
  cases e : f ρ st with
  | ok a s' => rw [e] at q; exact fun m' H' S' T J wk _ => q m' H' S' T J wk
  | exc x s' => rw [e] at q; exact q
  | bad => rw [e] at q; exact q⟩
section
variable {K : PySem.W.Frag} {CA : Tags} {m : Mp} {st : Store} {H : Hp} {a : Addr} {us : List V} {ws : List Val}
end
section
variable {K : PySem.W.Frag} {CA : Tags} {m : Mp} {st : Store} {H : Hp} {a : Addr} {us : List V} {ws : List Val}
theorem wkl (hq : ∀ m' st' H', Step m st H m' st' H' → SqL K H' a us) (rs : RepVs K m st H ws us) : Wk K CA (Itl K a) ws m st H where
  go := fun i w e m' st' H' S T => by
    obtain ⟨v, e1, r⟩ := rs.get e
    refine ⟨⟨us, v, hq _ _ _ T, e1⟩, fun x H2 y => ?_⟩
    obtain ⟨rfl, y⟩ := y
    have e2 := y us (hq _ _ _ T)
    rw [e1] at e2
    cases e2
    exact ⟨S, Step.refl, RepV.mono T w v r⟩
  stop := fun i m' st' H' hi S T => ⟨us, hq _ _ _ T, by rw [← rs.length]; exact hi⟩
theorem wkt (hq : ∀ m' st' H', Step m st H m' st' H' → SqT K H' a us) (rs : RepVs K m st H ws us) : Wk K CA (Itt K a) ws m st H where
  go := fun i w e m' st' H' S T => by
    obtain ⟨v, e1, r⟩ := rs.get e
    refine ⟨⟨us, v, hq _ _ _ T, e1⟩, fun x H2 y => ?_⟩
    obtain ⟨rfl, y⟩ := y
    have e2 := y us (hq _ _ _ T)
    rw [e1] at e2
    cases e2
    exact ⟨S, Step.refl, RepV.mono T w v r⟩
  stop := fun i m' st' H' hi S T => ⟨us, hq _ _ _ T, by rw [← rs.length]; exact hi⟩
theorem upto_get {lo : Int} {n i : Nat} {w : Val} (e : (upto lo n)[i]? = some w) : i < n ∧ w = vI (lo + (i : Nat)) := by
  unfold upto at e
  rw [List.getElem?_map] at e
  by_cases h : i < n
  · rw [List.getElem?_range h] at e
    cases e
    exact ⟨h, rfl⟩
  · rw [List.getElem?_eq_none (by rw [List.length_range]; omega)] at e; cases e
theorem upto_len {lo : Int} {n : Nat} : (upto lo n).length = n := by unfold upto; rw [List.length_map, List.length_range]
theorem wkr {lo : Int} {n : Nat} : Wk K CA (Itr lo n) (upto lo n) m st H where
  go := fun i w e m' st' H' S T => by
    obtain ⟨h1, rfl⟩ := upto_get e
    refine ⟨h1, fun x H2 y => ?_⟩
    obtain ⟨rfl, rfl⟩ := y
    exact ⟨S, Step.refl, rfl⟩
  stop := fun i m' st' H' hi S T => by rw [upto_len] at hi; exact hi
theorem enumT_get : ∀ {ts : List T} {n i : Nat} {w : Val}, (enumT n ts)[i]? = some w → ∃ d, ts[i]? = some d ∧ w = .t (.tup [.int (n + i : Nat), d])
  | [], n, i, w, e => by simp [enumT] at e
  | d :: r, n, 0, w, e => by simp [enumT] at e; exact ⟨d, rfl, by rw [← e]; rfl⟩
  | d :: r, n, i + 1, w, e => by
    have e' : (enumT (n + 1) r)[i]? = some w := by simpa [enumT] using e
    obtain ⟨d', h1, h2⟩ := enumT_get e'
    exact ⟨d', by simpa using h1, by rw [h2, show n + 1 + i = n + (i + 1) by omega]⟩
theorem enumT_len : ∀ {ts : List T} {n : Nat}, (enumT n ts).length = ts.length
  | [], n => rfl
  | d :: r, n => by rw [enumT, List.length_cons, List.length_cons, enumT_len]
theorem wke {ts : List T} (hq : ∀ m' st' H', Step m st H m' st' H' → SqL K H' a us ∧ H' a ≠ none) (rs : Reps K H (live m st) ts us) (z : ts.length ≤ L) : Wk K CA (Ite K a) (enumT 0 ts) m st H where
  go := fun i w e m' st' H' S T => by
    obtain ⟨d, e0, rfl⟩ := enumT_get e
    obtain ⟨v, e1, r⟩ := rs.get e0
    refine ⟨⟨us, v, (hq _ _ _ T).1, e1⟩, fun x H2 y => ?_⟩
    obtain ⟨tp, x0, rfl, hn, rfl, y⟩ := y
    have e2 := y us (hq _ _ _ T).1
    rw [e1] at e2
    cases e2
    obtain ⟨T2, S2⟩ := S.fresh (o := .tup [.int (i : Nat), v]) hn
    refine ⟨S2, T2, tp, [.int (i : Nat), v], rfl, .inl ⟨upd_same, S.not_live hn⟩, by show 2 ≤ L; decide, ⟨.int (i : Nat), [v], rfl, ?_, v, [], rfl, ?_, rfl⟩⟩
    · show V.int _ = V.int _
      rw [Nat.zero_add]
    · exact Rep.mono (T.trans T2).keep (T.trans T2).lv d v r
  stop := fun i m' st' H' hi S T => ⟨us, (hq _ _ _ T).1, by rw [enumT_len] at hi; rw [← rs.length]; exact hi⟩
end

section
variable {tb : Tab} {G : FEnv} {CA : Tags} {XR : XRel} {k : Nat} {N : List Str} {sc : Scope} {own : Str → Bool} {X : Cx} {W : WX}
variable {a b c d e tg : Expr} {es : List Expr} {pos pos' apos cpos p p2 p3 : Pos} {f g h : CE} {t u : CT}

/-- a list, a tuple -/
def iSeq (K : PySem.W.Frag) (tl : TE) : TI := fun σ H R => tl σ H fun x H1 => ∃ a, x = .ref a ∧ (((∃ xs, SqL K H1 a xs) ∧ R (Itl K a) H1) ∨ ((∃ xs, SqT K H1 a xs) ∧ R (Itt K a) H1))
theorem pi_seq {l : Expr} {tl : TE} (hl : PE X l tl) : PI X tg l (iSeq X.K tl) := by
  refine ⟨fun pins s σ H R I h => thn (hl.run pins s σ H _ I h) ?_⟩
  rintro v s1 ⟨x, H1, I1, r1, a, rfl, q1⟩
  cases r1
  have fp : ∀ b ∈ [s1.heap.objs.size], FpOk X pins H1 b := fun b hb => by
    obtain rfl : b = s1.heap.objs.size := by simpa using hb
    exact I1.fpOk (Nat.le_refl _) (I1.hok.fresh (Nat.le_refl _))
  rcases q1 with ⟨⟨xs, hq⟩, q⟩ | ⟨⟨xs, hq⟩, q⟩
  · obtain ⟨its, rv, pl, hz⟩ := I1.list hq
    exact wpAny_pyIter_list pl.isList ⟨_, _, _, _, H1, rfl, I1.kept (t' := s1.toks) fun b o e => Heap.get?_push_of_some _ e, turn_list a _, ⟨_, Heap.get?_push_size _ rfl, rfl, rfl⟩, fp, q⟩
  · obtain ⟨its, rv, pl, hz⟩ := I1.tuple hq
    exact wpAny_pyIter_tuple (show s1.heap.IsTuple a its.toArray from pl) ⟨_, _, _, _, H1, rfl, I1.kept (t' := s1.toks) fun b o e => Heap.get?_push_of_some _ e, turn_tuple a _, ⟨_, Heap.get?_push_size _ rfl, rfl, rfl⟩, fp, q⟩
theorem sl_seq (ha : SE CA XR X W a f) : SIL CA XR X W tg a (iV f) := by
  refine PI.weak (pi_seq ha) fun σ H R ⟨m, st, ρ, S, E, q⟩ => ⟨m, st, ρ, S, E, (PR.bind_of q).mono fun x m1 st1 H1 S1 T1 h1 v rv => ?_⟩
  unfold iterOf at h1
  split at h1
  · rename_i ns
    obtain ⟨zl, ad, rfl, hq⟩ := rv
    have key : ∀ m' st' H', Step m1 st1 H1 m' st' H' → SqL X.K H' ad (ns.map V.int) := fun m' st' H' T => by
      rcases hq with ⟨h2, h3, h4⟩ | h2
      · rcases h4 with (z | ⟨o, z⟩) | z
        · exact .inl (.inl (T.same z h3 fun _ e => nomatch e))
        · exact .inl (.inr ⟨o, T.same z h3 fun _ e => nomatch e⟩)
        · exact .inr z
      · exact h2 H'
    refine ⟨ad, rfl, .inl ⟨⟨_, key _ _ _ Step.refl⟩, PR.here S1 h1 _ (wkl key (scr_reps ns)) (by rw [List.length_map]; exact zl)⟩⟩
  · obtain ⟨ad, us, rfl, ⟨h2, h3⟩, z, rs⟩ := rv
    have key : ∀ m' st' H', Step m1 st1 H1 m' st' H' → SqL X.K H' ad us := fun m' st' H' T => .of (T.same h2 h3 fun _ e => nomatch e)
    exact ⟨ad, rfl, .inl ⟨⟨_, key _ _ _ Step.refl⟩, PR.here S1 h1 _ (wkl key (RepVs.of_reps rs)) (by rw [List.length_map]; exact z)⟩⟩
  · obtain ⟨ad, us, rfl, h2, z, rs⟩ := rv
    have key : ∀ m' st' H', Step m1 st1 H1 m' st' H' → SqT X.K H' ad us := fun m' st' H' T => by
      rcases h2 with ⟨h2, h3⟩ | h2
      · exact .of (T.same h2 h3 fun _ e => nomatch e)
      · exact h2 H'
    exact ⟨ad, rfl, .inr ⟨⟨_, key _ _ _ Step.refl⟩, PR.here S1 h1 _ (wkt key (RepVs.of_reps rs)) (by rw [List.length_map]; exact z)⟩⟩
  · exact h1.elim
theorem rangeOk_iff {i : Int} (h : rangeOk i = true) : -(2 ^ 62) ≤ i ∧ i < 2 ^ 62 := by
  unfold rangeOk at h
  simpa using h
theorem si_range1 (C : Cw tb G CA XR k N sc own X W) (hg : bltB tb sc "range" = true) (ha : SE CA XR X W a f) (hs : starEach [a] X.env = (false, eval a X.env) :: starEach [] X.env := by rfl) : SI CA XR X W tg (.Call (.Name "range" p) [a] [] pos) (iRange1 f) := by
  refine PI.weak (pi_range1 (gl_of C (blt_gl hg)) (blt_mg C hg) (pa_cons ha pa_nil hs) hs) fun σ H R ⟨m, st, ρ, S, E, q⟩ => ⟨m, st, ρ, S, E, (PR.bind_of q).mono fun x m1 st1 H1 S1 T1 h1 v rv => ?_⟩
  obtain ⟨i, rfl, rfl, h2⟩ := getInt_ok rv h1
  split at h2
  · rename_i hr
    obtain ⟨h3, h4⟩ := rangeOk_iff hr
    exact ⟨i, rfl, h3, h4, PR.here S1 h2 _ wkr⟩
  · exact h2.elim
theorem si_range2 (C : Cw tb G CA XR k N sc own X W) (hg : bltB tb sc "range" = true) (ha : SE CA XR X W a f) (hb : SE CA XR X W b g) (hs : starEach [a, b] X.env = (false, eval a X.env) :: starEach [b] X.env := by rfl) (hs2 : starEach [b] X.env = (false, eval b X.env) :: starEach [] X.env := by rfl) :
    SI CA XR X W tg (.Call (.Name "range" p) [a, b] [] pos) (iRange2 f g) := by
  refine PI.weak (pi_range2 (gl_of C (blt_gl hg)) (blt_mg C hg) (pa_cons ha (pa_cons hb pa_nil hs2) hs) (by rw [hs, hs2] <;> rfl) hs2) fun σ H R ⟨m, st, ρ, S, E, q⟩ => ?_
  refine ⟨m, st, ρ, S, E, (PR.bind_of q).mono fun x m1 st1 H1 S1 T1 h1 v rv => ⟨m1, st1, ρ, S1, E.mono T1, (PR.bind_of h1).mono fun y m2 st2 H2 S2 T2 h2 w rw => ?_⟩⟩
  obtain ⟨i, rfl, rfl, h3⟩ := getInt_ok (RepV.mono T2 _ _ rv) h2
  obtain ⟨j, rfl, rfl, h4⟩ := getInt_ok rw h3
  split at h4
  · rename_i hr
    rw [Bool.and_eq_true] at hr
    obtain ⟨r1, r2⟩ := rangeOk_iff hr.1
    obtain ⟨r3, r4⟩ := rangeOk_iff hr.2
    exact ⟨i, j, rfl, ⟨r1, r2, r3, r4⟩, PR.here S2 h4 _ wkr⟩
  · exact h4.elim
theorem sl_enum (C : Cw tb G CA XR k N sc own X W) {elts : List Expr} {kk : Nat} (hg : bltB tb sc "enumerate" = true) (ha : SE CA XR X W a f) (hs : starEach [a] X.env = (false, eval a X.env) :: starEach [] X.env := by rfl) :
    SIL CA XR X W (.Tuple elts kk p2) (.Call (.Name "enumerate" p) [a] [] pos) (iEnum f) := by
  refine PI.weak (pi_enum (gl_of C (blt_gl hg)) (blt_mg C hg) (pa_cons ha pa_nil hs) hs) fun σ H R ⟨m, st, ρ, S, E, q⟩ => ⟨m, st, ρ, S, E, (PR.bind_of q).mono fun x m1 st1 H1 S1 T1 h1 v rv => ?_⟩
  split at h1
  · obtain ⟨ad, us, rfl, ⟨h2, h3⟩, z, rs⟩ := rv
    exact ⟨ad, us, rfl, .of h2, PR.here S1 h1 _ (wke (fun m' st' H' T => ⟨.of (T.same h2 h3 fun _ e => nomatch e), by rw [T.same h2 h3 fun _ e => nomatch e]; simp⟩) rs z) (by rw [enumT_len]; exact z)⟩
  · exact h1.elim

/-! ### targets -/
theorem loc_of {sc : Scope} {x : Str} (h : (match sc.names.lookup x with
    | some .local => true
    | some .cell => true
    | _ => false) = true) : L2.Loc sc x := by
  unfold L2.Loc
  cases e : sc.names.lookup x with
  | none => rw [e] at h; cases h
  | some k => rw [e] at h; cases k <;> first | exact .inl rfl | exact .inr rfl | cases h
/-- a name that may be stored here -/
def stoB (sc : Scope) (own : Str → Bool) (x : Str) : Bool := match sc.names.lookup x with
    | some .local => true
    | some .cell => own x
    | _ => false
theorem sto_loc {sc : Scope} {own : Str → Bool} {x : Str} (h : stoB sc own x = true) : L2.Loc sc x ∧ (own x = true ∨ sc.names.lookup x = some .local) := by
  unfold stoB at h
  unfold L2.Loc
  cases e : sc.names.lookup x with
  | none => rw [e] at h; cases h
  | some k =>
    rw [e] at h
    cases k with
    | «local» => exact ⟨.inl rfl, .inr rfl⟩
    | cell => exact ⟨.inr rfl, .inl h⟩
    | _ => cases h
theorem sg_var (C : Cw tb G CA XR k N sc own X W) (i : Nat) {x : Str} (hi : N[i]? = some x) (hx : stoB sc own x = true) : SG CA XR X W (.Name x pos) (gVar i) := by
  obtain ⟨h1, h2⟩ := sto_loc hx
  refine PG.weak (pg_name (i := i) (by rw [C.nm]; exact C.nd) (by rw [C.nm]; exact hi) (by rw [C.sc]; exact h1) (by rw [C.sc, C.own]; exact h2)) fun v σ H Q ⟨m, st, ρ, w, S, E, r, q⟩ => ?_
  exact PR.here S q _ (E.set r i)
/-- several targets in a row -/
def tGs (K : PySem.W.Frag) (CA : Tags) (is : List Nat) : TGs := fun vs σ H Q => ∃ m st ρ ws ρ', SR K CA m st H ∧ ER K m st H ρ σ ∧ RepVs K m st H ws vs ∧ gSets is ws ρ = some ρ' ∧ ∀ σ', ER K m st H ρ' σ' → Q σ' H
theorem PGs.weak {X : Cx} {tg : List Expr} {t t' : TGs} (h : PGs X tg t) (k : ∀ v σ H Q, t' v σ H Q → t v σ H Q) : PGs X tg t' := ⟨fun pins s σ H v u Q I r q => h.run pins s σ H v u Q I r (k v σ H Q q)⟩
theorem sgs_nil : PGs X [] (tGs X.K CA []) := PGs.weak pgs_nil fun vs σ H Q ⟨m, st, ρ, ws, ρ', S, E, r, e, q⟩ => by
  cases ws with
  | nil => cases e; exact ⟨r, q σ E⟩
  | cons w q => simp [gSets] at e
theorem sgs_cons (C : Cw tb G CA XR k N sc own X W) (i : Nat) {is : List Nat} {x : Str} {tgs : List Expr} (hi : N[i]? = some x) (hx : stoB sc own x = true) (hr : PGs X tgs (tGs X.K CA is))
    (hs : (assignEach (.Name x pos :: tgs) X.env).map (·.2) = assign (.Name x pos) X.env :: (assignEach tgs X.env).map (·.2) := by rfl) : PGs X (.Name x pos :: tgs) (tGs X.K CA (i :: is)) := by
  obtain ⟨h1, h2⟩ := sto_loc hx
  refine PGs.weak (pgs_cons (pg_name (i := i) (by rw [C.nm]; exact C.nd) (by rw [C.nm]; exact hi) (by rw [C.sc]; exact h1) (by rw [C.sc, C.own]; exact h2)) hr hs) fun vs σ H Q ⟨m, st, ρ, ws, ρ', S, E, r, e, q⟩ => ?_
  cases ws with
  | nil => simp [gSets] at e
  | cons w ws =>
    obtain ⟨v, vr, rfl, r1, r2⟩ := r
    exact ⟨v, vr, rfl, m, st, ρ.set i (some w), ws, ρ', S, E.set r1 i, r2, e, q⟩
theorem gSets_len : ∀ {is : List Nat} {ws : List Val} {ρ ρ' : Env}, gSets is ws ρ = some ρ' → ws.length = is.length
  | [], [], _, _, _ => rfl
  | [], _ :: _, _, _, h => by simp [gSets] at h
  | _ :: _, [], _, _, h => by simp [gSets] at h
  | i :: is, w :: ws, ρ, ρ', h => by rw [List.length_cons, List.length_cons, gSets_len (is := is) (ws := ws) h]
theorem PG.or {X : Cx} {tg : Expr} {t t' : TG} (h : PG X tg t) (h' : PG X tg t') : PG X tg fun v σ H Q => t v σ H Q ∨ t' v σ H Q := ⟨fun pins s σ H v u Q I r q => q.elim (h.run pins s σ H v u Q I r) (h'.run pins s σ H v u Q I r)⟩
theorem sg_tup (C : Cq tb G CA XR k N sc own X W) {is : List Nat} {tgs : List Expr} {kk : Nat} (h : PGs X tgs (tGs X.K CA is)) (hn : (assignEach tgs X.env).length = is.length := by rfl)
    (hst : (assignEach tgs X.env).findIdx? (·.1) = none := by rfl) : SG CA XR X W (.Tuple tgs kk pos) (gTup is) := by
  refine PG.weak (PG.or (pg_tup (n := is.length) C.calm h hn hst) (pg_lst (n := is.length) C.calm h hn hst)) fun v σ H Q ⟨m, st, ρ, w, S, E, r, q⟩ => ?_
  obtain ⟨ws, ad, us, rfl, h1, rs, z, q1⟩ := items_ok S r (q : PR X.K CA XR W σ ((items w st).bind _) m st H _)
  cases e : gSets is ws ρ with
  | none => rw [e] at q1; exact q1.elim
  | some ρ' =>
    rw [e] at q1
    have hl : us.length = is.length := by rw [← rs.length]; exact gSets_len e
    have fin : tGs X.K CA is us σ H Q := ⟨m, st, ρ, ws, ρ', S, E, rs, e, PR.here S q1⟩
    rcases h1 with h1 | h1
    · exact .inr ⟨ad, us, rfl, h1, hl, fin⟩
    · exact .inl ⟨ad, us, rfl, h1, hl, fin⟩
end
end Fl
set_option Elab.async false
set_option linter.all false
set_option maxRecDepth 100000
set_option maxHeartbeats 2000000
/-! Fl over the layer: statements, loops. -/
namespace Fl
open PySem PySem.Spec L2

theorem PS.weak {X : Cx} {b : Stmt} {t t' : TS} (h : PS X b t) (k : ∀ D σ H, t' D σ H → t D σ H) : PS X b t' := ⟨fun pins s σ H D I q => h.run pins s σ H D I (k D σ H q)⟩
theorem PSs.weak {X : Cx} {b : List Stmt} {t t' : TS} (h : PSs X b t) (k : ∀ D σ H, t' D σ H → t D σ H) : PSs X b t' := ⟨fun pins s σ H D I q => h.run pins s σ H D I (k D σ H q)⟩
section
variable {tb : Tab} {G : FEnv} {CA : Tags} {XR : XRel} {k : Nat} {N : List Str} {sc : Scope} {own : Str → Bool} {X : Cx} {W : WX}
variable {a b c d e tg it : Expr} {es : List Expr} {pos pos' apos cpos p p2 p3 : Pos} {f g h : CE} {t u : CT} {s1 : Stmt} {ss bb : List Stmt} {fs gs : SM} {gm : CG} {im : CI}

theorem sw_nil : SS CA XR X W [] sNil := PSs.weak pss_nil fun D σ H ⟨m, st, ρ, S, E, q⟩ => q m H σ S Step.refl E
theorem sw_cons (h1 : S1 CA XR X W s1 fs) (h2 : SS CA XR X W ss gs) : SS CA XR X W (s1 :: ss) (sSeq fs gs) := PSs.weak (pss_cons h1 h2) fun D σ H ⟨m, st, ρ, S, E, q⟩ => by
  refine ⟨m, st, ρ, S, E, ?_⟩
  unfold sSeq at q
  cases e : fs ρ st with
  | nx ρ' s' =>
    rw [e] at q
    exact fun m' H' σ' S' T E' => ⟨m', s', ρ', S', E', PO.step q T⟩
  | rt v s' => rw [e] at q; exact q
  | bk v s' => rw [e] at q; exact q
  | ct v s' => rw [e] at q; exact q
  | ex x v s' => rw [e] at q; exact q
  | bad => rw [e] at q; exact q
theorem sw_one (h1 : S1 CA XR X W s1 fs) : SS CA XR X W [s1] fs := pss_one h1
theorem ss_pass : S1 CA XR X W (.Pass pos) sNil := PS.weak ps_pass fun D σ H ⟨m, st, ρ, S, E, q⟩ => q m H σ S Step.refl E
theorem ss_break : S1 CA XR X W (.Break pos) sBreak := PS.weak ps_break fun D σ H ⟨m, st, ρ, S, E, q⟩ => q m H σ S Step.refl E
theorem ss_cont : S1 CA XR X W (.Continue pos) sCont := PS.weak ps_continue fun D σ H ⟨m, st, ρ, S, E, q⟩ => q m H σ S Step.refl E
theorem ss_doc {x : Str} {j : Nat} : S1 CA XR X W (.Expr (.Constant (.str x) j pos) pos') sNil := PS.weak ps_doc fun D σ H ⟨m, st, ρ, S, E, q⟩ => q m H σ S Step.refl E
theorem ss_expr (ha : SE CA XR X W a f) (hs : swapsWith a none pos.line X.env = pure false := by rfl) : S1 CA XR X W (.Expr a pos) (sExpr f) := PS.weak (ps_expr ha hs) fun D σ H ⟨m, st, ρ, S, E, q⟩ =>
  ⟨m, st, ρ, S, E, (PO.expr E q).mono fun x m1 st1 H1 S1 T1 h1 v rv => h1 m1 H1 σ S1 Step.refl (E.mono T1)⟩
theorem ss_ret (ha : SE CA XR X W a f) : S1 CA XR X W (.Return (some a) pos) (sRet f) := PS.weak (ps_ret ha) fun D σ H ⟨m, st, ρ, S, E, q⟩ =>
  ⟨m, st, ρ, S, E, (PO.expr E q).mono fun x m1 st1 H1 S1 T1 h1 v rv => h1 m1 H1 v S1 Step.refl rv⟩
theorem ss_retN : S1 CA XR X W (.Return none pos) (sRet (eC .non)) := PS.weak ps_retN fun D σ H ⟨m, st, ρ, S, E, q⟩ => q m H .non S Step.refl rfl
theorem ss_if (hc : STt CA XR X W c t) (ha : SS CA XR X W ss fs) (hb : SS CA XR X W bb gs) : S1 CA XR X W (.If c ss bb pos) (sIf t fs gs) := PS.weak (ps_if hc ha hb) fun D σ H ⟨m, st, ρ, S, E, q⟩ =>
  ⟨m, st, ρ, S, E, (PO.expr E q).mono fun x m1 st1 H1 S1 T1 h1 => by
    cases x with
    | true => exact ⟨m1, st1, ρ, S1, E.mono T1, h1⟩
    | false => exact ⟨m1, st1, ρ, S1, E.mono T1, h1⟩⟩

/-! ### assignments -/
theorem gVar_eq {i : Nat} {v : Val} {ρ : Env} {s : Store} : gVar i v ρ s = .ok (ρ.set i (some v)) s := rfl
theorem ss_set (C : Cw tb G CA XR k N sc own X W) (i : Nat) {x : Str} (hi : N[i]? = some x) (hx : stoB sc own x = true) (ha : SE CA XR X W a f) (hs : swapsWith a (some (.Name x p)) pos.line X.env = pure false := by rfl) :
    S1 CA XR X W (.Assign [.Name x p] a pos) (sAsg f (gVar i)) := by
  obtain ⟨h1, h2⟩ := sto_loc hx
  refine PS.weak (ps_set (i := i) (by rw [C.nm]; exact C.nd) (by rw [C.nm]; exact hi) (by rw [C.sc]; exact h1) ha hs (by rw [C.sc, C.own]; exact h2)) fun D σ H ⟨m, st, ρ, S, E, q⟩ => ?_
  exact ⟨m, st, ρ, S, E, (PO.expr E q).mono fun x m1 st1 H1 S1 T1 h1 v rv => h1 m1 H1 _ S1 Step.refl ((E.mono T1).set rv i)⟩
theorem ss_asg (ha : SE CA XR X W a f) (hg : SG CA XR X W tg gm) (hs : swapsWithSole [tg] a pos.line X.env = pure false := by rfl) (hw : swappedStores [tg] a X.env = pure none := by rfl)
    (h1 : (assignEach [tg] X.env).map (·.2) = [assign tg X.env] := by rfl) : S1 CA XR X W (.Assign [tg] a pos) (sAsg f gm) := by
  refine PS.weak (ps_asg ha hg hs hw h1) fun D σ H ⟨m, st, ρ, S, E, q⟩ => ?_
  refine ⟨m, st, ρ, S, E, (PO.expr E q).mono fun x m1 st1 H1 S1 T1 h1 v rv => ⟨m1, st1, ρ, x, S1, E.mono T1, rv, (PO.expr (E.mono T1) h1).mono fun ρ' m2 st2 H2 S2 T2 h2 σ' E' => h2 m2 H2 σ' S2 Step.refl E'⟩⟩

/-! ### loops -/
theorem PR.some {α : Type} {K : PySem.W.Frag} {CA : Tags} {XR : XRel} {W : WX} {σ : L2.St} {r : R α} {m : Mp} {st : Store} {H : Hp} {ok ok' : α → Mp → Store → Hp → Prop} (h : PR K CA XR W σ r m st H ok) (hh : ∀ a s', r = .ok a s' → ∀ m' H', SR K CA m' s' H' → Step m st H m' s' H' → ok a m' s' H' → ok' a m' s' H') : PR K CA XR W σ r m st H ok' := by
  cases r with
  | ok a s' => exact fun m' H' S T => hh a s' rfl m' H' S T (h m' H' S T)
  | exc x s' => exact h
  | bad => exact h
theorem drop_at {α : Type} {xs : List α} {i : Nat} (h : i < xs.length) : xs.drop i = xs[i] :: xs.drop (i + 1) := (List.drop_eq_getElem_cons h)
/-- the turns of a loop -/
theorem for_read {K : PySem.W.Frag} {D : Ends} {σ : L2.St} {m : Mp} {st : Store} {H : Hp} {ρ : Env} {J : It} {vs : List Val} (wk : Wk K CA J vs m st H) (S : SR K CA m st H) (E : ER K m st H ρ σ) (q : PO K CA XR W D m st H (forL gm fs vs ρ st)) :
    ∃ V : Nat → Nat → L2.St → Hp → Prop, (∃ μ, V 0 μ σ H) ∧ ∀ i μ σ H, V i μ σ H → (J.stop i H ∧ D.nx σ H) ∨ (J.go i H ∧ ∃ Nx : L2.St → Hp → Prop, (∀ σ' H', Nx σ' H' → ∃ μ', μ' < μ ∧ V (i + 1) μ' σ' H') ∧
      ∀ x H', J.yld i H x H' → tG K CA XR W gm x σ H' fun σ2 H2 => tS K CA XR W fs { D with nx := Nx, ct := Nx, bk := D.nx } σ2 H2) := by
  have key : ∀ i m' st' H', SR K CA m' st' H' → Step m st H m' st' H' → ∀ ρ' σ', ER K m' st' H' ρ' σ' → i ≤ vs.length → PO K CA XR W D m' st' H' (forL gm fs (vs.drop i) ρ' st') → True := fun _ _ _ _ _ _ _ _ _ _ _ => trivial
  refine ⟨fun i μ σ' H' => i ≤ vs.length ∧ μ = vs.length - i ∧ ∃ m' st' ρ', SR K CA m' st' H' ∧ Step m st H m' st' H' ∧ ER K m' st' H' ρ' σ' ∧ PO K CA XR W D m' st' H' (forL gm fs (vs.drop i) ρ' st'), ⟨vs.length, Nat.zero_le _, rfl, m, st, ρ, S, Step.refl, E, q⟩, ?_⟩
  rintro i μ σ' H' ⟨hi, rfl, m', st', ρ', S', T', E', q'⟩
  by_cases hl : i < vs.length
  · refine .inr ⟨(wk.go i _ (List.getElem?_eq_getElem hl) m' st' H' S' T').1, fun σ2 H2 => ∃ m2 st2 ρ2, SR K CA m2 st2 H2 ∧ Step m st H m2 st2 H2 ∧ ER K m2 st2 H2 ρ2 σ2 ∧ PO K CA XR W D m2 st2 H2 (forL gm fs (vs.drop (i + 1)) ρ2 st2), fun σ2 H2 hh => ⟨vs.length - (i + 1), by omega, by omega, rfl, hh⟩, fun x H2 y => ?_⟩
    obtain ⟨S2, T2, r2⟩ := (wk.go i _ (List.getElem?_eq_getElem hl) m' st' H' S' T').2 x H2 y
    rw [drop_at hl] at q'
    have q2 : PO K CA XR W D m' st' H' ((gm vs[i] ρ' st').so ρ' fun ρ1 s1 => match fs ρ1 s1 with
      | .nx ρ2 s2 => forL gm fs (vs.drop (i + 1)) ρ2 s2
      | .ct ρ2 s2 => forL gm fs (vs.drop (i + 1)) ρ2 s2
      | .bk ρ2 s2 => .nx ρ2 s2
      | o => o) := q'
    have E2 := E'.mono T2
    refine ⟨m', st', ρ', vs[i], S2, E2, r2, (PO.expr E2 (q2.step T2)).mono fun ρ1 m3 st3 H3 S3 T3 h3 σ3 E3 => ⟨m3, st3, ρ1, S3, E3, ?_⟩⟩
    have T0 := (T'.trans T2).trans T3
    cases e : fs ρ1 st3 with
    | nx ρ2 s2 => rw [e] at h3; exact fun m4 H4 σ4 S4 T4 E4 => ⟨m4, s2, ρ2, S4, T0.trans T4, E4, PO.step h3 T4⟩
    | ct ρ2 s2 => rw [e] at h3; exact fun m4 H4 σ4 S4 T4 E4 => ⟨m4, s2, ρ2, S4, T0.trans T4, E4, PO.step h3 T4⟩
    | bk ρ2 s2 => rw [e] at h3; exact h3
    | rt v s2 => rw [e] at h3; exact h3
    | ex x v s2 => rw [e] at h3; exact h3
    | bad => rw [e] at h3; exact h3
  · have e : i = vs.length := by omega
    subst e
    rw [List.drop_length] at q'
    exact .inl ⟨wk.stop _ m' st' H' (Nat.le_refl _) S' T', q' m' H' σ' S' Step.refl E'⟩
theorem ss_for (C : Cs tb G CA XR k N sc X W) (hi : SI CA XR X W tg it im) (hg : SG CA XR X W tg gm) (hb : SS CA XR X W bb fs) (hs : ∀ x, foldedSetIterable it X.env x = pure x := by intro _; rfl) : S1 CA XR X W (.For tg it bb [] pos) (sFor im gm fs) :=
  PS.weak (ps_for C.hp C.q.calm hi hg hb hs) fun D σ H ⟨m, st, ρ, S, E, q⟩ => ⟨m, st, ρ, S, E, (PO.expr E q).mono fun vs m1 st1 H1 S1 T1 h1 J wk => for_read wk S1 (E.mono T1) h1⟩
theorem ss_while (C : Cs tb G CA XR k N sc X W) (hc : STt CA XR X W c t) (hb : SS CA XR X W bb fs) : S1 CA XR X W (.While c bb [] pos) (sWhile t fs) :=
  PS.weak (ps_while C.hp hc hb) fun D σ H ⟨m, st, ρ, S, E, q⟩ => by
    refine ⟨fun μ σ' H' => ∃ m' st' ρ', SR X.K CA m' st' H' ∧ ER X.K m' st' H' ρ' σ' ∧ PO X.K CA XR W D m' st' H' (whileN t fs μ ρ' st'), ⟨whileMax, m, st, ρ, S, E, q⟩, ?_⟩
    rintro μ σ' H' ⟨m', st', ρ', S', E', q'⟩
    cases μ with
    | zero => exact (show False from q').elim
    | succ μ =>
      refine ⟨m', st', ρ', S', E', (PO.expr E' (q' : PO X.K CA XR W D m' st' H' ((t ρ' st').so ρ' _))).mono fun x m1 st1 H1 S1 T1 h1 => ?_⟩
      cases x with
      | false => exact h1 m1 H1 σ' S1 Step.refl (E'.mono T1)
      | true =>
        rw [if_pos rfl]
        refine ⟨fun σ2 H2 => ∃ m2 st2 ρ2, SR X.K CA m2 st2 H2 ∧ ER X.K m2 st2 H2 ρ2 σ2 ∧ PO X.K CA XR W D m2 st2 H2 (whileN t fs μ ρ2 st2), fun σ2 H2 hh => ⟨μ, Nat.lt_succ_self _, hh⟩, m1, st1, ρ', S1, E'.mono T1, ?_⟩
        simp only [if_true] at h1
        cases e : fs ρ' st1 with
        | nx ρ2 s2 => rw [e] at h1; exact fun m4 H4 σ4 S4 T4 E4 => ⟨m4, s2, ρ2, S4, E4, PO.step h1 T4⟩
        | ct ρ2 s2 => rw [e] at h1; exact fun m4 H4 σ4 S4 T4 E4 => ⟨m4, s2, ρ2, S4, E4, PO.step h1 T4⟩
        | bk ρ2 s2 => rw [e] at h1; exact h1
        | rt v s2 => rw [e] at h1; exact h1
        | ex x v s2 => rw [e] at h1; exact h1
        | bad => rw [e] at h1; exact h1
end
end Fl
set_option Elab.async false
set_option linter.all false
set_option maxRecDepth 100000
set_option maxHeartbeats 2000000
/-! Fl over the layer: items stored, exceptions raised. -/
namespace Fl
open PySem PySem.Spec L2

section
variable {tb : Tab} {G : FEnv} {CA : Tags} {XR : XRel} {k : Nat} {N : List Str} {sc : Scope} {own : Str → Bool} {X : Cx} {W : WX}
variable {a b c d e tg it : Expr} {es : List Expr} {pos pos' apos cpos p p2 p3 : Pos} {f g h : CE} {t u : CT} {s1 : Stmt} {ss bb : List Stmt} {fs gs : SM} {gm : CG} {im : CI}

theorem RepVK.any {K : PySem.W.Frag} {m : Mp} {st : Store} {H : Hp} (kk : Key) : ∀ {kvs : List (Key × Val)} {us : List (L2.Key × V)}, RepVK K m st H kvs us → (us.any fun kv => decide (kv.1 = kL kk)) = kvs.any fun p => decide (p.1 = kk)
  | [], us, h => by rw [show us = [] from h]; rfl
  | (l, x) :: r, _, ⟨v, q, rfl, ⟨h1, _⟩, h2⟩ => by
    rw [List.any_cons, List.any_cons, RepVK.any kk h2, h1]
    by_cases e : l = kk
    · subst e; simp
    · rw [decide_eq_false e, decide_eq_false (fun z => e (kL_inj z))]
theorem RepVK.put {K : PySem.W.Frag} {m : Mp} {st : Store} {H : Hp} {kk : Key} {w : Val} {v : V} (rv : RepV K m st H w v) {kvs : List (Key × Val)} {us : List (L2.Key × V)} (h : RepVK K m st H kvs us) : RepVK K m st H (dput kvs kk w) (putK us (kL kk) v) := by
  have app : ∀ {kvs : List (Key × Val)} {us : List (L2.Key × V)}, RepVK K m st H kvs us → RepVK K m st H (kvs ++ [(kk, w)]) (us ++ [(kL kk, v)]) := by
    intro kvs
    induction kvs with
    | nil => intro us h; rw [show us = [] from h]; exact ⟨_, [], rfl, ⟨rfl, rv⟩, rfl⟩
    | cons p r ih =>
      rintro us ⟨x, q, rfl, h1, h2⟩
      exact ⟨x, q ++ [(kL kk, v)], rfl, h1, ih h2⟩
  have map : ∀ {kvs : List (Key × Val)} {us : List (L2.Key × V)}, RepVK K m st H kvs us → RepVK K m st H (kvs.map fun p => if p.1 = kk then (p.1, w) else p) (us.map fun kv => if kv.1 = kL kk then (kv.1, v) else kv) := by
    intro kvs
    induction kvs with
    | nil => intro us h; rw [show us = [] from h]; exact rfl
    | cons p r ih =>
      rintro us ⟨x, q, rfl, h1, h2⟩
      refine ⟨_, _, rfl, ?_, ih h2⟩
      dsimp only
      by_cases e : p.1 = kk
      · rw [if_pos e, if_pos (show x.1 = kL kk by rw [h1.1, e])]; exact ⟨h1.1, rv⟩
      · rw [if_neg e, if_neg (fun z => e (kL_inj (h1.1.symm.trans z)))]; exact h1
  unfold dput putK
  rw [h.any kk]
  split
  · exact map h
  · exact app h
theorem dput_len (kvs : List (Key × Val)) (kk : Key) (w : Val) : (dput kvs kk w).length ≤ kvs.length + 1 := by
  unfold dput
  split
  · rw [List.length_map]; exact Nat.le_succ _
  · rw [List.length_append]; exact Nat.le_refl _
theorem ixN_of {n j : Nat} {i : Int} (h : pyIx n i = some j) : ixN n i = some j := h
theorem setI_ok {σ : L2.St} {m : Mp} {st : Store} {H : Hp} {x y z : Val} {vx vy vz : V} {Q : Hp → Prop} {ok : Unit → Mp → Store → Hp → Prop} (S : SR X.K CA m st H) (rx : RepV X.K m st H x vx) (ry : RepV X.K m st H y vy) (rz : RepV X.K m st H z vz)
    (q : PR X.K CA XR W σ (setI x y z st) m st H ok) (hQ : ∀ m' st' H', ok () m' st' H' → Q H') : rSetL vx vy vz H Q ∨ rSetD vx vy vz H Q := by
  unfold setI at q
  split at q
  · rename_i n
    obtain ⟨_, rfl⟩ := rx
    cases e : st.cell n with
    | none => rw [e] at q; exact q.elim
    | some cc =>
      rw [e] at q
      cases cc with
      | lst ws =>
        dsimp only at q
        split at q
        · rename_i i
          cases ry
          cases e1 : pyIx ws.length i with
          | none => rw [e1] at q; exact q.elim
          | some j =>
            rw [e1] at q
            obtain ⟨us, hh, zz, rs⟩ := S.cells n _ e
            obtain ⟨h1, h2⟩ := pyIx_seq e1
            refine .inl ⟨m n, us, i, j, rfl, rfl, hh, ?_, ?_⟩
            · rw [← rs.length]; exact ixN_of e1
            · exact hQ _ _ _ (setL_ok S e (RepVs.set rz j rs) (by rw [List.length_set]; exact zz) q)
        · exact q.elim
      | dct kvs =>
        dsimp only at q
        cases e1 : keyOf y with
        | none => rw [e1] at q; exact q.elim
        | some kk =>
          rw [e1] at q
          dsimp only at q
          split at q
          · rename_i hz
            obtain ⟨us, hh, zz, rs⟩ := S.cells n _ e
            have T := S.setStep (o := .dK (putK us (kL kk) vz)) (c' := .dct (dput kvs kk z)) e
            refine .inr ⟨m n, _, rfl, .inl ⟨us, kL kk, hh, keyOf_rep ry e1, by rw [← rs.length]; exact lineLt hz, rfl⟩, ?_⟩
            refine hQ _ _ _ (q m _ (S.setCell e ⟨putK us (kL kk) vz, upd_same, ?_, RepVK.mono T _ _ (RepVK.put rz rs)⟩) T)
            have := dput_len kvs kk z
            omega
          · exact q.elim
      | kd kvs => exact (show False from S.cells n _ e).elim
      | _ => exact q.elim
  · exact q.elim
theorem PSet.or {X : Cx} {t t' : TSet} (h : PSet X t) (h' : PSet X t') : PSet X fun o i v H Q => t o i v H Q ∨ t' o i v H Q := fun pins s σ H o i v ov iv u Q I ro ri rv q =>
  q.elim (h pins s σ H o i v ov iv u Q I ro ri rv) (h' pins s σ H o i v ov iv u Q I ro ri rv)
/-- o[i] = e -/
theorem ss_sub (C : Cw tb G CA XR k N sc own X W) (he : SE CA XR X W e f) (ho : SE CA XR X W a g) (hi : SE CA XR X W b h) (hs : swapsWithSole [.Subscript a b p] e pos.line X.env = pure false := by rfl)
    (hw : swappedStores [.Subscript a b p] e X.env = pure none := by rfl) (h1 : (assignEach [.Subscript a b p] X.env).map (·.2) = [assign (.Subscript a b p) X.env] := by rfl)
    (ha : ∀ v, assign (.Subscript a b p) X.env v = (do
      let ov ← holding [v] (eval a X.env)
      let iv ← holding [v, ov] (eval b X.env)
      standAt p
      holding [v, ov, iv] (setItem ov iv v)
      release [v, ov, iv] []) := by intro _; rfl) : S1 CA XR X W (.Assign [.Subscript a b p] e pos) (sSub f g h) := by
  refine PS.weak (ps_asg he (pg_sub ho hi (PSet.or set_list (set_dict C.u1)) ha) hs hw h1) fun D σ H ⟨m, st, ρ, S, E, q⟩ => ?_
  refine ⟨m, st, ρ, S, E, (PO.expr E q).mono fun x m1 st1 H1 S1 T1 h1 v rv => ?_⟩
  refine ⟨m1, st1, ρ, S1, E.mono T1, (PO.expr (E.mono T1) h1).mono fun y m2 st2 H2 S2 T2 h2 o ro => ?_⟩
  refine ⟨m2, st2, ρ, S2, (E.mono T1).mono T2, (PO.expr ((E.mono T1).mono T2) h2).mono fun z m3 st3 H3 S3 T3 h3 i ri => ?_⟩
  have E3 := ((E.mono T1).mono T2).mono T3
  exact setI_ok (W := W) (σ := σ) S3 (RepV.mono T3 _ _ ro) ri (RepV.mono (T2.trans T3) _ _ rv) ((PO.expr E3 h3).mono fun _ m4 st4 H4 S4 T4 h4 => show D.nx σ H4 from h4 m4 H4 σ S4 Step.refl (E3.mono T4)) fun _ _ _ z => z
/-- raise X('m') -/
theorem ss_raise (C : Cs tb G CA XR k N sc X W) {x m : Str} (t : String) {j : Nat} (hg : glbB sc x = true) (hm : (x, t) ∈ tb.excs) : S1 CA XR X W (.Raise (some (.Call (.Name x p) [.Constant (.str m) j p2] [] p3)) none pos) (sRaise t) := by
  obtain ⟨A, bmB, newId, initId, B, h1, F, h2, h3, h4, h5, h6⟩ := C.q.glob.excs x t hm
  refine PS.weak (ps_raise C.q.calm C.tk (pmk_own F h2 h1 h3 (raises_own h4 h5) (gl_of C.q.toCw hg) (gl_dbg hg))) fun D σ H ⟨m, st, ρ, S, E, q⟩ => ?_
  exact q m H σ _ _ S Step.refl E (h6 H)
end
end Fl
set_option Elab.async false
set_option linter.all false
set_option maxRecDepth 100000
set_option maxHeartbeats 2000000
/-! Fl over the layer: comprehensions that may raise. -/
namespace Fl
open PySem PySem.Spec L2

/-- the end of a comprehension's block, its own names let go -/
def cpost (M : Model) (A : Around) (E : Value → Shared → Prop) (use : Option (Value → Sem Unit)) (Q : Value → Shared → Prop) (acc : Value) (ce : PySem.Env) (r : Result) (s' : Shared) : Prop :=
  match r with
  | .ok _ => (match use with
    | none => ∃ m, s'.heap.Ns ce.locals m ∧ ∀ h', Heap.SameBut ce.locals s'.heap h' → Q acc { s' with heap := h' }
    | some u => wpAny M A (u acc) (fun _ t => ∃ m, t.heap.Ns ce.locals m ∧ ∀ h', Heap.SameBut ce.locals t.heap h' → Q .none { t with heap := h' }) E s')
  | .error x => ∃ m, s'.heap.Ns ce.locals m ∧ ∀ h', Heap.SameBut ce.locals s'.heap h' →
      wpAny M A (passOn "comprehension.variables-let-go" x ce : Sem Value) (fun _ _ => False) E { s' with heap := h' }
section
variable {M : Model} {A : Around} {E : Value → Shared → Prop} {s : Shared} {env : PySem.Env}
theorem comp_free {e : Expr} {sc : Scope} {pos : Pos} {newAcc first : Sem Value} {g : Comprehension} {gs : List Comprehension} {cl : List (Str × Addr)} {use : Option (Value → Sem Unit)} {Q : Value → Shared → Prop}
    (h1 : clausesOf e = g :: gs) (h2 : ∀ x, foldedSetIterable g.iter env x = pure x) (h3 : closureFor sc env = pure cl) (h4 : sc.kind = .function) (h5 : ∀ x ∈ sc.names, x.2 = .local → sc.names.lookup x.1 = some .local)
    (h : wpAny M A first (fun x s1 => wpAny M A (pyIter x) (fun it s2 => wpAny M A newAcc (fun acc s3 => wpAny M A (newFunctionEnv sc env.globals cl [] env.qual none .none (some env))
      (fun ce s4 => codeAny M A (.compStart e 0 it acc { ce with scope := relabel sc env }) (cpost M A E use Q acc { ce with scope := relabel sc env }) s4) E s3) E s2) E s1) E s) :
    wpAny M A (comprehension e sc env pos newAcc false first use) Q E s := by
  unfold comprehension
  rw [h3, h1]
  refine wpAny_bind (wpAny_mono h (fun x s1 q1 => ?_) fun _ _ z => z)
  refine wpAny_bind (wpAny_standAt (wpAny_bind (wpAny_of_eq (h2 x) (wpAny_bind (wpAny_holding (wpAny_mono q1 (fun it s2 q2 => ?_) fun _ _ z => z))))))
  refine wpAny_standIf (wpAny_bind (wpAny_mono q2 (fun acc s3 q3 => ?_) fun _ _ z => z))
  refine wpAny_bind (wpAny_pure (wpAny_bind (wpAny_mono q3 (fun ce s4 q4 => ?_) fun _ _ z => z)))
  dsimp only
  have k1 : ∀ x ∈ (sc.names.filter fun x => (x.2 == .local || x.2 == .cell) && x.1 != (".0" : Str)).reverse, x.2 = .local → Env.kindOf { ce with scope := relabel sc env } x.1 = some .local :=
    fun x hx hl => lookup_relabel_local (h5 x (List.mem_filter.mp (List.mem_reverse.mp hx)).1 hl)
  have k2 : ∀ x ∈ (sc.names.filter fun x => (x.2 == .local || x.2 == .cell) && x.1 != (".0" : Str)).reverse.drop 1 ++ (sc.names.filter fun x => (x.2 == .local || x.2 == .cell) && x.1 != (".0" : Str)).reverse.take 1,
      x.2 = .local → Env.kindOf { ce with scope := relabel sc env } x.1 = some .local := by
    intro x hx hl
    rcases List.mem_append.mp hx with z | z
    · exact k1 x (List.mem_of_mem_drop z) hl
    · exact k1 x (List.mem_of_mem_take z) hl
  refine wpAny_holding (wpAny_bind (wpAny_attempt (wpAny_holding (wpAny_run (codeAny_mono q4 fun r t hr => ?_)))))
  cases r with
  | error x =>
    obtain ⟨m, hn, hr⟩ := hr
    refine wpAny_bind (wpAny_holding (wpAny_comp_letGo (cenv := { ce with scope := relabel sc env }) h4 _ t m k1 hn fun h' m' _ sb => ?_))
    exact wpAny_mono (hr h' sb) (fun _ _ f => f.elim) fun _ _ y => y
  | ok f =>
    cases use with
    | none =>
      obtain ⟨m, hn, hr⟩ := hr
      exact wpAny_bind (wpAny_holding (wpAny_comp_letGo (cenv := { ce with scope := relabel sc env }) h4 _ t m k1 hn fun h' m' _ sb => wpAny_pure (hr h' sb)))
    | some u =>
      refine wpAny_bind (wpAny_rule (wpAny_bind (wpAny_holding (wpAny_mono hr (fun _ t2 hr2 => ?_) fun _ _ z => z))))
      obtain ⟨m, hn, hr2⟩ := hr2
      exact wpAny_bind (wpAny_comp_letGo (cenv := { ce with scope := relabel sc env }) h4 _ t2 m k2 hn fun h' m' _ sb => wpAny_pure (hr2 h' sb))
end
end Fl
set_option Elab.async false
set_option linter.all false
set_option maxRecDepth 100000
set_option maxHeartbeats 2000000
/-! Fl over the layer: an exception leaves a comprehension's block; the new list, kept aside. -/
namespace Fl
open PySem PySem.Spec L2

theorem note_eq {a b : PySem.Env} (h : a.frame = b.frame) (e : Value) : noteFrame e a = noteFrame e b := by
  unfold noteFrame frameOf
  rw [h]
theorem frames_base {h B B' : Heap} : ∀ {l : List PySem.Env}, h.FunFrames B l → (∀ b, B.get? b = none → B'.get? b = none) → h.FunFrames B' l
  | [], _, _ => trivial
  | env :: r, hl, k => by
    obtain ⟨h1, ⟨F, o, h2, h3, h4, h5⟩, h6⟩ := hl
    exact ⟨h1, ⟨F, o, h2, k F h3, h4, h5⟩, frames_base h6 k⟩

section
variable {X : Cx} {W : WX} {pins : List (Addr × Obj)} {σ : L2.St} {H2 : Hp} {s3 : Shared} {scope : Scope} {ce : PySem.Env} {fp : List Addr} {F : Addr}
/-- an exception in the block's air, noted and passed on, is in the def's air -/
theorem block_air (I3 : Inv X pins σ H2 s3) (hF : X.env.frame = some F) (hst : ∃ e0 r, X.stack = e0 :: r ∧ e0.frame = some F) (tk : ∀ u s', XEL X F W u s' → X.xe u s')
    (hL : ce.locals = s3.heap.objs.size) (hcf : ce.frame = X.env.frame) (hfp : ∀ b ∈ fp, FpOk X pins H2 b) {use : Option (Value → Sem Unit)} {Qf : Value → Shared → Prop} {acc : Value} {e : Value} {s' : Shared}
    (x : XEL (X.blk s3 H2 scope ce fp) F (fun c d _ H => W c d σ H) e s') :
    notedBy (model X.prog X.w) X.A ce (fun e s'' => cpost (model X.prog X.w) X.A X.xe use Qf acc ce (.error e) s'') e s' := by
  obtain ⟨a, B, sI, pI, σI, HI, cls, d, ⟨rfl, w⟩, J, ⟨sky, na⟩, nb, up, os, ag⟩ := x
  obtain ⟨e0, r0, hs, h0⟩ := hst
  have hfr : X.A.frames = some (e0 :: r0) := by rw [← hs]; exact J.ok.frames
  have hceF : ce.frame = some F := hcf.trans hF
  have nC : HI ce.locals = none := J.free
  have cst : ce.locals ∉ frs X.stack := fun hm => by
    obtain ⟨_, o, ho, _⟩ := I3.stack.mem hm
    rw [hL] at ho
    exact absurd (Heap.lt_size ho) (Nat.lt_irrefl _)
  have sky' : Sky B (e0 :: r0) a (Zc cls d) F s'.heap := by rw [← hs]; exact sky
  -- behind the note
  have step : ∀ h1, HandSPX.HeldZ B (e0 :: r0) a (Zc cls d) F h1 → s'.heap.UpToSlots h1 → cpost (model X.prog X.w) X.A X.xe use Qf acc ce (.error (.ref a)) { s' with heap := h1 } := by
    intro h1 held up1
    have J1 : Inv (X.blk s3 H2 scope ce fp) pI σI HI { s' with heap := h1 } := J.landed nb held.1 (up.trans up1) os ag
    obtain ⟨mm, hns, _⟩ := J1.loc
    refine ⟨mm, hns, fun h2 sb => ?_⟩
    have oth : ∀ b, b ≠ ce.locals → h2.get? b = h1.get? b := fun b hb => sb.2 b hb
    obtain ⟨oC, _, _, hoC, hdC, _⟩ := id hns
    have notC : ∀ {b : Addr} {o : Obj} {vs : Array Value}, h1.get? b = some o → o.data = .fields vs → b ≠ ce.locals := fun {b o vs} e1 e2 z => by
      have hoC' : h1.get? ce.locals = some oC := hoC
      rw [z, hoC'] at e1
      cases e1
      rw [hdC] at e2
      cases e2
    obtain ⟨B', g1, g2⟩ := restrict B fun b => decide (b ≠ ce.locals)
    have gs : ∀ {b : Addr} {o : Obj}, B'.get? b = some o → b ≠ ce.locals ∧ B.get? b = some o := fun {b o} e1 => by
      by_cases z : b = ce.locals
      · rw [g2 b (by simp [z])] at e1; cases e1
      · exact ⟨z, by rw [← g1 b (by simp [z])]; exact e1⟩
    have gn : ∀ b, B.get? b = none → B'.get? b = none := fun b e1 => by
      cases z : B'.get? b with
      | none => rfl
      | some o => rw [(gs z).2] at e1; cases e1
    obtain ⟨hB, hna, hff, oe, vs, T, oT, ts, t1, t2, t3, t4, t5, t6, t7, t8, t9⟩ := id held
    have held2 : HandSPX.HeldZ B' (e0 :: r0) a (Zc cls d) F h2 := by
      refine ⟨fun b o e1 => ?_, gn a hna, ?_, oe, vs, T, oT, ts, ?_, t2, t3, t4, gn T t5, t6, ?_, t8, t9⟩
      · obtain ⟨z1, z2⟩ := gs e1
        exact (oth b z1).trans (hB b o z2)
      · have fr2 : ∀ {l : List PySem.Env}, (∀ b ∈ frs l, b ≠ ce.locals) → h1.FunFrames B l → h2.FunFrames B l := by
          intro l
          induction l with
          | nil => intro _ _; trivial
          | cons en r ih =>
            intro hm hl
            obtain ⟨k1, ⟨F1, o1, k2, k3, k4, k5⟩, k6⟩ := hl
            refine ⟨k1, ⟨F1, o1, k2, k3, ?_, k5⟩, ih (fun b hb => hm b ?_) k6⟩
            · exact (oth F1 (hm F1 (List.mem_filterMap.mpr ⟨en, List.mem_cons_self, k2⟩))).trans k4
            · obtain ⟨e1, e2, e3⟩ := List.mem_filterMap.mp hb
              exact List.mem_filterMap.mpr ⟨e1, List.mem_cons_of_mem _ e2, e3⟩
        exact frames_base (fr2 (fun b hb z => cst (by rw [hs, ← z]; exact hb)) hff) gn
      · exact (oth a (notC t1 t3)).trans t1
      · exact (oth T (notC t7 t8)).trans t7
    -- the state without the exception and without the block's names
    obtain ⟨Gr, k1, k2⟩ := restrict sI.heap fun b => decide (b ≠ ce.locals)
    have ks : ∀ {b : Addr} {o : Obj}, Gr.get? b = some o → b ≠ ce.locals ∧ sI.heap.get? b = some o := fun {b o} e1 => by
      by_cases z : b = ce.locals
      · rw [k2 b (by simp [z])] at e1; cases e1
      · exact ⟨z, by rw [← k1 b (by simp [z])]; exact e1⟩
    have kk : ∀ b, b ≠ ce.locals → Gr.get? b = sI.heap.get? b := fun b hb => k1 b (by simp [hb])
    have old : ∀ {b : Addr} {o : Obj}, s3.heap.get? b = some o → b ≠ ce.locals := fun {b o} e1 z => by
      rw [z, hL] at e1
      exact absurd (Heap.lt_size e1) (Nat.lt_irrefl _)
    have U := J.base
    have IG : Inv X pins σ HI { sI with heap := Gr } := by
      refine I3.call' (ch := fp) J.os ⟨fun b o e1 n hb hc => ?_, fun b o e1 n hb hc => ?_, fun b o e1 n hc => U.free b o e1 n hc, fun b o e1 hc => ?_, U.tups, U.frzs, U.tbls⟩ (fun b o q => ?_) J.bare fun b hb => ⟨(hfp b hb).2.2.2.1, (hfp b hb).2.1, (hfp b hb).2.2.2.2.1, (hfp b hb).2.2.2.2.2⟩
      · exact (kk b (old e1)).trans (U.keep b o e1 n hb hc)
      · obtain ⟨sl, z⟩ := U.slot b o e1 n hb hc
        exact ⟨sl, (kk b (old e1)).trans z⟩
      · obtain ⟨o', z⟩ := U.there b o e1 hc
        exact ⟨o', (kk b (old e1)).trans z⟩
      · refine (J.hok b o q).stay (fun c u hc z => (kk c fun zz => ?_).trans z) (fun _ z => z) fun _ _ z => z
        rcases hc with hc | hc
        · rw [← hc, zz, nC] at q; cases q
        · rw [zz, nC] at hc; cases hc
    have fin : ∀ h3, HandSPX.HeldZ B' (e0 :: r0) a (Zc cls d) F h3 → h2.UpToSlots h3 → X.xe (.ref a) { s' with heap := h3 } := by
      intro h3 held3 up3
      refine tk _ _ ⟨a, B', { sI with heap := Gr }, pins, σ, HI, cls, d, ⟨rfl, w⟩, IG, ⟨.inr (.inr (by rw [hs]; exact held3)), na⟩, fun b o e1 hb => ?_, fun b o e1 nf => ?_, os, ag⟩
      · obtain ⟨z1, z2⟩ := ks e1
        rw [g1 b (by simp [z1])]
        exact nb b o z2 hb
      · obtain ⟨z1, z2⟩ := ks e1
        obtain ⟨sl1, q1⟩ := (up.trans up1) b o z2 nf
        obtain ⟨sl3, q3⟩ := up3 b _ ((oth b z1).trans q1) nf
        exact ⟨sl3, q3⟩
    have he2 : h2.get? a = some oe := (oth a (notC t1 t3)).trans t1
    unfold PySem.passOn
    refine wpAny_bind (wpAny_field he2 t3 t4 ?_)
    rw [if_neg (show ¬ ((Value.ref T == Value.none) = true) from by simp)]
    have last : wpAny (model X.prog X.w) X.A (setFlight (.ref a) ce.frame) (fun _ s4 => wpAny (model X.prog X.w) X.A (throw (.ref a) : Sem Value) (fun _ _ => False) X.xe s4) X.xe { s' with heap := h2 } := by
      rw [hceF]
      exact HandSPX.setFlight_onZ held2 fun h3 held3 up3 => wpAny_throw (fin h3 held3 up3)
    first
      | exact wpAny_bind (wpAny_pure (wpAny_bind last))
      | exact wpAny_bind last
  show wpAny (model X.prog X.w) X.A (noteFrame (.ref a) ce) _ _ _
  rw [note_eq (hceF.trans h0.symm)]
  rcases sky' with ⟨hB, hn, hl, oe, vs, he, hz, hd, h1⟩ | fl | held
  · exact HandSPX.look_newZ Zc.steady hfr hl h0 he hB hn hd h1 hz step
  · exact HandSPX.looks_onZ Zc.steady hfr h0 fl step
  · exact HandSPX.againZ h0 held.2.2.2 (step s'.heap held (Heap.UpToSlots.refl _))
end

/-! ### an object kept aside is taken in, is let out -/
section
variable {X : Cx} {pins : List (Addr × Obj)} {σ : L2.St} {H : Hp} {s : Shared} {D : Addr} {o : HO}
theorem take_in (I : Inv X pins σ H s) (hn : H D = none) (new : ObjOk X.prog X.w (upd H D o) s.heap D o) (h1 : D ∈ X.ex ∨ X.s_0.heap.objs.size ≤ D) (h2 : D ≠ X.env.locals) (h3 : ∀ x c, X.env.cells.lookup x = some c → c ≠ D) (h4 : ∀ p ∈ X.pn ++ pins, p.1 ≠ D) :
    Inv X pins σ (upd H D o) s := by
  have ne : ∀ {b u}, H b = some u → b ≠ D := fun {b u} e z => by rw [z, hn] at e; cases e
  refine I.step (ch := [D]) (h' := s.heap) (g' := s.gens) (t' := s.toks) (d' := s.drawn) (fun b hb => ?_) (fun _ _ _ _ _ e _ => e) (fun b u _ _ _ e _ => ⟨u.slots, e⟩) (fun b u hc e n => ?_) (fun b u _ e => ⟨u, e⟩) (fun b xs e => ?_) (fun b u v e => ?_) (fun b ps e => ⟨#[], ?_⟩) (fun _ z => z) (fun b u e => ?_) I.bare
  · obtain rfl : b = D := by simpa using hb
    exact ⟨h1, h2, h3, h4⟩
  · rw [upd_ne (fun z => hc (by simp [z]))]; exact n
  · rw [upd_ne (ne e)]; exact e
  · rw [upd_ne (ne e)]; exact e
  · rw [upd_ne (ne e)]; simpa using e
  · by_cases z : b = D
    · subst z
      rw [upd_same] at e
      cases e
      exact new
    · rw [upd_ne z] at e
      exact (I.hok b u e).stay (fun _ _ _ q => q) (fun c q => by rw [upd_ne (ne q)]; exact q) fun c xs q => by rw [upd_ne (ne q)]; exact q
theorem let_out (I : Inv X pins σ (upd H D o) s) (hn : H D = none) (hl : (∃ xs, o = .lst xs) ∨ ∃ kvs, o = .dK kvs) : Inv X pins σ H s := by
  have nown : ∀ {b x}, upd H D o b = some (.own x) → H b = some (.own x) := fun {b x} e => by
    by_cases z : b = D
    · subst z
      rw [upd_same] at e
      rcases hl with ⟨xs, h⟩ | ⟨xs, h⟩ <;> (rw [h] at e; cases e)
    · rwa [upd_ne z] at e
  have ntup : ∀ {b x}, upd H D o b = some (.tup x) → H b = some (.tup x) := fun {b x} e => by
    by_cases z : b = D
    · subst z
      rw [upd_same] at e
      rcases hl with ⟨xs, h⟩ | ⟨xs, h⟩ <;> (rw [h] at e; cases e)
    · rwa [upd_ne z] at e
  refine I.step (ch := []) (h' := s.heap) (g' := s.gens) (t' := s.toks) (d' := s.drawn) (fun b hb => nomatch hb) (fun _ _ _ _ _ e _ => e) (fun b u _ _ _ e _ => ⟨u.slots, e⟩) (fun b u hc e n => ?_) (fun b u _ e => ⟨u, e⟩) (fun b xs e => ntup e) (fun b u v e => ?_) (fun b ps e => ⟨#[], ?_⟩) (fun _ z => z) (fun b u e => ?_) I.bare
  · by_cases z : b = D
    · subst z; exact hn
    · rwa [upd_ne z] at n
  · by_cases z : b = D
    · subst z
      rw [upd_same] at e
      rcases hl with ⟨xs, h⟩ | ⟨xs, h⟩ <;> (rw [h] at e; cases e)
    · rwa [upd_ne z] at e
  · by_cases z : b = D
    · subst z
      rw [upd_same] at e
      rcases hl with ⟨xs, h⟩ | ⟨xs, h⟩ <;> (rw [h] at e; cases e)
    · rw [upd_ne z] at e; simpa using e
  · have z : b ≠ D := fun z => by rw [z, hn] at e; cases e
    have e' : upd H D o b = some u := by rw [upd_ne z]; exact e
    exact (I.hok b u e').stay (fun _ _ _ q => q) (fun c q => nown q) fun c xs q => ntup q
end
end Fl
set_option Elab.async false
set_option linter.all false
set_option maxRecDepth 100000
set_option maxHeartbeats 4000000
/-! Fl over the layer: list comprehensions. -/
namespace Fl
open PySem PySem.Spec L2

theorem ER.wipe {K : PySem.W.Frag} {m : Mp} {st : Store} {H : Hp} {ρ : Env} {σ : L2.St} (E : ER K m st H ρ σ) : ∀ vs : List Nat, ER K m st H (wipeE ρ vs) (wipe σ vs)
  | [] => E
  | v :: vs => ER.drop (ER.wipe E vs) v
abbrev blkOwn (scope : Scope) : Str → Bool := fun x => scope.names.lookup x == some .cell
theorem PR.reW {α : Type} {K : PySem.W.Frag} {CA : Tags} {XR : XRel} {W W' : WX} {σ σ' : L2.St} {r : R α} {m : Mp} {st : Store} {H : Hp} {ok : α → Mp → Store → Hp → Prop} (h : PR K CA XR W σ r m st H ok) (k : ∀ c d H, W c d σ H → W' c d σ' H) : PR K CA XR W' σ' r m st H ok := by
  cases r with
  | ok a s' => exact h
  | exc x s' => exact fun m' H' c d S T xr => k c d H' (h m' H' c d S T xr)
  | bad => exact h

theorem wipeE_len (ρ : Env) : ∀ own : List Nat, (wipeE ρ own).length = ρ.length
  | [] => rfl
  | v :: vs => by rw [wipeE, List.length_set, wipeE_len ρ vs]
theorem wipeE_get (ρ : Env) (i : Nat) : ∀ own : List Nat, (wipeE ρ own)[i]? = if i ∈ own then (if i < ρ.length then some none else none) else ρ[i]?
  | [] => by simp [wipeE]
  | v :: vs => by
    rw [wipeE]
    by_cases h : v = i
    · subst h
      rw [if_pos List.mem_cons_self]
      by_cases hl : v < ρ.length
      · rw [if_pos hl, List.getElem?_set_self (by rw [wipeE_len]; exact hl)]
      · rw [if_neg hl, List.getElem?_eq_none (by rw [List.length_set, wipeE_len]; omega)]
    · rw [List.getElem?_set_ne h, wipeE_get ρ i vs]
      have : (i ∈ v :: vs) ↔ i ∈ vs := by simp [Ne.symm h]
      simp only [this]
/-- the target stores own names alone -/
def GIn (own : List Nat) (g : CG) : Prop := ∀ w ρ s ρ' s', g w ρ s = .ok ρ' s' → ρ'.length = ρ.length ∧ ∀ i, i ∉ own → ρ'[i]? = ρ[i]?
theorem wipe_back {own : List Nat} {g : CG} (h : GIn own g) {w : Val} {ρ ρ' : Env} {s s' : Store} (e : g w (wipeE ρ own) s = .ok ρ' s') : wipeE ρ' own = wipeE ρ own := by
  obtain ⟨h1, h2⟩ := h _ _ _ _ _ e
  rw [wipeE_len] at h1
  refine List.ext_getElem? fun i => ?_
  rw [wipeE_get, wipeE_get]
  by_cases hi : i ∈ own
  · rw [if_pos hi, if_pos hi, h1]
  · rw [if_neg hi, if_neg hi, h2 i hi, wipeE_get, if_neg hi]
theorem gin_var {own : List Nat} {i : Nat} (h : i ∈ own) : GIn own (gVar i) := by
  intro w ρ s ρ' s' e
  cases e
  refine ⟨List.length_set, fun j hj => List.getElem?_set_ne fun z => hj (by rw [← z]; exact h)⟩
theorem gSets_in {own : List Nat} : ∀ {is : List Nat} {ws : List Val} {ρ ρ' : Env}, (∀ i ∈ is, i ∈ own) → gSets is ws ρ = some ρ' → ρ'.length = ρ.length ∧ ∀ i, i ∉ own → ρ'[i]? = ρ[i]?
  | [], [], ρ, ρ', _, e => by cases e; exact ⟨rfl, fun _ _ => rfl⟩
  | [], _ :: _, _, _, _, e => by simp [gSets] at e
  | _ :: _, [], _, _, _, e => by simp [gSets] at e
  | i :: is, w :: ws, ρ, ρ', h, e => by
    obtain ⟨h1, h2⟩ := gSets_in (ρ := ρ.set i (some w)) (fun j hj => h j (List.mem_cons_of_mem _ hj)) e
    refine ⟨h1.trans List.length_set, fun j hj => (h2 j hj).trans (List.getElem?_set_ne fun z => hj (by rw [← z]; exact h i List.mem_cons_self))⟩
theorem gin_tup {own is : List Nat} (h : ∀ i ∈ is, i ∈ own) : GIn own (gTup is) := by
  intro w ρ s ρ' s' e
  have e' : ((items w s).bind fun vs s => match gSets is vs ρ with
    | some ρ' => .ok ρ' s
    | none => .bad) = .ok ρ' s' := e
  cases q : items w s with
  | exc x t => rw [q] at e'; cases e'
  | bad => rw [q] at e'; cases e'
  | ok vs t =>
    rw [q, bind_ok] at e'
    cases q2 : gSets is vs ρ with
    | none => rw [q2] at e'; cases e'
    | some ρ2 =>
      rw [q2] at e'
      cases e'
      exact gSets_in h q2

section
variable {tb : Tab} {G : FEnv} {CA : Tags} {XR : XRel} {k : Nat} {N : List Str} {sc : Scope} {own : Str → Bool} {X : Cx} {W : WX}
theorem block_ctx (C : Cq tb G CA XR k N sc own X W) {F : Addr} (hF : X.env.frame = some F) (hst : ∃ e0 r, X.stack = e0 :: r ∧ e0.frame = some F) (s : Shared) (H : Hp) (σ : L2.St) (scope : Scope) (cl : List (Str × Addr)) (A : Addr) (fp : List Addr) :
    Cq tb G CA XR k N (relS scope sc) (blkOwn scope) ((X.blk s H scope (compEnvC scope cl A X.env) fp).wish fun u s' => XEL (X.blk s H scope (compEnvC scope cl A X.env) fp) F (fun c d _ H => W c d σ H) u s') (fun c d _ H => W c d σ H) := by
  refine ⟨⟨C.nm, C.nd, ?_, rfl, C.un, C.glob⟩, C.calm, ⟨F, hF, hst, ?_⟩, C.room⟩
  · show relS scope X.env.scope = _
    rw [C.sc]
  · rintro u s' ⟨a, B, sI, pI, σI, HI, cls, d, h1, J, h2⟩
    exact ⟨a, B, sI, pI, σI, HI, cls, d, h1, J.unwish, h2⟩

theorem lc_core1 (C : Cq tb G CA XR k N sc own X W) {pins : List (Addr × Obj)} {s : Shared} {σ : L2.St} {H : Hp} {Q : VK} {elt tg iter : Expr} {ifs : List Expr} {scope : Scope} {ownL : List (Str × Nat)} {pos pos' : Pos} {wi : TI} {use : Option (Value → Sem Unit)} {Qf : Value → Shared → Prop}
    {cell : Bool} {gm : CG} {tt : Option CT} {fm : CE} (hin : GIn (ownL.map (·.2)) gm) (I : Inv X pins σ H s) (hi : PI X tg iter wi) (ok : BlkOk N sc scope ownL)
    (hg : ∀ X' W', Cq tb G CA XR k N (relS scope sc) (blkOwn scope) X' W' → SG CA XR X' W' tg gm)
    (ht : ∀ X' W', Cq tb G CA XR k N (relS scope sc) (blkOwn scope) X' W' → PTs X' ifs (tMT X'.K CA XR W' (testM tt)))
    (he : ∀ X' W', Cq tb G CA XR k N (relS scope sc) (blkOwn scope) X' W' → SE CA XR X' W' elt fm) (hs : ∀ x, foldedSetIterable iter X.env x = pure x)
    (h : wi σ H fun J H1 => ∃ vs m st ρ, Wk X.K CA J vs m st H1 ∧ vs.length ≤ L ∧ SR X.K CA m st H1 ∧ ER X.K m st H1 ρ σ ∧
      PR X.K CA XR W σ ((compK gm tt fm (wipeE ρ (ownL.map (·.2))) [] vs >>= newL cell) st) m st H1 fun a m' st' H' => ∀ v, RepV X.K m' st' H' a v → Q v H')
    (hRR : ∀ D (ce : PySem.Env) s' m H', Inv X pins σ H' s' → Q (.ref D) H' → s'.heap.Ns ce.locals m → FpOk X pins H' ce.locals → cpost (model X.prog X.w) X.A X.xe use Qf (.ref D) ce (.ok .next) s') :
    wpAny (model X.prog X.w) X.A (comprehension (.ListComp elt [⟨tg, iter, ifs, 0⟩] scope pos) scope X.env pos' (newList []) false (eval iter X.env) use) Qf X.xe s := by
  obtain ⟨F, hF, hst, tk⟩ := C.takes
  have okX : BlkOk X.N X.env.scope scope ownL := by rw [C.nm, C.sc]; exact ok
  have ndX : X.N.Nodup := by rw [C.nm]; exact C.nd
  have free : ∀ y ∈ scope.names, y.2 = .free → ∃ c, X.env.cells.lookup y.1 = some c := by
    intro y hy e
    rcases okX.free y hy e with z | z
    · exact I.ok.has _ (.inl z)
    · exact I.ok.has _ (.inr z)
  refine comp_free (use := use) rfl hs (closure_ok free) ok.kind (fun y hy e => by rw [ok.uniq y hy, e]) (thn (hi.run pins s σ H _ I h) fun xv s1 hx => thn hx ?_)
  rintro itv s2 ⟨it, fp, tn, J, H2, rfl, I2, T, st2, f2, vs, m0, st0, ρ0, wk, hz, S0, E0, q0⟩
  refine wpAny_newObj_type (newEnv_comp ?_) (by show 0 ≤ sizeLine; decide)
  obtain ⟨D, hD⟩ : ∃ D, D = s2.heap.objs.size := ⟨_, rfl⟩
  rw [← hD]
  have hDn : H2 D = none := I2.hok.fresh (Nat.le_of_eq hD.symm)
  obtain ⟨s3, hs3⟩ : ∃ s3 : Shared, s3 = { s2 with heap := s2.heap.push { cls := .type "list", data := .seq ([] : List Value).toArray } } := ⟨_, rfl⟩
  rw [← hs3]
  have h3 : s3.heap = s2.heap.push { cls := .type "list", data := .seq ([] : List Value).toArray } := by rw [hs3]
  have D3 : s3.heap.get? D = some { cls := .type "list", data := .seq ([] : List Value).toArray } := by rw [h3, hD]; exact Heap.get?_push_size _ rfl
  have I3 : Inv X pins σ H2 s3 := by rw [hs3]; exact I2.kept (t' := s2.toks) fun b o e => Heap.get?_push_of_some _ e
  have fD : FpOk X pins H2 D := I2.fpOk (Nat.le_of_eq hD.symm) hDn
  have sz : ∀ b ∈ fp, b < s2.heap.objs.size := fun b hb => by
    obtain ⟨o, e, _⟩ := T.obj _ _ st2 b hb
    exact Heap.lt_size e
  have fpD : ∀ b ∈ D :: fp, FpOk X pins H2 b ∧ b < s3.heap.objs.size := fun b hb => by
    rcases List.mem_cons.mp hb with z | z
    · subst z; exact ⟨fD, Heap.lt_size D3⟩
    · exact ⟨f2 b z, by rw [h3, Heap.size_push]; exact Nat.lt_succ_of_lt (sz b z)⟩
  have Dfp : ∀ b ∈ fp, D ≠ b := fun b hb z => by have := sz b hb; rw [← z, hD] at this; exact absurd this (Nat.lt_irrefl _)
  have st3 : tn 0 s3.heap := T.keep _ _ _ st2 fun b _ o e => by rw [h3]; exact Heap.get?_push_of_some _ e
  have I4 := block_start I3 okX ndX fpD
  have Cb := fun cl A => block_ctx C hF hst s3 H2 σ scope cl A (D :: fp)
  obtain ⟨cl, hcl⟩ : ∃ cl, cl = cellsFrom (s3.heap.objs.size + 1) scope.names (cloFrom X.env.cells scope.names []) := ⟨_, rfl⟩
  rw [← hcl] at I4 ⊢
  obtain ⟨ce, hce⟩ : ∃ ce, ce = compEnvC scope cl s3.heap.objs.size X.env := ⟨_, rfl⟩
  have Cb := Cb cl s3.heap.objs.size
  rw [← hce] at I4 Cb
  have cL : ce.locals = s3.heap.objs.size := by rw [hce]; rfl
  have cF : ce.frame = X.env.frame := by rw [hce]; rfl
  have air := fun (acc : Value) (e : Value) (s' : Shared) => block_air (W := W) (scope := scope) (acc := acc) (use := use) (Qf := Qf) I3 hF hst tk cL cF (fun b hb => (fpD b hb).1) (e := e) (s' := s')
  obtain ⟨Y, hY⟩ : ∃ Y : Cx, Y = X.blk s3 H2 scope ce (D :: fp) := ⟨_, rfl⟩
  rw [← hY] at I4 Cb air
  show codeAny (model X.prog X.w) X.A (.compStart (.ListComp elt [⟨tg, iter, ifs, 0⟩] scope pos) 0 (.ref it) (.ref D) (compEnvC scope cl s3.heap.objs.size X.env)) (cpost (model X.prog X.w) X.A X.xe use Qf (.ref D) (compEnvC scope cl s3.heap.objs.size X.env)) { s3 with heap := pushCells (s3.heap.push { cls := .type "dict", data := .dict #[] }) scope.names }
  rw [← hce]
  obtain ⟨s4, hs4⟩ : ∃ s4 : Shared, s4 = { s3 with heap := pushCells (s3.heap.push { cls := .type "dict", data := .dict #[] }) scope.names } := ⟨_, rfl⟩
  rw [← hs4] at I4 ⊢
  have keep4 : ∀ b o, s3.heap.get? b = some o → s4.heap.get? b = some o := fun b o e => by rw [hs4]; exact pushCells_keeps _ _ _ _ (Heap.get?_push_of_some _ e)
  have st4 : tn 0 s4.heap := T.keep _ _ _ st3 fun b _ o e => keep4 b o e
  -- the context with its wish
  obtain ⟨Z, hZ⟩ : ∃ Z : Cx, Z = Y.wish fun u s' => XEL Y F (fun c d _ H => W c d σ H) u s' := ⟨_, rfl⟩
  rw [← hZ] at Cb
  have I4 : Inv Z [] (wipe σ (ownL.map (·.2))) H2 s4 := by rw [hZ]; exact I4.wish _
  have zP : Z.prog = X.prog := by rw [hZ, hY]
  have zw : Z.w = X.w := by rw [hZ, hY]
  have zK : Z.K = X.K := by rw [hZ, hY]
  have zA : Z.A = X.A := by rw [hZ, hY]
  have zx : Z.ex = D :: fp := by rw [hZ, hY]
  have zn : Z.pn = [] := by rw [hZ, hY]
  have ze : Z.env = ce := by rw [hZ, hY]
  have hc : Z.calm = true := Cb.calm
  have zair : ∀ (e : Value) (s' : Shared), Z.xe e s' → notedBy (model X.prog X.w) X.A ce (fun e s'' => cpost (model X.prog X.w) X.A X.xe use Qf (.ref D) ce (.error e) s'') e s' := fun e s' x => air _ e s' (by rw [hZ] at x; exact x)
  have stat : ∀ {pl : List (Addr × Obj)} {σ' : L2.St} {H' : Hp} {s' : Shared}, Inv Z [] σ' H' s' → (∀ p ∈ pl, p.1 = D) → (∀ b ∈ fp, H' b = none) → ∀ b ∈ fp, FpOk Z pl H' b := by
    intro pl σ' H' s' I' hpl hn b hb
    have hb' : b ∈ Z.ex := by rw [zx]; exact List.mem_cons_of_mem _ hb
    refine ⟨hn b hb, (I'.ok.exf b hb').1, I'.ok.exfs b hb', .inl hb', fun x c e => (I'.ok.exf b hb').2 x c e, fun p hp => ?_⟩
    rw [zn, List.nil_append] at hp
    rw [hpl p hp]
    exact Dfp b hb
  have pg := hg Z _ Cb
  have pt := ht Z _ Cb
  have pe := he Z _ Cb
  have q0' : PR X.K CA XR (fun c d _ H => W c d σ H) (wipe σ (ownL.map (·.2))) ((compK gm tt fm (wipeE ρ0 (ownL.map (·.2))) [] vs >>= newL cell) st0) m0 st0 H2 fun a m' st' H' => ∀ v, RepV X.K m' st' H' a v → Q v H' := q0.reW fun _ _ _ z => z
  have Ew := ER.wipe E0 (ownL.map (·.2))
  -- what holds at each turn
  let V : Nat → Nat → Hp → List L2.V → L2.St → Prop := fun i n H' av σi => i ≤ vs.length ∧ n = vs.length - i ∧ ∃ m st acc, SR X.K CA m st H' ∧ ER X.K m st H' (wipeE ρ0 (ownL.map (·.2))) σi ∧ Step m0 st0 H2 m st H' ∧ RepVs X.K m st H' acc av ∧ acc.length ≤ i ∧
    PR X.K CA XR (fun c d _ H => W c d σ H) (wipe σ (ownL.map (·.2))) ((compK gm tt fm (wipeE ρ0 (ownL.map (·.2))) acc (vs.drop i) >>= newL cell) st) m st H' fun a m' st' H' => ∀ v, RepV X.K m' st' H' a v → Q v H'
  have loop : codeAny (model X.prog X.w) X.A (.compLoop (.ListComp elt [⟨tg, iter, ifs, 0⟩] scope pos) 0 (.ref it) (.ref D) ce) (cpost (model X.prog X.w) X.A X.xe use Qf (.ref D) ce) s4 := by
    refine compLoop_any (fun n s' => ∃ i H' its av c0 σi, Inv Z [] σi H' s' ∧ tn i s'.heap ∧ (∀ b ∈ fp, H' b = none) ∧ H' D = none ∧ s'.heap.get? D = some { cls := .type "list", data := .seq (its : List Value).toArray c0 } ∧ Vals av its ∧ V i n H' av σi) ?_ vs.length
      ⟨0, H2, [], [], 0, _, I4, st4, fun b hb => (f2 b hb).1, hDn, keep4 _ _ D3, .nil, Nat.zero_le _, rfl, m0, st0, [], S0, Ew, Step.refl, rfl, Nat.zero_le _, q0'⟩
    rintro n s5 ⟨i, H5, its, av, c0, σi, I5, st5, n5, nD5, D5, va, hi5, rfl, m5, st5', acc, S5, E5, T5, ra, hacc, q5⟩
    have hDZ : D ∈ Z.ex := by rw [zx]; exact List.mem_cons_self
    have pinD : Inv Z [(D, { cls := .type "list", data := .seq its.toArray c0 })] σi H5 s5 := by
      refine I5.pins_of fun p hp => ?_
      obtain rfl : p = (D, { cls := .type "list", data := .seq its.toArray c0 }) := by simpa using hp
      exact ⟨D5, nD5, (I5.ok.exf D hDZ).1, I5.ok.exfs D hDZ, fun v z => by have z' : Data.seq its.toArray c0 = .cell v := z; cases z'⟩
    have pD : ∀ p ∈ [(D, ({ cls := .type "list", data := .seq its.toArray c0 } : Obj))], p.1 = D := fun p hp => by
      obtain rfl : p = (D, { cls := .type "list", data := .seq its.toArray c0 }) := by simpa using hp
      rfl
    by_cases hlt : i < vs.length
    · obtain ⟨go, yl⟩ := wk.go i _ (List.getElem?_eq_getElem hlt) m5 st5' H5 S5 T5
      have ti := T.item Z zP zw zK hc i _ s5 _ H5 (fun _ _ => False) pinD (stat I5 pD n5) st5 go
      rw [zA] at ti
      refine thnF ti ?_
      rintro r s6 ⟨u, rfl, h6⟩
      refine thnF h6 ?_
      rintro _ s7 ⟨x, H7, I7, r7, y7, st7, n7⟩
      obtain ⟨S7, T7, rx⟩ := yl x H7 y7
      have I7' := I7.pinned (stat (I7.pins_of fun p hp => absurd hp (by simp)) pD n7) (T.obj _ _ st7)
      rw [drop_at hlt] at q5
      have E7 := E5.mono T7
      let rest : Env → Store → R Val := fun ρ' s => (testM tt ρ' s).bind fun b s => ((if b then fm ρ' >>= fun x => compK gm tt fm (wipeE ρ0 (ownL.map (·.2))) (acc ++ [x]) (vs.drop (i + 1)) else compK gm tt fm (wipeE ρ0 (ownL.map (·.2))) acc (vs.drop (i + 1))) s).bind (newL cell)
      have e : (compK gm tt fm (wipeE ρ0 (ownL.map (·.2))) acc (vs[i] :: vs.drop (i + 1)) >>= newL cell) st5' = (gm vs[i] (wipeE ρ0 (ownL.map (·.2))) st5').bind rest := by
        rw [compK, bind_eq, bind_eq]
        cases gm vs[i] (wipeE ρ0 (ownL.map (·.2))) st5' with
        | exc y t => rfl
        | bad => rfl
        | ok ρ' t =>
          show ((testM tt ρ' t).bind _).bind _ = rest ρ' t
          show _ = (testM tt ρ' t).bind _
          cases testM tt ρ' t with
          | exc y t => rfl
          | bad => rfl
          | ok b t => rfl
      rw [e] at q5
      have q7 := q5.step T7
      have g7 : tG Z.K CA XR (fun c d _ H => W c d σ H) gm x σi H7 fun σ8 H8 => ∃ m8 st8 ρ8, SR X.K CA m8 st8 H8 ∧ Step m5 st5' H7 m8 st8 H8 ∧ ER X.K m8 st8 H8 ρ8 σ8 ∧ wipeE ρ8 (ownL.map (·.2)) = wipeE ρ0 (ownL.map (·.2)) ∧
          PR X.K CA XR (fun c d _ H => W c d σ H) (wipe σ (ownL.map (·.2))) (rest ρ8 st8) m8 st8 H8 fun a m' st' H' => ∀ v, RepV X.K m' st' H' a v → Q v H' := by
        rw [zK]
        exact ⟨m5, st5', _, vs[i], S7, E7, rx, ((PR.bind_of q7).reW fun _ _ _ z => z).some fun ρ8 st8 e8 m8 H8 S8 T8 h8 σ8 E8 => ⟨m8, st8, ρ8, S8, T8, E8, wipe_back hin e8, h8⟩⟩
      have run1 := pg.run _ s7 _ H7 x u _ I7' r7 g7
      rw [zP, zw, zA, ze] at run1
      refine wpAny_mono run1 (fun _ s8 hq => ?_) fun e s' x => zair e s' x
      obtain ⟨σ8, H8, I8, m8, st8, ρ8, S8, T8, E8, w8, q8⟩ := hq
      have t8 : tMT Z.K CA XR (fun c d _ H => W c d σ H) (testM tt) σ8 H8 fun b H9 => ∃ m9 st9, SR X.K CA m9 st9 H9 ∧ Step m5 st5' H7 m9 st9 H9 ∧ ER X.K m9 st9 H9 ρ8 σ8 ∧
          PR X.K CA XR (fun c d _ H => W c d σ H) (wipe σ (ownL.map (·.2))) (((if b then fm ρ8 >>= fun x => compK gm tt fm (wipeE ρ0 (ownL.map (·.2))) (acc ++ [x]) (vs.drop (i + 1)) else compK gm tt fm (wipeE ρ0 (ownL.map (·.2))) acc (vs.drop (i + 1))) st9).bind (newL cell)) m9 st9 H9 fun a m' st' H' => ∀ v, RepV X.K m' st' H' a v → Q v H' := by
        rw [zK]
        exact ⟨m8, st8, ρ8, S8, E8, ((PR.bind_of q8).reW fun _ _ _ z => z).mono fun b m9 st9 H9 S9 T9 h9 => ⟨m9, st9, S9, T8.trans T9, E8.mono T9, h9⟩⟩
      have run2 := pt.run _ s8 σ8 H8 _ I8 t8
      rw [zP, zw, zA, ze] at run2
      refine wpAny_mono run2 (fun b s9 hq => ?_) fun e s' x => zair e s' x
      obtain ⟨H9, I9, m9, st9, S9, T9, E9, q9⟩ := hq
      have T5' := T5.trans T7
      -- a turn's end
      have fin : ∀ {s' : Shared} {H' : Hp} {its' : List Value} {av' : List L2.V} {c' : Nat}, Inv Z (pinsAt fp s7.heap) σ8 H' s' → H' D = none → s'.heap.get? D = some { cls := .type "list", data := .seq its'.toArray c' } → Vals av' its' → V (i + 1) (vs.length - (i + 1)) H' av' (wipe σ8 (ownL.map (·.2))) →
          ∃ n', n' < vs.length - i ∧ ∃ i H' its av c0 σi, Inv Z [] σi H' s' ∧ tn i s'.heap ∧ (∀ b ∈ fp, H' b = none) ∧ H' D = none ∧ s'.heap.get? D = some { cls := .type "list", data := .seq (its : List Value).toArray c0 } ∧ Vals av its ∧ V i n' H' av σi := by
        intro s' H' its' av' c' I' nD gD va' hV
        have pin' : ∀ b ∈ fp, ∀ o, s7.heap.get? b = some o → s'.heap.get? b = some o ∧ H' b = none := fun b hb o e =>
          let z := I'.pin (b, o) (List.mem_append_right _ (mem_pinsAt hb e))
          ⟨z.1, z.2.1⟩
        refine ⟨vs.length - (i + 1), by omega, i + 1, H', its', av', c', _, (I'.pins_of fun p hp => absurd hp (by simp)).weak (wipe_length _ _) (fun j v e => (wipe_some e).1), T.keep _ _ _ st7 fun b hb o e => (pin' b hb o e).1, fun b hb => ?_, nD, gD, va', hV⟩
        obtain ⟨o, e, _⟩ := T.obj _ _ st7 b hb
        exact (pin' b hb o e).2
      have dpin : ∀ {σ' : L2.St} {H' : Hp} {s' : Shared}, Inv Z ([(D, { cls := .type "list", data := .seq its.toArray c0 })] ++ pinsAt fp s7.heap) σ' H' s' → s'.heap.get? D = some { cls := .type "list", data := .seq its.toArray c0 } ∧ H' D = none ∧ Inv Z (pinsAt fp s7.heap) σ' H' s' := fun I' =>
        let z := I'.pin (D, { cls := .type "list", data := .seq its.toArray c0 }) (List.mem_append_right _ (List.mem_append_left _ (by simp)))
        ⟨z.1, z.2.1, I'.pins_of fun p hp => I'.pin p (List.mem_append_right _ (List.mem_append_right _ hp))⟩
      cases b with
      | false =>
        simp only [Bool.false_eq_true, if_false] at q9 ⊢
        obtain ⟨d1, d2, d3⟩ := dpin I9
        refine fin d3 d2 d1 va ⟨by omega, rfl, m9, st9, acc, S9, ?_, T5'.trans T9, RepVs.mono (T7.trans T9) _ _ ra, by omega, q9⟩
        have := ER.wipe E9 (ownL.map (·.2))
        rwa [w8] at this
      | true =>
        simp only [if_true] at q9 ⊢
        have t10 : tM Z.K CA XR (fun c d _ H => W c d σ H) fm σ8 H9 fun y H10 => ∃ m10 st10 x, SR X.K CA m10 st10 H10 ∧ Step m5 st5' H7 m10 st10 H10 ∧ ER X.K m10 st10 H10 ρ8 σ8 ∧ RepV X.K m10 st10 H10 x y ∧
            PR X.K CA XR (fun c d _ H => W c d σ H) (wipe σ (ownL.map (·.2))) ((compK gm tt fm (wipeE ρ0 (ownL.map (·.2))) (acc ++ [x]) (vs.drop (i + 1)) >>= newL cell) st10) m10 st10 H10 fun a m' st' H' => ∀ v, RepV X.K m' st' H' a v → Q v H' := by
          rw [zK]
          have e10 : ((fm ρ8 >>= fun x => compK gm tt fm (wipeE ρ0 (ownL.map (·.2))) (acc ++ [x]) (vs.drop (i + 1))) st9).bind (newL cell) = (fm ρ8 st9).bind fun x => compK gm tt fm (wipeE ρ0 (ownL.map (·.2))) (acc ++ [x]) (vs.drop (i + 1)) >>= newL cell := by
            rw [bind_eq]
            cases fm ρ8 st9 with
            | exc y t => rfl
            | bad => rfl
            | ok b t => rfl
          rw [e10] at q9
          exact ⟨m9, st9, ρ8, S9, E9, ((PR.bind_of q9).reW fun _ _ _ z => z).mono fun x m10 st10 H10 S10 T10 h10 v rv => ⟨m10, st10, x, S10, T9.trans T10, E9.mono T10, rv, h10⟩⟩
        have run3 := pe.run _ s9 σ8 H9 _ I9 t10
        rw [zP, zw, zA, ze] at run3
        refine wpAny_mono run3 (fun y s10 hq => ?_) fun e s' x => zair e s' x
        obtain ⟨yv, H10, I10, ry, m10, st10, xw, S10, T10, E10, rx10, q10⟩ := hq
        obtain ⟨d1, d2, d3⟩ := dpin I10
        have hav : av.length < vs.length := by rw [← ra.length]; omega
        have tr : Inv Z (pinsAt fp s7.heap) σ8 (upd H10 D (.lst av)) s10 := by
          refine take_in d3 d2 ⟨lineOf (by omega), its, c0, va, d1⟩ (.inl hDZ) (d3.ok.exf D hDZ).1 (fun x c e => (d3.ok.exf D hDZ).2 x c e) fun p hp => ?_
          rw [zn, List.nil_append] at hp
          exact fun z => Dfp p.1 (of_pinsAt hp).1 z.symm
        have ap := app_ok (X := Z) (E := notedBy (model X.prog X.w) X.A ce fun e s'' => cpost (model X.prog X.w) X.A X.xe use Qf (.ref D) ce (.error e) s'') (v := y) (y := yv) (Q := fun _ s' => ∃ n', n' < vs.length - i ∧ ∃ i H' its av c0 σi, Inv Z [] σi H' s' ∧ tn i s'.heap ∧ (∀ b ∈ fp, H' b = none) ∧ H' D = none ∧
          s'.heap.get? D = some { cls := .type "list", data := .seq (its : List Value).toArray c0 } ∧ Vals av its ∧ V i n' H' av σi) tr upd_same (lineLt (by omega)) ry fun s11 I11 => ?_
        · rw [zP, zw, zA] at ap
          exact ap
        · rw [upd_upd] at I11
          obtain ⟨_, its2, c2, va2, g2⟩ := (show ObjOk Z.prog Z.w _ s11.heap D (.lst (av ++ [yv])) from I11.hok D _ upd_same)
          refine fin (let_out I11 d2 (.inl ⟨_, rfl⟩)) d2 g2 va2 ⟨by omega, rfl, m10, st10, acc ++ [xw], S10, ?_, T5'.trans T10, RepVs.append (RepVs.mono (T7.trans T10) _ _ ra) (show RepVs X.K m10 st10 H10 [xw] [yv] from ⟨yv, [], rfl, rx10, rfl⟩), by rw [List.length_append, List.length_singleton]; omega, q10⟩
          have := ER.wipe E10 (ownL.map (·.2))
          rwa [w8] at this
    · have hie : i = vs.length := by omega
      subst hie
      rw [List.drop_length] at q5
      have stop := wk.stop _ m5 st5' H5 (Nat.le_refl _) S5 T5
      have td := T.done Z zP zw zK hc vs.length _ s5 _ H5 (fun _ _ => False) pinD (stat I5 pD n5) st5 stop
      rw [zA] at td
      refine thnF td ?_
      rintro r s6 ⟨rfl, I6⟩
      have dp := I6.pin (D, { cls := .type "list", data := .seq its.toArray c0 }) (List.mem_append_right _ (by simp))
      rw [hZ, hY] at I6
      have I6 := I6.unwish
      have I7 : Inv X pins σ H5 s6 := I3.call' (ch := D :: fp) I6.os I6.base I6.hok I6.bare fun b hb => ⟨(fpD b hb).1.2.2.2.1, (fpD b hb).1.2.1, (fpD b hb).1.2.2.2.2.1, (fpD b hb).1.2.2.2.2.2⟩
      have nC : H5 ce.locals = none := I6.free
      obtain ⟨mm, hns, _⟩ := I6.loc
      have hav : av.length ≤ L := by rw [← ra.length]; omega
      have I8 : Inv X pins σ (upd H5 D (.lst av)) s6 := take_in I7 dp.2.1 ⟨lineOf hav, its, c0, va, dp.1⟩ fD.2.2.2.1 fD.2.1 fD.2.2.2.2.1 fD.2.2.2.2.2
      have qq : Q (.ref D) (upd H5 D (.lst av)) := newL_ok (W := fun c d _ H => W c d σ H) (σ := wipe σ (ownL.map (·.2))) S5 ra (by omega) q5 D dp.2.1
      have neD : ce.locals ≠ D := by
        rw [cL]
        exact Nat.ne_of_gt (Heap.lt_size D3)
      refine hRR D ce s6 mm _ I8 qq hns ?_
      rw [cL] at nC neD ⊢
      exact I3.fpOk (Nat.le_refl _) (by rw [upd_ne neD]; exact nC)
  exact codeAny_compStart_list loop (T.self X.A 0 _ _ _ st4 loop)
end
end Fl
set_option Elab.async false
set_option linter.all false
set_option maxRecDepth 100000
set_option maxHeartbeats 4000000
/-! Fl over the layer: list comprehensions as values, and stored. -/
namespace Fl
open PySem PySem.Spec L2

/-- BlkOk, looked at -/
def blkB (N : List Str) (sc scope : Scope) (own : List (Str × Nat)) : Bool :=
  decide (scope.kind = .function) && (scope.names.all (fun y => decide (scope.names.lookup y.1 = some y.2)) && (own.all (fun p => decide (N[p.2]? = some p.1)) &&
    (scope.names.all (fun y => !decide (y.2 = .free) || (decide (sc.names.lookup y.1 = some .cell) || decide (sc.names.lookup y.1 = some .free))) &&
      scope.names.all (fun y => !(decide (y.2 = .local) || decide (y.2 = .cell)) || (decide (y.1 ∈ own.map (·.1)) || !decide (y.1 ∈ N))))))
theorem blk_of {N : List Str} {sc scope : Scope} {own : List (Str × Nat)} (h : blkB N sc scope own = true) : BlkOk N sc scope own := by
  unfold blkB at h
  simp only [Bool.and_eq_true, decide_eq_true_eq, List.all_eq_true, Bool.or_eq_true, Bool.not_eq_true', decide_eq_false_iff_not] at h
  obtain ⟨h1, h2, h3, h4, h5⟩ := h
  refine ⟨h1, h2, h3, fun y hy e => ?_, fun y hy e => ?_⟩
  · rcases h4 y hy with z | z
    · exact absurd e z
    · exact z
  · rcases h5 y hy with z | z
    · rcases e with e | e
      · rw [e] at z; simp at z
      · rw [e] at z; simp at z
    · exact z

section
variable {tb : Tab} {G : FEnv} {CA : Tags} {XR : XRel} {k : Nat} {N : List Str} {sc : Scope} {own : Str → Bool} {X : Cx} {W : WX}
variable {elt tg iter : Expr} {ifs : List Expr} {scope : Scope} {ownL : List (Str × Nat)} {pos spos py : Pos} {im : CI} {gm : CG} {tt : Option CT} {fm : CE}
theorem compK_L {cell : Bool} {ρ : Env} {vs : List Val} {s : Store} : (compK gm tt fm ρ [] vs >>= newL cell) s = (compL gm tt fm ρ vs >>= newL cell) s := by
  rw [bind_eq, bind_eq, compK_eq]
  cases compL gm tt fm ρ vs s with
  | exc x t => rfl
  | bad => rfl
  | ok xs t => rfl
/-- the tests of a clause -/
theorem sts_nil : PTs X [] (tMT X.K CA XR W (testM none)) := ⟨fun pins s σ H Q I ⟨m, st, ρ, S, E, q⟩ => pts_nil.run pins s σ H Q I (PR.here S (q : PR X.K CA XR W σ (.ok true st) m st H fun b m' st' H' => Q b H'))⟩
theorem sts_one {c : Expr} {t : CT} (h : STt CA XR X W c t) : PTs X [c] (tMT X.K CA XR W (testM (some t))) := pts_one h
/-- what the clause's walk hands on -/
theorem lc_list {σ : L2.St} {H : Hp} {Q : VK} {cell : Bool} (h : tM X.K CA XR W (eComp cell (ownL.map (·.2)) im gm tt fm) σ H Q) : tIL X.K CA XR W im σ H fun J H1 => ∃ vs m st ρ, Wk X.K CA J vs m st H1 ∧ vs.length ≤ L ∧ SR X.K CA m st H1 ∧ ER X.K m st H1 ρ σ ∧
    PR X.K CA XR W σ ((compK gm tt fm (wipeE ρ (ownL.map (·.2))) [] vs >>= newL cell) st) m st H1 fun a m' st' H' => ∀ v, RepV X.K m' st' H' a v → Q v H' := by
  obtain ⟨m, st, ρ, S, E, q⟩ := h
  exact ⟨m, st, ρ, S, E, (PR.bind_of q).mono fun vs m1 st1 H1 S1 T1 h1 J wk hz => ⟨vs, m1, st1, ρ, wk, hz, S1, E.mono T1, by rw [compK_L]; exact h1⟩⟩
theorem lc_any {σ : L2.St} {H : Hp} {Q : VK} {cell : Bool} (h : tM X.K CA XR W (eCompR cell (ownL.map (·.2)) im gm tt fm) σ H Q) : tI X.K CA XR W im σ H fun J H1 => ∃ vs m st ρ, Wk X.K CA J vs m st H1 ∧ vs.length ≤ L ∧ SR X.K CA m st H1 ∧ ER X.K m st H1 ρ σ ∧
    PR X.K CA XR W σ ((compK gm tt fm (wipeE ρ (ownL.map (·.2))) [] vs >>= newL cell) st) m st H1 fun a m' st' H' => ∀ v, RepV X.K m' st' H' a v → Q v H' := by
  obtain ⟨m, st, ρ, S, E, q⟩ := h
  refine ⟨m, st, ρ, S, E, (PR.bind_of q).mono fun vs m1 st1 H1 S1 T1 h1 J wk => ?_⟩
  split at h1
  · rename_i hz
    exact ⟨vs, m1, st1, ρ, wk, hz, S1, E.mono T1, by rw [compK_L]; exact h1⟩
  · exact h1.elim
/-- [elt for tg in iter if ..] -/
theorem lc_val {wi : TI} {te : TE} {cell : Bool} (C : Cq tb G CA XR k N sc own X W) (hin : GIn (ownL.map (·.2)) gm) (ok : BlkOk N sc scope ownL) (hi : PI X tg iter wi)
    (hw : ∀ σ H Q, te σ H Q → wi σ H fun J H1 => ∃ vs m st ρ, Wk X.K CA J vs m st H1 ∧ vs.length ≤ L ∧ SR X.K CA m st H1 ∧ ER X.K m st H1 ρ σ ∧
      PR X.K CA XR W σ ((compK gm tt fm (wipeE ρ (ownL.map (·.2))) [] vs >>= newL cell) st) m st H1 fun a m' st' H' => ∀ v, RepV X.K m' st' H' a v → Q v H')
    (hg : ∀ X' W', Cq tb G CA XR k N (relS scope sc) (blkOwn scope) X' W' → SG CA XR X' W' tg gm)
    (ht : ∀ X' W', Cq tb G CA XR k N (relS scope sc) (blkOwn scope) X' W' → PTs X' ifs (tMT X'.K CA XR W' (testM tt)))
    (he : ∀ X' W', Cq tb G CA XR k N (relS scope sc) (blkOwn scope) X' W' → SE CA XR X' W' elt fm) (hs : ∀ x, foldedSetIterable iter X.env x = pure x) :
    PE X (.ListComp elt [⟨tg, iter, ifs, 0⟩] scope pos) te := by
  refine ⟨fun pins s σ H Q I q => ?_⟩
  rw [eval_ListComp]
  refine lc_core1 C hin I hi ok hg ht he hs (hw σ H Q q) fun D ce s' m H' J q hn fo => ⟨m, hn, fun h2 sb => ?_⟩
  exact ⟨.ref D, H', J.turned (t' := s'.toks) (fun b o hb e => (sb.2 b hb).trans e) fo.1 fo.2.1 fo.2.2.2.1 fo.2.2.2.2.1 fo.2.2.2.2.2, rfl, q⟩
/-- name = [..], on the name's own line -/
theorem lc_set {wi : TI} {te : TE} {cell : Bool} (C : Cq tb G CA XR k N sc own X W) (i : Nat) {y : Str} (hy : N[i]? = some y) (hyl : sc.names.lookup y = some .local) (hk : sc.kind = .function) (hl : (py.line == pos.line) = true)
    (ha : (scope.names.any fun (n, k) => n == y && (k == .local || k == .cell)) = false) (hin : GIn (ownL.map (·.2)) gm) (ok : BlkOk N sc scope ownL) (hi : PI X tg iter wi)
    (hw : ∀ σ H Q, te σ H Q → wi σ H fun J H1 => ∃ vs m st ρ, Wk X.K CA J vs m st H1 ∧ vs.length ≤ L ∧ SR X.K CA m st H1 ∧ ER X.K m st H1 ρ σ ∧
      PR X.K CA XR W σ ((compK gm tt fm (wipeE ρ (ownL.map (·.2))) [] vs >>= newL cell) st) m st H1 fun a m' st' H' => ∀ v, RepV X.K m' st' H' a v → Q v H')
    (hg : ∀ X' W', Cq tb G CA XR k N (relS scope sc) (blkOwn scope) X' W' → SG CA XR X' W' tg gm)
    (ht : ∀ X' W', Cq tb G CA XR k N (relS scope sc) (blkOwn scope) X' W' → PTs X' ifs (tMT X'.K CA XR W' (testM tt)))
    (he : ∀ X' W', Cq tb G CA XR k N (relS scope sc) (blkOwn scope) X' W' → SE CA XR X' W' elt fm) (hs : ∀ x, foldedSetIterable iter X.env x = pure x) :
    PS X (.Assign [.Name y py] (.ListComp elt [⟨tg, iter, ifs, 0⟩] scope pos) spos) (tAsg te (gName i)) := by
  have hyl' : X.env.scope.names.lookup y = some .local := by rw [C.sc]; exact hyl
  have sw : swapsWith (.ListComp elt [⟨tg, iter, ifs, 0⟩] scope pos) (some (.Name y py)) spos.line X.env = pure true := sw_true (by rw [C.sc]; exact hk) hyl' hl ha
  refine ⟨fun pins s σ H D I q => ?_⟩
  rw [exec_Assign_Name_used _ _ _ _ sw]
  refine wpAny_bind (wpAny_standAt (wpAny_bind ?_))
  show wpAny _ X.A (do let _ ← comprehension (.ListComp elt [⟨tg, iter, ifs, 0⟩] scope pos) scope X.env (firstIterPos [⟨tg, iter, ifs, 0⟩] pos) (newList []) false (eval iter X.env) (some (assign (.Name y py) X.env)); pure _) _ _ s
  have q' : te σ H fun x H1 => gName i x σ H1 D.nx := q
  refine wpAny_bind (thn (lc_core1 (Qf := fun _ s' => SP X pins D .next s') C hin I hi ok hg ht he hs (hw σ H _ q') fun A ce s' m H' J q hn fo => ?_) fun _ s' hq => wpAny_pure (wpAny_pure hq))
  show wpAny _ _ (assign (.Name y py) X.env (.ref A)) _ _ _
  refine wpAny_assign_Name (store_ok2 (v := V.ref A) J (by rw [C.nm]; exact C.nd) (by rw [C.nm]; exact hy) (.inl hyl') rfl (fun s2 I2 hh => ?_) (.inr hyl'))
  obtain ⟨b, sb, hb⟩ := hh
  have ne : ce.locals ≠ b := by
    rcases hb with z | z
    · rw [z]; exact fo.2.1
    · exact fun e => fo.2.2.2.2.1 y b z e.symm
  refine ⟨m, hn.sameBut sb ne, fun h3 sb3 => ?_⟩
  exact ⟨_, H', I2.turned (t' := s2.toks) (fun b o hb e => (sb3.2 b hb).trans e) fo.1 fo.2.1 fo.2.2.2.1 fo.2.2.2.2.1 fo.2.2.2.2.2, q⟩
theorem se_lc (cell : Bool) (C : Cq tb G CA XR k N sc own X W) (hin : GIn (ownL.map (·.2)) gm) (ok : BlkOk N sc scope ownL) (hi : SIL CA XR X W tg iter im)
    (hg : ∀ X' W', Cq tb G CA XR k N (relS scope sc) (blkOwn scope) X' W' → SG CA XR X' W' tg gm)
    (ht : ∀ X' W', Cq tb G CA XR k N (relS scope sc) (blkOwn scope) X' W' → PTs X' ifs (tMT X'.K CA XR W' (testM tt)))
    (he : ∀ X' W', Cq tb G CA XR k N (relS scope sc) (blkOwn scope) X' W' → SE CA XR X' W' elt fm) (hs : ∀ x, foldedSetIterable iter X.env x = pure x := by intro _; rfl) :
    SE CA XR X W (.ListComp elt [⟨tg, iter, ifs, 0⟩] scope pos) (eComp cell (ownL.map (·.2)) im gm tt fm) := lc_val C hin ok hi (fun σ H Q q => lc_list q) hg ht he hs
theorem se_lcR (cell : Bool) (C : Cq tb G CA XR k N sc own X W) (hin : GIn (ownL.map (·.2)) gm) (ok : BlkOk N sc scope ownL) (hi : SI CA XR X W tg iter im)
    (hg : ∀ X' W', Cq tb G CA XR k N (relS scope sc) (blkOwn scope) X' W' → SG CA XR X' W' tg gm)
    (ht : ∀ X' W', Cq tb G CA XR k N (relS scope sc) (blkOwn scope) X' W' → PTs X' ifs (tMT X'.K CA XR W' (testM tt)))
    (he : ∀ X' W', Cq tb G CA XR k N (relS scope sc) (blkOwn scope) X' W' → SE CA XR X' W' elt fm) (hs : ∀ x, foldedSetIterable iter X.env x = pure x := by intro _; rfl) :
    SE CA XR X W (.ListComp elt [⟨tg, iter, ifs, 0⟩] scope pos) (eCompR cell (ownL.map (·.2)) im gm tt fm) := lc_val C hin ok hi (fun σ H Q q => lc_any q) hg ht he hs
theorem asg_read {f : CE} (i : Nat) : ∀ D σ H, tS X.K CA XR W (sAsg f (gVar i)) D σ H → tAsg (tM X.K CA XR W f) (gName i) D σ H := fun D σ H ⟨m, st, ρ, S, E, q⟩ =>
  ⟨m, st, ρ, S, E, (PO.expr E q).mono fun x m1 st1 H1 S1 T1 h1 v rv => h1 m1 H1 _ S1 Step.refl ((E.mono T1).set rv i)⟩
theorem ss_lc (cell : Bool) (C : Cq tb G CA XR k N sc own X W) (i : Nat) {y : Str} (hy : N[i]? = some y) (hyl : sc.names.lookup y = some .local) (hk : sc.kind = .function) (hl : (py.line == pos.line) = true)
    (ha : (scope.names.any fun (n, k) => n == y && (k == .local || k == .cell)) = false) (hin : GIn (ownL.map (·.2)) gm) (ok : BlkOk N sc scope ownL) (hi : SIL CA XR X W tg iter im)
    (hg : ∀ X' W', Cq tb G CA XR k N (relS scope sc) (blkOwn scope) X' W' → SG CA XR X' W' tg gm)
    (ht : ∀ X' W', Cq tb G CA XR k N (relS scope sc) (blkOwn scope) X' W' → PTs X' ifs (tMT X'.K CA XR W' (testM tt)))
    (he : ∀ X' W', Cq tb G CA XR k N (relS scope sc) (blkOwn scope) X' W' → SE CA XR X' W' elt fm) (hs : ∀ x, foldedSetIterable iter X.env x = pure x := by intro _; rfl) :
    S1 CA XR X W (.Assign [.Name y py] (.ListComp elt [⟨tg, iter, ifs, 0⟩] scope pos) spos) (sAsg (eComp cell (ownL.map (·.2)) im gm tt fm) (gVar i)) :=
  PS.weak (lc_set C i hy hyl hk hl ha hin ok hi (fun σ H Q q => lc_list q) hg ht he hs) (asg_read i)
theorem ss_lcR (cell : Bool) (C : Cq tb G CA XR k N sc own X W) (i : Nat) {y : Str} (hy : N[i]? = some y) (hyl : sc.names.lookup y = some .local) (hk : sc.kind = .function) (hl : (py.line == pos.line) = true)
    (ha : (scope.names.any fun (n, k) => n == y && (k == .local || k == .cell)) = false) (hin : GIn (ownL.map (·.2)) gm) (ok : BlkOk N sc scope ownL) (hi : SI CA XR X W tg iter im)
    (hg : ∀ X' W', Cq tb G CA XR k N (relS scope sc) (blkOwn scope) X' W' → SG CA XR X' W' tg gm)
    (ht : ∀ X' W', Cq tb G CA XR k N (relS scope sc) (blkOwn scope) X' W' → PTs X' ifs (tMT X'.K CA XR W' (testM tt)))
    (he : ∀ X' W', Cq tb G CA XR k N (relS scope sc) (blkOwn scope) X' W' → SE CA XR X' W' elt fm) (hs : ∀ x, foldedSetIterable iter X.env x = pure x := by intro _; rfl) :
    S1 CA XR X W (.Assign [.Name y py] (.ListComp elt [⟨tg, iter, ifs, 0⟩] scope pos) spos) (sAsg (eCompR cell (ownL.map (·.2)) im gm tt fm) (gVar i)) :=
  PS.weak (lc_set C i hy hyl hk hl ha hin ok hi (fun σ H Q q => lc_any q) hg ht he hs) (asg_read i)
/-- a captured name takes no part in the exchange -/
theorem sw_cell {a : Expr} {gs : List Comprehension} {env : PySem.Env} {y : Str} {l : Nat} (h : env.scope.names.lookup y ≠ some .local) : swapsWith (.ListComp a gs scope pos) (some (.Name y py)) l env = pure false := by
  have e : (env.kindOf y == some NameKind.local) = false := beq_eq_false_iff_ne.mpr h
  unfold swapsWith
  simp only [e, Bool.and_false, Bool.false_and]
end
end Fl
set_option Elab.async false
set_option linter.all false
set_option maxRecDepth 100000
set_option maxHeartbeats 4000000
/-! Fl over the layer: try. -/
namespace Fl
open PySem PySem.Spec L2

abbrev wNo : WX := fun _ _ _ _ => False
/-- a suite that has the exception in slot i -/
def tX (K : PySem.W.Frag) (CA : Tags) (XR : XRel) (i : Nat) (f : SM) (a : Addr) (cls : Value) (d : Option Addr) : TS := fun D σ H => σ[i]? = some (some (.ref a)) ∧
  ∃ m st ρ x, SR K CA m st H ∧ ER K m st H ρ σ ∧ ρ[i]? = some (some (.ex x)) ∧ XR x cls d H ∧ PO K CA XR wNo D m st H (calmO (f ρ st))
section
variable {tb : Tab} {G : FEnv} {CA : Tags} {XR : XRel} {k : Nat} {N : List Str} {sc : Scope} {own : Str → Bool} {X : Cx} {W : WX}
variable {body suite : List Stmt} {b0 : Stmt} {fs gs : SM} {np pos pos' : Pos} {x n : Str}

theorem names_of (C : Cw tb G CA XR k N sc own X W) {uv : Value} (hg : glbB sc x = true) (h : X.mg x = some uv ∨ (X.mg x = none ∧ bootBuiltins x = some uv)) : Names X x uv :=
  ⟨gl_of C hg, gl_dbg hg, h.imp id fun z => ⟨z.1, z.2, gl_nm hg⟩⟩
theorem Cs.tr (C : Cs tb G CA XR k N sc X W) {W' : WX} (pn : List (Addr × Obj)) (xe : Value → Shared → Prop) (tk : Takes (X.tr pn xe) W') (hp : PassesOwn (model X.prog X.w) X.A X.env xe) : Cs tb G CA XR k N sc (X.tr pn xe) W' := by
  refine ⟨⟨⟨C.q.nm, C.q.nd, C.q.sc, C.q.own, C.q.un, C.q.glob⟩, C.q.calm, ⟨_, C.hf, ⟨_, _, C.hs, C.hf⟩, ?_⟩, C.q.room⟩, C.hs, C.hf, hp, tk, C.kind⟩
  rintro u s' ⟨a, B, sI, pins, σ, H', cls, d, ⟨h1, h2⟩, h3, ⟨h4, h5⟩, h6, h7, h8, h9⟩
  exact tk u s' ⟨a, B, sI, pins, σ, H', cls, d, h1, h3, h6, h7, h4, h5, h8, h9, h2⟩
theorem Cs.inSuite (C : Cs tb G CA XR k N sc X W) (a : Addr) (pn : List (Addr × Obj)) : Cw tb G CA XR k N sc (fun _ => true) (X.suite a pn) wNo := by
  refine ⟨C.q.nm, C.q.nd, C.q.sc, C.q.own, ?_, C.q.glob⟩
  have := C.q.un
  exact this
theorem PO.no {K : PySem.W.Frag} {D : Ends} {m : Mp} {st : Store} {H : Hp} {o : SO} (h : PO K CA XR W D m st H (calmO o)) : PO K CA XR wNo D m st H (calmO o) := by
  cases o with
  | ex x ρ s => exact h
  | nx ρ s => exact h
  | rt ρ s => exact h
  | bk ρ s => exact h
  | ct ρ s => exact h
  | bad => exact h
theorem PO.unc {K : PySem.W.Frag} {D : Ends} {m : Mp} {st : Store} {H : Hp} {o : SO} (h : PO K CA XR wNo D m st H (calmO o)) : PO K CA XR wNo D m st H o := by
  cases o with
  | ex x ρ s => exact (show False from h).elim
  | nx ρ s => exact h
  | rt ρ s => exact h
  | bk ρ s => exact h
  | ct ρ s => exact h
  | bad => exact h
/-- except X: -/
theorem ss_try (C : Cs tb G CA XR k N sc X W) (t : String) (hg : glbB sc x = true) (hm : (x, t) ∈ tb.exMs) (hb : ∀ X' W', Cs tb G CA XR k N sc X' W' → SS CA XR X' W' body fs)
    (hsu : ∀ X', Cw tb G CA XR k N sc (fun _ => true) X' wNo → SS CA XR X' wNo (b0 :: suite) gs) :
    S1 CA XR X W (.Try body [.ExceptHandler (some (.Name x np)) none (b0 :: suite) pos'] [] [] pos) (sTry fs t none gs) := by
  obtain ⟨uv, hn, hx⟩ := C.q.glob.exMs x t hm
  refine PS.weak (ps_try_only (Wout := W) (tb := fun W' => tS X.K CA XR W' fs) (ts := fun _ _ _ => tS X.K CA XR wNo gs) C.hs C.hf (names_of C.q.toCw hg hn) C.tk (fun W' pn xe tk hp => hb _ _ (C.tr pn xe tk hp)) fun a oe cls d pn _ _ => hsu _ (C.inSuite a _)) ?_
  rintro D σ H ⟨m, st, ρ, S, E, q⟩
  refine ⟨m, st, ρ, S, E, ?_⟩
  unfold sTry at q
  cases e : fs ρ st with
  | nx ρ' s' => rw [e] at q; exact q
  | rt v s' => rw [e] at q; exact q
  | bk v s' => rw [e] at q; exact q
  | ct v s' => rw [e] at q; exact q
  | bad => rw [e] at q; exact q
  | ex y ρ1 s1 =>
    rw [e] at q
    intro m' H' σ' cls d S' T' E' xr
    dsimp only at q
    refine ⟨excSub y.cls t, hx y cls d H' xr, fun hb _ _ => ?_, fun hb => ?_⟩
    · rw [if_pos hb] at q
      exact ⟨m', s1, ρ1, S', E', (PO.no (q.step T')).unc⟩
    · rw [if_neg (by rw [hb]; decide)] at q
      exact q m' H' σ' cls d S' T' E' xr
/-- except X as n: -/
theorem ss_try_as (C : Cs tb G CA XR k N sc X W) (i : Nat) (t : String) (hi : N[i]? = some n) (hl : sc.names.lookup n = some .local) (hg : glbB sc x = true) (hm : (x, t) ∈ tb.exMs) (hb : ∀ X' W', Cs tb G CA XR k N sc X' W' → SS CA XR X' W' body fs)
    (hsu : ∀ a oe cls d pn, Zc cls d oe → (∃ vs, oe.data = .fields vs) → Cw tb G CA XR k N sc (fun _ => true) (X.suite a ((a, oe) :: pn)) wNo → PSs (X.suite a ((a, oe) :: pn)) (b0 :: suite) (tX X.K CA XR i gs a cls d)) :
    S1 CA XR X W (.Try body [.ExceptHandler (some (.Name x np)) (some n) (b0 :: suite) pos'] [] [] pos) (sTry fs t (some i) gs) := by
  obtain ⟨uv, hn, hx⟩ := C.q.glob.exMs x t hm
  refine PS.weak (ps_try_as (Wout := W) (tb := fun W' => tS X.K CA XR W' fs) (ts := fun a cls d => tX X.K CA XR i gs a cls d) C.hs C.hf (by rw [C.q.nm]; exact C.q.nd) (by rw [C.q.nm]; exact hi) (by show X.env.scope.names.lookup n = _; rw [C.q.sc]; exact hl)
    (names_of C.q.toCw hg hn) C.tk (fun W' pn xe tk hp => hb _ _ (C.tr pn xe tk hp)) fun a oe cls d pn z1 z2 => hsu a oe cls d pn z1 z2 (C.inSuite a _)) ?_
  rintro D σ H ⟨m, st, ρ, S, E, q⟩
  refine ⟨m, st, ρ, S, E, ?_⟩
  unfold sTry at q
  cases e : fs ρ st with
  | nx ρ' s' => rw [e] at q; exact q
  | rt v s' => rw [e] at q; exact q
  | bk v s' => rw [e] at q; exact q
  | ct v s' => rw [e] at q; exact q
  | bad => rw [e] at q; exact q
  | ex y ρ1 s1 =>
    rw [e] at q
    intro m' H' σ' cls d S' T' E' xr
    dsimp only at q
    refine ⟨excSub y.cls t, hx y cls d H' xr, fun hb a na => ?_, fun hb => ?_⟩
    · rw [if_pos hb] at q
      split at q
      · rename_i hlt
        refine ⟨List.getElem?_set_self (by rw [← E'.1]; exact hlt), m', s1, ρ1.set i (some (.ex y)), y, S', E'.set (w := .ex y) trivial i, List.getElem?_set_self hlt, xr, ?_⟩
        cases e2 : gs (ρ1.set i (some (.ex y))) s1 with
        | nx ρ2 s2 => rw [e2] at q; exact fun m4 H4 σ4 S4 T4 E4 => q m4 H4 _ S4 (T'.trans T4) (E4.drop i)
        | bk ρ2 s2 => rw [e2] at q; exact fun m4 H4 σ4 S4 T4 E4 => q m4 H4 _ S4 (T'.trans T4) (E4.drop i)
        | ct ρ2 s2 => rw [e2] at q; exact fun m4 H4 σ4 S4 T4 E4 => q m4 H4 _ S4 (T'.trans T4) (E4.drop i)
        | rt v s2 => rw [e2] at q; exact fun m4 H4 u S4 T4 r4 => q m4 H4 u S4 (T'.trans T4) r4
        | ex x2 ρ2 s2 => rw [e2] at q; exact q
        | bad => rw [e2] at q; exact q
      · exact (show False from q).elim
    · rw [if_neg (by rw [hb]; decide)] at q
      exact q m' H' σ' cls d S' T' E' xr

/-! ### what a suite asks of its exception -/
/-- a value that is known, slot i being a -/
def cst (i : Nat) (a : Addr) (v : V) : TE := fun σ H Q => σ[i]? = some (some (.ref a)) ∧ Q v H
variable {a : Addr} {oe : Obj} {pn : List (Addr × Obj)} {cls : Value} {d : Option Addr} {i : Nat} {p p2 p3 : Pos} {e1 e2 : Expr}
theorem kx_is (C : Cw tb G CA XR k N sc (fun _ => true) (X.suite a ((a, oe) :: pn)) wNo) (hz : Zc cls d oe) (hf : ∃ vs, oe.data = .fields vs) {y : Exc} {H0 : Hp} (xr : XR y cls d H0) (hi : N[i]? = some n) (hl : visB sc n = true)
    (hb : bltB tb sc "isinstance" = true) (t : String) (hg : glbB sc x = true) (hm : (x, t) ∈ tb.exIs) : PE (X.suite a ((a, oe) :: pn)) (.Call (.Name "isinstance" p) [.Name n p2, .Name x p3] [] pos) (cst i a (.bl (excSub y.cls t))) := by
  obtain ⟨u, uv, hn, hr, hu, hx⟩ := C.glob.exIs x t hm
  obtain ⟨rfl, A, rfl, hA, hk⟩ := hx y cls d H0 xr
  unfold visB at hl
  simp only [Bool.and_eq_true, Bool.not_eq_true'] at hl
  have v1 : PE (X.suite a ((a, oe) :: pn)) (.Name n p2) (tVar i) := pe_var (i := i) (by rw [C.nm]; exact hi) (by rw [C.sc]; exact look_vis hl.1.1) hl.1.2 hl.2
  have v2 : PE (X.suite a ((a, oe) :: pn)) (.Name x p3) (tC u) := by
    rcases hn with z | ⟨z, z2⟩
    · exact pe_glob (gl_of C hg) z hr (gl_dbg hg)
    · exact pe_bltn (gl_of C hg) z z2 hr (gl_nm hg) (gl_dbg hg)
  refine PE.weak (pe_callB (call_isE hA hz hf) (gl_of C (blt_gl hb)) (blt_mg C hb) PyProof.Rows.boot_isinstance (pa_cons v1 (pa_cons v2 pa_nil rfl) rfl) (gl_nm (blt_gl hb)) (gl_dbg (blt_gl hb)) rfl rfl) ?_
  rintro σ H Q ⟨h1, h2⟩
  exact ⟨_, h1, u, uv, _, rfl, hu, hk, h2⟩
theorem kx_and {b c : Bool} {es : List Expr} (h1 : PE X e1 (cst i a (.bl b))) (h2 : PE X (.BoolOp .And (e2 :: es) pos) (cst i a (.bl c))) : PE X (.BoolOp .And (e1 :: e2 :: es) pos) (cst i a (.bl (b && c))) := PE.weak (pe_and h1 h2) fun σ H Q ⟨z, q⟩ => by
  refine ⟨z, b, rfl, ?_⟩
  cases b with
  | true => exact ⟨z, q⟩
  | false => exact q
theorem kx_and1 {v : V} (h1 : PE X e1 (cst i a v)) : PE X (.BoolOp .And [e1] pos) (cst i a v) := pe_one h1
theorem kx_not {b : Bool} (h1 : PE X e1 (cst i a (.bl b))) : PE X (.UnaryOp .Not e1 pos) (cst i a (.bl (!b))) := PE.weak (pe_not h1) fun σ H Q ⟨z, q⟩ => ⟨z, b, rfl, q⟩
/-- .. as tests -/
def cstT (i : Nat) (a : Addr) (b : Bool) : TT := fun σ H Q => σ[i]? = some (some (.ref a)) ∧ Q b H
theorem kt_val {b : Bool} (h1 : PE X e1 (cst i a (.bl b))) (he : ∀ whole, isTrue e1 X.env whole = (do let v ← whole; standAt e1.pos; holding [v] (truthy v)) := by intro _; rfl) : PT X e1 (cstT i a b) := PT.weak (pt_val h1 he) fun σ H Q ⟨z, q⟩ => ⟨z, b, rfl, q⟩
theorem kt_and {b c : Bool} {es : List Expr} (h1 : PT X e1 (cstT i a b)) (h2 : L2.PW X (.BoolOp .And (e2 :: es) pos) (cstT i a c)) : L2.PW X (.BoolOp .And (e1 :: e2 :: es) pos) (cstT i a (b && c)) := PW.weak (pw_and h1 h2) fun σ H Q ⟨z, q⟩ => by
  refine ⟨z, ?_⟩
  cases b with
  | true => exact ⟨z, q⟩
  | false => exact q
theorem kt_and1 {b : Bool} (h1 : PT X e1 (cstT i a b)) : L2.PW X (.BoolOp .And [e1] pos) (cstT i a b) := pw_and1 h1
/-- the mirror's test of the exception in slot i -/
def XM (i : Nat) (t : CT) (b : Exc → Bool) : Prop := ∀ (ρ : Env) (st : Store) (y : Exc), ρ[i]? = some (some (.ex y)) → t ρ st = .ok (b y) st
theorem xm_is {i : Nat} {c : String} : XM i (tIsE c (eVar i)) fun y => excSub y.cls c := fun ρ st y h => by
  unfold tIsE eVar
  rw [bind_eq, h]
  rfl
theorem xm_not {i : Nat} {t : CT} {b : Exc → Bool} (h : XM i t b) : XM i (tNot t) fun y => !(b y) := fun ρ st y e => by
  unfold tNot
  rw [bind_eq, h ρ st y e]
  rfl
theorem xm_and {i : Nat} {t u : CT} {b c : Exc → Bool} (h : XM i t b) (h' : XM i u c) : XM i (tAnd t u) fun y => (b y) && (c y) := fun ρ st y e => by
  unfold tAnd
  rw [bind_eq, h ρ st y e, bind_ok]
  show (if b y = true then u ρ else pure false) st = .ok (b y && c y) st
  cases hb : b y with
  | true => rw [if_pos rfl, h' ρ st y e, Bool.true_and]
  | false => rw [if_neg (by decide), Bool.false_and]; rfl
/-- if what is asked of it: return .. -/
theorem kx_suite1 {CA : Tags} {XR : XRel} {X : Cx} {e1 e2 : Expr} {t : CT} {r : CE} (b : Exc → Bool) (ht : ∀ y H0, XR y cls d H0 → PT X e1 (cstT i a (b y))) (hr : SE CA XR X wNo e2 r) (hm : XM i t b) :
    PSs X [.If e1 [.Return (some e2) p2] [] p3] (tX X.K CA XR i (sIf t (sRet r) sNil) a cls d) := by
  refine ⟨fun pins s σ H D I ⟨h1, m, st, ρ, y, S, E, e, xr, q⟩ => (pss_one (ps_if (ht y H xr) (pss_one (ps_ret hr)) pss_nil)).run pins s σ H D I ⟨h1, ?_⟩⟩
  have q1 : PO X.K CA XR wNo D m st H (sIf t (sRet r) sNil ρ st) := q.unc
  have e3 : sIf t (sRet r) sNil ρ st = if b y then sRet r ρ st else .nx ρ st := by
    unfold sIf
    rw [hm ρ st y e]
    rfl
  rw [e3] at q1
  cases hb : b y with
  | true =>
    rw [hb, if_pos rfl] at q1
    exact ⟨m, st, ρ, S, E, (PO.expr E q1).mono fun x m1 st1 H1 S1 T1 h1 v rv => h1 m1 H1 v S1 Step.refl rv⟩
  | false =>
    rw [hb, if_neg (by decide)] at q1
    exact q1 m H σ S Step.refl E
theorem kt_not {b : Bool} (h1 : PT X e1 (cstT i a b)) : PT X (.UnaryOp .Not e1 pos) (cstT i a (!b)) := PT.weak (pt_not h1) fun σ H Q ⟨z, q⟩ => ⟨z, q⟩
end
end Fl
set_option Elab.async false
set_option linter.all false
set_option maxRecDepth 100000
set_option maxHeartbeats 4000000
/-! Fl over the layer: dict displays, methods of dicts. -/
namespace Fl
open PySem PySem.Spec L2

section
variable {K : PySem.W.Frag} {CA : Tags} {XR : XRel} {W : WX} {σ : L2.St} {m : Mp} {st : Store} {H : Hp} {Q : VK} {cell : Bool}
theorem RepVK.of_trees : ∀ {ws : List (Key × Val)} {ts : List (Key × T)} {vs : List (L2.Key × V)}, treesK ws = some ts → RepVK K m st H ws vs → RepK K H (live m st) ts vs
  | [], ts, vs, h, r => by simp only [treesK, Option.some.injEq] at h; subst h; exact r
  | (kk, .t d) :: q, ts, vs, h, ⟨v, vr, e, r1, r2⟩ => by
    simp only [treesK] at h
    cases e2 : treesK q with
    | none => rw [e2] at h; cases h
    | some tq =>
      rw [e2] at h
      simp only [Option.some.injEq] at h
      subst h
      exact ⟨v, vr, e, ⟨r1.1, r1.2⟩, RepVK.of_trees e2 r2⟩
  | (_, .loc n) :: q, ts, vs, h, r => by simp [treesK] at h
  | (_, .scr n) :: q, ts, vs, h, r => by simp [treesK] at h
  | (_, .ex n) :: q, ts, vs, h, r => by simp [treesK] at h
theorem treesK_len : ∀ {ws : List (Key × Val)} {ts : List (Key × T)}, treesK ws = some ts → ts.length = ws.length
  | [], ts, h => by simp only [treesK, Option.some.injEq] at h; subst h; rfl
  | (kk, .t d) :: q, ts, h => by
    simp only [treesK] at h
    cases e2 : treesK q with
    | none => rw [e2] at h; cases h
    | some tq =>
      rw [e2] at h
      simp only [Option.some.injEq] at h
      subst h
      rw [List.length_cons, List.length_cons, treesK_len e2]
  | (_, .loc n) :: q, ts, h => by simp [treesK] at h
  | (_, .scr n) :: q, ts, h => by simp [treesK] at h
  | (_, .ex n) :: q, ts, h => by simp [treesK] at h
theorem newD_ok {ws : List (Key × Val)} {vs : List (L2.Key × V)} (S : SR K CA m st H) (r : RepVK K m st H ws vs) (z : ws.length ≤ L) (q : PR K CA XR W σ (newD cell ws st) m st H fun a m' st' H' => ∀ v, RepV K m' st' H' a v → Q v H') :
    ∀ p, H p = none → Q (.ref p) (upd H p (.dK vs)) := fun p hp => by
  cases cell with
  | true =>
    have T := S.cellStep (o := .dK vs) hp (.dct ws)
    refine q (mNew m st p) _ (S.newCell hp ⟨vs, upd_same, z, RepVK.mono T _ _ r⟩) T (.ref p) ⟨by simp, ?_⟩
    rw [mNew_same]
  | false =>
    unfold newD at q
    dsimp only at q
    cases e : treesK ws with
    | none => rw [e] at q; exact q.elim
    | some ts =>
      rw [e] at q
      obtain ⟨T, S'⟩ := S.fresh (o := .dK vs) hp
      refine q m _ S' T (.ref p) ⟨p, vs, rfl, ⟨(.inl upd_same), S.not_live hp⟩, by rw [treesK_len e]; exact z, ?_⟩
      exact RepVK.of_trees (m := m) (st := st) e (RepVK.mono T _ _ r)
theorem RepVK.merge : ∀ {more : List (Key × Val)} {mv : List (L2.Key × V)} {ks : List (Key × Val)} {vs : List (L2.Key × V)}, RepVK K m st H more mv → RepVK K m st H ks vs → RepVK K m st H (dmerge ks more) (mergeK vs mv)
  | [], mv, ks, vs, h, r => by rw [show mv = [] from h]; exact r
  | p :: q, _, ks, vs, ⟨v, qv, rfl, h1, h2⟩, r => by
    obtain ⟨vk, vv⟩ := v
    obtain ⟨e, h1⟩ := h1
    dsimp only at e h1
    subst e
    show RepVK K m st H (dmerge (dput ks p.1 p.2) q) (mergeK (putK vs (kL p.1) vv) qv)
    exact RepVK.merge h2 (RepVK.put h1 r)
theorem dmerge_len : ∀ (more ks : List (Key × Val)), (dmerge ks more).length ≤ ks.length + more.length
  | [], ks => by show ks.length ≤ ks.length + 0; omega
  | p :: r, ks => by
    have h1 := dmerge_len r (dput ks p.1 p.2)
    have h2 := dput_len ks p.1 p.2
    show (dmerge (dput ks p.1 p.2) r).length ≤ _
    rw [List.length_cons]; omega
end

section
variable {tb : Tab} {G : FEnv} {CA : Tags} {XR : XRel} {k : Nat} {N : List Str} {sc : Scope} {own : Str → Bool} {X : Cx} {W : WX}
variable {a b c d e : Expr} {es : List Expr} {pos pos' apos cpos p p2 p3 : Pos} {f g h : CE} {t u : CT} {keys : List (Option Expr)} {values : List Expr} {fs : List (CE × CE)}

abbrev SPs (CA : Tags) (XR : XRel) (X : Cx) (W : WX) (pos : Pos) (keys : List (Option Expr)) (values : List Expr) (fs : List (CE × CE)) : Prop := PPs X pos keys values (fs.map fun p => (tM X.K CA XR W p.1, tM X.K CA XR W p.2))
theorem sp_nil : SPs CA XR X W pos [] [] [] := pps_nil
theorem sp_cons (ha : SE CA XR X W a f) (hb : SE CA XR X W b g) (hr : SPs CA XR X W pos keys values fs) : SPs CA XR X W pos (some a :: keys) (b :: values) ((f, g) :: fs) := pps_cons ha hb hr
theorem pairs_read {σ : L2.St} {ρ : Env} : ∀ {fs : List (CE × CE)} {m : Mp} {st : Store} {H : Hp} {Q : List (V × V) → Hp → Prop}, SR X.K CA m st H → ER X.K m st H ρ σ →
    PR X.K CA XR W σ (ePairs fs ρ st) m st H (fun kvs m' st' H' => kvs.length = fs.length → ∀ us, RepVK X.K m' st' H' kvs us → Q (us.map fun kv => (kV kv.1, kv.2)) H') → tPairs (fs.map fun p => (tM X.K CA XR W p.1, tM X.K CA XR W p.2)) σ H Q
  | [], m, st, H, Q, S, E, q => PR.here S q rfl [] rfl
  | (f, g) :: r, m, st, H, Q, S, E, q => by
    refine ⟨m, st, ρ, S, E, (PR.bind_of (r := f ρ st) q).mono fun x m1 st1 H1 S1 T1 h1 v rv => ⟨m1, st1, ρ, S1, E.mono T1, (PR.bind_of (r := g ρ st1) h1).mono fun y m2 st2 H2 S2 T2 h2 w rw => ?_⟩⟩
    refine pairs_read S2 ((E.mono T1).mono T2) ((PR.bind_of (r := ePairs r ρ st2) h2).mono fun kvs m3 st3 H3 S3 T3 h3 hl us rus => ?_)
    cases ek : keyOf x with
    | none => rw [ek] at h3; exact h3.elim
    | some kk =>
      rw [ek] at h3
      have e : v = kV (kL kk) := keyOf_rep rv ek
      subst e
      exact PR.here S3 h3 (by rw [List.length_cons, List.length_cons, hl]) ((kL kk, w) :: us) ⟨_, us, rfl, ⟨rfl, RepV.mono T3 _ _ rw⟩, rus⟩
/-- a display: the new dict stands aside while the pairs are made -/
theorem pe_dispU {trs : List (TE × TE)} (h : PPs X pos keys values trs) (hall : keys.all (·.isSome) = true) (hl : keys.length = values.length) (h0 : keys ≠ []) (h15 : keys.length ≤ 15) :
    PE X (.Dict keys values pos) fun σ H Q => tPairs trs σ H fun ps H2 => ∃ kvs : List (L2.Key × V), ps = kvs.map (fun kv => (kV kv.1, kv.2)) ∧ kvs.length ≤ 15 ∧ ∀ p, H2 p = none → Q (.ref p) (upd H2 p (.dK (mergeK [] kvs))) := by
  refine ⟨fun pins s σ H Q I q => ?_⟩
  obtain ⟨D, hD⟩ : ∃ D, D = s.heap.objs.size := ⟨_, rfl⟩
  have fD : FpOk X pins H D := I.fpOk (Nat.le_of_eq hD.symm) (I.hok.fresh (Nat.le_of_eq hD.symm))
  have I1 : Inv X pins σ H { s with heap := s.heap.push { cls := .type "dict", data := .dict #[] } } := I.kept (t' := s.toks) fun _ _ z => Heap.get?_push_of_some _ z
  have gD : (s.heap.push { cls := .type "dict", data := .dict #[] }).get? D = some { cls := .type "dict", data := .dict #[] } := by rw [hD]; exact Heap.get?_push_size _ rfl
  have I2 : Inv X ((D, { cls := .type "dict", data := .dict #[] }) :: pins) σ H { s with heap := s.heap.push { cls := .type "dict", data := .dict #[] } } := by
    refine I1.pins_of fun p hp => ?_
    rcases List.mem_cons.mp hp with z | z
    · subst z
      exact ⟨gD, fD.1, fD.2.1, fD.2.2.1, fun v z => by have z' : Data.dict #[] = .cell v := z; cases z'⟩
    · exact I1.pin p (List.mem_append_right _ z)
  refine wpAny_Dict_walk (knd := mixKind X.prog X.w) hall hl h0 h15 (thn (h.run _ _ σ _ _ I2 q) ?_)
  rintro ws s2 ⟨ps, H2, I3, rel, kvs, rfl, hk, q2⟩
  obtain ⟨rs, cr, rk⟩ := carries_of (P := X.prog) (w := X.w) rel
  have pD := I3.pin (D, { cls := .type "dict", data := .dict #[] }) (List.mem_append_right _ List.mem_cons_self)
  have I4 : Inv X pins σ H2 s2 := I3.pins_of fun p hp => I3.pin p (List.mem_append_right _ (List.mem_cons_of_mem _ hp))
  have hsm : (D == sysModules) = false := by rw [hD]; exact beq_eq_false_iff_ne.mpr (Ne.symm (Nat.ne_of_lt I.big))
  have nD := pD.2.1
  have Dd : s2.heap.DictOf (mixKind X.prog X.w) D [] := by
    have z : (s.heap.push { cls := .type "dict", data := .dict #[] }).DictOf (mixKind X.prog X.w) s.heap.objs.size [] := Heap.DictOf.new s.heap
    rw [← hD] at z
    obtain ⟨o, es, ep, e1, e2⟩ := z
    rw [gD] at e1
    cases e1
    exact ⟨_, es, ep, pD.1, e2⟩
  rw [← hD]
  refine ⟨rs, cr, Dd, fun h' dd' sb => ⟨.ref D, upd H2 D (.dK (mergeK [] kvs)), ?_, rfl, q2 D nD⟩⟩
  have I5 : Inv X pins σ H2 { s2 with heap := h', toks := s2.toks + ws.length } := I4.turned (fun b o hb e => (sb.2 b hb).trans e) nD fD.2.1 fD.2.2.2.1 fD.2.2.2.2.1 fD.2.2.2.2.2
  have hz : (mergeK [] kvs).length ≤ sizeLine := by
    have h1 := length_mergeK kvs []
    rw [List.length_nil] at h1
    rw [sizeLine_eq]; omega
  exact take_in I5 nD (dk_new hz hsm (rk.merge .nil) dd') fD.2.2.2.1 fD.2.1 fD.2.2.2.2.1 fD.2.2.2.2.2
theorem se_dct (cell : Bool) (hp : SPs CA XR X W pos keys values fs) (hall : keys.all (·.isSome) = true := by rfl) (hl : keys.length = values.length := by rfl) (h0 : keys ≠ [] := by intro e; cases e) (h15 : keys.length ≤ 15 := by decide) (hf : fs.length ≤ 15 := by first | decide | (simp only [List.length_cons, List.length_nil]; decide)) :
    SE CA XR X W (.Dict keys values pos) (eDct cell fs) := by
  refine PE.weak (pe_dispU hp hall hl h0 h15) fun σ H Q ⟨m, st, ρ, S, E, q⟩ => ?_
  refine pairs_read S E ((PR.bind_of (r := ePairs fs ρ st) q).mono fun kvs m1 st1 H1 S1 T1 h1 hlen us rus => ?_)
  have hz : kvs.length ≤ 15 := by omega
  have hz2 : us.length ≤ 15 := by rw [← rus.length]; exact hz
  refine ⟨us, rfl, hz2, newD_ok S1 (RepVK.merge rus (show RepVK X.K m1 st1 H1 [] [] from rfl)) ?_ h1⟩
  have := dmerge_len kvs []
  rw [List.length_nil] at this
  show _ ≤ 16777216
  omega
theorem se_dct0 (cell : Bool) : SE CA XR X W (.Dict [] [] pos) (eDct cell []) := PE.weak pe_dnewK fun σ H Q ⟨m, st, ρ, S, E, q⟩ => newD_ok S (show RepVK X.K m st H [] [] from rfl) (by decide) q
end
end Fl
set_option Elab.async false
set_option linter.all false
set_option maxRecDepth 100000
set_option maxHeartbeats 4000000
/-! Fl over the layer: the head's facts, the law's end. -/
namespace Fl
open PySem PySem.Spec L2

/-! ### the facts that a head tells -/
def hkF (n : Nat) (fa : List He.Fa) (fn : List He.DefD) (ex : PySem.W.Frag → Bool) : PySem.W.Hook where
  α := He.AlD × Bool
  obs := fun s => (He.obsDG n fa fn s.heap.get?, ex (He.frG s.heap.get? (He.asD s.heap.get? n)))
  val := fun _ => (He.valD fn, true)
  says := fun _ h => ∃ K : PySem.W.Frag, K.In h ∧ He.SaysD fa fn K ∧ ex K = true
  of := fun _ _ e => ⟨_, He.frG_in, congrArg (fun z : He.AlD × Bool => z.1) e, congrArg (fun z : He.AlD × Bool => z.2) e⟩
  keeps := fun _ _ _ ⟨K, hK, c⟩ k => ⟨K, PySem.W.Frag.In.keeps hK k, c⟩
def obF (n : Nat) (fa : List He.Fa) (fn : List He.DefD) (ex : PySem.W.Frag → Bool) (s : PySem.W.SharedT) : He.AlD × Bool := (He.obsDG n fa fn (HandSHeadRun.getT s), ex (He.frG (HandSHeadRun.getT s) (He.asD (HandSHeadRun.getT s) n)))
theorem obF_eq (n : Nat) (fa : List He.Fa) (fn : List He.DefD) (ex : PySem.W.Frag → Bool) (s : PySem.W.SharedT) : obF n fa fn ex s = (hkF n fa fn ex).obs s.abs := by
  have e : HandSHeadRun.getT s = s.abs.heap.get? := funext (HandSHeadRun.getT_eq s)
  unfold obF
  rw [e]
  rfl

/-- the classes and exceptions of the text, by their names -/
def CAof (K : PySem.W.Frag) (ts : List String) : Tags := fun t C => t ∈ ts ∧ C = He.ga K (Str.ofString t)
def XRof (K : PySem.W.Frag) (ts : List String) : XRel := fun x cls d _ => x.at_ = none ∧ d = none ∧ x.cls ∈ ts ∧ cls = .ref (He.ga K (Str.ofString x.cls))
def excCB (K : PySem.W.Frag) (D : Addr) : Bool :=
  decide (PySem.W.findIn K (.ref D) "__getattribute__" = some (some (.builtin "BaseException.__getattribute__"))) && (decide (PySem.W.findIn K (.ref D) "__getattr__" = some none) && (decide (PySem.W.subIn K (.ref D) (.type "BaseException") = some true) &&
  (PySem.W.hasDictIn K D && (decide (PySem.W.findIn K (.ref D) "__class__" = some (some (.builtin "object.__class__"))) && (decide (PySem.W.specialIn K (.builtin "object.__class__") "__get__" = some (some (.builtin "getset_descriptor.__get__"))) &&
  (decide (PySem.W.takesIn K (.builtin "object.__class__") = some true) && decide (PySem.W.mroIn K D (.type "object") = some true)))))))
theorem excCB_ok {K : PySem.W.Frag} {D : Addr} (h : excCB K D = true) : ExcC K D := by
  unfold excCB at h
  simp only [Bool.and_eq_true, decide_eq_true_eq] at h
  obtain ⟨h1, h2, h3, h4, h5, h6, h7, h8⟩ := h
  exact ⟨h1, h2, h3, h4, h5, h6, h7, h8⟩
/-- a name: a class of the text, or a built-in one -/
def uvOf (K : PySem.W.Frag) (ts : List String) (t : String) : Value := if ts.contains t then .ref (He.ga K (Str.ofString t)) else .type t
def exB (ts : List String) (is ms : List (Str × String)) (K : PySem.W.Frag) : Bool :=
  (ts.all fun t => (He.Fa.exc (Str.ofString t)).ok K && excCB K (He.ga K (Str.ofString t))) && ((is.all fun p => ts.all fun y => decide (PySem.W.kitOne K (.ref (He.ga K (Str.ofString y))) (uvOf K ts p.2) = some (excSub y p.2))) &&
    ms.all fun p => ts.all fun y => decide (PySem.W.exmOne K (.ref (He.ga K (Str.ofString y))) (uvOf K ts p.2) = some (excSub y p.2)))

/-- a constant of the module -/
def constB (K : PySem.W.Frag) (x : Str) : T → Bool
  | .int i => (He.Fa.int x i).ok K
  | .str z => (He.Fa.str x (Str.ofString z)).ok K
  | _ => false
theorem const_ok {K : PySem.W.Frag} {h : Heap} {mg : Str → Option Value} (X : K.In h) (G : h.Ns mainGlobals mg) {x : Str} {d : T} (c : constB K x d = true) : ∃ u v, mg x = some u ∧ RelV v u ∧ ∀ (H : Hp) lv, Rep K H lv d v := by
  cases d with
  | int i =>
    obtain ⟨t, e⟩ := He.int_ok X G (show (He.Fa.int x i).ok K = true from c)
    exact ⟨_, .int i, e, ⟨t, rfl⟩, fun _ _ => rfl⟩
  | str z =>
    obtain ⟨t, e⟩ := He.str_ok X G (show (He.Fa.str x (Str.ofString z)).ok K = true from c)
    exact ⟨_, .str (Str.ofString z), e, ⟨t, rfl⟩, fun _ _ => rfl⟩
  | _ => cases c

/-! ### the defs of a text -/
structure FD where
  d : He.DefD
  ps : List Str
  N : List Str
  sm : FEnv → SM
  /-- an __init__: it calls nothing of the text -/
  ini : Bool
/-- the defs' mirrors; n calls deep -/
def Gam (fds : List (Nat × FD)) : Nat → FEnv
  | 0 => fun _ _ => bad
  | n + 1 => fun i => match fds.lookup i with
    | some fd => if (fd.ini && n == 0) = true then fun _ => bad else mkFn fd.N.length fd.ps.length (fd.sm (Gam fds n))
    | none => fun _ => bad
theorem Gam_succ {fds : List (Nat × FD)} {i n : Nat} {fd : FD} (e : fds.lookup i = some fd) (h : fd.ini = false) : Gam fds (n + 1) i = mkFn fd.N.length fd.ps.length (fd.sm (Gam fds n)) := by
  show (match fds.lookup i with
    | some fd => if (fd.ini && n == 0) = true then fun _ => bad else mkFn fd.N.length fd.ps.length (fd.sm (Gam fds n))
    | none => fun _ => bad) = _
  rw [e]
  dsimp only
  rw [h]
  rfl
theorem Gam_ini1 {fds : List (Nat × FD)} {i : Nat} {fd : FD} (e : fds.lookup i = some fd) (h : fd.ini = true) (as : List Val) (s : Store) : Gam fds 1 i as s = .bad := by
  show (match fds.lookup i with
    | some fd => if (fd.ini && 0 == 0) = true then fun _ => bad else mkFn fd.N.length fd.ps.length (fd.sm (Gam fds 0))
    | none => fun _ => bad) as s = _
  rw [e]
  dsimp only
  rw [h]
  rfl
theorem Gam_ini2 {fds : List (Nat × FD)} {i n : Nat} {fd : FD} (e : fds.lookup i = some fd) : Gam fds (n + 2) i = mkFn fd.N.length fd.ps.length (fd.sm (Gam fds (n + 1))) := by
  show (match fds.lookup i with
    | some fd => if (fd.ini && (n + 1) == 0) = true then fun _ => bad else mkFn fd.N.length fd.ps.length (fd.sm (Gam fds (n + 1)))
    | none => fun _ => bad) = _
  rw [e]
  dsimp only
  have : (n + 1 == 0) = false := by simp
  rw [this, Bool.and_false]
  rfl
structure FDok (T : Tab) (fd : FD) : Prop where
  scope : FnScope fd.N fd.ps fd.d.scope
  dfl : fd.d.dfl = []
  kwd : fd.d.kwd = []
  bind : ∀ (kV doc pm : Value) (an : Option Addr) (cdv ct : Value) (us : List Value), us.length = fd.ps.length → bindArgs (PySem.W.fnOf fd.d.name fd.d.qual fd.d.params fd.d.body fd.d.scope .none kV doc pm an cdv ct) ⟨us, []⟩ = pure (fd.ps.zip us)
  body : ∀ (G : FEnv) (CA : Tags) (XR : XRel) (k : Nat) (X : Cx) (W : WX), Cs T G CA XR k fd.N fd.d.scope X W → SS CA XR X W fd.d.body (fd.sm G)
def fnsB (T : Tab) (fds : List (Nat × FD)) : Bool := T.fns.all fun e => match fds.lookup e.2.1 with
  | some fd => (decide (fd.d.at_ = (e.1, none)) && fd.ps.length == e.2.2) && !fd.ini
  | none => false
def faB : He.Fa → He.Fa → Bool
  | .glo x, .glo y => decide (x = y)
  | .cls x, .cls y => decide (x = y)
  | .mkr x, .mkr y => decide (x = y)
  | .meth x m, .meth y n => decide (x = y) && decide (m = n)
  | .noat x m, .noat y n => decide (x = y) && decide (m = n)
  | _, _ => false
theorem faB_eq : ∀ {a b : He.Fa}, faB a b = true → a = b := by
  intro a b h
  cases a <;> cases b <;> simp only [faB, Bool.and_eq_true, decide_eq_true_eq, Bool.false_eq_true] at h
  all_goals first
    | (subst h; rfl)
    | (obtain ⟨rfl, rfl⟩ := h; rfl)
/-- a fact is among the head's -/
def hasB (fa : List He.Fa) (f : He.Fa) : Bool := fa.any fun g => faB g f
abbrev Tab.tags (T : Tab) : List String := T.cls.map fun e => e.2.1
def clsB (T : Tab) (fds : List (Nat × FD)) (fa : List He.Fa) : Bool := T.cls.all fun e => (decide (e.1 = Str.ofString e.2.1) && (hasB fa (.glo e.1) && (hasB fa (.cls e.1) && hasB fa (.mkr e.1)))) && match fds.lookup e.2.2.1 with
  | some fd => (decide (fd.d.at_ = (e.1, some ("__init__" : Str))) && fd.ps.length == e.2.2.2) && fd.ini
  | none => false
def mtsB (T : Tab) (fds : List (Nat × FD)) (fa : List He.Fa) : Bool := T.mts.all fun e => (T.tags.contains e.1 && (hasB fa (.cls (Str.ofString e.1)) && hasB fa (.meth (Str.ofString e.1) e.2.1))) && match fds.lookup e.2.2.1 with
  | some fd => (decide (fd.d.at_ = (Str.ofString e.1, some e.2.1)) && fd.ps.length == e.2.2.2) && !fd.ini
  | none => false
def atsB (T : Tab) (fa : List He.Fa) : Bool := T.ats.all fun e => decide (e.1 = Str.ofString e.2) && T.tags.all fun t => hasB fa (.cls (Str.ofString t)) && hasB fa (.noat (Str.ofString t) e.1)
theorem fa_has {fa : List He.Fa} {fn : List He.DefD} {K : PySem.W.Frag} {f : He.Fa} (c : He.SaysD fa fn K) (q : hasB fa f = true) : f.ok K = true := by
  obtain ⟨g, hg, e⟩ := List.any_eq_true.mp q
  obtain ⟨i, hi⟩ := List.mem_iff_getElem?.mp hg
  have e : g = f := faB_eq e
  subst e
  exact c.fact i hi
/-- a text -/
structure TabOk (T : Tab) (fds : List (Nat × FD)) (fa : List He.Fa) (ts : List String) : Prop where
  fns : fnsB T fds = true
  glo : (T.fns.all fun e => fa.any fun f => match f with
    | .glo x => decide (x = e.1)
    | _ => false) = true
  ok : ∀ e ∈ fds, FDok T e.2
  cls : clsB T fds fa = true
  mts : mtsB T fds fa = true
  ats : atsB T fa = true
  inis : ∀ e ∈ fds, e.2.ini = true → ∀ G G', e.2.sm G = e.2.sm G'
  excs : (T.excs.all fun e => decide (e.1 = Str.ofString e.2) && ts.contains e.2) = true
  exg : (ts.all fun t => fa.any fun f => match f with
    | .glo x => decide (x = Str.ofString t)
    | _ => false) = true
  free : (T.free.all fun e => fa.any fun f => match f with
    | .free x => decide (x = e)
    | _ => false) = true
  isN : (T.exIs.all fun e => decide (e.1 = Str.ofString e.2) && (ts.contains e.2 || (decide (bootBuiltins e.1 = some (.type e.2)) && T.free.contains e.1))) = true
  msN : (T.exMs.all fun e => decide (e.1 = Str.ofString e.2) && ts.contains e.2) = true
/-- what the head's own Bool tells -/
def exAll (T : Tab) (ts : List String) (K : PySem.W.Frag) : Bool := exB ts T.exIs T.exMs K && T.consts.all fun e => constB K e.1 e.2
theorem fa_glo {fa : List He.Fa} {fn : List He.DefD} {K : PySem.W.Frag} {h : Heap} {mg : Str → Option Value} {x : Str} (c : He.SaysD fa fn K) (X : K.In h) (G : h.Ns mainGlobals mg) (q : (fa.any fun f => match f with
    | .glo y => decide (y = x)
    | _ => false) = true) : mg x = some (.ref (He.ga K x)) := by
  obtain ⟨f, hf, e⟩ := List.any_eq_true.mp q
  obtain ⟨i, hi⟩ := List.mem_iff_getElem?.mp hf
  cases f with
  | glo y =>
    have e : y = x := of_decide_eq_true e
    subst e
    exact He.glo_ok X G (c.fact i hi)
  | _ => cases e
theorem fa_free {fa : List He.Fa} {fn : List He.DefD} {K : PySem.W.Frag} {h : Heap} {mg : Str → Option Value} {x : Str} (c : He.SaysD fa fn K) (X : K.In h) (G : h.Ns mainGlobals mg) (q : (fa.any fun f => match f with
    | .free y => decide (y = x)
    | _ => false) = true) : mg x = none := by
  obtain ⟨f, hf, e⟩ := List.any_eq_true.mp q
  obtain ⟨i, hi⟩ := List.mem_iff_getElem?.mp hf
  cases f with
  | free y =>
    have e : y = x := of_decide_eq_true e
    subst e
    exact He.free_ok X G (c.fact i hi)
  | _ => cases e
theorem lookup_in {α : Type} {i : Nat} {a : α} : ∀ {l : List (Nat × α)}, l.lookup i = some a → (i, a) ∈ l
  | [], h => by cases h
  | (j, b) :: r, h => by
    rw [List.lookup_cons] at h
    cases e : i == j with
    | true =>
      rw [e] at h
      cases h
      rw [beq_iff_eq.mp e]
      exact List.mem_cons_self
    | false =>
      rw [e] at h
      exact List.mem_cons_of_mem _ (lookup_in h)
section
variable {T : Tab} {fds : List (Nat × FD)} {fa : List He.Fa} {ts : List String} {P : Program} {w : World} {K : PySem.W.Frag} {mg : Str → Option Value} {h base : Heap}
theorem Binds.of {fd : FD} (ok : FDok T fd) {f : Addr} {fu : FuncData} (F : FunD K fd.d.name fd.d.qual fd.d.params fd.d.body fd.d.scope (fd.d.dvs K) (fd.d.kws K) f fu) : Binds K fu fd.ps [] := by
  have e : fd.d.dvs K = [] := by unfold He.DefD.dvs; rw [ok.dfl]; rfl
  rw [e] at F
  exact F.bindsN ok.bind
theorem fn_of_fd {fd : FD} (ok : FDok T fd) {f : Addr} {fu : FuncData} (F : FunD K fd.d.name fd.d.qual fd.d.params fd.d.body fd.d.scope (fd.d.dvs K) (fd.d.kws K) f fu) {G : FEnv} {CA : Tags} {XR : XRel} {k : Nat} (gl : GlobOk T G CA XR P w K mg base k) :
    FnOk1 P w K mg base (k + 1) f fu fd.ps (spOf K CA XR (mkFn fd.N.length fd.ps.length (fd.sm G)) fd.ps.length) := by
  obtain ⟨oc, od, dV, kV, doc, pm, an, cdv, ct, osl, rfl, lk, hcd, _, _⟩ := F.ex
  exact fn1 lk hcd ok.scope gl fun X W C => ok.body G CA XR k X W C
theorem glob_all (ok : TabOk T fds fa ts) (X : K.In h) (Gm : h.Ns mainGlobals mg) (c : He.SaysD fa (fds.map (·.2.d)) K) (ex : exAll T ts K = true) : ∀ k, GlobOk T (Gam fds k) (CAof K T.tags) (XRof K ts) P w K mg base k := by
  obtain ⟨ex1, ex2⟩ := Bool.and_eq_true_iff.mp ex
  obtain ⟨x1, x2⟩ := Bool.and_eq_true_iff.mp ex1
  obtain ⟨x3, x4⟩ := Bool.and_eq_true_iff.mp x2
  have own : ∀ t, ts.contains t = true → mg (Str.ofString t) = some (.ref (He.ga K (Str.ofString t))) := fun t ht => fa_glo c X Gm (List.all_eq_true.mp ok.exg t (by simpa using ht))
  have frees : ∀ x ∈ T.free, mg x = none := fun x hx => fa_free c X Gm (List.all_eq_true.mp ok.free x hx)
  have bas : ∀ t, t ∈ ts → PySem.W.excIn K (He.ga K (Str.ofString t)) He.veBase "ValueError.__new__" = true ∧ PySem.W.keepIn K (.ref (He.ga K (Str.ofString t))) = true ∧ PySem.W.subIn K (.ref (He.ga K (Str.ofString t))) (.type "BaseException") = some true ∧
      PySem.W.typeIn K (.ref (He.ga K (Str.ofString t))) = some (.type "type") ∧ ExcC K (He.ga K (Str.ofString t)) := fun t ht => by
    obtain ⟨z1, z2⟩ := Bool.and_eq_true_iff.mp (List.all_eq_true.mp x1 t ht)
    obtain ⟨h1, h2, h3, h4⟩ := He.exc_ok z1
    exact ⟨h1, h2, h3, h4, excCB_ok z2⟩
  have rest : ∀ k G, (∀ x i n, (x, i, n) ∈ T.fns → ∃ f fd ps, mg x = some (.ref f) ∧ PySem.W.keepIn K (.ref f) = true ∧ Binds K fd ps [] ∧ FnOk1 P w K mg base k f fd ps (spOf K (CAof K T.tags) (XRof K ts) (G i) n)) →
      (∀ x t i n, (x, t, i, n) ∈ T.cls → ∃ C fI fd ps, CAof K T.tags t C ∧ mg x = some (.ref C) ∧ Cls K C ∧ Mk K C fI ∧ Binds K fd ps [] ∧ ((∀ as s, G i as s = .bad) ∨ ∃ j, j + 1 = k ∧ FnOk1 P w K mg base j fI fd ps (spOf K (CAof K T.tags) (XRof K ts) (G i) n))) →
      (∀ t x i n, (t, x, i, n) ∈ T.mts → ∃ C f fd ps, CAof K T.tags t C ∧ Cls K C ∧ Meth K C x f ∧ Binds K fd ps [] ∧ FnOk1 P w K mg base k f fd ps (spOf K (CAof K T.tags) (XRof K ts) (G i) n)) → GlobOk T G (CAof K T.tags) (XRof K ts) P w K mg base k := by
    intro k G hf hcl hmt
    refine ⟨hf, hcl, hmt, fun t C C' hC hC' => hC.2.trans hC'.2.symm, fun x s t C hm hC => ?_, fun x d hm => const_ok X Gm (List.all_eq_true.mp ex2 (x, d) hm), fun x t hm => ?_, frees, fun x t hm => ?_, fun x t hm => ?_⟩
    · obtain ⟨z1, z2⟩ := Bool.and_eq_true_iff.mp (List.all_eq_true.mp ok.ats (x, s) hm)
      obtain ⟨ht, rfl⟩ := hC
      obtain ⟨z3, z4⟩ := Bool.and_eq_true_iff.mp (List.all_eq_true.mp z2 t ht)
      exact ⟨of_decide_eq_true z1, He.cls_ok (fa_has c z3), He.noat_ok (fa_has c z4)⟩
    · obtain ⟨z1, z2⟩ := Bool.and_eq_true_iff.mp (List.all_eq_true.mp ok.excs (x, t) hm)
      have e : x = Str.ofString t := of_decide_eq_true z1
      have ht : t ∈ ts := by simpa using z2
      obtain ⟨h1, h2, h3, h4, _⟩ := bas t ht
      subst e
      exact ⟨_, He.veBase, "ValueError.__new__", "ValueError.__init__", "ValueError", own t z2, PySem.F.excBase_ValueError, h1, h2, h3, h4, fun H => ⟨rfl, rfl, ht, rfl⟩⟩
    · obtain ⟨z1, z2⟩ := Bool.and_eq_true_iff.mp (List.all_eq_true.mp ok.isN (x, t) hm)
      have e : x = Str.ofString t := of_decide_eq_true z1
      have key : ∀ y cl d H, XRof K ts y cl d H → d = none ∧ ∃ C, cl = .ref C ∧ ExcC K C ∧ PySem.W.kitOne K (.ref C) (uvOf K ts t) = some (excSub y.cls t) := by
        rintro y cl d H ⟨_, h2, h3, rfl⟩
        exact ⟨h2, _, rfl, (bas y.cls h3).2.2.2.2, of_decide_eq_true (List.all_eq_true.mp (List.all_eq_true.mp x3 (x, t) hm) y.cls h3)⟩
      cases hc : ts.contains t with
      | true =>
        have eu : uvOf K ts t = .ref (He.ga K (Str.ofString t)) := by unfold uvOf; rw [if_pos hc]
        refine ⟨.ref (He.ga K (Str.ofString t)), uvOf K ts t, .inl (by rw [e, eu]; exact own t hc), by rw [eu]; rfl, fun w hw => by rw [eu]; exact hw, key⟩
      | false =>
        have eu : uvOf K ts t = .type t := by unfold uvOf; rw [if_neg (by rw [hc]; decide)]
        rw [hc, Bool.false_or] at z2
        obtain ⟨z3, z4⟩ := Bool.and_eq_true_iff.mp z2
        refine ⟨.ty t, uvOf K ts t, .inr ⟨frees x (by simpa using z4), by rw [eu]; exact of_decide_eq_true z3⟩, by rw [eu]; rfl, fun w hw => by rw [eu]; exact hw, key⟩
    · obtain ⟨z1, z2⟩ := Bool.and_eq_true_iff.mp (List.all_eq_true.mp ok.msN (x, t) hm)
      have e : x = Str.ofString t := of_decide_eq_true z1
      have eu : uvOf K ts t = .ref (He.ga K (Str.ofString t)) := by unfold uvOf; rw [if_pos z2]
      refine ⟨uvOf K ts t, .inl (by rw [e, eu]; exact own t z2), ?_⟩
      rintro y cl d H ⟨_, h2, h3, rfl⟩
      exact of_decide_eq_true (List.all_eq_true.mp (List.all_eq_true.mp x4 (x, t) hm) y.cls h3)
  have get : ∀ (x : Str) (i n : Nat), (x, i, n) ∈ T.fns → ∃ fd, fds.lookup i = some fd ∧ fd.d.at_ = (x, none) ∧ fd.ps.length = n ∧ fd.ini = false := fun x i n hm => by
    have z := List.all_eq_true.mp ok.fns (x, i, n) hm
    dsimp only at z
    cases e : fds.lookup i with
    | none => rw [e] at z; cases z
    | some fd =>
      rw [e] at z
      obtain ⟨z0, z3⟩ := Bool.and_eq_true_iff.mp z
      obtain ⟨z1, z2⟩ := Bool.and_eq_true_iff.mp z0
      exact ⟨fd, rfl, of_decide_eq_true z1, by simpa using z2, by simpa using z3⟩
  have getD : ∀ (i : Nat) (fd : FD), fds.lookup i = some fd → FDok T fd ∧ ∃ fu, FunD K fd.d.name fd.d.qual fd.d.params fd.d.body fd.d.scope (fd.d.dvs K) (fd.d.kws K) (He.fAd K fd.d.at_) fu := fun i fd e => by
    obtain ⟨j, hj⟩ := List.mem_iff_getElem?.mp (lookup_in e)
    exact ⟨ok.ok (i, fd) (lookup_in e), c.def_ j (d := fd.d) (by rw [List.getElem?_map, hj]; rfl)⟩
  intro k
  induction k using Nat.strongRecOn with
  | ind k ih =>
    have lvl : ∀ (i : Nat) (fd : FD), fds.lookup i = some fd → fd.ini = false → FDok T fd → ∀ fu, FunD K fd.d.name fd.d.qual fd.d.params fd.d.body fd.d.scope (fd.d.dvs K) (fd.d.kws K) (He.fAd K fd.d.at_) fu →
        FnOk1 P w K mg base k (He.fAd K fd.d.at_) fu fd.ps (spOf K (CAof K T.tags) (XRof K ts) (Gam fds k i) fd.ps.length) := fun i fd e hi fok fu F => by
      cases k with
      | zero =>
        refine ⟨fun vs H Q E z => z.1, ?_⟩
        rintro A outer s H args us vs Q E _ _ _ _ ⟨_, m, st, as, _, _, q⟩
        exact (show False from q).elim
      | succ k =>
        have z := fn_of_fd (P := P) (w := w) (mg := mg) (base := base) fok F (ih k (Nat.lt_succ_self k))
        rw [Gam_succ e hi]
        exact z
    refine rest k _ (fun x i n hm => ?_) (fun x t i n hm => ?_) fun t x i n hm => ?_
    · obtain ⟨fd, e1, e2, e3, e4⟩ := get x i n hm
      obtain ⟨fok, fu, F⟩ := getD i fd e1
      have L := lvl i fd e1 e4 fok fu F
      have e5 : He.fAd K fd.d.at_ = He.ga K x := by rw [e2]; rfl
      rw [e5] at F L
      rw [← e3]
      exact ⟨_, fu, fd.ps, fa_glo c X Gm (List.all_eq_true.mp ok.glo (x, i, n) hm), F.kp, Binds.of fok F, L⟩
    · have z := List.all_eq_true.mp ok.cls (x, t, i, n) hm
      dsimp only at z
      obtain ⟨z1, z2⟩ := Bool.and_eq_true_iff.mp z
      obtain ⟨z3, z4⟩ := Bool.and_eq_true_iff.mp z1
      obtain ⟨z5, z6⟩ := Bool.and_eq_true_iff.mp z4
      obtain ⟨z7, z8⟩ := Bool.and_eq_true_iff.mp z6
      have ex : x = Str.ofString t := of_decide_eq_true z3
      cases e : fds.lookup i with
      | none => rw [e] at z2; cases z2
      | some fd =>
        rw [e] at z2
        obtain ⟨z9, hi⟩ := Bool.and_eq_true_iff.mp z2
        obtain ⟨za, zb⟩ := Bool.and_eq_true_iff.mp z9
        have za : fd.d.at_ = (x, some ("__init__" : Str)) := of_decide_eq_true za
        have zb : fd.ps.length = n := by simpa using zb
        obtain ⟨fok, fu, F⟩ := getD i fd e
        have e5 : He.fAd K fd.d.at_ = He.ma K (He.ga K x) "__init__" := by rw [za]; rfl
        have ht : t ∈ T.tags := List.mem_map.mpr ⟨(x, t, i, n), hm, rfl⟩
        refine ⟨He.ga K x, He.ma K (He.ga K x) "__init__", fu, fd.ps, ⟨ht, by rw [ex]⟩, He.glo_ok X Gm (fa_has c z5), He.cls_ok (fa_has c z7), He.mkr_ok (fa_has c z8), Binds.of fok F, ?_⟩
        match k, ih with
        | 0, _ => exact .inl fun as s => rfl
        | 1, _ => exact .inl fun as s => Gam_ini1 e hi as s
        | k + 2, ih =>
          refine .inr ⟨k + 1, rfl, ?_⟩
          have z := fn_of_fd (P := P) (w := w) (mg := mg) (base := base) fok F (ih k (by omega))
          rw [e5, ok.inis (i, fd) (lookup_in e) hi (Gam fds k) (Gam fds (k + 1)), ← Gam_ini2 e, zb] at z
          exact z
    · have z := List.all_eq_true.mp ok.mts (t, x, i, n) hm
      dsimp only at z
      obtain ⟨z1, z2⟩ := Bool.and_eq_true_iff.mp z
      obtain ⟨z3, z4⟩ := Bool.and_eq_true_iff.mp z1
      obtain ⟨z5, z6⟩ := Bool.and_eq_true_iff.mp z4
      cases e : fds.lookup i with
      | none => rw [e] at z2; cases z2
      | some fd =>
        rw [e] at z2
        obtain ⟨z9, hi⟩ := Bool.and_eq_true_iff.mp z2
        obtain ⟨za, zb⟩ := Bool.and_eq_true_iff.mp z9
        have za : fd.d.at_ = (Str.ofString t, some x) := of_decide_eq_true za
        have zb : fd.ps.length = n := by simpa using zb
        have hi : fd.ini = false := by simpa using hi
        obtain ⟨fok, fu, F⟩ := getD i fd e
        have L := lvl i fd e hi fok fu F
        have e5 : He.fAd K fd.d.at_ = He.ma K (He.ga K (Str.ofString t)) x := by rw [za]; rfl
        rw [e5] at F L
        rw [← zb]
        exact ⟨He.ga K (Str.ofString t), _, fu, fd.ps, ⟨by simpa using z3, rfl⟩, He.cls_ok (fa_has c z5), He.meth_ok (fa_has c z6), Binds.of fok F, L⟩
end
end Fl
set_option Elab.async false
set_option linter.all false
set_option maxRecDepth 100000
set_option maxHeartbeats 4000000
/-! Fl over the layer: a law's end. -/
namespace Fl
open PySem PySem.Spec L2 PyProof.Rows

theorem caller1 {k : Nat} (h : k ≤ 600) : Room1 k callerA := ⟨rfl, by
  have h1 : callerA.depth = 301 := by kernel_rfl
  have h2 : recursionLimit = 1000 := by kernel_rfl
  rw [h1, h2]; omega, by
  have h1 : callerA.units = 4 := by kernel_rfl
  have h2 : cLine = 9900 := by kernel_rfl
  rw [h1, h2]; omega, by kernel_rfl⟩
/-- the promise of the law's def, at the heap behind the top -/
theorem law1 {P : Program} {w : World} {K : PySem.W.Frag} {mg mb : Str → Option Value} {k : Nat} {fa a : Addr} {fd : FuncData} {x : Str} {sp : Sp} {s1 : Shared} {vs : List Value} {ns : List Int}
    (KX : K.In s1.heap) (h1 : s1.heap.Ns mainGlobals mg) (h2 : s1.heap.Ns builtinsNs mb) (h3 : ∀ x : Str, x ≠ "__name__" → mb x = bootBuiltins x) (h4 : s1.heap.NoLimit) (h5 : s1.gens = #[])
    (h6 : s1.heap.get? a = some { cls := .type "list", data := .seq vs.toArray }) (h7 : IntsAre vs ns) (h8 : ns.length ≤ sizeLine) (hr : Room1 k callerA)
    (F : ∀ base : Heap, K.In base → base.Ns mainGlobals mg → FnOk1 P w K mg base k fa fd [x] sp) (hb : ∀ (s : Shared) (u : Value), BindsTo s fd ⟨[u], []⟩ [(x, u)])
    (hs : ∀ H : Hp, Only H → SqL K H a (ns.map V.int) → sp [.ref a] H (fun v _ => v = .bl true) fun _ _ _ => False) :
    codeAny (model P w) callerA (.call (.ref fa) ⟨[.ref a], []⟩) (fun r s' => r = .ok (.ret (.bool true)) ∧ OldK s1.heap s'.heap ∧ s'.os = s1.os ∧ AllBare s'.gens) s1 := by
  have rv := vals_ints h7
  have hlen := h7.length
  have go : ∀ H : Hp, Only H → SqL K H a (ns.map V.int) → HOk P w H s1.heap → (∀ b, H b ≠ none → b = a ∧ K.lookup a = none) →
      codeAny (model P w) callerA (.call (.ref fa) ⟨[.ref a], []⟩) (fun r s' => r = .ok (.ret (.bool true)) ∧ OldK s1.heap s'.heap ∧ s'.os = s1.os ∧ AllBare s'.gens) s1 := by
    intro H hO hS hok hA
    have free : ∀ {b : Addr}, (b = a → K.lookup a = none → False) → H b = none := fun {b} hne => by
      cases q : H b with
      | none => rfl
      | some u =>
        obtain ⟨e1, e2⟩ := hA b (by rw [q]; simp)
        exact (hne e1 e2).elim
    have nsK : ∀ {b : Addr} {m : Str → Option Value}, s1.heap.Ns b m → (hidT s1.heap H).Ns b m := by
      rintro b m ⟨o, es, ep, e, d, r⟩
      refine ⟨o, es, ep, hidT_get e (free fun hba _ => ?_), d, r⟩
      subst hba
      rw [h6] at e
      cases e
      have d' : Data.seq vs.toArray _ = Data.dict es ep := d
      cases d'
    have hKb : K.In (hidT s1.heap H) := fun b o e => hidT_get (KX b o e) (free fun hba hn => by
      subst hba
      rw [hn] at e; cases e)
    obtain ⟨mc, l1, l2⟩ := h4
    have e0 : Env0 P w K mg (hidT s1.heap H) callerA [] s1 H :=
      ⟨rfl, ⟨hKb, nsK h1, ⟨mb, nsK h2, h3⟩, mc, nsK l1, l2⟩, fun b o e => of_hidT e, Nat.le_of_eq (hidT_size _ _), trivial, fun b z => absurd (show b ∈ ([] : List Addr) from z) (by simp), hok, .of_eq h5⟩
    refine codeAny_mono ((F _ hKb (nsK h1)).run callerA [] s1 H ⟨[.ref a], []⟩ [.ref a] [.ref a] _ _ hr e0 (hb s1 (.ref a)) (.cons rfl .nil) (hs H hO hS)) fun r s' q => ?_
    cases r with
    | error e =>
      obtain ⟨_, _, _, _, _, _, _, _, _, _, _, _, z⟩ := q
      exact z.elim
    | ok fl =>
      cases fl with
      | next => exact (show False from q).elim
      | brk => exact (show False from q).elim
      | cont => exact (show False from q).elim
      | ret u =>
        obtain ⟨v, H', os, bare, un, hok', r', qv⟩ := q
        have qv : v = .bl true := qv
        subst qv
        obtain rfl : u = Value.bool true := r'
        refine ⟨rfl, OldK.of_keep fun b o e => ?_, os, bare⟩
        rcases hO b with z | ⟨ob, xs, z⟩
        · exact un.keep b o e z (fun y => absurd (show b ∈ ([] : List Addr) from y) (by simp)) (by simp)
        · obtain ⟨e1, _⟩ := hok b _ z
          obtain ⟨e2, _⟩ := hok' b _ (un.frzs b ob _ z)
          rw [e] at e1
          cases e1
          exact e2
  cases hk : K.lookup a with
  | some o =>
    have e := KX a o hk
    rw [h6] at e
    cases e
    have sq : SqL K (fun _ => none) a (ns.map V.int) := .inr ⟨_, vs.toArray, _, hk, rfl, rfl, rfl, by rw [List.size_toArray, hlen]; exact h8, by simpa using rv⟩
    exact go (fun _ => none) (fun _ => .inl rfl) sq (fun b u z => by cases z) fun b z => absurd rfl z
  | none =>
    have at_ : ∀ {b : Addr} {u : HO}, (if b = a then some (HO.frz { cls := .type "list", data := .seq vs.toArray } (.lst (ns.map V.int))) else none) = some u → b = a ∧ u = .frz { cls := .type "list", data := .seq vs.toArray } (.lst (ns.map V.int)) := fun {b u} z => by
      by_cases hb : b = a
      · rw [if_pos hb] at z
        exact ⟨hb, (Option.some.inj z).symm⟩
      · rw [if_neg hb] at z; cases z
    refine go (fun b => if b = a then some (.frz { cls := .type "list", data := .seq vs.toArray } (.lst (ns.map V.int))) else none) (fun b => ?_) (.inl (.inr ⟨_, if_pos rfl⟩)) (fun b u z => ?_) fun b z => ⟨?_, hk⟩
    · by_cases hb : b = a
      · exact .inr ⟨_, _, if_pos hb⟩
      · exact .inl (if_neg hb)
    · obtain ⟨rfl, rfl⟩ := at_ z
      exact ⟨h6, by rw [List.length_map]; exact h8, vs, _, rv, h6⟩
    · by_cases hb : b = a
      · exact hb
      · exact absurd (if_neg hb) z
/-- what the mirror of the law must say -/
theorem law_sp {K : PySem.W.Frag} {CA : Tags} {XR : XRel} {F : List Val → M Val} {H : Hp} {a : Addr} {ns : List Int} (hl : ns.length ≤ L) (hO : Only H) (hS : SqL K H a (ns.map V.int)) (h : ∃ s, F [.scr ns] [] = .ok (vB true) s) :
    spOf K CA XR F 1 [.ref a] H (fun v _ => v = .bl true) fun _ _ _ => False := by
  obtain ⟨s, h⟩ := h
  refine ⟨rfl, fun _ => 0, [], [.scr ns], ⟨fun n c e => by simp [Store.cell] at e, fun n n' c c' e => by simp [Store.cell] at e⟩, ⟨.ref a, [], rfl, ⟨hl, a, rfl, ?_⟩, rfl⟩, ?_⟩
  · rcases hO a with z | ⟨o, xs, z⟩
    · refine .inr fun H1 => ?_
      rcases hS with (q | ⟨_, q⟩) | q
      · rw [z] at q; cases q
      · rw [z] at q; cases q
      · exact .inr q
    · exact .inl ⟨by rw [z]; simp, fun ⟨n, c, e, _⟩ => by simp [Store.cell] at e, hS⟩
  · rw [h]
    intro m' H' _ _ v r
    exact r
section
variable {T : Tab} {fds : List (Nat × FD)} {fa : List He.Fa} {ts : List String}
/-- a law over a head by facts -/
theorem law_end {l : PySem.W.OpenLaw} {q : Program} {loose : List Str} {XP : (Str → Option Value) → Heap → Prop} {d : DefRec} {nh : Nat} {x : Str} (hn : l.most = some 63) (hdf : d.params.defaults = []) (ok : TabOk T fds fa ts)
    (i k : Nat) (hk : k + 1 ≤ 600) (hi : (d.name, i, 1) ∈ T.fns) (hx : ∀ (fd : FD), fds.lookup i = some fd → fd.ps = [x]) (plain : ∀ ns : List Int, ns.length ≤ 63 → ∃ s, Gam fds (k + 1) i [.scr ns] [] = .ok (vB true) s) :
    PySem.W.WalkO q loose XP (hkF nh fa (fds.map (·.2.d)) (exAll T ts)).says l.row.toRowW d [] (fun f vs => PySem.call f vs) := by
  refine Att.attach_call hn hdf fun w s0 s1 mg mb f o pm cd doc a vs ns G Y ho hd hcd hmg hobj hints hlen hg => ?_
  obtain ⟨K, KX, c, ex⟩ := Y
  have gl := fun (base : Heap) => glob_all (P := l.prog) (w := w) (base := base) ok KX G.T.g c ex (k + 1)
  obtain ⟨f1, fu, ps, e1, e2, e3, e4⟩ := (gl s1.heap).fns d.name i 1 hi
  have ef : f1 = f := by
    rw [hmg] at e1
    injection e1 with e1
    injection e1 with e1
    exact e1.symm
  subst ef
  -- its parameter
  have z := List.all_eq_true.mp ok.fns (d.name, i, 1) hi
  dsimp only at z
  cases e : fds.lookup i with
  | none => rw [e] at z; cases z
  | some fd =>
    rw [e] at z
    obtain ⟨z0, z3⟩ := Bool.and_eq_true_iff.mp z
    obtain ⟨z1, z2⟩ := Bool.and_eq_true_iff.mp z0
    have z1 : fd.d.at_ = (d.name, none) := of_decide_eq_true z1
    obtain ⟨j, hj⟩ := List.mem_iff_getElem?.mp (lookup_in e)
    obtain ⟨fu, F⟩ := c.def_ j (d := fd.d) (by rw [List.getElem?_map, hj]; rfl)
    have e5 : He.fAd K fd.d.at_ = He.ga K d.name := by rw [z1]; rfl
    rw [e5] at F
    have hgl := fa_glo c KX G.T.g (List.all_eq_true.mp ok.glo (d.name, i, 1) hi)
    have ef : He.ga K d.name = f1 := by
      rw [hmg] at hgl
      injection hgl with hgl
      injection hgl with hgl
      exact hgl.symm
    rw [ef] at F
    have fok := ok.ok (i, fd) (lookup_in e)
    have hp := hx fd e
    have bd : Binds K fu fd.ps [] := Binds.of fok F
    have eG : ∀ k, Gam fds (k + 1) i = mkFn fd.N.length fd.ps.length (fd.sm (Gam fds k)) := fun k => Gam_succ e (by simpa using z3)
    refine law1 (x := x) KX G.T.g G.T.b G.T.builtins G.T.nolimit hg hobj hints (Nat.le_trans hlen (by rw [sizeLine_eq]; decide)) (caller1 hk) (fd := fu) (fun base hb1 hb2 => ?_) (fun s u => ?_) fun H hO hS => law_sp (XR := XRof K ts) (CA := CAof K T.tags) (Nat.le_trans hlen (by decide)) hO hS (plain ns hlen)
    · have gk := glob_all (P := l.prog) (w := w) (base := base) ok KX G.T.g c ex k
      have r := fn_of_fd (P := l.prog) (w := w) (mg := mg) (base := base) fok F gk
      rw [← eG k, hp] at r
      exact r
    · have ed : fd.d.dvs K = [] := by unfold He.DefD.dvs; rw [fok.dfl]; rfl
      rw [ed] at F
      have r := F.bindsA (ps := fd.ps) fok.bind s [u] (by rw [hp]; rfl)
      rw [hp] at r
      exact r
end
end Fl
set_option Elab.async false
set_option linter.all false
set_option maxRecDepth 100000
set_option maxHeartbeats 2000000
/-! Fl over the layer: a cell becomes a tree; repr. -/
namespace Fl
open PySem PySem.Spec L2

section
variable {tb : Tab} {G : FEnv} {CA : Tags} {XR : XRel} {k : Nat} {N : List Str} {sc : Scope} {own : Str → Bool} {X : Cx} {W : WX}
variable {a b c e : Expr} {es : List Expr} {pos pos' p : Pos} {f g h : CE}

theorem frz_core {K : PySem.W.Frag} {m : Mp} {st : Store} {H : Hp} (S : SR K CA m st H) (n : Nat) : freeze (.loc n) st = .bad ∨ ∃ d, freeze (.loc n) st = .ok (.t d) (st.set n none) ∧ Rep K H (live m (st.set n none)) d (.ref (m n)) := by
  unfold freeze
  dsimp only
  cases e : st.cell n with
  | none => exact .inl rfl
  | some c =>
    obtain ⟨T, S'⟩ := S.drop n
    have nl : ¬ live m (st.set n none) (m n) := fun ⟨j, d, h1, h2⟩ => by
      rw [cell_none] at h1
      by_cases hj : j = n
      · rw [if_pos hj] at h1; cases h1
      · rw [if_neg hj] at h1
        exact hj (S.inj j n d c h1 e h2)
    have lv : ∀ x, live m (st.set n none) x → live m st x ∨ H x = none := T.lv
    have kp : ∀ x o, H x = some o → ¬ live m st x → Kp H x o := fun _ _ h _ => .inl h
    cases c with
    | lst vs =>
      dsimp only
      cases e2 : trees vs with
      | none => exact .inl rfl
      | some ts =>
        obtain ⟨us, h1, z, rs⟩ := S.cells n _ e
        exact .inr ⟨_, rfl, m n, us, rfl, ⟨h1, nl⟩, by rw [trees_length e2]; exact z, Reps.mono kp lv _ _ (RepVs.of_trees e2 rs)⟩
    | tup vs =>
      dsimp only
      cases e2 : trees vs with
      | none => exact .inl rfl
      | some ts =>
        obtain ⟨us, h1, z, rs⟩ := S.cells n _ e
        exact .inr ⟨_, rfl, m n, us, rfl, .inl ⟨h1, nl⟩, by rw [trees_length e2]; exact z, Reps.mono kp lv _ _ (RepVs.of_trees e2 rs)⟩
    | dct vs =>
      dsimp only
      cases e2 : treesK vs with
      | none => exact .inl rfl
      | some ts =>
        obtain ⟨us, h1, z, rs⟩ := S.cells n _ e
        exact .inr ⟨_, rfl, m n, us, rfl, ⟨.inl h1, nl⟩, by rw [treesK_len e2]; exact z, RepK.mono kp lv _ _ (RepVK.of_trees e2 rs)⟩
    | ins _ _ => exact .inl rfl
    | kd _ => exact .inl rfl
theorem frz_ok {K : PySem.W.Frag} {σ : L2.St} {m : Mp} {st : Store} {H : Hp} {x : Val} {v : V} {Q : VK} (S : SR K CA m st H) (r : RepV K m st H x v)
    (q : PR K CA XR W σ (freeze x st) m st H fun a m' st' H' => ∀ u, RepV K m' st' H' a u → Q u H') : Q v H := by
  cases x with
  | t d => exact PR.here (a := Val.t d) (K := K) (CA := CA) (XR := XR) (W := W) (σ := σ) S q v r
  | loc n =>
    obtain ⟨hn, rfl⟩ := r
    rcases frz_core S n with e | ⟨d, e, rd⟩
    · rw [e] at q; exact q.elim
    · rw [e] at q
      obtain ⟨T, S'⟩ := S.drop n
      exact q m H S' T _ rd
  | scr ns => exact (show False from q).elim
  | ex y => exact (show False from q).elim
/-- a list that is written no more, from here on a tree -/
theorem se_frz (ha : SE CA XR X W a f) : SE CA XR X W a (e1 freeze f) := PE.weak ha fun σ H Q ⟨m, st, ρ, S, E, q⟩ =>
  ⟨m, st, ρ, S, E, (PR.bind_of q).mono fun x m1 st1 H1 S1 T1 h1 v rv => frz_ok S1 rv h1⟩

/-! ### repr -/
theorem call_reprD (hg : X.A.guards = some []) : CallR X (.builtin "repr") (fun xs H Q => ∃ a d, xs = [.ref a] ∧ Dp X.K H (.ref a) d ∧ d.showable = true ∧ d.hasDict = false ∧ X.A.units + (d.depth + 1) < cLine ∧ d.shown.length ≤ sizeLine ∧ Q (.str d.shown) H) := by
  intro pins s σ H xs us Q I r h
  obtain ⟨a, d, rfl, hD, h1, h2, h3, h4, q⟩ := h
  obtain ⟨u, rfl, r1⟩ := vals1 r
  obtain ⟨as, hr⟩ := Dp.reads I d (.ref a) u hD r1
  have e : u = .ref a := r1
  subst e
  exact repr_of_reads' (prog := X.prog) (w := X.w) (s := s) (E := X.xe) (Q := EP X pins σ Q) hr h1 (fun z => by rw [h2] at z; cases z) hg h3 (fun _ _ h => h) (fun h' u tk k => ⟨.str d.shown, H, I.kept k, ⟨_, rfl⟩, q⟩) h4
theorem call_reprI : CallR X (.builtin "repr") (fun xs H Q => ∃ i, xs = [.int i] ∧ i.natAbs.log2 < 1920 ∧ Q (.str (toString i)) H) := by
  intro pins s σ H xs us Q I r h
  obtain ⟨i, rfl, hz, q⟩ := h
  obtain ⟨u, rfl, t, rfl⟩ := vals1 r
  exact PySem.P.repr_of_int hz ⟨.str _, H, I.tok _, ⟨_, rfl⟩, q⟩
end

/-! ### how long the text is -/
theorem list_text (ts : List Str) : (listText ts).length ≤ piled ts + 2 := by
  unfold listText
  rw [strLen_append]
  cases ts with
  | nil => show (textFrom 0 "[" []).length + _ ≤ _; simp only [piled_nil]; decide
  | cons t r =>
    show (textFrom 1 ((("[" : String) : Str) ++ (("" : String) : Str) ++ t) r).length + _ ≤ _
    rw [textFrom_length_pos _ _ _ (by decide), strLen_append, strLen_append, piled_cons]
    have e1 : ((("[" : String) : Str)).length = 1 := rfl
    have e2 : ((("" : String) : Str)).length = 0 := rfl
    have e3 : ((("]" : String) : Str)).length = 1 := rfl
    rw [e1, e2, e3]; omega
theorem log2_64 {i : Int} (h : i.natAbs < 2 ^ 64) : i.natAbs.log2 < 64 := by
  by_cases z : i.natAbs = 0
  · rw [z]; decide
  · exact (Nat.log2_lt z).mpr h
mutual
theorem shown_rlen : ∀ (d : T), T.rlen d ≤ L → (toPy d).shown.length ≤ T.rlen d ∧ (toPy d).showable = true ∧ (toPy d).hasDict = false
  | .non, _ => by simp only [toPy, T.rlen]; exact ⟨by decide, rfl, rfl⟩
  | .bl b, _ => by simp only [toPy, T.rlen]; cases b <;> exact ⟨by decide, rfl, rfl⟩
  | .int i, h => by
    simp only [toPy, T.rlen] at *
    by_cases z : i.natAbs < 2 ^ 64
    · rw [if_pos z]
      refine ⟨?_, ?_, rfl⟩
      · have := int_text_length_le (a := i) (k := 64) (by decide) (log2_64 z)
        have e : (Str.ofString (toString i)).length = (toString i).length := ofStr_len _
        show (Str.ofString (toString i)).length ≤ _
        omega
      · simp only [PyData.showable, decide_eq_true_eq]
        have := log2_64 z
        omega
    · rw [if_neg z] at h; simp [L] at h
  | .str x, _ => by
    simp only [toPy, T.rlen]
    refine ⟨?_, rfl, rfl⟩
    have h := StrLaws.reprText_len (Str.ofString x) fun c hc => by
      have := ofStr_ok x
      unfold PyData.strOk at this
      simp only [Array.all_eq_true', decide_eq_true_eq] at this
      have := this c (by simpa using hc)
      omega
    rw [ofStr_len] at h
    exact h
  | .tup a, h => by
    simp only [toPy, T.rlen] at *
    obtain ⟨h1, h2, h3⟩ := showns_rlen a (by omega)
    refine ⟨?_, h2, h3⟩
    have := fmt_text (PyData.shownAll (toPys a))
    simp only [PyData.shown]
    omega
  | .lst a, h => by
    simp only [toPy, T.rlen] at *
    obtain ⟨h1, h2, h3⟩ := showns_rlen a (by omega)
    refine ⟨?_, h2, h3⟩
    have := list_text (PyData.shownAll (toPys a))
    simp only [PyData.shown]
    omega
  | .dct _, h => by simp [T.rlen, L] at h
  | .rp _, h => by simp [T.rlen, L] at h
theorem showns_rlen : ∀ (ds : List T), T.rlens ds ≤ L → piled (PyData.shownAll (toPys ds)) ≤ T.rlens ds ∧ PyData.showableAll (toPys ds) = true ∧ PyData.hasDictAll (toPys ds) = false
  | [], _ => ⟨by simp [toPys, PyData.shownAll, piled_nil, T.rlens], rfl, rfl⟩
  | d :: r, h => by
    simp only [T.rlens] at h
    obtain ⟨a1, a2, a3⟩ := shown_rlen d (by omega)
    obtain ⟨b1, b2, b3⟩ := showns_rlen r (by omega)
    refine ⟨?_, ?_, ?_⟩
    · simp only [toPys, PyData.shownAll, piled_cons, T.rlens]; omega
    · simp only [toPys, PyData.showableAll, a2, b2, Bool.and_self]
    · simp only [toPys, PyData.hasDictAll, a3, b3, Bool.or_self]
end
section
variable {tb : Tab} {G : FEnv} {CA : Tags} {XR : XRel} {k : Nat} {N : List Str} {sc : Scope} {own : Str → Bool} {X : Cx} {W : WX}
variable {a b c e : Expr} {es : List Expr} {pos pos' p : Pos} {f g h : CE}
theorem se_repr (C : Cq tb G CA XR k N sc own X W) (h : bltB tb sc "repr" = true) (ha : SE CA XR X W a f) (hs : starEach [a] X.env = (false, eval a X.env) :: starEach [] X.env := by rfl) : SE CA XR X W (.Call (.Name "repr" p) [a] [] pos) (e1 reprV f) := by
  refine call1 C.toCw h (CallR.or (call_reprD C.room.gd) call_reprI) (by decide +kernel) (fun σ x m st H v Q S r q => ?_) ha hs
  unfold reprV at q
  cases e : deep st deepMax x with
  | none => rw [e] at q; exact q.elim
  | some d =>
    rw [e] at q
    dsimp only at q
    split at q
    · rename_i hz
      obtain ⟨h1, h2, h3⟩ := hz
      obtain ⟨a1, a2, a3⟩ := shown_rlen d h3
      have hD := (deep_dp S deepMax).1 x v d 60 e h2 r
      have hdp := depth_le 60 d h2
      have hu := C.un
      have z : (toPy d).shown.length ≤ sizeLine := lineOf (by omega)
      have qq : Q (.str (PyData.shown (toPy d))) H := PR.here S q _ rfl
      cases d with
      | tup ts =>
        have hv : ∃ a, v = .ref a := by
          simp only [toPy] at hD
          cases hD with
          | tup _ _ => exact ⟨_, rfl⟩
        obtain ⟨a, rfl⟩ := hv
        exact .inl ⟨a, _, rfl, hD, a2, a3, by omega, z, qq⟩
      | lst ts =>
        have hv : ∃ a, v = .ref a := by
          simp only [toPy] at hD
          cases hD with
          | lst _ _ => exact ⟨_, rfl⟩
        obtain ⟨a, rfl⟩ := hv
        exact .inl ⟨a, _, rfl, hD, a2, a3, by omega, z, qq⟩
      | int i =>
        have hv : v = .int i := by
          simp only [toPy] at hD
          cases hD; rfl
        subst hv
        refine .inr ⟨i, rfl, ?_, ?_⟩
        · simp only [toPy, PyData.showable, decide_eq_true_eq] at a2; exact a2
        · simpa only [toPy, PyData.shown] using qq
      | _ => simp [reprOk] at h1
    · exact q.elim
end
end Fl
set_option Elab.async false
set_option linter.all false
set_option maxRecDepth 100000
set_option maxHeartbeats 4000000
/-! Fl over the layer: list comprehensions of two clauses; nothing raised within. -/
namespace Fl
open PySem PySem.Spec L2

abbrev W0 : WX := fun _ _ _ _ => False
theorem PR.calm {α : Type} {K : PySem.W.Frag} {CA : Tags} {XR : XRel} {W : WX} {σ σ' : L2.St} {f : M α} {m : Mp} {st : Store} {H : Hp} {ok : α → Mp → Store → Hp → Prop} (h : PR K CA XR W σ (calmR f st) m st H ok) : PR K CA XR W0 σ' (f st) m st H ok := by
  unfold calmR at h
  cases e : f st with
  | ok a s => rw [e] at h; exact h
  | exc x s => rw [e] at h; exact h.elim
  | bad => rw [e] at h; exact h.elim
theorem wipe_sub {own own1 : List Nat} (h : ∀ i ∈ own1, i ∈ own) (ρ : Env) : wipeE (wipeE ρ own1) own = wipeE ρ own := by
  refine List.ext_getElem? fun i => ?_
  rw [wipeE_get, wipeE_get, wipeE_len, wipeE_get]
  by_cases hi : i ∈ own
  · rw [if_pos hi, if_pos hi]
  · rw [if_neg hi, if_neg hi, if_neg fun z => hi (h i z)]

section
variable {tb : Tab} {G : FEnv} {CA : Tags} {XR : XRel} {k : Nat} {N : List Str} {sc : Scope} {own : Str → Bool} {X : Cx} {W : WX}
theorem block_ctx0 (C : Cq tb G CA XR k N sc own X W) {F : Addr} (hF : X.env.frame = some F) (hst : ∃ e0 r, X.stack = e0 :: r ∧ e0.frame = some F) (s : Shared) (H : Hp) (scope : Scope) (cl : List (Str × Addr)) (A : Addr) (fp : List Addr) :
    Cq tb G CA XR k N (relS scope sc) (blkOwn scope) ((X.blk s H scope (compEnvC scope cl A X.env) fp).wish fun _ _ => False) W0 := by
  refine ⟨⟨C.nm, C.nd, ?_, rfl, C.un, C.glob⟩, C.calm, ⟨F, hF, hst, ?_⟩, C.room⟩
  · show relS scope X.env.scope = _
    rw [C.sc]
  · rintro u s' ⟨a, B, sI, pI, σI, HI, cls, d, h1, J, h2⟩
    exact h1.2

theorem lc_core2 (C : Cq tb G CA XR k N sc own X W) {pins : List (Addr × Obj)} {s : Shared} {σ : L2.St} {H : Hp} {Q : VK} {elt tg iter tg1 iter1 : Expr} {ifs ifs1 : List Expr} {scope : Scope} {ownL : List (Str × Nat)} {own1 : List Nat} {pos pos' : Pos} {wi : TI} {use : Option (Value → Sem Unit)} {Qf : Value → Shared → Prop}
    {cell : Bool} {gm gm1 : CG} {tt tt1 : Option CT} {im1 : CI} {fm : CE} (hin : GIn (ownL.map (·.2)) gm) (hin1 : GIn own1 gm1) (hv : ∀ i ∈ own1, i ∈ ownL.map (·.2)) (I : Inv X pins σ H s) (hi : PI X tg iter wi) (ok : BlkOk N sc scope ownL)
    (hg : ∀ X' W', Cq tb G CA XR k N (relS scope sc) (blkOwn scope) X' W' → SG CA XR X' W' tg gm)
    (ht : ∀ X' W', Cq tb G CA XR k N (relS scope sc) (blkOwn scope) X' W' → PTs X' ifs (tMT X'.K CA XR W' (testM tt)))
    (hi1 : ∀ X' W', Cq tb G CA XR k N (relS scope sc) (blkOwn scope) X' W' → SI CA XR X' W' tg1 iter1 im1)
    (hg1 : ∀ X' W', Cq tb G CA XR k N (relS scope sc) (blkOwn scope) X' W' → SG CA XR X' W' tg1 gm1)
    (ht1 : ∀ X' W', Cq tb G CA XR k N (relS scope sc) (blkOwn scope) X' W' → PTs X' ifs1 (tMT X'.K CA XR W' (testM tt1)))
    (he : ∀ X' W', Cq tb G CA XR k N (relS scope sc) (blkOwn scope) X' W' → SE CA XR X' W' elt fm) (hs : ∀ x, foldedSetIterable iter X.env x = pure x) (hs1 : ∀ env x, foldedSetIterable iter1 env x = pure x)
    (h : wi σ H fun J H1 => ∃ vs m st ρ, Wk X.K CA J vs m st H1 ∧ SR X.K CA m st H1 ∧ ER X.K m st H1 ρ σ ∧
      PR X.K CA XR W0 σ ((comp2K gm tt im1 gm1 tt1 fm own1 (wipeE ρ (ownL.map (·.2))) [] vs >>= newL cell) st) m st H1 fun a m' st' H' => ∀ v, RepV X.K m' st' H' a v → Q v H')
    (hRR : ∀ D (ce : PySem.Env) s' m H', Inv X pins σ H' s' → Q (.ref D) H' → s'.heap.Ns ce.locals m → FpOk X pins H' ce.locals → cpost (model X.prog X.w) X.A X.xe use Qf (.ref D) ce (.ok .next) s') :
    wpAny (model X.prog X.w) X.A (comprehension (.ListComp elt [⟨tg, iter, ifs, 0⟩, ⟨tg1, iter1, ifs1, 0⟩] scope pos) scope X.env pos' (newList []) false (eval iter X.env) use) Qf X.xe s := by
  obtain ⟨F, hF, hst, tk⟩ := C.takes
  have okX : BlkOk X.N X.env.scope scope ownL := by rw [C.nm, C.sc]; exact ok
  have ndX : X.N.Nodup := by rw [C.nm]; exact C.nd
  have free : ∀ y ∈ scope.names, y.2 = .free → ∃ c, X.env.cells.lookup y.1 = some c := by
    intro y hy e
    rcases okX.free y hy e with z | z
    · exact I.ok.has _ (.inl z)
    · exact I.ok.has _ (.inr z)
  refine comp_free (use := use) rfl hs (closure_ok free) ok.kind (fun y hy e => by rw [ok.uniq y hy, e]) (thn (hi.run pins s σ H _ I h) fun xv s1 hx => thn hx ?_)
  rintro itv s2 ⟨it, fp, tn, J, H2, rfl, I2, T, st2, f2, vs, m0, st0, ρ0, wk, S0, E0, q0⟩
  refine wpAny_newObj_type (newEnv_comp ?_) (by show 0 ≤ sizeLine; decide)
  obtain ⟨D, hD⟩ : ∃ D, D = s2.heap.objs.size := ⟨_, rfl⟩
  rw [← hD]
  have hDn : H2 D = none := I2.hok.fresh (Nat.le_of_eq hD.symm)
  obtain ⟨s3, hs3⟩ : ∃ s3 : Shared, s3 = { s2 with heap := s2.heap.push { cls := .type "list", data := .seq ([] : List Value).toArray } } := ⟨_, rfl⟩
  rw [← hs3]
  have h3 : s3.heap = s2.heap.push { cls := .type "list", data := .seq ([] : List Value).toArray } := by rw [hs3]
  have D3 : s3.heap.get? D = some { cls := .type "list", data := .seq ([] : List Value).toArray } := by rw [h3, hD]; exact Heap.get?_push_size _ rfl
  have I3 : Inv X pins σ H2 s3 := by rw [hs3]; exact I2.kept (t' := s2.toks) fun b o e => Heap.get?_push_of_some _ e
  have fD : FpOk X pins H2 D := I2.fpOk (Nat.le_of_eq hD.symm) hDn
  have sz : ∀ b ∈ fp, b < s2.heap.objs.size := fun b hb => by
    obtain ⟨o, e, _⟩ := T.obj _ _ st2 b hb
    exact Heap.lt_size e
  have fpD : ∀ b ∈ D :: fp, FpOk X pins H2 b ∧ b < s3.heap.objs.size := fun b hb => by
    rcases List.mem_cons.mp hb with z | z
    · subst z; exact ⟨fD, Heap.lt_size D3⟩
    · exact ⟨f2 b z, by rw [h3, Heap.size_push]; exact Nat.lt_succ_of_lt (sz b z)⟩
  have Dfp : ∀ b ∈ fp, D ≠ b := fun b hb z => by have := sz b hb; rw [← z, hD] at this; exact absurd this (Nat.lt_irrefl _)
  have st3 : tn 0 s3.heap := T.keep _ _ _ st2 fun b _ o e => by rw [h3]; exact Heap.get?_push_of_some _ e
  have I4 := block_start I3 okX ndX fpD
  have Cb := fun cl A => block_ctx0 C hF hst s3 H2 scope cl A (D :: fp)
  obtain ⟨cl, hcl⟩ : ∃ cl, cl = cellsFrom (s3.heap.objs.size + 1) scope.names (cloFrom X.env.cells scope.names []) := ⟨_, rfl⟩
  rw [← hcl] at I4 ⊢
  obtain ⟨ce, hce⟩ : ∃ ce, ce = compEnvC scope cl s3.heap.objs.size X.env := ⟨_, rfl⟩
  have Cb := Cb cl s3.heap.objs.size
  rw [← hce] at I4 Cb
  have cL : ce.locals = s3.heap.objs.size := by rw [hce]; rfl
  obtain ⟨Y, hY⟩ : ∃ Y : Cx, Y = X.blk s3 H2 scope ce (D :: fp) := ⟨_, rfl⟩
  rw [← hY] at I4 Cb
  show codeAny (model X.prog X.w) X.A (.compStart (.ListComp elt [⟨tg, iter, ifs, 0⟩, ⟨tg1, iter1, ifs1, 0⟩] scope pos) 0 (.ref it) (.ref D) (compEnvC scope cl s3.heap.objs.size X.env)) (cpost (model X.prog X.w) X.A X.xe use Qf (.ref D) (compEnvC scope cl s3.heap.objs.size X.env)) { s3 with heap := pushCells (s3.heap.push { cls := .type "dict", data := .dict #[] }) scope.names }
  rw [← hce]
  obtain ⟨s4, hs4⟩ : ∃ s4 : Shared, s4 = { s3 with heap := pushCells (s3.heap.push { cls := .type "dict", data := .dict #[] }) scope.names } := ⟨_, rfl⟩
  rw [← hs4] at I4 ⊢
  have keep4 : ∀ b o, s3.heap.get? b = some o → s4.heap.get? b = some o := fun b o e => by rw [hs4]; exact pushCells_keeps _ _ _ _ (Heap.get?_push_of_some _ e)
  have st4 : tn 0 s4.heap := T.keep _ _ _ st3 fun b _ o e => keep4 b o e
  -- the context with its wish
  obtain ⟨Z, hZ⟩ : ∃ Z : Cx, Z = Y.wish fun _ _ => False := ⟨_, rfl⟩
  rw [← hZ] at Cb
  have I4 : Inv Z [] (wipe σ (ownL.map (·.2))) H2 s4 := by rw [hZ]; exact I4.wish _
  have zP : Z.prog = X.prog := by rw [hZ, hY]
  have zw : Z.w = X.w := by rw [hZ, hY]
  have zK : Z.K = X.K := by rw [hZ, hY]
  have zA : Z.A = X.A := by rw [hZ, hY]
  have zx : Z.ex = D :: fp := by rw [hZ, hY]
  have zn : Z.pn = [] := by rw [hZ, hY]
  have ze : Z.env = ce := by rw [hZ, hY]
  have hc : Z.calm = true := Cb.calm
  have zair : ∀ {E : Value → Shared → Prop} (e : Value) (s' : Shared), Z.xe e s' → E e s' := fun {E} e s' x => by rw [hZ] at x; exact False.elim x
  have hDZ : D ∈ Z.ex := by rw [zx]; exact List.mem_cons_self
  have stat : ∀ {pl : List (Addr × Obj)} {σ' : L2.St} {H' : Hp} {s' : Shared}, Inv Z [] σ' H' s' → (∀ p ∈ pl, p.1 = D) → (∀ b ∈ fp, H' b = none) → ∀ b ∈ fp, FpOk Z pl H' b := by
    intro pl σ' H' s' I' hpl hn b hb
    have hb' : b ∈ Z.ex := by rw [zx]; exact List.mem_cons_of_mem _ hb
    refine ⟨hn b hb, (I'.ok.exf b hb').1, I'.ok.exfs b hb', .inl hb', fun x c e => (I'.ok.exf b hb').2 x c e, fun p hp => ?_⟩
    rw [zn, List.nil_append] at hp
    rw [hpl p hp]
    exact Dfp b hb
  have pg := hg Z _ Cb
  have pt := ht Z _ Cb
  have pi1 := hi1 Z _ Cb
  have pg1 := hg1 Z _ Cb
  have pt1 := ht1 Z _ Cb
  have pe := he Z _ Cb
  have q0' := q0.reW (W' := W0) (σ' := wipe σ (ownL.map (·.2))) fun _ _ _ z => z
  have Ew := ER.wipe E0 (ownL.map (·.2))
  let OK : Val → Mp → Store → Hp → Prop := fun a m' st' H' => ∀ v, RepV X.K m' st' H' a v → Q v H'
  let ρw : Env := wipeE ρ0 (ownL.map (·.2))
  let σw : L2.St := wipe σ (ownL.map (·.2))
  -- what is left of the outer walk
  let rem : Nat → List Val → M Val := fun i acc => comp2K gm tt im1 gm1 tt1 fm own1 ρw acc (vs.drop i) >>= newL cell
  let V : Nat → Nat → Hp → List L2.V → L2.St → Prop := fun i n H' av σi => i ≤ vs.length ∧ n = vs.length - i ∧ ∃ m st acc, SR X.K CA m st H' ∧ ER X.K m st H' ρw σi ∧ Step m0 st0 H2 m st H' ∧ RepVs X.K m st H' acc av ∧ acc.length ≤ L ∧
    PR X.K CA XR W0 σw (rem i acc st) m st H' OK
  -- the list, kept aside
  have pinD : ∀ {ps : List (Addr × Obj)} {σ' : L2.St} {H' : Hp} {s' : Shared} {o : Obj}, Inv Z ps σ' H' s' → s'.heap.get? D = some o → (∀ v, o.data ≠ .cell v) → H' D = none → Inv Z ((D, o) :: ps) σ' H' s' := by
    intro ps σ' H' s' o I' e nc nD
    refine I'.pins_of fun p hp => ?_
    rcases List.mem_cons.mp hp with z | z
    · subst z; exact ⟨e, nD, (I'.ok.exf D hDZ).1, I'.ok.exfs D hDZ, nc⟩
    · exact I'.pin p (List.mem_append_right _ z)
  have dpin : ∀ {ps : List (Addr × Obj)} {σ' : L2.St} {H' : Hp} {s' : Shared} {o : Obj}, Inv Z ((D, o) :: ps) σ' H' s' → s'.heap.get? D = some o ∧ H' D = none ∧ Inv Z ps σ' H' s' := fun I' =>
    let z := I'.pin (D, _) (List.mem_append_right _ List.mem_cons_self)
    ⟨z.1, z.2.1, I'.pins_of fun p hp => I'.pin p (List.mem_append_right _ (List.mem_cons_of_mem _ hp))⟩
  have nocell : ∀ {its : List Value} {c0 : Nat}, ∀ v, ({ cls := .type "list", data := .seq its.toArray c0 } : Obj).data ≠ .cell v := fun {its c0} v z => by
    have z' : Data.seq its.toArray c0 = .cell v := z
    cases z'
  let IV : Nat → Shared → Prop := fun n s' => ∃ i H' its av c0 σi, Inv Z [] σi H' s' ∧ tn i s'.heap ∧ (∀ b ∈ fp, H' b = none) ∧ H' D = none ∧ s'.heap.get? D = some { cls := .type "list", data := .seq (its : List Value).toArray c0 } ∧ Vals av its ∧ V i n H' av σi
  have loop : codeAny (model X.prog X.w) X.A (.compLoop (.ListComp elt [⟨tg, iter, ifs, 0⟩, ⟨tg1, iter1, ifs1, 0⟩] scope pos) 0 (.ref it) (.ref D) ce) (cpost (model X.prog X.w) X.A X.xe use Qf (.ref D) ce) s4 := by
    refine compLoop2_out (hs1 ce) IV ?_ vs.length
      ⟨0, H2, [], [], 0, _, I4, st4, fun b hb => (f2 b hb).1, hDn, keep4 _ _ D3, .nil, Nat.zero_le _, rfl, m0, st0, [], S0, Ew, Step.refl, rfl, Nat.zero_le _, q0'⟩
    rintro n s5 ⟨i, H5, its, av, c0, σi, I5, st5, n5, nD5, D5, va, hi5, rfl, m5, st5', acc, S5, E5, T5, ra, hacc, q5⟩
    have ipD := pinD I5 D5 nocell nD5
    have pD : ∀ p ∈ [(D, ({ cls := .type "list", data := .seq its.toArray c0 } : Obj))], p.1 = D := fun p hp => by
      obtain rfl : p = (D, { cls := .type "list", data := .seq its.toArray c0 }) := by simpa using hp
      rfl
    by_cases hlt : i < vs.length
    · obtain ⟨go, yl⟩ := wk.go i _ (List.getElem?_eq_getElem hlt) m5 st5' H5 S5 T5
      have ti := T.item Z zP zw zK hc i _ s5 _ H5 (fun _ _ => False) ipD (stat I5 pD n5) st5 go
      rw [zA] at ti
      refine thnF ti ?_
      rintro r s6 ⟨u, rfl, h6⟩
      refine thnF h6 ?_
      rintro _ s7 ⟨x, H7, I7, r7, y7, st7, n7⟩
      obtain ⟨S7, T7, rx⟩ := yl x H7 y7
      have I7' := I7.pinned (stat (I7.pins_of fun p hp => absurd hp (by simp)) pD n7) (T.obj _ _ st7)
      have E7 := E5.mono T7
      let rest2 : Bool → Env → M Val := fun b ρ' => (if b then im1 ρ' >>= fun ws => compKc gm1 tt1 fm (wipeE ρ' own1) acc ws >>= fun acc' => rem (i + 1) acc' else rem (i + 1) acc)
      let rest : Env → M Val := fun ρ' => testM tt ρ' >>= fun b => rest2 b ρ'
      have e : rem i acc st5' = (gm vs[i] ρw st5').bind rest := by
        show (comp2K gm tt im1 gm1 tt1 fm own1 ρw acc (vs.drop i) >>= newL cell) st5' = _
        rw [drop_at hlt, comp2K, bind_eq, bind_eq]
        cases gm vs[i] ρw st5' with
        | exc y t => rfl
        | bad => rfl
        | ok ρ' t =>
          show ((testM tt ρ' t).bind _).bind _ = (testM tt ρ' t).bind _
          cases testM tt ρ' t with
          | exc y t => rfl
          | bad => rfl
          | ok b t =>
            cases b with
            | false => rfl
            | true =>
              show ((im1 ρ' t).bind _).bind _ = (im1 ρ' t).bind _
              cases im1 ρ' t with
              | exc y t => rfl
              | bad => rfl
              | ok ws t =>
                show ((compKc gm1 tt1 fm (wipeE ρ' own1) acc ws t).bind _).bind _ = (compKc gm1 tt1 fm (wipeE ρ' own1) acc ws t).bind _
                cases compKc gm1 tt1 fm (wipeE ρ' own1) acc ws t with
                | exc y t => rfl
                | bad => rfl
                | ok b t => rfl
      rw [e] at q5
      have q7 := q5.step T7
      have g7 : tG Z.K CA XR W0 gm x σi H7 fun σ8 H8 => ∃ m8 st8 ρ8, SR X.K CA m8 st8 H8 ∧ Step m5 st5' H7 m8 st8 H8 ∧ ER X.K m8 st8 H8 ρ8 σ8 ∧ wipeE ρ8 (ownL.map (·.2)) = ρw ∧
          PR X.K CA XR W0 σw (rest ρ8 st8) m8 st8 H8 OK := by
        rw [zK]
        exact ⟨m5, st5', _, vs[i], S7, E7, rx, ((PR.bind_of q7).reW fun _ _ _ z => z).some fun ρ8 st8 e8 m8 H8 S8 T8 h8 σ8 E8 => ⟨m8, st8, ρ8, S8, T8, E8, wipe_back hin e8, h8⟩⟩
      have run1 := pg.run _ s7 _ H7 x u _ I7' r7 g7
      rw [zP, zw, zA, ze] at run1
      refine wpAny_mono run1 (fun _ s8 hq => ?_) fun e s' x => zair e s' x
      obtain ⟨σ8, H8, I8, m8, st8, ρ8, S8, T8, E8, w8, q8⟩ := hq
      have t8 : tMT Z.K CA XR W0 (testM tt) σ8 H8 fun b H9 => ∃ m9 st9, SR X.K CA m9 st9 H9 ∧ Step m5 st5' H7 m9 st9 H9 ∧ ER X.K m9 st9 H9 ρ8 σ8 ∧
          PR X.K CA XR W0 σw (rest2 b ρ8 st9) m9 st9 H9 OK := by
        rw [zK]
        exact ⟨m8, st8, ρ8, S8, E8, ((PR.bind_of q8).reW fun _ _ _ z => z).mono fun b m9 st9 H9 S9 T9 h9 => ⟨m9, st9, S9, T8.trans T9, E8.mono T9, h9⟩⟩
      have run2 := pt.run _ s8 σ8 H8 _ I8 t8
      rw [zP, zw, zA, ze] at run2
      refine wpAny_mono run2 (fun b s9 hq => ?_) fun e s' x => zair e s' x
      obtain ⟨H9, I9, m9, st9, S9, T9, E9, q9⟩ := hq
      have T5' := T5.trans T7
      -- a turn's end
      have fin : ∀ {σj : L2.St} {ρj : Env} {s' : Shared} {H' : Hp} {its' : List Value} {av' : List L2.V} {acc' : List Val} {c' : Nat} {m' : Mp} {st' : Store}, Inv Z (pinsAt fp s7.heap) σj H' s' → H' D = none → s'.heap.get? D = some { cls := .type "list", data := .seq its'.toArray c' } → Vals av' its' →
          SR X.K CA m' st' H' → ER X.K m' st' H' ρj σj → wipeE ρj (ownL.map (·.2)) = ρw → Step m0 st0 H2 m' st' H' → RepVs X.K m' st' H' acc' av' → acc'.length ≤ L → PR X.K CA XR W0 σw (rem (i + 1) acc' st') m' st' H' OK → ∃ n', n' < vs.length - i ∧ IV n' s' := by
        intro σj ρj s' H' its' av' acc' c' m' st' I' nD gD va' S' E' w' T' r' hz' q'
        have pin' : ∀ b ∈ fp, ∀ o, s7.heap.get? b = some o → s'.heap.get? b = some o ∧ H' b = none := fun b hb o e =>
          let z := I'.pin (b, o) (List.mem_append_right _ (mem_pinsAt hb e))
          ⟨z.1, z.2.1⟩
        have Ew' := ER.wipe E' (ownL.map (·.2))
        rw [w'] at Ew'
        refine ⟨vs.length - (i + 1), by omega, i + 1, H', its', av', c', _, (I'.pins_of fun p hp => absurd hp (by simp)).weak (wipe_length _ _) (fun j v e => (wipe_some e).1), T.keep _ _ _ st7 fun b hb o e => (pin' b hb o e).1, fun b hb => ?_, nD, gD, va',
          by omega, rfl, m', st', acc', S', Ew', T', r', hz', q'⟩
        obtain ⟨o, e, _⟩ := T.obj _ _ st7 b hb
        exact (pin' b hb o e).2
      cases b with
      | false =>
        simp only [Bool.false_eq_true, if_false] at q9 ⊢
        obtain ⟨d1, d2, d3⟩ := dpin I9
        exact fin d3 d2 d1 va S9 E9 w8 (T5'.trans T9) (RepVs.mono (T7.trans T9) _ _ ra) hacc q9
      | true =>
        simp only [if_true] at q9 ⊢
        have t10 : tI Z.K CA XR W0 im1 σ8 H9 fun J1 H10 => ∃ ws m10 st10, Wk X.K CA J1 ws m10 st10 H10 ∧ SR X.K CA m10 st10 H10 ∧ Step m5 st5' H7 m10 st10 H10 ∧ ER X.K m10 st10 H10 ρ8 σ8 ∧
            PR X.K CA XR W0 σw ((compKc gm1 tt1 fm (wipeE ρ8 own1) acc ws >>= fun acc' => rem (i + 1) acc') st10) m10 st10 H10 OK := by
          rw [zK]
          have q9' : PR X.K CA XR W0 σw ((im1 ρ8 >>= fun ws => compKc gm1 tt1 fm (wipeE ρ8 own1) acc ws >>= fun acc' => rem (i + 1) acc') st9) m9 st9 H9 OK := q9
          exact ⟨m9, st9, ρ8, S9, E9, ((PR.bind_of q9').reW fun _ _ _ z => z).mono fun ws m10 st10 H10 S10 T10 h10 J1 wk1 => ⟨ws, m10, st10, wk1, S10, T9.trans T10, E9.mono T10, h10⟩⟩
        have run3 := pi1.run _ s9 σ8 H9 _ I9 t10
        rw [zP, zw, zA, ze] at run3
        refine wpAny_mono run3 (fun xv s10 hx => ?_) fun e s' x => zair e s' x
        refine wpAny_mono hx (fun itv s11 h11 => ?_) fun e s' x => zair e s' x
        obtain ⟨it1, fp1, tn1, J1, H11, rfl, I11, T1, st11, f11, ws, m10, st10, wk1, S10, T10, E10, q10⟩ := h11
        obtain ⟨d1, d2, d3⟩ := dpin I11
        have T510 : Step m0 st0 H2 m10 st10 H11 := T5'.trans T10
        have Dfp1 : ∀ b ∈ fp1, D ≠ b := fun b hb z => (f11 b hb).2.2.2.2.2 (D, { cls := .type "list", data := .seq its.toArray c0 }) (List.mem_append_right _ List.mem_cons_self) z
        have stat1 : ∀ {H' : Hp} {o : Obj}, (∀ b ∈ fp1, H' b = none) → ∀ b ∈ fp1, FpOk Z ((D, o) :: pinsAt fp s7.heap) H' b := fun {H' o} hn b hb => by
          obtain ⟨z0, z1, z2, z3, z4, z5⟩ := f11 b hb
          refine ⟨hn b hb, z1, z2, z3, z4, fun p hp => ?_⟩
          rcases List.mem_append.mp hp with z | z
          · exact z5 p (List.mem_append_left _ z)
          · rcases List.mem_cons.mp z with z | z
            · subst z; exact Dfp1 b hb
            · exact z5 p (List.mem_append_right _ (List.mem_cons_of_mem _ z))
        let rem1 : Nat → List Val → M Val := fun j acc => compKc gm1 tt1 fm (wipeE ρ8 own1) acc (ws.drop j) >>= fun acc' => rem (i + 1) acc'
        let V1 : Nat → Nat → Hp → List L2.V → L2.St → Prop := fun j n H' av σj => j ≤ ws.length ∧ n = ws.length - j ∧ ∃ m st acc, SR X.K CA m st H' ∧ ER X.K m st H' (wipeE ρ8 own1) σj ∧ Step m10 st10 H11 m st H' ∧ RepVs X.K m st H' acc av ∧ acc.length ≤ L ∧
          PR X.K CA XR W0 σw (rem1 j acc st) m st H' OK
        let IV1 : Nat → Shared → Prop := fun n s' => ∃ j H' its av c0 σj, Inv Z (pinsAt fp s7.heap) σj H' s' ∧ tn1 j s'.heap ∧ (∀ b ∈ fp1, H' b = none) ∧ H' D = none ∧ s'.heap.get? D = some { cls := .type "list", data := .seq (its : List Value).toArray c0 } ∧ Vals av its ∧ V1 j n H' av σj
        have loop1 : codeAny (model X.prog X.w) X.A (.compLoop (.ListComp elt [⟨tg, iter, ifs, 0⟩, ⟨tg1, iter1, ifs1, 0⟩] scope pos) 1 (.ref it1) (.ref D) ce)
            (fun r s' => match r with
              | .ok _ => ∃ n', n' < vs.length - i ∧ IV n' s'
              | .error _ => False) s11 := by
          refine compLoop2_in IV1 ?_ ws.length ⟨0, H11, its, av, c0, _, d3.weak (wipe_length _ own1) (fun j v e => (wipe_some e).1), st11, fun b hb => (f11 b hb).1, d2, d1, va, Nat.zero_le _, rfl, m10, st10, acc, S10, ER.wipe E10 own1, Step.refl, RepVs.mono (T7.trans T10) _ _ ra, hacc, q10⟩
          rintro n1 s12 ⟨j, H12, its1, av1, c1, σj, I12, st12, n12, nD12, D12, va1, hj12, rfl, m12, st12', acc1, S12, E12, T12, ra1, hacc1, q12⟩
          have ipD1 := pinD I12 D12 nocell nD12
          by_cases hlt1 : j < ws.length
          · obtain ⟨go1, yl1⟩ := wk1.go j _ (List.getElem?_eq_getElem hlt1) m12 st12' H12 S12 T12
            have ti1 := T1.item Z rfl rfl rfl hc j _ s12 _ H12 (fun _ _ => False) ipD1 (stat1 n12) st12 go1
            rw [zP, zw, zA] at ti1
            refine thnF ti1 ?_
            rintro r s13 ⟨u1, rfl, h13⟩
            refine thnF h13 ?_
            rintro _ s14 ⟨x1, H14, I14, r14, y14, st14, n14⟩
            obtain ⟨S14, T14, rx1⟩ := yl1 x1 H14 y14
            have I14' := I14.pinned (stat1 n14) (T1.obj _ _ st14)
            have E14 := E12.mono T14
            let in2 : Bool → Env → M Val := fun b ρ' => (if b then fm ρ' >>= fun x => if acc1.length < L then rem1 (j + 1) (acc1 ++ [x]) else bad else rem1 (j + 1) acc1)
            let in1 : Env → M Val := fun ρ' => testM tt1 ρ' >>= fun b => in2 b ρ'
            have e1 : rem1 j acc1 st12' = (gm1 ws[j] (wipeE ρ8 own1) st12').bind in1 := by
              show (compKc gm1 tt1 fm (wipeE ρ8 own1) acc1 (ws.drop j) >>= fun acc' => rem (i + 1) acc') st12' = _
              rw [drop_at hlt1, compKc, bind_eq, bind_eq]
              cases gm1 ws[j] (wipeE ρ8 own1) st12' with
              | exc y t => rfl
              | bad => rfl
              | ok ρ' t =>
                show ((testM tt1 ρ' t).bind _).bind _ = (testM tt1 ρ' t).bind _
                cases testM tt1 ρ' t with
                | exc y t => rfl
                | bad => rfl
                | ok b t =>
                  cases b with
                  | false => rfl
                  | true =>
                    show ((fm ρ' t).bind _).bind _ = (fm ρ' t).bind _
                    cases fm ρ' t with
                    | exc y t => rfl
                    | bad => rfl
                    | ok x t =>
                      simp only [bind_ok]
                      by_cases hz : acc1.length < L
                      · rw [if_pos hz, if_pos hz]; rfl
                      · rw [if_neg hz, if_neg hz]; rfl
            rw [e1] at q12
            have q14 := q12.step T14
            have g14 : tG Z.K CA XR W0 gm1 x1 σj H14 fun σ8' H8' => ∃ m8 st8 ρ8', SR X.K CA m8 st8 H8' ∧ Step m12 st12' H14 m8 st8 H8' ∧ ER X.K m8 st8 H8' ρ8' σ8' ∧ wipeE ρ8' own1 = wipeE ρ8 own1 ∧
                PR X.K CA XR W0 σw (in1 ρ8' st8) m8 st8 H8' OK := by
              rw [zK]
              exact ⟨m12, st12', _, ws[j], S14, E14, rx1, ((PR.bind_of q14).reW fun _ _ _ z => z).some fun ρ8' st8 e8 m8 H8 S8 T8 h8 σ8 E8 => ⟨m8, st8, ρ8', S8, T8, E8, wipe_back hin1 e8, h8⟩⟩
            have run4 := pg1.run _ s14 _ H14 x1 u1 _ I14' r14 g14
            rw [zP, zw, zA, ze] at run4
            refine wpAny_mono run4 (fun _ s15 hq => ?_) fun e s' x => zair e s' x
            obtain ⟨σ15, H15, I15, m15, st15, ρ15, S15, T15, E15, w15, q15⟩ := hq
            have t15 : tMT Z.K CA XR W0 (testM tt1) σ15 H15 fun b H16 => ∃ m16 st16, SR X.K CA m16 st16 H16 ∧ Step m12 st12' H14 m16 st16 H16 ∧ ER X.K m16 st16 H16 ρ15 σ15 ∧
                PR X.K CA XR W0 σw (in2 b ρ15 st16) m16 st16 H16 OK := by
              rw [zK]
              exact ⟨m15, st15, ρ15, S15, E15, ((PR.bind_of q15).reW fun _ _ _ z => z).mono fun b m9 st9 H9 S9 T9 h9 => ⟨m9, st9, S9, T15.trans T9, E15.mono T9, h9⟩⟩
            have run5 := pt1.run _ s15 σ15 H15 _ I15 t15
            rw [zP, zw, zA, ze] at run5
            refine wpAny_mono run5 (fun b s16 hq => ?_) fun e s' x => zair e s' x
            obtain ⟨H16, I16, m16, st16, S16, T16, E16, q16⟩ := hq
            have fin1 : ∀ {s' : Shared} {H' : Hp} {its' : List Value} {av' : List L2.V} {acc' : List Val} {c' : Nat} {m' : Mp} {st' : Store}, Inv Z (pinsAt fp s7.heap ++ pinsAt fp1 s14.heap) σ15 H' s' → H' D = none → s'.heap.get? D = some { cls := .type "list", data := .seq its'.toArray c' } → Vals av' its' →
                SR X.K CA m' st' H' → ER X.K m' st' H' ρ15 σ15 → Step m10 st10 H11 m' st' H' → RepVs X.K m' st' H' acc' av' → acc'.length ≤ L → PR X.K CA XR W0 σw (rem1 (j + 1) acc' st') m' st' H' OK → ∃ n', n' < ws.length - j ∧ IV1 n' s' := by
              intro s' H' its' av' acc' c' m' st' I' nD gD va' S' E' T' r' hz' q'
              have pin' : ∀ b ∈ fp1, ∀ o, s14.heap.get? b = some o → s'.heap.get? b = some o ∧ H' b = none := fun b hb o e =>
                let z := I'.pin (b, o) (List.mem_append_right _ (List.mem_append_right _ (mem_pinsAt hb e)))
                ⟨z.1, z.2.1⟩
              have Ew' := ER.wipe E' own1
              rw [w15] at Ew'
              refine ⟨ws.length - (j + 1), by omega, j + 1, H', its', av', c', _, I'.unpinned.weak (wipe_length _ own1) (fun j v e => (wipe_some e).1), T1.keep _ _ _ st14 fun b hb o e => (pin' b hb o e).1, fun b hb => ?_, nD, gD, va',
                by omega, rfl, m', st', acc', S', Ew', T', r', hz', q'⟩
              obtain ⟨o, e, _⟩ := T1.obj _ _ st14 b hb
              exact (pin' b hb o e).2
            cases b with
            | false =>
              simp only [Bool.false_eq_true, if_false] at q16 ⊢
              obtain ⟨d1, d2, d3⟩ := dpin I16
              exact fin1 d3 d2 d1 va1 S16 E16 ((T12.trans T14).trans T16) (RepVs.mono (T14.trans T16) _ _ ra1) hacc1 q16
            | true =>
              simp only [if_true] at q16 ⊢
              have t17 : tM Z.K CA XR W0 fm σ15 H16 fun y H17 => ∃ m17 st17 x, SR X.K CA m17 st17 H17 ∧ Step m12 st12' H14 m17 st17 H17 ∧ ER X.K m17 st17 H17 ρ15 σ15 ∧ RepV X.K m17 st17 H17 x y ∧ acc1.length < L ∧
                  PR X.K CA XR W0 σw (rem1 (j + 1) (acc1 ++ [x]) st17) m17 st17 H17 OK := by
                rw [zK]
                have q16' : PR X.K CA XR W0 σw ((fm ρ15 >>= fun x => if acc1.length < L then rem1 (j + 1) (acc1 ++ [x]) else bad) st16) m16 st16 H16 OK := q16
                refine ⟨m16, st16, ρ15, S16, E16, ((PR.bind_of q16').reW fun _ _ _ z => z).mono fun x m17 st17 H17 S17 T17 h17 v rv => ?_⟩
                by_cases hz : acc1.length < L
                · rw [if_pos hz] at h17
                  exact ⟨m17, st17, x, S17, T16.trans T17, E16.mono T17, rv, hz, h17⟩
                · rw [if_neg hz] at h17
                  exact h17.elim
              have run6 := pe.run _ s16 σ15 H16 _ I16 t17
              rw [zP, zw, zA, ze] at run6
              refine wpAny_mono run6 (fun y s17 hq => ?_) fun e s' x => zair e s' x
              obtain ⟨yv, H17, I17, ry, m17, st17, xw, S17, T17, E17, rx17, hz, q17⟩ := hq
              obtain ⟨d1, d2, d3⟩ := dpin I17
              have hav : av1.length < L := by rw [← ra1.length]; exact hz
              have tr : Inv Z (pinsAt fp s7.heap ++ pinsAt fp1 s14.heap) σ15 (upd H17 D (.lst av1)) s17 := by
                refine take_in d3 d2 ⟨lineOf (Nat.le_of_lt hav), its1, c1, va1, d1⟩ (.inl hDZ) (d3.ok.exf D hDZ).1 (fun x c e => (d3.ok.exf D hDZ).2 x c e) fun p hp => ?_
                rw [zn, List.nil_append] at hp
                rcases List.mem_append.mp hp with z | z
                · exact fun z' => Dfp p.1 (of_pinsAt z).1 z'.symm
                · exact fun z' => Dfp1 p.1 (of_pinsAt z).1 z'.symm
              have ap := app_ok (X := Z) (E := notedBy (model X.prog X.w) X.A ce fun e s'' => False) (v := y) (y := yv) (Q := fun _ s' => ∃ n', n' < ws.length - j ∧ IV1 n' s') tr upd_same (lineLt hav) ry fun s18 I18 => ?_
              · rw [zP, zw, zA] at ap
                exact ap
              · rw [upd_upd] at I18
                obtain ⟨_, its2, c2, va2, g2⟩ := (show ObjOk Z.prog Z.w _ s18.heap D (.lst (av1 ++ [yv])) from I18.hok D _ upd_same)
                exact fin1 (let_out I18 d2 (.inl ⟨_, rfl⟩)) d2 g2 va2 S17 E17 ((T12.trans T14).trans T17) (RepVs.append (RepVs.mono (T14.trans T17) _ _ ra1) (show RepVs X.K m17 st17 H17 [xw] [yv] from ⟨yv, [], rfl, rx17, rfl⟩)) (by rw [List.length_append, List.length_singleton]; omega) q17
          · have hje : j = ws.length := by omega
            subst hje
            have q12' : PR X.K CA XR W0 σw (rem (i + 1) acc1 st12') m12 st12' H12 OK := by
              have e : rem1 ws.length acc1 st12' = rem (i + 1) acc1 st12' := by
                show (compKc gm1 tt1 fm (wipeE ρ8 own1) acc1 (ws.drop ws.length) >>= fun acc' => rem (i + 1) acc') st12' = _
                rw [List.drop_length]; rfl
              rw [← e]; exact q12
            have stop := wk1.stop _ m12 st12' H12 (Nat.le_refl _) S12 T12
            have td := T1.done Z rfl rfl rfl hc ws.length _ s12 _ H12 (fun _ _ => False) ipD1 (stat1 n12) st12 stop
            rw [zP, zw, zA] at td
            refine thnF td ?_
            rintro r s13 ⟨rfl, I13⟩
            obtain ⟨d1, d2, d3⟩ := dpin I13
            exact fin d3 d2 d1 va1 S12 E12 ((wipe_sub hv ρ8).trans w8) (T510.trans T12) ra1 hacc1 q12'
        have se := fun q e h => T1.self X.A 0 s11 q e st11 h
        rw [zP, zw] at se
        exact compStart1_ok loop1 (se _ _ loop1)
    · have hie : i = vs.length := by omega
      subst hie
      have q5' : PR X.K CA XR W0 σw (newL cell acc st5') m5 st5' H5 OK := by
        have e : rem vs.length acc st5' = newL cell acc st5' := by
          show (comp2K gm tt im1 gm1 tt1 fm own1 ρw acc (vs.drop vs.length) >>= newL cell) st5' = _
          rw [List.drop_length]; rfl
        rw [← e]; exact q5
      have stop := wk.stop _ m5 st5' H5 (Nat.le_refl _) S5 T5
      have td := T.done Z zP zw zK hc vs.length _ s5 _ H5 (fun _ _ => False) ipD (stat I5 pD n5) st5 stop
      rw [zA] at td
      refine thnF td ?_
      rintro r s6 ⟨rfl, I6⟩
      obtain ⟨d1, d2, _⟩ := dpin I6
      rw [hZ, hY] at I6
      have I6 := I6.unwish
      have I7 : Inv X pins σ H5 s6 := I3.call' (ch := D :: fp) I6.os I6.base I6.hok I6.bare fun b hb => ⟨(fpD b hb).1.2.2.2.1, (fpD b hb).1.2.1, (fpD b hb).1.2.2.2.2.1, (fpD b hb).1.2.2.2.2.2⟩
      have nC : H5 ce.locals = none := I6.free
      obtain ⟨mm, hns, _⟩ := I6.loc
      have hav : av.length ≤ L := by rw [← ra.length]; exact hacc
      have I8 : Inv X pins σ (upd H5 D (.lst av)) s6 := take_in I7 d2 ⟨lineOf hav, its, c0, va, d1⟩ fD.2.2.2.1 fD.2.1 fD.2.2.2.2.1 fD.2.2.2.2.2
      have qq : Q (.ref D) (upd H5 D (.lst av)) := newL_ok (W := W0) (σ := σw) S5 ra hacc q5' D d2
      have neD : ce.locals ≠ D := by
        rw [cL]
        exact Nat.ne_of_gt (Heap.lt_size D3)
      refine hRR D ce s6 mm _ I8 qq hns ?_
      rw [cL] at nC neD ⊢
      exact I3.fpOk (Nat.le_refl _) (by rw [upd_ne neD]; exact nC)
  exact codeAny_compStart_list loop (T.self X.A 0 _ _ _ st4 loop)
end
end Fl
set_option Elab.async false
set_option linter.all false
set_option maxRecDepth 100000
set_option maxHeartbeats 4000000
/-! Fl over the layer: comprehensions of two clauses as values, and stored. -/
namespace Fl
open PySem PySem.Spec L2

section
variable {tb : Tab} {G : FEnv} {CA : Tags} {XR : XRel} {k : Nat} {N : List Str} {sc : Scope} {own : Str → Bool} {X : Cx} {W : WX}
variable {elt tg iter tg1 iter1 : Expr} {ifs ifs1 : List Expr} {scope : Scope} {ownL : List (Str × Nat)} {own1 : List Nat} {pos spos py : Pos} {im im1 : CI} {gm gm1 : CG} {tt tt1 : Option CT} {fm : CE}
theorem lc2_any {σ : L2.St} {H : Hp} {Q : VK} {cell : Bool} (h : tM X.K CA XR W (eComp2 cell (ownL.map (·.2)) own1 im gm tt im1 gm1 tt1 fm) σ H Q) : tI X.K CA XR W im σ H fun J H1 => ∃ vs m st ρ, Wk X.K CA J vs m st H1 ∧ SR X.K CA m st H1 ∧ ER X.K m st H1 ρ σ ∧
    PR X.K CA XR W0 σ ((comp2K gm tt im1 gm1 tt1 fm own1 (wipeE ρ (ownL.map (·.2))) [] vs >>= newL cell) st) m st H1 fun a m' st' H' => ∀ v, RepV X.K m' st' H' a v → Q v H' := by
  obtain ⟨m, st, ρ, S, E, q⟩ := h
  exact ⟨m, st, ρ, S, E, (PR.bind_of q).mono fun vs m1 st1 H1 S1 T1 h1 J wk => ⟨vs, m1, st1, ρ, wk, S1, E.mono T1, PR.calm h1⟩⟩
theorem se_lc2 (cell : Bool) (C : Cq tb G CA XR k N sc own X W) (hin : GIn (ownL.map (·.2)) gm) (hin1 : GIn own1 gm1) (hv : ∀ i ∈ own1, i ∈ ownL.map (·.2)) (ok : BlkOk N sc scope ownL) (hi : SI CA XR X W tg iter im)
    (hg : ∀ X' W', Cq tb G CA XR k N (relS scope sc) (blkOwn scope) X' W' → SG CA XR X' W' tg gm)
    (ht : ∀ X' W', Cq tb G CA XR k N (relS scope sc) (blkOwn scope) X' W' → PTs X' ifs (tMT X'.K CA XR W' (testM tt)))
    (hi1 : ∀ X' W', Cq tb G CA XR k N (relS scope sc) (blkOwn scope) X' W' → SI CA XR X' W' tg1 iter1 im1)
    (hg1 : ∀ X' W', Cq tb G CA XR k N (relS scope sc) (blkOwn scope) X' W' → SG CA XR X' W' tg1 gm1)
    (ht1 : ∀ X' W', Cq tb G CA XR k N (relS scope sc) (blkOwn scope) X' W' → PTs X' ifs1 (tMT X'.K CA XR W' (testM tt1)))
    (he : ∀ X' W', Cq tb G CA XR k N (relS scope sc) (blkOwn scope) X' W' → SE CA XR X' W' elt fm) (hs : ∀ x, foldedSetIterable iter X.env x = pure x := by intro _; rfl) (hs1 : ∀ env x, foldedSetIterable iter1 env x = pure x := by intro _ _; rfl) :
    SE CA XR X W (.ListComp elt [⟨tg, iter, ifs, 0⟩, ⟨tg1, iter1, ifs1, 0⟩] scope pos) (eComp2 cell (ownL.map (·.2)) own1 im gm tt im1 gm1 tt1 fm) := by
  refine ⟨fun pins s σ H Q I q => ?_⟩
  rw [eval_ListComp]
  refine lc_core2 C hin hin1 hv I hi ok hg ht hi1 hg1 ht1 he hs hs1 (lc2_any q) fun D ce s' m H' J q hn fo => ⟨m, hn, fun h2 sb => ?_⟩
  exact ⟨.ref D, H', J.turned (t' := s'.toks) (fun b o hb e => (sb.2 b hb).trans e) fo.1 fo.2.1 fo.2.2.2.1 fo.2.2.2.2.1 fo.2.2.2.2.2, rfl, q⟩
theorem ss_lc2 (cell : Bool) (C : Cq tb G CA XR k N sc own X W) (i : Nat) {y : Str} (hy : N[i]? = some y) (hyl : sc.names.lookup y = some .local) (hk : sc.kind = .function) (hl : (py.line == pos.line) = true)
    (ha : (scope.names.any fun (n, k) => n == y && (k == .local || k == .cell)) = false) (hin : GIn (ownL.map (·.2)) gm) (hin1 : GIn own1 gm1) (hv : ∀ i ∈ own1, i ∈ ownL.map (·.2)) (ok : BlkOk N sc scope ownL) (hi : SI CA XR X W tg iter im)
    (hg : ∀ X' W', Cq tb G CA XR k N (relS scope sc) (blkOwn scope) X' W' → SG CA XR X' W' tg gm)
    (ht : ∀ X' W', Cq tb G CA XR k N (relS scope sc) (blkOwn scope) X' W' → PTs X' ifs (tMT X'.K CA XR W' (testM tt)))
    (hi1 : ∀ X' W', Cq tb G CA XR k N (relS scope sc) (blkOwn scope) X' W' → SI CA XR X' W' tg1 iter1 im1)
    (hg1 : ∀ X' W', Cq tb G CA XR k N (relS scope sc) (blkOwn scope) X' W' → SG CA XR X' W' tg1 gm1)
    (ht1 : ∀ X' W', Cq tb G CA XR k N (relS scope sc) (blkOwn scope) X' W' → PTs X' ifs1 (tMT X'.K CA XR W' (testM tt1)))
    (he : ∀ X' W', Cq tb G CA XR k N (relS scope sc) (blkOwn scope) X' W' → SE CA XR X' W' elt fm) (hs : ∀ x, foldedSetIterable iter X.env x = pure x := by intro _; rfl) (hs1 : ∀ env x, foldedSetIterable iter1 env x = pure x := by intro _ _; rfl) :
    S1 CA XR X W (.Assign [.Name y py] (.ListComp elt [⟨tg, iter, ifs, 0⟩, ⟨tg1, iter1, ifs1, 0⟩] scope pos) spos) (sAsg (eComp2 cell (ownL.map (·.2)) own1 im gm tt im1 gm1 tt1 fm) (gVar i)) := by
  have hyl' : X.env.scope.names.lookup y = some .local := by rw [C.sc]; exact hyl
  have sw : swapsWith (.ListComp elt [⟨tg, iter, ifs, 0⟩, ⟨tg1, iter1, ifs1, 0⟩] scope pos) (some (.Name y py)) spos.line X.env = pure true := sw_true (by rw [C.sc]; exact hk) hyl' hl ha
  refine PS.weak (t := tAsg (tM X.K CA XR W (eComp2 cell (ownL.map (·.2)) own1 im gm tt im1 gm1 tt1 fm)) (gName i)) ?_ (asg_read i)
  refine ⟨fun pins s σ H D I q => ?_⟩
  rw [exec_Assign_Name_used _ _ _ _ sw]
  refine wpAny_bind (wpAny_standAt (wpAny_bind ?_))
  show wpAny _ X.A (do let _ ← comprehension (.ListComp elt [⟨tg, iter, ifs, 0⟩, ⟨tg1, iter1, ifs1, 0⟩] scope pos) scope X.env (firstIterPos [⟨tg, iter, ifs, 0⟩, ⟨tg1, iter1, ifs1, 0⟩] pos) (newList []) false (eval iter X.env) (some (assign (.Name y py) X.env)); pure _) _ _ s
  have q' : tM X.K CA XR W (eComp2 cell (ownL.map (·.2)) own1 im gm tt im1 gm1 tt1 fm) σ H fun x H1 => gName i x σ H1 D.nx := q
  refine wpAny_bind (thn (lc_core2 (Qf := fun _ s' => SP X pins D .next s') C hin hin1 hv I hi ok hg ht hi1 hg1 ht1 he hs hs1 (lc2_any q') fun A ce s' m H' J q hn fo => ?_) fun _ s' hq => wpAny_pure (wpAny_pure hq))
  show wpAny _ _ (assign (.Name y py) X.env (.ref A)) _ _ _
  refine wpAny_assign_Name (store_ok2 (v := V.ref A) J (by rw [C.nm]; exact C.nd) (by rw [C.nm]; exact hy) (.inl hyl') rfl (fun s2 I2 hh => ?_) (.inr hyl'))
  obtain ⟨b, sb, hb⟩ := hh
  have ne : ce.locals ≠ b := by
    rcases hb with z | z
    · rw [z]; exact fo.2.1
    · exact fun e => fo.2.2.2.2.1 y b z e.symm
  refine ⟨m, hn.sameBut sb ne, fun h3 sb3 => ?_⟩
  exact ⟨_, H', I2.turned (t' := s2.toks) (fun b o hb e => (sb3.2 b hb).trans e) fo.1 fo.2.1 fo.2.2.2.1 fo.2.2.2.2.1 fo.2.2.2.2.2, q⟩
end
end Fl
set_option Elab.async false
set_option linter.all false
set_option maxRecDepth 100000
set_option maxHeartbeats 2000000
/-! Fl: a name's cell becomes a tree behind a statement; two names stored at once. -/
namespace Fl
/-- the name's list is written no more -/
def sFz (i : Nat) : SM := fun ρ s => match ρ[i]? with
  | some (some (.loc n)) => match freeze (.loc n) s with
    | .ok v s' => .nx (ρ.set i (some v)) s'
    | _ => .nx ρ s
  | _ => .nx ρ s
def sPar (i j : Nat) (as : List CE) : SM := fun ρ s => (eVals as ρ s).so ρ fun vs s1 => match vs with
  | [a, b] => .nx ((ρ.set i (some a)).set j (some b)) s1
  | _ => .bad
open PySem PySem.Spec L2

section
variable {tb : Tab} {G : FEnv} {CA : Tags} {XR : XRel} {k : Nat} {N : List Str} {sc : Scope} {own : Str → Bool} {X : Cx} {W : WX}
variable {a b : Expr} {s : Stmt} {f : SM} {fa fb : CE}
theorem fz_ok {K : PySem.W.Frag} {D : Ends} {m : Mp} {st : Store} {H : Hp} {ρ : Env} {σ : L2.St} {i : Nat} (S : SR K CA m st H) (E : ER K m st H ρ σ) (h : PO K CA XR W D m st H (sFz i ρ st)) : D.nx σ H := by
  unfold sFz at h
  have no : PO K CA XR W D m st H (.nx ρ st) → D.nx σ H := fun q => q m H σ S Step.refl E
  split at h
  · rename_i n en
    rcases frz_core S n with e | ⟨d, e, rd⟩
    · rw [e] at h
      exact no h
    · rw [e] at h
      obtain ⟨v, ev, rv⟩ := E.get en
      obtain ⟨n1, rfl⟩ := rv
      obtain ⟨T, S'⟩ := S.drop n
      have E2 := ER.set (E.mono T) (w := .t d) rd i
      have hs : σ.set i (some (.ref (m n))) = σ := by
        refine List.ext_getElem? fun j => ?_
        by_cases hj : i = j
        · subst hj
          rw [List.getElem?_set_self (List.getElem?_eq_some_iff.mp ev).1, ev]
        · rw [List.getElem?_set_ne hj]
      rw [hs] at E2
      exact h m H σ S' T E2
  · exact no h
/-- .. behind a statement -/
theorem ss_fz (i : Nat) (h : S1 CA XR X W s f) : S1 CA XR X W s (sSeq f (sFz i)) := by
  refine PS.weak h fun D σ H ⟨m, st, ρ, S, E, q⟩ => ⟨m, st, ρ, S, E, ?_⟩
  unfold sSeq at q
  cases e : f ρ st with
  | nx ρ' s' =>
    rw [e] at q
    intro m' H' σ' S' T' E'
    exact fz_ok S' E' (PO.step (st1 := s') q T')
  | _ => rw [e] at q; exact q
theorem sw_env {ts : List Expr} {v : Expr} {env : PySem.Env} {sc : Scope} {l : List Str} (h : env.scope = sc) (q : ∀ e : PySem.Env, swappedStores ts v { e with scope := sc } = pure (some l)) : swappedStores ts v env = pure (some l) := by
  subst h
  exact q env
theorem ss_par {x y : Str} {px py pt pos : Pos} {kt k2 pt2} (C : Cq tb G CA XR k N sc own X W) (i j : Nat) (hi : N[i]? = some x) (hj : N[j]? = some y) (hij : i ≠ j) (hx : sc.names.lookup x = some .local) (hy : sc.names.lookup y = some .local)
    (ha : SA CA XR X W [a, b] (eVals [fa, fb])) (hw : ∀ e : PySem.Env, swappedStores [.Tuple [.Name x px, .Name y py] kt pt] (.Tuple [a, b] k2 pt2) { e with scope := sc } = pure (some [x, y]))
    (hs : swapsWithSole [.Tuple [.Name x px, .Name y py] kt pt] (.Tuple [a, b] k2 pt2) pos.line X.env = pure false := by rfl) :
    S1 CA XR X W (.Assign [.Tuple [.Name x px, .Name y py] kt pt] (.Tuple [a, b] k2 pt2) pos) (sPar i j [fa, fb]) := by
  refine PS.weak (ps_par C.calm (by rw [C.nm]; exact C.nd) (by rw [C.nm]; exact hi) (by rw [C.nm]; exact hj) hij (by rw [C.sc]; exact hx) (by rw [C.sc]; exact hy) ha (sw_env C.sc hw) hs) fun D σ H ⟨m, st, ρ, S, E, q⟩ => ⟨m, st, ρ, S, E, ?_⟩
  refine (PO.expr E q).mono fun vs m1 st1 H1 S1 T1 h1 us rs => ?_
  match vs, rs, h1 with
  | [x, y], ⟨v, _, e1, r1, w, _, e2, r2, e3⟩, h1 =>
    subst e1 e2
    rw [show _ = _ from e3]
    exact ⟨v, w, rfl, h1 m1 H1 _ S1 Step.refl (((E.mono T1).set r1 i).set r2 j)⟩
  | [], _, h1 => exact h1.elim
  | [_], _, h1 => exact h1.elim
  | _ :: _ :: _ :: _, _, h1 => exact h1.elim
end
end Fl
set_option Elab.async false
set_option linter.all false
set_option maxRecDepth 100000
set_option maxHeartbeats 4000000
/-! Fl over the layer: walks of lists that may be written meanwhile. -/
namespace Fl
/-- what comes at i: none: not told; some none: the end -/
abbrev Nxt := Nat → Store → Option (Option (Val × Store))
def nxtS (vs : List Val) : Nxt := fun i s => some (vs[i]?.map fun v => (v, s))
def nxtL (n : Nat) : Nxt := fun i s => match s.cell n with
  | some (.lst vs) => some (vs[i]?.map fun v => (v, s))
  | _ => none
/-- enumerate -/
def nxtE (n : Nat) : Nxt := fun i s => match s.cell n with
  | some (.lst vs) => some (vs[i]?.map fun v => match v with
    | .t d => (.t (.tup [.int i, d]), s)
    | v => (.loc s.length, s ++ [some (.tup [vI i, v])]))
  | _ => none
abbrev CN := Env → M Nxt
def nV (a : CE) : CN := fun ρ => a ρ >>= fun v s => match v with
  | .t (.lst ts) => .ok (nxtS (ts.map .t)) s
  | .loc n => match s.cell n with
    | some (.lst _) => .ok (nxtL n) s
    | _ => .bad
  | _ => .bad
def nE (a : CE) : CN := fun ρ => a ρ >>= fun v s => match v with
  | .t (.lst ts) => .ok (nxtS (enumT 0 ts)) s
  | .loc n => match s.cell n with
    | some (.lst _) => .ok (nxtE n) s
    | _ => .bad
  | _ => .bad
def compN (nxt : Nxt) (g : CG) (c : Option CT) (f : CE) (ρ : Env) : Nat → Nat → List Val → M (List Val)
  | 0, _, _ => bad
  | k + 1, i, acc => fun s => match nxt i s with
    | none => .bad
    | some none => .ok acc s
    | some (some (v, s')) => (g v ρ s').bind fun ρ' => testM c ρ' >>= fun b => if b then f ρ' >>= fun x => compN nxt g c f ρ k (i + 1) (acc ++ [x]) else compN nxt g c f ρ k (i + 1) acc
def eCompN (cell : Bool) (own : List Nat) (it : CN) (g : CG) (c : Option CT) (f : CE) : CE := fun ρ => it ρ >>= fun nxt => compN nxt g c f (wipeE ρ own) L 0 [] >>= newL cell
def forN (nxt : Nxt) (g : CG) (body : SM) : Nat → Nat → SM
  | 0, _, _, _ => .bad
  | k + 1, i, ρ, s => match nxt i s with
    | none => .bad
    | some none => .nx ρ s
    | some (some (v, s')) => (g v ρ s').so ρ fun ρ1 s1 => match body ρ1 s1 with
      | .nx ρ2 s2 => forN nxt g body k (i + 1) ρ2 s2
      | .ct ρ2 s2 => forN nxt g body k (i + 1) ρ2 s2
      | .bk ρ2 s2 => .nx ρ2 s2
      | o => o
def sForN (it : CN) (g : CG) (body : SM) : SM := fun ρ s => (it ρ s).so ρ fun nxt s1 => forN nxt g body whileMax 0 ρ s1
open PySem PySem.Spec L2
def WkN (K : PySem.W.Frag) (CA : Tags) (J : It) (nxt : Nxt) (m : Mp) (st : Store) (H : Hp) : Prop := ∀ i m' st' H', SR K CA m' st' H' → Step m st H m' st' H' → match nxt i st' with
  | none => True
  | some none => J.stop i H'
  | some (some (w, st2)) => J.go i H' ∧ ∀ x H2, J.yld i H' x H2 → ∃ m2, SR K CA m2 st2 H2 ∧ Step m' st' H' m2 st2 H2 ∧ RepV K m2 st2 H2 w x
section
variable {tb : Tab} {G : FEnv} {CA : Tags} {XR : XRel} {k : Nat} {N : List Str} {sc : Scope} {own : Str → Bool} {X : Cx} {W : WX}
theorem lc_coreN (C : Cq tb G CA XR k N sc own X W) {pins : List (Addr × Obj)} {s : Shared} {σ : L2.St} {H : Hp} {Q : VK} {elt tg iter : Expr} {ifs : List Expr} {scope : Scope} {ownL : List (Str × Nat)} {pos pos' : Pos} {wi : TI} {use : Option (Value → Sem Unit)} {Qf : Value → Shared → Prop}
    {cell : Bool} {gm : CG} {tt : Option CT} {fm : CE} (hin : GIn (ownL.map (·.2)) gm) (I : Inv X pins σ H s) (hi : PI X tg iter wi) (ok : BlkOk N sc scope ownL)
    (hg : ∀ X' W', Cq tb G CA XR k N (relS scope sc) (blkOwn scope) X' W' → SG CA XR X' W' tg gm)
    (ht : ∀ X' W', Cq tb G CA XR k N (relS scope sc) (blkOwn scope) X' W' → PTs X' ifs (tMT X'.K CA XR W' (testM tt)))
    (he : ∀ X' W', Cq tb G CA XR k N (relS scope sc) (blkOwn scope) X' W' → SE CA XR X' W' elt fm) (hs : ∀ x, foldedSetIterable iter X.env x = pure x)
    (h : wi σ H fun J H1 => ∃ nxt m st ρ, WkN X.K CA J nxt m st H1 ∧ SR X.K CA m st H1 ∧ ER X.K m st H1 ρ σ ∧
      PR X.K CA XR W σ ((compN nxt gm tt fm (wipeE ρ (ownL.map (·.2))) L 0 [] >>= newL cell) st) m st H1 fun a m' st' H' => ∀ v, RepV X.K m' st' H' a v → Q v H')
    (hRR : ∀ D (ce : PySem.Env) s' m H', Inv X pins σ H' s' → Q (.ref D) H' → s'.heap.Ns ce.locals m → FpOk X pins H' ce.locals → cpost (model X.prog X.w) X.A X.xe use Qf (.ref D) ce (.ok .next) s') :
    wpAny (model X.prog X.w) X.A (comprehension (.ListComp elt [⟨tg, iter, ifs, 0⟩] scope pos) scope X.env pos' (newList []) false (eval iter X.env) use) Qf X.xe s := by
  obtain ⟨F, hF, hst, tk⟩ := C.takes
  have okX : BlkOk X.N X.env.scope scope ownL := by rw [C.nm, C.sc]; exact ok
  have ndX : X.N.Nodup := by rw [C.nm]; exact C.nd
  have free : ∀ y ∈ scope.names, y.2 = .free → ∃ c, X.env.cells.lookup y.1 = some c := by
    intro y hy e
    rcases okX.free y hy e with z | z
    · exact I.ok.has _ (.inl z)
    · exact I.ok.has _ (.inr z)
  refine comp_free (use := use) rfl hs (closure_ok free) ok.kind (fun y hy e => by rw [ok.uniq y hy, e]) (thn (hi.run pins s σ H _ I h) fun xv s1 hx => thn hx ?_)
  rintro itv s2 ⟨it, fp, tn, J, H2, rfl, I2, T, st2, f2, nxt, m0, st0, ρ0, wk, S0, E0, q0⟩
  refine wpAny_newObj_type (newEnv_comp ?_) (by show 0 ≤ sizeLine; decide)
  obtain ⟨D, hD⟩ : ∃ D, D = s2.heap.objs.size := ⟨_, rfl⟩
  rw [← hD]
  have hDn : H2 D = none := I2.hok.fresh (Nat.le_of_eq hD.symm)
  obtain ⟨s3, hs3⟩ : ∃ s3 : Shared, s3 = { s2 with heap := s2.heap.push { cls := .type "list", data := .seq ([] : List Value).toArray } } := ⟨_, rfl⟩
  rw [← hs3]
  have h3 : s3.heap = s2.heap.push { cls := .type "list", data := .seq ([] : List Value).toArray } := by rw [hs3]
  have D3 : s3.heap.get? D = some { cls := .type "list", data := .seq ([] : List Value).toArray } := by rw [h3, hD]; exact Heap.get?_push_size _ rfl
  have I3 : Inv X pins σ H2 s3 := by rw [hs3]; exact I2.kept (t' := s2.toks) fun b o e => Heap.get?_push_of_some _ e
  have fD : FpOk X pins H2 D := I2.fpOk (Nat.le_of_eq hD.symm) hDn
  have sz : ∀ b ∈ fp, b < s2.heap.objs.size := fun b hb => by
    obtain ⟨o, e, _⟩ := T.obj _ _ st2 b hb
    exact Heap.lt_size e
  have fpD : ∀ b ∈ D :: fp, FpOk X pins H2 b ∧ b < s3.heap.objs.size := fun b hb => by
    rcases List.mem_cons.mp hb with z | z
    · subst z; exact ⟨fD, Heap.lt_size D3⟩
    · exact ⟨f2 b z, by rw [h3, Heap.size_push]; exact Nat.lt_succ_of_lt (sz b z)⟩
  have Dfp : ∀ b ∈ fp, D ≠ b := fun b hb z => by have := sz b hb; rw [← z, hD] at this; exact absurd this (Nat.lt_irrefl _)
  have st3 : tn 0 s3.heap := T.keep _ _ _ st2 fun b _ o e => by rw [h3]; exact Heap.get?_push_of_some _ e
  have I4 := block_start I3 okX ndX fpD
  have Cb := fun cl A => block_ctx C hF hst s3 H2 σ scope cl A (D :: fp)
  obtain ⟨cl, hcl⟩ : ∃ cl, cl = cellsFrom (s3.heap.objs.size + 1) scope.names (cloFrom X.env.cells scope.names []) := ⟨_, rfl⟩
  rw [← hcl] at I4 ⊢
  obtain ⟨ce, hce⟩ : ∃ ce, ce = compEnvC scope cl s3.heap.objs.size X.env := ⟨_, rfl⟩
  have Cb := Cb cl s3.heap.objs.size
  rw [← hce] at I4 Cb
  have cL : ce.locals = s3.heap.objs.size := by rw [hce]; rfl
  have cF : ce.frame = X.env.frame := by rw [hce]; rfl
  have air := fun (acc : Value) (e : Value) (s' : Shared) => block_air (W := W) (scope := scope) (acc := acc) (use := use) (Qf := Qf) I3 hF hst tk cL cF (fun b hb => (fpD b hb).1) (e := e) (s' := s')
  obtain ⟨Y, hY⟩ : ∃ Y : Cx, Y = X.blk s3 H2 scope ce (D :: fp) := ⟨_, rfl⟩
  rw [← hY] at I4 Cb air
  show codeAny (model X.prog X.w) X.A (.compStart (.ListComp elt [⟨tg, iter, ifs, 0⟩] scope pos) 0 (.ref it) (.ref D) (compEnvC scope cl s3.heap.objs.size X.env)) (cpost (model X.prog X.w) X.A X.xe use Qf (.ref D) (compEnvC scope cl s3.heap.objs.size X.env)) { s3 with heap := pushCells (s3.heap.push { cls := .type "dict", data := .dict #[] }) scope.names }
  rw [← hce]
  obtain ⟨s4, hs4⟩ : ∃ s4 : Shared, s4 = { s3 with heap := pushCells (s3.heap.push { cls := .type "dict", data := .dict #[] }) scope.names } := ⟨_, rfl⟩
  rw [← hs4] at I4 ⊢
  have keep4 : ∀ b o, s3.heap.get? b = some o → s4.heap.get? b = some o := fun b o e => by rw [hs4]; exact pushCells_keeps _ _ _ _ (Heap.get?_push_of_some _ e)
  have st4 : tn 0 s4.heap := T.keep _ _ _ st3 fun b _ o e => keep4 b o e
  -- the context with its wish
  obtain ⟨Z, hZ⟩ : ∃ Z : Cx, Z = Y.wish fun u s' => XEL Y F (fun c d _ H => W c d σ H) u s' := ⟨_, rfl⟩
  rw [← hZ] at Cb
  have I4 : Inv Z [] (wipe σ (ownL.map (·.2))) H2 s4 := by rw [hZ]; exact I4.wish _
  have zP : Z.prog = X.prog := by rw [hZ, hY]
  have zw : Z.w = X.w := by rw [hZ, hY]
  have zK : Z.K = X.K := by rw [hZ, hY]
  have zA : Z.A = X.A := by rw [hZ, hY]
  have zx : Z.ex = D :: fp := by rw [hZ, hY]
  have zn : Z.pn = [] := by rw [hZ, hY]
  have ze : Z.env = ce := by rw [hZ, hY]
  have hc : Z.calm = true := Cb.calm
  have zair : ∀ (e : Value) (s' : Shared), Z.xe e s' → notedBy (model X.prog X.w) X.A ce (fun e s'' => cpost (model X.prog X.w) X.A X.xe use Qf (.ref D) ce (.error e) s'') e s' := fun e s' x => air _ e s' (by rw [hZ] at x; exact x)
  have stat : ∀ {pl : List (Addr × Obj)} {σ' : L2.St} {H' : Hp} {s' : Shared}, Inv Z [] σ' H' s' → (∀ p ∈ pl, p.1 = D) → (∀ b ∈ fp, H' b = none) → ∀ b ∈ fp, FpOk Z pl H' b := by
    intro pl σ' H' s' I' hpl hn b hb
    have hb' : b ∈ Z.ex := by rw [zx]; exact List.mem_cons_of_mem _ hb
    refine ⟨hn b hb, (I'.ok.exf b hb').1, I'.ok.exfs b hb', .inl hb', fun x c e => (I'.ok.exf b hb').2 x c e, fun p hp => ?_⟩
    rw [zn, List.nil_append] at hp
    rw [hpl p hp]
    exact Dfp b hb
  have pg := hg Z _ Cb
  have pt := ht Z _ Cb
  have pe := he Z _ Cb
  have q0' : PR X.K CA XR (fun c d _ H => W c d σ H) (wipe σ (ownL.map (·.2))) ((compN nxt gm tt fm (wipeE ρ0 (ownL.map (·.2))) L 0 [] >>= newL cell) st0) m0 st0 H2 fun a m' st' H' => ∀ v, RepV X.K m' st' H' a v → Q v H' := q0.reW fun _ _ _ z => z
  have Ew := ER.wipe E0 (ownL.map (·.2))
  -- what holds at each turn
  let V : Nat → Nat → Hp → List L2.V → L2.St → Prop := fun i n H' av σi => n + i = L ∧ ∃ m st acc, SR X.K CA m st H' ∧ ER X.K m st H' (wipeE ρ0 (ownL.map (·.2))) σi ∧ Step m0 st0 H2 m st H' ∧ RepVs X.K m st H' acc av ∧ acc.length ≤ i ∧
    PR X.K CA XR (fun c d _ H => W c d σ H) (wipe σ (ownL.map (·.2))) ((compN nxt gm tt fm (wipeE ρ0 (ownL.map (·.2))) n i acc >>= newL cell) st) m st H' fun a m' st' H' => ∀ v, RepV X.K m' st' H' a v → Q v H'
  have loop : codeAny (model X.prog X.w) X.A (.compLoop (.ListComp elt [⟨tg, iter, ifs, 0⟩] scope pos) 0 (.ref it) (.ref D) ce) (cpost (model X.prog X.w) X.A X.xe use Qf (.ref D) ce) s4 := by
    refine compLoop_any (fun n s' => ∃ i H' its av c0 σi, Inv Z [] σi H' s' ∧ tn i s'.heap ∧ (∀ b ∈ fp, H' b = none) ∧ H' D = none ∧ s'.heap.get? D = some { cls := .type "list", data := .seq (its : List Value).toArray c0 } ∧ Vals av its ∧ V i n H' av σi) ?_ L
      ⟨0, H2, [], [], 0, _, I4, st4, fun b hb => (f2 b hb).1, hDn, keep4 _ _ D3, .nil, rfl, m0, st0, [], S0, Ew, Step.refl, rfl, Nat.zero_le _, q0'⟩
    rintro n s5 ⟨i, H5, its, av, c0, σi, I5, st5, n5, nD5, D5, va, hni, m5, st5', acc, S5, E5, T5, ra, hacc, q5⟩
    have hDZ : D ∈ Z.ex := by rw [zx]; exact List.mem_cons_self
    have pinD : Inv Z [(D, { cls := .type "list", data := .seq its.toArray c0 })] σi H5 s5 := by
      refine I5.pins_of fun p hp => ?_
      obtain rfl : p = (D, { cls := .type "list", data := .seq its.toArray c0 }) := by simpa using hp
      exact ⟨D5, nD5, (I5.ok.exf D hDZ).1, I5.ok.exfs D hDZ, fun v z => by have z' : Data.seq its.toArray c0 = .cell v := z; cases z'⟩
    have pD : ∀ p ∈ [(D, ({ cls := .type "list", data := .seq its.toArray c0 } : Obj))], p.1 = D := fun p hp => by
      obtain rfl : p = (D, { cls := .type "list", data := .seq its.toArray c0 }) := by simpa using hp
      rfl
    have wk5 := wk i m5 st5' H5 S5 T5
    cases n with
    | zero => exact (show False from q5).elim
    | succ n =>
    rw [bind_eq, compN] at q5
    dsimp only at q5
    cases en : nxt i st5' with
    | none => rw [en] at q5; exact (show False from q5).elim
    | some o => cases o with
    | some wst =>
      obtain ⟨w, stY⟩ := wst
      rw [en] at q5 wk5
      obtain ⟨go, yl⟩ := wk5
      have ti := T.item Z zP zw zK hc i _ s5 _ H5 (fun _ _ => False) pinD (stat I5 pD n5) st5 go
      rw [zA] at ti
      refine thnF ti ?_
      rintro r s6 ⟨u, rfl, h6⟩
      refine thnF h6 ?_
      rintro _ s7 ⟨x, H7, I7, r7, y7, st7, n7⟩
      obtain ⟨m7, S7, T7, rx⟩ := yl x H7 y7
      have I7' := I7.pinned (stat (I7.pins_of fun p hp => absurd hp (by simp)) pD n7) (T.obj _ _ st7)
      have E7 := E5.mono T7
      let rest : Env → Store → R Val := fun ρ' s => (testM tt ρ' s).bind fun b s => ((if b then fm ρ' >>= fun x => compN nxt gm tt fm (wipeE ρ0 (ownL.map (·.2))) n (i + 1) (acc ++ [x]) else compN nxt gm tt fm (wipeE ρ0 (ownL.map (·.2))) n (i + 1) acc) s).bind (newL cell)
      have q5 : PR X.K CA XR (fun c d _ H => W c d σ H) (wipe σ (ownL.map (·.2))) (((gm w (wipeE ρ0 (ownL.map (·.2))) stY).bind fun ρ' => testM tt ρ' >>= fun b => if b then fm ρ' >>= fun x => compN nxt gm tt fm (wipeE ρ0 (ownL.map (·.2))) n (i + 1) (acc ++ [x]) else compN nxt gm tt fm (wipeE ρ0 (ownL.map (·.2))) n (i + 1) acc).bind (newL cell)) m5 st5' H5 fun a m' st' H' => ∀ v, RepV X.K m' st' H' a v → Q v H' := q5
      have e : ((gm w (wipeE ρ0 (ownL.map (·.2))) stY).bind fun ρ' => testM tt ρ' >>= fun b => if b then fm ρ' >>= fun x => compN nxt gm tt fm (wipeE ρ0 (ownL.map (·.2))) n (i + 1) (acc ++ [x]) else compN nxt gm tt fm (wipeE ρ0 (ownL.map (·.2))) n (i + 1) acc).bind (newL cell) = (gm w (wipeE ρ0 (ownL.map (·.2))) stY).bind rest := by
        cases gm w (wipeE ρ0 (ownL.map (·.2))) stY with
        | exc y t => rfl
        | bad => rfl
        | ok ρ' t =>
          show ((testM tt ρ' t).bind _).bind _ = rest ρ' t
          show _ = (testM tt ρ' t).bind _
          cases testM tt ρ' t with
          | exc y t => rfl
          | bad => rfl
          | ok b t => rfl
      rw [e] at q5
      have q7 := q5.step T7
      have g7 : tG Z.K CA XR (fun c d _ H => W c d σ H) gm x σi H7 fun σ8 H8 => ∃ m8 st8 ρ8, SR X.K CA m8 st8 H8 ∧ Step m7 stY H7 m8 st8 H8 ∧ ER X.K m8 st8 H8 ρ8 σ8 ∧ wipeE ρ8 (ownL.map (·.2)) = wipeE ρ0 (ownL.map (·.2)) ∧
          PR X.K CA XR (fun c d _ H => W c d σ H) (wipe σ (ownL.map (·.2))) (rest ρ8 st8) m8 st8 H8 fun a m' st' H' => ∀ v, RepV X.K m' st' H' a v → Q v H' := by
        rw [zK]
        exact ⟨m7, stY, _, w, S7, E7, rx, ((PR.bind_of q7).reW fun _ _ _ z => z).some fun ρ8 st8 e8 m8 H8 S8 T8 h8 σ8 E8 => ⟨m8, st8, ρ8, S8, T8, E8, wipe_back hin e8, h8⟩⟩
      have run1 := pg.run _ s7 _ H7 x u _ I7' r7 g7
      rw [zP, zw, zA, ze] at run1
      refine wpAny_mono run1 (fun _ s8 hq => ?_) fun e s' x => zair e s' x
      obtain ⟨σ8, H8, I8, m8, st8, ρ8, S8, T8, E8, w8, q8⟩ := hq
      have t8 : tMT Z.K CA XR (fun c d _ H => W c d σ H) (testM tt) σ8 H8 fun b H9 => ∃ m9 st9, SR X.K CA m9 st9 H9 ∧ Step m7 stY H7 m9 st9 H9 ∧ ER X.K m9 st9 H9 ρ8 σ8 ∧
          PR X.K CA XR (fun c d _ H => W c d σ H) (wipe σ (ownL.map (·.2))) (((if b then fm ρ8 >>= fun x => compN nxt gm tt fm (wipeE ρ0 (ownL.map (·.2))) n (i + 1) (acc ++ [x]) else compN nxt gm tt fm (wipeE ρ0 (ownL.map (·.2))) n (i + 1) acc) st9).bind (newL cell)) m9 st9 H9 fun a m' st' H' => ∀ v, RepV X.K m' st' H' a v → Q v H' := by
        rw [zK]
        exact ⟨m8, st8, ρ8, S8, E8, ((PR.bind_of q8).reW fun _ _ _ z => z).mono fun b m9 st9 H9 S9 T9 h9 => ⟨m9, st9, S9, T8.trans T9, E8.mono T9, h9⟩⟩
      have run2 := pt.run _ s8 σ8 H8 _ I8 t8
      rw [zP, zw, zA, ze] at run2
      refine wpAny_mono run2 (fun b s9 hq => ?_) fun e s' x => zair e s' x
      obtain ⟨H9, I9, m9, st9, S9, T9, E9, q9⟩ := hq
      have T5' := T5.trans T7
      -- a turn's end
      have fin : ∀ {s' : Shared} {H' : Hp} {its' : List Value} {av' : List L2.V} {c' : Nat}, Inv Z (pinsAt fp s7.heap) σ8 H' s' → H' D = none → s'.heap.get? D = some { cls := .type "list", data := .seq its'.toArray c' } → Vals av' its' → V (i + 1) n H' av' (wipe σ8 (ownL.map (·.2))) →
          ∃ n', n' < n + 1 ∧ ∃ i H' its av c0 σi, Inv Z [] σi H' s' ∧ tn i s'.heap ∧ (∀ b ∈ fp, H' b = none) ∧ H' D = none ∧ s'.heap.get? D = some { cls := .type "list", data := .seq (its : List Value).toArray c0 } ∧ Vals av its ∧ V i n' H' av σi := by
        intro s' H' its' av' c' I' nD gD va' hV
        have pin' : ∀ b ∈ fp, ∀ o, s7.heap.get? b = some o → s'.heap.get? b = some o ∧ H' b = none := fun b hb o e =>
          let z := I'.pin (b, o) (List.mem_append_right _ (mem_pinsAt hb e))
          ⟨z.1, z.2.1⟩
        refine ⟨n, by omega, i + 1, H', its', av', c', _, (I'.pins_of fun p hp => absurd hp (by simp)).weak (wipe_length _ _) (fun j v e => (wipe_some e).1), T.keep _ _ _ st7 fun b hb o e => (pin' b hb o e).1, fun b hb => ?_, nD, gD, va', hV⟩
        obtain ⟨o, e, _⟩ := T.obj _ _ st7 b hb
        exact (pin' b hb o e).2
      have dpin : ∀ {σ' : L2.St} {H' : Hp} {s' : Shared}, Inv Z ([(D, { cls := .type "list", data := .seq its.toArray c0 })] ++ pinsAt fp s7.heap) σ' H' s' → s'.heap.get? D = some { cls := .type "list", data := .seq its.toArray c0 } ∧ H' D = none ∧ Inv Z (pinsAt fp s7.heap) σ' H' s' := fun I' =>
        let z := I'.pin (D, { cls := .type "list", data := .seq its.toArray c0 }) (List.mem_append_right _ (List.mem_append_left _ (by simp)))
        ⟨z.1, z.2.1, I'.pins_of fun p hp => I'.pin p (List.mem_append_right _ (List.mem_append_right _ hp))⟩
      cases b with
      | false =>
        simp only [Bool.false_eq_true, if_false] at q9 ⊢
        obtain ⟨d1, d2, d3⟩ := dpin I9
        refine fin d3 d2 d1 va ⟨by omega, m9, st9, acc, S9, ?_, T5'.trans T9, RepVs.mono (T7.trans T9) _ _ ra, by omega, q9⟩
        have := ER.wipe E9 (ownL.map (·.2))
        rwa [w8] at this
      | true =>
        simp only [if_true] at q9 ⊢
        have t10 : tM Z.K CA XR (fun c d _ H => W c d σ H) fm σ8 H9 fun y H10 => ∃ m10 st10 x, SR X.K CA m10 st10 H10 ∧ Step m7 stY H7 m10 st10 H10 ∧ ER X.K m10 st10 H10 ρ8 σ8 ∧ RepV X.K m10 st10 H10 x y ∧
            PR X.K CA XR (fun c d _ H => W c d σ H) (wipe σ (ownL.map (·.2))) ((compN nxt gm tt fm (wipeE ρ0 (ownL.map (·.2))) n (i + 1) (acc ++ [x]) >>= newL cell) st10) m10 st10 H10 fun a m' st' H' => ∀ v, RepV X.K m' st' H' a v → Q v H' := by
          rw [zK]
          have e10 : ((fm ρ8 >>= fun x => compN nxt gm tt fm (wipeE ρ0 (ownL.map (·.2))) n (i + 1) (acc ++ [x])) st9).bind (newL cell) = (fm ρ8 st9).bind fun x => compN nxt gm tt fm (wipeE ρ0 (ownL.map (·.2))) n (i + 1) (acc ++ [x]) >>= newL cell := by
            rw [bind_eq]
            cases fm ρ8 st9 with
            | exc y t => rfl
            | bad => rfl
            | ok b t => rfl
          rw [e10] at q9
          exact ⟨m9, st9, ρ8, S9, E9, ((PR.bind_of q9).reW fun _ _ _ z => z).mono fun x m10 st10 H10 S10 T10 h10 v rv => ⟨m10, st10, x, S10, T9.trans T10, E9.mono T10, rv, h10⟩⟩
        have run3 := pe.run _ s9 σ8 H9 _ I9 t10
        rw [zP, zw, zA, ze] at run3
        refine wpAny_mono run3 (fun y s10 hq => ?_) fun e s' x => zair e s' x
        obtain ⟨yv, H10, I10, ry, m10, st10, xw, S10, T10, E10, rx10, q10⟩ := hq
        obtain ⟨d1, d2, d3⟩ := dpin I10
        have hav : av.length < L := by rw [← ra.length]; omega
        have tr : Inv Z (pinsAt fp s7.heap) σ8 (upd H10 D (.lst av)) s10 := by
          refine take_in d3 d2 ⟨lineOf (Nat.le_of_lt hav), its, c0, va, d1⟩ (.inl hDZ) (d3.ok.exf D hDZ).1 (fun x c e => (d3.ok.exf D hDZ).2 x c e) fun p hp => ?_
          rw [zn, List.nil_append] at hp
          exact fun z => Dfp p.1 (of_pinsAt hp).1 z.symm
        have ap := app_ok (X := Z) (E := notedBy (model X.prog X.w) X.A ce fun e s'' => cpost (model X.prog X.w) X.A X.xe use Qf (.ref D) ce (.error e) s'') (v := y) (y := yv) (Q := fun _ s' => ∃ n', n' < n + 1 ∧ ∃ i H' its av c0 σi, Inv Z [] σi H' s' ∧ tn i s'.heap ∧ (∀ b ∈ fp, H' b = none) ∧ H' D = none ∧
          s'.heap.get? D = some { cls := .type "list", data := .seq (its : List Value).toArray c0 } ∧ Vals av its ∧ V i n' H' av σi) tr upd_same (lineLt hav) ry fun s11 I11 => ?_
        · rw [zP, zw, zA] at ap
          exact ap
        · rw [upd_upd] at I11
          obtain ⟨_, its2, c2, va2, g2⟩ := (show ObjOk Z.prog Z.w _ s11.heap D (.lst (av ++ [yv])) from I11.hok D _ upd_same)
          refine fin (let_out I11 d2 (.inl ⟨_, rfl⟩)) d2 g2 va2 ⟨by omega, m10, st10, acc ++ [xw], S10, ?_, T5'.trans T10, RepVs.append (RepVs.mono (T7.trans T10) _ _ ra) (show RepVs X.K m10 st10 H10 [xw] [yv] from ⟨yv, [], rfl, rx10, rfl⟩), by rw [List.length_append, List.length_singleton]; omega, q10⟩
          have := ER.wipe E10 (ownL.map (·.2))
          rwa [w8] at this
    | none =>
      rw [en] at q5 wk5
      have stop : J.stop i H5 := wk5
      have q5 : PR X.K CA XR (fun c d _ H => W c d σ H) (wipe σ (ownL.map (·.2))) (newL cell acc st5') m5 st5' H5 fun a m' st' H' => ∀ v, RepV X.K m' st' H' a v → Q v H' := q5
      have td := T.done Z zP zw zK hc i _ s5 _ H5 (fun _ _ => False) pinD (stat I5 pD n5) st5 stop
      rw [zA] at td
      refine thnF td ?_
      rintro r s6 ⟨rfl, I6⟩
      have dp := I6.pin (D, { cls := .type "list", data := .seq its.toArray c0 }) (List.mem_append_right _ (by simp))
      rw [hZ, hY] at I6
      have I6 := I6.unwish
      have I7 : Inv X pins σ H5 s6 := I3.call' (ch := D :: fp) I6.os I6.base I6.hok I6.bare fun b hb => ⟨(fpD b hb).1.2.2.2.1, (fpD b hb).1.2.1, (fpD b hb).1.2.2.2.2.1, (fpD b hb).1.2.2.2.2.2⟩
      have nC : H5 ce.locals = none := I6.free
      obtain ⟨mm, hns, _⟩ := I6.loc
      have hav : av.length ≤ L := by rw [← ra.length]; omega
      have I8 : Inv X pins σ (upd H5 D (.lst av)) s6 := take_in I7 dp.2.1 ⟨lineOf hav, its, c0, va, dp.1⟩ fD.2.2.2.1 fD.2.1 fD.2.2.2.2.1 fD.2.2.2.2.2
      have qq : Q (.ref D) (upd H5 D (.lst av)) := newL_ok (W := fun c d _ H => W c d σ H) (σ := wipe σ (ownL.map (·.2))) S5 ra (by omega) q5 D dp.2.1
      have neD : ce.locals ≠ D := by
        rw [cL]
        exact Nat.ne_of_gt (Heap.lt_size D3)
      refine hRR D ce s6 mm _ I8 qq hns ?_
      rw [cL] at nC neD ⊢
      exact I3.fpOk (Nat.le_refl _) (by rw [upd_ne neD]; exact nC)
  exact codeAny_compStart_list loop (T.self X.A 0 _ _ _ st4 loop)
end
end Fl
set_option Elab.async false
set_option linter.all false
set_option maxRecDepth 100000
set_option maxHeartbeats 4000000
/-! Fl over the layer: walks of lists that may be written meanwhile: their sources, comprehensions, loops. -/
namespace Fl
open PySem PySem.Spec L2
def tN (K : PySem.W.Frag) (CA : Tags) (XR : XRel) (W : WX) (f : CN) : TI := fun σ H R => ∃ m st ρ, SR K CA m st H ∧ ER K m st H ρ σ ∧
  PR K CA XR W σ (f ρ st) m st H fun nxt m1 st1 H1 => ∀ J, WkN K CA J nxt m1 st1 H1 → R J H1
abbrev SN (CA : Tags) (XR : XRel) (X : Cx) (W : WX) (tg it : Expr) (f : CN) : Prop := PI X tg it (tN X.K CA XR W f)
section
variable {K : PySem.W.Frag} {CA : Tags} {m : Mp} {st : Store} {H : Hp} {a : Addr} {us : List V} {ws : List Val} {J : It}
theorem Wk.n {vs : List Val} (w : Wk K CA J vs m st H) : WkN K CA J (nxtS vs) m st H := fun i m' st' H' S T => by
  unfold nxtS
  cases e : vs[i]? with
  | none =>
    exact w.stop i m' st' H' (by rw [List.getElem?_eq_none_iff] at e; exact e) S T
  | some v =>
    obtain ⟨h1, h2⟩ := w.go i v e m' st' H' S T
    exact ⟨h1, fun x H2 y => ⟨m', h2 x H2 y⟩⟩
theorem wknl {n : Nat} (hn : n < st.length) : WkN K CA (Itl K (m n)) (nxtL n) m st H := fun i m' st' H' S T => by
  unfold nxtL
  rw [← T.ag n hn]
  cases e : st'.cell n with
  | none => exact trivial
  | some c =>
    cases c with
    | lst vs =>
      obtain ⟨us, h, z, rs⟩ := S.cells n _ e
      dsimp only
      cases ei : vs[i]? with
      | none => exact ⟨us, .of h, by rw [← rs.length]; rw [List.getElem?_eq_none_iff] at ei; exact ei⟩
      | some v =>
        obtain ⟨u, e1, r⟩ := rs.get ei
        refine ⟨⟨us, u, .of h, e1⟩, fun x H2 y => ?_⟩
        obtain ⟨rfl, y⟩ := y
        have e2 := y us (.of h)
        rw [e1] at e2
        cases e2
        exact ⟨m', S, Step.refl, r⟩
    | _ => exact trivial
theorem wkne {n : Nat} (hn : n < st.length) : WkN K CA (Ite K (m n)) (nxtE n) m st H := fun i m' st' H' S T => by
  unfold nxtE
  rw [← T.ag n hn]
  cases e : st'.cell n with
  | none => exact trivial
  | some c =>
    cases c with
    | lst vs =>
      obtain ⟨us, h, z, rs⟩ := S.cells n _ e
      dsimp only
      cases ei : vs[i]? with
      | none => exact ⟨us, .of h, by rw [← rs.length]; rw [List.getElem?_eq_none_iff] at ei; exact ei⟩
      | some v =>
        obtain ⟨u, e1, r⟩ := rs.get ei
        have go : (Ite K (m' n)).go i H' := ⟨us, u, .of h, e1⟩
        have new : ∀ tp, H' tp = none → ∃ m2, SR K CA m2 (st' ++ [some (.tup [vI i, v])]) (upd H' tp (.tup [.int (i : Nat), u])) ∧ Step m' st' H' m2 (st' ++ [some (.tup [vI i, v])]) (upd H' tp (.tup [.int (i : Nat), u])) ∧ RepV K m2 (st' ++ [some (.tup [vI i, v])]) (upd H' tp (.tup [.int (i : Nat), u])) (.loc st'.length) (.ref tp) := fun tp hp => by
          have T2 := S.cellStep (o := .tup [.int (i : Nat), u]) hp (.tup [vI i, v])
          refine ⟨mNew m' st' tp, S.newCell hp ⟨[.int (i : Nat), u], upd_same, by show 2 ≤ L; decide, .int (i : Nat), [u], rfl, rfl, u, [], rfl, RepV.mono T2 v u r, rfl⟩, T2, by simp, ?_⟩
          rw [mNew_same]
        cases v with
        | t d =>
          refine ⟨go, fun x H2 y => ?_⟩
          obtain ⟨tp, x0, rfl, hp, rfl, y⟩ := y
          have e2 := y us (.of h)
          rw [e1] at e2
          cases e2
          obtain ⟨T2, S2⟩ := S.fresh (o := .tup [.int (i : Nat), u]) hp
          exact ⟨m', S2, T2, tp, [.int (i : Nat), u], rfl, .inl ⟨upd_same, S.not_live hp⟩, by show 2 ≤ L; decide, .int (i : Nat), [u], rfl, rfl, u, [], rfl, Rep.mono T2.keep T2.lv d u r, rfl⟩
        | loc k =>
          refine ⟨go, fun x H2 y => ?_⟩
          obtain ⟨tp, x0, rfl, hp, rfl, y⟩ := y
          have e2 := y us (.of h)
          rw [e1] at e2
          cases e2
          exact new tp hp
        | scr k =>
          refine ⟨go, fun x H2 y => ?_⟩
          obtain ⟨tp, x0, rfl, hp, rfl, y⟩ := y
          have e2 := y us (.of h)
          rw [e1] at e2
          cases e2
          exact new tp hp
        | ex k =>
          refine ⟨go, fun x H2 y => ?_⟩
          obtain ⟨tp, x0, rfl, hp, rfl, y⟩ := y
          have e2 := y us (.of h)
          rw [e1] at e2
          cases e2
          exact new tp hp
    | _ => exact trivial
end
section
variable {tb : Tab} {G : FEnv} {CA : Tags} {XR : XRel} {k : Nat} {N : List Str} {sc : Scope} {own : Str → Bool} {X : Cx} {W : WX}
variable {a tg it elt iter : Expr} {ifs : List Expr} {scope : Scope} {ownL : List (Str × Nat)} {pos spos py p p2 : Pos} {im : CN} {gm : CG} {tt : Option CT} {fm f : CE} {bb : List Stmt} {fs : SM}
theorem sn_v (ha : SE CA XR X W a f) : SN CA XR X W tg a (nV f) := by
  refine PI.weak (pi_seq ha) fun σ H R ⟨m, st, ρ, S, E, q⟩ => ⟨m, st, ρ, S, E, (PR.bind_of q).mono fun x m1 st1 H1 S1 T1 h1 v rv => ?_⟩
  split at h1
  · obtain ⟨ad, us, rfl, ⟨h2, h3⟩, z, rs⟩ := rv
    have key : ∀ m' st' H', Step m1 st1 H1 m' st' H' → SqL X.K H' ad us := fun m' st' H' T => .of (T.same h2 h3 fun _ e => nomatch e)
    exact ⟨ad, rfl, .inl ⟨⟨_, key _ _ _ Step.refl⟩, PR.here S1 h1 _ (wkl key (RepVs.of_reps rs)).n⟩⟩
  · rename_i n
    obtain ⟨hn, rfl⟩ := rv
    split at h1
    · rename_i vs e
      obtain ⟨us, h, z, rs⟩ := S1.cells n _ e
      exact ⟨m1 n, rfl, .inl ⟨⟨us, .of h⟩, PR.here S1 h1 _ (wknl hn)⟩⟩
    · exact h1.elim
  · exact h1.elim
theorem sn_enum (C : Cw tb G CA XR k N sc own X W) {elts : List Expr} {kk : Nat} (hg : bltB tb sc "enumerate" = true) (ha : SE CA XR X W a f) (hs : starEach [a] X.env = (false, eval a X.env) :: starEach [] X.env := by rfl) :
    SN CA XR X W (.Tuple elts kk p2) (.Call (.Name "enumerate" p) [a] [] pos) (nE f) := by
  refine PI.weak (pi_enum (gl_of C (blt_gl hg)) (blt_mg C hg) (pa_cons ha pa_nil hs) hs) fun σ H R ⟨m, st, ρ, S, E, q⟩ => ⟨m, st, ρ, S, E, (PR.bind_of q).mono fun x m1 st1 H1 S1 T1 h1 v rv => ?_⟩
  split at h1
  · obtain ⟨ad, us, rfl, ⟨h2, h3⟩, z, rs⟩ := rv
    exact ⟨ad, us, rfl, .of h2, PR.here S1 h1 _ (wke (fun m' st' H' T => ⟨.of (T.same h2 h3 fun _ e => nomatch e), by rw [T.same h2 h3 fun _ e => nomatch e]; simp⟩) rs z).n⟩
  · rename_i n
    obtain ⟨hn, rfl⟩ := rv
    split at h1
    · rename_i vs e
      obtain ⟨us, h, z, rs⟩ := S1.cells n _ e
      exact ⟨m1 n, us, rfl, .of h, PR.here S1 h1 _ (wkne hn)⟩
    · exact h1.elim
  · exact h1.elim
theorem lcN_read {σ : L2.St} {H : Hp} {Q : VK} {cell : Bool} (h : tM X.K CA XR W (eCompN cell (ownL.map (·.2)) im gm tt fm) σ H Q) : tN X.K CA XR W im σ H fun J H1 => ∃ nxt m st ρ, WkN X.K CA J nxt m st H1 ∧ SR X.K CA m st H1 ∧ ER X.K m st H1 ρ σ ∧
    PR X.K CA XR W σ ((compN nxt gm tt fm (wipeE ρ (ownL.map (·.2))) L 0 [] >>= newL cell) st) m st H1 fun a m' st' H' => ∀ v, RepV X.K m' st' H' a v → Q v H' := by
  obtain ⟨m, st, ρ, S, E, q⟩ := h
  exact ⟨m, st, ρ, S, E, (PR.bind_of q).mono fun nxt m1 st1 H1 S1 T1 h1 J wk => ⟨nxt, m1, st1, ρ, wk, S1, E.mono T1, h1⟩⟩
theorem se_lcN (cell : Bool) (C : Cq tb G CA XR k N sc own X W) (hin : GIn (ownL.map (·.2)) gm) (ok : BlkOk N sc scope ownL) (hi : SN CA XR X W tg iter im)
    (hg : ∀ X' W', Cq tb G CA XR k N (relS scope sc) (blkOwn scope) X' W' → SG CA XR X' W' tg gm)
    (ht : ∀ X' W', Cq tb G CA XR k N (relS scope sc) (blkOwn scope) X' W' → PTs X' ifs (tMT X'.K CA XR W' (testM tt)))
    (he : ∀ X' W', Cq tb G CA XR k N (relS scope sc) (blkOwn scope) X' W' → SE CA XR X' W' elt fm) (hs : ∀ x, foldedSetIterable iter X.env x = pure x := by intro _; rfl) :
    SE CA XR X W (.ListComp elt [⟨tg, iter, ifs, 0⟩] scope pos) (eCompN cell (ownL.map (·.2)) im gm tt fm) := by
  refine ⟨fun pins s σ H Q I q => ?_⟩
  rw [eval_ListComp]
  refine lc_coreN C hin I hi ok hg ht he hs (lcN_read q) fun D ce s' m H' J q hn fo => ⟨m, hn, fun h2 sb => ?_⟩
  exact ⟨.ref D, H', J.turned (t' := s'.toks) (fun b o hb e => (sb.2 b hb).trans e) fo.1 fo.2.1 fo.2.2.2.1 fo.2.2.2.2.1 fo.2.2.2.2.2, rfl, q⟩
theorem ss_lcN (cell : Bool) (C : Cq tb G CA XR k N sc own X W) (i : Nat) {y : Str} (hy : N[i]? = some y) (hyl : sc.names.lookup y = some .local) (hk : sc.kind = .function) (hl : (py.line == pos.line) = true)
    (ha : (scope.names.any fun (n, k) => n == y && (k == .local || k == .cell)) = false) (hin : GIn (ownL.map (·.2)) gm) (ok : BlkOk N sc scope ownL) (hi : SN CA XR X W tg iter im)
    (hg : ∀ X' W', Cq tb G CA XR k N (relS scope sc) (blkOwn scope) X' W' → SG CA XR X' W' tg gm)
    (ht : ∀ X' W', Cq tb G CA XR k N (relS scope sc) (blkOwn scope) X' W' → PTs X' ifs (tMT X'.K CA XR W' (testM tt)))
    (he : ∀ X' W', Cq tb G CA XR k N (relS scope sc) (blkOwn scope) X' W' → SE CA XR X' W' elt fm) (hs : ∀ x, foldedSetIterable iter X.env x = pure x := by intro _; rfl) :
    S1 CA XR X W (.Assign [.Name y py] (.ListComp elt [⟨tg, iter, ifs, 0⟩] scope pos) spos) (sAsg (eCompN cell (ownL.map (·.2)) im gm tt fm) (gVar i)) := by
  have hyl' : X.env.scope.names.lookup y = some .local := by rw [C.sc]; exact hyl
  have sw : swapsWith (.ListComp elt [⟨tg, iter, ifs, 0⟩] scope pos) (some (.Name y py)) spos.line X.env = pure true := sw_true (by rw [C.sc]; exact hk) hyl' hl ha
  refine PS.weak (t := tAsg (tM X.K CA XR W (eCompN cell (ownL.map (·.2)) im gm tt fm)) (gName i)) ?_ (asg_read i)
  refine ⟨fun pins s σ H D I q => ?_⟩
  rw [exec_Assign_Name_used _ _ _ _ sw]
  refine wpAny_bind (wpAny_standAt (wpAny_bind ?_))
  show wpAny _ X.A (do let _ ← comprehension (.ListComp elt [⟨tg, iter, ifs, 0⟩] scope pos) scope X.env (firstIterPos [⟨tg, iter, ifs, 0⟩] pos) (newList []) false (eval iter X.env) (some (assign (.Name y py) X.env)); pure _) _ _ s
  have q' : tM X.K CA XR W (eCompN cell (ownL.map (·.2)) im gm tt fm) σ H fun x H1 => gName i x σ H1 D.nx := q
  refine wpAny_bind (thn (lc_coreN (Qf := fun _ s' => SP X pins D .next s') C hin I hi ok hg ht he hs (lcN_read q') fun A ce s' m H' J q hn fo => ?_) fun _ s' hq => wpAny_pure (wpAny_pure hq))
  show wpAny _ _ (assign (.Name y py) X.env (.ref A)) _ _ _
  refine wpAny_assign_Name (store_ok2 (v := V.ref A) J (by rw [C.nm]; exact C.nd) (by rw [C.nm]; exact hy) (.inl hyl') rfl (fun s2 I2 hh => ?_) (.inr hyl'))
  obtain ⟨b, sb, hb⟩ := hh
  have ne : ce.locals ≠ b := by
    rcases hb with z | z
    · rw [z]; exact fo.2.1
    · exact fun e => fo.2.2.2.2.1 y b z e.symm
  refine ⟨m, hn.sameBut sb ne, fun h3 sb3 => ?_⟩
  exact ⟨_, H', I2.turned (t' := s2.toks) (fun b o hb e => (sb3.2 b hb).trans e) fo.1 fo.2.1 fo.2.2.2.1 fo.2.2.2.2.1 fo.2.2.2.2.2, q⟩
theorem forN_read {K : PySem.W.Frag} {D : Ends} {σ : L2.St} {m : Mp} {st : Store} {H : Hp} {ρ : Env} {J : It} {nxt : Nxt} (wk : WkN K CA J nxt m st H) (S : SR K CA m st H) (E : ER K m st H ρ σ) {κ : Nat} (q : PO K CA XR W D m st H (forN nxt gm fs κ 0 ρ st)) :
    ∃ V : Nat → Nat → L2.St → Hp → Prop, (∃ μ, V 0 μ σ H) ∧ ∀ i μ σ H, V i μ σ H → (J.stop i H ∧ D.nx σ H) ∨ (J.go i H ∧ ∃ Nx : L2.St → Hp → Prop, (∀ σ' H', Nx σ' H' → ∃ μ', μ' < μ ∧ V (i + 1) μ' σ' H') ∧
      ∀ x H', J.yld i H x H' → tG K CA XR W gm x σ H' fun σ2 H2 => tS K CA XR W fs { D with nx := Nx, ct := Nx, bk := D.nx } σ2 H2) := by
  refine ⟨fun i μ σ' H' => ∃ m' st' ρ', SR K CA m' st' H' ∧ Step m st H m' st' H' ∧ ER K m' st' H' ρ' σ' ∧ PO K CA XR W D m' st' H' (forN nxt gm fs μ i ρ' st'), ⟨κ, m, st, ρ, S, Step.refl, E, q⟩, ?_⟩
  rintro i μ σ' H' ⟨m', st', ρ', S', T', E', q'⟩
  cases μ with
  | zero => exact (show False from q').elim
  | succ μ =>
  have w := wk i m' st' H' S' T'
  unfold forN at q'
  cases e : nxt i st' with
  | none => rw [e] at q'; exact (show False from q').elim
  | some o => cases o with
  | none =>
    rw [e] at q' w
    exact .inl ⟨w, q' m' H' σ' S' Step.refl E'⟩
  | some ws =>
    obtain ⟨v, stY⟩ := ws
    rw [e] at q' w
    obtain ⟨go, yl⟩ := w
    refine .inr ⟨go, fun σ2 H2 => ∃ m2 st2 ρ2, SR K CA m2 st2 H2 ∧ Step m st H m2 st2 H2 ∧ ER K m2 st2 H2 ρ2 σ2 ∧ PO K CA XR W D m2 st2 H2 (forN nxt gm fs μ (i + 1) ρ2 st2), fun σ2 H2 hh => ⟨μ, Nat.lt_succ_self _, hh⟩, fun x H2 y => ?_⟩
    obtain ⟨m2, S2, T2, r2⟩ := yl x H2 y
    have E2 := E'.mono T2
    have q2 : PO K CA XR W D m' st' H' ((gm v ρ' stY).so ρ' fun ρ1 s1 => match fs ρ1 s1 with
      | .nx ρ2 s2 => forN nxt gm fs μ (i + 1) ρ2 s2
      | .ct ρ2 s2 => forN nxt gm fs μ (i + 1) ρ2 s2
      | .bk ρ2 s2 => .nx ρ2 s2
      | o => o) := q'
    refine ⟨m2, stY, ρ', v, S2, E2, r2, (PO.expr E2 (q2.step T2)).mono fun ρ1 m3 st3 H3 S3 T3 h3 σ3 E3 => ⟨m3, st3, ρ1, S3, E3, ?_⟩⟩
    have T0 := (T'.trans T2).trans T3
    cases e : fs ρ1 st3 with
    | nx ρ2 s2 => rw [e] at h3; exact fun m4 H4 σ4 S4 T4 E4 => ⟨m4, s2, ρ2, S4, T0.trans T4, E4, PO.step h3 T4⟩
    | ct ρ2 s2 => rw [e] at h3; exact fun m4 H4 σ4 S4 T4 E4 => ⟨m4, s2, ρ2, S4, T0.trans T4, E4, PO.step h3 T4⟩
    | bk ρ2 s2 => rw [e] at h3; exact h3
    | rt v s2 => rw [e] at h3; exact h3
    | ex x v s2 => rw [e] at h3; exact h3
    | bad => rw [e] at h3; exact h3
theorem ss_forN (C : Cs tb G CA XR k N sc X W) (hi : SN CA XR X W tg it im) (hg : SG CA XR X W tg gm) (hb : SS CA XR X W bb fs) (hs : ∀ x, foldedSetIterable it X.env x = pure x := by intro _; rfl) : S1 CA XR X W (.For tg it bb [] pos) (sForN im gm fs) :=
  PS.weak (ps_for C.hp C.q.calm hi hg hb hs) fun D σ H ⟨m, st, ρ, S, E, q⟩ => ⟨m, st, ρ, S, E, (PO.expr E q).mono fun nxt m1 st1 H1 S1 T1 h1 J wk => forN_read wk S1 (E.mono T1) h1⟩
end
end Fl
set_option Elab.async false
set_option linter.all false
set_option maxRecDepth 100000
set_option maxHeartbeats 4000000
/-! Fl: instances: their attributes, methods, new ones. -/
namespace Fl
/-- o.f of an instance -/
def attrI (f : String) (v : Val) : M Val := fun s => match v with
  | .loc n => match s.cell n with
    | some (.ins _ fs) => match fget fs f with
      | some u => .ok u s
      | none => .bad
    | _ => .bad
  | _ => .bad
/-- o.m(..); m is no attribute of the instance -/
def eMethI (G : FEnv) (c m : String) (f : Nat) (o : CE) (as : List CE) : CE := fun ρ => o ρ >>= fun x s => match x with
  | .loc n => match s.cell n with
    | some (.ins d fs) => if d = c ∧ (fget fs m).isNone = true then (eVals as ρ >>= fun vs => G f (x :: vs)) s else .bad
    | _ => .bad
  | _ => .bad
/-- C(..) -/
def eNew (G : FEnv) (c : String) (f : Nat) (as : List CE) : CE := fun ρ => eVals as ρ >>= fun vs (s : Store) =>
  (G f (.loc s.length :: vs) (s ++ [some (.ins c [])])).bind fun v s' => match v with
    | .t .non => .ok (.loc s.length) s'
    | _ => .bad
/-- x, o.f = a pair -/
def sVarAttrI (i : Nat) (f : String) (e o : CE) : SM := fun ρ s => (e ρ s).so ρ fun v s1 => (items v s1).so ρ fun vs s2 => match vs with
  | [a, b] => (o (ρ.set i (some a)) s2).so (ρ.set i (some a)) fun ov s3 => (setAttr f ov b s3).so (ρ.set i (some a)) fun _ s4 => .nx (ρ.set i (some a)) s4
  | _ => .bad
open PySem PySem.Spec L2

section
variable {K : PySem.W.Frag} {m : Mp} {st : Store} {H : Hp}
theorem RepF.get : ∀ {fs : List (String × Val)} {us : List (Str × V)} {f : String} {u : Val}, RepF K m st H fs us → fget fs f = some u → ∃ v, us.lookup (Str.ofString f) = some v ∧ RepV K m st H u v
  | [], _, f, u, _, e => by simp [fget] at e
  | (g, x) :: r, _, f, u, h, e => by
    obtain ⟨⟨k, v⟩, q, rfl, ⟨rfl, r1⟩, r2⟩ := h
    unfold fget at e
    by_cases c : g = f
    · rw [if_pos c] at e
      cases e
      subst c
      exact ⟨v, by rw [List.lookup_cons, beq_self_eq_true], r1⟩
    · rw [if_neg c] at e
      obtain ⟨w, e2, r3⟩ := RepF.get r2 e
      refine ⟨w, ?_, r3⟩
      rw [List.lookup_cons]
      have : (Str.ofString f == Str.ofString g) = false := by
        refine beq_eq_false_iff_ne.mpr fun z => c (ofString_inj z).symm
      rw [this]
      exact e2
theorem RepF.no : ∀ {fs : List (String × Val)} {us : List (Str × V)} {f : String}, RepF K m st H fs us → (fget fs f).isNone = true → us.lookup (Str.ofString f) = none
  | [], _, f, h, e => by
    have : _ = [] := h
    rw [this]; rfl
  | (g, x) :: r, _, f, h, e => by
    obtain ⟨⟨k, v⟩, q, rfl, ⟨rfl, r1⟩, r2⟩ := h
    unfold fget at e
    by_cases c : g = f
    · rw [if_pos c] at e; cases e
    · rw [if_neg c] at e
      rw [List.lookup_cons]
      have : (Str.ofString f == Str.ofString g) = false := by
        refine beq_eq_false_iff_ne.mpr fun z => c (ofString_inj z).symm
      rw [this]
      exact RepF.no r2 e
theorem RepF.put {f : String} {y : Val} {w : V} (ry : RepV K m st H y w) : ∀ {fs : List (String × Val)} {us : List (Str × V)}, RepF K m st H fs us → RepF K m st H (fput fs f y) (putF (Str.ofString f) w us)
  | [], _, h => by
    have : _ = [] := h
    subst this
    exact ⟨(Str.ofString f, w), [], rfl, ⟨rfl, ry⟩, rfl⟩
  | (g, x) :: r, _, h => by
    obtain ⟨⟨k, v⟩, q, rfl, ⟨rfl, r1⟩, r2⟩ := h
    unfold fput putF
    by_cases c : g = f
    · subst c
      rw [if_pos rfl, if_pos rfl]
      exact ⟨_, _, rfl, ⟨rfl, ry⟩, r2⟩
    · rw [if_neg c, if_neg fun z => c (ofString_inj z)]
      exact ⟨_, _, rfl, ⟨rfl, r1⟩, RepF.put ry r2⟩
theorem RepF.len : ∀ {fs : List (String × Val)} {us : List (Str × V)}, RepF K m st H fs us → fs.length = us.length
  | [], _, h => by
    have : _ = [] := h
    rw [this]; rfl
  | (g, x) :: r, _, h => by
    obtain ⟨v, q, rfl, _, r2⟩ := h
    rw [List.length_cons, List.length_cons, RepF.len r2]
end

theorem R.bind_pure {α : Type} (r : R α) : (r.bind fun a s => .ok a s) = r := by cases r <;> rfl
section
variable {tb : Tab} {G : FEnv} {CA : Tags} {XR : XRel} {k : Nat} {N : List Str} {sc : Scope} {own : Str → Bool} {X : Cx} {W : WX}
variable {a b c d e o : Expr} {es : List Expr} {pos pos' apos cpos p p2 p3 : Pos} {f g h : CE} {t u : CT}

theorem se_attr (C : Cw tb G CA XR k N sc own X W) {x : Str} (s : String) (hx : (x, s) ∈ tb.ats) (ho : SE CA XR X W a f) (hb : attributeBase a x X.env (eval a X.env) = eval a X.env := by rfl) : SE CA XR X W (.Attribute a x pos) (e1 (attrI s) f) := by
  refine PE.weak (pe_fld ho hb) fun σ H Q ⟨m, st, ρ, S, E, q⟩ => ⟨m, st, ρ, S, E, (PR.bind_of q).mono fun v m1 st1 H1 S1 T1 h1 w rw => ?_⟩
  unfold attrI at h1
  split at h1
  · rename_i n
    obtain ⟨_, rfl⟩ := rw
    cases e : st1.cell n with
    | none => rw [e] at h1; exact h1.elim
    | some cc =>
      rw [e] at h1
      cases cc with
      | ins c fs =>
        dsimp only at h1
        cases e2 : fget fs s with
        | none => rw [e2] at h1; exact h1.elim
        | some u =>
          rw [e2] at h1
          obtain ⟨Cc, dx, us, hC, hh, rf⟩ := S1.cells n _ e
          obtain ⟨ex, c1, c2⟩ := C.glob.ats x s c Cc hx hC
          obtain ⟨v2, l2, r2⟩ := rf.get e2
          exact ⟨m1 n, Cc, dx, us, v2, rfl, hh, c1, c2, by rw [ex]; exact l2, PR.here S1 h1 v2 r2⟩
      | _ => exact h1.elim
  · exact h1.elim
/-- an attribute is set -/
theorem setAttr_ok {α : Type} {σ : L2.St} {m : Mp} {st : Store} {H : Hp} {s : String} {x : Str} {ov y : Val} {o' v : V} {r : Unit → Store → SO} {D : Ends} {ρ : Env} (C : Cw tb G CA XR k N sc own X W) (hx : (x, s) ∈ tb.ats)
    (S : SR X.K CA m st H) (E : ER X.K m st H ρ σ) (ro : RepV X.K m st H ov o') (rv : RepV X.K m st H y v) (q : PO X.K CA XR W D m st H ((setAttr s ov y st).so ρ fun _ s' => .nx ρ s')) :
    ∃ a C dx fs, o' = .ref a ∧ H a = some (.ins C dx fs) ∧ Cls X.K C ∧ NoAttr X.K C x ∧ fs.length < 1000 ∧ D.nx σ (upd H a (.ins C dx (putF x v fs))) := by
  unfold setAttr at q
  cases ov with
  | loc n =>
    obtain ⟨_, rfl⟩ := ro
    dsimp only at q
    cases e : st.cell n with
    | none => rw [e] at q; exact q.elim
    | some cc =>
      rw [e] at q
      cases cc with
      | ins c fs =>
        dsimp only at q
        by_cases hz : fs.length < 100
        · rw [if_pos hz] at q
          obtain ⟨Cc, dx, us, hC, hh, rf⟩ := S.cells n _ e
          obtain ⟨ex, c1, c2⟩ := C.glob.ats x s c Cc hx hC
          subst ex
          refine ⟨m n, Cc, dx, us, rfl, hh, c1, c2, by rw [← rf.len]; omega, ?_⟩
          have T := S.setStep (o := .ins Cc dx (putF (Str.ofString s) v us)) (c' := .ins c (fput fs s y)) e
          have S3 := S.setCell e (c' := .ins c (fput fs s y)) ⟨Cc, dx, _, hC, upd_same, RepF.mono T _ _ (RepF.put rv rf)⟩
          exact q m _ σ S3 T (E.mono T)
        · rw [if_neg hz] at q; exact q.elim
      | _ => exact q.elim
  | _ => exact q.elim
/-- o.f = e -/
theorem ss_attr (C : Cw tb G CA XR k N sc own X W) {x : Str} (s : String) (hx : (x, s) ∈ tb.ats) (he : SE CA XR X W e f) (ho : SE CA XR X W a g) (hs : swapsWith e (some (.Attribute a x pos')) pos.line X.env = pure false := by rfl) :
    S1 CA XR X W (.Assign [.Attribute a x pos'] e pos) (sAttr s f g) := by
  refine PS.weak (ps_fld ho he hs) fun D σ H ⟨m, st, ρ, S, E, q⟩ => ?_
  refine ⟨m, st, ρ, S, E, (PO.expr E q).mono fun y m1 st1 H1 S1 T1 h1 v rv => ?_⟩
  refine ⟨m1, st1, ρ, S1, E.mono T1, (PO.expr (E.mono T1) h1).mono fun z m2 st2 H2 S2 T2 h2 o' ro => ?_⟩
  exact setAttr_ok (α := Unit) (r := fun _ s' => .nx ρ s') C hx S2 ((E.mono T1).mono T2) ro (RepV.mono T2 _ _ rv) h2
/-- .. as a target -/
def gAttr (K : PySem.W.Frag) (ta : TE) (f : Str) : TG := fun v σ H Q => ta σ H fun x H2 => ∃ a C dx fs, x = .ref a ∧ H2 a = some (.ins C dx fs) ∧ Cls K C ∧ NoAttr K C f ∧ fs.length < 1000 ∧ Q σ (upd H2 a (.ins C dx (putF f v fs)))
theorem pg_attr {x : Str} {ta : TE} (ha : PE X a ta) : PG X (.Attribute a x pos) (gAttr X.K ta x) := by
  refine ⟨fun pins s σ H v u Q I r h => ?_⟩
  rw [assign_Attribute]
  refine wpAny_bind (wpAny_holding (thn (ha.run pins s σ H _ I h) fun ov s1 ⟨y, H1, I1, r1, ad, Cc, dx, fs, ey, ea, c1, c2, hl, q1⟩ => ?_))
  subst ey
  obtain rfl : ov = Value.ref ad := r1
  refine wpAny_bind (wpAny_standAt (wpAny_bind (wpAny_holding (setattr_ok I1 ea c1 c2 hl r fun s2 I2 => ?_))))
  exact wpAny_release ⟨σ, _, I2, q1⟩
/-- x, o.f = e -/
theorem ss_varattr (C : Cq tb G CA XR k N sc own X W) {x y : Str} (i : Nat) (s : String) {kk : Nat} (hi : N[i]? = some x) (hst : stoB sc own x = true) (hx : (y, s) ∈ tb.ats) (he : SE CA XR X W e f) (ho : SE CA XR X W a g)
    (hs : swapsWithSole [.Tuple [.Name x p, .Attribute a y p2] kk p3] e pos.line X.env = pure false := by rfl) (hw : swappedStores [.Tuple [.Name x p, .Attribute a y p2] kk p3] e X.env = pure none := by rfl)
    (h1 : (assignEach [.Tuple [.Name x p, .Attribute a y p2] kk p3] X.env).map (·.2) = [assign (.Tuple [.Name x p, .Attribute a y p2] kk p3) X.env] := by rfl)
    (hn : (assignEach [.Name x p, .Attribute a y p2] X.env).length = 2 := by rfl) (hf : (assignEach [.Name x p, .Attribute a y p2] X.env).findIdx? (·.1) = none := by rfl)
    (hc1 : (assignEach (.Name x p :: [.Attribute a y p2]) X.env).map (·.2) = assign (.Name x p) X.env :: (assignEach [.Attribute a y p2] X.env).map (·.2) := by rfl)
    (hc2 : (assignEach (.Attribute a y p2 :: []) X.env).map (·.2) = assign (.Attribute a y p2) X.env :: (assignEach [] X.env).map (·.2) := by rfl) :
    S1 CA XR X W (.Assign [.Tuple [.Name x p, .Attribute a y p2] kk p3] e pos) (sVarAttrI i s f g) := by
  obtain ⟨k1, k2⟩ := sto_loc hst
  have tgs := pgs_cons (pg_name (i := i) (pos := p) (by rw [C.nm]; exact C.nd) (by rw [C.nm]; exact hi) (by rw [C.sc]; exact k1) (by rw [C.sc, C.own]; exact k2)) (pgs_cons (pg_attr (pos := p2) (x := y) ho) pgs_nil hc2) hc1
  refine PS.weak (ps_asg he (PG.or (pg_tup (n := 2) C.calm tgs hn hf) (pg_lst (n := 2) C.calm tgs hn hf)) hs hw h1) fun D σ H ⟨m, st, ρ, S, E, q⟩ => ?_
  refine ⟨m, st, ρ, S, E, (PO.expr E q).mono fun v m1 st1 H1 S1 T1 h1 w rw => ?_⟩
  have h2 := PO.expr (E.mono T1) h1
  rw [← R.bind_pure (items v st1)] at h2
  obtain ⟨ws, ad, us, rfl, hh, rs, z, q1⟩ := items_ok S1 rw h2
  have q2 := PR.here S1 q1
  match ws, rs, q2 with
  | [y1, y2], rs, q2 =>
    obtain ⟨v1, r1, rfl, ry1, v2, r2, rfl, ry2, e2⟩ := rs
    have e2 : r2 = [] := e2
    subst e2
    have E1 := (E.mono T1).set ry1 i
    dsimp only at q2
    have fin : gCons (gName i) (gCons (gAttr X.K (tM X.K CA XR W g) y) gNil) [v1, v2] σ H1 D.nx := by
      refine ⟨v1, [v2], rfl, v2, [], rfl, ?_⟩
      refine ⟨m1, st1, ρ.set i (some y1), S1, E1, (PO.expr E1 q2).mono fun ov m2 st2 H2 S2 T2 h2 o' ro => ?_⟩
      obtain ⟨a, Cc, dx, fs, h3, h4, h5, h6, h7, h8⟩ := setAttr_ok (α := Unit) (r := fun _ s' => .nx (ρ.set i (some y1)) s') C.toCw hx S2 (E1.mono T2) ro (RepV.mono T2 _ _ ry2) h2
      exact ⟨a, Cc, dx, fs, h3, h4, h5, h6, h7, rfl, h8⟩
    rcases hh with hh | hh
    · exact .inr ⟨ad, _, rfl, hh, rfl, fin⟩
    · exact .inl ⟨ad, _, rfl, hh, rfl, fin⟩
  | [], _, q2 => exact q2.elim
  | [_], _, q2 => exact q2.elim
  | _ :: _ :: _ :: _, _, q2 => exact q2.elim
theorem Room1.make {k : Nat} {A : Around} (r : Room1 (k + 1) A) (C : Addr) (us : List Value) (kw : List (Str × Value)) : Room1 k (A.under (.builtin "type.__call__" ⟨.ref C :: us, kw⟩)) :=
  ⟨r.hd, by have := r.dp; rw [make_depth]; omega, by have := r.un; rw [make_units]; omega, by
    have := r.gd
    first | exact this | simpa [Around.under, Code.weight, Code.isCreation, Code.isGuard, Code.isCaller, Code.frames, Code.isFrame, guardIds] using this⟩
/-- o.m(e, ..) -/
theorem se_meth (C : Cq tb G CA XR k N sc own X W) {x : Str} (c s : String) (i n : Nat) {fs : List CE} {pl : Sem Bool} (hm : (c, x, i, n) ∈ tb.mts) (hx : x = Str.ofString s) (hn : fs.length + 1 = n) (ho : SE CA XR X W o f) (ha : SA CA XR X W (a :: es) (eVals fs))
    (hst : starEach (a :: es) X.env = (false, eval a X.env) :: starEach es X.env := by rfl) (hpl : (backTo pos (starEach es X.env)).any (·.1) = false := by rfl)
    (ht : eval (.Call (.Attribute o x apos) (a :: es) [] pos) X.env = (do
      let ov ← eval o X.env
      standAt apos.atName
      let (f, first) ← holding [ov] (getMethod ov x pl)
      callWith pos f first (backTo pos (starEach (a :: es) X.env)) (backToKw pos (keywordEach [] X.env))) := by rfl) : SE CA XR X W (.Call (.Attribute o x apos) (a :: es) [] pos) (eMethI G c s i f fs) := by
  obtain ⟨Cc, fa, fd, ps, hC, hcl, hme, hbd, hok⟩ := C.glob.mts c x i n hm
  refine ⟨fun pins s0 σ H Q I ⟨m, st, ρ, S, E, q⟩ => ?_⟩
  refine PySem.W.methodCall_KW (pl := pl) (thn (ho.run pins s0 σ H (fun v H1 => ∃ ad dx us, v = .ref ad ∧ H1 ad = some (.ins Cc dx us) ∧ us.lookup x = none ∧ tMA X.K CA XR W (eVals fs) σ H1 fun vs H2 => spOf X.K CA XR (G i) n (.ref ad :: vs) H2 Q fun c d H' => W c d σ H') I ⟨m, st, ρ, S, E, (PR.bind_of q).mono fun v m1 st1 H1 S1 T1 h1 w rw => ?_⟩) fun u s1 ⟨y, H1, I1, ry, ad, dx, us, ey, ea, l, q1⟩ => ?_) ht
  · cases v with
    | loc j =>
      obtain ⟨hj, rfl⟩ := rw
      dsimp only at h1
      cases e : st1.cell j with
      | none => rw [e] at h1; exact h1.elim
      | some cc =>
        rw [e] at h1
        cases cc with
        | ins d fs' =>
          dsimp only at h1
          by_cases hc : d = c ∧ (fget fs' s).isNone = true
          · rw [if_pos hc] at h1
            obtain ⟨rfl, hno⟩ := hc
            obtain ⟨Cd, dx, us, hC2, hh, rf⟩ := S1.cells j _ e
            have eC := C.glob.tag d _ _ hC2 hC
            subst eC
            refine ⟨m1 j, dx, us, rfl, hh, by rw [hx]; exact rf.no hno, m1, st1, ρ, S1, E.mono T1, ?_⟩
            exact (PR.bind_of h1).lenOf.mono fun ws m2 st2 H2 S2 T2 h2 vs rs => spOf_of (as := .loc j :: ws) S2 ⟨_, _, rfl, RepV.mono T2 (.loc j) _ ⟨hj, rfl⟩, rs⟩ (by rw [List.length_cons, h2.1]; exact hn) h2.2
          · rw [if_neg hc] at h1; exact h1.elim
        | _ => exact h1.elim
    | _ => exact h1.elim
  · subst ey
    obtain rfl : u = Value.ref ad := ry
    refine getmeth_ok I1 ea hcl hme l ?_
    refine PySem.W.callWith_K (first := [.ref ad]) (h₀ := X.base) I1.ok.mod.kin hme.kp (thn (ha.run pos pins s1 σ H1 _ I1 q1) fun us s2 ⟨vs, H2, I2, r, q2⟩ => ⟨I2.kIn, ?_⟩) hst hpl
    exact run1 (us := .ref ad :: us) (vs := .ref ad :: vs) C hok hbd I2 (.cons rfl r) q2
/-- o.m() -/
theorem se_meth0 (C : Cq tb G CA XR k N sc own X W) {x : Str} (c s : String) (i : Nat) {pl : Sem Bool} (hm : (c, x, i, 1) ∈ tb.mts) (hx : x = Str.ofString s) (ho : SE CA XR X W o f)
    (ht : eval (.Call (.Attribute o x apos) [] [] pos) X.env = (do
      let ov ← eval o X.env
      standAt apos.atName
      let (f, first) ← holding [ov] (getMethod ov x pl)
      callWith pos f first (backTo pos (starEach [] X.env)) (backToKw pos (keywordEach [] X.env))) := by rfl) : SE CA XR X W (.Call (.Attribute o x apos) [] [] pos) (eMethI G c s i f []) := by
  obtain ⟨Cc, fa, fd, ps, hC, hcl, hme, hbd, hok⟩ := C.glob.mts c x i 1 hm
  refine ⟨fun pins s0 σ H Q I ⟨m, st, ρ, S, E, q⟩ => ?_⟩
  refine PySem.W.methodCall_KW (pl := pl) (thn (ho.run pins s0 σ H (fun v H1 => ∃ ad dx us, v = .ref ad ∧ H1 ad = some (.ins Cc dx us) ∧ us.lookup x = none ∧ spOf X.K CA XR (G i) 1 [.ref ad] H1 Q fun c d H' => W c d σ H') I ⟨m, st, ρ, S, E, (PR.bind_of q).mono fun v m1 st1 H1 S1 T1 h1 w rw => ?_⟩) fun u s1 ⟨y, H1, I1, ry, ad, dx, us, ey, ea, l, q1⟩ => ?_) ht
  · cases v with
    | loc j =>
      obtain ⟨hj, rfl⟩ := rw
      dsimp only at h1
      cases e : st1.cell j with
      | none => rw [e] at h1; exact h1.elim
      | some cc =>
        rw [e] at h1
        cases cc with
        | ins d fs' =>
          dsimp only at h1
          by_cases hc : d = c ∧ (fget fs' s).isNone = true
          · rw [if_pos hc] at h1
            obtain ⟨rfl, hno⟩ := hc
            obtain ⟨Cd, dx, us, hC2, hh, rf⟩ := S1.cells j _ e
            have eC := C.glob.tag d _ _ hC2 hC
            subst eC
            exact ⟨m1 j, dx, us, rfl, hh, by rw [hx]; exact rf.no hno, spOf_of (as := [.loc j]) S1 ⟨_, _, rfl, ⟨hj, rfl⟩, rfl⟩ rfl h1⟩
          · rw [if_neg hc] at h1; exact h1.elim
        | _ => exact h1.elim
    | _ => exact h1.elim
  · subst ey
    obtain rfl : u = Value.ref ad := ry
    refine getmeth_ok I1 ea hcl hme l ?_
    exact PySem.W.callWith_K0 (first := [.ref ad]) I1.kIn hme.kp (run1 (us := [.ref ad]) (vs := [.ref ad]) C hok hbd I1 (.cons rfl .nil) q1)
theorem run_make1 {Cc fa : Addr} {fd : FuncData} {ps : List Str} {sp : Sp} {pins : List (Addr × Obj)} {σ : L2.St} {H : Hp} {s : Shared} {Q : VK} {us : List Value} {vs : List V} {j : Nat} (C : Cq tb G CA XR k N sc own X W) (hk : j + 1 = k)
    (M : Mk X.K Cc fa) (F : FnOk1 X.prog X.w X.K X.mg X.base j fa fd ps sp) (hb : Binds X.K fd ps []) (I : Inv X pins σ H s) (r : Vals vs us)
    (h : ∀ x dx, H x = none → H dx = none → dx ≠ x → sp (.ref x :: vs) (upd (upd H dx (.own x)) x (.ins Cc dx [])) (fun v H2 => v = .non ∧ Q (.ref x) H2) fun c d H' => W c d σ H') :
    wpAny (model X.prog X.w) X.A (call (.ref Cc) us) (EP X pins σ Q) X.xe s := by
  have hq := h (s.heap.objs.size + 1) s.heap.objs.size (I.hok.fresh (Nat.le_succ _)) (I.hok.fresh (Nat.le_refl _)) (Nat.ne_of_lt (Nat.lt_succ_self _))
  have I2 := Inv.made (C := Cc) I
  have r2 : Vals (V.ref (s.heap.objs.size + 1) :: vs) (Value.ref (s.heap.objs.size + 1) :: us) := .cons rfl r
  have hl : (Value.ref (s.heap.objs.size + 1) :: us).length = ps.length := by
    have e := r2.length
    rw [F.len _ _ _ _ hq] at e
    exact e.symm
  have hr : Room1 (j + 1) X.A := by rw [hk]; exact C.room
  obtain ⟨A0, hA, _, tk⟩ := C.takes
  have bd : BindsTo { s with heap := (s.heap.push PySem.W.emptyDict).push (PySem.W.instObj Cc s.heap.objs.size) } fd ⟨Value.ref (s.heap.objs.size + 1) :: us, []⟩ (ps.zip (Value.ref (s.heap.objs.size + 1) :: us)) := by
    have z := hb _ (Value.ref (s.heap.objs.size + 1) :: us) I2.kIn (by rw [List.append_nil]; exact hl)
    rw [List.append_nil] at z
    exact z
  refine wpAny_call (make_map (f := fa) I.kIn M.makes M.init (beq_iff_eq.mp M.fn) (codeAny_mono (F.run _ X.stack _ _ ⟨Value.ref (s.heap.objs.size + 1) :: us, []⟩ (Value.ref (s.heap.objs.size + 1) :: us) _ _ _ (hr.make Cc us []) (I2.env0.make Cc us []) bd r2 hq) fun rr s' hq' => ?_))
  cases rr with
  | error e => exact tk e s' (air_call I2 hq')
  | ok fl =>
    cases fl with
    | ret u =>
      obtain ⟨v, H', I3, rv, ev, q3⟩ := I2.after hq'
      subst ev
      exact ⟨rv, ⟨V.ref (s.heap.objs.size + 1), H', I3, rfl, q3⟩⟩
    | next => exact (show False from hq').elim
    | brk => exact (show False from hq').elim
    | cont => exact (show False from hq').elim
/-- what a new instance's __init__ is handed -/
theorem new_ok {K : PySem.W.Frag} {σ : L2.St} {c : String} {Cc : Addr} {i n : Nat} {ws : List Val} {vs : List V} {m : Mp} {st : Store} {H : Hp} {Q : VK} (hC : CA c Cc) (S : SR K CA m st H) (rs : RepVs K m st H ws vs) (hn : ws.length + 1 = n)
    (q : PR K CA XR W σ ((G i (.loc st.length :: ws) (st ++ [some (.ins c [])])).bind fun v s' => match v with
    | .t .non => .ok (.loc st.length) s'
    | _ => .bad) m st H fun a m' st' H' => ∀ v, RepV K m' st' H' a v → Q v H') (x dx : Addr) (hx : H x = none) (hd : H dx = none) (hne : dx ≠ x) :
    spOf K CA XR (G i) n (.ref x :: vs) (upd (upd H dx (.own x)) x (.ins Cc dx [])) (fun v H2 => v = .non ∧ Q (.ref x) H2) fun c d H' => W c d σ H' := by
  obtain ⟨T1, S1⟩ := S.fresh (o := .own x) hd
  have hx1 : upd H dx (.own x) x = none := by rw [upd_ne hne.symm]; exact hx
  have T2 := S1.cellStep (o := .ins Cc dx []) hx1 (.ins c [])
  have S2 := S1.newCell (o := .ins Cc dx []) hx1 (c := .ins c []) ⟨Cc, dx, [], hC, upd_same, rfl⟩
  refine ⟨by rw [List.length_cons, ← rs.length]; exact hn, mNew m st x, st ++ [some (.ins c [])], .loc st.length :: ws, S2, ⟨_, _, rfl, ⟨by simp, by rw [mNew_same]⟩, RepVs.mono (T1.trans T2) _ _ rs⟩, ?_⟩
  refine PR.mono ((PR.bind_of (PR.step q (T1.trans T2))).flat) fun a m3 st3 H3 S3 T3 h3 v rv => ?_
  cases a with
  | t d =>
    cases d with
    | non =>
      have ev : v = .non := rv
      subst ev
      refine ⟨rfl, PR.here S3 h3 _ ?_⟩
      refine ⟨Nat.lt_of_lt_of_le (by simp) T3.len, ?_⟩
      rw [T3.ag st.length (by simp), mNew_same]
    | _ => exact h3.elim
  | _ => exact h3.elim
/-- C(e, ..) -/
theorem se_new (C : Cq tb G CA XR k N sc own X W) {x : Str} (c : String) (i n : Nat) {fs : List CE} (hg : glbB sc x = true) (hm : (x, c, i, n) ∈ tb.cls) (hn : fs.length + 1 = n) (ha : SA CA XR X W (a :: es) (eVals fs))
    (he : starEach (a :: es) X.env = (false, eval a X.env) :: starEach es X.env := by rfl) (hpl : (backTo pos (starEach es X.env)).any (·.1) = false := by rfl) :
    SE CA XR X W (.Call (.Name x p) (a :: es) [] pos) (eNew G c i fs) := by
  obtain ⟨Cc, fI, fd, ps, hC, h1, hcl, M, hb, hor⟩ := C.glob.cls x c i n hm
  refine ⟨fun pins s σ H Q I ⟨m, st, ρ, S, E, q⟩ => ?_⟩
  refine wpAny_Call_Name_kw (ld_glob I (gl_of C.toCw hg) h1 ?_ (gl_dbg hg))
  refine PySem.W.callWith_K (h₀ := X.base) I.ok.mod.kin M.kp (thn (ha.run pos pins s σ H (fun vs H1 => ∀ x dx, H1 x = none → H1 dx = none → dx ≠ x → (∃ j, j + 1 = k ∧ FnOk1 X.prog X.w X.K X.mg X.base j fI fd ps (spOf X.K CA XR (G i) n)) ∧ spOf X.K CA XR (G i) n (.ref x :: vs) (upd (upd H1 dx (.own x)) x (.ins Cc dx [])) (fun v H2 => v = .non ∧ Q (.ref x) H2) fun c d H' => W c d σ H') I
    ⟨m, st, ρ, S, E, (PR.bind_of q).lenOf.mono fun ws m1 st1 H1 S1 T1 h1 vs rs x dx hx hd hne => ?_⟩) fun us s1 ⟨vs, H1, I1, rv, q1⟩ => ⟨I1.kIn, ?_⟩) he hpl
  · rcases hor with hbad | hor
    · have h2 := h1.2
      rw [hbad] at h2
      exact h2.elim
    · exact ⟨hor, new_ok hC S1 rs (by rw [h1.1]; exact hn) h1.2 x dx hx hd hne⟩
  · obtain ⟨⟨j, hk, F⟩, _⟩ := q1 (s1.heap.objs.size + 1) s1.heap.objs.size (I1.hok.fresh (Nat.le_succ _)) (I1.hok.fresh (Nat.le_refl _)) (Nat.ne_of_lt (Nat.lt_succ_self _))
    exact run_make1 C hk M F hb I1 rv fun x dx hx hd hne => (q1 x dx hx hd hne).2
end
end Fl
set_option Elab.async false
set_option linter.all false
set_option maxRecDepth 100000
set_option maxHeartbeats 4000000
/-! Fl: list(range(n)). -/
namespace Fl
noncomputable def rangeL (cell : Bool) (v : Val) : M Val := getInt v >>= fun i => if cdec (0 ≤ i ∧ i ≤ 16777216) = true then newL cell (upto 0 i.toNat) else bad
open PySem PySem.Spec L2
section
variable {tb : Tab} {G : FEnv} {CA : Tags} {XR : XRel} {k : Nat} {N : List Str} {sc : Scope} {own : Str → Bool} {X : Cx} {W : WX}
variable {a b c d e o : Expr} {es : List Expr} {pos pos' apos cpos p p2 p3 : Pos} {f g h : CE} {t u : CT}
theorem upto_reps {K : PySem.W.Frag} {m : Mp} {st : Store} {H : Hp} {i : Int} (h : 0 ≤ i) : RepVs K m st H (upto 0 i.toNat) (rgV 0 i) := by
  unfold upto rgV
  rw [Int.sub_zero]
  generalize List.range i.toNat = l
  induction l with
  | nil => rfl
  | cons x r ih => exact ⟨_, _, rfl, rfl, ih⟩
theorem se_listrg (C : Cq tb G CA XR k N sc own X W) (cell : Bool) (h : bltB tb sc "list" = true) (h2 : bltB tb sc "range" = true) (ha : SE CA XR X W a f) (na : starEach [a] X.env = (false, eval a X.env) :: starEach [] X.env := by rfl)
    (nb : starEach [.Call (.Name "range" p) [a] [] pos] X.env = (false, eval (.Call (.Name "range" p) [a] [] pos) X.env) :: starEach [] X.env := by rfl) : SE CA XR X W (.Call (.Name "list" p2) [.Call (.Name "range" p) [a] [] pos] [] pos') (e1 (rangeL cell) f) := by
  refine PE.weak (pe_listRg C.calm (gl_of C.toCw (blt_gl h)) (blt_mg C.toCw h) (prg_1 (gl_of C.toCw (blt_gl h2)) (blt_mg C.toCw h2) ha na) nb) fun σ H Q ⟨m, st, ρ, S, E, q⟩ => ⟨m, st, ρ, S, E, (PR.bind_of q).mono fun v m1 st1 H1 S1 T1 h1 w rw => ?_⟩
  obtain ⟨i, rfl, rfl, h3⟩ := getInt_ok rw h1
  split at h3
  · rename_i hc
    rw [cdec_iff] at hc
    refine ⟨i, rfl, RgOk.of_le (Int.le_refl _) hc.2 (by decide) hc.1, ?_⟩
    refine newL_ok S1 (upto_reps hc.1) ?_ h3
    unfold upto
    rw [List.length_map, List.length_range]
    show i.toNat ≤ 16777216
    omega
  · exact h3.elim
end
end Fl
set_option Elab.async false
set_option linter.all false
set_option maxRecDepth 100000
set_option maxHeartbeats 4000000
/-! Fl: sets of the numbers of a list; sorted. -/
namespace L2
open PySem PySem.Spec PyProof.Rows
section
variable {P : Program} {w : World} {A : Around} {E : Value → Shared → Prop} {s : Shared}
/-- the empty set's object -/
abbrev emptyS (w : World) : Obj := { cls := .type "set", dict := none, data := .set #[] 0 (.fresh 0 0 (!w.params.followText "set-order")) }
theorem setR_empty {h : Heap} {a : Addr} {ns : List Int} (ho : h.get? a = some (emptyS w)) : SetR w h a (fun j => decide (j ∈ ns.take 0)) 0 := setR_new_at ho
set_option maxHeartbeats 3200000 in
/-- set(xs), a list of ints: its members once, and how it may be walked -/
theorem call_set_listR {l : Addr} {items : Array Value} (ns : List Int) {Q : Value → Shared → Prop} (hh : A.handled = none) (hl : s.heap.IsList l items) (hit : IntsAre items.toList ns) (hb : ns.length + 1 < scanBound)
    (h : ∀ (h' : Heap) (tk c : Nat), SetR w h' s.heap.objs.size (fun j => decide (j ∈ ns)) c → c ≤ ns.length → (∀ b o, s.heap.get? b = some o → h'.get? b = some o) → Q (.ref s.heap.objs.size) { s with heap := h', toks := tk }) :
    wpAny (model P w) A (call (.type "set") [.ref l]) Q E s := by
  have many : items.size = ns.length := by simpa using IntsAre.length hit
  have atS : (s.heap.push (emptyS w)).get? s.heap.objs.size = some (emptyS w) := Heap.get?_push_size _ rfl
  have tyS : Shared.TypeIs { s with heap := s.heap.push (emptyS w) } (.ref s.heap.objs.size) "set" := ⟨_, atS, rfl⟩
  have hlS : l < s.heap.objs.size := by obtain ⟨o, e, _⟩ := hl; exact Heap.lt_size e
  have hl1 : (s.heap.push (emptyS w)).IsList l items := hl.push _
  have z1 : (s.heap.push (emptyS w)).objs.size = s.heap.objs.size + 1 := Heap.size_push ..
  obtain ⟨c0, tl, hmro⟩ := F.called_set.mro
  have hmade := F.called_set.made
  have hsub := F.called_set.sub
  have h1 := F.called_set.notType
  have h2 := F.called_set.canCreate
  have hct := F.typeCall_set_1 (.ref l)
  refine wpAny_call (codeAny_of_tree ?_)
  show wpAny _ _ (callAny (.type "set") _) _ _ _
  refine wpAny_pure ⟨Code.quiet_builtin _ (by decide +kernel), codeAny_builtin F.entry_type_call ?_⟩
  rw [Around.under_plain (weight_type_call_type "set" [.ref l] []) rfl]
  repeat (any_goals (first | assumption | wp_step))
  refine codeAny_mono (code_set_led1 (.ref l) (E := E) (Q₁ := fun obj s₁ => obj = .ref s.heap.objs.size ∧ s₁ = { s with heap := s.heap.push (emptyS w) }) ⟨rfl, rfl⟩) fun r s₁ hr => ?_
  cases r with
  | error e => exact hr
  | ok fl =>
    cases fl with
    | ret obj =>
      obtain ⟨rfl, rfl⟩ := hr
      have hli := F.called_set.init.lookup
      have hbi := F.called_set.init.bind (.ref s.heap.objs.size)
      repeat (any_goals (first | assumption | wp_step))
      refine codeAny_mono (codeAny_call_builtin (R := wants (fun r s₂ => r = .none ∧ ∃ h' tk c, s₂ = { s with heap := h', toks := tk } ∧ SetR w h' s.heap.objs.size (fun j => decide (j ∈ ns)) c ∧ c ≤ ns.length ∧
          (∀ b o, s.heap.get? b = some o → h'.get? b = some o)) E) F.called_set.init.plain F.entry_set_init (check_set_init_1 tyS ?body)) fun r₂ s₂ hr₂ => ?rest
      case rest =>
        cases r₂ with
        | error e => exact hr₂
        | ok fl₂ =>
          cases fl₂ with
          | ret r =>
            obtain ⟨rfl, h', tk, c', rfl, hS', hc', hk'⟩ := hr₂
            repeat (any_goals (first | assumption | wp_step))
            exact h _ _ _ hS' hc' hk'
          | _ => exact hr₂.elim
      case body =>
        obtain ⟨ol, hol, hcl, nl, hdl⟩ := hl
        obtain ⟨ocls, odict, odata, oslots⟩ := ol
        simp only at hcl hdl
        subst hcl; subst hdl
        have hol' : (s.heap.push (emptyS w)).get? l = some { cls := .type "list", dict := odict, data := .seq items nl, slots := oslots } := Heap.get?_push_of_some _ hol
        have hsls := F.sub_list_set
        have hslf := F.sub_list_frozenset
        have hne : (Value.type "list" == Value.type "dict") = false := by decide
        unfold Builtin.«set.__init__» noKeywords Builtin.Frozenset.updateFrom
        generalize hPI : pyIter = PI
        wp_walk
        subst hPI
        refine wpAny_pyIter_list hl1 ?_
        refine wpAny_bind (wpAny_runValue ?_)
        have hd3 : A.in1.in1.in1.handled = none := by simp [hh]
        have hlI : l ≠ (s.heap.push (emptyS w)).objs.size := by rw [z1]; exact Nat.ne_of_lt (Nat.lt_succ_of_lt hlS)
        have hSn : s.heap.objs.size ∉ [(s.heap.push (emptyS w)).objs.size, l] := by
          rw [z1]
          simp only [List.mem_cons, List.not_mem_nil, or_false, not_or]
          exact ⟨Nat.ne_of_lt (Nat.lt_succ_self _), Nat.ne_of_gt hlS⟩
        have vals : ∀ (i : Nat) (v : Value), items[i]? = some v → ∃ k t, ns[i]? = some k ∧ v = .int k t := fun i v hv => by
          have hi : i < ns.length := by rw [← many]; exact (Array.getElem?_eq_some_iff.mp hv).1
          obtain ⟨t, e⟩ := PyProof.Rows.IntsAre.int_at hit i v (by rw [Array.getElem?_toList]; exact hv)
          rw [List.getD_eq_getElem?_getD, List.getElem?_eq_getElem hi] at e
          exact ⟨ns[i], t, List.getElem?_eq_getElem hi, e⟩
        refine set_update_ints ((Walks.list hd3 _ l hlI items).toS) s.heap.objs.size hSn ns many hb vals (items.size - 0) 0 _ (by omega) (Nat.zero_le _)
          ⟨⟨_, Heap.get?_push_size _ rfl, rfl, rfl⟩, hl1.push _⟩ ⟨0, Nat.le_refl 0, setR_empty (Heap.get?_push_of_some _ atS)⟩ fun s' c' hm hc' hS' => ?_
        obtain ⟨h', g2, d', tk', os'⟩ := s'
        obtain rfl : g2 = s.gens := hm.gens
        obtain rfl : d' = s.drawn := hm.drawn
        obtain rfl : os' = s.os := hm.os
        show wpAny _ _ _ _ _ _
        refine wpAny_pure ?_
        show wpAny _ _ (ret Value.none) _ _ _
        rw [many] at hc'
        refine wpAny_pure ⟨rfl, h', tk', c', rfl, hS', hc', fun b o e => ?_⟩
        have hb0 : b < s.heap.objs.size := Heap.lt_size e
        refine hm.heap b o ?_ (Heap.get?_push_of_some _ (Heap.get?_push_of_some _ e))
        rw [z1]
        simp only [List.mem_cons, List.not_mem_nil, or_false, not_or]
        exact ⟨Nat.ne_of_lt hb0, Nat.ne_of_lt (Nat.lt_succ_of_lt hb0)⟩
    | _ => exact hr.elim
end
end L2
set_option Elab.async false
set_option linter.all false
set_option maxRecDepth 100000
set_option maxHeartbeats 4000000
/-! Fl: sorted, sets of numbers. -/
namespace L2
open PySem PySem.Spec PyProof.Rows
section
variable {X : Cx}
/-- sorted(set(xs)) -/
def tSortSet (K : PySem.W.Frag) (ta : TE) : TE := fun σ H Q => ta σ H fun x H1 => ∃ (l : Addr) (ns : List Int), x = V.ref l ∧ SqL K H1 l (ns.map V.int) ∧ ns.length < 64 ∧
  ∀ (out : List Int) (p : Addr), out.Pairwise (· < ·) → (∀ k : Int, k ∈ out ↔ k ∈ ns) → H1 p = none → Q (.ref p) (upd H1 p (.lst (out.map V.int)))
theorem pe_sortSet {a : Expr} {ta : TE} {p p2 q pos : Pos} (hc : X.calm = true) (hg : Gl X "sorted") (hm : X.mg "sorted" = none) (hg2 : Gl X "set") (hm2 : X.mg "set" = none) (ha : PE X a ta)
    (na : starEach [a] X.env = (false, eval a X.env) :: starEach [] X.env := by rfl) : PE X (.Call (.Name "sorted" p) [.Call (.Name "set" p2) [a] [] q] [] pos) (tSortSet X.K ta) := by
  refine ⟨fun pins s σ H Q I h => ?_⟩
  refine Call_ (ld_blt I hg hm PyProof.Rows.boot_sorted ?_)
  refine PyProof.Rows.callWith_builtin1 (PyProof.Rows.args_cons ?_ rfl) rfl rfl
  refine Call_ (ld_blt I hg2 hm2 PyProof.Rows.boot_set ?_)
  refine PyProof.Rows.callWith_type1 (PyProof.Rows.args_cons (thn (ha.run pins s σ H _ I h) fun v s1 ⟨x, H1, I1, r1, q1⟩ => PyProof.Rows.args_nil ?_) na) na rfl
  obtain ⟨l, ns, rfl, hq, h64, q1⟩ := q1
  cases r1
  obtain ⟨its, r, pl, hz⟩ := I1.list hq
  refine call_set_listR ns (I1.ok.hd hc) pl.isList (by simpa using r.ints) (by unfold scanBound; omega) fun h' tk c R1 hcn hk => ?_
  refine PyProof.Rows.args_nil ?_
  have I2 : Inv X pins σ H1 { s1 with heap := h', toks := tk } := I1.kept fun b o e => hk b o e
  have R2 : SetR X.w ({ s1 with heap := h', toks := tk } : Shared).heap s1.heap.objs.size (fun j => decide (j ∈ ns)) c := R1
  generalize ({ s1 with heap := h', toks := tk } : Shared) = s2 at I2 R2 ⊢
  refine sorted_set R2 (I2.ok.hd hc) (by omega) fun s' p out c2 ms k g o hp hgt hi hs hm3 hl => ?_
  have hlen : (ms.map V.int).length ≤ sizeLine := by rw [List.length_map, hl, sizeLine_eq]; omega
  have hn : H1 p = none := I2.hok.fresh hp
  have J : Inv X pins σ (upd H1 p (.lst (ms.map V.int))) { s2 with heap := s'.heap, gens := s'.gens, drawn := s'.drawn, toks := s'.toks } :=
    I2.call (ch := []) (Un.laid k hp hn) (I2.hok.laid k hp ⟨hlen, out.toList, c2, vals_of_ints hi, hgt⟩) (by rw [g]; exact I2.bare) (fun _ z => nomatch z)
  have e : s' = { s2 with heap := s'.heap, gens := s'.gens, drawn := s'.drawn, toks := s'.toks } := by
    cases s'
    cases s2
    cases o
    rfl
  rw [e]
  exact ⟨.ref p, _, J, rfl, q1 ms p hs (fun k => by rw [hm3 k, decide_eq_true_eq]) hn⟩
/-- len(set(xs)) -/
def tLenSetR (K : PySem.W.Frag) (ta : TE) : TE := fun σ H Q => ta σ H fun x H1 => ∃ (l : Addr) (ns : List Int), x = V.ref l ∧ SqL K H1 l (ns.map V.int) ∧ ns.length < 1000 ∧
  ∀ out : List Int, out.Nodup → (∀ k : Int, k ∈ out ↔ k ∈ ns) → Q (.int out.length) H1
theorem pe_lenSetR {a : Expr} {ta : TE} {p p2 q pos : Pos} (hc : X.calm = true) (hg : Gl X "len") (hm : X.mg "len" = none) (hg2 : Gl X "set") (hm2 : X.mg "set" = none) (ha : PE X a ta)
    (na : starEach [a] X.env = (false, eval a X.env) :: starEach [] X.env := by rfl) : PE X (.Call (.Name "len" p) [.Call (.Name "set" p2) [a] [] q] [] pos) (tLenSetR X.K ta) := by
  refine ⟨fun pins s σ H Q I h => ?_⟩
  refine Call_ (ld_blt I hg hm PySem.boot_len ?_)
  refine PyProof.Rows.callWith_builtin1 (PyProof.Rows.args_cons ?_ rfl) rfl rfl
  refine Call_ (ld_blt I hg2 hm2 PyProof.Rows.boot_set ?_)
  refine PyProof.Rows.callWith_type1 (PyProof.Rows.args_cons (thn (ha.run pins s σ H _ I h) fun v s1 ⟨x, H1, I1, r1, q1⟩ => PyProof.Rows.args_nil ?_) na) na rfl
  obtain ⟨l, ns, rfl, hq, h64, q1⟩ := q1
  cases r1
  obtain ⟨its, r, pl, hz⟩ := I1.list hq
  refine call_set_listR ns (I1.ok.hd hc) pl.isList (by simpa using r.ints) (by unfold scanBound; omega) fun h' tk c R1 hcn hk => ?_
  refine PyProof.Rows.args_nil ?_
  have I2 : Inv X pins σ H1 { s1 with heap := h', toks := tk } := I1.kept fun b o e => hk b o e
  obtain ⟨o, es, ep, t, ho, hex, hd, g, nd, hmem, hb, hf, hn, hr, hl⟩ := R1
  have hlen : (es.toList.map keyOf).length = es.size := by rw [List.length_map, Array.length_toList]
  refine call_len_set ho hex hd hf (by rw [hn]; omega) ⟨.int es.size, H1, I2.tok _, ⟨_, rfl⟩, ?_⟩
  have := q1 (es.toList.map keyOf) nd fun k => by rw [← hmem k, decide_eq_true_eq]
  rw [hlen] at this
  exact this
end
end L2
set_option Elab.async false
set_option linter.all false
set_option maxRecDepth 100000
set_option maxHeartbeats 4000000
/-! Fl: sorted, sets, dict.get, dict.pop. -/
namespace Fl
noncomputable section
def sortIV (cell : Bool) (v : Val) : M Val := (itemsL v) >>= fun vs s => match intsOf vs with
  | some ns => newL cell ((sortI ns).map vI) s
  | none => .bad
def sortSetV (cell : Bool) (v : Val) : M Val := (itemsL v) >>= fun vs s => match intsOf vs with
  | some ns => if ns.length < 64 then newL cell ((sortI (dedup ns)).map vI) s else .bad
  | none => .bad
def lenSetV (v : Val) : M Val := (itemsL v) >>= fun vs s => match intsOf vs with
  | some ns => if ns.length < 1000 then .ok (vI (dedup ns).length) s else .bad
  | none => .bad
def keyInts {α : Type} : List (Key × α) → Option (List Int)
  | [] => some []
  | (.i n, _) :: r => match keyInts r with
    | some q => some (n :: q)
    | none => none
  | (.s _, _) :: _ => none
/-- sorted of a dict's keys -/
def sortDV (cell : Bool) (v : Val) : M Val := fun s => match v with
  | .t (.dct kvs) => match keyInts kvs with
    | some ns => if ns.length < 64 then newL cell ((sortI ns).map vI) s else .bad
    | none => .bad
  | .loc n => match s.cell n with
    | some (.dct kvs) => match keyInts kvs with
      | some ns => if ns.length < 64 then newL cell ((sortI ns).map vI) s else .bad
      | none => .bad
    | _ => .bad
  | _ => .bad
/-- sorted of a list or of a dict's keys -/
def sort1V (cell : Bool) (v : Val) : M Val := fun s => match v with
  | .t (.dct kvs) => sortDV cell v s
  | .t (.lst _) => sortIV cell v s
  | .loc n => match s.cell n with
    | some (.dct _) => sortDV cell v s
    | some (.lst _) => sortIV cell v s
    | _ => .bad
  | _ => .bad
/-- d.get(k, x) -/
def getV (d i x : Val) : M Val := fun s => match d with
  | .t (.dct kvs) => match keyOf i with
    | some k => .ok (match dget kvs k with
      | some t => .t t
      | none => x) s
    | none => .bad
  | .loc n => match s.cell n with
    | some (.dct kvs) => match keyOf i with
      | some k => .ok (match dget kvs k with
        | some t => t
        | none => x) s
      | none => .bad
    | _ => .bad
  | _ => .bad
def e3d (k3 : Val → Val → Val → M Val) (f g h : CE) : CE := fun ρ => f ρ >>= fun d => dctC d >>= fun _ => g ρ >>= fun i => h ρ >>= fun x => k3 d i x
def e2d (k2 : Val → Val → M Val) (f g : CE) : CE := fun ρ => f ρ >>= fun d => dctC d >>= fun _ => g ρ >>= fun i => k2 d i
end
theorem sortI_cons (x : Int) (r : List Int) : sortI (x :: r) = insI x (sortI r) := rfl
theorem insI_perm (x : Int) : ∀ r : List Int, (insI x r).Perm (x :: r)
  | [] => List.Perm.refl _
  | y :: r => by
    unfold insI
    split
    · exact List.Perm.refl _
    · exact ((insI_perm x r).cons y).trans (List.Perm.swap x y r)
theorem sortI_perm : ∀ r : List Int, (sortI r).Perm r
  | [] => List.Perm.refl _
  | x :: r => by rw [sortI_cons]; exact (insI_perm x _).trans ((sortI_perm r).cons x)
theorem insI_sorted (x : Int) : ∀ r : List Int, r.Pairwise (· ≤ ·) → (insI x r).Pairwise (· ≤ ·)
  | [], _ => by unfold insI; simp
  | y :: r, h => by
    unfold insI
    obtain ⟨h1, h2⟩ := List.pairwise_cons.mp h
    split
    · rename_i c
      refine List.pairwise_cons.mpr ⟨fun z hz => ?_, h⟩
      rcases List.mem_cons.mp hz with rfl | hz
      · exact c
      · exact Int.le_trans c (h1 z hz)
    · rename_i c
      refine List.pairwise_cons.mpr ⟨fun z hz => ?_, insI_sorted x r h2⟩
      rcases List.mem_cons.mp ((insI_perm x r).mem_iff.mp hz) with rfl | hz
      · omega
      · exact h1 z hz
theorem sortI_sorted : ∀ r : List Int, (sortI r).Pairwise (· ≤ ·)
  | [] => List.Pairwise.nil
  | x :: r => insI_sorted x _ (sortI_sorted r)
theorem sort_one {xs ys : List Int} (p : xs.Perm ys) (h1 : xs.Pairwise (· ≤ ·)) (h2 : ys.Pairwise (· ≤ ·)) : xs = ys := by
  exact List.Perm.eq_of_pairwise (fun a b _ _ h h' => Int.le_antisymm h h') h1 h2 p
theorem dedup_mem : ∀ {r : List Int} {k : Int}, k ∈ dedup r ↔ k ∈ r
  | [], k => Iff.rfl
  | x :: r, k => by
    unfold dedup
    split
    · rename_i h
      rw [dedup_mem, List.mem_cons]
      exact ⟨.inr, fun z => z.elim (fun e => e ▸ h) id⟩
    · rw [List.mem_cons, List.mem_cons, dedup_mem]
theorem dedup_nodup : ∀ r : List Int, (dedup r).Nodup
  | [] => List.Pairwise.nil
  | x :: r => by
    unfold dedup
    split
    · exact dedup_nodup r
    · rename_i h
      exact List.pairwise_cons.mpr ⟨fun y hy e => h (dedup_mem.mp (e ▸ hy)), dedup_nodup r⟩
theorem nodup_perm {xs ys : List Int} (h1 : xs.Nodup) (h2 : ys.Nodup) (h : ∀ k, k ∈ xs ↔ k ∈ ys) : xs.Perm ys :=
  (List.perm_ext_iff_of_nodup h1 h2).mpr h
theorem sort_dedup {out ns : List Int} (h : out.Pairwise (· < ·)) (hm : ∀ k, k ∈ out ↔ k ∈ ns) : out = sortI (dedup ns) := by
  have hn : out.Nodup := h.imp fun h e => by omega
  refine sort_one ((nodup_perm hn (dedup_nodup ns) fun k => by rw [hm k, dedup_mem]).trans (sortI_perm _).symm) (h.imp fun h => Int.le_of_lt h) (sortI_sorted _)
open PySem PySem.Spec L2
section
variable {tb : Tab} {G : FEnv} {CA : Tags} {XR : XRel} {k : Nat} {N : List Str} {sc : Scope} {own : Str → Bool} {X : Cx} {W : WX}
variable {a b c d e o : Expr} {es : List Expr} {pos pos' apos cpos p p2 p3 : Pos} {f g h : CE} {t u : CT}
theorem vIs_reps {K : PySem.W.Frag} {m : Mp} {st : Store} {H : Hp} : ∀ ns : List Int, RepVs K m st H (ns.map vI) (ns.map V.int)
  | [] => rfl
  | n :: r => ⟨_, _, rfl, rfl, vIs_reps r⟩
theorem se_sortSet (C : Cq tb G CA XR k N sc own X W) (cell : Bool) (h : bltB tb sc "sorted" = true) (h2 : bltB tb sc "set" = true) (ha : SE CA XR X W a f) (na : starEach [a] X.env = (false, eval a X.env) :: starEach [] X.env := by rfl) :
    SE CA XR X W (.Call (.Name "sorted" p) [.Call (.Name "set" p2) [a] [] pos] [] pos') (e1 (sortSetV cell) f) := by
  refine PE.weak (pe_sortSet C.calm (gl_of C.toCw (blt_gl h)) (blt_mg C.toCw h) (gl_of C.toCw (blt_gl h2)) (blt_mg C.toCw h2) ha na) fun σ H Q ⟨m, st, ρ, S, E, q⟩ => ⟨m, st, ρ, S, E, (PR.bind_of q).mono fun v m1 st1 H1 S1 T1 h1 w rw' => ?_⟩
  obtain ⟨ws, ad, us, rfl, h2, r1, z1, q2⟩ := itemsL_ok S1 rw' h1
  cases e : Fl.intsOf ws with
  | none => rw [e] at q2; exact q2.elim
  | some ns =>
    rw [e] at q2
    have := RepVs.toInts (ns := ns) e r1
    subst this
    dsimp only at q2
    split at q2
    · rename_i hl
      refine ⟨ad, ns, rfl, .of h2, hl, fun out pp ho hm hp => ?_⟩
      rw [sort_dedup ho hm]
      refine newL_ok S1 (vIs_reps _) ?_ q2 pp hp
      rw [List.length_map, (sortI_perm _).length_eq]
      have : ∀ r : List Int, (dedup r).length ≤ r.length := fun r => by
        induction r with
        | nil => exact Nat.le_refl _
        | cons x r ih => unfold dedup; split <;> simp <;> omega
      have := this ns
      show _ ≤ 16777216
      omega
    · exact q2.elim
theorem se_lenSet (C : Cq tb G CA XR k N sc own X W) (h : bltB tb sc "len" = true) (h2 : bltB tb sc "set" = true) (ha : SE CA XR X W a f) (na : starEach [a] X.env = (false, eval a X.env) :: starEach [] X.env := by rfl) :
    SE CA XR X W (.Call (.Name "len" p) [.Call (.Name "set" p2) [a] [] pos] [] pos') (e1 lenSetV f) := by
  refine PE.weak (pe_lenSetR C.calm (gl_of C.toCw (blt_gl h)) (blt_mg C.toCw h) (gl_of C.toCw (blt_gl h2)) (blt_mg C.toCw h2) ha na) fun σ H Q ⟨m, st, ρ, S, E, q⟩ => ⟨m, st, ρ, S, E, (PR.bind_of q).mono fun v m1 st1 H1 S1 T1 h1 w rw' => ?_⟩
  obtain ⟨ws, ad, us, rfl, h2, r1, z1, q2⟩ := itemsL_ok S1 rw' h1
  cases e : Fl.intsOf ws with
  | none => rw [e] at q2; exact q2.elim
  | some ns =>
    rw [e] at q2
    have := RepVs.toInts (ns := ns) e r1
    subst this
    dsimp only at q2
    split at q2
    · rename_i hl
      refine ⟨ad, ns, rfl, .of h2, hl, fun out ho hm => ?_⟩
      have := (nodup_perm ho (dedup_nodup ns) fun k => by rw [hm k, dedup_mem]).length_eq
      rw [this]
      exact PR.here S1 q2 _ rfl
    · exact q2.elim
theorem RepK.keyInts {K : PySem.W.Frag} {H : Hp} {lv : Addr → Prop} : ∀ {kts : List (Key × T)} {us : List (L2.Key × V)} {ns : List Int}, keyInts kts = some ns → RepK K H lv kts us → us.map (·.1) = ns.map Sum.inl
  | [], us, ns, h, r => by rw [show us = [] from r]; simp only [Fl.keyInts, Option.some.injEq] at h; subst h; rfl
  | (.i n, d) :: q, us, ns, h, r => by
    obtain ⟨p, ur, rfl, r1, r2⟩ := r
    simp only [Fl.keyInts] at h
    cases e : Fl.keyInts q with
    | none => rw [e] at h; cases h
    | some ms =>
      rw [e] at h
      injection h with h
      subst h
      rw [List.map_cons, List.map_cons, RepK.keyInts e r2, r1.1]; rfl
  | (.s x, d) :: q, us, ns, h, r => by simp [Fl.keyInts] at h
theorem RepVK.keyInts {K : PySem.W.Frag} {m : Mp} {st : Store} {H : Hp} : ∀ {kts : List (Key × Val)} {us : List (L2.Key × V)} {ns : List Int}, keyInts kts = some ns → RepVK K m st H kts us → us.map (·.1) = ns.map Sum.inl
  | [], us, ns, h, r => by rw [show us = [] from r]; simp only [Fl.keyInts, Option.some.injEq] at h; subst h; rfl
  | (.i n, d) :: q, us, ns, h, r => by
    obtain ⟨p, ur, rfl, r1, r2⟩ := r
    simp only [Fl.keyInts] at h
    cases e : Fl.keyInts q with
    | none => rw [e] at h; cases h
    | some ms =>
      rw [e] at h
      injection h with h
      subst h
      rw [List.map_cons, List.map_cons, RepVK.keyInts e r2, r1.1]; rfl
  | (.s x, d) :: q, us, ns, h, r => by simp [Fl.keyInts] at h
theorem sort_new {cell : Bool} {σ : L2.St} {m : Mp} {st : Store} {H : Hp} {Q : V → Hp → Prop} {ns ys : List Int} (S : SR X.K CA m st H) (hp : ys.Perm ns) (hs : ys.Pairwise (· ≤ ·)) (z : ns.length ≤ L) (q : PR X.K CA XR W σ (newL cell ((sortI ns).map vI) st) m st H fun a m' st' H' => ∀ v, RepV X.K m' st' H' a v → Q v H') :
    ∀ p, H p = none → Q (.ref p) (upd H p (.lst (ys.map V.int))) := by
  rw [sort_one (hp.trans (sortI_perm ns).symm) hs (sortI_sorted ns)]
  exact newL_ok S (vIs_reps _) (by rw [List.length_map, (sortI_perm _).length_eq]; exact z) q
theorem sortI_list {cell : Bool} {σ : L2.St} {m : Mp} {st : Store} {H : Hp} {x : Val} {v : V} {Q : V → Hp → Prop} (S : SR X.K CA m st H) (r : RepV X.K m st H x v) (q : PR X.K CA XR W σ (sortIV cell x st) m st H fun a m' st' H' => ∀ u, RepV X.K m' st' H' a u → Q u H') : rSortedI X.K [v] H Q := by
  obtain ⟨ws, ad, us, rfl, h2, r1, z1, q2⟩ := itemsL_ok S r q
  cases e : Fl.intsOf ws with
  | none => rw [e] at q2; exact q2.elim
  | some ns =>
    rw [e] at q2
    have hz : ns.length ≤ L := by
      have := r1.length
      have e2 := RepVs.toInts (ns := ns) e r1
      rw [e2, List.length_map] at this
      omega
    have := RepVs.toInts (ns := ns) e r1
    subst this
    exact ⟨ad, ns, rfl, .of h2, fun ys p hp hs hn => sort_new S hp hs hz q2 p hn⟩
theorem se_sorted (C : Cq tb G CA XR k N sc own X W) (cell : Bool) (h : bltB tb sc "sorted" = true) (ha : SE CA XR X W a f) (hs : starEach [a] X.env = (false, eval a X.env) :: starEach [] X.env := by rfl) : SE CA XR X W (.Call (.Name "sorted" p) [a] [] pos) (e1 (sort1V cell) f) := by
  refine call1 C.toCw h (cr_sortedI.or (call_sortedDI C.calm)) PyProof.Rows.boot_sorted (fun σ x m st H v Q S r q => ?_) ha hs
  unfold sort1V at q
  split at q
  · obtain ⟨ad, us, rfl, h1, z, rs⟩ := r
    unfold sortDV at q
    dsimp only at q
    split at q
    · rename_i ns e
      split at q
      · rename_i hl
        exact .inr ⟨ad, us, ns, rfl, h1.1, RepK.keyInts e rs, hl, fun ys pp hp hs2 hn => sort_new S hp hs2 (by show _ ≤ 16777216; omega) q pp hn⟩
      · exact q.elim
    · exact q.elim
  · exact .inl (sortI_list S r q)
  · rename_i n
    split at q
    · rename_i kvs e
      unfold sortDV at q
      dsimp only at q
      rw [e] at q
      obtain ⟨_, rfl⟩ := r
      obtain ⟨us, hh, z, rs⟩ := S.cells n _ e
      dsimp only at q
      split at q
      · rename_i ns e2
        split at q
        · rename_i hl
          exact .inr ⟨_, us, ns, rfl, .of hh, RepVK.keyInts e2 rs, hl, fun ys pp hp hs2 hn => sort_new S hp hs2 (by show _ ≤ 16777216; omega) q pp hn⟩
        · exact q.elim
      · exact q.elim
    · exact .inl (sortI_list S r q)
    · exact q.elim
  · exact q.elim
end
end Fl
set_option Elab.async false
set_option linter.all false
set_option maxRecDepth 100000
set_option maxHeartbeats 4000000
/-! Fl: dict.get, dict.pop. -/
namespace Fl
open PySem PySem.Spec L2
section
variable {tb : Tab} {G : FEnv} {CA : Tags} {XR : XRel} {k : Nat} {N : List Str} {sc : Scope} {own : Str → Bool} {X : Cx} {W : WX}
variable {a b c d e o : Expr} {es : List Expr} {pos pos' apos cpos p p2 p3 : Pos} {f g h : CE} {t u : CT}
theorem dctC_isD {σ : L2.St} {m m' : Mp} {st st' : Store} {H H' : Hp} {α : Type} {x : Val} {v : V} {k : Unit → M α} {ok : α → Mp → Store → Hp → Prop} (S : SR X.K CA m st H) (r : RepV X.K m st H x v) (q : PR X.K CA XR W σ ((dctC x st).bind k) m st H ok) :
    (∃ a, v = .ref a ∧ IsD H a) ∧ PR X.K CA XR W σ (k () st) m st H ok := by
  obtain ⟨⟨a, us, e, h⟩, q⟩ := dctC_ok S r q
  exact ⟨⟨a, e, .inl ⟨us, h⟩⟩, q⟩
theorem se_get (C : Cq tb G CA XR k N sc own X W) (hd : SE CA XR X W d f) (ha : SE CA XR X W a g) (hb : SE CA XR X W b h) (hbase : attributeBase d "get" X.env (eval d X.env) = eval d X.env := by rfl)
    (hs : starEach [a, b] X.env = (false, eval a X.env) :: starEach [b] X.env := by rfl) (hs2 : starEach [b] X.env = (false, eval b X.env) :: starEach [] X.env := by rfl) (hline : (apos.endLine == cpos.line) = true := by rfl) :
    SE CA XR X W (.Call (.Attribute d "get" apos) [a, b] [] cpos) (e3d getV f g h) := by
  have M : M2 X d "get" apos a b cpos := ⟨hbase, by rw [hs, hs2]; rfl, hline, by rw [hs, hs2]; rfl⟩
  refine PE.weak (pe_dget2 C.u1 hd ha hb M) fun σ H Q ⟨m, st, ρ, S, E, q⟩ => ?_
  refine ⟨m, st, ρ, S, E, (PR.bind_of q).mono fun x m1 st1 H1 S1 T1 h1 v rv => ?_⟩
  obtain ⟨⟨ad, e1, hD⟩, h2⟩ := dctC_isD (st' := st) (m' := m) (H' := H) S1 rv h1
  subst e1
  refine ⟨ad, rfl, hD, m1, st1, ρ, S1, E.mono T1, (PR.bind_of h2).mono fun y m2 st2 H2 S2 T2 h3 w rw' => ?_⟩
  refine ⟨m2, st2, ρ, S2, (E.mono T1).mono T2, (PR.bind_of h3).mono fun z m3 st3 H3 S3 T3 h4 u ru => ?_⟩
  have rv3 := RepV.mono T3 _ _ (RepV.mono T2 _ _ rv)
  have rw3 := RepV.mono T3 _ _ rw'
  unfold getV at h4
  split at h4
  · obtain ⟨ad', us, e1, hh, zz, rs⟩ := rv3
    cases e1
    split at h4
    · rename_i kk ek
      have := RepK.val kk rs
      have ev := keyOf_rep rw3 ek
      cases ed : dget _ kk with
      | none =>
        rw [ed] at this h4
        exact ⟨none, .inl ⟨us, kL kk, hh.1, ev, Eq.symm this⟩, PR.here S3 h4 _ ru⟩
      | some t =>
        rw [ed] at this h4
        obtain ⟨v', e2, r2⟩ := this
        exact ⟨some v', .inl ⟨us, kL kk, hh.1, ev, e2.symm⟩, PR.here S3 h4 _ r2⟩
    · exact h4.elim
  · rename_i n
    obtain ⟨_, e1⟩ := rv3
    cases e1
    split at h4
    · rename_i kvs e
      obtain ⟨us, hh, zz, rs⟩ := S3.cells n _ e
      split at h4
      · rename_i kk ek
        have := RepVK.val kk rs
        have ev := keyOf_rep rw3 ek
        cases ed : dget kvs kk with
        | none =>
          rw [ed] at this h4
          exact ⟨none, .inl ⟨us, kL kk, .of hh, ev, Eq.symm this⟩, PR.here S3 h4 _ ru⟩
        | some t =>
          rw [ed] at this h4
          obtain ⟨v', e2, r2⟩ := this
          exact ⟨some v', .inl ⟨us, kL kk, .of hh, ev, e2.symm⟩, PR.here S3 h4 _ r2⟩
      · exact h4.elim
    · exact h4.elim
  · exact h4.elim
theorem RepVK.drop {K : PySem.W.Frag} {m : Mp} {st : Store} {H : Hp} {kk : Key} : ∀ {kvs : List (Key × Val)} {us : List (L2.Key × V)}, RepVK K m st H kvs us → RepVK K m st H (dpop kvs kk) (dropK us (kL kk))
  | [], us, h => by rw [show us = [] from h]; rfl
  | (l, x) :: r, _, ⟨v, q, rfl, h1, h2⟩ => by
    have ih := RepVK.drop (kk := kk) h2
    unfold dpop dropK at *
    by_cases e : l = kk
    · have e2 : v.1 = kL kk := by rw [← e]; exact h1.1
      simp only [List.filter_cons, e, e2, ne_eq, not_true, decide_false, Bool.false_eq_true, if_false]
      exact ih
    · have e2 : ¬ v.1 = kL kk := fun z => e (kL_inj (h1.1.symm.trans z))
      simp only [List.filter_cons, e, e2, ne_eq, not_false_eq_true, decide_true, if_true]
      exact ⟨v, _, rfl, h1, ih⟩
theorem se_dpop (hd : SE CA XR X W d f) (ha : SE CA XR X W a g) (hbase : attributeBase d "pop" X.env (eval d X.env) = eval d X.env := by rfl)
    (hs : starEach [a] X.env = (false, eval a X.env) :: starEach [] X.env := by rfl) (hline : (apos.endLine == cpos.line) = true := by rfl) :
    SE CA XR X W (.Call (.Attribute d "pop" apos) [a] [] cpos) (e2d popD f g) := by
  have M : M1 X d "pop" apos a cpos := ⟨hbase, by rw [hs]; rfl, hline, by rw [hs]; rfl⟩
  refine PE.weak (pe_dpop1 hd ha M) fun σ H Q ⟨m, st, ρ, S, E, q⟩ => ?_
  refine ⟨m, st, ρ, S, E, (PR.bind_of q).mono fun x m1 st1 H1 S1 T1 h1 v rv => ?_⟩
  obtain ⟨⟨ad, e1, hD⟩, h2⟩ := dctC_isD (st' := st) (m' := m) (H' := H) S1 rv h1
  subst e1
  refine ⟨ad, rfl, hD, m1, st1, ρ, S1, E.mono T1, (PR.bind_of h2).mono fun y m2 st2 H2 S2 T2 h3 w rw' => ?_⟩
  have rv3 := RepV.mono T2 _ _ rv
  unfold popD at h3
  split at h3
  · rename_i n
    obtain ⟨_, e1⟩ := rv3
    cases e1
    cases e : st2.cell n with
    | none => rw [e] at h3; exact h3.elim
    | some cc =>
      rw [e] at h3
      cases cc with
      | dct kvs =>
        dsimp only at h3
        obtain ⟨us, hh, zz, rs⟩ := S2.cells n _ e
        cases ek : keyOf y with
        | none => rw [ek] at h3; exact h3.elim
        | some kk =>
          rw [ek] at h3
          dsimp only at h3
          have := RepVK.val kk rs
          have ev := keyOf_rep rw' ek
          cases ed : dget kvs kk with
          | none => rw [ed] at h3; exact h3.elim
          | some t =>
            rw [ed] at h3 this
            obtain ⟨v', e2, r2⟩ := this
            have T := S2.setStep (o := .dK (dropK us (kL kk))) (c' := .dct (dpop kvs kk)) e
            have hz : (dpop kvs kk).length ≤ L := Nat.le_trans (List.length_filter_le _ _) zz
            exact ⟨us, kL kk, v', hh, ev, e2, h3 m2 _ (S2.setCell e ⟨dropK us (kL kk), upd_same, hz, RepVK.mono T _ _ (RepVK.drop rs)⟩) T v' (RepV.mono T _ _ r2)⟩
      | _ => exact h3.elim
  · exact h3.elim
end
end Fl
set_option Elab.async false
set_option linter.all false
set_option maxRecDepth 100000
set_option maxHeartbeats 4000000
/-! Fl: x is not True. -/
namespace Fl
open PySem PySem.Spec L2
section
variable {tb : Tab} {G : FEnv} {CA : Tags} {XR : XRel} {k : Nat} {N : List Str} {sc : Scope} {own : Str → Bool} {X : Cx} {W : WX}
variable {a b c d e o : Expr} {pos p2 : Pos} {f g h : CE}
theorem notB_read {σ : L2.St} {H : Hp} {Q : Bool → Hp → Prop} {bb : Bool} (h : tMT X.K CA XR W (tNotB bb f) σ H Q) : tOp rNotB (tM X.K CA XR W f) (tC (.bl bb)) σ H fun z H' => ∃ b, z = .bl b ∧ Q b H' := by
  obtain ⟨m, st, ρ, S, E, q⟩ := h
  refine ⟨m, st, ρ, S, E, (PR.bind_of q).mono fun x m1 st1 H1 S1 T1 h1 v rv => ?_⟩
  have h1 : PR X.K CA XR W σ ((isB bb x st1).bind fun b => pure !b) m1 st1 H1 fun b m' st' H' => Q b H' := h1
  unfold isB at h1
  split at h1
  · rename_i cc hold
    cases rv
    show ∃ a b : Bool, V.bl cc = V.bl a ∧ V.bl bb = V.bl b ∧ ∃ b_1, V.bl (!decide (a = b)) = V.bl b_1 ∧ Q b_1 H1
    refine ⟨_, _, rfl, rfl, _, rfl, ?_⟩
    have h1 : PR X.K CA XR W σ (.ok (!(cc == bb)) st1) m1 st1 H1 fun b m' st' H' => Q b H' := h1
    have := PR.here S1 h1
    rw [show decide (cc = bb) = (cc == bb) by cases cc <;> cases bb <;> rfl]
    exact this
  · exact h1.elim
theorem st_isNB {bb : Bool} {j : Nat} (ha : SE CA XR X W a f) : STt CA XR X W (.Compare a [.IsNot] [.Constant (.bool bb) j p2] pos) (tNotB bb f) := PT.weak (pt_cmpR op_notBl ha pe_bl (nomark _)) fun σ H Q q => notB_read q
theorem se_isNB {bb : Bool} {j : Nat} (ha : SE CA XR X W a f) : SE CA XR X W (.Compare a [.IsNot] [.Constant (.bool bb) j p2] pos) (eB (tNotB bb f)) := PE.weak (pe_cmpR op_notBl ha pe_bl (nomark _)) fun σ H Q q => by
  have z := notB_read (tMT_eB q)
  obtain ⟨m, st, ρ, S, E, q1⟩ := z
  exact ⟨m, st, ρ, S, E, q1.mono fun x m1 st1 H1 S1 T1 h1 v rv => by
    obtain ⟨a, b, e1, e2, c, e3, q2⟩ := h1 v rv
    exact ⟨a, b, e1, e2, by rw [e3]; exact q2⟩⟩
end
end Fl
set_option Elab.async false
set_option linter.all false
set_option maxRecDepth 100000
set_option maxHeartbeats 4000000
/-! Fl: range(a, -1, -1). -/
namespace Fl
open PySem PySem.Spec L2
def downto (hi : Int) : List Val := (List.range (hi + 1).toNat).map fun k => vI (hi - (k : Nat))
noncomputable def iDownC (a b c : CE) : CI := fun ρ => a ρ >>= fun x => b ρ >>= fun y => c ρ >>= fun z => getInt x >>= fun hi => getInt y >>= fun lo => getInt z >>= fun st => if rangeOk hi && (lo == -1 && st == -1) then pure (downto hi) else bad
section
variable {tb : Tab} {G : FEnv} {CA : Tags} {XR : XRel} {k : Nat} {N : List Str} {sc : Scope} {own : Str → Bool} {X : Cx} {W : WX}
variable {a b c d e tg : Expr} {es : List Expr} {pos pos' apos cpos p p2 p3 : Pos} {f g h : CE} {t u : CT}
theorem wkdn {K : PySem.W.Frag} {m : Mp} {st : Store} {H : Hp} {hi : Int} : Wk K CA (Itc hi (-1) (hi + 1).toNat) (downto hi) m st H where
  go := fun i w e m' st' H' S T => by
    unfold downto at e
    rw [List.getElem?_map] at e
    by_cases h : i < (hi + 1).toNat
    · rw [List.getElem?_range h] at e
      cases e
      refine ⟨h, fun x H2 y => ?_⟩
      obtain ⟨rfl, rfl⟩ := y
      refine ⟨S, Step.refl, ?_⟩
      show V.int _ = V.int _
      congr 1; omega
    · rw [List.getElem?_eq_none (by rw [List.length_range]; omega)] at e; cases e
  stop := fun i m' st' H' hi S T => by
    unfold downto at hi
    rw [List.length_map, List.length_range] at hi; exact hi
theorem si_down (C : Cw tb G CA XR k N sc own X W) (hg : bltB tb sc "range" = true) (ha : SE CA XR X W a f) (hb : SE CA XR X W b g) (hc : SE CA XR X W c h) (hs : starEach [a, b, c] X.env = (false, eval a X.env) :: starEach [b, c] X.env := by rfl)
    (hs2 : starEach [b, c] X.env = (false, eval b X.env) :: starEach [c] X.env := by rfl) (hs3 : starEach [c] X.env = (false, eval c X.env) :: starEach [] X.env := by rfl) :
    SI CA XR X W tg (.Call (.Name "range" p) [a, b, c] [] pos) (iDownC f g h) := by
  refine PI.weak (pi_range3 (gl_of C (blt_gl hg)) (blt_mg C hg) (pa_cons ha (pa_cons hb (pa_cons hc pa_nil hs3) hs2) hs) hs (by rw [hs2, hs3]; rfl)) fun σ H R ⟨m, st, ρ, S, E, q⟩ => ?_
  refine ⟨m, st, ρ, S, E, (PR.bind_of q).mono fun x m1 st1 H1 S1 T1 h1 v rv => ⟨m1, st1, ρ, S1, E.mono T1, (PR.bind_of h1).mono fun y m2 st2 H2 S2 T2 h2 w rw' => ?_⟩⟩
  refine ⟨m2, st2, ρ, S2, (E.mono T1).mono T2, (PR.bind_of h2).mono fun z m3 st3 H3 S3 T3 h3 u ru => ?_⟩
  obtain ⟨i, rfl, rfl, h4⟩ := getInt_ok (RepV.mono T3 _ _ (RepV.mono T2 _ _ rv)) h3
  obtain ⟨j, rfl, rfl, h5⟩ := getInt_ok (RepV.mono T3 _ _ rw') h4
  obtain ⟨s, rfl, rfl, h6⟩ := getInt_ok ru h5
  split at h6
  · rename_i hr
    rw [Bool.and_eq_true, Bool.and_eq_true, beq_iff_eq, beq_iff_eq] at hr
    obtain ⟨hr, rfl, rfl⟩ := hr
    obtain ⟨r1, r2⟩ := rangeOk_iff hr
    have hR := RgC.neg (i := i) (j := -1) r1 r2 (by decide) (by decide)
    rw [show i - -1 = i + 1 by omega] at hR
    exact ⟨i, -1, -1, _, rfl, hR, PR.here S3 h6 _ wkdn⟩
  · exact h6.elim
end
end Fl
set_option Elab.async false
set_option linter.all false
set_option maxRecDepth 100000
set_option maxHeartbeats 4000000
/-! Fl: a dict that is walked: locked from then on. -/
namespace Fl
open PySem PySem.Spec L2
/-- the keys of a dict -/
def keysD (v : Val) : M (List Val) := fun s => match v with
  | .t (.dct kvs) => .ok (kvs.map fun p => keyV p.1) s
  | _ => .bad
def iK (a : CE) : CI := fun ρ => a ρ >>= keysD
theorem SR.lock {K : PySem.W.Frag} {CA : Tags} {m : Mp} {st : Store} {H : Hp} {d : Addr} {us : List (L2.Key × V)} (S : SR K CA m st H) (hd : H d = some (.dK us)) (nl : ¬ live m st d) (od : Obj) :
    SR K CA m st (upd H d (.frz od (.dK us))) ∧ Step m st H m st (upd H d (.frz od (.dK us))) := by
  have T : Step m st H m st (upd H d (.frz od (.dK us))) := by
    refine ⟨fun a o h _ => ?_, fun _ h => .inl h, fun _ _ => rfl, Nat.le_refl _⟩
    by_cases e : a = d
    · subst e
      rw [hd] at h
      injection h with h
      exact .inr ⟨us, od, h.symm, by rw [← h]; exact upd_same⟩
    · exact .inl (by rw [upd_ne e]; exact h)
  refine ⟨⟨fun n c e => ?_, S.inj⟩, T⟩
  have ne : m n ≠ d := fun z => nl ⟨n, c, e, z⟩
  exact (S.cells n c e).mono T (upd_ne ne)
def iKeysL (td : TE) : TI := fun σ H R => td σ H fun x H1 => ∃ d kvs, x = .ref d ∧ ((∃ o, H1 d = some (.frz o (.dK kvs)) ∧ R (Itk d o kvs) H1) ∨ (H1 d = some (.dK kvs) ∧ ∀ od, R (Itk d od kvs) (upd H1 d (.frz od (.dK kvs)))))
section
variable {tb : Tab} {G : FEnv} {CA : Tags} {XR : XRel} {k : Nat} {N : List Str} {sc : Scope} {own : Str → Bool} {X : Cx} {W : WX}
variable {a b c d e tg : Expr} {es : List Expr} {pos pos' apos cpos p p2 p3 : Pos} {f g h : CE} {t u : CT}
theorem pi_keysL {td : TE} (he : PE X e td) : PI X tg e (iKeysL td) := by
  refine ⟨fun pins s σ H R I h => thn (he.run pins s σ H _ I h) ?_⟩
  rintro u s1 ⟨x, H1, I1, rx, dd, kvs, rfl, q⟩
  obtain rfl : u = Value.ref dd := rx
  have key : ∃ (o : Obj) (H2 : Hp), Inv X pins σ H2 s1 ∧ H2 dd = some (.frz o (.dK kvs)) ∧ R (Itk dd o kvs) H2 := by
    rcases q with ⟨o, h1, q⟩ | ⟨h1, q⟩
    · exact ⟨o, H1, I1, h1, q⟩
    · obtain ⟨od, I2⟩ := I1.lock h1 True.intro
      exact ⟨od, _, I2, upd_same, q od⟩
  obtain ⟨o, H2, I2, h2, q⟩ := key
  obtain ⟨z1, z2, z3, es, ep, vs, z4, z5, z6, z7⟩ := I2.frzK h2
  exact iter_keys z1 z2 z3 z4 (pi_one (tk := s1.toks) I2 _ (turn_keys _ z4) ⟨_, Heap.get?_push_size _ rfl, rfl, by rw [z5] <;> rfl⟩ q)
theorem kV_key {K : PySem.W.Frag} {m : Mp} {st : Store} {H : Hp} : ∀ k : Key, RepV K m st H (keyV k) (kV (kL k))
  | .i _ => rfl
  | .s _ => rfl
theorem RepK.at {K : PySem.W.Frag} {H : Hp} {lv : Addr → Prop} : ∀ {kts : List (Key × T)} {us : List (L2.Key × V)} {i : Nat} {p : Key × T}, RepK K H lv kts us → kts[i]? = some p → ∃ v, us[i]? = some (kL p.1, v)
  | [], _, _, _, _, e => by cases e
  | (kk, t) :: q, _, i, p, ⟨v, r, rfl, h1, h2⟩, e => by
    cases i with
    | zero =>
      cases e
      exact ⟨v.2, by rw [List.getElem?_cons_zero, show v = (v.1, v.2) from rfl, h1.1]⟩
    | succ i =>
      rw [List.getElem?_cons_succ] at e ⊢
      exact RepK.at (i := i) h2 e
theorem wkk {K : PySem.W.Frag} {m : Mp} {st : Store} {H : Hp} {dd : Addr} {o : Obj} {kts : List (Key × T)} {us : List (L2.Key × V)} (hd : H dd = some (.frz o (.dK us))) (nl : ¬ live m st dd) (rs : RepK K H (live m st) kts us) : Wk K CA (Itk dd o us) (kts.map fun p => keyV p.1) m st H where
  go := fun i w e m' st' H' S T => by
    rw [List.getElem?_map] at e
    cases e1 : kts[i]? with
    | none => rw [e1] at e; cases e
    | some p =>
      rw [e1] at e
      cases e
      obtain ⟨v, e2⟩ := RepK.at rs e1
      refine ⟨⟨T.same hd nl (fun _ z => nomatch z), (List.getElem?_eq_some_iff.mp e2).1⟩, fun x H2 y => ?_⟩
      obtain ⟨rfl, kk, v', e3, rfl⟩ := y
      rw [e2] at e3
      cases e3
      exact ⟨S, Step.refl, kV_key p.1⟩
  stop := fun i m' st' H' hi S T => ⟨T.same hd nl (fun _ z => nomatch z), by rw [List.length_map] at hi; rw [← RepK.length rs]; exact hi⟩
theorem sl_keys (ha : SE CA XR X W a f) : SIL CA XR X W tg a (iK f) := by
  refine PI.weak (pi_keysL ha) fun σ H R ⟨m, st, ρ, S, E, q⟩ => ⟨m, st, ρ, S, E, (PR.bind_of q).mono fun x m1 st1 H1 S1 T1 h1 v rv => ?_⟩
  unfold keysD at h1
  split at h1
  · rename_i kts
    obtain ⟨ad, us, rfl, ⟨h2, h3⟩, z, rs⟩ := rv
    refine ⟨ad, us, rfl, ?_⟩
    rcases h2 with h2 | ⟨o, h2⟩
    · refine .inr ⟨h2, fun od => ?_⟩
      obtain ⟨S2, T2⟩ := S1.lock h2 h3 od
      exact h1 m1 _ S2 T2 _ (wkk upd_same h3 (RepK.mono T2.keep T2.lv _ _ rs)) (by rw [List.length_map]; exact z)
    · exact .inl ⟨o, h2, PR.here S1 h1 _ (wkk h2 h3 rs) (by rw [List.length_map]; exact z)⟩
  · exact h1.elim
end
end Fl
set_option Elab.async false
set_option linter.all false
set_option maxRecDepth 100000
set_option maxHeartbeats 4000000
/-! Fl: dict comprehensions; nothing raised within. -/
namespace Fl
open PySem PySem.Spec L2
def putC (n : Nat) (k x : Val) : M Unit := fun s => match s.cell n with
  | some (.dct kvs) => match keyOf k with
    | some kk => if kvs.length < L then .ok () (s.set n (some (.dct (dput kvs kk x)))) else .bad
    | none => .bad
  | _ => .bad
def dcompK (g : CG) (c : Option CT) (fk fv : CE) (ρ : Env) (n : Nat) : List Val → M Unit
  | [] => pure ()
  | v :: r => g v ρ >>= fun ρ' => testM c ρ' >>= fun b => if b then fk ρ' >>= fun k => fv ρ' >>= fun x => putC n k x >>= fun _ => dcompK g c fk fv ρ n r else dcompK g c fk fv ρ n r
def dfin (cell : Bool) (n : Nat) : M Val := fun s => if n < s.length then (match cell with
  | true => .ok (.loc n) s
  | false => freeze (.loc n) s) else .bad
def eDComp (cell : Bool) (own : List Nat) (it : CI) (g : CG) (c : Option CT) (fk fv : CE) : CE := fun ρ => it ρ >>= fun vs s =>
  calmR (dcompK g c fk fv (wipeE ρ own) s.length vs >>= fun _ => dfin cell s.length) (s ++ [some (.dct [])])
section
variable {tb : Tab} {G : FEnv} {CA : Tags} {XR : XRel} {k : Nat} {N : List Str} {sc : Scope} {own : Str → Bool} {X : Cx} {W : WX}
theorem dc_coreF (C : Cq tb G CA XR k N sc own X W) {pins : List (Addr × Obj)} {s : Shared} {σ : L2.St} {H : Hp} {Q : VK} {kx vx tg iter : Expr} {ifs : List Expr} {scope : Scope} {ownL : List (Str × Nat)} {pos pos' : Pos} {wi : TI} {use : Option (Value → Sem Unit)} {Qf : Value → Shared → Prop}
    {gm : CG} {tt : Option CT} {fk fv : CE} (hin : GIn (ownL.map (·.2)) gm) (I : Inv X pins σ H s) (hi : PI X tg iter wi) (ok : BlkOk N sc scope ownL)
    (hg : ∀ X' W', Cq tb G CA XR k N (relS scope sc) (blkOwn scope) X' W' → SG CA XR X' W' tg gm)
    (ht : ∀ X' W', Cq tb G CA XR k N (relS scope sc) (blkOwn scope) X' W' → PTs X' ifs (tMT X'.K CA XR W' (testM tt)))
    (hk : ∀ X' W', Cq tb G CA XR k N (relS scope sc) (blkOwn scope) X' W' → SE CA XR X' W' kx fk)
    (he : ∀ X' W', Cq tb G CA XR k N (relS scope sc) (blkOwn scope) X' W' → SE CA XR X' W' vx fv) (hs : ∀ x, foldedSetIterable iter X.env x = pure x)
    (h : wi σ H fun J H1 => ∀ D, H1 D = none → ∃ vs m st ρ nd cell, Wk X.K CA J vs m st (upd H1 D (.dK [])) ∧ SR X.K CA m st (upd H1 D (.dK [])) ∧ ER X.K m st (upd H1 D (.dK [])) ρ σ ∧ nd < st.length ∧ m nd = D ∧
      PR X.K CA XR W0 σ ((dcompK gm tt fk fv (wipeE ρ (ownL.map (·.2))) nd vs >>= fun _ => dfin cell nd) st) m st (upd H1 D (.dK [])) fun a m' st' H' => ∀ v, RepV X.K m' st' H' a v → Q v H')
    (hRR : ∀ D (ce : PySem.Env) s' m H', Inv X pins σ H' s' → Q (.ref D) H' → s'.heap.Ns ce.locals m → FpOk X pins H' ce.locals → cpost (model X.prog X.w) X.A X.xe use Qf (.ref D) ce (.ok .next) s') :
    wpAny (model X.prog X.w) X.A (comprehension (.DictComp kx vx [⟨tg, iter, ifs, 0⟩] scope pos) scope X.env pos' newDict false (eval iter X.env) use) Qf X.xe s := by
  obtain ⟨F, hF, hst, tk⟩ := C.takes
  have okX : BlkOk X.N X.env.scope scope ownL := by rw [C.nm, C.sc]; exact ok
  have ndX : X.N.Nodup := by rw [C.nm]; exact C.nd
  have free : ∀ y ∈ scope.names, y.2 = .free → ∃ c, X.env.cells.lookup y.1 = some c := by
    intro y hy e
    rcases okX.free y hy e with z | z
    · exact I.ok.has _ (.inl z)
    · exact I.ok.has _ (.inr z)
  refine comp_free (use := use) rfl hs (closure_ok free) ok.kind (fun y hy e => by rw [ok.uniq y hy, e]) (thn (hi.run pins s σ H _ I h) fun xv s1 hx => thn hx ?_)
  rintro itv s2 ⟨it, fp, tn, J, H2, rfl, I2, T, st2, f2, q2⟩
  refine wpAny_newObj_type (newEnv_comp ?_)
  obtain ⟨D, hD⟩ : ∃ D, D = s2.heap.objs.size := ⟨_, rfl⟩
  rw [← hD]
  have hDn : H2 D = none := I2.hok.fresh (Nat.le_of_eq hD.symm)
  obtain ⟨vs, m0, st0, ρ0, nd, cell, wk, S0, E0, hnd, hmd, q0⟩ := q2 D hDn
  obtain ⟨s3, hs3⟩ : ∃ s3 : Shared, s3 = { s2 with heap := s2.heap.push { cls := .type "dict", data := .dict #[] } } := ⟨_, rfl⟩
  rw [← hs3]
  have h3 : s3.heap = s2.heap.push { cls := .type "dict", data := .dict #[] } := by rw [hs3]
  obtain ⟨H3, hH3⟩ : ∃ H3, H3 = upd H2 D (.dK []) := ⟨_, rfl⟩
  rw [← hH3] at wk S0 E0 q0
  have I3 : Inv X pins σ H3 s3 := by
    rw [hs3, hH3]
    refine I2.laid (t' := s2.toks) (fun b o e => Heap.get?_push_of_some _ e) (Nat.le_of_eq hD.symm) ?_
    rw [hD]
    exact dk_empty s2.heap I2.big
  have sz : ∀ b ∈ fp, b < s2.heap.objs.size := fun b hb => by
    obtain ⟨o, e, _⟩ := T.obj _ _ st2 b hb
    exact Heap.lt_size e
  have fpD : ∀ b ∈ fp, FpOk X pins H3 b ∧ b < s3.heap.objs.size := fun b hb => by
    have hlt := sz b hb
    refine ⟨⟨?_, (f2 b hb).2⟩, by rw [h3, Heap.size_push]; exact Nat.lt_succ_of_lt hlt⟩
    rw [hH3, upd_ne (by rw [hD]; exact Nat.ne_of_lt hlt)]
    exact (f2 b hb).1
  have st3 : tn 0 s3.heap := T.keep _ _ _ st2 fun b _ o e => by rw [h3]; exact Heap.get?_push_of_some _ e
  have I4 := block_start I3 okX ndX fpD
  have Cb := fun cl A => block_ctx0 C hF hst s3 H3 scope cl A fp
  obtain ⟨cl, hcl⟩ : ∃ cl, cl = cellsFrom (s3.heap.objs.size + 1) scope.names (cloFrom X.env.cells scope.names []) := ⟨_, rfl⟩
  rw [← hcl] at I4 ⊢
  obtain ⟨ce, hce⟩ : ∃ ce, ce = compEnvC scope cl s3.heap.objs.size X.env := ⟨_, rfl⟩
  have Cb := Cb cl s3.heap.objs.size
  rw [← hce] at I4 Cb
  have cL : ce.locals = s3.heap.objs.size := by rw [hce]; rfl
  obtain ⟨Y, hY⟩ : ∃ Y : Cx, Y = X.blk s3 H3 scope ce fp := ⟨_, rfl⟩
  rw [← hY] at I4 Cb
  show codeAny (model X.prog X.w) X.A (.compStart (.DictComp kx vx [⟨tg, iter, ifs, 0⟩] scope pos) 0 (.ref it) (.ref D) (compEnvC scope cl s3.heap.objs.size X.env)) (cpost (model X.prog X.w) X.A X.xe use Qf (.ref D) (compEnvC scope cl s3.heap.objs.size X.env)) { s3 with heap := pushCells (s3.heap.push { cls := .type "dict", data := .dict #[] }) scope.names }
  rw [← hce]
  obtain ⟨s4, hs4⟩ : ∃ s4 : Shared, s4 = { s3 with heap := pushCells (s3.heap.push { cls := .type "dict", data := .dict #[] }) scope.names } := ⟨_, rfl⟩
  rw [← hs4] at I4 ⊢
  have keep4 : ∀ b o, s3.heap.get? b = some o → s4.heap.get? b = some o := fun b o e => by rw [hs4]; exact pushCells_keeps _ _ _ _ (Heap.get?_push_of_some _ e)
  have st4 : tn 0 s4.heap := T.keep _ _ _ st3 fun b _ o e => keep4 b o e
  obtain ⟨Z, hZ⟩ : ∃ Z : Cx, Z = Y.wish fun _ _ => False := ⟨_, rfl⟩
  rw [← hZ] at Cb
  have I4 : Inv Z [] (wipe σ (ownL.map (·.2))) H3 s4 := by rw [hZ]; exact I4.wish _
  have zP : Z.prog = X.prog := by rw [hZ, hY]
  have zw : Z.w = X.w := by rw [hZ, hY]
  have zK : Z.K = X.K := by rw [hZ, hY]
  have zA : Z.A = X.A := by rw [hZ, hY]
  have zx : Z.ex = fp := by rw [hZ, hY]
  have zn : Z.pn = [] := by rw [hZ, hY]
  have ze : Z.env = ce := by rw [hZ, hY]
  have hc : Z.calm = true := Cb.calm
  have zair : ∀ {E : Value → Shared → Prop} (e : Value) (s' : Shared), Z.xe e s' → E e s' := fun {E} e s' x => by rw [hZ] at x; exact False.elim x
  have stat : ∀ {σ' : L2.St} {H' : Hp} {s' : Shared}, Inv Z [] σ' H' s' → (∀ b ∈ fp, H' b = none) → ∀ b ∈ fp, FpOk Z [] H' b := by
    intro σ' H' s' I' hn b hb
    have hb' : b ∈ Z.ex := by rw [zx]; exact hb
    refine ⟨hn b hb, (I'.ok.exf b hb').1, I'.ok.exfs b hb', .inl hb', fun x c e => (I'.ok.exf b hb').2 x c e, fun p hp => ?_⟩
    rw [zn, List.nil_append] at hp
    cases hp
  have pg := hg Z _ Cb
  have pt := ht Z _ Cb
  have pk := hk Z _ Cb
  have pe := he Z _ Cb
  have q0' := q0.reW (W' := W0) (σ' := wipe σ (ownL.map (·.2))) fun _ _ _ z => z
  have Ew := ER.wipe E0 (ownL.map (·.2))
  let OK : Val → Mp → Store → Hp → Prop := fun a m' st' H' => ∀ v, RepV X.K m' st' H' a v → Q v H'
  let ρw : Env := wipeE ρ0 (ownL.map (·.2))
  let σw : L2.St := wipe σ (ownL.map (·.2))
  let rem : Nat → M Val := fun i => dcompK gm tt fk fv ρw nd (vs.drop i) >>= fun _ => dfin cell nd
  let V : Nat → Nat → Hp → L2.St → Prop := fun i n H' σi => i ≤ vs.length ∧ n = vs.length - i ∧ ∃ m st, SR X.K CA m st H' ∧ ER X.K m st H' ρw σi ∧ Step m0 st0 H3 m st H' ∧ PR X.K CA XR W0 σw (rem i st) m st H' OK
  let IV : Nat → Shared → Prop := fun n s' => ∃ i H' σi, Inv Z [] σi H' s' ∧ tn i s'.heap ∧ (∀ b ∈ fp, H' b = none) ∧ V i n H' σi
  have loop : codeAny (model X.prog X.w) X.A (.compLoop (.DictComp kx vx [⟨tg, iter, ifs, 0⟩] scope pos) 0 (.ref it) (.ref D) ce) (cpost (model X.prog X.w) X.A X.xe use Qf (.ref D) ce) s4 := by
    refine compLoop_anyD IV ?_ vs.length ⟨0, H3, _, I4, st4, fun b hb => (fpD b hb).1.1, Nat.zero_le _, rfl, m0, st0, S0, Ew, Step.refl, q0'⟩
    rintro n s5 ⟨i, H5, σi, I5, st5, n5, hi5, rfl, m5, st5', S5, E5, T5, q5⟩
    by_cases hlt : i < vs.length
    · obtain ⟨go, yl⟩ := wk.go i _ (List.getElem?_eq_getElem hlt) m5 st5' H5 S5 T5
      have ti := T.item Z zP zw zK hc i _ s5 _ H5 (fun _ _ => False) I5 (stat I5 n5) st5 go
      rw [zA] at ti
      refine thnF ti ?_
      rintro r s6 ⟨u, rfl, h6⟩
      refine thnF h6 ?_
      rintro _ s7 ⟨x, H7, I7, r7, y7, st7, n7⟩
      obtain ⟨S7, T7, rx⟩ := yl x H7 y7
      have I7' := I7.pinned (stat I7 n7) (T.obj _ _ st7)
      have E7 := E5.mono T7
      let rest2 : Bool → Env → M Val := fun b ρ' => (if b then fk ρ' >>= fun k => fv ρ' >>= fun x => putC nd k x >>= fun _ => rem (i + 1) else rem (i + 1))
      let rest : Env → M Val := fun ρ' => testM tt ρ' >>= fun b => rest2 b ρ'
      have e : rem i st5' = (gm vs[i] ρw st5').bind rest := by
        show (dcompK gm tt fk fv ρw nd (vs.drop i) >>= fun _ => dfin cell nd) st5' = _
        rw [drop_at hlt, dcompK, bind_eq, bind_eq]
        cases gm vs[i] ρw st5' with
        | exc y t => rfl
        | bad => rfl
        | ok ρ' t =>
          show ((testM tt ρ' t).bind _).bind _ = (testM tt ρ' t).bind _
          cases testM tt ρ' t with
          | exc y t => rfl
          | bad => rfl
          | ok b t =>
            cases b with
            | false => rfl
            | true =>
              show ((fk ρ' t).bind _).bind _ = (fk ρ' t).bind _
              cases fk ρ' t with
              | exc y t => rfl
              | bad => rfl
              | ok kk t =>
                show ((fv ρ' t).bind _).bind _ = (fv ρ' t).bind _
                cases fv ρ' t with
                | exc y t => rfl
                | bad => rfl
                | ok xx t =>
                  show ((putC nd kk xx t).bind _).bind _ = (putC nd kk xx t).bind _
                  cases putC nd kk xx t with
                  | exc y t => rfl
                  | bad => rfl
                  | ok _ t => rfl
      rw [e] at q5
      have q7 := q5.step T7
      have g7 : tG Z.K CA XR W0 gm x σi H7 fun σ8 H8 => ∃ m8 st8 ρ8, SR X.K CA m8 st8 H8 ∧ Step m5 st5' H7 m8 st8 H8 ∧ ER X.K m8 st8 H8 ρ8 σ8 ∧ wipeE ρ8 (ownL.map (·.2)) = ρw ∧
          PR X.K CA XR W0 σw (rest ρ8 st8) m8 st8 H8 OK := by
        rw [zK]
        exact ⟨m5, st5', _, vs[i], S7, E7, rx, ((PR.bind_of q7).reW fun _ _ _ z => z).some fun ρ8 st8 e8 m8 H8 S8 T8 h8 σ8 E8 => ⟨m8, st8, ρ8, S8, T8, E8, wipe_back hin e8, h8⟩⟩
      have run1 := pg.run _ s7 _ H7 x u _ I7' r7 g7
      rw [zP, zw, zA, ze] at run1
      refine wpAny_mono run1 (fun _ s8 hq => ?_) fun e s' x => zair e s' x
      obtain ⟨σ8, H8, I8, m8, st8, ρ8, S8, T8, E8, w8, q8⟩ := hq
      have t8 : tMT Z.K CA XR W0 (testM tt) σ8 H8 fun b H9 => ∃ m9 st9, SR X.K CA m9 st9 H9 ∧ Step m5 st5' H7 m9 st9 H9 ∧ ER X.K m9 st9 H9 ρ8 σ8 ∧
          PR X.K CA XR W0 σw (rest2 b ρ8 st9) m9 st9 H9 OK := by
        rw [zK]
        exact ⟨m8, st8, ρ8, S8, E8, ((PR.bind_of q8).reW fun _ _ _ z => z).mono fun b m9 st9 H9 S9 T9 h9 => ⟨m9, st9, S9, T8.trans T9, E8.mono T9, h9⟩⟩
      have run2 := pt.run _ s8 σ8 H8 _ I8 t8
      rw [zP, zw, zA, ze] at run2
      refine wpAny_mono run2 (fun b s9 hq => ?_) fun e s' x => zair e s' x
      obtain ⟨H9, I9, m9, st9, S9, T9, E9, q9⟩ := hq
      have T5' := T5.trans T7
      have fin : ∀ {σj : L2.St} {ρj : Env} {s' : Shared} {H' : Hp} {m' : Mp} {st' : Store}, Inv Z ([] ++ pinsAt fp s7.heap) σj H' s' → SR X.K CA m' st' H' → ER X.K m' st' H' ρj σj → wipeE ρj (ownL.map (·.2)) = ρw → Step m0 st0 H3 m' st' H' → PR X.K CA XR W0 σw (rem (i + 1) st') m' st' H' OK → ∃ n', n' < vs.length - i ∧ IV n' s' := by
        intro σj ρj s' H' m' st' I' S' E' w' T' q'
        have pin' : ∀ b ∈ fp, ∀ o, s7.heap.get? b = some o → s'.heap.get? b = some o ∧ H' b = none := fun b hb o e =>
          let z := I'.pin (b, o) (List.mem_append_right _ (List.mem_append_right _ (mem_pinsAt hb e)))
          ⟨z.1, z.2.1⟩
        have Ew' := ER.wipe E' (ownL.map (·.2))
        rw [w'] at Ew'
        refine ⟨vs.length - (i + 1), by omega, i + 1, H', _, (I'.pins_of fun p hp => absurd hp (by simp)).weak (wipe_length _ _) (fun j v e => (wipe_some e).1), T.keep _ _ _ st7 fun b hb o e => (pin' b hb o e).1, fun b hb => ?_,
          by omega, rfl, m', st', S', Ew', T', q'⟩
        obtain ⟨o, e, _⟩ := T.obj _ _ st7 b hb
        exact (pin' b hb o e).2
      cases b with
      | false =>
        simp only [Bool.false_eq_true, if_false] at q9 ⊢
        exact fin I9 S9 E9 w8 (T5'.trans T9) q9
      | true =>
        simp only [if_true] at q9 ⊢
        have t10 : tM Z.K CA XR W0 fk σ8 H9 fun y H10 => ∃ m10 st10 kk, SR X.K CA m10 st10 H10 ∧ Step m5 st5' H7 m10 st10 H10 ∧ ER X.K m10 st10 H10 ρ8 σ8 ∧ RepV X.K m10 st10 H10 kk y ∧
            PR X.K CA XR W0 σw ((fv ρ8 >>= fun x => putC nd kk x >>= fun _ => rem (i + 1)) st10) m10 st10 H10 OK := by
          rw [zK]
          have q9' : PR X.K CA XR W0 σw ((fk ρ8 >>= fun k => fv ρ8 >>= fun x => putC nd k x >>= fun _ => rem (i + 1)) st9) m9 st9 H9 OK := q9
          exact ⟨m9, st9, ρ8, S9, E9, ((PR.bind_of q9').reW fun _ _ _ z => z).mono fun kk m10 st10 H10 S10 T10 h10 v rv => ⟨m10, st10, kk, S10, T9.trans T10, E9.mono T10, rv, h10⟩⟩
        have run3 := pk.run _ s9 σ8 H9 _ I9 t10
        rw [zP, zw, zA, ze] at run3
        refine wpAny_mono run3 (fun y s10 hq => ?_) fun e s' x => zair e s' x
        obtain ⟨yk, H10, I10, ryk, m10, st10, kk, S10, T10, E10, rk10, q10⟩ := hq
        have t11 : tM Z.K CA XR W0 fv σ8 H10 fun y H11 => ∃ m11 st11 xx, SR X.K CA m11 st11 H11 ∧ Step m5 st5' H7 m11 st11 H11 ∧ ER X.K m11 st11 H11 ρ8 σ8 ∧ RepV X.K m11 st11 H11 kk yk ∧ RepV X.K m11 st11 H11 xx y ∧
            PR X.K CA XR W0 σw ((putC nd kk xx >>= fun _ => rem (i + 1)) st11) m11 st11 H11 OK := by
          rw [zK]
          exact ⟨m10, st10, ρ8, S10, E10, ((PR.bind_of q10).reW fun _ _ _ z => z).mono fun xx m11 st11 H11 S11 T11 h11 v rv => ⟨m11, st11, xx, S11, T10.trans T11, E10.mono T11, RepV.mono T11 _ _ rk10, rv, h11⟩⟩
        have run4 := pe.run _ s10 σ8 H10 _ I10 t11
        rw [zP, zw, zA, ze] at run4
        refine wpAny_mono run4 (fun y2 s11 hq => ?_) fun e s' x => zair e s' x
        obtain ⟨yv, H11, I11, ryv, m11, st11, xx, S11, T11, E11, rk11, rx11, q11⟩ := hq
        have q12 := PR.bind_of q11
        unfold putC at q12
        cases ec : st11.cell nd with
        | none => rw [ec] at q12; exact q12.elim
        | some cc =>
          rw [ec] at q12
          cases cc with
          | dct kvs =>
            dsimp only at q12
            cases ek : keyOf kk with
            | none => rw [ek] at q12; exact q12.elim
            | some kk' =>
              rw [ek] at q12
              dsimp only at q12
              split at q12
              · rename_i hz
                obtain ⟨us, hh, zz, rs⟩ := S11.cells nd _ ec
                have emd : m11 nd = D := by
                  have := (T5'.trans T11).ag nd hnd
                  rw [this, hmd]
                have TT := S11.setStep (o := .dK (putK us (kL kk') yv)) (c' := .dct (dput kvs kk' xx)) ec
                have SS := S11.setCell (o := .dK (putK us (kL kk') yv)) (c' := .dct (dput kvs kk' xx)) ec ⟨_, upd_same, by have := dput_len kvs kk' xx; omega, RepVK.mono TT _ _ (RepVK.put rx11 rs)⟩
                have ey := keyOf_rep rk11 ek
                rw [ey] at ryk
                have hD11 : H11 D = some (.dK us) := by rw [← emd]; exact hh
                rw [emd] at TT SS
                have q13 := PR.here SS (q12.step TT)
                have ds := d_dictSet (X := Z) (Q := fun _ s' => ∃ n', n' < vs.length - i ∧ IV n' s') (E := notedBy (model X.prog X.w) X.A ce fun e s'' => cpost (model X.prog X.w) X.A X.xe use Qf (.ref D) ce (.error e) s'') I11 hD11 (by rw [← rs.length]; exact lineLt hz) ryk ryv fun s12 I12 =>
                  fin I12 SS (E11.mono TT) w8 ((T5'.trans T11).trans TT) q13
                rw [zP, zw, zA] at ds
                exact ds
              · exact q12.elim
          | _ => exact q12.elim
    · have hie : i = vs.length := by omega
      subst hie
      have q5' : PR X.K CA XR W0 σw (dfin cell nd st5') m5 st5' H5 OK := by
        have e : rem vs.length st5' = dfin cell nd st5' := by
          show (dcompK gm tt fk fv ρw nd (vs.drop vs.length) >>= fun _ => dfin cell nd) st5' = _
          rw [List.drop_length]; rfl
        rw [← e]; exact q5
      have stop := wk.stop _ m5 st5' H5 (Nat.le_refl _) S5 T5
      have td := T.done Z zP zw zK hc vs.length _ s5 _ H5 (fun _ _ => False) I5 (stat I5 n5) st5 stop
      rw [zA] at td
      refine thnF td ?_
      rintro r s6 ⟨rfl, I6⟩
      rw [hZ, hY] at I6
      have I6 := I6.unwish
      have I7 : Inv X pins σ H5 s6 := I3.call' (ch := fp) I6.os I6.base I6.hok I6.bare fun b hb => ⟨(fpD b hb).1.2.2.2.1, (fpD b hb).1.2.1, (fpD b hb).1.2.2.2.2.1, (fpD b hb).1.2.2.2.2.2⟩
      have nC : H5 ce.locals = none := I6.free
      obtain ⟨mm, hns, _⟩ := I6.loc
      have emd : m5 nd = D := by rw [T5.ag nd hnd, hmd]
      have qq : Q (.ref D) H5 := by
        unfold dfin at q5'
        split at q5'
        · rename_i hlt2
          have rl : RepV X.K m5 st5' H5 (.loc nd) (.ref D) := ⟨hlt2, by rw [emd]⟩
          cases cell with
          | true => exact PR.here S5 q5' _ rl
          | false => exact frz_ok S5 rl q5'
        · exact q5'.elim
      refine hRR D ce s6 mm _ I7 qq hns ?_
      rw [cL] at nC ⊢
      exact I3.fpOk (Nat.le_refl _) nC
  exact codeAny_compStart_dict loop (T.self X.A 0 _ _ _ st4 loop)
variable {kx vx tg iter : Expr} {ifs : List Expr} {scope : Scope} {ownL : List (Str × Nat)} {pos spos py : Pos} {im : CI} {gm : CG} {tt : Option CT} {fk fv : CE}
theorem dc_any {σ : L2.St} {H : Hp} {Q : VK} {cell : Bool} (h : tM X.K CA XR W (eDComp cell (ownL.map (·.2)) im gm tt fk fv) σ H Q) : tI X.K CA XR W im σ H fun J H1 => ∀ D, H1 D = none → ∃ vs m st ρ nd cell, Wk X.K CA J vs m st (upd H1 D (.dK [])) ∧ SR X.K CA m st (upd H1 D (.dK [])) ∧ ER X.K m st (upd H1 D (.dK [])) ρ σ ∧ nd < st.length ∧ m nd = D ∧
      PR X.K CA XR W0 σ ((dcompK gm tt fk fv (wipeE ρ (ownL.map (·.2))) nd vs >>= fun _ => dfin cell nd) st) m st (upd H1 D (.dK [])) fun a m' st' H' => ∀ v, RepV X.K m' st' H' a v → Q v H' := by
  obtain ⟨m, st, ρ, S, E, q⟩ := h
  refine ⟨m, st, ρ, S, E, (PR.bind_of q).mono fun vs m1 st1 H1 S1 T1 h1 J wk D hD => ?_⟩
  have TT := S1.cellStep (o := .dK []) hD (.dct [])
  have SS := S1.newCell (o := .dK []) (c := .dct []) hD ⟨[], upd_same, Nat.zero_le _, rfl⟩
  refine ⟨vs, _, _, ρ, st1.length, cell, ⟨fun i w e m' st' H' S' T' => wk.go i w e m' st' H' S' (TT.trans T'), fun i m' st' H' hi S' T' => wk.stop i m' st' H' hi S' (TT.trans T')⟩, SS, (E.mono T1).mono TT, by simp, mNew_same, PR.calm (h1.step TT)⟩
theorem se_dc (cell : Bool) (C : Cq tb G CA XR k N sc own X W) (hin : GIn (ownL.map (·.2)) gm) (ok : BlkOk N sc scope ownL) (hi : SI CA XR X W tg iter im)
    (hg : ∀ X' W', Cq tb G CA XR k N (relS scope sc) (blkOwn scope) X' W' → SG CA XR X' W' tg gm)
    (ht : ∀ X' W', Cq tb G CA XR k N (relS scope sc) (blkOwn scope) X' W' → PTs X' ifs (tMT X'.K CA XR W' (testM tt)))
    (hk : ∀ X' W', Cq tb G CA XR k N (relS scope sc) (blkOwn scope) X' W' → SE CA XR X' W' kx fk)
    (he : ∀ X' W', Cq tb G CA XR k N (relS scope sc) (blkOwn scope) X' W' → SE CA XR X' W' vx fv) (hs : ∀ x, foldedSetIterable iter X.env x = pure x := by intro _; rfl) :
    SE CA XR X W (.DictComp kx vx [⟨tg, iter, ifs, 0⟩] scope pos) (eDComp cell (ownL.map (·.2)) im gm tt fk fv) := by
  refine ⟨fun pins s σ H Q I q => ?_⟩
  rw [arm_eval_DictComp]
  refine dc_coreF C hin I hi ok hg ht hk he hs (dc_any q) fun D ce s' m H' J q hn fo => ⟨m, hn, fun h2 sb => ?_⟩
  exact ⟨.ref D, H', J.turned (t' := s'.toks) (fun b o hb e => (sb.2 b hb).trans e) fo.1 fo.2.1 fo.2.2.2.1 fo.2.2.2.2.1 fo.2.2.2.2.2, rfl, q⟩
theorem sw_dtrue {l : Nat} {env : PySem.Env} {y : Str} (hk : env.scope.kind = .function) (hy : env.scope.names.lookup y = some .local) (hl : (py.line == pos.line) = true)
    (ha : (scope.names.any fun (n, k) => n == y && (k == .local || k == .cell)) = false) : swapsWith (.DictComp kx vx [⟨tg, iter, ifs, 0⟩] scope pos) (some (.Name y py)) l env = pure true := by
  have e1 : env.kindOf y = some .local := hy
  have e2 : env.blockKind = .function := by unfold Env.blockKind; rw [hk]; rfl
  unfold swapsWith
  simp only [e2, e1, ha, Expr.pos, hl]
  rfl
theorem ss_dc (cell : Bool) (C : Cq tb G CA XR k N sc own X W) (i : Nat) {y : Str} (hy : N[i]? = some y) (hyl : sc.names.lookup y = some .local) (hk0 : sc.kind = .function) (hl : (py.line == pos.line) = true)
    (ha : (scope.names.any fun (n, k) => n == y && (k == .local || k == .cell)) = false) (hin : GIn (ownL.map (·.2)) gm) (ok : BlkOk N sc scope ownL) (hi : SI CA XR X W tg iter im)
    (hg : ∀ X' W', Cq tb G CA XR k N (relS scope sc) (blkOwn scope) X' W' → SG CA XR X' W' tg gm)
    (ht : ∀ X' W', Cq tb G CA XR k N (relS scope sc) (blkOwn scope) X' W' → PTs X' ifs (tMT X'.K CA XR W' (testM tt)))
    (hk : ∀ X' W', Cq tb G CA XR k N (relS scope sc) (blkOwn scope) X' W' → SE CA XR X' W' kx fk)
    (he : ∀ X' W', Cq tb G CA XR k N (relS scope sc) (blkOwn scope) X' W' → SE CA XR X' W' vx fv) (hs : ∀ x, foldedSetIterable iter X.env x = pure x := by intro _; rfl) :
    S1 CA XR X W (.Assign [.Name y py] (.DictComp kx vx [⟨tg, iter, ifs, 0⟩] scope pos) spos) (sAsg (eDComp cell (ownL.map (·.2)) im gm tt fk fv) (gVar i)) := by
  have hyl' : X.env.scope.names.lookup y = some .local := by rw [C.sc]; exact hyl
  have sw : swapsWith (.DictComp kx vx [⟨tg, iter, ifs, 0⟩] scope pos) (some (.Name y py)) spos.line X.env = pure true := sw_dtrue (by rw [C.sc]; exact hk0) hyl' hl ha
  refine PS.weak (t := tAsg (tM X.K CA XR W (eDComp cell (ownL.map (·.2)) im gm tt fk fv)) (gName i)) ?_ (asg_read i)
  refine ⟨fun pins s σ H D I q => ?_⟩
  rw [exec_Assign_Name_used _ _ _ _ sw]
  refine wpAny_bind (wpAny_standAt (wpAny_bind ?_))
  show wpAny _ X.A (do let _ ← comprehension (.DictComp kx vx [⟨tg, iter, ifs, 0⟩] scope pos) scope X.env (firstIterPos [⟨tg, iter, ifs, 0⟩] pos) newDict false (eval iter X.env) (some (assign (.Name y py) X.env)); pure _) _ _ s
  have q' : tM X.K CA XR W (eDComp cell (ownL.map (·.2)) im gm tt fk fv) σ H fun x H1 => gName i x σ H1 D.nx := q
  refine wpAny_bind (thn (dc_coreF (Qf := fun _ s' => SP X pins D .next s') C hin I hi ok hg ht hk he hs (dc_any q') fun A ce s' m H' J q hn fo => ?_) fun _ s' hq => wpAny_pure (wpAny_pure hq))
  show wpAny _ _ (assign (.Name y py) X.env (.ref A)) _ _ _
  refine wpAny_assign_Name (store_ok2 (v := V.ref A) J (by rw [C.nm]; exact C.nd) (by rw [C.nm]; exact hy) (.inl hyl') rfl (fun s2 I2 hh => ?_) (.inr hyl'))
  obtain ⟨b, sb, hb⟩ := hh
  have ne : ce.locals ≠ b := by
    rcases hb with z | z
    · rw [z]; exact fo.2.1
    · exact fun e => fo.2.2.2.2.1 y b z e.symm
  refine ⟨m, hn.sameBut sb ne, fun h3 sb3 => ?_⟩
  exact ⟨_, H', I2.turned (t' := s2.toks) (fun b o hb e => (sb3.2 b hb).trans e) fo.1 fo.2.1 fo.2.2.2.1 fo.2.2.2.2.1 fo.2.2.2.2.2, q⟩
end
end Fl
set_option Elab.async false
set_option linter.all false
set_option maxRecDepth 100000
/-! Fl: how the mirrors run, in plain Lean: lists of numbers, walks, local lists. -/
namespace Fl
@[simp] theorem p_varS (i : Nat) (x : Option Val) (r : Env) (s : Store) : eVar (i + 1) (x :: r) s = eVar i r s := nrfl rfl
abbrev iv (i : Int) : Val := .t (.int i)
/-- a tree: a list of numbers -/
abbrev li (xs : List Int) : T := .lst (xs.map .int)
/-- nothing points out of the store -/
def Wf (s : Store) : Prop := Store.below s.length s = true
theorem fn_t {N ps : Nat} {b : SM} {args : List Val} {s s' : Store} {d : T} (h : b (start N args) s = .rt (.t d) s') (hl : args.length = ps) (hw : Wf s) (hs : s'.take s.length = s) : mkFn N ps b args s = .ok (.t d) s := by
  unfold mkFn
  rw [if_pos hl, h]
  show R.ok (Val.t d) (trim s.length s') = _
  unfold trim
  rw [hs, if_pos (show Store.below s.length s = true from hw)]
theorem fn_x {N ps : Nat} {b : SM} {args : List Val} {s s' : Store} {x : Exc} {ρ : Env} (h : b (start N args) s = .ex x ρ s') (hl : args.length = ps) (hw : Wf s) (hs : s'.take s.length = s) : mkFn N ps b args s = .exc x s := by
  unfold mkFn
  rw [if_pos hl, h]
  show R.exc x (trim s.length s') = _
  unfold trim
  rw [hs, if_pos (show Store.below s.length s = true from hw)]
theorem Wf.app {s : Store} {j : Store} (h : Wf s) (hj : ∀ c ∈ j, match c with | some c => c.below (s.length + j.length) = true | none => True) : Wf (s ++ j) := by
  unfold Wf Store.below at *
  rw [List.all_append, Bool.and_eq_true]
  have up : ∀ v : Val, v.below s.length = true → v.below (s ++ j).length = true := fun v hv => by
    cases v with
    | loc k => simp only [Val.below, decide_eq_true_eq, List.length_append] at *; omega
    | _ => exact hv
  constructor
  · rw [List.all_eq_true] at *
    intro c hc
    have := h c hc
    cases c with
    | none => rfl
    | some c =>
      dsimp only at *
      cases c <;> simp only [Cell.below, List.all_eq_true] at * <;> (intro x hx; exact up _ (this x hx))
  · rw [List.all_eq_true]
    intro c hc
    have := hj c hc
    cases c with
    | none => rfl
    | some c => rw [List.length_append]; exact this
/-! ### the cell at the store's end -/
section
variable {s : Store} {vs : List Val} {v : Val}
theorem e_cell (c : Option Cell) : Store.cell (s ++ [c]) s.length = c := by unfold Store.cell; simp
@[simp] theorem e_lstC : lstC (.loc s.length) (s ++ [some (.lst vs)]) = .ok () (s ++ [some (.lst vs)]) := by
  unfold lstC; dsimp only; rw [e_cell]
theorem e_app (h : vs.length < L) : appendV (.loc s.length) v (s ++ [some (.lst vs)]) = .ok (.t .non) (s ++ [some (.lst (vs ++ [v]))]) := by
  unfold appendV; dsimp only; rw [e_cell]; dsimp only; rw [if_pos h]; simp [vN]
@[simp] theorem e_len : lenV (.loc s.length) (s ++ [some (.lst vs)]) = .ok (iv vs.length) (s ++ [some (.lst vs)]) := by
  unfold lenV; dsimp only; rw [e_cell]; rfl
theorem e_frz {ts : List T} (h : trees vs = some ts) : freeze (.loc s.length) (s ++ [some (.lst vs)]) = .ok (.t (.lst ts)) (s ++ [none]) := by
  unfold freeze; dsimp only; rw [e_cell]; dsimp only; rw [h]; simp
end
@[simp] theorem p_frzT (d : T) (s : Store) : freeze (.t d) s = .ok (.t d) s := nrfl rfl
/-! ### lists of numbers -/
theorem li_trees (xs : List Int) : trees (xs.map iv) = some (xs.map .int) := by
  rw [show xs.map iv = (xs.map T.int).map .t by rw [List.map_map]; rfl, trees_map]
@[simp] theorem li_items (xs : List Int) : (xs.map T.int).map Val.t = xs.map iv := by rw [List.map_map]; rfl
@[simp] theorem li_new (xs : List Int) (s : Store) : newL false (xs.map iv) s = .ok (.t (li xs)) s := p_newLf (li_trees xs) s
@[simp] theorem li_iter (xs : List Int) (s : Store) : iterOf (.t (.lst (xs.map .int))) s = .ok (xs.map iv) s := by
  show R.ok ((xs.map T.int).map Val.t) s = _
  rw [li_items]
@[simp] theorem li_itemsL (xs : List Int) (s : Store) : itemsL (.t (.lst (xs.map .int))) s = .ok (xs.map iv) s := by
  show R.ok ((xs.map T.int).map Val.t) s = _
  rw [li_items]
@[simp] theorem li_itms (xs : List Int) (s : Store) : items (.t (.lst (xs.map .int))) s = .ok (xs.map iv) s := by
  show R.ok ((xs.map T.int).map Val.t) s = _
  rw [li_items]
@[simp] theorem li_len (xs : List Int) (s : Store) : lenV (.t (.lst (xs.map .int))) s = .ok (iv xs.length) s := by
  show R.ok (vI ((xs.map T.int).length)) s = _
  rw [List.length_map]; rfl
@[simp] theorem li_ints (xs : List Int) : intsOf (xs.map iv) = some xs := ints_map xs
theorem px_nat {n k : Nat} (h : k < n) : pyIx n (k : Int) = some k := by
  unfold pyIx
  rw [if_pos (by omega), if_pos (by omega)]
  simp
theorem li_get {xs : List Int} {k : Nat} (h : k < xs.length) (s : Store) : subI (.t (.lst (xs.map .int))) (iv k) s = .ok (iv xs[k]) s := by
  show (match pyIx (xs.map T.int).length (k : Int) with
    | some n => match (xs.map T.int)[n]? with
      | some d => R.ok (Val.t d) s
      | none => .bad
    | none => .bad) = _
  rw [List.length_map, px_nat h]
  dsimp only
  rw [List.getElem?_map, List.getElem?_eq_getElem h]
  rfl
theorem lst_get {xs : List T} {k : Nat} {d : T} (h : xs[k]? = some d) (s : Store) : subI (.t (.lst xs)) (iv k) s = .ok (.t d) s := by
  have hk : k < xs.length := (List.getElem?_eq_some_iff.mp h).1
  show (match pyIx xs.length (k : Int) with
    | some n => match xs[n]? with
      | some d => R.ok (Val.t d) s
      | none => .bad
    | none => .bad) = _
  rw [px_nat hk]
  dsimp only
  rw [h]
theorem tup_get {xs : List T} {k : Nat} {d : T} (h : xs[k]? = some d) (s : Store) : subI (.t (.tup xs)) (iv k) s = .ok (.t d) s := by
  have hk : k < xs.length := (List.getElem?_eq_some_iff.mp h).1
  show (match pyIx xs.length (k : Int) with
    | some n => match xs[n]? with
      | some d => R.ok (Val.t d) s
      | none => .bad
    | none => .bad) = _
  rw [px_nat hk]
  dsimp only
  rw [h]
theorem li_plain (xs : List Int) : T.plain 60 (li xs) = true := by
  show (xs.map T.int).all (T.plain 59) = true
  simp [T.plain]
theorem li_eqvs : ∀ xs ys : List Int, T.eqvs (xs.map .int) (ys.map .int) = decide (xs = ys)
  | [], [] => by simp [T.eqvs]
  | [], _ :: _ => by simp [T.eqvs]
  | _ :: _, [] => by simp [T.eqvs]
  | a :: r, b :: q => by
    simp only [List.map_cons, T.eqvs, T.eqv, li_eqvs r q]
    by_cases h : a = b
    · subst h; simp
    · simp [h]
@[simp] theorem li_eq (xs ys : List Int) (s : Store) : eqV (.t (.lst (xs.map .int))) (.t (.lst (ys.map .int))) s = .ok (decide (xs = ys)) s := by
  show (match (if T.plain 60 (li xs) && T.plain 60 (li ys) then some (T.eqv (li xs) (li ys)) else none) with | some r => R.ok r s | none => .bad) = _
  rw [li_plain, li_plain]
  show R.ok (T.eqv (li xs) (li ys)) s = _
  rw [T.eqv, li_eqvs]
/-! ### walks -/
/-- a loop by what it hands on -/
theorem for_fold {α β : Type} {g : CG} {b : SM} (iw : β → Val) (E : α → Env) (S : α → Store) (step : α → β → α) (P : List β → α → Prop)
    (hs : ∀ v r x, P (v :: r) x → ∃ ρ1 s1, g (iw v) (E x) (S x) = .ok ρ1 s1 ∧ b ρ1 s1 = .nx (E (step x v)) (S (step x v)) ∧ P r (step x v)) :
    ∀ vs x, P vs x → forL g b (vs.map iw) (E x) (S x) = .nx (E (vs.foldl step x)) (S (vs.foldl step x))
  | [], x, _ => rfl
  | v :: r, x, h => by
    obtain ⟨ρ1, s1, h1, h2, h3⟩ := hs v r x h
    have ih := for_fold iw E S step P hs r (step x v) h3
    show (g (iw v) (E x) (S x)).so _ _ = _
    rw [h1]
    show (match b ρ1 s1 with
      | .nx ρ2 s2 => forL g b (r.map iw) ρ2 s2
      | .ct ρ2 s2 => forL g b (r.map iw) ρ2 s2
      | .bk ρ2 s2 => .nx ρ2 s2
      | o => o) = _
    rw [h2]
    exact ih
/-- a comprehension whose element is told by the item -/
theorem comp_map {β : Type} {g : CG} {f : CE} {ρ : Env} {s : Store} (iw : β → Val) (h : β → Val) : ∀ vs : List β, (∀ v ∈ vs, ∃ ρ', g (iw v) ρ s = .ok ρ' s ∧ f ρ' s = .ok (h v) s) → compL g none f ρ (vs.map iw) s = .ok (vs.map h) s
  | [], _ => rfl
  | v :: r, hh => by
    obtain ⟨ρ', h1, h2⟩ := hh v List.mem_cons_self
    have ih := comp_map (g := g) (f := f) (ρ := ρ) (s := s) iw h r fun w hw => hh w (List.mem_cons_of_mem _ hw)
    show (g (iw v) ρ s).bind _ = _
    rw [h1]
    show (f ρ' s).bind _ = _
    rw [h2]
    show (compL g none f ρ (r.map iw) s).bind _ = _
    rw [ih]
    rfl
theorem comp_filter {β : Type} {g : CG} {c : CT} {f : CE} {ρ : Env} {s : Store} (iw : β → Val) (p : β → Bool) (h : β → Val) : ∀ vs : List β, (∀ v ∈ vs, ∃ ρ', g (iw v) ρ s = .ok ρ' s ∧ c ρ' s = .ok (p v) s ∧ (p v = true → f ρ' s = .ok (h v) s)) →
    compL g (some c) f ρ (vs.map iw) s = .ok ((vs.filter p).map h) s
  | [], _ => rfl
  | v :: r, hh => by
    obtain ⟨ρ', h1, h2, h3⟩ := hh v List.mem_cons_self
    have ih := comp_filter (g := g) (c := c) (f := f) (ρ := ρ) (s := s) iw p h r fun w hw => hh w (List.mem_cons_of_mem _ hw)
    show (g (iw v) ρ s).bind _ = _
    rw [h1]
    show (c ρ' s).bind _ = _
    rw [h2]
    by_cases hp : p v = true
    · rw [hp]
      show (f ρ' s).bind _ = _
      rw [h3 hp]
      show (compL g (some c) f ρ (r.map iw) s).bind _ = _
      rw [ih]
      simp [hp]
    · have hp' : p v = false := by simpa using hp
      rw [hp']
      show compL g (some c) f ρ (r.map iw) s = _
      rw [ih]
      simp [hp']
theorem compKc_map {β : Type} {g : CG} {f : CE} {ρ : Env} {s : Store} (iw : β → Val) (h : β → Val) : ∀ (vs : List β) (acc : List Val), acc.length + vs.length ≤ L → (∀ v ∈ vs, ∃ ρ', g (iw v) ρ s = .ok ρ' s ∧ f ρ' s = .ok (h v) s) → compKc g none f ρ acc (vs.map iw) s = .ok (acc ++ vs.map h) s
  | [], acc, _, _ => by simp [compKc, pure_eq]
  | v :: r, acc, hl, hh => by
    obtain ⟨ρ', h1, h2⟩ := hh v List.mem_cons_self
    rw [List.length_cons] at hl
    have ih := compKc_map (g := g) (f := f) (ρ := ρ) (s := s) iw h r (acc ++ [h v]) (by rw [List.length_append, List.length_singleton]; omega) fun w hw => hh w (List.mem_cons_of_mem _ hw)
    show (g (iw v) ρ s).bind _ = _
    rw [h1]
    show (f ρ' s).bind _ = _
    rw [h2]
    show (if acc.length < L then compKc g none f ρ (acc ++ [h v]) (r.map iw) else bad) s = _
    rw [if_pos (by omega), ih]
    simp
theorem comp2_flat {β γ : Type} {g g1 : CG} {it1 : CI} {f : CE} {own1 : List Nat} {ρ : Env} {s : Store} (iw : β → Val) (jw : γ → Val) (ws : β → List γ) (h : β → γ → Val) : ∀ (vs : List β) (acc : List Val), acc.length + (vs.flatMap fun v => (ws v).map (h v)).length ≤ L →
    (∀ v ∈ vs, ∃ ρ1, g (iw v) ρ s = .ok ρ1 s ∧ it1 ρ1 s = .ok ((ws v).map jw) s ∧ ∀ w ∈ ws v, ∃ ρ2, g1 (jw w) (wipeE ρ1 own1) s = .ok ρ2 s ∧ f ρ2 s = .ok (h v w) s) →
    comp2K g none it1 g1 none f own1 ρ acc (vs.map iw) s = .ok (acc ++ vs.flatMap fun v => (ws v).map (h v)) s
  | [], acc, _, _ => by simp [comp2K, pure_eq]
  | v :: r, acc, hl, hh => by
    obtain ⟨ρ1, h1, h2, h3⟩ := hh v List.mem_cons_self
    rw [List.flatMap_cons, List.length_append, List.length_map] at hl
    have k := compKc_map (g := g1) (f := f) (ρ := wipeE ρ1 own1) (s := s) jw (h v) (ws v) acc (by omega) h3
    have ih := comp2_flat (g := g) (g1 := g1) (it1 := it1) (f := f) (own1 := own1) (ρ := ρ) (s := s) iw jw ws h r (acc ++ (ws v).map (h v)) (by rw [List.length_append, List.length_map]; omega) fun w hw => hh w (List.mem_cons_of_mem _ hw)
    show (g (iw v) ρ s).bind _ = _
    rw [h1]
    show (it1 ρ1 s).bind _ = _
    rw [h2]
    show (compKc g1 none f (wipeE ρ1 own1) acc ((ws v).map jw) s).bind _ = _
    rw [k]
    show comp2K g none it1 g1 none f own1 ρ (acc ++ (ws v).map (h v)) (r.map iw) s = _
    rw [ih]
    simp
theorem p_comp2 {c : Bool} {own own1 : List Nat} {it it1 : CI} {g g1 : CG} {f : CE} {t t1 : Option CT} {ρ : Env} {s : Store} {vs xs : List Val} (hi : it ρ s = .ok vs s) (h : comp2K g t it1 g1 t1 f own1 (wipeE ρ own) [] vs s = .ok xs s) {v : Val} {s' : Store} (hn : newL c xs s = .ok v s') :
    eComp2 c own own1 it g t it1 g1 t1 f ρ s = .ok v s' := by
  show (it ρ s).bind _ = _
  rw [hi]
  show calmR (comp2K g t it1 g1 t1 f own1 (wipeE ρ own) [] vs >>= newL c) s = _
  unfold calmR
  rw [bind_eq, h, bind_ok, hn]
theorem p_compR (c : Bool) (own : List Nat) (it : CI) (g : CG) (t : Option CT) (f : CE) (ρ : Env) (s : Store) : eCompR c own it g t f ρ s = (it ρ s).bind fun vs s => (if vs.length ≤ L then (fun s => (compL g t f (wipeE ρ own) vs s).bind (newL c)) else bad) s := rfl
theorem p_compRn {c : Bool} {own : List Nat} {it : CI} {g : CG} {t : Option CT} {f : CE} {ρ : Env} {s s' : Store} {n : Nat} {iw : Nat → Val} (h : it ρ s = .ok ((List.range n).map iw) s') (hn : n ≤ 16777216) : eCompR c own it g t f ρ s = (compL g t f (wipeE ρ own) ((List.range n).map iw) s').bind (newL c) := by
  rw [p_compR, h, p_ok, if_pos (by rw [List.length_map, List.length_range]; exact hn)]
/-- what range(n) gives -/
theorem upto_eq (lo : Int) (n : Nat) : upto lo n = (List.range n).map fun (k : Nat) => iv (lo + (k : Int)) := rfl
theorem p_range {b : CE} {ρ : Env} {s : Store} {i : Int} (h : b ρ s = .ok (iv i) s) (hi : i < 2 ^ 62) (h0 : 0 ≤ i) : iRange1 b ρ s = .ok ((List.range i.toNat).map fun (k : Nat) => iv k) s := by
  show (b ρ s).bind _ = _
  rw [h]
  show (if rangeOk i = true then pure (upto 0 i.toNat) else bad : M (List Val)) s = _
  rw [if_pos (by unfold rangeOk; simp; omega)]
  show R.ok (upto 0 i.toNat) s = _
  rw [upto_eq]
  simp only [Int.zero_add]
/-- a list that stays as it is while it is walked -/
theorem compN_map {g : CG} {f : CE} {ρ : Env} {s : Store} {n : Nat} {vs : List Val} (hc : s.cell n = some (.lst vs)) (h : Val → Val) (hh : ∀ v ∈ vs, ∃ ρ', g v ρ s = .ok ρ' s ∧ f ρ' s = .ok (h v) s) : ∀ (k i : Nat) (acc : List Val), i ≤ vs.length → vs.length < k + i → compN (nxtL n) g none f ρ k i acc s = .ok (acc ++ (vs.drop i).map h) s
  | 0, i, acc, hz, hk => by omega
  | k + 1, i, acc, hz, hk => by
    have e : nxtL n i s = some (vs[i]?.map fun v => (v, s)) := by unfold nxtL; rw [hc]
    unfold compN
    rw [e]
    by_cases hi : i < vs.length
    · rw [List.getElem?_eq_getElem hi]
      obtain ⟨ρ', h1, h2⟩ := hh vs[i] (List.getElem_mem hi)
      have ih := compN_map hc h hh k (i + 1) (acc ++ [h vs[i]]) (by omega) (by omega)
      show (g vs[i] ρ s).bind _ = _
      rw [h1]
      show (f ρ' s).bind _ = _
      rw [h2]
      show compN (nxtL n) g none f ρ k (i + 1) (acc ++ [h vs[i]]) s = _
      rw [ih, drop_at hi, List.map_cons, List.append_assoc]
      rfl
    · rw [List.getElem?_eq_none (by omega)]
      show R.ok acc s = _
      rw [List.drop_eq_nil_of_le (by omega)]
      simp
end Fl
set_option Elab.async false
set_option linter.all false
set_option maxRecDepth 100000
/-! Fl: the drawing that all laws share. -/
namespace Fl
noncomputable def g_state (G : FEnv) : SM := sSeq (sAsg (eC (.int 7)) (gVar 1)) (sSeq (sFor (iV (eVar 0)) (gVar 2) (sAsg (e2 modV (e1 intV (e2 (addV false) (e2 (mulV false) (eVar 1) (eC (.int 31))) (eVar 2))) (eC (.int 1000003))) (gVar 1))) (sRet (eLst true [eComp true [2] (iV (eVar 0)) (gVar 2) none (e1 absV (e1 intV (eVar 2))), e2 (addV false) (eVar 1) (eC (.int 1))])))
noncomputable def g_draw (G : FEnv) : SM := sSeq (sAsg (e2 subI (eVar 0) (eC (.int 0))) (gVar 2)) (sSeq (sWhile (tAnd (tGt (e1 lenV (eVar 2)) (eC (.int 0))) (tEq (e2 subI (eVar 2) (eC (.int 0))) (eC (.int 0)))) (sExpr (e2c lstC popL (eVar 2) (eC (.int 0))))) (sSeq (sIf (tGt (e1 lenV (eVar 2)) (eC (.int 0))) (sSeq (sAsg (e2 subI (eVar 2) (eC (.int 0))) (gVar 3)) (sSeq (sSub (e2 fdivV (eVar 3) (eVar 1)) (eVar 2) (eC (.int 0))) (sRet (e2 modV (e1 intV (eVar 3)) (eVar 1))))) (sNil)) (sSeq (sAsg (e2 modV (e1 intV (e2 (addV false) (e2 (mulV false) (e2 subI (eVar 0) (eC (.int 1))) (eC (.int 48271))) (eC (.int 12345)))) (eC (.int 2147483647))) (gVar 4)) (sSeq (sSub (eVar 4) (eVar 0) (eC (.int 1))) (sRet (e2 modV (e1 intV (e2 fdivV (eVar 4) (eC (.int 64)))) (eVar 1)))))))
def g_pick (G : FEnv) : SM := sRet (e2 subI (eVar 1) (eCall G 75 [eVar 0, e1 lenV (eVar 1)]))
def g_number (G : FEnv) : SM := sSeq (sAsg (eLst false [eC (.int 0), e1 negV (eC (.int 1)), eC (.int 2147483647), e1 negV (eC (.int 2147483648)), eC (.int 65536)]) (gVar 1)) (sSeq (sIf (tEq (eCall G 75 [eVar 0, eC (.int 6)]) (eC (.int 0))) (sRet (eCall G 76 [eVar 0, eVar 1])) (sNil)) (sRet (e2 subV (eCall G 75 [eVar 0, eC (.int 7)]) (eC (.int 2)))))
/-- the state of a drawing: what is left of the script, the seed -/
def St (c : List Int) (m : Int) (r : Store) : Store := some (.lst (c.map vI)) :: some (.lst [.loc 0, vI m]) :: r
theorem St_len {c : List Int} {m : Int} {r : Store} : (St c m r).length = r.length + 2 := rfl
@[simp] theorem sub_st0 (c : List Int) (m : Int) (r : Store) : subI (.loc 1) (.t (.int 0)) (St c m r) = .ok (.loc 0) (St c m r) := nrfl rfl
@[simp] theorem sub_st1 (c : List Int) (m : Int) (r : Store) : subI (.loc 1) (.t (.int 1)) (St c m r) = .ok (.t (.int m)) (St c m r) := nrfl rfl
@[simp] theorem len_st (c : List Int) (m : Int) (r : Store) : lenV (.loc 0) (St c m r) = .ok (.t (.int c.length)) (St c m r) := by
  show R.ok (vI ((c.map vI).length)) _ = _
  rw [List.length_map]; rfl
@[simp] theorem sub_c0 (a : Int) (c : List Int) (m : Int) (r : Store) : subI (.loc 0) (.t (.int 0)) (St (a :: c) m r) = .ok (.t (.int a)) (St (a :: c) m r) := by
  show (match pyIx ((a :: c).map vI).length 0 with
    | some n => match ((a :: c).map vI)[n]? with
      | some d => R.ok d (St (a :: c) m r)
      | none => .bad
    | none => .bad) = _
  have : pyIx ((a :: c).map vI).length 0 = some 0 := by
    unfold pyIx
    rw [if_pos (by decide), if_pos (by simp)]
    rfl
  rw [this]
  rfl
@[simp] theorem pop_c0 (a : Int) (c : List Int) (m : Int) (r : Store) : popL (.loc 0) (.t (.int 0)) (St (a :: c) m r) = .ok (.t (.int a)) (St c m r) := by
  show (match pyIx ((a :: c).map vI).length 0 with
    | some j => match ((a :: c).map vI)[j]? with
      | some v => R.ok v ((St (a :: c) m r).set 0 (some (.lst (((a :: c).map vI).eraseIdx j))))
      | none => .bad
    | none => .bad) = _
  have : pyIx ((a :: c).map vI).length 0 = some 0 := by
    unfold pyIx
    rw [if_pos (by decide), if_pos (by simp)]
    rfl
  rw [this]
  rfl
@[simp] theorem set_c0 (a v : Int) (c : List Int) (m : Int) (r : Store) : setI (.loc 0) (.t (.int 0)) (.t (.int v)) (St (a :: c) m r) = .ok () (St (v :: c) m r) := by
  show (match pyIx ((a :: c).map vI).length 0 with
    | some j => R.ok () ((St (a :: c) m r).set 0 (some (.lst (((a :: c).map vI).set j (.t (.int v))))))
    | none => .bad) = _
  have : pyIx ((a :: c).map vI).length 0 = some 0 := by
    unfold pyIx
    rw [if_pos (by decide), if_pos (by simp)]
    rfl
  rw [this]
  rfl
@[simp] theorem set_m (v : Int) (c : List Int) (m : Int) (r : Store) : setI (.loc 1) (.t (.int 1)) (.t (.int v)) (St c m r) = .ok () (St c v r) := nrfl rfl
@[simp] theorem lstC_st (c : List Int) (m : Int) (r : Store) : lstC (.loc 0) (St c m r) = .ok () (St c m r) := nrfl rfl
theorem fm (i : Int) {k : Int} (h : 0 < k) : i.fmod k = i % k := Int.fmod_eq_emod_of_nonneg i (by omega)
theorem draw_while (m : Int) (r : Store) (x0 x1 : Option Val) (ρ : Env) : ∀ (c : List Int) (n : Nat), c.length < n → whileN (tAnd (tGt (e1 lenV (eVar 2)) (eC (.int 0))) (tEq (e2 subI (eVar 2) (eC (.int 0))) (eC (.int 0)))) (sExpr (e2c lstC popL (eVar 2) (eC (.int 0)))) n
    (x0 :: x1 :: some (.loc 0) :: ρ) (St c m r) = .nx (x0 :: x1 :: some (.loc 0) :: ρ) (St (c.dropWhile (· == 0)) m r)
  | [], n + 1, _ => by simp [whileN]
  | a :: c, n + 1, h => by
    by_cases ha : a = 0
    · subst ha
      have ih := draw_while m r x0 x1 ρ c n (by simp at h; omega)
      simp only [whileN]
      simp
      exact ih
    · have e : (a == 0) = false := by simpa using ha
      simp [whileN, e]
/-- a draw -/
theorem draw (G : FEnv) (c : List Int) (m : Int) (r : Store) {k : Int} (hk : 0 < k) (hk2 : k < 2 ^ 60) (hc : c.length ≤ 63) : ∃ (v : Nat) (c' : List Int) (m' : Int), (v : Int) < k ∧ c'.length ≤ 63 ∧ mkFn 5 2 (g_draw G) [.loc 1, vI k] (St c m r) = .ok (vI v) (St c' m' r) := by
  have hk0 : k ≠ 0 := by omega
  have hw := fun x0 x1 ρ => draw_while m r x0 x1 ρ c whileMax (by show c.length < 100000000; omega)
  have hf : ∀ a, fdivOk a k = true := fun a => by unfold fdivOk; simp; omega
  have h64 : ∀ a, fdivOk a 64 = true := fun a => by unfold fdivOk; simp
  have hm : mulOk m 48271 = true := by unfold mulOk; simp
  have key : ∀ x : Int, ∃ v : Nat, (v : Int) < k ∧ x.fmod k = v := fun x => by
    rw [fm x hk]
    refine ⟨(x % k).toNat, ?_, ?_⟩
    · have := Int.emod_nonneg x hk0
      have := Int.emod_lt_of_pos x hk
      omega
    · have := Int.emod_nonneg x hk0
      omega
  cases e : c.dropWhile (· == 0) with
  | nil =>
    obtain ⟨v, hv, ev⟩ := key (((m * 48271 + 12345).fmod 2147483647).fdiv 64)
    refine ⟨v, [], (m * 48271 + 12345).fmod 2147483647, hv, by simp, fn_rt ?_ rfl rfl rfl⟩
    simp [g_draw, start, sWhile, hw, e, p_mul _ hm, p_mod, p_fdiv (h64 _), hk0, ev]
  | cons a d =>
    obtain ⟨v, hv, ev⟩ := key a
    have hl : (a :: d).length ≤ 63 := by
      rw [← e]
      exact Nat.le_trans (List.Sublist.length_le (List.dropWhile_sublist _)) hc
    refine ⟨v, a.fdiv k :: d, m, hv, by simpa using hl, fn_rt ?_ rfl rfl rfl⟩
    simp [g_draw, start, sWhile, hw, e, p_fdiv (hf _), p_mod, hk0, ev]
theorem state (G : FEnv) (ns : List Int) : ∃ m, mkFn 3 1 (g_state G) [.scr ns] [] = .ok (.loc 1) (St (ns.map fun i => if i < 0 then -i else i) m []) := by
  have hl := for_inv (g := gVar 2) (b := sAsg (e2 modV (e1 intV (e2 (addV false) (e2 (mulV false) (eVar 1) (eC (.int 31))) (eVar 2))) (eC (.int 1000003))) (gVar 1))
    (fun r ρ s => s = [] ∧ (∀ v ∈ r, ∃ i : Int, v = .t (.int i)) ∧ ∃ (a : Int) (x : Option Val), ρ = [some (.scr ns), some (.t (.int a)), x]) (by
    rintro v r ρ s ⟨rfl, hv, a, x, rfl⟩
    obtain ⟨i, rfl⟩ := hv v List.mem_cons_self
    refine ⟨_, [], _, [], rfl, ?_, rfl, fun w hw => hv w (List.mem_cons_of_mem _ hw), (a * 31 + i).fmod 1000003, some (.t (.int i)), rfl⟩
    have hm : mulOk a 31 = true := by unfold mulOk; simp
    simp [p_mul _ hm, p_mod]) (ns.map vI) [some (.scr ns), some (.t (.int 7)), none] [] ⟨rfl, fun v hv => by
      obtain ⟨i, _, rfl⟩ := List.mem_map.mp hv
      exact ⟨i, rfl⟩, 7, none, rfl⟩
  obtain ⟨ρ', s', h1, rfl, _, a, x, rfl⟩ := hl
  refine ⟨a + 1, fn_new (n := 1) ?_ rfl (by decide)⟩
  have hc : compL (gVar 2) none (e1 absV (e1 intV (eVar 2))) [some (.scr ns), some (.t (.int a)), none] (ns.map vI) [] = .ok ((ns.map vI).map fun v => match v with
      | .t (.int i) => .t (.int (if i < 0 then -i else i))
      | v => v) [] := by
    refine compL_map _ _ fun v hv => ?_
    obtain ⟨i, _, rfl⟩ := List.mem_map.mp hv
    exact ⟨_, rfl, rfl⟩
  have e1 : iterOf (.scr ns) [] = .ok (ns.map vI) [] := rfl
  simp [g_state, start, e1, h1, wipeE, hc, -p_vI]
  simp [St]
def Inr (i : Int) : Prop := -2147483648 ≤ i ∧ i ≤ 2147483647
/-- the shared defs of a law's text -/
structure Base (Γ : Nat → FEnv) : Prop where
  e74 : ∀ n, Γ (n + 1) 74 = mkFn 3 1 (g_state (Γ n))
  e75 : ∀ n, Γ (n + 1) 75 = mkFn 5 2 (g_draw (Γ n))
  e76 : ∀ n, Γ (n + 1) 76 = mkFn 2 2 (g_pick (Γ n))
  e77 : ∀ n, Γ (n + 1) 77 = mkFn 2 1 (g_number (Γ n))
/-- a store under way: a drawing's state, then r -/
def IsSt (r : Store) (s : Store) : Prop := ∃ c m, c.length ≤ 63 ∧ s = St c m r
section
variable {Γ : Nat → FEnv}
theorem b_draw (B : Base Γ) (n : Nat) {r s : Store} (h : IsSt r s) {k : Int} (hk : 0 < k) (hk2 : k < 2 ^ 60) : ∃ (v : Nat) (s' : Store), (v : Int) < k ∧ IsSt r s' ∧ Γ (n + 1) 75 [.loc 1, .t (.int k)] s = .ok (.t (.int v)) s' := by
  obtain ⟨c, m, hc, rfl⟩ := h
  obtain ⟨v, c', m', h1, h2, h3⟩ := draw (Γ n) c m r hk hk2 hc
  rw [B.e75]
  exact ⟨v, _, h1, ⟨c', m', h2, rfl⟩, h3⟩
theorem st_len {r s s' : Store} (h : IsSt r s) (h' : IsSt r s') : s'.length = s.length := by
  obtain ⟨c, m, hc, rfl⟩ := h
  obtain ⟨c', m', hc', rfl⟩ := h'
  rfl
theorem b_pick (B : Base Γ) (n : Nat) {r s : Store} (h : IsSt r s) {xs : List T} (h0 : xs ≠ []) (hl : xs.length ≤ L) : ∃ (d : T) (s' : Store), d ∈ xs ∧ IsSt r s' ∧ Γ (n + 2) 76 [.loc 1, .t (.lst xs)] s = .ok (.t d) s' := by
  have hp : 0 < xs.length := List.length_pos_iff.mpr h0
  obtain ⟨v, s', h1, h2, h3⟩ := b_draw B n h (k := xs.length) (by omega) (by simp [L] at hl; omega)
  have hv : v < xs.length := by omega
  refine ⟨xs[v], s', List.getElem_mem hv, h2, ?_⟩
  rw [B.e76]
  refine fn_rt ?_ rfl rfl (st_len h h2)
  have e5 : lenV (.t (.lst xs)) s = .ok (.t (.int xs.length)) s := rfl
  simp only [g_pick, start, p_ret, p_e2, p_call, p_vals, p_vals0, p_e1, List.map, List.cons_append, List.nil_append, p_var0, p_var1, p_ok, e5, h3]
  rw [lst_get (List.getElem?_eq_getElem hv)]
  rfl
theorem b_number (B : Base Γ) (n : Nat) {r s : Store} (h : IsSt r s) : ∃ (v : Int) (s' : Store), Inr v ∧ IsSt r s' ∧ Γ (n + 3) 77 [.loc 1] s = .ok (.t (.int v)) s' := by
  rw [B.e77]
  obtain ⟨v, s1, hv, hs1, h1⟩ := b_draw B (n + 1) h (k := 6) (by decide) (by decide)
  have et : trees [Val.t (.int 0), .t (.int (-1)), .t (.int 2147483647), .t (.int (-2147483648)), .t (.int 65536)] = some [.int 0, .int (-1), .int 2147483647, .int (-2147483648), .int 65536] := rfl
  by_cases h0 : v = 0
  · obtain ⟨d, s2, hd, hs2, h2⟩ := b_pick B n hs1 (xs := [.int 0, .int (-1), .int 2147483647, .int (-2147483648), .int 65536]) (by simp) (by simp [L])
    have hd' : ∃ i, Inr i ∧ d = .int i := by
      simp only [List.mem_cons, List.not_mem_nil, or_false] at hd
      rcases hd with rfl | rfl | rfl | rfl | rfl <;> exact ⟨_, by unfold Inr; omega, rfl⟩
    obtain ⟨i, hi, rfl⟩ := hd'
    refine ⟨i, s2, hi, hs2, fn_rt ?_ rfl rfl ((st_len hs1 hs2).trans (st_len h hs1))⟩
    subst h0
    simp [g_number, start, p_newLf et, h1, h2]
  · obtain ⟨u, s2, hu, hs2, h2⟩ := b_draw B (n + 1) hs1 (k := 7) (by decide) (by decide)
    refine ⟨u - 2, s2, by unfold Inr; omega, hs2, fn_rt ?_ rfl rfl ((st_len hs1 hs2).trans (st_len h hs1))⟩
    have : ((v : Int) == 0) = false := by simpa using h0
    simp [g_number, start, p_newLf et, h1, this, h2]
theorem b_state (B : Base Γ) (n : Nat) {ns : List Int} (h : ns.length ≤ 63) : ∃ s, IsSt [] s ∧ Γ (n + 1) 74 [.scr ns] [] = .ok (.loc 1) s := by
  obtain ⟨m, h1⟩ := state (Γ n) ns
  rw [B.e74]
  exact ⟨_, ⟨_, m, by rw [List.length_map]; exact h, rfl⟩, h1⟩
/-- a comprehension that draws -/
theorem comp_draw {β γ : Type} {g : CG} {f : CE} {ρ : Env} {r : Store} (iw : β → Val) (jw : γ → Val) (P : γ → Prop) : ∀ (vs : List β) (s : Store), IsSt r s → (∀ v ∈ vs, ∀ s, IsSt r s → ∃ ρ' y s', P y ∧ IsSt r s' ∧ g (iw v) ρ s = .ok ρ' s ∧ f ρ' s = .ok (jw y) s') →
    ∃ (ys : List γ) (s' : Store), (∀ y ∈ ys, P y) ∧ ys.length = vs.length ∧ IsSt r s' ∧ compL g none f ρ (vs.map iw) s = .ok (ys.map jw) s'
  | [], s, h, _ => ⟨[], s, fun _ z => absurd z (by simp), rfl, h, rfl⟩
  | v :: q, s, h, hh => by
    obtain ⟨ρ', y, s1, h1, h2, h3, h4⟩ := hh v List.mem_cons_self s h
    obtain ⟨ys, s2, k1, k2, k3, k4⟩ := comp_draw (g := g) (f := f) (ρ := ρ) iw jw P q s1 h2 fun w hw => hh w (List.mem_cons_of_mem _ hw)
    refine ⟨y :: ys, s2, fun z hz => ?_, by simp [k2], k3, ?_⟩
    · rcases List.mem_cons.mp hz with rfl | hz
      · exact h1
      · exact k1 z hz
    · show (g (iw v) ρ s).bind _ = _
      rw [h3]
      show (f ρ' s).bind _ = _
      rw [h4]
      show (compL g none f ρ (q.map iw) s1).bind _ = _
      rw [k4]
      rfl
end
end Fl
set_option Elab.async false
set_option linter.all false
set_option maxRecDepth 100000
/-! Fl: plain lemmas by what is met: what runs next, loops by an invariant, local lists that are made. -/
namespace Fl
/-- how a def's body ends: a tree; the caller's cells as they were -/
def Rt (s0 : Store) (d : T) (o : SO) : Prop := ∃ s', o = .rt (.t d) s' ∧ s'.take s0.length = s0
def Rx (s0 : Store) (x : Exc) (o : SO) : Prop := ∃ ρ s', o = .ex x ρ s' ∧ s'.take s0.length = s0
theorem fn_Rt {N ps : Nat} {b : SM} {args : List Val} {s : Store} {d : T} (hl : args.length = ps) (hw : Wf s) (h : Rt s d (b (start N args) s)) : mkFn N ps b args s = .ok (.t d) s := by
  obtain ⟨s', h1, h2⟩ := h
  exact fn_t h1 hl hw h2
theorem fn_Rx {N ps : Nat} {b : SM} {args : List Val} {s : Store} {x : Exc} (hl : args.length = ps) (hw : Wf s) (h : Rx s x (b (start N args) s)) : mkFn N ps b args s = .exc x s := by
  obtain ⟨ρ, s', h1, h2⟩ := h
  exact fn_x h1 hl hw h2
theorem Rt.mk {s0 s : Store} {d : T} (h : s.take s0.length = s0) : Rt s0 d (.rt (.t d) s) := ⟨s, rfl, h⟩
theorem Rt.self {s0 : Store} {d : T} : Rt s0 d (.rt (.t d) s0) := ⟨s0, rfl, List.take_length⟩
theorem Rx.mk {s0 s : Store} {x : Exc} {ρ : Env} (h : s.take s0.length = s0) : Rx s0 x (.ex x ρ s) := ⟨ρ, s, rfl, h⟩
theorem Rx.self {s0 : Store} {x : Exc} {ρ : Env} : Rx s0 x (.ex x ρ s0) := ⟨ρ, s0, rfl, List.take_length⟩
/-! ### loops -/
theorem for_ix {g : CG} {b : SM} {iw : Nat → Val} {n : Nat} {ρ : Env} {s : Store} {o : SO} (hc : forL g b ((List.range n).map iw) ρ s = o) (P : Nat → Env → Store → Prop) (h0 : P 0 ρ s)
    (hs : ∀ j, j < n → ∀ ρ s, P j ρ s → ∃ ρ1 s1 ρ2 s2, g (iw j) ρ s = .ok ρ1 s1 ∧ b ρ1 s1 = .nx ρ2 s2 ∧ P (j + 1) ρ2 s2) : ∃ ρ' s', o = .nx ρ' s' ∧ P n ρ' s' := by
  have key : ∀ (m j : Nat) (ρ : Env) (s : Store), j + m ≤ n → P j ρ s → ∃ ρ' s', forL g b ((List.range' j m).map iw) ρ s = .nx ρ' s' ∧ P (j + m) ρ' s' := by
    intro m
    induction m with
    | zero => intro j ρ s _ h; exact ⟨ρ, s, rfl, h⟩
    | succ m ih =>
      intro j ρ s hj h
      obtain ⟨ρ1, s1, ρ2, s2, h1, h2, h3⟩ := hs j (by omega) ρ s h
      obtain ⟨ρ', s', h4, h5⟩ := ih (j + 1) ρ2 s2 (by omega) h3
      refine ⟨ρ', s', ?_, by rw [show j + (m + 1) = j + 1 + m by omega]; exact h5⟩
      rw [List.range'_succ, List.map_cons]
      show (g (iw j) ρ s).so _ _ = _
      rw [h1]
      show (match b ρ1 s1 with
        | .nx ρ2 s2 => forL g b ((List.range' (j + 1) m).map iw) ρ2 s2
        | .ct ρ2 s2 => forL g b ((List.range' (j + 1) m).map iw) ρ2 s2
        | .bk ρ2 s2 => .nx ρ2 s2
        | o => o) = _
      rw [h2]
      exact h4
  obtain ⟨ρ', s', h1, h2⟩ := key n 0 ρ s (by omega) h0
  rw [← List.range_eq_range', hc] at h1
  rw [Nat.zero_add] at h2
  exact ⟨ρ', s', h1, h2⟩
/-- .. that a turn may end: Q of how -/
theorem for_ixr {g : CG} {b : SM} {iw : Nat → Val} {n : Nat} {ρ : Env} {s : Store} {o : SO} (hc : forL g b ((List.range n).map iw) ρ s = o) (P : Nat → Env → Store → Prop) (Q : Nat → SO → Prop) (h0 : P 0 ρ s)
    (hs : ∀ j, j < n → ∀ ρ s, P j ρ s → ∃ ρ1 s1, g (iw j) ρ s = .ok ρ1 s1 ∧ ((∃ ρ2 s2, b ρ1 s1 = .nx ρ2 s2 ∧ P (j + 1) ρ2 s2) ∨ ((∃ v s2, b ρ1 s1 = .rt v s2) ∨ (∃ x ρ2 s2, b ρ1 s1 = .ex x ρ2 s2)) ∧ Q j (b ρ1 s1))) :
    (∃ ρ' s', o = .nx ρ' s' ∧ P n ρ' s') ∨ (∃ j, j < n ∧ ((∃ v s2, o = .rt v s2) ∨ (∃ x ρ2 s2, o = .ex x ρ2 s2)) ∧ Q j o) := by
  have key : ∀ (m j : Nat) (ρ : Env) (s : Store), j + m ≤ n → P j ρ s → (∃ ρ' s', forL g b ((List.range' j m).map iw) ρ s = .nx ρ' s' ∧ P (j + m) ρ' s') ∨ (∃ i, i < n ∧ ((∃ v s2, forL g b ((List.range' j m).map iw) ρ s = .rt v s2) ∨ (∃ x ρ2 s2, forL g b ((List.range' j m).map iw) ρ s = .ex x ρ2 s2)) ∧ Q i (forL g b ((List.range' j m).map iw) ρ s)) := by
    intro m
    induction m with
    | zero => intro j ρ s _ h; exact .inl ⟨ρ, s, rfl, h⟩
    | succ m ih =>
      intro j ρ s hj h
      obtain ⟨ρ1, s1, h1, h2⟩ := hs j (by omega) ρ s h
      have e : forL g b ((List.range' j (m + 1)).map iw) ρ s = (match b ρ1 s1 with
        | .nx ρ2 s2 => forL g b ((List.range' (j + 1) m).map iw) ρ2 s2
        | .ct ρ2 s2 => forL g b ((List.range' (j + 1) m).map iw) ρ2 s2
        | .bk ρ2 s2 => .nx ρ2 s2
        | o => o) := by
        rw [List.range'_succ, List.map_cons]
        show (g (iw j) ρ s).so _ _ = _
        rw [h1]
        rfl
      rw [e]
      rcases h2 with ⟨ρ2, s2, h2, h3⟩ | ⟨h2, h3⟩
      · rw [h2]
        have := ih (j + 1) ρ2 s2 (by omega) h3
        rw [show j + (m + 1) = j + 1 + m by omega]
        exact this
      · refine .inr ⟨j, by omega, ?_⟩
        rcases h2 with ⟨v, s2, h2⟩ | ⟨x, ρ2, s2, h2⟩
        · rw [h2] at h3 ⊢
          exact ⟨.inl ⟨_, _, rfl⟩, h3⟩
        · rw [h2] at h3 ⊢
          exact ⟨.inr ⟨_, _, _, rfl⟩, h3⟩
  have := key n 0 ρ s (by omega) h0
  rw [← List.range_eq_range', hc, Nat.zero_add] at this
  exact this
theorem map_ix {β : Type} [Inhabited β] (iw : β → Val) (xs : List β) : xs.map iw = (List.range xs.length).map fun j => iw (xs.getD j default) := by
  refine List.ext_getElem (by simp) fun i h1 h2 => ?_
  simp only [List.getElem_map, List.getElem_range]
  rw [List.getD_eq_getElem?_getD, List.getElem?_eq_getElem (by simpa using h1)]
  rfl
/-- a loop over items, by the part walked -/
theorem for_pre {β : Type} {g : CG} {b : SM} {iw : β → Val} {xs : List β} {ρ : Env} {s : Store} {o : SO} (hc : forL g b (xs.map iw) ρ s = o) (P : List β → Env → Store → Prop) (h0 : P [] ρ s)
    (hs : ∀ p x q, xs = p ++ x :: q → ∀ ρ s, P p ρ s → ∃ ρ1 s1 ρ2 s2, g (iw x) ρ s = .ok ρ1 s1 ∧ b ρ1 s1 = .nx ρ2 s2 ∧ P (p ++ [x]) ρ2 s2) : ∃ ρ' s', o = .nx ρ' s' ∧ P xs ρ' s' := by
  have key : ∀ (q p : List β) (ρ : Env) (s : Store), xs = p ++ q → P p ρ s → ∃ ρ' s', forL g b (q.map iw) ρ s = .nx ρ' s' ∧ P xs ρ' s' := by
    intro q
    induction q with
    | nil => intro p ρ s e h; rw [List.append_nil] at e; subst e; exact ⟨ρ, s, rfl, h⟩
    | cons x q ih =>
      intro p ρ s e h
      obtain ⟨ρ1, s1, ρ2, s2, h1, h2, h3⟩ := hs p x q e ρ s h
      obtain ⟨ρ', s', h4, h5⟩ := ih (p ++ [x]) ρ2 s2 (by rw [e]; simp) h3
      refine ⟨ρ', s', ?_, h5⟩
      show (g (iw x) ρ s).so _ _ = _
      rw [h1]
      show (match b ρ1 s1 with
        | .nx ρ2 s2 => forL g b (q.map iw) ρ2 s2
        | .ct ρ2 s2 => forL g b (q.map iw) ρ2 s2
        | .bk ρ2 s2 => .nx ρ2 s2
        | o => o) = _
      rw [h2]
      exact h4
  obtain ⟨ρ', s', h1, h2⟩ := key xs [] ρ s rfl h0
  exact ⟨ρ', s', hc ▸ h1, h2⟩
theorem comp_exc {β : Type} {g : CG} {f : CE} {ρ : Env} {s : Store} (iw : β → Val) (h : β → Val) (p : β → Bool) (x : Exc) : ∀ vs : List β, (∀ v ∈ vs, ∃ ρ', g (iw v) ρ s = .ok ρ' s ∧ (p v = true → f ρ' s = .ok (h v) s) ∧ (p v = false → f ρ' s = .exc x s)) →
    (vs.all p = true → compL g none f ρ (vs.map iw) s = .ok (vs.map h) s) ∧ (vs.all p = false → compL g none f ρ (vs.map iw) s = .exc x s)
  | [], _ => ⟨fun _ => rfl, fun h => by simp at h⟩
  | v :: r, hh => by
    obtain ⟨ρ', h1, h2, h3⟩ := hh v List.mem_cons_self
    obtain ⟨i1, i2⟩ := comp_exc (g := g) (f := f) (ρ := ρ) (s := s) iw h p x r fun w hw => hh w (List.mem_cons_of_mem _ hw)
    have e : compL g none f ρ ((v :: r).map iw) s = (f ρ' s).bind fun a s => (compL g none f ρ (r.map iw) s).bind fun xs s => .ok (a :: xs) s := by
      show (g (iw v) ρ s).bind _ = _
      rw [h1]
      rfl
    rw [e]
    rw [List.all_cons]
    cases hp : p v with
    | true =>
      rw [h2 hp, Bool.true_and, p_ok]
      refine ⟨fun z => ?_, fun z => ?_⟩
      · rw [i1 z]; rfl
      · rw [i2 z]; rfl
    | false =>
      rw [h3 hp]
      exact ⟨fun z => by simp at z, fun _ => rfl⟩
/-! ### local lists -/
theorem Wf.set {s : Store} {n : Nat} {c : Option Cell} (h : Wf s) (hc : ∀ k, c = some k → k.below s.length = true) : Wf (s.set n c) := by
  unfold Wf Store.below at *
  rw [List.length_set, List.all_eq_true] at *
  intro x hx
  rcases List.mem_or_eq_of_mem_set hx with hx | rfl
  · exact h x hx
  · cases x with
    | none => rfl
    | some k => exact hc k rfl
theorem below_t (n : Nat) (ts : List T) : (Cell.lst (ts.map Val.t)).below n = true := by
  simp [Cell.below, Val.below]
theorem Wf.app1 {s : Store} {ts : List T} (h : Wf s) : Wf (s ++ [some (.lst (ts.map Val.t))]) := by
  refine h.app fun c hc => ?_
  simp only [List.mem_singleton] at hc
  subst hc
  exact below_t _ ts
/-- a list of trees made behind s0, in the cell v -/
structure Own (s0 s : Store) (v : Val) (ts : List T) : Prop where
  ex : ∃ n, v = .loc n ∧ s0.length ≤ n ∧ s.cell n = some (.lst (ts.map Val.t))
  tk : s.take s0.length = s0
  wf : Wf s
theorem take_set {s s0 : Store} {n : Nat} {c : Option Cell} (h : s.take s0.length = s0) (hn : s0.length ≤ n) : (s.set n c).take s0.length = s0 := by
  rw [List.take_set_of_le hn, h]
theorem take_app {s s0 t : Store} (h : s.take s0.length = s0) : (s ++ t).take s0.length = s0 := by
  have hl : s0.length ≤ s.length := by
    have := congrArg List.length h
    rw [List.length_take] at this
    omega
  rw [List.take_append_of_le_length hl, h]
theorem take_len {s s0 : Store} (h : s.take s0.length = s0) : s0.length ≤ s.length := by
  have := congrArg List.length h
  rw [List.length_take] at this
  omega
section
variable {s0 s : Store} {v : Val} {ts us : List T} {d : T}
theorem own_new (hw : Wf s) (ht : s.take s0.length = s0) (ts : List T) : Own s0 (s ++ [some (.lst (ts.map Val.t))]) (.loc s.length) ts :=
  ⟨⟨s.length, rfl, take_len ht, e_cell _⟩, take_app ht, hw.app1⟩
theorem own_newL (hw : Wf s) (ht : s.take s0.length = s0) (ts : List T) : ∃ v s', newL true (ts.map Val.t) s = .ok v s' ∧ Own s0 s' v ts := ⟨_, _, rfl, own_new hw ht ts⟩
theorem own_app (h : Own s0 s v ts) (hl : ts.length < L) (d : T) : ∃ s', appendV v (.t d) s = .ok (.t .non) s' ∧ Own s0 s' v (ts ++ [d]) := by
  obtain ⟨⟨n, rfl, hn, hc⟩, ht, hw⟩ := h
  have hlt := cell_lt hc
  refine ⟨s.set n (some (.lst (ts.map Val.t ++ [.t d]))), ?_, ⟨n, rfl, hn, ?_⟩, take_set ht hn, hw.set ?_⟩
  · unfold appendV
    dsimp only
    rw [hc]
    dsimp only
    rw [if_pos (by rw [List.length_map]; exact hl)]
    rfl
  · rw [cell_set hlt, if_pos rfl, List.map_append]; rfl
  · rintro k hk
    injection hk with hk
    subst hk
    have := below_t s.length (ts ++ [d])
    rw [List.map_append] at this
    exact this
theorem own_lstC (h : Own s0 s v ts) : lstC v s = .ok () s := by
  obtain ⟨⟨n, rfl, hn, hc⟩, ht, hw⟩ := h
  unfold lstC
  dsimp only
  rw [hc]
theorem own_items (h : Own s0 s v ts) : itemsL v s = .ok (ts.map .t) s := by
  obtain ⟨⟨n, rfl, hn, hc⟩, ht, hw⟩ := h
  unfold itemsL
  dsimp only
  rw [hc]
theorem own_len (h : Own s0 s v ts) : lenV v s = .ok (iv ts.length) s := by
  obtain ⟨⟨n, rfl, hn, hc⟩, ht, hw⟩ := h
  unfold lenV
  dsimp only
  rw [hc]
  dsimp only
  rw [List.length_map]; rfl
theorem addV_eq {c : Bool} {s : Store} {v : Val} {us xs : List Val} {t : List T} (h1 : itemsL v s = .ok xs s) (hv : ∀ t, v = .t t → ∃ q, t = .lst q) : addV c v (.t (.lst t)) s = (if xs.length + t.length ≤ L then newL c (xs ++ t.map .t) else bad) s := by
  have e2 : itemsL (.t (.lst t)) s = .ok (t.map .t) s := rfl
  cases v with
  | t d =>
    obtain ⟨q, rfl⟩ := hv d rfl
    show (itemsL (.t (.lst q)) >>= fun x => itemsL (.t (.lst t)) >>= fun y => if x.length + y.length ≤ L then newL c (x ++ y) else bad) s = _
    rw [bind_eq, h1, bind_ok, bind_eq, e2, bind_ok, List.length_map]
  | loc n =>
    show (itemsL (.loc n) >>= fun x => itemsL (.t (.lst t)) >>= fun y => if x.length + y.length ≤ L then newL c (x ++ y) else bad) s = _
    rw [bind_eq, h1, bind_ok, bind_eq, e2, bind_ok, List.length_map]
  | scr n =>
    show (itemsL (.scr n) >>= fun x => itemsL (.t (.lst t)) >>= fun y => if x.length + y.length ≤ L then newL c (x ++ y) else bad) s = _
    rw [bind_eq, h1, bind_ok, bind_eq, e2, bind_ok, List.length_map]
  | ex x =>
    show (itemsL (.ex x) >>= fun x => itemsL (.t (.lst t)) >>= fun y => if x.length + y.length ≤ L then newL c (x ++ y) else bad) s = _
    rw [bind_eq, h1, bind_ok, bind_eq, e2, bind_ok, List.length_map]
theorem add_tt (c : Bool) (s : Store) (ts us : List T) (hl : ts.length + us.length ≤ L) : addV c (.t (.lst ts)) (.t (.lst us)) s = newL c ((ts ++ us).map .t) s := by
  rw [addV_eq (us := []) (xs := ts.map .t) rfl (fun t h => by injection h with h; exact ⟨ts, h.symm⟩), if_pos (by rw [List.length_map]; exact hl), List.map_append]
@[simp] theorem newL_t (ts : List T) (s : Store) : newL false (ts.map Val.t) s = .ok (.t (.lst ts)) s := p_newLf (trees_map ts) s
theorem own_addF (h : Own s0 s v ts) (hl : ts.length + us.length ≤ L) : addV false v (.t (.lst us)) s = .ok (.t (.lst (ts ++ us))) s := by
  have hi := own_items h
  obtain ⟨⟨n, rfl, hn, hc⟩, ht, hw⟩ := h
  rw [addV_eq (us := []) hi (fun t h => by cases h), if_pos (by rw [List.length_map]; exact hl), ← List.map_append, newL_t]
theorem own_add (h : Own s0 s v ts) (hl : ts.length + us.length ≤ L) : ∃ v' s', addV true v (.t (.lst us)) s = .ok v' s' ∧ Own s0 s' v' (ts ++ us) := by
  have hi := own_items h
  have hw := h.wf
  have ht := h.tk
  obtain ⟨⟨n, rfl, hn, hc⟩, _, _⟩ := h
  refine ⟨_, _, ?_, own_new hw ht (ts ++ us)⟩
  rw [addV_eq (us := []) hi (fun t h => by cases h), if_pos (by rw [List.length_map]; exact hl), ← List.map_append]
  rfl
theorem own_set (h : Own s0 s v ts) {j : Nat} (hj : j < ts.length) (d : T) : ∃ s', setI v (iv (j : Nat)) (.t d) s = .ok () s' ∧ Own s0 s' v (ts.set j d) := by
  obtain ⟨⟨n, rfl, hn, hc⟩, ht, hw⟩ := h
  have hlt := cell_lt hc
  refine ⟨s.set n (some (.lst ((ts.map Val.t).set j (.t d)))), ?_, ⟨n, rfl, hn, ?_⟩, take_set ht hn, hw.set ?_⟩
  · unfold setI
    dsimp only
    rw [hc]
    dsimp only
    rw [px_nat (by rw [List.length_map]; exact hj)]
  · rw [cell_set hlt, if_pos rfl, List.map_set]
  · rintro k hk
    injection hk with hk
    subst hk
    have := below_t s.length (ts.set j d)
    rw [List.map_set] at this
    exact this
theorem own_get (h : Own s0 s v ts) {j : Nat} {d : T} (hj : ts[j]? = some d) : subI v (iv (j : Nat)) s = .ok (.t d) s := by
  obtain ⟨⟨n, rfl, hn, hc⟩, ht, hw⟩ := h
  have hl : j < ts.length := (List.getElem?_eq_some_iff.mp hj).1
  unfold subI
  dsimp only
  rw [hc]
  dsimp only
  rw [px_nat (by rw [List.length_map]; exact hl)]
  dsimp only
  rw [List.getElem?_map, hj]
  rfl
theorem own_frz (h : Own s0 s v ts) : ∃ s', freeze v s = .ok (.t (.lst ts)) s' ∧ s'.take s0.length = s0 ∧ Wf s' := by
  obtain ⟨⟨n, rfl, hn, hc⟩, ht, hw⟩ := h
  refine ⟨s.set n none, ?_, take_set ht hn, hw.set (fun k hk => by simp at hk)⟩
  unfold freeze
  dsimp only
  rw [hc]
  dsimp only
  rw [trees_map]
theorem own_sfz {i : Nat} {ρ : Env} (h : Own s0 s v ts) (hi : ρ[i]? = some (some v)) : ∃ s', sFz i ρ s = .nx (ρ.set i (some (.t (.lst ts)))) s' ∧ s'.take s0.length = s0 ∧ Wf s' := by
  obtain ⟨s', h1, h2, h3⟩ := own_frz h
  refine ⟨s', ?_, h2, h3⟩
  obtain ⟨⟨n, rfl, hn, hc⟩, ht, hw⟩ := h
  unfold sFz
  rw [hi]
  dsimp only
  rw [h1]
end
theorem own_sfz2 {s0 s : Store} {v : Val} {ts : List T} {i : Nat} {ρ : Env} {o : SO} (hz : sFz i ρ s = o) (h : Own s0 s v ts) (hi : ρ[i]? = some (some v)) : ∃ s', o = .nx (ρ.set i (some (.t (.lst ts)))) s' ∧ s'.take s0.length = s0 ∧ Wf s' := by
  obtain ⟨s', h1, h2⟩ := own_sfz h hi
  exact ⟨s', by rw [← hz, h1], h2⟩
/-! ### comprehensions that draw -/
theorem b_drawN {Γ : Nat → FEnv} (B : Base Γ) (n : Nat) {r s : Store} (h : IsSt r s) {k : Nat} (hk : 0 < k) (hk2 : k ≤ 100000000) : ∃ (v : Nat) (s' : Store), v < k ∧ IsSt r s' ∧ Γ (n + 1) 75 [.loc 1, .t (.int (k : Nat))] s = .ok (.t (.int (v : Nat))) s' := by
  have h60 : (2:Int)^60 = 1152921504606846976 := by decide
  obtain ⟨v, s', a, b, c⟩ := b_draw B n h (k := (k : Nat)) (by omega) (by omega)
  exact ⟨v, s', by omega, b, c⟩

theorem p_rangeS {b : CE} {ρ : Env} {s s' : Store} {n : Nat} (h : b ρ s = .ok (iv (n : Nat)) s') (hn : n ≤ 100000000) : iRange1 b ρ s = .ok ((List.range n).map fun (k : Nat) => iv k) s' := by
  have h62 : (2:Int)^62 = 4611686018427387904 := by decide
  show (b ρ s).bind _ = _
  rw [h]
  show (if rangeOk (n : Int) = true then pure (upto 0 ((n : Int).toNat)) else bad : M (List Val)) s' = _
  rw [if_pos (by unfold rangeOk; simp; omega)]
  show R.ok (upto 0 ((n : Int).toNat)) s' = _
  rw [upto_eq, Int.toNat_natCast]
  simp only [Int.zero_add]
theorem rdraw {own : List Nat} {a : CE} {i : Nat} {f : CE} {ρ : Env} {s s1 r : Store} {n : Nat} {o : R Val} {γ : Type} (hc : eCompR false own (iRange1 a) (gVar i) none f ρ s = o) (ha : a ρ s = .ok (iv (n : Nat)) s1) (hn : n ≤ 10000) (h1 : IsSt r s1) (jt : γ → T) (P : γ → Prop)
    (hs : ∀ k, k < n → ∀ s, IsSt r s → ∃ y s', P y ∧ IsSt r s' ∧ f ((wipeE ρ own).set i (some (iv (k : Nat)))) s = .ok (.t (jt y)) s') : ∃ (ys : List γ) (s' : Store), (∀ y ∈ ys, P y) ∧ ys.length = n ∧ IsSt r s' ∧ o = .ok (.t (.lst (ys.map jt))) s' := by
  have hr := p_rangeS ha (by omega)
  rw [p_compRn hr (by omega)] at hc
  obtain ⟨ys, s', h1, h2, h3, h4⟩ := comp_draw (g := gVar i) (f := f) (ρ := wipeE ρ own) (r := r) (fun (k : Nat) => iv k) (fun y => .t (jt y)) P (List.range n) s1 h1 (fun k hk s h => by
    obtain ⟨y, s', a, b, c⟩ := hs k (List.mem_range.mp hk) s h
    exact ⟨_, y, s', a, b, rfl, c⟩)
  rw [List.length_range] at h2
  refine ⟨ys, s', h1, h2, h3, ?_⟩
  rw [← hc, h4, p_ok, show (ys.map fun y => Val.t (jt y)) = (ys.map jt).map .t by rw [List.map_map]; rfl, newL_t]
theorem ldraw {own : List Nat} {a : CE} {i : Nat} {f : CE} {ρ : Env} {s s1 r : Store} {ts : List T} {o : R Val} {γ : Type} (hc : eComp false own (iV a) (gVar i) none f ρ s = o) (ha : a ρ s = .ok (.t (.lst ts)) s1) (h1 : IsSt r s1) (jt : γ → T) (P : γ → Prop)
    (hs : ∀ d ∈ ts, ∀ s, IsSt r s → ∃ y s', P y ∧ IsSt r s' ∧ f ((wipeE ρ own).set i (some (.t d))) s = .ok (.t (jt y)) s') : ∃ (ys : List γ) (s' : Store), (∀ y ∈ ys, P y) ∧ ys.length = ts.length ∧ IsSt r s' ∧ o = .ok (.t (.lst (ys.map jt))) s' := by
  obtain ⟨ys, s', h1, h2, h3, h4⟩ := comp_draw (g := gVar i) (f := f) (ρ := wipeE ρ own) (r := r) (fun d => .t d) (fun y => .t (jt y)) P ts s1 h1 (fun k hk s h => by
    obtain ⟨y, s', a, b, c⟩ := hs k hk s h
    exact ⟨_, y, s', a, b, rfl, c⟩)
  refine ⟨ys, s', h1, h2, h3, ?_⟩
  rw [← hc]
  show ((a ρ s).bind iterOf).bind (fun vs s => (compL (gVar i) none f (wipeE ρ own) vs s).bind (newL false)) = _
  rw [ha]
  show (compL (gVar i) none f (wipeE ρ own) (ts.map .t) s1).bind (newL false) = _
  rw [h4, p_ok, show (ys.map fun y => Val.t (jt y)) = (ys.map jt).map .t by rw [List.map_map]; rfl, newL_t]
/-! ### displays of trees -/
@[simp] theorem newL0 (s : Store) : newL false [] s = .ok (.t (.lst [])) s := nrfl rfl
@[simp] theorem newL1 (a : T) (s : Store) : newL false [.t a] s = .ok (.t (.lst [a])) s := nrfl rfl
@[simp] theorem newT1 (a : T) (s : Store) : newT false [.t a] s = .ok (.t (.tup [a])) s := nrfl rfl
@[simp] theorem newL2 (a b : T) (s : Store) : newL false [.t a, .t b] s = .ok (.t (.lst [a, b])) s := nrfl rfl
@[simp] theorem newT2 (a b : T) (s : Store) : newT false [.t a, .t b] s = .ok (.t (.tup [a, b])) s := nrfl rfl
@[simp] theorem newL3 (a b c : T) (s : Store) : newL false [.t a, .t b, .t c] s = .ok (.t (.lst [a, b, c])) s := nrfl rfl
@[simp] theorem newT3 (a b c : T) (s : Store) : newT false [.t a, .t b, .t c] s = .ok (.t (.tup [a, b, c])) s := nrfl rfl
@[simp] theorem newL4 (a b c d : T) (s : Store) : newL false [.t a, .t b, .t c, .t d] s = .ok (.t (.lst [a, b, c, d])) s := nrfl rfl
@[simp] theorem newT4 (a b c d : T) (s : Store) : newT false [.t a, .t b, .t c, .t d] s = .ok (.t (.tup [a, b, c, d])) s := nrfl rfl
@[simp] theorem newL5 (a b c d e : T) (s : Store) : newL false [.t a, .t b, .t c, .t d, .t e] s = .ok (.t (.lst [a, b, c, d, e])) s := nrfl rfl
@[simp] theorem newT5 (a b c d e : T) (s : Store) : newT false [.t a, .t b, .t c, .t d, .t e] s = .ok (.t (.tup [a, b, c, d, e])) s := nrfl rfl
@[simp] theorem newL6 (a b c d e f : T) (s : Store) : newL false [.t a, .t b, .t c, .t d, .t e, .t f] s = .ok (.t (.lst [a, b, c, d, e, f])) s := nrfl rfl
@[simp] theorem newT6 (a b c d e f : T) (s : Store) : newT false [.t a, .t b, .t c, .t d, .t e, .t f] s = .ok (.t (.tup [a, b, c, d, e, f])) s := nrfl rfl
@[simp] theorem newL7 (a b c d e f g : T) (s : Store) : newL false [.t a, .t b, .t c, .t d, .t e, .t f, .t g] s = .ok (.t (.lst [a, b, c, d, e, f, g])) s := nrfl rfl
@[simp] theorem newT7 (a b c d e f g : T) (s : Store) : newT false [.t a, .t b, .t c, .t d, .t e, .t f, .t g] s = .ok (.t (.tup [a, b, c, d, e, f, g])) s := nrfl rfl
@[simp] theorem newL8 (a b c d e f g h : T) (s : Store) : newL false [.t a, .t b, .t c, .t d, .t e, .t f, .t g, .t h] s = .ok (.t (.lst [a, b, c, d, e, f, g, h])) s := nrfl rfl
@[simp] theorem newT8 (a b c d e f g h : T) (s : Store) : newT false [.t a, .t b, .t c, .t d, .t e, .t f, .t g, .t h] s = .ok (.t (.tup [a, b, c, d, e, f, g, h])) s := nrfl rfl
@[simp] theorem newL9 (a b c d e f g h i : T) (s : Store) : newL false [.t a, .t b, .t c, .t d, .t e, .t f, .t g, .t h, .t i] s = .ok (.t (.lst [a, b, c, d, e, f, g, h, i])) s := nrfl rfl
@[simp] theorem newT9 (a b c d e f g h i : T) (s : Store) : newT false [.t a, .t b, .t c, .t d, .t e, .t f, .t g, .t h, .t i] s = .ok (.t (.tup [a, b, c, d, e, f, g, h, i])) s := nrfl rfl
@[simp] theorem p_gTup3 (i j k : Nat) (a b c : T) (ρ : Env) (s : Store) : gTup [i, j, k] (.t (.tup [a, b, c])) ρ s = .ok (((ρ.set i (some (.t a))).set j (some (.t b))).set k (some (.t c))) s := nrfl rfl
@[simp] theorem p_gTup4 (i j k l : Nat) (a b c d : T) (ρ : Env) (s : Store) : gTup [i, j, k, l] (.t (.tup [a, b, c, d])) ρ s = .ok ((((ρ.set i (some (.t a))).set j (some (.t b))).set k (some (.t c))).set l (some (.t d))) s := nrfl rfl
/-! ### a local list beside a drawing -/
theorem wf_St {c : List Int} {m : Int} {r : Store} (h : ∀ x ∈ r, ∀ k, x = some k → k.below (r.length + 2) = true) : Wf (St c m r) := by
  unfold Wf Store.below
  rw [List.all_eq_true, St_len]
  intro x hx
  unfold St at hx
  rcases List.mem_cons.mp hx with rfl | hx
  · have := below_t (r.length + 2) (c.map .int)
    rw [List.map_map] at this
    exact this
  rcases List.mem_cons.mp hx with rfl | hx
  · simp [Cell.below, Val.below]
  · cases x with
    | none => rfl
    | some k => exact h _ hx k rfl
theorem Wf.st {c : List Int} {m : Int} {r : Store} (h : Wf (St c m r)) : ∀ x ∈ r, ∀ k, x = some k → k.below (r.length + 2) = true := by
  unfold Wf Store.below at h
  rw [List.all_eq_true, St_len] at h
  rintro x hx k rfl
  exact h (some k) (List.mem_cons_of_mem _ (List.mem_cons_of_mem _ hx))
theorem St_app {c : List Int} {m : Int} {r t : Store} : St c m r ++ t = St c m (r ++ t) := rfl
theorem take_St {c : List Int} {m : Int} {s : Store} (h : s.take (St c m []).length = St c m []) : s = St c m (s.drop 2) := by
  rw [St_len] at h
  conv => lhs; rw [← List.take_append_drop 2 s]
  have h2 : s.take 2 = St c m [] := h
  rw [h2]; rfl
theorem own_st {c : List Int} {m : Int} {s : Store} {v : Val} {ts : List T} (h : Own (St c m []) s v ts) (hc : c.length ≤ 63) : ∃ r, IsSt r s ∧ ∀ s', IsSt r s' → ∃ c' m', c'.length ≤ 63 ∧ Own (St c' m' []) s' v ts := by
  obtain ⟨⟨n, rfl, hn, he⟩, ht, hw⟩ := h
  have e := take_St ht
  generalize s.drop 2 = r at e
  subst e
  refine ⟨r, ⟨c, m, hc, rfl⟩, ?_⟩
  rintro s' ⟨c', m', hc', rfl⟩
  refine ⟨c', m', hc', ⟨n, rfl, hn, ?_⟩, rfl, wf_St hw.st⟩
  rw [St_len] at hn
  obtain ⟨k, rfl⟩ : ∃ k, n = k + 2 := ⟨n - 2, by simp at hn; omega⟩
  exact he
theorem st_wf {c : List Int} {m : Int} {s : Store} (ht : s.take (St c m []).length = St c m []) (hw : Wf s) (hc : c.length ≤ 63) : ∃ r, IsSt r s ∧ ∀ s', IsSt r s' → Wf s' := by
  have e := take_St ht
  generalize s.drop 2 = r at e
  subst e
  exact ⟨r, ⟨c, m, hc, rfl⟩, by rintro s' ⟨c', m', hc', rfl⟩; exact wf_St hw.st⟩
end Fl
set_option Elab.async false
set_option linter.all false
set_option maxRecDepth 100000
/-! Fl: the numbers of the program. -/
namespace Fl
noncomputable section
def g_wrapped (G : FEnv) : SM := sRet (e2 subV (e2 modV (e2 (addV false) (eVar 0) (eC (.int 2147483648))) (eC (.int 4294967296))) (eC (.int 2147483648)))
def g_calculate (G : FEnv) : SM := sSeq (sIf (tIn (eVar 0) (eTup false [eC (.str "/"), eC (.str "mod")])) (sSeq (sIf (tEq (eVar 2) (eC (.int 0))) (sRaise "TrapError") (sNil)) (sRet (eIf (tEq (eVar 0) (eC (.str "/"))) (eCall G 0 [e2 fdivV (eVar 1) (eVar 2)]) (e2 modV (eVar 1) (eVar 2))))) (sNil)) (sSeq (sIf (tEq (eVar 0) (eC (.str "+"))) (sRet (eCall G 0 [e2 (addV false) (eVar 1) (eVar 2)])) (sNil)) (sSeq (sIf (tEq (eVar 0) (eC (.str "-"))) (sRet (eCall G 0 [e2 subV (eVar 1) (eVar 2)])) (sNil)) (sSeq (sIf (tEq (eVar 0) (eC (.str "*"))) (sRet (eCall G 0 [e2 (mulV false) (eVar 1) (eVar 2)])) (sNil)) (sSeq (sIf (tEq (eVar 0) (eC (.str "min"))) (sRet (e2 min2 (eVar 1) (eVar 2))) (sNil)) (sSeq (sIf (tEq (eVar 0) (eC (.str "max"))) (sRet (e2 max2 (eVar 1) (eVar 2))) (sNil)) (sRet (eIf (tEq (eVar 0) (eC (.str "<"))) (e1 intV (eB (tLt (eVar 1) (eVar 2)))) (e1 intV (eB (tEq (eVar 1) (eVar 2)))))))))))
end
/-- wrapped -/
def wrp (n : Int) : Int := (n + 2147483648).fmod 4294967296 - 2147483648
theorem wrp_in {x : Int} (h : Inr x) : wrp x = x := by
  unfold Inr at h
  unfold wrp
  rw [fm _ (by decide)]
  omega
theorem wrp_rng (x : Int) : Inr (wrp x) := by
  unfold Inr wrp
  rw [fm _ (by decide)]
  omega
/-- a sign's number -/
def cal (x : String) (a b : Int) : Int :=
  if x = "+" then wrp (a + b) else if x = "-" then wrp (a - b) else if x = "*" then wrp (a * b) else if x = "/" then wrp (a.fdiv b) else if x = "mod" then a.fmod b
  else if x = "min" then (if b < a then b else a) else if x = "max" then (if b > a then b else a) else if x = "<" then (if a < b then 1 else 0) else (if a = b then 1 else 0)
def signs : List String := ["+", "-", "*", "/", "mod", "min", "max", "<", "="]
def calT (x : String) (b : Int) : Bool := (x == "/" || x == "mod") && b == 0
structure BaseN (Γ : Nat → FEnv) : Prop where
  n0 : ∀ n, Γ (n + 1) 0 = mkFn 1 1 (g_wrapped (Γ n))
  n1 : ∀ n, Γ (n + 1) 1 = mkFn 3 3 (g_calculate (Γ n))
abbrev trap : Exc := ⟨"TrapError", none⟩
theorem mul_inr {a b : Int} (h : Inr a) : mulOk a b = true := by
  unfold Inr at h
  unfold mulOk
  simp
  left
  omega
theorem fdiv_inr {a b : Int} (h : Inr b) (h0 : b ≠ 0) : fdivOk a b = true := by
  unfold Inr at h
  unfold fdivOk
  simp
  omega
theorem in_tup2 (x a b : String) (s : Store) : inV (.t (.str x)) (.t (.tup [.str a, .str b])) s = .ok (a == x || b == x) s := by
  show (if (T.flat (.str x) && [T.str a, T.str b].all T.flat) = true then R.ok (inT (.str x) [.str a, .str b]) s else .bad) = _
  rw [if_pos (show (T.flat (.str x) && [T.str a, T.str b].all T.flat) = true from rfl)]
  show R.ok (T.eqv (.str a) (.str x) || (T.eqv (.str b) (.str x) || false)) s = _
  rw [T.eqv, T.eqv, Bool.or_false]
theorem tup2_new (a b : String) (s : Store) : newT false [.t (.str a), .t (.str b)] s = .ok (.t (.tup [.str a, .str b])) s := rfl
section
variable {Γ : Nat → FEnv}
theorem n_wrap (B : BaseN Γ) (n : Nat) (x : Int) (s : Store) : Γ (n + 1) 0 [.t (.int x)] s = .ok (.t (.int (wrp x))) s := by
  rw [B.n0]
  refine fn_rt ?_ rfl rfl rfl
  simp [g_wrapped, start, p_mod, wrp]
theorem n_calc (B : BaseN Γ) (n : Nat) (x : String) (hx : x ∈ signs) (a b : Int) (s : Store) (ha : Inr a) (hb : Inr b) :
    (calT x b = false → Γ (n + 2) 1 [.t (.str x), .t (.int a), .t (.int b)] s = .ok (.t (.int (cal x a b))) s) ∧ (calT x b = true → Γ (n + 2) 1 [.t (.str x), .t (.int a), .t (.int b)] s = .exc trap s) := by
  rw [B.n1]
  simp only [signs, List.mem_cons, List.not_mem_nil, or_false] at hx
  rcases hx with rfl | rfl | rfl | rfl | rfl | rfl | rfl | rfl | rfl
  · exact ⟨fun _ => fn_rt (by simp [g_calculate, start, tup2_new, in_tup2, n_wrap B, cal]) rfl rfl rfl, fun h => by simp [calT] at h⟩
  · exact ⟨fun _ => fn_rt (by simp [g_calculate, start, tup2_new, in_tup2, n_wrap B, cal]) rfl rfl rfl, fun h => by simp [calT] at h⟩
  · exact ⟨fun _ => fn_rt (by simp [g_calculate, start, tup2_new, in_tup2, n_wrap B, cal, p_mul _ (mul_inr ha)]) rfl rfl rfl, fun h => by simp [calT] at h⟩
  · refine ⟨fun h => ?_, fun h => ?_⟩
    · have h0 : b ≠ 0 := by simpa [calT] using h
      exact fn_rt (by simp [g_calculate, start, tup2_new, in_tup2, h0, p_fdiv (fdiv_inr hb h0), n_wrap B, cal]) rfl rfl rfl
    · have h0 : b = 0 := by simpa [calT] using h
      exact fn_ex (ρ := [some (.t (.str "/")), some (.t (.int a)), some (.t (.int b))]) (by simp [g_calculate, start, tup2_new, in_tup2, h0]) rfl rfl
  · refine ⟨fun h => ?_, fun h => ?_⟩
    · have h0 : b ≠ 0 := by simpa [calT] using h
      exact fn_rt (by simp [g_calculate, start, tup2_new, in_tup2, h0, p_mod, cal]) rfl rfl rfl
    · have h0 : b = 0 := by simpa [calT] using h
      exact fn_ex (ρ := [some (.t (.str "mod")), some (.t (.int a)), some (.t (.int b))]) (by simp [g_calculate, start, tup2_new, in_tup2, h0]) rfl rfl
  · exact ⟨fun _ => fn_rt (by simp [g_calculate, start, tup2_new, in_tup2, cal]) rfl rfl rfl, fun h => by simp [calT] at h⟩
  · exact ⟨fun _ => fn_rt (by simp [g_calculate, start, tup2_new, in_tup2, cal]) rfl rfl rfl, fun h => by simp [calT] at h⟩
  · exact ⟨fun _ => fn_rt (by simp [g_calculate, start, tup2_new, in_tup2, cal]) rfl rfl rfl, fun h => by simp [calT] at h⟩
  · exact ⟨fun _ => fn_rt (by simp [g_calculate, start, tup2_new, in_tup2, cal]) rfl rfl rfl, fun h => by simp [calT] at h⟩
end
end Fl
set_option Elab.async false
set_option linter.all false
set_option maxRecDepth 100000
/-! Fl: the vector instructions of the program, trees alone. -/
namespace Fl
noncomputable section
def g_starts_of (G : FEnv) : SM := sSeq (sAsg (eLst true []) (gVar 1)) (sSeq (sAsg (eC (.int 0)) (gVar 2)) (sSeq (sSeq (sFor (iV (eVar 0)) (gVar 3) (sSeq (sExpr (e2c lstC appendV (eVar 1) (eVar 2))) (sAsg (e2 (addV false) (eVar 2) (eVar 3)) (gVar 2)))) (sFz 1)) (sRet (e1 freeze (eVar 1)))))
def g_counted (G : FEnv) : SM := sRet (eComp2 false [1, 2] [2] (iV (eVar 0)) (gVar 1) none (iRange1 (eVar 1)) (gVar 2) none (eVar 2))
def g_repeated (G : FEnv) : SM := sRet (eComp2 false [2, 3, 1] [1] (iEnum (eVar 0)) (gTup [2, 3]) none (iRange1 (eVar 3)) (gVar 1) none (eVar 2))
def g_picked (G : FEnv) : SM := sSeq (sAsg (eCall G 25 [eVar 0]) (gVar 2)) (sRet (eComp2 false [3, 4] [4] (iV (eVar 1)) (gVar 3) none (iRange1 (e2 subI (eVar 0) (eVar 3))) (gVar 4) none (e2 (addV false) (e2 subI (eVar 2) (eVar 3)) (eVar 4))))
def g_summed (G : FEnv) : SM := sSeq (sAsg (eCall G 25 [eVar 0]) (gVar 2)) (sRet (eComp false [3, 4] (iEnum (eVar 0)) (gTup [3, 4]) none (eCall G 0 [e1 sumV (eSlice false (eVar 1) (some (e2 subI (eVar 2) (eVar 3))) (some (e2 (addV false) (e2 subI (eVar 2) (eVar 3)) (eVar 4))))])))
def g_placed (G : FEnv) : SM := sSeq (sAsg (eCall G 25 [eVar 0]) (gVar 2)) (sSeq (sFor (iEnum (eVar 1)) (gTup [3, 4]) (sIf (tOr (tLt (eVar 4) (eC (.int 0))) (tGe (eVar 4) (e2 subI (eVar 0) (eVar 3)))) (sRaise "TrapError") (sNil))) (sRet (eComp false [3, 4] (iEnum (eVar 1)) (gTup [3, 4]) none (e2 (addV false) (e2 subI (eVar 2) (eVar 3)) (eVar 4)))))
def g_woven (G : FEnv) : SM := sSeq (sAsg (e1 lenV (eComp false [2] (iV (eVar 0)) (gVar 2) (some (tNe (eVar 2) (eC (.int 0)))) (eVar 2))) (gVar 1)) (sSeq (sAsg (eLst true []) (gVar 3)) (sSeq (sAsg (eC (.int 0)) (gVar 4)) (sSeq (sSeq (sFor (iEnum (eVar 0)) (gTup [5, 2]) (sIf (tNe (eVar 2) (eC (.int 0))) (sSeq (sExpr (e2c lstC appendV (eVar 3) (eVar 4))) (sAsg (e2 (addV false) (eVar 4) (eC (.int 1))) (gVar 4))) (sExpr (e2c lstC appendV (eVar 3) (e2 subV (e2 (addV false) (eVar 1) (eVar 5)) (eVar 4)))))) (sFz 3)) (sRet (e1 freeze (eVar 3))))))
def g_zipped (G : FEnv) : SM := sSeq (sAsg (e1 sumV (eVar 0)) (gVar 2)) (sSeq (sAsg (eCall G 25 [eVar 0]) (gVar 3)) (sSeq (sAsg (eCall G 25 [eVar 1]) (gVar 4)) (sSeq (sAsg (eLst true []) (gVar 5)) (sSeq (sSeq (sFor (iEnum (eVar 0)) (gTup [6, 7]) (sSeq (sExpr (e2c lstC extendV (eVar 5) (eCompR false [8] (iRange1 (eVar 7)) (gVar 8) none (e2 (addV false) (e2 subI (eVar 3) (eVar 6)) (eVar 8))))) (sExpr (e2c lstC extendV (eVar 5) (eCompR false [8] (iRange1 (e2 subI (eVar 1) (eVar 6))) (gVar 8) none (e2 (addV false) (e2 (addV false) (eVar 2) (e2 subI (eVar 4) (eVar 6))) (eVar 8))))))) (sFz 5)) (sRet (e1 freeze (eVar 5)))))))
def g_checked (G : FEnv) : SM := sSeq (sIf (tEq (eVar 0) (eC (.str "range"))) (sFor (iV (e2 subI (eVar 1) (eC (.int 0)))) (gVar 2) (sIf (tOr (tLt (eVar 2) (eC (.int 0))) (tGt (eVar 2) (eC (.int 1000)))) (sRaise "TrapError") (sNil))) (sIf (tNe (e2 subI (eVar 1) (eC (.int 0))) (e2 subI (eVar 1) (eC (.int 1)))) (sRaise "TrapError") (sNil))) (sRet (e1 (listV false) (e2 subI (eVar 1) (eC (.int 0)))))
def g_execute (G : FEnv) : SM := sSeq (sIf (tEq (eVar 0) (eC (.str "fill"))) (sRet (e2 (mulV false) (eLst false [eVar 1]) (e1 lenV (e2 subI (eVar 2) (eC (.int 0)))))) (sNil)) (sSeq (sIf (tEq (eVar 0) (eC (.str "calc"))) (sRet (eComp false [3, 4] (iEnum (e2 subI (eVar 2) (eC (.int 0)))) (gTup [3, 4]) none (eCall G 1 [eVar 1, eVar 4, e2 subI (e2 subI (eVar 2) (eC (.int 1))) (eVar 3)]))) (sNil)) (sSeq (sIf (tEq (eVar 0) (eC (.str "take"))) (sRet (eComp false [5] (iV (e2 subI (eVar 2) (eC (.int 1)))) (gVar 5) none (e2 subI (e2 subI (eVar 2) (eC (.int 0))) (eVar 5)))) (sNil)) (sSeq (sIf (tEq (eVar 0) (eC (.str "pick"))) (sRet (eCall G 28 [e2 subI (eVar 2) (eC (.int 0)), e2 subI (eVar 2) (eC (.int 1))])) (sNil)) (sSeq (sIf (tEq (eVar 0) (eC (.str "repeat"))) (sRet (eCall G 27 [e2 subI (eVar 2) (eC (.int 0))])) (sNil)) (sSeq (sIf (tEq (eVar 0) (eC (.str "count"))) (sRet (eCall G 26 [e2 subI (eVar 2) (eC (.int 0))])) (sNil)) (sSeq (sIf (tEq (eVar 0) (eC (.str "where"))) (sRet (eComp false [3, 6] (iEnum (e2 subI (eVar 2) (eC (.int 0)))) (gTup [3, 6]) (some (tEq (eB (tNe (eVar 6) (eC (.int 0)))) (eVar 1))) (eVar 3))) (sNil)) (sSeq (sIf (tEq (eVar 0) (eC (.str "weave"))) (sRet (eCall G 31 [e2 subI (eVar 2) (eC (.int 0))])) (sNil)) (sSeq (sIf (tEq (eVar 0) (eC (.str "join"))) (sRet (e2 (addV false) (e2 subI (eVar 2) (eC (.int 0))) (e2 subI (eVar 2) (eC (.int 1))))) (sNil)) (sSeq (sIf (tEq (eVar 0) (eC (.str "sums"))) (sRet (eCall G 29 [e2 subI (eVar 2) (eC (.int 0)), e2 subI (eVar 2) (eC (.int 1))])) (sNil)) (sSeq (sIf (tEq (eVar 0) (eC (.str "zip"))) (sRet (eCall G 32 [e2 subI (eVar 2) (eC (.int 0)), e2 subI (eVar 2) (eC (.int 1))])) (sNil)) (sSeq (sIf (tEq (eVar 0) (eC (.str "place"))) (sRet (eCall G 30 [e2 subI (eVar 2) (eC (.int 0)), e2 subI (eVar 2) (eC (.int 1))])) (sNil)) (sSeq (sIf (tEq (eVar 0) (eC (.str "flags"))) (sRet (eComp false [7] (iV (e2 subI (eVar 2) (eC (.int 0)))) (gVar 7) none (e1 intV (eB (tNe (eVar 7) (eC (.int 0))))))) (sNil)) (sRet (eCall G 33 [eVar 0, eVar 2]))))))))))))))
end
structure BaseV (Γ : Nat → FEnv) : Prop where
  starts_of : ∀ n, Γ (n + 1) 25 = mkFn 4 1 (g_starts_of (Γ n))
  counted : ∀ n, Γ (n + 1) 26 = mkFn 3 1 (g_counted (Γ n))
  repeated : ∀ n, Γ (n + 1) 27 = mkFn 4 1 (g_repeated (Γ n))
  picked : ∀ n, Γ (n + 1) 28 = mkFn 5 2 (g_picked (Γ n))
  summed : ∀ n, Γ (n + 1) 29 = mkFn 5 2 (g_summed (Γ n))
  placed : ∀ n, Γ (n + 1) 30 = mkFn 5 2 (g_placed (Γ n))
  woven : ∀ n, Γ (n + 1) 31 = mkFn 6 1 (g_woven (Γ n))
  zipped : ∀ n, Γ (n + 1) 32 = mkFn 9 2 (g_zipped (Γ n))
  checked : ∀ n, Γ (n + 1) 33 = mkFn 3 2 (g_checked (Γ n))
  execute : ∀ n, Γ (n + 1) 34 = mkFn 8 3 (g_execute (Γ n))
/-- the longest vectors -/
abbrev BL : Nat := 8000000
abbrev ni (ls : List Nat) : List Int := ls.map fun (k : Nat) => (k : Int)
theorem ni_getD (ls : List Nat) (k : Nat) : (ni ls).getD k 0 = (ls.getD k 0 : Nat) := by
  simp only [List.getD_eq_getElem?_getD, List.getElem?_map]
  cases ls[k]? <;> rfl
theorem sum_ni : ∀ l : List Nat, (ni l).sum = (l.sum : Nat)
  | [] => rfl
  | x :: r => by
    have := sum_ni r
    simp only [ni, List.map_cons, List.sum_cons] at *
    omega
theorem ni_iv (ls : List Nat) : (ls.map fun (k : Nat) => iv k) = (ni ls).map iv := by rw [List.map_map]; rfl
theorem nt_li (ls : List Nat) : (ls.map fun (k : Nat) => T.int (k : Int)) = (ni ls).map .int := by rw [List.map_map]; rfl
def rg (n : Nat) : List Int := (List.range n).map fun (k : Nat) => (k : Int)
theorem rg_len (n : Nat) : (rg n).length = n := by unfold rg; simp
theorem li_getD {xs : List Int} {k : Nat} (h : k < xs.length) (s : Store) : subI (.t (.lst (xs.map .int))) (iv k) s = .ok (iv (xs.getD k 0)) s := by
  rw [li_get h, List.getD_eq_getElem?_getD, List.getElem?_eq_getElem h]
  rfl
theorem enum_eq : ∀ (l : List Int) (m : Nat), enumT m (l.map .int) = (List.range l.length).map fun k => Val.t (.tup [.int (m + k : Nat), .int (l.getD k 0)])
  | [], m => rfl
  | x :: r, m => by
    rw [List.map_cons, enumT, enum_eq r (m + 1), List.length_cons, List.range_succ_eq_map, List.map_cons, List.map_map]
    congr 1
    refine List.map_congr_left fun k _ => ?_
    simp only [Function.comp, Nat.succ_eq_add_one, List.getD_cons_succ]
    rw [show m + 1 + k = m + (k + 1) by omega]
@[simp] theorem p_gTup2 (i j : Nat) (a b : T) (ρ : Env) (s : Store) : gTup [i, j] (.t (.tup [a, b])) ρ s = .ok ((ρ.set i (some (.t a))).set j (some (.t b))) s := nrfl rfl
theorem p_enum {a : CE} {ρ : Env} {s : Store} {l : List Int} (h : a ρ s = .ok (.t (.lst (l.map .int))) s) : iEnum a ρ s = .ok ((List.range l.length).map fun k => Val.t (.tup [.int (k : Nat), .int (l.getD k 0)])) s := by
  show (a ρ s).bind _ = _
  rw [h]
  show R.ok (enumT 0 (l.map .int)) s = _
  rw [enum_eq]
  simp only [Nat.zero_add]
theorem r_assoc {α β γ : Type} (r : R α) (f : α → M β) (g : β → M γ) : (r.bind f).bind g = r.bind fun a s => (f a s).bind g := by cases r <;> rfl
@[simp] theorem p_slice2 (c : Bool) (a lo hi : CE) (ρ : Env) (s : Store) : eSlice c a (some lo) (some hi) ρ s = (a ρ s).bind fun v s => (lo ρ s).bind fun x s => (getInt x s).bind fun i s => (hi ρ s).bind fun y s => (getInt y s).bind fun j s => sliceV c v (some i) (some j) s := by
  show ((a ρ s).bind fun v s => (((lo ρ s).bind fun x s => (getInt x s).bind fun i s => R.ok (some i) s).bind fun l s => (((hi ρ s).bind fun x s => (getInt x s).bind fun i s => R.ok (some i) s).bind fun h s => sliceV c v l h s))) = _
  simp only [r_assoc, p_ok]
@[simp] theorem p_slice10 (c : Bool) (a lo : CE) (ρ : Env) (s : Store) : eSlice c a (some lo) none ρ s = (a ρ s).bind fun v s => (lo ρ s).bind fun x s => (getInt x s).bind fun i s => sliceV c v (some i) none s := by
  show ((a ρ s).bind fun v s => (((lo ρ s).bind fun x s => (getInt x s).bind fun i s => R.ok (some i) s).bind fun l s => sliceV c v l none s)) = _
  simp only [r_assoc, p_ok]
@[simp] theorem p_slice01 (c : Bool) (a hi : CE) (ρ : Env) (s : Store) : eSlice c a none (some hi) ρ s = (a ρ s).bind fun v s => (hi ρ s).bind fun x s => (getInt x s).bind fun i s => sliceV c v none (some i) s := by
  show ((a ρ s).bind fun v s => (((hi ρ s).bind fun x s => (getInt x s).bind fun i s => R.ok (some i) s).bind fun l s => sliceV c v none l s)) = _
  simp only [r_assoc, p_ok]
theorem slice_nat {α : Type} {xs : List α} {a b : Nat} (h : a + b ≤ xs.length) : slice xs (some (a : Int)) (some ((a : Int) + (b : Int))) = (xs.drop a).take b := by
  unfold slice pyCut
  dsimp only
  rw [if_neg (by omega), if_neg (by omega)]
  rw [show min (a : Int).toNat xs.length = a by simp; omega, show min ((a : Int) + (b : Int)).toNat xs.length = a + b by omega, show a + b - a = b by omega]
theorem slice_drop {α : Type} {xs : List α} {a : Nat} (h : a ≤ xs.length) : slice xs (some (a : Int)) none = xs.drop a := by
  unfold slice pyCut
  dsimp only
  rw [if_neg (by omega), show min (a : Int).toNat xs.length = a by simp; omega]
  exact List.take_of_length_le (by rw [List.length_drop]; omega)
theorem slice_take {α : Type} {xs : List α} {a : Nat} (h : a ≤ xs.length) : slice xs none (some (a : Int)) = xs.take a := by
  unfold slice pyCut
  dsimp only
  rw [if_neg (by omega), show min (a : Int).toNat xs.length = a by simp; omega]
  simp
theorem lst_sliceV (a b : Option Int) (xs : List T) (s : Store) : sliceV false (.t (.lst xs)) a b s = .ok (.t (.lst (slice xs a b))) s := by
  show (itemsL (.t (.lst xs)) >>= fun vs => newL false (slice vs a b)) s = _
  have e : itemsL (.t (.lst xs)) s = .ok (xs.map .t) s := rfl
  rw [bind_eq, e, bind_ok]
  have : slice (xs.map Val.t) a b = (slice xs a b).map Val.t := by unfold slice; rw [List.length_map, ← List.map_drop, ← List.map_take]
  rw [this, newL_t]
theorem li_slice {xs : List Int} {a b : Nat} (h : a + b ≤ xs.length) (s : Store) : sliceV false (.t (.lst (xs.map .int))) (some (a : Int)) (some ((a : Int) + (b : Int))) s = .ok (.t (li ((xs.drop a).take b))) s := by
  rw [lst_sliceV, slice_nat (by rw [List.length_map]; exact h), ← List.map_drop, ← List.map_take]
@[simp] theorem li_sum (xs : List Int) (s : Store) : sumV (.t (.lst (xs.map .int))) s = .ok (iv xs.sum) s := by
  show (itemsL (.t (.lst (xs.map .int))) >>= _) s = _
  rw [bind_eq, li_itemsL, bind_ok]
  show (match intsOf (xs.map iv) with | some ns => R.ok (vI ns.sum) s | none => .bad) = _
  rw [li_ints]
  rfl
theorem range_pick {n : Nat} {f : Nat → Int} {a b : Nat} (h : a + b ≤ n) : (((List.range n).map f).drop a).take b = (List.range b).map fun k => f (a + k) := by
  refine List.ext_getElem? fun i => ?_
  rw [List.getElem?_take, List.getElem?_drop, List.getElem?_map, List.getElem?_map]
  by_cases hi : i < b
  · rw [if_pos hi, List.getElem?_range (by omega), List.getElem?_range hi]; rfl
  · rw [if_neg hi, List.getElem?_eq_none (by rw [List.length_range]; omega)]; rfl
theorem comp_rg {s : Store} {ρ : Env} {i : Nat} {k : Nat} {h : CE} (f : Nat → Int) (hf : ∀ j, j < k → h (ρ.set i (some (iv (j : Nat)))) s = .ok (iv (f j)) s) : compL (gVar i) none h ρ ((List.range k).map fun (j : Nat) => iv j) s = .ok (((List.range k).map f).map iv) s := by
  rw [comp_map (s := s) (fun (j : Nat) => iv j) (fun j => iv (f j)) (List.range k) (fun v hv => ⟨_, rfl, hf v (List.mem_range.mp hv)⟩), List.map_map]; rfl
abbrev OwnI (s0 s : Store) (v : Val) (xs : List Int) : Prop := Own s0 s v (xs.map .int)
theorem ownI_app {s0 s : Store} {v : Val} {xs : List Int} (h : OwnI s0 s v xs) (hl : xs.length < 16777216) (y : Int) : ∃ s', appendV v (iv y) s = .ok (.t .non) s' ∧ OwnI s0 s' v (xs ++ [y]) := by
  obtain ⟨s', h1, h2⟩ := own_app h (by rw [List.length_map]; exact hl) (.int y)
  refine ⟨s', h1, ?_⟩
  show Own _ _ _ _
  rw [List.map_append]
  exact h2
theorem own_ext {s0 s : Store} {v : Val} {ts us : List T} (h : Own s0 s v ts) (hl : ts.length + us.length ≤ 16777216) : ∃ s', extendV v (.t (.lst us)) s = .ok (.t .non) s' ∧ Own s0 s' v (ts ++ us) := by
  obtain ⟨⟨n, rfl, hn, hc⟩, ht, hw⟩ := h
  have hlt := cell_lt hc
  refine ⟨s.set n (some (.lst (ts.map Val.t ++ us.map Val.t))), ?_, ⟨n, rfl, hn, ?_⟩, take_set ht hn, hw.set ?_⟩
  · have hi : itemsL (.t (.lst us)) s = .ok (us.map .t) s := rfl
    unfold extendV
    dsimp only
    rw [bind_eq, hi, bind_ok, hc]
    dsimp only
    rw [if_pos (by rw [List.length_map, List.length_map]; exact hl)]
    rfl
  · rw [cell_set hlt, if_pos rfl, List.map_append]
  · rintro k hk
    injection hk with hk
    subst hk
    have := below_t s.length (ts ++ us)
    rw [List.map_append] at this
    exact this
/-! ### segments -/
def starts : Int → List Int → List Int
  | _, [] => []
  | t, x :: r => t :: starts (t + x) r
theorem starts_len : ∀ (t : Int) (l : List Int), (starts t l).length = l.length
  | _, [] => rfl
  | t, x :: r => by simp [starts, starts_len (t + x) r]
theorem starts_app : ∀ (t : Int) (p : List Int) (x : Int), starts t (p ++ [x]) = starts t p ++ [t + p.sum]
  | t, [], x => by simp [starts]
  | t, y :: r, x => by rw [List.cons_append, starts, starts_app (t + y) r x, starts, List.sum_cons, Int.add_assoc]; rfl
theorem starts_get : ∀ (t : Int) (l : List Int) (k : Nat), k < l.length → (starts t l)[k]? = some (t + (l.take k).sum)
  | t, x :: r, 0, _ => by simp [starts]
  | t, x :: r, k + 1, h => by
    have := starts_get (t + x) r k (by simpa using h)
    simp only [starts, List.getElem?_cons_succ, this, List.take_succ_cons, List.sum_cons]
    congr 1
    omega
/-- a segment's start -/
def sta (ls : List Nat) (k : Nat) : Nat := (ls.take k).sum
theorem starts_at (ls : List Nat) (k : Nat) (h : k < ls.length) : (starts 0 (ni ls)).getD k 0 = (sta ls k : Nat) := by
  rw [List.getD_eq_getElem?_getD, starts_get 0 (ni ls) k (by simpa using h)]
  show (0 : Int) + ((ni ls).take k).sum = _
  rw [← List.map_take, sum_ni]
  unfold sta
  omega
theorem sta_le (ls : List Nat) (k : Nat) (h : k < ls.length) : sta ls k + ls.getD k 0 ≤ ls.sum := by
  unfold sta
  induction ls generalizing k with
  | nil => simp at h
  | cons x r ih =>
    cases k with
    | zero => simp
    | succ k =>
      have := ih k (by simpa using h)
      simp only [List.take_succ_cons, List.sum_cons, List.getD_cons_succ]
      omega
theorem le_sum : ∀ {ls : List Nat} {v : Nat}, v ∈ ls → v ≤ ls.sum
  | x :: r, v, h => by
    rw [List.sum_cons]
    rcases List.mem_cons.mp h with rfl | h
    · omega
    · have := le_sum h; omega
theorem getD_le (ls : List Nat) (k : Nat) : ls.getD k 0 ≤ ls.sum := by
  by_cases h : k < ls.length
  · have := sta_le ls k h; omega
  · rw [List.getD_eq_getElem?_getD, List.getElem?_eq_none (by omega)]; simp
theorem map_getD (ls : List Nat) : (List.range ls.length).map (fun k => ls.getD k 0) = ls := by
  refine List.ext_getElem (by simp) fun i h1 h2 => ?_
  simp only [List.getElem_map, List.getElem_range]
  rw [List.getD_eq_getElem?_getD, List.getElem?_eq_getElem h2]; rfl
theorem flat_sum {β γ : Type} (f : β → List γ) : ∀ vs : List β, (vs.flatMap f).length = (vs.map fun v => (f v).length).sum
  | [] => rfl
  | v :: r => by rw [List.flatMap_cons, List.length_append, List.map_cons, List.sum_cons, flat_sum f r]
def countF (ls : List Nat) : List Int := ls.flatMap rg
theorem countF_len (ls : List Nat) : (countF ls).length = ls.sum := by
  unfold countF
  rw [flat_sum]
  congr 1
  conv => rhs; rw [← List.map_id ls]
  exact List.map_congr_left fun k _ => rg_len k
def rep (ls : List Nat) : List Int := (List.range ls.length).flatMap fun k => (rg (ls.getD k 0)).map fun _ => (k : Int)
theorem rep_len (ls : List Nat) : (rep ls).length = ls.sum := by
  unfold rep
  rw [flat_sum]
  simp only [List.length_map, rg_len]
  rw [map_getD]
def pickF (ls idx : List Nat) : List Int := idx.flatMap fun i => (rg (ls.getD i 0)).map fun a => (sta ls i : Int) + a
def seg (ls : List Nat) (ns : List Int) (k : Nat) : List Int := (ns.drop (sta ls k)).take (ls.getD k 0)
def sumF (ls : List Nat) (ns : List Int) : List Int := (List.range ls.length).map fun k => wrp (seg ls ns k).sum
def plOk (ls : List Nat) (ix : List Int) : Bool := (List.range ls.length).all fun k => decide (0 ≤ ix.getD k 0) && decide (ix.getD k 0 < (ls.getD k 0 : Nat))
def placeF (ls : List Nat) (ix : List Int) : List Int := (List.range ls.length).map fun k => (sta ls k : Int) + ix.getD k 0
def zA (ls : List Nat) (k : Nat) : List Int := (rg (ls.getD k 0)).map fun a => (sta ls k : Int) + a
def zB (ls os : List Nat) (k : Nat) : List Int := (rg (os.getD k 0)).map fun a => (ls.sum : Int) + (sta os k : Int) + a
def zipF (ls os : List Nat) : List Int := (List.range ls.length).flatMap fun k => zA ls k ++ zB ls os k
def nz (x : Int) : Bool := !(x == 0)
def cnt (fl : List Int) (k : Nat) : Nat := ((fl.take k).filter nz).length
def wv (fl : List Int) (k : Nat) : Int := if nz (fl.getD k 0) = true then (cnt fl k : Nat) else (cnt fl fl.length : Nat) + (k : Int) - (cnt fl k : Nat)
def weaveF (fl : List Int) : List Int := (List.range fl.length).map (wv fl)
theorem cnt_succ (fl : List Int) (k : Nat) (h : k < fl.length) : cnt fl (k + 1) = cnt fl k + if nz (fl.getD k 0) = true then 1 else 0 := by
  unfold cnt
  rw [List.take_succ, List.getElem?_eq_getElem h, List.filter_append, List.length_append]
  rw [List.getD_eq_getElem?_getD, List.getElem?_eq_getElem h]
  simp only [Option.toList_some, Option.getD_some]
  by_cases hz : nz fl[k] = true
  · simp [hz]
  · simp [hz]
theorem getD_mem {a : List Int} {k : Nat} (h : k < a.length) : a.getD k 0 ∈ a := by
  rw [List.getD_eq_getElem?_getD, List.getElem?_eq_getElem h]; exact List.getElem_mem h
def calF (x : String) (a b : List Int) : List Int := (List.range a.length).map fun k => cal x (a.getD k 0) (b.getD k 0)
theorem flat_succ {γ : Type} (f : Nat → List γ) (j : Nat) : (List.range (j + 1)).flatMap f = (List.range j).flatMap f ++ f j := by
  rw [List.range_succ, List.flatMap_append]; simp
section
variable {Γ : Nat → FEnv}
theorem v_starts (B : BaseV Γ) (n : Nat) (l : List Int) (hl : l.length ≤ BL) (s : Store) (hw : Wf s) : Γ (n + 1) 25 [.t (li l)] s = .ok (.t (li (starts 0 l))) s := by
  rw [B.starts_of]
  refine fn_Rt rfl hw ?_
  simp [g_starts_of, start]
  generalize hc : forL _ _ _ _ _ = o
  obtain ⟨ρ', s', rfl, v, x, rfl, ho⟩ := for_pre hc (fun p ρ s' => ∃ v x, ρ = [some (.t (li l)), some v, some (iv p.sum), x] ∧ OwnI s s' v (starts 0 p)) ⟨_, _, rfl, own_new hw List.take_length []⟩ (by
    rintro p y q e ρ s1 ⟨v, x, rfl, ho⟩
    have hp : p.length ≤ l.length := by rw [e]; simp
    obtain ⟨s2, h1, h2⟩ := ownI_app ho (by rw [starts_len]; have : l.length ≤ 8000000 := hl; omega) p.sum
    refine ⟨_, _, [some (.t (li l)), some v, some (iv (p ++ [y]).sum), some (iv y)], s2, rfl, ?_, v, _, rfl, ?_⟩
    · simp [own_lstC ho, h1]
    · rw [starts_app, Int.zero_add]; exact h2)
  rw [then_nx]
  generalize hz : sFz _ _ _ = o
  obtain ⟨s2, rfl, h2, h3⟩ := own_sfz2 hz ho rfl
  simp
  exact Rt.mk h2
theorem v_counted (B : BaseV Γ) (n : Nat) (ls : List Nat) (hs : ls.sum ≤ BL) (s : Store) (hw : Wf s) : Γ (n + 1) 26 [.t (li (ni ls))] s = .ok (.t (li (countF ls))) s := by
  rw [B.counted]
  refine fn_Rt rfl hw ?_
  have hs' : ls.sum ≤ 8000000 := hs
  have e : (ls.flatMap fun v => (List.range v).map fun (w : Nat) => iv w) = (countF ls).map iv := by
    unfold countF rg
    rw [List.map_flatMap]
    refine congrArg (fun f => List.flatMap f ls) (funext fun v => ?_)
    rw [List.map_map]; rfl
  have hc := comp2_flat (g := gVar 1) (g1 := gVar 2) (it1 := iRange1 (eVar 1)) (f := eVar 2) (own1 := [2]) (ρ := [some (.t (li (ni ls))), none, none]) (s := s) (fun (k : Nat) => iv k) (fun (k : Nat) => iv k) (fun v => List.range v) (fun _ w => iv w) ls [] (by
    rw [e, List.length_map, countF_len]; show 0 + ls.sum ≤ 16777216; omega) (by
    intro v hv
    have : v ≤ ls.sum := le_sum hv
    exact ⟨[some (.t (li (ni ls))), some (iv v), none], rfl, p_rangeS rfl (by omega), fun w hw => ⟨[some (.t (li (ni ls))), some (iv v), some (iv w)], rfl, rfl⟩⟩)
  rw [e, List.nil_append] at hc
  have hi : iV (eVar 0) [some (.t (li (ni ls))), none, none] s = .ok (ls.map fun (k : Nat) => iv k) s := by simp
  have := p_comp2 (c := false) (own := [1, 2]) hi hc (li_new _ s)
  simp only [g_counted, start, p_ret, List.map, List.length, Nat.sub, List.replicate, List.cons_append, List.nil_append]
  rw [this]
  exact Rt.self
theorem v_repeated (B : BaseV Γ) (n : Nat) (ls : List Nat) (hs : ls.sum ≤ BL) (s : Store) (hw : Wf s) : Γ (n + 1) 27 [.t (li (ni ls))] s = .ok (.t (li (rep ls))) s := by
  rw [B.repeated]
  refine fn_Rt rfl hw ?_
  have hs' : ls.sum ≤ 8000000 := hs
  have e : ((List.range ls.length).flatMap fun v => (List.range (ls.getD v 0)).map fun (w : Nat) => iv v) = (rep ls).map iv := by
    unfold rep rg
    rw [List.map_flatMap]
    refine congrArg (fun f => List.flatMap f _) (funext fun v => ?_)
    rw [List.map_map, List.map_map]; rfl
  have hc := comp2_flat (g := gTup [2, 3]) (g1 := gVar 1) (it1 := iRange1 (eVar 3)) (f := eVar 2) (own1 := [1]) (ρ := [some (.t (li (ni ls))), none, none, none]) (s := s) (fun (k : Nat) => Val.t (.tup [.int (k : Nat), .int ((ni ls).getD k 0)])) (fun (k : Nat) => iv k) (fun v => List.range (ls.getD v 0)) (fun v _ => iv v) (List.range ls.length) [] (by
    rw [e, List.length_map, rep_len]; show 0 + ls.sum ≤ 16777216; omega) (by
    intro v hv
    have := getD_le ls v
    refine ⟨[some (.t (li (ni ls))), none, some (iv v), some (iv ((ni ls).getD v 0))], rfl, ?_, fun w hw => ⟨[some (.t (li (ni ls))), some (iv w), some (iv v), some (iv ((ni ls).getD v 0))], rfl, rfl⟩⟩
    rw [ni_getD]
    exact p_rangeS rfl (by omega))
  rw [e, List.nil_append] at hc
  have hi := p_enum (a := eVar 0) (ρ := [some (.t (li (ni ls))), none, none, none]) (s := s) (l := ni ls) rfl
  rw [show (ni ls).length = ls.length by simp] at hi
  have := p_comp2 (c := false) (own := [2, 3, 1]) hi hc (li_new _ s)
  simp only [g_repeated, start, p_ret, List.map, List.length, Nat.sub, List.replicate, List.cons_append, List.nil_append]
  rw [this]
  exact Rt.self
theorem v_picked (B : BaseV Γ) (n : Nat) (ls idx : List Nat) (hl : ls.length ≤ BL) (hs : ls.sum ≤ BL) (hx : ∀ i ∈ idx, i < ls.length) (hp : (pickF ls idx).length ≤ BL) (s : Store) (hw : Wf s) : Γ (n + 2) 28 [.t (li (ni ls)), .t (li (ni idx))] s = .ok (.t (li (pickF ls idx))) s := by
  rw [B.picked]
  refine fn_Rt rfl hw ?_
  have hs' : ls.sum ≤ 8000000 := hs
  have hp' : (pickF ls idx).length ≤ 8000000 := hp
  have hst := v_starts B n (ni ls) (by rw [List.length_map]; exact hl) s hw
  have e : (idx.flatMap fun v => (List.range (ls.getD v 0)).map fun (w : Nat) => iv ((sta ls v : Int) + w)) = (pickF ls idx).map iv := by
    unfold pickF rg
    rw [List.map_flatMap]
    refine congrArg (fun f => List.flatMap f _) (funext fun v => ?_)
    rw [List.map_map, List.map_map]; rfl
  have hc := comp2_flat (g := gVar 3) (g1 := gVar 4) (it1 := iRange1 (e2 subI (eVar 0) (eVar 3))) (f := e2 (addV false) (e2 subI (eVar 2) (eVar 3)) (eVar 4)) (own1 := [4])
    (ρ := [some (.t (li (ni ls))), some (.t (li (ni idx))), some (.t (li (starts 0 (ni ls)))), none, none]) (s := s) (fun (k : Nat) => iv k) (fun (k : Nat) => iv k) (fun v => List.range (ls.getD v 0)) (fun v w => iv ((sta ls v : Int) + w)) idx [] (by
    rw [e, List.length_map]; show 0 + _ ≤ 16777216; omega) (by
    intro v hv
    have hv' := hx v hv
    have := getD_le ls v
    have g1 := li_getD (xs := ni ls) (k := v) (by simpa using hv') s
    rw [ni_getD] at g1
    have g2 := li_getD (xs := starts 0 (ni ls)) (k := v) (by rw [starts_len]; simpa using hv') s
    rw [starts_at ls v hv'] at g2
    refine ⟨[some (.t (li (ni ls))), some (.t (li (ni idx))), some (.t (li (starts 0 (ni ls)))), some (iv v), none], rfl, ?_, fun w hw => ⟨[some (.t (li (ni ls))), some (.t (li (ni idx))), some (.t (li (starts 0 (ni ls)))), some (iv v), some (iv w)], rfl, ?_⟩⟩
    · exact p_rangeS (n := ls.getD v 0) (by simp only [p_e2, p_var0, p_var3, p_ok]; exact g1) (by omega)
    · simp only [p_e2, p_var2, p_var3, p_var4, p_ok, g2, p_add])
  rw [e, List.nil_append] at hc
  have hi : iV (eVar 1) [some (.t (li (ni ls))), some (.t (li (ni idx))), some (.t (li (starts 0 (ni ls)))), none, none] s = .ok (idx.map fun (k : Nat) => iv k) s := by simp
  have := p_comp2 (c := false) (own := [3, 4]) hi hc (li_new _ s)
  simp only [g_picked, start, p_seq2, p_asgV, p_call, p_vals, p_vals0, p_var0, p_ok, List.map, List.length, Nat.sub, List.replicate, List.cons_append, List.nil_append, hst, p_sok, List.set, then_nx, p_ret]
  rw [this]
  exact Rt.self
theorem v_summed (B : BaseV Γ) (N : BaseN Γ) (n : Nat) (ls : List Nat) (ns : List Int) (hl : ls.length ≤ BL) (hn : ns.length = ls.sum) (s : Store) (hw : Wf s) : Γ (n + 2) 29 [.t (li (ni ls)), .t (li ns)] s = .ok (.t (li (sumF ls ns))) s := by
  rw [B.summed]
  refine fn_Rt rfl hw ?_
  have hst := v_starts B n (ni ls) (by rw [List.length_map]; exact hl) s hw
  have hc := comp_map (g := gTup [3, 4]) (f := eCall (Γ (n + 1)) 0 [e1 sumV (eSlice false (eVar 1) (some (e2 subI (eVar 2) (eVar 3))) (some (e2 (addV false) (e2 subI (eVar 2) (eVar 3)) (eVar 4))))])
    (ρ := [some (.t (li (ni ls))), some (.t (li ns)), some (.t (li (starts 0 (ni ls)))), none, none]) (s := s) (fun (k : Nat) => Val.t (.tup [.int (k : Nat), .int ((ni ls).getD k 0)])) (fun k => iv (wrp (seg ls ns k).sum)) (List.range ls.length) (by
    intro v hv
    have hv' := List.mem_range.mp hv
    have g2 := li_getD (xs := starts 0 (ni ls)) (k := v) (by rw [starts_len]; simpa using hv') s
    rw [starts_at ls v hv'] at g2
    have hsl := li_slice (xs := ns) (a := sta ls v) (b := ls.getD v 0) (by rw [hn]; exact sta_le ls v hv') s
    refine ⟨_, rfl, ?_⟩
    rw [ni_getD]
    simp only [List.set, p_call, p_vals, p_vals0, p_e1, p_slice2, p_e2, p_var1, p_var2, p_var3, p_var4, p_ok, g2, p_getI, p_add, hsl, li_sum, n_wrap N]
    rfl)
  have hi := p_enum (a := eVar 0) (ρ := [some (.t (li (ni ls))), some (.t (li ns)), some (.t (li (starts 0 (ni ls)))), none, none]) (s := s) (l := ni ls) rfl
  rw [show (ni ls).length = ls.length by simp] at hi
  have e : (List.range ls.length).map (fun k => iv (wrp (seg ls ns k).sum)) = (sumF ls ns).map iv := by unfold sumF; rw [List.map_map]; rfl
  simp only [g_summed, start, p_seq2, p_asgV, p_call, p_vals, p_vals0, p_var0, p_ok, List.map, List.length, Nat.sub, List.replicate, List.cons_append, List.nil_append, hst, p_sok, List.set, then_nx, p_ret, p_comp, hi, wipeE, hc, e, li_new]
  exact Rt.self
end
end Fl
set_option Elab.async false
set_option linter.all false
set_option maxRecDepth 100000
/-! Fl: placed, woven, zipped, checked. -/
namespace Fl
section
variable {Γ : Nat → FEnv}
theorem v_placed (B : BaseV Γ) (n : Nat) (ls : List Nat) (ix : List Int) (hl : ls.length ≤ BL) (hn : ix.length = ls.length) (s : Store) (hw : Wf s) :
    (plOk ls ix = true → Γ (n + 2) 30 [.t (li (ni ls)), .t (li ix)] s = .ok (.t (li (placeF ls ix))) s) ∧ (plOk ls ix = false → Γ (n + 2) 30 [.t (li (ni ls)), .t (li ix)] s = .exc trap s) := by
  rw [B.placed]
  have hst := v_starts B n (ni ls) (by rw [List.length_map]; exact hl) s hw
  have hi : ∀ a b, iEnum (eVar 1) [some (.t (li (ni ls))), some (.t (li ix)), some (.t (li (starts 0 (ni ls)))), a, b] s = .ok ((List.range ls.length).map fun k => Val.t (.tup [.int (k : Nat), .int (ix.getD k 0)])) s := fun a b => by
    have := p_enum (a := eVar 1) (ρ := [some (.t (li (ni ls))), some (.t (li ix)), some (.t (li (starts 0 (ni ls)))), a, b]) (s := s) (l := ix) rfl
    rw [hn] at this
    exact this
  have hm := comp_map (g := gTup [3, 4]) (f := e2 (addV false) (e2 subI (eVar 2) (eVar 3)) (eVar 4)) (ρ := [some (.t (li (ni ls))), some (.t (li ix)), some (.t (li (starts 0 (ni ls)))), none, none]) (s := s)
    (fun (k : Nat) => Val.t (.tup [.int (k : Nat), .int (ix.getD k 0)])) (fun k => iv ((sta ls k : Int) + ix.getD k 0)) (List.range ls.length) (by
    intro v hv
    have hv' := List.mem_range.mp hv
    have g2 := li_getD (xs := starts 0 (ni ls)) (k := v) (by rw [starts_len]; simpa using hv') s
    rw [starts_at ls v hv'] at g2
    refine ⟨_, rfl, ?_⟩
    simp only [List.set, p_e2, p_var2, p_var3, p_var4, p_ok, g2, p_add])
  have em : (List.range ls.length).map (fun k => iv ((sta ls k : Int) + ix.getD k 0)) = (placeF ls ix).map iv := by unfold placeF; rw [List.map_map]; rfl
  rw [em] at hm
  have key : ∀ o, forL (gTup [3, 4]) (sIf (tOr (tLt (eVar 4) (eC (.int 0))) (tGe (eVar 4) (e2 subI (eVar 0) (eVar 3)))) (sRaise "TrapError") (sNil)) ((List.range ls.length).map fun k => Val.t (.tup [.int (k : Nat), .int (ix.getD k 0)])) [some (.t (li (ni ls))), some (.t (li ix)), some (.t (li (starts 0 (ni ls)))), none, none] s = o →
      (plOk ls ix = true → ∃ a b, o = .nx [some (.t (li (ni ls))), some (.t (li ix)), some (.t (li (starts 0 (ni ls)))), a, b] s) ∧ (plOk ls ix = false → ∃ ρ, o = .ex trap ρ s) := by
    intro o hc
    have z := for_ixr hc (fun j ρ s' => s' = s ∧ (∃ a b, ρ = [some (.t (li (ni ls))), some (.t (li ix)), some (.t (li (starts 0 (ni ls)))), a, b]) ∧ ∀ i, i < j → (0 ≤ ix.getD i 0 ∧ ix.getD i 0 < (ls.getD i 0 : Nat)))
      (fun j o => (∃ ρ, o = .ex trap ρ s) ∧ ¬ (0 ≤ ix.getD j 0 ∧ ix.getD j 0 < (ls.getD j 0 : Nat))) ⟨rfl, ⟨none, none, rfl⟩, fun i hi => absurd hi (Nat.not_lt_zero i)⟩ (by
      rintro j hj ρ s1 ⟨rfl, ⟨a, b, rfl⟩, ha⟩
      have g1 := li_getD (xs := ni ls) (k := j) (by simpa using hj) s1
      rw [ni_getD] at g1
      refine ⟨_, _, rfl, ?_⟩
      by_cases c : 0 ≤ ix.getD j 0 ∧ ix.getD j 0 < (ls.getD j 0 : Nat)
      · refine .inl ⟨_, _, ?_, rfl, ⟨some (iv (j : Nat)), some (iv (ix.getD j 0)), rfl⟩, fun i hi => ?_⟩
        · have d1 : ¬ ix.getD j 0 < 0 := by omega
          have d2 : ¬ (ls.getD j 0 : Int) ≤ ix.getD j 0 := by omega
          simp [g1, d1, d2, -List.getD_eq_getElem?_getD]
        · rcases Nat.lt_succ_iff_lt_or_eq.mp hi with hi | rfl
          · exact ha i hi
          · exact c
      · have : sIf (tOr (tLt (eVar 4) (eC (.int 0))) (tGe (eVar 4) (e2 subI (eVar 0) (eVar 3)))) (sRaise "TrapError") (sNil) [some (.t (li (ni ls))), some (.t (li ix)), some (.t (li (starts 0 (ni ls)))), some (iv j), some (iv (ix.getD j 0))] s1 = .ex trap [some (.t (li (ni ls))), some (.t (li ix)), some (.t (li (starts 0 (ni ls)))), some (iv j), some (iv (ix.getD j 0))] s1 := by
          by_cases d1 : ix.getD j 0 < 0
          · simp [d1, -List.getD_eq_getElem?_getD]
          · have d2 : (ls.getD j 0 : Int) ≤ ix.getD j 0 := by omega
            simp [g1, d1, d2, -List.getD_eq_getElem?_getD]
        exact .inr ⟨.inr ⟨_, _, _, this⟩, ⟨_, this⟩, c⟩)
    have ofAll : (∀ i, i < ls.length → (0 ≤ ix.getD i 0 ∧ ix.getD i 0 < (ls.getD i 0 : Nat))) ↔ plOk ls ix = true := by
      unfold plOk
      rw [List.all_eq_true]
      refine ⟨fun h k hk => ?_, fun h k hk => ?_⟩
      · obtain ⟨a, b⟩ := h k (List.mem_range.mp hk)
        rw [Bool.and_eq_true, decide_eq_true_eq, decide_eq_true_eq]
        exact ⟨a, b⟩
      · have := h k (List.mem_range.mpr hk)
        rw [Bool.and_eq_true, decide_eq_true_eq, decide_eq_true_eq] at this
        exact this
    rcases z with ⟨ρ', s', rfl, rfl, ⟨a, b, rfl⟩, ha⟩ | ⟨j, hj, _, ⟨ρ, rfl⟩, c⟩
    · exact ⟨fun _ => ⟨a, b, rfl⟩, fun h => by rw [ofAll.mp ha] at h; cases h⟩
    · exact ⟨fun h => absurd (ofAll.mpr h j hj) c, fun _ => ⟨ρ, rfl⟩⟩
  constructor
  · intro h
    refine fn_Rt rfl hw ?_
    simp only [g_placed, start, p_seq2, p_asgV, p_call, p_vals, p_vals0, p_var0, p_ok, List.map, List.length, Nat.sub, List.replicate, List.cons_append, List.nil_append, hst, p_sok, List.set, then_nx, p_for, hi]
    generalize hc : forL _ _ _ _ _ = o
    obtain ⟨a, b, rfl⟩ := (key o hc).1 h
    simp only [then_nx, p_ret, p_comp, hi, p_ok, wipeE, List.set, hm, li_new, p_sok]
    exact Rt.self
  · intro h
    refine fn_Rx rfl hw ?_
    simp only [g_placed, start, p_seq2, p_asgV, p_call, p_vals, p_vals0, p_var0, p_ok, List.map, List.length, Nat.sub, List.replicate, List.cons_append, List.nil_append, hst, p_sok, List.set, then_nx, p_for, hi]
    generalize hc : forL _ _ _ _ _ = o
    obtain ⟨ρ, rfl⟩ := (key o hc).2 h
    simp only [then_ex]
    exact Rx.self
theorem v_woven (B : BaseV Γ) (n : Nat) (fl : List Int) (hl : fl.length ≤ BL) (s : Store) (hw : Wf s) : Γ (n + 1) 31 [.t (li fl)] s = .ok (.t (li (weaveF fl))) s := by
  rw [B.woven]
  refine fn_Rt rfl hw ?_
  have hl' : fl.length ≤ 8000000 := hl
  have hct : (fl.filter nz).length = cnt fl fl.length := by unfold cnt; rw [List.take_length]
  simp [g_woven, start, wipeE]
  rw [comp_filter (s := s) iv nz iv fl (fun v _ => ⟨_, rfl, by simp [nz], fun _ => rfl⟩), p_ok, li_new, p_ok, li_len, p_sok, then_nx, hct]
  simp
  have hi := p_enum (a := eVar 0) (ρ := [some (.t (li fl)), some (iv (cnt fl fl.length : Nat)), none, some (.loc s.length), some (iv 0), none]) (s := s ++ [some (.lst [])]) (l := fl) rfl
  rw [hi, p_sok]
  generalize hc : forL _ _ _ _ _ = o
  obtain ⟨ρ', s', rfl, v, a, b, rfl, ho⟩ := for_ix hc (fun j ρ s' => ∃ v a b, ρ = [some (.t (li fl)), some (iv (cnt fl fl.length : Nat)), a, some v, some (iv (cnt fl j : Nat)), b] ∧ OwnI s s' v ((List.range j).map (wv fl))) ⟨_, none, none, rfl, own_new hw List.take_length []⟩ (by
    rintro j hj ρ s1 ⟨v, a, b, rfl, ho⟩
    have hs := cnt_succ fl j hj
    obtain ⟨s2, h1, h2⟩ := ownI_app ho (by rw [List.length_map, List.length_range]; omega) (wv fl j)
    refine ⟨_, _, [some (.t (li fl)), some (iv (cnt fl fl.length : Nat)), some (iv (fl.getD j 0)), some v, some (iv (cnt fl (j + 1) : Nat)), some (iv (j : Nat))], s2, rfl, ?_, v, _, _, rfl, by rw [List.range_succ, List.map_append]; exact h2⟩
    by_cases hn : nz (fl.getD j 0) = true
    · rw [if_pos hn] at hs
      have e : wv fl j = (cnt fl j : Nat) := by unfold wv; rw [if_pos hn]
      have hn' : (!(fl.getD j 0 == 0)) = true := hn
      rw [e] at h1
      simp only [List.set, p_if, p_tNe, p_var2, p_eC, p_ok, p_eqI, p_sok, hn', if_true, p_seq2, p_sexpr, p_e2c, p_var3, own_lstC ho, p_var4, h1, then_nx, p_asgV, p_e2, p_add, hs]
      rfl
    · rw [if_neg hn] at hs
      have e : wv fl j = (cnt fl fl.length : Nat) + (j : Int) - (cnt fl j : Nat) := by unfold wv; rw [if_neg hn]
      have hn' : (!(fl.getD j 0 == 0)) = false := by simpa [nz] using hn
      rw [e] at h1
      simp only [List.set, p_if, p_tNe, p_var2, p_eC, p_ok, p_eqI, p_sok, hn', if_false, Bool.false_eq_true, p_sexpr, p_e2c, p_var3, own_lstC ho, p_var1, p_var4, p_var5, p_e2, p_add, p_sub, h1, hs]
      rfl)
  rw [then_nx]
  generalize hz : sFz _ _ _ = o
  obtain ⟨s2, rfl, h2, h3⟩ := own_sfz2 hz ho rfl
  simp [-List.map_map]
  exact Rt.mk h2
theorem zA_len (ls : List Nat) (k : Nat) : (zA ls k).length = ls.getD k 0 := by unfold zA; rw [List.length_map, rg_len]
theorem zB_len (ls os : List Nat) (k : Nat) : (zB ls os k).length = os.getD k 0 := by unfold zB; rw [List.length_map, rg_len]
theorem pref_sum (ls : List Nat) : ∀ j, j ≤ ls.length → ((List.range j).map fun k => ls.getD k 0).sum = sta ls j
  | 0, _ => by simp [sta]
  | j + 1, h => by
    rw [List.range_succ, List.map_append, List.sum_append, pref_sum ls j (by omega)]
    unfold sta
    rw [List.take_succ, List.getElem?_eq_getElem (by omega), List.sum_append]
    simp only [List.map_cons, List.map_nil, List.sum_cons, List.sum_nil, Option.toList_some]
    rw [List.getD_eq_getElem?_getD, List.getElem?_eq_getElem (by omega)]; rfl
theorem sta_sum (ls : List Nat) (j : Nat) : sta ls j ≤ ls.sum := by
  unfold sta
  conv => rhs; rw [← List.take_append_drop j ls]
  rw [List.sum_append]; omega
theorem sum_add {β : Type} (f g : β → Nat) : ∀ l : List β, (l.map fun k => f k + g k).sum = (l.map f).sum + (l.map g).sum
  | [] => rfl
  | x :: r => by simp only [List.map_cons, List.sum_cons, sum_add f g r]; omega
theorem zip_pre (ls os : List Nat) (j : Nat) (h : j ≤ ls.length) (h2 : j ≤ os.length) : ((List.range j).flatMap fun k => zA ls k ++ zB ls os k).length = sta ls j + sta os j := by
  rw [flat_sum]
  simp only [List.length_append, zA_len, zB_len]
  rw [sum_add, pref_sum ls j h, pref_sum os j h2]
theorem v_zipped (B : BaseV Γ) (n : Nat) (ls os : List Nat) (hl : ls.length ≤ BL) (h1 : ls.sum ≤ BL) (h2 : os.sum ≤ BL) (hn : os.length = ls.length) (s : Store) (hw : Wf s) : Γ (n + 2) 32 [.t (li (ni ls)), .t (li (ni os))] s = .ok (.t (li (zipF ls os))) s := by
  rw [B.zipped]
  refine fn_Rt rfl hw ?_
  have h1' : ls.sum ≤ 8000000 := h1
  have h2' : os.sum ≤ 8000000 := h2
  have hs1 := v_starts B n (ni ls) (by rw [List.length_map]; exact hl) s hw
  have hs2 := v_starts B n (ni os) (by rw [List.length_map, hn]; exact hl) s hw
  simp [g_zipped, start, hs1, hs2, sum_ni]
  have hi := p_enum (a := eVar 0) (ρ := [some (.t (li (ni ls))), some (.t (li (ni os))), some (iv ls.sum), some (.t (li (starts 0 (ni ls)))), some (.t (li (starts 0 (ni os)))), some (.loc s.length), none, none, none]) (s := s ++ [some (.lst [])]) (l := ni ls) rfl
  rw [hi, p_sok, show (ni ls).length = ls.length by simp]
  generalize hc : forL _ _ _ _ _ = o
  obtain ⟨ρ', s', rfl, v, a, b, c, rfl, ho⟩ := for_ix hc (fun j ρ s' => ∃ v a b c, ρ = [some (.t (li (ni ls))), some (.t (li (ni os))), some (iv ls.sum), some (.t (li (starts 0 (ni ls)))), some (.t (li (starts 0 (ni os)))), some v, a, b, c] ∧ OwnI s s' v ((List.range j).flatMap fun k => zA ls k ++ zB ls os k)) ⟨_, none, none, none, rfl, own_new hw List.take_length []⟩ (by
    rintro j hj ρ s1 ⟨v, a, b, c, rfl, ho⟩
    have hj2 : j < os.length := by omega
    have q1 := zip_pre ls os j (by omega) (by omega)
    have q2 := sta_sum ls j
    have q3 := sta_sum os j
    have q4 := sta_le ls j hj
    have q5 := sta_le os j hj2
    have g3 : ∀ st, subI (.t (.lst ((starts 0 (ni ls)).map .int))) (iv j) st = .ok (iv (sta ls j : Nat)) st := fun st => by
      rw [li_getD (by rw [starts_len]; simpa using hj), starts_at ls j hj]
    have g4 : ∀ st, subI (.t (.lst ((starts 0 (ni os)).map .int))) (iv j) st = .ok (iv (sta os j : Nat)) st := fun st => by
      rw [li_getD (by rw [starts_len]; simpa using hj2), starts_at os j hj2]
    have g1 : ∀ st, subI (.t (.lst ((ni os).map .int))) (iv j) st = .ok (iv (os.getD j 0 : Nat)) st := fun st => by
      rw [li_getD (by simpa using hj2), ni_getD]
    obtain ⟨s2, x1, o2⟩ := own_ext ho (us := (zA ls j).map .int) (by rw [List.length_map, List.length_map, q1, zA_len]; omega)
    rw [← List.map_append] at o2
    obtain ⟨s3, x2, o3⟩ := own_ext o2 (us := (zB ls os j).map .int) (by rw [List.length_map, List.length_map, List.length_append, q1, zA_len, zB_len]; omega)
    rw [← List.map_append, List.append_assoc] at o3
    refine ⟨_, _, [some (.t (li (ni ls))), some (.t (li (ni os))), some (iv ls.sum), some (.t (li (starts 0 (ni ls)))), some (.t (li (starts 0 (ni os)))), some v, some (iv (j : Nat)), some (iv ((ni ls).getD j 0)), c], s3, rfl, ?_, v, _, _, _, rfl, by rw [flat_succ]; exact o3⟩
    rw [ni_getD]
    have r1 := p_rangeS (b := eVar 7) (ρ := [some (.t (li (ni ls))), some (.t (li (ni os))), some (iv ls.sum), some (.t (li (starts 0 (ni ls)))), some (.t (li (starts 0 (ni os)))), some v, some (iv (j : Nat)), some (iv (ls.getD j 0 : Nat)), c]) (s := s1) (s' := s1) (n := ls.getD j 0) rfl (by omega)
    have r2 := p_rangeS (b := e2 subI (eVar 1) (eVar 6)) (ρ := [some (.t (li (ni ls))), some (.t (li (ni os))), some (iv ls.sum), some (.t (li (starts 0 (ni ls)))), some (.t (li (starts 0 (ni os)))), some v, some (iv (j : Nat)), some (iv (ls.getD j 0 : Nat)), c]) (s := s2) (s' := s2) (n := os.getD j 0) (by simp only [p_e2, p_var1, p_var6, p_ok, g1]) (by omega)
    have m1 := comp_rg (s := s1) (ρ := [some (.t (li (ni ls))), some (.t (li (ni os))), some (iv ls.sum), some (.t (li (starts 0 (ni ls)))), some (.t (li (starts 0 (ni os)))), some v, some (iv (j : Nat)), some (iv (ls.getD j 0 : Nat)), none]) (i := 8) (k := ls.getD j 0) (h := e2 (addV false) (e2 subI (eVar 3) (eVar 6)) (eVar 8)) (fun w => (sta ls j : Int) + (w : Int)) (fun w _ => by simp only [List.set, p_e2, p_var3, p_var6, p_var8, p_ok, g3, p_add])
    have m2 := comp_rg (s := s2) (ρ := [some (.t (li (ni ls))), some (.t (li (ni os))), some (iv ls.sum), some (.t (li (starts 0 (ni ls)))), some (.t (li (starts 0 (ni os)))), some v, some (iv (j : Nat)), some (iv (ls.getD j 0 : Nat)), none]) (i := 8) (k := os.getD j 0) (h := e2 (addV false) (e2 (addV false) (eVar 2) (e2 subI (eVar 4) (eVar 6))) (eVar 8)) (fun w => (ls.sum : Int) + (sta os j : Int) + (w : Int)) (fun w _ => by simp only [List.set, p_e2, p_var2, p_var4, p_var6, p_var8, p_ok, g4, p_add])
    rw [show (List.range (ls.getD j 0)).map (fun (w : Nat) => (sta ls j : Int) + (w : Int)) = zA ls j by unfold zA rg; rw [List.map_map]; rfl] at m1
    rw [show (List.range (os.getD j 0)).map (fun (w : Nat) => (ls.sum : Int) + (sta os j : Int) + (w : Int)) = zB ls os j by unfold zB rg; rw [List.map_map]; rfl] at m2
    simp only [List.set, p_seq2, p_sexpr, p_e2c, p_var5, p_ok, own_lstC ho, own_lstC o2, p_compRn r1 (show ls.getD j 0 ≤ 16777216 by omega), p_compRn r2 (show os.getD j 0 ≤ 16777216 by omega), wipeE, m1, m2, li_new, x1, x2, p_sok, then_nx])
  rw [then_nx]
  generalize hz : sFz _ _ _ = o
  obtain ⟨s2, rfl, h2, h3⟩ := own_sfz2 hz ho rfl
  simp
  exact Rt.mk h2
def rangeOkF (a : List Int) : Bool := a.all fun x => decide (0 ≤ x) && decide (x ≤ 1000)
theorem v_range (B : BaseV Γ) (n : Nat) (a : List Int) (b : List T) (s : Store) (hw : Wf s) : (rangeOkF a = true → Γ (n + 1) 33 [.t (.str "range"), .t (.lst (li a :: b))] s = .ok (.t (li a)) s) ∧ (rangeOkF a = false → Γ (n + 1) 33 [.t (.str "range"), .t (.lst (li a :: b))] s = .exc trap s) := by
  rw [B.checked]
  have g0 : ∀ s, subI (.t (.lst (li a :: b))) (.t (.int 0)) s = .ok (.t (li a)) s := fun s => lst_get (xs := li a :: b) (k := 0) rfl s
  have ll : listV false (.t (li a)) s = .ok (.t (li a)) s := by
    show (items (.t (li a)) >>= fun vs => newL false vs) s = _
    rw [bind_eq, li_itms, bind_ok, li_new]
  have key : ∀ o, forL (gVar 2) (sIf (tOr (tLt (eVar 2) (eC (.int 0))) (tGt (eVar 2) (eC (.int 1000)))) (sRaise "TrapError") (sNil)) (a.map iv) [some (.t (.str "range")), some (.t (.lst (li a :: b))), none] s = o →
      (rangeOkF a = true → ∃ x, o = .nx [some (.t (.str "range")), some (.t (.lst (li a :: b))), x] s) ∧ (rangeOkF a = false → ∃ ρ, o = .ex trap ρ s) := by
    intro o hc
    rw [map_ix] at hc
    have z := for_ixr hc (fun j ρ s' => s' = s ∧ (∃ x, ρ = [some (.t (.str "range")), some (.t (.lst (li a :: b))), x]) ∧ ∀ i, i < j → (0 ≤ a.getD i 0 ∧ a.getD i 0 ≤ 1000))
      (fun j o => (∃ ρ, o = .ex trap ρ s) ∧ ¬ (0 ≤ a.getD j 0 ∧ a.getD j 0 ≤ 1000)) ⟨rfl, ⟨none, rfl⟩, fun i hi => absurd hi (Nat.not_lt_zero i)⟩ (by
      rintro j hj ρ s1 ⟨rfl, ⟨x, rfl⟩, ha⟩
      refine ⟨_, _, rfl, ?_⟩
      show (∃ ρ2 s2, sIf (tOr (tLt (eVar 2) (eC (.int 0))) (tGt (eVar 2) (eC (.int 1000)))) (sRaise "TrapError") (sNil) [some (.t (.str "range")), some (.t (.lst (li a :: b))), some (iv (a.getD j 0))] s1 = .nx ρ2 s2 ∧ _) ∨ _
      by_cases c : 0 ≤ a.getD j 0 ∧ a.getD j 0 ≤ 1000
      · refine .inl ⟨_, _, ?_, rfl, ⟨some (iv (a.getD j 0)), rfl⟩, fun i hi => ?_⟩
        · have d1 : ¬ a.getD j 0 < 0 := by omega
          have d2 : ¬ (1000 : Int) < a.getD j 0 := by omega
          simp [d1, d2, -List.getD_eq_getElem?_getD]
        · rcases Nat.lt_succ_iff_lt_or_eq.mp hi with hi | rfl
          · exact ha i hi
          · exact c
      · have : sIf (tOr (tLt (eVar 2) (eC (.int 0))) (tGt (eVar 2) (eC (.int 1000)))) (sRaise "TrapError") (sNil) [some (.t (.str "range")), some (.t (.lst (li a :: b))), some (iv (a.getD j 0))] s1 = .ex trap [some (.t (.str "range")), some (.t (.lst (li a :: b))), some (iv (a.getD j 0))] s1 := by
          by_cases d1 : a.getD j 0 < 0
          · simp [d1, -List.getD_eq_getElem?_getD]
          · have d2 : (1000 : Int) < a.getD j 0 := by omega
            simp [d1, d2, -List.getD_eq_getElem?_getD]
        exact .inr ⟨.inr ⟨_, _, _, this⟩, ⟨_, this⟩, c⟩)
    have ofAll : (∀ i, i < a.length → (0 ≤ a.getD i 0 ∧ a.getD i 0 ≤ 1000)) ↔ rangeOkF a = true := by
      unfold rangeOkF
      rw [List.all_eq_true]
      refine ⟨fun h x hx => ?_, fun h k hk => ?_⟩
      · obtain ⟨k, hk, rfl⟩ := List.getElem_of_mem hx
        have := h k hk
        rw [List.getD_eq_getElem?_getD, List.getElem?_eq_getElem hk, Option.getD_some] at this
        rw [Bool.and_eq_true, decide_eq_true_eq, decide_eq_true_eq]
        exact this
      · have := h _ (getD_mem hk)
        rw [Bool.and_eq_true, decide_eq_true_eq, decide_eq_true_eq] at this
        exact this
    rcases z with ⟨ρ', s', rfl, rfl, ⟨x, rfl⟩, ha⟩ | ⟨j, hj, _, ⟨ρ, rfl⟩, c⟩
    · exact ⟨fun _ => ⟨x, rfl⟩, fun h => by rw [ofAll.mp ha] at h; cases h⟩
    · exact ⟨fun h => absurd (ofAll.mpr h j hj) c, fun _ => ⟨ρ, rfl⟩⟩
  constructor
  · intro h
    refine fn_Rt rfl hw ?_
    simp [g_checked, start, g0]
    generalize hc : forL _ _ _ _ _ = o
    obtain ⟨x, rfl⟩ := (key o hc).1 h
    simp [g0, ll]
    exact Rt.self
  · intro h
    refine fn_Rx rfl hw ?_
    simp [g_checked, start, g0]
    generalize hc : forL _ _ _ _ _ = o
    obtain ⟨ρ, rfl⟩ := (key o hc).2 h
    exact Rx.self
theorem v_same (B : BaseV Γ) (n : Nat) (a b : List Int) (s : Store) (hw : Wf s) : (a = b → Γ (n + 1) 33 [.t (.str "same"), .t (.lst [li a, li b])] s = .ok (.t (li a)) s) ∧ (a ≠ b → Γ (n + 1) 33 [.t (.str "same"), .t (.lst [li a, li b])] s = .exc trap s) := by
  rw [B.checked]
  have g0 : ∀ s, subI (.t (.lst [li a, li b])) (.t (.int 0)) s = .ok (.t (li a)) s := fun s => rfl
  have g1 : ∀ s, subI (.t (.lst [li a, li b])) (.t (.int 1)) s = .ok (.t (li b)) s := fun s => rfl
  have ll : listV false (.t (li a)) s = .ok (.t (li a)) s := by
    show (items (.t (li a)) >>= fun vs => newL false vs) s = _
    rw [bind_eq, li_itms, bind_ok, li_new]
  constructor
  · rintro rfl
    refine fn_Rt rfl hw ?_
    simp [g_checked, start, g0, g1, ll]
    exact Rt.self
  · intro h
    refine fn_Rx rfl hw ?_
    simp [g_checked, start, g0, g1, h]
    exact Rx.self
end
end Fl
set_option Elab.async false
set_option linter.all false
set_option maxRecDepth 100000
/-! Fl: execute, by what it gives. -/
namespace Fl
/-- what a run ends in: told, a trap, not told -/
inductive Out (α : Type) where
  | ok (a : α)
  | trap
  | bad
def Out.bind {α β : Type} (o : Out α) (k : α → Out β) : Out β := match o with
  | .ok a => k a
  | .trap => .trap
  | .bad => .bad
abbrev Vec := List Int
/-- numbers that are not negative -/
def nats (a : Vec) : Option (List Nat) := if a.all (fun x => decide (0 ≤ x)) = true then some (a.map Int.toNat) else none
theorem nats_ni (ls : List Nat) : nats (ni ls) = some ls := by
  unfold nats
  rw [if_pos (by simp), List.map_map]
  congr 1
  conv => rhs; rw [← List.map_id ls]
  exact List.map_congr_left fun k _ => Int.toNat_natCast k
theorem nats_some {a : Vec} {ls : List Nat} (h : nats a = some ls) : a = ni ls := by
  unfold nats at h
  split at h
  · rename_i c
    injection h with h
    subst h
    rw [List.all_eq_true] at c
    show a = (a.map Int.toNat).map fun (k : Nat) => (k : Int)
    rw [List.map_map]
    conv => lhs; rw [← List.map_id a]
    refine List.map_congr_left fun x hx => ?_
    have := c x hx
    exact (Int.toNat_of_nonneg (of_decide_eq_true this)).symm
  · cases h
def inrs (a : Vec) : Bool := a.all fun i => decide (-2147483648 ≤ i) && decide (i ≤ 2147483647)
theorem inrs_iff {a : Vec} : inrs a = true ↔ ∀ i ∈ a, Inr i := by
  unfold inrs Inr
  rw [List.all_eq_true]
  refine ⟨fun h i hi => ?_, fun h i hi => ?_⟩
  · have := h i hi; rw [Bool.and_eq_true, decide_eq_true_eq, decide_eq_true_eq] at this; exact this
  · rw [Bool.and_eq_true, decide_eq_true_eq, decide_eq_true_eq]; exact h i hi
def gd (c : Bool) (o : Out Vec) : Out Vec := if c = true then o else .bad
def sh (a : Vec) : Bool := decide (a.length ≤ 8000000)
def fillX (d : T) (i : List Vec) : Out Vec := match d, i with
  | .int c, [a] => gd (sh a) (.ok (List.replicate a.length c))
  | _, _ => .bad
def calcX (d : T) (i : List Vec) : Out Vec := match d, i with
  | .str x, [a, b] => gd (decide (x ∈ signs) && (inrs a && (inrs b && decide (b.length = a.length)))) (if (List.range a.length).all (fun k => !calT x (b.getD k 0)) = true then .ok (calF x a b) else .trap)
  | _, _ => .bad
def takeX (d : T) (i : List Vec) : Out Vec := match d, i with
  | .non, [a, b] => match nats b with
    | some ix => gd (ix.all fun k => decide (k < a.length)) (.ok (ix.map fun k => a.getD k 0))
    | none => .bad
  | _, _ => .bad
def pickX (d : T) (i : List Vec) : Out Vec := match d, i with
  | .non, [a, b] => match nats a, nats b with
    | some ls, some ix => gd (decide (ls.length ≤ 8000000) && (decide (ls.sum ≤ 8000000) && ((ix.all fun k => decide (k < ls.length)) && decide ((pickF ls ix).length ≤ 8000000)))) (.ok (pickF ls ix))
    | _, _ => .bad
  | _, _ => .bad
def repX (d : T) (i : List Vec) : Out Vec := match d, i with
  | .non, [a] => match nats a with
    | some ls => gd (decide (ls.sum ≤ 8000000)) (.ok (rep ls))
    | none => .bad
  | _, _ => .bad
def countX (d : T) (i : List Vec) : Out Vec := match d, i with
  | .non, [a] => match nats a with
    | some ls => gd (decide (ls.sum ≤ 8000000)) (.ok (countF ls))
    | none => .bad
  | _, _ => .bad
def whF (t : Bool) (a : Vec) : Vec := ((List.range a.length).filter fun k => nz (a.getD k 0) == t).map fun (k : Nat) => (k : Int)
def whereX (d : T) (i : List Vec) : Out Vec := match d, i with
  | .bl t, [a] => .ok (whF t a)
  | _, _ => .bad
def weaveX (d : T) (i : List Vec) : Out Vec := match d, i with
  | .non, [a] => gd (sh a) (.ok (weaveF a))
  | _, _ => .bad
def joinX (d : T) (i : List Vec) : Out Vec := match d, i with
  | .non, [a, b] => gd (sh a && sh b) (.ok (a ++ b))
  | _, _ => .bad
def sumsX (d : T) (i : List Vec) : Out Vec := match d, i with
  | .non, [a, b] => match nats a with
    | some ls => gd (decide (ls.length ≤ 8000000) && decide (b.length = ls.sum)) (.ok (sumF ls b))
    | none => .bad
  | _, _ => .bad
def zipX (d : T) (i : List Vec) : Out Vec := match d, i with
  | .non, [a, b] => match nats a, nats b with
    | some ls, some os => gd (decide (ls.length ≤ 8000000) && (decide (ls.sum ≤ 8000000) && (decide (os.sum ≤ 8000000) && decide (os.length = ls.length)))) (.ok (zipF ls os))
    | _, _ => .bad
  | _, _ => .bad
def placeX (d : T) (i : List Vec) : Out Vec := match d, i with
  | .non, [a, b] => match nats a with
    | some ls => gd (decide (ls.length ≤ 8000000) && decide (b.length = ls.length)) (if plOk ls b = true then .ok (placeF ls b) else .trap)
    | none => .bad
  | _, _ => .bad
def rangeX (d : T) (i : List Vec) : Out Vec := match d, i with
  | .non, [a] => if rangeOkF a = true then .ok a else .trap
  | _, _ => .bad
def sameX (d : T) (i : List Vec) : Out Vec := match d, i with
  | .non, [a, b] => if a = b then .ok a else .trap
  | _, _ => .bad
def flF (a : Vec) : Vec := a.map fun x => if nz x = true then 1 else 0
def flagsX (d : T) (i : List Vec) : Out Vec := match d, i with
  | .non, [a] => .ok (flF a)
  | _, _ => .bad
/-- an instruction by its name -/
def exec (x : String) (d : T) (i : List Vec) : Out Vec :=
  if x = "fill" then fillX d i else if x = "calc" then calcX d i else if x = "take" then takeX d i else if x = "pick" then pickX d i else if x = "repeat" then repX d i else if x = "count" then countX d i
  else if x = "where" then whereX d i else if x = "weave" then weaveX d i else if x = "join" then joinX d i else if x = "sums" then sumsX d i else if x = "zip" then zipX d i else if x = "place" then placeX d i
  else if x = "flags" then flagsX d i else if x = "range" then rangeX d i else if x = "same" then sameX d i else .bad
abbrev lv (i : List Vec) : T := .lst (i.map li)
/-- a call's end as it is told -/
def Tells (r : R Val) (s : Store) : Out Vec → Prop
  | .ok v => r = .ok (.t (li v)) s
  | .trap => r = .exc trap s
  | .bad => True
theorem gd_ok {c : Bool} {o : Out Vec} {r : R Val} {s : Store} (h : c = true → Tells r s o) : Tells r s (gd c o) := by
  unfold gd
  split
  · rename_i hc; exact h hc
  · exact True.intro
theorem li_mul (k : Nat) (hk : k ≤ 8000000) (c : Int) (s : Store) : mulV false (.t (.lst [.int c])) (.t (.int (k : Nat))) s = .ok (.t (li (List.replicate k c))) s := by
  have h62 : (2:Int)^62 = 4611686018427387904 := by decide
  have hi : itemsL (.t (.lst [.int c])) s = .ok [iv c] s := rfl
  have e : mulV false (.t (.lst [.int c])) (.t (.int (k : Nat))) s = (itemsL (.t (.lst [.int c])) >>= fun x => if (k : Int) < 2 ^ 62 ∧ -(2 ^ 62) < (k : Int) ∧ x.length * (k : Int).toNat ≤ L then newL false (List.replicate (k : Int).toNat x).flatten else bad) s := rfl
  have q : (List.replicate (k : Int).toNat [iv c]).flatten = (List.replicate k c).map iv := by
    rw [Int.toNat_natCast, List.map_replicate]
    induction k with
    | zero => rfl
    | succ k ih => rw [List.replicate_succ, List.flatten_cons, ih (by omega) (by rfl), List.replicate_succ]; rfl
  rw [e, bind_eq, hi, bind_ok, if_pos ⟨by omega, by omega, by rw [Int.toNat_natCast]; show 1 * k ≤ 16777216; omega⟩, q, li_new]
section
variable {Γ : Nat → FEnv}
theorem i1 (a : Vec) (s : Store) : subI (.t (.lst [li a])) (.t (.int 0)) s = .ok (.t (li a)) s := rfl
theorem i20 (a b : Vec) (s : Store) : subI (.t (.lst [li a, li b])) (.t (.int 0)) s = .ok (.t (li a)) s := rfl
theorem i21 (a b : Vec) (s : Store) : subI (.t (.lst [li a, li b])) (.t (.int 1)) s = .ok (.t (li b)) s := rfl
theorem x_rt (B : BaseV Γ) {n : Nat} {x : String} {d i : T} {v : Vec} {s : Store} (hw : Wf s) (h : g_execute (Γ n) (start 8 [.t (.str x), .t d, .t i]) s = .rt (.t (li v)) s) : Tells (Γ (n + 1) 34 [.t (.str x), .t d, .t i] s) s (.ok v) := by
  show _ = _
  rw [B.execute]
  exact fn_Rt rfl hw (by rw [h]; exact Rt.self)
theorem x_ex (B : BaseV Γ) {n : Nat} {x : String} {d i : T} {s : Store} {ρ : Env} (hw : Wf s) (h : g_execute (Γ n) (start 8 [.t (.str x), .t d, .t i]) s = .ex trap ρ s) : Tells (Γ (n + 1) 34 [.t (.str x), .t d, .t i] s) s .trap := by
  show _ = _
  rw [B.execute]
  exact fn_Rx rfl hw (by rw [h]; exact Rx.self)
theorem eqBB (x y : Bool) (s : Store) : eqV (.t (.bl x)) (.t (.bl y)) s = .ok (x == y) s := by
  show (match T.eq? (.bl x) (.bl y) with | some r => R.ok r s | none => .bad) = _
  have : T.eq? (.bl x) (.bl y) = some (x == y) := by
    show (if T.plain 60 (.bl x) && T.plain 60 (.bl y) then some (T.eqv (.bl x) (.bl y)) else none) = _
    rw [T.eqv]; rfl
  rw [this]
theorem x_calc (B : BaseV Γ) (N : BaseN Γ) (n : Nat) (x : String) (hx : x ∈ signs) (a b : Vec) (ha : ∀ i ∈ a, Inr i) (hb : ∀ i ∈ b, Inr i) (hl : b.length = a.length) (s : Store) (hw : Wf s) :
    Tells (Γ (n + 3) 34 [.t (.str "calc"), .t (.str x), .t (.lst [li a, li b])] s) s (if (List.range a.length).all (fun k => !calT x (b.getD k 0)) = true then .ok (calF x a b) else .trap) := by
  have key := comp_exc (g := gTup [3, 4]) (f := eCall (Γ (n + 2)) 1 [eVar 1, eVar 4, e2 subI (e2 subI (eVar 2) (eC (.int 1))) (eVar 3)]) (ρ := [some (.t (.str "calc")), some (.t (.str x)), some (.t (.lst [li a, li b])), none, none, none, none, none]) (s := s)
    (fun (k : Nat) => Val.t (.tup [.int (k : Nat), .int (a.getD k 0)])) (fun k => iv (cal x (a.getD k 0) (b.getD k 0))) (fun k => !calT x (b.getD k 0)) trap (List.range a.length) (by
    intro k hk
    have hk := List.mem_range.mp hk
    have g1 := li_getD (xs := b) (k := k) (by omega) s
    obtain ⟨c1, c2⟩ := n_calc N n x hx (a.getD k 0) (b.getD k 0) s (ha _ (getD_mem hk)) (hb _ (getD_mem (by omega)))
    refine ⟨_, rfl, fun h => ?_, fun h => ?_⟩
    · simp only [List.set, p_call, p_vals, p_vals0, p_var1, p_var4, p_e2, p_var2, p_eC, p_ok, i21, p_var3, g1]
      exact c1 (by simpa using h)
    · simp only [List.set, p_call, p_vals, p_vals0, p_var1, p_var4, p_e2, p_var2, p_eC, p_ok, i21, p_var3, g1]
      exact c2 (by simpa using h))
  have e0 : start 8 [.t (.str "calc"), .t (.str x), .t (.lst [li a, li b])] = [some (.t (.str "calc")), some (.t (.str x)), some (.t (.lst [li a, li b])), none, none, none, none, none] := rfl
  have hi := p_enum (a := e2 subI (eVar 2) (eC (.int 0))) (ρ := [some (.t (.str "calc")), some (.t (.str x)), some (.t (.lst [li a, li b])), none, none, none, none, none]) (s := s) (l := a) rfl
  by_cases h : (List.range a.length).all (fun k => !calT x (b.getD k 0)) = true
  · rw [if_pos h]
    refine x_rt B hw ?_
    have := key.1 h
    have ee : (List.range a.length).map (fun k => iv (cal x (a.getD k 0) (b.getD k 0))) = (calF x a b).map iv := by unfold calF; rw [List.map_map]; rfl
    rw [ee] at this
    rw [e0]
    simp [g_execute, hi, wipeE, this, -List.map_map, -List.getD_eq_getElem?_getD]
  · rw [if_neg h]
    refine x_ex B (ρ := start 8 [.t (.str "calc"), .t (.str x), .t (.lst [li a, li b])]) hw ?_
    have := key.2 (by simpa using h)
    rw [e0]
    simp [g_execute, hi, wipeE, this, -List.map_map, -List.getD_eq_getElem?_getD]
end
end Fl
set_option Elab.async false
set_option linter.all false
set_option maxRecDepth 100000
/-! Fl: execute does what exec tells. -/
namespace Fl
theorem and2 {a b : Bool} (h : (a && b) = true) : a = true ∧ b = true := Bool.and_eq_true_iff.mp h
theorem sh_le {a : Vec} (h : sh a = true) : a.length ≤ 8000000 := of_decide_eq_true h
section
variable {Γ : Nat → FEnv}
theorem exec_run (B : BaseV Γ) (N : BaseN Γ) (n : Nat) (x : String) (d : T) (i : List Vec) (s : Store) (hw : Wf s) : Tells (Γ (n + 3) 34 [.t (.str x), .t d, .t (lv i)] s) s (exec x d i) := by
  unfold exec
  by_cases h : x = "fill"
  · subst h; rw [if_pos rfl]
    unfold fillX
    split
    · rename_i c a
      dsimp only [lv, List.map]
      refine gd_ok fun g => x_rt B hw ?_
      have hm := li_mul a.length (sh_le g) c s
      have hl1 : newL false [.t (.int c)] s = .ok (.t (.lst [.int c])) s := rfl
      simp [g_execute, start, hl1, i1, hm]
    · exact True.intro
  rw [if_neg h]; clear h
  by_cases h : x = "calc"
  · subst h; rw [if_pos rfl]
    unfold calcX
    split
    · rename_i y a b
      dsimp only [lv, List.map]
      refine gd_ok fun g => ?_
      obtain ⟨g1, g⟩ := and2 g
      obtain ⟨g2, g⟩ := and2 g
      obtain ⟨g3, g4⟩ := and2 g
      exact x_calc B N n y (of_decide_eq_true g1) a b (inrs_iff.mp g2) (inrs_iff.mp g3) (of_decide_eq_true g4) s hw
    · exact True.intro
  rw [if_neg h]; clear h
  by_cases h : x = "take"
  · subst h; rw [if_pos rfl]
    unfold takeX
    split
    · rename_i a b
      dsimp only [lv, List.map]
      split
      · rename_i ix hn
        obtain rfl := nats_some hn
        refine gd_ok fun g => x_rt B hw ?_
        rw [List.all_eq_true] at g
        have hc := comp_map (g := gVar 5) (f := e2 subI (e2 subI (eVar 2) (eC (.int 0))) (eVar 5)) (ρ := [some (.t (.str "take")), some (.t .non), some (.t (.lst [li a, li (ni ix)])), none, none, none, none, none]) (s := s) (fun (k : Nat) => iv k) (fun (k : Nat) => iv (a.getD k 0)) ix (by
          intro v hv
          refine ⟨_, rfl, ?_⟩
          have := li_getD (xs := a) (k := v) (of_decide_eq_true (g v hv)) s
          simp only [List.set, p_e2, p_var2, p_var5, p_eC, p_ok, i20, this])
        have e1 : (ix.map fun (k : Nat) => iv (a.getD k 0)) = (ix.map fun k => a.getD k 0).map iv := by rw [List.map_map]; rfl
        rw [e1, ni_iv] at hc
        simp only [g_execute]
        simp [start, wipeE, i21, -List.map_map, li_iter, hc, -List.getD_eq_getElem?_getD]
      · exact True.intro
    · exact True.intro
  rw [if_neg h]; clear h
  by_cases h : x = "pick"
  · subst h; rw [if_pos rfl]
    unfold pickX
    split
    · rename_i a b
      dsimp only [lv, List.map]
      split
      · rename_i ls ix hn1 hn2
        obtain rfl := nats_some hn1
        obtain rfl := nats_some hn2
        refine gd_ok fun g => x_rt B hw ?_
        obtain ⟨g1, g⟩ := and2 g
        obtain ⟨g2, g⟩ := and2 g
        obtain ⟨g3, g4⟩ := and2 g
        rw [List.all_eq_true] at g3
        have := v_picked B n ls ix (of_decide_eq_true g1) (of_decide_eq_true g2) (fun i hi => of_decide_eq_true (g3 i hi)) (of_decide_eq_true g4) s hw
        simp [g_execute, start, i20, i21, this, -List.map_map]
      · exact True.intro
    · exact True.intro
  rw [if_neg h]; clear h
  by_cases h : x = "repeat"
  · subst h; rw [if_pos rfl]
    unfold repX
    split
    · rename_i a
      dsimp only [lv, List.map]
      split
      · rename_i ls hn1
        obtain rfl := nats_some hn1
        refine gd_ok fun g => x_rt B hw ?_
        have := v_repeated B (n + 1) ls (of_decide_eq_true g) s hw
        simp [g_execute, start, i1, this, -List.map_map]
      · exact True.intro
    · exact True.intro
  rw [if_neg h]; clear h
  by_cases h : x = "count"
  · subst h; rw [if_pos rfl]
    unfold countX
    split
    · rename_i a
      dsimp only [lv, List.map]
      split
      · rename_i ls hn1
        obtain rfl := nats_some hn1
        refine gd_ok fun g => x_rt B hw ?_
        have := v_counted B (n + 1) ls (of_decide_eq_true g) s hw
        simp [g_execute, start, i1, this, -List.map_map]
      · exact True.intro
    · exact True.intro
  rw [if_neg h]; clear h
  by_cases h : x = "where"
  · subst h; rw [if_pos rfl]
    unfold whereX
    split
    · rename_i t a
      dsimp only [lv, List.map]
      refine x_rt B hw ?_
      have hc := comp_filter (g := gTup [3, 6]) (c := tEq (eB (tNe (eVar 6) (eC (.int 0)))) (eVar 1)) (f := eVar 3) (ρ := [some (.t (.str "where")), some (.t (.bl t)), some (.t (.lst [li a])), none, none, none, none, none]) (s := s)
        (fun (k : Nat) => Val.t (.tup [.int (k : Nat), .int (a.getD k 0)])) (fun k => nz (a.getD k 0) == t) (fun (k : Nat) => iv k) (List.range a.length) (by
        intro v hv
        refine ⟨_, rfl, ?_, fun _ => rfl⟩
        simp [nz, eqBB])
      have hi := p_enum (a := e2 subI (eVar 2) (eC (.int 0))) (ρ := [some (.t (.str "where")), some (.t (.bl t)), some (.t (.lst [li a])), none, none, none, none, none]) (s := s) (l := a) rfl
      have ee : ((List.range a.length).filter fun k => nz (a.getD k 0) == t).map (fun (k : Nat) => iv k) = (whF t a).map iv := by unfold whF; rw [List.map_map]; rfl
      rw [ee] at hc
      simp only [g_execute]
      simp [start, wipeE, hi, hc, -List.getD_eq_getElem?_getD, -List.map_map]
    · exact True.intro
  rw [if_neg h]; clear h
  by_cases h : x = "weave"
  · subst h; rw [if_pos rfl]
    unfold weaveX
    split
    · rename_i a
      dsimp only [lv, List.map]
      refine gd_ok fun g => x_rt B hw ?_
      have := v_woven B (n + 1) a (sh_le g) s hw
      simp [g_execute, start, i1, this, -List.map_map]
    · exact True.intro
  rw [if_neg h]; clear h
  by_cases h : x = "join"
  · subst h; rw [if_pos rfl]
    unfold joinX
    split
    · rename_i a b
      dsimp only [lv, List.map]
      refine gd_ok fun g => x_rt B hw ?_
      obtain ⟨g1, g2⟩ := and2 g
      have g1 := sh_le g1
      have g2 := sh_le g2
      have hm : addV false (.t (li a)) (.t (li b)) s = .ok (.t (li (a ++ b))) s := by
        rw [add_tt _ _ _ _ (by rw [List.length_map, List.length_map]; show _ ≤ 16777216; omega), newL_t, ← List.map_append]
      simp only [g_execute]
      simp [start, i20, i21, hm, -List.map_append]
    · exact True.intro
  rw [if_neg h]; clear h
  by_cases h : x = "sums"
  · subst h; rw [if_pos rfl]
    unfold sumsX
    split
    · rename_i a b
      dsimp only [lv, List.map]
      split
      · rename_i ls hn1
        obtain rfl := nats_some hn1
        refine gd_ok fun g => x_rt B hw ?_
        obtain ⟨g1, g2⟩ := and2 g
        have := v_summed B N n ls b (of_decide_eq_true g1) (of_decide_eq_true g2) s hw
        simp [g_execute, start, i20, i21, this, -List.map_map]
      · exact True.intro
    · exact True.intro
  rw [if_neg h]; clear h
  by_cases h : x = "zip"
  · subst h; rw [if_pos rfl]
    unfold zipX
    split
    · rename_i a b
      dsimp only [lv, List.map]
      split
      · rename_i ls os hn1 hn2
        obtain rfl := nats_some hn1
        obtain rfl := nats_some hn2
        refine gd_ok fun g => x_rt B hw ?_
        obtain ⟨g1, g⟩ := and2 g
        obtain ⟨g2, g⟩ := and2 g
        obtain ⟨g3, g4⟩ := and2 g
        have := v_zipped B n ls os (of_decide_eq_true g1) (of_decide_eq_true g2) (of_decide_eq_true g3) (of_decide_eq_true g4) s hw
        simp [g_execute, start, i20, i21, this, -List.map_map]
      · exact True.intro
    · exact True.intro
  rw [if_neg h]; clear h
  by_cases h : x = "place"
  · subst h; rw [if_pos rfl]
    unfold placeX
    split
    · rename_i a b
      dsimp only [lv, List.map]
      split
      · rename_i ls hn1
        obtain rfl := nats_some hn1
        refine gd_ok fun g => ?_
        obtain ⟨g1, g2⟩ := and2 g
        obtain ⟨h1, h2⟩ := v_placed B n ls b (of_decide_eq_true g1) (of_decide_eq_true g2) s hw
        by_cases hp : plOk ls b = true
        · rw [if_pos hp]
          refine x_rt B hw ?_
          simp [g_execute, start, i20, i21, h1 hp, -List.map_map]
        · rw [if_neg hp]
          refine x_ex B (ρ := start 8 [.t (.str "place"), .t .non, .t (.lst [li (ni ls), li b])]) hw ?_
          simp [g_execute, start, i20, i21, h2 (by simpa using hp), -List.map_map]
      · exact True.intro
    · exact True.intro
  rw [if_neg h]; clear h
  by_cases h : x = "flags"
  · subst h; rw [if_pos rfl]
    unfold flagsX
    split
    · rename_i a
      dsimp only [lv, List.map]
      refine x_rt B hw ?_
      have hc := comp_map (g := gVar 7) (f := e1 intV (eB (tNe (eVar 7) (eC (.int 0))))) (ρ := [some (.t (.str "flags")), some (.t .non), some (.t (.lst [li a])), none, none, none, none, none]) (s := s) iv (fun x => iv (if nz x = true then 1 else 0)) a (by
        intro v hv
        refine ⟨_, rfl, ?_⟩
        simp [nz])
      have ee : a.map (fun x => iv (if nz x = true then 1 else 0)) = (flF a).map iv := by unfold flF; rw [List.map_map]; rfl
      rw [ee] at hc
      simp only [g_execute]
      simp [start, wipeE, i1, hc, -List.map_map]
    · exact True.intro
  rw [if_neg h]; clear h
  by_cases h : x = "range"
  · subst h; rw [if_pos rfl]
    unfold rangeX
    split
    · rename_i a
      dsimp only [lv, List.map]
      obtain ⟨h1, h2⟩ := v_range B (n + 1) a [] s hw
      by_cases hp : rangeOkF a = true
      · rw [if_pos hp]
        refine x_rt B hw ?_
        simp [g_execute, start, h1 hp, -List.map_map]
      · rw [if_neg hp]
        refine x_ex B (ρ := start 8 [.t (.str "range"), .t .non, .t (.lst [li a])]) hw ?_
        simp [g_execute, start, h2 (by simpa using hp), -List.map_map]
    · exact True.intro
  rw [if_neg h]; clear h
  by_cases h : x = "same"
  · subst h; rw [if_pos rfl]
    unfold sameX
    split
    · rename_i a b
      dsimp only [lv, List.map]
      obtain ⟨h1, h2⟩ := v_same B (n + 1) a b s hw
      by_cases hp : a = b
      · rw [if_pos hp]
        refine x_rt B hw ?_
        simp [g_execute, start, h1 hp, -List.map_map]
      · rw [if_neg hp]
        refine x_ex B (ρ := start 8 [.t (.str "same"), .t .non, .t (.lst [li a, li b])]) hw ?_
        simp [g_execute, start, h2 hp, -List.map_map]
    · exact True.intro
  rw [if_neg h]
  exact True.intro
end
end Fl
set_option Elab.async false
set_option linter.all false
set_option maxRecDepth 100000
/-! Fl: kinds, values, layouts of the program. -/
namespace Fl
noncomputable section
def g_vectors_of (G : FEnv) : SM := sSeq (sIf (tEq (e2 subI (eVar 0) (eC (.int 0))) (eC (.str "num"))) (sRet (eLst false [e1 (listV false) (eVar 1)])) (sNil)) (sSeq (sIf (tEq (e2 subI (eVar 0) (eC (.int 0))) (eC (.str "pair"))) (sRet (e2 (addV false) (eCall G 22 [e2 subI (eVar 0) (eC (.int 1)), eComp false [2] (iV (eVar 1)) (gVar 2) none (e2 subI (eVar 2) (eC (.int 0)))]) (eCall G 22 [e2 subI (eVar 0) (eC (.int 2)), eComp false [2] (iV (eVar 1)) (gVar 2) none (e2 subI (eVar 2) (eC (.int 1)))]))) (sNil)) (sRet (e2 (addV false) (eLst false [eComp false [3] (iV (eVar 1)) (gVar 3) none (e1 lenV (eVar 3))]) (eCall G 22 [e2 subI (eVar 0) (eC (.int 1)), eComp2 false [3, 4] [4] (iV (eVar 1)) (gVar 3) none (iV (eVar 3)) (gVar 4) none (eVar 4)]))))
def g_width (G : FEnv) : SM := sSeq (sIf (tEq (e2 subI (eVar 0) (eC (.int 0))) (eC (.str "num"))) (sRet (eC (.int 1))) (sNil)) (sSeq (sIf (tEq (e2 subI (eVar 0) (eC (.int 0))) (eC (.str "pair"))) (sRet (e2 (addV false) (eCall G 23 [e2 subI (eVar 0) (eC (.int 1))]) (eCall G 23 [e2 subI (eVar 0) (eC (.int 2))]))) (sNil)) (sRet (e2 (addV false) (eC (.int 1)) (eCall G 23 [e2 subI (eVar 0) (eC (.int 1))]))))
def g_values_of (G : FEnv) : SM := sSeq (sIf (tEq (e2 subI (eVar 0) (eC (.int 0))) (eC (.str "num"))) (sRet (e1 (listV false) (e2 subI (eVar 1) (eC (.int 0))))) (sNil)) (sSeq (sIf (tEq (e2 subI (eVar 0) (eC (.int 0))) (eC (.str "pair"))) (sSeq (sAsg (eCall G 23 [e2 subI (eVar 0) (eC (.int 1))]) (gVar 2)) (sSeq (sAsg (eCall G 24 [e2 subI (eVar 0) (eC (.int 2)), eSlice false (eVar 1) (some (eVar 2)) none]) (gVar 3)) (sRet (eComp false [4, 5] (iEnum (eCall G 24 [e2 subI (eVar 0) (eC (.int 1)), eSlice false (eVar 1) none (some (eVar 2))])) (gTup [4, 5]) none (eTup false [eVar 5, e2 subI (eVar 3) (eVar 4)]))))) (sNil)) (sSeq (sAsg (eCall G 24 [e2 subI (eVar 0) (eC (.int 1)), eSlice false (eVar 1) (some (eC (.int 1))) none]) (gVar 6)) (sSeq (sAsg (eLst true []) (gVar 7)) (sSeq (sAsg (eC (.int 0)) (gVar 4)) (sSeq (sSeq (sFor (iV (e2 subI (eVar 1) (eC (.int 0)))) (gVar 8) (sSeq (sExpr (e2c lstC appendV (eVar 7) (eSlice false (eVar 6) (some (eVar 4)) (some (e2 (addV false) (eVar 4) (eVar 8)))))) (sAsg (e2 (addV false) (eVar 4) (eVar 8)) (gVar 4)))) (sFz 7)) (sRet (e1 freeze (eVar 7))))))))
end
structure BaseL (Γ : Nat → FEnv) : Prop where
  vectors_of : ∀ n, Γ (n + 1) 22 = mkFn 5 2 (g_vectors_of (Γ n))
  width : ∀ n, Γ (n + 1) 23 = mkFn 1 1 (g_width (Γ n))
  values_of : ∀ n, Γ (n + 1) 24 = mkFn 9 2 (g_values_of (Γ n))
inductive Kd where
  | num
  | pair (a b : Kd)
  | seq (a : Kd)
  deriving DecidableEq
namespace Kd
def t : Kd → T
  | num => .tup [.str "num"]
  | pair a b => .tup [.str "pair", a.t, b.t]
  | seq a => .tup [.str "seq", a.t]
def dep : Kd → Nat
  | num => 1
  | pair a b => max a.dep b.dep + 1
  | seq a => a.dep + 1
def wid : Kd → Nat
  | num => 1
  | pair a b => a.wid + b.wid
  | seq a => 1 + a.wid
/-- the values of a kind -/
@[reducible] def V : Kd → Type
  | num => Int
  | pair a b => a.V × b.V
  | seq a => List a.V
/-- .. as trees -/
def e : (k : Kd) → k.V → T
  | num, i => .int i
  | pair a b, p => .tup [a.e p.1, b.e p.2]
  | seq a, xs => .lst (List.map a.e xs)
def vecs : (k : Kd) → List k.V → List Vec
  | num, xs => [xs]
  | pair a b, xs => a.vecs (xs.map Prod.fst) ++ b.vecs (xs.map Prod.snd)
  | seq a, xs => ni (List.map List.length xs) :: a.vecs (List.flatten xs)
theorem vecs_len : ∀ (k : Kd) (xs : List k.V), (k.vecs xs).length = k.wid
  | num, _ => rfl
  | pair a b, xs => by simp only [vecs, wid, List.length_append, vecs_len a, vecs_len b]
  | seq a, xs => by simp only [vecs, wid, List.length_cons, vecs_len a]; omega
theorem vecs_hd : ∀ (k : Kd) (xs : List k.V), ∃ v r, k.vecs xs = v :: r ∧ v.length = xs.length
  | num, xs => ⟨xs, [], rfl, rfl⟩
  | pair a b, xs => by
    obtain ⟨v, r, h1, h2⟩ := vecs_hd a (xs.map Prod.fst)
    exact ⟨v, r ++ b.vecs (xs.map Prod.snd), by simp only [vecs, h1, List.cons_append], by rw [h2, List.length_map]⟩
  | seq a, xs => ⟨_, _, rfl, by simp [ni]⟩
theorem wid_pos : ∀ k : Kd, 1 ≤ k.wid
  | num => Nat.le_refl _
  | pair a b => by have := wid_pos a; show 1 ≤ a.wid + b.wid; omega
  | seq a => by show 1 ≤ 1 + a.wid; omega
/-- no vector is too long -/
def Fit (k : Kd) (xs : List k.V) : Prop := ∀ v ∈ k.vecs xs, v.length ≤ 8000000
theorem Fit.len {k : Kd} {xs : List k.V} (h : k.Fit xs) : xs.length ≤ 8000000 := by
  obtain ⟨v, r, h1, h2⟩ := k.vecs_hd xs
  rw [← h2]
  exact h v (by rw [h1]; exact List.mem_cons_self)
theorem Fit.fst {a b : Kd} {xs : List (pair a b).V} (h : (pair a b).Fit xs) : a.Fit (xs.map Prod.fst) := fun v hv => h v (List.mem_append_left _ hv)
theorem Fit.snd {a b : Kd} {xs : List (pair a b).V} (h : (pair a b).Fit xs) : b.Fit (xs.map Prod.snd) := fun v hv => h v (List.mem_append_right _ hv)
theorem Fit.inn {a : Kd} {xs : List (seq a).V} (h : (seq a).Fit xs) : a.Fit (List.flatten xs) := fun v hv => h v (List.mem_cons_of_mem _ hv)
end Kd
@[simp] theorem k_num (s : Store) : subI (.t (Kd.num.t)) (.t (.int 0)) s = .ok (.t (.str "num")) s := nrfl rfl
@[simp] theorem k_pair (a b : Kd) (s : Store) : subI (.t ((Kd.pair a b).t)) (.t (.int 0)) s = .ok (.t (.str "pair")) s := nrfl rfl
@[simp] theorem k_pair1 (a b : Kd) (s : Store) : subI (.t ((Kd.pair a b).t)) (.t (.int 1)) s = .ok (.t a.t) s := nrfl rfl
@[simp] theorem k_pair2 (a b : Kd) (s : Store) : subI (.t ((Kd.pair a b).t)) (.t (.int 2)) s = .ok (.t b.t) s := nrfl rfl
@[simp] theorem k_seq (a : Kd) (s : Store) : subI (.t ((Kd.seq a).t)) (.t (.int 0)) s = .ok (.t (.str "seq")) s := nrfl rfl
@[simp] theorem k_seq1 (a : Kd) (s : Store) : subI (.t ((Kd.seq a).t)) (.t (.int 1)) s = .ok (.t a.t) s := nrfl rfl
theorem lst_items (ts : List T) (s : Store) : items (.t (.lst ts)) s = .ok (ts.map .t) s := rfl
theorem listV_t (ts : List T) (s : Store) : listV false (.t (.lst ts)) s = .ok (.t (.lst ts)) s := by
  show (items (.t (.lst ts)) >>= fun vs => newL false vs) s = _
  rw [bind_eq, lst_items, bind_ok, newL_t]
theorem lst_iter (ts : List T) (s : Store) : iterOf (.t (.lst ts)) s = .ok (ts.map .t) s := rfl
theorem lst_len (ts : List T) (s : Store) : lenV (.t (.lst ts)) s = .ok (iv ts.length) s := rfl
/-- a comprehension over trees that gives trees -/
theorem comp_tt {β : Type} {i : Nat} {f : CE} {ρ : Env} {s : Store} (ew : β → T) (h : β → T) (vs : List β) (hh : ∀ v ∈ vs, f (ρ.set i (some (.t (ew v)))) s = .ok (.t (h v)) s) : (compL (gVar i) none f ρ ((vs.map ew).map .t) s).bind (newL false) = .ok (.t (.lst (vs.map h))) s := by
  rw [List.map_map, comp_map (s := s) (Val.t ∘ ew) (fun v => .t (h v)) vs (fun v hv => ⟨_, rfl, hh v hv⟩), p_ok, show (vs.map fun v => Val.t (h v)) = (vs.map h).map .t by rw [List.map_map]; rfl, newL_t]
section
variable {Γ : Nat → FEnv}
theorem l_width (B : BaseL Γ) : ∀ (k : Kd) (n : Nat), k.dep ≤ n → ∀ s, Wf s → Γ n 23 [.t k.t] s = .ok (iv (k.wid : Nat)) s
  | .num, n, hn, s, hw => by
    obtain ⟨n, rfl⟩ : ∃ m, n = m + 1 := ⟨n - 1, by have : 1 ≤ n := hn; omega⟩
    rw [B.width]
    refine fn_Rt rfl hw ?_
    simp [g_width, start]
    exact Rt.self
  | .pair a b, n, hn, s, hw => by
    have hn' : max a.dep b.dep + 1 ≤ n := hn
    obtain ⟨n, rfl⟩ : ∃ m, n = m + 1 := ⟨n - 1, by omega⟩
    have h1 := l_width B a n (by omega) s hw
    have h2 := l_width B b n (by omega) s hw
    rw [B.width]
    refine fn_Rt rfl hw ?_
    simp [g_width, start, h1, h2]
    show Rt s _ _
    have : ((Kd.pair a b).wid : Int) = (a.wid : Int) + (b.wid : Int) := by show ((a.wid + b.wid : Nat) : Int) = _; omega
    rw [this]
    exact Rt.self
  | .seq a, n, hn, s, hw => by
    have hn' : a.dep + 1 ≤ n := hn
    obtain ⟨n, rfl⟩ : ∃ m, n = m + 1 := ⟨n - 1, by omega⟩
    have h1 := l_width B a n (by omega) s hw
    rw [B.width]
    refine fn_Rt rfl hw ?_
    simp [g_width, start, h1]
    have : ((Kd.seq a).wid : Int) = 1 + (a.wid : Int) := by show ((1 + a.wid : Nat) : Int) = _; omega
    rw [this]
    exact Rt.self
theorem l_vecs (B : BaseL Γ) : ∀ (k : Kd) (n : Nat) (xs : List k.V), k.dep ≤ n → k.wid ≤ 1000000 → k.Fit xs → ∀ s, Wf s → Γ n 22 [.t k.t, .t (.lst (xs.map k.e))] s = .ok (.t (lv (k.vecs xs))) s
  | .num, n, xs, hn, hk, hf, s, hw => by
    obtain ⟨n, rfl⟩ : ∃ m, n = m + 1 := ⟨n - 1, by have : 1 ≤ n := hn; omega⟩
    rw [B.vectors_of]
    refine fn_Rt rfl hw ?_
    simp [g_vectors_of, start, listV_t]
    exact Rt.self
  | .pair a b, n, xs, hn, hk, hf, s, hw => by
    have hn' : max a.dep b.dep + 1 ≤ n := hn
    have hk' : a.wid + b.wid ≤ 1000000 := hk
    obtain ⟨n, rfl⟩ : ∃ m, n = m + 1 := ⟨n - 1, by omega⟩
    have h1 := l_vecs B a n (xs.map Prod.fst) (by omega) (by omega) hf.fst s hw
    have h2 := l_vecs B b n (xs.map Prod.snd) (by omega) (by omega) hf.snd s hw
    rw [B.vectors_of]
    refine fn_Rt rfl hw ?_
    have c1 : (compL (gVar 2) none (e2 subI (eVar 2) (eC (.int 0))) [some (.t (Kd.pair a b).t), some (.t (.lst (xs.map (Kd.pair a b).e))), none, none, none] ((xs.map (Kd.pair a b).e).map .t) s).bind (newL false) = .ok (.t (.lst ((xs.map Prod.fst).map a.e))) s := by
      refine (comp_tt (i := 2) (f := e2 subI (eVar 2) (eC (.int 0))) (Kd.pair a b).e (fun p => a.e p.1) xs fun p _ => by rfl).trans ?_
      rw [List.map_map]
      rfl
    have c2 : (compL (gVar 2) none (e2 subI (eVar 2) (eC (.int 1))) [some (.t (Kd.pair a b).t), some (.t (.lst (xs.map (Kd.pair a b).e))), none, none, none] ((xs.map (Kd.pair a b).e).map .t) s).bind (newL false) = .ok (.t (.lst ((xs.map Prod.snd).map b.e))) s := by
      refine (comp_tt (i := 2) (f := e2 subI (eVar 2) (eC (.int 1))) (Kd.pair a b).e (fun p => b.e p.2) xs fun p _ => by rfl).trans ?_
      rw [List.map_map]
      rfl
    have ha : addV false (.t (lv (a.vecs (xs.map Prod.fst)))) (.t (lv (b.vecs (xs.map Prod.snd)))) s = .ok (.t (lv ((Kd.pair a b).vecs xs))) s := by
      rw [add_tt _ _ _ _ (by rw [List.length_map, List.length_map, Kd.vecs_len, Kd.vecs_len]; show _ ≤ 16777216; omega), newL_t, ← List.map_append]
      rfl
    simp [g_vectors_of, start, wipeE, lst_iter, -List.map_map, c1, c2, h1, h2, ha]
    exact Rt.self
  | .seq a, n, xs, hn, hk, hf, s, hw => by
    have hn' : a.dep + 1 ≤ n := hn
    have hk' : 1 + a.wid ≤ 1000000 := hk
    obtain ⟨n, rfl⟩ : ∃ m, n = m + 1 := ⟨n - 1, by omega⟩
    have h1 := l_vecs B a n (List.flatten xs) (by omega) (by omega) hf.inn s hw
    rw [B.vectors_of]
    refine fn_Rt rfl hw ?_
    have c1 : (compL (gVar 3) none (e1 lenV (eVar 3)) [some (.t (Kd.seq a).t), some (.t (.lst (xs.map (Kd.seq a).e))), none, none, none] ((xs.map (Kd.seq a).e).map .t) s).bind (newL false) = .ok (.t (li (ni (List.map List.length xs)))) s := by
      have z := comp_tt (i := 3) (f := e1 lenV (eVar 3)) (ρ := [some (.t (Kd.seq a).t), some (.t (.lst (xs.map (Kd.seq a).e))), none, none, none]) (s := s) (Kd.seq a).e (fun p => T.int (List.length p : Nat)) xs fun p _ => by
        show R.ok (iv ((List.map a.e p).length : Nat)) s = _
        rw [List.length_map]
      rw [z]
      show _ = R.ok (Val.t (.lst ((List.map (fun (k : Nat) => (k : Int)) (List.map List.length xs)).map T.int))) s
      rw [List.map_map, List.map_map]
      rfl
    have c2 := comp2_flat (g := gVar 3) (g1 := gVar 4) (it1 := iV (eVar 3)) (f := eVar 4) (own1 := [4]) (ρ := [some (.t (Kd.seq a).t), some (.t (.lst (xs.map (Kd.seq a).e))), none, none, none]) (s := s) (fun v => .t ((Kd.seq a).e v)) (fun w => .t (a.e w)) (fun v => (v : List a.V)) (fun _ w => .t (a.e w)) xs [] (by
      have := hf.inn.len
      rw [flat_sum]
      simp only [List.length_map, List.length_nil, Nat.zero_add]
      rw [List.length_flatten] at this
      show _ ≤ 16777216
      exact Nat.le_trans this (by decide)) (by
      intro v hv
      refine ⟨[some (.t (Kd.seq a).t), some (.t (.lst (xs.map (Kd.seq a).e))), none, some (.t ((Kd.seq a).e v)), none], rfl, ?_, fun w hw => ⟨_, rfl, rfl⟩⟩
      show R.ok ((List.map a.e v).map Val.t) s = _
      rw [List.map_map]
      rfl)
    have ee : (xs.flatMap fun v => List.map (fun w => Val.t (a.e w)) (v : List a.V)) = ((List.flatten xs).map a.e).map .t := by
      rw [List.map_map, List.map_flatten, List.flatMap]
      rfl
    rw [ee, List.nil_append] at c2
    have hi : iV (eVar 1) [some (.t (Kd.seq a).t), some (.t (.lst (xs.map (Kd.seq a).e))), none, none, none] s = .ok (xs.map fun v => .t ((Kd.seq a).e v)) s := by
      show R.ok ((xs.map (Kd.seq a).e).map Val.t) s = _
      rw [List.map_map]; rfl
    have c3 := p_comp2 (c := false) (own := [3, 4]) hi c2 (newL_t _ s)
    have ha : addV false (.t (.lst [li (ni (List.map List.length xs))])) (.t (lv (a.vecs (List.flatten xs)))) s = .ok (.t (lv ((Kd.seq a).vecs xs))) s := by
      rw [add_tt _ _ _ _ (by rw [List.length_map, Kd.vecs_len]; show 1 + _ ≤ 16777216; omega), newL_t]
      rfl
    simp [g_vectors_of, start, wipeE, lst_iter, -List.map_map, -List.map_flatten, c1]
    rw [c3]
    simp [h1, ha, -List.map_map, -List.map_flatten]
    exact Rt.self
theorem enumT_eq {β : Type} [Inhabited β] (w : β → T) : ∀ (l : List β) (m : Nat), enumT m (l.map w) = (List.range l.length).map fun k => Val.t (.tup [.int (m + k : Nat), w (l.getD k default)])
  | [], m => rfl
  | x :: r, m => by
    rw [List.map_cons, enumT, enumT_eq w r (m + 1), List.length_cons, List.range_succ_eq_map, List.map_cons, List.map_map]
    congr 1
    refine List.map_congr_left fun k _ => ?_
    simp only [Function.comp, Nat.succ_eq_add_one, List.getD_cons_succ]
    rw [show m + 1 + k = m + (k + 1) by omega]
def Kd.dflt : (k : Kd) → k.V
  | .num => (0 : Int)
  | .pair a b => (a.dflt, b.dflt)
  | .seq _ => ([] : List _)
instance (k : Kd) : Inhabited k.V := ⟨k.dflt⟩
theorem flat_at {α : Type} : ∀ (xs : List (List α)) (j : Nat) (h : j < xs.length), (xs.flatten.drop (sta (xs.map List.length) j)).take (xs[j].length) = xs[j]
  | x :: r, 0, _ => by simp [sta]
  | x :: r, j + 1, h => by
    have ih := flat_at r j (by simpa using h)
    simp only [List.flatten_cons, List.map_cons, List.getElem_cons_succ]
    have : sta (x.length :: r.map List.length) (j + 1) = x.length + sta (r.map List.length) j := by simp [sta]
    rw [this, ← List.drop_drop, List.drop_left' rfl]
    exact ih
theorem l_vals (B : BaseL Γ) : ∀ (k : Kd) (n : Nat) (xs : List k.V), k.dep ≤ n → k.wid ≤ 1000000 → k.Fit xs → ∀ s, Wf s → Γ n 24 [.t k.t, .t (lv (k.vecs xs))] s = .ok (.t (.lst (xs.map k.e))) s
  | .num, n, xs, hn, hk, hf, s, hw => by
    obtain ⟨n, rfl⟩ : ∃ m, n = m + 1 := ⟨n - 1, by have : 1 ≤ n := hn; omega⟩
    rw [B.values_of]
    refine fn_Rt rfl hw ?_
    have e0 : subI (.t (lv (Kd.num.vecs xs))) (.t (.int 0)) s = .ok (.t (li xs)) s := lst_get (k := 0) (xs := List.map li (Kd.num.vecs xs)) rfl s
    simp [g_values_of, start, e0, listV_t]
    exact Rt.self
  | .pair a b, n, xs, hn, hk, hf, s, hw => by
    have hn' : max a.dep b.dep + 1 ≤ n := hn
    have hk' : a.wid + b.wid ≤ 1000000 := hk
    obtain ⟨n, rfl⟩ : ∃ m, n = m + 1 := ⟨n - 1, by omega⟩
    have h1 := l_vals B a n (xs.map Prod.fst) (by omega) (by omega) hf.fst s hw
    have h2 := l_vals B b n (xs.map Prod.snd) (by omega) (by omega) hf.snd s hw
    have hW := l_width B a n (by omega) s hw
    rw [B.values_of]
    refine fn_Rt rfl hw ?_
    have s1 : sliceV false (.t (lv ((Kd.pair a b).vecs xs))) (some (a.wid : Nat)) none s = .ok (.t (lv (b.vecs (xs.map Prod.snd)))) s := by
      rw [lst_sliceV, slice_drop (by rw [List.length_map, Kd.vecs_len]; show a.wid ≤ a.wid + b.wid; omega), ← List.map_drop]
      congr 3
      show List.map li ((a.vecs (xs.map Prod.fst) ++ b.vecs (xs.map Prod.snd)).drop a.wid) = _
      rw [List.drop_left' (Kd.vecs_len a _)]
    have s2 : sliceV false (.t (lv ((Kd.pair a b).vecs xs))) none (some (a.wid : Nat)) s = .ok (.t (lv (a.vecs (xs.map Prod.fst)))) s := by
      rw [lst_sliceV, slice_take (by rw [List.length_map, Kd.vecs_len]; show a.wid ≤ a.wid + b.wid; omega), ← List.map_take]
      congr 3
      show List.map li ((a.vecs (xs.map Prod.fst) ++ b.vecs (xs.map Prod.snd)).take a.wid) = _
      rw [List.take_left' (Kd.vecs_len a _)]
    simp [g_values_of, start, wipeE, -List.map_map, hW, s1, s2, h2, iEnum, h1]
    show Rt s _ ((((compL (gTup [4, 5]) none (eTup false [eVar 5, e2 subI (eVar 3) (eVar 4)]) _ (enumT 0 ((xs.map Prod.fst).map a.e)) s).bind (newL false)).so _ _).then _)
    rw [enumT_eq]
    rw [comp_map (s := s) (fun (k : Nat) => Val.t (.tup [.int (0 + k : Nat), a.e ((xs.map Prod.fst).getD k default)])) (fun k => .t ((Kd.pair a b).e (xs.getD k default))) _ (by
      intro k hk
      have hk := List.mem_range.mp hk
      rw [List.length_map] at hk
      refine ⟨_, rfl, ?_⟩
      have g : subI (.t (.lst ((xs.map Prod.snd).map b.e))) (iv ((0 + k : Nat) : Int)) s = .ok (.t (b.e (xs[k]).2)) s := by
        refine lst_get ?_ s
        rw [List.getElem?_map, List.getElem?_map, Nat.zero_add, List.getElem?_eq_getElem hk]; rfl
      have e1 : (xs.map Prod.fst).getD k default = (xs[k]).1 := by rw [List.getD_eq_getElem?_getD, List.getElem?_map, List.getElem?_eq_getElem hk]; rfl
      have e2 : xs.getD k default = xs[k] := by rw [List.getD_eq_getElem?_getD, List.getElem?_eq_getElem hk]; rfl
      rw [e1, e2]
      simp only [List.set, p_tup, p_vals, p_vals0, p_var5, p_ok, p_e2, p_var3, p_var4, g, newT2]
      rfl)]
    rw [p_ok, List.length_map, show (List.range xs.length).map (fun k => Val.t ((Kd.pair a b).e (xs.getD k default))) = (xs.map (Kd.pair a b).e).map .t by
      exact (map_ix (fun v => Val.t ((Kd.pair a b).e v)) xs).symm.trans (by rw [List.map_map]; rfl), newL_t]
    exact Rt.self
  | .seq a, n, xs, hn, hk, hf, s, hw => by
    have hn' : a.dep + 1 ≤ n := hn
    have hk' : 1 + a.wid ≤ 1000000 := hk
    obtain ⟨n, rfl⟩ : ∃ m, n = m + 1 := ⟨n - 1, by omega⟩
    have h1 := l_vals B a n (List.flatten xs) (by omega) (by omega) hf.inn s hw
    have hlen := hf.len
    rw [B.values_of]
    refine fn_Rt rfl hw ?_
    have s1 : sliceV false (.t (lv ((Kd.seq a).vecs xs))) (some 1) none s = .ok (.t (lv (a.vecs (List.flatten xs)))) s := by
      show sliceV false (.t (lv ((Kd.seq a).vecs xs))) (some ((1 : Nat) : Int)) none s = _
      rw [lst_sliceV, slice_drop (a := 1) (xs := List.map li ((Kd.seq a).vecs xs)) (by rw [List.length_map, Kd.vecs_len]; show 1 ≤ 1 + a.wid; omega)]
      rfl
    have e0 : ∀ s, subI (.t (lv ((Kd.seq a).vecs xs))) (.t (.int 0)) s = .ok (.t (li (ni (List.map List.length xs)))) s := fun s => lst_get (k := 0) (xs := List.map li ((Kd.seq a).vecs xs)) rfl s
    simp [g_values_of, start, -List.map_map, -List.map_flatten, s1, h1, e0]
    rw [map_ix, List.length_map, List.length_map]
    generalize hc : forL _ _ _ _ _ = o
    obtain ⟨ρ', s', rfl, v, x, rfl, ho⟩ := for_ix hc (fun j ρ s' => ∃ v x, ρ = [some (.t (Kd.seq a).t), some (.t (lv ((Kd.seq a).vecs xs))), none, none, some (iv (sta (List.map List.length xs) j : Nat)), none, some (.t (.lst ((List.flatten xs).map a.e))), some v, x] ∧ Own s s' v ((xs.take j).map (Kd.seq a).e)) ⟨_, _, rfl, own_new hw List.take_length []⟩ (by
      rintro j hj ρ s1 ⟨v, x, rfl, ho⟩
      obtain ⟨s2, k1, k2⟩ := own_app ho (by rw [List.length_map, List.length_take]; show _ < 16777216; omega) ((Kd.seq a).e xs[j])
      have hsl : sliceV false (.t (.lst ((List.flatten xs).map a.e))) (some (sta (List.map List.length xs) j : Nat)) (some ((sta (List.map List.length xs) j : Nat) + ((xs[j].length : Nat) : Int))) s1 = .ok (.t ((Kd.seq a).e xs[j])) s1 := by
        have hle := sta_le (List.map List.length xs) j (by rw [List.length_map]; exact hj)
        have e1 : (List.map List.length xs).getD j 0 = xs[j].length := by rw [List.getD_eq_getElem?_getD, List.getElem?_map, List.getElem?_eq_getElem hj]; rfl
        rw [e1] at hle
        rw [lst_sliceV, slice_nat (by rw [List.length_map, List.length_flatten]; exact hle), ← List.map_drop, ← List.map_take, flat_at xs j hj]
        rfl
      have e3 : (ni (List.map List.length xs)).getD j 0 = (xs[j].length : Nat) := by
        rw [ni_getD, List.getD_eq_getElem?_getD, List.getElem?_map, List.getElem?_eq_getElem hj]; rfl
      have e4 : sta (List.map List.length xs) (j + 1) = sta (List.map List.length xs) j + xs[j].length := by
        unfold sta
        rw [List.take_succ, List.sum_append, List.getElem?_map, List.getElem?_eq_getElem hj]
        simp
      refine ⟨_, _, [some (.t (Kd.seq a).t), some (.t (lv ((Kd.seq a).vecs xs))), none, none, some (iv (sta (List.map List.length xs) (j + 1) : Nat)), none, some (.t (.lst ((List.flatten xs).map a.e))), some v, some (iv (xs[j].length : Nat))], s2, rfl, ?_, v, _, rfl, ?_⟩
      · rw [show (default : Int) = 0 from rfl, e3]
        simp only [List.set, p_seq2, p_sexpr, p_e2c, p_var7, p_ok, own_lstC ho, p_slice2, p_var6, p_var4, p_getI, p_e2, p_var8, p_add, hsl, k1, p_sok, then_nx, p_asgV, e4, Int.natCast_add]
      · rw [List.take_succ, List.getElem?_eq_getElem hj, List.map_append]
        exact k2)
    rw [then_nx]
    generalize hz : sFz _ _ _ = o
    obtain ⟨s2, rfl, h2, h3⟩ := own_sfz2 hz ho rfl
    rw [List.take_length]
    simp [-List.map_map]
    exact Rt.mk h2
end
end Fl
set_option Elab.async false
set_option linter.all false
set_option maxRecDepth 100000
/-! Fl: the machine of the program. -/
namespace Fl
noncomputable section
def g_find (G : FEnv) : SM := sSeq (sFor (iV (eVar 0)) (gVar 2) (sIf (tEq (e2 subI (eVar 2) (eC (.int 1))) (eVar 1)) (sRet (eVar 2)) (sNil))) (sRet (eC .non))
end
structure BaseF (Γ : Nat → FEnv) : Prop where
  find : ∀ n, Γ (n + 1) 3 = mkFn 3 2 (g_find (Γ n))
noncomputable section
def g_Machine___init__ (G : FEnv) : SM := sSeq (sAttr "blocks" (eVar 1) (eVar 0)) (sSeq (sAttr "steps" (eC (.int 0)) (eVar 0)) (sSeq (sAttr "touches" (eC (.int 0)) (eVar 0)) (sAttr "depth" (eC (.int 0)) (eVar 0))))
def g_Machine_call (G : FEnv) : SM := sSeq (sAsg (eCall G 3 [e1 (attrI "blocks") (eVar 0), eVar 1]) (gVar 4)) (sSeq (sAttr "depth" (e2 (addV false) (e1 (attrI "depth") (eVar 0)) (eC (.int 1))) (eVar 0)) (sSeq (sIf (tGt (e1 (attrI "depth") (eVar 0)) (eC (.int 40))) (sRaise "TrapError") (sNil)) (sSeq (sAsg (eDct true [(eC (.int 0), e1 (listV false) (eVar 2))]) (gVar 5)) (sSeq (sFor (iEnum (eVar 3)) (gTup [6, 7]) (sSub (e1 (listV false) (eVar 7)) (eVar 5) (e2 (addV false) (eVar 6) (eC (.int 1))))) (sSeq (sSeq (sFor (iV (e2 subI (eVar 4) (eC (.int 4)))) (gTup [8, 9, 10, 11]) (sSeq (sAsg (eComp false [14] (iV (eVar 10)) (gVar 14) none (e2 subI (eVar 5) (eVar 14))) (gVar 12)) (sSeq (sAttr "steps" (e2 (addV false) (e1 (attrI "steps") (eVar 0)) (eC (.int 1))) (eVar 0)) (sIf (tEq (eVar 8) (eC (.str "call"))) (sFor (iEnum (eMethI G "Machine" "nested" 51 (eVar 0) [eVar 9, eVar 12])) (gTup [6, 7]) (sSub (eVar 7) (eVar 5) (e2 subI (eVar 11) (eVar 6)))) (sSeq (sAsg (eCall G 34 [eVar 8, eVar 9, eVar 12]) (gVar 13)) (sSeq (sAttr "touches" (e2 (addV false) (e2 (addV false) (e1 (attrI "touches") (eVar 0)) (e1 sumV (eComp false [7] (iV (eVar 12)) (gVar 7) none (e1 lenV (eVar 7))))) (e1 lenV (eVar 13))) (eVar 0)) (sSub (eVar 13) (eVar 5) (e2 subI (eVar 11) (eC (.int 0)))))))))) (sFz 5)) (sSeq (sAttr "depth" (e2 subV (e1 (attrI "depth") (eVar 0)) (eC (.int 1))) (eVar 0)) (sRet (eComp false [14] (iV (e2 subI (eVar 4) (eC (.int 5)))) (gVar 14) none (e1 (listV false) (e2 subI (eVar 5) (eVar 14)))))))))))
def g_Machine_nested (G : FEnv) : SM := sSeq (sIf (tNot (tTruth (e2 subI (eVar 2) (eC (.int 0))))) (sRet (eCompR false [3] (iRange1 (eCall G 23 [e2 subI (eCall G 3 [e1 (attrI "blocks") (eVar 0), eVar 1]) (eC (.int 3))])) (gVar 3) none (eLst false []))) (sNil)) (sRet (eMethI G "Machine" "call" 50 (eVar 0) [eVar 1, e2 subI (eVar 2) (eC (.int 0)), eSlice false (eVar 2) (some (eC (.int 1))) none]))
def g_run (G : FEnv) : SM := sSeq (sAsg (eCall G 3 [eVar 0, eVar 1]) (gVar 3)) (sSeq (sAsg (eNew G "Machine" 49 [eVar 0]) (gVar 4)) (sSeq (sAsg (eCall G 22 [e2 subI (eVar 3) (eC (.int 2)), eVar 2]) (gVar 5)) (sSeq (sAsg (eMethI G "Machine" "nested" 51 (eVar 4) [eVar 1, e2 (addV false) (eLst false [e1 (rangeL false) (e1 lenV (eVar 2))]) (eVar 5)]) (gVar 6)) (sRet (eTup false [eCall G 24 [e2 subI (eVar 3) (eC (.int 3)), eVar 6], e1 (attrI "steps") (eVar 4), e1 (attrI "touches") (eVar 4)])))))
end
structure BaseMc (Γ : Nat → FEnv) : Prop where
  Machine___init__ : ∀ n, Γ (n + 2) 49 = mkFn 2 2 (g_Machine___init__ (Γ (n + 1)))
  Machine_call : ∀ n, Γ (n + 1) 50 = mkFn 15 4 (g_Machine_call (Γ n))
  Machine_nested : ∀ n, Γ (n + 1) 51 = mkFn 4 3 (g_Machine_nested (Γ n))
  run : ∀ n, Γ (n + 1) 52 = mkFn 7 3 (g_run (Γ n))
structure Ins where
  nm : String
  ex : T
  ins : List Nat
  outs : List Nat
def Ins.t (i : Ins) : T := .tup [.str i.nm, i.ex, li (ni i.ins), li (ni i.outs)]
structure Blk where
  nm : String
  giv : Kd
  res : Kd
  code : List Ins
  outs : List Nat
def Blk.t (b : Blk) : T := .tup [.str "block", .str b.nm, b.giv.t, b.res.t, .lst (b.code.map Ins.t), li (ni b.outs)]
abbrev Regs := List (Nat × Vec)
def rget : Regs → Nat → Option Vec
  | [], _ => none
  | (j, v) :: r, k => if j = k then some v else rget r k
def rput (kv : Regs) (k : Nat) (v : Vec) : Regs := if kv.any (fun p => decide (p.1 = k)) then kv.map fun p => if p.1 = k then (p.1, v) else p else kv ++ [(k, v)]
def rv (kv : Regs) : List (Key × Val) := kv.map fun p => (Key.i (p.1 : Nat), Val.t (li p.2))
theorem dget_rv : ∀ (kv : Regs) (k : Nat), dget (rv kv) (.i (k : Nat)) = (rget kv k).map fun v => Val.t (li v)
  | [], _ => rfl
  | (j, v) :: r, k => by
    show (if Key.i (j : Nat) = Key.i (k : Nat) then some (Val.t (li v)) else dget (rv r) (.i (k : Nat))) = _
    unfold rget
    by_cases c : j = k
    · subst c; rw [if_pos rfl, if_pos rfl]; rfl
    · rw [if_neg (by intro h; injection h with h; exact c (by omega)), if_neg c, dget_rv r k]
theorem dput_rv (kv : Regs) (k : Nat) (v : Vec) : dput (rv kv) (.i (k : Nat)) (.t (li v)) = rv (rput kv k v) := by
  have e : ∀ j : Nat, (Key.i (j : Nat) = Key.i (k : Nat)) ↔ j = k := fun j => ⟨fun h => by injection h with h; omega, fun h => by rw [h]⟩
  unfold dput rput rv
  rw [List.any_map]
  have e2 : ((fun p : Key × Val => decide (p.1 = Key.i (k : Nat))) ∘ fun p : Nat × Vec => (Key.i (p.1 : Nat), Val.t (li p.2))) = fun p : Nat × Vec => decide (p.1 = k) := by
    funext p
    simp only [Function.comp, e]
  rw [e2]
  by_cases c : (kv.any fun p => decide (p.1 = k)) = true
  · rw [if_pos c, if_pos c, List.map_map, List.map_map]
    refine List.map_congr_left fun p _ => ?_
    simp only [Function.comp, e]
    by_cases h : p.1 = k
    · rw [if_pos h, if_pos h]
    · rw [if_neg h, if_neg h]
  · rw [if_neg c, if_neg c, List.map_append]; rfl
theorem rput_len (kv : Regs) (k : Nat) (v : Vec) : (rput kv k v).length ≤ kv.length + 1 := by
  unfold rput
  split
  · rw [List.length_map]; omega
  · rw [List.length_append]; simp
def gets (kv : Regs) : List Nat → Option (List Vec)
  | [] => some []
  | r :: q => match rget kv r with
    | some v => match gets kv q with
      | some vs => some (v :: vs)
      | none => none
    | none => none
def puts (kv : Regs) : List Nat → List Vec → Option Regs
  | _, [] => some kv
  | [], _ :: _ => none
  | o :: os, v :: vs => puts (rput kv o v) os vs
def lens (g : List Vec) : Nat := (g.map List.length).sum
structure MS where
  kv : Regs
  st : Nat
  tc : Nat
abbrev MR := Out (List Vec × Nat × Nat)
def mstep (E : String → T → List Vec → Out Vec) (C : String → List Vec → Nat → Nat → MR) (m : MS) (i : Ins) : Out MS :=
  if m.kv.length < 16000000 then match gets m.kv i.ins with
  | none => .bad
  | some g =>
    if i.nm = "call" then match i.ex with
      | .str f => match C f g (m.st + 1) m.tc with
        | .ok (vs, st, tc) => if m.kv.length + vs.length < 16000000 then match puts m.kv i.outs vs with
          | some kv => .ok ⟨kv, st, tc⟩
          | none => .bad else .bad
        | .trap => .trap
        | .bad => .bad
      | _ => .bad
    else match E i.nm i.ex g with
      | .ok v => match i.outs with
        | o :: _ => .ok ⟨rput m.kv o v, m.st + 1, m.tc + lens g + v.length⟩
        | [] => .bad
      | .trap => .trap
      | .bad => .bad
  else .bad
def foldO {σ β : Type} (F : σ → β → Out σ) : σ → List β → Out σ
  | m, [] => .ok m
  | m, v :: r => (F m v).bind fun m' => foldO F m' r
def inits (a : Vec) (r : List Vec) : Regs := (List.range r.length).foldl (fun kv j => rput kv (j + 1) (r.getD j [])) [(0, a)]
def nestd (C : String → Vec → List Vec → Nat → Nat → MR) (bs : List Blk) (f : String) (g : List Vec) (st tc : Nat) : MR := match g with
  | [] => .bad
  | a :: r => if a = [] then (match bs.find? fun b => b.nm == f with
    | some b => .ok (List.replicate b.res.wid [], st, tc)
    | none => .bad) else C f a r st tc
def mcall (E : String → T → List Vec → Out Vec) (bs : List Blk) : Nat → String → Vec → List Vec → Nat → Nat → MR
  | 0, _, _, _, _, _ => .trap
  | d + 1, f, a, r, st, tc => match bs.find? fun b => b.nm == f with
    | none => .bad
    | some b => if r.length < 15000000 then (match foldO (mstep E (nestd (mcall E bs d) bs)) ⟨inits a r, st, tc⟩ b.code with
      | .ok m => match gets m.kv b.outs with
        | some vs => .ok (vs, m.st, m.tc)
        | none => .bad
      | .trap => .trap
      | .bad => .bad) else .bad
/-! ### loops that may stop -/
def Ends1 {σ : Type} (o : SO) (x : Exc) (P : σ → Env → Store → Prop) (X : Store → Prop) : Out σ → Prop
  | .ok m => ∃ ρ s, o = .nx ρ s ∧ P m ρ s
  | .trap => ∃ ρ s, o = .ex x ρ s ∧ X s
  | .bad => True
theorem for_out {σ β : Type} {g : CG} {b : SM} {iw : β → Val} (F : σ → β → Out σ) (x : Exc) (P : σ → Env → Store → Prop) (X : Store → Prop) : ∀ (vs : List β), (∀ v ∈ vs, ∀ m ρ s, P m ρ s → ∃ ρ1 s1, g (iw v) ρ s = .ok ρ1 s1 ∧ Ends1 (b ρ1 s1) x P X (F m v)) →
    ∀ (m : σ) (ρ : Env) (s : Store), P m ρ s → Ends1 (forL g b (vs.map iw) ρ s) x P X (foldO F m vs)
  | [], hs, m, ρ, s, h => ⟨ρ, s, rfl, h⟩
  | v :: r, hs, m, ρ, s, h => by
    obtain ⟨ρ1, s1, h1, h2⟩ := hs v List.mem_cons_self m ρ s h
    have e : forL g b ((v :: r).map iw) ρ s = (match b ρ1 s1 with
        | .nx ρ2 s2 => forL g b (r.map iw) ρ2 s2
        | .ct ρ2 s2 => forL g b (r.map iw) ρ2 s2
        | .bk ρ2 s2 => .nx ρ2 s2
        | o => o) := by
      show (g (iw v) ρ s).so _ _ = _
      rw [h1]
      rfl
    rw [e]
    unfold foldO
    cases hF : F m v with
    | ok m' =>
      rw [hF] at h2
      obtain ⟨ρ2, s2, h3, h4⟩ := h2
      rw [h3]
      exact for_out F x P X r (fun w hw => hs w (List.mem_cons_of_mem _ hw)) m' ρ2 s2 h4
    | trap =>
      rw [hF] at h2
      obtain ⟨ρ2, s2, h3, h4⟩ := h2
      rw [h3]
      exact ⟨ρ2, s2, rfl, h4⟩
    | bad => exact True.intro
/-! ### find -/
theorem f_find {Γ : Nat → FEnv} (B : BaseF Γ) {β : Type} (w : β → T) (nm : β → String) (hw1 : ∀ b s, subI (.t (w b)) (.t (.int 1)) s = .ok (.t (.str (nm b))) s) (n : Nat) (bs : List β) (x : String) (s : Store) (hw : Wf s) :
    Γ (n + 1) 3 [.t (.lst (bs.map w)), .t (.str x)] s = .ok (.t (match bs.find? fun b => nm b == x with
      | some b => w b
      | none => .non)) s := by
  rw [B.find]
  refine fn_Rt rfl hw ?_
  simp [g_find, start, lst_iter, -List.map_map]
  have key : ∀ (l : Val) (bs : List β) (x2 : Option Val), (∃ b, bs.find? (fun b => nm b == x) = some b ∧ forL (gVar 2) (sIf (tEq (e2 subI (eVar 2) (eC (.int 1))) (eVar 1)) (sRet (eVar 2)) (sNil)) ((bs.map w).map .t) [some l, some (.t (.str x)), x2] s = .rt (.t (w b)) s) ∨
      (bs.find? (fun b => nm b == x) = none ∧ ∃ y, forL (gVar 2) (sIf (tEq (e2 subI (eVar 2) (eC (.int 1))) (eVar 1)) (sRet (eVar 2)) (sNil)) ((bs.map w).map .t) [some l, some (.t (.str x)), x2] s = .nx [some l, some (.t (.str x)), y] s) := by
    intro l bs
    induction bs with
    | nil => intro x2; exact .inr ⟨rfl, x2, rfl⟩
    | cons b r ih =>
      intro x2
      rw [List.map_cons, List.map_cons, p_forL]
      by_cases c : nm b = x
      · refine .inl ⟨b, by rw [List.find?_cons]; simp [c], ?_⟩
        simp [hw1, c]
      · have c' : (nm b == x) = false := by simpa using c
        rcases ih (some (.t (w b))) with ⟨b', h1, h2⟩ | ⟨h1, y, h2⟩
        · refine .inl ⟨b', by rw [List.find?_cons, c']; exact h1, ?_⟩
          simp [hw1, c', h2, -List.map_map]
        · refine .inr ⟨by rw [List.find?_cons, c']; exact h1, y, ?_⟩
          simp [hw1, c', h2, -List.map_map]
  rcases key (.t (.lst (bs.map w))) bs none with ⟨b, h1, h2⟩ | ⟨h1, y, h2⟩
  · rw [h1, h2]; exact Rt.self
  · rw [h1, h2]
    simp
    exact Rt.self
/-! ### the instance -/
abbrev Mc (bT : T) (st tc dp : Int) : Cell := .ins "Machine" [("blocks", .t bT), ("steps", iv st), ("touches", iv tc), ("depth", iv dp)]
section
variable {s : Store} {q : Nat} {bT : T} {st tc dp : Int}
theorem mc_blocks (h : s.cell q = some (Mc bT st tc dp)) : attrI "blocks" (.loc q) s = .ok (.t bT) s := by unfold attrI; dsimp only; rw [h]; rfl
theorem mc_steps (h : s.cell q = some (Mc bT st tc dp)) : attrI "steps" (.loc q) s = .ok (iv st) s := by unfold attrI; dsimp only; rw [h]; rfl
theorem mc_touches (h : s.cell q = some (Mc bT st tc dp)) : attrI "touches" (.loc q) s = .ok (iv tc) s := by unfold attrI; dsimp only; rw [h]; rfl
theorem mc_depth (h : s.cell q = some (Mc bT st tc dp)) : attrI "depth" (.loc q) s = .ok (iv dp) s := by unfold attrI; dsimp only; rw [h]; rfl
theorem mc_setS (h : s.cell q = some (Mc bT st tc dp)) (v : Int) : setAttr "steps" (.loc q) (iv v) s = .ok () (s.set q (some (Mc bT v tc dp))) := by unfold setAttr; dsimp only; rw [h]; rfl
theorem mc_setT (h : s.cell q = some (Mc bT st tc dp)) (v : Int) : setAttr "touches" (.loc q) (iv v) s = .ok () (s.set q (some (Mc bT st v dp))) := by unfold setAttr; dsimp only; rw [h]; rfl
theorem mc_setD (h : s.cell q = some (Mc bT st tc dp)) (v : Int) : setAttr "depth" (.loc q) (iv v) s = .ok () (s.set q (some (Mc bT st tc v))) := by unfold setAttr; dsimp only; rw [h]; rfl
theorem mc_set (h : s.cell q = some (Mc bT st tc dp)) (st' tc' dp' : Int) : Store.cell (s.set q (some (Mc bT st' tc' dp'))) q = some (Mc bT st' tc' dp') := by rw [cell_set (cell_lt h), if_pos rfl]
theorem mc_wf (h : Wf s) (st' tc' dp' : Int) : Wf (s.set q (some (Mc bT st' tc' dp'))) := h.set fun k hk => by
  injection hk with hk; subst hk; simp [Cell.below, Val.below]
/-- with a dict behind -/
abbrev Sd (s : Store) (q : Nat) (bT : T) (st tc dp : Int) (kv : Regs) : Store := s.set q (some (Mc bT st tc dp)) ++ [some (.dct (rv kv))]
theorem sd_cell (h : q < s.length) (kv : Regs) : Store.cell (Sd s q bT st tc dp kv) q = some (Mc bT st tc dp) := by
  rw [cell_app, List.length_set, if_neg (by omega), cell_set h, if_pos rfl]
theorem sd_dct (kv : Regs) : Store.cell (Sd s q bT st tc dp kv) s.length = some (.dct (rv kv)) := by
  rw [cell_app, List.length_set, if_pos rfl]
theorem sd_set (h : q < s.length) (kv : Regs) (st' tc' dp' : Int) : (Sd s q bT st tc dp kv).set q (some (Mc bT st' tc' dp')) = Sd s q bT st' tc' dp' kv := by
  rw [List.set_append_left _ _ (by rw [List.length_set]; exact h), List.set_set]
theorem sd_wf (h : Wf s) (kv : Regs) : Wf (Sd s q bT st tc dp kv) := by
  refine (mc_wf h st tc dp).app fun c hc => ?_
  simp only [List.mem_singleton] at hc
  subst hc
  simp [Cell.below, rv, Val.below]
theorem sd_get (kv : Regs) {k : Nat} {v : Vec} (hk : rget kv k = some v) : subI (.loc s.length) (iv (k : Nat)) (Sd s q bT st tc dp kv) = .ok (.t (li v)) (Sd s q bT st tc dp kv) := by
  unfold subI
  dsimp only
  rw [sd_dct]
  dsimp only [keyOf]
  rw [dget_rv, hk]
  rfl
theorem sd_put (kv : Regs) (hl : kv.length < 16777216) (k : Nat) (v : Vec) : setI (.loc s.length) (iv (k : Nat)) (.t (li v)) (Sd s q bT st tc dp kv) = .ok () (Sd s q bT st tc dp (rput kv k v)) := by
  unfold setI
  dsimp only
  rw [sd_dct]
  dsimp only [keyOf]
  rw [if_pos (by unfold rv; rw [List.length_map]; exact hl), dput_rv]
  congr 1
  rw [List.set_append_right _ _ (by rw [List.length_set]; exact Nat.le_refl _), List.length_set, Nat.sub_self]
  rfl
theorem treesK_rv : ∀ kv : Regs, treesK (rv kv) = some (kv.map fun p => (Key.i (p.1 : Nat), li p.2))
  | [] => rfl
  | (j, v) :: r => by
    show (match treesK (rv r) with | some q => some ((Key.i (j : Nat), li v) :: q) | none => none) = _
    rw [treesK_rv r]; rfl
theorem sd_frz (kv : Regs) : freeze (.loc s.length) (Sd s q bT st tc dp kv) = .ok (.t (.dct (kv.map fun p => (Key.i (p.1 : Nat), li p.2)))) (s.set q (some (Mc bT st tc dp)) ++ [none]) := by
  unfold freeze
  dsimp only
  rw [sd_dct]
  dsimp only
  rw [treesK_rv]
  congr 1
  rw [List.set_append_right _ _ (by rw [List.length_set]; exact Nat.le_refl _), List.length_set, Nat.sub_self]
  rfl
end
theorem dt_get : ∀ (kv : Regs) {k : Nat} {v : Vec} (s : Store), rget kv k = some v → subI (.t (.dct (kv.map fun p => (Key.i (p.1 : Nat), li p.2)))) (iv (k : Nat)) s = .ok (.t (li v)) s := by
  intro kv k v s h
  have e : dget (kv.map fun p => (Key.i (p.1 : Nat), li p.2)) (.i (k : Nat)) = some (li v) := by
    induction kv with
    | nil => cases h
    | cons p r ih =>
      obtain ⟨j, u⟩ := p
      unfold rget at h
      show (if Key.i (j : Nat) = Key.i (k : Nat) then some (li u) else dget _ _) = _
      by_cases c : j = k
      · rw [if_pos c] at h; injection h with h; subst h; rw [if_pos (by rw [c])]
      · rw [if_neg c] at h
        rw [if_neg (by intro z; injection z with z; exact c (by omega))]
        exact ih h
  unfold subI
  dsimp only [keyOf]
  rw [e]
/-- a def that changes one cell of the caller -/
theorem fn_tS {N ps : Nat} {b : SM} {args : List Val} {s s' s1 : Store} {d : T} (h : b (start N args) s = .rt (.t d) s') (hl : args.length = ps) (hw : Wf s1) (h1 : s1.length = s.length) (hs : s'.take s.length = s1) : mkFn N ps b args s = .ok (.t d) s1 := by
  unfold mkFn
  rw [if_pos hl, h]
  show R.ok (Val.t d) (trim s.length s') = _
  unfold trim
  rw [hs, if_pos (by rw [← h1]; exact hw)]
theorem fn_xS {N ps : Nat} {b : SM} {args : List Val} {s s' s1 : Store} {x : Exc} {ρ : Env} (h : b (start N args) s = .ex x ρ s') (hl : args.length = ps) (hw : Wf s1) (h1 : s1.length = s.length) (hs : s'.take s.length = s1) : mkFn N ps b args s = .exc x s1 := by
  unfold mkFn
  rw [if_pos hl, h]
  show R.exc x (trim s.length s') = _
  unfold trim
  rw [hs, if_pos (by rw [← h1]; exact hw)]
end Fl
set_option Elab.async false
set_option linter.all false
set_option maxRecDepth 100000
/-! Fl: a run of the machine. -/
namespace Fl
def ExecOk (Γ : Nat → FEnv) (E : String → T → List Vec → Out Vec) : Prop := ∀ (n : Nat), 3 ≤ n → ∀ (x : String) (d : T) (i : List Vec) (s : Store), Wf s → Tells (Γ n 34 [.t (.str x), .t d, .t (lv i)] s) s (E x d i)
theorem exec_ok {Γ : Nat → FEnv} (B : BaseV Γ) (N : BaseN Γ) : ExecOk Γ exec := fun n hn x d i s hw => by
  obtain ⟨m, rfl⟩ : ∃ m, n = m + 3 := ⟨n - 3, by omega⟩
  exact exec_run B N m x d i s hw
def MTold (r : R Val) (s : Store) (q : Nat) (bT : T) (dp : Int) : MR → Prop
  | .ok (vs, st, tc) => r = .ok (.t (lv vs)) (s.set q (some (Mc bT st tc dp)))
  | .trap => ∃ st tc dp, r = .exc trap (s.set q (some (Mc bT st tc dp)))
  | .bad => True
abbrev bsT (bs : List Blk) : T := .lst (bs.map Blk.t)
theorem lst_ix {xs : List T} {k : Nat} {d : T} (h : xs[k]? = some d) (s : Store) : subI (.t (.lst xs)) (.t (.int (k : Nat))) s = .ok (.t d) s := lst_get h s
@[simp] theorem b_nm (b : Blk) (s : Store) : subI (.t b.t) (.t (.int 1)) s = .ok (.t (.str b.nm)) s := nrfl rfl
@[simp] theorem b_giv (b : Blk) (s : Store) : subI (.t b.t) (.t (.int 2)) s = .ok (.t b.giv.t) s := nrfl rfl
@[simp] theorem b_res (b : Blk) (s : Store) : subI (.t b.t) (.t (.int 3)) s = .ok (.t b.res.t) s := nrfl rfl
@[simp] theorem b_code (b : Blk) (s : Store) : subI (.t b.t) (.t (.int 4)) s = .ok (.t (.lst (b.code.map Ins.t))) s := nrfl rfl
@[simp] theorem b_outs (b : Blk) (s : Store) : subI (.t b.t) (.t (.int 5)) s = .ok (.t (li (ni b.outs))) s := nrfl rfl
theorem enum_lv (g : List Vec) : enumT 0 (g.map li) = (List.range g.length).map fun k => Val.t (.tup [.int (k : Nat), li (g.getD k [])]) := by
  have := enumT_eq (β := Vec) li g 0
  rw [this]
  refine List.map_congr_left fun k _ => ?_
  rw [Nat.zero_add]; rfl
/-- values of registers, one after the other -/
theorem gets_run {s : Store} {kv : Regs} {vI' : Nat → R Val} (i : Nat) (f : CE) (ρ : Env) (k : Vec → T) : ∀ (rs : List Nat) (vs : List Vec), gets kv rs = some vs → (∀ (r : Nat) (v : Vec), rget kv r = some v → f (ρ.set i (some (iv (r : Nat)))) s = .ok (.t (k v)) s) →
    compL (gVar i) none f ρ ((ni rs).map iv) s = .ok ((vs.map k).map .t) s
  | [], vs, h, _ => by
    unfold gets at h; injection h with h; subst h; rfl
  | r :: q, vs, h, hh => by
    unfold gets at h
    cases h1 : rget kv r with
    | none => rw [h1] at h; cases h
    | some v =>
      rw [h1] at h
      cases h2 : gets kv q with
      | none => rw [h2] at h; cases h
      | some ws =>
        rw [h2] at h
        injection h with h
        subst h
        have ih := gets_run (vI' := vI') i f ρ k q ws h2 hh
        show (f (ρ.set i (some (iv (r : Nat)))) s).bind _ = _
        rw [hh r v h1, p_ok]
        show (compL (gVar i) none f ρ ((ni q).map iv) s).bind _ = _
        rw [ih]
        rfl
theorem gets_len {kv : Regs} : ∀ {rs : List Nat} {vs : List Vec}, gets kv rs = some vs → vs.length = rs.length
  | [], vs, h => by unfold gets at h; injection h with h; subst h; rfl
  | r :: q, vs, h => by
    unfold gets at h
    cases h1 : rget kv r with
    | none => rw [h1] at h; cases h
    | some v =>
      rw [h1] at h
      cases h2 : gets kv q with
      | none => rw [h2] at h; cases h
      | some ws =>
        rw [h2] at h; injection h with h; subst h
        rw [List.length_cons, List.length_cons, gets_len h2]
/-- storing several: the part done -/
theorem puts_step : ∀ {kv kv' : Regs} {os : List Nat} {vs : List Vec}, puts kv os vs = some kv' → ∃ f : Nat → Regs, f 0 = kv ∧ f vs.length = kv' ∧ ∀ j, j < vs.length → ∃ o, os[j]? = some o ∧ f (j + 1) = rput (f j) o (vs.getD j []) ∧ (f j).length ≤ kv.length + j
  | kv, kv', os, [], h => by
    have e : kv = kv' := by
      cases os <;> (unfold puts at h; injection h)
    exact ⟨fun _ => kv, rfl, e, fun j hj => absurd hj (by simp)⟩
  | kv, kv', [], v :: vs, h => by unfold puts at h; cases h
  | kv, kv', o :: os, v :: vs, h => by
    unfold puts at h
    obtain ⟨f, h0, h1, h2⟩ := puts_step h
    refine ⟨fun j => match j with
      | 0 => kv
      | j + 1 => f j, rfl, h1, fun j hj => ?_⟩
    cases j with
    | zero => exact ⟨o, rfl, by show f 0 = _; rw [h0]; rfl, by simp⟩
    | succ j =>
      obtain ⟨o', a, b, c⟩ := h2 j (by simpa using hj)
      refine ⟨o', by simpa using a, by show f (j + 1) = _; rw [b]; simp, ?_⟩
      show (f j).length ≤ _
      have := rput_len kv o v
      omega
section
variable {Γ : Nat → FEnv}
theorem m_nest {C : String → Vec → List Vec → Nat → Nat → MR} (M : BaseMc Γ) (F : BaseF Γ) (Y : BaseL Γ) (bs : List Blk) (hbs : ∀ b ∈ bs, b.res.dep ≤ 15 ∧ b.res.wid ≤ 1000) (n : Nat) (hn : 17 ≤ n) (dp : Int) (f : String) (g : List Vec) (st tc : Nat) (s : Store) (q : Nat) (hw : Wf s) (hq : s.cell q = some (Mc (bsT bs) st tc dp))
    (hC : ∀ a r, g = a :: r → MTold (Γ n 50 [.loc q, .t (.str f), .t (li a), .t (lv r)] s) s q (bsT bs) dp (C f a r st tc)) : MTold (Γ (n + 1) 51 [.loc q, .t (.str f), .t (lv g)] s) s q (bsT bs) dp (nestd C bs f g st tc) := by
  cases g with
  | nil => exact True.intro
  | cons a r =>
    have hC := hC a r rfl
    have g0 : subI (.t (lv (a :: r))) (.t (.int 0)) s = .ok (.t (li a)) s := lst_get (k := 0) (xs := List.map li (a :: r)) rfl s
    have g1 : sliceV false (.t (lv (a :: r))) (some 1) none s = .ok (.t (lv r)) s := by
      show sliceV false (.t (lv (a :: r))) (some ((1 : Nat) : Int)) none s = _
      rw [lst_sliceV, slice_drop (a := 1) (xs := List.map li (a :: r)) (by simp)]
      rfl
    have e0 : start 4 [.loc q, .t (.str f), .t (lv (a :: r))] = [some (.loc q), some (.t (.str f)), some (.t (lv (a :: r))), none] := rfl
    have tr : truthV (.t (li a)) s = .ok (!a.isEmpty) s := by
      show R.ok (!(a.map T.int).isEmpty) s = _
      rw [List.isEmpty_map]
    unfold nestd
    by_cases ha : a = []
    · subst ha
      dsimp only
      rw [if_pos rfl]
      have hf := f_find F Blk.t Blk.nm b_nm (n - 1) bs f s hw
      rw [show n - 1 + 1 = n by omega] at hf
      cases hb : bs.find? fun b => b.nm == f with
      | none => exact True.intro
      | some b =>
        rw [hb] at hf
        obtain ⟨h1, h2⟩ := hbs b (List.mem_of_find?_eq_some hb)
        have hwid := l_width Y b.res n (by omega) s hw
        show _ = _
        have es : s.set q (some (Mc (bsT bs) st tc dp)) = s := by
          refine List.ext_getElem? fun j => ?_
          by_cases hj : q = j
          · subst hj
            have hl := cell_lt hq
            rw [List.getElem?_set_self hl]
            unfold Store.cell at hq
            rw [List.getElem?_eq_getElem hl] at hq ⊢
            exact congrArg some hq.symm
          · rw [List.getElem?_set_ne hj]
        rw [es, M.Machine_nested]
        refine fn_Rt rfl hw ?_
        rw [e0]
        have hr := p_rangeS (b := eCall (Γ n) 23 [e2 subI (eCall (Γ n) 3 [e1 (attrI "blocks") (eVar 0), eVar 1]) (eC (.int 3))]) (ρ := [some (.loc q), some (.t (.str f)), some (.t (lv ([] :: r))), none]) (s := s) (s' := s) (n := b.res.wid) (by simp [mc_blocks hq, hf, hwid]) (by omega)
        simp [g_Machine_nested, g0, tr]
        rw [p_compRn hr (by omega)]
        rw [comp_map (s := s) (fun (k : Nat) => iv k) (fun _ => .t (.lst [])) (List.range b.res.wid) (fun v hv => ⟨_, rfl, rfl⟩), p_ok, show (List.range b.res.wid).map (fun _ => Val.t (.lst [])) = (List.map li (List.replicate b.res.wid [])).map .t by
          rw [List.map_const', List.length_range, List.map_replicate, List.map_replicate]; rfl, newL_t]
        exact Rt.self
    · dsimp only
      rw [if_neg ha]
      have hem : a.isEmpty = false := by cases a with | nil => exact absurd rfl ha | cons _ _ => rfl
      have hcl : s.cell q = some (.ins "Machine" [("blocks", .t (bsT bs)), ("steps", iv st), ("touches", iv tc), ("depth", iv dp)]) := hq
      have em : ∀ X, eMethI (Γ n) "Machine" "call" 50 (eVar 0) [eVar 1, e2 subI (eVar 2) (eC (.int 0)), eSlice false (eVar 2) (some (eC (.int 1))) none] [some (.loc q), some (.t (.str f)), some (.t (lv (a :: r))), X] s = Γ n 50 [.loc q, .t (.str f), .t (li a), .t (lv r)] s := fun X => by
        unfold eMethI
        rw [bind_eq, p_var0, bind_ok]
        dsimp only
        rw [hcl]
        dsimp only
        rw [if_pos ⟨rfl, rfl⟩, bind_eq]
        simp [g0, g1]
      cases hc : C f a r st tc with
      | bad => exact True.intro
      | ok o =>
        obtain ⟨vs, st', tc'⟩ := o
        rw [hc] at hC
        have hC : _ = _ := hC
        show _ = _
        rw [M.Machine_nested]
        refine fn_tS (s' := s.set q (some (Mc (bsT bs) st' tc' dp))) ?_ rfl (mc_wf hw _ _ _) (by rw [List.length_set]) (by rw [List.take_of_length_le (by rw [List.length_set]; exact Nat.le_refl _)])
        rw [e0]
        simp [g_Machine_nested, g0, tr, hem]
        rw [em, hC]
        rfl
      | trap =>
        rw [hc] at hC
        obtain ⟨st', tc', dp', hC⟩ := hC
        refine ⟨st', tc', dp', ?_⟩
        rw [M.Machine_nested]
        refine fn_xS (s' := s.set q (some (Mc (bsT bs) st' tc' dp'))) (ρ := [some (.loc q), some (.t (.str f)), some (.t (lv (a :: r))), none]) ?_ rfl (mc_wf hw _ _ _) (by rw [List.length_set]) (by rw [List.take_of_length_le (by rw [List.length_set]; exact Nat.le_refl _)])
        rw [e0]
        simp [g_Machine_nested, g0, tr, hem]
        rw [em, hC]
        rfl
end
end Fl
set_option Elab.async false
set_option linter.all false
set_option maxRecDepth 100000
/-! Fl: a run of the machine. -/
namespace Fl
theorem Mc_ty (bT : T) (st tc dp : Int) : Mc bT st tc dp = .ins "Machine" [("blocks", .t bT), ("steps", iv st), ("touches", iv tc), ("depth", iv dp)] := rfl
theorem lens_cast (g : List Vec) : ((g.map fun v => ((v.length : Nat) : Int)).sum) = ((lens g : Nat) : Int) := by
  unfold lens
  induction g with
  | nil => rfl
  | cons v r ih => simp only [List.map_cons, List.sum_cons, ih]; omega
section
variable {Γ : Nat → FEnv}
/-- an instruction of the loop -/
theorem m_step {E : String → T → List Vec → Out Vec} {C : String → List Vec → Nat → Nat → MR} (M : BaseMc Γ) (hE : ExecOk Γ E) (bT : T) (n : Nat) (hn : 3 ≤ n) (dp : Int) (s : Store) (q : Nat) (hw : Wf s) (hq : q < s.length) (x0 x1 x2 x3 x4 : Option Val) (i : Ins) (m : MS) (x6 x7 x8 x9 x10 x11 x12 x13 x14 : Option Val)
    (hC : ∀ f g, MTold (Γ n 51 [.loc q, .t (.str f), .t (lv g)] (Sd s q bT (m.st + 1 : Nat) m.tc dp m.kv)) (Sd s q bT (m.st + 1 : Nat) m.tc dp m.kv) q bT dp (C f g (m.st + 1) m.tc)) :
    ∃ ρ1 s1, gTup [8, 9, 10, 11] (.t i.t) [some (.loc q), x1, x2, x3, x4, some (.loc s.length), x6, x7, x8, x9, x10, x11, x12, x13, x14] (Sd s q bT m.st m.tc dp m.kv) = .ok ρ1 s1 ∧
      Ends1 (sSeq (sAsg (eComp false [14] (iV (eVar 10)) (gVar 14) none (e2 subI (eVar 5) (eVar 14))) (gVar 12)) (sSeq (sAttr "steps" (e2 (addV false) (e1 (attrI "steps") (eVar 0)) (eC (.int 1))) (eVar 0)) (sIf (tEq (eVar 8) (eC (.str "call"))) (sFor (iEnum (eMethI (Γ n) "Machine" "nested" 51 (eVar 0) [eVar 9, eVar 12])) (gTup [6, 7]) (sSub (eVar 7) (eVar 5) (e2 subI (eVar 11) (eVar 6)))) (sSeq (sAsg (eCall (Γ n) 34 [eVar 8, eVar 9, eVar 12]) (gVar 13)) (sSeq (sAttr "touches" (e2 (addV false) (e2 (addV false) (e1 (attrI "touches") (eVar 0)) (e1 sumV (eComp false [7] (iV (eVar 12)) (gVar 7) none (e1 lenV (eVar 7))))) (e1 lenV (eVar 13))) (eVar 0)) (sSub (eVar 13) (eVar 5) (e2 subI (eVar 11) (eC (.int 0)))))))) ρ1 s1)
        trap (fun m' ρ s1 => ∃ x6 x7 x8 x9 x10 x11 x12 x13 x14, ρ = [some (.loc q), x1, x2, x3, x4, some (.loc s.length), x6, x7, x8, x9, x10, x11, x12, x13, x14] ∧ s1 = Sd s q bT m'.st m'.tc dp m'.kv) (fun s1 => ∃ st tc dp kv, s1 = Sd s q bT st tc dp kv) (mstep E C m i) := by
  refine ⟨_, _, p_gTup4 _ _ _ _ _ _ _ _ _ _, ?_⟩
  simp only [List.set]
  unfold mstep
  by_cases hkl : m.kv.length < 16000000
  case neg => rw [if_neg hkl]; exact True.intro
  rw [if_pos hkl]
  cases hg : gets m.kv i.ins with
  | none => exact True.intro
  | some g =>
    dsimp only
    have hc := gets_run (s := Sd s q bT m.st m.tc dp m.kv) (vI' := fun _ => .bad) 14 (e2 subI (eVar 5) (eVar 14)) [some (.loc q), x1, x2, x3, x4, some (.loc s.length), x6, x7, some (.t (.str i.nm)), some (.t i.ex), some (.t (li (ni i.ins))), some (.t (li (ni i.outs))), x12, x13, none] li i.ins g hg (fun r v hr => by
      simp only [List.set, p_e2, p_var5, p_ok, p_varS, p_var0]
      exact sd_get m.kv hr)
    have c1 := sd_cell (s := s) (q := q) (bT := bT) (st := m.st) (tc := m.tc) (dp := dp) hq m.kv
    have c2 := sd_cell (s := s) (q := q) (bT := bT) (st := ((m.st + 1 : Nat) : Int)) (tc := m.tc) (dp := dp) hq m.kv
    have s1 := mc_setS c1 ((m.st : Int) + 1)
    rw [sd_set hq] at s1
    have ee1 : ((m.st : Int) + 1) = ((m.st + 1 : Nat) : Int) := by omega
    rw [ee1] at s1
    have hw2 := sd_wf (q := q) (bT := bT) (st := ((m.st + 1 : Nat) : Int)) (tc := m.tc) (dp := dp) hw m.kv
    have pre : ∀ K : SM, sSeq (sAsg (eComp false [14] (iV (eVar 10)) (gVar 14) none (e2 subI (eVar 5) (eVar 14))) (gVar 12)) (sSeq (sAttr "steps" (e2 (addV false) (e1 (attrI "steps") (eVar 0)) (eC (.int 1))) (eVar 0)) K) [some (.loc q), x1, x2, x3, x4, some (.loc s.length), x6, x7, some (.t (.str i.nm)), some (.t i.ex), some (.t (li (ni i.ins))), some (.t (li (ni i.outs))), x12, x13, x14] (Sd s q bT m.st m.tc dp m.kv) =
        K [some (.loc q), x1, x2, x3, x4, some (.loc s.length), x6, x7, some (.t (.str i.nm)), some (.t i.ex), some (.t (li (ni i.ins))), some (.t (li (ni i.outs))), some (.t (lv g)), x13, x14] (Sd s q bT (m.st + 1 : Nat) m.tc dp m.kv) := fun K => by
      simp only [p_seq2, p_asgV, p_comp, p_iV, p_varS, p_var0, p_ok, li_iter, wipeE, List.set, hc, newL_t, p_sok, then_nx, sAttr, p_e2, p_e1, mc_steps c1, p_eC, p_add, ee1, s1]
    rw [pre]
    by_cases hn1 : i.nm = "call"
    · rw [if_pos hn1]
      have ht : (i.nm == "call") = true := by rw [hn1]; rfl
      simp only [p_if, p_tEq, p_varS, p_var0, p_ok, p_eC, p_eqS, ht, p_sok, if_true, p_for]
      cases hex : i.ex with
      | str f =>
        dsimp only
        have hC := hC f g
        have em : ∀ X1 X2, eMethI (Γ n) "Machine" "nested" 51 (eVar 0) [eVar 9, eVar 12] [some (.loc q), x1, x2, x3, x4, some (.loc s.length), x6, x7, some (.t (.str i.nm)), some (.t (.str f)), some (.t (li (ni i.ins))), some (.t (li (ni i.outs))), some (.t (lv g)), X1, X2] (Sd s q bT (m.st + 1 : Nat) m.tc dp m.kv) = Γ n 51 [.loc q, .t (.str f), .t (lv g)] (Sd s q bT (m.st + 1 : Nat) m.tc dp m.kv) := fun X1 X2 => by
          unfold eMethI
          rw [bind_eq, p_var0, bind_ok]
          dsimp only
          rw [c2, Mc_ty]
          dsimp only
          rw [if_pos ⟨rfl, rfl⟩, bind_eq]
          simp
        have ei : ∀ X1 X2, iEnum (eMethI (Γ n) "Machine" "nested" 51 (eVar 0) [eVar 9, eVar 12]) [some (.loc q), x1, x2, x3, x4, some (.loc s.length), x6, x7, some (.t (.str i.nm)), some (.t (.str f)), some (.t (li (ni i.ins))), some (.t (li (ni i.outs))), some (.t (lv g)), X1, X2] (Sd s q bT (m.st + 1 : Nat) m.tc dp m.kv) = (Γ n 51 [.loc q, .t (.str f), .t (lv g)] (Sd s q bT (m.st + 1 : Nat) m.tc dp m.kv)).bind fun v => match v with
            | .t (.lst ts) => pure (enumT 0 ts)
            | _ => bad := fun X1 X2 => by
          show (eMethI _ _ _ _ _ _ _ _).bind _ = _
          rw [em]
          all_goals rfl
        rw [ei]
        cases hr : C f g (m.st + 1) m.tc with
        | bad => exact True.intro
        | trap =>
          rw [hr] at hC
          obtain ⟨a, b, c, hC⟩ := hC
          rw [sd_set hq] at hC
          rw [hC]
          exact ⟨_, _, rfl, a, b, c, m.kv, rfl⟩
        | ok o =>
          obtain ⟨vs, st, tc⟩ := o
          rw [hr] at hC
          have hC : _ = _ := hC
          rw [sd_set hq] at hC
          rw [hC]
          dsimp only
          by_cases hl2 : m.kv.length + vs.length < 16000000
          case neg => rw [if_neg hl2]; exact True.intro
          rw [if_pos hl2]
          cases hp : puts m.kv i.outs vs with
          | none => exact True.intro
          | some kv' =>
            obtain ⟨F, f0, f1, fs⟩ := puts_step hp
            show Ends1 (forL (gTup [6, 7]) _ (enumT 0 (vs.map li)) _ _) _ _ _ _
            rw [enum_lv]
            generalize hcc : forL _ _ _ _ _ = o
            obtain ⟨ρ', s', rfl, y6, y7, rfl, rfl⟩ := for_ix hcc (fun j ρ s1 => ∃ y6 y7, ρ = [some (.loc q), x1, x2, x3, x4, some (.loc s.length), y6, y7, some (.t (.str i.nm)), some (.t (.str f)), some (.t (li (ni i.ins))), some (.t (li (ni i.outs))), some (.t (lv g)), x13, x14] ∧ s1 = Sd s q bT st tc dp (F j)) ⟨_, _, rfl, by rw [f0]⟩ (by
              rintro j hj ρ s1 ⟨y6, y7, rfl, rfl⟩
              obtain ⟨o, ho, hF, hFl⟩ := fs j hj
              have go : subI (.t (li (ni i.outs))) (iv (j : Nat)) (Sd s q bT st tc dp (F j)) = .ok (iv (o : Nat)) (Sd s q bT st tc dp (F j)) := lst_get (by rw [List.getElem?_map, List.getElem?_map, ho]; rfl) _
              have gp := sd_put (s := s) (q := q) (bT := bT) (st := st) (tc := tc) (dp := dp) (F j) (by omega) o (vs.getD j [])
              refine ⟨_, _, [some (.loc q), x1, x2, x3, x4, some (.loc s.length), some (iv (j : Nat)), some (.t (li (vs.getD j []))), some (.t (.str i.nm)), some (.t (.str f)), some (.t (li (ni i.ins))), some (.t (li (ni i.outs))), some (.t (lv g)), x13, x14], Sd s q bT st tc dp (F (j + 1)), p_gTup2 _ _ _ _ _ _, ?_, _, _, rfl, rfl⟩
              simp only [List.set, p_ssub, p_varS, p_var0, p_sok, p_e2, p_ok, go, gp, hF])
            exact ⟨_, _, rfl, _, _, _, _, _, _, _, _, _, rfl, by rw [f1]⟩
      | _ => exact True.intro
    · rw [if_neg hn1]
      have ht : (i.nm == "call") = false := by simpa using hn1
      have hx := hE n hn i.nm i.ex g _ hw2
      simp only [p_if, p_tEq, p_varS, p_var0, p_ok, p_eC, p_eqS, ht, p_sok, Bool.false_eq_true, if_false, p_seq2, p_asgV, p_call, p_vals, p_vals0]
      cases he : E i.nm i.ex g with
      | bad => exact True.intro
      | trap =>
        rw [he] at hx
        have hx : _ = _ := hx
        rw [hx]
        exact ⟨_, _, rfl, _, _, _, m.kv, rfl⟩
      | ok v =>
        rw [he] at hx
        have hx : _ = _ := hx
        rw [hx]
        dsimp only
        cases ho : i.outs with
        | nil => exact True.intro
        | cons o os =>
          have go : ∀ s, subI (.t (li (ni (o :: os)))) (.t (.int 0)) s = .ok (iv (o : Nat)) s := fun s => lst_get (k := 0) rfl s
          have gp := sd_put (s := s) (q := q) (bT := bT) (st := ((m.st + 1 : Nat) : Int)) (tc := ((m.tc + lens g + v.length : Nat) : Int)) (dp := dp) m.kv (by omega) o v
          have c3 := mc_setT c2 ((m.tc : Int) + (lens g : Nat) + (v.length : Nat))
          rw [sd_set hq, show ((m.tc : Int) + (lens g : Nat) + (v.length : Nat)) = ((m.tc + lens g + v.length : Nat) : Int) by omega] at c3
          have hsum : ∀ S0, e1 sumV (eComp false [7] (iV (eVar 12)) (gVar 7) none (e1 lenV (eVar 7))) [some (.loc q), x1, x2, x3, x4, some (.loc s.length), x6, x7, some (.t (.str i.nm)), some (.t i.ex), some (.t (li (ni i.ins))), some (.t (li (ni (o :: os)))), some (.t (lv g)), some (.t (li v)), x14] S0 = .ok (iv (lens g : Nat)) S0 := fun S0 => by
            have := comp_tt (i := 7) (f := e1 lenV (eVar 7)) (ρ := [some (.loc q), x1, x2, x3, x4, some (.loc s.length), x6, none, some (.t (.str i.nm)), some (.t i.ex), some (.t (li (ni i.ins))), some (.t (li (ni (o :: os)))), some (.t (lv g)), some (.t (li v)), x14]) (s := S0) li (fun w => T.int (w.length : Nat)) g (fun w _ => by simp [li_len])
            simp only [p_e1, p_comp, p_iV, p_varS, p_var0, p_ok, lst_iter, wipeE, List.set]
            rw [this, p_ok, show (g.map fun w => T.int ((w.length : Nat) : Int)) = (g.map fun w => ((w.length : Nat) : Int)).map T.int by rw [List.map_map]; rfl, li_sum, lens_cast]
          have hT : e2 (addV false) (e2 (addV false) (e1 (attrI "touches") (eVar 0)) (e1 sumV (eComp false [7] (iV (eVar 12)) (gVar 7) none (e1 lenV (eVar 7))))) (e1 lenV (eVar 13)) [some (.loc q), x1, x2, x3, x4, some (.loc s.length), x6, x7, some (.t (.str i.nm)), some (.t i.ex), some (.t (li (ni i.ins))), some (.t (li (ni (o :: os)))), some (.t (lv g)), some (.t (li v)), x14] (Sd s q bT (m.st + 1 : Nat) m.tc dp m.kv) = .ok (iv ((m.tc : Int) + (lens g : Nat) + (v.length : Nat))) (Sd s q bT (m.st + 1 : Nat) m.tc dp m.kv) := by
            rw [p_e2, p_e2, p_e1, p_var0, p_ok, mc_touches c2, p_ok, hsum, p_ok, p_add, p_ok, p_e1]
            simp only [p_varS, p_var0, p_ok, li_len, p_add]
          rw [ho] at *
          refine ⟨[some (.loc q), x1, x2, x3, x4, some (.loc s.length), x6, x7, some (.t (.str i.nm)), some (.t i.ex), some (.t (li (ni i.ins))), some (.t (li (ni (o :: os)))), some (.t (lv g)), some (.t (li v)), x14], _, ?_, _, _, _, _, _, _, _, _, _, rfl, rfl⟩
          rw [p_sok, then_nx, p_seq2]
          simp only [List.set, sAttr]
          rw [hT, p_sok, p_var0, p_sok, show ((m.tc : Int) + (lens g : Nat) + (v.length : Nat)) = ((m.tc + lens g + v.length : Nat) : Int) by omega, c3, p_sok, then_nx, p_ssub]
          simp only [p_varS, p_var0, p_sok, p_e2, p_ok, p_eC, go, gp]
end
end Fl
set_option Elab.async false
set_option linter.all false
set_option maxRecDepth 100000
/-! Fl: a call of the machine, a whole run. -/
namespace Fl
/-- the registers that a block begins with, the part laid -/
def initF (a : Vec) (r : List Vec) (j : Nat) : Regs := (List.range j).foldl (fun kv j => rput kv (j + 1) (r.getD j [])) [(0, a)]
theorem initF_succ (a : Vec) (r : List Vec) (j : Nat) : initF a r (j + 1) = rput (initF a r j) (j + 1) (r.getD j []) := by
  unfold initF
  rw [List.range_succ, List.foldl_append]; rfl
theorem initF_len (a : Vec) (r : List Vec) : ∀ j, (initF a r j).length ≤ j + 1
  | 0 => Nat.le_refl _
  | j + 1 => by
    rw [initF_succ]
    have := rput_len (initF a r j) (j + 1) (r.getD j [])
    have := initF_len a r j
    omega
section
variable {Γ : Nat → FEnv}
theorem li_listV (v : Vec) (s : Store) : listV false (.t (li v)) s = .ok (.t (li v)) s := listV_t _ s
theorem m_call {E : String → T → List Vec → Out Vec} (M : BaseMc Γ) (F : BaseF Γ) (Y : BaseL Γ) (hE : ExecOk Γ E) (bs : List Blk) (hbs : ∀ b ∈ bs, b.res.dep ≤ 15 ∧ b.res.wid ≤ 1000) : ∀ (d n : Nat), d ≤ 40 → 2 * d + 20 ≤ n → ∀ (f : String) (a : Vec) (r : List Vec) (st tc : Nat) (s : Store) (q : Nat), Wf s → s.cell q = some (Mc (bsT bs) st tc (40 - (d : Nat))) →
    MTold (Γ n 50 [.loc q, .t (.str f), .t (li a), .t (lv r)] s) s q (bsT bs) (40 - (d : Nat)) (mcall E bs d f a r st tc) := by
  intro d
  induction d with
  | zero =>
    intro n _ hn f a r st tc s q hw hq
    obtain ⟨n, rfl⟩ : ∃ m, n = m + 1 := ⟨n - 1, by omega⟩
    have hf := f_find F Blk.t Blk.nm b_nm (n - 1) bs f s hw
    rw [show n - 1 + 1 = n by omega] at hf
    obtain ⟨tv, hf⟩ : ∃ tv, Γ n 3 [.t (bsT bs), .t (.str f)] s = .ok (.t tv) s := ⟨_, hf⟩
    refine ⟨st, tc, 41, ?_⟩
    rw [M.Machine_call]
    have hq : s.cell q = some (Mc (bsT bs) st tc 40) := hq
    have d1 := mc_setD hq 41
    have hq2 := mc_set hq st tc 41
    refine fn_xS (s' := s.set q (some (Mc (bsT bs) st tc 41))) (ρ := ([some (.loc q), some (.t (.str f)), some (.t (li a)), some (.t (lv r)), some (.t tv), none, none, none, none, none, none, none, none, none, none] : Env)) ?_ rfl (mc_wf hw _ _ _) (by rw [List.length_set]) (by rw [List.take_of_length_le (by rw [List.length_set]; exact Nat.le_refl _)])
    simp [g_Machine_call, start, mc_blocks hq, hf, sAttr, mc_depth hq, d1, mc_depth hq2]
  | succ d ih =>
    intro n hd hn f a r st tc s q hw hq
    obtain ⟨n, rfl⟩ : ∃ m, n = m + 2 := ⟨n - 2, by omega⟩
    unfold mcall
    have hf := f_find F Blk.t Blk.nm b_nm n bs f s hw
    cases hb : bs.find? fun b => b.nm == f with
    | none => exact True.intro
    | some b =>
      rw [hb] at hf
      dsimp only at hf ⊢
      by_cases hrl : r.length < 15000000
      case neg => rw [if_neg hrl]; exact True.intro
      rw [if_pos hrl]
      have hqs := cell_lt hq
      have edp : (40 - ((d + 1 : Nat) : Int)) + 1 = 40 - (d : Nat) := by omega
      have d1 := mc_setD hq (40 - (d : Nat))
      have hq2 := mc_set hq st tc (40 - (d : Nat))
      have hnt : ¬ (40 : Int) < 40 - (d : Nat) := by omega
      -- the first part
      have e0 : start 15 [.loc q, .t (.str f), .t (li a), .t (lv r)] = [some (.loc q), some (.t (.str f)), some (.t (li a)), some (.t (lv r)), none, none, none, none, none, none, none, none, none, none, none] := rfl
      have cellSet : ∀ st' tc' : Nat, (s.set q (some (Mc (bsT bs) st tc (40 - (d : Nat))))).set q (some (Mc (bsT bs) st' tc' (40 - (d : Nat)))) = s.set q (some (Mc (bsT bs) st' tc' (40 - (d : Nat)))) := fun _ _ => List.set_set ..
      have lenS : (s.set q (some (Mc (bsT bs) st tc (40 - (d : Nat))))).length = s.length := List.length_set ..
      have newD1 : ∀ S : Store, newD true (dmerge [] [(Key.i 0, .t (li a))]) S = .ok (.loc S.length) (S ++ [some (.dct (rv [(0, a)]))]) := fun S => rfl
      have hen : ∀ X, iEnum (eVar 3) (some (.loc q) :: some (.t (.str f)) :: some (.t (li a)) :: some (.t (lv r)) :: X) (Sd s q (bsT bs) st tc (40 - (d : Nat)) [(0, a)]) = .ok ((List.range r.length).map fun k => Val.t (.tup [.int (k : Nat), li (r.getD k [])])) (Sd s q (bsT bs) st tc (40 - (d : Nat)) [(0, a)]) := fun X => by
        show R.ok (enumT 0 (r.map li)) _ = _
        rw [enum_lv]
      have hloop := for_out (g := gTup [8, 9, 10, 11]) (b := sSeq (sAsg (eComp false [14] (iV (eVar 10)) (gVar 14) none (e2 subI (eVar 5) (eVar 14))) (gVar 12)) (sSeq (sAttr "steps" (e2 (addV false) (e1 (attrI "steps") (eVar 0)) (eC (.int 1))) (eVar 0)) (sIf (tEq (eVar 8) (eC (.str "call"))) (sFor (iEnum (eMethI (Γ (n + 1)) "Machine" "nested" 51 (eVar 0) [eVar 9, eVar 12])) (gTup [6, 7]) (sSub (eVar 7) (eVar 5) (e2 subI (eVar 11) (eVar 6)))) (sSeq (sAsg (eCall (Γ (n + 1)) 34 [eVar 8, eVar 9, eVar 12]) (gVar 13)) (sSeq (sAttr "touches" (e2 (addV false) (e2 (addV false) (e1 (attrI "touches") (eVar 0)) (e1 sumV (eComp false [7] (iV (eVar 12)) (gVar 7) none (e1 lenV (eVar 7))))) (e1 lenV (eVar 13))) (eVar 0)) (sSub (eVar 13) (eVar 5) (e2 subI (eVar 11) (eC (.int 0)))))))))
        (iw := fun i : Ins => Val.t i.t) (mstep E (nestd (mcall E bs d) bs)) trap (fun m' ρ s1 => ∃ x6 x7 x8 x9 x10 x11 x12 x13 x14, ρ = [some (.loc q), some (.t (.str f)), some (.t (li a)), some (.t (lv r)), some (.t b.t), some (.loc s.length), x6, x7, x8, x9, x10, x11, x12, x13, x14] ∧ s1 = Sd s q (bsT bs) m'.st m'.tc (40 - (d : Nat)) m'.kv) (fun s1 => ∃ st tc dp kv, s1 = Sd s q (bsT bs) st tc dp kv) b.code (by
          rintro i hi m ρ s1 ⟨x6, x7, x8, x9, x10, x11, x12, x13, x14, rfl, rfl⟩
          exact m_step M hE (bsT bs) (n + 1) (by omega) _ s q hw hqs none _ _ _ _ i m x6 x7 x8 x9 x10 x11 x12 x13 x14 (fun f g => m_nest (Γ := Γ) M F Y bs hbs n (by omega) _ f g _ _ _ q (sd_wf hw _) (sd_cell hqs _) fun a r hg => ih n (by omega) (by omega) f a r _ _ _ q (sd_wf hw _) (sd_cell hqs _)))
      -- up to the loop
      have up : ∃ x6 x7, ∀ K : SM, (sSeq (sAsg (eCall (Γ (n + 1)) 3 [e1 (attrI "blocks") (eVar 0), eVar 1]) (gVar 4)) (sSeq (sAttr "depth" (e2 (addV false) (e1 (attrI "depth") (eVar 0)) (eC (.int 1))) (eVar 0)) (sSeq (sIf (tGt (e1 (attrI "depth") (eVar 0)) (eC (.int 40))) (sRaise "TrapError") (sNil)) (sSeq (sAsg (eDct true [(eC (.int 0), e1 (listV false) (eVar 2))]) (gVar 5)) (sSeq (sFor (iEnum (eVar 3)) (gTup [6, 7]) (sSub (e1 (listV false) (eVar 7)) (eVar 5) (e2 (addV false) (eVar 6) (eC (.int 1))))) K)))))
          [some (.loc q), some (.t (.str f)), some (.t (li a)), some (.t (lv r)), none, none, none, none, none, none, none, none, none, none, none] s = K [some (.loc q), some (.t (.str f)), some (.t (li a)), some (.t (lv r)), some (.t b.t), some (.loc s.length), x6, x7, none, none, none, none, none, none, none] (Sd s q (bsT bs) st tc (40 - (d : Nat)) (inits a r)) := by
        have hl : ∃ x6 x7, forL (gTup [6, 7]) (sSub (e1 (listV false) (eVar 7)) (eVar 5) (e2 (addV false) (eVar 6) (eC (.int 1)))) ((List.range r.length).map fun k => Val.t (.tup [.int (k : Nat), li (r.getD k [])])) [some (.loc q), some (.t (.str f)), some (.t (li a)), some (.t (lv r)), some (.t b.t), some (.loc s.length), none, none, none, none, none, none, none, none, none] (Sd s q (bsT bs) st tc (40 - (d : Nat)) [(0, a)]) = .nx [some (.loc q), some (.t (.str f)), some (.t (li a)), some (.t (lv r)), some (.t b.t), some (.loc s.length), x6, x7, none, none, none, none, none, none, none] (Sd s q (bsT bs) st tc (40 - (d : Nat)) (inits a r)) := by
          generalize hc : forL _ _ _ _ _ = o
          obtain ⟨ρ', s', rfl, x6, x7, rfl, rfl⟩ := for_ix hc (fun j ρ s1 => ∃ x6 x7, ρ = [some (.loc q), some (.t (.str f)), some (.t (li a)), some (.t (lv r)), some (.t b.t), some (.loc s.length), x6, x7, none, none, none, none, none, none, none] ∧ s1 = Sd s q (bsT bs) st tc (40 - (d : Nat)) (initF a r j)) ⟨none, none, rfl, rfl⟩ (by
            rintro j hj ρ s1 ⟨x6, x7, rfl, rfl⟩
            have gp := sd_put (s := s) (q := q) (bT := bsT bs) (st := st) (tc := tc) (dp := 40 - (d : Nat)) (initF a r j) (by have := initF_len a r j; omega) (j + 1) (r.getD j [])
            rw [show ((j + 1 : Nat) : Int) = (j : Int) + 1 by omega] at gp
            refine ⟨_, _, [some (.loc q), some (.t (.str f)), some (.t (li a)), some (.t (lv r)), some (.t b.t), some (.loc s.length), some (iv (j : Nat)), some (.t (li (r.getD j []))), none, none, none, none, none, none, none], _, p_gTup2 _ _ _ _ _ _, ?_, _, _, rfl, rfl⟩
            rw [initF_succ]
            simp only [List.set, p_ssub, p_e1, p_varS, p_var0, p_ok, li_listV, p_sok, p_e2, p_eC, p_add, gp])
          exact ⟨x6, x7, rfl⟩
        obtain ⟨x6, x7, hl⟩ := hl
        refine ⟨x6, x7, fun K => ?_⟩
        have t1 : (decide ((40 : Int) < 40 - (d : Nat))) = false := decide_eq_false hnt
        simp only [p_seq2, p_asgV, p_call, p_vals, p_vals0, p_e1, p_var0, p_ok, mc_blocks hq, p_varS, hf, p_sok, List.set, then_nx, sAttr, p_e2, mc_depth hq, p_eC, p_add, edp, d1, p_if, p_tGt, mc_depth hq2, p_lt, t1, Bool.false_eq_true, if_false, p_nil, p_dct, p_prs, p_prs0, li_listV, keyOf, p_pure, newD1, lenS, p_for, hen, hl]
      obtain ⟨x6, x7, up⟩ := up
      have hl := hloop ⟨inits a r, st, tc⟩ _ _ ⟨x6, x7, none, none, none, none, none, none, none, rfl, rfl⟩
      cases hm : foldO (mstep E (nestd (mcall E bs d) bs)) ⟨inits a r, st, tc⟩ b.code with
      | bad => exact True.intro
      | trap =>
        rw [hm] at hl
        obtain ⟨ρ, s1, h1, st', tc', dp', kv, rfl⟩ := hl
        refine ⟨st', tc', dp', ?_⟩
        rw [M.Machine_call]
        refine fn_xS (s' := Sd s q (bsT bs) st' tc' dp' kv) (ρ := ρ) ?_ rfl (mc_wf hw _ _ _) (by rw [List.length_set]) (by rw [List.take_append_of_le_length (by rw [List.length_set]; exact Nat.le_refl _), List.take_of_length_le (by rw [List.length_set]; exact Nat.le_refl _)])
        rw [e0]
        unfold g_Machine_call
        rw [up]
        simp only [p_seq2, p_for, p_iV, p_e2, p_varS, p_var0, p_ok, p_eC, b_code, lst_iter, List.map_map, p_sok]
        have h1' : forL _ _ (b.code.map (Val.t ∘ Ins.t)) _ _ = _ := h1
        rw [h1']
        rfl
      | ok m =>
        rw [hm] at hl
        obtain ⟨ρ, s1, h1, y6, y7, y8, y9, y10, y11, y12, y13, y14, rfl, rfl⟩ := hl
        dsimp only
        cases hg : gets m.kv b.outs with
        | none => exact True.intro
        | some vs =>
          show _ = _
          rw [M.Machine_call]
          have hfz := sd_frz (s := s) (q := q) (bT := bsT bs) (st := m.st) (tc := m.tc) (dp := 40 - (d : Nat)) m.kv
          have hc0 : Store.cell (s.set q (some (Mc (bsT bs) m.st m.tc (40 - (d : Nat)))) ++ [none]) q = some (Mc (bsT bs) m.st m.tc (40 - (d : Nat))) := by
            rw [cell_app, List.length_set, if_neg (by omega), cell_set hqs, if_pos rfl]
          have d2 := mc_setD hc0 (40 - ((d + 1 : Nat) : Int))
          rw [List.set_append_left _ _ (by rw [List.length_set]; exact hqs), List.set_set] at d2
          have edm : (40 - (d : Nat) : Int) - 1 = 40 - ((d + 1 : Nat) : Int) := by omega
          refine fn_tS (s' := s.set q (some (Mc (bsT bs) m.st m.tc (40 - ((d + 1 : Nat) : Int)))) ++ [none]) ?_ rfl (mc_wf hw _ _ _) (by rw [List.length_set]) (by rw [List.take_append_of_le_length (by rw [List.length_set]; exact Nat.le_refl _), List.take_of_length_le (by rw [List.length_set]; exact Nat.le_refl _)])
          rw [e0]
          unfold g_Machine_call
          rw [up]
          simp only [p_seq2, p_for, p_iV, p_e2, p_varS, p_var0, p_ok, p_eC, b_code, lst_iter, List.map_map, p_sok]
          have h1' : forL _ _ (b.code.map (Val.t ∘ Ins.t)) _ _ = _ := h1
          rw [h1']
          have hsf : sFz 5 [some (.loc q), some (.t (.str f)), some (.t (li a)), some (.t (lv r)), some (.t b.t), some (.loc s.length), y6, y7, y8, y9, y10, y11, y12, y13, y14] (Sd s q (bsT bs) m.st m.tc (40 - (d : Nat)) m.kv) = .nx [some (.loc q), some (.t (.str f)), some (.t (li a)), some (.t (lv r)), some (.t b.t), some (.t (.dct (m.kv.map fun p => (Key.i (p.1 : Nat), li p.2)))), y6, y7, y8, y9, y10, y11, y12, y13, y14] (s.set q (some (Mc (bsT bs) m.st m.tc (40 - (d : Nat)))) ++ [none]) := by
            show (match freeze (.loc s.length) _ with | .ok v s' => SO.nx _ s' | _ => _) = _
            rw [hfz]
            rfl
          have hgr := fun x14 => gets_run (s := s.set q (some (Mc (bsT bs) m.st m.tc (40 - ((d + 1 : Nat) : Int)))) ++ [none]) (vI' := fun _ => .bad) 14 (e1 (listV false) (e2 subI (eVar 5) (eVar 14))) [some (.loc q), some (.t (.str f)), some (.t (li a)), some (.t (lv r)), some (.t b.t), some (.t (.dct (m.kv.map fun p => (Key.i (p.1 : Nat), li p.2)))), y6, y7, y8, y9, y10, y11, y12, y13, x14] li b.outs vs hg (fun r' v hr => by
            simp only [List.set, p_e1, p_e2, p_varS, p_var0, p_ok, dt_get m.kv _ hr, li_listV])
          simp only [then_nx, hsf, p_seq2, sAttr, p_e2, p_e1, p_var0, p_ok, mc_depth hc0, p_eC, p_sub, edm, p_sok, d2, p_ret, p_comp, p_iV, p_varS, b_outs, li_iter, wipeE, List.set, hgr, newL_t]
end
end Fl
set_option Elab.async false
set_option linter.all false
set_option maxRecDepth 100000
/-! Fl: run. -/
namespace Fl
section
variable {Γ : Nat → FEnv}
/-- a new machine -/
theorem m_new (M : BaseMc Γ) (n : Nat) (bT : T) (s : Store) (hw : Wf s) (ρ : Env) (e : CE) (he : e ρ s = .ok (.t bT) s) : eNew (Γ (n + 2)) "Machine" 49 [e] ρ s = .ok (.loc s.length) (s ++ [some (Mc bT 0 0 0)]) := by
  have h : Γ (n + 2) 49 [.loc s.length, .t bT] (s ++ [some (.ins "Machine" [])]) = .ok (.t .non) (s ++ [some (Mc bT 0 0 0)]) := by
    rw [M.Machine___init__]
    have c0 : ∀ fs : List (String × Val), Store.cell (s ++ [some (.ins "Machine" fs)]) s.length = some (.ins "Machine" fs) := fun fs => e_cell _
    have st : ∀ (fs : List (String × Val)) (f : String) (v : Val), fs.length < 100 → setAttr f (.loc s.length) v (s ++ [some (.ins "Machine" fs)]) = .ok () (s ++ [some (.ins "Machine" (fput fs f v))]) := fun fs f v hl => by
      unfold setAttr
      dsimp only
      rw [c0]
      dsimp only
      rw [if_pos hl]
      simp
    have w2 : Wf (s ++ [some (Mc bT 0 0 0)]) := hw.app fun c hc => by
      simp only [List.mem_singleton] at hc
      subst hc
      simp [Cell.below, Val.below]
    unfold mkFn
    rw [if_pos (show [Val.loc s.length, Val.t bT].length = 2 from rfl)]
    have e0 : start 2 [.loc s.length, .t bT] = [some (.loc s.length), some (.t bT)] := rfl
    rw [e0]
    have r : g_Machine___init__ (Γ (n + 1)) [some (.loc s.length), some (.t bT)] (s ++ [some (.ins "Machine" [])]) = .nx [some (.loc s.length), some (.t bT)] (s ++ [some (Mc bT 0 0 0)]) := by
      simp only [g_Machine___init__, p_seq2, sAttr, p_varS, p_var0, p_sok, p_eC]
      rw [st _ _ _ (by simp [fput]), p_sok, then_nx]
      simp only [p_seq2, sAttr, p_varS, p_var0, p_sok, p_eC]
      rw [st _ _ _ (by simp [fput]), p_sok, then_nx]
      simp only [p_seq2, sAttr, p_varS, p_var0, p_sok, p_eC]
      rw [st _ _ _ (by simp [fput]), p_sok, then_nx]
      simp only [p_seq2, sAttr, p_varS, p_var0, p_sok, p_eC]
      rw [st _ _ _ (by simp [fput]), p_sok]
      rfl
    rw [r]
    show R.ok vN (trim (s ++ [some (Cell.ins "Machine" [])]).length (s ++ [some (Mc bT 0 0 0)])) = _
    rw [trim_same (by simp)]
    rfl
  unfold eNew
  rw [bind_eq]
  simp only [p_vals, p_vals0, he, p_ok]
  rw [h]
  rfl
theorem m_run (M : BaseMc Γ) (F : BaseF Γ) (Y : BaseL Γ) (hE : ExecOk Γ exec) (bs : List Blk) (hbs : ∀ b ∈ bs, b.res.dep ≤ 15 ∧ b.res.wid ≤ 1000) (n : Nat) (hn : 110 ≤ n) (f : String) (b : Blk) (hb : (bs.find? fun b => b.nm == f) = some b) (hg1 : b.giv.dep ≤ 15) (hg2 : b.giv.wid ≤ 1000) (xs : List b.giv.V) (hx : b.giv.Fit xs)
    (hres : ∀ vs st tc, nestd (mcall exec bs 40) bs f (rg xs.length :: b.giv.vecs xs) 0 0 = .ok (vs, st, tc) → ∃ ys, vs = b.res.vecs ys ∧ b.res.Fit ys) (s : Store) (hw : Wf s) :
    match nestd (mcall exec bs 40) bs f (rg xs.length :: b.giv.vecs xs) 0 0 with
    | .ok (vs, st, tc) => ∀ ys, vs = b.res.vecs ys → b.res.Fit ys → Γ n 52 [.t (bsT bs), .t (.str f), .t (.lst (xs.map b.giv.e))] s = .ok (.t (.tup [.lst (ys.map b.res.e), .int st, .int tc])) s
    | .trap => Γ n 52 [.t (bsT bs), .t (.str f), .t (.lst (xs.map b.giv.e))] s = .exc trap s
    | .bad => True := by
  obtain ⟨n, rfl⟩ : ∃ m, n = m + 3 := ⟨n - 3, by omega⟩
  have hmem := List.mem_of_find?_eq_some hb
  obtain ⟨hr1, hr2⟩ := hbs b hmem
  have hf := f_find F Blk.t Blk.nm b_nm (n + 1) bs f s hw
  rw [hb] at hf
  dsimp only at hf
  have hnew := fun X => m_new M n (bsT bs) s hw ([some (.t (bsT bs)), some (.t (.str f)), some (.t (.lst (xs.map b.giv.e))), some (.t b.t), X, none, none] : Env) (eVar 0) rfl
  have w1 : Wf (s ++ [some (Mc (bsT bs) 0 0 0)]) := hw.app fun c hc => by
    simp only [List.mem_singleton] at hc
    subst hc
    simp [Cell.below, Val.below]
  have c1 : Store.cell (s ++ [some (Mc (bsT bs) 0 0 0)]) s.length = some (Mc (bsT bs) 0 0 0) := e_cell _
  have hv := l_vecs Y b.giv (n + 2) xs (by omega) (by omega) hx _ w1
  have hlen := hx.len
  have hrg : ∀ S, rangeL false (iv (xs.length : Nat)) S = .ok (.t (li (rg xs.length))) S := fun S => by
    show (getInt (iv (xs.length : Nat)) >>= fun i => if cdec (0 ≤ i ∧ i ≤ 16777216) = true then newL false (upto 0 i.toNat) else bad) S = _
    rw [bind_eq]
    show (if cdec (0 ≤ ((xs.length : Nat) : Int) ∧ ((xs.length : Nat) : Int) ≤ 16777216) = true then newL false (upto 0 ((xs.length : Nat) : Int).toNat) else bad) S = _
    rw [if_pos (by rw [cdec_iff]; omega), upto_eq, Int.toNat_natCast]
    have : ((List.range xs.length).map fun (k : Nat) => iv (0 + (k : Int))) = (rg xs.length).map iv := by
      unfold rg; rw [List.map_map]
      refine List.map_congr_left fun k _ => ?_
      simp
    rw [this, li_new]
  have ha : ∀ S, addV false (.t (.lst [li (rg xs.length)])) (.t (lv (b.giv.vecs xs))) S = .ok (.t (lv (rg xs.length :: b.giv.vecs xs))) S := fun S => by
    rw [add_tt _ _ _ _ (by rw [List.length_map, Kd.vecs_len]; show 1 + _ ≤ 16777216; omega), newL_t]
    rfl
  have hN := m_nest (C := mcall exec bs 40) M F Y bs hbs (n + 1) (by omega) 0 f (rg xs.length :: b.giv.vecs xs) 0 0 _ s.length w1 c1 fun a r hg => by
    have := m_call M F Y hE bs hbs 40 (n + 1) (by omega) (by omega) f a r 0 0 (s ++ [some (Mc (bsT bs) 0 0 0)]) s.length w1 c1
    exact this
  have hcl := c1
  rw [Mc_ty] at hcl
  have em : ∀ X, eMethI (Γ (n + 2)) "Machine" "nested" 51 (eVar 4) [eVar 1, e2 (addV false) (eLst false [e1 (rangeL false) (e1 lenV (eVar 2))]) (eVar 5)] [some (.t (bsT bs)), some (.t (.str f)), some (.t (.lst (xs.map b.giv.e))), some (.t b.t), some (.loc s.length), some (.t (lv (b.giv.vecs xs))), X] (s ++ [some (Mc (bsT bs) 0 0 0)]) = Γ (n + 2) 51 [.loc s.length, .t (.str f), .t (lv (rg xs.length :: b.giv.vecs xs))] (s ++ [some (Mc (bsT bs) 0 0 0)]) := fun X => by
    unfold eMethI
    rw [bind_eq]
    simp only [p_varS, p_var0, p_ok]
    rw [hcl]
    dsimp only
    rw [if_pos ⟨rfl, rfl⟩, bind_eq]
    simp only [p_vals, p_vals0, p_varS, p_var0, p_ok, p_e2, p_lst, p_e1, lst_len, List.length_map, hrg, newL1, ha]
  have e0 : start 7 [.t (bsT bs), .t (.str f), .t (.lst (xs.map b.giv.e))] = [some (.t (bsT bs)), some (.t (.str f)), some (.t (.lst (xs.map b.giv.e))), none, none, none, none] := rfl
  cases hc : nestd (mcall exec bs 40) bs f (rg xs.length :: b.giv.vecs xs) 0 0 with
  | bad => exact True.intro
  | trap =>
    rw [hc] at hN
    obtain ⟨st, tc, dp, hN⟩ := hN
    show _ = _
    rw [M.run]
    refine fn_Rx rfl hw ⟨[some (.t (bsT bs)), some (.t (.str f)), some (.t (.lst (xs.map b.giv.e))), some (.t b.t), some (.loc s.length), some (.t (lv (b.giv.vecs xs))), none], (s ++ [some (Mc (bsT bs) 0 0 0)]).set s.length (some (Mc (bsT bs) st tc dp)), ?_, ?_⟩
    · rw [e0]
      simp only [g_run, p_seq2, p_asgV, p_call, p_vals, p_vals0, p_varS, p_var0, p_ok, hf, p_sok, List.set, then_nx, hnew, p_e2, p_eC, b_giv, hv, em, hN]
      rfl
    · rw [List.set_append_right _ _ (Nat.le_refl _), List.take_append_of_le_length (Nat.le_refl _), List.take_length]
  | ok o =>
    obtain ⟨vs, st, tc⟩ := o
    rw [hc] at hN
    have hN : _ = _ := hN
    intro ys hy hfy
    subst hy
    rw [M.run]
    have eset : (s ++ [some (Mc (bsT bs) 0 0 0)]).set s.length (some (Mc (bsT bs) st tc 0)) = s ++ [some (Mc (bsT bs) st tc 0)] := by
      rw [List.set_append_right _ _ (Nat.le_refl _), Nat.sub_self]; rfl
    rw [eset] at hN
    have w2 : Wf (s ++ [some (Mc (bsT bs) st tc 0)]) := hw.app fun c hc => by
      simp only [List.mem_singleton] at hc
      subst hc
      simp [Cell.below, Val.below]
    have c2 : Store.cell (s ++ [some (Mc (bsT bs) st tc 0)]) s.length = some (Mc (bsT bs) st tc 0) := e_cell _
    have hvals := l_vals Y b.res (n + 2) ys (by omega) (by omega) hfy _ w2
    refine fn_Rt rfl hw ⟨s ++ [some (Mc (bsT bs) st tc 0)], ?_, take_app List.take_length⟩
    rw [e0]
    simp only [g_run, p_seq2, p_asgV, p_call, p_vals, p_vals0, p_varS, p_var0, p_ok, hf, p_sok, List.set, then_nx, hnew, p_e2, p_eC, b_giv, hv, em, hN, p_ret, p_tup, b_res, hvals, p_e1, mc_steps c2, mc_touches c2, newT3]
end
end Fl
set_option Elab.async false
set_option linter.all false
set_option maxRecDepth 100000
/-! Fl: the drawing of code and of blocks. -/
namespace Fl
noncomputable section
def g_w_code (G : FEnv) : SM := sSeq (sAsg (eLst true []) (gVar 2)) (sSeq (sAsg (eCompR true [4] (iRange1 (eVar 1)) (gVar 4) none (eVar 4)) (gVar 3)) (sSeq (sAsg (eVar 1) (gVar 5)) (sSeq (sSeq (sSeq (sFor (iRange1 (eCall G 75 [eVar 0, eC (.int 12)])) (gVar 4) (sSeq (sAsg (eCall G 76 [eVar 0, eLst false [eC (.str "fill"), eC (.str "calc"), eC (.str "calc"), eC (.str "flags"), eC (.str "range"), eC (.str "same"), eC (.str "join"), eC (.str "calc"), eC (.str "div")]]) (gVar 6)) (sSeq (sAsg (eCall G 76 [eVar 0, eVar 3]) (gVar 7)) (sSeq (sAsg (eCall G 76 [eVar 0, eVar 3]) (gVar 8)) (sSeq (sIf (tEq (eVar 6) (eC (.str "fill"))) (sExpr (e2c lstC appendV (eVar 2) (eTup false [eC (.str "fill"), eCall G 75 [eVar 0, eC (.int 3)], eLst false [eVar 7], eLst false [eVar 5]]))) (sIf (tEq (eVar 6) (eC (.str "calc"))) (sExpr (e2c lstC appendV (eVar 2) (eTup false [eC (.str "calc"), eCall G 76 [eVar 0, eLst false [eC (.str "+"), eC (.str "-"), eC (.str "*"), eC (.str "<"), eC (.str "=")]], eLst false [eVar 7, eVar 8], eLst false [eVar 5]]))) (sIf (tEq (eVar 6) (eC (.str "div"))) (sExpr (e2c lstC appendV (eVar 2) (eTup false [eC (.str "calc"), eCall G 76 [eVar 0, eLst false [eC (.str "/"), eC (.str "mod")]], eLst false [eVar 7, eVar 8], eLst false [eVar 5]]))) (sIf (tEq (eVar 6) (eC (.str "join"))) (sSeq (sExpr (e2c lstC appendV (eVar 2) (eTup false [eC (.str "join"), eC .non, eLst false [eVar 7, eVar 8], eLst false [eVar 5]]))) (sSeq (sExpr (e2c lstC appendV (eVar 2) (eTup false [eC (.str "fill"), eC (.int 1), eLst false [eVar 7], eLst false [e2 (addV false) (eVar 5) (eC (.int 1))]]))) (sAsg (e2 (addV false) (eVar 5) (eC (.int 1))) (gVar 5)))) (sIf (tEq (eVar 6) (eC (.str "same"))) (sExpr (e2c lstC appendV (eVar 2) (eTup false [eC (.str "same"), eC .non, eLst false [eVar 7, eVar 8], eLst false [eVar 5]]))) (sExpr (e2c lstC appendV (eVar 2) (eTup false [eVar 6, eC .non, eLst false [eVar 7], eLst false [eVar 5]])))))))) (sSeq (sExpr (e2c lstC appendV (eVar 3) (eVar 5))) (sSeq (sAsg (e2 (addV false) (eVar 5) (eC (.int 1))) (gVar 5)) (sIf (tAnd (tEq (eCall G 75 [eVar 0, eC (.int 4)]) (eC (.int 0))) (tGt (e1 lenV (eVar 2)) (eC (.int 0)))) (sSeq (sAsg (eCall G 76 [eVar 0, eVar 2]) (gVar 9)) (sSeq (sExpr (e2c lstC appendV (eVar 2) (eTup false [e2 subI (eVar 9) (eC (.int 0)), e2 subI (eVar 9) (eC (.int 1)), e1 (listV false) (e2 subI (eVar 9) (eC (.int 2))), eLst false [eVar 5]]))) (sAsg (e2 (addV false) (eVar 5) (eC (.int 1))) (gVar 5)))) (sNil))))))))) (sFz 2)) (sFz 3)) (sRet (eLst false [eVar 2, eVar 3])))))
def g_w_blocks (G : FEnv) : SM := sSeq (sAsg (eCall G 112 [eVar 0, eC (.int 3)]) (gTup [1, 2])) (sSeq (sAsg (eLst false [eCall G 76 [eVar 0, eVar 2]]) (gVar 3)) (sSeq (sAsg (eTup false [eC (.str "pair"), eTup false [eC (.str "num")], eTup false [eC (.str "num")]]) (gVar 4)) (sSeq (sAsg (eTup false [eC (.str "block"), eC (.str "main"), eVar 4, eTup false [eC (.str "num")], eVar 1, eVar 3]) (gVar 5)) (sSeq (sAsg (eCall G 112 [eVar 0, eC (.int 3)]) (gVar 6)) (sSeq (sAsg (eTup false [eC (.str "block"), eC (.str "other"), eVar 4, eTup false [eC (.str "num")], e2 subI (eVar 6) (eC (.int 0)), eLst false [eCall G 76 [eVar 0, e2 subI (eVar 6) (eC (.int 1))]]]) (gVar 7)) (sSeq (sAsg (e2 (addV false) (eC (.int 1)) (e1 maxV (e2 (addV false) (e2 (addV false) (eLst false [eC (.int 0)]) (eComp false [9] (iV (eVar 1)) (gVar 9) none (e2 subI (e2 subI (eVar 9) (eC (.int 3))) (eC (.int 0))))) (eLst false [eC (.int 2)])))) (gVar 8)) (sSeq (sIf (tEq (eCall G 75 [eVar 0, eC (.int 2)]) (eC (.int 0))) (sSeq (sAsg (eTup false [eC (.str "call"), eC (.str "other"), eLst false [eC (.int 0), eCall G 76 [eVar 0, eVar 2], eCall G 76 [eVar 0, eVar 2]], eLst false [eVar 8]]) (gVar 10)) (sAsg (eTup false [eC (.str "block"), eC (.str "main"), eVar 4, eTup false [eC (.str "num")], e2 (addV false) (eVar 1) (eLst false [eVar 10]), eLst false [eCall G 76 [eVar 0, eLst false [eVar 8, e2 subI (eVar 3) (eC (.int 0))]]]]) (gVar 5))) (sNil)) (sRet (eLst false [eVar 5, eVar 7])))))))))
end
structure BaseC (Γ : Nat → FEnv) : Prop where
  w_code : ∀ n, Γ (n + 1) 112 = mkFn 10 2 (g_w_code (Γ n))
  w_blocks : ∀ n, Γ (n + 1) 113 = mkFn 11 1 (g_w_blocks (Γ n))
/-- the instructions that are drawn -/
inductive Frm : Ins → Prop
  | fill (k : Nat) (h : k < 3) (a : Nat) (os : List Nat) : Frm ⟨"fill", .int (k : Nat), [a], os⟩
  | flags (a : Nat) (os : List Nat) : Frm ⟨"flags", .non, [a], os⟩
  | range (a : Nat) (os : List Nat) : Frm ⟨"range", .non, [a], os⟩
  | calc (x : String) (h : x ∈ ["+", "-", "*", "<", "=", "/", "mod"]) (a b : Nat) (os : List Nat) : Frm ⟨"calc", .str x, [a, b], os⟩
  | same (a b : Nat) (os : List Nat) : Frm ⟨"same", .non, [a, b], os⟩
  | join (a b : Nat) (os : List Nat) : Frm ⟨"join", .non, [a, b], os⟩
theorem Frm.outs {i : Ins} (h : Frm i) (os : List Nat) : Frm { i with outs := os } := by
  cases h
  · exact .fill _ ‹_› _ _
  · exact .flags _ _
  · exact .range _ _
  · exact .calc _ ‹_› _ _ _
  · exact .same _ _ _
  · exact .join _ _ _
structure Cok (code : List Ins) (safe : List Nat) : Prop where
  frm : ∀ i ∈ code, Frm i
  out : ∀ k i, code[k]? = some i → i.outs = [3 + k]
  ins : ∀ k i, code[k]? = some i → ∀ r ∈ i.ins, r ∈ safe ∧ r < 3 + k
  saf : ∀ r ∈ safe, r < 3 + code.length
  nj : ∀ k i, code[k]? = some i → 3 + k ∈ safe → i.nm ≠ "join"
  z : 0 ∈ safe ∧ 1 ∈ safe ∧ 2 ∈ safe
theorem Cok.add {code : List Ins} {safe : List Nat} (h : Cok code safe) {i : Ins} (hf : Frm i) (ho : i.outs = [3 + code.length]) (hi : ∀ r ∈ i.ins, r ∈ safe) : Cok (code ++ [i]) safe := by
  have get : ∀ k j, (code ++ [i])[k]? = some j → code[k]? = some j ∨ (k = code.length ∧ j = i) := fun k j e => by
    rcases Nat.lt_or_ge k code.length with hk | hk
    · rw [List.getElem?_append_left hk] at e
      exact .inl e
    · rw [List.getElem?_append_right hk] at e
      obtain ⟨hlt, e⟩ := List.getElem?_eq_some_iff.mp e
      have : k - code.length = 0 := by simpa using hlt
      refine .inr ⟨by omega, ?_⟩
      rw [← e]
      simp
  refine ⟨fun j hj => ?_, fun k j e => ?_, fun k j e r hr => ?_, fun r hr => ?_, fun k j e hs => ?_, h.z⟩
  · rcases List.mem_append.mp hj with hj | hj
    · exact h.frm j hj
    · rw [List.mem_singleton.mp hj]; exact hf
  · rcases get k j e with e | ⟨rfl, rfl⟩
    · exact h.out k j e
    · exact ho
  · rcases get k j e with e | ⟨rfl, rfl⟩
    · exact h.ins k j e r hr
    · exact ⟨hi r hr, h.saf r (hi r hr)⟩
  · have := h.saf r hr
    rw [List.length_append, List.length_singleton]; omega
  · rcases get k j e with e | ⟨rfl, rfl⟩
    · exact h.nj k j e hs
    · have := h.saf _ hs
      omega
theorem Cok.safe {code : List Ins} {safe : List Nat} (h : Cok code safe) {n : Nat} (hn : code.length = n + 1) (hj : ∀ i, code[n]? = some i → i.nm ≠ "join") : Cok code (safe ++ [3 + n]) := by
  refine ⟨h.frm, h.out, fun k j e r hr => ?_, fun r hr => ?_, fun k j e hs => ?_, by simp [h.z]⟩
  · obtain ⟨a, b⟩ := h.ins k j e r hr
    exact ⟨List.mem_append_left _ a, b⟩
  · rcases List.mem_append.mp hr with hr | hr
    · exact h.saf r hr
    · rw [List.mem_singleton.mp hr]; omega
  · rcases List.mem_append.mp hs with hs | hs
    · exact h.nj k j e hs
    · have : k = n := by have := List.mem_singleton.mp hs; omega
      subst this
      exact hj j e
theorem Cok.init : Cok [] [0, 1, 2] := ⟨fun _ h => absurd h (by simp), fun _ _ h => by simp at h, fun _ _ h => by simp at h, fun r h => by simp at h ⊢; omega, fun _ _ h => by simp at h, by simp⟩
/-- two local lists under way: the code, the registers -/
abbrev Cd (r : Store) (code : List Ins) (safe : List Nat) : Store := r ++ [some (.lst ((code.map Ins.t).map .t)), some (.lst (safe.map fun k => iv (k : Nat)))]
theorem cd_c0 {r s : Store} {code : List Ins} {safe : List Nat} (h : IsSt (Cd r code safe) s) : s.cell (r.length + 2) = some (.lst ((code.map Ins.t).map .t)) := by
  obtain ⟨c, m, _, rfl⟩ := h
  unfold Store.cell
  show (Cd r code safe)[r.length]?.join = _
  rw [List.getElem?_append_right (Nat.le_refl _), Nat.sub_self]
  rfl
theorem cd_c1 {r s : Store} {code : List Ins} {safe : List Nat} (h : IsSt (Cd r code safe) s) : s.cell (r.length + 3) = some (.lst (safe.map fun k => iv (k : Nat))) := by
  obtain ⟨c, m, _, rfl⟩ := h
  unfold Store.cell
  show (Cd r code safe)[r.length + 1]?.join = _
  rw [List.getElem?_append_right (by omega), show r.length + 1 - r.length = 1 by omega]
  rfl
theorem cd_len0 {r s : Store} {code : List Ins} {safe : List Nat} (h : IsSt (Cd r code safe) s) : lenV (.loc (r.length + 2)) s = .ok (iv (code.length : Nat)) s := by
  unfold lenV; dsimp only; rw [cd_c0 h]; dsimp only; rw [List.length_map, List.length_map]; rfl
theorem cd_lstC0 {r s : Store} {code : List Ins} {safe : List Nat} (h : IsSt (Cd r code safe) s) : lstC (.loc (r.length + 2)) s = .ok () s := by
  unfold lstC; dsimp only; rw [cd_c0 h]
theorem cd_lstC1 {r s : Store} {code : List Ins} {safe : List Nat} (h : IsSt (Cd r code safe) s) : lstC (.loc (r.length + 3)) s = .ok () s := by
  unfold lstC; dsimp only; rw [cd_c1 h]
theorem cd_app0 {r s : Store} {code : List Ins} {safe : List Nat} (h : IsSt (Cd r code safe) s) (hl : code.length < 16777216) (i : Ins) : ∃ s', appendV (.loc (r.length + 2)) (.t i.t) s = .ok (.t .non) s' ∧ IsSt (Cd r (code ++ [i]) safe) s' := by
  have hc := cd_c0 h
  obtain ⟨c, m, h1, rfl⟩ := h
  refine ⟨St c m (Cd r (code ++ [i]) safe), ?_, ⟨c, m, h1, rfl⟩⟩
  unfold appendV
  dsimp only
  rw [hc]
  dsimp only
  rw [if_pos (by rw [List.length_map, List.length_map]; exact hl)]
  show R.ok vN ((St c m (Cd r code safe)).set (r.length + 2) _) = _
  unfold St
  rw [List.set_cons_succ, List.set_cons_succ, List.set_append_right _ _ (Nat.le_refl _), Nat.sub_self]
  simp only [Cd, List.map_append, List.set_cons_zero]
  rfl
theorem cd_app1 {r s : Store} {code : List Ins} {safe : List Nat} (h : IsSt (Cd r code safe) s) (hl : safe.length < 16777216) (k : Nat) : ∃ s', appendV (.loc (r.length + 3)) (iv (k : Nat)) s = .ok (.t .non) s' ∧ IsSt (Cd r code (safe ++ [k])) s' := by
  have hc := cd_c1 h
  obtain ⟨c, m, h1, rfl⟩ := h
  refine ⟨St c m (Cd r code (safe ++ [k])), ?_, ⟨c, m, h1, rfl⟩⟩
  unfold appendV
  dsimp only
  rw [hc]
  dsimp only
  rw [if_pos (by rw [List.length_map]; exact hl)]
  show R.ok vN ((St c m (Cd r code safe)).set (r.length + 3) _) = _
  unfold St
  rw [List.set_cons_succ, List.set_cons_succ, List.set_append_right _ _ (by omega), show r.length + 1 - r.length = 1 by omega]
  simp only [Cd, List.map_append, List.set_cons_zero, List.set_cons_succ]
  rfl
section
variable {Γ : Nat → FEnv}
/-- a pick from a cell of trees -/
theorem b_pickC (B : Base Γ) (n : Nat) {r s : Store} (h : IsSt r s) {q : Nat} {β : Type} (f : β → T) (xs : List β) (hq : ∀ s, IsSt r s → s.cell q = some (.lst (xs.map fun b => .t (f b)))) (h0 : xs ≠ []) (hl : xs.length ≤ 100000000) (hw : ∀ c, r.length + 2 = c → q < c) : ∃ (b : β) (s' : Store), b ∈ xs ∧ IsSt r s' ∧ Γ (n + 2) 76 [.loc 1, .loc q] s = .ok (.t (f b)) s' := by
  have hp : 0 < xs.length := List.length_pos_iff.mpr h0
  obtain ⟨v, s', h1, h2, h3⟩ := b_drawN B n h (k := xs.length) hp hl
  refine ⟨xs[v], s', List.getElem_mem h1, h2, ?_⟩
  rw [B.e76]
  refine fn_rt ?_ rfl rfl (st_len h h2)
  have e5 : lenV (.loc q) s = .ok (.t (.int xs.length)) s := by
    unfold lenV; dsimp only; rw [hq s h]; dsimp only; rw [List.length_map]; rfl
  have e6 : subI (.loc q) (iv (v : Nat)) s' = .ok (.t (f xs[v])) s' := by
    unfold subI; dsimp only; rw [hq s' h2]; dsimp only
    rw [px_nat (by rw [List.length_map]; exact h1)]
    dsimp only
    rw [List.getElem?_map, List.getElem?_eq_getElem h1]; rfl
  simp only [g_pick, start, p_ret, p_e2, p_call, p_vals, p_vals0, p_e1, List.map, List.cons_append, List.nil_append, p_var0, p_var1, p_ok, e5, h3, e6, p_sok]
theorem c_pick0 (B : Base Γ) (n : Nat) {r s : Store} {code : List Ins} {safe : List Nat} (h : IsSt (Cd r code safe) s) (h0 : code ≠ []) (hl : code.length ≤ 100000000) : ∃ (i : Ins) (s' : Store), i ∈ code ∧ IsSt (Cd r code safe) s' ∧ Γ (n + 2) 76 [.loc 1, .loc (r.length + 2)] s = .ok (.t i.t) s' :=
  b_pickC B n h Ins.t code (fun s h => by rw [cd_c0 h, List.map_map]; rfl) h0 hl fun c hc => by rw [← hc, List.length_append]; simp
theorem c_pick1 (B : Base Γ) (n : Nat) {r s : Store} {code : List Ins} {safe : List Nat} (h : IsSt (Cd r code safe) s) (h0 : safe ≠ []) (hl : safe.length ≤ 100000000) : ∃ (i : Nat) (s' : Store), i ∈ safe ∧ IsSt (Cd r code safe) s' ∧ Γ (n + 2) 76 [.loc 1, .loc (r.length + 3)] s = .ok (iv (i : Nat)) s' :=
  b_pickC B n h (fun (k : Nat) => .int (k : Nat)) safe (fun s h => cd_c1 h) h0 hl fun c hc => by rw [← hc, List.length_append]; simp
end
end Fl
set_option Elab.async false
set_option linter.all false
set_option maxRecDepth 100000
/-! Fl: the drawing of code. -/
namespace Fl
section
variable {Γ : Nat → FEnv}
/-- what a turn adds -/
inductive Add (o : Nat) (safe : List Nat) : List Ins → Prop
  | one (i : Ins) (h : Frm i) (ho : i.outs = [o]) (hs : ∀ r ∈ i.ins, r ∈ safe) (hj : i.nm ≠ "join") : Add o safe [i]
  | two (a b : Nat) (ha : a ∈ safe) (hb : b ∈ safe) : Add o safe [⟨"join", .non, [a, b], [o]⟩, ⟨"fill", .int 1, [a], [o + 1]⟩]
theorem one_new (o : Nat) (s : Store) : newL false [iv (o : Nat)] s = .ok (.t (li (ni [o]))) s := rfl
theorem two_new (a b : Nat) (s : Store) : newL false [iv (a : Nat), iv (b : Nat)] s = .ok (.t (li (ni [a, b]))) s := rfl
theorem ins_new (x : String) (e i o : T) (s : Store) : newT false [.t (.str x), .t e, .t i, .t o] s = .ok (.t (.tup [.str x, e, i, o])) s := nrfl rfl
theorem code_put (B : Base Γ) (n : Nat) (r : Store) (code : List Ins) (safe : List Nat) (o a b : Nat) (ha : a ∈ safe) (hb : b ∈ safe) (hl : code.length ≤ 100) (x : String) (hx : x ∈ ["fill", "calc", "calc", "flags", "range", "same", "join", "calc", "div"]) (x0 x1 x4 x9 : Option Val) (s : Store) (h : IsSt (Cd r code safe) s)
    (body : SM) (hb : body = sIf (tEq (eVar 6) (eC (.str "fill"))) (sExpr (e2c lstC appendV (eVar 2) (eTup false [eC (.str "fill"), eCall (Γ (n + 2)) 75 [eVar 0, eC (.int 3)], eLst false [eVar 7], eLst false [eVar 5]]))) (sIf (tEq (eVar 6) (eC (.str "calc"))) (sExpr (e2c lstC appendV (eVar 2) (eTup false [eC (.str "calc"), eCall (Γ (n + 2)) 76 [eVar 0, eLst false [eC (.str "+"), eC (.str "-"), eC (.str "*"), eC (.str "<"), eC (.str "=")]], eLst false [eVar 7, eVar 8], eLst false [eVar 5]]))) (sIf (tEq (eVar 6) (eC (.str "div"))) (sExpr (e2c lstC appendV (eVar 2) (eTup false [eC (.str "calc"), eCall (Γ (n + 2)) 76 [eVar 0, eLst false [eC (.str "/"), eC (.str "mod")]], eLst false [eVar 7, eVar 8], eLst false [eVar 5]]))) (sIf (tEq (eVar 6) (eC (.str "join"))) (sSeq (sExpr (e2c lstC appendV (eVar 2) (eTup false [eC (.str "join"), eC .non, eLst false [eVar 7, eVar 8], eLst false [eVar 5]]))) (sSeq (sExpr (e2c lstC appendV (eVar 2) (eTup false [eC (.str "fill"), eC (.int 1), eLst false [eVar 7], eLst false [e2 (addV false) (eVar 5) (eC (.int 1))]]))) (sAsg (e2 (addV false) (eVar 5) (eC (.int 1))) (gVar 5)))) (sIf (tEq (eVar 6) (eC (.str "same"))) (sExpr (e2c lstC appendV (eVar 2) (eTup false [eC (.str "same"), eC .non, eLst false [eVar 7, eVar 8], eLst false [eVar 5]]))) (sExpr (e2c lstC appendV (eVar 2) (eTup false [eVar 6, eC .non, eLst false [eVar 7], eLst false [eVar 5]])))))))) :
    ∃ add s', body [some (.loc 1), x1, some (.loc (r.length + 2)), some (.loc (r.length + 3)), x4, some (iv (o : Nat)), some (.t (.str x)), some (iv (a : Nat)), some (iv (b : Nat)), x9] s = .nx [some (.loc 1), x1, some (.loc (r.length + 2)), some (.loc (r.length + 3)), x4, some (iv ((o + add.length - 1 : Nat) : Nat)), some (.t (.str x)), some (iv (a : Nat)), some (iv (b : Nat)), x9] s' ∧
      Add o safe add ∧ IsSt (Cd r (code ++ add) safe) s' := by
  subst hb
  have c0 := cd_lstC0 h
  simp only [List.mem_cons, List.not_mem_nil, or_false] at hx
  have one : ∀ (i : Ins) (s : Store), Frm i → i.outs = [o] → (∀ r ∈ i.ins, r ∈ safe) → i.nm ≠ "join" → IsSt (Cd r code safe) s → ∃ s', appendV (.loc (r.length + 2)) (.t i.t) s = .ok (.t .non) s' ∧ Add o safe [i] ∧ IsSt (Cd r (code ++ [i]) safe) s' := fun i s hi ho hs hj h => by
    obtain ⟨s', h1, h2⟩ := cd_app0 h (by omega) i
    exact ⟨s', h1, .one i hi ho hs hj, h2⟩
  have eo : o + 1 - 1 = o := rfl
  rcases hx with rfl | rfl | rfl | rfl | rfl | rfl | rfl | rfl | rfl
  · obtain ⟨v, s1, hv, h1, e1⟩ := b_drawN B (n + 1) h (k := 3) (by decide) (by decide)
    have e1 : Γ (n + 2) 75 [.loc 1, .t (.int 3)] s = .ok (iv (v : Nat)) s1 := e1
    obtain ⟨s2, h2, h3, h4⟩ := one ⟨"fill", .int (v : Nat), [a], [o]⟩ s1 (.fill v hv a _) rfl (by simpa using ha) (by simp) h1
    refine ⟨_, s2, ?_, h3, h4⟩
    simp [Ins.t, li] at h2
    simp [c0, e1, h2]
  iterate 2
    obtain ⟨d, s1, hd, h1, e1⟩ := b_pick B n h (xs := [.str "+", .str "-", .str "*", .str "<", .str "="]) (by simp) (by simp [L])
    obtain ⟨y, hy, rfl⟩ : ∃ y, y ∈ ["+", "-", "*", "<", "="] ∧ d = .str y := by
      simp only [List.mem_cons, List.not_mem_nil, or_false] at hd
      rcases hd with rfl | rfl | rfl | rfl | rfl <;> exact ⟨_, by simp, rfl⟩
    obtain ⟨s2, h2, h3, h4⟩ := one ⟨"calc", .str y, [a, b], [o]⟩ s1 (.calc y (List.mem_append_left ["/", "mod"] hy) a b _) rfl (by simp [ha, hb]) (by simp) h1
    refine ⟨_, s2, ?_, h3, h4⟩
    simp [Ins.t, li] at h2
    simp [c0, e1, h2]
  · obtain ⟨s2, h2, h3, h4⟩ := one ⟨"flags", .non, [a], [o]⟩ s (.flags a _) rfl (by simpa using ha) (by simp) h
    refine ⟨_, s2, ?_, h3, h4⟩
    simp [Ins.t, li] at h2
    simp [c0, h2]
  · obtain ⟨s2, h2, h3, h4⟩ := one ⟨"range", .non, [a], [o]⟩ s (.range a _) rfl (by simpa using ha) (by simp) h
    refine ⟨_, s2, ?_, h3, h4⟩
    simp [Ins.t, li] at h2
    simp [c0, h2]
  · obtain ⟨s2, h2, h3, h4⟩ := one ⟨"same", .non, [a, b], [o]⟩ s (.same a b _) rfl (by simp [ha, hb]) (by simp) h
    refine ⟨_, s2, ?_, h3, h4⟩
    simp [Ins.t, li] at h2
    simp [c0, h2]
  · obtain ⟨s1, h1, h2⟩ := cd_app0 h (by omega) ⟨"join", .non, [a, b], [o]⟩
    obtain ⟨s2, h3, h4⟩ := cd_app0 h2 (by rw [List.length_append]; simp; omega) ⟨"fill", .int 1, [a], [o + 1]⟩
    refine ⟨_, s2, ?_, .two a b ha hb, by rw [List.append_assoc] at h4; exact h4⟩
    have c1 := cd_lstC0 h2
    simp [Ins.t, li] at h1 h3
    simp [c0, h1, c1, h3]
  · obtain ⟨d, s1, hd, h1, e1⟩ := b_pick B n h (xs := [.str "+", .str "-", .str "*", .str "<", .str "="]) (by simp) (by simp [L])
    obtain ⟨y, hy, rfl⟩ : ∃ y, y ∈ ["+", "-", "*", "<", "="] ∧ d = .str y := by
      simp only [List.mem_cons, List.not_mem_nil, or_false] at hd
      rcases hd with rfl | rfl | rfl | rfl | rfl <;> exact ⟨_, by simp, rfl⟩
    obtain ⟨s2, h2, h3, h4⟩ := one ⟨"calc", .str y, [a, b], [o]⟩ s1 (.calc y (List.mem_append_left ["/", "mod"] hy) a b _) rfl (by simp [ha, hb]) (by simp) h1
    refine ⟨_, s2, ?_, h3, h4⟩
    simp [Ins.t, li] at h2
    simp [c0, e1, h2]
  · obtain ⟨d, s1, hd, h1, e1⟩ := b_pick B n h (xs := [.str "/", .str "mod"]) (by simp) (by simp [L])
    obtain ⟨y, hy, rfl⟩ : ∃ y, y ∈ ["/", "mod"] ∧ d = .str y := by
      simp only [List.mem_cons, List.not_mem_nil, or_false] at hd
      rcases hd with rfl | rfl <;> exact ⟨_, by simp, rfl⟩
    obtain ⟨s2, h2, h3, h4⟩ := one ⟨"calc", .str y, [a, b], [o]⟩ s1 (.calc y (List.mem_append_right ["+", "-", "*", "<", "="] hy) a b _) rfl (by simp [ha, hb]) (by simp) h1
    refine ⟨_, s2, ?_, h3, h4⟩
    simp [Ins.t, li] at h2
    simp [c0, e1, h2]
end
end Fl
set_option Elab.async false
set_option linter.all false
set_option maxRecDepth 100000
/-! Fl: the drawing of code. -/
namespace Fl
theorem Add.ok {code : List Ins} {safe : List Nat} {add : List Ins} (h : Cok code safe) (ha : Add (3 + code.length) safe add) : Cok (code ++ add) (safe ++ [3 + code.length + add.length - 1]) ∧ 1 ≤ add.length ∧ add.length ≤ 2 := by
  cases ha with
  | one i hf ho hs hj =>
    refine ⟨?_, by simp, by simp⟩
    rw [List.length_singleton, Nat.add_sub_cancel]
    exact (h.add hf ho hs).safe (by simp) fun j e => by
      rw [List.getElem?_append_right (Nat.le_refl _), Nat.sub_self] at e
      injection e with e
      rw [← e]; exact hj
  | two a b ha hb =>
    refine ⟨?_, by simp, by simp⟩
    have h1 := h.add (i := ⟨"join", .non, [a, b], [3 + code.length]⟩) (.join a b _) rfl (by simp [ha, hb])
    have h2 := h1.add (i := ⟨"fill", .int 1, [a], [3 + code.length + 1]⟩) (.fill 1 (by decide) a _) (by rw [List.length_append]; rfl) (by simp [ha])
    have h3 := h2.safe (n := code.length + 1) (by simp) fun j e => by
      rw [List.append_assoc, List.getElem?_append_right (by omega), show code.length + 1 - code.length = 1 by omega] at e
      injection e with e
      rw [← e]; simp
    rw [List.append_assoc] at h3
    exact h3
theorem ins_0 (i : Ins) (s : Store) : subI (.t i.t) (.t (.int 0)) s = .ok (.t (.str i.nm)) s := nrfl rfl
theorem ins_1 (i : Ins) (s : Store) : subI (.t i.t) (.t (.int 1)) s = .ok (.t i.ex) s := nrfl rfl
theorem ins_2 (i : Ins) (s : Store) : subI (.t i.t) (.t (.int 2)) s = .ok (.t (li (ni i.ins))) s := nrfl rfl
theorem ins_3 (i : Ins) (s : Store) : subI (.t i.t) (.t (.int 3)) s = .ok (.t (li (ni i.outs))) s := nrfl rfl
theorem sfz_cell {s : Store} {q i : Nat} {ρ : Env} {ts : List T} (h : s.cell q = some (.lst (ts.map .t))) (hi : ρ[i]? = some (some (.loc q))) : sFz i ρ s = .nx (ρ.set i (some (.t (.lst ts)))) (s.set q none) := by
  have h1 : freeze (.loc q) s = .ok (.t (.lst ts)) (s.set q none) := by
    unfold freeze; dsimp only; rw [h]; dsimp only; rw [trees_map]
  unfold sFz
  rw [hi]
  dsimp only
  rw [h1]
section
variable {Γ : Nat → FEnv}
theorem code_run (B : Base Γ) (C : BaseC Γ) (n : Nat) {r s : Store} (h : IsSt r s) (hw : Wf s) : ∃ code safe s', Cok code safe ∧ code.length ≤ 33 ∧ safe.length ≤ 14 ∧ IsSt r s' ∧ Γ (n + 3) 112 [.loc 1, .t (.int 3)] s = .ok (.t (.lst [.lst (code.map Ins.t), li (ni safe)])) s' := by
  have hl : s.length = r.length + 2 := by obtain ⟨c, m, _, rfl⟩ := h; rfl
  rw [C.w_code]
  have h0 : IsSt (Cd r [] [0, 1, 2]) (s ++ [some (.lst []), some (.lst [iv 0, iv 1, iv 2])]) := by
    obtain ⟨c, m, h1, rfl⟩ := h
    exact ⟨c, m, h1, rfl⟩
  obtain ⟨v, s1, hv, h1, e1⟩ := b_drawN B (n + 1) h0 (k := 12) (by decide) (by decide)
  have e1 : Γ (n + 2) 75 [.loc 1, .t (.int 12)] (s ++ [some (.lst []), some (.lst [iv 0, iv 1, iv 2])]) = .ok (iv (v : Nat)) s1 := e1
  have hr := p_rangeS (b := eCall (Γ (n + 2)) 75 [eVar 0, eC (.int 12)]) (ρ := [some (.loc 1), some (.t (.int 3)), some (.loc (r.length + 2)), some (.loc (r.length + 3)), none, some (.t (.int 3)), none, none, none, none]) (s := s ++ [some (.lst []), some (.lst [iv 0, iv 1, iv 2])]) (s' := s1) (n := v) (by simp [e1]) (by omega)
  have e2 : eCompR true [4] (iRange1 (eVar 1)) (gVar 4) none (eVar 4) [some (.loc 1), some (.t (.int 3)), some (.loc (r.length + 2)), none, none, none, none, none, none, none] (s ++ [some (.lst [])]) = .ok (.loc (r.length + 3)) (s ++ [some (.lst []), some (.lst [iv 0, iv 1, iv 2])]) := by
    have : s ++ [some (.lst []), some (.lst [iv 0, iv 1, iv 2])] = (s ++ [some (.lst [])]) ++ [some (.lst [iv 0, iv 1, iv 2])] := by rw [List.append_assoc]; rfl
    rw [this, p_compRn (p_rangeS (n := 3) (s' := s ++ [some (.lst [])]) rfl (by decide)) (by decide)]
    have hlen : (s ++ [some (Cell.lst [])]).length = r.length + 3 := by rw [List.length_append, hl]; rfl
    rw [← hlen]
    rfl
  have key : ∃ ρ' s' code safe x4 x6 x7 x8 x9, g_w_code (Γ (n + 2)) (start 10 [.loc 1, .t (.int 3)]) s = ((sSeq (sSeq (sFz 2) (sFz 3)) (sRet (eLst false [eVar 2, eVar 3]))) ρ' s') ∧ ρ' = [some (.loc 1), some (.t (.int 3)), some (.loc (r.length + 2)), some (.loc (r.length + 3)), x4, some (iv ((3 + code.length : Nat) : Nat)), x6, x7, x8, x9] ∧ IsSt (Cd r code safe) s' ∧ Cok code safe ∧ code.length ≤ 33 ∧ safe.length ≤ 14 := by
    generalize hg : g_w_code (Γ (n + 2)) (start 10 [.loc 1, .t (.int 3)]) s = og
    simp [g_w_code, start, hl, e2, hr] at hg
    subst hg
    generalize hc : forL _ _ _ _ _ = o
    obtain ⟨ρ', s', rfl, code, safe, x4, x6, x7, x8, x9, rfl, h3, h4, h5, h6⟩ := for_ix hc (fun j ρ s => ∃ code safe x4 x6 x7 x8 x9, ρ = [some (.loc 1), some (.t (.int 3)), some (.loc (r.length + 2)), some (.loc (r.length + 3)), x4, some (iv ((3 + code.length : Nat) : Nat)), x6, x7, x8, x9] ∧ IsSt (Cd r code safe) s ∧ Cok code safe ∧ code.length ≤ 3 * j ∧ safe.length ≤ 3 + j) ⟨[], [0, 1, 2], none, none, none, none, none, rfl, h1, .init, by simp, by simp⟩ (by
      rintro j hj ρ s ⟨code, safe, x4, x6, x7, x8, x9, rfl, h, hk, hl1, hl2⟩
      obtain ⟨d, s1, hd, h1, e1⟩ := b_pick B n h (xs := [.str "fill", .str "calc", .str "calc", .str "flags", .str "range", .str "same", .str "join", .str "calc", .str "div"]) (by simp) (by simp [L])
      obtain ⟨x, hx, rfl⟩ : ∃ x, x ∈ ["fill", "calc", "calc", "flags", "range", "same", "join", "calc", "div"] ∧ d = .str x := by
        simp only [List.mem_cons, List.not_mem_nil, or_false] at hd
        rcases hd with rfl | rfl | rfl | rfl | rfl | rfl | rfl | rfl | rfl <;> exact ⟨_, by simp, rfl⟩
      have hs0 : safe ≠ [] := fun e => by have := hk.z.1; rw [e] at this; exact absurd this (by simp)
      obtain ⟨a, s2, ha, h2, e2⟩ := c_pick1 B n h1 hs0 (by omega)
      obtain ⟨b, s3, hb, h3, e3⟩ := c_pick1 B n h2 hs0 (by omega)
      obtain ⟨add, s4, e4, ad, h4⟩ := code_put B n r code safe (3 + code.length) a b ha hb (by omega) x hx none (some (.t (.int 3))) (some (iv (j : Nat))) x9 s3 h3 _ rfl
      obtain ⟨hk4, ad1, ad2⟩ := ad.ok hk
      obtain ⟨s5, e5, h5⟩ := cd_app1 h4 (by omega) (3 + code.length + add.length - 1)
      obtain ⟨v4, s6, hv4, h6, e6⟩ := b_drawN B (n + 1) h5 (k := 4) (by decide) (by decide)
      have e6 : Γ (n + 2) 75 [.loc 1, .t (.int 4)] s5 = .ok (iv (v4 : Nat)) s6 := e6
      have c4 := cd_lstC1 h4
      have eo : ((3 + code.length + add.length - 1 : Nat) : Int) + 1 = ((3 + (code ++ add).length : Nat) : Int) := by rw [List.length_append]; omega
      have lc := cd_len0 h6
      have lp : ((0 : Int) < ((code ++ add).length : Nat)) := by rw [List.length_append]; omega
      by_cases hv0 : v4 = 0
      · subst hv0
        obtain ⟨i, s7, hi, h7, e7⟩ := c_pick0 B n h6 (fun e => by rw [e] at lp; simp at lp) (by rw [List.length_append]; omega)
        obtain ⟨s8, e8, h8⟩ := cd_app0 h7 (by rw [List.length_append]; omega) { i with outs := [3 + (code ++ add).length] }
        obtain ⟨ki, hki⟩ := List.getElem?_of_mem hi
        have hk8 := hk4.add (i := { i with outs := [3 + (code ++ add).length] }) ((hk4.frm i hi).outs _) rfl fun r hr => (hk4.ins ki i hki r hr).1
        refine ⟨_, _, _, s8, rfl, ?_, code ++ add ++ [{ i with outs := [3 + (code ++ add).length] }], safe ++ [3 + code.length + add.length - 1], some (iv (j : Nat)), some (.t (.str x)), some (iv (a : Nat)), some (iv (b : Nat)), some (.t i.t), rfl, h8, hk8, by simp only [List.length_append, List.length_singleton]; omega, by simp only [List.length_append, List.length_singleton]; omega⟩
        have c7 := cd_lstC0 h7
        have e8' : appendV (.loc (r.length + 2)) (.t (.tup [.str i.nm, i.ex, li (ni i.ins), .lst [.int (3 + (code ++ add).length : Nat)]])) s7 = .ok (.t .non) s8 := e8
        have eo2 : ((3 + (code ++ add).length : Nat) : Int) + 1 = ((3 + (code ++ add ++ [{ i with outs := [3 + (code ++ add).length] }]).length : Nat) : Int) := by rw [List.length_append (as := code ++ add), List.length_singleton]; omega
        simp only [p_seq2, p_asgV, p_call, p_vals, p_vals0, p_lst, p_eC, p_varS, p_var0, p_ok, p_sok, newL9, e1, e2, e3, List.set, then_nx]
        rw [e4, then_nx]
        simp only [p_seq2, p_sexpr, p_e2c, p_varS, p_var0, p_ok, p_sok, c4, e5, then_nx, p_asgV, p_e2, p_eC, p_add, eo, List.set, p_if, p_tAnd, p_tEq, p_tGt, p_call, p_vals, p_vals0, e6, p_eqI, p_lt, p_e1, lc, lp, decide_true, Int.natCast_zero, beq_self_eq_true, if_true, e7, p_tup, c7, ins_0, ins_1, ins_2, p_lst, newL1, newT4, listV_t, e8', eo2]
      · refine ⟨_, _, _, s6, rfl, ?_, code ++ add, safe ++ [3 + code.length + add.length - 1], some (iv (j : Nat)), some (.t (.str x)), some (iv (a : Nat)), some (iv (b : Nat)), x9, rfl, h6, hk4, by simp only [List.length_append]; omega, by simp only [List.length_append, List.length_singleton]; omega⟩
        have hvb : (((v4 : Nat) : Int) == 0) = false := by simpa using hv0
        simp only [p_seq2, p_asgV, p_call, p_vals, p_vals0, p_lst, p_eC, p_varS, p_var0, p_ok, p_sok, newL9, e1, e2, e3, List.set, then_nx]
        rw [e4, then_nx]
        simp only [p_seq2, p_sexpr, p_e2c, p_varS, p_var0, p_ok, p_sok, c4, e5, then_nx, p_asgV, p_e2, p_eC, p_add, eo, List.set, p_if, p_tAnd, p_tEq, p_tGt, p_call, p_vals, p_vals0, e6, p_eqI, hvb, if_false, Bool.false_eq_true, p_nil])
    exact ⟨_, s', code, safe, x4, x6, x7, x8, x9, by simp [-p_seq2]; rfl, rfl, h3, h4, by omega, by omega⟩
  obtain ⟨ρ', s', code, safe, x4, x6, x7, x8, x9, e4, rfl, h3, h4, h5, h6⟩ := key
  obtain ⟨c, m, hcm, rfl⟩ := h3
  have h3 : IsSt (Cd r code safe) (St c m (Cd r code safe)) := ⟨c, m, hcm, rfl⟩
  refine ⟨code, safe, St c m r, h4, h5, h6, ⟨c, m, hcm, rfl⟩, ?_⟩
  have z1 := sfz_cell (i := 2) (ρ := [some (.loc 1), some (.t (.int 3)), some (.loc (r.length + 2)), some (.loc (r.length + 3)), x4, some (iv ((3 + code.length : Nat) : Nat)), x6, x7, x8, x9]) (cd_c0 h3) rfl
  have c3 : Store.cell ((St c m (Cd r code safe)).set (r.length + 2) none) (r.length + 3) = some (.lst (((ni safe).map T.int).map .t)) := by
    have := cd_c1 h3
    unfold Store.cell at this ⊢
    rw [List.getElem?_set_ne (by omega), this, List.map_map, List.map_map]
    rfl
  have z2 := sfz_cell (i := 3) (ρ := [some (.loc 1), some (.t (.int 3)), some (.t (.lst (code.map Ins.t))), some (.loc (r.length + 3)), x4, some (iv ((3 + code.length : Nat) : Nat)), x6, x7, x8, x9]) c3 rfl
  have hl2 : s.length = (St c m r).length := hl
  refine fn_tS (s' := ((St c m (Cd r code safe)).set (r.length + 2) none).set (r.length + 3) none) ?_ rfl ?_ hl2.symm ?_
  · rw [e4]
    simp only [p_seq2, z1, then_nx, List.set, z2, p_ret, p_lst, p_vals, p_vals0, p_varS, p_var0, p_ok, p_sok, newL2]
  · obtain ⟨c1, m1, _, rfl⟩ := h
    exact wf_St hw.st
  · rw [hl2]
    refine take_set (take_set ?_ (by rw [St_len]; exact Nat.le_refl _)) (by rw [St_len]; omega)
    rw [← St_app, List.take_append_of_le_length (Nat.le_refl _), List.take_length]
end
end Fl
set_option Elab.async false
set_option linter.all false
set_option maxRecDepth 100000
/-! Fl: the drawing of blocks. -/
namespace Fl
/-- a block's kinds here: pairs of numbers to numbers -/
abbrev kPair : Kd := .pair .num .num
/-- the first block -/
inductive Mok (code : List Ins) (safe : List Nat) : List Ins → Nat → Prop
  | flat (r : Nat) (h : r ∈ safe) : Mok code safe code r
  | call (a b r : Nat) (ha : a ∈ safe) (hb : b ∈ safe) (h : r ∈ safe ∨ r = 3 + code.length) : Mok code safe (code ++ [⟨"call", .str "other", [0, a, b], [3 + code.length]⟩]) r
def mainB (code : List Ins) (r : Nat) : Blk := ⟨"main", kPair, .num, code, [r]⟩
def otherB (code : List Ins) (r : Nat) : Blk := ⟨"other", kPair, .num, code, [r]⟩
@[simp] theorem sub_l0 (a : T) (r : List T) (s : Store) : subI (.t (.lst (a :: r))) (.t (.int 0)) s = .ok (.t a) s := lst_get (k := 0) rfl s
@[simp] theorem sub_l1 (a b : T) (r : List T) (s : Store) : subI (.t (.lst (a :: b :: r))) (.t (.int 1)) s = .ok (.t b) s := lst_get (k := 1) rfl s
@[simp] theorem sub_l2 (a b c : T) (r : List T) (s : Store) : subI (.t (.lst (a :: b :: c :: r))) (.t (.int 2)) s = .ok (.t c) s := lst_get (k := 2) rfl s
@[simp] theorem p_gTupL2 (i j : Nat) (a b : T) (ρ : Env) (s : Store) : gTup [i, j] (.t (.lst [a, b])) ρ s = .ok ((ρ.set i (some (.t a))).set j (some (.t b))) s := nrfl rfl
theorem max_fold : ∀ (r : List Int) (x m : Int), (∀ y ∈ x :: r, y ≤ m) → m ∈ x :: r → r.foldl (fun a b => if b > a then b else a) x = m
  | [], x, m, _, h => (List.mem_singleton.mp h).symm
  | y :: r, x, m, h1, h2 => by
    rw [List.foldl_cons]
    have hx := h1 x List.mem_cons_self
    have hy := h1 y (List.mem_cons_of_mem _ List.mem_cons_self)
    refine max_fold r _ m (fun z hz => ?_) ?_
    · rcases List.mem_cons.mp hz with rfl | hz
      · split <;> assumption
      · exact h1 z (List.mem_cons_of_mem _ (List.mem_cons_of_mem _ hz))
    · by_cases c : y > x
      · rw [if_pos c]
        rcases List.mem_cons.mp h2 with rfl | h2
        · omega
        · exact h2
      · rw [if_neg c]
        rcases List.mem_cons.mp h2 with rfl | h2
        · exact List.mem_cons_self
        · rcases List.mem_cons.mp h2 with rfl | h2
          · rw [show x = m by omega]; exact List.mem_cons_self
          · exact List.mem_cons_of_mem _ h2
theorem max_run {x : Int} {r : List Int} {m : Int} (h1 : ∀ y ∈ x :: r, y ≤ m) (h2 : m ∈ x :: r) (s : Store) : maxV (.t (li (x :: r))) s = .ok (iv m) s := by
  show (itemsL (.t (.lst ((x :: r).map .int))) >>= _) s = _
  rw [bind_eq, li_itemsL, bind_ok]
  show (match intsOf ((x :: r).map iv) with
    | some ns => match maxL ns with
      | some m => R.ok (vI m) s
      | none => .bad
    | none => .bad) = _
  rw [li_ints]
  show R.ok (vI (r.foldl (fun a b => if b > a then b else a) x)) s = _
  rw [max_fold r x m h1 h2]; rfl
def outN (i : Ins) : Int := ((i.outs.getD 0 0 : Nat) : Int)
theorem out_nums {code : List Ins} {safe : List Nat} (h : Cok code safe) : (∀ y ∈ (0 : Int) :: (code.map outN ++ [2]), y ≤ 2 + code.length) ∧ (2 + code.length : Int) ∈ (0 : Int) :: (code.map outN ++ [2]) := by
  have ho : ∀ (k : Nat) (i : Ins), code[k]? = some i → outN i = 3 + (k : Int) := fun k i e => by unfold outN; rw [h.out k i e]; simp
  refine ⟨fun y hy => ?_, ?_⟩
  · simp only [List.mem_cons, List.mem_append, List.mem_map, List.not_mem_nil, or_false] at hy
    rcases hy with rfl | ⟨i, hi, rfl⟩ | rfl
    · omega
    · obtain ⟨k, e⟩ := List.getElem?_of_mem hi
      rw [ho k i e]
      have := (List.getElem?_eq_some_iff.mp e).1
      omega
    · omega
  · by_cases h0 : code.length = 0
    · rw [h0]; simp
    · have hk : code.length - 1 < code.length := by omega
      have e := ho (code.length - 1) _ (List.getElem?_eq_getElem hk)
      refine List.mem_cons_of_mem _ (List.mem_append_left _ (List.mem_map.mpr ⟨_, List.getElem_mem hk, ?_⟩))
      rw [e]; omega
section
variable {Γ : Nat → FEnv}
theorem blocks_run (B : Base Γ) (C : BaseC Γ) (n : Nat) {r s : Store} (h : IsSt r s) (hw : Wf s) : ∃ code safe mc mr code2 safe2 r2 s', Cok code safe ∧ code.length ≤ 33 ∧ safe.length ≤ 14 ∧ Mok code safe mc mr ∧ Cok code2 safe2 ∧ code2.length ≤ 33 ∧ safe2.length ≤ 14 ∧ r2 ∈ safe2 ∧ IsSt r s' ∧ Γ (n + 4) 113 [.loc 1] s = .ok (.t (bsT [mainB mc mr, otherB code2 r2])) s' := by
  have wfs : ∀ s', IsSt r s' → Wf s' := by
    rintro s' ⟨c', m', _, rfl⟩
    obtain ⟨c, m, _, rfl⟩ := h
    exact wf_St hw.st
  obtain ⟨code, safe, s1, k1, l1, n1, h1, e1⟩ := code_run B C n h hw
  have ne : ∀ {code : List Ins} {safe : List Nat}, Cok code safe → safe ≠ [] := fun k e => by have := k.z.1; rw [e] at this; exact absurd this (by simp)
  have pk : ∀ (safe : List Nat), safe ≠ [] → safe.length ≤ 14 → ∀ s, IsSt r s → ∃ (k : Nat) (s' : Store), k ∈ safe ∧ IsSt r s' ∧ Γ (n + 3) 76 [.loc 1, .t (li (ni safe))] s = .ok (iv (k : Nat)) s' := fun safe h0 hl s h => by
    obtain ⟨d, s', hd, h', e⟩ := b_pick B (n + 1) h (xs := (ni safe).map T.int) (by simpa using h0) (by rw [List.length_map, List.length_map]; show safe.length ≤ 16777216; omega)
    simp only [List.mem_map] at hd
    obtain ⟨_, ⟨k, hk, rfl⟩, rfl⟩ := hd
    exact ⟨k, s', hk, h', e⟩
  obtain ⟨mr, s2, hmr, h2, e2⟩ := pk safe (ne k1) n1 s1 h1
  obtain ⟨code2, safe2, s3, k2, l2, n2, h3, e3⟩ := code_run B C n h2 (wfs _ h2)
  obtain ⟨r2, s4, hr2, h4, e4⟩ := pk safe2 (ne k2) n2 s3 h3
  rw [C.w_blocks]
  generalize hg0 : g_w_blocks (Γ (n + 3)) (start 11 [.loc 1]) s = og
  have hg := hg0
  simp [-p_comp, g_w_blocks, start, e1, e2, e3, e4] at hg
  have hc : ∀ x3 x4 x5 x6 x7 x8 x10, eComp false [9] (iV (eVar 1)) (gVar 9) none (Fl.e2 subI (Fl.e2 subI (eVar 9) (eC (.int 3))) (eC (.int 0))) [some (.loc 1), some (.t (.lst (code.map Ins.t))), some (.t (li (ni safe))), x3, x4, x5, x6, x7, x8, none, x10] s4 = .ok (.t (li (code.map outN))) s4 := fun x3 x4 x5 x6 x7 x8 x10 => by
    have := comp_tt (i := 9) (f := Fl.e2 subI (Fl.e2 subI (eVar 9) (eC (.int 3))) (eC (.int 0))) (ρ := [some (.loc 1), some (.t (.lst (code.map Ins.t))), some (.t (li (ni safe))), x3, x4, x5, x6, x7, x8, none, x10]) (s := s4) Ins.t (fun i => .int (outN i)) code (fun i hi => by
      obtain ⟨k, e⟩ := List.getElem?_of_mem hi
      have ho := k1.out k i e
      have : subI (.t (li (ni i.outs))) (.t (.int 0)) s4 = .ok (.t (.int (outN i))) s4 := lst_get (k := 0) (by unfold outN; rw [ho]; rfl) s4
      simp [ins_3, this])
    simp only [p_comp, p_iV, p_varS, p_var0, p_ok, lst_iter, wipeE, List.set]
    rw [this]; simp [li]
  obtain ⟨m1, m2⟩ := out_nums k1
  have hm := fun s => max_run m1 m2 s
  have a1 : ∀ s, addV false (.t (.lst [.int 0])) (.t (li (code.map outN))) s = .ok (.t (li (0 :: code.map outN))) s := fun s => by
    rw [add_tt _ _ _ _ (by rw [List.length_map, List.length_map]; show 1 + _ ≤ 16777216; omega), newL_t]; rfl
  have a2 : ∀ s, addV false (.t (li (0 :: code.map outN))) (.t (.lst [.int 2])) s = .ok (.t (li (0 :: (code.map outN ++ [2])))) s := fun s => by
    rw [add_tt _ _ _ _ (by rw [List.length_map, List.length_cons, List.length_map]; show _ + 1 ≤ 16777216; omega), newL_t]
    simp [li]
  obtain ⟨v, s5, hv, h5, e5⟩ := b_drawN B (n + 2) h4 (k := 2) (by decide) (by decide)
  have e5 : Γ (n + 3) 75 [.loc 1, .t (.int 2)] s4 = .ok (iv (v : Nat)) s5 := e5
  simp [-p_comp, hc, a1, a2, hm, e5] at hg
  by_cases hv0 : v = 0
  · subst hv0
    obtain ⟨a, s6, ha, h6, e6⟩ := pk safe (ne k1) n1 s5 h5
    obtain ⟨b, s7, hb, h7, e7⟩ := pk safe (ne k1) n1 s6 h6
    obtain ⟨d, s8, hd, h8, e8⟩ := b_pick B (n + 1) h7 (xs := [.int (1 + (2 + (code.length : Int))), .int (mr : Nat)]) (by simp) (by simp [L])
    obtain ⟨r', hr', rfl⟩ : ∃ r' : Nat, (r' ∈ safe ∨ r' = 3 + code.length) ∧ d = .int (r' : Nat) := by
      simp only [List.mem_cons, List.not_mem_nil, or_false] at hd
      rcases hd with rfl | rfl
      · exact ⟨3 + code.length, .inr rfl, by congr 1; omega⟩
      · exact ⟨mr, .inl hmr, rfl⟩
    have a3 : ∀ (t : T) s, addV false (.t (.lst (code.map Ins.t))) (.t (.lst [t])) s = .ok (.t (.lst (code.map Ins.t ++ [t]))) s := fun t s => by
      rw [add_tt _ _ _ _ (by rw [List.length_map]; show _ + 1 ≤ 16777216; omega), newL_t]
    simp [e6, e7, e8, a3] at hg
    refine ⟨code, safe, _, r', code2, safe2, r2, s8, k1, l1, n1, .call a b r' ha hb hr', k2, l2, n2, hr2, h8, ?_⟩
    refine fn_rt (s' := s8) ?_ rfl rfl (st_len h h8)
    rw [hg0, ← hg, show (1 + (2 + (code.length : Int))) = ((3 + code.length : Nat) : Int) by omega]
    simp only [mainB, otherB, bsT, Blk.t, Ins.t, List.map, List.map_append]
    rfl
  · refine ⟨code, safe, code, mr, code2, safe2, r2, s5, k1, l1, n1, .flat mr hmr, k2, l2, n2, hr2, h5, ?_⟩
    refine fn_rt (s' := s5) ?_ rfl rfl (st_len h h5)
    simp [hv0] at hg
    rw [hg0, ← hg]
    rfl
end
end Fl
set_option Elab.async false
set_option linter.all false
set_option maxRecDepth 100000
/-! Fl: drawn code, run: registers that are safe. -/
namespace Fl
theorem rget_rput : ∀ (kv : Regs) (k : Nat) (v : Vec) (r : Nat), rget (rput kv k v) r = if r = k then some v else rget kv r := by
  have fnd : ∀ (kv : Regs) (k : Nat) (v : Vec) (r : Nat), (kv.any fun p => decide (p.1 = k)) = true → rget (kv.map fun p => if p.1 = k then (p.1, v) else p) r = if r = k then some v else rget kv r := by
    intro kv
    induction kv with
    | nil => intro k v r h; simp at h
    | cons p q ih =>
      intro k v r h
      obtain ⟨j, w⟩ := p
      by_cases hj : j = k
      · subst hj
        simp only [List.map_cons, if_true]
        unfold rget
        by_cases hr : j = r
        · subst hr; simp
        · simp only [hr, if_false]
          have hr' : ¬ r = j := fun e => hr e.symm
          by_cases hq : (q.any fun p => decide (p.1 = j)) = true
          · exact ih j v r hq
          · simp only [hr', if_false]
            have : (q.map fun p => if p.1 = j then (p.1, v) else p) = q := by
              conv => rhs; rw [← List.map_id q]
              refine List.map_congr_left fun p hp => ?_
              have : ¬ p.1 = j := fun e => hq (List.any_eq_true.mpr ⟨p, hp, by simpa using e⟩)
              simp [this]
            rw [this]
      · have hq : (q.any fun p => decide (p.1 = k)) = true := by simpa [List.any_cons, hj] using h
        simp only [List.map_cons, hj, if_false]
        unfold rget
        by_cases hr : j = r
        · subst hr; simp [hj]
        · simp only [hr, if_false]
          exact ih k v r hq
  have app : ∀ (kv : Regs) (k : Nat) (v : Vec) (r : Nat), ¬ (kv.any fun p => decide (p.1 = k)) = true → rget (kv ++ [(k, v)]) r = if r = k then some v else rget kv r := by
    intro kv
    induction kv with
    | nil =>
      intro k v r h
      show rget [(k, v)] r = _
      unfold rget
      by_cases hr : k = r
      · subst hr; simp
      · have : ¬ r = k := fun e => hr e.symm
        simp [hr, this]
        rfl
    | cons p q ih =>
      intro k v r h
      obtain ⟨j, w⟩ := p
      rw [List.any_cons, Bool.or_eq_true, not_or] at h
      have hj : ¬ j = k := by simpa using h.1
      rw [List.cons_append]
      unfold rget
      by_cases hr : j = r
      · subst hr; simp [hj]
      · simp only [hr, if_false]
        exact ih k v r h.2
  intro kv k v r
  unfold rput
  split
  · rename_i h; exact fnd kv k v r h
  · rename_i h; exact app kv k v r h
def GoodV (n : Nat) (v : Vec) : Prop := v.length = n ∧ ∀ x ∈ v, Inr x
structure Inv (n : Nat) (safe : List Nat) (j : Nat) (kv : Regs) : Prop where
  has : ∀ r, r < 3 + j → ∃ v, rget kv r = some v ∧ (r ∈ safe → GoodV n v)
  len : kv.length ≤ 3 + j
theorem Inv.put {n : Nat} {safe : List Nat} {j : Nat} {kv : Regs} (h : Inv n safe j kv) {v : Vec} (hv : 3 + j ∈ safe → GoodV n v) : Inv n safe (j + 1) (rput kv (3 + j) v) := by
  refine ⟨fun r hr => ?_, ?_⟩
  · rw [rget_rput]
    by_cases hj : r = 3 + j
    · rw [if_pos hj]
      exact ⟨v, rfl, fun hs => hv (hj ▸ hs)⟩
    · rw [if_neg hj]
      exact h.has r (by omega)
  · have := rput_len kv (3 + j) v
    have := h.len
    omega
theorem Inv.gets {n : Nat} {safe : List Nat} {j : Nat} {kv : Regs} (h : Inv n safe j kv) : ∀ rs : List Nat, (∀ r ∈ rs, r ∈ safe ∧ r < 3 + j) → ∃ g, Fl.gets kv rs = some g ∧ g.length = rs.length ∧ ∀ v ∈ g, GoodV n v
  | [], _ => ⟨[], rfl, rfl, fun v hv => absurd hv (by simp)⟩
  | r :: q, hr => by
    obtain ⟨g, h1, h2, h3⟩ := Inv.gets h q fun r hr' => hr r (List.mem_cons_of_mem _ hr')
    obtain ⟨hs, hl⟩ := hr r List.mem_cons_self
    obtain ⟨v, h4, h5⟩ := h.has r hl
    refine ⟨v :: g, ?_, by simp [h2], fun w hw => ?_⟩
    · unfold Fl.gets
      rw [h4, h1]
    · rcases List.mem_cons.mp hw with rfl | hw
      · exact h5 hs
      · exact h3 w hw
theorem cal_inr {x : String} (hx : x ∈ signs) {a b : Int} (ha : Inr a) (hb : Inr b) (h : calT x b = false) : Inr (cal x a b) := by
  simp only [signs, List.mem_cons, List.not_mem_nil, or_false] at hx
  have w := wrp_rng
  rcases hx with rfl | rfl | rfl | rfl | rfl | rfl | rfl | rfl | rfl
  · exact w _
  · exact w _
  · exact w _
  · exact w _
  · show Inr (a.fmod b)
    have h0 : b ≠ 0 := by simpa [calT] using h
    unfold Inr at *
    rw [Int.fmod_eq_emod]
    have e1 := Int.emod_nonneg a h0
    rcases Int.lt_or_gt_of_ne h0 with h1 | h1
    · have e2 := Int.emod_lt_of_neg a h1
      split <;> omega
    · rw [if_pos (.inl (by omega))]
      have e2 := Int.emod_lt_of_pos a h1
      omega
  · show Inr (if b < a then b else a)
    split <;> assumption
  · show Inr (if b > a then b else a)
    split <;> assumption
  · show Inr (if a < b then 1 else 0)
    unfold Inr; split <;> omega
  · show Inr (if a = b then 1 else 0)
    unfold Inr; split <;> omega
/-- an instruction of drawn code: what it gives -/
theorem frm_exec {n : Nat} (hn : n ≤ 8) {i : Ins} (hi : Frm i) {g : List Vec} (hl : g.length = i.ins.length) (hg : ∀ v ∈ g, GoodV n v) : exec i.nm i.ex g = .trap ∨ ∃ v, exec i.nm i.ex g = .ok v ∧ v.length ≤ 2 * n ∧ (i.nm ≠ "join" → GoodV n v) := by
  have one : ∀ {g : List Vec}, g.length = 1 → ∃ a, g = [a] := fun {g} h => by
    rcases g with _ | ⟨a, _ | ⟨b, r⟩⟩
    · simp at h
    · exact ⟨a, rfl⟩
    · simp at h
  have two : ∀ {g : List Vec}, g.length = 2 → ∃ a b, g = [a, b] := fun {g} h => by
    rcases g with _ | ⟨a, _ | ⟨b, _ | ⟨c, r⟩⟩⟩
    · simp at h
    · simp at h
    · exact ⟨a, b, rfl⟩
    · simp at h
  have hs : ∀ a, a.length = n → sh a = true := fun a h => by unfold sh; simp; omega
  have len : ∀ {v}, GoodV n v → v.length ≤ 2 * n := fun h => by have := h.1; omega
  cases hi with
  | fill k hk x os =>
    obtain ⟨a, rfl⟩ := one hl
    obtain ⟨h1, h2⟩ := hg a (by simp)
    refine .inr ⟨List.replicate a.length (k : Int), ?_, ?_⟩
    · show gd (sh a) _ = _
      rw [hs a h1]; rfl
    · have : GoodV n (List.replicate a.length (k : Int)) := ⟨by rw [List.length_replicate, h1], fun x hx => by rw [(List.mem_replicate.mp hx).2]; unfold Inr; omega⟩
      exact ⟨len this, fun _ => this⟩
  | flags x os =>
    obtain ⟨a, rfl⟩ := one hl
    obtain ⟨h1, h2⟩ := hg a (by simp)
    have : GoodV n (flF a) := ⟨by unfold flF; rw [List.length_map, h1], fun x hx => by
      unfold flF at hx
      obtain ⟨y, _, rfl⟩ := List.mem_map.mp hx
      unfold Inr; split <;> omega⟩
    exact .inr ⟨_, rfl, len this, fun _ => this⟩
  | range x os =>
    obtain ⟨a, rfl⟩ := one hl
    have h := hg a (by simp)
    show (if rangeOkF a = true then Out.ok a else .trap) = _ ∨ _
    by_cases c : rangeOkF a = true
    · refine .inr ⟨a, ?_, len h, fun _ => h⟩
      show (if rangeOkF a = true then Out.ok a else .trap) = _
      rw [if_pos c]
    · rw [if_neg c]; exact .inl rfl
  | «calc» x hx a b os =>
    obtain ⟨a, b, rfl⟩ := two hl
    have h1 := hg a (by simp)
    have h2 := hg b (by simp)
    have hx' : x ∈ signs := by
      simp only [List.mem_cons, List.not_mem_nil, or_false] at hx
      rcases hx with rfl | rfl | rfl | rfl | rfl | rfl | rfl <;> decide
    have e : exec "calc" (.str x) [a, b] = if (List.range a.length).all (fun k => !calT x (b.getD k 0)) = true then .ok (calF x a b) else .trap := by
      show gd _ _ = _
      rw [(inrs_iff (a := a)).mpr h1.2, (inrs_iff (a := b)).mpr h2.2, decide_eq_true hx', decide_eq_true (show b.length = a.length by rw [h1.1, h2.1])]
      rfl
    show exec "calc" (.str x) [a, b] = _ ∨ ∃ v, exec "calc" (.str x) [a, b] = _ ∧ _
    rw [e]
    by_cases c : (List.range a.length).all (fun k => !calT x (b.getD k 0)) = true
    · have : GoodV n (calF x a b) := ⟨by unfold calF; rw [List.length_map, List.length_range, h1.1], fun y hy => by
        unfold calF at hy
        obtain ⟨k, hk, rfl⟩ := List.mem_map.mp hy
        have hk := List.mem_range.mp hk
        refine cal_inr hx' (h1.2 _ (getD_mem hk)) (h2.2 _ (getD_mem (by rw [h2.1, ← h1.1]; exact hk))) ?_
        have := List.all_eq_true.mp c k (List.mem_range.mpr hk)
        simpa using this⟩
      rw [if_pos c]
      exact .inr ⟨_, rfl, len this, fun _ => this⟩
    · rw [if_neg c]; exact .inl rfl
  | same x y os =>
    obtain ⟨a, b, rfl⟩ := two hl
    have h := hg a (by simp)
    have e : exec "same" .non [a, b] = if a = b then .ok a else .trap := rfl
    show exec "same" .non [a, b] = _ ∨ ∃ v, exec "same" .non [a, b] = _ ∧ _
    rw [e]
    by_cases c : a = b
    · rw [if_pos c]; exact .inr ⟨a, rfl, len h, fun _ => h⟩
    · rw [if_neg c]; exact .inl rfl
  | join x y os =>
    obtain ⟨a, b, rfl⟩ := two hl
    obtain ⟨h1, _⟩ := hg a (by simp)
    obtain ⟨h2, _⟩ := hg b (by simp)
    refine .inr ⟨a ++ b, ?_, by rw [List.length_append]; omega, fun h => absurd rfl h⟩
    show gd (sh a && sh b) _ = _
    rw [hs a h1, hs b h2]; rfl
/-- a turn of drawn code -/
theorem cok_step {n : Nat} (hn : n ≤ 8) {code : List Ins} {safe : List Nat} (hk : Cok code safe) (hl : code.length ≤ 1000) {C : String → List Vec → Nat → Nat → MR} {j : Nat} {i : Ins} (hj : code[j]? = some i) {m : MS} (h : Inv n safe j m.kv) :
    ∃ g, gets m.kv i.ins = some g ∧ g.length = i.ins.length ∧ (∀ v ∈ g, GoodV n v) ∧ i.nm ≠ "call" ∧ i.outs = [3 + j] ∧ ((exec i.nm i.ex g = .trap ∧ mstep exec C m i = .trap) ∨ ∃ v, exec i.nm i.ex g = .ok v ∧ mstep exec C m i = .ok ⟨rput m.kv (3 + j) v, m.st + 1, m.tc + lens g + v.length⟩ ∧ Inv n safe (j + 1) (rput m.kv (3 + j) v)) := by
  obtain ⟨g, h1, h2, h3⟩ := h.gets i.ins (hk.ins j i hj)
  have hf := hk.frm i (List.mem_of_getElem? hj)
  have hc : i.nm ≠ "call" := by cases hf <;> simp
  have ho := hk.out j i hj
  have hjl := (List.getElem?_eq_some_iff.mp hj).1
  have hkl : m.kv.length < 16000000 := by have := h.len; omega
  refine ⟨g, h1, h2, h3, hc, ho, ?_⟩
  rcases frm_exec hn hf h2 h3 with e | ⟨v, e, _, hv⟩
  · refine .inl ⟨e, ?_⟩
    unfold mstep
    rw [if_pos hkl, h1]
    dsimp only
    rw [if_neg hc, e]
  · refine .inr ⟨v, e, ?_, h.put fun hs => hv (hk.nj j i hj hs)⟩
    unfold mstep
    rw [if_pos hkl, h1]
    dsimp only
    rw [if_neg hc, e]
    dsimp only
    rw [ho]
end Fl
set_option Elab.async false
set_option linter.all false
set_option maxRecDepth 100000
/-! Fl: repr of trees; equality of trees. -/
namespace Fl
mutual
theorem T_refl : ∀ d : T, T.beq d d = true
  | .non => by simp [T.beq]
  | .bl b => by simp [T.beq]
  | .int b => by simp [T.beq]
  | .str b => by simp [T.beq]
  | .tup b => by simp only [T.beq]; exact T_refls b
  | .lst b => by simp only [T.beq]; exact T_refls b
  | .dct b => by simp only [T.beq]; exact T_reflk b
  | .rp b => by simp only [T.beq]; exact T_refl b
theorem T_refls : ∀ d : List T, T.beqs d d = true
  | [] => by simp [T.beqs]
  | a :: r => by simp only [T.beqs, Bool.and_eq_true]; exact ⟨T_refl a, T_refls r⟩
theorem T_reflk : ∀ d : List (Key × T), T.beqk d d = true
  | [] => by simp [T.beqk]
  | a :: r => by simp only [T.beqk, Bool.and_eq_true]; exact ⟨T_reflp a, T_reflk r⟩
theorem T_reflp : ∀ d : Key × T, T.beqp d d = true
  | (k, a) => by rw [T.beqp, T_refl a]; simp
end
theorem rp_eq (d : T) (s : Store) : eqV (.t (.rp d)) (.t (.rp d)) s = .ok true s := by
  show (match (if T.beq d d then some true else none) with | some r => R.ok r s | none => .bad) = _
  rw [T_refl]; rfl
theorem rp_run {d : T} (h1 : reprOk d = true) (h2 : T.plain 60 d = true) (h3 : T.rlen d ≤ L) (s : Store) : reprV (.t d) s = .ok (.t (.rp d)) s := by
  have e : deep s deepMax (.t d) = some d := by unfold deepMax; rw [deep]
  unfold reprV
  rw [e]
  dsimp only
  rw [if_pos ⟨h1, h2, h3⟩]
theorem rlens_le (K : Nat) : ∀ l : List T, (∀ d ∈ l, T.rlen d ≤ K) → T.rlens l ≤ (K + 2) * l.length
  | [], _ => by simp [T.rlens]
  | a :: r, h => by
    have ih := rlens_le K r fun d hd => h d (List.mem_cons_of_mem _ hd)
    have := h a List.mem_cons_self
    rw [T.rlens, List.length_cons, Nat.mul_succ]
    omega
theorem rlen_lst (K : Nat) (l : List T) (h : ∀ d ∈ l, T.rlen d ≤ K) : T.rlen (.lst l) ≤ (K + 2) * l.length + 3 := by
  have := rlens_le K l h
  rw [T.rlen]; omega
theorem rlen_tup (K : Nat) (l : List T) (h : ∀ d ∈ l, T.rlen d ≤ K) : T.rlen (.tup l) ≤ (K + 2) * l.length + 3 := by
  have := rlens_le K l h
  rw [T.rlen]; omega
theorem rlen_int {i : Int} (h : i.natAbs < 2 ^ 64) : T.rlen (.int i) = 70 := by rw [T.rlen, if_pos h]
theorem plain_mono : ∀ (n : Nat) (d : T), T.plain n d = true → T.plain (n + 1) d = true
  | n, .non, _ => by rw [T.plain]
  | n, .bl _, _ => by rw [T.plain]
  | n, .int _, _ => by rw [T.plain]
  | n, .str _, _ => by rw [T.plain]
  | n + 1, .tup a, h => by
    rw [T.plain, List.all_eq_true] at h ⊢
    exact fun d hd => plain_mono n d (h d hd)
  | n + 1, .lst a, h => by
    rw [T.plain, List.all_eq_true] at h ⊢
    exact fun d hd => plain_mono n d (h d hd)
  | 0, .tup a, h => by simp [T.plain] at h
  | 0, .lst a, h => by simp [T.plain] at h
  | n, .dct _, h => by cases n <;> simp [T.plain] at h
  | n, .rp _, h => by cases n <;> simp [T.plain] at h
theorem plain_le {n m : Nat} (h : n ≤ m) {d : T} (hd : T.plain n d = true) : T.plain m d = true := by
  induction m with
  | zero => rw [show n = 0 by omega] at hd; exact hd
  | succ m ih =>
    by_cases c : n = m + 1
    · rw [← c]; exact hd
    · exact plain_mono m d (ih (by omega))
theorem plain_lst {n : Nat} {l : List T} (h : ∀ d ∈ l, T.plain n d = true) : T.plain (n + 1) (.lst l) = true := by
  rw [T.plain, List.all_eq_true]; exact h
theorem plain_tup {n : Nat} {l : List T} (h : ∀ d ∈ l, T.plain n d = true) : T.plain (n + 1) (.tup l) = true := by
  rw [T.plain, List.all_eq_true]; exact h
theorem plain_li (n : Nat) (xs : List Int) : T.plain (n + 1) (li xs) = true := plain_lst fun d hd => by
  obtain ⟨i, _, rfl⟩ := List.mem_map.mp hd
  rw [T.plain]
theorem eqvs_refl_of {l : List T} (h : ∀ d ∈ l, T.eqv d d = true) : T.eqvs l l = true := by
  induction l with
  | nil => simp [T.eqvs]
  | cons a r ih =>
    rw [T.eqvs, h a List.mem_cons_self, ih fun d hd => h d (List.mem_cons_of_mem _ hd)]
    rfl
theorem eqv_refl : ∀ (n : Nat) (d : T), T.plain n d = true → T.eqv d d = true
  | n, .non, _ => by simp [T.eqv]
  | n, .bl _, _ => by simp [T.eqv]
  | n, .int _, _ => by simp [T.eqv]
  | n, .str _, _ => by simp [T.eqv]
  | n + 1, .tup a, h => by
    rw [T.plain, List.all_eq_true] at h
    rw [T.eqv]
    exact eqvs_refl_of fun d hd => eqv_refl n d (h d hd)
  | n + 1, .lst a, h => by
    rw [T.plain, List.all_eq_true] at h
    rw [T.eqv]
    exact eqvs_refl_of fun d hd => eqv_refl n d (h d hd)
  | 0, .tup a, h => by simp [T.plain] at h
  | 0, .lst a, h => by simp [T.plain] at h
  | n, .dct _, h => by cases n <;> simp [T.plain] at h
  | n, .rp _, h => by cases n <;> simp [T.plain] at h
/-- equal trees are told equal -/
theorem eq_refl {d : T} (h : T.plain 60 d = true) (s : Store) : eqV (.t d) (.t d) s = .ok true s := by
  have hn : ∀ e, d ≠ .rp e := fun e he => by rw [he] at h; simp [T.plain] at h
  have e1 : T.eq? d d = some true := by
    unfold T.eq?
    split
    · exact absurd rfl (hn _)
    · rw [h, eqv_refl 60 d h]; rfl
  show (match T.eq? d d with | some r => R.ok r s | none => .bad) = _
  rw [e1]
end Fl
set_option Elab.async false
set_option linter.all false
set_option maxRecDepth 100000
/-! Fl: kinds and values that are drawn. -/
namespace Fl
noncomputable section
def g_w_kind (G : FEnv) : SM := sSeq (sAsg (eCall G 75 [eVar 0, eC (.int 4)]) (gVar 2)) (sSeq (sIf (tOr (tEq (eVar 1) (eC (.int 0))) (tEq (eVar 2) (eC (.int 0)))) (sRet (eTup false [eC (.str "num")])) (sNil)) (sSeq (sIf (tEq (eVar 2) (eC (.int 1))) (sRet (eTup false [eC (.str "pair"), eCall G 81 [eVar 0, e2 subV (eVar 1) (eC (.int 1))], eCall G 81 [eVar 0, e2 subV (eVar 1) (eC (.int 1))]])) (sNil)) (sRet (eTup false [eC (.str "seq"), eCall G 81 [eVar 0, e2 subV (eVar 1) (eC (.int 1))]]))))
def g_w_value (G : FEnv) : SM := sSeq (sIf (tEq (e2 subI (eVar 1) (eC (.int 0))) (eC (.str "num"))) (sRet (eCall G 77 [eVar 0])) (sNil)) (sSeq (sIf (tEq (e2 subI (eVar 1) (eC (.int 0))) (eC (.str "pair"))) (sRet (eTup false [eCall G 82 [eVar 0, e2 subI (eVar 1) (eC (.int 1))], eCall G 82 [eVar 0, e2 subI (eVar 1) (eC (.int 2))]])) (sNil)) (sRet (eCompR false [2] (iRange1 (eCall G 75 [eVar 0, eC (.int 4)])) (gVar 2) none (eCall G 82 [eVar 0, e2 subI (eVar 1) (eC (.int 1))]))))
end
structure BaseK (Γ : Nat → FEnv) : Prop where
  w_kind : ∀ n, Γ (n + 1) 81 = mkFn 3 2 (g_w_kind (Γ n))
  w_value : ∀ n, Γ (n + 1) 82 = mkFn 3 2 (g_w_value (Γ n))
namespace Kd
/-- small values -/
def Sml : (k : Kd) → k.V → Prop
  | num, i => Inr i
  | pair a b, p => Sml a p.1 ∧ Sml b p.2
  | seq a, xs => List.length xs ≤ 3 ∧ ∀ x ∈ (xs : List a.V), Sml a x
/-- the length of a repr, by depth -/
def rl : Nat → Nat
  | 0 => 0
  | 1 => 70
  | d + 2 => 3 * rl (d + 1) + 9
theorem rl_pos (d : Nat) : 70 ≤ rl (d + 1) := by
  induction d with
  | zero => exact Nat.le_refl _
  | succ d ih => show 70 ≤ 3 * rl (d + 1) + 9; omega
theorem rl_le {d e : Nat} (h : d ≤ e) : rl d ≤ rl e := by
  induction h with
  | refl => exact Nat.le_refl _
  | step h ih =>
    rename_i m
    refine Nat.le_trans ih ?_
    cases m with
    | zero => exact Nat.zero_le _
    | succ m => show rl (m + 1) ≤ 3 * rl (m + 1) + 9; omega
theorem rlen_e : ∀ (k : Kd) (x : k.V), Sml k x → T.rlen (k.e x) ≤ rl k.dep
  | num, i, h => by
    have : Inr i := h
    unfold Inr at this
    have e2 : (2:Nat)^64 = 18446744073709551616 := rfl
    show T.rlen (.int i) ≤ 70
    rw [rlen_int (by omega)]
    exact Nat.le_refl _
  | pair a b, p, h => by
    have h1 := rlen_e a p.1 h.1
    have h2 := rlen_e b p.2 h.2
    have m1 := rl_le (Nat.le_max_left a.dep b.dep)
    have m2 := rl_le (Nat.le_max_right a.dep b.dep)
    obtain ⟨d, hd⟩ : ∃ d, max a.dep b.dep = d + 1 := ⟨max a.dep b.dep - 1, by have : 1 ≤ a.dep := by { cases a <;> simp [dep] }; omega⟩
    show T.rlen (.tup [a.e p.1, b.e p.2]) ≤ rl (max a.dep b.dep + 1)
    rw [hd] at m1 m2 ⊢
    rw [T.rlen, T.rlens, T.rlens, T.rlens]
    have := rl_pos d
    show _ ≤ 3 * rl (d + 1) + 9
    omega
  | seq a, xs, h => by
    obtain ⟨d, hd⟩ : ∃ d, a.dep = d + 1 := ⟨a.dep - 1, by have : 1 ≤ a.dep := by { cases a <;> simp [dep] }; omega⟩
    have := rlen_lst (rl a.dep) (List.map a.e xs) fun d hd => by
      obtain ⟨x, hx, rfl⟩ := List.mem_map.mp hd
      exact rlen_e a x (h.2 x hx)
    show T.rlen (.lst (List.map a.e xs)) ≤ rl (a.dep + 1)
    rw [List.length_map] at this
    rw [hd] at this ⊢
    have h3 := h.1
    have : (rl (d + 1) + 2) * List.length xs ≤ (rl (d + 1) + 2) * 3 := Nat.mul_le_mul_left _ h3
    show _ ≤ 3 * rl (d + 1) + 9
    omega
theorem plain_e : ∀ (k : Kd) (x : k.V), T.plain k.dep (k.e x) = true
  | num, i => by show T.plain 1 (.int i) = true; rw [T.plain]
  | pair a b, p => plain_tup fun d hd => by
    simp only [List.mem_cons, List.not_mem_nil, or_false] at hd
    rcases hd with rfl | rfl
    · exact plain_le (Nat.le_max_left _ _) (plain_e a p.1)
    · exact plain_le (Nat.le_max_right _ _) (plain_e b p.2)
  | seq a, xs => plain_lst fun d hd => by
    obtain ⟨x, hx, rfl⟩ := List.mem_map.mp hd
    exact plain_e a x
theorem flat_len {α : Type} {N : Nat} : ∀ (xs : List (List α)), (∀ x ∈ xs, x.length ≤ 3) → xs.length ≤ N → xs.flatten.length ≤ 3 * N := by
  intro xs h1 h2
  have : ∀ xs : List (List α), (∀ x ∈ xs, x.length ≤ 3) → xs.flatten.length ≤ 3 * xs.length := by
    intro xs
    induction xs with
    | nil => intro _; simp
    | cons x r ih =>
      intro h
      have := ih fun y hy => h y (List.mem_cons_of_mem _ hy)
      have := h x List.mem_cons_self
      simp only [List.flatten_cons, List.length_append, List.length_cons]; omega
  have := this xs h1
  omega
theorem vecs_bd : ∀ (k : Kd) (xs : List k.V) (N : Nat), xs.length ≤ N → (∀ x ∈ xs, Sml k x) → ∀ v ∈ k.vecs xs, v.length ≤ N * 3 ^ k.dep
  | num, xs, N, hl, hx, v, hv => by
    have hv : v ∈ [xs] := hv
    rw [List.mem_singleton.mp hv]
    show _ ≤ N * 3 ^ 1
    omega
  | pair a b, xs, N, hl, hx, v, hv => by
    have e1 : (3:Nat) ^ a.dep ≤ 3 ^ (max a.dep b.dep + 1) := Nat.pow_le_pow_right (by decide) (by omega)
    have e2 : (3:Nat) ^ b.dep ≤ 3 ^ (max a.dep b.dep + 1) := Nat.pow_le_pow_right (by decide) (by omega)
    rcases List.mem_append.mp hv with hv | hv
    · exact Nat.le_trans (vecs_bd a _ N (by rw [List.length_map]; exact hl) (fun x hx' => by obtain ⟨p, hp, rfl⟩ := List.mem_map.mp hx'; exact (hx p hp).1) v hv) (Nat.mul_le_mul_left _ e1)
    · exact Nat.le_trans (vecs_bd b _ N (by rw [List.length_map]; exact hl) (fun x hx' => by obtain ⟨p, hp, rfl⟩ := List.mem_map.mp hx'; exact (hx p hp).2) v hv) (Nat.mul_le_mul_left _ e2)
  | seq a, xs, N, hl, hx, v, hv => by
    rcases List.mem_cons.mp hv with rfl | hv
    · have : (ni (List.map List.length xs)).length = xs.length := by simp [ni]
      rw [this]
      have : 1 ≤ 3 ^ (seq a).dep := Nat.pow_pos (by decide)
      exact Nat.le_trans hl (Nat.le_mul_of_pos_right _ this)
    · have := vecs_bd a (List.flatten xs) (3 * N) (flat_len xs (fun x hx' => (hx x hx').1) hl) (fun x hx' => by
        obtain ⟨y, hy, h⟩ := List.mem_flatten.mp hx'
        exact (hx y hy).2 x h) v hv
      have e : 3 * N * 3 ^ a.dep = N * 3 ^ (seq a).dep := by
        show _ = N * 3 ^ (a.dep + 1)
        rw [Nat.pow_succ, Nat.mul_comm 3 N, Nat.mul_assoc, Nat.mul_comm 3]
      rw [← e]; exact this
theorem wid_bd : ∀ k : Kd, k.wid ≤ 2 ^ k.dep
  | num => by decide
  | pair a b => by
    have h1 := wid_bd a
    have h2 := wid_bd b
    have e1 : (2:Nat) ^ a.dep ≤ 2 ^ (max a.dep b.dep) := Nat.pow_le_pow_right (by decide) (by omega)
    have e2 : (2:Nat) ^ b.dep ≤ 2 ^ (max a.dep b.dep) := Nat.pow_le_pow_right (by decide) (by omega)
    show a.wid + b.wid ≤ 2 ^ (max a.dep b.dep + 1)
    rw [Nat.pow_succ]; omega
  | seq a => by
    have h1 := wid_bd a
    have : 1 ≤ 2 ^ a.dep := Nat.one_le_two_pow
    show 1 + a.wid ≤ 2 ^ (a.dep + 1)
    rw [Nat.pow_succ]; omega
end Kd
section
variable {Γ : Nat → FEnv}
theorem b_kind (B : Base Γ) (K : BaseK Γ) : ∀ (d n : Nat) {r s : Store}, IsSt r s → ∃ (k : Kd) (s' : Store), k.dep ≤ d + 1 ∧ IsSt r s' ∧ Γ (n + d + 2) 81 [.loc 1, .t (.int (d : Nat))] s = .ok (.t k.t) s'
  | 0, n, r, s, h => by
    obtain ⟨v, s1, hv, h1, e1⟩ := b_drawN B n h (k := 4) (by decide) (by decide)
    have e1 : Γ (n + 1) 75 [.loc 1, .t (.int 4)] s = .ok (iv (v : Nat)) s1 := e1
    refine ⟨.num, s1, Nat.le_refl _, h1, ?_⟩
    show Γ (n + 1 + 1) 81 _ s = _
    rw [K.w_kind]
    refine fn_rt ?_ rfl rfl (st_len h h1)
    simp [g_w_kind, start, e1]
    rfl
  | d + 1, n, r, s, h => by
    obtain ⟨v, s1, hv, h1, e1⟩ := b_drawN B (n + d + 1) h (k := 4) (by decide) (by decide)
    have e1 : Γ (n + d + 2) 75 [.loc 1, .t (.int 4)] s = .ok (iv (v : Nat)) s1 := e1
    show ∃ k s', _ ∧ _ ∧ Γ (n + d + 2 + 1) 81 _ s = _
    rw [K.w_kind]
    have ed : (((d + 1 : Nat) : Int) - 1) = (d : Nat) := by omega
    have ez : ((((d + 1 : Nat) : Int)) == 0) = false := by simp; omega
    have ez' : (((d : Int) + 1) == 0) = false := by simp; omega
    have ed' : ((d : Int) + 1 - 1) = (d : Nat) := by omega
    by_cases hv0 : v = 0
    · subst hv0
      refine ⟨.num, s1, by show 1 ≤ _; omega, h1, fn_rt ?_ rfl rfl (st_len h h1)⟩
      simp [g_w_kind, start, e1]
      rfl
    · have hv0' : (((v : Nat) : Int) == 0) = false := by simpa using hv0
      obtain ⟨k1, s2, hk1, h2, e2⟩ := b_kind B K d n h1
      by_cases hv1 : v = 1
      · subst hv1
        obtain ⟨k2, s3, hk2, h3, e3⟩ := b_kind B K d n h2
        refine ⟨.pair k1 k2, s3, by show max k1.dep k2.dep + 1 ≤ _; omega, h3, fn_rt ?_ rfl rfl ((st_len h2 h3).trans ((st_len h1 h2).trans (st_len h h1)))⟩
        simp [g_w_kind, start, e1, ez', ed', e2, e3]
        rfl
      · have hv1' : (((v : Nat) : Int) == 1) = false := by simp; omega
        refine ⟨.seq k1, s2, by show k1.dep + 1 ≤ _; omega, h2, fn_rt ?_ rfl rfl ((st_len h1 h2).trans (st_len h h1))⟩
        simp [g_w_kind, start, e1, ez', hv0', hv1', ed', e2]
        rfl
theorem b_value (B : Base Γ) (K : BaseK Γ) : ∀ (k : Kd) (m : Nat), k.dep + 3 ≤ m → ∀ {r s : Store}, IsSt r s → ∃ (x : k.V) (s' : Store), k.Sml x ∧ IsSt r s' ∧ Γ m 82 [.loc 1, .t k.t] s = .ok (.t (k.e x)) s'
  | .num, m, hm, r, s, h => by
    obtain ⟨n, rfl⟩ : ∃ n, m = n + 3 + 1 := ⟨m - 4, by have : 1 + 3 ≤ m := hm; omega⟩
    obtain ⟨v, s1, hv, h1, e1⟩ := b_number B n h
    refine ⟨v, s1, hv, h1, ?_⟩
    rw [K.w_value]
    refine fn_rt ?_ rfl rfl (st_len h h1)
    simp [g_w_value, start, e1]
    rfl
  | .pair a b, m, hm, r, s, h => by
    have hm' : max a.dep b.dep + 1 + 3 ≤ m := hm
    obtain ⟨n, rfl⟩ : ∃ n, m = n + 1 := ⟨m - 1, by omega⟩
    obtain ⟨x, s1, hx, h1, e1⟩ := b_value B K a n (by omega) h
    obtain ⟨y, s2, hy, h2, e2⟩ := b_value B K b n (by omega) h1
    refine ⟨(x, y), s2, ⟨hx, hy⟩, h2, ?_⟩
    rw [K.w_value]
    refine fn_rt ?_ rfl rfl ((st_len h1 h2).trans (st_len h h1))
    simp [g_w_value, start, e1, e2]
    rfl
  | .seq a, m, hm, r, s, h => by
    have hm' : a.dep + 1 + 3 ≤ m := hm
    obtain ⟨n, rfl⟩ : ∃ n, m = n + 1 + 1 := ⟨m - 2, by omega⟩
    obtain ⟨w, s1, hw, h1, e1⟩ := b_drawN B n h (k := 4) (by decide) (by decide)
    have e1 : Γ (n + 1) 75 [.loc 1, .t (.int 4)] s = .ok (iv (w : Nat)) s1 := e1
    rw [K.w_value]
    generalize hc : eCompR false [2] (iRange1 (eCall (Γ (n + 1)) 75 [eVar 0, eC (.int 4)])) (gVar 2) none (eCall (Γ (n + 1)) 82 [eVar 0, e2 subI (eVar 1) (eC (.int 1))]) [some (.loc 1), some (.t (Kd.seq a).t), none] s = o
    obtain ⟨ys, s2, hp, hl, h2, rfl⟩ := rdraw hc (n := w) (by simp [e1]) (by omega) h1 a.e a.Sml (fun k hk s' hs' => by
      obtain ⟨y, s3, hy, h3, e3⟩ := b_value B K a (n + 1) (by omega) hs'
      exact ⟨y, s3, hy, h3, by simp [wipeE, e3]⟩)
    refine ⟨ys, s2, ⟨by omega, hp⟩, h2, fn_rt ?_ rfl rfl ((st_len h1 h2).trans (st_len h h1))⟩
    have e0 : start 3 [Val.loc 1, .t (Kd.seq a).t] = [some (.loc 1), some (.t (Kd.seq a).t), none] := rfl
    rw [e0]
    unfold g_w_value
    simp only [p_seq2, p_if, p_tEq, p_e2, p_var1, p_var0, p_ok, p_eC, k_seq, p_eqS, p_sok, p_ret, hc, show (("seq" : String) == "num") = false by decide, show (("seq" : String) == "pair") = false by decide, Bool.false_eq_true, if_false, p_nil, then_nx]
    rfl
end
end Fl
set_option Elab.async false
set_option linter.all false
set_option maxRecDepth 100000
/-! Fl: drawn blocks as texts. -/
namespace Fl
/-- an instruction that is short as a text -/
def InsSm (i : Ins) : Prop := i.nm.length ≤ 10 ∧ (i.ex = .non ∨ (∃ k : Nat, k < 3 ∧ i.ex = .int (k : Nat)) ∨ ∃ x : String, x.length ≤ 10 ∧ i.ex = .str x) ∧ i.ins.length ≤ 5 ∧ i.outs.length ≤ 5 ∧ (∀ r ∈ i.ins, r ≤ 1000) ∧ ∀ r ∈ i.outs, r ≤ 1000
theorem rlen_ni {l : List Nat} (h : ∀ r ∈ l, r ≤ 1000) : T.rlen (li (ni l)) ≤ 72 * l.length + 3 := by
  have := rlen_lst 70 ((ni l).map T.int) fun d hd => by
    simp only [List.mem_map] at hd
    obtain ⟨_, ⟨k, hk, rfl⟩, rfl⟩ := hd
    have := h k hk
    have e : (2:Nat)^64 = 18446744073709551616 := rfl
    rw [rlen_int (by omega)]; exact Nat.le_refl _
  rw [List.length_map, List.length_map] at this
  exact this
theorem InsSm.rlen {i : Ins} (h : InsSm i) : T.rlen i.t ≤ 4011 := by
  obtain ⟨h1, h2, h3, h4, h5, h6⟩ := h
  have := rlen_tup 1000 [.str i.nm, i.ex, li (ni i.ins), li (ni i.outs)] fun d hd => by
    simp only [List.mem_cons, List.not_mem_nil, or_false] at hd
    rcases hd with rfl | rfl | rfl | rfl
    · rw [T.rlen]; omega
    · rcases h2 with e | ⟨k, hk, e⟩ | ⟨x, hx, e⟩
      · rw [e, T.rlen]; omega
      · have e2 : (2:Nat)^64 = 18446744073709551616 := rfl
        rw [e, rlen_int (by omega)]; omega
      · rw [e, T.rlen]; omega
    · have := rlen_ni h5; omega
    · have := rlen_ni h6; omega
  exact this
theorem InsSm.plain {i : Ins} (h : InsSm i) (n : Nat) : T.plain (n + 2) i.t = true := plain_tup fun d hd => by
  obtain ⟨h1, h2, h3, h4, h5, h6⟩ := h
  simp only [List.mem_cons, List.not_mem_nil, or_false] at hd
  rcases hd with rfl | rfl | rfl | rfl
  · rw [T.plain]
  · rcases h2 with e | ⟨k, hk, e⟩ | ⟨x, hx, e⟩ <;> rw [e, T.plain]
  · exact plain_li n _
  · exact plain_li n _
theorem frm_sm {i : Ins} (hf : Frm i) (hi : ∀ r ∈ i.ins, r ≤ 1000) (ho : i.outs.length ≤ 5 ∧ ∀ r ∈ i.outs, r ≤ 1000) : InsSm i := by
  cases hf with
  | fill k hk a os => exact ⟨show "fill".length ≤ 10 by decide, .inr (.inl ⟨k, hk, rfl⟩), by simp, ho.1, hi, ho.2⟩
  | flags a os => exact ⟨show "flags".length ≤ 10 by decide, .inl rfl, by simp, ho.1, hi, ho.2⟩
  | range a os => exact ⟨show "range".length ≤ 10 by decide, .inl rfl, by simp, ho.1, hi, ho.2⟩
  | «calc» x hx a b os => exact ⟨show "calc".length ≤ 10 by decide, .inr (.inr ⟨x, by
      simp only [List.mem_cons, List.not_mem_nil, or_false] at hx
      rcases hx with rfl | rfl | rfl | rfl | rfl | rfl | rfl <;> decide, rfl⟩), by simp, ho.1, hi, ho.2⟩
  | same a b os => exact ⟨show "same".length ≤ 10 by decide, .inl rfl, by simp, ho.1, hi, ho.2⟩
  | join a b os => exact ⟨show "join".length ≤ 10 by decide, .inl rfl, by simp, ho.1, hi, ho.2⟩
theorem Cok.sm {code : List Ins} {safe : List Nat} (h : Cok code safe) (hl : code.length ≤ 33) : ∀ i ∈ code, InsSm i := fun i hi => by
  obtain ⟨k, e⟩ := List.getElem?_of_mem hi
  have hk := (List.getElem?_eq_some_iff.mp e).1
  refine frm_sm (h.frm i hi) (fun r hr => by have := (h.ins k i e r hr).2; omega) ?_
  rw [h.out k i e]
  exact ⟨by simp, fun r hr => by rw [List.mem_singleton.mp hr]; omega⟩
theorem Mok.sm {code : List Ins} {safe : List Nat} (h : Cok code safe) (hl : code.length ≤ 33) {mc : List Ins} {mr : Nat} (hm : Mok code safe mc mr) : (∀ i ∈ mc, InsSm i) ∧ mc.length ≤ 34 ∧ mr ≤ 1000 := by
  cases hm with
  | flat r hr => exact ⟨h.sm hl, by omega, by have := h.saf mr hr; omega⟩
  | call a b r ha hb hr =>
    refine ⟨fun i hi => ?_, by rw [List.length_append]; simp; omega, ?_⟩
    · rcases List.mem_append.mp hi with hi | hi
      · exact h.sm hl i hi
      · rw [List.mem_singleton.mp hi]
        have h1 := h.saf a ha
        have h2 := h.saf b hb
        refine ⟨by show "call".length ≤ 10; decide, .inr (.inr ⟨"other", by decide, rfl⟩), by simp, by simp, ?_, ?_⟩
        · intro r hr; simp only [List.mem_cons, List.not_mem_nil, or_false] at hr; rcases hr with rfl | rfl | rfl <;> omega
        · intro r hr; simp only [List.mem_cons, List.not_mem_nil, or_false] at hr; omega
    · rcases hr with hr | rfl
      · have := h.saf mr hr; omega
      · omega
/-- a block that is short as a text -/
theorem blk_sm {b : Blk} (h1 : b.nm.length ≤ 10) (h2 : b.giv = kPair ∧ b.res = .num) (h3 : ∀ i ∈ b.code, InsSm i) (h4 : b.code.length ≤ 100) (h5 : b.outs.length ≤ 5 ∧ ∀ r ∈ b.outs, r ≤ 1000) (n : Nat) : T.rlen b.t ≤ 3000000 ∧ T.plain (n + 4) b.t = true := by
  have hc := rlen_lst 4011 (b.code.map Ins.t) fun d hd => by
    obtain ⟨i, hi, rfl⟩ := List.mem_map.mp hd
    exact (h3 i hi).rlen
  rw [List.length_map] at hc
  have ho := rlen_ni h5.2
  have hg : T.rlen kPair.t ≤ 1000 := by
    show T.rlen (.tup [.str "pair", .tup [.str "num"], .tup [.str "num"]]) ≤ _
    simp only [T.rlen, T.rlens, show "pair".length = 4 from rfl, show "num".length = 3 from rfl]; omega
  have hr : T.rlen Kd.num.t ≤ 1000 := by
    show T.rlen (.tup [.str "num"]) ≤ _
    simp only [T.rlen, T.rlens, show "num".length = 3 from rfl]; omega
  refine ⟨?_, plain_tup fun d hd => ?_⟩
  · have := rlen_tup 499900 [.str "block", .str b.nm, b.giv.t, b.res.t, .lst (b.code.map Ins.t), li (ni b.outs)] fun d hd => by
      simp only [List.mem_cons, List.not_mem_nil, or_false] at hd
      rcases hd with rfl | rfl | rfl | rfl | rfl | rfl
      · rw [T.rlen, show "block".length = 5 from rfl]; omega
      · rw [T.rlen]; omega
      · rw [h2.1]; omega
      · rw [h2.2]; omega
      · omega
      · omega
    have e : T.rlen b.t = T.rlen (.tup [.str "block", .str b.nm, b.giv.t, b.res.t, .lst (b.code.map Ins.t), li (ni b.outs)]) := rfl
    rw [e]
    simp only [List.length_cons, List.length_nil] at this
    omega
  · simp only [List.mem_cons, List.not_mem_nil, or_false] at hd
    rcases hd with rfl | rfl | rfl | rfl | rfl | rfl
    · rw [T.plain]
    · rw [T.plain]
    · rw [h2.1]
      exact plain_le (n := 2) (by omega) rfl
    · rw [h2.2]
      exact plain_le (n := 2) (by omega) rfl
    · exact plain_lst fun d hd => by
        obtain ⟨i, hi, rfl⟩ := List.mem_map.mp hd
        exact (h3 i hi).plain n
    · exact plain_li _ _
end Fl
set_option Elab.async false
set_option linter.all false
set_option maxRecDepth 100000
/-! Fl: dicts by numbers. -/
namespace Fl
section
variable {α : Type}
abbrev ND (α : Type) := List (Nat × α)
def aget : ND α → Nat → Option α
  | [], _ => none
  | (j, v) :: r, k => if j = k then some v else aget r k
def aput (kv : ND α) (k : Nat) (v : α) : ND α := if kv.any (fun p => decide (p.1 = k)) then kv.map fun p => if p.1 = k then (p.1, v) else p else kv ++ [(k, v)]
def adel (kv : ND α) (k : Nat) : ND α := kv.filter fun p => decide (p.1 ≠ k)
def akv (e : α → T) (kv : ND α) : List (Key × Val) := kv.map fun p => (Key.i (p.1 : Nat), Val.t (e p.2))
def akt (e : α → T) (kv : ND α) : List (Key × T) := kv.map fun p => (Key.i (p.1 : Nat), e p.2)
theorem key_iff (j k : Nat) : (Key.i (j : Nat) = Key.i (k : Nat)) ↔ j = k := ⟨fun h => by injection h with h; omega, fun h => by rw [h]⟩
theorem dget_akv (e : α → T) : ∀ (kv : ND α) (k : Nat), dget (akv e kv) (.i (k : Nat)) = (aget kv k).map fun v => Val.t (e v)
  | [], _ => rfl
  | (j, v) :: r, k => by
    show (if Key.i (j : Nat) = Key.i (k : Nat) then some (Val.t (e v)) else dget (akv e r) (.i (k : Nat))) = _
    unfold aget
    by_cases c : j = k
    · subst c; rw [if_pos rfl, if_pos rfl]; rfl
    · rw [if_neg (fun h => c ((key_iff _ _).mp h)), if_neg c, dget_akv e r k]
theorem dget_akt (e : α → T) : ∀ (kv : ND α) (k : Nat), dget (akt e kv) (.i (k : Nat)) = (aget kv k).map e
  | [], _ => rfl
  | (j, v) :: r, k => by
    show (if Key.i (j : Nat) = Key.i (k : Nat) then some (e v) else dget (akt e r) (.i (k : Nat))) = _
    unfold aget
    by_cases c : j = k
    · subst c; rw [if_pos rfl, if_pos rfl]; rfl
    · rw [if_neg (fun h => c ((key_iff _ _).mp h)), if_neg c, dget_akt e r k]
theorem dput_akv (e : α → T) (kv : ND α) (k : Nat) (v : α) : dput (akv e kv) (.i (k : Nat)) (.t (e v)) = akv e (aput kv k v) := by
  unfold dput aput akv
  rw [List.any_map]
  have e2 : ((fun p : Key × Val => decide (p.1 = Key.i (k : Nat))) ∘ fun p : Nat × α => (Key.i (p.1 : Nat), Val.t (e p.2))) = fun p : Nat × α => decide (p.1 = k) := by
    funext p
    simp only [Function.comp, key_iff]
  rw [e2]
  by_cases c : (kv.any fun p => decide (p.1 = k)) = true
  · rw [if_pos c, if_pos c, List.map_map, List.map_map]
    refine List.map_congr_left fun p _ => ?_
    simp only [Function.comp, key_iff]
    by_cases h : p.1 = k
    · rw [if_pos h, if_pos h]
    · rw [if_neg h, if_neg h]
  · rw [if_neg c, if_neg c, List.map_append]; rfl
theorem dpop_akv (e : α → T) (kv : ND α) (k : Nat) : dpop (akv e kv) (.i (k : Nat)) = akv e (adel kv k) := by
  unfold dpop adel akv
  rw [List.filter_map]
  congr 1
  refine List.filter_congr fun p _ => ?_
  simp only [Function.comp, ne_eq, key_iff]
theorem aput_len (kv : ND α) (k : Nat) (v : α) : (aput kv k v).length ≤ kv.length + 1 := by
  unfold aput
  split
  · rw [List.length_map]; omega
  · rw [List.length_append]; simp
theorem aget_none : ∀ {kv : ND α} {k : Nat}, ¬ (kv.any fun p => decide (p.1 = k)) = true → aget kv k = none
  | [], _, _ => rfl
  | (j, v) :: r, k, h => by
    rw [List.any_cons, Bool.or_eq_true, not_or] at h
    have hj : ¬ j = k := by simpa using h.1
    unfold aget
    rw [if_neg hj]
    exact aget_none h.2
theorem aget_map : ∀ (kv : ND α) (k : Nat) (v : α) (r : Nat), (kv.any fun p => decide (p.1 = k)) = true → aget (kv.map fun p => if p.1 = k then (p.1, v) else p) r = if r = k then some v else aget kv r
  | [], _, _, _, h => by simp at h
  | (j, w) :: q, k, v, r, h => by
    rw [List.map_cons]
    by_cases hj : j = k
    · subst hj
      rw [if_pos rfl]
      unfold aget
      by_cases hr : j = r
      · subst hr; rw [if_pos rfl, if_pos rfl]
      · rw [if_neg hr, if_neg hr, if_neg (fun e => hr e.symm)]
        by_cases hq : (q.any fun p => decide (p.1 = j)) = true
        · rw [aget_map q j v r hq, if_neg (fun e => hr e.symm)]
        · have : (q.map fun p => if p.1 = j then (p.1, v) else p) = q := by
            conv => rhs; rw [← List.map_id q]
            refine List.map_congr_left fun p hp => ?_
            have : ¬ p.1 = j := fun e => hq (List.any_eq_true.mpr ⟨p, hp, by simpa using e⟩)
            simp [this]
          rw [this]
    · rw [if_neg hj]
      have hq : (q.any fun p => decide (p.1 = k)) = true := by simpa [List.any_cons, hj] using h
      unfold aget
      by_cases hr : j = r
      · subst hr; rw [if_pos rfl, if_pos rfl, if_neg hj]
      · rw [if_neg hr, if_neg hr]
        exact aget_map q k v r hq
theorem aget_app : ∀ (kv : ND α) (k : Nat) (v : α) (r : Nat), ¬ (kv.any fun p => decide (p.1 = k)) = true → aget (kv ++ [(k, v)]) r = if r = k then some v else aget kv r
  | [], k, v, r, _ => by
    show aget [(k, v)] r = _
    unfold aget
    by_cases hr : k = r
    · subst hr; rw [if_pos rfl, if_pos rfl]
    · rw [if_neg hr, if_neg (fun e => hr e.symm)]; rfl
  | (j, w) :: q, k, v, r, h => by
    rw [List.any_cons, Bool.or_eq_true, not_or] at h
    have hj : ¬ j = k := by simpa using h.1
    rw [List.cons_append]
    unfold aget
    by_cases hr : j = r
    · subst hr; rw [if_pos rfl, if_pos rfl, if_neg hj]
    · rw [if_neg hr, if_neg hr]
      exact aget_app q k v r h.2
theorem aget_aput (kv : ND α) (k : Nat) (v : α) (r : Nat) : aget (aput kv k v) r = if r = k then some v else aget kv r := by
  unfold aput
  split
  · rename_i h; exact aget_map kv k v r h
  · rename_i h; exact aget_app kv k v r h
theorem aget_adel : ∀ (kv : ND α) (k r : Nat), aget (adel kv k) r = if r = k then none else aget kv r
  | [], k, r => by unfold adel; rw [List.filter_nil]; split <;> rfl
  | (j, w) :: q, k, r => by
    have ih := aget_adel q k r
    unfold adel at *
    rw [List.filter_cons]
    by_cases hj : j = k
    · subst hj
      rw [if_neg (by simp), ih]
      conv => rhs; rw [aget]
      by_cases hr : r = j
      · rw [if_pos hr, if_pos hr]
      · rw [if_neg hr, if_neg hr, if_neg (fun e => hr e.symm)]
    · rw [if_pos (by simpa using hj)]
      unfold aget
      by_cases hr : j = r
      · subst hr; rw [if_pos rfl, if_pos rfl, if_neg hj]
      · rw [if_neg hr, if_neg hr, ih]
theorem treesK_akv (e : α → T) : ∀ kv : ND α, treesK (akv e kv) = some (akt e kv)
  | [] => rfl
  | (j, v) :: r => by
    show (match treesK (akv e r) with | some q => some ((Key.i (j : Nat), e v) :: q) | none => none) = _
    rw [treesK_akv e r]; rfl
theorem aget_mem : ∀ {kv : ND α} {k : Nat} {v : α}, aget kv k = some v → (k, v) ∈ kv
  | (j, w) :: q, k, v, h => by
    unfold aget at h
    by_cases c : j = k
    · rw [if_pos c] at h; injection h with h; subst h; subst c; exact List.mem_cons_self
    · rw [if_neg c] at h; exact List.mem_cons_of_mem _ (aget_mem h)
theorem mem_aget : ∀ {kv : ND α} {k : Nat}, k ∈ kv.map (·.1) → ∃ v, aget kv k = some v
  | (j, w) :: q, k, h => by
    unfold aget
    by_cases c : j = k
    · exact ⟨w, by rw [if_pos c]⟩
    · rw [if_neg c]
      rw [List.map_cons] at h
      rcases List.mem_cons.mp h with h | h
      · exact absurd h.symm c
      · exact mem_aget h
theorem aget_keys {kv : ND α} {k : Nat} {v : α} (h : aget kv k = some v) : k ∈ kv.map (·.1) := List.mem_map.mpr ⟨_, aget_mem h, rfl⟩
/-! ### as a cell, as a tree -/
variable (e : α → T) {s : Store} {q : Nat} {kv : ND α}
theorem ad_get (h : s.cell q = some (.dct (akv e kv))) {k : Nat} {v : α} (hk : aget kv k = some v) : subI (.loc q) (iv (k : Nat)) s = .ok (.t (e v)) s := by
  unfold subI; dsimp only; rw [h]; dsimp only [keyOf]; rw [dget_akv, hk]; rfl
theorem ad_put (h : s.cell q = some (.dct (akv e kv))) (hl : kv.length < 16777216) (k : Nat) (v : α) : setI (.loc q) (iv (k : Nat)) (.t (e v)) s = .ok () (s.set q (some (.dct (akv e (aput kv k v))))) := by
  unfold setI; dsimp only; rw [h]; dsimp only [keyOf]
  rw [if_pos (by unfold akv; rw [List.length_map]; exact hl), dput_akv]
theorem ad_in (h : s.cell q = some (.dct (akv e kv))) (k : Nat) : inV (iv (k : Nat)) (.loc q) s = .ok (aget kv k).isSome s := by
  unfold inV; dsimp only; rw [h]; dsimp only [keyOf]; rw [dget_akv]; cases aget kv k <;> rfl
theorem ad_frz (h : s.cell q = some (.dct (akv e kv))) : freeze (.loc q) s = .ok (.t (.dct (akt e kv))) (s.set q none) := by
  unfold freeze; dsimp only; rw [h]; dsimp only; rw [treesK_akv]
theorem ad_pop (h : s.cell q = some (.dct (akv e kv))) {k : Nat} {v : α} (hk : aget kv k = some v) : popD (.loc q) (iv (k : Nat)) s = .ok (.t (e v)) (s.set q (some (.dct (akv e (adel kv k))))) := by
  unfold popD; dsimp only; rw [h]; dsimp only [keyOf]; rw [dget_akv, hk, dpop_akv]; rfl
theorem at_get {k : Nat} {v : α} (hk : aget kv k = some v) (s : Store) : subI (.t (.dct (akt e kv))) (iv (k : Nat)) s = .ok (.t (e v)) s := by
  unfold subI; dsimp only [keyOf]; rw [dget_akt, hk]; rfl
theorem at_in (k : Nat) (s : Store) : inV (iv (k : Nat)) (.t (.dct (akt e kv))) s = .ok (aget kv k).isSome s := by
  unfold inV; dsimp only [keyOf]; rw [dget_akt]; cases aget kv k <;> rfl
theorem ad_below (n : Nat) (kv : ND α) : (Cell.dct (akv e kv)).below n = true := by simp [Cell.below, akv, Val.below]
end
end Fl
set_option Elab.async false
set_option linter.all false
set_option maxRecDepth 100000
/-! Fl: plain lemmas: sorted, sets, dict.get. -/
namespace Fl
@[simp] theorem p_e3d (k3 : Val → Val → Val → M Val) (f g h : CE) (ρ : Env) (s : Store) : e3d k3 f g h ρ s = (f ρ s).bind fun d s => (dctC d s).bind fun _ s => (g ρ s).bind fun i s => (h ρ s).bind fun x s => k3 d i x s := nrfl rfl
@[simp] theorem p_e2d (k2 : Val → Val → M Val) (f g : CE) (ρ : Env) (s : Store) : e2d k2 f g ρ s = (f ρ s).bind fun d s => (dctC d s).bind fun _ s => (g ρ s).bind fun i s => k2 d i s := nrfl rfl
@[simp] theorem dctC_t (kvs : List (Key × T)) (s : Store) : dctC (.t (.dct kvs)) s = .ok () s := nrfl rfl
theorem dctC_c {s : Store} {q : Nat} {kvs : List (Key × Val)} (h : s.cell q = some (.dct kvs)) : dctC (.loc q) s = .ok () s := by unfold dctC; dsimp only; rw [h]
@[simp] theorem p_tNotB (c : Bool) (a : CE) (ρ : Env) (s : Store) : tNotB c a ρ s = (a ρ s).bind fun v s => (isB c v s).bind fun b s => .ok (!b) s := nrfl rfl
@[simp] theorem isB_bl (c b : Bool) (s : Store) : isB c (.t (.bl b)) s = .ok (b == c) s := nrfl rfl
theorem getV_t {α : Type} (e : α → T) (kv : ND α) (k : Nat) (x : Val) (s : Store) : getV (.t (.dct (akt e kv))) (iv (k : Nat)) x s = .ok (match aget kv k with | some v => .t (e v) | none => x) s := by
  unfold getV; dsimp only [keyOf]; rw [dget_akt]; cases aget kv k <;> rfl
theorem sortSet_li {ns : List Int} (h : ns.length < 64) (s : Store) : sortSetV false (.t (li ns)) s = .ok (.t (li (sortI (dedup ns)))) s := by
  show (itemsL (.t (.lst (ns.map .int))) >>= _) s = _
  rw [bind_eq, li_itemsL, bind_ok]
  show (match intsOf (ns.map iv) with
    | some ns => if ns.length < 64 then newL false ((sortI (dedup ns)).map vI) s else R.bad
    | none => .bad) = _
  rw [li_ints]
  dsimp only
  rw [if_pos h]
  exact li_new _ s
theorem lenSet_li {ns : List Int} (h : ns.length < 1000) (s : Store) : lenSetV (.t (li ns)) s = .ok (iv ((dedup ns).length : Nat)) s := by
  show (itemsL (.t (.lst (ns.map .int))) >>= _) s = _
  rw [bind_eq, li_itemsL, bind_ok]
  show (match intsOf (ns.map iv) with
    | some ns => if ns.length < 1000 then R.ok (vI (dedup ns).length) s else R.bad
    | none => .bad) = _
  rw [li_ints]
  dsimp only
  rw [if_pos h]
  rfl
theorem sort1_li (ns : List Int) (s : Store) : sort1V false (.t (li ns)) s = .ok (.t (li (sortI ns))) s := by
  show (itemsL (.t (.lst (ns.map .int))) >>= _) s = _
  rw [bind_eq, li_itemsL, bind_ok]
  show (match intsOf (ns.map iv) with
    | some ns => newL false ((sortI ns).map vI) s
    | none => .bad) = _
  rw [li_ints]
  exact li_new _ s
theorem keyInts_akt {α : Type} (e : α → T) : ∀ kv : ND α, keyInts (akt e kv) = some (kv.map fun p => ((p.1 : Nat) : Int))
  | [] => rfl
  | (j, v) :: r => by
    show (match keyInts (akt e r) with | some q => some (((j : Nat) : Int) :: q) | none => none) = _
    rw [keyInts_akt e r]; rfl
theorem sort1_dct {α : Type} (e : α → T) {kv : ND α} (h : kv.length < 64) (s : Store) : sort1V false (.t (.dct (akt e kv))) s = .ok (.t (li (sortI (kv.map fun p => ((p.1 : Nat) : Int))))) s := by
  show (match keyInts (akt e kv) with
    | some ns => if ns.length < 64 then newL false ((sortI ns).map vI) s else R.bad
    | none => .bad) = _
  rw [keyInts_akt]
  dsimp only
  rw [if_pos (by rw [List.length_map]; exact h)]
  exact li_new _ s
end Fl
set_option Elab.async false
set_option linter.all false
set_option maxRecDepth 100000
/-! Fl: the plans of the program. -/
namespace Fl
noncomputable section
def g_arguments (G : FEnv) : SM := sRet (e1 (rangeL false) (e2 (addV false) (eC (.int 1)) (eCall G 23 [e2 subI (eVar 0) (eC (.int 2))])))
def g_last_uses (G : FEnv) : SM := sSeq (sAsg (eDct true []) (gVar 1)) (sSeq (sFor (iEnum (e2 subI (eVar 0) (eC (.int 4)))) (gTup [2, 3]) (sFor (iV (e2 subI (eVar 3) (eC (.int 2)))) (gVar 4) (sSub (eVar 2) (eVar 1) (eVar 4)))) (sSeq (sSeq (sFor (iV (e2 subI (eVar 0) (eC (.int 5)))) (gVar 4) (sSub (e1 lenV (e2 subI (eVar 0) (eC (.int 4)))) (eVar 1) (eVar 4))) (sFz 1)) (sRet (e1 freeze (eVar 1)))))
def g_live (G : FEnv) : SM := sSeq (sAsg (eCall G 65 [eVar 0]) (gVar 1)) (sSeq (sAsg (eLst true []) (gVar 2)) (sSeq (sAsg (eLst false []) (gVar 3)) (sSeq (sSeq (sFor (iRange2 (e1 negV (eC (.int 1))) (e1 lenV (e2 subI (eVar 0) (eC (.int 4))))) (gVar 4) (sSeq (sAsg (eIf (tLt (eVar 4) (eC (.int 0))) (eCall G 64 [eVar 0]) (e1 (listV false) (e2 subI (e2 subI (e2 subI (eVar 0) (eC (.int 4))) (eVar 4)) (eC (.int 3))))) (gVar 5)) (sSeq (sAsg (e2 (addV false) (eComp false [6] (iV (eVar 3)) (gVar 6) (some (tGt (e3d getV (eVar 1) (eVar 6) (e1 negV (eC (.int 1)))) (eVar 4))) (eVar 6)) (eVar 5)) (gVar 3)) (sExpr (e2c lstC appendV (eVar 2) (e1 (sortSetV false) (eVar 3))))))) (sFz 2)) (sRet (e1 freeze (eVar 2))))))
def g_plan (G : FEnv) : SM := sSeq (sAsg (eDct true []) (gVar 1)) (sSeq (sSeq (sFor (iV (eCall G 66 [eVar 0])) (gVar 2) (sSeq (sAsg (eComp false [5] (iV (eVar 2)) (gVar 5) (some (tIn (eVar 5) (eVar 1))) (e2 subI (eVar 1) (eVar 5))) (gVar 3)) (sSeq (sAsg (eCompR true [6] (iRange1 (e1 lenV (eVar 2))) (gVar 6) (some (tNotIn (eVar 6) (eVar 3))) (eVar 6)) (gVar 4)) (sSeq (sFor (iV (eVar 2)) (gVar 5) (sIf (tNotIn (eVar 5) (eVar 1)) (sSub (e2c lstC popL (eVar 4) (eC (.int 0))) (eVar 1) (eVar 5)) (sNil))) (sFz 4))))) (sFz 1)) (sRet (e1 freeze (eVar 1))))
def g_fewest (G : FEnv) : SM := sSeq (sAsg (eCall G 66 [eVar 0]) (gVar 1)) (sSeq (sAsg (e1 maxV (eComp false [3] (iV (eVar 1)) (gVar 3) none (e1 lenV (eVar 3)))) (gVar 2)) (sSeq (sFor (iEnum (eVar 1)) (gTup [4, 3]) (sIf (tEq (e1 lenV (eVar 3)) (eVar 2)) (sRet (eTup false [eVar 2, e2 subV (eVar 4) (eC (.int 1))])) (sNil))) (sRet (eTup false [eVar 2, e1 negV (eC (.int 1))]))))
def g_plan_right (G : FEnv) : SM := sSeq (sFor (iV (eCall G 66 [eVar 0])) (gVar 2) (sSeq (sAsg (eComp false [4] (iV (eVar 2)) (gVar 4) none (e3d getV (eVar 1) (eVar 4) (e1 negV (eC (.int 1))))) (gVar 3)) (sIf (tOr (tIn (e1 negV (eC (.int 1))) (eVar 3)) (tNe (e1 lenSetV (eVar 3)) (e1 lenV (eVar 3)))) (sRet (eC (.bl false))) (sNil)))) (sRet (eC (.bl true)))
end
structure BaseS (Γ : Nat → FEnv) : Prop where
  arguments : ∀ n, Γ (n + 1) 64 = mkFn 1 1 (g_arguments (Γ n))
  last_uses : ∀ n, Γ (n + 1) 65 = mkFn 5 1 (g_last_uses (Γ n))
  live : ∀ n, Γ (n + 1) 66 = mkFn 7 1 (g_live (Γ n))
  plan : ∀ n, Γ (n + 1) 67 = mkFn 7 1 (g_plan (Γ n))
  fewest : ∀ n, Γ (n + 1) 68 = mkFn 5 1 (g_fewest (Γ n))
  plan_right : ∀ n, Γ (n + 1) 69 = mkFn 5 2 (g_plan_right (Γ n))
abbrev eN (k : Nat) : T := .int (k : Nat)
/-- used behind the first j instructions -/
def later (code : List Ins) (res : List Nat) (j n : Nat) : Bool := res.contains n || (code.drop j).any fun i => i.ins.contains n
theorem later_iff (code : List Ins) (res : List Nat) (j n : Nat) : later code res j n = true ↔ n ∈ res ∨ ∃ k i, j ≤ k ∧ code[k]? = some i ∧ n ∈ i.ins := by
  unfold later
  rw [Bool.or_eq_true, List.any_eq_true, List.contains_iff_mem]
  refine or_congr Iff.rfl ⟨?_, ?_⟩
  · rintro ⟨i, hi, h⟩
    obtain ⟨k, e⟩ := List.getElem?_of_mem hi
    rw [List.getElem?_drop] at e
    exact ⟨j + k, i, by omega, e, by simpa using h⟩
  · rintro ⟨k, i, hk, e, h⟩
    refine ⟨i, List.mem_of_getElem? (i := k - j) ?_, by simpa using h⟩
    rw [List.getElem?_drop, show j + (k - j) = k by omega]; exact e
/-- a dict of last uses, i instructions done, p of the next one's inputs -/
def LU (code : List Ins) (i : Nat) (p : List Nat) (kv : ND Nat) : Prop := ∀ r j, (∃ v, aget kv r = some v ∧ j ≤ v) ↔ (∃ k x, j ≤ k ∧ k < i ∧ code[k]? = some x ∧ r ∈ x.ins) ∨ (j ≤ i ∧ r ∈ p)
theorem LU.init (code : List Ins) : LU code 0 [] [] := fun r j => by
  constructor
  · rintro ⟨v, h, _⟩; cases h
  · rintro (⟨k, x, _, h, _⟩ | ⟨_, h⟩)
    · omega
    · cases h
theorem LU.put {code : List Ins} {i : Nat} {p : List Nat} {kv : ND Nat} (h : LU code i p kv) (n : Nat) : LU code i (p ++ [n]) (aput kv n i) := fun r j => by
  rw [aget_aput]
  by_cases c : r = n
  · subst c
    rw [if_pos rfl]
    constructor
    · rintro ⟨v, e, hj⟩
      injection e with e
      subst e
      exact .inr ⟨hj, by simp⟩
    · rintro (⟨k, x, h1, h2, _⟩ | ⟨h1, _⟩)
      · exact ⟨i, rfl, by omega⟩
      · exact ⟨i, rfl, h1⟩
  · rw [if_neg c, h r j]
    constructor
    · rintro (h | ⟨h1, h2⟩)
      · exact .inl h
      · exact .inr ⟨h1, by simp [h2]⟩
    · rintro (h | ⟨h1, h2⟩)
      · exact .inl h
      · refine .inr ⟨h1, ?_⟩
        rcases List.mem_append.mp h2 with h2 | h2
        · exact h2
        · exact absurd (List.mem_singleton.mp h2) c
theorem LU.next {code : List Ins} {i : Nat} {x : Ins} (hx : code[i]? = some x) {kv : ND Nat} (h : LU code i x.ins kv) : LU code (i + 1) [] kv := fun r j => by
  rw [h r j]
  constructor
  · rintro (⟨k, y, h1, h2, h3, h4⟩ | ⟨h1, h2⟩)
    · exact .inl ⟨k, y, h1, by omega, h3, h4⟩
    · exact .inl ⟨i, x, h1, by omega, hx, h2⟩
  · rintro (⟨k, y, h1, h2, h3, h4⟩ | ⟨_, h2⟩)
    · by_cases c : k = i
      · subst c
        rw [hx] at h3
        injection h3 with h3
        subst h3
        exact .inr ⟨h1, h4⟩
      · exact .inl ⟨k, y, h1, by omega, h3, h4⟩
    · cases h2
theorem LU.fin {code : List Ins} {res : List Nat} {kv : ND Nat} (h : LU code code.length res kv) {r j : Nat} (hj : j ≤ code.length) : (∃ v, aget kv r = some v ∧ j ≤ v) ↔ later code res j r = true := by
  rw [h r j, later_iff]
  constructor
  · rintro (⟨k, x, h1, h2, h3, h4⟩ | ⟨h1, h2⟩)
    · exact .inr ⟨k, x, h1, h3, h4⟩
    · exact .inl h2
  · rintro (h2 | ⟨k, x, h1, h3, h4⟩)
    · exact .inr ⟨hj, h2⟩
    · exact .inl ⟨k, x, h1, (List.getElem?_eq_some_iff.mp h3).1, h3, h4⟩
instance : Inhabited Ins := ⟨⟨"", .non, [], []⟩⟩
theorem ni_map (l : List Nat) : (ni l).map iv = l.map fun (k : Nat) => iv (k : Nat) := by unfold ni; rw [List.map_map]; rfl
section
variable {Γ : Nat → FEnv}
theorem last_run (S : BaseS Γ) (n : Nat) (b : Blk) (hl : b.code.length ≤ 1000) (hi : ∀ i ∈ b.code, i.ins.length ≤ 1000) (ho : b.outs.length ≤ 1000) (s : Store) (hw : Wf s) :
    ∃ lu : ND Nat, LU b.code b.code.length b.outs lu ∧ Γ (n + 1) 65 [.t b.t] s = .ok (.t (.dct (akt eN lu))) s := by
  have hset : ∀ c d : Option Cell, (s ++ [c]).set s.length d = s ++ [d] := fun c d => by
    rw [List.set_append_right _ _ (Nat.le_refl _), Nat.sub_self]; rfl
  have cl : ∀ kv : ND Nat, Store.cell (s ++ [some (.dct (akv eN kv))]) s.length = some (.dct (akv eN kv)) := fun kv => e_cell _
  have hput : ∀ (kv : ND Nat) (k v : Nat), kv.length < 16777216 → setI (.loc s.length) (iv (k : Nat)) (.t (.int (v : Nat))) (s ++ [some (.dct (akv eN kv))]) = .ok () (s ++ [some (.dct (akv eN (aput kv k v)))]) := fun kv k v h => by
    rw [ad_put eN (cl kv) h k v, hset]
  have e0 : (sAsg (eDct true []) (gVar 1)) (start 5 [.t b.t]) s = .nx [some (.t b.t), some (.loc s.length), none, none, none] (s ++ [some (.dct (akv eN []))]) := rfl
  have key : ∃ lu : ND Nat, LU b.code b.code.length b.outs lu ∧ Rt s (.dct (akt eN lu)) (g_last_uses (Γ n) (start 5 [.t b.t]) s) := by
    unfold g_last_uses
    rw [p_seq2, e0, then_nx, p_seq2, p_for]
    have it : iEnum (e2 subI (eVar 0) (eC (.int 4))) [some (.t b.t), some (.loc s.length), none, none, none] (s ++ [some (.dct (akv eN []))]) = .ok ((List.range b.code.length).map fun k => .t (.tup [.int (k : Nat), (b.code.getD k default).t])) (s ++ [some (.dct (akv eN []))]) := by
      unfold iEnum
      rw [bind_eq]
      simp only [p_e2, p_var0, p_ok, p_eC, b_code]
      show R.ok (enumT 0 (b.code.map Ins.t)) _ = _
      rw [enumT_eq]
      simp only [Nat.zero_add]
    rw [it, p_sok]
    generalize hc : forL _ _ _ _ _ = o
    obtain ⟨ρ', s', rfl, kv, x2, x3, x4, rfl, rfl, h1, h2⟩ := for_ix hc (fun j ρ s1 => ∃ (kv : ND Nat) (x2 x3 x4 : Option Val), ρ = [some (.t b.t), some (.loc s.length), x2, x3, x4] ∧ s1 = s ++ [some (.dct (akv eN kv))] ∧ LU b.code j [] kv ∧ kv.length ≤ 1000 * j) ⟨[], none, none, none, rfl, rfl, LU.init _, Nat.zero_le _⟩ (by
      rintro j hj ρ s1 ⟨kv, x2, x3, x4, rfl, rfl, h1, h2⟩
      have hx : b.code[j]? = some (b.code.getD j default) := by
        rw [List.getD_eq_getElem?_getD, List.getElem?_eq_getElem hj]; rfl
      generalize b.code.getD j default = x at hx
      have hil := hi x (List.mem_of_getElem? hx)
      suffices hh : ∃ (kv2 : ND Nat) (y4 : Option Val), sFor (iV (e2 subI (eVar 3) (eC (.int 2)))) (gVar 4) (sSub (eVar 2) (eVar 1) (eVar 4)) [some (.t b.t), some (.loc s.length), some (iv (j : Nat)), some (.t x.t), x4] (s ++ [some (.dct (akv eN kv))]) = .nx [some (.t b.t), some (.loc s.length), some (iv (j : Nat)), some (.t x.t), y4] (s ++ [some (.dct (akv eN kv2))]) ∧ LU b.code j x.ins kv2 ∧ kv2.length ≤ kv.length + x.ins.length by
        obtain ⟨kv2, y4, hb, h3, h4⟩ := hh
        exact ⟨_, _, _, _, p_gTup2 _ _ _ _ _ _, hb, kv2, _, _, _, rfl, rfl, h3.next hx, by omega⟩
      rw [p_for]
      have it : iV (e2 subI (eVar 3) (eC (.int 2))) [some (.t b.t), some (.loc s.length), some (iv (j : Nat)), some (.t x.t), x4] (s ++ [some (.dct (akv eN kv))]) = .ok (x.ins.map fun (k : Nat) => iv (k : Nat)) (s ++ [some (.dct (akv eN kv))]) := by
        simp only [p_iV, p_e2, p_varS, p_var0, p_ok, p_eC]
        rw [show subI (.t x.t) (.t (.int 2)) (s ++ [some (.dct (akv eN kv))]) = .ok (.t (li (ni x.ins))) (s ++ [some (.dct (akv eN kv))]) from ins_2 x _, p_ok, li_iter, ni_map]
      rw [it, p_sok]
      generalize hc2 : forL _ _ _ _ _ = o2
      obtain ⟨ρ2, s2, rfl, kv2, y4, rfl, rfl, h3, h4⟩ := for_pre hc2 (fun p ρ s1 => ∃ (kv2 : ND Nat) (y4 : Option Val), ρ = [some (.t b.t), some (.loc s.length), some (iv (j : Nat)), some (.t x.t), y4] ∧ s1 = s ++ [some (.dct (akv eN kv2))] ∧ LU b.code j p kv2 ∧ kv2.length ≤ kv.length + p.length) ⟨kv, x4, rfl, rfl, h1, Nat.le_refl _⟩ (by
        rintro p k q e ρ s1 ⟨kv2, y4, rfl, rfl, h3, h4⟩
        have hp : p.length ≤ 1000 := by rw [e, List.length_append] at hil; omega
        refine ⟨_, _, _, _, rfl, ?_, aput kv2 k j, some (iv (k : Nat)), rfl, rfl, h3.put k, ?_⟩
        · simp only [List.set, p_ssub, p_varS, p_var0, p_sok, p_ok, hput kv2 k j (by omega)]
        · have := aput_len kv2 k j
          rw [List.length_append, List.length_singleton]; omega)
      exact ⟨kv2, _, rfl, h3, h4⟩)
    rw [then_nx, p_seq2, p_seq2, p_for]
    have it : iV (e2 subI (eVar 0) (eC (.int 5))) [some (.t b.t), some (.loc s.length), x2, x3, x4] (s ++ [some (.dct (akv eN kv))]) = .ok (b.outs.map fun (k : Nat) => iv (k : Nat)) (s ++ [some (.dct (akv eN kv))]) := by
      simp only [p_iV, p_e2, p_var0, p_ok, p_eC, b_outs, li_iter, ni_map]
    rw [it, p_sok]
    generalize hc2 : forL _ _ _ _ _ = o2
    obtain ⟨ρ2, s2, rfl, kv2, y4, rfl, rfl, h3, h4⟩ := for_pre hc2 (fun p ρ s1 => ∃ (kv2 : ND Nat) (y4 : Option Val), ρ = [some (.t b.t), some (.loc s.length), x2, x3, y4] ∧ s1 = s ++ [some (.dct (akv eN kv2))] ∧ LU b.code b.code.length p kv2 ∧ kv2.length ≤ kv.length + p.length) ⟨kv, x4, rfl, rfl, h1, Nat.le_refl _⟩ (by
      rintro p k q e ρ s1 ⟨kv2, y4, rfl, rfl, h3, h4⟩
      have hp : p.length ≤ 1000 := by rw [e, List.length_append] at ho; omega
      refine ⟨_, _, _, _, rfl, ?_, aput kv2 k b.code.length, some (iv (k : Nat)), rfl, rfl, h3.put k, ?_⟩
      · have hln : ∀ s, lenV (.t (.lst (b.code.map Ins.t))) s = .ok (iv (b.code.length : Nat)) s := fun s => by rw [lst_len, List.length_map]
        simp only [List.set, p_ssub, p_e1, p_e2, p_eC, b_code, hln, p_varS, p_var0, p_sok, p_ok, hput kv2 k b.code.length (by omega)]
      · have := aput_len kv2 k b.code.length
        rw [List.length_append, List.length_singleton]; omega)
    refine ⟨kv2, h3, s ++ [none], ?_, by simp⟩
    have hf := ad_frz eN (cl kv2)
    rw [hset] at hf
    simp only [then_nx]
    have hz : sFz 1 [some (.t b.t), some (.loc s.length), x2, x3, y4] (s ++ [some (.dct (akv eN kv2))]) = .nx [some (.t b.t), some (.t (.dct (akt eN kv2))), x2, x3, y4] (s ++ [none]) := by
      unfold sFz
      show (match freeze (.loc s.length) (s ++ [some (.dct (akv eN kv2))]) with | _ => _) = _
      rw [hf]
      rfl
    rw [hz, then_nx]
    rfl
  obtain ⟨lu, h1, h2⟩ := key
  refine ⟨lu, h1, ?_⟩
  rw [S.last_uses]
  exact fn_Rt rfl hw h2
end
end Fl
set_option Elab.async false
set_option linter.all false
set_option maxRecDepth 100000
/-! Fl: live. -/
namespace Fl
/-- the registers that are known and live behind j instructions, as they come -/
def knF (code : List Ins) (res : List Nat) (w : Nat) : Nat → List Nat
  | 0 => List.range w
  | j + 1 => (knF code res w j).filter (later code res (j + 1)) ++ (code.getD j default).outs
def kPrev (code : List Ins) (res : List Nat) (w : Nat) : Nat → T
  | 0 => .lst []
  | j + 1 => li (ni (knF code res w j))
def newF (code : List Ins) (w : Nat) : Nat → List Nat
  | 0 => List.range w
  | j + 1 => (code.getD j default).outs
def rowF (code : List Ins) (res : List Nat) (w j : Nat) : List Int := sortI (dedup (ni (knF code res w j)))
theorem p_range2 {a b : CE} {ρ : Env} {s : Store} {lo : Int} {n : Nat} (ha : a ρ s = .ok (iv lo) s) (hb : b ρ s = .ok (iv (lo + (n : Nat))) s) (h1 : -1000 ≤ lo) (h2 : lo ≤ 1000) (hn : n ≤ 100000000) : iRange2 a b ρ s = .ok ((List.range n).map fun (k : Nat) => iv (lo + (k : Int))) s := by
  have h62 : (2:Int)^62 = 4611686018427387904 := by decide
  unfold iRange2
  rw [bind_eq, ha, bind_ok, bind_eq, hb, bind_ok, bind_eq]
  rw [show getInt (iv lo) s = .ok lo s from rfl, bind_ok, bind_eq, show getInt (iv (lo + (n : Nat))) s = .ok (lo + (n : Nat)) s from rfl, bind_ok]
  show (if (rangeOk lo && rangeOk (lo + (n : Nat))) = true then (pure (upto lo (lo + (n : Nat) - lo).toNat) : M (List Val)) else bad) s = _
  rw [if_pos (by unfold rangeOk; simp; omega), upto_eq, show (lo + (n : Nat) - lo).toNat = n by omega]; rfl
section
variable {Γ : Nat → FEnv}
theorem live_run (S : BaseS Γ) (n : Nat) (b : Blk) (w : Nat) (hl : b.code.length ≤ 1000) (hi : ∀ i ∈ b.code, i.ins.length ≤ 1000) (ho : b.outs.length ≤ 1000) (hA : ∀ s, Wf s → Γ (n + 1) 64 [.t b.t] s = .ok (.t (li (ni (List.range w)))) s)
    (hkn : ∀ j, j ≤ b.code.length → (knF b.code b.outs w j).length < 64) (s : Store) (hw : Wf s) :
    Γ (n + 2) 66 [.t b.t] s = .ok (.t (.lst ((List.range (b.code.length + 1)).map fun j => li (rowF b.code b.outs w j)))) s := by
  obtain ⟨lu, hlu, elu⟩ := last_run S n b hl hi ho s hw
  rw [S.live]
  refine fn_Rt rfl hw ?_
  have hln : ∀ s, lenV (.t (.lst (b.code.map Ins.t))) s = .ok (iv (b.code.length : Nat)) s := fun s => by rw [lst_len, List.length_map]
  have e0 : start 7 [.t b.t] = [some (.t b.t), none, none, none, none, none, none] := rfl
  obtain ⟨v0, s0, h0, o0⟩ := own_newL (s0 := s) hw List.take_length []
  have h0 : newL true [] s = .ok v0 s0 := h0
  unfold g_live
  rw [e0]
  simp only [p_seq2 (sAsg (eCall (Γ (n + 1)) 65 [eVar 0]) (gVar 1)), p_seq2 (sAsg (eLst true []) (gVar 2)), p_seq2 (sAsg (eLst false []) (gVar 3)), p_asgV, p_call, p_vals, p_vals0, p_var0, p_ok, elu, p_sok, List.set, then_nx, p_lst, h0, newL0]
  have hr := p_range2 (a := e1 negV (eC (.int 1))) (b := e1 lenV (e2 subI (eVar 0) (eC (.int 4)))) (ρ := [some (.t b.t), some (.t (.dct (akt eN lu))), some v0, some (.t (.lst [])), none, none, none]) (s := s0) (lo := -1) (n := b.code.length + 1) (by simp) (by
    simp only [p_e1, p_e2, p_var0, p_ok, p_eC, b_code, hln]
    rw [show (-1 : Int) + ((b.code.length + 1 : Nat) : Int) = (b.code.length : Nat) by omega]) (by omega) (by omega) (by omega)
  rw [p_seq2, p_seq2, p_for, hr, p_sok]
  generalize hc : forL _ _ _ _ _ = o
  obtain ⟨ρ', s', rfl, x4, x5, x6, rfl, hO⟩ := for_ix hc (fun j ρ s1 => ∃ x4 x5 x6, ρ = [some (.t b.t), some (.t (.dct (akt eN lu))), some v0, some (.t (kPrev b.code b.outs w j)), x4, x5, x6] ∧
      Own s s1 v0 ((List.range j).map fun j => li (rowF b.code b.outs w j))) ⟨none, none, none, rfl, o0⟩ (by
    rintro j hj ρ s1 ⟨x4, x5, x6, rfl, ho1⟩
    have hw1 := ho1.wf
    -- the new ones
    have hnew : ∀ x3 x5 x6, eIf (tLt (eVar 4) (eC (.int 0))) (eCall (Γ (n + 1)) 64 [eVar 0]) (Fl.e1 (listV false) (e2 subI (e2 subI (e2 subI (eVar 0) (eC (.int 4))) (eVar 4)) (eC (.int 3)))) [some (.t b.t), some (.t (.dct (akt eN lu))), some v0, x3, some (iv (-1 + (j : Nat))), x5, x6] s1 = .ok (.t (li (ni (newF b.code w j)))) s1 := fun x3 x5 x6 => by
      cases j with
      | zero => simp [hA s1 hw1, newF]
      | succ j =>
        have hx : b.code[j]? = some (b.code.getD j default) := by
          rw [List.getD_eq_getElem?_getD, List.getElem?_eq_getElem (by omega)]; rfl
        have hg : subI (.t (.lst (b.code.map Ins.t))) (iv (-1 + ((j + 1 : Nat) : Int))) s1 = .ok (.t (b.code.getD j default).t) s1 := by
          rw [show (-1 + ((j + 1 : Nat) : Int)) = (j : Nat) by omega]
          exact lst_get (by rw [List.getElem?_map, hx]; rfl) s1
        have hng : ¬ (-1 + ((j + 1 : Nat) : Int) < 0) := by omega
        simp only [p_eIf, p_tLt, p_varS, p_var0, p_ok, p_eC, p_lt, hng, decide_false, Bool.false_eq_true, if_false, p_e1, p_e2, b_code, hg, ins_3, listV_t, newF]
    have hfil : ∀ l : List Nat, ∀ x4' x5' , compL (gVar 6) (some (tGt (e3d getV (eVar 1) (eVar 6) (Fl.e1 negV (eC (.int 1)))) (eVar 4))) (eVar 6) [some (.t b.t), some (.t (.dct (akt eN lu))), some v0, x4', some (iv (-1 + (j : Nat))), x5', none] (l.map fun (k : Nat) => iv (k : Nat)) s1 = .ok ((l.filter (later b.code b.outs j)).map fun (k : Nat) => iv (k : Nat)) s1 := fun l x4' x5' =>
      comp_filter (fun (k : Nat) => iv (k : Nat)) (later b.code b.outs j) (fun (k : Nat) => iv (k : Nat)) l fun k hk => ⟨_, rfl, by
        have hf := hlu.fin (r := k) (j := j) (by omega)
        simp only [List.set, p_tGt, p_e3d, p_varS, p_var0, p_ok, dctC_t, p_e1, p_eC, p_neg, getV_t]
        cases hg : aget lu k with
        | none =>
          rw [hg] at hf
          have : later b.code b.outs j k = false := by
            rw [← Bool.not_eq_true, ← hf]; rintro ⟨v, h, _⟩; cases h
          rw [this]
          simp
          omega
        | some v =>
          rw [hg] at hf
          have hv : decide ((-1 : Int) + (j : Nat) < (v : Nat)) = later b.code b.outs j k := by
            by_cases c : j ≤ v
            · rw [hf.mp ⟨v, rfl, c⟩]; simp; omega
            · have : later b.code b.outs j k = false := by
                rw [← Bool.not_eq_true, ← hf]; rintro ⟨v', h, h2⟩; injection h with h; omega
              rw [this]; simp; omega
          simp only [p_lt, hv], fun _ => rfl⟩
    have hkj := hkn j (by omega)
    have hadd : ∀ l m : List Nat, l.length + m.length < 64 → ∀ s, addV false (.t (li (ni l))) (.t (li (ni m))) s = .ok (.t (li (ni (l ++ m)))) s := fun l m h s => by
      rw [add_tt _ _ _ _ (by rw [List.length_map, List.length_map, List.length_map, List.length_map]; show _ ≤ 16777216; omega), newL_t]
      simp [li, ni]
    obtain ⟨s2, a1, a2⟩ := own_app ho1 (by rw [List.length_map, List.length_range]; show j < 16777216; omega) (li (rowF b.code b.outs w j))
    have hss := sortSet_li (ns := ni (knF b.code b.outs w j)) (by rw [List.length_map]; exact hkj) s1
    refine ⟨_, _, [some (.t b.t), some (.t (.dct (akt eN lu))), some v0, some (.t (li (ni (knF b.code b.outs w j)))), some (iv (-1 + (j : Nat))), some (.t (li (ni (newF b.code w j)))), x6], s2, rfl, ?_, _, _, _, rfl, by rw [List.range_succ, List.map_append]; exact a2⟩
    simp only [List.set]
    rw [p_seq2, p_asgV, hnew, p_sok, then_nx, p_seq2, p_asgV]
    simp only [List.set]
    have hk : e2 (addV false) (eComp false [6] (iV (eVar 3)) (gVar 6) (some (tGt (e3d getV (eVar 1) (eVar 6) (Fl.e1 negV (eC (.int 1)))) (eVar 4))) (eVar 6)) (eVar 5) [some (.t b.t), some (.t (.dct (akt eN lu))), some v0, some (.t (kPrev b.code b.outs w j)), some (iv (-1 + (j : Nat))), some (.t (li (ni (newF b.code w j)))), x6] s1 = .ok (.t (li (ni (knF b.code b.outs w j)))) s1 := by
      cases j with
      | zero =>
        have hf := hfil [] (some (.t (.lst []))) (some (.t (li (ni (List.range w)))))
        have := hadd [] (List.range w) (by simpa [knF] using hkj) s1
        simp only [kPrev, newF, p_e2, p_comp, p_iV, p_varS, p_var0, p_ok, wipeE, List.set]
        rw [show iterOf (.t (.lst [])) s1 = .ok ([] : List Val) s1 from rfl, p_ok]
        exact this
      | succ j =>
        have hf := hfil (knF b.code b.outs w j) (some (.t (li (ni (knF b.code b.outs w j))))) (some (.t (li (ni (b.code.getD j default).outs))))
        have := hadd ((knF b.code b.outs w j).filter (later b.code b.outs (j + 1))) (b.code.getD j default).outs (by rw [knF, List.length_append] at hkj; exact hkj) s1
        simp only [kPrev, newF, p_e2, p_comp, p_iV, p_varS, p_var0, p_ok, wipeE, List.set, li_iter, ni_map, hf]
        rw [show ((knF b.code b.outs w j).filter (later b.code b.outs (j + 1))).map (fun (k : Nat) => iv (k : Nat)) = (ni ((knF b.code b.outs w j).filter (later b.code b.outs (j + 1)))).map iv by rw [ni_map], li_new, p_ok]
        exact this
    rw [hk, p_sok, then_nx]
    simp only [List.set, p_sexpr, p_e2c, p_varS, p_var0, p_ok, own_lstC ho1, p_e1, hss]
    rw [show li (sortI (dedup (ni (knF b.code b.outs w j)))) = li (rowF b.code b.outs w j) from rfl, a1, p_sok])
  rw [then_nx]
  generalize hz : sFz _ _ _ = oz
  obtain ⟨s3, rfl, ht, hw3⟩ := own_sfz2 hz hO rfl
  rw [then_nx]
  exact Rt.mk ht
end
end Fl
set_option Elab.async false
set_option linter.all false
set_option maxRecDepth 100000
/-! Fl: plan_right, fewest. -/
namespace Fl
/-- a loop that asks of each item, and returns at the first that is not so -/
theorem for_allr {β : Type} {g : CG} {b : SM} {iw : β → Val} (p : β → Bool) (P : Env → Store → Prop) (w : Val) (X : Store → Prop) : ∀ (vs : List β) (ρ : Env) (s : Store), P ρ s → (∀ v ∈ vs, ∀ ρ s, P ρ s → ∃ ρ1 s1, g (iw v) ρ s = .ok ρ1 s1 ∧ ((p v = true ∧ ∃ ρ2 s2, b ρ1 s1 = .nx ρ2 s2 ∧ P ρ2 s2) ∨ (p v = false ∧ ∃ s2, b ρ1 s1 = .rt w s2 ∧ X s2))) →
    (vs.all p = true ∧ ∃ ρ' s', forL g b (vs.map iw) ρ s = .nx ρ' s' ∧ P ρ' s') ∨ (vs.all p = false ∧ ∃ s', forL g b (vs.map iw) ρ s = .rt w s' ∧ X s')
  | [], ρ, s, h, _ => .inl ⟨rfl, ρ, s, rfl, h⟩
  | v :: r, ρ, s, h, hh => by
    obtain ⟨ρ1, s1, h1, h2⟩ := hh v List.mem_cons_self ρ s h
    have e : forL g b ((v :: r).map iw) ρ s = (match b ρ1 s1 with
        | .nx ρ2 s2 => forL g b (r.map iw) ρ2 s2
        | .ct ρ2 s2 => forL g b (r.map iw) ρ2 s2
        | .bk ρ2 s2 => .nx ρ2 s2
        | o => o) := by
      show (g (iw v) ρ s).so _ _ = _
      rw [h1]
      rfl
    rw [e, List.all_cons]
    rcases h2 with ⟨hp, ρ2, s2, hb, hP⟩ | ⟨hp, s2, hb, hX⟩
    · rw [hp, hb, Bool.true_and]
      exact for_allr p P w X r ρ2 s2 hP fun x hx => hh x (List.mem_cons_of_mem _ hx)
    · rw [hp, hb]
      exact .inr ⟨rfl, s2, rfl, hX⟩
abbrev rws (rs : List (List Nat)) : T := .lst (rs.map fun r => li (ni r))
/-- a row's slots are there, and none is twice -/
def okRow (sl : ND Nat) (r : List Nat) : Bool := r.all (fun n => (aget sl n).isSome) && decide (r.map (aget sl)).Nodup
def slI (sl : ND Nat) (n : Nat) : Int := match aget sl n with
  | some v => (v : Int)
  | none => -1
theorem in_li (x : Int) (ns : List Int) (s : Store) : inV (iv x) (.t (li ns)) s = .ok (decide (x ∈ ns)) s := by
  have e : (T.plain 60 (.int x) && (ns.map T.int).all (T.plain 60)) = true := by
    rw [Bool.and_eq_true, List.all_eq_true]
    refine ⟨by rw [T.plain], fun d hd => ?_⟩
    obtain ⟨k, _, rfl⟩ := List.mem_map.mp hd
    rw [T.plain]
  show (if (T.plain 60 (.int x) && (ns.map T.int).all (T.plain 60)) = true then R.ok (inT (.int x) (ns.map T.int)) s else .bad) = _
  rw [if_pos e]
  congr 1
  unfold inT
  rw [List.any_map, Bool.eq_iff_iff, List.any_eq_true, decide_eq_true_eq]
  constructor
  · rintro ⟨y, hy, h⟩
    have h : T.eqv (.int y) (.int x) = true := h
    rw [T.eqv] at h
    rw [← beq_iff_eq.mp h]; exact hy
  · intro h
    refine ⟨x, h, ?_⟩
    show T.eqv (.int x) (.int x) = true
    rw [T.eqv]; simp
theorem dedup_len {ns : List Int} : (dedup ns).length = ns.length ↔ ns.Nodup := by
  induction ns with
  | nil => exact ⟨fun _ => List.nodup_nil, fun _ => rfl⟩
  | cons x r ih =>
    have hle : ∀ r : List Int, (dedup r).length ≤ r.length := fun r => by
      induction r with
      | nil => exact Nat.le_refl _
      | cons x r ih => unfold dedup; split <;> simp <;> omega
    rw [List.nodup_cons]
    unfold dedup
    split
    · rename_i h
      have := hle r
      constructor
      · intro e; rw [List.length_cons] at e; omega
      · intro e; exact absurd h e.1
    · rename_i h
      rw [List.length_cons, List.length_cons, Nat.add_right_cancel_iff, ih]
      exact ⟨fun e => ⟨h, e⟩, fun e => e.2⟩
theorem nodup_map_iff {α β γ : Type} (f : α → β) (g : α → γ) : ∀ (l : List α), (∀ a ∈ l, ∀ b ∈ l, f a = f b ↔ g a = g b) → ((l.map f).Nodup ↔ (l.map g).Nodup)
  | [], _ => ⟨fun _ => List.nodup_nil, fun _ => List.nodup_nil⟩
  | x :: r, h => by
    have ih := nodup_map_iff f g r fun a ha b hb => h a (List.mem_cons_of_mem _ ha) b (List.mem_cons_of_mem _ hb)
    rw [List.map_cons, List.map_cons, List.nodup_cons, List.nodup_cons, ih]
    refine and_congr (not_congr ?_) Iff.rfl
    rw [List.mem_map, List.mem_map]
    refine exists_congr fun y => and_congr_right fun hy => ?_
    exact h y (List.mem_cons_of_mem _ hy) x List.mem_cons_self
theorem okRow_iff (sl : ND Nat) (r : List Nat) : okRow sl r = (!(decide ((-1 : Int) ∈ r.map (slI sl)) || !(decide ((dedup (r.map (slI sl))).length = (r.map (slI sl)).length)))) := by
  have e1 : (decide ((-1 : Int) ∈ r.map (slI sl))) = !(r.all fun n => (aget sl n).isSome) := by
    rw [Bool.eq_iff_iff, decide_eq_true_eq, Bool.not_eq_true', ← Bool.not_eq_true, List.all_eq_true, List.mem_map]
    constructor
    · rintro ⟨n, hn, h⟩ ha
      have := ha n hn
      unfold slI at h
      cases e : aget sl n with
      | none => rw [e] at this; cases this
      | some v => rw [e] at h; simp at h
    · intro h
      apply Classical.byContradiction
      intro hh
      refine h fun n hn => ?_
      cases e : aget sl n with
      | some v => rfl
      | none => exact absurd ⟨n, hn, by unfold slI; rw [e]⟩ hh
  rw [e1]
  unfold okRow
  cases ha : (r.all fun n => (aget sl n).isSome) with
  | false => rfl
  | true =>
    rw [Bool.true_and, Bool.not_true, Bool.false_or, Bool.not_not, Bool.eq_iff_iff, decide_eq_true_eq, decide_eq_true_eq, dedup_len]
    refine nodup_map_iff _ _ r fun a ha' b hb' => ?_
    rw [List.all_eq_true] at ha
    have h1 := ha a ha'
    have h2 := ha b hb'
    unfold slI
    cases ea : aget sl a with
    | none => rw [ea] at h1; cases h1
    | some x =>
      cases eb : aget sl b with
      | none => rw [eb] at h2; cases h2
      | some y => simp; omega
section
variable {Γ : Nat → FEnv}
theorem right_run (S : BaseS Γ) (n : Nat) (b : Blk) (rs : List (List Nat)) (hr : ∀ r ∈ rs, r.length ≤ 500) (hL : ∀ s, Wf s → Γ n 66 [.t b.t] s = .ok (.t (rws rs)) s) (sl : ND Nat) (s : Store) (hw : Wf s) :
    Γ (n + 1) 69 [.t b.t, .t (.dct (akt eN sl))] s = .ok (.t (.bl (rs.all (okRow sl)))) s := by
  rw [S.plan_right]
  refine fn_Rt rfl hw ?_
  unfold g_plan_right
  have e0 : start 5 [.t b.t, .t (.dct (akt eN sl))] = [some (.t b.t), some (.t (.dct (akt eN sl))), none, none, none] := rfl
  have it : iV (eCall (Γ n) 66 [eVar 0]) [some (.t b.t), some (.t (.dct (akt eN sl))), none, none, none] s = .ok (rs.map fun r => .t (li (ni r))) s := by
    simp only [p_iV, p_call, p_vals, p_vals0, p_var0, p_ok, hL s hw, lst_iter, List.map_map]
    rfl
  rw [e0, p_seq2, p_for, it, p_sok]
  have := for_allr (g := gVar 2) (b := sSeq (sAsg (eComp false [4] (iV (eVar 2)) (gVar 4) none (e3d getV (eVar 1) (eVar 4) (e1 negV (eC (.int 1))))) (gVar 3)) (sIf (tOr (tIn (e1 negV (eC (.int 1))) (eVar 3)) (tNe (e1 lenSetV (eVar 3)) (e1 lenV (eVar 3)))) (sRet (eC (.bl false))) (sNil))) (iw := fun r : List Nat => .t (li (ni r))) (okRow sl) (fun ρ s1 => s1 = s ∧ ∃ x2 x3, ρ = [some (.t b.t), some (.t (.dct (akt eN sl))), x2, x3, none]) (.t (.bl false)) (fun s1 => s1 = s) rs [some (.t b.t), some (.t (.dct (akt eN sl))), none, none, none] s ⟨rfl, none, none, rfl⟩ (by
    rintro r hrr ρ s1 ⟨rfl, x2, x3, rfl⟩
    have hl := hr r hrr
    have hc := comp_map (g := gVar 4) (f := e3d getV (eVar 1) (eVar 4) (e1 negV (eC (.int 1)))) (ρ := [some (.t b.t), some (.t (.dct (akt eN sl))), some (.t (li (ni r))), x3, none]) (s := s1) (fun (k : Nat) => iv (k : Nat)) (fun k => iv (slI sl k)) r (fun k hk => ⟨_, rfl, by
      simp only [List.set, p_e3d, p_varS, p_var0, p_ok, dctC_t, p_e1, p_eC, p_neg, getV_t]
      unfold slI
      cases aget sl k <;> rfl⟩)
    have hn : newL false (r.map fun k => iv (slI sl k)) s1 = .ok (.t (li (r.map (slI sl)))) s1 := by
      have := li_new (r.map (slI sl)) s1
      rw [List.map_map] at this
      exact this
    have hls := lenSet_li (ns := r.map (slI sl)) (by rw [List.length_map]; omega) s1
    have hin := in_li (-1) (r.map (slI sl)) s1
    refine ⟨_, _, rfl, ?_⟩
    have hok := okRow_iff sl r
    have ebody : ∀ K, (sIf (tOr (tIn (e1 negV (eC (.int 1))) (eVar 3)) (tNe (e1 lenSetV (eVar 3)) (e1 lenV (eVar 3)))) (sRet (eC (.bl false))) (sNil)) [some (.t b.t), some (.t (.dct (akt eN sl))), some (.t (li (ni r))), some (.t (li (r.map (slI sl)))), none] s1 = K →
        sSeq (sAsg (eComp false [4] (iV (eVar 2)) (gVar 4) none (e3d getV (eVar 1) (eVar 4) (e1 negV (eC (.int 1))))) (gVar 3)) (sIf (tOr (tIn (e1 negV (eC (.int 1))) (eVar 3)) (tNe (e1 lenSetV (eVar 3)) (e1 lenV (eVar 3)))) (sRet (eC (.bl false))) (sNil)) [some (.t b.t), some (.t (.dct (akt eN sl))), some (.t (li (ni r))), x3, none] s1 = K := fun K h => by
      rw [← h]
      simp only [p_seq2, p_asgV, p_comp, p_iV, p_varS, p_var0, p_ok, li_iter, wipeE, List.set, ni_map, hc, hn, p_sok, then_nx]
    simp only [List.set]
    have hcast : (((((dedup (r.map (slI sl))).length : Nat) : Int) == (((r.map (slI sl)).length : Nat) : Int))) = decide ((dedup (r.map (slI sl))).length = (r.map (slI sl)).length) := by
      rw [Bool.eq_iff_iff, beq_iff_eq, decide_eq_true_eq]; omega
    cases h1 : decide ((-1 : Int) ∈ r.map (slI sl)) with
    | true =>
      refine .inr ⟨by rw [hok, h1]; rfl, s1, ebody _ ?_, rfl⟩
      simp only [p_if, p_tOr, p_tIn, p_e1, p_eC, p_ok, p_neg, p_varS, p_var0, hin, h1, if_true, p_sok, p_ret]
    | false =>
      cases h2 : decide ((dedup (r.map (slI sl))).length = (r.map (slI sl)).length) with
      | true =>
        refine .inl ⟨by rw [hok, h1, h2]; rfl, [some (.t b.t), some (.t (.dct (akt eN sl))), some (.t (li (ni r))), some (.t (li (r.map (slI sl)))), none], s1, ebody _ ?_, rfl, _, _, rfl⟩
        simp only [p_if, p_tOr, p_tIn, p_e1, p_eC, p_ok, p_neg, p_varS, p_var0, hin, h1, Bool.false_eq_true, if_false, p_tNe, hls, li_len, p_eqI, hcast, h2, Bool.not_true, p_sok, p_nil]
      | false =>
        refine .inr ⟨by rw [hok, h1, h2]; rfl, s1, ebody _ ?_, rfl⟩
        simp only [p_if, p_tOr, p_tIn, p_e1, p_eC, p_ok, p_neg, p_varS, p_var0, hin, h1, Bool.false_eq_true, if_false, p_tNe, hls, li_len, p_eqI, hcast, h2, Bool.not_false, if_true, p_sok, p_ret])
  rcases this with ⟨h1, ρ', s', h2, rfl, x2, x3, rfl⟩ | ⟨h1, s', h2, rfl⟩
  · rw [h2, h1, then_nx]
    exact Rt.self
  · rw [h2, h1, then_rt]
    exact Rt.self
end
end Fl
set_option Elab.async false
set_option linter.all false
set_option maxRecDepth 100000
/-! Fl: fewest. -/
namespace Fl
theorem max_li {ns : List Int} {m : Int} (h1 : ∀ y ∈ ns, y ≤ m) (h2 : m ∈ ns) (s : Store) : maxV (.t (li ns)) s = .ok (iv m) s := by
  cases ns with
  | nil => cases h2
  | cons x r => exact max_run h1 h2 s
theorem lens_comp {rs : List (List Nat)} {i : Nat} {ρ : Env} {s : Store} {f : CE} (hf : ∀ r : List Nat, f (ρ.set i (some (.t (li (ni r))))) s = .ok (iv (r.length : Nat)) s) : (compL (gVar i) none f ρ (rs.map fun r => .t (li (ni r))) s).bind (newL false) = .ok (.t (li (ni (rs.map List.length)))) s := by
  rw [comp_map (fun r : List Nat => Val.t (li (ni r))) (fun r => iv (r.length : Nat)) rs (fun r _ => ⟨_, rfl, hf r⟩), p_ok]
  have := li_new (ni (rs.map List.length)) s
  unfold ni at this
  rw [List.map_map, List.map_map] at this
  exact this
section
variable {Γ : Nat → FEnv}
theorem fewest_run (S : BaseS Γ) (n : Nat) (b : Blk) (rs : List (List Nat)) (hL : ∀ s, Wf s → Γ n 66 [.t b.t] s = .ok (.t (rws rs)) s) (m : Nat) (h1 : ∀ r ∈ rs, r.length ≤ m) (h2 : ∃ r ∈ rs, r.length = m) (s : Store) (hw : Wf s) :
    ∃ j, j < rs.length ∧ (rs.getD j []).length = m ∧ (∀ i, i < j → (rs.getD i []).length ≠ m) ∧ Γ (n + 1) 68 [.t b.t] s = .ok (.t (.tup [.int (m : Nat), .int ((j : Int) - 1)])) s := by
  have e0 : start 5 [.t b.t] = [some (.t b.t), none, none, none, none] := rfl
  have hlens : (∀ y ∈ ni (rs.map List.length), y ≤ (m : Int)) ∧ (m : Int) ∈ ni (rs.map List.length) := by
    refine ⟨fun y hy => ?_, ?_⟩
    · simp only [ni, List.mem_map] at hy
      obtain ⟨_, ⟨r, hr, rfl⟩, rfl⟩ := hy
      have := h1 r hr; omega
    · obtain ⟨r, hr, e⟩ := h2
      simp only [ni, List.mem_map]
      exact ⟨_, ⟨r, hr, rfl⟩, by rw [e]⟩
  have hmx := max_li hlens.1 hlens.2 s
  have hc1 := lens_comp (rs := rs) (i := 3) (f := e1 lenV (eVar 3)) (ρ := [some (.t b.t), some (.t (rws rs)), none, none, none]) (s := s) (fun r => by
    simp only [List.set, p_e1, p_varS, p_var0, p_ok, li_len, List.length_map])
  have key : ∃ j, j < rs.length ∧ (rs.getD j []).length = m ∧ (∀ i, i < j → (rs.getD i []).length ≠ m) ∧ Rt s (.tup [.int (m : Nat), .int ((j : Int) - 1)]) (g_fewest (Γ n) (start 5 [.t b.t]) s) := by
    unfold g_fewest
    rw [e0, p_seq2, p_asgV]
    simp only [p_call, p_vals, p_vals0, p_var0, p_ok, hL s hw, p_sok, List.set, then_nx]
    rw [p_seq2, p_asgV, p_e1, p_comp]
    simp only [p_iV, p_varS, p_var0, p_ok, lst_iter, List.map_map, wipeE, List.set]
    rw [show (rs.map (Val.t ∘ fun r => li (ni r))) = rs.map (fun r => Val.t (li (ni r))) from rfl, hc1, p_ok, hmx, p_sok, then_nx, p_seq2, p_for]
    have it : iEnum (eVar 1) [some (.t b.t), some (.t (rws rs)), some (iv (m : Nat)), none, none] s = .ok ((List.range rs.length).map fun k => .t (.tup [.int (k : Nat), li (ni (rs.getD k []))])) s := by
      unfold iEnum
      rw [bind_eq]
      simp only [p_varS, p_var0, p_ok]
      show R.ok (enumT 0 (rs.map fun r => li (ni r))) _ = _
      rw [enumT_eq (β := List Nat)]
      simp only [Nat.zero_add]
      rfl
    rw [it, p_sok]
    generalize hc : forL _ _ _ _ _ = o
    rcases for_ixr hc (fun j ρ s1 => s1 = s ∧ (∃ x3 x4, ρ = [some (.t b.t), some (.t (rws rs)), some (iv (m : Nat)), x3, x4]) ∧ ∀ i, i < j → (rs.getD i []).length ≠ m) (fun j o => o = .rt (.t (.tup [.int (m : Nat), .int ((j : Int) - 1)])) s ∧ (rs.getD j []).length = m ∧ ∀ i, i < j → (rs.getD i []).length ≠ m) ⟨rfl, ⟨none, none, rfl⟩, fun i hi => by omega⟩ (by
      rintro j hj ρ s1 ⟨rfl, ⟨x3, x4, rfl⟩, hne⟩
      refine ⟨_, _, p_gTup2 _ _ _ _ _ _, ?_⟩
      simp only [List.set]
      by_cases c : (rs.getD j []).length = m
      · refine .inr ⟨.inl ⟨.t (.tup [.int (m : Nat), .int ((j : Int) - 1)]), s1, ?_⟩, ?_, c, hne⟩ <;>
        simp only [p_if, p_tEq, p_e1, p_varS, p_var0, p_ok, li_len, List.length_map, p_eqI, c, beq_self_eq_true, p_sok, if_true, p_ret, p_tup, p_vals, p_vals0, p_e2, p_eC, p_sub, newT2]
      · have hb : ((((rs.getD j []).length : Nat) : Int) == (m : Nat)) = false := by
          rw [beq_eq_false_iff_ne]; omega
        refine .inl ⟨[some (.t b.t), some (.t (rws rs)), some (iv (m : Nat)), some (.t (li (ni (rs.getD j [])))), some (iv (j : Nat))], s1, ?_, rfl, ⟨_, _, rfl⟩, fun i hi => ?_⟩
        · simp only [p_if, p_tEq, p_e1, p_varS, p_var0, p_ok, li_len, List.length_map, p_eqI, hb, p_sok, Bool.false_eq_true, if_false, p_nil]
        · by_cases e : i = j
          · rw [e]; exact c
          · exact hne i (by omega)) with ⟨ρ', s', _, _, _, hne⟩ | ⟨j, hj, _, rfl, hm, hne⟩
    · exfalso
      obtain ⟨r, hr, e⟩ := h2
      obtain ⟨k, hk, ek⟩ := List.getElem_of_mem hr
      refine hne k hk ?_
      rw [List.getD_eq_getElem?_getD, List.getElem?_eq_getElem hk, ek]
      exact e
    · exact ⟨j, hj, hm, hne, s, rfl, List.take_length⟩
  obtain ⟨j, a, b', c, d⟩ := key
  refine ⟨j, a, b', c, ?_⟩
  rw [S.fewest]
  exact fn_Rt rfl hw d
end
end Fl
set_option Elab.async false
set_option linter.all false
set_option maxRecDepth 100000
/-! Fl: plan, plain part: what a turn keeps. -/
namespace Fl
/-- within the turn of a row r: p done, sl0 before -/
structure PT (sl0 : ND Nat) (r p : List Nat) (sl : ND Nat) (fr : List Nat) : Prop where
  old : ∀ n v, aget sl0 n = some v → aget sl n = some v
  key : ∀ n, (aget sl n).isSome = true ↔ (aget sl0 n).isSome = true ∨ n ∈ p
  dis : ∀ n, n ∈ r → ∀ m, m ∈ r → ∀ v, aget sl n = some v → aget sl m = some v → n = m
  fnd : fr.Nodup
  fne : ∀ f ∈ fr, f < r.length ∧ ∀ n ∈ r, aget sl n ≠ some f
  val : ∀ n v, aget sl n = some v → aget sl0 n = some v ∨ v < r.length
  cnt : ∀ q, r = p ++ q → (q.filter fun n => !(aget sl0 n).isSome).length ≤ fr.length
theorem range_out (n : Nat) (t : List Nat) : n ≤ ((List.range n).filter fun k => !t.contains k).length + t.length := by
  induction t generalizing n with
  | nil =>
    have : (List.range n).filter (fun k => !([] : List Nat).contains k) = List.range n := List.filter_eq_self.mpr fun k _ => rfl
    rw [this, List.length_range]; simp
  | cons x r ih =>
    have h1 := ih n
    have : ((List.range n).filter fun k => !r.contains k).length ≤ ((List.range n).filter fun k => !(x :: r).contains k).length + 1 := by
      have key : ∀ l : List Nat, l.Nodup → (l.filter fun k => !r.contains k).length ≤ (l.filter fun k => !(x :: r).contains k).length + 1 := by
        intro l hl
        induction l with
        | nil => simp
        | cons y q ih2 =>
          obtain ⟨hy, hq⟩ := List.nodup_cons.mp hl
          by_cases c : y = x
          · subst c
            have e : (q.filter fun k => !(y :: r).contains k) = q.filter fun k => !r.contains k := by
              refine List.filter_congr fun k hk => ?_
              have : k ≠ y := fun e => hy (e ▸ hk)
              simp [this]
            rw [List.filter_cons, List.filter_cons, e]
            split <;> split <;> simp <;> omega
          · have h2 := ih2 hq
            have e : ((y :: q).filter fun k => !(x :: r).contains k).length = (q.filter fun k => !(x :: r).contains k).length + (if r.contains y = true then 0 else 1) := by
              rw [List.filter_cons]
              have : (!(x :: r).contains y) = !r.contains y := by simp [c]
              rw [this]
              cases r.contains y <;> simp
            have e3 : ((y :: q).filter fun k => !r.contains k).length = (q.filter fun k => !r.contains k).length + (if r.contains y = true then 0 else 1) := by
              rw [List.filter_cons]
              cases r.contains y <;> simp
            rw [e, e3]; omega
      exact key _ List.nodup_range
    rw [List.length_cons]; omega
theorem PT.init {sl : ND Nat} {r : List Nat} (hd : ∀ n, n ∈ r → ∀ m, m ∈ r → ∀ v, aget sl n = some v → aget sl m = some v → n = m) {tk : List Nat} (ht : ∀ v, v ∈ tk ↔ ∃ n ∈ r, aget sl n = some v) (hl : tk.length + (r.filter fun n => !(aget sl n).isSome).length = r.length) :
    PT sl r [] sl ((List.range r.length).filter fun k => !tk.contains k) := by
  refine ⟨fun n v h => h, fun n => by simp, hd, List.Pairwise.filter _ List.nodup_range, fun f hf => ?_, fun n v h => .inl h, fun q e => ?_⟩
  · rw [List.mem_filter, List.mem_range] at hf
    refine ⟨hf.1, fun n hn h => ?_⟩
    have : f ∈ tk := (ht f).mpr ⟨n, hn, h⟩
    simp [this] at hf
  · rw [List.nil_append] at e
    subst e
    have := range_out r.length tk
    omega
/-- one that has a slot -/
theorem PT.skip {sl0 : ND Nat} {r p : List Nat} {sl : ND Nat} {fr : List Nat} (h : PT sl0 r p sl fr) {x : Nat} {q : List Nat} (e : r = p ++ x :: q) (hx : (aget sl x).isSome = true) (hn : r.Nodup) : PT sl0 r (p ++ [x]) sl fr := by
  refine ⟨h.old, fun n => ?_, h.dis, h.fnd, h.fne, h.val, fun q' e' => ?_⟩
  · rw [h.key n, List.mem_append, List.mem_singleton]
    constructor
    · rintro (a | a)
      · exact .inl a
      · exact .inr (.inl a)
    · rintro (a | a | rfl)
      · exact .inl a
      · exact .inr a
      · exact (h.key _).mp hx
  · have := h.cnt (x :: q') (by rw [e']; simp)
    rw [List.filter_cons] at this
    split at this
    · rw [List.length_cons] at this; omega
    · exact this
/-- one that gets a slot -/
theorem PT.put {sl0 : ND Nat} {r p : List Nat} {sl : ND Nat} {f : Nat} {fr : List Nat} (h : PT sl0 r p sl (f :: fr)) {x : Nat} {q : List Nat} (e : r = p ++ x :: q) (hx : aget sl x = none) (hn : r.Nodup) : PT sl0 r (p ++ [x]) (aput sl x f) fr := by
  have hxr : x ∈ r := by rw [e]; simp
  have ff := h.fne f List.mem_cons_self
  have hx0 : aget sl0 x = none := by
    cases c : aget sl0 x with
    | none => rfl
    | some v => rw [h.old x v c] at hx; cases hx
  obtain ⟨hf1, hf2⟩ := List.nodup_cons.mp h.fnd
  refine ⟨fun n v hv => ?_, fun n => ?_, fun n hn' m hm v a b => ?_, hf2, fun g hg => ⟨(h.fne g (List.mem_cons_of_mem _ hg)).1, fun n hn' => ?_⟩, fun n v hv => ?_, fun q' e' => ?_⟩
  · rw [aget_aput]
    by_cases c : n = x
    · subst c; rw [hx0] at hv; cases hv
    · rw [if_neg c]; exact h.old n v hv
  · rw [aget_aput, List.mem_append, List.mem_singleton]
    by_cases c : n = x
    · rw [if_pos c]; exact ⟨fun _ => .inr (.inr c), fun _ => rfl⟩
    · rw [if_neg c, h.key n]
      exact ⟨fun a => a.elim .inl fun a => .inr (.inl a), fun a => a.elim .inl fun a => a.elim .inr fun a => absurd a c⟩
  · rw [aget_aput] at a b
    by_cases c : n = x
    · by_cases d : m = x
      · rw [c, d]
      · rw [if_pos c] at a; rw [if_neg d] at b
        injection a with a; subst a
        exact absurd b (ff.2 m hm)
    · by_cases d : m = x
      · rw [if_neg c] at a; rw [if_pos d] at b
        injection b with b; subst b
        exact absurd a (ff.2 n hn')
      · rw [if_neg c] at a; rw [if_neg d] at b
        exact h.dis n hn' m hm v a b
  · rw [aget_aput]
    by_cases c : n = x
    · rw [if_pos c]; intro a; injection a with a; subst a; exact hf1 hg
    · rw [if_neg c]; exact (h.fne g (List.mem_cons_of_mem _ hg)).2 n hn'
  · rw [aget_aput] at hv
    by_cases c : n = x
    · rw [if_pos c] at hv; injection hv with hv; subst hv; exact .inr ff.1
    · rw [if_neg c] at hv; exact h.val n v hv
  · have := h.cnt (x :: q') (by rw [e']; simp)
    rw [List.filter_cons, hx0] at this
    simp only [Option.isSome_none, Bool.not_false, if_true, List.length_cons] at this
    omega
theorem PT.more {sl0 : ND Nat} {r p : List Nat} {sl : ND Nat} {fr : List Nat} (h : PT sl0 r p sl fr) {x : Nat} {q : List Nat} (e : r = p ++ x :: q) (hx : aget sl x = none) : ∃ f fr', fr = f :: fr' := by
  have hx0 : aget sl0 x = none := by
    cases c : aget sl0 x with
    | none => rfl
    | some v => rw [h.old x v c] at hx; cases hx
  have := h.cnt (x :: q) e
  rw [List.filter_cons, hx0] at this
  simp only [Option.isSome_none, Bool.not_false, if_true, List.length_cons] at this
  cases fr with
  | nil => simp at this
  | cons f fr' => exact ⟨f, fr', rfl⟩
theorem keys_aput {kv : ND Nat} (h : (kv.map (·.1)).Nodup) (k v : Nat) : ((aput kv k v).map (·.1)).Nodup := by
  unfold aput
  split
  · rw [List.map_map]
    have : ((fun p : Nat × Nat => p.1) ∘ fun p => if p.1 = k then (p.1, v) else p) = fun p => p.1 := by
      funext p
      simp only [Function.comp]
      split <;> rfl
    rw [this]; exact h
  · rename_i hc
    rw [List.map_append, List.nodup_append]
    refine ⟨h, by simp, fun a ha b hb e => ?_⟩
    simp only [List.map_cons, List.map_nil, List.mem_singleton] at hb
    subst hb; subst e
    obtain ⟨p, hp, e⟩ := List.mem_map.mp ha
    exact hc (List.any_eq_true.mpr ⟨p, hp, by simpa using e⟩)
end Fl
set_option Elab.async false
set_option linter.all false
set_option maxRecDepth 100000
/-! Fl: plan, the walk. -/
namespace Fl
structure PI (rs : List (List Nat)) (j : Nat) (sl : ND Nat) : Prop where
  key : ∀ n, (aget sl n).isSome = true ↔ ∃ i, i < j ∧ n ∈ rs.getD i []
  ok : ∀ i, i < j → ∀ n, n ∈ rs.getD i [] → ∀ m, m ∈ rs.getD i [] → ∀ v, aget sl n = some v → aget sl m = some v → n = m
  val : ∀ n v, aget sl n = some v → ∃ i, i < j ∧ v < (rs.getD i []).length
  nd : (sl.map (·.1)).Nodup
theorem PI.init (rs : List (List Nat)) : PI rs 0 [] := ⟨fun n => ⟨fun h => (by simp [aget] at h), fun ⟨i, h, _⟩ => by omega⟩, fun i h => by omega, fun n v h => (by cases h), List.nodup_nil⟩
theorem PI.next {rs : List (List Nat)} {j : Nat} {sl sl' : ND Nat} {fr : List Nat} (h : PI rs j sl) (t : PT sl (rs.getD j []) (rs.getD j []) sl' fr) (hn : (sl'.map (·.1)).Nodup) : PI rs (j + 1) sl' := by
  refine ⟨fun n => ?_, fun i hi n hn m hm v a b => ?_, fun n v hv => ?_, hn⟩
  · rw [t.key n, h.key n]
    constructor
    · rintro (⟨i, hi, hm⟩ | hm)
      · exact ⟨i, by omega, hm⟩
      · exact ⟨j, by omega, hm⟩
    · rintro ⟨i, hi, hm⟩
      by_cases c : i = j
      · subst c; exact .inr hm
      · exact .inl ⟨i, by omega, hm⟩
  · by_cases c : i = j
    · subst c; exact t.dis n hn m hm v a b
    · have k1 := (h.key n).mpr ⟨i, by omega, hn⟩
      have k2 := (h.key m).mpr ⟨i, by omega, hm⟩
      obtain ⟨x, hx⟩ := Option.isSome_iff_exists.mp k1
      obtain ⟨y, hy⟩ := Option.isSome_iff_exists.mp k2
      rw [t.old n x hx] at a
      rw [t.old m y hy] at b
      injection a with a
      injection b with b
      exact h.ok i (by omega) n hn m hm v (by rw [hx, a]) (by rw [hy, b])
  · rcases t.val n v hv with c | c
    · obtain ⟨i, hi, hv⟩ := h.val n v c
      exact ⟨i, by omega, hv⟩
    · exact ⟨j, by omega, c⟩
theorem filt_len (p : Nat → Bool) : ∀ r : List Nat, (r.filter p).length + (r.filter fun n => !p n).length = r.length
  | [] => rfl
  | y :: q => by
    have ih := filt_len p q
    rw [List.filter_cons, List.filter_cons]
    cases p y <;> simp <;> omega
/-- rows that keep what lives -/
def HR (rs : List (List Nat)) : Prop := ∀ j i n, i < j → n ∈ rs.getD i [] → n ∈ rs.getD j [] → n ∈ rs.getD (j - 1) []
abbrev Sp (s : Store) (j : Nat) (sl : ND Nat) (c1 : Store) : Store := s ++ (some (.dct (akv eN sl)) :: (List.replicate j none ++ c1))
section
variable {s : Store} {j : Nat} {sl : ND Nat} {c1 : Store}
theorem sp_c0 : (Sp s j sl c1).cell s.length = some (.dct (akv eN sl)) := by
  unfold Store.cell
  rw [List.getElem?_append_right (Nat.le_refl _), Nat.sub_self]; rfl
theorem sp_set0 (sl' : ND Nat) : (Sp s j sl c1).set s.length (some (.dct (akv eN sl'))) = Sp s j sl' c1 := by
  rw [List.set_append_right _ _ (Nat.le_refl _), Nat.sub_self]; rfl
theorem sp_c1 (c : Cell) : (Sp s j sl [some c]).cell (s.length + 1 + j) = some c := by
  unfold Store.cell
  rw [List.getElem?_append_right (by omega), show s.length + 1 + j - s.length = j + 1 by omega, List.getElem?_cons_succ, List.getElem?_append_right (by simp), List.length_replicate, Nat.sub_self]
  rfl
theorem sp_set1 (c d : Option Cell) : (Sp s j sl [c]).set (s.length + 1 + j) d = Sp s j sl [d] := by
  rw [List.set_append_right _ _ (by omega), show s.length + 1 + j - s.length = j + 1 by omega, List.set_cons_succ, List.set_append_right _ _ (by simp), List.length_replicate, Nat.sub_self]
  rfl
theorem sp_len : (Sp s j sl []).length = s.length + 1 + j := by simp; omega
theorem sp_next : Sp s j sl [none] = Sp s (j + 1) sl [] := by
  unfold Sp
  rw [List.replicate_succ', List.append_nil]
theorem sp_app (c : Option Cell) : Sp s j sl [] ++ [c] = Sp s j sl [c] := by simp [Sp]
end
section
variable {Γ : Nat → FEnv}
/-- the turn of a row -/
theorem plan_turn (rs : List (List Nat)) (hr : ∀ r ∈ rs, r.length ≤ 500 ∧ r.Nodup) (hR : HR rs) (j : Nat) (hj : j < rs.length) (sl : ND Nat) (hs : PI rs j sl) (hsl : sl.length ≤ 500 * j) (s : Store) (x0 x3 x4 x5 : Option Val) (hjm : rs.length ≤ 1000) :
    ∃ sl' y3 y4 y5, PI rs (j + 1) sl' ∧ sl'.length ≤ 500 * (j + 1) ∧ (sSeq (sAsg (eComp false [5] (iV (eVar 2)) (gVar 5) (some (tIn (eVar 5) (eVar 1))) (e2 subI (eVar 1) (eVar 5))) (gVar 3)) (sSeq (sAsg (eCompR true [6] (iRange1 (e1 lenV (eVar 2))) (gVar 6) (some (tNotIn (eVar 6) (eVar 3))) (eVar 6)) (gVar 4)) (sSeq (sFor (iV (eVar 2)) (gVar 5) (sIf (tNotIn (eVar 5) (eVar 1)) (sSub (e2c lstC popL (eVar 4) (eC (.int 0))) (eVar 1) (eVar 5)) (sNil))) (sFz 4)))) [x0, some (.loc s.length), some (.t (li (ni (rs.getD j [])))), x3, x4, x5, none] (Sp s j sl []) =
      .nx [x0, some (.loc s.length), some (.t (li (ni (rs.getD j [])))), y3, y4, y5, none] (Sp s (j + 1) sl' []) := by
  have hmem : rs.getD j [] ∈ rs := by
    rw [List.getD_eq_getElem?_getD, List.getElem?_eq_getElem hj]; exact List.getElem_mem hj
  obtain ⟨hrl, hrn⟩ := hr _ hmem
  have hdis : ∀ n, n ∈ rs.getD j [] → ∀ m, m ∈ rs.getD j [] → ∀ v, aget sl n = some v → aget sl m = some v → n = m := fun n hn m hm v a b => by
    obtain ⟨i, hi, h1⟩ := (hs.key n).mp (by rw [a]; rfl)
    obtain ⟨i', hi', h2⟩ := (hs.key m).mp (by rw [b]; rfl)
    exact hs.ok (j - 1) (by omega) n (hR j i n hi h1 hn) m (hR j i' m hi' h2 hm) v a b
  have hnext := fun (sl' : ND Nat) (fr : List Nat) => hs.next (sl' := sl') (fr := fr)
  generalize rs.getD j [] = r at *
  -- what is taken
  have htk : ∃ tk : List Nat, (∀ v, v ∈ tk ↔ ∃ n ∈ r, aget sl n = some v) ∧ tk.length + (r.filter fun n => !(aget sl n).isSome).length = r.length ∧ eComp false [5] (iV (eVar 2)) (gVar 5) (some (tIn (eVar 5) (eVar 1))) (e2 subI (eVar 1) (eVar 5)) [x0, some (.loc s.length), some (.t (li (ni r))), x3, x4, x5, none] (Sp s j sl []) = .ok (.t (li (ni tk))) (Sp s j sl []) := by
    refine ⟨(r.filter fun n => (aget sl n).isSome).map fun n => (aget sl n).getD 0, fun v => ?_, ?_, ?_⟩
    · rw [List.mem_map]
      constructor
      · rintro ⟨n, hn, e⟩
        rw [List.mem_filter] at hn
        obtain ⟨y, hy⟩ := Option.isSome_iff_exists.mp hn.2
        exact ⟨n, hn.1, by rw [hy] at e ⊢; rw [← e]; rfl⟩
      · rintro ⟨n, hn, e⟩
        exact ⟨n, List.mem_filter.mpr ⟨hn, by rw [e]; rfl⟩, by rw [e]; rfl⟩
    · rw [List.length_map]
      exact filt_len _ r
    · have hc := comp_filter (g := gVar 5) (c := tIn (eVar 5) (eVar 1)) (f := e2 subI (eVar 1) (eVar 5)) (ρ := [x0, some (.loc s.length), some (.t (li (ni r))), x3, x4, none, none]) (s := Sp s j sl []) (fun (k : Nat) => iv (k : Nat)) (fun k => (aget sl k).isSome) (fun k => iv ((aget sl k).getD 0 : Nat)) r (fun k hk => ⟨_, rfl, by
        simp only [List.set, p_tIn, p_varS, p_var0, p_ok, ad_in eN sp_c0], fun hp => by
        obtain ⟨y, hy⟩ := Option.isSome_iff_exists.mp hp
        simp only [List.set, p_e2, p_varS, p_var0, p_ok, ad_get eN sp_c0 hy, hy, Option.getD_some]⟩)
      have hn : newL false ((r.filter fun k => (aget sl k).isSome).map fun k => iv ((aget sl k).getD 0 : Nat)) (Sp s j sl []) = .ok (.t (li (ni ((r.filter fun n => (aget sl n).isSome).map fun n => (aget sl n).getD 0)))) (Sp s j sl []) := by
        have := li_new (ni ((r.filter fun n => (aget sl n).isSome).map fun n => (aget sl n).getD 0)) (Sp s j sl [])
        unfold ni at this
        rw [List.map_map, List.map_map] at this
        exact this
      simp only [p_comp, p_iV, p_varS, p_var0, p_ok, li_iter, wipeE, List.set, ni_map, hc, hn]
  obtain ⟨tk, ht1, ht2, ht3⟩ := htk
  -- what is free
  have hfr : eCompR true [6] (iRange1 (e1 lenV (eVar 2))) (gVar 6) (some (tNotIn (eVar 6) (eVar 3))) (eVar 6) [x0, some (.loc s.length), some (.t (li (ni r))), some (.t (li (ni tk))), x4, x5, none] (Sp s j sl []) = .ok (.loc (s.length + 1 + j)) (Sp s j sl [some (.lst (((List.range r.length).filter fun k => !tk.contains k).map fun (k : Nat) => iv (k : Nat)))]) := by
    have hrg := p_rangeS (b := e1 lenV (eVar 2)) (ρ := [x0, some (.loc s.length), some (.t (li (ni r))), some (.t (li (ni tk))), x4, x5, none]) (s := Sp s j sl []) (s' := Sp s j sl []) (n := r.length) (by simp only [p_e1, p_varS, p_var0, p_ok, li_len, List.length_map]) (by omega)
    rw [p_compRn hrg (by omega)]
    have hc := comp_filter (g := gVar 6) (c := tNotIn (eVar 6) (eVar 3)) (f := eVar 6) (ρ := [x0, some (.loc s.length), some (.t (li (ni r))), some (.t (li (ni tk))), x4, x5, none]) (s := Sp s j sl []) (fun (k : Nat) => iv (k : Nat)) (fun k => !tk.contains k) (fun (k : Nat) => iv (k : Nat)) (List.range r.length) (fun k hk => ⟨_, rfl, by
      have : decide (((k : Nat) : Int) ∈ ni tk) = tk.contains k := by
        rw [Bool.eq_iff_iff, decide_eq_true_eq, List.contains_iff_mem]
        simp only [ni, List.mem_map]
        constructor
        · rintro ⟨y, hy, e⟩; rw [show k = y by omega]; exact hy
        · intro h; exact ⟨k, h, rfl⟩
      simp only [List.set, p_tNotIn, p_varS, p_var0, p_ok, in_li, this], fun _ => rfl⟩)
    simp only [wipeE, List.set, hc, p_ok]
    show R.ok (Val.loc (Sp s j sl []).length) (Sp s j sl [] ++ [_]) = _
    rw [sp_len, sp_app]
  have t0 := PT.init hdis ht1 ht2
  rw [p_seq2, p_asgV, ht3, p_sok, then_nx, p_seq2, p_asgV]
  simp only [List.set]
  rw [hfr, p_sok, then_nx]
  generalize ((List.range r.length).filter fun k => !tk.contains k) = fr0 at t0
  have itr : iV (eVar 2) [x0, some (.loc s.length), some (.t (li (ni r))), some (.t (li (ni tk))), some (.loc (s.length + 1 + j)), x5, none] (Sp s j sl [some (.lst (fr0.map fun (k : Nat) => iv (k : Nat)))]) = .ok (r.map fun (k : Nat) => iv (k : Nat)) (Sp s j sl [some (.lst (fr0.map fun (k : Nat) => iv (k : Nat)))]) := by
    simp only [p_iV, p_varS, p_var0, p_ok, li_iter, ni_map]
  rw [p_seq2, p_for, itr, p_sok]
  generalize hc : forL _ _ _ _ _ = o
  obtain ⟨ρ', s', rfl, sl', fr, y5, rfl, rfl, t1, hl1, hn1⟩ := for_pre hc (fun p ρ s1 => ∃ (sl' : ND Nat) (fr : List Nat) (y5 : Option Val), ρ = [x0, some (.loc s.length), some (.t (li (ni r))), some (.t (li (ni tk))), some (.loc (s.length + 1 + j)), y5, none] ∧ s1 = Sp s j sl' [some (.lst (fr.map fun (k : Nat) => iv (k : Nat)))] ∧ PT sl r p sl' fr ∧ sl'.length ≤ sl.length + p.length ∧ (sl'.map (·.1)).Nodup) ⟨sl, fr0, x5, rfl, rfl, t0, Nat.le_refl _, hs.nd⟩ (by
    rintro p x q e ρ s1 ⟨sl1, fr, y5, rfl, rfl, t1, hl1, hn1⟩
    have hpl : p.length ≤ 500 := by rw [e, List.length_append] at hrl; omega
    cases hx : aget sl1 x with
    | some v =>
      refine ⟨_, _, [x0, some (.loc s.length), some (.t (li (ni r))), some (.t (li (ni tk))), some (.loc (s.length + 1 + j)), some (iv (x : Nat)), none], _, rfl, ?_, sl1, fr, _, rfl, rfl, t1.skip e (by rw [hx]; rfl) hrn, by rw [List.length_append]; omega, hn1⟩
      simp only [List.set, p_if, p_tNotIn, p_varS, p_var0, p_ok, ad_in eN sp_c0, hx, Option.isSome_some, Bool.not_true, p_sok, Bool.false_eq_true, if_false, p_nil]
    | none =>
      obtain ⟨f, fr', rfl⟩ := t1.more e hx
      have hpop : popL (.loc (s.length + 1 + j)) (.t (.int 0)) (Sp s j sl1 [some (.lst ((f :: fr').map fun (k : Nat) => iv (k : Nat)))]) = .ok (iv (f : Nat)) (Sp s j sl1 [some (.lst (fr'.map fun (k : Nat) => iv (k : Nat)))]) := by
        unfold popL
        dsimp only
        rw [sp_c1]
        dsimp only
        rw [show pyIx ((f :: fr').map fun (k : Nat) => iv (k : Nat)).length 0 = some 0 from px_nat (k := 0) (by simp)]
        dsimp only
        show R.ok _ _ = _
        rw [sp_set1]
        rfl
      have hput := ad_put eN (sp_c0 (s := s) (j := j) (sl := sl1) (c1 := [some (.lst (fr'.map fun (k : Nat) => iv (k : Nat)))])) (by have : 500 * j ≤ 500 * 1000 := by omega
                                                                                                                                     omega) x f
      rw [sp_set0] at hput
      have hlc : lstC (.loc (s.length + 1 + j)) (Sp s j sl1 [some (.lst ((f :: fr').map fun (k : Nat) => iv (k : Nat)))]) = .ok () (Sp s j sl1 [some (.lst ((f :: fr').map fun (k : Nat) => iv (k : Nat)))]) := by
        unfold lstC; dsimp only; rw [sp_c1]
      refine ⟨_, _, [x0, some (.loc s.length), some (.t (li (ni r))), some (.t (li (ni tk))), some (.loc (s.length + 1 + j)), some (iv (x : Nat)), none], _, rfl, ?_, aput sl1 x f, fr', _, rfl, rfl, t1.put e hx hrn, by
        have := aput_len sl1 x f
        rw [List.length_append, List.length_singleton]; omega, keys_aput hn1 x f⟩
      simp only [List.set, p_if, p_tNotIn, p_varS, p_var0, p_ok, ad_in eN sp_c0, hx, Option.isSome_none, Bool.not_false, p_sok, if_true, p_ssub, p_e2c, hlc, p_eC, hpop, hput])
  rw [then_nx]
  refine ⟨sl', some (.t (li (ni tk))), some (.t (li (ni fr))), y5, hnext sl' fr t1 hn1, by omega, ?_⟩
  have c4 := sp_c1 (s := s) (j := j) (sl := sl') (.lst (((ni fr).map T.int).map .t))
  have hz := sfz_cell (i := 4) (ρ := [x0, some (.loc s.length), some (.t (li (ni r))), some (.t (li (ni tk))), some (.loc (s.length + 1 + j)), y5, none]) c4 rfl
  rw [sp_set1, sp_next] at hz
  have e9 : ((ni fr).map T.int).map Val.t = fr.map fun (k : Nat) => iv (k : Nat) := by rw [← ni_map, List.map_map]; rfl
  rw [e9] at hz
  rw [hz]
  rfl
end
end Fl
set_option Elab.async false
set_option linter.all false
set_option maxRecDepth 100000
/-! Fl: plan. -/
namespace Fl
section
variable {Γ : Nat → FEnv}
theorem plan_run (S : BaseS Γ) (n : Nat) (b : Blk) (rs : List (List Nat)) (hr : ∀ r ∈ rs, r.length ≤ 500 ∧ r.Nodup) (hR : HR rs) (hjm : rs.length ≤ 1000) (s : Store) (hw : Wf s) (hL : ∀ s, Wf s → Γ n 66 [.t b.t] s = .ok (.t (rws rs)) s) :
    ∃ sl, PI rs rs.length sl ∧ Γ (n + 1) 67 [.t b.t] s = .ok (.t (.dct (akt eN sl))) s := by
  have key : ∃ sl, PI rs rs.length sl ∧ Rt s (.dct (akt eN sl)) (g_plan (Γ n) (start 7 [.t b.t]) s) := by
    unfold g_plan
    have e0 : (sAsg (eDct true []) (gVar 1)) (start 7 [.t b.t]) s = .nx [some (.t b.t), some (.loc s.length), none, none, none, none, none] (Sp s 0 [] []) := rfl
    have w0 : Wf (Sp s 0 [] []) := hw.app fun c hc => by
      simp only [List.replicate, List.append_nil, List.mem_singleton] at hc
      subst hc
      exact ad_below eN _ _
    rw [p_seq2, e0, then_nx, p_seq2, p_seq2, p_for]
    have it : iV (eCall (Γ n) 66 [eVar 0]) [some (.t b.t), some (.loc s.length), none, none, none, none, none] (Sp s 0 [] []) = .ok ((List.range rs.length).map fun j => .t (li (ni (rs.getD j [])))) (Sp s 0 [] []) := by
      simp only [p_iV, p_call, p_vals, p_vals0, p_var0, p_ok, hL _ w0, lst_iter, List.map_map]
      have := map_ix (fun r : List Nat => Val.t (li (ni r))) rs
      exact congrArg (fun l => R.ok l _) this
    rw [it, p_sok]
    generalize hc : forL _ _ _ _ _ = o
    obtain ⟨ρ', s', rfl, sl, x2, x3, x4, x5, rfl, rfl, h1, h2⟩ := for_ix hc (fun j ρ s1 => ∃ sl x2 x3 x4 x5, ρ = [some (.t b.t), some (.loc s.length), x2, x3, x4, x5, none] ∧ s1 = Sp s j sl [] ∧ PI rs j sl ∧ sl.length ≤ 500 * j) ⟨[], none, none, none, none, rfl, rfl, PI.init rs, Nat.zero_le _⟩ (by
      rintro j hj ρ s1 ⟨sl, x2, x3, x4, x5, rfl, rfl, h1, h2⟩
      obtain ⟨sl', y3, y4, y5, h3, h4, h5⟩ := plan_turn rs hr hR j hj sl h1 h2 s (some (.t b.t)) x3 x4 x5 hjm
      exact ⟨_, _, _, _, rfl, h5, sl', _, _, _, _, rfl, rfl, h3, h4⟩)
    refine ⟨sl, h1, (Sp s rs.length sl []).set s.length none, ?_, ?_⟩
    · have hf := ad_frz eN (sp_c0 (s := s) (j := rs.length) (sl := sl) (c1 := []))
      have hz : sFz 1 [some (.t b.t), some (.loc s.length), x2, x3, x4, x5, none] (Sp s rs.length sl []) = .nx [some (.t b.t), some (.t (.dct (akt eN sl))), x2, x3, x4, x5, none] ((Sp s rs.length sl []).set s.length none) := by
        unfold sFz
        show (match freeze (.loc s.length) (Sp s rs.length sl []) with | _ => _) = _
        rw [hf]
        rfl
      rw [then_nx, hz, then_nx]
      rfl
    · rw [List.set_append_right _ _ (Nat.le_refl _), List.take_append_of_le_length (Nat.le_refl _), List.take_length]
  obtain ⟨sl, h1, h2⟩ := key
  refine ⟨sl, h1, ?_⟩
  rw [S.plan]
  exact fn_Rt rfl hw h2
end
/-- after all rows -/
theorem PI.rows {rs : List (List Nat)} {sl : ND Nat} (h : PI rs rs.length sl) (hr : ∀ r ∈ rs, r.Nodup) : rs.all (okRow sl) = true := by
  rw [List.all_eq_true]
  intro r hr'
  obtain ⟨i, hi, e⟩ := List.getElem_of_mem hr'
  have er : rs.getD i [] = r := by rw [List.getD_eq_getElem?_getD, List.getElem?_eq_getElem hi, e]; rfl
  unfold okRow
  rw [Bool.and_eq_true, List.all_eq_true, decide_eq_true_eq]
  refine ⟨fun n hn => (h.key n).mpr ⟨i, hi, er ▸ hn⟩, ?_⟩
  have hn := hr r hr'
  have hd := h.ok i hi
  rw [er] at hd
  have hk : ∀ n ∈ r, (aget sl n).isSome = true := fun n hn => (h.key n).mpr ⟨i, hi, er ▸ hn⟩
  clear e er hr'
  induction r with
  | nil => exact List.nodup_nil
  | cons x q ih =>
    obtain ⟨h1, h2⟩ := List.nodup_cons.mp hn
    rw [List.map_cons, List.nodup_cons]
    refine ⟨fun hm => ?_, ih h2 (fun n hn m hm v a b => hd n (List.mem_cons_of_mem _ hn) m (List.mem_cons_of_mem _ hm) v a b) fun n hn => hk n (List.mem_cons_of_mem _ hn)⟩
    obtain ⟨y, hy, e⟩ := List.mem_map.mp hm
    obtain ⟨v, hv⟩ := Option.isSome_iff_exists.mp (hk x List.mem_cons_self)
    have := hd x List.mem_cons_self y (List.mem_cons_of_mem _ hy) v hv (by rw [e, hv])
    subst this
    exact h1 hy
end Fl
set_option Elab.async false
set_option linter.all false
set_option maxRecDepth 100000
/-! Fl: the rows of drawn code. -/
namespace Fl
/-- a block whose k-th instruction makes register 3 + k -/
structure RB (code : List Ins) (res : List Nat) : Prop where
  out : ∀ k i, code[k]? = some i → i.outs = [3 + k]
  ins : ∀ k i, code[k]? = some i → i.ins.length ≤ 5 ∧ ∀ r ∈ i.ins, r < 3 + k
  len : code.length ≤ 40
  res : res.length ≤ 5 ∧ ∀ r ∈ res, r < 3 + code.length
def rwF (code : List Ins) (res : List Nat) (j : Nat) : List Nat := (List.range (3 + j)).filter fun n => decide (j = 0) || (decide (n + 1 = 3 + j) || later code res j n)
theorem later_mono {code : List Ins} {res : List Nat} {i j n : Nat} (h : i ≤ j) (hl : later code res j n = true) : later code res i n = true := by
  rw [later_iff] at *
  rcases hl with h1 | ⟨k, x, h1, h2, h3⟩
  · exact .inl h1
  · exact .inr ⟨k, x, by omega, h2, h3⟩
theorem rw_mem {code : List Ins} {res : List Nat} {j n : Nat} : n ∈ rwF code res j ↔ n < 3 + j ∧ (j = 0 ∨ n + 1 = 3 + j ∨ later code res j n = true) := by
  unfold rwF
  rw [List.mem_filter, List.mem_range, Bool.or_eq_true, Bool.or_eq_true, decide_eq_true_eq, decide_eq_true_eq]
theorem rw_nodup (code : List Ins) (res : List Nat) (j : Nat) : (rwF code res j).Nodup := List.Pairwise.filter _ List.nodup_range
theorem rw_len (code : List Ins) (res : List Nat) (j : Nat) : (rwF code res j).length ≤ 3 + j := by
  have := List.length_filter_le (fun n => decide (j = 0) || (decide (n + 1 = 3 + j) || later code res j n)) (List.range (3 + j))
  rw [List.length_range] at this
  exact this
theorem kn_rw {code : List Ins} {res : List Nat} (h : RB code res) : ∀ j, j ≤ code.length → (knF code res 3 j).Nodup ∧ ∀ n, n ∈ knF code res 3 j ↔ n ∈ rwF code res j
  | 0, _ => ⟨List.nodup_range, fun n => by
    rw [rw_mem]
    show n ∈ List.range 3 ↔ _
    rw [List.mem_range]
    exact ⟨fun h => ⟨h, .inl rfl⟩, fun h => h.1⟩⟩
  | j + 1, hj => by
    obtain ⟨h1, h2⟩ := kn_rw h j (by omega)
    have hx : code[j]? = some (code.getD j default) := by
      rw [List.getD_eq_getElem?_getD, List.getElem?_eq_getElem (by omega)]; rfl
    have ho := h.out j _ hx
    have e : knF code res 3 (j + 1) = (knF code res 3 j).filter (later code res (j + 1)) ++ [3 + j] := by
      rw [knF, ho]
    rw [e]
    refine ⟨?_, fun n => ?_⟩
    · rw [List.nodup_append]
      refine ⟨List.Pairwise.filter _ h1, by simp, fun a ha b hb e => ?_⟩
      rw [List.mem_singleton] at hb
      subst hb; subst e
      have := (rw_mem.mp ((h2 _).mp (List.mem_filter.mp ha).1)).1
      omega
    · rw [List.mem_append, List.mem_filter, h2, rw_mem, rw_mem, List.mem_singleton]
      constructor
      · rintro (⟨⟨a, _⟩, b⟩ | rfl)
        · exact ⟨by omega, .inr (.inr b)⟩
        · exact ⟨by omega, .inr (.inl (by omega))⟩
      · rintro ⟨a, b | b | b⟩
        · omega
        · exact .inr (by omega)
        · by_cases c : n = 3 + j
          · exact .inr c
          · exact .inl ⟨⟨by omega, .inr (.inr (later_mono (Nat.le_succ j) b))⟩, b⟩
theorem row_rw {code : List Ins} {res : List Nat} (h : RB code res) {j : Nat} (hj : j ≤ code.length) : rowF code res 3 j = ni (rwF code res j) ∧ (knF code res 3 j).length < 64 := by
  obtain ⟨h1, h2⟩ := kn_rw h j hj
  have hp : (knF code res 3 j).Perm (rwF code res j) := (List.perm_ext_iff_of_nodup h1 (rw_nodup _ _ _)).mpr h2
  refine ⟨?_, ?_⟩
  · unfold rowF
    symm
    refine sort_dedup ?_ fun k => ?_
    · unfold ni
      rw [List.pairwise_map]
      have : (rwF code res j).Pairwise (· < ·) := List.Pairwise.filter _ List.pairwise_lt_range
      exact this.imp fun h => by omega
    · simp only [ni, List.mem_map]
      exact ⟨fun ⟨n, hn, e⟩ => ⟨n, (h2 n).mpr hn, e⟩, fun ⟨n, hn, e⟩ => ⟨n, (h2 n).mp hn, e⟩⟩
  · rw [hp.length_eq]
    have := rw_len code res j
    have := h.len
    omega
def rsF (code : List Ins) (res : List Nat) : List (List Nat) := (List.range (code.length + 1)).map (rwF code res)
theorem rs_get {code : List Ins} {res : List Nat} {j : Nat} (h : j ≤ code.length) : (rsF code res).getD j [] = rwF code res j := by
  unfold rsF
  rw [List.getD_eq_getElem?_getD, List.getElem?_map, List.getElem?_range (by omega)]; rfl
theorem rs_len (code : List Ins) (res : List Nat) : (rsF code res).length = code.length + 1 := by unfold rsF; rw [List.length_map, List.length_range]
theorem rs_out {code : List Ins} {res : List Nat} {j : Nat} (h : ¬ j ≤ code.length) : (rsF code res).getD j [] = [] := by
  rw [List.getD_eq_getElem?_getD, List.getElem?_eq_none (by rw [rs_len]; omega)]; rfl
theorem rs_HR (code : List Ins) (res : List Nat) : HR (rsF code res) := fun j i n hij h1 h2 => by
  by_cases hj : j ≤ code.length
  · rw [rs_get hj] at h2
    rw [rs_get (by omega)] at h1 ⊢
    rw [rw_mem] at *
    refine ⟨by omega, ?_⟩
    rcases h2.2 with h | h | h
    · omega
    · omega
    · exact .inr (.inr (later_mono (Nat.sub_le j 1) h))
  · rw [rs_out hj] at h2; cases h2
theorem rs_row {code : List Ins} {res : List Nat} (h : RB code res) : ∀ r ∈ rsF code res, r.length ≤ 500 ∧ r.Nodup := fun r hr => by
  unfold rsF at hr
  obtain ⟨j, hj, rfl⟩ := List.mem_map.mp hr
  have hj := List.mem_range.mp hj
  have := rw_len code res j
  have := h.len
  exact ⟨by omega, rw_nodup _ _ _⟩
section
variable {Γ : Nat → FEnv}
theorem live_rb (S : BaseS Γ) (n : Nat) (b : Blk) (h : RB b.code b.outs) (hA : ∀ s, Wf s → Γ (n + 1) 64 [.t b.t] s = .ok (.t (li (ni (List.range 3)))) s) (s : Store) (hw : Wf s) : Γ (n + 2) 66 [.t b.t] s = .ok (.t (rws (rsF b.code b.outs))) s := by
  have hl := h.len
  have := live_run S n b 3 (by omega) (fun i hi => by
    obtain ⟨k, e⟩ := List.getElem?_of_mem hi
    have := (h.ins k i e).1; omega) (by have := h.res.1; omega) hA (fun j hj => (row_rw h hj).2) s hw
  rw [this]
  unfold rws rsF
  rw [List.map_map]
  have : (List.range (b.code.length + 1)).map (fun j => li (rowF b.code b.outs 3 j)) = (List.range (b.code.length + 1)).map ((fun r => li (ni r)) ∘ rwF b.code b.outs) := List.map_congr_left fun j hj => by
    have hj := List.mem_range.mp hj
    show li (rowF b.code b.outs 3 j) = li (ni (rwF b.code b.outs j))
    rw [(row_rw h (by omega)).1]
  rw [this]
end
theorem Mok.rb {code : List Ins} {safe : List Nat} (h : Cok code safe) (hl : code.length ≤ 33) {mc : List Ins} {mr : Nat} (hm : Mok code safe mc mr) : RB mc [mr] := by
  have sz : ∀ i ∈ code, i.ins.length ≤ 5 := fun i hi => (h.sm hl i hi).2.2.1
  cases hm with
  | flat r hr => exact ⟨h.out, fun k i e => ⟨sz i (List.mem_of_getElem? e), fun r hr => (h.ins k i e r hr).2⟩, by omega, by simp, fun r hr' => by rw [List.mem_singleton.mp hr']; exact h.saf _ hr⟩
  | call a b r ha hb hr =>
    have get : ∀ k j, (code ++ [⟨"call", .str "other", [0, a, b], [3 + code.length]⟩])[k]? = some j → code[k]? = some j ∨ (k = code.length ∧ j = (⟨"call", .str "other", [0, a, b], [3 + code.length]⟩ : Ins)) := fun k j e => by
      rcases Nat.lt_or_ge k code.length with hk | hk
      · rw [List.getElem?_append_left hk] at e
        exact .inl e
      · rw [List.getElem?_append_right hk] at e
        obtain ⟨hlt, e⟩ := List.getElem?_eq_some_iff.mp e
        have : k - code.length = 0 := by simpa using hlt
        refine .inr ⟨by omega, ?_⟩
        rw [← e]
        simp
    have s1 := h.saf a ha
    have s2 := h.saf b hb
    refine ⟨fun k i e => ?_, fun k i e => ?_, by rw [List.length_append]; simp; omega, by simp, fun r hr' => ?_⟩
    · rcases get k i e with e | ⟨rfl, rfl⟩
      · exact h.out k i e
      · rfl
    · rcases get k i e with e | ⟨rfl, rfl⟩
      · exact ⟨sz i (List.mem_of_getElem? e), fun r hr => (h.ins k i e r hr).2⟩
      · refine ⟨by simp, fun r hr => ?_⟩
        simp only [List.mem_cons, List.not_mem_nil, or_false] at hr
        rcases hr with rfl | rfl | rfl <;> omega
    · rw [List.mem_singleton.mp hr', List.length_append, List.length_singleton]
      rcases hr with hr | hr
      · have := h.saf _ hr; omega
      · omega
end Fl
set_option Elab.async false
set_option linter.all false
set_option maxRecDepth 100000
set_option maxHeartbeats 0
namespace Fl.k05
noncomputable section
open L2 (inClass defBody defScope defArgs)
def top (i : Nat) : PySem.Stmt := PySem.Challenge.pw_flatsheaves_k05_layouts.main.body.getD i (.Pass ⟨0, 0, 0, 0⟩)
/-- vectors_of -/
def f_vectors_of (G : FEnv) : SM := sSeq (sIf (tEq (e2 subI (eVar 0) (eC (.int 0))) (eC (.str "num"))) (sRet (eLst true [e1 (listV true) (eVar 1)])) (sNil)) (sSeq (sIf (tEq (e2 subI (eVar 0) (eC (.int 0))) (eC (.str "pair"))) (sRet (e2 (addV true) (eCall G 22 [e2 subI (eVar 0) (eC (.int 1)), eComp false [2] (iV (eVar 1)) (gVar 2) none (e2 subI (eVar 2) (eC (.int 0)))]) (eCall G 22 [e2 subI (eVar 0) (eC (.int 2)), eComp false [2] (iV (eVar 1)) (gVar 2) none (e2 subI (eVar 2) (eC (.int 1)))]))) (sNil)) (sRet (e2 (addV true) (eLst true [eComp true [3] (iV (eVar 1)) (gVar 3) none (e1 lenV (eVar 3))]) (eCall G 22 [e2 subI (eVar 0) (eC (.int 1)), eComp2 false [3, 4] [4] (iV (eVar 1)) (gVar 3) none (iV (eVar 3)) (gVar 4) none (eVar 4)]))))
/-- width -/
def f_width (G : FEnv) : SM := sSeq (sIf (tEq (e2 subI (eVar 0) (eC (.int 0))) (eC (.str "num"))) (sRet (eC (.int 1))) (sNil)) (sSeq (sIf (tEq (e2 subI (eVar 0) (eC (.int 0))) (eC (.str "pair"))) (sRet (e2 (addV false) (eCall G 23 [e2 subI (eVar 0) (eC (.int 1))]) (eCall G 23 [e2 subI (eVar 0) (eC (.int 2))]))) (sNil)) (sRet (e2 (addV false) (eC (.int 1)) (eCall G 23 [e2 subI (eVar 0) (eC (.int 1))]))))
/-- values_of -/
def f_values_of (G : FEnv) : SM := sSeq (sIf (tEq (e2 subI (eVar 0) (eC (.int 0))) (eC (.str "num"))) (sRet (e1 (listV true) (e2 subI (eVar 1) (eC (.int 0))))) (sNil)) (sSeq (sIf (tEq (e2 subI (eVar 0) (eC (.int 0))) (eC (.str "pair"))) (sSeq (sAsg (eCall G 23 [e2 subI (eVar 0) (eC (.int 1))]) (gVar 2)) (sSeq (sAsg (eCall G 24 [e2 subI (eVar 0) (eC (.int 2)), eSlice true (eVar 1) (some (eVar 2)) none]) (gVar 3)) (sRet (eCompN true [4, 5] (nE (eCall G 24 [e2 subI (eVar 0) (eC (.int 1)), eSlice true (eVar 1) none (some (eVar 2))])) (gTup [4, 5]) none (eTup true [eVar 5, e2 subI (eVar 3) (eVar 4)]))))) (sNil)) (sSeq (sAsg (eCall G 24 [e2 subI (eVar 0) (eC (.int 1)), eSlice true (eVar 1) (some (eC (.int 1))) none]) (gVar 6)) (sSeq (sAsg (eLst true []) (gVar 7)) (sSeq (sAsg (eC (.int 0)) (gVar 4)) (sSeq (sForN (nV (e2 subI (eVar 1) (eC (.int 0)))) (gVar 8) (sSeq (sExpr (e2c lstC appendV (eVar 7) (eSlice true (eVar 6) (some (eVar 4)) (some (e2 (addV false) (eVar 4) (eVar 8)))))) (sAsg (e2 (addV false) (eVar 4) (eVar 8)) (gVar 4)))) (sRet (eVar 7)))))))
/-- _law_state -/
def f_w_state (G : FEnv) : SM := sSeq (sAsg (eC (.int 7)) (gVar 1)) (sSeq (sFor (iV (eVar 0)) (gVar 2) (sAsg (e2 modV (e1 intV (e2 (addV false) (e2 (mulV false) (eVar 1) (eC (.int 31))) (eVar 2))) (eC (.int 1000003))) (gVar 1))) (sRet (eLst true [eComp true [2] (iV (eVar 0)) (gVar 2) none (e1 absV (e1 intV (eVar 2))), e2 (addV false) (eVar 1) (eC (.int 1))])))
/-- _law_draw -/
def f_w_draw (G : FEnv) : SM := sSeq (sAsg (e2 subI (eVar 0) (eC (.int 0))) (gVar 2)) (sSeq (sWhile (tAnd (tGt (e1 lenV (eVar 2)) (eC (.int 0))) (tEq (e2 subI (eVar 2) (eC (.int 0))) (eC (.int 0)))) (sExpr (e2c lstC popL (eVar 2) (eC (.int 0))))) (sSeq (sIf (tGt (e1 lenV (eVar 2)) (eC (.int 0))) (sSeq (sAsg (e2 subI (eVar 2) (eC (.int 0))) (gVar 3)) (sSeq (sSub (e2 fdivV (eVar 3) (eVar 1)) (eVar 2) (eC (.int 0))) (sRet (e2 modV (e1 intV (eVar 3)) (eVar 1))))) (sNil)) (sSeq (sAsg (e2 modV (e1 intV (e2 (addV false) (e2 (mulV false) (e2 subI (eVar 0) (eC (.int 1))) (eC (.int 48271))) (eC (.int 12345)))) (eC (.int 2147483647))) (gVar 4)) (sSeq (sSub (eVar 4) (eVar 0) (eC (.int 1))) (sRet (e2 modV (e1 intV (e2 fdivV (eVar 4) (eC (.int 64)))) (eVar 1)))))))
/-- _law_pick -/
def f_w_pick (G : FEnv) : SM := sRet (e2 subI (eVar 1) (eCall G 75 [eVar 0, e1 lenV (eVar 1)]))
/-- _law_number -/
def f_w_number (G : FEnv) : SM := sSeq (sAsg (eLst false [eC (.int 0), e1 negV (eC (.int 1)), eC (.int 2147483647), e1 negV (eC (.int 2147483648)), eC (.int 65536)]) (gVar 1)) (sSeq (sIf (tEq (eCall G 75 [eVar 0, eC (.int 6)]) (eC (.int 0))) (sRet (eCall G 76 [eVar 0, eVar 1])) (sNil)) (sRet (e2 subV (eCall G 75 [eVar 0, eC (.int 7)]) (eC (.int 2)))))
/-- _law_kind -/
def f_w_kind (G : FEnv) : SM := sSeq (sAsg (eCall G 75 [eVar 0, eC (.int 4)]) (gVar 2)) (sSeq (sIf (tOr (tEq (eVar 1) (eC (.int 0))) (tEq (eVar 2) (eC (.int 0)))) (sRet (eTup false [eC (.str "num")])) (sNil)) (sSeq (sIf (tEq (eVar 2) (eC (.int 1))) (sRet (eTup false [eC (.str "pair"), eCall G 81 [eVar 0, e2 subV (eVar 1) (eC (.int 1))], eCall G 81 [eVar 0, e2 subV (eVar 1) (eC (.int 1))]])) (sNil)) (sRet (eTup false [eC (.str "seq"), eCall G 81 [eVar 0, e2 subV (eVar 1) (eC (.int 1))]]))))
/-- _law_value -/
def f_w_value (G : FEnv) : SM := sSeq (sIf (tEq (e2 subI (eVar 1) (eC (.int 0))) (eC (.str "num"))) (sRet (eCall G 77 [eVar 0])) (sNil)) (sSeq (sIf (tEq (e2 subI (eVar 1) (eC (.int 0))) (eC (.str "pair"))) (sRet (eTup false [eCall G 82 [eVar 0, e2 subI (eVar 1) (eC (.int 1))], eCall G 82 [eVar 0, e2 subI (eVar 1) (eC (.int 2))]])) (sNil)) (sRet (eCompR false [2] (iRange1 (eCall G 75 [eVar 0, eC (.int 4)])) (gVar 2) none (eCall G 82 [eVar 0, e2 subI (eVar 1) (eC (.int 1))]))))
/-- _law_lanes -/
def f_w_lanes (G : FEnv) : SM := sSeq (sIf (tEq (e2 subI (eVar 0) (eC (.int 0))) (eC (.str "num"))) (sRet (eLst false [eComp false [2] (iV (eVar 1)) (gVar 2) none (eVar 2)])) (sNil)) (sSeq (sIf (tEq (e2 subI (eVar 0) (eC (.int 0))) (eC (.str "pair"))) (sSeq (sAsg (eCall G 105 [e2 subI (eVar 0) (eC (.int 1)), eComp false [4] (iV (eVar 1)) (gVar 4) none (e2 subI (eVar 4) (eC (.int 0)))]) (gVar 3)) (sRet (e2 (addV false) (eVar 3) (eCall G 105 [e2 subI (eVar 0) (eC (.int 2)), eComp false [4] (iV (eVar 1)) (gVar 4) none (e2 subI (eVar 4) (eC (.int 1)))])))) (sNil)) (sSeq (sAsg (eLst false []) (gVar 5)) (sSeq (sFor (iV (eVar 1)) (gVar 6) (sAsg (e2 (addV false) (eVar 5) (eVar 6)) (gVar 5))) (sRet (e2 (addV false) (eLst false [eComp false [6] (iV (eVar 1)) (gVar 6) none (e1 lenV (eVar 6))]) (eCall G 105 [e2 subI (eVar 0) (eC (.int 1)), eVar 5]))))))
/-- _law_spoil -/
def f_w_spoil (G : FEnv) : SM := sSeq (sIf (tIsi "tuple" (eVar 0)) (sSeq (sExpr (eCall G 104 [e2 subI (eVar 0) (eC (.int 0))])) (sExpr (eCall G 104 [e2 subI (eVar 0) (eC (.int 1))]))) (sNil)) (sIf (tIsi "list" (eVar 0)) (sSeq (sForN (nV (eVar 0)) (gVar 1) (sExpr (eCall G 104 [eVar 1]))) (sExpr (e2c lstC appendV (eVar 0) (eC (.int 5))))) (sNil))
/-- law -/
def f_law (G : FEnv) : SM := sSeq (sAsg (eCall G 74 [eVar 0]) (gVar 1)) (sSeq (sAsg (eCall G 81 [eVar 1, eC (.int 4)]) (gVar 2)) (sSeq (sAsg (eCompR false [4] (iRange1 (eCall G 75 [eVar 1, eC (.int 6)])) (gVar 4) none (eCall G 82 [eVar 1, eVar 2])) (gVar 3)) (sSeq (sAsg (e1 reprV (eVar 3)) (gVar 5)) (sSeq (sAsg (eCall G 22 [eVar 2, eVar 3]) (gVar 6)) (sSeq (sIf (tOr (tNe (eVar 6) (eCall G 105 [eVar 2, eVar 3])) (tNe (e1 reprV (eVar 3)) (eVar 5))) (sRet (eC (.bl false))) (sNil)) (sSeq (sAsg (e1 reprV (eVar 6)) (gVar 7)) (sSeq (sAsg (eCall G 24 [eVar 2, eVar 6]) (gVar 8)) (sSeq (sIf (tOr (tNe (eVar 8) (eVar 3)) (tNe (e1 reprV (eVar 6)) (eVar 7))) (sRet (eC (.bl false))) (sNil)) (sSeq (sExpr (eCall G 104 [eVar 8])) (sSeq (sIf (tNe (e1 reprV (eVar 6)) (eVar 7)) (sRet (eC (.bl false))) (sNil)) (sSeq (sExpr (eCall G 104 [eVar 6])) (sRet (eB (tEq (e1 reprV (eVar 3)) (eVar 5)))))))))))))))
def tb : Tab := { fns := [("vectors_of", 22, 2), ("width", 23, 1), ("values_of", 24, 2), ("_law_state", 74, 1), ("_law_draw", 75, 2), ("_law_pick", 76, 2), ("_law_number", 77, 1), ("_law_kind", 81, 2), ("_law_value", 82, 2), ("_law_lanes", 105, 2), ("_law_spoil", 104, 1), ("law", 80, 1)], cls := [], mts := [], consts := [], excs := [], ats := [], free := ["abs", "enumerate", "int", "isinstance", "len", "list", "range", "repr", "tuple"], exIs := [], exMs := [] }
def ets : List String := []
def N_f_vectors_of : List PySem.Str := [("kind" : PySem.Str), ("values" : PySem.Str), ("pair" : PySem.Str), ("items" : PySem.Str), ("item" : PySem.Str)]
abbrev sc_f_vectors_of : PySem.Scope := L2.defScope (top 1)
theorem ok_f_vectors_of {G : FEnv} {CA : Tags} {XR : XRel} {k : Nat} {X : L2.Cx} {W : L2.WX} (C : Cs tb G CA XR k N_f_vectors_of sc_f_vectors_of X W) : SS CA XR X W (L2.defBody (top 1)) (f_vectors_of G) := sw_cons (ss_if (st_eq C.q.toCw (se_ix C.q.toCw (se_var C.q.toCw 0) (se_int)) (se_str)) (sw_one (ss_ret (se_lst true (sa_cons (se_list C.q.toCw true (by decide +kernel) (se_var C.q.toCw 1)) (sa_nil))))) (sw_nil)) (sw_cons (ss_if (st_eq C.q.toCw (se_ix C.q.toCw (se_var C.q.toCw 0) (se_int)) (se_str)) (sw_one (ss_ret (se_add true (se_call C.q 22 2 (by decide +kernel) (List.mem_of_getElem? (i := 0) rfl) rfl (sa_cons (se_ix C.q.toCw (se_var C.q.toCw 0) (se_int)) (sa_cons (se_lc (ownL := [(("pair" : PySem.Str), 2)]) false C.q (gin_var (by decide)) (blk_of (by decide +kernel)) (sl_seq (se_var C.q.toCw 1)) (fun _ _ C1 => sg_var C1.toCw 2 rfl (by decide +kernel)) (fun _ _ C1 => sts_nil) (fun _ _ C1 => se_ix C1.toCw (se_var C1.toCw 2) (se_int))) (sa_nil)))) (se_call C.q 22 2 (by decide +kernel) (List.mem_of_getElem? (i := 0) rfl) rfl (sa_cons (se_ix C.q.toCw (se_var C.q.toCw 0) (se_int)) (sa_cons (se_lc (ownL := [(("pair" : PySem.Str), 2)]) false C.q (gin_var (by decide)) (blk_of (by decide +kernel)) (sl_seq (se_var C.q.toCw 1)) (fun _ _ C1 => sg_var C1.toCw 2 rfl (by decide +kernel)) (fun _ _ C1 => sts_nil) (fun _ _ C1 => se_ix C1.toCw (se_var C1.toCw 2) (se_int))) (sa_nil))))))) (sw_nil)) (sw_one (ss_ret (se_add true (se_lst true (sa_cons (se_lc (ownL := [(("items" : PySem.Str), 3)]) true C.q (gin_var (by decide)) (blk_of (by decide +kernel)) (sl_seq (se_var C.q.toCw 1)) (fun _ _ C1 => sg_var C1.toCw 3 rfl (by decide +kernel)) (fun _ _ C1 => sts_nil) (fun _ _ C1 => se_len C1.toCw (by decide +kernel) (se_var C1.toCw 3))) (sa_nil))) (se_call C.q 22 2 (by decide +kernel) (List.mem_of_getElem? (i := 0) rfl) rfl (sa_cons (se_ix C.q.toCw (se_var C.q.toCw 0) (se_int)) (sa_cons (se_lc2 (ownL := [(("items" : PySem.Str), 3), (("item" : PySem.Str), 4)]) (own1 := [4]) false C.q (gin_var (by decide)) (gin_var (by decide)) (by decide) (blk_of (by decide +kernel)) (si_of (sl_seq (se_var C.q.toCw 1))) (fun _ _ C1 => sg_var C1.toCw 3 rfl (by decide +kernel)) (fun _ _ C1 => sts_nil) (fun _ _ C1 => si_of (sl_seq (se_var C1.toCw 3))) (fun _ _ C1 => sg_var C1.toCw 4 rfl (by decide +kernel)) (fun _ _ C1 => sts_nil) (fun _ _ C1 => se_var C1.toCw 4)) (sa_nil))))))))
def N_f_width : List PySem.Str := [("kind" : PySem.Str)]
abbrev sc_f_width : PySem.Scope := L2.defScope (top 2)
theorem ok_f_width {G : FEnv} {CA : Tags} {XR : XRel} {k : Nat} {X : L2.Cx} {W : L2.WX} (C : Cs tb G CA XR k N_f_width sc_f_width X W) : SS CA XR X W (L2.defBody (top 2)) (f_width G) := sw_cons (ss_if (st_eq C.q.toCw (se_ix C.q.toCw (se_var C.q.toCw 0) (se_int)) (se_str)) (sw_one (ss_ret (se_int))) (sw_nil)) (sw_cons (ss_if (st_eq C.q.toCw (se_ix C.q.toCw (se_var C.q.toCw 0) (se_int)) (se_str)) (sw_one (ss_ret (se_add false (se_call C.q 23 1 (by decide +kernel) (List.mem_of_getElem? (i := 1) rfl) rfl (sa_cons (se_ix C.q.toCw (se_var C.q.toCw 0) (se_int)) (sa_nil))) (se_call C.q 23 1 (by decide +kernel) (List.mem_of_getElem? (i := 1) rfl) rfl (sa_cons (se_ix C.q.toCw (se_var C.q.toCw 0) (se_int)) (sa_nil)))))) (sw_nil)) (sw_one (ss_ret (se_add false (se_int) (se_call C.q 23 1 (by decide +kernel) (List.mem_of_getElem? (i := 1) rfl) rfl (sa_cons (se_ix C.q.toCw (se_var C.q.toCw 0) (se_int)) (sa_nil)))))))
def N_f_values_of : List PySem.Str := [("kind" : PySem.Str), ("vectors" : PySem.Str), ("many" : PySem.Str), ("others" : PySem.Str), ("at" : PySem.Str), ("first" : PySem.Str), ("items" : PySem.Str), ("out" : PySem.Str), ("length" : PySem.Str)]
abbrev sc_f_values_of : PySem.Scope := L2.defScope (top 3)
theorem ok_f_values_of {G : FEnv} {CA : Tags} {XR : XRel} {k : Nat} {X : L2.Cx} {W : L2.WX} (C : Cs tb G CA XR k N_f_values_of sc_f_values_of X W) : SS CA XR X W (L2.defBody (top 3)) (f_values_of G) := sw_cons (ss_if (st_eq C.q.toCw (se_ix C.q.toCw (se_var C.q.toCw 0) (se_int)) (se_str)) (sw_one (ss_ret (se_list C.q.toCw true (by decide +kernel) (se_ix C.q.toCw (se_var C.q.toCw 1) (se_int))))) (sw_nil)) (sw_cons (ss_if (st_eq C.q.toCw (se_ix C.q.toCw (se_var C.q.toCw 0) (se_int)) (se_str)) (sw_cons (ss_set C.q.toCw 2 rfl (by decide +kernel) (se_call C.q 23 1 (by decide +kernel) (List.mem_of_getElem? (i := 1) rfl) rfl (sa_cons (se_ix C.q.toCw (se_var C.q.toCw 0) (se_int)) (sa_nil)))) (sw_cons (ss_set C.q.toCw 3 rfl (by decide +kernel) (se_call C.q 24 2 (by decide +kernel) (List.mem_of_getElem? (i := 2) rfl) rfl (sa_cons (se_ix C.q.toCw (se_var C.q.toCw 0) (se_int)) (sa_cons (se_slice true (se_var C.q.toCw 1) (so_some (se_var C.q.toCw 2)) so_none) (sa_nil))))) (sw_one (ss_ret (se_lcN (ownL := [(("at" : PySem.Str), 4), (("first" : PySem.Str), 5)]) true C.q (gin_tup (by decide)) (blk_of (by decide +kernel)) (sn_enum C.q.toCw (by decide +kernel) (se_call C.q 24 2 (by decide +kernel) (List.mem_of_getElem? (i := 2) rfl) rfl (sa_cons (se_ix C.q.toCw (se_var C.q.toCw 0) (se_int)) (sa_cons (se_slice true (se_var C.q.toCw 1) so_none (so_some (se_var C.q.toCw 2))) (sa_nil))))) (fun _ _ C1 => sg_tup C1 (sgs_cons C1.toCw 4 rfl (by decide +kernel) (sgs_cons C1.toCw 5 rfl (by decide +kernel) (sgs_nil)))) (fun _ _ C1 => sts_nil) (fun _ _ C1 => se_tup true (sa_cons (se_var C1.toCw 5) (sa_cons (se_ix C1.toCw (se_var C1.toCw 3) (se_var C1.toCw 4)) (sa_nil))))))))) (sw_nil)) (sw_cons (ss_set C.q.toCw 6 rfl (by decide +kernel) (se_call C.q 24 2 (by decide +kernel) (List.mem_of_getElem? (i := 2) rfl) rfl (sa_cons (se_ix C.q.toCw (se_var C.q.toCw 0) (se_int)) (sa_cons (se_slice true (se_var C.q.toCw 1) (so_some (se_int)) so_none) (sa_nil))))) (sw_cons (ss_set C.q.toCw 7 rfl (by decide +kernel) (se_lst true (sa_nil))) (sw_cons (ss_set C.q.toCw 4 rfl (by decide +kernel) (se_int)) (sw_cons (ss_forN C (sn_v (se_ix C.q.toCw (se_var C.q.toCw 1) (se_int))) (sg_var C.q.toCw 8 rfl (by decide +kernel)) (sw_cons (ss_expr (se_append (se_var C.q.toCw 7) (se_slice true (se_var C.q.toCw 6) (so_some (se_var C.q.toCw 4)) (so_some (se_add false (se_var C.q.toCw 4) (se_var C.q.toCw 8)))))) (sw_one (ss_set C.q.toCw 4 rfl (by decide +kernel) (se_add false (se_var C.q.toCw 4) (se_var C.q.toCw 8)))))) (sw_one (ss_ret (se_var C.q.toCw 7))))))))
def N_f_w_state : List PySem.Str := [("_law_script" : PySem.Str), ("_law_seed" : PySem.Str), ("_law_cell" : PySem.Str)]
abbrev sc_f_w_state : PySem.Scope := L2.defScope (top 5)
theorem ok_f_w_state {G : FEnv} {CA : Tags} {XR : XRel} {k : Nat} {X : L2.Cx} {W : L2.WX} (C : Cs tb G CA XR k N_f_w_state sc_f_w_state X W) : SS CA XR X W (L2.defBody (top 5)) (f_w_state G) := sw_cons (ss_set C.q.toCw 1 rfl (by decide +kernel) (se_int)) (sw_cons (ss_for C (si_of (sl_seq (se_var C.q.toCw 0))) (sg_var C.q.toCw 2 rfl (by decide +kernel)) (sw_one (ss_set C.q.toCw 1 rfl (by decide +kernel) (se_mod (se_intT C.q.toCw (by decide +kernel) (se_add false (se_mul false (se_var C.q.toCw 1) (se_int)) (se_var C.q.toCw 2))) (se_int))))) (sw_one (ss_ret (se_lst true (sa_cons (se_lc (ownL := [(("_law_cell" : PySem.Str), 2)]) true C.q (gin_var (by decide)) (blk_of (by decide +kernel)) (sl_seq (se_var C.q.toCw 0)) (fun _ _ C1 => sg_var C1.toCw 2 rfl (by decide +kernel)) (fun _ _ C1 => sts_nil) (fun _ _ C1 => se_abs C1.toCw (by decide +kernel) (se_intT C1.toCw (by decide +kernel) (se_var C1.toCw 2)))) (sa_cons (se_add false (se_var C.q.toCw 1) (se_int)) (sa_nil)))))))
def N_f_w_draw : List PySem.Str := [("_law_state_here" : PySem.Str), ("_law_many" : PySem.Str), ("_law_cells" : PySem.Str), ("_law_value_here" : PySem.Str), ("_law_mixed" : PySem.Str)]
abbrev sc_f_w_draw : PySem.Scope := L2.defScope (top 6)
theorem ok_f_w_draw {G : FEnv} {CA : Tags} {XR : XRel} {k : Nat} {X : L2.Cx} {W : L2.WX} (C : Cs tb G CA XR k N_f_w_draw sc_f_w_draw X W) : SS CA XR X W (L2.defBody (top 6)) (f_w_draw G) := sw_cons (ss_set C.q.toCw 2 rfl (by decide +kernel) (se_ix C.q.toCw (se_var C.q.toCw 0) (se_int))) (sw_cons (ss_while C (st_bool (sw_and (st_gt (se_len C.q.toCw (by decide +kernel) (se_var C.q.toCw 2)) (se_int)) (sw_and1 (st_eq C.q.toCw (se_ix C.q.toCw (se_var C.q.toCw 2) (se_int)) (se_int))))) (sw_one (ss_expr (se_pop (se_var C.q.toCw 2) (se_int))))) (sw_cons (ss_if (st_gt (se_len C.q.toCw (by decide +kernel) (se_var C.q.toCw 2)) (se_int)) (sw_cons (ss_set C.q.toCw 3 rfl (by decide +kernel) (se_ix C.q.toCw (se_var C.q.toCw 2) (se_int))) (sw_cons (ss_sub C.q.toCw (se_fdiv (se_var C.q.toCw 3) (se_var C.q.toCw 1)) (se_var C.q.toCw 2) (se_int)) (sw_one (ss_ret (se_mod (se_intT C.q.toCw (by decide +kernel) (se_var C.q.toCw 3)) (se_var C.q.toCw 1)))))) (sw_nil)) (sw_cons (ss_set C.q.toCw 4 rfl (by decide +kernel) (se_mod (se_intT C.q.toCw (by decide +kernel) (se_add false (se_mul false (se_ix C.q.toCw (se_var C.q.toCw 0) (se_int)) (se_int)) (se_int))) (se_int))) (sw_cons (ss_sub C.q.toCw (se_var C.q.toCw 4) (se_var C.q.toCw 0) (se_int)) (sw_one (ss_ret (se_mod (se_intT C.q.toCw (by decide +kernel) (se_fdiv (se_var C.q.toCw 4) (se_int))) (se_var C.q.toCw 1))))))))
def N_f_w_pick : List PySem.Str := [("_law_state_here" : PySem.Str), ("_law_row" : PySem.Str)]
abbrev sc_f_w_pick : PySem.Scope := L2.defScope (top 7)
theorem ok_f_w_pick {G : FEnv} {CA : Tags} {XR : XRel} {k : Nat} {X : L2.Cx} {W : L2.WX} (C : Cs tb G CA XR k N_f_w_pick sc_f_w_pick X W) : SS CA XR X W (L2.defBody (top 7)) (f_w_pick G) := sw_one (ss_ret (se_ix C.q.toCw (se_var C.q.toCw 1) (se_call C.q 75 2 (by decide +kernel) (List.mem_of_getElem? (i := 4) rfl) rfl (sa_cons (se_var C.q.toCw 0) (sa_cons (se_len C.q.toCw (by decide +kernel) (se_var C.q.toCw 1)) (sa_nil))))))
def N_f_w_number : List PySem.Str := [("_law_state_here" : PySem.Str), ("_law_edges" : PySem.Str)]
abbrev sc_f_w_number : PySem.Scope := L2.defScope (top 8)
theorem ok_f_w_number {G : FEnv} {CA : Tags} {XR : XRel} {k : Nat} {X : L2.Cx} {W : L2.WX} (C : Cs tb G CA XR k N_f_w_number sc_f_w_number X W) : SS CA XR X W (L2.defBody (top 8)) (f_w_number G) := sw_cons (ss_set C.q.toCw 1 rfl (by decide +kernel) (se_lst false (sa_cons (se_int) (sa_cons (se_neg (se_int)) (sa_cons (se_int) (sa_cons (se_neg (se_int)) (sa_cons (se_int) (sa_nil)))))))) (sw_cons (ss_if (st_eq C.q.toCw (se_call C.q 75 2 (by decide +kernel) (List.mem_of_getElem? (i := 4) rfl) rfl (sa_cons (se_var C.q.toCw 0) (sa_cons (se_int) (sa_nil)))) (se_int)) (sw_one (ss_ret (se_call C.q 76 2 (by decide +kernel) (List.mem_of_getElem? (i := 5) rfl) rfl (sa_cons (se_var C.q.toCw 0) (sa_cons (se_var C.q.toCw 1) (sa_nil)))))) (sw_nil)) (sw_one (ss_ret (se_sub (se_call C.q 75 2 (by decide +kernel) (List.mem_of_getElem? (i := 4) rfl) rfl (sa_cons (se_var C.q.toCw 0) (sa_cons (se_int) (sa_nil)))) (se_int)))))
def N_f_w_kind : List PySem.Str := [("_law_state_here" : PySem.Str), ("_law_deep" : PySem.Str), ("_law_choice" : PySem.Str)]
abbrev sc_f_w_kind : PySem.Scope := L2.defScope (top 9)
theorem ok_f_w_kind {G : FEnv} {CA : Tags} {XR : XRel} {k : Nat} {X : L2.Cx} {W : L2.WX} (C : Cs tb G CA XR k N_f_w_kind sc_f_w_kind X W) : SS CA XR X W (L2.defBody (top 9)) (f_w_kind G) := sw_cons (ss_set C.q.toCw 2 rfl (by decide +kernel) (se_call C.q 75 2 (by decide +kernel) (List.mem_of_getElem? (i := 4) rfl) rfl (sa_cons (se_var C.q.toCw 0) (sa_cons (se_int) (sa_nil))))) (sw_cons (ss_if (st_bool (sw_or (st_eq C.q.toCw (se_var C.q.toCw 1) (se_int)) (sw_or1 (st_eq C.q.toCw (se_var C.q.toCw 2) (se_int))))) (sw_one (ss_ret (se_tup false (sa_cons (se_str) (sa_nil))))) (sw_nil)) (sw_cons (ss_if (st_eq C.q.toCw (se_var C.q.toCw 2) (se_int)) (sw_one (ss_ret (se_tup false (sa_cons (se_str) (sa_cons (se_call C.q 81 2 (by decide +kernel) (List.mem_of_getElem? (i := 7) rfl) rfl (sa_cons (se_var C.q.toCw 0) (sa_cons (se_sub (se_var C.q.toCw 1) (se_int)) (sa_nil)))) (sa_cons (se_call C.q 81 2 (by decide +kernel) (List.mem_of_getElem? (i := 7) rfl) rfl (sa_cons (se_var C.q.toCw 0) (sa_cons (se_sub (se_var C.q.toCw 1) (se_int)) (sa_nil)))) (sa_nil))))))) (sw_nil)) (sw_one (ss_ret (se_tup false (sa_cons (se_str) (sa_cons (se_call C.q 81 2 (by decide +kernel) (List.mem_of_getElem? (i := 7) rfl) rfl (sa_cons (se_var C.q.toCw 0) (sa_cons (se_sub (se_var C.q.toCw 1) (se_int)) (sa_nil)))) (sa_nil))))))))
def N_f_w_value : List PySem.Str := [("_law_state_here" : PySem.Str), ("_law_kind_here" : PySem.Str), ("_law_k" : PySem.Str)]
abbrev sc_f_w_value : PySem.Scope := L2.defScope (top 10)
theorem ok_f_w_value {G : FEnv} {CA : Tags} {XR : XRel} {k : Nat} {X : L2.Cx} {W : L2.WX} (C : Cs tb G CA XR k N_f_w_value sc_f_w_value X W) : SS CA XR X W (L2.defBody (top 10)) (f_w_value G) := sw_cons (ss_if (st_eq C.q.toCw (se_ix C.q.toCw (se_var C.q.toCw 1) (se_int)) (se_str)) (sw_one (ss_ret (se_call C.q 77 1 (by decide +kernel) (List.mem_of_getElem? (i := 6) rfl) rfl (sa_cons (se_var C.q.toCw 0) (sa_nil))))) (sw_nil)) (sw_cons (ss_if (st_eq C.q.toCw (se_ix C.q.toCw (se_var C.q.toCw 1) (se_int)) (se_str)) (sw_one (ss_ret (se_tup false (sa_cons (se_call C.q 82 2 (by decide +kernel) (List.mem_of_getElem? (i := 8) rfl) rfl (sa_cons (se_var C.q.toCw 0) (sa_cons (se_ix C.q.toCw (se_var C.q.toCw 1) (se_int)) (sa_nil)))) (sa_cons (se_call C.q 82 2 (by decide +kernel) (List.mem_of_getElem? (i := 8) rfl) rfl (sa_cons (se_var C.q.toCw 0) (sa_cons (se_ix C.q.toCw (se_var C.q.toCw 1) (se_int)) (sa_nil)))) (sa_nil)))))) (sw_nil)) (sw_one (ss_ret (se_lcR (ownL := [(("_law_k" : PySem.Str), 2)]) false C.q (gin_var (by decide)) (blk_of (by decide +kernel)) (si_range1 C.q.toCw (by decide +kernel) (se_call C.q 75 2 (by decide +kernel) (List.mem_of_getElem? (i := 4) rfl) rfl (sa_cons (se_var C.q.toCw 0) (sa_cons (se_int) (sa_nil))))) (fun _ _ C1 => sg_var C1.toCw 2 rfl (by decide +kernel)) (fun _ _ C1 => sts_nil) (fun _ _ C1 => se_call C1 82 2 (by decide +kernel) (List.mem_of_getElem? (i := 8) rfl) rfl (sa_cons (se_var C1.toCw 0) (sa_cons (se_ix C1.toCw (se_var C1.toCw 1) (se_int)) (sa_nil))))))))
def N_f_w_lanes : List PySem.Str := [("_law_kind_here" : PySem.Str), ("_law_values" : PySem.Str), ("_law_value_here" : PySem.Str), ("_law_first" : PySem.Str), ("_law_pair" : PySem.Str), ("_law_inner" : PySem.Str), ("_law_items" : PySem.Str)]
abbrev sc_f_w_lanes : PySem.Scope := L2.defScope (top 11)
theorem ok_f_w_lanes {G : FEnv} {CA : Tags} {XR : XRel} {k : Nat} {X : L2.Cx} {W : L2.WX} (C : Cs tb G CA XR k N_f_w_lanes sc_f_w_lanes X W) : SS CA XR X W (L2.defBody (top 11)) (f_w_lanes G) := sw_cons (ss_if (st_eq C.q.toCw (se_ix C.q.toCw (se_var C.q.toCw 0) (se_int)) (se_str)) (sw_one (ss_ret (se_lst false (sa_cons (se_lc (ownL := [(("_law_value_here" : PySem.Str), 2)]) false C.q (gin_var (by decide)) (blk_of (by decide +kernel)) (sl_seq (se_var C.q.toCw 1)) (fun _ _ C1 => sg_var C1.toCw 2 rfl (by decide +kernel)) (fun _ _ C1 => sts_nil) (fun _ _ C1 => se_var C1.toCw 2)) (sa_nil))))) (sw_nil)) (sw_cons (ss_if (st_eq C.q.toCw (se_ix C.q.toCw (se_var C.q.toCw 0) (se_int)) (se_str)) (sw_cons (ss_set C.q.toCw 3 rfl (by decide +kernel) (se_call C.q 105 2 (by decide +kernel) (List.mem_of_getElem? (i := 9) rfl) rfl (sa_cons (se_ix C.q.toCw (se_var C.q.toCw 0) (se_int)) (sa_cons (se_lc (ownL := [(("_law_pair" : PySem.Str), 4)]) false C.q (gin_var (by decide)) (blk_of (by decide +kernel)) (sl_seq (se_var C.q.toCw 1)) (fun _ _ C1 => sg_var C1.toCw 4 rfl (by decide +kernel)) (fun _ _ C1 => sts_nil) (fun _ _ C1 => se_ix C1.toCw (se_var C1.toCw 4) (se_int))) (sa_nil))))) (sw_one (ss_ret (se_add false (se_var C.q.toCw 3) (se_call C.q 105 2 (by decide +kernel) (List.mem_of_getElem? (i := 9) rfl) rfl (sa_cons (se_ix C.q.toCw (se_var C.q.toCw 0) (se_int)) (sa_cons (se_lc (ownL := [(("_law_pair" : PySem.Str), 4)]) false C.q (gin_var (by decide)) (blk_of (by decide +kernel)) (sl_seq (se_var C.q.toCw 1)) (fun _ _ C1 => sg_var C1.toCw 4 rfl (by decide +kernel)) (fun _ _ C1 => sts_nil) (fun _ _ C1 => se_ix C1.toCw (se_var C1.toCw 4) (se_int))) (sa_nil)))))))) (sw_nil)) (sw_cons (ss_set C.q.toCw 5 rfl (by decide +kernel) (se_lst false (sa_nil))) (sw_cons (ss_for C (si_of (sl_seq (se_var C.q.toCw 1))) (sg_var C.q.toCw 6 rfl (by decide +kernel)) (sw_one (ss_set C.q.toCw 5 rfl (by decide +kernel) (se_add false (se_var C.q.toCw 5) (se_var C.q.toCw 6))))) (sw_one (ss_ret (se_add false (se_lst false (sa_cons (se_lc (ownL := [(("_law_items" : PySem.Str), 6)]) false C.q (gin_var (by decide)) (blk_of (by decide +kernel)) (sl_seq (se_var C.q.toCw 1)) (fun _ _ C1 => sg_var C1.toCw 6 rfl (by decide +kernel)) (fun _ _ C1 => sts_nil) (fun _ _ C1 => se_len C1.toCw (by decide +kernel) (se_var C1.toCw 6))) (sa_nil))) (se_call C.q 105 2 (by decide +kernel) (List.mem_of_getElem? (i := 9) rfl) rfl (sa_cons (se_ix C.q.toCw (se_var C.q.toCw 0) (se_int)) (sa_cons (se_var C.q.toCw 5) (sa_nil))))))))))
def N_f_w_spoil : List PySem.Str := [("_law_value_here" : PySem.Str), ("_law_item" : PySem.Str)]
abbrev sc_f_w_spoil : PySem.Scope := L2.defScope (top 12)
theorem ok_f_w_spoil {G : FEnv} {CA : Tags} {XR : XRel} {k : Nat} {X : L2.Cx} {W : L2.WX} (C : Cs tb G CA XR k N_f_w_spoil sc_f_w_spoil X W) : SS CA XR X W (L2.defBody (top 12)) (f_w_spoil G) := sw_cons (ss_if (st_of (se_isi C.q.toCw "tuple" (by decide +kernel) (by decide +kernel) (by decide) (se_var C.q.toCw 0))) (sw_cons (ss_expr (se_call C.q 104 1 (by decide +kernel) (List.mem_of_getElem? (i := 10) rfl) rfl (sa_cons (se_ix C.q.toCw (se_var C.q.toCw 0) (se_int)) (sa_nil)))) (sw_one (ss_expr (se_call C.q 104 1 (by decide +kernel) (List.mem_of_getElem? (i := 10) rfl) rfl (sa_cons (se_ix C.q.toCw (se_var C.q.toCw 0) (se_int)) (sa_nil)))))) (sw_nil)) (sw_one (ss_if (st_of (se_isi C.q.toCw "list" (by decide +kernel) (by decide +kernel) (by decide) (se_var C.q.toCw 0))) (sw_cons (ss_forN C (sn_v (se_var C.q.toCw 0)) (sg_var C.q.toCw 1 rfl (by decide +kernel)) (sw_one (ss_expr (se_call C.q 104 1 (by decide +kernel) (List.mem_of_getElem? (i := 10) rfl) rfl (sa_cons (se_var C.q.toCw 1) (sa_nil)))))) (sw_one (ss_expr (se_append (se_var C.q.toCw 0) (se_int))))) (sw_nil)))
def N_f_law : List PySem.Str := [("_law_script" : PySem.Str), ("_law_state_here" : PySem.Str), ("_law_kind_here" : PySem.Str), ("_law_values" : PySem.Str), ("_law_k" : PySem.Str), ("_law_before" : PySem.Str), ("_law_vectors" : PySem.Str), ("_law_given" : PySem.Str), ("_law_back" : PySem.Str)]
abbrev sc_f_law : PySem.Scope := L2.defScope (top 13)
theorem ok_f_law {G : FEnv} {CA : Tags} {XR : XRel} {k : Nat} {X : L2.Cx} {W : L2.WX} (C : Cs tb G CA XR k N_f_law sc_f_law X W) : SS CA XR X W (L2.defBody (top 13)) (f_law G) := sw_cons (ss_set C.q.toCw 1 rfl (by decide +kernel) (se_call C.q 74 1 (by decide +kernel) (List.mem_of_getElem? (i := 3) rfl) rfl (sa_cons (se_var C.q.toCw 0) (sa_nil)))) (sw_cons (ss_set C.q.toCw 2 rfl (by decide +kernel) (se_call C.q 81 2 (by decide +kernel) (List.mem_of_getElem? (i := 7) rfl) rfl (sa_cons (se_var C.q.toCw 1) (sa_cons (se_int) (sa_nil))))) (sw_cons (ss_lcR (ownL := [(("_law_k" : PySem.Str), 4)]) false C.q 3 rfl (by decide +kernel) rfl rfl (by decide +kernel) (gin_var (by decide)) (blk_of (by decide +kernel)) (si_range1 C.q.toCw (by decide +kernel) (se_call C.q 75 2 (by decide +kernel) (List.mem_of_getElem? (i := 4) rfl) rfl (sa_cons (se_var C.q.toCw 1) (sa_cons (se_int) (sa_nil))))) (fun _ _ C1 => sg_var C1.toCw 4 rfl (by decide +kernel)) (fun _ _ C1 => sts_nil) (fun _ _ C1 => se_call C1 82 2 (by decide +kernel) (List.mem_of_getElem? (i := 8) rfl) rfl (sa_cons (se_var C1.toCw 1) (sa_cons (se_var C1.toCw 2) (sa_nil))))) (sw_cons (ss_set C.q.toCw 5 rfl (by decide +kernel) (se_repr C.q (by decide +kernel) (se_var C.q.toCw 3))) (sw_cons (ss_set C.q.toCw 6 rfl (by decide +kernel) (se_call C.q 22 2 (by decide +kernel) (List.mem_of_getElem? (i := 0) rfl) rfl (sa_cons (se_var C.q.toCw 2) (sa_cons (se_var C.q.toCw 3) (sa_nil))))) (sw_cons (ss_if (st_bool (sw_or (st_ne C.q.toCw (se_var C.q.toCw 6) (se_call C.q 105 2 (by decide +kernel) (List.mem_of_getElem? (i := 9) rfl) rfl (sa_cons (se_var C.q.toCw 2) (sa_cons (se_var C.q.toCw 3) (sa_nil))))) (sw_or1 (st_ne C.q.toCw (se_repr C.q (by decide +kernel) (se_var C.q.toCw 3)) (se_var C.q.toCw 5))))) (sw_one (ss_ret (se_bl))) (sw_nil)) (sw_cons (ss_set C.q.toCw 7 rfl (by decide +kernel) (se_repr C.q (by decide +kernel) (se_var C.q.toCw 6))) (sw_cons (ss_set C.q.toCw 8 rfl (by decide +kernel) (se_call C.q 24 2 (by decide +kernel) (List.mem_of_getElem? (i := 2) rfl) rfl (sa_cons (se_var C.q.toCw 2) (sa_cons (se_var C.q.toCw 6) (sa_nil))))) (sw_cons (ss_if (st_bool (sw_or (st_ne C.q.toCw (se_var C.q.toCw 8) (se_var C.q.toCw 3)) (sw_or1 (st_ne C.q.toCw (se_repr C.q (by decide +kernel) (se_var C.q.toCw 6)) (se_var C.q.toCw 7))))) (sw_one (ss_ret (se_bl))) (sw_nil)) (sw_cons (ss_expr (se_call C.q 104 1 (by decide +kernel) (List.mem_of_getElem? (i := 10) rfl) rfl (sa_cons (se_var C.q.toCw 8) (sa_nil)))) (sw_cons (ss_if (st_ne C.q.toCw (se_repr C.q (by decide +kernel) (se_var C.q.toCw 6)) (se_var C.q.toCw 7)) (sw_one (ss_ret (se_bl))) (sw_nil)) (sw_cons (ss_expr (se_call C.q 104 1 (by decide +kernel) (List.mem_of_getElem? (i := 10) rfl) rfl (sa_cons (se_var C.q.toCw 6) (sa_nil)))) (sw_one (ss_ret (se_eq C.q.toCw (se_repr C.q (by decide +kernel) (se_var C.q.toCw 3)) (se_var C.q.toCw 5)))))))))))))))
def fd_f_vectors_of : FD := ⟨⟨("vectors_of", none), "vectors_of", "vectors_of", L2.defArgs (top 1), L2.defBody (top 1), L2.defScope (top 1), [], []⟩, [("kind" : PySem.Str), ("values" : PySem.Str)], N_f_vectors_of, f_vectors_of, false⟩
def fd_f_width : FD := ⟨⟨("width", none), "width", "width", L2.defArgs (top 2), L2.defBody (top 2), L2.defScope (top 2), [], []⟩, [("kind" : PySem.Str)], N_f_width, f_width, false⟩
def fd_f_values_of : FD := ⟨⟨("values_of", none), "values_of", "values_of", L2.defArgs (top 3), L2.defBody (top 3), L2.defScope (top 3), [], []⟩, [("kind" : PySem.Str), ("vectors" : PySem.Str)], N_f_values_of, f_values_of, false⟩
def fd_f_w_state : FD := ⟨⟨("_law_state", none), "_law_state", "_law_state", L2.defArgs (top 5), L2.defBody (top 5), L2.defScope (top 5), [], []⟩, [("_law_script" : PySem.Str)], N_f_w_state, f_w_state, false⟩
def fd_f_w_draw : FD := ⟨⟨("_law_draw", none), "_law_draw", "_law_draw", L2.defArgs (top 6), L2.defBody (top 6), L2.defScope (top 6), [], []⟩, [("_law_state_here" : PySem.Str), ("_law_many" : PySem.Str)], N_f_w_draw, f_w_draw, false⟩
def fd_f_w_pick : FD := ⟨⟨("_law_pick", none), "_law_pick", "_law_pick", L2.defArgs (top 7), L2.defBody (top 7), L2.defScope (top 7), [], []⟩, [("_law_state_here" : PySem.Str), ("_law_row" : PySem.Str)], N_f_w_pick, f_w_pick, false⟩
def fd_f_w_number : FD := ⟨⟨("_law_number", none), "_law_number", "_law_number", L2.defArgs (top 8), L2.defBody (top 8), L2.defScope (top 8), [], []⟩, [("_law_state_here" : PySem.Str)], N_f_w_number, f_w_number, false⟩
def fd_f_w_kind : FD := ⟨⟨("_law_kind", none), "_law_kind", "_law_kind", L2.defArgs (top 9), L2.defBody (top 9), L2.defScope (top 9), [], []⟩, [("_law_state_here" : PySem.Str), ("_law_deep" : PySem.Str)], N_f_w_kind, f_w_kind, false⟩
def fd_f_w_value : FD := ⟨⟨("_law_value", none), "_law_value", "_law_value", L2.defArgs (top 10), L2.defBody (top 10), L2.defScope (top 10), [], []⟩, [("_law_state_here" : PySem.Str), ("_law_kind_here" : PySem.Str)], N_f_w_value, f_w_value, false⟩
def fd_f_w_lanes : FD := ⟨⟨("_law_lanes", none), "_law_lanes", "_law_lanes", L2.defArgs (top 11), L2.defBody (top 11), L2.defScope (top 11), [], []⟩, [("_law_kind_here" : PySem.Str), ("_law_values" : PySem.Str)], N_f_w_lanes, f_w_lanes, false⟩
def fd_f_w_spoil : FD := ⟨⟨("_law_spoil", none), "_law_spoil", "_law_spoil", L2.defArgs (top 12), L2.defBody (top 12), L2.defScope (top 12), [], []⟩, [("_law_value_here" : PySem.Str)], N_f_w_spoil, f_w_spoil, false⟩
def fd_f_law : FD := ⟨⟨("law", none), "law", "law", L2.defArgs (top 13), L2.defBody (top 13), L2.defScope (top 13), [], []⟩, [("_law_script" : PySem.Str)], N_f_law, f_law, false⟩
def fds : List (Nat × FD) := [(22, fd_f_vectors_of), (23, fd_f_width), (24, fd_f_values_of), (74, fd_f_w_state), (75, fd_f_w_draw), (76, fd_f_w_pick), (77, fd_f_w_number), (81, fd_f_w_kind), (82, fd_f_w_value), (105, fd_f_w_lanes), (104, fd_f_w_spoil), (80, fd_f_law)]
def fa : List He.Fa := [.glo "vectors_of", .glo "width", .glo "values_of", .glo "_law_state", .glo "_law_draw", .glo "_law_pick", .glo "_law_number", .glo "_law_kind", .glo "_law_value", .glo "_law_lanes", .glo "_law_spoil", .glo "law", .free "abs", .free "enumerate", .free "int", .free "isinstance", .free "len", .free "list", .free "range", .free "repr", .free "tuple"]
theorem fok_f_vectors_of : FDok tb fd_f_vectors_of := ⟨⟨rfl, rfl, rfl, by decide +kernel, rfl, by decide +kernel, by decide +kernel⟩, rfl, rfl, fun _ _ _ _ _ _ us hl => match us, hl with | [_, _], _ => rfl, fun _ _ _ _ _ _ C => ok_f_vectors_of C⟩
theorem fok_f_width : FDok tb fd_f_width := ⟨⟨rfl, rfl, rfl, by decide +kernel, rfl, by decide +kernel, by decide +kernel⟩, rfl, rfl, fun _ _ _ _ _ _ us hl => match us, hl with | [_], _ => rfl, fun _ _ _ _ _ _ C => ok_f_width C⟩
theorem fok_f_values_of : FDok tb fd_f_values_of := ⟨⟨rfl, rfl, rfl, by decide +kernel, rfl, by decide +kernel, by decide +kernel⟩, rfl, rfl, fun _ _ _ _ _ _ us hl => match us, hl with | [_, _], _ => rfl, fun _ _ _ _ _ _ C => ok_f_values_of C⟩
theorem fok_f_w_state : FDok tb fd_f_w_state := ⟨⟨rfl, rfl, rfl, by decide +kernel, rfl, by decide +kernel, by decide +kernel⟩, rfl, rfl, fun _ _ _ _ _ _ us hl => match us, hl with | [_], _ => rfl, fun _ _ _ _ _ _ C => ok_f_w_state C⟩
theorem fok_f_w_draw : FDok tb fd_f_w_draw := ⟨⟨rfl, rfl, rfl, by decide +kernel, rfl, by decide +kernel, by decide +kernel⟩, rfl, rfl, fun _ _ _ _ _ _ us hl => match us, hl with | [_, _], _ => rfl, fun _ _ _ _ _ _ C => ok_f_w_draw C⟩
theorem fok_f_w_pick : FDok tb fd_f_w_pick := ⟨⟨rfl, rfl, rfl, by decide +kernel, rfl, by decide +kernel, by decide +kernel⟩, rfl, rfl, fun _ _ _ _ _ _ us hl => match us, hl with | [_, _], _ => rfl, fun _ _ _ _ _ _ C => ok_f_w_pick C⟩
theorem fok_f_w_number : FDok tb fd_f_w_number := ⟨⟨rfl, rfl, rfl, by decide +kernel, rfl, by decide +kernel, by decide +kernel⟩, rfl, rfl, fun _ _ _ _ _ _ us hl => match us, hl with | [_], _ => rfl, fun _ _ _ _ _ _ C => ok_f_w_number C⟩
theorem fok_f_w_kind : FDok tb fd_f_w_kind := ⟨⟨rfl, rfl, rfl, by decide +kernel, rfl, by decide +kernel, by decide +kernel⟩, rfl, rfl, fun _ _ _ _ _ _ us hl => match us, hl with | [_, _], _ => rfl, fun _ _ _ _ _ _ C => ok_f_w_kind C⟩
theorem fok_f_w_value : FDok tb fd_f_w_value := ⟨⟨rfl, rfl, rfl, by decide +kernel, rfl, by decide +kernel, by decide +kernel⟩, rfl, rfl, fun _ _ _ _ _ _ us hl => match us, hl with | [_, _], _ => rfl, fun _ _ _ _ _ _ C => ok_f_w_value C⟩
theorem fok_f_w_lanes : FDok tb fd_f_w_lanes := ⟨⟨rfl, rfl, rfl, by decide +kernel, rfl, by decide +kernel, by decide +kernel⟩, rfl, rfl, fun _ _ _ _ _ _ us hl => match us, hl with | [_, _], _ => rfl, fun _ _ _ _ _ _ C => ok_f_w_lanes C⟩
theorem fok_f_w_spoil : FDok tb fd_f_w_spoil := ⟨⟨rfl, rfl, rfl, by decide +kernel, rfl, by decide +kernel, by decide +kernel⟩, rfl, rfl, fun _ _ _ _ _ _ us hl => match us, hl with | [_], _ => rfl, fun _ _ _ _ _ _ C => ok_f_w_spoil C⟩
theorem fok_f_law : FDok tb fd_f_law := ⟨⟨rfl, rfl, rfl, by decide +kernel, rfl, by decide +kernel, by decide +kernel⟩, rfl, rfl, fun _ _ _ _ _ _ us hl => match us, hl with | [_], _ => rfl, fun _ _ _ _ _ _ C => ok_f_law C⟩
theorem tabok : TabOk tb fds fa ets := ⟨by decide +kernel, by decide +kernel, by
  intro e he
  simp only [fds, List.mem_cons, List.not_mem_nil, or_false] at he
  rcases he with rfl | rfl | rfl | rfl | rfl | rfl | rfl | rfl | rfl | rfl | rfl | rfl
  · exact fok_f_vectors_of
  · exact fok_f_width
  · exact fok_f_values_of
  · exact fok_f_w_state
  · exact fok_f_w_draw
  · exact fok_f_w_pick
  · exact fok_f_w_number
  · exact fok_f_w_kind
  · exact fok_f_w_value
  · exact fok_f_w_lanes
  · exact fok_f_w_spoil
  · exact fok_f_law, by decide +kernel, by decide +kernel, by decide +kernel, by
  intro e he
  simp only [fds, List.mem_cons, List.not_mem_nil, or_false] at he
  rcases he with rfl | rfl | rfl | rfl | rfl | rfl | rfl | rfl | rfl | rfl | rfl | rfl
  · exact fun h => Bool.noConfusion (show false = true from h)
  · exact fun h => Bool.noConfusion (show false = true from h)
  · exact fun h => Bool.noConfusion (show false = true from h)
  · exact fun h => Bool.noConfusion (show false = true from h)
  · exact fun h => Bool.noConfusion (show false = true from h)
  · exact fun h => Bool.noConfusion (show false = true from h)
  · exact fun h => Bool.noConfusion (show false = true from h)
  · exact fun h => Bool.noConfusion (show false = true from h)
  · exact fun h => Bool.noConfusion (show false = true from h)
  · exact fun h => Bool.noConfusion (show false = true from h)
  · exact fun h => Bool.noConfusion (show false = true from h)
  · exact fun h => Bool.noConfusion (show false = true from h), by decide +kernel, by decide +kernel, by decide +kernel, by decide +kernel, by decide +kernel⟩
def loose0 : List PySem.Str := [("vectors_of" : PySem.Str), ("width" : PySem.Str), ("values_of" : PySem.Str), ("_law_state" : PySem.Str), ("_law_draw" : PySem.Str), ("_law_pick" : PySem.Str), ("_law_number" : PySem.Str), ("_law_kind" : PySem.Str), ("_law_value" : PySem.Str), ("_law_lanes" : PySem.Str), ("_law_spoil" : PySem.Str)]
def loose : List PySem.Str := loose0
abbrev Rw : PySem.W.OpenRow := PySem.W.OpenLaw.row PySem.Challenge.rw_flatsheaves_k05_layouts
abbrev hkL : PySem.W.Hook := hkF 5 fa (fds.map (·.2.d)) (exAll tb ets)
theorem run (w : PySem.World) : HandSHeadRun.RunEq Rw (PySem.W.view Rw.prog [13]) hkL (obF 5 fa (fds.map (·.2.d)) (exAll tb ets)) 20000 loose w := by
  intro os
  kernel_rfl
end
end Fl.k05
set_option Elab.async false
set_option linter.all false
set_option maxRecDepth 100000
/-! Fl: values in cells, by their kinds. -/
namespace Fl
/-- items by P, their cells -/
def Al {α : Type} (P : Val → α → List Nat → Prop) : List Val → List α → List Nat → Prop
  | [], [], F => F = []
  | v :: vs, x :: xs, F => ∃ F1 F2, P v x F1 ∧ Al P vs xs F2 ∧ F = F1 ++ F2
  | _, _, _ => False
def At (s : Store) : (k : Kd) → Val → k.V → List Nat → Prop
  | .num, v, i, F => v = .t (.int i) ∧ F = []
  | .pair a b, v, p, F => ∃ n va vb Fa Fb, v = .loc n ∧ s.cell n = some (.tup [va, vb]) ∧ At s a va p.1 Fa ∧ At s b vb p.2 Fb ∧ F = n :: (Fa ++ Fb)
  | .seq a, v, xs, F => ∃ n vs F', v = .loc n ∧ s.cell n = some (.lst vs) ∧ Al (At s a) vs xs F' ∧ F = n :: F'
section
variable {α : Type} {P Q : Val → α → List Nat → Prop}
theorem Al.len : ∀ {vs : List Val} {xs : List α} {F : List Nat}, Al P vs xs F → vs.length = xs.length
  | [], [], _, _ => rfl
  | v :: vs, x :: xs, F, ⟨F1, F2, h1, h2, h3⟩ => by rw [List.length_cons, List.length_cons, h2.len]
theorem Al.mono : ∀ {vs : List Val} {xs : List α} {F : List Nat}, (∀ v x F', (∀ n ∈ F', n ∈ F) → P v x F' → Q v x F') → Al P vs xs F → Al Q vs xs F
  | [], [], _, _, h => h
  | v :: vs, x :: xs, F, k, ⟨F1, F2, h1, h2, h3⟩ => by
    subst h3
    exact ⟨F1, F2, k v x F1 (fun n hn => List.mem_append_left _ hn) h1, Al.mono (fun v x F' hF => k v x F' fun n hn => List.mem_append_right _ (hF n hn)) h2, rfl⟩
theorem Al.app : ∀ {vs ws : List Val} {xs ys : List α} {F G : List Nat}, Al P vs xs F → Al P ws ys G → Al P (vs ++ ws) (xs ++ ys) (F ++ G)
  | [], ws, [], ys, _, G, h, h' => by rw [show _ = ([] : List Nat) from h]; exact h'
  | v :: vs, ws, x :: xs, ys, F, G, ⟨F1, F2, h1, h2, h3⟩, h' => by
    subst h3
    exact ⟨F1, F2 ++ G, h1, Al.app h2 h', by rw [List.append_assoc]⟩
theorem Al.one {v : Val} {x : α} {F : List Nat} (h : P v x F) : Al P [v] [x] F := ⟨F, [], h, rfl, by simp⟩
theorem Al.split : ∀ {vs : List Val} {xs : List α} {F : List Nat} (k : Nat), Al P vs xs F → ∃ F1 F2, Al P (vs.take k) (xs.take k) F1 ∧ Al P (vs.drop k) (xs.drop k) F2 ∧ F = F1 ++ F2
  | vs, xs, F, 0, h => ⟨[], F, rfl, h, rfl⟩
  | [], [], F, k + 1, h => ⟨[], F, rfl, h, rfl⟩
  | v :: vs, x :: xs, F, k + 1, ⟨F1, F2, h1, h2, h3⟩ => by
    obtain ⟨G1, G2, g1, g2, g3⟩ := h2.split k
    exact ⟨F1 ++ G1, G2, ⟨F1, G1, h1, g1, rfl⟩, g2, by rw [h3, g3, List.append_assoc]⟩
theorem Al.get : ∀ {vs : List Val} {xs : List α} {F : List Nat} {j : Nat} {x : α}, Al P vs xs F → xs[j]? = some x → ∃ v F', vs[j]? = some v ∧ P v x F' ∧ ∀ n ∈ F', n ∈ F
  | [], [], _, _, _, _, e => by simp at e
  | v :: vs, x :: xs, F, 0, y, ⟨F1, F2, h1, h2, h3⟩, e => by
    cases e
    exact ⟨v, F1, rfl, h1, fun n hn => by rw [h3]; exact List.mem_append_left _ hn⟩
  | v :: vs, x :: xs, F, j + 1, y, ⟨F1, F2, h1, h2, h3⟩, e => by
    obtain ⟨w, F', a, b, c⟩ := h2.get (j := j) (by simpa using e)
    exact ⟨w, F', by simpa using a, b, fun n hn => by rw [h3]; exact List.mem_append_right _ (c n hn)⟩
end
theorem At.mono {s s' : Store} : ∀ {k : Kd} {v : Val} {x : k.V} {F : List Nat}, (∀ n ∈ F, s'.cell n = s.cell n) → At s k v x F → At s' k v x F
  | .num, v, i, F, _, h => h
  | .pair a b, v, p, F, k, ⟨n, va, vb, Fa, Fb, h1, h2, h3, h4, h5⟩ => by
    subst h5
    exact ⟨n, va, vb, Fa, Fb, h1, by rw [k n List.mem_cons_self]; exact h2, At.mono (fun m hm => k m (List.mem_cons_of_mem _ (List.mem_append_left _ hm))) h3, At.mono (fun m hm => k m (List.mem_cons_of_mem _ (List.mem_append_right _ hm))) h4, rfl⟩
  | .seq a, v, xs, F, k, ⟨n, vs, F', h1, h2, h3, h4⟩ => by
    subst h4
    exact ⟨n, vs, F', h1, by rw [k n List.mem_cons_self]; exact h2, Al.mono (fun v x G hG h => At.mono (fun m hm => k m (List.mem_cons_of_mem _ (hG m hm))) h) h3, rfl⟩
/-- s is the first part of s' -/
def Pre (s s' : Store) : Prop := s'.take s.length = s
theorem Pre.refl (s : Store) : Pre s s := List.take_length
theorem Pre.len {s s' : Store} (h : Pre s s') : s.length ≤ s'.length := take_len h
theorem Pre.trans {s s' s2 : Store} (h : Pre s s') (h' : Pre s' s2) : Pre s s2 := by
  unfold Pre at *
  have h1 := take_len h
  have h2 : (s2.take s'.length).take s.length = s := by rw [h']; exact h
  rw [List.take_take, Nat.min_eq_left h1] at h2
  exact h2
theorem Pre.app (s t : Store) : Pre s (s ++ t) := by unfold Pre; rw [List.take_left']; rfl
theorem Pre.cell {s s' : Store} (h : Pre s s') {n : Nat} (hn : n < s.length) : s'.cell n = s.cell n := by
  unfold Store.cell
  conv => rhs; rw [← h]
  rw [List.getElem?_take_of_lt hn]
theorem cell_lt' {s : Store} {n : Nat} {c : Cell} (h : s.cell n = some c) : n < s.length := cell_lt h
theorem At.lt {s : Store} : ∀ {k : Kd} {v : Val} {x : k.V} {F : List Nat}, At s k v x F → ∀ n ∈ F, n < s.length
  | .num, v, i, F, h, n, hn => by rw [h.2] at hn; cases hn
  | .pair a b, v, p, F, ⟨n, va, vb, Fa, Fb, h1, h2, h3, h4, h5⟩, m, hm => by
    subst h5
    rcases List.mem_cons.mp hm with rfl | hm
    · exact cell_lt h2
    · rcases List.mem_append.mp hm with hm | hm
      · exact h3.lt m hm
      · exact h4.lt m hm
  | .seq a, v, xs, F, ⟨n, vs, F', h1, h2, h3, h4⟩, m, hm => by
    subst h4
    rcases List.mem_cons.mp hm with rfl | hm
    · exact cell_lt h2
    · have : ∀ {vs : List Val} {xs : List a.V} {G : List Nat}, Al (At s a) vs xs G → ∀ n ∈ G, n < s.length := by
        intro vs
        induction vs with
        | nil => intro xs G h n hn; cases xs with
          | nil => rw [show G = [] from h] at hn; cases hn
          | cons _ _ => exact h.elim
        | cons v vs ih => intro xs G h n hn; cases xs with
          | nil => exact h.elim
          | cons x xs =>
            obtain ⟨F1, F2, a1, a2, rfl⟩ := h
            rcases List.mem_append.mp hn with hn | hn
            · exact At.lt a1 n hn
            · exact ih a2 n hn
      exact this h3 m hm
theorem At.pre {s s' : Store} (h : Pre s s') {k : Kd} {v : Val} {x : k.V} {F : List Nat} (a : At s k v x F) : At s' k v x F := a.mono fun n hn => h.cell (a.lt n hn)
theorem At.below {s : Store} {k : Kd} {v : Val} {x : k.V} {F : List Nat} (a : At s k v x F) : v.below s.length = true := by
  cases k with
  | num => rw [a.1]; rfl
  | pair p q =>
    obtain ⟨n, va, vb, Fa, Fb, h1, h2, _⟩ := a
    rw [h1]
    exact decide_eq_true (cell_lt h2)
  | seq p =>
    obtain ⟨n, vs, F', h1, h2, _⟩ := a
    rw [h1]
    exact decide_eq_true (cell_lt h2)
theorem Al.below {s : Store} {k : Kd} : ∀ {vs : List Val} {xs : List k.V} {F : List Nat}, Al (At s k) vs xs F → vs.all (Val.below s.length) = true
  | [], [], _, _ => rfl
  | v :: vs, x :: xs, F, ⟨F1, F2, h1, h2, h3⟩ => by rw [List.all_cons, h1.below, h2.below]; rfl
/-- ints -/
theorem Al.ints {s : Store} : ∀ xs : List Int, Al (At s .num) (xs.map fun i => .t (.int i)) xs []
  | [] => rfl
  | x :: r => ⟨[], [], ⟨rfl, rfl⟩, Al.ints r, rfl⟩
theorem Al.ints_eq {s : Store} : ∀ {vs : List Val} {xs : List Int} {F : List Nat}, Al (At s .num) vs xs F → vs = xs.map (fun i => .t (.int i)) ∧ F = []
  | [], [], _, h => ⟨rfl, h⟩
  | v :: vs, x :: xs, F, ⟨F1, F2, h1, h2, h3⟩ => by
    obtain ⟨a, b⟩ := h2.ints_eq
    subst h3
    rw [h1.1, h1.2, a, b]; exact ⟨rfl, rfl⟩
theorem Wf.cons {s : Store} {c : Cell} (h : Wf s) (hc : c.below (s.length + 1) = true) : Wf (s ++ [some c]) := h.app fun c' hc' => by
  simp only [List.mem_singleton] at hc'
  subst hc'
  simpa using hc
theorem below_up {n m : Nat} (h : n ≤ m) {v : Val} (hv : v.below n = true) : v.below m = true := by
  cases v with
  | t d => rfl
  | loc k => simp only [Val.below, decide_eq_true_eq] at *; omega
  | scr _ => cases hv
  | ex _ => cases hv
theorem belows_up {n m : Nat} (h : n ≤ m) {vs : List Val} (hv : vs.all (Val.below n) = true) : vs.all (Val.below m) = true := by
  rw [List.all_eq_true] at *
  exact fun v hm => below_up h (hv v hm)
/-- a new list cell -/
theorem at_newL {s : Store} {a : Kd} {vs : List Val} {xs : List a.V} {F : List Nat} (h : Al (At s a) vs xs F) : At (s ++ [some (.lst vs)]) (.seq a) (.loc s.length) xs (s.length :: F) :=
  ⟨s.length, vs, F, rfl, e_cell _, h.mono fun v x G hG q => q.pre (Pre.app _ _), rfl⟩
theorem at_newT {s : Store} {a b : Kd} {va vb : Val} {p : a.V × b.V} {Fa Fb : List Nat} (h1 : At s a va p.1 Fa) (h2 : At s b vb p.2 Fb) : At (s ++ [some (.tup [va, vb])]) (.pair a b) (.loc s.length) p (s.length :: (Fa ++ Fb)) :=
  ⟨s.length, va, vb, Fa, Fb, rfl, e_cell _, h1.pre (Pre.app _ _), h2.pre (Pre.app _ _), rfl⟩
theorem wf_newL {s : Store} {a : Kd} {vs : List Val} {xs : List a.V} {F : List Nat} (hw : Wf s) (h : Al (At s a) vs xs F) : Wf (s ++ [some (.lst vs)]) := hw.cons (by
  show vs.all (Val.below (s.length + 1)) = true
  exact belows_up (Nat.le_succ _) h.below)
/-- cells made behind s, each once -/
def New (s : Store) (F : List Nat) : Prop := F.Nodup ∧ ∀ n ∈ F, s.length ≤ n
end Fl
set_option Elab.async false
set_option linter.all false
set_option maxRecDepth 100000
namespace Fl
theorem compN_ix {nxt : Nxt} {g : CG} {f : CE} {ρ : Env} {n : Nat} (P : Nat → List Val → Store → Prop)
    (hs : ∀ j, j < n → ∀ acc s, P j acc s → ∃ v s1 ρ' s2 x s3, nxt j s = some (some (v, s1)) ∧ g v ρ s1 = .ok ρ' s2 ∧ f ρ' s2 = .ok x s3 ∧ P (j + 1) (acc ++ [x]) s3)
    (he : ∀ acc s, P n acc s → nxt n s = some none) : ∀ (m j fuel : Nat) (acc : List Val) (s : Store), j + m = n → m < fuel → P j acc s → ∃ acc' s', compN nxt g none f ρ fuel j acc s = .ok acc' s' ∧ P n acc' s'
  | 0, j, fuel + 1, acc, s, e, _, h => by
    have e : j = n := e
    subst e
    refine ⟨acc, s, ?_, h⟩
    show (match nxt j s with | none => R.bad | some none => .ok acc s | some (some (v, s')) => _) = _
    rw [he acc s h]
  | m + 1, j, fuel + 1, acc, s, e, hf, h => by
    obtain ⟨v, s1, ρ', s2, x, s3, h1, h2, h3, h4⟩ := hs j (by omega) acc s h
    obtain ⟨acc', s', h5, h6⟩ := compN_ix P hs he m (j + 1) fuel (acc ++ [x]) s3 (by omega) (by omega) h4
    refine ⟨acc', s', ?_, h6⟩
    show (match nxt j s with | none => R.bad | some none => .ok acc s | some (some (v, s')) => (g v ρ s').bind fun ρ' => testM none ρ' >>= fun b => if b then f ρ' >>= fun x => compN nxt g none f ρ fuel (j + 1) (acc ++ [x]) else compN nxt g none f ρ fuel (j + 1) acc) = _
    rw [h1]
    show (g v ρ s1).bind _ = _
    rw [h2]
    show (f ρ' s2).bind _ = _
    rw [h3]
    exact h5
theorem forN_ix {nxt : Nxt} {g : CG} {b : SM} {n : Nat} (P : Nat → Env → Store → Prop)
    (hs : ∀ j, j < n → ∀ ρ s, P j ρ s → ∃ v s1 ρ1 s2 ρ2 s3, nxt j s = some (some (v, s1)) ∧ g v ρ s1 = .ok ρ1 s2 ∧ b ρ1 s2 = .nx ρ2 s3 ∧ P (j + 1) ρ2 s3)
    (he : ∀ ρ s, P n ρ s → nxt n s = some none) : ∀ (m j fuel : Nat) (ρ : Env) (s : Store), j + m = n → m < fuel → P j ρ s → ∃ ρ' s', forN nxt g b fuel j ρ s = .nx ρ' s' ∧ P n ρ' s'
  | 0, j, fuel + 1, ρ, s, e, _, h => by
    have e : j = n := e
    subst e
    refine ⟨ρ, s, ?_, h⟩
    show (match nxt j s with | none => SO.bad | some none => .nx ρ s | some (some (v, s')) => _) = _
    rw [he ρ s h]
  | m + 1, j, fuel + 1, ρ, s, e, hf, h => by
    obtain ⟨v, s1, ρ1, s2, ρ2, s3, h1, h2, h3, h4⟩ := hs j (by omega) ρ s h
    obtain ⟨ρ', s', h5, h6⟩ := forN_ix P hs he m (j + 1) fuel ρ2 s3 (by omega) (by omega) h4
    refine ⟨ρ', s', ?_, h6⟩
    show (match nxt j s with | none => SO.bad | some none => .nx ρ s | some (some (v, s')) => (g v ρ s').so ρ fun ρ1 s1 => match b ρ1 s1 with
      | .nx ρ2 s2 => forN nxt g b fuel (j + 1) ρ2 s2
      | .ct ρ2 s2 => forN nxt g b fuel (j + 1) ρ2 s2
      | .bk ρ2 s2 => .nx ρ2 s2
      | o => o) = _
    rw [h1]
    show (g v ρ s1).so ρ _ = _
    rw [h2]
    show (match b ρ1 s2 with
      | .nx ρ2 s2 => forN nxt g b fuel (j + 1) ρ2 s2
      | .ct ρ2 s2 => forN nxt g b fuel (j + 1) ρ2 s2
      | .bk ρ2 s2 => .nx ρ2 s2
      | o => o) = _
    rw [h3]
    exact h5
theorem at_items {s : Store} {a : Kd} {v : Val} {xs : List a.V} {F : List Nat} (h : At s (.seq a) v xs F) : ∃ n vs F', v = .loc n ∧ s.cell n = some (.lst vs) ∧ itemsL v s = .ok vs s ∧ items v s = .ok vs s ∧ Al (At s a) vs xs F' ∧ F = n :: F' := by
  obtain ⟨n, vs, F', rfl, h2, h3, h4⟩ := h
  refine ⟨n, vs, F', rfl, h2, ?_, ?_, h3, h4⟩
  · unfold itemsL; dsimp only; rw [h2]
  · unfold items; dsimp only; rw [h2]
theorem addC_loc (n m : Nat) (s : Store) : addV true (.loc n) (.loc m) s = ((itemsL (.loc n)) >>= fun x => (itemsL (.loc m)) >>= fun y => if x.length + y.length ≤ L then newL true (x ++ y) else bad) s := rfl
theorem at_add {s : Store} (hw : Wf s) {a : Kd} {v w : Val} {xs ys : List a.V} {F G : List Nat} (h1 : At s (.seq a) v xs F) (h2 : At s (.seq a) w ys G) (hl : xs.length + ys.length ≤ 16777216) :
    ∃ s' F', addV true v w s = .ok (.loc s.length) s' ∧ Pre s s' ∧ Wf s' ∧ At s' (.seq a) (.loc s.length) (xs ++ ys) (s.length :: F') ∧ (∀ n ∈ F', n ∈ F ∨ n ∈ G) ∧ (F.Nodup → G.Nodup → (∀ n ∈ F, n ∉ G) → F'.Nodup) := by
  obtain ⟨n, vs, F1, rfl, c1, i1, _, a1, rfl⟩ := at_items h1
  obtain ⟨m, ws, G1, rfl, c2, i2, _, a2, rfl⟩ := at_items h2
  have aa := a1.app a2
  refine ⟨s ++ [some (.lst (vs ++ ws))], F1 ++ G1, ?_, Pre.app _ _, wf_newL hw aa, at_newL aa, fun k hk => ?_, fun hF hG hd => ?_⟩
  · rw [addC_loc, bind_eq, i1, bind_ok, bind_eq, i2, bind_ok, if_pos (by rw [a1.len, a2.len]; exact hl)]
    rfl
  · rcases List.mem_append.mp hk with h | h
    · exact .inl (List.mem_cons_of_mem _ h)
    · exact .inr (List.mem_cons_of_mem _ h)
  · rw [List.nodup_append]
    exact ⟨(List.nodup_cons.mp hF).2, (List.nodup_cons.mp hG).2, fun x hx y hy e => hd x (List.mem_cons_of_mem _ hx) (by rw [e]; exact List.mem_cons_of_mem _ hy)⟩
namespace k05
noncomputable abbrev Γ : Nat → FEnv := Gam fds
theorem e_vecs (n : Nat) : Γ (n + 1) 22 = mkFn 5 2 (f_vectors_of (Γ n)) := rfl
theorem e_width (n : Nat) : Γ (n + 1) 23 = mkFn 1 1 (f_width (Γ n)) := rfl
theorem e_vals (n : Nat) : Γ (n + 1) 24 = mkFn 9 2 (f_values_of (Γ n)) := rfl
theorem e_kind (n : Nat) : Γ (n + 1) 81 = mkFn 3 2 (f_w_kind (Γ n)) := rfl
theorem e_value (n : Nat) : Γ (n + 1) 82 = mkFn 3 2 (f_w_value (Γ n)) := rfl
theorem e_lanes (n : Nat) : Γ (n + 1) 105 = mkFn 7 2 (f_w_lanes (Γ n)) := rfl
theorem e_spoil (n : Nat) : Γ (n + 1) 104 = mkFn 2 1 (f_w_spoil (Γ n)) := rfl
theorem base : Base Γ := ⟨fun _ => rfl, fun _ => rfl, fun _ => rfl, fun _ => rfl⟩
/-- a def that gives a new list of vectors -/
def VOut (k : Kd) (x : k.V) (s : Store) (r : R Val) : Prop := ∃ v s' F, r = .ok v s' ∧ Pre s s' ∧ Wf s' ∧ At s' k v x F ∧ New s F
theorem fn_at {N ps : Nat} {b : SM} {args : List Val} {s s' : Store} {n : Nat} {k : Kd} {x : k.V} {F : List Nat} (h : b (start N args) s = .rt (.loc n) s') (hl : args.length = ps) (hv : s.length ≤ n) (hp : Pre s s') (hw : Wf s') (ha : At s' k (.loc n) x F) (hn : New s F) : VOut k x s (mkFn N ps b args s) :=
  ⟨_, _, _, fn_new h hl (by omega), hp, hw, ha, hn⟩
theorem vecsC : ∀ (k : Kd) (n : Nat) (xs : List k.V), k.dep ≤ n → k.wid ≤ 1000000 → k.Fit xs → ∀ s, Wf s → VOut (.seq (.seq .num)) (k.vecs xs) s (Γ n 22 [.t k.t, .t (.lst (xs.map k.e))] s)
  | .num, n, xs, hn, hk, hf, s, hw => by
    obtain ⟨n, rfl⟩ : ∃ m, n = m + 1 := ⟨n - 1, by have : 1 ≤ n := hn; omega⟩
    rw [e_vecs]
    have a1 := Al.ints (s := s) xs
    have w1 := wf_newL hw a1
    have a2 : Al (At (s ++ [some (.lst (xs.map fun i => Val.t (.int i)))]) (.seq .num)) [.loc s.length] [xs] [s.length] := Al.one (at_newL a1)
    have hln : (s ++ [some (Cell.lst (xs.map fun i => Val.t (.int i)))]).length = s.length + 1 := by simp
    have a3 := at_newL a2
    refine fn_at (n := s.length + 1) (s' := s ++ [some (.lst (xs.map fun i => Val.t (.int i)))] ++ [some (.lst [.loc s.length])]) ?_ rfl (by omega) ((Pre.app _ _).trans (Pre.app _ _)) (wf_newL w1 a2) (by rw [← hln]; exact a3) ⟨by rw [hln]; simp, fun m hm => ?_⟩
    · have l1 : listV true (.t (.lst (xs.map Kd.num.e))) s = .ok (.loc s.length) (s ++ [some (.lst (xs.map fun i => Val.t (.int i)))]) := by
        show (items (.t (.lst (xs.map Kd.num.e))) >>= fun vs => newL true vs) s = _
        rw [bind_eq, lst_items, bind_ok, List.map_map]; rfl
      simp [f_vectors_of, start, l1]
    · rw [hln] at hm
      simp only [List.mem_cons, List.not_mem_nil, or_false] at hm
      omega
  | .pair a b, n, xs, hn, hk, hf, s, hw => by
    have hn' : max a.dep b.dep + 1 ≤ n := hn
    have hk' : a.wid + b.wid ≤ 1000000 := hk
    obtain ⟨n, rfl⟩ : ∃ m, n = m + 1 := ⟨n - 1, by omega⟩
    obtain ⟨v1, s1, F1, r1, p1, w1, t1, n1⟩ := vecsC a n (xs.map Prod.fst) (by omega) (by omega) hf.fst s hw
    obtain ⟨v2, s2, F2, r2, p2, w2, t2, n2⟩ := vecsC b n (xs.map Prod.snd) (by omega) (by omega) hf.snd s1 w1
    obtain ⟨s3, F3, r3, p3, w3, t3, m3, d3⟩ := at_add w2 (t1.pre p2) t2 (by rw [Kd.vecs_len, Kd.vecs_len]; omega)
    rw [e_vecs]
    have q2 := p2.len
    have q1 := p1.len
    refine fn_at (n := s2.length) (s' := s3) ?_ rfl (by omega) ((p1.trans p2).trans p3) w3 t3 ⟨List.nodup_cons.mpr ⟨fun hm => ?_, d3 n1.1 n2.1 fun k h1 h2 => ?_⟩, fun m hm => ?_⟩
    · have c1 : ∀ s, (compL (gVar 2) none (e2 subI (eVar 2) (eC (.int 0))) [some (.t (Kd.pair a b).t), some (.t (.lst (xs.map (Kd.pair a b).e))), none, none, none] ((xs.map (Kd.pair a b).e).map .t) s).bind (newL false) = .ok (.t (.lst ((xs.map Prod.fst).map a.e))) s := fun s => by
        refine (comp_tt (i := 2) (f := e2 subI (eVar 2) (eC (.int 0))) (Kd.pair a b).e (fun p => a.e p.1) xs fun p _ => by rfl).trans ?_
        rw [List.map_map]
        rfl
      have c2 : ∀ s, (compL (gVar 2) none (e2 subI (eVar 2) (eC (.int 1))) [some (.t (Kd.pair a b).t), some (.t (.lst (xs.map (Kd.pair a b).e))), none, none, none] ((xs.map (Kd.pair a b).e).map .t) s).bind (newL false) = .ok (.t (.lst ((xs.map Prod.snd).map b.e))) s := fun s => by
        refine (comp_tt (i := 2) (f := e2 subI (eVar 2) (eC (.int 1))) (Kd.pair a b).e (fun p => b.e p.2) xs fun p _ => by rfl).trans ?_
        rw [List.map_map]
        rfl
      simp [f_vectors_of, start, wipeE, lst_iter, -List.map_map, c1, c2, r1, r2, r3]
    · rcases m3 _ hm with h | h
      · have := t1.lt _ h; omega
      · have := t2.lt _ h; omega
    · have := t1.lt _ h1
      have := n2.2 _ h2; omega
    · rcases List.mem_cons.mp hm with rfl | hm
      · omega
      · rcases m3 _ hm with h | h
        · exact n1.2 _ h
        · have := n2.2 _ h; omega
  | .seq a, n, xs, hn, hk, hf, s, hw => by
    have hn' : a.dep + 1 ≤ n := hn
    have hk' : 1 + a.wid ≤ 1000000 := hk
    obtain ⟨n, rfl⟩ : ∃ m, n = m + 1 := ⟨n - 1, by omega⟩
    -- the lengths, in a list of one
    have a0 := Al.ints (s := s) (ni (List.map List.length xs))
    have w0 := wf_newL hw a0
    have t0 := at_newL a0
    have a1 := Al.one (P := At (s ++ [some (.lst ((ni (List.map List.length xs)).map fun i => Val.t (.int i)))]) (.seq .num)) t0
    have hl0 : (s ++ [some (Cell.lst ((ni (List.map List.length xs)).map fun i => Val.t (.int i)))]).length = s.length + 1 := by simp
    have w1 := wf_newL w0 a1
    have t1 := at_newL a1
    generalize hs1 : (s ++ [some (Cell.lst ((ni (List.map List.length xs)).map fun i => Val.t (.int i)))]) ++ [some (.lst [Val.loc s.length])] = s1 at w1 t1
    have p1 : Pre s s1 := by rw [← hs1]; exact (Pre.app _ _).trans (Pre.app _ _)
    have hl1 : s1.length = s.length + 2 := by rw [← hs1]; simp
    rw [hl0] at t1
    obtain ⟨v2, s2, F2, r2, p2, w2, t2, n2⟩ := vecsC a n (List.flatten xs) (by omega) (by omega) hf.inn s1 w1
    obtain ⟨s3, F3, r3, p3, w3, t3, m3, d3⟩ := at_add w2 (t1.pre p2) t2 (by rw [Kd.vecs_len]; show 1 + _ ≤ _; omega)
    rw [e_vecs]
    have q2 := p2.len
    refine fn_at (n := s2.length) (s' := s3) ?_ rfl (by omega) ((p1.trans p2).trans p3) w3 t3 ⟨List.nodup_cons.mpr ⟨fun hm => ?_, d3 (by simp) n2.1 fun k h1 h2 => ?_⟩, fun m hm => ?_⟩
    · have c1 : (compL (gVar 3) none (Fl.e1 lenV (eVar 3)) [some (.t (Kd.seq a).t), some (.t (.lst (xs.map (Kd.seq a).e))), none, none, none] ((xs.map (Kd.seq a).e).map .t) s).bind (newL true) = .ok (.loc s.length) (s ++ [some (Cell.lst ((ni (List.map List.length xs)).map fun i => Val.t (.int i)))]) := by
        rw [List.map_map, comp_map (s := s) (Val.t ∘ (Kd.seq a).e) (fun p => Val.t (.int (List.length p : Nat))) xs (fun v hv => ⟨_, rfl, by
          show R.ok (iv ((List.map a.e v).length : Nat)) s = _
          rw [List.length_map]⟩), p_ok, show (xs.map fun p => Val.t (T.int (List.length p : Nat))) = (ni (List.map List.length xs)).map fun i => Val.t (.int i) by
          unfold ni; rw [List.map_map, List.map_map]; rfl]
        rfl
      have c2 := comp2_flat (g := gVar 3) (g1 := gVar 4) (it1 := iV (eVar 3)) (f := eVar 4) (own1 := [4]) (ρ := [some (.t (Kd.seq a).t), some (.t (.lst (xs.map (Kd.seq a).e))), none, none, none]) (s := s1) (fun v => .t ((Kd.seq a).e v)) (fun w => .t (a.e w)) (fun v => (v : List a.V)) (fun _ w => .t (a.e w)) xs [] (by
        have := hf.inn.len
        rw [flat_sum]
        simp only [List.length_map, List.length_nil, Nat.zero_add]
        rw [List.length_flatten] at this
        show _ ≤ 16777216
        exact Nat.le_trans this (by decide)) (by
        intro v hv
        refine ⟨[some (.t (Kd.seq a).t), some (.t (.lst (xs.map (Kd.seq a).e))), none, some (.t ((Kd.seq a).e v)), none], rfl, ?_, fun w hw => ⟨_, rfl, rfl⟩⟩
        show R.ok ((List.map a.e v).map Val.t) s1 = _
        rw [List.map_map]
        rfl)
      have ee : (xs.flatMap fun v => List.map (fun w => Val.t (a.e w)) (v : List a.V)) = ((List.flatten xs).map a.e).map .t := by
        rw [List.map_map, List.map_flatten, List.flatMap]
        rfl
      rw [ee, List.nil_append] at c2
      have hi : iV (eVar 1) [some (.t (Kd.seq a).t), some (.t (.lst (xs.map (Kd.seq a).e))), none, none, none] s1 = .ok (xs.map fun v => .t ((Kd.seq a).e v)) s1 := by
        show R.ok ((xs.map (Kd.seq a).e).map Val.t) s1 = _
        rw [List.map_map]; rfl
      have c3 := p_comp2 (c := false) (own := [3, 4]) hi c2 (newL_t _ s1)
      have hn1 : newL true [.loc s.length] (s ++ [some (Cell.lst ((ni (List.map List.length xs)).map fun i => Val.t (.int i)))]) = .ok (.loc (s.length + 1)) s1 := by
        rw [p_newL, hl0, hs1]
      simp [f_vectors_of, start, wipeE, lst_iter, -List.map_map, -List.map_flatten, c1, -p_newL, hn1]
      rw [c3]
      simp [r2, r3, -List.map_map, -List.map_flatten]
    · rcases m3 _ hm with h | h
      · have := (t1.pre p2).lt _ h; omega
      · have := t2.lt _ h; omega
    · have := t1.lt _ h1
      have := n2.2 _ h2; omega
    · rcases List.mem_cons.mp hm with rfl | hm
      · omega
      · rcases m3 _ hm with h | h
        · simp only [List.mem_cons, List.not_mem_nil, or_false] at h
          omega
        · have := n2.2 _ h; omega
end k05
end Fl
set_option Elab.async false
set_option linter.all false
set_option maxRecDepth 100000
namespace Fl
theorem nodup_cnt {l : List Nat} : l.Nodup ↔ ∀ a, l.count a ≤ 1 := List.nodup_iff_count
theorem nodup_ins {l l' : List Nat} {p : Nat} (h : l.Nodup) (hp : p ∉ l) (e : ∀ a, l'.count a = l.count a + if p = a then 1 else 0) : l'.Nodup := by
  rw [nodup_cnt] at *
  intro a
  rw [e a]
  by_cases c : p = a
  · subst c
    rw [List.count_eq_zero.mpr hp, if_pos rfl]; omega
  · rw [if_neg c]
    have := h a; omega
theorem Al.cons_inv {α : Type} {P : Val → α → List Nat → Prop} {vs : List Val} {x : α} {xs : List α} {F : List Nat} (h : Al P vs (x :: xs) F) : ∃ v r F1 F2, vs = v :: r ∧ P v x F1 ∧ Al P r xs F2 ∧ F = F1 ++ F2 := by
  cases vs with
  | nil => exact h.elim
  | cons v r =>
    obtain ⟨F1, F2, h1, h2, h3⟩ := h
    exact ⟨v, r, F1, F2, rfl, h1, h2, h3⟩
namespace k05
theorem widthC : ∀ (k : Kd) (n : Nat), k.dep ≤ n → ∀ s, Wf s → Γ n 23 [.t k.t] s = .ok (iv (k.wid : Nat)) s
  | .num, n, hn, s, hw => by
    obtain ⟨n, rfl⟩ : ∃ m, n = m + 1 := ⟨n - 1, by have : 1 ≤ n := hn; omega⟩
    rw [e_width]
    refine fn_Rt rfl hw ?_
    simp [f_width, start]
    exact Rt.self
  | .pair a b, n, hn, s, hw => by
    have hn' : max a.dep b.dep + 1 ≤ n := hn
    obtain ⟨n, rfl⟩ : ∃ m, n = m + 1 := ⟨n - 1, by omega⟩
    have h1 := widthC a n (by omega) s hw
    have h2 := widthC b n (by omega) s hw
    rw [e_width]
    refine fn_Rt rfl hw ?_
    simp [f_width, start, h1, h2]
    show Rt s _ _
    have : ((Kd.pair a b).wid : Int) = (a.wid : Int) + (b.wid : Int) := by show ((a.wid + b.wid : Nat) : Int) = _; omega
    rw [this]
    exact Rt.self
  | .seq a, n, hn, s, hw => by
    have hn' : a.dep + 1 ≤ n := hn
    obtain ⟨n, rfl⟩ : ∃ m, n = m + 1 := ⟨n - 1, by omega⟩
    have h1 := widthC a n (by omega) s hw
    rw [e_width]
    refine fn_Rt rfl hw ?_
    simp [f_width, start, h1]
    have : ((Kd.seq a).wid : Int) = 1 + (a.wid : Int) := by show ((1 + a.wid : Nat) : Int) = _; omega
    rw [this]
    exact Rt.self
/-- a slice of a cell's list -/
theorem sliceC {s : Store} {n : Nat} {vs : List Val} (h : s.cell n = some (.lst vs)) (lo hi : Option Int) : sliceV true (.loc n) lo hi s = .ok (.loc s.length) (s ++ [some (.lst (slice vs lo hi))]) := by
  show (itemsL (.loc n) >>= fun vs => newL true (slice vs lo hi)) s = _
  have : itemsL (.loc n) s = .ok vs s := by unfold itemsL; dsimp only; rw [h]
  rw [bind_eq, this, bind_ok]; rfl
theorem getC {s : Store} {n : Nat} {vs : List Val} (h : s.cell n = some (.lst vs)) {j : Nat} {v : Val} (hj : vs[j]? = some v) : subI (.loc n) (iv (j : Nat)) s = .ok v s := by
  have hl : j < vs.length := (List.getElem?_eq_some_iff.mp hj).1
  unfold subI
  dsimp only
  rw [h]
  dsimp only
  rw [px_nat hl]
  dsimp only
  rw [hj]
theorem drop_at' {α : Type} {l : List α} {j : Nat} (h : j < l.length) : l.drop j = l[j] :: l.drop (j + 1) := List.drop_eq_getElem_cons h
theorem compN_eq (cell : Bool) (own : List Nat) (it : CN) (g : CG) (c : Option CT) (f : CE) (ρ : Env) (s : Store) : eCompN cell own it g c f ρ s = (it ρ s).bind fun nxt s => (compN nxt g c f (wipeE ρ own) L 0 [] s).bind (newL cell) := rfl
theorem valsC : ∀ (k : Kd) (n : Nat) (xs : List k.V) (v : Val) (G : List Nat), k.dep ≤ n → k.wid ≤ 1000000 → k.Fit xs → ∀ s, Wf s → At s (.seq (.seq .num)) v (k.vecs xs) G → VOut (.seq k) xs s (Γ n 24 [.t k.t, v] s)
  | .num, n, xs, v, G, hn, hk, hf, s, hw, hv => by
    obtain ⟨n, rfl⟩ : ∃ m, n = m + 1 := ⟨n - 1, by have : 1 ≤ n := hn; omega⟩
    obtain ⟨m, vs, G1, rfl, c1, _, _, a1, rfl⟩ := at_items hv
    obtain ⟨w, r, F1, F2, rfl, h1, h2, rfl⟩ := a1.cons_inv
    obtain ⟨m2, ws, G2, rfl, c2, i2, j2, a2, rfl⟩ := at_items h1
    have g0 := getC c1 (j := 0) rfl
    have g0 : subI (.loc m) (.t (.int 0)) s = .ok (.loc m2) s := g0
    obtain ⟨e, e2⟩ := a2.ints_eq
    have l1 : listV true (.loc m2) s = .ok (.loc s.length) (s ++ [some (.lst ws)]) := by
      show (items (.loc m2) >>= fun vs => newL true vs) s = _
      rw [bind_eq, j2, bind_ok]; rfl
    have a3 : Al (At s .num) ws xs [] := by rw [e]; exact Al.ints xs
    rw [e_vals]
    refine fn_at (n := s.length) (s' := s ++ [some (.lst ws)]) ?_ rfl (Nat.le_refl _) (Pre.app _ _) (wf_newL hw a3) (at_newL a3) ⟨by simp, fun q hq => by simp only [List.mem_cons, List.not_mem_nil, or_false] at hq; omega⟩
    simp [f_values_of, start, g0, l1]
  | .pair a b, n, xs, v, G, hn, hk, hf, s, hw, hv => by
    have hn' : max a.dep b.dep + 1 ≤ n := hn
    have hk' : a.wid + b.wid ≤ 1000000 := hk
    have hlen := hf.len
    obtain ⟨n, rfl⟩ : ∃ m, n = m + 1 := ⟨n - 1, by omega⟩
    obtain ⟨m, vs, G1, rfl, c1, _, _, a1, rfl⟩ := at_items hv
    have hvl : vs.length = a.wid + b.wid := by rw [a1.len, Kd.vecs_len]; rfl
    obtain ⟨F1, F2, b1, b2, rfl⟩ := a1.split a.wid
    have b1 : Al (At s (.seq .num)) (vs.take a.wid) (a.vecs (xs.map Prod.fst)) F1 := by
      have e : ((Kd.pair a b).vecs xs).take a.wid = a.vecs (xs.map Prod.fst) := by
        show (a.vecs (xs.map Prod.fst) ++ b.vecs (xs.map Prod.snd)).take a.wid = _
        rw [List.take_left' (Kd.vecs_len a _)]
      rw [← e]; exact b1
    have b2 : Al (At s (.seq .num)) (vs.drop a.wid) (b.vecs (xs.map Prod.snd)) F2 := by
      have e : ((Kd.pair a b).vecs xs).drop a.wid = b.vecs (xs.map Prod.snd) := by
        show (a.vecs (xs.map Prod.fst) ++ b.vecs (xs.map Prod.snd)).drop a.wid = _
        rw [List.drop_left' (Kd.vecs_len a _)]
      rw [← e]; exact b2
    have hW := widthC a n (by omega) s hw
    -- the second half
    have sl2 := sliceC c1 (some (a.wid : Int)) none
    rw [slice_drop (by omega)] at sl2
    have w1 := wf_newL hw b2
    have t1 := at_newL b2
    have p1 := Pre.app s [some (Cell.lst (vs.drop a.wid))]
    generalize hs1 : s ++ [some (Cell.lst (vs.drop a.wid))] = s1 at sl2 w1 t1 p1
    obtain ⟨v2, s2, Fb, r2, p2, w2, t2, n2⟩ := valsC b n (xs.map Prod.snd) _ _ (by omega) (by omega) hf.snd s1 w1 t1
    obtain ⟨m2, vs2, Fb', rfl, cb, _, _, ab, rfl⟩ := at_items t2
    -- the first
    have c1' : s2.cell m = some (.lst vs) := by rw [(p1.trans p2).cell (cell_lt c1)]; exact c1
    have sl1 := sliceC c1' none (some (a.wid : Int))
    rw [slice_take (by omega)] at sl1
    have b1' : Al (At s2 (.seq .num)) (vs.take a.wid) (a.vecs (xs.map Prod.fst)) F1 := b1.mono fun _ _ _ _ h => h.pre (p1.trans p2)
    have w3 := wf_newL w2 b1'
    have t3 := at_newL b1'
    have p3 := Pre.app s2 [some (Cell.lst (vs.take a.wid))]
    generalize hs3 : s2 ++ [some (Cell.lst (vs.take a.wid))] = s3 at sl1 w3 t3 p3
    obtain ⟨v1, s4, Fa, r1, p4, w4, t4, n4⟩ := valsC a n (xs.map Prod.fst) _ _ (by omega) (by omega) hf.fst s3 w3 t3
    obtain ⟨m1, vs1, Fa', rfl, ca, _, _, aa, rfl⟩ := at_items t4
    have p24 := p3.trans p4
    have P04 : Pre s s4 := (p1.trans p2).trans p24
    have cb4 : s4.cell m2 = some (.lst vs2) := by rw [p24.cell (cell_lt cb)]; exact cb
    have ab4 : Al (At s4 b) vs2 (xs.map Prod.snd) Fb' := ab.mono fun _ _ _ _ h => h.pre p24
    have l1 := p1.len
    have l2 := p2.len
    have l3 := p3.len
    have hnb := List.nodup_cons.mp n2.1
    have hna := List.nodup_cons.mp n4.1
    -- the pairs
    obtain ⟨acc, s5, hc, p5, w5, F, Ra, Rb, z1, z2, z3, z4, z5⟩ := compN_ix (nxt := nxtE m1) (g := gTup [4, 5]) (f := eTup true [eVar 5, e2 subI (eVar 3) (eVar 4)]) (ρ := [some (.t (Kd.pair a b).t), some (.loc m), some (iv (a.wid : Nat)), some (.loc m2), none, none, none, none, none]) (n := xs.length)
      (fun j acc s' => Pre s4 s' ∧ Wf s' ∧ ∃ F Ra Rb, Al (At s' (.pair a b)) acc (xs.take j) F ∧ Al (At s' a) (vs1.drop j) ((xs.map Prod.fst).drop j) Ra ∧ Al (At s' b) (vs2.drop j) ((xs.map Prod.snd).drop j) Rb ∧ (F ++ (Ra ++ Rb)).Nodup ∧ ∀ k ∈ F ++ (Ra ++ Rb), s.length ≤ k ∧ k < s'.length) (by
      rintro j hj acc s5 ⟨p5, w5, F, Ra, Rb, z1, z2, z3, z4, z5⟩
      have f1 : (xs.map Prod.fst).drop j = (xs[j]).1 :: (xs.map Prod.fst).drop (j + 1) := by
        rw [drop_at' (by rw [List.length_map]; exact hj), List.getElem_map]
      have f2 : (xs.map Prod.snd).drop j = (xs[j]).2 :: (xs.map Prod.snd).drop (j + 1) := by
        rw [drop_at' (by rw [List.length_map]; exact hj), List.getElem_map]
      rw [f1] at z2
      rw [f2] at z3
      obtain ⟨x1, q1, A1, A2, e1, y1, y2, rfl⟩ := z2.cons_inv
      obtain ⟨x2, q2, B1, B2, e2', y3, y4, rfl⟩ := z3.cons_inv
      have hj1 : j < vs1.length := by rw [aa.len, List.length_map]; exact hj
      have hj2 : j < vs2.length := by rw [ab.len, List.length_map]; exact hj
      rw [drop_at' hj1] at e1
      rw [drop_at' hj2] at e2'
      injection e1 with e1 e1'
      injection e2' with e2' e2''
      have g1 : vs1[j]? = some x1 := by rw [List.getElem?_eq_getElem hj1, e1]
      have g2 : vs2[j]? = some x2 := by rw [List.getElem?_eq_getElem hj2, e2']
      have ca5 : s5.cell m1 = some (.lst vs1) := by rw [p5.cell (cell_lt ca)]; exact ca
      -- what comes
      have nx : ∃ w s6, nxtE m1 j s5 = some (some (w, s6)) ∧ Pre s5 s6 ∧ Wf s6 ∧ gTup [4, 5] w [some (.t (Kd.pair a b).t), some (.loc m), some (iv (a.wid : Nat)), some (.loc m2), none, none, none, none, none] s6 = .ok [some (.t (Kd.pair a b).t), some (.loc m), some (iv (a.wid : Nat)), some (.loc m2), some (iv (j : Nat)), some x1, none, none, none] s6 := by
        unfold nxtE
        rw [ca5]
        dsimp only
        rw [g1]
        have loc : ∀ q, x1 = .loc q → ∃ w s6, some (some (x1) : Option Val) = some (some x1) ∧ w = Val.loc s5.length ∧ s6 = s5 ++ [some (.tup [vI (j : Nat), x1])] ∧ Pre s5 s6 ∧ Wf s6 ∧ gTup [4, 5] w [some (.t (Kd.pair a b).t), some (.loc m), some (iv (a.wid : Nat)), some (.loc m2), none, none, none, none, none] s6 = .ok [some (.t (Kd.pair a b).t), some (.loc m), some (iv (a.wid : Nat)), some (.loc m2), some (iv (j : Nat)), some x1, none, none, none] s6 := fun q hq => by
          refine ⟨_, _, rfl, rfl, rfl, Pre.app _ _, w5.cons ?_, ?_⟩
          · show [vI (j : Nat), x1].all (Val.below (s5.length + 1)) = true
            simp only [List.all_cons, List.all_nil, Bool.and_true, Bool.and_eq_true]
            exact ⟨rfl, below_up (Nat.le_succ _) y1.below⟩
          · have : items (.loc s5.length) (s5 ++ [some (.tup [vI (j : Nat), x1])]) = .ok [vI (j : Nat), x1] (s5 ++ [some (.tup [vI (j : Nat), x1])]) := by
              unfold items; dsimp only; rw [e_cell]
            show ((items (.loc s5.length) (s5 ++ [some (.tup [vI (j : Nat), x1])])).bind _) = _
            rw [this]
            rfl
        cases x1 with
        | t d =>
          refine ⟨_, s5, rfl, Pre.refl _, w5, ?_⟩
          rfl
        | loc q =>
          obtain ⟨w, s6, _, rfl, rfl, k1, k2, k3⟩ := loc q rfl
          exact ⟨_, _, rfl, k1, k2, k3⟩
        | scr q => have := y1.below; cases this
        | ex q => have := y1.below; cases this
      obtain ⟨w, s6, nx1, p6, w6, gx⟩ := nx
      have cb6 : s6.cell m2 = some (.lst vs2) := by rw [p6.cell (cell_lt (by rw [p5.cell (cell_lt cb4)]; exact cb4)), p5.cell (cell_lt cb4)]; exact cb4
      have gg := getC cb6 g2
      have l6 := p6.len
      have T := at_newT (p := xs[j]) (y1.pre p6) (y3.pre p6)
      have p7 := Pre.app s6 [some (Cell.tup [x1, x2])]
      refine ⟨w, s6, _, s6, .loc s6.length, s6 ++ [some (.tup [x1, x2])], nx1, gx, ?_, (p5.trans p6).trans p7, w6.cons ?_, F ++ (s6.length :: (A1 ++ B1)), A2, B2, ?_, ?_, ?_, ?_, ?_⟩
      · simp only [p_tup, p_vals, p_vals0, p_var5, p_ok, p_e2, p_var3, p_var4, gg]
        rfl
      · show [x1, x2].all (Val.below (s6.length + 1)) = true
        simp only [List.all_cons, List.all_nil, Bool.and_true, Bool.and_eq_true]
        exact ⟨below_up (Nat.le_succ _) (y1.pre p6).below, below_up (Nat.le_succ _) (y3.pre p6).below⟩
      · rw [List.take_succ, List.getElem?_eq_getElem hj]
        exact (z1.mono fun _ _ _ _ h => h.pre (p6.trans p7)).app (Al.one T)
      · rw [e1']; exact y2.mono fun _ _ _ _ h => h.pre (p6.trans p7)
      · rw [e2'']; exact y4.mono fun _ _ _ _ h => h.pre (p6.trans p7)
      · refine nodup_ins z4 (p := s6.length) (fun hp => by have := (z5 _ hp).2; omega) fun k => ?_
        simp only [List.count_append, List.count_cons, beq_iff_eq]
        omega
      · intro k hk
        rw [List.length_append, List.length_singleton]
        simp only [List.mem_append, List.mem_cons] at hk
        rcases hk with (hk | rfl | hk | hk) | hk | hk
        · have := z5 k (by simp [hk]); omega
        · have := (P04.trans (p5.trans p6)).len; omega
        all_goals (have := z5 k (by simp [hk]); omega)) (by
      rintro acc s5 ⟨p5, _⟩
      unfold nxtE
      rw [p5.cell (cell_lt ca), ca]
      dsimp only
      rw [List.getElem?_eq_none (by rw [aa.len, List.length_map]; exact Nat.le_refl _)]
      rfl) xs.length 0 L [] s4 (by omega) (by show _ < 16777216; omega) ⟨Pre.refl _, w4, [], Fa', Fb', rfl, aa, ab4, by
        rw [List.nil_append, List.nodup_append]
        exact ⟨hna.2, hnb.2, fun x hx y hy e => by
          have h1 := n4.2 x (List.mem_cons_of_mem _ hx)
          have h2 := ab.mono (Q := fun v x F => At s2 b v x F) (fun _ _ _ _ h => h)
          have h3 := t2.lt y (List.mem_cons_of_mem _ hy)
          omega⟩, fun k hk => by
        rw [List.nil_append, List.mem_append] at hk
        rcases hk with hk | hk
        · have h1 := n4.2 k (List.mem_cons_of_mem _ hk)
          have h2 := t4.lt k (List.mem_cons_of_mem _ hk)
          omega
        · have h1 := n2.2 k (List.mem_cons_of_mem _ hk)
          have h2 := t2.lt k (List.mem_cons_of_mem _ hk)
          have := p24.len
          omega⟩
    rw [List.take_length] at z1
    have T := at_newL z1
    have q5 := (P04.trans p5).len
    rw [e_vals]
    refine fn_at (n := s5.length) (s' := s5 ++ [some (.lst acc)]) ?_ rfl (by omega) ((P04.trans p5).trans (Pre.app _ _)) (wf_newL w5 z1) T ⟨List.nodup_cons.mpr ⟨fun hm => ?_, (List.nodup_append.mp z4).1⟩, fun k hk => ?_⟩
    · have hne : nE (eCall (Γ n) 24 [e2 subI (eVar 0) (eC (.int 1)), eSlice true (eVar 1) none (some (eVar 2))]) [some (.t (Kd.pair a b).t), some (.loc m), some (iv (a.wid : Nat)), some (.loc m2), none, none, none, none, none] s2 = .ok (nxtE m1) s4 := by
        unfold nE
        rw [bind_eq]
        simp only [p_call, p_vals, p_vals0, p_e2, p_var0, p_eC, p_ok, k_pair1, p_slice01, p_var1, p_var2, p_getI, sl1, r1]
        rw [ca]
      simp [f_values_of, start, hW, sl2, r2, compN_eq, hne, wipeE, hc]
    · have := (z5 _ (List.mem_append_left _ hm)).2; omega
    · rcases List.mem_cons.mp hk with rfl | hk
      · omega
      · exact (z5 _ (List.mem_append_left _ hk)).1
  | .seq a, n, xs, v, G, hn, hk, hf, s, hw, hv => by
    have hn' : a.dep + 1 ≤ n := hn
    have hk' : 1 + a.wid ≤ 1000000 := hk
    have hlen := hf.len
    obtain ⟨n, rfl⟩ : ∃ m, n = m + 1 := ⟨n - 1, by omega⟩
    obtain ⟨m, vs, G1, rfl, c1, _, _, a1, rfl⟩ := at_items hv
    obtain ⟨l0, rest, F1, F2, rfl, h1, h2, rfl⟩ := a1.cons_inv
    obtain ⟨m0, ls, G2, rfl, c0, _, _, a0, rfl⟩ := at_items h1
    obtain ⟨els, _⟩ := a0.ints_eq
    have g0 : ∀ s', Pre s s' → subI (.loc m) (.t (.int 0)) s' = .ok (.loc m0) s' := fun s' h => getC (j := 0) (by rw [h.cell (cell_lt c1)]; exact c1) rfl
    have sl1 := sliceC c1 (some ((1 : Nat) : Int)) none
    rw [slice_drop (by simp)] at sl1
    have sl1 : sliceV true (.loc m) (some 1) none s = .ok (.loc s.length) (s ++ [some (.lst rest)]) := sl1
    have w1 := wf_newL hw h2
    have t1 := at_newL h2
    have p1 := Pre.app s [some (Cell.lst rest)]
    generalize hs1 : s ++ [some (Cell.lst rest)] = s1 at sl1 w1 t1 p1
    obtain ⟨vi, s2, Fi, r2, p2, w2, t2, n2⟩ := valsC a n (List.flatten xs) _ _ (by omega) (by omega) hf.inn s1 w1 t1
    obtain ⟨mi, is, Fi', rfl, ci, _, _, ai, rfl⟩ := at_items t2
    have hil := ai.len
    have P02 := p1.trans p2
    have l2 := P02.len
    have hmi := cell_lt ci
    have hnd := List.nodup_cons.mp n2.1
    have hlens : (ni (List.map List.length xs)).length = xs.length := by simp [ni]
    have P3 := Pre.app s2 [some (Cell.lst [])]
    obtain ⟨ρ', s5, hc, p5, w5, acc, x8, F, R, rfl, c5, z1, z2, z3, z4⟩ := forN_ix (nxt := nxtL m0) (g := gVar 8) (b := sSeq (sExpr (e2c lstC appendV (eVar 7) (eSlice true (eVar 6) (some (eVar 4)) (some (e2 (addV false) (eVar 4) (eVar 8)))))) (sAsg (e2 (addV false) (eVar 4) (eVar 8)) (gVar 4))) (n := xs.length)
      (fun j ρ s' => Pre s2 s' ∧ Wf s' ∧ ∃ acc x8 F R, ρ = [some (.t (Kd.seq a).t), some (.loc m), none, none, some (iv (sta (List.map List.length xs) j : Nat)), none, some (.loc mi), some (.loc s2.length), x8] ∧ s'.cell s2.length = some (.lst acc) ∧ Al (At s' (.seq a)) acc (xs.take j) F ∧ Al (At s' a) (is.drop (sta (List.map List.length xs) j)) ((List.flatten xs).drop (sta (List.map List.length xs) j)) R ∧ (F ++ R).Nodup ∧ ∀ k ∈ F ++ R, s.length ≤ k ∧ k < s'.length ∧ k ≠ s2.length) (by
      rintro j hj ρ s5 ⟨p5, w5, acc, x8, F, R, rfl, c5, z1, z2, z3, z4⟩
      have hle := sta_le (List.map List.length xs) j (by rw [List.length_map]; exact hj)
      have e1 : (List.map List.length xs).getD j 0 = xs[j].length := by rw [List.getD_eq_getElem?_getD, List.getElem?_map, List.getElem?_eq_getElem hj]; rfl
      rw [e1] at hle
      have e4 : sta (List.map List.length xs) (j + 1) = sta (List.map List.length xs) j + xs[j].length := by
        unfold sta
        rw [List.take_succ, List.sum_append, List.getElem?_map, List.getElem?_eq_getElem hj]
        simp
      have nx : nxtL m0 j s5 = some (some (iv (xs[j].length : Nat), s5)) := by
        unfold nxtL
        rw [(P02.trans p5).cell (cell_lt c0), c0]
        dsimp only
        rw [els, List.getElem?_map]
        have : (ni (List.map List.length xs))[j]? = some ((xs[j].length : Nat) : Int) := by
          unfold ni; rw [List.getElem?_map, List.getElem?_map, List.getElem?_eq_getElem hj]; rfl
        rw [this]; rfl
      have ci5 : s5.cell mi = some (.lst is) := by rw [p5.cell hmi]; exact ci
      have hout := cell_lt c5
      have sl := sliceC ci5 (some (sta (List.map List.length xs) j : Nat)) (some ((sta (List.map List.length xs) j : Nat) + ((xs[j].length : Nat) : Int)))
      rw [slice_nat (by rw [hil, List.length_flatten]; exact hle)] at sl
      obtain ⟨R1, R2, y1, y2, rfl⟩ := z2.split xs[j].length
      rw [flat_at xs j hj] at y1
      rw [List.drop_drop, List.drop_drop] at y2
      have T := at_newL y1
      have w6 := wf_newL w5 y1
      have p6 := Pre.app s5 [some (Cell.lst ((is.drop (sta (List.map List.length xs) j)).take xs[j].length))]
      generalize hs6 : s5 ++ [some (Cell.lst ((is.drop (sta (List.map List.length xs) j)).take xs[j].length))] = s6 at sl T w6 p6
      have l6 : s6.length = s5.length + 1 := by rw [← hs6]; simp
      have c6 : s6.cell s2.length = some (.lst acc) := by rw [p6.cell hout]; exact c5
      have hacc : acc.length < L := by
        rw [z1.len, List.length_take]; show _ < 16777216; omega
      have ap : appendV (.loc s2.length) (.loc s5.length) s6 = .ok (.t .non) (s6.set s2.length (some (.lst (acc ++ [.loc s5.length])))) := by
        unfold appendV; dsimp only; rw [c6]; dsimp only; rw [if_pos hacc]; rfl
      have lc : lstC (.loc s2.length) s5 = .ok () s5 := by unfold lstC; dsimp only; rw [c5]
      have cs : ∀ k, k ≠ s2.length → Store.cell (s6.set s2.length (some (.lst (acc ++ [.loc s5.length])))) k = s6.cell k := fun k hk => by
        rw [cell_set (by rw [l6]; omega), if_neg hk]
      have lift : ∀ {k : Kd} {v : Val} {x : k.V} {G : List Nat}, (∀ q ∈ G, q ∈ F ++ (R1 ++ R2)) → At s5 k v x G → At (s6.set s2.length (some (.lst (acc ++ [.loc s5.length])))) k v x G := fun hG h => (h.pre p6).mono fun q hq => cs q (z4 q (hG q hq)).2.2
      have T' : At (s6.set s2.length (some (.lst (acc ++ [.loc s5.length])))) (.seq a) (.loc s5.length) xs[j] (s5.length :: R1) := T.mono fun q hq => by
        rcases List.mem_cons.mp hq with rfl | hq
        · exact cs _ (by omega)
        · exact cs q (z4 q (by simp [hq])).2.2
      refine ⟨_, s5, _, s5, [some (.t (Kd.seq a).t), some (.loc m), none, none, some (iv (sta (List.map List.length xs) (j + 1) : Nat)), none, some (.loc mi), some (.loc s2.length), some (iv (xs[j].length : Nat))], s6.set s2.length (some (.lst (acc ++ [.loc s5.length]))), nx, rfl, ?_, ?_, ?_, acc ++ [.loc s5.length], _, F ++ (s5.length :: R1), R2, rfl, ?_, ?_, ?_, ?_, ?_⟩
      · simp only [List.set, p_seq2, p_sexpr, p_e2c, p_var7, p_ok, lc, p_slice2, p_var6, p_var4, p_getI, p_e2, p_var8, p_add, sl, ap, p_sok, then_nx, p_asgV, e4, Int.natCast_add]
      · unfold Pre
        rw [List.take_set_of_le (Nat.le_refl _)]
        exact p5.trans p6
      · refine w6.set fun q hq => ?_
        injection hq with hq
        subst hq
        show (acc ++ [Val.loc s5.length]).all (Val.below s6.length) = true
        rw [List.all_append, belows_up p6.len z1.below]
        simp [Val.below, l6]
      · rw [cell_set (by rw [l6]; omega), if_pos rfl]
      · rw [List.take_succ, List.getElem?_eq_getElem hj]
        exact (z1.mono fun v x G hG h => lift (fun q hq => List.mem_append_left _ (hG q hq)) h).app (Al.one T')
      · rw [e4]
        exact y2.mono fun v x G hG h => lift (fun q hq => by simp [hG q hq]) h
      · refine nodup_ins z3 (p := s5.length) (fun hp => by have := (z4 _ hp).2; omega) fun k => ?_
        simp only [List.count_append, List.count_cons, beq_iff_eq]
        omega
      · intro k hk
        rw [List.length_set, l6]
        simp only [List.mem_append, List.mem_cons] at hk
        rcases hk with (hk | rfl | hk) | hk
        · have := z4 k (by simp [hk]); omega
        · have := (P02.trans p5).len; omega
        all_goals (have := z4 k (by simp [hk]); omega)) (by
      rintro ρ s5 ⟨p5, _⟩
      unfold nxtL
      rw [(P02.trans p5).cell (cell_lt c0), c0]
      dsimp only
      rw [els, List.getElem?_eq_none (by rw [List.length_map, hlens]; exact Nat.le_refl _)]
      rfl) xs.length 0 whileMax [some (.t (Kd.seq a).t), some (.loc m), none, none, some (iv 0), none, some (.loc mi), some (.loc s2.length), none] (s2 ++ [some (.lst [])]) (by omega) (by show _ < 100000000; omega) ⟨P3, w2.cons rfl, [], none, [], Fi', rfl, e_cell _, rfl, by
        show Al (At _ a) (is.drop 0) ((List.flatten xs).drop 0) Fi'
        exact ai.mono fun _ _ _ _ h => h.pre P3, by simpa using hnd.2, fun k hk => by
        rw [List.nil_append] at hk
        have h1 := n2.2 k (List.mem_cons_of_mem _ hk)
        have h2 := t2.lt k (List.mem_cons_of_mem _ hk)
        have := p1.len
        rw [List.length_append, List.length_singleton]
        omega⟩
    rw [List.take_length] at z1
    have q5 := (P02.trans p5).len
    rw [e_vals]
    refine fn_at (n := s2.length) (s' := s5) ?_ rfl l2 (P02.trans p5) w5 ⟨_, _, _, rfl, c5, z1, rfl⟩ ⟨List.nodup_cons.mpr ⟨fun hm => ?_, (List.nodup_append.mp z3).1⟩, fun k hk => ?_⟩
    · have hnv : nV (e2 subI (eVar 1) (eC (.int 0))) [some (.t (Kd.seq a).t), some (.loc m), none, none, some (iv 0), none, some (.loc mi), some (.loc s2.length), none] (s2 ++ [some (.lst [])]) = .ok (nxtL m0) (s2 ++ [some (.lst [])]) := by
        unfold nV
        rw [bind_eq]
        simp only [p_e2, p_var1, p_eC, p_ok, g0 _ (P02.trans P3)]
        rw [(P02.trans P3).cell (cell_lt c0), c0]
      have hfn : sForN (nV (e2 subI (eVar 1) (eC (.int 0)))) (gVar 8) (sSeq (sExpr (e2c lstC appendV (eVar 7) (eSlice true (eVar 6) (some (eVar 4)) (some (e2 (addV false) (eVar 4) (eVar 8)))))) (sAsg (e2 (addV false) (eVar 4) (eVar 8)) (gVar 4))) [some (.t (Kd.seq a).t), some (.loc m), none, none, some (iv 0), none, some (.loc mi), some (.loc s2.length), none] (s2 ++ [some (.lst [])]) = .nx [some (.t (Kd.seq a).t), some (.loc m), none, none, some (iv (sta (List.map List.length xs) xs.length : Nat)), none, some (.loc mi), some (.loc s2.length), x8] s5 := by
        unfold sForN
        rw [hnv]
        exact hc
      simp [f_values_of, start, sl1, r2, hfn]
    · exact (z4 _ (List.mem_append_left _ hm)).2.2 rfl
    · rcases List.mem_cons.mp hk with rfl | hk
      · omega
      · exact (z4 _ (List.mem_append_left _ hk)).1
end k05
end Fl
set_option Elab.async false
set_option linter.all false
set_option maxRecDepth 100000
namespace Fl
/-! ### through cells -/
def Kd.sz : (k : Kd) → k.V → Nat
  | .num, _ => 0
  | .pair a b, p => 3 + a.sz p.1 + b.sz p.2
  | .seq a, xs => 1 + (List.map (fun x => 1 + a.sz x) xs).sum
theorem deeps_step (s : Store) (f : Nat) (v : Val) (r : List Val) : deeps s (f + 1) (v :: r) = (match deep s f v with
  | some d => match deeps s f r with
    | some ts => some (d :: ts)
    | none => none
  | none => none) := by
  rw [deeps]
  all_goals rfl
theorem at_deep {s : Store} : ∀ (k : Kd) (v : Val) (x : k.V) (F : List Nat) (f : Nat), At s k v x F → k.sz x ≤ f → deep s f v = some (k.e x)
  | .num, v, i, F, f, h, _ => by rw [h.1, deep]; rfl
  | .pair a b, v, p, F, f, ⟨n, va, vb, Fa, Fb, h1, h2, h3, h4, h5⟩, hf => by
    have hf : 3 + a.sz p.1 + b.sz p.2 ≤ f := hf
    obtain ⟨f, rfl⟩ : ∃ g, f = g + 1 + 1 + 1 := ⟨f - 3, by omega⟩
    have e1 := at_deep a va p.1 Fa (f + 1) h3 (by omega)
    have e2 := at_deep b vb p.2 Fb f h4 (by omega)
    rw [h1, deep, h2]
    dsimp only
    rw [deeps_step, e1, deeps_step, e2]
    cases f <;> rfl
  | .seq a, v, xs, F, f, ⟨n, vs, F', h1, h2, h3, h4⟩, hf => by
    have hf : 1 + (List.map (fun x => 1 + a.sz x) xs).sum ≤ f := hf
    obtain ⟨f, rfl⟩ : ∃ g, f = g + 1 := ⟨f - 1, by omega⟩
    have key : ∀ (vs : List Val) (xs : List a.V) (F : List Nat) (f : Nat), Al (At s a) vs xs F → (List.map (fun x => 1 + a.sz x) xs).sum ≤ f → deeps s f vs = some (xs.map a.e) := by
      intro vs
      induction vs with
      | nil => intro xs F f h _; cases xs with
        | nil => cases f <;> rfl
        | cons _ _ => exact h.elim
      | cons v vs ih => intro xs F f h hf; cases xs with
        | nil => exact h.elim
        | cons x xs =>
          obtain ⟨F1, F2, a1, a2, rfl⟩ := h
          simp only [List.map_cons, List.sum_cons] at hf
          obtain ⟨f, rfl⟩ : ∃ g, f = g + 1 := ⟨f - 1, by omega⟩
          rw [deeps_step, at_deep a v x F1 f a1 (by omega), ih xs F2 f a2 (by omega)]
          rfl
    rw [h1, deep, h2]
    dsimp only
    rw [key vs xs F' f h3 (by omega)]
    rfl
theorem at_repr {s : Store} {k : Kd} {v : Val} {x : k.V} {F : List Nat} (h : At s k v x F) (hz : k.sz x ≤ 100000) (hr : reprOk (k.e x) = true) (hp : T.plain 60 (k.e x) = true) (hl : T.rlen (k.e x) ≤ 16777216) : reprV v s = .ok (.t (.rp (k.e x))) s := by
  unfold reprV
  rw [at_deep k v x F deepMax h hz]
  dsimp only
  rw [if_pos ⟨hr, hp, hl⟩]
theorem eq_plain {d : T} (h : T.plain 60 d = true) : T.eq? d d = some true := by
  have := eq_refl h []
  unfold eqV at this
  dsimp only at this
  cases e : T.eq? d d with
  | none => rw [e] at this; cases this
  | some b => rw [e] at this; cases b <;> first | rfl | cases this
theorem at_eq {s : Store} {k : Kd} {v : Val} {x : k.V} {F : List Nat} (h : At s k v x F) (hz : k.sz x ≤ 100000) (hp : T.plain 60 (k.e x) = true) : eqV v (.t (k.e x)) s = .ok true s := by
  have e1 := at_deep k v x F deepMax h hz
  have e2 : deep s deepMax (.t (k.e x)) = some (k.e x) := by rw [deep]
  cases v with
  | t d =>
    rw [deep] at e1
    injection e1 with e1
    rw [e1]
    exact eq_refl hp s
  | loc n =>
    show (match deep s deepMax (.loc n), deep s deepMax (.t (k.e x)) with
      | some c, some d => match T.eq? c d with
        | some r => R.ok r s
        | none => .bad
      | _, _ => .bad) = _
    rw [e1, e2]
    dsimp only
    rw [eq_plain hp]
  | scr n => have := h.below; cases this
  | ex n => have := h.below; cases this
/-! ### lists no longer than may be -/
def Kd.Lok : (k : Kd) → k.V → Prop
  | .num, _ => True
  | .pair a b, p => a.Lok p.1 ∧ b.Lok p.2
  | .seq a, xs => List.length xs < 16777216 ∧ ∀ x ∈ (xs : List a.V), a.Lok x
theorem Wf.keep {s : Store} {n : Nat} {c : Cell} (h : Wf s) (hc : c.below s.length = true) : Wf (s.set n (some c)) := h.set fun k hk => by
  injection hk with hk
  subst hk
  exact hc
theorem wf_cell {s : Store} (h : Wf s) {n : Nat} {c : Cell} (hc : s.cell n = some c) : c.below s.length = true := by
  unfold Wf Store.below at h
  rw [List.all_eq_true] at h
  have hlt := cell_lt hc
  have : s[n]? = some (some c) := by
    unfold Store.cell at hc
    rw [List.getElem?_eq_getElem hlt] at hc ⊢
    have hc : s[n] = some c := hc
    rw [hc]
  exact h (some c) (List.mem_of_getElem? this)
namespace k05
theorem baseK : BaseK Γ := ⟨fun _ => rfl, fun _ => rfl⟩
theorem fn_nx {N ps : Nat} {b : SM} {args : List Val} {s s' : Store} {ρ : Env} (h : b (start N args) s = .nx ρ s') (hl : args.length = ps) (hs : s'.length = s.length) : mkFn N ps b args s = .ok vN s' := by
  unfold mkFn
  rw [if_pos hl, h]
  dsimp only
  rw [trim_same hs]
theorem spoilC : ∀ (k : Kd) (n : Nat) (v : Val) (x : k.V) (F : List Nat) (s : Store), k.dep ≤ n → At s k v x F → F.Nodup → k.Lok x → Wf s → ∃ s', Γ n 104 [v] s = .ok vN s' ∧ s'.length = s.length ∧ Wf s' ∧ ∀ m, m ∉ F → s'.cell m = s.cell m
  | .num, n, v, i, F, s, hn, h, _, _, hw => by
    obtain ⟨n, rfl⟩ : ∃ m, n = m + 1 := ⟨n - 1, by have : 1 ≤ n := hn; omega⟩
    obtain ⟨rfl, _⟩ := h
    refine ⟨s, ?_, rfl, hw, fun _ _ => rfl⟩
    rw [e_spoil]
    have i1 : isiV "tuple" (.t (.int i)) s = .ok false s := rfl
    have i2 : isiV "list" (.t (.int i)) s = .ok false s := rfl
    refine fn_nx (ρ := [some (.t (.int i)), none]) ?_ rfl rfl
    simp [f_w_spoil, start, i1, i2]
  | .pair a b, n, v, p, F, s, hn, ⟨q, va, vb, Fa, Fb, h1, h2, h3, h4, h5⟩, hd, hl, hw => by
    have hn' : max a.dep b.dep + 1 ≤ n := hn
    obtain ⟨n, rfl⟩ : ∃ m, n = m + 1 := ⟨n - 1, by omega⟩
    subst h1
    subst h5
    obtain ⟨d1, d2⟩ := List.nodup_cons.mp hd
    obtain ⟨da, db, dab⟩ := List.nodup_append.mp d2
    obtain ⟨s1, r1, l1, w1, k1⟩ := spoilC a n va p.1 Fa s (by omega) h3 da hl.1 hw
    have h4' : At s1 b vb p.2 Fb := h4.mono fun m hm => k1 m fun hm' => dab m hm' m hm rfl
    obtain ⟨s2, r2, l2, w2, k2⟩ := spoilC b n vb p.2 Fb s1 (by omega) h4' db hl.2 w1
    have hqa : q ∉ Fa := fun h => d1 (List.mem_append_left _ h)
    have hqb : q ∉ Fb := fun h => d1 (List.mem_append_right _ h)
    have c1 : s1.cell q = some (.tup [va, vb]) := by rw [k1 q hqa]; exact h2
    have c2 : s2.cell q = some (.tup [va, vb]) := by rw [k2 q hqb]; exact c1
    refine ⟨s2, ?_, by omega, w2, fun m hm => ?_⟩
    · rw [e_spoil]
      have i1 : isiV "tuple" (.loc q) s = .ok true s := by unfold isiV; dsimp only; rw [h2]; rfl
      have i2 : isiV "list" (.loc q) s2 = .ok false s2 := by unfold isiV; dsimp only; rw [c2]; rfl
      have g0 : subI (.loc q) (.t (.int 0)) s = .ok va s := by unfold subI; dsimp only; rw [h2]; rfl
      have g1 : subI (.loc q) (.t (.int 1)) s1 = .ok vb s1 := by unfold subI; dsimp only; rw [c1]; rfl
      refine fn_nx (ρ := [some (.loc q), none]) ?_ rfl (by omega)
      simp [f_w_spoil, start, i1, g0, r1, g1, r2, i2]
    · simp only [List.mem_cons, List.mem_append, not_or] at hm
      rw [k2 m hm.2.2, k1 m hm.2.1]
  | .seq a, n, v, xs, F, s, hn, ⟨q, vs, F', h1, h2, h3, h4⟩, hd, hl, hw => by
    have hn' : a.dep + 1 ≤ n := hn
    obtain ⟨n, rfl⟩ : ∃ m, n = m + 1 := ⟨n - 1, by omega⟩
    subst h1
    subst h4
    obtain ⟨d1, d2⟩ := List.nodup_cons.mp hd
    have hvl := h3.len
    have hlen := hl.1
    obtain ⟨ρ', s1, hc, x1, R, rfl, w1, l1, c1, k1, _⟩ := forN_ix (nxt := nxtL q) (g := gVar 1) (b := sExpr (eCall (Γ n) 104 [eVar 1])) (n := vs.length)
      (fun j ρ s1 => ∃ x R, ρ = [some (.loc q), x] ∧ Wf s1 ∧ s1.length = s.length ∧ s1.cell q = some (.lst vs) ∧ (∀ m, m ∉ F' → s1.cell m = s.cell m) ∧ Al (At s1 a) (vs.drop j) (xs.drop j) R ∧ R.Nodup ∧ ∀ m ∈ R, m ∈ F') (by
      rintro j hj ρ s1 ⟨x, R, rfl, w1, l1, c1, k1, z, dz, mz⟩
      have hj' : j < xs.length := by rw [← hvl]; exact hj
      rw [drop_at' hj'] at z
      obtain ⟨y, r, R1, R2, e, y1, y2, rfl⟩ := z.cons_inv
      rw [drop_at' hj] at e
      injection e with e e'
      obtain ⟨dR1, dR2, dR⟩ := List.nodup_append.mp dz
      obtain ⟨s2, r2, l2, w2, k2⟩ := spoilC a n y xs[j] R1 s1 (by omega) y1 dR1 (hl.2 _ (List.getElem_mem hj')) w1
      refine ⟨y, s1, _, s1, [some (.loc q), some y], s2, ?_, rfl, ?_, _, R2, rfl, w2, by omega, ?_, fun m hm => ?_, ?_, dR2, fun m hm => mz m (List.mem_append_right _ hm)⟩
      · unfold nxtL
        rw [c1]
        dsimp only
        rw [List.getElem?_eq_getElem hj, e]; rfl
      · simp [List.set, r2]
      · rw [k2 q fun h => d1 (mz q (List.mem_append_left _ h))]; exact c1
      · rw [k2 m fun h => hm (mz m (List.mem_append_left _ h)), k1 m hm]
      · rw [e']
        exact y2.mono fun v x G hG h => h.mono fun m hm => k2 m fun h' => dR m h' m (hG m hm) rfl) (by
      rintro ρ s1 ⟨x, R, rfl, w1, l1, c1, _⟩
      unfold nxtL
      rw [c1]
      dsimp only
      rw [List.getElem?_eq_none (Nat.le_refl _)]; rfl) vs.length 0 whileMax [some (.loc q), none] s (by omega) (by show _ < 100000000; omega) ⟨none, F', rfl, hw, rfl, h2, fun _ _ => rfl, h3, d2, fun _ h => h⟩
    have hq := cell_lt c1
    refine ⟨s1.set q (some (.lst (vs ++ [.t (.int 5)]))), ?_, by rw [List.length_set]; exact l1, w1.keep ?_, fun m hm => ?_⟩
    · rw [e_spoil]
      have i1 : isiV "tuple" (.loc q) s = .ok false s := by unfold isiV; dsimp only; rw [h2]; rfl
      have i2 : isiV "list" (.loc q) s = .ok true s := by unfold isiV; dsimp only; rw [h2]; rfl
      have hnv : nV (eVar 0) [some (.loc q), none] s = .ok (nxtL q) s := by
        unfold nV
        rw [bind_eq, p_var0, p_ok]
        dsimp only
        rw [h2]
      have hfn : sForN (nV (eVar 0)) (gVar 1) (sExpr (eCall (Γ n) 104 [eVar 1])) [some (.loc q), none] s = .nx [some (.loc q), x1] s1 := by
        unfold sForN
        rw [hnv]
        exact hc
      have lc : lstC (.loc q) s1 = .ok () s1 := by unfold lstC; dsimp only; rw [c1]
      have ap : appendV (.loc q) (.t (.int 5)) s1 = .ok (.t .non) (s1.set q (some (.lst (vs ++ [.t (.int 5)])))) := by
        unfold appendV; dsimp only; rw [c1]; dsimp only; rw [if_pos (by rw [hvl]; exact hlen)]; rfl
      refine fn_nx (ρ := [some (.loc q), x1]) ?_ rfl (by rw [List.length_set]; exact l1)
      simp [f_w_spoil, start, i1, i2, hfn, lc, ap]
    · have := wf_cell w1 c1
      show (vs ++ [Val.t (.int 5)]).all (Val.below s1.length) = true
      rw [List.all_append, show vs.all (Val.below s1.length) = true from this]; rfl
    · simp only [List.mem_cons, not_or] at hm
      rw [cell_set hq, if_neg hm.1, k1 m hm.2]
end k05
end Fl
set_option Elab.async false
set_option linter.all false
set_option maxRecDepth 100000
namespace Fl.k05
theorem lanesC : ∀ (k : Kd) (n : Nat) (xs : List k.V), k.dep ≤ n → k.wid ≤ 1000000 → k.Fit xs → ∀ s, Wf s → Γ n 105 [.t k.t, .t (.lst (xs.map k.e))] s = .ok (.t (lv (k.vecs xs))) s
  | .num, n, xs, hn, hk, hf, s, hw => by
    obtain ⟨n, rfl⟩ : ∃ m, n = m + 1 := ⟨n - 1, by have : 1 ≤ n := hn; omega⟩
    rw [e_lanes]
    refine fn_Rt rfl hw ?_
    have c1 := comp_tt (i := 2) (f := eVar 2) (ρ := [some (.t Kd.num.t), some (.t (.lst (xs.map Kd.num.e))), none, none, none, none, none]) (s := s) Kd.num.e Kd.num.e xs fun p _ => by rfl
    simp [f_w_lanes, start, wipeE, lst_iter, -List.map_map, c1]
    exact Rt.self
  | .pair a b, n, xs, hn, hk, hf, s, hw => by
    have hn' : max a.dep b.dep + 1 ≤ n := hn
    have hk' : a.wid + b.wid ≤ 1000000 := hk
    obtain ⟨n, rfl⟩ : ∃ m, n = m + 1 := ⟨n - 1, by omega⟩
    have h1 := lanesC a n (xs.map Prod.fst) (by omega) (by omega) hf.fst s hw
    have h2 := lanesC b n (xs.map Prod.snd) (by omega) (by omega) hf.snd s hw
    rw [e_lanes]
    refine fn_Rt rfl hw ?_
    have c1 : ∀ x3, (compL (gVar 4) none (e2 subI (eVar 4) (eC (.int 0))) [some (.t (Kd.pair a b).t), some (.t (.lst (xs.map (Kd.pair a b).e))), none, x3, none, none, none] ((xs.map (Kd.pair a b).e).map .t) s).bind (newL false) = .ok (.t (.lst ((xs.map Prod.fst).map a.e))) s := fun x3 => by
      refine (comp_tt (i := 4) (f := e2 subI (eVar 4) (eC (.int 0))) (Kd.pair a b).e (fun p => a.e p.1) xs fun p _ => by rfl).trans ?_
      rw [List.map_map]
      rfl
    have c2 : ∀ x3, (compL (gVar 4) none (e2 subI (eVar 4) (eC (.int 1))) [some (.t (Kd.pair a b).t), some (.t (.lst (xs.map (Kd.pair a b).e))), none, x3, none, none, none] ((xs.map (Kd.pair a b).e).map .t) s).bind (newL false) = .ok (.t (.lst ((xs.map Prod.snd).map b.e))) s := fun x3 => by
      refine (comp_tt (i := 4) (f := e2 subI (eVar 4) (eC (.int 1))) (Kd.pair a b).e (fun p => b.e p.2) xs fun p _ => by rfl).trans ?_
      rw [List.map_map]
      rfl
    have ha : addV false (.t (lv (a.vecs (xs.map Prod.fst)))) (.t (lv (b.vecs (xs.map Prod.snd)))) s = .ok (.t (lv ((Kd.pair a b).vecs xs))) s := by
      rw [add_tt _ _ _ _ (by rw [List.length_map, List.length_map, Kd.vecs_len, Kd.vecs_len]; show _ ≤ 16777216; omega), newL_t, ← List.map_append]
      rfl
    simp [f_w_lanes, start, wipeE, lst_iter, -List.map_map, c1, c2, h1, h2, ha]
    exact Rt.self
  | .seq a, n, xs, hn, hk, hf, s, hw => by
    have hn' : a.dep + 1 ≤ n := hn
    have hk' : 1 + a.wid ≤ 1000000 := hk
    obtain ⟨n, rfl⟩ : ∃ m, n = m + 1 := ⟨n - 1, by omega⟩
    have h1 := lanesC a n (List.flatten xs) (by omega) (by omega) hf.inn s hw
    have hfl := hf.inn.len
    rw [e_lanes]
    refine fn_Rt rfl hw ?_
    have c1 : ∀ x5, (compL (gVar 6) none (Fl.e1 lenV (eVar 6)) [some (.t (Kd.seq a).t), some (.t (.lst (xs.map (Kd.seq a).e))), none, none, none, x5, none] ((xs.map (Kd.seq a).e).map .t) s).bind (newL false) = .ok (.t (li (ni (List.map List.length xs)))) s := fun x5 => by
      have z := comp_tt (i := 6) (f := Fl.e1 lenV (eVar 6)) (ρ := [some (.t (Kd.seq a).t), some (.t (.lst (xs.map (Kd.seq a).e))), none, none, none, x5, none]) (s := s) (Kd.seq a).e (fun p => T.int (List.length p : Nat)) xs fun p _ => by
        show R.ok (iv ((List.map a.e p).length : Nat)) s = _
        rw [List.length_map]
      rw [z]
      show _ = R.ok (Val.t (.lst ((List.map (fun (k : Nat) => (k : Int)) (List.map List.length xs)).map T.int))) s
      rw [List.map_map, List.map_map]
      rfl
    have ha : addV false (.t (.lst [li (ni (List.map List.length xs))])) (.t (lv (a.vecs (List.flatten xs)))) s = .ok (.t (lv ((Kd.seq a).vecs xs))) s := by
      rw [add_tt _ _ _ _ (by rw [List.length_map, Kd.vecs_len]; show 1 + _ ≤ 16777216; omega), newL_t]
      rfl
    have e0 : start 7 [.t (Kd.seq a).t, .t (.lst (xs.map (Kd.seq a).e))] = [some (.t (Kd.seq a).t), some (.t (.lst (xs.map (Kd.seq a).e))), none, none, none, none, none] := rfl
    unfold f_w_lanes
    rw [e0]
    simp only [p_seq2, p_if, p_tEq, p_e2, p_var0, p_ok, p_eC, k_seq, p_eqS, p_sok, show (("seq" : String) == "num") = false by decide, show (("seq" : String) == "pair") = false by decide, Bool.false_eq_true, if_false, p_nil, then_nx, p_asgV, p_lst, p_vals0, newL0, List.set, p_for, p_iV, p_var1, lst_iter]
    rw [show (xs.map (Kd.seq a).e).map Val.t = xs.map fun v => Val.t ((Kd.seq a).e v) by rw [List.map_map]; rfl]
    generalize hc : forL _ _ _ _ _ = o
    obtain ⟨ρ', s', rfl, x6, rfl, rfl⟩ := for_pre hc (fun p ρ s' => ∃ x6, ρ = [some (.t (Kd.seq a).t), some (.t (.lst (xs.map (Kd.seq a).e))), none, none, none, some (.t (.lst ((List.flatten p).map a.e))), x6] ∧ s' = s) ⟨none, rfl, rfl⟩ (by
      rintro p x q e ρ s' ⟨x6, rfl, rfl⟩
      have ad : addV false (.t (.lst ((List.flatten p).map a.e))) (.t ((Kd.seq a).e x)) s' = .ok (.t (.lst ((List.flatten (p ++ [x])).map a.e))) s' := by
        show addV false (.t (.lst ((List.flatten p).map a.e))) (.t (.lst (List.map a.e x))) s' = _
        have hle : (List.flatten p).length + List.length x ≤ 8000000 := by
          have := hfl
          rw [e, List.flatten_append, List.flatten_cons, List.length_append, List.length_append] at this
          omega
        rw [add_tt _ _ _ _ (by rw [List.length_map, List.length_map]; show _ ≤ 16777216; omega), newL_t, ← List.map_append]
        congr 4
        simp
      refine ⟨_, _, [some (.t (Kd.seq a).t), some (.t (.lst (xs.map (Kd.seq a).e))), none, none, none, some (.t (.lst ((List.flatten (p ++ [x])).map a.e))), some (.t ((Kd.seq a).e x))], s', rfl, ?_, _, rfl, rfl⟩
      simp only [List.set, p_asgV, p_e2, p_var5, p_ok, p_var6, ad, p_sok])
    simp only [then_nx, p_ret, p_e2, p_lst, p_vals, p_vals0, p_comp, p_iV, p_var1, p_ok, lst_iter, wipeE, List.set, c1, newL1, p_call, p_var0, p_eC, k_seq1, p_var5, h1, ha, p_sok]
    exact Rt.self
theorem sml_lok : ∀ (k : Kd) (x : k.V), k.Sml x → k.Lok x
  | .num, _, _ => trivial
  | .pair a b, p, h => ⟨sml_lok a p.1 h.1, sml_lok b p.2 h.2⟩
  | .seq a, xs, h => ⟨by have := h.1; omega, fun x hx => sml_lok a x (h.2 x hx)⟩
def szb : Nat → Nat
  | 0 => 0
  | d + 1 => 3 * szb d + 9
theorem szb_le {d e : Nat} (h : d ≤ e) : szb d ≤ szb e := by
  induction h with
  | refl => exact Nat.le_refl _
  | step h ih => refine Nat.le_trans ih ?_; show _ ≤ 3 * szb _ + 9; omega
theorem sum_le {α : Type} (f : α → Nat) (B : Nat) : ∀ xs : List α, (∀ x ∈ xs, f x ≤ B) → (xs.map f).sum ≤ B * xs.length
  | [], _ => Nat.zero_le _
  | x :: r, h => by
    have := sum_le f B r fun y hy => h y (List.mem_cons_of_mem _ hy)
    have := h x List.mem_cons_self
    rw [List.map_cons, List.sum_cons, List.length_cons, Nat.mul_succ]; omega
theorem sz_sml : ∀ (k : Kd) (x : k.V), k.Sml x → k.sz x ≤ szb k.dep
  | .num, _, _ => Nat.zero_le _
  | .pair a b, p, h => by
    have h1 := sz_sml a p.1 h.1
    have h2 := sz_sml b p.2 h.2
    have m1 := szb_le (Nat.le_max_left a.dep b.dep)
    have m2 := szb_le (Nat.le_max_right a.dep b.dep)
    show 3 + a.sz p.1 + b.sz p.2 ≤ 3 * szb (max a.dep b.dep) + 9
    omega
  | .seq a, xs, h => by
    have := sum_le (fun x => 1 + a.sz x) (1 + szb a.dep) xs fun x hx => by
      have := sz_sml a x (h.2 x hx); omega
    have h3 := h.1
    have : (1 + szb a.dep) * List.length xs ≤ (1 + szb a.dep) * 3 := Nat.mul_le_mul_left _ h3
    show 1 + (List.map (fun x => 1 + a.sz x) xs).sum ≤ 3 * szb a.dep + 9
    omega
abbrev kVV : Kd := .seq (.seq .num)
theorem law1 (ns : List Int) (h : ns.length ≤ 63) : ∃ s', f_law (Γ 590) (start 9 [.scr ns]) [] = .rt (.t (.bl true)) s' := by
  obtain ⟨s0, hs0, h0⟩ := b_state base 589 h
  obtain ⟨k, s1, hk, hs1, h1⟩ := b_kind base baseK 4 584 hs0
  have h1 : Γ 590 81 [.loc 1, .t (.int 4)] s0 = .ok (.t k.t) s1 := h1
  obtain ⟨N, s2, hN, hs2, h2⟩ := b_drawN base 589 hs1 (k := 6) (by decide) (by decide)
  have h2 : Γ 590 75 [.loc 1, .t (.int 6)] s1 = .ok (iv (N : Nat)) s2 := h2
  generalize hc : eCompR false [4] (iRange1 (eCall (Γ 590) 75 [eVar 1, eC (.int 6)])) (gVar 4) none (eCall (Γ 590) 82 [eVar 1, eVar 2]) [some (.scr ns), some (.loc 1), some (.t k.t), none, none, none, none, none, none] s1 = o
  obtain ⟨xs, s3, hxs, hxn, hs3, rfl⟩ := rdraw hc (n := N) (by simp [h2]) (by omega) hs2 k.e k.Sml (fun j hj s hs => by
    obtain ⟨y, s', hy, hs', e⟩ := b_value base baseK k 590 (by omega) hs
    exact ⟨y, s', hy, hs', by simp [wipeE, e]⟩)
  have w3 : Wf s3 := by obtain ⟨c, m, _, rfl⟩ := hs3; exact wf_St (by simp)
  have hw32 : k.wid ≤ 32 := Nat.le_trans (Kd.wid_bd k) (Nat.le_trans (Nat.pow_le_pow_right (by decide) hk) (by decide))
  have hbd := Kd.vecs_bd k xs 5 (by omega) hxs
  have h3 : (3 : Nat) ^ k.dep ≤ 243 := Nat.le_trans (Nat.pow_le_pow_right (by decide) hk) (by decide)
  have hbd : ∀ v ∈ k.vecs xs, v.length ≤ 1215 := fun v hv => by
    have := hbd v hv
    have : 5 * 3 ^ k.dep ≤ 5 * 243 := Nat.mul_le_mul_left _ h3
    omega
  have hf : k.Fit xs := fun v hv => by have := hbd v hv; omega
  obtain ⟨v1, s4, F1, r1, p1, w4, t1, n1⟩ := vecsC k 590 xs (by omega) (by omega) hf s3 w3
  have hl := fun s hw => lanesC k 590 xs (by omega) (by omega) hf s hw
  obtain ⟨v2, s5, F2, r2, p2, w5, t2, n2⟩ := valsC k 590 xs v1 F1 (by omega) (by omega) hf s4 w4 t1
  -- what may be shown
  have hpv : T.plain 60 (kVV.e (k.vecs xs)) = true := plain_le (by decide) (Kd.plain_e kVV (k.vecs xs))
  have hpx : T.plain 60 ((Kd.seq k).e xs) = true := plain_le (by show k.dep + 1 ≤ 60; omega) (Kd.plain_e (.seq k) xs)
  have e64 : (2:Nat)^64 = 18446744073709551616 := rfl
  have hvi : ∀ v ∈ k.vecs xs, ∀ i ∈ v, i.natAbs < 2 ^ 64 := by
    have key : ∀ (k : Kd) (xs : List k.V), (∀ x ∈ xs, k.Sml x) → ∀ v ∈ k.vecs xs, ∀ i ∈ v, i.natAbs < 2 ^ 64 := by
      intro k
      induction k with
      | num =>
        intro xs h v hv i hi
        have hv : v ∈ [xs] := hv
        rw [List.mem_singleton.mp hv] at hi
        have : Inr i := h i hi
        unfold Inr at this
        omega
      | pair a b iha ihb =>
        intro xs h v hv i hi
        rcases List.mem_append.mp hv with hv | hv
        · exact iha _ (fun x hx => by obtain ⟨p, hp, rfl⟩ := List.mem_map.mp hx; exact (h p hp).1) v hv i hi
        · exact ihb _ (fun x hx => by obtain ⟨p, hp, rfl⟩ := List.mem_map.mp hx; exact (h p hp).2) v hv i hi
      | seq a iha =>
        intro xs h v hv i hi
        rcases List.mem_cons.mp hv with rfl | hv
        · unfold ni at hi
          obtain ⟨n, hn, rfl⟩ := List.mem_map.mp hi
          obtain ⟨x, hx, rfl⟩ := List.mem_map.mp hn
          have := (h x hx).1
          omega
        · exact iha _ (fun x hx => by obtain ⟨y, hy, hxy⟩ := List.mem_flatten.mp hx; exact (h y hy).2 x hxy) v hv i hi
    exact key k xs hxs
  have hrv : T.rlen (kVV.e (k.vecs xs)) ≤ 16777216 := by
    have h1 : ∀ v ∈ k.vecs xs, T.rlen (.lst (List.map Kd.num.e v)) ≤ 87483 := fun v hv => by
      have := rlen_lst 70 (List.map Kd.num.e v) fun d hd => by
        obtain ⟨i, hi, rfl⟩ := List.mem_map.mp hd
        show T.rlen (.int i) ≤ 70
        rw [rlen_int (hvi v hv i hi)]
        exact Nat.le_refl _
      rw [List.length_map] at this
      have := hbd v hv; omega
    have := rlen_lst 87483 (List.map (Kd.seq .num).e (k.vecs xs)) fun d hd => by
      obtain ⟨v, hv, rfl⟩ := List.mem_map.mp hd
      exact h1 v hv
    rw [List.length_map, Kd.vecs_len] at this
    show T.rlen (.lst (List.map (Kd.seq .num).e (k.vecs xs))) ≤ _
    omega
  have hrl : Kd.rl 5 = 6030 := rfl
  have hrx : T.rlen ((Kd.seq k).e xs) ≤ 16777216 := by
    have hr : Kd.rl k.dep ≤ Kd.rl 5 := Kd.rl_le hk
    have := rlen_lst 6030 (List.map k.e xs) fun d hd => by
      obtain ⟨x, hx, rfl⟩ := List.mem_map.mp hd
      have := Kd.rlen_e k x (hxs x hx); omega
    rw [List.length_map] at this
    show T.rlen (.lst (List.map k.e xs)) ≤ _
    omega
  have hzv : kVV.sz (k.vecs xs) ≤ 100000 := by
    have h1 : ∀ v ∈ k.vecs xs, (fun v => 1 + (Kd.seq .num).sz v) v ≤ 1217 := fun v hv => by
      have := sum_le (fun x => 1 + Kd.num.sz x) 1 v fun x _ => Nat.le_refl 1
      have := hbd v hv
      show 1 + (1 + (List.map (fun x => 1 + Kd.num.sz x) v).sum) ≤ 1217
      omega
    have := sum_le (fun v => 1 + (Kd.seq .num).sz v) 1217 (k.vecs xs) h1
    rw [Kd.vecs_len] at this
    show 1 + (List.map (fun v => 1 + (Kd.seq .num).sz v) (k.vecs xs)).sum ≤ _
    omega
  have hzx : (Kd.seq k).sz xs ≤ 100000 := by
    have hz5 : szb 5 = 1089 := rfl
    have h1 : ∀ x ∈ xs, (fun x => 1 + k.sz x) x ≤ 1090 := fun x hx => by
      have := sz_sml k x (hxs x hx)
      have : szb k.dep ≤ szb 5 := szb_le hk
      show 1 + k.sz x ≤ 1090
      omega
    have := sum_le (fun x => 1 + k.sz x) 1090 xs h1
    show 1 + (List.map (fun x => 1 + k.sz x) xs).sum ≤ _
    omega
  have lokv : kVV.Lok (k.vecs xs) := ⟨by rw [Kd.vecs_len]; omega, fun v hv => ⟨by have := hbd v hv; omega, fun _ _ => trivial⟩⟩
  have lokx : (Kd.seq k).Lok xs := ⟨by omega, fun x hx => sml_lok k x (hxs x hx)⟩
  have rpx : ∀ s, reprV (.t (.lst (xs.map k.e))) s = .ok (.t (.rp ((Kd.seq k).e xs))) s := fun s => rp_run rfl hpx hrx s
  have t1' := t1.pre p2
  obtain ⟨s6, r6, l6, w6, k6⟩ := spoilC (.seq k) 590 v2 xs F2 s5 (by show k.dep + 1 ≤ _; omega) t2 n2.1 lokx w5
  have t1'' : At s6 kVV v1 (k.vecs xs) F1 := t1'.mono fun m hm => k6 m fun hm' => by
    have := t1.lt m hm
    have := n2.2 m hm'; omega
  obtain ⟨s7, r7, l7, w7, k7⟩ := spoilC kVV 590 v1 (k.vecs xs) F1 s6 (by decide) t1'' n1.1 lokv w6
  have rv4 := at_repr t1 hzv rfl hpv hrv
  have rv5 := at_repr t1' hzv rfl hpv hrv
  have rv6 := at_repr t1'' hzv rfl hpv hrv
  have ev4 := at_eq t1 hzv hpv
  have ex5 := at_eq t2 hzx hpx
  have hl4 := hl s4 w4
  have ev4 : eqV v1 (.t (lv (k.vecs xs))) s4 = .ok true s4 := by
    have e : kVV.e (k.vecs xs) = lv (k.vecs xs) := by
      show T.lst (List.map (Kd.seq .num).e (k.vecs xs)) = _
      rfl
    rw [← e]; exact ev4
  have ex5 : eqV v2 (.t (.lst (xs.map k.e))) s5 = .ok true s5 := ex5
  refine ⟨s7, ?_⟩
  have e0 : start 9 [.scr ns] = [some (.scr ns), none, none, none, none, none, none, none, none] := rfl
  unfold f_law
  rw [e0]
  simp only [p_seq2 (sAsg _ _), p_asgV, p_call, p_vals, p_vals0, p_varS, p_var0, p_ok, h0, p_sok, List.set, then_nx, p_eC, h1]
  rw [hc]
  simp only [p_sok, then_nx, List.set, p_asgV, p_e1, p_varS, p_var0, p_ok, rpx, p_seq2 (sAsg _ _), p_call, p_vals, p_vals0, r1]
  rw [p_seq2, p_if]
  simp only [p_tOr, p_tNe, p_e1, p_call, p_vals, p_vals0, p_varS, p_var0, p_ok, hl4, ev4, rpx, rp_eq, Bool.not_true, Bool.false_eq_true, if_false, p_sok, p_nil, then_nx]
  simp only [p_seq2 (sAsg _ _), p_asgV, p_e1, p_call, p_vals, p_vals0, p_varS, p_var0, p_ok, rv4, p_sok, then_nx, List.set, r2]
  rw [p_seq2, p_if]
  simp only [p_tOr, p_tNe, p_e1, p_varS, p_var0, p_ok, ex5, rv5, rp_eq, Bool.not_true, Bool.false_eq_true, if_false, p_sok, p_nil, then_nx]
  simp only [p_seq2 (sExpr _), p_sexpr, p_call, p_vals, p_vals0, p_varS, p_var0, p_ok, r6, p_sok, then_nx]
  rw [p_seq2, p_if]
  simp only [p_tNe, p_e1, p_varS, p_var0, p_ok, rv6, rp_eq, Bool.not_true, Bool.false_eq_true, if_false, p_sok, p_nil, then_nx]
  simp only [p_seq2, p_sexpr, p_call, p_vals, p_vals0, p_varS, p_var0, p_ok, r7, p_sok, then_nx, p_ret, p_eB, p_tEq, p_e1, rpx, rp_eq, p_vB]
theorem plain (ns : List Int) (h : ns.length ≤ 63) : ∃ s, Gam fds 591 80 [.scr ns] [] = .ok (vB true) s := by
  obtain ⟨s', h1⟩ := law1 ns h
  exact ⟨[], fn_long h1 rfl rfl trivial⟩
end Fl.k05
set_option Elab.async false
set_option linter.all false
set_option maxRecDepth 100000
set_option maxHeartbeats 0
namespace Fl.k05
theorem lx (fd : FD) (h : fds.lookup 80 = some fd) : fd.ps = [("_law_script" : PySem.Str)] := by
  have e : fds.lookup 80 = some fd_f_law := rfl
  rw [e] at h
  injection h with h
  subst h
  rfl
theorem lname : (HandSHeadRun.topDef Rw.prog 13).name = ("law" : PySem.Str) := by kernel_rfl
theorem lmem : ((HandSHeadRun.topDef Rw.prog 13).name, 80, 1) ∈ tb.fns := List.mem_of_getElem? (i := 11) (by kernel_rfl)
theorem ldf : (HandSHeadRun.topDef Rw.prog 13).params.defaults = [] := by kernel_rfl
end Fl.k05
set_option Elab.async false
set_option linter.all false
set_option maxRecDepth 100000
set_option maxHeartbeats 0
open PySem PySem.W PySem.Calls PyProof.Rows
theorem Fl.k05.walk : PySem.W.WalkO (view Fl.k05.Rw.prog [13]) Fl.k05.loose (XL (view Fl.k05.Rw.prog [13]) []) Fl.k05.hkL.says (PySem.Challenge.rw_flatsheaves_k05_layouts).row.toRowW (HandSHeadRun.topDef Fl.k05.Rw.prog 13) [] (fun f vs => PySem.call f vs) :=
  Fl.law_end (l := PySem.Challenge.rw_flatsheaves_k05_layouts) (x := ("_law_script" : PySem.Str)) rfl Fl.k05.ldf Fl.k05.tabok 80 590 (by decide) Fl.k05.lmem Fl.k05.lx Fl.k05.plain
set_option Elab.async false
set_option linter.all false
set_option maxRecDepth 100000
set_option maxHeartbeats 0
namespace Fl.k05
noncomputable def ob (s : PySem.W.SharedT) : He.AlD × Bool := obF 5 fa (fds.map (·.2.d)) (exAll tb ets) s
theorem ob_eq (s : PySem.W.SharedT) : ob s = hkL.obs s.abs := obF_eq _ _ _ _ s
end Fl.k05
open PySem PySem.W PySem.Calls PyProof.Rows
theorem PySem.Challenge.cw_flatsheaves_k05_layouts_holds : PySem.Challenge.rw_flatsheaves_k05_layouts.Holds := by
  w_on; o_law
  refine HandSHeadRun.head_any (r := OpenLaw.row PySem.Challenge.rw_flatsheaves_k05_layouts) (q := view Fl.k05.Rw.prog [13]) (H := Fl.k05.hkL) (ob := Fl.k05.ob) (M := 20000) (loose := Fl.k05.loose) (d := HandSHeadRun.topDef Fl.k05.Rw.prog 13) (kwd := [])
    Fl.k05.ob_eq ?a1 ?a2 Fl.k05.run ?a3 ?a4 ?a5 ?a6 ?a7 ?a8 ?a9 ?hw Fl.k05.walk
  case a1 => kernel_rfl
  case a2 => exact fun s => by kernel_rfl
  case a3 => kernel_rfl
  case a4 => kernel_rfl
  case a5 => kernel_rfl
  case a6 => kernel_rfl
  case a7 => first | assumption | decide +kernel
  case a8 => decide +kernel
  case a9 => exact ⟨rfl, rfl, rfl, rfl, rfl, by decide +kernel⟩
  case hw => w_witness2
